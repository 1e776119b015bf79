/-
  Memory in pieces that lie apart; ranges over functions. Conditions: stated at each theorem.
-/
import Derived.Test.YthhbhekccacmlaaAzZJ
set_option linter.unusedSimpArgs false
set_option linter.unusedVariables false
namespace Go.Az
open Go Go.Chz

/-! ### Pieces -/
structure Pc where
  foot : Option Nat
  ok : Hp → Prop
  loc : ∀ {H H' : Hp} {o : Option Nat}, Oth o H H' → (∀ i, foot = some i → o ≠ some i) → ok H → ok H'
  lt : ∀ {H : Hp} {i : Nat}, foot = some i → ok H → i < H.length
/-- A cell. -/
def pcC (i : Nat) (o : AObj) : Pc where
  foot := some i
  ok := fun H => H[i]? = some o
  loc := fun x hne hi => x.get hi (hne i rfl)
  lt := fun h hi => by injection h with h; subst h; exact (List.getElem?_eq_some_iff.1 hi).1
/-- A slice of the call's own. -/
def pcW {α : Type} (enc : α → List AV) (q : Nat) (e : TypeId) (s : AV) (l : List α) : Pc where
  foot := objOf s
  ok := fun H => Own enc q e H s l
  loc := fun x hne hO => hO.oth x hne
  lt := fun h hO => hO.lt h
class Sep (h : outParam Hp) (Y : Hp) (L : outParam (List Pc)) : Prop where
  ext : Ext h Y
  all : ∀ p ∈ L, p.ok Y
  low : ∀ p ∈ L, ∀ i, p.foot = some i → h.length ≤ i
  dis : L.Pairwise fun p q => ∀ i, p.foot = some i → q.foot ≠ some i
class MemC (L : List Pc) (i : Nat) (o : outParam AObj) : Prop where
  p : pcC i o ∈ L
class SetC (L : List Pc) (i : Nat) (o' : AObj) (L' : outParam (List Pc)) : Prop where
  p : ∃ k o, L[k]? = some (pcC i o) ∧ L' = L.set k (pcC i o')
instance {i : Nat} {o : AObj} {L : List Pc} : MemC (pcC i o :: L) i o := ⟨by simp⟩
instance (priority := low) {i : Nat} {o : AObj} {p : Pc} {L : List Pc} [x : MemC L i o] : MemC (p :: L) i o := ⟨by simp [x.p]⟩
instance {i : Nat} {o o' : AObj} {L : List Pc} : SetC (pcC i o :: L) i o' (pcC i o' :: L) := ⟨⟨0, o, rfl, rfl⟩⟩
instance (priority := low) {i : Nat} {o' : AObj} {p : Pc} {L L' : List Pc} [x : SetC L i o' L'] : SetC (p :: L) i o' (p :: L') := ⟨by
  obtain ⟨k, o, h1, h2⟩ := x.p
  exact ⟨k + 1, o, h1, by rw [h2]; rfl⟩⟩
instance (priority := low) {i : Nat} {o : AObj} {E L : List Pc} [x : MemC L i o] : MemC (E ++ L) i o := ⟨List.mem_append_right _ x.p⟩
instance (priority := low) {i : Nat} {o : AObj} {E L : List Pc} [x : MemC L i o] : MemC (L ++ E) i o := ⟨List.mem_append_left _ x.p⟩
instance (priority := low) {i : Nat} {o' : AObj} {L L' E : List Pc} [x : SetC L i o' L'] : SetC (L ++ E) i o' (L' ++ E) := ⟨by
  obtain ⟨k, o, h1, h2⟩ := x.p
  have hk := (List.getElem?_eq_some_iff.1 h1).1
  exact ⟨k, o, by rw [List.getElem?_append_left hk]; exact h1, by rw [h2, List.set_append_left _ _ hk]⟩⟩
theorem ha_lt {h : Hp} {i : Nat} {o : AObj} (a : HA h i o) : i < h.length := (List.getElem?_eq_some_iff.1 a.p).1
theorem wk_gen {P : Program} {m : Nat} {ro : Option Nat} {c : Code} {K : Exit → Fr → Hp → Prop} {f : Fr} {h Y0 : Hp} {L : List Pc} (s : Sep h Y0 L) (hk : ∀ Y, Sep h Y L → wk P m ro c K f Y) : wk P m ro c K f Y0 := hk Y0 s
section
variable {h Y Y' : Hp} {L L' : List Pc} {p p' : Pc} {i k : Nat} {o : AObj}
instance [s : Sep h Y L] [m : MemC L i o] : HA Y i o := ⟨s.all _ m.p⟩
theorem Sep.nil (h : Hp) : Sep h h [] := ⟨Ext.refl h, by simp, by simp, by simp⟩
theorem Sep.sub {h Y : Hp} {L L' : List Pc} (s : Sep h Y L) (hl : L'.Sublist L) : Sep h Y L' := ⟨s.ext, fun p hp => s.all p (hl.subset hp), fun p hp => s.low p (hl.subset hp), s.dis.sublist hl⟩
theorem Sep.more {h Y : Hp} {L : List Pc} (s : Sep h Y L) (x : Ext Y Y') : Sep h Y' L := ⟨s.ext.trans x, fun p hp => p.loc (o := none) (Oth.of_ext x) (fun _ _ => by simp) (s.all p hp), s.low, s.dis⟩
theorem Sep.push {h Y : Hp} {L : List Pc} (s : Sep h Y L) (o : AObj) : Sep h (Y ++ [o]) (L ++ [pcC Y.length o]) := by
  have t := s.more (Y' := Y ++ [o]) (ext_app _ _)
  refine ⟨t.ext, ?_, ?_, ?_⟩
  · intro p hp
    rcases List.mem_append.1 hp with hp | hp
    · exact t.all p hp
    · simp only [List.mem_singleton] at hp; subst hp
      show (Y ++ [o])[Y.length]? = some o
      simp
  · intro p hp i hi
    rcases List.mem_append.1 hp with hp | hp
    · exact t.low p hp i hi
    · simp only [List.mem_singleton] at hp; subst hp
      injection hi with hi; subst hi; exact s.ext.1
  · refine List.pairwise_append.2 ⟨t.dis, by simp, ?_⟩
    intro p hp q hq i hi hqi
    simp only [List.mem_singleton] at hq; subst hq
    injection hqi with hqi; subst hqi
    have := p.lt hi (s.all p hp)
    omega
theorem Sep.push2 {h Y : Hp} {L : List Pc} (s : Sep h Y L) (o1 o2 : AObj) : Sep h (Y ++ [o1, o2]) (L ++ [pcC Y.length o1, pcC (Y.length + 1) o2]) := by
  have := (s.push o1).push o2
  simpa only [List.append_assoc, List.singleton_append, List.length_append, List.length_singleton] using this
theorem Sep.push3 {h Y : Hp} {L : List Pc} (s : Sep h Y L) (o1 o2 o3 : AObj) : Sep h (Y ++ [o1, o2, o3]) (L ++ [pcC Y.length o1, pcC (Y.length + 1) o2, pcC (Y.length + 2) o3]) := by
  have := (s.push2 o1 o2).push o3
  simpa only [List.append_assoc, List.singleton_append, List.length_append, List.length_singleton, List.cons_append, List.nil_append, List.length_cons, List.length_nil] using this
def litP (n : Nat) (L : List AObj) : List Pc := (List.range L.length).map fun j => pcC (n + j) (L.getD j .gone)
theorem litP_snoc (n : Nat) (L : List AObj) (o : AObj) : litP n (L ++ [o]) = litP n L ++ [pcC (n + L.length) o] := by
  have e1 : (List.range L.length).map (fun j => pcC (n + j) ((L ++ [o]).getD j .gone)) = (List.range L.length).map (fun j => pcC (n + j) (L.getD j .gone)) := by
    refine List.map_congr_left fun j hj => ?_
    rw [List.mem_range] at hj
    simp [List.getD_eq_getElem?_getD, List.getElem?_append_left hj]
  have e2 : (L ++ [o]).getD L.length .gone = o := by simp [List.getD_eq_getElem?_getD]
  simp only [litP, List.length_append, List.length_singleton, List.range_succ, List.map_append, List.map_cons, List.map_nil, e1, e2]
theorem Sep.litsA (h : Hp) : ∀ (L2 L1 : List AObj), Sep h (h ++ L1) (litP h.length L1) → Sep h (h ++ (L1 ++ L2)) (litP h.length (L1 ++ L2))
  | [], L1, s => by rw [List.append_nil]; exact s
  | o :: L2, L1, s => by
    have := Sep.litsA h L2 (L1 ++ [o]) (by
      have := s.push o
      rw [litP_snoc, ← List.append_assoc]
      simpa only [List.length_append] using this)
    simpa only [List.append_assoc, List.singleton_append] using this
theorem Sep.lits (h : Hp) (L : List AObj) : Sep h (h ++ L) (litP h.length L) := Sep.litsA h L [] (by rw [List.append_nil]; exact Sep.nil h)
/-- One piece is turned into another. -/
theorem Sep.turn {h Y Y' : Hp} {L : List Pc} (s : Sep h Y L) {k : Nat} {p p' : Pc} (hk : L[k]? = some p) (x : Oth p.foot Y Y') (hp' : p'.ok Y') (hf : ∀ i, p'.foot = some i → p.foot = some i ∨ Y.length ≤ i) : Sep h Y' (L.set k p') := by
  have hkl : k < L.length := (List.getElem?_eq_some_iff.1 hk).1
  have hke : L[k] = p := (List.getElem?_eq_some_iff.1 hk).2
  have hpL : p ∈ L := List.mem_of_getElem? hk
  have hne : ∀ j (hj : j < L.length), j ≠ k → ∀ i, L[j].foot = some i → p.foot ≠ some i := by
    intro j hj hjk i hi hpi
    have hd := List.pairwise_iff_getElem.1 s.dis
    rcases Nat.lt_or_gt_of_ne hjk with hlt | hgt
    · exact hd j k hj hkl hlt i hi (by rw [hke]; exact hpi)
    · exact hd k j hkl hj hgt i (by rw [hke]; exact hpi) hi
  have hall : ∀ j (hj : j < L.length), j ≠ k → L[j].ok Y' := fun j hj hjk => L[j].loc x (hne j hj hjk) (s.all _ (List.getElem_mem hj))
  refine ⟨⟨Nat.le_trans s.ext.1 x.1, fun i hi => ?_⟩, ?_, ?_, ?_⟩
  · rw [x.2 i (Nat.lt_of_lt_of_le hi s.ext.1) (fun e => by have := s.low p hpL i e; omega)]
    exact s.ext.2 i hi
  · intro q hq
    obtain ⟨j, hj, hjq⟩ := List.getElem_of_mem hq
    rw [List.length_set] at hj
    by_cases hjk : j = k
    · subst hjk; rw [List.getElem_set_self] at hjq; subst hjq; exact hp'
    · rw [List.getElem_set_ne (fun e => hjk e.symm)] at hjq; subst hjq; exact hall j hj hjk
  · intro q hq i hi
    obtain ⟨j, hj, hjq⟩ := List.getElem_of_mem hq
    rw [List.length_set] at hj
    by_cases hjk : j = k
    · subst hjk; rw [List.getElem_set_self] at hjq; subst hjq
      rcases hf i hi with h1 | h1
      · exact s.low p hpL i h1
      · exact Nat.le_trans s.ext.1 h1
    · rw [List.getElem_set_ne (fun e => hjk e.symm)] at hjq; subst hjq; exact s.low _ (List.getElem_mem hj) i hi
  · refine List.pairwise_iff_getElem.2 fun a b ha hb hab i hi hbi => ?_
    rw [List.length_set] at ha hb
    have hd := List.pairwise_iff_getElem.1 s.dis a b ha hb hab
    by_cases hak : a = k
    · subst hak
      rw [List.getElem_set_self] at hi
      rw [List.getElem_set_ne (by omega)] at hbi
      rcases hf i hi with h1 | h1
      · exact hd i (by rw [hke]; exact h1) hbi
      · have := L[b].lt hbi (s.all _ (List.getElem_mem (by simpa using hb))); omega
    · rw [List.getElem_set_ne (fun e => hak e.symm)] at hi
      by_cases hbk : b = k
      · subst hbk
        rw [List.getElem_set_self] at hbi
        rcases hf i hbi with h1 | h1
        · exact hd i hi (by rw [hke]; exact h1)
        · have := L[a].lt hi (s.all _ (List.getElem_mem (by simpa using ha))); omega
      · rw [List.getElem_set_ne (fun e => hbk e.symm)] at hbi
        exact hd i hi hbi
theorem oth_set {Y : Hp} {i : Nat} {o : AObj} : Oth (some i) Y (Y.set i o) := ⟨by rw [List.length_set]; exact Nat.le_refl _, fun j hj hne => List.getElem?_set_ne (fun e => hne (by rw [e]))⟩
theorem Sep.put {h Y : Hp} {L L' : List Pc} (s : Sep h Y L) {i : Nat} {o' : AObj} (u : SetC L i o' L') : Sep h (Y.set i o') L' := by
  obtain ⟨k, o, h1, h2⟩ := u.p
  have hi : i < Y.length := (pcC i o).lt rfl (s.all _ (List.mem_of_getElem? h1))
  rw [h2]
  refine s.turn h1 oth_set ?_ (fun j hj => .inl hj)
  show (Y.set i o')[i]? = some o'
  exact List.getElem?_set_self hi
instance [s : Sep h Y L] {o' : AObj} [u : SetC L i o' L'] : Sep h (Y.set i o') L' := s.put u
theorem Sep.own {h Y : Hp} {L : List Pc} (s : Sep h Y L) (k : Nat) {α : Type} {enc : α → List AV} {q : Nat} {e : TypeId} {z : AV} {l : List α} (hk : L[k]? = some (pcW enc q e z l)) : Own enc q e Y z l := s.all _ (List.mem_of_getElem? hk)
/-- Appended to. -/
theorem Sep.app {h Y : Hp} {L : List Pc} (s : Sep h Y L) (k : Nat) {α : Type} {enc : α → List AV} {q : Nat} {e : TypeId} {z u : AV} {l l2 : List α} (hk : L[k]? = some (pcW enc q e z l)) {P : Program} {t : TypeId} (hE : EncOk enc q) (hu : CS P t e q) (he : CE P e q) (hS : Elts enc q Y u l2) (hlen : l.length + l2.length ≤ 1099511627776) :
    ∃ z' Y', app P Y [t, t] z u = some (z', Y') ∧ Sep h Y' (L.set k (pcW enc q e z' (l ++ l2))) ∧ Oth (objOf z) Y Y' := by
  obtain ⟨z', Y', e1, e2, e3, e4, _⟩ := app_own' hE hu.p he.p (s.own k hk) hS hlen
  exact ⟨z', Y', e1, s.turn hk e3 e2 e4, e3⟩
theorem Sep.addNil {h Y : Hp} {L : List Pc} (s : Sep h Y L) {α : Type} (enc : α → List AV) (q : Nat) (e : TypeId) : Sep h Y (L ++ [pcW enc q e (.v (.slice none 0 0)) []]) := by
  refine ⟨s.ext, ?_, ?_, List.pairwise_append.2 ⟨s.dis, by simp, ?_⟩⟩
  · intro p hp
    rcases List.mem_append.1 hp with hp | hp
    · exact s.all p hp
    · simp only [List.mem_singleton] at hp; subst hp; exact .inl ⟨rfl, rfl⟩
  · intro p hp i hi
    rcases List.mem_append.1 hp with hp | hp
    · exact s.low p hp i hi
    · simp only [List.mem_singleton] at hp; subst hp; cases hi
  · intro p hp q hq i hi hqi
    simp only [List.mem_singleton] at hq; subst hq; cases hqi
instance [s : Sep h Y L] : Sep h (Y ++ [o]) (L ++ [pcC Y.length o]) := s.push o
instance {o1 o2 : AObj} [s : Sep h Y L] : Sep h (Y ++ [o1, o2]) (L ++ [pcC Y.length o1, pcC (Y.length + 1) o2]) := s.push2 o1 o2
instance {o1 o2 o3 : AObj} [s : Sep h Y L] : Sep h (Y ++ [o1, o2, o3]) (L ++ [pcC Y.length o1, pcC (Y.length + 1) o2, pcC (Y.length + 2) o3]) := s.push3 o1 o2 o3
/-- Two memories agree at a cell. -/
theorem ha_eq {Y Y' : Hp} {i : Nat} {o : AObj} (a : HA Y i o) (b : HA Y' i o) : Y'[i]? = Y[i]? := b.p.trans a.p.symm
theorem set_app' {H r : Hp} {i : Nat} {o o' : AObj} [a : HA H i o] : (H ++ r).set i o' = H.set i o' ++ r := List.set_append_left _ _ (List.getElem?_eq_some_iff.1 a.p).1
end

/-! ### Ranges over functions -/
section
variable {P : Program} {ops : Array Oper} {d : Option Tmp} {ty : TypeId} {pos : String} {aft : Array Edge} {gd : Option (Nat × Bool)} {rest : List Oper} {N : Fr → Hp → Prop} {l : List AV} {ds : List Nat} {h : Hp} {X : OrdX} {pd : List (Nat × Nat)} {gone : List Nat} {ii : Nat} {m : Nat} {ro : Option Nat} {K : Exit → Fr → Hp → Prop} {f : Fr}
theorem sY {op : Op} {i : Nat} {args : List AV} (hc : AYld P i args h (fun r' h' => wkO P ops rest N (Fr.put ⟨l, ds⟩ d r') h')) (hw : wantA ops ⟨l, ds⟩ ⟨d, op, ty, pos, aft, gd⟩ = true := by rfl) (hx : yldOf ⟨l, ds⟩ op = some (i, args) := by rfl) : wkO P ops (⟨d, op, ty, pos, aft, gd⟩ :: rest) N ⟨l, ds⟩ h := by
  show (if _ then _ else _)
  rw [if_pos hw]; exact .inr (.inr (.inr (.inl ⟨i, args, hx, hc⟩)))
theorem uY {op : Op} {i : Nat} {args : List AV} (hc : AYld P i args h (fun r' h' => stayG gone pd h h' ∧ wkX P ops X pd N (Fr.put ⟨l, ds⟩ d r') h')) (hw : wantA ops ⟨l, ds⟩ ⟨d, op, ty, pos, aft, gd⟩ = true := by rfl) (hx : yldOf ⟨l, ds⟩ op = some (i, args) := by rfl) : wkX P ops (.alt ⟨d, op, ty, pos, aft, gd⟩ ii gone X .no) pd N ⟨l, ds⟩ h := by
  refine ⟨?_, trivial⟩
  rw [if_pos hw]; exact .inr (.inr (.inr (.inl ⟨i, args, hx, hc⟩)))
theorem AYld.mono {i : Nat} {args : List AV} {N N' : AV → Hp → Prop} (hc : AYld P i args h N) (hn : ∀ r h', h.length ≤ h'.length → N r h' → N' r h') : AYld P i args h N' := by
  obtain ⟨st, pe, tm, ps, asg, bd, d, h1, h2, h3⟩ := hc
  refine ⟨st, pe, tm, ps, asg, bd, d, h1, h2, fun fn ρ w H hs => ?_⟩
  exact (h3 fn ρ w H hs).mono fun _ _ hp => hp.mono fun r h' hl _ => hn r h' hl
theorem s_range {g : Operand} {ps : Array Tmp} {asg bd : Code} {gf : FuncId} {cs : List AV}
    (hc : ACalls P gf (.yld (h.length + 1) :: cs) (h ++ [.dfr, .loop .ready none l ps asg bd h.length]) (fun _ h' => behA P m (h.length + 1) K ⟨l, h.length :: ds⟩ h')) (hg : evS l g = some (.fn (.func gf) cs) := by rfl) (ok : CO P gf := by infer_instance) :
    wk P m none (.rangeFunc g ps asg bd) K ⟨l, ds⟩ h := by
  refine aw_range (f := ⟨l, ds⟩) (e_any hg) ok.p ?_
  rw [List.append_assoc]
  exact hc
theorem beh_n {i : Nat} {tm : List AV} {ps : Array Tmp} {asg bd : Code} {d : Nat} {st : LoopState} (hk : K .normal f (h.set i .gone)) (a : HA h i (.loop st none tm ps asg bd d)) (hst : (st == .busy) = false) : behA P m i K f h := ⟨st, none, tm, ps, asg, bd, d, a.p, hst, hk⟩
theorem beh_c (hm : P.follows .mixedOrders = true) {i : Nat} {tm : List AV} {ps : Array Tmp} {asg bd : Code} {d : Nat} {st : LoopState} {c : Code} (hk : wk P m none c K f (h.set i .gone)) (a : HA h i (.loop st (some c) tm ps asg bd d)) (hst : (st == .busy) = false) : behA P m i K f h := ⟨st, some c, tm, ps, asg, bd, d, a.p, hst, wk_ok hm c _ f _ hk⟩
theorem resAll_ds (P : Program) (h : Hp) (l : List AV) (a b : List Nat) : ∀ rs, resAll P ⟨l, a⟩ h rs = resAll P ⟨l, b⟩ h rs
  | [] => rfl
  | r :: rs => by
    have e : resOne P ⟨l, a⟩ h r = resOne P ⟨l, b⟩ h r := by cases r <;> rfl
    simp only [resAll, e, resAll_ds P h l a b rs]
theorem rk_dfr {fn : Func} {N : AV → Hp → Prop} {d : Nat} (hk : RK P fn N .ret ⟨l, ds⟩ (h.set d .gone)) (a : HA h d .dfr) : RK P fn N .ret ⟨l, d :: ds⟩ h := by
  obtain ⟨h', r, h1, h2, h3⟩ := hk
  refine ⟨h', r, ?_, by rw [resA, resAll_ds P h' l (d :: ds) ds]; exact h2, h3⟩
  show (match h[d]? with | some .dfr => dropAll (h.set d .gone) ds | _ => none) = _
  rw [a.p]; exact h1
theorem ayld_at {i : Nat} {args : List AV} {N : AV → Hp → Prop} {st : LoopState} {pe : Option Code} {tm : List AV} {ps : Array Tmp} {asg bd : Code} {d : Nat} (hm : P.follows .mixedOrders = true) (a : HA h i (.loop st pe tm ps asg bd d)) (hl : args.length = ps.size)
    (hk : wk P h.length (some i) asg (asgK P h.length i bd N) ⟨setAll tm (ps.toList.zip args), []⟩ h) : AYld P i args h N := ayld_of_aw a.p hl (wk_ok hm _ _ _ _ hk)
theorem ayld_at1 {i : Nat} {v : AV} {N : AV → Hp → Prop} {st : LoopState} {pe : Option Code} {tm : List AV} {p : Tmp} {asg bd : Code} {d : Nat} (hm : P.follows .mixedOrders = true) (a : HA h i (.loop st pe tm #[p] asg bd d))
    (hk : wk P h.length (some i) asg (asgK P h.length i bd N) ⟨tm.set p v, []⟩ h) : AYld P i [v] h N := ayld_at hm a rfl hk
theorem ayld_at2 {i : Nat} {v v2 : AV} {N : AV → Hp → Prop} {st : LoopState} {pe : Option Code} {tm : List AV} {p p2 : Tmp} {asg bd : Code} {d : Nat} (hm : P.follows .mixedOrders = true) (a : HA h i (.loop st pe tm #[p, p2] asg bd d))
    (hk : wk P h.length (some i) asg (asgK P h.length i bd N) ⟨(tm.set p v).set p2 v2, []⟩ h) : AYld P i [v, v2] h N := ayld_at hm a rfl hk
theorem asg_n (hm : P.follows .mixedOrders = true) {i : Nat} {bd : Code} {N : AV → Hp → Prop} {pe : Option Code} {tm : List AV} {ps : Array Tmp} {asg bd' : Code} {d : Nat} (a : HA h i (.loop .ready pe tm ps asg bd' d)) (hk : wk P m (some i) bd (roundK i N) f (h.set i (.loop .busy pe tm ps asg bd' d))) : asgK P m i bd N .normal f h :=
  ⟨_, by unfold begA; rw [a.p], wk_ok hm _ _ _ _ hk⟩
theorem rnd_n {i : Nat} {N : AV → Hp → Prop} {st : LoopState} {pe : Option Code} {tm : List AV} {ps : Array Tmp} {asg bd : Code} {d : Nat} (a : HA h i (.loop st pe tm ps asg bd d)) (hk : N (.v (.bool true)) (h.set i (.loop .ready none tm ps asg bd d))) : roundK i N .normal f h := ⟨_, by unfold endA; rw [a.p]; rfl, hk⟩
theorem rnd_r {i : Nat} {N : AV → Hp → Prop} {st : LoopState} {pe : Option Code} {tm : List AV} {ps : Array Tmp} {asg bd : Code} {d : Nat} (a : HA h i (.loop st pe tm ps asg bd d)) (hk : N (.v (.bool false)) (h.set i (.loop .done (some .ret) tm ps asg bd d))) : roundK i N .ret f h := ⟨_, by unfold endA; rw [a.p]; rfl, hk⟩
theorem rnd_e {i e : Nat} {N : AV → Hp → Prop} {st : LoopState} {pe : Option Code} {tm : List AV} {ps : Array Tmp} {asg bd : Code} {d : Nat} (a : HA h i (.loop st pe tm ps asg bd d)) (hk : N (.v (.bool false)) (h.set i (.loop .done (some (.exit e)) tm ps asg bd d))) : roundK i N (.exit e) f h := ⟨_, by unfold endA; rw [a.p]; rfl, hk⟩
end

/-! ### Appended to, as a step -/
section
variable {P : Program} {ops : Array Oper} {d : Option Tmp} {ty : TypeId} {pos : String} {aft : Array Edge} {gd : Option (Nat × Bool)} {rest : List Oper} {N : Fr → Hp → Prop} {l : List AV} {ds : List Nat} {h0 Y : Hp} {X : OrdX} {pd : List (Nat × Nat)} {gone : List Nat} {ii : Nat} {L : List Pc} {α : Type} {enc : α → List AV} {q : Nat} {e : TypeId} {z u : AV} {ks l2 : List α} {t : TypeId} {a b : Operand}
theorem s_app (k : Nat) (hk : ∀ z' Y', Sep h0 Y' (L.set k (pcW enc q e z' (ks ++ l2))) → Oth (objOf z) Y Y' → wkO P ops rest N (Fr.put ⟨l, ds⟩ d z') Y') (s : Sep h0 Y L) (hp : L[k]? = some (pcW enc q e z ks)) (hE : EncOk enc q) (hS : Elts enc q Y u l2) (hlen : ks.length + l2.length ≤ 1099511627776) (hu : CS P t e q) (he : CE P e q)
    (hw : wantA ops ⟨l, ds⟩ ⟨d, .call ⟨.builtin .append, #[a, b], #[t, t]⟩, ty, pos, aft, gd⟩ = true := by rfl) (ha : evS l a = some z := by rfl) (hb : evS l b = some u := by rfl) : wkO P ops (⟨d, .call ⟨.builtin .append, #[a, b], #[t, t]⟩, ty, pos, aft, gd⟩ :: rest) N ⟨l, ds⟩ Y := by
  obtain ⟨z', Y', e1, e2, e3⟩ := s.app k hp hE hu he hS hlen
  exact s_gH hw (x_app (e_any ha) (e_any hb) e1) (hk z' Y' e2 e3)
theorem u_app (k : Nat) (hk : ∀ z' Y', Sep h0 Y' (L.set k (pcW enc q e z' (ks ++ l2))) → Oth (objOf z) Y Y' → stayG gone pd Y Y' ∧ wkX P ops X pd N (Fr.put ⟨l, ds⟩ d z') Y') (s : Sep h0 Y L) (hp : L[k]? = some (pcW enc q e z ks)) (hE : EncOk enc q) (hS : Elts enc q Y u l2) (hlen : ks.length + l2.length ≤ 1099511627776) (hu : CS P t e q) (he : CE P e q)
    (hw : wantA ops ⟨l, ds⟩ ⟨d, .call ⟨.builtin .append, #[a, b], #[t, t]⟩, ty, pos, aft, gd⟩ = true := by rfl) (ha : evS l a = some z := by rfl) (hb : evS l b = some u := by rfl) : wkX P ops (.alt ⟨d, .call ⟨.builtin .append, #[a, b], #[t, t]⟩, ty, pos, aft, gd⟩ ii gone X .no) pd N ⟨l, ds⟩ Y := by
  obtain ⟨z', Y', e1, e2, e3⟩ := s.app k hp hE hu he hS hlen
  exact u_gH hw (x_app (e_any ha) (e_any hb) e1) (hk z' Y' e2 e3).1 (hk z' Y' e2 e3).2
theorem own_pl (h : Own enc q e Y z ks) : z.plain = true := by
  rcases h with ⟨rfl, _⟩ | ⟨i, o, c, u, cs, rfl, _⟩ <;> rfl
end
end Go.Az
