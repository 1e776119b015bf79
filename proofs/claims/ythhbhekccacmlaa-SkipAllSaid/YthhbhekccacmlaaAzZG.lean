/-
  What a function gives back, laid in order: one new object behind the known memory. Conditions: stated at each theorem.
-/
import Derived.Test.YthhbhekccacmlaaAzZF
set_option linter.unusedSimpArgs false
set_option linter.unusedVariables false
namespace Go.Az
open Go Go.Chz

mutual
theorem ren_sc0 (σ : Nat → Nat) : ∀ a : AV, a.sc 0 = true → a.ren σ = a
  | .v _, _ => rfl
  | .ptr i _, h => by simp [AV.sc] at h
  | .sl i _ _ _ _, h => by simp [AV.sc] at h
  | .mp i, h => by simp [AV.sc] at h
  | .yld i, h => by simp [AV.sc] at h
  | .fn f cs, h => by simp only [AV.ren, rens_sc0 σ cs h]
  | .ifc t x, h => by simp only [AV.ren, ren_sc0 σ x h]
  | .agg cs, h => by simp only [AV.ren, rens_sc0 σ cs h]
  | .tup cs, h => by simp only [AV.ren, rens_sc0 σ cs h]
theorem rens_sc0 (σ : Nat → Nat) : ∀ l : List AV, AV.scs 0 l = true → AV.rens σ l = l
  | [], _ => rfl
  | a :: r, h => by
    simp only [AV.scs, Bool.and_eq_true] at h
    simp only [AV.rens, ren_sc0 σ a h.1, rens_sc0 σ r h.2]
end
theorem hrel_cut {P : Program} {ρ : Nat → Place} {h h' : Hp} {w : World} (hs : ∀ (i : Nat) (o : AObj), h[i]? = some o → o.sc h.length = true) (H : HRel P ρ h' w) (x : Ext h h') : HRel P ρ h w := by
  have e : h'.take h.length = h := by
    apply List.ext_getElem?
    intro i
    rw [List.getElem?_take]
    split
    · rename_i hi; exact x.2 i hi
    · rename_i hi; rw [List.getElem?_eq_none (by omega)]
  have := H.take h.length (fun o ho => by
    rw [e] at ho
    obtain ⟨i, hi⟩ := List.getElem?_of_mem ho
    exact hs i o hi)
  rwa [e] at this
theorem stp_cut {ρ ρ' : Nat → Place} {h h' : Hp} {w w' : World} (S : Stp h.length ρ h w ρ' h' w') (x : Ext h h') : Stp h.length ρ h w ρ' h w' := by
  have e : h'.take h.length = h := by
    apply List.ext_getElem?
    intro i
    rw [List.getElem?_take]
    split
    · rename_i hi; exact x.2 i hi
    · rename_i hi; rw [List.getElem?_eq_none (by omega)]
  have hst := (S.trans (Stp.take h.length h.length) (Nat.le_refl _))
  rwa [e] at hst
def mov (n i : Nat) : Nat → Nat := fun j => if j = n then i else j
/-- One of the new objects alone is kept, its first cells, and it gets the next number. -/
theorem post_one {P : Program} {h h' : Hp} {ρ ρ' : Nat → Place} {w w' : World} {N : AV → Hp → Prop} {i n : Nat} {cs : List AV} {e : TypeId} {r' : AV} (H : HRel P ρ h w) (hx : Ext h h') (hi : h.length ≤ i) (ho : h'[i]? = some (.cells cs e true)) (hcs : AV.scs 0 (cs.take n) = true)
    (hr' : r'.sc (h.length + 1) = true) (hn : N r' (h ++ [.cells (cs.take n) e true])) (h5 : HRel P ρ' h' w') (h6 : Stp h.length ρ h w ρ' h' w') : Post P ρ h w N (.returned ((AV.ren (mov h.length i) r').real ρ')) w' := by
  have hcut := hrel_cut H.sc h5 hx
  have hup : ∀ j, j < h.length + 1 → upd ρ' h.length (ρ' i) j = ρ' (mov h.length i j) := by
    intro j hj
    unfold mov
    by_cases e : j = h.length
    · subst e; rw [upd_same, if_pos rfl]
    · rw [upd_ne _ _ e, if_neg e]
  have hor := h5.obj i _ ho
  refine ⟨upd ρ' h.length (ρ' i), r', h ++ [.cells (cs.take n) e true], ?_, by simpa using hr', by simp, hn, ?_, ?_⟩
  · rw [real_ren, real_agree (n := h.length + 1) hup r' hr']
  · refine hcut.push ?_ (scs_mono (Nat.zero_le _) _ hcs) ?_
    · refine ⟨fun j a hj => ?_, fun _ => ?_⟩
      · rw [List.getElem?_take] at hj
        split at hj
        · rw [hor.1 j a hj]
          have ha : a.sc 0 = true := (scs_iff 0 _).1 hcs a (List.mem_of_getElem? (by rw [List.getElem?_take, if_pos (by assumption)]; exact hj))
          rw [real_agree (n := 0) (ρ := ρ') (ρ' := upd ρ' h.length (ρ' i)) (fun i hi => absurd hi (Nat.not_lt_zero i)) a ha]
        · cases hj
      · obtain ⟨h0, cur, fz, hg, hf, hm, hinf⟩ := hor.2 rfl
        exact ⟨h0, cur, fz, hg, hf, hm, fun inf hi2 => ⟨(hinf inf hi2).1, Nat.le_trans (by rw [List.length_take]; omega) (hinf inf hi2).2⟩⟩
    · intro _ j o' hj ho' _
      have hjl : j < h.length := (List.getElem?_eq_some_iff.1 hj).1
      have hj' : h'[j]? = some o' := by rw [hx.2 j hjl, hj]
      exact fun e => h5.apart i j _ o' ho hj' rfl ho' (by omega) e.symm
  · have S := stp_cut h6 hx
    refine ⟨S.os, S.tape, S.output, S.size, S.block, fun j o hj hown => ?_, fun j hj => ?_⟩
    · by_cases hjl : j < h.length
      · rw [List.getElem?_append_left hjl] at hj
        rw [upd_lt ρ' _ j hjl]
        exact S.owned j o hj hown
      · rw [List.getElem?_append_right (by omega)] at hj
        have : j - h.length = 0 := by
          rcases Nat.eq_zero_or_pos (j - h.length) with h0 | h0
          · exact h0
          · rw [List.getElem?_eq_none (by simp; omega)] at hj; cases hj
        obtain rfl : j = h.length := by omega
        rw [upd_same]
        exact h6.owned i _ ho rfl
    · rw [upd_lt ρ' _ j hj]; exact S.same j hj
/-- None of the new objects is kept; a number is passed over. -/
theorem post_pad {P : Program} {h h' : Hp} {ρ ρ' : Nat → Place} {w w' : World} {N : AV → Hp → Prop} {r : AV} (H : HRel P ρ h w) (h4 : r.sc h.length = true) (hx : Ext h h') (hn : N r (h ++ [.gone])) (h5 : HRel P ρ' h' w') (h6 : Stp h.length ρ h w ρ' h' w') : Post P ρ h w N (.returned (r.real ρ')) w' := by
  have hcut := hrel_cut H.sc h5 hx
  have S := stp_cut h6 hx
  have hp := hcut.push (o := .gone) (p := ρ' h.length) trivial rfl (fun h => by cases h)
  have hsame : upd ρ' h.length (ρ' h.length) = ρ' := by
    funext j
    by_cases e : j = h.length
    · subst e; rw [upd_same]
    · rw [upd_ne _ _ e]
  rw [hsame] at hp
  refine ⟨ρ', r, h ++ [.gone], rfl, sc_mono (by simp) r h4, by simp, hn, hp, ⟨S.os, S.tape, S.output, S.size, S.block, fun j o hj hown => ?_, S.same⟩⟩
  by_cases hjl : j < h.length
  · rw [List.getElem?_append_left hjl] at hj; exact S.owned j o hj hown
  · rw [List.getElem?_append_right (by omega)] at hj
    have : j - h.length = 0 := by
      rcases Nat.eq_zero_or_pos (j - h.length) with h0 | h0
      · exact h0
      · rw [List.getElem?_eq_none (by simp; omega)] at hj; cases hj
    rw [this] at hj
    injection hj with hj
    subst hj; cases hown
theorem acalls_or {P : Program} {h : Hp} {g : FuncId} {args : List AV} {N : AV → Hp → Prop} (p : Prop) (h1 : p → ACalls P g args h N) (h2 : ¬p → ACalls P g args h N) : ACalls P g args h N := by
  by_cases hp : p
  · exact h1 hp
  · exact h2 hp

/-! ### A slice given back -/
/-- The slice that was given back: the new object's, if any. -/
def RetS {α : Type} (enc : α → List AV) (e : TypeId) (h : Hp) (l : List α) (s : AV) (h' : Hp) : Prop :=
  (s = .v (.slice none 0 0) ∧ l = [] ∧ h' = h ++ [.gone]) ∨ ∃ c u, s = .sl h.length 0 l.length c u ∧ h' = h ++ [.cells (l.flatMap enc) e true] ∧ (u = true → c = 0) ∧ (u = false → c = l.length)
def EncP {α : Type} (enc : α → List AV) : Prop := ∀ x, AV.scs 0 (enc x) = true
theorem scs_app (n : Nat) : ∀ a b : List AV, AV.scs n (a ++ b) = (AV.scs n a && AV.scs n b)
  | [], b => by simp [AV.scs]
  | x :: a, b => by simp only [List.cons_append, AV.scs, scs_app n a b, Bool.and_assoc]
section
variable {α : Type} {enc : α → List AV} {q : Nat} {e : TypeId} {h h' : Hp} {s : AV} {l : List α}
theorem flat_sc (hp : EncP enc) : ∀ l : List α, AV.scs 0 (l.flatMap enc) = true
  | [] => rfl
  | x :: r => by rw [List.flatMap_cons, scs_app, hp x, flat_sc hp r]; rfl
theorem RetS.own (hE : EncOk enc q) (hR : RetS enc e h l s h') : Own enc q e h' s l := by
  rcases hR with ⟨rfl, rfl, rfl⟩ | ⟨c, u, rfl, rfl, h1, h2⟩
  · exact .inl ⟨rfl, rfl⟩
  · refine .inr ⟨h.length, 0, c, u, _, rfl, ga0, by rw [flat_len hE]; omega, ?_, fun hu => ⟨rfl, h1 hu⟩, fun hu => ?_⟩
    · rw [List.drop_zero, List.take_of_length_le (by rw [flat_len hE]; exact Nat.le_refl _)]
    · rw [h2 hu, flat_len hE]; omega
theorem RetS.ext (hR : RetS enc e h l s h') : Ext h h' := by
  rcases hR with ⟨rfl, rfl, rfl⟩ | ⟨c, u, rfl, rfl, h1, h2⟩ <;> exact ext_app _ _
theorem RetS.elts (hE : EncOk enc q) (hR : RetS enc e h l s h') : Elts enc q h' s l := (hR.own hE).elts
theorem RetS.shape (hR : RetS enc e h l s h') : ∃ o, h' = h ++ [o] := by
  rcases hR with ⟨rfl, rfl, rfl⟩ | ⟨c, u, rfl, rfl, h1, h2⟩ <;> exact ⟨_, rfl⟩
/-- A slice given back, with what stands beside it in the results. -/
theorem ret_own {P : Program} {g : FuncId} {args : List AV} {N : AV → Hp → Prop} (hE : EncOk enc q) (hp : EncP enc) (f : AV → AV) (hf : ∀ σ s, AV.ren σ (f s) = f (s.ren σ)) (hfs : ∀ n s, s.sc n = true → (f s).sc n = true)
    (hc : ACalls P g args h (fun r h' => ∃ l s, Ext h h' ∧ r = f s ∧ Own enc q e h' s l ∧ (∀ i, objOf s = some i → h.length ≤ i) ∧ Tight s ∧ ∀ s' h2, RetS enc e h l s' h2 → N (f s') h2)) : ACalls P g args h N := by
  intro ρ w H hs
  refine (hc ρ w H hs).mono fun en w' hp' => ?_
  obtain ⟨ρ', r, h', rfl, h2, h3, ⟨l, s, hx, rfl, hO, hfr, hT, hn⟩, h5, h6⟩ := hp'
  rcases hO with ⟨rfl, rfl⟩ | ⟨i, o, c, u, cs, rfl, ho, h7, h8, h9, h10⟩
  · exact post_pad H (hfs _ _ rfl) hx (hn _ _ (.inl ⟨rfl, rfl, rfl⟩)) h5 h6
  · have hi := hfr i rfl
    have ho0 : o = 0 := by
      cases u with
      | true => exact (h9 rfl).1
      | false => exact (hT i o _ c rfl).2
    subst ho0
    have hc' : u = false → c = l.length := fun hu => by subst hu; exact (hT i 0 _ c rfl).1
    have e1 : cs.take (l.length * q) = l.flatMap enc := by rw [← h8, List.drop_zero]
    have e2 : (.sl i 0 l.length c u : AV) = AV.ren (mov h.length i) (.sl h.length 0 l.length c u) := by simp [AV.ren, mov]
    rw [e2, ← hf]
    refine post_one (n := l.length * q) (r' := f (.sl h.length 0 l.length c u)) H hx hi ho ?_ ?_ ?_ h5 h6
    · rw [e1]; exact flat_sc hp l
    · exact hfs _ _ (by simp [AV.sc])
    · rw [e1]; exact hn _ _ (.inr ⟨c, u, rfl, rfl, fun hu => (h9 hu).2, hc'⟩)
end
theorem t_gRB {P : Program} {f : Fr} {h : Hp} {ops : Array Oper} {N : Fr → Hp → Prop} {d : Option Tmp} {op : Op} {ty : TypeId} {pos : String} {aft : Array Edge} {gd : Option (Nat × Bool)} {X : OrdX} {pd : List (Nat × Nat)} {i x : Nat} {b : Bool} (hw : wantA ops f ⟨d, op, ty, pos, aft, gd⟩ = true) (hrd : readsOf f op = [x]) (hx : exL P f h op = some (.v (.bool b))) (h1 : b = true → wkX P ops X ((i, x) :: pd) N (f.put d (.v (.bool true))) h) (h2 : b = false → wkX P ops X ((i, x) :: pd) N (f.put d (.v (.bool false))) h) : wkX P ops (.light ⟨d, op, ty, pos, aft, gd⟩ i X) pd N f h :=
  t_gR hw hrd hx (by cases b <;> first | exact h2 rfl | exact h1 rfl)
/-! ### Single cells of elements -/
section
variable {α : Type} {enc : α → List AV} {q : Nat} {l : List α} {d : α} {n off : Nat} {v r : AV}
theorem flat_get1 (hE : EncOk enc q) (d : α) (hn : n < l.length) (hr : (enc (l.getD n d))[off]? = some r) : (l.flatMap enc)[n * q + off]? = some r := by
  have h1 := flat_get (d := d) hE hn
  rw [← h1, List.getElem?_take, List.getElem?_drop] at hr
  split at hr
  · exact hr
  · cases hr
theorem flat_get0 (hE : EncOk enc q) (d : α) (hn : n < l.length) (hr : (enc (l.getD n d))[off]? = some r) : (l.flatMap enc)[0 + n * q + off]? = some r := by
  rw [Nat.zero_add]; exact flat_get1 hE d hn hr
theorem flat_set1 (hE : EncOk enc q) (d : α) {y : α} (hn : n < l.length) (ho : off < q) (hy : (enc (l.getD n d)).set off v = enc y) : (l.flatMap enc).set (n * q + off) v = (l.set n y).flatMap enc := by
  have h1 := flat_get (d := d) hE hn
  have hl : n * q + q ≤ (l.flatMap enc).length := by rw [flat_len hE, ← Nat.succ_mul]; exact Nat.mul_le_mul_right q hn
  rw [← flat_set hE n l y hn, ← hy, ← h1]
  generalize l.flatMap enc = L at *
  generalize n * q = N at *
  have hq : ((L.drop N).take q).length = q := by rw [List.length_take, List.length_drop]; omega
  have hs : (((L.drop N).take q).set off v).length = q := by rw [List.length_set, hq]
  apply List.ext_getElem?
  intro j
  rw [setMany_get (by omega), hs, List.getElem?_set]
  by_cases c1 : j < N
  · rw [if_pos c1, if_neg (by omega)]
  · rw [if_neg c1]
    by_cases c2 : j < N + q
    · rw [if_pos c2, List.getElem?_set]
      by_cases c3 : off = j - N
      · rw [if_pos c3, if_pos (by omega), if_pos (by omega), if_pos (by omega)]
      · rw [if_neg c3, if_neg (by omega), List.getElem?_take, if_pos (by omega), List.getElem?_drop]
        congr 1; omega
    · rw [if_neg c2, if_neg (by omega)]
theorem flat_lt (hE : EncOk enc q) (hn : n < l.length) (ho : off < q) : 0 + n * q + off < (l.flatMap enc).length := by
  have : n * q + q ≤ l.length * q := by rw [← Nat.succ_mul]; exact Nat.mul_le_mul_right q hn
  rw [flat_len hE]; omega
end
/-! ### A call that turns the memory into a known one -/
theorem s_gX {P : Program} {f : Fr} {h H' : Hp} {ops : Array Oper} {N : Fr → Hp → Prop} {d : Option Tmp} {op : Op} {ty : TypeId} {pos : String} {aft : Array Edge} {gd : Option (Nat × Bool)} {rest : List Oper} {g : FuncId} {args : List AV} {r : AV} (hw : wantA ops f ⟨d, op, ty, pos, aft, gd⟩ = true) (hx : callOf f op = some (g, args)) (hg : okFn P g = true) (hc : ACalls P g args h (fun r' h' => r' = r ∧ h' = H')) (hk : wkO P ops rest N (f.put d r) H') :
    wkO P ops (⟨d, op, ty, pos, aft, gd⟩ :: rest) N f h :=
  s_gC hw hx hg (hc.mono fun r' h' _ hh => by rw [hh.1, hh.2]; exact hk)
theorem ev_tmp {l : List AV} {ds : List Nat} {i : Nat} : ev ⟨l, ds⟩ (.tmp i) = l.getD i (.v undef) := rfl
theorem ev_const {f : Fr} {v : Value} : ev f (.const v) = .v v := rfl
theorem ev_func {f : Fr} {g : FuncId} : ev f (.func g) = .fn (.func g) [] := rfl
def evS (l : List AV) : Operand → Option AV
  | .tmp i => l[i]?
  | .const v => some (.v v)
  | .func g => some (.fn (.func g) [])
  | _ => none
theorem e_any {l : List AV} {ds : List Nat} {x : Operand} {r : AV} (h : evS l x = some r) : ev ⟨l, ds⟩ x = r := by
  cases x with
  | tmp i => exact e_t h
  | const v => injection h
  | func g => injection h
  | _ => cases h
/-- Appended to an empty list of the call's own: what comes out, exactly. -/
theorem app_fresh {α : Type} {enc : α → List AV} {q : Nat} {e : TypeId} {P : Program} {t : TypeId} {H : Hp} {i : Nat} {u : AV} {l2 : List α} {ow : Bool} {cs : List AV} (hE : EncOk enc q) (hu : sliOf P t = some (e, q)) (he : elOkQ P e q = true) (hi : H[i]? = some (.cells cs e ow)) (hS : Elts enc q H u l2) (hlen : l2.length ≤ 1099511627776) (h0 : l2 ≠ []) :
    app P H [t, t] (.sl i 0 0 0 false) u = some (.sl H.length 0 l2.length 0 true, H ++ [.cells (l2.flatMap enc) e true]) := by
  have hu' := sliOf_und hu
  unfold elOkQ at he
  split at he
  case h_2 => cases he
  rename_i ti inf ht hinf
  simp only [Bool.and_eq_true, Nat.beq_eq, Nat.ble_eq, Bool.not_eq_true'] at he
  obtain ⟨⟨⟨hs1, hby⟩, hi1⟩, hq0⟩ := he
  have hq : q ≠ 0 := by intro h; subst h; cases hq0
  have hsrc : srcC H q u = some (l2.length, l2.flatMap enc) := by
    rcases hS with ⟨rfl, rfl⟩ | ⟨i, o, c, u', cs, t', own, rfl, h2, h3, h4⟩
    · rfl
    · simp only [srcC, h2]
      rw [if_pos h3, h4]
  have hl : l2.length ≠ 0 := by simpa using h0
  have hb : (0 + l2.length) * ti.bytes ≤ 140737488355328 := Nat.le_trans (Nat.mul_le_mul (show 0 + l2.length ≤ 1099511627776 by omega) hby) (by omega)
  unfold app
  simp only [ne_eq, not_true_eq_false, if_false, hu', ht, hs1, hq, hsrc, flat_one hE, Bool.true_eq_false]
  rw [if_neg (by omega), if_neg hl]
  simp only [hi]
  rw [if_pos ⟨by simp, by omega, hb⟩]
  simp
theorem app_none {α : Type} {enc : α → List AV} {q : Nat} {e : TypeId} {P : Program} {t : TypeId} {H : Hp} {i : Nat} {u : AV} (hE : EncOk enc q) (hu : sliOf P t = some (e, q)) (he : elOkQ P e q = true) (hS : Elts enc q H u ([] : List α)) :
    app P H [t, t] (.sl i 0 0 0 false) u = some (.sl i 0 0 0 false, H) := by
  have hu' := sliOf_und hu
  unfold elOkQ at he
  split at he
  case h_2 => cases he
  rename_i ti inf ht hinf
  simp only [Bool.and_eq_true, Nat.beq_eq, Nat.ble_eq, Bool.not_eq_true'] at he
  obtain ⟨⟨⟨hs1, hby⟩, hi1⟩, hq0⟩ := he
  have hq : q ≠ 0 := by intro h; subst h; cases hq0
  have hsrc : srcC H q u = some (0, []) := by
    rcases hS with ⟨rfl, _⟩ | ⟨i, o, c, u', cs, t', own, rfl, h2, h3, h4⟩
    · rfl
    · simp only [srcC, h2]
      rw [if_pos h3, h4]; rfl
  unfold app
  simp only [ne_eq, not_true_eq_false, if_false, hu', ht, hs1, hq, hsrc, allOne, Bool.true_eq_false]
  simp
theorem RetS.shapeE {α : Type} {enc : α → List AV} {q : Nat} {e : TypeId} {h h' : Hp} {s : AV} {l : List α} (hE : EncOk enc q) (hR : RetS enc e h l s h') : ∃ o, h' = h ++ [o] ∧ ∀ r, Elts enc q (h ++ o :: r) s l := by
  obtain ⟨o, rfl⟩ := hR.shape
  refine ⟨o, rfl, fun r => ?_⟩
  have := (hR.elts hE).ext (ext_app _ r)
  rwa [List.append_assoc] at this
end Go.Az
