/-
  A calculus over abstract memory: 'wk' of a piece of code, and that it says what the model does ('wk_ok'). Conditions: stated at each theorem.
-/
import Derived.Test.YthhbhekccacmlaaAzNA
import Derived.RangeFuncLeaves
set_option linter.unusedSimpArgs false
set_option linter.unusedVariables false
namespace Go.Az
open Go Go.Chz Go.RowKit

/-! ### Slots -/
def Fr.put (f : Fr) (d : Option Tmp) (v : AV) : Fr :=
  match d with
  | some d => { f with t := f.t.set d v }
  | none => f
def yldA (ops : Array Oper) (f : Fr) (j : Nat) : Option Bool :=
  match ((ops[j]?).bind (·.dst)).bind (f.t[·]?) with
  | some (.v (.bool b)) => some b
  | _ => none
def wantA (ops : Array Oper) (f : Fr) (o : Oper) : Bool :=
  match o.guard with
  | none => true
  | some (j, want) => yldA ops f j == some want
theorem yldA_real {ρ : Nat → Place} {ops : Array Oper} {f : Fr} {A : Act} (hA : A.tmps = (AV.reals ρ f.t).toArray) (j : Nat) : yielded ops A.tmps j = yldA ops f j := by
  unfold yielded yldA
  cases hd : (ops[j]?).bind (·.dst) with
  | none => rfl
  | some d =>
    simp only [Option.bind_some]
    rw [hA, List.getElem?_toArray, reals_getElem?]
    cases ht : f.t[d]? with
    | none => rfl
    | some a => cases a <;> first | rfl | (rename_i x; cases x <;> rfl)
theorem wantA_real {ρ : Nat → Place} {ops : Array Oper} {f : Fr} {A : Act} (hA : A.tmps = (AV.reals ρ f.t).toArray) (o : Oper) : Region.wanted o (yielded ops A.tmps) = wantA ops f o := by
  unfold Region.wanted wantA
  cases o.guard with
  | none => rfl
  | some p => obtain ⟨j, want⟩ := p; simp only [yldA_real hA]

section
variable {P : Program} {ρ ρ' : Nat → Place} {f : Fr} {h h' : Hp} {A : Act} {w w' : World} {m : Nat}

theorem Rel.later (R : Rel P ρ f h A w) (H' : HRel P ρ' h' w') (S : Stp h.length ρ h w ρ' h' w') (hl : h.length ≤ h'.length) : Rel P ρ' f h' A w' := by
  refine ⟨?_, scs_mono hl _ R.tsc, ?_, fun d hd => Nat.lt_of_lt_of_le (R.dsc d hd) hl, H'⟩
  · rw [R.tmps, reals_agree S.same _ R.tsc]
  · rw [R.defers]
    exact List.map_congr_left fun d hd => by rw [S.same d (R.dsc d hd)]
theorem Rel.put (R : Rel P ρ f h A w) {v : AV} (d : Option Tmp) (hv : v.sc h.length = true) : Rel P ρ (f.put d v) h (A.put d (v.real ρ)) w := by
  cases d with
  | none => exact R
  | some d =>
    refine ⟨?_, ?_, R.defers, R.dsc, R.heap⟩
    · simp only [Act.put, Fr.put, R.tmps, reals_eq, List.map_set, List.setIfInBounds_toArray]
    · refine (scs_iff _ _).2 fun a ha => ?_
      rcases List.mem_or_eq_of_mem_set ha with h1 | h1
      · exact (scs_iff _ _).1 R.tsc a h1
      · exact h1 ▸ hv

/-! ### Calls -/
/-- What an ending must be. -/
def Post (P : Program) (ρ : Nat → Place) (h : Hp) (w : World) (N : AV → Hp → Prop) (e : Ending) (w' : World) : Prop :=
  ∃ ρ' r h', e = .returned (r.real ρ') ∧ r.sc h'.length = true ∧ h.length ≤ h'.length ∧ N r h' ∧ HRel P ρ' h' w' ∧ Stp h.length ρ h w ρ' h' w'
/-- A CONTRACT over abstract memory. -/
def ACalls (P : Program) (g : FuncId) (args : List AV) (h : Hp) (N : AV → Hp → Prop) : Prop :=
  ∀ ρ w, HRel P ρ h w → AV.scs h.length args = true → Calls P g (AV.reals ρ args).toArray w (Post P ρ h w N)
def setAll (t : List AV) : List (Tmp × AV) → List AV
  | [] => t
  | (p, v) :: r => setAll (t.set p v) r
/-- A call of 'yield', at the record i. -/
def AYld (P : Program) (i : Nat) (args : List AV) (h : Hp) (N : AV → Hp → Prop) : Prop :=
  ∃ st pe tm ps asg bd d, h[i]? = some (.loop st pe tm ps asg bd d) ∧ args.length = ps.size ∧
    ∀ fn ρ w, HRel P ρ h w → AV.scs h.length args = true → RoundIn (Wd none) 0 P (ρ i).b fn (AV.reals ρ (setAll tm (ps.toList.zip args))).toArray asg bd w (Post P ρ h w N)
theorem Post.mono {N N' : AV → Hp → Prop} {e : Ending} (hp : Post P ρ h w N e w') (hn : ∀ r h', h.length ≤ h'.length → r.sc h'.length = true → N r h' → N' r h') : Post P ρ h w N' e w' := by
  obtain ⟨ρ', r, h', h1, h2, h3, h4, h5, h6⟩ := hp
  exact ⟨ρ', r, h', h1, h2, h3, hn r h' h3 h2 h4, h5, h6⟩
theorem ACalls.mono {g : FuncId} {args : List AV} {N N' : AV → Hp → Prop} (hc : ACalls P g args h N) (hn : ∀ r h', h.length ≤ h'.length → N r h' → N' r h') : ACalls P g args h N' :=
  fun ρ w H hs => (hc ρ w H hs).mono fun _ _ hp => hp.mono fun r h' hl _ => hn r h' hl

def callOf (f : Fr) (op : Op) : Option (FuncId × List AV) :=
  match op with
  | .call c => match c.callee with
    | .value x => match ev f x with
      | .fn (.func g) cs => some (g, c.args.toList.map (ev f) ++ cs)
      | _ => none
    | _ => none
  | _ => none
def yldOf (f : Fr) (op : Op) : Option (Nat × List AV) :=
  match op with
  | .call c => match c.callee with
    | .value x => match ev f x with
      | .yld i => some (i, c.args.toList.map (ev f))
      | _ => none
    | _ => none
  | _ => none
def okFn (P : Program) (g : FuncId) : Bool :=
  match P.funcs[g]? with
  | some fn => fn.body.isSome && fn.name != "runtime.NumGoroutine"
  | none => false
theorem run_callFunc {g : FuncId} (hg : okFn P g = true) (args : Array Value) (w : World) : (callFunc g args).run P w = .ok (.enter g args) w := by
  unfold okFn at hg
  split at hg
  · rename_i fn hf
    simp only [Bool.and_eq_true, bne_iff_ne, ne_eq] at hg
    obtain ⟨hb, hn⟩ := hg
    have hn' : (fn.name == "runtime.NumGoroutine") = false := by simpa using hn
    have hb' : fn.body.isNone = false := by cases hq : fn.body <;> simp_all
    simp only [callFunc, Sem.run_bind, run_program, Result.andThen_ok, hf, hn', Bool.false_eq_true, if_false, hb', Sem.run_pure]
  · cases hg

/-- The end of a slice of unknown capacity, cut off: one of two values. -/
def tailOf (P : Program) (f : Fr) (h : Hp) (op : Op) : Option (AV × AV) :=
  match op with
  | .slice t x (some lo) none none => match P.underlying t, ev f x with
    | some (.slice e), .sl i o n c true => match capOk P h e i n c, P.info? e, intOf? (ev f lo) with
      | true, some inf, some a => if a = (n : Int) then some (.sl i o 0 0 false, .sl i (o + n * inf.size) 0 (c + n) true) else none
      | _, _, _ => none
    | _, _ => none
  | _ => none
theorem tailOf_ok (H : HRel P ρ h w) {f : Fr} {A : Act} (hA : A.tmps = (AV.reals ρ f.t).toArray) (hs : AV.scs h.length f.t = true) {o : Oper} {r1 r2 : AV} (hr : tailOf P f h o.op = some (r1, r2)) :
    ∃ r, (r = r1 ∨ r = r2) ∧ (execOp A.eval o).run P w = .ok (.value (r.real ρ)) w ∧ r.sc h.length = true := by
  unfold tailOf at hr
  split at hr <;> first | (cases hr; done) | skip
  rename_i t x lo ho
  split at hr <;> first | (cases hr; done) | skip
  rename_i e i of n c hu hx
  split at hr <;> first | (cases hr; done) | skip
  rename_i inf a hcap hinf ha
  simp only [Option.ite_none_right_eq_some, Option.some.injEq, Prod.mk.injEq] at hr
  obtain ⟨rfl, rfl, rfl⟩ := hr
  obtain ⟨k, hk⟩ := intOf?_spec ha
  have hc := capOk_spec H hcap
  have hsx := ev_sc hs x
  rw [hx] at hsx
  have hb : bnds n n (some (ev f lo)) none none = some (n, n, n) := by
    simp [bnds, bnd, ha]
  have hb3 := run_bnds (P := P) (ρ := ρ) (w := w) (is := true) (bnds_mono_none hb (show n ≤ (ρ i).cap - c by omega))
  simp only [Option.map_none, Option.map_some] at hb3
  have hex : (execOp A.eval o).run P w = .ok (.value (.slice (some (if (ρ i).cap - c = n then (⟨(ρ i).b, (ρ i).o + of, none⟩ : Addr) else (⟨(ρ i).b, (ρ i).o + of, none⟩ : Addr).add (n * inf.size))) 0 ((ρ i).cap - c - n))) w := by
    unfold execOp
    simp only [ho, Option.map_some, Option.map_none, ev_real hA, hx, Instr.sliceAt, Sem.run_bind, run_underlying hu w, Result.andThen_ok, Instr.slice, AV.real, if_true, run_sizeOf hinf w, Sem.run_pure, hb3, Nat.sub_self]
    split <;> rfl
  by_cases hq : (ρ i).cap - c = n
  · refine ⟨_, .inl rfl, ?_, hsx⟩
    rw [hex, if_pos hq]
    simp only [AV.real, Bool.false_eq_true, if_false, hq, Nat.sub_self]
  · refine ⟨_, .inr rfl, ?_, hsx⟩
    rw [hex, if_neg hq]
    simp only [AV.real, if_true, add0, Nat.add_assoc]
    rw [show (ρ i).cap - c - n = (ρ i).cap - (c + n) by omega]
/-- A call through an interface value. -/
def invOf (f : Fr) (op : Op) : Option (TypeId × String × List AV) :=
  match op with
  | .call c => match c.callee with
    | .invoke r name => match ev f r with
      | .ifc t x => some (t, name, x :: c.args.toList.map (ev f))
      | _ => none
    | _ => none
  | _ => none
/-- An operation, whatever it is. -/
def WOp (P : Program) (o : Oper) (f : Fr) (h : Hp) (N : AV → Hp → Prop) : Prop :=
  (∃ r, exL P f h o.op = some r ∧ N r h) ∨ (∃ r h', exH P f h o.op = some (r, h') ∧ N r h') ∨
  (∃ g args, callOf f o.op = some (g, args) ∧ okFn P g = true ∧ ACalls P g args h N) ∨
  (∃ i args, yldOf f o.op = some (i, args) ∧ AYld P i args h N) ∨
  (∃ r1 r2, tailOf P f h o.op = some (r1, r2) ∧ N r1 h ∧ N r2 h) ∨
  (∃ t name args g, invOf f o.op = some (t, name, args) ∧ (∀ v w, (method (P.types.size + Made.depth) t v name).run P w = .ok (g, v) w) ∧ okFn P g = true ∧ ACalls P g args h N)

theorem exL_defer {o : Oper} {r : AV} (hr : exL P f h o.op = some r) : ∀ c, o.op ≠ .defer c := by
  intro c e; rw [e] at hr; cases hr
theorem exH_defer {o : Oper} {r : AV × Hp} (hr : exH P f h o.op = some r) : ∀ c, o.op ≠ .defer c := by
  intro c e; rw [e] at hr; cases hr

theorem setAll_real (ρ : Nat → Place) : ∀ (l : List (Tmp × AV)) (t : List AV), (l.map fun p => (p.1, p.2.real ρ)).foldl (fun (s : Array Value) (p : Tmp × Value) => s.setIfInBounds p.1 p.2) (AV.reals ρ t).toArray = (AV.reals ρ (setAll t l)).toArray
  | [], t => rfl
  | (p, v) :: r, t => by
    simp only [List.map_cons, List.foldl_cons, setAll]
    rw [← setAll_real ρ r (t.set p v)]
    simp only [reals_eq, List.map_set, List.setIfInBounds_toArray]

theorem wop_ok {ro : Option Nat} {Q : Exit → Act → World → Prop} {o : Oper} {N : AV → Hp → Prop} {K : Act → World → Prop} (R : Rel P ρ f h A w) (hw : WOp P o f h N)
    (hK : ∀ ρ' r h' w', N r h' → Rel P ρ' (f.put o.dst r) h' (A.put o.dst (r.real ρ')) w' → HRel P ρ' h' w' → h.length ≤ h'.length → Stp h.length ρ h w ρ' h' w' → K (A.put o.dst (r.real ρ')) w') :
    o.wpIn (Wd ro) 0 P A w K Q := by
  have post : ∀ {e : Ending} {w' : World}, Post P ρ h w N e w' → (match e, w' with | .returned v, w'' => K (A.put o.dst v) w'' | .panicked chain, w'' => Q (.panic chain) A w'' | .outgrown, _ => LetsOut Q) := by
    rintro e w' ⟨ρ', r, h', rfl, hs, hl, hn, hh, st⟩
    exact hK ρ' r h' w' hn ((R.later hh st hl).put o.dst hs) hh hl st
  refine ⟨fun _ _ => trivial, ?_⟩
  rcases hw with ⟨r, hr, hn⟩ | ⟨r, h', hr, hn⟩ | ⟨g, args, hc, hg, hcall⟩ | ⟨i, args, hc, st, pe, tm, ps, asg, bd, d, hi, hlen, hy⟩ | ⟨r1, r2, hr, hn1, hn2⟩ | ⟨t, name, args, g, hc, hmt, hg, hcall⟩
  · rw [semAt_Wd o (exL_defer hr)]
    have hx := exL_ok R.heap R.tmps R.tsc hr
    rw [hx.1]
    exact hK ρ r h w hn (R.put o.dst hx.2) R.heap (Nat.le_refl _) (Stp.refl _ _ _ _)
  · rw [semAt_Wd o (exH_defer hr)]
    obtain ⟨ρ', w', hx, hs, hl, hh, hst⟩ := exH_ok R.heap R.tmps R.tsc hr
    rcases hx with hx | ⟨hx, rfl⟩
    · rw [hx]; exact hK ρ' r h' w' hn ((R.later hh hst hl).put o.dst hs) hh hl hst
    · rw [hx]; exact hK ρ' _ h' w' hn ((R.later hh hst hl).put o.dst hs) hh hl hst
  · unfold callOf at hc
    split at hc <;> first | (cases hc; done) | skip
    rename_i c ho
    split at hc <;> first | (cases hc; done) | skip
    rename_i x hx
    split at hc <;> first | (cases hc; done) | skip
    rename_i g' cs hev
    simp only [Option.some.injEq, Prod.mk.injEq] at hc
    obtain ⟨rfl, rfl⟩ := hc
    have hsx := ev_sc R.tsc x
    rw [hev] at hsx
    have hex : (execOp A.eval o).run P w = .ok (.enter g' (AV.reals ρ (c.args.toList.map (ev f) ++ cs)).toArray) w := by
      unfold execOp
      simp only [ho, resolve, hx, ev_real R.tmps, hev, AV.real, Deferred.ofValue, Sem.run_bind, Sem.run_pure, Result.andThen_ok, invoke, map_real R.tmps, Array.empty_append]
      rw [reals_append]
      simp only [← List.append_toArray]
      exact run_callFunc hg _ _
    rw [semAt_Wd o (by intro c' e; rw [ho] at e; cases e), hex]
    refine ⟨fun h => (by cases h), callsIn_Wd ((hcall ρ w R.heap ?_).mono fun e w' hp => post hp)⟩
    exact scs_append (scs_map R.tsc _) hsx
  · unfold yldOf at hc
    split at hc <;> first | (cases hc; done) | skip
    rename_i c ho
    split at hc <;> first | (cases hc; done) | skip
    rename_i x hx
    split at hc <;> first | (cases hc; done) | skip
    rename_i i' hev
    simp only [Option.some.injEq, Prod.mk.injEq] at hc
    obtain ⟨rfl, rfl⟩ := hc
    obtain ⟨fn, hg⟩ : ∃ fn, w.heap[(ρ i').b]? = some (.loop { state := st, pending := pe, fn, tmps := (AV.reals ρ tm).toArray, params := ps, assign := asg, body := bd, defers := (ρ d).b }) := R.heap.obj i' _ hi
    have hget : (getObj (ρ i').b).run P w = .ok (.loop { state := st, pending := pe, fn, tmps := (AV.reals ρ tm).toArray, params := ps, assign := asg, body := bd, defers := (ρ d).b }) w := by simp only [getObj, Sem.run, hg]
    have hne : ¬ ((AV.reals ρ (c.args.toList.map (ev f))).toArray.size ≠ ps.size) := by
      rw [List.size_toArray, reals_length, hlen]; simp
    have hex : (execOp A.eval o).run P w = .ok (.round (ρ i').b fn (AV.reals ρ (setAll tm (ps.toList.zip (c.args.toList.map (ev f))))).toArray asg bd) w := by
      unfold execOp
      simp only [ho, resolve, hx, ev_real R.tmps, hev, AV.real, Deferred.ofValue, Sem.run_bind, Sem.run_pure, Result.andThen_ok, invoke, map_real R.tmps, Array.empty_append, Instr.yield, Instr.getLoop, hget, hne, if_false]
      congr 2
      rw [← setAll_real, ← Array.foldl_toList]
      congr 1
      simp only [Array.toList_zip, List.toList_toArray, reals_eq, List.zip_map_right]
      rfl
    rw [semAt_Wd o (by intro c' e; rw [ho] at e; cases e), hex]
    exact ⟨fun h => (by cases h), (hy fn ρ w R.heap (scs_map R.tsc _)).mono fun e w' hp => post hp⟩
  · have hd : ∀ c, o.op ≠ .defer c := by
      intro c hc
      rw [hc] at hr
      simp [tailOf] at hr
    rw [semAt_Wd o hd]
    obtain ⟨r, hrr, hx, hs⟩ := tailOf_ok R.heap R.tmps R.tsc hr
    rw [hx]
    have hn : N r h := by rcases hrr with rfl | rfl <;> assumption
    exact hK ρ r h w hn (R.put o.dst hs) R.heap (Nat.le_refl _) (Stp.refl _ _ _ _)

  · unfold invOf at hc
    split at hc <;> first | (cases hc; done) | skip
    rename_i c ho
    split at hc <;> first | (cases hc; done) | skip
    rename_i rc nm hx
    split at hc <;> first | (cases hc; done) | skip
    rename_i t' x hev
    simp only [Option.some.injEq, Prod.mk.injEq] at hc
    obtain ⟨rfl, rfl, rfl⟩ := hc
    have hsx := ev_sc R.tsc rc
    rw [hev] at hsx
    have hex : (execOp A.eval o).run P w = .ok (.enter g (AV.reals ρ (x :: c.args.toList.map (ev f))).toArray) w := by
      unfold execOp
      simp only [ho, resolve, hx, ev_real R.tmps, hev, AV.real, Sem.run_bind, Sem.run_pure, Result.andThen_ok, invoke, map_real R.tmps]
      have e0 : (#[Value.iface t' (x.real ρ)] ++ (AV.reals ρ (c.args.toList.map (ev f))).toArray)[0]? = some (Value.iface t' (x.real ρ)) := by simp
      have e1 : (#[Value.iface t' (x.real ρ)] ++ (AV.reals ρ (c.args.toList.map (ev f))).toArray).extract 1 (#[Value.iface t' (x.real ρ)] ++ (AV.reals ρ (c.args.toList.map (ev f))).toArray).size = (AV.reals ρ (c.args.toList.map (ev f))).toArray := by
        apply Array.ext'
        simp
      simp only [e0, e1, callMethod, Sem.run_bind, run_program, Result.andThen_ok, hmt]
      have e2 : (AV.reals ρ (x :: c.args.toList.map (ev f))).toArray = #[x.real ρ] ++ (AV.reals ρ (c.args.toList.map (ev f))).toArray := by
        apply Array.ext'
        simp [AV.reals]
      rw [e2]
      exact run_callFunc hg _ _
    rw [semAt_Wd o (by intro c' e; rw [ho] at e; cases e), hex]
    refine ⟨fun h => (by cases h), callsIn_Wd ((hcall ρ w R.heap ?_).mono fun e w' hp => post hp)⟩
    simp only [AV.scs, Bool.and_eq_true]
    exact ⟨hsx, scs_map R.tsc _⟩

end
end Go.Az
