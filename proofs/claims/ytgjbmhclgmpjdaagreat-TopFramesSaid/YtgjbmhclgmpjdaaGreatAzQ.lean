/-
  A calculus over abstract memory: 'wk' of a piece of code, and that it says what the model does ('wk_ok'). Conditions: stated at each theorem.
-/
import Derived.Test.YtgjbmhclgmpjdaaGreatAzP
import Derived.RangeFuncLeaves
import Derived.LoopNIn
import Derived.WideShapes
set_option linter.unusedVariables false
set_option linter.unusedSectionVars false
set_option linter.unusedSimpArgs false
set_option linter.unusedVariables false
namespace Go.Az
open Go Go.Chz Go.RowKit

/-! ### Slots -/
def Fr.put (f : Fr) (d : Option Tmp) (v : AV) : Fr :=
  match d with
  | some d => { f with t := f.t.set d v }
  | none => f
def yldA (ops : Array Oper) (f : Fr) (j : Nat) : Option Bool :=
  match ((ops[j]?).bind (·.dst)).bind (f.t[·]?) with
  | some (.v (.bool b)) => some b
  | _ => none
def wantA (ops : Array Oper) (f : Fr) (o : Oper) : Bool :=
  match o.guard with
  | none => true
  | some (j, want) => yldA ops f j == some want
theorem yldA_real {ρ : Nat → Place} {ops : Array Oper} {f : Fr} {A : Act} (hA : A.tmps = (AV.reals ρ f.t).toArray) (j : Nat) : yielded ops A.tmps j = yldA ops f j := by
  unfold yielded yldA
  cases hd : (ops[j]?).bind (·.dst) with
  | none => rfl
  | some d =>
    simp only [Option.bind_some]
    rw [hA, List.getElem?_toArray, reals_getElem?]
    cases ht : f.t[d]? with
    | none => rfl
    | some a => cases a <;> first | rfl | (rename_i x; cases x <;> rfl)
theorem wantA_real {ρ : Nat → Place} {ops : Array Oper} {f : Fr} {A : Act} (hA : A.tmps = (AV.reals ρ f.t).toArray) (o : Oper) : Region.wanted o (yielded ops A.tmps) = wantA ops f o := by
  unfold Region.wanted wantA
  cases o.guard with
  | none => rfl
  | some p => obtain ⟨j, want⟩ := p; simp only [yldA_real hA]

section
variable {P : Program} {ρ ρ' : Nat → Place} {f : Fr} {h h' : Hp} {A : Act} {w w' : World} {m : Nat}

theorem Rel.later (R : Rel P ρ f h A w) (H' : HRel P ρ' h' w') (S : Stp h.length ρ h w ρ' h' w') (hl : h.length ≤ h'.length) : Rel P ρ' f h' A w' := by
  refine ⟨?_, scs_mono hl _ R.tsc, ?_, fun d hd => Dq.mono hl d (R.dsc d hd), H'⟩
  · rw [R.tmps, reals_agree S.same _ R.tsc]
  · rw [R.defers]
    exact List.map_congr_left fun d hd => (Dq.agree S.same d (R.dsc d hd)).symm
theorem Rel.put (R : Rel P ρ f h A w) {v : AV} (d : Option Tmp) (hv : v.sc h.length = true) : Rel P ρ (f.put d v) h (A.put d (v.real ρ)) w := by
  cases d with
  | none => exact R
  | some d =>
    refine ⟨?_, ?_, R.defers, R.dsc, R.heap⟩
    · simp only [Act.put, Fr.put, R.tmps, reals_eq, List.map_set, List.setIfInBounds_toArray]
    · refine (scs_iff _ _).2 fun a ha => ?_
      rcases List.mem_or_eq_of_mem_set ha with h1 | h1
      · exact (scs_iff _ _).1 R.tsc a h1
      · exact h1 ▸ hv

/-! ### Calls -/
/-- What an ending must be. -/
def Post (P : Program) (ρ : Nat → Place) (h : Hp) (w : World) (N : AV → Hp → Prop) (e : Ending) (w' : World) : Prop :=
  ∃ ρ' r h', e = .returned (r.real ρ') ∧ r.sc h'.length = true ∧ h.length ≤ h'.length ∧ N r h' ∧ HRel P ρ' h' w' ∧ Stp h.length ρ h w ρ' h' w'
/-- A CONTRACT over abstract memory. -/
def ACalls (P : Program) (g : FuncId) (args : List AV) (h : Hp) (N : AV → Hp → Prop) : Prop :=
  ∀ ρ w, HRel P ρ h w → AV.scs h.length args = true → Calls P g (AV.reals ρ args).toArray w (Post P ρ h w N)
def setAll (t : List AV) : List (Tmp × AV) → List AV
  | [] => t
  | (p, v) :: r => setAll (t.set p v) r
/-- A call of 'yield', at the record i. -/
def AYld (P : Program) (i : Nat) (args : List AV) (h : Hp) (N : AV → Hp → Prop) : Prop :=
  ∃ st pe tm ps asg bd d, h[i]? = some (.loop st pe tm ps asg bd d) ∧ args.length = ps.size ∧
    ∀ fn ρ w, HRel P ρ h w → AV.scs h.length args = true → RoundIn (Wd none) 0 P (ρ i).b fn (AV.reals ρ (setAll tm (ps.toList.zip args))).toArray asg bd w (Post P ρ h w N)
theorem Post.mono {N N' : AV → Hp → Prop} {e : Ending} (hp : Post P ρ h w N e w') (hn : ∀ r h', h.length ≤ h'.length → r.sc h'.length = true → N r h' → N' r h') : Post P ρ h w N' e w' := by
  obtain ⟨ρ', r, h', h1, h2, h3, h4, h5, h6⟩ := hp
  exact ⟨ρ', r, h', h1, h2, h3, hn r h' h3 h2 h4, h5, h6⟩
theorem ACalls.mono {g : FuncId} {args : List AV} {N N' : AV → Hp → Prop} (hc : ACalls P g args h N) (hn : ∀ r h', h.length ≤ h'.length → N r h' → N' r h') : ACalls P g args h N' :=
  fun ρ w H hs => (hc ρ w H hs).mono fun _ _ hp => hp.mono fun r h' hl _ => hn r h' hl

def callOf (f : Fr) (op : Op) : Option (FuncId × List AV) :=
  match op with
  | .call c => match c.callee with
    | .value x => match ev f x with
      | .fn (.func g) cs => some (g, c.args.toList.map (ev f) ++ cs)
      | _ => none
    | _ => none
  | _ => none
def yldOf (f : Fr) (op : Op) : Option (Nat × List AV) :=
  match op with
  | .call c => match c.callee with
    | .value x => match ev f x with
      | .yld i => some (i, c.args.toList.map (ev f))
      | _ => none
    | _ => none
  | _ => none
def okFn (P : Program) (g : FuncId) : Bool :=
  match P.funcs[g]? with
  | some fn => fn.body.isSome && fn.name != "runtime.NumGoroutine"
  | none => false
theorem run_callFunc {g : FuncId} (hg : okFn P g = true) (args : Array Value) (w : World) : (callFunc g args).run P w = .ok (.enter g args) w := by
  unfold okFn at hg
  split at hg
  · rename_i fn hf
    simp only [Bool.and_eq_true, bne_iff_ne, ne_eq] at hg
    obtain ⟨hb, hn⟩ := hg
    have hn' : (fn.name == "runtime.NumGoroutine") = false := by simpa using hn
    have hb' : fn.body.isNone = false := by cases hq : fn.body <;> simp_all
    simp only [callFunc, Sem.run_bind, run_program, Result.andThen_ok, hf, hn', Bool.false_eq_true, if_false, hb', Sem.run_pure]
  · cases hg

/-- The end of a slice of unknown capacity, cut off: one of two values. -/
def tailOf (P : Program) (f : Fr) (h : Hp) (op : Op) : Option (AV × AV) :=
  match op with
  | .slice t x (some lo) none none => match P.underlying t, ev f x with
    | some (.slice e), .sl i o n c true => match capOk P h e i n c, P.info? e, intOf? (ev f lo) with
      | true, some inf, some a => if a = (n : Int) then some (.sl i o 0 0 false, .sl i (o + n * inf.size) 0 (c + n) true) else none
      | _, _, _ => none
    | _, _ => none
  | _ => none
theorem tailOf_ok (H : HRel P ρ h w) {f : Fr} {A : Act} (hA : A.tmps = (AV.reals ρ f.t).toArray) (hs : AV.scs h.length f.t = true) {o : Oper} {r1 r2 : AV} (hr : tailOf P f h o.op = some (r1, r2)) :
    ∃ r, (r = r1 ∨ r = r2) ∧ (execOp A.eval o).run P w = .ok (.value (r.real ρ)) w ∧ r.sc h.length = true := by
  unfold tailOf at hr
  split at hr <;> first | (cases hr; done) | skip
  rename_i t x lo ho
  split at hr <;> first | (cases hr; done) | skip
  rename_i e i of n c hu hx
  split at hr <;> first | (cases hr; done) | skip
  rename_i inf a hcap hinf ha
  simp only [Option.ite_none_right_eq_some, Option.some.injEq, Prod.mk.injEq] at hr
  obtain ⟨rfl, rfl, rfl⟩ := hr
  obtain ⟨k, hk⟩ := intOf?_spec ha
  have hc := capOk_spec H hcap
  have hsx := ev_sc hs x
  rw [hx] at hsx
  have hb : bnds n n (some (ev f lo)) none none = some (n, n, n) := by
    simp [bnds, bnd, ha]
  have hb3 := run_bnds (P := P) (ρ := ρ) (w := w) (is := true) (bnds_mono_none hb (show n ≤ (ρ i).cap - c by omega))
  simp only [Option.map_none, Option.map_some] at hb3
  have hex : (execOp A.eval o).run P w = .ok (.value (.slice (some (if (ρ i).cap - c = n then (⟨(ρ i).b, (ρ i).o + of, none⟩ : Addr) else (⟨(ρ i).b, (ρ i).o + of, none⟩ : Addr).add (n * inf.size))) 0 ((ρ i).cap - c - n))) w := by
    unfold execOp
    simp only [ho, Option.map_some, Option.map_none, ev_real hA, hx, Instr.sliceAt, Sem.run_bind, run_underlying hu w, Result.andThen_ok, Instr.slice, AV.real, if_true, run_sizeOf hinf w, Sem.run_pure, hb3, Nat.sub_self]
    split <;> rfl
  by_cases hq : (ρ i).cap - c = n
  · refine ⟨_, .inl rfl, ?_, hsx⟩
    rw [hex, if_pos hq]
    simp only [AV.real, Bool.false_eq_true, if_false, hq, Nat.sub_self]
  · refine ⟨_, .inr rfl, ?_, hsx⟩
    rw [hex, if_neg hq]
    simp only [AV.real, if_true, add0, Nat.add_assoc]
    rw [show (ρ i).cap - c - n = (ρ i).cap - (c + n) by omega]
/-- A call through an interface value. -/
def invOf (f : Fr) (op : Op) : Option (TypeId × String × List AV) :=
  match op with
  | .call c => match c.callee with
    | .invoke r name => match ev f r with
      | .ifc t x => some (t, name, x :: c.args.toList.map (ev f))
      | _ => none
    | _ => none
  | _ => none
/-- An operation, whatever it is. -/
def WOp (P : Program) (o : Oper) (f : Fr) (h : Hp) (N : AV → Hp → Prop) : Prop :=
  (∃ r, exL P f h o.op = some r ∧ N r h) ∨ (∃ r h', exH P f h o.op = some (r, h') ∧ N r h') ∨
  (∃ g args, callOf f o.op = some (g, args) ∧ okFn P g = true ∧ ACalls P g args h N) ∨
  (∃ i args, yldOf f o.op = some (i, args) ∧ AYld P i args h N) ∨
  (∃ r1 r2, tailOf P f h o.op = some (r1, r2) ∧ N r1 h ∧ N r2 h) ∨
  (∃ t name args g, invOf f o.op = some (t, name, args) ∧ (∀ v w, (method (P.types.size + Made.depth) t v name).run P w = .ok (g, v) w) ∧ okFn P g = true ∧ ACalls P g args h N)

theorem exL_defer {o : Oper} {r : AV} (hr : exL P f h o.op = some r) : ∀ c, o.op ≠ .defer c := by
  intro c e; rw [e] at hr; cases hr
theorem exH_defer {o : Oper} {r : AV × Hp} (hr : exH P f h o.op = some r) : ∀ c, o.op ≠ .defer c := by
  intro c e; rw [e] at hr; cases hr

theorem setAll_real (ρ : Nat → Place) : ∀ (l : List (Tmp × AV)) (t : List AV), (l.map fun p => (p.1, p.2.real ρ)).foldl (fun (s : Array Value) (p : Tmp × Value) => s.setIfInBounds p.1 p.2) (AV.reals ρ t).toArray = (AV.reals ρ (setAll t l)).toArray
  | [], t => rfl
  | (p, v) :: r, t => by
    simp only [List.map_cons, List.foldl_cons, setAll]
    rw [← setAll_real ρ r (t.set p v)]
    simp only [reals_eq, List.map_set, List.setIfInBounds_toArray]

theorem wop_ok {ro : Option Nat} {Q : Exit → Act → World → Prop} {o : Oper} {N : AV → Hp → Prop} {K : Act → World → Prop} (R : Rel P ρ f h A w) (hw : WOp P o f h N)
    (hK : ∀ ρ' r h' w', N r h' → Rel P ρ' (f.put o.dst r) h' (A.put o.dst (r.real ρ')) w' → HRel P ρ' h' w' → h.length ≤ h'.length → Stp h.length ρ h w ρ' h' w' → K (A.put o.dst (r.real ρ')) w') :
    o.wpIn (Wd ro) 0 P A w K Q := by
  have post : ∀ {e : Ending} {w' : World}, Post P ρ h w N e w' → (match e, w' with | .returned v, w'' => K (A.put o.dst v) w'' | .panicked chain, w'' => Q (.panic chain) A w'' | .outgrown, _ => LetsOut Q) := by
    rintro e w' ⟨ρ', r, h', rfl, hs, hl, hn, hh, st⟩
    exact hK ρ' r h' w' hn ((R.later hh st hl).put o.dst hs) hh hl st
  refine ⟨fun _ _ => trivial, ?_⟩
  rcases hw with ⟨r, hr, hn⟩ | ⟨r, h', hr, hn⟩ | ⟨g, args, hc, hg, hcall⟩ | ⟨i, args, hc, st, pe, tm, ps, asg, bd, d, hi, hlen, hy⟩ | ⟨r1, r2, hr, hn1, hn2⟩ | ⟨t, name, args, g, hc, hmt, hg, hcall⟩
  · rw [semAt_Wd o (exL_defer hr)]
    have hx := exL_ok R.heap R.tmps R.tsc hr
    rw [hx.1]
    exact hK ρ r h w hn (R.put o.dst hx.2) R.heap (Nat.le_refl _) (Stp.refl _ _ _ _)
  · rw [semAt_Wd o (exH_defer hr)]
    obtain ⟨ρ', w', hx, hs, hl, hh, hst⟩ := exH_ok R.heap R.tmps R.tsc hr
    rcases hx with hx | ⟨hx, rfl⟩
    · rw [hx]; exact hK ρ' r h' w' hn ((R.later hh hst hl).put o.dst hs) hh hl hst
    · rw [hx]; exact hK ρ' _ h' w' hn ((R.later hh hst hl).put o.dst hs) hh hl hst
  · unfold callOf at hc
    split at hc <;> first | (cases hc; done) | skip
    rename_i c ho
    split at hc <;> first | (cases hc; done) | skip
    rename_i x hx
    split at hc <;> first | (cases hc; done) | skip
    rename_i g' cs hev
    simp only [Option.some.injEq, Prod.mk.injEq] at hc
    obtain ⟨rfl, rfl⟩ := hc
    have hsx := ev_sc R.tsc x
    rw [hev] at hsx
    have hex : (execOp A.eval o).run P w = .ok (.enter g' (AV.reals ρ (c.args.toList.map (ev f) ++ cs)).toArray) w := by
      unfold execOp
      simp only [ho, resolve, hx, ev_real R.tmps, hev, AV.real, Deferred.ofValue, Sem.run_bind, Sem.run_pure, Result.andThen_ok, invoke, map_real R.tmps, Array.empty_append]
      rw [reals_append]
      simp only [← List.append_toArray]
      exact run_callFunc hg _ _
    rw [semAt_Wd o (by intro c' e; rw [ho] at e; cases e), hex]
    refine ⟨fun h => (by cases h), callsIn_Wd ((hcall ρ w R.heap ?_).mono fun e w' hp => post hp)⟩
    exact scs_append (scs_map R.tsc _) hsx
  · unfold yldOf at hc
    split at hc <;> first | (cases hc; done) | skip
    rename_i c ho
    split at hc <;> first | (cases hc; done) | skip
    rename_i x hx
    split at hc <;> first | (cases hc; done) | skip
    rename_i i' hev
    simp only [Option.some.injEq, Prod.mk.injEq] at hc
    obtain ⟨rfl, rfl⟩ := hc
    obtain ⟨fn, hg⟩ : ∃ fn, w.heap[(ρ i').b]? = some (.loop { state := st, pending := pe, fn, tmps := (AV.reals ρ tm).toArray, params := ps, assign := asg, body := bd, defers := (ρ d).b }) := R.heap.obj i' _ hi
    have hget : (getObj (ρ i').b).run P w = .ok (.loop { state := st, pending := pe, fn, tmps := (AV.reals ρ tm).toArray, params := ps, assign := asg, body := bd, defers := (ρ d).b }) w := by simp only [getObj, Sem.run, hg]
    have hne : ¬ ((AV.reals ρ (c.args.toList.map (ev f))).toArray.size ≠ ps.size) := by
      rw [List.size_toArray, reals_length, hlen]; simp
    have hex : (execOp A.eval o).run P w = .ok (.round (ρ i').b fn (AV.reals ρ (setAll tm (ps.toList.zip (c.args.toList.map (ev f))))).toArray asg bd) w := by
      unfold execOp
      simp only [ho, resolve, hx, ev_real R.tmps, hev, AV.real, Deferred.ofValue, Sem.run_bind, Sem.run_pure, Result.andThen_ok, invoke, map_real R.tmps, Array.empty_append, Instr.yield, Instr.getLoop, hget, hne, if_false]
      congr 2
      rw [← setAll_real, ← Array.foldl_toList]
      congr 1
      simp only [Array.toList_zip, List.toList_toArray, reals_eq, List.zip_map_right]
      rfl
    rw [semAt_Wd o (by intro c' e; rw [ho] at e; cases e), hex]
    exact ⟨fun h => (by cases h), (hy fn ρ w R.heap (scs_map R.tsc _)).mono fun e w' hp => post hp⟩
  · have hd : ∀ c, o.op ≠ .defer c := by
      intro c hc
      rw [hc] at hr
      simp [tailOf] at hr
    rw [semAt_Wd o hd]
    obtain ⟨r, hrr, hx, hs⟩ := tailOf_ok R.heap R.tmps R.tsc hr
    rw [hx]
    have hn : N r h := by rcases hrr with rfl | rfl <;> assumption
    exact hK ρ r h w hn (R.put o.dst hs) R.heap (Nat.le_refl _) (Stp.refl _ _ _ _)

  · unfold invOf at hc
    split at hc <;> first | (cases hc; done) | skip
    rename_i c ho
    split at hc <;> first | (cases hc; done) | skip
    rename_i rc nm hx
    split at hc <;> first | (cases hc; done) | skip
    rename_i t' x hev
    simp only [Option.some.injEq, Prod.mk.injEq] at hc
    obtain ⟨rfl, rfl, rfl⟩ := hc
    have hsx := ev_sc R.tsc rc
    rw [hev] at hsx
    have hex : (execOp A.eval o).run P w = .ok (.enter g (AV.reals ρ (x :: c.args.toList.map (ev f))).toArray) w := by
      unfold execOp
      simp only [ho, resolve, hx, ev_real R.tmps, hev, AV.real, Sem.run_bind, Sem.run_pure, Result.andThen_ok, invoke, map_real R.tmps]
      have e0 : (#[Value.iface t' (x.real ρ)] ++ (AV.reals ρ (c.args.toList.map (ev f))).toArray)[0]? = some (Value.iface t' (x.real ρ)) := by simp
      have e1 : (#[Value.iface t' (x.real ρ)] ++ (AV.reals ρ (c.args.toList.map (ev f))).toArray).extract 1 (#[Value.iface t' (x.real ρ)] ++ (AV.reals ρ (c.args.toList.map (ev f))).toArray).size = (AV.reals ρ (c.args.toList.map (ev f))).toArray := by
        apply Array.ext'
        simp
      simp only [e0, e1, callMethod, Sem.run_bind, run_program, Result.andThen_ok, hmt]
      have e2 : (AV.reals ρ (x :: c.args.toList.map (ev f))).toArray = #[x.real ρ] ++ (AV.reals ρ (c.args.toList.map (ev f))).toArray := by
        apply Array.ext'
        simp [AV.reals]
      rw [e2]
      exact run_callFunc hg _ _
    rw [semAt_Wd o (by intro c' e; rw [ho] at e; cases e), hex]
    refine ⟨fun h => (by cases h), callsIn_Wd ((hcall ρ w R.heap ?_).mono fun e w' hp => post hp)⟩
    simp only [AV.scs, Bool.and_eq_true]
    exact ⟨hsx, scs_map R.tsc _⟩

end
end Go.Az
/-
  'wk' of a piece of code over abstract memory, and that it says what the model does ('wk_ok'); loops; functions. Conditions: stated at each theorem.
-/
set_option linter.unusedSimpArgs false
set_option linter.unusedVariables false
namespace Go.Az
open Go Go.Chz Go.RowKit

/-- What the ways out of a piece of code must be. -/
def AQ (P : Program) (m : Nat) (ρ : Nat → Place) (h : Hp) (w : World) (K : Exit → Fr → Hp → Prop) : Exit → Act → World → Prop
  | .outgrown, _, _ => False
  | e, A, w' => ∃ ρ' f' h', K e f' h' ∧ Rel P ρ' f' h' A w' ∧ Stp m ρ h w ρ' h' w' ∧ m ≤ h'.length
/-- .. where nothing panics. -/
def AQn (P : Program) (m : Nat) (ρ : Nat → Place) (h : Hp) (w : World) (K : Exit → Fr → Hp → Prop) : Exit → Act → World → Prop
  | .panic _, _, _ => False
  | e, A, w' => AQ P m ρ h w K e A w'
def AW (P : Program) (m : Nat) (ro : Option Nat) (c : Code) (K : Exit → Fr → Hp → Prop) (f : Fr) (h : Hp) : Prop :=
  (∀ i, ro = some i → i < m) → m ≤ h.length → ∀ ρ A w, Rel P ρ f h A w → c.wpIn (Wd (ro.map fun i => (ρ i).b)) 0 P (AQ P m ρ h w K) A w

/-- The objects of the first memory that are named in it lie so in the second. -/
def Keeps : Hp → Hp → Prop
  | [], _ => True
  | .gone :: r, [] => Keeps r []
  | .gone :: r, _ :: r' => Keeps r r'
  | _ :: _, [] => False
  | o :: r, o' :: r' => o = o' ∧ Keeps r r'
theorem Keeps.get : ∀ {a b : Hp}, Keeps a b → ∀ (i : Nat) (o : AObj), a[i]? = some o → o = .gone ∨ b[i]? = some o
  | [], _, _, i, o, hi => by simp at hi
  | x :: r, [], hk, i, o, hi => by
    cases x with
    | gone =>
      simp only [Keeps] at hk
      cases i with
      | zero => simp at hi; exact .inl hi.symm
      | succ i => exact Keeps.get hk i o (by simpa using hi)
    | _ => simp [Keeps] at hk
  | x :: r, y :: r', hk, i, o, hi => by
    have key : (x = .gone ∨ x = y) ∧ Keeps r r' := by cases x <;> simp_all [Keeps]
    cases i with
    | zero => simp at hi ⊢; subst hi; rcases key.1 with h | h <;> simp [h]
    | succ i => exact Keeps.get key.2 i o (by simpa using hi)
theorem keeps_of {a b : Hp} (hl : a.length ≤ b.length) (hk : ∀ (i : Nat) (o : AObj), a[i]? = some o → o = .gone ∨ b[i]? = some o) : Keeps a b := by
  induction a generalizing b with
  | nil => trivial
  | cons x r ih =>
    cases b with
    | nil => simp at hl
    | cons y s =>
      have h0 := hk 0 x (by simp)
      have hr : Keeps r s := ih (by simpa using hl) fun i o hi => by have := hk (i + 1) o (by simpa using hi); simpa using this
      rcases h0 with rfl | h0
      · exact hr
      · simp at h0; subst h0
        cases y <;> first | exact hr | exact ⟨rfl, hr⟩
def maskH (l : List Nat) (h : Hp) : Hp := l.foldl (fun h i => h.set i .gone) h
theorem maskH_length : ∀ (l : List Nat) (h : Hp), (maskH l h).length = h.length
  | [], h => rfl
  | i :: l, h => by rw [maskH, List.foldl_cons]; exact (maskH_length l (h.set i .gone)).trans (by simp)
theorem HRel.mask {P : Program} {ρ : Nat → Place} {w : World} : ∀ (l : List Nat) {h : Hp}, HRel P ρ h w → HRel P ρ (maskH l h) w
  | [], _, H => H
  | i :: l, h, H => HRel.mask l (H.drop i)
theorem HRel.keeps {P : Program} {ρ : Nat → Place} {w : World} {h0 h : Hp} (H : HRel P ρ h w) (hk : Keeps h0 h) (hs : ∀ (i : Nat) (o : AObj), h0[i]? = some o → o.sc h0.length = true) : HRel P ρ h0 w := by
  refine ⟨fun i o hi => ?_, hs, fun i j o o' hi hj ho ho' hne => ?_⟩
  · rcases hk.get i o hi with rfl | h1
    · trivial
    · exact H.obj i o h1
  · rcases hk.get i o hi with rfl | h1
    · cases ho
    · rcases hk.get j o' hj with rfl | h2
      · cases ho'
      · exact H.apart i j o o' h1 h2 ho ho' hne

/-- As long as another memory. -/
def padH (h0 h : Hp) : Hp := h0 ++ List.replicate (h.length - h0.length) .gone
theorem padH_length (h0 h : Hp) (hl : h0.length ≤ h.length) : (padH h0 h).length = h.length := by simp [padH]; omega
theorem HRel.pad {P : Program} {ρ : Nat → Place} {w : World} {h0 : Hp} (H : HRel P ρ h0 w) (h : Hp) (hl : h0.length ≤ h.length) : HRel P ρ (padH h0 h) w := by
  have hsplit : ∀ (j : Nat) (y : AObj), (padH h0 h)[j]? = some y → h0[j]? = some y ∨ y = .gone := by
    intro j y hj
    unfold padH at hj
    by_cases hlt : j < h0.length
    · rw [List.getElem?_append_left hlt] at hj; exact .inl hj
    · rw [List.getElem?_append_right (by omega)] at hj
      exact .inr (List.eq_of_mem_replicate (List.mem_of_getElem? hj))
  refine ⟨fun j y hj => ?_, fun j y hj => ?_, fun j k y z hj hk hy hz hne => ?_⟩
  · rcases hsplit j y hj with h1 | rfl
    · exact H.obj j y h1
    · trivial
  · rw [padH_length h0 h hl]
    rcases hsplit j y hj with h1 | rfl
    · exact AObj.sc_mono hl (H.sc j y h1)
    · rfl
  · rcases hsplit j y hj with h1 | rfl
    · rcases hsplit k z hk with h2 | rfl
      · exact H.apart j k y z h1 h2 hy hz hne
      · cases hz
    · cases hy

/-! ### Regions -/
def wkL (P : Program) (ops : Array Oper) : List Nat → (Fr → Hp → Prop) → Fr → Hp → Prop
  | [], K, f, h => K f h
  | i :: r, K, f, h => match ops[i]? with
    | none => wkL P ops r K f h
    | some o => if wantA ops f o = true then WOp P o f h (fun v h' => wkL P ops r K (f.put o.dst v) h') else wkL P ops r K (f.put o.dst (.v undef)) h
def wkD (P : Program) (ops : Array Oper) (h0 : Hp) : List (Nat × Bool) → (Fr → Hp → Prop) → Fr → Hp → Prop
  | [], K, f, h => K f h
  | (i, true) :: r, K, f, h => match ops[i]? with
    | none => False
    | some o => if wantA ops f o = true then ∃ v, exL P f (padH h0 h) o.op = some v ∧ wkD P ops h0 r K (f.put o.dst v) h else wkD P ops h0 r K (f.put o.dst (.v undef)) h
  | (i, false) :: r, K, f, h => match ops[i]? with
    | none => False
    | some o => if wantA ops f o = true then WOp P o f h (fun v h' => Keeps h0 h' ∧ wkD P ops h0 r K (f.put o.dst v) h') else wkD P ops h0 r K (f.put o.dst (.v undef)) h

section
variable {P : Program} {ρ : Nat → Place} {f : Fr} {h : Hp} {A : Act} {w : World} {m : Nat} {ro : Option Nat} {K : Exit → Fr → Hp → Prop}

theorem AQ.trans {ρ' : Nat → Place} {h' : Hp} {w' : World} (S : Stp m ρ h w ρ' h' w') {e : Exit} {A' : Act} {w'' : World} (hq : AQ P m ρ' h' w' K e A' w'') : AQ P m ρ h w K e A' w'' := by
  cases e <;> first
    | exact hq
    | (obtain ⟨ρ2, f2, h2, hk, R, S2, hm⟩ := hq; exact ⟨ρ2, f2, h2, hk, R, S.trans S2 (Nat.le_refl _), hm⟩)

theorem wkL_ok {ops : Array Oper} {F : Option Nat} {Q : Exit → Act → World → Prop} {K : Fr → Hp → Prop} : ∀ (l : List Nat) (f : Fr) (h : Hp) (A : Act) (w : World) (ρ : Nat → Place), Rel P ρ f h A w → wkL P ops l K f h →
    (∀ ρ' f' h' A' w', K f' h' → Rel P ρ' f' h' A' w' → h.length ≤ h'.length → Stp h.length ρ h w ρ' h' w' → Q .normal A' w') → wpOpsIn (Wd F) 0 P ops Q l A w
  | [], f, h, A, w, ρ, R, hk, hQ => hQ ρ f h A w hk R (Nat.le_refl _) (Stp.refl _ _ _ _)
  | i :: r, f, h, A, w, ρ, R, hk, hQ => by
    simp only [wkL] at hk
    simp only [wpOpsIn]
    cases ho : ops[i]? with
    | none =>
      simp only [ho] at hk ⊢
      exact wkL_ok r f h A w ρ R hk hQ
    | some o =>
      simp only [ho] at hk ⊢
      rw [wantA_real R.tmps]
      split
      · rename_i hw
        rw [if_pos hw] at hk
        refine wop_ok R hk fun ρ' v h' w' hn R' H' hl S => ?_
        exact wkL_ok r _ h' _ w' ρ' R' hn fun ρ2 f2 h2 A2 w2 hk2 R2 hl2 S2 => hQ ρ2 f2 h2 A2 w2 hk2 R2 (Nat.le_trans hl hl2) (S.trans S2 hl)
      · rename_i hw
        rw [if_neg hw] at hk
        exact ⟨fun _ _ => trivial, wkL_ok r _ h _ w ρ (R.put o.dst rfl) hk hQ⟩

theorem wkD_ok {ops : Array Oper} {F : Option Nat} {Q : Exit → Act → World → Prop} {K : Fr → Hp → Prop} {h0 : Hp} {ρ0 : Nat → Place} (hs0 : ∀ (i : Nat) (o : AObj), h0[i]? = some o → o.sc h0.length = true) :
    ∀ (l : List (Nat × Bool)) (f : Fr) (h : Hp) (A : Act) (w : World) (ρ : Nat → Place), Rel P ρ f h A w → h0.length ≤ h.length → (∀ i, i < h0.length → ρ i = ρ0 i) → HRel P ρ0 h0 w → wkD P ops h0 l K f h →
    (∀ ρ' f' h' A' w', K f' h' → Rel P ρ' f' h' A' w' → h.length ≤ h'.length → Stp h.length ρ h w ρ' h' w' → Q .normal A' w') → along F 0 P ops Q (fun w => HRel P ρ0 h0 w) l A w
  | [], f, h, A, w, ρ, R, hl0, hρ, hS, hk, hQ => hQ ρ f h A w hk R (Nat.le_refl _) (Stp.refl _ _ _ _)
  | (i, true) :: r, f, h, A, w, ρ, R, hl0, hρ, hS, hk, hQ => by
    simp only [wkD] at hk
    cases ho : ops[i]? with
    | none => simp only [ho] at hk
    | some o =>
      simp only [ho] at hk
      split at hk
      · rename_i hw
        obtain ⟨v, hv, hk⟩ := hk
        have hp : ∀ w, HRel P ρ0 h0 w → HRel P ρ (padH h0 h) w := fun w H => (H.agree hρ).pad h hl0
        have hs : AV.scs (padH h0 h).length f.t = true := by rw [padH_length h0 h hl0]; exact R.tsc
        have hsc := (exL_ok (hp w hS) R.tmps hs hv).2
        rw [padH_length h0 h hl0] at hsc
        refine ⟨o, v.real ρ, ho, ?_, wkD_ok hs0 r _ h _ w ρ (R.put o.dst hsc) hl0 hρ hS hk hQ⟩
        unfold Gives
        rw [wantA_real R.tmps, if_pos hw]
        exact fun w' hS' => (exL_ok (hp w' hS') R.tmps hs hv).1
      · rename_i hw
        refine ⟨o, undef, ho, ?_, ?_⟩
        · unfold Gives
          rw [wantA_real R.tmps, if_neg hw]
        · exact wkD_ok hs0 r _ h _ w ρ (R.put (v := .v undef) o.dst rfl) hl0 hρ hS hk hQ
  | (i, false) :: r, f, h, A, w, ρ, R, hl0, hρ, hS, hk, hQ => by
    simp only [wkD] at hk
    cases ho : ops[i]? with
    | none => simp only [ho] at hk
    | some o =>
      simp only [ho] at hk
      simp only [along, wpOpIn, ho]
      rw [wantA_real R.tmps]
      split
      · rename_i hw
        rw [if_pos hw] at hk
        refine wop_ok R hk fun ρ' v h' w' hn R' H' hl S => ?_
        have hρ' : ∀ i, i < h0.length → ρ' i = ρ0 i := fun i hi => (S.same i (Nat.lt_of_lt_of_le hi hl0)).trans (hρ i hi)
        have hS' : HRel P ρ0 h0 w' := (H'.keeps hn.1 hs0).agree fun i hi => (hρ' i hi).symm
        refine ⟨hS', ?_⟩
        exact wkD_ok hs0 r _ h' _ w' ρ' R' (Nat.le_trans hl0 hl) hρ' hS' hn.2 fun ρ2 f2 h2 A2 w2 hk2 R2 hl2 S2 => hQ ρ2 f2 h2 A2 w2 hk2 R2 (Nat.le_trans hl hl2) (S.trans S2 hl)
      · rename_i hw
        rw [if_neg hw] at hk
        exact ⟨fun _ _ => trivial, hS, wkD_ok hs0 r _ h _ w ρ (R.put (v := .v undef) o.dst rfl) hl0 hρ hS hk hQ⟩

/-! ### Drawn regions along a tree -/
/-- What was read lies as it lay, where nothing that must come behind the reading was done. -/
def stayT (ops : Array Oper) (hv : List Nat) (l : Array Bool) : List (Nat × Nat) → Hp → Hp → Prop
  | [], _, _ => True
  | p :: r, h, h' => (beh ops hv l p.1 = true ∨ h'[p.2]? = h[p.2]?) ∧ stayT ops hv l r h h'
theorem stayT_iff {ops : Array Oper} {hv : List Nat} {l : Array Bool} {h h' : Hp} : ∀ {pd : List (Nat × Nat)}, stayT ops hv l pd h h' ↔ ∀ p ∈ pd, beh ops hv l p.1 = true ∨ h'[p.2]? = h[p.2]?
  | [] => by simp [stayT]
  | p :: r => by simp [stayT, stayT_iff (pd := r)]
theorem stayT_same {ops : Array Oper} {hv : List Nat} {l : Array Bool} {h : Hp} (pd : List (Nat × Nat)) : stayT ops hv l pd h h := stayT_iff.2 fun _ _ => .inr rfl
def stayG (gone : List Nat) : List (Nat × Nat) → Hp → Hp → Prop
  | [], _, _ => True
  | p :: r, h, h' => (gone.contains p.1 = true ∨ h'[p.2]? = h[p.2]?) ∧ stayG gone r h h'
theorem stayG_iff {gone : List Nat} {h h' : Hp} : ∀ {pd : List (Nat × Nat)}, stayG gone pd h h' ↔ ∀ p ∈ pd, gone.contains p.1 = true ∨ h'[p.2]? = h[p.2]?
  | [] => by simp [stayG]
  | p :: r => by simp [stayG, stayG_iff (pd := r)]
theorem stayG_same {gone : List Nat} {h : Hp} (pd : List (Nat × Nat)) : stayG gone pd h h := stayG_iff.2 fun _ _ => .inr rfl
theorem stayT_of_G {ops : Array Oper} {hv : List Nat} {l : Array Bool} {h h' : Hp} {gone : List Nat} {pd : List (Nat × Nat)} (hg : gone.all (fun q => beh ops hv l q) = true) (hs : stayG gone pd h h') : stayT ops hv l pd h h' :=
  stayT_iff.2 fun p hp => by
    rcases stayG_iff.1 hs p hp with h1 | h1
    · exact .inl (List.all_eq_true.1 hg p.1 (by simpa using h1))
    · exact .inr h1
def wkT (P : Program) (ops : Array Oper) : Ord → List (Nat × Nat) → (Fr → Hp → Prop) → Fr → Hp → Prop
  | .done, _, K, f, h => K f h
  | .no, _, _, _, _ => True
  | .light i r, pd, K, f, h => match ops[i]? with
    | none => False
    | some o => if wantA ops f o = true then ∃ v, exL P f h o.op = some v ∧ wkT P ops r ((readsOf f o.op).map (fun x => (i, x)) ++ pd) K (f.put o.dst v) h else wkT P ops r pd K (f.put o.dst (.v undef)) h
  | .alt i gone r rest, pd, K, f, h => (match ops[i]? with
    | none => False
    | some o => if wantA ops f o = true then WOp P o f h (fun v h' => stayG gone pd h h' ∧ wkT P ops r pd K (f.put o.dst v) h') else wkT P ops r pd K (f.put o.dst (.v undef)) h) ∧ wkT P ops rest pd K f h
/-- What S may be taken to say. -/
def Sok (P : Program) (ops : Array Oper) (hv : List Nat) (S : Array Bool → World → Prop) (ρ : Nat → Place) (h : Hp) (pd : List (Nat × Nat)) (l : Array Bool) : Prop :=
  ∀ l' ρ' h' w', (∀ j, l.getD j false = true → l'.getD j false = true) → HRel P ρ' h' w' → (∀ i, i < h.length → ρ' i = ρ i) → h.length ≤ h'.length → stayT ops hv l' pd h h' → S l' w'
theorem HRel.kept {ρ' : Nat → Place} {h h' : Hp} {w' : World} {rd : List Nat} (hs : ∀ (i : Nat) (o : AObj), h[i]? = some o → o.sc h.length = true) (H : HRel P ρ' h' w') (hρ : ∀ i, i < h.length → ρ' i = ρ i) (hl : h.length ≤ h'.length) (hr : ∀ x ∈ rd, h'[x]? = h[x]?) : HRel P ρ (keepH rd h) w' := by
  have hk : Keeps (keepH rd h) h' := keeps_of (by rw [keepH_length]; exact hl) fun i o hi => by
    rw [keepH_get] at hi
    obtain ⟨o', ho', rfl⟩ := Option.map_eq_some_iff.1 hi
    split
    · rename_i hc
      exact .inr ((hr i (by simpa using hc)).trans ho')
    · exact .inl rfl
  refine (HRel.keeps H hk fun i o hi => ?_).agree fun i hi => (hρ i (by rwa [keepH_length] at hi)).symm
  rw [keepH_length]
  rw [keepH_get] at hi
  obtain ⟨o', ho', rfl⟩ := Option.map_eq_some_iff.1 hi
  split
  · exact hs i o' ho'
  · rfl
theorem Sok.step {ops : Array Oper} {hv : List Nat} {S : Array Bool → World → Prop} {ρ' : Nat → Place} {h h' : Hp} {pd : List (Nat × Nat)} {l l' : Array Bool} (hS : Sok P ops hv S ρ h pd l) (hl : ∀ j, l.getD j false = true → l'.getD j false = true) (hρ : ∀ i, i < h.length → ρ' i = ρ i) (hh : h.length ≤ h'.length) (hst : stayT ops hv l' pd h h') : Sok P ops hv S ρ' h' pd l' := by
  intro l2 ρ2 h2 w2 hl2 H2 hρ2 hh2 hst2
  refine hS l2 ρ2 h2 w2 (fun j hj => hl2 j (hl j hj)) H2 (fun i hi => (hρ2 i (Nat.lt_of_lt_of_le hi hh)).trans (hρ i hi)) (Nat.le_trans hh hh2) (stayT_iff.2 fun p hp => ?_)
  rcases stayT_iff.1 hst p hp with h1 | h1
  · exact .inl (beh_mono hl2 h1)
  · rcases stayT_iff.1 hst2 p hp with h3 | h3
    · exact .inl h3
    · exact .inr (h3.trans h1)
theorem wkT_ok {ops : Array Oper} {hv : List Nat} {F : Option Nat} {Q : Exit → Act → World → Prop} {K : Fr → Hp → Prop} :
    ∀ (T : Ord) (t : Bool) (S : Array Bool → World → Prop) (pd : List (Nat × Nat)) (l : Array Bool) (f : Fr) (h : Hp) (A : Act) (w : World) (ρ : Nat → Place), ordT ops hv T t l = true → Rel P ρ f h A w → Sok P ops hv S ρ h pd l → wkT P ops T pd K f h →
    (∀ ρ' f' h' A' w', K f' h' → Rel P ρ' f' h' A' w' → h.length ≤ h'.length → Stp h.length ρ h w ρ' h' w' → Q .normal A' w') → alongT F 0 P ops hv Q T S l A w
  | .done, t, S, pd, l, f, h, A, w, ρ, hc, R, hS, hk, hQ => hQ ρ f h A w hk R (Nat.le_refl _) (Stp.refl _ _ _ _)
  | .no, t, S, pd, l, f, h, A, w, ρ, hc, R, hS, hk, hQ => trivial
  | .light i r, t, S, pd, l, f, h, A, w, ρ, hc, R, hS, hk, hQ => by
    simp only [ordT, Bool.and_eq_true] at hc
    replace hc := hc.2
    simp only [wkT] at hk
    cases ho : ops[i]? with
    | none => simp only [ho] at hk
    | some o =>
      simp only [ho] at hk
      split at hk
      · rename_i hw
        obtain ⟨v, hv', hk⟩ := hk
        have H0 : HRel P ρ (keepH (readsOf f o.op) h) w := HRel.kept R.heap.sc R.heap (fun _ _ => rfl) (Nat.le_refl _) (fun _ _ => rfl)
        have hv2 : exL P f (keepH (readsOf f o.op) h) o.op = some v := exL_reads hv' fun x hx => by
          rw [keepH_get]
          have : (readsOf f o.op).contains x = true := by simpa using hx
          cases h[x]? <;> simp [this, hx]
        refine ⟨o, v.real ρ, fun w' => HRel P ρ (keepH (readsOf f o.op) h) w', ho, ?_, H0, ?_⟩
        · unfold Gives
          rw [wantA_real R.tmps, if_pos hw]
          exact fun w' hS' => (exL_ok hS' R.tmps (by rw [keepH_length]; exact R.tsc) hv2).1
        · refine wkT_ok r true _ _ _ _ h _ w ρ hc (R.put o.dst (exL_ok R.heap R.tmps R.tsc hv').2) ?_ hk hQ
          intro l' ρ' h' w' hl' H' hρ' hh' hst
          rw [stayT_iff] at hst
          refine ⟨hS l' ρ' h' w' (fun j hj => hl' j (set_mono l i j hj)) H' hρ' hh' (stayT_iff.2 fun p hp => hst p (List.mem_append_right _ hp)), ?_⟩
          cases hb : beh ops hv l' i with
          | true => exact .inl rfl
          | false =>
            refine .inr (HRel.kept R.heap.sc H' hρ' hh' fun x hx => ?_)
            rcases hst (i, x) (List.mem_append_left _ (List.mem_map.2 ⟨x, hx, rfl⟩)) with h1 | h1
            · rw [hb] at h1; cases h1
            · exact h1
      · rename_i hw
        refine ⟨o, undef, fun _ => True, ho, ?_, trivial, ?_⟩
        · unfold Gives
          rw [wantA_real R.tmps, if_neg hw]
        · refine wkT_ok r true _ pd _ _ h _ w ρ hc (R.put (v := .v undef) o.dst rfl) ?_ hk hQ
          intro l' ρ' h' w' hl' H' hρ' hh' hst
          exact ⟨hS l' ρ' h' w' (fun j hj => hl' j (set_mono l i j hj)) H' hρ' hh' hst, .inr trivial⟩
  | .alt i gone r rest, t, S, pd, l, f, h, A, w, ρ, hc, R, hS, hk, hQ => by
    simp only [wkT] at hk
    simp only [ordT, Bool.and_eq_true] at hc
    have hg := hc.1.1.2
    obtain ⟨hk, hrest⟩ := hk
    refine ⟨?_, wkT_ok rest false S pd l f h A w ρ hc.2 R hS hrest hQ⟩
    cases ho : ops[i]? with
    | none => simp only [ho] at hk
    | some o =>
      simp only [ho] at hk
      simp only [wpOpIn, ho]
      rw [wantA_real R.tmps]
      split
      · rename_i hw
        rw [if_pos hw] at hk
        refine wop_ok R hk fun ρ' v h' w' hn R' H' hl St => ?_
        refine ⟨hS _ ρ' h' w' (set_mono l i) H' St.same hl (stayT_of_G hg hn.1), ?_⟩
        exact wkT_ok r true S pd _ _ h' _ w' ρ' hc.1.2 R' (hS.step (set_mono l i) St.same hl (stayT_of_G hg hn.1)) hn.2 fun ρ2 f2 h2 A2 w2 hk2 R2 hl2 S2 => hQ ρ2 f2 h2 A2 w2 hk2 R2 (Nat.le_trans hl hl2) (St.trans S2 hl)
      · rename_i hw
        rw [if_neg hw] at hk
        refine ⟨fun _ _ => trivial, hS _ ρ h w (set_mono l i) R.heap (fun _ _ => rfl) (Nat.le_refl _) (stayT_same pd), ?_⟩
        exact wkT_ok r true S pd _ _ h _ w ρ hc.1.2 (R.put (v := .v undef) o.dst rfl) (hS.step (set_mono l i) (fun _ _ => rfl) (Nat.le_refl _) (stayT_same pd)) hk hQ

/-! ### Code -/
def thenK (N : Fr → Hp → Prop) (K : Exit → Fr → Hp → Prop) : Exit → Fr → Hp → Prop
  | .normal, f, h => N f h
  | e, f, h => K e f h
def blkK (id : Nat) (K : Exit → Fr → Hp → Prop) : Exit → Fr → Hp → Prop
  | .exit i, f, h => if i = id then K .normal f h else K (.exit i) f h
  | e, f, h => K e f h
def wk (P : Program) (m : Nat) (ro : Option Nat) : Code → (Exit → Fr → Hp → Prop) → Fr → Hp → Prop
  | .skip, K, f, h => K .normal f h
  | .region id ops false, K, f, h => wkL P ops (List.range ops.size) (K .normal) f h ∨ AW P m ro (.region id ops false) K f h
  | .region _ ops true, K, f, h => (∃ l h0, ordOk ops l = true ∧ Keeps h0 h ∧ h0.length = h.length ∧ wkD P ops h0 l (K .normal) f h) ∨ (∃ T hv, ordTok ops hv T = true ∧ wkT P ops T [] (K .normal) f h)
  | .seq a b, K, f, h => wk P m ro a (thenK (wk P m ro b K) K) f h
  | .cond c a b, K, f, h => ∃ t, ev f c = .v (.bool t) ∧ (t = true → wk P m ro a K f h) ∧ (t = false → wk P m ro b K f h)
  | .block id b, K, f, h => wk P m ro b (blkK id K) f h
  | .exit id, K, f, h => K (.exit id) f h
  | .label _, K, f, h => K .normal f h
  | .ret, K, f, h => K .ret f h
  | c, K, f, h => AW P m ro c K f h

theorem wk_ok (hm : P.follows .mixedOrders = true) : ∀ (c : Code) (K : Exit → Fr → Hp → Prop) (f : Fr) (h : Hp), wk P m ro c K f h → AW P m ro c K f h
  | .skip, K, f, h, hk => fun hro hmh ρ A w R => wpIn_skip ⟨ρ, f, h, hk, R, Stp.refl _ _ _ _, hmh⟩
  | .region id ops false, K, f, h, .inr hk => hk
  | .region id ops false, K, f, h, .inl hk => fun hro hmh ρ A w R => wpIn_region (wkL_ok _ f h A w ρ R hk fun ρ' f' h' A' w' hk' R' hl S => ⟨ρ', f', h', hk', R', S.less hmh, Nat.le_trans hmh hl⟩)
  | .region id ops true, K, f, h, hk => fun hro hmh ρ A w R => by
    have R' : Rel P ρ f h A w.drew := ⟨R.tmps, R.tsc, R.defers, R.dsc, R.heap.drew⟩
    refine wpIn_mono (Q := AQn P m ρ h w K) ?_ (fun e A' w' hq => by cases e <;> first | exact hq | exact hq.elim)
    rcases hk with hk | ⟨T, hv, hT, hk⟩
    case inr =>
      exact wp_drawT T hm hT (fun _ _ _ h => h) (wkT_ok T true (fun _ _ => True) [] _ f h A _ ρ (by simp only [ordTok, Bool.and_eq_true] at hT; exact hT.2) R' (fun _ _ _ _ _ _ _ _ _ => trivial) hk fun ρ' f' h' A' w' hk' R2 hl S => ⟨ρ', f', h', hk', R2, ((Stp.drewR h.length).trans S (Nat.le_refl _)).less hmh, Nat.le_trans hmh hl⟩)
    obtain ⟨l, h0, hl, hkp, hlen, hk⟩ := hk
    have H0 : HRel P ρ h0 w.drew := HRel.keeps R'.heap hkp (fun i o hi => by
      rcases hkp.get i o hi with rfl | h1
      · rfl
      · rw [hlen]; exact R.heap.sc i o h1)
    refine wp_draw l hm hl (fun _ _ _ h => h) H0 (wkD_ok H0.sc l f h A _ ρ R' (by rw [hlen]; exact Nat.le_refl _) (fun _ _ => rfl) H0 hk fun ρ' f' h' A' w' hk' R2 hl S => ?_)
    exact ⟨ρ', f', h', hk', R2, ((Stp.drewR h.length).trans S (Nat.le_refl _)).less hmh, Nat.le_trans hmh hl⟩
  | .seq a b, K, f, h, hk => fun hro hmh ρ A w R => by
    refine wpIn_seq (wpIn_mono (wk_ok hm a _ f h hk hro hmh ρ A w R) fun e A' w' hq => ?_)
    cases e with
    | normal =>
      obtain ⟨ρ', f', h', hk', R', S, hm'⟩ := hq
      have e1 : (Wd (ro.map fun i => (ρ' i).b)) = (Wd (ro.map fun i => (ρ i).b)) := by
        cases ro with
        | none => rfl
        | some i => simp only [Option.map_some, S.same i (hro i rfl)]
      have := wk_ok hm b K f' h' hk' hro hm' ρ' A' w' R'
      rw [e1] at this
      exact wpIn_mono this fun e2 A2 w2 hq2 => AQ.trans S hq2
    | exit id => exact hq
    | goto l => exact hq
    | ret => exact hq
    | panic c => exact hq
    | outgrown => exact hq
  | .cond c a b, K, f, h, hk => fun hro hmh ρ A w R => by
    obtain ⟨t, ht, h1, h2⟩ := hk
    refine wpIn_cond_split (t := t) (by rw [ev_real R.tmps, ht]; rfl) (fun e => wk_ok hm a K f h (h1 e) hro hmh ρ A w R) (fun e => wk_ok hm b K f h (h2 e) hro hmh ρ A w R)
  | .block id b, K, f, h, hk => fun hro hmh ρ A w R => by
    refine wpIn_block (wpIn_mono (wk_ok hm b _ f h hk hro hmh ρ A w R) fun e A' w' hq => ?_)
    cases e with
    | exit i =>
      obtain ⟨ρ', f', h', hk', R', S, hm'⟩ := hq
      simp only [blkK] at hk'
      simp only [Exit.inBlock]
      split
      · rename_i hid; rw [if_pos hid] at hk'; exact ⟨ρ', f', h', hk', R', S, hm'⟩
      · rename_i hid; rw [if_neg hid] at hk'; exact ⟨ρ', f', h', hk', R', S, hm'⟩
    | normal => exact hq
    | goto l => exact hq
    | ret => exact hq
    | panic c => exact hq
    | outgrown => exact hq
  | .exit id, K, f, h, hk => fun hro hmh ρ A w R => wpIn_exit ⟨ρ, f, h, hk, R, Stp.refl _ _ _ _, hmh⟩
  | .label l, K, f, h, hk => fun hro hmh ρ A w R => wpIn_label ⟨ρ, f, h, hk, R, Stp.refl _ _ _ _, hmh⟩
  | .ret, K, f, h, hk => fun hro hmh ρ A w R => wpIn_ret ⟨ρ, f, h, hk, R, Stp.refl _ _ _ _, hmh⟩
  | .loop b, K, f, h, hk => hk
  | .rangeFunc g ps asg bd, K, f, h, hk => hk
  | .scope b, K, f, h, hk => hk
  | .goto l, K, f, h, hk => hk
  | .refuse s, K, f, h, hk => hk
end
end Go.Az
/-
  Loops, functions, ranges over functions, over abstract memory. Conditions: stated at each theorem.
-/
set_option linter.unusedSimpArgs false
set_option linter.unusedVariables false
namespace Go.Az
open Go Go.Chz Go.RowKit

section
variable {P : Program} {ρ : Nat → Place} {f : Fr} {h : Hp} {A : Act} {w : World} {m : Nat} {ro : Option Nat} {K : Exit → Fr → Hp → Prop}

/-- The state, seen otherwise: whatever it describes, something that R takes describes too; the numbers below m mean what they meant. -/
def Seen (P : Program) (m : Nat) (f : Fr) (h : Hp) (R : Fr → Hp → Prop) : Prop :=
  m ≤ h.length → ∀ ρ A w, Rel P ρ f h A w → ∃ ρ' f' h', R f' h' ∧ Rel P ρ' f' h' A w ∧ Stp m ρ h w ρ' h' w ∧ m ≤ h'.length
theorem Seen.same {R : Fr → Hp → Prop} (hr : R f h) : Seen P m f h R := fun hm ρ A w Rl => ⟨ρ, f, h, hr, Rl, Stp.refl _ _ _ _, hm⟩
theorem Seen.mono {R R' : Fr → Hp → Prop} (hs : Seen P m f h R) (hr : ∀ f h, R f h → R' f h) : Seen P m f h R' :=
  fun hm ρ A w Rl => let ⟨ρ', f', h', h1, h2⟩ := hs hm ρ A w Rl; ⟨ρ', f', h', hr _ _ h1, h2⟩
theorem Seen.then {R R' : Fr → Hp → Prop} (hs : Seen P m f h R) (hr : ∀ f h, R f h → Seen P m f h R') : Seen P m f h R' :=
  fun hm ρ A w Rl =>
    let ⟨ρ1, f1, h1, r1, Rl1, S1, m1⟩ := hs hm ρ A w Rl
    let ⟨ρ2, f2, h2, r2, Rl2, S2, m2⟩ := hr f1 h1 r1 m1 ρ1 A w Rl1
    ⟨ρ2, f2, h2, r2, Rl2, S1.trans S2 (Nat.le_refl _), m2⟩
/-- An object forgotten. -/
theorem Seen.drop (i : Nat) : Seen P m f h (fun f' h' => f' = f ∧ h' = h.set i .gone) :=
  fun hm ρ A w Rl => ⟨ρ, f, h.set i .gone, ⟨rfl, rfl⟩, ⟨Rl.tmps, by simpa using Rl.tsc, Rl.defers, by simpa using Rl.dsc, Rl.heap.drop i⟩, Stp.drop _ _, by simpa using hm⟩
theorem aw_seen {c : Code} (hs : Seen P m f h (fun f' h' => AW P m ro c K f' h')) : AW P m ro c K f h := by
  intro hro hm ρ A w Rl
  obtain ⟨ρ', f', h', hw, Rl', S, hm'⟩ := hs hm ρ A w Rl
  have e1 : (Wd (ro.map fun i => (ρ' i).b)) = (Wd (ro.map fun i => (ρ i).b)) := by
    cases ro with
    | none => rfl
    | some i => simp only [Option.map_some, S.same i (hro i rfl)]
  have := hw hro hm' ρ' A w Rl'
  rw [e1] at this
  exact wpIn_mono this fun e A2 w2 hq => AQ.trans S hq

theorem least (p : Nat → Prop) : ∀ n, p n → ∃ k, p k ∧ ∀ j, p j → k ≤ j := by
  intro n
  induction n using Nat.strongRecOn with
  | _ n ih =>
    intro hn
    by_cases hex : ∃ j, j < n ∧ p j
    · obtain ⟨j, hj, hp⟩ := hex
      exact ih j hj hp
    · exact ⟨n, hn, fun j hj => Nat.le_of_not_lt fun hlt => hex ⟨j, hlt, hj⟩⟩

/-- A LOOP. -/
theorem aw_loop (hm : P.follows .mixedOrders = true) {b : Code} (I : Nat → Fr → Hp → Prop) (n : Nat) (h0 : I n f h)
    (round : ∀ n f h, I n f h → wk P m ro b (fun e f' h' => match e with
      | .normal => Seen P m f' h' (fun f'' h'' => ∃ n', n' < n ∧ I n' f'' h'')
      | e => K e f' h') f h) : AW P m ro (.loop b) K f h := by
  intro hro hmh ρ A w R
  let T : Nat → Act → World → Prop := fun n A' w' => ∃ ρ' f' h', I n f' h' ∧ Rel P ρ' f' h' A' w' ∧ Stp m ρ h w ρ' h' w' ∧ m ≤ h'.length
  have hT : T n A w := ⟨ρ, f, h, h0, R, Stp.refl _ _ _ _, hmh⟩
  classical
  let μ : Act → World → Nat := fun A' w' => if hx : ∃ n, T n A' w' then Classical.choose (least (fun n => T n A' w') _ hx.choose_spec) else 0
  have hμ : ∀ A' w', (∃ n, T n A' w') → T (μ A' w') A' w' ∧ ∀ j, T j A' w' → μ A' w' ≤ j := by
    intro A' w' hx
    have : μ A' w' = Classical.choose (least (fun n => T n A' w') _ hx.choose_spec) := dif_pos hx
    rw [this]
    exact Classical.choose_spec (least (fun n => T n A' w') _ hx.choose_spec)
  refine wpIn_loop (fun A' w' => ∃ n, T n A' w') μ ⟨n, hT⟩ fun A' w' hx => ?_
  obtain ⟨⟨ρ', f', h', hI, R', S, hm'⟩, hmin⟩ := hμ A' w' hx
  have e1 : (Wd (ro.map fun i => (ρ' i).b)) = (Wd (ro.map fun i => (ρ i).b)) := by
    cases ro with
    | none => rfl
    | some i => simp only [Option.map_some, S.same i (hro i rfl)]
  have hw := wk_ok hm b _ f' h' (round _ f' h' hI) hro hm' ρ' A' w' R'
  rw [e1] at hw
  refine wpIn_mono hw fun e A2 w2 hq => ?_
  cases e with
  | normal =>
    obtain ⟨ρ2, f2, h2, hs, R2, S2, hm2⟩ := hq
    obtain ⟨ρ3, f3, h3, ⟨n', hlt, hI'⟩, R3, S3, hm3⟩ := hs hm2 ρ2 A2 w2 R2
    have hT' : T n' A2 w2 := ⟨ρ3, f3, h3, hI', R3, (S.trans S2 (Nat.le_refl _)).trans S3 (Nat.le_refl _), hm3⟩
    exact ⟨⟨n', hT'⟩, Nat.lt_of_le_of_lt ((hμ A2 w2 ⟨n', hT'⟩).2 n' hT') hlt⟩
  | exit id => obtain ⟨ρ2, f2, h2, hk, R2, S2, hm2⟩ := hq; exact ⟨ρ2, f2, h2, hk, R2, S.trans S2 (Nat.le_refl _), hm2⟩
  | goto l => obtain ⟨ρ2, f2, h2, hk, R2, S2, hm2⟩ := hq; exact ⟨ρ2, f2, h2, hk, R2, S.trans S2 (Nat.le_refl _), hm2⟩
  | ret => obtain ⟨ρ2, f2, h2, hk, R2, S2, hm2⟩ := hq; exact ⟨ρ2, f2, h2, hk, R2, S.trans S2 (Nat.le_refl _), hm2⟩
  | panic c => obtain ⟨ρ2, f2, h2, hk, R2, S2, hm2⟩ := hq; exact ⟨ρ2, f2, h2, hk, R2, S.trans S2 (Nat.le_refl _), hm2⟩
  | outgrown => exact hq

/-! ### Functions -/
def resOne (P : Program) (f : Fr) (h : Hp) : ResultVar → Option AV
  | .tmp t => some (f.t.getD t (.v undef))
  | .cell a t => match f.t.getD a (.v undef) with
    | .ptr i o => ldc P h t i o
    | _ => none
def resAll (P : Program) (f : Fr) (h : Hp) : List ResultVar → Option (List AV)
  | [] => some []
  | r :: l => match resOne P f h r, resAll P f h l with
    | some a, some as' => some (a :: as')
    | _, _ => none
def resA (P : Program) (fn : Func) (f : Fr) (h : Hp) : Option AV :=
  match resAll P f h fn.results.toList with
  | some [a] => some a
  | some l => some (.tup l)
  | none => none
def dropAll (h : Hp) : List Dq → Option Hp
  | [] => some h
  | .m d :: r => match h[d]? with
    | some .dfr => dropAll (h.set d .gone) r
    | _ => none
  | .f _ _ :: _ => none
/-- What the end of a function must be. -/
def RK (P : Program) (fn : Func) (N : AV → Hp → Prop) : Exit → Fr → Hp → Prop
  | .normal, f, h => ∃ h' r, dropAll h f.ds = some h' ∧ resA P fn f h' = some r ∧ N r h'
  | .ret, f, h => ∃ h' r, dropAll h f.ds = some h' ∧ resA P fn f h' = some r ∧ N r h'
  | _, _, _ => False

theorem getD_sc {n : Nat} {l : List AV} (hl : AV.scs n l = true) (t : Nat) : (l.getD t (.v undef)).sc n = true := by
  by_cases ht : t < l.length
  · simp only [List.getD_eq_getElem?_getD, List.getElem?_eq_getElem ht, Option.getD_some]
    exact (scs_iff n l).1 hl _ (List.getElem_mem ht)
  · simp only [List.getD_eq_getElem?_getD, List.getElem?_eq_none (Nat.le_of_not_lt ht), Option.getD_none]; rfl
theorem run_resAll (R : HRel P ρ h w) {tm : Array Value} (ht : tm = (AV.reals ρ f.t).toArray) (hs : AV.scs h.length f.t = true) : ∀ (l : List ResultVar) (as' : List AV), resAll P f h l = some as' →
    (l.mapM (resOf tm)).run P w = .ok (AV.reals ρ as') w ∧ AV.scs h.length as' = true
  | [], as', hr => by simp only [resAll, Option.some.injEq] at hr; subst hr; exact ⟨rfl, rfl⟩
  | r :: l, as', hr => by
    simp only [resAll] at hr
    split at hr
    · rename_i a as2 ha has
      injection hr with hr
      subst hr
      obtain ⟨h1, h2⟩ := run_resAll R ht hs l as2 has
      have h3 : (resOf tm r).run P w = .ok (a.real ρ) w ∧ a.sc h.length = true := by
        cases r with
        | tmp t =>
          simp only [resOne, Option.some.injEq] at ha
          subst ha
          simp only [resOf, Sem.run_pure, ht, getD_real]
          exact ⟨trivial, getD_sc hs t⟩
        | cell b t =>
          simp only [resOne] at ha
          split at ha <;> first | (cases ha; done) | skip
          rename_i i o hb
          have := run_ldc R ha
          simp only [resOf, ht, getD_real, hb, AV.real, asAddr, Sem.run_bind, Sem.run_pure, Result.andThen_ok, this.1]
          exact ⟨trivial, this.2⟩
      simp only [List.mapM_cons, Sem.run_bind, h3.1, h1, Result.andThen_ok, Sem.run_pure]
      exact ⟨rfl, by simp only [AV.scs, h3.2, h2, Bool.and_self]⟩
    · cases hr
theorem run_resA (R : HRel P ρ h w) {tm : Array Value} {fn : Func} {r : AV} (ht : tm = (AV.reals ρ f.t).toArray) (hs : AV.scs h.length f.t = true) (hr : resA P fn f h = some r) :
    (results fn tm).run P w = .ok (r.real ρ) w ∧ r.sc h.length = true := by
  have hmap : ∀ as' : List AV, resAll P f h fn.results.toList = some as' → (fn.results.mapM (resOf tm)).run P w = .ok (AV.reals ρ as').toArray w ∧ AV.scs h.length as' = true := by
    intro as' ha
    obtain ⟨h1, h2⟩ := run_resAll R ht hs _ _ ha
    refine ⟨?_, h2⟩
    rw [← Array.toArray_toList (xs := fn.results)]
    simp only [List.mapM_toArray, Sem.run_map, h1, Result.andThen_ok]
  rw [results_eq, Sem.run_bind]
  unfold resA at hr
  split at hr
  · rename_i a ha
    injection hr with hr; subst hr
    obtain ⟨h1, h2⟩ := hmap _ ha
    rw [h1]
    refine ⟨rfl, ?_⟩
    simpa [AV.scs] using h2
  · rename_i l hne hl
    injection hr with hr; subst hr
    obtain ⟨h1, h2⟩ := hmap _ hl
    rw [h1]
    refine ⟨?_, h2⟩
    simp only [Result.andThen_ok, Sem.run_pure]
    have : ¬ ((AV.reals ρ l).toArray.size = 1) := by
      rw [List.size_toArray, reals_length]
      intro h1
      obtain ⟨a, rfl⟩ := List.length_eq_one_iff.1 h1
      exact hne a rfl
    rw [dif_neg this]
    rfl
  · cases hr

theorem leave_ok {fn : Func} {R : Ending → World → Prop} : ∀ (ds : List Dq) (h : Hp) (w : World) (tm : Array Value) (h' : Hp), HRel P ρ h w → dropAll h ds = some h' →
    (∀ w', HRel P ρ h' w' → Stp h.length ρ h w ρ h' w' → ∃ v, (results fn tm).run P w' = .ok v w' ∧ R (.returned v) w') → LeavesInM (Wd none) 0 P fn tm R (ds.map (Dq.real ρ)) .returning w
  | [], h, w, tm, h', H, hd, hR => by
    simp only [dropAll, Option.some.injEq] at hd
    subst hd
    exact hR w H (Stp.refl _ _ _ _)
  | .f g cs :: r, h, w, tm, h', H, hd, hR => by simp only [dropAll] at hd; cases hd
  | .m d :: r, h, w, tm, h', H, hd, hR => by
    simp only [dropAll] at hd
    split at hd <;> first | (cases hd; done) | skip
    rename_i hi
    have hg : w.heap[(ρ d).b]? = some (.deferred (some [])) := H.obj d _ hi
    have hget : (getObj (ρ d).b).run P w = .ok (.deferred (some [])) w := by simp only [getObj, Sem.run, hg]
    have hset := run_setObj (P := P) (w := w) (o' := .deferred none) hg (by intro _ _ _ h; cases h)
    have hp := H.setObj (ob := .deferred none) hi rfl (o := .gone) rfl trivial
    refine ⟨by simp, .inl ⟨(ρ d).b, _, rfl, ?_, leave_ok r _ _ tm h' hp.1 hd fun w' H' S' => hR w' H' ?_⟩⟩
    · simp only [Instr.takeDeferred, Sem.run_bind, hget, Result.andThen_ok, hset, Sem.run_pure]
    · have := hp.2.trans S' (by simp)
      exact this

theorem acalls_of_aw {g : FuncId} {fn : Func} {c : Code} {args : List AV} {N : AV → Hp → Prop} (hf : P.funcs[g]? = some fn) (hb : fn.body = some c)
    (hk : AW P h.length none c (RK P fn N) ⟨args ++ List.replicate (fn.ntmps - args.length) (.v undef), []⟩ h) : ACalls P g args h N := by
  intro ρ w H hs
  refine calls_of_Wd (n := 0) (callsIn_of_wp_marks hf hb trivial ?_)
  have hsr : AV.scs h.length (List.replicate (fn.ntmps - args.length) (AV.v undef)) = true := (scs_iff _ _).2 fun a ha => by rw [List.eq_of_mem_replicate ha]; rfl
  have hA : ((AV.reals ρ args).toArray ++ Array.replicate (fn.ntmps - (AV.reals ρ args).toArray.size) undef) = (AV.reals ρ (args ++ List.replicate (fn.ntmps - args.length) (.v undef))).toArray := by
    apply Array.ext'
    simp [reals_eq, AV.real]
  have R : Rel P ρ ⟨args ++ List.replicate (fn.ntmps - args.length) (.v undef), []⟩ h { tmps := (AV.reals ρ args).toArray ++ Array.replicate (fn.ntmps - (AV.reals ρ args).toArray.size) undef, defers := [] } w :=
    ⟨hA, scs_append hs hsr, rfl, fun d hd => (by cases hd), H⟩
  have := hk (fun i hi => by cases hi) (Nat.le_refl _) ρ _ w R
  refine wpIn_mono this fun e A' w' hq => ?_
  have key : ∀ {ρ' f' h'}, (∃ h'' r, dropAll h' f'.ds = some h'' ∧ resA P fn f' h'' = some r ∧ N r h'') → Rel P ρ' f' h' A' w' → Stp h.length ρ h w ρ' h' w' → h.length ≤ h'.length →
      LeavesInM (Wd none) 0 P fn A'.tmps (Post P ρ h w N) A'.defers .returning w' := by
    rintro ρ' f' h' ⟨h'', r, hd, hr, hn⟩ R' S hl
    rw [R'.defers]
    have hdl : ∀ (ds : List Dq) (h1 h2 : Hp), dropAll h1 ds = some h2 → h2.length = h1.length := by
      intro ds
      induction ds with
      | nil => intro h1 h2 hd; simp only [dropAll, Option.some.injEq] at hd; rw [hd]
      | cons d r ih =>
        intro h1 h2 hd
        cases d with
        | f g cs => simp only [dropAll] at hd; cases hd
        | m d =>
        simp only [dropAll] at hd
        split at hd
        · rw [ih _ _ hd]; simp
        · cases hd
    have hlen := hdl _ _ _ hd
    refine leave_ok f'.ds h' w' A'.tmps h'' R'.heap hd fun w2 H2 S2 => ?_
    have hres := run_resA (f := f') (tm := A'.tmps) (fn := fn) H2 R'.tmps (by rw [hlen]; exact R'.tsc) hr
    exact ⟨_, hres.1, ρ', r, h'', rfl, hres.2, by omega, hn, H2, S.trans S2 hl⟩
  cases e with
  | normal => obtain ⟨ρ', f', h', hk', R', S, hl⟩ := hq; exact key hk' R' S hl
  | ret => obtain ⟨ρ', f', h', hk', R', S, hl⟩ := hq; exact key hk' R' S hl
  | exit id => obtain ⟨ρ', f', h', hk', R', S, hl⟩ := hq; exact hk'.elim
  | goto l => obtain ⟨ρ', f', h', hk', R', S, hl⟩ := hq; exact hk'.elim
  | panic c => obtain ⟨ρ', f', h', hk', R', S, hl⟩ := hq; exact hk'.elim
  | outgrown => exact hq.elim
theorem acalls_of_wk (hm : P.follows .mixedOrders = true) {g : FuncId} {fn : Func} {c : Code} {args : List AV} {N : AV → Hp → Prop} (hf : P.funcs[g]? = some fn) (hb : fn.body = some c)
    (hk : wk P h.length none c (RK P fn N) ⟨args ++ List.replicate (fn.ntmps - args.length) (.v undef), []⟩ h) : ACalls P g args h N := acalls_of_aw hf hb (wk_ok hm _ _ _ _ hk)
end
end Go.Az
/-
  Ranges over functions, over abstract memory: the statement and a round. Conditions: stated at each theorem.
-/
set_option linter.unusedSimpArgs false
set_option linter.unusedVariables false
namespace Go.Az
open Go Go.Chz Go.RowKit

section
variable {P : Program} {ρ : Nat → Place} {f : Fr} {h : Hp} {A : Act} {w : World} {m : Nat} {ro : Option Nat} {K : Exit → Fr → Hp → Prop}

def begA (i : Nat) (h : Hp) : Option Hp :=
  match h[i]? with
  | some (.loop .ready pe tm ps asg bd d) => some (h.set i (.loop .busy pe tm ps asg bd d))
  | _ => none
def endA (i : Nat) (jump : Option Code) (h : Hp) : Option Hp :=
  match h[i]? with
  | some (.loop _ _ tm ps asg bd d) => some (h.set i (.loop (if jump.isNone then .ready else .done) jump tm ps asg bd d))
  | _ => none
def roundK (i : Nat) (N : AV → Hp → Prop) : Exit → Fr → Hp → Prop
  | .normal, _, h => ∃ h', endA i none h = some h' ∧ N (.v (.bool true)) h'
  | .ret, _, h => ∃ h', endA i (some .ret) h = some h' ∧ N (.v (.bool false)) h'
  | .exit id, _, h => ∃ h', endA i (some (.exit id)) h = some h' ∧ N (.v (.bool false)) h'
  | .goto t, _, h => ∃ h', endA i (some (.goto t)) h = some h' ∧ N (.v (.bool false)) h'
  | _, _, _ => False
def asgK (P : Program) (m : Nat) (i : Nat) (bd : Code) (N : AV → Hp → Prop) : Exit → Fr → Hp → Prop
  | .normal, f, h => ∃ h', begA i h = some h' ∧ AW P m (some i) bd (roundK i N) f h'
  | _, _, _ => False

theorem run_loopSet (H : HRel P ρ h w) {i : Nat} {st : LoopState} {pe : Option Code} {tm : List AV} {ps : Array Tmp} {asg bd : Code} {d : Nat} (hi : h[i]? = some (.loop st pe tm ps asg bd d)) :
    ∃ fn, (Instr.getLoop (ρ i).b).run P w = .ok { state := st, pending := pe, fn, tmps := (AV.reals ρ tm).toArray, params := ps, assign := asg, body := bd, defers := (ρ d).b } w ∧
    ∀ st' pe', ∃ w', (setObj (ρ i).b (.loop { state := st', pending := pe', fn, tmps := (AV.reals ρ tm).toArray, params := ps, assign := asg, body := bd, defers := (ρ d).b })).run P w = .ok () w' ∧
      HRel P ρ (h.set i (.loop st' pe' tm ps asg bd d)) w' ∧ Stp h.length ρ h w ρ (h.set i (.loop st' pe' tm ps asg bd d)) w' := by
  obtain ⟨fn, hg⟩ := H.obj i _ hi
  have hlt : (ρ i).b < w.heap.size := H.lt hi rfl
  refine ⟨fn, ?_, fun st' pe' => ?_⟩
  · have hget : (getObj (ρ i).b).run P w = .ok (.loop { state := st, pending := pe, fn, tmps := (AV.reals ρ tm).toArray, params := ps, assign := asg, body := bd, defers := (ρ d).b }) w := by
      simp only [getObj, Sem.run, hg]
    simp only [Instr.getLoop, Sem.run_bind, hget, Result.andThen_ok, Sem.run_pure]
  · have hset := run_setObj (P := P) (w := w) (o' := .loop { state := st', pending := pe', fn, tmps := (AV.reals ρ tm).toArray, params := ps, assign := asg, body := bd, defers := (ρ d).b }) hg (by intro _ _ _ h; cases h)
    have hp := H.setObj (ob := .loop { state := st', pending := pe', fn, tmps := (AV.reals ρ tm).toArray, params := ps, assign := asg, body := bd, defers := (ρ d).b }) hi rfl (o := .loop st' pe' tm ps asg bd d) (by have := H.sc i _ hi; exact this) ⟨fn, by simp only [Array.getElem?_setIfInBounds_self_of_lt hlt]⟩
    exact ⟨_, hset, hp.1, hp.2⟩

theorem setAll_sc {n : Nat} : ∀ (l : List (Tmp × AV)) (t : List AV), AV.scs n t = true → (∀ p ∈ l, p.2.sc n = true) → AV.scs n (setAll t l) = true
  | [], t, ht, _ => ht
  | (p, v) :: r, t, ht, hl => by
    refine setAll_sc r _ ((scs_iff _ _).2 fun a ha => ?_) (fun q hq => hl q (by simp [hq]))
    rcases List.mem_or_eq_of_mem_set ha with h1 | h1
    · exact (scs_iff _ _).1 ht a h1
    · exact h1 ▸ hl (p, v) (by simp)

/-- A ROUND. -/
theorem ayld_of_aw {i : Nat} {args : List AV} {N : AV → Hp → Prop} {st : LoopState} {pe : Option Code} {tm : List AV} {ps : Array Tmp} {asg bd : Code} {d : Nat} (hi : h[i]? = some (.loop st pe tm ps asg bd d)) (hl : args.length = ps.size)
    (hk : AW P h.length (some i) asg (asgK P h.length i bd N) ⟨setAll tm (ps.toList.zip args), []⟩ h) : AYld P i args h N := by
  refine ⟨st, pe, tm, ps, asg, bd, d, hi, hl, fun fn ρ w H hs => roundIn_of_wpIn trivial ?_⟩
  have hil : i < h.length := (List.getElem?_eq_some_iff.1 hi).1
  have hro : ∀ j, some i = some j → j < h.length := by intro j hj; injection hj with hj; subst hj; exact hil
  have htm : AV.scs h.length tm = true := by
    have := H.sc i _ hi
    simp only [AObj.sc, Bool.and_eq_true] at this
    exact this.1
  have R : Rel P ρ ⟨setAll tm (ps.toList.zip args), []⟩ h { tmps := (AV.reals ρ (setAll tm (ps.toList.zip args))).toArray, defers := [] } w :=
    ⟨rfl, setAll_sc _ _ htm (fun p hp => (scs_iff _ args).1 hs _ (List.of_mem_zip hp).2), rfl, fun d hd => (by cases hd), H⟩
  have := hk hro (Nat.le_refl _) ρ _ w R
  refine wpIn_mono this fun e A1 w1 hq => ?_
  cases e with
  | normal =>
    obtain ⟨ρ1, f1, h1, ⟨h1', hb, hbd⟩, R1, S1, hm1⟩ := hq
    unfold begA at hb
    split at hb <;> first | (cases hb; done) | skip
    rename_i pe1 tm1 ps1 asg1 bd1 d1 hi1
    injection hb with hb
    subst hb
    have e1 : ρ1 i = ρ i := S1.same i hil
    obtain ⟨fn1, hgl, hst⟩ := run_loopSet R1.heap hi1
    obtain ⟨w2, hset, H2, S2⟩ := hst .busy pe1
    have hbeg : (Instr.beginRound (ρ i).b).run P w1 = .ok () w2 := by
      rw [← e1]
      simp only [Instr.beginRound, Sem.run_bind, hgl, hset, Result.andThen_ok, Sem.run_pure]
    refine ⟨w2, hbeg, ?_⟩
    have R2 : Rel P ρ1 f1 (h1.set i (.loop .busy pe1 tm1 ps1 asg1 bd1 d1)) A1 w2 := R1.later H2 S2 (by simp)
    have hw := hbd hro (by simpa using hm1) ρ1 A1 w2 R2
    have e2 : (Wd ((some i).map fun i => (ρ1 i).b)) = (Wd none).inRound (ρ i).b := by simp only [Option.map_some, e1]; rfl
    rw [e2] at hw
    have fin : ∀ {ρ3 : Nat → Place} {f3 : Fr} {h3 h4 : Hp} {A3 : Act} {w3 : World} {jump : Option Code} {b : Bool}, endA i jump h3 = some h4 → b = jump.isNone → N (.v (.bool b)) h4 → Rel P ρ3 f3 h3 A3 w3 → Stp h.length ρ1 (h1.set i (.loop .busy pe1 tm1 ps1 asg1 bd1 d1)) w2 ρ3 h3 w3 → h.length ≤ h3.length →
        ∃ v w4, (Instr.endRound (ρ i).b jump).run P w3 = .ok v w4 ∧ Post P ρ h w N (.returned v) w4 := by
      intro ρ3 f3 h3 h4 A3 w3 jump b he hb hn R3 S3 hl3
      unfold endA at he
      split at he <;> first | (cases he; done) | skip
      rename_i st3 pe3 tm3 ps3 asg3 bd3 d3 hi3
      injection he with he
      subst he
      subst hb
      have e3 : ρ3 i = ρ i := (S3.same i hil).trans e1
      obtain ⟨fn3, hgl3, hst3⟩ := run_loopSet R3.heap hi3
      obtain ⟨w4, hset3, H4, S4⟩ := hst3 (if jump.isNone then .ready else .done) jump
      refine ⟨.bool jump.isNone, w4, ?_, ρ3, _, _, rfl, rfl, by simpa using hl3, hn, H4, ?_⟩
      · rw [← e3]
        simp only [Instr.endRound, Sem.run_bind, hgl3, hset3, Result.andThen_ok, Sem.run_pure]
      · exact ((S1.trans (S2.less hm1) (Nat.le_refl _)).trans S3 (Nat.le_refl _)).trans (S4.less hl3) (Nat.le_refl _)
    refine wpIn_mono hw fun e A3 w3 hq3 => ?_
    cases e with
    | normal => obtain ⟨ρ3, f3, h3, ⟨h4, he, hn⟩, R3, S3, hl3⟩ := hq3; exact fin he rfl hn R3 S3 hl3
    | ret => obtain ⟨ρ3, f3, h3, ⟨h4, he, hn⟩, R3, S3, hl3⟩ := hq3; exact fin he rfl hn R3 S3 hl3
    | exit id => obtain ⟨ρ3, f3, h3, ⟨h4, he, hn⟩, R3, S3, hl3⟩ := hq3; exact fin he rfl hn R3 S3 hl3
    | goto t => obtain ⟨ρ3, f3, h3, ⟨h4, he, hn⟩, R3, S3, hl3⟩ := hq3; exact fin he rfl hn R3 S3 hl3
    | panic c => obtain ⟨_, _, _, hk, _⟩ := hq3; exact hk.elim
    | outgrown => exact hq3.elim
  | exit id => obtain ⟨_, _, _, hk, _⟩ := hq; exact hk.elim
  | goto l => obtain ⟨_, _, _, hk, _⟩ := hq; exact hk.elim
  | ret => obtain ⟨_, _, _, hk, _⟩ := hq; exact hk.elim
  | panic c => obtain ⟨_, _, _, hk, _⟩ := hq; exact hk.elim
  | outgrown => exact hq.elim

/-- Behind the iterator. -/
def behA (P : Program) (m : Nat) (i : Nat) (K : Exit → Fr → Hp → Prop) (f : Fr) (h : Hp) : Prop :=
  ∃ st pe tm ps asg bd d, h[i]? = some (.loop st pe tm ps asg bd d) ∧ (st == .busy) = false ∧
    (match pe with
     | none => K .normal f (h.set i .gone)
     | some c => AW P m none c K f (h.set i .gone))
/-- THE STATEMENT 'for .. := range g'. -/
theorem aw_range {g : Operand} {ps : Array Tmp} {asg bd : Code} {gf : FuncId} {cs : List AV} (hg : ev f g = .fn (.func gf) cs) (hok : okFn P gf = true)
    (hc : ACalls P gf (.yld (h.length + 1) :: cs) (h ++ [.dfr] ++ [.loop .ready none f.t ps asg bd h.length]) (fun _ h' => behA P m (h.length + 1) K ⟨f.t, .m h.length :: f.ds⟩ h')) :
    AW P m none (.rangeFunc g ps asg bd) K f h := by
  intro hro hmh ρ A w R
  refine wpIn_rangeFunc fun fn _ => ?_
  have hp1 := Stp.pushObj (ob := .deferred (some [])) R.heap (o := .dfr) rfl (by simp only [ORel]; exact heap_alloc_new w _)
  have hlen1 : (h ++ [AObj.dfr]).length = h.length + 1 := by simp
  have hsz1 : (w.alloc (.deferred (some []))).heap.size = w.heap.size + 1 := by simp
  have R1 : Rel P _ f (h ++ [AObj.dfr]) A (w.alloc (.deferred (some []))) := R.later hp1.1 hp1.2 (by simp)
  have hcs := ev_sc R.tsc g
  rw [hg] at hcs
  have htm : A.tmps = (AV.reals (upd ρ h.length ⟨w.heap.size, 0, 0⟩) f.t).toArray := R1.tmps
  have hagree : ∀ (p q : Place) (l : List AV), AV.scs h.length l = true → AV.reals (upd (upd ρ h.length p) (h.length + 1) q) l = AV.reals ρ l := fun p q l hl =>
    reals_agree (fun i hi => by rw [upd_ne _ _ (by omega), upd_ne _ _ (by omega)]) l hl
  have hp2 := Stp.pushObj (ob := .loop { state := .ready, pending := none, fn, tmps := A.tmps, params := ps, assign := asg, body := bd, defers := w.heap.size }) hp1.1 (o := .loop .ready none f.t ps asg bd h.length)
    (by simp only [AObj.sc, Bool.and_eq_true, Nat.blt_eq]; exact ⟨scs_mono (by simp <;> omega) _ R.tsc, by simp <;> omega⟩)
    (by
      simp only [ORel, hlen1]
      rw [hagree _ _ _ R.tsc, ← R.tmps]
      rw [show (upd (upd ρ h.length ⟨w.heap.size, 0, 0⟩) (h.length + 1) ⟨(w.alloc (.deferred (some []))).heap.size, 0, 0⟩ h.length).b = w.heap.size by rw [upd_ne _ _ (by omega), upd_same]]
      exact ⟨fn, heap_alloc_new _ _⟩)
  rw [hlen1] at hp2
  have S2 := hp1.2.trans hp2.2 (by omega)
  have hen : (Instr.enterLoop fn A.tmps ps asg bd none).run P w = .ok (w.heap.size + 1, [markOf w.heap.size]) ((w.alloc (.deferred (some []))).alloc (.loop { state := .ready, pending := none, fn, tmps := A.tmps, params := ps, assign := asg, body := bd, defers := w.heap.size })) := by
    simp only [Instr.enterLoop, Sem.run_bind, run_newObj, Result.andThen_ok, Sem.run_pure, World.alloc_eq, hsz1, markOf]
  have hcall := hc _ _ hp2.1 (by
    simp only [AV.scs, AV.sc, Bool.and_eq_true, Nat.blt_eq]
    refine ⟨by simp, scs_mono (by simp <;> omega) _ hcs⟩)
  obtain ⟨W2, hW2⟩ : ∃ W2, (w.alloc (.deferred (some []))).alloc (.loop { state := .ready, pending := none, fn, tmps := A.tmps, params := ps, assign := asg, body := bd, defers := w.heap.size }) = W2 := ⟨_, rfl⟩
  rw [hW2] at hen hcall hp2 S2
  refine ⟨w.heap.size + 1, [markOf w.heap.size], W2, { target := .fn (.func gf) (AV.reals ρ cs).toArray, args := #[.func (.yield (w.heap.size + 1)) #[] #[]] }, W2, gf, #[.func (.yield (w.heap.size + 1)) #[] #[]] ++ (AV.reals ρ cs).toArray, W2, hen, ?_, fun _ _ => trivial, ?_, fun h => (by cases h), ?_⟩
  · simp only [resolve, rangeCall, ev_real R.tmps, hg, AV.real, Deferred.ofValue, Sem.run_pure]
    simp [Act.eval]
  · simp only [invoke]
    exact run_callFunc hok _ _
  · have hargs : (AV.reals (upd (upd ρ h.length ⟨w.heap.size, 0, 0⟩) (h.length + 1) ⟨(w.alloc (.deferred (some []))).heap.size, 0, 0⟩) (.yld (h.length + 1) :: cs)).toArray = #[.func (.yield (w.heap.size + 1)) #[] #[]] ++ (AV.reals ρ cs).toArray := by
      rw [AV.reals, hagree _ _ _ hcs]
      simp only [AV.real, upd_same, hsz1]
      apply Array.ext'
      simp
    rw [hargs] at hcall
    refine callsIn_Wd (hcall.mono fun e w3 hp => ?_)
    obtain ⟨ρ3, r3, h3, rfl, hs3, hl3, ⟨st, pe, tm3, ps3, asg3, bd3, d3, hi3, hst, hk⟩, H3, S3⟩ := hp
    have hl3' : h.length + 2 ≤ h3.length := by simpa using hl3
    have S3' := S2.trans S3 (by simp <;> omega)
    obtain ⟨fn3, hgl, hsl⟩ := run_loopSet H3 hi3
    have e3 : ρ3 (h.length + 1) = ⟨w.heap.size + 1, 0, 0⟩ := by
      rw [S3.same (h.length + 1) (by simp), upd_same, hsz1]
    obtain ⟨w4, hset4, H4, S4⟩ : ∃ w4, (setObj (w.heap.size + 1) (.loop { state := .exhausted, pending := pe, fn := fn3, tmps := (AV.reals ρ3 tm3).toArray, params := ps3, assign := asg3, body := bd3, defers := (ρ3 d3).b })).run P w3 = .ok () w4 ∧ HRel P ρ3 (h3.set (h.length + 1) .gone) w4 ∧ Stp h3.length ρ3 h3 w3 ρ3 (h3.set (h.length + 1) .gone) w4 := by
      obtain ⟨w4, a1, a2, a3⟩ := hsl .exhausted pe
      rw [e3] at a1
      have e5 : h3.set (h.length + 1) .gone = (h3.set (h.length + 1) (.loop .exhausted pe tm3 ps3 asg3 bd3 d3)).set (h.length + 1) .gone := by rw [List.set_set]
      rw [e5]
      exact ⟨w4, a1, a2.drop _, a3.trans (Stp.drop _ _) (Nat.le_refl _)⟩
    rw [e3] at hgl
    have hend : (Instr.endLoop (w.heap.size + 1)).run P w3 = .ok pe w4 := by
      simp only [Instr.endLoop, Sem.run_bind, hgl, Result.andThen_ok, hst, Bool.false_eq_true, if_false, hset4, Sem.run_pure]
    have R4 : Rel P ρ3 ⟨f.t, .m h.length :: f.ds⟩ (h3.set (h.length + 1) .gone) { A with defers := [markOf w.heap.size] ++ A.defers } w4 := by
      refine ⟨?_, ?_, ?_, ?_, H4⟩
      · show A.tmps = _
        rw [R.tmps, reals_agree S3'.same _ R.tsc]
      · exact scs_mono (by simp <;> omega) _ R.tsc
      · show [markOf w.heap.size] ++ A.defers = _
        have e6 : (ρ3 h.length).b = w.heap.size := by
          rw [S3.same h.length (by simp <;> omega), upd_ne _ _ (by omega), upd_same]
        have e7 : f.ds.map (Dq.real ρ3) = f.ds.map (Dq.real ρ) := List.map_congr_left fun d hd => Dq.agree S3'.same d (R.dsc d hd)
        rw [R.defers, List.map_cons, e7, Dq.real, e6]
        rfl
      · intro d hd
        simp only [List.length_set]
        rcases List.mem_cons.1 hd with rfl | hd
        · simp only [Dq.sc, Nat.blt_eq]; omega
        · exact Dq.mono (by omega) d (R.dsc d hd)
    have S5 := S3'.trans S4 (by omega)
    refine ⟨pe, w4, hend, ?_⟩
    cases pe with
    | none => exact ⟨ρ3, _, _, hk, R4, S5.less hmh, by simp <;> omega⟩
    | some c =>
      have := hk (fun i hi => (by cases hi)) (by simp <;> omega) ρ3 _ w4 R4
      exact wpIn_mono this fun e A5 w5 hq => AQ.trans (S5.less hmh) hq
end
end Go.Az
/-
  A runner over abstract memory, for closed inputs, and that what it says is a contract ('run_acalls'). Conditions: stated at each theorem.
-/
set_option linter.unusedSimpArgs false
set_option linter.unusedVariables false
namespace Go.Az
open Go Go.Chz Go.RowKit

/-! ### Sameness that can be reckoned -/
def sameV : Value → Value → Bool
  | .bool a, .bool b => a == b
  | .int k a, .int k' b => decide (k = k') && decide (a = b)
  | .string a, .string b => leq a.data.toList b.data.toList
  | .pointer none, .pointer none => true
  | .slice none n c, .slice none n' c' => Nat.beq n n' && Nat.beq c c'
  | _, _ => false
theorem sameV_eq {a b : Value} (h : sameV a b = true) : a = b := by
  unfold sameV at h
  split at h
  · simp at h; rw [h]
  · simp at h; rw [h.1, h.2]
  · rename_i a b
    rw [leq_iff] at h
    simp only [decide_eq_true_eq] at h
    have : a = b := ByteArray.ext (Array.ext' h)
    rw [this]
  · rfl
  · simp only [Bool.and_eq_true, Nat.beq_eq] at h; rw [h.1, h.2]
  · cases h
def sameA : AV → AV → Bool
  | .v a, .v b => sameV a b
  | .ptr i o, .ptr i' o' => Nat.beq i i' && Nat.beq o o'
  | .sl i o n c u, .sl i' o' n' c' u' => Nat.beq i i' && Nat.beq o o' && Nat.beq n n' && Nat.beq c c' && (u == u')
  | .mp i, .mp i' => Nat.beq i i'
  | .yld i, .yld i' => Nat.beq i i'
  | _, _ => false
theorem sameA_eq {a b : AV} (h : sameA a b = true) : a = b := by
  unfold sameA at h
  split at h
  · rw [sameV_eq h]
  · simp only [Bool.and_eq_true, Nat.beq_eq] at h; rw [h.1, h.2]
  · simp only [Bool.and_eq_true, Nat.beq_eq, beq_iff_eq] at h; obtain ⟨⟨⟨⟨h1, h2⟩, h3⟩, h4⟩, h5⟩ := h; rw [h1, h2, h3, h4, h5]
  · simp only [Nat.beq_eq] at h; rw [h]
  · simp only [Nat.beq_eq] at h; rw [h]
  · cases h
def sameL : List AV → List AV → Bool
  | [], [] => true
  | a :: r, b :: s => sameA a b && sameL r s
  | _, _ => false
theorem sameL_eq : ∀ {a b : List AV}, sameL a b = true → a = b
  | [], [], _ => rfl
  | [], _ :: _, h => by cases h
  | _ :: _, [], h => by cases h
  | a :: r, b :: s, h => by
    simp only [sameL, Bool.and_eq_true] at h
    rw [sameA_eq h.1, sameL_eq h.2]
def sameM : List (Value × AV × Nat) → List (Value × AV × Nat) → Bool
  | [], [] => true
  | a :: r, b :: s => sameV a.1 b.1 && sameA a.2.1 b.2.1 && Nat.beq a.2.2 b.2.2 && sameM r s
  | _, _ => false
theorem sameM_eq : ∀ {a b : List (Value × AV × Nat)}, sameM a b = true → a = b
  | [], [], _ => rfl
  | [], _ :: _, h => by cases h
  | _ :: _, [], h => by cases h
  | (a1, a2, a3) :: r, (b1, b2, b3) :: s, h => by
    simp only [sameM, Bool.and_eq_true, Nat.beq_eq] at h
    obtain ⟨⟨⟨h1, h2⟩, h3⟩, h4⟩ := h
    rw [sameV_eq h1, sameA_eq h2, h3, sameM_eq h4]
def sameO : AObj → AObj → Bool
  | .cells cs t o, .cells cs' t' o' => Nat.beq t t' && (o == o') && sameL cs cs'
  | .map es c, .map es' c' => Nat.beq c c' && sameM es es'
  | .gone, .gone => true
  | _, _ => false
theorem sameO_eq {a b : AObj} (h : sameO a b = true) : a = b := by
  unfold sameO at h
  split at h
  · simp only [Bool.and_eq_true, Nat.beq_eq, beq_iff_eq] at h; obtain ⟨⟨h1, h2⟩, h3⟩ := h; rw [h1, h2, sameL_eq h3]
  · simp only [Bool.and_eq_true, Nat.beq_eq] at h; rw [h.1, sameM_eq h.2]
  · rfl
  · cases h

end Go.Az
/-
  A runner over abstract memory, for closed inputs, and that what it says is a contract ('run_acalls'). Conditions: stated at each theorem.
-/
set_option linter.unusedSimpArgs false
set_option linter.unusedVariables false
namespace Go.Az
open Go Go.Chz Go.RowKit

/-! ### An order for a region -/
def lightOp (P : Program) : Op → Bool
  | .move _ | .assign _ | .pick .. | .load .. | .nilCheck _ | .binOp .. | .unOp .. | .fieldAddr .. | .field .. | .indexAddr .. | .index .. | .extract .. | .build .. | .makeInterface .. | .makeFunc .. | .lookup .. | .slice .. => true
  | .convert s d _ => match P.underlying s, P.underlying d with
    | some (.int _), some (.int _) => true
    | _, _ => false
  | .call c => match c.callee with
    | .builtin .len | .builtin .min | .builtin .max => true
    | _ => false
  | _ => false
def sched (P : Program) (ops : Array Oper) : Nat → Array Bool → List (Nat × Bool) → Option (List (Nat × Bool))
  | 0, _, acc => some acc.reverse
  | k + 1, l, acc =>
    match (Region.ready .any ops l).find? (fun i => match ops[i]? with | some o => lightOp P o.op && Region.free .any ops l i | none => false) with
    | some i => sched P ops k (l.setIfInBounds i true) ((i, true) :: acc)
    | none => match Region.ready .any ops l with
      | [i] => sched P ops k (l.setIfInBounds i true) ((i, false) :: acc)
      | _ => none

/-! ### Reckoned ahead -/
def fNat {α : Type} (n : Nat) (k : Nat → α) : α := match n with
  | 0 => k 0
  | m + 1 => k (m + 1)
def fInt {α : Type} (n : Int) (k : Int → α) : α := match n with
  | .ofNat m => fNat m fun m => k (.ofNat m)
  | .negSucc m => fNat m fun m => k (.negSucc m)
def fBool {α : Type} (b : Bool) (k : Bool → α) : α := match b with
  | true => k true
  | false => k false
def fKind {α : Type} (x : IntKind) (k : IntKind → α) : α := match x with
  | .i8 => k .i8 | .i16 => k .i16 | .i32 => k .i32 | .i64 => k .i64 | .u8 => k .u8 | .u16 => k .u16 | .u32 => k .u32 | .u64 => k .u64
def fBytes {α : Type} (l : List UInt8) (k : List UInt8 → α) : α := match l with
  | [] => k []
  | a :: r => fNat a.toNat fun n => fBytes r fun r => k (UInt8.ofNat n :: r)
def fV {α : Type} (v : Value) (k : Value → α) : α := match v with
  | .int x n => fKind x fun x => fInt n fun n => k (.int x n)
  | .bool b => fBool b fun b => k (.bool b)
  | .string s => fBytes s.data.toList fun l => k (.string (mkB l))
  | v => k v
mutual
def fA {α : Type} (a : AV) (k : AV → α) : α := match a with
  | .v x => fV x fun x => k (.v x)
  | .ptr i o => fNat i fun i => fNat o fun o => k (.ptr i o)
  | .sl i o n c u => fNat i fun i => fNat o fun o => fNat n fun n => fNat c fun c => fBool u fun u => k (.sl i o n c u)
  | .mp i => fNat i fun i => k (.mp i)
  | .yld i => fNat i fun i => k (.yld i)
  | .fn g cs => fL cs fun cs => k (.fn g cs)
  | .ifc t x => fA x fun x => k (.ifc t x)
  | .agg cs => fL cs fun cs => k (.agg cs)
  | .tup cs => fL cs fun cs => k (.tup cs)
def fL {α : Type} (l : List AV) (k : List AV → α) : α := match l with
  | [] => k []
  | a :: r => fA a fun a => fL r fun r => k (a :: r)
end
/-- The list's backbone alone. -/
def fS {β α : Type} (l : List β) (k : List β → α) : α := match l with
  | [] => k []
  | a :: r => fS r fun r => k (a :: r)
def fM {α : Type} (l : List (Value × AV × Nat)) (k : List (Value × AV × Nat) → α) : α := match l with
  | [] => k []
  | (a, b, c) :: r => fV a fun a => fA b fun b => fNat c fun c => fM r fun r => k ((a, b, c) :: r)
def fO {α : Type} (o : AObj) (k : AObj → α) : α := match o with
  | .gone => k .gone
  | .cells cs t own => fL cs fun cs => fBool own fun own => k (.cells cs t own)
  | .map es c => fM es fun es => fNat c fun c => k (.map es c)
  | .loop st pe tm ps asg bd d => k (.loop st pe tm ps asg bd d)
  | .dfr => k .dfr
/-- The objects with these numbers. -/
def fH {α : Type} (l : List Nat) (h : Hp) (k : Hp → α) : α := match l with
  | [] => fS h k
  | i :: r => match h[i]? with
    | some o => fO o fun o => fH r (h.set i o) k
    | none => fH r h k
theorem fNat_eq {α : Type} (n : Nat) (k : Nat → α) : fNat n k = k n := by cases n <;> rfl
theorem fInt_eq {α : Type} (n : Int) (k : Int → α) : fInt n k = k n := by cases n <;> simp only [fInt, fNat_eq]
theorem fBool_eq {α : Type} (n : Bool) (k : Bool → α) : fBool n k = k n := by cases n <;> rfl
theorem fKind_eq {α : Type} (n : IntKind) (k : IntKind → α) : fKind n k = k n := by cases n <;> rfl
theorem fBytes_eq {α : Type} : ∀ (l : List UInt8) (k : List UInt8 → α), fBytes l k = k l
  | [], k => rfl
  | a :: r, k => by
    have e : UInt8.ofNat a.toNat = a := by simp
    simp only [fBytes, fNat_eq, fBytes_eq r, e]
theorem fV_eq {α : Type} (v : Value) (k : Value → α) : fV v k = k v := by
  cases v <;> simp only [fV, fKind_eq, fInt_eq, fBool_eq, fBytes_eq]
  rfl
mutual
theorem fA_eq {α : Type} : ∀ (a : AV) (k : AV → α), fA a k = k a
  | .v x, k => by simp only [fA, fV_eq]
  | .ptr i o, k => by simp only [fA, fNat_eq]
  | .sl i o n c u, k => by simp only [fA, fNat_eq, fBool_eq]
  | .mp i, k => by simp only [fA, fNat_eq]
  | .yld i, k => by simp only [fA, fNat_eq]
  | .fn g cs, k => by simp only [fA, fL_eq cs]
  | .ifc t x, k => by simp only [fA, fA_eq x]
  | .agg cs, k => by simp only [fA, fL_eq cs]
  | .tup cs, k => by simp only [fA, fL_eq cs]
theorem fL_eq {α : Type} : ∀ (l : List AV) (k : List AV → α), fL l k = k l
  | [], k => rfl
  | a :: r, k => by simp only [fL, fA_eq a, fL_eq r]
end
theorem fS_eq {β α : Type} : ∀ (l : List β) (k : List β → α), fS l k = k l
  | [], k => rfl
  | a :: r, k => by simp only [fS, fS_eq r]
theorem fM_eq {α : Type} : ∀ (l : List (Value × AV × Nat)) (k : List (Value × AV × Nat) → α), fM l k = k l
  | [], k => rfl
  | (a, b, c) :: r, k => by simp only [fM, fV_eq, fA_eq, fNat_eq, fM_eq r]
theorem fO_eq {α : Type} (o : AObj) (k : AObj → α) : fO o k = k o := by cases o <;> simp only [fO, fL_eq, fBool_eq, fM_eq, fNat_eq]
theorem fH_eq {α : Type} : ∀ (l : List Nat) (h : Hp) (k : Hp → α), fH l h k = k h
  | [], h, k => fS_eq h k
  | i :: r, h, k => by
    simp only [fH]
    split
    · rename_i o hi
      obtain ⟨hlt, rfl⟩ := List.getElem?_eq_some_iff.1 hi
      rw [fO_eq, List.set_getElem_self, fH_eq r]
    · rw [fH_eq r]

/-! ### The runner -/
def fFr {α : Type} (f : Fr) (k : Fr → α) : α := fS f.t fun t => k ⟨t, f.ds⟩
theorem fFr_eq {α : Type} (f : Fr) (k : Fr → α) : fFr f k = k f := by simp only [fFr, fS_eq]
def xL (ops : Array Oper) (xo : Oper → Fr → Hp → Option (AV × Hp)) : List Nat → Fr → Hp → Option (Fr × Hp)
  | [], f, h => some (f, h)
  | i :: r, f, h => match ops[i]? with
    | none => xL ops xo r f h
    | some o => match wantA ops f o with
      | true => match xo o f h with
        | some (v, h') => fA v fun v => fFr (f.put o.dst v) fun f' => xL ops xo r f' h'
        | none => none
      | false => fFr (f.put o.dst (.v undef)) fun f' => xL ops xo r f' h
def xD (P : Program) (ops : Array Oper) (xo : Oper → Fr → Hp → Option (AV × Hp)) (h0 : Hp) : List (Nat × Bool) → Fr → Hp → List Nat → List Hp → Option (Fr × Hp × List Nat × List Hp)
  | [], f, h, us, hs => some (f, h, us, hs)
  | (i, true) :: r, f, h, us, hs => match ops[i]? with
    | none => none
    | some o => match wantA ops f o with
      | true => match exL P f (padH h0 h) o.op with
        | some v => fA v fun v => fFr (f.put o.dst v) fun f' => xD P ops xo h0 r f' h (readsOf f o.op ++ us) hs
        | none => none
      | false => fFr (f.put o.dst (.v undef)) fun f' => xD P ops xo h0 r f' h us hs
  | (i, false) :: r, f, h, us, hs => match ops[i]? with
    | none => none
    | some o => match wantA ops f o with
      | true => match xo o f h with
        | some (v, h') => fA v fun v => fFr (f.put o.dst v) fun f' => xD P ops xo h0 r f' h' us (h' :: hs)
        | none => none
      | false => fFr (f.put o.dst (.v undef)) fun f' => xD P ops xo h0 r f' h us hs
def stays (h : Hp) (us : List Nat) (h' : Hp) : Bool := us.all fun i => match h[i]?, h'[i]? with
  | some a, some b => sameO a b
  | none, _ => true
  | _, _ => false
def xR (P : Program) (ops : Array Oper) (xo : Oper → Fr → Hp → Option (AV × Hp)) (f : Fr) (h : Hp) : Option (Fr × Hp) :=
  match sched P ops ops.size (Array.replicate ops.size false) [] with
  | some l => match ordOk ops l with
    | true => match xD P ops xo h l f h [] [] with
      | some (f', h', us, hs) => match hs.all (stays h us) with
        | true => some (f', h')
        | false => none
      | none => none
    | false => none
  | none => none
/-- The numbers of the objects that an operation may turn. -/
def touched (f : Fr) (h : Hp) (op : Op) : List Nat :=
  match op with
  | .store _ a _ => match ev f a with
    | .ptr i _ => [i]
    | _ => []
  | .mapUpdate _ m _ _ => match ev f m with
    | .mp i => [i]
    | _ => []
  | .insert _ m _ _ => match ev f m with
    | .mp i => [i]
    | _ => []
  | .call c => match c.args.toList with
    | s :: _ => match ev f s with
      | .sl i _ _ _ _ => [i, h.length]
      | _ => [h.length]
    | _ => [h.length]
  | _ => [h.length]
def chkL (h : Hp) (x : Option (AV × Hp)) : Option (AV × Hp) :=
  match x with
  | some (r, h') => match Nat.ble h.length h'.length with
    | true => some (r, h')
    | false => none
  | none => none
def xOp (P : Program) (Γ : FuncId → List AV → Option AV) (call : FuncId → List AV → Hp → Option (AV × Hp)) (yld : Nat → List AV → Hp → Option (AV × Hp)) (o : Oper) (f : Fr) (h : Hp) : Option (AV × Hp) :=
  match callOf f o.op with
  | some (g, args) => match okFn P g with
    | true => match Γ g args with
      | some r => some (r, h)
      | none => chkL h (call g args h)
    | false => none
  | none => match yldOf f o.op with
    | some (i, args) => chkL h (yld i args h)
    | none => match exL P f h o.op with
      | some r => some (r, h)
      | none => match exH P f h o.op with
        | some (r, h') => fH (touched f h o.op) h' fun h' => chkL h (some (r, h'))
        | none => none
def trim (n : Nat) (r : AV) (h : Hp) : AV × Hp :=
  match r.sc n && (h.take n).all (AObj.sc n) with
  | true => (r, h.take n)
  | false => (r, h)
def callW (P : Program) (xc : Option Nat → Code → Fr → Hp → Option (Exit × Fr × Hp)) (g : FuncId) (args : List AV) (h : Hp) : Option (AV × Hp) :=
  match P.funcs[g]? with
  | some fn => match fn.body with
    | some c => match xc none c ⟨args ++ List.replicate (fn.ntmps - args.length) (.v undef), []⟩ h with
      | some (.normal, f', h') => match dropAll h' f'.ds with
        | some h'' => match resA P fn f' h'' with
          | some r => fA r fun r => some (trim h.length r h'')
          | none => none
        | none => none
      | some (.ret, f', h') => match dropAll h' f'.ds with
        | some h'' => match resA P fn f' h'' with
          | some r => fA r fun r => some (trim h.length r h'')
          | none => none
        | none => none
      | _ => none
    | none => none
  | none => none
def endX (i : Nat) (jump : Option Code) (b : Bool) (h : Hp) : Option (AV × Hp) :=
  match endA i jump h with
  | some h' => some (.v (.bool b), h')
  | none => none
def yldW (xc : Option Nat → Code → Fr → Hp → Option (Exit × Fr × Hp)) (i : Nat) (args : List AV) (h : Hp) : Option (AV × Hp) :=
  match h[i]? with
  | some (.loop st pe tm ps asg bd d) => match Nat.beq args.length ps.size with
    | true => match xc (some i) asg ⟨setAll tm (ps.toList.zip args), []⟩ h with
      | some (.normal, f1, h1) => match begA i h1 with
        | some h1' => match xc (some i) bd f1 h1' with
          | some (.normal, _, h2) => endX i none true h2
          | some (.ret, _, h2) => endX i (some .ret) false h2
          | some (.exit id, _, h2) => endX i (some (.exit id)) false h2
          | some (.goto t, _, h2) => endX i (some (.goto t)) false h2
          | _ => none
        | none => none
      | _ => none
    | false => none
  | _ => none
def xCode (P : Program) (Γ : FuncId → List AV → Option AV) : Nat → Option Nat → Code → Fr → Hp → Option (Exit × Fr × Hp)
  | 0, _, _, _, _ => none
  | n + 1, ro, c, f, h =>
    match c with
    | .skip => some (.normal, f, h)
    | .region _ ops false => match xL ops (xOp P Γ (callW P (xCode P Γ n)) (yldW (xCode P Γ n))) (List.range ops.size) f h with
      | some (f', h') => some (.normal, f', h')
      | none => none
    | .region _ ops true => match xR P ops (xOp P Γ (callW P (xCode P Γ n)) (yldW (xCode P Γ n))) f h with
      | some (f', h') => some (.normal, f', h')
      | none => none
    | .seq a b => match xCode P Γ n ro a f h with
      | some (.normal, f1, h1) => xCode P Γ n ro b f1 h1
      | x => x
    | .cond c a b => match ev f c with
      | .v (.bool true) => xCode P Γ n ro a f h
      | .v (.bool false) => xCode P Γ n ro b f h
      | _ => none
    | .block id b => match xCode P Γ n ro b f h with
      | some (.exit i, f1, h1) => match Nat.beq i id with
        | true => some (.normal, f1, h1)
        | false => some (.exit i, f1, h1)
      | x => x
    | .loop b => match xCode P Γ n ro b f h with
      | some (.normal, f1, h1) => xCode P Γ n ro (.loop b) f1 h1
      | x => x
    | .rangeFunc g ps asg bd => match ro, ev f g with
      | none, .fn (.func gf) cs => match okFn P gf with
        | true => match callW P (xCode P Γ n) gf (.yld (h.length + 1) :: cs) (h ++ [.dfr] ++ [.loop .ready none f.t ps asg bd h.length]) with
          | some (_, h') => match h'[h.length + 1]? with
            | some (.loop st pe _ _ _ _ _) => match st == .busy with
              | true => none
              | false => match pe with
                | none => some (.normal, ⟨f.t, .m h.length :: f.ds⟩, h'.set (h.length + 1) .gone)
                | some c => xCode P Γ n none c ⟨f.t, .m h.length :: f.ds⟩ (h'.set (h.length + 1) .gone)
            | _ => none
          | none => none
        | false => none
      | _, _ => none
    | .exit id => some (.exit id, f, h)
    | .label _ => some (.normal, f, h)
    | .scope b => match xCode P Γ n ro b f h with
      | some (.goto _, _, _) => none
      | x => x
    | .ret => some (.ret, f, h)
    | _ => none
def runC (P : Program) (Γ : FuncId → List AV → Option AV) (n : Nat) (g : FuncId) (args : List AV) (h : Hp) : Option (AV × Hp) := callW P (xCode P Γ n) g args h
end Go.Az
/-
  What the runner says is a contract ('run_acalls'). Conditions: stated at each theorem.
-/
set_option linter.unusedSimpArgs false
set_option linter.unusedVariables false
namespace Go.Az
open Go Go.Chz Go.RowKit

/-! ### A scope through which the run goes without a goto -/
theorem wpIn_scope {F : Fence} {n : Nat} {P : Program} {c : Code} {Q : Exit → Act → World → Prop} {a : Act} {w : World} (h : c.wpIn F n P (Exit.noGoto Q) a w) : (Code.scope c).wpIn F n P Q a w := by
  intro b k cs hro hb hr
  have h0 : (lone (b.atR a (.code (.scope c) :: k)) cs w).fenced P F := fenced_calm hb hr rfl
  have s1 : step P (lone (b.atR a (.code (.scope c) :: k)) cs w) = .next (lone (b.atR a (.code c :: .inScope c :: k)) cs w) := step_lone_go (by simp [stepG, stepG.exec, Frame.atR])
  have s2 : ∀ a w, step P (lone (b.atR a (.inScope c :: k)) cs w) = .next (lone (b.atR a k) cs w) := fun a w => step_lone_go (by simp [stepG, stepG.exec, Frame.atR])
  obtain ⟨e, a₁, w₁, hq, harr⟩ := h b (.inScope c :: k) cs hro hb hr
  cases e with
  | normal => exact ⟨.normal, a₁, w₁, hq, .head h0 s1 (StepsIn.trans harr (.one (fenced_calm hb hr rfl) (s2 a₁ w₁)))⟩
  | exit id' =>
    have hx : exitTo id' (.inScope c :: k) = exitTo id' k := by simp [exitTo]
    exact ⟨.exit id', a₁, w₁, hq, fun k' hk => .head h0 s1 (harr.1 k' (by rw [hx]; exact hk)),
      fun hr' hk => let ⟨k₁, h1, h2⟩ := harr.2 hr' (by rw [hx]; exact hk); ⟨k₁, h1, .head h0 s1 h2⟩⟩
  | goto l => exact hq.elim
  | ret => exact ⟨_, a₁, w₁, hq, .of_steps (.one h0 s1) harr⟩
  | panic ch => exact ⟨_, a₁, w₁, hq, .of_steps (.one h0 s1) harr⟩
  | outgrown => exact ⟨_, a₁, w₁, hq, .of_steps (.one h0 s1) harr⟩
def noGo (K : Exit → Fr → Hp → Prop) : Exit → Fr → Hp → Prop
  | .goto _, _, _ => False
  | e, f, h => K e f h
section
variable {P : Program} {ρ : Nat → Place} {f : Fr} {h : Hp} {A : Act} {w : World} {m : Nat} {ro : Option Nat} {K : Exit → Fr → Hp → Prop}

theorem AW.mono {c : Code} {K' : Exit → Fr → Hp → Prop} (h1 : AW P m ro c K f h) (hk : ∀ e f h, K e f h → K' e f h) : AW P m ro c K' f h := by
  intro hro hm ρ A w R
  refine wpIn_mono (h1 hro hm ρ A w R) fun e A' w' hq => ?_
  cases e <;> first
    | exact hq
    | (obtain ⟨ρ2, f2, h2, hk2, R, S2, hm⟩ := hq; exact ⟨ρ2, f2, h2, hk _ _ _ hk2, R, S2, hm⟩)
theorem aw_scope {b : Code} (h1 : AW P m ro b (noGo K) f h) : AW P m ro (.scope b) K f h := by
  intro hro hmh ρ A w R
  refine wpIn_scope (wpIn_mono (h1 hro hmh ρ A w R) fun e A' w' hq => ?_)
  cases e with
  | goto l => obtain ⟨ρ', f', h', hk', _⟩ := hq; exact hk'.elim
  | normal => exact hq
  | exit i => exact hq
  | ret => exact hq
  | panic c => exact hq
  | outgrown => exact hq
theorem Wd_same {ρ' : Nat → Place} {h' : Hp} {w' : World} (hro : ∀ i, ro = some i → i < m) (S : Stp m ρ h w ρ' h' w') : (Wd (ro.map fun i => (ρ' i).b)) = (Wd (ro.map fun i => (ρ i).b)) := by
  cases ro with
  | none => rfl
  | some i => simp only [Option.map_some, S.same i (hro i rfl)]
theorem aw_seq {a b : Code} (h1 : AW P m ro a (thenK (AW P m ro b K) K) f h) : AW P m ro (.seq a b) K f h := by
  intro hro hm ρ A w R
  refine wpIn_seq (wpIn_mono (h1 hro hm ρ A w R) fun e A' w' hq => ?_)
  cases e with
  | normal =>
    obtain ⟨ρ', f', h', hk', R', S, hm'⟩ := hq
    have := hk' hro hm' ρ' A' w' R'
    rw [Wd_same hro S] at this
    exact wpIn_mono this fun e2 A2 w2 hq2 => AQ.trans S hq2
  | exit id => exact hq
  | goto l => exact hq
  | ret => exact hq
  | panic c => exact hq
  | outgrown => exact hq
theorem aw_cond {c : Operand} {a b : Code} {t : Bool} (ht : ev f c = .v (.bool t)) (h1 : AW P m ro (if t then a else b) K f h) : AW P m ro (.cond c a b) K f h := by
  intro hro hm ρ A w R
  exact wpIn_cond (t := t) (by rw [ev_real R.tmps, ht]; rfl) (h1 hro hm ρ A w R)
theorem aw_block {id : Nat} {b : Code} (h1 : AW P m ro b (blkK id K) f h) : AW P m ro (.block id b) K f h := by
  intro hro hm ρ A w R
  refine wpIn_block (wpIn_mono (h1 hro hm ρ A w R) fun e A' w' hq => ?_)
  cases e with
  | exit i =>
    obtain ⟨ρ', f', h', hk', R', S, hm'⟩ := hq
    simp only [blkK] at hk'
    simp only [Exit.inBlock]
    split
    · rename_i hid; rw [if_pos hid] at hk'; exact ⟨ρ', f', h', hk', R', S, hm'⟩
    · rename_i hid; rw [if_neg hid] at hk'; exact ⟨ρ', f', h', hk', R', S, hm'⟩
  | normal => exact hq
  | goto l => exact hq
  | ret => exact hq
  | panic c => exact hq
  | outgrown => exact hq
/-- So many rounds. -/
def ARd (P : Program) (m : Nat) (ro : Option Nat) (b : Code) (K : Exit → Fr → Hp → Prop) : Nat → Fr → Hp → Prop
  | 0, _, _ => False
  | k + 1, f, h => AW P m ro b (thenK (ARd P m ro b K k) K) f h
theorem aw_rounds {b : Code} (k : Nat) (hr : ARd P m ro b K k f h) : AW P m ro (.loop b) K f h := by
  intro hro hm ρ A w R
  have key : ∀ (k : Nat) (f' : Fr) (h' : Hp) (ρ' : Nat → Place) (A' : Act) (w' : World), ARd P m ro b K k f' h' → Rel P ρ' f' h' A' w' → Stp m ρ h w ρ' h' w' → m ≤ h'.length → Code.roundsIn (Wd (ro.map fun i => (ρ i).b)) 0 P b (AQ P m ρ h w K) k A' w' := by
    intro k
    induction k with
    | zero => intro f' h' ρ' A' w' hr; exact hr.elim
    | succ k ih =>
      intro f' h' ρ' A' w' hr R' S hm'
      have := hr hro hm' ρ' A' w' R'
      rw [Wd_same hro S] at this
      refine wpIn_mono this fun e A2 w2 hq => ?_
      cases e with
      | normal => obtain ⟨ρ2, f2, h2, hk2, R2, S2, hm2⟩ := hq; exact ih f2 h2 ρ2 A2 w2 hk2 R2 (S.trans S2 (Nat.le_refl _)) hm2
      | exit id => obtain ⟨ρ2, f2, h2, hk2, R2, S2, hm2⟩ := hq; exact ⟨ρ2, f2, h2, hk2, R2, S.trans S2 (Nat.le_refl _), hm2⟩
      | goto l => obtain ⟨ρ2, f2, h2, hk2, R2, S2, hm2⟩ := hq; exact ⟨ρ2, f2, h2, hk2, R2, S.trans S2 (Nat.le_refl _), hm2⟩
      | ret => obtain ⟨ρ2, f2, h2, hk2, R2, S2, hm2⟩ := hq; exact ⟨ρ2, f2, h2, hk2, R2, S.trans S2 (Nat.le_refl _), hm2⟩
      | panic c => obtain ⟨ρ2, f2, h2, hk2, R2, S2, hm2⟩ := hq; exact ⟨ρ2, f2, h2, hk2, R2, S.trans S2 (Nat.le_refl _), hm2⟩
      | outgrown => exact hq
  exact wpIn_loop_rounds k (key k f h ρ A w hr R (Stp.refl _ _ _ _) hm)

/-! ### Regions -/
/-- What an operation's runner must be. -/
def XoOk (P : Program) (xo : Oper → Fr → Hp → Option (AV × Hp)) : Prop := ∀ o f h v h', xo o f h = some (v, h') → ∀ N : AV → Hp → Prop, N v h' → WOp P o f h N
theorem xL_ok {ops : Array Oper} {xo : Oper → Fr → Hp → Option (AV × Hp)} (hx : XoOk P xo) {K : Fr → Hp → Prop} : ∀ (l : List Nat) (f : Fr) (h : Hp) (f' : Fr) (h' : Hp), xL ops xo l f h = some (f', h') → K f' h' → wkL P ops l K f h
  | [], f, h, f', h', hr, hk => by
    simp only [xL, Option.some.injEq, Prod.mk.injEq] at hr
    obtain ⟨rfl, rfl⟩ := hr; exact hk
  | i :: r, f, h, f', h', hr, hk => by
    simp only [xL] at hr
    simp only [wkL]
    cases ho : ops[i]? with
    | none => simp only [ho] at hr ⊢; exact xL_ok hx r f h f' h' hr hk
    | some o =>
      simp only [ho] at hr ⊢
      split at hr
      · rename_i hw
        rw [if_pos hw]
        split at hr
        · rename_i v h1 hv
          simp only [fA_eq, fFr_eq] at hr
          exact hx o f h v h1 hv _ (xL_ok hx r _ h1 f' h' hr hk)
        · cases hr
      · rename_i hw
        rw [if_neg (by rw [hw]; simp)]
        simp only [fFr_eq] at hr
        exact xL_ok hx r _ h f' h' hr hk

theorem stays_spec {h h' : Hp} {us : List Nat} (hs : stays h us h' = true) (i : Nat) (hi : i ∈ us) (o : AObj) (ho : h[i]? = some o) : h'[i]? = some o := by
  have := List.all_eq_true.1 hs i hi
  rw [ho] at this
  cases hb : h'[i]? with
  | none => rw [hb] at this; cases this
  | some b => rw [hb] at this; rw [sameO_eq this]

theorem xD_ok {ops : Array Oper} {xo : Oper → Fr → Hp → Option (AV × Hp)} (hx : XoOk P xo) (hxl : ∀ o f h v h', xo o f h = some (v, h') → h.length ≤ h'.length) {h0 : Hp} {K : Fr → Hp → Prop} {uz : List Nat} :
    ∀ (l : List (Nat × Bool)) (f : Fr) (h : Hp) (us : List Nat) (hs : List Hp) (f' : Fr) (h' : Hp) (us' : List Nat) (hs' : List Hp), h0.length ≤ h.length → xD P ops xo h0 l f h us hs = some (f', h', us', hs') →
      (∀ i ∈ us', i ∈ uz) → hs'.all (stays h0 uz) = true → K f' h' → (∀ i ∈ us, i ∈ us') ∧ (∀ x ∈ hs, x ∈ hs') ∧ wkD P ops (keepH uz h0) l K f h
  | [], f, h, us, hs, f', h', us', hs', hl, hr, hu, hst, hk => by
    simp only [xD, Option.some.injEq, Prod.mk.injEq] at hr
    obtain ⟨rfl, rfl, rfl, rfl⟩ := hr
    exact ⟨fun _ h => h, fun _ h => h, hk⟩
  | (i, true) :: r, f, h, us, hs, f', h', us', hs', hl, hr, hu, hst, hk => by
    simp only [xD] at hr
    simp only [wkD]
    cases ho : ops[i]? with
    | none => simp only [ho] at hr; cases hr
    | some o =>
      simp only [ho] at hr ⊢
      split at hr
      · rename_i hw
        rw [if_pos hw]
        split at hr
        · rename_i v hv
          simp only [fA_eq, fFr_eq] at hr
          obtain ⟨h1, h2, h3⟩ := xD_ok hx hxl r _ h _ hs f' h' us' hs' hl hr hu hst hk
          refine ⟨fun j hj => h1 j (List.mem_append_right _ hj), h2, v, exL_reads hv fun j hj => ?_, h3⟩
          have hjz : j ∈ uz := hu j (h1 j (List.mem_append_left _ hj))
          simp only [padH, keepH_length]
          by_cases hlt : j < h0.length
          · rw [List.getElem?_append_left (by rw [keepH_length]; exact hlt), List.getElem?_append_left hlt, keepH_get]
            have : uz.contains j = true := by simpa using hjz
            simp only [this, if_true]
            cases h0[j]? <;> rfl
          · rw [List.getElem?_append_right (by rw [keepH_length]; omega), List.getElem?_append_right (by omega), keepH_length]
        · cases hr
      · rename_i hw
        rw [if_neg (by rw [hw]; simp)]
        simp only [fFr_eq] at hr
        exact xD_ok hx hxl r _ h us hs f' h' us' hs' hl hr hu hst hk
  | (i, false) :: r, f, h, us, hs, f', h', us', hs', hl, hr, hu, hst, hk => by
    simp only [xD] at hr
    simp only [wkD]
    cases ho : ops[i]? with
    | none => simp only [ho] at hr; cases hr
    | some o =>
      simp only [ho] at hr ⊢
      split at hr
      · rename_i hw
        rw [if_pos hw]
        split at hr
        · rename_i v h1 hv
          simp only [fA_eq, fFr_eq] at hr
          have hl1 := hxl o f h v h1 hv
          obtain ⟨a1, a2, a3⟩ := xD_ok hx hxl r _ h1 us (h1 :: hs) f' h' us' hs' (Nat.le_trans hl hl1) hr hu hst hk
          refine ⟨a1, fun x hx => a2 x (by simp [hx]), hx o f h v h1 hv _ ⟨keeps_of (by rw [keepH_length]; omega) fun j q hj => ?_, a3⟩⟩
          have hs1 : stays h0 uz h1 = true := List.all_eq_true.1 hst h1 (a2 h1 (by simp))
          rw [keepH_get] at hj
          obtain ⟨q0, hq0, rfl⟩ := Option.map_eq_some_iff.1 hj
          by_cases hc : uz.contains j = true
          · rw [if_pos hc]
            exact .inr (stays_spec hs1 j (by simpa using hc) q0 hq0)
          · rw [if_neg hc]; exact .inl rfl
        · cases hr
      · rename_i hw
        rw [if_neg (by rw [hw]; simp)]
        simp only [fFr_eq] at hr
        exact xD_ok hx hxl r _ h us hs f' h' us' hs' hl hr hu hst hk
theorem xR_ok {ops : Array Oper} {xo : Oper → Fr → Hp → Option (AV × Hp)} (hx : XoOk P xo) (hxl : ∀ o f h v h', xo o f h = some (v, h') → h.length ≤ h'.length) {f f' : Fr} {h h' : Hp} {K : Fr → Hp → Prop} (hr : xR P ops xo f h = some (f', h')) (hk : K f' h') :
    ∃ l h0, ordOk ops l = true ∧ Keeps h0 h ∧ h0.length = h.length ∧ wkD P ops h0 l K f h := by
  unfold xR at hr
  split at hr <;> first | (cases hr; done) | skip
  rename_i l hl
  split at hr <;> first | (cases hr; done) | skip
  rename_i ho
  split at hr <;> first | (cases hr; done) | skip
  rename_i f2 h2 us hs hd
  split at hr <;> first | (cases hr; done) | skip
  rename_i hst
  simp only [Option.some.injEq, Prod.mk.injEq] at hr
  obtain ⟨rfl, rfl⟩ := hr
  refine ⟨l, keepH us h, ho, keeps_of (by rw [keepH_length]; exact Nat.le_refl _) fun i q hi => ?_, keepH_length _ _, (xD_ok hx hxl l f h [] [] _ _ us hs (Nat.le_refl _) hd (fun _ h => h) hst hk).2.2⟩
  rw [keepH_get] at hi
  obtain ⟨q0, hq0, rfl⟩ := Option.map_eq_some_iff.1 hi
  split
  · exact .inr hq0
  · exact .inl rfl
end
end Go.Az
/-
  What the runner says is a contract ('run_acalls'). Conditions: stated at each theorem.
-/
set_option linter.unusedSimpArgs false
set_option linter.unusedVariables false
namespace Go.Az
open Go Go.Chz Go.RowKit

section
variable {P : Program} {Γ : FuncId → List AV → Option AV} {h : Hp} {m : Nat}

theorem acalls_trim {g : FuncId} {args : List AV} {N : AV → Hp → Prop} (hc : ACalls P g args h (fun r h' => N (trim h.length r h').1 (trim h.length r h').2)) : ACalls P g args h N := by
  intro ρ w H hs
  refine (hc ρ w H hs).mono fun e w' hp => ?_
  obtain ⟨ρ', r, h', rfl, h2, h3, h4, h5, h6⟩ := hp
  unfold trim at h4
  split at h4
  · rename_i ht
    simp only [Bool.and_eq_true, List.all_eq_true] at ht
    refine ⟨ρ', r, h'.take h.length, rfl, ?_, by rw [List.length_take]; omega, h4, h5.take _ ht.2, ?_⟩
    · rw [List.length_take, Nat.min_eq_left h3]; exact ht.1
    · exact (h6.trans (Stp.take h.length h.length) (Nat.le_refl _))
  · exact ⟨ρ', r, h', rfl, h2, h3, h4, h5, h6⟩

/-- What is said of the functions that are taken as known. -/
def Known (P : Program) (Γ : FuncId → List AV → Option AV) : Prop := ∀ g args r, Γ g args = some r → ∀ h, ACalls P g args h (fun r' h' => r' = r ∧ h' = h)
theorem known_none (P : Program) : Known P (fun _ _ => none) := fun _ _ _ h => by cases h

def CodeOk (P : Program) (xc : Option Nat → Code → Fr → Hp → Option (Exit × Fr × Hp)) : Prop :=
  ∀ ro c f h e f' h', xc ro c f h = some (e, f', h') → ∀ m K, K e f' h' → AW P m ro c K f h ∧ ∀ b, c = .loop b → ∃ k, ARd P m ro b K k f h
theorem callW_ok {xc : Option Nat → Code → Fr → Hp → Option (Exit × Fr × Hp)} (hx : CodeOk P xc) {g : FuncId} {args : List AV} {r : AV} {h' : Hp} (hr : callW P xc g args h = some (r, h')) {N : AV → Hp → Prop} (hn : N r h') : ACalls P g args h N := by
  unfold callW at hr
  split at hr <;> first | (cases hr; done) | skip
  rename_i fn hf
  split at hr <;> first | (cases hr; done) | skip
  rename_i c hb
  refine acalls_trim (acalls_of_aw hf hb ?_)
  split at hr <;> first | (cases hr; done) | skip
  · rename_i f1 h1 hc
    split at hr <;> first | (cases hr; done) | skip
    rename_i h2 hd
    split at hr <;> first | (cases hr; done) | skip
    rename_i r2 hra
    simp only [fA_eq, Option.some.injEq] at hr
    refine (hx _ _ _ _ _ _ _ hc h.length _ ?_).1
    exact ⟨h2, r2, hd, hra, by simp only [hr]; exact hn⟩
  · rename_i f1 h1 hc
    split at hr <;> first | (cases hr; done) | skip
    rename_i h2 hd
    split at hr <;> first | (cases hr; done) | skip
    rename_i r2 hra
    simp only [fA_eq, Option.some.injEq] at hr
    refine (hx _ _ _ _ _ _ _ hc h.length _ ?_).1
    exact ⟨h2, r2, hd, hra, by simp only [hr]; exact hn⟩
theorem endX_spec {i : Nat} {jump : Option Code} {b : Bool} {h : Hp} {r : AV} {h' : Hp} (hr : endX i jump b h = some (r, h')) : endA i jump h = some h' ∧ r = .v (.bool b) := by
  unfold endX at hr
  split at hr
  · rename_i h2 he
    simp only [Option.some.injEq, Prod.mk.injEq] at hr
    obtain ⟨rfl, rfl⟩ := hr
    exact ⟨he, rfl⟩
  · cases hr
theorem yldW_ok {xc : Option Nat → Code → Fr → Hp → Option (Exit × Fr × Hp)} (hx : CodeOk P xc) {i : Nat} {args : List AV} {r : AV} {h' : Hp} (hr : yldW xc i args h = some (r, h')) {N : AV → Hp → Prop} (hn : N r h') : AYld P i args h N := by
  unfold yldW at hr
  split at hr <;> first | (cases hr; done) | skip
  rename_i st pe tm ps asg bd d hi
  split at hr <;> first | (cases hr; done) | skip
  rename_i hl
  split at hr <;> first | (cases hr; done) | skip
  rename_i f1 h1 hc1
  split at hr <;> first | (cases hr; done) | skip
  rename_i h1' hb
  refine ayld_of_aw hi (by simpa using hl) ((hx _ _ _ _ _ _ _ hc1 h.length _ ⟨h1', hb, ?_⟩).1)
  split at hr <;> first | (cases hr; done) | skip
  · rename_i f2 h2 hc2
    obtain ⟨he, rfl⟩ := endX_spec hr
    exact (hx _ _ _ _ _ _ _ hc2 h.length _ ⟨h', he, hn⟩).1
  · rename_i f2 h2 hc2
    obtain ⟨he, rfl⟩ := endX_spec hr
    exact (hx _ _ _ _ _ _ _ hc2 h.length _ ⟨h', he, hn⟩).1
  · rename_i id f2 h2 hc2
    obtain ⟨he, rfl⟩ := endX_spec hr
    exact (hx _ _ _ _ _ _ _ hc2 h.length _ ⟨h', he, hn⟩).1
  · rename_i t f2 h2 hc2
    obtain ⟨he, rfl⟩ := endX_spec hr
    exact (hx _ _ _ _ _ _ _ hc2 h.length _ ⟨h', he, hn⟩).1
theorem chkL_spec {h : Hp} {x : Option (AV × Hp)} {r : AV} {h' : Hp} (hr : chkL h x = some (r, h')) : x = some (r, h') ∧ h.length ≤ h'.length := by
  unfold chkL at hr
  split at hr
  · split at hr
    · rename_i hb
      simp only [Option.some.injEq, Prod.mk.injEq] at hr
      obtain ⟨rfl, rfl⟩ := hr
      exact ⟨rfl, by simpa using hb⟩
    · cases hr
  · cases hr
theorem xOp_ok {xc : Option Nat → Code → Fr → Hp → Option (Exit × Fr × Hp)} (hx : CodeOk P xc) (hΓ : Known P Γ) :
    XoOk P (xOp P Γ (callW P xc) (yldW xc)) ∧ ∀ o f h v h', xOp P Γ (callW P xc) (yldW xc) o f h = some (v, h') → h.length ≤ h'.length := by
  refine ⟨fun o f h v h' hr N hn => ?_, fun o f h v h' hr => ?_⟩
  · unfold xOp at hr
    split at hr
    · rename_i g args hc
      split at hr <;> first | (cases hr; done) | skip
      rename_i hg
      refine .inr (.inr (.inl ⟨g, args, hc, hg, ?_⟩))
      split at hr
      · rename_i r hk
        simp only [Option.some.injEq, Prod.mk.injEq] at hr
        obtain ⟨rfl, rfl⟩ := hr
        exact (hΓ g args _ hk h).mono fun r h' _ hh => by rw [hh.1, hh.2]; exact hn
      · exact callW_ok hx (chkL_spec hr).1 hn
    · split at hr
      · rename_i i args hc
        exact .inr (.inr (.inr (.inl ⟨i, args, hc, yldW_ok hx (chkL_spec hr).1 hn⟩)))
      · split at hr
        · rename_i r hl
          simp only [Option.some.injEq, Prod.mk.injEq] at hr
          obtain ⟨rfl, rfl⟩ := hr
          exact .inl ⟨_, hl, hn⟩
        · split at hr
          · rename_i r h2 hh
            rw [fH_eq] at hr
            have := (chkL_spec hr).1
            simp only [Option.some.injEq, Prod.mk.injEq] at this
            obtain ⟨rfl, rfl⟩ := this
            exact .inr (.inl ⟨_, _, hh, hn⟩)
          · cases hr
  · unfold xOp at hr
    split at hr
    · split at hr <;> first | (cases hr; done) | skip
      split at hr
      · simp only [Option.some.injEq, Prod.mk.injEq] at hr
        rw [hr.2]; exact Nat.le_refl _
      · exact (chkL_spec hr).2
    · split at hr
      · exact (chkL_spec hr).2
      · split at hr
        · simp only [Option.some.injEq, Prod.mk.injEq] at hr
          rw [hr.2]; exact Nat.le_refl _
        · split at hr
          · rw [fH_eq] at hr; exact (chkL_spec hr).2
          · cases hr

theorem xCode_ok (hm : P.follows .mixedOrders = true) (hΓ : Known P Γ) : ∀ n, CodeOk P (xCode P Γ n)
  | 0 => fun ro c f h e f' h' hr => by simp [xCode] at hr
  | n + 1 => by
    have ih := xCode_ok hm hΓ n
    obtain ⟨xo1, xo2⟩ := xOp_ok (Γ := Γ) ih hΓ
    intro ro c f h e f' h' hr m K hk
    cases c with
    | skip =>
      simp only [xCode, Option.some.injEq, Prod.mk.injEq] at hr
      obtain ⟨rfl, rfl, rfl⟩ := hr
      exact ⟨wk_ok hm _ _ _ _ hk, fun b hb => by cases hb⟩
    | region id ops draw =>
      refine ⟨?_, fun b hb => by cases hb⟩
      cases draw with
      | false =>
        simp only [xCode] at hr
        split at hr <;> first | (cases hr; done) | skip
        rename_i f2 h2 hx
        simp only [Option.some.injEq, Prod.mk.injEq] at hr
        obtain ⟨rfl, rfl, rfl⟩ := hr
        refine wk_ok hm _ _ _ _ ?_
        simp only [wk]
        exact .inl <| xL_ok xo1 _ _ _ _ _ hx hk
      | true =>
        simp only [xCode] at hr
        split at hr <;> first | (cases hr; done) | skip
        rename_i f2 h2 hx
        simp only [Option.some.injEq, Prod.mk.injEq] at hr
        obtain ⟨rfl, rfl, rfl⟩ := hr
        refine wk_ok hm _ _ _ _ ?_
        simp only [wk]
        exact .inl (xR_ok xo1 xo2 hx hk)
    | seq a b =>
      refine ⟨?_, fun b hb => by cases hb⟩
      simp only [xCode] at hr
      split at hr
      · rename_i f1 h1 ha
        exact aw_seq ((ih _ _ _ _ _ _ _ ha m _ ((ih _ _ _ _ _ _ _ hr m K hk).1)).1)
      · rename_i hne
        refine aw_seq ((ih _ _ _ _ _ _ _ hr m _ ?_).1)
        cases e <;> first | exact hk | exact absurd hr (hne _ _)
    | cond c a b =>
      refine ⟨?_, fun b hb => by cases hb⟩
      simp only [xCode] at hr
      split at hr <;> first | (cases hr; done) | skip
      · rename_i hc; exact aw_cond hc ((ih _ _ _ _ _ _ _ hr m K hk).1)
      · rename_i hc; exact aw_cond hc ((ih _ _ _ _ _ _ _ hr m K hk).1)
    | block id b =>
      refine ⟨?_, fun b hb => by cases hb⟩
      simp only [xCode] at hr
      split at hr
      · rename_i i f1 h1 hb
        split at hr
        · rename_i hi
          simp only [Option.some.injEq, Prod.mk.injEq] at hr
          obtain ⟨rfl, rfl, rfl⟩ := hr
          refine aw_block ((ih _ _ _ _ _ _ _ hb m _ ?_).1)
          simp only [blkK]
          rw [if_pos (by simpa using hi)]; exact hk
        · rename_i hi
          simp only [Option.some.injEq, Prod.mk.injEq] at hr
          obtain ⟨rfl, rfl, rfl⟩ := hr
          refine aw_block ((ih _ _ _ _ _ _ _ hb m _ ?_).1)
          simp only [blkK]
          rw [if_neg (by rintro rfl; simp at hi)]; exact hk
      · rename_i hne
        refine aw_block ((ih _ _ _ _ _ _ _ hr m _ ?_).1)
        cases e <;> first | exact hk | exact absurd hr (hne _ _ _)
    | loop b =>
      have key : ∃ k, ARd P m ro b K k f h := by
        simp only [xCode] at hr
        split at hr
        · rename_i f1 h1 hb
          obtain ⟨k, hk1⟩ := (ih _ _ _ _ _ _ _ hr m K hk).2 b rfl
          exact ⟨k + 1, (ih _ _ _ _ _ _ _ hb m _ hk1).1⟩
        · rename_i hne
          refine ⟨1, (ih _ _ _ _ _ _ _ hr m _ ?_).1⟩
          cases e <;> first | exact hk | exact absurd hr (hne _ _)
      obtain ⟨k, hk1⟩ := key
      exact ⟨aw_rounds k hk1, fun b' hb => by injection hb with hb; subst hb; exact ⟨k, hk1⟩⟩
    | rangeFunc g ps asg bd =>
      refine ⟨?_, fun b hb => by cases hb⟩
      simp only [xCode] at hr
      split at hr <;> first | (cases hr; done) | skip
      rename_i gf cs hg
      split at hr <;> first | (cases hr; done) | skip
      rename_i hok
      split at hr <;> first | (cases hr; done) | skip
      rename_i r1 h1 hc
      split at hr <;> first | (cases hr; done) | skip
      rename_i st pe tm2 ps2 asg2 bd2 d2 hi
      split at hr <;> first | (cases hr; done) | skip
      rename_i hst
      refine aw_range hg hok (callW_ok ih hc ⟨st, pe, tm2, ps2, asg2, bd2, d2, hi, hst, ?_⟩)
      split at hr
      · simp only [Option.some.injEq, Prod.mk.injEq] at hr
        obtain ⟨rfl, rfl, rfl⟩ := hr
        exact hk
      · exact (ih _ _ _ _ _ _ _ hr m K hk).1
    | exit id =>
      simp only [xCode, Option.some.injEq, Prod.mk.injEq] at hr
      obtain ⟨rfl, rfl, rfl⟩ := hr
      exact ⟨wk_ok hm _ _ _ _ hk, fun b hb => by cases hb⟩
    | label l =>
      simp only [xCode, Option.some.injEq, Prod.mk.injEq] at hr
      obtain ⟨rfl, rfl, rfl⟩ := hr
      exact ⟨wk_ok hm _ _ _ _ hk, fun b hb => by cases hb⟩
    | ret =>
      simp only [xCode, Option.some.injEq, Prod.mk.injEq] at hr
      obtain ⟨rfl, rfl, rfl⟩ := hr
      exact ⟨wk_ok hm _ _ _ _ hk, fun b hb => by cases hb⟩
    | scope b =>
      refine ⟨?_, fun b hb => by cases hb⟩
      simp only [xCode] at hr
      split at hr
      · cases hr
      · rename_i hne
        refine aw_scope ((ih _ _ _ _ _ _ _ hr m _ ?_).1)
        cases e <;> first | exact hk | exact absurd hr (hne _ _ _)
    | goto l => simp [xCode] at hr
    | refuse s => simp [xCode] at hr

/-- THE RUNNER's WORD. -/
theorem run_acalls (hm : P.follows .mixedOrders = true) (hΓ : Known P Γ) {n : Nat} {g : FuncId} {args : List AV} {r : AV} {h' : Hp} (hr : runC P Γ n g args h = some (r, h')) : ACalls P g args h (fun r' h'' => r' = r ∧ h'' = h') :=
  callW_ok (xCode_ok hm hΓ n) hr ⟨rfl, rfl⟩
end
end Go.Az
/-
  Steps of a walk over abstract memory, and the bridge to the model's own contracts. Conditions: stated at each theorem.
-/
set_option linter.unusedSimpArgs false
set_option linter.unusedVariables false
namespace Go.Az
open Go Go.Chz Go.RowKit

section
variable {P : Program} {m : Nat} {ro : Option Nat} {K : Exit → Fr → Hp → Prop} {f : Fr} {h : Hp}

theorem s_seq {a b : Code} (hk : wk P m ro a (thenK (wk P m ro b K) K) f h) : wk P m ro (.seq a b) K f h := hk
theorem s_skip (hk : K .normal f h) : wk P m ro .skip K f h := hk
theorem s_label {l : Nat} (hk : K .normal f h) : wk P m ro (.label l) K f h := hk
theorem s_exit {i : Nat} (hk : K (.exit i) f h) : wk P m ro (.exit i) K f h := hk
theorem s_ret (hk : K .ret f h) : wk P m ro .ret K f h := hk
theorem s_block {i : Nat} {b : Code} (hk : wk P m ro b (blkK i K) f h) : wk P m ro (.block i b) K f h := hk
theorem s_cond {c : Operand} {a b : Code} (t : Bool) (hc : ev f c = .v (.bool t)) (h1 : t = true → wk P m ro a K f h) (h2 : t = false → wk P m ro b K f h) : wk P m ro (.cond c a b) K f h := ⟨t, hc, h1, h2⟩
theorem s_condT {c : Operand} {a b : Code} (hc : ev f c = .v (.bool true)) (h1 : wk P m ro a K f h) : wk P m ro (.cond c a b) K f h := ⟨true, hc, fun _ => h1, fun h => (by cases h)⟩
theorem s_condF {c : Operand} {a b : Code} (hc : ev f c = .v (.bool false)) (h1 : wk P m ro b K f h) : wk P m ro (.cond c a b) K f h := ⟨false, hc, fun h => (by cases h), fun _ => h1⟩
theorem s_then {N : Fr → Hp → Prop} (hk : N f h) : thenK N K .normal f h := hk
theorem s_thenR {N : Fr → Hp → Prop} (hk : K .ret f h) : thenK N K .ret f h := hk
theorem s_thenE {N : Fr → Hp → Prop} {i : Nat} (hk : K (.exit i) f h) : thenK N K (.exit i) f h := hk
theorem s_blkN {i : Nat} (hk : K .normal f h) : blkK i K .normal f h := hk
theorem s_blkR {i : Nat} (hk : K .ret f h) : blkK i K .ret f h := hk
theorem s_blkE {i : Nat} (hk : K .normal f h) : blkK i K (.exit i) f h := by simp only [blkK, if_true]; exact hk
theorem s_blkX {i j : Nat} (hne : (i == j) = false) (hk : K (.exit i) f h) : blkK j K (.exit i) f h := by
  simp only [blkK]; rw [if_neg (by simpa using hne)]; exact hk

/-- A plain region, operation by operation. -/
def wkO (P : Program) (ops : Array Oper) : List Oper → (Fr → Hp → Prop) → Fr → Hp → Prop
  | [], K, f, h => K f h
  | o :: r, K, f, h => if wantA ops f o = true then WOp P o f h (fun v h' => wkO P ops r K (f.put o.dst v) h') else wkO P ops r K (f.put o.dst (.v undef)) h
theorem wkL_of_O {ops : Array Oper} {K : Fr → Hp → Prop} : ∀ (l : List Oper) (k : Nat) (f : Fr) (h : Hp), (∀ (i : Nat) (o : Oper), l[i]? = some o → ops[k + i]? = some o) → wkO P ops l K f h → wkL P ops (List.range' k l.length) K f h
  | [], k, f, h, _, hk => hk
  | o :: r, k, f, h, hl, hk => by
    have h0 := hl 0 o rfl
    have hr : ∀ (i : Nat) (o' : Oper), r[i]? = some o' → ops[k + 1 + i]? = some o' := fun i o' hi => by
      have := hl (i + 1) o' (by simpa using hi)
      rwa [show k + (i + 1) = k + 1 + i by omega] at this
    simp only [List.length_cons, List.range'_succ, wkL]
    simp only [Nat.add_zero] at h0
    simp only [h0]
    simp only [wkO] at hk
    split
    · rename_i hw
      rw [if_pos hw] at hk
      have hmono : ∀ {N N' : AV → Hp → Prop}, (∀ v h', N v h' → N' v h') → WOp P o f h N → WOp P o f h N' := by
        rintro N N' hn (⟨r, h1, h2⟩ | ⟨r, h', h1, h2⟩ | ⟨g, args, h1, h2, h3⟩ | ⟨i, args, h1, st, pe, tm, ps, asg, bd, d, h2, h3, h4⟩ | ⟨r1, r2, h1, h2, h3⟩ | ⟨t, name, args, g, h1, h2, h3, h4⟩)
        · exact .inl ⟨r, h1, hn _ _ h2⟩
        · exact .inr (.inl ⟨r, h', h1, hn _ _ h2⟩)
        · exact .inr (.inr (.inl ⟨g, args, h1, h2, h3.mono fun r h' _ hh => hn _ _ hh⟩))
        · exact .inr (.inr (.inr (.inl ⟨i, args, h1, st, pe, tm, ps, asg, bd, d, h2, h3, fun fn ρ w H hs => (h4 fn ρ w H hs).mono fun e w' hp => hp.mono fun r h' _ _ hh => hn _ _ hh⟩)))
        · exact .inr (.inr (.inr (.inr (.inl ⟨r1, r2, h1, hn _ _ h2, hn _ _ h3⟩))))
        · exact .inr (.inr (.inr (.inr (.inr ⟨t, name, args, g, h1, h2, h3, h4.mono fun r h' _ hh => hn _ _ hh⟩))))
      exact hmono (fun v h' hh => wkL_of_O r (k + 1) _ h' hr hh) hk
    · rename_i hw
      rw [if_neg hw] at hk
      exact wkL_of_O r (k + 1) _ h hr hk
theorem s_reg {id : Nat} {l : List Oper} (hk : wkO P l.toArray l (K .normal) f h) : wk P m ro (.region id l.toArray false) K f h := by
  simp only [wk]
  have := wkL_of_O (ops := l.toArray) l 0 f h (fun i o hi => by simpa using hi) hk
  rw [← List.range_eq_range', show l.length = l.toArray.size by simp] at this
  exact .inl this
theorem s_regD {id : Nat} {ops : Array Oper} (l : List (Nat × Bool)) (h0 : Hp) (h1 : ordOk ops l = true) (h2 : Keeps h0 h) (h3 : h0.length = h.length) (hk : wkD P ops h0 l (K .normal) f h) : wk P m ro (.region id ops true) K f h := .inl ⟨l, h0, h1, h2, h3, hk⟩

variable {ops : Array Oper} {N : Fr → Hp → Prop} {d : Option Tmp} {op : Op} {ty : TypeId} {pos : String} {aft : Array Edge} {gd : Option (Nat × Bool)} {rest : List Oper}
theorem s_end (hk : N f h) : wkO P ops [] N f h := hk
theorem s_opL {r : AV} (hx : exL P f h op = some r) (hk : wkO P ops rest N (f.put d r) h) : wkO P ops (⟨d, op, ty, pos, aft, none⟩ :: rest) N f h := by
  show (if _ then _ else _)
  rw [if_pos (show wantA ops f ⟨d, op, ty, pos, aft, none⟩ = true from rfl)]; exact .inl ⟨r, hx, hk⟩
theorem s_opH {r : AV} {h' : Hp} (hx : exH P f h op = some (r, h')) (hk : wkO P ops rest N (f.put d r) h') : wkO P ops (⟨d, op, ty, pos, aft, none⟩ :: rest) N f h := by
  show (if _ then _ else _)
  rw [if_pos (show wantA ops f ⟨d, op, ty, pos, aft, none⟩ = true from rfl)]; exact .inr (.inl ⟨r, h', hx, hk⟩)
theorem s_opC {g : FuncId} {args : List AV} (hx : callOf f op = some (g, args)) (hg : okFn P g = true) (hk : ACalls P g args h (fun r h' => wkO P ops rest N (f.put d r) h')) : wkO P ops (⟨d, op, ty, pos, aft, none⟩ :: rest) N f h := by
  show (if _ then _ else _)
  rw [if_pos (show wantA ops f ⟨d, op, ty, pos, aft, none⟩ = true from rfl)]; exact .inr (.inr (.inl ⟨g, args, hx, hg, hk⟩))
/-- With a guard. -/
theorem s_gL {r : AV} (hw : wantA ops f ⟨d, op, ty, pos, aft, gd⟩ = true) (hx : exL P f h op = some r) (hk : wkO P ops rest N (f.put d r) h) : wkO P ops (⟨d, op, ty, pos, aft, gd⟩ :: rest) N f h := by
  show (if _ then _ else _)
  rw [if_pos hw]; exact .inl ⟨r, hx, hk⟩
theorem s_gH {r : AV} {h' : Hp} (hw : wantA ops f ⟨d, op, ty, pos, aft, gd⟩ = true) (hx : exH P f h op = some (r, h')) (hk : wkO P ops rest N (f.put d r) h') : wkO P ops (⟨d, op, ty, pos, aft, gd⟩ :: rest) N f h := by
  show (if _ then _ else _)
  rw [if_pos hw]; exact .inr (.inl ⟨r, h', hx, hk⟩)
theorem s_gC {g : FuncId} {args : List AV} (hw : wantA ops f ⟨d, op, ty, pos, aft, gd⟩ = true) (hx : callOf f op = some (g, args)) (hg : okFn P g = true) (hk : ACalls P g args h (fun r h' => wkO P ops rest N (f.put d r) h')) : wkO P ops (⟨d, op, ty, pos, aft, gd⟩ :: rest) N f h := by
  show (if _ then _ else _)
  rw [if_pos hw]; exact .inr (.inr (.inl ⟨g, args, hx, hg, hk⟩))
theorem s_gN (hw : wantA ops f ⟨d, op, ty, pos, aft, gd⟩ = false) (hk : wkO P ops rest N (f.put d (.v undef)) h) : wkO P ops (⟨d, op, ty, pos, aft, gd⟩ :: rest) N f h := by
  show (if _ then _ else _)
  rw [if_neg (by rw [hw]; simp)]; exact hk

/-! ### Drawn regions -/
variable {h0 : Hp} {i : Nat} {lst : List (Nat × Bool)}
theorem d_end (hk : N f h) : wkD P ops h0 [] N f h := hk
theorem d_light {o : Oper} {r : AV} (ho : ops[i]? = some o) (hw : wantA ops f o = true) (hx : exL P f (padH h0 h) o.op = some r) (hk : wkD P ops h0 lst N (f.put o.dst r) h) : wkD P ops h0 ((i, true) :: lst) N f h := by
  simp only [wkD, ho, hw, if_true]; exact ⟨r, hx, hk⟩
theorem d_skip {b : Bool} {o : Oper} (ho : ops[i]? = some o) (hw : wantA ops f o = false) (hk : wkD P ops h0 lst N (f.put o.dst (.v undef)) h) : wkD P ops h0 ((i, b) :: lst) N f h := by
  cases b <;> (simp only [wkD, ho]; rw [if_neg (by rw [hw]; simp)]; exact hk)
theorem d_opL {o : Oper} {r : AV} (ho : ops[i]? = some o) (hw : wantA ops f o = true) (hx : exL P f h o.op = some r) (hkp : Keeps h0 h) (hk : wkD P ops h0 lst N (f.put o.dst r) h) : wkD P ops h0 ((i, false) :: lst) N f h := by
  simp only [wkD, ho, hw, if_true]; exact .inl ⟨r, hx, hkp, hk⟩
theorem d_opH {o : Oper} {r : AV} {h' : Hp} (ho : ops[i]? = some o) (hw : wantA ops f o = true) (hx : exH P f h o.op = some (r, h')) (hkp : Keeps h0 h') (hk : wkD P ops h0 lst N (f.put o.dst r) h') : wkD P ops h0 ((i, false) :: lst) N f h := by
  simp only [wkD, ho, hw, if_true]; exact .inr (.inl ⟨r, h', hx, hkp, hk⟩)
theorem d_opC {o : Oper} {g : FuncId} {args : List AV} (ho : ops[i]? = some o) (hw : wantA ops f o = true) (hx : callOf f o.op = some (g, args)) (hg : okFn P g = true) (hk : ACalls P g args h (fun r h' => Keeps h0 h' ∧ wkD P ops h0 lst N (f.put o.dst r) h')) : wkD P ops h0 ((i, false) :: lst) N f h := by
  simp only [wkD, ho, hw, if_true]; exact .inr (.inr (.inl ⟨g, args, hx, hg, hk⟩))
end

/-! ### The bridge -/
theorem hrel_nil (P : Program) (ρ : Nat → Place) (w : World) : HRel P ρ [] w := ⟨fun i o hi => by simp at hi, fun i o hi => by simp at hi, fun i j o o' hi => by simp at hi⟩
/-- A contract in no memory serves in any. -/
theorem ACalls.any {P : Program} {g : FuncId} {args : List AV} {N : AV → Prop} (hs : AV.scs 0 args = true) (hc : ACalls P g args [] (fun r _ => N r ∧ r.sc 0 = true)) (h : Hp) {N' : AV → Hp → Prop} (hn : ∀ r, N r → r.sc 0 = true → N' r h) : ACalls P g args h N' := by
  intro ρ w H _
  refine (hc ρ w (hrel_nil P ρ w) hs).mono fun e w' hp => ?_
  obtain ⟨ρ', r, h', rfl, h2, h3, ⟨h4, h4'⟩, h5, h6⟩ := hp
  have e1 : r.real ρ' = r.real ρ := (real_agree (n := 0) (fun i hi => absurd hi (Nat.not_lt_zero i)) r h4').trans rfl
  have S : Stp h.length ρ h w ρ h w' := ⟨h6.os, h6.tape, h6.output, h6.size, fun b hb _ => h6.block b hb (fun i o hi => by simp at hi), fun i o hi ho => .inl ⟨i, o, hi, ho, rfl⟩, fun _ _ => rfl⟩
  exact ⟨ρ, r, h, by rw [e1], sc_mono (Nat.zero_le _) r h4', Nat.le_refl _, hn r h4 h4', H.other fun i o hi hl hlt => h6.block _ hlt (fun j o' hj => by simp at hj), S⟩
/-- Out of the model's own contract. -/
theorem acalls_of_calls {P : Program} {g : FuncId} {args : List Value} {v : Value} (hc : ∀ w, Calls P g args.toArray w fun e w' => e = .returned v ∧ Below w.heap.size w w') : ACalls P g (args.map .v) [] (fun r _ => r = .v v ∧ r.sc 0 = true) := by
  intro ρ w _ _
  rw [reals_v]
  refine (hc w).mono fun e w' hp => ?_
  obtain ⟨rfl, hb⟩ := hp
  exact ⟨ρ, .v v, [], rfl, rfl, Nat.le_refl _, ⟨rfl, rfl⟩, hrel_nil P ρ w', ⟨hb.os, hb.tape, hb.output, hb.size, fun b hb' _ => hb.block b hb', fun i o hi => by simp at hi, fun _ _ => rfl⟩⟩
/-- INTO the model's own contract. -/
theorem calls_of_acalls {P : Program} {g : FuncId} {args : List AV} {h : Hp} {v : Value} {ρ : Nat → Place} {w : World} (H : HRel P ρ h w) (ho : ∀ o ∈ h, o.own = false) (hs : AV.scs h.length args = true) (hc : ACalls P g args h (fun r _ => r = .v v)) :
    Calls P g (AV.reals ρ args).toArray w fun e w' => e = .returned v ∧ Below w.heap.size w w' := by
  refine (hc ρ w H hs).mono fun e w' hp => ?_
  obtain ⟨ρ', r, h', rfl, h2, h3, rfl, h5, h6⟩ := hp
  exact ⟨rfl, ⟨h6.os, h6.tape, h6.output, h6.size, fun b hb => h6.block b hb (fun i o hi hown => by rw [ho o (List.mem_of_getElem? hi)] at hown; cases hown)⟩⟩
end Go.Az
/-
  What single operations yield, by the values of their operands; steps that split on a condition; steps for calls. Conditions: stated at each theorem.
-/
set_option linter.unusedSimpArgs false
set_option linter.unusedVariables false
namespace Go.Az
open Go Go.Chz

section
variable {P : Program} {f : Fr} {h : Hp} {a b c : Operand} {t t' : TypeId} {x y n : Int} {k k0 k1 : IntKind} {r : AV}

theorem e_t {l : List AV} {ds : List Dq} {i : Nat} (hl : l[i]? = some r) : ev ⟨l, ds⟩ (.tmp i) = r := by simp only [ev, List.getD_eq_getElem?_getD, hl, Option.getD_some]
theorem e_c {v : Value} : ev f (.const v) = .v v := rfl
theorem e_f {g : FuncId} : ev f (.func g) = .fn (.func g) [] := rfl
theorem x_move (ha : ev f a = r) : exL P f h (.move a) = some r := by simp only [exL, ha]
theorem x_assign (ha : ev f a = r) : exL P f h (.assign a) = some r := by simp only [exL, ha]
theorem x_pickT (hc : ev f c = .v (.bool true)) (ha : ev f a = r) : exL P f h (.pick c a b) = some r := by simp only [exL, hc, if_true, ha]
theorem x_pickF (hc : ev f c = .v (.bool false)) (hb : ev f b = r) : exL P f h (.pick c a b) = some r := by simp [exL, hc, hb]
theorem x_not {z : Bool} (ha : ev f a = .v (.bool z)) : exL P f h (.unOp .not t a) = some (.v (.bool (!z))) := by simp only [exL, ha, una]
theorem x_notT (ha : ev f a = .v (.bool true)) : exL P f h (.unOp .not t a) = some (.v (.bool false)) := by simp only [exL, ha, una, Bool.not_true]
theorem x_notF (ha : ev f a = .v (.bool false)) : exL P f h (.unOp .not t a) = some (.v (.bool true)) := by simp only [exL, ha, una, Bool.not_false]
theorem x_extract {l : List AV} {i : Nat} (ha : ev f a = .tup l) (hi : l[i]? = some r) : exL P f h (.extract a i) = some r := by simp only [exL, ha, hi]

theorem x_eq (ha : ev f a = .v (.int k x)) (hb : ev f b = .v (.int k y)) : exL P f h (.binOp .eql t a b t') = some (.v (.bool (decide (x = y)))) := by simp only [exL, ha, hb, bin, ibin, if_true]; rfl
theorem x_ne (ha : ev f a = .v (.int k x)) (hb : ev f b = .v (.int k y)) : exL P f h (.binOp .neq t a b t') = some (.v (.bool (decide (x ≠ y)))) := by simp only [exL, ha, hb, bin, ibin, if_true, bne, Option.some.injEq, AV.v.injEq, Value.bool.injEq, ne_eq, decide_not]; rfl
theorem x_lt (ha : ev f a = .v (.int k x)) (hb : ev f b = .v (.int k y)) : exL P f h (.binOp .lss t a b t') = some (.v (.bool (decide (x < y)))) := by simp only [exL, ha, hb, bin, ibin, if_true]
theorem x_le (ha : ev f a = .v (.int k x)) (hb : ev f b = .v (.int k y)) : exL P f h (.binOp .leq t a b t') = some (.v (.bool (decide (x ≤ y)))) := by simp only [exL, ha, hb, bin, ibin, if_true]
theorem x_gt (ha : ev f a = .v (.int k x)) (hb : ev f b = .v (.int k y)) : exL P f h (.binOp .gtr t a b t') = some (.v (.bool (decide (y < x)))) := by simp only [exL, ha, hb, bin, ibin, if_true, GT.gt]
theorem x_ge (ha : ev f a = .v (.int k x)) (hb : ev f b = .v (.int k y)) : exL P f h (.binOp .geq t a b t') = some (.v (.bool (decide (y ≤ x)))) := by simp only [exL, ha, hb, bin, ibin, if_true, GE.ge]

theorem x_add (ha : ev f a = .v (.int k x)) (hb : ev f b = .v (.int k y)) (hw : k.wrap (x + y) = x + y) : exL P f h (.binOp .add t a b t') = some (.v (.int k (x + y))) := by simp only [exL, ha, hb, bin, ibin, if_true, hw]
theorem x_sub (ha : ev f a = .v (.int k x)) (hb : ev f b = .v (.int k y)) (hw : k.wrap (x - y) = x - y) : exL P f h (.binOp .sub t a b t') = some (.v (.int k (x - y))) := by simp only [exL, ha, hb, bin, ibin, if_true, hw]
theorem x_mul (ha : ev f a = .v (.int k x)) (hb : ev f b = .v (.int k y)) (hw : k.wrap (x * y) = x * y) : exL P f h (.binOp .mul t a b t') = some (.v (.int k (x * y))) := by simp only [exL, ha, hb, bin, ibin, if_true, hw]
theorem x_rem (ha : ev f a = .v (.int k x)) (hb : ev f b = .v (.int k y)) (h0 : 0 ≤ x) (h1 : 0 < y) : exL P f h (.binOp .rem t a b t') = some (.v (.int k (x % y))) := by
  simp only [exL, ha, hb, bin, ibin, if_true, if_neg (Int.ne_of_gt h1), Int.tmod_eq_emod_of_nonneg h0]
theorem x_tmod (ha : ev f a = .v (.int k x)) (hb : ev f b = .v (.int k y)) (h1 : y ≠ 0) : exL P f h (.binOp .rem t a b t') = some (.v (.int k (x.tmod y))) := by
  simp only [exL, ha, hb, bin, ibin, if_true, if_neg h1]
theorem x_quo (ha : ev f a = .v (.int k x)) (hb : ev f b = .v (.int k y)) (h0 : 0 ≤ x) (h1 : 0 < y) (hw : k.wrap (x / y) = x / y) : exL P f h (.binOp .quo t a b t') = some (.v (.int k (x / y))) := by
  simp only [exL, ha, hb, bin, ibin, if_true, if_neg (Int.ne_of_gt h1), Int.tdiv_eq_ediv_of_nonneg h0, hw]
theorem x_shl {m : Nat} (ha : ev f a = .v (.int k x)) (hb : ev f b = .v (.int k1 y)) (hy : y = (m : Int)) (hm : m ≤ k.bits) (hw : k.wrap (x * 2 ^ m) = x * 2 ^ m) : exL P f h (.binOp .shl t a b t') = some (.v (.int k (x * 2 ^ m))) := by
  subst hy
  simp only [exL, ha, hb, bin, ibin, if_neg (show ¬ ((m : Int) < 0) by omega), Int.toNat_natCast, Nat.min_eq_left hm, hw]
theorem x_shr {m : Nat} (ha : ev f a = .v (.int k x)) (hb : ev f b = .v (.int k1 y)) (hy : y = (m : Int)) (hm : m ≤ k.bits) (h0 : 0 ≤ x) : exL P f h (.binOp .shr t a b t') = some (.v (.int k (x / 2 ^ m))) := by
  subst hy
  simp only [exL, ha, hb, bin, ibin, if_neg (show ¬ ((m : Int) < 0) by omega), Int.toNat_natCast, Nat.min_eq_left hm, Int.fdiv_eq_ediv_of_nonneg _ (show (0:Int) ≤ 2 ^ m from Int.le_of_lt (Int.pow_pos (by omega)))]
theorem x_conv (hs : P.underlying t = some (.int k1)) (hd : P.underlying t' = some (.int k)) (ha : ev f a = .v (.int k0 n)) (hw : k.wrap n = n) : exL P f h (.convert t t' a) = some (.v (.int k n)) := by
  simp only [exL, cnv, hs, hd, ha, hw]
theorem x_build {l : List (Nat × AV)} {parts : Array (Nat × Operand)} (hl : parts.toList.map (fun p => (p.1, ev f p.2)) = l) (hb : bld P t l = some r) : exL P f h (.build t parts) = some r := by simp only [exL, hl, hb]
theorem x_func {fn : Fn} {cap : Array Operand} {l : List AV} (hl : cap.toList.map (ev f) = l) : exL P f h (.makeFunc fn #[] cap) = some (.fn fn l) := by simp only [exL, hl]; rfl
theorem x_func1 {fn : Fn} {v1 : AV} (h1 : ev f a = v1) : exL P f h (.makeFunc fn #[] #[a]) = some (.fn fn [v1]) := x_func (by simp [h1])
theorem x_func2 {fn : Fn} {v1 v2 : AV} (h1 : ev f a = v1) (h2 : ev f b = v2) : exL P f h (.makeFunc fn #[] #[a, b]) = some (.fn fn [v1, v2]) := x_func (by simp [h1, h2])
theorem x_func3 {fn : Fn} {v1 v2 v3 : AV} (h1 : ev f a = v1) (h2 : ev f b = v2) (h3 : ev f c = v3) : exL P f h (.makeFunc fn #[] #[a, b, c]) = some (.fn fn [v1, v2, v3]) := x_func (by simp [h1, h2, h3])
theorem x_load {i o : Nat} (ha : ev f a = .ptr i o) (hl : ldc P h t i o = some r) : exL P f h (.load t a) = some r := by simp only [exL, ha, hl]

theorem wrap_pow {m : Nat} (hm : m ≤ 62) : IntKind.i64.wrap (1 * 2 ^ m) = 1 * 2 ^ m := by
  have h1 : (2:Int) ^ m ≤ 2 ^ 62 := by
    have : (2:Nat) ^ m ≤ 2 ^ 62 := Nat.pow_le_pow_right (by omega) hm
    exact_mod_cast this
  have h2 : (0:Int) < 2 ^ m := Int.pow_pos (by omega)
  exact wrap_i64_in (by omega) (by omega)
theorem x_shl1 {m : Nat} (ha : ev f a = .v (.int .i64 1)) (hb : ev f b = .v (.int k1 y)) (hy : y = (m : Int)) (hm : m ≤ 62) : exL P f h (.binOp .shl t a b t') = some (.v (.int .i64 (2 ^ m))) := by
  rw [x_shl ha hb hy (show m ≤ 64 by omega) (wrap_pow hm), Int.one_mul]
theorem wrap_u64_in {n : Int} (h0 : 0 ≤ n) (h1 : n < 18446744073709551616) : IntKind.u64.wrap n = n := by
  show n % 18446744073709551616 = n
  omega
end

section
variable {P : Program} {f : Fr} {h : Hp} {ops : Array Oper} {N : Fr → Hp → Prop} {d : Option Tmp} {op : Op} {ty : TypeId} {pos : String} {aft : Array Edge} {gd : Option (Nat × Bool)} {rest : List Oper}
/-- A step that yields a truth value: both arms. -/
theorem s_opB {b : Bool} (hx : exL P f h op = some (.v (.bool b))) (h1 : b = true → wkO P ops rest N (f.put d (.v (.bool true))) h) (h2 : b = false → wkO P ops rest N (f.put d (.v (.bool false))) h) : wkO P ops (⟨d, op, ty, pos, aft, none⟩ :: rest) N f h :=
  s_opL hx (by cases b <;> first | exact h2 rfl | exact h1 rfl)
theorem s_gB {b : Bool} (hw : wantA ops f ⟨d, op, ty, pos, aft, gd⟩ = true) (hx : exL P f h op = some (.v (.bool b))) (h1 : b = true → wkO P ops rest N (f.put d (.v (.bool true))) h) (h2 : b = false → wkO P ops rest N (f.put d (.v (.bool false))) h) : wkO P ops (⟨d, op, ty, pos, aft, gd⟩ :: rest) N f h :=
  s_gL hw hx (by cases b <;> first | exact h2 rfl | exact h1 rfl)
/-- A call whose contract stands in no memory. -/
theorem s_opK {g : FuncId} {args : List AV} {r : AV} (hx : callOf f op = some (g, args)) (hg : okFn P g = true) (hs : AV.scs 0 args = true) (hc : ACalls P g args [] (fun r' _ => r' = r ∧ r'.sc 0 = true)) (hk : wkO P ops rest N (f.put d r) h) :
    wkO P ops (⟨d, op, ty, pos, aft, none⟩ :: rest) N f h :=
  s_opC hx hg (hc.any hs h (N := fun r' => r' = r) (fun r' hr _ => by rw [hr]; exact hk))
theorem s_gK {g : FuncId} {args : List AV} {r : AV} (hw : wantA ops f ⟨d, op, ty, pos, aft, gd⟩ = true) (hx : callOf f op = some (g, args)) (hg : okFn P g = true) (hs : AV.scs 0 args = true) (hc : ACalls P g args [] (fun r' _ => r' = r ∧ r'.sc 0 = true)) (hk : wkO P ops rest N (f.put d r) h) :
    wkO P ops (⟨d, op, ty, pos, aft, gd⟩ :: rest) N f h :=
  s_gC hw hx hg (hc.any hs h (N := fun r' => r' = r) (fun r' hr _ => by rw [hr]; exact hk))
/-- A call that yields a truth value: both arms. -/
theorem s_opKB {g : FuncId} {args : List AV} {b : Bool} (hx : callOf f op = some (g, args)) (hg : okFn P g = true) (hs : AV.scs 0 args = true) (hc : ACalls P g args [] (fun r' _ => r' = .v (.bool b) ∧ r'.sc 0 = true)) (h1 : b = true → wkO P ops rest N (f.put d (.v (.bool true))) h) (h2 : b = false → wkO P ops rest N (f.put d (.v (.bool false))) h) :
    wkO P ops (⟨d, op, ty, pos, aft, none⟩ :: rest) N f h :=
  s_opK hx hg hs hc (by cases b <;> first | exact h2 rfl | exact h1 rfl)
theorem s_gKB {g : FuncId} {args : List AV} {b : Bool} (hw : wantA ops f ⟨d, op, ty, pos, aft, gd⟩ = true) (hx : callOf f op = some (g, args)) (hg : okFn P g = true) (hs : AV.scs 0 args = true) (hc : ACalls P g args [] (fun r' _ => r' = .v (.bool b) ∧ r'.sc 0 = true)) (h1 : b = true → wkO P ops rest N (f.put d (.v (.bool true))) h) (h2 : b = false → wkO P ops rest N (f.put d (.v (.bool false))) h) :
    wkO P ops (⟨d, op, ty, pos, aft, gd⟩ :: rest) N f h :=
  s_gK hw hx hg hs hc (by cases b <;> first | exact h2 rfl | exact h1 rfl)
end

/-! ### A drawn region that leaves the memory alone -/
section
variable {P : Program} {f : Fr} {h : Hp} {m : Nat} {ro : Option Nat}
def wkQ (P : Program) (ops : Array Oper) : List (Oper × Bool) → (Fr → Hp → Prop) → Fr → Hp → Prop
  | [], K, f, h => K f h
  | (o, true) :: r, K, f, h => if wantA ops f o = true then ∃ v, exL P f h o.op = some v ∧ wkQ P ops r K (f.put o.dst v) h else wkQ P ops r K (f.put o.dst (.v undef)) h
  | (o, false) :: r, K, f, h => if wantA ops f o = true then WOp P o f h (fun v h' => h' = h ∧ wkQ P ops r K (f.put o.dst v) h) else wkQ P ops r K (f.put o.dst (.v undef)) h
theorem Keeps.refl : ∀ h : Hp, Keeps h h
  | [] => trivial
  | o :: r => by cases o <;> simp [Keeps, Keeps.refl r]
theorem padH_self (h : Hp) : padH h h = h := by simp [padH]
def pickO (ops : List Oper) : List (Nat × Bool) → List (Oper × Bool)
  | [] => []
  | (i, b) :: r => match ops[i]? with
    | some o => (o, b) :: pickO ops r
    | none => pickO ops r
theorem wop_mono {o : Oper} {N N' : AV → Hp → Prop} (hn : ∀ v h', N v h' → N' v h') : WOp P o f h N → WOp P o f h N' := by
  rintro (⟨r, h1, h2⟩ | ⟨r, h', h1, h2⟩ | ⟨g, args, h1, h2, h3⟩ | ⟨i, args, h1, st, pe, tm, ps, asg, bd, d, h2, h3, h4⟩ | ⟨r1, r2, h1, h2, h3⟩ | ⟨t, name, args, g, h1, h2, h3, h4⟩)
  · exact .inl ⟨r, h1, hn _ _ h2⟩
  · exact .inr (.inl ⟨r, h', h1, hn _ _ h2⟩)
  · exact .inr (.inr (.inl ⟨g, args, h1, h2, h3.mono fun r h' _ hh => hn _ _ hh⟩))
  · exact .inr (.inr (.inr (.inl ⟨i, args, h1, st, pe, tm, ps, asg, bd, d, h2, h3, fun fn ρ w H hs => (h4 fn ρ w H hs).mono fun e w' hp => hp.mono fun r h' _ _ hh => hn _ _ hh⟩)))
  · exact .inr (.inr (.inr (.inr (.inl ⟨r1, r2, h1, hn _ _ h2, hn _ _ h3⟩))))
  · exact .inr (.inr (.inr (.inr (.inr ⟨t, name, args, g, h1, h2, h3, h4.mono fun r h' _ hh => hn _ _ hh⟩))))
theorem wkD_of_Q {ops : Array Oper} {K : Fr → Hp → Prop} {h : Hp} : ∀ (l : List (Nat × Bool)) (f : Fr), l.all (fun p => (ops.toList[p.1]?).isSome) = true → wkQ P ops (pickO ops.toList l) K f h → wkD P ops h l K f h
  | [], f, _, hk => hk
  | (i, b) :: r, f, ha, hk => by
    simp only [List.all_cons, Bool.and_eq_true] at ha
    obtain ⟨o, ho⟩ := Option.isSome_iff_exists.1 ha.1
    have ho' : ops[i]? = some o := by simpa using ho
    simp only [pickO, ho] at hk
    cases b
    · simp only [wkD, ho']
      simp only [wkQ] at hk
      split
      · rename_i hw
        rw [if_pos hw] at hk
        refine wop_mono (fun v h' hn => ?_) hk
        obtain ⟨rfl, hn⟩ := hn
        exact ⟨Keeps.refl _, wkD_of_Q r _ ha.2 hn⟩
      · rename_i hw
        rw [if_neg hw] at hk
        exact wkD_of_Q r _ ha.2 hk
    · simp only [wkD, ho']
      simp only [wkQ] at hk
      split
      · rename_i hw
        rw [if_pos hw] at hk
        obtain ⟨v, hv, hk⟩ := hk
        exact ⟨v, by rw [padH_self]; exact hv, wkD_of_Q r _ ha.2 hk⟩
      · rename_i hw
        rw [if_neg hw] at hk
        exact wkD_of_Q r _ ha.2 hk
theorem s_regQ {K : Exit → Fr → Hp → Prop} {id : Nat} {ops : List Oper} (l : List (Nat × Bool)) (h1 : (ordOk ops.toArray l && l.all (fun p => (ops[p.1]?).isSome)) = true) {q : List (Oper × Bool)} (hq : pickO ops l = q) (hk : wkQ P ops.toArray q (K .normal) f h) : wk P m ro (.region id ops.toArray true) K f h := by
  simp only [Bool.and_eq_true] at h1
  subst hq
  exact s_regD l h h1.1 (Keeps.refl _) rfl (wkD_of_Q l f h1.2 hk)
variable {ops : Array Oper} {N : Fr → Hp → Prop} {d : Option Tmp} {op : Op} {ty : TypeId} {pos : String} {aft : Array Edge} {gd : Option (Nat × Bool)} {rest : List (Oper × Bool)} {z : Bool}
theorem q_end (hk : N f h) : wkQ P ops [] N f h := hk
theorem q_gL {r : AV} (hw : wantA ops f ⟨d, op, ty, pos, aft, gd⟩ = true) (hx : exL P f h op = some r) (hk : wkQ P ops rest N (f.put d r) h) : wkQ P ops ((⟨d, op, ty, pos, aft, gd⟩, z) :: rest) N f h := by
  cases z
  · show (if _ then _ else _)
    rw [if_pos hw]; exact .inl ⟨r, hx, rfl, hk⟩
  · show (if _ then _ else _)
    rw [if_pos hw]; exact ⟨r, hx, hk⟩
theorem q_opL {r : AV} (hx : exL P f h op = some r) (hk : wkQ P ops rest N (f.put d r) h) : wkQ P ops ((⟨d, op, ty, pos, aft, none⟩, z) :: rest) N f h := q_gL rfl hx hk
theorem q_gN (hw : wantA ops f ⟨d, op, ty, pos, aft, gd⟩ = false) (hk : wkQ P ops rest N (f.put d (.v undef)) h) : wkQ P ops ((⟨d, op, ty, pos, aft, gd⟩, z) :: rest) N f h := by
  cases z <;> (show (if _ then _ else _); rw [if_neg (by rw [hw]; simp)]; exact hk)
theorem q_gB {b : Bool} (hw : wantA ops f ⟨d, op, ty, pos, aft, gd⟩ = true) (hx : exL P f h op = some (.v (.bool b))) (h1 : b = true → wkQ P ops rest N (f.put d (.v (.bool true))) h) (h2 : b = false → wkQ P ops rest N (f.put d (.v (.bool false))) h) : wkQ P ops ((⟨d, op, ty, pos, aft, gd⟩, z) :: rest) N f h :=
  q_gL hw hx (by cases b <;> first | exact h2 rfl | exact h1 rfl)
theorem q_opB {b : Bool} (hx : exL P f h op = some (.v (.bool b))) (h1 : b = true → wkQ P ops rest N (f.put d (.v (.bool true))) h) (h2 : b = false → wkQ P ops rest N (f.put d (.v (.bool false))) h) : wkQ P ops ((⟨d, op, ty, pos, aft, none⟩, z) :: rest) N f h := q_gB rfl hx h1 h2
theorem q_gK {g : FuncId} {args : List AV} {r : AV} (hw : wantA ops f ⟨d, op, ty, pos, aft, gd⟩ = true) (hx : callOf f op = some (g, args)) (hg : okFn P g = true) (hs : AV.scs 0 args = true) (hc : ACalls P g args [] (fun r' _ => r' = r ∧ r'.sc 0 = true)) (hk : wkQ P ops rest N (f.put d r) h) :
    wkQ P ops ((⟨d, op, ty, pos, aft, gd⟩, false) :: rest) N f h := by
  show (if _ then _ else _)
  rw [if_pos hw]; exact .inr (.inr (.inl ⟨g, args, hx, hg, hc.any hs h (N := fun r' => r' = r) (fun r' hr _ => ⟨rfl, by rw [hr]; exact hk⟩)⟩))
theorem q_opK {g : FuncId} {args : List AV} {r : AV} (hx : callOf f op = some (g, args)) (hg : okFn P g = true) (hs : AV.scs 0 args = true) (hc : ACalls P g args [] (fun r' _ => r' = r ∧ r'.sc 0 = true)) (hk : wkQ P ops rest N (f.put d r) h) :
    wkQ P ops ((⟨d, op, ty, pos, aft, none⟩, false) :: rest) N f h := q_gK rfl hx hg hs hc hk
theorem q_gKB {g : FuncId} {args : List AV} {b : Bool} (hw : wantA ops f ⟨d, op, ty, pos, aft, gd⟩ = true) (hx : callOf f op = some (g, args)) (hg : okFn P g = true) (hs : AV.scs 0 args = true) (hc : ACalls P g args [] (fun r' _ => r' = .v (.bool b) ∧ r'.sc 0 = true)) (h1 : b = true → wkQ P ops rest N (f.put d (.v (.bool true))) h) (h2 : b = false → wkQ P ops rest N (f.put d (.v (.bool false))) h) :
    wkQ P ops ((⟨d, op, ty, pos, aft, gd⟩, false) :: rest) N f h :=
  q_gK hw hx hg hs hc (by cases b <;> first | exact h2 rfl | exact h1 rfl)
theorem q_opKB {g : FuncId} {args : List AV} {b : Bool} (hx : callOf f op = some (g, args)) (hg : okFn P g = true) (hs : AV.scs 0 args = true) (hc : ACalls P g args [] (fun r' _ => r' = .v (.bool b) ∧ r'.sc 0 = true)) (h1 : b = true → wkQ P ops rest N (f.put d (.v (.bool true))) h) (h2 : b = false → wkQ P ops rest N (f.put d (.v (.bool false))) h) :
    wkQ P ops ((⟨d, op, ty, pos, aft, none⟩, false) :: rest) N f h := q_gKB rfl hx hg hs hc h1 h2
end

/-! ### The end of a function, out of slots -/
section
variable {P : Program} {fn : Func} {N : AV → Hp → Prop} {h : Hp} {l : List AV} {t1 t2 t3 t4 : Nat} {r1 r2 r3 r4 : AV}
theorem k_1 (hr : fn.results.toList = [.tmp t1]) (h1 : l[t1]? = some r1) (hk : N r1 h) : RK P fn N .ret ⟨l, []⟩ h :=
  ⟨h, r1, rfl, by simp only [resA, hr, resAll, resOne, List.getD_eq_getElem?_getD, h1, Option.getD_some], hk⟩
theorem k_2 (hr : fn.results.toList = [.tmp t1, .tmp t2]) (h1 : l[t1]? = some r1) (h2 : l[t2]? = some r2) (hk : N (.tup [r1, r2]) h) : RK P fn N .ret ⟨l, []⟩ h :=
  ⟨h, _, rfl, by simp only [resA, hr, resAll, resOne, List.getD_eq_getElem?_getD, h1, h2, Option.getD_some], hk⟩
theorem k_3 (hr : fn.results.toList = [.tmp t1, .tmp t2, .tmp t3]) (h1 : l[t1]? = some r1) (h2 : l[t2]? = some r2) (h3 : l[t3]? = some r3) (hk : N (.tup [r1, r2, r3]) h) : RK P fn N .ret ⟨l, []⟩ h :=
  ⟨h, _, rfl, by simp only [resA, hr, resAll, resOne, List.getD_eq_getElem?_getD, h1, h2, h3, Option.getD_some], hk⟩
theorem k_4 (hr : fn.results.toList = [.tmp t1, .tmp t2, .tmp t3, .tmp t4]) (h1 : l[t1]? = some r1) (h2 : l[t2]? = some r2) (h3 : l[t3]? = some r3) (h4 : l[t4]? = some r4) (hk : N (.tup [r1, r2, r3, r4]) h) : RK P fn N .ret ⟨l, []⟩ h :=
  ⟨h, _, rfl, by simp only [resA, hr, resAll, resOne, List.getD_eq_getElem?_getD, h1, h2, h3, h4, Option.getD_some], hk⟩
end

/-! ### Which operation stands first -/
section
variable {P : Program} {f : Fr} {h : Hp} {ops : Array Oper} {N : Fr → Hp → Prop} {d : Option Tmp} {ty : TypeId} {pos : String} {aft : Array Edge} {gd : Option (Nat × Bool)} {rest : List Oper} {restQ : List (Oper × Bool)} {z : Bool}
theorem is_s (op : Op) (hk : wkO P ops (⟨d, op, ty, pos, aft, gd⟩ :: rest) N f h) : wkO P ops (⟨d, op, ty, pos, aft, gd⟩ :: rest) N f h := hk
theorem is_q (op : Op) (hk : wkQ P ops ((⟨d, op, ty, pos, aft, gd⟩, z) :: restQ) N f h) : wkQ P ops ((⟨d, op, ty, pos, aft, gd⟩, z) :: restQ) N f h := hk
theorem is_sG {g : Nat × Bool} (op : Op) (hk : wkO P ops (⟨d, op, ty, pos, aft, some g⟩ :: rest) N f h) : wkO P ops (⟨d, op, ty, pos, aft, some g⟩ :: rest) N f h := hk
theorem is_qG {g : Nat × Bool} (op : Op) (hk : wkQ P ops ((⟨d, op, ty, pos, aft, some g⟩, z) :: restQ) N f h) : wkQ P ops ((⟨d, op, ty, pos, aft, some g⟩, z) :: restQ) N f h := hk
theorem is_cond {m : Nat} {ro : Option Nat} {K : Exit → Fr → Hp → Prop} {c : Operand} {a b : Code} (hk : wk P m ro (.cond c a b) K f h) : wk P m ro (.cond c a b) K f h := hk
theorem is_regD {m : Nat} {ro : Option Nat} {K : Exit → Fr → Hp → Prop} {id : Nat} {l : List Oper} (hk : wk P m ro (.region id l.toArray true) K f h) : wk P m ro (.region id l.toArray true) K f h := hk
end

/-! ### Calls whose contract tells of this memory, and that leave it as it is -/
section
variable {P : Program} {f : Fr} {h : Hp} {ops : Array Oper} {N : Fr → Hp → Prop} {d : Option Tmp} {op : Op} {ty : TypeId} {pos : String} {aft : Array Edge} {gd : Option (Nat × Bool)} {rest : List Oper} {restQ : List (Oper × Bool)} {g : FuncId} {args : List AV}
theorem s_gM {r : AV} (hw : wantA ops f ⟨d, op, ty, pos, aft, gd⟩ = true) (hx : callOf f op = some (g, args)) (hg : okFn P g = true) (hc : ACalls P g args h (fun r' h' => r' = r ∧ h' = h)) (hk : wkO P ops rest N (f.put d r) h) :
    wkO P ops (⟨d, op, ty, pos, aft, gd⟩ :: rest) N f h :=
  s_gC hw hx hg (hc.mono fun r' h' _ hh => by rw [hh.1, hh.2]; exact hk)
theorem s_gMB {b : Bool} (hw : wantA ops f ⟨d, op, ty, pos, aft, gd⟩ = true) (hx : callOf f op = some (g, args)) (hg : okFn P g = true) (hc : ACalls P g args h (fun r' h' => r' = .v (.bool b) ∧ h' = h)) (h1 : b = true → wkO P ops rest N (f.put d (.v (.bool true))) h) (h2 : b = false → wkO P ops rest N (f.put d (.v (.bool false))) h) :
    wkO P ops (⟨d, op, ty, pos, aft, gd⟩ :: rest) N f h :=
  s_gM hw hx hg hc (by cases b <;> first | exact h2 rfl | exact h1 rfl)
theorem q_gM {r : AV} (hw : wantA ops f ⟨d, op, ty, pos, aft, gd⟩ = true) (hx : callOf f op = some (g, args)) (hg : okFn P g = true) (hc : ACalls P g args h (fun r' h' => r' = r ∧ h' = h)) (hk : wkQ P ops restQ N (f.put d r) h) :
    wkQ P ops ((⟨d, op, ty, pos, aft, gd⟩, false) :: restQ) N f h := by
  show (if _ then _ else _)
  rw [if_pos hw]; exact .inr (.inr (.inl ⟨g, args, hx, hg, hc.mono fun r' h' _ hh => ⟨hh.2, by rw [hh.1]; exact hk⟩⟩))
theorem q_gMB {b : Bool} (hw : wantA ops f ⟨d, op, ty, pos, aft, gd⟩ = true) (hx : callOf f op = some (g, args)) (hg : okFn P g = true) (hc : ACalls P g args h (fun r' h' => r' = .v (.bool b) ∧ h' = h)) (h1 : b = true → wkQ P ops restQ N (f.put d (.v (.bool true))) h) (h2 : b = false → wkQ P ops restQ N (f.put d (.v (.bool false))) h) :
    wkQ P ops ((⟨d, op, ty, pos, aft, gd⟩, false) :: restQ) N f h :=
  q_gM hw hx hg hc (by cases b <;> first | exact h2 rfl | exact h1 rfl)
end
end Go.Az
/-
  Loops in a walk over abstract memory: what is kept from round to round is told by a list of slots. Conditions: stated at each theorem.
-/
set_option linter.unusedSimpArgs false
set_option linter.unusedVariables false
namespace Go.Az
open Go Go.Chz

section
variable {P : Program} {m : Nat} {ro : Option Nat} {K : Exit → Fr → Hp → Prop} {f : Fr} {h : Hp} {β : Type}
def loopK (P : Program) (m : Nat) {β : Type} (F : β → (Nat → AV) → List AV) (H : β → Hp) (ok : β → Prop) (μ : β → Nat) (b : β) (ds : List Dq) (K : Exit → Fr → Hp → Prop) : Exit → Fr → Hp → Prop
  | .normal, f, h => Seen P m f h fun f h => ∃ b' s, ok b' ∧ μ b' < μ b ∧ f = ⟨F b' s, ds⟩ ∧ h = H b'
  | e, f, h => K e f h
theorem s_loop (hm : P.follows .mixedOrders = true) (F : β → (Nat → AV) → List AV) (H : β → Hp) (ok : β → Prop) (μ : β → Nat) (b0 : β) {l : List AV} {ds : List Dq} {bd : Code}
    (hF : l = F b0 fun k => l.getD k (.v undef)) (hH : h = H b0) (h0 : ok b0) (round : ∀ b s, ok b → wk P m ro bd (loopK P m F H ok μ b ds K) ⟨F b s, ds⟩ (H b)) : wk P m ro (.loop bd) K ⟨l, ds⟩ h := by
  show AW P m ro (.loop bd) K ⟨l, ds⟩ h
  generalize (fun k => l.getD k (.v undef)) = s at hF
  subst hF hH
  refine aw_loop hm (fun n f h => ∃ b s, ok b ∧ n = μ b ∧ f = ⟨F b s, ds⟩ ∧ h = H b) (μ b0) ⟨b0, s, h0, rfl, rfl, rfl⟩ ?_
  rintro n f h ⟨b, s, hb, rfl, rfl, rfl⟩
  have := round b s hb
  have e : (loopK P m F H ok μ b ds K) = (fun e f' h' => match e with
      | .normal => Seen P m f' h' (fun f'' h'' => ∃ n', n' < μ b ∧ ∃ b s, ok b ∧ n' = μ b ∧ f'' = ⟨F b s, ds⟩ ∧ h'' = H b)
      | e => K e f' h') := by
    funext e f' h'
    cases e with
    | normal =>
      show Seen P m f' h' _ = Seen P m f' h' _
      congr 1
      funext f'' h''
      refine propext (Iff.intro ?_ ?_)
      · rintro ⟨b', s, h1, h2, h3, h4⟩; exact ⟨_, h2, b', s, h1, rfl, h3, h4⟩
      · rintro ⟨n', h2, b', s, h1, rfl, h3, h4⟩; exact ⟨b', s, h1, h2, h3, h4⟩
    | _ => rfl
  rw [e] at this
  exact this
section
variable {F : β → (Nat → AV) → List AV} {H : β → Hp} {ok : β → Prop} {μ : β → Nat} {b : β} {ds : List Dq}
theorem l_next {l : List AV} (b' : β) (h1 : ok b') (h2 : μ b' < μ b) (h3 : l = F b' fun k => l.getD k (.v undef)) (h4 : h = H b') : loopK P m F H ok μ b ds K .normal ⟨l, ds⟩ h := by
  exact Seen.same ⟨b', _, h1, h2, congrArg (Fr.mk · ds) h3, h4⟩
theorem l_exit {i : Nat} (hk : K (.exit i) f h) : loopK P m F H ok μ b ds K (.exit i) f h := hk
theorem l_ret (hk : K .ret f h) : loopK P m F H ok μ b ds K .ret f h := hk
end
end
end Go.Az
/-
  Operations on memory, by the values of their operands and by what types are. Conditions: stated at each theorem.
-/
set_option linter.unusedSimpArgs false
set_option linter.unusedVariables false
namespace Go.Az
open Go Go.Chz

def isS1 (P : Program) (t : TypeId) : Bool := match tab P t with
  | some x => !aggD x.d && Nat.beq x.size 1 && (match P.info? t with | some inf => Nat.beq inf.size 1 | none => false)
  | none => false
def isAg (P : Program) (t : TypeId) (n : Nat) : Bool := match tab P t with
  | some x => aggD x.d && Nat.beq x.size n && (match P.info? t with | some inf => Nat.beq inf.size n | none => false)
  | none => false
/-- An array: how many, of what, of how many cells. -/
def arrOf (P : Program) (t : TypeId) : Option (Nat × TypeId × Nat) := match P.underlying t with
  | some (.array n e) => match P.info? e with
    | some inf => some (n, e, inf.size)
    | none => none
  | _ => none
def sliOf (P : Program) (t : TypeId) : Option (TypeId × Nat) := match P.underlying t with
  | some (.slice e) => match P.info? e with
    | some inf => some (e, inf.size)
    | none => none
  | _ => none
def zeroA (P : Program) (t : TypeId) : Option (List AV) := match tab P t with
  | some x => match P.info? t with
    | some inf => if Nat.beq (zAV x).cellsL.length inf.size = true then some (zAV x).cellsL else none
    | none => none
  | none => none
def AV.plain : AV → Bool
  | .agg _ => false
  | .tup _ => false
  | a => a.one

section
variable {P : Program} {f : Fr} {h : Hp} {a b c : Operand} {t t' tt : TypeId} {x y n : Int} {k k0 k1 : IntKind} {r v : AV} {i o m q : Nat} {cs vs : List AV} {ow : Bool}

theorem x_load1 (hs : isS1 P t = true) (ha : ev f a = .ptr i o) (hi : h[i]? = some (.cells cs tt ow)) (hc : cs[o]? = some r) : exL P f h (.load t a) = some r := by
  refine x_load ha ?_
  unfold isS1 at hs
  unfold ldc
  cases ht : tab P t with
  | none => rw [ht] at hs; cases hs
  | some z =>
    rw [ht] at hs
    simp only [Bool.and_eq_true, Bool.not_eq_true'] at hs
    simp only [hi, hs.1.1, Bool.false_eq_true, if_false, hc]
theorem x_loadA (hs : isAg P t m = true) (ha : ev f a = .ptr i o) (hi : h[i]? = some (.cells cs tt ow)) (hl : o + m ≤ cs.length) : exL P f h (.load t a) = some (.agg ((cs.drop o).take m)) := by
  refine x_load ha ?_
  unfold isAg at hs
  unfold ldc
  cases ht : tab P t with
  | none => rw [ht] at hs; cases hs
  | some z =>
    rw [ht] at hs
    simp only [Bool.and_eq_true, Nat.beq_eq] at hs
    simp only [hi, hs.1.1, if_true, hs.1.2, hl]
theorem x_alloc (hz : zeroA P t = some vs) : exH P f h (.alloc t) = some (.ptr h.length 0, h ++ [.cells vs t true]) := by
  unfold zeroA at hz
  split at hz
  · rename_i z ht
    split at hz
    · rename_i inf hi
      simp only [Nat.beq_eq, Option.ite_none_right_eq_some, Option.some.injEq] at hz
      obtain ⟨h1, rfl⟩ := hz
      simp only [exH, ht, newC, hi, h1, if_true]
    · cases hz
  · cases hz
theorem s1_size (hs : isS1 P t = true) : ∃ inf, P.info? t = some inf ∧ inf.size = 1 := by
  unfold isS1 at hs
  split at hs
  · rename_i z ht
    simp only [Bool.and_eq_true] at hs
    obtain ⟨_, hs⟩ := hs
    split at hs
    · rename_i inf hi; exact ⟨inf, hi, by simpa using hs⟩
    · cases hs
  · cases hs
theorem ag_size (hs : isAg P t m = true) : ∃ inf, P.info? t = some inf ∧ inf.size = m := by
  unfold isAg at hs
  split at hs
  · rename_i z ht
    simp only [Bool.and_eq_true] at hs
    obtain ⟨_, hs⟩ := hs
    split at hs
    · rename_i inf hi; exact ⟨inf, hi, by simpa using hs⟩
    · cases hs
  · cases hs
theorem plain_spec (hp : v.plain = true) : v.cellsL = [v] ∧ v.one = true ∧ v.cellOk = true := by
  cases v <;> first | (simp [AV.plain] at hp; done) | (simp only [AV.plain] at hp; exact ⟨rfl, hp, by simp [AV.cellOk, hp]⟩)
theorem x_box1 (hs : isS1 P t = true) (ha : ev f a = v) (hp : v.plain = true) : exH P f h (.box t a) = some (.ptr h.length 0, h ++ [.cells [v] t true]) := by
  obtain ⟨inf, hi, h1⟩ := s1_size hs
  obtain ⟨e1, e2, e3⟩ := plain_spec hp
  simp only [exH, ha, e3, e1, newC, hi, h1, if_true, List.length_cons, List.length_nil]
theorem x_store1 (hs : isS1 P t = true) (ha : ev f a = .ptr i o) (hb : ev f b = v) (hp : v.plain = true) (hi : h[i]? = some (.cells cs tt true)) (hl : o < cs.length) :
    exH P f h (.store t a b) = some (.v undef, h.set i (.cells (cs.set o v) tt true)) := by
  obtain ⟨inf, hinf, h1⟩ := s1_size hs
  obtain ⟨e1, e2, e3⟩ := plain_spec hp
  have e4 : setMany cs o [v] = cs.set o v := by
    apply List.ext_getElem?
    intro j
    simp only [setMany, List.length_cons, List.length_nil, List.append_assoc]
    rw [List.getElem?_append, List.getElem?_set, List.length_take, Nat.min_eq_left (Nat.le_of_lt hl)]
    by_cases h1 : j < o
    · simp [h1, Nat.ne_of_gt h1, List.getElem?_take]
    · simp only [h1, if_false]
      by_cases h2 : o = j
      · subst h2; simp [hl]
      · simp only [h2, if_false]
        obtain ⟨d, rfl⟩ : ∃ d, j = o + 1 + d := ⟨j - (o + 1), by omega⟩
        rw [show o + 1 + d - o = d + 1 by omega]
        simp only [List.cons_append, List.nil_append, List.getElem?_cons_succ, List.getElem?_drop, Nat.zero_add]
  simp only [exH, ha, hb, sto, hinf, hi, e3, e1, allOne, e2, h1, List.length_cons, List.length_nil, Bool.true_and, Option.map_some, e4]
  rw [if_pos ⟨trivial, by simp, by simp, by omega⟩]
  rfl
theorem x_storeA (hs : isAg P t m = true) (ha : ev f a = .ptr i o) (hb : ev f b = .agg vs) (hp : allOne vs = true) (hv : vs.length = m) (hi : h[i]? = some (.cells cs tt true)) (hl : o + m ≤ cs.length) :
    exH P f h (.store t a b) = some (.v undef, h.set i (.cells (setMany cs o vs) tt true)) := by
  obtain ⟨inf, hinf, h1⟩ := ag_size hs
  have e1 : (AV.agg vs).cellsL = vs := rfl
  simp only [exH, ha, hb, sto, hinf, hi, e1, hp, h1, hv, Option.map_some]
  rw [if_pos ⟨rfl, trivial, trivial, hl⟩]
  rfl
theorem x_idxA {e : TypeId} (hu : arrOf P t = some (m, e, q)) (ha : ev f a = .ptr i o) (hb : ev f b = .v (.int k x)) (h0 : 0 ≤ x) (h1 : x < m) : exL P f h (.indexAddr t a b) = some (.ptr i (o + x.toNat * q)) := by
  unfold arrOf at hu
  split at hu
  · rename_i n' e' hu'
    split at hu
    · rename_i inf hi
      injection hu with hu; injection hu with hu1 hu2; injection hu2 with hu2 hu3
      subst hu1 hu2 hu3
      simp only [exL, ha, hb, iad, hu', intOf?, hi, h0, h1, and_self, if_true]
    · cases hu
  · cases hu
theorem x_idxS {e : TypeId} {l cp : Nat} {u : Bool} (hu : sliOf P t = some (e, q)) (ha : ev f a = .sl i o l cp u) (hb : ev f b = .v (.int k x)) (h0 : 0 ≤ x) (h1 : x < l) : exL P f h (.indexAddr t a b) = some (.ptr i (o + x.toNat * q)) := by
  unfold sliOf at hu
  split at hu
  · rename_i e' hu'
    split at hu
    · rename_i inf hi
      injection hu with hu; injection hu with hu1 hu2
      subst hu1 hu2
      simp only [exL, ha, hb, iad, hu', intOf?, hi, h0, h1, and_self, if_true]
    · cases hu
  · cases hu
theorem x_storeF (hs : isAg P t m = true) (ha : ev f a = .ptr i 0) (hb : ev f b = .agg vs) (hp : allOne vs = true) (hv : vs.length = m) (hi : h[i]? = some (.cells cs tt true)) (hl : cs.length = m) :
    exH P f h (.store t a b) = some (.v undef, h.set i (.cells vs tt true)) := by
  rw [x_storeA hs ha hb hp hv hi (by omega)]
  have : setMany cs 0 vs = vs := by simp [setMany, hv, ← hl]
  rw [this]
/-- A slice built of parts: its cells. -/
def bslC (P : Program) (t : TypeId) (len : Nat) (parts : List (Nat × AV)) : Option (TypeId × List AV) := match bsl P [] t len parts with
  | some (_, [.cells cs e true]) => some (e, cs)
  | _ => none
theorem x_bsl {len : Nat} {parts : Array (Nat × Operand)} {l : List (Nat × AV)} {e : TypeId} (hl : parts.toList.map (fun p => (p.1, ev f p.2)) = l) (hb : bslC P t len l = some (e, cs)) :
    exH P f h (.buildSlice t len parts) = some (.sl h.length 0 len len false, h ++ [.cells cs e true]) := by
  unfold bslC at hb
  simp only [exH, hl]
  cases hu : P.underlying t with
  | none => simp [bsl, hu] at hb
  | some d =>
    cases d with
    | slice e' =>
      simp only [bsl, hu] at hb ⊢
      cases ht : tab P e' with
      | none => simp [ht] at hb
      | some z =>
        simp only [ht] at hb ⊢
        split at hb
        · rename_i x cs' e'' heq
          injection hb with hb; injection hb with hb1 hb2
          subst hb1 hb2
          split at heq
          · rename_i hc
            rw [if_pos hc]
            split at heq
            · rename_i cs2 hf
              split at heq
              · rename_i hlen
                simp only [Option.some.injEq, Prod.mk.injEq, List.nil_append, List.cons.injEq, AObj.cells.injEq, and_true] at heq
                obtain ⟨_, rfl, rfl⟩ := heq
                rw [if_pos hlen]
              · cases heq
            · cases heq
          · cases heq
        · cases hb
    | _ => simp [bsl, hu] at hb
theorem x_index1 {e : TypeId} (hu : arrOf P t = some (m, e, 1)) (hs : isS1 P e = true) (ha : ev f a = .agg cs) (hb : ev f b = .v (.int k x)) (h0 : 0 ≤ x) (h1 : x < m) (hc : cs[x.toNat]? = some r) : exL P f h (.index t a b) = some r := by
  unfold arrOf at hu
  split at hu
  · rename_i n' e' hu'
    split at hu
    · rename_i inf hi
      injection hu with hu; injection hu with hu1 hu2; injection hu2 with hu2 hu3
      subst hu1 hu2
      simp only [exL, ha, hb, idx, hu', intOf?, hi, h0, h1, and_self, if_true, hu3, Nat.mul_one]
      unfold isS1 at hs
      unfold prt
      cases ht : tab P e' with
      | none => rw [ht] at hs; cases hs
      | some z =>
        rw [ht] at hs
        simp only [Bool.and_eq_true, Bool.not_eq_true'] at hs
        simp only [hs.1.1, Bool.false_eq_true, if_false, hc]
    · cases hu
  · cases hu
end
end Go.Az
/-
  Slices of integers in an abstract memory, by what they hold: their length, their elements, and that they stay where memory is only added. Conditions: stated at each theorem.
-/
set_option linter.unusedSimpArgs false
set_option linter.unusedVariables false
namespace Go.Az
open Go Go.Chz

/-- The slice holds these integers. -/
def Ints (k : IntKind) (h : Hp) (s : AV) (l : List Int) : Prop :=
  (s = .v (.slice none 0 0) ∧ l = []) ∨ ∃ i o c u cs t own, s = .sl i o l.length c u ∧ h[i]? = some (.cells cs t own) ∧ o + l.length ≤ cs.length ∧ (cs.drop o).take l.length = l.map (fun x => .v (.int k x))
/-- All that was there is there still. -/
def Ext (h h' : Hp) : Prop := h.length ≤ h'.length ∧ ∀ i, i < h.length → h'[i]? = h[i]?
theorem Ext.refl (h : Hp) : Ext h h := ⟨Nat.le_refl _, fun _ _ => rfl⟩
theorem Ext.trans {a b c : Hp} (x : Ext a b) (y : Ext b c) : Ext a c := ⟨Nat.le_trans x.1 y.1, fun i hi => by rw [y.2 i (Nat.lt_of_lt_of_le hi x.1), x.2 i hi]⟩
theorem Ext.get {a b : Hp} (x : Ext a b) {i : Nat} {o : AObj} (hi : a[i]? = some o) : b[i]? = some o := by
  rw [x.2 i (List.getElem?_eq_some_iff.1 hi).1, hi]
theorem Ext.push (h : Hp) (o : AObj) : Ext h (h ++ [o]) := ⟨by simp, fun i hi => by rw [List.getElem?_append_left hi]⟩
theorem Ints.ext {k : IntKind} {h h' : Hp} {s : AV} {l : List Int} (hS : Ints k h s l) (x : Ext h h') : Ints k h' s l := by
  rcases hS with hS | ⟨i, o, c, u, cs, t, own, h1, h2, h3⟩
  · exact .inl hS
  · exact .inr ⟨i, o, c, u, cs, t, own, h1, x.get h2, h3⟩
theorem ints_get {k : IntKind} {cs : List AV} {o : Nat} {l : List Int} (h : (cs.drop o).take l.length = l.map (fun x => .v (.int k x))) {j : Nat} {x : Int} (hj : l[j]? = some x) : cs[o + j]? = some (.v (.int k x)) := by
  have h1 := congrArg (fun z => z[j]?) h
  have h2 : j < l.length := (List.getElem?_eq_some_iff.1 hj).1
  simp only [List.getElem?_take, h2, if_true, List.getElem?_drop, List.getElem?_map, hj, Option.map_some] at h1
  exact h1
def elA (s : AV) (x : Int) : AV := match s with
  | .sl i o _ _ _ => .ptr i (o + x.toNat)
  | _ => .v undef

section
variable {P : Program} {f : Fr} {h : Hp} {a b : Operand} {t : TypeId} {x : Int} {k k' : IntKind} {s : AV} {l : List Int}
theorem x_lenI {e : TypeId} {q : Nat} (hS : Ints k h s l) (hu : sliOf P t = some (e, q)) (ha : ev f a = s) : exL P f h (.call ⟨.builtin .len, #[a], #[t]⟩) = some (.v (.int .i64 l.length)) := by
  unfold sliOf at hu
  split at hu
  · rename_i e' hu'
    rcases hS with ⟨rfl, rfl⟩ | ⟨i, o, c, u, cs, t', own, rfl, h2, h3⟩ <;> simp [exL, ha, exB, lenB, hu']
  · cases hu
theorem x_idxI {e : TypeId} (hS : Ints k h s l) (hu : sliOf P t = some (e, 1)) (ha : ev f a = s) (hb : ev f b = .v (.int k' x)) (h0 : 0 ≤ x) (h1 : x < l.length) : exL P f h (.indexAddr t a b) = some (elA s x) := by
  rcases hS with ⟨_, rfl⟩ | ⟨i, o, c, u, cs, t', own, rfl, h2, h3⟩
  · simp at h1; omega
  · rw [x_idxS hu ha hb h0 h1]; simp [elA]
theorem x_loadI (hS : Ints k h s l) (hs : isS1 P t = true) (ha : ev f a = elA s x) (h0 : 0 ≤ x) (h1 : x < l.length) : exL P f h (.load t a) = some (.v (.int k (l.getD x.toNat 0))) := by
  rcases hS with ⟨_, rfl⟩ | ⟨i, o, c, u, cs, t', own, rfl, h2, h3⟩
  · simp at h1; omega
  · have h4 : x.toNat < l.length := by omega
    refine x_load1 hs ha h2 (ints_get h3.2 (j := x.toNat) ?_)
    rw [List.getD_eq_getElem?_getD, List.getElem?_eq_getElem h4]; rfl
end

/-! ### Slices that are appended to -/
/-- A slice of the call's own (its object's number is at least m) that may be appended to, and what it holds. -/
def Grow (k : IntKind) (e : TypeId) (m : Nat) (h : Hp) (s : AV) (l : List Int) : Prop :=
  (s = .v (.slice none 0 0) ∧ l = []) ∨ (∃ i cs own, m ≤ i ∧ s = .sl i 0 0 0 false ∧ l = [] ∧ h[i]? = some (.cells cs e own)) ∨
    ∃ i, m ≤ i ∧ s = .sl i 0 l.length 0 true ∧ h[i]? = some (.cells (l.map (fun x => .v (.int k x))) e true)
theorem Grow.ints {k : IntKind} {e : TypeId} {m : Nat} {h : Hp} {s : AV} {l : List Int} (hG : Grow k e m h s l) : Ints k h s l := by
  rcases hG with hG | ⟨i, cs, own, h1, rfl, rfl, h2⟩ | ⟨i, h1, rfl, h2⟩
  · exact .inl hG
  · exact .inr ⟨i, 0, 0, false, cs, e, own, rfl, h2, by simp, by simp⟩
  · exact .inr ⟨i, 0, 0, true, _, e, true, rfl, h2, by simp, by rw [List.drop_zero, List.take_of_length_le (by simp)]⟩
theorem Grow.ext {k : IntKind} {e : TypeId} {m : Nat} {h h' : Hp} {s : AV} {l : List Int} (hG : Grow k e m h s l) (x : Ext h h') : Grow k e m h' s l := by
  rcases hG with hG | ⟨i, cs, own, h1, h3, h4, h2⟩ | ⟨i, h1, h3, h2⟩
  · exact .inl hG
  · exact .inr (.inl ⟨i, cs, own, h1, h3, h4, x.get h2⟩)
  · exact .inr (.inr ⟨i, h1, h3, x.get h2⟩)
/-- What lies below m stays. -/
def Low (m : Nat) (h h' : Hp) : Prop := h.length ≤ h'.length ∧ ∀ i, i < m → h'[i]? = h[i]?
theorem Low.refl (m : Nat) (h : Hp) : Low m h h := ⟨Nat.le_refl _, fun _ _ => rfl⟩
theorem Low.trans {m : Nat} {a b c : Hp} (x : Low m a b) (y : Low m b c) : Low m a c := ⟨Nat.le_trans x.1 y.1, fun i hi => by rw [y.2 i hi, x.2 i hi]⟩
theorem Low.push {m : Nat} {h : Hp} (o : AObj) (hm : m ≤ h.length) : Low m h (h ++ [o]) := ⟨by simp, fun i hi => by rw [List.getElem?_append_left (by omega)]⟩
theorem Low.toExt {h h' : Hp} (x : Low h.length h h') : Ext h h' := x
def elOk (P : Program) (e : TypeId) : Bool := match tab P e, P.info? e with
  | some ti, some inf => Nat.beq ti.size 1 && Nat.ble ti.bytes 8 && Nat.beq inf.size 1
  | _, _ => false
theorem allOne_ints (k : IntKind) : ∀ l : List Int, allOne (l.map (fun x => AV.v (.int k x))) = true
  | [] => rfl
  | x :: r => by simp only [List.map_cons, allOne, AV.one, Value.oneCell', allOne_ints k r, Bool.true_and]
theorem app_ints {P : Program} {t e : TypeId} {k : IntKind} {m : Nat} {H : Hp} {s u : AV} {l l2 : List Int} (hu : sliOf P t = some (e, 1)) (he : elOk P e = true) (hG : Grow k e m H s l) (hm : m ≤ H.length) (hS : Ints k H u l2) (hlen : l.length + l2.length ≤ 17592186044416) :
    ∃ s' H', app P H [t, t] s u = some (s', H') ∧ Grow k e m H' s' (l ++ l2) ∧ Low m H H' := by
  have hu' : P.underlying t = some (.slice e) := by
    unfold sliOf at hu
    split at hu
    · rename_i e' h1
      split at hu
      · injection hu with hu; injection hu with hu1 hu2; subst hu1; exact h1
      · cases hu
    · cases hu
  unfold elOk at he
  split at he
  case h_2 => cases he
  rename_i ti inf ht hinf
  simp only [Bool.and_eq_true, Nat.beq_eq, Nat.ble_eq] at he
  obtain ⟨⟨hs1, hby⟩, hi1⟩ := he
  have hsrc : srcC H 1 u = some (l2.length, l2.map (fun x => .v (.int k x))) := by
    rcases hS with ⟨rfl, rfl⟩ | ⟨i, o, c, u', cs, t', own, rfl, h2, h3, h4⟩
    · rfl
    · simp only [srcC, h2, Nat.mul_one]
      rw [if_pos h3, h4]
  have hb : (l.length + l2.length) * ti.bytes ≤ 140737488355328 := Nat.le_trans (Nat.mul_le_mul hlen hby) (by omega)
  have hb2 : l2.length * ti.bytes ≤ 140737488355328 := Nat.le_trans (Nat.mul_le_mul (show l2.length ≤ 17592186044416 by omega) hby) (by omega)
  unfold app
  simp only [ne_eq, not_true_eq_false, if_false, hu', ht, hs1, Nat.one_ne_zero, hsrc, allOne_ints, Bool.true_eq_false, Nat.mul_one, Nat.zero_add]
  rcases hG with ⟨rfl, rfl⟩ | ⟨i, cs, own, h1, rfl, rfl, h2⟩ | ⟨i, h1, rfl, h2⟩
  · simp only []
    by_cases h0 : l2.length = 0
    · rw [if_pos h0]
      exact ⟨_, _, rfl, .inl ⟨rfl, by simpa using h0⟩, Low.refl _ _⟩
    · rw [if_neg h0, if_pos ⟨by omega, hb2⟩]
      exact ⟨_, _, rfl, .inr (.inr ⟨H.length, hm, by simp, by simp⟩), Low.push _ hm⟩
  · simp only []
    by_cases h0 : l2.length = 0
    · rw [if_pos (by omega), if_pos h0]
      have : l2 = [] := by simpa using h0
      subst this
      exact ⟨_, _, rfl, .inr (.inl ⟨i, cs, own, h1, rfl, rfl, h2⟩), Low.refl _ _⟩
    · rw [if_neg (by omega), if_neg h0, h2]
      simp only []
      rw [if_pos ⟨by simp, by omega, by simpa using hb2⟩]
      exact ⟨_, _, rfl, .inr (.inr ⟨H.length, hm, by simp, by simp⟩), Low.push _ hm⟩
  · simp only []
    by_cases h0 : l2.length = 0
    · have : l2 = [] := by simpa using h0
      subst this
      have hc : capOk P H e i l.length 0 = true := by simp [capOk, h2, hinf, hi1]
      rw [if_pos h0, if_pos hc]
      exact ⟨_, _, rfl, .inr (.inr ⟨i, h1, by simp, by simpa using h2⟩), Low.refl _ _⟩
    · rw [if_neg h0, h2]
      simp only []
      rw [if_pos ⟨trivial, trivial, trivial, by simp, by omega, hb⟩]
      refine ⟨_, _, rfl, .inr (.inr ⟨H.length, hm, by simp, ?_⟩), ?_⟩
      · rw [List.getElem?_append_right (by simp)]
        simp [List.take_of_length_le]
      · refine ⟨by simp, fun j hj => ?_⟩
        rw [List.getElem?_append_left (by simp; omega), List.getElem?_set_ne (by omega)]
theorem x_app {P : Program} {f : Fr} {h h' : Hp} {a b : Operand} {t : TypeId} {s u r : AV} (ha : ev f a = s) (hb : ev f b = u) (hr : app P h [t, t] s u = some (r, h')) : exH P f h (.call ⟨.builtin .append, #[a, b], #[t, t]⟩) = some (r, h') := by
  simp only [exH, ha, hb]; exact hr
end Go.Az
/-
  Slices of integers that are passed in: what the statement's own memory says of them, as an abstract memory that is only read. Conditions: stated at each theorem.
-/
set_option linter.unusedSimpArgs false
set_option linter.unusedVariables false
namespace Go.Az
open Go Go.Chz

/-- A slice value of the world W and the integers of its whole row. -/
def IsRow (k : IntKind) (W : World) (a : Option Addr) (len cap : Nat) (zs : List Int) : Prop :=
  (a = none ∧ len = 0 ∧ cap = 0 ∧ zs = []) ∨ ∃ ad, a = some ad ∧ len ≤ cap ∧ cap ≤ maxLen ∧ zs.length = cap ∧ (∀ i, i < zs.length → W.cell? (ad.add i) = some (.int k (zs.getD i 0))) ∧ (∀ n ∈ zs, (Lit.int k n).wf = true) ∧ ad.spot = none
theorem okWide_spot {P : Program} {w : World} {r : Reach} {base : Nat} {t e : TypeId} {a : Addr} {len cap : Nat} (ht : P.underlying t = some (.slice e)) (h : Value.okWide P w r base t (.slice (some a) len cap)) : a.spot = none := by
  simp only [Value.okWide, ht, Cell.okWide, Cell.ok] at h
  exact h.2.2.2.1
structure RowIn where
  a : Option Addr
  len : Nat
  cap : Nat
  zs : List Int
  k : IntKind
  t : TypeId
def RowIn.obj (r : RowIn) : AObj := .cells (r.zs.map fun x => .v (.int r.k x)) r.t false
def RowIn.av (r : RowIn) (i : Nat) : AV := match r.a with
  | none => .v (.slice none 0 0)
  | some _ => .sl i 0 r.len r.cap false
def RowIn.place (r : RowIn) : Place := match r.a with
  | none => ⟨0, 0, 0⟩
  | some ad => ⟨ad.block, ad.off, r.cap⟩
def rho (rs : List RowIn) (i : Nat) : Place := match rs[i]? with
  | some r => r.place
  | none => ⟨0, 0, 0⟩
def RowIn.ok (W : World) (r : RowIn) : Prop := IsRow r.k W r.a r.len r.cap r.zs
theorem rows_hrel {P : Program} {W : World} {rs : List RowIn} (h : ∀ r ∈ rs, r.ok W) : HRel P (rho rs) (rs.map RowIn.obj) W := by
  refine ⟨?_, ?_, ?_⟩
  · intro i o hi
    rw [List.getElem?_map] at hi
    obtain ⟨r, hr, rfl⟩ := Option.map_eq_some_iff.1 hi
    refine ⟨?_, fun hf => by cases hf⟩
    intro j a hj
    rw [List.getElem?_map] at hj
    obtain ⟨x, hx, rfl⟩ := Option.map_eq_some_iff.1 hj
    rcases h r (List.mem_of_getElem? hr) with ⟨_, _, _, hz⟩ | ⟨ad, ha, _, _, hz, hc, _, hsp⟩
    · rw [hz] at hx; cases hx
    · have hlt := (List.getElem?_eq_some_iff.1 hx).1
      have h1 := hc j hlt
      rw [List.getD_eq_getElem?_getD, hx, Option.getD_some] at h1
      have e1 : rho rs i = ⟨ad.block, ad.off, r.cap⟩ := by simp only [rho, hr, RowIn.place, ha]
      have e2 : (⟨ad.block, ad.off + j, none⟩ : Addr) = ad.add j := by
        cases ad with
        | mk b o s => simp only at hsp; subst hsp; rw [add0]
      rw [e1]
      simp only [e2, h1, AV.real]
  · intro i o hi
    rw [List.getElem?_map] at hi
    obtain ⟨r, hr, rfl⟩ := Option.map_eq_some_iff.1 hi
    show AV.scs _ _ = true
    exact (scs_iff _ _).2 fun a ha => by
      obtain ⟨x, _, rfl⟩ := List.mem_map.1 ha
      rfl
  · intro i j o o' hi hj ho
    rw [List.getElem?_map] at hi
    obtain ⟨r, hr, rfl⟩ := Option.map_eq_some_iff.1 hi
    cases ho
theorem rows_own {rs : List RowIn} : ∀ o ∈ rs.map RowIn.obj, o.own = false := by
  intro o ho
  obtain ⟨r, _, rfl⟩ := List.mem_map.1 ho
  rfl
theorem row_real {W : World} {rs : List RowIn} {i : Nat} {r : RowIn} (hr : rs[i]? = some r) (h : r.ok W) : (r.av i).real (rho rs) = .slice r.a r.len r.cap := by
  rcases h with ⟨ha, hl, hc, _⟩ | ⟨ad, ha, _, _, _, _, _, hsp⟩
  · simp only [RowIn.av, ha, AV.real, hl, hc]
  · simp only [RowIn.av, ha, AV.real, rho, hr, RowIn.place, Nat.add_zero, Bool.false_eq_true, if_false]
    cases ad with
    | mk b o s => simp only at hsp; subst hsp; rfl
theorem row_ints {W : World} {rs : List RowIn} {i : Nat} {r : RowIn} (hr : rs[i]? = some r) (h : r.ok W) : Ints r.k (rs.map RowIn.obj) (r.av i) (r.zs.take r.len) := by
  rcases h with ⟨ha, hl, hc, hz⟩ | ⟨ad, ha, hle, _, hz, _, _, hsp⟩
  · left; simp [RowIn.av, ha, hz]
  · right
    have e : (r.zs.take r.len).length = r.len := by rw [List.length_take, Nat.min_eq_left (by omega)]
    refine ⟨i, 0, r.cap, false, r.zs.map (fun x => .v (.int r.k x)), r.t, false, by simp only [RowIn.av, ha, e], by rw [List.getElem?_map, hr]; rfl, by rw [e, List.length_map]; omega, ?_⟩
    rw [e, List.drop_zero, List.map_take]
theorem row_sc {rs : List RowIn} {i : Nat} {r : RowIn} (hr : rs[i]? = some r) : (r.av i).sc (rs.map RowIn.obj).length = true := by
  unfold RowIn.av
  split
  · rfl
  · have := (List.getElem?_eq_some_iff.1 hr).1
    simp [AV.sc, this]
theorem row_wf {W : World} {r : RowIn} (h : r.ok W) : ∀ x ∈ r.zs.take r.len, r.k.min ≤ x ∧ x ≤ r.k.max := by
  intro x hx
  rcases h with ⟨ha, hl, hc, hz⟩ | ⟨ad, ha, hle, _, hz, _, hw, hsp⟩
  · rw [hz] at hx; simp at hx
  · have := hw x (List.mem_of_mem_take hx)
    simpa only [Lit.wf, Bool.and_eq_true, decide_eq_true_eq] using this
end Go.Az
/-
  Parts of slices of integers that the call has made: what s[:n] and s[n:] hold. Conditions: stated at each theorem.
-/
set_option linter.unusedSimpArgs false
set_option linter.unusedVariables false
namespace Go.Az
open Go Go.Chz

section
variable {P : Program} {t e : TypeId} {k : IntKind} {m : Nat} {H : Hp} {s : AV} {l : List Int} {n : Nat}
theorem sliOf_spec {q : Nat} (hu : sliOf P t = some (e, q)) : P.underlying t = some (.slice e) ∧ ∃ inf, P.info? e = some inf ∧ inf.size = q := by
  unfold sliOf at hu
  split at hu
  · rename_i e' h1
    split at hu
    · rename_i inf hi
      injection hu with hu; injection hu with hu1 hu2; subst hu1; exact ⟨h1, inf, hi, hu2⟩
    · cases hu
  · cases hu
theorem cut_hi (hu : sliOf P t = some (e, 1)) (hG : Grow k e m H s l) (hn : n ≤ l.length) : ∃ s', slc P H t s none (some (.v (.int .i64 n))) none = some s' ∧ Ints k H s' (l.take n) := by
  obtain ⟨hu', inf, hi, h1⟩ := sliOf_spec hu
  rcases hG with ⟨rfl, rfl⟩ | ⟨i, cs, own, h2, rfl, rfl, h3⟩ | ⟨i, h2, rfl, h3⟩
  · have : n = 0 := by simpa using hn
    subst this
    exact ⟨.v (.slice none 0 0), by simp [slc, hu', hi, bnds, bnd, intOf?], .inl ⟨rfl, rfl⟩⟩
  · have : n = 0 := by simpa using hn
    subst this
    exact ⟨.sl i 0 0 0 false, by simp [slc, hu', hi, bnds, bnd, intOf?, cutAt], .inr ⟨i, 0, 0, false, cs, e, own, rfl, h3, by simp, by simp⟩⟩
  · have hc : capOk P H e i l.length 0 = true := by simp [capOk, h3, hi, h1]
    refine ⟨.sl i 0 n 0 true, by simp [slc, hu', hi, hc, ubnds, bnds, bnd, intOf?, hn], .inr ⟨i, 0, 0, true, _, e, true, by rw [List.length_take, Nat.min_eq_left hn], h3, by simp; omega, ?_⟩⟩
    rw [List.length_take, Nat.min_eq_left hn, List.drop_zero, List.map_take]
variable {f : Fr} {a b : Operand} {ops : Array Oper} {N : Fr → Hp → Prop} {d : Option Tmp} {ty : TypeId} {pos : String} {aft : Array Edge} {gd : Option (Nat × Bool)} {rest : List Oper}
theorem s_cutHi (hw : wantA ops f ⟨d, .slice t a none (some b) none, ty, pos, aft, gd⟩ = true) (hu : sliOf P t = some (e, 1)) (hG : Grow k e m H s l) (ha : ev f a = s) (hb : ev f b = .v (.int .i64 n)) (hn : n ≤ l.length)
    (hk : ∀ s', Ints k H s' (l.take n) → wkO P ops rest N (f.put d s') H) : wkO P ops (⟨d, .slice t a none (some b) none, ty, pos, aft, gd⟩ :: rest) N f H := by
  obtain ⟨s', h1, h2⟩ := cut_hi hu hG hn
  exact s_gL hw (by simp only [exL, ha, hb, Option.map_some, Option.map_none, h1]) (hk s' h2)
theorem s_cutLo (hw : wantA ops f ⟨d, .slice t a (some b) none none, ty, pos, aft, gd⟩ = true) (hu : sliOf P t = some (e, 1)) (hG : Grow k e m H s l) (ha : ev f a = s) (hb : ev f b = .v (.int .i64 n)) (hn : n ≤ l.length)
    (hk : ∀ s', Ints k H s' (l.drop n) → wkO P ops rest N (f.put d s') H) : wkO P ops (⟨d, .slice t a (some b) none none, ty, pos, aft, gd⟩ :: rest) N f H := by
  obtain ⟨hu', inf, hi, h1⟩ := sliOf_spec hu
  have go : ∀ s', slc P H t s (some (.v (.int .i64 n))) none none = some s' → Ints k H s' (l.drop n) → wkO P ops (⟨d, .slice t a (some b) none none, ty, pos, aft, gd⟩ :: rest) N f H := fun s' h1 h2 =>
    s_gL hw (by simp only [exL, ha, hb, Option.map_some, Option.map_none, h1]) (hk s' h2)
  rcases hG with ⟨rfl, rfl⟩ | ⟨i, cs, own, h2, rfl, rfl, h3⟩ | ⟨i, h2, rfl, h3⟩
  · have : n = 0 := by simpa using hn
    subst this
    exact go (.v (.slice none 0 0)) (by simp [slc, hu', hi, bnds, bnd, intOf?]) (.inl ⟨rfl, rfl⟩)
  · have : n = 0 := by simpa using hn
    subst this
    exact go (.sl i 0 0 0 false) (by simp [slc, hu', hi, bnds, bnd, intOf?, cutAt]) (.inr ⟨i, 0, 0, false, cs, e, own, rfl, h3, by simp, by simp⟩)
  · have hc : capOk P H e i l.length 0 = true := by simp [capOk, h3, hi, h1]
    by_cases hlt : n < l.length ∨ n = 0
    · refine go (.sl i n (l.length - n) n true) (by simp [slc, hu', hi, hc, ubnds, bnds, bnd, intOf?, hn, h1, hlt]) (.inr ⟨i, n, n, true, _, e, true, by simp, h3, by simp; omega, ?_⟩)
      rw [List.length_drop, ← List.map_drop, List.take_of_length_le (by simp)]
    · have hq : n = l.length := by omega
      subst hq
      have ht : tailOf P f H (.slice t a (some b) none none) = some (.sl i 0 0 0 false, .sl i (0 + l.length * inf.size) 0 (0 + l.length) true) := by
        simp [tailOf, hu', ha, hb, hc, hi, intOf?]
      show (if _ then _ else _)
      rw [if_pos hw]
      refine .inr (.inr (.inr (.inr (.inl ⟨_, _, ht, hk _ ?_, hk _ ?_⟩))))
      · exact .inr ⟨i, 0, 0, false, _, e, true, by simp, h3, by simp, by simp⟩
      · exact .inr ⟨i, 0 + l.length * inf.size, 0 + l.length, true, _, e, true, by simp, h3, by simp [h1], by simp⟩
end
end Go.Az
/-
  Steps of a walk through a drawn region along a tree of orders. Conditions: stated at each theorem.
-/
set_option linter.unusedSimpArgs false
set_option linter.unusedVariables false
namespace Go.Az
open Go Go.Chz

inductive OrdX where
  | done
  | light (o : Oper) (i : Nat) (r : OrdX)
  | alt (o : Oper) (i : Nat) (gone : List Nat) (r rest : OrdX)
  | no
  | bad
def pickT (ops : List Oper) : Ord → OrdX
  | .done => .done
  | .no => .no
  | .light i r => match ops[i]? with
    | some o => .light o i (pickT ops r)
    | none => .bad
  | .alt i gone r rest => match ops[i]? with
    | some o => .alt o i gone (pickT ops r) (pickT ops rest)
    | none => .bad

section
variable {P : Program} {f : Fr} {h : Hp} {m : Nat} {ro : Option Nat} {ops : Array Oper}
def wkX (P : Program) (ops : Array Oper) : OrdX → List (Nat × Nat) → (Fr → Hp → Prop) → Fr → Hp → Prop
  | .done, _, K, f, h => K f h
  | .no, _, _, _, _ => True
  | .bad, _, _, _, _ => False
  | .light o i r, pd, K, f, h => if wantA ops f o = true then ∃ v, exL P f h o.op = some v ∧ wkX P ops r ((readsOf f o.op).map (fun x => (i, x)) ++ pd) K (f.put o.dst v) h else wkX P ops r pd K (f.put o.dst (.v undef)) h
  | .alt o i gone r rest, pd, K, f, h => (if wantA ops f o = true then WOp P o f h (fun v h' => stayG gone pd h h' ∧ wkX P ops r pd K (f.put o.dst v) h') else wkX P ops r pd K (f.put o.dst (.v undef)) h) ∧ wkX P ops rest pd K f h
theorem wkT_of_X {ops : Array Oper} {K : Fr → Hp → Prop} : ∀ (T : Ord) (pd : List (Nat × Nat)) (f : Fr) (h : Hp), wkX P ops (pickT ops.toList T) pd K f h → wkT P ops T pd K f h
  | .done, pd, f, h, hk => hk
  | .no, pd, f, h, hk => trivial
  | .light i r, pd, f, h, hk => by
    simp only [pickT] at hk
    cases ho : ops.toList[i]? with
    | none => simp only [ho] at hk; exact hk.elim
    | some o =>
      have ho' : ops[i]? = some o := by simpa using ho
      simp only [ho] at hk
      simp only [wkT, ho']
      simp only [wkX] at hk
      split
      · rename_i hw
        rw [if_pos hw] at hk
        obtain ⟨v, hv, hk⟩ := hk
        exact ⟨v, hv, wkT_of_X r _ _ _ hk⟩
      · rename_i hw
        rw [if_neg hw] at hk
        exact wkT_of_X r _ _ _ hk
  | .alt i gone r rest, pd, f, h, hk => by
    simp only [pickT] at hk
    cases ho : ops.toList[i]? with
    | none => simp only [ho] at hk; exact hk.elim
    | some o =>
      have ho' : ops[i]? = some o := by simpa using ho
      simp only [ho] at hk
      simp only [wkT, ho']
      simp only [wkX] at hk
      refine ⟨?_, wkT_of_X rest _ _ _ hk.2⟩
      replace hk := hk.1
      split
      · rename_i hw
        rw [if_pos hw] at hk
        exact wop_mono (fun v h' hn => ⟨hn.1, wkT_of_X r _ _ _ hn.2⟩) hk
      · rename_i hw
        rw [if_neg hw] at hk
        exact wkT_of_X r _ _ _ hk
theorem s_regT {K : Exit → Fr → Hp → Prop} {id : Nat} {ops : List Oper} (T : Ord) (hv : List Nat) (h1 : ordTok ops.toArray hv T = true) {X : OrdX} (hX : pickT ops T = X) (hk : wkX P ops.toArray X [] (K .normal) f h) : wk P m ro (.region id ops.toArray true) K f h := by
  subst hX
  exact .inr ⟨T, hv, h1, wkT_of_X T [] f h hk⟩

variable {N : Fr → Hp → Prop} {d : Option Tmp} {op : Op} {ty : TypeId} {pos : String} {aft : Array Edge} {gd : Option (Nat × Bool)} {X Y : OrdX} {pd : List (Nat × Nat)} {i x : Nat} {gone : List Nat}
theorem t_end (hk : N f h) : wkX P ops .done pd N f h := hk
theorem t_gN (hw : wantA ops f ⟨d, op, ty, pos, aft, gd⟩ = false) (hk : wkX P ops X pd N (f.put d (.v undef)) h) : wkX P ops (.light ⟨d, op, ty, pos, aft, gd⟩ i X) pd N f h := by
  show (if _ then _ else _)
  rw [if_neg (by rw [hw]; simp)]; exact hk
theorem t_gL {r : AV} (hw : wantA ops f ⟨d, op, ty, pos, aft, gd⟩ = true) (hx : exL P f h op = some r) (hk : wkX P ops X pd N (f.put d r) h) (hrd : readsOf f op = [] := by rfl) : wkX P ops (.light ⟨d, op, ty, pos, aft, gd⟩ i X) pd N f h := by
  show (if _ then _ else _)
  rw [if_pos hw]; refine ⟨r, hx, ?_⟩
  show wkX P ops X ((readsOf f op).map _ ++ pd) N _ h
  rw [hrd]; exact hk
theorem t_gR {r : AV} (hw : wantA ops f ⟨d, op, ty, pos, aft, gd⟩ = true) (hrd : readsOf f op = [x]) (hx : exL P f h op = some r) (hk : wkX P ops X ((i, x) :: pd) N (f.put d r) h) : wkX P ops (.light ⟨d, op, ty, pos, aft, gd⟩ i X) pd N f h := by
  show (if _ then _ else _)
  rw [if_pos hw]; refine ⟨r, hx, ?_⟩
  show wkX P ops X ((readsOf f op).map _ ++ pd) N _ h
  rw [hrd]; exact hk
theorem t_gB {b : Bool} (hw : wantA ops f ⟨d, op, ty, pos, aft, gd⟩ = true) (hx : exL P f h op = some (.v (.bool b))) (h1 : b = true → wkX P ops X pd N (f.put d (.v (.bool true))) h) (h2 : b = false → wkX P ops X pd N (f.put d (.v (.bool false))) h) (hrd : readsOf f op = [] := by rfl) : wkX P ops (.light ⟨d, op, ty, pos, aft, gd⟩ i X) pd N f h :=
  t_gL hw hx (by cases b <;> first | exact h2 rfl | exact h1 rfl) hrd
theorem is_t (op : Op) (hk : wkX P ops (.light ⟨d, op, ty, pos, aft, gd⟩ i X) pd N f h) : wkX P ops (.light ⟨d, op, ty, pos, aft, gd⟩ i X) pd N f h := hk
theorem is_tG {g : Nat × Bool} (op : Op) (hk : wkX P ops (.light ⟨d, op, ty, pos, aft, some g⟩ i X) pd N f h) : wkX P ops (.light ⟨d, op, ty, pos, aft, some g⟩ i X) pd N f h := hk

/-! An operation that may be first alone. -/
theorem u_both {o o' : Oper} {j : Nat} {g' : List Nat} {Z : OrdX} (h1 : wkX P ops (.alt o i gone X .no) pd N f h) (h2 : wkX P ops (.alt o' j g' Y Z) pd N f h) : wkX P ops (.alt o i gone X (.alt o' j g' Y Z)) pd N f h := ⟨h1.1, h2⟩
theorem u_gN (hw : wantA ops f ⟨d, op, ty, pos, aft, gd⟩ = false) (hk : wkX P ops X pd N (f.put d (.v undef)) h) : wkX P ops (.alt ⟨d, op, ty, pos, aft, gd⟩ i gone X .no) pd N f h := by
  refine ⟨?_, trivial⟩
  rw [if_neg (by rw [hw]; simp)]; exact hk
theorem u_gL {r : AV} (hw : wantA ops f ⟨d, op, ty, pos, aft, gd⟩ = true) (hx : exL P f h op = some r) (hk : wkX P ops X pd N (f.put d r) h) : wkX P ops (.alt ⟨d, op, ty, pos, aft, gd⟩ i gone X .no) pd N f h := by
  refine ⟨?_, trivial⟩
  rw [if_pos hw]; exact .inl ⟨r, hx, stayG_same pd, hk⟩
theorem u_gB {b : Bool} (hw : wantA ops f ⟨d, op, ty, pos, aft, gd⟩ = true) (hx : exL P f h op = some (.v (.bool b))) (h1 : b = true → wkX P ops X pd N (f.put d (.v (.bool true))) h) (h2 : b = false → wkX P ops X pd N (f.put d (.v (.bool false))) h) : wkX P ops (.alt ⟨d, op, ty, pos, aft, gd⟩ i gone X .no) pd N f h :=
  u_gL hw hx (by cases b <;> first | exact h2 rfl | exact h1 rfl)
theorem u_gH {r : AV} {h' : Hp} (hw : wantA ops f ⟨d, op, ty, pos, aft, gd⟩ = true) (hx : exH P f h op = some (r, h')) (hs : stayG gone pd h h') (hk : wkX P ops X pd N (f.put d r) h') : wkX P ops (.alt ⟨d, op, ty, pos, aft, gd⟩ i gone X .no) pd N f h := by
  refine ⟨?_, trivial⟩
  rw [if_pos hw]; exact .inr (.inl ⟨r, h', hx, hs, hk⟩)
theorem u_gC {g : FuncId} {args : List AV} (hw : wantA ops f ⟨d, op, ty, pos, aft, gd⟩ = true) (hx : callOf f op = some (g, args)) (hg : okFn P g = true) (hk : ACalls P g args h (fun r h' => stayG gone pd h h' ∧ wkX P ops X pd N (f.put d r) h')) : wkX P ops (.alt ⟨d, op, ty, pos, aft, gd⟩ i gone X .no) pd N f h := by
  refine ⟨?_, trivial⟩
  rw [if_pos hw]; exact .inr (.inr (.inl ⟨g, args, hx, hg, hk⟩))
theorem u_gK {g : FuncId} {args : List AV} {r : AV} (hw : wantA ops f ⟨d, op, ty, pos, aft, gd⟩ = true) (hx : callOf f op = some (g, args)) (hg : okFn P g = true) (hs : AV.scs 0 args = true) (hc : ACalls P g args [] (fun r' _ => r' = r ∧ r'.sc 0 = true)) (hk : wkX P ops X pd N (f.put d r) h) : wkX P ops (.alt ⟨d, op, ty, pos, aft, gd⟩ i gone X .no) pd N f h :=
  u_gC hw hx hg (hc.any hs h (N := fun r' => r' = r) (fun r' hr _ => by rw [hr]; exact ⟨stayG_same pd, hk⟩))
theorem u_gKB {g : FuncId} {args : List AV} {b : Bool} (hw : wantA ops f ⟨d, op, ty, pos, aft, gd⟩ = true) (hx : callOf f op = some (g, args)) (hg : okFn P g = true) (hs : AV.scs 0 args = true) (hc : ACalls P g args [] (fun r' _ => r' = .v (.bool b) ∧ r'.sc 0 = true)) (h1 : b = true → wkX P ops X pd N (f.put d (.v (.bool true))) h) (h2 : b = false → wkX P ops X pd N (f.put d (.v (.bool false))) h) : wkX P ops (.alt ⟨d, op, ty, pos, aft, gd⟩ i gone X .no) pd N f h :=
  u_gK hw hx hg hs hc (by cases b <;> first | exact h2 rfl | exact h1 rfl)
theorem u_gM {g : FuncId} {args : List AV} {r : AV} (hw : wantA ops f ⟨d, op, ty, pos, aft, gd⟩ = true) (hx : callOf f op = some (g, args)) (hg : okFn P g = true) (hc : ACalls P g args h (fun r' h' => r' = r ∧ h' = h)) (hk : wkX P ops X pd N (f.put d r) h) : wkX P ops (.alt ⟨d, op, ty, pos, aft, gd⟩ i gone X .no) pd N f h :=
  u_gC hw hx hg (hc.mono fun r' h' _ hh => by rw [hh.1, hh.2]; exact ⟨stayG_same pd, hk⟩)
theorem u_gMB {g : FuncId} {args : List AV} {b : Bool} (hw : wantA ops f ⟨d, op, ty, pos, aft, gd⟩ = true) (hx : callOf f op = some (g, args)) (hg : okFn P g = true) (hc : ACalls P g args h (fun r' h' => r' = .v (.bool b) ∧ h' = h)) (h1 : b = true → wkX P ops X pd N (f.put d (.v (.bool true))) h) (h2 : b = false → wkX P ops X pd N (f.put d (.v (.bool false))) h) : wkX P ops (.alt ⟨d, op, ty, pos, aft, gd⟩ i gone X .no) pd N f h :=
  u_gM hw hx hg hc (by cases b <;> first | exact h2 rfl | exact h1 rfl)
theorem is_u (op : Op) (hk : wkX P ops (.alt ⟨d, op, ty, pos, aft, gd⟩ i gone X .no) pd N f h) : wkX P ops (.alt ⟨d, op, ty, pos, aft, gd⟩ i gone X .no) pd N f h := hk
theorem is_uG {g : Nat × Bool} (op : Op) (hk : wkX P ops (.alt ⟨d, op, ty, pos, aft, some g⟩ i gone X .no) pd N f h) : wkX P ops (.alt ⟨d, op, ty, pos, aft, some g⟩ i gone X .no) pd N f h := hk
end
end Go.Az
/-
  Slices of any elements in an abstract memory, by what they hold; slices of the call's own, that are appended to and written; further operations by the values of their operands. Conditions: stated at each theorem.
-/
set_option linter.unusedSimpArgs false
set_option linter.unusedVariables false
namespace Go.Az
open Go Go.Chz

/-! ### Further operations -/
def fadOf (P : Program) (s : TypeId) (k : Nat) : Option Nat := match P.underlying s with
  | some (.struct fs) => match fs[k]? with
    | some f => match P.info? f.type with
      | some inf => if inf.size = 0 then none else some f.offset
      | none => none
    | none => none
  | _ => none
def strTy (P : Program) (t : TypeId) : Bool := match P.underlying t with
  | some .string => true
  | _ => false
section
variable {P : Program} {f : Fr} {h : Hp} {a b c : Operand} {t t' tt : TypeId} {x y n : Int} {k k0 k1 : IntKind} {r v : AV} {i o m q off : Nat} {cs vs : List AV} {ow : Bool}
theorem x_fad {fl : Nat} (hf : fadOf P t fl = some off) (ha : ev f a = .ptr i o) : exL P f h (.fieldAddr t a fl) = some (.ptr i (o + off)) := by
  simp only [exL, ha, fad]
  unfold fadOf at hf
  split at hf <;> first | (cases hf; done) | skip
  rename_i fs hu
  simp only [hu]
  split at hf <;> first | (cases hf; done) | skip
  rename_i g hg
  simp only [hg]
  split at hf <;> first | (cases hf; done) | skip
  rename_i inf hi
  simp only [hi]
  split at hf
  · cases hf
  · rename_i h0; injection hf with hf; subst hf; rw [if_neg h0]
theorem x_nilP (ha : ev f a = .ptr i o) : exL P f h (.nilCheck a) = some (.ptr i o) := by simp only [exL, ha]
theorem x_nilF {g : FuncId} {l : List AV} (ha : ev f a = .fn (.func g) l) : exL P f h (.nilCheck a) = some (.fn (.func g) l) := by simp only [exL, ha]
theorem x_nilY (ha : ev f a = .yld i) : exL P f h (.nilCheck a) = some (.yld i) := by simp only [exL, ha]
theorem x_min {ts : Array TypeId} (ha : ev f a = .v (.int k x)) (hb : ev f b = .v (.int k1 y)) : exL P f h (.call ⟨.builtin .min, #[a, b], ts⟩) = some (.v (.int k (if y < x then y else x))) := by simp [exL, ha, hb, exB]
theorem x_max {ts : Array TypeId} (ha : ev f a = .v (.int k x)) (hb : ev f b = .v (.int k1 y)) : exL P f h (.call ⟨.builtin .max, #[a, b], ts⟩) = some (.v (.int k (if y > x then y else x))) := by simp [exL, ha, hb, exB]
theorem x_eqB {z z' : Bool} (hu : P.underlying t = some .bool) (ha : ev f a = .v (.bool z)) (hb : ev f b = .v (.bool z')) : exL P f h (.binOp .eql t a b t') = some (.v (.bool (z == z'))) := by simp [exL, ha, hb, bin, aeq, hu]
theorem x_neB {z z' : Bool} (hu : P.underlying t = some .bool) (ha : ev f a = .v (.bool z)) (hb : ev f b = .v (.bool z')) : exL P f h (.binOp .neq t a b t') = some (.v (.bool (!(z == z')))) := by simp [exL, ha, hb, bin, aeq, hu]
theorem x_bin {op : BinOp} {u w : AV} (ha : ev f a = u) (hb : ev f b = w) (hr : bin P op t u w = some r) : exL P f h (.binOp op t a b t') = some r := by simp only [exL, ha, hb, hr]
theorem x_una {op : UnOp} {u : AV} (ha : ev f a = u) (hr : una op u = some r) : exL P f h (.unOp op t a) = some r := by simp only [exL, ha, hr]
theorem x_idxG {u w : AV} (ha : ev f a = u) (hb : ev f b = w) (hr : idx P t u w = some r) : exL P f h (.index t a b) = some r := by simp only [exL, ha, hb, hr]
theorem x_fldG {u : AV} {fl : Nat} (ha : ev f a = u) (hr : fld P t u fl = some r) : exL P f h (.field t a fl) = some r := by simp only [exL, ha, hr]
theorem x_cnvG {u : AV} (ha : ev f a = u) (hr : cnv P h t t' u = some r) : exL P f h (.convert t t' a) = some r := by simp only [exL, ha, hr]
theorem x_mif {u : AV} (ha : ev f a = u) (hr : mif P t u = some r) : exL P f h (.makeInterface t a) = some r := by simp only [exL, ha, hr]
theorem x_convM (hs : P.underlying t = some (.int k1)) (hd : P.underlying t' = some (.int k)) (ha : ev f a = .v (.int k0 n)) : exL P f h (.convert t t' a) = some (.v (.int k (k.wrap n))) := by simp only [exL, ha, cnv, hs, hd]
end

/-! ### Strings -/
abbrev St (l : List UInt8) : AV := .v (.string (mkB l))
section
variable {P : Program} {f : Fr} {h : Hp} {a b c : Operand} {t t' tt : TypeId} {x y n : Int} {k k0 k1 : IntKind} {r v : AV} {l l2 : List UInt8}
theorem strTy_spec (h : strTy P t = true) : P.underlying t = some .string := by
  unfold strTy at h
  split at h
  · assumption
  · cases h
theorem leq_dec (a b : List UInt8) : leq a b = decide (a = b) := leq_iff a b
theorem x_eqS (ha : ev f a = St l) (hb : ev f b = St l2) : exL P f h (.binOp .eql t a b t') = some (.v (.bool (decide (l = l2)))) := by
  simp only [exL, ha, hb, bin, sbin, leq_dec]; rfl
theorem x_neS (ha : ev f a = St l) (hb : ev f b = St l2) : exL P f h (.binOp .neq t a b t') = some (.v (.bool (!decide (l = l2)))) := by
  simp only [exL, ha, hb, bin, sbin, leq_dec]; rfl
theorem x_addS (ha : ev f a = St l) (hb : ev f b = St l2) (hl : l.length + l2.length ≤ 9223372036854775807) : exL P f h (.binOp .add t a b t') = some (St (l ++ l2)) := by
  simp only [exL, ha, hb, bin, sbin]
  rw [if_pos (show (mkB l).data.toList.length + (mkB l2).data.toList.length ≤ _ from hl)]; rfl
theorem x_lenS (hu : strTy P t = true) (ha : ev f a = St l) : exL P f h (.call ⟨.builtin .len, #[a], #[t]⟩) = some (.v (.int .i64 l.length)) := by
  simp [exL, ha, exB, lenB, strTy_spec hu, mkB]
theorem x_idxStr (hu : strTy P t = true) (ha : ev f a = St l) (hb : ev f b = .v (.int k x)) (h0 : 0 ≤ x) (h1 : x < l.length) : exL P f h (.index t a b) = some (.v (.int .u8 ((l.getD x.toNat 0).toNat : Nat))) := by
  have h2 : x.toNat < l.length := by omega
  simp only [exL, ha, hb, idx, strTy_spec hu, intOf?, h0, if_true]
  show ((l[x.toNat]?).map _) = _
  rw [List.getElem?_eq_getElem h2, List.getD_eq_getElem?_getD, List.getElem?_eq_getElem h2]; rfl
theorem x_slcS (hu : strTy P t = true) (ha : ev f a = St l) (hb : ev f b = .v (.int k x)) (hc : ev f c = .v (.int k1 y)) (h0 : 0 ≤ x) (h1 : x ≤ y) (h2 : y ≤ l.length) : exL P f h (.slice t a (some b) (some c) none) = some (St ((l.take y.toNat).drop x.toNat)) := by
  simp only [exL, ha, slc, strTy_spec hu, Option.map_some, Option.map_none, hb, hc, bnds, bnd, intOf?]
  have e1 : (mkB l).data.toList.length = l.length := rfl
  simp only [e1]
  rw [if_pos ⟨by omega, h2⟩]
  simp only []
  rw [if_pos ⟨h0, by omega⟩]
  rfl
theorem x_slcLo (hu : strTy P t = true) (ha : ev f a = St l) (hb : ev f b = .v (.int k x)) (h0 : 0 ≤ x) (h2 : x ≤ l.length) : exL P f h (.slice t a (some b) none none) = some (St (l.drop x.toNat)) := by
  simp only [exL, ha, slc, strTy_spec hu, Option.map_some, Option.map_none, hb, bnds, bnd, intOf?]
  have e1 : (mkB l).data.toList.length = l.length := rfl
  simp only [e1]
  rw [if_pos ⟨by omega, h2⟩]
  simp only []
  have e2 : (mkB l).data.toList.take l.length = l := List.take_length
  rw [e2]
theorem x_slcHi (hu : strTy P t = true) (ha : ev f a = St l) (hc : ev f c = .v (.int k y)) (h1 : 0 ≤ y) (h2 : y ≤ l.length) : exL P f h (.slice t a none (some c) none) = some (St (l.take y.toNat)) := by
  simp only [exL, ha, slc, strTy_spec hu, Option.map_some, Option.map_none, hc, bnds, bnd, intOf?]
  have e1 : (mkB l).data.toList.length = l.length := rfl
  simp only [e1]
  rw [if_pos ⟨by omega, h2⟩]
  rfl
end

/-! ### Elements -/
def EncOk {α : Type} (enc : α → List AV) (q : Nat) : Prop := ∀ x, (enc x).length = q ∧ allOne (enc x) = true
def Elts {α : Type} (enc : α → List AV) (q : Nat) (h : Hp) (s : AV) (l : List α) : Prop :=
  (s = .v (.slice none 0 0) ∧ l = []) ∨ ∃ i o c u cs t own, s = .sl i o l.length c u ∧ h[i]? = some (.cells cs t own) ∧ o + l.length * q ≤ cs.length ∧ (cs.drop o).take (l.length * q) = l.flatMap enc
def encI (k : IntKind) (x : Int) : List AV := [.v (.int k x)]
theorem encI_ok (k : IntKind) : EncOk (encI k) 1 := fun x => ⟨rfl, rfl⟩
theorem encI_map (k : IntKind) (l : List Int) : l.flatMap (encI k) = l.map fun x => .v (.int k x) := by
  induction l with
  | nil => rfl
  | cons x r ih => simp only [List.flatMap_cons, List.map_cons, ih]; rfl
theorem elts_ints {k : IntKind} {h : Hp} {s : AV} {l : List Int} : Elts (encI k) 1 h s l ↔ Ints k h s l := by
  unfold Elts Ints
  simp only [Nat.mul_one, encI_map]
section
variable {α : Type} {enc : α → List AV} {q : Nat} {h h' : Hp} {s : AV} {l l2 : List α} {d : α}
theorem flat_len (hE : EncOk enc q) : ∀ l : List α, (l.flatMap enc).length = l.length * q
  | [] => by simp
  | x :: r => by rw [List.flatMap_cons, List.length_append, flat_len hE r, (hE x).1, List.length_cons, Nat.succ_mul]; omega
theorem flat_drop (hE : EncOk enc q) : ∀ (n : Nat) (l : List α), (l.flatMap enc).drop (n * q) = (l.drop n).flatMap enc
  | 0, l => by simp
  | n + 1, [] => by simp
  | n + 1, x :: r => by
    rw [List.flatMap_cons, Nat.succ_mul, Nat.add_comm, ← List.drop_drop, List.drop_left' (hE x).1, flat_drop hE n r]; rfl
theorem flat_take (hE : EncOk enc q) : ∀ (n : Nat) (l : List α), (l.flatMap enc).take (n * q) = (l.take n).flatMap enc
  | 0, l => by simp
  | n + 1, [] => by simp
  | n + 1, x :: r => by
    rw [List.flatMap_cons, Nat.succ_mul, Nat.add_comm, List.take_append, (hE x).1, List.take_of_length_le (by rw [(hE x).1]; omega), show q + n * q - q = n * q by omega, flat_take hE n r]; rfl
theorem flat_get (hE : EncOk enc q) {n : Nat} (hn : n < l.length) : ((l.flatMap enc).drop (n * q)).take q = enc (l.getD n d) := by
  rw [flat_drop hE, List.drop_eq_getElem_cons hn, List.flatMap_cons, List.take_left' (hE _).1, List.getD_eq_getElem?_getD, List.getElem?_eq_getElem hn]; rfl
theorem allOne_append : ∀ (a b : List AV), allOne (a ++ b) = (allOne a && allOne b)
  | [], b => by simp [allOne]
  | x :: a, b => by simp only [List.cons_append, allOne, allOne_append a b, Bool.and_assoc]
theorem flat_one (hE : EncOk enc q) : ∀ l : List α, allOne (l.flatMap enc) = true
  | [] => rfl
  | x :: r => by rw [List.flatMap_cons, allOne_append, (hE x).2, flat_one hE r]; rfl
theorem flat_set (hE : EncOk enc q) : ∀ (n : Nat) (l : List α) (y : α), n < l.length → setMany (l.flatMap enc) (n * q) (enc y) = (l.set n y).flatMap enc
  | n, [], y, h => by simp at h
  | 0, x :: r, y, _ => by
    simp only [setMany, Nat.zero_mul, List.take_zero, List.nil_append, Nat.zero_add, List.flatMap_cons, List.set_cons_zero]
    rw [List.drop_left' ((hE x).1.trans (hE y).1.symm)]
  | n + 1, x :: r, y, h => by
    have ih := flat_set hE n r y (by simpa using h)
    simp only [setMany, List.flatMap_cons, List.set_cons_succ] at ih ⊢
    rw [← ih, List.append_assoc, ← List.append_assoc]
    have e1 : (n + 1) * q = q + n * q := by rw [Nat.succ_mul, Nat.add_comm]
    rw [e1, List.take_append, (hE x).1, List.take_of_length_le (by rw [(hE x).1]; omega), show q + n * q - q = n * q by omega, Nat.add_assoc]
    have e3 : (enc x ++ r.flatMap enc).drop (q + (n * q + (enc y).length)) = (r.flatMap enc).drop (n * q + (enc y).length) := by
      rw [← List.drop_drop, List.drop_left' (hE x).1]
    rw [e3]
    simp only [List.append_assoc]
theorem Elts.ext (hS : Elts enc q h s l) (x : Ext h h') : Elts enc q h' s l := by
  rcases hS with hS | ⟨i, o, c, u, cs, t, own, h1, h2, h3⟩
  · exact .inl hS
  · exact .inr ⟨i, o, c, u, cs, t, own, h1, x.get h2, h3⟩
theorem elts_get (hE : EncOk enc q) {cs : List AV} {o n : Nat} (h3 : o + l.length * q ≤ cs.length) (h4 : (cs.drop o).take (l.length * q) = l.flatMap enc) (hn : n < l.length) : (cs.drop (o + n * q)).take q = enc (l.getD n d) := by
  rw [← flat_get hE hn, ← h4, List.drop_take, List.drop_drop, List.take_take]
  have : n * q + q ≤ l.length * q := by rw [← Nat.succ_mul]; exact Nat.mul_le_mul_right q hn
  rw [Nat.min_eq_left (by omega)]
/-- An element's place (a term that does not unfold by itself). -/
noncomputable def elP (s : AV) (q : Nat) (x : Int) : AV := Classical.choose (⟨_, rfl⟩ : ∃ a : AV, a = (match s with
  | .sl i o _ _ _ => .ptr i (o + x.toNat * q)
  | _ => .v undef))
theorem elP_sl {i o n c : Nat} {u : Bool} {q : Nat} {x : Int} : elP (.sl i o n c u) q x = .ptr i (o + x.toNat * q) := Classical.choose_spec (⟨_, rfl⟩ : ∃ a : AV, a = (match (AV.sl i o n c u) with
  | .sl i o _ _ _ => .ptr i (o + x.toNat * q)
  | _ => .v undef))
noncomputable def elF (s : AV) (q : Nat) (x : Int) (off : Nat) : AV := Classical.choose (⟨_, rfl⟩ : ∃ a : AV, a = (match s with
  | .sl i o _ _ _ => .ptr i (o + x.toNat * q + off)
  | _ => .v undef))
theorem elF_sl {i o n c : Nat} {u : Bool} {q off : Nat} {x : Int} : elF (.sl i o n c u) q x off = .ptr i (o + x.toNat * q + off) := Classical.choose_spec (⟨_, rfl⟩ : ∃ a : AV, a = (match (AV.sl i o n c u) with
  | .sl i o _ _ _ => .ptr i (o + x.toNat * q + off)
  | _ => .v undef))
variable {P : Program} {f : Fr} {a b : Operand} {t : TypeId} {x : Int} {k k' : IntKind} {r : AV} {off : Nat}
theorem x_lenE {e : TypeId} {q' : Nat} (hS : Elts enc q h s l) (hu : sliOf P t = some (e, q')) (ha : ev f a = s) : exL P f h (.call ⟨.builtin .len, #[a], #[t]⟩) = some (.v (.int .i64 l.length)) := by
  unfold sliOf at hu
  split at hu
  · rename_i e' hu'
    rcases hS with ⟨rfl, rfl⟩ | ⟨i, o, c, u, cs, t', own, rfl, h2, h3⟩ <;> simp [exL, ha, exB, lenB, hu']
  · cases hu
theorem x_idxE {e : TypeId} (hS : Elts enc q h s l) (hu : sliOf P t = some (e, q)) (ha : ev f a = s) (hb : ev f b = .v (.int k' x)) (h0 : 0 ≤ x) (h1 : x < l.length) : exL P f h (.indexAddr t a b) = some (elP s q x) := by
  rcases hS with ⟨_, rfl⟩ | ⟨i, o, c, u, cs, t', own, rfl, h2, h3⟩
  · simp at h1; omega
  · rw [elP_sl]; exact x_idxS hu ha hb h0 (by omega)
theorem x_loadE (hE : EncOk enc q) (d : α) (hS : Elts enc q h s l) (hs : isAg P t q = true) (ha : ev f a = elP s q x) (h0 : 0 ≤ x) (h1 : x < l.length) : exL P f h (.load t a) = some (.agg (enc (l.getD x.toNat d))) := by
  have hn : x.toNat < l.length := by omega
  rcases hS with ⟨_, rfl⟩ | ⟨i, o, c, u, cs, t', own, rfl, h2, h3, h4⟩
  · simp at hn
  · have : x.toNat * q + q ≤ l.length * q := by rw [← Nat.succ_mul]; exact Nat.mul_le_mul_right q hn
    rw [elP_sl] at ha
    rw [x_loadA hs ha h2 (by omega), elts_get hE h3 h4 hn]
theorem x_loadF (hE : EncOk enc q) (d : α) (hS : Elts enc q h s l) (hs : isS1 P t = true) (ha : ev f a = elF s q x off) (h0 : 0 ≤ x) (h1 : x < l.length) (hr : (enc (l.getD x.toNat d))[off]? = some r) : exL P f h (.load t a) = some r := by
  have hn : x.toNat < l.length := by omega
  rcases hS with ⟨_, rfl⟩ | ⟨i, o, c, u, cs, t', own, rfl, h2, h3, h4⟩
  · simp at hn
  · rw [elF_sl] at ha
    refine x_load1 hs ha h2 ?_
    rw [← elts_get (d := d) hE h3 h4 hn, List.getElem?_take, List.getElem?_drop] at hr
    split at hr
    · exact hr
    · cases hr
theorem x_loadE1 (hE : EncOk enc 1) (d : α) (hS : Elts enc 1 h s l) (hs : isS1 P t = true) (ha : ev f a = elP s 1 x) (h0 : 0 ≤ x) (h1 : x < l.length) (hr : (enc (l.getD x.toNat d))[0]? = some r) : exL P f h (.load t a) = some r := by
  rcases hS with ⟨_, rfl⟩ | ⟨i, o, c, u, cs, t', own, rfl, h2, h3⟩
  · simp at h1; omega
  · refine x_loadF (off := 0) hE d (.inr ⟨i, o, c, u, cs, t', own, rfl, h2, h3⟩) hs ?_ h0 h1 hr
    rw [ha, elP_sl, elF_sl, Nat.add_zero]
theorem x_fadE {fl : Nat} (hf : fadOf P t fl = some off) (hS : Elts enc q h s l) (ha : ev f a = elP s q x) (h0 : 0 ≤ x) (h1 : x < l.length) : exL P f h (.fieldAddr t a fl) = some (elF s q x off) := by
  rcases hS with ⟨_, rfl⟩ | ⟨i, o, c, u, cs, t', own, rfl, h2, h3⟩
  · simp at h1; omega
  · rw [elP_sl] at ha; rw [elF_sl]; exact x_fad hf ha
theorem x_nilE (hS : Elts enc q h s l) (ha : ev f a = elP s q x) (h0 : 0 ≤ x) (h1 : x < l.length) : exL P f h (.nilCheck a) = some (elP s q x) := by
  rcases hS with ⟨_, rfl⟩ | ⟨i, o, c, u, cs, t', own, rfl, h2, h3⟩
  · simp at h1; omega
  · rw [elP_sl] at ha ⊢; exact x_nilP ha
end

/-! ### Slices of the call's own -/
def objOf : AV → Option Nat
  | .sl i _ _ _ _ => some i
  | _ => none
/-- All but one object lies as it lay. -/
def Oth (o : Option Nat) (h h' : Hp) : Prop := h.length ≤ h'.length ∧ ∀ j, j < h.length → o ≠ some j → h'[j]? = h[j]?
def Own {α : Type} (enc : α → List AV) (q : Nat) (e : TypeId) (h : Hp) (s : AV) (l : List α) : Prop :=
  (s = .v (.slice none 0 0) ∧ l = []) ∨ ∃ i o c u cs, s = .sl i o l.length c u ∧ h[i]? = some (.cells cs e true) ∧ o + l.length * q ≤ cs.length ∧ (cs.drop o).take (l.length * q) = l.flatMap enc ∧ (u = true → o = 0 ∧ c = 0) ∧ (u = false → l.length ≤ c ∧ o + c * q ≤ cs.length)
/-- Tight: no room is known to be left. -/
def Tight (s : AV) : Prop := ∀ i o n c, s = .sl i o n c false → c = n ∧ o = 0
theorem tight_nil : Tight (.v (.slice none 0 0)) := fun i o n c h => by cases h
theorem tight_u {i o n c : Nat} : Tight (.sl i o n c true) := fun i o n c h => by cases h
theorem tight_f {i n : Nat} : Tight (.sl i 0 n n false) := fun i' o n' c h => by cases h; exact ⟨rfl, rfl⟩
def elOkQ (P : Program) (e : TypeId) (q : Nat) : Bool := match tab P e, P.info? e with
  | some ti, some inf => Nat.beq ti.size q && Nat.ble ti.bytes 64 && Nat.beq inf.size q && !(Nat.beq q 0)
  | _, _ => false
section
variable {α : Type} {enc : α → List AV} {q : Nat} {e : TypeId} {h h' h'' : Hp} {s : AV} {l l2 : List α} {d : α} {o o' : Option Nat}
theorem Oth.refl (o : Option Nat) (h : Hp) : Oth o h h := ⟨Nat.le_refl _, fun _ _ _ => rfl⟩
theorem Oth.trans (a : Oth o h h') (b : Oth o' h' h'') (ho : ∀ i, o' = some i → o = some i ∨ h.length ≤ i) : Oth o h h'' :=
  ⟨Nat.le_trans a.1 b.1, fun j hj hne => by
    rw [b.2 j (Nat.lt_of_lt_of_le hj a.1) (fun e => (ho j e).elim hne (fun h1 => by omega)), a.2 j hj hne]⟩
theorem Oth.ext (a : Oth none h h') : Ext h h' := ⟨a.1, fun i hi => a.2 i hi (by simp)⟩
theorem Oth.of_ext (a : Ext h h') : Oth o h h' := ⟨a.1, fun j hj _ => a.2 j hj⟩
theorem Oth.get (a : Oth o h h') {i : Nat} {x : AObj} (hi : h[i]? = some x) (hne : o ≠ some i) : h'[i]? = some x := by
  rw [a.2 i (List.getElem?_eq_some_iff.1 hi).1 hne, hi]
theorem Own.elts (hO : Own enc q e h s l) : Elts enc q h s l := by
  rcases hO with hO | ⟨i, o, c, u, cs, h1, h2, h3, h4, _⟩
  · exact .inl hO
  · exact .inr ⟨i, o, c, u, cs, e, true, h1, h2, h3, h4⟩
theorem Own.oth (hO : Own enc q e h s l) (x : Oth o h h') (hne : ∀ i, objOf s = some i → o ≠ some i) : Own enc q e h' s l := by
  rcases hO with hO | ⟨i, o, c, u, cs, rfl, h2, h3⟩
  · exact .inl hO
  · exact .inr ⟨i, o, c, u, cs, rfl, x.get h2 (hne i rfl), h3⟩
theorem Own.ext (hO : Own enc q e h s l) (x : Ext h h') : Own enc q e h' s l := hO.oth (o := none) (Oth.of_ext x) (fun _ _ => by simp)
theorem Own.lt (hO : Own enc q e h s l) {i : Nat} (hi : objOf s = some i) : i < h.length := by
  rcases hO with ⟨rfl, _⟩ | ⟨i', o, c, u, cs, rfl, h2, h3⟩
  · cases hi
  · injection hi with hi; subst hi; exact (List.getElem?_eq_some_iff.1 h2).1
theorem Elts.oth (hO : Elts enc q h s l) (x : Oth o h h') (hne : ∀ i, objOf s = some i → o ≠ some i) : Elts enc q h' s l := by
  rcases hO with hO | ⟨i, o, c, u, cs, t, ow, rfl, h2, h3⟩
  · exact .inl hO
  · exact .inr ⟨i, o, c, u, cs, t, ow, rfl, x.get h2 (hne i rfl), h3⟩
theorem Elts.lt (hO : Elts enc q h s l) {i : Nat} (hi : objOf s = some i) : i < h.length := by
  rcases hO with ⟨rfl, _⟩ | ⟨i', o, c, u, cs, t, ow, rfl, h2, h3⟩
  · cases hi
  · injection hi with hi; subst hi; exact (List.getElem?_eq_some_iff.1 h2).1
theorem sliOf_und {P : Program} {t : TypeId} {q : Nat} (hu : sliOf P t = some (e, q)) : P.underlying t = some (.slice e) := (sliOf_spec hu).1
/-- Appended to. -/
theorem app_own' {P : Program} {t : TypeId} {H : Hp} {s u : AV} {l l2 : List α} (hE : EncOk enc q) (hu : sliOf P t = some (e, q)) (he : elOkQ P e q = true) (hG : Own enc q e H s l) (hS : Elts enc q H u l2) (hlen : l.length + l2.length ≤ 1099511627776) :
    ∃ s' H', app P H [t, t] s u = some (s', H') ∧ Own enc q e H' s' (l ++ l2) ∧ Oth (objOf s) H H' ∧ (∀ i, objOf s' = some i → objOf s = some i ∨ H.length ≤ i) ∧ (Tight s → Tight s') := by
  have hu' := sliOf_und hu
  unfold elOkQ at he
  split at he
  case h_2 => cases he
  rename_i ti inf ht hinf
  simp only [Bool.and_eq_true, Nat.beq_eq, Nat.ble_eq, Bool.not_eq_true'] at he
  obtain ⟨⟨⟨hs1, hby⟩, hi1⟩, hq0⟩ := he
  have hq : q ≠ 0 := by intro h; subst h; cases hq0
  have hsrc : srcC H q u = some (l2.length, l2.flatMap enc) := by
    rcases hS with ⟨rfl, rfl⟩ | ⟨i, o, c, u', cs, t', own, rfl, h2, h3, h4⟩
    · rfl
    · simp only [srcC, h2]
      rw [if_pos h3, h4]
  have hb : (l.length + l2.length) * ti.bytes ≤ 140737488355328 := Nat.le_trans (Nat.mul_le_mul hlen hby) (by omega)
  have hb2 : l2.length * ti.bytes ≤ 140737488355328 := Nat.le_trans (Nat.mul_le_mul (show l2.length ≤ 1099511627776 by omega) hby) (by omega)
  unfold app
  simp only [ne_eq, not_true_eq_false, if_false, hu', ht, hs1, hq, hsrc, flat_one hE, Bool.true_eq_false, Nat.zero_add]
  have fresh : ∀ (H0 : Hp), H0.length = H.length → Own enc q e (H0 ++ [.cells (l.flatMap enc ++ l2.flatMap enc) e true]) (.sl H.length 0 (l.length + l2.length) 0 true) (l ++ l2) := by
    intro H0 h0
    have e1 : (l.flatMap enc ++ l2.flatMap enc) = (l ++ l2).flatMap enc := by rw [List.flatMap_append]
    refine .inr ⟨H.length, 0, 0, true, l.flatMap enc ++ l2.flatMap enc, by rw [List.length_append], by rw [← h0]; simp, ?_, ?_, fun _ => ⟨rfl, rfl⟩, fun h => by cases h⟩
    · rw [e1, flat_len hE]; omega
    · rw [e1, List.drop_zero, List.take_of_length_le (by rw [flat_len hE]; exact Nat.le_refl _)]
  rcases hG with ⟨rfl, rfl⟩ | ⟨i, o, c, u', cs, rfl, h2, h3, h4, h5, h6⟩
  · simp only []
    by_cases h0 : l2.length = 0
    · rw [if_pos h0]
      exact ⟨_, _, rfl, .inl ⟨rfl, by simpa using h0⟩, Oth.refl _ _, fun i hi => (by cases hi), fun _ => tight_nil⟩
    · rw [if_neg h0, if_pos ⟨by omega, hb2⟩]
      refine ⟨_, _, rfl, ?_, Oth.of_ext (Ext.push _ _), fun i hi => ?_, fun _ => tight_u⟩
      · have := fresh H rfl; simpa using this
      · injection hi with hi; omega
  · cases u' with
    | false =>
      have h6 := h6 rfl
      simp only []
      by_cases hr : l.length + l2.length ≤ c
      · rw [if_pos hr]
        by_cases h0 : l2.length = 0
        · rw [if_pos h0]
          have : l2 = [] := by simpa using h0
          subst this
          refine ⟨_, _, rfl, ?_, Oth.refl _ _, fun i hi => .inl hi, fun h => h⟩
          rw [List.append_nil]
          exact .inr ⟨i, o, c, false, cs, rfl, h2, h3, h4, h5, fun _ => h6⟩
        · rw [if_neg h0, h2]
          simp only []
          have hcq : l.length * q + l2.length * q ≤ c * q := by rw [← Nat.add_mul]; exact Nat.mul_le_mul_right q hr
          rw [if_pos (by omega)]
          have hcl : (setMany cs (o + l.length * q) (l2.flatMap enc)).length = cs.length := by
            simp only [setMany, List.length_append, List.length_take, List.length_drop, flat_len hE]; omega
          refine ⟨_, _, rfl, .inr ⟨i, o, c, false, _, by rw [List.length_append], by rw [List.getElem?_set_self (List.getElem?_eq_some_iff.1 h2).1], ?_, ?_, h5, fun _ => ⟨by rw [List.length_append]; exact hr, by rw [hcl]; exact h6.2⟩⟩, ⟨by simp, fun j hj hne => ?_⟩, fun j hj => .inl hj, fun hT => absurd (hT i o _ c rfl).1 (by omega)⟩
          · rw [hcl, List.length_append, Nat.add_mul]; omega
          · rw [List.flatMap_append, ← h4, List.length_append, Nat.add_mul]
            simp only [setMany, flat_len hE]
            rw [List.append_assoc, List.drop_append, List.length_take, Nat.min_eq_left h3, show o - (o + l.length * q) = 0 by omega, List.drop_zero, List.drop_take, show o + l.length * q - o = l.length * q by omega]
            rw [List.take_append, List.length_take, List.length_drop, Nat.min_eq_left (by omega), List.take_of_length_le (by rw [List.length_take, List.length_drop]; omega), show l.length * q + l2.length * q - l.length * q = l2.length * q by omega]
            rw [List.take_left' (flat_len hE l2)]
          · rw [List.getElem?_set_ne (by intro h; subst h; exact hne rfl)]
      · have h0 : l2.length ≠ 0 := by omega
        rw [if_neg hr, if_neg h0, h2]
        simp only []
        rw [if_pos ⟨h3, by omega, hb⟩, h4]
        refine ⟨_, _, rfl, fresh H rfl, Oth.of_ext (Ext.push _ _), fun j hj => ?_, fun _ => tight_u⟩
        injection hj with hj; omega
    | true =>
      obtain ⟨rfl, rfl⟩ := h5 rfl
      simp only []
      by_cases h0 : l2.length = 0
      · have : l2 = [] := by simpa using h0
        subst this
        have hc : capOk P H e i l.length 0 = true := by
          simp only [capOk, h2, hinf, hi1, Nat.zero_add, Bool.and_eq_true, Nat.beq_eq, Nat.blt_eq, Nat.ble_eq, true_and]
          exact ⟨by omega, by omega⟩
        rw [if_pos h0, if_pos hc]
        refine ⟨_, _, rfl, ?_, Oth.refl _ _, fun i hi => .inl hi, fun _ => tight_u⟩
        rw [List.append_nil]
        exact .inr ⟨i, 0, 0, true, cs, rfl, h2, h3, h4, h5, h6⟩
      · rw [if_neg h0, h2]
        simp only []
        rw [if_pos ⟨trivial, trivial, trivial, by omega, by omega, hb⟩]
        rw [List.drop_zero] at h4
        rw [h4]
        refine ⟨_, _, rfl, fresh _ (by simp), ⟨by simp, fun j hj hne => ?_⟩, fun j hj => ?_, fun _ => tight_u⟩
        · rw [List.getElem?_append_left (by simp; exact hj), List.getElem?_set_ne (by intro h; subst h; exact hne rfl)]
        · injection hj with hj; omega
theorem setMany_len {cs vs : List AV} {off : Nat} (h : off + vs.length ≤ cs.length) : (setMany cs off vs).length = cs.length := by
  simp only [setMany, List.length_append, List.length_take, List.length_drop]; omega
theorem setMany_get {cs vs : List AV} {off j : Nat} (h : off + vs.length ≤ cs.length) : (setMany cs off vs)[j]? = if j < off then cs[j]? else if j < off + vs.length then vs[j - off]? else cs[j]? := by
  simp only [setMany]
  by_cases h1 : j < off
  · rw [if_pos h1, List.append_assoc, List.getElem?_append_left (by rw [List.length_take]; omega), List.getElem?_take, if_pos h1]
  · rw [if_neg h1]
    by_cases h2 : j < off + vs.length
    · rw [if_pos h2, List.getElem?_append_left (by rw [List.length_append, List.length_take]; omega), List.getElem?_append_right (by rw [List.length_take]; omega), List.length_take, Nat.min_eq_left (by omega)]
    · rw [if_neg h2, List.getElem?_append_right (by rw [List.length_append, List.length_take]; omega), List.length_append, List.length_take, Nat.min_eq_left (by omega), List.getElem?_drop]
      congr 1; omega
/-- An element's cells written. -/
theorem set_own {H : Hp} {n : Nat} {vs : List AV} {y : α} {off : Nat} (hE : EncOk enc q) (hG : Own enc q e H s l) (hn : n < l.length) (d : α) (hy : setMany (enc (l.getD n d)) off vs = enc y) (hv : off + vs.length ≤ q) :
    ∃ i o cs, (∃ c u, s = .sl i o l.length c u) ∧ H[i]? = some (.cells cs e true) ∧ o + n * q + off + vs.length ≤ cs.length ∧ Own enc q e (H.set i (.cells (setMany cs (o + n * q + off) vs) e true)) s (l.set n y) ∧ Oth (objOf s) H (H.set i (.cells (setMany cs (o + n * q + off) vs) e true)) := by
  rcases hG with ⟨rfl, rfl⟩ | ⟨i, o, c, u', cs, rfl, h2, h3, h4, h5, h6⟩
  · simp at hn
  · have hnq : n * q + q ≤ l.length * q := by rw [← Nat.succ_mul]; exact Nat.mul_le_mul_right q hn
    have hi := (List.getElem?_eq_some_iff.1 h2).1
    have hcl : (setMany cs (o + n * q + off) vs).length = cs.length := by
      simp only [setMany, List.length_append, List.length_take, List.length_drop]; omega
    refine ⟨i, o, cs, ⟨c, u', rfl⟩, h2, by omega, ?_, ⟨by simp, fun j hj hne => by rw [List.getElem?_set_ne (by intro h; subst h; exact hne rfl)]⟩⟩
    refine .inr ⟨i, o, c, u', _, by rw [List.length_set], by rw [List.getElem?_set_self hi], by rw [hcl, List.length_set]; exact h3, ?_, h5, fun h => by rw [hcl, List.length_set]; exact h6 h⟩
    have hl1 : ((cs.drop o).take (l.length * q)).length = l.length * q := by rw [List.length_take, List.length_drop]; omega
    have hl2 : ((cs.drop (o + n * q)).take q).length = q := by rw [List.length_take, List.length_drop]; omega
    rw [List.length_set, ← flat_set hE n l y hn, ← h4, ← hy, ← elts_get (d := d) hE h3 h4 hn]
    have hl3 : (setMany ((cs.drop (o + n * q)).take q) off vs).length = q := by rw [setMany_len (by omega), hl2]
    apply List.ext_getElem?
    intro j
    rw [setMany_get (by omega), hl3, List.getElem?_take, List.getElem?_drop, setMany_get (by omega)]
    generalize l.length * q = L at *
    generalize n * q = N at *
    by_cases c1 : j < L
    · rw [if_pos c1]
      by_cases c2 : j < N
      · rw [if_pos c2, if_pos (by omega), List.getElem?_take, if_pos c1, List.getElem?_drop]
      · rw [if_neg c2]
        by_cases c3 : j < N + q
        · rw [if_pos c3, setMany_get (by omega)]
          by_cases c4 : j - N < off
          · rw [if_pos c4, if_pos (by omega), List.getElem?_take, if_pos (by omega), List.getElem?_drop]; congr 1; omega
          · rw [if_neg c4, if_neg (by omega)]
            by_cases c5 : j - N < off + vs.length
            · rw [if_pos c5, if_pos (by omega)]; congr 1; omega
            · rw [if_neg c5, if_neg (by omega), List.getElem?_take, if_pos (by omega), List.getElem?_drop]; congr 1; omega
        · rw [if_neg c3, if_neg (by omega), if_neg (by omega), List.getElem?_take, if_pos c1, List.getElem?_drop]
    · rw [if_neg c1, if_neg (by omega), if_neg (by omega), List.getElem?_take, if_neg c1]
end
end Go.Az
/-
  Ends of functions whose results lie in cells; what lies behind a known memory; memory cut back at a function's end. Conditions: stated at each theorem.
-/
set_option linter.unusedSimpArgs false
set_option linter.unusedVariables false
namespace Go.Az
open Go Go.Chz

/-! ### Behind a known memory -/
theorem ga0 {H r : Hp} {a0 : AObj} : (H ++ a0 :: r)[H.length]? = some a0 := by rw [List.getElem?_append_right (by omega), show H.length - H.length = 0 by omega]; rfl
theorem ga1 {H r : Hp} {a0 a1 : AObj} : (H ++ a0 :: a1 :: r)[H.length + 1]? = some a1 := by rw [List.getElem?_append_right (by omega), show H.length + 1 - H.length = 1 by omega]; rfl
theorem ga2 {H r : Hp} {a0 a1 a2 : AObj} : (H ++ a0 :: a1 :: a2 :: r)[H.length + 2]? = some a2 := by rw [List.getElem?_append_right (by omega), show H.length + 2 - H.length = 2 by omega]; rfl
theorem ga3 {H r : Hp} {a0 a1 a2 a3 : AObj} : (H ++ a0 :: a1 :: a2 :: a3 :: r)[H.length + 3]? = some a3 := by rw [List.getElem?_append_right (by omega), show H.length + 3 - H.length = 3 by omega]; rfl
theorem ga4 {H r : Hp} {a0 a1 a2 a3 a4 : AObj} : (H ++ a0 :: a1 :: a2 :: a3 :: a4 :: r)[H.length + 4]? = some a4 := by rw [List.getElem?_append_right (by omega), show H.length + 4 - H.length = 4 by omega]; rfl
theorem ga5 {H r : Hp} {a0 a1 a2 a3 a4 a5 : AObj} : (H ++ a0 :: a1 :: a2 :: a3 :: a4 :: a5 :: r)[H.length + 5]? = some a5 := by rw [List.getElem?_append_right (by omega), show H.length + 5 - H.length = 5 by omega]; rfl
theorem ga6 {H r : Hp} {a0 a1 a2 a3 a4 a5 a6 : AObj} : (H ++ a0 :: a1 :: a2 :: a3 :: a4 :: a5 :: a6 :: r)[H.length + 6]? = some a6 := by rw [List.getElem?_append_right (by omega), show H.length + 6 - H.length = 6 by omega]; rfl
theorem ga7 {H r : Hp} {a0 a1 a2 a3 a4 a5 a6 a7 : AObj} : (H ++ a0 :: a1 :: a2 :: a3 :: a4 :: a5 :: a6 :: a7 :: r)[H.length + 7]? = some a7 := by rw [List.getElem?_append_right (by omega), show H.length + 7 - H.length = 7 by omega]; rfl
theorem sa0 {H r : Hp} {a0 x : AObj} : (H ++ a0 :: r).set (H.length) x = H ++ x :: r := by rw [List.set_append_right (i := H.length) x (by omega), show H.length - H.length = 0 by omega]; rfl
theorem sa1 {H r : Hp} {a0 a1 x : AObj} : (H ++ a0 :: a1 :: r).set (H.length + 1) x = H ++ a0 :: x :: r := by rw [List.set_append_right (i := H.length + 1) x (by omega), show H.length + 1 - H.length = 1 by omega]; rfl
theorem sa2 {H r : Hp} {a0 a1 a2 x : AObj} : (H ++ a0 :: a1 :: a2 :: r).set (H.length + 2) x = H ++ a0 :: a1 :: x :: r := by rw [List.set_append_right (i := H.length + 2) x (by omega), show H.length + 2 - H.length = 2 by omega]; rfl
theorem sa3 {H r : Hp} {a0 a1 a2 a3 x : AObj} : (H ++ a0 :: a1 :: a2 :: a3 :: r).set (H.length + 3) x = H ++ a0 :: a1 :: a2 :: x :: r := by rw [List.set_append_right (i := H.length + 3) x (by omega), show H.length + 3 - H.length = 3 by omega]; rfl
theorem sa4 {H r : Hp} {a0 a1 a2 a3 a4 x : AObj} : (H ++ a0 :: a1 :: a2 :: a3 :: a4 :: r).set (H.length + 4) x = H ++ a0 :: a1 :: a2 :: a3 :: x :: r := by rw [List.set_append_right (i := H.length + 4) x (by omega), show H.length + 4 - H.length = 4 by omega]; rfl
theorem sa5 {H r : Hp} {a0 a1 a2 a3 a4 a5 x : AObj} : (H ++ a0 :: a1 :: a2 :: a3 :: a4 :: a5 :: r).set (H.length + 5) x = H ++ a0 :: a1 :: a2 :: a3 :: a4 :: x :: r := by rw [List.set_append_right (i := H.length + 5) x (by omega), show H.length + 5 - H.length = 5 by omega]; rfl
theorem sa6 {H r : Hp} {a0 a1 a2 a3 a4 a5 a6 x : AObj} : (H ++ a0 :: a1 :: a2 :: a3 :: a4 :: a5 :: a6 :: r).set (H.length + 6) x = H ++ a0 :: a1 :: a2 :: a3 :: a4 :: a5 :: x :: r := by rw [List.set_append_right (i := H.length + 6) x (by omega), show H.length + 6 - H.length = 6 by omega]; rfl
theorem sa7 {H r : Hp} {a0 a1 a2 a3 a4 a5 a6 a7 x : AObj} : (H ++ a0 :: a1 :: a2 :: a3 :: a4 :: a5 :: a6 :: a7 :: r).set (H.length + 7) x = H ++ a0 :: a1 :: a2 :: a3 :: a4 :: a5 :: a6 :: x :: r := by rw [List.set_append_right (i := H.length + 7) x (by omega), show H.length + 7 - H.length = 7 by omega]; rfl
theorem ext_app (h l : Hp) : Ext h (h ++ l) := ⟨by simp, fun i hi => by rw [List.getElem?_append_left hi]⟩
theorem ext_set {h h' : Hp} {i : Nat} {o : AObj} (x : Ext h h') (hi : h.length ≤ i) : Ext h (h'.set i o) := ⟨by rw [List.length_set]; exact x.1, fun j hj => by rw [List.getElem?_set_ne (by omega), x.2 j hj]⟩
/-- What was made and is not named any more is forgotten. -/
theorem acalls_back {P : Program} {h : Hp} {g : FuncId} {args : List AV} {N : AV → Hp → Prop} (hc : ACalls P g args h (fun r h' => r.sc h.length = true ∧ Ext h h' ∧ N r h)) : ACalls P g args h N := by
  intro ρ w H hs
  refine (hc ρ w H hs).mono fun e w' hp => ?_
  obtain ⟨ρ', r, h', rfl, h2, h3, ⟨h4, hx, hn⟩, h5, h6⟩ := hp
  have e : h'.take h.length = h := by
    apply List.ext_getElem?
    intro i
    rw [List.getElem?_take]
    split
    · rename_i hi; exact hx.2 i hi
    · rename_i hi; rw [List.getElem?_eq_none (by omega)]
  have ht := h5.take h.length (fun o ho => by
    rw [e] at ho
    obtain ⟨i, hi⟩ := List.getElem?_of_mem ho
    exact H.sc i o hi)
  rw [e] at ht
  have hst := (h6.trans (Stp.take h.length h.length) (Nat.le_refl _))
  rw [e] at hst
  exact ⟨ρ', r, h, rfl, h4, Nat.le_refl _, hn, ht, hst⟩
/-- The same where an object of the call's own was turned. -/
theorem acalls_backS {P : Program} {h : Hp} {g : FuncId} {args : List AV} {N : AV → Hp → Prop} (hc : ACalls P g args h (fun r h' => ∃ h2 : Hp, r.sc h.length = true ∧ h2.length = h.length ∧ (∀ o ∈ h2, o ∈ h ∨ o.sc h.length = true) ∧ Ext h2 h' ∧ N r h2)) : ACalls P g args h N := by
  intro ρ w H hs
  refine (hc ρ w H hs).mono fun e w' hp => ?_
  obtain ⟨ρ', r, h', rfl, h2, h3, ⟨hh, h4, hl, hsc, hx, hn⟩, h5, h6⟩ := hp
  have e : h'.take h.length = hh := by
    apply List.ext_getElem?
    intro i
    rw [List.getElem?_take]
    split
    · rename_i hi; exact hx.2 i (by omega)
    · rename_i hi; rw [List.getElem?_eq_none (by omega)]
  have ht := h5.take h.length (fun o ho => by
    rw [e] at ho
    rcases hsc o ho with h7 | h7
    · obtain ⟨i, hi⟩ := List.getElem?_of_mem h7
      exact H.sc i o hi
    · exact h7)
  rw [e] at ht
  have hst := (h6.trans (Stp.take h.length h.length) (Nat.le_refl _))
  rw [e] at hst
  exact ⟨ρ', r, hh, rfl, by rw [hl]; exact h4, by omega, hn, ht, hst⟩

section
variable {P : Program} {fn : Func} {N : AV → Hp → Prop} {f : Fr} {h : Hp} {l : List AV} {v1 v2 v3 v4 : ResultVar} {r r1 r2 r3 r4 : AV} {t t' tt i o m : Nat} {cs : List AV} {ow : Bool}
/-! ### Results -/
theorem v_t (hl : l[t]? = some r) : resOne P ⟨l, []⟩ h (.tmp t) = some r := by simp only [resOne, List.getD_eq_getElem?_getD, hl, Option.getD_some]
theorem v_c1 (hs : isS1 P t' = true) (hl : l[t]? = some (.ptr i o)) (hi : h[i]? = some (.cells cs tt ow)) (hc : cs[o]? = some r) : resOne P ⟨l, []⟩ h (.cell t t') = some r := by
  have := x_load1 (f := ⟨l, []⟩) (a := .tmp t) hs (e_t hl) hi hc
  simp only [exL, e_t hl] at this
  simp only [resOne, List.getD_eq_getElem?_getD, hl, Option.getD_some, this]
theorem v_cA (hs : isAg P t' m = true) (hl : l[t]? = some (.ptr i o)) (hi : h[i]? = some (.cells cs tt ow)) (hc : o + m ≤ cs.length) : resOne P ⟨l, []⟩ h (.cell t t') = some (.agg ((cs.drop o).take m)) := by
  have := x_loadA (f := ⟨l, []⟩) (a := .tmp t) hs (e_t hl) hi hc
  simp only [exL, e_t hl] at this
  simp only [resOne, List.getD_eq_getElem?_getD, hl, Option.getD_some, this]
theorem v_cF (hs : isAg P t' m = true) (hl : l[t]? = some (.ptr i 0)) (hi : h[i]? = some (.cells cs tt ow)) (hc : cs.length = m) : resOne P ⟨l, []⟩ h (.cell t t') = some (.agg cs) := by
  rw [v_cA hs hl hi (by omega), List.drop_zero, List.take_of_length_le (by omega)]
theorem w_0 (hr : fn.results.toList = []) (hk : N (.tup []) h) : RK P fn N .ret ⟨l, []⟩ h :=
  ⟨h, _, rfl, by simp only [resA, hr, resAll], hk⟩
theorem w_1 (hr : fn.results.toList = [v1]) (h1 : resOne P ⟨l, []⟩ h v1 = some r1) (hk : N r1 h) : RK P fn N .ret ⟨l, []⟩ h :=
  ⟨h, r1, rfl, by simp only [resA, hr, resAll, h1], hk⟩
theorem w_2 (hr : fn.results.toList = [v1, v2]) (h1 : resOne P ⟨l, []⟩ h v1 = some r1) (h2 : resOne P ⟨l, []⟩ h v2 = some r2) (hk : N (.tup [r1, r2]) h) : RK P fn N .ret ⟨l, []⟩ h :=
  ⟨h, _, rfl, by simp only [resA, hr, resAll, h1, h2], hk⟩
theorem w_3 (hr : fn.results.toList = [v1, v2, v3]) (h1 : resOne P ⟨l, []⟩ h v1 = some r1) (h2 : resOne P ⟨l, []⟩ h v2 = some r2) (h3 : resOne P ⟨l, []⟩ h v3 = some r3) (hk : N (.tup [r1, r2, r3]) h) : RK P fn N .ret ⟨l, []⟩ h :=
  ⟨h, _, rfl, by simp only [resA, hr, resAll, h1, h2, h3], hk⟩
theorem w_4 (hr : fn.results.toList = [v1, v2, v3, v4]) (h1 : resOne P ⟨l, []⟩ h v1 = some r1) (h2 : resOne P ⟨l, []⟩ h v2 = some r2) (h3 : resOne P ⟨l, []⟩ h v3 = some r3) (h4 : resOne P ⟨l, []⟩ h v4 = some r4) (hk : N (.tup [r1, r2, r3, r4]) h) : RK P fn N .ret ⟨l, []⟩ h :=
  ⟨h, _, rfl, by simp only [resA, hr, resAll, h1, h2, h3, h4], hk⟩
theorem w_n (hk : RK P fn N .ret f h) : RK P fn N .normal f h := hk
end
section
variable {P : Program} {f : Fr} {h : Hp} {a b c : Operand} {t t' tt : TypeId} {i o m q off : Nat} {cs vs : List AV}
theorem x_boxA (hs : isAg P t m = true) (ha : ev f a = .agg vs) (hp : allOne vs = true) (hv : vs.length = m) : exH P f h (.box t a) = some (.ptr h.length 0, h ++ [.cells vs t true]) := by
  obtain ⟨inf, hi, h1⟩ := ag_size hs
  have e1 : (AV.agg vs).cellsL = vs := rfl
  have e2 : (AV.agg vs).cellOk = true := rfl
  simp only [exH, ha, e1, e2, newC, hi, h1, hv, if_true]
theorem s_inv {P : Program} {f : Fr} {h : Hp} {ops : Array Oper} {N : Fr → Hp → Prop} {d : Option Tmp} {ty : TypeId} {pos : String} {aft : Array Edge} {gd : Option (Nat × Bool)} {rest : List Oper} {op : Op} {t : TypeId} {name : String} {args : List AV} {g : FuncId} (hw : wantA ops f ⟨d, op, ty, pos, aft, gd⟩ = true) (hx : invOf f op = some (t, name, args))
    (hm : ∀ v w, (method (P.types.size + Made.depth) t v name).run P w = .ok (g, v) w) (hg : okFn P g = true) (hk : ACalls P g args h (fun r h' => wkO P ops rest N (f.put d r) h')) : wkO P ops (⟨d, op, ty, pos, aft, gd⟩ :: rest) N f h := by
  show (if _ then _ else _)
  rw [if_pos hw]; exact .inr (.inr (.inr (.inr (.inr ⟨t, name, args, g, hx, hm, hg, hk⟩))))
theorem x_lenX {P : Program} {f : Fr} {h : Hp} {t e q : Nat} {a : Operand} {i o n c : Nat} {u : Bool} (hu : sliOf P t = some (e, q)) (ha : ev f a = .sl i o n c u) : exL P f h (.call ⟨.builtin .len, #[a], #[t]⟩) = some (.v (.int .i64 (n : Nat))) := by
  simp [exL, ha, exB, lenB, sliOf_und hu]
theorem wrap_u8_in {n : Int} (h0 : 0 ≤ n) (h1 : n ≤ 255) : IntKind.u8.wrap n = n := IntWalk.u8_in n ⟨h0, h1⟩
theorem wrap_u32_in {n : Int} (h0 : 0 ≤ n) (h1 : n ≤ 4294967295) : IntKind.u32.wrap n = n := IntWalk.u32_in n ⟨h0, h1⟩
end
end Go.Az
/-
  What a function gives back, laid in order: one new object behind the known memory. Conditions: stated at each theorem.
-/
set_option linter.unusedSimpArgs false
set_option linter.unusedVariables false
namespace Go.Az
open Go Go.Chz

mutual
theorem ren_sc0 (σ : Nat → Nat) : ∀ a : AV, a.sc 0 = true → a.ren σ = a
  | .v _, _ => rfl
  | .ptr i _, h => by simp [AV.sc] at h
  | .sl i _ _ _ _, h => by simp [AV.sc] at h
  | .mp i, h => by simp [AV.sc] at h
  | .yld i, h => by simp [AV.sc] at h
  | .fn f cs, h => by simp only [AV.ren, rens_sc0 σ cs h]
  | .ifc t x, h => by simp only [AV.ren, ren_sc0 σ x h]
  | .agg cs, h => by simp only [AV.ren, rens_sc0 σ cs h]
  | .tup cs, h => by simp only [AV.ren, rens_sc0 σ cs h]
theorem rens_sc0 (σ : Nat → Nat) : ∀ l : List AV, AV.scs 0 l = true → AV.rens σ l = l
  | [], _ => rfl
  | a :: r, h => by
    simp only [AV.scs, Bool.and_eq_true] at h
    simp only [AV.rens, ren_sc0 σ a h.1, rens_sc0 σ r h.2]
end
theorem hrel_cut {P : Program} {ρ : Nat → Place} {h h' : Hp} {w : World} (hs : ∀ (i : Nat) (o : AObj), h[i]? = some o → o.sc h.length = true) (H : HRel P ρ h' w) (x : Ext h h') : HRel P ρ h w := by
  have e : h'.take h.length = h := by
    apply List.ext_getElem?
    intro i
    rw [List.getElem?_take]
    split
    · rename_i hi; exact x.2 i hi
    · rename_i hi; rw [List.getElem?_eq_none (by omega)]
  have := H.take h.length (fun o ho => by
    rw [e] at ho
    obtain ⟨i, hi⟩ := List.getElem?_of_mem ho
    exact hs i o hi)
  rwa [e] at this
theorem stp_cut {ρ ρ' : Nat → Place} {h h' : Hp} {w w' : World} (S : Stp h.length ρ h w ρ' h' w') (x : Ext h h') : Stp h.length ρ h w ρ' h w' := by
  have e : h'.take h.length = h := by
    apply List.ext_getElem?
    intro i
    rw [List.getElem?_take]
    split
    · rename_i hi; exact x.2 i hi
    · rename_i hi; rw [List.getElem?_eq_none (by omega)]
  have hst := (S.trans (Stp.take h.length h.length) (Nat.le_refl _))
  rwa [e] at hst
def mov (n i : Nat) : Nat → Nat := fun j => if j = n then i else j
/-- One of the new objects alone is kept, its first cells, and it gets the next number. -/
theorem post_one {P : Program} {h h' : Hp} {ρ ρ' : Nat → Place} {w w' : World} {N : AV → Hp → Prop} {i n : Nat} {cs : List AV} {e : TypeId} {r' : AV} (H : HRel P ρ h w) (hx : Ext h h') (hi : h.length ≤ i) (ho : h'[i]? = some (.cells cs e true)) (hcs : AV.scs 0 (cs.take n) = true)
    (hr' : r'.sc (h.length + 1) = true) (hn : N r' (h ++ [.cells (cs.take n) e true])) (h5 : HRel P ρ' h' w') (h6 : Stp h.length ρ h w ρ' h' w') : Post P ρ h w N (.returned ((AV.ren (mov h.length i) r').real ρ')) w' := by
  have hcut := hrel_cut H.sc h5 hx
  have hup : ∀ j, j < h.length + 1 → upd ρ' h.length (ρ' i) j = ρ' (mov h.length i j) := by
    intro j hj
    unfold mov
    by_cases e : j = h.length
    · subst e; rw [upd_same, if_pos rfl]
    · rw [upd_ne _ _ e, if_neg e]
  have hor := h5.obj i _ ho
  refine ⟨upd ρ' h.length (ρ' i), r', h ++ [.cells (cs.take n) e true], ?_, by simpa using hr', by simp, hn, ?_, ?_⟩
  · rw [real_ren, real_agree (n := h.length + 1) hup r' hr']
  · refine hcut.push ?_ (scs_mono (Nat.zero_le _) _ hcs) ?_
    · refine ⟨fun j a hj => ?_, fun _ => ?_⟩
      · rw [List.getElem?_take] at hj
        split at hj
        · rw [hor.1 j a hj]
          have ha : a.sc 0 = true := (scs_iff 0 _).1 hcs a (List.mem_of_getElem? (by rw [List.getElem?_take, if_pos (by assumption)]; exact hj))
          rw [real_agree (n := 0) (ρ := ρ') (ρ' := upd ρ' h.length (ρ' i)) (fun i hi => absurd hi (Nat.not_lt_zero i)) a ha]
        · cases hj
      · obtain ⟨h0, cur, fz, hg, hf, hm, hinf⟩ := hor.2 rfl
        exact ⟨h0, cur, fz, hg, hf, hm, fun inf hi2 => ⟨(hinf inf hi2).1, Nat.le_trans (by rw [List.length_take]; omega) (hinf inf hi2).2⟩⟩
    · intro _ j o' hj ho' _
      have hjl : j < h.length := (List.getElem?_eq_some_iff.1 hj).1
      have hj' : h'[j]? = some o' := by rw [hx.2 j hjl, hj]
      exact fun e => h5.apart i j _ o' ho hj' rfl ho' (by omega) e.symm
  · have S := stp_cut h6 hx
    refine ⟨S.os, S.tape, S.output, S.size, S.block, fun j o hj hown => ?_, fun j hj => ?_⟩
    · by_cases hjl : j < h.length
      · rw [List.getElem?_append_left hjl] at hj
        rw [upd_lt ρ' _ j hjl]
        exact S.owned j o hj hown
      · rw [List.getElem?_append_right (by omega)] at hj
        have : j - h.length = 0 := by
          rcases Nat.eq_zero_or_pos (j - h.length) with h0 | h0
          · exact h0
          · rw [List.getElem?_eq_none (by simp; omega)] at hj; cases hj
        obtain rfl : j = h.length := by omega
        rw [upd_same]
        exact h6.owned i _ ho rfl
    · rw [upd_lt ρ' _ j hj]; exact S.same j hj
/-- None of the new objects is kept; a number is passed over. -/
theorem post_pad {P : Program} {h h' : Hp} {ρ ρ' : Nat → Place} {w w' : World} {N : AV → Hp → Prop} {r : AV} (H : HRel P ρ h w) (h4 : r.sc h.length = true) (hx : Ext h h') (hn : N r (h ++ [.gone])) (h5 : HRel P ρ' h' w') (h6 : Stp h.length ρ h w ρ' h' w') : Post P ρ h w N (.returned (r.real ρ')) w' := by
  have hcut := hrel_cut H.sc h5 hx
  have S := stp_cut h6 hx
  have hp := hcut.push (o := .gone) (p := ρ' h.length) trivial rfl (fun h => by cases h)
  have hsame : upd ρ' h.length (ρ' h.length) = ρ' := by
    funext j
    by_cases e : j = h.length
    · subst e; rw [upd_same]
    · rw [upd_ne _ _ e]
  rw [hsame] at hp
  refine ⟨ρ', r, h ++ [.gone], rfl, sc_mono (by simp) r h4, by simp, hn, hp, ⟨S.os, S.tape, S.output, S.size, S.block, fun j o hj hown => ?_, S.same⟩⟩
  by_cases hjl : j < h.length
  · rw [List.getElem?_append_left hjl] at hj; exact S.owned j o hj hown
  · rw [List.getElem?_append_right (by omega)] at hj
    have : j - h.length = 0 := by
      rcases Nat.eq_zero_or_pos (j - h.length) with h0 | h0
      · exact h0
      · rw [List.getElem?_eq_none (by simp; omega)] at hj; cases hj
    rw [this] at hj
    injection hj with hj
    subst hj; cases hown
theorem acalls_or {P : Program} {h : Hp} {g : FuncId} {args : List AV} {N : AV → Hp → Prop} (p : Prop) (h1 : p → ACalls P g args h N) (h2 : ¬p → ACalls P g args h N) : ACalls P g args h N := by
  by_cases hp : p
  · exact h1 hp
  · exact h2 hp

/-! ### A slice given back -/
/-- The slice that was given back: the new object's, if any. -/
def RetS {α : Type} (enc : α → List AV) (e : TypeId) (h : Hp) (l : List α) (s : AV) (h' : Hp) : Prop :=
  (s = .v (.slice none 0 0) ∧ l = [] ∧ h' = h ++ [.gone]) ∨ ∃ c u, s = .sl h.length 0 l.length c u ∧ h' = h ++ [.cells (l.flatMap enc) e true] ∧ (u = true → c = 0) ∧ (u = false → c = l.length)
def EncP {α : Type} (enc : α → List AV) : Prop := ∀ x, AV.scs 0 (enc x) = true
theorem scs_app (n : Nat) : ∀ a b : List AV, AV.scs n (a ++ b) = (AV.scs n a && AV.scs n b)
  | [], b => by simp [AV.scs]
  | x :: a, b => by simp only [List.cons_append, AV.scs, scs_app n a b, Bool.and_assoc]
section
variable {α : Type} {enc : α → List AV} {q : Nat} {e : TypeId} {h h' : Hp} {s : AV} {l : List α}
theorem flat_sc (hp : EncP enc) : ∀ l : List α, AV.scs 0 (l.flatMap enc) = true
  | [] => rfl
  | x :: r => by rw [List.flatMap_cons, scs_app, hp x, flat_sc hp r]; rfl
theorem RetS.own (hE : EncOk enc q) (hR : RetS enc e h l s h') : Own enc q e h' s l := by
  rcases hR with ⟨rfl, rfl, rfl⟩ | ⟨c, u, rfl, rfl, h1, h2⟩
  · exact .inl ⟨rfl, rfl⟩
  · refine .inr ⟨h.length, 0, c, u, _, rfl, ga0, by rw [flat_len hE]; omega, ?_, fun hu => ⟨rfl, h1 hu⟩, fun hu => ?_⟩
    · rw [List.drop_zero, List.take_of_length_le (by rw [flat_len hE]; exact Nat.le_refl _)]
    · rw [h2 hu, flat_len hE]; omega
theorem RetS.ext (hR : RetS enc e h l s h') : Ext h h' := by
  rcases hR with ⟨rfl, rfl, rfl⟩ | ⟨c, u, rfl, rfl, h1, h2⟩ <;> exact ext_app _ _
theorem RetS.elts (hE : EncOk enc q) (hR : RetS enc e h l s h') : Elts enc q h' s l := (hR.own hE).elts
theorem RetS.shape (hR : RetS enc e h l s h') : ∃ o, h' = h ++ [o] := by
  rcases hR with ⟨rfl, rfl, rfl⟩ | ⟨c, u, rfl, rfl, h1, h2⟩ <;> exact ⟨_, rfl⟩
/-- A slice given back, with what stands beside it in the results. -/
theorem ret_own {P : Program} {g : FuncId} {args : List AV} {N : AV → Hp → Prop} (hE : EncOk enc q) (hp : EncP enc) (f : AV → AV) (hf : ∀ σ s, AV.ren σ (f s) = f (s.ren σ)) (hfs : ∀ n s, s.sc n = true → (f s).sc n = true)
    (hc : ACalls P g args h (fun r h' => ∃ l s, Ext h h' ∧ r = f s ∧ Own enc q e h' s l ∧ (∀ i, objOf s = some i → h.length ≤ i) ∧ Tight s ∧ ∀ s' h2, RetS enc e h l s' h2 → N (f s') h2)) : ACalls P g args h N := by
  intro ρ w H hs
  refine (hc ρ w H hs).mono fun en w' hp' => ?_
  obtain ⟨ρ', r, h', rfl, h2, h3, ⟨l, s, hx, rfl, hO, hfr, hT, hn⟩, h5, h6⟩ := hp'
  rcases hO with ⟨rfl, rfl⟩ | ⟨i, o, c, u, cs, rfl, ho, h7, h8, h9, h10⟩
  · exact post_pad H (hfs _ _ rfl) hx (hn _ _ (.inl ⟨rfl, rfl, rfl⟩)) h5 h6
  · have hi := hfr i rfl
    have ho0 : o = 0 := by
      cases u with
      | true => exact (h9 rfl).1
      | false => exact (hT i o _ c rfl).2
    subst ho0
    have hc' : u = false → c = l.length := fun hu => by subst hu; exact (hT i 0 _ c rfl).1
    have e1 : cs.take (l.length * q) = l.flatMap enc := by rw [← h8, List.drop_zero]
    have e2 : (.sl i 0 l.length c u : AV) = AV.ren (mov h.length i) (.sl h.length 0 l.length c u) := by simp [AV.ren, mov]
    rw [e2, ← hf]
    refine post_one (n := l.length * q) (r' := f (.sl h.length 0 l.length c u)) H hx hi ho ?_ ?_ ?_ h5 h6
    · rw [e1]; exact flat_sc hp l
    · exact hfs _ _ (by simp [AV.sc])
    · rw [e1]; exact hn _ _ (.inr ⟨c, u, rfl, rfl, fun hu => (h9 hu).2, hc'⟩)
end
theorem t_gRB {P : Program} {f : Fr} {h : Hp} {ops : Array Oper} {N : Fr → Hp → Prop} {d : Option Tmp} {op : Op} {ty : TypeId} {pos : String} {aft : Array Edge} {gd : Option (Nat × Bool)} {X : OrdX} {pd : List (Nat × Nat)} {i x : Nat} {b : Bool} (hw : wantA ops f ⟨d, op, ty, pos, aft, gd⟩ = true) (hrd : readsOf f op = [x]) (hx : exL P f h op = some (.v (.bool b))) (h1 : b = true → wkX P ops X ((i, x) :: pd) N (f.put d (.v (.bool true))) h) (h2 : b = false → wkX P ops X ((i, x) :: pd) N (f.put d (.v (.bool false))) h) : wkX P ops (.light ⟨d, op, ty, pos, aft, gd⟩ i X) pd N f h :=
  t_gR hw hrd hx (by cases b <;> first | exact h2 rfl | exact h1 rfl)
/-! ### Single cells of elements -/
section
variable {α : Type} {enc : α → List AV} {q : Nat} {l : List α} {d : α} {n off : Nat} {v r : AV}
theorem flat_get1 (hE : EncOk enc q) (d : α) (hn : n < l.length) (hr : (enc (l.getD n d))[off]? = some r) : (l.flatMap enc)[n * q + off]? = some r := by
  have h1 := flat_get (d := d) hE hn
  rw [← h1, List.getElem?_take, List.getElem?_drop] at hr
  split at hr
  · exact hr
  · cases hr
theorem flat_get0 (hE : EncOk enc q) (d : α) (hn : n < l.length) (hr : (enc (l.getD n d))[off]? = some r) : (l.flatMap enc)[0 + n * q + off]? = some r := by
  rw [Nat.zero_add]; exact flat_get1 hE d hn hr
theorem flat_set1 (hE : EncOk enc q) (d : α) {y : α} (hn : n < l.length) (ho : off < q) (hy : (enc (l.getD n d)).set off v = enc y) : (l.flatMap enc).set (n * q + off) v = (l.set n y).flatMap enc := by
  have h1 := flat_get (d := d) hE hn
  have hl : n * q + q ≤ (l.flatMap enc).length := by rw [flat_len hE, ← Nat.succ_mul]; exact Nat.mul_le_mul_right q hn
  rw [← flat_set hE n l y hn, ← hy, ← h1]
  generalize l.flatMap enc = L at *
  generalize n * q = N at *
  have hq : ((L.drop N).take q).length = q := by rw [List.length_take, List.length_drop]; omega
  have hs : (((L.drop N).take q).set off v).length = q := by rw [List.length_set, hq]
  apply List.ext_getElem?
  intro j
  rw [setMany_get (by omega), hs, List.getElem?_set]
  by_cases c1 : j < N
  · rw [if_pos c1, if_neg (by omega)]
  · rw [if_neg c1]
    by_cases c2 : j < N + q
    · rw [if_pos c2, List.getElem?_set]
      by_cases c3 : off = j - N
      · rw [if_pos c3, if_pos (by omega), if_pos (by omega), if_pos (by omega)]
      · rw [if_neg c3, if_neg (by omega), List.getElem?_take, if_pos (by omega), List.getElem?_drop]
        congr 1; omega
    · rw [if_neg c2, if_neg (by omega)]
theorem flat_lt (hE : EncOk enc q) (hn : n < l.length) (ho : off < q) : 0 + n * q + off < (l.flatMap enc).length := by
  have : n * q + q ≤ l.length * q := by rw [← Nat.succ_mul]; exact Nat.mul_le_mul_right q hn
  rw [flat_len hE]; omega
end
/-! ### A call that turns the memory into a known one -/
theorem s_gX {P : Program} {f : Fr} {h H' : Hp} {ops : Array Oper} {N : Fr → Hp → Prop} {d : Option Tmp} {op : Op} {ty : TypeId} {pos : String} {aft : Array Edge} {gd : Option (Nat × Bool)} {rest : List Oper} {g : FuncId} {args : List AV} {r : AV} (hw : wantA ops f ⟨d, op, ty, pos, aft, gd⟩ = true) (hx : callOf f op = some (g, args)) (hg : okFn P g = true) (hc : ACalls P g args h (fun r' h' => r' = r ∧ h' = H')) (hk : wkO P ops rest N (f.put d r) H') :
    wkO P ops (⟨d, op, ty, pos, aft, gd⟩ :: rest) N f h :=
  s_gC hw hx hg (hc.mono fun r' h' _ hh => by rw [hh.1, hh.2]; exact hk)
theorem ev_tmp {l : List AV} {ds : List Dq} {i : Nat} : ev ⟨l, ds⟩ (.tmp i) = l.getD i (.v undef) := rfl
theorem ev_const {f : Fr} {v : Value} : ev f (.const v) = .v v := rfl
theorem ev_func {f : Fr} {g : FuncId} : ev f (.func g) = .fn (.func g) [] := rfl
def evS (l : List AV) : Operand → Option AV
  | .tmp i => l[i]?
  | .const v => some (.v v)
  | .func g => some (.fn (.func g) [])
  | _ => none
theorem e_any {l : List AV} {ds : List Dq} {x : Operand} {r : AV} (h : evS l x = some r) : ev ⟨l, ds⟩ x = r := by
  cases x with
  | tmp i => exact e_t h
  | const v => injection h
  | func g => injection h
  | _ => cases h
/-- Appended to an empty list of the call's own: what comes out, exactly. -/
theorem app_fresh {α : Type} {enc : α → List AV} {q : Nat} {e : TypeId} {P : Program} {t : TypeId} {H : Hp} {i : Nat} {u : AV} {l2 : List α} {ow : Bool} {cs : List AV} (hE : EncOk enc q) (hu : sliOf P t = some (e, q)) (he : elOkQ P e q = true) (hi : H[i]? = some (.cells cs e ow)) (hS : Elts enc q H u l2) (hlen : l2.length ≤ 1099511627776) (h0 : l2 ≠ []) :
    app P H [t, t] (.sl i 0 0 0 false) u = some (.sl H.length 0 l2.length 0 true, H ++ [.cells (l2.flatMap enc) e true]) := by
  have hu' := sliOf_und hu
  unfold elOkQ at he
  split at he
  case h_2 => cases he
  rename_i ti inf ht hinf
  simp only [Bool.and_eq_true, Nat.beq_eq, Nat.ble_eq, Bool.not_eq_true'] at he
  obtain ⟨⟨⟨hs1, hby⟩, hi1⟩, hq0⟩ := he
  have hq : q ≠ 0 := by intro h; subst h; cases hq0
  have hsrc : srcC H q u = some (l2.length, l2.flatMap enc) := by
    rcases hS with ⟨rfl, rfl⟩ | ⟨i, o, c, u', cs, t', own, rfl, h2, h3, h4⟩
    · rfl
    · simp only [srcC, h2]
      rw [if_pos h3, h4]
  have hl : l2.length ≠ 0 := by simpa using h0
  have hb : (0 + l2.length) * ti.bytes ≤ 140737488355328 := Nat.le_trans (Nat.mul_le_mul (show 0 + l2.length ≤ 1099511627776 by omega) hby) (by omega)
  unfold app
  simp only [ne_eq, not_true_eq_false, if_false, hu', ht, hs1, hq, hsrc, flat_one hE, Bool.true_eq_false]
  rw [if_neg (by omega), if_neg hl]
  simp only [hi]
  rw [if_pos ⟨by simp, by omega, hb⟩]
  simp
theorem app_none {α : Type} {enc : α → List AV} {q : Nat} {e : TypeId} {P : Program} {t : TypeId} {H : Hp} {i : Nat} {u : AV} (hE : EncOk enc q) (hu : sliOf P t = some (e, q)) (he : elOkQ P e q = true) (hS : Elts enc q H u ([] : List α)) :
    app P H [t, t] (.sl i 0 0 0 false) u = some (.sl i 0 0 0 false, H) := by
  have hu' := sliOf_und hu
  unfold elOkQ at he
  split at he
  case h_2 => cases he
  rename_i ti inf ht hinf
  simp only [Bool.and_eq_true, Nat.beq_eq, Nat.ble_eq, Bool.not_eq_true'] at he
  obtain ⟨⟨⟨hs1, hby⟩, hi1⟩, hq0⟩ := he
  have hq : q ≠ 0 := by intro h; subst h; cases hq0
  have hsrc : srcC H q u = some (0, []) := by
    rcases hS with ⟨rfl, _⟩ | ⟨i, o, c, u', cs, t', own, rfl, h2, h3, h4⟩
    · rfl
    · simp only [srcC, h2]
      rw [if_pos h3, h4]; rfl
  unfold app
  simp only [ne_eq, not_true_eq_false, if_false, hu', ht, hs1, hq, hsrc, allOne, Bool.true_eq_false]
  simp
theorem RetS.shapeE {α : Type} {enc : α → List AV} {q : Nat} {e : TypeId} {h h' : Hp} {s : AV} {l : List α} (hE : EncOk enc q) (hR : RetS enc e h l s h') : ∃ o, h' = h ++ [o] ∧ ∀ r, Elts enc q (h ++ o :: r) s l := by
  obtain ⟨o, rfl⟩ := hR.shape
  refine ⟨o, rfl, fun r => ?_⟩
  have := (hR.elts hE).ext (ext_app _ r)
  rwa [List.append_assoc] at this
end Go.Az
/-
  Bytes, strings made of bytes, and the operations on bits. Conditions: stated at each theorem.
-/
set_option linter.unusedSimpArgs false
set_option linter.unusedVariables false
namespace Go.Az
open Go Go.Chz

/-- A number's lowest byte. -/
def b8 (n : Int) : UInt8 := UInt8.ofNat (n % 256).toNat
abbrev U8 (b : UInt8) : AV := .v (.int .u8 (b.toNat : Nat))
theorem b8_toNat (n : Int) : ((b8 n).toNat : Int) = n % 256 := by
  have h0 := Int.emod_nonneg n (show (256 : Int) ≠ 0 by omega)
  have h1 := Int.emod_lt_of_pos n (show (0 : Int) < 256 by omega)
  rw [b8, UInt8.toNat_ofNat_of_lt' (by show _ < 256; omega)]
  omega
theorem b8_nat (b : UInt8) : b8 (b.toNat : Nat) = b := by
  have h := b8_toNat (b.toNat : Nat)
  have h1 := UInt8.toNat_lt b
  refine UInt8.toNat_inj.1 ?_
  omega
theorem wrap_u8 (n : Int) : IntKind.u8.wrap n = ((b8 n).toNat : Nat) := by
  rw [b8_toNat]; rfl
theorem wrap_u32 (n : Int) : IntKind.u32.wrap n = n % 4294967296 := rfl
theorem wrap_u64 (n : Int) : IntKind.u64.wrap n = n % 18446744073709551616 := rfl
class UB (cs : List AV) (l : outParam (List UInt8)) : Prop where
  p : unB cs = some l
instance : UB [] [] := ⟨rfl⟩
instance {cs : List AV} {l : List UInt8} {b : UInt8} [x : UB cs l] : UB (U8 b :: cs) (b :: l) := ⟨by
  have e : UInt8.ofNat ((b.toNat : Int)).toNat = b := by rw [Int.toNat_natCast]; exact UInt8.ofNat_toNat
  simp only [unB, x.p, Option.map_some, e]⟩
theorem unB_map : ∀ l : List UInt8, unB (l.map U8) = some l
  | [] => rfl
  | b :: l => by
    have e : UInt8.ofNat ((b.toNat : Int)).toNat = b := by rw [Int.toNat_natCast]; exact UInt8.ofNat_toNat
    simp only [List.map_cons, unB, unB_map l, Option.map_some, e]
def orI (k : IntKind) (a b : Int) : Int := k.wrap (BitVec.ofInt k.bits a ||| BitVec.ofInt k.bits b).toNat
def andI (k : IntKind) (a b : Int) : Int := k.wrap (BitVec.ofInt k.bits a &&& BitVec.ofInt k.bits b).toNat
def xorI (k : IntKind) (a b : Int) : Int := k.wrap (BitVec.ofInt k.bits a ^^^ BitVec.ofInt k.bits b).toNat
def andnI (k : IntKind) (a b : Int) : Int := k.wrap (BitVec.ofInt k.bits a &&& ~~~BitVec.ofInt k.bits b).toNat
section
variable {P : Program} {f : Fr} {h : Hp} {t t' e tt i n c : Nat} {a b : Operand} {k k0 k1 : IntKind} {x y m : Int} {u ow : Bool} {cs : List AV} {l : List UInt8}
theorem x_convB (hs : P.underlying t = some (.int k1)) (hd : P.underlying t' = some (.int .u8)) (ha : ev f a = .v (.int k0 x)) : exL P f h (.convert t t' a) = some (U8 (b8 x)) := by
  rw [x_convM hs hd ha, wrap_u8]
theorem x_convS (hu : sliOf P t = some (e, 1)) (he : P.underlying e = some (.int .u8)) (hd : strTy P t' = true) (ha : ev f a = .sl i 0 n c u) (hi : h[i]? = some (.cells cs tt ow)) (hn : n = cs.length) (hb : unB cs = some l) : exL P f h (.convert t t' a) = some (St l) := by
  subst hn
  have h1 := (sliOf_spec hu).1
  have h2 := strTy_spec hd
  simp only [exL, ha, cnv, h1, h2, he, hi, Nat.zero_add, Nat.le_refl, if_true, List.drop_zero, List.take_length, hb, Option.map_some]
theorem x_or (ha : ev f a = .v (.int k x)) (hb : ev f b = .v (.int k y)) : exL P f h (.binOp .or t a b t') = some (.v (.int k (orI k x y))) := by
  simp [exL, ha, hb, bin, ibin, orI]
theorem x_and (ha : ev f a = .v (.int k x)) (hb : ev f b = .v (.int k y)) : exL P f h (.binOp .and t a b t') = some (.v (.int k (andI k x y))) := by
  simp [exL, ha, hb, bin, ibin, andI]
theorem x_xor (ha : ev f a = .v (.int k x)) (hb : ev f b = .v (.int k y)) : exL P f h (.binOp .xor t a b t') = some (.v (.int k (xorI k x y))) := by
  simp [exL, ha, hb, bin, ibin, xorI]
theorem x_andn (ha : ev f a = .v (.int k x)) (hb : ev f b = .v (.int k y)) : exL P f h (.binOp .andNot t a b t') = some (.v (.int k (andnI k x y))) := by
  simp [exL, ha, hb, bin, ibin, andnI]
end
end Go.Az
