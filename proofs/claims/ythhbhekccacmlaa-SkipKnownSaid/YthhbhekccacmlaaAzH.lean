/-
  Lookups, composite values, quiet builtins, and all operations that leave the memory alone: 'exL'. Conditions: stated at each theorem.
-/
import Derived.Test.YthhbhekccacmlaaAzG
set_option linter.unusedSimpArgs false
set_option linter.unusedVariables false
namespace Go.Az
open Go Go.Chz

section
variable {P : Program} {ρ : Nat → Place} {h : Hp} {w : World}

/-! ### Zero values and cells -/
def zAV (x : TI) : AV := if aggD x.d = true then .agg (x.zc.map .v) else .v (x.zc.getD 0 undef)
theorem reals_v (ρ : Nat → Place) (l : List Value) : AV.reals ρ (l.map .v) = l := by
  rw [reals_eq, List.map_map]
  exact List.map_id'' (fun _ => rfl) l
theorem scs_v (n : Nat) (l : List Value) : AV.scs n (l.map .v) = true := (scs_iff n _).2 fun a ha => by
  obtain ⟨v, _, rfl⟩ := List.mem_map.1 ha; rfl
theorem zAV_real {t : TypeId} {x : TI} (hx : tab P t = some x) (ρ : Nat → Place) (w : World) : (zeroValue t).run P w = .ok ((zAV x).real ρ) w := by
  obtain ⟨hu, inf, z, hinf, hs, hb, hz, hzc, hl, h1, hagg, hna⟩ := tab_spec hx
  have e : (zAV x).real ρ = z := by
    unfold zAV
    split
    · rename_i ha; rw [hagg ha]; simp only [AV.real, reals_v]
    · rename_i ha
      obtain ⟨_, h2⟩ := hna (by simpa using ha)
      rw [h2]; rfl
  rw [e]
  simp [zeroValue, typeInfo, hinf, hz]
theorem zAV_sc (n : Nat) (x : TI) : (zAV x).sc n = true := by
  unfold zAV
  split
  · exact scs_v n _
  · rfl
def AV.cellsL : AV → List AV
  | .agg cs => cs
  | a => [a]
theorem cellsL_real (ρ : Nat → Place) (a : AV) (h : a.one = true ∨ ∃ cs, a = .agg cs) : (a.real ρ).cells = (AV.reals ρ a.cellsL).toArray := by
  rcases h with h | ⟨cs, rfl⟩
  · cases a with
    | v x => cases x <;> first | rfl | (simp [AV.one, Value.oneCell'] at h)
    | agg cs => simp [AV.one] at h
    | tup cs => simp [AV.one] at h
    | _ => rfl
  · rfl

/-! ### Lookups -/
def mfind (d : TypeDesc) (k : Value) : List (Value × AV × Nat) → Option (Option AV)
  | [] => some none
  | e :: r => match Instr.sameNow d k e.1 with
    | some true => some (some e.2.1)
    | some false => mfind d k r
    | none => none
theorem mfind_real (ρ : Nat → Place) (d : TypeDesc) (k : Value) : ∀ (es : List (Value × AV × Nat)) (i : Nat) (r : Option AV), mfind d k es = some r →
    ∃ i', Instr.findNow d k (mapReal ρ es) i = some (r.map fun a => (i', a.real ρ))
  | [], i, r, h => by simp [mfind] at h; subst h; exact ⟨0, rfl⟩
  | e :: es, i, r, h => by
    simp only [mfind] at h
    split at h
    · rename_i hs
      injection h with h; subst h
      exact ⟨i, by simp [mapReal, Instr.findNow, hs]⟩
    · rename_i hs
      obtain ⟨i', hi'⟩ := mfind_real ρ d k es (i + 1) r h
      exact ⟨i', by simp only [mapReal, List.map_cons, Instr.findNow, hs]; exact hi'⟩
    · cases h
theorem mfind_sc {d : TypeDesc} {k : Value} {n : Nat} : ∀ {es : List (Value × AV × Nat)} {a : AV}, mfind d k es = some (some a) → es.all (fun e => e.2.1.sc n) = true → a.sc n = true
  | [], a, h, _ => by simp [mfind] at h
  | e :: es, a, h, hs => by
    simp only [List.all_cons, Bool.and_eq_true] at hs
    simp only [mfind] at h
    split at h
    · injection h with h; injection h with h; subst h; exact hs.1
    · exact mfind_sc h hs.2
    · cases h
def keyD : TypeDesc → Bool
  | .int _ => true
  | .string => true
  | _ => false
theorem run_checkKey {kt : TypeId} {kd : TypeDesc} (hu : P.underlying kt = some kd) (hk : keyD kd = true) (b : Bool) (v : Value) (w : World) : (Instr.checkKey b 10000 kt v).run P w = .ok () w := by
  rw [show (10000 : Nat) = 9999 + 1 from rfl, Instr.checkKey, Sem.run_bind, run_underlying hu w]
  cases kd <;> first | rfl | (simp [keyD] at hk)
theorem run_findKey {kt : TypeId} {kd : TypeDesc} (hu : P.underlying kt = some kd) {k : Value} {es : List (Value × AV × Nat)} {r : Option AV} (ρ : Nat → Place) (w : World) (hm : mfind kd k es = some r) :
    ∃ i', (Instr.findKey kt k (mapReal ρ es)).run P w = .ok (r.map fun a => (i', a.real ρ)) w := by
  obtain ⟨i', hi'⟩ := mfind_real ρ kd k es 0 r hm
  exact ⟨i', by simp only [Instr.findKey, Sem.run_bind, run_underlying hu w, Result.andThen_ok, hi', Sem.run_pure]⟩

def okd (ok : Bool) (v : AV) (b : Bool) : AV := if ok then .tup [v, .v (.bool b)] else v
theorem okd_real (ρ : Nat → Place) (ok : Bool) (v : AV) (b : Bool) : (okd ok v b).real ρ = (if ok then .tuple #[v.real ρ, .bool b] else v.real ρ) := by cases ok <;> rfl
theorem okd_sc (n : Nat) (ok : Bool) (v : AV) (b : Bool) (h : v.sc n = true) : (okd ok v b).sc n = true := by
  cases ok
  · exact h
  · simp [okd, AV.sc, AV.scs, h]
def lkp (P : Program) (h : Hp) (t : TypeId) (x k : AV) (ok : Bool) : Option AV :=
  match P.underlying t, x, k with
  | some (.map kt et), .mp i, .v kv =>
    match h[i]?, P.underlying kt, tab P et with
    | some (.map es _), some kd, some xe => if keyD kd = true then
        match mfind kd kv es with
        | some (some v) => some (okd ok v true)
        | some none => some (okd ok (zAV xe) false)
        | none => none
      else none
    | _, _, _ => none
  | _, _, _ => none
theorem run_lkp (H : HRel P ρ h w) {t : TypeId} {x k r : AV} {ok : Bool} (hr : lkp P h t x k ok = some r) : (Instr.lookup t (x.real ρ) (k.real ρ) ok).run P w = .ok (r.real ρ) w ∧ r.sc h.length = true := by
  unfold lkp at hr
  split at hr
  · rename_i kt et i kv hu
    split at hr
    · rename_i es ck kd xe hi hk hx
      simp only [Option.ite_none_right_eq_some] at hr
      obtain ⟨hkd, hr⟩ := hr
      have hg : w.heap[(ρ i).b]? = some (.map (mapReal ρ es).toArray ck) := H.obj i _ hi
      have hget : (getObj (ρ i).b).run P w = .ok (.map (mapReal ρ es).toArray ck) w := by simp only [getObj, Sem.run, hg]
      split at hr
      · rename_i v hm
        injection hr with hr; subst hr
        obtain ⟨i', hf⟩ := run_findKey hk ρ w hm
        simp only [Instr.lookup, AV.real, Sem.run_bind, run_underlying hu w, Result.andThen_ok, hget, Sem.run_pure, run_checkKey hk hkd, List.toList_toArray, hf, Option.map_some, okd_real]
        exact ⟨trivial, okd_sc _ _ _ _ (mfind_sc hm (H.sc i _ hi))⟩
      · rename_i hm
        injection hr with hr; subst hr
        obtain ⟨i', hf⟩ := run_findKey hk ρ w hm
        simp only [Instr.lookup, AV.real, Sem.run_bind, run_underlying hu w, Result.andThen_ok, hget, Sem.run_pure, run_checkKey hk hkd, List.toList_toArray, hf, Option.map_none, okd_real, zAV_real hx ρ w]
        exact ⟨trivial, okd_sc _ _ _ _ (zAV_sc _ _)⟩
      · cases hr
    · cases hr
  · cases hr

/-! ### Composite values -/
def setMany (cs : List AV) (off : Nat) (vs : List AV) : List AV := cs.take off ++ vs ++ cs.drop (off + vs.length)
theorem foldl_set (vs : List Value) : ∀ (cs : Array Value) (off k : Nat), off + k + vs.length ≤ cs.size →
    ((vs.zipIdx k).foldl (fun cs (c, j) => cs.setIfInBounds (off + j) c) cs) = (cs.toList.take (off + k) ++ vs ++ cs.toList.drop (off + k + vs.length)).toArray := by
  induction vs with
  | nil => intro cs off k h; simp
  | cons v vs ih =>
    intro cs off k h
    simp only [List.zipIdx_cons, List.foldl_cons]
    rw [ih (cs.setIfInBounds (off + k) v) off (k + 1) (by simp at h ⊢; omega)]
    apply Array.ext'
    simp only [Array.toList_setIfInBounds, List.toList_toArray]
    have hk : off + k < cs.toList.length := by simp at h ⊢; omega
    rw [List.set_eq_take_append_cons_drop, if_pos hk]
    have e1 : List.take (off + (k + 1)) (List.take (off + k) cs.toList ++ v :: List.drop (off + k + 1) cs.toList) = List.take (off + k) cs.toList ++ [v] := by
      rw [List.take_append]
      have : off + (k + 1) - (List.take (off + k) cs.toList).length = 1 := by rw [List.length_take]; omega
      rw [this]
      simp [List.take_take]
    have e2 : List.drop (off + (k + 1) + vs.length) (List.take (off + k) cs.toList ++ v :: List.drop (off + k + 1) cs.toList) = List.drop (off + k + (v :: vs).length) cs.toList := by
      rw [List.drop_append]
      have h1 : off + (k + 1) + vs.length - (List.take (off + k) cs.toList).length = vs.length + 1 := by rw [List.length_take]; omega
      rw [h1, List.drop_eq_nil_of_le (by rw [List.length_take]; omega), List.nil_append, List.drop_succ_cons, List.drop_drop]
      congr 1
      simp; omega
    rw [e1, e2]
    simp
def AV.cellOk : AV → Bool
  | .agg _ => true
  | a => a.one
theorem cellOk_spec {a : AV} (h : a.cellOk = true) : a.one = true ∨ ∃ cs, a = .agg cs := by
  cases a <;> first | exact .inr ⟨_, rfl⟩ | exact .inl h
def afill (place : Nat → Option (Nat × Nat)) : List AV → List (Nat × AV) → Option (List AV)
  | cells, [] => some cells
  | cells, (i, a) :: rest =>
    match place i with
    | none => none
    | some (off, size) =>
      if a.cellOk = true ∧ a.cellsL.length = size ∧ off + size ≤ cells.length then afill place (setMany cells off a.cellsL) rest
      else none
theorem afill_real (ρ : Nat → Place) (place : Nat → Option (Nat × Nat)) : ∀ (parts : List (Nat × AV)) (cells r : List AV), afill place cells parts = some r →
    Instr.fill place (AV.reals ρ cells).toArray (parts.map fun p => (p.1, p.2.real ρ)) = some (AV.reals ρ r).toArray
  | [], cells, r, h => by simp only [afill, Option.some.injEq] at h; subst h; rfl
  | (i, a) :: rest, cells, r, h => by
    simp only [afill] at h
    split at h
    · cases h
    · rename_i off size hp
      simp only [Option.ite_none_right_eq_some] at h
      obtain ⟨⟨hok, hsz, hle⟩, h⟩ := h
      have hc := cellsL_real ρ a (cellOk_spec hok)
      have hcs : (a.real ρ).cells.size = size := by rw [hc]; simp [reals_length, hsz]
      simp only [List.map_cons, Instr.fill, hp]
      have hsize : (AV.reals ρ cells).toArray.size = cells.length := by simp [reals_length]
      have e1 : ((a.real ρ).cells.size ≠ size || off + (a.real ρ).cells.size > (AV.reals ρ cells).toArray.size) = false := by
        rw [hcs, hsize]; simp; omega
      rw [e1]
      simp only [Bool.false_eq_true, if_false]
      have e2 : (a.real ρ).cells.zipIdx.foldl (fun cs (x : Value × Nat) => cs.setIfInBounds (off + x.2) x.1) (AV.reals ρ cells).toArray = (AV.reals ρ (setMany cells off a.cellsL)).toArray := by
        rw [hc]
        have := foldl_set (AV.reals ρ a.cellsL) (AV.reals ρ cells).toArray off 0 (by simp [reals_length]; omega)
        rw [← Array.foldl_toList]
        simp only [Array.toList_zipIdx, List.toList_toArray]
        refine Eq.trans this ?_
        simp only [Nat.add_zero, List.toList_toArray, setMany, reals_eq, List.map_append, List.map_take, List.map_drop, List.length_map]
      have e3 := afill_real ρ place rest _ _ h
      rw [← e2] at e3
      exact e3
theorem setMany_sc {n : Nat} {cs vs : List AV} {off : Nat} (h : AV.scs n cs = true) (hv : AV.scs n vs = true) : AV.scs n (setMany cs off vs) = true := by
  refine (scs_iff n _).2 fun a ha => ?_
  simp only [setMany, List.mem_append] at ha
  rcases ha with (ha | ha) | ha
  · exact (scs_iff n cs).1 h a (List.mem_of_mem_take ha)
  · exact (scs_iff n vs).1 hv a ha
  · exact (scs_iff n cs).1 h a (List.mem_of_mem_drop ha)
theorem cellsL_sc {n : Nat} {a : AV} (h : a.sc n = true) : AV.scs n a.cellsL = true := by
  cases a <;> first | exact h | (simp only [AV.cellsL, AV.scs, Bool.and_true]; exact h)
theorem afill_sc {n : Nat} {place : Nat → Option (Nat × Nat)} : ∀ {parts : List (Nat × AV)} {cells r : List AV}, afill place cells parts = some r → AV.scs n cells = true → (∀ p ∈ parts, p.2.sc n = true) → AV.scs n r = true
  | [], cells, r, h, hc, _ => by simp only [afill, Option.some.injEq] at h; subst h; exact hc
  | (i, a) :: rest, cells, r, h, hc, hp => by
    simp only [afill] at h
    split at h
    · cases h
    · simp only [Option.ite_none_right_eq_some] at h
      exact afill_sc h.2 (setMany_sc hc (cellsL_sc (hp (i, a) (by simp)))) (fun p hp' => hp p (by simp [hp']))

def fplaces (P : Program) : List Field → Option (List (Nat × Nat))
  | [] => some []
  | f :: r => match P.info? f.type, fplaces P r with
    | some inf, some l => some ((f.offset, inf.size) :: l)
    | _, _ => none
theorem run_fplaces (w : World) : ∀ (fs : List Field) (l : List (Nat × Nat)), fplaces P fs = some l → (fs.mapM fun f => do pure (f.offset, ← sizeOf f.type) : Sem (List (Nat × Nat))).run P w = .ok l w
  | [], l, h => by simp only [fplaces, Option.some.injEq] at h; subst h; rfl
  | f :: r, l, h => by
    simp only [fplaces] at h
    split at h
    · rename_i inf l' hi hl
      injection h with h; subst h
      have ih := run_fplaces w r l' hl
      simp only [List.mapM_cons, Sem.run_bind, run_sizeOf hi w, Result.andThen_ok, Sem.run_pure]
      rw [ih]
      rfl
    · cases h
def bld (P : Program) (t : TypeId) (parts : List (Nat × AV)) : Option AV :=
  match tab P t with
  | some x => match x.d with
    | .struct fs => match fplaces P fs.toList with
      | some pl => (afill (fun (i : Nat) => pl[i]?) (x.zc.map .v) parts).map .agg
      | none => none
    | .array _ e => match P.info? e with
      | some inf => (afill (fun i => some (i * inf.size, inf.size)) (x.zc.map .v) parts).map .agg
      | none => none
    | _ => none
  | none => none
theorem run_bld {t : TypeId} {parts : List (Nat × AV)} {r : AV} (hr : bld P t parts = some r) (ρ : Nat → Place) (w : World) :
    (Instr.build t (parts.map fun p => (p.1, p.2.real ρ)).toArray).run P w = .ok (r.real ρ) w ∧ ∀ n, (∀ p ∈ parts, p.2.sc n = true) → r.sc n = true := by
  unfold bld at hr
  split at hr
  · rename_i x hx
    obtain ⟨hu, inf, z, hinf, hs, hb, hz, hzc, hl, h1, hagg, hna⟩ := tab_spec hx
    have hzv : (zeroValue t).run P w = .ok z w := by simp [zeroValue, typeInfo, hinf, hz]
    have hcz : z.cells = (AV.reals ρ (x.zc.map .v)).toArray := by rw [hzc, reals_v]
    split at hr
    · rename_i fs hd
      split at hr
      · rename_i pl hpl
        obtain ⟨cs, hcs, rfl⟩ := Option.map_eq_some_iff.1 hr
        have hf := afill_real ρ _ _ _ _ hcs
        refine ⟨?_, fun n hn => afill_sc hcs (scs_v n _) hn⟩
        have hm := run_fplaces (P := P) w fs.toList pl hpl
        have hm' : (fs.mapM fun f => do pure (f.offset, ← sizeOf f.type) : Sem (Array (Nat × Nat))).run P w = .ok pl.toArray w := by
          rw [← Array.toArray_toList (xs := fs)]
          simp only [List.mapM_toArray, Sem.run_map, hm, Result.andThen_ok]
        have hpf : (fun (i : Nat) => pl.toArray[i]?) = fun (i : Nat) => pl[i]? := by funext i; simp
        simp only [Instr.build, Sem.run_bind, hzv, Result.andThen_ok, hu, run_underlying hu w, hd, hm', hcz]
        rw [hpf, hf]
        rfl
      · cases hr
    · rename_i n e hd
      split at hr
      · rename_i inf2 hinf2
        obtain ⟨cs, hcs, rfl⟩ := Option.map_eq_some_iff.1 hr
        have hf := afill_real ρ _ _ _ _ hcs
        refine ⟨?_, fun n hn => afill_sc hcs (scs_v n _) hn⟩
        simp only [Instr.build, Sem.run_bind, hzv, Result.andThen_ok, run_underlying hu w, hd, run_sizeOf hinf2 w, hcz, List.toList_toArray, hf]
        rfl
      · cases hr
    · cases hr
  · cases hr

/-! ### Quiet builtins -/
def lenB (P : Program) (t : TypeId) (x : AV) : Option AV :=
  match P.underlying t, x with
  | some .string, .v (.string s) => some (.v (.int .i64 (s.data.toList.length : Nat)))
  | some (.slice _), .sl _ _ n _ _ => some (.v (.int .i64 (n : Nat)))
  | some (.slice _), .v (.slice _ n _) => some (.v (.int .i64 (n : Nat)))
  | some (.array n _), _ => some (.v (.int .i64 (n : Nat)))
  | _, _ => none
def exB (P : Program) (b : Builtin) (argTypes : Array TypeId) (args : List AV) : Option AV :=
  match b, argTypes.toList, args with
  | .len, [t], [x] => lenB P t x
  | .min, _, [.v (.int k x), .v (.int _ y)] => some (.v (.int k (if y < x then y else x)))
  | .max, _, [.v (.int k x), .v (.int _ y)] => some (.v (.int k (if y > x then y else x)))
  | _, _, _ => none
theorem run_exB {b : Builtin} {ts : Array TypeId} {ty : TypeId} {cn : Array Bool} {args : List AV} {r : AV} (hr : exB P b ts args = some r) (ρ : Nat → Place) (w : World) :
    (builtin b ts ty cn (AV.reals ρ args).toArray).run P w = .ok (.value (r.real ρ)) w ∧ ∀ n, r.sc n = true := by
  unfold exB at hr
  split at hr
  · rename_i b' a2 a3 t x hts
    have hts' : ts = #[t] := by cases ts; simp_all
    subst hts'
    unfold lenB at hr
    split at hr <;> first | (cases hr; done) | skip
    all_goals
      rename_i hu
      injection hr with hr; subst hr
      simp only [builtin, Builtin.len_, AV.reals, AV.real, List.getElem?_toArray, List.getElem?_cons_zero, Sem.run_bind, run_underlying hu w, Result.andThen_ok, Sem.run_pure, goInt]
      refine ⟨?_, fun _ => rfl⟩
      try rfl
    all_goals simp
  · injection hr with hr; subst hr
    simp [builtin, Builtin.min_, Builtin.min2, AV.reals, AV.real, AV.sc]
  · injection hr with hr; subst hr
    simp [builtin, Builtin.max_, Builtin.max2, AV.reals, AV.real, AV.sc]
  · cases hr
end
end Go.Az
