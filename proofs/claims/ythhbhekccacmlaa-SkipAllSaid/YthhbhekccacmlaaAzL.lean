/-
  New rows by append and by conversion; all operations that turn the memory: 'exH'. Conditions: stated at each theorem.
-/
import Derived.Test.YthhbhekccacmlaaAzK
set_option linter.unusedSimpArgs false
set_option linter.unusedVariables false
namespace Go.Az
open Go Go.Chz Go.RowKit

section
variable {P : Program} {ρ : Nat → Place} {h : Hp} {w : World}

/-! ### Strings as bytes -/
def toB (l : List UInt8) : List AV := l.map fun b => .v (.int .u8 (b.toNat : Nat))
theorem toB_reals (ρ : Nat → Place) (l : List UInt8) : AV.reals ρ (toB l) = bcells l := by
  rw [reals_eq, toB, List.map_map]; rfl
theorem toB_sc (n : Nat) (l : List UInt8) : AV.scs n (toB l) = true := (scs_iff n _).2 fun a ha => by
  obtain ⟨_, _, rfl⟩ := List.mem_map.1 ha; rfl
def byt (P : Program) (h : Hp) (s d : TypeId) (x : AV) : Option (AV × Hp) :=
  match P.underlying s, P.underlying d, x with
  | some .string, some (.slice e), .v (.string b) => match P.underlying e, P.info? e with
    | some (.int .u8), some inf => if inf.size = 1 ∧ b.data.toList.length ≤ 9223372036854775807 then some (.sl h.length 0 b.data.toList.length 0 true, h ++ [.cells (toB b.data.toList) e true]) else none
    | _, _ => none
  | _, _, _ => none
theorem byt_ok (H : HRel P ρ h w) {s d : TypeId} {x r : AV} {h' : Hp} (hr : byt P h s d x = some (r, h')) : OutV P ρ h w r h' ((convert s d (x.real ρ)).run P w) := by
  unfold byt at hr
  split at hr
  · rename_i e b hs hd
    split at hr
    · rename_i inf he hinf
      simp only [Option.ite_none_right_eq_some, Option.some.injEq, Prod.mk.injEq] at hr
      obtain ⟨⟨h1, hm⟩, rfl, rfl⟩ := hr
      have hsz : b.data.toList.length = b.size := by simp
      have hm' : b.size ≤ maxLen := by simp only [maxLen]; omega
      have hge := grownCap_ge w b.size 0 e
      have hcm := grownCap_le_maxLen w b.size 0 e hm'
      have hbr : (bytesRow b (grownCap w b.size 0 e)).toList = bcells b.data.toList ++ List.replicate (grownCap w b.size 0 e - b.size) (Value.int .u8 0) := by
        simp [bytesRow, bcells]
      have hbs : (bytesRow b (grownCap w b.size 0 e)).size = grownCap w b.size 0 e := by
        rw [← Array.length_toList, hbr]; simp [bcells]; omega
      have hp := (H.drew).pushCells (cs := toB b.data.toList) (t := e) (cap := grownCap w b.size 0 e) (cur := bytesRow b (grownCap w b.size 0 e)) (fz := ((bytesRow b (grownCap w b.size 0 e)).size, (bytesRow b (grownCap w b.size 0 e)).size + 1)) (toB_sc _ _)
        (fun j a hj => by
          rw [← Array.getElem?_toList, hbr, List.getElem?_append_left (by have := (List.getElem?_eq_some_iff.1 hj).1; simpa [toB, bcells] using this), ← toB_reals ρ, reals_getElem?, hj]; rfl)
        (.inr (Nat.le_refl _)) hcm (fun i hi => by rw [hinf] at hi; injection hi with hi; subst hi; rw [h1, hbs]; simp [toB]; exact hge)
      refine ⟨_, _, ?_, by simp [AV.sc], by simp, hp.1, ⟨hp.2.os, hp.2.tape, hp.2.output, hp.2.size, hp.2.block, hp.2.owned, hp.2.same⟩⟩
      simp only [AV.real, upd_same, run_bytes_of_string w s d e b hs hd he, if_true, hsz, Nat.add_zero, Nat.sub_zero]
      rfl
    · cases hr
  · cases hr

/-! ### append -/
/-- The cells that are appended. -/
def srcC (h : Hp) (size : Nat) (x : AV) : Option (Nat × List AV) :=
  match x with
  | .v (.slice none 0 0) => some (0, [])
  | .sl j o m _ _ => match h[j]? with
    | some (.cells cs _ _) => if o + m * size ≤ cs.length then some (m, (cs.drop o).take (m * size)) else none
    | _ => none
  | _ => none
theorem srcC_spec (H : HRel P ρ h w) {size m : Nat} {x : AV} {news : List AV} (hr : srcC h size x = some (m, news)) :
    ∃ X d, x.real ρ = .slice X m d ∧ news.length = m * size ∧ AV.scs h.length news = true ∧ (0 < m → ∃ ad, X = some ad ∧ ∀ j u, (AV.reals ρ news)[j]? = some u → w.cell? (ad.add j) = some u) := by
  unfold srcC at hr
  split at hr
  · simp only [Option.some.injEq, Prod.mk.injEq] at hr
    obtain ⟨rfl, rfl⟩ := hr
    exact ⟨none, 0, rfl, by simp, rfl, fun h => absurd h (Nat.lt_irrefl _)⟩
  · rename_i j o m' c u
    split at hr
    · rename_i cs t ow hi
      simp only [Option.ite_none_right_eq_some, Option.some.injEq, Prod.mk.injEq] at hr
      obtain ⟨hle, rfl, rfl⟩ := hr
      refine ⟨_, _, rfl, by rw [List.length_take, List.length_drop]; omega, (scs_iff _ _).2 fun a ha => (scs_iff _ cs).1 (H.sc j _ hi) a (List.mem_of_mem_drop (List.mem_of_mem_take ha)), fun _ => ⟨_, rfl, H.range hi o (m' * size) hle⟩⟩
    · cases hr
  · cases hr

def app (P : Program) (h : Hp) (ts : List TypeId) (s x : AV) : Option (AV × Hp) :=
  match ts with
  | [t1, t2] => if t1 ≠ t2 then none else match P.underlying t1 with
    | some (.slice e) => match tab P e with
      | some ti => if ti.size = 0 then none else match srcC h ti.size x with
        | some (m, news) =>
          if allOne news = false then none else
          match s with
          | .v (.slice none 0 0) =>
            if m = 0 then some (.v (.slice none 0 0), h)
            else if m ≤ 9223372036854775807 ∧ m * ti.bytes ≤ 140737488355328 then some (.sl h.length 0 m 0 true, h ++ [.cells news e true]) else none
          | .sl i o n c false =>
            if n + m ≤ c then
              if m = 0 then some (.sl i o n c false, h) else
              match h[i]? with
              | some (.cells cs t true) => if o + n * ti.size + m * ti.size ≤ cs.length then some (.sl i o (n + m) c false, h.set i (.cells (setMany cs (o + n * ti.size) news) t true)) else none
              | _ => none
            else if m = 0 then none else
              match h[i]? with
              | some (.cells cs _ _) => if o + n * ti.size ≤ cs.length ∧ n + m ≤ 9223372036854775807 ∧ (n + m) * ti.bytes ≤ 140737488355328 then
                  some (.sl h.length 0 (n + m) 0 true, h ++ [.cells ((cs.drop o).take (n * ti.size) ++ news) e true]) else none
              | _ => none
          | .sl i o n c true =>
            if m = 0 then (if capOk P h e i n c = true then some (.sl i o n c true, h) else none) else
              match h[i]? with
              | some (.cells cs t true) => if t = e ∧ o = 0 ∧ c = 0 ∧ n * ti.size ≤ cs.length ∧ n + m ≤ 9223372036854775807 ∧ (n + m) * ti.bytes ≤ 140737488355328 then
                  some (.sl h.length 0 (n + m) 0 true, h.set i .gone ++ [.cells (cs.take (n * ti.size) ++ news) e true]) else none
              | _ => none
          | _ => none
        | none => none
      | none => none
    | _ => none
  | _ => none

theorem run_first {size m d : Nat} {X : Option Addr} {news : List Value} (hl : news.length = m * size) (hX : 0 < m → ∃ ad, X = some ad ∧ ∀ j u, news[j]? = some u → w.cell? (ad.add j) = some u) :
    (Builtin.firstCells size m (.slice X m d)).run P w = .ok news.toArray w := by
  rcases Nat.eq_zero_or_pos m with h0 | h0
  · subst h0
    have hn : news = [] := List.eq_nil_of_length_eq_zero (by simpa using hl)
    subst hn
    rcases X with _ | x <;> simp [Builtin.firstCells, loadCells, loadCellsFrom]
  · obtain ⟨ad, rfl, hc⟩ := hX h0
    exact run_firstCells_some (P := P) w size m ad m d news hl hc
theorem run_app_room {t ty e : TypeId} {inf : TypeInfo} (hu : P.underlying t = some (.slice e)) (hi : P.info? e = some inf) {A : Option Addr} {n c : Nat} {X : Option Addr} {m d : Nat} {news : List Value}
    (hl : news.length = m * inf.size) (hX : 0 < m → ∃ ad, X = some ad ∧ ∀ j u, news[j]? = some u → w.cell? (ad.add j) = some u) (hroom : n + m ≤ c) :
    (Builtin.append_ #[t, t] ty #[.slice A n c, .slice X m d]).run P w =
      (match A with
       | some a => ((storeCells (a.add (n * inf.size)) news).run P w).andThen fun _ w' => .ok (.slice A (n + m) c) w'
       | none => .ok (.slice none (n + m) c) w) := by
  have hf := run_first (P := P) (w := w) (d := d) hl hX
  rcases A with _ | a <;> simp [Builtin.append_, run_underlying hu, sizeOf, typeInfo, hi, Builtin.lenOf, hroom, hf]

/-- A new row in a new block behind a draw. -/
theorem HRel.pushRow (H : HRel P ρ h w) {cs : List AV} {e : TypeId} {inf : TypeInfo} {C N : Nat} {rest : Array Value} (hinf : P.info? e = some inf) (hs : AV.scs h.length cs = true) (hl : cs.length = N * inf.size) (hN : N ≤ C) (hC : C ≤ maxLen)
    (hr : C * inf.size ≤ cs.length + rest.size) :
    HRel P (upd ρ h.length ⟨w.heap.size, 0, C⟩) (h ++ [.cells cs e true]) (w.drew.alloc (.cells ((AV.reals ρ cs).toArray ++ rest) e)) ∧
    Stp h.length ρ h w (upd ρ h.length ⟨w.heap.size, 0, C⟩) (h ++ [.cells cs e true]) (w.drew.alloc (.cells ((AV.reals ρ cs).toArray ++ rest) e)) := by
  have hp := (H.drew).pushCells (cs := cs) (t := e) (cap := C) (cur := (AV.reals ρ cs).toArray ++ rest) (fz := (0, 0)) hs
    (fun j a hj => by
      have hlt := (List.getElem?_eq_some_iff.1 hj).1
      rw [Array.getElem?_append_left (by simp [reals_length]; exact hlt), List.getElem?_toArray, reals_getElem?, hj]; rfl)
    (.inl (Nat.le_refl _)) hC (fun i hi => by
      rw [hinf] at hi; injection hi with hi; subst hi
      simp only [Array.size_append, List.size_toArray, reals_length]
      refine ⟨hr, ?_⟩
      rw [hl]; exact Nat.mul_le_mul_right _ hN)
  exact ⟨hp.1, ⟨hp.2.os, hp.2.tape, hp.2.output, hp.2.size, hp.2.block, hp.2.owned, hp.2.same⟩⟩

theorem scs_append {n : Nat} {a b : List AV} (ha : AV.scs n a = true) (hb : AV.scs n b = true) : AV.scs n (a ++ b) = true :=
  (scs_iff n _).2 fun x hx => (List.mem_append.1 hx).elim ((scs_iff n a).1 ha x) ((scs_iff n b).1 hb x)
theorem reals_append (ρ : Nat → Place) (a b : List AV) : AV.reals ρ (a ++ b) = AV.reals ρ a ++ AV.reals ρ b := by simp [reals_eq]
theorem zeroCells_size (z : Array Value) (n : Nat) : (Builtin.zeroCells z n).size = n * z.size := by simp [Builtin.zeroCells]

theorem app_grow (H : HRel P ρ h w) {t ty e : TypeId} {ti : TI} (hu : P.underlying t = some (.slice e)) (hx : tab P e = some ti) {A : Addr} {n c m d : Nat} {X : Addr} {olds news : List AV}
    (hlo : olds.length = n * ti.size) (ho : ∀ j u, (AV.reals ρ olds)[j]? = some u → w.cell? (A.add j) = some u) (hso : AV.scs h.length olds = true)
    (hln : news.length = m * ti.size) (hn : ∀ j u, (AV.reals ρ news)[j]? = some u → w.cell? (X.add j) = some u) (hsn : AV.scs h.length news = true)
    (hg : c < n + m) (h63 : n + m ≤ 9223372036854775807) (hby : (n + m) * ti.bytes ≤ 140737488355328) :
    ∃ C w', (Builtin.append_ #[t, t] ty #[.slice (some A) n c, .slice (some X) m d]).run P w = .ok (.slice (some ⟨w.heap.size, 0, none⟩) (n + m) C) w' ∧ n + m ≤ C ∧
      HRel P (upd ρ h.length ⟨w.heap.size, 0, C⟩) (h ++ [.cells (olds ++ news) e true]) w' ∧ Stp h.length ρ h w (upd ρ h.length ⟨w.heap.size, 0, C⟩) (h ++ [.cells (olds ++ news) e true]) w' := by
  obtain ⟨hu2, inf, z, hinf, hsz, hb, hz, hzc, hl, h1, hagg, hna⟩ := tab_spec hx
  have hr := run_append_grow (P := P) w t ty e inf z hu hinf hz A n c (AV.reals ρ olds) (by rw [reals_length, hsz, hlo]) ho X m d (AV.reals ρ news) (by rw [reals_length, hsz, hln]) hn hg (by omega) (growslice_fits hg (by rw [hb]; exact hby))
  have hge := grownCap_ge w (n + m) c e
  have hcm := grownCap_le_maxLen w (n + m) c e (by simp only [maxLen]; omega)
  have hp := H.pushRow (cs := olds ++ news) (e := e) (C := grownCap w (n + m) c e) (N := n + m) (rest := Builtin.zeroCells z.cells (grownCap w (n + m) c e - (n + m))) hinf (scs_append hso hsn) (by rw [List.length_append, hlo, hln, hsz, Nat.add_mul]) hge hcm (by
    rw [zeroCells_size, hzc, List.length_append, hlo, hln, hsz, ← Nat.add_mul]
    simp only [List.size_toArray, hl, ← Nat.add_mul]
    exact Nat.mul_le_mul_right _ (by omega))
  rw [reals_append, ← List.append_toArray] at hp
  exact ⟨_, _, hr, hge, hp.1, hp.2⟩

theorem app_nil (H : HRel P ρ h w) {t ty e : TypeId} {ti : TI} (hu : P.underlying t = some (.slice e)) (hx : tab P e = some ti) {m d : Nat} {X : Addr} {news : List AV} (hm : 0 < m)
    (hln : news.length = m * ti.size) (hn : ∀ j u, (AV.reals ρ news)[j]? = some u → w.cell? (X.add j) = some u) (hsn : AV.scs h.length news = true)
    (h63 : m ≤ 9223372036854775807) (hby : m * ti.bytes ≤ 140737488355328) :
    ∃ C w', (Builtin.append_ #[t, t] ty #[.slice none 0 0, .slice (some X) m d]).run P w = .ok (.slice (some ⟨w.heap.size, 0, none⟩) m C) w' ∧ m ≤ C ∧
      HRel P (upd ρ h.length ⟨w.heap.size, 0, C⟩) (h ++ [.cells news e true]) w' ∧ Stp h.length ρ h w (upd ρ h.length ⟨w.heap.size, 0, C⟩) (h ++ [.cells news e true]) w' := by
  obtain ⟨hu2, inf, z, hinf, hsz, hb, hz, hzc, hl, h1, hagg, hna⟩ := tab_spec hx
  have hr := run_append_nil (P := P) w t ty e inf z hu hinf hz X m d (AV.reals ρ news) (by rw [reals_length, hsz, hln]) hn hm (by omega) (by rw [hb]; omega)
  have hge := grownCap_ge w m 0 e
  have hcm := grownCap_le_maxLen w m 0 e (by simp only [maxLen]; omega)
  have hp := H.pushRow (cs := news) (e := e) (C := grownCap w m 0 e) (N := m) (rest := Builtin.zeroCells z.cells (grownCap w m 0 e - m)) hinf hsn (by rw [hln, hsz]) hge hcm (by
    rw [zeroCells_size, hzc, hln, hsz]
    simp only [List.size_toArray, hl, ← Nat.add_mul]
    exact Nat.mul_le_mul_right _ (by omega))
  exact ⟨_, _, hr, hge, hp.1, hp.2⟩

theorem cells_cur (H : HRel P ρ h w) {i : Nat} {cs : List AV} {t : TypeId} (hi : h[i]? = some (.cells cs t true)) :
    (ρ i).o = 0 ∧ ∃ cur fz, w.heap[(ρ i).b]? = some (.cells cur t fz) ∧ freeRow fz cur.size ∧ (ρ i).cap ≤ maxLen ∧ (∀ inf, P.info? t = some inf → (ρ i).cap * inf.size ≤ cur.size ∧ cs.length ≤ (ρ i).cap * inf.size) ∧
      ∀ j, j < cs.length → cur.toList[j]? = (AV.reals ρ cs)[j]? := by
  obtain ⟨hcell, hown⟩ := H.obj i _ hi
  obtain ⟨h0, cur, fz, hg, hf, hm, hcap⟩ := hown rfl
  refine ⟨h0, cur, fz, hg, hf, hm, hcap, fun j hj => ?_⟩
  have := hcell j cs[j] (List.getElem?_eq_getElem hj)
  rw [h0, Nat.zero_add, cell_of_row w _ j cur t fz hg] at this
  rw [Array.getElem?_toList, this, reals_getElem?, List.getElem?_eq_getElem hj]; rfl

theorem app_own (H : HRel P ρ h w) {t ty e : TypeId} {ti : TI} (hu : P.underlying t = some (.slice e)) (hx : tab P e = some ti) (h0s : ti.size ≠ 0) {i n m d : Nat} {X : Option Addr} {cs news : List AV} (hi : h[i]? = some (.cells cs e true)) (hm0 : m ≠ 0)
    (hle : n * ti.size ≤ cs.length) (hln : news.length = m * ti.size) (hX : 0 < m → ∃ ad, X = some ad ∧ ∀ j u, (AV.reals ρ news)[j]? = some u → w.cell? (ad.add j) = some u) (hsn : AV.scs h.length news = true) (hone : allOne news = true)
    (h63 : n + m ≤ 9223372036854775807) (hby : (n + m) * ti.bytes ≤ 140737488355328) :
    OutV P ρ h w (.sl h.length 0 (n + m) 0 true) (h.set i .gone ++ [.cells (cs.take (n * ti.size) ++ news) e true])
      ((Builtin.append_ #[t, t] ty #[.slice (some ⟨(ρ i).b, (ρ i).o + 0, none⟩) n ((ρ i).cap - 0), .slice X m d]).run P w) := by
  obtain ⟨hu2, inf, z, hinf, hsz, hb, hz, hzc, hl, h1, hagg, hna⟩ := tab_spec hx
  obtain ⟨ho0, cur, fz, hg, hf, hcm, hcap, hcur⟩ := cells_cur H hi
  obtain ⟨hc1, hc2⟩ := hcap inf hinf
  have hil : i < h.length := (List.getElem?_eq_some_iff.1 hi).1
  have hsc := H.sc i _ hi
  have hnews1 : ∀ v ∈ AV.reals ρ news, v.oneCell' = true := by
    intro v hv
    rw [reals_eq] at hv
    obtain ⟨a, ha, rfl⟩ := List.mem_map.1 hv
    exact one_real ρ a ((allOne_iff news).1 hone a ha)
  rw [Nat.add_zero, Nat.sub_zero]
  have hlen : ((h.set i .gone) ++ [AObj.cells (cs.take (n * ti.size) ++ news) e true]).length = h.length + 1 := by simp
  by_cases hroom : n + m ≤ (ρ i).cap
  · -- there is room
    have hfit : n * ti.size + news.length ≤ cur.size := by
      rw [hln, ← Nat.add_mul]
      refine Nat.le_trans (Nat.mul_le_mul_right _ hroom) ?_
      rw [← hsz]; exact hc1
    obtain ⟨w', cur', hst, hg', hsz', hgr, hl'⟩ := run_storeCells_free (P := P) (ρ i).b (n * ti.size) e fz (AV.reals ρ news) 0 cur w hg hf (by rw [reals_length]; simpa using hfit) hnews1
    simp only [Nat.add_zero] at hst hl'
    have hrun := run_app_room (P := P) (w := w) (ty := ty) (d := d) hu hinf (A := some ⟨(ρ i).b, (ρ i).o, none⟩) (n := n) (c := (ρ i).cap) (X := X) (m := m) (news := AV.reals ρ news) (by rw [reals_length, hsz, hln]) hX hroom
    simp only [ho0, add0, Nat.zero_add, hsz, hst, Result.andThen_ok] at hrun
    have Hd : HRel P ρ (h.set i .gone) w' := (H.drop i).other fun j o hj hlv _ => by
      by_cases e2 : j = i
      · subst e2; rw [List.getElem?_set_self hil] at hj; injection hj with hj; subst hj; cases hlv
      · rw [List.getElem?_set_ne (Ne.symm e2)] at hj
        have hne := H.apart i j _ o hi hj rfl hlv (Ne.symm e2)
        by_cases hlt : (ρ j).b < w.heap.size
        · exact grown_hb hgr _ (Ne.symm hne) hlt
        · exact absurd (H.live_lt hj hlv) hlt
    have hlset : (h.set i AObj.gone).length = h.length := by simp
    have key : ∀ (j : Nat) (a : AV), (cs.take (n * ti.size) ++ news)[j]? = some a → cur'[j]? = some (a.real ρ) := by
      intro j a hj
      rw [← Array.getElem?_toList, hl']
      have hlt := (List.getElem?_eq_some_iff.1 hj).1
      rw [List.length_append, List.length_take, Nat.min_eq_left hle] at hlt
      have e1 : (AV.reals ρ (cs.take (n * ti.size) ++ news))[j]? = some (a.real ρ) := by rw [reals_getElem?, hj]; rfl
      rw [reals_append] at e1
      rw [List.append_assoc, ← List.append_assoc, List.getElem?_append_left (by rw [List.length_append, List.length_take, Array.length_toList, reals_length]; omega)]
      by_cases hj1 : j < n * ti.size
      · rw [List.getElem?_append_left (by rw [List.length_take, Array.length_toList]; omega), List.getElem?_take, if_pos hj1, hcur j (by omega)]
        rw [List.getElem?_append_left (by rw [reals_length, List.length_take]; omega)] at e1
        rw [reals_getElem?, List.getElem?_take, if_pos hj1] at e1
        rw [reals_getElem?]; exact e1
      · rw [List.getElem?_append_right (by rw [List.length_take, Array.length_toList]; omega), List.length_take, Array.length_toList, Nat.min_eq_left (by omega)]
        rw [List.getElem?_append_right (by rw [reals_length, List.length_take]; omega), reals_length, List.length_take, Nat.min_eq_left hle] at e1
        exact e1
    have hscn : AV.scs h.length (cs.take (n * ti.size) ++ news) = true :=
      scs_append ((scs_iff _ _).2 fun a ha => (scs_iff _ cs).1 hsc a (List.mem_of_mem_take ha)) hsn
    have Hp := Hd.push (o := .cells (cs.take (n * ti.size) ++ news) e true) (p := ⟨(ρ i).b, 0, (ρ i).cap⟩) ⟨fun j a hj => by
        have ha : a.sc h.length = true := (scs_iff _ _).1 hscn a (List.mem_of_getElem? hj)
        rw [hlset, real_agree (upd_lt ρ _) a ha, Nat.zero_add, cell_of_row w' _ j cur' e fz hg']
        exact key j a hj, fun _ => ⟨rfl, cur', fz, hg', by rw [hsz']; exact hf, hcm, fun inf2 hinf2 => by
          rw [hinf] at hinf2; injection hinf2 with hinf2; subst hinf2
          refine ⟨by rw [hsz']; exact hc1, ?_⟩
          rw [List.length_append, List.length_take, Nat.min_eq_left hle, hln, ← Nat.add_mul, hsz]
          exact Nat.mul_le_mul_right _ hroom⟩⟩ (by rw [hlset]; exact scs_mono (by omega) _ hscn) (fun _ j o hj hlv _ => by
        by_cases e2 : j = i
        · subst e2; rw [List.getElem?_set_self hil] at hj; injection hj with hj; subst hj; cases hlv
        · rw [List.getElem?_set_ne (Ne.symm e2)] at hj
          exact (H.apart i j _ o hi hj rfl hlv (Ne.symm e2)).symm)
    rw [hlset] at Hp
    refine ⟨_, w', ?_, by simp [AV.sc], by simp, Hp, ?_⟩
    · rw [ho0]
      simp only [AV.real, upd_same, if_true, Nat.add_zero, Nat.sub_zero]
      exact hrun
    · refine ⟨hgr.os, hgr.tape, hgr.output, hgr.size, fun b hlt hno => grown_hb hgr b (fun e2 => hno i _ hi rfl e2.symm) hlt, fun j o hj ho => .inl ?_, upd_lt ρ _⟩
      by_cases e2 : j < h.length
      · rw [List.getElem?_append_left (by rw [hlset]; exact e2)] at hj
        by_cases e3 : j = i
        · subst e3; rw [List.getElem?_set_self hil] at hj; injection hj with hj; subst hj; cases ho
        · rw [List.getElem?_set_ne (Ne.symm e3)] at hj
          exact ⟨j, o, hj, ho, by rw [upd_lt ρ _ j e2]⟩
      · have hj2 := (List.getElem?_eq_some_iff.1 hj).1
        rw [hlen] at hj2
        obtain rfl : j = h.length := by omega
        exact ⟨i, _, hi, rfl, by rw [upd_same]⟩
  · -- a new block
    obtain ⟨X', rfl, hX'⟩ := hX (by omega)
    have ho : ∀ j u, (AV.reals ρ (cs.take (n * ti.size)))[j]? = some u → w.cell? ((⟨(ρ i).b, (ρ i).o, none⟩ : Addr).add j) = some u := by
      have := H.range hi 0 (n * ti.size) (by omega)
      simpa using this
    obtain ⟨C, w', hrun, hge, hH, hS⟩ := app_grow H (ty := ty) (d := d) hu hx (A := ⟨(ρ i).b, (ρ i).o, none⟩) (n := n) (c := (ρ i).cap) (m := m) (X := X') (olds := cs.take (n * ti.size)) (news := news) (by rw [List.length_take]; omega) ho
      ((scs_iff _ _).2 fun a ha => (scs_iff _ cs).1 hsc a (List.mem_of_mem_take ha)) hln hX' hsn (by omega) h63 hby
    have e1 : h.set i .gone ++ [AObj.cells (cs.take (n * ti.size) ++ news) e true] = (h ++ [AObj.cells (cs.take (n * ti.size) ++ news) e true]).set i .gone := by
      rw [List.set_append_left _ _ hil]
    rw [e1]
    refine ⟨_, w', ?_, by simp [AV.sc], by simp, hH.drop i, hS.trans (Stp.drop h.length i) (Nat.le_refl _)⟩
    simp only [AV.real, upd_same, if_true, Nat.add_zero, Nat.sub_zero]
    exact hrun

theorem app_ok (H : HRel P ρ h w) {ts : List TypeId} {ty : TypeId} {s x r : AV} {h' : Hp} (hr : app P h ts s x = some (r, h')) (hss : s.sc h.length = true) :
    OutV P ρ h w r h' ((Builtin.append_ ts.toArray ty #[s.real ρ, x.real ρ]).run P w) := by
  unfold app at hr
  split at hr <;> first | (cases hr; done) | skip
  rename_i t1 t2
  split at hr
  · cases hr
  rename_i hts
  have hts : t1 = t2 := by simpa using hts
  subst hts
  split at hr <;> first | (cases hr; done) | skip
  rename_i e hu
  split at hr <;> first | (cases hr; done) | skip
  rename_i ti hx
  have hx' := hx
  obtain ⟨hu2, inf, z, hinf, hsz, hb, hz, hzc, hl, h1, hagg, hna⟩ := tab_spec hx
  split at hr
  · cases hr
  rename_i h0s
  split at hr <;> first | (cases hr; done) | skip
  rename_i m news hsrc
  obtain ⟨X, d, hxr, hln, hsn, hX⟩ := srcC_spec H hsrc
  split at hr
  · cases hr
  rename_i hone
  have hone : allOne news = true := by simpa using hone
  rw [hxr]
  have hlr : (AV.reals ρ news).length = m * inf.size := by rw [reals_length, hsz, hln]
  split at hr <;> first | (cases hr; done) | skip
  · -- nil
    split at hr
    · rename_i hm
      simp only [Option.some.injEq, Prod.mk.injEq] at hr
      obtain ⟨rfl, rfl⟩ := hr
      subst hm
      refine ⟨ρ, w, ?_, rfl, Nat.le_refl _, H, Stp.refl _ _ _ _⟩
      have := run_app_room (P := P) (w := w) (ty := ty) (d := d) hu hinf (A := none) (n := 0) (c := 0) (X := X) (m := 0) (news := AV.reals ρ news) hlr hX (Nat.le_refl _)
      exact this
    · rename_i hm
      simp only [Option.ite_none_right_eq_some, Option.some.injEq, Prod.mk.injEq] at hr
      obtain ⟨⟨h63, hby⟩, rfl, rfl⟩ := hr
      obtain ⟨X', rfl, hX'⟩ := hX (by omega)
      obtain ⟨C, w', hrun, hge, hH, hS⟩ := app_nil H (ty := ty) (d := d) hu hx (by omega) hln hX' hsn h63 hby
      refine ⟨_, w', ?_, by simp [AV.sc], by simp, hH, hS⟩
      simp only [AV.real, upd_same, if_true, Nat.add_zero, Nat.sub_zero]
      exact hrun
  · -- the capacity is known
    rename_i i o n c
    split at hr
    · rename_i hroom
      have hrun := run_app_room (P := P) (w := w) (ty := ty) (d := d) hu hinf (A := some ⟨(ρ i).b, (ρ i).o + o, none⟩) (n := n) (c := c) (X := X) (m := m) (news := AV.reals ρ news) hlr hX hroom
      split at hr
      · rename_i hm
        simp only [Option.some.injEq, Prod.mk.injEq] at hr
        obtain ⟨rfl, rfl⟩ := hr
        subst hm
        have hn0 : news = [] := List.eq_nil_of_length_eq_zero (by simpa using hln)
        subst hn0
        refine ⟨ρ, w, ?_, hss, Nat.le_refl _, H, Stp.refl _ _ _ _⟩
        simp only [AV.reals, storeCells, Sem.run_pure, Result.andThen_ok, Nat.add_zero] at hrun
        simp only [AV.real, Bool.false_eq_true, if_false]
        exact hrun
      · split at hr <;> first | (cases hr; done) | skip
        rename_i cs t hi
        simp only [Option.ite_none_right_eq_some, Option.some.injEq, Prod.mk.injEq] at hr
        obtain ⟨hle, rfl, rfl⟩ := hr
        obtain ⟨w', hst, hH, hS⟩ := H.writeCells hi (vs := news) (o := o + n * ti.size) (by omega) hone hsn
        refine ⟨ρ, w', ?_, by simpa [AV.sc] using hss, by simp, hH, hS⟩
        simp only [add0, hsz, Nat.add_assoc] at hrun hst
        rw [hst] at hrun
        simp only [AV.real, Bool.false_eq_true, if_false]
        exact hrun
    · rename_i hroom
      split at hr
      · cases hr
      rename_i hm
      split at hr <;> first | (cases hr; done) | skip
      rename_i cs t ow hi
      simp only [Option.ite_none_right_eq_some, Option.some.injEq, Prod.mk.injEq] at hr
      obtain ⟨⟨hle, h63, hby⟩, rfl, rfl⟩ := hr
      obtain ⟨X', rfl, hX'⟩ := hX (by omega)
      obtain ⟨C, w', hrun, hge, hH, hS⟩ := app_grow H (ty := ty) (d := d) hu hx (A := ⟨(ρ i).b, (ρ i).o + o, none⟩) (n := n) (c := c) (m := m) (X := X') (olds := (cs.drop o).take (n * ti.size)) (news := news)
        (by rw [List.length_take, List.length_drop]; omega) (H.range hi o (n * ti.size) hle) ((scs_iff _ _).2 fun a ha => (scs_iff _ cs).1 (H.sc i _ hi) a (List.mem_of_mem_drop (List.mem_of_mem_take ha))) hln hX' hsn (by omega) h63 hby
      refine ⟨_, w', ?_, by simp [AV.sc], by simp, hH, hS⟩
      simp only [AV.real, upd_same, if_true, Nat.add_zero, Nat.sub_zero, Bool.false_eq_true, if_false]
      exact hrun
  · -- the capacity is not known
    rename_i i o n c
    split at hr
    · rename_i hm
      simp only [Option.ite_none_right_eq_some, Option.some.injEq, Prod.mk.injEq] at hr
      obtain ⟨hcap, rfl, rfl⟩ := hr
      subst hm
      have hn0 : news = [] := List.eq_nil_of_length_eq_zero (by simpa using hln)
      subst hn0
      have hc := capOk_spec H hcap
      have hrun := run_app_room (P := P) (w := w) (ty := ty) (d := d) hu hinf (A := some ⟨(ρ i).b, (ρ i).o + o, none⟩) (n := n) (c := (ρ i).cap - c) (X := X) (m := 0) (news := AV.reals ρ []) hlr hX (by omega)
      refine ⟨ρ, w, ?_, hss, Nat.le_refl _, H, Stp.refl _ _ _ _⟩
      simp only [AV.reals, storeCells, Sem.run_pure, Result.andThen_ok, Nat.add_zero] at hrun
      simp only [AV.real, if_true]
      exact hrun
    · rename_i hm
      split at hr <;> first | (cases hr; done) | skip
      rename_i cs t hi
      simp only [Option.ite_none_right_eq_some, Option.some.injEq, Prod.mk.injEq] at hr
      obtain ⟨⟨rfl, rfl, rfl, hle, h63, hby⟩, rfl, rfl⟩ := hr
      have := app_own H (ty := ty) (d := d) hu hx h0s hi hm hle hln hX hsn hone h63 hby
      simp only [AV.real, if_true]
      exact this
end
end Go.Az
