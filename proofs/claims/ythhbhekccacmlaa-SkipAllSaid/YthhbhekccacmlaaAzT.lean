/-
  A runner over abstract memory, for closed inputs, and that what it says is a contract ('run_acalls'). Conditions: stated at each theorem.
-/
import Derived.Test.YthhbhekccacmlaaAzS
set_option linter.unusedSimpArgs false
set_option linter.unusedVariables false
namespace Go.Az
open Go Go.Chz Go.RowKit

/-! ### An order for a region -/
def lightOp (P : Program) : Op → Bool
  | .move _ | .assign _ | .pick .. | .load .. | .nilCheck _ | .binOp .. | .unOp .. | .fieldAddr .. | .field .. | .indexAddr .. | .index .. | .extract .. | .build .. | .makeInterface .. | .makeFunc .. | .lookup .. | .slice .. => true
  | .convert s d _ => match P.underlying s, P.underlying d with
    | some (.int _), some (.int _) => true
    | _, _ => false
  | .call c => match c.callee with
    | .builtin .len | .builtin .min | .builtin .max => true
    | _ => false
  | _ => false
def sched (P : Program) (ops : Array Oper) : Nat → Array Bool → List (Nat × Bool) → Option (List (Nat × Bool))
  | 0, _, acc => some acc.reverse
  | k + 1, l, acc =>
    match (Region.ready .any ops l).find? (fun i => match ops[i]? with | some o => lightOp P o.op && Region.free .any ops l i | none => false) with
    | some i => sched P ops k (l.setIfInBounds i true) ((i, true) :: acc)
    | none => match Region.ready .any ops l with
      | [i] => sched P ops k (l.setIfInBounds i true) ((i, false) :: acc)
      | _ => none

/-! ### Reckoned ahead -/
def fNat {α : Type} (n : Nat) (k : Nat → α) : α := match n with
  | 0 => k 0
  | m + 1 => k (m + 1)
def fInt {α : Type} (n : Int) (k : Int → α) : α := match n with
  | .ofNat m => fNat m fun m => k (.ofNat m)
  | .negSucc m => fNat m fun m => k (.negSucc m)
def fBool {α : Type} (b : Bool) (k : Bool → α) : α := match b with
  | true => k true
  | false => k false
def fKind {α : Type} (x : IntKind) (k : IntKind → α) : α := match x with
  | .i8 => k .i8 | .i16 => k .i16 | .i32 => k .i32 | .i64 => k .i64 | .u8 => k .u8 | .u16 => k .u16 | .u32 => k .u32 | .u64 => k .u64
def fBytes {α : Type} (l : List UInt8) (k : List UInt8 → α) : α := match l with
  | [] => k []
  | a :: r => fNat a.toNat fun n => fBytes r fun r => k (UInt8.ofNat n :: r)
def fV {α : Type} (v : Value) (k : Value → α) : α := match v with
  | .int x n => fKind x fun x => fInt n fun n => k (.int x n)
  | .bool b => fBool b fun b => k (.bool b)
  | .string s => fBytes s.data.toList fun l => k (.string (mkB l))
  | v => k v
mutual
def fA {α : Type} (a : AV) (k : AV → α) : α := match a with
  | .v x => fV x fun x => k (.v x)
  | .ptr i o => fNat i fun i => fNat o fun o => k (.ptr i o)
  | .sl i o n c u => fNat i fun i => fNat o fun o => fNat n fun n => fNat c fun c => fBool u fun u => k (.sl i o n c u)
  | .mp i => fNat i fun i => k (.mp i)
  | .yld i => fNat i fun i => k (.yld i)
  | .fn g cs => fL cs fun cs => k (.fn g cs)
  | .ifc t x => fA x fun x => k (.ifc t x)
  | .agg cs => fL cs fun cs => k (.agg cs)
  | .tup cs => fL cs fun cs => k (.tup cs)
def fL {α : Type} (l : List AV) (k : List AV → α) : α := match l with
  | [] => k []
  | a :: r => fA a fun a => fL r fun r => k (a :: r)
end
/-- The list's backbone alone. -/
def fS {β α : Type} (l : List β) (k : List β → α) : α := match l with
  | [] => k []
  | a :: r => fS r fun r => k (a :: r)
def fM {α : Type} (l : List (Value × AV × Nat)) (k : List (Value × AV × Nat) → α) : α := match l with
  | [] => k []
  | (a, b, c) :: r => fV a fun a => fA b fun b => fNat c fun c => fM r fun r => k ((a, b, c) :: r)
def fO {α : Type} (o : AObj) (k : AObj → α) : α := match o with
  | .gone => k .gone
  | .cells cs t own => fL cs fun cs => fBool own fun own => k (.cells cs t own)
  | .map es c => fM es fun es => fNat c fun c => k (.map es c)
  | .loop st pe tm ps asg bd d => k (.loop st pe tm ps asg bd d)
  | .dfr => k .dfr
/-- The objects with these numbers. -/
def fH {α : Type} (l : List Nat) (h : Hp) (k : Hp → α) : α := match l with
  | [] => fS h k
  | i :: r => match h[i]? with
    | some o => fO o fun o => fH r (h.set i o) k
    | none => fH r h k
theorem fNat_eq {α : Type} (n : Nat) (k : Nat → α) : fNat n k = k n := by cases n <;> rfl
theorem fInt_eq {α : Type} (n : Int) (k : Int → α) : fInt n k = k n := by cases n <;> simp only [fInt, fNat_eq]
theorem fBool_eq {α : Type} (n : Bool) (k : Bool → α) : fBool n k = k n := by cases n <;> rfl
theorem fKind_eq {α : Type} (n : IntKind) (k : IntKind → α) : fKind n k = k n := by cases n <;> rfl
theorem fBytes_eq {α : Type} : ∀ (l : List UInt8) (k : List UInt8 → α), fBytes l k = k l
  | [], k => rfl
  | a :: r, k => by
    have e : UInt8.ofNat a.toNat = a := by simp
    simp only [fBytes, fNat_eq, fBytes_eq r, e]
theorem fV_eq {α : Type} (v : Value) (k : Value → α) : fV v k = k v := by
  cases v <;> simp only [fV, fKind_eq, fInt_eq, fBool_eq, fBytes_eq]
  rfl
mutual
theorem fA_eq {α : Type} : ∀ (a : AV) (k : AV → α), fA a k = k a
  | .v x, k => by simp only [fA, fV_eq]
  | .ptr i o, k => by simp only [fA, fNat_eq]
  | .sl i o n c u, k => by simp only [fA, fNat_eq, fBool_eq]
  | .mp i, k => by simp only [fA, fNat_eq]
  | .yld i, k => by simp only [fA, fNat_eq]
  | .fn g cs, k => by simp only [fA, fL_eq cs]
  | .ifc t x, k => by simp only [fA, fA_eq x]
  | .agg cs, k => by simp only [fA, fL_eq cs]
  | .tup cs, k => by simp only [fA, fL_eq cs]
theorem fL_eq {α : Type} : ∀ (l : List AV) (k : List AV → α), fL l k = k l
  | [], k => rfl
  | a :: r, k => by simp only [fL, fA_eq a, fL_eq r]
end
theorem fS_eq {β α : Type} : ∀ (l : List β) (k : List β → α), fS l k = k l
  | [], k => rfl
  | a :: r, k => by simp only [fS, fS_eq r]
theorem fM_eq {α : Type} : ∀ (l : List (Value × AV × Nat)) (k : List (Value × AV × Nat) → α), fM l k = k l
  | [], k => rfl
  | (a, b, c) :: r, k => by simp only [fM, fV_eq, fA_eq, fNat_eq, fM_eq r]
theorem fO_eq {α : Type} (o : AObj) (k : AObj → α) : fO o k = k o := by cases o <;> simp only [fO, fL_eq, fBool_eq, fM_eq, fNat_eq]
theorem fH_eq {α : Type} : ∀ (l : List Nat) (h : Hp) (k : Hp → α), fH l h k = k h
  | [], h, k => fS_eq h k
  | i :: r, h, k => by
    simp only [fH]
    split
    · rename_i o hi
      obtain ⟨hlt, rfl⟩ := List.getElem?_eq_some_iff.1 hi
      rw [fO_eq, List.set_getElem_self, fH_eq r]
    · rw [fH_eq r]

/-! ### The runner -/
def fFr {α : Type} (f : Fr) (k : Fr → α) : α := fS f.t fun t => k ⟨t, f.ds⟩
theorem fFr_eq {α : Type} (f : Fr) (k : Fr → α) : fFr f k = k f := by simp only [fFr, fS_eq]
def xL (ops : Array Oper) (xo : Oper → Fr → Hp → Option (AV × Hp)) : List Nat → Fr → Hp → Option (Fr × Hp)
  | [], f, h => some (f, h)
  | i :: r, f, h => match ops[i]? with
    | none => xL ops xo r f h
    | some o => match wantA ops f o with
      | true => match xo o f h with
        | some (v, h') => fA v fun v => fFr (f.put o.dst v) fun f' => xL ops xo r f' h'
        | none => none
      | false => fFr (f.put o.dst (.v undef)) fun f' => xL ops xo r f' h
def xD (P : Program) (ops : Array Oper) (xo : Oper → Fr → Hp → Option (AV × Hp)) (h0 : Hp) : List (Nat × Bool) → Fr → Hp → List Nat → List Hp → Option (Fr × Hp × List Nat × List Hp)
  | [], f, h, us, hs => some (f, h, us, hs)
  | (i, true) :: r, f, h, us, hs => match ops[i]? with
    | none => none
    | some o => match wantA ops f o with
      | true => match exL P f (padH h0 h) o.op with
        | some v => fA v fun v => fFr (f.put o.dst v) fun f' => xD P ops xo h0 r f' h (readsOf f o.op ++ us) hs
        | none => none
      | false => fFr (f.put o.dst (.v undef)) fun f' => xD P ops xo h0 r f' h us hs
  | (i, false) :: r, f, h, us, hs => match ops[i]? with
    | none => none
    | some o => match wantA ops f o with
      | true => match xo o f h with
        | some (v, h') => fA v fun v => fFr (f.put o.dst v) fun f' => xD P ops xo h0 r f' h' us (h' :: hs)
        | none => none
      | false => fFr (f.put o.dst (.v undef)) fun f' => xD P ops xo h0 r f' h us hs
def stays (h : Hp) (us : List Nat) (h' : Hp) : Bool := us.all fun i => match h[i]?, h'[i]? with
  | some a, some b => sameO a b
  | none, _ => true
  | _, _ => false
def xR (P : Program) (ops : Array Oper) (xo : Oper → Fr → Hp → Option (AV × Hp)) (f : Fr) (h : Hp) : Option (Fr × Hp) :=
  match sched P ops ops.size (Array.replicate ops.size false) [] with
  | some l => match ordOk ops l with
    | true => match xD P ops xo h l f h [] [] with
      | some (f', h', us, hs) => match hs.all (stays h us) with
        | true => some (f', h')
        | false => none
      | none => none
    | false => none
  | none => none
/-- The numbers of the objects that an operation may turn. -/
def touched (f : Fr) (h : Hp) (op : Op) : List Nat :=
  match op with
  | .store _ a _ => match ev f a with
    | .ptr i _ => [i]
    | _ => []
  | .mapUpdate _ m _ _ => match ev f m with
    | .mp i => [i]
    | _ => []
  | .insert _ m _ _ => match ev f m with
    | .mp i => [i]
    | _ => []
  | .call c => match c.args.toList with
    | s :: _ => match ev f s with
      | .sl i _ _ _ _ => [i, h.length]
      | _ => [h.length]
    | _ => [h.length]
  | _ => [h.length]
def chkL (h : Hp) (x : Option (AV × Hp)) : Option (AV × Hp) :=
  match x with
  | some (r, h') => match Nat.ble h.length h'.length with
    | true => some (r, h')
    | false => none
  | none => none
def xOp (P : Program) (Γ : FuncId → List AV → Option AV) (call : FuncId → List AV → Hp → Option (AV × Hp)) (yld : Nat → List AV → Hp → Option (AV × Hp)) (o : Oper) (f : Fr) (h : Hp) : Option (AV × Hp) :=
  match callOf f o.op with
  | some (g, args) => match okFn P g with
    | true => match Γ g args with
      | some r => some (r, h)
      | none => chkL h (call g args h)
    | false => none
  | none => match yldOf f o.op with
    | some (i, args) => chkL h (yld i args h)
    | none => match exL P f h o.op with
      | some r => some (r, h)
      | none => match exH P f h o.op with
        | some (r, h') => fH (touched f h o.op) h' fun h' => chkL h (some (r, h'))
        | none => none
def trim (n : Nat) (r : AV) (h : Hp) : AV × Hp :=
  match r.sc n && (h.take n).all (AObj.sc n) with
  | true => (r, h.take n)
  | false => (r, h)
def callW (P : Program) (xc : Option Nat → Code → Fr → Hp → Option (Exit × Fr × Hp)) (g : FuncId) (args : List AV) (h : Hp) : Option (AV × Hp) :=
  match P.funcs[g]? with
  | some fn => match fn.body with
    | some c => match xc none c ⟨args ++ List.replicate (fn.ntmps - args.length) (.v undef), []⟩ h with
      | some (.normal, f', h') => match dropAll h' f'.ds with
        | some h'' => match resA P fn f' h'' with
          | some r => fA r fun r => some (trim h.length r h'')
          | none => none
        | none => none
      | some (.ret, f', h') => match dropAll h' f'.ds with
        | some h'' => match resA P fn f' h'' with
          | some r => fA r fun r => some (trim h.length r h'')
          | none => none
        | none => none
      | _ => none
    | none => none
  | none => none
def endX (i : Nat) (jump : Option Code) (b : Bool) (h : Hp) : Option (AV × Hp) :=
  match endA i jump h with
  | some h' => some (.v (.bool b), h')
  | none => none
def yldW (xc : Option Nat → Code → Fr → Hp → Option (Exit × Fr × Hp)) (i : Nat) (args : List AV) (h : Hp) : Option (AV × Hp) :=
  match h[i]? with
  | some (.loop st pe tm ps asg bd d) => match Nat.beq args.length ps.size with
    | true => match xc (some i) asg ⟨setAll tm (ps.toList.zip args), []⟩ h with
      | some (.normal, f1, h1) => match begA i h1 with
        | some h1' => match xc (some i) bd f1 h1' with
          | some (.normal, _, h2) => endX i none true h2
          | some (.ret, _, h2) => endX i (some .ret) false h2
          | some (.exit id, _, h2) => endX i (some (.exit id)) false h2
          | some (.goto t, _, h2) => endX i (some (.goto t)) false h2
          | _ => none
        | none => none
      | _ => none
    | false => none
  | _ => none
def xCode (P : Program) (Γ : FuncId → List AV → Option AV) : Nat → Option Nat → Code → Fr → Hp → Option (Exit × Fr × Hp)
  | 0, _, _, _, _ => none
  | n + 1, ro, c, f, h =>
    match c with
    | .skip => some (.normal, f, h)
    | .region _ ops false => match xL ops (xOp P Γ (callW P (xCode P Γ n)) (yldW (xCode P Γ n))) (List.range ops.size) f h with
      | some (f', h') => some (.normal, f', h')
      | none => none
    | .region _ ops true => match xR P ops (xOp P Γ (callW P (xCode P Γ n)) (yldW (xCode P Γ n))) f h with
      | some (f', h') => some (.normal, f', h')
      | none => none
    | .seq a b => match xCode P Γ n ro a f h with
      | some (.normal, f1, h1) => xCode P Γ n ro b f1 h1
      | x => x
    | .cond c a b => match ev f c with
      | .v (.bool true) => xCode P Γ n ro a f h
      | .v (.bool false) => xCode P Γ n ro b f h
      | _ => none
    | .block id b => match xCode P Γ n ro b f h with
      | some (.exit i, f1, h1) => match Nat.beq i id with
        | true => some (.normal, f1, h1)
        | false => some (.exit i, f1, h1)
      | x => x
    | .loop b => match xCode P Γ n ro b f h with
      | some (.normal, f1, h1) => xCode P Γ n ro (.loop b) f1 h1
      | x => x
    | .rangeFunc g ps asg bd => match ro, ev f g with
      | none, .fn (.func gf) cs => match okFn P gf with
        | true => match callW P (xCode P Γ n) gf (.yld (h.length + 1) :: cs) (h ++ [.dfr] ++ [.loop .ready none f.t ps asg bd h.length]) with
          | some (_, h') => match h'[h.length + 1]? with
            | some (.loop st pe _ _ _ _ _) => match st == .busy with
              | true => none
              | false => match pe with
                | none => some (.normal, ⟨f.t, h.length :: f.ds⟩, h'.set (h.length + 1) .gone)
                | some c => xCode P Γ n none c ⟨f.t, h.length :: f.ds⟩ (h'.set (h.length + 1) .gone)
            | _ => none
          | none => none
        | false => none
      | _, _ => none
    | .exit id => some (.exit id, f, h)
    | .label _ => some (.normal, f, h)
    | .scope b => match xCode P Γ n ro b f h with
      | some (.goto _, _, _) => none
      | x => x
    | .ret => some (.ret, f, h)
    | _ => none
def runC (P : Program) (Γ : FuncId → List AV → Option AV) (n : Nat) (g : FuncId) (args : List AV) (h : Hp) : Option (AV × Hp) := callW P (xCode P Γ n) g args h
end Go.Az
