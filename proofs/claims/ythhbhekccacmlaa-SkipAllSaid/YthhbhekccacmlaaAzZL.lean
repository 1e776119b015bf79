/-
  Pieces of memory: joined, and read as lists without a word. Conditions: stated at each theorem.
-/
import Derived.Test.YthhbhekccacmlaaAzZK
set_option linter.unusedSimpArgs false
set_option linter.unusedVariables false
namespace Go.Az
open Go Go.Chz
theorem Sep.join {h X Y : Hp} {L L2 : List Pc} (s : Sep h X L) (t : Sep X Y L2) : Sep h Y (L ++ L2) := by
  have m := s.more t.ext
  refine ⟨m.ext, fun p hp => ?_, fun p hp i hi => ?_, List.pairwise_append.2 ⟨s.dis, t.dis, fun p hp q hq i hi hqi => ?_⟩⟩
  · rcases List.mem_append.1 hp with hp | hp
    · exact m.all p hp
    · exact t.all p hp
  · rcases List.mem_append.1 hp with hp | hp
    · exact s.low p hp i hi
    · exact Nat.le_trans s.ext.1 (t.low p hp i hi)
  · have h1 := p.lt hi (s.all p hp)
    have h2 := t.low q hq i hqi
    omega
/-- A new slice as a piece. -/
theorem RetS.sep {α : Type} {enc : α → List AV} {q : Nat} {e : TypeId} {h h' : Hp} {l : List α} {s : AV} (hE : EncOk enc q) (hR : RetS enc e h l s h') : Sep h h' [pcW enc q e s l] := by
  refine ⟨hR.ext, ?_, ?_, by simp⟩
  · intro p hp
    rw [List.mem_singleton.1 hp]; exact hR.own hE
  · intro p hp i hi
    rw [List.mem_singleton.1 hp] at hi
    rcases hR with ⟨rfl, _, _⟩ | ⟨c, u, rfl, _, _, _⟩
    · cases hi
    · injection hi with hi; omega
class EncC {α : Type} (enc : α → List AV) (q : outParam Nat) (d : outParam α) : Prop where
  ok : EncOk enc q
instance {k : IntKind} : EncC (encI k) 1 0 := ⟨encI_ok k⟩
class MemW (α : outParam Type) (L : List Pc) (z : AV) (enc : outParam (α → List AV)) (q : outParam Nat) (e : outParam TypeId) (l : outParam (List α)) : Prop where
  p : pcW enc q e z l ∈ L
instance {α : Type} {enc : α → List AV} {q : Nat} {e : TypeId} {z : AV} {l : List α} {L : List Pc} : MemW α (pcW enc q e z l :: L) z enc q e l := ⟨by simp⟩
instance (priority := low) {α : Type} {enc : α → List AV} {q : Nat} {e : TypeId} {z : AV} {l : List α} {p : Pc} {L : List Pc} [x : MemW α L z enc q e l] : MemW α (p :: L) z enc q e l := ⟨List.mem_cons_of_mem _ x.p⟩
instance (priority := low) {α : Type} {enc : α → List AV} {q : Nat} {e : TypeId} {z : AV} {l : List α} {E L : List Pc} [x : MemW α L z enc q e l] : MemW α (E ++ L) z enc q e l := ⟨List.mem_append_right _ x.p⟩
instance (priority := low) {α : Type} {enc : α → List AV} {q : Nat} {e : TypeId} {z : AV} {l : List α} {E L : List Pc} [x : MemW α L z enc q e l] : MemW α (L ++ E) z enc q e l := ⟨List.mem_append_left _ x.p⟩
/-- What lies in a piece is a list. -/
instance (priority := low) {α : Type} {enc : α → List AV} {q : Nat} {d : α} {e : TypeId} {h Y : Hp} {L : List Pc} {z : AV} {l : List α} [s : Sep h Y L] [m : MemW α L z enc q e l] [c : EncC enc q d] : EL α enc q d Y z l := ⟨c.ok, Own.elts (s.all _ m.p)⟩
/-- What was a list before the call is one. -/
instance (priority := low) {α : Type} {enc : α → List AV} {q : Nat} {d : α} {h Y : Hp} {L : List Pc} {z : AV} {l : List α} [s : Sep h Y L] [x : EL α enc q d h z l] : EL α enc q d Y z l := ⟨x.ok, x.p.ext s.ext⟩
end Go.Az
