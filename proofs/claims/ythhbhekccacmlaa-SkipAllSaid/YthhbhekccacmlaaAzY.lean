/-
  Loops in a walk over abstract memory: what is kept from round to round is told by a list of slots. Conditions: stated at each theorem.
-/
import Derived.Test.YthhbhekccacmlaaAzX
set_option linter.unusedSimpArgs false
set_option linter.unusedVariables false
namespace Go.Az
open Go Go.Chz

section
variable {P : Program} {m : Nat} {ro : Option Nat} {K : Exit → Fr → Hp → Prop} {f : Fr} {h : Hp} {β : Type}
def loopK (P : Program) (m : Nat) {β : Type} (F : β → (Nat → AV) → List AV) (H : β → Hp) (ok : β → Prop) (μ : β → Nat) (b : β) (ds : List Nat) (K : Exit → Fr → Hp → Prop) : Exit → Fr → Hp → Prop
  | .normal, f, h => Seen P m f h fun f h => ∃ b' s, ok b' ∧ μ b' < μ b ∧ f = ⟨F b' s, ds⟩ ∧ h = H b'
  | e, f, h => K e f h
theorem s_loop (hm : P.follows .mixedOrders = true) (F : β → (Nat → AV) → List AV) (H : β → Hp) (ok : β → Prop) (μ : β → Nat) (b0 : β) {l : List AV} {ds : List Nat} {bd : Code}
    (hF : l = F b0 fun k => l.getD k (.v undef)) (hH : h = H b0) (h0 : ok b0) (round : ∀ b s, ok b → wk P m ro bd (loopK P m F H ok μ b ds K) ⟨F b s, ds⟩ (H b)) : wk P m ro (.loop bd) K ⟨l, ds⟩ h := by
  show AW P m ro (.loop bd) K ⟨l, ds⟩ h
  generalize (fun k => l.getD k (.v undef)) = s at hF
  subst hF hH
  refine aw_loop hm (fun n f h => ∃ b s, ok b ∧ n = μ b ∧ f = ⟨F b s, ds⟩ ∧ h = H b) (μ b0) ⟨b0, s, h0, rfl, rfl, rfl⟩ ?_
  rintro n f h ⟨b, s, hb, rfl, rfl, rfl⟩
  have := round b s hb
  have e : (loopK P m F H ok μ b ds K) = (fun e f' h' => match e with
      | .normal => Seen P m f' h' (fun f'' h'' => ∃ n', n' < μ b ∧ ∃ b s, ok b ∧ n' = μ b ∧ f'' = ⟨F b s, ds⟩ ∧ h'' = H b)
      | e => K e f' h') := by
    funext e f' h'
    cases e with
    | normal =>
      show Seen P m f' h' _ = Seen P m f' h' _
      congr 1
      funext f'' h''
      refine propext (Iff.intro ?_ ?_)
      · rintro ⟨b', s, h1, h2, h3, h4⟩; exact ⟨_, h2, b', s, h1, rfl, h3, h4⟩
      · rintro ⟨n', h2, b', s, h1, rfl, h3, h4⟩; exact ⟨b', s, h1, h2, h3, h4⟩
    | _ => rfl
  rw [e] at this
  exact this
section
variable {F : β → (Nat → AV) → List AV} {H : β → Hp} {ok : β → Prop} {μ : β → Nat} {b : β} {ds : List Nat}
theorem l_next {l : List AV} (b' : β) (h1 : ok b') (h2 : μ b' < μ b) (h3 : l = F b' fun k => l.getD k (.v undef)) (h4 : h = H b') : loopK P m F H ok μ b ds K .normal ⟨l, ds⟩ h := by
  exact Seen.same ⟨b', _, h1, h2, congrArg (Fr.mk · ds) h3, h4⟩
theorem l_exit {i : Nat} (hk : K (.exit i) f h) : loopK P m F H ok μ b ds K (.exit i) f h := hk
theorem l_ret (hk : K .ret f h) : loopK P m F H ok μ b ds K .ret f h := hk
end
end
end Go.Az
