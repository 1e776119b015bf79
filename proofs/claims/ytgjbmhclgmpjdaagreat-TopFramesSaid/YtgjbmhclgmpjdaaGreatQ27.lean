/-
  A part of the proof of a statement of a chapter's seat; conditions: stated at each theorem.
-/
import Derived.Test.YtgjbmhclgmpjdaaGreatQ26
set_option linter.unusedVariables false
set_option linter.unusedSectionVars false
set_option linter.unusedSimpArgs false
set_option linter.unusedVariables false
set_option maxRecDepth 100000
set_option maxHeartbeats 8000000
namespace Go.Proofs.YtgjbmhclgmpjdaaGreat
open Go.Az Go
theorem fra_len {bs : List Bk} {w s : List UInt8} (hs : s.length ≤ 200) (hf : flat bs ++ w = s) (hb : bs.length ≤ 12) : (fra bs w).length ≤ 300 := by
  have h1 := encs_len bs
  have h2 : (flat bs).length + w.length ≤ 200 := by rw [← List.length_append, hf]; exact hs
  have h3 : (encb (lastB w) 1).length = 3 + w.length := by
    unfold encb lastB
    simp only []
    rw [List.length_append, enc3_len, if_neg (by decide)]
  rw [fra]
  simp only [List.length_append, List.length_cons, List.length_nil, h3]
  omega
theorem rowX_len {α : Type} {encV : α → List Value} {wf : α → Prop} {W : World} {a : Option Addr} {len cap : Nat} {zs : List α} (h : IsRowX encV wf W a len cap zs) : ((zs.take len).length : Int) ≤ 9223372036854775807 := by
  rcases h with ⟨h1, h2, h3, h4⟩ | ⟨ad, h1, h2, h3, h4, h5, h6, h7⟩
  · rw [h4]; simp
  · rw [List.length_take]
    have : maxLen = 9223372036854775807 := by decide
    omega
theorem one_ok {bs : List Bk} {w a : List UInt8} {m : Int} (ha : a.length ≤ 200) (hb : ∀ b ∈ bs, okB b) (hf : flat bs ++ w = a) (hbl : bs.length ≤ 12) (m0 : 0 ≤ m) (m1 : m ≤ 1048576) (hle : (a.length : Int) ≤ m) :
    ACalls Tryz.prog 7 [St (fra bs w), I m] [] (fun r _ => r = .tup [St a, .agg [I 0, I 0]] ∧ r.sc 0 = true) := by
  have hfl := fra_len ha hf hbl
  have hw : w.length ≤ 200 := by rw [← hf, List.length_append] at ha; omega
  have e : [Ck.f bs w].flatMap Ck.means = a := by rw [← hf]; simp [Ck.means]
  have r := runs_of (l := fra bs w) (by omega) [.f bs w] 0 m (by omega) (by omega) m0 m1 (fun c hc => by rw [List.mem_singleton.1 hc]; exact ⟨hw, hb⟩) (by simp [Ck.bytes]) (by rw [e]; exact hle)
  rw [e] at r
  exact decode_ok (fra bs w) a m (by omega) m0 m1 r
end Go.Proofs.YtgjbmhclgmpjdaaGreat
