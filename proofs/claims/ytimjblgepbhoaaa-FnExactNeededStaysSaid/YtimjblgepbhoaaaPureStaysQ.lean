import Derived.Test.YtimjblgepbhoaaaHStays0
import Derived.Test.YtimjblgepbhoaaaPlain
import Derived.Test.YtimjblgepbhoaaaHStaysu
import Derived.Test.YtimjblgepbhoaaaHStaysus
import Derived.Test.YtimjblgepbhoaaaPureStaysL
import Derived.Test.YtimjblgepbhoaaaPureStaysM
import Derived.Test.YtimjblgepbhoaaaPureStaysW
namespace Go.Proofs.Ytimjblgepbhoaaa.Pure
open Go.RowKit Go.Proofs.Ytimjblgepbhoaaa.PStays Go.Proofs.Ytimjblgepbhoaaa.Plain Go.Proofs.YtimjblgepbhoaaaW.PrintWords Go.Proofs.YtimjblgepbhoaaaW.PrintMore
set_option linter.unusedVariables false
set_option linter.unusedSimpArgs false
theorem marksPS0 (n : Nat) (hn : n ≤ 1048576) : ∀ (m i : Nat) (es : List (List S113)) (a : Int), n - i = m → i ≤ n → es.length = n → (∀ j, i ≤ j → j < n → (es.getD j []).length ≤ 1048576) → 0 ≤ a → a + 2097152 * m ≤ 1152921504606846976 →
  ∃ b es', Ev (fun k => laws_markPullSS.l0 k es a (i : Int)) (b, es') ∧ a ≤ b ∧ b ≤ a + 2097152 * m := by
 intro m
 induction m with
 | zero =>
  intro i es a h1 h2 h3 h4 h5 h6
  refine ⟨a, es, ev_end (fun k => ?_), by omega, by omega⟩
  simp only [laws_markPullSS.l0]
  rw [if_neg (by omega)]
 | succ m ih =>
  intro i es a h1 h2 h3 h4 h5 h6
  have hi : i < es.length := by omega
  have hrow := h4 i (Nat.le_refl i) (by omega)
  obtain ⟨r, hm, hm1, hm2⟩ := marksP (es.getD i []) a hrow h5 (by omega)
  obtain ⟨b, es', h7, h8, h9⟩ := ih (i + 1) (es.set i r.2) r.1 (by omega) (by omega) (by rw [List.length_set]; exact h3) (fun j hj hjn => by
   rw [List.getD_eq_getElem?_getD, List.getElem?_set_ne (by omega), ← List.getD_eq_getElem?_getD]
   exact h4 j (by omega) hjn) (by omega) (by omega)
  refine ⟨b, es', ev_step (f := fun k => (laws_markPullS.f k (es.getD i []) a).bind fun c => laws_markPullSS.l0 k (es.set i c.2) c.1 ((i + 1 : Nat) : Int)) (fun k => ?_) (ev_bind hm h7), by omega, by omega⟩
  simp only [laws_markPullSS.l0]
  rw [if_pos (by omega), if_pos (by omega), succ_cast i (by omega), Int.toNat_natCast]
theorem marksPS (es : List (List S113)) (a : Int) (hs : Short es) (h0 : 0 ≤ a) (h1 : a ≤ 4611686018) : ∃ r, Ev (fun k => laws_markPullSS.f k es a) r ∧ a ≤ r.1 ∧ r.1 ≤ a + 2199023255552 := by
 have h2 := hs.1
 obtain ⟨b, es', h7, h8, h9⟩ := marksPS0 es.length h2 es.length 0 es a (by omega) (by omega) rfl (fun j _ hj => hs.2 _ (mem_getD es [] j hj)) h0 (by omega)
 refine ⟨(b, es'), ?_, h8, by show b ≤ _; omega⟩
 unfold laws_markPullSS.f
 exact h7
end Go.Proofs.Ytimjblgepbhoaaa.Pure

