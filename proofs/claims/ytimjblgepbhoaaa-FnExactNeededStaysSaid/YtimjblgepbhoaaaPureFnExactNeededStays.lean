import Derived.Test.YtimjblgepbhoaaaSayFnExactNeededStays
import Derived.Test.YtimjblgepbhoaaaPlain
import Derived.Test.YtimjblgepbhoaaaPureStaysA
import Derived.Test.YtimjblgepbhoaaaPureStaysC
import Derived.Test.YtimjblgepbhoaaaPureStaysF
import Derived.Test.YtimjblgepbhoaaaPureStaysL
import Derived.Test.YtimjblgepbhoaaaPureStaysM
import Derived.Test.YtimjblgepbhoaaaPureStaysO
import Derived.Test.YtimjblgepbhoaaaPureStaysQ
import Derived.Test.YtimjblgepbhoaaaPureStaysT
import Derived.Test.YtimjblgepbhoaaaPureStaysW
namespace Go.Proofs.Ytimjblgepbhoaaa.Pure
open Go.RowKit Go.Proofs.Ytimjblgepbhoaaa.PStays Go.Proofs.Ytimjblgepbhoaaa.Plain Go.Proofs.YtimjblgepbhoaaaW.PrintWords Go.Proofs.YtimjblgepbhoaaaW.PrintMore
set_option linter.unusedVariables false
set_option linter.unusedSimpArgs false
theorem windB {kn : List S164} {br : List S115} {w : List (List S113)} (hw : Short w) : Ev (fun k => spec_l11Winds.f k kn br w []) (windR kn br w []) ∧ Ev (fun k => impl_windsCode.f k kn br w []) (windR kn br w []) := ⟨windsS kn br w [] (by simp) hw, windsI kn br w [] (by simp) hw⟩
theorem sel_full0 : ∀ n : Fin 9, sel (allB n.val) (2 ^ n.val - 1) = allB n.val := by decide +kernel
theorem sel_less0 : ∀ (n : Fin 9) (k : Fin 8), k.val < n.val → sel (allB n.val) (2 ^ n.val - 1 - 2 ^ k.val) = woB (allB n.val) ((k.val : Nat) : Int) ∧ 2 ^ k.val ≤ 2 ^ n.val - 1 := by decide +kernel
theorem sel_less {n k : Nat} (h : n ≤ 8) (hk : k < n) : sel (allB n) (2 ^ n - 1 - 2 ^ k) = woB (allB n) (k : Int) ∧ 2 ^ k ≤ 2 ^ n - 1 := sel_less0 ⟨n, by omega⟩ ⟨k, by omega⟩ hk
noncomputable def ndT (kn : List S164) (br : List S115) (w : List (List S113)) : Nat → List Int
 | 0 => []
 | i + 1 => if allW kn br w (woB (allB br.length) (i : Int)) = true then ndT kn br w i else ndT kn br w i ++ [(i : Int)]
theorem ndT_succ (kn : List S164) (br : List S115) (w : List (List S113)) (i : Nat) : ndT kn br w (i + 1) = if allW kn br w (woB (allB br.length) (i : Int)) = true then ndT kn br w i else ndT kn br w i ++ [(i : Int)] := rfl
theorem ndT_len (kn : List S164) (br : List S115) (w : List (List S113)) : ∀ i, (ndT kn br w i).length ≤ i
 | 0 => Nat.le_refl 0
 | i + 1 => by
  have := ndT_len kn br w i
  unfold ndT
  split
  ·omega
  ·rw [List.length_append]; simp; omega
theorem neededS0 {kn : List S164} {br : List S115} {w : List (List S113)} (h8 : br.length ≤ 8) : Ev (fun k => spec_NeededStays.l0 k (tb (2 ^ br.length) (fun u => allW kn br w (sel (allB br.length) u))) (((2 ^ br.length - 1 : Nat)) : Int) [] 0 kn br) (ndT kn br w br.length, 0) := by
 have h256 := pow8 h8
 have hsl : ∀ i, i < br.length → sel (allB br.length) (2 ^ br.length - 1 - 2 ^ i) = woB (allB br.length) (i : Int) ∧ 2 ^ i ≤ 2 ^ br.length - 1 := fun i hi => sel_less h8 hi
 generalize 2 ^ br.length = N at h256 hsl
 refine loop_up' (fun k i => spec_NeededStays.l0 k (tb N (fun u => allW kn br w (sel (allB br.length) u))) ((N - 1 : Nat) : Int) (ndT kn br w i) (i : Int) kn br) br.length _ (fun _ => True) (fun i hi _ => .inl ⟨trivial, fun hn => ?_⟩) (fun _ => ?_) br.length 0 (by omega) (by omega) trivial
 ·have hu := u64_is (n := i) (by omega)
  obtain ⟨s1, s2⟩ := hsl i hi
  have hpos : 0 < 2 ^ i := Nat.two_pow_pos i
  have hlen := ndT_len kn br w i
  refine ev_succ ?_
  simp only [spec_NeededStays.l0]
  rw [succ_cast i (by omega), hu.2, tb_len]
  have hw : wrap64 (((N - 1 : Nat) : Int) - ((2 ^ i : Nat) : Int)) = ((N - 1 - 2 ^ i : Nat) : Int) := by
   generalize 2 ^ i = p at s2
   rw [wrap_self (by omega)]; omega
  rw [hw, tb_at (by omega), s1]
  refine ev_if_pos (by omega) (ev_if_pos hu.1 (ev_if_pos (by omega) (ev_if_pos (by omega) ?_)))
  rw [ndT_succ] at hn
  by_cases c : allW kn br w (woB (allB br.length) (i : Int)) = true
  ·rw [if_pos c] at hn
   exact ev_if_pos c hn
  ·rw [if_neg c] at hn
   exact ev_if_neg c (ev_if_pos (by omega) hn)
 ·refine ev_succ ?_
  simp only [spec_NeededStays.l0]
  exact ev_if_neg (by omega) (ev_now fun _ => rfl)
theorem neededI0 {kn : List S164} {br : List S115} {w : List (List S113)} (f : FrOk kn br) (l : ∀ x ∈ w, LdOk kn x) (hw : w.length ≤ 1048576) : Ev (fun k => impl_NeededStays.l0 k w (allB br.length) [] (allB br.length) ((allB br.length).length : Int) 0 kn br) (ndT kn br w br.length, 0) := by
 have h8 := f.b8
 have hall := allB_ok br
 have hlen := allB_len br.length
 have hat : ∀ i, i < br.length → (allB br.length).getD i 0 = (i : Int) := fun i hi => allB_at hi
 have hnd : ∀ i, ndT kn br w (i + 1) = if allW kn br w (woB (allB br.length) (i : Int)) = true then ndT kn br w i else ndT kn br w i ++ [(i : Int)] := fun _ => rfl
 generalize allB br.length = al at hall hlen hat hnd
 rw [hlen]
 refine loop_up' (fun k i => impl_NeededStays.l0 k w al (ndT kn br w i) al (br.length : Int) (i : Int) kn br) br.length _ (fun _ => True) (fun i hi _ => .inl ⟨trivial, fun hn => ?_⟩) (fun _ => ?_) br.length 0 (by omega) (by omega) trivial
 ·have hs := woB_sub al (i : Int)
  have hsl := hs.length_le
  have hl := looseI f l (hall.sub hs) (by omega) hw
  have hln := ndT_len kn br w i
  have ha := loose_all kn br (woB al (i : Int)) w 0
  rw [hnd i] at hn
  refine ev_succ ?_
  simp only [impl_NeededStays.l0]
  rw [succ_cast i (by omega), rd_nat, hat i hi]
  refine ev_if_pos (by omega) (ev_if_pos (by omega) (ev_if_pos (by omega) (ev_bind (withoutE al _ (by omega)) (ev_bind hl ?_))))
  by_cases c : allW kn br w (woB al (i : Int)) = true
  ·rw [if_pos c] at hn
   exact ev_if_neg (by have := ha.2 c; omega) hn
  ·rw [if_neg c] at hn
   exact ev_if_pos (by exact Int.not_lt.1 (fun h => c (ha.1 h))) (ev_if_pos (by omega) hn)
 ·refine ev_succ ?_
  simp only [impl_NeededStays.l0]
  exact ev_if_neg (by omega) (ev_now fun _ => rfl)
theorem neededE (kn : List S164) (br : List S115) (w : List (List S113)) (hw : Short w) : ∃ R : List Int × Int, Ev (fun k => spec_NeededStays.f k kn br w) R ∧ Ev (fun k => impl_NeededStays.f k kn br w) R ∧ R.1.length ≤ 1048576 := by
 obtain ⟨cS, cI⟩ := windB (kn := kn) (br := br) hw
 unfold spec_NeededStays.f impl_NeededStays.f
 by_cases h0 : windR kn br w [] = 0
 ·have o := WOk.of h0
  have h8 := o.f.b8
  have h256 := pow8 h8
  have hp : 0 < 2 ^ br.length := Nat.two_pow_pos _
  have hlI := looseI o.f o.l (allB_ok br) (by rw [allB_len]; exact h8) hw.1
  have ha := loose_all kn br (allB br.length) w 0
  have hfull : sel (allB br.length) (2 ^ br.length - 1) = allB br.length := sel_full0 ⟨br.length, by omega⟩
  have tE := tableE o.f o.l hw.1
  have hS0 := neededS0 (kn := kn) (w := w) h8
  generalize 2 ^ br.length = N at h256 hp hfull tE hS0
  have hwN : wrap64 (((tb N (fun u => allW kn br w (sel (allB br.length) u))).length : Int) - 1) = ((N - 1 : Nat) : Int) := by rw [tb_len, wrap_self (by omega)]; omega
  by_cases c : allW kn br w (allB br.length) = true
  ·refine ⟨(ndT kn br w br.length, 0), ev_bind cS (ev_if_pos h0 (ev_bind tE ?_)), ev_bind cI (ev_if_pos h0 (ev_bind (allI kn h8) (ev_bind hlI (ev_if_neg (by have := ha.2 c; omega) (neededI0 o.f o.l hw.1))))), by have := ndT_len kn br w br.length; show (ndT kn br w br.length).length ≤ _; omega⟩
   rw [hwN, tb_len, tb_at (by omega), hfull]
   exact ev_if_pos (by omega) (ev_if_pos (by omega) (ev_if_pos c hS0))
  ·refine ⟨([], 10), ev_bind cS (ev_if_pos h0 (ev_bind tE ?_)), ev_bind cI (ev_if_pos h0 (ev_bind (allI kn h8) (ev_bind hlI (ev_if_pos (by exact Int.not_lt.1 (fun h => c (ha.1 h))) (ev_now fun _ => rfl))))), by simp⟩
   rw [hwN, tb_len, tb_at (by omega), hfull]
   exact ev_if_pos (by omega) (ev_if_pos (by omega) (ev_if_neg c (ev_now fun _ => rfl)))
 ·exact ⟨([], windR kn br w []), ev_bind cS (ev_if_neg h0 (ev_now fun _ => rfl)), ev_bind cI (ev_if_neg h0 (ev_now fun _ => rfl)), by simp⟩
theorem FnExactNeededStays : Say.FnExactNeededStays := by
 intro kn br ws hk hb hw
 apply Ev.rounds
 unfold laws_FnExactNeededStays.f
 have m1 := hk.1
 have m2 := hb.1
 have m3 := hw.1
 have mx : maxLen ≤ 9223372036854775807 := by decide
 have m4 : ∀ row ∈ ws, row.length ≤ 9223372036854775807 := fun row h => by have := (hw.2 row h).1; omega
 obtain ⟨r1, e1, g1⟩ := szFr kn br 1048576 (by decide) (by decide) (by omega) (by omega)
 refine ev_bind (ev_const e1) ?_
 by_cases hr1 : r1 < 0
 ·exact ev_if_pos hr1 (ev_now fun _ => rfl)
 refine ev_if_neg hr1 ?_
 obtain ⟨hk1, hb1, hr1b⟩ := g1 hr1
 obtain ⟨r2, e2, _, g2⟩ := szSS ws r1 (by omega) hr1b (by omega) m4
 refine ev_bind e2 ?_
 by_cases hr2 : r2 < 0
 ·exact ev_if_pos hr2 (ev_now fun _ => rfl)
 refine ev_if_neg hr2 ?_
 obtain ⟨hl1, hl2⟩ := g2 (by omega)
 have sh := Short.map hl1 hl2
 have toF := toFr kn br hk1 hb1
 have toP := toSS ws hl1 hl2
 obtain ⟨R, cS, cI, hR⟩ := neededE (kn.map kV) (br.map bV) (ws.map (List.map pV)) sh
 have eqR := eqI R.1 (by omega)
 refine ev_bind toF (ev_bind toP (ev_bind cS (ev_bind toF (ev_bind toP (ev_bind cI (ev_bind eqR (ev_if_pos rfl ?_)))))))
 rw [bne_self_eq_false]
 refine ev_succ ?_
 simp only [laws_FnExactNeededStays.j0]
 obtain ⟨M1, f1, b1, b2⟩ := marksFr (kn.map kV) (br.map bV) (by simpa using hk1) (by simpa using hb1)
 obtain ⟨M2, f2, b3, b4⟩ := marksPS (ws.map (List.map pV)) M1.1 sh b1 (by omega)
 refine ev_if_neg Bool.false_ne_true (ev_bind toF (ev_bind (eqFr (kn.map kV) (br.map bV) (by simpa using hk1) (by simpa using hb1)) (ev_if_pos rfl (ev_bind toP (ev_bind (eqSS (ws.map (List.map pV)) sh) (ev_if_pos rfl (ev_bind f1 (ev_bind f2 (ev_if_neg (by omega) (ev_bind eqR (ev_if_pos rfl ?_)))))))))))
 rw [bne_self_eq_false]
 refine ev_succ ?_
 simp only [laws_FnExactNeededStays.j1]
 have f4 := marksI R.1 1 (by omega) (by omega)
 have f5 := heldI R.1.length 1 (by omega) (by omega)
 refine ev_if_neg Bool.false_ne_true (ev_bind f4 (ev_bind f5 (ev_if_neg (by omega) (ev_if_pos rfl (ev_bind toF (ev_bind toP (ev_bind cI (ev_bind eqR (ev_if_pos rfl ?_)))))))))
 rw [bne_self_eq_false]
 refine ev_succ ?_
 simp only [laws_FnExactNeededStays.j2]
 exact ev_if_neg Bool.false_ne_true (ev_bind f5 (ev_if_neg (by omega) (ev_if_pos rfl (ev_now fun _ => rfl))))
end Go.Proofs.Ytimjblgepbhoaaa.Pure

