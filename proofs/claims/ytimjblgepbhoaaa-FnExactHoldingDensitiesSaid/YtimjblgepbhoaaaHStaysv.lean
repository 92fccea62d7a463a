import Derived.Test.YtimjblgepbhoaaaHStays0
import Derived.Test.YtimjblgepbhoaaaHStaysc
import Derived.Test.YtimjblgepbhoaaaHStaysd
namespace Go.Proofs.Ytimjblgepbhoaaa.PStays
noncomputable section
open Go.RowKit Go.Proofs.YtimjblgepbhoaaaW.PrintWords Go.Proofs.YtimjblgepbhoaaaW.PrintLast Go.Proofs.YtimjblgepbhoaaaW.PrintMore
attribute [local go_sem] max2_int min2_int max_two min_two max_three min_three max_four min_four   -- for this text's walks alone
set_option linter.unusedVariables false
set_option linter.unusedSimpArgs false
set_option maxHeartbeats 8000000
set_option maxRecDepth 100000

def spec_l11Code.j0 : Nat → List Int → Bool → List (S164) → List (S115) → Option (Int)
 | 0, _, _, _, _ => none
 | k + 1, x2, x15, x1000, x1001 => if x15 = true then (some 1) else ((spec_l09Some.f k x1000 x1001 x2).bind fun t191 => (if t191 = true then (some 0) else (some 2)))
def spec_l11Code.f (k : Nat) (l0_0 : List (S164)) (l0_1 : List (S115)) (l1 : List (S113)) (l2 : List Int) : Option (Int) := (spec_l09Ok.f k l0_0 l0_1).bind fun t189 => (if t189 = true then ((spec_l09Loads.f k l0_0 l0_1 l1).bind fun t190 => (spec_l11Code.j0 k l2 (!t190) l0_0 l0_1)) else (spec_l11Code.j0 k l2 true l0_0 l0_1))
theorem spec_l11Code.mono_l : ∀ k, (∀ y0 y1 y2 y3, LeO (spec_l11Code.j0 k y0 y1 y2 y3) (spec_l11Code.j0 (k + 1) y0 y1 y2 y3))
 | 0 => fun _ _ _ _ r h => by simp [spec_l11Code.j0] at h
 | k + 1 => by
  have ih0 := spec_l11Code.mono_l k
  ·intro y0 y1 y2 y3
   unfold spec_l11Code.j0
   have m0 := @spec_l09Loads.mono; have m1 := @spec_l09Ok.mono; have m2 := @spec_l09Some.mono; exact zM0
theorem spec_l11Code.mono : ∀ a0 a1 a2 a3 k, LeO (spec_l11Code.f k a0 a1 a2 a3) (spec_l11Code.f (k + 1) a0 a1 a2 a3) := by
 intro a0 a1 a2 a3 k
 have ih0 := spec_l11Code.mono_l k
 unfold spec_l11Code.f
 have m0 := @spec_l09Loads.mono; have m1 := @spec_l09Ok.mono; have m2 := @spec_l09Some.mono; exact zM0
theorem spec_l11Code.calls (k : Nat) (g0 : Nat) (A0_0 : Option Addr) (c0_0 : Nat) (l0_0 : List (S164)) (A0_1 : Option Addr) (c0_1 : Nat) (l0_1 : List (S115)) (A1 : Option Addr) (c1 : Nat) (l1 : List (S113)) (A2 : Option Addr) (c2 : Nat) (l2 : List Int) (r : Int) (w : World) (hbk0 : w.heap[g0]? = some (.cells #[.slice A0_0 l0_0.length c0_0, .slice A0_1 l0_1.length c0_1] 27 (0, 0))) (hr0_0 : Kd.C k164 w A0_0 l0_0.length l0_0) (hc0_0 : l0_0.length ≤ c0_0) (hr0_1 : Kd.C k115 w A0_1 l0_1.length l0_1) (hc0_1 : l0_1.length ≤ c0_1) (hr1 : Kd.C k113 w A1 l1.length l1) (hc1 : l1.length ≤ c1) (hr2 : Kd.C (Kd.int .i64) w A2 l2.length l2) (hc2 : l2.length ≤ c2) (h : spec_l11Code.f k l0_0 l0_1 l1 l2 = some r) :
  Calls Try.prog 71 #[.pointer (some ⟨g0, 0, none⟩), .slice A1 l1.length c1, .slice A2 l2.length c2] w fun e w' => e = .returned (.int .i64 r) ∧ Below w.heap.size w w' := by
 have HR0_0 := zQ hr0_0
 have HC0_0 := zQ hc0_0
 clear hr0_0 hc0_0
 have HR0_1 := zQ hr0_1
 have HC0_1 := zQ hc0_1
 clear hr0_1 hc0_1
 have HR1 := zQ hr1
 have HC1 := zQ hc1
 clear hr1 hc1
 have HR2 := zQ hr2
 have HC2 := zQ hc2
 clear hr2 hc2
 have BK0 := zQ hbk0
 clear hbk0
 have HB := zQ (Below.refl w.heap.size w)
 have H : ((spec_l09Ok.f k l0_0 l0_1).bind fun t189 => (if t189 = true then ((spec_l09Loads.f k l0_0 l0_1 l1).bind fun t190 => (spec_l11Code.j0 k l2 (!t190) l0_0 l0_1)) else (spec_l11Code.j0 k l2 true l0_0 l0_1))) = some r := h
 clear h
 have HC4 := zQ H
 clear H
 go_enter Try.func71, Try.ntmps71
 go_upto_region 1 with (fail)
 go_cut [15] (fun v15 wc => ∃ (kq : Nat) (x15_3 : Bool), v15 = .bool x15_3 ∧ Aside0 (spec_l11Code.j0 kq l2 x15_3 l0_0 l0_1 = some r) ∧ Aside0 (kq ≤ k) ∧ Aside0 (wc.heap[g0]? = some (.cells #[(.slice A0_0 l0_0.length c0_0), (.slice A0_1 l0_1.length c0_1)] 27 (0, 0))) ∧ Aside0 (Below w.heap.size w wc))
 case first =>
  have H := HC4.out; clear HC4; replace H := zob H; obtain ⟨t189, A5, H⟩ := H
  by_cases c6 : t189 = true
  ·subst c6
   rw [if_pos rfl] at H; replace H := zob H; obtain ⟨t190, A7, H⟩ := H; have H' := zQ H; clear H
   go_wp2_with (first | ((with_reducible refine zgc 117 ?_); refine zgo (some 8) Try.func117 #[.pointer (some ⟨g0, 0, none⟩)] ?_; (with_reducible refine (spec_l09Ok.calls k g0 A0_0 c0_0 l0_0 A0_1 c0_1 l0_1 true _ (zb BK0.out) (zC HR0_0.out HB.out) HC0_0.out (zC HR0_1.out HB.out) HC0_1.out A5.out).mono ?_); rintro e w8 ⟨rfl, hb⟩; refine ⟨_, rfl, ?_⟩; replace BK0 := zbl BK0.out hb; replace HB := zbs HB.out hb; (try clear hb)) | (go_at_call 118; (with_reducible refine (spec_l09Loads.calls k g0 A0_0 c0_0 l0_0 A0_1 c0_1 l0_1 _ _ l1 t190 _ (zb BK0.out) (zC HR0_0.out HB.out) HC0_0.out (zC HR0_1.out HB.out) HC0_1.out (zC HR1.out HB.out) HC1.out A7.out).mono ?_); rintro e w9 ⟨rfl, hb⟩; replace BK0 := zbl BK0.out hb; replace HB := zbs HB.out hb; (try clear hb)))
   go_meet
   case rel => exact ⟨_, (!t190), (zF), H', ⟨by first | omega | exact Nat.le_refl _⟩, ⟨zb BK0.out⟩, ⟨zB HB.out⟩⟩
  ·replace c6 := Bool.eq_false_iff.mpr c6
   subst c6
   have H1 : (spec_l11Code.j0 k l2 true l0_0 l0_1) = some r := by rw [if_neg (show ¬ (false = true) by decide)] at H; exact H
   clear H; have H := H1; clear H1; have H' := zQ H; clear H
   go_wp2_with (first | ((with_reducible refine zgc 117 ?_); refine zgo (some 8) Try.func117 #[.pointer (some ⟨g0, 0, none⟩)] ?_; (with_reducible refine (spec_l09Ok.calls k g0 A0_0 c0_0 l0_0 A0_1 c0_1 l0_1 false _ (zb BK0.out) (zC HR0_0.out HB.out) HC0_0.out (zC HR0_1.out HB.out) HC0_1.out A5.out).mono ?_); rintro e w10 ⟨rfl, hb⟩; refine ⟨_, rfl, ?_⟩; replace BK0 := zbl BK0.out hb; replace HB := zbs HB.out hb; (try clear hb)))
   go_meet
   case rel => exact ⟨_, (true), (zF), H', ⟨by first | omega | exact Nat.le_refl _⟩, ⟨zb BK0.out⟩, ⟨zB HB.out⟩⟩
 case rest =>
  clear HC4; (try clear c1); (try clear c2); (try clear p2); (try clear c6); (try clear c7); obtain ⟨kq, x15_3, rfl, HA, HJ3, BK0, HB⟩ := hcut
  cases kq with
  | zero => exact absurd HA.out (by simp [spec_l11Code.j0])
  | succ kj3 =>
   have H := HA.out; clear HA
   simp only [spec_l11Code.j0] at H
   by_cases c11 : x15_3 = true
   ·subst c11
    rw [if_pos rfl] at H; obtain rfl := Option.some.inj H
    go_wp2
    go_ret
    exact ⟨zE, zB HB.out⟩
   ·replace c11 := Bool.eq_false_iff.mpr c11
    subst c11
    have H1 : ((spec_l09Some.f kj3 l0_0 l0_1 l2).bind fun t191 => (if t191 = true then (some 0) else (some 2))) = some r := by rw [if_neg (show ¬ (false = true) by decide)] at H; exact H
    clear H; have H := H1; clear H1; replace H := zob H; obtain ⟨t191, A12, H⟩ := H
    by_cases c13 : t191 = true
    ·subst c13
     rw [if_pos rfl] at H; obtain rfl := Option.some.inj H
     go_wp2_with (first | ((with_reducible refine zgc 119 ?_); refine zgo (some 18) Try.func119 #[.pointer (some ⟨g0, 0, none⟩), .slice A2 l2.length c2] ?_; (with_reducible refine (spec_l09Some.calls kj3 g0 A0_0 c0_0 l0_0 A0_1 c0_1 l0_1 _ _ l2 true _ (zb BK0.out) (zC HR0_0.out HB.out) HC0_0.out (zC HR0_1.out HB.out) HC0_1.out (zC HR2.out HB.out) HC2.out A12.out).mono ?_); rintro e w14 ⟨rfl, hb⟩; refine ⟨_, rfl, ?_⟩; replace BK0 := zbl BK0.out hb; replace HB := zbs HB.out hb; (try clear hb)))
     go_ret
     exact ⟨zE, zB HB.out⟩
    ·replace c13 := Bool.eq_false_iff.mpr c13
     subst c13
     have H1 : (some 2) = some r := by rw [if_neg (show ¬ (false = true) by decide)] at H; exact H
     clear H; have H := H1; clear H1; obtain rfl := Option.some.inj H
     go_wp2_with (first | ((with_reducible refine zgc 119 ?_); refine zgo (some 18) Try.func119 #[.pointer (some ⟨g0, 0, none⟩), .slice A2 l2.length c2] ?_; (with_reducible refine (spec_l09Some.calls kj3 g0 A0_0 c0_0 l0_0 A0_1 c0_1 l0_1 _ _ l2 false _ (zb BK0.out) (zC HR0_0.out HB.out) HC0_0.out (zC HR0_1.out HB.out) HC0_1.out (zC HR2.out HB.out) HC2.out A12.out).mono ?_); rintro e w15 ⟨rfl, hb⟩; refine ⟨_, rfl, ?_⟩; replace BK0 := zbl BK0.out hb; replace HB := zbs HB.out hb; (try clear hb)))
     go_ret
     exact ⟨zE, zB HB.out⟩

end
end Go.Proofs.Ytimjblgepbhoaaa.PStays

