import Derived.Test.YtchngbjpjbahiaaGreatDoorProg
import Derived.Below
import Derived.Deep.Draws
import Derived.Deep.AppendLies
import Derived.Maps.AppendAt
import Derived.OwnWalk
import Derived.Laws.BytesArg
import Derived.Laws.MakeOwn
import Derived.Laws.OwnMore
import Derived.Deep.OwnRows
import Derived.Tactics
import Derived.Lib.ConvBytes
import Derived.Laws.Slices
import Derived.WalkKit
import Derived.KernelRfl
import Derived.RowKit3
import Derived.Deep.LoopGhost
import Derived.Deep.QuietTactic
import Derived.BigQuiet
import Derived.WideLaws
import Derived.Deep.DeepCutAuto
import Derived.Deep.CutBlock
import Derived.Deep.RegionHeld3
import Derived.Laws.Rows
import Derived.Lib.AppendStr
import Derived.ArgAppend
import Derived.Laws.IdiomCopy
import Derived.OrdersHeld
import Derived.Laws.BitsLemmas
import Derived.RowKit
import Derived.Test.YtchngbjpjbahiaaGreatDoorShelf
import Derived.Test.YtchngbjpjbahiaaGreatDoorShelf
import Derived.Test.YtchngbjpjbahiaaGreatDoorShelf
import Derived.Test.YtchngbjpjbahiaaGreatDoorShelf
import Derived.Test.YtchngbjpjbahiaaGreatDoorWWords
import Derived.Test.YtchngbjpjbahiaaGreatDoorWLast
import Derived.Test.YtchngbjpjbahiaaGreatDoorWTab
import Derived.Test.YtchngbjpjbahiaaGreatDoorWFour
import Derived.Test.YtchngbjpjbahiaaGreatDoorWQPut
import Derived.Test.YtchngbjpjbahiaaGreatDoorWApart
import Derived.Test.YtchngbjpjbahiaaGreatDoorWArr
import Derived.Test.YtchngbjpjbahiaaGreatDoorWZeros
import Derived.Test.YtchngbjpjbahiaaGreatDoorWFoot
import Derived.Test.YtchngbjpjbahiaaGreatDoorWKept
import Derived.Test.YtchngbjpjbahiaaGreatDoorWShare
import Derived.Test.YtchngbjpjbahiaaGreatDoorWN
import Derived.Test.YtchngbjpjbahiaaGreatDoorWFootNe
import Derived.Test.YtchngbjpjbahiaaGreatDoorWAt
import Derived.Test.YtchngbjpjbahiaaGreatDoorWEqStruct
import Derived.Test.YtchngbjpjbahiaaGreatDoorWRepsOne
import Derived.Test.YtchngbjpjbahiaaGreatDoorWInv
import Derived.Test.YtchngbjpjbahiaaGreatDoorWInvWords
import Derived.Test.YtchngbjpjbahiaaGreatDoorWGuard
import Derived.Test.YtchngbjpjbahiaaGreatDoorWNEv
import Derived.Test.YtchngbjpjbahiaaGreatDoorWMore
namespace Go.Proofs.YtchngbjpjbahiaaGreatDoor.PSailz
open Go.RowKit Go.Proofs.YtchngbjpjbahiaaGreatDoorW.PrintWords Go.Proofs.YtchngbjpjbahiaaGreatDoorW.PrintLast Go.Proofs.YtchngbjpjbahiaaGreatDoorW.PrintMore
attribute [local go_sem] max2_int min2_int max_two min_two max_three min_three max_four min_four   -- for this text's walks alone
set_option linter.unusedVariables false
set_option linter.unusedSimpArgs false

def errW : Option Int → Value
  | none => .nilIface
  | some c => .iface 0 (.int .i64 c)
theorem errW_none : errW none = .nilIface := rfl
theorem errW_some (c : Int) : errW (some c) = .iface 0 (.int .i64 c) := rfl

theorem info2 : (Tryz.prog.info? 2).map (fun i => (i.zero, i.size, i.bytes)) = some (some (.int .i64 0), 1, 8) := by kernel_rfl
theorem info5 : (Tryz.prog.info? 5).map (fun i => (i.zero, i.size, i.bytes)) = some (some (.int .u8 0), 1, 1) := by kernel_rfl
theorem info9 : (Tryz.prog.info? 9).map (fun i => (i.zero, i.size, i.bytes)) = some (some (.string ⟨#[]⟩), 1, 16) := by kernel_rfl
theorem info47 : (Tryz.prog.info? 47).map (fun i => (i.zero, i.size, i.bytes)) = some (some (.agg #[(.int .i64 0), (.int .i64 0)]), 2, 16) := by kernel_rfl
structure S47 where
  f0 : Int
  f1 : Int
def z47 : S47 := ⟨(0 : Int), (0 : Int)⟩
def k47 : Kd S47 := Kd.iso (Kd.pair (Kd.int .i64) (Kd.int .i64)) (fun x : S47 => (x.f0, x.f1))
theorem k47_open {w : World} {x : S47} {cs : List Value} (h : k47.K w x cs) : cs = [.int .i64 x.f0, .int .i64 x.f1] := by
  obtain ⟨_, _, rfl, rfl, rfl⟩ := h
  exact rfl
theorem k47_openM {w : World} {base : Nat} {ok : Nat → Prop} {x : S47} {cs : List Value} (h : k47.M w base ok x cs) : cs = [.int .i64 x.f0, .int .i64 x.f1] := by
  obtain ⟨_, _, rfl, rfl, rfl⟩ := h
  exact rfl
theorem k47_mk (w : World) (x : S47)  : k47.K w x [.int .i64 x.f0, .int .i64 x.f1] := ⟨[.int .i64 x.f0], [.int .i64 x.f1], rfl, rfl, rfl⟩
theorem k47_mkM (w : World) (base : Nat) (ok : Nat → Prop) (x : S47)  : k47.M w base ok x [.int .i64 x.f0, .int .i64 x.f1] := ⟨[.int .i64 x.f0], [.int .i64 x.f1], rfl, rfl, rfl⟩
def rd_T47 (xs : List S47) (i : Int) : S47 := xs.getD i.toNat z47
theorem at_T47 {w : World} {A : Option Addr} {n : Nat} {xs : List S47} (h : Kd.C k47 w A n xs) (i : Int) (h0 : 0 ≤ i) (h1 : i < n) : ∃ ad , A = some ad ∧ w.cell? (ad.add (i.toNat * 2)) = some (.int .i64 (rd_T47 xs i).f0) ∧ w.cell? ⟨(ad.add (i.toNat * 2)).block, (ad.add (i.toNat * 2)).off + 1, none⟩ = some (.int .i64 (rd_T47 xs i).f1) := by
  obtain ⟨ad, c, e, _, hK, hc0⟩ := Kd.C_get h z47 i h0 h1
  have hc : ∀ j u, c[j]? = some u → w.cell? (ad.add (i.toNat * 2 + j)) = some u := hc0
  obtain rfl := k47_open hK
  exact ⟨ad, e, hc 0 _ rfl, by rw [← add_field _ _ 1 (by omega)]; exact hc 1 _ rfl⟩

section
variable {P : Program} {md : Region.Mode} {ops : Array Oper} {Q : Exit → Act → World → Prop} {S : World → Prop} {ds : List Nat}
def zm (n k : Nat) : Array Bool := ((List.range n).map (fun i => k.testBit i)).toArray
theorem zs {id : Nat} {a : Act} {w : World} (S : World → Prop) (ds : List Nat) (n : Nat) (hS : S w.drew) (h : S w.drew → wpAnyLast P .any ops Q S ds n (zm n 0) a w.drew) (hm : P.follows .mixedOrders = true := by kernel_rfl) (hn : ops.size = n := by rfl) (hl : Array.replicate n false = zm n 0 := by kernel_rfl) : (Code.region id ops true).wp P Q a w := start_ (zm n 0) hm hn hl hS h
theorem zp (i d : Nat) {n k : Nat} {oi : Oper} {v : Value} {fuel : Nat} {a a' : Act} {w : World} (h : wpAnyLast P md ops Q S ds fuel (zm n (k + 2 ^ i)) a' w) (hi : ops[i]? = some oi := by rfl) (hN : oi.dst = some d := by rfl) (hc : anyB md ops (zm n k) (zm n (k + 2 ^ i)) i = true := by (first | exact any_of HT_.out (by kernel_rfl) | kernel_rfl)) (hQ : ∀ c a w, Q (.panic c) (a.put oi.dst v) w → Q (.panic c) a w := by exact fun _ _ _ h => h)
    (hy : Yields P ops oi v a := by (refine Or.inl ⟨by rfl, ?_⟩; intro w'; go_simp; with_reducible rfl)) (ha : a.put (some d) v = a' := by (simp only [Act.put, List.setIfInBounds_toArray, List.set_cons_zero, List.set_cons_succ, i64_w, i32_w]; rfl)) : wpAnyLast P md ops Q S ds (fuel + 1) (zm n k) a w := pure_ (zm n (k + 2 ^ i)) hi hN hc hQ hy ha h
theorem zg (i d : Nat) {n k : Nat} {oi : Oper} {fuel : Nat} {a a' : Act} {w : World} (h : wpAnyLast P md ops Q S ds fuel (zm n (k + 2 ^ i)) a' w) (hi : ops[i]? = some oi := by rfl) (hN : oi.dst = some d := by rfl) (hc : anyB md ops (zm n k) (zm n (k + 2 ^ i)) i = true := by (first | exact any_of HT_.out (by kernel_rfl) | kernel_rfl)) (hQ : ∀ c a w, Q (.panic c) (a.put oi.dst undef) w → Q (.panic c) a w := by exact fun _ _ _ h => h)
    (hy : Yields P ops oi undef a := by exact Or.inr ⟨by rfl, rfl⟩) (ha : a.put (some d) undef = a' := by (simp only [Act.put, List.setIfInBounds_toArray, List.set_cons_zero, List.set_cons_succ, i64_w, i32_w]; rfl)) : wpAnyLast P md ops Q S ds (fuel + 1) (zm n k) a w := pure_ (zm n (k + 2 ^ i)) hi hN hc hQ hy ha h
theorem zt (i d : Nat) {n k : Nat} {oi : Oper} {v : Value} {fuel : Nat} {a a' : Act} {w : World} (hS : S w) (h : wpAnyLast P md ops Q S ds fuel (zm n (k + 2 ^ i)) a' w) (hi : ops[i]? = some oi := by rfl) (hN : oi.dst = some d := by rfl) (hc : takeB md ops ds (zm n k) (zm n (k + 2 ^ i)) i = true := by (first | exact take_ofW HT_.out HW_.out (by kernel_rfl) | exact take_of HT_.out (by kernel_rfl) | kernel_rfl)) (hQ : ∀ c a w, Q (.panic c) (a.put oi.dst v) w → Q (.panic c) a w := by exact fun _ _ _ h => h)
    (hy : YieldsIf P ops S oi v a := by (refine Or.inl ⟨by rfl, ?_⟩; (try simp only [and_imp]); intros; go_simp; with_reducible rfl)) (ha : a.put (some d) v = a' := by (simp only [Act.put, List.setIfInBounds_toArray, List.set_cons_zero, List.set_cons_succ, i64_w, i32_w]; rfl)) : wpAnyLast P md ops Q S ds (fuel + 1) (zm n k) a w := take_ (zm n (k + 2 ^ i)) hi hN hc hQ hy hS ha h
theorem zo (i : Nat) (N : Option Tmp) {n k : Nat} {oi : Oper} {fuel : Nat} {a : Act} {w : World} (h : ∀ K : Act → World → Prop, Shut (∀ a' w', S w' → (S w' → wpAnyLast P md ops Q S ds fuel (zm n (k + 2 ^ i)) a' w') → K a' w') → if Region.wanted oi (yielded ops a.tmps) = true then Oper.wp P oi a w K Q else K (a.put N undef) w) (hi : ops[i]? = some oi := by rfl) (hN : oi.dst = N := by rfl) (hc : readyB md ops (zm n k) (zm n (k + 2 ^ i)) i = true := by (first | exact one_of HT_.out (by kernel_rfl) | kernel_rfl)) (hd : i ∉ ds := by decide) : wpAnyLast P md ops Q S ds (fuel + 1) (zm n k) a w := one_ (zm n (k + 2 ^ i)) hi hN hc hd h
theorem zn (d : Nat) {v : Value} {fuel : Nat} {l : Array Bool} {a a0 a' : Act} {w : World} (h : wpAnyLast P md ops Q S ds fuel l a' w) (hd : a = a0.put (some d) v := by exact rfl) (ha : a0.put (some d) v = a' := by (simp only [Act.put, List.setIfInBounds_toArray, List.set_cons_zero, List.set_cons_succ, i64_w, i32_w]; rfl)) : wpAnyLast P md ops Q S ds fuel l a w := norm_ (hd.trans ha) h
theorem zl {l l' : Array Bool} {fuel : Nat} {a : Act} {w : World} (h : wpAnyLast P md ops Q S ds fuel l' a w) (hl : l = l' := by kernel_rfl) : wpAnyLast P md ops Q S ds fuel l a w := by subst hl; exact h
end
theorem zB {P Q : Prop} (h : Q) (hp : Q → P := by (intro h_; repeat (first | (with_reducible first | exact h_ | apply below_alloc | apply pw_below_drewN | apply below_drew1) | exact h_))) : P := hp h
theorem zB2 {P Q R : Prop} (h : Q) (g : R) (hp : Q → R → P := by (intro h_ g_; repeat (first | (with_reducible first | exact h_ | apply below_alloc | apply pw_below_drewN | apply below_drew1 | refine below_set ?_ g_) | exact h_))) : P := hp h g
theorem zB3 {P Q R T : Prop} (h : Q) (g : R) (f : T) (hp : Q → R → T → P := by (intro h_ g_ f_; repeat (first | (with_reducible first | exact h_ | apply below_alloc | apply pw_below_drewN | apply below_drew1 | refine below_set ?_ g_ | refine below_set ?_ f_) | exact h_))) : P := hp h g f
theorem zb {P Q : Prop} (h : Q) (hp : Q → P := by (intro h_; (with_reducible repeat (first | refine blk_drewN ?_ _ | refine blk_drew ?_ | refine blk_alloc ?_ _)); exact h_)) : P := hp h
theorem zR {P Q : Prop} (h : Q) (hp : Q → P := by (intro h_; (with_reducible repeat (first | apply Kd.R_alloc | apply Kd.R_drewN | apply Kd.R_drew)); exact h_)) : P := hp h
theorem zS {P Q : Prop} (h : Q) (hp : Q → P := by (intro h_; (with_reducible repeat (first | apply Kd.S_alloc | apply Kd.S_drewN | apply Kd.S_drew)); exact h_)) : P := hp h
theorem zA {P : Prop} (h : P := by (first | (with_reducible assumption) | assumption)) : P := h
theorem zC {P Q R : Prop} (h : Q) (b : R) (hp : Q → R → P := by (intro h_ b_; repeat (first | exact (Kd.C_below h_ b_) | (with_reducible refine Kd.C_alloc ?_ _) | (with_reducible refine Kd.C_drewN ?_ _) | (with_reducible refine Kd.C_drew ?_)))) : P := hp h b
theorem zw {w W : World} (hB : Below w.heap.size w W) {p : Addr} {v : Value} (h : w.cell? p = some v) : W.cell? p = some v := (hB.cell (World.block_lt_of_cell? w _ h)).trans h
section
variable {P : Program} {ops : Array Oper} {rest : List Oper} {o : Oper} {a : Act} {Q : Exit → Act → World → Prop}
theorem zbx {W : World} {N : Tmp} {cs : Array Value} {t : TypeId} (h : ∀ g, g = W.heap.size → ∀ w1, w1.heap[g]? = some (.cells cs t (0, 0)) → Below W.heap.size W w1 → wpList P ops Q rest (a.put o.dst (.pointer (some ⟨g, 0, none⟩))) w1) (hgd : o.guard = none := by rfl) (hd : o.dst = some N := by rfl) (hrun : (execOp a.eval o).run P W = .ok (.value (.pointer (some ⟨W.heap.size, 0, none⟩))) (W.alloc (.cells cs t (0, 0))) := by (first | (go_simp; done) | (go_simp; rfl))) : wpList P ops Q (o :: rest) a W := box_event hgd hd hrun h
end
theorem zM {P : Prop} (h : P := by ((try simp only [List.map_toArray, List.map_cons, List.map_nil]); first | done | rfl | (simp only [List.length_drop, List.length_take]; rfl))) : P := h
theorem zE {P : Prop} (h : P := by (first | rfl | (simp [errW_none, errW_some] <;> rfl) | (simp [*, errW_none, errW_some] <;> rfl))) : P := h
theorem zF {P : Prop} (h : P := by (first | rfl | (simp; done) | (simp [*]; done))) : P := h
theorem zQ {p : Prop} (h : p) : Aside0 p := ⟨h⟩
theorem zgz {w w' W : World} {g : Nat} (hg : g = W.heap.size) (h : Below w.heap.size w w') (hp : Below w.heap.size w w' → Below w.heap.size w W := by (intro h_; repeat (first | (with_reducible first | exact h_ | apply below_alloc | apply pw_below_drewN | apply below_drew1) | exact h_))) : Aside0 (w.heap.size ≤ g) := ⟨hg ▸ below_size (hp h)⟩
theorem zgz2 {w w' W : World} {g : Nat} {R : Prop} (hg : g = W.heap.size) (h : Below w.heap.size w w') (f : R) (hp : Below w.heap.size w w' → R → Below w.heap.size w W := by (intro h_ g_; repeat (first | (with_reducible first | exact h_ | apply below_alloc | apply pw_below_drewN | apply below_drew1 | refine below_set ?_ g_) | exact h_))) : Aside0 (w.heap.size ≤ g) := ⟨hg ▸ below_size (hp h f)⟩
theorem zbl {w0 w w1 : World} {g : Nat} {o : Obj} (h : w0.heap[g]? = some o) (hb : Below w.heap.size w w1) (hq : w0.heap[g]? = some o → w.heap[g]? = some o := by (intro h_; (with_reducible repeat (first | refine blk_drewN ?_ _ | refine blk_drew ?_ | refine blk_alloc ?_ _)); exact h_)) : Aside0 (w1.heap[g]? = some o) := ⟨blk_below (hq h) hb⟩
theorem zbs {w w' W w2 : World} (h : Below w.heap.size w w') (k : Below W.heap.size W w2) (hp : Below w.heap.size w w' → Below w.heap.size w W := by (intro h_; repeat (first | (with_reducible first | exact h_ | apply below_alloc | apply pw_below_drewN | apply below_drew1) | exact h_))) : Aside0 (Below w.heap.size w w2) := ⟨below_step (hp h) k⟩
theorem zbs2 {w w' W w2 : World} {R : Prop} (h : Below w.heap.size w w') (f : R) (k : Below W.heap.size W w2) (hp : Below w.heap.size w w' → R → Below w.heap.size w W := by (intro h_ g_; repeat (first | (with_reducible first | exact h_ | apply below_alloc | apply pw_below_drewN | apply below_drew1 | refine below_set ?_ g_) | exact h_))) : Aside0 (Below w.heap.size w w2) := ⟨below_step (hp h f) k⟩
section
variable {w : World} {g : Nat} {t : TypeId} {a b c d : Value} {l : List Value}
theorem zc0 (h : w.heap[g]? = some (.cells (List.toArray (a :: l)) t (0, 0))) : w.cell? ⟨g, 0, none⟩ = some a := (blk_cell h 0).trans rfl
theorem zc1 (h : w.heap[g]? = some (.cells (List.toArray (a :: b :: l)) t (0, 0))) : w.cell? ⟨g, 1, none⟩ = some b := (blk_cell h 1).trans rfl
theorem zc2 (h : w.heap[g]? = some (.cells (List.toArray (a :: b :: c :: l)) t (0, 0))) : w.cell? ⟨g, 2, none⟩ = some c := (blk_cell h 2).trans rfl
theorem zc3 (h : w.heap[g]? = some (.cells (List.toArray (a :: b :: c :: d :: l)) t (0, 0))) : w.cell? ⟨g, 3, none⟩ = some d := (blk_cell h 3).trans rfl
theorem zfz {cs : Array Value} (h : w.heap[g]? = some (.cells cs t (0, 0))) (i : Nat) : w.frozen? ⟨g, i, none⟩ = false := blk_frozen h i
end
theorem zh {P Q : Prop} (H : P) (h : P = Q := by (first | with_reducible rfl | (subst_vars; first | with_reducible rfl | rfl))) : Q := h ▸ H
theorem zi {α : Type} {p : Prop} [Decidable p] {a : Option α} {r : α} (H : (if p then a else none) = some r) : p ∧ a = some r := if h : p then ⟨h, (if_pos h).symm.trans H⟩ else absurd ((if_neg h).symm.trans H) (by simp)
section
variable {P : Program} {ops : Array Oper} {rest : List Oper} {o : Oper} {a : Act} {Q : Exit → Act → World → Prop} {W : World}
theorem zd (N : Tmp) (h : wpList P ops Q (o :: rest) a W) (_hN : o.dst = some N := by with_reducible rfl) : wpList P ops Q (o :: rest) a W := h
theorem zgc (f : FuncId) {xs : Array Operand} {ts : Array TypeId} (h : wpList P ops Q (o :: rest) a W) (_ho : o.op = .call { callee := .value (.func f), args := xs, argTypes := ts } := by with_reducible rfl) : wpList P ops Q (o :: rest) a W := h
theorem zgo (N : Option Tmp) {f : FuncId} {fn : Func} (hf : P.funcs[f]? = some fn) (args : Array Value) {xs : Array Operand} {ts : Array TypeId} (h : Calls P f args W fun e w' => ∃ v, e = .returned v ∧ wpList P ops Q rest (a.put N v) w') (hop : o.op = .call { callee := .value (.func f), args := xs, argTypes := ts } := by rfl) (hargs : xs.map a.eval = args := by ((try simp only [List.map_toArray, List.map_cons, List.map_nil]); first | done | rfl | (simp only [List.length_drop, List.length_take]; rfl))) (hd : o.dst = N := by rfl) (hg : o.guard = none := by rfl) (hname : (fn.name == "runtime.NumGoroutine") = false := by kernel_rfl) (hb : fn.body.isSome = true := by rfl) : wpList P ops Q (o :: rest) a W := goesL_ N hd hg hf hname hb args hop hargs h
end
theorem zob {α β : Type} {x : Option α} {f : α → Option β} {b : β} (H : x.bind f = some b) : ∃ a, Aside0 (x = some a) ∧ f a = some b := (Option.bind_eq_some_iff.mp H).elim fun a h => ⟨a, ⟨h.1⟩, h.2⟩
section
variable {w0 w W w1 : World} {a b g : Nat} {o : Obj} {t : TypeId} {v0 v1 v2 v3 : Value}
theorem zn1 (hg : b = W.heap.size) (h : w0.heap[a]? = some o) (hp : w0.heap[a]? = some o → W.heap[a]? = some o := by (intro h_; (with_reducible repeat (first | refine blk_drewN ?_ _ | refine blk_drew ?_ | refine blk_alloc ?_ _)); exact h_)) : Aside0 (a ≠ b) := ⟨by rw [hg]; exact Nat.ne_of_lt (blk_lt (hp h))⟩
theorem zn2 (hg : b = W.heap.size) (h : w0.heap[a]? = some o) (hp : w0.heap[a]? = some o → W.heap[a]? = some o := by (intro h_; (with_reducible repeat (first | refine blk_drewN ?_ _ | refine blk_drew ?_ | refine blk_alloc ?_ _)); exact h_)) : Aside0 (b ≠ a) := ⟨by rw [hg]; exact Nat.ne_of_gt (blk_lt (hp h))⟩
theorem zy1 (h : w.heap[g]? = some (.cells #[v0] t (0, 0))) : w.cell? ⟨g, 0, none⟩ = some v0 ∧ w.frozen? ⟨g, 0, none⟩ = false := ⟨zc0 h, zfz h 0⟩
theorem zy2 (h : w.heap[g]? = some (.cells #[v0, v1] t (0, 0))) : w.cell? ⟨g, 0, none⟩ = some v0 ∧ w.cell? ⟨g, 1, none⟩ = some v1 ∧ w.frozen? ⟨g, 0, none⟩ = false ∧ w.frozen? ⟨g, 1, none⟩ = false := ⟨zc0 h, zc1 h, zfz h 0, zfz h 1⟩
theorem zy3 (h : w.heap[g]? = some (.cells #[v0, v1, v2] t (0, 0))) : w.cell? ⟨g, 0, none⟩ = some v0 ∧ w.cell? ⟨g, 1, none⟩ = some v1 ∧ w.cell? ⟨g, 2, none⟩ = some v2 ∧ w.frozen? ⟨g, 0, none⟩ = false ∧ w.frozen? ⟨g, 1, none⟩ = false ∧ w.frozen? ⟨g, 2, none⟩ = false := ⟨zc0 h, zc1 h, zc2 h, zfz h 0, zfz h 1, zfz h 2⟩
theorem zRb {α : Type} {d : Kd α} {e base : Nat} {ok : Nat → Prop} {v : Value} {xs : List α} (h : Kd.R d e w0 base ok v xs) (hb : Below w.heap.size w w1) (hp : Kd.R d e w0 base ok v xs → Kd.R d e w base ok v xs := by (intro h_; (with_reducible repeat (first | apply Kd.R_alloc | apply Kd.R_drewN | apply Kd.R_drew)); exact h_)) : Aside0 (Kd.R d e w1 base ok v xs) := ⟨Kd.R_below (hp h) hb⟩
end
theorem zD {p : Prop} [Decidable p] (h : decide p = true := by (first | (with_reducible assumption) | assumption)) : p := of_decide_eq_true h
theorem zk {P Q : Prop} (h : Q) (hp : Q → P := by (intro h_; repeat (first | exact h_ | (with_reducible refine Kd.C_alloc ?_ _) | (with_reducible refine Kd.C_drewN ?_ _) | (with_reducible refine Kd.C_drew ?_)))) : P := hp h
theorem zM0 {P : Prop} (h : P := by ((with_reducible repeat' first | apply ih0 | apply ih1 | apply ih2 | apply ih3 | apply m0 | apply m1 | apply m2 | apply m3 | apply m4 | apply m5 | apply m6 | apply m7 | apply m8 | apply m9 | apply LeO.refl | apply LeO.none | refine LeO.ite ?_ ?_ | refine LeO.bind ?_ (fun _ => ?_)); repeat' first | apply ih0 | apply ih1 | apply ih2 | apply ih3 | apply m0 | apply m1 | apply m2 | apply m3 | apply m4 | apply m5 | apply m6 | apply m7 | apply m8 | apply m9 | apply LeO.none | refine LeO.ite ?_ ?_ | refine LeO.bind ?_ (fun _ => ?_))) : P := h
theorem zCb {α : Type} {d : Kd α} {w0 w w1 : World} {A : Option Addr} {n : Nat} {xs : List α} (h : Kd.C d w0 A n xs) (hb : Below w.heap.size w w1) (hp : Kd.C d w0 A n xs → Kd.C d w A n xs := by (intro h_; repeat (first | (with_reducible exact h_) | (with_reducible refine Kd.C_alloc ?_ _) | (with_reducible refine Kd.C_drewN ?_ _) | (with_reducible refine Kd.C_drew ?_) | exact h_))) : Aside0 (Kd.C d w1 A n xs) := ⟨Kd.C_below (hp h) hb⟩
end Go.Proofs.YtchngbjpjbahiaaGreatDoor.PSailz

