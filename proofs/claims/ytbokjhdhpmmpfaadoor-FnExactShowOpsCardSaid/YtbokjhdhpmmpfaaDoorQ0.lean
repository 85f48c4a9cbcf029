-- Written by wip/tools/qprint.py (a program of this claim's author) by means of the kit's printer.
import Derived.Test.YtbokjhdhpmmpfaaDoorProg
import Derived.Below
import Derived.Deep.Draws
import Derived.Deep.AppendLies
import Derived.Maps.AppendAt
import Derived.OwnWalk
import Derived.Laws.BytesArg
import Derived.Laws.MakeOwn
import Derived.Laws.OwnMore
import Derived.Deep.OwnRows
import Derived.Tactics
import Derived.Lib.ConvBytes
import Derived.Laws.Slices
import Derived.WalkKit
import Derived.KernelRfl
import Derived.RowKit3
import Derived.Deep.LoopGhost
import Derived.Deep.QuietTactic
import Derived.BigQuiet
import Derived.WideLaws
import Derived.Deep.DeepCutAuto
import Derived.Deep.CutBlock
import Derived.Deep.RegionHeld3
import Derived.Laws.Rows
import Derived.Lib.AppendStr
import Derived.ArgAppend
import Derived.Laws.IdiomCopy
import Derived.OrdersHeld
import Derived.Laws.BitsLemmas
import Derived.RowKit
import Derived.Test.YtbokjhdhpmmpfaaDoorWWords
import Derived.Test.YtbokjhdhpmmpfaaDoorWLast
import Derived.Test.YtbokjhdhpmmpfaaDoorWTab
import Derived.Test.YtbokjhdhpmmpfaaDoorWFour
import Derived.Test.YtbokjhdhpmmpfaaDoorWQPut
import Derived.Test.YtbokjhdhpmmpfaaDoorWApart
import Derived.Test.YtbokjhdhpmmpfaaDoorWArr
import Derived.Test.YtbokjhdhpmmpfaaDoorWZeros
import Derived.Test.YtbokjhdhpmmpfaaDoorWFoot
import Derived.Test.YtbokjhdhpmmpfaaDoorWKept
import Derived.Test.YtbokjhdhpmmpfaaDoorWShare
import Derived.Test.YtbokjhdhpmmpfaaDoorWN
import Derived.Test.YtbokjhdhpmmpfaaDoorWFootNe
import Derived.Test.YtbokjhdhpmmpfaaDoorWAt
import Derived.Test.YtbokjhdhpmmpfaaDoorWEqStruct
import Derived.Test.YtbokjhdhpmmpfaaDoorWRepsOne
import Derived.Test.YtbokjhdhpmmpfaaDoorWInv
import Derived.Test.YtbokjhdhpmmpfaaDoorWInvWords
import Derived.Test.YtbokjhdhpmmpfaaDoorWGuard
import Derived.Test.YtbokjhdhpmmpfaaDoorWNEv
import Derived.Test.YtbokjhdhpmmpfaaDoorWMore
namespace Go.Proofs.YtbokjhdhpmmpfaaDoor.Q
open Go.RowKit Go.Proofs.YtbokjhdhpmmpfaaDoorW.PrintWords Go.Proofs.YtbokjhdhpmmpfaaDoorW.PrintLast Go.Proofs.YtbokjhdhpmmpfaaDoorW.PrintMore
attribute [local go_sem] max2_int min2_int max_two min_two max_three min_three max_four min_four   -- for this text's walks alone
set_option linter.unusedVariables false
set_option linter.unusedSimpArgs false



def errW : Option Int → Value
  | none => .nilIface
  | some c => .iface 0 (.int .i64 c)
theorem errW_none : errW none = .nilIface := rfl
theorem errW_some (c : Int) : errW (some c) = .iface 0 (.int .i64 c) := rfl

theorem info9 : (Tryd.prog.info? 9).map (fun i => (i.zero, i.size, i.bytes)) = some (some (.string ⟨#[]⟩), 1, 16) := by kernel_rfl
theorem info32 : (Tryd.prog.info? 32).map (fun i => (i.zero, i.size, i.bytes)) = some (some (.agg #[(.int .i64 0), (.int .i64 0)]), 2, 16) := by kernel_rfl
-- the values' own types
/-! #### struct type 34 -/
structure S34 where
  f0 : Int
  f1 : Int
def z34 : S34 := ⟨(0 : Int), (0 : Int)⟩
def k34 : Kd S34 := Kd.iso (Kd.pair (Kd.int .i64) (Kd.int .i64)) (fun x : S34 => (x.f0, x.f1))
theorem k34_open {w : World} {x : S34} {cs : List Value} (h : k34.K w x cs) : cs = [.int .i64 x.f0, .int .i64 x.f1] := by
  obtain ⟨_, _, rfl, rfl, rfl⟩ := h
  exact rfl
theorem k34_openM {w : World} {base : Nat} {ok : Nat → Prop} {x : S34} {cs : List Value} (h : k34.M w base ok x cs) : cs = [.int .i64 x.f0, .int .i64 x.f1] := by
  obtain ⟨_, _, rfl, rfl, rfl⟩ := h
  exact rfl
theorem k34_mk (w : World) (x : S34)  : k34.K w x [.int .i64 x.f0, .int .i64 x.f1] := ⟨[.int .i64 x.f0], [.int .i64 x.f1], rfl, rfl, rfl⟩
theorem k34_mkM (w : World) (base : Nat) (ok : Nat → Prop) (x : S34)  : k34.M w base ok x [.int .i64 x.f0, .int .i64 x.f1] := ⟨[.int .i64 x.f0], [.int .i64 x.f1], rfl, rfl, rfl⟩
def rd_T34 (xs : List S34) (i : Int) : S34 := xs.getD i.toNat z34
theorem at_T34 {w : World} {A : Option Addr} {n : Nat} {xs : List S34} (h : Kd.C k34 w A n xs) (i : Int) (h0 : 0 ≤ i) (h1 : i < n) : ∃ ad , A = some ad ∧ w.cell? (ad.add (i.toNat * 2)) = some (.int .i64 (rd_T34 xs i).f0) ∧ w.cell? ⟨(ad.add (i.toNat * 2)).block, (ad.add (i.toNat * 2)).off + 1, none⟩ = some (.int .i64 (rd_T34 xs i).f1) := by
  obtain ⟨ad, c, e, _, hK, hc0⟩ := Kd.C_get h z34 i h0 h1
  have hc : ∀ j u, c[j]? = some u → w.cell? (ad.add (i.toNat * 2 + j)) = some u := hc0
  obtain rfl := k34_open hK
  exact ⟨ad, e, hc 0 _ rfl, by rw [← add_field _ _ 1 (by omega)]; exact hc 1 _ rfl⟩

/-! #### struct type 32 -/
structure S32 where
  f0 : Int
  f1 : Int
def z32 : S32 := ⟨(0 : Int), (0 : Int)⟩
def k32 : Kd S32 := Kd.iso (Kd.pair (Kd.int .i64) (Kd.int .i64)) (fun x : S32 => (x.f0, x.f1))
theorem k32_open {w : World} {x : S32} {cs : List Value} (h : k32.K w x cs) : cs = [.int .i64 x.f0, .int .i64 x.f1] := by
  obtain ⟨_, _, rfl, rfl, rfl⟩ := h
  exact rfl
theorem k32_openM {w : World} {base : Nat} {ok : Nat → Prop} {x : S32} {cs : List Value} (h : k32.M w base ok x cs) : cs = [.int .i64 x.f0, .int .i64 x.f1] := by
  obtain ⟨_, _, rfl, rfl, rfl⟩ := h
  exact rfl
theorem k32_mk (w : World) (x : S32)  : k32.K w x [.int .i64 x.f0, .int .i64 x.f1] := ⟨[.int .i64 x.f0], [.int .i64 x.f1], rfl, rfl, rfl⟩
theorem k32_mkM (w : World) (base : Nat) (ok : Nat → Prop) (x : S32)  : k32.M w base ok x [.int .i64 x.f0, .int .i64 x.f1] := ⟨[.int .i64 x.f0], [.int .i64 x.f1], rfl, rfl, rfl⟩
def rd_T32 (xs : List S32) (i : Int) : S32 := xs.getD i.toNat z32
theorem at_T32 {w : World} {A : Option Addr} {n : Nat} {xs : List S32} (h : Kd.C k32 w A n xs) (i : Int) (h0 : 0 ≤ i) (h1 : i < n) : ∃ ad , A = some ad ∧ w.cell? (ad.add (i.toNat * 2)) = some (.int .i64 (rd_T32 xs i).f0) ∧ w.cell? ⟨(ad.add (i.toNat * 2)).block, (ad.add (i.toNat * 2)).off + 1, none⟩ = some (.int .i64 (rd_T32 xs i).f1) := by
  obtain ⟨ad, c, e, _, hK, hc0⟩ := Kd.C_get h z32 i h0 h1
  have hc : ∀ j u, c[j]? = some u → w.cell? (ad.add (i.toNat * 2 + j)) = some u := hc0
  obtain rfl := k32_open hK
  exact ⟨ad, e, hc 0 _ rfl, by rw [← add_field _ _ 1 (by omega)]; exact hc 1 _ rfl⟩

def rd_L5 (xs : List (List S32)) (i : Int) : (List S32) := xs.getD i.toNat ([] : List S32)
theorem at_L5 {w : World} {A : Option Addr} {n : Nat} {xs : List (List S32)} (h : Kd.C (Kd.slice 32 k32) w A n xs) (i : Int) (h0 : 0 ≤ i) (h1 : i < n) : ∃ ad A0 c0, A = some ad ∧ w.cell? (ad.add i.toNat) = some (.slice A0 (rd_L5 xs i).length c0) ∧ (rd_L5 xs i).length ≤ c0 ∧ k32.C w A0 (rd_L5 xs i).length (rd_L5 xs i) := by
  obtain ⟨ad, c, e, _, hK, hc0⟩ := Kd.C_get h ([] : List S32) i h0 h1
  have hc : ∀ j u, c[j]? = some u → w.cell? (ad.add (i.toNat * 1 + j)) = some u := hc0
  obtain ⟨A0, c0, rfl, l0, g0⟩ := hK
  exact ⟨ad, A0, c0, e, by have hq := hc 0 _ rfl; rwa [Nat.mul_one, Nat.add_zero] at hq, l0, g0⟩

def rd_L6 (xs : List (List S34)) (i : Int) : (List S34) := xs.getD i.toNat ([] : List S34)
theorem at_L6 {w : World} {A : Option Addr} {n : Nat} {xs : List (List S34)} (h : Kd.C (Kd.slice 34 k34) w A n xs) (i : Int) (h0 : 0 ≤ i) (h1 : i < n) : ∃ ad A0 c0, A = some ad ∧ w.cell? (ad.add i.toNat) = some (.slice A0 (rd_L6 xs i).length c0) ∧ (rd_L6 xs i).length ≤ c0 ∧ k34.C w A0 (rd_L6 xs i).length (rd_L6 xs i) := by
  obtain ⟨ad, c, e, _, hK, hc0⟩ := Kd.C_get h ([] : List S34) i h0 h1
  have hc : ∀ j u, c[j]? = some u → w.cell? (ad.add (i.toNat * 1 + j)) = some u := hc0
  obtain ⟨A0, c0, rfl, l0, g0⟩ := hK
  exact ⟨ad, A0, c0, e, by have hq := hc 0 _ rfl; rwa [Nat.mul_one, Nat.add_zero] at hq, l0, g0⟩

/-! Short names. -/
theorem As_ {p : Prop} (h : p) : Aside0 p := ⟨h⟩
theorem bwN {B : Nat} {w W : World} (h : Below B w W) (n : Nat) : Below B w (W.drewN n) := pw_below_drewN h n
theorem bwD {base : Nat} {w W : World} (h : Below base w W) : Below base w W.drew := below_drew1 h
theorem bwA {w W : World} (h : Below w.heap.size w W) (o : Obj) : Below w.heap.size w (W.alloc o) := below_alloc h o
theorem bwS {w W : World} {g j : Nat} {v : Value} (h : Below w.heap.size w W) (hg : w.heap.size ≤ g) : Below w.heap.size w (W.setCell ⟨g, j, none⟩ v) := below_set h hg
theorem bwZ {w W : World} (h : Below w.heap.size w W) : w.heap.size ≤ W.heap.size := below_size h
theorem bwT {w W w2 : World} (h : Below w.heap.size w W) (k : Below W.heap.size W w2) : Below w.heap.size w w2 := below_step h k
theorem bwL (w : World) (a : Addr) {u : Value} (h : w.cell? a = some u) : a.block < w.heap.size := World.block_lt_of_cell? w a h
theorem bkA {w : World} {g : Nat} {o : Obj} (h : w.heap[g]? = some o) (o' : Obj) : (w.alloc o').heap[g]? = some o := blk_alloc h o'
theorem bkN {w : World} {g : Nat} {o : Obj} (h : w.heap[g]? = some o) (n : Nat) : (w.drewN n).heap[g]? = some o := blk_drewN h n
theorem bkD {w : World} {g : Nat} {o : Obj} (h : w.heap[g]? = some o) : w.drew.heap[g]? = some o := blk_drew h
theorem bkC {w : World} {g : Nat} {t : TypeId} {cs : Array Value} (h : w.heap[g]? = some (.cells cs t (0, 0))) (i : Nat) : w.cell? ⟨g, i, none⟩ = cs[i]? := blk_cell h i
theorem bkF {w : World} {g : Nat} {t : TypeId} {cs : Array Value} (h : w.heap[g]? = some (.cells cs t (0, 0))) (i : Nat) : w.frozen? ⟨g, i, none⟩ = false := blk_frozen h i
theorem odT {p : Prop} [inst : Decidable p] (h : decide p = true) : p := of_decide_eq_true h
theorem deT {p : Prop} [inst : Decidable p] (h : p) : decide p = true := decide_eq_true h
theorem deF {p : Prop} [inst : Decidable p] (h : ¬p) : decide p = false := decide_eq_false h
theorem obS {α β : Type} {b : β} {o : Option α} {f : α → Option β} (h : o.bind f = some b) : ∃ a, o = some a ∧ f a = some b := Option.bind_eq_some_iff.mp h
theorem zk_ {P Q : Prop} (h : P) (f : P → Q := by intro h_; (with_reducible repeat (first | refine bkN ?_ _ | refine bkD ?_ | refine bkA ?_ _)); exact h_) : Q := f h
theorem zkb {w w1 w2 : World} {g : Nat} {o : Obj} (h : w.heap[g]? = some o) (hb : Below w1.heap.size w1 w2) (f : w.heap[g]? = some o → w1.heap[g]? = some o := by intro h_; (with_reducible repeat (first | refine bkN ?_ _ | refine bkD ?_ | refine bkA ?_ _)); exact h_) : w2.heap[g]? = some o := blk_below (f h) hb
theorem zkl {w w1 : World} {g : Nat} {o : Obj} (h : w.heap[g]? = some o) (f : w.heap[g]? = some o → w1.heap[g]? = some o := by intro h_; (with_reducible repeat (first | refine bkN ?_ _ | refine bkD ?_ | refine bkA ?_ _)); exact h_) : g < w1.heap.size := blk_lt (f h)
theorem zR_ {P Q : Prop} (h : P) (f : P → Q := by intro h_; (with_reducible repeat (first | apply Kd.R_alloc | apply Kd.R_drewN | apply Kd.R_drew)); exact h_) : Q := f h
theorem zS_ {P Q : Prop} (h : P) (f : P → Q := by intro h_; (with_reducible repeat (first | apply Kd.S_alloc | apply Kd.S_drewN | apply Kd.S_drew)); exact h_) : Q := f h
theorem zN_ {P Q : Prop} (h : P) (f : P → Q := by intro h_; (with_reducible repeat (first | apply Kd.N_alloc | apply Kd.N_drewN | apply Kd.N_drew)); exact h_) : Q := f h
theorem zb0 {P Q : Prop} (h : P) (f : P → Q := by intro h_; repeat (first | (with_reducible first | exact h_ | apply bwA | apply bwN | apply bwD) | exact h_)) : Q := f h
theorem zb1 {P Q A : Prop} (h : P) (a : A) (f : P → A → Q := by intro h_ a_; repeat (first | (with_reducible first | exact h_ | apply bwA | apply bwN | apply bwD | refine bwS ?_ a_) | exact h_)) : Q := f h a
theorem zb2 {P Q A B : Prop} (h : P) (a : A) (b : B) (f : P → A → B → Q := by intro h_ a_ b_; repeat (first | (with_reducible first | exact h_ | apply bwA | apply bwN | apply bwD | refine bwS ?_ a_ | refine bwS ?_ b_) | exact h_)) : Q := f h a b
theorem zb3 {P Q A B C : Prop} (h : P) (a : A) (b : B) (c : C) (f : P → A → B → C → Q := by intro h_ a_ b_ c_; repeat (first | (with_reducible first | exact h_ | apply bwA | apply bwN | apply bwD | refine bwS ?_ a_ | refine bwS ?_ b_ | refine bwS ?_ c_) | exact h_)) : Q := f h a b c
theorem zb4 {P Q A B C D : Prop} (h : P) (a : A) (b : B) (c : C) (d : D) (f : P → A → B → C → D → Q := by intro h_ a_ b_ c_ d_; repeat (first | (with_reducible first | exact h_ | apply bwA | apply bwN | apply bwD | refine bwS ?_ a_ | refine bwS ?_ b_ | refine bwS ?_ c_ | refine bwS ?_ d_) | exact h_)) : Q := f h a b c d
theorem zb5 {P Q A B C D E : Prop} (h : P) (a : A) (b : B) (c : C) (d : D) (e : E) (f : P → A → B → C → D → E → Q := by intro h_ a_ b_ c_ d_ e_; repeat (first | (with_reducible first | exact h_ | apply bwA | apply bwN | apply bwD | refine bwS ?_ a_ | refine bwS ?_ b_ | refine bwS ?_ c_ | refine bwS ?_ d_ | refine bwS ?_ e_) | exact h_)) : Q := f h a b c d e
theorem zb6 {P Q A B C D E G : Prop} (h : P) (a : A) (b : B) (c : C) (d : D) (e : E) (g : G) (f : P → A → B → C → D → E → G → Q := by intro h_ a_ b_ c_ d_ e_ g_; repeat (first | (with_reducible first | exact h_ | apply bwA | apply bwN | apply bwD | refine bwS ?_ a_ | refine bwS ?_ b_ | refine bwS ?_ c_ | refine bwS ?_ d_ | refine bwS ?_ e_ | refine bwS ?_ g_) | exact h_)) : Q := f h a b c d e g
theorem zkp0 {P Q : Prop} (h : P) (f : P → Q := by intro h_; repeat (first | (with_reducible first | exact h_ | apply KeepBut.set_ | apply keep_drewN | apply keep_drew | apply keep_alloc) | exact h_)) : Q := f h
theorem zkp1 {P Q A : Prop} (h : P) (a : A) (f : P → A → Q := by intro h_ a_; repeat (first | (with_reducible first | exact h_ | apply KeepBut.set_ | apply keep_drewN | apply keep_drew | apply keep_alloc | refine keep_far ?_ a_ _) | exact h_)) : Q := f h a
theorem zkp2 {P Q A B : Prop} (h : P) (a : A) (b : B) (f : P → A → B → Q := by intro h_ a_ b_; repeat (first | (with_reducible first | exact h_ | apply KeepBut.set_ | apply keep_drewN | apply keep_drew | apply keep_alloc | refine keep_far ?_ a_ _ | refine keep_far ?_ b_ _) | exact h_)) : Q := f h a b
theorem zkp3 {P Q A B C : Prop} (h : P) (a : A) (b : B) (c : C) (f : P → A → B → C → Q := by intro h_ a_ b_ c_; repeat (first | (with_reducible first | exact h_ | apply KeepBut.set_ | apply keep_drewN | apply keep_drew | apply keep_alloc | refine keep_far ?_ a_ _ | refine keep_far ?_ b_ _ | refine keep_far ?_ c_ _) | exact h_)) : Q := f h a b c
theorem zkp4 {P Q A B C D : Prop} (h : P) (a : A) (b : B) (c : C) (d : D) (f : P → A → B → C → D → Q := by intro h_ a_ b_ c_ d_; repeat (first | (with_reducible first | exact h_ | apply KeepBut.set_ | apply keep_drewN | apply keep_drew | apply keep_alloc | refine keep_far ?_ a_ _ | refine keep_far ?_ b_ _ | refine keep_far ?_ c_ _ | refine keep_far ?_ d_ _) | exact h_)) : Q := f h a b c d
theorem zkp5 {P Q A B C D E : Prop} (h : P) (a : A) (b : B) (c : C) (d : D) (e : E) (f : P → A → B → C → D → E → Q := by intro h_ a_ b_ c_ d_ e_; repeat (first | (with_reducible first | exact h_ | apply KeepBut.set_ | apply keep_drewN | apply keep_drew | apply keep_alloc | refine keep_far ?_ a_ _ | refine keep_far ?_ b_ _ | refine keep_far ?_ c_ _ | refine keep_far ?_ d_ _ | refine keep_far ?_ e_ _) | exact h_)) : Q := f h a b c d e
theorem zkp6 {P Q A B C D E G : Prop} (h : P) (a : A) (b : B) (c : C) (d : D) (e : E) (g : G) (f : P → A → B → C → D → E → G → Q := by intro h_ a_ b_ c_ d_ e_ g_; repeat (first | (with_reducible first | exact h_ | apply KeepBut.set_ | apply keep_drewN | apply keep_drew | apply keep_alloc | refine keep_far ?_ a_ _ | refine keep_far ?_ b_ _ | refine keep_far ?_ c_ _ | refine keep_far ?_ d_ _ | refine keep_far ?_ e_ _ | refine keep_far ?_ g_ _) | exact h_)) : Q := f h a b c d e g
theorem zq0 {P Q : Prop} (h : P) (f : P → Q := by intro h_; repeat (first | (with_reducible first | exact h_ | apply Kept.alloc | apply Kept.drewN | apply Kept.drew | refine Kept.setCell ?_ (.inl (.inr rfl)) _) | exact h_)) : Q := f h
theorem zq1 {P Q A : Prop} (h : P) (a : A) (f : P → A → Q := by intro h_ a_; repeat (first | (with_reducible first | exact h_ | apply Kept.alloc | apply Kept.drewN | apply Kept.drew | refine Kept.setCell ?_ (.inl (.inr rfl)) _ | refine Kept.setCell ?_ (.inr a_) _) | exact h_)) : Q := f h a
theorem zq2 {P Q A B : Prop} (h : P) (a : A) (b : B) (f : P → A → B → Q := by intro h_ a_ b_; repeat (first | (with_reducible first | exact h_ | apply Kept.alloc | apply Kept.drewN | apply Kept.drew | refine Kept.setCell ?_ (.inl (.inr rfl)) _ | refine Kept.setCell ?_ (.inr a_) _ | refine Kept.setCell ?_ (.inr b_) _) | exact h_)) : Q := f h a b
theorem zq3 {P Q A B C : Prop} (h : P) (a : A) (b : B) (c : C) (f : P → A → B → C → Q := by intro h_ a_ b_ c_; repeat (first | (with_reducible first | exact h_ | apply Kept.alloc | apply Kept.drewN | apply Kept.drew | refine Kept.setCell ?_ (.inl (.inr rfl)) _ | refine Kept.setCell ?_ (.inr a_) _ | refine Kept.setCell ?_ (.inr b_) _ | refine Kept.setCell ?_ (.inr c_) _) | exact h_)) : Q := f h a b c
theorem zq4 {P Q A B C D : Prop} (h : P) (a : A) (b : B) (c : C) (d : D) (f : P → A → B → C → D → Q := by intro h_ a_ b_ c_ d_; repeat (first | (with_reducible first | exact h_ | apply Kept.alloc | apply Kept.drewN | apply Kept.drew | refine Kept.setCell ?_ (.inl (.inr rfl)) _ | refine Kept.setCell ?_ (.inr a_) _ | refine Kept.setCell ?_ (.inr b_) _ | refine Kept.setCell ?_ (.inr c_) _ | refine Kept.setCell ?_ (.inr d_) _) | exact h_)) : Q := f h a b c d
theorem zq5 {P Q A B C D E : Prop} (h : P) (a : A) (b : B) (c : C) (d : D) (e : E) (f : P → A → B → C → D → E → Q := by intro h_ a_ b_ c_ d_ e_; repeat (first | (with_reducible first | exact h_ | apply Kept.alloc | apply Kept.drewN | apply Kept.drew | refine Kept.setCell ?_ (.inl (.inr rfl)) _ | refine Kept.setCell ?_ (.inr a_) _ | refine Kept.setCell ?_ (.inr b_) _ | refine Kept.setCell ?_ (.inr c_) _ | refine Kept.setCell ?_ (.inr d_) _ | refine Kept.setCell ?_ (.inr e_) _) | exact h_)) : Q := f h a b c d e
theorem zq6 {P Q A B C D E G : Prop} (h : P) (a : A) (b : B) (c : C) (d : D) (e : E) (g : G) (f : P → A → B → C → D → E → G → Q := by intro h_ a_ b_ c_ d_ e_ g_; repeat (first | (with_reducible first | exact h_ | apply Kept.alloc | apply Kept.drewN | apply Kept.drew | refine Kept.setCell ?_ (.inl (.inr rfl)) _ | refine Kept.setCell ?_ (.inr a_) _ | refine Kept.setCell ?_ (.inr b_) _ | refine Kept.setCell ?_ (.inr c_) _ | refine Kept.setCell ?_ (.inr d_) _ | refine Kept.setCell ?_ (.inr e_) _ | refine Kept.setCell ?_ (.inr g_) _) | exact h_)) : Q := f h a b c d e g
theorem bk1 {w : World} {g : Nat} {t : TypeId} {a : Value} (h : w.heap[g]? = some (.cells #[a] t (0, 0))) : w.cell? ⟨g, 0, none⟩ = some a ∧ w.frozen? ⟨g, 0, none⟩ = false := ⟨(blk_cell h 0).trans rfl, blk_frozen h 0⟩
theorem bk2 {w : World} {g : Nat} {t : TypeId} {a b : Value} (h : w.heap[g]? = some (.cells #[a, b] t (0, 0))) : w.cell? ⟨g, 0, none⟩ = some a ∧ w.cell? ⟨g, 1, none⟩ = some b ∧ w.frozen? ⟨g, 0, none⟩ = false ∧ w.frozen? ⟨g, 1, none⟩ = false := ⟨(blk_cell h 0).trans rfl, (blk_cell h 1).trans rfl, blk_frozen h 0, blk_frozen h 1⟩
theorem bk3 {w : World} {g : Nat} {t : TypeId} {a b c : Value} (h : w.heap[g]? = some (.cells #[a, b, c] t (0, 0))) : w.cell? ⟨g, 0, none⟩ = some a ∧ w.cell? ⟨g, 1, none⟩ = some b ∧ w.cell? ⟨g, 2, none⟩ = some c ∧ w.frozen? ⟨g, 0, none⟩ = false ∧ w.frozen? ⟨g, 1, none⟩ = false ∧ w.frozen? ⟨g, 2, none⟩ = false := ⟨(blk_cell h 0).trans rfl, (blk_cell h 1).trans rfl, (blk_cell h 2).trans rfl, blk_frozen h 0, blk_frozen h 1, blk_frozen h 2⟩
theorem bwC {w W : World} {p : Addr} {v : Value} (h : Below w.heap.size w W) (hx : w.cell? p = some v) : W.cell? p = some v := (h.cell (bwL w _ hx)).trans hx
theorem zH_ {P Q : Prop} {α : Type} {x y : α} (H : P) (hy : x = y) (f : P → x = y → Q := by intro H hy; first | (rw [hy]; with_reducible exact H) | (have H2_ := (Option.bind_some _ _).symm.trans H; rw [hy]; with_reducible exact H2_) | (have H2_ := (Option.bind_some _ _).symm.trans H; with_reducible exact H2_) | with_reducible exact H | (rw [hy]; exact H) | exact H) : Q := f H hy
theorem zE_ {P : Prop} (h : P := by first | rfl | (simp [errW_none, errW_some] <;> rfl) | (simp [*, errW_none, errW_some] <;> rfl)) : P := h
theorem zC_ {P Q : Prop} (h : P) (f : P → Q := by intro h_; repeat (first | exact h_ | (with_reducible refine Kd.C_alloc ?_ _) | (with_reducible refine Kd.C_drewN ?_ _) | (with_reducible refine Kd.C_drew ?_))) : Q := f h
theorem zA_ {P : Prop} (h : P := by first | (with_reducible assumption) | assumption) : P := h
theorem zM_ {P : Prop} (h : P := by (try simp only [List.map_toArray, List.map_cons, List.map_nil]); first | done | rfl | (simp only [List.length_drop, List.length_take]; rfl)) : P := h
theorem zT_ {P : Prop} (h : P := by first | rfl | (simp; done) | (simp [*]; done)) : P := h
theorem sq_ {α : Type} : (∀ (l : List α) (i : Nat) (a : α), l.toArray.setIfInBounds i a = (l.set i a).toArray) ∧ (∀ (x y : α) (l : List α), (x :: l).set 0 y = y :: l) ∧ (∀ (x y : α) (l : List α) (n : Nat), (x :: l).set (n + 1) y = x :: l.set n y) ∧ (∀ n : Int, IntKind.i64.wrap n = wrap64 n) ∧ ∀ n : Int, IntKind.i32.wrap n = wrap32 n := ⟨fun _ _ _ => by simp, fun _ _ _ => rfl, fun _ _ _ _ => rfl, i64_w, i32_w⟩
def bL_ : Nat → Nat → List Bool
  | 0, _ => []
  | k + 1, n => Nat.beq (n % 2) 1 :: bL_ k (n / 2)
def bl_ (n k : Nat) : Array Bool := ⟨bL_ k n⟩
section
variable {P : Program} {md : Region.Mode} {ops : Array Oper} {Q : Exit → Act → World → Prop} {S : World → Prop} {ds : List Nat} {T : Bool × List (List Nat × List Nat)} {B : List Nat} {oi : Oper} {fuel : Nat} {l : Array Bool} {a : Act} {w : World}
theorem uP (i n : Nat) (l' : Array Bool) (a' : Act) (hT : Aside0 (rtab md ops = T)) (hi : ops[i]? = some oi) (hy : Yields P ops oi undef a) (ha : a.put (some n) undef = a') (h : wpAnyLast P md ops Q S ds fuel l' a' w) (hN : oi.dst = some n := by exact rfl) (hc : anyT T l.toList l'.toList i = true := by kernel_rfl) (hQ : ∀ c a w, Q (.panic c) (a.put oi.dst undef) w → Q (.panic c) a w := by exact fun _ _ _ h => h) : wpAnyLast P md ops Q S ds (fuel + 1) l a w := pure_ l' hi hN (any_of hT.out hc) hQ hy ha h
theorem pP (i n : Nat) (l' : Array Bool) (v : Value) (hT : Aside0 (rtab md ops = T)) (hi : ops[i]? = some oi) (hy : Yields P ops oi v a) (a' : Act) (ha : a.put (some n) v = a') (h : wpAnyLast P md ops Q S ds fuel l' a' w) (hN : oi.dst = some n := by exact rfl) (hc : anyT T l.toList l'.toList i = true := by kernel_rfl) (hQ : ∀ c a w, Q (.panic c) (a.put oi.dst v) w → Q (.panic c) a w := by exact fun _ _ _ h => h) : wpAnyLast P md ops Q S ds (fuel + 1) l a w := pure_ l' hi hN (any_of hT.out hc) hQ hy ha h
theorem tP (i n : Nat) (l' : Array Bool) (v : Value) (hT : Aside0 (rtab md ops = T)) (hW : Aside0 (waitsOk T.2 B = true)) (hi : ops[i]? = some oi) (hy : YieldsIf P ops S oi v a) (hS : S w) (a' : Act) (ha : a.put (some n) v = a') (h : wpAnyLast P md ops Q S ds fuel l' a' w) (hN : oi.dst = some n := by exact rfl) (hc : takeW T B ds l.toList l'.toList i = true := by kernel_rfl) (hQ : ∀ c a w, Q (.panic c) (a.put oi.dst v) w → Q (.panic c) a w := by exact fun _ _ _ h => h) : wpAnyLast P md ops Q S ds (fuel + 1) l a w := take_ l' hi hN (take_ofW hT.out hW.out hc) hQ hy hS ha h
theorem pQ {v : Value} {a' : Act} (i n : Nat) (l' : Array Bool) (hT : Aside0 (rtab md ops = T)) (hi : ops[i]? = some oi) (h : wpAnyLast P md ops Q S ds fuel l' a' w) (hy : Yields P ops oi v a := by exact .inl ⟨by rfl, by intro w'; go_simp; with_reducible rfl⟩) (ha : a.put (some n) v = a' := by simp only [Act.put, sq_, i64_w, i32_w]; rfl) (hN : oi.dst = some n := by exact rfl) (hc : anyT T l.toList l'.toList i = true := by kernel_rfl) (hQ : ∀ c a w, Q (.panic c) (a.put oi.dst v) w → Q (.panic c) a w := by exact fun _ _ _ h => h) : wpAnyLast P md ops Q S ds (fuel + 1) l a w := pP i n l' v hT hi hy a' ha h hN hc hQ
end
end Go.Proofs.YtbokjhdhpmmpfaaDoor.Q
