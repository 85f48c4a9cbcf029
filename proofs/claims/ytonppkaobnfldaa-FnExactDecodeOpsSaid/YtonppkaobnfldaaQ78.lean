-- Written by wip/tools/qprint.py (a program of this claim's author) by means of the kit's printer.
import Derived.Test.YtonppkaobnfldaaQ0
import Derived.Test.YtonppkaobnfldaaQ61
import Derived.Test.YtonppkaobnfldaaQ77
namespace Go.Proofs.Ytonppkaobnfldaa.Q
open Go.RowKit Go.Proofs.YtonppkaobnfldaaW.PrintWords Go.Proofs.YtonppkaobnfldaaW.PrintLast Go.Proofs.YtonppkaobnfldaaW.PrintMore
attribute [local go_sem] max2_int min2_int max_two min_two max_three min_three max_four min_four   -- for this text's walks alone
set_option linter.unusedVariables false
set_option linter.unusedSimpArgs false

/-! ### spec_readOp: function 78 -/
theorem spec_readOp.outer (w : World) (n : Nat) (a : Addr) (v : Value) : (w.drewN n).setCell a v = (w.setCell a v).drewN n := rfl
def spec_readOp.j0 : Nat → Int → Int → Int → Option (Int × Int × Int)
 | 0,_,_,_ => none
 | k + 1,x5,x535000,x535001 => (spec_validOp.f x535000 x535001).bind fun t540 => (if t540 = true then ((spec_bytesOf.f x535000 x535001).bind fun t541 => (if (t541.length : Int) = x5 then (some (x535000,x535001,x5)) else (some (0,0,0)))) else (some (0,0,0)))
def spec_readOp.f (k : Nat) (l0 : List Int) : Option (Int × Int × Int) := if (l0.length : Int) = 0 then (some (0,0,0)) else (if 0 < (l0.length : Int) then ((spec_argOf.f (rd l0 0)).bind fun t535 => (if t535 ≥ 0 then (if (l0.length : Int) < 2 then (some (0,0,0)) else (if 1 < (l0.length : Int) then (if (rd l0 1) ≥ 128 then (if (l0.length : Int) < 3 then (some (0,0,0)) else (if 2 < (l0.length : Int) then (spec_readOp.j0 k 3 (rd l0 0) (wrap64 ((wrap64 ((rd l0 1) - 128)) + (wrap64 (128 * (rd l0 2)))))) else (none))) else (spec_readOp.j0 k 2 (rd l0 0) (rd l0 1))) else (none))) else (spec_readOp.j0 k 1 (rd l0 0) 0))) else (none))
set_option maxRecDepth 100000 in
theorem spec_readOp.mono_l : ∀ k,(∀ y0 y1 y2,LeO (spec_readOp.j0 k y0 y1 y2) (spec_readOp.j0 (k + 1) y0 y1 y2))
 | 0 => fun _ _ _ r h => (by cases h)
 | k + 1 => by
  have ih0 := spec_readOp.mono_l k
  ·intro y0 y1 y2
   unfold spec_readOp.j0
   repeat' first
   | (with_reducible exact ih0 _ _ _)
   | (with_reducible exact LeO.refl _)
   | (with_reducible exact LeO.none _)
   | (with_reducible refine LeO.ite ?_ ?_)
   | (with_reducible refine LeO.bind ?_ (fun _ => ?_))
   | exact ih0 _ _ _
   | exact LeO.none _
   | refine LeO.ite ?_ ?_
   | refine LeO.bind ?_ (fun _ => ?_)
set_option maxRecDepth 100000 in
theorem spec_readOp.mono : ∀ a0 k,LeO (spec_readOp.f k a0) (spec_readOp.f (k + 1) a0) := by
 intro a0 k
 have ih0 := spec_readOp.mono_l k
 unfold spec_readOp.f
 repeat' first
   | (with_reducible exact ih0 _ _ _)
   | (with_reducible exact LeO.refl _)
   | (with_reducible exact LeO.none _)
   | (with_reducible refine LeO.ite ?_ ?_)
   | (with_reducible refine LeO.bind ?_ (fun _ => ?_))
   | exact ih0 _ _ _
   | exact LeO.none _
   | refine LeO.ite ?_ ?_
   | refine LeO.bind ?_ (fun _ => ?_)
def spec_readOp.T13 : Bool × List (List Nat × List Nat) := (true,[([],[]),([0],[0]),([1],[1]),([2],[2]),([],[]),([4],[4]),([5],[5]),([6],[6]),([3,7],[3,7]),([0,1,2,3,4,5,6,7,8],[]),([9,8,0,1,2,3,4,5,6,7,8],[8,9])])
def spec_readOp.B13 : List Nat := [0,1,3,7,0,16,48,112,255,511,1023]
theorem spec_readOp.tab13 : rtab .any (opsOf Try.f78 13) = spec_readOp.T13 := by kernel_rfl
theorem spec_readOp.bits13 : waitsOk spec_readOp.T13.2 spec_readOp.B13 = true := by kernel_rfl
attribute [local go_sem] spec_readOp.outer in
set_option maxHeartbeats 8000000 in
set_option maxRecDepth 100000 in
theorem spec_readOp.calls (k : Nat) (A0 : Option Addr) (c0 : Nat) (l0 : List Int) (r1 : Int) (r2 : Int) (r3 : Int) (w : World) (hr0 : Kd.C (Kd.int .i64) w A0 l0.length l0) (hc0 : l0.length ≤ c0) (h : spec_readOp.f k l0 = some (r1,r2,r3)) :
  Calls Try.prog 78 #[.slice A0 l0.length c0] w fun e w' => e = .returned (.tuple #[.agg #[.int .i64 r1,.int .i64 r2],.int .i64 r3]) ∧ Below w.heap.size w w' := by
 have hu49 := Try.underlying49
 have HR0 := Aside0.mk hr0
 have HC0 := Aside0.mk hc0
 clear hr0 hc0
 have HB := Aside0.mk (Below.refl w.heap.size w)
 have H : (if (l0.length : Int) = 0 then (some (0,0,0)) else (if 0 < (l0.length : Int) then ((spec_argOf.f (rd l0 0)).bind fun t535 => (if t535 ≥ 0 then (if (l0.length : Int) < 2 then (some (0,0,0)) else (if 1 < (l0.length : Int) then (if (rd l0 1) ≥ 128 then (if (l0.length : Int) < 3 then (some (0,0,0)) else (if 2 < (l0.length : Int) then (spec_readOp.j0 k 3 (rd l0 0) (wrap64 ((wrap64 ((rd l0 1) - 128)) + (wrap64 (128 * (rd l0 2)))))) else (none))) else (spec_readOp.j0 k 2 (rd l0 0) (rd l0 1))) else (none))) else (spec_readOp.j0 k 1 (rd l0 0) 0))) else (none))) = some (r1,r2,r3) := h
 clear h
 by_cases c2 : (l0.length : Int) = 0
 ·rw [if_pos c2] at H
  have c2b0 : ((l0.length : Int) == 0) = true := beq_iff_eq.mpr c2
  have c2b1 : ((l0.length : Int) != 0) = false := bne_eq_false_iff_eq.mpr c2
  clear c2
  simp only [Option.some.injEq,Prod.mk.injEq] at H
  obtain ⟨rfl,rfl,rfl⟩ := H
  go_enter Try.func78,Try.ntmps78
  go_wp2_with (first|((with_reducible refine gate_dst (N := 2) rfl ?_);(try (refine gate_guard (by rfl) ?_;dsimp only));refine box_event ?hg (N := 2) ?hd (cs := #[.int .i64 0,.int .i64 0]) (t := 49) ?hr ?_;(case hd => rfl);(case hg => rfl);(case hr => first|(go_simp;done)|(go_simp;rfl));intro gb532 hg w3 hbox hb;have n0_ := Aside0.mk (below_step (by repeat (first|(with_reducible first|exact HB.out|apply below_alloc|apply pw_below_drewN|apply below_drew1)|exact HB.out)) hb);have n1_ := Aside0.mk (hbox);have n2_ := Aside0.mk ((by rw [hg];exact (below_size (by repeat (first|(with_reducible first|exact HB.out|apply below_alloc|apply pw_below_drewN|apply below_drew1)|exact HB.out))) : w.heap.size ≤ gb532));have n3_ := Aside0.mk ((by rw [hg];exact (below_size (by repeat (first|(with_reducible first|exact HB.out|apply below_alloc|apply pw_below_drewN|apply below_drew1)|exact HB.out))) : w.heap.size ≤ gb532));clear HB;have HB := n0_;have BK532 := n1_;have GW532 := n2_;have GE532 := n3_;clear n0_ n1_ n2_ n3_;clear hb hbox hg;have hcz4_0 : w3.cell? ⟨gb532,0,none⟩ = some (.int .i64 0) := (blk_cell BK532.out 0).trans rfl;have hcz4_1 : w3.cell? ⟨gb532,1,none⟩ = some (.int .i64 0) := (blk_cell BK532.out 1).trans rfl;have hfz4_0 := blk_frozen BK532.out 0;have hfz4_1 := blk_frozen BK532.out 1))
  refine bodyPost_ret (results_ct rfl _ _ gb532 49 #[.int .i64 0,.int .i64 0] (0,0) _ rfl (by (with_reducible repeat (first|refine blk_drewN ?_ _|refine blk_drew ?_|refine blk_alloc ?_ _));refine blk_put (cs := #[.int .i64 0,.int .i64 0]) ?_ 1 _ rfl;(with_reducible repeat (first|refine blk_drewN ?_ _|refine blk_drew ?_|refine blk_alloc ?_ _));refine blk_put (cs := #[.int .i64 0,.int .i64 0]) ?_ 0 _ rfl;(with_reducible repeat (first|refine blk_drewN ?_ _|refine blk_drew ?_|refine blk_alloc ?_ _));exact BK532.out) Try.underlying49 rfl (by kernel_rfl)) rfl ?_
  exact ⟨by first|rfl|(simp [errW_none,errW_some] <;> rfl)|(simp [*,errW_none,errW_some] <;> rfl),by repeat (first|(with_reducible first|exact HB.out|apply below_alloc|apply pw_below_drewN|apply below_drew1|refine below_set ?_ GE532.out)|exact HB.out)⟩
 ·rw [if_neg c2] at H
  have c2b0 : ((l0.length : Int) == 0) = false := beq_eq_false_iff_ne.mpr c2
  have c2b1 : ((l0.length : Int) != 0) = true := bne_iff_ne.mpr c2
  have c2b2 : ¬ (l0 = []) := fun h_ => c2 (by rw [h_];rfl)
  by_cases c5 : 0 < (l0.length : Int)
  ·rw [if_pos c5] at H
   have c5b0 : decide (0 < (l0.length : Int)) = true := decide_eq_true c5
   have c5b1 : decide (0 < l0.length) = true := decide_eq_true (by omega)
   clear c5
   replace H := Option.bind_eq_some_iff.mp H
   obtain ⟨t535,A60,H⟩ := H
   replace H : (if t535 ≥ 0 then (if (l0.length : Int) < 2 then (some (0,0,0)) else (if 1 < (l0.length : Int) then (if (rd l0 1) ≥ 128 then (if (l0.length : Int) < 3 then (some (0,0,0)) else (if 2 < (l0.length : Int) then (spec_readOp.j0 k 3 (rd l0 0) (wrap64 ((wrap64 ((rd l0 1) - 128)) + (wrap64 (128 * (rd l0 2)))))) else (none))) else (spec_readOp.j0 k 2 (rd l0 0) (rd l0 1))) else (none))) else (spec_readOp.j0 k 1 (rd l0 0) 0)) = some (r1,r2,r3) := H
   have A6 := Aside0.mk A60
   clear A60
   have HC7 := Aside0.mk H
   clear H
   go_enter Try.func78,Try.ntmps78
   go_upto_if 17 with (first|((with_reducible refine gate_dst (N := 2) rfl ?_);(try (refine gate_guard (by rfl) ?_;dsimp only));refine box_event ?hg (N := 2) ?hd (cs := #[.int .i64 0,.int .i64 0]) (t := 49) ?hr ?_;(case hd => rfl);(case hg => rfl);(case hr => first|(go_simp;done)|(go_simp;rfl));intro gb532 hg w8 hbox hb;have n0_ := Aside0.mk (below_step (by repeat (first|(with_reducible first|exact HB.out|apply below_alloc|apply pw_below_drewN|apply below_drew1)|exact HB.out)) hb);have n1_ := Aside0.mk (hbox);have n2_ := Aside0.mk ((by rw [hg];exact (below_size (by repeat (first|(with_reducible first|exact HB.out|apply below_alloc|apply pw_below_drewN|apply below_drew1)|exact HB.out))) : w.heap.size ≤ gb532));have n3_ := Aside0.mk ((by rw [hg];exact (below_size (by repeat (first|(with_reducible first|exact HB.out|apply below_alloc|apply pw_below_drewN|apply below_drew1)|exact HB.out))) : w.heap.size ≤ gb532));clear HB;have HB := n0_;have BK532 := n1_;have GW532 := n2_;have GE532 := n3_;clear n0_ n1_ n2_ n3_;clear hb hbox hg;have p533 : 0 ≤ (0 : Int) := (by omega);have q533 : 0 < (l0.length : Int) := of_decide_eq_true (by first|(with_reducible assumption)|assumption);obtain ⟨ad533,e533,hx533_0⟩ := Kd.at_int HR0.out 0 p533 q533;cases e533;have qi533 : (0 < l0.length) = True := eq_true (by omega);(try rw [show ((0 : Int)).toNat = 0 from rfl] at hx533_0);(try rw [Addr.add_zero'] at hx533_0);replace hx533_0 := (HB.out.cell (World.block_lt_of_cell? w _ hx533_0)).trans hx533_0;replace p533 := eq_true p533;replace q533 := eq_true q533)|((with_reducible refine gate_dst (N := 4) rfl ?_);(try (refine gate_guard (by rfl) ?_;dsimp only));refine box_event ?hg (N := 4) ?hd (cs := #[.int .i64 0,.int .i64 0]) (t := 49) ?hr ?_;(case hd => rfl);(case hg => rfl);(case hr => first|(go_simp;done)|(go_simp;rfl));intro gb534 hg w9 hbox hb;have n0_ := Aside0.mk (blk_below (g := gb532) (o := .cells #[.int .i64 0,.int .i64 0] 49 (0,0)) (by (with_reducible repeat (first|refine blk_drewN ?_ _|refine blk_drew ?_|refine blk_alloc ?_ _));exact BK532.out) hb);have n1_ := Aside0.mk (below_step (by repeat (first|(with_reducible first|exact HB.out|apply below_alloc|apply pw_below_drewN|apply below_drew1|refine below_set ?_ GE532.out)|exact HB.out)) hb);have n2_ := Aside0.mk (hbox);have n3_ := Aside0.mk ((by rw [hg];exact (below_size (by repeat (first|(with_reducible first|exact HB.out|apply below_alloc|apply pw_below_drewN|apply below_drew1|refine below_set ?_ GE532.out)|exact HB.out))) : w.heap.size ≤ gb534));have n4_ := Aside0.mk ((by rw [hg];exact (below_size (by repeat (first|(with_reducible first|exact HB.out|apply below_alloc|apply pw_below_drewN|apply below_drew1|refine below_set ?_ GE532.out)|exact HB.out))) : w.heap.size ≤ gb534));have n5_ := Aside0.mk ((by rw [hg];exact Nat.ne_of_lt (blk_lt (g := gb532) (o := .cells #[.int .i64 0,.int .i64 0] 49 (0,0)) (by (with_reducible repeat (first|refine blk_drewN ?_ _|refine blk_drew ?_|refine blk_alloc ?_ _));exact BK532.out)) : gb532 ≠ gb534));have n6_ := Aside0.mk ((by rw [hg];exact Nat.ne_of_gt (blk_lt (g := gb532) (o := .cells #[.int .i64 0,.int .i64 0] 49 (0,0)) (by (with_reducible repeat (first|refine blk_drewN ?_ _|refine blk_drew ?_|refine blk_alloc ?_ _));exact BK532.out)) : gb534 ≠ gb532));clear BK532;clear HB;have BK532 := n0_;have HB := n1_;have BK534 := n2_;have GW534 := n3_;have GE534 := n4_;have NB532_534 := n5_;have NB534_532 := n6_;clear n0_ n1_ n2_ n3_ n4_ n5_ n6_;clear hb hbox hg;have hnb10 := NB534_532.out;have hnc10 := NB532_534.out;have hcz11_0 : w9.cell? ⟨gb534,0,none⟩ = some (.int .i64 0) := (blk_cell BK534.out 0).trans rfl;have hcz11_1 : w9.cell? ⟨gb534,1,none⟩ = some (.int .i64 0) := (blk_cell BK534.out 1).trans rfl;have hfz11_0 := blk_frozen BK534.out 0;have hfz11_1 := blk_frozen BK534.out 1)|((with_reducible refine gate_callee (f := 77) rfl ?_);refine goesL_ (some 16) rfl rfl Try.func77 (by kernel_rfl) rfl #[.int .i64 (rd l0 0)] rfl (by (try simp only [List.map_toArray,List.map_cons,List.map_nil]);first|done|rfl|(simp only [List.length_drop,List.length_take];rfl)) ?_;(with_reducible refine (spec_argOf.calls (rd l0 0) t535 _ A6.out).mono ?_);rintro e w' ⟨rfl,⟨nd,rfl⟩⟩;refine ⟨_,rfl,?_⟩))
   (try simp only [Act.put,List.setIfInBounds_toArray,List.set_cons_zero,List.set_cons_succ])
   go_cut [5] (fun v5 wc => ∃ (kq : Nat) (x5_6 : Int) (x533000_6 : Int) (x533001_6 : Int) (x535001_6 : Int),v5 = .int .i64 x5_6 ∧ Aside0 (spec_readOp.j0 kq x5_6 (rd l0 0) x535001_6 = some (r1,r2,r3)) ∧ Aside0 (kq ≤ k) ∧ Aside0 (wc.heap[gb532]? = some (.cells #[.int .i64 x533000_6,.int .i64 x533001_6] 49 (0,0))) ∧ Aside0 (wc.heap[gb534]? = some (.cells #[.int .i64 (rd l0 0),.int .i64 x535001_6] 49 (0,0))) ∧ Aside0 (Below w.heap.size w wc))
   case first =>
    have H := HC7.out
    clear HC7
    by_cases c12 : t535 ≥ 0
    ·rw [if_pos c12] at H
     have c12b0 : decide (0 ≤ t535) = true := decide_eq_true c12
     clear c12
     (first|rw [c12b0]|(simp only [i64_w,i32_w];rw [c12b0])|skip)
     by_cases c13 : (l0.length : Int) < 2
     ·rw [if_pos c13] at H
      have c13b0 : decide ((l0.length : Int) < 2) = true := decide_eq_true c13
      have c13b1 : decide (l0.length < 2) = true := decide_eq_true (by omega)
      clear c13
      simp only [Option.some.injEq,Prod.mk.injEq] at H
      obtain ⟨rfl,rfl,rfl⟩ := H
      have hnb14 := NB532_534.out
      have hnc14 := NB534_532.out
      have hcz15_0 : w9.cell? ⟨gb532,0,none⟩ = some (.int .i64 0) := (blk_cell BK532.out 0).trans rfl
      have hcz15_1 : w9.cell? ⟨gb532,1,none⟩ = some (.int .i64 0) := (blk_cell BK532.out 1).trans rfl
      have hfz15_0 := blk_frozen BK532.out 0
      have hfz15_1 := blk_frozen BK532.out 1
      go_wp2
      refine bodyPost_ret (results_ct rfl _ _ gb532 49 #[.int .i64 0,.int .i64 0] (0,0) _ rfl (by (with_reducible repeat (first|refine blk_drewN ?_ _|refine blk_drew ?_|refine blk_alloc ?_ _));refine blk_put (cs := #[.int .i64 0,.int .i64 0]) ?_ 1 _ rfl;(with_reducible repeat (first|refine blk_drewN ?_ _|refine blk_drew ?_|refine blk_alloc ?_ _));refine blk_put (cs := #[.int .i64 0,.int .i64 0]) ?_ 0 _ rfl;(with_reducible repeat (first|refine blk_drewN ?_ _|refine blk_drew ?_|refine blk_alloc ?_ _));refine blk_far ?_ NB532_534.out _;(with_reducible repeat (first|refine blk_drewN ?_ _|refine blk_drew ?_|refine blk_alloc ?_ _));refine blk_far ?_ NB532_534.out _;(with_reducible repeat (first|refine blk_drewN ?_ _|refine blk_drew ?_|refine blk_alloc ?_ _));exact BK532.out) Try.underlying49 rfl (by kernel_rfl)) rfl ?_
      exact ⟨by first|rfl|(simp [errW_none,errW_some] <;> rfl)|(simp [*,errW_none,errW_some] <;> rfl),by repeat (first|(with_reducible first|exact HB.out|apply below_alloc|apply pw_below_drewN|apply below_drew1|refine below_set ?_ GE532.out|refine below_set ?_ GE534.out)|exact HB.out)⟩
     ·rw [if_neg c13] at H
      have c13b0 : decide ((l0.length : Int) < 2) = false := decide_eq_false c13
      have c13b1 : decide (l0.length < 2) = false := decide_eq_false (by omega)
      clear c13
      by_cases c16 : 1 < (l0.length : Int)
      ·rw [if_pos c16] at H
       have c16b0 : decide (1 < (l0.length : Int)) = true := decide_eq_true c16
       have c16b1 : decide (1 < l0.length) = true := decide_eq_true (by omega)
       clear c16
       by_cases c17 : (rd l0 1) ≥ 128
       ·rw [if_pos c17] at H
        have c17b0 : decide (128 ≤ (rd l0 1)) = true := decide_eq_true c17
        clear c17
        by_cases c18 : (l0.length : Int) < 3
        ·rw [if_pos c18] at H
         have c18b0 : decide ((l0.length : Int) < 3) = true := decide_eq_true c18
         have c18b1 : decide (l0.length < 3) = true := decide_eq_true (by omega)
         clear c18
         simp only [Option.some.injEq,Prod.mk.injEq] at H
         obtain ⟨rfl,rfl,rfl⟩ := H
         have p536 : 0 ≤ (1 : Int) := (by omega)
         have q536 : 1 < (l0.length : Int) := of_decide_eq_true (by first|(with_reducible assumption)|assumption)
         obtain ⟨ad536,e536,hx536_0⟩ := Kd.at_int HR0.out 1 p536 q536
         obtain rfl : ad533 = ad536 := (by injection e536)
         (try simp only [show (1 : Int).toNat = 1 from rfl,Nat.reduceMul,Nat.reduceEqDiff,Go.Addr.add,↓reduceIte] at hx536_0)
         have qi536 : (1 < l0.length) = True := eq_true (by omega)
         (try rw [show ((1 : Int)).toNat = 1 from rfl] at hx536_0)
         have hn536_0 : ad533.block ≠ gb534 := Nat.ne_of_lt (Nat.lt_of_lt_of_le (by have := World.block_lt_of_cell? _ _ hx536_0;first|rwa [add_block] at this|exact this) GW534.out)
         have hn536_1 : ad533.block ≠ gb534 := Nat.ne_of_lt (Nat.lt_of_lt_of_le (by have := World.block_lt_of_cell? _ _ hx536_0;first|rwa [add_block] at this|exact this) GW534.out)
         replace hx536_0 := (HB.out.cell (World.block_lt_of_cell? w _ hx536_0)).trans hx536_0
         replace hx536_0 := (cell_far (p := ⟨gb534,0,none⟩) (by first|(rw [add_block];exact hn536_0)|(show (Addr.add _ _).block ≠ _;rw [add_block];exact hn536_0)|exact hn536_0) (.int .i64 (rd l0 0))).trans hx536_0
         replace hx536_0 := (cell_far (p := ⟨gb534,1,none⟩) (by first|(rw [add_block];exact hn536_1)|(show (Addr.add _ _).block ≠ _;rw [add_block];exact hn536_1)|exact hn536_1) (.int .i64 0)).trans hx536_0
         clear hn536_0
         clear hn536_1
         replace p536 := eq_true p536
         replace q536 := eq_true q536
         have hnb19 := NB534_532.out
         have hnc19 := NB532_534.out
         have hcz20_0 : w9.cell? ⟨gb534,0,none⟩ = some (.int .i64 0) := (blk_cell BK534.out 0).trans rfl
         have hcz20_1 : w9.cell? ⟨gb534,1,none⟩ = some (.int .i64 0) := (blk_cell BK534.out 1).trans rfl
         have hfz20_0 := blk_frozen BK534.out 0
         have hfz20_1 := blk_frozen BK534.out 1
         have p537 : 0 ≤ (1 : Int) := (by omega)
         have q537 : 1 < (l0.length : Int) := of_decide_eq_true (by first|(with_reducible assumption)|assumption)
         obtain ⟨ad537,e537,hx537_0⟩ := Kd.at_int HR0.out 1 p537 q537
         obtain rfl : ad533 = ad537 := (by injection e537)
         (try simp only [show (1 : Int).toNat = 1 from rfl,Nat.reduceMul,Nat.reduceEqDiff,Go.Addr.add,↓reduceIte] at hx537_0)
         have qi537 : (1 < l0.length) = True := eq_true (by omega)
         (try rw [show ((1 : Int)).toNat = 1 from rfl] at hx537_0)
         have hn537_0 : ad533.block ≠ gb534 := Nat.ne_of_lt (Nat.lt_of_lt_of_le (by have := World.block_lt_of_cell? _ _ hx537_0;first|rwa [add_block] at this|exact this) GW534.out)
         have hn537_1 : ad533.block ≠ gb534 := Nat.ne_of_lt (Nat.lt_of_lt_of_le (by have := World.block_lt_of_cell? _ _ hx537_0;first|rwa [add_block] at this|exact this) GW534.out)
         have hn537_2 : ad533.block ≠ gb534 := Nat.ne_of_lt (Nat.lt_of_lt_of_le (by have := World.block_lt_of_cell? _ _ hx537_0;first|rwa [add_block] at this|exact this) GW534.out)
         replace hx537_0 := (HB.out.cell (World.block_lt_of_cell? w _ hx537_0)).trans hx537_0
         replace hx537_0 := (cell_far (p := ⟨gb534,0,none⟩) (by first|(rw [add_block];exact hn537_0)|(show (Addr.add _ _).block ≠ _;rw [add_block];exact hn537_0)|exact hn537_0) (.int .i64 (rd l0 0))).trans hx537_0
         replace hx537_0 := (cell_far (p := ⟨gb534,1,none⟩) (by first|(rw [add_block];exact hn537_1)|(show (Addr.add _ _).block ≠ _;rw [add_block];exact hn537_1)|exact hn537_1) (.int .i64 0)).trans hx537_0
         replace hx537_0 := (cell_far (p := ⟨gb534,1,none⟩) (by first|(rw [add_block];exact hn537_2)|(show (Addr.add _ _).block ≠ _;rw [add_block];exact hn537_2)|exact hn537_2) (.int .i64 (rd l0 1))).trans hx537_0
         clear hn537_0
         clear hn537_1
         clear hn537_2
         replace p537 := eq_true p537
         replace q537 := eq_true q537
         have hcz21_0 : w9.cell? ⟨gb532,0,none⟩ = some (.int .i64 0) := (blk_cell BK532.out 0).trans rfl
         have hcz21_1 : w9.cell? ⟨gb532,1,none⟩ = some (.int .i64 0) := (blk_cell BK532.out 1).trans rfl
         have hfz21_0 := blk_frozen BK532.out 0
         have hfz21_1 := blk_frozen BK532.out 1
         go_wp2
         refine bodyPost_ret (results_ct rfl _ _ gb532 49 #[.int .i64 0,.int .i64 0] (0,0) _ rfl (by (with_reducible repeat (first|refine blk_drewN ?_ _|refine blk_drew ?_|refine blk_alloc ?_ _));refine blk_put (cs := #[.int .i64 0,.int .i64 0]) ?_ 1 _ rfl;(with_reducible repeat (first|refine blk_drewN ?_ _|refine blk_drew ?_|refine blk_alloc ?_ _));refine blk_put (cs := #[.int .i64 0,.int .i64 0]) ?_ 0 _ rfl;(with_reducible repeat (first|refine blk_drewN ?_ _|refine blk_drew ?_|refine blk_alloc ?_ _));refine blk_far ?_ NB532_534.out _;(with_reducible repeat (first|refine blk_drewN ?_ _|refine blk_drew ?_|refine blk_alloc ?_ _));refine blk_far ?_ NB532_534.out _;(with_reducible repeat (first|refine blk_drewN ?_ _|refine blk_drew ?_|refine blk_alloc ?_ _));refine blk_far ?_ NB532_534.out _;(with_reducible repeat (first|refine blk_drewN ?_ _|refine blk_drew ?_|refine blk_alloc ?_ _));exact BK532.out) Try.underlying49 rfl (by kernel_rfl)) rfl ?_
         exact ⟨by first|rfl|(simp [errW_none,errW_some] <;> rfl)|(simp [*,errW_none,errW_some] <;> rfl),by repeat (first|(with_reducible first|exact HB.out|apply below_alloc|apply pw_below_drewN|apply below_drew1|refine below_set ?_ GE532.out|refine below_set ?_ GE534.out)|exact HB.out)⟩
        ·rw [if_neg c18] at H
         have c18b0 : decide ((l0.length : Int) < 3) = false := decide_eq_false c18
         have c18b1 : decide (l0.length < 3) = false := decide_eq_false (by omega)
         clear c18
         by_cases c22 : 2 < (l0.length : Int)
         ·rw [if_pos c22] at H
          have c22b0 : decide (2 < (l0.length : Int)) = true := decide_eq_true c22
          have c22b1 : decide (2 < l0.length) = true := decide_eq_true (by omega)
          clear c22
          have H' := Aside0.mk H
          clear H
          have p536 : 0 ≤ (1 : Int) := (by omega)
          have q536 : 1 < (l0.length : Int) := of_decide_eq_true (by first|(with_reducible assumption)|assumption)
          obtain ⟨ad536,e536,hx536_0⟩ := Kd.at_int HR0.out 1 p536 q536
          obtain rfl : ad533 = ad536 := (by injection e536)
          (try simp only [show (1 : Int).toNat = 1 from rfl,Nat.reduceMul,Nat.reduceEqDiff,Go.Addr.add,↓reduceIte] at hx536_0)
          have qi536 : (1 < l0.length) = True := eq_true (by omega)
          (try rw [show ((1 : Int)).toNat = 1 from rfl] at hx536_0)
          have hn536_0 : ad533.block ≠ gb534 := Nat.ne_of_lt (Nat.lt_of_lt_of_le (by have := World.block_lt_of_cell? _ _ hx536_0;first|rwa [add_block] at this|exact this) GW534.out)
          have hn536_1 : ad533.block ≠ gb534 := Nat.ne_of_lt (Nat.lt_of_lt_of_le (by have := World.block_lt_of_cell? _ _ hx536_0;first|rwa [add_block] at this|exact this) GW534.out)
          replace hx536_0 := (HB.out.cell (World.block_lt_of_cell? w _ hx536_0)).trans hx536_0
          replace hx536_0 := (cell_far (p := ⟨gb534,0,none⟩) (by first|(rw [add_block];exact hn536_0)|(show (Addr.add _ _).block ≠ _;rw [add_block];exact hn536_0)|exact hn536_0) (.int .i64 (rd l0 0))).trans hx536_0
          replace hx536_0 := (cell_far (p := ⟨gb534,1,none⟩) (by first|(rw [add_block];exact hn536_1)|(show (Addr.add _ _).block ≠ _;rw [add_block];exact hn536_1)|exact hn536_1) (.int .i64 0)).trans hx536_0
          clear hn536_0
          clear hn536_1
          replace p536 := eq_true p536
          replace q536 := eq_true q536
          have hnb23 := NB534_532.out
          have hnc23 := NB532_534.out
          have hcz24_0 : w9.cell? ⟨gb534,0,none⟩ = some (.int .i64 0) := (blk_cell BK534.out 0).trans rfl
          have hcz24_1 : w9.cell? ⟨gb534,1,none⟩ = some (.int .i64 0) := (blk_cell BK534.out 1).trans rfl
          have hfz24_0 := blk_frozen BK534.out 0
          have hfz24_1 := blk_frozen BK534.out 1
          have p537 : 0 ≤ (1 : Int) := (by omega)
          have q537 : 1 < (l0.length : Int) := of_decide_eq_true (by first|(with_reducible assumption)|assumption)
          obtain ⟨ad537,e537,hx537_0⟩ := Kd.at_int HR0.out 1 p537 q537
          obtain rfl : ad533 = ad537 := (by injection e537)
          (try simp only [show (1 : Int).toNat = 1 from rfl,Nat.reduceMul,Nat.reduceEqDiff,Go.Addr.add,↓reduceIte] at hx537_0)
          have qi537 : (1 < l0.length) = True := eq_true (by omega)
          (try rw [show ((1 : Int)).toNat = 1 from rfl] at hx537_0)
          have hn537_0 : ad533.block ≠ gb534 := Nat.ne_of_lt (Nat.lt_of_lt_of_le (by have := World.block_lt_of_cell? _ _ hx537_0;first|rwa [add_block] at this|exact this) GW534.out)
          have hn537_1 : ad533.block ≠ gb534 := Nat.ne_of_lt (Nat.lt_of_lt_of_le (by have := World.block_lt_of_cell? _ _ hx537_0;first|rwa [add_block] at this|exact this) GW534.out)
          have hn537_2 : ad533.block ≠ gb534 := Nat.ne_of_lt (Nat.lt_of_lt_of_le (by have := World.block_lt_of_cell? _ _ hx537_0;first|rwa [add_block] at this|exact this) GW534.out)
          replace hx537_0 := (HB.out.cell (World.block_lt_of_cell? w _ hx537_0)).trans hx537_0
          replace hx537_0 := (cell_far (p := ⟨gb534,0,none⟩) (by first|(rw [add_block];exact hn537_0)|(show (Addr.add _ _).block ≠ _;rw [add_block];exact hn537_0)|exact hn537_0) (.int .i64 (rd l0 0))).trans hx537_0
          replace hx537_0 := (cell_far (p := ⟨gb534,1,none⟩) (by first|(rw [add_block];exact hn537_1)|(show (Addr.add _ _).block ≠ _;rw [add_block];exact hn537_1)|exact hn537_1) (.int .i64 0)).trans hx537_0
          replace hx537_0 := (cell_far (p := ⟨gb534,1,none⟩) (by first|(rw [add_block];exact hn537_2)|(show (Addr.add _ _).block ≠ _;rw [add_block];exact hn537_2)|exact hn537_2) (.int .i64 (rd l0 1))).trans hx537_0
          clear hn537_0
          clear hn537_1
          clear hn537_2
          replace p537 := eq_true p537
          replace q537 := eq_true q537
          try go_wp2
          have n0_ : Aside0 ((((w9.setCell ⟨gb534,0,none⟩ (.int .i64 (rd l0 0))).setCell ⟨gb534,1,none⟩ (.int .i64 0)).setCell ⟨gb534,1,none⟩ (.int .i64 (rd l0 1))).heap[gb532]? = some (.cells #[.int .i64 0,.int .i64 0] 49 (0,0))) := ⟨by (with_reducible repeat (first|refine blk_drewN ?_ _|refine blk_drew ?_|refine blk_alloc ?_ _));refine blk_far ?_ NB532_534.out _;(with_reducible repeat (first|refine blk_drewN ?_ _|refine blk_drew ?_|refine blk_alloc ?_ _));refine blk_far ?_ NB532_534.out _;(with_reducible repeat (first|refine blk_drewN ?_ _|refine blk_drew ?_|refine blk_alloc ?_ _));refine blk_far ?_ NB532_534.out _;(with_reducible repeat (first|refine blk_drewN ?_ _|refine blk_drew ?_|refine blk_alloc ?_ _));exact BK532.out⟩
          have n1_ : Aside0 ((((w9.setCell ⟨gb534,0,none⟩ (.int .i64 (rd l0 0))).setCell ⟨gb534,1,none⟩ (.int .i64 0)).setCell ⟨gb534,1,none⟩ (.int .i64 (rd l0 1))).heap[gb534]? = some (.cells #[.int .i64 (rd l0 0),.int .i64 (rd l0 1)] 49 (0,0))) := ⟨by (with_reducible repeat (first|refine blk_drewN ?_ _|refine blk_drew ?_|refine blk_alloc ?_ _));refine blk_put (cs := #[.int .i64 (rd l0 0),.int .i64 0]) ?_ 1 _ rfl;(with_reducible repeat (first|refine blk_drewN ?_ _|refine blk_drew ?_|refine blk_alloc ?_ _));refine blk_put (cs := #[.int .i64 (rd l0 0),.int .i64 0]) ?_ 1 _ rfl;(with_reducible repeat (first|refine blk_drewN ?_ _|refine blk_drew ?_|refine blk_alloc ?_ _));refine blk_put (cs := #[.int .i64 0,.int .i64 0]) ?_ 0 _ rfl;(with_reducible repeat (first|refine blk_drewN ?_ _|refine blk_drew ?_|refine blk_alloc ?_ _));exact BK534.out⟩
          have n2_ : Aside0 (Below w.heap.size w (((w9.setCell ⟨gb534,0,none⟩ (.int .i64 (rd l0 0))).setCell ⟨gb534,1,none⟩ (.int .i64 0)).setCell ⟨gb534,1,none⟩ (.int .i64 (rd l0 1)))) := ⟨by repeat (first|(with_reducible first|exact HB.out|apply below_alloc|apply pw_below_drewN|apply below_drew1|refine below_set ?_ GE532.out|refine below_set ?_ GE534.out)|exact HB.out)⟩
          (try clear BK532)
          (try clear BK534)
          (try clear HB)
          generalize (((w9.setCell ⟨gb534,0,none⟩ (.int .i64 (rd l0 0))).setCell ⟨gb534,1,none⟩ (.int .i64 0)).setCell ⟨gb534,1,none⟩ (.int .i64 (rd l0 1))) = w25 at n0_ n1_ n2_ ⊢;(replace n0_ := Aside0.mk (blk_drewN n0_.out nd));(replace n1_ := Aside0.mk (blk_drewN n1_.out nd));(replace n2_ := Aside0.mk (pw_below_drewN n2_.out nd));generalize w25.drewN nd = w25 at n0_ n1_ n2_ ⊢
          have BK532 := n0_
          have BK534 := n1_
          have HB := n2_
          clear n0_ n1_ n2_
          have n0_ := Aside0.mk (blk_drew BK532.out)
          have n1_ := Aside0.mk (blk_drew BK534.out)
          have n2_ := Aside0.mk (below_drew1 HB.out)
          clear BK532
          clear BK534
          clear HB
          have BK532 := n0_
          have BK534 := n1_
          have HB := n2_
          clear n0_ n1_ n2_
          have p538 : 0 ≤ (1 : Int) := (by omega)
          have q538 : 1 < (l0.length : Int) := of_decide_eq_true (by first|(with_reducible assumption)|assumption)
          obtain ⟨ad538,e538,hx538_0⟩ := Kd.at_int HR0.out 1 p538 q538
          have hw538_0 := hx538_0
          (try rw [show ((1 : Int)).toNat = 1 from rfl] at hw538_0)
          (try rw [show 1 * 1 = 1 from rfl] at hw538_0)
          (try simp only [Nat.reduceMul,Nat.reduceEqDiff,Go.Addr.add,↓reduceIte] at hw538_0)
          obtain rfl : ad533 = ad538 := (by injection e538)
          (try simp only [show (1 : Int).toNat = 1 from rfl,Nat.reduceMul,Nat.reduceEqDiff,Go.Addr.add,↓reduceIte] at hx538_0)
          have qi538 : (1 < l0.length) = True := eq_true (by omega)
          (try rw [show ((1 : Int)).toNat = 1 from rfl] at hx538_0)
          replace hx538_0 := (HB.out.cell (World.block_lt_of_cell? w _ hx538_0)).trans hx538_0
          replace p538 := eq_true p538
          replace q538 := eq_true q538
          have p539 : 0 ≤ (2 : Int) := (by omega)
          have q539 : 2 < (l0.length : Int) := of_decide_eq_true (by first|(with_reducible assumption)|assumption)
          obtain ⟨ad539,e539,hx539_0⟩ := Kd.at_int HR0.out 2 p539 q539
          have hw539_0 := hx539_0
          (try rw [show ((2 : Int)).toNat = 2 from rfl] at hw539_0)
          (try rw [show 2 * 1 = 2 from rfl] at hw539_0)
          (try simp only [Nat.reduceMul,Nat.reduceEqDiff,Go.Addr.add,↓reduceIte] at hw539_0)
          obtain rfl : ad533 = ad539 := (by injection e539)
          (try simp only [show (2 : Int).toNat = 2 from rfl,Nat.reduceMul,Nat.reduceEqDiff,Go.Addr.add,↓reduceIte] at hx539_0)
          have qi539 : (2 < l0.length) = True := eq_true (by omega)
          (try rw [show ((2 : Int)).toNat = 2 from rfl] at hx539_0)
          replace hx539_0 := (HB.out.cell (World.block_lt_of_cell? w _ hx539_0)).trans hx539_0
          replace p539 := eq_true p539
          replace q539 := eq_true q539
          refine start_ (n := 11) (S := fun w' => w'.cell? ⟨ad533.block,ad533.off + 1,none⟩ = some (.int .i64 (rd l0 1)) ∧ w'.cell? ⟨ad533.block,ad533.off + 2,none⟩ = some (.int .i64 (rd l0 2))) (ds := []) #[false,false,false,false,false,false,false,false,false,false,false] (by kernel_rfl) rfl rfl ⟨((HB.out.cell (World.block_lt_of_cell? w _ hw538_0)).trans hw538_0),((HB.out.cell (World.block_lt_of_cell? w _ hw539_0)).trans hw539_0)⟩ (fun hHeld => ?_);refine with_tabW spec_readOp.tab13 spec_readOp.bits13 (fun HT_ HW_ => ?_)
          generalize w25.drew = w26 at BK532 BK534 HB hx538_0 hx539_0 hHeld ⊢
          refine pure_ (i := 0) (N := some 34) (v := ?_) (a' := ?_) #[true,false,false,false,false,false,false,false,false,false,false] rfl rfl (any_of HT_.out (by kernel_rfl)) (fun _ _ _ h => h) (Or.inl ⟨by rfl,?_⟩) ?_ ?_
          rotate_left
          ·intro w'
           go_simp
           with_reducible rfl
          rotate_left
          ·simp only [Act.put,List.setIfInBounds_toArray,List.set_cons_zero,List.set_cons_succ,i64_w,i32_w]
           rfl
          refine pure_ (i := 1) (N := some 35) (v := ?_) (a' := ?_) #[true,true,false,false,false,false,false,false,false,false,false] rfl rfl (any_of HT_.out (by kernel_rfl)) (fun _ _ _ h => h) (Or.inl ⟨by rfl,?_⟩) ?_ ?_
          rotate_left
          ·intro w'
           go_simp
           with_reducible rfl
          rotate_left
          ·simp only [Act.put,List.setIfInBounds_toArray,List.set_cons_zero,List.set_cons_succ,i64_w,i32_w]
           rfl
          refine pure_ (i := 4) (N := some 38) (v := ?_) (a' := ?_) #[true,true,false,false,true,false,false,false,false,false,false] rfl rfl (any_of HT_.out (by kernel_rfl)) (fun _ _ _ h => h) (Or.inl ⟨by rfl,?_⟩) ?_ ?_
          rotate_left
          ·intro w'
           go_simp
           with_reducible rfl
          rotate_left
          ·simp only [Act.put,List.setIfInBounds_toArray,List.set_cons_zero,List.set_cons_succ,i64_w,i32_w]
           rfl
          refine pure_ (i := 5) (N := some 39) (v := ?_) (a' := ?_) #[true,true,false,false,true,true,false,false,false,false,false] rfl rfl (any_of HT_.out (by kernel_rfl)) (fun _ _ _ h => h) (Or.inl ⟨by rfl,?_⟩) ?_ ?_
          rotate_left
          ·intro w'
           go_simp
           with_reducible rfl
          rotate_left
          ·simp only [Act.put,List.setIfInBounds_toArray,List.set_cons_zero,List.set_cons_succ,i64_w,i32_w]
           rfl
          refine take_ (i := 2) (N := some 36) (v := ?_) (a' := ?_) #[true,true,true,false,true,true,false,false,false,false,false] rfl rfl (take_ofW HT_.out HW_.out (by kernel_rfl)) (fun _ _ _ h => h) (Or.inl ⟨by rfl,?_⟩) hHeld ?_ ?_
          rotate_left
          ·rintro w' ⟨s0,s1⟩
           go_simp
           with_reducible rfl
          rotate_left
          ·simp only [Act.put,List.setIfInBounds_toArray,List.set_cons_zero,List.set_cons_succ,i64_w,i32_w]
           rfl
          refine pure_ (i := 3) (N := some 37) (v := ?_) (a' := ?_) #[true,true,true,true,true,true,false,false,false,false,false] rfl rfl (any_of HT_.out (by kernel_rfl)) (fun _ _ _ h => h) (Or.inl ⟨by rfl,?_⟩) ?_ ?_
          rotate_left
          ·intro w'
           go_simp
           with_reducible rfl
          rotate_left
          ·simp only [Act.put,List.setIfInBounds_toArray,List.set_cons_zero,List.set_cons_succ,i64_w,i32_w]
           rfl
          refine take_ (i := 6) (N := some 40) (v := ?_) (a' := ?_) #[true,true,true,true,true,true,true,false,false,false,false] rfl rfl (take_ofW HT_.out HW_.out (by kernel_rfl)) (fun _ _ _ h => h) (Or.inl ⟨by rfl,?_⟩) hHeld ?_ ?_
          rotate_left
          ·rintro w' ⟨s0,s1⟩
           go_simp
           with_reducible rfl
          rotate_left
          ·simp only [Act.put,List.setIfInBounds_toArray,List.set_cons_zero,List.set_cons_succ,i64_w,i32_w]
           rfl
          refine pure_ (i := 7) (N := some 41) (v := ?_) (a' := ?_) #[true,true,true,true,true,true,true,true,false,false,false] rfl rfl (any_of HT_.out (by kernel_rfl)) (fun _ _ _ h => h) (Or.inl ⟨by rfl,?_⟩) ?_ ?_
          rotate_left
          ·intro w'
           go_simp
           with_reducible rfl
          rotate_left
          ·simp only [Act.put,List.setIfInBounds_toArray,List.set_cons_zero,List.set_cons_succ,i64_w,i32_w]
           rfl
          refine pure_ (i := 8) (N := some 42) (v := ?_) (a' := ?_) #[true,true,true,true,true,true,true,true,true,false,false] rfl rfl (any_of HT_.out (by kernel_rfl)) (fun _ _ _ h => h) (Or.inl ⟨by rfl,?_⟩) ?_ ?_
          rotate_left
          ·intro w'
           go_simp
           with_reducible rfl
          rotate_left
          ·simp only [Act.put,List.setIfInBounds_toArray,List.set_cons_zero,List.set_cons_succ,i64_w,i32_w]
           rfl
          refine pure_ (i := 9) (N := some 43) (v := ?_) (a' := ?_) #[true,true,true,true,true,true,true,true,true,true,false] rfl rfl (any_of HT_.out (by kernel_rfl)) (fun _ _ _ h => h) (Or.inl ⟨by rfl,?_⟩) ?_ ?_
          rotate_left
          ·intro w'
           go_simp
           with_reducible rfl
          rotate_left
          ·simp only [Act.put,List.setIfInBounds_toArray,List.set_cons_zero,List.set_cons_succ,i64_w,i32_w]
           rfl
          refine one_ (i := 10) (N := none) #[true,true,true,true,true,true,true,true,true,true,true] rfl rfl (one_of HT_.out (by kernel_rfl)) (by decide) (fun K hK => ?_)
          have hs27 : w26.cell? ⟨gb534,1,none⟩ = some (.int .i64 (rd l0 1)) := (blk_cell BK534.out 1).trans rfl
          have hfs27 := blk_frozen BK534.out 1
          have hns27_0 := NB532_534.out
          have hms27_0 := NB534_532.out
          refine skip_ (w1 := ?_) (by rfl) rfl ?_ ?_
          rotate_left
          ·go_simp
           rfl
          refine hK.out _ _ ⟨((cell_far (p := ⟨gb534,_,none⟩) (by first|exact Nat.ne_of_lt (Nat.lt_of_lt_of_le (by have := World.block_lt_of_cell? _ _ hw538_0;first|rwa [add_block] at this|exact this) GW534.out)|(rw [add_block];exact Nat.ne_of_lt (Nat.lt_of_lt_of_le (by have := World.block_lt_of_cell? _ _ hw538_0;first|rwa [add_block] at this|exact this) GW534.out))|(show (Addr.add _ _).block ≠ _;rw [add_block];exact Nat.ne_of_lt (Nat.lt_of_lt_of_le (by have := World.block_lt_of_cell? _ _ hw538_0;first|rwa [add_block] at this|exact this) GW534.out))|(dsimp only;exact Nat.ne_of_lt (Nat.lt_of_lt_of_le (by have := World.block_lt_of_cell? _ _ hw538_0;first|rwa [add_block] at this|exact this) GW534.out))) _).trans (hHeld.1)),((cell_far (p := ⟨gb534,_,none⟩) (by first|exact Nat.ne_of_lt (Nat.lt_of_lt_of_le (by have := World.block_lt_of_cell? _ _ hw539_0;first|rwa [add_block] at this|exact this) GW534.out)|(rw [add_block];exact Nat.ne_of_lt (Nat.lt_of_lt_of_le (by have := World.block_lt_of_cell? _ _ hw539_0;first|rwa [add_block] at this|exact this) GW534.out))|(show (Addr.add _ _).block ≠ _;rw [add_block];exact Nat.ne_of_lt (Nat.lt_of_lt_of_le (by have := World.block_lt_of_cell? _ _ hw539_0;first|rwa [add_block] at this|exact this) GW534.out))|(dsimp only;exact Nat.ne_of_lt (Nat.lt_of_lt_of_le (by have := World.block_lt_of_cell? _ _ hw539_0;first|rwa [add_block] at this|exact this) GW534.out))) _).trans (hHeld.2))⟩ (fun hHeld => ?_)
          clear hK K
          refine done_ (done_of HT_.out (by kernel_rfl)) ?_
          try go_wp2
          go_meet
          case rel => exact ⟨_,(3),(0),(0),(wrap64 ((wrap64 ((rd l0 1) - 128)) + (wrap64 (128 * (rd l0 2))))),(by first|rfl|(simp;done)|(simp [*];done)),H',⟨by first|omega|exact Nat.le_refl _⟩,⟨by (with_reducible repeat (first|refine blk_drewN ?_ _|refine blk_drew ?_|refine blk_alloc ?_ _));refine blk_far ?_ NB532_534.out _;(with_reducible repeat (first|refine blk_drewN ?_ _|refine blk_drew ?_|refine blk_alloc ?_ _));exact BK532.out⟩,⟨by (with_reducible repeat (first|refine blk_drewN ?_ _|refine blk_drew ?_|refine blk_alloc ?_ _));refine blk_put (cs := #[.int .i64 (rd l0 0),.int .i64 (rd l0 1)]) ?_ 1 _ rfl;(with_reducible repeat (first|refine blk_drewN ?_ _|refine blk_drew ?_|refine blk_alloc ?_ _));exact BK534.out⟩,⟨by repeat (first|(with_reducible first|exact HB.out|apply below_alloc|apply pw_below_drewN|apply below_drew1|refine below_set ?_ GE532.out|refine below_set ?_ GE534.out)|exact HB.out)⟩⟩
         ·rw [if_neg c22] at H
          exact absurd H (by simp)
       ·rw [if_neg c17] at H
        have c17b0 : decide (128 ≤ (rd l0 1)) = false := decide_eq_false c17
        clear c17
        have H' := Aside0.mk H
        clear H
        have p536 : 0 ≤ (1 : Int) := (by omega)
        have q536 : 1 < (l0.length : Int) := of_decide_eq_true (by first|(with_reducible assumption)|assumption)
        obtain ⟨ad536,e536,hx536_0⟩ := Kd.at_int HR0.out 1 p536 q536
        obtain rfl : ad533 = ad536 := (by injection e536)
        (try simp only [show (1 : Int).toNat = 1 from rfl,Nat.reduceMul,Nat.reduceEqDiff,Go.Addr.add,↓reduceIte] at hx536_0)
        have qi536 : (1 < l0.length) = True := eq_true (by omega)
        (try rw [show ((1 : Int)).toNat = 1 from rfl] at hx536_0)
        have hn536_0 : ad533.block ≠ gb534 := Nat.ne_of_lt (Nat.lt_of_lt_of_le (by have := World.block_lt_of_cell? _ _ hx536_0;first|rwa [add_block] at this|exact this) GW534.out)
        have hn536_1 : ad533.block ≠ gb534 := Nat.ne_of_lt (Nat.lt_of_lt_of_le (by have := World.block_lt_of_cell? _ _ hx536_0;first|rwa [add_block] at this|exact this) GW534.out)
        replace hx536_0 := (HB.out.cell (World.block_lt_of_cell? w _ hx536_0)).trans hx536_0
        replace hx536_0 := (cell_far (p := ⟨gb534,0,none⟩) (by first|(rw [add_block];exact hn536_0)|(show (Addr.add _ _).block ≠ _;rw [add_block];exact hn536_0)|exact hn536_0) (.int .i64 (rd l0 0))).trans hx536_0
        replace hx536_0 := (cell_far (p := ⟨gb534,1,none⟩) (by first|(rw [add_block];exact hn536_1)|(show (Addr.add _ _).block ≠ _;rw [add_block];exact hn536_1)|exact hn536_1) (.int .i64 0)).trans hx536_0
        clear hn536_0
        clear hn536_1
        replace p536 := eq_true p536
        replace q536 := eq_true q536
        have hnb28 := NB534_532.out
        have hnc28 := NB532_534.out
        have hcz29_0 : w9.cell? ⟨gb534,0,none⟩ = some (.int .i64 0) := (blk_cell BK534.out 0).trans rfl
        have hcz29_1 : w9.cell? ⟨gb534,1,none⟩ = some (.int .i64 0) := (blk_cell BK534.out 1).trans rfl
        have hfz29_0 := blk_frozen BK534.out 0
        have hfz29_1 := blk_frozen BK534.out 1
        have p537 : 0 ≤ (1 : Int) := (by omega)
        have q537 : 1 < (l0.length : Int) := of_decide_eq_true (by first|(with_reducible assumption)|assumption)
        obtain ⟨ad537,e537,hx537_0⟩ := Kd.at_int HR0.out 1 p537 q537
        obtain rfl : ad533 = ad537 := (by injection e537)
        (try simp only [show (1 : Int).toNat = 1 from rfl,Nat.reduceMul,Nat.reduceEqDiff,Go.Addr.add,↓reduceIte] at hx537_0)
        have qi537 : (1 < l0.length) = True := eq_true (by omega)
        (try rw [show ((1 : Int)).toNat = 1 from rfl] at hx537_0)
        have hn537_0 : ad533.block ≠ gb534 := Nat.ne_of_lt (Nat.lt_of_lt_of_le (by have := World.block_lt_of_cell? _ _ hx537_0;first|rwa [add_block] at this|exact this) GW534.out)
        have hn537_1 : ad533.block ≠ gb534 := Nat.ne_of_lt (Nat.lt_of_lt_of_le (by have := World.block_lt_of_cell? _ _ hx537_0;first|rwa [add_block] at this|exact this) GW534.out)
        have hn537_2 : ad533.block ≠ gb534 := Nat.ne_of_lt (Nat.lt_of_lt_of_le (by have := World.block_lt_of_cell? _ _ hx537_0;first|rwa [add_block] at this|exact this) GW534.out)
        replace hx537_0 := (HB.out.cell (World.block_lt_of_cell? w _ hx537_0)).trans hx537_0
        replace hx537_0 := (cell_far (p := ⟨gb534,0,none⟩) (by first|(rw [add_block];exact hn537_0)|(show (Addr.add _ _).block ≠ _;rw [add_block];exact hn537_0)|exact hn537_0) (.int .i64 (rd l0 0))).trans hx537_0
        replace hx537_0 := (cell_far (p := ⟨gb534,1,none⟩) (by first|(rw [add_block];exact hn537_1)|(show (Addr.add _ _).block ≠ _;rw [add_block];exact hn537_1)|exact hn537_1) (.int .i64 0)).trans hx537_0
        replace hx537_0 := (cell_far (p := ⟨gb534,1,none⟩) (by first|(rw [add_block];exact hn537_2)|(show (Addr.add _ _).block ≠ _;rw [add_block];exact hn537_2)|exact hn537_2) (.int .i64 (rd l0 1))).trans hx537_0
        clear hn537_0
        clear hn537_1
        clear hn537_2
        replace p537 := eq_true p537
        replace q537 := eq_true q537
        go_wp2
        go_meet
        case rel => exact ⟨_,(2),(0),(0),(rd l0 1),(by first|rfl|(simp;done)|(simp [*];done)),H',⟨by first|omega|exact Nat.le_refl _⟩,⟨by (with_reducible repeat (first|refine blk_drewN ?_ _|refine blk_drew ?_|refine blk_alloc ?_ _));refine blk_far ?_ NB532_534.out _;(with_reducible repeat (first|refine blk_drewN ?_ _|refine blk_drew ?_|refine blk_alloc ?_ _));refine blk_far ?_ NB532_534.out _;(with_reducible repeat (first|refine blk_drewN ?_ _|refine blk_drew ?_|refine blk_alloc ?_ _));refine blk_far ?_ NB532_534.out _;(with_reducible repeat (first|refine blk_drewN ?_ _|refine blk_drew ?_|refine blk_alloc ?_ _));exact BK532.out⟩,⟨by (with_reducible repeat (first|refine blk_drewN ?_ _|refine blk_drew ?_|refine blk_alloc ?_ _));refine blk_put (cs := #[.int .i64 (rd l0 0),.int .i64 0]) ?_ 1 _ rfl;(with_reducible repeat (first|refine blk_drewN ?_ _|refine blk_drew ?_|refine blk_alloc ?_ _));refine blk_put (cs := #[.int .i64 (rd l0 0),.int .i64 0]) ?_ 1 _ rfl;(with_reducible repeat (first|refine blk_drewN ?_ _|refine blk_drew ?_|refine blk_alloc ?_ _));refine blk_put (cs := #[.int .i64 0,.int .i64 0]) ?_ 0 _ rfl;(with_reducible repeat (first|refine blk_drewN ?_ _|refine blk_drew ?_|refine blk_alloc ?_ _));exact BK534.out⟩,⟨by repeat (first|(with_reducible first|exact HB.out|apply below_alloc|apply pw_below_drewN|apply below_drew1|refine below_set ?_ GE532.out|refine below_set ?_ GE534.out)|exact HB.out)⟩⟩
      ·rw [if_neg c16] at H
       exact absurd H (by simp)
    ·rw [if_neg c12] at H
     have c12b0 : decide (0 ≤ t535) = false := decide_eq_false c12
     clear c12
     (first|rw [c12b0]|(simp only [i64_w,i32_w];rw [c12b0])|skip)
     have H' := Aside0.mk H
     clear H
     go_wp2
     go_meet
     case rel => exact ⟨_,(1),(0),(0),(0),(by first|rfl|(simp;done)|(simp [*];done)),H',⟨by first|omega|exact Nat.le_refl _⟩,⟨by (with_reducible repeat (first|refine blk_drewN ?_ _|refine blk_drew ?_|refine blk_alloc ?_ _));refine blk_far ?_ NB532_534.out _;(with_reducible repeat (first|refine blk_drewN ?_ _|refine blk_drew ?_|refine blk_alloc ?_ _));refine blk_far ?_ NB532_534.out _;(with_reducible repeat (first|refine blk_drewN ?_ _|refine blk_drew ?_|refine blk_alloc ?_ _));exact BK532.out⟩,⟨by (with_reducible repeat (first|refine blk_drewN ?_ _|refine blk_drew ?_|refine blk_alloc ?_ _));refine blk_put (cs := #[.int .i64 (rd l0 0),.int .i64 0]) ?_ 1 _ rfl;(with_reducible repeat (first|refine blk_drewN ?_ _|refine blk_drew ?_|refine blk_alloc ?_ _));refine blk_put (cs := #[.int .i64 0,.int .i64 0]) ?_ 0 _ rfl;(with_reducible repeat (first|refine blk_drewN ?_ _|refine blk_drew ?_|refine blk_alloc ?_ _));exact BK534.out⟩,⟨by repeat (first|(with_reducible first|exact HB.out|apply below_alloc|apply pw_below_drewN|apply below_drew1|refine below_set ?_ GE532.out|refine below_set ?_ GE534.out)|exact HB.out)⟩⟩
   case rest =>
    clear HC7
    try clear c1
    try clear c2
    try clear c2b0
    try clear c2b1
    try clear c2b2
    try clear p2
    try clear c5
    try clear c5b0
    try clear c5b1
    try clear p5
    try clear q5
    try clear hx5
    try clear qi5
    try clear p6
    try clear c7
    try clear c10
    try clear c12
    try clear c12b0
    try clear c13
    try clear c13b0
    try clear c13b1
    try clear c14
    try clear c16
    try clear c16b0
    try clear c16b1
    try clear c17
    try clear c17b0
    try clear c18
    try clear c18b0
    try clear c18b1
    try clear c19
    try clear c22
    try clear c22b0
    try clear c22b1
    try clear c23
    try clear c28
    try clear hcz11_0
    try clear hcz11_1
    try clear hcz15_0
    try clear hcz15_1
    try clear hcz20_0
    try clear hcz20_1
    try clear hcz21_0
    try clear hcz21_1
    try clear hcz24_0
    try clear hcz24_1
    try clear hcz29_0
    try clear hcz29_1
    try clear hcz4_0
    try clear hcz4_1
    try clear hfz11_0
    try clear hfz11_1
    try clear hfz15_0
    try clear hfz15_1
    try clear hfz20_0
    try clear hfz20_1
    try clear hfz21_0
    try clear hfz21_1
    try clear hfz24_0
    try clear hfz24_1
    try clear hfz29_0
    try clear hfz29_1
    try clear hfz4_0
    try clear hfz4_1
    try clear hx533_0
    try clear hx536_0
    try clear hx537_0
    try clear hx538_0
    try clear hx539_0
    try clear p533
    try clear p536
    try clear p537
    try clear p538
    try clear p539
    try clear q533
    try clear q536
    try clear q537
    try clear q538
    try clear q539
    obtain ⟨kq,x5_6,x533000_6,x533001_6,x535001_6,rfl,HA,HJ6,BK532,BK534,HB⟩ := hcut
    cases kq with
    | zero => exact absurd HA.out (fun h_ => (by cases h_))
    | succ kj6 =>
     have H := HA.out
     clear HA
     simp only [spec_readOp.j0] at H
     replace H := Option.bind_eq_some_iff.mp H
     obtain ⟨t540,A300,H⟩ := H
     replace H : (if t540 = true then ((spec_bytesOf.f (rd l0 0) x535001_6).bind fun t541 => (if (t541.length : Int) = x5_6 then (some ((rd l0 0),x535001_6,x5_6)) else (some (0,0,0)))) else (some (0,0,0))) = some (r1,r2,r3) := H
     have A30 := Aside0.mk A300
     clear A300
     by_cases c31 : t540 = true
     ·subst c31
      have H1 : ((spec_bytesOf.f (rd l0 0) x535001_6).bind fun t541 => (if (t541.length : Int) = x5_6 then (some ((rd l0 0),x535001_6,x5_6)) else (some (0,0,0)))) = some (r1,r2,r3) := by rw [if_pos rfl] at H;exact H
      clear H
      have H := H1
      clear H1
      replace H := Option.bind_eq_some_iff.mp H
      obtain ⟨t541,A320,H⟩ := H
      replace H : (if (t541.length : Int) = x5_6 then (some ((rd l0 0),x535001_6,x5_6)) else (some (0,0,0))) = some (r1,r2,r3) := H
      have A32 := Aside0.mk A320
      clear A320
      by_cases c33 : (t541.length : Int) = x5_6
      ·rw [if_pos c33] at H
       have c33b0 : ((t541.length : Int) == x5_6) = true := beq_iff_eq.mpr c33
       have c33b1 : ((t541.length : Int) != x5_6) = false := bne_eq_false_iff_eq.mpr c33
       clear c33
       simp only [Option.some.injEq,Prod.mk.injEq] at H
       obtain ⟨rfl,rfl,rfl⟩ := H
       have hnb34 := NB534_532.out
       have hnc34 := NB532_534.out
       have hcz35_0 : wc.cell? ⟨gb534,0,none⟩ = some (.int .i64 (rd l0 0)) := (blk_cell BK534.out 0).trans rfl
       have hcz35_1 : wc.cell? ⟨gb534,1,none⟩ = some (.int .i64 x535001_6) := (blk_cell BK534.out 1).trans rfl
       have hfz35_0 := blk_frozen BK534.out 0
       have hfz35_1 := blk_frozen BK534.out 1
       go_wp2_with (first|((with_reducible refine gate_callee (f := 73) rfl ?_);refine goesL_ (some 45) rfl rfl Try.func73 (by kernel_rfl) rfl #[.agg #[.int .i64 (rd l0 0),.int .i64 x535001_6]] rfl (by (try simp only [List.map_toArray,List.map_cons,List.map_nil]);first|done|rfl|(simp only [List.length_drop,List.length_take];rfl)) ?_;(with_reducible refine (spec_validOp.calls (rd l0 0) x535001_6 true _ A30.out).mono ?_);rintro e w36 ⟨rfl,hb⟩;refine ⟨_,rfl,?_⟩;have n0_ := Aside0.mk (blk_below (g := gb532) (o := .cells #[.int .i64 x533000_6,.int .i64 x533001_6] 49 (0,0)) (by (with_reducible repeat (first|refine blk_drewN ?_ _|refine blk_drew ?_|refine blk_alloc ?_ _));exact BK532.out) hb);have n1_ := Aside0.mk (blk_below (g := gb534) (o := .cells #[.int .i64 (rd l0 0),.int .i64 x535001_6] 49 (0,0)) (by (with_reducible repeat (first|refine blk_drewN ?_ _|refine blk_drew ?_|refine blk_alloc ?_ _));exact BK534.out) hb);have n2_ := Aside0.mk (below_step (by repeat (first|(with_reducible first|exact HB.out|apply below_alloc|apply pw_below_drewN|apply below_drew1|refine below_set ?_ GE532.out|refine below_set ?_ GE534.out)|exact HB.out)) hb);clear BK532;clear BK534;clear HB;have BK532 := n0_;have BK534 := n1_;have HB := n2_;clear n0_ n1_ n2_;(try clear hb);(try clear hb2);(try clear hk);(try clear hi);have hcz37_0 : w36.cell? ⟨gb534,0,none⟩ = some (.int .i64 (rd l0 0)) := (blk_cell BK534.out 0).trans rfl;have hcz37_1 : w36.cell? ⟨gb534,1,none⟩ = some (.int .i64 x535001_6) := (blk_cell BK534.out 1).trans rfl;have hfz37_0 := blk_frozen BK534.out 0;have hfz37_1 := blk_frozen BK534.out 1)|(go_at_call 61;(with_reducible refine (spec_bytesOf.calls (rd l0 0) x535001_6 t541 _ A32.out).mono ?_);rintro e w38 ⟨v542,rfl,ho0,hb⟩;have n0_ := Aside0.mk (Kd.R_lower ho0 (below_size (by repeat (first|(with_reducible first|exact HB.out|apply below_alloc|apply pw_below_drewN|apply below_drew1|refine below_set ?_ GE532.out|refine below_set ?_ GE534.out)|exact HB.out))));have n1_ := Aside0.mk (blk_below (g := gb532) (o := .cells #[.int .i64 x533000_6,.int .i64 x533001_6] 49 (0,0)) (by (with_reducible repeat (first|refine blk_drewN ?_ _|refine blk_drew ?_|refine blk_alloc ?_ _));exact BK532.out) hb);have n2_ := Aside0.mk (blk_below (g := gb534) (o := .cells #[.int .i64 (rd l0 0),.int .i64 x535001_6] 49 (0,0)) (by (with_reducible repeat (first|refine blk_drewN ?_ _|refine blk_drew ?_|refine blk_alloc ?_ _));exact BK534.out) hb);have n3_ := Aside0.mk (below_step (by repeat (first|(with_reducible first|exact HB.out|apply below_alloc|apply pw_below_drewN|apply below_drew1|refine below_set ?_ GE532.out|refine below_set ?_ GE534.out)|exact HB.out)) hb);clear BK532;clear BK534;clear HB;have HO543 := n0_;have BK532 := n1_;have BK534 := n2_;have HB := n3_;clear n0_ n1_ n2_ n3_;(try clear hb);(try clear hb2);(try clear hk);(try clear hi);(try clear ho0);obtain ⟨Ao39,co39,eo39⟩ := Kd.R_slice HO543.out;subst eo39;have hcz40_0 : w38.cell? ⟨gb534,0,none⟩ = some (.int .i64 (rd l0 0)) := (blk_cell BK534.out 0).trans rfl;have hcz40_1 : w38.cell? ⟨gb534,1,none⟩ = some (.int .i64 x535001_6) := (blk_cell BK534.out 1).trans rfl;have hfz40_0 := blk_frozen BK534.out 0;have hfz40_1 := blk_frozen BK534.out 1;have hcz41_0 : w38.cell? ⟨gb532,0,none⟩ = some (.int .i64 x533000_6) := (blk_cell BK532.out 0).trans rfl;have hcz41_1 : w38.cell? ⟨gb532,1,none⟩ = some (.int .i64 x533001_6) := (blk_cell BK532.out 1).trans rfl;have hfz41_0 := blk_frozen BK532.out 0;have hfz41_1 := blk_frozen BK532.out 1))
       refine bodyPost_ret (results_ct rfl _ _ gb532 49 #[.int .i64 (rd l0 0),.int .i64 x535001_6] (0,0) _ rfl (by (with_reducible repeat (first|refine blk_drewN ?_ _|refine blk_drew ?_|refine blk_alloc ?_ _));refine blk_put (cs := #[.int .i64 (rd l0 0),.int .i64 x533001_6]) ?_ 1 _ rfl;(with_reducible repeat (first|refine blk_drewN ?_ _|refine blk_drew ?_|refine blk_alloc ?_ _));refine blk_put (cs := #[.int .i64 x533000_6,.int .i64 x533001_6]) ?_ 0 _ rfl;(with_reducible repeat (first|refine blk_drewN ?_ _|refine blk_drew ?_|refine blk_alloc ?_ _));exact BK532.out) Try.underlying49 rfl (by kernel_rfl)) rfl ?_
       exact ⟨by first|rfl|(simp [errW_none,errW_some] <;> rfl)|(simp [*,errW_none,errW_some] <;> rfl),by repeat (first|(with_reducible first|exact HB.out|apply below_alloc|apply pw_below_drewN|apply below_drew1|refine below_set ?_ GE532.out|refine below_set ?_ GE534.out)|exact HB.out)⟩
      ·rw [if_neg c33] at H
       have c33b0 : ((t541.length : Int) == x5_6) = false := beq_eq_false_iff_ne.mpr c33
       have c33b1 : ((t541.length : Int) != x5_6) = true := bne_iff_ne.mpr c33
       simp only [Option.some.injEq,Prod.mk.injEq] at H
       obtain ⟨rfl,rfl,rfl⟩ := H
       have hnb42 := NB534_532.out
       have hnc42 := NB532_534.out
       have hcz43_0 : wc.cell? ⟨gb534,0,none⟩ = some (.int .i64 (rd l0 0)) := (blk_cell BK534.out 0).trans rfl
       have hcz43_1 : wc.cell? ⟨gb534,1,none⟩ = some (.int .i64 x535001_6) := (blk_cell BK534.out 1).trans rfl
       have hfz43_0 := blk_frozen BK534.out 0
       have hfz43_1 := blk_frozen BK534.out 1
       go_wp2_with (first|((with_reducible refine gate_callee (f := 73) rfl ?_);refine goesL_ (some 45) rfl rfl Try.func73 (by kernel_rfl) rfl #[.agg #[.int .i64 (rd l0 0),.int .i64 x535001_6]] rfl (by (try simp only [List.map_toArray,List.map_cons,List.map_nil]);first|done|rfl|(simp only [List.length_drop,List.length_take];rfl)) ?_;(with_reducible refine (spec_validOp.calls (rd l0 0) x535001_6 true _ A30.out).mono ?_);rintro e w44 ⟨rfl,hb⟩;refine ⟨_,rfl,?_⟩;have n0_ := Aside0.mk (blk_below (g := gb532) (o := .cells #[.int .i64 x533000_6,.int .i64 x533001_6] 49 (0,0)) (by (with_reducible repeat (first|refine blk_drewN ?_ _|refine blk_drew ?_|refine blk_alloc ?_ _));exact BK532.out) hb);have n1_ := Aside0.mk (blk_below (g := gb534) (o := .cells #[.int .i64 (rd l0 0),.int .i64 x535001_6] 49 (0,0)) (by (with_reducible repeat (first|refine blk_drewN ?_ _|refine blk_drew ?_|refine blk_alloc ?_ _));exact BK534.out) hb);have n2_ := Aside0.mk (below_step (by repeat (first|(with_reducible first|exact HB.out|apply below_alloc|apply pw_below_drewN|apply below_drew1|refine below_set ?_ GE532.out|refine below_set ?_ GE534.out)|exact HB.out)) hb);clear BK532;clear BK534;clear HB;have BK532 := n0_;have BK534 := n1_;have HB := n2_;clear n0_ n1_ n2_;(try clear hb);(try clear hb2);(try clear hk);(try clear hi);have hcz45_0 : w44.cell? ⟨gb534,0,none⟩ = some (.int .i64 (rd l0 0)) := (blk_cell BK534.out 0).trans rfl;have hcz45_1 : w44.cell? ⟨gb534,1,none⟩ = some (.int .i64 x535001_6) := (blk_cell BK534.out 1).trans rfl;have hfz45_0 := blk_frozen BK534.out 0;have hfz45_1 := blk_frozen BK534.out 1)|(go_at_call 61;(with_reducible refine (spec_bytesOf.calls (rd l0 0) x535001_6 t541 _ A32.out).mono ?_);rintro e w46 ⟨v542,rfl,ho0,hb⟩;have n0_ := Aside0.mk (Kd.R_lower ho0 (below_size (by repeat (first|(with_reducible first|exact HB.out|apply below_alloc|apply pw_below_drewN|apply below_drew1|refine below_set ?_ GE532.out|refine below_set ?_ GE534.out)|exact HB.out))));have n1_ := Aside0.mk (blk_below (g := gb532) (o := .cells #[.int .i64 x533000_6,.int .i64 x533001_6] 49 (0,0)) (by (with_reducible repeat (first|refine blk_drewN ?_ _|refine blk_drew ?_|refine blk_alloc ?_ _));exact BK532.out) hb);have n2_ := Aside0.mk (blk_below (g := gb534) (o := .cells #[.int .i64 (rd l0 0),.int .i64 x535001_6] 49 (0,0)) (by (with_reducible repeat (first|refine blk_drewN ?_ _|refine blk_drew ?_|refine blk_alloc ?_ _));exact BK534.out) hb);have n3_ := Aside0.mk (below_step (by repeat (first|(with_reducible first|exact HB.out|apply below_alloc|apply pw_below_drewN|apply below_drew1|refine below_set ?_ GE532.out|refine below_set ?_ GE534.out)|exact HB.out)) hb);clear BK532;clear BK534;clear HB;have HO543 := n0_;have BK532 := n1_;have BK534 := n2_;have HB := n3_;clear n0_ n1_ n2_ n3_;(try clear hb);(try clear hb2);(try clear hk);(try clear hi);(try clear ho0);obtain ⟨Ao47,co47,eo47⟩ := Kd.R_slice HO543.out;subst eo47;have hcz48_0 : w46.cell? ⟨gb532,0,none⟩ = some (.int .i64 x533000_6) := (blk_cell BK532.out 0).trans rfl;have hcz48_1 : w46.cell? ⟨gb532,1,none⟩ = some (.int .i64 x533001_6) := (blk_cell BK532.out 1).trans rfl;have hfz48_0 := blk_frozen BK532.out 0;have hfz48_1 := blk_frozen BK532.out 1))
       refine bodyPost_ret (results_ct rfl _ _ gb532 49 #[.int .i64 0,.int .i64 0] (0,0) _ rfl (by (with_reducible repeat (first|refine blk_drewN ?_ _|refine blk_drew ?_|refine blk_alloc ?_ _));refine blk_put (cs := #[.int .i64 0,.int .i64 x533001_6]) ?_ 1 _ rfl;(with_reducible repeat (first|refine blk_drewN ?_ _|refine blk_drew ?_|refine blk_alloc ?_ _));refine blk_put (cs := #[.int .i64 x533000_6,.int .i64 x533001_6]) ?_ 0 _ rfl;(with_reducible repeat (first|refine blk_drewN ?_ _|refine blk_drew ?_|refine blk_alloc ?_ _));exact BK532.out) Try.underlying49 rfl (by kernel_rfl)) rfl ?_
       exact ⟨by first|rfl|(simp [errW_none,errW_some] <;> rfl)|(simp [*,errW_none,errW_some] <;> rfl),by repeat (first|(with_reducible first|exact HB.out|apply below_alloc|apply pw_below_drewN|apply below_drew1|refine below_set ?_ GE532.out|refine below_set ?_ GE534.out)|exact HB.out)⟩
     ·replace c31 := Bool.eq_false_iff.mpr c31
      subst c31
      have H1 : (some (0,0,0)) = some (r1,r2,r3) := by rw [if_neg (show ¬ (false = true) by decide)] at H;exact H
      clear H
      have H := H1
      clear H1
      simp only [Option.some.injEq,Prod.mk.injEq] at H
      obtain ⟨rfl,rfl,rfl⟩ := H
      have hnb49 := NB534_532.out
      have hnc49 := NB532_534.out
      have hcz50_0 : wc.cell? ⟨gb534,0,none⟩ = some (.int .i64 (rd l0 0)) := (blk_cell BK534.out 0).trans rfl
      have hcz50_1 : wc.cell? ⟨gb534,1,none⟩ = some (.int .i64 x535001_6) := (blk_cell BK534.out 1).trans rfl
      have hfz50_0 := blk_frozen BK534.out 0
      have hfz50_1 := blk_frozen BK534.out 1
      go_wp2_with (first|((with_reducible refine gate_callee (f := 73) rfl ?_);refine goesL_ (some 45) rfl rfl Try.func73 (by kernel_rfl) rfl #[.agg #[.int .i64 (rd l0 0),.int .i64 x535001_6]] rfl (by (try simp only [List.map_toArray,List.map_cons,List.map_nil]);first|done|rfl|(simp only [List.length_drop,List.length_take];rfl)) ?_;(with_reducible refine (spec_validOp.calls (rd l0 0) x535001_6 false _ A30.out).mono ?_);rintro e w51 ⟨rfl,hb⟩;refine ⟨_,rfl,?_⟩;have n0_ := Aside0.mk (blk_below (g := gb532) (o := .cells #[.int .i64 x533000_6,.int .i64 x533001_6] 49 (0,0)) (by (with_reducible repeat (first|refine blk_drewN ?_ _|refine blk_drew ?_|refine blk_alloc ?_ _));exact BK532.out) hb);have n1_ := Aside0.mk (blk_below (g := gb534) (o := .cells #[.int .i64 (rd l0 0),.int .i64 x535001_6] 49 (0,0)) (by (with_reducible repeat (first|refine blk_drewN ?_ _|refine blk_drew ?_|refine blk_alloc ?_ _));exact BK534.out) hb);have n2_ := Aside0.mk (below_step (by repeat (first|(with_reducible first|exact HB.out|apply below_alloc|apply pw_below_drewN|apply below_drew1|refine below_set ?_ GE532.out|refine below_set ?_ GE534.out)|exact HB.out)) hb);clear BK532;clear BK534;clear HB;have BK532 := n0_;have BK534 := n1_;have HB := n2_;clear n0_ n1_ n2_;(try clear hb);(try clear hb2);(try clear hk);(try clear hi);have hcz52_0 : w51.cell? ⟨gb532,0,none⟩ = some (.int .i64 x533000_6) := (blk_cell BK532.out 0).trans rfl;have hcz52_1 : w51.cell? ⟨gb532,1,none⟩ = some (.int .i64 x533001_6) := (blk_cell BK532.out 1).trans rfl;have hfz52_0 := blk_frozen BK532.out 0;have hfz52_1 := blk_frozen BK532.out 1))
      refine bodyPost_ret (results_ct rfl _ _ gb532 49 #[.int .i64 0,.int .i64 0] (0,0) _ rfl (by (with_reducible repeat (first|refine blk_drewN ?_ _|refine blk_drew ?_|refine blk_alloc ?_ _));refine blk_put (cs := #[.int .i64 0,.int .i64 x533001_6]) ?_ 1 _ rfl;(with_reducible repeat (first|refine blk_drewN ?_ _|refine blk_drew ?_|refine blk_alloc ?_ _));refine blk_put (cs := #[.int .i64 x533000_6,.int .i64 x533001_6]) ?_ 0 _ rfl;(with_reducible repeat (first|refine blk_drewN ?_ _|refine blk_drew ?_|refine blk_alloc ?_ _));exact BK532.out) Try.underlying49 rfl (by kernel_rfl)) rfl ?_
      exact ⟨by first|rfl|(simp [errW_none,errW_some] <;> rfl)|(simp [*,errW_none,errW_some] <;> rfl),by repeat (first|(with_reducible first|exact HB.out|apply below_alloc|apply pw_below_drewN|apply below_drew1|refine below_set ?_ GE532.out|refine below_set ?_ GE534.out)|exact HB.out)⟩
  ·rw [if_neg c5] at H
   exact absurd H (by simp)

end Go.Proofs.Ytonppkaobnfldaa.Q
