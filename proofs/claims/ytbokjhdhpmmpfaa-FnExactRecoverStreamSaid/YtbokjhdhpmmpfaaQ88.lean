-- Written by wip/tools/qprint.py (a program of this claim's author) by means of the kit's printer.
import Derived.Test.YtbokjhdhpmmpfaaQ0
import Derived.Test.YtbokjhdhpmmpfaaQ94
import Derived.Test.YtbokjhdhpmmpfaaQ116
namespace Go.Proofs.Ytbokjhdhpmmpfaa.Q
open Go.RowKit Go.Proofs.YtbokjhdhpmmpfaaW.PrintWords Go.Proofs.YtbokjhdhpmmpfaaW.PrintLast Go.Proofs.YtbokjhdhpmmpfaaW.PrintMore
attribute [local go_sem] max2_int min2_int max_two min_two max_three min_three max_four min_four   -- for this text's walks alone
set_option linter.unusedVariables false
set_option linter.unusedSimpArgs false

/-! ### spec_readOp: function 88 -/
theorem spec_readOp.outer (w : World) (n : Nat) (a : Addr) (v : Value) : (w.drewN n).setCell a v = (w.setCell a v).drewN n := rfl
def spec_readOp.j0 : Nat → Int → Int → Int → Option (Int × Int × Int)
 | 0,_,_,_ => none
 | k + 1,x5,x135000,x135001 => (spec_validOp.f x135000 x135001).bind fun t140 => (if t140 = true then ((spec_bytesOf.f x135000 x135001).bind fun t141 => (if (t141.length : Int) = x5 then (some (x135000,x135001,x5)) else (some (0,0,0)))) else (some (0,0,0)))
def spec_readOp.f (k : Nat) (l0 : List Int) : Option (Int × Int × Int) := if (l0.length : Int) = 0 then (some (0,0,0)) else (if 0 < (l0.length : Int) then ((spec_argOf.f (rd l0 0)).bind fun t135 => (if t135 ≥ 0 then (if (l0.length : Int) < 2 then (some (0,0,0)) else (if 1 < (l0.length : Int) then (if (rd l0 1) ≥ 128 then (if (l0.length : Int) < 3 then (some (0,0,0)) else (if 2 < (l0.length : Int) then (spec_readOp.j0 k 3 (rd l0 0) (wrap64 ((wrap64 ((rd l0 1) - 128)) + (wrap64 (128 * (rd l0 2)))))) else (none))) else (spec_readOp.j0 k 2 (rd l0 0) (rd l0 1))) else (none))) else (spec_readOp.j0 k 1 (rd l0 0) 0))) else (none))
set_option maxRecDepth 100000 in
theorem spec_readOp.mono_l : ∀ k,(∀ y0 y1 y2,LeO (spec_readOp.j0 k y0 y1 y2) (spec_readOp.j0 (k + 1) y0 y1 y2))
 | 0 => fun _ _ _ r h => (by cases h)
 | k + 1 => by
  have ih0 := spec_readOp.mono_l k
  ·intro y0 y1 y2
   unfold spec_readOp.j0
   repeat' first
   | (with_reducible exact ih0 _ _ _)
   | (with_reducible exact LeO.refl _)
   | (with_reducible exact LeO.none _)
   | (with_reducible refine LeO.ite ?_ ?_)
   | (with_reducible refine LeO.bind ?_ (fun _ => ?_))
   | exact ih0 _ _ _
   | exact LeO.none _
   | refine LeO.ite ?_ ?_
   | refine LeO.bind ?_ (fun _ => ?_)
set_option maxRecDepth 100000 in
theorem spec_readOp.mono : ∀ a0 k,LeO (spec_readOp.f k a0) (spec_readOp.f (k + 1) a0) := by
 intro a0 k
 have ih0 := spec_readOp.mono_l k
 unfold spec_readOp.f
 repeat' first
   | (with_reducible exact ih0 _ _ _)
   | (with_reducible exact LeO.refl _)
   | (with_reducible exact LeO.none _)
   | (with_reducible refine LeO.ite ?_ ?_)
   | (with_reducible refine LeO.bind ?_ (fun _ => ?_))
   | exact ih0 _ _ _
   | exact LeO.none _
   | refine LeO.ite ?_ ?_
   | refine LeO.bind ?_ (fun _ => ?_)
def spec_readOp.T13 : Bool × List (List Nat × List Nat) := (true,[([],[]),([0],[0]),([1],[1]),([2],[2]),([],[]),([4],[4]),([5],[5]),([6],[6]),([3,7],[3,7]),([0,1,2,3,4,5,6,7,8],[]),([9,8,0,1,2,3,4,5,6,7,8],[8,9])])
def spec_readOp.B13 : List Nat := [0,1,3,7,0,16,48,112,255,511,1023]
theorem spec_readOp.tab13 : rtab .any (opsOf Try.f88 13) = spec_readOp.T13 := by kernel_rfl
theorem spec_readOp.bits13 : waitsOk spec_readOp.T13.2 spec_readOp.B13 = true := by kernel_rfl
attribute [local go_sem] spec_readOp.outer in
set_option maxHeartbeats 8000000 in
set_option maxRecDepth 100000 in
theorem spec_readOp.calls (k : Nat) (A0 : Option Addr) (c0 : Nat) (l0 : List Int) (r1 : Int) (r2 : Int) (r3 : Int) (w : World) (hr0 : Kd.C (Kd.int .i64) w A0 l0.length l0) (hc0 : l0.length ≤ c0) (h : spec_readOp.f k l0 = some (r1,r2,r3)) :
  Calls Try.prog 88 #[.slice A0 l0.length c0] w fun e w' => e = .returned (.tuple #[.agg #[.int .i64 r1,.int .i64 r2],.int .i64 r3]) ∧ Below w.heap.size w w' := by
 have hu75 := Try.underlying75
 have HR0 := As_ hr0
 have HC0 := As_ hc0
 clear hr0 hc0
 have HB := As_ (Below.refl w.heap.size w)
 have H : (if (l0.length : Int) = 0 then (some (0,0,0)) else (if 0 < (l0.length : Int) then ((spec_argOf.f (rd l0 0)).bind fun t135 => (if t135 ≥ 0 then (if (l0.length : Int) < 2 then (some (0,0,0)) else (if 1 < (l0.length : Int) then (if (rd l0 1) ≥ 128 then (if (l0.length : Int) < 3 then (some (0,0,0)) else (if 2 < (l0.length : Int) then (spec_readOp.j0 k 3 (rd l0 0) (wrap64 ((wrap64 ((rd l0 1) - 128)) + (wrap64 (128 * (rd l0 2)))))) else (none))) else (spec_readOp.j0 k 2 (rd l0 0) (rd l0 1))) else (none))) else (spec_readOp.j0 k 1 (rd l0 0) 0))) else (none))) = some (r1,r2,r3) := h
 clear h
 by_cases c2 : (l0.length : Int) = 0
 ·rw [if_pos c2] at H
  have c2b0 : ((l0.length : Int) == 0) = true := beq_iff_eq.mpr c2
  have c2b1 : ((l0.length : Int) != 0) = false := bne_eq_false_iff_eq.mpr c2
  clear c2
  simp only [Option.some.injEq,Prod.mk.injEq] at H
  obtain ⟨rfl,rfl,rfl⟩ := H
  go_enter Try.func88,Try.ntmps88
  go_wp2_with (first|((with_reducible refine gate_dst (N := 2) rfl ?_);(try (refine gate_guard (by rfl) ?_;dsimp only));refine box_event ?hg (N := 2) ?hd (cs := #[.int .i64 0,.int .i64 0]) (t := 75) ?hr ?_;(case hd => rfl);(case hg => rfl);(case hr => go_simp <;> rfl);intro gb132 hg w3 hbox hb;have n0_ := As_ (bwT (zb0 HB.out) hb);have n1_ := As_ (hbox);have n2_ := As_ ((by rw [hg];exact (bwZ (zb0 HB.out)) : w.heap.size ≤ gb132));have n3_ := As_ ((by rw [hg];exact (bwZ (zb0 HB.out)) : w.heap.size ≤ gb132));clear HB;revert n0_ n1_ n2_ n3_;intro HB BK132 GW132 GE132;clear hb hbox hg;obtain ⟨hcz4_0,hcz4_1,hfz4_0,hfz4_1⟩ := bk2 BK132.out))
  refine bodyPost_ret (results_ct rfl _ _ gb132 75 #[.int .i64 0,.int .i64 0] (0,0) _ rfl (by (with_reducible repeat first|apply bkN|apply bkD|apply bkA);refine blk_put (cs := #[.int .i64 0,.int .i64 0]) ?_ 1 _ rfl;(with_reducible repeat first|apply bkN|apply bkD|apply bkA);refine blk_put (cs := #[.int .i64 0,.int .i64 0]) ?_ 0 _ rfl;(with_reducible repeat first|apply bkN|apply bkD|apply bkA);exact BK132.out) Try.underlying75 rfl (by kernel_rfl)) rfl ?_
  exact ⟨zE_,zb1 HB.out GE132.out⟩
 rw [if_neg c2] at H
 have c2b0 : ((l0.length : Int) == 0) = false := beq_eq_false_iff_ne.mpr c2
 have c2b1 : ((l0.length : Int) != 0) = true := bne_iff_ne.mpr c2
 have c2b2 : ¬ (l0 = []) := fun h_ => c2 (by rw [h_];rfl)
 by_cases c5 : 0 < (l0.length : Int)
 rotate_left
 ·rw [if_neg c5] at H
  exact absurd H (by simp)
 rw [if_pos c5] at H
 have c5b0 : decide (0 < (l0.length : Int)) = true := deT c5
 have c5b1 : decide (0 < l0.length) = true := deT (by omega)
 clear c5
 replace H := obS H
 obtain ⟨t135,A60,H⟩ := H
 replace H : (if t135 ≥ 0 then (if (l0.length : Int) < 2 then (some (0,0,0)) else (if 1 < (l0.length : Int) then (if (rd l0 1) ≥ 128 then (if (l0.length : Int) < 3 then (some (0,0,0)) else (if 2 < (l0.length : Int) then (spec_readOp.j0 k 3 (rd l0 0) (wrap64 ((wrap64 ((rd l0 1) - 128)) + (wrap64 (128 * (rd l0 2)))))) else (none))) else (spec_readOp.j0 k 2 (rd l0 0) (rd l0 1))) else (none))) else (spec_readOp.j0 k 1 (rd l0 0) 0)) = some (r1,r2,r3) := H
 have A6 := As_ A60
 clear A60
 have HC7 := As_ H
 clear H
 go_enter Try.func88,Try.ntmps88
 go_upto_if 17 with (first|((with_reducible refine gate_dst (N := 2) rfl ?_);(try (refine gate_guard (by rfl) ?_;dsimp only));refine box_event ?hg (N := 2) ?hd (cs := #[.int .i64 0,.int .i64 0]) (t := 75) ?hr ?_;(case hd => rfl);(case hg => rfl);(case hr => go_simp <;> rfl);intro gb132 hg w8 hbox hb;have n0_ := As_ (bwT (zb0 HB.out) hb);have n1_ := As_ (hbox);have n2_ := As_ ((by rw [hg];exact (bwZ (zb0 HB.out)) : w.heap.size ≤ gb132));have n3_ := As_ ((by rw [hg];exact (bwZ (zb0 HB.out)) : w.heap.size ≤ gb132));clear HB;revert n0_ n1_ n2_ n3_;intro HB BK132 GW132 GE132;clear hb hbox hg;have p133 : 0 ≤ (0 : Int) := (by omega);have q133 : 0 < (l0.length : Int) := odT zA_;obtain ⟨ad133,e133,hx133_0⟩ := Kd.at_int HR0.out 0 p133 q133;cases e133;have qi133 : (0 < l0.length) = True := eq_true (by omega);(try rw [show ((0 : Int)).toNat = 0 from rfl] at hx133_0);(try rw [Addr.add_zero'] at hx133_0);replace hx133_0 := bwC HB.out hx133_0;replace p133 := eq_true p133;replace q133 := eq_true q133)|((with_reducible refine gate_dst (N := 4) rfl ?_);(try (refine gate_guard (by rfl) ?_;dsimp only));refine box_event ?hg (N := 4) ?hd (cs := #[.int .i64 0,.int .i64 0]) (t := 75) ?hr ?_;(case hd => rfl);(case hg => rfl);(case hr => go_simp <;> rfl);intro gb134 hg w9 hbox hb;have n0_ := As_ (zkb BK132.out hb);have n1_ := As_ (bwT (zb1 HB.out GE132.out) hb);have n2_ := As_ (hbox);have n3_ := As_ ((by rw [hg];exact (bwZ (zb1 HB.out GE132.out)) : w.heap.size ≤ gb134));have n4_ := As_ ((by rw [hg];exact (bwZ (zb1 HB.out GE132.out)) : w.heap.size ≤ gb134));have n5_ := As_ ((by rw [hg];exact Nat.ne_of_lt (zkl BK132.out) : gb132 ≠ gb134));have n6_ := As_ ((by rw [hg];exact Nat.ne_of_gt (zkl BK132.out) : gb134 ≠ gb132));clear BK132 HB;revert n0_ n1_ n2_ n3_ n4_ n5_ n6_;intro BK132 HB BK134 GW134 GE134 NB132_134 NB134_132;clear hb hbox hg;have hnb10 := NB134_132.out;have hnc10 := NB132_134.out;obtain ⟨hcz11_0,hcz11_1,hfz11_0,hfz11_1⟩ := bk2 BK134.out)|((with_reducible refine gate_callee (f := 116) rfl ?_);refine goesL_ (some 16) rfl rfl Try.func116 (by kernel_rfl) rfl #[.int .i64 (rd l0 0)] rfl zM_ ?_;(with_reducible refine (spec_argOf.calls (rd l0 0) t135 _ A6.out).mono ?_);rintro e w' ⟨rfl,⟨nd,rfl⟩⟩;refine ⟨_,rfl,?_⟩))
 (try simp only [Act.put,List.setIfInBounds_toArray,List.set_cons_zero,List.set_cons_succ])
 go_cut [5] (fun v5 wc => ∃ (kq : Nat) (x5_6 : Int) (x133000_6 : Int) (x133001_6 : Int) (x135001_6 : Int),v5 = .int .i64 x5_6 ∧ Aside0 (spec_readOp.j0 kq x5_6 (rd l0 0) x135001_6 = some (r1,r2,r3)) ∧ Aside0 (kq ≤ k) ∧ Aside0 (wc.heap[gb132]? = some (.cells #[.int .i64 x133000_6,.int .i64 x133001_6] 75 (0,0))) ∧ Aside0 (wc.heap[gb134]? = some (.cells #[.int .i64 (rd l0 0),.int .i64 x135001_6] 75 (0,0))) ∧ Aside0 (Below w.heap.size w wc))
 case first =>
  have H := HC7.out
  clear HC7
  by_cases c12 : t135 ≥ 0
  rotate_left
  ·rw [if_neg c12] at H
   have c12b0 : decide (0 ≤ t135) = false := deF c12
   clear c12
   (first|rw [c12b0]|(simp only [i64_w,i32_w];rw [c12b0])|skip)
   have H' := As_ H
   clear H
   go_wp2
   go_meet
   case rel => exact ⟨_,(1),(0),(0),(0),zT_,H',⟨by first|omega|exact Nat.le_refl _⟩,⟨by (with_reducible repeat first|apply bkN|apply bkD|apply bkA);refine blk_far ?_ NB132_134.out _;(with_reducible repeat first|apply bkN|apply bkD|apply bkA);refine blk_far ?_ NB132_134.out _;(with_reducible repeat first|apply bkN|apply bkD|apply bkA);exact BK132.out⟩,⟨by (with_reducible repeat first|apply bkN|apply bkD|apply bkA);refine blk_put (cs := #[.int .i64 (rd l0 0),.int .i64 0]) ?_ 1 _ rfl;(with_reducible repeat first|apply bkN|apply bkD|apply bkA);refine blk_put (cs := #[.int .i64 0,.int .i64 0]) ?_ 0 _ rfl;(with_reducible repeat first|apply bkN|apply bkD|apply bkA);exact BK134.out⟩,⟨zb2 HB.out GE132.out GE134.out⟩⟩
  rw [if_pos c12] at H
  have c12b0 : decide (0 ≤ t135) = true := deT c12
  clear c12
  (first|rw [c12b0]|(simp only [i64_w,i32_w];rw [c12b0])|skip)
  by_cases c13 : (l0.length : Int) < 2
  ·rw [if_pos c13] at H
   have c13b0 : decide ((l0.length : Int) < 2) = true := deT c13
   have c13b1 : decide (l0.length < 2) = true := deT (by omega)
   clear c13
   simp only [Option.some.injEq,Prod.mk.injEq] at H
   obtain ⟨rfl,rfl,rfl⟩ := H
   have hnb14 := NB132_134.out
   have hnc14 := NB134_132.out
   obtain ⟨hcz15_0,hcz15_1,hfz15_0,hfz15_1⟩ := bk2 BK132.out
   go_wp2
   refine bodyPost_ret (results_ct rfl _ _ gb132 75 #[.int .i64 0,.int .i64 0] (0,0) _ rfl (by (with_reducible repeat first|apply bkN|apply bkD|apply bkA);refine blk_put (cs := #[.int .i64 0,.int .i64 0]) ?_ 1 _ rfl;(with_reducible repeat first|apply bkN|apply bkD|apply bkA);refine blk_put (cs := #[.int .i64 0,.int .i64 0]) ?_ 0 _ rfl;(with_reducible repeat first|apply bkN|apply bkD|apply bkA);refine blk_far ?_ NB132_134.out _;(with_reducible repeat first|apply bkN|apply bkD|apply bkA);refine blk_far ?_ NB132_134.out _;(with_reducible repeat first|apply bkN|apply bkD|apply bkA);exact BK132.out) Try.underlying75 rfl (by kernel_rfl)) rfl ?_
   exact ⟨zE_,zb2 HB.out GE132.out GE134.out⟩
  rw [if_neg c13] at H
  have c13b0 : decide ((l0.length : Int) < 2) = false := deF c13
  have c13b1 : decide (l0.length < 2) = false := deF (by omega)
  clear c13
  by_cases c16 : 1 < (l0.length : Int)
  rotate_left
  ·rw [if_neg c16] at H
   exact absurd H (by simp)
  rw [if_pos c16] at H
  have c16b0 : decide (1 < (l0.length : Int)) = true := deT c16
  have c16b1 : decide (1 < l0.length) = true := deT (by omega)
  clear c16
  by_cases c17 : (rd l0 1) ≥ 128
  rotate_left
  ·rw [if_neg c17] at H
   have c17b0 : decide (128 ≤ (rd l0 1)) = false := deF c17
   clear c17
   have H' := As_ H
   clear H
   have p136 : 0 ≤ (1 : Int) := (by omega)
   have q136 : 1 < (l0.length : Int) := odT zA_
   obtain ⟨ad136,e136,hx136_0⟩ := Kd.at_int HR0.out 1 p136 q136
   obtain rfl : ad133 = ad136 := (by injection e136)
   (try simp only [show (1 : Int).toNat = 1 from rfl,Nat.reduceMul,Nat.reduceEqDiff,Go.Addr.add,↓reduceIte] at hx136_0)
   have qi136 : (1 < l0.length) = True := eq_true (by omega)
   (try rw [show ((1 : Int)).toNat = 1 from rfl] at hx136_0)
   have hn136_0 : ad133.block ≠ gb134 := Nat.ne_of_lt (Nat.lt_of_lt_of_le (by have := bwL _ _ hx136_0;first|rwa [add_block] at this|exact this) GW134.out)
   have hn136_1 : ad133.block ≠ gb134 := Nat.ne_of_lt (Nat.lt_of_lt_of_le (by have := bwL _ _ hx136_0;first|rwa [add_block] at this|exact this) GW134.out)
   replace hx136_0 := bwC HB.out hx136_0
   replace hx136_0 := (cell_far (p := ⟨gb134,0,none⟩) (by first|(rw [add_block];exact hn136_0)|(show (Addr.add _ _).block ≠ _;rw [add_block];exact hn136_0)|exact hn136_0) (.int .i64 (rd l0 0))).trans hx136_0
   replace hx136_0 := (cell_far (p := ⟨gb134,1,none⟩) (by first|(rw [add_block];exact hn136_1)|(show (Addr.add _ _).block ≠ _;rw [add_block];exact hn136_1)|exact hn136_1) (.int .i64 0)).trans hx136_0
   clear hn136_0 hn136_1
   replace p136 := eq_true p136
   replace q136 := eq_true q136
   have hnb28 := NB134_132.out
   have hnc28 := NB132_134.out
   obtain ⟨hcz29_0,hcz29_1,hfz29_0,hfz29_1⟩ := bk2 BK134.out
   have p137 : 0 ≤ (1 : Int) := (by omega)
   have q137 : 1 < (l0.length : Int) := odT zA_
   obtain ⟨ad137,e137,hx137_0⟩ := Kd.at_int HR0.out 1 p137 q137
   obtain rfl : ad133 = ad137 := (by injection e137)
   (try simp only [show (1 : Int).toNat = 1 from rfl,Nat.reduceMul,Nat.reduceEqDiff,Go.Addr.add,↓reduceIte] at hx137_0)
   have qi137 : (1 < l0.length) = True := eq_true (by omega)
   (try rw [show ((1 : Int)).toNat = 1 from rfl] at hx137_0)
   have hn137_0 : ad133.block ≠ gb134 := Nat.ne_of_lt (Nat.lt_of_lt_of_le (by have := bwL _ _ hx137_0;first|rwa [add_block] at this|exact this) GW134.out)
   have hn137_1 : ad133.block ≠ gb134 := Nat.ne_of_lt (Nat.lt_of_lt_of_le (by have := bwL _ _ hx137_0;first|rwa [add_block] at this|exact this) GW134.out)
   have hn137_2 : ad133.block ≠ gb134 := Nat.ne_of_lt (Nat.lt_of_lt_of_le (by have := bwL _ _ hx137_0;first|rwa [add_block] at this|exact this) GW134.out)
   replace hx137_0 := bwC HB.out hx137_0
   replace hx137_0 := (cell_far (p := ⟨gb134,0,none⟩) (by first|(rw [add_block];exact hn137_0)|(show (Addr.add _ _).block ≠ _;rw [add_block];exact hn137_0)|exact hn137_0) (.int .i64 (rd l0 0))).trans hx137_0
   replace hx137_0 := (cell_far (p := ⟨gb134,1,none⟩) (by first|(rw [add_block];exact hn137_1)|(show (Addr.add _ _).block ≠ _;rw [add_block];exact hn137_1)|exact hn137_1) (.int .i64 0)).trans hx137_0
   replace hx137_0 := (cell_far (p := ⟨gb134,1,none⟩) (by first|(rw [add_block];exact hn137_2)|(show (Addr.add _ _).block ≠ _;rw [add_block];exact hn137_2)|exact hn137_2) (.int .i64 (rd l0 1))).trans hx137_0
   clear hn137_0 hn137_1 hn137_2
   replace p137 := eq_true p137
   replace q137 := eq_true q137
   go_wp2
   go_meet
   case rel => exact ⟨_,(2),(0),(0),(rd l0 1),zT_,H',⟨by first|omega|exact Nat.le_refl _⟩,⟨by (with_reducible repeat first|apply bkN|apply bkD|apply bkA);refine blk_far ?_ NB132_134.out _;(with_reducible repeat first|apply bkN|apply bkD|apply bkA);refine blk_far ?_ NB132_134.out _;(with_reducible repeat first|apply bkN|apply bkD|apply bkA);refine blk_far ?_ NB132_134.out _;(with_reducible repeat first|apply bkN|apply bkD|apply bkA);exact BK132.out⟩,⟨by (with_reducible repeat first|apply bkN|apply bkD|apply bkA);refine blk_put (cs := #[.int .i64 (rd l0 0),.int .i64 0]) ?_ 1 _ rfl;(with_reducible repeat first|apply bkN|apply bkD|apply bkA);refine blk_put (cs := #[.int .i64 (rd l0 0),.int .i64 0]) ?_ 1 _ rfl;(with_reducible repeat first|apply bkN|apply bkD|apply bkA);refine blk_put (cs := #[.int .i64 0,.int .i64 0]) ?_ 0 _ rfl;(with_reducible repeat first|apply bkN|apply bkD|apply bkA);exact BK134.out⟩,⟨zb2 HB.out GE132.out GE134.out⟩⟩
  rw [if_pos c17] at H
  have c17b0 : decide (128 ≤ (rd l0 1)) = true := deT c17
  clear c17
  by_cases c18 : (l0.length : Int) < 3
  ·rw [if_pos c18] at H
   have c18b0 : decide ((l0.length : Int) < 3) = true := deT c18
   have c18b1 : decide (l0.length < 3) = true := deT (by omega)
   clear c18
   simp only [Option.some.injEq,Prod.mk.injEq] at H
   obtain ⟨rfl,rfl,rfl⟩ := H
   have p136 : 0 ≤ (1 : Int) := (by omega)
   have q136 : 1 < (l0.length : Int) := odT zA_
   obtain ⟨ad136,e136,hx136_0⟩ := Kd.at_int HR0.out 1 p136 q136
   obtain rfl : ad133 = ad136 := (by injection e136)
   (try simp only [show (1 : Int).toNat = 1 from rfl,Nat.reduceMul,Nat.reduceEqDiff,Go.Addr.add,↓reduceIte] at hx136_0)
   have qi136 : (1 < l0.length) = True := eq_true (by omega)
   (try rw [show ((1 : Int)).toNat = 1 from rfl] at hx136_0)
   have hn136_0 : ad133.block ≠ gb134 := Nat.ne_of_lt (Nat.lt_of_lt_of_le (by have := bwL _ _ hx136_0;first|rwa [add_block] at this|exact this) GW134.out)
   have hn136_1 : ad133.block ≠ gb134 := Nat.ne_of_lt (Nat.lt_of_lt_of_le (by have := bwL _ _ hx136_0;first|rwa [add_block] at this|exact this) GW134.out)
   replace hx136_0 := bwC HB.out hx136_0
   replace hx136_0 := (cell_far (p := ⟨gb134,0,none⟩) (by first|(rw [add_block];exact hn136_0)|(show (Addr.add _ _).block ≠ _;rw [add_block];exact hn136_0)|exact hn136_0) (.int .i64 (rd l0 0))).trans hx136_0
   replace hx136_0 := (cell_far (p := ⟨gb134,1,none⟩) (by first|(rw [add_block];exact hn136_1)|(show (Addr.add _ _).block ≠ _;rw [add_block];exact hn136_1)|exact hn136_1) (.int .i64 0)).trans hx136_0
   clear hn136_0 hn136_1
   replace p136 := eq_true p136
   replace q136 := eq_true q136
   have hnb19 := NB134_132.out
   have hnc19 := NB132_134.out
   obtain ⟨hcz20_0,hcz20_1,hfz20_0,hfz20_1⟩ := bk2 BK134.out
   have p137 : 0 ≤ (1 : Int) := (by omega)
   have q137 : 1 < (l0.length : Int) := odT zA_
   obtain ⟨ad137,e137,hx137_0⟩ := Kd.at_int HR0.out 1 p137 q137
   obtain rfl : ad133 = ad137 := (by injection e137)
   (try simp only [show (1 : Int).toNat = 1 from rfl,Nat.reduceMul,Nat.reduceEqDiff,Go.Addr.add,↓reduceIte] at hx137_0)
   have qi137 : (1 < l0.length) = True := eq_true (by omega)
   (try rw [show ((1 : Int)).toNat = 1 from rfl] at hx137_0)
   have hn137_0 : ad133.block ≠ gb134 := Nat.ne_of_lt (Nat.lt_of_lt_of_le (by have := bwL _ _ hx137_0;first|rwa [add_block] at this|exact this) GW134.out)
   have hn137_1 : ad133.block ≠ gb134 := Nat.ne_of_lt (Nat.lt_of_lt_of_le (by have := bwL _ _ hx137_0;first|rwa [add_block] at this|exact this) GW134.out)
   have hn137_2 : ad133.block ≠ gb134 := Nat.ne_of_lt (Nat.lt_of_lt_of_le (by have := bwL _ _ hx137_0;first|rwa [add_block] at this|exact this) GW134.out)
   replace hx137_0 := bwC HB.out hx137_0
   replace hx137_0 := (cell_far (p := ⟨gb134,0,none⟩) (by first|(rw [add_block];exact hn137_0)|(show (Addr.add _ _).block ≠ _;rw [add_block];exact hn137_0)|exact hn137_0) (.int .i64 (rd l0 0))).trans hx137_0
   replace hx137_0 := (cell_far (p := ⟨gb134,1,none⟩) (by first|(rw [add_block];exact hn137_1)|(show (Addr.add _ _).block ≠ _;rw [add_block];exact hn137_1)|exact hn137_1) (.int .i64 0)).trans hx137_0
   replace hx137_0 := (cell_far (p := ⟨gb134,1,none⟩) (by first|(rw [add_block];exact hn137_2)|(show (Addr.add _ _).block ≠ _;rw [add_block];exact hn137_2)|exact hn137_2) (.int .i64 (rd l0 1))).trans hx137_0
   clear hn137_0 hn137_1 hn137_2
   replace p137 := eq_true p137
   replace q137 := eq_true q137
   obtain ⟨hcz21_0,hcz21_1,hfz21_0,hfz21_1⟩ := bk2 BK132.out
   go_wp2
   refine bodyPost_ret (results_ct rfl _ _ gb132 75 #[.int .i64 0,.int .i64 0] (0,0) _ rfl (by (with_reducible repeat first|apply bkN|apply bkD|apply bkA);refine blk_put (cs := #[.int .i64 0,.int .i64 0]) ?_ 1 _ rfl;(with_reducible repeat first|apply bkN|apply bkD|apply bkA);refine blk_put (cs := #[.int .i64 0,.int .i64 0]) ?_ 0 _ rfl;(with_reducible repeat first|apply bkN|apply bkD|apply bkA);refine blk_far ?_ NB132_134.out _;(with_reducible repeat first|apply bkN|apply bkD|apply bkA);refine blk_far ?_ NB132_134.out _;(with_reducible repeat first|apply bkN|apply bkD|apply bkA);refine blk_far ?_ NB132_134.out _;(with_reducible repeat first|apply bkN|apply bkD|apply bkA);exact BK132.out) Try.underlying75 rfl (by kernel_rfl)) rfl ?_
   exact ⟨zE_,zb2 HB.out GE132.out GE134.out⟩
  rw [if_neg c18] at H
  have c18b0 : decide ((l0.length : Int) < 3) = false := deF c18
  have c18b1 : decide (l0.length < 3) = false := deF (by omega)
  clear c18
  by_cases c22 : 2 < (l0.length : Int)
  rotate_left
  ·rw [if_neg c22] at H
   exact absurd H (by simp)
  rw [if_pos c22] at H
  have c22b0 : decide (2 < (l0.length : Int)) = true := deT c22
  have c22b1 : decide (2 < l0.length) = true := deT (by omega)
  clear c22
  have H' := As_ H
  clear H
  have p136 : 0 ≤ (1 : Int) := (by omega)
  have q136 : 1 < (l0.length : Int) := odT zA_
  obtain ⟨ad136,e136,hx136_0⟩ := Kd.at_int HR0.out 1 p136 q136
  obtain rfl : ad133 = ad136 := (by injection e136)
  (try simp only [show (1 : Int).toNat = 1 from rfl,Nat.reduceMul,Nat.reduceEqDiff,Go.Addr.add,↓reduceIte] at hx136_0)
  have qi136 : (1 < l0.length) = True := eq_true (by omega)
  (try rw [show ((1 : Int)).toNat = 1 from rfl] at hx136_0)
  have hn136_0 : ad133.block ≠ gb134 := Nat.ne_of_lt (Nat.lt_of_lt_of_le (by have := bwL _ _ hx136_0;first|rwa [add_block] at this|exact this) GW134.out)
  have hn136_1 : ad133.block ≠ gb134 := Nat.ne_of_lt (Nat.lt_of_lt_of_le (by have := bwL _ _ hx136_0;first|rwa [add_block] at this|exact this) GW134.out)
  replace hx136_0 := bwC HB.out hx136_0
  replace hx136_0 := (cell_far (p := ⟨gb134,0,none⟩) (by first|(rw [add_block];exact hn136_0)|(show (Addr.add _ _).block ≠ _;rw [add_block];exact hn136_0)|exact hn136_0) (.int .i64 (rd l0 0))).trans hx136_0
  replace hx136_0 := (cell_far (p := ⟨gb134,1,none⟩) (by first|(rw [add_block];exact hn136_1)|(show (Addr.add _ _).block ≠ _;rw [add_block];exact hn136_1)|exact hn136_1) (.int .i64 0)).trans hx136_0
  clear hn136_0 hn136_1
  replace p136 := eq_true p136
  replace q136 := eq_true q136
  have hnb23 := NB134_132.out
  have hnc23 := NB132_134.out
  obtain ⟨hcz24_0,hcz24_1,hfz24_0,hfz24_1⟩ := bk2 BK134.out
  have p137 : 0 ≤ (1 : Int) := (by omega)
  have q137 : 1 < (l0.length : Int) := odT zA_
  obtain ⟨ad137,e137,hx137_0⟩ := Kd.at_int HR0.out 1 p137 q137
  obtain rfl : ad133 = ad137 := (by injection e137)
  (try simp only [show (1 : Int).toNat = 1 from rfl,Nat.reduceMul,Nat.reduceEqDiff,Go.Addr.add,↓reduceIte] at hx137_0)
  have qi137 : (1 < l0.length) = True := eq_true (by omega)
  (try rw [show ((1 : Int)).toNat = 1 from rfl] at hx137_0)
  have hn137_0 : ad133.block ≠ gb134 := Nat.ne_of_lt (Nat.lt_of_lt_of_le (by have := bwL _ _ hx137_0;first|rwa [add_block] at this|exact this) GW134.out)
  have hn137_1 : ad133.block ≠ gb134 := Nat.ne_of_lt (Nat.lt_of_lt_of_le (by have := bwL _ _ hx137_0;first|rwa [add_block] at this|exact this) GW134.out)
  have hn137_2 : ad133.block ≠ gb134 := Nat.ne_of_lt (Nat.lt_of_lt_of_le (by have := bwL _ _ hx137_0;first|rwa [add_block] at this|exact this) GW134.out)
  replace hx137_0 := bwC HB.out hx137_0
  replace hx137_0 := (cell_far (p := ⟨gb134,0,none⟩) (by first|(rw [add_block];exact hn137_0)|(show (Addr.add _ _).block ≠ _;rw [add_block];exact hn137_0)|exact hn137_0) (.int .i64 (rd l0 0))).trans hx137_0
  replace hx137_0 := (cell_far (p := ⟨gb134,1,none⟩) (by first|(rw [add_block];exact hn137_1)|(show (Addr.add _ _).block ≠ _;rw [add_block];exact hn137_1)|exact hn137_1) (.int .i64 0)).trans hx137_0
  replace hx137_0 := (cell_far (p := ⟨gb134,1,none⟩) (by first|(rw [add_block];exact hn137_2)|(show (Addr.add _ _).block ≠ _;rw [add_block];exact hn137_2)|exact hn137_2) (.int .i64 (rd l0 1))).trans hx137_0
  clear hn137_0 hn137_1 hn137_2
  replace p137 := eq_true p137
  replace q137 := eq_true q137
  try go_wp2
  have n0_ : Aside0 ((((w9.setCell ⟨gb134,0,none⟩ (.int .i64 (rd l0 0))).setCell ⟨gb134,1,none⟩ (.int .i64 0)).setCell ⟨gb134,1,none⟩ (.int .i64 (rd l0 1))).heap[gb132]? = some (.cells #[.int .i64 0,.int .i64 0] 75 (0,0))) := ⟨by (with_reducible repeat first|apply bkN|apply bkD|apply bkA);refine blk_far ?_ NB132_134.out _;(with_reducible repeat first|apply bkN|apply bkD|apply bkA);refine blk_far ?_ NB132_134.out _;(with_reducible repeat first|apply bkN|apply bkD|apply bkA);refine blk_far ?_ NB132_134.out _;(with_reducible repeat first|apply bkN|apply bkD|apply bkA);exact BK132.out⟩
  have n1_ : Aside0 ((((w9.setCell ⟨gb134,0,none⟩ (.int .i64 (rd l0 0))).setCell ⟨gb134,1,none⟩ (.int .i64 0)).setCell ⟨gb134,1,none⟩ (.int .i64 (rd l0 1))).heap[gb134]? = some (.cells #[.int .i64 (rd l0 0),.int .i64 (rd l0 1)] 75 (0,0))) := ⟨by (with_reducible repeat first|apply bkN|apply bkD|apply bkA);refine blk_put (cs := #[.int .i64 (rd l0 0),.int .i64 0]) ?_ 1 _ rfl;(with_reducible repeat first|apply bkN|apply bkD|apply bkA);refine blk_put (cs := #[.int .i64 (rd l0 0),.int .i64 0]) ?_ 1 _ rfl;(with_reducible repeat first|apply bkN|apply bkD|apply bkA);refine blk_put (cs := #[.int .i64 0,.int .i64 0]) ?_ 0 _ rfl;(with_reducible repeat first|apply bkN|apply bkD|apply bkA);exact BK134.out⟩
  have n2_ : Aside0 (Below w.heap.size w (((w9.setCell ⟨gb134,0,none⟩ (.int .i64 (rd l0 0))).setCell ⟨gb134,1,none⟩ (.int .i64 0)).setCell ⟨gb134,1,none⟩ (.int .i64 (rd l0 1)))) := ⟨zb2 HB.out GE132.out GE134.out⟩
  generalize (((w9.setCell ⟨gb134,0,none⟩ (.int .i64 (rd l0 0))).setCell ⟨gb134,1,none⟩ (.int .i64 0)).setCell ⟨gb134,1,none⟩ (.int .i64 (rd l0 1))) = w25 at n0_ n1_ n2_ ⊢;(replace n0_ := As_ (bkN n0_.out nd));(replace n1_ := As_ (bkN n1_.out nd));(replace n2_ := As_ (bwN n2_.out nd));generalize w25.drewN nd = w25 at n0_ n1_ n2_ ⊢
  revert n0_ n1_ n2_;intro BK132 BK134 HB
  have n0_ := As_ (bkD BK132.out)
  have n1_ := As_ (bkD BK134.out)
  have n2_ := As_ (bwD HB.out)
  clear BK132 BK134 HB
  revert n0_ n1_ n2_;intro BK132 BK134 HB
  have p138 : 0 ≤ (1 : Int) := (by omega)
  have q138 : 1 < (l0.length : Int) := odT zA_
  obtain ⟨ad138,e138,hx138_0⟩ := Kd.at_int HR0.out 1 p138 q138
  have hw138_0 := hx138_0
  (try rw [show ((1 : Int)).toNat = 1 from rfl] at hw138_0)
  (try rw [show 1 * 1 = 1 from rfl] at hw138_0)
  (try simp only [Nat.reduceMul,Nat.reduceEqDiff,Go.Addr.add,↓reduceIte] at hw138_0)
  obtain rfl : ad133 = ad138 := (by injection e138)
  (try simp only [show (1 : Int).toNat = 1 from rfl,Nat.reduceMul,Nat.reduceEqDiff,Go.Addr.add,↓reduceIte] at hx138_0)
  have qi138 : (1 < l0.length) = True := eq_true (by omega)
  (try rw [show ((1 : Int)).toNat = 1 from rfl] at hx138_0)
  replace hx138_0 := bwC HB.out hx138_0
  replace p138 := eq_true p138
  replace q138 := eq_true q138
  have p139 : 0 ≤ (2 : Int) := (by omega)
  have q139 : 2 < (l0.length : Int) := odT zA_
  obtain ⟨ad139,e139,hx139_0⟩ := Kd.at_int HR0.out 2 p139 q139
  have hw139_0 := hx139_0
  (try rw [show ((2 : Int)).toNat = 2 from rfl] at hw139_0)
  (try rw [show 2 * 1 = 2 from rfl] at hw139_0)
  (try simp only [Nat.reduceMul,Nat.reduceEqDiff,Go.Addr.add,↓reduceIte] at hw139_0)
  obtain rfl : ad133 = ad139 := (by injection e139)
  (try simp only [show (2 : Int).toNat = 2 from rfl,Nat.reduceMul,Nat.reduceEqDiff,Go.Addr.add,↓reduceIte] at hx139_0)
  have qi139 : (2 < l0.length) = True := eq_true (by omega)
  (try rw [show ((2 : Int)).toNat = 2 from rfl] at hx139_0)
  replace hx139_0 := bwC HB.out hx139_0
  replace p139 := eq_true p139
  replace q139 := eq_true q139
  refine start_ (n := 11) (S := fun w' => w'.cell? ⟨ad133.block,ad133.off + 1,none⟩ = some (.int .i64 (rd l0 1)) ∧ w'.cell? ⟨ad133.block,ad133.off + 2,none⟩ = some (.int .i64 (rd l0 2))) (ds := []) (bl_ 0 11) (by kernel_rfl) rfl rfl ⟨((HB.out.cell (bwL w _ hw138_0)).trans hw138_0),((HB.out.cell (bwL w _ hw139_0)).trans hw139_0)⟩ (fun hHeld => ?_);refine with_tabW spec_readOp.tab13 spec_readOp.bits13 (fun HT_ HW_ => ?_)
  generalize w25.drew = w26 at BK132 BK134 HB hx138_0 hx139_0 hHeld ⊢
  refine pQ 0 34 (bl_ 1 11) HT_ rfl ?_
  refine pQ 1 35 (bl_ 3 11) HT_ rfl ?_
  refine pQ 4 38 (bl_ 19 11) HT_ rfl ?_
  refine pQ 5 39 (bl_ 51 11) HT_ rfl ?_
  refine tP 2 36 (bl_ 55 11) ?_ HT_ HW_ rfl (.inl ⟨by rfl,?_⟩) hHeld ?_ ?_ ?_;rotate_left;(rintro w' ⟨s0,s1⟩;go_simp;with_reducible rfl);rotate_left;(simp only [Act.put,sq_,i64_w,i32_w];rfl)
  refine pQ 3 37 (bl_ 63 11) HT_ rfl ?_
  refine tP 6 40 (bl_ 127 11) ?_ HT_ HW_ rfl (.inl ⟨by rfl,?_⟩) hHeld ?_ ?_ ?_;rotate_left;(rintro w' ⟨s0,s1⟩;go_simp;with_reducible rfl);rotate_left;(simp only [Act.put,sq_,i64_w,i32_w];rfl)
  refine pQ 7 41 (bl_ 255 11) HT_ rfl ?_
  refine pQ 8 42 (bl_ 511 11) HT_ rfl ?_
  refine pQ 9 43 (bl_ 1023 11) HT_ rfl ?_
  refine one_ (i := 10) (N := none) (bl_ 2047 11) rfl rfl (one_of HT_.out (by kernel_rfl)) (by decide) (fun K hK => ?_)
  have hs27 : w26.cell? ⟨gb134,1,none⟩ = some (.int .i64 (rd l0 1)) := (bkC BK134.out 1).trans rfl
  have hfs27 := bkF BK134.out 1
  have hns27_0 := NB132_134.out
  have hms27_0 := NB134_132.out
  refine skip_ (w1 := ?_) (by rfl) rfl ?_ ?_
  rotate_left
  ·go_simp
   rfl
  refine hK.out _ _ ⟨((cell_far (p := ⟨gb134,_,none⟩) (by first|exact Nat.ne_of_lt (Nat.lt_of_lt_of_le (by have := bwL _ _ hw138_0;first|rwa [add_block] at this|exact this) GW134.out)|(rw [add_block];exact Nat.ne_of_lt (Nat.lt_of_lt_of_le (by have := bwL _ _ hw138_0;first|rwa [add_block] at this|exact this) GW134.out))|(show (Addr.add _ _).block ≠ _;rw [add_block];exact Nat.ne_of_lt (Nat.lt_of_lt_of_le (by have := bwL _ _ hw138_0;first|rwa [add_block] at this|exact this) GW134.out))|(dsimp only;exact Nat.ne_of_lt (Nat.lt_of_lt_of_le (by have := bwL _ _ hw138_0;first|rwa [add_block] at this|exact this) GW134.out))) _).trans (hHeld.1)),((cell_far (p := ⟨gb134,_,none⟩) (by first|exact Nat.ne_of_lt (Nat.lt_of_lt_of_le (by have := bwL _ _ hw139_0;first|rwa [add_block] at this|exact this) GW134.out)|(rw [add_block];exact Nat.ne_of_lt (Nat.lt_of_lt_of_le (by have := bwL _ _ hw139_0;first|rwa [add_block] at this|exact this) GW134.out))|(show (Addr.add _ _).block ≠ _;rw [add_block];exact Nat.ne_of_lt (Nat.lt_of_lt_of_le (by have := bwL _ _ hw139_0;first|rwa [add_block] at this|exact this) GW134.out))|(dsimp only;exact Nat.ne_of_lt (Nat.lt_of_lt_of_le (by have := bwL _ _ hw139_0;first|rwa [add_block] at this|exact this) GW134.out))) _).trans (hHeld.2))⟩ (fun hHeld => ?_)
  clear hK K
  refine done_ (done_of HT_.out (by kernel_rfl)) ?_
  try go_wp2
  go_meet
  case rel => exact ⟨_,(3),(0),(0),(wrap64 ((wrap64 ((rd l0 1) - 128)) + (wrap64 (128 * (rd l0 2))))),zT_,H',⟨by first|omega|exact Nat.le_refl _⟩,⟨by (with_reducible repeat first|apply bkN|apply bkD|apply bkA);refine blk_far ?_ NB132_134.out _;(with_reducible repeat first|apply bkN|apply bkD|apply bkA);exact BK132.out⟩,⟨by (with_reducible repeat first|apply bkN|apply bkD|apply bkA);refine blk_put (cs := #[.int .i64 (rd l0 0),.int .i64 (rd l0 1)]) ?_ 1 _ rfl;(with_reducible repeat first|apply bkN|apply bkD|apply bkA);exact BK134.out⟩,⟨zb2 HB.out GE132.out GE134.out⟩⟩
 case rest =>
  clear HC7
  obtain ⟨kq,x5_6,x133000_6,x133001_6,x135001_6,rfl,HA,HJ6,BK132,BK134,HB⟩ := hcut
  cases kq with
  | zero => exact absurd HA.out (fun h_ => (by cases h_))
  | succ kj6 =>
   have H := HA.out
   clear HA
   simp only [spec_readOp.j0] at H
   replace H := obS H
   obtain ⟨t140,A300,H⟩ := H
   replace H : (if t140 = true then ((spec_bytesOf.f (rd l0 0) x135001_6).bind fun t141 => (if (t141.length : Int) = x5_6 then (some ((rd l0 0),x135001_6,x5_6)) else (some (0,0,0)))) else (some (0,0,0))) = some (r1,r2,r3) := H
   have A30 := As_ A300
   clear A300
   by_cases c31 : t140 = true
   rotate_left
   ·replace c31 := Bool.eq_false_iff.mpr c31
    subst c31
    have H1 : (some (0,0,0)) = some (r1,r2,r3) := by rw [if_neg (show ¬ (false = true) by decide)] at H;exact H
    clear H
    have H := H1
    clear H1
    simp only [Option.some.injEq,Prod.mk.injEq] at H
    obtain ⟨rfl,rfl,rfl⟩ := H
    have hnb49 := NB134_132.out
    have hnc49 := NB132_134.out
    obtain ⟨hcz50_0,hcz50_1,hfz50_0,hfz50_1⟩ := bk2 BK134.out
    go_wp2_with (first|((with_reducible refine gate_callee (f := 92) rfl ?_);refine goesL_ (some 45) rfl rfl Try.func92 (by kernel_rfl) rfl #[.agg #[.int .i64 (rd l0 0),.int .i64 x135001_6]] rfl zM_ ?_;(with_reducible refine (spec_validOp.calls (rd l0 0) x135001_6 false _ A30.out).mono ?_);rintro e w51 ⟨rfl,hb⟩;refine ⟨_,rfl,?_⟩;have n0_ := As_ (zkb BK132.out hb);have n1_ := As_ (zkb BK134.out hb);have n2_ := As_ (bwT (zb2 HB.out GE132.out GE134.out) hb);clear BK132 BK134 HB;revert n0_ n1_ n2_;intro BK132 BK134 HB;obtain ⟨hcz52_0,hcz52_1,hfz52_0,hfz52_1⟩ := bk2 BK132.out))
    refine bodyPost_ret (results_ct rfl _ _ gb132 75 #[.int .i64 0,.int .i64 0] (0,0) _ rfl (by (with_reducible repeat first|apply bkN|apply bkD|apply bkA);refine blk_put (cs := #[.int .i64 0,.int .i64 x133001_6]) ?_ 1 _ rfl;(with_reducible repeat first|apply bkN|apply bkD|apply bkA);refine blk_put (cs := #[.int .i64 x133000_6,.int .i64 x133001_6]) ?_ 0 _ rfl;(with_reducible repeat first|apply bkN|apply bkD|apply bkA);exact BK132.out) Try.underlying75 rfl (by kernel_rfl)) rfl ?_
    exact ⟨zE_,zb2 HB.out GE132.out GE134.out⟩

   subst c31
   have H1 : ((spec_bytesOf.f (rd l0 0) x135001_6).bind fun t141 => (if (t141.length : Int) = x5_6 then (some ((rd l0 0),x135001_6,x5_6)) else (some (0,0,0)))) = some (r1,r2,r3) := by rw [if_pos rfl] at H;exact H
   clear H
   have H := H1
   clear H1
   replace H := obS H
   obtain ⟨t141,A320,H⟩ := H
   replace H : (if (t141.length : Int) = x5_6 then (some ((rd l0 0),x135001_6,x5_6)) else (some (0,0,0))) = some (r1,r2,r3) := H
   have A32 := As_ A320
   clear A320
   by_cases c33 : (t141.length : Int) = x5_6
   rotate_left
   ·rw [if_neg c33] at H
    have c33b0 : ((t141.length : Int) == x5_6) = false := beq_eq_false_iff_ne.mpr c33
    have c33b1 : ((t141.length : Int) != x5_6) = true := bne_iff_ne.mpr c33
    simp only [Option.some.injEq,Prod.mk.injEq] at H
    obtain ⟨rfl,rfl,rfl⟩ := H
    have hnb42 := NB134_132.out
    have hnc42 := NB132_134.out
    obtain ⟨hcz43_0,hcz43_1,hfz43_0,hfz43_1⟩ := bk2 BK134.out
    go_wp2_with (first|((with_reducible refine gate_callee (f := 92) rfl ?_);refine goesL_ (some 45) rfl rfl Try.func92 (by kernel_rfl) rfl #[.agg #[.int .i64 (rd l0 0),.int .i64 x135001_6]] rfl zM_ ?_;(with_reducible refine (spec_validOp.calls (rd l0 0) x135001_6 true _ A30.out).mono ?_);rintro e w44 ⟨rfl,hb⟩;refine ⟨_,rfl,?_⟩;have n0_ := As_ (zkb BK132.out hb);have n1_ := As_ (zkb BK134.out hb);have n2_ := As_ (bwT (zb2 HB.out GE132.out GE134.out) hb);clear BK132 BK134 HB;revert n0_ n1_ n2_;intro BK132 BK134 HB;obtain ⟨hcz45_0,hcz45_1,hfz45_0,hfz45_1⟩ := bk2 BK134.out)|(go_at_call 94;(with_reducible refine (spec_bytesOf.calls (rd l0 0) x135001_6 t141 _ A32.out).mono ?_);rintro e w46 ⟨v142,rfl,ho0,hb⟩;have n0_ := As_ (Kd.R_lower ho0 (bwZ (zb2 HB.out GE132.out GE134.out)));have n1_ := As_ (zkb BK132.out hb);have n2_ := As_ (zkb BK134.out hb);have n3_ := As_ (bwT (zb2 HB.out GE132.out GE134.out) hb);clear BK132 BK134 HB;revert n0_ n1_ n2_ n3_;intro HO143 BK132 BK134 HB;obtain ⟨Ao47,co47,eo47⟩ := Kd.R_slice HO143.out;subst eo47;obtain ⟨hcz48_0,hcz48_1,hfz48_0,hfz48_1⟩ := bk2 BK132.out))
    refine bodyPost_ret (results_ct rfl _ _ gb132 75 #[.int .i64 0,.int .i64 0] (0,0) _ rfl (by (with_reducible repeat first|apply bkN|apply bkD|apply bkA);refine blk_put (cs := #[.int .i64 0,.int .i64 x133001_6]) ?_ 1 _ rfl;(with_reducible repeat first|apply bkN|apply bkD|apply bkA);refine blk_put (cs := #[.int .i64 x133000_6,.int .i64 x133001_6]) ?_ 0 _ rfl;(with_reducible repeat first|apply bkN|apply bkD|apply bkA);exact BK132.out) Try.underlying75 rfl (by kernel_rfl)) rfl ?_
    exact ⟨zE_,zb2 HB.out GE132.out GE134.out⟩
   rw [if_pos c33] at H
   have c33b0 : ((t141.length : Int) == x5_6) = true := beq_iff_eq.mpr c33
   have c33b1 : ((t141.length : Int) != x5_6) = false := bne_eq_false_iff_eq.mpr c33
   clear c33
   simp only [Option.some.injEq,Prod.mk.injEq] at H
   obtain ⟨rfl,rfl,rfl⟩ := H
   have hnb34 := NB134_132.out
   have hnc34 := NB132_134.out
   obtain ⟨hcz35_0,hcz35_1,hfz35_0,hfz35_1⟩ := bk2 BK134.out
   go_wp2_with (first|((with_reducible refine gate_callee (f := 92) rfl ?_);refine goesL_ (some 45) rfl rfl Try.func92 (by kernel_rfl) rfl #[.agg #[.int .i64 (rd l0 0),.int .i64 x135001_6]] rfl zM_ ?_;(with_reducible refine (spec_validOp.calls (rd l0 0) x135001_6 true _ A30.out).mono ?_);rintro e w36 ⟨rfl,hb⟩;refine ⟨_,rfl,?_⟩;have n0_ := As_ (zkb BK132.out hb);have n1_ := As_ (zkb BK134.out hb);have n2_ := As_ (bwT (zb2 HB.out GE132.out GE134.out) hb);clear BK132 BK134 HB;revert n0_ n1_ n2_;intro BK132 BK134 HB;obtain ⟨hcz37_0,hcz37_1,hfz37_0,hfz37_1⟩ := bk2 BK134.out)|(go_at_call 94;(with_reducible refine (spec_bytesOf.calls (rd l0 0) x135001_6 t141 _ A32.out).mono ?_);rintro e w38 ⟨v142,rfl,ho0,hb⟩;have n0_ := As_ (Kd.R_lower ho0 (bwZ (zb2 HB.out GE132.out GE134.out)));have n1_ := As_ (zkb BK132.out hb);have n2_ := As_ (zkb BK134.out hb);have n3_ := As_ (bwT (zb2 HB.out GE132.out GE134.out) hb);clear BK132 BK134 HB;revert n0_ n1_ n2_ n3_;intro HO143 BK132 BK134 HB;obtain ⟨Ao39,co39,eo39⟩ := Kd.R_slice HO143.out;subst eo39;obtain ⟨hcz40_0,hcz40_1,hfz40_0,hfz40_1⟩ := bk2 BK134.out;obtain ⟨hcz41_0,hcz41_1,hfz41_0,hfz41_1⟩ := bk2 BK132.out))
   refine bodyPost_ret (results_ct rfl _ _ gb132 75 #[.int .i64 (rd l0 0),.int .i64 x135001_6] (0,0) _ rfl (by (with_reducible repeat first|apply bkN|apply bkD|apply bkA);refine blk_put (cs := #[.int .i64 (rd l0 0),.int .i64 x133001_6]) ?_ 1 _ rfl;(with_reducible repeat first|apply bkN|apply bkD|apply bkA);refine blk_put (cs := #[.int .i64 x133000_6,.int .i64 x133001_6]) ?_ 0 _ rfl;(with_reducible repeat first|apply bkN|apply bkD|apply bkA);exact BK132.out) Try.underlying75 rfl (by kernel_rfl)) rfl ?_
   exact ⟨zE_,zb2 HB.out GE132.out GE134.out⟩
/-! ### spec_readOps: function 52 -/
def spec_readOps.l0 : Nat → List Int → List (S75) → Int → Option ((List (S75)) × Int)
 | 0,_,_,_ => none
 | k + 1,x0,x4,x5 => if (x4.length : Int) < 300 then (if 0 ≤ x5 then (if x5 ≤ (x0.length : Int) then ((spec_readOp.f k (x0.drop (x5 : Int).toNat)).bind fun bt148 => (if bt148.2.2 = 0 then (some (x4,x5)) else (if x4.length < 8796093022208 then (spec_readOps.l0 k x0 (x4 ++ [(⟨bt148.1,bt148.2.1⟩ : S75)]) (wrap64 (x5 + bt148.2.2))) else (none)))) else (none)) else (none)) else (some (x4,x5))
def spec_readOps.f (k : Nat) (l0 : List Int) : Option ((List (S75)) × Int) := spec_readOps.l0 k l0 (([] : List (S75))) 0
set_option maxRecDepth 100000 in
theorem spec_readOps.mono_l : ∀ k,(∀ y0 y1 y2,LeO (spec_readOps.l0 k y0 y1 y2) (spec_readOps.l0 (k + 1) y0 y1 y2))
 | 0 => fun _ _ _ r h => (by cases h)
 | k + 1 => by
  have ih0 := spec_readOps.mono_l k
  ·intro y0 y1 y2
   unfold spec_readOps.l0
   repeat' first
   | (with_reducible exact ih0 _ _ _)
   | (with_reducible exact spec_readOp.mono _ _)
   | (with_reducible exact LeO.refl _)
   | (with_reducible exact LeO.none _)
   | (with_reducible refine LeO.ite ?_ ?_)
   | (with_reducible refine LeO.bind ?_ (fun _ => ?_))
   | exact ih0 _ _ _
   | exact spec_readOp.mono _ _
   | exact LeO.none _
   | refine LeO.ite ?_ ?_
   | refine LeO.bind ?_ (fun _ => ?_)
set_option maxRecDepth 100000 in
theorem spec_readOps.mono : ∀ a0 k,LeO (spec_readOps.f k a0) (spec_readOps.f (k + 1) a0) := by
 intro a0 k
 have ih0 := spec_readOps.mono_l k
 unfold spec_readOps.f
 repeat' first
   | (with_reducible exact ih0 _ _ _)
   | (with_reducible exact spec_readOp.mono _ _)
   | (with_reducible exact LeO.refl _)
   | (with_reducible exact LeO.none _)
   | (with_reducible refine LeO.ite ?_ ?_)
   | (with_reducible refine LeO.bind ?_ (fun _ => ?_))
   | exact ih0 _ _ _
   | exact spec_readOp.mono _ _
   | exact LeO.none _
   | refine LeO.ite ?_ ?_
   | refine LeO.bind ?_ (fun _ => ?_)
set_option maxHeartbeats 8000000 in
set_option maxRecDepth 100000 in
theorem spec_readOps.calls (k : Nat) (A0 : Option Addr) (c0 : Nat) (l0 : List Int) (r1 : List (S75)) (r2 : Int) (w : World) (hr0 : Kd.C (Kd.int .i64) w A0 l0.length l0) (hc0 : l0.length ≤ c0) (h : spec_readOps.f k l0 = some (r1,r2)) :
  Calls Try.prog 52 #[.slice A0 l0.length c0] w fun e w' => ∃ v0_ : Value,e = .returned (.tuple #[v0_,.int .i64 r2]) ∧ Kd.R k75 75 w' w.heap.size (fun _ => True) v0_ r1 ∧ Below w.heap.size w w' := by
 have hu75 := Try.underlying75
 have HR0 := As_ hr0
 have HC0 := As_ hc0
 clear hr0 hc0
 have HB := As_ (Below.refl w.heap.size w)
 have H : (spec_readOps.l0 k l0 (([] : List (S75))) 0) = some (r1,r2) := h
 clear h
 obtain ⟨y144,hy144⟩ : ∃ y_ : List (S75),y_ = (([] : List (S75))) := ⟨_,rfl⟩
 replace H : (spec_readOps.l0 k l0 y144 0) = some (r1,r2) := zH_ H hy144
 have Ny144 := As_ hy144
 clear hy144
 have H' := As_ H
 clear H
 go_enter Try.func52,Try.ntmps52
 go_wp2_with (first|((with_reducible refine gate_dst (N := 8) rfl ?_);refine Kd.R_lit k75 _ 75 ?hg (N := 8) ?hd (xs := ([] : List (S75))) (inner := []) (ok := fun _ => True) (okp := fun _ => True) ?hr ?hp (fun _ hk => hk) trivial (Below.refl _ _) (Nat.le_refl _) (by simp) ?_;(case hd => rfl);(case hg => rfl);(case hr => go_simp <;> rfl);(case hp => exact (Reps.none _ _));intro v145 w2 ho3 hb hg_ hnew_;clear hg_ hnew_;(first|rw [← Ny144.out] at ho3|(simp only [Int.reduceToNat] at ho3;rw [← Ny144.out] at ho3));have n0_ := As_ (Kd.R_lower ho3 (bwZ (zb0 HB.out)));have n1_ := As_ (bwT (zb0 HB.out) hb);clear HB;revert n0_ n1_;intro HO146 HB;clear hb ho3))
 go_loopg [4,5] k (fun kq v4 v5 w' => ∃ (x4_1 : List (S75)) (x5_1 : Int),v5 = .int .i64 x5_1 ∧ Aside0 (spec_readOps.l0 kq l0 x4_1 x5_1 = some (r1,r2)) ∧ Aside0 (kq ≤ k) ∧ Aside0 (Kd.R k75 75 w' w.heap.size (fun _ => True) v4 x4_1) ∧ Aside0 (Below w.heap.size w w'))
 case atStart => exact ⟨(y144),(0),zT_,H',⟨Nat.le_refl _⟩,⟨by (with_reducible repeat (first|apply Kd.R_alloc|apply Kd.R_drewN|apply Kd.R_drew));exact HO146.out⟩,⟨zb0 HB.out⟩⟩
 case round =>
  clear H'
  obtain ⟨x4_1,x5_1,rfl,HA,HK1,HO_4,HB⟩ := hrel
  cases gk with
  | zero => exact absurd HA.out (fun h_ => (by cases h_))
  | succ k1 =>
   have H := HA.out
   clear HA
   unfold spec_readOps.l0 at H
   by_cases c4 : (x4_1.length : Int) < 300
   rotate_left
   ·rw [if_neg c4] at H
    have c4b0 : decide ((x4_1.length : Int) < 300) = false := deF c4
    have c4b1 : decide (x4_1.length < 300) = false := deF (by omega)
    clear c4
    simp only [Option.some.injEq,Prod.mk.injEq] at H
    obtain ⟨rfl,rfl⟩ := H
    obtain ⟨Ao21,co21,eo21⟩ := Kd.R_slice HO_4.out
    subst eo21
    go_wp2
    go_ret2
    exact ⟨_,zE_,by (with_reducible repeat (first|apply Kd.R_alloc|apply Kd.R_drewN|apply Kd.R_drew));exact HO_4.out,zb0 HB.out⟩

   rw [if_pos c4] at H
   have c4b0 : decide ((x4_1.length : Int) < 300) = true := deT c4
   have c4b1 : decide (x4_1.length < 300) = true := deT (by omega)
   clear c4
   by_cases c5 : 0 ≤ x5_1
   rotate_left
   ·rw [if_neg c5] at H
    exact absurd H (by simp)
   rw [if_pos c5] at H
   have c5b0 := eq_true c5
   have c5b1 : decide (0 ≤ x5_1) = true := deT c5
   clear c5
   by_cases c6 : x5_1 ≤ (l0.length : Int)
   rotate_left
   ·rw [if_neg c6] at H
    exact absurd H (by simp)
   rw [if_pos c6] at H
   have c6b0 := eq_true c6
   have c6b1 : decide (x5_1 ≤ (l0.length : Int)) = true := deT c6
   clear c6
   replace H := obS H
   obtain ⟨⟨t148,t149,t150⟩,A70,H⟩ := H
   replace H : (if t150 = 0 then (some (x4_1,x5_1)) else (if x4_1.length < 8796093022208 then (spec_readOps.l0 k1 l0 (x4_1 ++ [(⟨t148,t149⟩ : S75)]) (wrap64 (x5_1 + t150))) else (none))) = some (r1,r2) := H
   have A7 := As_ A70
   clear A70
   by_cases c8 : t150 = 0
   ·rw [if_pos c8] at H
    have c8b0 : (t150 == 0) = true := beq_iff_eq.mpr c8
    have c8b1 : (t150 != 0) = false := bne_eq_false_iff_eq.mpr c8
    clear c8
    simp only [Option.some.injEq,Prod.mk.injEq] at H
    obtain ⟨rfl,rfl⟩ := H
    obtain ⟨Ao9,co9,eo9⟩ := Kd.R_slice HO_4.out
    subst eo9
    obtain ⟨i010,hi010,_,hsz10,_⟩ := info_parts info3
    obtain ⟨A10,hcut10,hA10,hC10⟩ := print_drop_of (P := Try.prog) (Value.int .i64) 0 22 3 .i64 Try.underlying22 hi010 hsz10 A0 c0 l0 x5_1 (odT zA_) (odT zA_) HC0.out
    have HR147 := As_ (Kd.C_of_reads (h1 := fun _ => rfl) (hA10 _ (Kd.reads_of_C HR0.out)))
    have HC147 := As_ hC10
    clear hA10 hC10 hi010 hsz10
    go_wp2_with (first|((with_reducible refine gate_callee (f := 88) rfl ?_);refine goesL_ (some 16) rfl rfl Try.func88 (by kernel_rfl) rfl #[.slice A10 (l0.drop (x5_1 : Int).toNat).length (c0 - x5_1.toNat)] rfl (by (try simp only [List.map_toArray,List.map_cons,List.map_nil]);first|done|(rw [show (l0.drop (x5_1 : Int).toNat).length = (l0.length - x5_1.toNat) from List.length_drop] <;> rfl)|rfl|(simp only [List.length_drop,List.length_take];rfl)) ?_;(with_reducible refine (spec_readOp.calls k1 _ _ (l0.drop (x5_1 : Int).toNat) t148 t149 t150 _ ?side1 ?side2 A7.out).mono ?_);(case side1 => exact zC_ (Kd.C_below HR147.out HB.out));(case side2 => exact HC147.out);rintro e w11 ⟨rfl,hb⟩;refine ⟨_,rfl,?_⟩;have n0_ := As_ (Kd.R_below (zR_ HO_4.out) hb);have n1_ := As_ (bwT (zb0 HB.out) hb);clear HO_4 HB;revert n0_ n1_;intro HO_4 HB)|((with_reducible refine gate_dst (N := 6) rfl ?_);refine box_event ?hg (N := 6) ?hd (cs := #[.int .i64 0,.int .i64 0]) (t := 75) ?hr ?_;(case hd => rfl);(case hg => rfl);(case hr => go_simp <;> rfl);intro gb151 hg w12 hbox hb;have n0_ := As_ (Kd.R_below (Kd.R_elderB (zR_ HO_4.out) gb151 (Nat.le_of_eq hg.symm)) hb);have n1_ := As_ (bwT (zb0 HB.out) hb);have n2_ := As_ (hbox);have n3_ := As_ ((by rw [hg];exact (bwZ (zb0 HB.out)) : w.heap.size ≤ gb151));have n4_ := As_ ((by rw [hg];exact (bwZ (zb0 HB.out)) : w.heap.size ≤ gb151));clear HO_4 HB;revert n0_ n1_ n2_ n3_ n4_;intro HO_4 HB BK151 GW151 GE151;clear hb hbox hg;obtain ⟨hcz13_0,hcz13_1,hfz13_0,hfz13_1⟩ := bk2 BK151.out))
    go_ret2
    exact ⟨_,zE_,by (with_reducible repeat (first|apply Kd.R_alloc|apply Kd.R_drewN|apply Kd.R_drew));exact Kd.R_mono (Kd.R_far (p := ⟨gb151,1,none⟩) (Kd.R_far (p := ⟨gb151,0,none⟩) (Kd.R_mono HO_4.out (fun k_ hk => (⟨hk,hk.2⟩ : _ ∧ k_ ≠ gb151))) (fun _ hk => hk.2) (.int .i64 t148)) (fun _ hk => hk.2) (.int .i64 t149)) (fun _ hk => trivial),zb1 HB.out GE151.out⟩
   rw [if_neg c8] at H
   have c8b0 : (t150 == 0) = false := beq_eq_false_iff_ne.mpr c8
   have c8b1 : (t150 != 0) = true := bne_iff_ne.mpr c8
   by_cases c14 : x4_1.length < 8796093022208
   rotate_left
   ·rw [if_neg c14] at H
    exact absurd H (by simp)
   rw [if_pos c14] at H
   have LMc14 := As_ c14
   clear c14
   obtain ⟨y152,hy152⟩ : ∃ y_ : List (S75),y_ = (x4_1 ++ [(⟨t148,t149⟩ : S75)]) := ⟨_,rfl⟩
   replace H : (spec_readOps.l0 k1 l0 y152 (wrap64 (x5_1 + t150))) = some (r1,r2) := zH_ H hy152
   have Ny152 := As_ hy152
   clear hy152
   have H' := As_ H
   clear H
   obtain ⟨Ao15,co15,eo15⟩ := Kd.R_slice HO_4.out
   subst eo15
   obtain ⟨i016,hi016,_,hsz16,_⟩ := info_parts info3
   obtain ⟨A16,hcut16,hA16,hC16⟩ := print_drop_of (P := Try.prog) (Value.int .i64) 0 22 3 .i64 Try.underlying22 hi016 hsz16 A0 c0 l0 x5_1 (odT zA_) (odT zA_) HC0.out
   have HR147 := As_ (Kd.C_of_reads (h1 := fun _ => rfl) (hA16 _ (Kd.reads_of_C HR0.out)))
   have HC147 := As_ hC16
   clear hA16 hC16 hi016 hsz16
   go_wp2_with (first|((with_reducible refine gate_callee (f := 88) rfl ?_);refine goesL_ (some 16) rfl rfl Try.func88 (by kernel_rfl) rfl #[.slice A16 (l0.drop (x5_1 : Int).toNat).length (c0 - x5_1.toNat)] rfl (by (try simp only [List.map_toArray,List.map_cons,List.map_nil]);first|done|(rw [show (l0.drop (x5_1 : Int).toNat).length = (l0.length - x5_1.toNat) from List.length_drop] <;> rfl)|rfl|(simp only [List.length_drop,List.length_take];rfl)) ?_;(with_reducible refine (spec_readOp.calls k1 _ _ (l0.drop (x5_1 : Int).toNat) t148 t149 t150 _ ?side1 ?side2 A7.out).mono ?_);(case side1 => exact zC_ (Kd.C_below HR147.out HB.out));(case side2 => exact HC147.out);rintro e w17 ⟨rfl,hb⟩;refine ⟨_,rfl,?_⟩;have n0_ := As_ (Kd.R_below (zR_ HO_4.out) hb);have n1_ := As_ (bwT (zb0 HB.out) hb);clear HO_4 HB;revert n0_ n1_;intro HO_4 HB)|((with_reducible refine gate_dst (N := 6) rfl ?_);refine box_event ?hg (N := 6) ?hd (cs := #[.int .i64 0,.int .i64 0]) (t := 75) ?hr ?_;(case hd => rfl);(case hg => rfl);(case hr => go_simp <;> rfl);intro gb151 hg w18 hbox hb;have n0_ := As_ (Kd.R_below (Kd.R_elderB (zR_ HO_4.out) gb151 (Nat.le_of_eq hg.symm)) hb);have n1_ := As_ (bwT (zb0 HB.out) hb);have n2_ := As_ (hbox);have n3_ := As_ ((by rw [hg];exact (bwZ (zb0 HB.out)) : w.heap.size ≤ gb151));have n4_ := As_ ((by rw [hg];exact (bwZ (zb0 HB.out)) : w.heap.size ≤ gb151));clear HO_4 HB;revert n0_ n1_ n2_ n3_ n4_;intro HO_4 HB BK151 GW151 GE151;clear hb hbox hg;obtain ⟨hcz19_0,hcz19_1,hfz19_0,hfz19_1⟩ := bk2 BK151.out)|((with_reducible refine gate_builtin (b := .append) (xs := #[.tmp 23,.tmp 25]) rfl ?_);at_builtin;refine Kd.R_append k75 (w0 := w) w.heap.size rfl (.tmp 23) (.tmp 25) 23 75 (.agg #[(.int .i64 0),(.int .i64 0)]) 16 rfl Try.underlying23 info75 rfl (by decide) (by omega) (.slice Ao15 x4_1.length co15) x4_1 (⟨t148,t149⟩ : S75) [.int .i64 t148,.int .i64 t149] (fun k_ => k_ ≠ gb151) (fun _ => False) rfl (by go_simp <;> rfl) ?aP (fun _ hk => hk.elim) ?aF ?aO ?aB ?aS ?aL ?_;(case aP => exact k75_mkM _ _ _ (⟨t148,t149⟩ : S75));(case aB => exact (zb1 HB.out GE151.out));(case aF => exact (fun k_ hk => Kd.freshB (g := gb151) (o := .cells #[.int .i64 t148,.int .i64 t149] 75 (0,0)) (by (with_reducible repeat first|apply bkN|apply bkD|apply bkA);refine blk_put (cs := #[.int .i64 t148,.int .i64 0]) ?_ 1 _ rfl;(with_reducible repeat first|apply bkN|apply bkD|apply bkA);refine blk_put (cs := #[.int .i64 0,.int .i64 0]) ?_ 0 _ rfl;(with_reducible repeat first|apply bkN|apply bkD|apply bkA);exact BK151.out) k_ hk));(case aO => exact (by (with_reducible repeat (first|apply Kd.R_alloc|apply Kd.R_drewN|apply Kd.R_drew));exact Kd.R_mono (Kd.R_far (p := ⟨gb151,1,none⟩) (Kd.R_far (p := ⟨gb151,0,none⟩) (Kd.R_mono HO_4.out (fun k_ hk => (⟨hk,hk.2⟩ : _ ∧ k_ ≠ gb151))) (fun _ hk => hk.2) (.int .i64 t148)) (fun _ hk => hk.2) (.int .i64 t149)) (fun _ hk => hk.1.2)));(case aS => exact (bwZ (zb1 HB.out GE151.out)));(case aL => have := LMc14.out;omega);intro v153 w20 ho hb hg hat;rw [← Ny152.out] at ho;have n0_ := As_ (blk_grown (g := gb151) (o := .cells #[.int .i64 t148,.int .i64 t149] 75 (0,0)) (by (with_reducible repeat first|apply bkN|apply bkD|apply bkA);refine blk_put (cs := #[.int .i64 t148,.int .i64 0]) ?_ 1 _ rfl;(with_reducible repeat first|apply bkN|apply bkD|apply bkA);refine blk_put (cs := #[.int .i64 0,.int .i64 0]) ?_ 0 _ rfl;(with_reducible repeat first|apply bkN|apply bkD|apply bkA);exact BK151.out) hg (Kd.R_away HO_4.out (fun _ hk => hk.2)));have n1_ := As_ (hb);have n2_ := As_ (ho);clear BK151 HB HO_4;revert n0_ n1_ n2_;intro BK151 HB HO154;clear ho hb hg hat))
   go_roundg k1
   case measure => have := HK1.out;omega
   case rel => exact ⟨(y152),(wrap64 (x5_1 + t150)),zT_,H',⟨by have := HK1.out;omega⟩,⟨by (with_reducible repeat (first|apply Kd.R_alloc|apply Kd.R_drewN|apply Kd.R_drew));exact Kd.R_mono HO154.out (fun _ hk => trivial)⟩,⟨zb1 HB.out GE151.out⟩⟩
end Go.Proofs.Ytbokjhdhpmmpfaa.Q
