-- Written by wip/tools/qprint.py (a program of this claim's author) by means of the kit's printer.
import Derived.Test.YtfhakhbmbnbneaaQ0
import Derived.Test.YtfhakhbmbnbneaaQ27
import Derived.Test.YtfhakhbmbnbneaaQ38
import Derived.Test.YtfhakhbmbnbneaaQ74
import Derived.Test.YtfhakhbmbnbneaaQ99
namespace Go.Proofs.Ytfhakhbmbnbneaa.Q
open Go.RowKit Go.Proofs.YtfhakhbmbnbneaaW.PrintWords Go.Proofs.YtfhakhbmbnbneaaW.PrintLast Go.Proofs.YtfhakhbmbnbneaaW.PrintMore
attribute [local go_sem] max2_int min2_int max_two min_two max_three min_three max_four min_four   -- for this text's walks alone
set_option linter.unusedVariables false
set_option linter.unusedSimpArgs false

/-! ### laws_FnExactSameGraph: function 11 -/
def laws_FnExactSameGraph.f (k : Nat) (l0_0 : List (S74)) (a0_1 : Int) (l1_0 : List (S74)) (a1_1 : Int) : Option (Bool) := (laws_szGraph.f k l0_0 a0_1 1048576).bind fun t797 => (if t797 < 0 then (some true) else ((laws_szGraph.f k l1_0 a1_1 t797).bind fun t798 => (if t798 < 0 then (some true) else ((laws_toGraph.f k l0_0 a0_1).bind fun bt799 => ((laws_toGraph.f k l1_0 a1_1).bind fun bt803 => ((spec_SameGraph.f k bt799.1 bt799.2 bt803.1 bt803.2).bind fun t807 => ((laws_toGraph.f k l0_0 a0_1).bind fun bt808 => ((laws_toGraph.f k l1_0 a1_1).bind fun bt813 => ((impl_SameGraph.f k bt808.1 bt808.2 bt813.1 bt813.2).bind fun t818 => (if (t818 != t807) = true then (none) else ((laws_toGraph.f k l0_0 a0_1).bind fun bt819 => ((laws_eqGraph.f k bt808.1 bt808.2 bt819.1 bt819.2).bind fun t823 => (if t823 = true then ((laws_toGraph.f k l1_0 a1_1).bind fun bt824 => ((laws_eqGraph.f k bt813.1 bt813.2 bt824.1 bt824.2).bind fun t828 => (if t828 = true then (some true) else (none)))) else (none))))))))))))))
set_option maxHeartbeats 8000000 in
set_option maxRecDepth 100000 in
theorem laws_FnExactSameGraph.calls (k : Nat) (A0_0 : Option Addr) (c0_0 : Nat) (l0_0 : List (S74)) (a0_1 : Int) (A1_0 : Option Addr) (c1_0 : Nat) (l1_0 : List (S74)) (a1_1 : Int) (r : Bool) (w : World) (hr0_0 : Kd.C k74 w A0_0 l0_0.length l0_0) (hc0_0 : l0_0.length ≤ c0_0) (hr1_0 : Kd.C k74 w A1_0 l1_0.length l1_0) (hc1_0 : l1_0.length ≤ c1_0) (h : laws_FnExactSameGraph.f k l0_0 a0_1 l1_0 a1_1 = some r) :
  Calls Try.prog 11 #[.agg #[.slice A0_0 l0_0.length c0_0,.int .i64 a0_1],.agg #[.slice A1_0 l1_0.length c1_0,.int .i64 a1_1]] w fun e w' => e = .returned (.bool r) ∧ Below w.heap.size w w' := by
 have hu24 := Try.underlying24
 have hu29 := Try.underlying29
 have HR0_0 := As_ hr0_0
 have HC0_0 := As_ hc0_0
 clear hr0_0 hc0_0
 have HR1_0 := As_ hr1_0
 have HC1_0 := As_ hc1_0
 clear hr1_0 hc1_0
 have HB := As_ (Below.refl w.heap.size w)
 have H : ((laws_szGraph.f k l0_0 a0_1 1048576).bind fun t797 => (if t797 < 0 then (some true) else ((laws_szGraph.f k l1_0 a1_1 t797).bind fun t798 => (if t798 < 0 then (some true) else ((laws_toGraph.f k l0_0 a0_1).bind fun bt799 => ((laws_toGraph.f k l1_0 a1_1).bind fun bt803 => ((spec_SameGraph.f k bt799.1 bt799.2 bt803.1 bt803.2).bind fun t807 => ((laws_toGraph.f k l0_0 a0_1).bind fun bt808 => ((laws_toGraph.f k l1_0 a1_1).bind fun bt813 => ((impl_SameGraph.f k bt808.1 bt808.2 bt813.1 bt813.2).bind fun t818 => (if (t818 != t807) = true then (none) else ((laws_toGraph.f k l0_0 a0_1).bind fun bt819 => ((laws_eqGraph.f k bt808.1 bt808.2 bt819.1 bt819.2).bind fun t823 => (if t823 = true then ((laws_toGraph.f k l1_0 a1_1).bind fun bt824 => ((laws_eqGraph.f k bt813.1 bt813.2 bt824.1 bt824.2).bind fun t828 => (if t828 = true then (some true) else (none)))) else (none))))))))))))))) = some r := h
 clear h
 replace H := obS H
 obtain ⟨t797,A30,H⟩ := H
 replace H : (if t797 < 0 then (some true) else ((laws_szGraph.f k l1_0 a1_1 t797).bind fun t798 => (if t798 < 0 then (some true) else ((laws_toGraph.f k l0_0 a0_1).bind fun bt799 => ((laws_toGraph.f k l1_0 a1_1).bind fun bt803 => ((spec_SameGraph.f k bt799.1 bt799.2 bt803.1 bt803.2).bind fun t807 => ((laws_toGraph.f k l0_0 a0_1).bind fun bt808 => ((laws_toGraph.f k l1_0 a1_1).bind fun bt813 => ((impl_SameGraph.f k bt808.1 bt808.2 bt813.1 bt813.2).bind fun t818 => (if (t818 != t807) = true then (none) else ((laws_toGraph.f k l0_0 a0_1).bind fun bt819 => ((laws_eqGraph.f k bt808.1 bt808.2 bt819.1 bt819.2).bind fun t823 => (if t823 = true then ((laws_toGraph.f k l1_0 a1_1).bind fun bt824 => ((laws_eqGraph.f k bt813.1 bt813.2 bt824.1 bt824.2).bind fun t828 => (if t828 = true then (some true) else (none)))) else (none)))))))))))))) = some r := H
 have A3 := As_ A30
 clear A30
 by_cases c4 : t797 < 0
 ·rw [if_pos c4] at H
  have c4b0 : decide (t797 < 0) = true := deT c4
  clear c4
  obtain rfl := Option.some.inj H
  go_enter Try.func11,Try.ntmps11
  go_wp2_with (first|((with_reducible refine gate_dst (N := 2) rfl ?_);refine box_event ?hg (N := 2) ?hd (cs := #[.slice A0_0 l0_0.length c0_0,.int .i64 a0_1]) (t := 24) ?hr ?_;(case hd => rfl);(case hg => rfl);(case hr => go_simp <;> rfl);intro gb795 hg w5 hbox hb;have n0_ := As_ (bwT (by repeat (first|(with_reducible first|exact HB.out|apply bwA|apply bwN|apply bwD)|exact HB.out)) hb);have n1_ := As_ (hbox);have n2_ := As_ ((by rw [hg];exact (bwZ (by repeat (first|(with_reducible first|exact HB.out|apply bwA|apply bwN|apply bwD)|exact HB.out))) : w.heap.size ≤ gb795));have n3_ := As_ ((by rw [hg];exact (bwZ (by repeat (first|(with_reducible first|exact HB.out|apply bwA|apply bwN|apply bwD)|exact HB.out))) : w.heap.size ≤ gb795));clear HB;have HB := n0_;have BK795 := n1_;have GW795 := n2_;have GE795 := n3_;clear n0_ n1_ n2_ n3_;clear hb hbox hg)|((with_reducible refine gate_dst (N := 3) rfl ?_);refine box_event ?hg (N := 3) ?hd (cs := #[.slice A1_0 l1_0.length c1_0,.int .i64 a1_1]) (t := 24) ?hr ?_;(case hd => rfl);(case hg => rfl);(case hr => go_simp <;> rfl);intro gb796 hg w6 hbox hb;have n0_ := As_ (blk_below (g := gb795) (o := .cells #[.slice A0_0 l0_0.length c0_0,.int .i64 a0_1] 24 (0,0)) (by (with_reducible repeat (first|refine bkN ?_ _|refine bkD ?_|refine bkA ?_ _));exact BK795.out) hb);have n1_ := As_ (bwT (by repeat (first|(with_reducible first|exact HB.out|apply bwA|apply bwN|apply bwD|refine bwS ?_ GE795.out)|exact HB.out)) hb);have n2_ := As_ (hbox);have n3_ := As_ ((by rw [hg];exact (bwZ (by repeat (first|(with_reducible first|exact HB.out|apply bwA|apply bwN|apply bwD|refine bwS ?_ GE795.out)|exact HB.out))) : w.heap.size ≤ gb796));have n4_ := As_ ((by rw [hg];exact (bwZ (by repeat (first|(with_reducible first|exact HB.out|apply bwA|apply bwN|apply bwD|refine bwS ?_ GE795.out)|exact HB.out))) : w.heap.size ≤ gb796));have n5_ := As_ ((by rw [hg];exact Nat.ne_of_lt (blk_lt (g := gb795) (o := .cells #[.slice A0_0 l0_0.length c0_0,.int .i64 a0_1] 24 (0,0)) (by (with_reducible repeat (first|refine bkN ?_ _|refine bkD ?_|refine bkA ?_ _));exact BK795.out)) : gb795 ≠ gb796));have n6_ := As_ ((by rw [hg];exact Nat.ne_of_gt (blk_lt (g := gb795) (o := .cells #[.slice A0_0 l0_0.length c0_0,.int .i64 a0_1] 24 (0,0)) (by (with_reducible repeat (first|refine bkN ?_ _|refine bkD ?_|refine bkA ?_ _));exact BK795.out)) : gb796 ≠ gb795));clear BK795;clear HB;have BK795 := n0_;have HB := n1_;have BK796 := n2_;have GW796 := n3_;have GE796 := n4_;have NB795_796 := n5_;have NB796_795 := n6_;clear n0_ n1_ n2_ n3_ n4_ n5_ n6_;clear hb hbox hg;have hnb7 := NB795_796.out;have hnc7 := NB796_795.out;have hcz8_0 : w6.cell? ⟨gb795,0,none⟩ = some (.slice A0_0 l0_0.length c0_0) := (bkC BK795.out 0).trans rfl;have hcz8_1 : w6.cell? ⟨gb795,1,none⟩ = some (.int .i64 a0_1) := (bkC BK795.out 1).trans rfl;have hfz8_0 := bkF BK795.out 0;have hfz8_1 := bkF BK795.out 1)|((with_reducible refine gate_callee (f := 15) rfl ?_);refine goesL_ (some 12) rfl rfl Try.func15 (by kernel_rfl) rfl #[.agg #[.slice A0_0 l0_0.length c0_0,.int .i64 a0_1],.int .i64 1048576] rfl (by (try simp only [List.map_toArray,List.map_cons,List.map_nil]);first|done|rfl|(simp only [List.length_drop,List.length_take];rfl)) ?_;(with_reducible refine (laws_szGraph.calls k _ _ l0_0 a0_1 1048576 t797 _ ?side1 ?side2 A3.out).mono ?_);(case side1 => repeat (first|exact (Kd.C_below HR0_0.out HB.out)|(with_reducible refine Kd.C_alloc ?_ _)|(with_reducible refine Kd.C_drewN ?_ _)|(with_reducible refine Kd.C_drew ?_)));(case side2 => exact HC0_0.out);rintro e w9 ⟨rfl,hb⟩;refine ⟨_,rfl,?_⟩;have n0_ := As_ (blk_below (g := gb795) (o := .cells #[.slice A0_0 l0_0.length c0_0,.int .i64 a0_1] 24 (0,0)) (by (with_reducible repeat (first|refine bkN ?_ _|refine bkD ?_|refine bkA ?_ _));exact BK795.out) hb);have n1_ := As_ (blk_below (g := gb796) (o := .cells #[.slice A1_0 l1_0.length c1_0,.int .i64 a1_1] 24 (0,0)) (by (with_reducible repeat (first|refine bkN ?_ _|refine bkD ?_|refine bkA ?_ _));exact BK796.out) hb);have n2_ := As_ (bwT (by repeat (first|(with_reducible first|exact HB.out|apply bwA|apply bwN|apply bwD|refine bwS ?_ GE795.out|refine bwS ?_ GE796.out)|exact HB.out)) hb);clear BK795;clear BK796;clear HB;have BK795 := n0_;have BK796 := n1_;have HB := n2_;clear n0_ n1_ n2_;(try clear hb);(try clear hb2);(try clear hk);(try clear hi)))
  go_ret
  exact ⟨by first|rfl|(simp [errW_none,errW_some] <;> rfl)|(simp [*,errW_none,errW_some] <;> rfl),by repeat (first|(with_reducible first|exact HB.out|apply bwA|apply bwN|apply bwD|refine bwS ?_ GE795.out|refine bwS ?_ GE796.out)|exact HB.out)⟩
 ·rw [if_neg c4] at H
  have c4b0 : decide (t797 < 0) = false := deF c4
  clear c4
  replace H := obS H
  obtain ⟨t798,A100,H⟩ := H
  replace H : (if t798 < 0 then (some true) else ((laws_toGraph.f k l0_0 a0_1).bind fun bt799 => ((laws_toGraph.f k l1_0 a1_1).bind fun bt803 => ((spec_SameGraph.f k bt799.1 bt799.2 bt803.1 bt803.2).bind fun t807 => ((laws_toGraph.f k l0_0 a0_1).bind fun bt808 => ((laws_toGraph.f k l1_0 a1_1).bind fun bt813 => ((impl_SameGraph.f k bt808.1 bt808.2 bt813.1 bt813.2).bind fun t818 => (if (t818 != t807) = true then (none) else ((laws_toGraph.f k l0_0 a0_1).bind fun bt819 => ((laws_eqGraph.f k bt808.1 bt808.2 bt819.1 bt819.2).bind fun t823 => (if t823 = true then ((laws_toGraph.f k l1_0 a1_1).bind fun bt824 => ((laws_eqGraph.f k bt813.1 bt813.2 bt824.1 bt824.2).bind fun t828 => (if t828 = true then (some true) else (none)))) else (none)))))))))))) = some r := H
  have A10 := As_ A100
  clear A100
  by_cases c11 : t798 < 0
  ·rw [if_pos c11] at H
   have c11b0 : decide (t798 < 0) = true := deT c11
   clear c11
   obtain rfl := Option.some.inj H
   go_enter Try.func11,Try.ntmps11
   go_wp2_with (first|((with_reducible refine gate_dst (N := 2) rfl ?_);refine box_event ?hg (N := 2) ?hd (cs := #[.slice A0_0 l0_0.length c0_0,.int .i64 a0_1]) (t := 24) ?hr ?_;(case hd => rfl);(case hg => rfl);(case hr => go_simp <;> rfl);intro gb795 hg w12 hbox hb;have n0_ := As_ (bwT (by repeat (first|(with_reducible first|exact HB.out|apply bwA|apply bwN|apply bwD)|exact HB.out)) hb);have n1_ := As_ (hbox);have n2_ := As_ ((by rw [hg];exact (bwZ (by repeat (first|(with_reducible first|exact HB.out|apply bwA|apply bwN|apply bwD)|exact HB.out))) : w.heap.size ≤ gb795));have n3_ := As_ ((by rw [hg];exact (bwZ (by repeat (first|(with_reducible first|exact HB.out|apply bwA|apply bwN|apply bwD)|exact HB.out))) : w.heap.size ≤ gb795));clear HB;have HB := n0_;have BK795 := n1_;have GW795 := n2_;have GE795 := n3_;clear n0_ n1_ n2_ n3_;clear hb hbox hg)|((with_reducible refine gate_dst (N := 3) rfl ?_);refine box_event ?hg (N := 3) ?hd (cs := #[.slice A1_0 l1_0.length c1_0,.int .i64 a1_1]) (t := 24) ?hr ?_;(case hd => rfl);(case hg => rfl);(case hr => go_simp <;> rfl);intro gb796 hg w13 hbox hb;have n0_ := As_ (blk_below (g := gb795) (o := .cells #[.slice A0_0 l0_0.length c0_0,.int .i64 a0_1] 24 (0,0)) (by (with_reducible repeat (first|refine bkN ?_ _|refine bkD ?_|refine bkA ?_ _));exact BK795.out) hb);have n1_ := As_ (bwT (by repeat (first|(with_reducible first|exact HB.out|apply bwA|apply bwN|apply bwD|refine bwS ?_ GE795.out)|exact HB.out)) hb);have n2_ := As_ (hbox);have n3_ := As_ ((by rw [hg];exact (bwZ (by repeat (first|(with_reducible first|exact HB.out|apply bwA|apply bwN|apply bwD|refine bwS ?_ GE795.out)|exact HB.out))) : w.heap.size ≤ gb796));have n4_ := As_ ((by rw [hg];exact (bwZ (by repeat (first|(with_reducible first|exact HB.out|apply bwA|apply bwN|apply bwD|refine bwS ?_ GE795.out)|exact HB.out))) : w.heap.size ≤ gb796));have n5_ := As_ ((by rw [hg];exact Nat.ne_of_lt (blk_lt (g := gb795) (o := .cells #[.slice A0_0 l0_0.length c0_0,.int .i64 a0_1] 24 (0,0)) (by (with_reducible repeat (first|refine bkN ?_ _|refine bkD ?_|refine bkA ?_ _));exact BK795.out)) : gb795 ≠ gb796));have n6_ := As_ ((by rw [hg];exact Nat.ne_of_gt (blk_lt (g := gb795) (o := .cells #[.slice A0_0 l0_0.length c0_0,.int .i64 a0_1] 24 (0,0)) (by (with_reducible repeat (first|refine bkN ?_ _|refine bkD ?_|refine bkA ?_ _));exact BK795.out)) : gb796 ≠ gb795));clear BK795;clear HB;have BK795 := n0_;have HB := n1_;have BK796 := n2_;have GW796 := n3_;have GE796 := n4_;have NB795_796 := n5_;have NB796_795 := n6_;clear n0_ n1_ n2_ n3_ n4_ n5_ n6_;clear hb hbox hg;have hnb14 := NB795_796.out;have hnc14 := NB796_795.out;have hcz15_0 : w13.cell? ⟨gb795,0,none⟩ = some (.slice A0_0 l0_0.length c0_0) := (bkC BK795.out 0).trans rfl;have hcz15_1 : w13.cell? ⟨gb795,1,none⟩ = some (.int .i64 a0_1) := (bkC BK795.out 1).trans rfl;have hfz15_0 := bkF BK795.out 0;have hfz15_1 := bkF BK795.out 1)|((with_reducible refine gate_callee (f := 15) rfl ?_);refine goesL_ (some 12) rfl rfl Try.func15 (by kernel_rfl) rfl #[.agg #[.slice A0_0 l0_0.length c0_0,.int .i64 a0_1],.int .i64 1048576] rfl (by (try simp only [List.map_toArray,List.map_cons,List.map_nil]);first|done|rfl|(simp only [List.length_drop,List.length_take];rfl)) ?_;(with_reducible refine (laws_szGraph.calls k _ _ l0_0 a0_1 1048576 t797 _ ?side1 ?side2 A3.out).mono ?_);(case side1 => repeat (first|exact (Kd.C_below HR0_0.out HB.out)|(with_reducible refine Kd.C_alloc ?_ _)|(with_reducible refine Kd.C_drewN ?_ _)|(with_reducible refine Kd.C_drew ?_)));(case side2 => exact HC0_0.out);rintro e w16 ⟨rfl,hb⟩;refine ⟨_,rfl,?_⟩;have n0_ := As_ (blk_below (g := gb795) (o := .cells #[.slice A0_0 l0_0.length c0_0,.int .i64 a0_1] 24 (0,0)) (by (with_reducible repeat (first|refine bkN ?_ _|refine bkD ?_|refine bkA ?_ _));exact BK795.out) hb);have n1_ := As_ (blk_below (g := gb796) (o := .cells #[.slice A1_0 l1_0.length c1_0,.int .i64 a1_1] 24 (0,0)) (by (with_reducible repeat (first|refine bkN ?_ _|refine bkD ?_|refine bkA ?_ _));exact BK796.out) hb);have n2_ := As_ (bwT (by repeat (first|(with_reducible first|exact HB.out|apply bwA|apply bwN|apply bwD|refine bwS ?_ GE795.out|refine bwS ?_ GE796.out)|exact HB.out)) hb);clear BK795;clear BK796;clear HB;have BK795 := n0_;have BK796 := n1_;have HB := n2_;clear n0_ n1_ n2_;(try clear hb);(try clear hb2);(try clear hk);(try clear hi);have hcz17_0 : w16.cell? ⟨gb796,0,none⟩ = some (.slice A1_0 l1_0.length c1_0) := (bkC BK796.out 0).trans rfl;have hcz17_1 : w16.cell? ⟨gb796,1,none⟩ = some (.int .i64 a1_1) := (bkC BK796.out 1).trans rfl;have hfz17_0 := bkF BK796.out 0;have hfz17_1 := bkF BK796.out 1)|((with_reducible refine gate_callee (f := 15) rfl ?_);refine goesL_ (some 17) rfl rfl Try.func15 (by kernel_rfl) rfl #[.agg #[.slice A1_0 l1_0.length c1_0,.int .i64 a1_1],.int .i64 t797] rfl (by (try simp only [List.map_toArray,List.map_cons,List.map_nil]);first|done|rfl|(simp only [List.length_drop,List.length_take];rfl)) ?_;(with_reducible refine (laws_szGraph.calls k _ _ l1_0 a1_1 t797 t798 _ ?side1 ?side2 A10.out).mono ?_);(case side1 => repeat (first|exact (Kd.C_below HR1_0.out HB.out)|(with_reducible refine Kd.C_alloc ?_ _)|(with_reducible refine Kd.C_drewN ?_ _)|(with_reducible refine Kd.C_drew ?_)));(case side2 => exact HC1_0.out);rintro e w18 ⟨rfl,hb⟩;refine ⟨_,rfl,?_⟩;have n0_ := As_ (blk_below (g := gb795) (o := .cells #[.slice A0_0 l0_0.length c0_0,.int .i64 a0_1] 24 (0,0)) (by (with_reducible repeat (first|refine bkN ?_ _|refine bkD ?_|refine bkA ?_ _));exact BK795.out) hb);have n1_ := As_ (blk_below (g := gb796) (o := .cells #[.slice A1_0 l1_0.length c1_0,.int .i64 a1_1] 24 (0,0)) (by (with_reducible repeat (first|refine bkN ?_ _|refine bkD ?_|refine bkA ?_ _));exact BK796.out) hb);have n2_ := As_ (bwT (by repeat (first|(with_reducible first|exact HB.out|apply bwA|apply bwN|apply bwD|refine bwS ?_ GE795.out|refine bwS ?_ GE796.out)|exact HB.out)) hb);clear BK795;clear BK796;clear HB;have BK795 := n0_;have BK796 := n1_;have HB := n2_;clear n0_ n1_ n2_;(try clear hb);(try clear hb2);(try clear hk);(try clear hi)))
   go_ret
   exact ⟨by first|rfl|(simp [errW_none,errW_some] <;> rfl)|(simp [*,errW_none,errW_some] <;> rfl),by repeat (first|(with_reducible first|exact HB.out|apply bwA|apply bwN|apply bwD|refine bwS ?_ GE795.out|refine bwS ?_ GE796.out)|exact HB.out)⟩
  ·rw [if_neg c11] at H
   have c11b0 : decide (t798 < 0) = false := deF c11
   clear c11
   replace H := obS H
   obtain ⟨⟨t799,t802⟩,A190,H⟩ := H
   replace H : ((laws_toGraph.f k l1_0 a1_1).bind fun bt803 => ((spec_SameGraph.f k t799 t802 bt803.1 bt803.2).bind fun t807 => ((laws_toGraph.f k l0_0 a0_1).bind fun bt808 => ((laws_toGraph.f k l1_0 a1_1).bind fun bt813 => ((impl_SameGraph.f k bt808.1 bt808.2 bt813.1 bt813.2).bind fun t818 => (if (t818 != t807) = true then (none) else ((laws_toGraph.f k l0_0 a0_1).bind fun bt819 => ((laws_eqGraph.f k bt808.1 bt808.2 bt819.1 bt819.2).bind fun t823 => (if t823 = true then ((laws_toGraph.f k l1_0 a1_1).bind fun bt824 => ((laws_eqGraph.f k bt813.1 bt813.2 bt824.1 bt824.2).bind fun t828 => (if t828 = true then (some true) else (none)))) else (none)))))))))) = some r := H
   have A19 := As_ A190
   clear A190
   replace H := obS H
   obtain ⟨⟨t803,t806⟩,A200,H⟩ := H
   replace H : ((spec_SameGraph.f k t799 t802 t803 t806).bind fun t807 => ((laws_toGraph.f k l0_0 a0_1).bind fun bt808 => ((laws_toGraph.f k l1_0 a1_1).bind fun bt813 => ((impl_SameGraph.f k bt808.1 bt808.2 bt813.1 bt813.2).bind fun t818 => (if (t818 != t807) = true then (none) else ((laws_toGraph.f k l0_0 a0_1).bind fun bt819 => ((laws_eqGraph.f k bt808.1 bt808.2 bt819.1 bt819.2).bind fun t823 => (if t823 = true then ((laws_toGraph.f k l1_0 a1_1).bind fun bt824 => ((laws_eqGraph.f k bt813.1 bt813.2 bt824.1 bt824.2).bind fun t828 => (if t828 = true then (some true) else (none)))) else (none))))))))) = some r := H
   have A20 := As_ A200
   clear A200
   replace H := obS H
   obtain ⟨t807,A210,H⟩ := H
   replace H : ((laws_toGraph.f k l0_0 a0_1).bind fun bt808 => ((laws_toGraph.f k l1_0 a1_1).bind fun bt813 => ((impl_SameGraph.f k bt808.1 bt808.2 bt813.1 bt813.2).bind fun t818 => (if (t818 != t807) = true then (none) else ((laws_toGraph.f k l0_0 a0_1).bind fun bt819 => ((laws_eqGraph.f k bt808.1 bt808.2 bt819.1 bt819.2).bind fun t823 => (if t823 = true then ((laws_toGraph.f k l1_0 a1_1).bind fun bt824 => ((laws_eqGraph.f k bt813.1 bt813.2 bt824.1 bt824.2).bind fun t828 => (if t828 = true then (some true) else (none)))) else (none)))))))) = some r := H
   have A21 := As_ A210
   clear A210
   replace H := obS H
   obtain ⟨⟨t808,t811⟩,A220,H⟩ := H
   replace H : ((laws_toGraph.f k l1_0 a1_1).bind fun bt813 => ((impl_SameGraph.f k t808 t811 bt813.1 bt813.2).bind fun t818 => (if (t818 != t807) = true then (none) else ((laws_toGraph.f k l0_0 a0_1).bind fun bt819 => ((laws_eqGraph.f k t808 t811 bt819.1 bt819.2).bind fun t823 => (if t823 = true then ((laws_toGraph.f k l1_0 a1_1).bind fun bt824 => ((laws_eqGraph.f k bt813.1 bt813.2 bt824.1 bt824.2).bind fun t828 => (if t828 = true then (some true) else (none)))) else (none))))))) = some r := H
   have A22 := As_ A220
   clear A220
   replace H := obS H
   obtain ⟨⟨t813,t816⟩,A230,H⟩ := H
   replace H : ((impl_SameGraph.f k t808 t811 t813 t816).bind fun t818 => (if (t818 != t807) = true then (none) else ((laws_toGraph.f k l0_0 a0_1).bind fun bt819 => ((laws_eqGraph.f k t808 t811 bt819.1 bt819.2).bind fun t823 => (if t823 = true then ((laws_toGraph.f k l1_0 a1_1).bind fun bt824 => ((laws_eqGraph.f k t813 t816 bt824.1 bt824.2).bind fun t828 => (if t828 = true then (some true) else (none)))) else (none)))))) = some r := H
   have A23 := As_ A230
   clear A230
   replace H := obS H
   obtain ⟨t818,A240,H⟩ := H
   replace H : (if (t818 != t807) = true then (none) else ((laws_toGraph.f k l0_0 a0_1).bind fun bt819 => ((laws_eqGraph.f k t808 t811 bt819.1 bt819.2).bind fun t823 => (if t823 = true then ((laws_toGraph.f k l1_0 a1_1).bind fun bt824 => ((laws_eqGraph.f k t813 t816 bt824.1 bt824.2).bind fun t828 => (if t828 = true then (some true) else (none)))) else (none))))) = some r := H
   have A24 := As_ A240
   clear A240
   by_cases c25 : (t818 != t807) = true
   ·rw [if_pos c25] at H
    have c25b0 : (t818 != t807) = true := c25
    (try (have c25b1 : decide (t818 = t807) = false := by simpa using c25))
    (try (have c25b2 : (t818 == t807) = false := by simpa using c25))
    (try (have c25b3 : ¬ (t818 = t807) := by simpa using c25))
    clear c25
    exact absurd H (by simp)
   ·rw [if_neg c25] at H
    have c25b0 : (t818 != t807) = false := by simpa using c25
    (try (have c25b1 : decide (t818 = t807) = true := by simpa using c25))
    (try (have c25b2 : (t818 == t807) = true := by simpa using c25))
    clear c25
    replace H := obS H
    obtain ⟨⟨t819,t822⟩,A560,H⟩ := H
    replace H : ((laws_eqGraph.f k t808 t811 t819 t822).bind fun t823 => (if t823 = true then ((laws_toGraph.f k l1_0 a1_1).bind fun bt824 => ((laws_eqGraph.f k t813 t816 bt824.1 bt824.2).bind fun t828 => (if t828 = true then (some true) else (none)))) else (none))) = some r := H
    have A56 := As_ A560
    clear A560
    replace H := obS H
    obtain ⟨t823,A570,H⟩ := H
    replace H : (if t823 = true then ((laws_toGraph.f k l1_0 a1_1).bind fun bt824 => ((laws_eqGraph.f k t813 t816 bt824.1 bt824.2).bind fun t828 => (if t828 = true then (some true) else (none)))) else (none)) = some r := H
    have A57 := As_ A570
    clear A570
    by_cases c58 : t823 = true
    ·subst c58
     have H1 : ((laws_toGraph.f k l1_0 a1_1).bind fun bt824 => ((laws_eqGraph.f k t813 t816 bt824.1 bt824.2).bind fun t828 => (if t828 = true then (some true) else (none)))) = some r := by rw [if_pos rfl] at H;exact H
     clear H
     have H := H1
     clear H1
     replace H := obS H
     obtain ⟨⟨t824,t827⟩,A590,H⟩ := H
     replace H : ((laws_eqGraph.f k t813 t816 t824 t827).bind fun t828 => (if t828 = true then (some true) else (none))) = some r := H
     have A59 := As_ A590
     clear A590
     replace H := obS H
     obtain ⟨t828,A600,H⟩ := H
     replace H : (if t828 = true then (some true) else (none)) = some r := H
     have A60 := As_ A600
     clear A600
     by_cases c61 : t828 = true
     ·subst c61
      have H1 : (some true) = some r := by rw [if_pos rfl] at H;exact H
      clear H
      have H := H1
      clear H1
      obtain rfl := Option.some.inj H
      go_enter Try.func11,Try.ntmps11
      try go_wp2_with (first|((with_reducible refine gate_dst (N := 2) rfl ?_);refine box_event ?hg (N := 2) ?hd (cs := #[.slice A0_0 l0_0.length c0_0,.int .i64 a0_1]) (t := 24) ?hr ?_;(case hd => rfl);(case hg => rfl);(case hr => go_simp <;> rfl);intro gb795 hg w62 hbox hb;have n0_ := As_ (bwT (by repeat (first|(with_reducible first|exact HB.out|apply bwA|apply bwN|apply bwD)|exact HB.out)) hb);have n1_ := As_ (hbox);have n2_ := As_ ((by rw [hg];exact (bwZ (by repeat (first|(with_reducible first|exact HB.out|apply bwA|apply bwN|apply bwD)|exact HB.out))) : w.heap.size ≤ gb795));have n3_ := As_ ((by rw [hg];exact (bwZ (by repeat (first|(with_reducible first|exact HB.out|apply bwA|apply bwN|apply bwD)|exact HB.out))) : w.heap.size ≤ gb795));clear HB;have HB := n0_;have BK795 := n1_;have GW795 := n2_;have GE795 := n3_;clear n0_ n1_ n2_ n3_;clear hb hbox hg)|((with_reducible refine gate_dst (N := 3) rfl ?_);refine box_event ?hg (N := 3) ?hd (cs := #[.slice A1_0 l1_0.length c1_0,.int .i64 a1_1]) (t := 24) ?hr ?_;(case hd => rfl);(case hg => rfl);(case hr => go_simp <;> rfl);intro gb796 hg w63 hbox hb;have n0_ := As_ (blk_below (g := gb795) (o := .cells #[.slice A0_0 l0_0.length c0_0,.int .i64 a0_1] 24 (0,0)) (by (with_reducible repeat (first|refine bkN ?_ _|refine bkD ?_|refine bkA ?_ _));exact BK795.out) hb);have n1_ := As_ (bwT (by repeat (first|(with_reducible first|exact HB.out|apply bwA|apply bwN|apply bwD|refine bwS ?_ GE795.out)|exact HB.out)) hb);have n2_ := As_ (hbox);have n3_ := As_ ((by rw [hg];exact (bwZ (by repeat (first|(with_reducible first|exact HB.out|apply bwA|apply bwN|apply bwD|refine bwS ?_ GE795.out)|exact HB.out))) : w.heap.size ≤ gb796));have n4_ := As_ ((by rw [hg];exact (bwZ (by repeat (first|(with_reducible first|exact HB.out|apply bwA|apply bwN|apply bwD|refine bwS ?_ GE795.out)|exact HB.out))) : w.heap.size ≤ gb796));have n5_ := As_ ((by rw [hg];exact Nat.ne_of_lt (blk_lt (g := gb795) (o := .cells #[.slice A0_0 l0_0.length c0_0,.int .i64 a0_1] 24 (0,0)) (by (with_reducible repeat (first|refine bkN ?_ _|refine bkD ?_|refine bkA ?_ _));exact BK795.out)) : gb795 ≠ gb796));have n6_ := As_ ((by rw [hg];exact Nat.ne_of_gt (blk_lt (g := gb795) (o := .cells #[.slice A0_0 l0_0.length c0_0,.int .i64 a0_1] 24 (0,0)) (by (with_reducible repeat (first|refine bkN ?_ _|refine bkD ?_|refine bkA ?_ _));exact BK795.out)) : gb796 ≠ gb795));clear BK795;clear HB;have BK795 := n0_;have HB := n1_;have BK796 := n2_;have GW796 := n3_;have GE796 := n4_;have NB795_796 := n5_;have NB796_795 := n6_;clear n0_ n1_ n2_ n3_ n4_ n5_ n6_;clear hb hbox hg;have hnb64 := NB795_796.out;have hnc64 := NB796_795.out;have hcz65_0 : w63.cell? ⟨gb795,0,none⟩ = some (.slice A0_0 l0_0.length c0_0) := (bkC BK795.out 0).trans rfl;have hcz65_1 : w63.cell? ⟨gb795,1,none⟩ = some (.int .i64 a0_1) := (bkC BK795.out 1).trans rfl;have hfz65_0 := bkF BK795.out 0;have hfz65_1 := bkF BK795.out 1)|((with_reducible refine gate_callee (f := 15) rfl ?_);refine goesL_ (some 12) rfl rfl Try.func15 (by kernel_rfl) rfl #[.agg #[.slice A0_0 l0_0.length c0_0,.int .i64 a0_1],.int .i64 1048576] rfl (by (try simp only [List.map_toArray,List.map_cons,List.map_nil]);first|done|rfl|(simp only [List.length_drop,List.length_take];rfl)) ?_;(with_reducible refine (laws_szGraph.calls k _ _ l0_0 a0_1 1048576 t797 _ ?side1 ?side2 A3.out).mono ?_);(case side1 => repeat (first|exact (Kd.C_below HR0_0.out HB.out)|(with_reducible refine Kd.C_alloc ?_ _)|(with_reducible refine Kd.C_drewN ?_ _)|(with_reducible refine Kd.C_drew ?_)));(case side2 => exact HC0_0.out);rintro e w66 ⟨rfl,hb⟩;refine ⟨_,rfl,?_⟩;have n0_ := As_ (blk_below (g := gb795) (o := .cells #[.slice A0_0 l0_0.length c0_0,.int .i64 a0_1] 24 (0,0)) (by (with_reducible repeat (first|refine bkN ?_ _|refine bkD ?_|refine bkA ?_ _));exact BK795.out) hb);have n1_ := As_ (blk_below (g := gb796) (o := .cells #[.slice A1_0 l1_0.length c1_0,.int .i64 a1_1] 24 (0,0)) (by (with_reducible repeat (first|refine bkN ?_ _|refine bkD ?_|refine bkA ?_ _));exact BK796.out) hb);have n2_ := As_ (bwT (by repeat (first|(with_reducible first|exact HB.out|apply bwA|apply bwN|apply bwD|refine bwS ?_ GE795.out|refine bwS ?_ GE796.out)|exact HB.out)) hb);clear BK795;clear BK796;clear HB;have BK795 := n0_;have BK796 := n1_;have HB := n2_;clear n0_ n1_ n2_;(try clear hb);(try clear hb2);(try clear hk);(try clear hi);have hcz67_0 : w66.cell? ⟨gb796,0,none⟩ = some (.slice A1_0 l1_0.length c1_0) := (bkC BK796.out 0).trans rfl;have hcz67_1 : w66.cell? ⟨gb796,1,none⟩ = some (.int .i64 a1_1) := (bkC BK796.out 1).trans rfl;have hfz67_0 := bkF BK796.out 0;have hfz67_1 := bkF BK796.out 1)|((with_reducible refine gate_callee (f := 15) rfl ?_);refine goesL_ (some 17) rfl rfl Try.func15 (by kernel_rfl) rfl #[.agg #[.slice A1_0 l1_0.length c1_0,.int .i64 a1_1],.int .i64 t797] rfl (by (try simp only [List.map_toArray,List.map_cons,List.map_nil]);first|done|rfl|(simp only [List.length_drop,List.length_take];rfl)) ?_;(with_reducible refine (laws_szGraph.calls k _ _ l1_0 a1_1 t797 t798 _ ?side1 ?side2 A10.out).mono ?_);(case side1 => repeat (first|exact (Kd.C_below HR1_0.out HB.out)|(with_reducible refine Kd.C_alloc ?_ _)|(with_reducible refine Kd.C_drewN ?_ _)|(with_reducible refine Kd.C_drew ?_)));(case side2 => exact HC1_0.out);rintro e w68 ⟨rfl,hb⟩;refine ⟨_,rfl,?_⟩;have n0_ := As_ (blk_below (g := gb795) (o := .cells #[.slice A0_0 l0_0.length c0_0,.int .i64 a0_1] 24 (0,0)) (by (with_reducible repeat (first|refine bkN ?_ _|refine bkD ?_|refine bkA ?_ _));exact BK795.out) hb);have n1_ := As_ (blk_below (g := gb796) (o := .cells #[.slice A1_0 l1_0.length c1_0,.int .i64 a1_1] 24 (0,0)) (by (with_reducible repeat (first|refine bkN ?_ _|refine bkD ?_|refine bkA ?_ _));exact BK796.out) hb);have n2_ := As_ (bwT (by repeat (first|(with_reducible first|exact HB.out|apply bwA|apply bwN|apply bwD|refine bwS ?_ GE795.out|refine bwS ?_ GE796.out)|exact HB.out)) hb);clear BK795;clear BK796;clear HB;have BK795 := n0_;have BK796 := n1_;have HB := n2_;clear n0_ n1_ n2_;(try clear hb);(try clear hb2);(try clear hk);(try clear hi)))
      have n0_ := As_ (bkD BK795.out)
      have n1_ := As_ (bkD BK796.out)
      have n2_ := As_ (bwD HB.out)
      clear BK795
      clear BK796
      clear HB
      have BK795 := n0_
      have BK796 := n1_
      have HB := n2_
      clear n0_ n1_ n2_
      refine start_ (n := 6) (S := fun w' => w'.cell? ⟨gb795,0,none⟩ = some (.slice A0_0 l0_0.length c0_0) ∧ w'.cell? ⟨gb795,1,none⟩ = some (.int .i64 a0_1) ∧ w'.cell? ⟨gb796,0,none⟩ = some (.slice A1_0 l1_0.length c1_0) ∧ w'.cell? ⟨gb796,1,none⟩ = some (.int .i64 a1_1)) (ds := []) #[false,false,false,false,false,false] (by kernel_rfl) rfl rfl ⟨(bkC BK795.out 0).trans rfl,(bkC BK795.out 1).trans rfl,(bkC BK796.out 0).trans rfl,(bkC BK796.out 1).trans rfl⟩ (fun hHeld => ?_)
      generalize w68.drew = w69 at BK795 BK796 HB hHeld ⊢
      refine take_ (i := 0) (N := some 20) (v := ?_) (a' := ?_) #[true,false,false,false,false,false] rfl rfl (by kernel_rfl) (fun _ _ _ h => h) (Or.inl ⟨by rfl,?_⟩) hHeld ?_ ?_;rotate_left;(rintro w' ⟨s0,s1,s2,s3⟩;go_simp;with_reducible rfl);rotate_left;(simp only [Act.put,sq_,i64_w,i32_w];rfl)
      refine take_ (i := 2) (N := some 22) (v := ?_) (a' := ?_) #[true,false,true,false,false,false] rfl rfl (by kernel_rfl) (fun _ _ _ h => h) (Or.inl ⟨by rfl,?_⟩) hHeld ?_ ?_;rotate_left;(rintro w' ⟨s0,s1,s2,s3⟩;go_simp;with_reducible rfl);rotate_left;(simp only [Act.put,sq_,i64_w,i32_w];rfl)
      refine one_ (i := 1) (N := some 21) #[true,true,true,false,false,false] rfl rfl (by kernel_rfl) (by decide) (fun K hK => ?_)
      refine goes_ Try.func17 (by kernel_rfl) rfl #[.agg #[.slice A0_0 l0_0.length c0_0,.int .i64 a0_1]] (by rfl) rfl rfl (by (try simp only [List.map_toArray,List.map_cons,List.map_nil]);first|done|rfl|(simp only [List.length_drop,List.length_take];rfl)) ?_
      with_reducible refine (laws_toGraph.calls k _ _ l0_0 a0_1 t799 t802 _ ?side1 ?side2 A19.out).mono ?_
      (case side1 => repeat (first|exact (Kd.C_below HR0_0.out HB.out)|(with_reducible refine Kd.C_alloc ?_ _)|(with_reducible refine Kd.C_drewN ?_ _)|(with_reducible refine Kd.C_drew ?_)))
      (case side2 => exact HC0_0.out)
      rintro e w70 ⟨v800,rfl,ho0,hb⟩
      refine ⟨_,rfl,?_⟩
      have n0_ := As_ (Kd.S_lower ho0 (bwZ (by repeat (first|(with_reducible first|exact HB.out|apply bwA|apply bwN|apply bwD|refine bwS ?_ GE795.out|refine bwS ?_ GE796.out)|exact HB.out))))
      have n1_ := As_ (blk_below (g := gb795) (o := .cells #[.slice A0_0 l0_0.length c0_0,.int .i64 a0_1] 24 (0,0)) (by (with_reducible repeat (first|refine bkN ?_ _|refine bkD ?_|refine bkA ?_ _));exact BK795.out) hb)
      have n2_ := As_ (blk_below (g := gb796) (o := .cells #[.slice A1_0 l1_0.length c1_0,.int .i64 a1_1] 24 (0,0)) (by (with_reducible repeat (first|refine bkN ?_ _|refine bkD ?_|refine bkA ?_ _));exact BK796.out) hb)
      have n3_ := As_ (bwT (by repeat (first|(with_reducible first|exact HB.out|apply bwA|apply bwN|apply bwD|refine bwS ?_ GE795.out|refine bwS ?_ GE796.out)|exact HB.out)) hb)
      clear BK795
      clear BK796
      clear HB
      have HO801 := n0_
      have BK795 := n1_
      have BK796 := n2_
      have HB := n3_
      clear n0_ n1_ n2_ n3_
      (try clear hb)
      (try clear hb2)
      (try clear hk)
      (try clear hi)
      (try clear ho0)
      refine hK.out _ _ ⟨(bkC BK795.out 0).trans rfl,(bkC BK795.out 1).trans rfl,(bkC BK796.out 0).trans rfl,(bkC BK796.out 1).trans rfl⟩ (fun hHeld => ?_)
      clear hK K
      refine norm_ (a' := ?_) ?_ ?_
      rotate_left
      ·show Act.put _ (some 21) _ = _
       simp only [Act.put,sq_,i64_w,i32_w]
       rfl
      refine one_ (i := 3) (N := some 23) #[true,true,true,true,false,false] rfl rfl (by kernel_rfl) (by decide) (fun K hK => ?_)
      refine goes_ Try.func17 (by kernel_rfl) rfl #[.agg #[.slice A1_0 l1_0.length c1_0,.int .i64 a1_1]] (by rfl) rfl rfl (by (try simp only [List.map_toArray,List.map_cons,List.map_nil]);first|done|rfl|(simp only [List.length_drop,List.length_take];rfl)) ?_
      with_reducible refine (laws_toGraph.calls k _ _ l1_0 a1_1 t803 t806 _ ?side1 ?side2 A20.out).mono ?_
      (case side1 => repeat (first|exact (Kd.C_below HR1_0.out HB.out)|(with_reducible refine Kd.C_alloc ?_ _)|(with_reducible refine Kd.C_drewN ?_ _)|(with_reducible refine Kd.C_drew ?_)))
      (case side2 => exact HC1_0.out)
      rintro e w71 ⟨v804,rfl,ho0,hb⟩
      refine ⟨_,rfl,?_⟩
      have n0_ := As_ (Kd.S_elder' (by (with_reducible repeat (first|apply Kd.S_alloc|apply Kd.S_drewN|apply Kd.S_drew));exact HO801.out) (Kd.S_base ho0) hb)
      have n1_ := As_ (Kd.S_lower (Kd.S_new' ho0 (Kd.S_lt (by (with_reducible repeat (first|apply Kd.S_alloc|apply Kd.S_drewN|apply Kd.S_drew));exact HO801.out))) (bwZ (by repeat (first|(with_reducible first|exact HB.out|apply bwA|apply bwN|apply bwD|refine bwS ?_ GE795.out|refine bwS ?_ GE796.out)|exact HB.out))))
      have n2_ := As_ (blk_below (g := gb795) (o := .cells #[.slice A0_0 l0_0.length c0_0,.int .i64 a0_1] 24 (0,0)) (by (with_reducible repeat (first|refine bkN ?_ _|refine bkD ?_|refine bkA ?_ _));exact BK795.out) hb)
      have n3_ := As_ (blk_below (g := gb796) (o := .cells #[.slice A1_0 l1_0.length c1_0,.int .i64 a1_1] 24 (0,0)) (by (with_reducible repeat (first|refine bkN ?_ _|refine bkD ?_|refine bkA ?_ _));exact BK796.out) hb)
      have n4_ := As_ (bwT (by repeat (first|(with_reducible first|exact HB.out|apply bwA|apply bwN|apply bwD|refine bwS ?_ GE795.out|refine bwS ?_ GE796.out)|exact HB.out)) hb)
      clear HO801
      clear BK795
      clear BK796
      clear HB
      have HO801 := n0_
      have HO805 := n1_
      have BK795 := n2_
      have BK796 := n3_
      have HB := n4_
      clear n0_ n1_ n2_ n3_ n4_
      (try clear hb)
      (try clear hb2)
      (try clear hk)
      (try clear hi)
      (try clear ho0)
      obtain ⟨Ao72,co72,eo72⟩ := Kd.S_slice HO801.out
      (first|subst eo72|(injection eo72 with f1_ f2_ f3_;have f4_ := f1_.symm;have f5_ := f3_.symm;clear f1_ f2_ f3_;subst f4_;subst f5_))
      obtain ⟨Ao73,co73,eo73⟩ := Kd.S_slice HO805.out
      (first|subst eo73|(injection eo73 with f1_ f2_ f3_;have f4_ := f1_.symm;have f5_ := f3_.symm;clear f1_ f2_ f3_;subst f4_;subst f5_))
      refine hK.out _ _ ⟨(bkC BK795.out 0).trans rfl,(bkC BK795.out 1).trans rfl,(bkC BK796.out 0).trans rfl,(bkC BK796.out 1).trans rfl⟩ (fun hHeld => ?_)
      clear hK K
      refine norm_ (a' := ?_) ?_ ?_
      rotate_left
      ·show Act.put _ (some 23) _ = _
       simp only [Act.put,sq_,i64_w,i32_w]
       rfl
      refine one_ (i := 4) (N := some 24) #[true,true,true,true,true,false] rfl rfl (by kernel_rfl) (by decide) (fun K hK => ?_)
      refine goes_ Try.func41 (by kernel_rfl) rfl #[.agg #[.slice Ao72 t799.length co72,.int .i64 t802],.agg #[.slice Ao73 t803.length co73,.int .i64 t806]] (by rfl) rfl rfl (by (try simp only [List.map_toArray,List.map_cons,List.map_nil]);first|done|rfl|(simp only [List.length_drop,List.length_take];rfl)) ?_
      with_reducible refine (spec_SameGraph.calls k _ _ t799 t802 _ _ t803 t806 t807 _ ?side1 ?side2 ?side3 ?side4 A21.out).mono ?_
      (case side1 => repeat (first|exact (Kd.S_reads' HO801.out).2.2|(with_reducible refine Kd.C_alloc ?_ _)|(with_reducible refine Kd.C_drewN ?_ _)|(with_reducible refine Kd.C_drew ?_)))
      (case side2 => exact (Kd.S_reads' HO801.out).2.1)
      (case side3 => repeat (first|exact (Kd.S_reads' HO805.out).2.2|(with_reducible refine Kd.C_alloc ?_ _)|(with_reducible refine Kd.C_drewN ?_ _)|(with_reducible refine Kd.C_drew ?_)))
      (case side4 => exact (Kd.S_reads' HO805.out).2.1)
      rintro e w74 ⟨rfl,hb⟩
      refine ⟨_,rfl,?_⟩
      have n0_ := As_ (Kd.S_below (by (with_reducible repeat (first|apply Kd.S_alloc|apply Kd.S_drewN|apply Kd.S_drew));exact HO801.out) hb)
      have n1_ := As_ (Kd.S_below (by (with_reducible repeat (first|apply Kd.S_alloc|apply Kd.S_drewN|apply Kd.S_drew));exact HO805.out) hb)
      have n2_ := As_ (blk_below (g := gb795) (o := .cells #[.slice A0_0 l0_0.length c0_0,.int .i64 a0_1] 24 (0,0)) (by (with_reducible repeat (first|refine bkN ?_ _|refine bkD ?_|refine bkA ?_ _));exact BK795.out) hb)
      have n3_ := As_ (blk_below (g := gb796) (o := .cells #[.slice A1_0 l1_0.length c1_0,.int .i64 a1_1] 24 (0,0)) (by (with_reducible repeat (first|refine bkN ?_ _|refine bkD ?_|refine bkA ?_ _));exact BK796.out) hb)
      have n4_ := As_ (bwT (by repeat (first|(with_reducible first|exact HB.out|apply bwA|apply bwN|apply bwD|refine bwS ?_ GE795.out|refine bwS ?_ GE796.out)|exact HB.out)) hb)
      clear HO801
      clear HO805
      clear BK795
      clear BK796
      clear HB
      have HO801 := n0_
      have HO805 := n1_
      have BK795 := n2_
      have BK796 := n3_
      have HB := n4_
      clear n0_ n1_ n2_ n3_ n4_
      (try clear hb)
      (try clear hb2)
      (try clear hk)
      (try clear hi)
      refine hK.out _ _ ⟨(bkC BK795.out 0).trans rfl,(bkC BK795.out 1).trans rfl,(bkC BK796.out 0).trans rfl,(bkC BK796.out 1).trans rfl⟩ (fun hHeld => ?_)
      clear hK K
      refine norm_ (a' := ?_) ?_ ?_
      rotate_left
      ·show Act.put _ (some 24) _ = _
       simp only [Act.put,sq_,i64_w,i32_w]
       rfl
      refine pure_ (i := 5) (N := some 6) (v := ?_) (a' := ?_) #[true,true,true,true,true,true] rfl rfl (by kernel_rfl) (fun _ _ _ h => h) (Or.inl ⟨by rfl,?_⟩) ?_ ?_;rotate_left;(intro w';go_simp;with_reducible rfl);rotate_left;(simp only [Act.put,sq_,i64_w,i32_w];rfl)
      refine done_ (by kernel_rfl) ?_
      have hcz75_0 : w74.cell? ⟨gb795,0,none⟩ = some (.slice A0_0 l0_0.length c0_0) := (bkC BK795.out 0).trans rfl
      have hcz75_1 : w74.cell? ⟨gb795,1,none⟩ = some (.int .i64 a0_1) := (bkC BK795.out 1).trans rfl
      have hfz75_0 := bkF BK795.out 0
      have hfz75_1 := bkF BK795.out 1
      try go_wp2_with (first|((with_reducible refine gate_callee (f := 17) rfl ?_);refine goesL_ (some 26) rfl rfl Try.func17 (by kernel_rfl) rfl #[.agg #[.slice A0_0 l0_0.length c0_0,.int .i64 a0_1]] rfl (by (try simp only [List.map_toArray,List.map_cons,List.map_nil]);first|done|rfl|(simp only [List.length_drop,List.length_take];rfl)) ?_;(with_reducible refine (laws_toGraph.calls k _ _ l0_0 a0_1 t808 t811 _ ?side1 ?side2 A22.out).mono ?_);(case side1 => repeat (first|exact (Kd.C_below HR0_0.out HB.out)|(with_reducible refine Kd.C_alloc ?_ _)|(with_reducible refine Kd.C_drewN ?_ _)|(with_reducible refine Kd.C_drew ?_)));(case side2 => exact HC0_0.out);rintro e w76 ⟨v809,rfl,ho0,hb⟩;refine ⟨_,rfl,?_⟩;have n0_ := As_ (Kd.S_elder' (by (with_reducible repeat (first|apply Kd.S_alloc|apply Kd.S_drewN|apply Kd.S_drew));exact HO801.out) (Kd.S_base ho0) hb);have n1_ := As_ (Kd.S_elder' (by (with_reducible repeat (first|apply Kd.S_alloc|apply Kd.S_drewN|apply Kd.S_drew));exact HO805.out) (Kd.S_base ho0) hb);have n2_ := As_ (Kd.S_lower (Kd.S_new' (Kd.S_new' ho0 (Kd.S_lt (by (with_reducible repeat (first|apply Kd.S_alloc|apply Kd.S_drewN|apply Kd.S_drew));exact HO801.out))) (Kd.S_lt (by (with_reducible repeat (first|apply Kd.S_alloc|apply Kd.S_drewN|apply Kd.S_drew));exact HO805.out))) (bwZ (by repeat (first|(with_reducible first|exact HB.out|apply bwA|apply bwN|apply bwD|refine bwS ?_ GE795.out|refine bwS ?_ GE796.out)|exact HB.out))));have n3_ := As_ (blk_below (g := gb795) (o := .cells #[.slice A0_0 l0_0.length c0_0,.int .i64 a0_1] 24 (0,0)) (by (with_reducible repeat (first|refine bkN ?_ _|refine bkD ?_|refine bkA ?_ _));exact BK795.out) hb);have n4_ := As_ (blk_below (g := gb796) (o := .cells #[.slice A1_0 l1_0.length c1_0,.int .i64 a1_1] 24 (0,0)) (by (with_reducible repeat (first|refine bkN ?_ _|refine bkD ?_|refine bkA ?_ _));exact BK796.out) hb);have n5_ := As_ (bwT (by repeat (first|(with_reducible first|exact HB.out|apply bwA|apply bwN|apply bwD|refine bwS ?_ GE795.out|refine bwS ?_ GE796.out)|exact HB.out)) hb);clear HO801;clear HO805;clear BK795;clear BK796;clear HB;have HO801 := n0_;have HO805 := n1_;have HO810 := n2_;have BK795 := n3_;have BK796 := n4_;have HB := n5_;clear n0_ n1_ n2_ n3_ n4_ n5_;(try clear hb);(try clear hb2);(try clear hk);(try clear hi);(try clear ho0))|((with_reducible refine gate_dst (N := 7) rfl ?_);refine box_event ?hg (N := 7) ?hd (cs := #[.slice none 0 0,.int .i64 0]) (t := 29) ?hr ?_;(case hd => rfl);(case hg => rfl);(case hr => go_simp <;> rfl);intro gb812 hg w77 hbox hb;have n0_ := As_ (Kd.S_below (by (with_reducible repeat (first|apply Kd.S_alloc|apply Kd.S_drewN|apply Kd.S_drew));exact HO801.out) hb);have n1_ := As_ (Kd.S_below (by (with_reducible repeat (first|apply Kd.S_alloc|apply Kd.S_drewN|apply Kd.S_drew));exact HO805.out) hb);have n2_ := As_ (Kd.S_below (by (with_reducible repeat (first|apply Kd.S_alloc|apply Kd.S_drewN|apply Kd.S_drew));exact HO810.out) hb);have n3_ := As_ (blk_below (g := gb795) (o := .cells #[.slice A0_0 l0_0.length c0_0,.int .i64 a0_1] 24 (0,0)) (by (with_reducible repeat (first|refine bkN ?_ _|refine bkD ?_|refine bkA ?_ _));exact BK795.out) hb);have n4_ := As_ (blk_below (g := gb796) (o := .cells #[.slice A1_0 l1_0.length c1_0,.int .i64 a1_1] 24 (0,0)) (by (with_reducible repeat (first|refine bkN ?_ _|refine bkD ?_|refine bkA ?_ _));exact BK796.out) hb);have n5_ := As_ (bwT (by repeat (first|(with_reducible first|exact HB.out|apply bwA|apply bwN|apply bwD|refine bwS ?_ GE795.out|refine bwS ?_ GE796.out)|exact HB.out)) hb);have n6_ := As_ (hbox);have n7_ := As_ ((by rw [hg];exact (bwZ (by repeat (first|(with_reducible first|exact HB.out|apply bwA|apply bwN|apply bwD|refine bwS ?_ GE795.out|refine bwS ?_ GE796.out)|exact HB.out))) : w.heap.size ≤ gb812));have n8_ := As_ ((by rw [hg];exact (bwZ (by repeat (first|(with_reducible first|exact HB.out|apply bwA|apply bwN|apply bwD|refine bwS ?_ GE795.out|refine bwS ?_ GE796.out)|exact HB.out))) : w.heap.size ≤ gb812));have n9_ := As_ ((by rw [hg];exact Nat.ne_of_lt (blk_lt (g := gb795) (o := .cells #[.slice A0_0 l0_0.length c0_0,.int .i64 a0_1] 24 (0,0)) (by (with_reducible repeat (first|refine bkN ?_ _|refine bkD ?_|refine bkA ?_ _));exact BK795.out)) : gb795 ≠ gb812));have n10_ := As_ ((by rw [hg];exact Nat.ne_of_gt (blk_lt (g := gb795) (o := .cells #[.slice A0_0 l0_0.length c0_0,.int .i64 a0_1] 24 (0,0)) (by (with_reducible repeat (first|refine bkN ?_ _|refine bkD ?_|refine bkA ?_ _));exact BK795.out)) : gb812 ≠ gb795));have n11_ := As_ ((by rw [hg];exact Nat.ne_of_lt (blk_lt (g := gb796) (o := .cells #[.slice A1_0 l1_0.length c1_0,.int .i64 a1_1] 24 (0,0)) (by (with_reducible repeat (first|refine bkN ?_ _|refine bkD ?_|refine bkA ?_ _));exact BK796.out)) : gb796 ≠ gb812));have n12_ := As_ ((by rw [hg];exact Nat.ne_of_gt (blk_lt (g := gb796) (o := .cells #[.slice A1_0 l1_0.length c1_0,.int .i64 a1_1] 24 (0,0)) (by (with_reducible repeat (first|refine bkN ?_ _|refine bkD ?_|refine bkA ?_ _));exact BK796.out)) : gb812 ≠ gb796));clear HO801;clear HO805;clear HO810;clear BK795;clear BK796;clear HB;have HO801 := n0_;have HO805 := n1_;have HO810 := n2_;have BK795 := n3_;have BK796 := n4_;have HB := n5_;have BK812 := n6_;have GW812 := n7_;have GE812 := n8_;have NB795_812 := n9_;have NB812_795 := n10_;have NB796_812 := n11_;have NB812_796 := n12_;clear n0_ n1_ n2_ n3_ n4_ n5_ n6_ n7_ n8_ n9_ n10_ n11_ n12_;clear hb hbox hg;obtain ⟨Ao78,co78,eo78⟩ := Kd.S_slice HO810.out;subst eo78;have hnb79 := NB812_795.out;have hnc79 := NB795_812.out;have hnb80 := NB812_796.out;have hnc80 := NB796_812.out;have hcz81_0 : w77.cell? ⟨gb812,0,none⟩ = some (.slice none 0 0) := (bkC BK812.out 0).trans rfl;have hcz81_1 : w77.cell? ⟨gb812,1,none⟩ = some (.int .i64 0) := (bkC BK812.out 1).trans rfl;have hfz81_0 := bkF BK812.out 0;have hfz81_1 := bkF BK812.out 1;have hcz82_0 : w77.cell? ⟨gb796,0,none⟩ = some (.slice A1_0 l1_0.length c1_0) := (bkC BK796.out 0).trans rfl;have hcz82_1 : w77.cell? ⟨gb796,1,none⟩ = some (.int .i64 a1_1) := (bkC BK796.out 1).trans rfl;have hfz82_0 := bkF BK796.out 0;have hfz82_1 := bkF BK796.out 1)|((with_reducible refine gate_callee (f := 17) rfl ?_);refine goesL_ (some 28) rfl rfl Try.func17 (by kernel_rfl) rfl #[.agg #[.slice A1_0 l1_0.length c1_0,.int .i64 a1_1]] rfl (by (try simp only [List.map_toArray,List.map_cons,List.map_nil]);first|done|rfl|(simp only [List.length_drop,List.length_take];rfl)) ?_;(with_reducible refine (laws_toGraph.calls k _ _ l1_0 a1_1 t813 t816 _ ?side1 ?side2 A23.out).mono ?_);(case side1 => exact Kd.C_below HR1_0.out (by repeat (first|(with_reducible first|exact HB.out|apply bwA|apply bwN|apply bwD|refine bwS ?_ GE795.out|refine bwS ?_ GE796.out|refine bwS ?_ GE812.out)|exact HB.out)));(case side2 => exact HC1_0.out);rintro e w83 ⟨v814,rfl,ho0,hb⟩;refine ⟨_,rfl,?_⟩;have n0_ := As_ (Kd.S_elder' (by (with_reducible repeat (first|apply Kd.S_alloc|apply Kd.S_drewN|apply Kd.S_drew));exact (Kd.S_mono (Kd.S_far (p := ⟨gb812,1,none⟩) (Kd.S_far (p := ⟨gb812,0,none⟩) (Kd.S_types HO801.out BK812.out (by decide)) (fun _ hk => hk.2) (.slice Ao78 t808.length co78)) (fun _ hk => hk.2) (.int .i64 t811)) (fun _ h_ => h_.1))) (Kd.S_base ho0) hb);have n1_ := As_ (Kd.S_elder' (by (with_reducible repeat (first|apply Kd.S_alloc|apply Kd.S_drewN|apply Kd.S_drew));exact (Kd.S_mono (Kd.S_far (p := ⟨gb812,1,none⟩) (Kd.S_far (p := ⟨gb812,0,none⟩) (Kd.S_types HO805.out BK812.out (by decide)) (fun _ hk => hk.2) (.slice Ao78 t808.length co78)) (fun _ hk => hk.2) (.int .i64 t811)) (fun _ h_ => h_.1))) (Kd.S_base ho0) hb);have n2_ := As_ (Kd.S_elder' (by (with_reducible repeat (first|apply Kd.S_alloc|apply Kd.S_drewN|apply Kd.S_drew));exact (Kd.S_mono (Kd.S_far (p := ⟨gb812,1,none⟩) (Kd.S_far (p := ⟨gb812,0,none⟩) (Kd.S_types HO810.out BK812.out (by decide)) (fun _ hk => hk.2) (.slice Ao78 t808.length co78)) (fun _ hk => hk.2) (.int .i64 t811)) (fun _ h_ => h_.1))) (Kd.S_base ho0) hb);have n3_ := As_ (Kd.S_lower (Kd.S_new' (Kd.S_new' (Kd.S_new' ho0 (Kd.S_lt (by (with_reducible repeat (first|apply Kd.S_alloc|apply Kd.S_drewN|apply Kd.S_drew));exact (Kd.S_mono (Kd.S_far (p := ⟨gb812,1,none⟩) (Kd.S_far (p := ⟨gb812,0,none⟩) (Kd.S_types HO801.out BK812.out (by decide)) (fun _ hk => hk.2) (.slice Ao78 t808.length co78)) (fun _ hk => hk.2) (.int .i64 t811)) (fun _ h_ => h_.1))))) (Kd.S_lt (by (with_reducible repeat (first|apply Kd.S_alloc|apply Kd.S_drewN|apply Kd.S_drew));exact (Kd.S_mono (Kd.S_far (p := ⟨gb812,1,none⟩) (Kd.S_far (p := ⟨gb812,0,none⟩) (Kd.S_types HO805.out BK812.out (by decide)) (fun _ hk => hk.2) (.slice Ao78 t808.length co78)) (fun _ hk => hk.2) (.int .i64 t811)) (fun _ h_ => h_.1))))) (Kd.S_lt (by (with_reducible repeat (first|apply Kd.S_alloc|apply Kd.S_drewN|apply Kd.S_drew));exact (Kd.S_mono (Kd.S_far (p := ⟨gb812,1,none⟩) (Kd.S_far (p := ⟨gb812,0,none⟩) (Kd.S_types HO810.out BK812.out (by decide)) (fun _ hk => hk.2) (.slice Ao78 t808.length co78)) (fun _ hk => hk.2) (.int .i64 t811)) (fun _ h_ => h_.1))))) (bwZ (by repeat (first|(with_reducible first|exact HB.out|apply bwA|apply bwN|apply bwD|refine bwS ?_ GE795.out|refine bwS ?_ GE796.out|refine bwS ?_ GE812.out)|exact HB.out))));have n4_ := As_ (blk_below (g := gb795) (o := .cells #[.slice A0_0 l0_0.length c0_0,.int .i64 a0_1] 24 (0,0)) (by (with_reducible repeat (first|refine bkN ?_ _|refine bkD ?_|refine bkA ?_ _));refine blk_far ?_ NB795_812.out _;(with_reducible repeat (first|refine bkN ?_ _|refine bkD ?_|refine bkA ?_ _));refine blk_far ?_ NB795_812.out _;(with_reducible repeat (first|refine bkN ?_ _|refine bkD ?_|refine bkA ?_ _));exact BK795.out) hb);have n5_ := As_ (blk_below (g := gb796) (o := .cells #[.slice A1_0 l1_0.length c1_0,.int .i64 a1_1] 24 (0,0)) (by (with_reducible repeat (first|refine bkN ?_ _|refine bkD ?_|refine bkA ?_ _));refine blk_far ?_ NB796_812.out _;(with_reducible repeat (first|refine bkN ?_ _|refine bkD ?_|refine bkA ?_ _));refine blk_far ?_ NB796_812.out _;(with_reducible repeat (first|refine bkN ?_ _|refine bkD ?_|refine bkA ?_ _));exact BK796.out) hb);have n6_ := As_ (blk_below (g := gb812) (o := .cells #[.slice Ao78 t808.length co78,.int .i64 t811] 29 (0,0)) (by (with_reducible repeat (first|refine bkN ?_ _|refine bkD ?_|refine bkA ?_ _));refine blk_put (cs := #[.slice Ao78 t808.length co78,.int .i64 0]) ?_ 1 _ rfl;(with_reducible repeat (first|refine bkN ?_ _|refine bkD ?_|refine bkA ?_ _));refine blk_put (cs := #[.slice none 0 0,.int .i64 0]) ?_ 0 _ rfl;(with_reducible repeat (first|refine bkN ?_ _|refine bkD ?_|refine bkA ?_ _));exact BK812.out) hb);have n7_ := As_ (bwT (by repeat (first|(with_reducible first|exact HB.out|apply bwA|apply bwN|apply bwD|refine bwS ?_ GE795.out|refine bwS ?_ GE796.out|refine bwS ?_ GE812.out)|exact HB.out)) hb);clear HO801;clear HO805;clear HO810;clear BK795;clear BK796;clear BK812;clear HB;have HO801 := n0_;have HO805 := n1_;have HO810 := n2_;have HO815 := n3_;have BK795 := n4_;have BK796 := n5_;have BK812 := n6_;have HB := n7_;clear n0_ n1_ n2_ n3_ n4_ n5_ n6_ n7_;(try clear hb);(try clear hb2);(try clear hk);(try clear hi);(try clear ho0))|((with_reducible refine gate_dst (N := 8) rfl ?_);refine box_event ?hg (N := 8) ?hd (cs := #[.slice none 0 0,.int .i64 0]) (t := 29) ?hr ?_;(case hd => rfl);(case hg => rfl);(case hr => go_simp <;> rfl);intro gb817 hg w84 hbox hb;have n0_ := As_ (Kd.S_below (by (with_reducible repeat (first|apply Kd.S_alloc|apply Kd.S_drewN|apply Kd.S_drew));exact HO801.out) hb);have n1_ := As_ (Kd.S_below (by (with_reducible repeat (first|apply Kd.S_alloc|apply Kd.S_drewN|apply Kd.S_drew));exact HO805.out) hb);have n2_ := As_ (Kd.S_below (by (with_reducible repeat (first|apply Kd.S_alloc|apply Kd.S_drewN|apply Kd.S_drew));exact HO810.out) hb);have n3_ := As_ (Kd.S_below (by (with_reducible repeat (first|apply Kd.S_alloc|apply Kd.S_drewN|apply Kd.S_drew));exact HO815.out) hb);have n4_ := As_ (blk_below (g := gb795) (o := .cells #[.slice A0_0 l0_0.length c0_0,.int .i64 a0_1] 24 (0,0)) (by (with_reducible repeat (first|refine bkN ?_ _|refine bkD ?_|refine bkA ?_ _));exact BK795.out) hb);have n5_ := As_ (blk_below (g := gb796) (o := .cells #[.slice A1_0 l1_0.length c1_0,.int .i64 a1_1] 24 (0,0)) (by (with_reducible repeat (first|refine bkN ?_ _|refine bkD ?_|refine bkA ?_ _));exact BK796.out) hb);have n6_ := As_ (blk_below (g := gb812) (o := .cells #[.slice Ao78 t808.length co78,.int .i64 t811] 29 (0,0)) (by (with_reducible repeat (first|refine bkN ?_ _|refine bkD ?_|refine bkA ?_ _));exact BK812.out) hb);have n7_ := As_ (bwT (by repeat (first|(with_reducible first|exact HB.out|apply bwA|apply bwN|apply bwD|refine bwS ?_ GE795.out|refine bwS ?_ GE796.out|refine bwS ?_ GE812.out)|exact HB.out)) hb);have n8_ := As_ (hbox);have n9_ := As_ ((by rw [hg];exact (bwZ (by repeat (first|(with_reducible first|exact HB.out|apply bwA|apply bwN|apply bwD|refine bwS ?_ GE795.out|refine bwS ?_ GE796.out|refine bwS ?_ GE812.out)|exact HB.out))) : w.heap.size ≤ gb817));have n10_ := As_ ((by rw [hg];exact (bwZ (by repeat (first|(with_reducible first|exact HB.out|apply bwA|apply bwN|apply bwD|refine bwS ?_ GE795.out|refine bwS ?_ GE796.out|refine bwS ?_ GE812.out)|exact HB.out))) : w.heap.size ≤ gb817));have n11_ := As_ ((by rw [hg];exact Nat.ne_of_lt (blk_lt (g := gb795) (o := .cells #[.slice A0_0 l0_0.length c0_0,.int .i64 a0_1] 24 (0,0)) (by (with_reducible repeat (first|refine bkN ?_ _|refine bkD ?_|refine bkA ?_ _));exact BK795.out)) : gb795 ≠ gb817));have n12_ := As_ ((by rw [hg];exact Nat.ne_of_gt (blk_lt (g := gb795) (o := .cells #[.slice A0_0 l0_0.length c0_0,.int .i64 a0_1] 24 (0,0)) (by (with_reducible repeat (first|refine bkN ?_ _|refine bkD ?_|refine bkA ?_ _));exact BK795.out)) : gb817 ≠ gb795));have n13_ := As_ ((by rw [hg];exact Nat.ne_of_lt (blk_lt (g := gb796) (o := .cells #[.slice A1_0 l1_0.length c1_0,.int .i64 a1_1] 24 (0,0)) (by (with_reducible repeat (first|refine bkN ?_ _|refine bkD ?_|refine bkA ?_ _));exact BK796.out)) : gb796 ≠ gb817));have n14_ := As_ ((by rw [hg];exact Nat.ne_of_gt (blk_lt (g := gb796) (o := .cells #[.slice A1_0 l1_0.length c1_0,.int .i64 a1_1] 24 (0,0)) (by (with_reducible repeat (first|refine bkN ?_ _|refine bkD ?_|refine bkA ?_ _));exact BK796.out)) : gb817 ≠ gb796));have n15_ := As_ ((by rw [hg];exact Nat.ne_of_lt (blk_lt (g := gb812) (o := .cells #[.slice Ao78 t808.length co78,.int .i64 t811] 29 (0,0)) (by (with_reducible repeat (first|refine bkN ?_ _|refine bkD ?_|refine bkA ?_ _));exact BK812.out)) : gb812 ≠ gb817));have n16_ := As_ ((by rw [hg];exact Nat.ne_of_gt (blk_lt (g := gb812) (o := .cells #[.slice Ao78 t808.length co78,.int .i64 t811] 29 (0,0)) (by (with_reducible repeat (first|refine bkN ?_ _|refine bkD ?_|refine bkA ?_ _));exact BK812.out)) : gb817 ≠ gb812));clear HO801;clear HO805;clear HO810;clear HO815;clear BK795;clear BK796;clear BK812;clear HB;have HO801 := n0_;have HO805 := n1_;have HO810 := n2_;have HO815 := n3_;have BK795 := n4_;have BK796 := n5_;have BK812 := n6_;have HB := n7_;have BK817 := n8_;have GW817 := n9_;have GE817 := n10_;have NB795_817 := n11_;have NB817_795 := n12_;have NB796_817 := n13_;have NB817_796 := n14_;have NB812_817 := n15_;have NB817_812 := n16_;clear n0_ n1_ n2_ n3_ n4_ n5_ n6_ n7_ n8_ n9_ n10_ n11_ n12_ n13_ n14_ n15_ n16_;clear hb hbox hg;obtain ⟨Ao85,co85,eo85⟩ := Kd.S_slice HO815.out;subst eo85;have hnb86 := NB817_795.out;have hnc86 := NB795_817.out;have hnb87 := NB817_796.out;have hnc87 := NB796_817.out;have hnb88 := NB817_812.out;have hnc88 := NB812_817.out;have hcz89_0 : w84.cell? ⟨gb817,0,none⟩ = some (.slice none 0 0) := (bkC BK817.out 0).trans rfl;have hcz89_1 : w84.cell? ⟨gb817,1,none⟩ = some (.int .i64 0) := (bkC BK817.out 1).trans rfl;have hfz89_0 := bkF BK817.out 0;have hfz89_1 := bkF BK817.out 1;have hcz90_0 : w84.cell? ⟨gb812,0,none⟩ = some (.slice Ao78 t808.length co78) := (bkC BK812.out 0).trans rfl;have hcz90_1 : w84.cell? ⟨gb812,1,none⟩ = some (.int .i64 t811) := (bkC BK812.out 1).trans rfl;have hfz90_0 := bkF BK812.out 0;have hfz90_1 := bkF BK812.out 1)|((with_reducible refine gate_callee (f := 27) rfl ?_);refine goesL_ (some 31) rfl rfl Try.func27 (by kernel_rfl) rfl #[.agg #[.slice Ao78 t808.length co78,.int .i64 t811],.agg #[.slice Ao85 t813.length co85,.int .i64 t816]] rfl (by (try simp only [List.map_toArray,List.map_cons,List.map_nil]);first|done|rfl|(simp only [List.length_drop,List.length_take];rfl)) ?_;(with_reducible refine (impl_SameGraph.calls k _ _ t808 t811 _ _ t813 t816 t818 _ ?side1 ?side2 ?side3 ?side4 A24.out).mono ?_);(case side1 => refine (Kd.S_reads' (e := 45) (base := w.heap.size) (ok := fun k_ => (((True ∧ some k_ ≠ (.slice Ao72 t799.length co72 : Value).ownBlock) ∧ some k_ ≠ (.slice Ao73 t803.length co73 : Value).ownBlock) ∧ some k_ ≠ (.slice Ao85 t813.length co85 : Value).ownBlock)) (n := t808.length) (c := co78) ?_).2.2;exact (by (with_reducible repeat (first|apply Kd.S_alloc|apply Kd.S_drewN|apply Kd.S_drew));exact (Kd.S_mono (Kd.S_far (p := ⟨gb817,1,none⟩) (Kd.S_far (p := ⟨gb817,0,none⟩) (Kd.S_types HO810.out BK817.out (by decide)) (fun _ hk => hk.2) (.slice Ao85 t813.length co85)) (fun _ hk => hk.2) (.int .i64 t816)) (fun _ h_ => h_.1))));(case side2 => exact (Kd.S_reads' HO810.out).2.1);(case side3 => refine (Kd.S_reads' (e := 45) (base := w.heap.size) (ok := fun k_ => (((True ∧ some k_ ≠ (.slice Ao72 t799.length co72 : Value).ownBlock) ∧ some k_ ≠ (.slice Ao73 t803.length co73 : Value).ownBlock) ∧ some k_ ≠ (.slice Ao78 t808.length co78 : Value).ownBlock)) (n := t813.length) (c := co85) ?_).2.2;exact (by (with_reducible repeat (first|apply Kd.S_alloc|apply Kd.S_drewN|apply Kd.S_drew));exact (Kd.S_mono (Kd.S_far (p := ⟨gb817,1,none⟩) (Kd.S_far (p := ⟨gb817,0,none⟩) (Kd.S_types HO815.out BK817.out (by decide)) (fun _ hk => hk.2) (.slice Ao85 t813.length co85)) (fun _ hk => hk.2) (.int .i64 t816)) (fun _ h_ => h_.1))));(case side4 => exact (Kd.S_reads' HO815.out).2.1);rintro e w91 ⟨rfl,hb⟩;refine ⟨_,rfl,?_⟩;have n0_ := As_ (Kd.S_below (by (with_reducible repeat (first|apply Kd.S_alloc|apply Kd.S_drewN|apply Kd.S_drew));exact (Kd.S_mono (Kd.S_far (p := ⟨gb817,1,none⟩) (Kd.S_far (p := ⟨gb817,0,none⟩) (Kd.S_types HO801.out BK817.out (by decide)) (fun _ hk => hk.2) (.slice Ao85 t813.length co85)) (fun _ hk => hk.2) (.int .i64 t816)) (fun _ h_ => h_.1))) hb);have n1_ := As_ (Kd.S_below (by (with_reducible repeat (first|apply Kd.S_alloc|apply Kd.S_drewN|apply Kd.S_drew));exact (Kd.S_mono (Kd.S_far (p := ⟨gb817,1,none⟩) (Kd.S_far (p := ⟨gb817,0,none⟩) (Kd.S_types HO805.out BK817.out (by decide)) (fun _ hk => hk.2) (.slice Ao85 t813.length co85)) (fun _ hk => hk.2) (.int .i64 t816)) (fun _ h_ => h_.1))) hb);have n2_ := As_ (Kd.S_below (by (with_reducible repeat (first|apply Kd.S_alloc|apply Kd.S_drewN|apply Kd.S_drew));exact (Kd.S_mono (Kd.S_far (p := ⟨gb817,1,none⟩) (Kd.S_far (p := ⟨gb817,0,none⟩) (Kd.S_types HO810.out BK817.out (by decide)) (fun _ hk => hk.2) (.slice Ao85 t813.length co85)) (fun _ hk => hk.2) (.int .i64 t816)) (fun _ h_ => h_.1))) hb);have n3_ := As_ (Kd.S_below (by (with_reducible repeat (first|apply Kd.S_alloc|apply Kd.S_drewN|apply Kd.S_drew));exact (Kd.S_mono (Kd.S_far (p := ⟨gb817,1,none⟩) (Kd.S_far (p := ⟨gb817,0,none⟩) (Kd.S_types HO815.out BK817.out (by decide)) (fun _ hk => hk.2) (.slice Ao85 t813.length co85)) (fun _ hk => hk.2) (.int .i64 t816)) (fun _ h_ => h_.1))) hb);have n4_ := As_ (blk_below (g := gb795) (o := .cells #[.slice A0_0 l0_0.length c0_0,.int .i64 a0_1] 24 (0,0)) (by (with_reducible repeat (first|refine bkN ?_ _|refine bkD ?_|refine bkA ?_ _));refine blk_far ?_ NB795_817.out _;(with_reducible repeat (first|refine bkN ?_ _|refine bkD ?_|refine bkA ?_ _));refine blk_far ?_ NB795_817.out _;(with_reducible repeat (first|refine bkN ?_ _|refine bkD ?_|refine bkA ?_ _));exact BK795.out) hb);have n5_ := As_ (blk_below (g := gb796) (o := .cells #[.slice A1_0 l1_0.length c1_0,.int .i64 a1_1] 24 (0,0)) (by (with_reducible repeat (first|refine bkN ?_ _|refine bkD ?_|refine bkA ?_ _));refine blk_far ?_ NB796_817.out _;(with_reducible repeat (first|refine bkN ?_ _|refine bkD ?_|refine bkA ?_ _));refine blk_far ?_ NB796_817.out _;(with_reducible repeat (first|refine bkN ?_ _|refine bkD ?_|refine bkA ?_ _));exact BK796.out) hb);have n6_ := As_ (blk_below (g := gb812) (o := .cells #[.slice Ao78 t808.length co78,.int .i64 t811] 29 (0,0)) (by (with_reducible repeat (first|refine bkN ?_ _|refine bkD ?_|refine bkA ?_ _));refine blk_far ?_ NB812_817.out _;(with_reducible repeat (first|refine bkN ?_ _|refine bkD ?_|refine bkA ?_ _));refine blk_far ?_ NB812_817.out _;(with_reducible repeat (first|refine bkN ?_ _|refine bkD ?_|refine bkA ?_ _));exact BK812.out) hb);have n7_ := As_ (blk_below (g := gb817) (o := .cells #[.slice Ao85 t813.length co85,.int .i64 t816] 29 (0,0)) (by (with_reducible repeat (first|refine bkN ?_ _|refine bkD ?_|refine bkA ?_ _));refine blk_put (cs := #[.slice Ao85 t813.length co85,.int .i64 0]) ?_ 1 _ rfl;(with_reducible repeat (first|refine bkN ?_ _|refine bkD ?_|refine bkA ?_ _));refine blk_put (cs := #[.slice none 0 0,.int .i64 0]) ?_ 0 _ rfl;(with_reducible repeat (first|refine bkN ?_ _|refine bkD ?_|refine bkA ?_ _));exact BK817.out) hb);have n8_ := As_ (bwT (by repeat (first|(with_reducible first|exact HB.out|apply bwA|apply bwN|apply bwD|refine bwS ?_ GE795.out|refine bwS ?_ GE796.out|refine bwS ?_ GE812.out|refine bwS ?_ GE817.out)|exact HB.out)) hb);clear HO801;clear HO805;clear HO810;clear HO815;clear BK795;clear BK796;clear BK812;clear BK817;clear HB;have HO801 := n0_;have HO805 := n1_;have HO810 := n2_;have HO815 := n3_;have BK795 := n4_;have BK796 := n5_;have BK812 := n6_;have BK817 := n7_;have HB := n8_;clear n0_ n1_ n2_ n3_ n4_ n5_ n6_ n7_ n8_;(try clear hb);(try clear hb2);(try clear hk);(try clear hi)))
      have n0_ := As_ (Kd.S_drew HO801.out)
      have n1_ := As_ (Kd.S_drew HO805.out)
      have n2_ := As_ (Kd.S_drew HO810.out)
      have n3_ := As_ (Kd.S_drew HO815.out)
      have n4_ := As_ (bkD BK795.out)
      have n5_ := As_ (bkD BK796.out)
      have n6_ := As_ (bkD BK812.out)
      have n7_ := As_ (bkD BK817.out)
      have n8_ := As_ (bwD HB.out)
      clear HO801
      clear HO805
      clear HO810
      clear HO815
      clear BK795
      clear BK796
      clear BK812
      clear BK817
      clear HB
      have HO801 := n0_
      have HO805 := n1_
      have HO810 := n2_
      have HO815 := n3_
      have BK795 := n4_
      have BK796 := n5_
      have BK812 := n6_
      have BK817 := n7_
      have HB := n8_
      clear n0_ n1_ n2_ n3_ n4_ n5_ n6_ n7_ n8_
      refine start_ (n := 5) (S := fun w' => w'.cell? ⟨gb812,0,none⟩ = some (.slice Ao78 t808.length co78) ∧ w'.cell? ⟨gb812,1,none⟩ = some (.int .i64 t811) ∧ w'.cell? ⟨gb795,0,none⟩ = some (.slice A0_0 l0_0.length c0_0) ∧ w'.cell? ⟨gb795,1,none⟩ = some (.int .i64 a0_1)) (ds := []) #[false,false,false,false,false] (by kernel_rfl) rfl rfl ⟨(bkC BK812.out 0).trans rfl,(bkC BK812.out 1).trans rfl,(bkC BK795.out 0).trans rfl,(bkC BK795.out 1).trans rfl⟩ (fun hHeld => ?_)
      generalize w91.drew = w92 at HO801 HO805 HO810 HO815 BK795 BK796 BK812 BK817 HB hHeld ⊢
      refine take_ (i := 0) (N := some 35) (v := ?_) (a' := ?_) #[true,false,false,false,false] rfl rfl (by kernel_rfl) (fun _ _ _ h => h) (Or.inl ⟨by rfl,?_⟩) hHeld ?_ ?_;rotate_left;(rintro w' ⟨s0,s1,s2,s3⟩;go_simp;with_reducible rfl);rotate_left;(simp only [Act.put,sq_,i64_w,i32_w];rfl)
      refine take_ (i := 1) (N := some 36) (v := ?_) (a' := ?_) #[true,true,false,false,false] rfl rfl (by kernel_rfl) (fun _ _ _ h => h) (Or.inl ⟨by rfl,?_⟩) hHeld ?_ ?_;rotate_left;(rintro w' ⟨s0,s1,s2,s3⟩;go_simp;with_reducible rfl);rotate_left;(simp only [Act.put,sq_,i64_w,i32_w];rfl)
      refine one_ (i := 2) (N := some 37) #[true,true,true,false,false] rfl rfl (by kernel_rfl) (by decide) (fun K hK => ?_)
      refine goes_ Try.func17 (by kernel_rfl) rfl #[.agg #[.slice A0_0 l0_0.length c0_0,.int .i64 a0_1]] (by rfl) rfl rfl (by (try simp only [List.map_toArray,List.map_cons,List.map_nil]);first|done|rfl|(simp only [List.length_drop,List.length_take];rfl)) ?_
      with_reducible refine (laws_toGraph.calls k _ _ l0_0 a0_1 t819 t822 _ ?side1 ?side2 A56.out).mono ?_
      (case side1 => repeat (first|exact (Kd.C_below HR0_0.out HB.out)|(with_reducible refine Kd.C_alloc ?_ _)|(with_reducible refine Kd.C_drewN ?_ _)|(with_reducible refine Kd.C_drew ?_)))
      (case side2 => exact HC0_0.out)
      rintro e w93 ⟨v820,rfl,ho0,hb⟩
      refine ⟨_,rfl,?_⟩
      have n0_ := As_ (Kd.S_elder' (by (with_reducible repeat (first|apply Kd.S_alloc|apply Kd.S_drewN|apply Kd.S_drew));exact HO801.out) (Kd.S_base ho0) hb)
      have n1_ := As_ (Kd.S_elder' (by (with_reducible repeat (first|apply Kd.S_alloc|apply Kd.S_drewN|apply Kd.S_drew));exact HO805.out) (Kd.S_base ho0) hb)
      have n2_ := As_ (Kd.S_elder' (by (with_reducible repeat (first|apply Kd.S_alloc|apply Kd.S_drewN|apply Kd.S_drew));exact HO810.out) (Kd.S_base ho0) hb)
      have n3_ := As_ (Kd.S_elder' (by (with_reducible repeat (first|apply Kd.S_alloc|apply Kd.S_drewN|apply Kd.S_drew));exact HO815.out) (Kd.S_base ho0) hb)
      have n4_ := As_ (Kd.S_lower (Kd.S_new' (Kd.S_new' (Kd.S_new' (Kd.S_new' ho0 (Kd.S_lt (by (with_reducible repeat (first|apply Kd.S_alloc|apply Kd.S_drewN|apply Kd.S_drew));exact HO801.out))) (Kd.S_lt (by (with_reducible repeat (first|apply Kd.S_alloc|apply Kd.S_drewN|apply Kd.S_drew));exact HO805.out))) (Kd.S_lt (by (with_reducible repeat (first|apply Kd.S_alloc|apply Kd.S_drewN|apply Kd.S_drew));exact HO810.out))) (Kd.S_lt (by (with_reducible repeat (first|apply Kd.S_alloc|apply Kd.S_drewN|apply Kd.S_drew));exact HO815.out))) (bwZ (by repeat (first|(with_reducible first|exact HB.out|apply bwA|apply bwN|apply bwD|refine bwS ?_ GE795.out|refine bwS ?_ GE796.out|refine bwS ?_ GE812.out|refine bwS ?_ GE817.out)|exact HB.out))))
      have n5_ := As_ (blk_below (g := gb795) (o := .cells #[.slice A0_0 l0_0.length c0_0,.int .i64 a0_1] 24 (0,0)) (by (with_reducible repeat (first|refine bkN ?_ _|refine bkD ?_|refine bkA ?_ _));exact BK795.out) hb)
      have n6_ := As_ (blk_below (g := gb796) (o := .cells #[.slice A1_0 l1_0.length c1_0,.int .i64 a1_1] 24 (0,0)) (by (with_reducible repeat (first|refine bkN ?_ _|refine bkD ?_|refine bkA ?_ _));exact BK796.out) hb)
      have n7_ := As_ (blk_below (g := gb812) (o := .cells #[.slice Ao78 t808.length co78,.int .i64 t811] 29 (0,0)) (by (with_reducible repeat (first|refine bkN ?_ _|refine bkD ?_|refine bkA ?_ _));exact BK812.out) hb)
      have n8_ := As_ (blk_below (g := gb817) (o := .cells #[.slice Ao85 t813.length co85,.int .i64 t816] 29 (0,0)) (by (with_reducible repeat (first|refine bkN ?_ _|refine bkD ?_|refine bkA ?_ _));exact BK817.out) hb)
      have n9_ := As_ (bwT (by repeat (first|(with_reducible first|exact HB.out|apply bwA|apply bwN|apply bwD|refine bwS ?_ GE795.out|refine bwS ?_ GE796.out|refine bwS ?_ GE812.out|refine bwS ?_ GE817.out)|exact HB.out)) hb)
      clear HO801
      clear HO805
      clear HO810
      clear HO815
      clear BK795
      clear BK796
      clear BK812
      clear BK817
      clear HB
      have HO801 := n0_
      have HO805 := n1_
      have HO810 := n2_
      have HO815 := n3_
      have HO821 := n4_
      have BK795 := n5_
      have BK796 := n6_
      have BK812 := n7_
      have BK817 := n8_
      have HB := n9_
      clear n0_ n1_ n2_ n3_ n4_ n5_ n6_ n7_ n8_ n9_
      (try clear hb)
      (try clear hb2)
      (try clear hk)
      (try clear hi)
      (try clear ho0)
      obtain ⟨Ao94,co94,eo94⟩ := Kd.S_slice HO821.out
      (first|subst eo94|(injection eo94 with f1_ f2_ f3_;have f4_ := f1_.symm;have f5_ := f3_.symm;clear f1_ f2_ f3_;subst f4_;subst f5_))
      refine hK.out _ _ ⟨(bkC BK812.out 0).trans rfl,(bkC BK812.out 1).trans rfl,(bkC BK795.out 0).trans rfl,(bkC BK795.out 1).trans rfl⟩ (fun hHeld => ?_)
      clear hK K
      refine norm_ (a' := ?_) ?_ ?_
      rotate_left
      ·show Act.put _ (some 37) _ = _
       simp only [Act.put,sq_,i64_w,i32_w]
       rfl
      refine one_ (i := 3) (N := some 38) #[true,true,true,true,false] rfl rfl (by kernel_rfl) (by decide) (fun K hK => ?_)
      refine goes_ Try.func19 (by kernel_rfl) rfl #[.agg #[.slice Ao78 t808.length co78,.int .i64 t811],.agg #[.slice Ao94 t819.length co94,.int .i64 t822]] (by rfl) rfl rfl (by (try simp only [List.map_toArray,List.map_cons,List.map_nil]);first|done|rfl|(simp only [List.length_drop,List.length_take];rfl)) ?_
      with_reducible refine (laws_eqGraph.calls k _ _ t808 t811 _ _ t819 t822 true _ ?side1 ?side2 ?side3 ?side4 A57.out).mono ?_
      (case side1 => repeat (first|exact (Kd.S_reads' HO810.out).2.2|(with_reducible refine Kd.C_alloc ?_ _)|(with_reducible refine Kd.C_drewN ?_ _)|(with_reducible refine Kd.C_drew ?_)))
      (case side2 => exact (Kd.S_reads' HO810.out).2.1)
      (case side3 => repeat (first|exact (Kd.S_reads' HO821.out).2.2|(with_reducible refine Kd.C_alloc ?_ _)|(with_reducible refine Kd.C_drewN ?_ _)|(with_reducible refine Kd.C_drew ?_)))
      (case side4 => exact (Kd.S_reads' HO821.out).2.1)
      rintro e w95 ⟨rfl,hb⟩
      refine ⟨_,rfl,?_⟩
      have n0_ := As_ (Kd.S_below (by (with_reducible repeat (first|apply Kd.S_alloc|apply Kd.S_drewN|apply Kd.S_drew));exact HO801.out) hb)
      have n1_ := As_ (Kd.S_below (by (with_reducible repeat (first|apply Kd.S_alloc|apply Kd.S_drewN|apply Kd.S_drew));exact HO805.out) hb)
      have n2_ := As_ (Kd.S_below (by (with_reducible repeat (first|apply Kd.S_alloc|apply Kd.S_drewN|apply Kd.S_drew));exact HO810.out) hb)
      have n3_ := As_ (Kd.S_below (by (with_reducible repeat (first|apply Kd.S_alloc|apply Kd.S_drewN|apply Kd.S_drew));exact HO815.out) hb)
      have n4_ := As_ (Kd.S_below (by (with_reducible repeat (first|apply Kd.S_alloc|apply Kd.S_drewN|apply Kd.S_drew));exact HO821.out) hb)
      have n5_ := As_ (blk_below (g := gb795) (o := .cells #[.slice A0_0 l0_0.length c0_0,.int .i64 a0_1] 24 (0,0)) (by (with_reducible repeat (first|refine bkN ?_ _|refine bkD ?_|refine bkA ?_ _));exact BK795.out) hb)
      have n6_ := As_ (blk_below (g := gb796) (o := .cells #[.slice A1_0 l1_0.length c1_0,.int .i64 a1_1] 24 (0,0)) (by (with_reducible repeat (first|refine bkN ?_ _|refine bkD ?_|refine bkA ?_ _));exact BK796.out) hb)
      have n7_ := As_ (blk_below (g := gb812) (o := .cells #[.slice Ao78 t808.length co78,.int .i64 t811] 29 (0,0)) (by (with_reducible repeat (first|refine bkN ?_ _|refine bkD ?_|refine bkA ?_ _));exact BK812.out) hb)
      have n8_ := As_ (blk_below (g := gb817) (o := .cells #[.slice Ao85 t813.length co85,.int .i64 t816] 29 (0,0)) (by (with_reducible repeat (first|refine bkN ?_ _|refine bkD ?_|refine bkA ?_ _));exact BK817.out) hb)
      have n9_ := As_ (bwT (by repeat (first|(with_reducible first|exact HB.out|apply bwA|apply bwN|apply bwD|refine bwS ?_ GE795.out|refine bwS ?_ GE796.out|refine bwS ?_ GE812.out|refine bwS ?_ GE817.out)|exact HB.out)) hb)
      clear HO801
      clear HO805
      clear HO810
      clear HO815
      clear HO821
      clear BK795
      clear BK796
      clear BK812
      clear BK817
      clear HB
      have HO801 := n0_
      have HO805 := n1_
      have HO810 := n2_
      have HO815 := n3_
      have HO821 := n4_
      have BK795 := n5_
      have BK796 := n6_
      have BK812 := n7_
      have BK817 := n8_
      have HB := n9_
      clear n0_ n1_ n2_ n3_ n4_ n5_ n6_ n7_ n8_ n9_
      (try clear hb)
      (try clear hb2)
      (try clear hk)
      (try clear hi)
      refine hK.out _ _ ⟨(bkC BK812.out 0).trans rfl,(bkC BK812.out 1).trans rfl,(bkC BK795.out 0).trans rfl,(bkC BK795.out 1).trans rfl⟩ (fun hHeld => ?_)
      clear hK K
      refine norm_ (a' := ?_) ?_ ?_
      rotate_left
      ·show Act.put _ (some 38) _ = _
       simp only [Act.put,sq_,i64_w,i32_w]
       rfl
      refine pure_ (i := 4) (N := some 39) (v := ?_) (a' := ?_) #[true,true,true,true,true] rfl rfl (by kernel_rfl) (fun _ _ _ h => h) (Or.inl ⟨by rfl,?_⟩) ?_ ?_;rotate_left;(intro w';go_simp;with_reducible rfl);rotate_left;(simp only [Act.put,sq_,i64_w,i32_w];rfl)
      refine done_ (by kernel_rfl) ?_
      try go_wp2
      have n0_ := As_ (Kd.S_drew HO801.out)
      have n1_ := As_ (Kd.S_drew HO805.out)
      have n2_ := As_ (Kd.S_drew HO810.out)
      have n3_ := As_ (Kd.S_drew HO815.out)
      have n4_ := As_ (Kd.S_drew HO821.out)
      have n5_ := As_ (bkD BK795.out)
      have n6_ := As_ (bkD BK796.out)
      have n7_ := As_ (bkD BK812.out)
      have n8_ := As_ (bkD BK817.out)
      have n9_ := As_ (bwD HB.out)
      clear HO801
      clear HO805
      clear HO810
      clear HO815
      clear HO821
      clear BK795
      clear BK796
      clear BK812
      clear BK817
      clear HB
      have HO801 := n0_
      have HO805 := n1_
      have HO810 := n2_
      have HO815 := n3_
      have HO821 := n4_
      have BK795 := n5_
      have BK796 := n6_
      have BK812 := n7_
      have BK817 := n8_
      have HB := n9_
      clear n0_ n1_ n2_ n3_ n4_ n5_ n6_ n7_ n8_ n9_
      refine start_ (n := 5) (S := fun w' => w'.cell? ⟨gb817,0,none⟩ = some (.slice Ao85 t813.length co85) ∧ w'.cell? ⟨gb817,1,none⟩ = some (.int .i64 t816) ∧ w'.cell? ⟨gb796,0,none⟩ = some (.slice A1_0 l1_0.length c1_0) ∧ w'.cell? ⟨gb796,1,none⟩ = some (.int .i64 a1_1)) (ds := []) #[false,false,false,false,false] (by kernel_rfl) rfl rfl ⟨(bkC BK817.out 0).trans rfl,(bkC BK817.out 1).trans rfl,(bkC BK796.out 0).trans rfl,(bkC BK796.out 1).trans rfl⟩ (fun hHeld => ?_)
      generalize w95.drew = w96 at HO801 HO805 HO810 HO815 HO821 BK795 BK796 BK812 BK817 HB hHeld ⊢
      refine take_ (i := 0) (N := some 40) (v := ?_) (a' := ?_) #[true,false,false,false,false] rfl rfl (by kernel_rfl) (fun _ _ _ h => h) (Or.inl ⟨by rfl,?_⟩) hHeld ?_ ?_;rotate_left;(rintro w' ⟨s0,s1,s2,s3⟩;go_simp;with_reducible rfl);rotate_left;(simp only [Act.put,sq_,i64_w,i32_w];rfl)
      refine take_ (i := 1) (N := some 41) (v := ?_) (a' := ?_) #[true,true,false,false,false] rfl rfl (by kernel_rfl) (fun _ _ _ h => h) (Or.inl ⟨by rfl,?_⟩) hHeld ?_ ?_;rotate_left;(rintro w' ⟨s0,s1,s2,s3⟩;go_simp;with_reducible rfl);rotate_left;(simp only [Act.put,sq_,i64_w,i32_w];rfl)
      refine one_ (i := 2) (N := some 42) #[true,true,true,false,false] rfl rfl (by kernel_rfl) (by decide) (fun K hK => ?_)
      refine goes_ Try.func17 (by kernel_rfl) rfl #[.agg #[.slice A1_0 l1_0.length c1_0,.int .i64 a1_1]] (by rfl) rfl rfl (by (try simp only [List.map_toArray,List.map_cons,List.map_nil]);first|done|rfl|(simp only [List.length_drop,List.length_take];rfl)) ?_
      with_reducible refine (laws_toGraph.calls k _ _ l1_0 a1_1 t824 t827 _ ?side1 ?side2 A59.out).mono ?_
      (case side1 => repeat (first|exact (Kd.C_below HR1_0.out HB.out)|(with_reducible refine Kd.C_alloc ?_ _)|(with_reducible refine Kd.C_drewN ?_ _)|(with_reducible refine Kd.C_drew ?_)))
      (case side2 => exact HC1_0.out)
      rintro e w97 ⟨v825,rfl,ho0,hb⟩
      refine ⟨_,rfl,?_⟩
      have n0_ := As_ (Kd.S_elder' (by (with_reducible repeat (first|apply Kd.S_alloc|apply Kd.S_drewN|apply Kd.S_drew));exact HO801.out) (Kd.S_base ho0) hb)
      have n1_ := As_ (Kd.S_elder' (by (with_reducible repeat (first|apply Kd.S_alloc|apply Kd.S_drewN|apply Kd.S_drew));exact HO805.out) (Kd.S_base ho0) hb)
      have n2_ := As_ (Kd.S_elder' (by (with_reducible repeat (first|apply Kd.S_alloc|apply Kd.S_drewN|apply Kd.S_drew));exact HO810.out) (Kd.S_base ho0) hb)
      have n3_ := As_ (Kd.S_elder' (by (with_reducible repeat (first|apply Kd.S_alloc|apply Kd.S_drewN|apply Kd.S_drew));exact HO815.out) (Kd.S_base ho0) hb)
      have n4_ := As_ (Kd.S_elder' (by (with_reducible repeat (first|apply Kd.S_alloc|apply Kd.S_drewN|apply Kd.S_drew));exact HO821.out) (Kd.S_base ho0) hb)
      have n5_ := As_ (Kd.S_lower (Kd.S_new' (Kd.S_new' (Kd.S_new' (Kd.S_new' (Kd.S_new' ho0 (Kd.S_lt (by (with_reducible repeat (first|apply Kd.S_alloc|apply Kd.S_drewN|apply Kd.S_drew));exact HO801.out))) (Kd.S_lt (by (with_reducible repeat (first|apply Kd.S_alloc|apply Kd.S_drewN|apply Kd.S_drew));exact HO805.out))) (Kd.S_lt (by (with_reducible repeat (first|apply Kd.S_alloc|apply Kd.S_drewN|apply Kd.S_drew));exact HO810.out))) (Kd.S_lt (by (with_reducible repeat (first|apply Kd.S_alloc|apply Kd.S_drewN|apply Kd.S_drew));exact HO815.out))) (Kd.S_lt (by (with_reducible repeat (first|apply Kd.S_alloc|apply Kd.S_drewN|apply Kd.S_drew));exact HO821.out))) (bwZ (by repeat (first|(with_reducible first|exact HB.out|apply bwA|apply bwN|apply bwD|refine bwS ?_ GE795.out|refine bwS ?_ GE796.out|refine bwS ?_ GE812.out|refine bwS ?_ GE817.out)|exact HB.out))))
      have n6_ := As_ (blk_below (g := gb795) (o := .cells #[.slice A0_0 l0_0.length c0_0,.int .i64 a0_1] 24 (0,0)) (by (with_reducible repeat (first|refine bkN ?_ _|refine bkD ?_|refine bkA ?_ _));exact BK795.out) hb)
      have n7_ := As_ (blk_below (g := gb796) (o := .cells #[.slice A1_0 l1_0.length c1_0,.int .i64 a1_1] 24 (0,0)) (by (with_reducible repeat (first|refine bkN ?_ _|refine bkD ?_|refine bkA ?_ _));exact BK796.out) hb)
      have n8_ := As_ (blk_below (g := gb812) (o := .cells #[.slice Ao78 t808.length co78,.int .i64 t811] 29 (0,0)) (by (with_reducible repeat (first|refine bkN ?_ _|refine bkD ?_|refine bkA ?_ _));exact BK812.out) hb)
      have n9_ := As_ (blk_below (g := gb817) (o := .cells #[.slice Ao85 t813.length co85,.int .i64 t816] 29 (0,0)) (by (with_reducible repeat (first|refine bkN ?_ _|refine bkD ?_|refine bkA ?_ _));exact BK817.out) hb)
      have n10_ := As_ (bwT (by repeat (first|(with_reducible first|exact HB.out|apply bwA|apply bwN|apply bwD|refine bwS ?_ GE795.out|refine bwS ?_ GE796.out|refine bwS ?_ GE812.out|refine bwS ?_ GE817.out)|exact HB.out)) hb)
      clear HO801
      clear HO805
      clear HO810
      clear HO815
      clear HO821
      clear BK795
      clear BK796
      clear BK812
      clear BK817
      clear HB
      have HO801 := n0_
      have HO805 := n1_
      have HO810 := n2_
      have HO815 := n3_
      have HO821 := n4_
      have HO826 := n5_
      have BK795 := n6_
      have BK796 := n7_
      have BK812 := n8_
      have BK817 := n9_
      have HB := n10_
      clear n0_ n1_ n2_ n3_ n4_ n5_ n6_ n7_ n8_ n9_ n10_
      (try clear hb)
      (try clear hb2)
      (try clear hk)
      (try clear hi)
      (try clear ho0)
      obtain ⟨Ao98,co98,eo98⟩ := Kd.S_slice HO826.out
      (first|subst eo98|(injection eo98 with f1_ f2_ f3_;have f4_ := f1_.symm;have f5_ := f3_.symm;clear f1_ f2_ f3_;subst f4_;subst f5_))
      refine hK.out _ _ ⟨(bkC BK817.out 0).trans rfl,(bkC BK817.out 1).trans rfl,(bkC BK796.out 0).trans rfl,(bkC BK796.out 1).trans rfl⟩ (fun hHeld => ?_)
      clear hK K
      refine norm_ (a' := ?_) ?_ ?_
      rotate_left
      ·show Act.put _ (some 42) _ = _
       simp only [Act.put,sq_,i64_w,i32_w]
       rfl
      refine one_ (i := 3) (N := some 43) #[true,true,true,true,false] rfl rfl (by kernel_rfl) (by decide) (fun K hK => ?_)
      refine goes_ Try.func19 (by kernel_rfl) rfl #[.agg #[.slice Ao85 t813.length co85,.int .i64 t816],.agg #[.slice Ao98 t824.length co98,.int .i64 t827]] (by rfl) rfl rfl (by (try simp only [List.map_toArray,List.map_cons,List.map_nil]);first|done|rfl|(simp only [List.length_drop,List.length_take];rfl)) ?_
      with_reducible refine (laws_eqGraph.calls k _ _ t813 t816 _ _ t824 t827 true _ ?side1 ?side2 ?side3 ?side4 A60.out).mono ?_
      (case side1 => repeat (first|exact (Kd.S_reads' HO815.out).2.2|(with_reducible refine Kd.C_alloc ?_ _)|(with_reducible refine Kd.C_drewN ?_ _)|(with_reducible refine Kd.C_drew ?_)))
      (case side2 => exact (Kd.S_reads' HO815.out).2.1)
      (case side3 => repeat (first|exact (Kd.S_reads' HO826.out).2.2|(with_reducible refine Kd.C_alloc ?_ _)|(with_reducible refine Kd.C_drewN ?_ _)|(with_reducible refine Kd.C_drew ?_)))
      (case side4 => exact (Kd.S_reads' HO826.out).2.1)
      rintro e w99 ⟨rfl,hb⟩
      refine ⟨_,rfl,?_⟩
      have n0_ := As_ (Kd.S_below (by (with_reducible repeat (first|apply Kd.S_alloc|apply Kd.S_drewN|apply Kd.S_drew));exact HO801.out) hb)
      have n1_ := As_ (Kd.S_below (by (with_reducible repeat (first|apply Kd.S_alloc|apply Kd.S_drewN|apply Kd.S_drew));exact HO805.out) hb)
      have n2_ := As_ (Kd.S_below (by (with_reducible repeat (first|apply Kd.S_alloc|apply Kd.S_drewN|apply Kd.S_drew));exact HO810.out) hb)
      have n3_ := As_ (Kd.S_below (by (with_reducible repeat (first|apply Kd.S_alloc|apply Kd.S_drewN|apply Kd.S_drew));exact HO815.out) hb)
      have n4_ := As_ (Kd.S_below (by (with_reducible repeat (first|apply Kd.S_alloc|apply Kd.S_drewN|apply Kd.S_drew));exact HO821.out) hb)
      have n5_ := As_ (Kd.S_below (by (with_reducible repeat (first|apply Kd.S_alloc|apply Kd.S_drewN|apply Kd.S_drew));exact HO826.out) hb)
      have n6_ := As_ (blk_below (g := gb795) (o := .cells #[.slice A0_0 l0_0.length c0_0,.int .i64 a0_1] 24 (0,0)) (by (with_reducible repeat (first|refine bkN ?_ _|refine bkD ?_|refine bkA ?_ _));exact BK795.out) hb)
      have n7_ := As_ (blk_below (g := gb796) (o := .cells #[.slice A1_0 l1_0.length c1_0,.int .i64 a1_1] 24 (0,0)) (by (with_reducible repeat (first|refine bkN ?_ _|refine bkD ?_|refine bkA ?_ _));exact BK796.out) hb)
      have n8_ := As_ (blk_below (g := gb812) (o := .cells #[.slice Ao78 t808.length co78,.int .i64 t811] 29 (0,0)) (by (with_reducible repeat (first|refine bkN ?_ _|refine bkD ?_|refine bkA ?_ _));exact BK812.out) hb)
      have n9_ := As_ (blk_below (g := gb817) (o := .cells #[.slice Ao85 t813.length co85,.int .i64 t816] 29 (0,0)) (by (with_reducible repeat (first|refine bkN ?_ _|refine bkD ?_|refine bkA ?_ _));exact BK817.out) hb)
      have n10_ := As_ (bwT (by repeat (first|(with_reducible first|exact HB.out|apply bwA|apply bwN|apply bwD|refine bwS ?_ GE795.out|refine bwS ?_ GE796.out|refine bwS ?_ GE812.out|refine bwS ?_ GE817.out)|exact HB.out)) hb)
      clear HO801
      clear HO805
      clear HO810
      clear HO815
      clear HO821
      clear HO826
      clear BK795
      clear BK796
      clear BK812
      clear BK817
      clear HB
      have HO801 := n0_
      have HO805 := n1_
      have HO810 := n2_
      have HO815 := n3_
      have HO821 := n4_
      have HO826 := n5_
      have BK795 := n6_
      have BK796 := n7_
      have BK812 := n8_
      have BK817 := n9_
      have HB := n10_
      clear n0_ n1_ n2_ n3_ n4_ n5_ n6_ n7_ n8_ n9_ n10_
      (try clear hb)
      (try clear hb2)
      (try clear hk)
      (try clear hi)
      refine hK.out _ _ ⟨(bkC BK817.out 0).trans rfl,(bkC BK817.out 1).trans rfl,(bkC BK796.out 0).trans rfl,(bkC BK796.out 1).trans rfl⟩ (fun hHeld => ?_)
      clear hK K
      refine norm_ (a' := ?_) ?_ ?_
      rotate_left
      ·show Act.put _ (some 43) _ = _
       simp only [Act.put,sq_,i64_w,i32_w]
       rfl
      refine pure_ (i := 4) (N := some 44) (v := ?_) (a' := ?_) #[true,true,true,true,true] rfl rfl (by kernel_rfl) (fun _ _ _ h => h) (Or.inl ⟨by rfl,?_⟩) ?_ ?_;rotate_left;(intro w';go_simp;with_reducible rfl);rotate_left;(simp only [Act.put,sq_,i64_w,i32_w];rfl)
      refine done_ (by kernel_rfl) ?_
      try go_wp2
      go_ret
      exact ⟨by first|rfl|(simp [errW_none,errW_some] <;> rfl)|(simp [*,errW_none,errW_some] <;> rfl),by repeat (first|(with_reducible first|exact HB.out|apply bwA|apply bwN|apply bwD|refine bwS ?_ GE795.out|refine bwS ?_ GE796.out|refine bwS ?_ GE812.out|refine bwS ?_ GE817.out)|exact HB.out)⟩
     ·replace c61 := Bool.eq_false_iff.mpr c61
      subst c61
      have H1 : (none) = some r := by rw [if_neg (show ¬ (false = true) by decide)] at H;exact H
      clear H
      have H := H1
      clear H1
      exact absurd H (by simp)
    ·replace c58 := Bool.eq_false_iff.mpr c58
     subst c58
     have H1 : (none) = some r := by rw [if_neg (show ¬ (false = true) by decide)] at H;exact H
     clear H
     have H := H1
     clear H1
     exact absurd H (by simp)

/-- THE ONE PURE STATEMENT of laws_FnExactSameGraph. -/
def laws_FnExactSameGraph.Pure : Prop := ∀ (l0_0 : List (S74)) (a0_1 : Int) (l1_0 : List (S74)) (a1_1 : Int),(l0_0.length ≤ maxLen ∧ (∀ x_ ∈ l0_0,(Lit.int .i64 x_.f0).wf = true ∧ (Lit.int .i64 x_.f1).wf = true ∧ x_.f2.length ≤ maxLen ∧ (∀ xx_ ∈ x_.f2,(Lit.int .i64 xx_).wf = true))) → ((Lit.int .i64 a0_1).wf = true) → (l1_0.length ≤ maxLen ∧ (∀ x_ ∈ l1_0,(Lit.int .i64 x_.f0).wf = true ∧ (Lit.int .i64 x_.f1).wf = true ∧ x_.f2.length ≤ maxLen ∧ (∀ xx_ ∈ x_.f2,(Lit.int .i64 xx_).wf = true))) → ((Lit.int .i64 a1_1).wf = true) → ∃ k,laws_FnExactSameGraph.f k l0_0 a0_1 l1_0 a1_1 = some true
theorem laws_FnExactSameGraph.walk (P : laws_FnExactSameGraph.Pure) (A0_0 : Option Addr) (c0_0 : Nat) (l0_0 : List (S74)) (a0_1 : Int) (A1_0 : Option Addr) (c1_0 : Nat) (l1_0 : List (S74)) (a1_1 : Int) (w : World) (hr0_0 : Kd.C k74 w A0_0 l0_0.length l0_0) (hc0_0 : l0_0.length ≤ c0_0) (hr1_0 : Kd.C k74 w A1_0 l1_0.length l1_0) (hc1_0 : l1_0.length ≤ c1_0) (hg0 : l0_0.length ≤ maxLen ∧ (∀ x_ ∈ l0_0,(Lit.int .i64 x_.f0).wf = true ∧ (Lit.int .i64 x_.f1).wf = true ∧ x_.f2.length ≤ maxLen ∧ (∀ xx_ ∈ x_.f2,(Lit.int .i64 xx_).wf = true))) (hg1 : (Lit.int .i64 a0_1).wf = true) (hg2 : l1_0.length ≤ maxLen ∧ (∀ x_ ∈ l1_0,(Lit.int .i64 x_.f0).wf = true ∧ (Lit.int .i64 x_.f1).wf = true ∧ x_.f2.length ≤ maxLen ∧ (∀ xx_ ∈ x_.f2,(Lit.int .i64 xx_).wf = true))) (hg3 : (Lit.int .i64 a1_1).wf = true) :
  Calls Try.prog 11 #[.agg #[.slice A0_0 l0_0.length c0_0,.int .i64 a0_1],.agg #[.slice A1_0 l1_0.length c1_0,.int .i64 a1_1]] w fun e w' => e = .returned (.bool true) ∧ Below w.heap.size w w' := by
 obtain ⟨k,h⟩ := P l0_0 a0_1 l1_0 a1_1 hg0 hg1 hg2 hg3
 refine (laws_FnExactSameGraph.calls k _ _ l0_0 a0_1 _ _ l1_0 a1_1 true w hr0_0 hc0_0 hr1_0 hc1_0 h).mono ?_
 rintro e w' ⟨rfl,hd⟩
 exact ⟨rfl,hd⟩

end Go.Proofs.Ytfhakhbmbnbneaa.Q
