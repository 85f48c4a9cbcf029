-- Written by wip/tools/qprint.py (a program of this claim's author) by means of the kit's printer.
import Derived.Test.YtfhakhbmbnbneaaQ0
import Derived.Test.YtfhakhbmbnbneaaQ18
import Derived.Test.YtfhakhbmbnbneaaQ38
import Derived.Test.YtfhakhbmbnbneaaQ50
import Derived.Test.YtfhakhbmbnbneaaQ99
namespace Go.Proofs.Ytfhakhbmbnbneaa.Q
open Go.RowKit Go.Proofs.YtfhakhbmbnbneaaW.PrintWords Go.Proofs.YtfhakhbmbnbneaaW.PrintLast Go.Proofs.YtfhakhbmbnbneaaW.PrintMore
attribute [local go_sem] max2_int min2_int max_two min_two max_three min_three max_four min_four   -- for this text's walks alone
set_option linter.unusedVariables false
set_option linter.unusedSimpArgs false

/-! ### laws_FnExactEqualDeep: function 3 -/
def laws_FnExactEqualDeep.f (k : Nat) (l0_0 : List (S74)) (a0_1 : Int) (l1_0 : List (S74)) (a1_1 : Int) : Option (Bool) := (laws_szGraph.f k l0_0 a0_1 1048576).bind fun t369 => (if t369 < 0 then (some true) else ((laws_szGraph.f k l1_0 a1_1 t369).bind fun t370 => (if t370 < 0 then (some true) else ((laws_toGraph.f k l0_0 a0_1).bind fun bt371 => ((laws_toGraph.f k l1_0 a1_1).bind fun bt375 => ((spec_EqualDeep.f k bt371.1 bt371.2 bt375.1 bt375.2).bind fun t379 => ((laws_toGraph.f k l0_0 a0_1).bind fun bt380 => ((laws_toGraph.f k l1_0 a1_1).bind fun bt385 => ((impl_EqualDeep.f k bt380.1 bt380.2 bt385.1 bt385.2).bind fun t390 => (if (t390 != t379) = true then (none) else ((laws_toGraph.f k l0_0 a0_1).bind fun bt391 => ((laws_eqGraph.f k bt380.1 bt380.2 bt391.1 bt391.2).bind fun t395 => (if t395 = true then ((laws_toGraph.f k l1_0 a1_1).bind fun bt396 => ((laws_eqGraph.f k bt385.1 bt385.2 bt396.1 bt396.2).bind fun t400 => (if t400 = true then (some true) else (none)))) else (none))))))))))))))
set_option maxHeartbeats 8000000 in
set_option maxRecDepth 100000 in
theorem laws_FnExactEqualDeep.calls (k : Nat) (A0_0 : Option Addr) (c0_0 : Nat) (l0_0 : List (S74)) (a0_1 : Int) (A1_0 : Option Addr) (c1_0 : Nat) (l1_0 : List (S74)) (a1_1 : Int) (r : Bool) (w : World) (hr0_0 : Kd.C k74 w A0_0 l0_0.length l0_0) (hc0_0 : l0_0.length ≤ c0_0) (hr1_0 : Kd.C k74 w A1_0 l1_0.length l1_0) (hc1_0 : l1_0.length ≤ c1_0) (h : laws_FnExactEqualDeep.f k l0_0 a0_1 l1_0 a1_1 = some r) :
  Calls Try.prog 3 #[.agg #[.slice A0_0 l0_0.length c0_0,.int .i64 a0_1],.agg #[.slice A1_0 l1_0.length c1_0,.int .i64 a1_1]] w fun e w' => e = .returned (.bool r) ∧ Below w.heap.size w w' := by
 have hu24 := Try.underlying24
 have hu29 := Try.underlying29
 have HR0_0 := As_ hr0_0
 have HC0_0 := As_ hc0_0
 clear hr0_0 hc0_0
 have HR1_0 := As_ hr1_0
 have HC1_0 := As_ hc1_0
 clear hr1_0 hc1_0
 have HB := As_ (Below.refl w.heap.size w)
 have H : ((laws_szGraph.f k l0_0 a0_1 1048576).bind fun t369 => (if t369 < 0 then (some true) else ((laws_szGraph.f k l1_0 a1_1 t369).bind fun t370 => (if t370 < 0 then (some true) else ((laws_toGraph.f k l0_0 a0_1).bind fun bt371 => ((laws_toGraph.f k l1_0 a1_1).bind fun bt375 => ((spec_EqualDeep.f k bt371.1 bt371.2 bt375.1 bt375.2).bind fun t379 => ((laws_toGraph.f k l0_0 a0_1).bind fun bt380 => ((laws_toGraph.f k l1_0 a1_1).bind fun bt385 => ((impl_EqualDeep.f k bt380.1 bt380.2 bt385.1 bt385.2).bind fun t390 => (if (t390 != t379) = true then (none) else ((laws_toGraph.f k l0_0 a0_1).bind fun bt391 => ((laws_eqGraph.f k bt380.1 bt380.2 bt391.1 bt391.2).bind fun t395 => (if t395 = true then ((laws_toGraph.f k l1_0 a1_1).bind fun bt396 => ((laws_eqGraph.f k bt385.1 bt385.2 bt396.1 bt396.2).bind fun t400 => (if t400 = true then (some true) else (none)))) else (none))))))))))))))) = some r := h
 clear h
 replace H := obS H
 obtain ⟨t369,A30,H⟩ := H
 replace H : (if t369 < 0 then (some true) else ((laws_szGraph.f k l1_0 a1_1 t369).bind fun t370 => (if t370 < 0 then (some true) else ((laws_toGraph.f k l0_0 a0_1).bind fun bt371 => ((laws_toGraph.f k l1_0 a1_1).bind fun bt375 => ((spec_EqualDeep.f k bt371.1 bt371.2 bt375.1 bt375.2).bind fun t379 => ((laws_toGraph.f k l0_0 a0_1).bind fun bt380 => ((laws_toGraph.f k l1_0 a1_1).bind fun bt385 => ((impl_EqualDeep.f k bt380.1 bt380.2 bt385.1 bt385.2).bind fun t390 => (if (t390 != t379) = true then (none) else ((laws_toGraph.f k l0_0 a0_1).bind fun bt391 => ((laws_eqGraph.f k bt380.1 bt380.2 bt391.1 bt391.2).bind fun t395 => (if t395 = true then ((laws_toGraph.f k l1_0 a1_1).bind fun bt396 => ((laws_eqGraph.f k bt385.1 bt385.2 bt396.1 bt396.2).bind fun t400 => (if t400 = true then (some true) else (none)))) else (none)))))))))))))) = some r := H
 have A3 := As_ A30
 clear A30
 by_cases c4 : t369 < 0
 ·rw [if_pos c4] at H
  have c4b0 : decide (t369 < 0) = true := deT c4
  clear c4
  obtain rfl := Option.some.inj H
  go_enter Try.func3,Try.ntmps3
  go_wp2_with (first|((with_reducible refine gate_dst (N := 2) rfl ?_);refine box_event ?hg (N := 2) ?hd (cs := #[.slice A0_0 l0_0.length c0_0,.int .i64 a0_1]) (t := 24) ?hr ?_;(case hd => rfl);(case hg => rfl);(case hr => go_simp <;> rfl);intro gb367 hg w5 hbox hb;have n0_ := As_ (bwT (zb0 HB.out) hb);have n1_ := As_ (hbox);have n2_ := As_ ((by rw [hg];exact (bwZ (zb0 HB.out)) : w.heap.size ≤ gb367));have n3_ := As_ ((by rw [hg];exact (bwZ (zb0 HB.out)) : w.heap.size ≤ gb367));clear HB;have HB := n0_;have BK367 := n1_;have GW367 := n2_;have GE367 := n3_;clear n0_ n1_ n2_ n3_;clear hb hbox hg)|((with_reducible refine gate_dst (N := 3) rfl ?_);refine box_event ?hg (N := 3) ?hd (cs := #[.slice A1_0 l1_0.length c1_0,.int .i64 a1_1]) (t := 24) ?hr ?_;(case hd => rfl);(case hg => rfl);(case hr => go_simp <;> rfl);intro gb368 hg w6 hbox hb;have n0_ := As_ (zkb BK367.out hb);have n1_ := As_ (bwT (zb1 HB.out GE367.out) hb);have n2_ := As_ (hbox);have n3_ := As_ ((by rw [hg];exact (bwZ (zb1 HB.out GE367.out)) : w.heap.size ≤ gb368));have n4_ := As_ ((by rw [hg];exact (bwZ (zb1 HB.out GE367.out)) : w.heap.size ≤ gb368));have n5_ := As_ ((by rw [hg];exact Nat.ne_of_lt (zkl BK367.out) : gb367 ≠ gb368));have n6_ := As_ ((by rw [hg];exact Nat.ne_of_gt (zkl BK367.out) : gb368 ≠ gb367));clear BK367;clear HB;have BK367 := n0_;have HB := n1_;have BK368 := n2_;have GW368 := n3_;have GE368 := n4_;have NB367_368 := n5_;have NB368_367 := n6_;clear n0_ n1_ n2_ n3_ n4_ n5_ n6_;clear hb hbox hg;have hnb7 := NB367_368.out;have hnc7 := NB368_367.out;have hcz8_0 : w6.cell? ⟨gb367,0,none⟩ = some (.slice A0_0 l0_0.length c0_0) := (bkC BK367.out 0).trans rfl;have hcz8_1 : w6.cell? ⟨gb367,1,none⟩ = some (.int .i64 a0_1) := (bkC BK367.out 1).trans rfl;have hfz8_0 := bkF BK367.out 0;have hfz8_1 := bkF BK367.out 1)|((with_reducible refine gate_callee (f := 15) rfl ?_);refine goesL_ (some 12) rfl rfl Try.func15 (by kernel_rfl) rfl #[.agg #[.slice A0_0 l0_0.length c0_0,.int .i64 a0_1],.int .i64 1048576] rfl zM_ ?_;(with_reducible refine (laws_szGraph.calls k _ _ l0_0 a0_1 1048576 t369 _ ?side1 ?side2 A3.out).mono ?_);(case side1 => repeat (first|exact (Kd.C_below HR0_0.out HB.out)|(with_reducible refine Kd.C_alloc ?_ _)|(with_reducible refine Kd.C_drewN ?_ _)|(with_reducible refine Kd.C_drew ?_)));(case side2 => exact HC0_0.out);rintro e w9 ⟨rfl,hb⟩;refine ⟨_,rfl,?_⟩;have n0_ := As_ (zkb BK367.out hb);have n1_ := As_ (zkb BK368.out hb);have n2_ := As_ (bwT (zb2 HB.out GE367.out GE368.out) hb);clear BK367;clear BK368;clear HB;have BK367 := n0_;have BK368 := n1_;have HB := n2_;clear n0_ n1_ n2_;(try clear hb);(try clear hb2);(try clear hk);(try clear hi)))
  go_ret
  exact ⟨by first|rfl|(simp [errW_none,errW_some] <;> rfl)|(simp [*,errW_none,errW_some] <;> rfl),by repeat (first|(with_reducible first|exact HB.out|apply bwA|apply bwN|apply bwD|refine bwS ?_ GE367.out|refine bwS ?_ GE368.out)|exact HB.out)⟩
 ·rw [if_neg c4] at H
  have c4b0 : decide (t369 < 0) = false := deF c4
  clear c4
  replace H := obS H
  obtain ⟨t370,A100,H⟩ := H
  replace H : (if t370 < 0 then (some true) else ((laws_toGraph.f k l0_0 a0_1).bind fun bt371 => ((laws_toGraph.f k l1_0 a1_1).bind fun bt375 => ((spec_EqualDeep.f k bt371.1 bt371.2 bt375.1 bt375.2).bind fun t379 => ((laws_toGraph.f k l0_0 a0_1).bind fun bt380 => ((laws_toGraph.f k l1_0 a1_1).bind fun bt385 => ((impl_EqualDeep.f k bt380.1 bt380.2 bt385.1 bt385.2).bind fun t390 => (if (t390 != t379) = true then (none) else ((laws_toGraph.f k l0_0 a0_1).bind fun bt391 => ((laws_eqGraph.f k bt380.1 bt380.2 bt391.1 bt391.2).bind fun t395 => (if t395 = true then ((laws_toGraph.f k l1_0 a1_1).bind fun bt396 => ((laws_eqGraph.f k bt385.1 bt385.2 bt396.1 bt396.2).bind fun t400 => (if t400 = true then (some true) else (none)))) else (none)))))))))))) = some r := H
  have A10 := As_ A100
  clear A100
  by_cases c11 : t370 < 0
  ·rw [if_pos c11] at H
   have c11b0 : decide (t370 < 0) = true := deT c11
   clear c11
   obtain rfl := Option.some.inj H
   go_enter Try.func3,Try.ntmps3
   go_wp2_with (first|((with_reducible refine gate_dst (N := 2) rfl ?_);refine box_event ?hg (N := 2) ?hd (cs := #[.slice A0_0 l0_0.length c0_0,.int .i64 a0_1]) (t := 24) ?hr ?_;(case hd => rfl);(case hg => rfl);(case hr => go_simp <;> rfl);intro gb367 hg w12 hbox hb;have n0_ := As_ (bwT (zb0 HB.out) hb);have n1_ := As_ (hbox);have n2_ := As_ ((by rw [hg];exact (bwZ (zb0 HB.out)) : w.heap.size ≤ gb367));have n3_ := As_ ((by rw [hg];exact (bwZ (zb0 HB.out)) : w.heap.size ≤ gb367));clear HB;have HB := n0_;have BK367 := n1_;have GW367 := n2_;have GE367 := n3_;clear n0_ n1_ n2_ n3_;clear hb hbox hg)|((with_reducible refine gate_dst (N := 3) rfl ?_);refine box_event ?hg (N := 3) ?hd (cs := #[.slice A1_0 l1_0.length c1_0,.int .i64 a1_1]) (t := 24) ?hr ?_;(case hd => rfl);(case hg => rfl);(case hr => go_simp <;> rfl);intro gb368 hg w13 hbox hb;have n0_ := As_ (zkb BK367.out hb);have n1_ := As_ (bwT (zb1 HB.out GE367.out) hb);have n2_ := As_ (hbox);have n3_ := As_ ((by rw [hg];exact (bwZ (zb1 HB.out GE367.out)) : w.heap.size ≤ gb368));have n4_ := As_ ((by rw [hg];exact (bwZ (zb1 HB.out GE367.out)) : w.heap.size ≤ gb368));have n5_ := As_ ((by rw [hg];exact Nat.ne_of_lt (zkl BK367.out) : gb367 ≠ gb368));have n6_ := As_ ((by rw [hg];exact Nat.ne_of_gt (zkl BK367.out) : gb368 ≠ gb367));clear BK367;clear HB;have BK367 := n0_;have HB := n1_;have BK368 := n2_;have GW368 := n3_;have GE368 := n4_;have NB367_368 := n5_;have NB368_367 := n6_;clear n0_ n1_ n2_ n3_ n4_ n5_ n6_;clear hb hbox hg;have hnb14 := NB367_368.out;have hnc14 := NB368_367.out;have hcz15_0 : w13.cell? ⟨gb367,0,none⟩ = some (.slice A0_0 l0_0.length c0_0) := (bkC BK367.out 0).trans rfl;have hcz15_1 : w13.cell? ⟨gb367,1,none⟩ = some (.int .i64 a0_1) := (bkC BK367.out 1).trans rfl;have hfz15_0 := bkF BK367.out 0;have hfz15_1 := bkF BK367.out 1)|((with_reducible refine gate_callee (f := 15) rfl ?_);refine goesL_ (some 12) rfl rfl Try.func15 (by kernel_rfl) rfl #[.agg #[.slice A0_0 l0_0.length c0_0,.int .i64 a0_1],.int .i64 1048576] rfl zM_ ?_;(with_reducible refine (laws_szGraph.calls k _ _ l0_0 a0_1 1048576 t369 _ ?side1 ?side2 A3.out).mono ?_);(case side1 => repeat (first|exact (Kd.C_below HR0_0.out HB.out)|(with_reducible refine Kd.C_alloc ?_ _)|(with_reducible refine Kd.C_drewN ?_ _)|(with_reducible refine Kd.C_drew ?_)));(case side2 => exact HC0_0.out);rintro e w16 ⟨rfl,hb⟩;refine ⟨_,rfl,?_⟩;have n0_ := As_ (zkb BK367.out hb);have n1_ := As_ (zkb BK368.out hb);have n2_ := As_ (bwT (zb2 HB.out GE367.out GE368.out) hb);clear BK367;clear BK368;clear HB;have BK367 := n0_;have BK368 := n1_;have HB := n2_;clear n0_ n1_ n2_;(try clear hb);(try clear hb2);(try clear hk);(try clear hi);have hcz17_0 : w16.cell? ⟨gb368,0,none⟩ = some (.slice A1_0 l1_0.length c1_0) := (bkC BK368.out 0).trans rfl;have hcz17_1 : w16.cell? ⟨gb368,1,none⟩ = some (.int .i64 a1_1) := (bkC BK368.out 1).trans rfl;have hfz17_0 := bkF BK368.out 0;have hfz17_1 := bkF BK368.out 1)|((with_reducible refine gate_callee (f := 15) rfl ?_);refine goesL_ (some 17) rfl rfl Try.func15 (by kernel_rfl) rfl #[.agg #[.slice A1_0 l1_0.length c1_0,.int .i64 a1_1],.int .i64 t369] rfl zM_ ?_;(with_reducible refine (laws_szGraph.calls k _ _ l1_0 a1_1 t369 t370 _ ?side1 ?side2 A10.out).mono ?_);(case side1 => repeat (first|exact (Kd.C_below HR1_0.out HB.out)|(with_reducible refine Kd.C_alloc ?_ _)|(with_reducible refine Kd.C_drewN ?_ _)|(with_reducible refine Kd.C_drew ?_)));(case side2 => exact HC1_0.out);rintro e w18 ⟨rfl,hb⟩;refine ⟨_,rfl,?_⟩;have n0_ := As_ (zkb BK367.out hb);have n1_ := As_ (zkb BK368.out hb);have n2_ := As_ (bwT (zb2 HB.out GE367.out GE368.out) hb);clear BK367;clear BK368;clear HB;have BK367 := n0_;have BK368 := n1_;have HB := n2_;clear n0_ n1_ n2_;(try clear hb);(try clear hb2);(try clear hk);(try clear hi)))
   go_ret
   exact ⟨by first|rfl|(simp [errW_none,errW_some] <;> rfl)|(simp [*,errW_none,errW_some] <;> rfl),by repeat (first|(with_reducible first|exact HB.out|apply bwA|apply bwN|apply bwD|refine bwS ?_ GE367.out|refine bwS ?_ GE368.out)|exact HB.out)⟩
  ·rw [if_neg c11] at H
   have c11b0 : decide (t370 < 0) = false := deF c11
   clear c11
   replace H := obS H
   obtain ⟨⟨t371,t374⟩,A190,H⟩ := H
   replace H : ((laws_toGraph.f k l1_0 a1_1).bind fun bt375 => ((spec_EqualDeep.f k t371 t374 bt375.1 bt375.2).bind fun t379 => ((laws_toGraph.f k l0_0 a0_1).bind fun bt380 => ((laws_toGraph.f k l1_0 a1_1).bind fun bt385 => ((impl_EqualDeep.f k bt380.1 bt380.2 bt385.1 bt385.2).bind fun t390 => (if (t390 != t379) = true then (none) else ((laws_toGraph.f k l0_0 a0_1).bind fun bt391 => ((laws_eqGraph.f k bt380.1 bt380.2 bt391.1 bt391.2).bind fun t395 => (if t395 = true then ((laws_toGraph.f k l1_0 a1_1).bind fun bt396 => ((laws_eqGraph.f k bt385.1 bt385.2 bt396.1 bt396.2).bind fun t400 => (if t400 = true then (some true) else (none)))) else (none)))))))))) = some r := H
   have A19 := As_ A190
   clear A190
   replace H := obS H
   obtain ⟨⟨t375,t378⟩,A200,H⟩ := H
   replace H : ((spec_EqualDeep.f k t371 t374 t375 t378).bind fun t379 => ((laws_toGraph.f k l0_0 a0_1).bind fun bt380 => ((laws_toGraph.f k l1_0 a1_1).bind fun bt385 => ((impl_EqualDeep.f k bt380.1 bt380.2 bt385.1 bt385.2).bind fun t390 => (if (t390 != t379) = true then (none) else ((laws_toGraph.f k l0_0 a0_1).bind fun bt391 => ((laws_eqGraph.f k bt380.1 bt380.2 bt391.1 bt391.2).bind fun t395 => (if t395 = true then ((laws_toGraph.f k l1_0 a1_1).bind fun bt396 => ((laws_eqGraph.f k bt385.1 bt385.2 bt396.1 bt396.2).bind fun t400 => (if t400 = true then (some true) else (none)))) else (none))))))))) = some r := H
   have A20 := As_ A200
   clear A200
   replace H := obS H
   obtain ⟨t379,A210,H⟩ := H
   replace H : ((laws_toGraph.f k l0_0 a0_1).bind fun bt380 => ((laws_toGraph.f k l1_0 a1_1).bind fun bt385 => ((impl_EqualDeep.f k bt380.1 bt380.2 bt385.1 bt385.2).bind fun t390 => (if (t390 != t379) = true then (none) else ((laws_toGraph.f k l0_0 a0_1).bind fun bt391 => ((laws_eqGraph.f k bt380.1 bt380.2 bt391.1 bt391.2).bind fun t395 => (if t395 = true then ((laws_toGraph.f k l1_0 a1_1).bind fun bt396 => ((laws_eqGraph.f k bt385.1 bt385.2 bt396.1 bt396.2).bind fun t400 => (if t400 = true then (some true) else (none)))) else (none)))))))) = some r := H
   have A21 := As_ A210
   clear A210
   replace H := obS H
   obtain ⟨⟨t380,t383⟩,A220,H⟩ := H
   replace H : ((laws_toGraph.f k l1_0 a1_1).bind fun bt385 => ((impl_EqualDeep.f k t380 t383 bt385.1 bt385.2).bind fun t390 => (if (t390 != t379) = true then (none) else ((laws_toGraph.f k l0_0 a0_1).bind fun bt391 => ((laws_eqGraph.f k t380 t383 bt391.1 bt391.2).bind fun t395 => (if t395 = true then ((laws_toGraph.f k l1_0 a1_1).bind fun bt396 => ((laws_eqGraph.f k bt385.1 bt385.2 bt396.1 bt396.2).bind fun t400 => (if t400 = true then (some true) else (none)))) else (none))))))) = some r := H
   have A22 := As_ A220
   clear A220
   replace H := obS H
   obtain ⟨⟨t385,t388⟩,A230,H⟩ := H
   replace H : ((impl_EqualDeep.f k t380 t383 t385 t388).bind fun t390 => (if (t390 != t379) = true then (none) else ((laws_toGraph.f k l0_0 a0_1).bind fun bt391 => ((laws_eqGraph.f k t380 t383 bt391.1 bt391.2).bind fun t395 => (if t395 = true then ((laws_toGraph.f k l1_0 a1_1).bind fun bt396 => ((laws_eqGraph.f k t385 t388 bt396.1 bt396.2).bind fun t400 => (if t400 = true then (some true) else (none)))) else (none)))))) = some r := H
   have A23 := As_ A230
   clear A230
   replace H := obS H
   obtain ⟨t390,A240,H⟩ := H
   replace H : (if (t390 != t379) = true then (none) else ((laws_toGraph.f k l0_0 a0_1).bind fun bt391 => ((laws_eqGraph.f k t380 t383 bt391.1 bt391.2).bind fun t395 => (if t395 = true then ((laws_toGraph.f k l1_0 a1_1).bind fun bt396 => ((laws_eqGraph.f k t385 t388 bt396.1 bt396.2).bind fun t400 => (if t400 = true then (some true) else (none)))) else (none))))) = some r := H
   have A24 := As_ A240
   clear A240
   by_cases c25 : (t390 != t379) = true
   ·rw [if_pos c25] at H
    have c25b0 : (t390 != t379) = true := c25
    (try (have c25b1 : decide (t390 = t379) = false := by simpa using c25))
    (try (have c25b2 : (t390 == t379) = false := by simpa using c25))
    (try (have c25b3 : ¬ (t390 = t379) := by simpa using c25))
    clear c25
    exact absurd H (by simp)
   ·rw [if_neg c25] at H
    have c25b0 : (t390 != t379) = false := by simpa using c25
    (try (have c25b1 : decide (t390 = t379) = true := by simpa using c25))
    (try (have c25b2 : (t390 == t379) = true := by simpa using c25))
    clear c25
    replace H := obS H
    obtain ⟨⟨t391,t394⟩,A560,H⟩ := H
    replace H : ((laws_eqGraph.f k t380 t383 t391 t394).bind fun t395 => (if t395 = true then ((laws_toGraph.f k l1_0 a1_1).bind fun bt396 => ((laws_eqGraph.f k t385 t388 bt396.1 bt396.2).bind fun t400 => (if t400 = true then (some true) else (none)))) else (none))) = some r := H
    have A56 := As_ A560
    clear A560
    replace H := obS H
    obtain ⟨t395,A570,H⟩ := H
    replace H : (if t395 = true then ((laws_toGraph.f k l1_0 a1_1).bind fun bt396 => ((laws_eqGraph.f k t385 t388 bt396.1 bt396.2).bind fun t400 => (if t400 = true then (some true) else (none)))) else (none)) = some r := H
    have A57 := As_ A570
    clear A570
    by_cases c58 : t395 = true
    ·subst c58
     have H1 : ((laws_toGraph.f k l1_0 a1_1).bind fun bt396 => ((laws_eqGraph.f k t385 t388 bt396.1 bt396.2).bind fun t400 => (if t400 = true then (some true) else (none)))) = some r := by rw [if_pos rfl] at H;exact H
     clear H
     have H := H1
     clear H1
     replace H := obS H
     obtain ⟨⟨t396,t399⟩,A590,H⟩ := H
     replace H : ((laws_eqGraph.f k t385 t388 t396 t399).bind fun t400 => (if t400 = true then (some true) else (none))) = some r := H
     have A59 := As_ A590
     clear A590
     replace H := obS H
     obtain ⟨t400,A600,H⟩ := H
     replace H : (if t400 = true then (some true) else (none)) = some r := H
     have A60 := As_ A600
     clear A600
     by_cases c61 : t400 = true
     ·subst c61
      have H1 : (some true) = some r := by rw [if_pos rfl] at H;exact H
      clear H
      have H := H1
      clear H1
      obtain rfl := Option.some.inj H
      go_enter Try.func3,Try.ntmps3
      try go_wp2_with (first|((with_reducible refine gate_dst (N := 2) rfl ?_);refine box_event ?hg (N := 2) ?hd (cs := #[.slice A0_0 l0_0.length c0_0,.int .i64 a0_1]) (t := 24) ?hr ?_;(case hd => rfl);(case hg => rfl);(case hr => go_simp <;> rfl);intro gb367 hg w62 hbox hb;have n0_ := As_ (bwT (zb0 HB.out) hb);have n1_ := As_ (hbox);have n2_ := As_ ((by rw [hg];exact (bwZ (zb0 HB.out)) : w.heap.size ≤ gb367));have n3_ := As_ ((by rw [hg];exact (bwZ (zb0 HB.out)) : w.heap.size ≤ gb367));clear HB;have HB := n0_;have BK367 := n1_;have GW367 := n2_;have GE367 := n3_;clear n0_ n1_ n2_ n3_;clear hb hbox hg)|((with_reducible refine gate_dst (N := 3) rfl ?_);refine box_event ?hg (N := 3) ?hd (cs := #[.slice A1_0 l1_0.length c1_0,.int .i64 a1_1]) (t := 24) ?hr ?_;(case hd => rfl);(case hg => rfl);(case hr => go_simp <;> rfl);intro gb368 hg w63 hbox hb;have n0_ := As_ (zkb BK367.out hb);have n1_ := As_ (bwT (zb1 HB.out GE367.out) hb);have n2_ := As_ (hbox);have n3_ := As_ ((by rw [hg];exact (bwZ (zb1 HB.out GE367.out)) : w.heap.size ≤ gb368));have n4_ := As_ ((by rw [hg];exact (bwZ (zb1 HB.out GE367.out)) : w.heap.size ≤ gb368));have n5_ := As_ ((by rw [hg];exact Nat.ne_of_lt (zkl BK367.out) : gb367 ≠ gb368));have n6_ := As_ ((by rw [hg];exact Nat.ne_of_gt (zkl BK367.out) : gb368 ≠ gb367));clear BK367;clear HB;have BK367 := n0_;have HB := n1_;have BK368 := n2_;have GW368 := n3_;have GE368 := n4_;have NB367_368 := n5_;have NB368_367 := n6_;clear n0_ n1_ n2_ n3_ n4_ n5_ n6_;clear hb hbox hg;have hnb64 := NB367_368.out;have hnc64 := NB368_367.out;have hcz65_0 : w63.cell? ⟨gb367,0,none⟩ = some (.slice A0_0 l0_0.length c0_0) := (bkC BK367.out 0).trans rfl;have hcz65_1 : w63.cell? ⟨gb367,1,none⟩ = some (.int .i64 a0_1) := (bkC BK367.out 1).trans rfl;have hfz65_0 := bkF BK367.out 0;have hfz65_1 := bkF BK367.out 1)|((with_reducible refine gate_callee (f := 15) rfl ?_);refine goesL_ (some 12) rfl rfl Try.func15 (by kernel_rfl) rfl #[.agg #[.slice A0_0 l0_0.length c0_0,.int .i64 a0_1],.int .i64 1048576] rfl zM_ ?_;(with_reducible refine (laws_szGraph.calls k _ _ l0_0 a0_1 1048576 t369 _ ?side1 ?side2 A3.out).mono ?_);(case side1 => repeat (first|exact (Kd.C_below HR0_0.out HB.out)|(with_reducible refine Kd.C_alloc ?_ _)|(with_reducible refine Kd.C_drewN ?_ _)|(with_reducible refine Kd.C_drew ?_)));(case side2 => exact HC0_0.out);rintro e w66 ⟨rfl,hb⟩;refine ⟨_,rfl,?_⟩;have n0_ := As_ (zkb BK367.out hb);have n1_ := As_ (zkb BK368.out hb);have n2_ := As_ (bwT (zb2 HB.out GE367.out GE368.out) hb);clear BK367;clear BK368;clear HB;have BK367 := n0_;have BK368 := n1_;have HB := n2_;clear n0_ n1_ n2_;(try clear hb);(try clear hb2);(try clear hk);(try clear hi);have hcz67_0 : w66.cell? ⟨gb368,0,none⟩ = some (.slice A1_0 l1_0.length c1_0) := (bkC BK368.out 0).trans rfl;have hcz67_1 : w66.cell? ⟨gb368,1,none⟩ = some (.int .i64 a1_1) := (bkC BK368.out 1).trans rfl;have hfz67_0 := bkF BK368.out 0;have hfz67_1 := bkF BK368.out 1)|((with_reducible refine gate_callee (f := 15) rfl ?_);refine goesL_ (some 17) rfl rfl Try.func15 (by kernel_rfl) rfl #[.agg #[.slice A1_0 l1_0.length c1_0,.int .i64 a1_1],.int .i64 t369] rfl zM_ ?_;(with_reducible refine (laws_szGraph.calls k _ _ l1_0 a1_1 t369 t370 _ ?side1 ?side2 A10.out).mono ?_);(case side1 => repeat (first|exact (Kd.C_below HR1_0.out HB.out)|(with_reducible refine Kd.C_alloc ?_ _)|(with_reducible refine Kd.C_drewN ?_ _)|(with_reducible refine Kd.C_drew ?_)));(case side2 => exact HC1_0.out);rintro e w68 ⟨rfl,hb⟩;refine ⟨_,rfl,?_⟩;have n0_ := As_ (zkb BK367.out hb);have n1_ := As_ (zkb BK368.out hb);have n2_ := As_ (bwT (zb2 HB.out GE367.out GE368.out) hb);clear BK367;clear BK368;clear HB;have BK367 := n0_;have BK368 := n1_;have HB := n2_;clear n0_ n1_ n2_;(try clear hb);(try clear hb2);(try clear hk);(try clear hi)))
      have n0_ := As_ (bkD BK367.out)
      have n1_ := As_ (bkD BK368.out)
      have n2_ := As_ (bwD HB.out)
      clear BK367
      clear BK368
      clear HB
      have BK367 := n0_
      have BK368 := n1_
      have HB := n2_
      clear n0_ n1_ n2_
      refine start_ (n := 6) (S := fun w' => w'.cell? ⟨gb367,0,none⟩ = some (.slice A0_0 l0_0.length c0_0) ∧ w'.cell? ⟨gb367,1,none⟩ = some (.int .i64 a0_1) ∧ w'.cell? ⟨gb368,0,none⟩ = some (.slice A1_0 l1_0.length c1_0) ∧ w'.cell? ⟨gb368,1,none⟩ = some (.int .i64 a1_1)) (ds := []) (bl_ 0 6) (by kernel_rfl) rfl rfl ⟨(bkC BK367.out 0).trans rfl,(bkC BK367.out 1).trans rfl,(bkC BK368.out 0).trans rfl,(bkC BK368.out 1).trans rfl⟩ (fun hHeld => ?_)
      generalize w68.drew = w69 at BK367 BK368 HB hHeld ⊢
      refine take_ (i := 0) (N := some 20) (v := ?_) (a' := ?_) (bl_ 1 6) rfl rfl (by kernel_rfl) (fun _ _ _ h => h) (Or.inl ⟨by rfl,?_⟩) hHeld ?_ ?_;rotate_left;(rintro w' ⟨s0,s1,s2,s3⟩;go_simp;with_reducible rfl);rotate_left;(simp only [Act.put,sq_,i64_w,i32_w];rfl)
      refine take_ (i := 2) (N := some 22) (v := ?_) (a' := ?_) (bl_ 5 6) rfl rfl (by kernel_rfl) (fun _ _ _ h => h) (Or.inl ⟨by rfl,?_⟩) hHeld ?_ ?_;rotate_left;(rintro w' ⟨s0,s1,s2,s3⟩;go_simp;with_reducible rfl);rotate_left;(simp only [Act.put,sq_,i64_w,i32_w];rfl)
      refine one_ (i := 1) (N := some 21) (bl_ 7 6) rfl rfl (by kernel_rfl) (by decide) (fun K hK => ?_)
      refine goes_ Try.func17 (by kernel_rfl) rfl #[.agg #[.slice A0_0 l0_0.length c0_0,.int .i64 a0_1]] (by rfl) rfl rfl zM_ ?_
      with_reducible refine (laws_toGraph.calls k _ _ l0_0 a0_1 t371 t374 _ ?side1 ?side2 A19.out).mono ?_
      (case side1 => repeat (first|exact (Kd.C_below HR0_0.out HB.out)|(with_reducible refine Kd.C_alloc ?_ _)|(with_reducible refine Kd.C_drewN ?_ _)|(with_reducible refine Kd.C_drew ?_)))
      (case side2 => exact HC0_0.out)
      rintro e w70 ⟨v372,rfl,ho0,hb⟩
      refine ⟨_,rfl,?_⟩
      have n0_ := As_ (Kd.S_lower ho0 (bwZ (zb2 HB.out GE367.out GE368.out)))
      have n1_ := As_ (zkb BK367.out hb)
      have n2_ := As_ (zkb BK368.out hb)
      have n3_ := As_ (bwT (zb2 HB.out GE367.out GE368.out) hb)
      clear BK367
      clear BK368
      clear HB
      have HO373 := n0_
      have BK367 := n1_
      have BK368 := n2_
      have HB := n3_
      clear n0_ n1_ n2_ n3_
      (try clear hb)
      (try clear hb2)
      (try clear hk)
      (try clear hi)
      (try clear ho0)
      refine hK.out _ _ ⟨(bkC BK367.out 0).trans rfl,(bkC BK367.out 1).trans rfl,(bkC BK368.out 0).trans rfl,(bkC BK368.out 1).trans rfl⟩ (fun hHeld => ?_)
      clear hK K
      refine norm_ (a' := ?_) ?_ ?_
      rotate_left
      ·show Act.put _ (some 21) _ = _
       simp only [Act.put,sq_,i64_w,i32_w]
       rfl
      refine one_ (i := 3) (N := some 23) (bl_ 15 6) rfl rfl (by kernel_rfl) (by decide) (fun K hK => ?_)
      refine goes_ Try.func17 (by kernel_rfl) rfl #[.agg #[.slice A1_0 l1_0.length c1_0,.int .i64 a1_1]] (by rfl) rfl rfl zM_ ?_
      with_reducible refine (laws_toGraph.calls k _ _ l1_0 a1_1 t375 t378 _ ?side1 ?side2 A20.out).mono ?_
      (case side1 => repeat (first|exact (Kd.C_below HR1_0.out HB.out)|(with_reducible refine Kd.C_alloc ?_ _)|(with_reducible refine Kd.C_drewN ?_ _)|(with_reducible refine Kd.C_drew ?_)))
      (case side2 => exact HC1_0.out)
      rintro e w71 ⟨v376,rfl,ho0,hb⟩
      refine ⟨_,rfl,?_⟩
      have n0_ := As_ (Kd.S_elder' (zS_ HO373.out) (Kd.S_base ho0) hb)
      have n1_ := As_ (Kd.S_lower (Kd.S_new' ho0 (Kd.S_lt (zS_ HO373.out))) (bwZ (zb2 HB.out GE367.out GE368.out)))
      have n2_ := As_ (zkb BK367.out hb)
      have n3_ := As_ (zkb BK368.out hb)
      have n4_ := As_ (bwT (zb2 HB.out GE367.out GE368.out) hb)
      clear HO373
      clear BK367
      clear BK368
      clear HB
      have HO373 := n0_
      have HO377 := n1_
      have BK367 := n2_
      have BK368 := n3_
      have HB := n4_
      clear n0_ n1_ n2_ n3_ n4_
      (try clear hb)
      (try clear hb2)
      (try clear hk)
      (try clear hi)
      (try clear ho0)
      obtain ⟨Ao72,co72,eo72⟩ := Kd.S_slice HO373.out
      (first|subst eo72|(injection eo72 with f1_ f2_ f3_;have f4_ := f1_.symm;have f5_ := f3_.symm;clear f1_ f2_ f3_;subst f4_;subst f5_))
      obtain ⟨Ao73,co73,eo73⟩ := Kd.S_slice HO377.out
      (first|subst eo73|(injection eo73 with f1_ f2_ f3_;have f4_ := f1_.symm;have f5_ := f3_.symm;clear f1_ f2_ f3_;subst f4_;subst f5_))
      refine hK.out _ _ ⟨(bkC BK367.out 0).trans rfl,(bkC BK367.out 1).trans rfl,(bkC BK368.out 0).trans rfl,(bkC BK368.out 1).trans rfl⟩ (fun hHeld => ?_)
      clear hK K
      refine norm_ (a' := ?_) ?_ ?_
      rotate_left
      ·show Act.put _ (some 23) _ = _
       simp only [Act.put,sq_,i64_w,i32_w]
       rfl
      refine one_ (i := 4) (N := some 24) (bl_ 31 6) rfl rfl (by kernel_rfl) (by decide) (fun K hK => ?_)
      refine goes_ Try.func16 (by kernel_rfl) rfl #[.agg #[.slice Ao72 t371.length co72,.int .i64 t374],.agg #[.slice Ao73 t375.length co73,.int .i64 t378]] (by rfl) rfl rfl zM_ ?_
      with_reducible refine (spec_EqualDeep.calls k _ _ t371 t374 _ _ t375 t378 t379 _ ?side1 ?side2 ?side3 ?side4 A21.out).mono ?_
      (case side1 => repeat (first|exact (Kd.S_reads' HO373.out).2.2|(with_reducible refine Kd.C_alloc ?_ _)|(with_reducible refine Kd.C_drewN ?_ _)|(with_reducible refine Kd.C_drew ?_)))
      (case side2 => exact (Kd.S_reads' HO373.out).2.1)
      (case side3 => repeat (first|exact (Kd.S_reads' HO377.out).2.2|(with_reducible refine Kd.C_alloc ?_ _)|(with_reducible refine Kd.C_drewN ?_ _)|(with_reducible refine Kd.C_drew ?_)))
      (case side4 => exact (Kd.S_reads' HO377.out).2.1)
      rintro e w74 ⟨rfl,hb⟩
      refine ⟨_,rfl,?_⟩
      have n0_ := As_ (Kd.S_below (zS_ HO373.out) hb)
      have n1_ := As_ (Kd.S_below (zS_ HO377.out) hb)
      have n2_ := As_ (zkb BK367.out hb)
      have n3_ := As_ (zkb BK368.out hb)
      have n4_ := As_ (bwT (zb2 HB.out GE367.out GE368.out) hb)
      clear HO373
      clear HO377
      clear BK367
      clear BK368
      clear HB
      have HO373 := n0_
      have HO377 := n1_
      have BK367 := n2_
      have BK368 := n3_
      have HB := n4_
      clear n0_ n1_ n2_ n3_ n4_
      (try clear hb)
      (try clear hb2)
      (try clear hk)
      (try clear hi)
      refine hK.out _ _ ⟨(bkC BK367.out 0).trans rfl,(bkC BK367.out 1).trans rfl,(bkC BK368.out 0).trans rfl,(bkC BK368.out 1).trans rfl⟩ (fun hHeld => ?_)
      clear hK K
      refine norm_ (a' := ?_) ?_ ?_
      rotate_left
      ·show Act.put _ (some 24) _ = _
       simp only [Act.put,sq_,i64_w,i32_w]
       rfl
      refine pure_ (i := 5) (N := some 6) (v := ?_) (a' := ?_) (bl_ 63 6) rfl rfl (by kernel_rfl) (fun _ _ _ h => h) (Or.inl ⟨by rfl,?_⟩) ?_ ?_;rotate_left;(intro w';go_simp;with_reducible rfl);rotate_left;(simp only [Act.put,sq_,i64_w,i32_w];rfl)
      refine done_ (by kernel_rfl) ?_
      have hcz75_0 : w74.cell? ⟨gb367,0,none⟩ = some (.slice A0_0 l0_0.length c0_0) := (bkC BK367.out 0).trans rfl
      have hcz75_1 : w74.cell? ⟨gb367,1,none⟩ = some (.int .i64 a0_1) := (bkC BK367.out 1).trans rfl
      have hfz75_0 := bkF BK367.out 0
      have hfz75_1 := bkF BK367.out 1
      try go_wp2_with (first|((with_reducible refine gate_callee (f := 17) rfl ?_);refine goesL_ (some 26) rfl rfl Try.func17 (by kernel_rfl) rfl #[.agg #[.slice A0_0 l0_0.length c0_0,.int .i64 a0_1]] rfl zM_ ?_;(with_reducible refine (laws_toGraph.calls k _ _ l0_0 a0_1 t380 t383 _ ?side1 ?side2 A22.out).mono ?_);(case side1 => repeat (first|exact (Kd.C_below HR0_0.out HB.out)|(with_reducible refine Kd.C_alloc ?_ _)|(with_reducible refine Kd.C_drewN ?_ _)|(with_reducible refine Kd.C_drew ?_)));(case side2 => exact HC0_0.out);rintro e w76 ⟨v381,rfl,ho0,hb⟩;refine ⟨_,rfl,?_⟩;have n0_ := As_ (Kd.S_elder' (zS_ HO373.out) (Kd.S_base ho0) hb);have n1_ := As_ (Kd.S_elder' (zS_ HO377.out) (Kd.S_base ho0) hb);have n2_ := As_ (Kd.S_lower (Kd.S_new' (Kd.S_new' ho0 (Kd.S_lt (zS_ HO373.out))) (Kd.S_lt (zS_ HO377.out))) (bwZ (zb2 HB.out GE367.out GE368.out)));have n3_ := As_ (zkb BK367.out hb);have n4_ := As_ (zkb BK368.out hb);have n5_ := As_ (bwT (zb2 HB.out GE367.out GE368.out) hb);clear HO373;clear HO377;clear BK367;clear BK368;clear HB;have HO373 := n0_;have HO377 := n1_;have HO382 := n2_;have BK367 := n3_;have BK368 := n4_;have HB := n5_;clear n0_ n1_ n2_ n3_ n4_ n5_;(try clear hb);(try clear hb2);(try clear hk);(try clear hi);(try clear ho0))|((with_reducible refine gate_dst (N := 7) rfl ?_);refine box_event ?hg (N := 7) ?hd (cs := #[.slice none 0 0,.int .i64 0]) (t := 29) ?hr ?_;(case hd => rfl);(case hg => rfl);(case hr => go_simp <;> rfl);intro gb384 hg w77 hbox hb;have n0_ := As_ (Kd.S_below (zS_ HO373.out) hb);have n1_ := As_ (Kd.S_below (zS_ HO377.out) hb);have n2_ := As_ (Kd.S_below (zS_ HO382.out) hb);have n3_ := As_ (zkb BK367.out hb);have n4_ := As_ (zkb BK368.out hb);have n5_ := As_ (bwT (zb2 HB.out GE367.out GE368.out) hb);have n6_ := As_ (hbox);have n7_ := As_ ((by rw [hg];exact (bwZ (zb2 HB.out GE367.out GE368.out)) : w.heap.size ≤ gb384));have n8_ := As_ ((by rw [hg];exact (bwZ (zb2 HB.out GE367.out GE368.out)) : w.heap.size ≤ gb384));have n9_ := As_ ((by rw [hg];exact Nat.ne_of_lt (zkl BK367.out) : gb367 ≠ gb384));have n10_ := As_ ((by rw [hg];exact Nat.ne_of_gt (zkl BK367.out) : gb384 ≠ gb367));have n11_ := As_ ((by rw [hg];exact Nat.ne_of_lt (zkl BK368.out) : gb368 ≠ gb384));have n12_ := As_ ((by rw [hg];exact Nat.ne_of_gt (zkl BK368.out) : gb384 ≠ gb368));clear HO373;clear HO377;clear HO382;clear BK367;clear BK368;clear HB;have HO373 := n0_;have HO377 := n1_;have HO382 := n2_;have BK367 := n3_;have BK368 := n4_;have HB := n5_;have BK384 := n6_;have GW384 := n7_;have GE384 := n8_;have NB367_384 := n9_;have NB384_367 := n10_;have NB368_384 := n11_;have NB384_368 := n12_;clear n0_ n1_ n2_ n3_ n4_ n5_ n6_ n7_ n8_ n9_ n10_ n11_ n12_;clear hb hbox hg;obtain ⟨Ao78,co78,eo78⟩ := Kd.S_slice HO382.out;subst eo78;have hnb79 := NB384_367.out;have hnc79 := NB367_384.out;have hnb80 := NB384_368.out;have hnc80 := NB368_384.out;have hcz81_0 : w77.cell? ⟨gb384,0,none⟩ = some (.slice none 0 0) := (bkC BK384.out 0).trans rfl;have hcz81_1 : w77.cell? ⟨gb384,1,none⟩ = some (.int .i64 0) := (bkC BK384.out 1).trans rfl;have hfz81_0 := bkF BK384.out 0;have hfz81_1 := bkF BK384.out 1;have hcz82_0 : w77.cell? ⟨gb368,0,none⟩ = some (.slice A1_0 l1_0.length c1_0) := (bkC BK368.out 0).trans rfl;have hcz82_1 : w77.cell? ⟨gb368,1,none⟩ = some (.int .i64 a1_1) := (bkC BK368.out 1).trans rfl;have hfz82_0 := bkF BK368.out 0;have hfz82_1 := bkF BK368.out 1)|((with_reducible refine gate_callee (f := 17) rfl ?_);refine goesL_ (some 28) rfl rfl Try.func17 (by kernel_rfl) rfl #[.agg #[.slice A1_0 l1_0.length c1_0,.int .i64 a1_1]] rfl zM_ ?_;(with_reducible refine (laws_toGraph.calls k _ _ l1_0 a1_1 t385 t388 _ ?side1 ?side2 A23.out).mono ?_);(case side1 => exact Kd.C_below HR1_0.out (zb3 HB.out GE367.out GE368.out GE384.out));(case side2 => exact HC1_0.out);rintro e w83 ⟨v386,rfl,ho0,hb⟩;refine ⟨_,rfl,?_⟩;have n0_ := As_ (Kd.S_elder' (by (with_reducible repeat (first|apply Kd.S_alloc|apply Kd.S_drewN|apply Kd.S_drew));exact (Kd.S_mono (Kd.S_far (p := ⟨gb384,1,none⟩) (Kd.S_far (p := ⟨gb384,0,none⟩) (Kd.S_types HO373.out BK384.out (by decide)) (fun _ hk => hk.2) (.slice Ao78 t380.length co78)) (fun _ hk => hk.2) (.int .i64 t383)) (fun _ h_ => h_.1))) (Kd.S_base ho0) hb);have n1_ := As_ (Kd.S_elder' (by (with_reducible repeat (first|apply Kd.S_alloc|apply Kd.S_drewN|apply Kd.S_drew));exact (Kd.S_mono (Kd.S_far (p := ⟨gb384,1,none⟩) (Kd.S_far (p := ⟨gb384,0,none⟩) (Kd.S_types HO377.out BK384.out (by decide)) (fun _ hk => hk.2) (.slice Ao78 t380.length co78)) (fun _ hk => hk.2) (.int .i64 t383)) (fun _ h_ => h_.1))) (Kd.S_base ho0) hb);have n2_ := As_ (Kd.S_elder' (by (with_reducible repeat (first|apply Kd.S_alloc|apply Kd.S_drewN|apply Kd.S_drew));exact (Kd.S_mono (Kd.S_far (p := ⟨gb384,1,none⟩) (Kd.S_far (p := ⟨gb384,0,none⟩) (Kd.S_types HO382.out BK384.out (by decide)) (fun _ hk => hk.2) (.slice Ao78 t380.length co78)) (fun _ hk => hk.2) (.int .i64 t383)) (fun _ h_ => h_.1))) (Kd.S_base ho0) hb);have n3_ := As_ (Kd.S_lower (Kd.S_new' (Kd.S_new' (Kd.S_new' ho0 (Kd.S_lt (by (with_reducible repeat (first|apply Kd.S_alloc|apply Kd.S_drewN|apply Kd.S_drew));exact (Kd.S_mono (Kd.S_far (p := ⟨gb384,1,none⟩) (Kd.S_far (p := ⟨gb384,0,none⟩) (Kd.S_types HO373.out BK384.out (by decide)) (fun _ hk => hk.2) (.slice Ao78 t380.length co78)) (fun _ hk => hk.2) (.int .i64 t383)) (fun _ h_ => h_.1))))) (Kd.S_lt (by (with_reducible repeat (first|apply Kd.S_alloc|apply Kd.S_drewN|apply Kd.S_drew));exact (Kd.S_mono (Kd.S_far (p := ⟨gb384,1,none⟩) (Kd.S_far (p := ⟨gb384,0,none⟩) (Kd.S_types HO377.out BK384.out (by decide)) (fun _ hk => hk.2) (.slice Ao78 t380.length co78)) (fun _ hk => hk.2) (.int .i64 t383)) (fun _ h_ => h_.1))))) (Kd.S_lt (by (with_reducible repeat (first|apply Kd.S_alloc|apply Kd.S_drewN|apply Kd.S_drew));exact (Kd.S_mono (Kd.S_far (p := ⟨gb384,1,none⟩) (Kd.S_far (p := ⟨gb384,0,none⟩) (Kd.S_types HO382.out BK384.out (by decide)) (fun _ hk => hk.2) (.slice Ao78 t380.length co78)) (fun _ hk => hk.2) (.int .i64 t383)) (fun _ h_ => h_.1))))) (bwZ (zb3 HB.out GE367.out GE368.out GE384.out)));have n4_ := As_ (blk_below (g := gb367) (o := .cells #[.slice A0_0 l0_0.length c0_0,.int .i64 a0_1] 24 (0,0)) (by (with_reducible repeat (first|refine bkN ?_ _|refine bkD ?_|refine bkA ?_ _));refine blk_far ?_ NB367_384.out _;(with_reducible repeat (first|refine bkN ?_ _|refine bkD ?_|refine bkA ?_ _));refine blk_far ?_ NB367_384.out _;(with_reducible repeat (first|refine bkN ?_ _|refine bkD ?_|refine bkA ?_ _));exact BK367.out) hb);have n5_ := As_ (blk_below (g := gb368) (o := .cells #[.slice A1_0 l1_0.length c1_0,.int .i64 a1_1] 24 (0,0)) (by (with_reducible repeat (first|refine bkN ?_ _|refine bkD ?_|refine bkA ?_ _));refine blk_far ?_ NB368_384.out _;(with_reducible repeat (first|refine bkN ?_ _|refine bkD ?_|refine bkA ?_ _));refine blk_far ?_ NB368_384.out _;(with_reducible repeat (first|refine bkN ?_ _|refine bkD ?_|refine bkA ?_ _));exact BK368.out) hb);have n6_ := As_ (blk_below (g := gb384) (o := .cells #[.slice Ao78 t380.length co78,.int .i64 t383] 29 (0,0)) (by (with_reducible repeat (first|refine bkN ?_ _|refine bkD ?_|refine bkA ?_ _));refine blk_put (cs := #[.slice Ao78 t380.length co78,.int .i64 0]) ?_ 1 _ rfl;(with_reducible repeat (first|refine bkN ?_ _|refine bkD ?_|refine bkA ?_ _));refine blk_put (cs := #[.slice none 0 0,.int .i64 0]) ?_ 0 _ rfl;(with_reducible repeat (first|refine bkN ?_ _|refine bkD ?_|refine bkA ?_ _));exact BK384.out) hb);have n7_ := As_ (bwT (zb3 HB.out GE367.out GE368.out GE384.out) hb);clear HO373;clear HO377;clear HO382;clear BK367;clear BK368;clear BK384;clear HB;have HO373 := n0_;have HO377 := n1_;have HO382 := n2_;have HO387 := n3_;have BK367 := n4_;have BK368 := n5_;have BK384 := n6_;have HB := n7_;clear n0_ n1_ n2_ n3_ n4_ n5_ n6_ n7_;(try clear hb);(try clear hb2);(try clear hk);(try clear hi);(try clear ho0))|((with_reducible refine gate_dst (N := 8) rfl ?_);refine box_event ?hg (N := 8) ?hd (cs := #[.slice none 0 0,.int .i64 0]) (t := 29) ?hr ?_;(case hd => rfl);(case hg => rfl);(case hr => go_simp <;> rfl);intro gb389 hg w84 hbox hb;have n0_ := As_ (Kd.S_below (zS_ HO373.out) hb);have n1_ := As_ (Kd.S_below (zS_ HO377.out) hb);have n2_ := As_ (Kd.S_below (zS_ HO382.out) hb);have n3_ := As_ (Kd.S_below (zS_ HO387.out) hb);have n4_ := As_ (zkb BK367.out hb);have n5_ := As_ (zkb BK368.out hb);have n6_ := As_ (zkb BK384.out hb);have n7_ := As_ (bwT (zb3 HB.out GE367.out GE368.out GE384.out) hb);have n8_ := As_ (hbox);have n9_ := As_ ((by rw [hg];exact (bwZ (zb3 HB.out GE367.out GE368.out GE384.out)) : w.heap.size ≤ gb389));have n10_ := As_ ((by rw [hg];exact (bwZ (zb3 HB.out GE367.out GE368.out GE384.out)) : w.heap.size ≤ gb389));have n11_ := As_ ((by rw [hg];exact Nat.ne_of_lt (zkl BK367.out) : gb367 ≠ gb389));have n12_ := As_ ((by rw [hg];exact Nat.ne_of_gt (zkl BK367.out) : gb389 ≠ gb367));have n13_ := As_ ((by rw [hg];exact Nat.ne_of_lt (zkl BK368.out) : gb368 ≠ gb389));have n14_ := As_ ((by rw [hg];exact Nat.ne_of_gt (zkl BK368.out) : gb389 ≠ gb368));have n15_ := As_ ((by rw [hg];exact Nat.ne_of_lt (zkl BK384.out) : gb384 ≠ gb389));have n16_ := As_ ((by rw [hg];exact Nat.ne_of_gt (zkl BK384.out) : gb389 ≠ gb384));clear HO373;clear HO377;clear HO382;clear HO387;clear BK367;clear BK368;clear BK384;clear HB;have HO373 := n0_;have HO377 := n1_;have HO382 := n2_;have HO387 := n3_;have BK367 := n4_;have BK368 := n5_;have BK384 := n6_;have HB := n7_;have BK389 := n8_;have GW389 := n9_;have GE389 := n10_;have NB367_389 := n11_;have NB389_367 := n12_;have NB368_389 := n13_;have NB389_368 := n14_;have NB384_389 := n15_;have NB389_384 := n16_;clear n0_ n1_ n2_ n3_ n4_ n5_ n6_ n7_ n8_ n9_ n10_ n11_ n12_ n13_ n14_ n15_ n16_;clear hb hbox hg;obtain ⟨Ao85,co85,eo85⟩ := Kd.S_slice HO387.out;subst eo85;have hnb86 := NB389_367.out;have hnc86 := NB367_389.out;have hnb87 := NB389_368.out;have hnc87 := NB368_389.out;have hnb88 := NB389_384.out;have hnc88 := NB384_389.out;have hcz89_0 : w84.cell? ⟨gb389,0,none⟩ = some (.slice none 0 0) := (bkC BK389.out 0).trans rfl;have hcz89_1 : w84.cell? ⟨gb389,1,none⟩ = some (.int .i64 0) := (bkC BK389.out 1).trans rfl;have hfz89_0 := bkF BK389.out 0;have hfz89_1 := bkF BK389.out 1;have hcz90_0 : w84.cell? ⟨gb384,0,none⟩ = some (.slice Ao78 t380.length co78) := (bkC BK384.out 0).trans rfl;have hcz90_1 : w84.cell? ⟨gb384,1,none⟩ = some (.int .i64 t383) := (bkC BK384.out 1).trans rfl;have hfz90_0 := bkF BK384.out 0;have hfz90_1 := bkF BK384.out 1)|((with_reducible refine gate_callee (f := 18) rfl ?_);refine goesL_ (some 31) rfl rfl Try.func18 (by kernel_rfl) rfl #[.agg #[.slice Ao78 t380.length co78,.int .i64 t383],.agg #[.slice Ao85 t385.length co85,.int .i64 t388]] rfl zM_ ?_;(with_reducible refine (impl_EqualDeep.calls k _ _ t380 t383 _ _ t385 t388 t390 _ ?side1 ?side2 ?side3 ?side4 A24.out).mono ?_);(case side1 => refine (Kd.S_reads' (e := 45) (base := w.heap.size) (ok := fun k_ => (((True ∧ some k_ ≠ (.slice Ao72 t371.length co72 : Value).ownBlock) ∧ some k_ ≠ (.slice Ao73 t375.length co73 : Value).ownBlock) ∧ some k_ ≠ (.slice Ao85 t385.length co85 : Value).ownBlock)) (n := t380.length) (c := co78) ?_).2.2;exact (by (with_reducible repeat (first|apply Kd.S_alloc|apply Kd.S_drewN|apply Kd.S_drew));exact (Kd.S_mono (Kd.S_far (p := ⟨gb389,1,none⟩) (Kd.S_far (p := ⟨gb389,0,none⟩) (Kd.S_types HO382.out BK389.out (by decide)) (fun _ hk => hk.2) (.slice Ao85 t385.length co85)) (fun _ hk => hk.2) (.int .i64 t388)) (fun _ h_ => h_.1))));(case side2 => exact (Kd.S_reads' HO382.out).2.1);(case side3 => refine (Kd.S_reads' (e := 45) (base := w.heap.size) (ok := fun k_ => (((True ∧ some k_ ≠ (.slice Ao72 t371.length co72 : Value).ownBlock) ∧ some k_ ≠ (.slice Ao73 t375.length co73 : Value).ownBlock) ∧ some k_ ≠ (.slice Ao78 t380.length co78 : Value).ownBlock)) (n := t385.length) (c := co85) ?_).2.2;exact (by (with_reducible repeat (first|apply Kd.S_alloc|apply Kd.S_drewN|apply Kd.S_drew));exact (Kd.S_mono (Kd.S_far (p := ⟨gb389,1,none⟩) (Kd.S_far (p := ⟨gb389,0,none⟩) (Kd.S_types HO387.out BK389.out (by decide)) (fun _ hk => hk.2) (.slice Ao85 t385.length co85)) (fun _ hk => hk.2) (.int .i64 t388)) (fun _ h_ => h_.1))));(case side4 => exact (Kd.S_reads' HO387.out).2.1);rintro e w91 ⟨rfl,hb⟩;refine ⟨_,rfl,?_⟩;have n0_ := As_ (Kd.S_below (by (with_reducible repeat (first|apply Kd.S_alloc|apply Kd.S_drewN|apply Kd.S_drew));exact (Kd.S_mono (Kd.S_far (p := ⟨gb389,1,none⟩) (Kd.S_far (p := ⟨gb389,0,none⟩) (Kd.S_types HO373.out BK389.out (by decide)) (fun _ hk => hk.2) (.slice Ao85 t385.length co85)) (fun _ hk => hk.2) (.int .i64 t388)) (fun _ h_ => h_.1))) hb);have n1_ := As_ (Kd.S_below (by (with_reducible repeat (first|apply Kd.S_alloc|apply Kd.S_drewN|apply Kd.S_drew));exact (Kd.S_mono (Kd.S_far (p := ⟨gb389,1,none⟩) (Kd.S_far (p := ⟨gb389,0,none⟩) (Kd.S_types HO377.out BK389.out (by decide)) (fun _ hk => hk.2) (.slice Ao85 t385.length co85)) (fun _ hk => hk.2) (.int .i64 t388)) (fun _ h_ => h_.1))) hb);have n2_ := As_ (Kd.S_below (by (with_reducible repeat (first|apply Kd.S_alloc|apply Kd.S_drewN|apply Kd.S_drew));exact (Kd.S_mono (Kd.S_far (p := ⟨gb389,1,none⟩) (Kd.S_far (p := ⟨gb389,0,none⟩) (Kd.S_types HO382.out BK389.out (by decide)) (fun _ hk => hk.2) (.slice Ao85 t385.length co85)) (fun _ hk => hk.2) (.int .i64 t388)) (fun _ h_ => h_.1))) hb);have n3_ := As_ (Kd.S_below (by (with_reducible repeat (first|apply Kd.S_alloc|apply Kd.S_drewN|apply Kd.S_drew));exact (Kd.S_mono (Kd.S_far (p := ⟨gb389,1,none⟩) (Kd.S_far (p := ⟨gb389,0,none⟩) (Kd.S_types HO387.out BK389.out (by decide)) (fun _ hk => hk.2) (.slice Ao85 t385.length co85)) (fun _ hk => hk.2) (.int .i64 t388)) (fun _ h_ => h_.1))) hb);have n4_ := As_ (blk_below (g := gb367) (o := .cells #[.slice A0_0 l0_0.length c0_0,.int .i64 a0_1] 24 (0,0)) (by (with_reducible repeat (first|refine bkN ?_ _|refine bkD ?_|refine bkA ?_ _));refine blk_far ?_ NB367_389.out _;(with_reducible repeat (first|refine bkN ?_ _|refine bkD ?_|refine bkA ?_ _));refine blk_far ?_ NB367_389.out _;(with_reducible repeat (first|refine bkN ?_ _|refine bkD ?_|refine bkA ?_ _));exact BK367.out) hb);have n5_ := As_ (blk_below (g := gb368) (o := .cells #[.slice A1_0 l1_0.length c1_0,.int .i64 a1_1] 24 (0,0)) (by (with_reducible repeat (first|refine bkN ?_ _|refine bkD ?_|refine bkA ?_ _));refine blk_far ?_ NB368_389.out _;(with_reducible repeat (first|refine bkN ?_ _|refine bkD ?_|refine bkA ?_ _));refine blk_far ?_ NB368_389.out _;(with_reducible repeat (first|refine bkN ?_ _|refine bkD ?_|refine bkA ?_ _));exact BK368.out) hb);have n6_ := As_ (blk_below (g := gb384) (o := .cells #[.slice Ao78 t380.length co78,.int .i64 t383] 29 (0,0)) (by (with_reducible repeat (first|refine bkN ?_ _|refine bkD ?_|refine bkA ?_ _));refine blk_far ?_ NB384_389.out _;(with_reducible repeat (first|refine bkN ?_ _|refine bkD ?_|refine bkA ?_ _));refine blk_far ?_ NB384_389.out _;(with_reducible repeat (first|refine bkN ?_ _|refine bkD ?_|refine bkA ?_ _));exact BK384.out) hb);have n7_ := As_ (blk_below (g := gb389) (o := .cells #[.slice Ao85 t385.length co85,.int .i64 t388] 29 (0,0)) (by (with_reducible repeat (first|refine bkN ?_ _|refine bkD ?_|refine bkA ?_ _));refine blk_put (cs := #[.slice Ao85 t385.length co85,.int .i64 0]) ?_ 1 _ rfl;(with_reducible repeat (first|refine bkN ?_ _|refine bkD ?_|refine bkA ?_ _));refine blk_put (cs := #[.slice none 0 0,.int .i64 0]) ?_ 0 _ rfl;(with_reducible repeat (first|refine bkN ?_ _|refine bkD ?_|refine bkA ?_ _));exact BK389.out) hb);have n8_ := As_ (bwT (by repeat (first|(with_reducible first|exact HB.out|apply bwA|apply bwN|apply bwD|refine bwS ?_ GE367.out|refine bwS ?_ GE368.out|refine bwS ?_ GE384.out|refine bwS ?_ GE389.out)|exact HB.out)) hb);clear HO373;clear HO377;clear HO382;clear HO387;clear BK367;clear BK368;clear BK384;clear BK389;clear HB;have HO373 := n0_;have HO377 := n1_;have HO382 := n2_;have HO387 := n3_;have BK367 := n4_;have BK368 := n5_;have BK384 := n6_;have BK389 := n7_;have HB := n8_;clear n0_ n1_ n2_ n3_ n4_ n5_ n6_ n7_ n8_;(try clear hb);(try clear hb2);(try clear hk);(try clear hi)))
      have n0_ := As_ (Kd.S_drew HO373.out)
      have n1_ := As_ (Kd.S_drew HO377.out)
      have n2_ := As_ (Kd.S_drew HO382.out)
      have n3_ := As_ (Kd.S_drew HO387.out)
      have n4_ := As_ (bkD BK367.out)
      have n5_ := As_ (bkD BK368.out)
      have n6_ := As_ (bkD BK384.out)
      have n7_ := As_ (bkD BK389.out)
      have n8_ := As_ (bwD HB.out)
      clear HO373
      clear HO377
      clear HO382
      clear HO387
      clear BK367
      clear BK368
      clear BK384
      clear BK389
      clear HB
      have HO373 := n0_
      have HO377 := n1_
      have HO382 := n2_
      have HO387 := n3_
      have BK367 := n4_
      have BK368 := n5_
      have BK384 := n6_
      have BK389 := n7_
      have HB := n8_
      clear n0_ n1_ n2_ n3_ n4_ n5_ n6_ n7_ n8_
      refine start_ (n := 5) (S := fun w' => w'.cell? ⟨gb384,0,none⟩ = some (.slice Ao78 t380.length co78) ∧ w'.cell? ⟨gb384,1,none⟩ = some (.int .i64 t383) ∧ w'.cell? ⟨gb367,0,none⟩ = some (.slice A0_0 l0_0.length c0_0) ∧ w'.cell? ⟨gb367,1,none⟩ = some (.int .i64 a0_1)) (ds := []) (bl_ 0 5) (by kernel_rfl) rfl rfl ⟨(bkC BK384.out 0).trans rfl,(bkC BK384.out 1).trans rfl,(bkC BK367.out 0).trans rfl,(bkC BK367.out 1).trans rfl⟩ (fun hHeld => ?_)
      generalize w91.drew = w92 at HO373 HO377 HO382 HO387 BK367 BK368 BK384 BK389 HB hHeld ⊢
      refine take_ (i := 0) (N := some 35) (v := ?_) (a' := ?_) (bl_ 1 5) rfl rfl (by kernel_rfl) (fun _ _ _ h => h) (Or.inl ⟨by rfl,?_⟩) hHeld ?_ ?_;rotate_left;(rintro w' ⟨s0,s1,s2,s3⟩;go_simp;with_reducible rfl);rotate_left;(simp only [Act.put,sq_,i64_w,i32_w];rfl)
      refine take_ (i := 1) (N := some 36) (v := ?_) (a' := ?_) (bl_ 3 5) rfl rfl (by kernel_rfl) (fun _ _ _ h => h) (Or.inl ⟨by rfl,?_⟩) hHeld ?_ ?_;rotate_left;(rintro w' ⟨s0,s1,s2,s3⟩;go_simp;with_reducible rfl);rotate_left;(simp only [Act.put,sq_,i64_w,i32_w];rfl)
      refine one_ (i := 2) (N := some 37) (bl_ 7 5) rfl rfl (by kernel_rfl) (by decide) (fun K hK => ?_)
      refine goes_ Try.func17 (by kernel_rfl) rfl #[.agg #[.slice A0_0 l0_0.length c0_0,.int .i64 a0_1]] (by rfl) rfl rfl zM_ ?_
      with_reducible refine (laws_toGraph.calls k _ _ l0_0 a0_1 t391 t394 _ ?side1 ?side2 A56.out).mono ?_
      (case side1 => repeat (first|exact (Kd.C_below HR0_0.out HB.out)|(with_reducible refine Kd.C_alloc ?_ _)|(with_reducible refine Kd.C_drewN ?_ _)|(with_reducible refine Kd.C_drew ?_)))
      (case side2 => exact HC0_0.out)
      rintro e w93 ⟨v392,rfl,ho0,hb⟩
      refine ⟨_,rfl,?_⟩
      have n0_ := As_ (Kd.S_elder' (zS_ HO373.out) (Kd.S_base ho0) hb)
      have n1_ := As_ (Kd.S_elder' (zS_ HO377.out) (Kd.S_base ho0) hb)
      have n2_ := As_ (Kd.S_elder' (zS_ HO382.out) (Kd.S_base ho0) hb)
      have n3_ := As_ (Kd.S_elder' (zS_ HO387.out) (Kd.S_base ho0) hb)
      have n4_ := As_ (Kd.S_lower (Kd.S_new' (Kd.S_new' (Kd.S_new' (Kd.S_new' ho0 (Kd.S_lt (zS_ HO373.out))) (Kd.S_lt (zS_ HO377.out))) (Kd.S_lt (zS_ HO382.out))) (Kd.S_lt (zS_ HO387.out))) (bwZ (by repeat (first|(with_reducible first|exact HB.out|apply bwA|apply bwN|apply bwD|refine bwS ?_ GE367.out|refine bwS ?_ GE368.out|refine bwS ?_ GE384.out|refine bwS ?_ GE389.out)|exact HB.out))))
      have n5_ := As_ (zkb BK367.out hb)
      have n6_ := As_ (zkb BK368.out hb)
      have n7_ := As_ (zkb BK384.out hb)
      have n8_ := As_ (zkb BK389.out hb)
      have n9_ := As_ (bwT (by repeat (first|(with_reducible first|exact HB.out|apply bwA|apply bwN|apply bwD|refine bwS ?_ GE367.out|refine bwS ?_ GE368.out|refine bwS ?_ GE384.out|refine bwS ?_ GE389.out)|exact HB.out)) hb)
      clear HO373
      clear HO377
      clear HO382
      clear HO387
      clear BK367
      clear BK368
      clear BK384
      clear BK389
      clear HB
      have HO373 := n0_
      have HO377 := n1_
      have HO382 := n2_
      have HO387 := n3_
      have HO393 := n4_
      have BK367 := n5_
      have BK368 := n6_
      have BK384 := n7_
      have BK389 := n8_
      have HB := n9_
      clear n0_ n1_ n2_ n3_ n4_ n5_ n6_ n7_ n8_ n9_
      (try clear hb)
      (try clear hb2)
      (try clear hk)
      (try clear hi)
      (try clear ho0)
      obtain ⟨Ao94,co94,eo94⟩ := Kd.S_slice HO393.out
      (first|subst eo94|(injection eo94 with f1_ f2_ f3_;have f4_ := f1_.symm;have f5_ := f3_.symm;clear f1_ f2_ f3_;subst f4_;subst f5_))
      refine hK.out _ _ ⟨(bkC BK384.out 0).trans rfl,(bkC BK384.out 1).trans rfl,(bkC BK367.out 0).trans rfl,(bkC BK367.out 1).trans rfl⟩ (fun hHeld => ?_)
      clear hK K
      refine norm_ (a' := ?_) ?_ ?_
      rotate_left
      ·show Act.put _ (some 37) _ = _
       simp only [Act.put,sq_,i64_w,i32_w]
       rfl
      refine one_ (i := 3) (N := some 38) (bl_ 15 5) rfl rfl (by kernel_rfl) (by decide) (fun K hK => ?_)
      refine goes_ Try.func19 (by kernel_rfl) rfl #[.agg #[.slice Ao78 t380.length co78,.int .i64 t383],.agg #[.slice Ao94 t391.length co94,.int .i64 t394]] (by rfl) rfl rfl zM_ ?_
      with_reducible refine (laws_eqGraph.calls k _ _ t380 t383 _ _ t391 t394 true _ ?side1 ?side2 ?side3 ?side4 A57.out).mono ?_
      (case side1 => repeat (first|exact (Kd.S_reads' HO382.out).2.2|(with_reducible refine Kd.C_alloc ?_ _)|(with_reducible refine Kd.C_drewN ?_ _)|(with_reducible refine Kd.C_drew ?_)))
      (case side2 => exact (Kd.S_reads' HO382.out).2.1)
      (case side3 => repeat (first|exact (Kd.S_reads' HO393.out).2.2|(with_reducible refine Kd.C_alloc ?_ _)|(with_reducible refine Kd.C_drewN ?_ _)|(with_reducible refine Kd.C_drew ?_)))
      (case side4 => exact (Kd.S_reads' HO393.out).2.1)
      rintro e w95 ⟨rfl,hb⟩
      refine ⟨_,rfl,?_⟩
      have n0_ := As_ (Kd.S_below (zS_ HO373.out) hb)
      have n1_ := As_ (Kd.S_below (zS_ HO377.out) hb)
      have n2_ := As_ (Kd.S_below (zS_ HO382.out) hb)
      have n3_ := As_ (Kd.S_below (zS_ HO387.out) hb)
      have n4_ := As_ (Kd.S_below (zS_ HO393.out) hb)
      have n5_ := As_ (zkb BK367.out hb)
      have n6_ := As_ (zkb BK368.out hb)
      have n7_ := As_ (zkb BK384.out hb)
      have n8_ := As_ (zkb BK389.out hb)
      have n9_ := As_ (bwT (by repeat (first|(with_reducible first|exact HB.out|apply bwA|apply bwN|apply bwD|refine bwS ?_ GE367.out|refine bwS ?_ GE368.out|refine bwS ?_ GE384.out|refine bwS ?_ GE389.out)|exact HB.out)) hb)
      clear HO373
      clear HO377
      clear HO382
      clear HO387
      clear HO393
      clear BK367
      clear BK368
      clear BK384
      clear BK389
      clear HB
      have HO373 := n0_
      have HO377 := n1_
      have HO382 := n2_
      have HO387 := n3_
      have HO393 := n4_
      have BK367 := n5_
      have BK368 := n6_
      have BK384 := n7_
      have BK389 := n8_
      have HB := n9_
      clear n0_ n1_ n2_ n3_ n4_ n5_ n6_ n7_ n8_ n9_
      (try clear hb)
      (try clear hb2)
      (try clear hk)
      (try clear hi)
      refine hK.out _ _ ⟨(bkC BK384.out 0).trans rfl,(bkC BK384.out 1).trans rfl,(bkC BK367.out 0).trans rfl,(bkC BK367.out 1).trans rfl⟩ (fun hHeld => ?_)
      clear hK K
      refine norm_ (a' := ?_) ?_ ?_
      rotate_left
      ·show Act.put _ (some 38) _ = _
       simp only [Act.put,sq_,i64_w,i32_w]
       rfl
      refine pure_ (i := 4) (N := some 39) (v := ?_) (a' := ?_) (bl_ 31 5) rfl rfl (by kernel_rfl) (fun _ _ _ h => h) (Or.inl ⟨by rfl,?_⟩) ?_ ?_;rotate_left;(intro w';go_simp;with_reducible rfl);rotate_left;(simp only [Act.put,sq_,i64_w,i32_w];rfl)
      refine done_ (by kernel_rfl) ?_
      try go_wp2
      have n0_ := As_ (Kd.S_drew HO373.out)
      have n1_ := As_ (Kd.S_drew HO377.out)
      have n2_ := As_ (Kd.S_drew HO382.out)
      have n3_ := As_ (Kd.S_drew HO387.out)
      have n4_ := As_ (Kd.S_drew HO393.out)
      have n5_ := As_ (bkD BK367.out)
      have n6_ := As_ (bkD BK368.out)
      have n7_ := As_ (bkD BK384.out)
      have n8_ := As_ (bkD BK389.out)
      have n9_ := As_ (bwD HB.out)
      clear HO373
      clear HO377
      clear HO382
      clear HO387
      clear HO393
      clear BK367
      clear BK368
      clear BK384
      clear BK389
      clear HB
      have HO373 := n0_
      have HO377 := n1_
      have HO382 := n2_
      have HO387 := n3_
      have HO393 := n4_
      have BK367 := n5_
      have BK368 := n6_
      have BK384 := n7_
      have BK389 := n8_
      have HB := n9_
      clear n0_ n1_ n2_ n3_ n4_ n5_ n6_ n7_ n8_ n9_
      refine start_ (n := 5) (S := fun w' => w'.cell? ⟨gb389,0,none⟩ = some (.slice Ao85 t385.length co85) ∧ w'.cell? ⟨gb389,1,none⟩ = some (.int .i64 t388) ∧ w'.cell? ⟨gb368,0,none⟩ = some (.slice A1_0 l1_0.length c1_0) ∧ w'.cell? ⟨gb368,1,none⟩ = some (.int .i64 a1_1)) (ds := []) (bl_ 0 5) (by kernel_rfl) rfl rfl ⟨(bkC BK389.out 0).trans rfl,(bkC BK389.out 1).trans rfl,(bkC BK368.out 0).trans rfl,(bkC BK368.out 1).trans rfl⟩ (fun hHeld => ?_)
      generalize w95.drew = w96 at HO373 HO377 HO382 HO387 HO393 BK367 BK368 BK384 BK389 HB hHeld ⊢
      refine take_ (i := 0) (N := some 40) (v := ?_) (a' := ?_) (bl_ 1 5) rfl rfl (by kernel_rfl) (fun _ _ _ h => h) (Or.inl ⟨by rfl,?_⟩) hHeld ?_ ?_;rotate_left;(rintro w' ⟨s0,s1,s2,s3⟩;go_simp;with_reducible rfl);rotate_left;(simp only [Act.put,sq_,i64_w,i32_w];rfl)
      refine take_ (i := 1) (N := some 41) (v := ?_) (a' := ?_) (bl_ 3 5) rfl rfl (by kernel_rfl) (fun _ _ _ h => h) (Or.inl ⟨by rfl,?_⟩) hHeld ?_ ?_;rotate_left;(rintro w' ⟨s0,s1,s2,s3⟩;go_simp;with_reducible rfl);rotate_left;(simp only [Act.put,sq_,i64_w,i32_w];rfl)
      refine one_ (i := 2) (N := some 42) (bl_ 7 5) rfl rfl (by kernel_rfl) (by decide) (fun K hK => ?_)
      refine goes_ Try.func17 (by kernel_rfl) rfl #[.agg #[.slice A1_0 l1_0.length c1_0,.int .i64 a1_1]] (by rfl) rfl rfl zM_ ?_
      with_reducible refine (laws_toGraph.calls k _ _ l1_0 a1_1 t396 t399 _ ?side1 ?side2 A59.out).mono ?_
      (case side1 => repeat (first|exact (Kd.C_below HR1_0.out HB.out)|(with_reducible refine Kd.C_alloc ?_ _)|(with_reducible refine Kd.C_drewN ?_ _)|(with_reducible refine Kd.C_drew ?_)))
      (case side2 => exact HC1_0.out)
      rintro e w97 ⟨v397,rfl,ho0,hb⟩
      refine ⟨_,rfl,?_⟩
      have n0_ := As_ (Kd.S_elder' (zS_ HO373.out) (Kd.S_base ho0) hb)
      have n1_ := As_ (Kd.S_elder' (zS_ HO377.out) (Kd.S_base ho0) hb)
      have n2_ := As_ (Kd.S_elder' (zS_ HO382.out) (Kd.S_base ho0) hb)
      have n3_ := As_ (Kd.S_elder' (zS_ HO387.out) (Kd.S_base ho0) hb)
      have n4_ := As_ (Kd.S_elder' (zS_ HO393.out) (Kd.S_base ho0) hb)
      have n5_ := As_ (Kd.S_lower (Kd.S_new' (Kd.S_new' (Kd.S_new' (Kd.S_new' (Kd.S_new' ho0 (Kd.S_lt (zS_ HO373.out))) (Kd.S_lt (zS_ HO377.out))) (Kd.S_lt (zS_ HO382.out))) (Kd.S_lt (zS_ HO387.out))) (Kd.S_lt (zS_ HO393.out))) (bwZ (by repeat (first|(with_reducible first|exact HB.out|apply bwA|apply bwN|apply bwD|refine bwS ?_ GE367.out|refine bwS ?_ GE368.out|refine bwS ?_ GE384.out|refine bwS ?_ GE389.out)|exact HB.out))))
      have n6_ := As_ (zkb BK367.out hb)
      have n7_ := As_ (zkb BK368.out hb)
      have n8_ := As_ (zkb BK384.out hb)
      have n9_ := As_ (zkb BK389.out hb)
      have n10_ := As_ (bwT (by repeat (first|(with_reducible first|exact HB.out|apply bwA|apply bwN|apply bwD|refine bwS ?_ GE367.out|refine bwS ?_ GE368.out|refine bwS ?_ GE384.out|refine bwS ?_ GE389.out)|exact HB.out)) hb)
      clear HO373
      clear HO377
      clear HO382
      clear HO387
      clear HO393
      clear BK367
      clear BK368
      clear BK384
      clear BK389
      clear HB
      have HO373 := n0_
      have HO377 := n1_
      have HO382 := n2_
      have HO387 := n3_
      have HO393 := n4_
      have HO398 := n5_
      have BK367 := n6_
      have BK368 := n7_
      have BK384 := n8_
      have BK389 := n9_
      have HB := n10_
      clear n0_ n1_ n2_ n3_ n4_ n5_ n6_ n7_ n8_ n9_ n10_
      (try clear hb)
      (try clear hb2)
      (try clear hk)
      (try clear hi)
      (try clear ho0)
      obtain ⟨Ao98,co98,eo98⟩ := Kd.S_slice HO398.out
      (first|subst eo98|(injection eo98 with f1_ f2_ f3_;have f4_ := f1_.symm;have f5_ := f3_.symm;clear f1_ f2_ f3_;subst f4_;subst f5_))
      refine hK.out _ _ ⟨(bkC BK389.out 0).trans rfl,(bkC BK389.out 1).trans rfl,(bkC BK368.out 0).trans rfl,(bkC BK368.out 1).trans rfl⟩ (fun hHeld => ?_)
      clear hK K
      refine norm_ (a' := ?_) ?_ ?_
      rotate_left
      ·show Act.put _ (some 42) _ = _
       simp only [Act.put,sq_,i64_w,i32_w]
       rfl
      refine one_ (i := 3) (N := some 43) (bl_ 15 5) rfl rfl (by kernel_rfl) (by decide) (fun K hK => ?_)
      refine goes_ Try.func19 (by kernel_rfl) rfl #[.agg #[.slice Ao85 t385.length co85,.int .i64 t388],.agg #[.slice Ao98 t396.length co98,.int .i64 t399]] (by rfl) rfl rfl zM_ ?_
      with_reducible refine (laws_eqGraph.calls k _ _ t385 t388 _ _ t396 t399 true _ ?side1 ?side2 ?side3 ?side4 A60.out).mono ?_
      (case side1 => repeat (first|exact (Kd.S_reads' HO387.out).2.2|(with_reducible refine Kd.C_alloc ?_ _)|(with_reducible refine Kd.C_drewN ?_ _)|(with_reducible refine Kd.C_drew ?_)))
      (case side2 => exact (Kd.S_reads' HO387.out).2.1)
      (case side3 => repeat (first|exact (Kd.S_reads' HO398.out).2.2|(with_reducible refine Kd.C_alloc ?_ _)|(with_reducible refine Kd.C_drewN ?_ _)|(with_reducible refine Kd.C_drew ?_)))
      (case side4 => exact (Kd.S_reads' HO398.out).2.1)
      rintro e w99 ⟨rfl,hb⟩
      refine ⟨_,rfl,?_⟩
      have n0_ := As_ (Kd.S_below (zS_ HO373.out) hb)
      have n1_ := As_ (Kd.S_below (zS_ HO377.out) hb)
      have n2_ := As_ (Kd.S_below (zS_ HO382.out) hb)
      have n3_ := As_ (Kd.S_below (zS_ HO387.out) hb)
      have n4_ := As_ (Kd.S_below (zS_ HO393.out) hb)
      have n5_ := As_ (Kd.S_below (zS_ HO398.out) hb)
      have n6_ := As_ (zkb BK367.out hb)
      have n7_ := As_ (zkb BK368.out hb)
      have n8_ := As_ (zkb BK384.out hb)
      have n9_ := As_ (zkb BK389.out hb)
      have n10_ := As_ (bwT (by repeat (first|(with_reducible first|exact HB.out|apply bwA|apply bwN|apply bwD|refine bwS ?_ GE367.out|refine bwS ?_ GE368.out|refine bwS ?_ GE384.out|refine bwS ?_ GE389.out)|exact HB.out)) hb)
      clear HO373
      clear HO377
      clear HO382
      clear HO387
      clear HO393
      clear HO398
      clear BK367
      clear BK368
      clear BK384
      clear BK389
      clear HB
      have HO373 := n0_
      have HO377 := n1_
      have HO382 := n2_
      have HO387 := n3_
      have HO393 := n4_
      have HO398 := n5_
      have BK367 := n6_
      have BK368 := n7_
      have BK384 := n8_
      have BK389 := n9_
      have HB := n10_
      clear n0_ n1_ n2_ n3_ n4_ n5_ n6_ n7_ n8_ n9_ n10_
      (try clear hb)
      (try clear hb2)
      (try clear hk)
      (try clear hi)
      refine hK.out _ _ ⟨(bkC BK389.out 0).trans rfl,(bkC BK389.out 1).trans rfl,(bkC BK368.out 0).trans rfl,(bkC BK368.out 1).trans rfl⟩ (fun hHeld => ?_)
      clear hK K
      refine norm_ (a' := ?_) ?_ ?_
      rotate_left
      ·show Act.put _ (some 43) _ = _
       simp only [Act.put,sq_,i64_w,i32_w]
       rfl
      refine pure_ (i := 4) (N := some 44) (v := ?_) (a' := ?_) (bl_ 31 5) rfl rfl (by kernel_rfl) (fun _ _ _ h => h) (Or.inl ⟨by rfl,?_⟩) ?_ ?_;rotate_left;(intro w';go_simp;with_reducible rfl);rotate_left;(simp only [Act.put,sq_,i64_w,i32_w];rfl)
      refine done_ (by kernel_rfl) ?_
      try go_wp2
      go_ret
      exact ⟨by first|rfl|(simp [errW_none,errW_some] <;> rfl)|(simp [*,errW_none,errW_some] <;> rfl),by repeat (first|(with_reducible first|exact HB.out|apply bwA|apply bwN|apply bwD|refine bwS ?_ GE367.out|refine bwS ?_ GE368.out|refine bwS ?_ GE384.out|refine bwS ?_ GE389.out)|exact HB.out)⟩
     ·replace c61 := Bool.eq_false_iff.mpr c61
      subst c61
      have H1 : (none) = some r := by rw [if_neg (show ¬ (false = true) by decide)] at H;exact H
      clear H
      have H := H1
      clear H1
      exact absurd H (by simp)
    ·replace c58 := Bool.eq_false_iff.mpr c58
     subst c58
     have H1 : (none) = some r := by rw [if_neg (show ¬ (false = true) by decide)] at H;exact H
     clear H
     have H := H1
     clear H1
     exact absurd H (by simp)

/-- THE ONE PURE STATEMENT of laws_FnExactEqualDeep. -/
def laws_FnExactEqualDeep.Pure : Prop := ∀ (l0_0 : List (S74)) (a0_1 : Int) (l1_0 : List (S74)) (a1_1 : Int),(l0_0.length ≤ maxLen ∧ (∀ x_ ∈ l0_0,(Lit.int .i64 x_.f0).wf = true ∧ (Lit.int .i64 x_.f1).wf = true ∧ x_.f2.length ≤ maxLen ∧ (∀ xx_ ∈ x_.f2,(Lit.int .i64 xx_).wf = true))) → ((Lit.int .i64 a0_1).wf = true) → (l1_0.length ≤ maxLen ∧ (∀ x_ ∈ l1_0,(Lit.int .i64 x_.f0).wf = true ∧ (Lit.int .i64 x_.f1).wf = true ∧ x_.f2.length ≤ maxLen ∧ (∀ xx_ ∈ x_.f2,(Lit.int .i64 xx_).wf = true))) → ((Lit.int .i64 a1_1).wf = true) → ∃ k,laws_FnExactEqualDeep.f k l0_0 a0_1 l1_0 a1_1 = some true
theorem laws_FnExactEqualDeep.walk (P : laws_FnExactEqualDeep.Pure) (A0_0 : Option Addr) (c0_0 : Nat) (l0_0 : List (S74)) (a0_1 : Int) (A1_0 : Option Addr) (c1_0 : Nat) (l1_0 : List (S74)) (a1_1 : Int) (w : World) (hr0_0 : Kd.C k74 w A0_0 l0_0.length l0_0) (hc0_0 : l0_0.length ≤ c0_0) (hr1_0 : Kd.C k74 w A1_0 l1_0.length l1_0) (hc1_0 : l1_0.length ≤ c1_0) (hg0 : l0_0.length ≤ maxLen ∧ (∀ x_ ∈ l0_0,(Lit.int .i64 x_.f0).wf = true ∧ (Lit.int .i64 x_.f1).wf = true ∧ x_.f2.length ≤ maxLen ∧ (∀ xx_ ∈ x_.f2,(Lit.int .i64 xx_).wf = true))) (hg1 : (Lit.int .i64 a0_1).wf = true) (hg2 : l1_0.length ≤ maxLen ∧ (∀ x_ ∈ l1_0,(Lit.int .i64 x_.f0).wf = true ∧ (Lit.int .i64 x_.f1).wf = true ∧ x_.f2.length ≤ maxLen ∧ (∀ xx_ ∈ x_.f2,(Lit.int .i64 xx_).wf = true))) (hg3 : (Lit.int .i64 a1_1).wf = true) :
  Calls Try.prog 3 #[.agg #[.slice A0_0 l0_0.length c0_0,.int .i64 a0_1],.agg #[.slice A1_0 l1_0.length c1_0,.int .i64 a1_1]] w fun e w' => e = .returned (.bool true) ∧ Below w.heap.size w w' := by
 obtain ⟨k,h⟩ := P l0_0 a0_1 l1_0 a1_1 hg0 hg1 hg2 hg3
 refine (laws_FnExactEqualDeep.calls k _ _ l0_0 a0_1 _ _ l1_0 a1_1 true w hr0_0 hc0_0 hr1_0 hc1_0 h).mono ?_
 rintro e w' ⟨rfl,hd⟩
 exact ⟨rfl,hd⟩

end Go.Proofs.Ytfhakhbmbnbneaa.Q
