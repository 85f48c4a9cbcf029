-- Written by wip/tools/qprint.py (a program of this claim's author) by means of the kit's printer.
import Derived.Test.YtfhakhbmbnbneaaQ0
import Derived.Test.YtfhakhbmbnbneaaQ48
import Derived.Test.YtfhakhbmbnbneaaQ73
namespace Go.Proofs.Ytfhakhbmbnbneaa.Q
open Go.RowKit Go.Proofs.YtfhakhbmbnbneaaW.PrintWords Go.Proofs.YtfhakhbmbnbneaaW.PrintLast Go.Proofs.YtfhakhbmbnbneaaW.PrintMore
attribute [local go_sem] max2_int min2_int max_two min_two max_three min_three max_four min_four   -- for this text's walks alone
set_option linter.unusedVariables false
set_option linter.unusedSimpArgs false

/-! ### spec_ReachOf: function 35 -/
def spec_ReachOf.f (k : Nat) (l0_0 : List (S45)) (a0_1 : Int) : Option (List Int) := (spec_validGraph.f k l0_0 a0_1).bind fun t809 => (if t809 = true then ((spec_reach.f k l0_0 a0_1 a0_1 (([] : List Int))).bind fun t813 => (some t813)) else (some ([] : List Int)))
set_option maxRecDepth 100000 in
theorem spec_ReachOf.mono : ∀ a0 a1 k,LeO (spec_ReachOf.f k a0 a1) (spec_ReachOf.f (k + 1) a0 a1) := by
 intro a0 a1 k
 unfold spec_ReachOf.f
 repeat' first
   | (with_reducible exact spec_reach.mono _ _ _ _ _)
   | (with_reducible exact spec_validGraph.mono _ _ _)
   | (with_reducible exact LeO.refl _)
   | (with_reducible exact LeO.none _)
   | (with_reducible refine LeO.ite ?_ ?_)
   | (with_reducible refine LeO.bind ?_ (fun _ => ?_))
   | exact spec_reach.mono _ _ _ _ _
   | exact spec_validGraph.mono _ _ _
   | exact LeO.none _
   | refine LeO.ite ?_ ?_
   | refine LeO.bind ?_ (fun _ => ?_)
set_option maxHeartbeats 8000000 in
set_option maxRecDepth 100000 in
theorem spec_ReachOf.calls (k : Nat) (A0_0 : Option Addr) (c0_0 : Nat) (l0_0 : List (S45)) (a0_1 : Int) (r : List Int) (w : World) (hr0_0 : Kd.C k45 w A0_0 l0_0.length l0_0) (hc0_0 : l0_0.length ≤ c0_0) (h : spec_ReachOf.f k l0_0 a0_1 = some r) :
  Calls Try.prog 35 #[.agg #[.slice A0_0 l0_0.length c0_0,.int .i64 a0_1]] w fun e w' => ∃ v0_ : Value,e = .returned (v0_) ∧ Kd.R (Kd.int .i64) 3 w' w.heap.size (fun _ => True) v0_ r ∧ Below w.heap.size w w' := by
 have hu29 := Try.underlying29
 have HR0_0 := As_ hr0_0
 have HC0_0 := As_ hc0_0
 clear hr0_0 hc0_0
 have HB := As_ (Below.refl w.heap.size w)
 have H : ((spec_validGraph.f k l0_0 a0_1).bind fun t809 => (if t809 = true then ((spec_reach.f k l0_0 a0_1 a0_1 (([] : List Int))).bind fun t813 => (some t813)) else (some ([] : List Int)))) = some r := h
 clear h
 replace H := obS H
 obtain ⟨t809,A20,H⟩ := H
 replace H : (if t809 = true then ((spec_reach.f k l0_0 a0_1 a0_1 (([] : List Int))).bind fun t813 => (some t813)) else (some ([] : List Int))) = some r := H
 have A2 := As_ A20
 clear A20
 by_cases c3 : t809 = true
 ·subst c3
  have H1 : ((spec_reach.f k l0_0 a0_1 a0_1 (([] : List Int))).bind fun t813 => (some t813)) = some r := by rw [if_pos rfl] at H;exact H
  clear H
  have H := H1
  clear H1
  obtain ⟨y810,hy810⟩ : ∃ y_ : List Int,y_ = (([] : List Int)) := ⟨_,rfl⟩
  replace H : ((spec_reach.f k l0_0 a0_1 a0_1 y810).bind fun t813 => (some t813)) = some r := by first|(rw [hy810];with_reducible exact H)|(have H2_ := (Option.bind_some _ _).symm.trans H;rw [hy810];with_reducible exact H2_)|(have H2_ := (Option.bind_some _ _).symm.trans H;with_reducible exact H2_)|with_reducible exact H|(rw [hy810];exact H)|exact H
  have Ny810 := As_ hy810
  clear hy810
  replace H := obS H
  obtain ⟨t813,A40,H⟩ := H
  replace H : (some t813) = some r := H
  have A4 := As_ A40
  clear A40
  obtain rfl := Option.some.inj H
  go_enter Try.func35,Try.ntmps35
  go_wp2_with (first|((with_reducible refine gate_dst (N := 1) rfl ?_);refine box_event ?hg (N := 1) ?hd (cs := #[.slice A0_0 l0_0.length c0_0,.int .i64 a0_1]) (t := 29) ?hr ?_;(case hd => rfl);(case hg => rfl);(case hr => go_simp <;> rfl);intro gb808 hg w5 hbox hb;have n0_ := As_ (bwT (zb0 HB.out) hb);have n1_ := As_ (hbox);have n2_ := As_ ((by rw [hg];exact (bwZ (zb0 HB.out)) : w.heap.size ≤ gb808));have n3_ := As_ ((by rw [hg];exact (bwZ (zb0 HB.out)) : w.heap.size ≤ gb808));clear HB;have HB := n0_;have BK808 := n1_;have GW808 := n2_;have GE808 := n3_;clear n0_ n1_ n2_ n3_;clear hb hbox hg;have hcz6_0 : w5.cell? ⟨gb808,0,none⟩ = some (.slice A0_0 l0_0.length c0_0) := (bkC BK808.out 0).trans rfl;have hcz6_1 : w5.cell? ⟨gb808,1,none⟩ = some (.int .i64 a0_1) := (bkC BK808.out 1).trans rfl;have hfz6_0 := bkF BK808.out 0;have hfz6_1 := bkF BK808.out 1)|((with_reducible refine gate_callee (f := 48) rfl ?_);refine goesL_ (some 4) rfl rfl Try.func48 (by kernel_rfl) rfl #[.agg #[.slice A0_0 l0_0.length c0_0,.int .i64 a0_1]] rfl zM_ ?_;(with_reducible refine (spec_validGraph.calls k _ _ l0_0 a0_1 true _ ?side1 ?side2 A2.out).mono ?_);(case side1 => repeat (first|exact (Kd.C_below HR0_0.out HB.out)|(with_reducible refine Kd.C_alloc ?_ _)|(with_reducible refine Kd.C_drewN ?_ _)|(with_reducible refine Kd.C_drew ?_)));(case side2 => exact HC0_0.out);rintro e w7 ⟨rfl,hb⟩;refine ⟨_,rfl,?_⟩;have n0_ := As_ (zkb BK808.out hb);have n1_ := As_ (bwT (zb1 HB.out GE808.out) hb);clear BK808;clear HB;have BK808 := n0_;have HB := n1_;clear n0_ n1_;(try clear hb);(try clear hb2);(try clear hk);(try clear hi);have hcz8_0 : w7.cell? ⟨gb808,0,none⟩ = some (.slice A0_0 l0_0.length c0_0) := (bkC BK808.out 0).trans rfl;have hcz8_1 : w7.cell? ⟨gb808,1,none⟩ = some (.int .i64 a0_1) := (bkC BK808.out 1).trans rfl;have hfz8_0 := bkF BK808.out 0;have hfz8_1 := bkF BK808.out 1)|((with_reducible refine gate_dst (N := 9) rfl ?_);refine Kd.R_lit (Kd.int .i64) _ 3 ?hg (N := 9) ?hd (xs := ([] : List Int)) (inner := []) (ok := fun _ => True) (okp := fun _ => True) ?hr ?hp (fun _ hk => hk) trivial (Below.refl _ _) (Nat.le_refl _) (by simp) ?_;(case hd => rfl);(case hg => rfl);(case hr => go_simp <;> rfl);(case hp => exact (Reps.none _ _));intro v811 w9 ho10 hb hg_ hnew_;clear hg_ hnew_;(first|rw [← Ny810.out] at ho10|(simp only [Int.reduceToNat] at ho10;rw [← Ny810.out] at ho10));have n0_ := As_ (Kd.R_lower ho10 (bwZ (zb1 HB.out GE808.out)));have n1_ := As_ (zkb BK808.out hb);have n2_ := As_ (bwT (zb1 HB.out GE808.out) hb);clear BK808;clear HB;have HO812 := n0_;have BK808 := n1_;have HB := n2_;clear n0_ n1_ n2_;clear hb ho10;obtain ⟨Ao11,co11,eo11⟩ := Kd.R_slice HO812.out;subst eo11)|((with_reducible refine gate_callee (f := 73) rfl ?_);refine goesL_ (some 10) rfl rfl Try.func73 (by kernel_rfl) rfl #[.agg #[.slice A0_0 l0_0.length c0_0,.int .i64 a0_1],.int .i64 a0_1,.slice Ao11 y810.length co11] rfl zM_ ?_;(with_reducible refine (spec_reach.calls k _ _ l0_0 a0_1 a0_1 (fun k_ => some k_ = (.slice Ao11 y810.length co11 : Value).ownBlock) (.slice Ao11 y810.length co11) y810 t813 w _ ?side1 ?side2 ?side3 ?side4 A4.out).mono ?_);(case side1 => exact zb1 HB.out GE808.out);(case side2 => exact Kd.C_kept_came k45_heap HR0_0.out (zb1 HB.out GE808.out) (fun k_ hs_ => (fun e_ => Kd.R_base HO812.out k_ e_.symm) hs_));(case side3 => exact HC0_0.out);(case side4 => exact Kd.R_tight rfl HO812.out);rintro e w12 ⟨v814,rfl,ho0,hb,hkp⟩;refine ⟨_,rfl,?_⟩;have n0_ := As_ (blk_kept (zk_ BK808.out) hkp (fun hs_ => (fun e_ => (Kd.R_ne HO812.out BK808.out (by decide)) e_) hs_));have n1_ := As_ (Kd.R_mono (ok' := fun k_ => True) ho0 (fun k_ hk_ => trivial));have n2_ := As_ (hb);clear BK808;clear HB;clear HO812;have BK808 := n0_;have HO815 := n1_;have HB := n2_;clear n0_ n1_ n2_;(try clear hb);(try clear hkp);(try clear ho0)))
  go_ret
  exact ⟨_,by first|rfl|(simp [errW_none,errW_some] <;> rfl)|(simp [*,errW_none,errW_some] <;> rfl),by (with_reducible repeat (first|apply Kd.R_alloc|apply Kd.R_drewN|apply Kd.R_drew));exact HO815.out,zb1 HB.out GE808.out⟩
 ·replace c3 := Bool.eq_false_iff.mpr c3
  subst c3
  have H1 : (some ([] : List Int)) = some r := by rw [if_neg (show ¬ (false = true) by decide)] at H;exact H
  clear H
  have H := H1
  clear H1
  obtain rfl := Option.some.inj H
  go_enter Try.func35,Try.ntmps35
  go_wp2_with (first|((with_reducible refine gate_dst (N := 1) rfl ?_);refine box_event ?hg (N := 1) ?hd (cs := #[.slice A0_0 l0_0.length c0_0,.int .i64 a0_1]) (t := 29) ?hr ?_;(case hd => rfl);(case hg => rfl);(case hr => go_simp <;> rfl);intro gb808 hg w13 hbox hb;have n0_ := As_ (bwT (zb0 HB.out) hb);have n1_ := As_ (hbox);have n2_ := As_ ((by rw [hg];exact (bwZ (zb0 HB.out)) : w.heap.size ≤ gb808));have n3_ := As_ ((by rw [hg];exact (bwZ (zb0 HB.out)) : w.heap.size ≤ gb808));clear HB;have HB := n0_;have BK808 := n1_;have GW808 := n2_;have GE808 := n3_;clear n0_ n1_ n2_ n3_;clear hb hbox hg;have hcz14_0 : w13.cell? ⟨gb808,0,none⟩ = some (.slice A0_0 l0_0.length c0_0) := (bkC BK808.out 0).trans rfl;have hcz14_1 : w13.cell? ⟨gb808,1,none⟩ = some (.int .i64 a0_1) := (bkC BK808.out 1).trans rfl;have hfz14_0 := bkF BK808.out 0;have hfz14_1 := bkF BK808.out 1)|((with_reducible refine gate_callee (f := 48) rfl ?_);refine goesL_ (some 4) rfl rfl Try.func48 (by kernel_rfl) rfl #[.agg #[.slice A0_0 l0_0.length c0_0,.int .i64 a0_1]] rfl zM_ ?_;(with_reducible refine (spec_validGraph.calls k _ _ l0_0 a0_1 false _ ?side1 ?side2 A2.out).mono ?_);(case side1 => repeat (first|exact (Kd.C_below HR0_0.out HB.out)|(with_reducible refine Kd.C_alloc ?_ _)|(with_reducible refine Kd.C_drewN ?_ _)|(with_reducible refine Kd.C_drew ?_)));(case side2 => exact HC0_0.out);rintro e w15 ⟨rfl,hb⟩;refine ⟨_,rfl,?_⟩;have n0_ := As_ (zkb BK808.out hb);have n1_ := As_ (bwT (zb1 HB.out GE808.out) hb);clear BK808;clear HB;have BK808 := n0_;have HB := n1_;clear n0_ n1_;(try clear hb);(try clear hb2);(try clear hk);(try clear hi)))
  go_ret
  exact ⟨_,by first|rfl|(simp [errW_none,errW_some] <;> rfl)|(simp [*,errW_none,errW_some] <;> rfl),by first|exact Kd.R_nil _ _ _ _ _|exact Kd.N_nil _ _ _ _ _|exact Kd.V_nil _ _ _ _ _|exact Kd.Q_nil _ _ _ _ _|exact Kd.S_nil _ _ _ _ _,zb1 HB.out GE808.out⟩

end Go.Proofs.Ytfhakhbmbnbneaa.Q
