-- Written by wip/tools/qprint.py (a program of this claim's author) by means of the kit's printer.
import Derived.Test.YtapaegcombfafaaQ0
import Derived.Test.YtapaegcombfafaaQ41
import Derived.Test.YtapaegcombfafaaQ42
namespace Go.Proofs.Ytapaegcombfafaa.Q
open Go.RowKit Go.Proofs.YtapaegcombfafaaW.PrintWords Go.Proofs.YtapaegcombfafaaW.PrintLast Go.Proofs.YtapaegcombfafaaW.PrintMore
attribute [local go_sem] max2_int min2_int max_two min_two max_three min_three max_four min_four   -- for this text's walks alone
set_option linter.unusedVariables false
set_option linter.unusedSimpArgs false

/-! ### impl_CodeMany: function 12 -/
def impl_CodeMany.f (k : Nat) (l0_0 : List (S58)) (a0_1 : Int) (l1 : List Int) : Option (List Int) := (impl_rootsOk.f k l0_0 a0_1 l1).bind fun t338 => (if t338 = true then ((impl_codesOf.f k l0_0 l1).bind fun t339 => (some t339)) else (some ([] : List Int)))
set_option maxRecDepth 100000 in
theorem impl_CodeMany.mono : ∀ a0 a1 a2 k,LeO (impl_CodeMany.f k a0 a1 a2) (impl_CodeMany.f (k + 1) a0 a1 a2) := by
 intro a0 a1 a2 k
 unfold impl_CodeMany.f
 repeat' first
   | (with_reducible exact impl_codesOf.mono _ _ _)
   | (with_reducible exact impl_rootsOk.mono _ _ _ _)
   | (with_reducible exact LeO.refl _)
   | (with_reducible exact LeO.none _)
   | (with_reducible refine LeO.ite ?_ ?_)
   | (with_reducible refine LeO.bind ?_ (fun _ => ?_))
   | exact impl_codesOf.mono _ _ _
   | exact impl_rootsOk.mono _ _ _ _
   | exact LeO.none _
   | refine LeO.ite ?_ ?_
   | refine LeO.bind ?_ (fun _ => ?_)
set_option maxHeartbeats 8000000 in
set_option maxRecDepth 100000 in
theorem impl_CodeMany.calls (k : Nat) (A0_0 : Option Addr) (c0_0 : Nat) (l0_0 : List (S58)) (a0_1 : Int) (A1 : Option Addr) (c1 : Nat) (l1 : List Int) (r : List Int) (w : World) (hr0_0 : Kd.C k58 w A0_0 l0_0.length l0_0) (hc0_0 : l0_0.length ≤ c0_0) (hr1 : Kd.C (Kd.int .i64) w A1 l1.length l1) (hc1 : l1.length ≤ c1) (h : impl_CodeMany.f k l0_0 a0_1 l1 = some r) :
  Calls Try.prog 12 #[.agg #[.slice A0_0 l0_0.length c0_0,.int .i64 a0_1],.slice A1 l1.length c1] w fun e w' => ∃ v0_ : Value,e = .returned (v0_) ∧ Kd.R (Kd.int .i64) 3 w' w.heap.size (fun _ => True) v0_ r ∧ Below w.heap.size w w' := by
 have hu25 := Try.underlying25
 have HR0_0 := As_ hr0_0
 have HC0_0 := As_ hc0_0
 clear hr0_0 hc0_0
 have HR1 := As_ hr1
 have HC1 := As_ hc1
 clear hr1 hc1
 have HB := As_ (Below.refl w.heap.size w)
 have H : ((impl_rootsOk.f k l0_0 a0_1 l1).bind fun t338 => (if t338 = true then ((impl_codesOf.f k l0_0 l1).bind fun t339 => (some t339)) else (some ([] : List Int)))) = some r := h
 clear h
 replace H := obS H
 obtain ⟨t338,A30,H⟩ := H
 replace H : (if t338 = true then ((impl_codesOf.f k l0_0 l1).bind fun t339 => (some t339)) else (some ([] : List Int))) = some r := H
 have A3 := As_ A30
 clear A30
 by_cases c4 : t338 = true
 rotate_left
 ·replace c4 := Bool.eq_false_iff.mpr c4
  subst c4
  have H1 : (some ([] : List Int)) = some r := by rw [if_neg (show ¬ (false = true) by decide)] at H;exact H
  clear H
  have H := H1
  clear H1
  obtain rfl := Option.some.inj H
  go_enter Try.func12,Try.ntmps12
  go_wp2_with (first|((with_reducible refine gate_dst (N := 2) rfl ?_);refine box_event ?hg (N := 2) ?hd (cs := #[.slice A0_0 l0_0.length c0_0,.int .i64 a0_1]) (t := 25) ?hr ?_;(case hd => rfl);(case hg => rfl);(case hr => go_simp <;> rfl);intro gb337 hg w11 hbox hb;have n0_ := As_ (bwT (zb0 HB.out) hb);have n1_ := As_ (hbox);have n2_ := As_ ((by rw [hg];exact (bwZ (zb0 HB.out)) : w.heap.size ≤ gb337));have n3_ := As_ ((by rw [hg];exact (bwZ (zb0 HB.out)) : w.heap.size ≤ gb337));clear HB;revert n0_ n1_ n2_ n3_;intro HB BK337 GW337 GE337;clear hb hbox hg;obtain ⟨hcz12_0,hcz12_1,hfz12_0,hfz12_1⟩ := bk2 BK337.out)|((with_reducible refine gate_callee (f := 41) rfl ?_);refine goesL_ (some 7) rfl rfl Try.func41 (by kernel_rfl) rfl #[.agg #[.slice A0_0 l0_0.length c0_0,.int .i64 a0_1],.slice A1 l1.length c1] rfl zM_ ?_;(with_reducible refine (impl_rootsOk.calls k _ _ l0_0 a0_1 _ _ l1 false _ ?side1 ?side2 ?side3 ?side4 A3.out).mono ?_);(case side1 => exact zC_ (Kd.C_below HR0_0.out HB.out));(case side2 => exact HC0_0.out);(case side3 => exact zC_ (Kd.C_below HR1.out HB.out));(case side4 => exact HC1.out);rintro e w13 ⟨rfl,hb⟩;refine ⟨_,rfl,?_⟩;have n0_ := As_ (zkb BK337.out hb);have n1_ := As_ (bwT (zb1 HB.out GE337.out) hb);clear BK337 HB;revert n0_ n1_;intro BK337 HB))
  go_ret
  exact ⟨_,zE_,by first|exact Kd.R_nil _ _ _ _ _|exact Kd.N_nil _ _ _ _ _|exact Kd.V_nil _ _ _ _ _|exact Kd.Q_nil _ _ _ _ _|exact Kd.S_nil _ _ _ _ _,zb1 HB.out GE337.out⟩

 subst c4
 have H1 : ((impl_codesOf.f k l0_0 l1).bind fun t339 => (some t339)) = some r := by rw [if_pos rfl] at H;exact H
 clear H
 have H := H1
 clear H1
 replace H := obS H
 obtain ⟨t339,A50,H⟩ := H
 replace H : (some t339) = some r := H
 have A5 := As_ A50
 clear A50
 obtain rfl := Option.some.inj H
 go_enter Try.func12,Try.ntmps12
 go_wp2_with (first|((with_reducible refine gate_dst (N := 2) rfl ?_);refine box_event ?hg (N := 2) ?hd (cs := #[.slice A0_0 l0_0.length c0_0,.int .i64 a0_1]) (t := 25) ?hr ?_;(case hd => rfl);(case hg => rfl);(case hr => go_simp <;> rfl);intro gb337 hg w6 hbox hb;have n0_ := As_ (bwT (zb0 HB.out) hb);have n1_ := As_ (hbox);have n2_ := As_ ((by rw [hg];exact (bwZ (zb0 HB.out)) : w.heap.size ≤ gb337));have n3_ := As_ ((by rw [hg];exact (bwZ (zb0 HB.out)) : w.heap.size ≤ gb337));clear HB;revert n0_ n1_ n2_ n3_;intro HB BK337 GW337 GE337;clear hb hbox hg;obtain ⟨hcz7_0,hcz7_1,hfz7_0,hfz7_1⟩ := bk2 BK337.out)|((with_reducible refine gate_callee (f := 41) rfl ?_);refine goesL_ (some 7) rfl rfl Try.func41 (by kernel_rfl) rfl #[.agg #[.slice A0_0 l0_0.length c0_0,.int .i64 a0_1],.slice A1 l1.length c1] rfl zM_ ?_;(with_reducible refine (impl_rootsOk.calls k _ _ l0_0 a0_1 _ _ l1 true _ ?side1 ?side2 ?side3 ?side4 A3.out).mono ?_);(case side1 => exact zC_ (Kd.C_below HR0_0.out HB.out));(case side2 => exact HC0_0.out);(case side3 => exact zC_ (Kd.C_below HR1.out HB.out));(case side4 => exact HC1.out);rintro e w8 ⟨rfl,hb⟩;refine ⟨_,rfl,?_⟩;have n0_ := As_ (zkb BK337.out hb);have n1_ := As_ (bwT (zb1 HB.out GE337.out) hb);clear BK337 HB;revert n0_ n1_;intro BK337 HB;obtain ⟨hcz9_0,hcz9_1,hfz9_0,hfz9_1⟩ := bk2 BK337.out)|((with_reducible refine gate_callee (f := 42) rfl ?_);refine goesL_ (some 12) rfl rfl Try.func42 (by kernel_rfl) rfl #[.slice A0_0 l0_0.length c0_0,.slice A1 l1.length c1] rfl zM_ ?_;(with_reducible refine (impl_codesOf.calls k _ _ l0_0 _ _ l1 t339 _ ?side1 ?side2 ?side3 ?side4 A5.out).mono ?_);(case side1 => exact zC_ (Kd.C_below HR0_0.out HB.out));(case side2 => exact HC0_0.out);(case side3 => exact zC_ (Kd.C_below HR1.out HB.out));(case side4 => exact HC1.out);rintro e w10 ⟨v340,rfl,ho0,hb⟩;refine ⟨_,rfl,?_⟩;have n0_ := As_ (Kd.R_lower ho0 (bwZ (zb1 HB.out GE337.out)));have n1_ := As_ (zkb BK337.out hb);have n2_ := As_ (bwT (zb1 HB.out GE337.out) hb);clear BK337 HB;revert n0_ n1_ n2_;intro HO341 BK337 HB))
 go_ret
 exact ⟨_,zE_,by (with_reducible repeat (first|apply Kd.R_alloc|apply Kd.R_drewN|apply Kd.R_drew));exact HO341.out,zb1 HB.out GE337.out⟩
end Go.Proofs.Ytapaegcombfafaa.Q
