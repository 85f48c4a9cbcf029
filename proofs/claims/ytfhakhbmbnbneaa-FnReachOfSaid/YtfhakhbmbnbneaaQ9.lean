-- Written by wip/tools/qprint.py (a program of this claim's author) by means of the kit's printer.
import Derived.Test.YtfhakhbmbnbneaaQ0
import Derived.Test.YtfhakhbmbnbneaaQ26
import Derived.Test.YtfhakhbmbnbneaaQ33
import Derived.Test.YtfhakhbmbnbneaaQ34
import Derived.Test.YtfhakhbmbnbneaaQ35
namespace Go.Proofs.Ytfhakhbmbnbneaa.Q
open Go.RowKit Go.Proofs.YtfhakhbmbnbneaaW.PrintWords Go.Proofs.YtfhakhbmbnbneaaW.PrintLast Go.Proofs.YtfhakhbmbnbneaaW.PrintMore
attribute [local go_sem] max2_int min2_int max_two min_two max_three min_three max_four min_four   -- for this text's walks alone
set_option linter.unusedVariables false
set_option linter.unusedSimpArgs false

/-! ### laws_FnReachOf: function 9 -/
mutual
def laws_FnReachOf.j0 : Nat → List Int → Bool → List (S45) → Int → Option (Bool)
 | 0,_,_,_,_ => none
 | k + 1,x4,x24,x824000,x824001 => if x24 = true then ((spec_ReachOf.f k x824000 x824001).bind fun t831 => ((laws_equalInts.f k x4 t831).bind fun t834 => (some t834))) else (laws_FnReachOf.l0 k x4 0 x824000 x824001)
def laws_FnReachOf.l0 : Nat → List Int → Int → List (S45) → Int → Option (Bool)
 | 0,_,_,_,_ => none
 | k + 1,x4,x5,x824000,x824001 => if x5 < (x4.length : Int) then (if 0 ≤ x5 then (if 0 ≤ (rd x4 x5) then (if (rd x4 x5) < (x824000.length : Int) then ((laws_within.f k ((rd_T45 x824000 (rd x4 x5)).f2) x4).bind fun t838 => (if t838 = true then (if x5 ≤ (x4.length : Int) then ((laws_isIn.f k (x4.take (x5 : Int).toNat) (rd x4 x5)).bind fun t844 => (laws_FnReachOf.j2 k x4 x5 t844 x824000 x824001)) else (none)) else (laws_FnReachOf.j2 k x4 x5 true x824000 x824001))) else (none)) else (none)) else (none)) else (if 0 < (x4.length : Int) then (some ((rd x4 0) == x824001)) else (none))
def laws_FnReachOf.j2 : Nat → List Int → Int → Bool → List (S45) → Int → Option (Bool)
 | 0,_,_,_,_,_ => none
 | k + 1,x4,x5,x56,x824000,x824001 => if x56 = true then (some false) else (laws_FnReachOf.l1 k x4 x5 (x5 == 0) 0 x824000 x824001)
def laws_FnReachOf.l1 : Nat → List Int → Int → Bool → Int → List (S45) → Int → Option (Bool)
 | 0,_,_,_,_,_,_ => none
 | k + 1,x4,x5,x6,x7,x824000,x824001 => if x7 < x5 then (if x6 = true then (laws_FnReachOf.l1 k x4 x5 true (wrap64 (x7 + 1)) x824000 x824001) else (if 0 ≤ x7 then (if x7 < (x4.length : Int) then (if 0 ≤ (rd x4 x7) then (if (rd x4 x7) < (x824000.length : Int) then (if 0 ≤ x5 then (if x5 < (x4.length : Int) then ((laws_isIn.f k ((rd_T45 x824000 (rd x4 x7)).f2) (rd x4 x5)).bind fun t848 => (laws_FnReachOf.l1 k x4 x5 t848 (wrap64 (x7 + 1)) x824000 x824001)) else (none)) else (none)) else (none)) else (none)) else (none)) else (none))) else (if x6 = true then (laws_FnReachOf.l0 k x4 (wrap64 (x5 + 1)) x824000 x824001) else (some false))
end
def laws_FnReachOf.f (k : Nat) (l0 : List Int) : Option (Bool) := if (l0.length : Int) > 1048576 then (some true) else ((spec_DrawReachOf.f k l0).bind fun bt819 => ((impl_ReachOf.f k bt819.1 bt819.2).bind fun t824 => ((spec_ReachOf.f k bt819.1 bt819.2).bind fun t827 => ((laws_equalInts.f k t824 t827).bind fun t830 => (if t830 = true then (laws_FnReachOf.j0 k t824 ((t824.length : Int) == 0) bt819.1 bt819.2) else (laws_FnReachOf.j0 k t824 true bt819.1 bt819.2))))))
set_option maxRecDepth 100000 in
theorem laws_FnReachOf.mono_l : ∀ k,(∀ y0 y1 y2 y3,LeO (laws_FnReachOf.j0 k y0 y1 y2 y3) (laws_FnReachOf.j0 (k + 1) y0 y1 y2 y3)) ∧ (∀ y0 y1 y2 y3,LeO (laws_FnReachOf.l0 k y0 y1 y2 y3) (laws_FnReachOf.l0 (k + 1) y0 y1 y2 y3)) ∧ (∀ y0 y1 y2 y3 y4,LeO (laws_FnReachOf.j2 k y0 y1 y2 y3 y4) (laws_FnReachOf.j2 (k + 1) y0 y1 y2 y3 y4)) ∧ (∀ y0 y1 y2 y3 y4 y5,LeO (laws_FnReachOf.l1 k y0 y1 y2 y3 y4 y5) (laws_FnReachOf.l1 (k + 1) y0 y1 y2 y3 y4 y5))
 | 0 => ⟨fun _ _ _ _ r h => (by cases h),fun _ _ _ _ r h => (by cases h),fun _ _ _ _ _ r h => (by cases h),fun _ _ _ _ _ _ r h => (by cases h)⟩
 | k + 1 => by
  obtain ⟨ih0,ih1,ih2,ih3⟩ := laws_FnReachOf.mono_l k
  refine ⟨?_,?_,?_,?_⟩
  ·intro y0 y1 y2 y3
   unfold laws_FnReachOf.j0
   repeat' first
   | (with_reducible exact ih0 _ _ _ _)
   | (with_reducible exact ih1 _ _ _ _)
   | (with_reducible exact ih2 _ _ _ _ _)
   | (with_reducible exact ih3 _ _ _ _ _ _)
   | (with_reducible exact impl_ReachOf.mono _ _ _)
   | (with_reducible exact laws_equalInts.mono _ _ _)
   | (with_reducible exact laws_isIn.mono _ _ _)
   | (with_reducible exact laws_within.mono _ _ _)
   | (with_reducible exact spec_DrawReachOf.mono _ _)
   | (with_reducible exact spec_ReachOf.mono _ _ _)
   | (with_reducible exact LeO.refl _)
   | (with_reducible exact LeO.none _)
   | (with_reducible refine LeO.ite ?_ ?_)
   | (with_reducible refine LeO.bind ?_ (fun _ => ?_))
   | exact ih0 _ _ _ _
   | exact ih1 _ _ _ _
   | exact ih2 _ _ _ _ _
   | exact ih3 _ _ _ _ _ _
   | exact impl_ReachOf.mono _ _ _
   | exact laws_equalInts.mono _ _ _
   | exact laws_isIn.mono _ _ _
   | exact laws_within.mono _ _ _
   | exact spec_DrawReachOf.mono _ _
   | exact spec_ReachOf.mono _ _ _
   | exact LeO.none _
   | refine LeO.ite ?_ ?_
   | refine LeO.bind ?_ (fun _ => ?_)
  ·intro y0 y1 y2 y3
   unfold laws_FnReachOf.l0
   repeat' first
   | (with_reducible exact ih0 _ _ _ _)
   | (with_reducible exact ih1 _ _ _ _)
   | (with_reducible exact ih2 _ _ _ _ _)
   | (with_reducible exact ih3 _ _ _ _ _ _)
   | (with_reducible exact impl_ReachOf.mono _ _ _)
   | (with_reducible exact laws_equalInts.mono _ _ _)
   | (with_reducible exact laws_isIn.mono _ _ _)
   | (with_reducible exact laws_within.mono _ _ _)
   | (with_reducible exact spec_DrawReachOf.mono _ _)
   | (with_reducible exact spec_ReachOf.mono _ _ _)
   | (with_reducible exact LeO.refl _)
   | (with_reducible exact LeO.none _)
   | (with_reducible refine LeO.ite ?_ ?_)
   | (with_reducible refine LeO.bind ?_ (fun _ => ?_))
   | exact ih0 _ _ _ _
   | exact ih1 _ _ _ _
   | exact ih2 _ _ _ _ _
   | exact ih3 _ _ _ _ _ _
   | exact impl_ReachOf.mono _ _ _
   | exact laws_equalInts.mono _ _ _
   | exact laws_isIn.mono _ _ _
   | exact laws_within.mono _ _ _
   | exact spec_DrawReachOf.mono _ _
   | exact spec_ReachOf.mono _ _ _
   | exact LeO.none _
   | refine LeO.ite ?_ ?_
   | refine LeO.bind ?_ (fun _ => ?_)
  ·intro y0 y1 y2 y3 y4
   unfold laws_FnReachOf.j2
   repeat' first
   | (with_reducible exact ih0 _ _ _ _)
   | (with_reducible exact ih1 _ _ _ _)
   | (with_reducible exact ih2 _ _ _ _ _)
   | (with_reducible exact ih3 _ _ _ _ _ _)
   | (with_reducible exact impl_ReachOf.mono _ _ _)
   | (with_reducible exact laws_equalInts.mono _ _ _)
   | (with_reducible exact laws_isIn.mono _ _ _)
   | (with_reducible exact laws_within.mono _ _ _)
   | (with_reducible exact spec_DrawReachOf.mono _ _)
   | (with_reducible exact spec_ReachOf.mono _ _ _)
   | (with_reducible exact LeO.refl _)
   | (with_reducible exact LeO.none _)
   | (with_reducible refine LeO.ite ?_ ?_)
   | (with_reducible refine LeO.bind ?_ (fun _ => ?_))
   | exact ih0 _ _ _ _
   | exact ih1 _ _ _ _
   | exact ih2 _ _ _ _ _
   | exact ih3 _ _ _ _ _ _
   | exact impl_ReachOf.mono _ _ _
   | exact laws_equalInts.mono _ _ _
   | exact laws_isIn.mono _ _ _
   | exact laws_within.mono _ _ _
   | exact spec_DrawReachOf.mono _ _
   | exact spec_ReachOf.mono _ _ _
   | exact LeO.none _
   | refine LeO.ite ?_ ?_
   | refine LeO.bind ?_ (fun _ => ?_)
  ·intro y0 y1 y2 y3 y4 y5
   unfold laws_FnReachOf.l1
   repeat' first
   | (with_reducible exact ih0 _ _ _ _)
   | (with_reducible exact ih1 _ _ _ _)
   | (with_reducible exact ih2 _ _ _ _ _)
   | (with_reducible exact ih3 _ _ _ _ _ _)
   | (with_reducible exact impl_ReachOf.mono _ _ _)
   | (with_reducible exact laws_equalInts.mono _ _ _)
   | (with_reducible exact laws_isIn.mono _ _ _)
   | (with_reducible exact laws_within.mono _ _ _)
   | (with_reducible exact spec_DrawReachOf.mono _ _)
   | (with_reducible exact spec_ReachOf.mono _ _ _)
   | (with_reducible exact LeO.refl _)
   | (with_reducible exact LeO.none _)
   | (with_reducible refine LeO.ite ?_ ?_)
   | (with_reducible refine LeO.bind ?_ (fun _ => ?_))
   | exact ih0 _ _ _ _
   | exact ih1 _ _ _ _
   | exact ih2 _ _ _ _ _
   | exact ih3 _ _ _ _ _ _
   | exact impl_ReachOf.mono _ _ _
   | exact laws_equalInts.mono _ _ _
   | exact laws_isIn.mono _ _ _
   | exact laws_within.mono _ _ _
   | exact spec_DrawReachOf.mono _ _
   | exact spec_ReachOf.mono _ _ _
   | exact LeO.none _
   | refine LeO.ite ?_ ?_
   | refine LeO.bind ?_ (fun _ => ?_)
set_option maxRecDepth 100000 in
theorem laws_FnReachOf.mono : ∀ a0 k,LeO (laws_FnReachOf.f k a0) (laws_FnReachOf.f (k + 1) a0) := by
 intro a0 k
 obtain ⟨ih0,ih1,ih2,ih3⟩ := laws_FnReachOf.mono_l k
 unfold laws_FnReachOf.f
 repeat' first
   | (with_reducible exact ih0 _ _ _ _)
   | (with_reducible exact ih1 _ _ _ _)
   | (with_reducible exact ih2 _ _ _ _ _)
   | (with_reducible exact ih3 _ _ _ _ _ _)
   | (with_reducible exact impl_ReachOf.mono _ _ _)
   | (with_reducible exact laws_equalInts.mono _ _ _)
   | (with_reducible exact laws_isIn.mono _ _ _)
   | (with_reducible exact laws_within.mono _ _ _)
   | (with_reducible exact spec_DrawReachOf.mono _ _)
   | (with_reducible exact spec_ReachOf.mono _ _ _)
   | (with_reducible exact LeO.refl _)
   | (with_reducible exact LeO.none _)
   | (with_reducible refine LeO.ite ?_ ?_)
   | (with_reducible refine LeO.bind ?_ (fun _ => ?_))
   | exact ih0 _ _ _ _
   | exact ih1 _ _ _ _
   | exact ih2 _ _ _ _ _
   | exact ih3 _ _ _ _ _ _
   | exact impl_ReachOf.mono _ _ _
   | exact laws_equalInts.mono _ _ _
   | exact laws_isIn.mono _ _ _
   | exact laws_within.mono _ _ _
   | exact spec_DrawReachOf.mono _ _
   | exact spec_ReachOf.mono _ _ _
   | exact LeO.none _
   | refine LeO.ite ?_ ?_
   | refine LeO.bind ?_ (fun _ => ?_)
set_option maxHeartbeats 8000000 in
set_option maxRecDepth 100000 in
theorem laws_FnReachOf.calls (k : Nat) (A0 : Option Addr) (c0 : Nat) (l0 : List Int) (r : Bool) (w : World) (hr0 : Kd.C (Kd.int .u8) w A0 l0.length l0) (hc0 : l0.length ≤ c0) (h : laws_FnReachOf.f k l0 = some r) :
  Calls Try.prog 9 #[.slice A0 l0.length c0] w fun e w' => e = .returned (.bool r) ∧ Below w.heap.size w w' := by
 have hu29 := Try.underlying29
 have HR0 := As_ hr0
 have HC0 := As_ hc0
 clear hr0 hc0
 have HB := As_ (Below.refl w.heap.size w)
 have H : (if (l0.length : Int) > 1048576 then (some true) else ((spec_DrawReachOf.f k l0).bind fun bt819 => ((impl_ReachOf.f k bt819.1 bt819.2).bind fun t824 => ((spec_ReachOf.f k bt819.1 bt819.2).bind fun t827 => ((laws_equalInts.f k t824 t827).bind fun t830 => (if t830 = true then (laws_FnReachOf.j0 k t824 ((t824.length : Int) == 0) bt819.1 bt819.2) else (laws_FnReachOf.j0 k t824 true bt819.1 bt819.2))))))) = some r := h
 clear h
 by_cases c2 : (l0.length : Int) > 1048576
 ·rw [if_pos c2] at H
  have c2b0 : decide (1048576 < (l0.length : Int)) = true := deT c2
  have c2b1 : decide (1048576 < l0.length) = true := deT (by omega)
  clear c2
  obtain rfl := Option.some.inj H
  go_enter Try.func9,Try.ntmps9
  go_wp2
  repeat (go_quiet (fail);try go_wp2)
  go_ret
  exact ⟨by first|rfl|(simp [errW_none,errW_some] <;> rfl)|(simp [*,errW_none,errW_some] <;> rfl),zb0 HB.out⟩
 ·rw [if_neg c2] at H
  have c2b0 : decide (1048576 < (l0.length : Int)) = false := deF c2
  have c2b1 : decide (1048576 < l0.length) = false := deF (by omega)
  clear c2
  replace H := obS H
  obtain ⟨⟨t819,t822⟩,A30,H⟩ := H
  replace H : ((impl_ReachOf.f k t819 t822).bind fun t824 => ((spec_ReachOf.f k t819 t822).bind fun t827 => ((laws_equalInts.f k t824 t827).bind fun t830 => (if t830 = true then (laws_FnReachOf.j0 k t824 ((t824.length : Int) == 0) t819 t822) else (laws_FnReachOf.j0 k t824 true t819 t822))))) = some r := H
  have A3 := As_ A30
  clear A30
  replace H := obS H
  obtain ⟨t824,A40,H⟩ := H
  replace H : ((spec_ReachOf.f k t819 t822).bind fun t827 => ((laws_equalInts.f k t824 t827).bind fun t830 => (if t830 = true then (laws_FnReachOf.j0 k t824 ((t824.length : Int) == 0) t819 t822) else (laws_FnReachOf.j0 k t824 true t819 t822)))) = some r := H
  have A4 := As_ A40
  clear A40
  have HC5 := As_ H
  clear H
  go_enter Try.func9,Try.ntmps9
  go_upto_region 5 with (first|(go_at_call 33;(with_reducible refine (spec_DrawReachOf.calls k _ _ l0 t819 t822 _ ?side1 ?side2 A3.out).mono ?_);(case side1 => repeat (first|exact HR0.out|(with_reducible refine Kd.C_alloc ?_ _)|(with_reducible refine Kd.C_drewN ?_ _)|(with_reducible refine Kd.C_drew ?_)));(case side2 => exact HC0.out);rintro e w6 ⟨v820,rfl,ho0,hb⟩;have n0_ := As_ (Kd.S_lower ho0 (bwZ (zb0 HB.out)));have n1_ := As_ (bwT (zb0 HB.out) hb);clear HB;have HO821 := n0_;have HB := n1_;clear n0_ n1_;(try clear hb);(try clear hb2);(try clear hk);(try clear hi);(try clear ho0))|((with_reducible refine gate_dst (N := 3) rfl ?_);(try (refine gate_guard (by rfl) ?_;dsimp only));refine box_event ?hg (N := 3) ?hd (cs := #[.slice none 0 0,.int .i64 0]) (t := 29) ?hr ?_;(case hd => rfl);(case hg => rfl);(case hr => go_simp <;> rfl);intro gb823 hg w7 hbox hb;have n0_ := As_ (Kd.S_below (zS_ HO821.out) hb);have n1_ := As_ (bwT (zb0 HB.out) hb);have n2_ := As_ (hbox);have n3_ := As_ ((by rw [hg];exact (bwZ (zb0 HB.out)) : w.heap.size ≤ gb823));have n4_ := As_ ((by rw [hg];exact (bwZ (zb0 HB.out)) : w.heap.size ≤ gb823));clear HO821;clear HB;have HO821 := n0_;have HB := n1_;have BK823 := n2_;have GW823 := n3_;have GE823 := n4_;clear n0_ n1_ n2_ n3_ n4_;clear hb hbox hg;obtain ⟨Ao8,co8,eo8⟩ := Kd.S_slice HO821.out;subst eo8;have hcz9_0 : w7.cell? ⟨gb823,0,none⟩ = some (.slice none 0 0) := (bkC BK823.out 0).trans rfl;have hcz9_1 : w7.cell? ⟨gb823,1,none⟩ = some (.int .i64 0) := (bkC BK823.out 1).trans rfl;have hfz9_0 := bkF BK823.out 0;have hfz9_1 := bkF BK823.out 1)|(go_at_call 26;(with_reducible refine (impl_ReachOf.calls k _ _ t819 t822 t824 _ ?side1 ?side2 A4.out).mono ?_);(case side1 => refine (Kd.S_reads' (e := 45) (base := w.heap.size) (ok := fun k_ => True) (n := t819.length) (c := co8) ?_).2.2;exact (by (with_reducible repeat (first|apply Kd.S_alloc|apply Kd.S_drewN|apply Kd.S_drew));exact (Kd.S_mono (Kd.S_far (p := ⟨gb823,1,none⟩) (Kd.S_far (p := ⟨gb823,0,none⟩) (Kd.S_types HO821.out BK823.out (by decide)) (fun _ hk => hk.2) (.slice Ao8 t819.length co8)) (fun _ hk => hk.2) (.int .i64 t822)) (fun _ h_ => h_.1))));(case side2 => exact (Kd.S_reads' HO821.out).2.1);rintro e w10 ⟨v825,rfl,ho0,hb⟩;have n0_ := As_ (Kd.S_elder' (by (with_reducible repeat (first|apply Kd.S_alloc|apply Kd.S_drewN|apply Kd.S_drew));exact (Kd.S_mono (Kd.S_far (p := ⟨gb823,1,none⟩) (Kd.S_far (p := ⟨gb823,0,none⟩) (Kd.S_types HO821.out BK823.out (by decide)) (fun _ hk => hk.2) (.slice Ao8 t819.length co8)) (fun _ hk => hk.2) (.int .i64 t822)) (fun _ h_ => h_.1))) (Kd.R_base ho0) hb);have n1_ := As_ (Kd.R_lower ho0 (bwZ (zb1 HB.out GE823.out)));have n2_ := As_ (blk_below (g := gb823) (o := .cells #[.slice Ao8 t819.length co8,.int .i64 t822] 29 (0,0)) (by (with_reducible repeat (first|refine bkN ?_ _|refine bkD ?_|refine bkA ?_ _));refine blk_put (cs := #[.slice Ao8 t819.length co8,.int .i64 0]) ?_ 1 _ rfl;(with_reducible repeat (first|refine bkN ?_ _|refine bkD ?_|refine bkA ?_ _));refine blk_put (cs := #[.slice none 0 0,.int .i64 0]) ?_ 0 _ rfl;(with_reducible repeat (first|refine bkN ?_ _|refine bkD ?_|refine bkA ?_ _));exact BK823.out) hb);have n3_ := As_ (bwT (zb1 HB.out GE823.out) hb);clear HO821;clear BK823;clear HB;have HO821 := n0_;have HO826 := n1_;have BK823 := n2_;have HB := n3_;clear n0_ n1_ n2_ n3_;(try clear hb);(try clear hb2);(try clear hk);(try clear hi);(try clear ho0)))
  repeat (go_quiet (first|(go_at_call 33;(with_reducible refine (spec_DrawReachOf.calls k _ _ l0 t819 t822 _ ?side1 ?side2 A3.out).mono ?_);(case side1 => repeat (first|exact HR0.out|(with_reducible refine Kd.C_alloc ?_ _)|(with_reducible refine Kd.C_drewN ?_ _)|(with_reducible refine Kd.C_drew ?_)));(case side2 => exact HC0.out);rintro e w6 ⟨v820,rfl,ho0,hb⟩;have n0_ := As_ (Kd.S_lower ho0 (bwZ (zb0 HB.out)));have n1_ := As_ (bwT (zb0 HB.out) hb);clear HB;have HO821 := n0_;have HB := n1_;clear n0_ n1_;(try clear hb);(try clear hb2);(try clear hk);(try clear hi);(try clear ho0))|((with_reducible refine gate_dst (N := 3) rfl ?_);(try (refine gate_guard (by rfl) ?_;dsimp only));refine box_event ?hg (N := 3) ?hd (cs := #[.slice none 0 0,.int .i64 0]) (t := 29) ?hr ?_;(case hd => rfl);(case hg => rfl);(case hr => go_simp <;> rfl);intro gb823 hg w7 hbox hb;have n0_ := As_ (Kd.S_below (zS_ HO821.out) hb);have n1_ := As_ (bwT (zb0 HB.out) hb);have n2_ := As_ (hbox);have n3_ := As_ ((by rw [hg];exact (bwZ (zb0 HB.out)) : w.heap.size ≤ gb823));have n4_ := As_ ((by rw [hg];exact (bwZ (zb0 HB.out)) : w.heap.size ≤ gb823));clear HO821;clear HB;have HO821 := n0_;have HB := n1_;have BK823 := n2_;have GW823 := n3_;have GE823 := n4_;clear n0_ n1_ n2_ n3_ n4_;clear hb hbox hg;obtain ⟨Ao8,co8,eo8⟩ := Kd.S_slice HO821.out;subst eo8;have hcz9_0 : w7.cell? ⟨gb823,0,none⟩ = some (.slice none 0 0) := (bkC BK823.out 0).trans rfl;have hcz9_1 : w7.cell? ⟨gb823,1,none⟩ = some (.int .i64 0) := (bkC BK823.out 1).trans rfl;have hfz9_0 := bkF BK823.out 0;have hfz9_1 := bkF BK823.out 1)|(go_at_call 26;(with_reducible refine (impl_ReachOf.calls k _ _ t819 t822 t824 _ ?side1 ?side2 A4.out).mono ?_);(case side1 => refine (Kd.S_reads' (e := 45) (base := w.heap.size) (ok := fun k_ => True) (n := t819.length) (c := co8) ?_).2.2;exact (by (with_reducible repeat (first|apply Kd.S_alloc|apply Kd.S_drewN|apply Kd.S_drew));exact (Kd.S_mono (Kd.S_far (p := ⟨gb823,1,none⟩) (Kd.S_far (p := ⟨gb823,0,none⟩) (Kd.S_types HO821.out BK823.out (by decide)) (fun _ hk => hk.2) (.slice Ao8 t819.length co8)) (fun _ hk => hk.2) (.int .i64 t822)) (fun _ h_ => h_.1))));(case side2 => exact (Kd.S_reads' HO821.out).2.1);rintro e w10 ⟨v825,rfl,ho0,hb⟩;have n0_ := As_ (Kd.S_elder' (by (with_reducible repeat (first|apply Kd.S_alloc|apply Kd.S_drewN|apply Kd.S_drew));exact (Kd.S_mono (Kd.S_far (p := ⟨gb823,1,none⟩) (Kd.S_far (p := ⟨gb823,0,none⟩) (Kd.S_types HO821.out BK823.out (by decide)) (fun _ hk => hk.2) (.slice Ao8 t819.length co8)) (fun _ hk => hk.2) (.int .i64 t822)) (fun _ h_ => h_.1))) (Kd.R_base ho0) hb);have n1_ := As_ (Kd.R_lower ho0 (bwZ (zb1 HB.out GE823.out)));have n2_ := As_ (blk_below (g := gb823) (o := .cells #[.slice Ao8 t819.length co8,.int .i64 t822] 29 (0,0)) (by (with_reducible repeat (first|refine bkN ?_ _|refine bkD ?_|refine bkA ?_ _));refine blk_put (cs := #[.slice Ao8 t819.length co8,.int .i64 0]) ?_ 1 _ rfl;(with_reducible repeat (first|refine bkN ?_ _|refine bkD ?_|refine bkA ?_ _));refine blk_put (cs := #[.slice none 0 0,.int .i64 0]) ?_ 0 _ rfl;(with_reducible repeat (first|refine bkN ?_ _|refine bkD ?_|refine bkA ?_ _));exact BK823.out) hb);have n3_ := As_ (bwT (zb1 HB.out GE823.out) hb);clear HO821;clear BK823;clear HB;have HO821 := n0_;have HO826 := n1_;have BK823 := n2_;have HB := n3_;clear n0_ n1_ n2_ n3_;(try clear hb);(try clear hb2);(try clear hk);(try clear hi);(try clear ho0)));go_upto_region 5 with (first|(go_at_call 33;(with_reducible refine (spec_DrawReachOf.calls k _ _ l0 t819 t822 _ ?side1 ?side2 A3.out).mono ?_);(case side1 => repeat (first|exact HR0.out|(with_reducible refine Kd.C_alloc ?_ _)|(with_reducible refine Kd.C_drewN ?_ _)|(with_reducible refine Kd.C_drew ?_)));(case side2 => exact HC0.out);rintro e w6 ⟨v820,rfl,ho0,hb⟩;have n0_ := As_ (Kd.S_lower ho0 (bwZ (zb0 HB.out)));have n1_ := As_ (bwT (zb0 HB.out) hb);clear HB;have HO821 := n0_;have HB := n1_;clear n0_ n1_;(try clear hb);(try clear hb2);(try clear hk);(try clear hi);(try clear ho0))|((with_reducible refine gate_dst (N := 3) rfl ?_);(try (refine gate_guard (by rfl) ?_;dsimp only));refine box_event ?hg (N := 3) ?hd (cs := #[.slice none 0 0,.int .i64 0]) (t := 29) ?hr ?_;(case hd => rfl);(case hg => rfl);(case hr => go_simp <;> rfl);intro gb823 hg w7 hbox hb;have n0_ := As_ (Kd.S_below (zS_ HO821.out) hb);have n1_ := As_ (bwT (zb0 HB.out) hb);have n2_ := As_ (hbox);have n3_ := As_ ((by rw [hg];exact (bwZ (zb0 HB.out)) : w.heap.size ≤ gb823));have n4_ := As_ ((by rw [hg];exact (bwZ (zb0 HB.out)) : w.heap.size ≤ gb823));clear HO821;clear HB;have HO821 := n0_;have HB := n1_;have BK823 := n2_;have GW823 := n3_;have GE823 := n4_;clear n0_ n1_ n2_ n3_ n4_;clear hb hbox hg;obtain ⟨Ao8,co8,eo8⟩ := Kd.S_slice HO821.out;subst eo8;have hcz9_0 : w7.cell? ⟨gb823,0,none⟩ = some (.slice none 0 0) := (bkC BK823.out 0).trans rfl;have hcz9_1 : w7.cell? ⟨gb823,1,none⟩ = some (.int .i64 0) := (bkC BK823.out 1).trans rfl;have hfz9_0 := bkF BK823.out 0;have hfz9_1 := bkF BK823.out 1)|(go_at_call 26;(with_reducible refine (impl_ReachOf.calls k _ _ t819 t822 t824 _ ?side1 ?side2 A4.out).mono ?_);(case side1 => refine (Kd.S_reads' (e := 45) (base := w.heap.size) (ok := fun k_ => True) (n := t819.length) (c := co8) ?_).2.2;exact (by (with_reducible repeat (first|apply Kd.S_alloc|apply Kd.S_drewN|apply Kd.S_drew));exact (Kd.S_mono (Kd.S_far (p := ⟨gb823,1,none⟩) (Kd.S_far (p := ⟨gb823,0,none⟩) (Kd.S_types HO821.out BK823.out (by decide)) (fun _ hk => hk.2) (.slice Ao8 t819.length co8)) (fun _ hk => hk.2) (.int .i64 t822)) (fun _ h_ => h_.1))));(case side2 => exact (Kd.S_reads' HO821.out).2.1);rintro e w10 ⟨v825,rfl,ho0,hb⟩;have n0_ := As_ (Kd.S_elder' (by (with_reducible repeat (first|apply Kd.S_alloc|apply Kd.S_drewN|apply Kd.S_drew));exact (Kd.S_mono (Kd.S_far (p := ⟨gb823,1,none⟩) (Kd.S_far (p := ⟨gb823,0,none⟩) (Kd.S_types HO821.out BK823.out (by decide)) (fun _ hk => hk.2) (.slice Ao8 t819.length co8)) (fun _ hk => hk.2) (.int .i64 t822)) (fun _ h_ => h_.1))) (Kd.R_base ho0) hb);have n1_ := As_ (Kd.R_lower ho0 (bwZ (zb1 HB.out GE823.out)));have n2_ := As_ (blk_below (g := gb823) (o := .cells #[.slice Ao8 t819.length co8,.int .i64 t822] 29 (0,0)) (by (with_reducible repeat (first|refine bkN ?_ _|refine bkD ?_|refine bkA ?_ _));refine blk_put (cs := #[.slice Ao8 t819.length co8,.int .i64 0]) ?_ 1 _ rfl;(with_reducible repeat (first|refine bkN ?_ _|refine bkD ?_|refine bkA ?_ _));refine blk_put (cs := #[.slice none 0 0,.int .i64 0]) ?_ 0 _ rfl;(with_reducible repeat (first|refine bkN ?_ _|refine bkD ?_|refine bkA ?_ _));exact BK823.out) hb);have n3_ := As_ (bwT (zb1 HB.out GE823.out) hb);clear HO821;clear BK823;clear HB;have HO821 := n0_;have HO826 := n1_;have BK823 := n2_;have HB := n3_;clear n0_ n1_ n2_ n3_;(try clear hb);(try clear hb2);(try clear hk);(try clear hi);(try clear ho0))))
  (try simp only [Act.put,List.setIfInBounds_toArray,List.set_cons_zero,List.set_cons_succ])
  go_cut [24] (fun v24 wc => ∃ (kq : Nat) (x24_4 : Bool),v24 = .bool x24_4 ∧ Aside0 (laws_FnReachOf.j0 kq t824 x24_4 t819 t822 = some r) ∧ Aside0 (kq ≤ k) ∧ Aside0 (Kd.R (Kd.int .i64) 3 wc w.heap.size (fun _ => True) v825 t824) ∧ Aside0 (Kd.S k45 45 wc w.heap.size (fun k_ => some k_ ≠ (v825 : Value).ownBlock) (.slice Ao8 t819.length co8) t819) ∧ Aside0 (wc.heap[gb823]? = some (.cells #[(.slice Ao8 t819.length co8),.int .i64 t822] 29 (0,0))) ∧ Aside0 (Below w.heap.size w wc))
  case first =>
   have H := HC5.out
   clear HC5
   replace H := obS H
   obtain ⟨t827,A110,H⟩ := H
   replace H : ((laws_equalInts.f k t824 t827).bind fun t830 => (if t830 = true then (laws_FnReachOf.j0 k t824 ((t824.length : Int) == 0) t819 t822) else (laws_FnReachOf.j0 k t824 true t819 t822))) = some r := H
   have A11 := As_ A110
   clear A110
   replace H := obS H
   obtain ⟨t830,A120,H⟩ := H
   replace H : (if t830 = true then (laws_FnReachOf.j0 k t824 ((t824.length : Int) == 0) t819 t822) else (laws_FnReachOf.j0 k t824 true t819 t822)) = some r := H
   have A12 := As_ A120
   clear A120
   by_cases c13 : t830 = true
   ·subst c13
    have H1 : (laws_FnReachOf.j0 k t824 ((t824.length : Int) == 0) t819 t822) = some r := by rw [if_pos rfl] at H;exact H
    clear H
    have H := H1
    clear H1
    have H' := As_ H
    clear H
    have hcz14_0 : w10.cell? ⟨gb823,0,none⟩ = some (.slice Ao8 t819.length co8) := (bkC BK823.out 0).trans rfl
    have hcz14_1 : w10.cell? ⟨gb823,1,none⟩ = some (.int .i64 t822) := (bkC BK823.out 1).trans rfl
    have hfz14_0 := bkF BK823.out 0
    have hfz14_1 := bkF BK823.out 1
    go_wp2_with (first|(go_at_call 35;(with_reducible refine (spec_ReachOf.calls k _ _ t819 t822 t827 _ ?side1 ?side2 A11.out).mono ?_);(case side1 => repeat (first|exact (Kd.S_reads' HO821.out).2.2|(with_reducible refine Kd.C_alloc ?_ _)|(with_reducible refine Kd.C_drewN ?_ _)|(with_reducible refine Kd.C_drew ?_)));(case side2 => exact (Kd.S_reads' HO821.out).2.1);rintro e w15 ⟨v828,rfl,ho0,hb⟩;have n0_ := As_ (Kd.S_elder' (zS_ HO821.out) (Kd.R_base ho0) hb);have n1_ := As_ (Kd.R_elder' (zR_ HO826.out) (Kd.R_base ho0) hb);have n2_ := As_ (Kd.R_lower (Kd.R_new' ho0 (Kd.R_lt (zR_ HO826.out))) (bwZ (zb1 HB.out GE823.out)));have n3_ := As_ (zkb BK823.out hb);have n4_ := As_ (bwT (zb1 HB.out GE823.out) hb);clear HO821;clear HO826;clear BK823;clear HB;have HO821 := n0_;have HO826 := n1_;have HO829 := n2_;have BK823 := n3_;have HB := n4_;clear n0_ n1_ n2_ n3_ n4_;(try clear hb);(try clear hb2);(try clear hk);(try clear hi);(try clear ho0);obtain ⟨Ao16,co16,eo16⟩ := Kd.R_slice HO826.out;subst eo16;obtain ⟨Ao17,co17,eo17⟩ := Kd.R_slice HO829.out;subst eo17)|(go_at_call 34;(with_reducible refine (laws_equalInts.calls k _ _ t824 _ _ t827 true _ ?side1 ?side2 ?side3 ?side4 A12.out).mono ?_);(case side1 => repeat (first|exact (Kd.R_reads' HO826.out).2.2|(with_reducible refine Kd.C_alloc ?_ _)|(with_reducible refine Kd.C_drewN ?_ _)|(with_reducible refine Kd.C_drew ?_)));(case side2 => exact (Kd.R_reads' HO826.out).2.1);(case side3 => repeat (first|exact (Kd.R_reads' HO829.out).2.2|(with_reducible refine Kd.C_alloc ?_ _)|(with_reducible refine Kd.C_drewN ?_ _)|(with_reducible refine Kd.C_drew ?_)));(case side4 => exact (Kd.R_reads' HO829.out).2.1);rintro e w' ⟨rfl,⟨nd,rfl⟩⟩;(try first|exact ⟨rfl,_,World.drewN_drewN _ _ _⟩|exact ⟨rfl,_,Eq.trans (World.drewN_drewN _ _ _) (congrArg (World.drewN _) (Nat.add_assoc _ _ _))⟩)))
    repeat (go_quiet (first|(go_at_call 35;(with_reducible refine (spec_ReachOf.calls k _ _ t819 t822 t827 _ ?side1 ?side2 A11.out).mono ?_);(case side1 => repeat (first|exact (Kd.S_reads' HO821.out).2.2|(with_reducible refine Kd.C_alloc ?_ _)|(with_reducible refine Kd.C_drewN ?_ _)|(with_reducible refine Kd.C_drew ?_)));(case side2 => exact (Kd.S_reads' HO821.out).2.1);rintro e w15 ⟨v828,rfl,ho0,hb⟩;have n0_ := As_ (Kd.S_elder' (zS_ HO821.out) (Kd.R_base ho0) hb);have n1_ := As_ (Kd.R_elder' (zR_ HO826.out) (Kd.R_base ho0) hb);have n2_ := As_ (Kd.R_lower (Kd.R_new' ho0 (Kd.R_lt (zR_ HO826.out))) (bwZ (zb1 HB.out GE823.out)));have n3_ := As_ (zkb BK823.out hb);have n4_ := As_ (bwT (zb1 HB.out GE823.out) hb);clear HO821;clear HO826;clear BK823;clear HB;have HO821 := n0_;have HO826 := n1_;have HO829 := n2_;have BK823 := n3_;have HB := n4_;clear n0_ n1_ n2_ n3_ n4_;(try clear hb);(try clear hb2);(try clear hk);(try clear hi);(try clear ho0);obtain ⟨Ao16,co16,eo16⟩ := Kd.R_slice HO826.out;subst eo16;obtain ⟨Ao17,co17,eo17⟩ := Kd.R_slice HO829.out;subst eo17)|(go_at_call 34;(with_reducible refine (laws_equalInts.calls k _ _ t824 _ _ t827 true _ ?side1 ?side2 ?side3 ?side4 A12.out).mono ?_);(case side1 => repeat (first|exact (Kd.R_reads' HO826.out).2.2|(with_reducible refine Kd.C_alloc ?_ _)|(with_reducible refine Kd.C_drewN ?_ _)|(with_reducible refine Kd.C_drew ?_)));(case side2 => exact (Kd.R_reads' HO826.out).2.1);(case side3 => repeat (first|exact (Kd.R_reads' HO829.out).2.2|(with_reducible refine Kd.C_alloc ?_ _)|(with_reducible refine Kd.C_drewN ?_ _)|(with_reducible refine Kd.C_drew ?_)));(case side4 => exact (Kd.R_reads' HO829.out).2.1);rintro e w' ⟨rfl,⟨nd,rfl⟩⟩;(try first|exact ⟨rfl,_,World.drewN_drewN _ _ _⟩|exact ⟨rfl,_,Eq.trans (World.drewN_drewN _ _ _) (congrArg (World.drewN _) (Nat.add_assoc _ _ _))⟩)));try go_wp2_with (first|(go_at_call 35;(with_reducible refine (spec_ReachOf.calls k _ _ t819 t822 t827 _ ?side1 ?side2 A11.out).mono ?_);(case side1 => repeat (first|exact (Kd.S_reads' HO821.out).2.2|(with_reducible refine Kd.C_alloc ?_ _)|(with_reducible refine Kd.C_drewN ?_ _)|(with_reducible refine Kd.C_drew ?_)));(case side2 => exact (Kd.S_reads' HO821.out).2.1);rintro e w15 ⟨v828,rfl,ho0,hb⟩;have n0_ := As_ (Kd.S_elder' (zS_ HO821.out) (Kd.R_base ho0) hb);have n1_ := As_ (Kd.R_elder' (zR_ HO826.out) (Kd.R_base ho0) hb);have n2_ := As_ (Kd.R_lower (Kd.R_new' ho0 (Kd.R_lt (zR_ HO826.out))) (bwZ (zb1 HB.out GE823.out)));have n3_ := As_ (zkb BK823.out hb);have n4_ := As_ (bwT (zb1 HB.out GE823.out) hb);clear HO821;clear HO826;clear BK823;clear HB;have HO821 := n0_;have HO826 := n1_;have HO829 := n2_;have BK823 := n3_;have HB := n4_;clear n0_ n1_ n2_ n3_ n4_;(try clear hb);(try clear hb2);(try clear hk);(try clear hi);(try clear ho0);obtain ⟨Ao16,co16,eo16⟩ := Kd.R_slice HO826.out;subst eo16;obtain ⟨Ao17,co17,eo17⟩ := Kd.R_slice HO829.out;subst eo17)|(go_at_call 34;(with_reducible refine (laws_equalInts.calls k _ _ t824 _ _ t827 true _ ?side1 ?side2 ?side3 ?side4 A12.out).mono ?_);(case side1 => repeat (first|exact (Kd.R_reads' HO826.out).2.2|(with_reducible refine Kd.C_alloc ?_ _)|(with_reducible refine Kd.C_drewN ?_ _)|(with_reducible refine Kd.C_drew ?_)));(case side2 => exact (Kd.R_reads' HO826.out).2.1);(case side3 => repeat (first|exact (Kd.R_reads' HO829.out).2.2|(with_reducible refine Kd.C_alloc ?_ _)|(with_reducible refine Kd.C_drewN ?_ _)|(with_reducible refine Kd.C_drew ?_)));(case side4 => exact (Kd.R_reads' HO829.out).2.1);rintro e w' ⟨rfl,⟨nd,rfl⟩⟩;(try first|exact ⟨rfl,_,World.drewN_drewN _ _ _⟩|exact ⟨rfl,_,Eq.trans (World.drewN_drewN _ _ _) (congrArg (World.drewN _) (Nat.add_assoc _ _ _))⟩))))
    go_meet
    case rel => exact ⟨_,(((t824.length : Int) == 0)),zT_,H',⟨by first|omega|exact Nat.le_refl _⟩,⟨by (with_reducible repeat (first|apply Kd.R_alloc|apply Kd.R_drewN|apply Kd.R_drew));exact Kd.R_mono HO826.out (fun _ hk => trivial)⟩,⟨by (with_reducible repeat (first|apply Kd.S_alloc|apply Kd.S_drewN|apply Kd.S_drew));exact Kd.S_mono HO821.out (fun _ hk => hk.1.2)⟩,⟨by (with_reducible repeat (first|refine bkN ?_ _|refine bkD ?_|refine bkA ?_ _));exact BK823.out⟩,⟨zb1 HB.out GE823.out⟩⟩
   ·replace c13 := Bool.eq_false_iff.mpr c13
    subst c13
    have H1 : (laws_FnReachOf.j0 k t824 true t819 t822) = some r := by rw [if_neg (show ¬ (false = true) by decide)] at H;exact H
    clear H
    have H := H1
    clear H1
    have H' := As_ H
    clear H
    have hcz18_0 : w10.cell? ⟨gb823,0,none⟩ = some (.slice Ao8 t819.length co8) := (bkC BK823.out 0).trans rfl
    have hcz18_1 : w10.cell? ⟨gb823,1,none⟩ = some (.int .i64 t822) := (bkC BK823.out 1).trans rfl
    have hfz18_0 := bkF BK823.out 0
    have hfz18_1 := bkF BK823.out 1
    go_wp2_with (first|(go_at_call 35;(with_reducible refine (spec_ReachOf.calls k _ _ t819 t822 t827 _ ?side1 ?side2 A11.out).mono ?_);(case side1 => repeat (first|exact (Kd.S_reads' HO821.out).2.2|(with_reducible refine Kd.C_alloc ?_ _)|(with_reducible refine Kd.C_drewN ?_ _)|(with_reducible refine Kd.C_drew ?_)));(case side2 => exact (Kd.S_reads' HO821.out).2.1);rintro e w19 ⟨v828,rfl,ho0,hb⟩;have n0_ := As_ (Kd.S_elder' (zS_ HO821.out) (Kd.R_base ho0) hb);have n1_ := As_ (Kd.R_elder' (zR_ HO826.out) (Kd.R_base ho0) hb);have n2_ := As_ (Kd.R_lower (Kd.R_new' ho0 (Kd.R_lt (zR_ HO826.out))) (bwZ (zb1 HB.out GE823.out)));have n3_ := As_ (zkb BK823.out hb);have n4_ := As_ (bwT (zb1 HB.out GE823.out) hb);clear HO821;clear HO826;clear BK823;clear HB;have HO821 := n0_;have HO826 := n1_;have HO829 := n2_;have BK823 := n3_;have HB := n4_;clear n0_ n1_ n2_ n3_ n4_;(try clear hb);(try clear hb2);(try clear hk);(try clear hi);(try clear ho0);obtain ⟨Ao20,co20,eo20⟩ := Kd.R_slice HO826.out;subst eo20;obtain ⟨Ao21,co21,eo21⟩ := Kd.R_slice HO829.out;subst eo21)|(go_at_call 34;(with_reducible refine (laws_equalInts.calls k _ _ t824 _ _ t827 false _ ?side1 ?side2 ?side3 ?side4 A12.out).mono ?_);(case side1 => repeat (first|exact (Kd.R_reads' HO826.out).2.2|(with_reducible refine Kd.C_alloc ?_ _)|(with_reducible refine Kd.C_drewN ?_ _)|(with_reducible refine Kd.C_drew ?_)));(case side2 => exact (Kd.R_reads' HO826.out).2.1);(case side3 => repeat (first|exact (Kd.R_reads' HO829.out).2.2|(with_reducible refine Kd.C_alloc ?_ _)|(with_reducible refine Kd.C_drewN ?_ _)|(with_reducible refine Kd.C_drew ?_)));(case side4 => exact (Kd.R_reads' HO829.out).2.1);rintro e w' ⟨rfl,⟨nd,rfl⟩⟩;(try first|exact ⟨rfl,_,World.drewN_drewN _ _ _⟩|exact ⟨rfl,_,Eq.trans (World.drewN_drewN _ _ _) (congrArg (World.drewN _) (Nat.add_assoc _ _ _))⟩)))
    repeat (go_quiet (first|(go_at_call 35;(with_reducible refine (spec_ReachOf.calls k _ _ t819 t822 t827 _ ?side1 ?side2 A11.out).mono ?_);(case side1 => repeat (first|exact (Kd.S_reads' HO821.out).2.2|(with_reducible refine Kd.C_alloc ?_ _)|(with_reducible refine Kd.C_drewN ?_ _)|(with_reducible refine Kd.C_drew ?_)));(case side2 => exact (Kd.S_reads' HO821.out).2.1);rintro e w19 ⟨v828,rfl,ho0,hb⟩;have n0_ := As_ (Kd.S_elder' (zS_ HO821.out) (Kd.R_base ho0) hb);have n1_ := As_ (Kd.R_elder' (zR_ HO826.out) (Kd.R_base ho0) hb);have n2_ := As_ (Kd.R_lower (Kd.R_new' ho0 (Kd.R_lt (zR_ HO826.out))) (bwZ (zb1 HB.out GE823.out)));have n3_ := As_ (zkb BK823.out hb);have n4_ := As_ (bwT (zb1 HB.out GE823.out) hb);clear HO821;clear HO826;clear BK823;clear HB;have HO821 := n0_;have HO826 := n1_;have HO829 := n2_;have BK823 := n3_;have HB := n4_;clear n0_ n1_ n2_ n3_ n4_;(try clear hb);(try clear hb2);(try clear hk);(try clear hi);(try clear ho0);obtain ⟨Ao20,co20,eo20⟩ := Kd.R_slice HO826.out;subst eo20;obtain ⟨Ao21,co21,eo21⟩ := Kd.R_slice HO829.out;subst eo21)|(go_at_call 34;(with_reducible refine (laws_equalInts.calls k _ _ t824 _ _ t827 false _ ?side1 ?side2 ?side3 ?side4 A12.out).mono ?_);(case side1 => repeat (first|exact (Kd.R_reads' HO826.out).2.2|(with_reducible refine Kd.C_alloc ?_ _)|(with_reducible refine Kd.C_drewN ?_ _)|(with_reducible refine Kd.C_drew ?_)));(case side2 => exact (Kd.R_reads' HO826.out).2.1);(case side3 => repeat (first|exact (Kd.R_reads' HO829.out).2.2|(with_reducible refine Kd.C_alloc ?_ _)|(with_reducible refine Kd.C_drewN ?_ _)|(with_reducible refine Kd.C_drew ?_)));(case side4 => exact (Kd.R_reads' HO829.out).2.1);rintro e w' ⟨rfl,⟨nd,rfl⟩⟩;(try first|exact ⟨rfl,_,World.drewN_drewN _ _ _⟩|exact ⟨rfl,_,Eq.trans (World.drewN_drewN _ _ _) (congrArg (World.drewN _) (Nat.add_assoc _ _ _))⟩)));try go_wp2_with (first|(go_at_call 35;(with_reducible refine (spec_ReachOf.calls k _ _ t819 t822 t827 _ ?side1 ?side2 A11.out).mono ?_);(case side1 => repeat (first|exact (Kd.S_reads' HO821.out).2.2|(with_reducible refine Kd.C_alloc ?_ _)|(with_reducible refine Kd.C_drewN ?_ _)|(with_reducible refine Kd.C_drew ?_)));(case side2 => exact (Kd.S_reads' HO821.out).2.1);rintro e w19 ⟨v828,rfl,ho0,hb⟩;have n0_ := As_ (Kd.S_elder' (zS_ HO821.out) (Kd.R_base ho0) hb);have n1_ := As_ (Kd.R_elder' (zR_ HO826.out) (Kd.R_base ho0) hb);have n2_ := As_ (Kd.R_lower (Kd.R_new' ho0 (Kd.R_lt (zR_ HO826.out))) (bwZ (zb1 HB.out GE823.out)));have n3_ := As_ (zkb BK823.out hb);have n4_ := As_ (bwT (zb1 HB.out GE823.out) hb);clear HO821;clear HO826;clear BK823;clear HB;have HO821 := n0_;have HO826 := n1_;have HO829 := n2_;have BK823 := n3_;have HB := n4_;clear n0_ n1_ n2_ n3_ n4_;(try clear hb);(try clear hb2);(try clear hk);(try clear hi);(try clear ho0);obtain ⟨Ao20,co20,eo20⟩ := Kd.R_slice HO826.out;subst eo20;obtain ⟨Ao21,co21,eo21⟩ := Kd.R_slice HO829.out;subst eo21)|(go_at_call 34;(with_reducible refine (laws_equalInts.calls k _ _ t824 _ _ t827 false _ ?side1 ?side2 ?side3 ?side4 A12.out).mono ?_);(case side1 => repeat (first|exact (Kd.R_reads' HO826.out).2.2|(with_reducible refine Kd.C_alloc ?_ _)|(with_reducible refine Kd.C_drewN ?_ _)|(with_reducible refine Kd.C_drew ?_)));(case side2 => exact (Kd.R_reads' HO826.out).2.1);(case side3 => repeat (first|exact (Kd.R_reads' HO829.out).2.2|(with_reducible refine Kd.C_alloc ?_ _)|(with_reducible refine Kd.C_drewN ?_ _)|(with_reducible refine Kd.C_drew ?_)));(case side4 => exact (Kd.R_reads' HO829.out).2.1);rintro e w' ⟨rfl,⟨nd,rfl⟩⟩;(try first|exact ⟨rfl,_,World.drewN_drewN _ _ _⟩|exact ⟨rfl,_,Eq.trans (World.drewN_drewN _ _ _) (congrArg (World.drewN _) (Nat.add_assoc _ _ _))⟩))))
    go_meet
    case rel => exact ⟨_,(true),zT_,H',⟨by first|omega|exact Nat.le_refl _⟩,⟨by (with_reducible repeat (first|apply Kd.R_alloc|apply Kd.R_drewN|apply Kd.R_drew));exact Kd.R_mono HO826.out (fun _ hk => trivial)⟩,⟨by (with_reducible repeat (first|apply Kd.S_alloc|apply Kd.S_drewN|apply Kd.S_drew));exact Kd.S_mono HO821.out (fun _ hk => hk.1.2)⟩,⟨by (with_reducible repeat (first|refine bkN ?_ _|refine bkD ?_|refine bkA ?_ _));exact BK823.out⟩,⟨zb1 HB.out GE823.out⟩⟩
  case rest =>
   clear HC5
   try clear c1
   try clear c2
   try clear c2b0
   try clear c2b1
   try clear p2
   try clear c9
   try clear c13
   try clear hcz14_0
   try clear hcz14_1
   try clear hcz18_0
   try clear hcz18_1
   try clear hcz9_0
   try clear hcz9_1
   try clear hfz14_0
   try clear hfz14_1
   try clear hfz18_0
   try clear hfz18_1
   try clear hfz9_0
   try clear hfz9_1
   obtain ⟨kq,x24_4,rfl,HA,HJ4,HO_4,HO_824000,BK823,HB⟩ := hcut
   cases kq with
   | zero => exact absurd HA.out (fun h_ => (by cases h_))
   | succ kj4 =>
    have H := HA.out
    clear HA
    simp only [laws_FnReachOf.j0] at H
    by_cases c22 : x24_4 = true
    ·subst c22
     have H1 : ((spec_ReachOf.f kj4 t819 t822).bind fun t831 => ((laws_equalInts.f kj4 t824 t831).bind fun t834 => (some t834))) = some r := by rw [if_pos rfl] at H;exact H
     clear H
     have H := H1
     clear H1
     replace H := obS H
     obtain ⟨t831,A230,H⟩ := H
     replace H : ((laws_equalInts.f kj4 t824 t831).bind fun t834 => (some t834)) = some r := H
     have A23 := As_ A230
     clear A230
     replace H := obS H
     obtain ⟨t834,A240,H⟩ := H
     replace H : (some t834) = some r := H
     have A24 := As_ A240
     clear A240
     obtain rfl := Option.some.inj H
     have hcz25_0 : wc.cell? ⟨gb823,0,none⟩ = some (.slice Ao8 t819.length co8) := (bkC BK823.out 0).trans rfl
     have hcz25_1 : wc.cell? ⟨gb823,1,none⟩ = some (.int .i64 t822) := (bkC BK823.out 1).trans rfl
     have hfz25_0 := bkF BK823.out 0
     have hfz25_1 := bkF BK823.out 1
     go_wp2_with (first|(go_at_call 35;(with_reducible refine (spec_ReachOf.calls kj4 _ _ t819 t822 t831 _ ?side1 ?side2 A23.out).mono ?_);(case side1 => repeat (first|exact (Kd.S_reads' HO_824000.out).2.2|(with_reducible refine Kd.C_alloc ?_ _)|(with_reducible refine Kd.C_drewN ?_ _)|(with_reducible refine Kd.C_drew ?_)));(case side2 => exact (Kd.S_reads' HO_824000.out).2.1);rintro e w26 ⟨v832,rfl,ho0,hb⟩;have n0_ := As_ (Kd.R_elder' (zR_ HO_4.out) (Kd.R_base ho0) hb);have n1_ := As_ (Kd.S_elder' (zS_ HO_824000.out) (Kd.R_base ho0) hb);have n2_ := As_ (Kd.R_lower (Kd.R_new' ho0 (Kd.R_lt (zR_ HO_4.out))) (bwZ (zb1 HB.out GE823.out)));have n3_ := As_ (zkb BK823.out hb);have n4_ := As_ (bwT (zb1 HB.out GE823.out) hb);clear HO_4;clear HO_824000;clear BK823;clear HB;have HO_4 := n0_;have HO_824000 := n1_;have HO833 := n2_;have BK823 := n3_;have HB := n4_;clear n0_ n1_ n2_ n3_ n4_;(try clear hb);(try clear hb2);(try clear hk);(try clear hi);(try clear ho0);obtain ⟨Ao27,co27,eo27⟩ := Kd.R_slice HO_4.out;subst eo27;obtain ⟨Ao28,co28,eo28⟩ := Kd.R_slice HO833.out;subst eo28)|(go_at_call 34;(with_reducible refine (laws_equalInts.calls kj4 _ _ t824 _ _ t831 t834 _ ?side1 ?side2 ?side3 ?side4 A24.out).mono ?_);(case side1 => repeat (first|exact (Kd.R_reads' HO_4.out).2.2|(with_reducible refine Kd.C_alloc ?_ _)|(with_reducible refine Kd.C_drewN ?_ _)|(with_reducible refine Kd.C_drew ?_)));(case side2 => exact (Kd.R_reads' HO_4.out).2.1);(case side3 => repeat (first|exact (Kd.R_reads' HO833.out).2.2|(with_reducible refine Kd.C_alloc ?_ _)|(with_reducible refine Kd.C_drewN ?_ _)|(with_reducible refine Kd.C_drew ?_)));(case side4 => exact (Kd.R_reads' HO833.out).2.1);rintro e w' ⟨rfl,⟨nd,rfl⟩⟩;(try first|exact ⟨rfl,_,World.drewN_drewN _ _ _⟩|exact ⟨rfl,_,Eq.trans (World.drewN_drewN _ _ _) (congrArg (World.drewN _) (Nat.add_assoc _ _ _))⟩)))
     repeat (go_quiet (first|(go_at_call 35;(with_reducible refine (spec_ReachOf.calls kj4 _ _ t819 t822 t831 _ ?side1 ?side2 A23.out).mono ?_);(case side1 => repeat (first|exact (Kd.S_reads' HO_824000.out).2.2|(with_reducible refine Kd.C_alloc ?_ _)|(with_reducible refine Kd.C_drewN ?_ _)|(with_reducible refine Kd.C_drew ?_)));(case side2 => exact (Kd.S_reads' HO_824000.out).2.1);rintro e w26 ⟨v832,rfl,ho0,hb⟩;have n0_ := As_ (Kd.R_elder' (zR_ HO_4.out) (Kd.R_base ho0) hb);have n1_ := As_ (Kd.S_elder' (zS_ HO_824000.out) (Kd.R_base ho0) hb);have n2_ := As_ (Kd.R_lower (Kd.R_new' ho0 (Kd.R_lt (zR_ HO_4.out))) (bwZ (zb1 HB.out GE823.out)));have n3_ := As_ (zkb BK823.out hb);have n4_ := As_ (bwT (zb1 HB.out GE823.out) hb);clear HO_4;clear HO_824000;clear BK823;clear HB;have HO_4 := n0_;have HO_824000 := n1_;have HO833 := n2_;have BK823 := n3_;have HB := n4_;clear n0_ n1_ n2_ n3_ n4_;(try clear hb);(try clear hb2);(try clear hk);(try clear hi);(try clear ho0);obtain ⟨Ao27,co27,eo27⟩ := Kd.R_slice HO_4.out;subst eo27;obtain ⟨Ao28,co28,eo28⟩ := Kd.R_slice HO833.out;subst eo28)|(go_at_call 34;(with_reducible refine (laws_equalInts.calls kj4 _ _ t824 _ _ t831 t834 _ ?side1 ?side2 ?side3 ?side4 A24.out).mono ?_);(case side1 => repeat (first|exact (Kd.R_reads' HO_4.out).2.2|(with_reducible refine Kd.C_alloc ?_ _)|(with_reducible refine Kd.C_drewN ?_ _)|(with_reducible refine Kd.C_drew ?_)));(case side2 => exact (Kd.R_reads' HO_4.out).2.1);(case side3 => repeat (first|exact (Kd.R_reads' HO833.out).2.2|(with_reducible refine Kd.C_alloc ?_ _)|(with_reducible refine Kd.C_drewN ?_ _)|(with_reducible refine Kd.C_drew ?_)));(case side4 => exact (Kd.R_reads' HO833.out).2.1);rintro e w' ⟨rfl,⟨nd,rfl⟩⟩;(try first|exact ⟨rfl,_,World.drewN_drewN _ _ _⟩|exact ⟨rfl,_,Eq.trans (World.drewN_drewN _ _ _) (congrArg (World.drewN _) (Nat.add_assoc _ _ _))⟩)));try go_wp2_with (first|(go_at_call 35;(with_reducible refine (spec_ReachOf.calls kj4 _ _ t819 t822 t831 _ ?side1 ?side2 A23.out).mono ?_);(case side1 => repeat (first|exact (Kd.S_reads' HO_824000.out).2.2|(with_reducible refine Kd.C_alloc ?_ _)|(with_reducible refine Kd.C_drewN ?_ _)|(with_reducible refine Kd.C_drew ?_)));(case side2 => exact (Kd.S_reads' HO_824000.out).2.1);rintro e w26 ⟨v832,rfl,ho0,hb⟩;have n0_ := As_ (Kd.R_elder' (zR_ HO_4.out) (Kd.R_base ho0) hb);have n1_ := As_ (Kd.S_elder' (zS_ HO_824000.out) (Kd.R_base ho0) hb);have n2_ := As_ (Kd.R_lower (Kd.R_new' ho0 (Kd.R_lt (zR_ HO_4.out))) (bwZ (zb1 HB.out GE823.out)));have n3_ := As_ (zkb BK823.out hb);have n4_ := As_ (bwT (zb1 HB.out GE823.out) hb);clear HO_4;clear HO_824000;clear BK823;clear HB;have HO_4 := n0_;have HO_824000 := n1_;have HO833 := n2_;have BK823 := n3_;have HB := n4_;clear n0_ n1_ n2_ n3_ n4_;(try clear hb);(try clear hb2);(try clear hk);(try clear hi);(try clear ho0);obtain ⟨Ao27,co27,eo27⟩ := Kd.R_slice HO_4.out;subst eo27;obtain ⟨Ao28,co28,eo28⟩ := Kd.R_slice HO833.out;subst eo28)|(go_at_call 34;(with_reducible refine (laws_equalInts.calls kj4 _ _ t824 _ _ t831 t834 _ ?side1 ?side2 ?side3 ?side4 A24.out).mono ?_);(case side1 => repeat (first|exact (Kd.R_reads' HO_4.out).2.2|(with_reducible refine Kd.C_alloc ?_ _)|(with_reducible refine Kd.C_drewN ?_ _)|(with_reducible refine Kd.C_drew ?_)));(case side2 => exact (Kd.R_reads' HO_4.out).2.1);(case side3 => repeat (first|exact (Kd.R_reads' HO833.out).2.2|(with_reducible refine Kd.C_alloc ?_ _)|(with_reducible refine Kd.C_drewN ?_ _)|(with_reducible refine Kd.C_drew ?_)));(case side4 => exact (Kd.R_reads' HO833.out).2.1);rintro e w' ⟨rfl,⟨nd,rfl⟩⟩;(try first|exact ⟨rfl,_,World.drewN_drewN _ _ _⟩|exact ⟨rfl,_,Eq.trans (World.drewN_drewN _ _ _) (congrArg (World.drewN _) (Nat.add_assoc _ _ _))⟩))))
     go_ret
     exact ⟨by first|rfl|(simp [errW_none,errW_some] <;> rfl)|(simp [*,errW_none,errW_some] <;> rfl),zb1 HB.out GE823.out⟩
    ·replace c22 := Bool.eq_false_iff.mpr c22
     subst c22
     have H1 : (laws_FnReachOf.l0 kj4 t824 0 t819 t822) = some r := by rw [if_neg (show ¬ (false = true) by decide)] at H;exact H
     clear H
     have H := H1
     clear H1
     have H' := As_ H
     clear H
     go_wp2
     repeat (go_quiet (fail);try go_wp2)
     go_loopg [5] kj4 (fun kq v5 w' => ∃ (x5_2 : Int),v5 = .int .i64 x5_2 ∧ Aside0 (laws_FnReachOf.l0 kq t824 x5_2 t819 t822 = some r) ∧ Aside0 (kq ≤ kj4) ∧ Aside0 (Kd.R (Kd.int .i64) 3 w' w.heap.size (fun _ => True) v825 t824) ∧ Aside0 (Kd.S k45 45 w' w.heap.size (fun k_ => some k_ ≠ (v825 : Value).ownBlock) (.slice Ao8 t819.length co8) t819) ∧ Aside0 (w'.heap[gb823]? = some (.cells #[(.slice Ao8 t819.length co8),.int .i64 t822] 29 (0,0))) ∧ Aside0 (Below w.heap.size w w'))
     case atStart => exact ⟨(0),zT_,H',⟨Nat.le_refl _⟩,⟨by (with_reducible repeat (first|apply Kd.R_alloc|apply Kd.R_drewN|apply Kd.R_drew));exact HO_4.out⟩,⟨by (with_reducible repeat (first|apply Kd.S_alloc|apply Kd.S_drewN|apply Kd.S_drew));exact HO_824000.out⟩,⟨by (with_reducible repeat (first|refine bkN ?_ _|refine bkD ?_|refine bkA ?_ _));exact BK823.out⟩,⟨zb1 HB.out GE823.out⟩⟩
     case round =>
      clear H'
      try clear c1
      try clear c2
      try clear c2b0
      try clear c2b1
      try clear p2
      try clear c9
      try clear c13
      try clear c22
      try clear hcz14_0
      try clear hcz14_1
      try clear hcz18_0
      try clear hcz18_1
      try clear hcz25_0
      try clear hcz25_1
      try clear hcz9_0
      try clear hcz9_1
      try clear hfz14_0
      try clear hfz14_1
      try clear hfz18_0
      try clear hfz18_1
      try clear hfz25_0
      try clear hfz25_1
      try clear hfz9_0
      try clear hfz9_1
      try clear p2
      obtain ⟨x5_2,rfl,HA,HK2,HO_4,HO_824000,BK823,HB⟩ := hrel
      cases gk with
      | zero => exact absurd HA.out (fun h_ => (by cases h_))
      | succ k2 =>
       have H := HA.out
       clear HA
       simp only [laws_FnReachOf.l0] at H
       by_cases c29 : x5_2 < (t824.length : Int)
       ·rw [if_pos c29] at H
        have c29b0 : decide (x5_2 < (t824.length : Int)) = true := deT c29
        clear c29
        have HC30 := As_ H
        clear H
        obtain ⟨Ao31,co31,eo31⟩ := Kd.R_slice HO_4.out
        subst eo31
        go_upto_region 10 with (fail)
        repeat (go_quiet (fail);go_upto_region 10 with (fail))
        go_cut [56] (fun v56 wc => ∃ (kq : Nat) (x56_29 : Bool),v56 = .bool x56_29 ∧ Aside0 (laws_FnReachOf.j2 kq t824 x5_2 x56_29 t819 t822 = some r) ∧ Aside0 (kq ≤ k2) ∧ Aside0 (Kd.R (Kd.int .i64) 3 wc w.heap.size (fun _ => True) (.slice Ao31 t824.length co31) t824) ∧ Aside0 (Kd.S k45 45 wc w.heap.size (fun k_ => some k_ ≠ ((.slice Ao31 t824.length co31) : Value).ownBlock) (.slice Ao8 t819.length co8) t819) ∧ Aside0 (wc.heap[gb823]? = some (.cells #[(.slice Ao8 t819.length co8),.int .i64 t822] 29 (0,0))) ∧ Aside0 (Below w.heap.size w wc))
        case first =>
         have H := HC30.out
         clear HC30
         by_cases c32 : 0 ≤ x5_2
         rotate_left
         ·rw [if_neg c32] at H
          exact absurd H (by simp)
         rw [if_pos c32] at H
         have c32b0 : decide (0 ≤ x5_2) = true := deT c32
         clear c32
         (first|rw [c32b0]|(simp only [i64_w,i32_w];rw [c32b0])|skip)
         by_cases c33 : 0 ≤ (rd t824 x5_2)
         rotate_left
         ·rw [if_neg c33] at H
          exact absurd H (by simp)
         rw [if_pos c33] at H
         have c33b0 : decide (0 ≤ (rd t824 x5_2)) = true := deT c33
         clear c33
         by_cases c34 : (rd t824 x5_2) < (t819.length : Int)
         rotate_left
         ·rw [if_neg c34] at H
          exact absurd H (by simp)
         rw [if_pos c34] at H
         have c34b0 : decide ((rd t824 x5_2) < (t819.length : Int)) = true := deT c34
         clear c34
         replace H := obS H
         obtain ⟨t838,A350,H⟩ := H
         replace H : (if t838 = true then (if x5_2 ≤ (t824.length : Int) then ((laws_isIn.f k2 (t824.take (x5_2 : Int).toNat) (rd t824 x5_2)).bind fun t844 => (laws_FnReachOf.j2 k2 t824 x5_2 t844 t819 t822)) else (none)) else (laws_FnReachOf.j2 k2 t824 x5_2 true t819 t822)) = some r := H
         have A35 := As_ A350
         clear A350
         by_cases c36 : t838 = true
         ·subst c36
          have H1 : (if x5_2 ≤ (t824.length : Int) then ((laws_isIn.f k2 (t824.take (x5_2 : Int).toNat) (rd t824 x5_2)).bind fun t844 => (laws_FnReachOf.j2 k2 t824 x5_2 t844 t819 t822)) else (none)) = some r := by rw [if_pos rfl] at H;exact H
          clear H
          have H := H1
          clear H1
          have c37b0 := eq_true (odT zA_ : 0 ≤ x5_2)
          by_cases c38 : x5_2 ≤ (t824.length : Int)
          rotate_left
          ·rw [if_neg c38] at H
           exact absurd H (by simp)
          rw [if_pos c38] at H
          have c38b0 := eq_true c38
          have c38b1 : decide (x5_2 ≤ (t824.length : Int)) = true := deT c38
          clear c38
          obtain ⟨y839,hy839⟩ : ∃ y_ : List Int,y_ = (t824.take (x5_2 : Int).toNat) := ⟨_,rfl⟩
          replace H : ((laws_isIn.f k2 y839 (rd t824 x5_2)).bind fun t844 => (laws_FnReachOf.j2 k2 t824 x5_2 t844 t819 t822)) = some r := by first|(rw [hy839];with_reducible exact H)|(have H2_ := (Option.bind_some _ _).symm.trans H;rw [hy839];with_reducible exact H2_)|(have H2_ := (Option.bind_some _ _).symm.trans H;with_reducible exact H2_)|with_reducible exact H|(rw [hy839];exact H)|exact H
          have Ny839 := As_ hy839
          clear hy839
          replace H := obS H
          obtain ⟨t844,A390,H⟩ := H
          replace H : (laws_FnReachOf.j2 k2 t824 x5_2 t844 t819 t822) = some r := H
          have A39 := As_ A390
          clear A390
          have H' := As_ H
          clear H
          have hcz40_0 : wr.cell? ⟨gb823,0,none⟩ = some (.slice Ao8 t819.length co8) := (bkC BK823.out 0).trans rfl
          have hcz40_1 : wr.cell? ⟨gb823,1,none⟩ = some (.int .i64 t822) := (bkC BK823.out 1).trans rfl
          have hfz40_0 := bkF BK823.out 0
          have hfz40_1 := bkF BK823.out 1
          have p836 : 0 ≤ (x5_2 : Int) := odT zA_
          have q836 : x5_2 < (t824.length : Int) := odT zA_
          obtain ⟨ad836,e836,hx836_0⟩ := Kd.at_int (Kd.R_reads' HO_4.out).2.2 x5_2 p836 q836
          cases e836
          replace p836 := eq_true p836
          replace q836 := eq_true q836
          have p837 : 0 ≤ ((rd t824 x5_2) : Int) := odT zA_
          have q837 : (rd t824 x5_2) < (t819.length : Int) := odT zA_
          obtain ⟨ad837,A837_2,c837_2,e837,hx837_0,hx837_1,hx837_2,hl837_2,hi837_2⟩ := at_T45 (Kd.S_reads' HO_824000.out).2.2 (rd t824 x5_2) p837 q837
          cases e837
          obtain ⟨ce837,hce837,hMe837,hcc837⟩ := Kd.S_get HO_824000.out z45 (rd t824 x5_2) p837 (by first|exact q837|exact odT zA_|(have e_ := (Kd.S_reads' HO_824000.out).1;omega))
          obtain ⟨ve837_2,rfl,ge837_2⟩ := k45_openM hMe837
          have hv837_2 := hcc837 2 _ rfl
          rw [add_field _ _ 2 (by omega)] at hv837_2
          replace hv837_2 := Option.some.inj (hv837_2.symm.trans hx837_2)
          rw [hv837_2] at ge837_2
          have HL837_2 := As_ (show Kd.R (Kd.int .i64) 3 _ _ _ _ ((rd_T45 t819 (rd t824 x5_2)).f2) from ge837_2)
          clear hv837_2 ge837_2
          clear hcc837 hce837
          have HR837_2 := As_ hi837_2
          have HC837_2 := As_ hl837_2
          clear hi837_2 hl837_2
          replace p837 := eq_true p837
          replace q837 := eq_true q837
          go_wp2_with (first|(go_at_call 36;(with_reducible refine (laws_within.calls k2 _ _ ((rd_T45 t819 (rd t824 x5_2)).f2) _ _ t824 true _ ?side1 ?side2 ?side3 ?side4 A35.out).mono ?_);(case side1 => repeat (first|exact (by repeat (first|(with_reducible exact HR837_2.out)|(with_reducible refine Kd.C_alloc ?_ _)|(with_reducible refine Kd.C_drewN ?_ _)|(with_reducible refine Kd.C_drew ?_)|exact HR837_2.out))|(with_reducible refine Kd.C_alloc ?_ _)|(with_reducible refine Kd.C_drewN ?_ _)|(with_reducible refine Kd.C_drew ?_)));(case side2 => exact HC837_2.out);(case side3 => repeat (first|exact (Kd.R_reads' HO_4.out).2.2|(with_reducible refine Kd.C_alloc ?_ _)|(with_reducible refine Kd.C_drewN ?_ _)|(with_reducible refine Kd.C_drew ?_)));(case side4 => exact (Kd.R_reads' HO_4.out).2.1);rintro e w' ⟨rfl,⟨nd,rfl⟩⟩;(try first|exact ⟨rfl,_,World.drewN_drewN _ _ _⟩|exact ⟨rfl,_,Eq.trans (World.drewN_drewN _ _ _) (congrArg (World.drewN _) (Nat.add_assoc _ _ _))⟩);have q41 : (x5_2 : Int) ≤ ((t824.length : Int) : Int) := odT zA_;obtain ⟨i041,hi041,_,hsz41,_⟩ := info_parts info3;have hroom41 : t824.length ≤ co31 := (Kd.R_reads' HO_4.out).2.1;have hC41 : Kd.C (Kd.int .i64) _ (some ad836) t824.length t824 := (Kd.R_reads' HO_4.out).2.2;have hcut41 := cut_to (P := Try.prog) 37 3 .i64 Try.underlying37 hi041 (some ad836) t824.length co31 x5_2 (odT zA_) q41 hroom41;have hr41 := Kd.C_take (m := (x5_2 : Int).toNat) hC41 (by omega);have hy41 : y839.length = (x5_2 : Int).toNat := (by rw [Ny839.out,List.length_take];omega);rw [← Ny839.out] at hr41;rw [← hy41] at hcut41;have HR842 := As_ hr41;have HC842 := As_ (show y839.length ≤ co31 from by omega);clear hr41 hC41 hroom41 hi041 hsz41;have KY41 := As_ hy41;clear hy41;have KL41 := As_ (show (x5_2 : Int).toNat ≤ t824.length from by omega);replace q41 := eq_true q41;have p843 : 0 ≤ (x5_2 : Int) := odT zA_;have q843 : x5_2 < (t824.length : Int) := odT zA_;obtain ⟨ad843,e843,hx843_0⟩ := Kd.at_int (Kd.R_reads' HO_4.out).2.2 x5_2 p843 q843;obtain rfl : ad836 = ad843 := (by injection e843);replace p843 := eq_true p843;replace q843 := eq_true q843)|(go_at_call 37;(with_reducible refine (laws_isIn.calls k2 _ _ y839 (rd t824 x5_2) t844 _ ?side1 ?side2 A39.out).mono ?_);(case side1 => repeat (first|exact (by repeat (first|(with_reducible exact HR842.out)|(with_reducible refine Kd.C_alloc ?_ _)|(with_reducible refine Kd.C_drewN ?_ _)|(with_reducible refine Kd.C_drew ?_)|exact HR842.out))|(with_reducible refine Kd.C_alloc ?_ _)|(with_reducible refine Kd.C_drewN ?_ _)|(with_reducible refine Kd.C_drew ?_)));(case side2 => exact HC842.out);rintro e w' ⟨rfl,⟨nd,rfl⟩⟩;(try first|exact ⟨rfl,_,World.drewN_drewN _ _ _⟩|exact ⟨rfl,_,Eq.trans (World.drewN_drewN _ _ _) (congrArg (World.drewN _) (Nat.add_assoc _ _ _))⟩)))
          try (have q41 : (x5_2 : Int) ≤ ((t824.length : Int) : Int) := odT zA_;obtain ⟨i041,hi041,_,hsz41,_⟩ := info_parts info3;have hroom41 : t824.length ≤ co31 := (Kd.R_reads' HO_4.out).2.1;have hC41 : Kd.C (Kd.int .i64) _ (some ad836) t824.length t824 := (Kd.R_reads' HO_4.out).2.2;have hcut41 := cut_to (P := Try.prog) 37 3 .i64 Try.underlying37 hi041 (some ad836) t824.length co31 x5_2 (odT zA_) q41 hroom41;have hr41 := Kd.C_take (m := (x5_2 : Int).toNat) hC41 (by omega);have hy41 : y839.length = (x5_2 : Int).toNat := (by rw [Ny839.out,List.length_take];omega);rw [← Ny839.out] at hr41;rw [← hy41] at hcut41;have HR842 := As_ hr41;have HC842 := As_ (show y839.length ≤ co31 from by omega);clear hr41 hC41 hroom41 hi041 hsz41;have KY41 := As_ hy41;clear hy41;have KL41 := As_ (show (x5_2 : Int).toNat ≤ t824.length from by omega);replace q41 := eq_true q41;have p843 : 0 ≤ (x5_2 : Int) := odT zA_;have q843 : x5_2 < (t824.length : Int) := odT zA_;obtain ⟨ad843,e843,hx843_0⟩ := Kd.at_int (Kd.R_reads' HO_4.out).2.2 x5_2 p843 q843;obtain rfl : ad836 = ad843 := (by injection e843);replace p843 := eq_true p843;replace q843 := eq_true q843)
          repeat (go_quiet (first|(go_at_call 36;(with_reducible refine (laws_within.calls k2 _ _ ((rd_T45 t819 (rd t824 x5_2)).f2) _ _ t824 true _ ?side1 ?side2 ?side3 ?side4 A35.out).mono ?_);(case side1 => repeat (first|exact (by repeat (first|(with_reducible exact HR837_2.out)|(with_reducible refine Kd.C_alloc ?_ _)|(with_reducible refine Kd.C_drewN ?_ _)|(with_reducible refine Kd.C_drew ?_)|exact HR837_2.out))|(with_reducible refine Kd.C_alloc ?_ _)|(with_reducible refine Kd.C_drewN ?_ _)|(with_reducible refine Kd.C_drew ?_)));(case side2 => exact HC837_2.out);(case side3 => repeat (first|exact (Kd.R_reads' HO_4.out).2.2|(with_reducible refine Kd.C_alloc ?_ _)|(with_reducible refine Kd.C_drewN ?_ _)|(with_reducible refine Kd.C_drew ?_)));(case side4 => exact (Kd.R_reads' HO_4.out).2.1);rintro e w' ⟨rfl,⟨nd,rfl⟩⟩;(try first|exact ⟨rfl,_,World.drewN_drewN _ _ _⟩|exact ⟨rfl,_,Eq.trans (World.drewN_drewN _ _ _) (congrArg (World.drewN _) (Nat.add_assoc _ _ _))⟩))|(go_at_call 37;(with_reducible refine (laws_isIn.calls k2 _ _ y839 (rd t824 x5_2) t844 _ ?side1 ?side2 A39.out).mono ?_);(case side1 => repeat (first|exact (by repeat (first|(with_reducible exact HR842.out)|(with_reducible refine Kd.C_alloc ?_ _)|(with_reducible refine Kd.C_drewN ?_ _)|(with_reducible refine Kd.C_drew ?_)|exact HR842.out))|(with_reducible refine Kd.C_alloc ?_ _)|(with_reducible refine Kd.C_drewN ?_ _)|(with_reducible refine Kd.C_drew ?_)));(case side2 => exact HC842.out);rintro e w' ⟨rfl,⟨nd,rfl⟩⟩;(try first|exact ⟨rfl,_,World.drewN_drewN _ _ _⟩|exact ⟨rfl,_,Eq.trans (World.drewN_drewN _ _ _) (congrArg (World.drewN _) (Nat.add_assoc _ _ _))⟩)));try go_wp2_with (first|(go_at_call 36;(with_reducible refine (laws_within.calls k2 _ _ ((rd_T45 t819 (rd t824 x5_2)).f2) _ _ t824 true _ ?side1 ?side2 ?side3 ?side4 A35.out).mono ?_);(case side1 => repeat (first|exact (by repeat (first|(with_reducible exact HR837_2.out)|(with_reducible refine Kd.C_alloc ?_ _)|(with_reducible refine Kd.C_drewN ?_ _)|(with_reducible refine Kd.C_drew ?_)|exact HR837_2.out))|(with_reducible refine Kd.C_alloc ?_ _)|(with_reducible refine Kd.C_drewN ?_ _)|(with_reducible refine Kd.C_drew ?_)));(case side2 => exact HC837_2.out);(case side3 => repeat (first|exact (Kd.R_reads' HO_4.out).2.2|(with_reducible refine Kd.C_alloc ?_ _)|(with_reducible refine Kd.C_drewN ?_ _)|(with_reducible refine Kd.C_drew ?_)));(case side4 => exact (Kd.R_reads' HO_4.out).2.1);rintro e w' ⟨rfl,⟨nd,rfl⟩⟩;(try first|exact ⟨rfl,_,World.drewN_drewN _ _ _⟩|exact ⟨rfl,_,Eq.trans (World.drewN_drewN _ _ _) (congrArg (World.drewN _) (Nat.add_assoc _ _ _))⟩);have q41 : (x5_2 : Int) ≤ ((t824.length : Int) : Int) := odT zA_;obtain ⟨i041,hi041,_,hsz41,_⟩ := info_parts info3;have hroom41 : t824.length ≤ co31 := (Kd.R_reads' HO_4.out).2.1;have hC41 : Kd.C (Kd.int .i64) _ (some ad836) t824.length t824 := (Kd.R_reads' HO_4.out).2.2;have hcut41 := cut_to (P := Try.prog) 37 3 .i64 Try.underlying37 hi041 (some ad836) t824.length co31 x5_2 (odT zA_) q41 hroom41;have hr41 := Kd.C_take (m := (x5_2 : Int).toNat) hC41 (by omega);have hy41 : y839.length = (x5_2 : Int).toNat := (by rw [Ny839.out,List.length_take];omega);rw [← Ny839.out] at hr41;rw [← hy41] at hcut41;have HR842 := As_ hr41;have HC842 := As_ (show y839.length ≤ co31 from by omega);clear hr41 hC41 hroom41 hi041 hsz41;have KY41 := As_ hy41;clear hy41;have KL41 := As_ (show (x5_2 : Int).toNat ≤ t824.length from by omega);replace q41 := eq_true q41;have p843 : 0 ≤ (x5_2 : Int) := odT zA_;have q843 : x5_2 < (t824.length : Int) := odT zA_;obtain ⟨ad843,e843,hx843_0⟩ := Kd.at_int (Kd.R_reads' HO_4.out).2.2 x5_2 p843 q843;obtain rfl : ad836 = ad843 := (by injection e843);replace p843 := eq_true p843;replace q843 := eq_true q843)|(go_at_call 37;(with_reducible refine (laws_isIn.calls k2 _ _ y839 (rd t824 x5_2) t844 _ ?side1 ?side2 A39.out).mono ?_);(case side1 => repeat (first|exact (by repeat (first|(with_reducible exact HR842.out)|(with_reducible refine Kd.C_alloc ?_ _)|(with_reducible refine Kd.C_drewN ?_ _)|(with_reducible refine Kd.C_drew ?_)|exact HR842.out))|(with_reducible refine Kd.C_alloc ?_ _)|(with_reducible refine Kd.C_drewN ?_ _)|(with_reducible refine Kd.C_drew ?_)));(case side2 => exact HC842.out);rintro e w' ⟨rfl,⟨nd,rfl⟩⟩;(try first|exact ⟨rfl,_,World.drewN_drewN _ _ _⟩|exact ⟨rfl,_,Eq.trans (World.drewN_drewN _ _ _) (congrArg (World.drewN _) (Nat.add_assoc _ _ _))⟩))))
          go_meet
          case rel => exact ⟨_,(t844),zT_,H',⟨by have := HJ4.out;have := HK2.out;first|omega|exact Nat.le_refl _⟩,⟨by (with_reducible repeat (first|apply Kd.R_alloc|apply Kd.R_drewN|apply Kd.R_drew));exact HO_4.out⟩,⟨by (with_reducible repeat (first|apply Kd.S_alloc|apply Kd.S_drewN|apply Kd.S_drew));exact HO_824000.out⟩,⟨by (with_reducible repeat (first|refine bkN ?_ _|refine bkD ?_|refine bkA ?_ _));exact BK823.out⟩,⟨zb1 HB.out GE823.out⟩⟩
         ·replace c36 := Bool.eq_false_iff.mpr c36
          subst c36
          have H1 : (laws_FnReachOf.j2 k2 t824 x5_2 true t819 t822) = some r := by rw [if_neg (show ¬ (false = true) by decide)] at H;exact H
          clear H
          have H := H1
          clear H1
          have H' := As_ H
          clear H
          have hcz42_0 : wr.cell? ⟨gb823,0,none⟩ = some (.slice Ao8 t819.length co8) := (bkC BK823.out 0).trans rfl
          have hcz42_1 : wr.cell? ⟨gb823,1,none⟩ = some (.int .i64 t822) := (bkC BK823.out 1).trans rfl
          have hfz42_0 := bkF BK823.out 0
          have hfz42_1 := bkF BK823.out 1
          have p836 : 0 ≤ (x5_2 : Int) := odT zA_
          have q836 : x5_2 < (t824.length : Int) := odT zA_
          obtain ⟨ad836,e836,hx836_0⟩ := Kd.at_int (Kd.R_reads' HO_4.out).2.2 x5_2 p836 q836
          cases e836
          replace p836 := eq_true p836
          replace q836 := eq_true q836
          have p837 : 0 ≤ ((rd t824 x5_2) : Int) := odT zA_
          have q837 : (rd t824 x5_2) < (t819.length : Int) := odT zA_
          obtain ⟨ad837,A837_2,c837_2,e837,hx837_0,hx837_1,hx837_2,hl837_2,hi837_2⟩ := at_T45 (Kd.S_reads' HO_824000.out).2.2 (rd t824 x5_2) p837 q837
          cases e837
          obtain ⟨ce837,hce837,hMe837,hcc837⟩ := Kd.S_get HO_824000.out z45 (rd t824 x5_2) p837 (by first|exact q837|exact odT zA_|(have e_ := (Kd.S_reads' HO_824000.out).1;omega))
          obtain ⟨ve837_2,rfl,ge837_2⟩ := k45_openM hMe837
          have hv837_2 := hcc837 2 _ rfl
          rw [add_field _ _ 2 (by omega)] at hv837_2
          replace hv837_2 := Option.some.inj (hv837_2.symm.trans hx837_2)
          rw [hv837_2] at ge837_2
          have HL837_2 := As_ (show Kd.R (Kd.int .i64) 3 _ _ _ _ ((rd_T45 t819 (rd t824 x5_2)).f2) from ge837_2)
          clear hv837_2 ge837_2
          clear hcc837 hce837
          have HR837_2 := As_ hi837_2
          have HC837_2 := As_ hl837_2
          clear hi837_2 hl837_2
          replace p837 := eq_true p837
          replace q837 := eq_true q837
          go_wp2_with (first|(go_at_call 36;(with_reducible refine (laws_within.calls k2 _ _ ((rd_T45 t819 (rd t824 x5_2)).f2) _ _ t824 false _ ?side1 ?side2 ?side3 ?side4 A35.out).mono ?_);(case side1 => repeat (first|exact (by repeat (first|(with_reducible exact HR837_2.out)|(with_reducible refine Kd.C_alloc ?_ _)|(with_reducible refine Kd.C_drewN ?_ _)|(with_reducible refine Kd.C_drew ?_)|exact HR837_2.out))|(with_reducible refine Kd.C_alloc ?_ _)|(with_reducible refine Kd.C_drewN ?_ _)|(with_reducible refine Kd.C_drew ?_)));(case side2 => exact HC837_2.out);(case side3 => repeat (first|exact (Kd.R_reads' HO_4.out).2.2|(with_reducible refine Kd.C_alloc ?_ _)|(with_reducible refine Kd.C_drewN ?_ _)|(with_reducible refine Kd.C_drew ?_)));(case side4 => exact (Kd.R_reads' HO_4.out).2.1);rintro e w' ⟨rfl,⟨nd,rfl⟩⟩;(try first|exact ⟨rfl,_,World.drewN_drewN _ _ _⟩|exact ⟨rfl,_,Eq.trans (World.drewN_drewN _ _ _) (congrArg (World.drewN _) (Nat.add_assoc _ _ _))⟩)))
          repeat (go_quiet (first|(go_at_call 36;(with_reducible refine (laws_within.calls k2 _ _ ((rd_T45 t819 (rd t824 x5_2)).f2) _ _ t824 false _ ?side1 ?side2 ?side3 ?side4 A35.out).mono ?_);(case side1 => repeat (first|exact (by repeat (first|(with_reducible exact HR837_2.out)|(with_reducible refine Kd.C_alloc ?_ _)|(with_reducible refine Kd.C_drewN ?_ _)|(with_reducible refine Kd.C_drew ?_)|exact HR837_2.out))|(with_reducible refine Kd.C_alloc ?_ _)|(with_reducible refine Kd.C_drewN ?_ _)|(with_reducible refine Kd.C_drew ?_)));(case side2 => exact HC837_2.out);(case side3 => repeat (first|exact (Kd.R_reads' HO_4.out).2.2|(with_reducible refine Kd.C_alloc ?_ _)|(with_reducible refine Kd.C_drewN ?_ _)|(with_reducible refine Kd.C_drew ?_)));(case side4 => exact (Kd.R_reads' HO_4.out).2.1);rintro e w' ⟨rfl,⟨nd,rfl⟩⟩;(try first|exact ⟨rfl,_,World.drewN_drewN _ _ _⟩|exact ⟨rfl,_,Eq.trans (World.drewN_drewN _ _ _) (congrArg (World.drewN _) (Nat.add_assoc _ _ _))⟩)));try go_wp2_with (first|(go_at_call 36;(with_reducible refine (laws_within.calls k2 _ _ ((rd_T45 t819 (rd t824 x5_2)).f2) _ _ t824 false _ ?side1 ?side2 ?side3 ?side4 A35.out).mono ?_);(case side1 => repeat (first|exact (by repeat (first|(with_reducible exact HR837_2.out)|(with_reducible refine Kd.C_alloc ?_ _)|(with_reducible refine Kd.C_drewN ?_ _)|(with_reducible refine Kd.C_drew ?_)|exact HR837_2.out))|(with_reducible refine Kd.C_alloc ?_ _)|(with_reducible refine Kd.C_drewN ?_ _)|(with_reducible refine Kd.C_drew ?_)));(case side2 => exact HC837_2.out);(case side3 => repeat (first|exact (Kd.R_reads' HO_4.out).2.2|(with_reducible refine Kd.C_alloc ?_ _)|(with_reducible refine Kd.C_drewN ?_ _)|(with_reducible refine Kd.C_drew ?_)));(case side4 => exact (Kd.R_reads' HO_4.out).2.1);rintro e w' ⟨rfl,⟨nd,rfl⟩⟩;(try first|exact ⟨rfl,_,World.drewN_drewN _ _ _⟩|exact ⟨rfl,_,Eq.trans (World.drewN_drewN _ _ _) (congrArg (World.drewN _) (Nat.add_assoc _ _ _))⟩))))
          go_meet
          case rel => exact ⟨_,(true),zT_,H',⟨by have := HJ4.out;have := HK2.out;first|omega|exact Nat.le_refl _⟩,⟨by (with_reducible repeat (first|apply Kd.R_alloc|apply Kd.R_drewN|apply Kd.R_drew));exact HO_4.out⟩,⟨by (with_reducible repeat (first|apply Kd.S_alloc|apply Kd.S_drewN|apply Kd.S_drew));exact HO_824000.out⟩,⟨by (with_reducible repeat (first|refine bkN ?_ _|refine bkD ?_|refine bkA ?_ _));exact BK823.out⟩,⟨zb1 HB.out GE823.out⟩⟩
        case rest =>
         clear HC30
         try clear c1
         try clear c2
         try clear c2b0
         try clear c2b1
         try clear p2
         try clear c3
         try clear q4
         try clear c8
         try clear p8
         try clear q8
         try clear hx8
         try clear c9
         try clear c13
         try clear c22
         try clear c29
         try clear c29b0
         try clear c32
         try clear c32b0
         try clear c33
         try clear c33b0
         try clear c34
         try clear c34b0
         try clear c36
         try clear c37
         try clear c37b0
         try clear c38
         try clear c38b0
         try clear c38b1
         try clear q41
         try clear hcz14_0
         try clear hcz14_1
         try clear hcz18_0
         try clear hcz18_1
         try clear hcz25_0
         try clear hcz25_1
         try clear hcz40_0
         try clear hcz40_1
         try clear hcz42_0
         try clear hcz42_1
         try clear hcz9_0
         try clear hcz9_1
         try clear hfz14_0
         try clear hfz14_1
         try clear hfz18_0
         try clear hfz18_1
         try clear hfz25_0
         try clear hfz25_1
         try clear hfz40_0
         try clear hfz40_1
         try clear hfz42_0
         try clear hfz42_1
         try clear hfz9_0
         try clear hfz9_1
         try clear hx836_0
         try clear hx837_0
         try clear hx837_1
         try clear hx837_2
         try clear hx843_0
         try clear p2
         try clear p836
         try clear p837
         try clear p843
         try clear q41
         try clear q836
         try clear q837
         try clear q843
         obtain ⟨kq,x56_29,rfl,HA,HJ29,HO_4,HO_824000,BK823,HB⟩ := hcut
         cases kq with
         | zero => exact absurd HA.out (fun h_ => (by cases h_))
         | succ kj29 =>
          have H := HA.out
          clear HA
          simp only [laws_FnReachOf.j2] at H
          by_cases c43 : x56_29 = true
          ·subst c43
           have H1 : (some false) = some r := by rw [if_pos rfl] at H;exact H
           clear H
           have H := H1
           clear H1
           obtain rfl := Option.some.inj H
           go_wp2
           repeat (go_quiet (fail);try go_wp2)
           go_ret
           exact ⟨by first|rfl|(simp [errW_none,errW_some] <;> rfl)|(simp [*,errW_none,errW_some] <;> rfl),zb1 HB.out GE823.out⟩
          ·replace c43 := Bool.eq_false_iff.mpr c43
           subst c43
           have H1 : (laws_FnReachOf.l1 kj29 t824 x5_2 (x5_2 == 0) 0 t819 t822) = some r := by rw [if_neg (show ¬ (false = true) by decide)] at H;exact H
           clear H
           have H := H1
           clear H1
           have H' := As_ H
           clear H
           go_wp2
           repeat (go_quiet (fail);try go_wp2)
           go_loopg [6,7] kj29 (fun kq v6 v7 w' => ∃ (x6_4 : Bool) (x7_4 : Int),v6 = .bool x6_4 ∧ v7 = .int .i64 x7_4 ∧ Aside0 (laws_FnReachOf.l1 kq t824 x5_2 x6_4 x7_4 t819 t822 = some r) ∧ Aside0 (kq ≤ kj29) ∧ Aside0 (Kd.R (Kd.int .i64) 3 w' w.heap.size (fun _ => True) (.slice Ao31 t824.length co31) t824) ∧ Aside0 (Kd.S k45 45 w' w.heap.size (fun k_ => some k_ ≠ ((.slice Ao31 t824.length co31) : Value).ownBlock) (.slice Ao8 t819.length co8) t819) ∧ Aside0 (w'.heap[gb823]? = some (.cells #[(.slice Ao8 t819.length co8),.int .i64 t822] 29 (0,0))) ∧ Aside0 (Below w.heap.size w w'))
           case atStart => exact ⟨((x5_2 == 0)),(0),zT_,zT_,H',⟨Nat.le_refl _⟩,⟨by (with_reducible repeat (first|apply Kd.R_alloc|apply Kd.R_drewN|apply Kd.R_drew));exact HO_4.out⟩,⟨by (with_reducible repeat (first|apply Kd.S_alloc|apply Kd.S_drewN|apply Kd.S_drew));exact HO_824000.out⟩,⟨by (with_reducible repeat (first|refine bkN ?_ _|refine bkD ?_|refine bkA ?_ _));exact BK823.out⟩,⟨zb1 HB.out GE823.out⟩⟩
           case round =>
            clear H'
            try clear c1
            try clear c2
            try clear c2b0
            try clear c2b1
            try clear p2
            try clear c3
            try clear c4
            try clear q4
            try clear c8
            try clear p8
            try clear q8
            try clear hx8
            try clear c9
            try clear c13
            try clear c22
            try clear c29
            try clear c29b0
            try clear c32
            try clear c32b0
            try clear c33
            try clear c33b0
            try clear c34
            try clear c34b0
            try clear c36
            try clear c37
            try clear c37b0
            try clear c38
            try clear c38b0
            try clear c38b1
            try clear q41
            try clear c43
            try clear hcz14_0
            try clear hcz14_1
            try clear hcz18_0
            try clear hcz18_1
            try clear hcz25_0
            try clear hcz25_1
            try clear hcz40_0
            try clear hcz40_1
            try clear hcz42_0
            try clear hcz42_1
            try clear hcz9_0
            try clear hcz9_1
            try clear hfz14_0
            try clear hfz14_1
            try clear hfz18_0
            try clear hfz18_1
            try clear hfz25_0
            try clear hfz25_1
            try clear hfz40_0
            try clear hfz40_1
            try clear hfz42_0
            try clear hfz42_1
            try clear hfz9_0
            try clear hfz9_1
            try clear hx836_0
            try clear hx837_0
            try clear hx837_1
            try clear hx837_2
            try clear hx843_0
            try clear p2
            try clear p8
            try clear p836
            try clear p837
            try clear p843
            try clear q4
            try clear q41
            try clear q8
            try clear q836
            try clear q837
            try clear q843
            obtain ⟨x6_4,x7_4,rfl,rfl,HA,HK4,HO_4,HO_824000,BK823,HB⟩ := hrel
            cases gk with
            | zero => exact absurd HA.out (fun h_ => (by cases h_))
            | succ k4 =>
             have H := HA.out
             clear HA
             simp only [laws_FnReachOf.l1] at H
             by_cases c44 : x7_4 < x5_2
             ·rw [if_pos c44] at H
              have c44b0 : decide (x7_4 < x5_2) = true := deT c44
              clear c44
              by_cases c45 : x6_4 = true
              ·subst c45
               have H1 : (laws_FnReachOf.l1 k4 t824 x5_2 true (wrap64 (x7_4 + 1)) t819 t822) = some r := by rw [if_pos rfl] at H;exact H
               clear H
               have H := H1
               clear H1
               have H' := As_ H
               clear H
               go_wp2
               repeat (go_quiet (fail);try go_wp2)
               go_roundg k4
               case measure => have := HJ4.out;have := HK2.out;have := HJ29.out;have := HK4.out;omega
               case rel => exact ⟨(true),(wrap64 (x7_4 + 1)),zT_,zT_,H',⟨by have := HJ4.out;have := HK2.out;have := HJ29.out;have := HK4.out;omega⟩,⟨by (with_reducible repeat (first|apply Kd.R_alloc|apply Kd.R_drewN|apply Kd.R_drew));exact HO_4.out⟩,⟨by (with_reducible repeat (first|apply Kd.S_alloc|apply Kd.S_drewN|apply Kd.S_drew));exact HO_824000.out⟩,⟨by (with_reducible repeat (first|refine bkN ?_ _|refine bkD ?_|refine bkA ?_ _));exact BK823.out⟩,⟨zb1 HB.out GE823.out⟩⟩
              ·replace c45 := Bool.eq_false_iff.mpr c45
               subst c45
               have H1 : (if 0 ≤ x7_4 then (if x7_4 < (t824.length : Int) then (if 0 ≤ (rd t824 x7_4) then (if (rd t824 x7_4) < (t819.length : Int) then (if 0 ≤ x5_2 then (if x5_2 < (t824.length : Int) then ((laws_isIn.f k4 ((rd_T45 t819 (rd t824 x7_4)).f2) (rd t824 x5_2)).bind fun t848 => (laws_FnReachOf.l1 k4 t824 x5_2 t848 (wrap64 (x7_4 + 1)) t819 t822)) else (none)) else (none)) else (none)) else (none)) else (none)) else (none)) = some r := by rw [if_neg (show ¬ (false = true) by decide)] at H;exact H
               clear H
               have H := H1
               clear H1
               by_cases c46 : 0 ≤ x7_4
               rotate_left
               ·rw [if_neg c46] at H
                exact absurd H (by simp)
               rw [if_pos c46] at H
               have c46b0 : decide (0 ≤ x7_4) = true := deT c46
               clear c46
               by_cases c47 : x7_4 < (t824.length : Int)
               rotate_left
               ·rw [if_neg c47] at H
                exact absurd H (by simp)
               rw [if_pos c47] at H
               have c47b0 : decide (x7_4 < (t824.length : Int)) = true := deT c47
               clear c47
               by_cases c48 : 0 ≤ (rd t824 x7_4)
               rotate_left
               ·rw [if_neg c48] at H
                exact absurd H (by simp)
               rw [if_pos c48] at H
               have c48b0 : decide (0 ≤ (rd t824 x7_4)) = true := deT c48
               clear c48
               by_cases c49 : (rd t824 x7_4) < (t819.length : Int)
               rotate_left
               ·rw [if_neg c49] at H
                exact absurd H (by simp)
               rw [if_pos c49] at H
               have c49b0 : decide ((rd t824 x7_4) < (t819.length : Int)) = true := deT c49
               clear c49
               by_cases c50 : 0 ≤ x5_2
               rotate_left
               ·rw [if_neg c50] at H
                exact absurd H (by simp)
               rw [if_pos c50] at H
               have c50b0 : decide (0 ≤ x5_2) = true := deT c50
               clear c50
               by_cases c51 : x5_2 < (t824.length : Int)
               rotate_left
               ·rw [if_neg c51] at H
                exact absurd H (by simp)
               rw [if_pos c51] at H
               have c51b0 : decide (x5_2 < (t824.length : Int)) = true := deT c51
               clear c51
               replace H := obS H
               obtain ⟨t848,A520,H⟩ := H
               replace H : (laws_FnReachOf.l1 k4 t824 x5_2 t848 (wrap64 (x7_4 + 1)) t819 t822) = some r := H
               have A52 := As_ A520
               clear A520
               have H' := As_ H
               clear H
               have hcz53_0 : wr.cell? ⟨gb823,0,none⟩ = some (.slice Ao8 t819.length co8) := (bkC BK823.out 0).trans rfl
               have hcz53_1 : wr.cell? ⟨gb823,1,none⟩ = some (.int .i64 t822) := (bkC BK823.out 1).trans rfl
               have hfz53_0 := bkF BK823.out 0
               have hfz53_1 := bkF BK823.out 1
               have p845 : 0 ≤ (x7_4 : Int) := odT zA_
               have q845 : x7_4 < (t824.length : Int) := odT zA_
               obtain ⟨ad845,e845,hx845_0⟩ := Kd.at_int (Kd.R_reads' HO_4.out).2.2 x7_4 p845 q845
               cases e845
               replace p845 := eq_true p845
               replace q845 := eq_true q845
               have p846 : 0 ≤ ((rd t824 x7_4) : Int) := odT zA_
               have q846 : (rd t824 x7_4) < (t819.length : Int) := odT zA_
               obtain ⟨ad846,A846_2,c846_2,e846,hx846_0,hx846_1,hx846_2,hl846_2,hi846_2⟩ := at_T45 (Kd.S_reads' HO_824000.out).2.2 (rd t824 x7_4) p846 q846
               cases e846
               obtain ⟨ce846,hce846,hMe846,hcc846⟩ := Kd.S_get HO_824000.out z45 (rd t824 x7_4) p846 (by first|exact q846|exact odT zA_|(have e_ := (Kd.S_reads' HO_824000.out).1;omega))
               obtain ⟨ve846_2,rfl,ge846_2⟩ := k45_openM hMe846
               have hv846_2 := hcc846 2 _ rfl
               rw [add_field _ _ 2 (by omega)] at hv846_2
               replace hv846_2 := Option.some.inj (hv846_2.symm.trans hx846_2)
               rw [hv846_2] at ge846_2
               have HL846_2 := As_ (show Kd.R (Kd.int .i64) 3 _ _ _ _ ((rd_T45 t819 (rd t824 x7_4)).f2) from ge846_2)
               clear hv846_2 ge846_2
               clear hcc846 hce846
               have HR846_2 := As_ hi846_2
               have HC846_2 := As_ hl846_2
               clear hi846_2 hl846_2
               replace p846 := eq_true p846
               replace q846 := eq_true q846
               have p847 : 0 ≤ (x5_2 : Int) := odT zA_
               have q847 : x5_2 < (t824.length : Int) := odT zA_
               obtain ⟨ad847,e847,hx847_0⟩ := Kd.at_int (Kd.R_reads' HO_4.out).2.2 x5_2 p847 q847
               obtain rfl : ad845 = ad847 := (by injection e847)
               replace p847 := eq_true p847
               replace q847 := eq_true q847
               go_wp2_with (first|(go_at_call 37;(with_reducible refine (laws_isIn.calls k4 _ _ ((rd_T45 t819 (rd t824 x7_4)).f2) (rd t824 x5_2) t848 _ ?side1 ?side2 A52.out).mono ?_);(case side1 => repeat (first|exact (by repeat (first|(with_reducible exact HR846_2.out)|(with_reducible refine Kd.C_alloc ?_ _)|(with_reducible refine Kd.C_drewN ?_ _)|(with_reducible refine Kd.C_drew ?_)|exact HR846_2.out))|(with_reducible refine Kd.C_alloc ?_ _)|(with_reducible refine Kd.C_drewN ?_ _)|(with_reducible refine Kd.C_drew ?_)));(case side2 => exact HC846_2.out);rintro e w' ⟨rfl,⟨nd,rfl⟩⟩;(try first|exact ⟨rfl,_,World.drewN_drewN _ _ _⟩|exact ⟨rfl,_,Eq.trans (World.drewN_drewN _ _ _) (congrArg (World.drewN _) (Nat.add_assoc _ _ _))⟩)))
               repeat (go_quiet (first|(go_at_call 37;(with_reducible refine (laws_isIn.calls k4 _ _ ((rd_T45 t819 (rd t824 x7_4)).f2) (rd t824 x5_2) t848 _ ?side1 ?side2 A52.out).mono ?_);(case side1 => repeat (first|exact (by repeat (first|(with_reducible exact HR846_2.out)|(with_reducible refine Kd.C_alloc ?_ _)|(with_reducible refine Kd.C_drewN ?_ _)|(with_reducible refine Kd.C_drew ?_)|exact HR846_2.out))|(with_reducible refine Kd.C_alloc ?_ _)|(with_reducible refine Kd.C_drewN ?_ _)|(with_reducible refine Kd.C_drew ?_)));(case side2 => exact HC846_2.out);rintro e w' ⟨rfl,⟨nd,rfl⟩⟩;(try first|exact ⟨rfl,_,World.drewN_drewN _ _ _⟩|exact ⟨rfl,_,Eq.trans (World.drewN_drewN _ _ _) (congrArg (World.drewN _) (Nat.add_assoc _ _ _))⟩)));try go_wp2_with (first|(go_at_call 37;(with_reducible refine (laws_isIn.calls k4 _ _ ((rd_T45 t819 (rd t824 x7_4)).f2) (rd t824 x5_2) t848 _ ?side1 ?side2 A52.out).mono ?_);(case side1 => repeat (first|exact (by repeat (first|(with_reducible exact HR846_2.out)|(with_reducible refine Kd.C_alloc ?_ _)|(with_reducible refine Kd.C_drewN ?_ _)|(with_reducible refine Kd.C_drew ?_)|exact HR846_2.out))|(with_reducible refine Kd.C_alloc ?_ _)|(with_reducible refine Kd.C_drewN ?_ _)|(with_reducible refine Kd.C_drew ?_)));(case side2 => exact HC846_2.out);rintro e w' ⟨rfl,⟨nd,rfl⟩⟩;(try first|exact ⟨rfl,_,World.drewN_drewN _ _ _⟩|exact ⟨rfl,_,Eq.trans (World.drewN_drewN _ _ _) (congrArg (World.drewN _) (Nat.add_assoc _ _ _))⟩))))
               go_roundg k4
               case measure => have := HJ4.out;have := HK2.out;have := HJ29.out;have := HK4.out;omega
               case rel => exact ⟨(t848),(wrap64 (x7_4 + 1)),zT_,zT_,H',⟨by have := HJ4.out;have := HK2.out;have := HJ29.out;have := HK4.out;omega⟩,⟨by (with_reducible repeat (first|apply Kd.R_alloc|apply Kd.R_drewN|apply Kd.R_drew));exact HO_4.out⟩,⟨by (with_reducible repeat (first|apply Kd.S_alloc|apply Kd.S_drewN|apply Kd.S_drew));exact HO_824000.out⟩,⟨by (with_reducible repeat (first|refine bkN ?_ _|refine bkD ?_|refine bkA ?_ _));exact BK823.out⟩,⟨zb1 HB.out GE823.out⟩⟩
             ·rw [if_neg c44] at H
              have c44b0 : decide (x7_4 < x5_2) = false := deF c44
              clear c44
              by_cases c54 : x6_4 = true
              ·subst c54
               have H1 : (laws_FnReachOf.l0 k4 t824 (wrap64 (x5_2 + 1)) t819 t822) = some r := by rw [if_pos rfl] at H;exact H
               clear H
               have H := H1
               clear H1
               have H' := As_ H
               clear H
               go_wp2
               repeat (go_quiet (fail);try go_wp2)
               go_roundg k4
               case measure => have := HJ4.out;have := HK2.out;have := HJ29.out;have := HK4.out;omega
               case rel => exact ⟨(wrap64 (x5_2 + 1)),zT_,H',⟨by have := HJ4.out;have := HK2.out;have := HJ29.out;have := HK4.out;omega⟩,⟨by (with_reducible repeat (first|apply Kd.R_alloc|apply Kd.R_drewN|apply Kd.R_drew));exact HO_4.out⟩,⟨by (with_reducible repeat (first|apply Kd.S_alloc|apply Kd.S_drewN|apply Kd.S_drew));exact HO_824000.out⟩,⟨by (with_reducible repeat (first|refine bkN ?_ _|refine bkD ?_|refine bkA ?_ _));exact BK823.out⟩,⟨zb1 HB.out GE823.out⟩⟩
              ·replace c54 := Bool.eq_false_iff.mpr c54
               subst c54
               have H1 : (some false) = some r := by rw [if_neg (show ¬ (false = true) by decide)] at H;exact H
               clear H
               have H := H1
               clear H1
               obtain rfl := Option.some.inj H
               go_wp2
               repeat (go_quiet (fail);try go_wp2)
               go_ret
               exact ⟨by first|rfl|(simp [errW_none,errW_some] <;> rfl)|(simp [*,errW_none,errW_some] <;> rfl),zb1 HB.out GE823.out⟩
       ·rw [if_neg c29] at H
        have c29b0 : decide (x5_2 < (t824.length : Int)) = false := deF c29
        clear c29
        by_cases c55 : 0 < (t824.length : Int)
        rotate_left
        ·rw [if_neg c55] at H
         exact absurd H (by simp)
        rw [if_pos c55] at H
        have c55b0 : decide (0 < (t824.length : Int)) = true := deT c55
        have c55b1 : decide (0 < t824.length) = true := deT (by omega)
        clear c55
        obtain rfl := Option.some.inj H
        obtain ⟨Ao56,co56,eo56⟩ := Kd.R_slice HO_4.out
        subst eo56
        have p835 : 0 ≤ (0 : Int) := (by omega)
        have q835 : 0 < (t824.length : Int) := odT zA_
        obtain ⟨ad835,e835,hx835_0⟩ := Kd.at_int (Kd.R_reads' HO_4.out).2.2 0 p835 q835
        cases e835
        have qi835 : (0 < t824.length) = True := eq_true (by omega)
        (try rw [show ((0 : Int)).toNat = 0 from rfl] at hx835_0)
        (try rw [Addr.add_zero'] at hx835_0)
        replace p835 := eq_true p835
        replace q835 := eq_true q835
        have hcz57_0 : wr.cell? ⟨gb823,0,none⟩ = some (.slice Ao8 t819.length co8) := (bkC BK823.out 0).trans rfl
        have hcz57_1 : wr.cell? ⟨gb823,1,none⟩ = some (.int .i64 t822) := (bkC BK823.out 1).trans rfl
        have hfz57_0 := bkF BK823.out 0
        have hfz57_1 := bkF BK823.out 1
        go_wp2
        repeat (go_quiet (fail);try go_wp2)
        go_ret
        exact ⟨by first|rfl|(simp [errW_none,errW_some] <;> rfl)|(simp [*,errW_none,errW_some] <;> rfl),zb1 HB.out GE823.out⟩

/-- THE ONE PURE STATEMENT of laws_FnReachOf: yours. -/
def laws_FnReachOf.Pure : Prop := ∀ (l0 : List Int),l0.length ≤ maxLen → l0.length * 1 ≤ 140737488351232 → (∀ x ∈ l0,(Lit.int .u8 x).wf = true) → ∃ k,laws_FnReachOf.f k l0 = some true
theorem laws_FnReachOf.walk (P : laws_FnReachOf.Pure) (a0 : Option Addr) (len0 cap0 : Nat) (z0 : List Int) (w : World) (w0 : (a0 = none ∧ len0 = 0 ∧ cap0 = 0 ∧ z0 = []) ∨ ∃ x,a0 = some x ∧ len0 ≤ cap0 ∧ cap0 ≤ maxLen ∧ z0.length = cap0 ∧ (∀ i,i < z0.length → w.cell? (x.add i) = some (.int .u8 (z0.getD i 0))) ∧ ∀ n ∈ z0,(Lit.int .u8 n).wf = true) (y0 : len0 * 1 ≤ 140737488351232) :
  Calls Try.prog 9 #[.slice a0 len0 cap0] w fun e w' => e = .returned (.bool true) ∧ Below w.heap.size w w' := by
 obtain ⟨l0,rfl,hr0,hm0,hw0,hc0⟩ := ReadsInt.ofRowC w0
 obtain ⟨k,h⟩ := P l0 hm0 y0 hw0
 refine (laws_FnReachOf.calls k _ _ l0 true w (Kd.C_of_reads (d := (0 : Int)) (h1 := fun _ => rfl) hr0) hc0 h).mono ?_
 rintro e w' ⟨rfl,hd⟩
 exact ⟨rfl,hd⟩

end Go.Proofs.Ytfhakhbmbnbneaa.Q
