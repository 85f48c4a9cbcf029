-- Written by wip/tools/qprint.py (a program of this claim's author) by means of the kit's printer.
import Derived.Test.YtfhakhbmbnbneaaQ0
import Derived.Test.YtfhakhbmbnbneaaQ34
import Derived.Test.YtfhakhbmbnbneaaQ42
import Derived.Test.YtfhakhbmbnbneaaQ44
import Derived.Test.YtfhakhbmbnbneaaQ57
import Derived.Test.YtfhakhbmbnbneaaQ76
namespace Go.Proofs.Ytfhakhbmbnbneaa.Q
open Go.RowKit Go.Proofs.YtfhakhbmbnbneaaW.PrintWords Go.Proofs.YtfhakhbmbnbneaaW.PrintLast Go.Proofs.YtfhakhbmbnbneaaW.PrintMore
attribute [local go_sem] max2_int min2_int max_two min_two max_three min_three max_four min_four   -- for this text's walks alone
set_option linter.unusedVariables false
set_option linter.unusedSimpArgs false

/-! ### laws_FnCodeOf: function 13 -/
def laws_FnCodeOf.j0 : Nat → List Int → Bool → List (S45) → Int → Option (Bool)
 | 0,_,_,_,_ => none
 | k + 1,x4,x21,x1037000,x1037001 => if x21 = true then ((spec_CodeOf.f k x1037000 x1037001).bind fun t1044 => ((laws_equalInts.f k x4 t1044).bind fun t1047 => (some t1047))) else ((impl_PrunedGraph.f k x1037000 x1037001).bind fun bt1048 => ((impl_CodeOf.f k bt1048.1 bt1048.2).bind fun t1052 => ((laws_equalInts.f k t1052 x4).bind fun t1055 => (if t1055 = true then (if 0 < (x4.length : Int) then (if 0 ≤ x1037001 then (if x1037001 < (x1037000.length : Int) then (if (rd x4 0) = ((rd_T45 x1037000 x1037001).f0) then (if 1 < (x4.length : Int) then (some ((rd x4 1) == ((rd_T45 x1037000 x1037001).f1))) else (none)) else (some false)) else (none)) else (none)) else (none)) else (some false)))))
def laws_FnCodeOf.f (k : Nat) (l0 : List Int) : Option (Bool) := if (l0.length : Int) > 1048576 then (some true) else ((spec_DrawCodeOf.f k l0).bind fun bt1032 => ((impl_CodeOf.f k bt1032.1 bt1032.2).bind fun t1037 => ((spec_CodeOf.f k bt1032.1 bt1032.2).bind fun t1040 => ((laws_equalInts.f k t1037 t1040).bind fun t1043 => (if t1043 = true then (laws_FnCodeOf.j0 k t1037 ((t1037.length : Int) == 0) bt1032.1 bt1032.2) else (laws_FnCodeOf.j0 k t1037 true bt1032.1 bt1032.2))))))
set_option maxRecDepth 100000 in
theorem laws_FnCodeOf.mono_l : ∀ k,(∀ y0 y1 y2 y3,LeO (laws_FnCodeOf.j0 k y0 y1 y2 y3) (laws_FnCodeOf.j0 (k + 1) y0 y1 y2 y3))
 | 0 => fun _ _ _ _ r h => (by cases h)
 | k + 1 => by
  have ih0 := laws_FnCodeOf.mono_l k
  ·intro y0 y1 y2 y3
   unfold laws_FnCodeOf.j0
   repeat' first
   | (with_reducible exact ih0 _ _ _ _)
   | (with_reducible exact impl_CodeOf.mono _ _ _)
   | (with_reducible exact impl_PrunedGraph.mono _ _ _)
   | (with_reducible exact laws_equalInts.mono _ _ _)
   | (with_reducible exact spec_CodeOf.mono _ _ _)
   | (with_reducible exact spec_DrawCodeOf.mono _ _)
   | (with_reducible exact LeO.refl _)
   | (with_reducible exact LeO.none _)
   | (with_reducible refine LeO.ite ?_ ?_)
   | (with_reducible refine LeO.bind ?_ (fun _ => ?_))
   | exact ih0 _ _ _ _
   | exact impl_CodeOf.mono _ _ _
   | exact impl_PrunedGraph.mono _ _ _
   | exact laws_equalInts.mono _ _ _
   | exact spec_CodeOf.mono _ _ _
   | exact spec_DrawCodeOf.mono _ _
   | exact LeO.none _
   | refine LeO.ite ?_ ?_
   | refine LeO.bind ?_ (fun _ => ?_)
set_option maxRecDepth 100000 in
theorem laws_FnCodeOf.mono : ∀ a0 k,LeO (laws_FnCodeOf.f k a0) (laws_FnCodeOf.f (k + 1) a0) := by
 intro a0 k
 have ih0 := laws_FnCodeOf.mono_l k
 unfold laws_FnCodeOf.f
 repeat' first
   | (with_reducible exact ih0 _ _ _ _)
   | (with_reducible exact impl_CodeOf.mono _ _ _)
   | (with_reducible exact impl_PrunedGraph.mono _ _ _)
   | (with_reducible exact laws_equalInts.mono _ _ _)
   | (with_reducible exact spec_CodeOf.mono _ _ _)
   | (with_reducible exact spec_DrawCodeOf.mono _ _)
   | (with_reducible exact LeO.refl _)
   | (with_reducible exact LeO.none _)
   | (with_reducible refine LeO.ite ?_ ?_)
   | (with_reducible refine LeO.bind ?_ (fun _ => ?_))
   | exact ih0 _ _ _ _
   | exact impl_CodeOf.mono _ _ _
   | exact impl_PrunedGraph.mono _ _ _
   | exact laws_equalInts.mono _ _ _
   | exact spec_CodeOf.mono _ _ _
   | exact spec_DrawCodeOf.mono _ _
   | exact LeO.none _
   | refine LeO.ite ?_ ?_
   | refine LeO.bind ?_ (fun _ => ?_)
def laws_FnCodeOf.T7 : Bool × List (List Nat × List Nat) := (true,[([],[]),([0],[0]),([1,1],[1]),([],[]),([2,3,2],[2,3]),([4,4],[4]),([5],[5]),([6,5],[5,6]),([7,5],[5,7]),([5],[5]),([9,5],[5,9]),([5],[5]),([11,5],[5,11]),([10,12,5],[5,10,12]),([13,5],[5,13]),([14,5],[5,14]),([8,15,5],[5,8,15]),([5,16],[5,16]),([17,5],[17]),([18],[18]),([19,18],[18,19]),([20,18],[18,20]),([18],[18]),([22,18],[18,22]),([18],[18]),([24,18],[18,24]),([23,25,18],[18,23,25]),([26,18],[18,26]),([27,18],[18,27]),([21,28,18],[18,21,28]),([18,29],[18,29]),([30,18,0,1,2,3,4,5,6,7,8,9,10,11,12,13,14,15,16,17,18,19,20,21,22,23,24,25,26,27,28,29,30],[30])])
def laws_FnCodeOf.B7 : List Nat := [0,1,3,0,15,31,63,127,255,63,575,63,2111,7743,15935,32319,65535,131071,262143,524287,1048575,2097151,524287,4718591,524287,17301503,63438847,130547711,264765439,536870911,1073741823,2147483647]
theorem laws_FnCodeOf.tab7 : rtab .any (opsOf Try.f13 7) = laws_FnCodeOf.T7 := by kernel_rfl
theorem laws_FnCodeOf.bits7 : waitsOk laws_FnCodeOf.T7.2 laws_FnCodeOf.B7 = true := by kernel_rfl
set_option maxHeartbeats 8000000 in
set_option maxRecDepth 100000 in
theorem laws_FnCodeOf.calls (k : Nat) (A0 : Option Addr) (c0 : Nat) (l0 : List Int) (r : Bool) (w : World) (hr0 : Kd.C (Kd.int .u8) w A0 l0.length l0) (hc0 : l0.length ≤ c0) (h : laws_FnCodeOf.f k l0 = some r) :
  Calls Try.prog 13 #[.slice A0 l0.length c0] w fun e w' => e = .returned (.bool r) ∧ Below w.heap.size w w' := by
 have hu29 := Try.underlying29
 have HR0 := As_ hr0
 have HC0 := As_ hc0
 clear hr0 hc0
 have HB := As_ (Below.refl w.heap.size w)
 have H : (if (l0.length : Int) > 1048576 then (some true) else ((spec_DrawCodeOf.f k l0).bind fun bt1032 => ((impl_CodeOf.f k bt1032.1 bt1032.2).bind fun t1037 => ((spec_CodeOf.f k bt1032.1 bt1032.2).bind fun t1040 => ((laws_equalInts.f k t1037 t1040).bind fun t1043 => (if t1043 = true then (laws_FnCodeOf.j0 k t1037 ((t1037.length : Int) == 0) bt1032.1 bt1032.2) else (laws_FnCodeOf.j0 k t1037 true bt1032.1 bt1032.2))))))) = some r := h
 clear h
 by_cases c2 : (l0.length : Int) > 1048576
 ·rw [if_pos c2] at H
  have c2b0 : decide (1048576 < (l0.length : Int)) = true := deT c2
  have c2b1 : decide (1048576 < l0.length) = true := deT (by omega)
  clear c2
  obtain rfl := Option.some.inj H
  go_enter Try.func13,Try.ntmps13
  go_wp2
  go_ret
  exact ⟨zE_,zb0 HB.out⟩
 rw [if_neg c2] at H
 have c2b0 : decide (1048576 < (l0.length : Int)) = false := deF c2
 have c2b1 : decide (1048576 < l0.length) = false := deF (by omega)
 clear c2
 replace H := obS H
 obtain ⟨⟨t1032,t1035⟩,A30,H⟩ := H
 replace H : ((impl_CodeOf.f k t1032 t1035).bind fun t1037 => ((spec_CodeOf.f k t1032 t1035).bind fun t1040 => ((laws_equalInts.f k t1037 t1040).bind fun t1043 => (if t1043 = true then (laws_FnCodeOf.j0 k t1037 ((t1037.length : Int) == 0) t1032 t1035) else (laws_FnCodeOf.j0 k t1037 true t1032 t1035))))) = some r := H
 have A3 := As_ A30
 clear A30
 replace H := obS H
 obtain ⟨t1037,A40,H⟩ := H
 replace H : ((spec_CodeOf.f k t1032 t1035).bind fun t1040 => ((laws_equalInts.f k t1037 t1040).bind fun t1043 => (if t1043 = true then (laws_FnCodeOf.j0 k t1037 ((t1037.length : Int) == 0) t1032 t1035) else (laws_FnCodeOf.j0 k t1037 true t1032 t1035)))) = some r := H
 have A4 := As_ A40
 clear A40
 have HC5 := As_ H
 clear H
 go_enter Try.func13,Try.ntmps13
 go_upto_region 5 with (first|((with_reducible refine gate_callee (f := 44) rfl ?_);refine goesL_ (some 9) rfl rfl Try.func44 (by kernel_rfl) rfl #[.slice A0 l0.length c0] rfl zM_ ?_;(with_reducible refine (spec_DrawCodeOf.calls k _ _ l0 t1032 t1035 _ ?side1 ?side2 A3.out).mono ?_);(case side1 => repeat (first|exact HR0.out|(with_reducible refine Kd.C_alloc ?_ _)|(with_reducible refine Kd.C_drewN ?_ _)|(with_reducible refine Kd.C_drew ?_)));(case side2 => exact HC0.out);rintro e w6 ⟨v1033,rfl,ho0,hb⟩;refine ⟨_,rfl,?_⟩;have n0_ := As_ (Kd.S_lower ho0 (bwZ (zb0 HB.out)));have n1_ := As_ (bwT (zb0 HB.out) hb);clear HB;revert n0_ n1_;intro HO1034 HB)|((with_reducible refine gate_dst (N := 3) rfl ?_);(try (refine gate_guard (by rfl) ?_;dsimp only));refine box_event ?hg (N := 3) ?hd (cs := #[.slice none 0 0,.int .i64 0]) (t := 29) ?hr ?_;(case hd => rfl);(case hg => rfl);(case hr => go_simp <;> rfl);intro gb1036 hg w7 hbox hb;have n0_ := As_ (Kd.S_below (zS_ HO1034.out) hb);have n1_ := As_ (bwT (zb0 HB.out) hb);have n2_ := As_ (hbox);have n3_ := As_ ((by rw [hg];exact (bwZ (zb0 HB.out)) : w.heap.size ≤ gb1036));have n4_ := As_ ((by rw [hg];exact (bwZ (zb0 HB.out)) : w.heap.size ≤ gb1036));clear HO1034 HB;revert n0_ n1_ n2_ n3_ n4_;intro HO1034 HB BK1036 GW1036 GE1036;clear hb hbox hg;obtain ⟨Ao8,co8,eo8⟩ := Kd.S_slice HO1034.out;subst eo8;obtain ⟨hcz9_0,hcz9_1,hfz9_0,hfz9_1⟩ := bk2 BK1036.out)|((with_reducible refine gate_callee (f := 43) rfl ?_);refine goesL_ (some 11) rfl rfl Try.func43 (by kernel_rfl) rfl #[.agg #[.slice Ao8 t1032.length co8,.int .i64 t1035]] rfl zM_ ?_;(with_reducible refine (impl_CodeOf.calls k _ _ t1032 t1035 t1037 _ ?side1 ?side2 A4.out).mono ?_);(case side1 => refine (Kd.S_reads' (e := 45) (base := w.heap.size) (ok := fun k_ => True) (n := t1032.length) (c := co8) ?_).2.2;exact (by (with_reducible repeat (first|apply Kd.S_alloc|apply Kd.S_drewN|apply Kd.S_drew));exact (Kd.S_mono (Kd.S_far (p := ⟨gb1036,1,none⟩) (Kd.S_far (p := ⟨gb1036,0,none⟩) (Kd.S_types HO1034.out BK1036.out (by decide)) (fun _ hk => hk.2) (.slice Ao8 t1032.length co8)) (fun _ hk => hk.2) (.int .i64 t1035)) (fun _ h_ => h_.1))));(case side2 => exact (Kd.S_reads' HO1034.out).2.1);rintro e w10 ⟨v1038,rfl,ho0,hb⟩;refine ⟨_,rfl,?_⟩;have n0_ := As_ (Kd.S_elder' (by (with_reducible repeat (first|apply Kd.S_alloc|apply Kd.S_drewN|apply Kd.S_drew));exact (Kd.S_mono (Kd.S_far (p := ⟨gb1036,1,none⟩) (Kd.S_far (p := ⟨gb1036,0,none⟩) (Kd.S_types HO1034.out BK1036.out (by decide)) (fun _ hk => hk.2) (.slice Ao8 t1032.length co8)) (fun _ hk => hk.2) (.int .i64 t1035)) (fun _ h_ => h_.1))) (Kd.R_base ho0) hb);have n1_ := As_ (Kd.R_lower ho0 (bwZ (zb1 HB.out GE1036.out)));have n2_ := As_ (blk_below (g := gb1036) (o := .cells #[.slice Ao8 t1032.length co8,.int .i64 t1035] 29 (0,0)) (by (with_reducible repeat first|apply bkN|apply bkD|apply bkA);refine blk_put (cs := #[.slice Ao8 t1032.length co8,.int .i64 0]) ?_ 1 _ rfl;(with_reducible repeat first|apply bkN|apply bkD|apply bkA);refine blk_put (cs := #[.slice none 0 0,.int .i64 0]) ?_ 0 _ rfl;(with_reducible repeat first|apply bkN|apply bkD|apply bkA);exact BK1036.out) hb);have n3_ := As_ (bwT (zb1 HB.out GE1036.out) hb);clear HO1034 BK1036 HB;revert n0_ n1_ n2_ n3_;intro HO1034 HO1039 BK1036 HB))
 (try simp only [Act.put,List.setIfInBounds_toArray,List.set_cons_zero,List.set_cons_succ])
 go_cut [21] (fun v21 wc => ∃ (kq : Nat) (x21_4 : Bool),v21 = .bool x21_4 ∧ Aside0 (laws_FnCodeOf.j0 kq t1037 x21_4 t1032 t1035 = some r) ∧ Aside0 (kq ≤ k) ∧ Aside0 (Kd.R (Kd.int .i64) 3 wc w.heap.size (fun _ => True) v1038 t1037) ∧ Aside0 (Kd.S k45 45 wc w.heap.size (fun k_ => some k_ ≠ (v1038 : Value).ownBlock) (.slice Ao8 t1032.length co8) t1032) ∧ Aside0 (wc.heap[gb1036]? = some (.cells #[(.slice Ao8 t1032.length co8),.int .i64 t1035] 29 (0,0))) ∧ Aside0 (Below w.heap.size w wc))
 case first =>
  have H := HC5.out
  clear HC5
  replace H := obS H
  obtain ⟨t1040,A110,H⟩ := H
  replace H : ((laws_equalInts.f k t1037 t1040).bind fun t1043 => (if t1043 = true then (laws_FnCodeOf.j0 k t1037 ((t1037.length : Int) == 0) t1032 t1035) else (laws_FnCodeOf.j0 k t1037 true t1032 t1035))) = some r := H
  have A11 := As_ A110
  clear A110
  replace H := obS H
  obtain ⟨t1043,A120,H⟩ := H
  replace H : (if t1043 = true then (laws_FnCodeOf.j0 k t1037 ((t1037.length : Int) == 0) t1032 t1035) else (laws_FnCodeOf.j0 k t1037 true t1032 t1035)) = some r := H
  have A12 := As_ A120
  clear A120
  by_cases c13 : t1043 = true
  ·subst c13
   have H1 : (laws_FnCodeOf.j0 k t1037 ((t1037.length : Int) == 0) t1032 t1035) = some r := by rw [if_pos rfl] at H;exact H
   clear H
   have H := H1
   clear H1
   have H' := As_ H
   clear H
   obtain ⟨hcz14_0,hcz14_1,hfz14_0,hfz14_1⟩ := bk2 BK1036.out
   go_wp2_with (first|((with_reducible refine gate_callee (f := 42) rfl ?_);refine goesL_ (some 14) rfl rfl Try.func42 (by kernel_rfl) rfl #[.agg #[.slice Ao8 t1032.length co8,.int .i64 t1035]] rfl zM_ ?_;(with_reducible refine (spec_CodeOf.calls k _ _ t1032 t1035 t1040 _ ?side1 ?side2 A11.out).mono ?_);(case side1 => exact zC_ (Kd.S_reads' HO1034.out).2.2);(case side2 => exact (Kd.S_reads' HO1034.out).2.1);rintro e w15 ⟨v1041,rfl,ho0,hb⟩;refine ⟨_,rfl,?_⟩;have n0_ := As_ (Kd.S_elder' (zS_ HO1034.out) (Kd.R_base ho0) hb);have n1_ := As_ (Kd.R_elder' (zR_ HO1039.out) (Kd.R_base ho0) hb);have n2_ := As_ (Kd.R_lower (Kd.R_new' ho0 (Kd.R_lt (zR_ HO1039.out))) (bwZ (zb1 HB.out GE1036.out)));have n3_ := As_ (zkb BK1036.out hb);have n4_ := As_ (bwT (zb1 HB.out GE1036.out) hb);clear HO1034 HO1039 BK1036 HB;revert n0_ n1_ n2_ n3_ n4_;intro HO1034 HO1039 HO1042 BK1036 HB;obtain ⟨Ao16,co16,eo16⟩ := Kd.R_slice HO1039.out;subst eo16;obtain ⟨Ao17,co17,eo17⟩ := Kd.R_slice HO1042.out;subst eo17)|((with_reducible refine gate_callee (f := 34) rfl ?_);refine goesL_ (some 15) rfl rfl Try.func34 (by kernel_rfl) rfl #[.slice Ao16 t1037.length co16,.slice Ao17 t1040.length co17] rfl zM_ ?_;(with_reducible refine (laws_equalInts.calls k _ _ t1037 _ _ t1040 true _ ?side1 ?side2 ?side3 ?side4 A12.out).mono ?_);(case side1 => exact zC_ (Kd.R_reads' HO1039.out).2.2);(case side2 => exact (Kd.R_reads' HO1039.out).2.1);(case side3 => exact zC_ (Kd.R_reads' HO1042.out).2.2);(case side4 => exact (Kd.R_reads' HO1042.out).2.1);rintro e w' ⟨rfl,⟨nd,rfl⟩⟩;refine ⟨_,rfl,?_⟩))
   go_meet
   case rel => exact ⟨_,(((t1037.length : Int) == 0)),zT_,H',⟨by first|omega|exact Nat.le_refl _⟩,⟨by (with_reducible repeat (first|apply Kd.R_alloc|apply Kd.R_drewN|apply Kd.R_drew));exact Kd.R_mono HO1039.out (fun _ hk => trivial)⟩,⟨by (with_reducible repeat (first|apply Kd.S_alloc|apply Kd.S_drewN|apply Kd.S_drew));exact Kd.S_mono HO1034.out (fun _ hk => hk.1.2)⟩,⟨by (with_reducible repeat first|apply bkN|apply bkD|apply bkA);exact BK1036.out⟩,⟨zb1 HB.out GE1036.out⟩⟩
  replace c13 := Bool.eq_false_iff.mpr c13
  subst c13
  have H1 : (laws_FnCodeOf.j0 k t1037 true t1032 t1035) = some r := by rw [if_neg (show ¬ (false = true) by decide)] at H;exact H
  clear H
  have H := H1
  clear H1
  have H' := As_ H
  clear H
  obtain ⟨hcz18_0,hcz18_1,hfz18_0,hfz18_1⟩ := bk2 BK1036.out
  go_wp2_with (first|((with_reducible refine gate_callee (f := 42) rfl ?_);refine goesL_ (some 14) rfl rfl Try.func42 (by kernel_rfl) rfl #[.agg #[.slice Ao8 t1032.length co8,.int .i64 t1035]] rfl zM_ ?_;(with_reducible refine (spec_CodeOf.calls k _ _ t1032 t1035 t1040 _ ?side1 ?side2 A11.out).mono ?_);(case side1 => exact zC_ (Kd.S_reads' HO1034.out).2.2);(case side2 => exact (Kd.S_reads' HO1034.out).2.1);rintro e w19 ⟨v1041,rfl,ho0,hb⟩;refine ⟨_,rfl,?_⟩;have n0_ := As_ (Kd.S_elder' (zS_ HO1034.out) (Kd.R_base ho0) hb);have n1_ := As_ (Kd.R_elder' (zR_ HO1039.out) (Kd.R_base ho0) hb);have n2_ := As_ (Kd.R_lower (Kd.R_new' ho0 (Kd.R_lt (zR_ HO1039.out))) (bwZ (zb1 HB.out GE1036.out)));have n3_ := As_ (zkb BK1036.out hb);have n4_ := As_ (bwT (zb1 HB.out GE1036.out) hb);clear HO1034 HO1039 BK1036 HB;revert n0_ n1_ n2_ n3_ n4_;intro HO1034 HO1039 HO1042 BK1036 HB;obtain ⟨Ao20,co20,eo20⟩ := Kd.R_slice HO1039.out;subst eo20;obtain ⟨Ao21,co21,eo21⟩ := Kd.R_slice HO1042.out;subst eo21)|((with_reducible refine gate_callee (f := 34) rfl ?_);refine goesL_ (some 15) rfl rfl Try.func34 (by kernel_rfl) rfl #[.slice Ao20 t1037.length co20,.slice Ao21 t1040.length co21] rfl zM_ ?_;(with_reducible refine (laws_equalInts.calls k _ _ t1037 _ _ t1040 false _ ?side1 ?side2 ?side3 ?side4 A12.out).mono ?_);(case side1 => exact zC_ (Kd.R_reads' HO1039.out).2.2);(case side2 => exact (Kd.R_reads' HO1039.out).2.1);(case side3 => exact zC_ (Kd.R_reads' HO1042.out).2.2);(case side4 => exact (Kd.R_reads' HO1042.out).2.1);rintro e w' ⟨rfl,⟨nd,rfl⟩⟩;refine ⟨_,rfl,?_⟩))
  go_meet
  case rel => exact ⟨_,(true),zT_,H',⟨by first|omega|exact Nat.le_refl _⟩,⟨by (with_reducible repeat (first|apply Kd.R_alloc|apply Kd.R_drewN|apply Kd.R_drew));exact Kd.R_mono HO1039.out (fun _ hk => trivial)⟩,⟨by (with_reducible repeat (first|apply Kd.S_alloc|apply Kd.S_drewN|apply Kd.S_drew));exact Kd.S_mono HO1034.out (fun _ hk => hk.1.2)⟩,⟨by (with_reducible repeat first|apply bkN|apply bkD|apply bkA);exact BK1036.out⟩,⟨zb1 HB.out GE1036.out⟩⟩
 case rest =>
  clear HC5
  obtain ⟨kq,x21_4,rfl,HA,HJ4,HO_4,HO_1037000,BK1036,HB⟩ := hcut
  cases kq with
  | zero => exact absurd HA.out (fun h_ => (by cases h_))
  | succ kj4 =>
   have H := HA.out
   clear HA
   simp only [laws_FnCodeOf.j0] at H
   by_cases c22 : x21_4 = true
   ·subst c22
    have H1 : ((spec_CodeOf.f kj4 t1032 t1035).bind fun t1044 => ((laws_equalInts.f kj4 t1037 t1044).bind fun t1047 => (some t1047))) = some r := by rw [if_pos rfl] at H;exact H
    clear H
    have H := H1
    clear H1
    replace H := obS H
    obtain ⟨t1044,A230,H⟩ := H
    replace H : ((laws_equalInts.f kj4 t1037 t1044).bind fun t1047 => (some t1047)) = some r := H
    have A23 := As_ A230
    clear A230
    replace H := obS H
    obtain ⟨t1047,A240,H⟩ := H
    replace H : (some t1047) = some r := H
    have A24 := As_ A240
    clear A240
    obtain rfl := Option.some.inj H
    obtain ⟨hcz25_0,hcz25_1,hfz25_0,hfz25_1⟩ := bk2 BK1036.out
    go_wp2_with (first|((with_reducible refine gate_callee (f := 42) rfl ?_);refine goesL_ (some 24) rfl rfl Try.func42 (by kernel_rfl) rfl #[.agg #[.slice Ao8 t1032.length co8,.int .i64 t1035]] rfl zM_ ?_;(with_reducible refine (spec_CodeOf.calls kj4 _ _ t1032 t1035 t1044 _ ?side1 ?side2 A23.out).mono ?_);(case side1 => exact zC_ (Kd.S_reads' HO_1037000.out).2.2);(case side2 => exact (Kd.S_reads' HO_1037000.out).2.1);rintro e w26 ⟨v1045,rfl,ho0,hb⟩;refine ⟨_,rfl,?_⟩;have n0_ := As_ (Kd.R_elder' (zR_ HO_4.out) (Kd.R_base ho0) hb);have n1_ := As_ (Kd.S_elder' (zS_ HO_1037000.out) (Kd.R_base ho0) hb);have n2_ := As_ (Kd.R_lower (Kd.R_new' ho0 (Kd.R_lt (zR_ HO_4.out))) (bwZ (zb1 HB.out GE1036.out)));have n3_ := As_ (zkb BK1036.out hb);have n4_ := As_ (bwT (zb1 HB.out GE1036.out) hb);clear HO_4 HO_1037000 BK1036 HB;revert n0_ n1_ n2_ n3_ n4_;intro HO_4 HO_1037000 HO1046 BK1036 HB;obtain ⟨Ao27,co27,eo27⟩ := Kd.R_slice HO_4.out;subst eo27;obtain ⟨Ao28,co28,eo28⟩ := Kd.R_slice HO1046.out;subst eo28)|((with_reducible refine gate_callee (f := 34) rfl ?_);refine goesL_ (some 25) rfl rfl Try.func34 (by kernel_rfl) rfl #[.slice Ao27 t1037.length co27,.slice Ao28 t1044.length co28] rfl zM_ ?_;(with_reducible refine (laws_equalInts.calls kj4 _ _ t1037 _ _ t1044 t1047 _ ?side1 ?side2 ?side3 ?side4 A24.out).mono ?_);(case side1 => exact zC_ (Kd.R_reads' HO_4.out).2.2);(case side2 => exact (Kd.R_reads' HO_4.out).2.1);(case side3 => exact zC_ (Kd.R_reads' HO1046.out).2.2);(case side4 => exact (Kd.R_reads' HO1046.out).2.1);rintro e w' ⟨rfl,⟨nd,rfl⟩⟩;refine ⟨_,rfl,?_⟩))
    go_ret
    exact ⟨zE_,zb1 HB.out GE1036.out⟩
   replace c22 := Bool.eq_false_iff.mpr c22
   subst c22
   have H1 : ((impl_PrunedGraph.f kj4 t1032 t1035).bind fun bt1048 => ((impl_CodeOf.f kj4 bt1048.1 bt1048.2).bind fun t1052 => ((laws_equalInts.f kj4 t1052 t1037).bind fun t1055 => (if t1055 = true then (if 0 < (t1037.length : Int) then (if 0 ≤ t1035 then (if t1035 < (t1032.length : Int) then (if (rd t1037 0) = ((rd_T45 t1032 t1035).f0) then (if 1 < (t1037.length : Int) then (some ((rd t1037 1) == ((rd_T45 t1032 t1035).f1))) else (none)) else (some false)) else (none)) else (none)) else (none)) else (some false))))) = some r := by rw [if_neg (show ¬ (false = true) by decide)] at H;exact H
   clear H
   have H := H1
   clear H1
   replace H := obS H
   obtain ⟨⟨t1048,t1051⟩,A290,H⟩ := H
   replace H : ((impl_CodeOf.f kj4 t1048 t1051).bind fun t1052 => ((laws_equalInts.f kj4 t1052 t1037).bind fun t1055 => (if t1055 = true then (if 0 < (t1037.length : Int) then (if 0 ≤ t1035 then (if t1035 < (t1032.length : Int) then (if (rd t1037 0) = ((rd_T45 t1032 t1035).f0) then (if 1 < (t1037.length : Int) then (some ((rd t1037 1) == ((rd_T45 t1032 t1035).f1))) else (none)) else (some false)) else (none)) else (none)) else (none)) else (some false)))) = some r := H
   have A29 := As_ A290
   clear A290
   replace H := obS H
   obtain ⟨t1052,A300,H⟩ := H
   replace H : ((laws_equalInts.f kj4 t1052 t1037).bind fun t1055 => (if t1055 = true then (if 0 < (t1037.length : Int) then (if 0 ≤ t1035 then (if t1035 < (t1032.length : Int) then (if (rd t1037 0) = ((rd_T45 t1032 t1035).f0) then (if 1 < (t1037.length : Int) then (some ((rd t1037 1) == ((rd_T45 t1032 t1035).f1))) else (none)) else (some false)) else (none)) else (none)) else (none)) else (some false))) = some r := H
   have A30 := As_ A300
   clear A300
   replace H := obS H
   obtain ⟨t1055,A310,H⟩ := H
   replace H : (if t1055 = true then (if 0 < (t1037.length : Int) then (if 0 ≤ t1035 then (if t1035 < (t1032.length : Int) then (if (rd t1037 0) = ((rd_T45 t1032 t1035).f0) then (if 1 < (t1037.length : Int) then (some ((rd t1037 1) == ((rd_T45 t1032 t1035).f1))) else (none)) else (some false)) else (none)) else (none)) else (none)) else (some false)) = some r := H
   have A31 := As_ A310
   clear A310
   by_cases c32 : t1055 = true
   rotate_left
   ·replace c32 := Bool.eq_false_iff.mpr c32
    subst c32
    have H1 : (some false) = some r := by rw [if_neg (show ¬ (false = true) by decide)] at H;exact H
    clear H
    have H := H1
    clear H1
    obtain rfl := Option.some.inj H
    try go_wp2
    have n0_ := As_ (Kd.R_drew HO_4.out)
    have n1_ := As_ (Kd.S_drew HO_1037000.out)
    have n2_ := As_ (bkD BK1036.out)
    have n3_ := As_ (bwD HB.out)
    clear HO_4 HO_1037000 BK1036 HB
    revert n0_ n1_ n2_ n3_;intro HO_4 HO_1037000 BK1036 HB
    refine start_ (n := 32) (S := fun w' => w'.cell? ⟨gb1036,0,none⟩ = some (.slice Ao8 t1032.length co8) ∧ w'.cell? ⟨gb1036,1,none⟩ = some (.int .i64 t1035)) (ds := []) (bl_ 0 32) (by kernel_rfl) rfl rfl ⟨(bkC BK1036.out 0).trans rfl,(bkC BK1036.out 1).trans rfl⟩ (fun hHeld => ?_);refine with_tabW laws_FnCodeOf.tab7 laws_FnCodeOf.bits7 (fun HT_ HW_ => ?_)
    generalize wc.drew = w50 at HO_4 HO_1037000 BK1036 HB hHeld ⊢
    refine pQ 3 29 (bl_ 8 32) HT_ rfl ?_
    refine tP 0 26 (bl_ 9 32) ?_ HT_ HW_ rfl (.inl ⟨by rfl,?_⟩) hHeld ?_ ?_ ?_;rotate_left;(rintro w' ⟨s0,s1⟩;go_simp;with_reducible rfl);rotate_left;(simp only [Act.put,sq_];rfl)
    refine one_ (i := 1) (N := some 27) (bl_ 11 32) rfl rfl (one_of HT_.out (by kernel_rfl)) (by decide) (fun K hK => ?_)
    refine goes_ Try.func21 (by kernel_rfl) rfl #[.agg #[.slice Ao8 t1032.length co8,.int .i64 t1035]] (by rfl) rfl rfl zM_ ?_
    with_reducible refine (impl_PrunedGraph.calls kj4 _ _ t1032 t1035 t1048 t1051 _ ?side1 ?side2 A29.out).mono ?_
    (case side1 => exact zC_ (Kd.S_reads' HO_1037000.out).2.2)
    (case side2 => exact (Kd.S_reads' HO_1037000.out).2.1)
    rintro e w51 ⟨v1049,rfl,ho0,hb⟩
    refine ⟨_,rfl,?_⟩
    have n0_ := As_ (Kd.R_below (zR_ HO_4.out) hb)
    have n1_ := As_ (Kd.S_elder' (zS_ HO_1037000.out) (Kd.S_base ho0) hb)
    have n2_ := As_ (Kd.S_lower (Kd.S_new' (Kd.S_new' ho0 (Kd.R_lt (zR_ HO_4.out))) (Kd.S_lt (zS_ HO_1037000.out))) (bwZ (zb1 HB.out GE1036.out)))
    have n3_ := As_ (zkb BK1036.out hb)
    have n4_ := As_ (bwT (zb1 HB.out GE1036.out) hb)
    clear HO_4 HO_1037000 BK1036 HB
    revert n0_ n1_ n2_ n3_ n4_;intro HO_4 HO_1037000 HO1050 BK1036 HB
    obtain ⟨Ao52,co52,eo52⟩ := Kd.S_slice HO1050.out
    (first|subst eo52|(injection eo52 with f1_ f2_ f3_;have f4_ := f1_.symm;have f5_ := f3_.symm;clear f1_ f2_ f3_;subst f4_;subst f5_))
    refine hK.out _ _ ⟨(bkC BK1036.out 0).trans rfl,(bkC BK1036.out 1).trans rfl⟩ (fun hHeld => ?_)
    clear hK K
    refine norm_ (a' := ?_) ?_ ?_
    rotate_left
    ·show Act.put _ (some 27) _ = _
     simp only [Act.put,sq_]
     rfl
    refine one_ (i := 2) (N := some 28) (bl_ 15 32) rfl rfl (one_of HT_.out (by kernel_rfl)) (by decide) (fun K hK => ?_)
    refine goes_ Try.func43 (by kernel_rfl) rfl #[.agg #[.slice Ao52 t1048.length co52,.int .i64 t1051]] (by rfl) rfl rfl zM_ ?_
    with_reducible refine (impl_CodeOf.calls kj4 _ _ t1048 t1051 t1052 _ ?side1 ?side2 A30.out).mono ?_
    (case side1 => exact zC_ (Kd.S_reads' HO1050.out).2.2)
    (case side2 => exact (Kd.S_reads' HO1050.out).2.1)
    rintro e w53 ⟨v1053,rfl,ho0,hb⟩
    refine ⟨_,rfl,?_⟩
    have n0_ := As_ (Kd.R_elder' (zR_ HO_4.out) (Kd.R_base ho0) hb)
    have n1_ := As_ (Kd.S_elder' (zS_ HO_1037000.out) (Kd.R_base ho0) hb)
    have n2_ := As_ (Kd.S_elder' (zS_ HO1050.out) (Kd.R_base ho0) hb)
    have n3_ := As_ (Kd.R_lower (Kd.R_new' ho0 (Kd.R_lt (zR_ HO_4.out))) (bwZ (zb1 HB.out GE1036.out)))
    have n4_ := As_ (zkb BK1036.out hb)
    have n5_ := As_ (bwT (zb1 HB.out GE1036.out) hb)
    clear HO_4 HO_1037000 HO1050 BK1036 HB
    revert n0_ n1_ n2_ n3_ n4_ n5_;intro HO_4 HO_1037000 HO1050 HO1054 BK1036 HB
    obtain ⟨Ao54,co54,eo54⟩ := Kd.R_slice HO1054.out
    (first|subst eo54|(injection eo54 with f1_ f2_ f3_;have f4_ := f1_.symm;have f5_ := f3_.symm;clear f1_ f2_ f3_;subst f4_;subst f5_))
    obtain ⟨Ao55,co55,eo55⟩ := Kd.R_slice HO_4.out
    (first|subst eo55|(injection eo55 with f1_ f2_ f3_;have f4_ := f1_.symm;have f5_ := f3_.symm;clear f1_ f2_ f3_;subst f4_;subst f5_))
    refine hK.out _ _ ⟨(bkC BK1036.out 0).trans rfl,(bkC BK1036.out 1).trans rfl⟩ (fun hHeld => ?_)
    clear hK K
    refine norm_ (a' := ?_) ?_ ?_
    rotate_left
    ·show Act.put _ (some 28) _ = _
     simp only [Act.put,sq_]
     rfl
    refine one_ (i := 4) (N := some 30) (bl_ 31 32) rfl rfl (one_of HT_.out (by kernel_rfl)) (by decide) (fun K hK => ?_)
    refine goes_ Try.func34 (by kernel_rfl) rfl #[.slice Ao54 t1052.length co54,.slice Ao55 t1037.length co55] (by rfl) rfl rfl zM_ ?_
    with_reducible refine (laws_equalInts.calls kj4 _ _ t1052 _ _ t1037 false _ ?side1 ?side2 ?side3 ?side4 A31.out).mono ?_
    (case side1 => exact zC_ (Kd.R_reads' HO1054.out).2.2)
    (case side2 => exact (Kd.R_reads' HO1054.out).2.1)
    (case side3 => exact zC_ (Kd.R_reads' HO_4.out).2.2)
    (case side4 => exact (Kd.R_reads' HO_4.out).2.1)
    rintro e w' ⟨rfl,⟨nd,rfl⟩⟩
    refine ⟨_,rfl,?_⟩
    refine hK.out _ _ ⟨(bkC BK1036.out 0).trans rfl,(bkC BK1036.out 1).trans rfl⟩ (fun hHeld => ?_)
    clear hK K
    refine norm_ (a' := ?_) ?_ ?_
    rotate_left
    ·show Act.put _ (some 30) _ = _
     simp only [Act.put,sq_]
     rfl
    refine pQ 5 31 (bl_ 63 32) HT_ rfl ?_
    refine uP 6 32 (bl_ 127 32) ?_ HT_ rfl (.inr ⟨by rfl,rfl⟩) ?_ ?_;rotate_left;(simp only [Act.put,sq_];rfl)
    refine uP 7 33 (bl_ 255 32) ?_ HT_ rfl (.inr ⟨by rfl,rfl⟩) ?_ ?_;rotate_left;(simp only [Act.put,sq_];rfl)
    refine uP 8 34 (bl_ 511 32) ?_ HT_ rfl (.inr ⟨by rfl,rfl⟩) ?_ ?_;rotate_left;(simp only [Act.put,sq_];rfl)
    refine uP 9 35 (bl_ 1023 32) ?_ HT_ rfl (.inr ⟨by rfl,rfl⟩) ?_ ?_;rotate_left;(simp only [Act.put,sq_];rfl)
    refine uP 10 36 (bl_ 2047 32) ?_ HT_ rfl (.inr ⟨by rfl,rfl⟩) ?_ ?_;rotate_left;(simp only [Act.put,sq_];rfl)
    refine uP 11 37 (bl_ 4095 32) ?_ HT_ rfl (.inr ⟨by rfl,rfl⟩) ?_ ?_;rotate_left;(simp only [Act.put,sq_];rfl)
    refine uP 12 38 (bl_ 8191 32) ?_ HT_ rfl (.inr ⟨by rfl,rfl⟩) ?_ ?_;rotate_left;(simp only [Act.put,sq_];rfl)
    refine uP 13 39 (bl_ 16383 32) ?_ HT_ rfl (.inr ⟨by rfl,rfl⟩) ?_ ?_;rotate_left;(simp only [Act.put,sq_];rfl)
    refine uP 14 40 (bl_ 32767 32) ?_ HT_ rfl (.inr ⟨by rfl,rfl⟩) ?_ ?_;rotate_left;(simp only [Act.put,sq_];rfl)
    refine uP 15 41 (bl_ 65535 32) ?_ HT_ rfl (.inr ⟨by rfl,rfl⟩) ?_ ?_;rotate_left;(simp only [Act.put,sq_];rfl)
    refine uP 16 42 (bl_ 131071 32) ?_ HT_ rfl (.inr ⟨by rfl,rfl⟩) ?_ ?_;rotate_left;(simp only [Act.put,sq_];rfl)
    refine pQ 17 43 (bl_ 262143 32) HT_ rfl ?_
    refine pQ 18 44 (bl_ 524287 32) HT_ rfl ?_
    refine uP 19 45 (bl_ 1048575 32) ?_ HT_ rfl (.inr ⟨by rfl,rfl⟩) ?_ ?_;rotate_left;(simp only [Act.put,sq_];rfl)
    refine uP 20 46 (bl_ 2097151 32) ?_ HT_ rfl (.inr ⟨by rfl,rfl⟩) ?_ ?_;rotate_left;(simp only [Act.put,sq_];rfl)
    refine uP 21 47 (bl_ 4194303 32) ?_ HT_ rfl (.inr ⟨by rfl,rfl⟩) ?_ ?_;rotate_left;(simp only [Act.put,sq_];rfl)
    refine uP 22 48 (bl_ 8388607 32) ?_ HT_ rfl (.inr ⟨by rfl,rfl⟩) ?_ ?_;rotate_left;(simp only [Act.put,sq_];rfl)
    refine uP 23 49 (bl_ 16777215 32) ?_ HT_ rfl (.inr ⟨by rfl,rfl⟩) ?_ ?_;rotate_left;(simp only [Act.put,sq_];rfl)
    refine uP 24 50 (bl_ 33554431 32) ?_ HT_ rfl (.inr ⟨by rfl,rfl⟩) ?_ ?_;rotate_left;(simp only [Act.put,sq_];rfl)
    refine uP 25 51 (bl_ 67108863 32) ?_ HT_ rfl (.inr ⟨by rfl,rfl⟩) ?_ ?_;rotate_left;(simp only [Act.put,sq_];rfl)
    refine uP 26 52 (bl_ 134217727 32) ?_ HT_ rfl (.inr ⟨by rfl,rfl⟩) ?_ ?_;rotate_left;(simp only [Act.put,sq_];rfl)
    refine uP 27 53 (bl_ 268435455 32) ?_ HT_ rfl (.inr ⟨by rfl,rfl⟩) ?_ ?_;rotate_left;(simp only [Act.put,sq_];rfl)
    refine uP 28 54 (bl_ 536870911 32) ?_ HT_ rfl (.inr ⟨by rfl,rfl⟩) ?_ ?_;rotate_left;(simp only [Act.put,sq_];rfl)
    refine uP 29 55 (bl_ 1073741823 32) ?_ HT_ rfl (.inr ⟨by rfl,rfl⟩) ?_ ?_;rotate_left;(simp only [Act.put,sq_];rfl)
    refine pQ 30 56 (bl_ 2147483647 32) HT_ rfl ?_
    refine pQ 31 2 (bl_ 4294967295 32) HT_ rfl ?_
    refine done_ (done_of HT_.out (by kernel_rfl)) ?_
    try go_wp2
    go_ret
    exact ⟨zE_,zb1 HB.out GE1036.out⟩

   subst c32
   have H1 : (if 0 < (t1037.length : Int) then (if 0 ≤ t1035 then (if t1035 < (t1032.length : Int) then (if (rd t1037 0) = ((rd_T45 t1032 t1035).f0) then (if 1 < (t1037.length : Int) then (some ((rd t1037 1) == ((rd_T45 t1032 t1035).f1))) else (none)) else (some false)) else (none)) else (none)) else (none)) = some r := by rw [if_pos rfl] at H;exact H
   clear H
   have H := H1
   clear H1
   by_cases c33 : 0 < (t1037.length : Int)
   rotate_left
   ·rw [if_neg c33] at H
    exact absurd H (by simp)
   rw [if_pos c33] at H
   have c33b0 : decide (0 < (t1037.length : Int)) = true := deT c33
   have c33b1 : decide (0 < t1037.length) = true := deT (by omega)
   clear c33
   by_cases c34 : 0 ≤ t1035
   rotate_left
   ·rw [if_neg c34] at H
    exact absurd H (by simp)
   rw [if_pos c34] at H
   have c34b0 : decide (0 ≤ t1035) = true := deT c34
   clear c34
   by_cases c35 : t1035 < (t1032.length : Int)
   rotate_left
   ·rw [if_neg c35] at H
    exact absurd H (by simp)
   rw [if_pos c35] at H
   have c35b0 : decide (t1035 < (t1032.length : Int)) = true := deT c35
   clear c35
   by_cases c36 : (rd t1037 0) = ((rd_T45 t1032 t1035).f0)
   rotate_left
   ·rw [if_neg c36] at H
    have c36b0 : ((rd t1037 0) == ((rd_T45 t1032 t1035).f0)) = false := beq_eq_false_iff_ne.mpr c36
    have c36b1 : ((rd t1037 0) != ((rd_T45 t1032 t1035).f0)) = true := bne_iff_ne.mpr c36
    obtain rfl := Option.some.inj H
    try go_wp2
    have n0_ := As_ (Kd.R_drew HO_4.out)
    have n1_ := As_ (Kd.S_drew HO_1037000.out)
    have n2_ := As_ (bkD BK1036.out)
    have n3_ := As_ (bwD HB.out)
    clear HO_4 HO_1037000 BK1036 HB
    revert n0_ n1_ n2_ n3_;intro HO_4 HO_1037000 BK1036 HB
    obtain ⟨Av_,cv_,ev_⟩ := Kd.R_slice HO_4.out
    subst ev_
    have p1056 : 0 ≤ (0 : Int) := (by omega)
    have q1056 : 0 < (t1037.length : Int) := odT zA_
    obtain ⟨ad1056,e1056,hx1056_0⟩ := Kd.at_int (Kd.R_reads' HO_4.out).2.2 0 p1056 q1056
    cases e1056
    have qi1056 : (0 < t1037.length) = True := eq_true (by omega)
    (try rw [show ((0 : Int)).toNat = 0 from rfl] at hx1056_0)
    (try rw [Addr.add_zero'] at hx1056_0)
    replace p1056 := eq_true p1056
    replace q1056 := eq_true q1056
    have p1057 : 0 ≤ (t1035 : Int) := odT zA_
    have q1057 : t1035 < (t1032.length : Int) := odT zA_
    obtain ⟨ad1057,A1057_2,c1057_2,e1057,hx1057_0,hx1057_1,hx1057_2,hl1057_2,hi1057_2⟩ := at_T45 (Kd.S_reads' HO_1037000.out).2.2 t1035 p1057 q1057
    cases e1057
    obtain ⟨ce1057,hce1057,hMe1057,hcc1057⟩ := Kd.S_get HO_1037000.out z45 t1035 p1057 (by first|exact q1057|exact odT zA_|(have e_ := (Kd.S_reads' HO_1037000.out).1;omega))
    obtain ⟨ve1057_2,rfl,ge1057_2⟩ := k45_openM hMe1057
    have hv1057_2 := hcc1057 2 _ rfl
    rw [add_field _ _ 2 (by omega)] at hv1057_2
    replace hv1057_2 := Option.some.inj (hv1057_2.symm.trans hx1057_2)
    rw [hv1057_2] at ge1057_2
    have HL1057_2 := As_ (show Kd.R (Kd.int .i64) 3 _ _ _ _ ((rd_T45 t1032 t1035).f2) from ge1057_2)
    clear hv1057_2 ge1057_2 hcc1057 hce1057
    have HR1057_2 := As_ hi1057_2
    have HC1057_2 := As_ hl1057_2
    clear hi1057_2 hl1057_2
    replace p1057 := eq_true p1057
    replace q1057 := eq_true q1057
    refine start_ (n := 32) (S := fun w' => w'.cell? ⟨gb1036,0,none⟩ = some (.slice (some ad1057) t1032.length co8) ∧ w'.cell? ⟨gb1036,1,none⟩ = some (.int .i64 t1035) ∧ w'.cell? ad1056 = some (.int .i64 (rd t1037 0)) ∧ w'.cell? (ad1057.add ((t1035).toNat * 3)) = some (.int .i64 ((rd_T45 t1032 t1035).f0)) ∧ w'.cell? ⟨(ad1057.add ((t1035).toNat * 3)).block,(ad1057.add ((t1035).toNat * 3)).off + 1,none⟩ = some (.int .i64 ((rd_T45 t1032 t1035).f1)) ∧ w'.cell? ⟨(ad1057.add ((t1035).toNat * 3)).block,(ad1057.add ((t1035).toNat * 3)).off + 2,none⟩ = some (.slice A1057_2 ((rd_T45 t1032 t1035).f2).length c1057_2)) (ds := []) (bl_ 0 32) (by kernel_rfl) rfl rfl ⟨(bkC BK1036.out 0).trans rfl,(bkC BK1036.out 1).trans rfl,hx1056_0,hx1057_0,hx1057_1,hx1057_2⟩ (fun hHeld => ?_);refine with_tabW laws_FnCodeOf.tab7 laws_FnCodeOf.bits7 (fun HT_ HW_ => ?_)
    generalize wc.drew = w44 at HO_4 HO_1037000 BK1036 HB HL1057_2 HR1057_2 hx1056_0 hx1057_0 hx1057_1 hx1057_2 hHeld ⊢
    refine pQ 3 29 (bl_ 8 32) HT_ rfl ?_
    refine tP 0 26 (bl_ 9 32) ?_ HT_ HW_ rfl (.inl ⟨by rfl,?_⟩) hHeld ?_ ?_ ?_;rotate_left;(rintro w' ⟨s0,s1,s2,s3,s4,s5⟩;go_simp;with_reducible rfl);rotate_left;(simp only [Act.put,sq_];rfl)
    refine one_ (i := 1) (N := some 27) (bl_ 11 32) rfl rfl (one_of HT_.out (by kernel_rfl)) (by decide) (fun K hK => ?_)
    refine goes_ Try.func21 (by kernel_rfl) rfl #[.agg #[.slice (some ad1057) t1032.length co8,.int .i64 t1035]] (by rfl) rfl rfl zM_ ?_
    with_reducible refine (impl_PrunedGraph.calls kj4 _ _ t1032 t1035 t1048 t1051 _ ?side1 ?side2 A29.out).mono ?_
    (case side1 => exact zC_ (Kd.S_reads' HO_1037000.out).2.2)
    (case side2 => exact (Kd.S_reads' HO_1037000.out).2.1)
    rintro e w45 ⟨v1049,rfl,ho0,hb⟩
    have HS2_ := (hb.cell (bwL _ _ (hHeld.2.2.1))).trans (hHeld.2.2.1)
    have HS3_ := (hb.cell (bwL _ _ (hHeld.2.2.2.1))).trans (hHeld.2.2.2.1)
    have HS4_ := (hb.cell (bwL _ _ (hHeld.2.2.2.2.1))).trans (hHeld.2.2.2.2.1)
    have HS5_ := (hb.cell (bwL _ _ (hHeld.2.2.2.2.2))).trans (hHeld.2.2.2.2.2)
    refine ⟨_,rfl,?_⟩
    have n0_ := As_ (Kd.R_below (zR_ HO_4.out) hb)
    have n1_ := As_ (Kd.S_elder' (zS_ HO_1037000.out) (Kd.S_base ho0) hb)
    have n2_ := As_ (Kd.S_lower (Kd.S_new' (Kd.S_new' ho0 (Kd.R_lt (zR_ HO_4.out))) (Kd.S_lt (zS_ HO_1037000.out))) (bwZ (zb1 HB.out GE1036.out)))
    have n3_ := As_ (zkb BK1036.out hb)
    have n4_ := As_ (bwT (zb1 HB.out GE1036.out) hb)
    clear HO_4 HO_1037000 BK1036 HB
    revert n0_ n1_ n2_ n3_ n4_;intro HO_4 HO_1037000 HO1050 BK1036 HB
    obtain ⟨Ao46,co46,eo46⟩ := Kd.S_slice HO1050.out
    (first|subst eo46|(injection eo46 with f1_ f2_ f3_;have f4_ := f1_.symm;have f5_ := f3_.symm;clear f1_ f2_ f3_;subst f4_;subst f5_))
    refine hK.out _ _ ⟨(bkC BK1036.out 0).trans rfl,(bkC BK1036.out 1).trans rfl,HS2_,HS3_,HS4_,HS5_⟩ (fun hHeld => ?_)
    clear hK K
    refine norm_ (a' := ?_) ?_ ?_
    rotate_left
    ·show Act.put _ (some 27) _ = _
     simp only [Act.put,sq_]
     rfl
    refine one_ (i := 2) (N := some 28) (bl_ 15 32) rfl rfl (one_of HT_.out (by kernel_rfl)) (by decide) (fun K hK => ?_)
    refine goes_ Try.func43 (by kernel_rfl) rfl #[.agg #[.slice Ao46 t1048.length co46,.int .i64 t1051]] (by rfl) rfl rfl zM_ ?_
    with_reducible refine (impl_CodeOf.calls kj4 _ _ t1048 t1051 t1052 _ ?side1 ?side2 A30.out).mono ?_
    (case side1 => exact zC_ (Kd.S_reads' HO1050.out).2.2)
    (case side2 => exact (Kd.S_reads' HO1050.out).2.1)
    rintro e w47 ⟨v1053,rfl,ho0,hb⟩
    have HS2_ := (hb.cell (bwL _ _ (hHeld.2.2.1))).trans (hHeld.2.2.1)
    have HS3_ := (hb.cell (bwL _ _ (hHeld.2.2.2.1))).trans (hHeld.2.2.2.1)
    have HS4_ := (hb.cell (bwL _ _ (hHeld.2.2.2.2.1))).trans (hHeld.2.2.2.2.1)
    have HS5_ := (hb.cell (bwL _ _ (hHeld.2.2.2.2.2))).trans (hHeld.2.2.2.2.2)
    refine ⟨_,rfl,?_⟩
    have n0_ := As_ (Kd.R_elder' (zR_ HO_4.out) (Kd.R_base ho0) hb)
    have n1_ := As_ (Kd.S_elder' (zS_ HO_1037000.out) (Kd.R_base ho0) hb)
    have n2_ := As_ (Kd.S_elder' (zS_ HO1050.out) (Kd.R_base ho0) hb)
    have n3_ := As_ (Kd.R_lower (Kd.R_new' ho0 (Kd.R_lt (zR_ HO_4.out))) (bwZ (zb1 HB.out GE1036.out)))
    have n4_ := As_ (zkb BK1036.out hb)
    have n5_ := As_ (bwT (zb1 HB.out GE1036.out) hb)
    clear HO_4 HO_1037000 HO1050 BK1036 HB
    revert n0_ n1_ n2_ n3_ n4_ n5_;intro HO_4 HO_1037000 HO1050 HO1054 BK1036 HB
    obtain ⟨Ao48,co48,eo48⟩ := Kd.R_slice HO1054.out
    (first|subst eo48|(injection eo48 with f1_ f2_ f3_;have f4_ := f1_.symm;have f5_ := f3_.symm;clear f1_ f2_ f3_;subst f4_;subst f5_))
    obtain ⟨Ao49,co49,eo49⟩ := Kd.R_slice HO_4.out
    (first|subst eo49|(injection eo49 with f1_ f2_ f3_;have f4_ := f1_.symm;have f5_ := f3_.symm;clear f1_ f2_ f3_;subst f4_;subst f5_))
    refine hK.out _ _ ⟨(bkC BK1036.out 0).trans rfl,(bkC BK1036.out 1).trans rfl,HS2_,HS3_,HS4_,HS5_⟩ (fun hHeld => ?_)
    clear hK K
    refine norm_ (a' := ?_) ?_ ?_
    rotate_left
    ·show Act.put _ (some 28) _ = _
     simp only [Act.put,sq_]
     rfl
    refine one_ (i := 4) (N := some 30) (bl_ 31 32) rfl rfl (one_of HT_.out (by kernel_rfl)) (by decide) (fun K hK => ?_)
    refine goes_ Try.func34 (by kernel_rfl) rfl #[.slice Ao48 t1052.length co48,.slice (some ad1056) t1037.length co49] (by rfl) rfl rfl zM_ ?_
    with_reducible refine (laws_equalInts.calls kj4 _ _ t1052 _ _ t1037 true _ ?side1 ?side2 ?side3 ?side4 A31.out).mono ?_
    (case side1 => exact zC_ (Kd.R_reads' HO1054.out).2.2)
    (case side2 => exact (Kd.R_reads' HO1054.out).2.1)
    (case side3 => exact zC_ (Kd.R_reads' HO_4.out).2.2)
    (case side4 => exact (Kd.R_reads' HO_4.out).2.1)
    rintro e w' ⟨rfl,⟨nd,rfl⟩⟩
    refine ⟨_,rfl,?_⟩
    refine hK.out _ _ ⟨(bkC BK1036.out 0).trans rfl,(bkC BK1036.out 1).trans rfl,hHeld.2.2.1,hHeld.2.2.2.1,hHeld.2.2.2.2.1,hHeld.2.2.2.2.2⟩ (fun hHeld => ?_)
    clear hK K
    refine norm_ (a' := ?_) ?_ ?_
    rotate_left
    ·show Act.put _ (some 30) _ = _
     simp only [Act.put,sq_]
     rfl
    refine pQ 5 31 (bl_ 63 32) HT_ rfl ?_
    refine pQ 6 32 (bl_ 127 32) HT_ rfl ?_
    refine pQ 7 33 (bl_ 255 32) HT_ rfl ?_
    refine pQ 9 35 (bl_ 767 32) HT_ rfl ?_
    refine pQ 11 37 (bl_ 2815 32) HT_ rfl ?_
    refine tP 8 34 (bl_ 3071 32) ?_ HT_ HW_ rfl (.inl ⟨by rfl,?_⟩) hHeld ?_ ?_ ?_;rotate_left;(rintro w' ⟨s0,s1,s2,s3,s4,s5⟩;go_simp;with_reducible rfl);rotate_left;(simp only [Act.put,sq_];rfl)
    refine tP 10 36 (bl_ 4095 32) ?_ HT_ HW_ rfl (.inl ⟨by rfl,?_⟩) hHeld ?_ ?_ ?_;rotate_left;(rintro w' ⟨s0,s1,s2,s3,s4,s5⟩;go_simp;with_reducible rfl);rotate_left;(simp only [Act.put,sq_];rfl)
    refine tP 12 38 (bl_ 8191 32) ?_ HT_ HW_ rfl (.inl ⟨by rfl,?_⟩) hHeld ?_ ?_ ?_;rotate_left;(rintro w' ⟨s0,s1,s2,s3,s4,s5⟩;go_simp;with_reducible rfl);rotate_left;(simp only [Act.put,sq_];rfl)
    refine pQ 13 39 (bl_ 16383 32) HT_ rfl ?_
    refine pQ 14 40 (bl_ 32767 32) HT_ rfl ?_
    refine tP 15 41 (bl_ 65535 32) ?_ HT_ HW_ rfl (.inl ⟨by rfl,?_⟩) hHeld ?_ ?_ ?_;rotate_left;(rintro w' ⟨s0,s1,s2,s3,s4,s5⟩;go_simp;with_reducible rfl);rotate_left;(simp only [Act.put,sq_];rfl)
    refine pQ 16 42 (bl_ 131071 32) HT_ rfl ?_
    refine pQ 17 43 (bl_ 262143 32) HT_ rfl ?_
    refine pQ 18 44 (bl_ 524287 32) HT_ rfl ?_
    refine uP 19 45 (bl_ 1048575 32) ?_ HT_ rfl (.inr ⟨by rfl,rfl⟩) ?_ ?_;rotate_left;(simp only [Act.put,sq_];rfl)
    refine uP 20 46 (bl_ 2097151 32) ?_ HT_ rfl (.inr ⟨by rfl,rfl⟩) ?_ ?_;rotate_left;(simp only [Act.put,sq_];rfl)
    refine uP 21 47 (bl_ 4194303 32) ?_ HT_ rfl (.inr ⟨by rfl,rfl⟩) ?_ ?_;rotate_left;(simp only [Act.put,sq_];rfl)
    refine uP 22 48 (bl_ 8388607 32) ?_ HT_ rfl (.inr ⟨by rfl,rfl⟩) ?_ ?_;rotate_left;(simp only [Act.put,sq_];rfl)
    refine uP 23 49 (bl_ 16777215 32) ?_ HT_ rfl (.inr ⟨by rfl,rfl⟩) ?_ ?_;rotate_left;(simp only [Act.put,sq_];rfl)
    refine uP 24 50 (bl_ 33554431 32) ?_ HT_ rfl (.inr ⟨by rfl,rfl⟩) ?_ ?_;rotate_left;(simp only [Act.put,sq_];rfl)
    refine uP 25 51 (bl_ 67108863 32) ?_ HT_ rfl (.inr ⟨by rfl,rfl⟩) ?_ ?_;rotate_left;(simp only [Act.put,sq_];rfl)
    refine uP 26 52 (bl_ 134217727 32) ?_ HT_ rfl (.inr ⟨by rfl,rfl⟩) ?_ ?_;rotate_left;(simp only [Act.put,sq_];rfl)
    refine uP 27 53 (bl_ 268435455 32) ?_ HT_ rfl (.inr ⟨by rfl,rfl⟩) ?_ ?_;rotate_left;(simp only [Act.put,sq_];rfl)
    refine uP 28 54 (bl_ 536870911 32) ?_ HT_ rfl (.inr ⟨by rfl,rfl⟩) ?_ ?_;rotate_left;(simp only [Act.put,sq_];rfl)
    refine uP 29 55 (bl_ 1073741823 32) ?_ HT_ rfl (.inr ⟨by rfl,rfl⟩) ?_ ?_;rotate_left;(simp only [Act.put,sq_];rfl)
    refine pQ 30 56 (bl_ 2147483647 32) HT_ rfl ?_
    refine pQ 31 2 (bl_ 4294967295 32) HT_ rfl ?_
    refine done_ (done_of HT_.out (by kernel_rfl)) ?_
    try go_wp2
    go_ret
    exact ⟨zE_,zb1 HB.out GE1036.out⟩
   rw [if_pos c36] at H
   have c36b0 : ((rd t1037 0) == ((rd_T45 t1032 t1035).f0)) = true := beq_iff_eq.mpr c36
   have c36b1 : ((rd t1037 0) != ((rd_T45 t1032 t1035).f0)) = false := bne_eq_false_iff_eq.mpr c36
   clear c36
   by_cases c37 : 1 < (t1037.length : Int)
   rotate_left
   ·rw [if_neg c37] at H
    exact absurd H (by simp)
   rw [if_pos c37] at H
   have c37b0 : decide (1 < (t1037.length : Int)) = true := deT c37
   have c37b1 : decide (1 < t1037.length) = true := deT (by omega)
   clear c37
   obtain rfl := Option.some.inj H
   try go_wp2
   have n0_ := As_ (Kd.R_drew HO_4.out)
   have n1_ := As_ (Kd.S_drew HO_1037000.out)
   have n2_ := As_ (bkD BK1036.out)
   have n3_ := As_ (bwD HB.out)
   clear HO_4 HO_1037000 BK1036 HB
   revert n0_ n1_ n2_ n3_;intro HO_4 HO_1037000 BK1036 HB
   obtain ⟨Av_,cv_,ev_⟩ := Kd.R_slice HO_4.out
   subst ev_
   have p1056 : 0 ≤ (0 : Int) := (by omega)
   have q1056 : 0 < (t1037.length : Int) := odT zA_
   obtain ⟨ad1056,e1056,hx1056_0⟩ := Kd.at_int (Kd.R_reads' HO_4.out).2.2 0 p1056 q1056
   cases e1056
   have qi1056 : (0 < t1037.length) = True := eq_true (by omega)
   (try rw [show ((0 : Int)).toNat = 0 from rfl] at hx1056_0)
   (try rw [Addr.add_zero'] at hx1056_0)
   replace p1056 := eq_true p1056
   replace q1056 := eq_true q1056
   have p1057 : 0 ≤ (t1035 : Int) := odT zA_
   have q1057 : t1035 < (t1032.length : Int) := odT zA_
   obtain ⟨ad1057,A1057_2,c1057_2,e1057,hx1057_0,hx1057_1,hx1057_2,hl1057_2,hi1057_2⟩ := at_T45 (Kd.S_reads' HO_1037000.out).2.2 t1035 p1057 q1057
   cases e1057
   obtain ⟨ce1057,hce1057,hMe1057,hcc1057⟩ := Kd.S_get HO_1037000.out z45 t1035 p1057 (by first|exact q1057|exact odT zA_|(have e_ := (Kd.S_reads' HO_1037000.out).1;omega))
   obtain ⟨ve1057_2,rfl,ge1057_2⟩ := k45_openM hMe1057
   have hv1057_2 := hcc1057 2 _ rfl
   rw [add_field _ _ 2 (by omega)] at hv1057_2
   replace hv1057_2 := Option.some.inj (hv1057_2.symm.trans hx1057_2)
   rw [hv1057_2] at ge1057_2
   have HL1057_2 := As_ (show Kd.R (Kd.int .i64) 3 _ _ _ _ ((rd_T45 t1032 t1035).f2) from ge1057_2)
   clear hv1057_2 ge1057_2 hcc1057 hce1057
   have HR1057_2 := As_ hi1057_2
   have HC1057_2 := As_ hl1057_2
   clear hi1057_2 hl1057_2
   replace p1057 := eq_true p1057
   replace q1057 := eq_true q1057
   have p1058 : 0 ≤ (1 : Int) := (by omega)
   have q1058 : 1 < (t1037.length : Int) := odT zA_
   obtain ⟨ad1058,e1058,hx1058_0⟩ := Kd.at_int (Kd.R_reads' HO_4.out).2.2 1 p1058 q1058
   obtain rfl : ad1056 = ad1058 := (by injection e1058)
   (try simp only [show (1 : Int).toNat = 1 from rfl,Nat.reduceMul,Nat.reduceEqDiff,Go.Addr.add,↓reduceIte] at hx1058_0)
   have qi1058 : (1 < t1037.length) = True := eq_true (by omega)
   (try rw [show ((1 : Int)).toNat = 1 from rfl] at hx1058_0)
   replace p1058 := eq_true p1058
   replace q1058 := eq_true q1058
   have p1059 : 0 ≤ (t1035 : Int) := odT zA_
   have q1059 : t1035 < (t1032.length : Int) := odT zA_
   obtain ⟨ad1059,A1059_2,c1059_2,e1059,hx1059_0,hx1059_1,hx1059_2,hl1059_2,hi1059_2⟩ := at_T45 (Kd.S_reads' HO_1037000.out).2.2 t1035 p1059 q1059
   obtain rfl : ad1057 = ad1059 := (by injection e1059)
   obtain ⟨ce1059,hce1059,hMe1059,hcc1059⟩ := Kd.S_get HO_1037000.out z45 t1035 p1059 (by first|exact q1059|exact odT zA_|(have e_ := (Kd.S_reads' HO_1037000.out).1;omega))
   obtain ⟨ve1059_2,rfl,ge1059_2⟩ := k45_openM hMe1059
   have hv1059_2 := hcc1059 2 _ rfl
   rw [add_field _ _ 2 (by omega)] at hv1059_2
   replace hv1059_2 := Option.some.inj (hv1059_2.symm.trans hx1059_2)
   rw [hv1059_2] at ge1059_2
   have HL1059_2 := As_ (show Kd.R (Kd.int .i64) 3 _ _ _ _ ((rd_T45 t1032 t1035).f2) from ge1059_2)
   clear hv1059_2 ge1059_2 hcc1059 hce1059
   have HR1059_2 := As_ hi1059_2
   have HC1059_2 := As_ hl1059_2
   clear hi1059_2 hl1059_2
   replace p1059 := eq_true p1059
   replace q1059 := eq_true q1059
   have ea_ := Option.some.inj (hx1057_2.symm.trans hx1059_2)
   injection ea_ with ea_ en_ ec_
   subst ea_
   subst ec_
   clear en_
   refine start_ (n := 32) (S := fun w' => w'.cell? ⟨gb1036,0,none⟩ = some (.slice (some ad1057) t1032.length co8) ∧ w'.cell? ⟨gb1036,1,none⟩ = some (.int .i64 t1035) ∧ w'.cell? ad1056 = some (.int .i64 (rd t1037 0)) ∧ w'.cell? (ad1057.add ((t1035).toNat * 3)) = some (.int .i64 ((rd_T45 t1032 t1035).f0)) ∧ w'.cell? ⟨(ad1057.add ((t1035).toNat * 3)).block,(ad1057.add ((t1035).toNat * 3)).off + 1,none⟩ = some (.int .i64 ((rd_T45 t1032 t1035).f1)) ∧ w'.cell? ⟨(ad1057.add ((t1035).toNat * 3)).block,(ad1057.add ((t1035).toNat * 3)).off + 2,none⟩ = some (.slice A1057_2 ((rd_T45 t1032 t1035).f2).length c1057_2) ∧ w'.cell? ⟨ad1056.block,ad1056.off + 1,none⟩ = some (.int .i64 (rd t1037 1)) ∧ w'.cell? (ad1057.add ((t1035).toNat * 3)) = some (.int .i64 ((rd_T45 t1032 t1035).f0)) ∧ w'.cell? ⟨(ad1057.add ((t1035).toNat * 3)).block,(ad1057.add ((t1035).toNat * 3)).off + 1,none⟩ = some (.int .i64 ((rd_T45 t1032 t1035).f1)) ∧ w'.cell? ⟨(ad1057.add ((t1035).toNat * 3)).block,(ad1057.add ((t1035).toNat * 3)).off + 2,none⟩ = some (.slice A1057_2 ((rd_T45 t1032 t1035).f2).length c1057_2)) (ds := []) (bl_ 0 32) (by kernel_rfl) rfl rfl ⟨(bkC BK1036.out 0).trans rfl,(bkC BK1036.out 1).trans rfl,hx1056_0,hx1057_0,hx1057_1,hx1057_2,hx1058_0,hx1059_0,hx1059_1,hx1059_2⟩ (fun hHeld => ?_);refine with_tabW laws_FnCodeOf.tab7 laws_FnCodeOf.bits7 (fun HT_ HW_ => ?_)
   generalize wc.drew = w38 at HO_4 HO_1037000 BK1036 HB HL1057_2 HL1059_2 HR1057_2 HR1059_2 hx1056_0 hx1057_0 hx1057_1 hx1057_2 hx1058_0 hx1059_0 hx1059_1 hx1059_2 hHeld ⊢
   refine pQ 3 29 (bl_ 8 32) HT_ rfl ?_
   refine tP 0 26 (bl_ 9 32) ?_ HT_ HW_ rfl (.inl ⟨by rfl,?_⟩) hHeld ?_ ?_ ?_;rotate_left;(rintro w' ⟨s0,s1,s2,s3,s4,s5,s6,s7,s8,s9⟩;go_simp;with_reducible rfl);rotate_left;(simp only [Act.put,sq_];rfl)
   refine one_ (i := 1) (N := some 27) (bl_ 11 32) rfl rfl (one_of HT_.out (by kernel_rfl)) (by decide) (fun K hK => ?_)
   refine goes_ Try.func21 (by kernel_rfl) rfl #[.agg #[.slice (some ad1057) t1032.length co8,.int .i64 t1035]] (by rfl) rfl rfl zM_ ?_
   with_reducible refine (impl_PrunedGraph.calls kj4 _ _ t1032 t1035 t1048 t1051 _ ?side1 ?side2 A29.out).mono ?_
   (case side1 => exact zC_ (Kd.S_reads' HO_1037000.out).2.2)
   (case side2 => exact (Kd.S_reads' HO_1037000.out).2.1)
   rintro e w39 ⟨v1049,rfl,ho0,hb⟩
   have HS2_ := (hb.cell (bwL _ _ (hHeld.2.2.1))).trans (hHeld.2.2.1)
   have HS3_ := (hb.cell (bwL _ _ (hHeld.2.2.2.1))).trans (hHeld.2.2.2.1)
   have HS4_ := (hb.cell (bwL _ _ (hHeld.2.2.2.2.1))).trans (hHeld.2.2.2.2.1)
   have HS5_ := (hb.cell (bwL _ _ (hHeld.2.2.2.2.2.1))).trans (hHeld.2.2.2.2.2.1)
   have HS6_ := (hb.cell (bwL _ _ (hHeld.2.2.2.2.2.2.1))).trans (hHeld.2.2.2.2.2.2.1)
   have HS7_ := (hb.cell (bwL _ _ (hHeld.2.2.2.2.2.2.2.1))).trans (hHeld.2.2.2.2.2.2.2.1)
   have HS8_ := (hb.cell (bwL _ _ (hHeld.2.2.2.2.2.2.2.2.1))).trans (hHeld.2.2.2.2.2.2.2.2.1)
   have HS9_ := (hb.cell (bwL _ _ (hHeld.2.2.2.2.2.2.2.2.2))).trans (hHeld.2.2.2.2.2.2.2.2.2)
   refine ⟨_,rfl,?_⟩
   have n0_ := As_ (Kd.R_below (zR_ HO_4.out) hb)
   have n1_ := As_ (Kd.S_elder' (zS_ HO_1037000.out) (Kd.S_base ho0) hb)
   have n2_ := As_ (Kd.S_lower (Kd.S_new' (Kd.S_new' ho0 (Kd.R_lt (zR_ HO_4.out))) (Kd.S_lt (zS_ HO_1037000.out))) (bwZ (zb1 HB.out GE1036.out)))
   have n3_ := As_ (zkb BK1036.out hb)
   have n4_ := As_ (bwT (zb1 HB.out GE1036.out) hb)
   clear HO_4 HO_1037000 BK1036 HB
   revert n0_ n1_ n2_ n3_ n4_;intro HO_4 HO_1037000 HO1050 BK1036 HB
   obtain ⟨Ao40,co40,eo40⟩ := Kd.S_slice HO1050.out
   (first|subst eo40|(injection eo40 with f1_ f2_ f3_;have f4_ := f1_.symm;have f5_ := f3_.symm;clear f1_ f2_ f3_;subst f4_;subst f5_))
   refine hK.out _ _ ⟨(bkC BK1036.out 0).trans rfl,(bkC BK1036.out 1).trans rfl,HS2_,HS3_,HS4_,HS5_,HS6_,HS7_,HS8_,HS9_⟩ (fun hHeld => ?_)
   clear hK K
   refine norm_ (a' := ?_) ?_ ?_
   rotate_left
   ·show Act.put _ (some 27) _ = _
    simp only [Act.put,sq_]
    rfl
   refine one_ (i := 2) (N := some 28) (bl_ 15 32) rfl rfl (one_of HT_.out (by kernel_rfl)) (by decide) (fun K hK => ?_)
   refine goes_ Try.func43 (by kernel_rfl) rfl #[.agg #[.slice Ao40 t1048.length co40,.int .i64 t1051]] (by rfl) rfl rfl zM_ ?_
   with_reducible refine (impl_CodeOf.calls kj4 _ _ t1048 t1051 t1052 _ ?side1 ?side2 A30.out).mono ?_
   (case side1 => exact zC_ (Kd.S_reads' HO1050.out).2.2)
   (case side2 => exact (Kd.S_reads' HO1050.out).2.1)
   rintro e w41 ⟨v1053,rfl,ho0,hb⟩
   have HS2_ := (hb.cell (bwL _ _ (hHeld.2.2.1))).trans (hHeld.2.2.1)
   have HS3_ := (hb.cell (bwL _ _ (hHeld.2.2.2.1))).trans (hHeld.2.2.2.1)
   have HS4_ := (hb.cell (bwL _ _ (hHeld.2.2.2.2.1))).trans (hHeld.2.2.2.2.1)
   have HS5_ := (hb.cell (bwL _ _ (hHeld.2.2.2.2.2.1))).trans (hHeld.2.2.2.2.2.1)
   have HS6_ := (hb.cell (bwL _ _ (hHeld.2.2.2.2.2.2.1))).trans (hHeld.2.2.2.2.2.2.1)
   have HS7_ := (hb.cell (bwL _ _ (hHeld.2.2.2.2.2.2.2.1))).trans (hHeld.2.2.2.2.2.2.2.1)
   have HS8_ := (hb.cell (bwL _ _ (hHeld.2.2.2.2.2.2.2.2.1))).trans (hHeld.2.2.2.2.2.2.2.2.1)
   have HS9_ := (hb.cell (bwL _ _ (hHeld.2.2.2.2.2.2.2.2.2))).trans (hHeld.2.2.2.2.2.2.2.2.2)
   refine ⟨_,rfl,?_⟩
   have n0_ := As_ (Kd.R_elder' (zR_ HO_4.out) (Kd.R_base ho0) hb)
   have n1_ := As_ (Kd.S_elder' (zS_ HO_1037000.out) (Kd.R_base ho0) hb)
   have n2_ := As_ (Kd.S_elder' (zS_ HO1050.out) (Kd.R_base ho0) hb)
   have n3_ := As_ (Kd.R_lower (Kd.R_new' ho0 (Kd.R_lt (zR_ HO_4.out))) (bwZ (zb1 HB.out GE1036.out)))
   have n4_ := As_ (zkb BK1036.out hb)
   have n5_ := As_ (bwT (zb1 HB.out GE1036.out) hb)
   clear HO_4 HO_1037000 HO1050 BK1036 HB
   revert n0_ n1_ n2_ n3_ n4_ n5_;intro HO_4 HO_1037000 HO1050 HO1054 BK1036 HB
   obtain ⟨Ao42,co42,eo42⟩ := Kd.R_slice HO1054.out
   (first|subst eo42|(injection eo42 with f1_ f2_ f3_;have f4_ := f1_.symm;have f5_ := f3_.symm;clear f1_ f2_ f3_;subst f4_;subst f5_))
   obtain ⟨Ao43,co43,eo43⟩ := Kd.R_slice HO_4.out
   (first|subst eo43|(injection eo43 with f1_ f2_ f3_;have f4_ := f1_.symm;have f5_ := f3_.symm;clear f1_ f2_ f3_;subst f4_;subst f5_))
   refine hK.out _ _ ⟨(bkC BK1036.out 0).trans rfl,(bkC BK1036.out 1).trans rfl,HS2_,HS3_,HS4_,HS5_,HS6_,HS7_,HS8_,HS9_⟩ (fun hHeld => ?_)
   clear hK K
   refine norm_ (a' := ?_) ?_ ?_
   rotate_left
   ·show Act.put _ (some 28) _ = _
    simp only [Act.put,sq_]
    rfl
   refine one_ (i := 4) (N := some 30) (bl_ 31 32) rfl rfl (one_of HT_.out (by kernel_rfl)) (by decide) (fun K hK => ?_)
   refine goes_ Try.func34 (by kernel_rfl) rfl #[.slice Ao42 t1052.length co42,.slice (some ad1056) t1037.length co43] (by rfl) rfl rfl zM_ ?_
   with_reducible refine (laws_equalInts.calls kj4 _ _ t1052 _ _ t1037 true _ ?side1 ?side2 ?side3 ?side4 A31.out).mono ?_
   (case side1 => exact zC_ (Kd.R_reads' HO1054.out).2.2)
   (case side2 => exact (Kd.R_reads' HO1054.out).2.1)
   (case side3 => exact zC_ (Kd.R_reads' HO_4.out).2.2)
   (case side4 => exact (Kd.R_reads' HO_4.out).2.1)
   rintro e w' ⟨rfl,⟨nd,rfl⟩⟩
   refine ⟨_,rfl,?_⟩
   refine hK.out _ _ ⟨(bkC BK1036.out 0).trans rfl,(bkC BK1036.out 1).trans rfl,hHeld.2.2.1,hHeld.2.2.2.1,hHeld.2.2.2.2.1,hHeld.2.2.2.2.2.1,hHeld.2.2.2.2.2.2.1,hHeld.2.2.2.2.2.2.2.1,hHeld.2.2.2.2.2.2.2.2.1,hHeld.2.2.2.2.2.2.2.2.2⟩ (fun hHeld => ?_)
   clear hK K
   refine norm_ (a' := ?_) ?_ ?_
   rotate_left
   ·show Act.put _ (some 30) _ = _
    simp only [Act.put,sq_]
    rfl
   refine pQ 5 31 (bl_ 63 32) HT_ rfl ?_
   refine pQ 6 32 (bl_ 127 32) HT_ rfl ?_
   refine pQ 7 33 (bl_ 255 32) HT_ rfl ?_
   refine pQ 9 35 (bl_ 767 32) HT_ rfl ?_
   refine pQ 11 37 (bl_ 2815 32) HT_ rfl ?_
   refine tP 8 34 (bl_ 3071 32) ?_ HT_ HW_ rfl (.inl ⟨by rfl,?_⟩) hHeld ?_ ?_ ?_;rotate_left;(rintro w' ⟨s0,s1,s2,s3,s4,s5,s6,s7,s8,s9⟩;go_simp;with_reducible rfl);rotate_left;(simp only [Act.put,sq_];rfl)
   refine tP 10 36 (bl_ 4095 32) ?_ HT_ HW_ rfl (.inl ⟨by rfl,?_⟩) hHeld ?_ ?_ ?_;rotate_left;(rintro w' ⟨s0,s1,s2,s3,s4,s5,s6,s7,s8,s9⟩;go_simp;with_reducible rfl);rotate_left;(simp only [Act.put,sq_];rfl)
   refine tP 12 38 (bl_ 8191 32) ?_ HT_ HW_ rfl (.inl ⟨by rfl,?_⟩) hHeld ?_ ?_ ?_;rotate_left;(rintro w' ⟨s0,s1,s2,s3,s4,s5,s6,s7,s8,s9⟩;go_simp;with_reducible rfl);rotate_left;(simp only [Act.put,sq_];rfl)
   refine pQ 13 39 (bl_ 16383 32) HT_ rfl ?_
   refine pQ 14 40 (bl_ 32767 32) HT_ rfl ?_
   refine tP 15 41 (bl_ 65535 32) ?_ HT_ HW_ rfl (.inl ⟨by rfl,?_⟩) hHeld ?_ ?_ ?_;rotate_left;(rintro w' ⟨s0,s1,s2,s3,s4,s5,s6,s7,s8,s9⟩;go_simp;with_reducible rfl);rotate_left;(simp only [Act.put,sq_];rfl)
   refine pQ 16 42 (bl_ 131071 32) HT_ rfl ?_
   refine pQ 17 43 (bl_ 262143 32) HT_ rfl ?_
   refine pQ 18 44 (bl_ 524287 32) HT_ rfl ?_
   refine pQ 19 45 (bl_ 1048575 32) HT_ rfl ?_
   refine pQ 20 46 (bl_ 2097151 32) HT_ rfl ?_
   refine pQ 22 48 (bl_ 6291455 32) HT_ rfl ?_
   refine pQ 24 50 (bl_ 23068671 32) HT_ rfl ?_
   refine tP 21 47 (bl_ 25165823 32) ?_ HT_ HW_ rfl (.inl ⟨by rfl,?_⟩) hHeld ?_ ?_ ?_;rotate_left;(rintro w' ⟨s0,s1,s2,s3,s4,s5,s6,s7,s8,s9⟩;go_simp;with_reducible rfl);rotate_left;(simp only [Act.put,sq_];rfl)
   refine tP 23 49 (bl_ 33554431 32) ?_ HT_ HW_ rfl (.inl ⟨by rfl,?_⟩) hHeld ?_ ?_ ?_;rotate_left;(rintro w' ⟨s0,s1,s2,s3,s4,s5,s6,s7,s8,s9⟩;go_simp;with_reducible rfl);rotate_left;(simp only [Act.put,sq_];rfl)
   refine tP 25 51 (bl_ 67108863 32) ?_ HT_ HW_ rfl (.inl ⟨by rfl,?_⟩) hHeld ?_ ?_ ?_;rotate_left;(rintro w' ⟨s0,s1,s2,s3,s4,s5,s6,s7,s8,s9⟩;go_simp;with_reducible rfl);rotate_left;(simp only [Act.put,sq_];rfl)
   refine pQ 26 52 (bl_ 134217727 32) HT_ rfl ?_
   refine pQ 27 53 (bl_ 268435455 32) HT_ rfl ?_
   refine tP 28 54 (bl_ 536870911 32) ?_ HT_ HW_ rfl (.inl ⟨by rfl,?_⟩) hHeld ?_ ?_ ?_;rotate_left;(rintro w' ⟨s0,s1,s2,s3,s4,s5,s6,s7,s8,s9⟩;go_simp;with_reducible rfl);rotate_left;(simp only [Act.put,sq_];rfl)
   refine pQ 29 55 (bl_ 1073741823 32) HT_ rfl ?_
   refine pQ 30 56 (bl_ 2147483647 32) HT_ rfl ?_
   refine pQ 31 2 (bl_ 4294967295 32) HT_ rfl ?_
   refine done_ (done_of HT_.out (by kernel_rfl)) ?_
   try go_wp2
   go_ret
   exact ⟨zE_,zb1 HB.out GE1036.out⟩
/-- THE ONE PURE STATEMENT of laws_FnCodeOf: yours. -/
def laws_FnCodeOf.Pure : Prop := ∀ (l0 : List Int),l0.length ≤ maxLen → l0.length * 1 ≤ 140737488351232 → (∀ x ∈ l0,(Lit.int .u8 x).wf = true) → ∃ k,laws_FnCodeOf.f k l0 = some true
theorem laws_FnCodeOf.walk (P : laws_FnCodeOf.Pure) (a0 : Option Addr) (len0 cap0 : Nat) (z0 : List Int) (w : World) (w0 : (a0 = none ∧ len0 = 0 ∧ cap0 = 0 ∧ z0 = []) ∨ ∃ x,a0 = some x ∧ len0 ≤ cap0 ∧ cap0 ≤ maxLen ∧ z0.length = cap0 ∧ (∀ i,i < z0.length → w.cell? (x.add i) = some (.int .u8 (z0.getD i 0))) ∧ ∀ n ∈ z0,(Lit.int .u8 n).wf = true) (y0 : len0 * 1 ≤ 140737488351232) :
  Calls Try.prog 13 #[.slice a0 len0 cap0] w fun e w' => e = .returned (.bool true) ∧ Below w.heap.size w w' := by
 obtain ⟨l0,rfl,hr0,hm0,hw0,hc0⟩ := ReadsInt.ofRowC w0
 obtain ⟨k,h⟩ := P l0 hm0 y0 hw0
 refine (laws_FnCodeOf.calls k _ _ l0 true w (Kd.C_of_reads (d := (0 : Int)) (h1 := fun _ => rfl) hr0) hc0 h).mono ?_
 rintro e w' ⟨rfl,hd⟩
 exact ⟨rfl,hd⟩

end Go.Proofs.Ytfhakhbmbnbneaa.Q
