-- Written by wip/tools/qprint.py (a program of this claim's author) by means of the kit's printer.
import Derived.Test.YtapaegcombfafaaQ0
import Derived.Test.YtapaegcombfafaaQ12
import Derived.Test.YtapaegcombfafaaQ13
import Derived.Test.YtapaegcombfafaaQ15
import Derived.Test.YtapaegcombfafaaQ39
import Derived.Test.YtapaegcombfafaaQ44
namespace Go.Proofs.Ytapaegcombfafaa.Q
open Go.RowKit Go.Proofs.YtapaegcombfafaaW.PrintWords Go.Proofs.YtapaegcombfafaaW.PrintLast Go.Proofs.YtapaegcombfafaaW.PrintMore
attribute [local go_sem] max2_int min2_int max_two min_two max_three min_three max_four min_four   -- for this text's walks alone
set_option linter.unusedVariables false
set_option linter.unusedSimpArgs false

/-! ### laws_FnCodeMany: function 3 -/
def laws_FnCodeMany.j0 : Nat → List Int → List Int → Bool → List (S58) → Int → Option (Bool)
 | 0,_,_,_,_,_ => none
 | k + 1,x4,x5,x30,x417000,x417001 => if x30 = true then ((spec_CodeMany.f k x417000 x417001 x4).bind fun t424 => ((laws_equalInts.f k x5 t424).bind fun t427 => (some t427))) else (if 0 < (x4.length : Int) then ((impl_CodeOf.f k x417000 (rd x4 0)).bind fun t429 => (if 0 ≤ (wrap64 ((x4.length : Int) / 2)) then (if (wrap64 ((x4.length : Int) / 2)) ≤ (x4.length : Int) then ((impl_CodeMany.f k x417000 x417001 (x4.take ((wrap64 ((x4.length : Int) / 2)) : Int).toNat)).bind fun t436 => (if 0 ≤ (t429.length : Int) then (if (t429.length : Int) ≤ (x5.length : Int) then ((laws_equalInts.f k (x5.take ((t429.length : Int) : Int).toNat) t429).bind fun t443 => (if t443 = true then (if (t436.length : Int) ≤ (x5.length : Int) then (if 0 ≤ (t436.length : Int) then ((laws_equalInts.f k (x5.take ((t436.length : Int) : Int).toNat) t436).bind fun t448 => (some t448)) else (none)) else (some false)) else (some false))) else (none)) else (none))) else (none)) else (none))) else (none))
def laws_FnCodeMany.f (k : Nat) (l0 : List Int) : Option (Bool) := if (l0.length : Int) > 1048576 then (some true) else ((spec_DrawCodeMany.f k l0).bind fun bt409 => ((impl_CodeMany.f k bt409.1 bt409.2.1 bt409.2.2).bind fun t417 => ((spec_CodeMany.f k bt409.1 bt409.2.1 bt409.2.2).bind fun t420 => ((laws_equalInts.f k t417 t420).bind fun t423 => (if t423 = true then (laws_FnCodeMany.j0 k bt409.2.2 t417 ((t417.length : Int) == 0) bt409.1 bt409.2.1) else (laws_FnCodeMany.j0 k bt409.2.2 t417 true bt409.1 bt409.2.1))))))
set_option maxRecDepth 100000 in
theorem laws_FnCodeMany.mono_l : ∀ k,(∀ y0 y1 y2 y3 y4,LeO (laws_FnCodeMany.j0 k y0 y1 y2 y3 y4) (laws_FnCodeMany.j0 (k + 1) y0 y1 y2 y3 y4))
 | 0 => fun _ _ _ _ _ r h => (by cases h)
 | k + 1 => by
  have ih0 := laws_FnCodeMany.mono_l k
  ·intro y0 y1 y2 y3 y4
   unfold laws_FnCodeMany.j0
   repeat' first
   | (with_reducible exact ih0 _ _ _ _ _)
   | (with_reducible exact impl_CodeMany.mono _ _ _ _)
   | (with_reducible exact impl_CodeOf.mono _ _ _)
   | (with_reducible exact laws_equalInts.mono _ _ _)
   | (with_reducible exact spec_CodeMany.mono _ _ _ _)
   | (with_reducible exact spec_DrawCodeMany.mono _ _)
   | (with_reducible exact LeO.refl _)
   | (with_reducible exact LeO.none _)
   | (with_reducible refine LeO.ite ?_ ?_)
   | (with_reducible refine LeO.bind ?_ (fun _ => ?_))
   | exact ih0 _ _ _ _ _
   | exact impl_CodeMany.mono _ _ _ _
   | exact impl_CodeOf.mono _ _ _
   | exact laws_equalInts.mono _ _ _
   | exact spec_CodeMany.mono _ _ _ _
   | exact spec_DrawCodeMany.mono _ _
   | exact LeO.none _
   | refine LeO.ite ?_ ?_
   | refine LeO.bind ?_ (fun _ => ?_)
set_option maxRecDepth 100000 in
theorem laws_FnCodeMany.mono : ∀ a0 k,LeO (laws_FnCodeMany.f k a0) (laws_FnCodeMany.f (k + 1) a0) := by
 intro a0 k
 have ih0 := laws_FnCodeMany.mono_l k
 unfold laws_FnCodeMany.f
 repeat' first
   | (with_reducible exact ih0 _ _ _ _ _)
   | (with_reducible exact impl_CodeMany.mono _ _ _ _)
   | (with_reducible exact impl_CodeOf.mono _ _ _)
   | (with_reducible exact laws_equalInts.mono _ _ _)
   | (with_reducible exact spec_CodeMany.mono _ _ _ _)
   | (with_reducible exact spec_DrawCodeMany.mono _ _)
   | (with_reducible exact LeO.refl _)
   | (with_reducible exact LeO.none _)
   | (with_reducible refine LeO.ite ?_ ?_)
   | (with_reducible refine LeO.bind ?_ (fun _ => ?_))
   | exact ih0 _ _ _ _ _
   | exact impl_CodeMany.mono _ _ _ _
   | exact impl_CodeOf.mono _ _ _
   | exact laws_equalInts.mono _ _ _
   | exact spec_CodeMany.mono _ _ _ _
   | exact spec_DrawCodeMany.mono _ _
   | exact LeO.none _
   | refine LeO.ite ?_ ?_
   | refine LeO.bind ?_ (fun _ => ?_)
def laws_FnCodeMany.T7 : Bool × List (List Nat × List Nat) := (true,[([],[]),([0],[0]),([],[]),([2],[2]),([3],[3]),([1,4],[1,4]),([5],[5]),([6,6,0,1,2,3,4,5,6],[6])])
def laws_FnCodeMany.B7 : List Nat := [0,1,0,4,12,31,63,127]
theorem laws_FnCodeMany.tab7 : rtab .any (opsOf Try.f3 7) = laws_FnCodeMany.T7 := by kernel_rfl
theorem laws_FnCodeMany.bits7 : waitsOk laws_FnCodeMany.T7.2 laws_FnCodeMany.B7 = true := by kernel_rfl
set_option maxHeartbeats 8000000 in
set_option maxRecDepth 100000 in
theorem laws_FnCodeMany.calls (k : Nat) (A0 : Option Addr) (c0 : Nat) (l0 : List Int) (r : Bool) (w : World) (hr0 : Kd.C (Kd.int .u8) w A0 l0.length l0) (hc0 : l0.length ≤ c0) (h : laws_FnCodeMany.f k l0 = some r) :
  Calls Try.prog 3 #[.slice A0 l0.length c0] w fun e w' => e = .returned (.bool r) ∧ Below w.heap.size w w' := by
 have hu25 := Try.underlying25
 have HR0 := As_ hr0
 have HC0 := As_ hc0
 clear hr0 hc0
 have HB := As_ (Below.refl w.heap.size w)
 have H : (if (l0.length : Int) > 1048576 then (some true) else ((spec_DrawCodeMany.f k l0).bind fun bt409 => ((impl_CodeMany.f k bt409.1 bt409.2.1 bt409.2.2).bind fun t417 => ((spec_CodeMany.f k bt409.1 bt409.2.1 bt409.2.2).bind fun t420 => ((laws_equalInts.f k t417 t420).bind fun t423 => (if t423 = true then (laws_FnCodeMany.j0 k bt409.2.2 t417 ((t417.length : Int) == 0) bt409.1 bt409.2.1) else (laws_FnCodeMany.j0 k bt409.2.2 t417 true bt409.1 bt409.2.1))))))) = some r := h
 clear h
 by_cases c2 : (l0.length : Int) > 1048576
 ·rw [if_pos c2] at H
  have c2b0 : decide (1048576 < (l0.length : Int)) = true := deT c2
  have c2b1 : decide (1048576 < l0.length) = true := deT (by omega)
  clear c2
  obtain rfl := Option.some.inj H
  go_enter Try.func3,Try.ntmps3
  go_wp2
  go_ret
  exact ⟨zE_,zb0 HB.out⟩
 rw [if_neg c2] at H
 have c2b0 : decide (1048576 < (l0.length : Int)) = false := deF c2
 have c2b1 : decide (1048576 < l0.length) = false := deF (by omega)
 clear c2
 replace H := obS H
 obtain ⟨⟨t409,t412,t413⟩,A30,H⟩ := H
 replace H : ((impl_CodeMany.f k t409 t412 t413).bind fun t417 => ((spec_CodeMany.f k t409 t412 t413).bind fun t420 => ((laws_equalInts.f k t417 t420).bind fun t423 => (if t423 = true then (laws_FnCodeMany.j0 k t413 t417 ((t417.length : Int) == 0) t409 t412) else (laws_FnCodeMany.j0 k t413 t417 true t409 t412))))) = some r := H
 have A3 := As_ A30
 clear A30
 replace H := obS H
 obtain ⟨t417,A40,H⟩ := H
 replace H : ((spec_CodeMany.f k t409 t412 t413).bind fun t420 => ((laws_equalInts.f k t417 t420).bind fun t423 => (if t423 = true then (laws_FnCodeMany.j0 k t413 t417 ((t417.length : Int) == 0) t409 t412) else (laws_FnCodeMany.j0 k t413 t417 true t409 t412)))) = some r := H
 have A4 := As_ A40
 clear A40
 have HC5 := As_ H
 clear H
 go_enter Try.func3,Try.ntmps3
 go_upto_region 5 with (first|((with_reducible refine gate_callee (f := 11) rfl ?_);refine goesL_ (some 14) rfl rfl Try.func11 (by kernel_rfl) rfl #[.slice A0 l0.length c0] rfl zM_ ?_;(with_reducible refine (spec_DrawCodeMany.calls k _ _ l0 t409 t412 t413 _ ?side1 ?side2 A3.out).mono ?_);(case side1 => repeat (first|exact HR0.out|(with_reducible refine Kd.C_alloc ?_ _)|(with_reducible refine Kd.C_drewN ?_ _)|(with_reducible refine Kd.C_drew ?_)));(case side2 => exact HC0.out);rintro e w6 ⟨v410,v414,rfl,ho0,ho1,hb⟩;refine ⟨_,rfl,?_⟩;have n0_ := As_ (Kd.S_lower ho0 (bwZ (zb0 HB.out)));have n1_ := As_ (Kd.R_lower ho1 (bwZ (zb0 HB.out)));have n2_ := As_ (bwT (zb0 HB.out) hb);clear HB;revert n0_ n1_ n2_;intro HO411 HO415 HB)|((with_reducible refine gate_dst (N := 3) rfl ?_);(try (refine gate_guard (by rfl) ?_;dsimp only));refine box_event ?hg (N := 3) ?hd (cs := #[.slice none 0 0,.int .i64 0]) (t := 25) ?hr ?_;(case hd => rfl);(case hg => rfl);(case hr => go_simp <;> rfl);intro gb416 hg w7 hbox hb;have n0_ := As_ (Kd.S_below (zS_ HO411.out) hb);have n1_ := As_ (Kd.R_below (zR_ HO415.out) hb);have n2_ := As_ (bwT (zb0 HB.out) hb);have n3_ := As_ (hbox);have n4_ := As_ ((by rw [hg];exact (bwZ (zb0 HB.out)) : w.heap.size ≤ gb416));have n5_ := As_ ((by rw [hg];exact (bwZ (zb0 HB.out)) : w.heap.size ≤ gb416));clear HO411 HO415 HB;revert n0_ n1_ n2_ n3_ n4_ n5_;intro HO411 HO415 HB BK416 GW416 GE416;clear hb hbox hg;obtain ⟨Ao8,co8,eo8⟩ := Kd.S_slice HO411.out;subst eo8;obtain ⟨hcz9_0,hcz9_1,hfz9_0,hfz9_1⟩ := bk2 BK416.out;obtain ⟨Ao10,co10,eo10⟩ := Kd.R_slice HO415.out;subst eo10)|((with_reducible refine gate_callee (f := 12) rfl ?_);refine goesL_ (some 19) rfl rfl Try.func12 (by kernel_rfl) rfl #[.agg #[.slice Ao8 t409.length co8,.int .i64 t412],.slice Ao10 t413.length co10] rfl zM_ ?_;(with_reducible refine (impl_CodeMany.calls k _ _ t409 t412 _ _ t413 t417 _ ?side1 ?side2 ?side3 ?side4 A4.out).mono ?_);(case side1 => refine (Kd.S_reads' (e := 58) (base := w.heap.size) (ok := fun k_ => some k_ ≠ (.slice Ao10 t413.length co10 : Value).ownBlock) (n := t409.length) (c := co8) ?_).2.2;exact (by (with_reducible repeat (first|apply Kd.S_alloc|apply Kd.S_drewN|apply Kd.S_drew));exact (Kd.S_mono (Kd.S_far (p := ⟨gb416,1,none⟩) (Kd.S_far (p := ⟨gb416,0,none⟩) (Kd.S_types HO411.out BK416.out (by decide)) (fun _ hk => hk.2) (.slice Ao8 t409.length co8)) (fun _ hk => hk.2) (.int .i64 t412)) (fun _ h_ => h_.1))));(case side2 => exact (Kd.S_reads' HO411.out).2.1);(case side3 => refine (Kd.R_reads' (e := 3) (base := w.heap.size) (ok := fun k_ => True) (n := t413.length) (c := co10) ?_).2.2;exact (by (with_reducible repeat (first|apply Kd.R_alloc|apply Kd.R_drewN|apply Kd.R_drew));exact (Kd.R_mono (Kd.R_far (p := ⟨gb416,1,none⟩) (Kd.R_far (p := ⟨gb416,0,none⟩) (Kd.R_types HO415.out BK416.out (by decide)) (fun _ hk => hk.2) (.slice Ao8 t409.length co8)) (fun _ hk => hk.2) (.int .i64 t412)) (fun _ h_ => h_.1))));(case side4 => exact (Kd.R_reads' HO415.out).2.1);rintro e w11 ⟨v418,rfl,ho0,hb⟩;refine ⟨_,rfl,?_⟩;have n0_ := As_ (Kd.S_elder' (by (with_reducible repeat (first|apply Kd.S_alloc|apply Kd.S_drewN|apply Kd.S_drew));exact (Kd.S_mono (Kd.S_far (p := ⟨gb416,1,none⟩) (Kd.S_far (p := ⟨gb416,0,none⟩) (Kd.S_types HO411.out BK416.out (by decide)) (fun _ hk => hk.2) (.slice Ao8 t409.length co8)) (fun _ hk => hk.2) (.int .i64 t412)) (fun _ h_ => h_.1))) (Kd.R_base ho0) hb);have n1_ := As_ (Kd.R_elder' (by (with_reducible repeat (first|apply Kd.R_alloc|apply Kd.R_drewN|apply Kd.R_drew));exact (Kd.R_mono (Kd.R_far (p := ⟨gb416,1,none⟩) (Kd.R_far (p := ⟨gb416,0,none⟩) (Kd.R_types HO415.out BK416.out (by decide)) (fun _ hk => hk.2) (.slice Ao8 t409.length co8)) (fun _ hk => hk.2) (.int .i64 t412)) (fun _ h_ => h_.1))) (Kd.R_base ho0) hb);have n2_ := As_ (Kd.R_lower (Kd.R_new' ho0 (Kd.R_lt (by (with_reducible repeat (first|apply Kd.R_alloc|apply Kd.R_drewN|apply Kd.R_drew));exact (Kd.R_mono (Kd.R_far (p := ⟨gb416,1,none⟩) (Kd.R_far (p := ⟨gb416,0,none⟩) (Kd.R_types HO415.out BK416.out (by decide)) (fun _ hk => hk.2) (.slice Ao8 t409.length co8)) (fun _ hk => hk.2) (.int .i64 t412)) (fun _ h_ => h_.1))))) (bwZ (zb1 HB.out GE416.out)));have n3_ := As_ (blk_below (g := gb416) (o := .cells #[.slice Ao8 t409.length co8,.int .i64 t412] 25 (0,0)) (by (with_reducible repeat first|apply bkN|apply bkD|apply bkA);refine blk_put (cs := #[.slice Ao8 t409.length co8,.int .i64 0]) ?_ 1 _ rfl;(with_reducible repeat first|apply bkN|apply bkD|apply bkA);refine blk_put (cs := #[.slice none 0 0,.int .i64 0]) ?_ 0 _ rfl;(with_reducible repeat first|apply bkN|apply bkD|apply bkA);exact BK416.out) hb);have n4_ := As_ (bwT (zb1 HB.out GE416.out) hb);clear HO411 HO415 BK416 HB;revert n0_ n1_ n2_ n3_ n4_;intro HO411 HO415 HO419 BK416 HB))
 (try simp only [Act.put,List.setIfInBounds_toArray,List.set_cons_zero,List.set_cons_succ])
 go_cut [30] (fun v30 wc => ∃ (kq : Nat) (x30_4 : Bool),v30 = .bool x30_4 ∧ Aside0 (laws_FnCodeMany.j0 kq t413 t417 x30_4 t409 t412 = some r) ∧ Aside0 (kq ≤ k) ∧ Aside0 (Kd.R (Kd.int .i64) 3 wc w.heap.size (fun k_ => some k_ ≠ (v418 : Value).ownBlock) (.slice Ao10 t413.length co10) t413) ∧ Aside0 (Kd.R (Kd.int .i64) 3 wc w.heap.size (fun k_ => some k_ ≠ ((.slice Ao10 t413.length co10) : Value).ownBlock) v418 t417) ∧ Aside0 (Kd.S k58 58 wc w.heap.size (fun k_ => some k_ ≠ ((.slice Ao10 t413.length co10) : Value).ownBlock ∧ some k_ ≠ (v418 : Value).ownBlock) (.slice Ao8 t409.length co8) t409) ∧ Aside0 (wc.heap[gb416]? = some (.cells #[(.slice Ao8 t409.length co8),.int .i64 t412] 25 (0,0))) ∧ Aside0 (Below w.heap.size w wc))
 case first =>
  have H := HC5.out
  clear HC5
  replace H := obS H
  obtain ⟨t420,A120,H⟩ := H
  replace H : ((laws_equalInts.f k t417 t420).bind fun t423 => (if t423 = true then (laws_FnCodeMany.j0 k t413 t417 ((t417.length : Int) == 0) t409 t412) else (laws_FnCodeMany.j0 k t413 t417 true t409 t412))) = some r := H
  have A12 := As_ A120
  clear A120
  replace H := obS H
  obtain ⟨t423,A130,H⟩ := H
  replace H : (if t423 = true then (laws_FnCodeMany.j0 k t413 t417 ((t417.length : Int) == 0) t409 t412) else (laws_FnCodeMany.j0 k t413 t417 true t409 t412)) = some r := H
  have A13 := As_ A130
  clear A130
  by_cases c14 : t423 = true
  ·subst c14
   have H1 : (laws_FnCodeMany.j0 k t413 t417 ((t417.length : Int) == 0) t409 t412) = some r := by rw [if_pos rfl] at H;exact H
   clear H
   have H := H1
   clear H1
   have H' := As_ H
   clear H
   obtain ⟨hcz15_0,hcz15_1,hfz15_0,hfz15_1⟩ := bk2 BK416.out
   go_wp2_with (first|((with_reducible refine gate_callee (f := 14) rfl ?_);refine goesL_ (some 23) rfl rfl Try.func14 (by kernel_rfl) rfl #[.agg #[.slice Ao8 t409.length co8,.int .i64 t412],.slice Ao10 t413.length co10] rfl zM_ ?_;(with_reducible refine (spec_CodeMany.calls k _ _ t409 t412 _ _ t413 t420 _ ?side1 ?side2 ?side3 ?side4 A12.out).mono ?_);(case side1 => exact zC_ (Kd.S_reads' HO411.out).2.2);(case side2 => exact (Kd.S_reads' HO411.out).2.1);(case side3 => exact zC_ (Kd.R_reads' HO415.out).2.2);(case side4 => exact (Kd.R_reads' HO415.out).2.1);rintro e w16 ⟨v421,rfl,ho0,hb⟩;refine ⟨_,rfl,?_⟩;have n0_ := As_ (Kd.S_elder' (zS_ HO411.out) (Kd.R_base ho0) hb);have n1_ := As_ (Kd.R_elder' (zR_ HO415.out) (Kd.R_base ho0) hb);have n2_ := As_ (Kd.R_elder' (zR_ HO419.out) (Kd.R_base ho0) hb);have n3_ := As_ (Kd.R_lower (Kd.R_new' (Kd.R_new' ho0 (Kd.R_lt (zR_ HO415.out))) (Kd.R_lt (zR_ HO419.out))) (bwZ (zb1 HB.out GE416.out)));have n4_ := As_ (zkb BK416.out hb);have n5_ := As_ (bwT (zb1 HB.out GE416.out) hb);clear HO411 HO415 HO419 BK416 HB;revert n0_ n1_ n2_ n3_ n4_ n5_;intro HO411 HO415 HO419 HO422 BK416 HB;obtain ⟨Ao17,co17,eo17⟩ := Kd.R_slice HO419.out;subst eo17;obtain ⟨Ao18,co18,eo18⟩ := Kd.R_slice HO422.out;subst eo18)|((with_reducible refine gate_callee (f := 13) rfl ?_);refine goesL_ (some 24) rfl rfl Try.func13 (by kernel_rfl) rfl #[.slice Ao17 t417.length co17,.slice Ao18 t420.length co18] rfl zM_ ?_;(with_reducible refine (laws_equalInts.calls k _ _ t417 _ _ t420 true _ ?side1 ?side2 ?side3 ?side4 A13.out).mono ?_);(case side1 => exact zC_ (Kd.R_reads' HO419.out).2.2);(case side2 => exact (Kd.R_reads' HO419.out).2.1);(case side3 => exact zC_ (Kd.R_reads' HO422.out).2.2);(case side4 => exact (Kd.R_reads' HO422.out).2.1);rintro e w' ⟨rfl,⟨nd,rfl⟩⟩;refine ⟨_,rfl,?_⟩))
   go_meet
   case rel => exact ⟨_,(((t417.length : Int) == 0)),zT_,H',⟨by first|omega|exact Nat.le_refl _⟩,⟨by (with_reducible repeat (first|apply Kd.R_alloc|apply Kd.R_drewN|apply Kd.R_drew));exact Kd.R_mono HO415.out (fun _ hk => hk.1.2)⟩,⟨by (with_reducible repeat (first|apply Kd.R_alloc|apply Kd.R_drewN|apply Kd.R_drew));exact Kd.R_mono HO419.out (fun _ hk => hk.1.2)⟩,⟨by (with_reducible repeat (first|apply Kd.S_alloc|apply Kd.S_drewN|apply Kd.S_drew));exact Kd.S_mono HO411.out (fun _ hk => ⟨hk.1.1,hk.1.2⟩)⟩,⟨by (with_reducible repeat first|apply bkN|apply bkD|apply bkA);exact BK416.out⟩,⟨zb1 HB.out GE416.out⟩⟩
  replace c14 := Bool.eq_false_iff.mpr c14
  subst c14
  have H1 : (laws_FnCodeMany.j0 k t413 t417 true t409 t412) = some r := by rw [if_neg (show ¬ (false = true) by decide)] at H;exact H
  clear H
  have H := H1
  clear H1
  have H' := As_ H
  clear H
  obtain ⟨hcz19_0,hcz19_1,hfz19_0,hfz19_1⟩ := bk2 BK416.out
  go_wp2_with (first|((with_reducible refine gate_callee (f := 14) rfl ?_);refine goesL_ (some 23) rfl rfl Try.func14 (by kernel_rfl) rfl #[.agg #[.slice Ao8 t409.length co8,.int .i64 t412],.slice Ao10 t413.length co10] rfl zM_ ?_;(with_reducible refine (spec_CodeMany.calls k _ _ t409 t412 _ _ t413 t420 _ ?side1 ?side2 ?side3 ?side4 A12.out).mono ?_);(case side1 => exact zC_ (Kd.S_reads' HO411.out).2.2);(case side2 => exact (Kd.S_reads' HO411.out).2.1);(case side3 => exact zC_ (Kd.R_reads' HO415.out).2.2);(case side4 => exact (Kd.R_reads' HO415.out).2.1);rintro e w20 ⟨v421,rfl,ho0,hb⟩;refine ⟨_,rfl,?_⟩;have n0_ := As_ (Kd.S_elder' (zS_ HO411.out) (Kd.R_base ho0) hb);have n1_ := As_ (Kd.R_elder' (zR_ HO415.out) (Kd.R_base ho0) hb);have n2_ := As_ (Kd.R_elder' (zR_ HO419.out) (Kd.R_base ho0) hb);have n3_ := As_ (Kd.R_lower (Kd.R_new' (Kd.R_new' ho0 (Kd.R_lt (zR_ HO415.out))) (Kd.R_lt (zR_ HO419.out))) (bwZ (zb1 HB.out GE416.out)));have n4_ := As_ (zkb BK416.out hb);have n5_ := As_ (bwT (zb1 HB.out GE416.out) hb);clear HO411 HO415 HO419 BK416 HB;revert n0_ n1_ n2_ n3_ n4_ n5_;intro HO411 HO415 HO419 HO422 BK416 HB;obtain ⟨Ao21,co21,eo21⟩ := Kd.R_slice HO419.out;subst eo21;obtain ⟨Ao22,co22,eo22⟩ := Kd.R_slice HO422.out;subst eo22)|((with_reducible refine gate_callee (f := 13) rfl ?_);refine goesL_ (some 24) rfl rfl Try.func13 (by kernel_rfl) rfl #[.slice Ao21 t417.length co21,.slice Ao22 t420.length co22] rfl zM_ ?_;(with_reducible refine (laws_equalInts.calls k _ _ t417 _ _ t420 false _ ?side1 ?side2 ?side3 ?side4 A13.out).mono ?_);(case side1 => exact zC_ (Kd.R_reads' HO419.out).2.2);(case side2 => exact (Kd.R_reads' HO419.out).2.1);(case side3 => exact zC_ (Kd.R_reads' HO422.out).2.2);(case side4 => exact (Kd.R_reads' HO422.out).2.1);rintro e w' ⟨rfl,⟨nd,rfl⟩⟩;refine ⟨_,rfl,?_⟩))
  go_meet
  case rel => exact ⟨_,(true),zT_,H',⟨by first|omega|exact Nat.le_refl _⟩,⟨by (with_reducible repeat (first|apply Kd.R_alloc|apply Kd.R_drewN|apply Kd.R_drew));exact Kd.R_mono HO415.out (fun _ hk => hk.1.2)⟩,⟨by (with_reducible repeat (first|apply Kd.R_alloc|apply Kd.R_drewN|apply Kd.R_drew));exact Kd.R_mono HO419.out (fun _ hk => hk.1.2)⟩,⟨by (with_reducible repeat (first|apply Kd.S_alloc|apply Kd.S_drewN|apply Kd.S_drew));exact Kd.S_mono HO411.out (fun _ hk => ⟨hk.1.1,hk.1.2⟩)⟩,⟨by (with_reducible repeat first|apply bkN|apply bkD|apply bkA);exact BK416.out⟩,⟨zb1 HB.out GE416.out⟩⟩
 case rest =>
  clear HC5
  obtain ⟨kq,x30_4,rfl,HA,HJ4,HO_4,HO_5,HO_417000,BK416,HB⟩ := hcut
  cases kq with
  | zero => exact absurd HA.out (fun h_ => (by cases h_))
  | succ kj4 =>
   have H := HA.out
   clear HA
   simp only [laws_FnCodeMany.j0] at H
   by_cases c23 : x30_4 = true
   ·subst c23
    have H1 : ((spec_CodeMany.f kj4 t409 t412 t413).bind fun t424 => ((laws_equalInts.f kj4 t417 t424).bind fun t427 => (some t427))) = some r := by rw [if_pos rfl] at H;exact H
    clear H
    have H := H1
    clear H1
    replace H := obS H
    obtain ⟨t424,A240,H⟩ := H
    replace H : ((laws_equalInts.f kj4 t417 t424).bind fun t427 => (some t427)) = some r := H
    have A24 := As_ A240
    clear A240
    replace H := obS H
    obtain ⟨t427,A250,H⟩ := H
    replace H : (some t427) = some r := H
    have A25 := As_ A250
    clear A250
    obtain rfl := Option.some.inj H
    obtain ⟨hcz26_0,hcz26_1,hfz26_0,hfz26_1⟩ := bk2 BK416.out
    go_wp2_with (first|((with_reducible refine gate_callee (f := 14) rfl ?_);refine goesL_ (some 34) rfl rfl Try.func14 (by kernel_rfl) rfl #[.agg #[.slice Ao8 t409.length co8,.int .i64 t412],.slice Ao10 t413.length co10] rfl zM_ ?_;(with_reducible refine (spec_CodeMany.calls kj4 _ _ t409 t412 _ _ t413 t424 _ ?side1 ?side2 ?side3 ?side4 A24.out).mono ?_);(case side1 => exact zC_ (Kd.S_reads' HO_417000.out).2.2);(case side2 => exact (Kd.S_reads' HO_417000.out).2.1);(case side3 => exact zC_ (Kd.R_reads' HO_4.out).2.2);(case side4 => exact (Kd.R_reads' HO_4.out).2.1);rintro e w27 ⟨v425,rfl,ho0,hb⟩;refine ⟨_,rfl,?_⟩;have n0_ := As_ (Kd.R_elder' (zR_ HO_4.out) (Kd.R_base ho0) hb);have n1_ := As_ (Kd.R_elder' (zR_ HO_5.out) (Kd.R_base ho0) hb);have n2_ := As_ (Kd.S_elder' (zS_ HO_417000.out) (Kd.R_base ho0) hb);have n3_ := As_ (Kd.R_lower (Kd.R_new' (Kd.R_new' ho0 (Kd.R_lt (zR_ HO_4.out))) (Kd.R_lt (zR_ HO_5.out))) (bwZ (zb1 HB.out GE416.out)));have n4_ := As_ (zkb BK416.out hb);have n5_ := As_ (bwT (zb1 HB.out GE416.out) hb);clear HO_4 HO_5 HO_417000 BK416 HB;revert n0_ n1_ n2_ n3_ n4_ n5_;intro HO_4 HO_5 HO_417000 HO426 BK416 HB;obtain ⟨Ao28,co28,eo28⟩ := Kd.R_slice HO_5.out;subst eo28;obtain ⟨Ao29,co29,eo29⟩ := Kd.R_slice HO426.out;subst eo29)|((with_reducible refine gate_callee (f := 13) rfl ?_);refine goesL_ (some 35) rfl rfl Try.func13 (by kernel_rfl) rfl #[.slice Ao28 t417.length co28,.slice Ao29 t424.length co29] rfl zM_ ?_;(with_reducible refine (laws_equalInts.calls kj4 _ _ t417 _ _ t424 t427 _ ?side1 ?side2 ?side3 ?side4 A25.out).mono ?_);(case side1 => exact zC_ (Kd.R_reads' HO_5.out).2.2);(case side2 => exact (Kd.R_reads' HO_5.out).2.1);(case side3 => exact zC_ (Kd.R_reads' HO426.out).2.2);(case side4 => exact (Kd.R_reads' HO426.out).2.1);rintro e w' ⟨rfl,⟨nd,rfl⟩⟩;refine ⟨_,rfl,?_⟩))
    go_ret
    exact ⟨zE_,zb1 HB.out GE416.out⟩
   replace c23 := Bool.eq_false_iff.mpr c23
   subst c23
   have H1 : (if 0 < (t413.length : Int) then ((impl_CodeOf.f kj4 t409 (rd t413 0)).bind fun t429 => (if 0 ≤ (wrap64 ((t413.length : Int) / 2)) then (if (wrap64 ((t413.length : Int) / 2)) ≤ (t413.length : Int) then ((impl_CodeMany.f kj4 t409 t412 (t413.take ((wrap64 ((t413.length : Int) / 2)) : Int).toNat)).bind fun t436 => (if 0 ≤ (t429.length : Int) then (if (t429.length : Int) ≤ (t417.length : Int) then ((laws_equalInts.f kj4 (t417.take ((t429.length : Int) : Int).toNat) t429).bind fun t443 => (if t443 = true then (if (t436.length : Int) ≤ (t417.length : Int) then (if 0 ≤ (t436.length : Int) then ((laws_equalInts.f kj4 (t417.take ((t436.length : Int) : Int).toNat) t436).bind fun t448 => (some t448)) else (none)) else (some false)) else (some false))) else (none)) else (none))) else (none)) else (none))) else (none)) = some r := by rw [if_neg (show ¬ (false = true) by decide)] at H;exact H
   clear H
   have H := H1
   clear H1
   by_cases c30 : 0 < (t413.length : Int)
   rotate_left
   ·rw [if_neg c30] at H
    exact absurd H (by simp)
   rw [if_pos c30] at H
   have c30b0 : decide (0 < (t413.length : Int)) = true := deT c30
   have c30b1 : decide (0 < t413.length) = true := deT (by omega)
   clear c30
   replace H := obS H
   obtain ⟨t429,A310,H⟩ := H
   replace H : (if 0 ≤ (wrap64 ((t413.length : Int) / 2)) then (if (wrap64 ((t413.length : Int) / 2)) ≤ (t413.length : Int) then ((impl_CodeMany.f kj4 t409 t412 (t413.take ((wrap64 ((t413.length : Int) / 2)) : Int).toNat)).bind fun t436 => (if 0 ≤ (t429.length : Int) then (if (t429.length : Int) ≤ (t417.length : Int) then ((laws_equalInts.f kj4 (t417.take ((t429.length : Int) : Int).toNat) t429).bind fun t443 => (if t443 = true then (if (t436.length : Int) ≤ (t417.length : Int) then (if 0 ≤ (t436.length : Int) then ((laws_equalInts.f kj4 (t417.take ((t436.length : Int) : Int).toNat) t436).bind fun t448 => (some t448)) else (none)) else (some false)) else (some false))) else (none)) else (none))) else (none)) else (none)) = some r := H
   have A31 := As_ A310
   clear A310
   obtain ⟨ji32,hji32⟩ : ∃ j_ : Int,(wrap64 ((t413.length : Int) / 2)) = j_ := ⟨_,rfl⟩
   replace H : (if 0 ≤ (ji32) then (if (ji32) ≤ (t413.length : Int) then ((impl_CodeMany.f kj4 t409 t412 (t413.take ((ji32) : Int).toNat)).bind fun t436 => (if 0 ≤ (t429.length : Int) then (if (t429.length : Int) ≤ (t417.length : Int) then ((laws_equalInts.f kj4 (t417.take ((t429.length : Int) : Int).toNat) t429).bind fun t443 => (if t443 = true then (if (t436.length : Int) ≤ (t417.length : Int) then (if 0 ≤ (t436.length : Int) then ((laws_equalInts.f kj4 (t417.take ((t436.length : Int) : Int).toNat) t436).bind fun t448 => (some t448)) else (none)) else (some false)) else (some false))) else (none)) else (none))) else (none)) else (none)) = some r := by first|(rw [hji32] at H;exact H)|(simp only [hji32] at H ⊢;exact H)
   (try rw [hji32] at A31)
   have hji32w : (IntKind.i64.wrap ((t413.length : Int) / 2)) = ji32 := (i64_w _).trans hji32
   by_cases c33 : 0 ≤ (ji32)
   rotate_left
   ·rw [if_neg c33] at H
    exact absurd H (by simp)
   rw [if_pos c33] at H
   have c33b0 := eq_true c33
   have c33b1 : decide (0 ≤ (ji32)) = true := deT c33
   clear c33
   by_cases c34 : (ji32) ≤ (t413.length : Int)
   rotate_left
   ·rw [if_neg c34] at H
    exact absurd H (by simp)
   rw [if_pos c34] at H
   have c34b0 := eq_true c34
   have c34b1 : decide ((ji32) ≤ (t413.length : Int)) = true := deT c34
   clear c34
   obtain ⟨y432,hy432⟩ : ∃ y_ : List Int,y_ = (t413.take ((ji32) : Int).toNat) := ⟨_,rfl⟩
   replace H : ((impl_CodeMany.f kj4 t409 t412 y432).bind fun t436 => (if 0 ≤ (t429.length : Int) then (if (t429.length : Int) ≤ (t417.length : Int) then ((laws_equalInts.f kj4 (t417.take ((t429.length : Int) : Int).toNat) t429).bind fun t443 => (if t443 = true then (if (t436.length : Int) ≤ (t417.length : Int) then (if 0 ≤ (t436.length : Int) then ((laws_equalInts.f kj4 (t417.take ((t436.length : Int) : Int).toNat) t436).bind fun t448 => (some t448)) else (none)) else (some false)) else (some false))) else (none)) else (none))) = some r := zH_ H hy432
   have Ny432 := As_ hy432
   clear hy432
   replace H := obS H
   obtain ⟨t436,A350,H⟩ := H
   replace H : (if 0 ≤ (t429.length : Int) then (if (t429.length : Int) ≤ (t417.length : Int) then ((laws_equalInts.f kj4 (t417.take ((t429.length : Int) : Int).toNat) t429).bind fun t443 => (if t443 = true then (if (t436.length : Int) ≤ (t417.length : Int) then (if 0 ≤ (t436.length : Int) then ((laws_equalInts.f kj4 (t417.take ((t436.length : Int) : Int).toNat) t436).bind fun t448 => (some t448)) else (none)) else (some false)) else (some false))) else (none)) else (none)) = some r := H
   have A35 := As_ A350
   clear A350
   by_cases c36 : 0 ≤ (t429.length : Int)
   rotate_left
   ·rw [if_neg c36] at H
    exact absurd H (by simp)
   rw [if_pos c36] at H
   have c36b0 := eq_true c36
   have c36b1 : decide (0 ≤ (t429.length : Int)) = true := deT c36
   clear c36
   by_cases c37 : (t429.length : Int) ≤ (t417.length : Int)
   rotate_left
   ·rw [if_neg c37] at H
    exact absurd H (by simp)
   rw [if_pos c37] at H
   have c37b0 := eq_true c37
   have c37b1 : decide ((t429.length : Int) ≤ (t417.length : Int)) = true := deT c37
   clear c37
   obtain ⟨y439,hy439⟩ : ∃ y_ : List Int,y_ = (t417.take ((t429.length : Int) : Int).toNat) := ⟨_,rfl⟩
   replace H : ((laws_equalInts.f kj4 y439 t429).bind fun t443 => (if t443 = true then (if (t436.length : Int) ≤ (t417.length : Int) then (if 0 ≤ (t436.length : Int) then ((laws_equalInts.f kj4 (t417.take ((t436.length : Int) : Int).toNat) t436).bind fun t448 => (some t448)) else (none)) else (some false)) else (some false))) = some r := zH_ H hy439
   have Ny439 := As_ hy439
   clear hy439
   replace H := obS H
   obtain ⟨t443,A380,H⟩ := H
   replace H : (if t443 = true then (if (t436.length : Int) ≤ (t417.length : Int) then (if 0 ≤ (t436.length : Int) then ((laws_equalInts.f kj4 (t417.take ((t436.length : Int) : Int).toNat) t436).bind fun t448 => (some t448)) else (none)) else (some false)) else (some false)) = some r := H
   have A38 := As_ A380
   clear A380
   by_cases c39 : t443 = true
   rotate_left
   ·replace c39 := Bool.eq_false_iff.mpr c39
    subst c39
    have H1 : (some false) = some r := by rw [if_neg (show ¬ (false = true) by decide)] at H;exact H
    clear H
    have H := H1
    clear H1
    obtain rfl := Option.some.inj H
    try go_wp2
    have n0_ := As_ (Kd.R_drew HO_4.out)
    have n1_ := As_ (Kd.R_drew HO_5.out)
    have n2_ := As_ (Kd.S_drew HO_417000.out)
    have n3_ := As_ (bkD BK416.out)
    have n4_ := As_ (bwD HB.out)
    clear HO_4 HO_5 HO_417000 BK416 HB
    revert n0_ n1_ n2_ n3_ n4_;intro HO_4 HO_5 HO_417000 BK416 HB
    have p428 : 0 ≤ (0 : Int) := (by omega)
    have q428 : 0 < (t413.length : Int) := odT zA_
    obtain ⟨ad428,e428,hx428_0⟩ := Kd.at_int (Kd.R_reads' HO_4.out).2.2 0 p428 q428
    cases e428
    have qi428 : (0 < t413.length) = True := eq_true (by omega)
    (try rw [show ((0 : Int)).toNat = 0 from rfl] at hx428_0)
    (try rw [Addr.add_zero'] at hx428_0)
    replace p428 := eq_true p428
    replace q428 := eq_true q428
    refine start_ (n := 8) (S := fun w' => w'.cell? ⟨gb416,0,none⟩ = some (.slice Ao8 t409.length co8) ∧ w'.cell? ⟨gb416,1,none⟩ = some (.int .i64 t412) ∧ w'.cell? ad428 = some (.int .i64 (rd t413 0))) (ds := []) (bl_ 0 8) (by kernel_rfl) rfl rfl ⟨(bkC BK416.out 0).trans rfl,(bkC BK416.out 1).trans rfl,hx428_0⟩ (fun hHeld => ?_);refine with_tabW laws_FnCodeMany.tab7 laws_FnCodeMany.bits7 (fun HT_ HW_ => ?_)
    generalize wc.drew = w63 at HO_4 HO_5 HO_417000 BK416 HB hx428_0 hHeld ⊢
    refine pQ 0 36 (bl_ 1 8) HT_ rfl ?_
    refine pQ 2 38 (bl_ 5 8) HT_ rfl ?_
    refine pQ 3 39 (bl_ 13 8) HT_ rfl ?_
    refine tP 1 37 (bl_ 15 8) ?_ HT_ HW_ rfl (.inl ⟨by rfl,?_⟩) hHeld ?_ ?_ ?_;rotate_left;(rintro w' ⟨s0,s1,s2⟩;go_simp;with_reducible rfl);rotate_left;(simp only [Act.put,sq_,i64_w,i32_w];rfl)
    refine tP 4 40 (bl_ 31 8) ?_ HT_ HW_ rfl (.inl ⟨by rfl,?_⟩) hHeld ?_ ?_ ?_;rotate_left;(rintro w' ⟨s0,s1,s2⟩;go_simp;with_reducible rfl);rotate_left;(simp only [Act.put,sq_,i64_w,i32_w];rfl)
    refine pQ 5 41 (bl_ 63 8) HT_ rfl ?_
    refine one_ (i := 6) (N := some 42) (bl_ 127 8) rfl rfl (one_of HT_.out (by kernel_rfl)) (by decide) (fun K hK => ?_)
    refine goes_ Try.func15 (by kernel_rfl) rfl #[.agg #[.slice Ao8 t409.length co8,.int .i64 (rd t413 0)]] (by rfl) rfl rfl zM_ ?_
    with_reducible refine (impl_CodeOf.calls kj4 _ _ t409 (rd t413 0) t429 _ ?side1 ?side2 A31.out).mono ?_
    (case side1 => exact zC_ (Kd.S_reads' HO_417000.out).2.2)
    (case side2 => exact (Kd.S_reads' HO_417000.out).2.1)
    rintro e w64 ⟨v430,rfl,ho0,hb⟩
    have HS2_ := (hb.cell (bwL _ _ (hHeld.2.2))).trans (hHeld.2.2)
    refine ⟨_,rfl,?_⟩
    have n0_ := As_ (Kd.R_elder' (zR_ HO_4.out) (Kd.R_base ho0) hb)
    have n1_ := As_ (Kd.R_elder' (zR_ HO_5.out) (Kd.R_base ho0) hb)
    have n2_ := As_ (Kd.S_elder' (zS_ HO_417000.out) (Kd.R_base ho0) hb)
    have n3_ := As_ (Kd.R_lower (Kd.R_new' (Kd.R_new' ho0 (Kd.R_lt (zR_ HO_4.out))) (Kd.R_lt (zR_ HO_5.out))) (bwZ (zb1 HB.out GE416.out)))
    have n4_ := As_ (zkb BK416.out hb)
    have n5_ := As_ (bwT (zb1 HB.out GE416.out) hb)
    clear HO_4 HO_5 HO_417000 BK416 HB
    revert n0_ n1_ n2_ n3_ n4_ n5_;intro HO_4 HO_5 HO_417000 HO431 BK416 HB
    refine hK.out _ _ ⟨(bkC BK416.out 0).trans rfl,(bkC BK416.out 1).trans rfl,HS2_⟩ (fun hHeld => ?_)
    clear hK K
    refine norm_ (a' := ?_) ?_ ?_
    rotate_left
    ·show Act.put _ (some 42) _ = _
     simp only [Act.put,sq_,i64_w,i32_w]
     rfl
    refine pQ 7 6 (bl_ 255 8) HT_ rfl ?_
    refine done_ (done_of HT_.out (by kernel_rfl)) ?_
    try go_wp2
    have n0_ := As_ (Kd.R_drew HO_4.out)
    have n1_ := As_ (Kd.R_drew HO_5.out)
    have n2_ := As_ (Kd.S_drew HO_417000.out)
    have n3_ := As_ (Kd.R_drew HO431.out)
    have n4_ := As_ (bkD BK416.out)
    have n5_ := As_ (bwD HB.out)
    clear HO_4 HO_5 HO_417000 HO431 BK416 HB
    revert n0_ n1_ n2_ n3_ n4_ n5_;intro HO_4 HO_5 HO_417000 HO431 BK416 HB
    have q66 : ((ji32) : Int) ≤ ((t413.length : Int) : Int) := odT zA_
    obtain ⟨i066,hi066,_,hsz66,_⟩ := info_parts info3
    have hroom66 : t413.length ≤ co10 := (Kd.R_reads' HO_4.out).2.1
    have hC66 : Kd.C (Kd.int .i64) _ (some ad428) t413.length t413 := (Kd.R_reads' HO_4.out).2.2
    have hcut66 := cut_to (P := Try.prog) 26 3 .i64 Try.underlying26 hi066 (some ad428) t413.length co10 (ji32) (odT zA_) q66 hroom66
    have hr66 := Kd.C_take (m := ((ji32) : Int).toNat) hC66 (by omega)
    have hy66 : y432.length = ((ji32) : Int).toNat := (by rw [Ny432.out,List.length_take];omega)
    rw [← Ny432.out] at hr66
    rw [← hy66] at hcut66
    have HR435 := As_ hr66
    have HC435 := As_ (show y432.length ≤ co10 from by omega)
    clear hr66 hC66 hroom66 hi066 hsz66
    have KY66 := As_ hy66
    clear hy66
    have KL66 := As_ (show ((ji32) : Int).toNat ≤ t413.length from by omega)
    replace q66 := eq_true q66
    refine start_ (n := 6) (S := fun w' => w'.cell? ⟨gb416,0,none⟩ = some (.slice Ao8 t409.length co8) ∧ w'.cell? ⟨gb416,1,none⟩ = some (.int .i64 t412)) (ds := []) (bl_ 0 6) (by kernel_rfl) rfl rfl ⟨(bkC BK416.out 0).trans rfl,(bkC BK416.out 1).trans rfl⟩ (fun hHeld => ?_)
    generalize w64.drew = w65 at HO_4 HO_5 HO_417000 HO431 BK416 HB HR435 hHeld ⊢
    refine pure_ (i := 1) (N := some 47) (v := ?_) (a' := ?_) (bl_ 2 6) rfl rfl (by kernel_rfl) (fun _ _ _ h => h) (Or.inl ⟨by rfl,?_⟩) ?_ ?_;rotate_left;(intro w';go_simp;with_reducible rfl);rotate_left;(simp only [Act.put,sq_,i64_w,i32_w];rfl)
    refine pure_ (i := 2) (N := some 48) (v := ?_) (a' := ?_) (bl_ 6 6) rfl rfl (by kernel_rfl) (fun _ _ _ h => h) (Or.inl ⟨by rfl,?_⟩) ?_ ?_;rotate_left;(intro w';go_simp;with_reducible rfl);rotate_left;(simp only [Act.put,sq_,i64_w,i32_w];rfl)
    refine pure_ (i := 3) (N := some 49) (v := ?_) (a' := ?_) (bl_ 14 6) rfl rfl (by kernel_rfl) (fun _ _ _ h => h) (Or.inl ⟨by rfl,?_⟩) ?_ ?_;rotate_left;(intro w';go_simp;with_reducible rfl);rotate_left;(simp only [Act.put,sq_,i64_w,i32_w];rfl)
    refine take_ (i := 0) (N := some 46) (v := ?_) (a' := ?_) (bl_ 15 6) rfl rfl (by kernel_rfl) (fun _ _ _ h => h) (Or.inl ⟨by rfl,?_⟩) hHeld ?_ ?_;rotate_left;(rintro w' ⟨s0,s1⟩;go_simp;with_reducible rfl);rotate_left;(simp only [Act.put,sq_,i64_w,i32_w];rfl)
    refine one_ (i := 4) (N := some 50) (bl_ 31 6) rfl rfl (by kernel_rfl) (by decide) (fun K hK => ?_)
    refine goes_ Try.func12 (by kernel_rfl) rfl #[.agg #[.slice Ao8 t409.length co8,.int .i64 t412],.slice (some ad428) y432.length co10] (by rfl) rfl rfl zM_ ?_
    with_reducible refine (impl_CodeMany.calls kj4 _ _ t409 t412 _ _ y432 t436 _ ?side1 ?side2 ?side3 ?side4 A35.out).mono ?_
    (case side1 => exact zC_ (Kd.S_reads' HO_417000.out).2.2)
    (case side2 => exact (Kd.S_reads' HO_417000.out).2.1)
    (case side3 => repeat (first|exact (by repeat (first|(with_reducible exact HR435.out)|(with_reducible refine Kd.C_alloc ?_ _)|(with_reducible refine Kd.C_drewN ?_ _)|(with_reducible refine Kd.C_drew ?_)|exact HR435.out))|(with_reducible refine Kd.C_alloc ?_ _)|(with_reducible refine Kd.C_drewN ?_ _)|(with_reducible refine Kd.C_drew ?_)))
    (case side4 => exact HC435.out)
    rintro e w67 ⟨v437,rfl,ho0,hb⟩
    refine ⟨_,rfl,?_⟩
    have n0_ := As_ (Kd.R_elder' (zR_ HO_4.out) (Kd.R_base ho0) hb)
    have n1_ := As_ (Kd.R_elder' (zR_ HO_5.out) (Kd.R_base ho0) hb)
    have n2_ := As_ (Kd.S_elder' (zS_ HO_417000.out) (Kd.R_base ho0) hb)
    have n3_ := As_ (Kd.R_elder' (zR_ HO431.out) (Kd.R_base ho0) hb)
    have n4_ := As_ (Kd.R_lower (Kd.R_new' (Kd.R_new' (Kd.R_new' ho0 (Kd.R_lt (zR_ HO_4.out))) (Kd.R_lt (zR_ HO_5.out))) (Kd.R_lt (zR_ HO431.out))) (bwZ (zb1 HB.out GE416.out)))
    have n5_ := As_ (zkb BK416.out hb)
    have n6_ := As_ (Kd.C_below (by repeat (first|(with_reducible exact HR435.out)|(with_reducible refine Kd.C_alloc ?_ _)|(with_reducible refine Kd.C_drewN ?_ _)|(with_reducible refine Kd.C_drew ?_)|exact HR435.out)) hb)
    have n7_ := As_ (bwT (zb1 HB.out GE416.out) hb)
    clear HO_4 HO_5 HO_417000 HO431 BK416 HR435 HB
    revert n0_ n1_ n2_ n3_ n4_ n5_ n6_ n7_;intro HO_4 HO_5 HO_417000 HO431 HO438 BK416 HR435 HB
    refine hK.out _ _ ⟨(bkC BK416.out 0).trans rfl,(bkC BK416.out 1).trans rfl⟩ (fun hHeld => ?_)
    clear hK K
    refine norm_ (a' := ?_) ?_ ?_
    rotate_left
    ·show Act.put _ (some 50) _ = _
     simp only [Act.put,sq_,i64_w,i32_w]
     rfl
    refine pure_ (i := 5) (N := some 8) (v := ?_) (a' := ?_) (bl_ 63 6) rfl rfl (by kernel_rfl) (fun _ _ _ h => h) (Or.inl ⟨by rfl,?_⟩) ?_ ?_;rotate_left;(intro w';go_simp;with_reducible rfl);rotate_left;(simp only [Act.put,sq_,i64_w,i32_w];rfl)
    refine done_ (by kernel_rfl) ?_
    obtain ⟨Ao68,co68,eo68⟩ := Kd.R_slice HO431.out
    subst eo68
    obtain ⟨Ao70,co70,eo70⟩ := Kd.R_slice HO_5.out
    subst eo70
    have q69 : ((t429.length : Int) : Int) ≤ ((t417.length : Int) : Int) := odT zA_
    obtain ⟨i069,hi069,_,hsz69,_⟩ := info_parts info3
    have hroom69 : t417.length ≤ co70 := (Kd.R_reads' HO_5.out).2.1
    have hC69 : Kd.C (Kd.int .i64) _ Ao70 t417.length t417 := (Kd.R_reads' HO_5.out).2.2
    have hcut69 := cut_to (P := Try.prog) 26 3 .i64 Try.underlying26 hi069 Ao70 t417.length co70 (t429.length : Int) (odT zA_) q69 hroom69
    have hr69 := Kd.C_take (m := ((t429.length : Int) : Int).toNat) hC69 (by omega)
    have hy69 : y439.length = ((t429.length : Int) : Int).toNat := (by rw [Ny439.out,List.length_take];omega)
    rw [← Ny439.out] at hr69
    rw [← hy69] at hcut69
    have HR442 := As_ hr69
    have HC442 := As_ (show y439.length ≤ co70 from by omega)
    clear hr69 hC69 hroom69 hi069 hsz69
    have KY69 := As_ hy69
    clear hy69
    have KL69 := As_ (show ((t429.length : Int) : Int).toNat ≤ t417.length from by omega)
    replace q69 := eq_true q69
    try go_wp2_with (first|((with_reducible refine gate_callee (f := 13) rfl ?_);refine goesL_ (some 56) rfl rfl Try.func13 (by kernel_rfl) rfl #[.slice Ao70 y439.length co70,.slice Ao68 t429.length co68] rfl zM_ ?_;(with_reducible refine (laws_equalInts.calls kj4 _ _ y439 _ _ t429 false _ ?side1 ?side2 ?side3 ?side4 A38.out).mono ?_);(case side1 => repeat (first|exact (by repeat (first|(with_reducible exact HR442.out)|(with_reducible refine Kd.C_alloc ?_ _)|(with_reducible refine Kd.C_drewN ?_ _)|(with_reducible refine Kd.C_drew ?_)|exact HR442.out))|(with_reducible refine Kd.C_alloc ?_ _)|(with_reducible refine Kd.C_drewN ?_ _)|(with_reducible refine Kd.C_drew ?_)));(case side2 => exact HC442.out);(case side3 => exact zC_ (Kd.R_reads' HO431.out).2.2);(case side4 => exact (Kd.R_reads' HO431.out).2.1);rintro e w' ⟨rfl,⟨nd,rfl⟩⟩;refine ⟨_,rfl,?_⟩))
    go_ret
    exact ⟨by first|rfl|(simp [errW_none,errW_some] <;> rfl)|(simp only [← hji32];first|rfl|(simp [errW_none,errW_some] <;> rfl))|(simp [*,errW_none,errW_some] <;> rfl),zb1 HB.out GE416.out⟩

   subst c39
   have H1 : (if (t436.length : Int) ≤ (t417.length : Int) then (if 0 ≤ (t436.length : Int) then ((laws_equalInts.f kj4 (t417.take ((t436.length : Int) : Int).toNat) t436).bind fun t448 => (some t448)) else (none)) else (some false)) = some r := by rw [if_pos rfl] at H;exact H
   clear H
   have H := H1
   clear H1
   by_cases c40 : (t436.length : Int) ≤ (t417.length : Int)
   rotate_left
   ·rw [if_neg c40] at H
    have c40b0 : decide ((t436.length : Int) ≤ (t417.length : Int)) = false := deF c40
    have c40b1 : decide (t436.length ≤ t417.length) = false := deF (fun h => c40 (Int.ofNat_le.mpr h))
    clear c40
    obtain rfl := Option.some.inj H
    try go_wp2
    have n0_ := As_ (Kd.R_drew HO_4.out)
    have n1_ := As_ (Kd.R_drew HO_5.out)
    have n2_ := As_ (Kd.S_drew HO_417000.out)
    have n3_ := As_ (bkD BK416.out)
    have n4_ := As_ (bwD HB.out)
    clear HO_4 HO_5 HO_417000 BK416 HB
    revert n0_ n1_ n2_ n3_ n4_;intro HO_4 HO_5 HO_417000 BK416 HB
    have p428 : 0 ≤ (0 : Int) := (by omega)
    have q428 : 0 < (t413.length : Int) := odT zA_
    obtain ⟨ad428,e428,hx428_0⟩ := Kd.at_int (Kd.R_reads' HO_4.out).2.2 0 p428 q428
    cases e428
    have qi428 : (0 < t413.length) = True := eq_true (by omega)
    (try rw [show ((0 : Int)).toNat = 0 from rfl] at hx428_0)
    (try rw [Addr.add_zero'] at hx428_0)
    replace p428 := eq_true p428
    replace q428 := eq_true q428
    refine start_ (n := 8) (S := fun w' => w'.cell? ⟨gb416,0,none⟩ = some (.slice Ao8 t409.length co8) ∧ w'.cell? ⟨gb416,1,none⟩ = some (.int .i64 t412) ∧ w'.cell? ad428 = some (.int .i64 (rd t413 0))) (ds := []) (bl_ 0 8) (by kernel_rfl) rfl rfl ⟨(bkC BK416.out 0).trans rfl,(bkC BK416.out 1).trans rfl,hx428_0⟩ (fun hHeld => ?_);refine with_tabW laws_FnCodeMany.tab7 laws_FnCodeMany.bits7 (fun HT_ HW_ => ?_)
    generalize wc.drew = w54 at HO_4 HO_5 HO_417000 BK416 HB hx428_0 hHeld ⊢
    refine pQ 0 36 (bl_ 1 8) HT_ rfl ?_
    refine pQ 2 38 (bl_ 5 8) HT_ rfl ?_
    refine pQ 3 39 (bl_ 13 8) HT_ rfl ?_
    refine tP 1 37 (bl_ 15 8) ?_ HT_ HW_ rfl (.inl ⟨by rfl,?_⟩) hHeld ?_ ?_ ?_;rotate_left;(rintro w' ⟨s0,s1,s2⟩;go_simp;with_reducible rfl);rotate_left;(simp only [Act.put,sq_,i64_w,i32_w];rfl)
    refine tP 4 40 (bl_ 31 8) ?_ HT_ HW_ rfl (.inl ⟨by rfl,?_⟩) hHeld ?_ ?_ ?_;rotate_left;(rintro w' ⟨s0,s1,s2⟩;go_simp;with_reducible rfl);rotate_left;(simp only [Act.put,sq_,i64_w,i32_w];rfl)
    refine pQ 5 41 (bl_ 63 8) HT_ rfl ?_
    refine one_ (i := 6) (N := some 42) (bl_ 127 8) rfl rfl (one_of HT_.out (by kernel_rfl)) (by decide) (fun K hK => ?_)
    refine goes_ Try.func15 (by kernel_rfl) rfl #[.agg #[.slice Ao8 t409.length co8,.int .i64 (rd t413 0)]] (by rfl) rfl rfl zM_ ?_
    with_reducible refine (impl_CodeOf.calls kj4 _ _ t409 (rd t413 0) t429 _ ?side1 ?side2 A31.out).mono ?_
    (case side1 => exact zC_ (Kd.S_reads' HO_417000.out).2.2)
    (case side2 => exact (Kd.S_reads' HO_417000.out).2.1)
    rintro e w55 ⟨v430,rfl,ho0,hb⟩
    have HS2_ := (hb.cell (bwL _ _ (hHeld.2.2))).trans (hHeld.2.2)
    refine ⟨_,rfl,?_⟩
    have n0_ := As_ (Kd.R_elder' (zR_ HO_4.out) (Kd.R_base ho0) hb)
    have n1_ := As_ (Kd.R_elder' (zR_ HO_5.out) (Kd.R_base ho0) hb)
    have n2_ := As_ (Kd.S_elder' (zS_ HO_417000.out) (Kd.R_base ho0) hb)
    have n3_ := As_ (Kd.R_lower (Kd.R_new' (Kd.R_new' ho0 (Kd.R_lt (zR_ HO_4.out))) (Kd.R_lt (zR_ HO_5.out))) (bwZ (zb1 HB.out GE416.out)))
    have n4_ := As_ (zkb BK416.out hb)
    have n5_ := As_ (bwT (zb1 HB.out GE416.out) hb)
    clear HO_4 HO_5 HO_417000 BK416 HB
    revert n0_ n1_ n2_ n3_ n4_ n5_;intro HO_4 HO_5 HO_417000 HO431 BK416 HB
    refine hK.out _ _ ⟨(bkC BK416.out 0).trans rfl,(bkC BK416.out 1).trans rfl,HS2_⟩ (fun hHeld => ?_)
    clear hK K
    refine norm_ (a' := ?_) ?_ ?_
    rotate_left
    ·show Act.put _ (some 42) _ = _
     simp only [Act.put,sq_,i64_w,i32_w]
     rfl
    refine pQ 7 6 (bl_ 255 8) HT_ rfl ?_
    refine done_ (done_of HT_.out (by kernel_rfl)) ?_
    try go_wp2
    have n0_ := As_ (Kd.R_drew HO_4.out)
    have n1_ := As_ (Kd.R_drew HO_5.out)
    have n2_ := As_ (Kd.S_drew HO_417000.out)
    have n3_ := As_ (Kd.R_drew HO431.out)
    have n4_ := As_ (bkD BK416.out)
    have n5_ := As_ (bwD HB.out)
    clear HO_4 HO_5 HO_417000 HO431 BK416 HB
    revert n0_ n1_ n2_ n3_ n4_ n5_;intro HO_4 HO_5 HO_417000 HO431 BK416 HB
    have q57 : ((ji32) : Int) ≤ ((t413.length : Int) : Int) := odT zA_
    obtain ⟨i057,hi057,_,hsz57,_⟩ := info_parts info3
    have hroom57 : t413.length ≤ co10 := (Kd.R_reads' HO_4.out).2.1
    have hC57 : Kd.C (Kd.int .i64) _ (some ad428) t413.length t413 := (Kd.R_reads' HO_4.out).2.2
    have hcut57 := cut_to (P := Try.prog) 26 3 .i64 Try.underlying26 hi057 (some ad428) t413.length co10 (ji32) (odT zA_) q57 hroom57
    have hr57 := Kd.C_take (m := ((ji32) : Int).toNat) hC57 (by omega)
    have hy57 : y432.length = ((ji32) : Int).toNat := (by rw [Ny432.out,List.length_take];omega)
    rw [← Ny432.out] at hr57
    rw [← hy57] at hcut57
    have HR435 := As_ hr57
    have HC435 := As_ (show y432.length ≤ co10 from by omega)
    clear hr57 hC57 hroom57 hi057 hsz57
    have KY57 := As_ hy57
    clear hy57
    have KL57 := As_ (show ((ji32) : Int).toNat ≤ t413.length from by omega)
    replace q57 := eq_true q57
    refine start_ (n := 6) (S := fun w' => w'.cell? ⟨gb416,0,none⟩ = some (.slice Ao8 t409.length co8) ∧ w'.cell? ⟨gb416,1,none⟩ = some (.int .i64 t412)) (ds := []) (bl_ 0 6) (by kernel_rfl) rfl rfl ⟨(bkC BK416.out 0).trans rfl,(bkC BK416.out 1).trans rfl⟩ (fun hHeld => ?_)
    generalize w55.drew = w56 at HO_4 HO_5 HO_417000 HO431 BK416 HB HR435 hHeld ⊢
    refine pure_ (i := 1) (N := some 47) (v := ?_) (a' := ?_) (bl_ 2 6) rfl rfl (by kernel_rfl) (fun _ _ _ h => h) (Or.inl ⟨by rfl,?_⟩) ?_ ?_;rotate_left;(intro w';go_simp;with_reducible rfl);rotate_left;(simp only [Act.put,sq_,i64_w,i32_w];rfl)
    refine pure_ (i := 2) (N := some 48) (v := ?_) (a' := ?_) (bl_ 6 6) rfl rfl (by kernel_rfl) (fun _ _ _ h => h) (Or.inl ⟨by rfl,?_⟩) ?_ ?_;rotate_left;(intro w';go_simp;with_reducible rfl);rotate_left;(simp only [Act.put,sq_,i64_w,i32_w];rfl)
    refine pure_ (i := 3) (N := some 49) (v := ?_) (a' := ?_) (bl_ 14 6) rfl rfl (by kernel_rfl) (fun _ _ _ h => h) (Or.inl ⟨by rfl,?_⟩) ?_ ?_;rotate_left;(intro w';go_simp;with_reducible rfl);rotate_left;(simp only [Act.put,sq_,i64_w,i32_w];rfl)
    refine take_ (i := 0) (N := some 46) (v := ?_) (a' := ?_) (bl_ 15 6) rfl rfl (by kernel_rfl) (fun _ _ _ h => h) (Or.inl ⟨by rfl,?_⟩) hHeld ?_ ?_;rotate_left;(rintro w' ⟨s0,s1⟩;go_simp;with_reducible rfl);rotate_left;(simp only [Act.put,sq_,i64_w,i32_w];rfl)
    refine one_ (i := 4) (N := some 50) (bl_ 31 6) rfl rfl (by kernel_rfl) (by decide) (fun K hK => ?_)
    refine goes_ Try.func12 (by kernel_rfl) rfl #[.agg #[.slice Ao8 t409.length co8,.int .i64 t412],.slice (some ad428) y432.length co10] (by rfl) rfl rfl zM_ ?_
    with_reducible refine (impl_CodeMany.calls kj4 _ _ t409 t412 _ _ y432 t436 _ ?side1 ?side2 ?side3 ?side4 A35.out).mono ?_
    (case side1 => exact zC_ (Kd.S_reads' HO_417000.out).2.2)
    (case side2 => exact (Kd.S_reads' HO_417000.out).2.1)
    (case side3 => repeat (first|exact (by repeat (first|(with_reducible exact HR435.out)|(with_reducible refine Kd.C_alloc ?_ _)|(with_reducible refine Kd.C_drewN ?_ _)|(with_reducible refine Kd.C_drew ?_)|exact HR435.out))|(with_reducible refine Kd.C_alloc ?_ _)|(with_reducible refine Kd.C_drewN ?_ _)|(with_reducible refine Kd.C_drew ?_)))
    (case side4 => exact HC435.out)
    rintro e w58 ⟨v437,rfl,ho0,hb⟩
    refine ⟨_,rfl,?_⟩
    have n0_ := As_ (Kd.R_elder' (zR_ HO_4.out) (Kd.R_base ho0) hb)
    have n1_ := As_ (Kd.R_elder' (zR_ HO_5.out) (Kd.R_base ho0) hb)
    have n2_ := As_ (Kd.S_elder' (zS_ HO_417000.out) (Kd.R_base ho0) hb)
    have n3_ := As_ (Kd.R_elder' (zR_ HO431.out) (Kd.R_base ho0) hb)
    have n4_ := As_ (Kd.R_lower (Kd.R_new' (Kd.R_new' (Kd.R_new' ho0 (Kd.R_lt (zR_ HO_4.out))) (Kd.R_lt (zR_ HO_5.out))) (Kd.R_lt (zR_ HO431.out))) (bwZ (zb1 HB.out GE416.out)))
    have n5_ := As_ (zkb BK416.out hb)
    have n6_ := As_ (Kd.C_below (by repeat (first|(with_reducible exact HR435.out)|(with_reducible refine Kd.C_alloc ?_ _)|(with_reducible refine Kd.C_drewN ?_ _)|(with_reducible refine Kd.C_drew ?_)|exact HR435.out)) hb)
    have n7_ := As_ (bwT (zb1 HB.out GE416.out) hb)
    clear HO_4 HO_5 HO_417000 HO431 BK416 HR435 HB
    revert n0_ n1_ n2_ n3_ n4_ n5_ n6_ n7_;intro HO_4 HO_5 HO_417000 HO431 HO438 BK416 HR435 HB
    refine hK.out _ _ ⟨(bkC BK416.out 0).trans rfl,(bkC BK416.out 1).trans rfl⟩ (fun hHeld => ?_)
    clear hK K
    refine norm_ (a' := ?_) ?_ ?_
    rotate_left
    ·show Act.put _ (some 50) _ = _
     simp only [Act.put,sq_,i64_w,i32_w]
     rfl
    refine pure_ (i := 5) (N := some 8) (v := ?_) (a' := ?_) (bl_ 63 6) rfl rfl (by kernel_rfl) (fun _ _ _ h => h) (Or.inl ⟨by rfl,?_⟩) ?_ ?_;rotate_left;(intro w';go_simp;with_reducible rfl);rotate_left;(simp only [Act.put,sq_,i64_w,i32_w];rfl)
    refine done_ (by kernel_rfl) ?_
    obtain ⟨Ao59,co59,eo59⟩ := Kd.R_slice HO431.out
    subst eo59
    obtain ⟨Ao61,co61,eo61⟩ := Kd.R_slice HO_5.out
    subst eo61
    have q60 : ((t429.length : Int) : Int) ≤ ((t417.length : Int) : Int) := odT zA_
    obtain ⟨i060,hi060,_,hsz60,_⟩ := info_parts info3
    have hroom60 : t417.length ≤ co61 := (Kd.R_reads' HO_5.out).2.1
    have hC60 : Kd.C (Kd.int .i64) _ Ao61 t417.length t417 := (Kd.R_reads' HO_5.out).2.2
    have hcut60 := cut_to (P := Try.prog) 26 3 .i64 Try.underlying26 hi060 Ao61 t417.length co61 (t429.length : Int) (odT zA_) q60 hroom60
    have hr60 := Kd.C_take (m := ((t429.length : Int) : Int).toNat) hC60 (by omega)
    have hy60 : y439.length = ((t429.length : Int) : Int).toNat := (by rw [Ny439.out,List.length_take];omega)
    rw [← Ny439.out] at hr60
    rw [← hy60] at hcut60
    have HR442 := As_ hr60
    have HC442 := As_ (show y439.length ≤ co61 from by omega)
    clear hr60 hC60 hroom60 hi060 hsz60
    have KY60 := As_ hy60
    clear hy60
    have KL60 := As_ (show ((t429.length : Int) : Int).toNat ≤ t417.length from by omega)
    replace q60 := eq_true q60
    try go_wp2_with (first|((with_reducible refine gate_callee (f := 13) rfl ?_);refine goesL_ (some 56) rfl rfl Try.func13 (by kernel_rfl) rfl #[.slice Ao61 y439.length co61,.slice Ao59 t429.length co59] rfl zM_ ?_;(with_reducible refine (laws_equalInts.calls kj4 _ _ y439 _ _ t429 true _ ?side1 ?side2 ?side3 ?side4 A38.out).mono ?_);(case side1 => repeat (first|exact (by repeat (first|(with_reducible exact HR442.out)|(with_reducible refine Kd.C_alloc ?_ _)|(with_reducible refine Kd.C_drewN ?_ _)|(with_reducible refine Kd.C_drew ?_)|exact HR442.out))|(with_reducible refine Kd.C_alloc ?_ _)|(with_reducible refine Kd.C_drewN ?_ _)|(with_reducible refine Kd.C_drew ?_)));(case side2 => exact HC442.out);(case side3 => exact zC_ (Kd.R_reads' HO431.out).2.2);(case side4 => exact (Kd.R_reads' HO431.out).2.1);rintro e w' ⟨rfl,⟨nd,rfl⟩⟩;refine ⟨_,rfl,?_⟩;obtain ⟨Ao62,co62,eo62⟩ := Kd.R_slice HO438.out;subst eo62))
    go_ret
    exact ⟨by first|rfl|(simp [errW_none,errW_some] <;> rfl)|(simp only [← hji32];first|rfl|(simp [errW_none,errW_some] <;> rfl))|(simp [*,errW_none,errW_some] <;> rfl),zb1 HB.out GE416.out⟩
   rw [if_pos c40] at H
   have c40b0 : decide ((t436.length : Int) ≤ (t417.length : Int)) = true := deT c40
   have c40b1 : decide (t436.length ≤ t417.length) = true := deT (Int.ofNat_le.mp c40)
   clear c40
   by_cases c41 : 0 ≤ (t436.length : Int)
   rotate_left
   ·rw [if_neg c41] at H
    exact absurd H (by simp)
   rw [if_pos c41] at H
   have c41b0 := eq_true c41
   have c41b1 : decide (0 ≤ (t436.length : Int)) = true := deT c41
   clear c41
   have c42b0 := eq_true (odT zA_ : (t436.length : Int) ≤ (t417.length : Int))
   obtain ⟨y444,hy444⟩ : ∃ y_ : List Int,y_ = (t417.take ((t436.length : Int) : Int).toNat) := ⟨_,rfl⟩
   replace H : ((laws_equalInts.f kj4 y444 t436).bind fun t448 => (some t448)) = some r := zH_ H hy444
   have Ny444 := As_ hy444
   clear hy444
   replace H := obS H
   obtain ⟨t448,A430,H⟩ := H
   replace H : (some t448) = some r := H
   have A43 := As_ A430
   clear A430
   obtain rfl := Option.some.inj H
   try go_wp2
   have n0_ := As_ (Kd.R_drew HO_4.out)
   have n1_ := As_ (Kd.R_drew HO_5.out)
   have n2_ := As_ (Kd.S_drew HO_417000.out)
   have n3_ := As_ (bkD BK416.out)
   have n4_ := As_ (bwD HB.out)
   clear HO_4 HO_5 HO_417000 BK416 HB
   revert n0_ n1_ n2_ n3_ n4_;intro HO_4 HO_5 HO_417000 BK416 HB
   have p428 : 0 ≤ (0 : Int) := (by omega)
   have q428 : 0 < (t413.length : Int) := odT zA_
   obtain ⟨ad428,e428,hx428_0⟩ := Kd.at_int (Kd.R_reads' HO_4.out).2.2 0 p428 q428
   cases e428
   have qi428 : (0 < t413.length) = True := eq_true (by omega)
   (try rw [show ((0 : Int)).toNat = 0 from rfl] at hx428_0)
   (try rw [Addr.add_zero'] at hx428_0)
   replace p428 := eq_true p428
   replace q428 := eq_true q428
   refine start_ (n := 8) (S := fun w' => w'.cell? ⟨gb416,0,none⟩ = some (.slice Ao8 t409.length co8) ∧ w'.cell? ⟨gb416,1,none⟩ = some (.int .i64 t412) ∧ w'.cell? ad428 = some (.int .i64 (rd t413 0))) (ds := []) (bl_ 0 8) (by kernel_rfl) rfl rfl ⟨(bkC BK416.out 0).trans rfl,(bkC BK416.out 1).trans rfl,hx428_0⟩ (fun hHeld => ?_);refine with_tabW laws_FnCodeMany.tab7 laws_FnCodeMany.bits7 (fun HT_ HW_ => ?_)
   generalize wc.drew = w44 at HO_4 HO_5 HO_417000 BK416 HB hx428_0 hHeld ⊢
   refine pQ 0 36 (bl_ 1 8) HT_ rfl ?_
   refine pQ 2 38 (bl_ 5 8) HT_ rfl ?_
   refine pQ 3 39 (bl_ 13 8) HT_ rfl ?_
   refine tP 1 37 (bl_ 15 8) ?_ HT_ HW_ rfl (.inl ⟨by rfl,?_⟩) hHeld ?_ ?_ ?_;rotate_left;(rintro w' ⟨s0,s1,s2⟩;go_simp;with_reducible rfl);rotate_left;(simp only [Act.put,sq_,i64_w,i32_w];rfl)
   refine tP 4 40 (bl_ 31 8) ?_ HT_ HW_ rfl (.inl ⟨by rfl,?_⟩) hHeld ?_ ?_ ?_;rotate_left;(rintro w' ⟨s0,s1,s2⟩;go_simp;with_reducible rfl);rotate_left;(simp only [Act.put,sq_,i64_w,i32_w];rfl)
   refine pQ 5 41 (bl_ 63 8) HT_ rfl ?_
   refine one_ (i := 6) (N := some 42) (bl_ 127 8) rfl rfl (one_of HT_.out (by kernel_rfl)) (by decide) (fun K hK => ?_)
   refine goes_ Try.func15 (by kernel_rfl) rfl #[.agg #[.slice Ao8 t409.length co8,.int .i64 (rd t413 0)]] (by rfl) rfl rfl zM_ ?_
   with_reducible refine (impl_CodeOf.calls kj4 _ _ t409 (rd t413 0) t429 _ ?side1 ?side2 A31.out).mono ?_
   (case side1 => exact zC_ (Kd.S_reads' HO_417000.out).2.2)
   (case side2 => exact (Kd.S_reads' HO_417000.out).2.1)
   rintro e w45 ⟨v430,rfl,ho0,hb⟩
   have HS2_ := (hb.cell (bwL _ _ (hHeld.2.2))).trans (hHeld.2.2)
   refine ⟨_,rfl,?_⟩
   have n0_ := As_ (Kd.R_elder' (zR_ HO_4.out) (Kd.R_base ho0) hb)
   have n1_ := As_ (Kd.R_elder' (zR_ HO_5.out) (Kd.R_base ho0) hb)
   have n2_ := As_ (Kd.S_elder' (zS_ HO_417000.out) (Kd.R_base ho0) hb)
   have n3_ := As_ (Kd.R_lower (Kd.R_new' (Kd.R_new' ho0 (Kd.R_lt (zR_ HO_4.out))) (Kd.R_lt (zR_ HO_5.out))) (bwZ (zb1 HB.out GE416.out)))
   have n4_ := As_ (zkb BK416.out hb)
   have n5_ := As_ (bwT (zb1 HB.out GE416.out) hb)
   clear HO_4 HO_5 HO_417000 BK416 HB
   revert n0_ n1_ n2_ n3_ n4_ n5_;intro HO_4 HO_5 HO_417000 HO431 BK416 HB
   refine hK.out _ _ ⟨(bkC BK416.out 0).trans rfl,(bkC BK416.out 1).trans rfl,HS2_⟩ (fun hHeld => ?_)
   clear hK K
   refine norm_ (a' := ?_) ?_ ?_
   rotate_left
   ·show Act.put _ (some 42) _ = _
    simp only [Act.put,sq_,i64_w,i32_w]
    rfl
   refine pQ 7 6 (bl_ 255 8) HT_ rfl ?_
   refine done_ (done_of HT_.out (by kernel_rfl)) ?_
   try go_wp2
   have n0_ := As_ (Kd.R_drew HO_4.out)
   have n1_ := As_ (Kd.R_drew HO_5.out)
   have n2_ := As_ (Kd.S_drew HO_417000.out)
   have n3_ := As_ (Kd.R_drew HO431.out)
   have n4_ := As_ (bkD BK416.out)
   have n5_ := As_ (bwD HB.out)
   clear HO_4 HO_5 HO_417000 HO431 BK416 HB
   revert n0_ n1_ n2_ n3_ n4_ n5_;intro HO_4 HO_5 HO_417000 HO431 BK416 HB
   have q47 : ((ji32) : Int) ≤ ((t413.length : Int) : Int) := odT zA_
   obtain ⟨i047,hi047,_,hsz47,_⟩ := info_parts info3
   have hroom47 : t413.length ≤ co10 := (Kd.R_reads' HO_4.out).2.1
   have hC47 : Kd.C (Kd.int .i64) _ (some ad428) t413.length t413 := (Kd.R_reads' HO_4.out).2.2
   have hcut47 := cut_to (P := Try.prog) 26 3 .i64 Try.underlying26 hi047 (some ad428) t413.length co10 (ji32) (odT zA_) q47 hroom47
   have hr47 := Kd.C_take (m := ((ji32) : Int).toNat) hC47 (by omega)
   have hy47 : y432.length = ((ji32) : Int).toNat := (by rw [Ny432.out,List.length_take];omega)
   rw [← Ny432.out] at hr47
   rw [← hy47] at hcut47
   have HR435 := As_ hr47
   have HC435 := As_ (show y432.length ≤ co10 from by omega)
   clear hr47 hC47 hroom47 hi047 hsz47
   have KY47 := As_ hy47
   clear hy47
   have KL47 := As_ (show ((ji32) : Int).toNat ≤ t413.length from by omega)
   replace q47 := eq_true q47
   refine start_ (n := 6) (S := fun w' => w'.cell? ⟨gb416,0,none⟩ = some (.slice Ao8 t409.length co8) ∧ w'.cell? ⟨gb416,1,none⟩ = some (.int .i64 t412)) (ds := []) (bl_ 0 6) (by kernel_rfl) rfl rfl ⟨(bkC BK416.out 0).trans rfl,(bkC BK416.out 1).trans rfl⟩ (fun hHeld => ?_)
   generalize w45.drew = w46 at HO_4 HO_5 HO_417000 HO431 BK416 HB HR435 hHeld ⊢
   refine pure_ (i := 1) (N := some 47) (v := ?_) (a' := ?_) (bl_ 2 6) rfl rfl (by kernel_rfl) (fun _ _ _ h => h) (Or.inl ⟨by rfl,?_⟩) ?_ ?_;rotate_left;(intro w';go_simp;with_reducible rfl);rotate_left;(simp only [Act.put,sq_,i64_w,i32_w];rfl)
   refine pure_ (i := 2) (N := some 48) (v := ?_) (a' := ?_) (bl_ 6 6) rfl rfl (by kernel_rfl) (fun _ _ _ h => h) (Or.inl ⟨by rfl,?_⟩) ?_ ?_;rotate_left;(intro w';go_simp;with_reducible rfl);rotate_left;(simp only [Act.put,sq_,i64_w,i32_w];rfl)
   refine pure_ (i := 3) (N := some 49) (v := ?_) (a' := ?_) (bl_ 14 6) rfl rfl (by kernel_rfl) (fun _ _ _ h => h) (Or.inl ⟨by rfl,?_⟩) ?_ ?_;rotate_left;(intro w';go_simp;with_reducible rfl);rotate_left;(simp only [Act.put,sq_,i64_w,i32_w];rfl)
   refine take_ (i := 0) (N := some 46) (v := ?_) (a' := ?_) (bl_ 15 6) rfl rfl (by kernel_rfl) (fun _ _ _ h => h) (Or.inl ⟨by rfl,?_⟩) hHeld ?_ ?_;rotate_left;(rintro w' ⟨s0,s1⟩;go_simp;with_reducible rfl);rotate_left;(simp only [Act.put,sq_,i64_w,i32_w];rfl)
   refine one_ (i := 4) (N := some 50) (bl_ 31 6) rfl rfl (by kernel_rfl) (by decide) (fun K hK => ?_)
   refine goes_ Try.func12 (by kernel_rfl) rfl #[.agg #[.slice Ao8 t409.length co8,.int .i64 t412],.slice (some ad428) y432.length co10] (by rfl) rfl rfl zM_ ?_
   with_reducible refine (impl_CodeMany.calls kj4 _ _ t409 t412 _ _ y432 t436 _ ?side1 ?side2 ?side3 ?side4 A35.out).mono ?_
   (case side1 => exact zC_ (Kd.S_reads' HO_417000.out).2.2)
   (case side2 => exact (Kd.S_reads' HO_417000.out).2.1)
   (case side3 => repeat (first|exact (by repeat (first|(with_reducible exact HR435.out)|(with_reducible refine Kd.C_alloc ?_ _)|(with_reducible refine Kd.C_drewN ?_ _)|(with_reducible refine Kd.C_drew ?_)|exact HR435.out))|(with_reducible refine Kd.C_alloc ?_ _)|(with_reducible refine Kd.C_drewN ?_ _)|(with_reducible refine Kd.C_drew ?_)))
   (case side4 => exact HC435.out)
   rintro e w48 ⟨v437,rfl,ho0,hb⟩
   refine ⟨_,rfl,?_⟩
   have n0_ := As_ (Kd.R_elder' (zR_ HO_4.out) (Kd.R_base ho0) hb)
   have n1_ := As_ (Kd.R_elder' (zR_ HO_5.out) (Kd.R_base ho0) hb)
   have n2_ := As_ (Kd.S_elder' (zS_ HO_417000.out) (Kd.R_base ho0) hb)
   have n3_ := As_ (Kd.R_elder' (zR_ HO431.out) (Kd.R_base ho0) hb)
   have n4_ := As_ (Kd.R_lower (Kd.R_new' (Kd.R_new' (Kd.R_new' ho0 (Kd.R_lt (zR_ HO_4.out))) (Kd.R_lt (zR_ HO_5.out))) (Kd.R_lt (zR_ HO431.out))) (bwZ (zb1 HB.out GE416.out)))
   have n5_ := As_ (zkb BK416.out hb)
   have n6_ := As_ (Kd.C_below (by repeat (first|(with_reducible exact HR435.out)|(with_reducible refine Kd.C_alloc ?_ _)|(with_reducible refine Kd.C_drewN ?_ _)|(with_reducible refine Kd.C_drew ?_)|exact HR435.out)) hb)
   have n7_ := As_ (bwT (zb1 HB.out GE416.out) hb)
   clear HO_4 HO_5 HO_417000 HO431 BK416 HR435 HB
   revert n0_ n1_ n2_ n3_ n4_ n5_ n6_ n7_;intro HO_4 HO_5 HO_417000 HO431 HO438 BK416 HR435 HB
   refine hK.out _ _ ⟨(bkC BK416.out 0).trans rfl,(bkC BK416.out 1).trans rfl⟩ (fun hHeld => ?_)
   clear hK K
   refine norm_ (a' := ?_) ?_ ?_
   rotate_left
   ·show Act.put _ (some 50) _ = _
    simp only [Act.put,sq_,i64_w,i32_w]
    rfl
   refine pure_ (i := 5) (N := some 8) (v := ?_) (a' := ?_) (bl_ 63 6) rfl rfl (by kernel_rfl) (fun _ _ _ h => h) (Or.inl ⟨by rfl,?_⟩) ?_ ?_;rotate_left;(intro w';go_simp;with_reducible rfl);rotate_left;(simp only [Act.put,sq_,i64_w,i32_w];rfl)
   refine done_ (by kernel_rfl) ?_
   obtain ⟨Ao49,co49,eo49⟩ := Kd.R_slice HO431.out
   subst eo49
   obtain ⟨Ao51,co51,eo51⟩ := Kd.R_slice HO_5.out
   subst eo51
   have q50 : ((t429.length : Int) : Int) ≤ ((t417.length : Int) : Int) := odT zA_
   obtain ⟨i050,hi050,_,hsz50,_⟩ := info_parts info3
   have hroom50 : t417.length ≤ co51 := (Kd.R_reads' HO_5.out).2.1
   have hC50 : Kd.C (Kd.int .i64) _ Ao51 t417.length t417 := (Kd.R_reads' HO_5.out).2.2
   have hcut50 := cut_to (P := Try.prog) 26 3 .i64 Try.underlying26 hi050 Ao51 t417.length co51 (t429.length : Int) (odT zA_) q50 hroom50
   have hr50 := Kd.C_take (m := ((t429.length : Int) : Int).toNat) hC50 (by omega)
   have hy50 : y439.length = ((t429.length : Int) : Int).toNat := (by rw [Ny439.out,List.length_take];omega)
   rw [← Ny439.out] at hr50
   rw [← hy50] at hcut50
   have HR442 := As_ hr50
   have HC442 := As_ (show y439.length ≤ co51 from by omega)
   clear hr50 hC50 hroom50 hi050 hsz50
   have KY50 := As_ hy50
   clear hy50
   have KL50 := As_ (show ((t429.length : Int) : Int).toNat ≤ t417.length from by omega)
   replace q50 := eq_true q50
   try go_wp2_with (first|((with_reducible refine gate_callee (f := 13) rfl ?_);refine goesL_ (some 56) rfl rfl Try.func13 (by kernel_rfl) rfl #[.slice Ao51 y439.length co51,.slice Ao49 t429.length co49] rfl zM_ ?_;(with_reducible refine (laws_equalInts.calls kj4 _ _ y439 _ _ t429 true _ ?side1 ?side2 ?side3 ?side4 A38.out).mono ?_);(case side1 => repeat (first|exact (by repeat (first|(with_reducible exact HR442.out)|(with_reducible refine Kd.C_alloc ?_ _)|(with_reducible refine Kd.C_drewN ?_ _)|(with_reducible refine Kd.C_drew ?_)|exact HR442.out))|(with_reducible refine Kd.C_alloc ?_ _)|(with_reducible refine Kd.C_drewN ?_ _)|(with_reducible refine Kd.C_drew ?_)));(case side2 => exact HC442.out);(case side3 => exact zC_ (Kd.R_reads' HO431.out).2.2);(case side4 => exact (Kd.R_reads' HO431.out).2.1);rintro e w' ⟨rfl,⟨nd,rfl⟩⟩;refine ⟨_,rfl,?_⟩;obtain ⟨Ao52,co52,eo52⟩ := Kd.R_slice HO438.out;subst eo52;have q53 : ((t436.length : Int) : Int) ≤ ((t417.length : Int) : Int) := odT zA_;obtain ⟨i053,hi053,_,hsz53,_⟩ := info_parts info3;have hroom53 : t417.length ≤ co51 := (Kd.R_reads' HO_5.out).2.1;have hC53 : Kd.C (Kd.int .i64) _ Ao51 t417.length t417 := (Kd.R_reads' HO_5.out).2.2;have hcut53 := cut_to (P := Try.prog) 26 3 .i64 Try.underlying26 hi053 Ao51 t417.length co51 (t436.length : Int) (odT zA_) q53 hroom53;have hr53 := Kd.C_take (m := ((t436.length : Int) : Int).toNat) hC53 (by omega);have hy53 : y444.length = ((t436.length : Int) : Int).toNat := (by rw [Ny444.out,List.length_take];omega);rw [← Ny444.out] at hr53;rw [← hy53] at hcut53;have HR447 := As_ hr53;have HC447 := As_ (show y444.length ≤ co51 from by omega);clear hr53 hC53 hroom53 hi053 hsz53;have KY53 := As_ hy53;clear hy53;have KL53 := As_ (show ((t436.length : Int) : Int).toNat ≤ t417.length from by omega);replace q53 := eq_true q53)|(go_at_call 13;(with_reducible refine (laws_equalInts.calls kj4 _ _ y444 _ _ t436 t448 _ ?side1 ?side2 ?side3 ?side4 A43.out).mono ?_);(case side1 => repeat (first|exact (by repeat (first|(with_reducible exact HR447.out)|(with_reducible refine Kd.C_alloc ?_ _)|(with_reducible refine Kd.C_drewN ?_ _)|(with_reducible refine Kd.C_drew ?_)|exact HR447.out))|(with_reducible refine Kd.C_alloc ?_ _)|(with_reducible refine Kd.C_drewN ?_ _)|(with_reducible refine Kd.C_drew ?_)));(case side2 => exact HC447.out);(case side3 => exact zC_ (Kd.R_reads' HO438.out).2.2);(case side4 => exact (Kd.R_reads' HO438.out).2.1);rintro e w' ⟨rfl,⟨nd,rfl⟩⟩))
   go_ret
   exact ⟨by first|rfl|(simp [errW_none,errW_some] <;> rfl)|(simp only [← hji32];first|rfl|(simp [errW_none,errW_some] <;> rfl))|(simp [*,errW_none,errW_some] <;> rfl),zb1 HB.out GE416.out⟩
/-- THE ONE PURE STATEMENT of laws_FnCodeMany: yours. -/
def laws_FnCodeMany.Pure : Prop := ∀ (l0 : List Int),l0.length ≤ maxLen → l0.length * 1 ≤ 140737488351232 → (∀ x ∈ l0,(Lit.int .u8 x).wf = true) → ∃ k,laws_FnCodeMany.f k l0 = some true
theorem laws_FnCodeMany.walk (P : laws_FnCodeMany.Pure) (a0 : Option Addr) (len0 cap0 : Nat) (z0 : List Int) (w : World) (w0 : (a0 = none ∧ len0 = 0 ∧ cap0 = 0 ∧ z0 = []) ∨ ∃ x,a0 = some x ∧ len0 ≤ cap0 ∧ cap0 ≤ maxLen ∧ z0.length = cap0 ∧ (∀ i,i < z0.length → w.cell? (x.add i) = some (.int .u8 (z0.getD i 0))) ∧ ∀ n ∈ z0,(Lit.int .u8 n).wf = true) (y0 : len0 * 1 ≤ 140737488351232) :
  Calls Try.prog 3 #[.slice a0 len0 cap0] w fun e w' => e = .returned (.bool true) ∧ Below w.heap.size w w' := by
 obtain ⟨l0,rfl,hr0,hm0,hw0,hc0⟩ := ReadsInt.ofRowC w0
 obtain ⟨k,h⟩ := P l0 hm0 y0 hw0
 refine (laws_FnCodeMany.calls k _ _ l0 true w (Kd.C_of_reads (d := (0 : Int)) (h1 := fun _ => rfl) hr0) hc0 h).mono ?_
 rintro e w' ⟨rfl,hd⟩
 exact ⟨rfl,hd⟩

end Go.Proofs.Ytapaegcombfafaa.Q
