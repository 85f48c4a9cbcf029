-- Written by wip/tools/qprint.py (a program of this claim's author) by means of the kit's printer.
import Derived.Test.YtapaegcombfafaaQ0
import Derived.Test.YtapaegcombfafaaQ13
import Derived.Test.YtapaegcombfafaaQ26
import Derived.Test.YtapaegcombfafaaQ27
import Derived.Test.YtapaegcombfafaaQ54
namespace Go.Proofs.Ytapaegcombfafaa.Q
open Go.RowKit Go.Proofs.YtapaegcombfafaaW.PrintWords Go.Proofs.YtapaegcombfafaaW.PrintLast Go.Proofs.YtapaegcombfafaaW.PrintMore
attribute [local go_sem] max2_int min2_int max_two min_two max_three min_three max_four min_four   -- for this text's walks alone
set_option linter.unusedVariables false
set_option linter.unusedSimpArgs false

/-! ### laws_FnClassesOf: function 6 -/
mutual
def laws_FnClassesOf.j0 : Nat → List Int → Bool → List (S58) → Int → Option (Bool)
 | 0,_,_,_,_ => none
 | k + 1,x4,x25,x775000,x775001 => if x25 = true then ((spec_ClassesOf.f k x775000 x775001).bind fun t782 => ((laws_equalInts.f k x4 t782).bind fun t785 => (some t785))) else (laws_FnClassesOf.l0 k x4 0 x775000 x775001)
def laws_FnClassesOf.l0 : Nat → List Int → Int → List (S58) → Int → Option (Bool)
 | 0,_,_,_,_ => none
 | k + 1,x4,x5,x775000,x775001 => if x5 < (x4.length : Int) then (laws_FnClassesOf.l1 k x4 x5 0 x775000 x775001) else (some true)
def laws_FnClassesOf.l1 : Nat → List Int → Int → Int → List (S58) → Int → Option (Bool)
 | 0,_,_,_,_,_ => none
 | k + 1,x4,x5,x6,x775000,x775001 => if x6 < x5 then (if 0 ≤ x5 then (if x5 < (x4.length : Int) then (if 0 ≤ x6 then (if x6 < (x4.length : Int) then ((impl_EqualDeep.f k x775000 x5 x775000 x6).bind fun t790 => (if (((rd x4 x5) == (rd x4 x6)) != t790) = true then (some false) else (laws_FnClassesOf.l1 k x4 x5 (wrap64 (x6 + 1)) x775000 x775001))) else (none)) else (none)) else (none)) else (none)) else (if 0 ≤ x5 then (if x5 < (x4.length : Int) then (if (rd x4 x5) > x5 then (some false) else (if 0 ≤ (rd x4 x5) then (if (rd x4 x5) < (x4.length : Int) then (if (rd x4 (rd x4 x5)) = (rd x4 x5) then (laws_FnClassesOf.l0 k x4 (wrap64 (x5 + 1)) x775000 x775001) else (some false)) else (none)) else (none))) else (none)) else (none))
end
def laws_FnClassesOf.f (k : Nat) (l0 : List Int) : Option (Bool) := if (l0.length : Int) > 1048576 then (some true) else ((spec_DrawClassesOf.f k l0).bind fun bt770 => ((impl_ClassesOf.f k bt770.1 bt770.2).bind fun t775 => ((spec_ClassesOf.f k bt770.1 bt770.2).bind fun t778 => ((laws_equalInts.f k t775 t778).bind fun t781 => (if t781 = true then (laws_FnClassesOf.j0 k t775 ((t775.length : Int) == 0) bt770.1 bt770.2) else (laws_FnClassesOf.j0 k t775 true bt770.1 bt770.2))))))
set_option maxRecDepth 100000 in
theorem laws_FnClassesOf.mono_l : ∀ k,(∀ y0 y1 y2 y3,LeO (laws_FnClassesOf.j0 k y0 y1 y2 y3) (laws_FnClassesOf.j0 (k + 1) y0 y1 y2 y3)) ∧ (∀ y0 y1 y2 y3,LeO (laws_FnClassesOf.l0 k y0 y1 y2 y3) (laws_FnClassesOf.l0 (k + 1) y0 y1 y2 y3)) ∧ (∀ y0 y1 y2 y3 y4,LeO (laws_FnClassesOf.l1 k y0 y1 y2 y3 y4) (laws_FnClassesOf.l1 (k + 1) y0 y1 y2 y3 y4))
 | 0 => ⟨fun _ _ _ _ r h => (by cases h),fun _ _ _ _ r h => (by cases h),fun _ _ _ _ _ r h => (by cases h)⟩
 | k + 1 => by
  obtain ⟨ih0,ih1,ih2⟩ := laws_FnClassesOf.mono_l k
  refine ⟨?_,?_,?_⟩
  ·intro y0 y1 y2 y3
   unfold laws_FnClassesOf.j0
   repeat' first
   | (with_reducible exact ih0 _ _ _ _)
   | (with_reducible exact ih1 _ _ _ _)
   | (with_reducible exact ih2 _ _ _ _ _)
   | (with_reducible exact impl_ClassesOf.mono _ _ _)
   | (with_reducible exact impl_EqualDeep.mono _ _ _ _ _)
   | (with_reducible exact laws_equalInts.mono _ _ _)
   | (with_reducible exact spec_ClassesOf.mono _ _ _)
   | (with_reducible exact spec_DrawClassesOf.mono _ _)
   | (with_reducible exact LeO.refl _)
   | (with_reducible exact LeO.none _)
   | (with_reducible refine LeO.ite ?_ ?_)
   | (with_reducible refine LeO.bind ?_ (fun _ => ?_))
   | exact ih0 _ _ _ _
   | exact ih1 _ _ _ _
   | exact ih2 _ _ _ _ _
   | exact impl_ClassesOf.mono _ _ _
   | exact impl_EqualDeep.mono _ _ _ _ _
   | exact laws_equalInts.mono _ _ _
   | exact spec_ClassesOf.mono _ _ _
   | exact spec_DrawClassesOf.mono _ _
   | exact LeO.none _
   | refine LeO.ite ?_ ?_
   | refine LeO.bind ?_ (fun _ => ?_)
  ·intro y0 y1 y2 y3
   unfold laws_FnClassesOf.l0
   repeat' first
   | (with_reducible exact ih0 _ _ _ _)
   | (with_reducible exact ih1 _ _ _ _)
   | (with_reducible exact ih2 _ _ _ _ _)
   | (with_reducible exact impl_ClassesOf.mono _ _ _)
   | (with_reducible exact impl_EqualDeep.mono _ _ _ _ _)
   | (with_reducible exact laws_equalInts.mono _ _ _)
   | (with_reducible exact spec_ClassesOf.mono _ _ _)
   | (with_reducible exact spec_DrawClassesOf.mono _ _)
   | (with_reducible exact LeO.refl _)
   | (with_reducible exact LeO.none _)
   | (with_reducible refine LeO.ite ?_ ?_)
   | (with_reducible refine LeO.bind ?_ (fun _ => ?_))
   | exact ih0 _ _ _ _
   | exact ih1 _ _ _ _
   | exact ih2 _ _ _ _ _
   | exact impl_ClassesOf.mono _ _ _
   | exact impl_EqualDeep.mono _ _ _ _ _
   | exact laws_equalInts.mono _ _ _
   | exact spec_ClassesOf.mono _ _ _
   | exact spec_DrawClassesOf.mono _ _
   | exact LeO.none _
   | refine LeO.ite ?_ ?_
   | refine LeO.bind ?_ (fun _ => ?_)
  ·intro y0 y1 y2 y3 y4
   unfold laws_FnClassesOf.l1
   repeat' first
   | (with_reducible exact ih0 _ _ _ _)
   | (with_reducible exact ih1 _ _ _ _)
   | (with_reducible exact ih2 _ _ _ _ _)
   | (with_reducible exact impl_ClassesOf.mono _ _ _)
   | (with_reducible exact impl_EqualDeep.mono _ _ _ _ _)
   | (with_reducible exact laws_equalInts.mono _ _ _)
   | (with_reducible exact spec_ClassesOf.mono _ _ _)
   | (with_reducible exact spec_DrawClassesOf.mono _ _)
   | (with_reducible exact LeO.refl _)
   | (with_reducible exact LeO.none _)
   | (with_reducible refine LeO.ite ?_ ?_)
   | (with_reducible refine LeO.bind ?_ (fun _ => ?_))
   | exact ih0 _ _ _ _
   | exact ih1 _ _ _ _
   | exact ih2 _ _ _ _ _
   | exact impl_ClassesOf.mono _ _ _
   | exact impl_EqualDeep.mono _ _ _ _ _
   | exact laws_equalInts.mono _ _ _
   | exact spec_ClassesOf.mono _ _ _
   | exact spec_DrawClassesOf.mono _ _
   | exact LeO.none _
   | refine LeO.ite ?_ ?_
   | refine LeO.bind ?_ (fun _ => ?_)
set_option maxRecDepth 100000 in
theorem laws_FnClassesOf.mono : ∀ a0 k,LeO (laws_FnClassesOf.f k a0) (laws_FnClassesOf.f (k + 1) a0) := by
 intro a0 k
 obtain ⟨ih0,ih1,ih2⟩ := laws_FnClassesOf.mono_l k
 unfold laws_FnClassesOf.f
 repeat' first
   | (with_reducible exact ih0 _ _ _ _)
   | (with_reducible exact ih1 _ _ _ _)
   | (with_reducible exact ih2 _ _ _ _ _)
   | (with_reducible exact impl_ClassesOf.mono _ _ _)
   | (with_reducible exact impl_EqualDeep.mono _ _ _ _ _)
   | (with_reducible exact laws_equalInts.mono _ _ _)
   | (with_reducible exact spec_ClassesOf.mono _ _ _)
   | (with_reducible exact spec_DrawClassesOf.mono _ _)
   | (with_reducible exact LeO.refl _)
   | (with_reducible exact LeO.none _)
   | (with_reducible refine LeO.ite ?_ ?_)
   | (with_reducible refine LeO.bind ?_ (fun _ => ?_))
   | exact ih0 _ _ _ _
   | exact ih1 _ _ _ _
   | exact ih2 _ _ _ _ _
   | exact impl_ClassesOf.mono _ _ _
   | exact impl_EqualDeep.mono _ _ _ _ _
   | exact laws_equalInts.mono _ _ _
   | exact spec_ClassesOf.mono _ _ _
   | exact spec_DrawClassesOf.mono _ _
   | exact LeO.none _
   | refine LeO.ite ?_ ?_
   | refine LeO.bind ?_ (fun _ => ?_)
def laws_FnClassesOf.T15 : Bool × List (List Nat × List Nat) := (true,[([],[]),([],[]),([0,1],[0,1]),([2],[2]),([],[]),([],[]),([4,5],[4,5]),([6],[6]),([3,7],[3,7]),([],[]),([],[]),([9,10],[9,10]),([8,11],[8,11])])
def laws_FnClassesOf.B15 : List Nat := [0,0,3,7,0,0,48,112,255,0,0,1536,4095]
theorem laws_FnClassesOf.tab15 : rtab .any (opsOf Try.f6 15) = laws_FnClassesOf.T15 := by kernel_rfl
theorem laws_FnClassesOf.bits15 : waitsOk laws_FnClassesOf.T15.2 laws_FnClassesOf.B15 = true := by kernel_rfl
def laws_FnClassesOf.T17 : Bool × List (List Nat × List Nat) := (true,[([],[]),([],[]),([0,1],[0,1]),([2],[2]),([],[]),([3,4],[3,4]),([5],[5]),([6],[6]),([6],[6]),([6],[6]),([8,9,6],[6,8,9]),([10,6],[6,10]),([7,11,6],[6,7,11]),([12,6],[6,12]),([6],[6]),([6],[6]),([14,15,6],[6,14,15]),([16,6],[6,16]),([13,17,6],[6,13,17]),([6,18],[6,18])])
def laws_FnClassesOf.B17 : List Nat := [0,0,3,7,0,31,63,127,127,127,895,1919,4095,8191,127,127,49279,114815,262143,524287]
theorem laws_FnClassesOf.tab17 : rtab .any (opsOf Try.f6 17) = laws_FnClassesOf.T17 := by kernel_rfl
theorem laws_FnClassesOf.bits17 : waitsOk laws_FnClassesOf.T17.2 laws_FnClassesOf.B17 = true := by kernel_rfl
set_option maxHeartbeats 8000000 in
set_option maxRecDepth 100000 in
theorem laws_FnClassesOf.calls (k : Nat) (A0 : Option Addr) (c0 : Nat) (l0 : List Int) (r : Bool) (w : World) (hr0 : Kd.C (Kd.int .u8) w A0 l0.length l0) (hc0 : l0.length ≤ c0) (h : laws_FnClassesOf.f k l0 = some r) :
  Calls Try.prog 6 #[.slice A0 l0.length c0] w fun e w' => e = .returned (.bool r) ∧ Below w.heap.size w w' := by
 have hu25 := Try.underlying25
 have HR0 := As_ hr0
 have HC0 := As_ hc0
 clear hr0 hc0
 have HB := As_ (Below.refl w.heap.size w)
 have H : (if (l0.length : Int) > 1048576 then (some true) else ((spec_DrawClassesOf.f k l0).bind fun bt770 => ((impl_ClassesOf.f k bt770.1 bt770.2).bind fun t775 => ((spec_ClassesOf.f k bt770.1 bt770.2).bind fun t778 => ((laws_equalInts.f k t775 t778).bind fun t781 => (if t781 = true then (laws_FnClassesOf.j0 k t775 ((t775.length : Int) == 0) bt770.1 bt770.2) else (laws_FnClassesOf.j0 k t775 true bt770.1 bt770.2))))))) = some r := h
 clear h
 by_cases c2 : (l0.length : Int) > 1048576
 ·rw [if_pos c2] at H
  have c2b0 : decide (1048576 < (l0.length : Int)) = true := deT c2
  have c2b1 : decide (1048576 < l0.length) = true := deT (by omega)
  clear c2
  obtain rfl := Option.some.inj H
  go_enter Try.func6,Try.ntmps6
  go_wp2
  go_ret
  exact ⟨zE_,zb0 HB.out⟩
 rw [if_neg c2] at H
 have c2b0 : decide (1048576 < (l0.length : Int)) = false := deF c2
 have c2b1 : decide (1048576 < l0.length) = false := deF (by omega)
 clear c2
 replace H := obS H
 obtain ⟨⟨t770,t773⟩,A30,H⟩ := H
 replace H : ((impl_ClassesOf.f k t770 t773).bind fun t775 => ((spec_ClassesOf.f k t770 t773).bind fun t778 => ((laws_equalInts.f k t775 t778).bind fun t781 => (if t781 = true then (laws_FnClassesOf.j0 k t775 ((t775.length : Int) == 0) t770 t773) else (laws_FnClassesOf.j0 k t775 true t770 t773))))) = some r := H
 have A3 := As_ A30
 clear A30
 replace H := obS H
 obtain ⟨t775,A40,H⟩ := H
 replace H : ((spec_ClassesOf.f k t770 t773).bind fun t778 => ((laws_equalInts.f k t775 t778).bind fun t781 => (if t781 = true then (laws_FnClassesOf.j0 k t775 ((t775.length : Int) == 0) t770 t773) else (laws_FnClassesOf.j0 k t775 true t770 t773)))) = some r := H
 have A4 := As_ A40
 clear A40
 have HC5 := As_ H
 clear H
 go_enter Try.func6,Try.ntmps6
 go_upto_region 5 with (first|((with_reducible refine gate_callee (f := 26) rfl ?_);refine goesL_ (some 13) rfl rfl Try.func26 (by kernel_rfl) rfl #[.slice A0 l0.length c0] rfl zM_ ?_;(with_reducible refine (spec_DrawClassesOf.calls k _ _ l0 t770 t773 _ ?side1 ?side2 A3.out).mono ?_);(case side1 => repeat (first|exact HR0.out|(with_reducible refine Kd.C_alloc ?_ _)|(with_reducible refine Kd.C_drewN ?_ _)|(with_reducible refine Kd.C_drew ?_)));(case side2 => exact HC0.out);rintro e w6 ⟨v771,rfl,ho0,hb⟩;refine ⟨_,rfl,?_⟩;have n0_ := As_ (Kd.S_lower ho0 (bwZ (zb0 HB.out)));have n1_ := As_ (bwT (zb0 HB.out) hb);clear HB;revert n0_ n1_;intro HO772 HB)|((with_reducible refine gate_dst (N := 3) rfl ?_);(try (refine gate_guard (by rfl) ?_;dsimp only));refine box_event ?hg (N := 3) ?hd (cs := #[.slice none 0 0,.int .i64 0]) (t := 25) ?hr ?_;(case hd => rfl);(case hg => rfl);(case hr => go_simp <;> rfl);intro gb774 hg w7 hbox hb;have n0_ := As_ (Kd.S_below (zS_ HO772.out) hb);have n1_ := As_ (bwT (zb0 HB.out) hb);have n2_ := As_ (hbox);have n3_ := As_ ((by rw [hg];exact (bwZ (zb0 HB.out)) : w.heap.size ≤ gb774));have n4_ := As_ ((by rw [hg];exact (bwZ (zb0 HB.out)) : w.heap.size ≤ gb774));clear HO772 HB;revert n0_ n1_ n2_ n3_ n4_;intro HO772 HB BK774 GW774 GE774;clear hb hbox hg;obtain ⟨Ao8,co8,eo8⟩ := Kd.S_slice HO772.out;subst eo8;obtain ⟨hcz9_0,hcz9_1,hfz9_0,hfz9_1⟩ := bk2 BK774.out)|((with_reducible refine gate_callee (f := 27) rfl ?_);refine goesL_ (some 15) rfl rfl Try.func27 (by kernel_rfl) rfl #[.agg #[.slice Ao8 t770.length co8,.int .i64 t773]] rfl zM_ ?_;(with_reducible refine (impl_ClassesOf.calls k _ _ t770 t773 t775 _ ?side1 ?side2 A4.out).mono ?_);(case side1 => refine (Kd.S_reads' (e := 58) (base := w.heap.size) (ok := fun k_ => True) (n := t770.length) (c := co8) ?_).2.2;exact (by (with_reducible repeat (first|apply Kd.S_alloc|apply Kd.S_drewN|apply Kd.S_drew));exact (Kd.S_mono (Kd.S_far (p := ⟨gb774,1,none⟩) (Kd.S_far (p := ⟨gb774,0,none⟩) (Kd.S_types HO772.out BK774.out (by decide)) (fun _ hk => hk.2) (.slice Ao8 t770.length co8)) (fun _ hk => hk.2) (.int .i64 t773)) (fun _ h_ => h_.1))));(case side2 => exact (Kd.S_reads' HO772.out).2.1);rintro e w10 ⟨v776,rfl,ho0,hb⟩;refine ⟨_,rfl,?_⟩;have n0_ := As_ (Kd.S_elder' (by (with_reducible repeat (first|apply Kd.S_alloc|apply Kd.S_drewN|apply Kd.S_drew));exact (Kd.S_mono (Kd.S_far (p := ⟨gb774,1,none⟩) (Kd.S_far (p := ⟨gb774,0,none⟩) (Kd.S_types HO772.out BK774.out (by decide)) (fun _ hk => hk.2) (.slice Ao8 t770.length co8)) (fun _ hk => hk.2) (.int .i64 t773)) (fun _ h_ => h_.1))) (Kd.R_base ho0) hb);have n1_ := As_ (Kd.R_lower ho0 (bwZ (zb1 HB.out GE774.out)));have n2_ := As_ (blk_below (g := gb774) (o := .cells #[.slice Ao8 t770.length co8,.int .i64 t773] 25 (0,0)) (by (with_reducible repeat first|apply bkN|apply bkD|apply bkA);refine blk_put (cs := #[.slice Ao8 t770.length co8,.int .i64 0]) ?_ 1 _ rfl;(with_reducible repeat first|apply bkN|apply bkD|apply bkA);refine blk_put (cs := #[.slice none 0 0,.int .i64 0]) ?_ 0 _ rfl;(with_reducible repeat first|apply bkN|apply bkD|apply bkA);exact BK774.out) hb);have n3_ := As_ (bwT (zb1 HB.out GE774.out) hb);clear HO772 BK774 HB;revert n0_ n1_ n2_ n3_;intro HO772 HO777 BK774 HB))
 (try simp only [Act.put,List.setIfInBounds_toArray,List.set_cons_zero,List.set_cons_succ])
 go_cut [25] (fun v25 wc => ∃ (kq : Nat) (x25_4 : Bool),v25 = .bool x25_4 ∧ Aside0 (laws_FnClassesOf.j0 kq t775 x25_4 t770 t773 = some r) ∧ Aside0 (kq ≤ k) ∧ Aside0 (Kd.R (Kd.int .i64) 3 wc w.heap.size (fun _ => True) v776 t775) ∧ Aside0 (Kd.S k58 58 wc w.heap.size (fun k_ => some k_ ≠ (v776 : Value).ownBlock) (.slice Ao8 t770.length co8) t770) ∧ Aside0 (wc.heap[gb774]? = some (.cells #[(.slice Ao8 t770.length co8),.int .i64 t773] 25 (0,0))) ∧ Aside0 (Below w.heap.size w wc))
 case first =>
  have H := HC5.out
  clear HC5
  replace H := obS H
  obtain ⟨t778,A110,H⟩ := H
  replace H : ((laws_equalInts.f k t775 t778).bind fun t781 => (if t781 = true then (laws_FnClassesOf.j0 k t775 ((t775.length : Int) == 0) t770 t773) else (laws_FnClassesOf.j0 k t775 true t770 t773))) = some r := H
  have A11 := As_ A110
  clear A110
  replace H := obS H
  obtain ⟨t781,A120,H⟩ := H
  replace H : (if t781 = true then (laws_FnClassesOf.j0 k t775 ((t775.length : Int) == 0) t770 t773) else (laws_FnClassesOf.j0 k t775 true t770 t773)) = some r := H
  have A12 := As_ A120
  clear A120
  by_cases c13 : t781 = true
  ·subst c13
   have H1 : (laws_FnClassesOf.j0 k t775 ((t775.length : Int) == 0) t770 t773) = some r := by rw [if_pos rfl] at H;exact H
   clear H
   have H := H1
   clear H1
   have H' := As_ H
   clear H
   obtain ⟨hcz14_0,hcz14_1,hfz14_0,hfz14_1⟩ := bk2 BK774.out
   go_wp2_with (first|((with_reducible refine gate_callee (f := 28) rfl ?_);refine goesL_ (some 18) rfl rfl Try.func28 (by kernel_rfl) rfl #[.agg #[.slice Ao8 t770.length co8,.int .i64 t773]] rfl zM_ ?_;(with_reducible refine (spec_ClassesOf.calls k _ _ t770 t773 t778 _ ?side1 ?side2 A11.out).mono ?_);(case side1 => exact zC_ (Kd.S_reads' HO772.out).2.2);(case side2 => exact (Kd.S_reads' HO772.out).2.1);rintro e w15 ⟨v779,rfl,ho0,hb⟩;refine ⟨_,rfl,?_⟩;have n0_ := As_ (Kd.S_elder' (zS_ HO772.out) (Kd.R_base ho0) hb);have n1_ := As_ (Kd.R_elder' (zR_ HO777.out) (Kd.R_base ho0) hb);have n2_ := As_ (Kd.R_lower (Kd.R_new' ho0 (Kd.R_lt (zR_ HO777.out))) (bwZ (zb1 HB.out GE774.out)));have n3_ := As_ (zkb BK774.out hb);have n4_ := As_ (bwT (zb1 HB.out GE774.out) hb);clear HO772 HO777 BK774 HB;revert n0_ n1_ n2_ n3_ n4_;intro HO772 HO777 HO780 BK774 HB;obtain ⟨Ao16,co16,eo16⟩ := Kd.R_slice HO777.out;subst eo16;obtain ⟨Ao17,co17,eo17⟩ := Kd.R_slice HO780.out;subst eo17)|((with_reducible refine gate_callee (f := 13) rfl ?_);refine goesL_ (some 19) rfl rfl Try.func13 (by kernel_rfl) rfl #[.slice Ao16 t775.length co16,.slice Ao17 t778.length co17] rfl zM_ ?_;(with_reducible refine (laws_equalInts.calls k _ _ t775 _ _ t778 true _ ?side1 ?side2 ?side3 ?side4 A12.out).mono ?_);(case side1 => exact zC_ (Kd.R_reads' HO777.out).2.2);(case side2 => exact (Kd.R_reads' HO777.out).2.1);(case side3 => exact zC_ (Kd.R_reads' HO780.out).2.2);(case side4 => exact (Kd.R_reads' HO780.out).2.1);rintro e w' ⟨rfl,⟨nd,rfl⟩⟩;refine ⟨_,rfl,?_⟩))
   go_meet
   case rel => exact ⟨_,(((t775.length : Int) == 0)),zT_,H',⟨by first|omega|exact Nat.le_refl _⟩,⟨by (with_reducible repeat (first|apply Kd.R_alloc|apply Kd.R_drewN|apply Kd.R_drew));exact Kd.R_mono HO777.out (fun _ hk => trivial)⟩,⟨by (with_reducible repeat (first|apply Kd.S_alloc|apply Kd.S_drewN|apply Kd.S_drew));exact Kd.S_mono HO772.out (fun _ hk => hk.1.2)⟩,⟨by (with_reducible repeat first|apply bkN|apply bkD|apply bkA);exact BK774.out⟩,⟨zb1 HB.out GE774.out⟩⟩
  replace c13 := Bool.eq_false_iff.mpr c13
  subst c13
  have H1 : (laws_FnClassesOf.j0 k t775 true t770 t773) = some r := by rw [if_neg (show ¬ (false = true) by decide)] at H;exact H
  clear H
  have H := H1
  clear H1
  have H' := As_ H
  clear H
  obtain ⟨hcz18_0,hcz18_1,hfz18_0,hfz18_1⟩ := bk2 BK774.out
  go_wp2_with (first|((with_reducible refine gate_callee (f := 28) rfl ?_);refine goesL_ (some 18) rfl rfl Try.func28 (by kernel_rfl) rfl #[.agg #[.slice Ao8 t770.length co8,.int .i64 t773]] rfl zM_ ?_;(with_reducible refine (spec_ClassesOf.calls k _ _ t770 t773 t778 _ ?side1 ?side2 A11.out).mono ?_);(case side1 => exact zC_ (Kd.S_reads' HO772.out).2.2);(case side2 => exact (Kd.S_reads' HO772.out).2.1);rintro e w19 ⟨v779,rfl,ho0,hb⟩;refine ⟨_,rfl,?_⟩;have n0_ := As_ (Kd.S_elder' (zS_ HO772.out) (Kd.R_base ho0) hb);have n1_ := As_ (Kd.R_elder' (zR_ HO777.out) (Kd.R_base ho0) hb);have n2_ := As_ (Kd.R_lower (Kd.R_new' ho0 (Kd.R_lt (zR_ HO777.out))) (bwZ (zb1 HB.out GE774.out)));have n3_ := As_ (zkb BK774.out hb);have n4_ := As_ (bwT (zb1 HB.out GE774.out) hb);clear HO772 HO777 BK774 HB;revert n0_ n1_ n2_ n3_ n4_;intro HO772 HO777 HO780 BK774 HB;obtain ⟨Ao20,co20,eo20⟩ := Kd.R_slice HO777.out;subst eo20;obtain ⟨Ao21,co21,eo21⟩ := Kd.R_slice HO780.out;subst eo21)|((with_reducible refine gate_callee (f := 13) rfl ?_);refine goesL_ (some 19) rfl rfl Try.func13 (by kernel_rfl) rfl #[.slice Ao20 t775.length co20,.slice Ao21 t778.length co21] rfl zM_ ?_;(with_reducible refine (laws_equalInts.calls k _ _ t775 _ _ t778 false _ ?side1 ?side2 ?side3 ?side4 A12.out).mono ?_);(case side1 => exact zC_ (Kd.R_reads' HO777.out).2.2);(case side2 => exact (Kd.R_reads' HO777.out).2.1);(case side3 => exact zC_ (Kd.R_reads' HO780.out).2.2);(case side4 => exact (Kd.R_reads' HO780.out).2.1);rintro e w' ⟨rfl,⟨nd,rfl⟩⟩;refine ⟨_,rfl,?_⟩))
  go_meet
  case rel => exact ⟨_,(true),zT_,H',⟨by first|omega|exact Nat.le_refl _⟩,⟨by (with_reducible repeat (first|apply Kd.R_alloc|apply Kd.R_drewN|apply Kd.R_drew));exact Kd.R_mono HO777.out (fun _ hk => trivial)⟩,⟨by (with_reducible repeat (first|apply Kd.S_alloc|apply Kd.S_drewN|apply Kd.S_drew));exact Kd.S_mono HO772.out (fun _ hk => hk.1.2)⟩,⟨by (with_reducible repeat first|apply bkN|apply bkD|apply bkA);exact BK774.out⟩,⟨zb1 HB.out GE774.out⟩⟩
 case rest =>
  clear HC5
  obtain ⟨kq,x25_4,rfl,HA,HJ4,HO_4,HO_775000,BK774,HB⟩ := hcut
  cases kq with
  | zero => exact absurd HA.out (fun h_ => (by cases h_))
  | succ kj4 =>
   have H := HA.out
   clear HA
   simp only [laws_FnClassesOf.j0] at H
   by_cases c22 : x25_4 = true
   ·subst c22
    have H1 : ((spec_ClassesOf.f kj4 t770 t773).bind fun t782 => ((laws_equalInts.f kj4 t775 t782).bind fun t785 => (some t785))) = some r := by rw [if_pos rfl] at H;exact H
    clear H
    have H := H1
    clear H1
    replace H := obS H
    obtain ⟨t782,A230,H⟩ := H
    replace H : ((laws_equalInts.f kj4 t775 t782).bind fun t785 => (some t785)) = some r := H
    have A23 := As_ A230
    clear A230
    replace H := obS H
    obtain ⟨t785,A240,H⟩ := H
    replace H : (some t785) = some r := H
    have A24 := As_ A240
    clear A240
    obtain rfl := Option.some.inj H
    obtain ⟨hcz25_0,hcz25_1,hfz25_0,hfz25_1⟩ := bk2 BK774.out
    go_wp2_with (first|((with_reducible refine gate_callee (f := 28) rfl ?_);refine goesL_ (some 28) rfl rfl Try.func28 (by kernel_rfl) rfl #[.agg #[.slice Ao8 t770.length co8,.int .i64 t773]] rfl zM_ ?_;(with_reducible refine (spec_ClassesOf.calls kj4 _ _ t770 t773 t782 _ ?side1 ?side2 A23.out).mono ?_);(case side1 => exact zC_ (Kd.S_reads' HO_775000.out).2.2);(case side2 => exact (Kd.S_reads' HO_775000.out).2.1);rintro e w26 ⟨v783,rfl,ho0,hb⟩;refine ⟨_,rfl,?_⟩;have n0_ := As_ (Kd.R_elder' (zR_ HO_4.out) (Kd.R_base ho0) hb);have n1_ := As_ (Kd.S_elder' (zS_ HO_775000.out) (Kd.R_base ho0) hb);have n2_ := As_ (Kd.R_lower (Kd.R_new' ho0 (Kd.R_lt (zR_ HO_4.out))) (bwZ (zb1 HB.out GE774.out)));have n3_ := As_ (zkb BK774.out hb);have n4_ := As_ (bwT (zb1 HB.out GE774.out) hb);clear HO_4 HO_775000 BK774 HB;revert n0_ n1_ n2_ n3_ n4_;intro HO_4 HO_775000 HO784 BK774 HB;obtain ⟨Ao27,co27,eo27⟩ := Kd.R_slice HO_4.out;subst eo27;obtain ⟨Ao28,co28,eo28⟩ := Kd.R_slice HO784.out;subst eo28)|((with_reducible refine gate_callee (f := 13) rfl ?_);refine goesL_ (some 29) rfl rfl Try.func13 (by kernel_rfl) rfl #[.slice Ao27 t775.length co27,.slice Ao28 t782.length co28] rfl zM_ ?_;(with_reducible refine (laws_equalInts.calls kj4 _ _ t775 _ _ t782 t785 _ ?side1 ?side2 ?side3 ?side4 A24.out).mono ?_);(case side1 => exact zC_ (Kd.R_reads' HO_4.out).2.2);(case side2 => exact (Kd.R_reads' HO_4.out).2.1);(case side3 => exact zC_ (Kd.R_reads' HO784.out).2.2);(case side4 => exact (Kd.R_reads' HO784.out).2.1);rintro e w' ⟨rfl,⟨nd,rfl⟩⟩;refine ⟨_,rfl,?_⟩))
    go_ret
    exact ⟨zE_,zb1 HB.out GE774.out⟩
   replace c22 := Bool.eq_false_iff.mpr c22
   subst c22
   have H1 : (laws_FnClassesOf.l0 kj4 t775 0 t770 t773) = some r := by rw [if_neg (show ¬ (false = true) by decide)] at H;exact H
   clear H
   have H := H1
   clear H1
   have H' := As_ H
   clear H
   go_wp2
   go_loopg [5] kj4 (fun kq v5 w' => ∃ (x5_2 : Int),v5 = .int .i64 x5_2 ∧ Aside0 (laws_FnClassesOf.l0 kq t775 x5_2 t770 t773 = some r) ∧ Aside0 (kq ≤ kj4) ∧ Aside0 (Kd.R (Kd.int .i64) 3 w' w.heap.size (fun _ => True) v776 t775) ∧ Aside0 (Kd.S k58 58 w' w.heap.size (fun k_ => some k_ ≠ (v776 : Value).ownBlock) (.slice Ao8 t770.length co8) t770) ∧ Aside0 (w'.heap[gb774]? = some (.cells #[(.slice Ao8 t770.length co8),.int .i64 t773] 25 (0,0))) ∧ Aside0 (Below w.heap.size w w'))
   case atStart => exact ⟨(0),zT_,H',⟨Nat.le_refl _⟩,⟨by (with_reducible repeat (first|apply Kd.R_alloc|apply Kd.R_drewN|apply Kd.R_drew));exact HO_4.out⟩,⟨by (with_reducible repeat (first|apply Kd.S_alloc|apply Kd.S_drewN|apply Kd.S_drew));exact HO_775000.out⟩,⟨by (with_reducible repeat first|apply bkN|apply bkD|apply bkA);exact BK774.out⟩,⟨zb1 HB.out GE774.out⟩⟩
   case round =>
    clear H'
    obtain ⟨x5_2,rfl,HA,HK2,HO_4,HO_775000,BK774,HB⟩ := hrel
    cases gk with
    | zero => exact absurd HA.out (fun h_ => (by cases h_))
    | succ k2 =>
     have H := HA.out
     clear HA
     simp only [laws_FnClassesOf.l0] at H
     by_cases c29 : x5_2 < (t775.length : Int)
     rotate_left
     ·rw [if_neg c29] at H
      have c29b0 : decide (x5_2 < (t775.length : Int)) = false := deF c29
      clear c29
      obtain rfl := Option.some.inj H
      obtain ⟨Ao71,co71,eo71⟩ := Kd.R_slice HO_4.out
      subst eo71
      go_wp2
      go_ret
      exact ⟨zE_,zb1 HB.out GE774.out⟩

     rw [if_pos c29] at H
     have c29b0 : decide (x5_2 < (t775.length : Int)) = true := deT c29
     clear c29
     have H' := As_ H
     clear H
     obtain ⟨Ao30,co30,eo30⟩ := Kd.R_slice HO_4.out
     subst eo30
     go_wp2
     go_loopg [6] k2 (fun kq v6 w' => ∃ (x6_3 : Int),v6 = .int .i64 x6_3 ∧ Aside0 (laws_FnClassesOf.l1 kq t775 x5_2 x6_3 t770 t773 = some r) ∧ Aside0 (kq ≤ k2) ∧ Aside0 (Kd.R (Kd.int .i64) 3 w' w.heap.size (fun _ => True) (.slice Ao30 t775.length co30) t775) ∧ Aside0 (Kd.S k58 58 w' w.heap.size (fun k_ => some k_ ≠ ((.slice Ao30 t775.length co30) : Value).ownBlock) (.slice Ao8 t770.length co8) t770) ∧ Aside0 (w'.heap[gb774]? = some (.cells #[(.slice Ao8 t770.length co8),.int .i64 t773] 25 (0,0))) ∧ Aside0 (Below w.heap.size w w'))
     case atStart => exact ⟨(0),zT_,H',⟨Nat.le_refl _⟩,⟨by (with_reducible repeat (first|apply Kd.R_alloc|apply Kd.R_drewN|apply Kd.R_drew));exact HO_4.out⟩,⟨by (with_reducible repeat (first|apply Kd.S_alloc|apply Kd.S_drewN|apply Kd.S_drew));exact HO_775000.out⟩,⟨by (with_reducible repeat first|apply bkN|apply bkD|apply bkA);exact BK774.out⟩,⟨zb1 HB.out GE774.out⟩⟩
     case round =>
      clear H'
      obtain ⟨x6_3,rfl,HA,HK3,HO_4,HO_775000,BK774,HB⟩ := hrel
      cases gk with
      | zero => exact absurd HA.out (fun h_ => (by cases h_))
      | succ k3 =>
       have H := HA.out
       clear HA
       simp only [laws_FnClassesOf.l1] at H
       by_cases c31 : x6_3 < x5_2
       ·rw [if_pos c31] at H
        have c31b0 : decide (x6_3 < x5_2) = true := deT c31
        clear c31
        by_cases c32 : 0 ≤ x5_2
        rotate_left
        ·rw [if_neg c32] at H
         exact absurd H (by simp)
        rw [if_pos c32] at H
        have c32b0 : decide (0 ≤ x5_2) = true := deT c32
        clear c32
        by_cases c33 : x5_2 < (t775.length : Int)
        rotate_left
        ·rw [if_neg c33] at H
         exact absurd H (by simp)
        rw [if_pos c33] at H
        have c33b0 : decide (x5_2 < (t775.length : Int)) = true := deT c33
        clear c33
        by_cases c34 : 0 ≤ x6_3
        rotate_left
        ·rw [if_neg c34] at H
         exact absurd H (by simp)
        rw [if_pos c34] at H
        have c34b0 : decide (0 ≤ x6_3) = true := deT c34
        clear c34
        by_cases c35 : x6_3 < (t775.length : Int)
        rotate_left
        ·rw [if_neg c35] at H
         exact absurd H (by simp)
        rw [if_pos c35] at H
        have c35b0 : decide (x6_3 < (t775.length : Int)) = true := deT c35
        clear c35
        replace H := obS H
        obtain ⟨t790,A360,H⟩ := H
        replace H : (if (((rd t775 x5_2) == (rd t775 x6_3)) != t790) = true then (some false) else (laws_FnClassesOf.l1 k3 t775 x5_2 (wrap64 (x6_3 + 1)) t770 t773)) = some r := H
        have A36 := As_ A360
        clear A360
        by_cases c37 : (((rd t775 x5_2) == (rd t775 x6_3)) != t790) = true
        ·rw [if_pos c37] at H
         have c37b0 : (((rd t775 x5_2) == (rd t775 x6_3)) != t790) = true := c37
         (try (have c37b1 : decide (((rd t775 x5_2) == (rd t775 x6_3)) = t790) = false := by simpa using c37))
         (try (have c37b2 : (((rd t775 x5_2) == (rd t775 x6_3)) == t790) = false := by simpa using c37))
         (try (have c37b3 : ¬ (((rd t775 x5_2) == (rd t775 x6_3)) = t790) := by simpa using c37))
         clear c37
         obtain rfl := Option.some.inj H
         obtain ⟨hcz38_0,hcz38_1,hfz38_0,hfz38_1⟩ := bk2 BK774.out
         try go_wp2_with (first|((with_reducible refine gate_dst (N := 7) rfl ?_);(try (refine gate_guard (by rfl) ?_;dsimp only));refine box_event ?hg (N := 7) ?hd (cs := #[.slice none 0 0,.int .i64 0]) (t := 25) ?hr ?_;(case hd => rfl);(case hg => rfl);(case hr => go_simp <;> rfl);intro gb786 hg w39 hbox hb;have n0_ := As_ (Kd.R_below (zR_ HO_4.out) hb);have n1_ := As_ (Kd.S_below (zS_ HO_775000.out) hb);have n2_ := As_ (zkb BK774.out hb);have n3_ := As_ (bwT (zb1 HB.out GE774.out) hb);have n4_ := As_ (hbox);have n5_ := As_ ((by rw [hg];exact (bwZ (zb1 HB.out GE774.out)) : w.heap.size ≤ gb786));have n6_ := As_ ((by rw [hg];exact (bwZ (zb1 HB.out GE774.out)) : w.heap.size ≤ gb786));have n7_ := As_ ((by rw [hg];exact Nat.ne_of_lt (zkl BK774.out) : gb774 ≠ gb786));have n8_ := As_ ((by rw [hg];exact Nat.ne_of_gt (zkl BK774.out) : gb786 ≠ gb774));clear HO_4 HO_775000 BK774 HB;revert n0_ n1_ n2_ n3_ n4_ n5_ n6_ n7_ n8_;intro HO_4 HO_775000 BK774 HB BK786 GW786 GE786 NB774_786 NB786_774;clear hb hbox hg;have hnb40 := NB786_774.out;have hnc40 := NB774_786.out;obtain ⟨hcz41_0,hcz41_1,hfz41_0,hfz41_1⟩ := bk2 BK786.out;obtain ⟨hcz42_0,hcz42_1,hfz42_0,hfz42_1⟩ := bk2 BK774.out)|((with_reducible refine gate_dst (N := 8) rfl ?_);(try (refine gate_guard (by rfl) ?_;dsimp only));refine box_event ?hg (N := 8) ?hd (cs := #[.slice none 0 0,.int .i64 0]) (t := 25) ?hr ?_;(case hd => rfl);(case hg => rfl);(case hr => go_simp <;> rfl);intro gb787 hg w43 hbox hb;have n0_ := As_ (Kd.R_below (by (with_reducible repeat (first|apply Kd.R_alloc|apply Kd.R_drewN|apply Kd.R_drew));exact (Kd.R_mono (Kd.R_far (p := ⟨gb786,1,none⟩) (Kd.R_far (p := ⟨gb786,0,none⟩) (Kd.R_types HO_4.out BK786.out (by decide)) (fun _ hk => hk.2) (.slice Ao8 t770.length co8)) (fun _ hk => hk.2) (.int .i64 x5_2)) (fun _ h_ => h_.1))) hb);have n1_ := As_ (Kd.S_below (by (with_reducible repeat (first|apply Kd.S_alloc|apply Kd.S_drewN|apply Kd.S_drew));exact (Kd.S_mono (Kd.S_far (p := ⟨gb786,1,none⟩) (Kd.S_far (p := ⟨gb786,0,none⟩) (Kd.S_types HO_775000.out BK786.out (by decide)) (fun _ hk => hk.2) (.slice Ao8 t770.length co8)) (fun _ hk => hk.2) (.int .i64 x5_2)) (fun _ h_ => h_.1))) hb);have n2_ := As_ (blk_below (g := gb774) (o := .cells #[.slice Ao8 t770.length co8,.int .i64 t773] 25 (0,0)) (by (with_reducible repeat first|apply bkN|apply bkD|apply bkA);refine blk_far ?_ NB774_786.out _;(with_reducible repeat first|apply bkN|apply bkD|apply bkA);refine blk_far ?_ NB774_786.out _;(with_reducible repeat first|apply bkN|apply bkD|apply bkA);exact BK774.out) hb);have n3_ := As_ (blk_below (g := gb786) (o := .cells #[.slice Ao8 t770.length co8,.int .i64 x5_2] 25 (0,0)) (by (with_reducible repeat first|apply bkN|apply bkD|apply bkA);refine blk_put (cs := #[.slice Ao8 t770.length co8,.int .i64 0]) ?_ 1 _ rfl;(with_reducible repeat first|apply bkN|apply bkD|apply bkA);refine blk_put (cs := #[.slice none 0 0,.int .i64 0]) ?_ 0 _ rfl;(with_reducible repeat first|apply bkN|apply bkD|apply bkA);exact BK786.out) hb);have n4_ := As_ (bwT (zb2 HB.out GE774.out GE786.out) hb);have n5_ := As_ (hbox);have n6_ := As_ ((by rw [hg];exact (bwZ (zb2 HB.out GE774.out GE786.out)) : w.heap.size ≤ gb787));have n7_ := As_ ((by rw [hg];exact (bwZ (zb2 HB.out GE774.out GE786.out)) : w.heap.size ≤ gb787));have n8_ := As_ ((by rw [hg];exact Nat.ne_of_lt (blk_lt (g := gb774) (o := .cells #[.slice Ao8 t770.length co8,.int .i64 t773] 25 (0,0)) (by (with_reducible repeat first|apply bkN|apply bkD|apply bkA);refine blk_far ?_ NB774_786.out _;(with_reducible repeat first|apply bkN|apply bkD|apply bkA);refine blk_far ?_ NB774_786.out _;(with_reducible repeat first|apply bkN|apply bkD|apply bkA);exact BK774.out)) : gb774 ≠ gb787));have n9_ := As_ ((by rw [hg];exact Nat.ne_of_gt (blk_lt (g := gb774) (o := .cells #[.slice Ao8 t770.length co8,.int .i64 t773] 25 (0,0)) (by (with_reducible repeat first|apply bkN|apply bkD|apply bkA);refine blk_far ?_ NB774_786.out _;(with_reducible repeat first|apply bkN|apply bkD|apply bkA);refine blk_far ?_ NB774_786.out _;(with_reducible repeat first|apply bkN|apply bkD|apply bkA);exact BK774.out)) : gb787 ≠ gb774));have n10_ := As_ ((by rw [hg];exact Nat.ne_of_lt (blk_lt (g := gb786) (o := .cells #[.slice Ao8 t770.length co8,.int .i64 x5_2] 25 (0,0)) (by (with_reducible repeat first|apply bkN|apply bkD|apply bkA);refine blk_put (cs := #[.slice Ao8 t770.length co8,.int .i64 0]) ?_ 1 _ rfl;(with_reducible repeat first|apply bkN|apply bkD|apply bkA);refine blk_put (cs := #[.slice none 0 0,.int .i64 0]) ?_ 0 _ rfl;(with_reducible repeat first|apply bkN|apply bkD|apply bkA);exact BK786.out)) : gb786 ≠ gb787));have n11_ := As_ ((by rw [hg];exact Nat.ne_of_gt (blk_lt (g := gb786) (o := .cells #[.slice Ao8 t770.length co8,.int .i64 x5_2] 25 (0,0)) (by (with_reducible repeat first|apply bkN|apply bkD|apply bkA);refine blk_put (cs := #[.slice Ao8 t770.length co8,.int .i64 0]) ?_ 1 _ rfl;(with_reducible repeat first|apply bkN|apply bkD|apply bkA);refine blk_put (cs := #[.slice none 0 0,.int .i64 0]) ?_ 0 _ rfl;(with_reducible repeat first|apply bkN|apply bkD|apply bkA);exact BK786.out)) : gb787 ≠ gb786));clear HO_4 HO_775000 BK774 BK786 HB;revert n0_ n1_ n2_ n3_ n4_ n5_ n6_ n7_ n8_ n9_ n10_ n11_;intro HO_4 HO_775000 BK774 BK786 HB BK787 GW787 GE787 NB774_787 NB787_774 NB786_787 NB787_786;clear hb hbox hg;have hnb44 := NB787_774.out;have hnc44 := NB774_787.out;have hnb45 := NB787_786.out;have hnc45 := NB786_787.out;obtain ⟨hcz46_0,hcz46_1,hfz46_0,hfz46_1⟩ := bk2 BK787.out))
         have n0_ : Aside0 (Kd.R (Kd.int .i64) 3 ((w43.setCell ⟨gb787,0,none⟩ (.slice Ao8 t770.length co8)).setCell ⟨gb787,1,none⟩ (.int .i64 x6_3)) w.heap.size (fun _ => True) (.slice Ao30 t775.length co30) t775) := ⟨by (with_reducible repeat (first|apply Kd.R_alloc|apply Kd.R_drewN|apply Kd.R_drew));exact Kd.R_mono (Kd.R_far (p := ⟨gb787,1,none⟩) (Kd.R_far (p := ⟨gb787,0,none⟩) (Kd.R_types HO_4.out BK787.out (by decide)) (fun _ hk => hk.2) (.slice Ao8 t770.length co8)) (fun _ hk => hk.2) (.int .i64 x6_3)) (fun _ hk => trivial)⟩
         have n1_ : Aside0 (Kd.S k58 58 ((w43.setCell ⟨gb787,0,none⟩ (.slice Ao8 t770.length co8)).setCell ⟨gb787,1,none⟩ (.int .i64 x6_3)) w.heap.size (fun k_ => some k_ ≠ (.slice Ao30 t775.length co30 : Value).ownBlock) (.slice Ao8 t770.length co8) t770) := ⟨by (with_reducible repeat (first|apply Kd.S_alloc|apply Kd.S_drewN|apply Kd.S_drew));exact Kd.S_mono (Kd.S_far (p := ⟨gb787,1,none⟩) (Kd.S_far (p := ⟨gb787,0,none⟩) (Kd.S_types HO_775000.out BK787.out (by decide)) (fun _ hk => hk.2) (.slice Ao8 t770.length co8)) (fun _ hk => hk.2) (.int .i64 x6_3)) (fun _ hk => hk.1)⟩
         have n2_ : Aside0 (((w43.setCell ⟨gb787,0,none⟩ (.slice Ao8 t770.length co8)).setCell ⟨gb787,1,none⟩ (.int .i64 x6_3)).heap[gb774]? = some (.cells #[.slice Ao8 t770.length co8,.int .i64 t773] 25 (0,0))) := ⟨by (with_reducible repeat first|apply bkN|apply bkD|apply bkA);refine blk_far ?_ NB774_787.out _;(with_reducible repeat first|apply bkN|apply bkD|apply bkA);refine blk_far ?_ NB774_787.out _;(with_reducible repeat first|apply bkN|apply bkD|apply bkA);exact BK774.out⟩
         have n3_ : Aside0 (((w43.setCell ⟨gb787,0,none⟩ (.slice Ao8 t770.length co8)).setCell ⟨gb787,1,none⟩ (.int .i64 x6_3)).heap[gb786]? = some (.cells #[.slice Ao8 t770.length co8,.int .i64 x5_2] 25 (0,0))) := ⟨by (with_reducible repeat first|apply bkN|apply bkD|apply bkA);refine blk_far ?_ NB786_787.out _;(with_reducible repeat first|apply bkN|apply bkD|apply bkA);refine blk_far ?_ NB786_787.out _;(with_reducible repeat first|apply bkN|apply bkD|apply bkA);exact BK786.out⟩
         have n4_ : Aside0 (((w43.setCell ⟨gb787,0,none⟩ (.slice Ao8 t770.length co8)).setCell ⟨gb787,1,none⟩ (.int .i64 x6_3)).heap[gb787]? = some (.cells #[.slice Ao8 t770.length co8,.int .i64 x6_3] 25 (0,0))) := ⟨by (with_reducible repeat first|apply bkN|apply bkD|apply bkA);refine blk_put (cs := #[.slice Ao8 t770.length co8,.int .i64 0]) ?_ 1 _ rfl;(with_reducible repeat first|apply bkN|apply bkD|apply bkA);refine blk_put (cs := #[.slice none 0 0,.int .i64 0]) ?_ 0 _ rfl;(with_reducible repeat first|apply bkN|apply bkD|apply bkA);exact BK787.out⟩
         have n5_ : Aside0 (Below w.heap.size w ((w43.setCell ⟨gb787,0,none⟩ (.slice Ao8 t770.length co8)).setCell ⟨gb787,1,none⟩ (.int .i64 x6_3))) := ⟨zb3 HB.out GE774.out GE786.out GE787.out⟩
         generalize ((w43.setCell ⟨gb787,0,none⟩ (.slice Ao8 t770.length co8)).setCell ⟨gb787,1,none⟩ (.int .i64 x6_3)) = w47 at n0_ n1_ n2_ n3_ n4_ n5_ ⊢
         revert n0_ n1_ n2_ n3_ n4_ n5_;intro HO_4 HO_775000 BK774 BK786 BK787 HB
         have n0_ := As_ (Kd.R_drew HO_4.out)
         have n1_ := As_ (Kd.S_drew HO_775000.out)
         have n2_ := As_ (bkD BK774.out)
         have n3_ := As_ (bkD BK786.out)
         have n4_ := As_ (bkD BK787.out)
         have n5_ := As_ (bwD HB.out)
         clear HO_4 HO_775000 BK774 BK786 BK787 HB
         revert n0_ n1_ n2_ n3_ n4_ n5_;intro HO_4 HO_775000 BK774 BK786 BK787 HB
         have p788 : 0 ≤ (x5_2 : Int) := odT zA_
         have q788 : x5_2 < (t775.length : Int) := odT zA_
         obtain ⟨ad788,e788,hx788_0⟩ := Kd.at_int (Kd.R_reads' HO_4.out).2.2 x5_2 p788 q788
         cases e788
         replace p788 := eq_true p788
         replace q788 := eq_true q788
         have p789 : 0 ≤ (x6_3 : Int) := odT zA_
         have q789 : x6_3 < (t775.length : Int) := odT zA_
         obtain ⟨ad789,e789,hx789_0⟩ := Kd.at_int (Kd.R_reads' HO_4.out).2.2 x6_3 p789 q789
         obtain rfl : ad788 = ad789 := (by injection e789)
         replace p789 := eq_true p789
         replace q789 := eq_true q789
         refine start_ (n := 13) (S := fun w' => w'.cell? ⟨gb786,0,none⟩ = some (.slice Ao8 t770.length co8) ∧ w'.cell? ⟨gb786,1,none⟩ = some (.int .i64 x5_2) ∧ w'.cell? ⟨gb787,0,none⟩ = some (.slice Ao8 t770.length co8) ∧ w'.cell? ⟨gb787,1,none⟩ = some (.int .i64 x6_3) ∧ w'.cell? (ad788.add (x5_2).toNat) = some (.int .i64 (rd t775 x5_2)) ∧ w'.cell? (ad788.add (x6_3).toNat) = some (.int .i64 (rd t775 x6_3))) (ds := []) (bl_ 0 13) (by kernel_rfl) rfl rfl ⟨(bkC BK786.out 0).trans rfl,(bkC BK786.out 1).trans rfl,(bkC BK787.out 0).trans rfl,(bkC BK787.out 1).trans rfl,hx788_0,hx789_0⟩ (fun hHeld => ?_);refine with_tabW laws_FnClassesOf.tab15 laws_FnClassesOf.bits15 (fun HT_ HW_ => ?_)
         generalize w47.drew = w48 at HO_4 HO_775000 BK774 BK786 BK787 HB hx788_0 hx789_0 hHeld ⊢
         refine pQ 0 49 (bl_ 1 13) HT_ rfl ?_
         refine pQ 1 50 (bl_ 3 13) HT_ rfl ?_
         refine pQ 2 51 (bl_ 7 13) HT_ rfl ?_
         refine pQ 4 53 (bl_ 23 13) HT_ rfl ?_
         refine pQ 5 54 (bl_ 55 13) HT_ rfl ?_
         refine pQ 6 55 (bl_ 119 13) HT_ rfl ?_
         refine tP 3 52 (bl_ 127 13) ?_ HT_ HW_ rfl (.inl ⟨by rfl,?_⟩) hHeld ?_ ?_ ?_;rotate_left;(rintro w' ⟨s0,s1,s2,s3,s4,s5⟩;go_simp;with_reducible rfl);rotate_left;(simp only [Act.put,sq_,i64_w,i32_w];rfl)
         refine tP 7 56 (bl_ 255 13) ?_ HT_ HW_ rfl (.inl ⟨by rfl,?_⟩) hHeld ?_ ?_ ?_;rotate_left;(rintro w' ⟨s0,s1,s2,s3,s4,s5⟩;go_simp;with_reducible rfl);rotate_left;(simp only [Act.put,sq_,i64_w,i32_w];rfl)
         refine pQ 8 57 (bl_ 511 13) HT_ rfl ?_
         refine tP 9 58 (bl_ 1023 13) ?_ HT_ HW_ rfl (.inl ⟨by rfl,?_⟩) hHeld ?_ ?_ ?_;rotate_left;(rintro w' ⟨s0,s1,s2,s3,s4,s5⟩;go_simp;with_reducible rfl);rotate_left;(simp only [Act.put,sq_,i64_w,i32_w];rfl)
         refine tP 10 59 (bl_ 2047 13) ?_ HT_ HW_ rfl (.inl ⟨by rfl,?_⟩) hHeld ?_ ?_ ?_;rotate_left;(rintro w' ⟨s0,s1,s2,s3,s4,s5⟩;go_simp;with_reducible rfl);rotate_left;(simp only [Act.put,sq_,i64_w,i32_w];rfl)
         refine one_ (i := 11) (N := some 60) (bl_ 4095 13) rfl rfl (one_of HT_.out (by kernel_rfl)) (by decide) (fun K hK => ?_)
         refine goes_ Try.func29 (by kernel_rfl) rfl #[.agg #[.slice Ao8 t770.length co8,.int .i64 x5_2],.agg #[.slice Ao8 t770.length co8,.int .i64 x6_3]] (by rfl) rfl rfl zM_ ?_
         with_reducible refine (impl_EqualDeep.calls k3 _ _ t770 x5_2 _ _ t770 x6_3 t790 _ ?side1 ?side2 ?side3 ?side4 A36.out).mono ?_
         (case side1 => exact zC_ (Kd.S_reads' HO_775000.out).2.2)
         (case side2 => exact (Kd.S_reads' HO_775000.out).2.1)
         (case side3 => exact zC_ (Kd.S_reads' HO_775000.out).2.2)
         (case side4 => exact (Kd.S_reads' HO_775000.out).2.1)
         rintro e w49 ⟨rfl,hb⟩
         have HS4_ := (hb.cell (bwL _ _ (hHeld.2.2.2.2.1))).trans (hHeld.2.2.2.2.1)
         have HS5_ := (hb.cell (bwL _ _ (hHeld.2.2.2.2.2))).trans (hHeld.2.2.2.2.2)
         refine ⟨_,rfl,?_⟩
         have n0_ := As_ (Kd.R_below (zR_ HO_4.out) hb)
         have n1_ := As_ (Kd.S_below (zS_ HO_775000.out) hb)
         have n2_ := As_ (zkb BK774.out hb)
         have n3_ := As_ (zkb BK786.out hb)
         have n4_ := As_ (zkb BK787.out hb)
         have n5_ := As_ (bwT (zb3 HB.out GE774.out GE786.out GE787.out) hb)
         clear HO_4 HO_775000 BK774 BK786 BK787 HB
         revert n0_ n1_ n2_ n3_ n4_ n5_;intro HO_4 HO_775000 BK774 BK786 BK787 HB
         refine hK.out _ _ ⟨(bkC BK786.out 0).trans rfl,(bkC BK786.out 1).trans rfl,(bkC BK787.out 0).trans rfl,(bkC BK787.out 1).trans rfl,HS4_,HS5_⟩ (fun hHeld => ?_)
         clear hK K
         refine norm_ (a' := ?_) ?_ ?_
         rotate_left
         ·show Act.put _ (some 60) _ = _
          simp only [Act.put,sq_,i64_w,i32_w]
          rfl
         refine pQ 12 61 (bl_ 8191 13) HT_ rfl ?_
         refine done_ (done_of HT_.out (by kernel_rfl)) ?_
         try go_wp2
         go_ret
         exact ⟨zE_,zb3 HB.out GE774.out GE786.out GE787.out⟩
        rw [if_neg c37] at H
        have c37b0 : (((rd t775 x5_2) == (rd t775 x6_3)) != t790) = false := by simpa using c37
        (try (have c37b1 : decide (((rd t775 x5_2) == (rd t775 x6_3)) = t790) = true := by simpa using c37))
        (try (have c37b2 : (((rd t775 x5_2) == (rd t775 x6_3)) == t790) = true := by simpa using c37))
        clear c37
        have H' := As_ H
        clear H
        obtain ⟨hcz50_0,hcz50_1,hfz50_0,hfz50_1⟩ := bk2 BK774.out
        try go_wp2_with (first|((with_reducible refine gate_dst (N := 7) rfl ?_);(try (refine gate_guard (by rfl) ?_;dsimp only));refine box_event ?hg (N := 7) ?hd (cs := #[.slice none 0 0,.int .i64 0]) (t := 25) ?hr ?_;(case hd => rfl);(case hg => rfl);(case hr => go_simp <;> rfl);intro gb786 hg w51 hbox hb;have n0_ := As_ (Kd.R_below (zR_ HO_4.out) hb);have n1_ := As_ (Kd.S_below (zS_ HO_775000.out) hb);have n2_ := As_ (zkb BK774.out hb);have n3_ := As_ (bwT (zb1 HB.out GE774.out) hb);have n4_ := As_ (hbox);have n5_ := As_ ((by rw [hg];exact (bwZ (zb1 HB.out GE774.out)) : w.heap.size ≤ gb786));have n6_ := As_ ((by rw [hg];exact (bwZ (zb1 HB.out GE774.out)) : w.heap.size ≤ gb786));have n7_ := As_ ((by rw [hg];exact Nat.ne_of_lt (zkl BK774.out) : gb774 ≠ gb786));have n8_ := As_ ((by rw [hg];exact Nat.ne_of_gt (zkl BK774.out) : gb786 ≠ gb774));clear HO_4 HO_775000 BK774 HB;revert n0_ n1_ n2_ n3_ n4_ n5_ n6_ n7_ n8_;intro HO_4 HO_775000 BK774 HB BK786 GW786 GE786 NB774_786 NB786_774;clear hb hbox hg;have hnb52 := NB786_774.out;have hnc52 := NB774_786.out;obtain ⟨hcz53_0,hcz53_1,hfz53_0,hfz53_1⟩ := bk2 BK786.out;obtain ⟨hcz54_0,hcz54_1,hfz54_0,hfz54_1⟩ := bk2 BK774.out)|((with_reducible refine gate_dst (N := 8) rfl ?_);(try (refine gate_guard (by rfl) ?_;dsimp only));refine box_event ?hg (N := 8) ?hd (cs := #[.slice none 0 0,.int .i64 0]) (t := 25) ?hr ?_;(case hd => rfl);(case hg => rfl);(case hr => go_simp <;> rfl);intro gb787 hg w55 hbox hb;have n0_ := As_ (Kd.R_below (by (with_reducible repeat (first|apply Kd.R_alloc|apply Kd.R_drewN|apply Kd.R_drew));exact (Kd.R_mono (Kd.R_far (p := ⟨gb786,1,none⟩) (Kd.R_far (p := ⟨gb786,0,none⟩) (Kd.R_types HO_4.out BK786.out (by decide)) (fun _ hk => hk.2) (.slice Ao8 t770.length co8)) (fun _ hk => hk.2) (.int .i64 x5_2)) (fun _ h_ => h_.1))) hb);have n1_ := As_ (Kd.S_below (by (with_reducible repeat (first|apply Kd.S_alloc|apply Kd.S_drewN|apply Kd.S_drew));exact (Kd.S_mono (Kd.S_far (p := ⟨gb786,1,none⟩) (Kd.S_far (p := ⟨gb786,0,none⟩) (Kd.S_types HO_775000.out BK786.out (by decide)) (fun _ hk => hk.2) (.slice Ao8 t770.length co8)) (fun _ hk => hk.2) (.int .i64 x5_2)) (fun _ h_ => h_.1))) hb);have n2_ := As_ (blk_below (g := gb774) (o := .cells #[.slice Ao8 t770.length co8,.int .i64 t773] 25 (0,0)) (by (with_reducible repeat first|apply bkN|apply bkD|apply bkA);refine blk_far ?_ NB774_786.out _;(with_reducible repeat first|apply bkN|apply bkD|apply bkA);refine blk_far ?_ NB774_786.out _;(with_reducible repeat first|apply bkN|apply bkD|apply bkA);exact BK774.out) hb);have n3_ := As_ (blk_below (g := gb786) (o := .cells #[.slice Ao8 t770.length co8,.int .i64 x5_2] 25 (0,0)) (by (with_reducible repeat first|apply bkN|apply bkD|apply bkA);refine blk_put (cs := #[.slice Ao8 t770.length co8,.int .i64 0]) ?_ 1 _ rfl;(with_reducible repeat first|apply bkN|apply bkD|apply bkA);refine blk_put (cs := #[.slice none 0 0,.int .i64 0]) ?_ 0 _ rfl;(with_reducible repeat first|apply bkN|apply bkD|apply bkA);exact BK786.out) hb);have n4_ := As_ (bwT (zb2 HB.out GE774.out GE786.out) hb);have n5_ := As_ (hbox);have n6_ := As_ ((by rw [hg];exact (bwZ (zb2 HB.out GE774.out GE786.out)) : w.heap.size ≤ gb787));have n7_ := As_ ((by rw [hg];exact (bwZ (zb2 HB.out GE774.out GE786.out)) : w.heap.size ≤ gb787));have n8_ := As_ ((by rw [hg];exact Nat.ne_of_lt (blk_lt (g := gb774) (o := .cells #[.slice Ao8 t770.length co8,.int .i64 t773] 25 (0,0)) (by (with_reducible repeat first|apply bkN|apply bkD|apply bkA);refine blk_far ?_ NB774_786.out _;(with_reducible repeat first|apply bkN|apply bkD|apply bkA);refine blk_far ?_ NB774_786.out _;(with_reducible repeat first|apply bkN|apply bkD|apply bkA);exact BK774.out)) : gb774 ≠ gb787));have n9_ := As_ ((by rw [hg];exact Nat.ne_of_gt (blk_lt (g := gb774) (o := .cells #[.slice Ao8 t770.length co8,.int .i64 t773] 25 (0,0)) (by (with_reducible repeat first|apply bkN|apply bkD|apply bkA);refine blk_far ?_ NB774_786.out _;(with_reducible repeat first|apply bkN|apply bkD|apply bkA);refine blk_far ?_ NB774_786.out _;(with_reducible repeat first|apply bkN|apply bkD|apply bkA);exact BK774.out)) : gb787 ≠ gb774));have n10_ := As_ ((by rw [hg];exact Nat.ne_of_lt (blk_lt (g := gb786) (o := .cells #[.slice Ao8 t770.length co8,.int .i64 x5_2] 25 (0,0)) (by (with_reducible repeat first|apply bkN|apply bkD|apply bkA);refine blk_put (cs := #[.slice Ao8 t770.length co8,.int .i64 0]) ?_ 1 _ rfl;(with_reducible repeat first|apply bkN|apply bkD|apply bkA);refine blk_put (cs := #[.slice none 0 0,.int .i64 0]) ?_ 0 _ rfl;(with_reducible repeat first|apply bkN|apply bkD|apply bkA);exact BK786.out)) : gb786 ≠ gb787));have n11_ := As_ ((by rw [hg];exact Nat.ne_of_gt (blk_lt (g := gb786) (o := .cells #[.slice Ao8 t770.length co8,.int .i64 x5_2] 25 (0,0)) (by (with_reducible repeat first|apply bkN|apply bkD|apply bkA);refine blk_put (cs := #[.slice Ao8 t770.length co8,.int .i64 0]) ?_ 1 _ rfl;(with_reducible repeat first|apply bkN|apply bkD|apply bkA);refine blk_put (cs := #[.slice none 0 0,.int .i64 0]) ?_ 0 _ rfl;(with_reducible repeat first|apply bkN|apply bkD|apply bkA);exact BK786.out)) : gb787 ≠ gb786));clear HO_4 HO_775000 BK774 BK786 HB;revert n0_ n1_ n2_ n3_ n4_ n5_ n6_ n7_ n8_ n9_ n10_ n11_;intro HO_4 HO_775000 BK774 BK786 HB BK787 GW787 GE787 NB774_787 NB787_774 NB786_787 NB787_786;clear hb hbox hg;have hnb56 := NB787_774.out;have hnc56 := NB774_787.out;have hnb57 := NB787_786.out;have hnc57 := NB786_787.out;obtain ⟨hcz58_0,hcz58_1,hfz58_0,hfz58_1⟩ := bk2 BK787.out))
        have n0_ : Aside0 (Kd.R (Kd.int .i64) 3 ((w55.setCell ⟨gb787,0,none⟩ (.slice Ao8 t770.length co8)).setCell ⟨gb787,1,none⟩ (.int .i64 x6_3)) w.heap.size (fun _ => True) (.slice Ao30 t775.length co30) t775) := ⟨by (with_reducible repeat (first|apply Kd.R_alloc|apply Kd.R_drewN|apply Kd.R_drew));exact Kd.R_mono (Kd.R_far (p := ⟨gb787,1,none⟩) (Kd.R_far (p := ⟨gb787,0,none⟩) (Kd.R_types HO_4.out BK787.out (by decide)) (fun _ hk => hk.2) (.slice Ao8 t770.length co8)) (fun _ hk => hk.2) (.int .i64 x6_3)) (fun _ hk => trivial)⟩
        have n1_ : Aside0 (Kd.S k58 58 ((w55.setCell ⟨gb787,0,none⟩ (.slice Ao8 t770.length co8)).setCell ⟨gb787,1,none⟩ (.int .i64 x6_3)) w.heap.size (fun k_ => some k_ ≠ (.slice Ao30 t775.length co30 : Value).ownBlock) (.slice Ao8 t770.length co8) t770) := ⟨by (with_reducible repeat (first|apply Kd.S_alloc|apply Kd.S_drewN|apply Kd.S_drew));exact Kd.S_mono (Kd.S_far (p := ⟨gb787,1,none⟩) (Kd.S_far (p := ⟨gb787,0,none⟩) (Kd.S_types HO_775000.out BK787.out (by decide)) (fun _ hk => hk.2) (.slice Ao8 t770.length co8)) (fun _ hk => hk.2) (.int .i64 x6_3)) (fun _ hk => hk.1)⟩
        have n2_ : Aside0 (((w55.setCell ⟨gb787,0,none⟩ (.slice Ao8 t770.length co8)).setCell ⟨gb787,1,none⟩ (.int .i64 x6_3)).heap[gb774]? = some (.cells #[.slice Ao8 t770.length co8,.int .i64 t773] 25 (0,0))) := ⟨by (with_reducible repeat first|apply bkN|apply bkD|apply bkA);refine blk_far ?_ NB774_787.out _;(with_reducible repeat first|apply bkN|apply bkD|apply bkA);refine blk_far ?_ NB774_787.out _;(with_reducible repeat first|apply bkN|apply bkD|apply bkA);exact BK774.out⟩
        have n3_ : Aside0 (((w55.setCell ⟨gb787,0,none⟩ (.slice Ao8 t770.length co8)).setCell ⟨gb787,1,none⟩ (.int .i64 x6_3)).heap[gb786]? = some (.cells #[.slice Ao8 t770.length co8,.int .i64 x5_2] 25 (0,0))) := ⟨by (with_reducible repeat first|apply bkN|apply bkD|apply bkA);refine blk_far ?_ NB786_787.out _;(with_reducible repeat first|apply bkN|apply bkD|apply bkA);refine blk_far ?_ NB786_787.out _;(with_reducible repeat first|apply bkN|apply bkD|apply bkA);exact BK786.out⟩
        have n4_ : Aside0 (((w55.setCell ⟨gb787,0,none⟩ (.slice Ao8 t770.length co8)).setCell ⟨gb787,1,none⟩ (.int .i64 x6_3)).heap[gb787]? = some (.cells #[.slice Ao8 t770.length co8,.int .i64 x6_3] 25 (0,0))) := ⟨by (with_reducible repeat first|apply bkN|apply bkD|apply bkA);refine blk_put (cs := #[.slice Ao8 t770.length co8,.int .i64 0]) ?_ 1 _ rfl;(with_reducible repeat first|apply bkN|apply bkD|apply bkA);refine blk_put (cs := #[.slice none 0 0,.int .i64 0]) ?_ 0 _ rfl;(with_reducible repeat first|apply bkN|apply bkD|apply bkA);exact BK787.out⟩
        have n5_ : Aside0 (Below w.heap.size w ((w55.setCell ⟨gb787,0,none⟩ (.slice Ao8 t770.length co8)).setCell ⟨gb787,1,none⟩ (.int .i64 x6_3))) := ⟨zb3 HB.out GE774.out GE786.out GE787.out⟩
        generalize ((w55.setCell ⟨gb787,0,none⟩ (.slice Ao8 t770.length co8)).setCell ⟨gb787,1,none⟩ (.int .i64 x6_3)) = w59 at n0_ n1_ n2_ n3_ n4_ n5_ ⊢
        revert n0_ n1_ n2_ n3_ n4_ n5_;intro HO_4 HO_775000 BK774 BK786 BK787 HB
        have n0_ := As_ (Kd.R_drew HO_4.out)
        have n1_ := As_ (Kd.S_drew HO_775000.out)
        have n2_ := As_ (bkD BK774.out)
        have n3_ := As_ (bkD BK786.out)
        have n4_ := As_ (bkD BK787.out)
        have n5_ := As_ (bwD HB.out)
        clear HO_4 HO_775000 BK774 BK786 BK787 HB
        revert n0_ n1_ n2_ n3_ n4_ n5_;intro HO_4 HO_775000 BK774 BK786 BK787 HB
        have p788 : 0 ≤ (x5_2 : Int) := odT zA_
        have q788 : x5_2 < (t775.length : Int) := odT zA_
        obtain ⟨ad788,e788,hx788_0⟩ := Kd.at_int (Kd.R_reads' HO_4.out).2.2 x5_2 p788 q788
        cases e788
        replace p788 := eq_true p788
        replace q788 := eq_true q788
        have p789 : 0 ≤ (x6_3 : Int) := odT zA_
        have q789 : x6_3 < (t775.length : Int) := odT zA_
        obtain ⟨ad789,e789,hx789_0⟩ := Kd.at_int (Kd.R_reads' HO_4.out).2.2 x6_3 p789 q789
        obtain rfl : ad788 = ad789 := (by injection e789)
        replace p789 := eq_true p789
        replace q789 := eq_true q789
        refine start_ (n := 13) (S := fun w' => w'.cell? ⟨gb786,0,none⟩ = some (.slice Ao8 t770.length co8) ∧ w'.cell? ⟨gb786,1,none⟩ = some (.int .i64 x5_2) ∧ w'.cell? ⟨gb787,0,none⟩ = some (.slice Ao8 t770.length co8) ∧ w'.cell? ⟨gb787,1,none⟩ = some (.int .i64 x6_3) ∧ w'.cell? (ad788.add (x5_2).toNat) = some (.int .i64 (rd t775 x5_2)) ∧ w'.cell? (ad788.add (x6_3).toNat) = some (.int .i64 (rd t775 x6_3))) (ds := []) (bl_ 0 13) (by kernel_rfl) rfl rfl ⟨(bkC BK786.out 0).trans rfl,(bkC BK786.out 1).trans rfl,(bkC BK787.out 0).trans rfl,(bkC BK787.out 1).trans rfl,hx788_0,hx789_0⟩ (fun hHeld => ?_);refine with_tabW laws_FnClassesOf.tab15 laws_FnClassesOf.bits15 (fun HT_ HW_ => ?_)
        generalize w59.drew = w60 at HO_4 HO_775000 BK774 BK786 BK787 HB hx788_0 hx789_0 hHeld ⊢
        refine pQ 0 49 (bl_ 1 13) HT_ rfl ?_
        refine pQ 1 50 (bl_ 3 13) HT_ rfl ?_
        refine pQ 2 51 (bl_ 7 13) HT_ rfl ?_
        refine pQ 4 53 (bl_ 23 13) HT_ rfl ?_
        refine pQ 5 54 (bl_ 55 13) HT_ rfl ?_
        refine pQ 6 55 (bl_ 119 13) HT_ rfl ?_
        refine tP 3 52 (bl_ 127 13) ?_ HT_ HW_ rfl (.inl ⟨by rfl,?_⟩) hHeld ?_ ?_ ?_;rotate_left;(rintro w' ⟨s0,s1,s2,s3,s4,s5⟩;go_simp;with_reducible rfl);rotate_left;(simp only [Act.put,sq_,i64_w,i32_w];rfl)
        refine tP 7 56 (bl_ 255 13) ?_ HT_ HW_ rfl (.inl ⟨by rfl,?_⟩) hHeld ?_ ?_ ?_;rotate_left;(rintro w' ⟨s0,s1,s2,s3,s4,s5⟩;go_simp;with_reducible rfl);rotate_left;(simp only [Act.put,sq_,i64_w,i32_w];rfl)
        refine pQ 8 57 (bl_ 511 13) HT_ rfl ?_
        refine tP 9 58 (bl_ 1023 13) ?_ HT_ HW_ rfl (.inl ⟨by rfl,?_⟩) hHeld ?_ ?_ ?_;rotate_left;(rintro w' ⟨s0,s1,s2,s3,s4,s5⟩;go_simp;with_reducible rfl);rotate_left;(simp only [Act.put,sq_,i64_w,i32_w];rfl)
        refine tP 10 59 (bl_ 2047 13) ?_ HT_ HW_ rfl (.inl ⟨by rfl,?_⟩) hHeld ?_ ?_ ?_;rotate_left;(rintro w' ⟨s0,s1,s2,s3,s4,s5⟩;go_simp;with_reducible rfl);rotate_left;(simp only [Act.put,sq_,i64_w,i32_w];rfl)
        refine one_ (i := 11) (N := some 60) (bl_ 4095 13) rfl rfl (one_of HT_.out (by kernel_rfl)) (by decide) (fun K hK => ?_)
        refine goes_ Try.func29 (by kernel_rfl) rfl #[.agg #[.slice Ao8 t770.length co8,.int .i64 x5_2],.agg #[.slice Ao8 t770.length co8,.int .i64 x6_3]] (by rfl) rfl rfl zM_ ?_
        with_reducible refine (impl_EqualDeep.calls k3 _ _ t770 x5_2 _ _ t770 x6_3 t790 _ ?side1 ?side2 ?side3 ?side4 A36.out).mono ?_
        (case side1 => exact zC_ (Kd.S_reads' HO_775000.out).2.2)
        (case side2 => exact (Kd.S_reads' HO_775000.out).2.1)
        (case side3 => exact zC_ (Kd.S_reads' HO_775000.out).2.2)
        (case side4 => exact (Kd.S_reads' HO_775000.out).2.1)
        rintro e w61 ⟨rfl,hb⟩
        have HS4_ := (hb.cell (bwL _ _ (hHeld.2.2.2.2.1))).trans (hHeld.2.2.2.2.1)
        have HS5_ := (hb.cell (bwL _ _ (hHeld.2.2.2.2.2))).trans (hHeld.2.2.2.2.2)
        refine ⟨_,rfl,?_⟩
        have n0_ := As_ (Kd.R_below (zR_ HO_4.out) hb)
        have n1_ := As_ (Kd.S_below (zS_ HO_775000.out) hb)
        have n2_ := As_ (zkb BK774.out hb)
        have n3_ := As_ (zkb BK786.out hb)
        have n4_ := As_ (zkb BK787.out hb)
        have n5_ := As_ (bwT (zb3 HB.out GE774.out GE786.out GE787.out) hb)
        clear HO_4 HO_775000 BK774 BK786 BK787 HB
        revert n0_ n1_ n2_ n3_ n4_ n5_;intro HO_4 HO_775000 BK774 BK786 BK787 HB
        refine hK.out _ _ ⟨(bkC BK786.out 0).trans rfl,(bkC BK786.out 1).trans rfl,(bkC BK787.out 0).trans rfl,(bkC BK787.out 1).trans rfl,HS4_,HS5_⟩ (fun hHeld => ?_)
        clear hK K
        refine norm_ (a' := ?_) ?_ ?_
        rotate_left
        ·show Act.put _ (some 60) _ = _
         simp only [Act.put,sq_,i64_w,i32_w]
         rfl
        refine pQ 12 61 (bl_ 8191 13) HT_ rfl ?_
        refine done_ (done_of HT_.out (by kernel_rfl)) ?_
        try go_wp2
        go_roundg k3
        case measure => have := HJ4.out;have := HK2.out;have := HK3.out;omega
        case rel => exact ⟨(wrap64 (x6_3 + 1)),zT_,H',⟨by have := HJ4.out;have := HK2.out;have := HK3.out;omega⟩,⟨by (with_reducible repeat (first|apply Kd.R_alloc|apply Kd.R_drewN|apply Kd.R_drew));exact HO_4.out⟩,⟨by (with_reducible repeat (first|apply Kd.S_alloc|apply Kd.S_drewN|apply Kd.S_drew));exact HO_775000.out⟩,⟨by (with_reducible repeat first|apply bkN|apply bkD|apply bkA);exact BK774.out⟩,⟨zb3 HB.out GE774.out GE786.out GE787.out⟩⟩
       rw [if_neg c31] at H
       have c31b0 : decide (x6_3 < x5_2) = false := deF c31
       clear c31
       by_cases c62 : 0 ≤ x5_2
       rotate_left
       ·rw [if_neg c62] at H
        exact absurd H (by simp)
       rw [if_pos c62] at H
       have c62b0 : decide (0 ≤ x5_2) = true := deT c62
       clear c62
       by_cases c63 : x5_2 < (t775.length : Int)
       rotate_left
       ·rw [if_neg c63] at H
        exact absurd H (by simp)
       rw [if_pos c63] at H
       have c63b0 : decide (x5_2 < (t775.length : Int)) = true := deT c63
       clear c63
       by_cases c64 : (rd t775 x5_2) > x5_2
       ·rw [if_pos c64] at H
        have c64b0 : decide (x5_2 < (rd t775 x5_2)) = true := deT c64
        clear c64
        obtain rfl := Option.some.inj H
        try go_wp2
        have n0_ := As_ (Kd.R_drew HO_4.out)
        have n1_ := As_ (Kd.S_drew HO_775000.out)
        have n2_ := As_ (bkD BK774.out)
        have n3_ := As_ (bwD HB.out)
        clear HO_4 HO_775000 BK774 HB
        revert n0_ n1_ n2_ n3_;intro HO_4 HO_775000 BK774 HB
        have p791 : 0 ≤ (x5_2 : Int) := odT zA_
        have q791 : x5_2 < (t775.length : Int) := odT zA_
        obtain ⟨ad791,e791,hx791_0⟩ := Kd.at_int (Kd.R_reads' HO_4.out).2.2 x5_2 p791 q791
        cases e791
        replace p791 := eq_true p791
        replace q791 := eq_true q791
        refine start_ (n := 20) (S := fun w' => w'.cell? (ad791.add (x5_2).toNat) = some (.int .i64 (rd t775 x5_2))) (ds := []) (bl_ 0 20) (by kernel_rfl) rfl rfl (hx791_0) (fun hHeld => ?_);refine with_tabW laws_FnClassesOf.tab17 laws_FnClassesOf.bits17 (fun HT_ HW_ => ?_)
        generalize wr.drew = w65 at HO_4 HO_775000 BK774 HB hx791_0 hHeld ⊢
        refine pQ 0 62 (bl_ 1 20) HT_ rfl ?_
        refine pQ 1 63 (bl_ 3 20) HT_ rfl ?_
        refine pQ 2 64 (bl_ 7 20) HT_ rfl ?_
        refine pQ 4 66 (bl_ 23 20) HT_ rfl ?_
        refine tP 3 65 (bl_ 31 20) ?_ HT_ HW_ rfl (.inl ⟨by rfl,?_⟩) hHeld ?_ ?_ ?_
        rotate_left
        ·intro w' s0
         go_simp
         with_reducible rfl
        rotate_left
        ·simp only [Act.put,sq_,i64_w,i32_w]
         rfl
        refine pQ 5 67 (bl_ 63 20) HT_ rfl ?_
        refine pQ 6 68 (bl_ 127 20) HT_ rfl ?_
        refine uP 7 69 (bl_ 255 20) ?_ HT_ rfl (.inr ⟨by rfl,rfl⟩) ?_ ?_;rotate_left;(simp only [Act.put,sq_,i64_w,i32_w];rfl)
        refine uP 8 70 (bl_ 511 20) ?_ HT_ rfl (.inr ⟨by rfl,rfl⟩) ?_ ?_;rotate_left;(simp only [Act.put,sq_,i64_w,i32_w];rfl)
        refine uP 9 71 (bl_ 1023 20) ?_ HT_ rfl (.inr ⟨by rfl,rfl⟩) ?_ ?_;rotate_left;(simp only [Act.put,sq_,i64_w,i32_w];rfl)
        refine uP 10 72 (bl_ 2047 20) ?_ HT_ rfl (.inr ⟨by rfl,rfl⟩) ?_ ?_;rotate_left;(simp only [Act.put,sq_,i64_w,i32_w];rfl)
        refine uP 11 73 (bl_ 4095 20) ?_ HT_ rfl (.inr ⟨by rfl,rfl⟩) ?_ ?_;rotate_left;(simp only [Act.put,sq_,i64_w,i32_w];rfl)
        refine uP 12 74 (bl_ 8191 20) ?_ HT_ rfl (.inr ⟨by rfl,rfl⟩) ?_ ?_;rotate_left;(simp only [Act.put,sq_,i64_w,i32_w];rfl)
        refine uP 13 75 (bl_ 16383 20) ?_ HT_ rfl (.inr ⟨by rfl,rfl⟩) ?_ ?_;rotate_left;(simp only [Act.put,sq_,i64_w,i32_w];rfl)
        refine uP 14 76 (bl_ 32767 20) ?_ HT_ rfl (.inr ⟨by rfl,rfl⟩) ?_ ?_;rotate_left;(simp only [Act.put,sq_,i64_w,i32_w];rfl)
        refine uP 15 77 (bl_ 65535 20) ?_ HT_ rfl (.inr ⟨by rfl,rfl⟩) ?_ ?_;rotate_left;(simp only [Act.put,sq_,i64_w,i32_w];rfl)
        refine uP 16 78 (bl_ 131071 20) ?_ HT_ rfl (.inr ⟨by rfl,rfl⟩) ?_ ?_;rotate_left;(simp only [Act.put,sq_,i64_w,i32_w];rfl)
        refine uP 17 79 (bl_ 262143 20) ?_ HT_ rfl (.inr ⟨by rfl,rfl⟩) ?_ ?_;rotate_left;(simp only [Act.put,sq_,i64_w,i32_w];rfl)
        refine uP 18 80 (bl_ 524287 20) ?_ HT_ rfl (.inr ⟨by rfl,rfl⟩) ?_ ?_;rotate_left;(simp only [Act.put,sq_,i64_w,i32_w];rfl)
        refine pQ 19 81 (bl_ 1048575 20) HT_ rfl ?_
        refine done_ (done_of HT_.out (by kernel_rfl)) ?_
        try go_wp2
        go_ret
        exact ⟨zE_,zb1 HB.out GE774.out⟩
       rw [if_neg c64] at H
       have c64b0 : decide (x5_2 < (rd t775 x5_2)) = false := deF c64
       clear c64
       by_cases c66 : 0 ≤ (rd t775 x5_2)
       rotate_left
       ·rw [if_neg c66] at H
        exact absurd H (by simp)
       rw [if_pos c66] at H
       have c66b0 : decide (0 ≤ (rd t775 x5_2)) = true := deT c66
       clear c66
       by_cases c67 : (rd t775 x5_2) < (t775.length : Int)
       rotate_left
       ·rw [if_neg c67] at H
        exact absurd H (by simp)
       rw [if_pos c67] at H
       have c67b0 : decide ((rd t775 x5_2) < (t775.length : Int)) = true := deT c67
       clear c67
       by_cases c68 : (rd t775 (rd t775 x5_2)) = (rd t775 x5_2)
       rotate_left
       ·rw [if_neg c68] at H
        have c68b0 : ((rd t775 (rd t775 x5_2)) == (rd t775 x5_2)) = false := beq_eq_false_iff_ne.mpr c68
        have c68b1 : ((rd t775 (rd t775 x5_2)) != (rd t775 x5_2)) = true := bne_iff_ne.mpr c68
        obtain rfl := Option.some.inj H
        try go_wp2
        have n0_ := As_ (Kd.R_drew HO_4.out)
        have n1_ := As_ (Kd.S_drew HO_775000.out)
        have n2_ := As_ (bkD BK774.out)
        have n3_ := As_ (bwD HB.out)
        clear HO_4 HO_775000 BK774 HB
        revert n0_ n1_ n2_ n3_;intro HO_4 HO_775000 BK774 HB
        have p791 : 0 ≤ (x5_2 : Int) := odT zA_
        have q791 : x5_2 < (t775.length : Int) := odT zA_
        obtain ⟨ad791,e791,hx791_0⟩ := Kd.at_int (Kd.R_reads' HO_4.out).2.2 x5_2 p791 q791
        cases e791
        replace p791 := eq_true p791
        replace q791 := eq_true q791
        have p792 : 0 ≤ (x5_2 : Int) := odT zA_
        have q792 : x5_2 < (t775.length : Int) := odT zA_
        obtain ⟨ad792,e792,hx792_0⟩ := Kd.at_int (Kd.R_reads' HO_4.out).2.2 x5_2 p792 q792
        obtain rfl : ad791 = ad792 := (by injection e792)
        replace p792 := eq_true p792
        replace q792 := eq_true q792
        have p793 : 0 ≤ ((rd t775 x5_2) : Int) := odT zA_
        have q793 : (rd t775 x5_2) < (t775.length : Int) := odT zA_
        obtain ⟨ad793,e793,hx793_0⟩ := Kd.at_int (Kd.R_reads' HO_4.out).2.2 (rd t775 x5_2) p793 q793
        obtain rfl : ad791 = ad793 := (by injection e793)
        replace p793 := eq_true p793
        replace q793 := eq_true q793
        have p794 : 0 ≤ (x5_2 : Int) := odT zA_
        have q794 : x5_2 < (t775.length : Int) := odT zA_
        obtain ⟨ad794,e794,hx794_0⟩ := Kd.at_int (Kd.R_reads' HO_4.out).2.2 x5_2 p794 q794
        obtain rfl : ad791 = ad794 := (by injection e794)
        replace p794 := eq_true p794
        replace q794 := eq_true q794
        refine start_ (n := 20) (S := fun w' => w'.cell? (ad791.add (x5_2).toNat) = some (.int .i64 (rd t775 x5_2)) ∧ w'.cell? (ad791.add (x5_2).toNat) = some (.int .i64 (rd t775 x5_2)) ∧ w'.cell? (ad791.add ((rd t775 x5_2)).toNat) = some (.int .i64 (rd t775 (rd t775 x5_2))) ∧ w'.cell? (ad791.add (x5_2).toNat) = some (.int .i64 (rd t775 x5_2))) (ds := []) (bl_ 0 20) (by kernel_rfl) rfl rfl ⟨hx791_0,hx792_0,hx793_0,hx794_0⟩ (fun hHeld => ?_);refine with_tabW laws_FnClassesOf.tab17 laws_FnClassesOf.bits17 (fun HT_ HW_ => ?_)
        generalize wr.drew = w70 at HO_4 HO_775000 BK774 HB hx791_0 hx792_0 hx793_0 hx794_0 hHeld ⊢
        refine pQ 0 62 (bl_ 1 20) HT_ rfl ?_
        refine pQ 1 63 (bl_ 3 20) HT_ rfl ?_
        refine pQ 2 64 (bl_ 7 20) HT_ rfl ?_
        refine pQ 4 66 (bl_ 23 20) HT_ rfl ?_
        refine tP 3 65 (bl_ 31 20) ?_ HT_ HW_ rfl (.inl ⟨by rfl,?_⟩) hHeld ?_ ?_ ?_;rotate_left;(rintro w' ⟨s0,s1,s2,s3⟩;go_simp;with_reducible rfl);rotate_left;(simp only [Act.put,sq_,i64_w,i32_w];rfl)
        refine pQ 5 67 (bl_ 63 20) HT_ rfl ?_
        refine pQ 6 68 (bl_ 127 20) HT_ rfl ?_
        refine pQ 7 69 (bl_ 255 20) HT_ rfl ?_
        refine pQ 8 70 (bl_ 511 20) HT_ rfl ?_
        refine pQ 9 71 (bl_ 1023 20) HT_ rfl ?_
        refine pQ 10 72 (bl_ 2047 20) HT_ rfl ?_
        refine pQ 14 76 (bl_ 18431 20) HT_ rfl ?_
        refine pQ 15 77 (bl_ 51199 20) HT_ rfl ?_
        refine pQ 16 78 (bl_ 116735 20) HT_ rfl ?_
        refine tP 11 73 (bl_ 118783 20) ?_ HT_ HW_ rfl (.inl ⟨by rfl,?_⟩) hHeld ?_ ?_ ?_;rotate_left;(rintro w' ⟨s0,s1,s2,s3⟩;go_simp;with_reducible rfl);rotate_left;(simp only [Act.put,sq_,i64_w,i32_w];rfl)
        refine pQ 12 74 (bl_ 122879 20) HT_ rfl ?_
        refine tP 13 75 (bl_ 131071 20) ?_ HT_ HW_ rfl (.inl ⟨by rfl,?_⟩) hHeld ?_ ?_ ?_;rotate_left;(rintro w' ⟨s0,s1,s2,s3⟩;go_simp;with_reducible rfl);rotate_left;(simp only [Act.put,sq_,i64_w,i32_w];rfl)
        refine tP 17 79 (bl_ 262143 20) ?_ HT_ HW_ rfl (.inl ⟨by rfl,?_⟩) hHeld ?_ ?_ ?_;rotate_left;(rintro w' ⟨s0,s1,s2,s3⟩;go_simp;with_reducible rfl);rotate_left;(simp only [Act.put,sq_,i64_w,i32_w];rfl)
        refine pQ 18 80 (bl_ 524287 20) HT_ rfl ?_
        refine pQ 19 81 (bl_ 1048575 20) HT_ rfl ?_
        refine done_ (done_of HT_.out (by kernel_rfl)) ?_
        try go_wp2
        go_ret
        exact ⟨zE_,zb1 HB.out GE774.out⟩
       rw [if_pos c68] at H
       have c68b0 : ((rd t775 (rd t775 x5_2)) == (rd t775 x5_2)) = true := beq_iff_eq.mpr c68
       have c68b1 : ((rd t775 (rd t775 x5_2)) != (rd t775 x5_2)) = false := bne_eq_false_iff_eq.mpr c68
       clear c68
       have H' := As_ H
       clear H
       try go_wp2
       have n0_ := As_ (Kd.R_drew HO_4.out)
       have n1_ := As_ (Kd.S_drew HO_775000.out)
       have n2_ := As_ (bkD BK774.out)
       have n3_ := As_ (bwD HB.out)
       clear HO_4 HO_775000 BK774 HB
       revert n0_ n1_ n2_ n3_;intro HO_4 HO_775000 BK774 HB
       have p791 : 0 ≤ (x5_2 : Int) := odT zA_
       have q791 : x5_2 < (t775.length : Int) := odT zA_
       obtain ⟨ad791,e791,hx791_0⟩ := Kd.at_int (Kd.R_reads' HO_4.out).2.2 x5_2 p791 q791
       cases e791
       replace p791 := eq_true p791
       replace q791 := eq_true q791
       have p792 : 0 ≤ (x5_2 : Int) := odT zA_
       have q792 : x5_2 < (t775.length : Int) := odT zA_
       obtain ⟨ad792,e792,hx792_0⟩ := Kd.at_int (Kd.R_reads' HO_4.out).2.2 x5_2 p792 q792
       obtain rfl : ad791 = ad792 := (by injection e792)
       replace p792 := eq_true p792
       replace q792 := eq_true q792
       have p793 : 0 ≤ ((rd t775 x5_2) : Int) := odT zA_
       have q793 : (rd t775 x5_2) < (t775.length : Int) := odT zA_
       obtain ⟨ad793,e793,hx793_0⟩ := Kd.at_int (Kd.R_reads' HO_4.out).2.2 (rd t775 x5_2) p793 q793
       obtain rfl : ad791 = ad793 := (by injection e793)
       replace p793 := eq_true p793
       replace q793 := eq_true q793
       have p794 : 0 ≤ (x5_2 : Int) := odT zA_
       have q794 : x5_2 < (t775.length : Int) := odT zA_
       obtain ⟨ad794,e794,hx794_0⟩ := Kd.at_int (Kd.R_reads' HO_4.out).2.2 x5_2 p794 q794
       obtain rfl : ad791 = ad794 := (by injection e794)
       replace p794 := eq_true p794
       replace q794 := eq_true q794
       refine start_ (n := 20) (S := fun w' => w'.cell? (ad791.add (x5_2).toNat) = some (.int .i64 (rd t775 x5_2)) ∧ w'.cell? (ad791.add (x5_2).toNat) = some (.int .i64 (rd t775 x5_2)) ∧ w'.cell? (ad791.add ((rd t775 x5_2)).toNat) = some (.int .i64 (rd t775 (rd t775 x5_2))) ∧ w'.cell? (ad791.add (x5_2).toNat) = some (.int .i64 (rd t775 x5_2))) (ds := []) (bl_ 0 20) (by kernel_rfl) rfl rfl ⟨hx791_0,hx792_0,hx793_0,hx794_0⟩ (fun hHeld => ?_);refine with_tabW laws_FnClassesOf.tab17 laws_FnClassesOf.bits17 (fun HT_ HW_ => ?_)
       generalize wr.drew = w69 at HO_4 HO_775000 BK774 HB hx791_0 hx792_0 hx793_0 hx794_0 hHeld ⊢
       refine pQ 0 62 (bl_ 1 20) HT_ rfl ?_
       refine pQ 1 63 (bl_ 3 20) HT_ rfl ?_
       refine pQ 2 64 (bl_ 7 20) HT_ rfl ?_
       refine pQ 4 66 (bl_ 23 20) HT_ rfl ?_
       refine tP 3 65 (bl_ 31 20) ?_ HT_ HW_ rfl (.inl ⟨by rfl,?_⟩) hHeld ?_ ?_ ?_;rotate_left;(rintro w' ⟨s0,s1,s2,s3⟩;go_simp;with_reducible rfl);rotate_left;(simp only [Act.put,sq_,i64_w,i32_w];rfl)
       refine pQ 5 67 (bl_ 63 20) HT_ rfl ?_
       refine pQ 6 68 (bl_ 127 20) HT_ rfl ?_
       refine pQ 7 69 (bl_ 255 20) HT_ rfl ?_
       refine pQ 8 70 (bl_ 511 20) HT_ rfl ?_
       refine pQ 9 71 (bl_ 1023 20) HT_ rfl ?_
       refine pQ 10 72 (bl_ 2047 20) HT_ rfl ?_
       refine pQ 14 76 (bl_ 18431 20) HT_ rfl ?_
       refine pQ 15 77 (bl_ 51199 20) HT_ rfl ?_
       refine pQ 16 78 (bl_ 116735 20) HT_ rfl ?_
       refine tP 11 73 (bl_ 118783 20) ?_ HT_ HW_ rfl (.inl ⟨by rfl,?_⟩) hHeld ?_ ?_ ?_;rotate_left;(rintro w' ⟨s0,s1,s2,s3⟩;go_simp;with_reducible rfl);rotate_left;(simp only [Act.put,sq_,i64_w,i32_w];rfl)
       refine pQ 12 74 (bl_ 122879 20) HT_ rfl ?_
       refine tP 13 75 (bl_ 131071 20) ?_ HT_ HW_ rfl (.inl ⟨by rfl,?_⟩) hHeld ?_ ?_ ?_;rotate_left;(rintro w' ⟨s0,s1,s2,s3⟩;go_simp;with_reducible rfl);rotate_left;(simp only [Act.put,sq_,i64_w,i32_w];rfl)
       refine tP 17 79 (bl_ 262143 20) ?_ HT_ HW_ rfl (.inl ⟨by rfl,?_⟩) hHeld ?_ ?_ ?_;rotate_left;(rintro w' ⟨s0,s1,s2,s3⟩;go_simp;with_reducible rfl);rotate_left;(simp only [Act.put,sq_,i64_w,i32_w];rfl)
       refine pQ 18 80 (bl_ 524287 20) HT_ rfl ?_
       refine pQ 19 81 (bl_ 1048575 20) HT_ rfl ?_
       refine done_ (done_of HT_.out (by kernel_rfl)) ?_
       try go_wp2
       go_roundg k3
       case measure => have := HJ4.out;have := HK2.out;have := HK3.out;omega
       case rel => exact ⟨(wrap64 (x5_2 + 1)),zT_,H',⟨by have := HJ4.out;have := HK2.out;have := HK3.out;omega⟩,⟨by (with_reducible repeat (first|apply Kd.R_alloc|apply Kd.R_drewN|apply Kd.R_drew));exact HO_4.out⟩,⟨by (with_reducible repeat (first|apply Kd.S_alloc|apply Kd.S_drewN|apply Kd.S_drew));exact HO_775000.out⟩,⟨by (with_reducible repeat first|apply bkN|apply bkD|apply bkA);exact BK774.out⟩,⟨zb1 HB.out GE774.out⟩⟩
/-- THE ONE PURE STATEMENT of laws_FnClassesOf: yours. -/
def laws_FnClassesOf.Pure : Prop := ∀ (l0 : List Int),l0.length ≤ maxLen → l0.length * 1 ≤ 140737488351232 → (∀ x ∈ l0,(Lit.int .u8 x).wf = true) → ∃ k,laws_FnClassesOf.f k l0 = some true
theorem laws_FnClassesOf.walk (P : laws_FnClassesOf.Pure) (a0 : Option Addr) (len0 cap0 : Nat) (z0 : List Int) (w : World) (w0 : (a0 = none ∧ len0 = 0 ∧ cap0 = 0 ∧ z0 = []) ∨ ∃ x,a0 = some x ∧ len0 ≤ cap0 ∧ cap0 ≤ maxLen ∧ z0.length = cap0 ∧ (∀ i,i < z0.length → w.cell? (x.add i) = some (.int .u8 (z0.getD i 0))) ∧ ∀ n ∈ z0,(Lit.int .u8 n).wf = true) (y0 : len0 * 1 ≤ 140737488351232) :
  Calls Try.prog 6 #[.slice a0 len0 cap0] w fun e w' => e = .returned (.bool true) ∧ Below w.heap.size w w' := by
 obtain ⟨l0,rfl,hr0,hm0,hw0,hc0⟩ := ReadsInt.ofRowC w0
 obtain ⟨k,h⟩ := P l0 hm0 y0 hw0
 refine (laws_FnClassesOf.calls k _ _ l0 true w (Kd.C_of_reads (d := (0 : Int)) (h1 := fun _ => rfl) hr0) hc0 h).mono ?_
 rintro e w' ⟨rfl,hd⟩
 exact ⟨rfl,hd⟩

end Go.Proofs.Ytapaegcombfafaa.Q
