-- Written by wip/tools/qprint.py (a program of this claim's author) by means of the kit's printer.
import Derived.Test.YtfhakhbmbnbneaaQ0
import Derived.Test.YtfhakhbmbnbneaaQ29
import Derived.Test.YtfhakhbmbnbneaaQ30
import Derived.Test.YtfhakhbmbnbneaaQ60
import Derived.Test.YtfhakhbmbnbneaaQ61
import Derived.Test.YtfhakhbmbnbneaaQ90
namespace Go.Proofs.Ytfhakhbmbnbneaa.Q
open Go.RowKit Go.Proofs.YtfhakhbmbnbneaaW.PrintWords Go.Proofs.YtfhakhbmbnbneaaW.PrintLast Go.Proofs.YtfhakhbmbnbneaaW.PrintMore
attribute [local go_sem] max2_int min2_int max_two min_two max_three min_three max_four min_four   -- for this text's walks alone
set_option linter.unusedVariables false
set_option linter.unusedSimpArgs false

/-! ### spec_DrawValidGraph: function 28 -/
def spec_DrawValidGraph.f (k : Nat) (l0 : List Int) : Option ((List (S45)) × Int) := (spec_newReader.f l0).bind fun bt718 => ((spec_anyGraph.f k bt718.1 bt718.2).bind fun bt721 => (some (bt721.1,bt721.2.1)))
set_option maxRecDepth 100000 in
theorem spec_DrawValidGraph.mono : ∀ a0 k,LeO (spec_DrawValidGraph.f k a0) (spec_DrawValidGraph.f (k + 1) a0) := by
 intro a0 k
 unfold spec_DrawValidGraph.f
 repeat' first
   | (with_reducible exact spec_anyGraph.mono _ _ _)
   | (with_reducible exact LeO.refl _)
   | (with_reducible exact LeO.none _)
   | (with_reducible refine LeO.ite ?_ ?_)
   | (with_reducible refine LeO.bind ?_ (fun _ => ?_))
   | exact spec_anyGraph.mono _ _ _
   | exact LeO.none _
   | refine LeO.ite ?_ ?_
   | refine LeO.bind ?_ (fun _ => ?_)
set_option maxHeartbeats 8000000 in
set_option maxRecDepth 100000 in
theorem spec_DrawValidGraph.calls (k : Nat) (A0 : Option Addr) (c0 : Nat) (l0 : List Int) (r1 : List (S45)) (r2 : Int) (w : World) (hr0 : Kd.C (Kd.int .u8) w A0 l0.length l0) (hc0 : l0.length ≤ c0) (h : spec_DrawValidGraph.f k l0 = some (r1,r2)) :
  Calls Try.prog 28 #[.slice A0 l0.length c0] w fun e w' => ∃ v0_ : Value,e = .returned (.agg #[v0_,.int .i64 r2]) ∧ Kd.S k45 45 w' w.heap.size (fun _ => True) v0_ r1 ∧ Below w.heap.size w w' := by
 have hu29 := Try.underlying29
 have HR0 := As_ hr0
 have HC0 := As_ hc0
 clear hr0 hc0
 have HB := As_ (Below.refl w.heap.size w)
 have H : ((spec_newReader.f l0).bind fun bt718 => ((spec_anyGraph.f k bt718.1 bt718.2).bind fun bt721 => (some (bt721.1,bt721.2.1)))) = some (r1,r2) := h
 clear h
 replace H := obS H
 obtain ⟨⟨t718,t719⟩,A20,H⟩ := H
 replace H : ((spec_anyGraph.f k t718 t719).bind fun bt721 => (some (bt721.1,bt721.2.1))) = some (r1,r2) := H
 have A2 := As_ A20
 clear A20
 replace H := obS H
 obtain ⟨⟨t721,t724,t725⟩,A30,H⟩ := H
 replace H : (some (t721,t724)) = some (r1,r2) := H
 have A3 := As_ A30
 clear A30
 simp only [Option.some.injEq,Prod.mk.injEq] at H
 obtain ⟨rfl,rfl⟩ := H
 go_enter Try.func28,Try.ntmps28
 go_wp2_with (first|((with_reducible refine gate_dst (N := 2) rfl ?_);refine box_event ?hg (N := 2) ?hd (cs := #[.slice none 0 0,.int .i64 0]) (t := 29) ?hr ?_;(case hd => rfl);(case hg => rfl);(case hr => go_simp <;> rfl);intro gb717 hg w4 hbox hb;have n0_ := As_ (bwT (zb0 HB.out) hb);have n1_ := As_ (hbox);have n2_ := As_ ((by rw [hg];exact (bwZ (zb0 HB.out)) : w.heap.size ≤ gb717));have n3_ := As_ ((by rw [hg];exact (bwZ (zb0 HB.out)) : w.heap.size ≤ gb717));clear HB;have HB := n0_;have BK717 := n1_;have GW717 := n2_;have GE717 := n3_;clear n0_ n1_ n2_ n3_;clear hb hbox hg)|((with_reducible refine gate_callee (f := 61) rfl ?_);refine goesL_ (some 4) rfl rfl Try.func61 (by kernel_rfl) rfl #[.slice A0 l0.length c0] rfl zM_ ?_;(with_reducible refine (spec_newReader.calls _ _ l0 t718 t719 w _ ?side1 ?side2 ?side3 A2.out).mono ?_);(case side1 => repeat (first|(with_reducible first|exact HB.out|apply bwA|apply bwN|apply bwD|refine bwS ?_ GE717.out)|exact HB.out));(case side2 => exact HR0.out);(case side3 => exact HC0.out);rintro e w5 ⟨g720,rfl,hi,hb,hb2⟩;refine ⟨_,rfl,?_⟩;have n0_ := As_ (zkb BK717.out hb2);have n1_ := As_ (hb);have n2_ := As_ (hi);have n3_ := As_ (IsS85.ne_blk hi (zkb BK717.out hb2) (by decide));have n4_ := As_ (Ne.symm (IsS85.ne_blk hi (zkb BK717.out hb2) (by decide)));clear BK717;clear HB;have BK717 := n0_;have HB := n1_;have HI720 := n2_;have NB720_717 := n3_;have NB717_720 := n4_;clear n0_ n1_ n2_ n3_ n4_;(try clear hb);(try clear hb2);(try clear hk);(try clear hi))|((with_reducible refine gate_callee (f := 60) rfl ?_);refine goesL_ (some 5) rfl rfl Try.func60 (by kernel_rfl) rfl #[.pointer (some ⟨g720,0,none⟩)] rfl zM_ ?_;(with_reducible refine (spec_anyGraph.calls k g720 t718 t719 t721 t724 t725 w _ ?side1 ?side2 A3.out).mono ?_);(case side1 => repeat (first|(with_reducible first|exact HI720.out|apply IsS85.alloc|apply IsS85.drewN|apply IsS85.drew|apply IsS85.set_1|refine IsS85.far ?_ NB720_717.out _)|exact HI720.out));(case side2 => repeat (first|(with_reducible first|exact HB.out|apply bwA|apply bwN|apply bwD|refine bwS ?_ (IsS85.ge HI720.out)|refine bwS ?_ GE717.out)|exact HB.out));rintro e w6 ⟨v722,rfl,ho0,hi,hb,hk⟩;refine ⟨_,rfl,?_⟩;have n0_ := As_ (KeepBut.blk hk (g' := gb717) (o := .cells #[.slice none 0 0,.int .i64 0] 29 (0,0)) (zk_ BK717.out) NB717_720.out (by simp));have n1_ := As_ (Kd.S_lower ho0 (bwZ (by repeat (first|(with_reducible first|exact HB.out|apply bwA|apply bwN|apply bwD|refine bwS ?_ (IsS85.ge HI720.out)|refine bwS ?_ GE717.out)|exact HB.out))));have n2_ := As_ (hb);have n3_ := As_ (hi);clear BK717;clear HB;clear HI720;have BK717 := n0_;have HO723 := n1_;have HB := n2_;have HI720 := n3_;clear n0_ n1_ n2_ n3_;(try clear hb);(try clear hb2);(try clear hk);(try clear hi);(try clear ho0);obtain ⟨Ao7,co7,eo7⟩ := Kd.S_slice HO723.out;subst eo7;have hnb8 := NB717_720.out;have hnc8 := NB720_717.out;have hcz9_0 : w6.cell? ⟨gb717,0,none⟩ = some (.slice none 0 0) := (bkC BK717.out 0).trans rfl;have hcz9_1 : w6.cell? ⟨gb717,1,none⟩ = some (.int .i64 0) := (bkC BK717.out 1).trans rfl;have hfz9_0 := bkF BK717.out 0;have hfz9_1 := bkF BK717.out 1))
 refine bodyPost_ret (results_cell_row rfl _ _ gb717 29 #[.slice Ao7 t721.length co7,.int .i64 t724] (0,0) _ rfl (by (with_reducible repeat (first|refine bkN ?_ _|refine bkD ?_|refine bkA ?_ _));refine blk_put (cs := #[.slice Ao7 t721.length co7,.int .i64 0]) ?_ 1 _ rfl;(with_reducible repeat (first|refine bkN ?_ _|refine bkD ?_|refine bkA ?_ _));refine blk_put (cs := #[.slice none 0 0,.int .i64 0]) ?_ 0 _ rfl;(with_reducible repeat (first|refine bkN ?_ _|refine bkD ?_|refine bkA ?_ _));exact BK717.out) Try.underlying29 rfl (by kernel_rfl)) rfl ?_
 exact ⟨_,by first|rfl|(simp [errW_none,errW_some] <;> rfl)|(simp [*,errW_none,errW_some] <;> rfl),by (with_reducible repeat (first|apply Kd.S_alloc|apply Kd.S_drewN|apply Kd.S_drew));exact Kd.S_mono (Kd.S_far (p := ⟨gb717,1,none⟩) (Kd.S_far (p := ⟨gb717,0,none⟩) (Kd.S_types HO723.out BK717.out (by decide)) (fun _ hk => hk.2) (.slice Ao7 t721.length co7)) (fun _ hk => hk.2) (.int .i64 t724)) (fun _ hk => trivial),by repeat (first|(with_reducible first|exact HB.out|apply bwA|apply bwN|apply bwD|refine bwS ?_ (IsS85.ge HI720.out)|refine bwS ?_ GE717.out)|exact HB.out)⟩

/-! ### laws_FnValidGraph: function 6 -/
mutual
def laws_FnValidGraph.j0 : Nat → Bool → Bool → List (S45) → Int → Option (Bool)
 | 0,_,_,_,_ => none
 | k + 1,x4,x20,x733000,x733001 => if x20 = true then ((spec_ValidGraph.f k x733000 x733001).bind fun t735 => (some (x4 == t735))) else (laws_FnValidGraph.l0 k 0 x733000 x733001)
def laws_FnValidGraph.l0 : Nat → Int → List (S45) → Int → Option (Bool)
 | 0,_,_,_ => none
 | k + 1,x5,x733000,x733001 => if x5 < (x733000.length : Int) then ((impl_ValidGraph.f k x733000 x5).bind fun t736 => (if t736 = true then (laws_FnValidGraph.l0 k (wrap64 (x5 + 1)) x733000 x733001) else (some false))) else (some true)
end
def laws_FnValidGraph.f (k : Nat) (l0 : List Int) : Option (Bool) := if (l0.length : Int) > 1048576 then (some true) else ((spec_DrawValidGraph.f k l0).bind fun bt728 => ((impl_ValidGraph.f k bt728.1 bt728.2).bind fun t733 => ((spec_ValidGraph.f k bt728.1 bt728.2).bind fun t734 => (if (t733 != t734) = true then (laws_FnValidGraph.j0 k t733 true bt728.1 bt728.2) else (laws_FnValidGraph.j0 k t733 (!t733) bt728.1 bt728.2)))))
set_option maxRecDepth 100000 in
theorem laws_FnValidGraph.mono_l : ∀ k,(∀ y0 y1 y2 y3,LeO (laws_FnValidGraph.j0 k y0 y1 y2 y3) (laws_FnValidGraph.j0 (k + 1) y0 y1 y2 y3)) ∧ (∀ y0 y1 y2,LeO (laws_FnValidGraph.l0 k y0 y1 y2) (laws_FnValidGraph.l0 (k + 1) y0 y1 y2))
 | 0 => ⟨fun _ _ _ _ r h => (by cases h),fun _ _ _ r h => (by cases h)⟩
 | k + 1 => by
  obtain ⟨ih0,ih1⟩ := laws_FnValidGraph.mono_l k
  refine ⟨?_,?_⟩
  ·intro y0 y1 y2 y3
   unfold laws_FnValidGraph.j0
   repeat' first
   | (with_reducible exact ih0 _ _ _ _)
   | (with_reducible exact ih1 _ _ _)
   | (with_reducible exact impl_ValidGraph.mono _ _ _)
   | (with_reducible exact spec_DrawValidGraph.mono _ _)
   | (with_reducible exact spec_ValidGraph.mono _ _ _)
   | (with_reducible exact LeO.refl _)
   | (with_reducible exact LeO.none _)
   | (with_reducible refine LeO.ite ?_ ?_)
   | (with_reducible refine LeO.bind ?_ (fun _ => ?_))
   | exact ih0 _ _ _ _
   | exact ih1 _ _ _
   | exact impl_ValidGraph.mono _ _ _
   | exact spec_DrawValidGraph.mono _ _
   | exact spec_ValidGraph.mono _ _ _
   | exact LeO.none _
   | refine LeO.ite ?_ ?_
   | refine LeO.bind ?_ (fun _ => ?_)
  ·intro y0 y1 y2
   unfold laws_FnValidGraph.l0
   repeat' first
   | (with_reducible exact ih0 _ _ _ _)
   | (with_reducible exact ih1 _ _ _)
   | (with_reducible exact impl_ValidGraph.mono _ _ _)
   | (with_reducible exact spec_DrawValidGraph.mono _ _)
   | (with_reducible exact spec_ValidGraph.mono _ _ _)
   | (with_reducible exact LeO.refl _)
   | (with_reducible exact LeO.none _)
   | (with_reducible refine LeO.ite ?_ ?_)
   | (with_reducible refine LeO.bind ?_ (fun _ => ?_))
   | exact ih0 _ _ _ _
   | exact ih1 _ _ _
   | exact impl_ValidGraph.mono _ _ _
   | exact spec_DrawValidGraph.mono _ _
   | exact spec_ValidGraph.mono _ _ _
   | exact LeO.none _
   | refine LeO.ite ?_ ?_
   | refine LeO.bind ?_ (fun _ => ?_)
set_option maxRecDepth 100000 in
theorem laws_FnValidGraph.mono : ∀ a0 k,LeO (laws_FnValidGraph.f k a0) (laws_FnValidGraph.f (k + 1) a0) := by
 intro a0 k
 obtain ⟨ih0,ih1⟩ := laws_FnValidGraph.mono_l k
 unfold laws_FnValidGraph.f
 repeat' first
   | (with_reducible exact ih0 _ _ _ _)
   | (with_reducible exact ih1 _ _ _)
   | (with_reducible exact impl_ValidGraph.mono _ _ _)
   | (with_reducible exact spec_DrawValidGraph.mono _ _)
   | (with_reducible exact spec_ValidGraph.mono _ _ _)
   | (with_reducible exact LeO.refl _)
   | (with_reducible exact LeO.none _)
   | (with_reducible refine LeO.ite ?_ ?_)
   | (with_reducible refine LeO.bind ?_ (fun _ => ?_))
   | exact ih0 _ _ _ _
   | exact ih1 _ _ _
   | exact impl_ValidGraph.mono _ _ _
   | exact spec_DrawValidGraph.mono _ _
   | exact spec_ValidGraph.mono _ _ _
   | exact LeO.none _
   | refine LeO.ite ?_ ?_
   | refine LeO.bind ?_ (fun _ => ?_)
set_option maxHeartbeats 8000000 in
set_option maxRecDepth 100000 in
theorem laws_FnValidGraph.calls (k : Nat) (A0 : Option Addr) (c0 : Nat) (l0 : List Int) (r : Bool) (w : World) (hr0 : Kd.C (Kd.int .u8) w A0 l0.length l0) (hc0 : l0.length ≤ c0) (h : laws_FnValidGraph.f k l0 = some r) :
  Calls Try.prog 6 #[.slice A0 l0.length c0] w fun e w' => e = .returned (.bool r) ∧ Below w.heap.size w w' := by
 have hu29 := Try.underlying29
 have HR0 := As_ hr0
 have HC0 := As_ hc0
 clear hr0 hc0
 have HB := As_ (Below.refl w.heap.size w)
 have H : (if (l0.length : Int) > 1048576 then (some true) else ((spec_DrawValidGraph.f k l0).bind fun bt728 => ((impl_ValidGraph.f k bt728.1 bt728.2).bind fun t733 => ((spec_ValidGraph.f k bt728.1 bt728.2).bind fun t734 => (if (t733 != t734) = true then (laws_FnValidGraph.j0 k t733 true bt728.1 bt728.2) else (laws_FnValidGraph.j0 k t733 (!t733) bt728.1 bt728.2)))))) = some r := h
 clear h
 by_cases c2 : (l0.length : Int) > 1048576
 ·rw [if_pos c2] at H
  have c2b0 : decide (1048576 < (l0.length : Int)) = true := deT c2
  have c2b1 : decide (1048576 < l0.length) = true := deT (by omega)
  clear c2
  obtain rfl := Option.some.inj H
  go_enter Try.func6,Try.ntmps6
  go_wp2
  go_ret
  exact ⟨by first|rfl|(simp [errW_none,errW_some] <;> rfl)|(simp [*,errW_none,errW_some] <;> rfl),by repeat (first|(with_reducible first|exact HB.out|apply bwA|apply bwN|apply bwD)|exact HB.out)⟩
 ·rw [if_neg c2] at H
  have c2b0 : decide (1048576 < (l0.length : Int)) = false := deF c2
  have c2b1 : decide (1048576 < l0.length) = false := deF (by omega)
  clear c2
  replace H := obS H
  obtain ⟨⟨t728,t731⟩,A30,H⟩ := H
  replace H : ((impl_ValidGraph.f k t728 t731).bind fun t733 => ((spec_ValidGraph.f k t728 t731).bind fun t734 => (if (t733 != t734) = true then (laws_FnValidGraph.j0 k t733 true t728 t731) else (laws_FnValidGraph.j0 k t733 (!t733) t728 t731)))) = some r := H
  have A3 := As_ A30
  clear A30
  replace H := obS H
  obtain ⟨t733,A40,H⟩ := H
  replace H : ((spec_ValidGraph.f k t728 t731).bind fun t734 => (if (t733 != t734) = true then (laws_FnValidGraph.j0 k t733 true t728 t731) else (laws_FnValidGraph.j0 k t733 (!t733) t728 t731))) = some r := H
  have A4 := As_ A40
  clear A40
  have HC5 := As_ H
  clear H
  go_enter Try.func6,Try.ntmps6
  go_upto_region 5 with (first|((with_reducible refine gate_callee (f := 28) rfl ?_);refine goesL_ (some 10) rfl rfl Try.func28 (by kernel_rfl) rfl #[.slice A0 l0.length c0] rfl zM_ ?_;(with_reducible refine (spec_DrawValidGraph.calls k _ _ l0 t728 t731 _ ?side1 ?side2 A3.out).mono ?_);(case side1 => repeat (first|exact HR0.out|(with_reducible refine Kd.C_alloc ?_ _)|(with_reducible refine Kd.C_drewN ?_ _)|(with_reducible refine Kd.C_drew ?_)));(case side2 => exact HC0.out);rintro e w6 ⟨v729,rfl,ho0,hb⟩;refine ⟨_,rfl,?_⟩;have n0_ := As_ (Kd.S_lower ho0 (bwZ (zb0 HB.out)));have n1_ := As_ (bwT (zb0 HB.out) hb);clear HB;have HO730 := n0_;have HB := n1_;clear n0_ n1_;(try clear hb);(try clear hb2);(try clear hk);(try clear hi);(try clear ho0))|((with_reducible refine gate_dst (N := 3) rfl ?_);refine box_event ?hg (N := 3) ?hd (cs := #[.slice none 0 0,.int .i64 0]) (t := 29) ?hr ?_;(case hd => rfl);(case hg => rfl);(case hr => go_simp <;> rfl);intro gb732 hg w7 hbox hb;have n0_ := As_ (Kd.S_below (zS_ HO730.out) hb);have n1_ := As_ (bwT (zb0 HB.out) hb);have n2_ := As_ (hbox);have n3_ := As_ ((by rw [hg];exact (bwZ (zb0 HB.out)) : w.heap.size ≤ gb732));have n4_ := As_ ((by rw [hg];exact (bwZ (zb0 HB.out)) : w.heap.size ≤ gb732));clear HO730;clear HB;have HO730 := n0_;have HB := n1_;have BK732 := n2_;have GW732 := n3_;have GE732 := n4_;clear n0_ n1_ n2_ n3_ n4_;clear hb hbox hg;obtain ⟨Ao8,co8,eo8⟩ := Kd.S_slice HO730.out;subst eo8;have hcz9_0 : w7.cell? ⟨gb732,0,none⟩ = some (.slice none 0 0) := (bkC BK732.out 0).trans rfl;have hcz9_1 : w7.cell? ⟨gb732,1,none⟩ = some (.int .i64 0) := (bkC BK732.out 1).trans rfl;have hfz9_0 := bkF BK732.out 0;have hfz9_1 := bkF BK732.out 1)|((with_reducible refine gate_callee (f := 29) rfl ?_);refine goesL_ (some 12) rfl rfl Try.func29 (by kernel_rfl) rfl #[.agg #[.slice Ao8 t728.length co8,.int .i64 t731]] rfl zM_ ?_;(with_reducible refine (impl_ValidGraph.calls k _ _ t728 t731 t733 _ ?side1 ?side2 A4.out).mono ?_);(case side1 => refine (Kd.S_reads' (e := 45) (base := w.heap.size) (ok := fun k_ => True) (n := t728.length) (c := co8) ?_).2.2;exact (by (with_reducible repeat (first|apply Kd.S_alloc|apply Kd.S_drewN|apply Kd.S_drew));exact (Kd.S_mono (Kd.S_far (p := ⟨gb732,1,none⟩) (Kd.S_far (p := ⟨gb732,0,none⟩) (Kd.S_types HO730.out BK732.out (by decide)) (fun _ hk => hk.2) (.slice Ao8 t728.length co8)) (fun _ hk => hk.2) (.int .i64 t731)) (fun _ h_ => h_.1))));(case side2 => exact (Kd.S_reads' HO730.out).2.1);rintro e w10 ⟨rfl,hb⟩;refine ⟨_,rfl,?_⟩;have n0_ := As_ (Kd.S_below (by (with_reducible repeat (first|apply Kd.S_alloc|apply Kd.S_drewN|apply Kd.S_drew));exact (Kd.S_mono (Kd.S_far (p := ⟨gb732,1,none⟩) (Kd.S_far (p := ⟨gb732,0,none⟩) (Kd.S_types HO730.out BK732.out (by decide)) (fun _ hk => hk.2) (.slice Ao8 t728.length co8)) (fun _ hk => hk.2) (.int .i64 t731)) (fun _ h_ => h_.1))) hb);have n1_ := As_ (blk_below (g := gb732) (o := .cells #[.slice Ao8 t728.length co8,.int .i64 t731] 29 (0,0)) (by (with_reducible repeat (first|refine bkN ?_ _|refine bkD ?_|refine bkA ?_ _));refine blk_put (cs := #[.slice Ao8 t728.length co8,.int .i64 0]) ?_ 1 _ rfl;(with_reducible repeat (first|refine bkN ?_ _|refine bkD ?_|refine bkA ?_ _));refine blk_put (cs := #[.slice none 0 0,.int .i64 0]) ?_ 0 _ rfl;(with_reducible repeat (first|refine bkN ?_ _|refine bkD ?_|refine bkA ?_ _));exact BK732.out) hb);have n2_ := As_ (bwT (zb1 HB.out GE732.out) hb);clear HO730;clear BK732;clear HB;have HO730 := n0_;have BK732 := n1_;have HB := n2_;clear n0_ n1_ n2_;(try clear hb);(try clear hb2);(try clear hk);(try clear hi)))
  (try simp only [Act.put,List.setIfInBounds_toArray,List.set_cons_zero,List.set_cons_succ])
  go_cut [20] (fun v20 wc => ∃ (kq : Nat) (x20_4 : Bool),v20 = .bool x20_4 ∧ Aside0 (laws_FnValidGraph.j0 kq t733 x20_4 t728 t731 = some r) ∧ Aside0 (kq ≤ k) ∧ Aside0 (Kd.S k45 45 wc w.heap.size (fun _ => True) (.slice Ao8 t728.length co8) t728) ∧ Aside0 (wc.heap[gb732]? = some (.cells #[(.slice Ao8 t728.length co8),.int .i64 t731] 29 (0,0))) ∧ Aside0 (Below w.heap.size w wc))
  case first =>
   have H := HC5.out
   clear HC5
   replace H := obS H
   obtain ⟨t734,A110,H⟩ := H
   replace H : (if (t733 != t734) = true then (laws_FnValidGraph.j0 k t733 true t728 t731) else (laws_FnValidGraph.j0 k t733 (!t733) t728 t731)) = some r := H
   have A11 := As_ A110
   clear A110
   by_cases c12 : (t733 != t734) = true
   ·rw [if_pos c12] at H
    have c12b0 : (t733 != t734) = true := c12
    (try (have c12b1 : decide (t733 = t734) = false := by simpa using c12))
    (try (have c12b2 : (t733 == t734) = false := by simpa using c12))
    (try (have c12b3 : ¬ (t733 = t734) := by simpa using c12))
    clear c12
    (first|rw [c12b0]|(simp only [i64_w,i32_w];rw [c12b0])|skip)
    have H' := As_ H
    clear H
    have hcz13_0 : w10.cell? ⟨gb732,0,none⟩ = some (.slice Ao8 t728.length co8) := (bkC BK732.out 0).trans rfl
    have hcz13_1 : w10.cell? ⟨gb732,1,none⟩ = some (.int .i64 t731) := (bkC BK732.out 1).trans rfl
    have hfz13_0 := bkF BK732.out 0
    have hfz13_1 := bkF BK732.out 1
    go_wp2_with (first|((with_reducible refine gate_callee (f := 30) rfl ?_);refine goesL_ (some 15) rfl rfl Try.func30 (by kernel_rfl) rfl #[.agg #[.slice Ao8 t728.length co8,.int .i64 t731]] rfl zM_ ?_;(with_reducible refine (spec_ValidGraph.calls k _ _ t728 t731 t734 _ ?side1 ?side2 A11.out).mono ?_);(case side1 => repeat (first|exact (Kd.S_reads' HO730.out).2.2|(with_reducible refine Kd.C_alloc ?_ _)|(with_reducible refine Kd.C_drewN ?_ _)|(with_reducible refine Kd.C_drew ?_)));(case side2 => exact (Kd.S_reads' HO730.out).2.1);rintro e w14 ⟨rfl,hb⟩;refine ⟨_,rfl,?_⟩;have n0_ := As_ (Kd.S_below (zS_ HO730.out) hb);have n1_ := As_ (zkb BK732.out hb);have n2_ := As_ (bwT (zb1 HB.out GE732.out) hb);clear HO730;clear BK732;clear HB;have HO730 := n0_;have BK732 := n1_;have HB := n2_;clear n0_ n1_ n2_;(try clear hb);(try clear hb2);(try clear hk);(try clear hi)))
    go_meet
    case rel => exact ⟨_,(true),zT_,H',⟨by first|omega|exact Nat.le_refl _⟩,⟨by (with_reducible repeat (first|apply Kd.S_alloc|apply Kd.S_drewN|apply Kd.S_drew));exact HO730.out⟩,⟨by (with_reducible repeat (first|refine bkN ?_ _|refine bkD ?_|refine bkA ?_ _));exact BK732.out⟩,⟨by repeat (first|(with_reducible first|exact HB.out|apply bwA|apply bwN|apply bwD|refine bwS ?_ GE732.out)|exact HB.out)⟩⟩
   ·rw [if_neg c12] at H
    have c12b0 : (t733 != t734) = false := by simpa using c12
    (try (have c12b1 : decide (t733 = t734) = true := by simpa using c12))
    (try (have c12b2 : (t733 == t734) = true := by simpa using c12))
    clear c12
    (first|rw [c12b0]|(simp only [i64_w,i32_w];rw [c12b0])|skip)
    have H' := As_ H
    clear H
    have hcz15_0 : w10.cell? ⟨gb732,0,none⟩ = some (.slice Ao8 t728.length co8) := (bkC BK732.out 0).trans rfl
    have hcz15_1 : w10.cell? ⟨gb732,1,none⟩ = some (.int .i64 t731) := (bkC BK732.out 1).trans rfl
    have hfz15_0 := bkF BK732.out 0
    have hfz15_1 := bkF BK732.out 1
    go_wp2_with (first|((with_reducible refine gate_callee (f := 30) rfl ?_);refine goesL_ (some 15) rfl rfl Try.func30 (by kernel_rfl) rfl #[.agg #[.slice Ao8 t728.length co8,.int .i64 t731]] rfl zM_ ?_;(with_reducible refine (spec_ValidGraph.calls k _ _ t728 t731 t734 _ ?side1 ?side2 A11.out).mono ?_);(case side1 => repeat (first|exact (Kd.S_reads' HO730.out).2.2|(with_reducible refine Kd.C_alloc ?_ _)|(with_reducible refine Kd.C_drewN ?_ _)|(with_reducible refine Kd.C_drew ?_)));(case side2 => exact (Kd.S_reads' HO730.out).2.1);rintro e w16 ⟨rfl,hb⟩;refine ⟨_,rfl,?_⟩;have n0_ := As_ (Kd.S_below (zS_ HO730.out) hb);have n1_ := As_ (zkb BK732.out hb);have n2_ := As_ (bwT (zb1 HB.out GE732.out) hb);clear HO730;clear BK732;clear HB;have HO730 := n0_;have BK732 := n1_;have HB := n2_;clear n0_ n1_ n2_;(try clear hb);(try clear hb2);(try clear hk);(try clear hi)))
    go_meet
    case rel => exact ⟨_,(!t733),zT_,H',⟨by first|omega|exact Nat.le_refl _⟩,⟨by (with_reducible repeat (first|apply Kd.S_alloc|apply Kd.S_drewN|apply Kd.S_drew));exact HO730.out⟩,⟨by (with_reducible repeat (first|refine bkN ?_ _|refine bkD ?_|refine bkA ?_ _));exact BK732.out⟩,⟨by repeat (first|(with_reducible first|exact HB.out|apply bwA|apply bwN|apply bwD|refine bwS ?_ GE732.out)|exact HB.out)⟩⟩
  case rest =>
   clear HC5
   try clear c1
   try clear c2
   try clear c2b0
   try clear c2b1
   try clear p2
   try clear c3
   try clear c6
   try clear c12
   try clear c12b0
   try clear c12b1
   try clear c12b2
   try clear hcz13_0
   try clear hcz13_1
   try clear hcz15_0
   try clear hcz15_1
   try clear hcz9_0
   try clear hcz9_1
   try clear hfz13_0
   try clear hfz13_1
   try clear hfz15_0
   try clear hfz15_1
   try clear hfz9_0
   try clear hfz9_1
   obtain ⟨kq,x20_4,rfl,HA,HJ4,HO_733000,BK732,HB⟩ := hcut
   cases kq with
   | zero => exact absurd HA.out (fun h_ => (by cases h_))
   | succ kj4 =>
    have H := HA.out
    clear HA
    simp only [laws_FnValidGraph.j0] at H
    by_cases c17 : x20_4 = true
    ·subst c17
     have H1 : ((spec_ValidGraph.f kj4 t728 t731).bind fun t735 => (some (t733 == t735))) = some r := by rw [if_pos rfl] at H;exact H
     clear H
     have H := H1
     clear H1
     replace H := obS H
     obtain ⟨t735,A180,H⟩ := H
     replace H : (some (t733 == t735)) = some r := H
     have A18 := As_ A180
     clear A180
     obtain rfl := Option.some.inj H
     have hcz19_0 : wc.cell? ⟨gb732,0,none⟩ = some (.slice Ao8 t728.length co8) := (bkC BK732.out 0).trans rfl
     have hcz19_1 : wc.cell? ⟨gb732,1,none⟩ = some (.int .i64 t731) := (bkC BK732.out 1).trans rfl
     have hfz19_0 := bkF BK732.out 0
     have hfz19_1 := bkF BK732.out 1
     go_wp2_with (first|((with_reducible refine gate_callee (f := 30) rfl ?_);refine goesL_ (some 23) rfl rfl Try.func30 (by kernel_rfl) rfl #[.agg #[.slice Ao8 t728.length co8,.int .i64 t731]] rfl zM_ ?_;(with_reducible refine (spec_ValidGraph.calls kj4 _ _ t728 t731 t735 _ ?side1 ?side2 A18.out).mono ?_);(case side1 => repeat (first|exact (Kd.S_reads' HO_733000.out).2.2|(with_reducible refine Kd.C_alloc ?_ _)|(with_reducible refine Kd.C_drewN ?_ _)|(with_reducible refine Kd.C_drew ?_)));(case side2 => exact (Kd.S_reads' HO_733000.out).2.1);rintro e w20 ⟨rfl,hb⟩;refine ⟨_,rfl,?_⟩;have n0_ := As_ (Kd.S_below (zS_ HO_733000.out) hb);have n1_ := As_ (zkb BK732.out hb);have n2_ := As_ (bwT (zb1 HB.out GE732.out) hb);clear HO_733000;clear BK732;clear HB;have HO_733000 := n0_;have BK732 := n1_;have HB := n2_;clear n0_ n1_ n2_;(try clear hb);(try clear hb2);(try clear hk);(try clear hi)))
     go_ret
     exact ⟨by first|rfl|(simp [errW_none,errW_some] <;> rfl)|(simp [*,errW_none,errW_some] <;> rfl),by repeat (first|(with_reducible first|exact HB.out|apply bwA|apply bwN|apply bwD|refine bwS ?_ GE732.out)|exact HB.out)⟩
    ·replace c17 := Bool.eq_false_iff.mpr c17
     subst c17
     have H1 : (laws_FnValidGraph.l0 kj4 0 t728 t731) = some r := by rw [if_neg (show ¬ (false = true) by decide)] at H;exact H
     clear H
     have H := H1
     clear H1
     have H' := As_ H
     clear H
     go_wp2
     go_loopg [5] kj4 (fun kq v5 w' => ∃ (x5_2 : Int),v5 = .int .i64 x5_2 ∧ Aside0 (laws_FnValidGraph.l0 kq x5_2 t728 t731 = some r) ∧ Aside0 (kq ≤ kj4) ∧ Aside0 (Kd.S k45 45 w' w.heap.size (fun _ => True) (.slice Ao8 t728.length co8) t728) ∧ Aside0 (w'.heap[gb732]? = some (.cells #[(.slice Ao8 t728.length co8),.int .i64 t731] 29 (0,0))) ∧ Aside0 (Below w.heap.size w w'))
     case atStart => exact ⟨(0),zT_,H',⟨Nat.le_refl _⟩,⟨by (with_reducible repeat (first|apply Kd.S_alloc|apply Kd.S_drewN|apply Kd.S_drew));exact HO_733000.out⟩,⟨by (with_reducible repeat (first|refine bkN ?_ _|refine bkD ?_|refine bkA ?_ _));exact BK732.out⟩,⟨by repeat (first|(with_reducible first|exact HB.out|apply bwA|apply bwN|apply bwD|refine bwS ?_ GE732.out)|exact HB.out)⟩⟩
     case round =>
      clear H'
      try clear c1
      try clear c2
      try clear c2b0
      try clear c2b1
      try clear p2
      try clear c3
      try clear c6
      try clear c12
      try clear c12b0
      try clear c12b1
      try clear c12b2
      try clear c17
      try clear hcz13_0
      try clear hcz13_1
      try clear hcz15_0
      try clear hcz15_1
      try clear hcz19_0
      try clear hcz19_1
      try clear hcz9_0
      try clear hcz9_1
      try clear hfz13_0
      try clear hfz13_1
      try clear hfz15_0
      try clear hfz15_1
      try clear hfz19_0
      try clear hfz19_1
      try clear hfz9_0
      try clear hfz9_1
      try clear p2
      obtain ⟨x5_2,rfl,HA,HK2,HO_733000,BK732,HB⟩ := hrel
      cases gk with
      | zero => exact absurd HA.out (fun h_ => (by cases h_))
      | succ k2 =>
       have H := HA.out
       clear HA
       simp only [laws_FnValidGraph.l0] at H
       by_cases c21 : x5_2 < (t728.length : Int)
       ·rw [if_pos c21] at H
        have c21b0 : decide (x5_2 < (t728.length : Int)) = true := deT c21
        clear c21
        replace H := obS H
        obtain ⟨t736,A220,H⟩ := H
        replace H : (if t736 = true then (laws_FnValidGraph.l0 k2 (wrap64 (x5_2 + 1)) t728 t731) else (some false)) = some r := H
        have A22 := As_ A220
        clear A220
        by_cases c23 : t736 = true
        ·subst c23
         have H1 : (laws_FnValidGraph.l0 k2 (wrap64 (x5_2 + 1)) t728 t731) = some r := by rw [if_pos rfl] at H;exact H
         clear H
         have H := H1
         clear H1
         have H' := As_ H
         clear H
         have hcz24_0 : wr.cell? ⟨gb732,0,none⟩ = some (.slice Ao8 t728.length co8) := (bkC BK732.out 0).trans rfl
         have hcz24_1 : wr.cell? ⟨gb732,1,none⟩ = some (.int .i64 t731) := (bkC BK732.out 1).trans rfl
         have hfz24_0 := bkF BK732.out 0
         have hfz24_1 := bkF BK732.out 1
         go_wp2_with (first|((with_reducible refine gate_callee (f := 29) rfl ?_);refine goesL_ (some 36) rfl rfl Try.func29 (by kernel_rfl) rfl #[.agg #[.slice Ao8 t728.length co8,.int .i64 x5_2]] rfl zM_ ?_;(with_reducible refine (impl_ValidGraph.calls k2 _ _ t728 x5_2 true _ ?side1 ?side2 A22.out).mono ?_);(case side1 => repeat (first|exact (Kd.S_reads' HO_733000.out).2.2|(with_reducible refine Kd.C_alloc ?_ _)|(with_reducible refine Kd.C_drewN ?_ _)|(with_reducible refine Kd.C_drew ?_)));(case side2 => exact (Kd.S_reads' HO_733000.out).2.1);rintro e w25 ⟨rfl,hb⟩;refine ⟨_,rfl,?_⟩;have n0_ := As_ (Kd.S_below (zS_ HO_733000.out) hb);have n1_ := As_ (zkb BK732.out hb);have n2_ := As_ (bwT (zb1 HB.out GE732.out) hb);clear HO_733000;clear BK732;clear HB;have HO_733000 := n0_;have BK732 := n1_;have HB := n2_;clear n0_ n1_ n2_;(try clear hb);(try clear hb2);(try clear hk);(try clear hi)))
         go_roundg k2
         case measure => have := HJ4.out;have := HK2.out;omega
         case rel => exact ⟨(wrap64 (x5_2 + 1)),zT_,H',⟨by have := HJ4.out;have := HK2.out;omega⟩,⟨by (with_reducible repeat (first|apply Kd.S_alloc|apply Kd.S_drewN|apply Kd.S_drew));exact HO_733000.out⟩,⟨by (with_reducible repeat (first|refine bkN ?_ _|refine bkD ?_|refine bkA ?_ _));exact BK732.out⟩,⟨by repeat (first|(with_reducible first|exact HB.out|apply bwA|apply bwN|apply bwD|refine bwS ?_ GE732.out)|exact HB.out)⟩⟩
        ·replace c23 := Bool.eq_false_iff.mpr c23
         subst c23
         have H1 : (some false) = some r := by rw [if_neg (show ¬ (false = true) by decide)] at H;exact H
         clear H
         have H := H1
         clear H1
         obtain rfl := Option.some.inj H
         have hcz26_0 : wr.cell? ⟨gb732,0,none⟩ = some (.slice Ao8 t728.length co8) := (bkC BK732.out 0).trans rfl
         have hcz26_1 : wr.cell? ⟨gb732,1,none⟩ = some (.int .i64 t731) := (bkC BK732.out 1).trans rfl
         have hfz26_0 := bkF BK732.out 0
         have hfz26_1 := bkF BK732.out 1
         go_wp2_with (first|((with_reducible refine gate_callee (f := 29) rfl ?_);refine goesL_ (some 36) rfl rfl Try.func29 (by kernel_rfl) rfl #[.agg #[.slice Ao8 t728.length co8,.int .i64 x5_2]] rfl zM_ ?_;(with_reducible refine (impl_ValidGraph.calls k2 _ _ t728 x5_2 false _ ?side1 ?side2 A22.out).mono ?_);(case side1 => repeat (first|exact (Kd.S_reads' HO_733000.out).2.2|(with_reducible refine Kd.C_alloc ?_ _)|(with_reducible refine Kd.C_drewN ?_ _)|(with_reducible refine Kd.C_drew ?_)));(case side2 => exact (Kd.S_reads' HO_733000.out).2.1);rintro e w27 ⟨rfl,hb⟩;refine ⟨_,rfl,?_⟩;have n0_ := As_ (Kd.S_below (zS_ HO_733000.out) hb);have n1_ := As_ (zkb BK732.out hb);have n2_ := As_ (bwT (zb1 HB.out GE732.out) hb);clear HO_733000;clear BK732;clear HB;have HO_733000 := n0_;have BK732 := n1_;have HB := n2_;clear n0_ n1_ n2_;(try clear hb);(try clear hb2);(try clear hk);(try clear hi)))
         go_ret
         exact ⟨by first|rfl|(simp [errW_none,errW_some] <;> rfl)|(simp [*,errW_none,errW_some] <;> rfl),by repeat (first|(with_reducible first|exact HB.out|apply bwA|apply bwN|apply bwD|refine bwS ?_ GE732.out)|exact HB.out)⟩
       ·rw [if_neg c21] at H
        have c21b0 : decide (x5_2 < (t728.length : Int)) = false := deF c21
        clear c21
        obtain rfl := Option.some.inj H
        have hcz28_0 : wr.cell? ⟨gb732,0,none⟩ = some (.slice Ao8 t728.length co8) := (bkC BK732.out 0).trans rfl
        have hcz28_1 : wr.cell? ⟨gb732,1,none⟩ = some (.int .i64 t731) := (bkC BK732.out 1).trans rfl
        have hfz28_0 := bkF BK732.out 0
        have hfz28_1 := bkF BK732.out 1
        go_wp2
        go_ret
        exact ⟨by first|rfl|(simp [errW_none,errW_some] <;> rfl)|(simp [*,errW_none,errW_some] <;> rfl),by repeat (first|(with_reducible first|exact HB.out|apply bwA|apply bwN|apply bwD|refine bwS ?_ GE732.out)|exact HB.out)⟩

/-- THE ONE PURE STATEMENT of laws_FnValidGraph: yours. -/
def laws_FnValidGraph.Pure : Prop := ∀ (l0 : List Int),l0.length ≤ maxLen → l0.length * 1 ≤ 140737488351232 → (∀ x ∈ l0,(Lit.int .u8 x).wf = true) → ∃ k,laws_FnValidGraph.f k l0 = some true
theorem laws_FnValidGraph.walk (P : laws_FnValidGraph.Pure) (a0 : Option Addr) (len0 cap0 : Nat) (z0 : List Int) (w : World) (w0 : (a0 = none ∧ len0 = 0 ∧ cap0 = 0 ∧ z0 = []) ∨ ∃ x,a0 = some x ∧ len0 ≤ cap0 ∧ cap0 ≤ maxLen ∧ z0.length = cap0 ∧ (∀ i,i < z0.length → w.cell? (x.add i) = some (.int .u8 (z0.getD i 0))) ∧ ∀ n ∈ z0,(Lit.int .u8 n).wf = true) (y0 : len0 * 1 ≤ 140737488351232) :
  Calls Try.prog 6 #[.slice a0 len0 cap0] w fun e w' => e = .returned (.bool true) ∧ Below w.heap.size w w' := by
 obtain ⟨l0,rfl,hr0,hm0,hw0,hc0⟩ := ReadsInt.ofRowC w0
 obtain ⟨k,h⟩ := P l0 hm0 y0 hw0
 refine (laws_FnValidGraph.calls k _ _ l0 true w (Kd.C_of_reads (d := (0 : Int)) (h1 := fun _ => rfl) hr0) hc0 h).mono ?_
 rintro e w' ⟨rfl,hd⟩
 exact ⟨rfl,hd⟩

end Go.Proofs.Ytfhakhbmbnbneaa.Q
