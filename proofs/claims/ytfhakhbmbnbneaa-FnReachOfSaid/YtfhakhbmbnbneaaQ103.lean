-- Written by wip/tools/qprint.py (a program of this claim's author) by means of the kit's printer.
import Derived.Test.YtfhakhbmbnbneaaQ0
import Derived.Test.YtfhakhbmbnbneaaQ90
namespace Go.Proofs.Ytfhakhbmbnbneaa.Q
open Go.RowKit Go.Proofs.YtfhakhbmbnbneaaW.PrintWords Go.Proofs.YtfhakhbmbnbneaaW.PrintLast Go.Proofs.YtfhakhbmbnbneaaW.PrintMore
attribute [local go_sem] max2_int min2_int max_two min_two max_three min_three max_four min_four   -- for this text's walks alone
set_option linter.unusedVariables false
set_option linter.unusedSimpArgs false

/-! ### spec_someNode: function 103 -/
mutual
def spec_someNode.j0 : Nat → Int → Bool → List Int → Int → Option (Int × Int × List Int × Int)
 | 0,_,_,_,_ => none
 | k + 1,x4,x18,x1000,x1001 => if x18 = true then (some (2,0,([] : List Int),x1001)) else (if x4 = 4 then (spec_someNode.j1 k x4 (x4 == 4) x1000 x1001) else (spec_someNode.j1 k x4 (x4 == 5) x1000 x1001))
def spec_someNode.j1 : Nat → Int → Bool → List Int → Int → Option (Int × Int × List Int × Int)
 | 0,_,_,_,_ => none
 | k + 1,x4,x22,x1000,x1001 => if x22 = true then (some (3,0,([] : List Int),x1001)) else (if x4 = 6 then (some (4,0,([] : List Int),x1001)) else ((spec_reader_pick.f k x1000 x1001 3).bind fun bt539 => (some (5,bt539.1,([] : List Int),bt539.2))))
end
def spec_someNode.f (k : Nat) (s0_0 : List Int) (s0_1 : Int) : Option (Int × Int × List Int × Int) := (spec_reader_pick.f k s0_0 s0_1 8).bind fun bt528 => (if bt528.1 = 0 then ((spec_reader_pick.f k s0_0 bt528.2 250).bind fun bt530 => ((spec_reader_one.f k s0_0 bt530.2 (([5,127,128,999,bt530.1] : List Int))).bind fun bt535 => (some (0,bt535.1,([] : List Int),bt535.2)))) else (if bt528.1 = 1 then ((spec_reader_pick.f k s0_0 bt528.2 3).bind fun bt537 => (some (1,bt537.1,([] : List Int),bt537.2))) else (if bt528.1 = 2 then (spec_someNode.j0 k bt528.1 (bt528.1 == 2) s0_0 bt528.2) else (spec_someNode.j0 k bt528.1 (bt528.1 == 3) s0_0 bt528.2))))
set_option maxRecDepth 100000 in
theorem spec_someNode.mono_l : ∀ k,(∀ y0 y1 y2 y3,LeO (spec_someNode.j0 k y0 y1 y2 y3) (spec_someNode.j0 (k + 1) y0 y1 y2 y3)) ∧ (∀ y0 y1 y2 y3,LeO (spec_someNode.j1 k y0 y1 y2 y3) (spec_someNode.j1 (k + 1) y0 y1 y2 y3))
 | 0 => ⟨fun _ _ _ _ r h => (by cases h),fun _ _ _ _ r h => (by cases h)⟩
 | k + 1 => by
  obtain ⟨ih0,ih1⟩ := spec_someNode.mono_l k
  refine ⟨?_,?_⟩
  ·intro y0 y1 y2 y3
   unfold spec_someNode.j0
   repeat' first
   | (with_reducible exact ih0 _ _ _ _)
   | (with_reducible exact ih1 _ _ _ _)
   | (with_reducible exact spec_reader_one.mono _ _ _ _)
   | (with_reducible exact spec_reader_pick.mono _ _ _ _)
   | (with_reducible exact LeO.refl _)
   | (with_reducible exact LeO.none _)
   | (with_reducible refine LeO.ite ?_ ?_)
   | (with_reducible refine LeO.bind ?_ (fun _ => ?_))
   | exact ih0 _ _ _ _
   | exact ih1 _ _ _ _
   | exact spec_reader_one.mono _ _ _ _
   | exact spec_reader_pick.mono _ _ _ _
   | exact LeO.none _
   | refine LeO.ite ?_ ?_
   | refine LeO.bind ?_ (fun _ => ?_)
  ·intro y0 y1 y2 y3
   unfold spec_someNode.j1
   repeat' first
   | (with_reducible exact ih0 _ _ _ _)
   | (with_reducible exact ih1 _ _ _ _)
   | (with_reducible exact spec_reader_one.mono _ _ _ _)
   | (with_reducible exact spec_reader_pick.mono _ _ _ _)
   | (with_reducible exact LeO.refl _)
   | (with_reducible exact LeO.none _)
   | (with_reducible refine LeO.ite ?_ ?_)
   | (with_reducible refine LeO.bind ?_ (fun _ => ?_))
   | exact ih0 _ _ _ _
   | exact ih1 _ _ _ _
   | exact spec_reader_one.mono _ _ _ _
   | exact spec_reader_pick.mono _ _ _ _
   | exact LeO.none _
   | refine LeO.ite ?_ ?_
   | refine LeO.bind ?_ (fun _ => ?_)
set_option maxRecDepth 100000 in
theorem spec_someNode.mono : ∀ a0 a1 k,LeO (spec_someNode.f k a0 a1) (spec_someNode.f (k + 1) a0 a1) := by
 intro a0 a1 k
 obtain ⟨ih0,ih1⟩ := spec_someNode.mono_l k
 unfold spec_someNode.f
 repeat' first
   | (with_reducible exact ih0 _ _ _ _)
   | (with_reducible exact ih1 _ _ _ _)
   | (with_reducible exact spec_reader_one.mono _ _ _ _)
   | (with_reducible exact spec_reader_pick.mono _ _ _ _)
   | (with_reducible exact LeO.refl _)
   | (with_reducible exact LeO.none _)
   | (with_reducible refine LeO.ite ?_ ?_)
   | (with_reducible refine LeO.bind ?_ (fun _ => ?_))
   | exact ih0 _ _ _ _
   | exact ih1 _ _ _ _
   | exact spec_reader_one.mono _ _ _ _
   | exact spec_reader_pick.mono _ _ _ _
   | exact LeO.none _
   | refine LeO.ite ?_ ?_
   | refine LeO.bind ?_ (fun _ => ?_)
set_option maxHeartbeats 8000000 in
set_option maxRecDepth 100000 in
theorem spec_someNode.calls (k : Nat) (g : Nat) (s0_0 : List Int) (s0_1 : Int) (r1 : Int) (r2 : Int) (r3 : List Int) (r4 : Int) (w0 w : World) (hI : IsS85 w0 w g s0_0 s0_1) (hB : Below w0.heap.size w0 w) (h : spec_someNode.f k s0_0 s0_1 = some (r1,r2,r3,r4)) :
  Calls Try.prog 103 #[.pointer (some ⟨g,0,none⟩)] w fun e w' => ∃ v2_ : Value,v2_ = .slice none 0 0 ∧ e = .returned (.agg #[.int .i64 r1,.int .i64 r2,v2_]) ∧ Kd.R (Kd.int .i64) 3 w' w.heap.size (fun _ => True) v2_ r3 ∧ IsS85 w0 w' g s0_0 r4 ∧ Below w0.heap.size w0 w' ∧ KeepBut w w' g none := by
 have hu45 := Try.underlying45
 have HI0 := As_ hI
 have HK := As_ (KeepBut.refl w g none)
 have HL := As_ hB.size
 clear hI
 have HW0 := As_ hB.size
 have HB := As_ hB
 clear hB
 have H : ((spec_reader_pick.f k s0_0 s0_1 8).bind fun bt528 => (if bt528.1 = 0 then ((spec_reader_pick.f k s0_0 bt528.2 250).bind fun bt530 => ((spec_reader_one.f k s0_0 bt530.2 (([5,127,128,999,bt530.1] : List Int))).bind fun bt535 => (some (0,bt535.1,([] : List Int),bt535.2)))) else (if bt528.1 = 1 then ((spec_reader_pick.f k s0_0 bt528.2 3).bind fun bt537 => (some (1,bt537.1,([] : List Int),bt537.2))) else (if bt528.1 = 2 then (spec_someNode.j0 k bt528.1 (bt528.1 == 2) s0_0 bt528.2) else (spec_someNode.j0 k bt528.1 (bt528.1 == 3) s0_0 bt528.2))))) = some (r1,r2,r3,r4) := h
 clear h
 replace H := obS H
 obtain ⟨⟨t528,t529⟩,A20,H⟩ := H
 replace H : (if t528 = 0 then ((spec_reader_pick.f k s0_0 t529 250).bind fun bt530 => ((spec_reader_one.f k s0_0 bt530.2 (([5,127,128,999,bt530.1] : List Int))).bind fun bt535 => (some (0,bt535.1,([] : List Int),bt535.2)))) else (if t528 = 1 then ((spec_reader_pick.f k s0_0 t529 3).bind fun bt537 => (some (1,bt537.1,([] : List Int),bt537.2))) else (if t528 = 2 then (spec_someNode.j0 k t528 (t528 == 2) s0_0 t529) else (spec_someNode.j0 k t528 (t528 == 3) s0_0 t529)))) = some (r1,r2,r3,r4) := H
 have A2 := As_ A20
 clear A20
 by_cases c3 : t528 = 0
 ·rw [if_pos c3] at H
  have c3b0 : (t528 == 0) = true := beq_iff_eq.mpr c3
  have c3b1 : (t528 != 0) = false := bne_eq_false_iff_eq.mpr c3
  clear c3
  replace H := obS H
  obtain ⟨⟨t530,t531⟩,A40,H⟩ := H
  replace H : ((spec_reader_one.f k s0_0 t531 (([5,127,128,999,t530] : List Int))).bind fun bt535 => (some (0,bt535.1,([] : List Int),bt535.2))) = some (r1,r2,r3,r4) := H
  have A4 := As_ A40
  clear A40
  obtain ⟨y532,hy532⟩ : ∃ y_ : List Int,y_ = (([5,127,128,999,t530] : List Int)) := ⟨_,rfl⟩
  replace H : ((spec_reader_one.f k s0_0 t531 y532).bind fun bt535 => (some (0,bt535.1,([] : List Int),bt535.2))) = some (r1,r2,r3,r4) := by first|(rw [hy532];with_reducible exact H)|(have H2_ := (Option.bind_some _ _).symm.trans H;rw [hy532];with_reducible exact H2_)|(have H2_ := (Option.bind_some _ _).symm.trans H;with_reducible exact H2_)|with_reducible exact H|(rw [hy532];exact H)|exact H
  have Ny532 := As_ hy532
  clear hy532
  replace H := obS H
  obtain ⟨⟨t535,t536⟩,A50,H⟩ := H
  replace H : (some (0,t535,([] : List Int),t536)) = some (r1,r2,r3,r4) := H
  have A5 := As_ A50
  clear A50
  simp only [Option.some.injEq,Prod.mk.injEq] at H
  obtain ⟨rfl,rfl,rfl,rfl⟩ := H
  go_enter Try.func103,Try.ntmps103
  go_wp2_with (first|((with_reducible refine gate_dst (N := 2) rfl ?_);refine box_event ?hg (N := 2) ?hd (cs := #[.int .i64 0,.int .i64 0,.slice none 0 0]) (t := 45) ?hr ?_;(case hd => rfl);(case hg => rfl);(case hr => go_simp <;> rfl);intro gb527 hg w6 hbox hb;have n0_ := As_ (IsS85.below (zi85_0 HI0.out) hb);have n1_ := As_ (KeepBut.trans (zkp0 HK.out) (KeepBut.of_below hb g none) (.inl rfl));have n2_ := As_ (bwT (zb1 HB.out (IsS85.ge HI0.out)) hb);have n3_ := As_ (hbox);have n4_ := As_ ((by rw [hg];exact (keep_size (w := w) (g := g) (row := none) (zkp0 HK.out)) : w.heap.size ≤ gb527));have n5_ := As_ ((Nat.le_trans HW0.out (by rw [hg];exact (keep_size (w := w) (g := g) (row := none) (zkp0 HK.out)) : w.heap.size ≤ gb527) : w0.heap.size ≤ gb527));have n6_ := As_ ((by rw [hg];exact Nat.ne_of_lt (IsS85.lt (show IsS85 w0 _ g s0_0 s0_1 from zi85_0 HI0.out)) : g ≠ gb527));have n7_ := As_ ((by rw [hg];exact Nat.ne_of_gt (IsS85.lt (show IsS85 w0 _ g s0_0 s0_1 from zi85_0 HI0.out)) : gb527 ≠ g));clear HI0;clear HK;clear HB;have HI0 := n0_;have HK := n1_;have HB := n2_;have BK527 := n3_;have GW527 := n4_;have GE527 := n5_;have NB0_527 := n6_;have NB527_0 := n7_;clear n0_ n1_ n2_ n3_ n4_ n5_ n6_ n7_;clear hb hbox hg)|((with_reducible refine gate_callee (f := 90) rfl ?_);refine goesL_ (some 4) rfl rfl Try.func90 (by kernel_rfl) rfl #[.pointer (some ⟨g,0,none⟩),.int .i64 8] rfl zM_ ?_;(with_reducible refine (spec_reader_pick.calls k g s0_0 s0_1 8 t528 t529 w0 _ ?side1 ?side2 A2.out).mono ?_);(case side1 => exact zi85_1 HI0.out NB0_527.out);(case side2 => exact zb2 HB.out (IsS85.ge HI0.out) GE527.out);rintro e w7 ⟨rfl,hi,hb,hk⟩;refine ⟨_,rfl,?_⟩;have n0_ := As_ (KeepBut.blk hk (g' := gb527) (o := .cells #[.int .i64 0,.int .i64 0,.slice none 0 0] 45 (0,0)) (zk_ BK527.out) NB527_0.out (by simp));have n1_ := As_ (KeepBut.trans (zkp1 HK.out GW527.out) hk (.inl rfl));have n2_ := As_ (hb);have n3_ := As_ (hi);clear BK527;clear HK;clear HB;clear HI0;have BK527 := n0_;have HK := n1_;have HB := n2_;have HI0 := n3_;clear n0_ n1_ n2_ n3_;(try clear hb);(try clear hb2);(try clear hk);(try clear hi))|((with_reducible refine gate_callee (f := 90) rfl ?_);refine goesL_ (some 9) rfl rfl Try.func90 (by kernel_rfl) rfl #[.pointer (some ⟨g,0,none⟩),.int .i64 250] rfl zM_ ?_;(with_reducible refine (spec_reader_pick.calls k g s0_0 t529 250 t530 t531 w0 _ ?side1 ?side2 A4.out).mono ?_);(case side1 => exact zi85_1 HI0.out NB0_527.out);(case side2 => exact zb2 HB.out (IsS85.ge HI0.out) GE527.out);rintro e w8 ⟨rfl,hi,hb,hk⟩;refine ⟨_,rfl,?_⟩;have n0_ := As_ (KeepBut.blk hk (g' := gb527) (o := .cells #[.int .i64 0,.int .i64 0,.slice none 0 0] 45 (0,0)) (zk_ BK527.out) NB527_0.out (by simp));have n1_ := As_ (KeepBut.trans (zkp1 HK.out GW527.out) hk (.inl rfl));have n2_ := As_ (hb);have n3_ := As_ (hi);clear BK527;clear HK;clear HB;clear HI0;have BK527 := n0_;have HK := n1_;have HB := n2_;have HI0 := n3_;clear n0_ n1_ n2_ n3_;(try clear hb);(try clear hb2);(try clear hk);(try clear hi))|((with_reducible refine gate_dst (N := 10) rfl ?_);refine Kd.R_lit (Kd.int .i64) _ 3 ?hg (N := 10) ?hd (xs := ([5,127,128,999,t530] : List Int)) (inner := [.int .i64 5,.int .i64 127,.int .i64 128,.int .i64 999,.int .i64 t530]) (ok := fun _ => True) (okp := fun _ => True) ?hr ?hp (fun _ hk => hk) trivial (Below.refl _ _) (Nat.le_refl _) (by simp) ?_;(case hd => rfl);(case hg => rfl);(case hr => go_simp <;> rfl);(case hp => exact (Reps.one (show Kd.M (Kd.int .i64) _ _ _ 5 [.int .i64 5] from rfl) (Reps.one (show Kd.M (Kd.int .i64) _ _ _ 127 [.int .i64 127] from rfl) (Reps.one (show Kd.M (Kd.int .i64) _ _ _ 128 [.int .i64 128] from rfl) (Reps.one (show Kd.M (Kd.int .i64) _ _ _ 999 [.int .i64 999] from rfl) (Reps.one (show Kd.M (Kd.int .i64) _ _ _ t530 [.int .i64 t530] from rfl) (Reps.none _ _)))))));intro v533 w9 ho10 hb hg_ hnew_;clear hg_ hnew_;(first|rw [← Ny532.out] at ho10|(simp only [Int.reduceToNat] at ho10;rw [← Ny532.out] at ho10));have n0_ := As_ (Kd.R_lower ho10 (keep_size (w := w) (g := g) (row := none) (zkp1 HK.out GW527.out)));have n1_ := As_ (IsS85.below (zi85_1 HI0.out NB0_527.out) hb);have n2_ := As_ (zkb BK527.out hb);have n3_ := As_ (KeepBut.trans (zkp1 HK.out GW527.out) (KeepBut.of_below hb g none) (.inl rfl));have n4_ := As_ (bwT (zb2 HB.out (IsS85.ge HI0.out) GE527.out) hb);clear HI0;clear BK527;clear HK;clear HB;have HO534 := n0_;have HI0 := n1_;have BK527 := n2_;have HK := n3_;have HB := n4_;clear n0_ n1_ n2_ n3_ n4_;clear hb ho10;obtain ⟨Ao11,co11,eo11⟩ := Kd.R_slice HO534.out;subst eo11)|((with_reducible refine gate_callee (f := 91) rfl ?_);refine goesL_ (some 11) rfl rfl Try.func91 (by kernel_rfl) rfl #[.pointer (some ⟨g,0,none⟩),.slice Ao11 y532.length co11] rfl zM_ ?_;(with_reducible refine (spec_reader_one.calls k g s0_0 t531 _ _ y532 t535 t536 w0 _ ?side1 ?side2 ?side3 ?side4 ?side5 A5.out).mono ?_);(case side1 => exact zi85_1 HI0.out NB0_527.out);(case side2 => exact zb2 HB.out (IsS85.ge HI0.out) GE527.out);(case side3 => repeat (first|exact (Kd.R_reads' HO534.out).2.2|(with_reducible refine Kd.C_alloc ?_ _)|(with_reducible refine Kd.C_drewN ?_ _)|(with_reducible refine Kd.C_drew ?_)));(case side4 => exact (Kd.R_reads' HO534.out).2.1);(case side5 => exact far_slice (IsS85.own_ne HI0.out HO534.out (by decide)));rintro e w12 ⟨rfl,hi,hb,hk⟩;refine ⟨_,rfl,?_⟩;have n0_ := As_ (KeepBut.blk hk (g' := gb527) (o := .cells #[.int .i64 0,.int .i64 0,.slice none 0 0] 45 (0,0)) (zk_ BK527.out) NB527_0.out (by simp));have n1_ := As_ (Kd.R_mono (Kd.R_keep (IsS85.apart (show IsS85 w0 _ g s0_0 t531 from zi85_1 HI0.out NB0_527.out) (zR_ HO534.out) (by decide)) hk (fun _ h => h.2)) (fun _ h => h.1));have n2_ := As_ (KeepBut.trans (zkp1 HK.out GW527.out) hk (.inl rfl));have n3_ := As_ (hb);have n4_ := As_ (hi);clear BK527;clear HO534;clear HK;clear HB;clear HI0;have BK527 := n0_;have HO534 := n1_;have HK := n2_;have HB := n3_;have HI0 := n4_;clear n0_ n1_ n2_ n3_ n4_;(try clear hb);(try clear hb2);(try clear hk);(try clear hi);have hnb13 := NB527_0.out;have hnc13 := NB0_527.out;have hcz14_0 : w12.cell? ⟨gb527,0,none⟩ = some (.int .i64 0) := (bkC BK527.out 0).trans rfl;have hcz14_1 : w12.cell? ⟨gb527,1,none⟩ = some (.int .i64 0) := (bkC BK527.out 1).trans rfl;have hcz14_2 : w12.cell? ⟨gb527,2,none⟩ = some (.slice none 0 0) := (bkC BK527.out 2).trans rfl;have hfz14_0 := bkF BK527.out 0;have hfz14_1 := bkF BK527.out 1;have hfz14_2 := bkF BK527.out 2))
  refine bodyPost_ret (results_cell_row rfl _ _ gb527 45 #[.int .i64 0,.int .i64 t535,.slice none 0 0] (0,0) _ rfl (by (with_reducible repeat (first|refine bkN ?_ _|refine bkD ?_|refine bkA ?_ _));refine blk_put (cs := #[.int .i64 0,.int .i64 t535,.slice none 0 0]) ?_ 2 _ rfl;(with_reducible repeat (first|refine bkN ?_ _|refine bkD ?_|refine bkA ?_ _));refine blk_put (cs := #[.int .i64 0,.int .i64 0,.slice none 0 0]) ?_ 1 _ rfl;(with_reducible repeat (first|refine bkN ?_ _|refine bkD ?_|refine bkA ?_ _));refine blk_put (cs := #[.int .i64 0,.int .i64 0,.slice none 0 0]) ?_ 0 _ rfl;(with_reducible repeat (first|refine bkN ?_ _|refine bkD ?_|refine bkA ?_ _));exact BK527.out) Try.underlying45 rfl (by kernel_rfl)) rfl ?_
  exact ⟨_,rfl,by first|rfl|(simp [errW_none,errW_some] <;> rfl)|(simp [*,errW_none,errW_some] <;> rfl),by first|exact Kd.R_nil _ _ _ _ _|exact Kd.N_nil _ _ _ _ _|exact Kd.V_nil _ _ _ _ _|exact Kd.Q_nil _ _ _ _ _|exact Kd.S_nil _ _ _ _ _,zi85_1 HI0.out NB0_527.out,zb2 HB.out (IsS85.ge HI0.out) GE527.out,zkp1 HK.out GW527.out⟩
 ·rw [if_neg c3] at H
  have c3b0 : (t528 == 0) = false := beq_eq_false_iff_ne.mpr c3
  have c3b1 : (t528 != 0) = true := bne_iff_ne.mpr c3
  by_cases c15 : t528 = 1
  ·rw [if_pos c15] at H
   have c15b0 : (t528 == 1) = true := beq_iff_eq.mpr c15
   have c15b1 : (t528 != 1) = false := bne_eq_false_iff_eq.mpr c15
   clear c15
   replace H := obS H
   obtain ⟨⟨t537,t538⟩,A160,H⟩ := H
   replace H : (some (1,t537,([] : List Int),t538)) = some (r1,r2,r3,r4) := H
   have A16 := As_ A160
   clear A160
   simp only [Option.some.injEq,Prod.mk.injEq] at H
   obtain ⟨rfl,rfl,rfl,rfl⟩ := H
   go_enter Try.func103,Try.ntmps103
   go_wp2_with (first|((with_reducible refine gate_dst (N := 2) rfl ?_);refine box_event ?hg (N := 2) ?hd (cs := #[.int .i64 0,.int .i64 0,.slice none 0 0]) (t := 45) ?hr ?_;(case hd => rfl);(case hg => rfl);(case hr => go_simp <;> rfl);intro gb527 hg w17 hbox hb;have n0_ := As_ (IsS85.below (zi85_0 HI0.out) hb);have n1_ := As_ (KeepBut.trans (zkp0 HK.out) (KeepBut.of_below hb g none) (.inl rfl));have n2_ := As_ (bwT (zb1 HB.out (IsS85.ge HI0.out)) hb);have n3_ := As_ (hbox);have n4_ := As_ ((by rw [hg];exact (keep_size (w := w) (g := g) (row := none) (zkp0 HK.out)) : w.heap.size ≤ gb527));have n5_ := As_ ((Nat.le_trans HW0.out (by rw [hg];exact (keep_size (w := w) (g := g) (row := none) (zkp0 HK.out)) : w.heap.size ≤ gb527) : w0.heap.size ≤ gb527));have n6_ := As_ ((by rw [hg];exact Nat.ne_of_lt (IsS85.lt (show IsS85 w0 _ g s0_0 s0_1 from zi85_0 HI0.out)) : g ≠ gb527));have n7_ := As_ ((by rw [hg];exact Nat.ne_of_gt (IsS85.lt (show IsS85 w0 _ g s0_0 s0_1 from zi85_0 HI0.out)) : gb527 ≠ g));clear HI0;clear HK;clear HB;have HI0 := n0_;have HK := n1_;have HB := n2_;have BK527 := n3_;have GW527 := n4_;have GE527 := n5_;have NB0_527 := n6_;have NB527_0 := n7_;clear n0_ n1_ n2_ n3_ n4_ n5_ n6_ n7_;clear hb hbox hg)|((with_reducible refine gate_callee (f := 90) rfl ?_);refine goesL_ (some 4) rfl rfl Try.func90 (by kernel_rfl) rfl #[.pointer (some ⟨g,0,none⟩),.int .i64 8] rfl zM_ ?_;(with_reducible refine (spec_reader_pick.calls k g s0_0 s0_1 8 t528 t529 w0 _ ?side1 ?side2 A2.out).mono ?_);(case side1 => exact zi85_1 HI0.out NB0_527.out);(case side2 => exact zb2 HB.out (IsS85.ge HI0.out) GE527.out);rintro e w18 ⟨rfl,hi,hb,hk⟩;refine ⟨_,rfl,?_⟩;have n0_ := As_ (KeepBut.blk hk (g' := gb527) (o := .cells #[.int .i64 0,.int .i64 0,.slice none 0 0] 45 (0,0)) (zk_ BK527.out) NB527_0.out (by simp));have n1_ := As_ (KeepBut.trans (zkp1 HK.out GW527.out) hk (.inl rfl));have n2_ := As_ (hb);have n3_ := As_ (hi);clear BK527;clear HK;clear HB;clear HI0;have BK527 := n0_;have HK := n1_;have HB := n2_;have HI0 := n3_;clear n0_ n1_ n2_ n3_;(try clear hb);(try clear hb2);(try clear hk);(try clear hi))|((with_reducible refine gate_callee (f := 90) rfl ?_);refine goesL_ (some 16) rfl rfl Try.func90 (by kernel_rfl) rfl #[.pointer (some ⟨g,0,none⟩),.int .i64 3] rfl zM_ ?_;(with_reducible refine (spec_reader_pick.calls k g s0_0 t529 3 t537 t538 w0 _ ?side1 ?side2 A16.out).mono ?_);(case side1 => exact zi85_1 HI0.out NB0_527.out);(case side2 => exact zb2 HB.out (IsS85.ge HI0.out) GE527.out);rintro e w19 ⟨rfl,hi,hb,hk⟩;refine ⟨_,rfl,?_⟩;have n0_ := As_ (KeepBut.blk hk (g' := gb527) (o := .cells #[.int .i64 0,.int .i64 0,.slice none 0 0] 45 (0,0)) (zk_ BK527.out) NB527_0.out (by simp));have n1_ := As_ (KeepBut.trans (zkp1 HK.out GW527.out) hk (.inl rfl));have n2_ := As_ (hb);have n3_ := As_ (hi);clear BK527;clear HK;clear HB;clear HI0;have BK527 := n0_;have HK := n1_;have HB := n2_;have HI0 := n3_;clear n0_ n1_ n2_ n3_;(try clear hb);(try clear hb2);(try clear hk);(try clear hi);have hnb20 := NB527_0.out;have hnc20 := NB0_527.out;have hcz21_0 : w19.cell? ⟨gb527,0,none⟩ = some (.int .i64 0) := (bkC BK527.out 0).trans rfl;have hcz21_1 : w19.cell? ⟨gb527,1,none⟩ = some (.int .i64 0) := (bkC BK527.out 1).trans rfl;have hcz21_2 : w19.cell? ⟨gb527,2,none⟩ = some (.slice none 0 0) := (bkC BK527.out 2).trans rfl;have hfz21_0 := bkF BK527.out 0;have hfz21_1 := bkF BK527.out 1;have hfz21_2 := bkF BK527.out 2))
   refine bodyPost_ret (results_cell_row rfl _ _ gb527 45 #[.int .i64 1,.int .i64 t537,.slice none 0 0] (0,0) _ rfl (by (with_reducible repeat (first|refine bkN ?_ _|refine bkD ?_|refine bkA ?_ _));refine blk_put (cs := #[.int .i64 1,.int .i64 t537,.slice none 0 0]) ?_ 2 _ rfl;(with_reducible repeat (first|refine bkN ?_ _|refine bkD ?_|refine bkA ?_ _));refine blk_put (cs := #[.int .i64 1,.int .i64 0,.slice none 0 0]) ?_ 1 _ rfl;(with_reducible repeat (first|refine bkN ?_ _|refine bkD ?_|refine bkA ?_ _));refine blk_put (cs := #[.int .i64 0,.int .i64 0,.slice none 0 0]) ?_ 0 _ rfl;(with_reducible repeat (first|refine bkN ?_ _|refine bkD ?_|refine bkA ?_ _));exact BK527.out) Try.underlying45 rfl (by kernel_rfl)) rfl ?_
   exact ⟨_,rfl,by first|rfl|(simp [errW_none,errW_some] <;> rfl)|(simp [*,errW_none,errW_some] <;> rfl),by first|exact Kd.R_nil _ _ _ _ _|exact Kd.N_nil _ _ _ _ _|exact Kd.V_nil _ _ _ _ _|exact Kd.Q_nil _ _ _ _ _|exact Kd.S_nil _ _ _ _ _,zi85_1 HI0.out NB0_527.out,zb2 HB.out (IsS85.ge HI0.out) GE527.out,zkp1 HK.out GW527.out⟩
  ·rw [if_neg c15] at H
   have c15b0 : (t528 == 1) = false := beq_eq_false_iff_ne.mpr c15
   have c15b1 : (t528 != 1) = true := bne_iff_ne.mpr c15
   have HC22 := As_ H
   clear H
   go_enter Try.func103,Try.ntmps103
   go_upto_if 18 with (first|((with_reducible refine gate_dst (N := 2) rfl ?_);refine box_event ?hg (N := 2) ?hd (cs := #[.int .i64 0,.int .i64 0,.slice none 0 0]) (t := 45) ?hr ?_;(case hd => rfl);(case hg => rfl);(case hr => go_simp <;> rfl);intro gb527 hg w23 hbox hb;have n0_ := As_ (IsS85.below (zi85_0 HI0.out) hb);have n1_ := As_ (KeepBut.trans (zkp0 HK.out) (KeepBut.of_below hb g none) (.inl rfl));have n2_ := As_ (bwT (zb1 HB.out (IsS85.ge HI0.out)) hb);have n3_ := As_ (hbox);have n4_ := As_ ((by rw [hg];exact (keep_size (w := w) (g := g) (row := none) (zkp0 HK.out)) : w.heap.size ≤ gb527));have n5_ := As_ ((Nat.le_trans HW0.out (by rw [hg];exact (keep_size (w := w) (g := g) (row := none) (zkp0 HK.out)) : w.heap.size ≤ gb527) : w0.heap.size ≤ gb527));have n6_ := As_ ((by rw [hg];exact Nat.ne_of_lt (IsS85.lt (show IsS85 w0 _ g s0_0 s0_1 from zi85_0 HI0.out)) : g ≠ gb527));have n7_ := As_ ((by rw [hg];exact Nat.ne_of_gt (IsS85.lt (show IsS85 w0 _ g s0_0 s0_1 from zi85_0 HI0.out)) : gb527 ≠ g));clear HI0;clear HK;clear HB;have HI0 := n0_;have HK := n1_;have HB := n2_;have BK527 := n3_;have GW527 := n4_;have GE527 := n5_;have NB0_527 := n6_;have NB527_0 := n7_;clear n0_ n1_ n2_ n3_ n4_ n5_ n6_ n7_;clear hb hbox hg)|((with_reducible refine gate_callee (f := 90) rfl ?_);refine goesL_ (some 4) rfl rfl Try.func90 (by kernel_rfl) rfl #[.pointer (some ⟨g,0,none⟩),.int .i64 8] rfl zM_ ?_;(with_reducible refine (spec_reader_pick.calls k g s0_0 s0_1 8 t528 t529 w0 _ ?side1 ?side2 A2.out).mono ?_);(case side1 => exact zi85_1 HI0.out NB0_527.out);(case side2 => exact zb2 HB.out (IsS85.ge HI0.out) GE527.out);rintro e w24 ⟨rfl,hi,hb,hk⟩;refine ⟨_,rfl,?_⟩;have n0_ := As_ (KeepBut.blk hk (g' := gb527) (o := .cells #[.int .i64 0,.int .i64 0,.slice none 0 0] 45 (0,0)) (zk_ BK527.out) NB527_0.out (by simp));have n1_ := As_ (KeepBut.trans (zkp1 HK.out GW527.out) hk (.inl rfl));have n2_ := As_ (hb);have n3_ := As_ (hi);clear BK527;clear HK;clear HB;clear HI0;have BK527 := n0_;have HK := n1_;have HB := n2_;have HI0 := n3_;clear n0_ n1_ n2_ n3_;(try clear hb);(try clear hb2);(try clear hk);(try clear hi)))
   (try simp only [Act.put,List.setIfInBounds_toArray,List.set_cons_zero,List.set_cons_succ])
   go_cut [18] (fun v18 wc => ∃ (kq : Nat) (x18_21 : Bool),v18 = .bool x18_21 ∧ Aside0 (spec_someNode.j0 kq t528 x18_21 s0_0 t529 = some (r1,r2,r3,r4)) ∧ Aside0 (kq ≤ k) ∧ Aside0 (wc.heap[gb527]? = some (.cells #[.int .i64 0,.int .i64 0,(.slice none 0 0)] 45 (0,0))) ∧ Aside0 (IsS85 w0 wc g s0_0 t529) ∧ Aside0 (KeepBut w wc g none) ∧ Aside0 (Below w0.heap.size w0 wc))
   case first =>
    have H := HC22.out
    clear HC22
    by_cases c25 : t528 = 2
    ·rw [if_pos c25] at H
     have c25b0 : (t528 == 2) = true := beq_iff_eq.mpr c25
     have c25b1 : (t528 != 2) = false := bne_eq_false_iff_eq.mpr c25
     clear c25
     (first|rw [c25b0]|(simp only [i64_w,i32_w];rw [c25b0])|skip)
     have H' := As_ H
     clear H
     go_wp2
     go_meet
     case rel => exact ⟨_,((t528 == 2)),zT_,H',⟨by first|omega|exact Nat.le_refl _⟩,⟨by (with_reducible repeat (first|refine bkN ?_ _|refine bkD ?_|refine bkA ?_ _));exact BK527.out⟩,⟨zi85_1 HI0.out NB0_527.out⟩,⟨zkp1 HK.out GW527.out⟩,⟨zb2 HB.out (IsS85.ge HI0.out) GE527.out⟩⟩
    ·rw [if_neg c25] at H
     have c25b0 : (t528 == 2) = false := beq_eq_false_iff_ne.mpr c25
     have c25b1 : (t528 != 2) = true := bne_iff_ne.mpr c25
     (first|rw [c25b0]|(simp only [i64_w,i32_w];rw [c25b0])|skip)
     have H' := As_ H
     clear H
     go_wp2
     go_meet
     case rel => exact ⟨_,((t528 == 3)),zT_,H',⟨by first|omega|exact Nat.le_refl _⟩,⟨by (with_reducible repeat (first|refine bkN ?_ _|refine bkD ?_|refine bkA ?_ _));exact BK527.out⟩,⟨zi85_1 HI0.out NB0_527.out⟩,⟨zkp1 HK.out GW527.out⟩,⟨zb2 HB.out (IsS85.ge HI0.out) GE527.out⟩⟩
   case rest =>
    clear HC22
    try clear c1
    try clear c2
    try clear p2
    try clear c3
    try clear c3b0
    try clear c3b1
    try clear c9
    try clear c10
    try clear c13
    try clear c15
    try clear c15b0
    try clear c15b1
    try clear c20
    try clear c25
    try clear c25b0
    try clear c25b1
    try clear hcz14_0
    try clear hcz14_1
    try clear hcz14_2
    try clear hcz21_0
    try clear hcz21_1
    try clear hcz21_2
    try clear hfz14_0
    try clear hfz14_1
    try clear hfz14_2
    try clear hfz21_0
    try clear hfz21_1
    try clear hfz21_2
    obtain ⟨kq,x18_21,rfl,HA,HJ21,BK527,HI0,HK,HB⟩ := hcut
    cases kq with
    | zero => exact absurd HA.out (fun h_ => (by cases h_))
    | succ kj21 =>
     have H := HA.out
     clear HA
     simp only [spec_someNode.j0] at H
     by_cases c26 : x18_21 = true
     ·subst c26
      have H1 : (some (2,0,([] : List Int),t529)) = some (r1,r2,r3,r4) := by rw [if_pos rfl] at H;exact H
      clear H
      have H := H1
      clear H1
      simp only [Option.some.injEq,Prod.mk.injEq] at H
      obtain ⟨rfl,rfl,rfl,rfl⟩ := H
      have hnb27 := NB527_0.out
      have hnc27 := NB0_527.out
      have hcz28_0 : wc.cell? ⟨gb527,0,none⟩ = some (.int .i64 0) := (bkC BK527.out 0).trans rfl
      have hcz28_1 : wc.cell? ⟨gb527,1,none⟩ = some (.int .i64 0) := (bkC BK527.out 1).trans rfl
      have hcz28_2 : wc.cell? ⟨gb527,2,none⟩ = some (.slice none 0 0) := (bkC BK527.out 2).trans rfl
      have hfz28_0 := bkF BK527.out 0
      have hfz28_1 := bkF BK527.out 1
      have hfz28_2 := bkF BK527.out 2
      go_wp2
      refine bodyPost_ret (results_cell_row rfl _ _ gb527 45 #[.int .i64 2,.int .i64 0,.slice none 0 0] (0,0) _ rfl (by (with_reducible repeat (first|refine bkN ?_ _|refine bkD ?_|refine bkA ?_ _));refine blk_put (cs := #[.int .i64 2,.int .i64 0,.slice none 0 0]) ?_ 2 _ rfl;(with_reducible repeat (first|refine bkN ?_ _|refine bkD ?_|refine bkA ?_ _));refine blk_put (cs := #[.int .i64 2,.int .i64 0,.slice none 0 0]) ?_ 1 _ rfl;(with_reducible repeat (first|refine bkN ?_ _|refine bkD ?_|refine bkA ?_ _));refine blk_put (cs := #[.int .i64 0,.int .i64 0,.slice none 0 0]) ?_ 0 _ rfl;(with_reducible repeat (first|refine bkN ?_ _|refine bkD ?_|refine bkA ?_ _));exact BK527.out) Try.underlying45 rfl (by kernel_rfl)) rfl ?_
      exact ⟨_,rfl,by first|rfl|(simp [errW_none,errW_some] <;> rfl)|(simp [*,errW_none,errW_some] <;> rfl),by first|exact Kd.R_nil _ _ _ _ _|exact Kd.N_nil _ _ _ _ _|exact Kd.V_nil _ _ _ _ _|exact Kd.Q_nil _ _ _ _ _|exact Kd.S_nil _ _ _ _ _,zi85_1 HI0.out NB0_527.out,zb2 HB.out (IsS85.ge HI0.out) GE527.out,zkp1 HK.out GW527.out⟩
     ·replace c26 := Bool.eq_false_iff.mpr c26
      subst c26
      have H1 : (if t528 = 4 then (spec_someNode.j1 kj21 t528 (t528 == 4) s0_0 t529) else (spec_someNode.j1 kj21 t528 (t528 == 5) s0_0 t529)) = some (r1,r2,r3,r4) := by rw [if_neg (show ¬ (false = true) by decide)] at H;exact H
      clear H
      have H := H1
      clear H1
      have HC29 := As_ H
      clear H
      go_upto_if 22 with (fail)
      go_cut [22] (fun v22 wc => ∃ (kq : Nat) (x22_28 : Bool),v22 = .bool x22_28 ∧ Aside0 (spec_someNode.j1 kq t528 x22_28 s0_0 t529 = some (r1,r2,r3,r4)) ∧ Aside0 (kq ≤ kj21) ∧ Aside0 (wc.heap[gb527]? = some (.cells #[.int .i64 0,.int .i64 0,(.slice none 0 0)] 45 (0,0))) ∧ Aside0 (IsS85 w0 wc g s0_0 t529) ∧ Aside0 (KeepBut w wc g none) ∧ Aside0 (Below w0.heap.size w0 wc))
      case first =>
       have H := HC29.out
       clear HC29
       by_cases c30 : t528 = 4
       ·rw [if_pos c30] at H
        have c30b0 : (t528 == 4) = true := beq_iff_eq.mpr c30
        have c30b1 : (t528 != 4) = false := bne_eq_false_iff_eq.mpr c30
        clear c30
        (first|rw [c30b0]|(simp only [i64_w,i32_w];rw [c30b0])|skip)
        have H' := As_ H
        clear H
        go_wp2
        go_meet
        case rel => exact ⟨_,((t528 == 4)),zT_,H',⟨by have := HJ21.out;first|omega|exact Nat.le_refl _⟩,⟨by (with_reducible repeat (first|refine bkN ?_ _|refine bkD ?_|refine bkA ?_ _));exact BK527.out⟩,⟨zi85_1 HI0.out NB0_527.out⟩,⟨zkp1 HK.out GW527.out⟩,⟨zb2 HB.out (IsS85.ge HI0.out) GE527.out⟩⟩
       ·rw [if_neg c30] at H
        have c30b0 : (t528 == 4) = false := beq_eq_false_iff_ne.mpr c30
        have c30b1 : (t528 != 4) = true := bne_iff_ne.mpr c30
        (first|rw [c30b0]|(simp only [i64_w,i32_w];rw [c30b0])|skip)
        have H' := As_ H
        clear H
        go_wp2
        go_meet
        case rel => exact ⟨_,((t528 == 5)),zT_,H',⟨by have := HJ21.out;first|omega|exact Nat.le_refl _⟩,⟨by (with_reducible repeat (first|refine bkN ?_ _|refine bkD ?_|refine bkA ?_ _));exact BK527.out⟩,⟨zi85_1 HI0.out NB0_527.out⟩,⟨zkp1 HK.out GW527.out⟩,⟨zb2 HB.out (IsS85.ge HI0.out) GE527.out⟩⟩
      case rest =>
       clear HC29
       try clear c1
       try clear c2
       try clear p2
       try clear c3
       try clear c3b0
       try clear c3b1
       try clear c9
       try clear c10
       try clear c13
       try clear c15
       try clear c15b0
       try clear c15b1
       try clear c20
       try clear c25
       try clear c25b0
       try clear c25b1
       try clear c26
       try clear c27
       try clear c30
       try clear c30b0
       try clear c30b1
       try clear hcz14_0
       try clear hcz14_1
       try clear hcz14_2
       try clear hcz21_0
       try clear hcz21_1
       try clear hcz21_2
       try clear hcz28_0
       try clear hcz28_1
       try clear hcz28_2
       try clear hfz14_0
       try clear hfz14_1
       try clear hfz14_2
       try clear hfz21_0
       try clear hfz21_1
       try clear hfz21_2
       try clear hfz28_0
       try clear hfz28_1
       try clear hfz28_2
       try clear p2
       obtain ⟨kq,x22_28,rfl,HA,HJ28,BK527,HI0,HK,HB⟩ := hcut
       cases kq with
       | zero => exact absurd HA.out (fun h_ => (by cases h_))
       | succ kj28 =>
        have H := HA.out
        clear HA
        simp only [spec_someNode.j1] at H
        by_cases c31 : x22_28 = true
        ·subst c31
         have H1 : (some (3,0,([] : List Int),t529)) = some (r1,r2,r3,r4) := by rw [if_pos rfl] at H;exact H
         clear H
         have H := H1
         clear H1
         simp only [Option.some.injEq,Prod.mk.injEq] at H
         obtain ⟨rfl,rfl,rfl,rfl⟩ := H
         have hnb32 := NB527_0.out
         have hnc32 := NB0_527.out
         have hcz33_0 : wc.cell? ⟨gb527,0,none⟩ = some (.int .i64 0) := (bkC BK527.out 0).trans rfl
         have hcz33_1 : wc.cell? ⟨gb527,1,none⟩ = some (.int .i64 0) := (bkC BK527.out 1).trans rfl
         have hcz33_2 : wc.cell? ⟨gb527,2,none⟩ = some (.slice none 0 0) := (bkC BK527.out 2).trans rfl
         have hfz33_0 := bkF BK527.out 0
         have hfz33_1 := bkF BK527.out 1
         have hfz33_2 := bkF BK527.out 2
         go_wp2
         refine bodyPost_ret (results_cell_row rfl _ _ gb527 45 #[.int .i64 3,.int .i64 0,.slice none 0 0] (0,0) _ rfl (by (with_reducible repeat (first|refine bkN ?_ _|refine bkD ?_|refine bkA ?_ _));refine blk_put (cs := #[.int .i64 3,.int .i64 0,.slice none 0 0]) ?_ 2 _ rfl;(with_reducible repeat (first|refine bkN ?_ _|refine bkD ?_|refine bkA ?_ _));refine blk_put (cs := #[.int .i64 3,.int .i64 0,.slice none 0 0]) ?_ 1 _ rfl;(with_reducible repeat (first|refine bkN ?_ _|refine bkD ?_|refine bkA ?_ _));refine blk_put (cs := #[.int .i64 0,.int .i64 0,.slice none 0 0]) ?_ 0 _ rfl;(with_reducible repeat (first|refine bkN ?_ _|refine bkD ?_|refine bkA ?_ _));exact BK527.out) Try.underlying45 rfl (by kernel_rfl)) rfl ?_
         exact ⟨_,rfl,by first|rfl|(simp [errW_none,errW_some] <;> rfl)|(simp [*,errW_none,errW_some] <;> rfl),by first|exact Kd.R_nil _ _ _ _ _|exact Kd.N_nil _ _ _ _ _|exact Kd.V_nil _ _ _ _ _|exact Kd.Q_nil _ _ _ _ _|exact Kd.S_nil _ _ _ _ _,zi85_1 HI0.out NB0_527.out,zb2 HB.out (IsS85.ge HI0.out) GE527.out,zkp1 HK.out GW527.out⟩
        ·replace c31 := Bool.eq_false_iff.mpr c31
         subst c31
         have H1 : (if t528 = 6 then (some (4,0,([] : List Int),t529)) else ((spec_reader_pick.f kj28 s0_0 t529 3).bind fun bt539 => (some (5,bt539.1,([] : List Int),bt539.2)))) = some (r1,r2,r3,r4) := by rw [if_neg (show ¬ (false = true) by decide)] at H;exact H
         clear H
         have H := H1
         clear H1
         by_cases c34 : t528 = 6
         ·rw [if_pos c34] at H
          have c34b0 : (t528 == 6) = true := beq_iff_eq.mpr c34
          have c34b1 : (t528 != 6) = false := bne_eq_false_iff_eq.mpr c34
          clear c34
          simp only [Option.some.injEq,Prod.mk.injEq] at H
          obtain ⟨rfl,rfl,rfl,rfl⟩ := H
          have hnb35 := NB527_0.out
          have hnc35 := NB0_527.out
          have hcz36_0 : wc.cell? ⟨gb527,0,none⟩ = some (.int .i64 0) := (bkC BK527.out 0).trans rfl
          have hcz36_1 : wc.cell? ⟨gb527,1,none⟩ = some (.int .i64 0) := (bkC BK527.out 1).trans rfl
          have hcz36_2 : wc.cell? ⟨gb527,2,none⟩ = some (.slice none 0 0) := (bkC BK527.out 2).trans rfl
          have hfz36_0 := bkF BK527.out 0
          have hfz36_1 := bkF BK527.out 1
          have hfz36_2 := bkF BK527.out 2
          go_wp2
          refine bodyPost_ret (results_cell_row rfl _ _ gb527 45 #[.int .i64 4,.int .i64 0,.slice none 0 0] (0,0) _ rfl (by (with_reducible repeat (first|refine bkN ?_ _|refine bkD ?_|refine bkA ?_ _));refine blk_put (cs := #[.int .i64 4,.int .i64 0,.slice none 0 0]) ?_ 2 _ rfl;(with_reducible repeat (first|refine bkN ?_ _|refine bkD ?_|refine bkA ?_ _));refine blk_put (cs := #[.int .i64 4,.int .i64 0,.slice none 0 0]) ?_ 1 _ rfl;(with_reducible repeat (first|refine bkN ?_ _|refine bkD ?_|refine bkA ?_ _));refine blk_put (cs := #[.int .i64 0,.int .i64 0,.slice none 0 0]) ?_ 0 _ rfl;(with_reducible repeat (first|refine bkN ?_ _|refine bkD ?_|refine bkA ?_ _));exact BK527.out) Try.underlying45 rfl (by kernel_rfl)) rfl ?_
          exact ⟨_,rfl,by first|rfl|(simp [errW_none,errW_some] <;> rfl)|(simp [*,errW_none,errW_some] <;> rfl),by first|exact Kd.R_nil _ _ _ _ _|exact Kd.N_nil _ _ _ _ _|exact Kd.V_nil _ _ _ _ _|exact Kd.Q_nil _ _ _ _ _|exact Kd.S_nil _ _ _ _ _,zi85_1 HI0.out NB0_527.out,zb2 HB.out (IsS85.ge HI0.out) GE527.out,zkp1 HK.out GW527.out⟩
         ·rw [if_neg c34] at H
          have c34b0 : (t528 == 6) = false := beq_eq_false_iff_ne.mpr c34
          have c34b1 : (t528 != 6) = true := bne_iff_ne.mpr c34
          replace H := obS H
          obtain ⟨⟨t539,t540⟩,A370,H⟩ := H
          replace H : (some (5,t539,([] : List Int),t540)) = some (r1,r2,r3,r4) := H
          have A37 := As_ A370
          clear A370
          simp only [Option.some.injEq,Prod.mk.injEq] at H
          obtain ⟨rfl,rfl,rfl,rfl⟩ := H
          go_wp2_with (first|((with_reducible refine gate_callee (f := 90) rfl ?_);refine goesL_ (some 30) rfl rfl Try.func90 (by kernel_rfl) rfl #[.pointer (some ⟨g,0,none⟩),.int .i64 3] rfl zM_ ?_;(with_reducible refine (spec_reader_pick.calls kj28 g s0_0 t529 3 t539 t540 w0 _ ?side1 ?side2 A37.out).mono ?_);(case side1 => exact zi85_1 HI0.out NB0_527.out);(case side2 => exact zb2 HB.out (IsS85.ge HI0.out) GE527.out);rintro e w38 ⟨rfl,hi,hb,hk⟩;refine ⟨_,rfl,?_⟩;have n0_ := As_ (KeepBut.blk hk (g' := gb527) (o := .cells #[.int .i64 0,.int .i64 0,.slice none 0 0] 45 (0,0)) (zk_ BK527.out) NB527_0.out (by simp));have n1_ := As_ (KeepBut.trans (zkp1 HK.out GW527.out) hk (.inl rfl));have n2_ := As_ (hb);have n3_ := As_ (hi);clear BK527;clear HK;clear HB;clear HI0;have BK527 := n0_;have HK := n1_;have HB := n2_;have HI0 := n3_;clear n0_ n1_ n2_ n3_;(try clear hb);(try clear hb2);(try clear hk);(try clear hi);have hnb39 := NB527_0.out;have hnc39 := NB0_527.out;have hcz40_0 : w38.cell? ⟨gb527,0,none⟩ = some (.int .i64 0) := (bkC BK527.out 0).trans rfl;have hcz40_1 : w38.cell? ⟨gb527,1,none⟩ = some (.int .i64 0) := (bkC BK527.out 1).trans rfl;have hcz40_2 : w38.cell? ⟨gb527,2,none⟩ = some (.slice none 0 0) := (bkC BK527.out 2).trans rfl;have hfz40_0 := bkF BK527.out 0;have hfz40_1 := bkF BK527.out 1;have hfz40_2 := bkF BK527.out 2))
          refine bodyPost_ret (results_cell_row rfl _ _ gb527 45 #[.int .i64 5,.int .i64 t539,.slice none 0 0] (0,0) _ rfl (by (with_reducible repeat (first|refine bkN ?_ _|refine bkD ?_|refine bkA ?_ _));refine blk_put (cs := #[.int .i64 5,.int .i64 t539,.slice none 0 0]) ?_ 2 _ rfl;(with_reducible repeat (first|refine bkN ?_ _|refine bkD ?_|refine bkA ?_ _));refine blk_put (cs := #[.int .i64 5,.int .i64 0,.slice none 0 0]) ?_ 1 _ rfl;(with_reducible repeat (first|refine bkN ?_ _|refine bkD ?_|refine bkA ?_ _));refine blk_put (cs := #[.int .i64 0,.int .i64 0,.slice none 0 0]) ?_ 0 _ rfl;(with_reducible repeat (first|refine bkN ?_ _|refine bkD ?_|refine bkA ?_ _));exact BK527.out) Try.underlying45 rfl (by kernel_rfl)) rfl ?_
          exact ⟨_,rfl,by first|rfl|(simp [errW_none,errW_some] <;> rfl)|(simp [*,errW_none,errW_some] <;> rfl),by first|exact Kd.R_nil _ _ _ _ _|exact Kd.N_nil _ _ _ _ _|exact Kd.V_nil _ _ _ _ _|exact Kd.Q_nil _ _ _ _ _|exact Kd.S_nil _ _ _ _ _,zi85_1 HI0.out NB0_527.out,zb2 HB.out (IsS85.ge HI0.out) GE527.out,zkp1 HK.out GW527.out⟩

end Go.Proofs.Ytfhakhbmbnbneaa.Q
