-- Written by wip/tools/qprint.py (a program of this claim's author) by means of the kit's printer.
import Derived.Test.YtapaegcombfafaaQ0
import Derived.Test.YtapaegcombfafaaQ49
import Derived.Test.YtapaegcombfafaaQ61
namespace Go.Proofs.Ytapaegcombfafaa.Q
open Go.RowKit Go.Proofs.YtapaegcombfafaaW.PrintWords Go.Proofs.YtapaegcombfafaaW.PrintLast Go.Proofs.YtapaegcombfafaaW.PrintMore
attribute [local go_sem] max2_int min2_int max_two min_two max_three min_three max_four min_four   -- for this text's walks alone
set_option linter.unusedVariables false
set_option linter.unusedSimpArgs false

/-! ### spec_MergeTexts: function 33 -/
mutual
def spec_MergeTexts.l0 : Nat → Int → List (S58) → Int → List (S58) → Int → Option ((List (S58)) × Int)
 | 0,_,_,_,_,_ => none
 | k + 1,x4,x776000,x776001,x783000,x783001 => if x4 < (x783000.length : Int) then (spec_MergeTexts.l1 k x4 0 x776000 x776001 x783000 x783001) else ((spec_firstText.f k x776000 x776001 x776001).bind fun t783 => (some (x783000,t783)))
def spec_MergeTexts.l1 : Nat → Int → Int → List (S58) → Int → List (S58) → Int → Option ((List (S58)) × Int)
 | 0,_,_,_,_,_,_ => none
 | k + 1,x4,x5,x776000,x776001,x783000,x783001 => if 0 ≤ x4 then (if x4 < (x783000.length : Int) then (if x5 < (((rd_T58 x783000 x4).f2).length : Int) then (if 0 ≤ x5 then ((spec_firstText.f k x776000 x776001 (rd ((rd_T58 x783000 x4).f2) x5)).bind fun t788 => (spec_MergeTexts.l1 k x4 (wrap64 (x5 + 1)) x776000 x776001 (x783000.set (x4 : Int).toNat (⟨(rd_T58 x783000 x4).f0,(rd_T58 x783000 x4).f1,(((rd_T58 x783000 x4).f2).set (x5 : Int).toNat t788)⟩ : S58)) x783001)) else (none)) else (spec_MergeTexts.l0 k (wrap64 (x4 + 1)) x776000 x776001 x783000 x783001)) else (none)) else (none)
end
def spec_MergeTexts.f (k : Nat) (l0_0 : List (S58)) (a0_1 : Int) : Option ((List (S58)) × Int) := (spec_validGraph.f k l0_0 a0_1).bind fun t777 => (if t777 = true then ((spec_copyGraph.f k l0_0 a0_1).bind fun bt778 => (spec_MergeTexts.l0 k 0 l0_0 a0_1 bt778.1 bt778.2)) else (some (([] : List (S58)),0)))
set_option maxRecDepth 100000 in
theorem spec_MergeTexts.mono_l : ∀ k,(∀ y0 y1 y2 y3 y4,LeO (spec_MergeTexts.l0 k y0 y1 y2 y3 y4) (spec_MergeTexts.l0 (k + 1) y0 y1 y2 y3 y4)) ∧ (∀ y0 y1 y2 y3 y4 y5,LeO (spec_MergeTexts.l1 k y0 y1 y2 y3 y4 y5) (spec_MergeTexts.l1 (k + 1) y0 y1 y2 y3 y4 y5))
 | 0 => ⟨fun _ _ _ _ _ r h => (by cases h),fun _ _ _ _ _ _ r h => (by cases h)⟩
 | k + 1 => by
  obtain ⟨ih0,ih1⟩ := spec_MergeTexts.mono_l k
  refine ⟨?_,?_⟩
  ·intro y0 y1 y2 y3 y4
   unfold spec_MergeTexts.l0
   repeat' first
   | (with_reducible exact ih0 _ _ _ _ _)
   | (with_reducible exact ih1 _ _ _ _ _ _)
   | (with_reducible exact spec_copyGraph.mono _ _ _)
   | (with_reducible exact spec_firstText.mono _ _ _ _)
   | (with_reducible exact spec_validGraph.mono _ _ _)
   | (with_reducible exact LeO.refl _)
   | (with_reducible exact LeO.none _)
   | (with_reducible refine LeO.ite ?_ ?_)
   | (with_reducible refine LeO.bind ?_ (fun _ => ?_))
   | exact ih0 _ _ _ _ _
   | exact ih1 _ _ _ _ _ _
   | exact spec_copyGraph.mono _ _ _
   | exact spec_firstText.mono _ _ _ _
   | exact spec_validGraph.mono _ _ _
   | exact LeO.none _
   | refine LeO.ite ?_ ?_
   | refine LeO.bind ?_ (fun _ => ?_)
  ·intro y0 y1 y2 y3 y4 y5
   unfold spec_MergeTexts.l1
   repeat' first
   | (with_reducible exact ih0 _ _ _ _ _)
   | (with_reducible exact ih1 _ _ _ _ _ _)
   | (with_reducible exact spec_copyGraph.mono _ _ _)
   | (with_reducible exact spec_firstText.mono _ _ _ _)
   | (with_reducible exact spec_validGraph.mono _ _ _)
   | (with_reducible exact LeO.refl _)
   | (with_reducible exact LeO.none _)
   | (with_reducible refine LeO.ite ?_ ?_)
   | (with_reducible refine LeO.bind ?_ (fun _ => ?_))
   | exact ih0 _ _ _ _ _
   | exact ih1 _ _ _ _ _ _
   | exact spec_copyGraph.mono _ _ _
   | exact spec_firstText.mono _ _ _ _
   | exact spec_validGraph.mono _ _ _
   | exact LeO.none _
   | refine LeO.ite ?_ ?_
   | refine LeO.bind ?_ (fun _ => ?_)
set_option maxRecDepth 100000 in
theorem spec_MergeTexts.mono : ∀ a0 a1 k,LeO (spec_MergeTexts.f k a0 a1) (spec_MergeTexts.f (k + 1) a0 a1) := by
 intro a0 a1 k
 obtain ⟨ih0,ih1⟩ := spec_MergeTexts.mono_l k
 unfold spec_MergeTexts.f
 repeat' first
   | (with_reducible exact ih0 _ _ _ _ _)
   | (with_reducible exact ih1 _ _ _ _ _ _)
   | (with_reducible exact spec_copyGraph.mono _ _ _)
   | (with_reducible exact spec_firstText.mono _ _ _ _)
   | (with_reducible exact spec_validGraph.mono _ _ _)
   | (with_reducible exact LeO.refl _)
   | (with_reducible exact LeO.none _)
   | (with_reducible refine LeO.ite ?_ ?_)
   | (with_reducible refine LeO.bind ?_ (fun _ => ?_))
   | exact ih0 _ _ _ _ _
   | exact ih1 _ _ _ _ _ _
   | exact spec_copyGraph.mono _ _ _
   | exact spec_firstText.mono _ _ _ _
   | exact spec_validGraph.mono _ _ _
   | exact LeO.none _
   | refine LeO.ite ?_ ?_
   | refine LeO.bind ?_ (fun _ => ?_)
def spec_MergeTexts.T10 : Bool × List (List Nat × List Nat) := (true,[([],[]),([0],[0]),([],[]),([1,2],[1,2]),([3],[3]),([4],[4]),([],[]),([],[]),([],[]),([8],[8]),([],[]),([9,10],[9,10]),([11],[11]),([12],[12]),([],[]),([13,14],[13,14]),([15],[15]),([7,16],[7,16]),([5,6,0,1,2,3,4,5,6,7,8,9,10,11,12,13,14,15,16,17],[5,6]),([18,17,17,0,1,2,3,4,5,6,7,8,9,10,11,12,13,14,15,16,17],[17,18])])
def spec_MergeTexts.B10 : List Nat := [0,1,0,7,15,31,0,0,0,256,0,1792,3840,7936,0,32512,65280,130944,262143,524287]
theorem spec_MergeTexts.tab10 : rtab .any (opsOf Try.f33 10) = spec_MergeTexts.T10 := by kernel_rfl
theorem spec_MergeTexts.bits10 : waitsOk spec_MergeTexts.T10.2 spec_MergeTexts.B10 = true := by kernel_rfl
set_option maxHeartbeats 8000000 in
set_option maxRecDepth 100000 in
theorem spec_MergeTexts.calls (k : Nat) (A0_0 : Option Addr) (c0_0 : Nat) (l0_0 : List (S58)) (a0_1 : Int) (r1 : List (S58)) (r2 : Int) (w : World) (hr0_0 : Kd.C k58 w A0_0 l0_0.length l0_0) (hc0_0 : l0_0.length ≤ c0_0) (h : spec_MergeTexts.f k l0_0 a0_1 = some (r1,r2)) :
  Calls Try.prog 33 #[.agg #[.slice A0_0 l0_0.length c0_0,.int .i64 a0_1]] w fun e w' => ∃ v0_ : Value,e = .returned (.agg #[v0_,.int .i64 r2]) ∧ Kd.S k58 58 w' w.heap.size (fun _ => True) v0_ r1 ∧ Below w.heap.size w w' := by
 have hu25 := Try.underlying25
 have HR0_0 := As_ hr0_0
 have HC0_0 := As_ hc0_0
 clear hr0_0 hc0_0
 have HB := As_ (Below.refl w.heap.size w)
 have H : ((spec_validGraph.f k l0_0 a0_1).bind fun t777 => (if t777 = true then ((spec_copyGraph.f k l0_0 a0_1).bind fun bt778 => (spec_MergeTexts.l0 k 0 l0_0 a0_1 bt778.1 bt778.2)) else (some (([] : List (S58)),0)))) = some (r1,r2) := h
 clear h
 replace H := obS H
 obtain ⟨t777,A20,H⟩ := H
 replace H : (if t777 = true then ((spec_copyGraph.f k l0_0 a0_1).bind fun bt778 => (spec_MergeTexts.l0 k 0 l0_0 a0_1 bt778.1 bt778.2)) else (some (([] : List (S58)),0))) = some (r1,r2) := H
 have A2 := As_ A20
 clear A20
 by_cases c3 : t777 = true
 ·subst c3
  have H1 : ((spec_copyGraph.f k l0_0 a0_1).bind fun bt778 => (spec_MergeTexts.l0 k 0 l0_0 a0_1 bt778.1 bt778.2)) = some (r1,r2) := by rw [if_pos rfl] at H;exact H
  clear H
  have H := H1
  clear H1
  replace H := obS H
  obtain ⟨⟨t778,t781⟩,A40,H⟩ := H
  replace H : (spec_MergeTexts.l0 k 0 l0_0 a0_1 t778 t781) = some (r1,r2) := H
  have A4 := As_ A40
  clear A40
  have H' := As_ H
  clear H
  go_enter Try.func33,Try.ntmps33
  go_wp2_with (first|((with_reducible refine gate_dst (N := 1) rfl ?_);refine box_event ?hg (N := 1) ?hd (cs := #[.slice A0_0 l0_0.length c0_0,.int .i64 a0_1]) (t := 25) ?hr ?_;(case hd => rfl);(case hg => rfl);(case hr => go_simp <;> rfl);intro gb775 hg w5 hbox hb;have n0_ := As_ (bwT (by repeat (first|(with_reducible first|exact HB.out|apply bwA|apply bwN|apply bwD)|exact HB.out)) hb);have n1_ := As_ (hbox);have n2_ := As_ ((by rw [hg];exact (bwZ (by repeat (first|(with_reducible first|exact HB.out|apply bwA|apply bwN|apply bwD)|exact HB.out))) : w.heap.size ≤ gb775));have n3_ := As_ ((by rw [hg];exact (bwZ (by repeat (first|(with_reducible first|exact HB.out|apply bwA|apply bwN|apply bwD)|exact HB.out))) : w.heap.size ≤ gb775));clear HB;have HB := n0_;have BK775 := n1_;have GW775 := n2_;have GE775 := n3_;clear n0_ n1_ n2_ n3_;clear hb hbox hg)|((with_reducible refine gate_dst (N := 2) rfl ?_);refine box_event ?hg (N := 2) ?hd (cs := #[.slice none 0 0,.int .i64 0]) (t := 25) ?hr ?_;(case hd => rfl);(case hg => rfl);(case hr => go_simp <;> rfl);intro gb776 hg w6 hbox hb;have n0_ := As_ (blk_below (g := gb775) (o := .cells #[.slice A0_0 l0_0.length c0_0,.int .i64 a0_1] 25 (0,0)) (by (with_reducible repeat (first|refine bkN ?_ _|refine bkD ?_|refine bkA ?_ _));exact BK775.out) hb);have n1_ := As_ (bwT (by repeat (first|(with_reducible first|exact HB.out|apply bwA|apply bwN|apply bwD|refine bwS ?_ GE775.out)|exact HB.out)) hb);have n2_ := As_ (hbox);have n3_ := As_ ((by rw [hg];exact (bwZ (by repeat (first|(with_reducible first|exact HB.out|apply bwA|apply bwN|apply bwD|refine bwS ?_ GE775.out)|exact HB.out))) : w.heap.size ≤ gb776));have n4_ := As_ ((by rw [hg];exact (bwZ (by repeat (first|(with_reducible first|exact HB.out|apply bwA|apply bwN|apply bwD|refine bwS ?_ GE775.out)|exact HB.out))) : w.heap.size ≤ gb776));have n5_ := As_ ((by rw [hg];exact Nat.ne_of_lt (blk_lt (g := gb775) (o := .cells #[.slice A0_0 l0_0.length c0_0,.int .i64 a0_1] 25 (0,0)) (by (with_reducible repeat (first|refine bkN ?_ _|refine bkD ?_|refine bkA ?_ _));exact BK775.out)) : gb775 ≠ gb776));have n6_ := As_ ((by rw [hg];exact Nat.ne_of_gt (blk_lt (g := gb775) (o := .cells #[.slice A0_0 l0_0.length c0_0,.int .i64 a0_1] 25 (0,0)) (by (with_reducible repeat (first|refine bkN ?_ _|refine bkD ?_|refine bkA ?_ _));exact BK775.out)) : gb776 ≠ gb775));clear BK775;clear HB;have BK775 := n0_;have HB := n1_;have BK776 := n2_;have GW776 := n3_;have GE776 := n4_;have NB775_776 := n5_;have NB776_775 := n6_;clear n0_ n1_ n2_ n3_ n4_ n5_ n6_;clear hb hbox hg;have hnb7 := NB775_776.out;have hnc7 := NB776_775.out;have hcz8_0 : w6.cell? ⟨gb775,0,none⟩ = some (.slice A0_0 l0_0.length c0_0) := (bkC BK775.out 0).trans rfl;have hcz8_1 : w6.cell? ⟨gb775,1,none⟩ = some (.int .i64 a0_1) := (bkC BK775.out 1).trans rfl;have hfz8_0 := bkF BK775.out 0;have hfz8_1 := bkF BK775.out 1)|((with_reducible refine gate_callee (f := 49) rfl ?_);refine goesL_ (some 7) rfl rfl Try.func49 (by kernel_rfl) rfl #[.agg #[.slice A0_0 l0_0.length c0_0,.int .i64 a0_1]] rfl (by (try simp only [List.map_toArray,List.map_cons,List.map_nil]);first|done|rfl|(simp only [List.length_drop,List.length_take];rfl)) ?_;(with_reducible refine (spec_validGraph.calls k _ _ l0_0 a0_1 true _ ?side1 ?side2 A2.out).mono ?_);(case side1 => repeat (first|exact (Kd.C_below HR0_0.out HB.out)|(with_reducible refine Kd.C_alloc ?_ _)|(with_reducible refine Kd.C_drewN ?_ _)|(with_reducible refine Kd.C_drew ?_)));(case side2 => exact HC0_0.out);rintro e w9 ⟨rfl,hb⟩;refine ⟨_,rfl,?_⟩;have n0_ := As_ (blk_below (g := gb775) (o := .cells #[.slice A0_0 l0_0.length c0_0,.int .i64 a0_1] 25 (0,0)) (by (with_reducible repeat (first|refine bkN ?_ _|refine bkD ?_|refine bkA ?_ _));exact BK775.out) hb);have n1_ := As_ (blk_below (g := gb776) (o := .cells #[.slice none 0 0,.int .i64 0] 25 (0,0)) (by (with_reducible repeat (first|refine bkN ?_ _|refine bkD ?_|refine bkA ?_ _));exact BK776.out) hb);have n2_ := As_ (bwT (by repeat (first|(with_reducible first|exact HB.out|apply bwA|apply bwN|apply bwD|refine bwS ?_ GE775.out|refine bwS ?_ GE776.out)|exact HB.out)) hb);clear BK775;clear BK776;clear HB;have BK775 := n0_;have BK776 := n1_;have HB := n2_;clear n0_ n1_ n2_;(try clear hb);(try clear hb2);(try clear hk);(try clear hi);have hcz10_0 : w9.cell? ⟨gb775,0,none⟩ = some (.slice A0_0 l0_0.length c0_0) := (bkC BK775.out 0).trans rfl;have hcz10_1 : w9.cell? ⟨gb775,1,none⟩ = some (.int .i64 a0_1) := (bkC BK775.out 1).trans rfl;have hfz10_0 := bkF BK775.out 0;have hfz10_1 := bkF BK775.out 1)|((with_reducible refine gate_callee (f := 61) rfl ?_);refine goesL_ (some 11) rfl rfl Try.func61 (by kernel_rfl) rfl #[.agg #[.slice A0_0 l0_0.length c0_0,.int .i64 a0_1]] rfl (by (try simp only [List.map_toArray,List.map_cons,List.map_nil]);first|done|rfl|(simp only [List.length_drop,List.length_take];rfl)) ?_;(with_reducible refine (spec_copyGraph.calls k _ _ l0_0 a0_1 t778 t781 _ ?side1 ?side2 A4.out).mono ?_);(case side1 => repeat (first|exact (Kd.C_below HR0_0.out HB.out)|(with_reducible refine Kd.C_alloc ?_ _)|(with_reducible refine Kd.C_drewN ?_ _)|(with_reducible refine Kd.C_drew ?_)));(case side2 => exact HC0_0.out);rintro e w11 ⟨v779,rfl,ho0,hb⟩;refine ⟨_,rfl,?_⟩;have n0_ := As_ (Kd.S_lower ho0 (bwZ (by repeat (first|(with_reducible first|exact HB.out|apply bwA|apply bwN|apply bwD|refine bwS ?_ GE775.out|refine bwS ?_ GE776.out)|exact HB.out))));have n1_ := As_ (blk_below (g := gb775) (o := .cells #[.slice A0_0 l0_0.length c0_0,.int .i64 a0_1] 25 (0,0)) (by (with_reducible repeat (first|refine bkN ?_ _|refine bkD ?_|refine bkA ?_ _));exact BK775.out) hb);have n2_ := As_ (blk_below (g := gb776) (o := .cells #[.slice none 0 0,.int .i64 0] 25 (0,0)) (by (with_reducible repeat (first|refine bkN ?_ _|refine bkD ?_|refine bkA ?_ _));exact BK776.out) hb);have n3_ := As_ (bwT (by repeat (first|(with_reducible first|exact HB.out|apply bwA|apply bwN|apply bwD|refine bwS ?_ GE775.out|refine bwS ?_ GE776.out)|exact HB.out)) hb);clear BK775;clear BK776;clear HB;have HO780 := n0_;have BK775 := n1_;have BK776 := n2_;have HB := n3_;clear n0_ n1_ n2_ n3_;(try clear hb);(try clear hb2);(try clear hk);(try clear hi);(try clear ho0))|((with_reducible refine gate_dst (N := 3) rfl ?_);refine box_event ?hg (N := 3) ?hd (cs := #[.slice none 0 0,.int .i64 0]) (t := 25) ?hr ?_;(case hd => rfl);(case hg => rfl);(case hr => go_simp <;> rfl);intro gb782 hg w12 hbox hb;have n0_ := As_ (Kd.S_below (by (with_reducible repeat (first|apply Kd.S_alloc|apply Kd.S_drewN|apply Kd.S_drew));exact HO780.out) hb);have n1_ := As_ (blk_below (g := gb775) (o := .cells #[.slice A0_0 l0_0.length c0_0,.int .i64 a0_1] 25 (0,0)) (by (with_reducible repeat (first|refine bkN ?_ _|refine bkD ?_|refine bkA ?_ _));exact BK775.out) hb);have n2_ := As_ (blk_below (g := gb776) (o := .cells #[.slice none 0 0,.int .i64 0] 25 (0,0)) (by (with_reducible repeat (first|refine bkN ?_ _|refine bkD ?_|refine bkA ?_ _));exact BK776.out) hb);have n3_ := As_ (bwT (by repeat (first|(with_reducible first|exact HB.out|apply bwA|apply bwN|apply bwD|refine bwS ?_ GE775.out|refine bwS ?_ GE776.out)|exact HB.out)) hb);have n4_ := As_ (hbox);have n5_ := As_ ((by rw [hg];exact (bwZ (by repeat (first|(with_reducible first|exact HB.out|apply bwA|apply bwN|apply bwD|refine bwS ?_ GE775.out|refine bwS ?_ GE776.out)|exact HB.out))) : w.heap.size ≤ gb782));have n6_ := As_ ((by rw [hg];exact (bwZ (by repeat (first|(with_reducible first|exact HB.out|apply bwA|apply bwN|apply bwD|refine bwS ?_ GE775.out|refine bwS ?_ GE776.out)|exact HB.out))) : w.heap.size ≤ gb782));have n7_ := As_ ((by rw [hg];exact Nat.ne_of_lt (blk_lt (g := gb775) (o := .cells #[.slice A0_0 l0_0.length c0_0,.int .i64 a0_1] 25 (0,0)) (by (with_reducible repeat (first|refine bkN ?_ _|refine bkD ?_|refine bkA ?_ _));exact BK775.out)) : gb775 ≠ gb782));have n8_ := As_ ((by rw [hg];exact Nat.ne_of_gt (blk_lt (g := gb775) (o := .cells #[.slice A0_0 l0_0.length c0_0,.int .i64 a0_1] 25 (0,0)) (by (with_reducible repeat (first|refine bkN ?_ _|refine bkD ?_|refine bkA ?_ _));exact BK775.out)) : gb782 ≠ gb775));have n9_ := As_ ((by rw [hg];exact Nat.ne_of_lt (blk_lt (g := gb776) (o := .cells #[.slice none 0 0,.int .i64 0] 25 (0,0)) (by (with_reducible repeat (first|refine bkN ?_ _|refine bkD ?_|refine bkA ?_ _));exact BK776.out)) : gb776 ≠ gb782));have n10_ := As_ ((by rw [hg];exact Nat.ne_of_gt (blk_lt (g := gb776) (o := .cells #[.slice none 0 0,.int .i64 0] 25 (0,0)) (by (with_reducible repeat (first|refine bkN ?_ _|refine bkD ?_|refine bkA ?_ _));exact BK776.out)) : gb782 ≠ gb776));clear HO780;clear BK775;clear BK776;clear HB;have HO780 := n0_;have BK775 := n1_;have BK776 := n2_;have HB := n3_;have BK782 := n4_;have GW782 := n5_;have GE782 := n6_;have NB775_782 := n7_;have NB782_775 := n8_;have NB776_782 := n9_;have NB782_776 := n10_;clear n0_ n1_ n2_ n3_ n4_ n5_ n6_ n7_ n8_ n9_ n10_;clear hb hbox hg;obtain ⟨Ao13,co13,eo13⟩ := Kd.S_slice HO780.out;subst eo13;have hnb14 := NB782_775.out;have hnc14 := NB775_782.out;have hnb15 := NB782_776.out;have hnc15 := NB776_782.out;have hcz16_0 : w12.cell? ⟨gb782,0,none⟩ = some (.slice none 0 0) := (bkC BK782.out 0).trans rfl;have hcz16_1 : w12.cell? ⟨gb782,1,none⟩ = some (.int .i64 0) := (bkC BK782.out 1).trans rfl;have hfz16_0 := bkF BK782.out 0;have hfz16_1 := bkF BK782.out 1))
  go_loopg [4] k (fun kq v4 w' => ∃ (x4_1 : Int) (x783000_1 : List (S58)) (u783000 : Value),v4 = .int .i64 x4_1 ∧ Aside0 (spec_MergeTexts.l0 kq x4_1 l0_0 a0_1 x783000_1 t781 = some (r1,r2)) ∧ Aside0 (kq ≤ k) ∧ Aside0 (Kd.S k58 58 w' w.heap.size (fun _ => True) u783000 x783000_1) ∧ Aside0 (w'.heap[gb775]? = some (.cells #[(.slice A0_0 l0_0.length c0_0),.int .i64 a0_1] 25 (0,0))) ∧ Aside0 (w'.heap[gb776]? = some (.cells #[(.slice none 0 0),.int .i64 0] 25 (0,0))) ∧ Aside0 (w'.heap[gb782]? = some (.cells #[u783000,.int .i64 t781] 25 (0,0))) ∧ Aside0 (Below w.heap.size w w'))
  case atStart => exact ⟨(0),(t778),(.slice Ao13 t778.length co13),(by first|rfl|(simp;done)|(simp [*];done)),H',⟨Nat.le_refl _⟩,⟨by (with_reducible repeat (first|apply Kd.S_alloc|apply Kd.S_drewN|apply Kd.S_drew));exact Kd.S_mono (Kd.S_far (p := ⟨gb782,1,none⟩) (Kd.S_far (p := ⟨gb782,0,none⟩) (Kd.S_types HO780.out BK782.out (by decide)) (fun _ hk => hk.2) (.slice Ao13 t778.length co13)) (fun _ hk => hk.2) (.int .i64 t781)) (fun _ hk => trivial)⟩,⟨by (with_reducible repeat (first|refine bkN ?_ _|refine bkD ?_|refine bkA ?_ _));refine blk_far ?_ NB775_782.out _;(with_reducible repeat (first|refine bkN ?_ _|refine bkD ?_|refine bkA ?_ _));refine blk_far ?_ NB775_782.out _;(with_reducible repeat (first|refine bkN ?_ _|refine bkD ?_|refine bkA ?_ _));exact BK775.out⟩,⟨by (with_reducible repeat (first|refine bkN ?_ _|refine bkD ?_|refine bkA ?_ _));refine blk_far ?_ NB776_782.out _;(with_reducible repeat (first|refine bkN ?_ _|refine bkD ?_|refine bkA ?_ _));refine blk_far ?_ NB776_782.out _;(with_reducible repeat (first|refine bkN ?_ _|refine bkD ?_|refine bkA ?_ _));exact BK776.out⟩,⟨by (with_reducible repeat (first|refine bkN ?_ _|refine bkD ?_|refine bkA ?_ _));refine blk_put (cs := #[.slice Ao13 t778.length co13,.int .i64 0]) ?_ 1 _ rfl;(with_reducible repeat (first|refine bkN ?_ _|refine bkD ?_|refine bkA ?_ _));refine blk_put (cs := #[.slice none 0 0,.int .i64 0]) ?_ 0 _ rfl;(with_reducible repeat (first|refine bkN ?_ _|refine bkD ?_|refine bkA ?_ _));exact BK782.out⟩,⟨by repeat (first|(with_reducible first|exact HB.out|apply bwA|apply bwN|apply bwD|refine bwS ?_ GE775.out|refine bwS ?_ GE776.out|refine bwS ?_ GE782.out)|exact HB.out)⟩⟩
  case round =>
   clear H'
   try clear c1
   try clear p2
   try clear c3
   try clear c4
   try clear c6
   try clear c7
   try clear c14
   try clear c15
   try clear hcz10_0
   try clear hcz10_1
   try clear hcz16_0
   try clear hcz16_1
   try clear hcz8_0
   try clear hcz8_1
   try clear hfz10_0
   try clear hfz10_1
   try clear hfz16_0
   try clear hfz16_1
   try clear hfz8_0
   try clear hfz8_1
   obtain ⟨x4_1,x783000_1,u783000,rfl,HA,HK1,HO_783000,BK775,BK776,BK782,HB⟩ := hrel
   cases gk with
   | zero => exact absurd HA.out (fun h_ => (by cases h_))
   | succ k1 =>
    have H := HA.out
    clear HA
    simp only [spec_MergeTexts.l0] at H
    by_cases c17 : x4_1 < (x783000_1.length : Int)
    ·rw [if_pos c17] at H
     have c17b0 : decide (x4_1 < (x783000_1.length : Int)) = true := deT c17
     clear c17
     have H' := As_ H
     clear H
     have hnb18 := NB782_775.out
     have hnc18 := NB775_782.out
     have hnb19 := NB782_776.out
     have hnc19 := NB776_782.out
     have hcz20_0 : wr.cell? ⟨gb782,0,none⟩ = some (u783000) := (bkC BK782.out 0).trans rfl
     have hcz20_1 : wr.cell? ⟨gb782,1,none⟩ = some (.int .i64 t781) := (bkC BK782.out 1).trans rfl
     have hfz20_0 := bkF BK782.out 0
     have hfz20_1 := bkF BK782.out 1
     obtain ⟨Ao21,co21,eo21⟩ := Kd.S_slice HO_783000.out
     subst eo21
     go_wp2
     go_loopg [5] k1 (fun kq v5 w' => ∃ (x5_2 : Int) (x783000_2 : List (S58)) (u783000 : Value),v5 = .int .i64 x5_2 ∧ Aside0 (spec_MergeTexts.l1 kq x4_1 x5_2 l0_0 a0_1 x783000_2 t781 = some (r1,r2)) ∧ Aside0 (kq ≤ k1) ∧ Aside0 (Kd.S k58 58 w' w.heap.size (fun _ => True) u783000 x783000_2) ∧ Aside0 (w'.heap[gb775]? = some (.cells #[(.slice A0_0 l0_0.length c0_0),.int .i64 a0_1] 25 (0,0))) ∧ Aside0 (w'.heap[gb776]? = some (.cells #[(.slice none 0 0),.int .i64 0] 25 (0,0))) ∧ Aside0 (w'.heap[gb782]? = some (.cells #[u783000,.int .i64 t781] 25 (0,0))) ∧ Aside0 (Below w.heap.size w w'))
     case atStart => exact ⟨(0),(x783000_1),(.slice Ao21 x783000_1.length co21),(by first|rfl|(simp;done)|(simp [*];done)),H',⟨Nat.le_refl _⟩,⟨by (with_reducible repeat (first|apply Kd.S_alloc|apply Kd.S_drewN|apply Kd.S_drew));exact HO_783000.out⟩,⟨by (with_reducible repeat (first|refine bkN ?_ _|refine bkD ?_|refine bkA ?_ _));exact BK775.out⟩,⟨by (with_reducible repeat (first|refine bkN ?_ _|refine bkD ?_|refine bkA ?_ _));exact BK776.out⟩,⟨by (with_reducible repeat (first|refine bkN ?_ _|refine bkD ?_|refine bkA ?_ _));exact BK782.out⟩,⟨by repeat (first|(with_reducible first|exact HB.out|apply bwA|apply bwN|apply bwD|refine bwS ?_ GE775.out|refine bwS ?_ GE776.out|refine bwS ?_ GE782.out)|exact HB.out)⟩⟩
     case round =>
      clear H'
      try clear c1
      try clear p2
      try clear c3
      try clear c4
      try clear c6
      try clear c7
      try clear c14
      try clear c15
      try clear c17
      try clear c17b0
      try clear c18
      try clear c19
      try clear hcz10_0
      try clear hcz10_1
      try clear hcz16_0
      try clear hcz16_1
      try clear hcz20_0
      try clear hcz20_1
      try clear hcz8_0
      try clear hcz8_1
      try clear hfz10_0
      try clear hfz10_1
      try clear hfz16_0
      try clear hfz16_1
      try clear hfz20_0
      try clear hfz20_1
      try clear hfz8_0
      try clear hfz8_1
      try clear p2
      obtain ⟨x5_2,x783000_2,u783000,rfl,HA,HK2,HO_783000,BK775,BK776,BK782,HB⟩ := hrel
      cases gk with
      | zero => exact absurd HA.out (fun h_ => (by cases h_))
      | succ k2 =>
       have H := HA.out
       clear HA
       simp only [spec_MergeTexts.l1] at H
       by_cases c22 : 0 ≤ x4_1
       rotate_left
       ·rw [if_neg c22] at H
        exact absurd H (by simp)
       rw [if_pos c22] at H
       have c22b0 : decide (0 ≤ x4_1) = true := deT c22
       clear c22
       by_cases c23 : x4_1 < (x783000_2.length : Int)
       rotate_left
       ·rw [if_neg c23] at H
        exact absurd H (by simp)
       rw [if_pos c23] at H
       have c23b0 : decide (x4_1 < (x783000_2.length : Int)) = true := deT c23
       clear c23
       by_cases c24 : x5_2 < (((rd_T58 x783000_2 x4_1).f2).length : Int)
       ·rw [if_pos c24] at H
        have c24b0 : decide (x5_2 < (((rd_T58 x783000_2 x4_1).f2).length : Int)) = true := deT c24
        clear c24
        by_cases c25 : 0 ≤ x5_2
        rotate_left
        ·rw [if_neg c25] at H
         exact absurd H (by simp)
        rw [if_pos c25] at H
        have c25b0 : decide (0 ≤ x5_2) = true := deT c25
        clear c25
        replace H := obS H
        obtain ⟨t788,A260,H⟩ := H
        replace H : (spec_MergeTexts.l1 k2 x4_1 (wrap64 (x5_2 + 1)) l0_0 a0_1 (x783000_2.set (x4_1 : Int).toNat (⟨(rd_T58 x783000_2 x4_1).f0,(rd_T58 x783000_2 x4_1).f1,(((rd_T58 x783000_2 x4_1).f2).set (x5_2 : Int).toNat t788)⟩ : S58)) t781) = some (r1,r2) := H
        have A26 := As_ A260
        clear A260
        obtain ⟨y789,hy789⟩ : ∃ y_ : List Int,y_ = (((rd_T58 x783000_2 x4_1).f2).set (x5_2 : Int).toNat t788) := ⟨_,rfl⟩
        replace H : (spec_MergeTexts.l1 k2 x4_1 (wrap64 (x5_2 + 1)) l0_0 a0_1 (x783000_2.set (x4_1 : Int).toNat (⟨(rd_T58 x783000_2 x4_1).f0,(rd_T58 x783000_2 x4_1).f1,y789⟩ : S58)) t781) = some (r1,r2) := by first|(rw [hy789];with_reducible exact H)|(have H2_ := (Option.bind_some _ _).symm.trans H;rw [hy789];with_reducible exact H2_)|(have H2_ := (Option.bind_some _ _).symm.trans H;with_reducible exact H2_)|with_reducible exact H|(rw [hy789];exact H)|exact H
        have Ny789 := As_ hy789
        clear hy789
        obtain ⟨y791,hy791⟩ : ∃ y_ : List (S58),y_ = (x783000_2.set (x4_1 : Int).toNat (⟨(rd_T58 x783000_2 x4_1).f0,(rd_T58 x783000_2 x4_1).f1,y789⟩ : S58)) := ⟨_,rfl⟩
        replace H : (spec_MergeTexts.l1 k2 x4_1 (wrap64 (x5_2 + 1)) l0_0 a0_1 y791 t781) = some (r1,r2) := by first|(rw [hy791];with_reducible exact H)|(have H2_ := (Option.bind_some _ _).symm.trans H;rw [hy791];with_reducible exact H2_)|(have H2_ := (Option.bind_some _ _).symm.trans H;with_reducible exact H2_)|with_reducible exact H|(rw [hy791];exact H)|exact H
        have Ny791 := As_ hy791
        clear hy791
        have H' := As_ H
        clear H
        have hnb28 := NB782_775.out
        have hnc28 := NB775_782.out
        have hnb29 := NB782_776.out
        have hnc29 := NB776_782.out
        have hcz30_0 : wr.cell? ⟨gb782,0,none⟩ = some (u783000) := (bkC BK782.out 0).trans rfl
        have hcz30_1 : wr.cell? ⟨gb782,1,none⟩ = some (.int .i64 t781) := (bkC BK782.out 1).trans rfl
        have hfz30_0 := bkF BK782.out 0
        have hfz30_1 := bkF BK782.out 1
        obtain ⟨Ao31,co31,eo31⟩ := Kd.S_slice HO_783000.out
        subst eo31
        have p784 : 0 ≤ (x4_1 : Int) := odT (by first|(with_reducible assumption)|assumption)
        have q784 : x4_1 < (x783000_2.length : Int) := odT (by first|(with_reducible assumption)|assumption)
        obtain ⟨ad784,A784_2,c784_2,e784,hx784_0,hx784_1,hx784_2,hl784_2,hi784_2⟩ := at_T58 (Kd.S_reads' HO_783000.out).2.2 x4_1 p784 q784
        cases e784
        obtain ⟨ce784,hce784,hMe784,hcc784⟩ := Kd.S_get HO_783000.out z58 x4_1 p784 (by first|exact q784|exact odT (by first|(with_reducible assumption)|assumption)|(have e_ := (Kd.S_reads' HO_783000.out).1;omega))
        obtain ⟨ve784_2,rfl,ge784_2⟩ := k58_openM hMe784
        have hv784_2 := hcc784 2 _ rfl
        rw [add_field _ _ 2 (by omega)] at hv784_2
        replace hv784_2 := Option.some.inj (hv784_2.symm.trans hx784_2)
        rw [hv784_2] at ge784_2
        have HL784_2 := As_ (show Kd.R (Kd.int .i64) 3 _ _ _ _ ((rd_T58 x783000_2 x4_1).f2) from ge784_2)
        clear hv784_2 ge784_2
        have HX784_2 := As_ hx784_2
        clear hcc784 hce784
        have HR784_2 := As_ hi784_2
        have HC784_2 := As_ hl784_2
        clear hi784_2 hl784_2
        replace p784 := eq_true p784
        replace q784 := eq_true q784
        try go_wp2
        have n0_ := As_ (Kd.S_drew HO_783000.out)
        have n1_ := As_ (Kd.R_drew HL784_2.out)
        have n2_ := As_ (bkD BK775.out)
        have n3_ := As_ (bkD BK776.out)
        have n4_ := As_ (bkD BK782.out)
        have n5_ := As_ (Kd.C_drew HR784_2.out)
        have n6_ := As_ (bwD HB.out)
        clear HO_783000
        clear HL784_2
        clear BK775
        clear BK776
        clear BK782
        clear HR784_2
        clear HB
        have HO_783000 := n0_
        have HL784_2 := n1_
        have BK775 := n2_
        have BK776 := n3_
        have BK782 := n4_
        have HR784_2 := n5_
        have HB := n6_
        clear n0_ n1_ n2_ n3_ n4_ n5_ n6_
        have p785 : 0 ≤ (x4_1 : Int) := odT (by first|(with_reducible assumption)|assumption)
        have q785 : x4_1 < (x783000_2.length : Int) := odT (by first|(with_reducible assumption)|assumption)
        obtain ⟨ad785,A785_2,c785_2,e785,hx785_0,hx785_1,hx785_2,hl785_2,hi785_2⟩ := at_T58 (Kd.S_reads' HO_783000.out).2.2 x4_1 p785 q785
        obtain rfl : ad784 = ad785 := (by injection e785)
        obtain ⟨ce785,hce785,hMe785,hcc785⟩ := Kd.S_get HO_783000.out z58 x4_1 p785 (by first|exact q785|exact odT (by first|(with_reducible assumption)|assumption)|(have e_ := (Kd.S_reads' HO_783000.out).1;omega))
        obtain ⟨ve785_2,rfl,ge785_2⟩ := k58_openM hMe785
        have hv785_2 := hcc785 2 _ rfl
        rw [add_field _ _ 2 (by omega)] at hv785_2
        replace hv785_2 := Option.some.inj (hv785_2.symm.trans hx785_2)
        rw [hv785_2] at ge785_2
        have HL785_2 := As_ (show Kd.R (Kd.int .i64) 3 _ _ _ _ ((rd_T58 x783000_2 x4_1).f2) from ge785_2)
        clear hv785_2 ge785_2
        have HX785_2 := As_ hx785_2
        clear hcc785 hce785
        have HR785_2 := As_ hi785_2
        have HC785_2 := As_ hl785_2
        clear hi785_2 hl785_2
        replace p785 := eq_true p785
        replace q785 := eq_true q785
        have p786 : 0 ≤ (x4_1 : Int) := odT (by first|(with_reducible assumption)|assumption)
        have q786 : x4_1 < (x783000_2.length : Int) := odT (by first|(with_reducible assumption)|assumption)
        obtain ⟨ad786,A786_2,c786_2,e786,hx786_0,hx786_1,hx786_2,hl786_2,hi786_2⟩ := at_T58 (Kd.S_reads' HO_783000.out).2.2 x4_1 p786 q786
        obtain rfl : ad784 = ad786 := (by injection e786)
        obtain ⟨ce786,hce786,hMe786,hcc786⟩ := Kd.S_get HO_783000.out z58 x4_1 p786 (by first|exact q786|exact odT (by first|(with_reducible assumption)|assumption)|(have e_ := (Kd.S_reads' HO_783000.out).1;omega))
        obtain ⟨ve786_2,rfl,ge786_2⟩ := k58_openM hMe786
        have hv786_2 := hcc786 2 _ rfl
        rw [add_field _ _ 2 (by omega)] at hv786_2
        replace hv786_2 := Option.some.inj (hv786_2.symm.trans hx786_2)
        rw [hv786_2] at ge786_2
        have HL786_2 := As_ (show Kd.R (Kd.int .i64) 3 _ _ _ _ ((rd_T58 x783000_2 x4_1).f2) from ge786_2)
        clear hv786_2 ge786_2
        have HX786_2 := As_ hx786_2
        clear hcc786 hce786
        have HR786_2 := As_ hi786_2
        have HC786_2 := As_ hl786_2
        clear hi786_2 hl786_2
        replace p786 := eq_true p786
        replace q786 := eq_true q786
        have ea_ := Option.some.inj (hx785_2.symm.trans hx786_2)
        injection ea_ with ea_ en_ ec_
        subst ea_
        subst ec_
        clear en_
        have p787 : 0 ≤ (x5_2 : Int) := odT (by first|(with_reducible assumption)|assumption)
        have q787 : x5_2 < (((rd_T58 x783000_2 x4_1).f2).length : Int) := odT (by first|(with_reducible assumption)|assumption)
        obtain ⟨ad787,e787,hx787_0⟩ := Kd.at_int (by repeat (first|(with_reducible exact HR786_2.out)|(with_reducible refine Kd.C_alloc ?_ _)|(with_reducible refine Kd.C_drewN ?_ _)|(with_reducible refine Kd.C_drew ?_)|exact HR786_2.out)) x5_2 p787 q787
        cases e787
        replace p787 := eq_true p787
        replace q787 := eq_true q787
        refine start_ (n := 20) (S := fun w' => w'.cell? ⟨gb782,0,none⟩ = some (.slice (some ad784) x783000_2.length co31) ∧ w'.cell? ⟨gb782,1,none⟩ = some (.int .i64 t781) ∧ w'.cell? ⟨gb775,0,none⟩ = some (.slice A0_0 l0_0.length c0_0) ∧ w'.cell? ⟨gb775,1,none⟩ = some (.int .i64 a0_1) ∧ w'.cell? (ad784.add ((x4_1).toNat * 3)) = some (.int .i64 ((rd_T58 x783000_2 x4_1).f0)) ∧ w'.cell? ⟨(ad784.add ((x4_1).toNat * 3)).block,(ad784.add ((x4_1).toNat * 3)).off + 1,none⟩ = some (.int .i64 ((rd_T58 x783000_2 x4_1).f1)) ∧ w'.cell? ⟨(ad784.add ((x4_1).toNat * 3)).block,(ad784.add ((x4_1).toNat * 3)).off + 2,none⟩ = some (.slice (some ad787) ((rd_T58 x783000_2 x4_1).f2).length c785_2) ∧ w'.cell? (ad784.add ((x4_1).toNat * 3)) = some (.int .i64 ((rd_T58 x783000_2 x4_1).f0)) ∧ w'.cell? ⟨(ad784.add ((x4_1).toNat * 3)).block,(ad784.add ((x4_1).toNat * 3)).off + 1,none⟩ = some (.int .i64 ((rd_T58 x783000_2 x4_1).f1)) ∧ w'.cell? ⟨(ad784.add ((x4_1).toNat * 3)).block,(ad784.add ((x4_1).toNat * 3)).off + 2,none⟩ = some (.slice (some ad787) ((rd_T58 x783000_2 x4_1).f2).length c785_2) ∧ w'.cell? (ad787.add (x5_2).toNat) = some (.int .i64 (rd ((rd_T58 x783000_2 x4_1).f2) x5_2))) (ds := [19]) (bl_ 0 20) (by kernel_rfl) rfl rfl ⟨(bkC BK782.out 0).trans rfl,(bkC BK782.out 1).trans rfl,(bkC BK775.out 0).trans rfl,(bkC BK775.out 1).trans rfl,hx785_0,hx785_1,hx785_2,hx786_0,hx786_1,hx786_2,hx787_0⟩ (fun hHeld => ?_);refine with_tabW spec_MergeTexts.tab10 spec_MergeTexts.bits10 (fun HT_ HW_ => ?_)
        generalize wr.drew = w32 at HO_783000 HL784_2 BK775 BK776 BK782 HR784_2 HB HL785_2 HL786_2 HR785_2 HR786_2 HX785_2 HX786_2 hx785_0 hx785_1 hx785_2 hx786_0 hx786_1 hx786_2 hx787_0 hHeld ⊢
        refine pP 0 30 (bl_ 1 20) ?_ HT_ rfl rfl (by kernel_rfl) (fun _ _ _ h => h) (.inl ⟨by rfl,?_⟩) ?_ ?_ ?_;rotate_left;(intro w';go_simp;with_reducible rfl);rotate_left;(simp only [Act.put,sq_,i64_w,i32_w];rfl)
        refine pP 2 32 (bl_ 5 20) ?_ HT_ rfl rfl (by kernel_rfl) (fun _ _ _ h => h) (.inl ⟨by rfl,?_⟩) ?_ ?_ ?_;rotate_left;(intro w';go_simp;with_reducible rfl);rotate_left;(simp only [Act.put,sq_,i64_w,i32_w];rfl)
        refine pP 6 36 (bl_ 69 20) ?_ HT_ rfl rfl (by kernel_rfl) (fun _ _ _ h => h) (.inl ⟨by rfl,?_⟩) ?_ ?_ ?_;rotate_left;(intro w';go_simp;with_reducible rfl);rotate_left;(simp only [Act.put,sq_,i64_w,i32_w];rfl)
        refine pP 8 38 (bl_ 325 20) ?_ HT_ rfl rfl (by kernel_rfl) (fun _ _ _ h => h) (.inl ⟨by rfl,?_⟩) ?_ ?_ ?_;rotate_left;(intro w';go_simp;with_reducible rfl);rotate_left;(simp only [Act.put,sq_,i64_w,i32_w];rfl)
        refine pP 10 40 (bl_ 1349 20) ?_ HT_ rfl rfl (by kernel_rfl) (fun _ _ _ h => h) (.inl ⟨by rfl,?_⟩) ?_ ?_ ?_;rotate_left;(intro w';go_simp;with_reducible rfl);rotate_left;(simp only [Act.put,sq_,i64_w,i32_w];rfl)
        refine pP 14 44 (bl_ 17733 20) ?_ HT_ rfl rfl (by kernel_rfl) (fun _ _ _ h => h) (.inl ⟨by rfl,?_⟩) ?_ ?_ ?_;rotate_left;(intro w';go_simp;with_reducible rfl);rotate_left;(simp only [Act.put,sq_,i64_w,i32_w];rfl)
        refine tP 1 31 (bl_ 17735 20) ?_ HT_ HW_ rfl rfl (by kernel_rfl) (fun _ _ _ h => h) (.inl ⟨by rfl,?_⟩) hHeld ?_ ?_ ?_;rotate_left;(rintro w' ⟨s0,s1,s2,s3,s4,s5,s6,s7,s8,s9,s10⟩;go_simp;with_reducible rfl);rotate_left;(simp only [Act.put,sq_,i64_w,i32_w];rfl)
        refine pP 3 33 (bl_ 17743 20) ?_ HT_ rfl rfl (by kernel_rfl) (fun _ _ _ h => h) (.inl ⟨by rfl,?_⟩) ?_ ?_ ?_;rotate_left;(intro w';go_simp;with_reducible rfl);rotate_left;(simp only [Act.put,sq_,i64_w,i32_w];rfl)
        refine pP 4 34 (bl_ 17759 20) ?_ HT_ rfl rfl (by kernel_rfl) (fun _ _ _ h => h) (.inl ⟨by rfl,?_⟩) ?_ ?_ ?_;rotate_left;(intro w';go_simp;with_reducible rfl);rotate_left;(simp only [Act.put,sq_,i64_w,i32_w];rfl)
        refine tP 5 35 (bl_ 17791 20) ?_ HT_ HW_ rfl rfl (by kernel_rfl) (fun _ _ _ h => h) (.inl ⟨by rfl,?_⟩) hHeld ?_ ?_ ?_;rotate_left;(rintro w' ⟨s0,s1,s2,s3,s4,s5,s6,s7,s8,s9,s10⟩;go_simp;with_reducible rfl);rotate_left;(simp only [Act.put,sq_,i64_w,i32_w];rfl)
        refine tP 7 37 (bl_ 17919 20) ?_ HT_ HW_ rfl rfl (by kernel_rfl) (fun _ _ _ h => h) (.inl ⟨by rfl,?_⟩) hHeld ?_ ?_ ?_;rotate_left;(rintro w' ⟨s0,s1,s2,s3,s4,s5,s6,s7,s8,s9,s10⟩;go_simp;with_reducible rfl);rotate_left;(simp only [Act.put,sq_,i64_w,i32_w];rfl)
        refine tP 9 39 (bl_ 18431 20) ?_ HT_ HW_ rfl rfl (by kernel_rfl) (fun _ _ _ h => h) (.inl ⟨by rfl,?_⟩) hHeld ?_ ?_ ?_;rotate_left;(rintro w' ⟨s0,s1,s2,s3,s4,s5,s6,s7,s8,s9,s10⟩;go_simp;with_reducible rfl);rotate_left;(simp only [Act.put,sq_,i64_w,i32_w];rfl)
        refine pP 11 41 (bl_ 20479 20) ?_ HT_ rfl rfl (by kernel_rfl) (fun _ _ _ h => h) (.inl ⟨by rfl,?_⟩) ?_ ?_ ?_;rotate_left;(intro w';go_simp;with_reducible rfl);rotate_left;(simp only [Act.put,sq_,i64_w,i32_w];rfl)
        refine pP 12 42 (bl_ 24575 20) ?_ HT_ rfl rfl (by kernel_rfl) (fun _ _ _ h => h) (.inl ⟨by rfl,?_⟩) ?_ ?_ ?_;rotate_left;(intro w';go_simp;with_reducible rfl);rotate_left;(simp only [Act.put,sq_,i64_w,i32_w];rfl)
        refine tP 13 43 (bl_ 32767 20) ?_ HT_ HW_ rfl rfl (by kernel_rfl) (fun _ _ _ h => h) (.inl ⟨by rfl,?_⟩) hHeld ?_ ?_ ?_;rotate_left;(rintro w' ⟨s0,s1,s2,s3,s4,s5,s6,s7,s8,s9,s10⟩;go_simp;with_reducible rfl);rotate_left;(simp only [Act.put,sq_,i64_w,i32_w];rfl)
        refine pP 15 45 (bl_ 65535 20) ?_ HT_ rfl rfl (by kernel_rfl) (fun _ _ _ h => h) (.inl ⟨by rfl,?_⟩) ?_ ?_ ?_;rotate_left;(intro w';go_simp;with_reducible rfl);rotate_left;(simp only [Act.put,sq_,i64_w,i32_w];rfl)
        refine tP 16 46 (bl_ 131071 20) ?_ HT_ HW_ rfl rfl (by kernel_rfl) (fun _ _ _ h => h) (.inl ⟨by rfl,?_⟩) hHeld ?_ ?_ ?_;rotate_left;(rintro w' ⟨s0,s1,s2,s3,s4,s5,s6,s7,s8,s9,s10⟩;go_simp;with_reducible rfl);rotate_left;(simp only [Act.put,sq_,i64_w,i32_w];rfl)
        refine one_ (i := 17) (N := some 47) (bl_ 262143 20) rfl rfl (one_of HT_.out (by kernel_rfl)) (by decide) (fun K hK => ?_)
        refine goes_ Try.func62 (by kernel_rfl) rfl #[.agg #[.slice A0_0 l0_0.length c0_0,.int .i64 a0_1],.int .i64 (rd ((rd_T58 x783000_2 x4_1).f2) x5_2)] (by rfl) rfl rfl (by (try simp only [List.map_toArray,List.map_cons,List.map_nil]);first|done|rfl|(simp only [List.length_drop,List.length_take];rfl)) ?_
        with_reducible refine (spec_firstText.calls k2 _ _ l0_0 a0_1 (rd ((rd_T58 x783000_2 x4_1).f2) x5_2) t788 _ ?side1 ?side2 A26.out).mono ?_
        (case side1 => repeat (first|exact (Kd.C_below HR0_0.out HB.out)|(with_reducible refine Kd.C_alloc ?_ _)|(with_reducible refine Kd.C_drewN ?_ _)|(with_reducible refine Kd.C_drew ?_)))
        (case side2 => exact HC0_0.out)
        rintro e w33 ⟨rfl,hb⟩
        have HS4_ := (hb.cell (bwL _ _ (hHeld.2.2.2.2.1))).trans (hHeld.2.2.2.2.1)
        have HS5_ := (hb.cell (bwL _ _ (hHeld.2.2.2.2.2.1))).trans (hHeld.2.2.2.2.2.1)
        have HS6_ := (hb.cell (bwL _ _ (hHeld.2.2.2.2.2.2.1))).trans (hHeld.2.2.2.2.2.2.1)
        have HS7_ := (hb.cell (bwL _ _ (hHeld.2.2.2.2.2.2.2.1))).trans (hHeld.2.2.2.2.2.2.2.1)
        have HS8_ := (hb.cell (bwL _ _ (hHeld.2.2.2.2.2.2.2.2.1))).trans (hHeld.2.2.2.2.2.2.2.2.1)
        have HS9_ := (hb.cell (bwL _ _ (hHeld.2.2.2.2.2.2.2.2.2.1))).trans (hHeld.2.2.2.2.2.2.2.2.2.1)
        have HS10_ := (hb.cell (bwL _ _ (hHeld.2.2.2.2.2.2.2.2.2.2))).trans (hHeld.2.2.2.2.2.2.2.2.2.2)
        refine ⟨_,rfl,?_⟩
        have n0_ := As_ (Kd.S_below (by (with_reducible repeat (first|apply Kd.S_alloc|apply Kd.S_drewN|apply Kd.S_drew));exact HO_783000.out) hb)
        have n1_ := As_ (Kd.R_below (by (with_reducible repeat (first|apply Kd.R_alloc|apply Kd.R_drewN|apply Kd.R_drew));exact HL784_2.out) hb)
        have n2_ := As_ (Kd.R_below (by (with_reducible repeat (first|apply Kd.R_alloc|apply Kd.R_drewN|apply Kd.R_drew));exact HL785_2.out) hb)
        have n3_ := As_ (Kd.R_below (by (with_reducible repeat (first|apply Kd.R_alloc|apply Kd.R_drewN|apply Kd.R_drew));exact HL786_2.out) hb)
        have n4_ := As_ (blk_below (g := gb775) (o := .cells #[.slice A0_0 l0_0.length c0_0,.int .i64 a0_1] 25 (0,0)) (by (with_reducible repeat (first|refine bkN ?_ _|refine bkD ?_|refine bkA ?_ _));exact BK775.out) hb)
        have n5_ := As_ (blk_below (g := gb776) (o := .cells #[.slice none 0 0,.int .i64 0] 25 (0,0)) (by (with_reducible repeat (first|refine bkN ?_ _|refine bkD ?_|refine bkA ?_ _));exact BK776.out) hb)
        have n6_ := As_ (blk_below (g := gb782) (o := .cells #[.slice (some ad784) x783000_2.length co31,.int .i64 t781] 25 (0,0)) (by (with_reducible repeat (first|refine bkN ?_ _|refine bkD ?_|refine bkA ?_ _));exact BK782.out) hb)
        have n7_ := As_ (Kd.C_below (by repeat (first|(with_reducible exact HR784_2.out)|(with_reducible refine Kd.C_alloc ?_ _)|(with_reducible refine Kd.C_drewN ?_ _)|(with_reducible refine Kd.C_drew ?_)|exact HR784_2.out)) hb)
        have n8_ := As_ (Kd.C_below (by repeat (first|(with_reducible exact HR785_2.out)|(with_reducible refine Kd.C_alloc ?_ _)|(with_reducible refine Kd.C_drewN ?_ _)|(with_reducible refine Kd.C_drew ?_)|exact HR785_2.out)) hb)
        have n9_ := As_ (pw_cell_below hb HX785_2.out)
        have n10_ := As_ (Kd.C_below (by repeat (first|(with_reducible exact HR786_2.out)|(with_reducible refine Kd.C_alloc ?_ _)|(with_reducible refine Kd.C_drewN ?_ _)|(with_reducible refine Kd.C_drew ?_)|exact HR786_2.out)) hb)
        have n11_ := As_ (pw_cell_below hb HX786_2.out)
        have n12_ := As_ (bwT (by repeat (first|(with_reducible first|exact HB.out|apply bwA|apply bwN|apply bwD|refine bwS ?_ GE775.out|refine bwS ?_ GE776.out|refine bwS ?_ GE782.out)|exact HB.out)) hb)
        clear HO_783000
        clear HL784_2
        clear HL785_2
        clear HL786_2
        clear BK775
        clear BK776
        clear BK782
        clear HR784_2
        clear HR785_2
        clear HX785_2
        clear HR786_2
        clear HX786_2
        clear HB
        have HO_783000 := n0_
        have HL784_2 := n1_
        have HL785_2 := n2_
        have HL786_2 := n3_
        have BK775 := n4_
        have BK776 := n5_
        have BK782 := n6_
        have HR784_2 := n7_
        have HR785_2 := n8_
        have HX785_2 := n9_
        have HR786_2 := n10_
        have HX786_2 := n11_
        have HB := n12_
        clear n0_ n1_ n2_ n3_ n4_ n5_ n6_ n7_ n8_ n9_ n10_ n11_ n12_
        (try clear hb)
        (try clear hb2)
        (try clear hk)
        (try clear hi)
        have p27 : 0 ≤ (x5_2 : Int) := odT (by first|(with_reducible assumption)|assumption)
        have q27 : (x5_2 : Int) < ((((rd_T58 x783000_2 x4_1).f2).length : Int) : Int) := odT (by first|(with_reducible assumption)|assumption)
        obtain ⟨go27,co27,eo27,gb27,gl27,cl27,HG27⟩ := Kd.R_form HL785_2.out (by omega)
        (first|cases eo27|(injection eo27 with ea_ en_ ec_;(first|subst ea_|(injection ea_ with ea_;subst ea_));subst ec_;clear en_))
        have GB27 := As_ gb27
        have GG27 := As_ HG27
        clear gb27 gl27 HG27
        (first|simp only [add_plain] at hx787_0|skip)
        obtain ⟨hx27_0,hf27_0⟩ := Kd.R_celln 0 HL785_2.out (x5_2 : Int) p27 q27
        replace p27 := eq_true p27
        replace q27 := eq_true q27
        have hq34 : (x4_1 : Int) < (x783000_2.length : Int) := (by have h_ : (x4_1 : Int) < ((x783000_2.length : Int) : Int) := odT (by first|(with_reducible assumption)|assumption);first|exact h_|(have e_ := (Kd.S_reads' HO_783000.out).1;omega)|simpa only [List.length_set,List.length_set] using h_)
        obtain ⟨oki34,ce34,hcl34,hM34,hcc34,hok34,hbk34⟩ := Kd.S_borrow HO_783000.out z58 (x4_1 : Int) (odT (by first|(with_reducible assumption)|assumption)) hq34
        obtain ⟨ve34_2,rfl,ge34_2⟩ := k58_openM hM34
        have hv34 := hcc34 2 _ rfl
        rw [add_field _ _ 2 (by omega)] at hv34
        replace hv34 := Option.some.inj (hv34.symm.trans HX785_2.out)
        subst hv34
        clear hcc34 hcl34
        replace ge34_2 := (show Kd.R (Kd.int .i64) 3 _ _ _ _ ((rd_T58 x783000_2 x4_1).f2) from ge34_2)
        have HP34 := Kd.R_putg ge34_2 (x5_2 : Int) t788
        rw [← Ny789.out] at HP34
        have HS34 := hbk34 HP34.2 (fun k_ e_ => by injection e_ with e_;subst e_;exact ge34_2.1 _ rfl) (x' := (⟨(rd_T58 x783000_2 x4_1).f0,(rd_T58 x783000_2 x4_1).f1,y789⟩ : S58)) (k58_mkM _ _ _ (⟨(rd_T58 x783000_2 x4_1).f0,(rd_T58 x783000_2 x4_1).f1,y789⟩ : S58) HP34.1)
        rw [← Ny791.out] at HS34
        have HQ34 := As_ HS34
        clear HP34 HS34 hbk34 hok34
        refine hK.out _ _ ⟨(bkC BK782.out 0).trans rfl,(bkC BK782.out 1).trans rfl,(bkC BK775.out 0).trans rfl,(bkC BK775.out 1).trans rfl,HS4_,HS5_,HS6_,HS7_,HS8_,HS9_,HS10_⟩ (fun hHeld => ?_)
        clear hK K
        refine norm_ (a' := ?_) ?_ ?_
        rotate_left
        ·show Act.put _ (some 47) _ = _
         simp only [Act.put,sq_,i64_w,i32_w]
         rfl
        refine pP 18 48 (bl_ 524287 20) ?_ HT_ rfl rfl (by kernel_rfl) (fun _ _ _ h => h) (.inl ⟨by rfl,?_⟩) ?_ ?_ ?_;rotate_left;(intro w';go_simp;with_reducible rfl);rotate_left;(simp only [Act.put,sq_,i64_w,i32_w];rfl)
        refine last_ (i := 19) (N := none) (bl_ 1048575 20) rfl rfl (one_of HT_.out (by kernel_rfl)) (by decide) (fun K hK => ?_)
        refine skip_ (w1 := ?_) (by rfl) rfl ?_ ?_
        rotate_left
        ·go_simp
         rfl
        refine hK.out _ _ ?_
        clear hK K
        refine done_ (done_of HT_.out (by kernel_rfl)) ?_
        try go_wp2
        go_roundg k2
        case measure => have := HK1.out;have := HK2.out;omega
        case rel => exact ⟨(wrap64 (x5_2 + 1)),(y791),(.slice (some ad784) x783000_2.length co31),(by first|rfl|(simp;done)|(simp [*];done)),H',⟨by have := HK1.out;have := HK2.out;omega⟩,⟨by (with_reducible repeat (first|apply Kd.S_alloc|apply Kd.S_drewN|apply Kd.S_drew));exact HQ34.out⟩,⟨by (with_reducible repeat (first|refine bkN ?_ _|refine bkD ?_|refine bkA ?_ _));refine blk_far ?_ (by have h_ := Kd.R_ne HL785_2.out BK775.out (by decide);intro e_;exact h_ (by rw [e_];rfl)) _;(with_reducible repeat (first|refine bkN ?_ _|refine bkD ?_|refine bkA ?_ _));exact BK775.out⟩,⟨by (with_reducible repeat (first|refine bkN ?_ _|refine bkD ?_|refine bkA ?_ _));refine blk_far ?_ (by have h_ := Kd.R_ne HL785_2.out BK776.out (by decide);intro e_;exact h_ (by rw [e_];rfl)) _;(with_reducible repeat (first|refine bkN ?_ _|refine bkD ?_|refine bkA ?_ _));exact BK776.out⟩,⟨by (with_reducible repeat (first|refine bkN ?_ _|refine bkD ?_|refine bkA ?_ _));refine blk_far ?_ (by have h_ := Kd.R_ne HL785_2.out BK782.out (by decide);intro e_;exact h_ (by rw [e_];rfl)) _;(with_reducible repeat (first|refine bkN ?_ _|refine bkD ?_|refine bkA ?_ _));exact BK782.out⟩,⟨by repeat (first|(with_reducible first|exact HB.out|apply bwA|apply bwN|apply bwD|refine bwS ?_ GB27.out|refine bwS ?_ GE775.out|refine bwS ?_ GE776.out|refine bwS ?_ GE782.out)|exact HB.out)⟩⟩
       ·rw [if_neg c24] at H
        have c24b0 : decide (x5_2 < (((rd_T58 x783000_2 x4_1).f2).length : Int)) = false := deF c24
        clear c24
        have H' := As_ H
        clear H
        have hnb36 := NB782_775.out
        have hnc36 := NB775_782.out
        have hnb37 := NB782_776.out
        have hnc37 := NB776_782.out
        have hcz38_0 : wr.cell? ⟨gb782,0,none⟩ = some (u783000) := (bkC BK782.out 0).trans rfl
        have hcz38_1 : wr.cell? ⟨gb782,1,none⟩ = some (.int .i64 t781) := (bkC BK782.out 1).trans rfl
        have hfz38_0 := bkF BK782.out 0
        have hfz38_1 := bkF BK782.out 1
        obtain ⟨Ao39,co39,eo39⟩ := Kd.S_slice HO_783000.out
        subst eo39
        have p784 : 0 ≤ (x4_1 : Int) := odT (by first|(with_reducible assumption)|assumption)
        have q784 : x4_1 < (x783000_2.length : Int) := odT (by first|(with_reducible assumption)|assumption)
        obtain ⟨ad784,A784_2,c784_2,e784,hx784_0,hx784_1,hx784_2,hl784_2,hi784_2⟩ := at_T58 (Kd.S_reads' HO_783000.out).2.2 x4_1 p784 q784
        cases e784
        obtain ⟨ce784,hce784,hMe784,hcc784⟩ := Kd.S_get HO_783000.out z58 x4_1 p784 (by first|exact q784|exact odT (by first|(with_reducible assumption)|assumption)|(have e_ := (Kd.S_reads' HO_783000.out).1;omega))
        obtain ⟨ve784_2,rfl,ge784_2⟩ := k58_openM hMe784
        have hv784_2 := hcc784 2 _ rfl
        rw [add_field _ _ 2 (by omega)] at hv784_2
        replace hv784_2 := Option.some.inj (hv784_2.symm.trans hx784_2)
        rw [hv784_2] at ge784_2
        have HL784_2 := As_ (show Kd.R (Kd.int .i64) 3 _ _ _ _ ((rd_T58 x783000_2 x4_1).f2) from ge784_2)
        clear hv784_2 ge784_2
        have HX784_2 := As_ hx784_2
        clear hcc784 hce784
        have HR784_2 := As_ hi784_2
        have HC784_2 := As_ hl784_2
        clear hi784_2 hl784_2
        replace p784 := eq_true p784
        replace q784 := eq_true q784
        go_wp2
        go_roundg k2
        case measure => have := HK1.out;have := HK2.out;omega
        case rel => exact ⟨(wrap64 (x4_1 + 1)),(x783000_2),(.slice (some ad784) x783000_2.length co39),(by first|rfl|(simp;done)|(simp [*];done)),H',⟨by have := HK1.out;have := HK2.out;omega⟩,⟨by (with_reducible repeat (first|apply Kd.S_alloc|apply Kd.S_drewN|apply Kd.S_drew));exact HO_783000.out⟩,⟨by (with_reducible repeat (first|refine bkN ?_ _|refine bkD ?_|refine bkA ?_ _));exact BK775.out⟩,⟨by (with_reducible repeat (first|refine bkN ?_ _|refine bkD ?_|refine bkA ?_ _));exact BK776.out⟩,⟨by (with_reducible repeat (first|refine bkN ?_ _|refine bkD ?_|refine bkA ?_ _));exact BK782.out⟩,⟨by repeat (first|(with_reducible first|exact HB.out|apply bwA|apply bwN|apply bwD|refine bwS ?_ GE775.out|refine bwS ?_ GE776.out|refine bwS ?_ GE782.out)|exact HB.out)⟩⟩
    ·rw [if_neg c17] at H
     have c17b0 : decide (x4_1 < (x783000_1.length : Int)) = false := deF c17
     clear c17
     replace H := obS H
     obtain ⟨t783,A400,H⟩ := H
     replace H : (some (x783000_1,t783)) = some (r1,r2) := H
     have A40 := As_ A400
     clear A400
     simp only [Option.some.injEq,Prod.mk.injEq] at H
     obtain ⟨rfl,rfl⟩ := H
     have hnb41 := NB782_775.out
     have hnc41 := NB775_782.out
     have hnb42 := NB782_776.out
     have hnc42 := NB776_782.out
     have hcz43_0 : wr.cell? ⟨gb782,0,none⟩ = some (u783000) := (bkC BK782.out 0).trans rfl
     have hcz43_1 : wr.cell? ⟨gb782,1,none⟩ = some (.int .i64 t781) := (bkC BK782.out 1).trans rfl
     have hfz43_0 := bkF BK782.out 0
     have hfz43_1 := bkF BK782.out 1
     obtain ⟨Ao44,co44,eo44⟩ := Kd.S_slice HO_783000.out
     subst eo44
     have hnb45 := NB775_776.out
     have hnc45 := NB776_775.out
     have hcz46_0 : wr.cell? ⟨gb775,0,none⟩ = some (.slice A0_0 l0_0.length c0_0) := (bkC BK775.out 0).trans rfl
     have hcz46_1 : wr.cell? ⟨gb775,1,none⟩ = some (.int .i64 a0_1) := (bkC BK775.out 1).trans rfl
     have hfz46_0 := bkF BK775.out 0
     have hfz46_1 := bkF BK775.out 1
     go_wp2_with (first|((with_reducible refine gate_callee (f := 62) rfl ?_);refine goesL_ (some 52) rfl rfl Try.func62 (by kernel_rfl) rfl #[.agg #[.slice A0_0 l0_0.length c0_0,.int .i64 a0_1],.int .i64 a0_1] rfl (by (try simp only [List.map_toArray,List.map_cons,List.map_nil]);first|done|rfl|(simp only [List.length_drop,List.length_take];rfl)) ?_;(with_reducible refine (spec_firstText.calls k1 _ _ l0_0 a0_1 a0_1 t783 _ ?side1 ?side2 A40.out).mono ?_);(case side1 => repeat (first|exact (Kd.C_below HR0_0.out HB.out)|(with_reducible refine Kd.C_alloc ?_ _)|(with_reducible refine Kd.C_drewN ?_ _)|(with_reducible refine Kd.C_drew ?_)));(case side2 => exact HC0_0.out);rintro e w47 ⟨rfl,hb⟩;refine ⟨_,rfl,?_⟩;have n0_ := As_ (Kd.S_below (by (with_reducible repeat (first|apply Kd.S_alloc|apply Kd.S_drewN|apply Kd.S_drew));exact HO_783000.out) hb);have n1_ := As_ (blk_below (g := gb775) (o := .cells #[.slice A0_0 l0_0.length c0_0,.int .i64 a0_1] 25 (0,0)) (by (with_reducible repeat (first|refine bkN ?_ _|refine bkD ?_|refine bkA ?_ _));exact BK775.out) hb);have n2_ := As_ (blk_below (g := gb776) (o := .cells #[.slice none 0 0,.int .i64 0] 25 (0,0)) (by (with_reducible repeat (first|refine bkN ?_ _|refine bkD ?_|refine bkA ?_ _));exact BK776.out) hb);have n3_ := As_ (blk_below (g := gb782) (o := .cells #[.slice Ao44 x783000_1.length co44,.int .i64 t781] 25 (0,0)) (by (with_reducible repeat (first|refine bkN ?_ _|refine bkD ?_|refine bkA ?_ _));exact BK782.out) hb);have n4_ := As_ (bwT (by repeat (first|(with_reducible first|exact HB.out|apply bwA|apply bwN|apply bwD|refine bwS ?_ GE775.out|refine bwS ?_ GE776.out|refine bwS ?_ GE782.out)|exact HB.out)) hb);clear HO_783000;clear BK775;clear BK776;clear BK782;clear HB;have HO_783000 := n0_;have BK775 := n1_;have BK776 := n2_;have BK782 := n3_;have HB := n4_;clear n0_ n1_ n2_ n3_ n4_;(try clear hb);(try clear hb2);(try clear hk);(try clear hi);have hcz48_0 : w47.cell? ⟨gb782,0,none⟩ = some (.slice Ao44 x783000_1.length co44) := (bkC BK782.out 0).trans rfl;have hcz48_1 : w47.cell? ⟨gb782,1,none⟩ = some (.int .i64 t781) := (bkC BK782.out 1).trans rfl;have hfz48_0 := bkF BK782.out 0;have hfz48_1 := bkF BK782.out 1;have hcz49_0 : w47.cell? ⟨gb776,0,none⟩ = some (.slice none 0 0) := (bkC BK776.out 0).trans rfl;have hcz49_1 : w47.cell? ⟨gb776,1,none⟩ = some (.int .i64 0) := (bkC BK776.out 1).trans rfl;have hfz49_0 := bkF BK776.out 0;have hfz49_1 := bkF BK776.out 1))
     refine bodyPost_ret (results_cell_row rfl _ _ gb776 25 #[.slice Ao44 x783000_1.length co44,.int .i64 t783] (0,0) _ rfl (by (with_reducible repeat (first|refine bkN ?_ _|refine bkD ?_|refine bkA ?_ _));refine blk_put (cs := #[.slice Ao44 x783000_1.length co44,.int .i64 0]) ?_ 1 _ rfl;(with_reducible repeat (first|refine bkN ?_ _|refine bkD ?_|refine bkA ?_ _));refine blk_put (cs := #[.slice none 0 0,.int .i64 0]) ?_ 0 _ rfl;(with_reducible repeat (first|refine bkN ?_ _|refine bkD ?_|refine bkA ?_ _));refine blk_far ?_ NB776_782.out _;(with_reducible repeat (first|refine bkN ?_ _|refine bkD ?_|refine bkA ?_ _));exact BK776.out) Try.underlying25 rfl (by kernel_rfl)) rfl ?_
     exact ⟨_,by first|rfl|(simp [errW_none,errW_some] <;> rfl)|(simp [*,errW_none,errW_some] <;> rfl),by (with_reducible repeat (first|apply Kd.S_alloc|apply Kd.S_drewN|apply Kd.S_drew));exact Kd.S_mono (Kd.S_far (p := ⟨gb776,1,none⟩) (Kd.S_far (p := ⟨gb776,0,none⟩) (Kd.S_far (p := ⟨gb782,1,none⟩) (Kd.S_types (Kd.S_types HO_783000.out BK782.out (by decide)) BK776.out (by decide)) (fun _ hk => hk.1.2) (.int .i64 t783)) (fun _ hk => hk.2) (.slice Ao44 x783000_1.length co44)) (fun _ hk => hk.2) (.int .i64 t783)) (fun _ hk => trivial),by repeat (first|(with_reducible first|exact HB.out|apply bwA|apply bwN|apply bwD|refine bwS ?_ GE775.out|refine bwS ?_ GE776.out|refine bwS ?_ GE782.out)|exact HB.out)⟩
 ·replace c3 := Bool.eq_false_iff.mpr c3
  subst c3
  have H1 : (some (([] : List (S58)),0)) = some (r1,r2) := by rw [if_neg (show ¬ (false = true) by decide)] at H;exact H
  clear H
  have H := H1
  clear H1
  simp only [Option.some.injEq,Prod.mk.injEq] at H
  obtain ⟨rfl,rfl⟩ := H
  go_enter Try.func33,Try.ntmps33
  go_wp2_with (first|((with_reducible refine gate_dst (N := 1) rfl ?_);refine box_event ?hg (N := 1) ?hd (cs := #[.slice A0_0 l0_0.length c0_0,.int .i64 a0_1]) (t := 25) ?hr ?_;(case hd => rfl);(case hg => rfl);(case hr => go_simp <;> rfl);intro gb775 hg w50 hbox hb;have n0_ := As_ (bwT (by repeat (first|(with_reducible first|exact HB.out|apply bwA|apply bwN|apply bwD)|exact HB.out)) hb);have n1_ := As_ (hbox);have n2_ := As_ ((by rw [hg];exact (bwZ (by repeat (first|(with_reducible first|exact HB.out|apply bwA|apply bwN|apply bwD)|exact HB.out))) : w.heap.size ≤ gb775));have n3_ := As_ ((by rw [hg];exact (bwZ (by repeat (first|(with_reducible first|exact HB.out|apply bwA|apply bwN|apply bwD)|exact HB.out))) : w.heap.size ≤ gb775));clear HB;have HB := n0_;have BK775 := n1_;have GW775 := n2_;have GE775 := n3_;clear n0_ n1_ n2_ n3_;clear hb hbox hg)|((with_reducible refine gate_dst (N := 2) rfl ?_);refine box_event ?hg (N := 2) ?hd (cs := #[.slice none 0 0,.int .i64 0]) (t := 25) ?hr ?_;(case hd => rfl);(case hg => rfl);(case hr => go_simp <;> rfl);intro gb776 hg w51 hbox hb;have n0_ := As_ (blk_below (g := gb775) (o := .cells #[.slice A0_0 l0_0.length c0_0,.int .i64 a0_1] 25 (0,0)) (by (with_reducible repeat (first|refine bkN ?_ _|refine bkD ?_|refine bkA ?_ _));exact BK775.out) hb);have n1_ := As_ (bwT (by repeat (first|(with_reducible first|exact HB.out|apply bwA|apply bwN|apply bwD|refine bwS ?_ GE775.out)|exact HB.out)) hb);have n2_ := As_ (hbox);have n3_ := As_ ((by rw [hg];exact (bwZ (by repeat (first|(with_reducible first|exact HB.out|apply bwA|apply bwN|apply bwD|refine bwS ?_ GE775.out)|exact HB.out))) : w.heap.size ≤ gb776));have n4_ := As_ ((by rw [hg];exact (bwZ (by repeat (first|(with_reducible first|exact HB.out|apply bwA|apply bwN|apply bwD|refine bwS ?_ GE775.out)|exact HB.out))) : w.heap.size ≤ gb776));have n5_ := As_ ((by rw [hg];exact Nat.ne_of_lt (blk_lt (g := gb775) (o := .cells #[.slice A0_0 l0_0.length c0_0,.int .i64 a0_1] 25 (0,0)) (by (with_reducible repeat (first|refine bkN ?_ _|refine bkD ?_|refine bkA ?_ _));exact BK775.out)) : gb775 ≠ gb776));have n6_ := As_ ((by rw [hg];exact Nat.ne_of_gt (blk_lt (g := gb775) (o := .cells #[.slice A0_0 l0_0.length c0_0,.int .i64 a0_1] 25 (0,0)) (by (with_reducible repeat (first|refine bkN ?_ _|refine bkD ?_|refine bkA ?_ _));exact BK775.out)) : gb776 ≠ gb775));clear BK775;clear HB;have BK775 := n0_;have HB := n1_;have BK776 := n2_;have GW776 := n3_;have GE776 := n4_;have NB775_776 := n5_;have NB776_775 := n6_;clear n0_ n1_ n2_ n3_ n4_ n5_ n6_;clear hb hbox hg;have hnb52 := NB775_776.out;have hnc52 := NB776_775.out;have hcz53_0 : w51.cell? ⟨gb775,0,none⟩ = some (.slice A0_0 l0_0.length c0_0) := (bkC BK775.out 0).trans rfl;have hcz53_1 : w51.cell? ⟨gb775,1,none⟩ = some (.int .i64 a0_1) := (bkC BK775.out 1).trans rfl;have hfz53_0 := bkF BK775.out 0;have hfz53_1 := bkF BK775.out 1)|((with_reducible refine gate_callee (f := 49) rfl ?_);refine goesL_ (some 7) rfl rfl Try.func49 (by kernel_rfl) rfl #[.agg #[.slice A0_0 l0_0.length c0_0,.int .i64 a0_1]] rfl (by (try simp only [List.map_toArray,List.map_cons,List.map_nil]);first|done|rfl|(simp only [List.length_drop,List.length_take];rfl)) ?_;(with_reducible refine (spec_validGraph.calls k _ _ l0_0 a0_1 false _ ?side1 ?side2 A2.out).mono ?_);(case side1 => repeat (first|exact (Kd.C_below HR0_0.out HB.out)|(with_reducible refine Kd.C_alloc ?_ _)|(with_reducible refine Kd.C_drewN ?_ _)|(with_reducible refine Kd.C_drew ?_)));(case side2 => exact HC0_0.out);rintro e w54 ⟨rfl,hb⟩;refine ⟨_,rfl,?_⟩;have n0_ := As_ (blk_below (g := gb775) (o := .cells #[.slice A0_0 l0_0.length c0_0,.int .i64 a0_1] 25 (0,0)) (by (with_reducible repeat (first|refine bkN ?_ _|refine bkD ?_|refine bkA ?_ _));exact BK775.out) hb);have n1_ := As_ (blk_below (g := gb776) (o := .cells #[.slice none 0 0,.int .i64 0] 25 (0,0)) (by (with_reducible repeat (first|refine bkN ?_ _|refine bkD ?_|refine bkA ?_ _));exact BK776.out) hb);have n2_ := As_ (bwT (by repeat (first|(with_reducible first|exact HB.out|apply bwA|apply bwN|apply bwD|refine bwS ?_ GE775.out|refine bwS ?_ GE776.out)|exact HB.out)) hb);clear BK775;clear BK776;clear HB;have BK775 := n0_;have BK776 := n1_;have HB := n2_;clear n0_ n1_ n2_;(try clear hb);(try clear hb2);(try clear hk);(try clear hi);have hcz55_0 : w54.cell? ⟨gb776,0,none⟩ = some (.slice none 0 0) := (bkC BK776.out 0).trans rfl;have hcz55_1 : w54.cell? ⟨gb776,1,none⟩ = some (.int .i64 0) := (bkC BK776.out 1).trans rfl;have hfz55_0 := bkF BK776.out 0;have hfz55_1 := bkF BK776.out 1))
  refine bodyPost_ret (results_cell_row rfl _ _ gb776 25 #[.slice none 0 0,.int .i64 0] (0,0) _ rfl (by (with_reducible repeat (first|refine bkN ?_ _|refine bkD ?_|refine bkA ?_ _));refine blk_put (cs := #[.slice none 0 0,.int .i64 0]) ?_ 1 _ rfl;(with_reducible repeat (first|refine bkN ?_ _|refine bkD ?_|refine bkA ?_ _));refine blk_put (cs := #[.slice none 0 0,.int .i64 0]) ?_ 0 _ rfl;(with_reducible repeat (first|refine bkN ?_ _|refine bkD ?_|refine bkA ?_ _));exact BK776.out) Try.underlying25 rfl (by kernel_rfl)) rfl ?_
  exact ⟨_,by first|rfl|(simp [errW_none,errW_some] <;> rfl)|(simp [*,errW_none,errW_some] <;> rfl),by first|exact Kd.S_nil _ _ _ _ _|exact Kd.N_nil _ _ _ _ _|exact Kd.V_nil _ _ _ _ _|exact Kd.Q_nil _ _ _ _ _|exact Kd.R_nil _ _ _ _ _,by repeat (first|(with_reducible first|exact HB.out|apply bwA|apply bwN|apply bwD|refine bwS ?_ GE775.out|refine bwS ?_ GE776.out)|exact HB.out)⟩

/-! ### impl_MergeTexts_1: function 64 -/
def impl_MergeTexts_1.f (a0_0 : Int) (a0_1 : Int) (l0_2 : List Int) (a1 : Int) : Option (Bool) := if a0_0 = 1 then (some (a0_1 == a1)) else (some false)
set_option maxHeartbeats 8000000 in
set_option maxRecDepth 100000 in
theorem impl_MergeTexts_1.calls (a0_0 : Int) (a0_1 : Int) (A0_2 : Option Addr) (c0_2 : Nat) (l0_2 : List Int) (a1 : Int) (r : Bool) (w : World) (hr0_2 : Kd.C (Kd.int .i64) w A0_2 l0_2.length l0_2) (hc0_2 : l0_2.length ≤ c0_2) (h : impl_MergeTexts_1.f a0_0 a0_1 l0_2 a1 = some r) {g : Nat} {u0 u2 : Value} (hbx : w.heap[g]? = some (.cells #[u0,.int .i64 a1,u2] 58 (0,0))) :
  Calls Try.prog 64 #[.agg #[.int .i64 a0_0,.int .i64 a0_1,.slice A0_2 l0_2.length c0_2],.pointer (some ⟨g,0,none⟩)] w fun e w' => e = .returned (.bool r) ∧ Below w.heap.size w w' := by
 have hu58 := Try.underlying58
 have HR0_2 := As_ hr0_2
 have HC0_2 := As_ hc0_2
 clear hr0_2 hc0_2
 have BX := As_ hbx
 clear hbx
 have HB := As_ (Below.refl w.heap.size w)
 have H : (if a0_0 = 1 then (some (a0_1 == a1)) else (some false)) = some r := h
 clear h
 by_cases c3 : a0_0 = 1
 ·rw [if_pos c3] at H
  have c3b0 : (a0_0 == 1) = true := beq_iff_eq.mpr c3
  have c3b1 : (a0_0 != 1) = false := bne_eq_false_iff_eq.mpr c3
  clear c3
  obtain rfl := Option.some.inj H
  go_enter Try.func64,Try.ntmps64
  go_wp2_with (first|((with_reducible refine gate_dst (N := 2) rfl ?_);refine box_event ?hg (N := 2) ?hd (cs := #[.int .i64 a0_0,.int .i64 a0_1,.slice A0_2 l0_2.length c0_2]) (t := 58) ?hr ?_;(case hd => rfl);(case hg => rfl);(case hr => go_simp <;> rfl);intro gb792 hg w4 hbox hb;have hczx : w4.cell? ⟨g,1,none⟩ = some (.int .i64 a1) := (bkC (blk_below BX.out hb) 1).trans rfl;have hfzx := bkF (blk_below BX.out hb) 1;have n0_ := As_ (bwT (by repeat (first|(with_reducible first|exact HB.out|apply bwA|apply bwN|apply bwD)|exact HB.out)) hb);have n1_ := As_ (hbox);have n2_ := As_ ((by rw [hg];exact (bwZ (by repeat (first|(with_reducible first|exact HB.out|apply bwA|apply bwN|apply bwD)|exact HB.out))) : w.heap.size ≤ gb792));have n3_ := As_ ((by rw [hg];exact (bwZ (by repeat (first|(with_reducible first|exact HB.out|apply bwA|apply bwN|apply bwD)|exact HB.out))) : w.heap.size ≤ gb792));clear HB;have HB := n0_;have BK792 := n1_;have GW792 := n2_;have GE792 := n3_;clear n0_ n1_ n2_ n3_;clear hb hbox hg;have hcz5_0 : w4.cell? ⟨gb792,0,none⟩ = some (.int .i64 a0_0) := (bkC BK792.out 0).trans rfl;have hcz5_1 : w4.cell? ⟨gb792,1,none⟩ = some (.int .i64 a0_1) := (bkC BK792.out 1).trans rfl;have hcz5_2 : w4.cell? ⟨gb792,2,none⟩ = some (.slice A0_2 l0_2.length c0_2) := (bkC BK792.out 2).trans rfl;have hfz5_0 := bkF BK792.out 0;have hfz5_1 := bkF BK792.out 1;have hfz5_2 := bkF BK792.out 2))
  go_ret
  exact ⟨by first|rfl|(simp [errW_none,errW_some] <;> rfl)|(simp [*,errW_none,errW_some] <;> rfl),by repeat (first|(with_reducible first|exact HB.out|apply bwA|apply bwN|apply bwD|refine bwS ?_ GE792.out)|exact HB.out)⟩
 ·rw [if_neg c3] at H
  have c3b0 : (a0_0 == 1) = false := beq_eq_false_iff_ne.mpr c3
  have c3b1 : (a0_0 != 1) = true := bne_iff_ne.mpr c3
  obtain rfl := Option.some.inj H
  go_enter Try.func64,Try.ntmps64
  go_wp2_with (first|((with_reducible refine gate_dst (N := 2) rfl ?_);refine box_event ?hg (N := 2) ?hd (cs := #[.int .i64 a0_0,.int .i64 a0_1,.slice A0_2 l0_2.length c0_2]) (t := 58) ?hr ?_;(case hd => rfl);(case hg => rfl);(case hr => go_simp <;> rfl);intro gb792 hg w6 hbox hb;have hczx : w6.cell? ⟨g,1,none⟩ = some (.int .i64 a1) := (bkC (blk_below BX.out hb) 1).trans rfl;have hfzx := bkF (blk_below BX.out hb) 1;have n0_ := As_ (bwT (by repeat (first|(with_reducible first|exact HB.out|apply bwA|apply bwN|apply bwD)|exact HB.out)) hb);have n1_ := As_ (hbox);have n2_ := As_ ((by rw [hg];exact (bwZ (by repeat (first|(with_reducible first|exact HB.out|apply bwA|apply bwN|apply bwD)|exact HB.out))) : w.heap.size ≤ gb792));have n3_ := As_ ((by rw [hg];exact (bwZ (by repeat (first|(with_reducible first|exact HB.out|apply bwA|apply bwN|apply bwD)|exact HB.out))) : w.heap.size ≤ gb792));clear HB;have HB := n0_;have BK792 := n1_;have GW792 := n2_;have GE792 := n3_;clear n0_ n1_ n2_ n3_;clear hb hbox hg;have hcz7_0 : w6.cell? ⟨gb792,0,none⟩ = some (.int .i64 a0_0) := (bkC BK792.out 0).trans rfl;have hcz7_1 : w6.cell? ⟨gb792,1,none⟩ = some (.int .i64 a0_1) := (bkC BK792.out 1).trans rfl;have hcz7_2 : w6.cell? ⟨gb792,2,none⟩ = some (.slice A0_2 l0_2.length c0_2) := (bkC BK792.out 2).trans rfl;have hfz7_0 := bkF BK792.out 0;have hfz7_1 := bkF BK792.out 1;have hfz7_2 := bkF BK792.out 2))
  go_ret
  exact ⟨by first|rfl|(simp [errW_none,errW_some] <;> rfl)|(simp [*,errW_none,errW_some] <;> rfl),by repeat (first|(with_reducible first|exact HB.out|apply bwA|apply bwN|apply bwD|refine bwS ?_ GE792.out)|exact HB.out)⟩

end Go.Proofs.Ytapaegcombfafaa.Q
