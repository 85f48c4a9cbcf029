-- Written by wip/tools/qprint.py (a program of this claim's author) by means of the kit's printer.
import Derived.Test.YtapaegcombfafaaQ0
import Derived.Test.YtapaegcombfafaaQ37
import Derived.Test.YtapaegcombfafaaQ56
import Derived.Test.YtapaegcombfafaaQ63
namespace Go.Proofs.Ytapaegcombfafaa.Q
open Go.RowKit Go.Proofs.YtapaegcombfafaaW.PrintWords Go.Proofs.YtapaegcombfafaaW.PrintLast Go.Proofs.YtapaegcombfafaaW.PrintMore
attribute [local go_sem] max2_int min2_int max_two min_two max_three min_three max_four min_four   -- for this text's walks alone
set_option linter.unusedVariables false
set_option linter.unusedSimpArgs false

/-! ### impl_MergeTexts: function 34 -/
mutual
def impl_MergeTexts.l0 : Nat → List Int → List (S58) → Int → Int → List (S58) → Int → Option ((List (S58)) × Int)
 | 0,_,_,_,_,_,_ => none
 | k + 1,x3,x16,x17,x18,x796000,x796001 => if x18 < x17 then (if 0 ≤ x18 then (if x18 < (x16.length : Int) then (if ((rd_T58 x16 x18).f0) = 1 then ((impl_Node_63.f k x796000 ((rd_T58 x16 x18).f1)).bind fun t803 => (if x3.length < 17592186044416 then (impl_MergeTexts.l0 k (x3 ++ [t803]) x16 x17 (wrap64 (x18 + 1)) x796000 x796001) else (none))) else (if x3.length < 17592186044416 then (impl_MergeTexts.l0 k (x3 ++ [x18]) x16 x17 (wrap64 (x18 + 1)) x796000 x796001) else (none))) else (none)) else (none)) else (if 0 ≤ x796001 then (if x796001 < (x3.length : Int) then (impl_MergeTexts.l1 k x3 x796000 (x796000.length : Int) 0 ([] : List (S58)) (rd x3 x796001)) else (none)) else (none))
def impl_MergeTexts.l1 : Nat → List Int → List (S58) → Int → Int → List (S58) → Int → Option ((List (S58)) × Int)
 | 0,_,_,_,_,_,_ => none
 | k + 1,x3,x43,x44,x45,x812000,x812001 => if x45 < x44 then (if 0 ≤ x45 then (if x45 < (x43.length : Int) then ((impl_mapped.f k ((rd_T58 x43 x45).f0) ((rd_T58 x43 x45).f1) ((rd_T58 x43 x45).f2) x3).bind fun bt814 => (if x812000.length < 3518437208883 then (impl_MergeTexts.l1 k x3 x43 x44 (wrap64 (x45 + 1)) (x812000 ++ [(⟨bt814.1,bt814.2.1,bt814.2.2⟩ : S58)]) x812001) else (none))) else (none)) else (none)) else (some (x812000,x812001))
end
def impl_MergeTexts.f (k : Nat) (l0_0 : List (S58)) (a0_1 : Int) : Option ((List (S58)) × Int) := (impl_ValidGraph.f k l0_0 a0_1).bind fun t797 => (if t797 = true then (impl_MergeTexts.l0 k (([] : List Int)) l0_0 (l0_0.length : Int) 0 l0_0 a0_1) else (some (([] : List (S58)),0)))
set_option maxRecDepth 100000 in
theorem impl_MergeTexts.mono_l : ∀ k,(∀ y0 y1 y2 y3 y4 y5,LeO (impl_MergeTexts.l0 k y0 y1 y2 y3 y4 y5) (impl_MergeTexts.l0 (k + 1) y0 y1 y2 y3 y4 y5)) ∧ (∀ y0 y1 y2 y3 y4 y5,LeO (impl_MergeTexts.l1 k y0 y1 y2 y3 y4 y5) (impl_MergeTexts.l1 (k + 1) y0 y1 y2 y3 y4 y5))
 | 0 => ⟨fun _ _ _ _ _ _ r h => (by cases h),fun _ _ _ _ _ _ r h => (by cases h)⟩
 | k + 1 => by
  obtain ⟨ih0,ih1⟩ := impl_MergeTexts.mono_l k
  refine ⟨?_,?_⟩
  ·intro y0 y1 y2 y3 y4 y5
   unfold impl_MergeTexts.l0
   repeat' first
   | (with_reducible exact ih0 _ _ _ _ _ _)
   | (with_reducible exact ih1 _ _ _ _ _ _)
   | (with_reducible exact impl_Node_63.mono _ _ _)
   | (with_reducible exact impl_ValidGraph.mono _ _ _)
   | (with_reducible exact impl_mapped.mono _ _ _ _ _)
   | (with_reducible exact LeO.refl _)
   | (with_reducible exact LeO.none _)
   | (with_reducible refine LeO.ite ?_ ?_)
   | (with_reducible refine LeO.bind ?_ (fun _ => ?_))
   | exact ih0 _ _ _ _ _ _
   | exact ih1 _ _ _ _ _ _
   | exact impl_Node_63.mono _ _ _
   | exact impl_ValidGraph.mono _ _ _
   | exact impl_mapped.mono _ _ _ _ _
   | exact LeO.none _
   | refine LeO.ite ?_ ?_
   | refine LeO.bind ?_ (fun _ => ?_)
  ·intro y0 y1 y2 y3 y4 y5
   unfold impl_MergeTexts.l1
   repeat' first
   | (with_reducible exact ih0 _ _ _ _ _ _)
   | (with_reducible exact ih1 _ _ _ _ _ _)
   | (with_reducible exact impl_Node_63.mono _ _ _)
   | (with_reducible exact impl_ValidGraph.mono _ _ _)
   | (with_reducible exact impl_mapped.mono _ _ _ _ _)
   | (with_reducible exact LeO.refl _)
   | (with_reducible exact LeO.none _)
   | (with_reducible refine LeO.ite ?_ ?_)
   | (with_reducible refine LeO.bind ?_ (fun _ => ?_))
   | exact ih0 _ _ _ _ _ _
   | exact ih1 _ _ _ _ _ _
   | exact impl_Node_63.mono _ _ _
   | exact impl_ValidGraph.mono _ _ _
   | exact impl_mapped.mono _ _ _ _ _
   | exact LeO.none _
   | refine LeO.ite ?_ ?_
   | refine LeO.bind ?_ (fun _ => ?_)
set_option maxRecDepth 100000 in
theorem impl_MergeTexts.mono : ∀ a0 a1 k,LeO (impl_MergeTexts.f k a0 a1) (impl_MergeTexts.f (k + 1) a0 a1) := by
 intro a0 a1 k
 obtain ⟨ih0,ih1⟩ := impl_MergeTexts.mono_l k
 unfold impl_MergeTexts.f
 repeat' first
   | (with_reducible exact ih0 _ _ _ _ _ _)
   | (with_reducible exact ih1 _ _ _ _ _ _)
   | (with_reducible exact impl_Node_63.mono _ _ _)
   | (with_reducible exact impl_ValidGraph.mono _ _ _)
   | (with_reducible exact impl_mapped.mono _ _ _ _ _)
   | (with_reducible exact LeO.refl _)
   | (with_reducible exact LeO.none _)
   | (with_reducible refine LeO.ite ?_ ?_)
   | (with_reducible refine LeO.bind ?_ (fun _ => ?_))
   | exact ih0 _ _ _ _ _ _
   | exact ih1 _ _ _ _ _ _
   | exact impl_Node_63.mono _ _ _
   | exact impl_ValidGraph.mono _ _ _
   | exact impl_mapped.mono _ _ _ _ _
   | exact LeO.none _
   | refine LeO.ite ?_ ?_
   | refine LeO.bind ?_ (fun _ => ?_)
def impl_MergeTexts.T16 : Bool × List (List Nat × List Nat) := (true,[([],[]),([0],[0]),([],[]),([],[]),([2,3],[2,3]),([4],[4]),([1,5,4],[1,5]),([0,1,2,3,4,5,6],[]),([7,6,6,0,1,2,3,4,5,6],[6,7])])
def impl_MergeTexts.B16 : List Nat := [0,1,0,0,12,28,63,127,255]
theorem impl_MergeTexts.tab16 : rtab .any (opsOf Try.f34 16) = impl_MergeTexts.T16 := by kernel_rfl
theorem impl_MergeTexts.bits16 : waitsOk impl_MergeTexts.T16.2 impl_MergeTexts.B16 = true := by kernel_rfl
set_option maxHeartbeats 8000000 in
set_option maxRecDepth 100000 in
theorem impl_MergeTexts.calls (k : Nat) (A0_0 : Option Addr) (c0_0 : Nat) (l0_0 : List (S58)) (a0_1 : Int) (r1 : List (S58)) (r2 : Int) (w : World) (hr0_0 : Kd.C k58 w A0_0 l0_0.length l0_0) (hc0_0 : l0_0.length ≤ c0_0) (h : impl_MergeTexts.f k l0_0 a0_1 = some (r1,r2)) :
  Calls Try.prog 34 #[.agg #[.slice A0_0 l0_0.length c0_0,.int .i64 a0_1]] w fun e w' => ∃ v0_ : Value,e = .returned (.agg #[v0_,.int .i64 r2]) ∧ Kd.S k58 58 w' w.heap.size (fun _ => True) v0_ r1 ∧ Below w.heap.size w w' := by
 have hu25 := Try.underlying25
 have hu58 := Try.underlying58
 have HR0_0 := As_ hr0_0
 have HC0_0 := As_ hc0_0
 clear hr0_0 hc0_0
 have HB := As_ (Below.refl w.heap.size w)
 have H : ((impl_ValidGraph.f k l0_0 a0_1).bind fun t797 => (if t797 = true then (impl_MergeTexts.l0 k (([] : List Int)) l0_0 (l0_0.length : Int) 0 l0_0 a0_1) else (some (([] : List (S58)),0)))) = some (r1,r2) := h
 clear h
 replace H := obS H
 obtain ⟨t797,A20,H⟩ := H
 replace H : (if t797 = true then (impl_MergeTexts.l0 k (([] : List Int)) l0_0 (l0_0.length : Int) 0 l0_0 a0_1) else (some (([] : List (S58)),0))) = some (r1,r2) := H
 have A2 := As_ A20
 clear A20
 by_cases c3 : t797 = true
 ·subst c3
  have H1 : (impl_MergeTexts.l0 k (([] : List Int)) l0_0 (l0_0.length : Int) 0 l0_0 a0_1) = some (r1,r2) := by rw [if_pos rfl] at H;exact H
  clear H
  have H := H1
  clear H1
  obtain ⟨y798,hy798⟩ : ∃ y_ : List Int,y_ = (([] : List Int)) := ⟨_,rfl⟩
  replace H : (impl_MergeTexts.l0 k y798 l0_0 (l0_0.length : Int) 0 l0_0 a0_1) = some (r1,r2) := by first|(rw [hy798];with_reducible exact H)|(have H2_ := (Option.bind_some _ _).symm.trans H;rw [hy798];with_reducible exact H2_)|(have H2_ := (Option.bind_some _ _).symm.trans H;with_reducible exact H2_)|with_reducible exact H|(rw [hy798];exact H)|exact H
  have Ny798 := As_ hy798
  clear hy798
  have H' := As_ H
  clear H
  go_enter Try.func34,Try.ntmps34
  go_wp2_with (first|((with_reducible refine gate_dst (N := 1) rfl ?_);refine box_event ?hg (N := 1) ?hd (cs := #[.slice A0_0 l0_0.length c0_0,.int .i64 a0_1]) (t := 25) ?hr ?_;(case hd => rfl);(case hg => rfl);(case hr => go_simp <;> rfl);intro gb795 hg w4 hbox hb;have n0_ := As_ (bwT (by repeat (first|(with_reducible first|exact HB.out|apply bwA|apply bwN|apply bwD)|exact HB.out)) hb);have n1_ := As_ (hbox);have n2_ := As_ ((by rw [hg];exact (bwZ (by repeat (first|(with_reducible first|exact HB.out|apply bwA|apply bwN|apply bwD)|exact HB.out))) : w.heap.size ≤ gb795));have n3_ := As_ ((by rw [hg];exact (bwZ (by repeat (first|(with_reducible first|exact HB.out|apply bwA|apply bwN|apply bwD)|exact HB.out))) : w.heap.size ≤ gb795));clear HB;have HB := n0_;have BK795 := n1_;have GW795 := n2_;have GE795 := n3_;clear n0_ n1_ n2_ n3_;clear hb hbox hg)|((with_reducible refine gate_dst (N := 2) rfl ?_);refine box_event ?hg (N := 2) ?hd (cs := #[.slice none 0 0,.int .i64 0]) (t := 25) ?hr ?_;(case hd => rfl);(case hg => rfl);(case hr => go_simp <;> rfl);intro gb796 hg w5 hbox hb;have n0_ := As_ (blk_below (g := gb795) (o := .cells #[.slice A0_0 l0_0.length c0_0,.int .i64 a0_1] 25 (0,0)) (by (with_reducible repeat (first|refine bkN ?_ _|refine bkD ?_|refine bkA ?_ _));exact BK795.out) hb);have n1_ := As_ (bwT (by repeat (first|(with_reducible first|exact HB.out|apply bwA|apply bwN|apply bwD|refine bwS ?_ GE795.out)|exact HB.out)) hb);have n2_ := As_ (hbox);have n3_ := As_ ((by rw [hg];exact (bwZ (by repeat (first|(with_reducible first|exact HB.out|apply bwA|apply bwN|apply bwD|refine bwS ?_ GE795.out)|exact HB.out))) : w.heap.size ≤ gb796));have n4_ := As_ ((by rw [hg];exact (bwZ (by repeat (first|(with_reducible first|exact HB.out|apply bwA|apply bwN|apply bwD|refine bwS ?_ GE795.out)|exact HB.out))) : w.heap.size ≤ gb796));have n5_ := As_ ((by rw [hg];exact Nat.ne_of_lt (blk_lt (g := gb795) (o := .cells #[.slice A0_0 l0_0.length c0_0,.int .i64 a0_1] 25 (0,0)) (by (with_reducible repeat (first|refine bkN ?_ _|refine bkD ?_|refine bkA ?_ _));exact BK795.out)) : gb795 ≠ gb796));have n6_ := As_ ((by rw [hg];exact Nat.ne_of_gt (blk_lt (g := gb795) (o := .cells #[.slice A0_0 l0_0.length c0_0,.int .i64 a0_1] 25 (0,0)) (by (with_reducible repeat (first|refine bkN ?_ _|refine bkD ?_|refine bkA ?_ _));exact BK795.out)) : gb796 ≠ gb795));clear BK795;clear HB;have BK795 := n0_;have HB := n1_;have BK796 := n2_;have GW796 := n3_;have GE796 := n4_;have NB795_796 := n5_;have NB796_795 := n6_;clear n0_ n1_ n2_ n3_ n4_ n5_ n6_;clear hb hbox hg;have hnb6 := NB795_796.out;have hnc6 := NB796_795.out;have hcz7_0 : w5.cell? ⟨gb795,0,none⟩ = some (.slice A0_0 l0_0.length c0_0) := (bkC BK795.out 0).trans rfl;have hcz7_1 : w5.cell? ⟨gb795,1,none⟩ = some (.int .i64 a0_1) := (bkC BK795.out 1).trans rfl;have hfz7_0 := bkF BK795.out 0;have hfz7_1 := bkF BK795.out 1)|((with_reducible refine gate_callee (f := 37) rfl ?_);refine goesL_ (some 11) rfl rfl Try.func37 (by kernel_rfl) rfl #[.agg #[.slice A0_0 l0_0.length c0_0,.int .i64 a0_1]] rfl (by (try simp only [List.map_toArray,List.map_cons,List.map_nil]);first|done|rfl|(simp only [List.length_drop,List.length_take];rfl)) ?_;(with_reducible refine (impl_ValidGraph.calls k _ _ l0_0 a0_1 true _ ?side1 ?side2 A2.out).mono ?_);(case side1 => repeat (first|exact (Kd.C_below HR0_0.out HB.out)|(with_reducible refine Kd.C_alloc ?_ _)|(with_reducible refine Kd.C_drewN ?_ _)|(with_reducible refine Kd.C_drew ?_)));(case side2 => exact HC0_0.out);rintro e w8 ⟨rfl,hb⟩;refine ⟨_,rfl,?_⟩;have n0_ := As_ (blk_below (g := gb795) (o := .cells #[.slice A0_0 l0_0.length c0_0,.int .i64 a0_1] 25 (0,0)) (by (with_reducible repeat (first|refine bkN ?_ _|refine bkD ?_|refine bkA ?_ _));exact BK795.out) hb);have n1_ := As_ (blk_below (g := gb796) (o := .cells #[.slice none 0 0,.int .i64 0] 25 (0,0)) (by (with_reducible repeat (first|refine bkN ?_ _|refine bkD ?_|refine bkA ?_ _));exact BK796.out) hb);have n2_ := As_ (bwT (by repeat (first|(with_reducible first|exact HB.out|apply bwA|apply bwN|apply bwD|refine bwS ?_ GE795.out|refine bwS ?_ GE796.out)|exact HB.out)) hb);clear BK795;clear BK796;clear HB;have BK795 := n0_;have BK796 := n1_;have HB := n2_;clear n0_ n1_ n2_;(try clear hb);(try clear hb2);(try clear hk);(try clear hi))|((with_reducible refine gate_dst (N := 14) rfl ?_);refine Kd.R_lit (Kd.int .i64) _ 3 ?hg (N := 14) ?hd (xs := ([] : List Int)) (inner := []) (ok := fun _ => True) (okp := fun _ => True) ?hr ?hp (fun _ hk => hk) trivial (Below.refl _ _) (Nat.le_refl _) (by simp) ?_;(case hd => rfl);(case hg => rfl);(case hr => go_simp <;> rfl);(case hp => exact (Reps.none _ _));intro v799 w9 ho10 hb hg_ hnew_;clear hg_ hnew_;(first|rw [← Ny798.out] at ho10|(simp only [Int.reduceToNat] at ho10;rw [← Ny798.out] at ho10));have n0_ := As_ (Kd.R_lower ho10 (bwZ (by repeat (first|(with_reducible first|exact HB.out|apply bwA|apply bwN|apply bwD|refine bwS ?_ GE795.out|refine bwS ?_ GE796.out)|exact HB.out))));have n1_ := As_ (blk_below (g := gb795) (o := .cells #[.slice A0_0 l0_0.length c0_0,.int .i64 a0_1] 25 (0,0)) (by (with_reducible repeat (first|refine bkN ?_ _|refine bkD ?_|refine bkA ?_ _));exact BK795.out) hb);have n2_ := As_ (blk_below (g := gb796) (o := .cells #[.slice none 0 0,.int .i64 0] 25 (0,0)) (by (with_reducible repeat (first|refine bkN ?_ _|refine bkD ?_|refine bkA ?_ _));exact BK796.out) hb);have n3_ := As_ (bwT (by repeat (first|(with_reducible first|exact HB.out|apply bwA|apply bwN|apply bwD|refine bwS ?_ GE795.out|refine bwS ?_ GE796.out)|exact HB.out)) hb);clear BK795;clear BK796;clear HB;have HO800 := n0_;have BK795 := n1_;have BK796 := n2_;have HB := n3_;clear n0_ n1_ n2_ n3_;clear hb ho10;have hcz11_0 : w9.cell? ⟨gb795,0,none⟩ = some (.slice A0_0 l0_0.length c0_0) := (bkC BK795.out 0).trans rfl;have hcz11_1 : w9.cell? ⟨gb795,1,none⟩ = some (.int .i64 a0_1) := (bkC BK795.out 1).trans rfl;have hfz11_0 := bkF BK795.out 0;have hfz11_1 := bkF BK795.out 1))
  go_loopg [3,18] k (fun kq v3 v18 w' => ∃ (x3_1 : List Int) (x18_1 : Int),v18 = .int .i64 x18_1 ∧ Aside0 (impl_MergeTexts.l0 kq x3_1 l0_0 (l0_0.length : Int) x18_1 l0_0 a0_1 = some (r1,r2)) ∧ Aside0 (kq ≤ k) ∧ Aside0 (Kd.R (Kd.int .i64) 3 w' w.heap.size (fun _ => True) v3 x3_1) ∧ Aside0 (w'.heap[gb795]? = some (.cells #[(.slice A0_0 l0_0.length c0_0),.int .i64 a0_1] 25 (0,0))) ∧ Aside0 (w'.heap[gb796]? = some (.cells #[(.slice none 0 0),.int .i64 0] 25 (0,0))) ∧ Aside0 (Below w.heap.size w w'))
  case atStart => exact ⟨(y798),(0),(by first|rfl|(simp;done)|(simp [*];done)),H',⟨Nat.le_refl _⟩,⟨by (with_reducible repeat (first|apply Kd.R_alloc|apply Kd.R_drewN|apply Kd.R_drew));exact HO800.out⟩,⟨by (with_reducible repeat (first|refine bkN ?_ _|refine bkD ?_|refine bkA ?_ _));exact BK795.out⟩,⟨by (with_reducible repeat (first|refine bkN ?_ _|refine bkD ?_|refine bkA ?_ _));exact BK796.out⟩,⟨by repeat (first|(with_reducible first|exact HB.out|apply bwA|apply bwN|apply bwD|refine bwS ?_ GE795.out|refine bwS ?_ GE796.out)|exact HB.out)⟩⟩
  case round =>
   clear H'
   try clear p2
   try clear c3
   try clear c6
   try clear hcz11_0
   try clear hcz11_1
   try clear hcz7_0
   try clear hcz7_1
   try clear hfz11_0
   try clear hfz11_1
   try clear hfz7_0
   try clear hfz7_1
   obtain ⟨x3_1,x18_1,rfl,HA,HK1,HO_3,BK795,BK796,HB⟩ := hrel
   cases gk with
   | zero => exact absurd HA.out (fun h_ => (by cases h_))
   | succ k1 =>
    have H := HA.out
    clear HA
    simp only [impl_MergeTexts.l0] at H
    by_cases c12 : x18_1 < (l0_0.length : Int)
    ·rw [if_pos c12] at H
     have c12b0 : decide (x18_1 < (l0_0.length : Int)) = true := deT c12
     clear c12
     by_cases c13 : 0 ≤ x18_1
     rotate_left
     ·rw [if_neg c13] at H
      exact absurd H (by simp)
     rw [if_pos c13] at H
     have c13b0 : decide (0 ≤ x18_1) = true := deT c13
     clear c13
     by_cases c14 : x18_1 < (l0_0.length : Int)
     rotate_left
     ·rw [if_neg c14] at H
      exact absurd H (by simp)
     rw [if_pos c14] at H
     have c14b0 : decide (x18_1 < (l0_0.length : Int)) = true := deT c14
     clear c14
     by_cases c15 : ((rd_T58 l0_0 x18_1).f0) = 1
     ·rw [if_pos c15] at H
      have c15b0 : (((rd_T58 l0_0 x18_1).f0) == 1) = true := beq_iff_eq.mpr c15
      have c15b1 : (((rd_T58 l0_0 x18_1).f0) != 1) = false := bne_eq_false_iff_eq.mpr c15
      clear c15
      replace H := obS H
      obtain ⟨t803,A160,H⟩ := H
      replace H : (if x3_1.length < 17592186044416 then (impl_MergeTexts.l0 k1 (x3_1 ++ [t803]) l0_0 (l0_0.length : Int) (wrap64 (x18_1 + 1)) l0_0 a0_1) else (none)) = some (r1,r2) := H
      have A16 := As_ A160
      clear A160
      by_cases c17 : x3_1.length < 17592186044416
      rotate_left
      ·rw [if_neg c17] at H
       exact absurd H (by simp)
      rw [if_pos c17] at H
      have LMc17 := As_ c17
      clear c17
      obtain ⟨y804,hy804⟩ : ∃ y_ : List Int,y_ = (x3_1 ++ [t803]) := ⟨_,rfl⟩
      replace H : (impl_MergeTexts.l0 k1 y804 l0_0 (l0_0.length : Int) (wrap64 (x18_1 + 1)) l0_0 a0_1) = some (r1,r2) := by first|(rw [hy804];with_reducible exact H)|(have H2_ := (Option.bind_some _ _).symm.trans H;rw [hy804];with_reducible exact H2_)|(have H2_ := (Option.bind_some _ _).symm.trans H;with_reducible exact H2_)|with_reducible exact H|(rw [hy804];exact H)|exact H
      have Ny804 := As_ hy804
      clear hy804
      have H' := As_ H
      clear H
      have p801 : 0 ≤ (x18_1 : Int) := odT (by first|(with_reducible assumption)|assumption)
      have q801 : x18_1 < (l0_0.length : Int) := odT (by first|(with_reducible assumption)|assumption)
      obtain ⟨ad801,A801_2,c801_2,e801,hx801_0,hx801_1,hx801_2,hl801_2,hi801_2⟩ := at_T58 HR0_0.out x18_1 p801 q801
      cases e801
      replace hx801_0 := (HB.out.cell (bwL w _ hx801_0)).trans hx801_0
      replace hx801_1 := (HB.out.cell (bwL w _ hx801_1)).trans hx801_1
      replace hx801_2 := (HB.out.cell (bwL w _ hx801_2)).trans hx801_2
      have HR801_2 := As_ hi801_2
      have HC801_2 := As_ hl801_2
      clear hi801_2 hl801_2
      replace p801 := eq_true p801
      replace q801 := eq_true q801
      go_wp2_with (first|((with_reducible refine gate_dst (N := 5) rfl ?_);refine box_event ?hg (N := 5) ?hd (cs := #[.int .i64 0,.int .i64 0,.slice none 0 0]) (t := 58) ?hr ?_;(case hd => rfl);(case hg => rfl);(case hr => go_simp <;> rfl);intro gb802 hg w18 hbox hb;have n0_ := As_ (Kd.R_below (by (with_reducible repeat (first|apply Kd.R_alloc|apply Kd.R_drewN|apply Kd.R_drew));exact HO_3.out) hb);have n1_ := As_ (blk_below (g := gb795) (o := .cells #[.slice (some ad801) l0_0.length c0_0,.int .i64 a0_1] 25 (0,0)) (by (with_reducible repeat (first|refine bkN ?_ _|refine bkD ?_|refine bkA ?_ _));exact BK795.out) hb);have n2_ := As_ (blk_below (g := gb796) (o := .cells #[.slice none 0 0,.int .i64 0] 25 (0,0)) (by (with_reducible repeat (first|refine bkN ?_ _|refine bkD ?_|refine bkA ?_ _));exact BK796.out) hb);have n3_ := As_ (bwT (by repeat (first|(with_reducible first|exact HB.out|apply bwA|apply bwN|apply bwD|refine bwS ?_ GE795.out|refine bwS ?_ GE796.out)|exact HB.out)) hb);have n4_ := As_ (hbox);have n5_ := As_ ((by rw [hg];exact (bwZ (by repeat (first|(with_reducible first|exact HB.out|apply bwA|apply bwN|apply bwD|refine bwS ?_ GE795.out|refine bwS ?_ GE796.out)|exact HB.out))) : w.heap.size ≤ gb802));have n6_ := As_ ((by rw [hg];exact (bwZ (by repeat (first|(with_reducible first|exact HB.out|apply bwA|apply bwN|apply bwD|refine bwS ?_ GE795.out|refine bwS ?_ GE796.out)|exact HB.out))) : w.heap.size ≤ gb802));have n7_ := As_ ((by rw [hg];exact Nat.ne_of_lt (blk_lt (g := gb795) (o := .cells #[.slice (some ad801) l0_0.length c0_0,.int .i64 a0_1] 25 (0,0)) (by (with_reducible repeat (first|refine bkN ?_ _|refine bkD ?_|refine bkA ?_ _));exact BK795.out)) : gb795 ≠ gb802));have n8_ := As_ ((by rw [hg];exact Nat.ne_of_gt (blk_lt (g := gb795) (o := .cells #[.slice (some ad801) l0_0.length c0_0,.int .i64 a0_1] 25 (0,0)) (by (with_reducible repeat (first|refine bkN ?_ _|refine bkD ?_|refine bkA ?_ _));exact BK795.out)) : gb802 ≠ gb795));have n9_ := As_ ((by rw [hg];exact Nat.ne_of_lt (blk_lt (g := gb796) (o := .cells #[.slice none 0 0,.int .i64 0] 25 (0,0)) (by (with_reducible repeat (first|refine bkN ?_ _|refine bkD ?_|refine bkA ?_ _));exact BK796.out)) : gb796 ≠ gb802));have n10_ := As_ ((by rw [hg];exact Nat.ne_of_gt (blk_lt (g := gb796) (o := .cells #[.slice none 0 0,.int .i64 0] 25 (0,0)) (by (with_reducible repeat (first|refine bkN ?_ _|refine bkD ?_|refine bkA ?_ _));exact BK796.out)) : gb802 ≠ gb796));clear HO_3;clear BK795;clear BK796;clear HB;have HO_3 := n0_;have BK795 := n1_;have BK796 := n2_;have HB := n3_;have BK802 := n4_;have GW802 := n5_;have GE802 := n6_;have NB795_802 := n7_;have NB802_795 := n8_;have NB796_802 := n9_;have NB802_796 := n10_;clear n0_ n1_ n2_ n3_ n4_ n5_ n6_ n7_ n8_ n9_ n10_;clear hb hbox hg;have hnb19 := NB802_795.out;have hnc19 := NB795_802.out;have hnb20 := NB802_796.out;have hnc20 := NB796_802.out;have hcz21_0 : w18.cell? ⟨gb802,0,none⟩ = some (.int .i64 0) := (bkC BK802.out 0).trans rfl;have hcz21_1 : w18.cell? ⟨gb802,1,none⟩ = some (.int .i64 0) := (bkC BK802.out 1).trans rfl;have hcz21_2 : w18.cell? ⟨gb802,2,none⟩ = some (.slice none 0 0) := (bkC BK802.out 2).trans rfl;have hfz21_0 := bkF BK802.out 0;have hfz21_1 := bkF BK802.out 1;have hfz21_2 := bkF BK802.out 2;have hnb22 := NB795_796.out;have hnc22 := NB796_795.out;have hcz23_0 : w18.cell? ⟨gb795,0,none⟩ = some (.slice (some ad801) l0_0.length c0_0) := (bkC BK795.out 0).trans rfl;have hcz23_1 : w18.cell? ⟨gb795,1,none⟩ = some (.int .i64 a0_1) := (bkC BK795.out 1).trans rfl;have hfz23_0 := bkF BK795.out 0;have hfz23_1 := bkF BK795.out 1)|((with_reducible refine gate_callee (f := 63) rfl ?_);refine goesL_ (some 30) rfl rfl Try.func63 (by kernel_rfl) rfl #[.slice (some ad801) l0_0.length c0_0,.func (.func 64) #[] #[.pointer (some ⟨gb802,0,none⟩)]] rfl (by (try simp only [List.map_toArray,List.map_cons,List.map_nil]);first|done|rfl|(simp only [List.length_drop,List.length_take];rfl)) ?_;(with_reducible refine (impl_Node_63.calls k1 _ _ l0_0 ((rd_T58 l0_0 x18_1).f1) t803 _ ?side1 ?side2 A16.out (by (with_reducible repeat (first|refine bkN ?_ _|refine bkD ?_|refine bkA ?_ _));refine blk_put (cs := #[.int .i64 ((rd_T58 l0_0 x18_1).f0),.int .i64 ((rd_T58 l0_0 x18_1).f1),.slice none 0 0]) ?_ 2 _ rfl;(with_reducible repeat (first|refine bkN ?_ _|refine bkD ?_|refine bkA ?_ _));refine blk_put (cs := #[.int .i64 ((rd_T58 l0_0 x18_1).f0),.int .i64 0,.slice none 0 0]) ?_ 1 _ rfl;(with_reducible repeat (first|refine bkN ?_ _|refine bkD ?_|refine bkA ?_ _));refine blk_put (cs := #[.int .i64 0,.int .i64 0,.slice none 0 0]) ?_ 0 _ rfl;(with_reducible repeat (first|refine bkN ?_ _|refine bkD ?_|refine bkA ?_ _));exact BK802.out)).mono ?_);(case side1 => exact Kd.C_below HR0_0.out (by repeat (first|(with_reducible first|exact HB.out|apply bwA|apply bwN|apply bwD|refine bwS ?_ GE795.out|refine bwS ?_ GE796.out|refine bwS ?_ GE802.out)|exact HB.out)));(case side2 => exact HC0_0.out);rintro e w24 ⟨rfl,hb⟩;refine ⟨_,rfl,?_⟩;have n0_ := As_ (Kd.R_below (by (with_reducible repeat (first|apply Kd.R_alloc|apply Kd.R_drewN|apply Kd.R_drew));exact (Kd.R_mono (Kd.R_far (p := ⟨gb802,2,none⟩) (Kd.R_far (p := ⟨gb802,1,none⟩) (Kd.R_far (p := ⟨gb802,0,none⟩) (Kd.R_types HO_3.out BK802.out (by decide)) (fun _ hk => hk.2) (.int .i64 ((rd_T58 l0_0 x18_1).f0))) (fun _ hk => hk.2) (.int .i64 ((rd_T58 l0_0 x18_1).f1))) (fun _ hk => hk.2) (.slice A801_2 ((rd_T58 l0_0 x18_1).f2).length c801_2)) (fun _ h_ => h_.1))) hb);have n1_ := As_ (blk_below (g := gb795) (o := .cells #[.slice (some ad801) l0_0.length c0_0,.int .i64 a0_1] 25 (0,0)) (by (with_reducible repeat (first|refine bkN ?_ _|refine bkD ?_|refine bkA ?_ _));refine blk_far ?_ NB795_802.out _;(with_reducible repeat (first|refine bkN ?_ _|refine bkD ?_|refine bkA ?_ _));refine blk_far ?_ NB795_802.out _;(with_reducible repeat (first|refine bkN ?_ _|refine bkD ?_|refine bkA ?_ _));refine blk_far ?_ NB795_802.out _;(with_reducible repeat (first|refine bkN ?_ _|refine bkD ?_|refine bkA ?_ _));exact BK795.out) hb);have n2_ := As_ (blk_below (g := gb796) (o := .cells #[.slice none 0 0,.int .i64 0] 25 (0,0)) (by (with_reducible repeat (first|refine bkN ?_ _|refine bkD ?_|refine bkA ?_ _));refine blk_far ?_ NB796_802.out _;(with_reducible repeat (first|refine bkN ?_ _|refine bkD ?_|refine bkA ?_ _));refine blk_far ?_ NB796_802.out _;(with_reducible repeat (first|refine bkN ?_ _|refine bkD ?_|refine bkA ?_ _));refine blk_far ?_ NB796_802.out _;(with_reducible repeat (first|refine bkN ?_ _|refine bkD ?_|refine bkA ?_ _));exact BK796.out) hb);have n3_ := As_ (blk_below (g := gb802) (o := .cells #[.int .i64 ((rd_T58 l0_0 x18_1).f0),.int .i64 ((rd_T58 l0_0 x18_1).f1),.slice A801_2 ((rd_T58 l0_0 x18_1).f2).length c801_2] 58 (0,0)) (by (with_reducible repeat (first|refine bkN ?_ _|refine bkD ?_|refine bkA ?_ _));refine blk_put (cs := #[.int .i64 ((rd_T58 l0_0 x18_1).f0),.int .i64 ((rd_T58 l0_0 x18_1).f1),.slice none 0 0]) ?_ 2 _ rfl;(with_reducible repeat (first|refine bkN ?_ _|refine bkD ?_|refine bkA ?_ _));refine blk_put (cs := #[.int .i64 ((rd_T58 l0_0 x18_1).f0),.int .i64 0,.slice none 0 0]) ?_ 1 _ rfl;(with_reducible repeat (first|refine bkN ?_ _|refine bkD ?_|refine bkA ?_ _));refine blk_put (cs := #[.int .i64 0,.int .i64 0,.slice none 0 0]) ?_ 0 _ rfl;(with_reducible repeat (first|refine bkN ?_ _|refine bkD ?_|refine bkA ?_ _));exact BK802.out) hb);have n4_ := As_ (bwT (by repeat (first|(with_reducible first|exact HB.out|apply bwA|apply bwN|apply bwD|refine bwS ?_ GE795.out|refine bwS ?_ GE796.out|refine bwS ?_ GE802.out)|exact HB.out)) hb);clear HO_3;clear BK795;clear BK796;clear BK802;clear HB;have HO_3 := n0_;have BK795 := n1_;have BK796 := n2_;have BK802 := n3_;have HB := n4_;clear n0_ n1_ n2_ n3_ n4_;(try clear hb);(try clear hb2);(try clear hk);(try clear hi))|((with_reducible refine gate_builtin (b := .append) (xs := #[.tmp 31,.tmp 33]) rfl ?_);at_builtin;refine Kd.R_append (Kd.int .i64) (w0 := w) w.heap.size rfl (.tmp 31) (.tmp 33) 26 3 (.int .i64 0) 8 rfl Try.underlying26 info3 rfl (by decide) (by omega) u3 x3_1 t803 [.int .i64 t803] (fun _ => True) (fun _ => False) rfl rfl ?aP (fun _ hk => hk.elim) ?aF ?aO ?aB ?aS ?aL ?_;(case aP => exact rfl);(case aB => exact (by repeat (first|(with_reducible first|exact HB.out|apply bwA|apply bwN|apply bwD|refine bwS ?_ GE795.out|refine bwS ?_ GE796.out|refine bwS ?_ GE802.out)|exact HB.out)));(case aF => exact (fun _ _ => trivial));(case aO => exact (by (with_reducible repeat (first|apply Kd.R_alloc|apply Kd.R_drewN|apply Kd.R_drew));exact HO_3.out));(case aS => exact (bwZ (by repeat (first|(with_reducible first|exact HB.out|apply bwA|apply bwN|apply bwD|refine bwS ?_ GE795.out|refine bwS ?_ GE796.out|refine bwS ?_ GE802.out)|exact HB.out))));(case aL => have := LMc17.out;omega);intro v805 w25 ho hb hg hat;rw [← Ny804.out] at ho;have n0_ := As_ (blk_grown (g := gb795) (o := .cells #[.slice (some ad801) l0_0.length c0_0,.int .i64 a0_1] 25 (0,0)) (by (with_reducible repeat (first|refine bkN ?_ _|refine bkD ?_|refine bkA ?_ _));exact BK795.out) hg (Kd.R_ne HO_3.out BK795.out (by decide)));have n1_ := As_ (blk_grown (g := gb796) (o := .cells #[.slice none 0 0,.int .i64 0] 25 (0,0)) (by (with_reducible repeat (first|refine bkN ?_ _|refine bkD ?_|refine bkA ?_ _));exact BK796.out) hg (Kd.R_ne HO_3.out BK796.out (by decide)));have n2_ := As_ (blk_grown (g := gb802) (o := .cells #[.int .i64 ((rd_T58 l0_0 x18_1).f0),.int .i64 ((rd_T58 l0_0 x18_1).f1),.slice A801_2 ((rd_T58 l0_0 x18_1).f2).length c801_2] 58 (0,0)) (by (with_reducible repeat (first|refine bkN ?_ _|refine bkD ?_|refine bkA ?_ _));exact BK802.out) hg (Kd.R_ne HO_3.out BK802.out (by decide)));have n3_ := As_ (hb);have n4_ := As_ (ho);clear BK795;clear BK796;clear BK802;clear HB;clear HO_3;have BK795 := n0_;have BK796 := n1_;have BK802 := n2_;have HB := n3_;have HO806 := n4_;clear n0_ n1_ n2_ n3_ n4_;clear ho hb hg hat))
      go_roundg k1
      case measure => have := HK1.out;omega
      case rel => exact ⟨(y804),(wrap64 (x18_1 + 1)),(by first|rfl|(simp;done)|(simp [*];done)),H',⟨by have := HK1.out;omega⟩,⟨by (with_reducible repeat (first|apply Kd.R_alloc|apply Kd.R_drewN|apply Kd.R_drew));exact HO806.out⟩,⟨by (with_reducible repeat (first|refine bkN ?_ _|refine bkD ?_|refine bkA ?_ _));exact BK795.out⟩,⟨by (with_reducible repeat (first|refine bkN ?_ _|refine bkD ?_|refine bkA ?_ _));exact BK796.out⟩,⟨by repeat (first|(with_reducible first|exact HB.out|apply bwA|apply bwN|apply bwD|refine bwS ?_ GE795.out|refine bwS ?_ GE796.out|refine bwS ?_ GE802.out)|exact HB.out)⟩⟩
     ·rw [if_neg c15] at H
      have c15b0 : (((rd_T58 l0_0 x18_1).f0) == 1) = false := beq_eq_false_iff_ne.mpr c15
      have c15b1 : (((rd_T58 l0_0 x18_1).f0) != 1) = true := bne_iff_ne.mpr c15
      by_cases c26 : x3_1.length < 17592186044416
      rotate_left
      ·rw [if_neg c26] at H
       exact absurd H (by simp)
      rw [if_pos c26] at H
      have LMc26 := As_ c26
      clear c26
      obtain ⟨y807,hy807⟩ : ∃ y_ : List Int,y_ = (x3_1 ++ [x18_1]) := ⟨_,rfl⟩
      replace H : (impl_MergeTexts.l0 k1 y807 l0_0 (l0_0.length : Int) (wrap64 (x18_1 + 1)) l0_0 a0_1) = some (r1,r2) := by first|(rw [hy807];with_reducible exact H)|(have H2_ := (Option.bind_some _ _).symm.trans H;rw [hy807];with_reducible exact H2_)|(have H2_ := (Option.bind_some _ _).symm.trans H;with_reducible exact H2_)|with_reducible exact H|(rw [hy807];exact H)|exact H
      have Ny807 := As_ hy807
      clear hy807
      have H' := As_ H
      clear H
      have p801 : 0 ≤ (x18_1 : Int) := odT (by first|(with_reducible assumption)|assumption)
      have q801 : x18_1 < (l0_0.length : Int) := odT (by first|(with_reducible assumption)|assumption)
      obtain ⟨ad801,A801_2,c801_2,e801,hx801_0,hx801_1,hx801_2,hl801_2,hi801_2⟩ := at_T58 HR0_0.out x18_1 p801 q801
      cases e801
      replace hx801_0 := (HB.out.cell (bwL w _ hx801_0)).trans hx801_0
      replace hx801_1 := (HB.out.cell (bwL w _ hx801_1)).trans hx801_1
      replace hx801_2 := (HB.out.cell (bwL w _ hx801_2)).trans hx801_2
      have HR801_2 := As_ hi801_2
      have HC801_2 := As_ hl801_2
      clear hi801_2 hl801_2
      replace p801 := eq_true p801
      replace q801 := eq_true q801
      go_wp2_with (first|((with_reducible refine gate_dst (N := 5) rfl ?_);refine box_event ?hg (N := 5) ?hd (cs := #[.int .i64 0,.int .i64 0,.slice none 0 0]) (t := 58) ?hr ?_;(case hd => rfl);(case hg => rfl);(case hr => go_simp <;> rfl);intro gb802 hg w27 hbox hb;have n0_ := As_ (Kd.R_below (by (with_reducible repeat (first|apply Kd.R_alloc|apply Kd.R_drewN|apply Kd.R_drew));exact HO_3.out) hb);have n1_ := As_ (blk_below (g := gb795) (o := .cells #[.slice (some ad801) l0_0.length c0_0,.int .i64 a0_1] 25 (0,0)) (by (with_reducible repeat (first|refine bkN ?_ _|refine bkD ?_|refine bkA ?_ _));exact BK795.out) hb);have n2_ := As_ (blk_below (g := gb796) (o := .cells #[.slice none 0 0,.int .i64 0] 25 (0,0)) (by (with_reducible repeat (first|refine bkN ?_ _|refine bkD ?_|refine bkA ?_ _));exact BK796.out) hb);have n3_ := As_ (bwT (by repeat (first|(with_reducible first|exact HB.out|apply bwA|apply bwN|apply bwD|refine bwS ?_ GE795.out|refine bwS ?_ GE796.out)|exact HB.out)) hb);have n4_ := As_ (hbox);have n5_ := As_ ((by rw [hg];exact (bwZ (by repeat (first|(with_reducible first|exact HB.out|apply bwA|apply bwN|apply bwD|refine bwS ?_ GE795.out|refine bwS ?_ GE796.out)|exact HB.out))) : w.heap.size ≤ gb802));have n6_ := As_ ((by rw [hg];exact (bwZ (by repeat (first|(with_reducible first|exact HB.out|apply bwA|apply bwN|apply bwD|refine bwS ?_ GE795.out|refine bwS ?_ GE796.out)|exact HB.out))) : w.heap.size ≤ gb802));have n7_ := As_ ((by rw [hg];exact Nat.ne_of_lt (blk_lt (g := gb795) (o := .cells #[.slice (some ad801) l0_0.length c0_0,.int .i64 a0_1] 25 (0,0)) (by (with_reducible repeat (first|refine bkN ?_ _|refine bkD ?_|refine bkA ?_ _));exact BK795.out)) : gb795 ≠ gb802));have n8_ := As_ ((by rw [hg];exact Nat.ne_of_gt (blk_lt (g := gb795) (o := .cells #[.slice (some ad801) l0_0.length c0_0,.int .i64 a0_1] 25 (0,0)) (by (with_reducible repeat (first|refine bkN ?_ _|refine bkD ?_|refine bkA ?_ _));exact BK795.out)) : gb802 ≠ gb795));have n9_ := As_ ((by rw [hg];exact Nat.ne_of_lt (blk_lt (g := gb796) (o := .cells #[.slice none 0 0,.int .i64 0] 25 (0,0)) (by (with_reducible repeat (first|refine bkN ?_ _|refine bkD ?_|refine bkA ?_ _));exact BK796.out)) : gb796 ≠ gb802));have n10_ := As_ ((by rw [hg];exact Nat.ne_of_gt (blk_lt (g := gb796) (o := .cells #[.slice none 0 0,.int .i64 0] 25 (0,0)) (by (with_reducible repeat (first|refine bkN ?_ _|refine bkD ?_|refine bkA ?_ _));exact BK796.out)) : gb802 ≠ gb796));clear HO_3;clear BK795;clear BK796;clear HB;have HO_3 := n0_;have BK795 := n1_;have BK796 := n2_;have HB := n3_;have BK802 := n4_;have GW802 := n5_;have GE802 := n6_;have NB795_802 := n7_;have NB802_795 := n8_;have NB796_802 := n9_;have NB802_796 := n10_;clear n0_ n1_ n2_ n3_ n4_ n5_ n6_ n7_ n8_ n9_ n10_;clear hb hbox hg;have hnb28 := NB802_795.out;have hnc28 := NB795_802.out;have hnb29 := NB802_796.out;have hnc29 := NB796_802.out;have hcz30_0 : w27.cell? ⟨gb802,0,none⟩ = some (.int .i64 0) := (bkC BK802.out 0).trans rfl;have hcz30_1 : w27.cell? ⟨gb802,1,none⟩ = some (.int .i64 0) := (bkC BK802.out 1).trans rfl;have hcz30_2 : w27.cell? ⟨gb802,2,none⟩ = some (.slice none 0 0) := (bkC BK802.out 2).trans rfl;have hfz30_0 := bkF BK802.out 0;have hfz30_1 := bkF BK802.out 1;have hfz30_2 := bkF BK802.out 2)|((with_reducible refine gate_builtin (b := .append) (xs := #[.tmp 31,.tmp 33]) rfl ?_);at_builtin;refine Kd.R_append (Kd.int .i64) (w0 := w) w.heap.size rfl (.tmp 31) (.tmp 33) 26 3 (.int .i64 0) 8 rfl Try.underlying26 info3 rfl (by decide) (by omega) u3 x3_1 x18_1 [.int .i64 x18_1] (fun _ => True) (fun _ => False) rfl (by go_simp <;> rfl) ?aP (fun _ hk => hk.elim) ?aF ?aO ?aB ?aS ?aL ?_;(case aP => exact rfl);(case aB => exact (by repeat (first|(with_reducible first|exact HB.out|apply bwA|apply bwN|apply bwD|refine bwS ?_ GE795.out|refine bwS ?_ GE796.out|refine bwS ?_ GE802.out)|exact HB.out)));(case aF => exact (fun _ _ => trivial));(case aO => exact (by (with_reducible repeat (first|apply Kd.R_alloc|apply Kd.R_drewN|apply Kd.R_drew));exact Kd.R_mono (Kd.R_far (p := ⟨gb802,2,none⟩) (Kd.R_far (p := ⟨gb802,1,none⟩) (Kd.R_far (p := ⟨gb802,0,none⟩) (Kd.R_types HO_3.out BK802.out (by decide)) (fun _ hk => hk.2) (.int .i64 ((rd_T58 l0_0 x18_1).f0))) (fun _ hk => hk.2) (.int .i64 ((rd_T58 l0_0 x18_1).f1))) (fun _ hk => hk.2) (.slice A801_2 ((rd_T58 l0_0 x18_1).f2).length c801_2)) (fun _ hk => trivial)));(case aS => exact (bwZ (by repeat (first|(with_reducible first|exact HB.out|apply bwA|apply bwN|apply bwD|refine bwS ?_ GE795.out|refine bwS ?_ GE796.out|refine bwS ?_ GE802.out)|exact HB.out))));(case aL => have := LMc26.out;omega);intro v808 w31 ho hb hg hat;rw [← Ny807.out] at ho;have n0_ := As_ (blk_grown (g := gb795) (o := .cells #[.slice (some ad801) l0_0.length c0_0,.int .i64 a0_1] 25 (0,0)) (by (with_reducible repeat (first|refine bkN ?_ _|refine bkD ?_|refine bkA ?_ _));refine blk_far ?_ NB795_802.out _;(with_reducible repeat (first|refine bkN ?_ _|refine bkD ?_|refine bkA ?_ _));refine blk_far ?_ NB795_802.out _;(with_reducible repeat (first|refine bkN ?_ _|refine bkD ?_|refine bkA ?_ _));refine blk_far ?_ NB795_802.out _;(with_reducible repeat (first|refine bkN ?_ _|refine bkD ?_|refine bkA ?_ _));exact BK795.out) hg (Kd.R_ne HO_3.out BK795.out (by decide)));have n1_ := As_ (blk_grown (g := gb796) (o := .cells #[.slice none 0 0,.int .i64 0] 25 (0,0)) (by (with_reducible repeat (first|refine bkN ?_ _|refine bkD ?_|refine bkA ?_ _));refine blk_far ?_ NB796_802.out _;(with_reducible repeat (first|refine bkN ?_ _|refine bkD ?_|refine bkA ?_ _));refine blk_far ?_ NB796_802.out _;(with_reducible repeat (first|refine bkN ?_ _|refine bkD ?_|refine bkA ?_ _));refine blk_far ?_ NB796_802.out _;(with_reducible repeat (first|refine bkN ?_ _|refine bkD ?_|refine bkA ?_ _));exact BK796.out) hg (Kd.R_ne HO_3.out BK796.out (by decide)));have n2_ := As_ (blk_grown (g := gb802) (o := .cells #[.int .i64 ((rd_T58 l0_0 x18_1).f0),.int .i64 ((rd_T58 l0_0 x18_1).f1),.slice A801_2 ((rd_T58 l0_0 x18_1).f2).length c801_2] 58 (0,0)) (by (with_reducible repeat (first|refine bkN ?_ _|refine bkD ?_|refine bkA ?_ _));refine blk_put (cs := #[.int .i64 ((rd_T58 l0_0 x18_1).f0),.int .i64 ((rd_T58 l0_0 x18_1).f1),.slice none 0 0]) ?_ 2 _ rfl;(with_reducible repeat (first|refine bkN ?_ _|refine bkD ?_|refine bkA ?_ _));refine blk_put (cs := #[.int .i64 ((rd_T58 l0_0 x18_1).f0),.int .i64 0,.slice none 0 0]) ?_ 1 _ rfl;(with_reducible repeat (first|refine bkN ?_ _|refine bkD ?_|refine bkA ?_ _));refine blk_put (cs := #[.int .i64 0,.int .i64 0,.slice none 0 0]) ?_ 0 _ rfl;(with_reducible repeat (first|refine bkN ?_ _|refine bkD ?_|refine bkA ?_ _));exact BK802.out) hg (Kd.R_ne HO_3.out BK802.out (by decide)));have n3_ := As_ (hb);have n4_ := As_ (ho);clear BK795;clear BK796;clear BK802;clear HB;clear HO_3;have BK795 := n0_;have BK796 := n1_;have BK802 := n2_;have HB := n3_;have HO809 := n4_;clear n0_ n1_ n2_ n3_ n4_;clear ho hb hg hat))
      go_roundg k1
      case measure => have := HK1.out;omega
      case rel => exact ⟨(y807),(wrap64 (x18_1 + 1)),(by first|rfl|(simp;done)|(simp [*];done)),H',⟨by have := HK1.out;omega⟩,⟨by (with_reducible repeat (first|apply Kd.R_alloc|apply Kd.R_drewN|apply Kd.R_drew));exact HO809.out⟩,⟨by (with_reducible repeat (first|refine bkN ?_ _|refine bkD ?_|refine bkA ?_ _));exact BK795.out⟩,⟨by (with_reducible repeat (first|refine bkN ?_ _|refine bkD ?_|refine bkA ?_ _));exact BK796.out⟩,⟨by repeat (first|(with_reducible first|exact HB.out|apply bwA|apply bwN|apply bwD|refine bwS ?_ GE795.out|refine bwS ?_ GE796.out|refine bwS ?_ GE802.out)|exact HB.out)⟩⟩
    ·rw [if_neg c12] at H
     have c12b0 : decide (x18_1 < (l0_0.length : Int)) = false := deF c12
     clear c12
     by_cases c32 : 0 ≤ a0_1
     rotate_left
     ·rw [if_neg c32] at H
      exact absurd H (by simp)
     rw [if_pos c32] at H
     have c32b0 : decide (0 ≤ a0_1) = true := deT c32
     clear c32
     by_cases c33 : a0_1 < (x3_1.length : Int)
     rotate_left
     ·rw [if_neg c33] at H
      exact absurd H (by simp)
     rw [if_pos c33] at H
     have c33b0 : decide (a0_1 < (x3_1.length : Int)) = true := deT c33
     clear c33
     have H' := As_ H
     clear H
     have hnb34 := NB795_796.out
     have hnc34 := NB796_795.out
     have hcz35_0 : wr.cell? ⟨gb795,0,none⟩ = some (.slice A0_0 l0_0.length c0_0) := (bkC BK795.out 0).trans rfl
     have hcz35_1 : wr.cell? ⟨gb795,1,none⟩ = some (.int .i64 a0_1) := (bkC BK795.out 1).trans rfl
     have hfz35_0 := bkF BK795.out 0
     have hfz35_1 := bkF BK795.out 1
     obtain ⟨Ao36,co36,eo36⟩ := Kd.R_slice HO_3.out
     subst eo36
     have p810 : 0 ≤ (a0_1 : Int) := odT (by first|(with_reducible assumption)|assumption)
     have q810 : a0_1 < (x3_1.length : Int) := odT (by first|(with_reducible assumption)|assumption)
     obtain ⟨ad810,e810,hx810_0⟩ := Kd.at_int (Kd.R_reads' HO_3.out).2.2 a0_1 p810 q810
     cases e810
     replace p810 := eq_true p810
     replace q810 := eq_true q810
     go_wp2_with (first|((with_reducible refine gate_dst (N := 7) rfl ?_);refine box_event ?hg (N := 7) ?hd (cs := #[.slice none 0 0,.int .i64 0]) (t := 25) ?hr ?_;(case hd => rfl);(case hg => rfl);(case hr => go_simp <;> rfl);intro gb811 hg w37 hbox hb;have n0_ := As_ (Kd.R_below (by (with_reducible repeat (first|apply Kd.R_alloc|apply Kd.R_drewN|apply Kd.R_drew));exact HO_3.out) hb);have n1_ := As_ (blk_below (g := gb795) (o := .cells #[.slice A0_0 l0_0.length c0_0,.int .i64 a0_1] 25 (0,0)) (by (with_reducible repeat (first|refine bkN ?_ _|refine bkD ?_|refine bkA ?_ _));exact BK795.out) hb);have n2_ := As_ (blk_below (g := gb796) (o := .cells #[.slice none 0 0,.int .i64 0] 25 (0,0)) (by (with_reducible repeat (first|refine bkN ?_ _|refine bkD ?_|refine bkA ?_ _));exact BK796.out) hb);have n3_ := As_ (bwT (by repeat (first|(with_reducible first|exact HB.out|apply bwA|apply bwN|apply bwD|refine bwS ?_ GE795.out|refine bwS ?_ GE796.out)|exact HB.out)) hb);have n4_ := As_ (hbox);have n5_ := As_ ((by rw [hg];exact (bwZ (by repeat (first|(with_reducible first|exact HB.out|apply bwA|apply bwN|apply bwD|refine bwS ?_ GE795.out|refine bwS ?_ GE796.out)|exact HB.out))) : w.heap.size ≤ gb811));have n6_ := As_ ((by rw [hg];exact (bwZ (by repeat (first|(with_reducible first|exact HB.out|apply bwA|apply bwN|apply bwD|refine bwS ?_ GE795.out|refine bwS ?_ GE796.out)|exact HB.out))) : w.heap.size ≤ gb811));have n7_ := As_ ((by rw [hg];exact Nat.ne_of_lt (blk_lt (g := gb795) (o := .cells #[.slice A0_0 l0_0.length c0_0,.int .i64 a0_1] 25 (0,0)) (by (with_reducible repeat (first|refine bkN ?_ _|refine bkD ?_|refine bkA ?_ _));exact BK795.out)) : gb795 ≠ gb811));have n8_ := As_ ((by rw [hg];exact Nat.ne_of_gt (blk_lt (g := gb795) (o := .cells #[.slice A0_0 l0_0.length c0_0,.int .i64 a0_1] 25 (0,0)) (by (with_reducible repeat (first|refine bkN ?_ _|refine bkD ?_|refine bkA ?_ _));exact BK795.out)) : gb811 ≠ gb795));have n9_ := As_ ((by rw [hg];exact Nat.ne_of_lt (blk_lt (g := gb796) (o := .cells #[.slice none 0 0,.int .i64 0] 25 (0,0)) (by (with_reducible repeat (first|refine bkN ?_ _|refine bkD ?_|refine bkA ?_ _));exact BK796.out)) : gb796 ≠ gb811));have n10_ := As_ ((by rw [hg];exact Nat.ne_of_gt (blk_lt (g := gb796) (o := .cells #[.slice none 0 0,.int .i64 0] 25 (0,0)) (by (with_reducible repeat (first|refine bkN ?_ _|refine bkD ?_|refine bkA ?_ _));exact BK796.out)) : gb811 ≠ gb796));clear HO_3;clear BK795;clear BK796;clear HB;have HO_3 := n0_;have BK795 := n1_;have BK796 := n2_;have HB := n3_;have BK811 := n4_;have GW811 := n5_;have GE811 := n6_;have NB795_811 := n7_;have NB811_795 := n8_;have NB796_811 := n9_;have NB811_796 := n10_;clear n0_ n1_ n2_ n3_ n4_ n5_ n6_ n7_ n8_ n9_ n10_;clear hb hbox hg;have hnb38 := NB811_795.out;have hnc38 := NB795_811.out;have hnb39 := NB811_796.out;have hnc39 := NB796_811.out;have hcz40_0 : w37.cell? ⟨gb811,0,none⟩ = some (.slice none 0 0) := (bkC BK811.out 0).trans rfl;have hcz40_1 : w37.cell? ⟨gb811,1,none⟩ = some (.int .i64 0) := (bkC BK811.out 1).trans rfl;have hfz40_0 := bkF BK811.out 0;have hfz40_1 := bkF BK811.out 1;have hcz41_0 : w37.cell? ⟨gb795,0,none⟩ = some (.slice A0_0 l0_0.length c0_0) := (bkC BK795.out 0).trans rfl;have hcz41_1 : w37.cell? ⟨gb795,1,none⟩ = some (.int .i64 a0_1) := (bkC BK795.out 1).trans rfl;have hfz41_0 := bkF BK795.out 0;have hfz41_1 := bkF BK795.out 1))
     go_loopg [45] k1 (fun kq v45 w' => ∃ (x45_2 : Int) (x812000_2 : List (S58)) (u812000 : Value),v45 = .int .i64 x45_2 ∧ Aside0 (impl_MergeTexts.l1 kq x3_1 l0_0 (l0_0.length : Int) x45_2 x812000_2 (rd x3_1 a0_1) = some (r1,r2)) ∧ Aside0 (kq ≤ k1) ∧ Aside0 (Kd.R (Kd.int .i64) 3 w' w.heap.size (fun _ => True) (.slice (some ad810) x3_1.length co36) x3_1) ∧ Aside0 (Kd.S k58 58 w' w.heap.size (fun k_ => some k_ ≠ ((.slice (some ad810) x3_1.length co36) : Value).ownBlock) u812000 x812000_2) ∧ Aside0 (w'.heap[gb795]? = some (.cells #[(.slice A0_0 l0_0.length c0_0),.int .i64 a0_1] 25 (0,0))) ∧ Aside0 (w'.heap[gb796]? = some (.cells #[(.slice none 0 0),.int .i64 0] 25 (0,0))) ∧ Aside0 (w'.heap[gb811]? = some (.cells #[u812000,.int .i64 (rd x3_1 a0_1)] 25 (0,0))) ∧ Aside0 (Below w.heap.size w w'))
     case atStart => exact ⟨(0),(([] : List (S58))),(.slice none 0 0),(by first|rfl|(simp;done)|(simp [*];done)),H',⟨Nat.le_refl _⟩,⟨by (with_reducible repeat (first|apply Kd.R_alloc|apply Kd.R_drewN|apply Kd.R_drew));exact Kd.R_mono (Kd.R_far (p := ⟨gb811,1,none⟩) (Kd.R_far (p := ⟨gb811,0,none⟩) (Kd.R_types HO_3.out BK811.out (by decide)) (fun _ hk => hk.2) (.slice none 0 0)) (fun _ hk => hk.2) (.int .i64 (rd x3_1 a0_1))) (fun _ hk => trivial)⟩,⟨by first|exact Kd.S_nil _ _ _ _ _|exact Kd.N_nil _ _ _ _ _|exact Kd.V_nil _ _ _ _ _|exact Kd.Q_nil _ _ _ _ _|exact Kd.R_nil _ _ _ _ _⟩,⟨by (with_reducible repeat (first|refine bkN ?_ _|refine bkD ?_|refine bkA ?_ _));refine blk_far ?_ NB795_811.out _;(with_reducible repeat (first|refine bkN ?_ _|refine bkD ?_|refine bkA ?_ _));refine blk_far ?_ NB795_811.out _;(with_reducible repeat (first|refine bkN ?_ _|refine bkD ?_|refine bkA ?_ _));exact BK795.out⟩,⟨by (with_reducible repeat (first|refine bkN ?_ _|refine bkD ?_|refine bkA ?_ _));refine blk_far ?_ NB796_811.out _;(with_reducible repeat (first|refine bkN ?_ _|refine bkD ?_|refine bkA ?_ _));refine blk_far ?_ NB796_811.out _;(with_reducible repeat (first|refine bkN ?_ _|refine bkD ?_|refine bkA ?_ _));exact BK796.out⟩,⟨by (with_reducible repeat (first|refine bkN ?_ _|refine bkD ?_|refine bkA ?_ _));refine blk_put (cs := #[.slice none 0 0,.int .i64 0]) ?_ 1 _ rfl;(with_reducible repeat (first|refine bkN ?_ _|refine bkD ?_|refine bkA ?_ _));refine blk_put (cs := #[.slice none 0 0,.int .i64 0]) ?_ 0 _ rfl;(with_reducible repeat (first|refine bkN ?_ _|refine bkD ?_|refine bkA ?_ _));exact BK811.out⟩,⟨by repeat (first|(with_reducible first|exact HB.out|apply bwA|apply bwN|apply bwD|refine bwS ?_ GE795.out|refine bwS ?_ GE796.out|refine bwS ?_ GE811.out)|exact HB.out)⟩⟩
     case round =>
      clear H'
      try clear c1
      try clear c2
      try clear p2
      try clear c3
      try clear c6
      try clear p6
      try clear c8
      try clear p8
      try clear q8
      try clear hx8
      try clear c12
      try clear c12b0
      try clear c13
      try clear c13b0
      try clear c14
      try clear c14b0
      try clear c15
      try clear c15b0
      try clear c15b1
      try clear c17
      try clear c19
      try clear c20
      try clear c22
      try clear c26
      try clear c28
      try clear c29
      try clear c32
      try clear c32b0
      try clear c33
      try clear c33b0
      try clear c34
      try clear c37
      try clear c38
      try clear c39
      try clear hcz11_0
      try clear hcz11_1
      try clear hcz21_0
      try clear hcz21_1
      try clear hcz21_2
      try clear hcz23_0
      try clear hcz23_1
      try clear hcz30_0
      try clear hcz30_1
      try clear hcz30_2
      try clear hcz35_0
      try clear hcz35_1
      try clear hcz40_0
      try clear hcz40_1
      try clear hcz41_0
      try clear hcz41_1
      try clear hcz7_0
      try clear hcz7_1
      try clear hfz11_0
      try clear hfz11_1
      try clear hfz21_0
      try clear hfz21_1
      try clear hfz21_2
      try clear hfz23_0
      try clear hfz23_1
      try clear hfz30_0
      try clear hfz30_1
      try clear hfz30_2
      try clear hfz35_0
      try clear hfz35_1
      try clear hfz40_0
      try clear hfz40_1
      try clear hfz41_0
      try clear hfz41_1
      try clear hfz7_0
      try clear hfz7_1
      try clear hx801_0
      try clear hx801_1
      try clear hx801_2
      try clear hx810_0
      try clear p2
      try clear p801
      try clear p810
      try clear q801
      try clear q810
      obtain ⟨x45_2,x812000_2,u812000,rfl,HA,HK2,HO_3,HO_812000,BK795,BK796,BK811,HB⟩ := hrel
      cases gk with
      | zero => exact absurd HA.out (fun h_ => (by cases h_))
      | succ k2 =>
       have H := HA.out
       clear HA
       simp only [impl_MergeTexts.l1] at H
       by_cases c42 : x45_2 < (l0_0.length : Int)
       ·rw [if_pos c42] at H
        have c42b0 : decide (x45_2 < (l0_0.length : Int)) = true := deT c42
        clear c42
        by_cases c43 : 0 ≤ x45_2
        rotate_left
        ·rw [if_neg c43] at H
         exact absurd H (by simp)
        rw [if_pos c43] at H
        have c43b0 : decide (0 ≤ x45_2) = true := deT c43
        clear c43
        by_cases c44 : x45_2 < (l0_0.length : Int)
        rotate_left
        ·rw [if_neg c44] at H
         exact absurd H (by simp)
        rw [if_pos c44] at H
        have c44b0 : decide (x45_2 < (l0_0.length : Int)) = true := deT c44
        clear c44
        replace H := obS H
        obtain ⟨⟨t814,t815,t816⟩,A450,H⟩ := H
        replace H : (if x812000_2.length < 3518437208883 then (impl_MergeTexts.l1 k2 x3_1 l0_0 (l0_0.length : Int) (wrap64 (x45_2 + 1)) (x812000_2 ++ [(⟨t814,t815,t816⟩ : S58)]) (rd x3_1 a0_1)) else (none)) = some (r1,r2) := H
        have A45 := As_ A450
        clear A450
        by_cases c46 : x812000_2.length < 3518437208883
        rotate_left
        ·rw [if_neg c46] at H
         exact absurd H (by simp)
        rw [if_pos c46] at H
        have LMc46 := As_ c46
        clear c46
        obtain ⟨y819,hy819⟩ : ∃ y_ : List (S58),y_ = (x812000_2 ++ [(⟨t814,t815,t816⟩ : S58)]) := ⟨_,rfl⟩
        replace H : (impl_MergeTexts.l1 k2 x3_1 l0_0 (l0_0.length : Int) (wrap64 (x45_2 + 1)) y819 (rd x3_1 a0_1)) = some (r1,r2) := by first|(rw [hy819];with_reducible exact H)|(have H2_ := (Option.bind_some _ _).symm.trans H;rw [hy819];with_reducible exact H2_)|(have H2_ := (Option.bind_some _ _).symm.trans H;with_reducible exact H2_)|with_reducible exact H|(rw [hy819];exact H)|exact H
        have Ny819 := As_ hy819
        clear hy819
        have H' := As_ H
        clear H
        have p812 : 0 ≤ (x45_2 : Int) := odT (by first|(with_reducible assumption)|assumption)
        have q812 : x45_2 < (l0_0.length : Int) := odT (by first|(with_reducible assumption)|assumption)
        obtain ⟨ad812,A812_2,c812_2,e812,hx812_0,hx812_1,hx812_2,hl812_2,hi812_2⟩ := at_T58 HR0_0.out x45_2 p812 q812
        cases e812
        replace hx812_0 := (HB.out.cell (bwL w _ hx812_0)).trans hx812_0
        replace hx812_1 := (HB.out.cell (bwL w _ hx812_1)).trans hx812_1
        replace hx812_2 := (HB.out.cell (bwL w _ hx812_2)).trans hx812_2
        have HR812_2 := As_ hi812_2
        have HC812_2 := As_ hl812_2
        clear hi812_2 hl812_2
        replace p812 := eq_true p812
        replace q812 := eq_true q812
        try go_wp2_with (first|((with_reducible refine gate_dst (N := 9) rfl ?_);refine box_event ?hg (N := 9) ?hd (cs := #[.int .i64 0,.int .i64 0,.slice none 0 0]) (t := 58) ?hr ?_;(case hd => rfl);(case hg => rfl);(case hr => go_simp <;> rfl);intro gb813 hg w47 hbox hb;have n0_ := As_ (Kd.R_below (by (with_reducible repeat (first|apply Kd.R_alloc|apply Kd.R_drewN|apply Kd.R_drew));exact HO_3.out) hb);have n1_ := As_ (Kd.S_below (Kd.S_elderB (by (with_reducible repeat (first|apply Kd.S_alloc|apply Kd.S_drewN|apply Kd.S_drew));exact HO_812000.out) gb813 (Nat.le_of_eq hg.symm)) hb);have n2_ := As_ (blk_below (g := gb795) (o := .cells #[.slice (some ad812) l0_0.length c0_0,.int .i64 a0_1] 25 (0,0)) (by (with_reducible repeat (first|refine bkN ?_ _|refine bkD ?_|refine bkA ?_ _));exact BK795.out) hb);have n3_ := As_ (blk_below (g := gb796) (o := .cells #[.slice none 0 0,.int .i64 0] 25 (0,0)) (by (with_reducible repeat (first|refine bkN ?_ _|refine bkD ?_|refine bkA ?_ _));exact BK796.out) hb);have n4_ := As_ (blk_below (g := gb811) (o := .cells #[u812000,.int .i64 (rd x3_1 a0_1)] 25 (0,0)) (by (with_reducible repeat (first|refine bkN ?_ _|refine bkD ?_|refine bkA ?_ _));exact BK811.out) hb);have n5_ := As_ (bwT (by repeat (first|(with_reducible first|exact HB.out|apply bwA|apply bwN|apply bwD|refine bwS ?_ GE795.out|refine bwS ?_ GE796.out|refine bwS ?_ GE811.out)|exact HB.out)) hb);have n6_ := As_ (hbox);have n7_ := As_ ((by rw [hg];exact (bwZ (by repeat (first|(with_reducible first|exact HB.out|apply bwA|apply bwN|apply bwD|refine bwS ?_ GE795.out|refine bwS ?_ GE796.out|refine bwS ?_ GE811.out)|exact HB.out))) : w.heap.size ≤ gb813));have n8_ := As_ ((by rw [hg];exact (bwZ (by repeat (first|(with_reducible first|exact HB.out|apply bwA|apply bwN|apply bwD|refine bwS ?_ GE795.out|refine bwS ?_ GE796.out|refine bwS ?_ GE811.out)|exact HB.out))) : w.heap.size ≤ gb813));have n9_ := As_ ((by rw [hg];exact Nat.ne_of_lt (blk_lt (g := gb795) (o := .cells #[.slice (some ad812) l0_0.length c0_0,.int .i64 a0_1] 25 (0,0)) (by (with_reducible repeat (first|refine bkN ?_ _|refine bkD ?_|refine bkA ?_ _));exact BK795.out)) : gb795 ≠ gb813));have n10_ := As_ ((by rw [hg];exact Nat.ne_of_gt (blk_lt (g := gb795) (o := .cells #[.slice (some ad812) l0_0.length c0_0,.int .i64 a0_1] 25 (0,0)) (by (with_reducible repeat (first|refine bkN ?_ _|refine bkD ?_|refine bkA ?_ _));exact BK795.out)) : gb813 ≠ gb795));have n11_ := As_ ((by rw [hg];exact Nat.ne_of_lt (blk_lt (g := gb796) (o := .cells #[.slice none 0 0,.int .i64 0] 25 (0,0)) (by (with_reducible repeat (first|refine bkN ?_ _|refine bkD ?_|refine bkA ?_ _));exact BK796.out)) : gb796 ≠ gb813));have n12_ := As_ ((by rw [hg];exact Nat.ne_of_gt (blk_lt (g := gb796) (o := .cells #[.slice none 0 0,.int .i64 0] 25 (0,0)) (by (with_reducible repeat (first|refine bkN ?_ _|refine bkD ?_|refine bkA ?_ _));exact BK796.out)) : gb813 ≠ gb796));have n13_ := As_ ((by rw [hg];exact Nat.ne_of_lt (blk_lt (g := gb811) (o := .cells #[u812000,.int .i64 (rd x3_1 a0_1)] 25 (0,0)) (by (with_reducible repeat (first|refine bkN ?_ _|refine bkD ?_|refine bkA ?_ _));exact BK811.out)) : gb811 ≠ gb813));have n14_ := As_ ((by rw [hg];exact Nat.ne_of_gt (blk_lt (g := gb811) (o := .cells #[u812000,.int .i64 (rd x3_1 a0_1)] 25 (0,0)) (by (with_reducible repeat (first|refine bkN ?_ _|refine bkD ?_|refine bkA ?_ _));exact BK811.out)) : gb813 ≠ gb811));clear HO_3;clear HO_812000;clear BK795;clear BK796;clear BK811;clear HB;have HO_3 := n0_;have HO_812000 := n1_;have BK795 := n2_;have BK796 := n3_;have BK811 := n4_;have HB := n5_;have BK813 := n6_;have GW813 := n7_;have GE813 := n8_;have NB795_813 := n9_;have NB813_795 := n10_;have NB796_813 := n11_;have NB813_796 := n12_;have NB811_813 := n13_;have NB813_811 := n14_;clear n0_ n1_ n2_ n3_ n4_ n5_ n6_ n7_ n8_ n9_ n10_ n11_ n12_ n13_ n14_;clear hb hbox hg;have hnb48 := NB813_795.out;have hnc48 := NB795_813.out;have hnb49 := NB813_796.out;have hnc49 := NB796_813.out;have hnb50 := NB813_811.out;have hnc50 := NB811_813.out;have hcz51_0 : w47.cell? ⟨gb813,0,none⟩ = some (.int .i64 0) := (bkC BK813.out 0).trans rfl;have hcz51_1 : w47.cell? ⟨gb813,1,none⟩ = some (.int .i64 0) := (bkC BK813.out 1).trans rfl;have hcz51_2 : w47.cell? ⟨gb813,2,none⟩ = some (.slice none 0 0) := (bkC BK813.out 2).trans rfl;have hfz51_0 := bkF BK813.out 0;have hfz51_1 := bkF BK813.out 1;have hfz51_2 := bkF BK813.out 2))
        have n0_ : Aside0 (Kd.R (Kd.int .i64) 3 (((w47.setCell ⟨gb813,0,none⟩ (.int .i64 ((rd_T58 l0_0 x45_2).f0))).setCell ⟨gb813,1,none⟩ (.int .i64 ((rd_T58 l0_0 x45_2).f1))).setCell ⟨gb813,2,none⟩ (.slice A812_2 ((rd_T58 l0_0 x45_2).f2).length c812_2)) w.heap.size (fun _ => True) (.slice (some ad810) x3_1.length co36) x3_1) := ⟨by (with_reducible repeat (first|apply Kd.R_alloc|apply Kd.R_drewN|apply Kd.R_drew));exact Kd.R_mono (Kd.R_far (p := ⟨gb813,2,none⟩) (Kd.R_far (p := ⟨gb813,1,none⟩) (Kd.R_far (p := ⟨gb813,0,none⟩) (Kd.R_types HO_3.out BK813.out (by decide)) (fun _ hk => hk.2) (.int .i64 ((rd_T58 l0_0 x45_2).f0))) (fun _ hk => hk.2) (.int .i64 ((rd_T58 l0_0 x45_2).f1))) (fun _ hk => hk.2) (.slice A812_2 ((rd_T58 l0_0 x45_2).f2).length c812_2)) (fun _ hk => trivial)⟩
        have n1_ : Aside0 (Kd.S k58 58 (((w47.setCell ⟨gb813,0,none⟩ (.int .i64 ((rd_T58 l0_0 x45_2).f0))).setCell ⟨gb813,1,none⟩ (.int .i64 ((rd_T58 l0_0 x45_2).f1))).setCell ⟨gb813,2,none⟩ (.slice A812_2 ((rd_T58 l0_0 x45_2).f2).length c812_2)) w.heap.size (fun k_ => some k_ ≠ (.slice (some ad810) x3_1.length co36 : Value).ownBlock ∧ k_ ≠ gb813) u812000 x812000_2) := ⟨by (with_reducible repeat (first|apply Kd.S_alloc|apply Kd.S_drewN|apply Kd.S_drew));exact Kd.S_mono (Kd.S_far (p := ⟨gb813,2,none⟩) (Kd.S_far (p := ⟨gb813,1,none⟩) (Kd.S_far (p := ⟨gb813,0,none⟩) (Kd.S_mono HO_812000.out (fun k_ hk => (⟨hk,hk.2⟩ : _ ∧ k_ ≠ gb813))) (fun _ hk => hk.2) (.int .i64 ((rd_T58 l0_0 x45_2).f0))) (fun _ hk => hk.2) (.int .i64 ((rd_T58 l0_0 x45_2).f1))) (fun _ hk => hk.2) (.slice A812_2 ((rd_T58 l0_0 x45_2).f2).length c812_2)) (fun _ hk => ⟨hk.1.1,hk.1.2⟩)⟩
        have n2_ : Aside0 ((((w47.setCell ⟨gb813,0,none⟩ (.int .i64 ((rd_T58 l0_0 x45_2).f0))).setCell ⟨gb813,1,none⟩ (.int .i64 ((rd_T58 l0_0 x45_2).f1))).setCell ⟨gb813,2,none⟩ (.slice A812_2 ((rd_T58 l0_0 x45_2).f2).length c812_2)).heap[gb795]? = some (.cells #[.slice (some ad812) l0_0.length c0_0,.int .i64 a0_1] 25 (0,0))) := ⟨by (with_reducible repeat (first|refine bkN ?_ _|refine bkD ?_|refine bkA ?_ _));refine blk_far ?_ NB795_813.out _;(with_reducible repeat (first|refine bkN ?_ _|refine bkD ?_|refine bkA ?_ _));refine blk_far ?_ NB795_813.out _;(with_reducible repeat (first|refine bkN ?_ _|refine bkD ?_|refine bkA ?_ _));refine blk_far ?_ NB795_813.out _;(with_reducible repeat (first|refine bkN ?_ _|refine bkD ?_|refine bkA ?_ _));exact BK795.out⟩
        have n3_ : Aside0 ((((w47.setCell ⟨gb813,0,none⟩ (.int .i64 ((rd_T58 l0_0 x45_2).f0))).setCell ⟨gb813,1,none⟩ (.int .i64 ((rd_T58 l0_0 x45_2).f1))).setCell ⟨gb813,2,none⟩ (.slice A812_2 ((rd_T58 l0_0 x45_2).f2).length c812_2)).heap[gb796]? = some (.cells #[.slice none 0 0,.int .i64 0] 25 (0,0))) := ⟨by (with_reducible repeat (first|refine bkN ?_ _|refine bkD ?_|refine bkA ?_ _));refine blk_far ?_ NB796_813.out _;(with_reducible repeat (first|refine bkN ?_ _|refine bkD ?_|refine bkA ?_ _));refine blk_far ?_ NB796_813.out _;(with_reducible repeat (first|refine bkN ?_ _|refine bkD ?_|refine bkA ?_ _));refine blk_far ?_ NB796_813.out _;(with_reducible repeat (first|refine bkN ?_ _|refine bkD ?_|refine bkA ?_ _));exact BK796.out⟩
        have n4_ : Aside0 ((((w47.setCell ⟨gb813,0,none⟩ (.int .i64 ((rd_T58 l0_0 x45_2).f0))).setCell ⟨gb813,1,none⟩ (.int .i64 ((rd_T58 l0_0 x45_2).f1))).setCell ⟨gb813,2,none⟩ (.slice A812_2 ((rd_T58 l0_0 x45_2).f2).length c812_2)).heap[gb811]? = some (.cells #[u812000,.int .i64 (rd x3_1 a0_1)] 25 (0,0))) := ⟨by (with_reducible repeat (first|refine bkN ?_ _|refine bkD ?_|refine bkA ?_ _));refine blk_far ?_ NB811_813.out _;(with_reducible repeat (first|refine bkN ?_ _|refine bkD ?_|refine bkA ?_ _));refine blk_far ?_ NB811_813.out _;(with_reducible repeat (first|refine bkN ?_ _|refine bkD ?_|refine bkA ?_ _));refine blk_far ?_ NB811_813.out _;(with_reducible repeat (first|refine bkN ?_ _|refine bkD ?_|refine bkA ?_ _));exact BK811.out⟩
        have n5_ : Aside0 ((((w47.setCell ⟨gb813,0,none⟩ (.int .i64 ((rd_T58 l0_0 x45_2).f0))).setCell ⟨gb813,1,none⟩ (.int .i64 ((rd_T58 l0_0 x45_2).f1))).setCell ⟨gb813,2,none⟩ (.slice A812_2 ((rd_T58 l0_0 x45_2).f2).length c812_2)).heap[gb813]? = some (.cells #[.int .i64 ((rd_T58 l0_0 x45_2).f0),.int .i64 ((rd_T58 l0_0 x45_2).f1),.slice A812_2 ((rd_T58 l0_0 x45_2).f2).length c812_2] 58 (0,0))) := ⟨by (with_reducible repeat (first|refine bkN ?_ _|refine bkD ?_|refine bkA ?_ _));refine blk_put (cs := #[.int .i64 ((rd_T58 l0_0 x45_2).f0),.int .i64 ((rd_T58 l0_0 x45_2).f1),.slice none 0 0]) ?_ 2 _ rfl;(with_reducible repeat (first|refine bkN ?_ _|refine bkD ?_|refine bkA ?_ _));refine blk_put (cs := #[.int .i64 ((rd_T58 l0_0 x45_2).f0),.int .i64 0,.slice none 0 0]) ?_ 1 _ rfl;(with_reducible repeat (first|refine bkN ?_ _|refine bkD ?_|refine bkA ?_ _));refine blk_put (cs := #[.int .i64 0,.int .i64 0,.slice none 0 0]) ?_ 0 _ rfl;(with_reducible repeat (first|refine bkN ?_ _|refine bkD ?_|refine bkA ?_ _));exact BK813.out⟩
        have n6_ : Aside0 (Below w.heap.size w (((w47.setCell ⟨gb813,0,none⟩ (.int .i64 ((rd_T58 l0_0 x45_2).f0))).setCell ⟨gb813,1,none⟩ (.int .i64 ((rd_T58 l0_0 x45_2).f1))).setCell ⟨gb813,2,none⟩ (.slice A812_2 ((rd_T58 l0_0 x45_2).f2).length c812_2))) := ⟨by repeat (first|(with_reducible first|exact HB.out|apply bwA|apply bwN|apply bwD|refine bwS ?_ GE795.out|refine bwS ?_ GE796.out|refine bwS ?_ GE811.out|refine bwS ?_ GE813.out)|exact HB.out)⟩
        (try clear HO_3)
        (try clear HO_812000)
        (try clear BK795)
        (try clear BK796)
        (try clear BK811)
        (try clear BK813)
        (try clear HB)
        generalize (((w47.setCell ⟨gb813,0,none⟩ (.int .i64 ((rd_T58 l0_0 x45_2).f0))).setCell ⟨gb813,1,none⟩ (.int .i64 ((rd_T58 l0_0 x45_2).f1))).setCell ⟨gb813,2,none⟩ (.slice A812_2 ((rd_T58 l0_0 x45_2).f2).length c812_2)) = w52 at n0_ n1_ n2_ n3_ n4_ n5_ n6_ ⊢
        have HO_3 := n0_
        have HO_812000 := n1_
        have BK795 := n2_
        have BK796 := n3_
        have BK811 := n4_
        have BK813 := n5_
        have HB := n6_
        clear n0_ n1_ n2_ n3_ n4_ n5_ n6_
        have n0_ := As_ (Kd.R_drew HO_3.out)
        have n1_ := As_ (Kd.S_drew HO_812000.out)
        have n2_ := As_ (bkD BK795.out)
        have n3_ := As_ (bkD BK796.out)
        have n4_ := As_ (bkD BK811.out)
        have n5_ := As_ (bkD BK813.out)
        have n6_ := As_ (bwD HB.out)
        clear HO_3
        clear HO_812000
        clear BK795
        clear BK796
        clear BK811
        clear BK813
        clear HB
        have HO_3 := n0_
        have HO_812000 := n1_
        have BK795 := n2_
        have BK796 := n3_
        have BK811 := n4_
        have BK813 := n5_
        have HB := n6_
        clear n0_ n1_ n2_ n3_ n4_ n5_ n6_
        refine start_ (n := 9) (S := fun w' => w'.cell? ⟨gb811,0,none⟩ = some (u812000) ∧ w'.cell? ⟨gb811,1,none⟩ = some (.int .i64 (rd x3_1 a0_1)) ∧ w'.cell? ⟨gb813,0,none⟩ = some (.int .i64 ((rd_T58 l0_0 x45_2).f0)) ∧ w'.cell? ⟨gb813,1,none⟩ = some (.int .i64 ((rd_T58 l0_0 x45_2).f1)) ∧ w'.cell? ⟨gb813,2,none⟩ = some (.slice A812_2 ((rd_T58 l0_0 x45_2).f2).length c812_2)) (ds := [8]) (bl_ 0 9) (by kernel_rfl) rfl rfl ⟨(bkC BK811.out 0).trans rfl,(bkC BK811.out 1).trans rfl,(bkC BK813.out 0).trans rfl,(bkC BK813.out 1).trans rfl,(bkC BK813.out 2).trans rfl⟩ (fun hHeld => ?_);refine with_tabW impl_MergeTexts.tab16 impl_MergeTexts.bits16 (fun HT_ HW_ => ?_)
        generalize w52.drew = w53 at HO_3 HO_812000 BK795 BK796 BK811 BK813 HB hHeld ⊢
        refine pP 0 49 (bl_ 1 9) ?_ HT_ rfl rfl (by kernel_rfl) (fun _ _ _ h => h) (.inl ⟨by rfl,?_⟩) ?_ ?_ ?_;rotate_left;(intro w';go_simp;with_reducible rfl);rotate_left;(simp only [Act.put,sq_,i64_w,i32_w];rfl)
        refine pP 3 52 (bl_ 9 9) ?_ HT_ rfl rfl (by kernel_rfl) (fun _ _ _ h => h) (.inl ⟨by rfl,?_⟩) ?_ ?_ ?_;rotate_left;(intro w';go_simp;with_reducible rfl);rotate_left;(simp only [Act.put,sq_,i64_w,i32_w];rfl)
        refine tP 1 50 (bl_ 11 9) ?_ HT_ HW_ rfl rfl (by kernel_rfl) (fun _ _ _ h => h) (.inl ⟨by rfl,?_⟩) hHeld ?_ ?_ ?_;rotate_left;(rintro w' ⟨s0,s1,s2,s3,s4⟩;go_simp;with_reducible rfl);rotate_left;(simp only [Act.put,sq_,i64_w,i32_w];rfl)
        refine tP 2 51 (bl_ 15 9) ?_ HT_ HW_ rfl rfl (by kernel_rfl) (fun _ _ _ h => h) (.inl ⟨by rfl,?_⟩) hHeld ?_ ?_ ?_;rotate_left;(rintro w' ⟨s0,s1,s2,s3,s4⟩;go_simp;with_reducible rfl);rotate_left;(simp only [Act.put,sq_,i64_w,i32_w];rfl)
        refine one_ (i := 4) (N := some 53) (bl_ 31 9) rfl rfl (one_of HT_.out (by kernel_rfl)) (by decide) (fun K hK => ?_)
        refine goes_ Try.func56 (by kernel_rfl) rfl #[.agg #[.int .i64 ((rd_T58 l0_0 x45_2).f0),.int .i64 ((rd_T58 l0_0 x45_2).f1),.slice A812_2 ((rd_T58 l0_0 x45_2).f2).length c812_2],.slice (some ad810) x3_1.length co36] (by rfl) rfl rfl (by (try simp only [List.map_toArray,List.map_cons,List.map_nil]);first|done|rfl|(simp only [List.length_drop,List.length_take];rfl)) ?_
        with_reducible refine (impl_mapped.calls k2 ((rd_T58 l0_0 x45_2).f0) ((rd_T58 l0_0 x45_2).f1) _ _ ((rd_T58 l0_0 x45_2).f2) _ _ x3_1 t814 t815 t816 _ ?side1 ?side2 ?side3 ?side4 A45.out).mono ?_
        (case side1 => repeat (first|exact (Kd.C_below HR812_2.out HB.out)|(with_reducible refine Kd.C_alloc ?_ _)|(with_reducible refine Kd.C_drewN ?_ _)|(with_reducible refine Kd.C_drew ?_)))
        (case side2 => exact HC812_2.out)
        (case side3 => repeat (first|exact (Kd.R_reads' HO_3.out).2.2|(with_reducible refine Kd.C_alloc ?_ _)|(with_reducible refine Kd.C_drewN ?_ _)|(with_reducible refine Kd.C_drew ?_)))
        (case side4 => exact (Kd.R_reads' HO_3.out).2.1)
        rintro e w54 ⟨v817,rfl,ho0,hb⟩
        refine ⟨_,rfl,?_⟩
        have n0_ := As_ (Kd.R_elder' (by (with_reducible repeat (first|apply Kd.R_alloc|apply Kd.R_drewN|apply Kd.R_drew));exact HO_3.out) (Kd.R_base ho0) hb)
        have n1_ := As_ (Kd.S_elder' (by (with_reducible repeat (first|apply Kd.S_alloc|apply Kd.S_drewN|apply Kd.S_drew));exact HO_812000.out) (Kd.R_base ho0) hb)
        have n2_ := As_ (Kd.R_lower (Kd.R_new' ho0 (Kd.R_lt (by (with_reducible repeat (first|apply Kd.R_alloc|apply Kd.R_drewN|apply Kd.R_drew));exact HO_3.out))) (bwZ (by repeat (first|(with_reducible first|exact HB.out|apply bwA|apply bwN|apply bwD|refine bwS ?_ GE795.out|refine bwS ?_ GE796.out|refine bwS ?_ GE811.out|refine bwS ?_ GE813.out)|exact HB.out))))
        have n3_ := As_ (blk_below (g := gb795) (o := .cells #[.slice (some ad812) l0_0.length c0_0,.int .i64 a0_1] 25 (0,0)) (by (with_reducible repeat (first|refine bkN ?_ _|refine bkD ?_|refine bkA ?_ _));exact BK795.out) hb)
        have n4_ := As_ (blk_below (g := gb796) (o := .cells #[.slice none 0 0,.int .i64 0] 25 (0,0)) (by (with_reducible repeat (first|refine bkN ?_ _|refine bkD ?_|refine bkA ?_ _));exact BK796.out) hb)
        have n5_ := As_ (blk_below (g := gb811) (o := .cells #[u812000,.int .i64 (rd x3_1 a0_1)] 25 (0,0)) (by (with_reducible repeat (first|refine bkN ?_ _|refine bkD ?_|refine bkA ?_ _));exact BK811.out) hb)
        have n6_ := As_ (blk_below (g := gb813) (o := .cells #[.int .i64 ((rd_T58 l0_0 x45_2).f0),.int .i64 ((rd_T58 l0_0 x45_2).f1),.slice A812_2 ((rd_T58 l0_0 x45_2).f2).length c812_2] 58 (0,0)) (by (with_reducible repeat (first|refine bkN ?_ _|refine bkD ?_|refine bkA ?_ _));exact BK813.out) hb)
        have n7_ := As_ (bwT (by repeat (first|(with_reducible first|exact HB.out|apply bwA|apply bwN|apply bwD|refine bwS ?_ GE795.out|refine bwS ?_ GE796.out|refine bwS ?_ GE811.out|refine bwS ?_ GE813.out)|exact HB.out)) hb)
        clear HO_3
        clear HO_812000
        clear BK795
        clear BK796
        clear BK811
        clear BK813
        clear HB
        have HO_3 := n0_
        have HO_812000 := n1_
        have HO818 := n2_
        have BK795 := n3_
        have BK796 := n4_
        have BK811 := n5_
        have BK813 := n6_
        have HB := n7_
        clear n0_ n1_ n2_ n3_ n4_ n5_ n6_ n7_
        (try clear hb)
        (try clear hb2)
        (try clear hk)
        (try clear hi)
        (try clear ho0)
        obtain ⟨Ao56,co56,eo56⟩ := Kd.R_slice HO818.out
        (first|subst eo56|(injection eo56 with f1_ f2_ f3_;have f4_ := f1_.symm;have f5_ := f3_.symm;clear f1_ f2_ f3_;subst f4_;subst f5_))
        refine hK.out _ _ ⟨(bkC BK811.out 0).trans rfl,(bkC BK811.out 1).trans rfl,(bkC BK813.out 0).trans rfl,(bkC BK813.out 1).trans rfl,(bkC BK813.out 2).trans rfl⟩ (fun hHeld => ?_)
        clear hK K
        refine norm_ (a' := ?_) ?_ ?_
        rotate_left
        ·show Act.put _ (some 53) _ = _
         simp only [Act.put,sq_,i64_w,i32_w]
         rfl
        refine one_ (i := 5) (N := some 54) (bl_ 63 9) rfl rfl (one_of HT_.out (by kernel_rfl)) (by decide) (fun K hK => ?_)
        refine value_ (w1 := ?_) (v := ?_) (by rfl) rfl ?_ ?_
        rotate_left 2
        ·go_simp
         constructor
         ·rfl
         ·rfl
        refine hK.out _ _ ⟨(bkC (bkA BK811.out _) 0).trans rfl,(bkC (bkA BK811.out _) 1).trans rfl,(bkC (bkA BK813.out _) 0).trans rfl,(bkC (bkA BK813.out _) 1).trans rfl,(bkC (bkA BK813.out _) 2).trans rfl⟩ (fun hHeld => ?_)
        clear hK K
        refine norm_ (a' := ?_) ?_ ?_
        rotate_left
        ·show Act.put _ (some 54) _ = _
         simp only [Act.put,sq_,i64_w,i32_w]
         rfl
        refine one_ (i := 6) (N := some 55) (bl_ 127 9) rfl rfl (one_of HT_.out (by kernel_rfl)) (by decide) (fun K hK => ?_)
        refine Kd.S_append_step k58 (w0 := w) w.heap.size (by rfl) (.tmp 50) (.tmp 54) 23 58 (.agg #[(.int .i64 0),(.int .i64 0),(.slice none 0 0)]) 40 rfl Try.underlying23 info58 rfl (by decide) (by omega) u812000 x812000_2 (⟨t814,t815,t816⟩ : S58) [.int .i64 t814,.int .i64 t815,.slice Ao56 t816.length co56] (fun k_ => some k_ ≠ (.slice (some ad810) x3_1.length co36 : Value).ownBlock ∧ k_ ≠ gb813) (fun k_ => some k_ = (.slice Ao56 t816.length co56 : Value).ownBlock) rfl rfl ?aP (fun k_ hk_ => ((Kd.R_mono (ok' := fun k_ => ((fun k_ => some k_ ≠ (.slice (some ad810) x3_1.length co36 : Value).ownBlock ∧ k_ ≠ gb813)) k_ ∧ some k_ ≠ (u812000 : Value).ownBlock) (Kd.R_types (Kd.R_apart' (HO818.out) (Kd.S_typed HO_812000.out) (by decide)) BK813.out (by decide)) (fun k_ hk => ⟨⟨hk.1.1.2,hk.2⟩,hk.1.2⟩))).1 k_ hk_.symm) ?aF ?aO ?aB ?aS ?aL ?_
        (case aP => exact k58_mkM _ _ _ (⟨t814,t815,t816⟩ : S58) (Kd.R_mono (Kd.R_tight rfl (Kd.R_mono (ok' := fun k_ => ((fun k_ => some k_ ≠ (.slice (some ad810) x3_1.length co36 : Value).ownBlock ∧ k_ ≠ gb813)) k_ ∧ some k_ ≠ (u812000 : Value).ownBlock) (Kd.R_types (Kd.R_apart' (HO818.out) (Kd.S_typed HO_812000.out) (by decide)) BK813.out (by decide)) (fun k_ hk => ⟨⟨hk.1.1.2,hk.2⟩,hk.1.2⟩))) (fun _ h_ => h_)))
        (case aB => exact (by repeat (first|(with_reducible first|exact HB.out|apply bwA|apply bwN|apply bwD|refine bwS ?_ GE795.out|refine bwS ?_ GE796.out|refine bwS ?_ GE811.out|refine bwS ?_ GE813.out)|exact HB.out)))
        (case aF => exact (fun k_ hk => ⟨Kd.fresh' (Kd.R_lt (by (with_reducible repeat (first|apply Kd.R_alloc|apply Kd.R_drewN|apply Kd.R_drew));exact HO_3.out)) k_ hk,Kd.freshB (g := gb813) (o := .cells #[.int .i64 ((rd_T58 l0_0 x45_2).f0),.int .i64 ((rd_T58 l0_0 x45_2).f1),.slice A812_2 ((rd_T58 l0_0 x45_2).f2).length c812_2] 58 (0,0)) (by (with_reducible repeat (first|refine bkN ?_ _|refine bkD ?_|refine bkA ?_ _));exact BK813.out) k_ hk⟩))
        (case aO => exact (by (with_reducible repeat (first|apply Kd.S_alloc|apply Kd.S_drewN|apply Kd.S_drew));exact Kd.S_mono HO_812000.out (fun k_ hk => ⟨⟨hk.1.1,hk.1.2⟩,fun e_ => hk.2 e_⟩)))
        (case aS => exact (bwZ (by repeat (first|(with_reducible first|exact HB.out|apply bwA|apply bwN|apply bwD|refine bwS ?_ GE795.out|refine bwS ?_ GE796.out|refine bwS ?_ GE811.out|refine bwS ?_ GE813.out)|exact HB.out))))
        (case aL => have := LMc46.out;omega)
        intro v820 w55 ho hb hg hat
        rw [← Ny819.out] at ho
        have n0_ := As_ (Kd.R_over' (by (with_reducible repeat (first|apply Kd.R_alloc|apply Kd.R_drewN|apply Kd.R_drew));exact HO_3.out) (Kd.S_typed (by (with_reducible repeat (first|apply Kd.S_alloc|apply Kd.S_drewN|apply Kd.S_drew));exact HO_812000.out)) (by decide) hg)
        have n1_ := As_ (blk_grown (g := gb795) (o := .cells #[.slice (some ad812) l0_0.length c0_0,.int .i64 a0_1] 25 (0,0)) (by (with_reducible repeat (first|refine bkN ?_ _|refine bkD ?_|refine bkA ?_ _));exact BK795.out) hg (Kd.S_ne HO_812000.out BK795.out (by decide)))
        have n2_ := As_ (blk_grown (g := gb796) (o := .cells #[.slice none 0 0,.int .i64 0] 25 (0,0)) (by (with_reducible repeat (first|refine bkN ?_ _|refine bkD ?_|refine bkA ?_ _));exact BK796.out) hg (Kd.S_ne HO_812000.out BK796.out (by decide)))
        have n3_ := As_ (blk_grown (g := gb811) (o := .cells #[u812000,.int .i64 (rd x3_1 a0_1)] 25 (0,0)) (by (with_reducible repeat (first|refine bkN ?_ _|refine bkD ?_|refine bkA ?_ _));exact BK811.out) hg (Kd.S_ne HO_812000.out BK811.out (by decide)))
        have n4_ := As_ (blk_grown (g := gb813) (o := .cells #[.int .i64 ((rd_T58 l0_0 x45_2).f0),.int .i64 ((rd_T58 l0_0 x45_2).f1),.slice A812_2 ((rd_T58 l0_0 x45_2).f2).length c812_2] 58 (0,0)) (by (with_reducible repeat (first|refine bkN ?_ _|refine bkD ?_|refine bkA ?_ _));exact BK813.out) hg (Kd.S_away HO_812000.out (fun _ hk => hk.1.2)))
        have n5_ := As_ (hb)
        have n6_ := As_ (ho)
        clear HO_3
        clear BK795
        clear BK796
        clear BK811
        clear BK813
        clear HB
        clear HO_812000
        clear HO818
        have HO_3 := n0_
        have BK795 := n1_
        have BK796 := n2_
        have BK811 := n3_
        have BK813 := n4_
        have HB := n5_
        have HO821 := n6_
        clear n0_ n1_ n2_ n3_ n4_ n5_ n6_
        clear ho hb hg hat
        obtain ⟨Ao57,co57,eo57⟩ := Kd.S_slice HO821.out
        (first|subst eo57|(injection eo57 with f1_ f2_ f3_;have f4_ := f1_.symm;have f5_ := f3_.symm;clear f1_ f2_ f3_;subst f4_;subst f5_))
        refine hK.out _ _ ⟨(bkC BK811.out 0).trans rfl,(bkC BK811.out 1).trans rfl,(bkC BK813.out 0).trans rfl,(bkC BK813.out 1).trans rfl,(bkC BK813.out 2).trans rfl⟩ (fun hHeld => ?_)
        clear hK K
        refine norm_ (a' := ?_) ?_ ?_
        rotate_left
        ·show Act.put _ (some 55) _ = _
         simp only [Act.put,sq_,i64_w,i32_w]
         rfl
        refine pP 7 56 (bl_ 255 9) ?_ HT_ rfl rfl (by kernel_rfl) (fun _ _ _ h => h) (.inl ⟨by rfl,?_⟩) ?_ ?_ ?_;rotate_left;(intro w';go_simp;with_reducible rfl);rotate_left;(simp only [Act.put,sq_,i64_w,i32_w];rfl)
        refine last_ (i := 8) (N := none) (bl_ 511 9) rfl rfl (one_of HT_.out (by kernel_rfl)) (by decide) (fun K hK => ?_)
        have hs58 : w55.cell? ⟨gb811,0,none⟩ = some (u812000) := (bkC BK811.out 0).trans rfl
        have hfs58 := bkF BK811.out 0
        have hns58_0 := NB795_811.out
        have hns58_1 := NB796_811.out
        have hns58_3 := NB813_811.out
        have hms58_0 := NB811_795.out
        have hms58_1 := NB811_796.out
        have hms58_3 := NB811_813.out
        refine skip_ (w1 := ?_) (by rfl) rfl ?_ ?_
        rotate_left
        ·go_simp
         rfl
        refine hK.out _ _ ?_
        clear hK K
        refine done_ (done_of HT_.out (by kernel_rfl)) ?_
        try go_wp2
        go_roundg k2
        case measure => have := HK1.out;have := HK2.out;omega
        case rel => exact ⟨(wrap64 (x45_2 + 1)),(y819),(.slice Ao57 y819.length co57),(by first|rfl|(simp;done)|(simp [*];done)),H',⟨by have := HK1.out;have := HK2.out;omega⟩,⟨by (with_reducible repeat (first|apply Kd.R_alloc|apply Kd.R_drewN|apply Kd.R_drew));exact Kd.R_mono (Kd.R_far (p := ⟨gb811,0,none⟩) (Kd.R_types HO_3.out BK811.out (by decide)) (fun _ hk => hk.2) (.slice Ao57 y819.length co57)) (fun _ hk => trivial)⟩,⟨by (with_reducible repeat (first|apply Kd.S_alloc|apply Kd.S_drewN|apply Kd.S_drew));exact Kd.S_mono (Kd.S_far (p := ⟨gb811,0,none⟩) (Kd.S_types HO821.out BK811.out (by decide)) (fun _ hk => hk.2) (.slice Ao57 y819.length co57)) (fun _ hk => hk.1.1)⟩,⟨by (with_reducible repeat (first|refine bkN ?_ _|refine bkD ?_|refine bkA ?_ _));refine blk_far ?_ NB795_811.out _;(with_reducible repeat (first|refine bkN ?_ _|refine bkD ?_|refine bkA ?_ _));exact BK795.out⟩,⟨by (with_reducible repeat (first|refine bkN ?_ _|refine bkD ?_|refine bkA ?_ _));refine blk_far ?_ NB796_811.out _;(with_reducible repeat (first|refine bkN ?_ _|refine bkD ?_|refine bkA ?_ _));exact BK796.out⟩,⟨by (with_reducible repeat (first|refine bkN ?_ _|refine bkD ?_|refine bkA ?_ _));refine blk_put (cs := #[u812000,.int .i64 (rd x3_1 a0_1)]) ?_ 0 _ rfl;(with_reducible repeat (first|refine bkN ?_ _|refine bkD ?_|refine bkA ?_ _));exact BK811.out⟩,⟨by repeat (first|(with_reducible first|exact HB.out|apply bwA|apply bwN|apply bwD|refine bwS ?_ GE795.out|refine bwS ?_ GE796.out|refine bwS ?_ GE811.out|refine bwS ?_ GE813.out)|exact HB.out)⟩⟩
       ·rw [if_neg c42] at H
        have c42b0 : decide (x45_2 < (l0_0.length : Int)) = false := deF c42
        clear c42
        simp only [Option.some.injEq,Prod.mk.injEq] at H
        obtain ⟨rfl,rfl⟩ := H
        have hnb59 := NB811_795.out
        have hnc59 := NB795_811.out
        have hnb60 := NB811_796.out
        have hnc60 := NB796_811.out
        have hcz61_0 : wr.cell? ⟨gb811,0,none⟩ = some (u812000) := (bkC BK811.out 0).trans rfl
        have hcz61_1 : wr.cell? ⟨gb811,1,none⟩ = some (.int .i64 (rd x3_1 a0_1)) := (bkC BK811.out 1).trans rfl
        have hfz61_0 := bkF BK811.out 0
        have hfz61_1 := bkF BK811.out 1
        obtain ⟨Ao62,co62,eo62⟩ := Kd.S_slice HO_812000.out
        subst eo62
        have hnb63 := NB796_795.out
        have hnc63 := NB795_796.out
        have hcz64_0 : wr.cell? ⟨gb796,0,none⟩ = some (.slice none 0 0) := (bkC BK796.out 0).trans rfl
        have hcz64_1 : wr.cell? ⟨gb796,1,none⟩ = some (.int .i64 0) := (bkC BK796.out 1).trans rfl
        have hfz64_0 := bkF BK796.out 0
        have hfz64_1 := bkF BK796.out 1
        go_wp2
        refine bodyPost_ret (results_cell_row rfl _ _ gb796 25 #[.slice Ao62 x812000_2.length co62,.int .i64 (rd x3_1 a0_1)] (0,0) _ rfl (by (with_reducible repeat (first|refine bkN ?_ _|refine bkD ?_|refine bkA ?_ _));refine blk_put (cs := #[.slice Ao62 x812000_2.length co62,.int .i64 0]) ?_ 1 _ rfl;(with_reducible repeat (first|refine bkN ?_ _|refine bkD ?_|refine bkA ?_ _));refine blk_put (cs := #[.slice none 0 0,.int .i64 0]) ?_ 0 _ rfl;(with_reducible repeat (first|refine bkN ?_ _|refine bkD ?_|refine bkA ?_ _));exact BK796.out) Try.underlying25 rfl (by kernel_rfl)) rfl ?_
        exact ⟨_,by first|rfl|(simp [errW_none,errW_some] <;> rfl)|(simp [*,errW_none,errW_some] <;> rfl),by (with_reducible repeat (first|apply Kd.S_alloc|apply Kd.S_drewN|apply Kd.S_drew));exact Kd.S_mono (Kd.S_far (p := ⟨gb796,1,none⟩) (Kd.S_far (p := ⟨gb796,0,none⟩) (Kd.S_types HO_812000.out BK796.out (by decide)) (fun _ hk => hk.2) (.slice Ao62 x812000_2.length co62)) (fun _ hk => hk.2) (.int .i64 (rd x3_1 a0_1))) (fun _ hk => trivial),by repeat (first|(with_reducible first|exact HB.out|apply bwA|apply bwN|apply bwD|refine bwS ?_ GE795.out|refine bwS ?_ GE796.out|refine bwS ?_ GE811.out)|exact HB.out)⟩
 ·replace c3 := Bool.eq_false_iff.mpr c3
  subst c3
  have H1 : (some (([] : List (S58)),0)) = some (r1,r2) := by rw [if_neg (show ¬ (false = true) by decide)] at H;exact H
  clear H
  have H := H1
  clear H1
  simp only [Option.some.injEq,Prod.mk.injEq] at H
  obtain ⟨rfl,rfl⟩ := H
  go_enter Try.func34,Try.ntmps34
  go_wp2_with (first|((with_reducible refine gate_dst (N := 1) rfl ?_);refine box_event ?hg (N := 1) ?hd (cs := #[.slice A0_0 l0_0.length c0_0,.int .i64 a0_1]) (t := 25) ?hr ?_;(case hd => rfl);(case hg => rfl);(case hr => go_simp <;> rfl);intro gb795 hg w65 hbox hb;have n0_ := As_ (bwT (by repeat (first|(with_reducible first|exact HB.out|apply bwA|apply bwN|apply bwD)|exact HB.out)) hb);have n1_ := As_ (hbox);have n2_ := As_ ((by rw [hg];exact (bwZ (by repeat (first|(with_reducible first|exact HB.out|apply bwA|apply bwN|apply bwD)|exact HB.out))) : w.heap.size ≤ gb795));have n3_ := As_ ((by rw [hg];exact (bwZ (by repeat (first|(with_reducible first|exact HB.out|apply bwA|apply bwN|apply bwD)|exact HB.out))) : w.heap.size ≤ gb795));clear HB;have HB := n0_;have BK795 := n1_;have GW795 := n2_;have GE795 := n3_;clear n0_ n1_ n2_ n3_;clear hb hbox hg)|((with_reducible refine gate_dst (N := 2) rfl ?_);refine box_event ?hg (N := 2) ?hd (cs := #[.slice none 0 0,.int .i64 0]) (t := 25) ?hr ?_;(case hd => rfl);(case hg => rfl);(case hr => go_simp <;> rfl);intro gb796 hg w66 hbox hb;have n0_ := As_ (blk_below (g := gb795) (o := .cells #[.slice A0_0 l0_0.length c0_0,.int .i64 a0_1] 25 (0,0)) (by (with_reducible repeat (first|refine bkN ?_ _|refine bkD ?_|refine bkA ?_ _));exact BK795.out) hb);have n1_ := As_ (bwT (by repeat (first|(with_reducible first|exact HB.out|apply bwA|apply bwN|apply bwD|refine bwS ?_ GE795.out)|exact HB.out)) hb);have n2_ := As_ (hbox);have n3_ := As_ ((by rw [hg];exact (bwZ (by repeat (first|(with_reducible first|exact HB.out|apply bwA|apply bwN|apply bwD|refine bwS ?_ GE795.out)|exact HB.out))) : w.heap.size ≤ gb796));have n4_ := As_ ((by rw [hg];exact (bwZ (by repeat (first|(with_reducible first|exact HB.out|apply bwA|apply bwN|apply bwD|refine bwS ?_ GE795.out)|exact HB.out))) : w.heap.size ≤ gb796));have n5_ := As_ ((by rw [hg];exact Nat.ne_of_lt (blk_lt (g := gb795) (o := .cells #[.slice A0_0 l0_0.length c0_0,.int .i64 a0_1] 25 (0,0)) (by (with_reducible repeat (first|refine bkN ?_ _|refine bkD ?_|refine bkA ?_ _));exact BK795.out)) : gb795 ≠ gb796));have n6_ := As_ ((by rw [hg];exact Nat.ne_of_gt (blk_lt (g := gb795) (o := .cells #[.slice A0_0 l0_0.length c0_0,.int .i64 a0_1] 25 (0,0)) (by (with_reducible repeat (first|refine bkN ?_ _|refine bkD ?_|refine bkA ?_ _));exact BK795.out)) : gb796 ≠ gb795));clear BK795;clear HB;have BK795 := n0_;have HB := n1_;have BK796 := n2_;have GW796 := n3_;have GE796 := n4_;have NB795_796 := n5_;have NB796_795 := n6_;clear n0_ n1_ n2_ n3_ n4_ n5_ n6_;clear hb hbox hg;have hnb67 := NB795_796.out;have hnc67 := NB796_795.out;have hcz68_0 : w66.cell? ⟨gb795,0,none⟩ = some (.slice A0_0 l0_0.length c0_0) := (bkC BK795.out 0).trans rfl;have hcz68_1 : w66.cell? ⟨gb795,1,none⟩ = some (.int .i64 a0_1) := (bkC BK795.out 1).trans rfl;have hfz68_0 := bkF BK795.out 0;have hfz68_1 := bkF BK795.out 1)|((with_reducible refine gate_callee (f := 37) rfl ?_);refine goesL_ (some 11) rfl rfl Try.func37 (by kernel_rfl) rfl #[.agg #[.slice A0_0 l0_0.length c0_0,.int .i64 a0_1]] rfl (by (try simp only [List.map_toArray,List.map_cons,List.map_nil]);first|done|rfl|(simp only [List.length_drop,List.length_take];rfl)) ?_;(with_reducible refine (impl_ValidGraph.calls k _ _ l0_0 a0_1 false _ ?side1 ?side2 A2.out).mono ?_);(case side1 => repeat (first|exact (Kd.C_below HR0_0.out HB.out)|(with_reducible refine Kd.C_alloc ?_ _)|(with_reducible refine Kd.C_drewN ?_ _)|(with_reducible refine Kd.C_drew ?_)));(case side2 => exact HC0_0.out);rintro e w69 ⟨rfl,hb⟩;refine ⟨_,rfl,?_⟩;have n0_ := As_ (blk_below (g := gb795) (o := .cells #[.slice A0_0 l0_0.length c0_0,.int .i64 a0_1] 25 (0,0)) (by (with_reducible repeat (first|refine bkN ?_ _|refine bkD ?_|refine bkA ?_ _));exact BK795.out) hb);have n1_ := As_ (blk_below (g := gb796) (o := .cells #[.slice none 0 0,.int .i64 0] 25 (0,0)) (by (with_reducible repeat (first|refine bkN ?_ _|refine bkD ?_|refine bkA ?_ _));exact BK796.out) hb);have n2_ := As_ (bwT (by repeat (first|(with_reducible first|exact HB.out|apply bwA|apply bwN|apply bwD|refine bwS ?_ GE795.out|refine bwS ?_ GE796.out)|exact HB.out)) hb);clear BK795;clear BK796;clear HB;have BK795 := n0_;have BK796 := n1_;have HB := n2_;clear n0_ n1_ n2_;(try clear hb);(try clear hb2);(try clear hk);(try clear hi);have hcz70_0 : w69.cell? ⟨gb796,0,none⟩ = some (.slice none 0 0) := (bkC BK796.out 0).trans rfl;have hcz70_1 : w69.cell? ⟨gb796,1,none⟩ = some (.int .i64 0) := (bkC BK796.out 1).trans rfl;have hfz70_0 := bkF BK796.out 0;have hfz70_1 := bkF BK796.out 1))
  refine bodyPost_ret (results_cell_row rfl _ _ gb796 25 #[.slice none 0 0,.int .i64 0] (0,0) _ rfl (by (with_reducible repeat (first|refine bkN ?_ _|refine bkD ?_|refine bkA ?_ _));refine blk_put (cs := #[.slice none 0 0,.int .i64 0]) ?_ 1 _ rfl;(with_reducible repeat (first|refine bkN ?_ _|refine bkD ?_|refine bkA ?_ _));refine blk_put (cs := #[.slice none 0 0,.int .i64 0]) ?_ 0 _ rfl;(with_reducible repeat (first|refine bkN ?_ _|refine bkD ?_|refine bkA ?_ _));exact BK796.out) Try.underlying25 rfl (by kernel_rfl)) rfl ?_
  exact ⟨_,by first|rfl|(simp [errW_none,errW_some] <;> rfl)|(simp [*,errW_none,errW_some] <;> rfl),by first|exact Kd.S_nil _ _ _ _ _|exact Kd.N_nil _ _ _ _ _|exact Kd.V_nil _ _ _ _ _|exact Kd.Q_nil _ _ _ _ _|exact Kd.R_nil _ _ _ _ _,by repeat (first|(with_reducible first|exact HB.out|apply bwA|apply bwN|apply bwD|refine bwS ?_ GE795.out|refine bwS ?_ GE796.out)|exact HB.out)⟩

end Go.Proofs.Ytapaegcombfafaa.Q
