-- Written by wip/tools/qprint.py (a program of this claim's author) by means of the kit's printer.
import Derived.Test.YtfhakhbmbnbneaaQ0
import Derived.Test.YtfhakhbmbnbneaaQ48
import Derived.Test.YtfhakhbmbnbneaaQ77
import Derived.Test.YtfhakhbmbnbneaaQ81
namespace Go.Proofs.Ytfhakhbmbnbneaa.Q
open Go.RowKit Go.Proofs.YtfhakhbmbnbneaaW.PrintWords Go.Proofs.YtfhakhbmbnbneaaW.PrintLast Go.Proofs.YtfhakhbmbnbneaaW.PrintMore
attribute [local go_sem] max2_int min2_int max_two min_two max_three min_three max_four min_four   -- for this text's walks alone
set_option linter.unusedVariables false
set_option linter.unusedSimpArgs false

/-! ### spec_ShallowCopy: function 45 -/
def spec_ShallowCopy.j0 : Nat → Bool → List (S45) → Int → Option ((List (S45)) × Int)
 | 0,_,_,_ => none
 | k + 1,x13,x897000,x897001 => if x13 = true then (some (([] : List (S45)),0)) else ((spec_copyGraph.f k x897000 x897001).bind fun bt899 => (if 0 ≤ x897001 then (if x897001 < (x897000.length : Int) then ((spec_copyInts.f ((rd_T45 x897000 x897001).f2)).bind fun t906 => (if bt899.1.length < 3518437208883 then (some ((bt899.1 ++ [(⟨(rd_T45 x897000 x897001).f0,(rd_T45 x897000 x897001).f1,t906⟩ : S45)]),(x897000.length : Int))) else (none))) else (none)) else (none)))
def spec_ShallowCopy.f (k : Nat) (l0_0 : List (S45)) (a0_1 : Int) : Option ((List (S45)) × Int) := (spec_validGraph.f k l0_0 a0_1).bind fun t898 => (if t898 = true then (spec_ShallowCopy.j0 k ((l0_0.length : Int) == 12) l0_0 a0_1) else (spec_ShallowCopy.j0 k true l0_0 a0_1))
set_option maxRecDepth 100000 in
theorem spec_ShallowCopy.mono_l : ∀ k,(∀ y0 y1 y2,LeO (spec_ShallowCopy.j0 k y0 y1 y2) (spec_ShallowCopy.j0 (k + 1) y0 y1 y2))
 | 0 => fun _ _ _ r h => (by cases h)
 | k + 1 => by
  have ih0 := spec_ShallowCopy.mono_l k
  ·intro y0 y1 y2
   unfold spec_ShallowCopy.j0
   repeat' first
   | (with_reducible exact ih0 _ _ _)
   | (with_reducible exact spec_copyGraph.mono _ _ _)
   | (with_reducible exact spec_validGraph.mono _ _ _)
   | (with_reducible exact LeO.refl _)
   | (with_reducible exact LeO.none _)
   | (with_reducible refine LeO.ite ?_ ?_)
   | (with_reducible refine LeO.bind ?_ (fun _ => ?_))
   | exact ih0 _ _ _
   | exact spec_copyGraph.mono _ _ _
   | exact spec_validGraph.mono _ _ _
   | exact LeO.none _
   | refine LeO.ite ?_ ?_
   | refine LeO.bind ?_ (fun _ => ?_)
set_option maxRecDepth 100000 in
theorem spec_ShallowCopy.mono : ∀ a0 a1 k,LeO (spec_ShallowCopy.f k a0 a1) (spec_ShallowCopy.f (k + 1) a0 a1) := by
 intro a0 a1 k
 have ih0 := spec_ShallowCopy.mono_l k
 unfold spec_ShallowCopy.f
 repeat' first
   | (with_reducible exact ih0 _ _ _)
   | (with_reducible exact spec_copyGraph.mono _ _ _)
   | (with_reducible exact spec_validGraph.mono _ _ _)
   | (with_reducible exact LeO.refl _)
   | (with_reducible exact LeO.none _)
   | (with_reducible refine LeO.ite ?_ ?_)
   | (with_reducible refine LeO.bind ?_ (fun _ => ?_))
   | exact ih0 _ _ _
   | exact spec_copyGraph.mono _ _ _
   | exact spec_validGraph.mono _ _ _
   | exact LeO.none _
   | refine LeO.ite ?_ ?_
   | refine LeO.bind ?_ (fun _ => ?_)
def spec_ShallowCopy.T5 : Bool × List (List Nat × List Nat) := (true,[([],[]),([0],[0]),([],[]),([2],[2]),([],[]),([4],[4]),([],[]),([6],[6]),([7],[7]),([3,5,8],[3,5,8]),([9],[9]),([1,10,8],[1,10]),([0,1,2,3,4,5,6,7,8,9,10,11],[]),([12,11,11,0,1,2,3,4,5,6,7,8,9,10,11],[11,12])])
def spec_ShallowCopy.B5 : List Nat := [0,1,0,4,0,16,0,64,192,508,1020,2047,4095,8191]
theorem spec_ShallowCopy.tab5 : rtab .any (opsOf Try.f45 5) = spec_ShallowCopy.T5 := by kernel_rfl
theorem spec_ShallowCopy.bits5 : waitsOk spec_ShallowCopy.T5.2 spec_ShallowCopy.B5 = true := by kernel_rfl
set_option maxHeartbeats 8000000 in
set_option maxRecDepth 100000 in
theorem spec_ShallowCopy.calls (k : Nat) (A0_0 : Option Addr) (c0_0 : Nat) (l0_0 : List (S45)) (a0_1 : Int) (r1 : List (S45)) (r2 : Int) (w : World) (hr0_0 : Kd.C k45 w A0_0 l0_0.length l0_0) (hc0_0 : l0_0.length ≤ c0_0) (h : spec_ShallowCopy.f k l0_0 a0_1 = some (r1,r2)) :
  Calls Try.prog 45 #[.agg #[.slice A0_0 l0_0.length c0_0,.int .i64 a0_1]] w fun e w' => ∃ v0_ : Value,e = .returned (.agg #[v0_,.int .i64 r2]) ∧ Kd.S k45 45 w' w.heap.size (fun _ => True) v0_ r1 ∧ Below w.heap.size w w' := by
 have hu29 := Try.underlying29
 have hu45 := Try.underlying45
 have HR0_0 := As_ hr0_0
 have HC0_0 := As_ hc0_0
 clear hr0_0 hc0_0
 have HB := As_ (Below.refl w.heap.size w)
 have H : ((spec_validGraph.f k l0_0 a0_1).bind fun t898 => (if t898 = true then (spec_ShallowCopy.j0 k ((l0_0.length : Int) == 12) l0_0 a0_1) else (spec_ShallowCopy.j0 k true l0_0 a0_1))) = some (r1,r2) := h
 clear h
 have HC2 := As_ H
 clear H
 go_enter Try.func45,Try.ntmps45
 go_upto_region 1 with (first|((with_reducible refine gate_dst (N := 1) rfl ?_);(try (refine gate_guard (by rfl) ?_;dsimp only));refine box_event ?hg (N := 1) ?hd (cs := #[.slice A0_0 l0_0.length c0_0,.int .i64 a0_1]) (t := 29) ?hr ?_;(case hd => rfl);(case hg => rfl);(case hr => go_simp <;> rfl);intro gb896 hg w3 hbox hb;have n0_ := As_ (bwT (by repeat (first|(with_reducible first|exact HB.out|apply bwA|apply bwN|apply bwD)|exact HB.out)) hb);have n1_ := As_ (hbox);have n2_ := As_ ((by rw [hg];exact (bwZ (by repeat (first|(with_reducible first|exact HB.out|apply bwA|apply bwN|apply bwD)|exact HB.out))) : w.heap.size ≤ gb896));have n3_ := As_ ((by rw [hg];exact (bwZ (by repeat (first|(with_reducible first|exact HB.out|apply bwA|apply bwN|apply bwD)|exact HB.out))) : w.heap.size ≤ gb896));clear HB;have HB := n0_;have BK896 := n1_;have GW896 := n2_;have GE896 := n3_;clear n0_ n1_ n2_ n3_;clear hb hbox hg)|((with_reducible refine gate_dst (N := 2) rfl ?_);(try (refine gate_guard (by rfl) ?_;dsimp only));refine box_event ?hg (N := 2) ?hd (cs := #[.slice none 0 0,.int .i64 0]) (t := 29) ?hr ?_;(case hd => rfl);(case hg => rfl);(case hr => go_simp <;> rfl);intro gb897 hg w4 hbox hb;have n0_ := As_ (blk_below (g := gb896) (o := .cells #[.slice A0_0 l0_0.length c0_0,.int .i64 a0_1] 29 (0,0)) (by (with_reducible repeat (first|refine bkN ?_ _|refine bkD ?_|refine bkA ?_ _));exact BK896.out) hb);have n1_ := As_ (bwT (by repeat (first|(with_reducible first|exact HB.out|apply bwA|apply bwN|apply bwD|refine bwS ?_ GE896.out)|exact HB.out)) hb);have n2_ := As_ (hbox);have n3_ := As_ ((by rw [hg];exact (bwZ (by repeat (first|(with_reducible first|exact HB.out|apply bwA|apply bwN|apply bwD|refine bwS ?_ GE896.out)|exact HB.out))) : w.heap.size ≤ gb897));have n4_ := As_ ((by rw [hg];exact (bwZ (by repeat (first|(with_reducible first|exact HB.out|apply bwA|apply bwN|apply bwD|refine bwS ?_ GE896.out)|exact HB.out))) : w.heap.size ≤ gb897));have n5_ := As_ ((by rw [hg];exact Nat.ne_of_lt (blk_lt (g := gb896) (o := .cells #[.slice A0_0 l0_0.length c0_0,.int .i64 a0_1] 29 (0,0)) (by (with_reducible repeat (first|refine bkN ?_ _|refine bkD ?_|refine bkA ?_ _));exact BK896.out)) : gb896 ≠ gb897));have n6_ := As_ ((by rw [hg];exact Nat.ne_of_gt (blk_lt (g := gb896) (o := .cells #[.slice A0_0 l0_0.length c0_0,.int .i64 a0_1] 29 (0,0)) (by (with_reducible repeat (first|refine bkN ?_ _|refine bkD ?_|refine bkA ?_ _));exact BK896.out)) : gb897 ≠ gb896));clear BK896;clear HB;have BK896 := n0_;have HB := n1_;have BK897 := n2_;have GW897 := n3_;have GE897 := n4_;have NB896_897 := n5_;have NB897_896 := n6_;clear n0_ n1_ n2_ n3_ n4_ n5_ n6_;clear hb hbox hg))
 (try simp only [Act.put,List.setIfInBounds_toArray,List.set_cons_zero,List.set_cons_succ])
 go_cut [13] (fun v13 wc => ∃ (kq : Nat) (x13_1 : Bool),v13 = .bool x13_1 ∧ Aside0 (spec_ShallowCopy.j0 kq x13_1 l0_0 a0_1 = some (r1,r2)) ∧ Aside0 (kq ≤ k) ∧ Aside0 (wc.heap[gb896]? = some (.cells #[(.slice A0_0 l0_0.length c0_0),.int .i64 a0_1] 29 (0,0))) ∧ Aside0 (wc.heap[gb897]? = some (.cells #[(.slice none 0 0),.int .i64 0] 29 (0,0))) ∧ Aside0 (Below w.heap.size w wc))
 case first =>
  have H := HC2.out
  clear HC2
  replace H := obS H
  obtain ⟨t898,A50,H⟩ := H
  replace H : (if t898 = true then (spec_ShallowCopy.j0 k ((l0_0.length : Int) == 12) l0_0 a0_1) else (spec_ShallowCopy.j0 k true l0_0 a0_1)) = some (r1,r2) := H
  have A5 := As_ A50
  clear A50
  by_cases c6 : t898 = true
  ·subst c6
   have H1 : (spec_ShallowCopy.j0 k ((l0_0.length : Int) == 12) l0_0 a0_1) = some (r1,r2) := by rw [if_pos rfl] at H;exact H
   clear H
   have H := H1
   clear H1
   have H' := As_ H
   clear H
   have hnb7 := NB896_897.out
   have hnc7 := NB897_896.out
   have hcz8_0 : w4.cell? ⟨gb896,0,none⟩ = some (.slice A0_0 l0_0.length c0_0) := (bkC BK896.out 0).trans rfl
   have hcz8_1 : w4.cell? ⟨gb896,1,none⟩ = some (.int .i64 a0_1) := (bkC BK896.out 1).trans rfl
   have hfz8_0 := bkF BK896.out 0
   have hfz8_1 := bkF BK896.out 1
   go_wp2_with (first|((with_reducible refine gate_callee (f := 48) rfl ?_);refine goesL_ (some 6) rfl rfl Try.func48 (by kernel_rfl) rfl #[.agg #[.slice A0_0 l0_0.length c0_0,.int .i64 a0_1]] rfl (by (try simp only [List.map_toArray,List.map_cons,List.map_nil]);first|done|rfl|(simp only [List.length_drop,List.length_take];rfl)) ?_;(with_reducible refine (spec_validGraph.calls k _ _ l0_0 a0_1 true _ ?side1 ?side2 A5.out).mono ?_);(case side1 => repeat (first|exact (Kd.C_below HR0_0.out HB.out)|(with_reducible refine Kd.C_alloc ?_ _)|(with_reducible refine Kd.C_drewN ?_ _)|(with_reducible refine Kd.C_drew ?_)));(case side2 => exact HC0_0.out);rintro e w9 ⟨rfl,hb⟩;refine ⟨_,rfl,?_⟩;have n0_ := As_ (blk_below (g := gb896) (o := .cells #[.slice A0_0 l0_0.length c0_0,.int .i64 a0_1] 29 (0,0)) (by (with_reducible repeat (first|refine bkN ?_ _|refine bkD ?_|refine bkA ?_ _));exact BK896.out) hb);have n1_ := As_ (blk_below (g := gb897) (o := .cells #[.slice none 0 0,.int .i64 0] 29 (0,0)) (by (with_reducible repeat (first|refine bkN ?_ _|refine bkD ?_|refine bkA ?_ _));exact BK897.out) hb);have n2_ := As_ (bwT (by repeat (first|(with_reducible first|exact HB.out|apply bwA|apply bwN|apply bwD|refine bwS ?_ GE896.out|refine bwS ?_ GE897.out)|exact HB.out)) hb);clear BK896;clear BK897;clear HB;have BK896 := n0_;have BK897 := n1_;have HB := n2_;clear n0_ n1_ n2_;(try clear hb);(try clear hb2);(try clear hk);(try clear hi);have hcz10_0 : w9.cell? ⟨gb896,0,none⟩ = some (.slice A0_0 l0_0.length c0_0) := (bkC BK896.out 0).trans rfl;have hcz10_1 : w9.cell? ⟨gb896,1,none⟩ = some (.int .i64 a0_1) := (bkC BK896.out 1).trans rfl;have hfz10_0 := bkF BK896.out 0;have hfz10_1 := bkF BK896.out 1))
   go_meet
   case rel => exact ⟨_,(((l0_0.length : Int) == 12)),(by first|rfl|(simp;done)|(simp [*];done)),H',⟨by first|omega|exact Nat.le_refl _⟩,⟨by (with_reducible repeat (first|refine bkN ?_ _|refine bkD ?_|refine bkA ?_ _));exact BK896.out⟩,⟨by (with_reducible repeat (first|refine bkN ?_ _|refine bkD ?_|refine bkA ?_ _));exact BK897.out⟩,⟨by repeat (first|(with_reducible first|exact HB.out|apply bwA|apply bwN|apply bwD|refine bwS ?_ GE896.out|refine bwS ?_ GE897.out)|exact HB.out)⟩⟩
  ·replace c6 := Bool.eq_false_iff.mpr c6
   subst c6
   have H1 : (spec_ShallowCopy.j0 k true l0_0 a0_1) = some (r1,r2) := by rw [if_neg (show ¬ (false = true) by decide)] at H;exact H
   clear H
   have H := H1
   clear H1
   have H' := As_ H
   clear H
   have hnb11 := NB896_897.out
   have hnc11 := NB897_896.out
   have hcz12_0 : w4.cell? ⟨gb896,0,none⟩ = some (.slice A0_0 l0_0.length c0_0) := (bkC BK896.out 0).trans rfl
   have hcz12_1 : w4.cell? ⟨gb896,1,none⟩ = some (.int .i64 a0_1) := (bkC BK896.out 1).trans rfl
   have hfz12_0 := bkF BK896.out 0
   have hfz12_1 := bkF BK896.out 1
   go_wp2_with (first|((with_reducible refine gate_callee (f := 48) rfl ?_);refine goesL_ (some 6) rfl rfl Try.func48 (by kernel_rfl) rfl #[.agg #[.slice A0_0 l0_0.length c0_0,.int .i64 a0_1]] rfl (by (try simp only [List.map_toArray,List.map_cons,List.map_nil]);first|done|rfl|(simp only [List.length_drop,List.length_take];rfl)) ?_;(with_reducible refine (spec_validGraph.calls k _ _ l0_0 a0_1 false _ ?side1 ?side2 A5.out).mono ?_);(case side1 => repeat (first|exact (Kd.C_below HR0_0.out HB.out)|(with_reducible refine Kd.C_alloc ?_ _)|(with_reducible refine Kd.C_drewN ?_ _)|(with_reducible refine Kd.C_drew ?_)));(case side2 => exact HC0_0.out);rintro e w13 ⟨rfl,hb⟩;refine ⟨_,rfl,?_⟩;have n0_ := As_ (blk_below (g := gb896) (o := .cells #[.slice A0_0 l0_0.length c0_0,.int .i64 a0_1] 29 (0,0)) (by (with_reducible repeat (first|refine bkN ?_ _|refine bkD ?_|refine bkA ?_ _));exact BK896.out) hb);have n1_ := As_ (blk_below (g := gb897) (o := .cells #[.slice none 0 0,.int .i64 0] 29 (0,0)) (by (with_reducible repeat (first|refine bkN ?_ _|refine bkD ?_|refine bkA ?_ _));exact BK897.out) hb);have n2_ := As_ (bwT (by repeat (first|(with_reducible first|exact HB.out|apply bwA|apply bwN|apply bwD|refine bwS ?_ GE896.out|refine bwS ?_ GE897.out)|exact HB.out)) hb);clear BK896;clear BK897;clear HB;have BK896 := n0_;have BK897 := n1_;have HB := n2_;clear n0_ n1_ n2_;(try clear hb);(try clear hb2);(try clear hk);(try clear hi)))
   go_meet
   case rel => exact ⟨_,(true),(by first|rfl|(simp;done)|(simp [*];done)),H',⟨by first|omega|exact Nat.le_refl _⟩,⟨by (with_reducible repeat (first|refine bkN ?_ _|refine bkD ?_|refine bkA ?_ _));exact BK896.out⟩,⟨by (with_reducible repeat (first|refine bkN ?_ _|refine bkD ?_|refine bkA ?_ _));exact BK897.out⟩,⟨by repeat (first|(with_reducible first|exact HB.out|apply bwA|apply bwN|apply bwD|refine bwS ?_ GE896.out|refine bwS ?_ GE897.out)|exact HB.out)⟩⟩
 case rest =>
  clear HC2
  try clear c1
  try clear p2
  try clear c4
  try clear c6
  try clear c7
  try clear c11
  try clear hcz10_0
  try clear hcz10_1
  try clear hcz12_0
  try clear hcz12_1
  try clear hcz8_0
  try clear hcz8_1
  try clear hfz10_0
  try clear hfz10_1
  try clear hfz12_0
  try clear hfz12_1
  try clear hfz8_0
  try clear hfz8_1
  obtain ⟨kq,x13_1,rfl,HA,HJ1,BK896,BK897,HB⟩ := hcut
  cases kq with
  | zero => exact absurd HA.out (fun h_ => (by cases h_))
  | succ kj1 =>
   have H := HA.out
   clear HA
   simp only [spec_ShallowCopy.j0] at H
   by_cases c14 : x13_1 = true
   ·subst c14
    have H1 : (some (([] : List (S45)),0)) = some (r1,r2) := by rw [if_pos rfl] at H;exact H
    clear H
    have H := H1
    clear H1
    simp only [Option.some.injEq,Prod.mk.injEq] at H
    obtain ⟨rfl,rfl⟩ := H
    have hnb15 := NB897_896.out
    have hnc15 := NB896_897.out
    have hcz16_0 : wc.cell? ⟨gb897,0,none⟩ = some (.slice none 0 0) := (bkC BK897.out 0).trans rfl
    have hcz16_1 : wc.cell? ⟨gb897,1,none⟩ = some (.int .i64 0) := (bkC BK897.out 1).trans rfl
    have hfz16_0 := bkF BK897.out 0
    have hfz16_1 := bkF BK897.out 1
    go_wp2
    refine bodyPost_ret (results_cell_row rfl _ _ gb897 29 #[.slice none 0 0,.int .i64 0] (0,0) _ rfl (by (with_reducible repeat (first|refine bkN ?_ _|refine bkD ?_|refine bkA ?_ _));refine blk_put (cs := #[.slice none 0 0,.int .i64 0]) ?_ 1 _ rfl;(with_reducible repeat (first|refine bkN ?_ _|refine bkD ?_|refine bkA ?_ _));refine blk_put (cs := #[.slice none 0 0,.int .i64 0]) ?_ 0 _ rfl;(with_reducible repeat (first|refine bkN ?_ _|refine bkD ?_|refine bkA ?_ _));exact BK897.out) Try.underlying29 rfl (by kernel_rfl)) rfl ?_
    exact ⟨_,by first|rfl|(simp [errW_none,errW_some] <;> rfl)|(simp [*,errW_none,errW_some] <;> rfl),by first|exact Kd.S_nil _ _ _ _ _|exact Kd.N_nil _ _ _ _ _|exact Kd.V_nil _ _ _ _ _|exact Kd.Q_nil _ _ _ _ _|exact Kd.R_nil _ _ _ _ _,by repeat (first|(with_reducible first|exact HB.out|apply bwA|apply bwN|apply bwD|refine bwS ?_ GE896.out|refine bwS ?_ GE897.out)|exact HB.out)⟩
   ·replace c14 := Bool.eq_false_iff.mpr c14
    subst c14
    have H1 : ((spec_copyGraph.f kj1 l0_0 a0_1).bind fun bt899 => (if 0 ≤ a0_1 then (if a0_1 < (l0_0.length : Int) then ((spec_copyInts.f ((rd_T45 l0_0 a0_1).f2)).bind fun t906 => (if bt899.1.length < 3518437208883 then (some ((bt899.1 ++ [(⟨(rd_T45 l0_0 a0_1).f0,(rd_T45 l0_0 a0_1).f1,t906⟩ : S45)]),(l0_0.length : Int))) else (none))) else (none)) else (none))) = some (r1,r2) := by rw [if_neg (show ¬ (false = true) by decide)] at H;exact H
    clear H
    have H := H1
    clear H1
    replace H := obS H
    obtain ⟨⟨t899,t902⟩,A170,H⟩ := H
    replace H : (if 0 ≤ a0_1 then (if a0_1 < (l0_0.length : Int) then ((spec_copyInts.f ((rd_T45 l0_0 a0_1).f2)).bind fun t906 => (if t899.length < 3518437208883 then (some ((t899 ++ [(⟨(rd_T45 l0_0 a0_1).f0,(rd_T45 l0_0 a0_1).f1,t906⟩ : S45)]),(l0_0.length : Int))) else (none))) else (none)) else (none)) = some (r1,r2) := H
    have A17 := As_ A170
    clear A170
    by_cases c18 : 0 ≤ a0_1
    rotate_left
    ·rw [if_neg c18] at H
     exact absurd H (by simp)
    rw [if_pos c18] at H
    have c18b0 : decide (0 ≤ a0_1) = true := deT c18
    clear c18
    by_cases c19 : a0_1 < (l0_0.length : Int)
    rotate_left
    ·rw [if_neg c19] at H
     exact absurd H (by simp)
    rw [if_pos c19] at H
    have c19b0 : decide (a0_1 < (l0_0.length : Int)) = true := deT c19
    clear c19
    replace H := obS H
    obtain ⟨t906,A200,H⟩ := H
    replace H : (if t899.length < 3518437208883 then (some ((t899 ++ [(⟨(rd_T45 l0_0 a0_1).f0,(rd_T45 l0_0 a0_1).f1,t906⟩ : S45)]),(l0_0.length : Int))) else (none)) = some (r1,r2) := H
    have A20 := As_ A200
    clear A200
    by_cases c21 : t899.length < 3518437208883
    rotate_left
    ·rw [if_neg c21] at H
     exact absurd H (by simp)
    rw [if_pos c21] at H
    have LMc21 := As_ c21
    clear c21
    obtain ⟨y909,hy909⟩ : ∃ y_ : List (S45),y_ = (t899 ++ [(⟨(rd_T45 l0_0 a0_1).f0,(rd_T45 l0_0 a0_1).f1,t906⟩ : S45)]) := ⟨_,rfl⟩
    replace H : (some (y909,(l0_0.length : Int))) = some (r1,r2) := by first|(rw [hy909];with_reducible exact H)|(have H2_ := (Option.bind_some _ _).symm.trans H;rw [hy909];with_reducible exact H2_)|(have H2_ := (Option.bind_some _ _).symm.trans H;with_reducible exact H2_)|with_reducible exact H|(rw [hy909];exact H)|exact H
    have Ny909 := As_ hy909
    clear hy909
    simp only [Option.some.injEq,Prod.mk.injEq] at H
    obtain ⟨rfl,rfl⟩ := H
    have hnb22 := NB896_897.out
    have hnc22 := NB897_896.out
    have hcz23_0 : wc.cell? ⟨gb896,0,none⟩ = some (.slice A0_0 l0_0.length c0_0) := (bkC BK896.out 0).trans rfl
    have hcz23_1 : wc.cell? ⟨gb896,1,none⟩ = some (.int .i64 a0_1) := (bkC BK896.out 1).trans rfl
    have hfz23_0 := bkF BK896.out 0
    have hfz23_1 := bkF BK896.out 1
    try go_wp2_with (first|((with_reducible refine gate_callee (f := 77) rfl ?_);refine goesL_ (some 16) rfl rfl Try.func77 (by kernel_rfl) rfl #[.agg #[.slice A0_0 l0_0.length c0_0,.int .i64 a0_1]] rfl (by (try simp only [List.map_toArray,List.map_cons,List.map_nil]);first|done|rfl|(simp only [List.length_drop,List.length_take];rfl)) ?_;(with_reducible refine (spec_copyGraph.calls kj1 _ _ l0_0 a0_1 t899 t902 _ ?side1 ?side2 A17.out).mono ?_);(case side1 => repeat (first|exact (Kd.C_below HR0_0.out HB.out)|(with_reducible refine Kd.C_alloc ?_ _)|(with_reducible refine Kd.C_drewN ?_ _)|(with_reducible refine Kd.C_drew ?_)));(case side2 => exact HC0_0.out);rintro e w24 ⟨v900,rfl,ho0,hb⟩;refine ⟨_,rfl,?_⟩;have n0_ := As_ (Kd.S_lower ho0 (bwZ (by repeat (first|(with_reducible first|exact HB.out|apply bwA|apply bwN|apply bwD|refine bwS ?_ GE896.out|refine bwS ?_ GE897.out)|exact HB.out))));have n1_ := As_ (blk_below (g := gb896) (o := .cells #[.slice A0_0 l0_0.length c0_0,.int .i64 a0_1] 29 (0,0)) (by (with_reducible repeat (first|refine bkN ?_ _|refine bkD ?_|refine bkA ?_ _));exact BK896.out) hb);have n2_ := As_ (blk_below (g := gb897) (o := .cells #[.slice none 0 0,.int .i64 0] 29 (0,0)) (by (with_reducible repeat (first|refine bkN ?_ _|refine bkD ?_|refine bkA ?_ _));exact BK897.out) hb);have n3_ := As_ (bwT (by repeat (first|(with_reducible first|exact HB.out|apply bwA|apply bwN|apply bwD|refine bwS ?_ GE896.out|refine bwS ?_ GE897.out)|exact HB.out)) hb);clear BK896;clear BK897;clear HB;have HO901 := n0_;have BK896 := n1_;have BK897 := n2_;have HB := n3_;clear n0_ n1_ n2_ n3_;(try clear hb);(try clear hb2);(try clear hk);(try clear hi);(try clear ho0))|((with_reducible refine gate_dst (N := 3) rfl ?_);(try (refine gate_guard (by rfl) ?_;dsimp only));refine box_event ?hg (N := 3) ?hd (cs := #[.slice none 0 0,.int .i64 0]) (t := 29) ?hr ?_;(case hd => rfl);(case hg => rfl);(case hr => go_simp <;> rfl);intro gb903 hg w25 hbox hb;have n0_ := As_ (Kd.S_below (by (with_reducible repeat (first|apply Kd.S_alloc|apply Kd.S_drewN|apply Kd.S_drew));exact HO901.out) hb);have n1_ := As_ (blk_below (g := gb896) (o := .cells #[.slice A0_0 l0_0.length c0_0,.int .i64 a0_1] 29 (0,0)) (by (with_reducible repeat (first|refine bkN ?_ _|refine bkD ?_|refine bkA ?_ _));exact BK896.out) hb);have n2_ := As_ (blk_below (g := gb897) (o := .cells #[.slice none 0 0,.int .i64 0] 29 (0,0)) (by (with_reducible repeat (first|refine bkN ?_ _|refine bkD ?_|refine bkA ?_ _));exact BK897.out) hb);have n3_ := As_ (bwT (by repeat (first|(with_reducible first|exact HB.out|apply bwA|apply bwN|apply bwD|refine bwS ?_ GE896.out|refine bwS ?_ GE897.out)|exact HB.out)) hb);have n4_ := As_ (hbox);have n5_ := As_ ((by rw [hg];exact (bwZ (by repeat (first|(with_reducible first|exact HB.out|apply bwA|apply bwN|apply bwD|refine bwS ?_ GE896.out|refine bwS ?_ GE897.out)|exact HB.out))) : w.heap.size ≤ gb903));have n6_ := As_ ((by rw [hg];exact (bwZ (by repeat (first|(with_reducible first|exact HB.out|apply bwA|apply bwN|apply bwD|refine bwS ?_ GE896.out|refine bwS ?_ GE897.out)|exact HB.out))) : w.heap.size ≤ gb903));have n7_ := As_ ((by rw [hg];exact Nat.ne_of_lt (blk_lt (g := gb896) (o := .cells #[.slice A0_0 l0_0.length c0_0,.int .i64 a0_1] 29 (0,0)) (by (with_reducible repeat (first|refine bkN ?_ _|refine bkD ?_|refine bkA ?_ _));exact BK896.out)) : gb896 ≠ gb903));have n8_ := As_ ((by rw [hg];exact Nat.ne_of_gt (blk_lt (g := gb896) (o := .cells #[.slice A0_0 l0_0.length c0_0,.int .i64 a0_1] 29 (0,0)) (by (with_reducible repeat (first|refine bkN ?_ _|refine bkD ?_|refine bkA ?_ _));exact BK896.out)) : gb903 ≠ gb896));have n9_ := As_ ((by rw [hg];exact Nat.ne_of_lt (blk_lt (g := gb897) (o := .cells #[.slice none 0 0,.int .i64 0] 29 (0,0)) (by (with_reducible repeat (first|refine bkN ?_ _|refine bkD ?_|refine bkA ?_ _));exact BK897.out)) : gb897 ≠ gb903));have n10_ := As_ ((by rw [hg];exact Nat.ne_of_gt (blk_lt (g := gb897) (o := .cells #[.slice none 0 0,.int .i64 0] 29 (0,0)) (by (with_reducible repeat (first|refine bkN ?_ _|refine bkD ?_|refine bkA ?_ _));exact BK897.out)) : gb903 ≠ gb897));clear HO901;clear BK896;clear BK897;clear HB;have HO901 := n0_;have BK896 := n1_;have BK897 := n2_;have HB := n3_;have BK903 := n4_;have GW903 := n5_;have GE903 := n6_;have NB896_903 := n7_;have NB903_896 := n8_;have NB897_903 := n9_;have NB903_897 := n10_;clear n0_ n1_ n2_ n3_ n4_ n5_ n6_ n7_ n8_ n9_ n10_;clear hb hbox hg;obtain ⟨Ao26,co26,eo26⟩ := Kd.S_slice HO901.out;subst eo26;have hnb27 := NB903_896.out;have hnc27 := NB896_903.out;have hnb28 := NB903_897.out;have hnc28 := NB897_903.out;have hcz29_0 : w25.cell? ⟨gb903,0,none⟩ = some (.slice none 0 0) := (bkC BK903.out 0).trans rfl;have hcz29_1 : w25.cell? ⟨gb903,1,none⟩ = some (.int .i64 0) := (bkC BK903.out 1).trans rfl;have hfz29_0 := bkF BK903.out 0;have hfz29_1 := bkF BK903.out 1;have hcz30_0 : w25.cell? ⟨gb896,0,none⟩ = some (.slice A0_0 l0_0.length c0_0) := (bkC BK896.out 0).trans rfl;have hcz30_1 : w25.cell? ⟨gb896,1,none⟩ = some (.int .i64 a0_1) := (bkC BK896.out 1).trans rfl;have hfz30_0 := bkF BK896.out 0;have hfz30_1 := bkF BK896.out 1;have p904 : 0 ≤ (a0_1 : Int) := odT (by first|(with_reducible assumption)|assumption);have q904 : a0_1 < (l0_0.length : Int) := odT (by first|(with_reducible assumption)|assumption);obtain ⟨ad904,A904_2,c904_2,e904,hx904_0,hx904_1,hx904_2,hl904_2,hi904_2⟩ := at_T45 HR0_0.out a0_1 p904 q904;cases e904;have hn904_0 : ad904.block ≠ gb903 := Nat.ne_of_lt (Nat.lt_of_lt_of_le (by have := bwL _ _ hx904_0;first|rwa [add_block] at this|exact this) GW903.out);have hn904_1 : ad904.block ≠ gb903 := Nat.ne_of_lt (Nat.lt_of_lt_of_le (by have := bwL _ _ hx904_0;first|rwa [add_block] at this|exact this) GW903.out);replace hx904_0 := (HB.out.cell (bwL w _ hx904_0)).trans hx904_0;replace hx904_1 := (HB.out.cell (bwL w _ hx904_1)).trans hx904_1;replace hx904_2 := (HB.out.cell (bwL w _ hx904_2)).trans hx904_2;have HR904_2 := As_ hi904_2;have HC904_2 := As_ hl904_2;clear hi904_2 hl904_2;replace hx904_0 := (cell_far (p := ⟨gb903,0,none⟩) (by first|(rw [add_block];exact hn904_0)|(show (Addr.add _ _).block ≠ _;rw [add_block];exact hn904_0)|exact hn904_0) (.slice Ao26 t899.length co26)).trans hx904_0;replace hx904_1 := (cell_far (p := ⟨gb903,0,none⟩) (by first|(rw [add_block];exact hn904_0)|(show (Addr.add _ _).block ≠ _;rw [add_block];exact hn904_0)|exact hn904_0) (.slice Ao26 t899.length co26)).trans hx904_1;replace hx904_2 := (cell_far (p := ⟨gb903,0,none⟩) (by first|(rw [add_block];exact hn904_0)|(show (Addr.add _ _).block ≠ _;rw [add_block];exact hn904_0)|exact hn904_0) (.slice Ao26 t899.length co26)).trans hx904_2;replace hx904_0 := (cell_far (p := ⟨gb903,1,none⟩) (by first|(rw [add_block];exact hn904_1)|(show (Addr.add _ _).block ≠ _;rw [add_block];exact hn904_1)|exact hn904_1) (.int .i64 t902)).trans hx904_0;replace hx904_1 := (cell_far (p := ⟨gb903,1,none⟩) (by first|(rw [add_block];exact hn904_1)|(show (Addr.add _ _).block ≠ _;rw [add_block];exact hn904_1)|exact hn904_1) (.int .i64 t902)).trans hx904_1;replace hx904_2 := (cell_far (p := ⟨gb903,1,none⟩) (by first|(rw [add_block];exact hn904_1)|(show (Addr.add _ _).block ≠ _;rw [add_block];exact hn904_1)|exact hn904_1) (.int .i64 t902)).trans hx904_2;clear hn904_0;clear hn904_1;replace p904 := eq_true p904;replace q904 := eq_true q904)|((with_reducible refine gate_dst (N := 4) rfl ?_);(try (refine gate_guard (by rfl) ?_;dsimp only));refine box_event ?hg (N := 4) ?hd (cs := #[.int .i64 0,.int .i64 0,.slice none 0 0]) (t := 45) ?hr ?_;(case hd => rfl);(case hg => rfl);(case hr => go_simp <;> rfl);intro gb905 hg w31 hbox hb;have n0_ := As_ (Kd.S_below (Kd.S_elderB (by (with_reducible repeat (first|apply Kd.S_alloc|apply Kd.S_drewN|apply Kd.S_drew));exact (Kd.S_mono (Kd.S_far (p := ⟨gb903,1,none⟩) (Kd.S_far (p := ⟨gb903,0,none⟩) (Kd.S_types HO901.out BK903.out (by decide)) (fun _ hk => hk.2) (.slice Ao26 t899.length co26)) (fun _ hk => hk.2) (.int .i64 t902)) (fun _ h_ => h_.1))) gb905 (Nat.le_of_eq hg.symm)) hb);have n1_ := As_ (blk_below (g := gb896) (o := .cells #[.slice (some ad904) l0_0.length c0_0,.int .i64 a0_1] 29 (0,0)) (by (with_reducible repeat (first|refine bkN ?_ _|refine bkD ?_|refine bkA ?_ _));refine blk_far ?_ NB896_903.out _;(with_reducible repeat (first|refine bkN ?_ _|refine bkD ?_|refine bkA ?_ _));refine blk_far ?_ NB896_903.out _;(with_reducible repeat (first|refine bkN ?_ _|refine bkD ?_|refine bkA ?_ _));exact BK896.out) hb);have n2_ := As_ (blk_below (g := gb897) (o := .cells #[.slice none 0 0,.int .i64 0] 29 (0,0)) (by (with_reducible repeat (first|refine bkN ?_ _|refine bkD ?_|refine bkA ?_ _));refine blk_far ?_ NB897_903.out _;(with_reducible repeat (first|refine bkN ?_ _|refine bkD ?_|refine bkA ?_ _));refine blk_far ?_ NB897_903.out _;(with_reducible repeat (first|refine bkN ?_ _|refine bkD ?_|refine bkA ?_ _));exact BK897.out) hb);have n3_ := As_ (blk_below (g := gb903) (o := .cells #[.slice Ao26 t899.length co26,.int .i64 t902] 29 (0,0)) (by (with_reducible repeat (first|refine bkN ?_ _|refine bkD ?_|refine bkA ?_ _));refine blk_put (cs := #[.slice Ao26 t899.length co26,.int .i64 0]) ?_ 1 _ rfl;(with_reducible repeat (first|refine bkN ?_ _|refine bkD ?_|refine bkA ?_ _));refine blk_put (cs := #[.slice none 0 0,.int .i64 0]) ?_ 0 _ rfl;(with_reducible repeat (first|refine bkN ?_ _|refine bkD ?_|refine bkA ?_ _));exact BK903.out) hb);have n4_ := As_ (bwT (by repeat (first|(with_reducible first|exact HB.out|apply bwA|apply bwN|apply bwD|refine bwS ?_ GE896.out|refine bwS ?_ GE897.out|refine bwS ?_ GE903.out)|exact HB.out)) hb);have n5_ := As_ (hbox);have n6_ := As_ ((by rw [hg];exact (bwZ (by repeat (first|(with_reducible first|exact HB.out|apply bwA|apply bwN|apply bwD|refine bwS ?_ GE896.out|refine bwS ?_ GE897.out|refine bwS ?_ GE903.out)|exact HB.out))) : w.heap.size ≤ gb905));have n7_ := As_ ((by rw [hg];exact (bwZ (by repeat (first|(with_reducible first|exact HB.out|apply bwA|apply bwN|apply bwD|refine bwS ?_ GE896.out|refine bwS ?_ GE897.out|refine bwS ?_ GE903.out)|exact HB.out))) : w.heap.size ≤ gb905));have n8_ := As_ ((by rw [hg];exact Nat.ne_of_lt (blk_lt (g := gb896) (o := .cells #[.slice (some ad904) l0_0.length c0_0,.int .i64 a0_1] 29 (0,0)) (by (with_reducible repeat (first|refine bkN ?_ _|refine bkD ?_|refine bkA ?_ _));refine blk_far ?_ NB896_903.out _;(with_reducible repeat (first|refine bkN ?_ _|refine bkD ?_|refine bkA ?_ _));refine blk_far ?_ NB896_903.out _;(with_reducible repeat (first|refine bkN ?_ _|refine bkD ?_|refine bkA ?_ _));exact BK896.out)) : gb896 ≠ gb905));have n9_ := As_ ((by rw [hg];exact Nat.ne_of_gt (blk_lt (g := gb896) (o := .cells #[.slice (some ad904) l0_0.length c0_0,.int .i64 a0_1] 29 (0,0)) (by (with_reducible repeat (first|refine bkN ?_ _|refine bkD ?_|refine bkA ?_ _));refine blk_far ?_ NB896_903.out _;(with_reducible repeat (first|refine bkN ?_ _|refine bkD ?_|refine bkA ?_ _));refine blk_far ?_ NB896_903.out _;(with_reducible repeat (first|refine bkN ?_ _|refine bkD ?_|refine bkA ?_ _));exact BK896.out)) : gb905 ≠ gb896));have n10_ := As_ ((by rw [hg];exact Nat.ne_of_lt (blk_lt (g := gb897) (o := .cells #[.slice none 0 0,.int .i64 0] 29 (0,0)) (by (with_reducible repeat (first|refine bkN ?_ _|refine bkD ?_|refine bkA ?_ _));refine blk_far ?_ NB897_903.out _;(with_reducible repeat (first|refine bkN ?_ _|refine bkD ?_|refine bkA ?_ _));refine blk_far ?_ NB897_903.out _;(with_reducible repeat (first|refine bkN ?_ _|refine bkD ?_|refine bkA ?_ _));exact BK897.out)) : gb897 ≠ gb905));have n11_ := As_ ((by rw [hg];exact Nat.ne_of_gt (blk_lt (g := gb897) (o := .cells #[.slice none 0 0,.int .i64 0] 29 (0,0)) (by (with_reducible repeat (first|refine bkN ?_ _|refine bkD ?_|refine bkA ?_ _));refine blk_far ?_ NB897_903.out _;(with_reducible repeat (first|refine bkN ?_ _|refine bkD ?_|refine bkA ?_ _));refine blk_far ?_ NB897_903.out _;(with_reducible repeat (first|refine bkN ?_ _|refine bkD ?_|refine bkA ?_ _));exact BK897.out)) : gb905 ≠ gb897));have n12_ := As_ ((by rw [hg];exact Nat.ne_of_lt (blk_lt (g := gb903) (o := .cells #[.slice Ao26 t899.length co26,.int .i64 t902] 29 (0,0)) (by (with_reducible repeat (first|refine bkN ?_ _|refine bkD ?_|refine bkA ?_ _));refine blk_put (cs := #[.slice Ao26 t899.length co26,.int .i64 0]) ?_ 1 _ rfl;(with_reducible repeat (first|refine bkN ?_ _|refine bkD ?_|refine bkA ?_ _));refine blk_put (cs := #[.slice none 0 0,.int .i64 0]) ?_ 0 _ rfl;(with_reducible repeat (first|refine bkN ?_ _|refine bkD ?_|refine bkA ?_ _));exact BK903.out)) : gb903 ≠ gb905));have n13_ := As_ ((by rw [hg];exact Nat.ne_of_gt (blk_lt (g := gb903) (o := .cells #[.slice Ao26 t899.length co26,.int .i64 t902] 29 (0,0)) (by (with_reducible repeat (first|refine bkN ?_ _|refine bkD ?_|refine bkA ?_ _));refine blk_put (cs := #[.slice Ao26 t899.length co26,.int .i64 0]) ?_ 1 _ rfl;(with_reducible repeat (first|refine bkN ?_ _|refine bkD ?_|refine bkA ?_ _));refine blk_put (cs := #[.slice none 0 0,.int .i64 0]) ?_ 0 _ rfl;(with_reducible repeat (first|refine bkN ?_ _|refine bkD ?_|refine bkA ?_ _));exact BK903.out)) : gb905 ≠ gb903));clear HO901;clear BK896;clear BK897;clear BK903;clear HB;have HO901 := n0_;have BK896 := n1_;have BK897 := n2_;have BK903 := n3_;have HB := n4_;have BK905 := n5_;have GW905 := n6_;have GE905 := n7_;have NB896_905 := n8_;have NB905_896 := n9_;have NB897_905 := n10_;have NB905_897 := n11_;have NB903_905 := n12_;have NB905_903 := n13_;clear n0_ n1_ n2_ n3_ n4_ n5_ n6_ n7_ n8_ n9_ n10_ n11_ n12_ n13_;clear hb hbox hg;have hnb32 := NB905_896.out;have hnc32 := NB896_905.out;have hnb33 := NB905_897.out;have hnc33 := NB897_905.out;have hnb34 := NB905_903.out;have hnc34 := NB903_905.out;have hcz35_0 : w31.cell? ⟨gb905,0,none⟩ = some (.int .i64 0) := (bkC BK905.out 0).trans rfl;have hcz35_1 : w31.cell? ⟨gb905,1,none⟩ = some (.int .i64 0) := (bkC BK905.out 1).trans rfl;have hcz35_2 : w31.cell? ⟨gb905,2,none⟩ = some (.slice none 0 0) := (bkC BK905.out 2).trans rfl;have hfz35_0 := bkF BK905.out 0;have hfz35_1 := bkF BK905.out 1;have hfz35_2 := bkF BK905.out 2))
    have n0_ : Aside0 (Kd.S k45 45 (((w31.setCell ⟨gb905,0,none⟩ (.int .i64 ((rd_T45 l0_0 a0_1).f0))).setCell ⟨gb905,1,none⟩ (.int .i64 ((rd_T45 l0_0 a0_1).f1))).setCell ⟨gb905,2,none⟩ (.slice A904_2 ((rd_T45 l0_0 a0_1).f2).length c904_2)) w.heap.size (fun k_ => k_ ≠ gb905) (.slice Ao26 t899.length co26) t899) := ⟨by (with_reducible repeat (first|apply Kd.S_alloc|apply Kd.S_drewN|apply Kd.S_drew));exact Kd.S_mono (Kd.S_far (p := ⟨gb905,2,none⟩) (Kd.S_far (p := ⟨gb905,1,none⟩) (Kd.S_far (p := ⟨gb905,0,none⟩) (Kd.S_mono HO901.out (fun k_ hk => (⟨hk,hk.2⟩ : _ ∧ k_ ≠ gb905))) (fun _ hk => hk.2) (.int .i64 ((rd_T45 l0_0 a0_1).f0))) (fun _ hk => hk.2) (.int .i64 ((rd_T45 l0_0 a0_1).f1))) (fun _ hk => hk.2) (.slice A904_2 ((rd_T45 l0_0 a0_1).f2).length c904_2)) (fun _ hk => hk.1.2)⟩
    have n1_ : Aside0 ((((w31.setCell ⟨gb905,0,none⟩ (.int .i64 ((rd_T45 l0_0 a0_1).f0))).setCell ⟨gb905,1,none⟩ (.int .i64 ((rd_T45 l0_0 a0_1).f1))).setCell ⟨gb905,2,none⟩ (.slice A904_2 ((rd_T45 l0_0 a0_1).f2).length c904_2)).heap[gb896]? = some (.cells #[.slice (some ad904) l0_0.length c0_0,.int .i64 a0_1] 29 (0,0))) := ⟨by (with_reducible repeat (first|refine bkN ?_ _|refine bkD ?_|refine bkA ?_ _));refine blk_far ?_ NB896_905.out _;(with_reducible repeat (first|refine bkN ?_ _|refine bkD ?_|refine bkA ?_ _));refine blk_far ?_ NB896_905.out _;(with_reducible repeat (first|refine bkN ?_ _|refine bkD ?_|refine bkA ?_ _));refine blk_far ?_ NB896_905.out _;(with_reducible repeat (first|refine bkN ?_ _|refine bkD ?_|refine bkA ?_ _));exact BK896.out⟩
    have n2_ : Aside0 ((((w31.setCell ⟨gb905,0,none⟩ (.int .i64 ((rd_T45 l0_0 a0_1).f0))).setCell ⟨gb905,1,none⟩ (.int .i64 ((rd_T45 l0_0 a0_1).f1))).setCell ⟨gb905,2,none⟩ (.slice A904_2 ((rd_T45 l0_0 a0_1).f2).length c904_2)).heap[gb897]? = some (.cells #[.slice none 0 0,.int .i64 0] 29 (0,0))) := ⟨by (with_reducible repeat (first|refine bkN ?_ _|refine bkD ?_|refine bkA ?_ _));refine blk_far ?_ NB897_905.out _;(with_reducible repeat (first|refine bkN ?_ _|refine bkD ?_|refine bkA ?_ _));refine blk_far ?_ NB897_905.out _;(with_reducible repeat (first|refine bkN ?_ _|refine bkD ?_|refine bkA ?_ _));refine blk_far ?_ NB897_905.out _;(with_reducible repeat (first|refine bkN ?_ _|refine bkD ?_|refine bkA ?_ _));exact BK897.out⟩
    have n3_ : Aside0 ((((w31.setCell ⟨gb905,0,none⟩ (.int .i64 ((rd_T45 l0_0 a0_1).f0))).setCell ⟨gb905,1,none⟩ (.int .i64 ((rd_T45 l0_0 a0_1).f1))).setCell ⟨gb905,2,none⟩ (.slice A904_2 ((rd_T45 l0_0 a0_1).f2).length c904_2)).heap[gb903]? = some (.cells #[.slice Ao26 t899.length co26,.int .i64 t902] 29 (0,0))) := ⟨by (with_reducible repeat (first|refine bkN ?_ _|refine bkD ?_|refine bkA ?_ _));refine blk_far ?_ NB903_905.out _;(with_reducible repeat (first|refine bkN ?_ _|refine bkD ?_|refine bkA ?_ _));refine blk_far ?_ NB903_905.out _;(with_reducible repeat (first|refine bkN ?_ _|refine bkD ?_|refine bkA ?_ _));refine blk_far ?_ NB903_905.out _;(with_reducible repeat (first|refine bkN ?_ _|refine bkD ?_|refine bkA ?_ _));exact BK903.out⟩
    have n4_ : Aside0 ((((w31.setCell ⟨gb905,0,none⟩ (.int .i64 ((rd_T45 l0_0 a0_1).f0))).setCell ⟨gb905,1,none⟩ (.int .i64 ((rd_T45 l0_0 a0_1).f1))).setCell ⟨gb905,2,none⟩ (.slice A904_2 ((rd_T45 l0_0 a0_1).f2).length c904_2)).heap[gb905]? = some (.cells #[.int .i64 ((rd_T45 l0_0 a0_1).f0),.int .i64 ((rd_T45 l0_0 a0_1).f1),.slice A904_2 ((rd_T45 l0_0 a0_1).f2).length c904_2] 45 (0,0))) := ⟨by (with_reducible repeat (first|refine bkN ?_ _|refine bkD ?_|refine bkA ?_ _));refine blk_put (cs := #[.int .i64 ((rd_T45 l0_0 a0_1).f0),.int .i64 ((rd_T45 l0_0 a0_1).f1),.slice none 0 0]) ?_ 2 _ rfl;(with_reducible repeat (first|refine bkN ?_ _|refine bkD ?_|refine bkA ?_ _));refine blk_put (cs := #[.int .i64 ((rd_T45 l0_0 a0_1).f0),.int .i64 0,.slice none 0 0]) ?_ 1 _ rfl;(with_reducible repeat (first|refine bkN ?_ _|refine bkD ?_|refine bkA ?_ _));refine blk_put (cs := #[.int .i64 0,.int .i64 0,.slice none 0 0]) ?_ 0 _ rfl;(with_reducible repeat (first|refine bkN ?_ _|refine bkD ?_|refine bkA ?_ _));exact BK905.out⟩
    have n5_ : Aside0 (Below w.heap.size w (((w31.setCell ⟨gb905,0,none⟩ (.int .i64 ((rd_T45 l0_0 a0_1).f0))).setCell ⟨gb905,1,none⟩ (.int .i64 ((rd_T45 l0_0 a0_1).f1))).setCell ⟨gb905,2,none⟩ (.slice A904_2 ((rd_T45 l0_0 a0_1).f2).length c904_2))) := ⟨by repeat (first|(with_reducible first|exact HB.out|apply bwA|apply bwN|apply bwD|refine bwS ?_ GE896.out|refine bwS ?_ GE897.out|refine bwS ?_ GE903.out|refine bwS ?_ GE905.out)|exact HB.out)⟩
    (try clear HO901)
    (try clear BK896)
    (try clear BK897)
    (try clear BK903)
    (try clear BK905)
    (try clear HB)
    generalize (((w31.setCell ⟨gb905,0,none⟩ (.int .i64 ((rd_T45 l0_0 a0_1).f0))).setCell ⟨gb905,1,none⟩ (.int .i64 ((rd_T45 l0_0 a0_1).f1))).setCell ⟨gb905,2,none⟩ (.slice A904_2 ((rd_T45 l0_0 a0_1).f2).length c904_2)) = w36 at n0_ n1_ n2_ n3_ n4_ n5_ ⊢
    have HO901 := n0_
    have BK896 := n1_
    have BK897 := n2_
    have BK903 := n3_
    have BK905 := n4_
    have HB := n5_
    clear n0_ n1_ n2_ n3_ n4_ n5_
    have n0_ := As_ (Kd.S_drew HO901.out)
    have n1_ := As_ (bkD BK896.out)
    have n2_ := As_ (bkD BK897.out)
    have n3_ := As_ (bkD BK903.out)
    have n4_ := As_ (bkD BK905.out)
    have n5_ := As_ (bwD HB.out)
    clear HO901
    clear BK896
    clear BK897
    clear BK903
    clear BK905
    clear HB
    have HO901 := n0_
    have BK896 := n1_
    have BK897 := n2_
    have BK903 := n3_
    have BK905 := n4_
    have HB := n5_
    clear n0_ n1_ n2_ n3_ n4_ n5_
    refine start_ (n := 14) (S := fun w' => w'.cell? ⟨gb903,0,none⟩ = some (.slice Ao26 t899.length co26) ∧ w'.cell? ⟨gb903,1,none⟩ = some (.int .i64 t902) ∧ w'.cell? ⟨gb905,0,none⟩ = some (.int .i64 ((rd_T45 l0_0 a0_1).f0)) ∧ w'.cell? ⟨gb905,1,none⟩ = some (.int .i64 ((rd_T45 l0_0 a0_1).f1)) ∧ w'.cell? ⟨gb905,2,none⟩ = some (.slice A904_2 ((rd_T45 l0_0 a0_1).f2).length c904_2)) (ds := [13]) (bl_ 0 14) (by kernel_rfl) rfl rfl ⟨(bkC BK903.out 0).trans rfl,(bkC BK903.out 1).trans rfl,(bkC BK905.out 0).trans rfl,(bkC BK905.out 1).trans rfl,(bkC BK905.out 2).trans rfl⟩ (fun hHeld => ?_);refine with_tabW spec_ShallowCopy.tab5 spec_ShallowCopy.bits5 (fun HT_ HW_ => ?_)
    generalize w36.drew = w37 at HO901 BK896 BK897 BK903 BK905 HB hHeld ⊢
    refine pP 0 23 (bl_ 1 14) ?_ HT_ rfl rfl (by kernel_rfl) (fun _ _ _ h => h) (.inl ⟨by rfl,?_⟩) ?_ ?_ ?_;rotate_left;(intro w';go_simp;with_reducible rfl);rotate_left;(simp only [Act.put,sq_,i64_w,i32_w];rfl)
    refine pP 2 25 (bl_ 5 14) ?_ HT_ rfl rfl (by kernel_rfl) (fun _ _ _ h => h) (.inl ⟨by rfl,?_⟩) ?_ ?_ ?_;rotate_left;(intro w';go_simp;with_reducible rfl);rotate_left;(simp only [Act.put,sq_,i64_w,i32_w];rfl)
    refine pP 4 27 (bl_ 21 14) ?_ HT_ rfl rfl (by kernel_rfl) (fun _ _ _ h => h) (.inl ⟨by rfl,?_⟩) ?_ ?_ ?_;rotate_left;(intro w';go_simp;with_reducible rfl);rotate_left;(simp only [Act.put,sq_,i64_w,i32_w];rfl)
    refine pP 6 29 (bl_ 85 14) ?_ HT_ rfl rfl (by kernel_rfl) (fun _ _ _ h => h) (.inl ⟨by rfl,?_⟩) ?_ ?_ ?_;rotate_left;(intro w';go_simp;with_reducible rfl);rotate_left;(simp only [Act.put,sq_,i64_w,i32_w];rfl)
    refine tP 1 24 (bl_ 87 14) ?_ HT_ HW_ rfl rfl (by kernel_rfl) (fun _ _ _ h => h) (.inl ⟨by rfl,?_⟩) hHeld ?_ ?_ ?_;rotate_left;(rintro w' ⟨s0,s1,s2,s3,s4⟩;go_simp;with_reducible rfl);rotate_left;(simp only [Act.put,sq_,i64_w,i32_w];rfl)
    refine tP 3 26 (bl_ 95 14) ?_ HT_ HW_ rfl rfl (by kernel_rfl) (fun _ _ _ h => h) (.inl ⟨by rfl,?_⟩) hHeld ?_ ?_ ?_;rotate_left;(rintro w' ⟨s0,s1,s2,s3,s4⟩;go_simp;with_reducible rfl);rotate_left;(simp only [Act.put,sq_,i64_w,i32_w];rfl)
    refine tP 5 28 (bl_ 127 14) ?_ HT_ HW_ rfl rfl (by kernel_rfl) (fun _ _ _ h => h) (.inl ⟨by rfl,?_⟩) hHeld ?_ ?_ ?_;rotate_left;(rintro w' ⟨s0,s1,s2,s3,s4⟩;go_simp;with_reducible rfl);rotate_left;(simp only [Act.put,sq_,i64_w,i32_w];rfl)
    refine tP 7 30 (bl_ 255 14) ?_ HT_ HW_ rfl rfl (by kernel_rfl) (fun _ _ _ h => h) (.inl ⟨by rfl,?_⟩) hHeld ?_ ?_ ?_;rotate_left;(rintro w' ⟨s0,s1,s2,s3,s4⟩;go_simp;with_reducible rfl);rotate_left;(simp only [Act.put,sq_,i64_w,i32_w];rfl)
    refine one_ (i := 8) (N := some 31) (bl_ 511 14) rfl rfl (one_of HT_.out (by kernel_rfl)) (by decide) (fun K hK => ?_)
    refine goes_ Try.func78 (by kernel_rfl) rfl #[.slice A904_2 ((rd_T45 l0_0 a0_1).f2).length c904_2] (by rfl) rfl rfl (by (try simp only [List.map_toArray,List.map_cons,List.map_nil]);first|done|rfl|(simp only [List.length_drop,List.length_take];rfl)) ?_
    with_reducible refine (spec_copyInts.calls _ _ ((rd_T45 l0_0 a0_1).f2) t906 _ ?side1 ?side2 A20.out).mono ?_
    (case side1 => repeat (first|exact (Kd.C_below HR904_2.out HB.out)|(with_reducible refine Kd.C_alloc ?_ _)|(with_reducible refine Kd.C_drewN ?_ _)|(with_reducible refine Kd.C_drew ?_)))
    (case side2 => exact HC904_2.out)
    rintro e w38 ⟨v907,rfl,ho0,hb⟩
    refine ⟨_,rfl,?_⟩
    have n0_ := As_ (Kd.S_elder' (by (with_reducible repeat (first|apply Kd.S_alloc|apply Kd.S_drewN|apply Kd.S_drew));exact HO901.out) (Kd.R_base ho0) hb)
    have n1_ := As_ (Kd.R_lower ho0 (bwZ (by repeat (first|(with_reducible first|exact HB.out|apply bwA|apply bwN|apply bwD|refine bwS ?_ GE896.out|refine bwS ?_ GE897.out|refine bwS ?_ GE903.out|refine bwS ?_ GE905.out)|exact HB.out))))
    have n2_ := As_ (blk_below (g := gb896) (o := .cells #[.slice (some ad904) l0_0.length c0_0,.int .i64 a0_1] 29 (0,0)) (by (with_reducible repeat (first|refine bkN ?_ _|refine bkD ?_|refine bkA ?_ _));exact BK896.out) hb)
    have n3_ := As_ (blk_below (g := gb897) (o := .cells #[.slice none 0 0,.int .i64 0] 29 (0,0)) (by (with_reducible repeat (first|refine bkN ?_ _|refine bkD ?_|refine bkA ?_ _));exact BK897.out) hb)
    have n4_ := As_ (blk_below (g := gb903) (o := .cells #[.slice Ao26 t899.length co26,.int .i64 t902] 29 (0,0)) (by (with_reducible repeat (first|refine bkN ?_ _|refine bkD ?_|refine bkA ?_ _));exact BK903.out) hb)
    have n5_ := As_ (blk_below (g := gb905) (o := .cells #[.int .i64 ((rd_T45 l0_0 a0_1).f0),.int .i64 ((rd_T45 l0_0 a0_1).f1),.slice A904_2 ((rd_T45 l0_0 a0_1).f2).length c904_2] 45 (0,0)) (by (with_reducible repeat (first|refine bkN ?_ _|refine bkD ?_|refine bkA ?_ _));exact BK905.out) hb)
    have n6_ := As_ (bwT (by repeat (first|(with_reducible first|exact HB.out|apply bwA|apply bwN|apply bwD|refine bwS ?_ GE896.out|refine bwS ?_ GE897.out|refine bwS ?_ GE903.out|refine bwS ?_ GE905.out)|exact HB.out)) hb)
    clear HO901
    clear BK896
    clear BK897
    clear BK903
    clear BK905
    clear HB
    have HO901 := n0_
    have HO908 := n1_
    have BK896 := n2_
    have BK897 := n3_
    have BK903 := n4_
    have BK905 := n5_
    have HB := n6_
    clear n0_ n1_ n2_ n3_ n4_ n5_ n6_
    (try clear hb)
    (try clear hb2)
    (try clear hk)
    (try clear hi)
    (try clear ho0)
    obtain ⟨Ao39,co39,eo39⟩ := Kd.R_slice HO908.out
    (first|subst eo39|(injection eo39 with f1_ f2_ f3_;have f4_ := f1_.symm;have f5_ := f3_.symm;clear f1_ f2_ f3_;subst f4_;subst f5_))
    refine hK.out _ _ ⟨(bkC BK903.out 0).trans rfl,(bkC BK903.out 1).trans rfl,(bkC BK905.out 0).trans rfl,(bkC BK905.out 1).trans rfl,(bkC BK905.out 2).trans rfl⟩ (fun hHeld => ?_)
    clear hK K
    refine norm_ (a' := ?_) ?_ ?_
    rotate_left
    ·show Act.put _ (some 31) _ = _
     simp only [Act.put,sq_,i64_w,i32_w]
     rfl
    refine pP 9 32 (bl_ 1023 14) ?_ HT_ rfl rfl (by kernel_rfl) (fun _ _ _ h => h) (.inl ⟨by rfl,?_⟩) ?_ ?_ ?_;rotate_left;(intro w';go_simp;with_reducible rfl);rotate_left;(simp only [Act.put,sq_,i64_w,i32_w];rfl)
    refine one_ (i := 10) (N := some 33) (bl_ 2047 14) rfl rfl (one_of HT_.out (by kernel_rfl)) (by decide) (fun K hK => ?_)
    refine value_ (w1 := ?_) (v := ?_) (by rfl) rfl ?_ ?_
    rotate_left 2
    ·go_simp
     constructor
     ·rfl
     ·rfl
    refine hK.out _ _ ⟨(bkC (bkA BK903.out _) 0).trans rfl,(bkC (bkA BK903.out _) 1).trans rfl,(bkC (bkA BK905.out _) 0).trans rfl,(bkC (bkA BK905.out _) 1).trans rfl,(bkC (bkA BK905.out _) 2).trans rfl⟩ (fun hHeld => ?_)
    clear hK K
    refine norm_ (a' := ?_) ?_ ?_
    rotate_left
    ·show Act.put _ (some 33) _ = _
     simp only [Act.put,sq_,i64_w,i32_w]
     rfl
    refine one_ (i := 11) (N := some 34) (bl_ 4095 14) rfl rfl (one_of HT_.out (by kernel_rfl)) (by decide) (fun K hK => ?_)
    refine Kd.S_append_step k45 (w0 := w) w.heap.size (by rfl) (.tmp 24) (.tmp 33) 27 45 (.agg #[(.int .i64 0),(.int .i64 0),(.slice none 0 0)]) 40 rfl Try.underlying27 info45 rfl (by decide) (by omega) (.slice Ao26 t899.length co26) t899 (⟨(rd_T45 l0_0 a0_1).f0,(rd_T45 l0_0 a0_1).f1,t906⟩ : S45) [.int .i64 ((rd_T45 l0_0 a0_1).f0),.int .i64 ((rd_T45 l0_0 a0_1).f1),.slice Ao39 t906.length co39] (fun k_ => k_ ≠ gb905) (fun k_ => some k_ = (.slice Ao39 t906.length co39 : Value).ownBlock) rfl rfl ?aP (fun k_ hk_ => ((Kd.R_mono (ok' := fun k_ => ((fun k_ => k_ ≠ gb905)) k_ ∧ some k_ ≠ (.slice Ao26 t899.length co26 : Value).ownBlock) (Kd.R_types (Kd.R_apart' (HO908.out) (Kd.S_typed HO901.out) (by decide)) BK905.out (by decide)) (fun k_ hk => ⟨hk.2,hk.1.2⟩))).1 k_ hk_.symm) ?aF ?aO ?aB ?aS ?aL ?_
    (case aP => exact k45_mkM _ _ _ (⟨(rd_T45 l0_0 a0_1).f0,(rd_T45 l0_0 a0_1).f1,t906⟩ : S45) (Kd.R_mono (Kd.R_tight rfl (Kd.R_mono (ok' := fun k_ => ((fun k_ => k_ ≠ gb905)) k_ ∧ some k_ ≠ (.slice Ao26 t899.length co26 : Value).ownBlock) (Kd.R_types (Kd.R_apart' (HO908.out) (Kd.S_typed HO901.out) (by decide)) BK905.out (by decide)) (fun k_ hk => ⟨hk.2,hk.1.2⟩))) (fun _ h_ => h_)))
    (case aB => exact (by repeat (first|(with_reducible first|exact HB.out|apply bwA|apply bwN|apply bwD|refine bwS ?_ GE896.out|refine bwS ?_ GE897.out|refine bwS ?_ GE903.out|refine bwS ?_ GE905.out)|exact HB.out)))
    (case aF => exact (fun k_ hk => Kd.freshB (g := gb905) (o := .cells #[.int .i64 ((rd_T45 l0_0 a0_1).f0),.int .i64 ((rd_T45 l0_0 a0_1).f1),.slice A904_2 ((rd_T45 l0_0 a0_1).f2).length c904_2] 45 (0,0)) (by (with_reducible repeat (first|refine bkN ?_ _|refine bkD ?_|refine bkA ?_ _));exact BK905.out) k_ hk))
    (case aO => exact (by (with_reducible repeat (first|apply Kd.S_alloc|apply Kd.S_drewN|apply Kd.S_drew));exact Kd.S_mono HO901.out (fun k_ hk => ⟨hk.1,fun e_ => hk.2 e_⟩)))
    (case aS => exact (bwZ (by repeat (first|(with_reducible first|exact HB.out|apply bwA|apply bwN|apply bwD|refine bwS ?_ GE896.out|refine bwS ?_ GE897.out|refine bwS ?_ GE903.out|refine bwS ?_ GE905.out)|exact HB.out))))
    (case aL => have := LMc21.out;omega)
    intro v910 w40 ho hb hg hat
    rw [← Ny909.out] at ho
    have n0_ := As_ (blk_grown (g := gb896) (o := .cells #[.slice (some ad904) l0_0.length c0_0,.int .i64 a0_1] 29 (0,0)) (by (with_reducible repeat (first|refine bkN ?_ _|refine bkD ?_|refine bkA ?_ _));exact BK896.out) hg (Kd.S_ne HO901.out BK896.out (by decide)))
    have n1_ := As_ (blk_grown (g := gb897) (o := .cells #[.slice none 0 0,.int .i64 0] 29 (0,0)) (by (with_reducible repeat (first|refine bkN ?_ _|refine bkD ?_|refine bkA ?_ _));exact BK897.out) hg (Kd.S_ne HO901.out BK897.out (by decide)))
    have n2_ := As_ (blk_grown (g := gb903) (o := .cells #[.slice Ao26 t899.length co26,.int .i64 t902] 29 (0,0)) (by (with_reducible repeat (first|refine bkN ?_ _|refine bkD ?_|refine bkA ?_ _));exact BK903.out) hg (Kd.S_ne HO901.out BK903.out (by decide)))
    have n3_ := As_ (blk_grown (g := gb905) (o := .cells #[.int .i64 ((rd_T45 l0_0 a0_1).f0),.int .i64 ((rd_T45 l0_0 a0_1).f1),.slice A904_2 ((rd_T45 l0_0 a0_1).f2).length c904_2] 45 (0,0)) (by (with_reducible repeat (first|refine bkN ?_ _|refine bkD ?_|refine bkA ?_ _));exact BK905.out) hg (Kd.S_away HO901.out (fun _ hk => hk.1)))
    have n4_ := As_ (hb)
    have n5_ := As_ (ho)
    clear BK896
    clear BK897
    clear BK903
    clear BK905
    clear HB
    clear HO901
    clear HO908
    have BK896 := n0_
    have BK897 := n1_
    have BK903 := n2_
    have BK905 := n3_
    have HB := n4_
    have HO911 := n5_
    clear n0_ n1_ n2_ n3_ n4_ n5_
    clear ho hb hg hat
    obtain ⟨Ao41,co41,eo41⟩ := Kd.S_slice HO911.out
    (first|subst eo41|(injection eo41 with f1_ f2_ f3_;have f4_ := f1_.symm;have f5_ := f3_.symm;clear f1_ f2_ f3_;subst f4_;subst f5_))
    refine hK.out _ _ ⟨(bkC BK903.out 0).trans rfl,(bkC BK903.out 1).trans rfl,(bkC BK905.out 0).trans rfl,(bkC BK905.out 1).trans rfl,(bkC BK905.out 2).trans rfl⟩ (fun hHeld => ?_)
    clear hK K
    refine norm_ (a' := ?_) ?_ ?_
    rotate_left
    ·show Act.put _ (some 34) _ = _
     simp only [Act.put,sq_,i64_w,i32_w]
     rfl
    refine pP 12 35 (bl_ 8191 14) ?_ HT_ rfl rfl (by kernel_rfl) (fun _ _ _ h => h) (.inl ⟨by rfl,?_⟩) ?_ ?_ ?_;rotate_left;(intro w';go_simp;with_reducible rfl);rotate_left;(simp only [Act.put,sq_,i64_w,i32_w];rfl)
    refine last_ (i := 13) (N := none) (bl_ 16383 14) rfl rfl (one_of HT_.out (by kernel_rfl)) (by decide) (fun K hK => ?_)
    have hs42 : w40.cell? ⟨gb903,0,none⟩ = some (.slice Ao26 t899.length co26) := (bkC BK903.out 0).trans rfl
    have hfs42 := bkF BK903.out 0
    have hns42_0 := NB896_903.out
    have hns42_1 := NB897_903.out
    have hns42_3 := NB905_903.out
    have hms42_0 := NB903_896.out
    have hms42_1 := NB903_897.out
    have hms42_3 := NB903_905.out
    refine skip_ (w1 := ?_) (by rfl) rfl ?_ ?_
    rotate_left
    ·go_simp
     rfl
    refine hK.out _ _ ?_
    clear hK K
    refine done_ (done_of HT_.out (by kernel_rfl)) ?_
    have hcz43_0 : w40.cell? ⟨gb896,0,none⟩ = some (.slice (some ad904) l0_0.length c0_0) := (bkC BK896.out 0).trans rfl
    have hcz43_1 : w40.cell? ⟨gb896,1,none⟩ = some (.int .i64 a0_1) := (bkC BK896.out 1).trans rfl
    have hfz43_0 := bkF BK896.out 0
    have hfz43_1 := bkF BK896.out 1
    have hcz44_0 : w40.cell? ⟨gb903,0,none⟩ = some (.slice Ao26 t899.length co26) := (bkC BK903.out 0).trans rfl
    have hcz44_1 : w40.cell? ⟨gb903,1,none⟩ = some (.int .i64 t902) := (bkC BK903.out 1).trans rfl
    have hfz44_0 := bkF BK903.out 0
    have hfz44_1 := bkF BK903.out 1
    have hcz45_0 : w40.cell? ⟨gb897,0,none⟩ = some (.slice none 0 0) := (bkC BK897.out 0).trans rfl
    have hcz45_1 : w40.cell? ⟨gb897,1,none⟩ = some (.int .i64 0) := (bkC BK897.out 1).trans rfl
    have hfz45_0 := bkF BK897.out 0
    have hfz45_1 := bkF BK897.out 1
    try go_wp2
    refine bodyPost_ret (results_cell_row rfl _ _ gb897 29 #[.slice Ao41 y909.length co41,.int .i64 (l0_0.length : Int)] (0,0) _ rfl (by (with_reducible repeat (first|refine bkN ?_ _|refine bkD ?_|refine bkA ?_ _));refine blk_put (cs := #[.slice Ao41 y909.length co41,.int .i64 0]) ?_ 1 _ rfl;(with_reducible repeat (first|refine bkN ?_ _|refine bkD ?_|refine bkA ?_ _));refine blk_put (cs := #[.slice none 0 0,.int .i64 0]) ?_ 0 _ rfl;(with_reducible repeat (first|refine bkN ?_ _|refine bkD ?_|refine bkA ?_ _));refine blk_far ?_ NB897_903.out _;(with_reducible repeat (first|refine bkN ?_ _|refine bkD ?_|refine bkA ?_ _));refine blk_far ?_ NB897_903.out _;(with_reducible repeat (first|refine bkN ?_ _|refine bkD ?_|refine bkA ?_ _));exact BK897.out) Try.underlying29 rfl (by kernel_rfl)) rfl ?_
    exact ⟨_,by first|rfl|(simp [errW_none,errW_some] <;> rfl)|(simp [*,errW_none,errW_some] <;> rfl),by (with_reducible repeat (first|apply Kd.S_alloc|apply Kd.S_drewN|apply Kd.S_drew));exact Kd.S_mono (Kd.S_far (p := ⟨gb897,1,none⟩) (Kd.S_far (p := ⟨gb897,0,none⟩) (Kd.S_far (p := ⟨gb903,1,none⟩) (Kd.S_far (p := ⟨gb903,0,none⟩) (Kd.S_types (Kd.S_types HO911.out BK903.out (by decide)) BK897.out (by decide)) (fun _ hk => hk.1.2) (.slice Ao41 y909.length co41)) (fun _ hk => hk.1.2) (.int .i64 (l0_0.length : Int))) (fun _ hk => hk.2) (.slice Ao41 y909.length co41)) (fun _ hk => hk.2) (.int .i64 (l0_0.length : Int))) (fun _ hk => trivial),by repeat (first|(with_reducible first|exact HB.out|apply bwA|apply bwN|apply bwD|refine bwS ?_ GE896.out|refine bwS ?_ GE897.out|refine bwS ?_ GE903.out|refine bwS ?_ GE905.out)|exact HB.out)⟩

end Go.Proofs.Ytfhakhbmbnbneaa.Q
