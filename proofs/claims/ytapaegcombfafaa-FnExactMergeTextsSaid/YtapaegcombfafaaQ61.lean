-- Written by wip/tools/qprint.py (a program of this claim's author) by means of the kit's printer.
import Derived.Test.YtapaegcombfafaaQ0
import Derived.Test.YtapaegcombfafaaQ58
import Derived.Test.YtapaegcombfafaaQ82
namespace Go.Proofs.Ytapaegcombfafaa.Q
open Go.RowKit Go.Proofs.YtapaegcombfafaaW.PrintWords Go.Proofs.YtapaegcombfafaaW.PrintLast Go.Proofs.YtapaegcombfafaaW.PrintMore
attribute [local go_sem] max2_int min2_int max_two min_two max_three min_three max_four min_four   -- for this text's walks alone
set_option linter.unusedVariables false
set_option linter.unusedSimpArgs false

/-! ### spec_copyGraph: function 61 -/
def spec_copyGraph.l0 : Nat → Int → List (S58) → Int → List (S58) → Int → Option ((List (S58)) × Int)
 | 0,_,_,_,_,_ => none
 | k + 1,x4,x759000,x759001,x761000,x761001 => if x4 < (x759000.length : Int) then (if 0 ≤ x4 then ((spec_copyInts.f ((rd_T58 x759000 x4).f2)).bind fun t764 => (if x761000.length < 3518437208883 then (spec_copyGraph.l0 k (wrap64 (x4 + 1)) x759000 x759001 (x761000 ++ [(⟨(rd_T58 x759000 x4).f0,(rd_T58 x759000 x4).f1,t764⟩ : S58)]) x761001) else (none))) else (none)) else (some (x761000,x761001))
def spec_copyGraph.f (k : Nat) (l0_0 : List (S58)) (a0_1 : Int) : Option ((List (S58)) × Int) := spec_copyGraph.l0 k 0 l0_0 a0_1 ([] : List (S58)) a0_1
set_option maxRecDepth 100000 in
theorem spec_copyGraph.mono_l : ∀ k,(∀ y0 y1 y2 y3 y4,LeO (spec_copyGraph.l0 k y0 y1 y2 y3 y4) (spec_copyGraph.l0 (k + 1) y0 y1 y2 y3 y4))
 | 0 => fun _ _ _ _ _ r h => (by cases h)
 | k + 1 => by
  have ih0 := spec_copyGraph.mono_l k
  ·intro y0 y1 y2 y3 y4
   unfold spec_copyGraph.l0
   repeat' first
   | (with_reducible exact ih0 _ _ _ _ _)
   | (with_reducible exact LeO.refl _)
   | (with_reducible exact LeO.none _)
   | (with_reducible refine LeO.ite ?_ ?_)
   | (with_reducible refine LeO.bind ?_ (fun _ => ?_))
   | exact ih0 _ _ _ _ _
   | exact LeO.none _
   | refine LeO.ite ?_ ?_
   | refine LeO.bind ?_ (fun _ => ?_)
set_option maxRecDepth 100000 in
theorem spec_copyGraph.mono : ∀ a0 a1 k,LeO (spec_copyGraph.f k a0 a1) (spec_copyGraph.f (k + 1) a0 a1) := by
 intro a0 a1 k
 have ih0 := spec_copyGraph.mono_l k
 unfold spec_copyGraph.f
 repeat' first
   | (with_reducible exact ih0 _ _ _ _ _)
   | (with_reducible exact LeO.refl _)
   | (with_reducible exact LeO.none _)
   | (with_reducible refine LeO.ite ?_ ?_)
   | (with_reducible refine LeO.bind ?_ (fun _ => ?_))
   | exact ih0 _ _ _ _ _
   | exact LeO.none _
   | refine LeO.ite ?_ ?_
   | refine LeO.bind ?_ (fun _ => ?_)
def spec_copyGraph.T5 : Bool × List (List Nat × List Nat) := (true,[([],[]),([0],[0]),([],[]),([2],[2]),([],[]),([3,4],[3,4]),([5],[5]),([6],[6]),([],[]),([8],[8]),([],[]),([9,10],[9,10]),([11],[11]),([12],[12]),([],[]),([14],[14]),([],[]),([15,16],[15,16]),([17],[17]),([18],[18]),([19],[19]),([7,13,20],[7,13,20]),([21],[21]),([1,22,20],[1,22]),([0,1,2,3,4,5,6,7,8,9,10,11,12,13,14,15,16,17,18,19,20,21,22,23],[]),([24,23,23,0,1,2,3,4,5,6,7,8,9,10,11,12,13,14,15,16,17,18,19,20,21,22,23],[23,24])])
def spec_copyGraph.B5 : List Nat := [0,1,0,4,0,28,60,124,0,256,0,1792,3840,7936,0,16384,0,114688,245760,507904,1032192,2097148,4194300,8388607,16777215,33554431]
theorem spec_copyGraph.tab5 : rtab .any (opsOf Try.f61 5) = spec_copyGraph.T5 := by kernel_rfl
theorem spec_copyGraph.bits5 : waitsOk spec_copyGraph.T5.2 spec_copyGraph.B5 = true := by kernel_rfl
set_option maxHeartbeats 8000000 in
set_option maxRecDepth 100000 in
theorem spec_copyGraph.calls (k : Nat) (A0_0 : Option Addr) (c0_0 : Nat) (l0_0 : List (S58)) (a0_1 : Int) (r1 : List (S58)) (r2 : Int) (w : World) (hr0_0 : Kd.C k58 w A0_0 l0_0.length l0_0) (hc0_0 : l0_0.length ≤ c0_0) (h : spec_copyGraph.f k l0_0 a0_1 = some (r1,r2)) :
  Calls Try.prog 61 #[.agg #[.slice A0_0 l0_0.length c0_0,.int .i64 a0_1]] w fun e w' => ∃ v0_ : Value,e = .returned (.agg #[v0_,.int .i64 r2]) ∧ Kd.S k58 58 w' w.heap.size (fun _ => True) v0_ r1 ∧ Below w.heap.size w w' := by
 have hu25 := Try.underlying25
 have hu58 := Try.underlying58
 have HR0_0 := As_ hr0_0
 have HC0_0 := As_ hc0_0
 clear hr0_0 hc0_0
 have HB := As_ (Below.refl w.heap.size w)
 have H : (spec_copyGraph.l0 k 0 l0_0 a0_1 ([] : List (S58)) a0_1) = some (r1,r2) := h
 clear h
 have H' := As_ H
 clear H
 go_enter Try.func61,Try.ntmps61
 go_wp2_with (first|((with_reducible refine gate_dst (N := 1) rfl ?_);refine box_event ?hg (N := 1) ?hd (cs := #[.slice A0_0 l0_0.length c0_0,.int .i64 a0_1]) (t := 25) ?hr ?_;(case hd => rfl);(case hg => rfl);(case hr => go_simp <;> rfl);intro gb758 hg w2 hbox hb;have n0_ := As_ (bwT (by repeat (first|(with_reducible first|exact HB.out|apply bwA|apply bwN|apply bwD)|exact HB.out)) hb);have n1_ := As_ (hbox);have n2_ := As_ ((by rw [hg];exact (bwZ (by repeat (first|(with_reducible first|exact HB.out|apply bwA|apply bwN|apply bwD)|exact HB.out))) : w.heap.size ≤ gb758));have n3_ := As_ ((by rw [hg];exact (bwZ (by repeat (first|(with_reducible first|exact HB.out|apply bwA|apply bwN|apply bwD)|exact HB.out))) : w.heap.size ≤ gb758));clear HB;have HB := n0_;have BK758 := n1_;have GW758 := n2_;have GE758 := n3_;clear n0_ n1_ n2_ n3_;clear hb hbox hg)|((with_reducible refine gate_dst (N := 2) rfl ?_);refine box_event ?hg (N := 2) ?hd (cs := #[.slice none 0 0,.int .i64 0]) (t := 25) ?hr ?_;(case hd => rfl);(case hg => rfl);(case hr => go_simp <;> rfl);intro gb759 hg w3 hbox hb;have n0_ := As_ (blk_below (g := gb758) (o := .cells #[.slice A0_0 l0_0.length c0_0,.int .i64 a0_1] 25 (0,0)) (by (with_reducible repeat (first|refine bkN ?_ _|refine bkD ?_|refine bkA ?_ _));exact BK758.out) hb);have n1_ := As_ (bwT (by repeat (first|(with_reducible first|exact HB.out|apply bwA|apply bwN|apply bwD|refine bwS ?_ GE758.out)|exact HB.out)) hb);have n2_ := As_ (hbox);have n3_ := As_ ((by rw [hg];exact (bwZ (by repeat (first|(with_reducible first|exact HB.out|apply bwA|apply bwN|apply bwD|refine bwS ?_ GE758.out)|exact HB.out))) : w.heap.size ≤ gb759));have n4_ := As_ ((by rw [hg];exact (bwZ (by repeat (first|(with_reducible first|exact HB.out|apply bwA|apply bwN|apply bwD|refine bwS ?_ GE758.out)|exact HB.out))) : w.heap.size ≤ gb759));have n5_ := As_ ((by rw [hg];exact Nat.ne_of_lt (blk_lt (g := gb758) (o := .cells #[.slice A0_0 l0_0.length c0_0,.int .i64 a0_1] 25 (0,0)) (by (with_reducible repeat (first|refine bkN ?_ _|refine bkD ?_|refine bkA ?_ _));exact BK758.out)) : gb758 ≠ gb759));have n6_ := As_ ((by rw [hg];exact Nat.ne_of_gt (blk_lt (g := gb758) (o := .cells #[.slice A0_0 l0_0.length c0_0,.int .i64 a0_1] 25 (0,0)) (by (with_reducible repeat (first|refine bkN ?_ _|refine bkD ?_|refine bkA ?_ _));exact BK758.out)) : gb759 ≠ gb758));clear BK758;clear HB;have BK758 := n0_;have HB := n1_;have BK759 := n2_;have GW759 := n3_;have GE759 := n4_;have NB758_759 := n5_;have NB759_758 := n6_;clear n0_ n1_ n2_ n3_ n4_ n5_ n6_;clear hb hbox hg;have hnb4 := NB758_759.out;have hnc4 := NB759_758.out;have hcz5_0 : w3.cell? ⟨gb758,0,none⟩ = some (.slice A0_0 l0_0.length c0_0) := (bkC BK758.out 0).trans rfl;have hcz5_1 : w3.cell? ⟨gb758,1,none⟩ = some (.int .i64 a0_1) := (bkC BK758.out 1).trans rfl;have hfz5_0 := bkF BK758.out 0;have hfz5_1 := bkF BK758.out 1)|((with_reducible refine gate_dst (N := 3) rfl ?_);refine box_event ?hg (N := 3) ?hd (cs := #[.slice none 0 0,.int .i64 0]) (t := 25) ?hr ?_;(case hd => rfl);(case hg => rfl);(case hr => go_simp <;> rfl);intro gb760 hg w6 hbox hb;have n0_ := As_ (blk_below (g := gb758) (o := .cells #[.slice A0_0 l0_0.length c0_0,.int .i64 a0_1] 25 (0,0)) (by (with_reducible repeat (first|refine bkN ?_ _|refine bkD ?_|refine bkA ?_ _));exact BK758.out) hb);have n1_ := As_ (blk_below (g := gb759) (o := .cells #[.slice none 0 0,.int .i64 0] 25 (0,0)) (by (with_reducible repeat (first|refine bkN ?_ _|refine bkD ?_|refine bkA ?_ _));exact BK759.out) hb);have n2_ := As_ (bwT (by repeat (first|(with_reducible first|exact HB.out|apply bwA|apply bwN|apply bwD|refine bwS ?_ GE758.out|refine bwS ?_ GE759.out)|exact HB.out)) hb);have n3_ := As_ (hbox);have n4_ := As_ ((by rw [hg];exact (bwZ (by repeat (first|(with_reducible first|exact HB.out|apply bwA|apply bwN|apply bwD|refine bwS ?_ GE758.out|refine bwS ?_ GE759.out)|exact HB.out))) : w.heap.size ≤ gb760));have n5_ := As_ ((by rw [hg];exact (bwZ (by repeat (first|(with_reducible first|exact HB.out|apply bwA|apply bwN|apply bwD|refine bwS ?_ GE758.out|refine bwS ?_ GE759.out)|exact HB.out))) : w.heap.size ≤ gb760));have n6_ := As_ ((by rw [hg];exact Nat.ne_of_lt (blk_lt (g := gb758) (o := .cells #[.slice A0_0 l0_0.length c0_0,.int .i64 a0_1] 25 (0,0)) (by (with_reducible repeat (first|refine bkN ?_ _|refine bkD ?_|refine bkA ?_ _));exact BK758.out)) : gb758 ≠ gb760));have n7_ := As_ ((by rw [hg];exact Nat.ne_of_gt (blk_lt (g := gb758) (o := .cells #[.slice A0_0 l0_0.length c0_0,.int .i64 a0_1] 25 (0,0)) (by (with_reducible repeat (first|refine bkN ?_ _|refine bkD ?_|refine bkA ?_ _));exact BK758.out)) : gb760 ≠ gb758));have n8_ := As_ ((by rw [hg];exact Nat.ne_of_lt (blk_lt (g := gb759) (o := .cells #[.slice none 0 0,.int .i64 0] 25 (0,0)) (by (with_reducible repeat (first|refine bkN ?_ _|refine bkD ?_|refine bkA ?_ _));exact BK759.out)) : gb759 ≠ gb760));have n9_ := As_ ((by rw [hg];exact Nat.ne_of_gt (blk_lt (g := gb759) (o := .cells #[.slice none 0 0,.int .i64 0] 25 (0,0)) (by (with_reducible repeat (first|refine bkN ?_ _|refine bkD ?_|refine bkA ?_ _));exact BK759.out)) : gb760 ≠ gb759));clear BK758;clear BK759;clear HB;have BK758 := n0_;have BK759 := n1_;have HB := n2_;have BK760 := n3_;have GW760 := n4_;have GE760 := n5_;have NB758_760 := n6_;have NB760_758 := n7_;have NB759_760 := n8_;have NB760_759 := n9_;clear n0_ n1_ n2_ n3_ n4_ n5_ n6_ n7_ n8_ n9_;clear hb hbox hg;have hnb7 := NB760_758.out;have hnc7 := NB758_760.out;have hnb8 := NB760_759.out;have hnc8 := NB759_760.out;have hcz9_0 : w6.cell? ⟨gb760,0,none⟩ = some (.slice none 0 0) := (bkC BK760.out 0).trans rfl;have hcz9_1 : w6.cell? ⟨gb760,1,none⟩ = some (.int .i64 0) := (bkC BK760.out 1).trans rfl;have hfz9_0 := bkF BK760.out 0;have hfz9_1 := bkF BK760.out 1))
 go_loopg [4] k (fun kq v4 w' => ∃ (x4_1 : Int) (x761000_1 : List (S58)) (u761000 : Value),v4 = .int .i64 x4_1 ∧ Aside0 (spec_copyGraph.l0 kq x4_1 l0_0 a0_1 x761000_1 a0_1 = some (r1,r2)) ∧ Aside0 (kq ≤ k) ∧ Aside0 (Kd.S k58 58 w' w.heap.size (fun _ => True) u761000 x761000_1) ∧ Aside0 (w'.heap[gb758]? = some (.cells #[(.slice A0_0 l0_0.length c0_0),.int .i64 a0_1] 25 (0,0))) ∧ Aside0 (w'.heap[gb759]? = some (.cells #[(.slice none 0 0),.int .i64 0] 25 (0,0))) ∧ Aside0 (w'.heap[gb760]? = some (.cells #[u761000,.int .i64 a0_1] 25 (0,0))) ∧ Aside0 (Below w.heap.size w w'))
 case atStart => exact ⟨(0),(([] : List (S58))),(.slice none 0 0),(by first|rfl|(simp;done)|(simp [*];done)),H',⟨Nat.le_refl _⟩,⟨by first|exact Kd.S_nil _ _ _ _ _|exact Kd.N_nil _ _ _ _ _|exact Kd.V_nil _ _ _ _ _|exact Kd.Q_nil _ _ _ _ _|exact Kd.R_nil _ _ _ _ _⟩,⟨by (with_reducible repeat (first|refine bkN ?_ _|refine bkD ?_|refine bkA ?_ _));refine blk_far ?_ NB758_760.out _;(with_reducible repeat (first|refine bkN ?_ _|refine bkD ?_|refine bkA ?_ _));refine blk_far ?_ NB758_760.out _;(with_reducible repeat (first|refine bkN ?_ _|refine bkD ?_|refine bkA ?_ _));exact BK758.out⟩,⟨by (with_reducible repeat (first|refine bkN ?_ _|refine bkD ?_|refine bkA ?_ _));refine blk_far ?_ NB759_760.out _;(with_reducible repeat (first|refine bkN ?_ _|refine bkD ?_|refine bkA ?_ _));refine blk_far ?_ NB759_760.out _;(with_reducible repeat (first|refine bkN ?_ _|refine bkD ?_|refine bkA ?_ _));exact BK759.out⟩,⟨by (with_reducible repeat (first|refine bkN ?_ _|refine bkD ?_|refine bkA ?_ _));refine blk_put (cs := #[.slice none 0 0,.int .i64 0]) ?_ 1 _ rfl;(with_reducible repeat (first|refine bkN ?_ _|refine bkD ?_|refine bkA ?_ _));refine blk_put (cs := #[.slice none 0 0,.int .i64 0]) ?_ 0 _ rfl;(with_reducible repeat (first|refine bkN ?_ _|refine bkD ?_|refine bkA ?_ _));exact BK760.out⟩,⟨by repeat (first|(with_reducible first|exact HB.out|apply bwA|apply bwN|apply bwD|refine bwS ?_ GE758.out|refine bwS ?_ GE759.out|refine bwS ?_ GE760.out)|exact HB.out)⟩⟩
 case round =>
  clear H'
  try clear p2
  try clear c4
  try clear c6
  try clear c7
  try clear c8
  try clear hcz5_0
  try clear hcz5_1
  try clear hcz9_0
  try clear hcz9_1
  try clear hfz5_0
  try clear hfz5_1
  try clear hfz9_0
  try clear hfz9_1
  obtain ⟨x4_1,x761000_1,u761000,rfl,HA,HK1,HO_761000,BK758,BK759,BK760,HB⟩ := hrel
  cases gk with
  | zero => exact absurd HA.out (fun h_ => (by cases h_))
  | succ k1 =>
   have H := HA.out
   clear HA
   simp only [spec_copyGraph.l0] at H
   by_cases c10 : x4_1 < (l0_0.length : Int)
   ·rw [if_pos c10] at H
    have c10b0 : decide (x4_1 < (l0_0.length : Int)) = true := deT c10
    clear c10
    by_cases c11 : 0 ≤ x4_1
    rotate_left
    ·rw [if_neg c11] at H
     exact absurd H (by simp)
    rw [if_pos c11] at H
    have c11b0 : decide (0 ≤ x4_1) = true := deT c11
    clear c11
    replace H := obS H
    obtain ⟨t764,A120,H⟩ := H
    replace H : (if x761000_1.length < 3518437208883 then (spec_copyGraph.l0 k1 (wrap64 (x4_1 + 1)) l0_0 a0_1 (x761000_1 ++ [(⟨(rd_T58 l0_0 x4_1).f0,(rd_T58 l0_0 x4_1).f1,t764⟩ : S58)]) a0_1) else (none)) = some (r1,r2) := H
    have A12 := As_ A120
    clear A120
    by_cases c13 : x761000_1.length < 3518437208883
    rotate_left
    ·rw [if_neg c13] at H
     exact absurd H (by simp)
    rw [if_pos c13] at H
    have LMc13 := As_ c13
    clear c13
    obtain ⟨y767,hy767⟩ : ∃ y_ : List (S58),y_ = (x761000_1 ++ [(⟨(rd_T58 l0_0 x4_1).f0,(rd_T58 l0_0 x4_1).f1,t764⟩ : S58)]) := ⟨_,rfl⟩
    replace H : (spec_copyGraph.l0 k1 (wrap64 (x4_1 + 1)) l0_0 a0_1 y767 a0_1) = some (r1,r2) := by first|(rw [hy767];with_reducible exact H)|(have H2_ := (Option.bind_some _ _).symm.trans H;rw [hy767];with_reducible exact H2_)|(have H2_ := (Option.bind_some _ _).symm.trans H;with_reducible exact H2_)|with_reducible exact H|(rw [hy767];exact H)|exact H
    have Ny767 := As_ hy767
    clear hy767
    have H' := As_ H
    clear H
    have hnb14 := NB758_759.out
    have hnc14 := NB759_758.out
    have hnb15 := NB758_760.out
    have hnc15 := NB760_758.out
    have hcz16_0 : wr.cell? ⟨gb758,0,none⟩ = some (.slice A0_0 l0_0.length c0_0) := (bkC BK758.out 0).trans rfl
    have hcz16_1 : wr.cell? ⟨gb758,1,none⟩ = some (.int .i64 a0_1) := (bkC BK758.out 1).trans rfl
    have hfz16_0 := bkF BK758.out 0
    have hfz16_1 := bkF BK758.out 1
    try go_wp2
    have n0_ := As_ (Kd.S_drew HO_761000.out)
    have n1_ := As_ (bkD BK758.out)
    have n2_ := As_ (bkD BK759.out)
    have n3_ := As_ (bkD BK760.out)
    have n4_ := As_ (bwD HB.out)
    clear HO_761000
    clear BK758
    clear BK759
    clear BK760
    clear HB
    have HO_761000 := n0_
    have BK758 := n1_
    have BK759 := n2_
    have BK760 := n3_
    have HB := n4_
    clear n0_ n1_ n2_ n3_ n4_
    have p761 : 0 ≤ (x4_1 : Int) := odT (by first|(with_reducible assumption)|assumption)
    have q761 : x4_1 < (l0_0.length : Int) := odT (by first|(with_reducible assumption)|assumption)
    obtain ⟨ad761,A761_2,c761_2,e761,hx761_0,hx761_1,hx761_2,hl761_2,hi761_2⟩ := at_T58 HR0_0.out x4_1 p761 q761
    have hw761_2 := hx761_2
    have hw761_1 := hx761_1
    have hw761_0 := hx761_0
    cases e761
    replace hx761_0 := (HB.out.cell (bwL w _ hx761_0)).trans hx761_0
    replace hx761_1 := (HB.out.cell (bwL w _ hx761_1)).trans hx761_1
    replace hx761_2 := (HB.out.cell (bwL w _ hx761_2)).trans hx761_2
    have HR761_2 := As_ hi761_2
    have HC761_2 := As_ hl761_2
    clear hi761_2 hl761_2
    replace p761 := eq_true p761
    replace q761 := eq_true q761
    have p762 : 0 ≤ (x4_1 : Int) := odT (by first|(with_reducible assumption)|assumption)
    have q762 : x4_1 < (l0_0.length : Int) := odT (by first|(with_reducible assumption)|assumption)
    obtain ⟨ad762,A762_2,c762_2,e762,hx762_0,hx762_1,hx762_2,hl762_2,hi762_2⟩ := at_T58 HR0_0.out x4_1 p762 q762
    have hw762_2 := hx762_2
    have hw762_1 := hx762_1
    have hw762_0 := hx762_0
    obtain rfl : ad761 = ad762 := (by injection e762)
    replace hx762_0 := (HB.out.cell (bwL w _ hx762_0)).trans hx762_0
    replace hx762_1 := (HB.out.cell (bwL w _ hx762_1)).trans hx762_1
    replace hx762_2 := (HB.out.cell (bwL w _ hx762_2)).trans hx762_2
    have HR762_2 := As_ hi762_2
    have HC762_2 := As_ hl762_2
    clear hi762_2 hl762_2
    replace p762 := eq_true p762
    replace q762 := eq_true q762
    have ea_ := Option.some.inj (hx761_2.symm.trans hx762_2)
    injection ea_ with ea_ en_ ec_
    subst ea_
    subst ec_
    clear en_
    have p763 : 0 ≤ (x4_1 : Int) := odT (by first|(with_reducible assumption)|assumption)
    have q763 : x4_1 < (l0_0.length : Int) := odT (by first|(with_reducible assumption)|assumption)
    obtain ⟨ad763,A763_2,c763_2,e763,hx763_0,hx763_1,hx763_2,hl763_2,hi763_2⟩ := at_T58 HR0_0.out x4_1 p763 q763
    have hw763_2 := hx763_2
    have hw763_1 := hx763_1
    have hw763_0 := hx763_0
    obtain rfl : ad761 = ad763 := (by injection e763)
    replace hx763_0 := (HB.out.cell (bwL w _ hx763_0)).trans hx763_0
    replace hx763_1 := (HB.out.cell (bwL w _ hx763_1)).trans hx763_1
    replace hx763_2 := (HB.out.cell (bwL w _ hx763_2)).trans hx763_2
    have HR763_2 := As_ hi763_2
    have HC763_2 := As_ hl763_2
    clear hi763_2 hl763_2
    replace p763 := eq_true p763
    replace q763 := eq_true q763
    have ea_ := Option.some.inj (hx761_2.symm.trans hx763_2)
    injection ea_ with ea_ en_ ec_
    subst ea_
    subst ec_
    clear en_
    refine start_ (n := 26) (S := fun w' => w'.cell? ⟨gb760,0,none⟩ = some (u761000) ∧ w'.cell? ⟨gb760,1,none⟩ = some (.int .i64 a0_1) ∧ w'.cell? ⟨gb758,0,none⟩ = some (.slice (some ad761) l0_0.length c0_0) ∧ w'.cell? ⟨gb758,1,none⟩ = some (.int .i64 a0_1) ∧ w'.cell? (ad761.add ((x4_1).toNat * 3)) = some (.int .i64 ((rd_T58 l0_0 x4_1).f0)) ∧ w'.cell? ⟨(ad761.add ((x4_1).toNat * 3)).block,(ad761.add ((x4_1).toNat * 3)).off + 1,none⟩ = some (.int .i64 ((rd_T58 l0_0 x4_1).f1)) ∧ w'.cell? ⟨(ad761.add ((x4_1).toNat * 3)).block,(ad761.add ((x4_1).toNat * 3)).off + 2,none⟩ = some (.slice A761_2 ((rd_T58 l0_0 x4_1).f2).length c761_2) ∧ w'.cell? (ad761.add ((x4_1).toNat * 3)) = some (.int .i64 ((rd_T58 l0_0 x4_1).f0)) ∧ w'.cell? ⟨(ad761.add ((x4_1).toNat * 3)).block,(ad761.add ((x4_1).toNat * 3)).off + 1,none⟩ = some (.int .i64 ((rd_T58 l0_0 x4_1).f1)) ∧ w'.cell? ⟨(ad761.add ((x4_1).toNat * 3)).block,(ad761.add ((x4_1).toNat * 3)).off + 2,none⟩ = some (.slice A761_2 ((rd_T58 l0_0 x4_1).f2).length c761_2) ∧ w'.cell? (ad761.add ((x4_1).toNat * 3)) = some (.int .i64 ((rd_T58 l0_0 x4_1).f0)) ∧ w'.cell? ⟨(ad761.add ((x4_1).toNat * 3)).block,(ad761.add ((x4_1).toNat * 3)).off + 1,none⟩ = some (.int .i64 ((rd_T58 l0_0 x4_1).f1)) ∧ w'.cell? ⟨(ad761.add ((x4_1).toNat * 3)).block,(ad761.add ((x4_1).toNat * 3)).off + 2,none⟩ = some (.slice A761_2 ((rd_T58 l0_0 x4_1).f2).length c761_2)) (ds := [25]) (bl_ 0 26) (by kernel_rfl) rfl rfl ⟨(bkC BK760.out 0).trans rfl,(bkC BK760.out 1).trans rfl,(bkC BK758.out 0).trans rfl,(bkC BK758.out 1).trans rfl,((HB.out.cell (bwL w _ hw761_0)).trans hw761_0),((HB.out.cell (bwL w _ hw761_1)).trans hw761_1),((HB.out.cell (bwL w _ hw761_2)).trans hw761_2),((HB.out.cell (bwL w _ hw762_0)).trans hw762_0),((HB.out.cell (bwL w _ hw762_1)).trans hw762_1),((HB.out.cell (bwL w _ hw762_2)).trans hw762_2),((HB.out.cell (bwL w _ hw763_0)).trans hw763_0),((HB.out.cell (bwL w _ hw763_1)).trans hw763_1),((HB.out.cell (bwL w _ hw763_2)).trans hw763_2)⟩ (fun hHeld => ?_);refine with_tabW spec_copyGraph.tab5 spec_copyGraph.bits5 (fun HT_ HW_ => ?_)
    generalize wr.drew = w17 at HO_761000 BK758 BK759 BK760 HB HR761_2 HR762_2 HR763_2 hx761_0 hx761_1 hx761_2 hx762_0 hx762_1 hx762_2 hx763_0 hx763_1 hx763_2 hHeld ⊢
    refine pP 0 15 (bl_ 1 26) ?_ HT_ rfl rfl (by kernel_rfl) (fun _ _ _ h => h) (.inl ⟨by rfl,?_⟩) ?_ ?_ ?_;rotate_left;(intro w';go_simp;with_reducible rfl);rotate_left;(simp only [Act.put,sq_,i64_w,i32_w];rfl)
    refine pP 2 17 (bl_ 5 26) ?_ HT_ rfl rfl (by kernel_rfl) (fun _ _ _ h => h) (.inl ⟨by rfl,?_⟩) ?_ ?_ ?_;rotate_left;(intro w';go_simp;with_reducible rfl);rotate_left;(simp only [Act.put,sq_,i64_w,i32_w];rfl)
    refine pP 4 19 (bl_ 21 26) ?_ HT_ rfl rfl (by kernel_rfl) (fun _ _ _ h => h) (.inl ⟨by rfl,?_⟩) ?_ ?_ ?_;rotate_left;(intro w';go_simp;with_reducible rfl);rotate_left;(simp only [Act.put,sq_,i64_w,i32_w];rfl)
    refine pP 8 23 (bl_ 277 26) ?_ HT_ rfl rfl (by kernel_rfl) (fun _ _ _ h => h) (.inl ⟨by rfl,?_⟩) ?_ ?_ ?_;rotate_left;(intro w';go_simp;with_reducible rfl);rotate_left;(simp only [Act.put,sq_,i64_w,i32_w];rfl)
    refine pP 10 25 (bl_ 1301 26) ?_ HT_ rfl rfl (by kernel_rfl) (fun _ _ _ h => h) (.inl ⟨by rfl,?_⟩) ?_ ?_ ?_;rotate_left;(intro w';go_simp;with_reducible rfl);rotate_left;(simp only [Act.put,sq_,i64_w,i32_w];rfl)
    refine pP 14 29 (bl_ 17685 26) ?_ HT_ rfl rfl (by kernel_rfl) (fun _ _ _ h => h) (.inl ⟨by rfl,?_⟩) ?_ ?_ ?_;rotate_left;(intro w';go_simp;with_reducible rfl);rotate_left;(simp only [Act.put,sq_,i64_w,i32_w];rfl)
    refine pP 16 31 (bl_ 83221 26) ?_ HT_ rfl rfl (by kernel_rfl) (fun _ _ _ h => h) (.inl ⟨by rfl,?_⟩) ?_ ?_ ?_;rotate_left;(intro w';go_simp;with_reducible rfl);rotate_left;(simp only [Act.put,sq_,i64_w,i32_w];rfl)
    refine tP 1 16 (bl_ 83223 26) ?_ HT_ HW_ rfl rfl (by kernel_rfl) (fun _ _ _ h => h) (.inl ⟨by rfl,?_⟩) hHeld ?_ ?_ ?_;rotate_left;(rintro w' ⟨s0,s1,s2,s3,s4,s5,s6,s7,s8,s9,s10,s11,s12⟩;go_simp;with_reducible rfl);rotate_left;(simp only [Act.put,sq_,i64_w,i32_w];rfl)
    refine tP 3 18 (bl_ 83231 26) ?_ HT_ HW_ rfl rfl (by kernel_rfl) (fun _ _ _ h => h) (.inl ⟨by rfl,?_⟩) hHeld ?_ ?_ ?_;rotate_left;(rintro w' ⟨s0,s1,s2,s3,s4,s5,s6,s7,s8,s9,s10,s11,s12⟩;go_simp;with_reducible rfl);rotate_left;(simp only [Act.put,sq_,i64_w,i32_w];rfl)
    refine pP 5 20 (bl_ 83263 26) ?_ HT_ rfl rfl (by kernel_rfl) (fun _ _ _ h => h) (.inl ⟨by rfl,?_⟩) ?_ ?_ ?_;rotate_left;(intro w';go_simp;with_reducible rfl);rotate_left;(simp only [Act.put,sq_,i64_w,i32_w];rfl)
    refine pP 6 21 (bl_ 83327 26) ?_ HT_ rfl rfl (by kernel_rfl) (fun _ _ _ h => h) (.inl ⟨by rfl,?_⟩) ?_ ?_ ?_;rotate_left;(intro w';go_simp;with_reducible rfl);rotate_left;(simp only [Act.put,sq_,i64_w,i32_w];rfl)
    refine tP 7 22 (bl_ 83455 26) ?_ HT_ HW_ rfl rfl (by kernel_rfl) (fun _ _ _ h => h) (.inl ⟨by rfl,?_⟩) hHeld ?_ ?_ ?_;rotate_left;(rintro w' ⟨s0,s1,s2,s3,s4,s5,s6,s7,s8,s9,s10,s11,s12⟩;go_simp;with_reducible rfl);rotate_left;(simp only [Act.put,sq_,i64_w,i32_w];rfl)
    refine tP 9 24 (bl_ 83967 26) ?_ HT_ HW_ rfl rfl (by kernel_rfl) (fun _ _ _ h => h) (.inl ⟨by rfl,?_⟩) hHeld ?_ ?_ ?_;rotate_left;(rintro w' ⟨s0,s1,s2,s3,s4,s5,s6,s7,s8,s9,s10,s11,s12⟩;go_simp;with_reducible rfl);rotate_left;(simp only [Act.put,sq_,i64_w,i32_w];rfl)
    refine pP 11 26 (bl_ 86015 26) ?_ HT_ rfl rfl (by kernel_rfl) (fun _ _ _ h => h) (.inl ⟨by rfl,?_⟩) ?_ ?_ ?_;rotate_left;(intro w';go_simp;with_reducible rfl);rotate_left;(simp only [Act.put,sq_,i64_w,i32_w];rfl)
    refine pP 12 27 (bl_ 90111 26) ?_ HT_ rfl rfl (by kernel_rfl) (fun _ _ _ h => h) (.inl ⟨by rfl,?_⟩) ?_ ?_ ?_;rotate_left;(intro w';go_simp;with_reducible rfl);rotate_left;(simp only [Act.put,sq_,i64_w,i32_w];rfl)
    refine tP 13 28 (bl_ 98303 26) ?_ HT_ HW_ rfl rfl (by kernel_rfl) (fun _ _ _ h => h) (.inl ⟨by rfl,?_⟩) hHeld ?_ ?_ ?_;rotate_left;(rintro w' ⟨s0,s1,s2,s3,s4,s5,s6,s7,s8,s9,s10,s11,s12⟩;go_simp;with_reducible rfl);rotate_left;(simp only [Act.put,sq_,i64_w,i32_w];rfl)
    refine tP 15 30 (bl_ 131071 26) ?_ HT_ HW_ rfl rfl (by kernel_rfl) (fun _ _ _ h => h) (.inl ⟨by rfl,?_⟩) hHeld ?_ ?_ ?_;rotate_left;(rintro w' ⟨s0,s1,s2,s3,s4,s5,s6,s7,s8,s9,s10,s11,s12⟩;go_simp;with_reducible rfl);rotate_left;(simp only [Act.put,sq_,i64_w,i32_w];rfl)
    refine pP 17 32 (bl_ 262143 26) ?_ HT_ rfl rfl (by kernel_rfl) (fun _ _ _ h => h) (.inl ⟨by rfl,?_⟩) ?_ ?_ ?_;rotate_left;(intro w';go_simp;with_reducible rfl);rotate_left;(simp only [Act.put,sq_,i64_w,i32_w];rfl)
    refine pP 18 33 (bl_ 524287 26) ?_ HT_ rfl rfl (by kernel_rfl) (fun _ _ _ h => h) (.inl ⟨by rfl,?_⟩) ?_ ?_ ?_;rotate_left;(intro w';go_simp;with_reducible rfl);rotate_left;(simp only [Act.put,sq_,i64_w,i32_w];rfl)
    refine tP 19 34 (bl_ 1048575 26) ?_ HT_ HW_ rfl rfl (by kernel_rfl) (fun _ _ _ h => h) (.inl ⟨by rfl,?_⟩) hHeld ?_ ?_ ?_;rotate_left;(rintro w' ⟨s0,s1,s2,s3,s4,s5,s6,s7,s8,s9,s10,s11,s12⟩;go_simp;with_reducible rfl);rotate_left;(simp only [Act.put,sq_,i64_w,i32_w];rfl)
    refine one_ (i := 20) (N := some 35) (bl_ 2097151 26) rfl rfl (one_of HT_.out (by kernel_rfl)) (by decide) (fun K hK => ?_)
    refine goes_ Try.func66 (by kernel_rfl) rfl #[.slice A761_2 ((rd_T58 l0_0 x4_1).f2).length c761_2] (by rfl) rfl rfl (by (try simp only [List.map_toArray,List.map_cons,List.map_nil]);first|done|rfl|(simp only [List.length_drop,List.length_take];rfl)) ?_
    with_reducible refine (spec_copyInts.calls _ _ ((rd_T58 l0_0 x4_1).f2) t764 _ ?side1 ?side2 A12.out).mono ?_
    (case side1 => repeat (first|exact (Kd.C_below HR763_2.out HB.out)|(with_reducible refine Kd.C_alloc ?_ _)|(with_reducible refine Kd.C_drewN ?_ _)|(with_reducible refine Kd.C_drew ?_)))
    (case side2 => exact HC763_2.out)
    rintro e w18 ⟨v765,rfl,ho0,hb⟩
    refine ⟨_,rfl,?_⟩
    have n0_ := As_ (Kd.S_elder' (by (with_reducible repeat (first|apply Kd.S_alloc|apply Kd.S_drewN|apply Kd.S_drew));exact HO_761000.out) (Kd.R_base ho0) hb)
    have n1_ := As_ (Kd.R_lower ho0 (bwZ (by repeat (first|(with_reducible first|exact HB.out|apply bwA|apply bwN|apply bwD|refine bwS ?_ GE758.out|refine bwS ?_ GE759.out|refine bwS ?_ GE760.out)|exact HB.out))))
    have n2_ := As_ (blk_below (g := gb758) (o := .cells #[.slice (some ad761) l0_0.length c0_0,.int .i64 a0_1] 25 (0,0)) (by (with_reducible repeat (first|refine bkN ?_ _|refine bkD ?_|refine bkA ?_ _));exact BK758.out) hb)
    have n3_ := As_ (blk_below (g := gb759) (o := .cells #[.slice none 0 0,.int .i64 0] 25 (0,0)) (by (with_reducible repeat (first|refine bkN ?_ _|refine bkD ?_|refine bkA ?_ _));exact BK759.out) hb)
    have n4_ := As_ (blk_below (g := gb760) (o := .cells #[u761000,.int .i64 a0_1] 25 (0,0)) (by (with_reducible repeat (first|refine bkN ?_ _|refine bkD ?_|refine bkA ?_ _));exact BK760.out) hb)
    have n5_ := As_ (bwT (by repeat (first|(with_reducible first|exact HB.out|apply bwA|apply bwN|apply bwD|refine bwS ?_ GE758.out|refine bwS ?_ GE759.out|refine bwS ?_ GE760.out)|exact HB.out)) hb)
    clear HO_761000
    clear BK758
    clear BK759
    clear BK760
    clear HB
    have HO_761000 := n0_
    have HO766 := n1_
    have BK758 := n2_
    have BK759 := n3_
    have BK760 := n4_
    have HB := n5_
    clear n0_ n1_ n2_ n3_ n4_ n5_
    (try clear hb)
    (try clear hb2)
    (try clear hk)
    (try clear hi)
    (try clear ho0)
    obtain ⟨Ao19,co19,eo19⟩ := Kd.R_slice HO766.out
    (first|subst eo19|(injection eo19 with f1_ f2_ f3_;have f4_ := f1_.symm;have f5_ := f3_.symm;clear f1_ f2_ f3_;subst f4_;subst f5_))
    refine hK.out _ _ ⟨(bkC BK760.out 0).trans rfl,(bkC BK760.out 1).trans rfl,(bkC BK758.out 0).trans rfl,(bkC BK758.out 1).trans rfl,((HB.out.cell (bwL w _ hw761_0)).trans hw761_0),((HB.out.cell (bwL w _ hw761_1)).trans hw761_1),((HB.out.cell (bwL w _ hw761_2)).trans hw761_2),((HB.out.cell (bwL w _ hw762_0)).trans hw762_0),((HB.out.cell (bwL w _ hw762_1)).trans hw762_1),((HB.out.cell (bwL w _ hw762_2)).trans hw762_2),((HB.out.cell (bwL w _ hw763_0)).trans hw763_0),((HB.out.cell (bwL w _ hw763_1)).trans hw763_1),((HB.out.cell (bwL w _ hw763_2)).trans hw763_2)⟩ (fun hHeld => ?_)
    clear hK K
    refine norm_ (a' := ?_) ?_ ?_
    rotate_left
    ·show Act.put _ (some 35) _ = _
     simp only [Act.put,sq_,i64_w,i32_w]
     rfl
    refine pP 21 36 (bl_ 4194303 26) ?_ HT_ rfl rfl (by kernel_rfl) (fun _ _ _ h => h) (.inl ⟨by rfl,?_⟩) ?_ ?_ ?_;rotate_left;(intro w';go_simp;with_reducible rfl);rotate_left;(simp only [Act.put,sq_,i64_w,i32_w];rfl)
    refine one_ (i := 22) (N := some 37) (bl_ 8388607 26) rfl rfl (one_of HT_.out (by kernel_rfl)) (by decide) (fun K hK => ?_)
    refine value_ (w1 := ?_) (v := ?_) (by rfl) rfl ?_ ?_
    rotate_left 2
    ·go_simp
     constructor
     ·rfl
     ·rfl
    refine hK.out _ _ ⟨(bkC (bkA BK760.out _) 0).trans rfl,(bkC (bkA BK760.out _) 1).trans rfl,(bkC (bkA BK758.out _) 0).trans rfl,(bkC (bkA BK758.out _) 1).trans rfl,(World.cell?_alloc_lt _ _ _ (bwL _ _ (((HB.out.cell (bwL w _ hw761_0)).trans hw761_0)))).trans (((HB.out.cell (bwL w _ hw761_0)).trans hw761_0)),(World.cell?_alloc_lt _ _ _ (bwL _ _ (((HB.out.cell (bwL w _ hw761_1)).trans hw761_1)))).trans (((HB.out.cell (bwL w _ hw761_1)).trans hw761_1)),(World.cell?_alloc_lt _ _ _ (bwL _ _ (((HB.out.cell (bwL w _ hw761_2)).trans hw761_2)))).trans (((HB.out.cell (bwL w _ hw761_2)).trans hw761_2)),(World.cell?_alloc_lt _ _ _ (bwL _ _ (((HB.out.cell (bwL w _ hw762_0)).trans hw762_0)))).trans (((HB.out.cell (bwL w _ hw762_0)).trans hw762_0)),(World.cell?_alloc_lt _ _ _ (bwL _ _ (((HB.out.cell (bwL w _ hw762_1)).trans hw762_1)))).trans (((HB.out.cell (bwL w _ hw762_1)).trans hw762_1)),(World.cell?_alloc_lt _ _ _ (bwL _ _ (((HB.out.cell (bwL w _ hw762_2)).trans hw762_2)))).trans (((HB.out.cell (bwL w _ hw762_2)).trans hw762_2)),(World.cell?_alloc_lt _ _ _ (bwL _ _ (((HB.out.cell (bwL w _ hw763_0)).trans hw763_0)))).trans (((HB.out.cell (bwL w _ hw763_0)).trans hw763_0)),(World.cell?_alloc_lt _ _ _ (bwL _ _ (((HB.out.cell (bwL w _ hw763_1)).trans hw763_1)))).trans (((HB.out.cell (bwL w _ hw763_1)).trans hw763_1)),(World.cell?_alloc_lt _ _ _ (bwL _ _ (((HB.out.cell (bwL w _ hw763_2)).trans hw763_2)))).trans (((HB.out.cell (bwL w _ hw763_2)).trans hw763_2))⟩ (fun hHeld => ?_)
    clear hK K
    refine norm_ (a' := ?_) ?_ ?_
    rotate_left
    ·show Act.put _ (some 37) _ = _
     simp only [Act.put,sq_,i64_w,i32_w]
     rfl
    refine one_ (i := 23) (N := some 38) (bl_ 16777215 26) rfl rfl (one_of HT_.out (by kernel_rfl)) (by decide) (fun K hK => ?_)
    refine Kd.S_append_step k58 (w0 := w) w.heap.size (by rfl) (.tmp 16) (.tmp 37) 23 58 (.agg #[(.int .i64 0),(.int .i64 0),(.slice none 0 0)]) 40 rfl Try.underlying23 info58 rfl (by decide) (by omega) u761000 x761000_1 (⟨(rd_T58 l0_0 x4_1).f0,(rd_T58 l0_0 x4_1).f1,t764⟩ : S58) [.int .i64 ((rd_T58 l0_0 x4_1).f0),.int .i64 ((rd_T58 l0_0 x4_1).f1),.slice Ao19 t764.length co19] (fun _ => True) (fun k_ => some k_ = (.slice Ao19 t764.length co19 : Value).ownBlock) rfl rfl ?aP (fun k_ hk_ => ((Kd.R_mono (ok' := fun k_ => ((fun _ => True)) k_ ∧ some k_ ≠ (u761000 : Value).ownBlock) (Kd.R_apart' (HO766.out) (Kd.S_typed HO_761000.out) (by decide)) (fun k_ hk => ⟨trivial,hk.2⟩))).1 k_ hk_.symm) ?aF ?aO ?aB ?aS ?aL ?_
    (case aP => exact k58_mkM _ _ _ (⟨(rd_T58 l0_0 x4_1).f0,(rd_T58 l0_0 x4_1).f1,t764⟩ : S58) (Kd.R_mono (Kd.R_tight rfl (Kd.R_mono (ok' := fun k_ => ((fun _ => True)) k_ ∧ some k_ ≠ (u761000 : Value).ownBlock) (Kd.R_apart' (HO766.out) (Kd.S_typed HO_761000.out) (by decide)) (fun k_ hk => ⟨trivial,hk.2⟩))) (fun _ h_ => h_)))
    (case aB => exact (by repeat (first|(with_reducible first|exact HB.out|apply bwA|apply bwN|apply bwD|refine bwS ?_ GE758.out|refine bwS ?_ GE759.out|refine bwS ?_ GE760.out)|exact HB.out)))
    (case aF => exact (fun _ _ => trivial))
    (case aO => exact (by (with_reducible repeat (first|apply Kd.S_alloc|apply Kd.S_drewN|apply Kd.S_drew));exact Kd.S_mono HO_761000.out (fun k_ hk => ⟨trivial,fun e_ => hk.2 e_⟩)))
    (case aS => exact (bwZ (by repeat (first|(with_reducible first|exact HB.out|apply bwA|apply bwN|apply bwD|refine bwS ?_ GE758.out|refine bwS ?_ GE759.out|refine bwS ?_ GE760.out)|exact HB.out))))
    (case aL => have := LMc13.out;omega)
    intro v768 w20 ho hb hg hat
    rw [← Ny767.out] at ho
    have n0_ := As_ (blk_grown (g := gb758) (o := .cells #[.slice (some ad761) l0_0.length c0_0,.int .i64 a0_1] 25 (0,0)) (by (with_reducible repeat (first|refine bkN ?_ _|refine bkD ?_|refine bkA ?_ _));exact BK758.out) hg (Kd.S_ne HO_761000.out BK758.out (by decide)))
    have n1_ := As_ (blk_grown (g := gb759) (o := .cells #[.slice none 0 0,.int .i64 0] 25 (0,0)) (by (with_reducible repeat (first|refine bkN ?_ _|refine bkD ?_|refine bkA ?_ _));exact BK759.out) hg (Kd.S_ne HO_761000.out BK759.out (by decide)))
    have n2_ := As_ (blk_grown (g := gb760) (o := .cells #[u761000,.int .i64 a0_1] 25 (0,0)) (by (with_reducible repeat (first|refine bkN ?_ _|refine bkD ?_|refine bkA ?_ _));exact BK760.out) hg (Kd.S_ne HO_761000.out BK760.out (by decide)))
    have n3_ := As_ (hb)
    have n4_ := As_ (ho)
    clear BK758
    clear BK759
    clear BK760
    clear HB
    clear HO_761000
    clear HO766
    have BK758 := n0_
    have BK759 := n1_
    have BK760 := n2_
    have HB := n3_
    have HO769 := n4_
    clear n0_ n1_ n2_ n3_ n4_
    clear ho hb hg hat
    obtain ⟨Ao21,co21,eo21⟩ := Kd.S_slice HO769.out
    (first|subst eo21|(injection eo21 with f1_ f2_ f3_;have f4_ := f1_.symm;have f5_ := f3_.symm;clear f1_ f2_ f3_;subst f4_;subst f5_))
    refine hK.out _ _ ⟨(bkC BK760.out 0).trans rfl,(bkC BK760.out 1).trans rfl,(bkC BK758.out 0).trans rfl,(bkC BK758.out 1).trans rfl,((HB.out.cell (bwL w _ hw761_0)).trans hw761_0),((HB.out.cell (bwL w _ hw761_1)).trans hw761_1),((HB.out.cell (bwL w _ hw761_2)).trans hw761_2),((HB.out.cell (bwL w _ hw762_0)).trans hw762_0),((HB.out.cell (bwL w _ hw762_1)).trans hw762_1),((HB.out.cell (bwL w _ hw762_2)).trans hw762_2),((HB.out.cell (bwL w _ hw763_0)).trans hw763_0),((HB.out.cell (bwL w _ hw763_1)).trans hw763_1),((HB.out.cell (bwL w _ hw763_2)).trans hw763_2)⟩ (fun hHeld => ?_)
    clear hK K
    refine norm_ (a' := ?_) ?_ ?_
    rotate_left
    ·show Act.put _ (some 38) _ = _
     simp only [Act.put,sq_,i64_w,i32_w]
     rfl
    refine pP 24 39 (bl_ 33554431 26) ?_ HT_ rfl rfl (by kernel_rfl) (fun _ _ _ h => h) (.inl ⟨by rfl,?_⟩) ?_ ?_ ?_;rotate_left;(intro w';go_simp;with_reducible rfl);rotate_left;(simp only [Act.put,sq_,i64_w,i32_w];rfl)
    refine last_ (i := 25) (N := none) (bl_ 67108863 26) rfl rfl (one_of HT_.out (by kernel_rfl)) (by decide) (fun K hK => ?_)
    have hs22 : w20.cell? ⟨gb760,0,none⟩ = some (u761000) := (bkC BK760.out 0).trans rfl
    have hfs22 := bkF BK760.out 0
    have hns22_0 := NB758_760.out
    have hns22_1 := NB759_760.out
    have hms22_0 := NB760_758.out
    have hms22_1 := NB760_759.out
    refine skip_ (w1 := ?_) (by rfl) rfl ?_ ?_
    rotate_left
    ·go_simp
     rfl
    refine hK.out _ _ ?_
    clear hK K
    refine done_ (done_of HT_.out (by kernel_rfl)) ?_
    try go_wp2
    go_roundg k1
    case measure => have := HK1.out;omega
    case rel => exact ⟨(wrap64 (x4_1 + 1)),(y767),(.slice Ao21 y767.length co21),(by first|rfl|(simp;done)|(simp [*];done)),H',⟨by have := HK1.out;omega⟩,⟨by (with_reducible repeat (first|apply Kd.S_alloc|apply Kd.S_drewN|apply Kd.S_drew));exact Kd.S_mono (Kd.S_far (p := ⟨gb760,0,none⟩) (Kd.S_types HO769.out BK760.out (by decide)) (fun _ hk => hk.2) (.slice Ao21 y767.length co21)) (fun _ hk => trivial)⟩,⟨by (with_reducible repeat (first|refine bkN ?_ _|refine bkD ?_|refine bkA ?_ _));refine blk_far ?_ NB758_760.out _;(with_reducible repeat (first|refine bkN ?_ _|refine bkD ?_|refine bkA ?_ _));exact BK758.out⟩,⟨by (with_reducible repeat (first|refine bkN ?_ _|refine bkD ?_|refine bkA ?_ _));refine blk_far ?_ NB759_760.out _;(with_reducible repeat (first|refine bkN ?_ _|refine bkD ?_|refine bkA ?_ _));exact BK759.out⟩,⟨by (with_reducible repeat (first|refine bkN ?_ _|refine bkD ?_|refine bkA ?_ _));refine blk_put (cs := #[u761000,.int .i64 a0_1]) ?_ 0 _ rfl;(with_reducible repeat (first|refine bkN ?_ _|refine bkD ?_|refine bkA ?_ _));exact BK760.out⟩,⟨by repeat (first|(with_reducible first|exact HB.out|apply bwA|apply bwN|apply bwD|refine bwS ?_ GE758.out|refine bwS ?_ GE759.out|refine bwS ?_ GE760.out)|exact HB.out)⟩⟩
   ·rw [if_neg c10] at H
    have c10b0 : decide (x4_1 < (l0_0.length : Int)) = false := deF c10
    clear c10
    simp only [Option.some.injEq,Prod.mk.injEq] at H
    obtain ⟨rfl,rfl⟩ := H
    have hnb23 := NB758_759.out
    have hnc23 := NB759_758.out
    have hnb24 := NB758_760.out
    have hnc24 := NB760_758.out
    have hcz25_0 : wr.cell? ⟨gb758,0,none⟩ = some (.slice A0_0 l0_0.length c0_0) := (bkC BK758.out 0).trans rfl
    have hcz25_1 : wr.cell? ⟨gb758,1,none⟩ = some (.int .i64 a0_1) := (bkC BK758.out 1).trans rfl
    have hfz25_0 := bkF BK758.out 0
    have hfz25_1 := bkF BK758.out 1
    have hnb26 := NB760_759.out
    have hnc26 := NB759_760.out
    have hcz27_0 : wr.cell? ⟨gb760,0,none⟩ = some (u761000) := (bkC BK760.out 0).trans rfl
    have hcz27_1 : wr.cell? ⟨gb760,1,none⟩ = some (.int .i64 a0_1) := (bkC BK760.out 1).trans rfl
    have hfz27_0 := bkF BK760.out 0
    have hfz27_1 := bkF BK760.out 1
    obtain ⟨Ao28,co28,eo28⟩ := Kd.S_slice HO_761000.out
    subst eo28
    have hcz29_0 : wr.cell? ⟨gb759,0,none⟩ = some (.slice none 0 0) := (bkC BK759.out 0).trans rfl
    have hcz29_1 : wr.cell? ⟨gb759,1,none⟩ = some (.int .i64 0) := (bkC BK759.out 1).trans rfl
    have hfz29_0 := bkF BK759.out 0
    have hfz29_1 := bkF BK759.out 1
    go_wp2
    refine bodyPost_ret (results_cell_row rfl _ _ gb759 25 #[.slice Ao28 x761000_1.length co28,.int .i64 a0_1] (0,0) _ rfl (by (with_reducible repeat (first|refine bkN ?_ _|refine bkD ?_|refine bkA ?_ _));refine blk_put (cs := #[.slice Ao28 x761000_1.length co28,.int .i64 0]) ?_ 1 _ rfl;(with_reducible repeat (first|refine bkN ?_ _|refine bkD ?_|refine bkA ?_ _));refine blk_put (cs := #[.slice none 0 0,.int .i64 0]) ?_ 0 _ rfl;(with_reducible repeat (first|refine bkN ?_ _|refine bkD ?_|refine bkA ?_ _));exact BK759.out) Try.underlying25 rfl (by kernel_rfl)) rfl ?_
    exact ⟨_,by first|rfl|(simp [errW_none,errW_some] <;> rfl)|(simp [*,errW_none,errW_some] <;> rfl),by (with_reducible repeat (first|apply Kd.S_alloc|apply Kd.S_drewN|apply Kd.S_drew));exact Kd.S_mono (Kd.S_far (p := ⟨gb759,1,none⟩) (Kd.S_far (p := ⟨gb759,0,none⟩) (Kd.S_types HO_761000.out BK759.out (by decide)) (fun _ hk => hk.2) (.slice Ao28 x761000_1.length co28)) (fun _ hk => hk.2) (.int .i64 a0_1)) (fun _ hk => trivial),by repeat (first|(with_reducible first|exact HB.out|apply bwA|apply bwN|apply bwD|refine bwS ?_ GE758.out|refine bwS ?_ GE759.out|refine bwS ?_ GE760.out)|exact HB.out)⟩

/-! ### spec_firstText: function 62 -/
def spec_firstText.l0 : Nat → Int → Int → List (S58) → Int → Option (Int)
 | 0,_,_,_,_ => none
 | k + 1,x1,x5,x771000,x771001 => if x5 < x1 then (if 0 ≤ x5 then (if x5 < (x771000.length : Int) then (if 0 ≤ x1 then (if x1 < (x771000.length : Int) then ((spec_sameKey.f ((rd_T58 x771000 x5).f0) ((rd_T58 x771000 x5).f1) ((rd_T58 x771000 x5).f2) ((rd_T58 x771000 x1).f0) ((rd_T58 x771000 x1).f1) ((rd_T58 x771000 x1).f2)).bind fun t774 => (if t774 = true then (some x5) else (spec_firstText.l0 k x1 (wrap64 (x5 + 1)) x771000 x771001))) else (none)) else (none)) else (none)) else (none)) else (some x1)
def spec_firstText.f (k : Nat) (l0_0 : List (S58)) (a0_1 : Int) (a1 : Int) : Option (Int) := if 0 ≤ a1 then (if a1 < (l0_0.length : Int) then (if ((rd_T58 l0_0 a1).f0) = 1 then (spec_firstText.l0 k a1 0 l0_0 a0_1) else (some a1)) else (none)) else (none)
set_option maxRecDepth 100000 in
theorem spec_firstText.mono_l : ∀ k,(∀ y0 y1 y2 y3,LeO (spec_firstText.l0 k y0 y1 y2 y3) (spec_firstText.l0 (k + 1) y0 y1 y2 y3))
 | 0 => fun _ _ _ _ r h => (by cases h)
 | k + 1 => by
  have ih0 := spec_firstText.mono_l k
  ·intro y0 y1 y2 y3
   unfold spec_firstText.l0
   repeat' first
   | (with_reducible exact ih0 _ _ _ _)
   | (with_reducible exact LeO.refl _)
   | (with_reducible exact LeO.none _)
   | (with_reducible refine LeO.ite ?_ ?_)
   | (with_reducible refine LeO.bind ?_ (fun _ => ?_))
   | exact ih0 _ _ _ _
   | exact LeO.none _
   | refine LeO.ite ?_ ?_
   | refine LeO.bind ?_ (fun _ => ?_)
set_option maxRecDepth 100000 in
theorem spec_firstText.mono : ∀ a0 a1 a2 k,LeO (spec_firstText.f k a0 a1 a2) (spec_firstText.f (k + 1) a0 a1 a2) := by
 intro a0 a1 a2 k
 have ih0 := spec_firstText.mono_l k
 unfold spec_firstText.f
 repeat' first
   | (with_reducible exact ih0 _ _ _ _)
   | (with_reducible exact LeO.refl _)
   | (with_reducible exact LeO.none _)
   | (with_reducible refine LeO.ite ?_ ?_)
   | (with_reducible refine LeO.bind ?_ (fun _ => ?_))
   | exact ih0 _ _ _ _
   | exact LeO.none _
   | refine LeO.ite ?_ ?_
   | refine LeO.bind ?_ (fun _ => ?_)
def spec_firstText.T6 : Bool × List (List Nat × List Nat) := (true,[([],[]),([0],[0]),([],[]),([1,2],[1,2]),([3],[3]),([],[]),([5],[5]),([],[]),([6,7],[6,7]),([8],[8]),([4,9],[4,9])])
def spec_firstText.B6 : List Nat := [0,1,0,7,15,0,32,0,224,480,1023]
theorem spec_firstText.tab6 : rtab .any (opsOf Try.f62 6) = spec_firstText.T6 := by kernel_rfl
theorem spec_firstText.bits6 : waitsOk spec_firstText.T6.2 spec_firstText.B6 = true := by kernel_rfl
set_option maxHeartbeats 8000000 in
set_option maxRecDepth 100000 in
theorem spec_firstText.calls (k : Nat) (A0_0 : Option Addr) (c0_0 : Nat) (l0_0 : List (S58)) (a0_1 : Int) (a1 : Int) (r : Int) (w : World) (hr0_0 : Kd.C k58 w A0_0 l0_0.length l0_0) (hc0_0 : l0_0.length ≤ c0_0) (h : spec_firstText.f k l0_0 a0_1 a1 = some r) :
  Calls Try.prog 62 #[.agg #[.slice A0_0 l0_0.length c0_0,.int .i64 a0_1],.int .i64 a1] w fun e w' => e = .returned (.int .i64 r) ∧ Below w.heap.size w w' := by
 have hu25 := Try.underlying25
 have hu58 := Try.underlying58
 have HR0_0 := As_ hr0_0
 have HC0_0 := As_ hc0_0
 clear hr0_0 hc0_0
 have HB := As_ (Below.refl w.heap.size w)
 have H : (if 0 ≤ a1 then (if a1 < (l0_0.length : Int) then (if ((rd_T58 l0_0 a1).f0) = 1 then (spec_firstText.l0 k a1 0 l0_0 a0_1) else (some a1)) else (none)) else (none)) = some r := h
 clear h
 by_cases c3 : 0 ≤ a1
 rotate_left
 ·rw [if_neg c3] at H
  exact absurd H (by simp)
 rw [if_pos c3] at H
 have c3b0 : decide (0 ≤ a1) = true := deT c3
 clear c3
 by_cases c4 : a1 < (l0_0.length : Int)
 rotate_left
 ·rw [if_neg c4] at H
  exact absurd H (by simp)
 rw [if_pos c4] at H
 have c4b0 : decide (a1 < (l0_0.length : Int)) = true := deT c4
 clear c4
 by_cases c5 : ((rd_T58 l0_0 a1).f0) = 1
 ·rw [if_pos c5] at H
  have c5b0 : (((rd_T58 l0_0 a1).f0) == 1) = true := beq_iff_eq.mpr c5
  have c5b1 : (((rd_T58 l0_0 a1).f0) != 1) = false := bne_eq_false_iff_eq.mpr c5
  clear c5
  have H' := As_ H
  clear H
  go_enter Try.func62,Try.ntmps62
  go_wp2_with (first|((with_reducible refine gate_dst (N := 2) rfl ?_);refine box_event ?hg (N := 2) ?hd (cs := #[.slice A0_0 l0_0.length c0_0,.int .i64 a0_1]) (t := 25) ?hr ?_;(case hd => rfl);(case hg => rfl);(case hr => go_simp <;> rfl);intro gb770 hg w6 hbox hb;have n0_ := As_ (bwT (by repeat (first|(with_reducible first|exact HB.out|apply bwA|apply bwN|apply bwD)|exact HB.out)) hb);have n1_ := As_ (hbox);have n2_ := As_ ((by rw [hg];exact (bwZ (by repeat (first|(with_reducible first|exact HB.out|apply bwA|apply bwN|apply bwD)|exact HB.out))) : w.heap.size ≤ gb770));have n3_ := As_ ((by rw [hg];exact (bwZ (by repeat (first|(with_reducible first|exact HB.out|apply bwA|apply bwN|apply bwD)|exact HB.out))) : w.heap.size ≤ gb770));clear HB;have HB := n0_;have BK770 := n1_;have GW770 := n2_;have GE770 := n3_;clear n0_ n1_ n2_ n3_;clear hb hbox hg;have hcz7_0 : w6.cell? ⟨gb770,0,none⟩ = some (.slice A0_0 l0_0.length c0_0) := (bkC BK770.out 0).trans rfl;have hcz7_1 : w6.cell? ⟨gb770,1,none⟩ = some (.int .i64 a0_1) := (bkC BK770.out 1).trans rfl;have hfz7_0 := bkF BK770.out 0;have hfz7_1 := bkF BK770.out 1;have p771 : 0 ≤ (a1 : Int) := odT (by first|(with_reducible assumption)|assumption);have q771 : a1 < (l0_0.length : Int) := odT (by first|(with_reducible assumption)|assumption);obtain ⟨ad771,A771_2,c771_2,e771,hx771_0,hx771_1,hx771_2,hl771_2,hi771_2⟩ := at_T58 HR0_0.out a1 p771 q771;cases e771;replace hx771_0 := (HB.out.cell (bwL w _ hx771_0)).trans hx771_0;replace hx771_1 := (HB.out.cell (bwL w _ hx771_1)).trans hx771_1;replace hx771_2 := (HB.out.cell (bwL w _ hx771_2)).trans hx771_2;have HR771_2 := As_ hi771_2;have HC771_2 := As_ hl771_2;clear hi771_2 hl771_2;replace p771 := eq_true p771;replace q771 := eq_true q771))
  go_loopg [5] k (fun kq v5 w' => ∃ (x5_1 : Int),v5 = .int .i64 x5_1 ∧ Aside0 (spec_firstText.l0 kq a1 x5_1 l0_0 a0_1 = some r) ∧ Aside0 (kq ≤ k) ∧ Aside0 (w'.heap[gb770]? = some (.cells #[(.slice (some ad771) l0_0.length c0_0),.int .i64 a0_1] 25 (0,0))) ∧ Aside0 (Below w.heap.size w w'))
  case atStart => exact ⟨(0),(by first|rfl|(simp;done)|(simp [*];done)),H',⟨Nat.le_refl _⟩,⟨by (with_reducible repeat (first|refine bkN ?_ _|refine bkD ?_|refine bkA ?_ _));exact BK770.out⟩,⟨by repeat (first|(with_reducible first|exact HB.out|apply bwA|apply bwN|apply bwD|refine bwS ?_ GE770.out)|exact HB.out)⟩⟩
  case round =>
   clear H'
   try clear p2
   try clear c3
   try clear c3b0
   try clear c4
   try clear c4b0
   try clear c5
   try clear c5b0
   try clear c5b1
   try clear c6
   try clear c7
   try clear p7
   try clear q7
   try clear hx7
   try clear hcz7_0
   try clear hcz7_1
   try clear hfz7_0
   try clear hfz7_1
   try clear hx771_0
   try clear hx771_1
   try clear hx771_2
   try clear p771
   try clear q771
   obtain ⟨x5_1,rfl,HA,HK1,BK770,HB⟩ := hrel
   cases gk with
   | zero => exact absurd HA.out (fun h_ => (by cases h_))
   | succ k1 =>
    have H := HA.out
    clear HA
    simp only [spec_firstText.l0] at H
    by_cases c8 : x5_1 < a1
    ·rw [if_pos c8] at H
     have c8b0 : decide (x5_1 < a1) = true := deT c8
     clear c8
     by_cases c9 : 0 ≤ x5_1
     rotate_left
     ·rw [if_neg c9] at H
      exact absurd H (by simp)
     rw [if_pos c9] at H
     have c9b0 : decide (0 ≤ x5_1) = true := deT c9
     clear c9
     by_cases c10 : x5_1 < (l0_0.length : Int)
     rotate_left
     ·rw [if_neg c10] at H
      exact absurd H (by simp)
     rw [if_pos c10] at H
     have c10b0 : decide (x5_1 < (l0_0.length : Int)) = true := deT c10
     clear c10
     by_cases c11 : 0 ≤ a1
     rotate_left
     ·rw [if_neg c11] at H
      exact absurd H (by simp)
     rw [if_pos c11] at H
     have c11b0 : decide (0 ≤ a1) = true := deT c11
     clear c11
     by_cases c12 : a1 < (l0_0.length : Int)
     rotate_left
     ·rw [if_neg c12] at H
      exact absurd H (by simp)
     rw [if_pos c12] at H
     have c12b0 : decide (a1 < (l0_0.length : Int)) = true := deT c12
     clear c12
     replace H := obS H
     obtain ⟨t774,A130,H⟩ := H
     replace H : (if t774 = true then (some x5_1) else (spec_firstText.l0 k1 a1 (wrap64 (x5_1 + 1)) l0_0 a0_1)) = some r := H
     have A13 := As_ A130
     clear A130
     by_cases c14 : t774 = true
     ·subst c14
      have H1 : (some x5_1) = some r := by rw [if_pos rfl] at H;exact H
      clear H
      have H := H1
      clear H1
      obtain rfl := Option.some.inj H
      try go_wp2
      have n0_ := As_ (bkD BK770.out)
      have n1_ := As_ (bwD HB.out)
      clear BK770
      clear HB
      have BK770 := n0_
      have HB := n1_
      clear n0_ n1_
      have p772 : 0 ≤ (x5_1 : Int) := odT (by first|(with_reducible assumption)|assumption)
      have q772 : x5_1 < (l0_0.length : Int) := odT (by first|(with_reducible assumption)|assumption)
      obtain ⟨ad772,A772_2,c772_2,e772,hx772_0,hx772_1,hx772_2,hl772_2,hi772_2⟩ := at_T58 HR0_0.out x5_1 p772 q772
      have hw772_2 := hx772_2
      have hw772_1 := hx772_1
      have hw772_0 := hx772_0
      obtain rfl : ad771 = ad772 := (by injection e772)
      replace hx772_0 := (HB.out.cell (bwL w _ hx772_0)).trans hx772_0
      replace hx772_1 := (HB.out.cell (bwL w _ hx772_1)).trans hx772_1
      replace hx772_2 := (HB.out.cell (bwL w _ hx772_2)).trans hx772_2
      have HR772_2 := As_ hi772_2
      have HC772_2 := As_ hl772_2
      clear hi772_2 hl772_2
      replace p772 := eq_true p772
      replace q772 := eq_true q772
      have p773 : 0 ≤ (a1 : Int) := odT (by first|(with_reducible assumption)|assumption)
      have q773 : a1 < (l0_0.length : Int) := odT (by first|(with_reducible assumption)|assumption)
      obtain ⟨ad773,A773_2,c773_2,e773,hx773_0,hx773_1,hx773_2,hl773_2,hi773_2⟩ := at_T58 HR0_0.out a1 p773 q773
      have hw773_2 := hx773_2
      have hw773_1 := hx773_1
      have hw773_0 := hx773_0
      obtain rfl : ad771 = ad773 := (by injection e773)
      replace hx773_0 := (HB.out.cell (bwL w _ hx773_0)).trans hx773_0
      replace hx773_1 := (HB.out.cell (bwL w _ hx773_1)).trans hx773_1
      replace hx773_2 := (HB.out.cell (bwL w _ hx773_2)).trans hx773_2
      have HR773_2 := As_ hi773_2
      have HC773_2 := As_ hl773_2
      clear hi773_2 hl773_2
      replace p773 := eq_true p773
      replace q773 := eq_true q773
      refine start_ (n := 11) (S := fun w' => w'.cell? ⟨gb770,0,none⟩ = some (.slice (some ad771) l0_0.length c0_0) ∧ w'.cell? ⟨gb770,1,none⟩ = some (.int .i64 a0_1) ∧ w'.cell? (ad771.add ((x5_1).toNat * 3)) = some (.int .i64 ((rd_T58 l0_0 x5_1).f0)) ∧ w'.cell? ⟨(ad771.add ((x5_1).toNat * 3)).block,(ad771.add ((x5_1).toNat * 3)).off + 1,none⟩ = some (.int .i64 ((rd_T58 l0_0 x5_1).f1)) ∧ w'.cell? ⟨(ad771.add ((x5_1).toNat * 3)).block,(ad771.add ((x5_1).toNat * 3)).off + 2,none⟩ = some (.slice A772_2 ((rd_T58 l0_0 x5_1).f2).length c772_2) ∧ w'.cell? (ad771.add ((a1).toNat * 3)) = some (.int .i64 ((rd_T58 l0_0 a1).f0)) ∧ w'.cell? ⟨(ad771.add ((a1).toNat * 3)).block,(ad771.add ((a1).toNat * 3)).off + 1,none⟩ = some (.int .i64 ((rd_T58 l0_0 a1).f1)) ∧ w'.cell? ⟨(ad771.add ((a1).toNat * 3)).block,(ad771.add ((a1).toNat * 3)).off + 2,none⟩ = some (.slice A773_2 ((rd_T58 l0_0 a1).f2).length c773_2)) (ds := []) (bl_ 0 11) (by kernel_rfl) rfl rfl ⟨(bkC BK770.out 0).trans rfl,(bkC BK770.out 1).trans rfl,((HB.out.cell (bwL w _ hw772_0)).trans hw772_0),((HB.out.cell (bwL w _ hw772_1)).trans hw772_1),((HB.out.cell (bwL w _ hw772_2)).trans hw772_2),((HB.out.cell (bwL w _ hw773_0)).trans hw773_0),((HB.out.cell (bwL w _ hw773_1)).trans hw773_1),((HB.out.cell (bwL w _ hw773_2)).trans hw773_2)⟩ (fun hHeld => ?_);refine with_tabW spec_firstText.tab6 spec_firstText.bits6 (fun HT_ HW_ => ?_)
      generalize wr.drew = w15 at BK770 HB HR772_2 HR773_2 hx772_0 hx772_1 hx772_2 hx773_0 hx773_1 hx773_2 hHeld ⊢
      refine pP 0 19 (bl_ 1 11) ?_ HT_ rfl rfl (by kernel_rfl) (fun _ _ _ h => h) (.inl ⟨by rfl,?_⟩) ?_ ?_ ?_;rotate_left;(intro w';go_simp;with_reducible rfl);rotate_left;(simp only [Act.put,sq_,i64_w,i32_w];rfl)
      refine pP 2 21 (bl_ 5 11) ?_ HT_ rfl rfl (by kernel_rfl) (fun _ _ _ h => h) (.inl ⟨by rfl,?_⟩) ?_ ?_ ?_;rotate_left;(intro w';go_simp;with_reducible rfl);rotate_left;(simp only [Act.put,sq_,i64_w,i32_w];rfl)
      refine pP 5 24 (bl_ 37 11) ?_ HT_ rfl rfl (by kernel_rfl) (fun _ _ _ h => h) (.inl ⟨by rfl,?_⟩) ?_ ?_ ?_;rotate_left;(intro w';go_simp;with_reducible rfl);rotate_left;(simp only [Act.put,sq_,i64_w,i32_w];rfl)
      refine pP 7 26 (bl_ 165 11) ?_ HT_ rfl rfl (by kernel_rfl) (fun _ _ _ h => h) (.inl ⟨by rfl,?_⟩) ?_ ?_ ?_;rotate_left;(intro w';go_simp;with_reducible rfl);rotate_left;(simp only [Act.put,sq_,i64_w,i32_w];rfl)
      refine tP 1 20 (bl_ 167 11) ?_ HT_ HW_ rfl rfl (by kernel_rfl) (fun _ _ _ h => h) (.inl ⟨by rfl,?_⟩) hHeld ?_ ?_ ?_;rotate_left;(rintro w' ⟨s0,s1,s2,s3,s4,s5,s6,s7⟩;go_simp;with_reducible rfl);rotate_left;(simp only [Act.put,sq_,i64_w,i32_w];rfl)
      refine pP 3 22 (bl_ 175 11) ?_ HT_ rfl rfl (by kernel_rfl) (fun _ _ _ h => h) (.inl ⟨by rfl,?_⟩) ?_ ?_ ?_;rotate_left;(intro w';go_simp;with_reducible rfl);rotate_left;(simp only [Act.put,sq_,i64_w,i32_w];rfl)
      refine tP 4 23 (bl_ 191 11) ?_ HT_ HW_ rfl rfl (by kernel_rfl) (fun _ _ _ h => h) (.inl ⟨by rfl,?_⟩) hHeld ?_ ?_ ?_;rotate_left;(rintro w' ⟨s0,s1,s2,s3,s4,s5,s6,s7⟩;go_simp;with_reducible rfl);rotate_left;(simp only [Act.put,sq_,i64_w,i32_w];rfl)
      refine tP 6 25 (bl_ 255 11) ?_ HT_ HW_ rfl rfl (by kernel_rfl) (fun _ _ _ h => h) (.inl ⟨by rfl,?_⟩) hHeld ?_ ?_ ?_;rotate_left;(rintro w' ⟨s0,s1,s2,s3,s4,s5,s6,s7⟩;go_simp;with_reducible rfl);rotate_left;(simp only [Act.put,sq_,i64_w,i32_w];rfl)
      refine pP 8 27 (bl_ 511 11) ?_ HT_ rfl rfl (by kernel_rfl) (fun _ _ _ h => h) (.inl ⟨by rfl,?_⟩) ?_ ?_ ?_;rotate_left;(intro w';go_simp;with_reducible rfl);rotate_left;(simp only [Act.put,sq_,i64_w,i32_w];rfl)
      refine tP 9 28 (bl_ 1023 11) ?_ HT_ HW_ rfl rfl (by kernel_rfl) (fun _ _ _ h => h) (.inl ⟨by rfl,?_⟩) hHeld ?_ ?_ ?_;rotate_left;(rintro w' ⟨s0,s1,s2,s3,s4,s5,s6,s7⟩;go_simp;with_reducible rfl);rotate_left;(simp only [Act.put,sq_,i64_w,i32_w];rfl)
      refine one_ (i := 10) (N := some 29) (bl_ 2047 11) rfl rfl (one_of HT_.out (by kernel_rfl)) (by decide) (fun K hK => ?_)
      refine goes_ Try.func91 (by kernel_rfl) rfl #[.agg #[.int .i64 ((rd_T58 l0_0 x5_1).f0),.int .i64 ((rd_T58 l0_0 x5_1).f1),.slice A772_2 ((rd_T58 l0_0 x5_1).f2).length c772_2],.agg #[.int .i64 ((rd_T58 l0_0 a1).f0),.int .i64 ((rd_T58 l0_0 a1).f1),.slice A773_2 ((rd_T58 l0_0 a1).f2).length c773_2]] (by rfl) rfl rfl (by (try simp only [List.map_toArray,List.map_cons,List.map_nil]);first|done|rfl|(simp only [List.length_drop,List.length_take];rfl)) ?_
      with_reducible refine (spec_sameKey.calls ((rd_T58 l0_0 x5_1).f0) ((rd_T58 l0_0 x5_1).f1) _ _ ((rd_T58 l0_0 x5_1).f2) ((rd_T58 l0_0 a1).f0) ((rd_T58 l0_0 a1).f1) _ _ ((rd_T58 l0_0 a1).f2) true _ ?side1 ?side2 ?side3 ?side4 A13.out).mono ?_
      (case side1 => repeat (first|exact (Kd.C_below HR772_2.out HB.out)|(with_reducible refine Kd.C_alloc ?_ _)|(with_reducible refine Kd.C_drewN ?_ _)|(with_reducible refine Kd.C_drew ?_)))
      (case side2 => exact HC772_2.out)
      (case side3 => repeat (first|exact (Kd.C_below HR773_2.out HB.out)|(with_reducible refine Kd.C_alloc ?_ _)|(with_reducible refine Kd.C_drewN ?_ _)|(with_reducible refine Kd.C_drew ?_)))
      (case side4 => exact HC773_2.out)
      rintro e w16 ⟨rfl,hb⟩
      refine ⟨_,rfl,?_⟩
      have n0_ := As_ (blk_below (g := gb770) (o := .cells #[.slice (some ad771) l0_0.length c0_0,.int .i64 a0_1] 25 (0,0)) (by (with_reducible repeat (first|refine bkN ?_ _|refine bkD ?_|refine bkA ?_ _));exact BK770.out) hb)
      have n1_ := As_ (bwT (by repeat (first|(with_reducible first|exact HB.out|apply bwA|apply bwN|apply bwD|refine bwS ?_ GE770.out)|exact HB.out)) hb)
      clear BK770
      clear HB
      have BK770 := n0_
      have HB := n1_
      clear n0_ n1_
      (try clear hb)
      (try clear hb2)
      (try clear hk)
      (try clear hi)
      refine hK.out _ _ ⟨(bkC BK770.out 0).trans rfl,(bkC BK770.out 1).trans rfl,((HB.out.cell (bwL w _ hw772_0)).trans hw772_0),((HB.out.cell (bwL w _ hw772_1)).trans hw772_1),((HB.out.cell (bwL w _ hw772_2)).trans hw772_2),((HB.out.cell (bwL w _ hw773_0)).trans hw773_0),((HB.out.cell (bwL w _ hw773_1)).trans hw773_1),((HB.out.cell (bwL w _ hw773_2)).trans hw773_2)⟩ (fun hHeld => ?_)
      clear hK K
      refine norm_ (a' := ?_) ?_ ?_
      rotate_left
      ·show Act.put _ (some 29) _ = _
       simp only [Act.put,sq_,i64_w,i32_w]
       rfl
      refine done_ (done_of HT_.out (by kernel_rfl)) ?_
      try go_wp2
      go_ret
      exact ⟨by first|rfl|(simp [errW_none,errW_some] <;> rfl)|(simp [*,errW_none,errW_some] <;> rfl),by repeat (first|(with_reducible first|exact HB.out|apply bwA|apply bwN|apply bwD|refine bwS ?_ GE770.out)|exact HB.out)⟩
     ·replace c14 := Bool.eq_false_iff.mpr c14
      subst c14
      have H1 : (spec_firstText.l0 k1 a1 (wrap64 (x5_1 + 1)) l0_0 a0_1) = some r := by rw [if_neg (show ¬ (false = true) by decide)] at H;exact H
      clear H
      have H := H1
      clear H1
      have H' := As_ H
      clear H
      try go_wp2
      have n0_ := As_ (bkD BK770.out)
      have n1_ := As_ (bwD HB.out)
      clear BK770
      clear HB
      have BK770 := n0_
      have HB := n1_
      clear n0_ n1_
      have p772 : 0 ≤ (x5_1 : Int) := odT (by first|(with_reducible assumption)|assumption)
      have q772 : x5_1 < (l0_0.length : Int) := odT (by first|(with_reducible assumption)|assumption)
      obtain ⟨ad772,A772_2,c772_2,e772,hx772_0,hx772_1,hx772_2,hl772_2,hi772_2⟩ := at_T58 HR0_0.out x5_1 p772 q772
      have hw772_2 := hx772_2
      have hw772_1 := hx772_1
      have hw772_0 := hx772_0
      obtain rfl : ad771 = ad772 := (by injection e772)
      replace hx772_0 := (HB.out.cell (bwL w _ hx772_0)).trans hx772_0
      replace hx772_1 := (HB.out.cell (bwL w _ hx772_1)).trans hx772_1
      replace hx772_2 := (HB.out.cell (bwL w _ hx772_2)).trans hx772_2
      have HR772_2 := As_ hi772_2
      have HC772_2 := As_ hl772_2
      clear hi772_2 hl772_2
      replace p772 := eq_true p772
      replace q772 := eq_true q772
      have p773 : 0 ≤ (a1 : Int) := odT (by first|(with_reducible assumption)|assumption)
      have q773 : a1 < (l0_0.length : Int) := odT (by first|(with_reducible assumption)|assumption)
      obtain ⟨ad773,A773_2,c773_2,e773,hx773_0,hx773_1,hx773_2,hl773_2,hi773_2⟩ := at_T58 HR0_0.out a1 p773 q773
      have hw773_2 := hx773_2
      have hw773_1 := hx773_1
      have hw773_0 := hx773_0
      obtain rfl : ad771 = ad773 := (by injection e773)
      replace hx773_0 := (HB.out.cell (bwL w _ hx773_0)).trans hx773_0
      replace hx773_1 := (HB.out.cell (bwL w _ hx773_1)).trans hx773_1
      replace hx773_2 := (HB.out.cell (bwL w _ hx773_2)).trans hx773_2
      have HR773_2 := As_ hi773_2
      have HC773_2 := As_ hl773_2
      clear hi773_2 hl773_2
      replace p773 := eq_true p773
      replace q773 := eq_true q773
      refine start_ (n := 11) (S := fun w' => w'.cell? ⟨gb770,0,none⟩ = some (.slice (some ad771) l0_0.length c0_0) ∧ w'.cell? ⟨gb770,1,none⟩ = some (.int .i64 a0_1) ∧ w'.cell? (ad771.add ((x5_1).toNat * 3)) = some (.int .i64 ((rd_T58 l0_0 x5_1).f0)) ∧ w'.cell? ⟨(ad771.add ((x5_1).toNat * 3)).block,(ad771.add ((x5_1).toNat * 3)).off + 1,none⟩ = some (.int .i64 ((rd_T58 l0_0 x5_1).f1)) ∧ w'.cell? ⟨(ad771.add ((x5_1).toNat * 3)).block,(ad771.add ((x5_1).toNat * 3)).off + 2,none⟩ = some (.slice A772_2 ((rd_T58 l0_0 x5_1).f2).length c772_2) ∧ w'.cell? (ad771.add ((a1).toNat * 3)) = some (.int .i64 ((rd_T58 l0_0 a1).f0)) ∧ w'.cell? ⟨(ad771.add ((a1).toNat * 3)).block,(ad771.add ((a1).toNat * 3)).off + 1,none⟩ = some (.int .i64 ((rd_T58 l0_0 a1).f1)) ∧ w'.cell? ⟨(ad771.add ((a1).toNat * 3)).block,(ad771.add ((a1).toNat * 3)).off + 2,none⟩ = some (.slice A773_2 ((rd_T58 l0_0 a1).f2).length c773_2)) (ds := []) (bl_ 0 11) (by kernel_rfl) rfl rfl ⟨(bkC BK770.out 0).trans rfl,(bkC BK770.out 1).trans rfl,((HB.out.cell (bwL w _ hw772_0)).trans hw772_0),((HB.out.cell (bwL w _ hw772_1)).trans hw772_1),((HB.out.cell (bwL w _ hw772_2)).trans hw772_2),((HB.out.cell (bwL w _ hw773_0)).trans hw773_0),((HB.out.cell (bwL w _ hw773_1)).trans hw773_1),((HB.out.cell (bwL w _ hw773_2)).trans hw773_2)⟩ (fun hHeld => ?_);refine with_tabW spec_firstText.tab6 spec_firstText.bits6 (fun HT_ HW_ => ?_)
      generalize wr.drew = w17 at BK770 HB HR772_2 HR773_2 hx772_0 hx772_1 hx772_2 hx773_0 hx773_1 hx773_2 hHeld ⊢
      refine pP 0 19 (bl_ 1 11) ?_ HT_ rfl rfl (by kernel_rfl) (fun _ _ _ h => h) (.inl ⟨by rfl,?_⟩) ?_ ?_ ?_;rotate_left;(intro w';go_simp;with_reducible rfl);rotate_left;(simp only [Act.put,sq_,i64_w,i32_w];rfl)
      refine pP 2 21 (bl_ 5 11) ?_ HT_ rfl rfl (by kernel_rfl) (fun _ _ _ h => h) (.inl ⟨by rfl,?_⟩) ?_ ?_ ?_;rotate_left;(intro w';go_simp;with_reducible rfl);rotate_left;(simp only [Act.put,sq_,i64_w,i32_w];rfl)
      refine pP 5 24 (bl_ 37 11) ?_ HT_ rfl rfl (by kernel_rfl) (fun _ _ _ h => h) (.inl ⟨by rfl,?_⟩) ?_ ?_ ?_;rotate_left;(intro w';go_simp;with_reducible rfl);rotate_left;(simp only [Act.put,sq_,i64_w,i32_w];rfl)
      refine pP 7 26 (bl_ 165 11) ?_ HT_ rfl rfl (by kernel_rfl) (fun _ _ _ h => h) (.inl ⟨by rfl,?_⟩) ?_ ?_ ?_;rotate_left;(intro w';go_simp;with_reducible rfl);rotate_left;(simp only [Act.put,sq_,i64_w,i32_w];rfl)
      refine tP 1 20 (bl_ 167 11) ?_ HT_ HW_ rfl rfl (by kernel_rfl) (fun _ _ _ h => h) (.inl ⟨by rfl,?_⟩) hHeld ?_ ?_ ?_;rotate_left;(rintro w' ⟨s0,s1,s2,s3,s4,s5,s6,s7⟩;go_simp;with_reducible rfl);rotate_left;(simp only [Act.put,sq_,i64_w,i32_w];rfl)
      refine pP 3 22 (bl_ 175 11) ?_ HT_ rfl rfl (by kernel_rfl) (fun _ _ _ h => h) (.inl ⟨by rfl,?_⟩) ?_ ?_ ?_;rotate_left;(intro w';go_simp;with_reducible rfl);rotate_left;(simp only [Act.put,sq_,i64_w,i32_w];rfl)
      refine tP 4 23 (bl_ 191 11) ?_ HT_ HW_ rfl rfl (by kernel_rfl) (fun _ _ _ h => h) (.inl ⟨by rfl,?_⟩) hHeld ?_ ?_ ?_;rotate_left;(rintro w' ⟨s0,s1,s2,s3,s4,s5,s6,s7⟩;go_simp;with_reducible rfl);rotate_left;(simp only [Act.put,sq_,i64_w,i32_w];rfl)
      refine tP 6 25 (bl_ 255 11) ?_ HT_ HW_ rfl rfl (by kernel_rfl) (fun _ _ _ h => h) (.inl ⟨by rfl,?_⟩) hHeld ?_ ?_ ?_;rotate_left;(rintro w' ⟨s0,s1,s2,s3,s4,s5,s6,s7⟩;go_simp;with_reducible rfl);rotate_left;(simp only [Act.put,sq_,i64_w,i32_w];rfl)
      refine pP 8 27 (bl_ 511 11) ?_ HT_ rfl rfl (by kernel_rfl) (fun _ _ _ h => h) (.inl ⟨by rfl,?_⟩) ?_ ?_ ?_;rotate_left;(intro w';go_simp;with_reducible rfl);rotate_left;(simp only [Act.put,sq_,i64_w,i32_w];rfl)
      refine tP 9 28 (bl_ 1023 11) ?_ HT_ HW_ rfl rfl (by kernel_rfl) (fun _ _ _ h => h) (.inl ⟨by rfl,?_⟩) hHeld ?_ ?_ ?_;rotate_left;(rintro w' ⟨s0,s1,s2,s3,s4,s5,s6,s7⟩;go_simp;with_reducible rfl);rotate_left;(simp only [Act.put,sq_,i64_w,i32_w];rfl)
      refine one_ (i := 10) (N := some 29) (bl_ 2047 11) rfl rfl (one_of HT_.out (by kernel_rfl)) (by decide) (fun K hK => ?_)
      refine goes_ Try.func91 (by kernel_rfl) rfl #[.agg #[.int .i64 ((rd_T58 l0_0 x5_1).f0),.int .i64 ((rd_T58 l0_0 x5_1).f1),.slice A772_2 ((rd_T58 l0_0 x5_1).f2).length c772_2],.agg #[.int .i64 ((rd_T58 l0_0 a1).f0),.int .i64 ((rd_T58 l0_0 a1).f1),.slice A773_2 ((rd_T58 l0_0 a1).f2).length c773_2]] (by rfl) rfl rfl (by (try simp only [List.map_toArray,List.map_cons,List.map_nil]);first|done|rfl|(simp only [List.length_drop,List.length_take];rfl)) ?_
      with_reducible refine (spec_sameKey.calls ((rd_T58 l0_0 x5_1).f0) ((rd_T58 l0_0 x5_1).f1) _ _ ((rd_T58 l0_0 x5_1).f2) ((rd_T58 l0_0 a1).f0) ((rd_T58 l0_0 a1).f1) _ _ ((rd_T58 l0_0 a1).f2) false _ ?side1 ?side2 ?side3 ?side4 A13.out).mono ?_
      (case side1 => repeat (first|exact (Kd.C_below HR772_2.out HB.out)|(with_reducible refine Kd.C_alloc ?_ _)|(with_reducible refine Kd.C_drewN ?_ _)|(with_reducible refine Kd.C_drew ?_)))
      (case side2 => exact HC772_2.out)
      (case side3 => repeat (first|exact (Kd.C_below HR773_2.out HB.out)|(with_reducible refine Kd.C_alloc ?_ _)|(with_reducible refine Kd.C_drewN ?_ _)|(with_reducible refine Kd.C_drew ?_)))
      (case side4 => exact HC773_2.out)
      rintro e w18 ⟨rfl,hb⟩
      refine ⟨_,rfl,?_⟩
      have n0_ := As_ (blk_below (g := gb770) (o := .cells #[.slice (some ad771) l0_0.length c0_0,.int .i64 a0_1] 25 (0,0)) (by (with_reducible repeat (first|refine bkN ?_ _|refine bkD ?_|refine bkA ?_ _));exact BK770.out) hb)
      have n1_ := As_ (bwT (by repeat (first|(with_reducible first|exact HB.out|apply bwA|apply bwN|apply bwD|refine bwS ?_ GE770.out)|exact HB.out)) hb)
      clear BK770
      clear HB
      have BK770 := n0_
      have HB := n1_
      clear n0_ n1_
      (try clear hb)
      (try clear hb2)
      (try clear hk)
      (try clear hi)
      refine hK.out _ _ ⟨(bkC BK770.out 0).trans rfl,(bkC BK770.out 1).trans rfl,((HB.out.cell (bwL w _ hw772_0)).trans hw772_0),((HB.out.cell (bwL w _ hw772_1)).trans hw772_1),((HB.out.cell (bwL w _ hw772_2)).trans hw772_2),((HB.out.cell (bwL w _ hw773_0)).trans hw773_0),((HB.out.cell (bwL w _ hw773_1)).trans hw773_1),((HB.out.cell (bwL w _ hw773_2)).trans hw773_2)⟩ (fun hHeld => ?_)
      clear hK K
      refine norm_ (a' := ?_) ?_ ?_
      rotate_left
      ·show Act.put _ (some 29) _ = _
       simp only [Act.put,sq_,i64_w,i32_w]
       rfl
      refine done_ (done_of HT_.out (by kernel_rfl)) ?_
      try go_wp2
      go_roundg k1
      case measure => have := HK1.out;omega
      case rel => exact ⟨(wrap64 (x5_1 + 1)),(by first|rfl|(simp;done)|(simp [*];done)),H',⟨by have := HK1.out;omega⟩,⟨by (with_reducible repeat (first|refine bkN ?_ _|refine bkD ?_|refine bkA ?_ _));exact BK770.out⟩,⟨by repeat (first|(with_reducible first|exact HB.out|apply bwA|apply bwN|apply bwD|refine bwS ?_ GE770.out)|exact HB.out)⟩⟩
    ·rw [if_neg c8] at H
     have c8b0 : decide (x5_1 < a1) = false := deF c8
     clear c8
     obtain rfl := Option.some.inj H
     go_wp2
     go_ret
     exact ⟨by first|rfl|(simp [errW_none,errW_some] <;> rfl)|(simp [*,errW_none,errW_some] <;> rfl),by repeat (first|(with_reducible first|exact HB.out|apply bwA|apply bwN|apply bwD|refine bwS ?_ GE770.out)|exact HB.out)⟩
 ·rw [if_neg c5] at H
  have c5b0 : (((rd_T58 l0_0 a1).f0) == 1) = false := beq_eq_false_iff_ne.mpr c5
  have c5b1 : (((rd_T58 l0_0 a1).f0) != 1) = true := bne_iff_ne.mpr c5
  obtain rfl := Option.some.inj H
  go_enter Try.func62,Try.ntmps62
  go_wp2_with (first|((with_reducible refine gate_dst (N := 2) rfl ?_);refine box_event ?hg (N := 2) ?hd (cs := #[.slice A0_0 l0_0.length c0_0,.int .i64 a0_1]) (t := 25) ?hr ?_;(case hd => rfl);(case hg => rfl);(case hr => go_simp <;> rfl);intro gb770 hg w19 hbox hb;have n0_ := As_ (bwT (by repeat (first|(with_reducible first|exact HB.out|apply bwA|apply bwN|apply bwD)|exact HB.out)) hb);have n1_ := As_ (hbox);have n2_ := As_ ((by rw [hg];exact (bwZ (by repeat (first|(with_reducible first|exact HB.out|apply bwA|apply bwN|apply bwD)|exact HB.out))) : w.heap.size ≤ gb770));have n3_ := As_ ((by rw [hg];exact (bwZ (by repeat (first|(with_reducible first|exact HB.out|apply bwA|apply bwN|apply bwD)|exact HB.out))) : w.heap.size ≤ gb770));clear HB;have HB := n0_;have BK770 := n1_;have GW770 := n2_;have GE770 := n3_;clear n0_ n1_ n2_ n3_;clear hb hbox hg;have hcz20_0 : w19.cell? ⟨gb770,0,none⟩ = some (.slice A0_0 l0_0.length c0_0) := (bkC BK770.out 0).trans rfl;have hcz20_1 : w19.cell? ⟨gb770,1,none⟩ = some (.int .i64 a0_1) := (bkC BK770.out 1).trans rfl;have hfz20_0 := bkF BK770.out 0;have hfz20_1 := bkF BK770.out 1;have p771 : 0 ≤ (a1 : Int) := odT (by first|(with_reducible assumption)|assumption);have q771 : a1 < (l0_0.length : Int) := odT (by first|(with_reducible assumption)|assumption);obtain ⟨ad771,A771_2,c771_2,e771,hx771_0,hx771_1,hx771_2,hl771_2,hi771_2⟩ := at_T58 HR0_0.out a1 p771 q771;cases e771;replace hx771_0 := (HB.out.cell (bwL w _ hx771_0)).trans hx771_0;replace hx771_1 := (HB.out.cell (bwL w _ hx771_1)).trans hx771_1;replace hx771_2 := (HB.out.cell (bwL w _ hx771_2)).trans hx771_2;have HR771_2 := As_ hi771_2;have HC771_2 := As_ hl771_2;clear hi771_2 hl771_2;replace p771 := eq_true p771;replace q771 := eq_true q771))
  go_ret
  exact ⟨by first|rfl|(simp [errW_none,errW_some] <;> rfl)|(simp [*,errW_none,errW_some] <;> rfl),by repeat (first|(with_reducible first|exact HB.out|apply bwA|apply bwN|apply bwD|refine bwS ?_ GE770.out)|exact HB.out)⟩

end Go.Proofs.Ytapaegcombfafaa.Q
