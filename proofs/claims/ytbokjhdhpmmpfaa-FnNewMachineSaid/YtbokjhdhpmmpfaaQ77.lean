-- Written by wip/tools/qprint.py (a program of this claim's author) by means of the kit's printer.
import Derived.Test.YtbokjhdhpmmpfaaQ0
import Derived.Test.YtbokjhdhpmmpfaaQ56
namespace Go.Proofs.Ytbokjhdhpmmpfaa.Q
open Go.RowKit Go.Proofs.YtbokjhdhpmmpfaaW.PrintWords Go.Proofs.YtbokjhdhpmmpfaaW.PrintLast Go.Proofs.YtbokjhdhpmmpfaaW.PrintMore
attribute [local go_sem] max2_int min2_int max_two min_two max_three min_three max_four min_four   -- for this text's walks alone
set_option linter.unusedVariables false
set_option linter.unusedSimpArgs false

/-! ### spec_newMachine: function 77 -/
def spec_newMachine.l0 : Nat → Int → List Int → Bool → Option ((List (S88)) × List Int × List Int × Bool)
 | 0,_,_,_ => none
 | k + 1,x2,x880002,x880003 => if x2 < 20 then (if x880002.length < 17592186044416 then (spec_newMachine.l0 k (wrap64 (x2 + 1)) (x880002 ++ [(-1)]) x880003) else (none)) else (some (([] : List (S88)),([] : List Int),x880002,x880003))
def spec_newMachine.f (k : Nat)  : Option ((List (S88)) × List Int × List Int × Bool) := spec_newMachine.l0 k 0 ([] : List Int) false
set_option maxRecDepth 100000 in
theorem spec_newMachine.mono_l : ∀ k,(∀ y0 y1 y2,LeO (spec_newMachine.l0 k y0 y1 y2) (spec_newMachine.l0 (k + 1) y0 y1 y2))
 | 0 => fun _ _ _ r h => (by cases h)
 | k + 1 => by
  have ih0 := spec_newMachine.mono_l k
  ·intro y0 y1 y2
   unfold spec_newMachine.l0
   repeat' first
   | (with_reducible exact ih0 _ _ _)
   | (with_reducible exact LeO.refl _)
   | (with_reducible exact LeO.none _)
   | (with_reducible refine LeO.ite ?_ ?_)
   | (with_reducible refine LeO.bind ?_ (fun _ => ?_))
   | exact ih0 _ _ _
   | exact LeO.none _
   | refine LeO.ite ?_ ?_
   | refine LeO.bind ?_ (fun _ => ?_)
set_option maxRecDepth 100000 in
theorem spec_newMachine.mono : ∀ k,LeO (spec_newMachine.f k ) (spec_newMachine.f (k + 1) ) := by
 intro  k
 have ih0 := spec_newMachine.mono_l k
 unfold spec_newMachine.f
 repeat' first
   | (with_reducible exact ih0 _ _ _)
   | (with_reducible exact LeO.refl _)
   | (with_reducible exact LeO.none _)
   | (with_reducible refine LeO.ite ?_ ?_)
   | (with_reducible refine LeO.bind ?_ (fun _ => ?_))
   | exact ih0 _ _ _
   | exact LeO.none _
   | refine LeO.ite ?_ ?_
   | refine LeO.bind ?_ (fun _ => ?_)
set_option maxHeartbeats 8000000 in
set_option maxRecDepth 100000 in
theorem spec_newMachine.calls (k : Nat)  (r1 : List (S88)) (r2 : List Int) (r3 : List Int) (r4 : Bool) (w : World) (h : spec_newMachine.f k  = some (r1,r2,r3,r4)) :
  Calls Try.prog 77 #[] w fun e w' => ∃ v0_ v1_ v2_ : Value,e = .returned (.agg #[v0_,v1_,v2_,.bool r4]) ∧ Kd.S k88 88 w' w.heap.size (fun k_ => some k_ ≠ (v1_ : Value).ownBlock ∧ some k_ ≠ (v2_ : Value).ownBlock) v0_ r1 ∧ Kd.R (Kd.int .i64) 3 w' w.heap.size (fun k_ => some k_ ≠ (v2_ : Value).ownBlock) v1_ r2 ∧ Kd.R (Kd.int .i64) 3 w' w.heap.size (fun k_ => some k_ ≠ (v1_ : Value).ownBlock) v2_ r3 ∧ Below w.heap.size w w' := by
 have hu56 := Try.underlying56
 have HB := Aside0.mk (Below.refl w.heap.size w)
 have H : (spec_newMachine.l0 k 0 ([] : List Int) false) = some (r1,r2,r3,r4) := h
 clear h
 have H' := Aside0.mk H
 clear H
 go_enter Try.func77,Try.ntmps77
 go_wp2_with (first|((with_reducible refine gate_dst (N := 0) rfl ?_);refine box_event ?hg (N := 0) ?hd (cs := #[.slice none 0 0,.slice none 0 0,.slice none 0 0,.bool false]) (t := 56) ?hr ?_;(case hd => rfl);(case hg => rfl);(case hr => first|(go_simp;done)|(go_simp;rfl));intro gb878 hg w1 hbox hb;have n0_ := Aside0.mk (below_step (by repeat (first|(with_reducible first|exact HB.out|apply below_alloc|apply pw_below_drewN|apply below_drew1)|exact HB.out)) hb);have n1_ := Aside0.mk (hbox);have n2_ := Aside0.mk ((by rw [hg];exact (below_size (by repeat (first|(with_reducible first|exact HB.out|apply below_alloc|apply pw_below_drewN|apply below_drew1)|exact HB.out))) : w.heap.size ≤ gb878));have n3_ := Aside0.mk ((by rw [hg];exact (below_size (by repeat (first|(with_reducible first|exact HB.out|apply below_alloc|apply pw_below_drewN|apply below_drew1)|exact HB.out))) : w.heap.size ≤ gb878));clear HB;have HB := n0_;have BK878 := n1_;have GW878 := n2_;have GE878 := n3_;clear n0_ n1_ n2_ n3_;clear hb hbox hg)|((with_reducible refine gate_dst (N := 1) rfl ?_);refine box_event ?hg (N := 1) ?hd (cs := #[.slice none 0 0,.slice none 0 0,.slice none 0 0,.bool false]) (t := 56) ?hr ?_;(case hd => rfl);(case hg => rfl);(case hr => first|(go_simp;done)|(go_simp;rfl));intro gb879 hg w2 hbox hb;have n0_ := Aside0.mk (blk_below (g := gb878) (o := .cells #[.slice none 0 0,.slice none 0 0,.slice none 0 0,.bool false] 56 (0,0)) (by (with_reducible repeat (first|refine blk_drewN ?_ _|refine blk_drew ?_|refine blk_alloc ?_ _));exact BK878.out) hb);have n1_ := Aside0.mk (below_step (by repeat (first|(with_reducible first|exact HB.out|apply below_alloc|apply pw_below_drewN|apply below_drew1|refine below_set ?_ GE878.out)|exact HB.out)) hb);have n2_ := Aside0.mk (hbox);have n3_ := Aside0.mk ((by rw [hg];exact (below_size (by repeat (first|(with_reducible first|exact HB.out|apply below_alloc|apply pw_below_drewN|apply below_drew1|refine below_set ?_ GE878.out)|exact HB.out))) : w.heap.size ≤ gb879));have n4_ := Aside0.mk ((by rw [hg];exact (below_size (by repeat (first|(with_reducible first|exact HB.out|apply below_alloc|apply pw_below_drewN|apply below_drew1|refine below_set ?_ GE878.out)|exact HB.out))) : w.heap.size ≤ gb879));have n5_ := Aside0.mk ((by rw [hg];exact Nat.ne_of_lt (blk_lt (g := gb878) (o := .cells #[.slice none 0 0,.slice none 0 0,.slice none 0 0,.bool false] 56 (0,0)) (by (with_reducible repeat (first|refine blk_drewN ?_ _|refine blk_drew ?_|refine blk_alloc ?_ _));exact BK878.out)) : gb878 ≠ gb879));have n6_ := Aside0.mk ((by rw [hg];exact Nat.ne_of_gt (blk_lt (g := gb878) (o := .cells #[.slice none 0 0,.slice none 0 0,.slice none 0 0,.bool false] 56 (0,0)) (by (with_reducible repeat (first|refine blk_drewN ?_ _|refine blk_drew ?_|refine blk_alloc ?_ _));exact BK878.out)) : gb879 ≠ gb878));clear BK878;clear HB;have BK878 := n0_;have HB := n1_;have BK879 := n2_;have GW879 := n3_;have GE879 := n4_;have NB878_879 := n5_;have NB879_878 := n6_;clear n0_ n1_ n2_ n3_ n4_ n5_ n6_;clear hb hbox hg;have hnb3 := NB879_878.out;have hnc3 := NB878_879.out;have hcz4_0 : w2.cell? ⟨gb879,0,none⟩ = some (.slice none 0 0) := (blk_cell BK879.out 0).trans rfl;have hcz4_1 : w2.cell? ⟨gb879,1,none⟩ = some (.slice none 0 0) := (blk_cell BK879.out 1).trans rfl;have hcz4_2 : w2.cell? ⟨gb879,2,none⟩ = some (.slice none 0 0) := (blk_cell BK879.out 2).trans rfl;have hcz4_3 : w2.cell? ⟨gb879,3,none⟩ = some (.bool false) := (blk_cell BK879.out 3).trans rfl;have hfz4_0 := blk_frozen BK879.out 0;have hfz4_1 := blk_frozen BK879.out 1;have hfz4_2 := blk_frozen BK879.out 2;have hfz4_3 := blk_frozen BK879.out 3))
 go_loopg [2] k (fun kq v2 w' => ∃ (x2_1 : Int) (x880002_1 : List Int) (u880002 : Value),v2 = .int .i64 x2_1 ∧ Aside0 (spec_newMachine.l0 kq x2_1 x880002_1 false = some (r1,r2,r3,r4)) ∧ Aside0 (kq ≤ k) ∧ Aside0 (Kd.R (Kd.int .i64) 3 w' w.heap.size (fun _ => True) u880002 x880002_1) ∧ Aside0 (w'.heap[gb878]? = some (.cells #[(.slice none 0 0),(.slice none 0 0),(.slice none 0 0),.bool false] 56 (0,0))) ∧ Aside0 (w'.heap[gb879]? = some (.cells #[(.slice none 0 0),(.slice none 0 0),u880002,.bool false] 56 (0,0))) ∧ Aside0 (Below w.heap.size w w'))
 case atStart => exact ⟨(0),(([] : List Int)),(.slice none 0 0),(by first|rfl|(simp;done)|(simp [*];done)),H',⟨Nat.le_refl _⟩,⟨by first|exact Kd.R_nil _ _ _ _ _|exact Kd.N_nil _ _ _ _ _|exact Kd.V_nil _ _ _ _ _|exact Kd.Q_nil _ _ _ _ _|exact Kd.S_nil _ _ _ _ _⟩,⟨by (with_reducible repeat (first|refine blk_drewN ?_ _|refine blk_drew ?_|refine blk_alloc ?_ _));refine blk_far ?_ NB878_879.out _;(with_reducible repeat (first|refine blk_drewN ?_ _|refine blk_drew ?_|refine blk_alloc ?_ _));refine blk_far ?_ NB878_879.out _;(with_reducible repeat (first|refine blk_drewN ?_ _|refine blk_drew ?_|refine blk_alloc ?_ _));refine blk_far ?_ NB878_879.out _;(with_reducible repeat (first|refine blk_drewN ?_ _|refine blk_drew ?_|refine blk_alloc ?_ _));refine blk_far ?_ NB878_879.out _;(with_reducible repeat (first|refine blk_drewN ?_ _|refine blk_drew ?_|refine blk_alloc ?_ _));exact BK878.out⟩,⟨by (with_reducible repeat (first|refine blk_drewN ?_ _|refine blk_drew ?_|refine blk_alloc ?_ _));refine blk_put (cs := #[.slice none 0 0,.slice none 0 0,.slice none 0 0,.bool false]) ?_ 3 _ rfl;(with_reducible repeat (first|refine blk_drewN ?_ _|refine blk_drew ?_|refine blk_alloc ?_ _));refine blk_put (cs := #[.slice none 0 0,.slice none 0 0,.slice none 0 0,.bool false]) ?_ 2 _ rfl;(with_reducible repeat (first|refine blk_drewN ?_ _|refine blk_drew ?_|refine blk_alloc ?_ _));refine blk_put (cs := #[.slice none 0 0,.slice none 0 0,.slice none 0 0,.bool false]) ?_ 1 _ rfl;(with_reducible repeat (first|refine blk_drewN ?_ _|refine blk_drew ?_|refine blk_alloc ?_ _));refine blk_put (cs := #[.slice none 0 0,.slice none 0 0,.slice none 0 0,.bool false]) ?_ 0 _ rfl;(with_reducible repeat (first|refine blk_drewN ?_ _|refine blk_drew ?_|refine blk_alloc ?_ _));exact BK879.out⟩,⟨by repeat (first|(with_reducible first|exact HB.out|apply below_alloc|apply pw_below_drewN|apply below_drew1|refine below_set ?_ GE878.out|refine below_set ?_ GE879.out)|exact HB.out)⟩⟩
 case round =>
  clear H'
  try clear p2
  try clear c3
  try clear hcz4_0
  try clear hcz4_1
  try clear hcz4_2
  try clear hcz4_3
  try clear hfz4_0
  try clear hfz4_1
  try clear hfz4_2
  try clear hfz4_3
  obtain ⟨x2_1,x880002_1,u880002,rfl,HA,HK1,HO_880002,BK878,BK879,HB⟩ := hrel
  cases gk with
  | zero => exact absurd HA.out (fun h_ => (by cases h_))
  | succ k1 =>
   have H := HA.out
   clear HA
   simp only [spec_newMachine.l0] at H
   by_cases c5 : x2_1 < 20
   ·rw [if_pos c5] at H
    have c5b0 : decide (x2_1 < 20) = true := decide_eq_true c5
    clear c5
    by_cases c6 : x880002_1.length < 17592186044416
    ·rw [if_pos c6] at H
     have LMc6 := Aside0.mk c6
     clear c6
     obtain ⟨y880,hy880⟩ : ∃ y_ : List Int,y_ = (x880002_1 ++ [(-1)]) := ⟨_,rfl⟩
     replace H : (spec_newMachine.l0 k1 (wrap64 (x2_1 + 1)) y880 false) = some (r1,r2,r3,r4) := by first|(rw [hy880];with_reducible exact H)|(have H2_ := (Option.bind_some _ _).symm.trans H;rw [hy880];with_reducible exact H2_)|(have H2_ := (Option.bind_some _ _).symm.trans H;with_reducible exact H2_)|with_reducible exact H|(rw [hy880];exact H)|exact H
     have Ny880 := Aside0.mk hy880
     clear hy880
     have H' := Aside0.mk H
     clear H
     have hnb7 := NB879_878.out
     have hnc7 := NB878_879.out
     have hcz8_0 : wr.cell? ⟨gb879,0,none⟩ = some (.slice none 0 0) := (blk_cell BK879.out 0).trans rfl
     have hcz8_1 : wr.cell? ⟨gb879,1,none⟩ = some (.slice none 0 0) := (blk_cell BK879.out 1).trans rfl
     have hcz8_2 : wr.cell? ⟨gb879,2,none⟩ = some (u880002) := (blk_cell BK879.out 2).trans rfl
     have hcz8_3 : wr.cell? ⟨gb879,3,none⟩ = some (.bool false) := (blk_cell BK879.out 3).trans rfl
     have hfz8_0 := blk_frozen BK879.out 0
     have hfz8_1 := blk_frozen BK879.out 1
     have hfz8_2 := blk_frozen BK879.out 2
     have hfz8_3 := blk_frozen BK879.out 3
     go_wp2_with (first|((with_reducible refine gate_builtin (b := .append) (xs := #[.tmp 9,.tmp 10]) rfl ?_);at_builtin;refine Kd.R_append (Kd.int .i64) (w0 := w) w.heap.size rfl (.tmp 9) (.tmp 10) 22 3 (.int .i64 0) 8 rfl Try.underlying22 info3 rfl (by decide) (by omega) u880002 x880002_1 (-1) [.int .i64 (-1)] (fun _ => True) (fun _ => False) rfl rfl ?aP (fun _ hk => hk.elim) ?aF ?aO ?aB ?aS ?aL ?_;(case aP => exact rfl);(case aB => exact (by repeat (first|(with_reducible first|exact HB.out|apply below_alloc|apply pw_below_drewN|apply below_drew1|refine below_set ?_ GE878.out|refine below_set ?_ GE879.out)|exact HB.out)));(case aF => exact (fun _ _ => trivial));(case aO => exact (by (with_reducible repeat (first|apply Kd.R_alloc|apply Kd.R_drewN|apply Kd.R_drew));exact HO_880002.out));(case aS => exact (below_size (by repeat (first|(with_reducible first|exact HB.out|apply below_alloc|apply pw_below_drewN|apply below_drew1|refine below_set ?_ GE878.out|refine below_set ?_ GE879.out)|exact HB.out))));(case aL => have := LMc6.out;omega);intro v881 w9 ho hb hg hat;rw [← Ny880.out] at ho;have n0_ := Aside0.mk (blk_grown (g := gb878) (o := .cells #[.slice none 0 0,.slice none 0 0,.slice none 0 0,.bool false] 56 (0,0)) (by (with_reducible repeat (first|refine blk_drewN ?_ _|refine blk_drew ?_|refine blk_alloc ?_ _));exact BK878.out) hg (Kd.R_ne HO_880002.out BK878.out (by decide)));have n1_ := Aside0.mk (blk_grown (g := gb879) (o := .cells #[.slice none 0 0,.slice none 0 0,u880002,.bool false] 56 (0,0)) (by (with_reducible repeat (first|refine blk_drewN ?_ _|refine blk_drew ?_|refine blk_alloc ?_ _));exact BK879.out) hg (Kd.R_ne HO_880002.out BK879.out (by decide)));have n2_ := Aside0.mk (hb);have n3_ := Aside0.mk (ho);clear BK878;clear BK879;clear HB;clear HO_880002;have BK878 := n0_;have BK879 := n1_;have HB := n2_;have HO882 := n3_;clear n0_ n1_ n2_ n3_;clear ho hb hg hat;obtain ⟨Ao10,co10,eo10⟩ := Kd.R_slice HO882.out;subst eo10;have hcz11_0 : w9.cell? ⟨gb879,0,none⟩ = some (.slice none 0 0) := (blk_cell BK879.out 0).trans rfl;have hcz11_1 : w9.cell? ⟨gb879,1,none⟩ = some (.slice none 0 0) := (blk_cell BK879.out 1).trans rfl;have hcz11_2 : w9.cell? ⟨gb879,2,none⟩ = some (u880002) := (blk_cell BK879.out 2).trans rfl;have hcz11_3 : w9.cell? ⟨gb879,3,none⟩ = some (.bool false) := (blk_cell BK879.out 3).trans rfl;have hfz11_0 := blk_frozen BK879.out 0;have hfz11_1 := blk_frozen BK879.out 1;have hfz11_2 := blk_frozen BK879.out 2;have hfz11_3 := blk_frozen BK879.out 3))
     go_roundg k1
     case measure => have := HK1.out;omega
     case rel => exact ⟨(wrap64 (x2_1 + 1)),(y880),(.slice Ao10 y880.length co10),(by first|rfl|(simp;done)|(simp [*];done)),H',⟨by have := HK1.out;omega⟩,⟨by (with_reducible repeat (first|apply Kd.R_alloc|apply Kd.R_drewN|apply Kd.R_drew));exact Kd.R_mono (Kd.R_far (p := ⟨gb879,2,none⟩) (Kd.R_types HO882.out BK879.out (by decide)) (fun _ hk => hk.2) (.slice Ao10 y880.length co10)) (fun _ hk => trivial)⟩,⟨by (with_reducible repeat (first|refine blk_drewN ?_ _|refine blk_drew ?_|refine blk_alloc ?_ _));refine blk_far ?_ NB878_879.out _;(with_reducible repeat (first|refine blk_drewN ?_ _|refine blk_drew ?_|refine blk_alloc ?_ _));exact BK878.out⟩,⟨by (with_reducible repeat (first|refine blk_drewN ?_ _|refine blk_drew ?_|refine blk_alloc ?_ _));refine blk_put (cs := #[.slice none 0 0,.slice none 0 0,u880002,.bool false]) ?_ 2 _ rfl;(with_reducible repeat (first|refine blk_drewN ?_ _|refine blk_drew ?_|refine blk_alloc ?_ _));exact BK879.out⟩,⟨by repeat (first|(with_reducible first|exact HB.out|apply below_alloc|apply pw_below_drewN|apply below_drew1|refine below_set ?_ GE878.out|refine below_set ?_ GE879.out)|exact HB.out)⟩⟩
    ·rw [if_neg c6] at H
     exact absurd H (by simp)
   ·rw [if_neg c5] at H
    have c5b0 : decide (x2_1 < 20) = false := decide_eq_false c5
    clear c5
    simp only [Option.some.injEq,Prod.mk.injEq] at H
    obtain ⟨rfl,rfl,rfl,rfl⟩ := H
    have hnb12 := NB879_878.out
    have hnc12 := NB878_879.out
    have hcz13_0 : wr.cell? ⟨gb879,0,none⟩ = some (.slice none 0 0) := (blk_cell BK879.out 0).trans rfl
    have hcz13_1 : wr.cell? ⟨gb879,1,none⟩ = some (.slice none 0 0) := (blk_cell BK879.out 1).trans rfl
    have hcz13_2 : wr.cell? ⟨gb879,2,none⟩ = some (u880002) := (blk_cell BK879.out 2).trans rfl
    have hcz13_3 : wr.cell? ⟨gb879,3,none⟩ = some (.bool false) := (blk_cell BK879.out 3).trans rfl
    have hfz13_0 := blk_frozen BK879.out 0
    have hfz13_1 := blk_frozen BK879.out 1
    have hfz13_2 := blk_frozen BK879.out 2
    have hfz13_3 := blk_frozen BK879.out 3
    have hcz14_0 : wr.cell? ⟨gb878,0,none⟩ = some (.slice none 0 0) := (blk_cell BK878.out 0).trans rfl
    have hcz14_1 : wr.cell? ⟨gb878,1,none⟩ = some (.slice none 0 0) := (blk_cell BK878.out 1).trans rfl
    have hcz14_2 : wr.cell? ⟨gb878,2,none⟩ = some (.slice none 0 0) := (blk_cell BK878.out 2).trans rfl
    have hcz14_3 : wr.cell? ⟨gb878,3,none⟩ = some (.bool false) := (blk_cell BK878.out 3).trans rfl
    have hfz14_0 := blk_frozen BK878.out 0
    have hfz14_1 := blk_frozen BK878.out 1
    have hfz14_2 := blk_frozen BK878.out 2
    have hfz14_3 := blk_frozen BK878.out 3
    obtain ⟨Ao15,co15,eo15⟩ := Kd.R_slice HO_880002.out
    subst eo15
    go_wp2
    refine bodyPost_ret (results_cell_row rfl _ _ gb878 56 #[.slice none 0 0,.slice none 0 0,.slice Ao15 x880002_1.length co15,.bool false] (0,0) _ rfl (by (with_reducible repeat (first|refine blk_drewN ?_ _|refine blk_drew ?_|refine blk_alloc ?_ _));refine blk_put (cs := #[.slice none 0 0,.slice none 0 0,.slice Ao15 x880002_1.length co15,.bool false]) ?_ 3 _ rfl;(with_reducible repeat (first|refine blk_drewN ?_ _|refine blk_drew ?_|refine blk_alloc ?_ _));refine blk_put (cs := #[.slice none 0 0,.slice none 0 0,.slice none 0 0,.bool false]) ?_ 2 _ rfl;(with_reducible repeat (first|refine blk_drewN ?_ _|refine blk_drew ?_|refine blk_alloc ?_ _));refine blk_put (cs := #[.slice none 0 0,.slice none 0 0,.slice none 0 0,.bool false]) ?_ 1 _ rfl;(with_reducible repeat (first|refine blk_drewN ?_ _|refine blk_drew ?_|refine blk_alloc ?_ _));refine blk_put (cs := #[.slice none 0 0,.slice none 0 0,.slice none 0 0,.bool false]) ?_ 0 _ rfl;(with_reducible repeat (first|refine blk_drewN ?_ _|refine blk_drew ?_|refine blk_alloc ?_ _));exact BK878.out) Try.underlying56 rfl (by kernel_rfl)) rfl ?_
    exact ⟨_,_,_,by first|rfl|(simp [errW_none,errW_some] <;> rfl)|(simp [*,errW_none,errW_some] <;> rfl),by first|exact Kd.S_nil _ _ _ _ _|exact Kd.N_nil _ _ _ _ _|exact Kd.V_nil _ _ _ _ _|exact Kd.Q_nil _ _ _ _ _|exact Kd.R_nil _ _ _ _ _,by first|exact Kd.R_nil _ _ _ _ _|exact Kd.N_nil _ _ _ _ _|exact Kd.V_nil _ _ _ _ _|exact Kd.Q_nil _ _ _ _ _|exact Kd.S_nil _ _ _ _ _,by (with_reducible repeat (first|apply Kd.R_alloc|apply Kd.R_drewN|apply Kd.R_drew));exact Kd.R_mono (Kd.R_far (p := ⟨gb878,3,none⟩) (Kd.R_far (p := ⟨gb878,2,none⟩) (Kd.R_far (p := ⟨gb878,1,none⟩) (Kd.R_far (p := ⟨gb878,0,none⟩) (Kd.R_types HO_880002.out BK878.out (by decide)) (fun _ hk => hk.2) (.slice none 0 0)) (fun _ hk => hk.2) (.slice none 0 0)) (fun _ hk => hk.2) (.slice Ao15 x880002_1.length co15)) (fun _ hk => hk.2) (.bool false)) (fun _ hk => (by simp [Value.ownBlock])),by repeat (first|(with_reducible first|exact HB.out|apply below_alloc|apply pw_below_drewN|apply below_drew1|refine below_set ?_ GE878.out|refine below_set ?_ GE879.out)|exact HB.out)⟩

/-! ### spec_NewMachine: function 38 -/
def spec_NewMachine.f (k : Nat) (a0 : Int) : Option ((List (S88)) × List Int × List Int × Bool) := (spec_inRange.f a0 0 1).bind fun t884 => (if t884 = true then ((spec_newMachine.f k).bind fun bt885 => (if a0 = 1 then (if bt885.1.length < 3518437208883 then (if 0 < (bt885.2.2.1.length : Int) then (some ((bt885.1 ++ [(⟨0,0,([] : List Int)⟩ : S88)]),bt885.2.1,(bt885.2.2.1.set (0 : Int).toNat 0),bt885.2.2.2)) else (none)) else (none)) else (some (bt885.1,bt885.2.1,bt885.2.2.1,bt885.2.2.2)))) else (some (([] : List (S88)),([] : List Int),([] : List Int),false)))
set_option maxRecDepth 100000 in
theorem spec_NewMachine.mono : ∀ a0 k,LeO (spec_NewMachine.f k a0) (spec_NewMachine.f (k + 1) a0) := by
 intro a0 k
 unfold spec_NewMachine.f
 repeat' first
   | (with_reducible exact spec_newMachine.mono _)
   | (with_reducible exact LeO.refl _)
   | (with_reducible exact LeO.none _)
   | (with_reducible refine LeO.ite ?_ ?_)
   | (with_reducible refine LeO.bind ?_ (fun _ => ?_))
   | exact spec_newMachine.mono _
   | exact LeO.none _
   | refine LeO.ite ?_ ?_
   | refine LeO.bind ?_ (fun _ => ?_)
set_option maxHeartbeats 8000000 in
set_option maxRecDepth 100000 in
theorem spec_NewMachine.calls (k : Nat) (a0 : Int) (r1 : List (S88)) (r2 : List Int) (r3 : List Int) (r4 : Bool) (w : World) (h : spec_NewMachine.f k a0 = some (r1,r2,r3,r4)) :
  Calls Try.prog 38 #[.int .i64 a0] w fun e w' => ∃ v0_ v1_ v2_ : Value,e = .returned (.agg #[v0_,v1_,v2_,.bool r4]) ∧ Kd.S k88 88 w' w.heap.size (fun k_ => some k_ ≠ (v1_ : Value).ownBlock ∧ some k_ ≠ (v2_ : Value).ownBlock) v0_ r1 ∧ Kd.R (Kd.int .i64) 3 w' w.heap.size (fun k_ => some k_ ≠ (v2_ : Value).ownBlock) v1_ r2 ∧ Kd.R (Kd.int .i64) 3 w' w.heap.size (fun k_ => some k_ ≠ (v1_ : Value).ownBlock) v2_ r3 ∧ Below w.heap.size w w' := by
 have hu56 := Try.underlying56
 have hu88 := Try.underlying88
 have HB := Aside0.mk (Below.refl w.heap.size w)
 have H : ((spec_inRange.f a0 0 1).bind fun t884 => (if t884 = true then ((spec_newMachine.f k).bind fun bt885 => (if a0 = 1 then (if bt885.1.length < 3518437208883 then (if 0 < (bt885.2.2.1.length : Int) then (some ((bt885.1 ++ [(⟨0,0,([] : List Int)⟩ : S88)]),bt885.2.1,(bt885.2.2.1.set (0 : Int).toNat 0),bt885.2.2.2)) else (none)) else (none)) else (some (bt885.1,bt885.2.1,bt885.2.2.1,bt885.2.2.2)))) else (some (([] : List (S88)),([] : List Int),([] : List Int),false)))) = some (r1,r2,r3,r4) := h
 clear h
 replace H := Option.bind_eq_some_iff.mp H
 obtain ⟨t884,A20,H⟩ := H
 replace H : (if t884 = true then ((spec_newMachine.f k).bind fun bt885 => (if a0 = 1 then (if bt885.1.length < 3518437208883 then (if 0 < (bt885.2.2.1.length : Int) then (some ((bt885.1 ++ [(⟨0,0,([] : List Int)⟩ : S88)]),bt885.2.1,(bt885.2.2.1.set (0 : Int).toNat 0),bt885.2.2.2)) else (none)) else (none)) else (some (bt885.1,bt885.2.1,bt885.2.2.1,bt885.2.2.2)))) else (some (([] : List (S88)),([] : List Int),([] : List Int),false))) = some (r1,r2,r3,r4) := H
 have A2 := Aside0.mk A20
 clear A20
 by_cases c3 : t884 = true
 ·subst c3
  have H1 : ((spec_newMachine.f k).bind fun bt885 => (if a0 = 1 then (if bt885.1.length < 3518437208883 then (if 0 < (bt885.2.2.1.length : Int) then (some ((bt885.1 ++ [(⟨0,0,([] : List Int)⟩ : S88)]),bt885.2.1,(bt885.2.2.1.set (0 : Int).toNat 0),bt885.2.2.2)) else (none)) else (none)) else (some (bt885.1,bt885.2.1,bt885.2.2.1,bt885.2.2.2)))) = some (r1,r2,r3,r4) := by rw [if_pos rfl] at H;exact H
  clear H
  have H := H1
  clear H1
  replace H := Option.bind_eq_some_iff.mp H
  obtain ⟨⟨t885,t888,t891,t894⟩,A40,H⟩ := H
  replace H : (if a0 = 1 then (if t885.length < 3518437208883 then (if 0 < (t891.length : Int) then (some ((t885 ++ [(⟨0,0,([] : List Int)⟩ : S88)]),t888,(t891.set (0 : Int).toNat 0),t894)) else (none)) else (none)) else (some (t885,t888,t891,t894))) = some (r1,r2,r3,r4) := H
  have A4 := Aside0.mk A40
  clear A40
  by_cases c5 : a0 = 1
  ·rw [if_pos c5] at H
   have c5b0 : (a0 == 1) = true := beq_iff_eq.mpr c5
   have c5b1 : (a0 != 1) = false := bne_eq_false_iff_eq.mpr c5
   clear c5
   by_cases c6 : t885.length < 3518437208883
   ·rw [if_pos c6] at H
    have LMc6 := Aside0.mk c6
    clear c6
    obtain ⟨y896,hy896⟩ : ∃ y_ : List (S88),y_ = (t885 ++ [(⟨0,0,([] : List Int)⟩ : S88)]) := ⟨_,rfl⟩
    replace H : (if 0 < (t891.length : Int) then (some (y896,t888,(t891.set (0 : Int).toNat 0),t894)) else (none)) = some (r1,r2,r3,r4) := by first|(rw [hy896];with_reducible exact H)|(have H2_ := (Option.bind_some _ _).symm.trans H;rw [hy896];with_reducible exact H2_)|(have H2_ := (Option.bind_some _ _).symm.trans H;with_reducible exact H2_)|with_reducible exact H|(rw [hy896];exact H)|exact H
    have Ny896 := Aside0.mk hy896
    clear hy896
    by_cases c7 : 0 < (t891.length : Int)
    ·rw [if_pos c7] at H
     have c7b0 : decide (0 < (t891.length : Int)) = true := decide_eq_true c7
     have c7b1 : decide (0 < t891.length) = true := decide_eq_true (by omega)
     clear c7
     obtain ⟨y899,hy899⟩ : ∃ y_ : List Int,y_ = (t891.set (0 : Int).toNat 0) := ⟨_,rfl⟩
     replace H : (some (y896,t888,y899,t894)) = some (r1,r2,r3,r4) := by first|(rw [hy899];with_reducible exact H)|(have H2_ := (Option.bind_some _ _).symm.trans H;rw [hy899];with_reducible exact H2_)|(have H2_ := (Option.bind_some _ _).symm.trans H;with_reducible exact H2_)|with_reducible exact H|(rw [hy899];exact H)|exact H
     have Ny899 := Aside0.mk hy899
     clear hy899
     simp only [Option.some.injEq,Prod.mk.injEq] at H
     obtain ⟨rfl,rfl,rfl,rfl⟩ := H
     go_enter Try.func38,Try.ntmps38
     go_wp2_with (first|((with_reducible refine gate_dst (N := 2) rfl ?_);refine box_event ?hg (N := 2) ?hd (cs := #[.slice none 0 0,.slice none 0 0,.slice none 0 0,.bool false]) (t := 56) ?hr ?_;(case hd => rfl);(case hg => rfl);(case hr => first|(go_simp;done)|(go_simp;rfl));intro gb883 hg w9 hbox hb;have n0_ := Aside0.mk (below_step (by repeat (first|(with_reducible first|exact HB.out|apply below_alloc|apply pw_below_drewN|apply below_drew1)|exact HB.out)) hb);have n1_ := Aside0.mk (hbox);have n2_ := Aside0.mk ((by rw [hg];exact (below_size (by repeat (first|(with_reducible first|exact HB.out|apply below_alloc|apply pw_below_drewN|apply below_drew1)|exact HB.out))) : w.heap.size ≤ gb883));have n3_ := Aside0.mk ((by rw [hg];exact (below_size (by repeat (first|(with_reducible first|exact HB.out|apply below_alloc|apply pw_below_drewN|apply below_drew1)|exact HB.out))) : w.heap.size ≤ gb883));clear HB;have HB := n0_;have BK883 := n1_;have GW883 := n2_;have GE883 := n3_;clear n0_ n1_ n2_ n3_;clear hb hbox hg)|((with_reducible refine gate_callee (f := 56) rfl ?_);refine goesL_ (some 5) rfl rfl Try.func56 (by kernel_rfl) rfl #[.int .i64 a0,.int .i64 0,.int .i64 1] rfl (by (try simp only [List.map_toArray,List.map_cons,List.map_nil]);first|done|rfl|(simp only [List.length_drop,List.length_take];rfl)) ?_;(with_reducible refine (spec_inRange.calls a0 0 1 true _ A2.out).mono ?_);rintro e w' ⟨rfl,⟨nd,rfl⟩⟩;refine ⟨_,rfl,?_⟩;(try (rw [drewN_self w9];generalize hq_ : World.drewN w9 _ = w9;have n0_ : Aside0 (w9.heap[gb883]? = some (.cells #[.slice none 0 0,.slice none 0 0,.slice none 0 0,.bool false] 56 (0,0))) := ⟨by rw [← hq_];exact (by (with_reducible repeat (first|refine blk_drewN ?_ _|refine blk_drew ?_|refine blk_alloc ?_ _));exact BK883.out)⟩;have n1_ : Aside0 (Below w.heap.size w w9) := ⟨by rw [← hq_];exact (by repeat (first|(with_reducible first|exact HB.out|apply below_alloc|apply pw_below_drewN|apply below_drew1|refine below_set ?_ GE883.out)|exact HB.out))⟩;clear BK883 HB hq_;have BK883 := n0_;have HB := n1_;clear n0_ n1_)))|((with_reducible refine gate_callee (f := 77) rfl ?_);refine goesL_ (some 8) rfl rfl Try.func77 (by kernel_rfl) rfl #[] rfl (by (try simp only [List.map_toArray,List.map_cons,List.map_nil]);first|done|rfl|(simp only [List.length_drop,List.length_take];rfl)) ?_;(with_reducible refine (spec_newMachine.calls k  t885 t888 t891 t894 _ A4.out).mono ?_);rintro e w10 ⟨v886,v889,v892,rfl,ho0,ho1,ho2,hb⟩;refine ⟨_,rfl,?_⟩;have n0_ := Aside0.mk (Kd.S_lower ho0 (below_size (by repeat (first|(with_reducible first|exact HB.out|apply below_alloc|apply pw_below_drewN|apply below_drew1|refine below_set ?_ GE883.out)|exact HB.out))));have n1_ := Aside0.mk (Kd.R_lower ho1 (below_size (by repeat (first|(with_reducible first|exact HB.out|apply below_alloc|apply pw_below_drewN|apply below_drew1|refine below_set ?_ GE883.out)|exact HB.out))));have n2_ := Aside0.mk (Kd.R_lower ho2 (below_size (by repeat (first|(with_reducible first|exact HB.out|apply below_alloc|apply pw_below_drewN|apply below_drew1|refine below_set ?_ GE883.out)|exact HB.out))));have n3_ := Aside0.mk (blk_below (g := gb883) (o := .cells #[.slice none 0 0,.slice none 0 0,.slice none 0 0,.bool false] 56 (0,0)) (by (with_reducible repeat (first|refine blk_drewN ?_ _|refine blk_drew ?_|refine blk_alloc ?_ _));exact BK883.out) hb);have n4_ := Aside0.mk (below_step (by repeat (first|(with_reducible first|exact HB.out|apply below_alloc|apply pw_below_drewN|apply below_drew1|refine below_set ?_ GE883.out)|exact HB.out)) hb);clear BK883;clear HB;have HO887 := n0_;have HO890 := n1_;have HO893 := n2_;have BK883 := n3_;have HB := n4_;clear n0_ n1_ n2_ n3_ n4_;(try clear hb);(try clear hb2);(try clear hk);(try clear hi);(try clear ho0);(try clear ho1);(try clear ho2))|((with_reducible refine gate_dst (N := 3) rfl ?_);refine box_event ?hg (N := 3) ?hd (cs := #[.slice none 0 0,.slice none 0 0,.slice none 0 0,.bool false]) (t := 56) ?hr ?_;(case hd => rfl);(case hg => rfl);(case hr => first|(go_simp;done)|(go_simp;rfl));intro gb895 hg w11 hbox hb;have n0_ := Aside0.mk (Kd.S_below (by (with_reducible repeat (first|apply Kd.S_alloc|apply Kd.S_drewN|apply Kd.S_drew));exact HO887.out) hb);have n1_ := Aside0.mk (Kd.R_below (by (with_reducible repeat (first|apply Kd.R_alloc|apply Kd.R_drewN|apply Kd.R_drew));exact HO890.out) hb);have n2_ := Aside0.mk (Kd.R_below (by (with_reducible repeat (first|apply Kd.R_alloc|apply Kd.R_drewN|apply Kd.R_drew));exact HO893.out) hb);have n3_ := Aside0.mk (blk_below (g := gb883) (o := .cells #[.slice none 0 0,.slice none 0 0,.slice none 0 0,.bool false] 56 (0,0)) (by (with_reducible repeat (first|refine blk_drewN ?_ _|refine blk_drew ?_|refine blk_alloc ?_ _));exact BK883.out) hb);have n4_ := Aside0.mk (below_step (by repeat (first|(with_reducible first|exact HB.out|apply below_alloc|apply pw_below_drewN|apply below_drew1|refine below_set ?_ GE883.out)|exact HB.out)) hb);have n5_ := Aside0.mk (hbox);have n6_ := Aside0.mk ((by rw [hg];exact (below_size (by repeat (first|(with_reducible first|exact HB.out|apply below_alloc|apply pw_below_drewN|apply below_drew1|refine below_set ?_ GE883.out)|exact HB.out))) : w.heap.size ≤ gb895));have n7_ := Aside0.mk ((by rw [hg];exact (below_size (by repeat (first|(with_reducible first|exact HB.out|apply below_alloc|apply pw_below_drewN|apply below_drew1|refine below_set ?_ GE883.out)|exact HB.out))) : w.heap.size ≤ gb895));have n8_ := Aside0.mk ((by rw [hg];exact Nat.ne_of_lt (blk_lt (g := gb883) (o := .cells #[.slice none 0 0,.slice none 0 0,.slice none 0 0,.bool false] 56 (0,0)) (by (with_reducible repeat (first|refine blk_drewN ?_ _|refine blk_drew ?_|refine blk_alloc ?_ _));exact BK883.out)) : gb883 ≠ gb895));have n9_ := Aside0.mk ((by rw [hg];exact Nat.ne_of_gt (blk_lt (g := gb883) (o := .cells #[.slice none 0 0,.slice none 0 0,.slice none 0 0,.bool false] 56 (0,0)) (by (with_reducible repeat (first|refine blk_drewN ?_ _|refine blk_drew ?_|refine blk_alloc ?_ _));exact BK883.out)) : gb895 ≠ gb883));clear HO887;clear HO890;clear HO893;clear BK883;clear HB;have HO887 := n0_;have HO890 := n1_;have HO893 := n2_;have BK883 := n3_;have HB := n4_;have BK895 := n5_;have GW895 := n6_;have GE895 := n7_;have NB883_895 := n8_;have NB895_883 := n9_;clear n0_ n1_ n2_ n3_ n4_ n5_ n6_ n7_ n8_ n9_;clear hb hbox hg;obtain ⟨Ao12,co12,eo12⟩ := Kd.S_slice HO887.out;subst eo12;have hnb13 := NB895_883.out;have hnc13 := NB883_895.out;have hcz14_0 : w11.cell? ⟨gb895,0,none⟩ = some (.slice none 0 0) := (blk_cell BK895.out 0).trans rfl;have hcz14_1 : w11.cell? ⟨gb895,1,none⟩ = some (.slice none 0 0) := (blk_cell BK895.out 1).trans rfl;have hcz14_2 : w11.cell? ⟨gb895,2,none⟩ = some (.slice none 0 0) := (blk_cell BK895.out 2).trans rfl;have hcz14_3 : w11.cell? ⟨gb895,3,none⟩ = some (.bool false) := (blk_cell BK895.out 3).trans rfl;have hfz14_0 := blk_frozen BK895.out 0;have hfz14_1 := blk_frozen BK895.out 1;have hfz14_2 := blk_frozen BK895.out 2;have hfz14_3 := blk_frozen BK895.out 3;obtain ⟨Ao15,co15,eo15⟩ := Kd.R_slice HO890.out;subst eo15;obtain ⟨Ao16,co16,eo16⟩ := Kd.R_slice HO893.out;subst eo16)|((with_reducible refine gate_builtin (b := .append) (xs := #[.tmp 12,.tmp 14]) rfl ?_);at_builtin;refine Kd.S_append k88 (w0 := w) w.heap.size rfl (.tmp 12) (.tmp 14) 36 88 (.agg #[(.int .i64 0),(.int .i64 0),(.slice none 0 0)]) 40 rfl Try.underlying36 info88 rfl (by decide) (by omega) (.slice Ao12 t885.length co12) t885 (⟨0,0,([] : List Int)⟩ : S88) [.int .i64 0,.int .i64 0,.slice none 0 0] (fun k_ => some k_ ≠ (.slice Ao15 t888.length co15 : Value).ownBlock ∧ some k_ ≠ (.slice Ao16 t891.length co16 : Value).ownBlock) (fun _ => False) rfl (by first|(go_simp;done)|(go_simp;rfl)) ?aP (fun k_ hk_ => hk_.elim) ?aF ?aO ?aB ?aS ?aL ?_;(case aP => exact k88_mkM _ _ _ (⟨0,0,([] : List Int)⟩ : S88) (Kd.R_nil _ _ _ _ _));(case aB => exact (by repeat (first|(with_reducible first|exact HB.out|apply below_alloc|apply pw_below_drewN|apply below_drew1|refine below_set ?_ GE883.out|refine below_set ?_ GE895.out)|exact HB.out)));(case aF => exact (fun k_ hk => ⟨Kd.fresh' (Kd.R_lt (by (with_reducible repeat (first|apply Kd.R_alloc|apply Kd.R_drewN|apply Kd.R_drew));exact (Kd.R_mono (Kd.R_far (p := ⟨gb895,3,none⟩) (Kd.R_far (p := ⟨gb895,2,none⟩) (Kd.R_far (p := ⟨gb895,1,none⟩) (Kd.R_far (p := ⟨gb895,0,none⟩) (Kd.R_types HO890.out BK895.out (by decide)) (fun _ hk => hk.2) (.slice Ao12 t885.length co12)) (fun _ hk => hk.2) (.slice Ao15 t888.length co15)) (fun _ hk => hk.2) (.slice Ao16 t891.length co16)) (fun _ hk => hk.2) (.bool t894)) (fun _ h_ => h_.1)))) k_ hk,Kd.fresh' (Kd.R_lt (by (with_reducible repeat (first|apply Kd.R_alloc|apply Kd.R_drewN|apply Kd.R_drew));exact (Kd.R_mono (Kd.R_far (p := ⟨gb895,3,none⟩) (Kd.R_far (p := ⟨gb895,2,none⟩) (Kd.R_far (p := ⟨gb895,1,none⟩) (Kd.R_far (p := ⟨gb895,0,none⟩) (Kd.R_types HO893.out BK895.out (by decide)) (fun _ hk => hk.2) (.slice Ao12 t885.length co12)) (fun _ hk => hk.2) (.slice Ao15 t888.length co15)) (fun _ hk => hk.2) (.slice Ao16 t891.length co16)) (fun _ hk => hk.2) (.bool t894)) (fun _ h_ => h_.1)))) k_ hk⟩));(case aO => exact (by (with_reducible repeat (first|apply Kd.S_alloc|apply Kd.S_drewN|apply Kd.S_drew));exact Kd.S_mono (Kd.S_far (p := ⟨gb895,3,none⟩) (Kd.S_far (p := ⟨gb895,2,none⟩) (Kd.S_far (p := ⟨gb895,1,none⟩) (Kd.S_far (p := ⟨gb895,0,none⟩) (Kd.S_types HO887.out BK895.out (by decide)) (fun _ hk => hk.2) (.slice Ao12 t885.length co12)) (fun _ hk => hk.2) (.slice Ao15 t888.length co15)) (fun _ hk => hk.2) (.slice Ao16 t891.length co16)) (fun _ hk => hk.2) (.bool t894)) (fun k_ hk => ⟨⟨hk.1.1,hk.1.2⟩,fun e_ => e_⟩)));(case aS => exact (below_size (by repeat (first|(with_reducible first|exact HB.out|apply below_alloc|apply pw_below_drewN|apply below_drew1|refine below_set ?_ GE883.out|refine below_set ?_ GE895.out)|exact HB.out))));(case aL => have := LMc6.out;omega);intro v897 w17 ho hb hg hat;rw [← Ny896.out] at ho;have n0_ := Aside0.mk (blk_grown (g := gb883) (o := .cells #[.slice none 0 0,.slice none 0 0,.slice none 0 0,.bool false] 56 (0,0)) (by (with_reducible repeat (first|refine blk_drewN ?_ _|refine blk_drew ?_|refine blk_alloc ?_ _));refine blk_far ?_ NB883_895.out _;(with_reducible repeat (first|refine blk_drewN ?_ _|refine blk_drew ?_|refine blk_alloc ?_ _));refine blk_far ?_ NB883_895.out _;(with_reducible repeat (first|refine blk_drewN ?_ _|refine blk_drew ?_|refine blk_alloc ?_ _));refine blk_far ?_ NB883_895.out _;(with_reducible repeat (first|refine blk_drewN ?_ _|refine blk_drew ?_|refine blk_alloc ?_ _));refine blk_far ?_ NB883_895.out _;(with_reducible repeat (first|refine blk_drewN ?_ _|refine blk_drew ?_|refine blk_alloc ?_ _));exact BK883.out) hg (Kd.S_ne HO887.out BK883.out (by decide)));have n1_ := Aside0.mk (Kd.R_over' (by (with_reducible repeat (first|apply Kd.R_alloc|apply Kd.R_drewN|apply Kd.R_drew));exact (Kd.R_mono (Kd.R_far (p := ⟨gb895,3,none⟩) (Kd.R_far (p := ⟨gb895,2,none⟩) (Kd.R_far (p := ⟨gb895,1,none⟩) (Kd.R_far (p := ⟨gb895,0,none⟩) (Kd.R_types HO890.out BK895.out (by decide)) (fun _ hk => hk.2) (.slice Ao12 t885.length co12)) (fun _ hk => hk.2) (.slice Ao15 t888.length co15)) (fun _ hk => hk.2) (.slice Ao16 t891.length co16)) (fun _ hk => hk.2) (.bool t894)) (fun _ h_ => h_.1))) (Kd.S_typed (by (with_reducible repeat (first|apply Kd.S_alloc|apply Kd.S_drewN|apply Kd.S_drew));exact (Kd.S_mono (Kd.S_far (p := ⟨gb895,3,none⟩) (Kd.S_far (p := ⟨gb895,2,none⟩) (Kd.S_far (p := ⟨gb895,1,none⟩) (Kd.S_far (p := ⟨gb895,0,none⟩) (Kd.S_types HO887.out BK895.out (by decide)) (fun _ hk => hk.2) (.slice Ao12 t885.length co12)) (fun _ hk => hk.2) (.slice Ao15 t888.length co15)) (fun _ hk => hk.2) (.slice Ao16 t891.length co16)) (fun _ hk => hk.2) (.bool t894)) (fun _ h_ => h_.1)))) (by decide) hg);have n2_ := Aside0.mk (Kd.R_over' (by (with_reducible repeat (first|apply Kd.R_alloc|apply Kd.R_drewN|apply Kd.R_drew));exact (Kd.R_mono (Kd.R_far (p := ⟨gb895,3,none⟩) (Kd.R_far (p := ⟨gb895,2,none⟩) (Kd.R_far (p := ⟨gb895,1,none⟩) (Kd.R_far (p := ⟨gb895,0,none⟩) (Kd.R_types HO893.out BK895.out (by decide)) (fun _ hk => hk.2) (.slice Ao12 t885.length co12)) (fun _ hk => hk.2) (.slice Ao15 t888.length co15)) (fun _ hk => hk.2) (.slice Ao16 t891.length co16)) (fun _ hk => hk.2) (.bool t894)) (fun _ h_ => h_.1))) (Kd.S_typed (by (with_reducible repeat (first|apply Kd.S_alloc|apply Kd.S_drewN|apply Kd.S_drew));exact (Kd.S_mono (Kd.S_far (p := ⟨gb895,3,none⟩) (Kd.S_far (p := ⟨gb895,2,none⟩) (Kd.S_far (p := ⟨gb895,1,none⟩) (Kd.S_far (p := ⟨gb895,0,none⟩) (Kd.S_types HO887.out BK895.out (by decide)) (fun _ hk => hk.2) (.slice Ao12 t885.length co12)) (fun _ hk => hk.2) (.slice Ao15 t888.length co15)) (fun _ hk => hk.2) (.slice Ao16 t891.length co16)) (fun _ hk => hk.2) (.bool t894)) (fun _ h_ => h_.1)))) (by decide) hg);have n3_ := Aside0.mk (blk_grown (g := gb895) (o := .cells #[.slice Ao12 t885.length co12,.slice Ao15 t888.length co15,.slice Ao16 t891.length co16,.bool t894] 56 (0,0)) (by (with_reducible repeat (first|refine blk_drewN ?_ _|refine blk_drew ?_|refine blk_alloc ?_ _));refine blk_put (cs := #[.slice Ao12 t885.length co12,.slice Ao15 t888.length co15,.slice Ao16 t891.length co16,.bool false]) ?_ 3 _ rfl;(with_reducible repeat (first|refine blk_drewN ?_ _|refine blk_drew ?_|refine blk_alloc ?_ _));refine blk_put (cs := #[.slice Ao12 t885.length co12,.slice Ao15 t888.length co15,.slice none 0 0,.bool false]) ?_ 2 _ rfl;(with_reducible repeat (first|refine blk_drewN ?_ _|refine blk_drew ?_|refine blk_alloc ?_ _));refine blk_put (cs := #[.slice Ao12 t885.length co12,.slice none 0 0,.slice none 0 0,.bool false]) ?_ 1 _ rfl;(with_reducible repeat (first|refine blk_drewN ?_ _|refine blk_drew ?_|refine blk_alloc ?_ _));refine blk_put (cs := #[.slice none 0 0,.slice none 0 0,.slice none 0 0,.bool false]) ?_ 0 _ rfl;(with_reducible repeat (first|refine blk_drewN ?_ _|refine blk_drew ?_|refine blk_alloc ?_ _));exact BK895.out) hg (Kd.S_ne HO887.out BK895.out (by decide)));have n4_ := Aside0.mk (hb);have n5_ := Aside0.mk (ho);clear BK883;clear HO890;clear HO893;clear BK895;clear HB;clear HO887;have BK883 := n0_;have HO890 := n1_;have HO893 := n2_;have BK895 := n3_;have HB := n4_;have HO898 := n5_;clear n0_ n1_ n2_ n3_ n4_ n5_;clear ho hb hg hat;obtain ⟨Ao18,co18,eo18⟩ := Kd.S_slice HO898.out;subst eo18;have hcz19_0 : w17.cell? ⟨gb895,0,none⟩ = some (.slice Ao12 t885.length co12) := (blk_cell BK895.out 0).trans rfl;have hcz19_1 : w17.cell? ⟨gb895,1,none⟩ = some (.slice Ao15 t888.length co15) := (blk_cell BK895.out 1).trans rfl;have hcz19_2 : w17.cell? ⟨gb895,2,none⟩ = some (.slice Ao16 t891.length co16) := (blk_cell BK895.out 2).trans rfl;have hcz19_3 : w17.cell? ⟨gb895,3,none⟩ = some (.bool t894) := (blk_cell BK895.out 3).trans rfl;have hfz19_0 := blk_frozen BK895.out 0;have hfz19_1 := blk_frozen BK895.out 1;have hfz19_2 := blk_frozen BK895.out 2;have hfz19_3 := blk_frozen BK895.out 3)|((with_reducible refine gate_store (t := 36) (p := 16) rfl ?_);refine store_event (t := 36) (p := 16) (v := ?vo_w20) (w1 := (w17.setCell ⟨gb895,0,none⟩ (.slice Ao18 y896.length co18))) ?hg ?ho ?hn ?hr ?_;(case ho => rfl);(case hg => rfl);(case hn => rfl);(case hr => first|(go_simp;done)|(go_simp;rfl));intro w20 hw;have n0_ : Aside0 (Kd.R (Kd.int .i64) 3 w20 w.heap.size (fun k_ => some k_ ≠ (.slice Ao16 t891.length co16 : Value).ownBlock) (.slice Ao15 t888.length co15) t888) := ⟨(by rw [hw];exact (by (with_reducible repeat (first|apply Kd.R_alloc|apply Kd.R_drewN|apply Kd.R_drew));exact Kd.R_mono (Kd.R_far (p := ⟨gb895,0,none⟩) (Kd.R_types HO890.out BK895.out (by decide)) (fun _ hk => hk.2) (.slice Ao18 y896.length co18)) (fun _ hk => hk.1)))⟩;have n1_ : Aside0 (Kd.R (Kd.int .i64) 3 w20 w.heap.size (fun k_ => some k_ ≠ (.slice Ao15 t888.length co15 : Value).ownBlock) (.slice Ao16 t891.length co16) t891) := ⟨(by rw [hw];exact (by (with_reducible repeat (first|apply Kd.R_alloc|apply Kd.R_drewN|apply Kd.R_drew));exact Kd.R_mono (Kd.R_far (p := ⟨gb895,0,none⟩) (Kd.R_types HO893.out BK895.out (by decide)) (fun _ hk => hk.2) (.slice Ao18 y896.length co18)) (fun _ hk => hk.1)))⟩;have n2_ : Aside0 (Kd.S k88 88 w20 w.heap.size (fun k_ => some k_ ≠ (.slice Ao15 t888.length co15 : Value).ownBlock ∧ some k_ ≠ (.slice Ao16 t891.length co16 : Value).ownBlock) (.slice Ao18 y896.length co18) y896) := ⟨(by rw [hw];exact (by (with_reducible repeat (first|apply Kd.S_alloc|apply Kd.S_drewN|apply Kd.S_drew));exact Kd.S_mono (Kd.S_far (p := ⟨gb895,0,none⟩) (Kd.S_types HO898.out BK895.out (by decide)) (fun _ hk => hk.2) (.slice Ao18 y896.length co18)) (fun _ hk => ⟨hk.1.1,hk.1.2⟩)))⟩;have n3_ : Aside0 (w20.heap[gb883]? = some (.cells #[.slice none 0 0,.slice none 0 0,.slice none 0 0,.bool false] 56 (0,0))) := ⟨(by rw [hw];exact (by (with_reducible repeat (first|refine blk_drewN ?_ _|refine blk_drew ?_|refine blk_alloc ?_ _));refine blk_far ?_ NB883_895.out _;(with_reducible repeat (first|refine blk_drewN ?_ _|refine blk_drew ?_|refine blk_alloc ?_ _));exact BK883.out))⟩;have n4_ : Aside0 (w20.heap[gb895]? = some (.cells #[.slice Ao18 y896.length co18,.slice Ao15 t888.length co15,.slice Ao16 t891.length co16,.bool t894] 56 (0,0))) := ⟨(by rw [hw];exact (by (with_reducible repeat (first|refine blk_drewN ?_ _|refine blk_drew ?_|refine blk_alloc ?_ _));refine blk_put (cs := #[.slice Ao12 t885.length co12,.slice Ao15 t888.length co15,.slice Ao16 t891.length co16,.bool t894]) ?_ 0 _ rfl;(with_reducible repeat (first|refine blk_drewN ?_ _|refine blk_drew ?_|refine blk_alloc ?_ _));exact BK895.out))⟩;have n5_ : Aside0 (Below w.heap.size w w20) := ⟨(by rw [hw];exact (by repeat (first|(with_reducible first|exact HB.out|apply below_alloc|apply pw_below_drewN|apply below_drew1|refine below_set ?_ GE883.out|refine below_set ?_ GE895.out)|exact HB.out)))⟩;clear hw;clear HO890;clear HO893;clear HO898;clear BK883;clear BK895;clear HB;have HO890 := n0_;have HO893 := n1_;have HO898 := n2_;have BK883 := n3_;have BK895 := n4_;have HB := n5_;clear n0_ n1_ n2_ n3_ n4_ n5_;have hcz21_0 : w20.cell? ⟨gb895,0,none⟩ = some (.slice Ao18 y896.length co18) := (blk_cell BK895.out 0).trans rfl;have hcz21_1 : w20.cell? ⟨gb895,1,none⟩ = some (.slice Ao15 t888.length co15) := (blk_cell BK895.out 1).trans rfl;have hcz21_2 : w20.cell? ⟨gb895,2,none⟩ = some (.slice Ao16 t891.length co16) := (blk_cell BK895.out 2).trans rfl;have hcz21_3 : w20.cell? ⟨gb895,3,none⟩ = some (.bool t894) := (blk_cell BK895.out 3).trans rfl;have hfz21_0 := blk_frozen BK895.out 0;have hfz21_1 := blk_frozen BK895.out 1;have hfz21_2 := blk_frozen BK895.out 2;have hfz21_3 := blk_frozen BK895.out 3;have p8 : 0 ≤ (0 : Int) := (by omega);have q8 : (0 : Int) < ((t891.length : Int) : Int) := of_decide_eq_true (by first|(with_reducible assumption)|assumption);have qi8 : (0 < t891.length) = True := eq_true (by omega);obtain ⟨go8,co8,eo8,gb8,gl8,cl8,HG8⟩ := Kd.R_form HO893.out (by omega);(first|cases eo8|(injection eo8 with ea_ en_ ec_;(first|subst ea_|(injection ea_ with ea_;subst ea_));subst ec_;clear en_));have GB8 := Aside0.mk gb8;have GG8 := Aside0.mk HG8;clear gb8 gl8 HG8;obtain ⟨hx8_0,hf8_0⟩ := Kd.R_celln 0 HO893.out (0 : Int) p8 q8;(try rw [show ((0 : Int)).toNat = 0 from rfl] at hx8_0);(try simp only [Nat.reduceMul,Nat.zero_mul,Nat.zero_add,Nat.reduceAdd] at hx8_0);(try rw [show ((0 : Int)).toNat = 0 from rfl] at hf8_0);(try simp only [Nat.reduceMul,Nat.zero_mul,Nat.zero_add,Nat.reduceAdd] at hf8_0);replace p8 := eq_true p8;replace q8 := eq_true q8;obtain ⟨hy22_,hz22_⟩ := Kd.R_celln 0 HO893.out (0 : Int) (by omega) (of_decide_eq_true (by first|(with_reducible assumption)|assumption));(try simp only [Int.reduceToNat,Int.toNat_zero,Int.toNat_ofNat,Nat.reduceMul,Nat.zero_mul,Nat.zero_add] at hy22_ hz22_);(try rw [show ((0 : Int)).toNat = 0 from rfl] at hy22_);(try rw [show ((0 : Int)).toNat = 0 from rfl] at hz22_);have HP22 := Kd.R_putg HO893.out (0 : Int) 0)|((with_reducible refine gate_store (t := 3) (p := 19) rfl ?_);refine store_event (t := 3) (p := 19) (v := ?vo_w23) (w1 := (w20.setCell ⟨go8,(0 : Int).toNat,none⟩ (.int .i64 0))) ?hg ?ho ?hn ?hr ?_;(case ho => rfl);(case hg => rfl);(case hn => rfl);(case hr => first|(go_simp;done)|(go_simp;rfl));intro w23 hw;have hg : w20.grownBy w23 (some go8) := (by rw [hw];exact HP22.2);have hp_ : Kd.R (Kd.int .i64) 3 w23 w.heap.size (fun k_ => some k_ ≠ (.slice Ao15 t888.length co15 : Value).ownBlock) (.slice (some ⟨go8,0,none⟩) t891.length co16) y899 := (by rw [hw,Ny899.out];exact HP22.1);clear HP22;have n0_ := Aside0.mk (blk_grown (g := gb883) (o := .cells #[.slice none 0 0,.slice none 0 0,.slice none 0 0,.bool false] 56 (0,0)) (by (with_reducible repeat (first|refine blk_drewN ?_ _|refine blk_drew ?_|refine blk_alloc ?_ _));exact BK883.out) hg (Kd.R_ne HO893.out BK883.out (by decide)));have n1_ := Aside0.mk (Kd.R_after (v := (.slice (some ⟨go8,0,none⟩) t891.length co16)) (v1 := (.slice (some ⟨go8,0,none⟩) t891.length co16)) (ok := (fun _ => True)) (by (with_reducible repeat (first|apply Kd.R_alloc|apply Kd.R_drewN|apply Kd.R_drew));exact Kd.R_mono HO890.out (fun _ hk => ⟨trivial,hk⟩)) hg (.inl rfl));have n2_ := Aside0.mk (hp_);have n3_ := Aside0.mk (blk_grown (g := gb895) (o := .cells #[.slice Ao18 y896.length co18,.slice Ao15 t888.length co15,.slice (some ⟨go8,0,none⟩) t891.length co16,.bool t894] 56 (0,0)) (by (with_reducible repeat (first|refine blk_drewN ?_ _|refine blk_drew ?_|refine blk_alloc ?_ _));exact BK895.out) hg (Kd.R_ne HO893.out BK895.out (by decide)));have n4_ := Aside0.mk (Kd.S_after (v := (.slice (some ⟨go8,0,none⟩) t891.length co16)) (v1 := (.slice (some ⟨go8,0,none⟩) t891.length co16)) (ok := (fun k_ => some k_ ≠ (.slice Ao15 t888.length co15 : Value).ownBlock)) (by (with_reducible repeat (first|apply Kd.S_alloc|apply Kd.S_drewN|apply Kd.S_drew));exact HO898.out) hg (.inl rfl));have n5_ := Aside0.mk ((by rw [hw];exact below_set (HB.out) GB8.out : Below w.heap.size w w23));clear BK883;clear HO890;clear HO893;clear BK895;clear HO898;clear HB;have BK883 := n0_;have HO890 := n1_;have HO893 := n2_;have BK895 := n3_;have HO898 := n4_;have HB := n5_;clear n0_ n1_ n2_ n3_ n4_ n5_;clear hg hw hp_;have hcz24_0 : w23.cell? ⟨gb895,0,none⟩ = some (.slice Ao18 y896.length co18) := (blk_cell BK895.out 0).trans rfl;have hcz24_1 : w23.cell? ⟨gb895,1,none⟩ = some (.slice Ao15 t888.length co15) := (blk_cell BK895.out 1).trans rfl;have hcz24_2 : w23.cell? ⟨gb895,2,none⟩ = some (.slice (some ⟨go8,0,none⟩) t891.length co16) := (blk_cell BK895.out 2).trans rfl;have hcz24_3 : w23.cell? ⟨gb895,3,none⟩ = some (.bool t894) := (blk_cell BK895.out 3).trans rfl;have hfz24_0 := blk_frozen BK895.out 0;have hfz24_1 := blk_frozen BK895.out 1;have hfz24_2 := blk_frozen BK895.out 2;have hfz24_3 := blk_frozen BK895.out 3;have hcz25_0 : w23.cell? ⟨gb883,0,none⟩ = some (.slice none 0 0) := (blk_cell BK883.out 0).trans rfl;have hcz25_1 : w23.cell? ⟨gb883,1,none⟩ = some (.slice none 0 0) := (blk_cell BK883.out 1).trans rfl;have hcz25_2 : w23.cell? ⟨gb883,2,none⟩ = some (.slice none 0 0) := (blk_cell BK883.out 2).trans rfl;have hcz25_3 : w23.cell? ⟨gb883,3,none⟩ = some (.bool false) := (blk_cell BK883.out 3).trans rfl;have hfz25_0 := blk_frozen BK883.out 0;have hfz25_1 := blk_frozen BK883.out 1;have hfz25_2 := blk_frozen BK883.out 2;have hfz25_3 := blk_frozen BK883.out 3))
     refine bodyPost_ret (results_cell_row rfl _ _ gb883 56 #[.slice Ao18 y896.length co18,.slice Ao15 t888.length co15,.slice (some ⟨go8,0,none⟩) t891.length co16,.bool t894] (0,0) _ rfl (by (with_reducible repeat (first|refine blk_drewN ?_ _|refine blk_drew ?_|refine blk_alloc ?_ _));refine blk_put (cs := #[.slice Ao18 y896.length co18,.slice Ao15 t888.length co15,.slice (some ⟨go8,0,none⟩) t891.length co16,.bool false]) ?_ 3 _ rfl;(with_reducible repeat (first|refine blk_drewN ?_ _|refine blk_drew ?_|refine blk_alloc ?_ _));refine blk_put (cs := #[.slice Ao18 y896.length co18,.slice Ao15 t888.length co15,.slice none 0 0,.bool false]) ?_ 2 _ rfl;(with_reducible repeat (first|refine blk_drewN ?_ _|refine blk_drew ?_|refine blk_alloc ?_ _));refine blk_put (cs := #[.slice Ao18 y896.length co18,.slice none 0 0,.slice none 0 0,.bool false]) ?_ 1 _ rfl;(with_reducible repeat (first|refine blk_drewN ?_ _|refine blk_drew ?_|refine blk_alloc ?_ _));refine blk_put (cs := #[.slice none 0 0,.slice none 0 0,.slice none 0 0,.bool false]) ?_ 0 _ rfl;(with_reducible repeat (first|refine blk_drewN ?_ _|refine blk_drew ?_|refine blk_alloc ?_ _));exact BK883.out) Try.underlying56 rfl (by kernel_rfl)) rfl ?_
     exact ⟨_,_,_,by first|rfl|(simp [errW_none,errW_some] <;> rfl)|(simp [*,errW_none,errW_some] <;> rfl),by (with_reducible repeat (first|apply Kd.S_alloc|apply Kd.S_drewN|apply Kd.S_drew));exact Kd.S_mono (Kd.S_far (p := ⟨gb883,3,none⟩) (Kd.S_far (p := ⟨gb883,2,none⟩) (Kd.S_far (p := ⟨gb883,1,none⟩) (Kd.S_far (p := ⟨gb883,0,none⟩) (Kd.S_types HO898.out BK883.out (by decide)) (fun _ hk => hk.2) (.slice Ao18 y896.length co18)) (fun _ hk => hk.2) (.slice Ao15 t888.length co15)) (fun _ hk => hk.2) (.slice (some ⟨go8,0,none⟩) t891.length co16)) (fun _ hk => hk.2) (.bool t894)) (fun _ hk => ⟨hk.1.1,hk.1.2⟩),by (with_reducible repeat (first|apply Kd.R_alloc|apply Kd.R_drewN|apply Kd.R_drew));exact Kd.R_mono (Kd.R_far (p := ⟨gb883,3,none⟩) (Kd.R_far (p := ⟨gb883,2,none⟩) (Kd.R_far (p := ⟨gb883,1,none⟩) (Kd.R_far (p := ⟨gb883,0,none⟩) (Kd.R_types HO890.out BK883.out (by decide)) (fun _ hk => hk.2) (.slice Ao18 y896.length co18)) (fun _ hk => hk.2) (.slice Ao15 t888.length co15)) (fun _ hk => hk.2) (.slice (some ⟨go8,0,none⟩) t891.length co16)) (fun _ hk => hk.2) (.bool t894)) (fun _ hk => hk.1.2),by (with_reducible repeat (first|apply Kd.R_alloc|apply Kd.R_drewN|apply Kd.R_drew));exact Kd.R_mono (Kd.R_far (p := ⟨gb883,3,none⟩) (Kd.R_far (p := ⟨gb883,2,none⟩) (Kd.R_far (p := ⟨gb883,1,none⟩) (Kd.R_far (p := ⟨gb883,0,none⟩) (Kd.R_types HO893.out BK883.out (by decide)) (fun _ hk => hk.2) (.slice Ao18 y896.length co18)) (fun _ hk => hk.2) (.slice Ao15 t888.length co15)) (fun _ hk => hk.2) (.slice (some ⟨go8,0,none⟩) t891.length co16)) (fun _ hk => hk.2) (.bool t894)) (fun _ hk => hk.1),by repeat (first|(with_reducible first|exact HB.out|apply below_alloc|apply pw_below_drewN|apply below_drew1|refine below_set ?_ GE883.out|refine below_set ?_ GE895.out)|exact HB.out)⟩
    ·rw [if_neg c7] at H
     exact absurd H (by simp)
   ·rw [if_neg c6] at H
    exact absurd H (by simp)
  ·rw [if_neg c5] at H
   have c5b0 : (a0 == 1) = false := beq_eq_false_iff_ne.mpr c5
   have c5b1 : (a0 != 1) = true := bne_iff_ne.mpr c5
   simp only [Option.some.injEq,Prod.mk.injEq] at H
   obtain ⟨rfl,rfl,rfl,rfl⟩ := H
   go_enter Try.func38,Try.ntmps38
   go_wp2_with (first|((with_reducible refine gate_dst (N := 2) rfl ?_);refine box_event ?hg (N := 2) ?hd (cs := #[.slice none 0 0,.slice none 0 0,.slice none 0 0,.bool false]) (t := 56) ?hr ?_;(case hd => rfl);(case hg => rfl);(case hr => first|(go_simp;done)|(go_simp;rfl));intro gb883 hg w26 hbox hb;have n0_ := Aside0.mk (below_step (by repeat (first|(with_reducible first|exact HB.out|apply below_alloc|apply pw_below_drewN|apply below_drew1)|exact HB.out)) hb);have n1_ := Aside0.mk (hbox);have n2_ := Aside0.mk ((by rw [hg];exact (below_size (by repeat (first|(with_reducible first|exact HB.out|apply below_alloc|apply pw_below_drewN|apply below_drew1)|exact HB.out))) : w.heap.size ≤ gb883));have n3_ := Aside0.mk ((by rw [hg];exact (below_size (by repeat (first|(with_reducible first|exact HB.out|apply below_alloc|apply pw_below_drewN|apply below_drew1)|exact HB.out))) : w.heap.size ≤ gb883));clear HB;have HB := n0_;have BK883 := n1_;have GW883 := n2_;have GE883 := n3_;clear n0_ n1_ n2_ n3_;clear hb hbox hg)|((with_reducible refine gate_callee (f := 56) rfl ?_);refine goesL_ (some 5) rfl rfl Try.func56 (by kernel_rfl) rfl #[.int .i64 a0,.int .i64 0,.int .i64 1] rfl (by (try simp only [List.map_toArray,List.map_cons,List.map_nil]);first|done|rfl|(simp only [List.length_drop,List.length_take];rfl)) ?_;(with_reducible refine (spec_inRange.calls a0 0 1 true _ A2.out).mono ?_);rintro e w' ⟨rfl,⟨nd,rfl⟩⟩;refine ⟨_,rfl,?_⟩;(try (rw [drewN_self w26];generalize hq_ : World.drewN w26 _ = w26;have n0_ : Aside0 (w26.heap[gb883]? = some (.cells #[.slice none 0 0,.slice none 0 0,.slice none 0 0,.bool false] 56 (0,0))) := ⟨by rw [← hq_];exact (by (with_reducible repeat (first|refine blk_drewN ?_ _|refine blk_drew ?_|refine blk_alloc ?_ _));exact BK883.out)⟩;have n1_ : Aside0 (Below w.heap.size w w26) := ⟨by rw [← hq_];exact (by repeat (first|(with_reducible first|exact HB.out|apply below_alloc|apply pw_below_drewN|apply below_drew1|refine below_set ?_ GE883.out)|exact HB.out))⟩;clear BK883 HB hq_;have BK883 := n0_;have HB := n1_;clear n0_ n1_)))|((with_reducible refine gate_callee (f := 77) rfl ?_);refine goesL_ (some 8) rfl rfl Try.func77 (by kernel_rfl) rfl #[] rfl (by (try simp only [List.map_toArray,List.map_cons,List.map_nil]);first|done|rfl|(simp only [List.length_drop,List.length_take];rfl)) ?_;(with_reducible refine (spec_newMachine.calls k  t885 t888 t891 t894 _ A4.out).mono ?_);rintro e w27 ⟨v886,v889,v892,rfl,ho0,ho1,ho2,hb⟩;refine ⟨_,rfl,?_⟩;have n0_ := Aside0.mk (Kd.S_lower ho0 (below_size (by repeat (first|(with_reducible first|exact HB.out|apply below_alloc|apply pw_below_drewN|apply below_drew1|refine below_set ?_ GE883.out)|exact HB.out))));have n1_ := Aside0.mk (Kd.R_lower ho1 (below_size (by repeat (first|(with_reducible first|exact HB.out|apply below_alloc|apply pw_below_drewN|apply below_drew1|refine below_set ?_ GE883.out)|exact HB.out))));have n2_ := Aside0.mk (Kd.R_lower ho2 (below_size (by repeat (first|(with_reducible first|exact HB.out|apply below_alloc|apply pw_below_drewN|apply below_drew1|refine below_set ?_ GE883.out)|exact HB.out))));have n3_ := Aside0.mk (blk_below (g := gb883) (o := .cells #[.slice none 0 0,.slice none 0 0,.slice none 0 0,.bool false] 56 (0,0)) (by (with_reducible repeat (first|refine blk_drewN ?_ _|refine blk_drew ?_|refine blk_alloc ?_ _));exact BK883.out) hb);have n4_ := Aside0.mk (below_step (by repeat (first|(with_reducible first|exact HB.out|apply below_alloc|apply pw_below_drewN|apply below_drew1|refine below_set ?_ GE883.out)|exact HB.out)) hb);clear BK883;clear HB;have HO887 := n0_;have HO890 := n1_;have HO893 := n2_;have BK883 := n3_;have HB := n4_;clear n0_ n1_ n2_ n3_ n4_;(try clear hb);(try clear hb2);(try clear hk);(try clear hi);(try clear ho0);(try clear ho1);(try clear ho2))|((with_reducible refine gate_dst (N := 3) rfl ?_);refine box_event ?hg (N := 3) ?hd (cs := #[.slice none 0 0,.slice none 0 0,.slice none 0 0,.bool false]) (t := 56) ?hr ?_;(case hd => rfl);(case hg => rfl);(case hr => first|(go_simp;done)|(go_simp;rfl));intro gb895 hg w28 hbox hb;have n0_ := Aside0.mk (Kd.S_below (by (with_reducible repeat (first|apply Kd.S_alloc|apply Kd.S_drewN|apply Kd.S_drew));exact HO887.out) hb);have n1_ := Aside0.mk (Kd.R_below (by (with_reducible repeat (first|apply Kd.R_alloc|apply Kd.R_drewN|apply Kd.R_drew));exact HO890.out) hb);have n2_ := Aside0.mk (Kd.R_below (by (with_reducible repeat (first|apply Kd.R_alloc|apply Kd.R_drewN|apply Kd.R_drew));exact HO893.out) hb);have n3_ := Aside0.mk (blk_below (g := gb883) (o := .cells #[.slice none 0 0,.slice none 0 0,.slice none 0 0,.bool false] 56 (0,0)) (by (with_reducible repeat (first|refine blk_drewN ?_ _|refine blk_drew ?_|refine blk_alloc ?_ _));exact BK883.out) hb);have n4_ := Aside0.mk (below_step (by repeat (first|(with_reducible first|exact HB.out|apply below_alloc|apply pw_below_drewN|apply below_drew1|refine below_set ?_ GE883.out)|exact HB.out)) hb);have n5_ := Aside0.mk (hbox);have n6_ := Aside0.mk ((by rw [hg];exact (below_size (by repeat (first|(with_reducible first|exact HB.out|apply below_alloc|apply pw_below_drewN|apply below_drew1|refine below_set ?_ GE883.out)|exact HB.out))) : w.heap.size ≤ gb895));have n7_ := Aside0.mk ((by rw [hg];exact (below_size (by repeat (first|(with_reducible first|exact HB.out|apply below_alloc|apply pw_below_drewN|apply below_drew1|refine below_set ?_ GE883.out)|exact HB.out))) : w.heap.size ≤ gb895));have n8_ := Aside0.mk ((by rw [hg];exact Nat.ne_of_lt (blk_lt (g := gb883) (o := .cells #[.slice none 0 0,.slice none 0 0,.slice none 0 0,.bool false] 56 (0,0)) (by (with_reducible repeat (first|refine blk_drewN ?_ _|refine blk_drew ?_|refine blk_alloc ?_ _));exact BK883.out)) : gb883 ≠ gb895));have n9_ := Aside0.mk ((by rw [hg];exact Nat.ne_of_gt (blk_lt (g := gb883) (o := .cells #[.slice none 0 0,.slice none 0 0,.slice none 0 0,.bool false] 56 (0,0)) (by (with_reducible repeat (first|refine blk_drewN ?_ _|refine blk_drew ?_|refine blk_alloc ?_ _));exact BK883.out)) : gb895 ≠ gb883));clear HO887;clear HO890;clear HO893;clear BK883;clear HB;have HO887 := n0_;have HO890 := n1_;have HO893 := n2_;have BK883 := n3_;have HB := n4_;have BK895 := n5_;have GW895 := n6_;have GE895 := n7_;have NB883_895 := n8_;have NB895_883 := n9_;clear n0_ n1_ n2_ n3_ n4_ n5_ n6_ n7_ n8_ n9_;clear hb hbox hg;obtain ⟨Ao29,co29,eo29⟩ := Kd.S_slice HO887.out;subst eo29;have hnb30 := NB895_883.out;have hnc30 := NB883_895.out;have hcz31_0 : w28.cell? ⟨gb895,0,none⟩ = some (.slice none 0 0) := (blk_cell BK895.out 0).trans rfl;have hcz31_1 : w28.cell? ⟨gb895,1,none⟩ = some (.slice none 0 0) := (blk_cell BK895.out 1).trans rfl;have hcz31_2 : w28.cell? ⟨gb895,2,none⟩ = some (.slice none 0 0) := (blk_cell BK895.out 2).trans rfl;have hcz31_3 : w28.cell? ⟨gb895,3,none⟩ = some (.bool false) := (blk_cell BK895.out 3).trans rfl;have hfz31_0 := blk_frozen BK895.out 0;have hfz31_1 := blk_frozen BK895.out 1;have hfz31_2 := blk_frozen BK895.out 2;have hfz31_3 := blk_frozen BK895.out 3;obtain ⟨Ao32,co32,eo32⟩ := Kd.R_slice HO890.out;subst eo32;obtain ⟨Ao33,co33,eo33⟩ := Kd.R_slice HO893.out;subst eo33;have hcz34_0 : w28.cell? ⟨gb883,0,none⟩ = some (.slice none 0 0) := (blk_cell BK883.out 0).trans rfl;have hcz34_1 : w28.cell? ⟨gb883,1,none⟩ = some (.slice none 0 0) := (blk_cell BK883.out 1).trans rfl;have hcz34_2 : w28.cell? ⟨gb883,2,none⟩ = some (.slice none 0 0) := (blk_cell BK883.out 2).trans rfl;have hcz34_3 : w28.cell? ⟨gb883,3,none⟩ = some (.bool false) := (blk_cell BK883.out 3).trans rfl;have hfz34_0 := blk_frozen BK883.out 0;have hfz34_1 := blk_frozen BK883.out 1;have hfz34_2 := blk_frozen BK883.out 2;have hfz34_3 := blk_frozen BK883.out 3))
   refine bodyPost_ret (results_cell_row rfl _ _ gb883 56 #[.slice Ao29 t885.length co29,.slice Ao32 t888.length co32,.slice Ao33 t891.length co33,.bool t894] (0,0) _ rfl (by (with_reducible repeat (first|refine blk_drewN ?_ _|refine blk_drew ?_|refine blk_alloc ?_ _));refine blk_put (cs := #[.slice Ao29 t885.length co29,.slice Ao32 t888.length co32,.slice Ao33 t891.length co33,.bool false]) ?_ 3 _ rfl;(with_reducible repeat (first|refine blk_drewN ?_ _|refine blk_drew ?_|refine blk_alloc ?_ _));refine blk_put (cs := #[.slice Ao29 t885.length co29,.slice Ao32 t888.length co32,.slice none 0 0,.bool false]) ?_ 2 _ rfl;(with_reducible repeat (first|refine blk_drewN ?_ _|refine blk_drew ?_|refine blk_alloc ?_ _));refine blk_put (cs := #[.slice Ao29 t885.length co29,.slice none 0 0,.slice none 0 0,.bool false]) ?_ 1 _ rfl;(with_reducible repeat (first|refine blk_drewN ?_ _|refine blk_drew ?_|refine blk_alloc ?_ _));refine blk_put (cs := #[.slice none 0 0,.slice none 0 0,.slice none 0 0,.bool false]) ?_ 0 _ rfl;(with_reducible repeat (first|refine blk_drewN ?_ _|refine blk_drew ?_|refine blk_alloc ?_ _));refine blk_far ?_ NB883_895.out _;(with_reducible repeat (first|refine blk_drewN ?_ _|refine blk_drew ?_|refine blk_alloc ?_ _));refine blk_far ?_ NB883_895.out _;(with_reducible repeat (first|refine blk_drewN ?_ _|refine blk_drew ?_|refine blk_alloc ?_ _));refine blk_far ?_ NB883_895.out _;(with_reducible repeat (first|refine blk_drewN ?_ _|refine blk_drew ?_|refine blk_alloc ?_ _));refine blk_far ?_ NB883_895.out _;(with_reducible repeat (first|refine blk_drewN ?_ _|refine blk_drew ?_|refine blk_alloc ?_ _));exact BK883.out) Try.underlying56 rfl (by kernel_rfl)) rfl ?_
   exact ⟨_,_,_,by first|rfl|(simp [errW_none,errW_some] <;> rfl)|(simp [*,errW_none,errW_some] <;> rfl),by (with_reducible repeat (first|apply Kd.S_alloc|apply Kd.S_drewN|apply Kd.S_drew));exact Kd.S_mono (Kd.S_far (p := ⟨gb883,3,none⟩) (Kd.S_far (p := ⟨gb883,2,none⟩) (Kd.S_far (p := ⟨gb883,1,none⟩) (Kd.S_far (p := ⟨gb883,0,none⟩) (Kd.S_far (p := ⟨gb895,3,none⟩) (Kd.S_far (p := ⟨gb895,2,none⟩) (Kd.S_far (p := ⟨gb895,1,none⟩) (Kd.S_far (p := ⟨gb895,0,none⟩) (Kd.S_types (Kd.S_types HO887.out BK895.out (by decide)) BK883.out (by decide)) (fun _ hk => hk.1.2) (.slice Ao29 t885.length co29)) (fun _ hk => hk.1.2) (.slice Ao32 t888.length co32)) (fun _ hk => hk.1.2) (.slice Ao33 t891.length co33)) (fun _ hk => hk.1.2) (.bool t894)) (fun _ hk => hk.2) (.slice Ao29 t885.length co29)) (fun _ hk => hk.2) (.slice Ao32 t888.length co32)) (fun _ hk => hk.2) (.slice Ao33 t891.length co33)) (fun _ hk => hk.2) (.bool t894)) (fun _ hk => ⟨hk.1.1.1,hk.1.1.2⟩),by (with_reducible repeat (first|apply Kd.R_alloc|apply Kd.R_drewN|apply Kd.R_drew));exact Kd.R_mono (Kd.R_far (p := ⟨gb883,3,none⟩) (Kd.R_far (p := ⟨gb883,2,none⟩) (Kd.R_far (p := ⟨gb883,1,none⟩) (Kd.R_far (p := ⟨gb883,0,none⟩) (Kd.R_far (p := ⟨gb895,3,none⟩) (Kd.R_far (p := ⟨gb895,2,none⟩) (Kd.R_far (p := ⟨gb895,1,none⟩) (Kd.R_far (p := ⟨gb895,0,none⟩) (Kd.R_types (Kd.R_types HO890.out BK895.out (by decide)) BK883.out (by decide)) (fun _ hk => hk.1.2) (.slice Ao29 t885.length co29)) (fun _ hk => hk.1.2) (.slice Ao32 t888.length co32)) (fun _ hk => hk.1.2) (.slice Ao33 t891.length co33)) (fun _ hk => hk.1.2) (.bool t894)) (fun _ hk => hk.2) (.slice Ao29 t885.length co29)) (fun _ hk => hk.2) (.slice Ao32 t888.length co32)) (fun _ hk => hk.2) (.slice Ao33 t891.length co33)) (fun _ hk => hk.2) (.bool t894)) (fun _ hk => hk.1.1),by (with_reducible repeat (first|apply Kd.R_alloc|apply Kd.R_drewN|apply Kd.R_drew));exact Kd.R_mono (Kd.R_far (p := ⟨gb883,3,none⟩) (Kd.R_far (p := ⟨gb883,2,none⟩) (Kd.R_far (p := ⟨gb883,1,none⟩) (Kd.R_far (p := ⟨gb883,0,none⟩) (Kd.R_far (p := ⟨gb895,3,none⟩) (Kd.R_far (p := ⟨gb895,2,none⟩) (Kd.R_far (p := ⟨gb895,1,none⟩) (Kd.R_far (p := ⟨gb895,0,none⟩) (Kd.R_types (Kd.R_types HO893.out BK895.out (by decide)) BK883.out (by decide)) (fun _ hk => hk.1.2) (.slice Ao29 t885.length co29)) (fun _ hk => hk.1.2) (.slice Ao32 t888.length co32)) (fun _ hk => hk.1.2) (.slice Ao33 t891.length co33)) (fun _ hk => hk.1.2) (.bool t894)) (fun _ hk => hk.2) (.slice Ao29 t885.length co29)) (fun _ hk => hk.2) (.slice Ao32 t888.length co32)) (fun _ hk => hk.2) (.slice Ao33 t891.length co33)) (fun _ hk => hk.2) (.bool t894)) (fun _ hk => hk.1.1),by repeat (first|(with_reducible first|exact HB.out|apply below_alloc|apply pw_below_drewN|apply below_drew1|refine below_set ?_ GE883.out|refine below_set ?_ GE895.out)|exact HB.out)⟩
 ·replace c3 := Bool.eq_false_iff.mpr c3
  subst c3
  have H1 : (some (([] : List (S88)),([] : List Int),([] : List Int),false)) = some (r1,r2,r3,r4) := by rw [if_neg (show ¬ (false = true) by decide)] at H;exact H
  clear H
  have H := H1
  clear H1
  simp only [Option.some.injEq,Prod.mk.injEq] at H
  obtain ⟨rfl,rfl,rfl,rfl⟩ := H
  go_enter Try.func38,Try.ntmps38
  go_wp2_with (first|((with_reducible refine gate_dst (N := 2) rfl ?_);refine box_event ?hg (N := 2) ?hd (cs := #[.slice none 0 0,.slice none 0 0,.slice none 0 0,.bool false]) (t := 56) ?hr ?_;(case hd => rfl);(case hg => rfl);(case hr => first|(go_simp;done)|(go_simp;rfl));intro gb883 hg w35 hbox hb;have n0_ := Aside0.mk (below_step (by repeat (first|(with_reducible first|exact HB.out|apply below_alloc|apply pw_below_drewN|apply below_drew1)|exact HB.out)) hb);have n1_ := Aside0.mk (hbox);have n2_ := Aside0.mk ((by rw [hg];exact (below_size (by repeat (first|(with_reducible first|exact HB.out|apply below_alloc|apply pw_below_drewN|apply below_drew1)|exact HB.out))) : w.heap.size ≤ gb883));have n3_ := Aside0.mk ((by rw [hg];exact (below_size (by repeat (first|(with_reducible first|exact HB.out|apply below_alloc|apply pw_below_drewN|apply below_drew1)|exact HB.out))) : w.heap.size ≤ gb883));clear HB;have HB := n0_;have BK883 := n1_;have GW883 := n2_;have GE883 := n3_;clear n0_ n1_ n2_ n3_;clear hb hbox hg)|((with_reducible refine gate_callee (f := 56) rfl ?_);refine goesL_ (some 5) rfl rfl Try.func56 (by kernel_rfl) rfl #[.int .i64 a0,.int .i64 0,.int .i64 1] rfl (by (try simp only [List.map_toArray,List.map_cons,List.map_nil]);first|done|rfl|(simp only [List.length_drop,List.length_take];rfl)) ?_;(with_reducible refine (spec_inRange.calls a0 0 1 false _ A2.out).mono ?_);rintro e w' ⟨rfl,⟨nd,rfl⟩⟩;refine ⟨_,rfl,?_⟩;(try (rw [drewN_self w35];generalize hq_ : World.drewN w35 _ = w35;have n0_ : Aside0 (w35.heap[gb883]? = some (.cells #[.slice none 0 0,.slice none 0 0,.slice none 0 0,.bool false] 56 (0,0))) := ⟨by rw [← hq_];exact (by (with_reducible repeat (first|refine blk_drewN ?_ _|refine blk_drew ?_|refine blk_alloc ?_ _));exact BK883.out)⟩;have n1_ : Aside0 (Below w.heap.size w w35) := ⟨by rw [← hq_];exact (by repeat (first|(with_reducible first|exact HB.out|apply below_alloc|apply pw_below_drewN|apply below_drew1|refine below_set ?_ GE883.out)|exact HB.out))⟩;clear BK883 HB hq_;have BK883 := n0_;have HB := n1_;clear n0_ n1_));have hcz36_0 : w35.cell? ⟨gb883,0,none⟩ = some (.slice none 0 0) := (blk_cell BK883.out 0).trans rfl;have hcz36_1 : w35.cell? ⟨gb883,1,none⟩ = some (.slice none 0 0) := (blk_cell BK883.out 1).trans rfl;have hcz36_2 : w35.cell? ⟨gb883,2,none⟩ = some (.slice none 0 0) := (blk_cell BK883.out 2).trans rfl;have hcz36_3 : w35.cell? ⟨gb883,3,none⟩ = some (.bool false) := (blk_cell BK883.out 3).trans rfl;have hfz36_0 := blk_frozen BK883.out 0;have hfz36_1 := blk_frozen BK883.out 1;have hfz36_2 := blk_frozen BK883.out 2;have hfz36_3 := blk_frozen BK883.out 3))
  refine bodyPost_ret (results_cell_row rfl _ _ gb883 56 #[.slice none 0 0,.slice none 0 0,.slice none 0 0,.bool false] (0,0) _ rfl (by (with_reducible repeat (first|refine blk_drewN ?_ _|refine blk_drew ?_|refine blk_alloc ?_ _));refine blk_put (cs := #[.slice none 0 0,.slice none 0 0,.slice none 0 0,.bool false]) ?_ 3 _ rfl;(with_reducible repeat (first|refine blk_drewN ?_ _|refine blk_drew ?_|refine blk_alloc ?_ _));refine blk_put (cs := #[.slice none 0 0,.slice none 0 0,.slice none 0 0,.bool false]) ?_ 2 _ rfl;(with_reducible repeat (first|refine blk_drewN ?_ _|refine blk_drew ?_|refine blk_alloc ?_ _));refine blk_put (cs := #[.slice none 0 0,.slice none 0 0,.slice none 0 0,.bool false]) ?_ 1 _ rfl;(with_reducible repeat (first|refine blk_drewN ?_ _|refine blk_drew ?_|refine blk_alloc ?_ _));refine blk_put (cs := #[.slice none 0 0,.slice none 0 0,.slice none 0 0,.bool false]) ?_ 0 _ rfl;(with_reducible repeat (first|refine blk_drewN ?_ _|refine blk_drew ?_|refine blk_alloc ?_ _));exact BK883.out) Try.underlying56 rfl (by kernel_rfl)) rfl ?_
  exact ⟨_,_,_,by first|rfl|(simp [errW_none,errW_some] <;> rfl)|(simp [*,errW_none,errW_some] <;> rfl),by first|exact Kd.S_nil _ _ _ _ _|exact Kd.N_nil _ _ _ _ _|exact Kd.V_nil _ _ _ _ _|exact Kd.Q_nil _ _ _ _ _|exact Kd.R_nil _ _ _ _ _,by first|exact Kd.R_nil _ _ _ _ _|exact Kd.N_nil _ _ _ _ _|exact Kd.V_nil _ _ _ _ _|exact Kd.Q_nil _ _ _ _ _|exact Kd.S_nil _ _ _ _ _,by first|exact Kd.R_nil _ _ _ _ _|exact Kd.N_nil _ _ _ _ _|exact Kd.V_nil _ _ _ _ _|exact Kd.Q_nil _ _ _ _ _|exact Kd.S_nil _ _ _ _ _,by repeat (first|(with_reducible first|exact HB.out|apply below_alloc|apply pw_below_drewN|apply below_drew1|refine below_set ?_ GE883.out)|exact HB.out)⟩

/-! ### impl_NewMachine: function 39 -/
mutual
def impl_NewMachine.j0 : Nat → Int → Bool → Option ((List (S88)) × List Int × List Int × Bool)
 | 0,_,_ => none
 | k + 1,x0,x10 => if x10 = true then (some (([] : List (S88)),([] : List Int),([] : List Int),false)) else (if 20 ≤ 35184372088832 then ((some (List.replicate 20 0 : List Int)).bind fun y901 => (impl_NewMachine.l0 k x0 (y901.length : Int) 0 y901 false)) else (none))
def impl_NewMachine.l0 : Nat → Int → Int → Int → List Int → Bool → Option ((List (S88)) × List Int × List Int × Bool)
 | 0,_,_,_,_,_ => none
 | k + 1,x0,x16,x17,x905002,x905003 => if x17 < x16 then (if x17 ≥ x0 then (if 0 ≤ x17 then (if x17 < (x905002.length : Int) then (impl_NewMachine.l0 k x0 x16 (wrap64 (x17 + 1)) (x905002.set (x17 : Int).toNat (-1)) x905003) else (none)) else (none)) else (impl_NewMachine.l0 k x0 x16 (wrap64 (x17 + 1)) x905002 x905003)) else (if x0 = 1 then (some ((([(⟨0,0,([] : List Int)⟩ : S88)] : List (S88))),([] : List Int),x905002,x905003)) else (some (([] : List (S88)),([] : List Int),x905002,x905003)))
end
def impl_NewMachine.f (k : Nat) (a0 : Int) : Option ((List (S88)) × List Int × List Int × Bool) := if a0 < 0 then (impl_NewMachine.j0 k a0 true) else (impl_NewMachine.j0 k a0 (decide (a0 > 1)))
set_option maxRecDepth 100000 in
theorem impl_NewMachine.mono_l : ∀ k,(∀ y0 y1,LeO (impl_NewMachine.j0 k y0 y1) (impl_NewMachine.j0 (k + 1) y0 y1)) ∧ (∀ y0 y1 y2 y3 y4,LeO (impl_NewMachine.l0 k y0 y1 y2 y3 y4) (impl_NewMachine.l0 (k + 1) y0 y1 y2 y3 y4))
 | 0 => ⟨fun _ _ r h => (by cases h),fun _ _ _ _ _ r h => (by cases h)⟩
 | k + 1 => by
  obtain ⟨ih0,ih1⟩ := impl_NewMachine.mono_l k
  refine ⟨?_,?_⟩
  ·intro y0 y1
   unfold impl_NewMachine.j0
   repeat' first
   | (with_reducible exact ih0 _ _)
   | (with_reducible exact ih1 _ _ _ _ _)
   | (with_reducible exact LeO.refl _)
   | (with_reducible exact LeO.none _)
   | (with_reducible refine LeO.ite ?_ ?_)
   | (with_reducible refine LeO.bind ?_ (fun _ => ?_))
   | exact ih0 _ _
   | exact ih1 _ _ _ _ _
   | exact LeO.none _
   | refine LeO.ite ?_ ?_
   | refine LeO.bind ?_ (fun _ => ?_)
  ·intro y0 y1 y2 y3 y4
   unfold impl_NewMachine.l0
   repeat' first
   | (with_reducible exact ih0 _ _)
   | (with_reducible exact ih1 _ _ _ _ _)
   | (with_reducible exact LeO.refl _)
   | (with_reducible exact LeO.none _)
   | (with_reducible refine LeO.ite ?_ ?_)
   | (with_reducible refine LeO.bind ?_ (fun _ => ?_))
   | exact ih0 _ _
   | exact ih1 _ _ _ _ _
   | exact LeO.none _
   | refine LeO.ite ?_ ?_
   | refine LeO.bind ?_ (fun _ => ?_)
set_option maxRecDepth 100000 in
theorem impl_NewMachine.mono : ∀ a0 k,LeO (impl_NewMachine.f k a0) (impl_NewMachine.f (k + 1) a0) := by
 intro a0 k
 obtain ⟨ih0,ih1⟩ := impl_NewMachine.mono_l k
 unfold impl_NewMachine.f
 repeat' first
   | (with_reducible exact ih0 _ _)
   | (with_reducible exact ih1 _ _ _ _ _)
   | (with_reducible exact LeO.refl _)
   | (with_reducible exact LeO.none _)
   | (with_reducible refine LeO.ite ?_ ?_)
   | (with_reducible refine LeO.bind ?_ (fun _ => ?_))
   | exact ih0 _ _
   | exact ih1 _ _ _ _ _
   | exact LeO.none _
   | refine LeO.ite ?_ ?_
   | refine LeO.bind ?_ (fun _ => ?_)
set_option maxHeartbeats 8000000 in
set_option maxRecDepth 100000 in
theorem impl_NewMachine.calls (k : Nat) (a0 : Int) (r1 : List (S88)) (r2 : List Int) (r3 : List Int) (r4 : Bool) (w : World) (h : impl_NewMachine.f k a0 = some (r1,r2,r3,r4)) :
  Calls Try.prog 39 #[.int .i64 a0] w fun e w' => ∃ v0_ v1_ v2_ : Value,e = .returned (.agg #[v0_,v1_,v2_,.bool r4]) ∧ Kd.S k88 88 w' w.heap.size (fun k_ => some k_ ≠ (v1_ : Value).ownBlock ∧ some k_ ≠ (v2_ : Value).ownBlock) v0_ r1 ∧ Kd.R (Kd.int .i64) 3 w' w.heap.size (fun k_ => some k_ ≠ (v2_ : Value).ownBlock) v1_ r2 ∧ Kd.R (Kd.int .i64) 3 w' w.heap.size (fun k_ => some k_ ≠ (v1_ : Value).ownBlock) v2_ r3 ∧ Below w.heap.size w w' := by
 have hu56 := Try.underlying56
 have hu88 := Try.underlying88
 have HB := Aside0.mk (Below.refl w.heap.size w)
 have H : (if a0 < 0 then (impl_NewMachine.j0 k a0 true) else (impl_NewMachine.j0 k a0 (decide (a0 > 1)))) = some (r1,r2,r3,r4) := h
 clear h
 have HC2 := Aside0.mk H
 clear H
 go_enter Try.func39,Try.ntmps39
 go_upto_region 1 with (first|((with_reducible refine gate_dst (N := 2) rfl ?_);refine box_event ?hg (N := 2) ?hd (cs := #[.slice none 0 0,.slice none 0 0,.slice none 0 0,.bool false]) (t := 56) ?hr ?_;(case hd => rfl);(case hg => rfl);(case hr => first|(go_simp;done)|(go_simp;rfl));intro gb900 hg w3 hbox hb;have n0_ := Aside0.mk (below_step (by repeat (first|(with_reducible first|exact HB.out|apply below_alloc|apply pw_below_drewN|apply below_drew1)|exact HB.out)) hb);have n1_ := Aside0.mk (hbox);have n2_ := Aside0.mk ((by rw [hg];exact (below_size (by repeat (first|(with_reducible first|exact HB.out|apply below_alloc|apply pw_below_drewN|apply below_drew1)|exact HB.out))) : w.heap.size ≤ gb900));have n3_ := Aside0.mk ((by rw [hg];exact (below_size (by repeat (first|(with_reducible first|exact HB.out|apply below_alloc|apply pw_below_drewN|apply below_drew1)|exact HB.out))) : w.heap.size ≤ gb900));clear HB;have HB := n0_;have BK900 := n1_;have GW900 := n2_;have GE900 := n3_;clear n0_ n1_ n2_ n3_;clear hb hbox hg))
 (try simp only [Act.put,List.setIfInBounds_toArray,List.set_cons_zero,List.set_cons_succ])
 go_cut [10] (fun v10 wc => ∃ (kq : Nat) (x10_1 : Bool),v10 = .bool x10_1 ∧ Aside0 (impl_NewMachine.j0 kq a0 x10_1 = some (r1,r2,r3,r4)) ∧ Aside0 (kq ≤ k) ∧ Aside0 (wc.heap[gb900]? = some (.cells #[(.slice none 0 0),(.slice none 0 0),(.slice none 0 0),.bool false] 56 (0,0))) ∧ Aside0 (Below w.heap.size w wc))
 case first =>
  have H := HC2.out
  clear HC2
  by_cases c4 : a0 < 0
  ·rw [if_pos c4] at H
   have c4b0 : decide (a0 < 0) = true := decide_eq_true c4
   clear c4
   (first|rw [c4b0]|(simp only [i64_w,i32_w];rw [c4b0])|skip)
   have H' := Aside0.mk H
   clear H
   go_wp2
   go_meet
   case rel => exact ⟨_,(true),(by first|rfl|(simp;done)|(simp [*];done)),H',⟨by first|omega|exact Nat.le_refl _⟩,⟨by (with_reducible repeat (first|refine blk_drewN ?_ _|refine blk_drew ?_|refine blk_alloc ?_ _));exact BK900.out⟩,⟨by repeat (first|(with_reducible first|exact HB.out|apply below_alloc|apply pw_below_drewN|apply below_drew1|refine below_set ?_ GE900.out)|exact HB.out)⟩⟩
  ·rw [if_neg c4] at H
   have c4b0 : decide (a0 < 0) = false := decide_eq_false c4
   clear c4
   (first|rw [c4b0]|(simp only [i64_w,i32_w];rw [c4b0])|skip)
   have H' := Aside0.mk H
   clear H
   go_wp2
   go_meet
   case rel => exact ⟨_,(decide (a0 > 1)),(by first|rfl|(simp;done)|(simp [*];done)),H',⟨by first|omega|exact Nat.le_refl _⟩,⟨by (with_reducible repeat (first|refine blk_drewN ?_ _|refine blk_drew ?_|refine blk_alloc ?_ _));exact BK900.out⟩,⟨by repeat (first|(with_reducible first|exact HB.out|apply below_alloc|apply pw_below_drewN|apply below_drew1|refine below_set ?_ GE900.out)|exact HB.out)⟩⟩
 case rest =>
  clear HC2
  try clear p2
  try clear c3
  try clear c4
  try clear c4b0
  obtain ⟨kq,x10_1,rfl,HA,HJ1,BK900,HB⟩ := hcut
  cases kq with
  | zero => exact absurd HA.out (fun h_ => (by cases h_))
  | succ kj1 =>
   have H := HA.out
   clear HA
   simp only [impl_NewMachine.j0] at H
   by_cases c5 : x10_1 = true
   ·subst c5
    have H1 : (some (([] : List (S88)),([] : List Int),([] : List Int),false)) = some (r1,r2,r3,r4) := by rw [if_pos rfl] at H;exact H
    clear H
    have H := H1
    clear H1
    simp only [Option.some.injEq,Prod.mk.injEq] at H
    obtain ⟨rfl,rfl,rfl,rfl⟩ := H
    have hcz6_0 : wc.cell? ⟨gb900,0,none⟩ = some (.slice none 0 0) := (blk_cell BK900.out 0).trans rfl
    have hcz6_1 : wc.cell? ⟨gb900,1,none⟩ = some (.slice none 0 0) := (blk_cell BK900.out 1).trans rfl
    have hcz6_2 : wc.cell? ⟨gb900,2,none⟩ = some (.slice none 0 0) := (blk_cell BK900.out 2).trans rfl
    have hcz6_3 : wc.cell? ⟨gb900,3,none⟩ = some (.bool false) := (blk_cell BK900.out 3).trans rfl
    have hfz6_0 := blk_frozen BK900.out 0
    have hfz6_1 := blk_frozen BK900.out 1
    have hfz6_2 := blk_frozen BK900.out 2
    have hfz6_3 := blk_frozen BK900.out 3
    go_wp2
    refine bodyPost_ret (results_cell_row rfl _ _ gb900 56 #[.slice none 0 0,.slice none 0 0,.slice none 0 0,.bool false] (0,0) _ rfl (by (with_reducible repeat (first|refine blk_drewN ?_ _|refine blk_drew ?_|refine blk_alloc ?_ _));refine blk_put (cs := #[.slice none 0 0,.slice none 0 0,.slice none 0 0,.bool false]) ?_ 3 _ rfl;(with_reducible repeat (first|refine blk_drewN ?_ _|refine blk_drew ?_|refine blk_alloc ?_ _));refine blk_put (cs := #[.slice none 0 0,.slice none 0 0,.slice none 0 0,.bool false]) ?_ 2 _ rfl;(with_reducible repeat (first|refine blk_drewN ?_ _|refine blk_drew ?_|refine blk_alloc ?_ _));refine blk_put (cs := #[.slice none 0 0,.slice none 0 0,.slice none 0 0,.bool false]) ?_ 1 _ rfl;(with_reducible repeat (first|refine blk_drewN ?_ _|refine blk_drew ?_|refine blk_alloc ?_ _));refine blk_put (cs := #[.slice none 0 0,.slice none 0 0,.slice none 0 0,.bool false]) ?_ 0 _ rfl;(with_reducible repeat (first|refine blk_drewN ?_ _|refine blk_drew ?_|refine blk_alloc ?_ _));exact BK900.out) Try.underlying56 rfl (by kernel_rfl)) rfl ?_
    exact ⟨_,_,_,by first|rfl|(simp [errW_none,errW_some] <;> rfl)|(simp [*,errW_none,errW_some] <;> rfl),by first|exact Kd.S_nil _ _ _ _ _|exact Kd.N_nil _ _ _ _ _|exact Kd.V_nil _ _ _ _ _|exact Kd.Q_nil _ _ _ _ _|exact Kd.R_nil _ _ _ _ _,by first|exact Kd.R_nil _ _ _ _ _|exact Kd.N_nil _ _ _ _ _|exact Kd.V_nil _ _ _ _ _|exact Kd.Q_nil _ _ _ _ _|exact Kd.S_nil _ _ _ _ _,by first|exact Kd.R_nil _ _ _ _ _|exact Kd.N_nil _ _ _ _ _|exact Kd.V_nil _ _ _ _ _|exact Kd.Q_nil _ _ _ _ _|exact Kd.S_nil _ _ _ _ _,by repeat (first|(with_reducible first|exact HB.out|apply below_alloc|apply pw_below_drewN|apply below_drew1|refine below_set ?_ GE900.out)|exact HB.out)⟩
   ·replace c5 := Bool.eq_false_iff.mpr c5
    subst c5
    have H1 : (if 20 ≤ 35184372088832 then ((some (List.replicate 20 0 : List Int)).bind fun y901 => (impl_NewMachine.l0 kj1 a0 (y901.length : Int) 0 y901 false)) else (none)) = some (r1,r2,r3,r4) := by rw [if_neg (show ¬ (false = true) by decide)] at H;exact H
    clear H
    have H := H1
    clear H1
    by_cases c7 : 20 ≤ 35184372088832
    ·rw [if_pos c7] at H
     have c7b0 := eq_true c7
     have c7b1 : decide (20 ≤ 35184372088832) = true := decide_eq_true c7
     clear c7
     obtain ⟨y901,hy901⟩ : ∃ y_ : List Int,y_ = (List.replicate 20 0) := ⟨_,rfl⟩
     replace H : (impl_NewMachine.l0 kj1 a0 (y901.length : Int) 0 y901 false) = some (r1,r2,r3,r4) := by first|(rw [hy901];with_reducible exact H)|(have H2_ := (Option.bind_some _ _).symm.trans H;rw [hy901];with_reducible exact H2_)|(have H2_ := (Option.bind_some _ _).symm.trans H;with_reducible exact H2_)|with_reducible exact H|(rw [hy901];exact H)|exact H
     have Ny901 := Aside0.mk hy901
     clear hy901
     have H' := Aside0.mk H
     clear H
     go_wp2_with (first|((with_reducible refine gate_dst (N := 12) rfl ?_);refine Kd.R_make (Kd.int .i64) _ 3 rfl (N := 12) rfl 22 _ _ rfl 20 rfl rfl Try.underlying22 (.int .i64 0) 8 info3 rfl (by decide) (by omega) 0 (ok := fun _ => True) (okp := fun _ => True) rfl (fun _ hk => hk) trivial (by omega) (by omega) (Below.refl _ _) (Nat.le_refl _) ?_;intro v902 w8 ho9 hb hg_ hnew_;clear hg_ hnew_;(first|rw [← Ny901.out] at ho9|(simp only [Int.reduceToNat] at ho9;rw [← Ny901.out] at ho9));have n0_ := Aside0.mk (Kd.R_lower ho9 (below_size (by repeat (first|(with_reducible first|exact HB.out|apply below_alloc|apply pw_below_drewN|apply below_drew1|refine below_set ?_ GE900.out)|exact HB.out))));have n1_ := Aside0.mk (blk_below (g := gb900) (o := .cells #[.slice none 0 0,.slice none 0 0,.slice none 0 0,.bool false] 56 (0,0)) (by (with_reducible repeat (first|refine blk_drewN ?_ _|refine blk_drew ?_|refine blk_alloc ?_ _));exact BK900.out) hb);have n2_ := Aside0.mk (below_step (by repeat (first|(with_reducible first|exact HB.out|apply below_alloc|apply pw_below_drewN|apply below_drew1|refine below_set ?_ GE900.out)|exact HB.out)) hb);clear BK900;clear HB;have HO903 := n0_;have BK900 := n1_;have HB := n2_;clear n0_ n1_ n2_;clear hb ho9;obtain ⟨Ao10,co10,eo10⟩ := Kd.R_slice HO903.out;subst eo10)|((with_reducible refine gate_dst (N := 3) rfl ?_);refine box_event ?hg (N := 3) ?hd (cs := #[.slice none 0 0,.slice none 0 0,.slice none 0 0,.bool false]) (t := 56) ?hr ?_;(case hd => rfl);(case hg => rfl);(case hr => first|(go_simp;done)|(go_simp;rfl));intro gb904 hg w11 hbox hb;have n0_ := Aside0.mk (Kd.R_below (by (with_reducible repeat (first|apply Kd.R_alloc|apply Kd.R_drewN|apply Kd.R_drew));exact HO903.out) hb);have n1_ := Aside0.mk (blk_below (g := gb900) (o := .cells #[.slice none 0 0,.slice none 0 0,.slice none 0 0,.bool false] 56 (0,0)) (by (with_reducible repeat (first|refine blk_drewN ?_ _|refine blk_drew ?_|refine blk_alloc ?_ _));exact BK900.out) hb);have n2_ := Aside0.mk (below_step (by repeat (first|(with_reducible first|exact HB.out|apply below_alloc|apply pw_below_drewN|apply below_drew1|refine below_set ?_ GE900.out)|exact HB.out)) hb);have n3_ := Aside0.mk (hbox);have n4_ := Aside0.mk ((by rw [hg];exact (below_size (by repeat (first|(with_reducible first|exact HB.out|apply below_alloc|apply pw_below_drewN|apply below_drew1|refine below_set ?_ GE900.out)|exact HB.out))) : w.heap.size ≤ gb904));have n5_ := Aside0.mk ((by rw [hg];exact (below_size (by repeat (first|(with_reducible first|exact HB.out|apply below_alloc|apply pw_below_drewN|apply below_drew1|refine below_set ?_ GE900.out)|exact HB.out))) : w.heap.size ≤ gb904));have n6_ := Aside0.mk ((by rw [hg];exact Nat.ne_of_lt (blk_lt (g := gb900) (o := .cells #[.slice none 0 0,.slice none 0 0,.slice none 0 0,.bool false] 56 (0,0)) (by (with_reducible repeat (first|refine blk_drewN ?_ _|refine blk_drew ?_|refine blk_alloc ?_ _));exact BK900.out)) : gb900 ≠ gb904));have n7_ := Aside0.mk ((by rw [hg];exact Nat.ne_of_gt (blk_lt (g := gb900) (o := .cells #[.slice none 0 0,.slice none 0 0,.slice none 0 0,.bool false] 56 (0,0)) (by (with_reducible repeat (first|refine blk_drewN ?_ _|refine blk_drew ?_|refine blk_alloc ?_ _));exact BK900.out)) : gb904 ≠ gb900));clear HO903;clear BK900;clear HB;have HO903 := n0_;have BK900 := n1_;have HB := n2_;have BK904 := n3_;have GW904 := n4_;have GE904 := n5_;have NB900_904 := n6_;have NB904_900 := n7_;clear n0_ n1_ n2_ n3_ n4_ n5_ n6_ n7_;clear hb hbox hg;have hnb12 := NB904_900.out;have hnc12 := NB900_904.out;have hcz13_0 : w11.cell? ⟨gb904,0,none⟩ = some (.slice none 0 0) := (blk_cell BK904.out 0).trans rfl;have hcz13_1 : w11.cell? ⟨gb904,1,none⟩ = some (.slice none 0 0) := (blk_cell BK904.out 1).trans rfl;have hcz13_2 : w11.cell? ⟨gb904,2,none⟩ = some (.slice none 0 0) := (blk_cell BK904.out 2).trans rfl;have hcz13_3 : w11.cell? ⟨gb904,3,none⟩ = some (.bool false) := (blk_cell BK904.out 3).trans rfl;have hfz13_0 := blk_frozen BK904.out 0;have hfz13_1 := blk_frozen BK904.out 1;have hfz13_2 := blk_frozen BK904.out 2;have hfz13_3 := blk_frozen BK904.out 3))
     go_loopg [17] kj1 (fun kq v17 w' => ∃ (x17_2 : Int) (x905002_2 : List Int) (u905002 : Value),v17 = .int .i64 x17_2 ∧ Aside0 (impl_NewMachine.l0 kq a0 (y901.length : Int) x17_2 x905002_2 false = some (r1,r2,r3,r4)) ∧ Aside0 (kq ≤ kj1) ∧ Aside0 (Kd.R (Kd.int .i64) 3 w' w.heap.size (fun _ => True) u905002 x905002_2) ∧ Aside0 (w'.heap[gb900]? = some (.cells #[(.slice none 0 0),(.slice none 0 0),(.slice none 0 0),.bool false] 56 (0,0))) ∧ Aside0 (w'.heap[gb904]? = some (.cells #[(.slice none 0 0),(.slice none 0 0),u905002,.bool false] 56 (0,0))) ∧ Aside0 (Below w.heap.size w w'))
     case atStart => exact ⟨(0),(y901),(.slice Ao10 y901.length co10),(by first|rfl|(simp;done)|(simp [*];done)),H',⟨Nat.le_refl _⟩,⟨by (with_reducible repeat (first|apply Kd.R_alloc|apply Kd.R_drewN|apply Kd.R_drew));exact Kd.R_mono (Kd.R_far (p := ⟨gb904,3,none⟩) (Kd.R_far (p := ⟨gb904,2,none⟩) (Kd.R_far (p := ⟨gb904,1,none⟩) (Kd.R_far (p := ⟨gb904,0,none⟩) (Kd.R_types HO903.out BK904.out (by decide)) (fun _ hk => hk.2) (.slice none 0 0)) (fun _ hk => hk.2) (.slice none 0 0)) (fun _ hk => hk.2) (.slice Ao10 y901.length co10)) (fun _ hk => hk.2) (.bool false)) (fun _ hk => trivial)⟩,⟨by (with_reducible repeat (first|refine blk_drewN ?_ _|refine blk_drew ?_|refine blk_alloc ?_ _));refine blk_far ?_ NB900_904.out _;(with_reducible repeat (first|refine blk_drewN ?_ _|refine blk_drew ?_|refine blk_alloc ?_ _));refine blk_far ?_ NB900_904.out _;(with_reducible repeat (first|refine blk_drewN ?_ _|refine blk_drew ?_|refine blk_alloc ?_ _));refine blk_far ?_ NB900_904.out _;(with_reducible repeat (first|refine blk_drewN ?_ _|refine blk_drew ?_|refine blk_alloc ?_ _));refine blk_far ?_ NB900_904.out _;(with_reducible repeat (first|refine blk_drewN ?_ _|refine blk_drew ?_|refine blk_alloc ?_ _));exact BK900.out⟩,⟨by (with_reducible repeat (first|refine blk_drewN ?_ _|refine blk_drew ?_|refine blk_alloc ?_ _));refine blk_put (cs := #[.slice none 0 0,.slice none 0 0,.slice Ao10 y901.length co10,.bool false]) ?_ 3 _ rfl;(with_reducible repeat (first|refine blk_drewN ?_ _|refine blk_drew ?_|refine blk_alloc ?_ _));refine blk_put (cs := #[.slice none 0 0,.slice none 0 0,.slice none 0 0,.bool false]) ?_ 2 _ rfl;(with_reducible repeat (first|refine blk_drewN ?_ _|refine blk_drew ?_|refine blk_alloc ?_ _));refine blk_put (cs := #[.slice none 0 0,.slice none 0 0,.slice none 0 0,.bool false]) ?_ 1 _ rfl;(with_reducible repeat (first|refine blk_drewN ?_ _|refine blk_drew ?_|refine blk_alloc ?_ _));refine blk_put (cs := #[.slice none 0 0,.slice none 0 0,.slice none 0 0,.bool false]) ?_ 0 _ rfl;(with_reducible repeat (first|refine blk_drewN ?_ _|refine blk_drew ?_|refine blk_alloc ?_ _));exact BK904.out⟩,⟨by repeat (first|(with_reducible first|exact HB.out|apply below_alloc|apply pw_below_drewN|apply below_drew1|refine below_set ?_ GE900.out|refine below_set ?_ GE904.out)|exact HB.out)⟩⟩
     case round =>
      clear H'
      try clear c1
      try clear p2
      try clear c3
      try clear c4
      try clear c4b0
      try clear c5
      try clear c7
      try clear c7b0
      try clear c7b1
      try clear c12
      try clear hcz13_0
      try clear hcz13_1
      try clear hcz13_2
      try clear hcz13_3
      try clear hcz6_0
      try clear hcz6_1
      try clear hcz6_2
      try clear hcz6_3
      try clear hfz13_0
      try clear hfz13_1
      try clear hfz13_2
      try clear hfz13_3
      try clear hfz6_0
      try clear hfz6_1
      try clear hfz6_2
      try clear hfz6_3
      try clear p2
      obtain ⟨x17_2,x905002_2,u905002,rfl,HA,HK2,HO_905002,BK900,BK904,HB⟩ := hrel
      cases gk with
      | zero => exact absurd HA.out (fun h_ => (by cases h_))
      | succ k2 =>
       have H := HA.out
       clear HA
       simp only [impl_NewMachine.l0] at H
       by_cases c14 : x17_2 < (y901.length : Int)
       ·rw [if_pos c14] at H
        have c14b0 : decide (x17_2 < (y901.length : Int)) = true := decide_eq_true c14
        clear c14
        by_cases c15 : x17_2 ≥ a0
        ·rw [if_pos c15] at H
         have c15b0 : decide (a0 ≤ x17_2) = true := decide_eq_true c15
         clear c15
         by_cases c16 : 0 ≤ x17_2
         ·rw [if_pos c16] at H
          have c16b0 : decide (0 ≤ x17_2) = true := decide_eq_true c16
          clear c16
          by_cases c17 : x17_2 < (x905002_2.length : Int)
          ·rw [if_pos c17] at H
           have c17b0 : decide (x17_2 < (x905002_2.length : Int)) = true := decide_eq_true c17
           clear c17
           obtain ⟨y905,hy905⟩ : ∃ y_ : List Int,y_ = (x905002_2.set (x17_2 : Int).toNat (-1)) := ⟨_,rfl⟩
           replace H : (impl_NewMachine.l0 k2 a0 (y901.length : Int) (wrap64 (x17_2 + 1)) y905 false) = some (r1,r2,r3,r4) := by first|(rw [hy905];with_reducible exact H)|(have H2_ := (Option.bind_some _ _).symm.trans H;rw [hy905];with_reducible exact H2_)|(have H2_ := (Option.bind_some _ _).symm.trans H;with_reducible exact H2_)|with_reducible exact H|(rw [hy905];exact H)|exact H
           have Ny905 := Aside0.mk hy905
           clear hy905
           have H' := Aside0.mk H
           clear H
           have hnb19 := NB904_900.out
           have hnc19 := NB900_904.out
           have hcz20_0 : wr.cell? ⟨gb904,0,none⟩ = some (.slice none 0 0) := (blk_cell BK904.out 0).trans rfl
           have hcz20_1 : wr.cell? ⟨gb904,1,none⟩ = some (.slice none 0 0) := (blk_cell BK904.out 1).trans rfl
           have hcz20_2 : wr.cell? ⟨gb904,2,none⟩ = some (u905002) := (blk_cell BK904.out 2).trans rfl
           have hcz20_3 : wr.cell? ⟨gb904,3,none⟩ = some (.bool false) := (blk_cell BK904.out 3).trans rfl
           have hfz20_0 := blk_frozen BK904.out 0
           have hfz20_1 := blk_frozen BK904.out 1
           have hfz20_2 := blk_frozen BK904.out 2
           have hfz20_3 := blk_frozen BK904.out 3
           have p18 : 0 ≤ (x17_2 : Int) := of_decide_eq_true (by first|(with_reducible assumption)|assumption)
           have q18 : (x17_2 : Int) < ((x905002_2.length : Int) : Int) := of_decide_eq_true (by first|(with_reducible assumption)|assumption)
           obtain ⟨go18,co18,eo18,gb18,gl18,cl18,HG18⟩ := Kd.R_form HO_905002.out (by omega)
           (first|cases eo18|(injection eo18 with ea_ en_ ec_;(first|subst ea_|(injection ea_ with ea_;subst ea_));subst ec_;clear en_))
           have GB18 := Aside0.mk gb18
           have GG18 := Aside0.mk HG18
           clear gb18 gl18 HG18
           obtain ⟨hx18_0,hf18_0⟩ := Kd.R_celln 0 HO_905002.out (x17_2 : Int) p18 q18
           replace p18 := eq_true p18
           replace q18 := eq_true q18
           have HP21 := Kd.R_putg HO_905002.out (x17_2 : Int) (-1)
           go_wp2_with (first|((with_reducible refine gate_store (t := 3) (p := 26) rfl ?_);refine store_event (t := 3) (p := 26) (v := ?vo_w22) (w1 := (wr.setCell ⟨go18,(x17_2 : Int).toNat,none⟩ (.int .i64 (-1)))) ?hg ?ho ?hn ?hr ?_;(case ho => rfl);(case hg => rfl);(case hn => rfl);(case hr => first|(go_simp;done)|(go_simp;rfl));intro w22 hw;have hg : wr.grownBy w22 (some go18) := (by rw [hw];exact HP21.2);have hp_ : Kd.R (Kd.int .i64) 3 w22 w.heap.size (fun _ => True) (.slice (some ⟨go18,0,none⟩) x905002_2.length co18) y905 := (by rw [hw,Ny905.out];exact HP21.1);clear HP21;have n0_ := Aside0.mk (hp_);have n1_ := Aside0.mk (blk_grown (g := gb900) (o := .cells #[.slice none 0 0,.slice none 0 0,.slice none 0 0,.bool false] 56 (0,0)) (by (with_reducible repeat (first|refine blk_drewN ?_ _|refine blk_drew ?_|refine blk_alloc ?_ _));exact BK900.out) hg (Kd.R_ne HO_905002.out BK900.out (by decide)));have n2_ := Aside0.mk (blk_grown (g := gb904) (o := .cells #[.slice none 0 0,.slice none 0 0,.slice (some ⟨go18,0,none⟩) x905002_2.length co18,.bool false] 56 (0,0)) (by (with_reducible repeat (first|refine blk_drewN ?_ _|refine blk_drew ?_|refine blk_alloc ?_ _));exact BK904.out) hg (Kd.R_ne HO_905002.out BK904.out (by decide)));have n3_ := Aside0.mk ((by rw [hw];exact below_set (HB.out) GB18.out : Below w.heap.size w w22));clear HO_905002;clear BK900;clear BK904;clear HB;have HO_905002 := n0_;have BK900 := n1_;have BK904 := n2_;have HB := n3_;clear n0_ n1_ n2_ n3_;clear hg hw hp_))
           go_roundg k2
           case measure => have := HJ1.out;have := HK2.out;omega
           case rel => exact ⟨(wrap64 (x17_2 + 1)),(y905),(.slice (some ⟨go18,0,none⟩) x905002_2.length co18),(by first|rfl|(simp;done)|(simp [*];done)),H',⟨by have := HJ1.out;have := HK2.out;omega⟩,⟨by (with_reducible repeat (first|apply Kd.R_alloc|apply Kd.R_drewN|apply Kd.R_drew));exact HO_905002.out⟩,⟨by (with_reducible repeat (first|refine blk_drewN ?_ _|refine blk_drew ?_|refine blk_alloc ?_ _));exact BK900.out⟩,⟨by (with_reducible repeat (first|refine blk_drewN ?_ _|refine blk_drew ?_|refine blk_alloc ?_ _));exact BK904.out⟩,⟨by repeat (first|(with_reducible first|exact HB.out|apply below_alloc|apply pw_below_drewN|apply below_drew1|refine below_set ?_ GE900.out|refine below_set ?_ GE904.out)|exact HB.out)⟩⟩
          ·rw [if_neg c17] at H
           exact absurd H (by simp)
         ·rw [if_neg c16] at H
          exact absurd H (by simp)
        ·rw [if_neg c15] at H
         have c15b0 : decide (a0 ≤ x17_2) = false := decide_eq_false c15
         clear c15
         have H' := Aside0.mk H
         clear H
         go_wp2
         go_roundg k2
         case measure => have := HJ1.out;have := HK2.out;omega
         case rel => exact ⟨(wrap64 (x17_2 + 1)),(x905002_2),(u905002),(by first|rfl|(simp;done)|(simp [*];done)),H',⟨by have := HJ1.out;have := HK2.out;omega⟩,⟨by (with_reducible repeat (first|apply Kd.R_alloc|apply Kd.R_drewN|apply Kd.R_drew));exact HO_905002.out⟩,⟨by (with_reducible repeat (first|refine blk_drewN ?_ _|refine blk_drew ?_|refine blk_alloc ?_ _));exact BK900.out⟩,⟨by (with_reducible repeat (first|refine blk_drewN ?_ _|refine blk_drew ?_|refine blk_alloc ?_ _));exact BK904.out⟩,⟨by repeat (first|(with_reducible first|exact HB.out|apply below_alloc|apply pw_below_drewN|apply below_drew1|refine below_set ?_ GE900.out|refine below_set ?_ GE904.out)|exact HB.out)⟩⟩
       ·rw [if_neg c14] at H
        have c14b0 : decide (x17_2 < (y901.length : Int)) = false := decide_eq_false c14
        clear c14
        by_cases c23 : a0 = 1
        ·rw [if_pos c23] at H
         have c23b0 : (a0 == 1) = true := beq_iff_eq.mpr c23
         have c23b1 : (a0 != 1) = false := bne_eq_false_iff_eq.mpr c23
         clear c23
         obtain ⟨y906,hy906⟩ : ∃ y_ : List (S88),y_ = (([(⟨0,0,([] : List Int)⟩ : S88)] : List (S88))) := ⟨_,rfl⟩
         replace H : (some (y906,([] : List Int),x905002_2,false)) = some (r1,r2,r3,r4) := by first|(rw [hy906];with_reducible exact H)|(have H2_ := (Option.bind_some _ _).symm.trans H;rw [hy906];with_reducible exact H2_)|(have H2_ := (Option.bind_some _ _).symm.trans H;with_reducible exact H2_)|with_reducible exact H|(rw [hy906];exact H)|exact H
         have Ny906 := Aside0.mk hy906
         clear hy906
         simp only [Option.some.injEq,Prod.mk.injEq] at H
         obtain ⟨rfl,rfl,rfl,rfl⟩ := H
         go_wp2_with (first|((with_reducible refine gate_dst (N := 31) rfl ?_);refine Kd.S_lit k88 _ 88 ?hg (N := 31) ?hd (xs := ([(⟨0,0,([] : List Int)⟩ : S88)] : List (S88))) (inner := [.int .i64 0,.int .i64 0,.slice none 0 0]) (ok := fun _ => True) (okp := fun _ => True) ?hr ?hp (fun _ hk => hk) trivial (Below.refl _ _) (Nat.le_refl _) (by simp) ?_;(case hd => rfl);(case hg => rfl);(case hr => first|(go_simp;done)|(go_simp;rfl));(case hp => exact (Reps.c3 (show Kd.M k88 _ _ _ (⟨0,0,([] : List Int)⟩ : S88) [.int .i64 0,.int .i64 0,.slice none 0 0] from (k88_mkM _ _ _ (⟨0,0,([] : List Int)⟩ : S88) (Kd.R_nil _ _ _ _ _))) (Reps.none _ _)));intro v907 w24 ho25 hb hg_ hnew_;clear hg_ hnew_;(first|rw [← Ny906.out] at ho25|(simp only [Int.reduceToNat] at ho25;rw [← Ny906.out] at ho25));have n0_ := Aside0.mk (Kd.R_below (by (with_reducible repeat (first|apply Kd.R_alloc|apply Kd.R_drewN|apply Kd.R_drew));exact HO_905002.out) hb);have n1_ := Aside0.mk (Kd.S_lower (Kd.S_new' ho25 (Kd.R_lt (by (with_reducible repeat (first|apply Kd.R_alloc|apply Kd.R_drewN|apply Kd.R_drew));exact HO_905002.out))) (below_size (by repeat (first|(with_reducible first|exact HB.out|apply below_alloc|apply pw_below_drewN|apply below_drew1|refine below_set ?_ GE900.out|refine below_set ?_ GE904.out)|exact HB.out))));have n2_ := Aside0.mk (blk_below (g := gb900) (o := .cells #[.slice none 0 0,.slice none 0 0,.slice none 0 0,.bool false] 56 (0,0)) (by (with_reducible repeat (first|refine blk_drewN ?_ _|refine blk_drew ?_|refine blk_alloc ?_ _));exact BK900.out) hb);have n3_ := Aside0.mk (blk_below (g := gb904) (o := .cells #[.slice none 0 0,.slice none 0 0,u905002,.bool false] 56 (0,0)) (by (with_reducible repeat (first|refine blk_drewN ?_ _|refine blk_drew ?_|refine blk_alloc ?_ _));exact BK904.out) hb);have n4_ := Aside0.mk (below_step (by repeat (first|(with_reducible first|exact HB.out|apply below_alloc|apply pw_below_drewN|apply below_drew1|refine below_set ?_ GE900.out|refine below_set ?_ GE904.out)|exact HB.out)) hb);clear HO_905002;clear BK900;clear BK904;clear HB;have HO_905002 := n0_;have HO908 := n1_;have BK900 := n2_;have BK904 := n3_;have HB := n4_;clear n0_ n1_ n2_ n3_ n4_;clear hb ho25;obtain ⟨Ao26,co26,eo26⟩ := Kd.S_slice HO908.out;subst eo26;have hnb27 := NB904_900.out;have hnc27 := NB900_904.out;have hcz28_0 : w24.cell? ⟨gb904,0,none⟩ = some (.slice none 0 0) := (blk_cell BK904.out 0).trans rfl;have hcz28_1 : w24.cell? ⟨gb904,1,none⟩ = some (.slice none 0 0) := (blk_cell BK904.out 1).trans rfl;have hcz28_2 : w24.cell? ⟨gb904,2,none⟩ = some (u905002) := (blk_cell BK904.out 2).trans rfl;have hcz28_3 : w24.cell? ⟨gb904,3,none⟩ = some (.bool false) := (blk_cell BK904.out 3).trans rfl;have hfz28_0 := blk_frozen BK904.out 0;have hfz28_1 := blk_frozen BK904.out 1;have hfz28_2 := blk_frozen BK904.out 2;have hfz28_3 := blk_frozen BK904.out 3;have hcz29_0 : w24.cell? ⟨gb900,0,none⟩ = some (.slice none 0 0) := (blk_cell BK900.out 0).trans rfl;have hcz29_1 : w24.cell? ⟨gb900,1,none⟩ = some (.slice none 0 0) := (blk_cell BK900.out 1).trans rfl;have hcz29_2 : w24.cell? ⟨gb900,2,none⟩ = some (.slice none 0 0) := (blk_cell BK900.out 2).trans rfl;have hcz29_3 : w24.cell? ⟨gb900,3,none⟩ = some (.bool false) := (blk_cell BK900.out 3).trans rfl;have hfz29_0 := blk_frozen BK900.out 0;have hfz29_1 := blk_frozen BK900.out 1;have hfz29_2 := blk_frozen BK900.out 2;have hfz29_3 := blk_frozen BK900.out 3;obtain ⟨Ao30,co30,eo30⟩ := Kd.R_slice HO_905002.out;subst eo30))
         refine bodyPost_ret (results_cell_row rfl _ _ gb900 56 #[.slice Ao26 y906.length co26,.slice none 0 0,.slice Ao30 x905002_2.length co30,.bool false] (0,0) _ rfl (by (with_reducible repeat (first|refine blk_drewN ?_ _|refine blk_drew ?_|refine blk_alloc ?_ _));refine blk_put (cs := #[.slice Ao26 y906.length co26,.slice none 0 0,.slice Ao30 x905002_2.length co30,.bool false]) ?_ 3 _ rfl;(with_reducible repeat (first|refine blk_drewN ?_ _|refine blk_drew ?_|refine blk_alloc ?_ _));refine blk_put (cs := #[.slice Ao26 y906.length co26,.slice none 0 0,.slice none 0 0,.bool false]) ?_ 2 _ rfl;(with_reducible repeat (first|refine blk_drewN ?_ _|refine blk_drew ?_|refine blk_alloc ?_ _));refine blk_put (cs := #[.slice Ao26 y906.length co26,.slice none 0 0,.slice none 0 0,.bool false]) ?_ 1 _ rfl;(with_reducible repeat (first|refine blk_drewN ?_ _|refine blk_drew ?_|refine blk_alloc ?_ _));refine blk_put (cs := #[.slice none 0 0,.slice none 0 0,.slice none 0 0,.bool false]) ?_ 0 _ rfl;(with_reducible repeat (first|refine blk_drewN ?_ _|refine blk_drew ?_|refine blk_alloc ?_ _));refine blk_far ?_ NB900_904.out _;(with_reducible repeat (first|refine blk_drewN ?_ _|refine blk_drew ?_|refine blk_alloc ?_ _));exact BK900.out) Try.underlying56 rfl (by kernel_rfl)) rfl ?_
         exact ⟨_,_,_,by first|rfl|(simp [errW_none,errW_some] <;> rfl)|(simp [*,errW_none,errW_some] <;> rfl),by (with_reducible repeat (first|apply Kd.S_alloc|apply Kd.S_drewN|apply Kd.S_drew));exact Kd.S_mono (Kd.S_far (p := ⟨gb900,3,none⟩) (Kd.S_far (p := ⟨gb900,2,none⟩) (Kd.S_far (p := ⟨gb900,1,none⟩) (Kd.S_far (p := ⟨gb900,0,none⟩) (Kd.S_far (p := ⟨gb904,0,none⟩) (Kd.S_types (Kd.S_types HO908.out BK904.out (by decide)) BK900.out (by decide)) (fun _ hk => hk.1.2) (.slice Ao26 y906.length co26)) (fun _ hk => hk.2) (.slice Ao26 y906.length co26)) (fun _ hk => hk.2) (.slice none 0 0)) (fun _ hk => hk.2) (.slice Ao30 x905002_2.length co30)) (fun _ hk => hk.2) (.bool false)) (fun _ hk => ⟨(by simp [Value.ownBlock]),hk.1.1.2⟩),by first|exact Kd.R_nil _ _ _ _ _|exact Kd.N_nil _ _ _ _ _|exact Kd.V_nil _ _ _ _ _|exact Kd.Q_nil _ _ _ _ _|exact Kd.S_nil _ _ _ _ _,by (with_reducible repeat (first|apply Kd.R_alloc|apply Kd.R_drewN|apply Kd.R_drew));exact Kd.R_mono (Kd.R_far (p := ⟨gb900,3,none⟩) (Kd.R_far (p := ⟨gb900,2,none⟩) (Kd.R_far (p := ⟨gb900,1,none⟩) (Kd.R_far (p := ⟨gb900,0,none⟩) (Kd.R_far (p := ⟨gb904,0,none⟩) (Kd.R_types (Kd.R_types HO_905002.out BK904.out (by decide)) BK900.out (by decide)) (fun _ hk => hk.1.2) (.slice Ao26 y906.length co26)) (fun _ hk => hk.2) (.slice Ao26 y906.length co26)) (fun _ hk => hk.2) (.slice none 0 0)) (fun _ hk => hk.2) (.slice Ao30 x905002_2.length co30)) (fun _ hk => hk.2) (.bool false)) (fun _ hk => (by simp [Value.ownBlock])),by repeat (first|(with_reducible first|exact HB.out|apply below_alloc|apply pw_below_drewN|apply below_drew1|refine below_set ?_ GE900.out|refine below_set ?_ GE904.out)|exact HB.out)⟩
        ·rw [if_neg c23] at H
         have c23b0 : (a0 == 1) = false := beq_eq_false_iff_ne.mpr c23
         have c23b1 : (a0 != 1) = true := bne_iff_ne.mpr c23
         simp only [Option.some.injEq,Prod.mk.injEq] at H
         obtain ⟨rfl,rfl,rfl,rfl⟩ := H
         have hnb31 := NB904_900.out
         have hnc31 := NB900_904.out
         have hcz32_0 : wr.cell? ⟨gb904,0,none⟩ = some (.slice none 0 0) := (blk_cell BK904.out 0).trans rfl
         have hcz32_1 : wr.cell? ⟨gb904,1,none⟩ = some (.slice none 0 0) := (blk_cell BK904.out 1).trans rfl
         have hcz32_2 : wr.cell? ⟨gb904,2,none⟩ = some (u905002) := (blk_cell BK904.out 2).trans rfl
         have hcz32_3 : wr.cell? ⟨gb904,3,none⟩ = some (.bool false) := (blk_cell BK904.out 3).trans rfl
         have hfz32_0 := blk_frozen BK904.out 0
         have hfz32_1 := blk_frozen BK904.out 1
         have hfz32_2 := blk_frozen BK904.out 2
         have hfz32_3 := blk_frozen BK904.out 3
         have hcz33_0 : wr.cell? ⟨gb900,0,none⟩ = some (.slice none 0 0) := (blk_cell BK900.out 0).trans rfl
         have hcz33_1 : wr.cell? ⟨gb900,1,none⟩ = some (.slice none 0 0) := (blk_cell BK900.out 1).trans rfl
         have hcz33_2 : wr.cell? ⟨gb900,2,none⟩ = some (.slice none 0 0) := (blk_cell BK900.out 2).trans rfl
         have hcz33_3 : wr.cell? ⟨gb900,3,none⟩ = some (.bool false) := (blk_cell BK900.out 3).trans rfl
         have hfz33_0 := blk_frozen BK900.out 0
         have hfz33_1 := blk_frozen BK900.out 1
         have hfz33_2 := blk_frozen BK900.out 2
         have hfz33_3 := blk_frozen BK900.out 3
         obtain ⟨Ao34,co34,eo34⟩ := Kd.R_slice HO_905002.out
         subst eo34
         go_wp2
         refine bodyPost_ret (results_cell_row rfl _ _ gb900 56 #[.slice none 0 0,.slice none 0 0,.slice Ao34 x905002_2.length co34,.bool false] (0,0) _ rfl (by (with_reducible repeat (first|refine blk_drewN ?_ _|refine blk_drew ?_|refine blk_alloc ?_ _));refine blk_put (cs := #[.slice none 0 0,.slice none 0 0,.slice Ao34 x905002_2.length co34,.bool false]) ?_ 3 _ rfl;(with_reducible repeat (first|refine blk_drewN ?_ _|refine blk_drew ?_|refine blk_alloc ?_ _));refine blk_put (cs := #[.slice none 0 0,.slice none 0 0,.slice none 0 0,.bool false]) ?_ 2 _ rfl;(with_reducible repeat (first|refine blk_drewN ?_ _|refine blk_drew ?_|refine blk_alloc ?_ _));refine blk_put (cs := #[.slice none 0 0,.slice none 0 0,.slice none 0 0,.bool false]) ?_ 1 _ rfl;(with_reducible repeat (first|refine blk_drewN ?_ _|refine blk_drew ?_|refine blk_alloc ?_ _));refine blk_put (cs := #[.slice none 0 0,.slice none 0 0,.slice none 0 0,.bool false]) ?_ 0 _ rfl;(with_reducible repeat (first|refine blk_drewN ?_ _|refine blk_drew ?_|refine blk_alloc ?_ _));exact BK900.out) Try.underlying56 rfl (by kernel_rfl)) rfl ?_
         exact ⟨_,_,_,by first|rfl|(simp [errW_none,errW_some] <;> rfl)|(simp [*,errW_none,errW_some] <;> rfl),by first|exact Kd.S_nil _ _ _ _ _|exact Kd.N_nil _ _ _ _ _|exact Kd.V_nil _ _ _ _ _|exact Kd.Q_nil _ _ _ _ _|exact Kd.R_nil _ _ _ _ _,by first|exact Kd.R_nil _ _ _ _ _|exact Kd.N_nil _ _ _ _ _|exact Kd.V_nil _ _ _ _ _|exact Kd.Q_nil _ _ _ _ _|exact Kd.S_nil _ _ _ _ _,by (with_reducible repeat (first|apply Kd.R_alloc|apply Kd.R_drewN|apply Kd.R_drew));exact Kd.R_mono (Kd.R_far (p := ⟨gb900,3,none⟩) (Kd.R_far (p := ⟨gb900,2,none⟩) (Kd.R_far (p := ⟨gb900,1,none⟩) (Kd.R_far (p := ⟨gb900,0,none⟩) (Kd.R_types HO_905002.out BK900.out (by decide)) (fun _ hk => hk.2) (.slice none 0 0)) (fun _ hk => hk.2) (.slice none 0 0)) (fun _ hk => hk.2) (.slice Ao34 x905002_2.length co34)) (fun _ hk => hk.2) (.bool false)) (fun _ hk => (by simp [Value.ownBlock])),by repeat (first|(with_reducible first|exact HB.out|apply below_alloc|apply pw_below_drewN|apply below_drew1|refine below_set ?_ GE900.out|refine below_set ?_ GE904.out)|exact HB.out)⟩
    ·rw [if_neg c7] at H
     exact absurd H (by simp)

end Go.Proofs.Ytbokjhdhpmmpfaa.Q
