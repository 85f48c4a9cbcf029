-- Written by wip/tools/qprint.py (a program of this claim's author) by means of the kit's printer.
import Derived.Test.YtbokjhdhpmmpfaaQ0
import Derived.Test.YtbokjhdhpmmpfaaQ56
import Derived.Test.YtbokjhdhpmmpfaaQ67
import Derived.Test.YtbokjhdhpmmpfaaQ98
namespace Go.Proofs.Ytbokjhdhpmmpfaa.Q
open Go.RowKit Go.Proofs.YtbokjhdhpmmpfaaW.PrintWords Go.Proofs.YtbokjhdhpmmpfaaW.PrintLast Go.Proofs.YtbokjhdhpmmpfaaW.PrintMore
attribute [local go_sem] max2_int min2_int max_two min_two max_three min_three max_four min_four   -- for this text's walks alone
set_option linter.unusedVariables false
set_option linter.unusedSimpArgs false

/-! ### spec_BombGraph: function 25 -/
def spec_BombGraph.l0 : Nat → Int → Int → List (S88) → Int → Option ((List (S88)) × Int)
 | 0,_,_,_,_ => none
 | k + 1,x0,x4,x470000,x470001 => if x4 < x0 then (if x470000.length < 3518437208883 then (spec_BombGraph.l0 k x0 (wrap64 (x4 + 1)) (x470000 ++ [(⟨2,0,(([x4,x4] : List Int))⟩ : S88)]) x470001) else (none)) else (some (x470000,x470001))
def spec_BombGraph.f (k : Nat) (a0 : Int) : Option ((List (S88)) × Int) := (spec_inRange.f a0 0 11).bind fun t465 => (if t465 = true then (spec_BombGraph.l0 k a0 0 (([(⟨0,1,([] : List Int)⟩ : S88)] : List (S88))) a0) else (some (([] : List (S88)),0)))
set_option maxRecDepth 100000 in
theorem spec_BombGraph.mono_l : ∀ k,(∀ y0 y1 y2 y3,LeO (spec_BombGraph.l0 k y0 y1 y2 y3) (spec_BombGraph.l0 (k + 1) y0 y1 y2 y3))
 | 0 => fun _ _ _ _ r h => (by cases h)
 | k + 1 => by
  have ih0 := spec_BombGraph.mono_l k
  ·intro y0 y1 y2 y3
   unfold spec_BombGraph.l0
   repeat' first
   | (with_reducible exact ih0 _ _ _ _)
   | (with_reducible exact LeO.refl _)
   | (with_reducible exact LeO.none _)
   | (with_reducible refine LeO.ite ?_ ?_)
   | (with_reducible refine LeO.bind ?_ (fun _ => ?_))
   | exact ih0 _ _ _ _
   | exact LeO.none _
   | refine LeO.ite ?_ ?_
   | refine LeO.bind ?_ (fun _ => ?_)
set_option maxRecDepth 100000 in
theorem spec_BombGraph.mono : ∀ a0 k,LeO (spec_BombGraph.f k a0) (spec_BombGraph.f (k + 1) a0) := by
 intro a0 k
 have ih0 := spec_BombGraph.mono_l k
 unfold spec_BombGraph.f
 repeat' first
   | (with_reducible exact ih0 _ _ _ _)
   | (with_reducible exact LeO.refl _)
   | (with_reducible exact LeO.none _)
   | (with_reducible refine LeO.ite ?_ ?_)
   | (with_reducible refine LeO.bind ?_ (fun _ => ?_))
   | exact ih0 _ _ _ _
   | exact LeO.none _
   | refine LeO.ite ?_ ?_
   | refine LeO.bind ?_ (fun _ => ?_)
set_option maxHeartbeats 8000000 in
set_option maxRecDepth 100000 in
theorem spec_BombGraph.calls (k : Nat) (a0 : Int) (r1 : List (S88)) (r2 : Int) (w : World) (h : spec_BombGraph.f k a0 = some (r1,r2)) :
  Calls Try.prog 25 #[.int .i64 a0] w fun e w' => ∃ v0_ : Value,e = .returned (.agg #[v0_,.int .i64 r2]) ∧ Kd.S k88 88 w' w.heap.size (fun _ => True) v0_ r1 ∧ Below w.heap.size w w' := by
 have hu38 := Try.underlying38
 have hu88 := Try.underlying88
 have HB := Aside0.mk (Below.refl w.heap.size w)
 have H : ((spec_inRange.f a0 0 11).bind fun t465 => (if t465 = true then (spec_BombGraph.l0 k a0 0 (([(⟨0,1,([] : List Int)⟩ : S88)] : List (S88))) a0) else (some (([] : List (S88)),0)))) = some (r1,r2) := h
 clear h
 replace H := Option.bind_eq_some_iff.mp H
 obtain ⟨t465,A20,H⟩ := H
 replace H : (if t465 = true then (spec_BombGraph.l0 k a0 0 (([(⟨0,1,([] : List Int)⟩ : S88)] : List (S88))) a0) else (some (([] : List (S88)),0))) = some (r1,r2) := H
 have A2 := Aside0.mk A20
 clear A20
 by_cases c3 : t465 = true
 ·subst c3
  have H1 : (spec_BombGraph.l0 k a0 0 (([(⟨0,1,([] : List Int)⟩ : S88)] : List (S88))) a0) = some (r1,r2) := by rw [if_pos rfl] at H;exact H
  clear H
  have H := H1
  clear H1
  obtain ⟨y466,hy466⟩ : ∃ y_ : List (S88),y_ = (([(⟨0,1,([] : List Int)⟩ : S88)] : List (S88))) := ⟨_,rfl⟩
  replace H : (spec_BombGraph.l0 k a0 0 y466 a0) = some (r1,r2) := by first|(rw [hy466];with_reducible exact H)|(have H2_ := (Option.bind_some _ _).symm.trans H;rw [hy466];with_reducible exact H2_)|(have H2_ := (Option.bind_some _ _).symm.trans H;with_reducible exact H2_)|with_reducible exact H|(rw [hy466];exact H)|exact H
  have Ny466 := Aside0.mk hy466
  clear hy466
  have H' := Aside0.mk H
  clear H
  go_enter Try.func25,Try.ntmps25
  go_wp2_with (first|((with_reducible refine gate_dst (N := 2) rfl ?_);refine box_event ?hg (N := 2) ?hd (cs := #[.slice none 0 0,.int .i64 0]) (t := 38) ?hr ?_;(case hd => rfl);(case hg => rfl);(case hr => first|(go_simp;done)|(go_simp;rfl));intro gb464 hg w4 hbox hb;have n0_ := Aside0.mk (below_step (by repeat (first|(with_reducible first|exact HB.out|apply below_alloc|apply pw_below_drewN|apply below_drew1)|exact HB.out)) hb);have n1_ := Aside0.mk (hbox);have n2_ := Aside0.mk ((by rw [hg];exact (below_size (by repeat (first|(with_reducible first|exact HB.out|apply below_alloc|apply pw_below_drewN|apply below_drew1)|exact HB.out))) : w.heap.size ≤ gb464));have n3_ := Aside0.mk ((by rw [hg];exact (below_size (by repeat (first|(with_reducible first|exact HB.out|apply below_alloc|apply pw_below_drewN|apply below_drew1)|exact HB.out))) : w.heap.size ≤ gb464));clear HB;have HB := n0_;have BK464 := n1_;have GW464 := n2_;have GE464 := n3_;clear n0_ n1_ n2_ n3_;clear hb hbox hg)|((with_reducible refine gate_callee (f := 56) rfl ?_);refine goesL_ (some 6) rfl rfl Try.func56 (by kernel_rfl) rfl #[.int .i64 a0,.int .i64 0,.int .i64 11] rfl (by (try simp only [List.map_toArray,List.map_cons,List.map_nil]);first|done|rfl|(simp only [List.length_drop,List.length_take];rfl)) ?_;(with_reducible refine (spec_inRange.calls a0 0 11 true _ A2.out).mono ?_);rintro e w' ⟨rfl,⟨nd,rfl⟩⟩;refine ⟨_,rfl,?_⟩;(try (rw [drewN_self w4];generalize hq_ : World.drewN w4 _ = w4;have n0_ : Aside0 (w4.heap[gb464]? = some (.cells #[.slice none 0 0,.int .i64 0] 38 (0,0))) := ⟨by rw [← hq_];exact (by (with_reducible repeat (first|refine blk_drewN ?_ _|refine blk_drew ?_|refine blk_alloc ?_ _));exact BK464.out)⟩;have n1_ : Aside0 (Below w.heap.size w w4) := ⟨by rw [← hq_];exact (by repeat (first|(with_reducible first|exact HB.out|apply below_alloc|apply pw_below_drewN|apply below_drew1|refine below_set ?_ GE464.out)|exact HB.out))⟩;clear BK464 HB hq_;have BK464 := n0_;have HB := n1_;clear n0_ n1_)))|((with_reducible refine gate_dst (N := 10) rfl ?_);refine Kd.S_lit k88 _ 88 ?hg (N := 10) ?hd (xs := ([(⟨0,1,([] : List Int)⟩ : S88)] : List (S88))) (inner := [.int .i64 0,.int .i64 1,.slice none 0 0]) (ok := fun _ => True) (okp := fun _ => True) ?hr ?hp (fun _ hk => hk) trivial (Below.refl _ _) (Nat.le_refl _) (by simp) ?_;(case hd => rfl);(case hg => rfl);(case hr => first|(go_simp;done)|(go_simp;rfl));(case hp => exact (Reps.c3 (show Kd.M k88 _ _ _ (⟨0,1,([] : List Int)⟩ : S88) [.int .i64 0,.int .i64 1,.slice none 0 0] from (k88_mkM _ _ _ (⟨0,1,([] : List Int)⟩ : S88) (Kd.R_nil _ _ _ _ _))) (Reps.none _ _)));intro v467 w5 ho6 hb hg_ hnew_;clear hg_ hnew_;(first|rw [← Ny466.out] at ho6|(simp only [Int.reduceToNat] at ho6;rw [← Ny466.out] at ho6));have n0_ := Aside0.mk (Kd.S_lower ho6 (below_size (by repeat (first|(with_reducible first|exact HB.out|apply below_alloc|apply pw_below_drewN|apply below_drew1|refine below_set ?_ GE464.out)|exact HB.out))));have n1_ := Aside0.mk (blk_below (g := gb464) (o := .cells #[.slice none 0 0,.int .i64 0] 38 (0,0)) (by (with_reducible repeat (first|refine blk_drewN ?_ _|refine blk_drew ?_|refine blk_alloc ?_ _));exact BK464.out) hb);have n2_ := Aside0.mk (below_step (by repeat (first|(with_reducible first|exact HB.out|apply below_alloc|apply pw_below_drewN|apply below_drew1|refine below_set ?_ GE464.out)|exact HB.out)) hb);clear BK464;clear HB;have HO468 := n0_;have BK464 := n1_;have HB := n2_;clear n0_ n1_ n2_;clear hb ho6;obtain ⟨Ao7,co7,eo7⟩ := Kd.S_slice HO468.out;subst eo7)|((with_reducible refine gate_dst (N := 3) rfl ?_);refine box_event ?hg (N := 3) ?hd (cs := #[.slice none 0 0,.int .i64 0]) (t := 38) ?hr ?_;(case hd => rfl);(case hg => rfl);(case hr => first|(go_simp;done)|(go_simp;rfl));intro gb469 hg w8 hbox hb;have n0_ := Aside0.mk (Kd.S_below (by (with_reducible repeat (first|apply Kd.S_alloc|apply Kd.S_drewN|apply Kd.S_drew));exact HO468.out) hb);have n1_ := Aside0.mk (blk_below (g := gb464) (o := .cells #[.slice none 0 0,.int .i64 0] 38 (0,0)) (by (with_reducible repeat (first|refine blk_drewN ?_ _|refine blk_drew ?_|refine blk_alloc ?_ _));exact BK464.out) hb);have n2_ := Aside0.mk (below_step (by repeat (first|(with_reducible first|exact HB.out|apply below_alloc|apply pw_below_drewN|apply below_drew1|refine below_set ?_ GE464.out)|exact HB.out)) hb);have n3_ := Aside0.mk (hbox);have n4_ := Aside0.mk ((by rw [hg];exact (below_size (by repeat (first|(with_reducible first|exact HB.out|apply below_alloc|apply pw_below_drewN|apply below_drew1|refine below_set ?_ GE464.out)|exact HB.out))) : w.heap.size ≤ gb469));have n5_ := Aside0.mk ((by rw [hg];exact (below_size (by repeat (first|(with_reducible first|exact HB.out|apply below_alloc|apply pw_below_drewN|apply below_drew1|refine below_set ?_ GE464.out)|exact HB.out))) : w.heap.size ≤ gb469));have n6_ := Aside0.mk ((by rw [hg];exact Nat.ne_of_lt (blk_lt (g := gb464) (o := .cells #[.slice none 0 0,.int .i64 0] 38 (0,0)) (by (with_reducible repeat (first|refine blk_drewN ?_ _|refine blk_drew ?_|refine blk_alloc ?_ _));exact BK464.out)) : gb464 ≠ gb469));have n7_ := Aside0.mk ((by rw [hg];exact Nat.ne_of_gt (blk_lt (g := gb464) (o := .cells #[.slice none 0 0,.int .i64 0] 38 (0,0)) (by (with_reducible repeat (first|refine blk_drewN ?_ _|refine blk_drew ?_|refine blk_alloc ?_ _));exact BK464.out)) : gb469 ≠ gb464));clear HO468;clear BK464;clear HB;have HO468 := n0_;have BK464 := n1_;have HB := n2_;have BK469 := n3_;have GW469 := n4_;have GE469 := n5_;have NB464_469 := n6_;have NB469_464 := n7_;clear n0_ n1_ n2_ n3_ n4_ n5_ n6_ n7_;clear hb hbox hg;have hnb9 := NB469_464.out;have hnc9 := NB464_469.out;have hcz10_0 : w8.cell? ⟨gb469,0,none⟩ = some (.slice none 0 0) := (blk_cell BK469.out 0).trans rfl;have hcz10_1 : w8.cell? ⟨gb469,1,none⟩ = some (.int .i64 0) := (blk_cell BK469.out 1).trans rfl;have hfz10_0 := blk_frozen BK469.out 0;have hfz10_1 := blk_frozen BK469.out 1))
  go_loopg [4] k (fun kq v4 w' => ∃ (x4_1 : Int) (x470000_1 : List (S88)) (u470000 : Value),v4 = .int .i64 x4_1 ∧ Aside0 (spec_BombGraph.l0 kq a0 x4_1 x470000_1 a0 = some (r1,r2)) ∧ Aside0 (kq ≤ k) ∧ Aside0 (Kd.S k88 88 w' w.heap.size (fun _ => True) u470000 x470000_1) ∧ Aside0 (w'.heap[gb464]? = some (.cells #[(.slice none 0 0),.int .i64 0] 38 (0,0))) ∧ Aside0 (w'.heap[gb469]? = some (.cells #[u470000,.int .i64 a0] 38 (0,0))) ∧ Aside0 (Below w.heap.size w w'))
  case atStart => exact ⟨(0),(y466),(.slice Ao7 y466.length co7),(by first|rfl|(simp;done)|(simp [*];done)),H',⟨Nat.le_refl _⟩,⟨by (with_reducible repeat (first|apply Kd.S_alloc|apply Kd.S_drewN|apply Kd.S_drew));exact Kd.S_mono (Kd.S_far (p := ⟨gb469,1,none⟩) (Kd.S_far (p := ⟨gb469,0,none⟩) (Kd.S_types HO468.out BK469.out (by decide)) (fun _ hk => hk.2) (.slice Ao7 y466.length co7)) (fun _ hk => hk.2) (.int .i64 a0)) (fun _ hk => trivial)⟩,⟨by (with_reducible repeat (first|refine blk_drewN ?_ _|refine blk_drew ?_|refine blk_alloc ?_ _));refine blk_far ?_ NB464_469.out _;(with_reducible repeat (first|refine blk_drewN ?_ _|refine blk_drew ?_|refine blk_alloc ?_ _));refine blk_far ?_ NB464_469.out _;(with_reducible repeat (first|refine blk_drewN ?_ _|refine blk_drew ?_|refine blk_alloc ?_ _));exact BK464.out⟩,⟨by (with_reducible repeat (first|refine blk_drewN ?_ _|refine blk_drew ?_|refine blk_alloc ?_ _));refine blk_put (cs := #[.slice Ao7 y466.length co7,.int .i64 0]) ?_ 1 _ rfl;(with_reducible repeat (first|refine blk_drewN ?_ _|refine blk_drew ?_|refine blk_alloc ?_ _));refine blk_put (cs := #[.slice none 0 0,.int .i64 0]) ?_ 0 _ rfl;(with_reducible repeat (first|refine blk_drewN ?_ _|refine blk_drew ?_|refine blk_alloc ?_ _));exact BK469.out⟩,⟨by repeat (first|(with_reducible first|exact HB.out|apply below_alloc|apply pw_below_drewN|apply below_drew1|refine below_set ?_ GE464.out|refine below_set ?_ GE469.out)|exact HB.out)⟩⟩
  case round =>
   clear H'
   try clear c2
   try clear p2
   try clear c3
   try clear c5
   try clear c9
   try clear hcz10_0
   try clear hcz10_1
   try clear hfz10_0
   try clear hfz10_1
   obtain ⟨x4_1,x470000_1,u470000,rfl,HA,HK1,HO_470000,BK464,BK469,HB⟩ := hrel
   cases gk with
   | zero => exact absurd HA.out (fun h_ => (by cases h_))
   | succ k1 =>
    have H := HA.out
    clear HA
    simp only [spec_BombGraph.l0] at H
    by_cases c11 : x4_1 < a0
    ·rw [if_pos c11] at H
     have c11b0 : decide (x4_1 < a0) = true := decide_eq_true c11
     clear c11
     obtain ⟨y470,hy470⟩ : ∃ y_ : List Int,y_ = (([x4_1,x4_1] : List Int)) := ⟨_,rfl⟩
     replace H : (if x470000_1.length < 3518437208883 then (spec_BombGraph.l0 k1 a0 (wrap64 (x4_1 + 1)) (x470000_1 ++ [(⟨2,0,y470⟩ : S88)]) a0) else (none)) = some (r1,r2) := by first|(rw [hy470];with_reducible exact H)|(have H2_ := (Option.bind_some _ _).symm.trans H;rw [hy470];with_reducible exact H2_)|(have H2_ := (Option.bind_some _ _).symm.trans H;with_reducible exact H2_)|with_reducible exact H|(rw [hy470];exact H)|exact H
     have Ny470 := Aside0.mk hy470
     clear hy470
     by_cases c12 : x470000_1.length < 3518437208883
     ·rw [if_pos c12] at H
      have LMc12 := Aside0.mk c12
      clear c12
      obtain ⟨y473,hy473⟩ : ∃ y_ : List (S88),y_ = (x470000_1 ++ [(⟨2,0,y470⟩ : S88)]) := ⟨_,rfl⟩
      replace H : (spec_BombGraph.l0 k1 a0 (wrap64 (x4_1 + 1)) y473 a0) = some (r1,r2) := by first|(rw [hy473];with_reducible exact H)|(have H2_ := (Option.bind_some _ _).symm.trans H;rw [hy473];with_reducible exact H2_)|(have H2_ := (Option.bind_some _ _).symm.trans H;with_reducible exact H2_)|with_reducible exact H|(rw [hy473];exact H)|exact H
      have Ny473 := Aside0.mk hy473
      clear hy473
      have H' := Aside0.mk H
      clear H
      have hnb13 := NB469_464.out
      have hnc13 := NB464_469.out
      have hcz14_0 : wr.cell? ⟨gb469,0,none⟩ = some (u470000) := (blk_cell BK469.out 0).trans rfl
      have hcz14_1 : wr.cell? ⟨gb469,1,none⟩ = some (.int .i64 a0) := (blk_cell BK469.out 1).trans rfl
      have hfz14_0 := blk_frozen BK469.out 0
      have hfz14_1 := blk_frozen BK469.out 1
      go_wp2_with (first|((with_reducible refine gate_dst (N := 22) rfl ?_);refine Kd.R_lit (Kd.int .i64) _ 3 ?hg (N := 22) ?hd (xs := ([x4_1,x4_1] : List Int)) (inner := [.int .i64 x4_1,.int .i64 x4_1]) (ok := fun _ => True) (okp := fun _ => True) ?hr ?hp (fun _ hk => hk) trivial (Below.refl _ _) (Nat.le_refl _) (by simp) ?_;(case hd => rfl);(case hg => rfl);(case hr => first|(go_simp;done)|(go_simp;rfl));(case hp => exact (Reps.one (show Kd.M (Kd.int .i64) _ _ _ x4_1 [.int .i64 x4_1] from rfl) (Reps.one (show Kd.M (Kd.int .i64) _ _ _ x4_1 [.int .i64 x4_1] from rfl) (Reps.none _ _))));intro v471 w15 ho16 hb hg_ hnew_;clear hg_ hnew_;(first|rw [← Ny470.out] at ho16|(simp only [Int.reduceToNat] at ho16;rw [← Ny470.out] at ho16));have n0_ := Aside0.mk (Kd.S_elder' (by (with_reducible repeat (first|apply Kd.S_alloc|apply Kd.S_drewN|apply Kd.S_drew));exact HO_470000.out) (Kd.R_base ho16) hb);have n1_ := Aside0.mk (Kd.R_lower ho16 (below_size (by repeat (first|(with_reducible first|exact HB.out|apply below_alloc|apply pw_below_drewN|apply below_drew1|refine below_set ?_ GE464.out|refine below_set ?_ GE469.out)|exact HB.out))));have n2_ := Aside0.mk (blk_below (g := gb464) (o := .cells #[.slice none 0 0,.int .i64 0] 38 (0,0)) (by (with_reducible repeat (first|refine blk_drewN ?_ _|refine blk_drew ?_|refine blk_alloc ?_ _));exact BK464.out) hb);have n3_ := Aside0.mk (blk_below (g := gb469) (o := .cells #[u470000,.int .i64 a0] 38 (0,0)) (by (with_reducible repeat (first|refine blk_drewN ?_ _|refine blk_drew ?_|refine blk_alloc ?_ _));exact BK469.out) hb);have n4_ := Aside0.mk (below_step (by repeat (first|(with_reducible first|exact HB.out|apply below_alloc|apply pw_below_drewN|apply below_drew1|refine below_set ?_ GE464.out|refine below_set ?_ GE469.out)|exact HB.out)) hb);clear HO_470000;clear BK464;clear BK469;clear HB;have HO_470000 := n0_;have HO472 := n1_;have BK464 := n2_;have BK469 := n3_;have HB := n4_;clear n0_ n1_ n2_ n3_ n4_;clear hb ho16;obtain ⟨Ao17,co17,eo17⟩ := Kd.R_slice HO472.out;subst eo17)|((with_reducible refine gate_builtin (b := .append) (xs := #[.tmp 19,.tmp 24]) rfl ?_);at_builtin;refine Kd.S_append k88 (w0 := w) w.heap.size rfl (.tmp 19) (.tmp 24) 36 88 (.agg #[(.int .i64 0),(.int .i64 0),(.slice none 0 0)]) 40 rfl Try.underlying36 info88 rfl (by decide) (by omega) u470000 x470000_1 (⟨2,0,y470⟩ : S88) [.int .i64 2,.int .i64 0,.slice Ao17 y470.length co17] (fun _ => True) (fun k_ => some k_ = (.slice Ao17 y470.length co17 : Value).ownBlock) rfl rfl ?aP (fun k_ hk_ => ((Kd.R_mono (ok' := fun k_ => ((fun _ => True)) k_ ∧ some k_ ≠ (u470000 : Value).ownBlock) (Kd.R_apart' (HO472.out) (Kd.S_typed HO_470000.out) (by decide)) (fun k_ hk => ⟨trivial,hk.2⟩))).1 k_ hk_.symm) ?aF ?aO ?aB ?aS ?aL ?_;(case aP => exact k88_mkM _ _ _ (⟨2,0,y470⟩ : S88) (Kd.R_mono (Kd.R_tight rfl (Kd.R_mono (ok' := fun k_ => ((fun _ => True)) k_ ∧ some k_ ≠ (u470000 : Value).ownBlock) (Kd.R_apart' (HO472.out) (Kd.S_typed HO_470000.out) (by decide)) (fun k_ hk => ⟨trivial,hk.2⟩))) (fun _ h_ => h_)));(case aB => exact (by repeat (first|(with_reducible first|exact HB.out|apply below_alloc|apply pw_below_drewN|apply below_drew1|refine below_set ?_ GE464.out|refine below_set ?_ GE469.out)|exact HB.out)));(case aF => exact (fun _ _ => trivial));(case aO => exact (by (with_reducible repeat (first|apply Kd.S_alloc|apply Kd.S_drewN|apply Kd.S_drew));exact Kd.S_mono HO_470000.out (fun k_ hk => ⟨trivial,fun e_ => hk.2 e_⟩)));(case aS => exact (below_size (by repeat (first|(with_reducible first|exact HB.out|apply below_alloc|apply pw_below_drewN|apply below_drew1|refine below_set ?_ GE464.out|refine below_set ?_ GE469.out)|exact HB.out))));(case aL => have := LMc12.out;omega);intro v474 w18 ho hb hg hat;rw [← Ny473.out] at ho;have n0_ := Aside0.mk (blk_grown (g := gb464) (o := .cells #[.slice none 0 0,.int .i64 0] 38 (0,0)) (by (with_reducible repeat (first|refine blk_drewN ?_ _|refine blk_drew ?_|refine blk_alloc ?_ _));exact BK464.out) hg (Kd.S_ne HO_470000.out BK464.out (by decide)));have n1_ := Aside0.mk (blk_grown (g := gb469) (o := .cells #[u470000,.int .i64 a0] 38 (0,0)) (by (with_reducible repeat (first|refine blk_drewN ?_ _|refine blk_drew ?_|refine blk_alloc ?_ _));exact BK469.out) hg (Kd.S_ne HO_470000.out BK469.out (by decide)));have n2_ := Aside0.mk (hb);have n3_ := Aside0.mk (ho);clear BK464;clear BK469;clear HB;clear HO_470000;clear HO472;have BK464 := n0_;have BK469 := n1_;have HB := n2_;have HO475 := n3_;clear n0_ n1_ n2_ n3_;clear ho hb hg hat;obtain ⟨Ao19,co19,eo19⟩ := Kd.S_slice HO475.out;subst eo19;have hcz20_0 : w18.cell? ⟨gb469,0,none⟩ = some (u470000) := (blk_cell BK469.out 0).trans rfl;have hcz20_1 : w18.cell? ⟨gb469,1,none⟩ = some (.int .i64 a0) := (blk_cell BK469.out 1).trans rfl;have hfz20_0 := blk_frozen BK469.out 0;have hfz20_1 := blk_frozen BK469.out 1))
      go_roundg k1
      case measure => have := HK1.out;omega
      case rel => exact ⟨(wrap64 (x4_1 + 1)),(y473),(.slice Ao19 y473.length co19),(by first|rfl|(simp;done)|(simp [*];done)),H',⟨by have := HK1.out;omega⟩,⟨by (with_reducible repeat (first|apply Kd.S_alloc|apply Kd.S_drewN|apply Kd.S_drew));exact Kd.S_mono (Kd.S_far (p := ⟨gb469,0,none⟩) (Kd.S_types HO475.out BK469.out (by decide)) (fun _ hk => hk.2) (.slice Ao19 y473.length co19)) (fun _ hk => trivial)⟩,⟨by (with_reducible repeat (first|refine blk_drewN ?_ _|refine blk_drew ?_|refine blk_alloc ?_ _));refine blk_far ?_ NB464_469.out _;(with_reducible repeat (first|refine blk_drewN ?_ _|refine blk_drew ?_|refine blk_alloc ?_ _));exact BK464.out⟩,⟨by (with_reducible repeat (first|refine blk_drewN ?_ _|refine blk_drew ?_|refine blk_alloc ?_ _));refine blk_put (cs := #[u470000,.int .i64 a0]) ?_ 0 _ rfl;(with_reducible repeat (first|refine blk_drewN ?_ _|refine blk_drew ?_|refine blk_alloc ?_ _));exact BK469.out⟩,⟨by repeat (first|(with_reducible first|exact HB.out|apply below_alloc|apply pw_below_drewN|apply below_drew1|refine below_set ?_ GE464.out|refine below_set ?_ GE469.out)|exact HB.out)⟩⟩
     ·rw [if_neg c12] at H
      exact absurd H (by simp)
    ·rw [if_neg c11] at H
     have c11b0 : decide (x4_1 < a0) = false := decide_eq_false c11
     clear c11
     simp only [Option.some.injEq,Prod.mk.injEq] at H
     obtain ⟨rfl,rfl⟩ := H
     have hnb21 := NB469_464.out
     have hnc21 := NB464_469.out
     have hcz22_0 : wr.cell? ⟨gb469,0,none⟩ = some (u470000) := (blk_cell BK469.out 0).trans rfl
     have hcz22_1 : wr.cell? ⟨gb469,1,none⟩ = some (.int .i64 a0) := (blk_cell BK469.out 1).trans rfl
     have hfz22_0 := blk_frozen BK469.out 0
     have hfz22_1 := blk_frozen BK469.out 1
     obtain ⟨Ao23,co23,eo23⟩ := Kd.S_slice HO_470000.out
     subst eo23
     have hcz24_0 : wr.cell? ⟨gb464,0,none⟩ = some (.slice none 0 0) := (blk_cell BK464.out 0).trans rfl
     have hcz24_1 : wr.cell? ⟨gb464,1,none⟩ = some (.int .i64 0) := (blk_cell BK464.out 1).trans rfl
     have hfz24_0 := blk_frozen BK464.out 0
     have hfz24_1 := blk_frozen BK464.out 1
     go_wp2
     refine bodyPost_ret (results_cell_row rfl _ _ gb464 38 #[.slice Ao23 x470000_1.length co23,.int .i64 a0] (0,0) _ rfl (by (with_reducible repeat (first|refine blk_drewN ?_ _|refine blk_drew ?_|refine blk_alloc ?_ _));refine blk_put (cs := #[.slice Ao23 x470000_1.length co23,.int .i64 0]) ?_ 1 _ rfl;(with_reducible repeat (first|refine blk_drewN ?_ _|refine blk_drew ?_|refine blk_alloc ?_ _));refine blk_put (cs := #[.slice none 0 0,.int .i64 0]) ?_ 0 _ rfl;(with_reducible repeat (first|refine blk_drewN ?_ _|refine blk_drew ?_|refine blk_alloc ?_ _));exact BK464.out) Try.underlying38 rfl (by kernel_rfl)) rfl ?_
     exact ⟨_,by first|rfl|(simp [errW_none,errW_some] <;> rfl)|(simp [*,errW_none,errW_some] <;> rfl),by (with_reducible repeat (first|apply Kd.S_alloc|apply Kd.S_drewN|apply Kd.S_drew));exact Kd.S_mono (Kd.S_far (p := ⟨gb464,1,none⟩) (Kd.S_far (p := ⟨gb464,0,none⟩) (Kd.S_types HO_470000.out BK464.out (by decide)) (fun _ hk => hk.2) (.slice Ao23 x470000_1.length co23)) (fun _ hk => hk.2) (.int .i64 a0)) (fun _ hk => trivial),by repeat (first|(with_reducible first|exact HB.out|apply below_alloc|apply pw_below_drewN|apply below_drew1|refine below_set ?_ GE464.out|refine below_set ?_ GE469.out)|exact HB.out)⟩
 ·replace c3 := Bool.eq_false_iff.mpr c3
  subst c3
  have H1 : (some (([] : List (S88)),0)) = some (r1,r2) := by rw [if_neg (show ¬ (false = true) by decide)] at H;exact H
  clear H
  have H := H1
  clear H1
  simp only [Option.some.injEq,Prod.mk.injEq] at H
  obtain ⟨rfl,rfl⟩ := H
  go_enter Try.func25,Try.ntmps25
  go_wp2_with (first|((with_reducible refine gate_dst (N := 2) rfl ?_);refine box_event ?hg (N := 2) ?hd (cs := #[.slice none 0 0,.int .i64 0]) (t := 38) ?hr ?_;(case hd => rfl);(case hg => rfl);(case hr => first|(go_simp;done)|(go_simp;rfl));intro gb464 hg w25 hbox hb;have n0_ := Aside0.mk (below_step (by repeat (first|(with_reducible first|exact HB.out|apply below_alloc|apply pw_below_drewN|apply below_drew1)|exact HB.out)) hb);have n1_ := Aside0.mk (hbox);have n2_ := Aside0.mk ((by rw [hg];exact (below_size (by repeat (first|(with_reducible first|exact HB.out|apply below_alloc|apply pw_below_drewN|apply below_drew1)|exact HB.out))) : w.heap.size ≤ gb464));have n3_ := Aside0.mk ((by rw [hg];exact (below_size (by repeat (first|(with_reducible first|exact HB.out|apply below_alloc|apply pw_below_drewN|apply below_drew1)|exact HB.out))) : w.heap.size ≤ gb464));clear HB;have HB := n0_;have BK464 := n1_;have GW464 := n2_;have GE464 := n3_;clear n0_ n1_ n2_ n3_;clear hb hbox hg)|((with_reducible refine gate_callee (f := 56) rfl ?_);refine goesL_ (some 6) rfl rfl Try.func56 (by kernel_rfl) rfl #[.int .i64 a0,.int .i64 0,.int .i64 11] rfl (by (try simp only [List.map_toArray,List.map_cons,List.map_nil]);first|done|rfl|(simp only [List.length_drop,List.length_take];rfl)) ?_;(with_reducible refine (spec_inRange.calls a0 0 11 false _ A2.out).mono ?_);rintro e w' ⟨rfl,⟨nd,rfl⟩⟩;refine ⟨_,rfl,?_⟩;(try (rw [drewN_self w25];generalize hq_ : World.drewN w25 _ = w25;have n0_ : Aside0 (w25.heap[gb464]? = some (.cells #[.slice none 0 0,.int .i64 0] 38 (0,0))) := ⟨by rw [← hq_];exact (by (with_reducible repeat (first|refine blk_drewN ?_ _|refine blk_drew ?_|refine blk_alloc ?_ _));exact BK464.out)⟩;have n1_ : Aside0 (Below w.heap.size w w25) := ⟨by rw [← hq_];exact (by repeat (first|(with_reducible first|exact HB.out|apply below_alloc|apply pw_below_drewN|apply below_drew1|refine below_set ?_ GE464.out)|exact HB.out))⟩;clear BK464 HB hq_;have BK464 := n0_;have HB := n1_;clear n0_ n1_));have hcz26_0 : w25.cell? ⟨gb464,0,none⟩ = some (.slice none 0 0) := (blk_cell BK464.out 0).trans rfl;have hcz26_1 : w25.cell? ⟨gb464,1,none⟩ = some (.int .i64 0) := (blk_cell BK464.out 1).trans rfl;have hfz26_0 := blk_frozen BK464.out 0;have hfz26_1 := blk_frozen BK464.out 1))
  refine bodyPost_ret (results_cell_row rfl _ _ gb464 38 #[.slice none 0 0,.int .i64 0] (0,0) _ rfl (by (with_reducible repeat (first|refine blk_drewN ?_ _|refine blk_drew ?_|refine blk_alloc ?_ _));refine blk_put (cs := #[.slice none 0 0,.int .i64 0]) ?_ 1 _ rfl;(with_reducible repeat (first|refine blk_drewN ?_ _|refine blk_drew ?_|refine blk_alloc ?_ _));refine blk_put (cs := #[.slice none 0 0,.int .i64 0]) ?_ 0 _ rfl;(with_reducible repeat (first|refine blk_drewN ?_ _|refine blk_drew ?_|refine blk_alloc ?_ _));exact BK464.out) Try.underlying38 rfl (by kernel_rfl)) rfl ?_
  exact ⟨_,by first|rfl|(simp [errW_none,errW_some] <;> rfl)|(simp [*,errW_none,errW_some] <;> rfl),by first|exact Kd.S_nil _ _ _ _ _|exact Kd.N_nil _ _ _ _ _|exact Kd.V_nil _ _ _ _ _|exact Kd.Q_nil _ _ _ _ _|exact Kd.R_nil _ _ _ _ _,by repeat (first|(with_reducible first|exact HB.out|apply below_alloc|apply pw_below_drewN|apply below_drew1|refine below_set ?_ GE464.out)|exact HB.out)⟩

/-! ### impl_BombGraph: function 26 -/
mutual
def impl_BombGraph.j0 : Nat → Int → Bool → Option ((List (S88)) × Int)
 | 0,_,_ => none
 | k + 1,x0,x10 => if x10 = true then (some (([] : List (S88)),0)) else (impl_BombGraph.l0 k x0 0 (([(⟨0,1,([] : List Int)⟩ : S88)] : List (S88))) x0)
def impl_BombGraph.l0 : Nat → Int → Int → List (S88) → Int → Option ((List (S88)) × Int)
 | 0,_,_,_,_ => none
 | k + 1,x16,x17,x481000,x481001 => if x17 < x16 then (if x481000.length < 3518437208883 then (impl_BombGraph.l0 k x16 (wrap64 (x17 + 1)) (x481000 ++ [(⟨2,0,(([x17,x17] : List Int))⟩ : S88)]) x481001) else (none)) else (some (x481000,x481001))
end
def impl_BombGraph.f (k : Nat) (a0 : Int) : Option ((List (S88)) × Int) := if a0 < 0 then (impl_BombGraph.j0 k a0 true) else (impl_BombGraph.j0 k a0 (decide (a0 ≥ 12)))
set_option maxRecDepth 100000 in
theorem impl_BombGraph.mono_l : ∀ k,(∀ y0 y1,LeO (impl_BombGraph.j0 k y0 y1) (impl_BombGraph.j0 (k + 1) y0 y1)) ∧ (∀ y0 y1 y2 y3,LeO (impl_BombGraph.l0 k y0 y1 y2 y3) (impl_BombGraph.l0 (k + 1) y0 y1 y2 y3))
 | 0 => ⟨fun _ _ r h => (by cases h),fun _ _ _ _ r h => (by cases h)⟩
 | k + 1 => by
  obtain ⟨ih0,ih1⟩ := impl_BombGraph.mono_l k
  refine ⟨?_,?_⟩
  ·intro y0 y1
   unfold impl_BombGraph.j0
   repeat' first
   | (with_reducible exact ih0 _ _)
   | (with_reducible exact ih1 _ _ _ _)
   | (with_reducible exact LeO.refl _)
   | (with_reducible exact LeO.none _)
   | (with_reducible refine LeO.ite ?_ ?_)
   | (with_reducible refine LeO.bind ?_ (fun _ => ?_))
   | exact ih0 _ _
   | exact ih1 _ _ _ _
   | exact LeO.none _
   | refine LeO.ite ?_ ?_
   | refine LeO.bind ?_ (fun _ => ?_)
  ·intro y0 y1 y2 y3
   unfold impl_BombGraph.l0
   repeat' first
   | (with_reducible exact ih0 _ _)
   | (with_reducible exact ih1 _ _ _ _)
   | (with_reducible exact LeO.refl _)
   | (with_reducible exact LeO.none _)
   | (with_reducible refine LeO.ite ?_ ?_)
   | (with_reducible refine LeO.bind ?_ (fun _ => ?_))
   | exact ih0 _ _
   | exact ih1 _ _ _ _
   | exact LeO.none _
   | refine LeO.ite ?_ ?_
   | refine LeO.bind ?_ (fun _ => ?_)
set_option maxRecDepth 100000 in
theorem impl_BombGraph.mono : ∀ a0 k,LeO (impl_BombGraph.f k a0) (impl_BombGraph.f (k + 1) a0) := by
 intro a0 k
 obtain ⟨ih0,ih1⟩ := impl_BombGraph.mono_l k
 unfold impl_BombGraph.f
 repeat' first
   | (with_reducible exact ih0 _ _)
   | (with_reducible exact ih1 _ _ _ _)
   | (with_reducible exact LeO.refl _)
   | (with_reducible exact LeO.none _)
   | (with_reducible refine LeO.ite ?_ ?_)
   | (with_reducible refine LeO.bind ?_ (fun _ => ?_))
   | exact ih0 _ _
   | exact ih1 _ _ _ _
   | exact LeO.none _
   | refine LeO.ite ?_ ?_
   | refine LeO.bind ?_ (fun _ => ?_)
set_option maxHeartbeats 8000000 in
set_option maxRecDepth 100000 in
theorem impl_BombGraph.calls (k : Nat) (a0 : Int) (r1 : List (S88)) (r2 : Int) (w : World) (h : impl_BombGraph.f k a0 = some (r1,r2)) :
  Calls Try.prog 26 #[.int .i64 a0] w fun e w' => ∃ v0_ : Value,e = .returned (.agg #[v0_,.int .i64 r2]) ∧ Kd.S k88 88 w' w.heap.size (fun _ => True) v0_ r1 ∧ Below w.heap.size w w' := by
 have hu38 := Try.underlying38
 have hu88 := Try.underlying88
 have HB := Aside0.mk (Below.refl w.heap.size w)
 have H : (if a0 < 0 then (impl_BombGraph.j0 k a0 true) else (impl_BombGraph.j0 k a0 (decide (a0 ≥ 12)))) = some (r1,r2) := h
 clear h
 have HC2 := Aside0.mk H
 clear H
 go_enter Try.func26,Try.ntmps26
 go_upto_region 1 with (first|((with_reducible refine gate_dst (N := 2) rfl ?_);refine box_event ?hg (N := 2) ?hd (cs := #[.slice none 0 0,.int .i64 0]) (t := 38) ?hr ?_;(case hd => rfl);(case hg => rfl);(case hr => first|(go_simp;done)|(go_simp;rfl));intro gb476 hg w3 hbox hb;have n0_ := Aside0.mk (below_step (by repeat (first|(with_reducible first|exact HB.out|apply below_alloc|apply pw_below_drewN|apply below_drew1)|exact HB.out)) hb);have n1_ := Aside0.mk (hbox);have n2_ := Aside0.mk ((by rw [hg];exact (below_size (by repeat (first|(with_reducible first|exact HB.out|apply below_alloc|apply pw_below_drewN|apply below_drew1)|exact HB.out))) : w.heap.size ≤ gb476));have n3_ := Aside0.mk ((by rw [hg];exact (below_size (by repeat (first|(with_reducible first|exact HB.out|apply below_alloc|apply pw_below_drewN|apply below_drew1)|exact HB.out))) : w.heap.size ≤ gb476));clear HB;have HB := n0_;have BK476 := n1_;have GW476 := n2_;have GE476 := n3_;clear n0_ n1_ n2_ n3_;clear hb hbox hg))
 (try simp only [Act.put,List.setIfInBounds_toArray,List.set_cons_zero,List.set_cons_succ])
 go_cut [10] (fun v10 wc => ∃ (kq : Nat) (x10_1 : Bool),v10 = .bool x10_1 ∧ Aside0 (impl_BombGraph.j0 kq a0 x10_1 = some (r1,r2)) ∧ Aside0 (kq ≤ k) ∧ Aside0 (wc.heap[gb476]? = some (.cells #[(.slice none 0 0),.int .i64 0] 38 (0,0))) ∧ Aside0 (Below w.heap.size w wc))
 case first =>
  have H := HC2.out
  clear HC2
  by_cases c4 : a0 < 0
  ·rw [if_pos c4] at H
   have c4b0 : decide (a0 < 0) = true := decide_eq_true c4
   clear c4
   (first|rw [c4b0]|(simp only [i64_w,i32_w];rw [c4b0])|skip)
   have H' := Aside0.mk H
   clear H
   go_wp2
   go_meet
   case rel => exact ⟨_,(true),(by first|rfl|(simp;done)|(simp [*];done)),H',⟨by first|omega|exact Nat.le_refl _⟩,⟨by (with_reducible repeat (first|refine blk_drewN ?_ _|refine blk_drew ?_|refine blk_alloc ?_ _));exact BK476.out⟩,⟨by repeat (first|(with_reducible first|exact HB.out|apply below_alloc|apply pw_below_drewN|apply below_drew1|refine below_set ?_ GE476.out)|exact HB.out)⟩⟩
  ·rw [if_neg c4] at H
   have c4b0 : decide (a0 < 0) = false := decide_eq_false c4
   clear c4
   (first|rw [c4b0]|(simp only [i64_w,i32_w];rw [c4b0])|skip)
   have H' := Aside0.mk H
   clear H
   go_wp2
   go_meet
   case rel => exact ⟨_,(decide (a0 ≥ 12)),(by first|rfl|(simp;done)|(simp [*];done)),H',⟨by first|omega|exact Nat.le_refl _⟩,⟨by (with_reducible repeat (first|refine blk_drewN ?_ _|refine blk_drew ?_|refine blk_alloc ?_ _));exact BK476.out⟩,⟨by repeat (first|(with_reducible first|exact HB.out|apply below_alloc|apply pw_below_drewN|apply below_drew1|refine below_set ?_ GE476.out)|exact HB.out)⟩⟩
 case rest =>
  clear HC2
  try clear c2
  try clear p2
  try clear c4
  try clear c4b0
  obtain ⟨kq,x10_1,rfl,HA,HJ1,BK476,HB⟩ := hcut
  cases kq with
  | zero => exact absurd HA.out (fun h_ => (by cases h_))
  | succ kj1 =>
   have H := HA.out
   clear HA
   simp only [impl_BombGraph.j0] at H
   by_cases c5 : x10_1 = true
   ·subst c5
    have H1 : (some (([] : List (S88)),0)) = some (r1,r2) := by rw [if_pos rfl] at H;exact H
    clear H
    have H := H1
    clear H1
    simp only [Option.some.injEq,Prod.mk.injEq] at H
    obtain ⟨rfl,rfl⟩ := H
    have hcz6_0 : wc.cell? ⟨gb476,0,none⟩ = some (.slice none 0 0) := (blk_cell BK476.out 0).trans rfl
    have hcz6_1 : wc.cell? ⟨gb476,1,none⟩ = some (.int .i64 0) := (blk_cell BK476.out 1).trans rfl
    have hfz6_0 := blk_frozen BK476.out 0
    have hfz6_1 := blk_frozen BK476.out 1
    go_wp2
    refine bodyPost_ret (results_cell_row rfl _ _ gb476 38 #[.slice none 0 0,.int .i64 0] (0,0) _ rfl (by (with_reducible repeat (first|refine blk_drewN ?_ _|refine blk_drew ?_|refine blk_alloc ?_ _));refine blk_put (cs := #[.slice none 0 0,.int .i64 0]) ?_ 1 _ rfl;(with_reducible repeat (first|refine blk_drewN ?_ _|refine blk_drew ?_|refine blk_alloc ?_ _));refine blk_put (cs := #[.slice none 0 0,.int .i64 0]) ?_ 0 _ rfl;(with_reducible repeat (first|refine blk_drewN ?_ _|refine blk_drew ?_|refine blk_alloc ?_ _));exact BK476.out) Try.underlying38 rfl (by kernel_rfl)) rfl ?_
    exact ⟨_,by first|rfl|(simp [errW_none,errW_some] <;> rfl)|(simp [*,errW_none,errW_some] <;> rfl),by first|exact Kd.S_nil _ _ _ _ _|exact Kd.N_nil _ _ _ _ _|exact Kd.V_nil _ _ _ _ _|exact Kd.Q_nil _ _ _ _ _|exact Kd.R_nil _ _ _ _ _,by repeat (first|(with_reducible first|exact HB.out|apply below_alloc|apply pw_below_drewN|apply below_drew1|refine below_set ?_ GE476.out)|exact HB.out)⟩
   ·replace c5 := Bool.eq_false_iff.mpr c5
    subst c5
    have H1 : (impl_BombGraph.l0 kj1 a0 0 (([(⟨0,1,([] : List Int)⟩ : S88)] : List (S88))) a0) = some (r1,r2) := by rw [if_neg (show ¬ (false = true) by decide)] at H;exact H
    clear H
    have H := H1
    clear H1
    obtain ⟨y477,hy477⟩ : ∃ y_ : List (S88),y_ = (([(⟨0,1,([] : List Int)⟩ : S88)] : List (S88))) := ⟨_,rfl⟩
    replace H : (impl_BombGraph.l0 kj1 a0 0 y477 a0) = some (r1,r2) := by first|(rw [hy477];with_reducible exact H)|(have H2_ := (Option.bind_some _ _).symm.trans H;rw [hy477];with_reducible exact H2_)|(have H2_ := (Option.bind_some _ _).symm.trans H;with_reducible exact H2_)|with_reducible exact H|(rw [hy477];exact H)|exact H
    have Ny477 := Aside0.mk hy477
    clear hy477
    have H' := Aside0.mk H
    clear H
    go_wp2_with (first|((with_reducible refine gate_dst (N := 13) rfl ?_);refine Kd.S_lit k88 _ 88 ?hg (N := 13) ?hd (xs := ([(⟨0,1,([] : List Int)⟩ : S88)] : List (S88))) (inner := [.int .i64 0,.int .i64 1,.slice none 0 0]) (ok := fun _ => True) (okp := fun _ => True) ?hr ?hp (fun _ hk => hk) trivial (Below.refl _ _) (Nat.le_refl _) (by simp) ?_;(case hd => rfl);(case hg => rfl);(case hr => first|(go_simp;done)|(go_simp;rfl));(case hp => exact (Reps.c3 (show Kd.M k88 _ _ _ (⟨0,1,([] : List Int)⟩ : S88) [.int .i64 0,.int .i64 1,.slice none 0 0] from (k88_mkM _ _ _ (⟨0,1,([] : List Int)⟩ : S88) (Kd.R_nil _ _ _ _ _))) (Reps.none _ _)));intro v478 w7 ho8 hb hg_ hnew_;clear hg_ hnew_;(first|rw [← Ny477.out] at ho8|(simp only [Int.reduceToNat] at ho8;rw [← Ny477.out] at ho8));have n0_ := Aside0.mk (Kd.S_lower ho8 (below_size (by repeat (first|(with_reducible first|exact HB.out|apply below_alloc|apply pw_below_drewN|apply below_drew1|refine below_set ?_ GE476.out)|exact HB.out))));have n1_ := Aside0.mk (blk_below (g := gb476) (o := .cells #[.slice none 0 0,.int .i64 0] 38 (0,0)) (by (with_reducible repeat (first|refine blk_drewN ?_ _|refine blk_drew ?_|refine blk_alloc ?_ _));exact BK476.out) hb);have n2_ := Aside0.mk (below_step (by repeat (first|(with_reducible first|exact HB.out|apply below_alloc|apply pw_below_drewN|apply below_drew1|refine below_set ?_ GE476.out)|exact HB.out)) hb);clear BK476;clear HB;have HO479 := n0_;have BK476 := n1_;have HB := n2_;clear n0_ n1_ n2_;clear hb ho8;obtain ⟨Ao9,co9,eo9⟩ := Kd.S_slice HO479.out;subst eo9)|((with_reducible refine gate_dst (N := 3) rfl ?_);refine box_event ?hg (N := 3) ?hd (cs := #[.slice none 0 0,.int .i64 0]) (t := 38) ?hr ?_;(case hd => rfl);(case hg => rfl);(case hr => first|(go_simp;done)|(go_simp;rfl));intro gb480 hg w10 hbox hb;have n0_ := Aside0.mk (Kd.S_below (by (with_reducible repeat (first|apply Kd.S_alloc|apply Kd.S_drewN|apply Kd.S_drew));exact HO479.out) hb);have n1_ := Aside0.mk (blk_below (g := gb476) (o := .cells #[.slice none 0 0,.int .i64 0] 38 (0,0)) (by (with_reducible repeat (first|refine blk_drewN ?_ _|refine blk_drew ?_|refine blk_alloc ?_ _));exact BK476.out) hb);have n2_ := Aside0.mk (below_step (by repeat (first|(with_reducible first|exact HB.out|apply below_alloc|apply pw_below_drewN|apply below_drew1|refine below_set ?_ GE476.out)|exact HB.out)) hb);have n3_ := Aside0.mk (hbox);have n4_ := Aside0.mk ((by rw [hg];exact (below_size (by repeat (first|(with_reducible first|exact HB.out|apply below_alloc|apply pw_below_drewN|apply below_drew1|refine below_set ?_ GE476.out)|exact HB.out))) : w.heap.size ≤ gb480));have n5_ := Aside0.mk ((by rw [hg];exact (below_size (by repeat (first|(with_reducible first|exact HB.out|apply below_alloc|apply pw_below_drewN|apply below_drew1|refine below_set ?_ GE476.out)|exact HB.out))) : w.heap.size ≤ gb480));have n6_ := Aside0.mk ((by rw [hg];exact Nat.ne_of_lt (blk_lt (g := gb476) (o := .cells #[.slice none 0 0,.int .i64 0] 38 (0,0)) (by (with_reducible repeat (first|refine blk_drewN ?_ _|refine blk_drew ?_|refine blk_alloc ?_ _));exact BK476.out)) : gb476 ≠ gb480));have n7_ := Aside0.mk ((by rw [hg];exact Nat.ne_of_gt (blk_lt (g := gb476) (o := .cells #[.slice none 0 0,.int .i64 0] 38 (0,0)) (by (with_reducible repeat (first|refine blk_drewN ?_ _|refine blk_drew ?_|refine blk_alloc ?_ _));exact BK476.out)) : gb480 ≠ gb476));clear HO479;clear BK476;clear HB;have HO479 := n0_;have BK476 := n1_;have HB := n2_;have BK480 := n3_;have GW480 := n4_;have GE480 := n5_;have NB476_480 := n6_;have NB480_476 := n7_;clear n0_ n1_ n2_ n3_ n4_ n5_ n6_ n7_;clear hb hbox hg;have hnb11 := NB480_476.out;have hnc11 := NB476_480.out;have hcz12_0 : w10.cell? ⟨gb480,0,none⟩ = some (.slice none 0 0) := (blk_cell BK480.out 0).trans rfl;have hcz12_1 : w10.cell? ⟨gb480,1,none⟩ = some (.int .i64 0) := (blk_cell BK480.out 1).trans rfl;have hfz12_0 := blk_frozen BK480.out 0;have hfz12_1 := blk_frozen BK480.out 1))
    go_loopg [17] kj1 (fun kq v17 w' => ∃ (x17_2 : Int) (x481000_2 : List (S88)) (u481000 : Value),v17 = .int .i64 x17_2 ∧ Aside0 (impl_BombGraph.l0 kq a0 x17_2 x481000_2 a0 = some (r1,r2)) ∧ Aside0 (kq ≤ kj1) ∧ Aside0 (Kd.S k88 88 w' w.heap.size (fun _ => True) u481000 x481000_2) ∧ Aside0 (w'.heap[gb476]? = some (.cells #[(.slice none 0 0),.int .i64 0] 38 (0,0))) ∧ Aside0 (w'.heap[gb480]? = some (.cells #[u481000,.int .i64 a0] 38 (0,0))) ∧ Aside0 (Below w.heap.size w w'))
    case atStart => exact ⟨(0),(y477),(.slice Ao9 y477.length co9),(by first|rfl|(simp;done)|(simp [*];done)),H',⟨Nat.le_refl _⟩,⟨by (with_reducible repeat (first|apply Kd.S_alloc|apply Kd.S_drewN|apply Kd.S_drew));exact Kd.S_mono (Kd.S_far (p := ⟨gb480,1,none⟩) (Kd.S_far (p := ⟨gb480,0,none⟩) (Kd.S_types HO479.out BK480.out (by decide)) (fun _ hk => hk.2) (.slice Ao9 y477.length co9)) (fun _ hk => hk.2) (.int .i64 a0)) (fun _ hk => trivial)⟩,⟨by (with_reducible repeat (first|refine blk_drewN ?_ _|refine blk_drew ?_|refine blk_alloc ?_ _));refine blk_far ?_ NB476_480.out _;(with_reducible repeat (first|refine blk_drewN ?_ _|refine blk_drew ?_|refine blk_alloc ?_ _));refine blk_far ?_ NB476_480.out _;(with_reducible repeat (first|refine blk_drewN ?_ _|refine blk_drew ?_|refine blk_alloc ?_ _));exact BK476.out⟩,⟨by (with_reducible repeat (first|refine blk_drewN ?_ _|refine blk_drew ?_|refine blk_alloc ?_ _));refine blk_put (cs := #[.slice Ao9 y477.length co9,.int .i64 0]) ?_ 1 _ rfl;(with_reducible repeat (first|refine blk_drewN ?_ _|refine blk_drew ?_|refine blk_alloc ?_ _));refine blk_put (cs := #[.slice none 0 0,.int .i64 0]) ?_ 0 _ rfl;(with_reducible repeat (first|refine blk_drewN ?_ _|refine blk_drew ?_|refine blk_alloc ?_ _));exact BK480.out⟩,⟨by repeat (first|(with_reducible first|exact HB.out|apply below_alloc|apply pw_below_drewN|apply below_drew1|refine below_set ?_ GE476.out|refine below_set ?_ GE480.out)|exact HB.out)⟩⟩
    case round =>
     clear H'
     try clear c1
     try clear c2
     try clear p2
     try clear c3
     try clear c4
     try clear c4b0
     try clear c5
     try clear c11
     try clear hcz12_0
     try clear hcz12_1
     try clear hcz6_0
     try clear hcz6_1
     try clear hfz12_0
     try clear hfz12_1
     try clear hfz6_0
     try clear hfz6_1
     try clear p2
     obtain ⟨x17_2,x481000_2,u481000,rfl,HA,HK2,HO_481000,BK476,BK480,HB⟩ := hrel
     cases gk with
     | zero => exact absurd HA.out (fun h_ => (by cases h_))
     | succ k2 =>
      have H := HA.out
      clear HA
      simp only [impl_BombGraph.l0] at H
      by_cases c13 : x17_2 < a0
      ·rw [if_pos c13] at H
       have c13b0 : decide (x17_2 < a0) = true := decide_eq_true c13
       clear c13
       obtain ⟨y481,hy481⟩ : ∃ y_ : List Int,y_ = (([x17_2,x17_2] : List Int)) := ⟨_,rfl⟩
       replace H : (if x481000_2.length < 3518437208883 then (impl_BombGraph.l0 k2 a0 (wrap64 (x17_2 + 1)) (x481000_2 ++ [(⟨2,0,y481⟩ : S88)]) a0) else (none)) = some (r1,r2) := by first|(rw [hy481];with_reducible exact H)|(have H2_ := (Option.bind_some _ _).symm.trans H;rw [hy481];with_reducible exact H2_)|(have H2_ := (Option.bind_some _ _).symm.trans H;with_reducible exact H2_)|with_reducible exact H|(rw [hy481];exact H)|exact H
       have Ny481 := Aside0.mk hy481
       clear hy481
       by_cases c14 : x481000_2.length < 3518437208883
       ·rw [if_pos c14] at H
        have LMc14 := Aside0.mk c14
        clear c14
        obtain ⟨y484,hy484⟩ : ∃ y_ : List (S88),y_ = (x481000_2 ++ [(⟨2,0,y481⟩ : S88)]) := ⟨_,rfl⟩
        replace H : (impl_BombGraph.l0 k2 a0 (wrap64 (x17_2 + 1)) y484 a0) = some (r1,r2) := by first|(rw [hy484];with_reducible exact H)|(have H2_ := (Option.bind_some _ _).symm.trans H;rw [hy484];with_reducible exact H2_)|(have H2_ := (Option.bind_some _ _).symm.trans H;with_reducible exact H2_)|with_reducible exact H|(rw [hy484];exact H)|exact H
        have Ny484 := Aside0.mk hy484
        clear hy484
        have H' := Aside0.mk H
        clear H
        have hnb15 := NB480_476.out
        have hnc15 := NB476_480.out
        have hcz16_0 : wr.cell? ⟨gb480,0,none⟩ = some (u481000) := (blk_cell BK480.out 0).trans rfl
        have hcz16_1 : wr.cell? ⟨gb480,1,none⟩ = some (.int .i64 a0) := (blk_cell BK480.out 1).trans rfl
        have hfz16_0 := blk_frozen BK480.out 0
        have hfz16_1 := blk_frozen BK480.out 1
        go_wp2_with (first|((with_reducible refine gate_dst (N := 24) rfl ?_);refine Kd.R_lit (Kd.int .i64) _ 3 ?hg (N := 24) ?hd (xs := ([x17_2,x17_2] : List Int)) (inner := [.int .i64 x17_2,.int .i64 x17_2]) (ok := fun _ => True) (okp := fun _ => True) ?hr ?hp (fun _ hk => hk) trivial (Below.refl _ _) (Nat.le_refl _) (by simp) ?_;(case hd => rfl);(case hg => rfl);(case hr => first|(go_simp;done)|(go_simp;rfl));(case hp => exact (Reps.one (show Kd.M (Kd.int .i64) _ _ _ x17_2 [.int .i64 x17_2] from rfl) (Reps.one (show Kd.M (Kd.int .i64) _ _ _ x17_2 [.int .i64 x17_2] from rfl) (Reps.none _ _))));intro v482 w17 ho18 hb hg_ hnew_;clear hg_ hnew_;(first|rw [← Ny481.out] at ho18|(simp only [Int.reduceToNat] at ho18;rw [← Ny481.out] at ho18));have n0_ := Aside0.mk (Kd.S_elder' (by (with_reducible repeat (first|apply Kd.S_alloc|apply Kd.S_drewN|apply Kd.S_drew));exact HO_481000.out) (Kd.R_base ho18) hb);have n1_ := Aside0.mk (Kd.R_lower ho18 (below_size (by repeat (first|(with_reducible first|exact HB.out|apply below_alloc|apply pw_below_drewN|apply below_drew1|refine below_set ?_ GE476.out|refine below_set ?_ GE480.out)|exact HB.out))));have n2_ := Aside0.mk (blk_below (g := gb476) (o := .cells #[.slice none 0 0,.int .i64 0] 38 (0,0)) (by (with_reducible repeat (first|refine blk_drewN ?_ _|refine blk_drew ?_|refine blk_alloc ?_ _));exact BK476.out) hb);have n3_ := Aside0.mk (blk_below (g := gb480) (o := .cells #[u481000,.int .i64 a0] 38 (0,0)) (by (with_reducible repeat (first|refine blk_drewN ?_ _|refine blk_drew ?_|refine blk_alloc ?_ _));exact BK480.out) hb);have n4_ := Aside0.mk (below_step (by repeat (first|(with_reducible first|exact HB.out|apply below_alloc|apply pw_below_drewN|apply below_drew1|refine below_set ?_ GE476.out|refine below_set ?_ GE480.out)|exact HB.out)) hb);clear HO_481000;clear BK476;clear BK480;clear HB;have HO_481000 := n0_;have HO483 := n1_;have BK476 := n2_;have BK480 := n3_;have HB := n4_;clear n0_ n1_ n2_ n3_ n4_;clear hb ho18;obtain ⟨Ao19,co19,eo19⟩ := Kd.R_slice HO483.out;subst eo19)|((with_reducible refine gate_builtin (b := .append) (xs := #[.tmp 21,.tmp 26]) rfl ?_);at_builtin;refine Kd.S_append k88 (w0 := w) w.heap.size rfl (.tmp 21) (.tmp 26) 36 88 (.agg #[(.int .i64 0),(.int .i64 0),(.slice none 0 0)]) 40 rfl Try.underlying36 info88 rfl (by decide) (by omega) u481000 x481000_2 (⟨2,0,y481⟩ : S88) [.int .i64 2,.int .i64 0,.slice Ao19 y481.length co19] (fun _ => True) (fun k_ => some k_ = (.slice Ao19 y481.length co19 : Value).ownBlock) rfl rfl ?aP (fun k_ hk_ => ((Kd.R_mono (ok' := fun k_ => ((fun _ => True)) k_ ∧ some k_ ≠ (u481000 : Value).ownBlock) (Kd.R_apart' (HO483.out) (Kd.S_typed HO_481000.out) (by decide)) (fun k_ hk => ⟨trivial,hk.2⟩))).1 k_ hk_.symm) ?aF ?aO ?aB ?aS ?aL ?_;(case aP => exact k88_mkM _ _ _ (⟨2,0,y481⟩ : S88) (Kd.R_mono (Kd.R_tight rfl (Kd.R_mono (ok' := fun k_ => ((fun _ => True)) k_ ∧ some k_ ≠ (u481000 : Value).ownBlock) (Kd.R_apart' (HO483.out) (Kd.S_typed HO_481000.out) (by decide)) (fun k_ hk => ⟨trivial,hk.2⟩))) (fun _ h_ => h_)));(case aB => exact (by repeat (first|(with_reducible first|exact HB.out|apply below_alloc|apply pw_below_drewN|apply below_drew1|refine below_set ?_ GE476.out|refine below_set ?_ GE480.out)|exact HB.out)));(case aF => exact (fun _ _ => trivial));(case aO => exact (by (with_reducible repeat (first|apply Kd.S_alloc|apply Kd.S_drewN|apply Kd.S_drew));exact Kd.S_mono HO_481000.out (fun k_ hk => ⟨trivial,fun e_ => hk.2 e_⟩)));(case aS => exact (below_size (by repeat (first|(with_reducible first|exact HB.out|apply below_alloc|apply pw_below_drewN|apply below_drew1|refine below_set ?_ GE476.out|refine below_set ?_ GE480.out)|exact HB.out))));(case aL => have := LMc14.out;omega);intro v485 w20 ho hb hg hat;rw [← Ny484.out] at ho;have n0_ := Aside0.mk (blk_grown (g := gb476) (o := .cells #[.slice none 0 0,.int .i64 0] 38 (0,0)) (by (with_reducible repeat (first|refine blk_drewN ?_ _|refine blk_drew ?_|refine blk_alloc ?_ _));exact BK476.out) hg (Kd.S_ne HO_481000.out BK476.out (by decide)));have n1_ := Aside0.mk (blk_grown (g := gb480) (o := .cells #[u481000,.int .i64 a0] 38 (0,0)) (by (with_reducible repeat (first|refine blk_drewN ?_ _|refine blk_drew ?_|refine blk_alloc ?_ _));exact BK480.out) hg (Kd.S_ne HO_481000.out BK480.out (by decide)));have n2_ := Aside0.mk (hb);have n3_ := Aside0.mk (ho);clear BK476;clear BK480;clear HB;clear HO_481000;clear HO483;have BK476 := n0_;have BK480 := n1_;have HB := n2_;have HO486 := n3_;clear n0_ n1_ n2_ n3_;clear ho hb hg hat;obtain ⟨Ao21,co21,eo21⟩ := Kd.S_slice HO486.out;subst eo21;have hcz22_0 : w20.cell? ⟨gb480,0,none⟩ = some (u481000) := (blk_cell BK480.out 0).trans rfl;have hcz22_1 : w20.cell? ⟨gb480,1,none⟩ = some (.int .i64 a0) := (blk_cell BK480.out 1).trans rfl;have hfz22_0 := blk_frozen BK480.out 0;have hfz22_1 := blk_frozen BK480.out 1))
        go_roundg k2
        case measure => have := HJ1.out;have := HK2.out;omega
        case rel => exact ⟨(wrap64 (x17_2 + 1)),(y484),(.slice Ao21 y484.length co21),(by first|rfl|(simp;done)|(simp [*];done)),H',⟨by have := HJ1.out;have := HK2.out;omega⟩,⟨by (with_reducible repeat (first|apply Kd.S_alloc|apply Kd.S_drewN|apply Kd.S_drew));exact Kd.S_mono (Kd.S_far (p := ⟨gb480,0,none⟩) (Kd.S_types HO486.out BK480.out (by decide)) (fun _ hk => hk.2) (.slice Ao21 y484.length co21)) (fun _ hk => trivial)⟩,⟨by (with_reducible repeat (first|refine blk_drewN ?_ _|refine blk_drew ?_|refine blk_alloc ?_ _));refine blk_far ?_ NB476_480.out _;(with_reducible repeat (first|refine blk_drewN ?_ _|refine blk_drew ?_|refine blk_alloc ?_ _));exact BK476.out⟩,⟨by (with_reducible repeat (first|refine blk_drewN ?_ _|refine blk_drew ?_|refine blk_alloc ?_ _));refine blk_put (cs := #[u481000,.int .i64 a0]) ?_ 0 _ rfl;(with_reducible repeat (first|refine blk_drewN ?_ _|refine blk_drew ?_|refine blk_alloc ?_ _));exact BK480.out⟩,⟨by repeat (first|(with_reducible first|exact HB.out|apply below_alloc|apply pw_below_drewN|apply below_drew1|refine below_set ?_ GE476.out|refine below_set ?_ GE480.out)|exact HB.out)⟩⟩
       ·rw [if_neg c14] at H
        exact absurd H (by simp)
      ·rw [if_neg c13] at H
       have c13b0 : decide (x17_2 < a0) = false := decide_eq_false c13
       clear c13
       simp only [Option.some.injEq,Prod.mk.injEq] at H
       obtain ⟨rfl,rfl⟩ := H
       have hnb23 := NB480_476.out
       have hnc23 := NB476_480.out
       have hcz24_0 : wr.cell? ⟨gb480,0,none⟩ = some (u481000) := (blk_cell BK480.out 0).trans rfl
       have hcz24_1 : wr.cell? ⟨gb480,1,none⟩ = some (.int .i64 a0) := (blk_cell BK480.out 1).trans rfl
       have hfz24_0 := blk_frozen BK480.out 0
       have hfz24_1 := blk_frozen BK480.out 1
       obtain ⟨Ao25,co25,eo25⟩ := Kd.S_slice HO_481000.out
       subst eo25
       have hcz26_0 : wr.cell? ⟨gb476,0,none⟩ = some (.slice none 0 0) := (blk_cell BK476.out 0).trans rfl
       have hcz26_1 : wr.cell? ⟨gb476,1,none⟩ = some (.int .i64 0) := (blk_cell BK476.out 1).trans rfl
       have hfz26_0 := blk_frozen BK476.out 0
       have hfz26_1 := blk_frozen BK476.out 1
       go_wp2
       refine bodyPost_ret (results_cell_row rfl _ _ gb476 38 #[.slice Ao25 x481000_2.length co25,.int .i64 a0] (0,0) _ rfl (by (with_reducible repeat (first|refine blk_drewN ?_ _|refine blk_drew ?_|refine blk_alloc ?_ _));refine blk_put (cs := #[.slice Ao25 x481000_2.length co25,.int .i64 0]) ?_ 1 _ rfl;(with_reducible repeat (first|refine blk_drewN ?_ _|refine blk_drew ?_|refine blk_alloc ?_ _));refine blk_put (cs := #[.slice none 0 0,.int .i64 0]) ?_ 0 _ rfl;(with_reducible repeat (first|refine blk_drewN ?_ _|refine blk_drew ?_|refine blk_alloc ?_ _));exact BK476.out) Try.underlying38 rfl (by kernel_rfl)) rfl ?_
       exact ⟨_,by first|rfl|(simp [errW_none,errW_some] <;> rfl)|(simp [*,errW_none,errW_some] <;> rfl),by (with_reducible repeat (first|apply Kd.S_alloc|apply Kd.S_drewN|apply Kd.S_drew));exact Kd.S_mono (Kd.S_far (p := ⟨gb476,1,none⟩) (Kd.S_far (p := ⟨gb476,0,none⟩) (Kd.S_types HO_481000.out BK476.out (by decide)) (fun _ hk => hk.2) (.slice Ao25 x481000_2.length co25)) (fun _ hk => hk.2) (.int .i64 a0)) (fun _ hk => trivial),by repeat (first|(with_reducible first|exact HB.out|apply below_alloc|apply pw_below_drewN|apply below_drew1|refine below_set ?_ GE476.out|refine below_set ?_ GE480.out)|exact HB.out)⟩

/-! ### laws_eqGraph: function 27 -/
def laws_eqGraph.f (k : Nat) (l0_0 : List (S88)) (a0_1 : Int) (l1_0 : List (S88)) (a1_1 : Int) : Option (Bool) := (laws_eqNodeS.f k l0_0 l1_0).bind fun t495 => (if t495 = true then (if a0_1 = a1_1 then (some true) else (some false)) else (some false))
set_option maxRecDepth 100000 in
theorem laws_eqGraph.mono : ∀ a0 a1 a2 a3 k,LeO (laws_eqGraph.f k a0 a1 a2 a3) (laws_eqGraph.f (k + 1) a0 a1 a2 a3) := by
 intro a0 a1 a2 a3 k
 unfold laws_eqGraph.f
 repeat' first
   | (with_reducible exact laws_eqNodeS.mono _ _ _)
   | (with_reducible exact LeO.refl _)
   | (with_reducible exact LeO.none _)
   | (with_reducible refine LeO.ite ?_ ?_)
   | (with_reducible refine LeO.bind ?_ (fun _ => ?_))
   | exact laws_eqNodeS.mono _ _ _
   | exact LeO.none _
   | refine LeO.ite ?_ ?_
   | refine LeO.bind ?_ (fun _ => ?_)
set_option maxHeartbeats 8000000 in
set_option maxRecDepth 100000 in
theorem laws_eqGraph.calls (k : Nat) (A0_0 : Option Addr) (c0_0 : Nat) (l0_0 : List (S88)) (a0_1 : Int) (A1_0 : Option Addr) (c1_0 : Nat) (l1_0 : List (S88)) (a1_1 : Int) (r : Bool) (w : World) (hr0_0 : Kd.C k88 w A0_0 l0_0.length l0_0) (hc0_0 : l0_0.length ≤ c0_0) (hr1_0 : Kd.C k88 w A1_0 l1_0.length l1_0) (hc1_0 : l1_0.length ≤ c1_0) (h : laws_eqGraph.f k l0_0 a0_1 l1_0 a1_1 = some r) :
  Calls Try.prog 27 #[.agg #[.slice A0_0 l0_0.length c0_0,.int .i64 a0_1],.agg #[.slice A1_0 l1_0.length c1_0,.int .i64 a1_1]] w fun e w' => e = .returned (.bool r) ∧ Below w.heap.size w w' := by
 have hu38 := Try.underlying38
 have HR0_0 := Aside0.mk hr0_0
 have HC0_0 := Aside0.mk hc0_0
 clear hr0_0 hc0_0
 have HR1_0 := Aside0.mk hr1_0
 have HC1_0 := Aside0.mk hc1_0
 clear hr1_0 hc1_0
 have HB := Aside0.mk (Below.refl w.heap.size w)
 have H : ((laws_eqNodeS.f k l0_0 l1_0).bind fun t495 => (if t495 = true then (if a0_1 = a1_1 then (some true) else (some false)) else (some false))) = some r := h
 clear h
 replace H := Option.bind_eq_some_iff.mp H
 obtain ⟨t495,A30,H⟩ := H
 replace H : (if t495 = true then (if a0_1 = a1_1 then (some true) else (some false)) else (some false)) = some r := H
 have A3 := Aside0.mk A30
 clear A30
 by_cases c4 : t495 = true
 ·subst c4
  have H1 : (if a0_1 = a1_1 then (some true) else (some false)) = some r := by rw [if_pos rfl] at H;exact H
  clear H
  have H := H1
  clear H1
  by_cases c5 : a0_1 = a1_1
  ·rw [if_pos c5] at H
   have c5b0 : (a0_1 == a1_1) = true := beq_iff_eq.mpr c5
   have c5b1 : (a0_1 != a1_1) = false := bne_eq_false_iff_eq.mpr c5
   clear c5
   obtain rfl := Option.some.inj H
   go_enter Try.func27,Try.ntmps27
   go_wp2_with (first|((with_reducible refine gate_dst (N := 2) rfl ?_);refine box_event ?hg (N := 2) ?hd (cs := #[.slice A0_0 l0_0.length c0_0,.int .i64 a0_1]) (t := 38) ?hr ?_;(case hd => rfl);(case hg => rfl);(case hr => first|(go_simp;done)|(go_simp;rfl));intro gb493 hg w6 hbox hb;have n0_ := Aside0.mk (below_step (by repeat (first|(with_reducible first|exact HB.out|apply below_alloc|apply pw_below_drewN|apply below_drew1)|exact HB.out)) hb);have n1_ := Aside0.mk (hbox);have n2_ := Aside0.mk ((by rw [hg];exact (below_size (by repeat (first|(with_reducible first|exact HB.out|apply below_alloc|apply pw_below_drewN|apply below_drew1)|exact HB.out))) : w.heap.size ≤ gb493));have n3_ := Aside0.mk ((by rw [hg];exact (below_size (by repeat (first|(with_reducible first|exact HB.out|apply below_alloc|apply pw_below_drewN|apply below_drew1)|exact HB.out))) : w.heap.size ≤ gb493));clear HB;have HB := n0_;have BK493 := n1_;have GW493 := n2_;have GE493 := n3_;clear n0_ n1_ n2_ n3_;clear hb hbox hg)|((with_reducible refine gate_dst (N := 3) rfl ?_);refine box_event ?hg (N := 3) ?hd (cs := #[.slice A1_0 l1_0.length c1_0,.int .i64 a1_1]) (t := 38) ?hr ?_;(case hd => rfl);(case hg => rfl);(case hr => first|(go_simp;done)|(go_simp;rfl));intro gb494 hg w7 hbox hb;have n0_ := Aside0.mk (blk_below (g := gb493) (o := .cells #[.slice A0_0 l0_0.length c0_0,.int .i64 a0_1] 38 (0,0)) (by (with_reducible repeat (first|refine blk_drewN ?_ _|refine blk_drew ?_|refine blk_alloc ?_ _));exact BK493.out) hb);have n1_ := Aside0.mk (below_step (by repeat (first|(with_reducible first|exact HB.out|apply below_alloc|apply pw_below_drewN|apply below_drew1|refine below_set ?_ GE493.out)|exact HB.out)) hb);have n2_ := Aside0.mk (hbox);have n3_ := Aside0.mk ((by rw [hg];exact (below_size (by repeat (first|(with_reducible first|exact HB.out|apply below_alloc|apply pw_below_drewN|apply below_drew1|refine below_set ?_ GE493.out)|exact HB.out))) : w.heap.size ≤ gb494));have n4_ := Aside0.mk ((by rw [hg];exact (below_size (by repeat (first|(with_reducible first|exact HB.out|apply below_alloc|apply pw_below_drewN|apply below_drew1|refine below_set ?_ GE493.out)|exact HB.out))) : w.heap.size ≤ gb494));have n5_ := Aside0.mk ((by rw [hg];exact Nat.ne_of_lt (blk_lt (g := gb493) (o := .cells #[.slice A0_0 l0_0.length c0_0,.int .i64 a0_1] 38 (0,0)) (by (with_reducible repeat (first|refine blk_drewN ?_ _|refine blk_drew ?_|refine blk_alloc ?_ _));exact BK493.out)) : gb493 ≠ gb494));have n6_ := Aside0.mk ((by rw [hg];exact Nat.ne_of_gt (blk_lt (g := gb493) (o := .cells #[.slice A0_0 l0_0.length c0_0,.int .i64 a0_1] 38 (0,0)) (by (with_reducible repeat (first|refine blk_drewN ?_ _|refine blk_drew ?_|refine blk_alloc ?_ _));exact BK493.out)) : gb494 ≠ gb493));clear BK493;clear HB;have BK493 := n0_;have HB := n1_;have BK494 := n2_;have GW494 := n3_;have GE494 := n4_;have NB493_494 := n5_;have NB494_493 := n6_;clear n0_ n1_ n2_ n3_ n4_ n5_ n6_;clear hb hbox hg;have hnb8 := NB493_494.out;have hnc8 := NB494_493.out;have hcz9_0 : w7.cell? ⟨gb493,0,none⟩ = some (.slice A0_0 l0_0.length c0_0) := (blk_cell BK493.out 0).trans rfl;have hcz9_1 : w7.cell? ⟨gb493,1,none⟩ = some (.int .i64 a0_1) := (blk_cell BK493.out 1).trans rfl;have hfz9_0 := blk_frozen BK493.out 0;have hfz9_1 := blk_frozen BK493.out 1;have hcz10_0 : w7.cell? ⟨gb494,0,none⟩ = some (.slice A1_0 l1_0.length c1_0) := (blk_cell BK494.out 0).trans rfl;have hcz10_1 : w7.cell? ⟨gb494,1,none⟩ = some (.int .i64 a1_1) := (blk_cell BK494.out 1).trans rfl;have hfz10_0 := blk_frozen BK494.out 0;have hfz10_1 := blk_frozen BK494.out 1)|((with_reducible refine gate_callee (f := 65) rfl ?_);refine goesL_ (some 9) rfl rfl Try.func65 (by kernel_rfl) rfl #[.slice A0_0 l0_0.length c0_0,.slice A1_0 l1_0.length c1_0] rfl (by (try simp only [List.map_toArray,List.map_cons,List.map_nil]);first|done|rfl|(simp only [List.length_drop,List.length_take];rfl)) ?_;(with_reducible refine (laws_eqNodeS.calls k _ _ l0_0 _ _ l1_0 true _ ?side1 ?side2 ?side3 ?side4 A3.out).mono ?_);(case side1 => repeat (first|exact (Kd.C_below HR0_0.out HB.out)|(with_reducible refine Kd.C_alloc ?_ _)|(with_reducible refine Kd.C_drewN ?_ _)|(with_reducible refine Kd.C_drew ?_)));(case side2 => exact HC0_0.out);(case side3 => repeat (first|exact (Kd.C_below HR1_0.out HB.out)|(with_reducible refine Kd.C_alloc ?_ _)|(with_reducible refine Kd.C_drewN ?_ _)|(with_reducible refine Kd.C_drew ?_)));(case side4 => exact HC1_0.out);rintro e w11 ⟨rfl,hb⟩;refine ⟨_,rfl,?_⟩;have n0_ := Aside0.mk (blk_below (g := gb493) (o := .cells #[.slice A0_0 l0_0.length c0_0,.int .i64 a0_1] 38 (0,0)) (by (with_reducible repeat (first|refine blk_drewN ?_ _|refine blk_drew ?_|refine blk_alloc ?_ _));exact BK493.out) hb);have n1_ := Aside0.mk (blk_below (g := gb494) (o := .cells #[.slice A1_0 l1_0.length c1_0,.int .i64 a1_1] 38 (0,0)) (by (with_reducible repeat (first|refine blk_drewN ?_ _|refine blk_drew ?_|refine blk_alloc ?_ _));exact BK494.out) hb);have n2_ := Aside0.mk (below_step (by repeat (first|(with_reducible first|exact HB.out|apply below_alloc|apply pw_below_drewN|apply below_drew1|refine below_set ?_ GE493.out|refine below_set ?_ GE494.out)|exact HB.out)) hb);clear BK493;clear BK494;clear HB;have BK493 := n0_;have BK494 := n1_;have HB := n2_;clear n0_ n1_ n2_;(try clear hb);(try clear hb2);(try clear hk);(try clear hi);have hcz12_0 : w11.cell? ⟨gb493,0,none⟩ = some (.slice A0_0 l0_0.length c0_0) := (blk_cell BK493.out 0).trans rfl;have hcz12_1 : w11.cell? ⟨gb493,1,none⟩ = some (.int .i64 a0_1) := (blk_cell BK493.out 1).trans rfl;have hfz12_0 := blk_frozen BK493.out 0;have hfz12_1 := blk_frozen BK493.out 1;have hcz13_0 : w11.cell? ⟨gb494,0,none⟩ = some (.slice A1_0 l1_0.length c1_0) := (blk_cell BK494.out 0).trans rfl;have hcz13_1 : w11.cell? ⟨gb494,1,none⟩ = some (.int .i64 a1_1) := (blk_cell BK494.out 1).trans rfl;have hfz13_0 := blk_frozen BK494.out 0;have hfz13_1 := blk_frozen BK494.out 1))
   go_ret
   exact ⟨by first|rfl|(simp [errW_none,errW_some] <;> rfl)|(simp [*,errW_none,errW_some] <;> rfl),by repeat (first|(with_reducible first|exact HB.out|apply below_alloc|apply pw_below_drewN|apply below_drew1|refine below_set ?_ GE493.out|refine below_set ?_ GE494.out)|exact HB.out)⟩
  ·rw [if_neg c5] at H
   have c5b0 : (a0_1 == a1_1) = false := beq_eq_false_iff_ne.mpr c5
   have c5b1 : (a0_1 != a1_1) = true := bne_iff_ne.mpr c5
   obtain rfl := Option.some.inj H
   go_enter Try.func27,Try.ntmps27
   go_wp2_with (first|((with_reducible refine gate_dst (N := 2) rfl ?_);refine box_event ?hg (N := 2) ?hd (cs := #[.slice A0_0 l0_0.length c0_0,.int .i64 a0_1]) (t := 38) ?hr ?_;(case hd => rfl);(case hg => rfl);(case hr => first|(go_simp;done)|(go_simp;rfl));intro gb493 hg w14 hbox hb;have n0_ := Aside0.mk (below_step (by repeat (first|(with_reducible first|exact HB.out|apply below_alloc|apply pw_below_drewN|apply below_drew1)|exact HB.out)) hb);have n1_ := Aside0.mk (hbox);have n2_ := Aside0.mk ((by rw [hg];exact (below_size (by repeat (first|(with_reducible first|exact HB.out|apply below_alloc|apply pw_below_drewN|apply below_drew1)|exact HB.out))) : w.heap.size ≤ gb493));have n3_ := Aside0.mk ((by rw [hg];exact (below_size (by repeat (first|(with_reducible first|exact HB.out|apply below_alloc|apply pw_below_drewN|apply below_drew1)|exact HB.out))) : w.heap.size ≤ gb493));clear HB;have HB := n0_;have BK493 := n1_;have GW493 := n2_;have GE493 := n3_;clear n0_ n1_ n2_ n3_;clear hb hbox hg)|((with_reducible refine gate_dst (N := 3) rfl ?_);refine box_event ?hg (N := 3) ?hd (cs := #[.slice A1_0 l1_0.length c1_0,.int .i64 a1_1]) (t := 38) ?hr ?_;(case hd => rfl);(case hg => rfl);(case hr => first|(go_simp;done)|(go_simp;rfl));intro gb494 hg w15 hbox hb;have n0_ := Aside0.mk (blk_below (g := gb493) (o := .cells #[.slice A0_0 l0_0.length c0_0,.int .i64 a0_1] 38 (0,0)) (by (with_reducible repeat (first|refine blk_drewN ?_ _|refine blk_drew ?_|refine blk_alloc ?_ _));exact BK493.out) hb);have n1_ := Aside0.mk (below_step (by repeat (first|(with_reducible first|exact HB.out|apply below_alloc|apply pw_below_drewN|apply below_drew1|refine below_set ?_ GE493.out)|exact HB.out)) hb);have n2_ := Aside0.mk (hbox);have n3_ := Aside0.mk ((by rw [hg];exact (below_size (by repeat (first|(with_reducible first|exact HB.out|apply below_alloc|apply pw_below_drewN|apply below_drew1|refine below_set ?_ GE493.out)|exact HB.out))) : w.heap.size ≤ gb494));have n4_ := Aside0.mk ((by rw [hg];exact (below_size (by repeat (first|(with_reducible first|exact HB.out|apply below_alloc|apply pw_below_drewN|apply below_drew1|refine below_set ?_ GE493.out)|exact HB.out))) : w.heap.size ≤ gb494));have n5_ := Aside0.mk ((by rw [hg];exact Nat.ne_of_lt (blk_lt (g := gb493) (o := .cells #[.slice A0_0 l0_0.length c0_0,.int .i64 a0_1] 38 (0,0)) (by (with_reducible repeat (first|refine blk_drewN ?_ _|refine blk_drew ?_|refine blk_alloc ?_ _));exact BK493.out)) : gb493 ≠ gb494));have n6_ := Aside0.mk ((by rw [hg];exact Nat.ne_of_gt (blk_lt (g := gb493) (o := .cells #[.slice A0_0 l0_0.length c0_0,.int .i64 a0_1] 38 (0,0)) (by (with_reducible repeat (first|refine blk_drewN ?_ _|refine blk_drew ?_|refine blk_alloc ?_ _));exact BK493.out)) : gb494 ≠ gb493));clear BK493;clear HB;have BK493 := n0_;have HB := n1_;have BK494 := n2_;have GW494 := n3_;have GE494 := n4_;have NB493_494 := n5_;have NB494_493 := n6_;clear n0_ n1_ n2_ n3_ n4_ n5_ n6_;clear hb hbox hg;have hnb16 := NB493_494.out;have hnc16 := NB494_493.out;have hcz17_0 : w15.cell? ⟨gb493,0,none⟩ = some (.slice A0_0 l0_0.length c0_0) := (blk_cell BK493.out 0).trans rfl;have hcz17_1 : w15.cell? ⟨gb493,1,none⟩ = some (.int .i64 a0_1) := (blk_cell BK493.out 1).trans rfl;have hfz17_0 := blk_frozen BK493.out 0;have hfz17_1 := blk_frozen BK493.out 1;have hcz18_0 : w15.cell? ⟨gb494,0,none⟩ = some (.slice A1_0 l1_0.length c1_0) := (blk_cell BK494.out 0).trans rfl;have hcz18_1 : w15.cell? ⟨gb494,1,none⟩ = some (.int .i64 a1_1) := (blk_cell BK494.out 1).trans rfl;have hfz18_0 := blk_frozen BK494.out 0;have hfz18_1 := blk_frozen BK494.out 1)|((with_reducible refine gate_callee (f := 65) rfl ?_);refine goesL_ (some 9) rfl rfl Try.func65 (by kernel_rfl) rfl #[.slice A0_0 l0_0.length c0_0,.slice A1_0 l1_0.length c1_0] rfl (by (try simp only [List.map_toArray,List.map_cons,List.map_nil]);first|done|rfl|(simp only [List.length_drop,List.length_take];rfl)) ?_;(with_reducible refine (laws_eqNodeS.calls k _ _ l0_0 _ _ l1_0 true _ ?side1 ?side2 ?side3 ?side4 A3.out).mono ?_);(case side1 => repeat (first|exact (Kd.C_below HR0_0.out HB.out)|(with_reducible refine Kd.C_alloc ?_ _)|(with_reducible refine Kd.C_drewN ?_ _)|(with_reducible refine Kd.C_drew ?_)));(case side2 => exact HC0_0.out);(case side3 => repeat (first|exact (Kd.C_below HR1_0.out HB.out)|(with_reducible refine Kd.C_alloc ?_ _)|(with_reducible refine Kd.C_drewN ?_ _)|(with_reducible refine Kd.C_drew ?_)));(case side4 => exact HC1_0.out);rintro e w19 ⟨rfl,hb⟩;refine ⟨_,rfl,?_⟩;have n0_ := Aside0.mk (blk_below (g := gb493) (o := .cells #[.slice A0_0 l0_0.length c0_0,.int .i64 a0_1] 38 (0,0)) (by (with_reducible repeat (first|refine blk_drewN ?_ _|refine blk_drew ?_|refine blk_alloc ?_ _));exact BK493.out) hb);have n1_ := Aside0.mk (blk_below (g := gb494) (o := .cells #[.slice A1_0 l1_0.length c1_0,.int .i64 a1_1] 38 (0,0)) (by (with_reducible repeat (first|refine blk_drewN ?_ _|refine blk_drew ?_|refine blk_alloc ?_ _));exact BK494.out) hb);have n2_ := Aside0.mk (below_step (by repeat (first|(with_reducible first|exact HB.out|apply below_alloc|apply pw_below_drewN|apply below_drew1|refine below_set ?_ GE493.out|refine below_set ?_ GE494.out)|exact HB.out)) hb);clear BK493;clear BK494;clear HB;have BK493 := n0_;have BK494 := n1_;have HB := n2_;clear n0_ n1_ n2_;(try clear hb);(try clear hb2);(try clear hk);(try clear hi);have hcz20_0 : w19.cell? ⟨gb493,0,none⟩ = some (.slice A0_0 l0_0.length c0_0) := (blk_cell BK493.out 0).trans rfl;have hcz20_1 : w19.cell? ⟨gb493,1,none⟩ = some (.int .i64 a0_1) := (blk_cell BK493.out 1).trans rfl;have hfz20_0 := blk_frozen BK493.out 0;have hfz20_1 := blk_frozen BK493.out 1;have hcz21_0 : w19.cell? ⟨gb494,0,none⟩ = some (.slice A1_0 l1_0.length c1_0) := (blk_cell BK494.out 0).trans rfl;have hcz21_1 : w19.cell? ⟨gb494,1,none⟩ = some (.int .i64 a1_1) := (blk_cell BK494.out 1).trans rfl;have hfz21_0 := blk_frozen BK494.out 0;have hfz21_1 := blk_frozen BK494.out 1))
   go_ret
   exact ⟨by first|rfl|(simp [errW_none,errW_some] <;> rfl)|(simp [*,errW_none,errW_some] <;> rfl),by repeat (first|(with_reducible first|exact HB.out|apply below_alloc|apply pw_below_drewN|apply below_drew1|refine below_set ?_ GE493.out|refine below_set ?_ GE494.out)|exact HB.out)⟩
 ·replace c4 := Bool.eq_false_iff.mpr c4
  subst c4
  have H1 : (some false) = some r := by rw [if_neg (show ¬ (false = true) by decide)] at H;exact H
  clear H
  have H := H1
  clear H1
  obtain rfl := Option.some.inj H
  go_enter Try.func27,Try.ntmps27
  go_wp2_with (first|((with_reducible refine gate_dst (N := 2) rfl ?_);refine box_event ?hg (N := 2) ?hd (cs := #[.slice A0_0 l0_0.length c0_0,.int .i64 a0_1]) (t := 38) ?hr ?_;(case hd => rfl);(case hg => rfl);(case hr => first|(go_simp;done)|(go_simp;rfl));intro gb493 hg w22 hbox hb;have n0_ := Aside0.mk (below_step (by repeat (first|(with_reducible first|exact HB.out|apply below_alloc|apply pw_below_drewN|apply below_drew1)|exact HB.out)) hb);have n1_ := Aside0.mk (hbox);have n2_ := Aside0.mk ((by rw [hg];exact (below_size (by repeat (first|(with_reducible first|exact HB.out|apply below_alloc|apply pw_below_drewN|apply below_drew1)|exact HB.out))) : w.heap.size ≤ gb493));have n3_ := Aside0.mk ((by rw [hg];exact (below_size (by repeat (first|(with_reducible first|exact HB.out|apply below_alloc|apply pw_below_drewN|apply below_drew1)|exact HB.out))) : w.heap.size ≤ gb493));clear HB;have HB := n0_;have BK493 := n1_;have GW493 := n2_;have GE493 := n3_;clear n0_ n1_ n2_ n3_;clear hb hbox hg)|((with_reducible refine gate_dst (N := 3) rfl ?_);refine box_event ?hg (N := 3) ?hd (cs := #[.slice A1_0 l1_0.length c1_0,.int .i64 a1_1]) (t := 38) ?hr ?_;(case hd => rfl);(case hg => rfl);(case hr => first|(go_simp;done)|(go_simp;rfl));intro gb494 hg w23 hbox hb;have n0_ := Aside0.mk (blk_below (g := gb493) (o := .cells #[.slice A0_0 l0_0.length c0_0,.int .i64 a0_1] 38 (0,0)) (by (with_reducible repeat (first|refine blk_drewN ?_ _|refine blk_drew ?_|refine blk_alloc ?_ _));exact BK493.out) hb);have n1_ := Aside0.mk (below_step (by repeat (first|(with_reducible first|exact HB.out|apply below_alloc|apply pw_below_drewN|apply below_drew1|refine below_set ?_ GE493.out)|exact HB.out)) hb);have n2_ := Aside0.mk (hbox);have n3_ := Aside0.mk ((by rw [hg];exact (below_size (by repeat (first|(with_reducible first|exact HB.out|apply below_alloc|apply pw_below_drewN|apply below_drew1|refine below_set ?_ GE493.out)|exact HB.out))) : w.heap.size ≤ gb494));have n4_ := Aside0.mk ((by rw [hg];exact (below_size (by repeat (first|(with_reducible first|exact HB.out|apply below_alloc|apply pw_below_drewN|apply below_drew1|refine below_set ?_ GE493.out)|exact HB.out))) : w.heap.size ≤ gb494));have n5_ := Aside0.mk ((by rw [hg];exact Nat.ne_of_lt (blk_lt (g := gb493) (o := .cells #[.slice A0_0 l0_0.length c0_0,.int .i64 a0_1] 38 (0,0)) (by (with_reducible repeat (first|refine blk_drewN ?_ _|refine blk_drew ?_|refine blk_alloc ?_ _));exact BK493.out)) : gb493 ≠ gb494));have n6_ := Aside0.mk ((by rw [hg];exact Nat.ne_of_gt (blk_lt (g := gb493) (o := .cells #[.slice A0_0 l0_0.length c0_0,.int .i64 a0_1] 38 (0,0)) (by (with_reducible repeat (first|refine blk_drewN ?_ _|refine blk_drew ?_|refine blk_alloc ?_ _));exact BK493.out)) : gb494 ≠ gb493));clear BK493;clear HB;have BK493 := n0_;have HB := n1_;have BK494 := n2_;have GW494 := n3_;have GE494 := n4_;have NB493_494 := n5_;have NB494_493 := n6_;clear n0_ n1_ n2_ n3_ n4_ n5_ n6_;clear hb hbox hg;have hnb24 := NB493_494.out;have hnc24 := NB494_493.out;have hcz25_0 : w23.cell? ⟨gb493,0,none⟩ = some (.slice A0_0 l0_0.length c0_0) := (blk_cell BK493.out 0).trans rfl;have hcz25_1 : w23.cell? ⟨gb493,1,none⟩ = some (.int .i64 a0_1) := (blk_cell BK493.out 1).trans rfl;have hfz25_0 := blk_frozen BK493.out 0;have hfz25_1 := blk_frozen BK493.out 1;have hcz26_0 : w23.cell? ⟨gb494,0,none⟩ = some (.slice A1_0 l1_0.length c1_0) := (blk_cell BK494.out 0).trans rfl;have hcz26_1 : w23.cell? ⟨gb494,1,none⟩ = some (.int .i64 a1_1) := (blk_cell BK494.out 1).trans rfl;have hfz26_0 := blk_frozen BK494.out 0;have hfz26_1 := blk_frozen BK494.out 1)|((with_reducible refine gate_callee (f := 65) rfl ?_);refine goesL_ (some 9) rfl rfl Try.func65 (by kernel_rfl) rfl #[.slice A0_0 l0_0.length c0_0,.slice A1_0 l1_0.length c1_0] rfl (by (try simp only [List.map_toArray,List.map_cons,List.map_nil]);first|done|rfl|(simp only [List.length_drop,List.length_take];rfl)) ?_;(with_reducible refine (laws_eqNodeS.calls k _ _ l0_0 _ _ l1_0 false _ ?side1 ?side2 ?side3 ?side4 A3.out).mono ?_);(case side1 => repeat (first|exact (Kd.C_below HR0_0.out HB.out)|(with_reducible refine Kd.C_alloc ?_ _)|(with_reducible refine Kd.C_drewN ?_ _)|(with_reducible refine Kd.C_drew ?_)));(case side2 => exact HC0_0.out);(case side3 => repeat (first|exact (Kd.C_below HR1_0.out HB.out)|(with_reducible refine Kd.C_alloc ?_ _)|(with_reducible refine Kd.C_drewN ?_ _)|(with_reducible refine Kd.C_drew ?_)));(case side4 => exact HC1_0.out);rintro e w27 ⟨rfl,hb⟩;refine ⟨_,rfl,?_⟩;have n0_ := Aside0.mk (blk_below (g := gb493) (o := .cells #[.slice A0_0 l0_0.length c0_0,.int .i64 a0_1] 38 (0,0)) (by (with_reducible repeat (first|refine blk_drewN ?_ _|refine blk_drew ?_|refine blk_alloc ?_ _));exact BK493.out) hb);have n1_ := Aside0.mk (blk_below (g := gb494) (o := .cells #[.slice A1_0 l1_0.length c1_0,.int .i64 a1_1] 38 (0,0)) (by (with_reducible repeat (first|refine blk_drewN ?_ _|refine blk_drew ?_|refine blk_alloc ?_ _));exact BK494.out) hb);have n2_ := Aside0.mk (below_step (by repeat (first|(with_reducible first|exact HB.out|apply below_alloc|apply pw_below_drewN|apply below_drew1|refine below_set ?_ GE493.out|refine below_set ?_ GE494.out)|exact HB.out)) hb);clear BK493;clear BK494;clear HB;have BK493 := n0_;have BK494 := n1_;have HB := n2_;clear n0_ n1_ n2_;(try clear hb);(try clear hb2);(try clear hk);(try clear hi)))
  go_ret
  exact ⟨by first|rfl|(simp [errW_none,errW_some] <;> rfl)|(simp [*,errW_none,errW_some] <;> rfl),by repeat (first|(with_reducible first|exact HB.out|apply below_alloc|apply pw_below_drewN|apply below_drew1|refine below_set ?_ GE493.out|refine below_set ?_ GE494.out)|exact HB.out)⟩

/-! ### laws_heldGraph: function 29 -/
def laws_heldGraph.f (k : Nat) (l0_0 : List (S88)) (a0_1 : Int) (a1 : Int) : Option (Int) := (laws_heldNodeS.f k l0_0 a1).bind fun t501 => (if t501 < 0 then (some (-1)) else (some t501))
set_option maxRecDepth 100000 in
theorem laws_heldGraph.mono : ∀ a0 a1 a2 k,LeO (laws_heldGraph.f k a0 a1 a2) (laws_heldGraph.f (k + 1) a0 a1 a2) := by
 intro a0 a1 a2 k
 unfold laws_heldGraph.f
 repeat' first
   | (with_reducible exact laws_heldNodeS.mono _ _ _)
   | (with_reducible exact LeO.refl _)
   | (with_reducible exact LeO.none _)
   | (with_reducible refine LeO.ite ?_ ?_)
   | (with_reducible refine LeO.bind ?_ (fun _ => ?_))
   | exact laws_heldNodeS.mono _ _ _
   | exact LeO.none _
   | refine LeO.ite ?_ ?_
   | refine LeO.bind ?_ (fun _ => ?_)
set_option maxHeartbeats 8000000 in
set_option maxRecDepth 100000 in
theorem laws_heldGraph.calls (k : Nat) (A0_0 : Option Addr) (c0_0 : Nat) (l0_0 : List (S88)) (a0_1 : Int) (a1 : Int) (r : Int) (w : World) (hr0_0 : Kd.C k88 w A0_0 l0_0.length l0_0) (hc0_0 : l0_0.length ≤ c0_0) (h : laws_heldGraph.f k l0_0 a0_1 a1 = some r) :
  Calls Try.prog 29 #[.agg #[.slice A0_0 l0_0.length c0_0,.int .i64 a0_1],.int .i64 a1] w fun e w' => e = .returned (.int .i64 r) ∧ Below w.heap.size w w' := by
 have hu38 := Try.underlying38
 have HR0_0 := Aside0.mk hr0_0
 have HC0_0 := Aside0.mk hc0_0
 clear hr0_0 hc0_0
 have HB := Aside0.mk (Below.refl w.heap.size w)
 have H : ((laws_heldNodeS.f k l0_0 a1).bind fun t501 => (if t501 < 0 then (some (-1)) else (some t501))) = some r := h
 clear h
 replace H := Option.bind_eq_some_iff.mp H
 obtain ⟨t501,A30,H⟩ := H
 replace H : (if t501 < 0 then (some (-1)) else (some t501)) = some r := H
 have A3 := Aside0.mk A30
 clear A30
 by_cases c4 : t501 < 0
 ·rw [if_pos c4] at H
  have c4b0 : decide (t501 < 0) = true := decide_eq_true c4
  clear c4
  obtain rfl := Option.some.inj H
  go_enter Try.func29,Try.ntmps29
  go_wp2_with (first|((with_reducible refine gate_dst (N := 2) rfl ?_);refine box_event ?hg (N := 2) ?hd (cs := #[.slice A0_0 l0_0.length c0_0,.int .i64 a0_1]) (t := 38) ?hr ?_;(case hd => rfl);(case hg => rfl);(case hr => first|(go_simp;done)|(go_simp;rfl));intro gb500 hg w5 hbox hb;have n0_ := Aside0.mk (below_step (by repeat (first|(with_reducible first|exact HB.out|apply below_alloc|apply pw_below_drewN|apply below_drew1)|exact HB.out)) hb);have n1_ := Aside0.mk (hbox);have n2_ := Aside0.mk ((by rw [hg];exact (below_size (by repeat (first|(with_reducible first|exact HB.out|apply below_alloc|apply pw_below_drewN|apply below_drew1)|exact HB.out))) : w.heap.size ≤ gb500));have n3_ := Aside0.mk ((by rw [hg];exact (below_size (by repeat (first|(with_reducible first|exact HB.out|apply below_alloc|apply pw_below_drewN|apply below_drew1)|exact HB.out))) : w.heap.size ≤ gb500));clear HB;have HB := n0_;have BK500 := n1_;have GW500 := n2_;have GE500 := n3_;clear n0_ n1_ n2_ n3_;clear hb hbox hg;have hcz6_0 : w5.cell? ⟨gb500,0,none⟩ = some (.slice A0_0 l0_0.length c0_0) := (blk_cell BK500.out 0).trans rfl;have hcz6_1 : w5.cell? ⟨gb500,1,none⟩ = some (.int .i64 a0_1) := (blk_cell BK500.out 1).trans rfl;have hfz6_0 := blk_frozen BK500.out 0;have hfz6_1 := blk_frozen BK500.out 1)|((with_reducible refine gate_callee (f := 67) rfl ?_);refine goesL_ (some 8) rfl rfl Try.func67 (by kernel_rfl) rfl #[.slice A0_0 l0_0.length c0_0,.int .i64 a1] rfl (by (try simp only [List.map_toArray,List.map_cons,List.map_nil]);first|done|rfl|(simp only [List.length_drop,List.length_take];rfl)) ?_;(with_reducible refine (laws_heldNodeS.calls k _ _ l0_0 a1 t501 _ ?side1 ?side2 A3.out).mono ?_);(case side1 => repeat (first|exact (Kd.C_below HR0_0.out HB.out)|(with_reducible refine Kd.C_alloc ?_ _)|(with_reducible refine Kd.C_drewN ?_ _)|(with_reducible refine Kd.C_drew ?_)));(case side2 => exact HC0_0.out);rintro e w' ⟨rfl,⟨nd,rfl⟩⟩;refine ⟨_,rfl,?_⟩))
  go_ret
  exact ⟨by first|rfl|(simp [errW_none,errW_some] <;> rfl)|(simp [*,errW_none,errW_some] <;> rfl),by repeat (first|(with_reducible first|exact HB.out|apply below_alloc|apply pw_below_drewN|apply below_drew1|refine below_set ?_ GE500.out)|exact HB.out)⟩
 ·rw [if_neg c4] at H
  have c4b0 : decide (t501 < 0) = false := decide_eq_false c4
  clear c4
  obtain rfl := Option.some.inj H
  go_enter Try.func29,Try.ntmps29
  go_wp2_with (first|((with_reducible refine gate_dst (N := 2) rfl ?_);refine box_event ?hg (N := 2) ?hd (cs := #[.slice A0_0 l0_0.length c0_0,.int .i64 a0_1]) (t := 38) ?hr ?_;(case hd => rfl);(case hg => rfl);(case hr => first|(go_simp;done)|(go_simp;rfl));intro gb500 hg w7 hbox hb;have n0_ := Aside0.mk (below_step (by repeat (first|(with_reducible first|exact HB.out|apply below_alloc|apply pw_below_drewN|apply below_drew1)|exact HB.out)) hb);have n1_ := Aside0.mk (hbox);have n2_ := Aside0.mk ((by rw [hg];exact (below_size (by repeat (first|(with_reducible first|exact HB.out|apply below_alloc|apply pw_below_drewN|apply below_drew1)|exact HB.out))) : w.heap.size ≤ gb500));have n3_ := Aside0.mk ((by rw [hg];exact (below_size (by repeat (first|(with_reducible first|exact HB.out|apply below_alloc|apply pw_below_drewN|apply below_drew1)|exact HB.out))) : w.heap.size ≤ gb500));clear HB;have HB := n0_;have BK500 := n1_;have GW500 := n2_;have GE500 := n3_;clear n0_ n1_ n2_ n3_;clear hb hbox hg;have hcz8_0 : w7.cell? ⟨gb500,0,none⟩ = some (.slice A0_0 l0_0.length c0_0) := (blk_cell BK500.out 0).trans rfl;have hcz8_1 : w7.cell? ⟨gb500,1,none⟩ = some (.int .i64 a0_1) := (blk_cell BK500.out 1).trans rfl;have hfz8_0 := blk_frozen BK500.out 0;have hfz8_1 := blk_frozen BK500.out 1)|((with_reducible refine gate_callee (f := 67) rfl ?_);refine goesL_ (some 8) rfl rfl Try.func67 (by kernel_rfl) rfl #[.slice A0_0 l0_0.length c0_0,.int .i64 a1] rfl (by (try simp only [List.map_toArray,List.map_cons,List.map_nil]);first|done|rfl|(simp only [List.length_drop,List.length_take];rfl)) ?_;(with_reducible refine (laws_heldNodeS.calls k _ _ l0_0 a1 t501 _ ?side1 ?side2 A3.out).mono ?_);(case side1 => repeat (first|exact (Kd.C_below HR0_0.out HB.out)|(with_reducible refine Kd.C_alloc ?_ _)|(with_reducible refine Kd.C_drewN ?_ _)|(with_reducible refine Kd.C_drew ?_)));(case side2 => exact HC0_0.out);rintro e w' ⟨rfl,⟨nd,rfl⟩⟩;refine ⟨_,rfl,?_⟩))
  go_ret
  exact ⟨by first|rfl|(simp [errW_none,errW_some] <;> rfl)|(simp [*,errW_none,errW_some] <;> rfl),by repeat (first|(with_reducible first|exact HB.out|apply below_alloc|apply pw_below_drewN|apply below_drew1|refine below_set ?_ GE500.out)|exact HB.out)⟩

end Go.Proofs.Ytbokjhdhpmmpfaa.Q
