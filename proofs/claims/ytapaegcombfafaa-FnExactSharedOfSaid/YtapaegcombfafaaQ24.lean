-- Written by wip/tools/qprint.py (a program of this claim's author) by means of the kit's printer.
import Derived.Test.YtapaegcombfafaaQ0
import Derived.Test.YtapaegcombfafaaQ49
import Derived.Test.YtapaegcombfafaaQ84
namespace Go.Proofs.Ytapaegcombfafaa.Q
open Go.RowKit Go.Proofs.YtapaegcombfafaaW.PrintWords Go.Proofs.YtapaegcombfafaaW.PrintLast Go.Proofs.YtapaegcombfafaaW.PrintMore
attribute [local go_sem] max2_int min2_int max_two min_two max_three min_three max_four min_four   -- for this text's walks alone
set_option linter.unusedVariables false
set_option linter.unusedSimpArgs false

/-! ### spec_SharedOf: function 24 -/
def spec_SharedOf.l0 : Nat → List Int → List Int → Int → List (S58) → Int → Option (List Int)
 | 0,_,_,_,_,_ => none
 | k + 1,x3,x4,x5,x427000,x427001 => if x5 < (x4.length : Int) then (if 0 ≤ x5 then (if (rd x4 x5) > 1 then (if x5 < (x427000.length : Int) then (if ((rd_T58 x427000 x5).f0) = 0 then (spec_SharedOf.l0 k x3 x4 (wrap64 (x5 + 1)) x427000 x427001) else (if x3.length < 17592186044416 then (spec_SharedOf.l0 k (x3 ++ [x5]) x4 (wrap64 (x5 + 1)) x427000 x427001) else (none))) else (none)) else (spec_SharedOf.l0 k x3 x4 (wrap64 (x5 + 1)) x427000 x427001)) else (none)) else (some x3)
def spec_SharedOf.f (k : Nat) (l0_0 : List (S58)) (a0_1 : Int) : Option (List Int) := (spec_validGraph.f k l0_0 a0_1).bind fun t427 => (if t427 = true then ((spec_uses.f k l0_0 a0_1).bind fun t431 => (spec_SharedOf.l0 k (([] : List Int)) t431 0 l0_0 a0_1)) else (some ([] : List Int)))
set_option maxRecDepth 100000 in
theorem spec_SharedOf.mono_l : ∀ k,(∀ y0 y1 y2 y3 y4,LeO (spec_SharedOf.l0 k y0 y1 y2 y3 y4) (spec_SharedOf.l0 (k + 1) y0 y1 y2 y3 y4))
 | 0 => fun _ _ _ _ _ r h => (by cases h)
 | k + 1 => by
  have ih0 := spec_SharedOf.mono_l k
  ·intro y0 y1 y2 y3 y4
   unfold spec_SharedOf.l0
   repeat' first
   | (with_reducible exact ih0 _ _ _ _ _)
   | (with_reducible exact spec_uses.mono _ _ _)
   | (with_reducible exact spec_validGraph.mono _ _ _)
   | (with_reducible exact LeO.refl _)
   | (with_reducible exact LeO.none _)
   | (with_reducible refine LeO.ite ?_ ?_)
   | (with_reducible refine LeO.bind ?_ (fun _ => ?_))
   | exact ih0 _ _ _ _ _
   | exact spec_uses.mono _ _ _
   | exact spec_validGraph.mono _ _ _
   | exact LeO.none _
   | refine LeO.ite ?_ ?_
   | refine LeO.bind ?_ (fun _ => ?_)
set_option maxRecDepth 100000 in
theorem spec_SharedOf.mono : ∀ a0 a1 k,LeO (spec_SharedOf.f k a0 a1) (spec_SharedOf.f (k + 1) a0 a1) := by
 intro a0 a1 k
 have ih0 := spec_SharedOf.mono_l k
 unfold spec_SharedOf.f
 repeat' first
   | (with_reducible exact ih0 _ _ _ _ _)
   | (with_reducible exact spec_uses.mono _ _ _)
   | (with_reducible exact spec_validGraph.mono _ _ _)
   | (with_reducible exact LeO.refl _)
   | (with_reducible exact LeO.none _)
   | (with_reducible refine LeO.ite ?_ ?_)
   | (with_reducible refine LeO.bind ?_ (fun _ => ?_))
   | exact ih0 _ _ _ _ _
   | exact spec_uses.mono _ _ _
   | exact spec_validGraph.mono _ _ _
   | exact LeO.none _
   | refine LeO.ite ?_ ?_
   | refine LeO.bind ?_ (fun _ => ?_)
set_option maxHeartbeats 8000000 in
set_option maxRecDepth 100000 in
theorem spec_SharedOf.calls (k : Nat) (A0_0 : Option Addr) (c0_0 : Nat) (l0_0 : List (S58)) (a0_1 : Int) (r : List Int) (w : World) (hr0_0 : Kd.C k58 w A0_0 l0_0.length l0_0) (hc0_0 : l0_0.length ≤ c0_0) (h : spec_SharedOf.f k l0_0 a0_1 = some r) :
  Calls Try.prog 24 #[.agg #[.slice A0_0 l0_0.length c0_0,.int .i64 a0_1]] w fun e w' => ∃ v0_ : Value,e = .returned (v0_) ∧ Kd.R (Kd.int .i64) 3 w' w.heap.size (fun _ => True) v0_ r ∧ Below w.heap.size w w' := by
 have hu25 := Try.underlying25
 have HR0_0 := As_ hr0_0
 have HC0_0 := As_ hc0_0
 clear hr0_0 hc0_0
 have HB := As_ (Below.refl w.heap.size w)
 have H : ((spec_validGraph.f k l0_0 a0_1).bind fun t427 => (if t427 = true then ((spec_uses.f k l0_0 a0_1).bind fun t431 => (spec_SharedOf.l0 k (([] : List Int)) t431 0 l0_0 a0_1)) else (some ([] : List Int)))) = some r := h
 clear h
 replace H := obS H
 obtain ⟨t427,A20,H⟩ := H
 replace H : (if t427 = true then ((spec_uses.f k l0_0 a0_1).bind fun t431 => (spec_SharedOf.l0 k (([] : List Int)) t431 0 l0_0 a0_1)) else (some ([] : List Int))) = some r := H
 have A2 := As_ A20
 clear A20
 by_cases c3 : t427 = true
 ·subst c3
  have H1 : ((spec_uses.f k l0_0 a0_1).bind fun t431 => (spec_SharedOf.l0 k (([] : List Int)) t431 0 l0_0 a0_1)) = some r := by rw [if_pos rfl] at H;exact H
  clear H
  have H := H1
  clear H1
  obtain ⟨y428,hy428⟩ : ∃ y_ : List Int,y_ = (([] : List Int)) := ⟨_,rfl⟩
  replace H : ((spec_uses.f k l0_0 a0_1).bind fun t431 => (spec_SharedOf.l0 k y428 t431 0 l0_0 a0_1)) = some r := by first|(rw [hy428];with_reducible exact H)|(have H2_ := (Option.bind_some _ _).symm.trans H;rw [hy428];with_reducible exact H2_)|(have H2_ := (Option.bind_some _ _).symm.trans H;with_reducible exact H2_)|with_reducible exact H|(rw [hy428];exact H)|exact H
  have Ny428 := As_ hy428
  clear hy428
  replace H := obS H
  obtain ⟨t431,A40,H⟩ := H
  replace H : (spec_SharedOf.l0 k y428 t431 0 l0_0 a0_1) = some r := H
  have A4 := As_ A40
  clear A40
  have H' := As_ H
  clear H
  go_enter Try.func24,Try.ntmps24
  go_wp2_with (first|((with_reducible refine gate_dst (N := 1) rfl ?_);refine box_event ?hg (N := 1) ?hd (cs := #[.slice A0_0 l0_0.length c0_0,.int .i64 a0_1]) (t := 25) ?hr ?_;(case hd => rfl);(case hg => rfl);(case hr => go_simp <;> rfl);intro gb426 hg w5 hbox hb;have n0_ := As_ (bwT (by repeat (first|(with_reducible first|exact HB.out|apply bwA|apply bwN|apply bwD)|exact HB.out)) hb);have n1_ := As_ (hbox);have n2_ := As_ ((by rw [hg];exact (bwZ (by repeat (first|(with_reducible first|exact HB.out|apply bwA|apply bwN|apply bwD)|exact HB.out))) : w.heap.size ≤ gb426));have n3_ := As_ ((by rw [hg];exact (bwZ (by repeat (first|(with_reducible first|exact HB.out|apply bwA|apply bwN|apply bwD)|exact HB.out))) : w.heap.size ≤ gb426));clear HB;have HB := n0_;have BK426 := n1_;have GW426 := n2_;have GE426 := n3_;clear n0_ n1_ n2_ n3_;clear hb hbox hg;have hcz6_0 : w5.cell? ⟨gb426,0,none⟩ = some (.slice A0_0 l0_0.length c0_0) := (bkC BK426.out 0).trans rfl;have hcz6_1 : w5.cell? ⟨gb426,1,none⟩ = some (.int .i64 a0_1) := (bkC BK426.out 1).trans rfl;have hfz6_0 := bkF BK426.out 0;have hfz6_1 := bkF BK426.out 1)|((with_reducible refine gate_callee (f := 49) rfl ?_);refine goesL_ (some 7) rfl rfl Try.func49 (by kernel_rfl) rfl #[.agg #[.slice A0_0 l0_0.length c0_0,.int .i64 a0_1]] rfl (by (try simp only [List.map_toArray,List.map_cons,List.map_nil]);first|done|rfl|(simp only [List.length_drop,List.length_take];rfl)) ?_;(with_reducible refine (spec_validGraph.calls k _ _ l0_0 a0_1 true _ ?side1 ?side2 A2.out).mono ?_);(case side1 => repeat (first|exact (Kd.C_below HR0_0.out HB.out)|(with_reducible refine Kd.C_alloc ?_ _)|(with_reducible refine Kd.C_drewN ?_ _)|(with_reducible refine Kd.C_drew ?_)));(case side2 => exact HC0_0.out);rintro e w7 ⟨rfl,hb⟩;refine ⟨_,rfl,?_⟩;have n0_ := As_ (blk_below (g := gb426) (o := .cells #[.slice A0_0 l0_0.length c0_0,.int .i64 a0_1] 25 (0,0)) (by (with_reducible repeat (first|refine bkN ?_ _|refine bkD ?_|refine bkA ?_ _));exact BK426.out) hb);have n1_ := As_ (bwT (by repeat (first|(with_reducible first|exact HB.out|apply bwA|apply bwN|apply bwD|refine bwS ?_ GE426.out)|exact HB.out)) hb);clear BK426;clear HB;have BK426 := n0_;have HB := n1_;clear n0_ n1_;(try clear hb);(try clear hb2);(try clear hk);(try clear hi))|((with_reducible refine gate_dst (N := 9) rfl ?_);refine Kd.R_lit (Kd.int .i64) _ 3 ?hg (N := 9) ?hd (xs := ([] : List Int)) (inner := []) (ok := fun _ => True) (okp := fun _ => True) ?hr ?hp (fun _ hk => hk) trivial (Below.refl _ _) (Nat.le_refl _) (by simp) ?_;(case hd => rfl);(case hg => rfl);(case hr => go_simp <;> rfl);(case hp => exact (Reps.none _ _));intro v429 w8 ho9 hb hg_ hnew_;clear hg_ hnew_;(first|rw [← Ny428.out] at ho9|(simp only [Int.reduceToNat] at ho9;rw [← Ny428.out] at ho9));have n0_ := As_ (Kd.R_lower ho9 (bwZ (by repeat (first|(with_reducible first|exact HB.out|apply bwA|apply bwN|apply bwD|refine bwS ?_ GE426.out)|exact HB.out))));have n1_ := As_ (blk_below (g := gb426) (o := .cells #[.slice A0_0 l0_0.length c0_0,.int .i64 a0_1] 25 (0,0)) (by (with_reducible repeat (first|refine bkN ?_ _|refine bkD ?_|refine bkA ?_ _));exact BK426.out) hb);have n2_ := As_ (bwT (by repeat (first|(with_reducible first|exact HB.out|apply bwA|apply bwN|apply bwD|refine bwS ?_ GE426.out)|exact HB.out)) hb);clear BK426;clear HB;have HO430 := n0_;have BK426 := n1_;have HB := n2_;clear n0_ n1_ n2_;clear hb ho9;have hcz10_0 : w8.cell? ⟨gb426,0,none⟩ = some (.slice A0_0 l0_0.length c0_0) := (bkC BK426.out 0).trans rfl;have hcz10_1 : w8.cell? ⟨gb426,1,none⟩ = some (.int .i64 a0_1) := (bkC BK426.out 1).trans rfl;have hfz10_0 := bkF BK426.out 0;have hfz10_1 := bkF BK426.out 1)|((with_reducible refine gate_callee (f := 50) rfl ?_);refine goesL_ (some 11) rfl rfl Try.func50 (by kernel_rfl) rfl #[.agg #[.slice A0_0 l0_0.length c0_0,.int .i64 a0_1]] rfl (by (try simp only [List.map_toArray,List.map_cons,List.map_nil]);first|done|rfl|(simp only [List.length_drop,List.length_take];rfl)) ?_;(with_reducible refine (spec_uses.calls k _ _ l0_0 a0_1 t431 _ ?side1 ?side2 A4.out).mono ?_);(case side1 => repeat (first|exact (Kd.C_below HR0_0.out HB.out)|(with_reducible refine Kd.C_alloc ?_ _)|(with_reducible refine Kd.C_drewN ?_ _)|(with_reducible refine Kd.C_drew ?_)));(case side2 => exact HC0_0.out);rintro e w11 ⟨v432,rfl,ho0,hb⟩;refine ⟨_,rfl,?_⟩;have n0_ := As_ (Kd.R_elder' (by (with_reducible repeat (first|apply Kd.R_alloc|apply Kd.R_drewN|apply Kd.R_drew));exact HO430.out) (Kd.R_base ho0) hb);have n1_ := As_ (Kd.R_lower (Kd.R_new' ho0 (Kd.R_lt (by (with_reducible repeat (first|apply Kd.R_alloc|apply Kd.R_drewN|apply Kd.R_drew));exact HO430.out))) (bwZ (by repeat (first|(with_reducible first|exact HB.out|apply bwA|apply bwN|apply bwD|refine bwS ?_ GE426.out)|exact HB.out))));have n2_ := As_ (blk_below (g := gb426) (o := .cells #[.slice A0_0 l0_0.length c0_0,.int .i64 a0_1] 25 (0,0)) (by (with_reducible repeat (first|refine bkN ?_ _|refine bkD ?_|refine bkA ?_ _));exact BK426.out) hb);have n3_ := As_ (bwT (by repeat (first|(with_reducible first|exact HB.out|apply bwA|apply bwN|apply bwD|refine bwS ?_ GE426.out)|exact HB.out)) hb);clear HO430;clear BK426;clear HB;have HO430 := n0_;have HO433 := n1_;have BK426 := n2_;have HB := n3_;clear n0_ n1_ n2_ n3_;(try clear hb);(try clear hb2);(try clear hk);(try clear hi);(try clear ho0)))
  go_loopg [3,5] k (fun kq v3 v5 w' => ∃ (x3_1 : List Int) (x5_1 : Int),v5 = .int .i64 x5_1 ∧ Aside0 (spec_SharedOf.l0 kq x3_1 t431 x5_1 l0_0 a0_1 = some r) ∧ Aside0 (kq ≤ k) ∧ Aside0 (Kd.R (Kd.int .i64) 3 w' w.heap.size (fun k_ => some k_ ≠ (v432 : Value).ownBlock) v3 x3_1) ∧ Aside0 (Kd.R (Kd.int .i64) 3 w' w.heap.size (fun k_ => some k_ ≠ (v3 : Value).ownBlock) v432 t431) ∧ Aside0 (w'.heap[gb426]? = some (.cells #[(.slice A0_0 l0_0.length c0_0),.int .i64 a0_1] 25 (0,0))) ∧ Aside0 (Below w.heap.size w w'))
  case atStart => exact ⟨(y428),(0),(by first|rfl|(simp;done)|(simp [*];done)),H',⟨Nat.le_refl _⟩,⟨by (with_reducible repeat (first|apply Kd.R_alloc|apply Kd.R_drewN|apply Kd.R_drew));exact Kd.R_mono HO430.out (fun _ hk => hk.2)⟩,⟨by (with_reducible repeat (first|apply Kd.R_alloc|apply Kd.R_drewN|apply Kd.R_drew));exact Kd.R_mono HO433.out (fun _ hk => hk.2)⟩,⟨by (with_reducible repeat (first|refine bkN ?_ _|refine bkD ?_|refine bkA ?_ _));exact BK426.out⟩,⟨by repeat (first|(with_reducible first|exact HB.out|apply bwA|apply bwN|apply bwD|refine bwS ?_ GE426.out)|exact HB.out)⟩⟩
  case round =>
   clear H'
   try clear c2
   try clear p2
   try clear c3
   try clear c4
   try clear c5
   try clear hcz10_0
   try clear hcz10_1
   try clear hcz6_0
   try clear hcz6_1
   try clear hfz10_0
   try clear hfz10_1
   try clear hfz6_0
   try clear hfz6_1
   obtain ⟨x3_1,x5_1,rfl,HA,HK1,HO_3,HO_4,BK426,HB⟩ := hrel
   cases gk with
   | zero => exact absurd HA.out (fun h_ => (by cases h_))
   | succ k1 =>
    have H := HA.out
    clear HA
    simp only [spec_SharedOf.l0] at H
    by_cases c12 : x5_1 < (t431.length : Int)
    ·rw [if_pos c12] at H
     have c12b0 : decide (x5_1 < (t431.length : Int)) = true := deT c12
     clear c12
     by_cases c13 : 0 ≤ x5_1
     rotate_left
     ·rw [if_neg c13] at H
      exact absurd H (by simp)
     rw [if_pos c13] at H
     have c13b0 : decide (0 ≤ x5_1) = true := deT c13
     clear c13
     by_cases c14 : (rd t431 x5_1) > 1
     ·rw [if_pos c14] at H
      have c14b0 : decide (1 < (rd t431 x5_1)) = true := deT c14
      clear c14
      by_cases c15 : x5_1 < (l0_0.length : Int)
      rotate_left
      ·rw [if_neg c15] at H
       exact absurd H (by simp)
      rw [if_pos c15] at H
      have c15b0 : decide (x5_1 < (l0_0.length : Int)) = true := deT c15
      clear c15
      by_cases c16 : ((rd_T58 l0_0 x5_1).f0) = 0
      ·rw [if_pos c16] at H
       have c16b0 : (((rd_T58 l0_0 x5_1).f0) == 0) = true := beq_iff_eq.mpr c16
       have c16b1 : (((rd_T58 l0_0 x5_1).f0) != 0) = false := bne_eq_false_iff_eq.mpr c16
       clear c16
       have H' := As_ H
       clear H
       obtain ⟨Ao17,co17,eo17⟩ := Kd.R_slice HO_4.out
       subst eo17
       have p434 : 0 ≤ (x5_1 : Int) := odT (by first|(with_reducible assumption)|assumption)
       have q434 : x5_1 < (t431.length : Int) := odT (by first|(with_reducible assumption)|assumption)
       obtain ⟨ad434,e434,hx434_0⟩ := Kd.at_int (Kd.R_reads' HO_4.out).2.2 x5_1 p434 q434
       cases e434
       replace p434 := eq_true p434
       replace q434 := eq_true q434
       have hcz18_0 : wr.cell? ⟨gb426,0,none⟩ = some (.slice A0_0 l0_0.length c0_0) := (bkC BK426.out 0).trans rfl
       have hcz18_1 : wr.cell? ⟨gb426,1,none⟩ = some (.int .i64 a0_1) := (bkC BK426.out 1).trans rfl
       have hfz18_0 := bkF BK426.out 0
       have hfz18_1 := bkF BK426.out 1
       have p435 : 0 ≤ (x5_1 : Int) := odT (by first|(with_reducible assumption)|assumption)
       have q435 : x5_1 < (l0_0.length : Int) := odT (by first|(with_reducible assumption)|assumption)
       obtain ⟨ad435,A435_2,c435_2,e435,hx435_0,hx435_1,hx435_2,hl435_2,hi435_2⟩ := at_T58 HR0_0.out x5_1 p435 q435
       cases e435
       replace hx435_0 := (HB.out.cell (bwL w _ hx435_0)).trans hx435_0
       replace hx435_1 := (HB.out.cell (bwL w _ hx435_1)).trans hx435_1
       replace hx435_2 := (HB.out.cell (bwL w _ hx435_2)).trans hx435_2
       have HR435_2 := As_ hi435_2
       have HC435_2 := As_ hl435_2
       clear hi435_2 hl435_2
       replace p435 := eq_true p435
       replace q435 := eq_true q435
       go_wp2
       go_roundg k1
       case measure => have := HK1.out;omega
       case rel => exact ⟨(x3_1),(wrap64 (x5_1 + 1)),(by first|rfl|(simp;done)|(simp [*];done)),H',⟨by have := HK1.out;omega⟩,⟨by (with_reducible repeat (first|apply Kd.R_alloc|apply Kd.R_drewN|apply Kd.R_drew));exact HO_3.out⟩,⟨by (with_reducible repeat (first|apply Kd.R_alloc|apply Kd.R_drewN|apply Kd.R_drew));exact HO_4.out⟩,⟨by (with_reducible repeat (first|refine bkN ?_ _|refine bkD ?_|refine bkA ?_ _));exact BK426.out⟩,⟨by repeat (first|(with_reducible first|exact HB.out|apply bwA|apply bwN|apply bwD|refine bwS ?_ GE426.out)|exact HB.out)⟩⟩
      ·rw [if_neg c16] at H
       have c16b0 : (((rd_T58 l0_0 x5_1).f0) == 0) = false := beq_eq_false_iff_ne.mpr c16
       have c16b1 : (((rd_T58 l0_0 x5_1).f0) != 0) = true := bne_iff_ne.mpr c16
       by_cases c19 : x3_1.length < 17592186044416
       rotate_left
       ·rw [if_neg c19] at H
        exact absurd H (by simp)
       rw [if_pos c19] at H
       have LMc19 := As_ c19
       clear c19
       obtain ⟨y436,hy436⟩ : ∃ y_ : List Int,y_ = (x3_1 ++ [x5_1]) := ⟨_,rfl⟩
       replace H : (spec_SharedOf.l0 k1 y436 t431 (wrap64 (x5_1 + 1)) l0_0 a0_1) = some r := by first|(rw [hy436];with_reducible exact H)|(have H2_ := (Option.bind_some _ _).symm.trans H;rw [hy436];with_reducible exact H2_)|(have H2_ := (Option.bind_some _ _).symm.trans H;with_reducible exact H2_)|with_reducible exact H|(rw [hy436];exact H)|exact H
       have Ny436 := As_ hy436
       clear hy436
       have H' := As_ H
       clear H
       obtain ⟨Ao20,co20,eo20⟩ := Kd.R_slice HO_4.out
       subst eo20
       have p434 : 0 ≤ (x5_1 : Int) := odT (by first|(with_reducible assumption)|assumption)
       have q434 : x5_1 < (t431.length : Int) := odT (by first|(with_reducible assumption)|assumption)
       obtain ⟨ad434,e434,hx434_0⟩ := Kd.at_int (Kd.R_reads' HO_4.out).2.2 x5_1 p434 q434
       cases e434
       replace p434 := eq_true p434
       replace q434 := eq_true q434
       have hcz21_0 : wr.cell? ⟨gb426,0,none⟩ = some (.slice A0_0 l0_0.length c0_0) := (bkC BK426.out 0).trans rfl
       have hcz21_1 : wr.cell? ⟨gb426,1,none⟩ = some (.int .i64 a0_1) := (bkC BK426.out 1).trans rfl
       have hfz21_0 := bkF BK426.out 0
       have hfz21_1 := bkF BK426.out 1
       have p435 : 0 ≤ (x5_1 : Int) := odT (by first|(with_reducible assumption)|assumption)
       have q435 : x5_1 < (l0_0.length : Int) := odT (by first|(with_reducible assumption)|assumption)
       obtain ⟨ad435,A435_2,c435_2,e435,hx435_0,hx435_1,hx435_2,hl435_2,hi435_2⟩ := at_T58 HR0_0.out x5_1 p435 q435
       cases e435
       replace hx435_0 := (HB.out.cell (bwL w _ hx435_0)).trans hx435_0
       replace hx435_1 := (HB.out.cell (bwL w _ hx435_1)).trans hx435_1
       replace hx435_2 := (HB.out.cell (bwL w _ hx435_2)).trans hx435_2
       have HR435_2 := As_ hi435_2
       have HC435_2 := As_ hl435_2
       clear hi435_2 hl435_2
       replace p435 := eq_true p435
       replace q435 := eq_true q435
       go_wp2_with (first|((with_reducible refine gate_builtin (b := .append) (xs := #[.tmp 32,.tmp 34]) rfl ?_);at_builtin;refine Kd.R_append (Kd.int .i64) (w0 := w) w.heap.size rfl (.tmp 32) (.tmp 34) 26 3 (.int .i64 0) 8 rfl Try.underlying26 info3 rfl (by decide) (by omega) u3 x3_1 x5_1 [.int .i64 x5_1] (fun k_ => some k_ ≠ (.slice (some ad434) t431.length co20 : Value).ownBlock) (fun _ => False) rfl rfl ?aP (fun _ hk => hk.elim) ?aF ?aO ?aB ?aS ?aL ?_;(case aP => exact rfl);(case aB => exact (by repeat (first|(with_reducible first|exact HB.out|apply bwA|apply bwN|apply bwD|refine bwS ?_ GE426.out)|exact HB.out)));(case aF => exact (fun k_ hk => Kd.fresh' (Kd.R_lt (by (with_reducible repeat (first|apply Kd.R_alloc|apply Kd.R_drewN|apply Kd.R_drew));exact HO_4.out)) k_ hk));(case aO => exact (by (with_reducible repeat (first|apply Kd.R_alloc|apply Kd.R_drewN|apply Kd.R_drew));exact HO_3.out));(case aS => exact (bwZ (by repeat (first|(with_reducible first|exact HB.out|apply bwA|apply bwN|apply bwD|refine bwS ?_ GE426.out)|exact HB.out))));(case aL => have := LMc19.out;omega);intro v437 w22 ho hb hg hat;rw [← Ny436.out] at ho;have n0_ := As_ (Kd.R_after (ok := (fun _ => True)) (by (with_reducible repeat (first|apply Kd.R_alloc|apply Kd.R_drewN|apply Kd.R_drew));exact Kd.R_mono HO_4.out (fun _ hk => ⟨trivial,hk⟩)) hg hat);have n1_ := As_ (blk_grown (g := gb426) (o := .cells #[.slice (some ad435) l0_0.length c0_0,.int .i64 a0_1] 25 (0,0)) (by (with_reducible repeat (first|refine bkN ?_ _|refine bkD ?_|refine bkA ?_ _));exact BK426.out) hg (Kd.R_ne HO_3.out BK426.out (by decide)));have n2_ := As_ (hb);have n3_ := As_ (ho);clear HO_4;clear BK426;clear HB;clear HO_3;have HO_4 := n0_;have BK426 := n1_;have HB := n2_;have HO438 := n3_;clear n0_ n1_ n2_ n3_;clear ho hb hg hat))
       go_roundg k1
       case measure => have := HK1.out;omega
       case rel => exact ⟨(y436),(wrap64 (x5_1 + 1)),(by first|rfl|(simp;done)|(simp [*];done)),H',⟨by have := HK1.out;omega⟩,⟨by (with_reducible repeat (first|apply Kd.R_alloc|apply Kd.R_drewN|apply Kd.R_drew));exact HO438.out⟩,⟨by (with_reducible repeat (first|apply Kd.R_alloc|apply Kd.R_drewN|apply Kd.R_drew));exact Kd.R_mono HO_4.out (fun _ hk => hk.2)⟩,⟨by (with_reducible repeat (first|refine bkN ?_ _|refine bkD ?_|refine bkA ?_ _));exact BK426.out⟩,⟨by repeat (first|(with_reducible first|exact HB.out|apply bwA|apply bwN|apply bwD|refine bwS ?_ GE426.out)|exact HB.out)⟩⟩
     ·rw [if_neg c14] at H
      have c14b0 : decide (1 < (rd t431 x5_1)) = false := deF c14
      clear c14
      have H' := As_ H
      clear H
      obtain ⟨Ao23,co23,eo23⟩ := Kd.R_slice HO_4.out
      subst eo23
      have p434 : 0 ≤ (x5_1 : Int) := odT (by first|(with_reducible assumption)|assumption)
      have q434 : x5_1 < (t431.length : Int) := odT (by first|(with_reducible assumption)|assumption)
      obtain ⟨ad434,e434,hx434_0⟩ := Kd.at_int (Kd.R_reads' HO_4.out).2.2 x5_1 p434 q434
      cases e434
      replace p434 := eq_true p434
      replace q434 := eq_true q434
      go_wp2
      go_roundg k1
      case measure => have := HK1.out;omega
      case rel => exact ⟨(x3_1),(wrap64 (x5_1 + 1)),(by first|rfl|(simp;done)|(simp [*];done)),H',⟨by have := HK1.out;omega⟩,⟨by (with_reducible repeat (first|apply Kd.R_alloc|apply Kd.R_drewN|apply Kd.R_drew));exact HO_3.out⟩,⟨by (with_reducible repeat (first|apply Kd.R_alloc|apply Kd.R_drewN|apply Kd.R_drew));exact HO_4.out⟩,⟨by (with_reducible repeat (first|refine bkN ?_ _|refine bkD ?_|refine bkA ?_ _));exact BK426.out⟩,⟨by repeat (first|(with_reducible first|exact HB.out|apply bwA|apply bwN|apply bwD|refine bwS ?_ GE426.out)|exact HB.out)⟩⟩
    ·rw [if_neg c12] at H
     have c12b0 : decide (x5_1 < (t431.length : Int)) = false := deF c12
     clear c12
     obtain rfl := Option.some.inj H
     obtain ⟨Ao24,co24,eo24⟩ := Kd.R_slice HO_4.out
     subst eo24
     go_wp2
     go_ret
     exact ⟨_,by first|rfl|(simp [errW_none,errW_some] <;> rfl)|(simp [*,errW_none,errW_some] <;> rfl),by (with_reducible repeat (first|apply Kd.R_alloc|apply Kd.R_drewN|apply Kd.R_drew));exact Kd.R_mono HO_3.out (fun _ hk => trivial),by repeat (first|(with_reducible first|exact HB.out|apply bwA|apply bwN|apply bwD|refine bwS ?_ GE426.out)|exact HB.out)⟩
 ·replace c3 := Bool.eq_false_iff.mpr c3
  subst c3
  have H1 : (some ([] : List Int)) = some r := by rw [if_neg (show ¬ (false = true) by decide)] at H;exact H
  clear H
  have H := H1
  clear H1
  obtain rfl := Option.some.inj H
  go_enter Try.func24,Try.ntmps24
  go_wp2_with (first|((with_reducible refine gate_dst (N := 1) rfl ?_);refine box_event ?hg (N := 1) ?hd (cs := #[.slice A0_0 l0_0.length c0_0,.int .i64 a0_1]) (t := 25) ?hr ?_;(case hd => rfl);(case hg => rfl);(case hr => go_simp <;> rfl);intro gb426 hg w25 hbox hb;have n0_ := As_ (bwT (by repeat (first|(with_reducible first|exact HB.out|apply bwA|apply bwN|apply bwD)|exact HB.out)) hb);have n1_ := As_ (hbox);have n2_ := As_ ((by rw [hg];exact (bwZ (by repeat (first|(with_reducible first|exact HB.out|apply bwA|apply bwN|apply bwD)|exact HB.out))) : w.heap.size ≤ gb426));have n3_ := As_ ((by rw [hg];exact (bwZ (by repeat (first|(with_reducible first|exact HB.out|apply bwA|apply bwN|apply bwD)|exact HB.out))) : w.heap.size ≤ gb426));clear HB;have HB := n0_;have BK426 := n1_;have GW426 := n2_;have GE426 := n3_;clear n0_ n1_ n2_ n3_;clear hb hbox hg;have hcz26_0 : w25.cell? ⟨gb426,0,none⟩ = some (.slice A0_0 l0_0.length c0_0) := (bkC BK426.out 0).trans rfl;have hcz26_1 : w25.cell? ⟨gb426,1,none⟩ = some (.int .i64 a0_1) := (bkC BK426.out 1).trans rfl;have hfz26_0 := bkF BK426.out 0;have hfz26_1 := bkF BK426.out 1)|((with_reducible refine gate_callee (f := 49) rfl ?_);refine goesL_ (some 7) rfl rfl Try.func49 (by kernel_rfl) rfl #[.agg #[.slice A0_0 l0_0.length c0_0,.int .i64 a0_1]] rfl (by (try simp only [List.map_toArray,List.map_cons,List.map_nil]);first|done|rfl|(simp only [List.length_drop,List.length_take];rfl)) ?_;(with_reducible refine (spec_validGraph.calls k _ _ l0_0 a0_1 false _ ?side1 ?side2 A2.out).mono ?_);(case side1 => repeat (first|exact (Kd.C_below HR0_0.out HB.out)|(with_reducible refine Kd.C_alloc ?_ _)|(with_reducible refine Kd.C_drewN ?_ _)|(with_reducible refine Kd.C_drew ?_)));(case side2 => exact HC0_0.out);rintro e w27 ⟨rfl,hb⟩;refine ⟨_,rfl,?_⟩;have n0_ := As_ (blk_below (g := gb426) (o := .cells #[.slice A0_0 l0_0.length c0_0,.int .i64 a0_1] 25 (0,0)) (by (with_reducible repeat (first|refine bkN ?_ _|refine bkD ?_|refine bkA ?_ _));exact BK426.out) hb);have n1_ := As_ (bwT (by repeat (first|(with_reducible first|exact HB.out|apply bwA|apply bwN|apply bwD|refine bwS ?_ GE426.out)|exact HB.out)) hb);clear BK426;clear HB;have BK426 := n0_;have HB := n1_;clear n0_ n1_;(try clear hb);(try clear hb2);(try clear hk);(try clear hi)))
  go_ret
  exact ⟨_,by first|rfl|(simp [errW_none,errW_some] <;> rfl)|(simp [*,errW_none,errW_some] <;> rfl),by first|exact Kd.R_nil _ _ _ _ _|exact Kd.N_nil _ _ _ _ _|exact Kd.V_nil _ _ _ _ _|exact Kd.Q_nil _ _ _ _ _|exact Kd.S_nil _ _ _ _ _,by repeat (first|(with_reducible first|exact HB.out|apply bwA|apply bwN|apply bwD|refine bwS ?_ GE426.out)|exact HB.out)⟩

end Go.Proofs.Ytapaegcombfafaa.Q
