-- Written by wip/tools/qprint.py (a program of this claim's author) by means of the kit's printer.
import Derived.Test.YtapaegcombfafaaQ0
import Derived.Test.YtapaegcombfafaaQ37
import Derived.Test.YtapaegcombfafaaQ51
namespace Go.Proofs.Ytapaegcombfafaa.Q
open Go.RowKit Go.Proofs.YtapaegcombfafaaW.PrintWords Go.Proofs.YtapaegcombfafaaW.PrintLast Go.Proofs.YtapaegcombfafaaW.PrintMore
attribute [local go_sem] max2_int min2_int max_two min_two max_three min_three max_four min_four   -- for this text's walks alone
set_option linter.unusedVariables false
set_option linter.unusedSimpArgs false

/-! ### impl_SharedOf: function 25 -/
mutual
def impl_SharedOf.l0 : Nat → List Int → List Int → Int → Int → List (S58) → Int → Option (List Int)
 | 0,_,_,_,_,_,_ => none
 | k + 1,x3,x26,x27,x28,x440000,x440001 => if x28 < x27 then (if 0 ≤ x28 then (if x28 < (x26.length : Int) then (if 0 ≤ (rd x26 x28) then (if (rd x26 x28) < (x440000.length : Int) then (impl_SharedOf.l1 k x3 x26 x27 x28 ((rd_T58 x440000 (rd x26 x28)).f2) (((rd_T58 x440000 (rd x26 x28)).f2).length : Int) 0 x440000 x440001) else (none)) else (none)) else (none)) else (none)) else (impl_SharedOf.l2 k (([] : List Int)) x3 (x3.length : Int) 0 x440000 x440001)
def impl_SharedOf.l1 : Nat → List Int → List Int → Int → Int → List Int → Int → Int → List (S58) → Int → Option (List Int)
 | 0,_,_,_,_,_,_,_,_,_ => none
 | k + 1,x3,x26,x27,x28,x37,x38,x39,x440000,x440001 => if x39 < x38 then (if 0 ≤ x39 then (if x39 < (x37.length : Int) then (if 0 ≤ (rd x37 x39) then (if (rd x37 x39) < (x3.length : Int) then (impl_SharedOf.l1 k (x3.set ((rd x37 x39) : Int).toNat (wrap64 ((rd x3 (rd x37 x39)) + 1))) x26 x27 x28 x37 x38 (wrap64 (x39 + 1)) x440000 x440001) else (none)) else (none)) else (none)) else (none)) else (impl_SharedOf.l0 k x3 x26 x27 (wrap64 (x28 + 1)) x440000 x440001)
def impl_SharedOf.l2 : Nat → List Int → List Int → Int → Int → List (S58) → Int → Option (List Int)
 | 0,_,_,_,_,_,_ => none
 | k + 1,x8,x52,x53,x54,x440000,x440001 => if x54 < x53 then (if 0 ≤ x54 then (if x54 < (x52.length : Int) then (if (rd x52 x54) > 1 then (if x54 < (x440000.length : Int) then (if ((rd_T58 x440000 x54).f0) = 0 then (impl_SharedOf.l2 k x8 x52 x53 (wrap64 (x54 + 1)) x440000 x440001) else (if x8.length < 17592186044416 then (impl_SharedOf.l2 k (x8 ++ [x54]) x52 x53 (wrap64 (x54 + 1)) x440000 x440001) else (none))) else (none)) else (impl_SharedOf.l2 k x8 x52 x53 (wrap64 (x54 + 1)) x440000 x440001)) else (none)) else (none)) else (some x8)
end
def impl_SharedOf.f (k : Nat) (l0_0 : List (S58)) (a0_1 : Int) : Option (List Int) := (impl_ValidGraph.f k l0_0 a0_1).bind fun t440 => (if t440 = true then (if 0 ≤ (l0_0.length : Int) then (if ((l0_0.length : Int) : Int).toNat ≤ 35184372088832 then ((some (List.replicate ((l0_0.length : Int) : Int).toNat 0 : List Int)).bind fun y441 => (if 0 ≤ a0_1 then (if a0_1 < (y441.length : Int) then ((impl_reachOf.f k l0_0 a0_1).bind fun t446 => (impl_SharedOf.l0 k (y441.set (a0_1 : Int).toNat (wrap64 ((rd y441 a0_1) + 1))) t446 (t446.length : Int) 0 l0_0 a0_1)) else (none)) else (none))) else (none)) else (none)) else (some ([] : List Int)))
set_option maxRecDepth 100000 in
theorem impl_SharedOf.mono_l : ∀ k,(∀ y0 y1 y2 y3 y4 y5,LeO (impl_SharedOf.l0 k y0 y1 y2 y3 y4 y5) (impl_SharedOf.l0 (k + 1) y0 y1 y2 y3 y4 y5)) ∧ (∀ y0 y1 y2 y3 y4 y5 y6 y7 y8,LeO (impl_SharedOf.l1 k y0 y1 y2 y3 y4 y5 y6 y7 y8) (impl_SharedOf.l1 (k + 1) y0 y1 y2 y3 y4 y5 y6 y7 y8)) ∧ (∀ y0 y1 y2 y3 y4 y5,LeO (impl_SharedOf.l2 k y0 y1 y2 y3 y4 y5) (impl_SharedOf.l2 (k + 1) y0 y1 y2 y3 y4 y5))
 | 0 => ⟨fun _ _ _ _ _ _ r h => (by cases h),fun _ _ _ _ _ _ _ _ _ r h => (by cases h),fun _ _ _ _ _ _ r h => (by cases h)⟩
 | k + 1 => by
  obtain ⟨ih0,ih1,ih2⟩ := impl_SharedOf.mono_l k
  refine ⟨?_,?_,?_⟩
  ·intro y0 y1 y2 y3 y4 y5
   unfold impl_SharedOf.l0
   repeat' first
   | (with_reducible exact ih0 _ _ _ _ _ _)
   | (with_reducible exact ih1 _ _ _ _ _ _ _ _ _)
   | (with_reducible exact ih2 _ _ _ _ _ _)
   | (with_reducible exact impl_ValidGraph.mono _ _ _)
   | (with_reducible exact impl_reachOf.mono _ _ _)
   | (with_reducible exact LeO.refl _)
   | (with_reducible exact LeO.none _)
   | (with_reducible refine LeO.ite ?_ ?_)
   | (with_reducible refine LeO.bind ?_ (fun _ => ?_))
   | exact ih0 _ _ _ _ _ _
   | exact ih1 _ _ _ _ _ _ _ _ _
   | exact ih2 _ _ _ _ _ _
   | exact impl_ValidGraph.mono _ _ _
   | exact impl_reachOf.mono _ _ _
   | exact LeO.none _
   | refine LeO.ite ?_ ?_
   | refine LeO.bind ?_ (fun _ => ?_)
  ·intro y0 y1 y2 y3 y4 y5 y6 y7 y8
   unfold impl_SharedOf.l1
   repeat' first
   | (with_reducible exact ih0 _ _ _ _ _ _)
   | (with_reducible exact ih1 _ _ _ _ _ _ _ _ _)
   | (with_reducible exact ih2 _ _ _ _ _ _)
   | (with_reducible exact impl_ValidGraph.mono _ _ _)
   | (with_reducible exact impl_reachOf.mono _ _ _)
   | (with_reducible exact LeO.refl _)
   | (with_reducible exact LeO.none _)
   | (with_reducible refine LeO.ite ?_ ?_)
   | (with_reducible refine LeO.bind ?_ (fun _ => ?_))
   | exact ih0 _ _ _ _ _ _
   | exact ih1 _ _ _ _ _ _ _ _ _
   | exact ih2 _ _ _ _ _ _
   | exact impl_ValidGraph.mono _ _ _
   | exact impl_reachOf.mono _ _ _
   | exact LeO.none _
   | refine LeO.ite ?_ ?_
   | refine LeO.bind ?_ (fun _ => ?_)
  ·intro y0 y1 y2 y3 y4 y5
   unfold impl_SharedOf.l2
   repeat' first
   | (with_reducible exact ih0 _ _ _ _ _ _)
   | (with_reducible exact ih1 _ _ _ _ _ _ _ _ _)
   | (with_reducible exact ih2 _ _ _ _ _ _)
   | (with_reducible exact impl_ValidGraph.mono _ _ _)
   | (with_reducible exact impl_reachOf.mono _ _ _)
   | (with_reducible exact LeO.refl _)
   | (with_reducible exact LeO.none _)
   | (with_reducible refine LeO.ite ?_ ?_)
   | (with_reducible refine LeO.bind ?_ (fun _ => ?_))
   | exact ih0 _ _ _ _ _ _
   | exact ih1 _ _ _ _ _ _ _ _ _
   | exact ih2 _ _ _ _ _ _
   | exact impl_ValidGraph.mono _ _ _
   | exact impl_reachOf.mono _ _ _
   | exact LeO.none _
   | refine LeO.ite ?_ ?_
   | refine LeO.bind ?_ (fun _ => ?_)
set_option maxRecDepth 100000 in
theorem impl_SharedOf.mono : ∀ a0 a1 k,LeO (impl_SharedOf.f k a0 a1) (impl_SharedOf.f (k + 1) a0 a1) := by
 intro a0 a1 k
 obtain ⟨ih0,ih1,ih2⟩ := impl_SharedOf.mono_l k
 unfold impl_SharedOf.f
 repeat' first
   | (with_reducible exact ih0 _ _ _ _ _ _)
   | (with_reducible exact ih1 _ _ _ _ _ _ _ _ _)
   | (with_reducible exact ih2 _ _ _ _ _ _)
   | (with_reducible exact impl_ValidGraph.mono _ _ _)
   | (with_reducible exact impl_reachOf.mono _ _ _)
   | (with_reducible exact LeO.refl _)
   | (with_reducible exact LeO.none _)
   | (with_reducible refine LeO.ite ?_ ?_)
   | (with_reducible refine LeO.bind ?_ (fun _ => ?_))
   | exact ih0 _ _ _ _ _ _
   | exact ih1 _ _ _ _ _ _ _ _ _
   | exact ih2 _ _ _ _ _ _
   | exact impl_ValidGraph.mono _ _ _
   | exact impl_reachOf.mono _ _ _
   | exact LeO.none _
   | refine LeO.ite ?_ ?_
   | refine LeO.bind ?_ (fun _ => ?_)
set_option maxHeartbeats 8000000 in
set_option maxRecDepth 100000 in
theorem impl_SharedOf.calls (k : Nat) (A0_0 : Option Addr) (c0_0 : Nat) (l0_0 : List (S58)) (a0_1 : Int) (r : List Int) (w : World) (hr0_0 : Kd.C k58 w A0_0 l0_0.length l0_0) (hc0_0 : l0_0.length ≤ c0_0) (h : impl_SharedOf.f k l0_0 a0_1 = some r) :
  Calls Try.prog 25 #[.agg #[.slice A0_0 l0_0.length c0_0,.int .i64 a0_1]] w fun e w' => ∃ v0_ : Value,e = .returned (v0_) ∧ Kd.R (Kd.int .i64) 3 w' w.heap.size (fun _ => True) v0_ r ∧ Below w.heap.size w w' := by
 have hu25 := Try.underlying25
 have HR0_0 := As_ hr0_0
 have HC0_0 := As_ hc0_0
 clear hr0_0 hc0_0
 have HB := As_ (Below.refl w.heap.size w)
 have H : ((impl_ValidGraph.f k l0_0 a0_1).bind fun t440 => (if t440 = true then (if 0 ≤ (l0_0.length : Int) then (if ((l0_0.length : Int) : Int).toNat ≤ 35184372088832 then ((some (List.replicate ((l0_0.length : Int) : Int).toNat 0 : List Int)).bind fun y441 => (if 0 ≤ a0_1 then (if a0_1 < (y441.length : Int) then ((impl_reachOf.f k l0_0 a0_1).bind fun t446 => (impl_SharedOf.l0 k (y441.set (a0_1 : Int).toNat (wrap64 ((rd y441 a0_1) + 1))) t446 (t446.length : Int) 0 l0_0 a0_1)) else (none)) else (none))) else (none)) else (none)) else (some ([] : List Int)))) = some r := h
 clear h
 replace H := obS H
 obtain ⟨t440,A20,H⟩ := H
 replace H : (if t440 = true then (if 0 ≤ (l0_0.length : Int) then (if ((l0_0.length : Int) : Int).toNat ≤ 35184372088832 then ((some (List.replicate ((l0_0.length : Int) : Int).toNat 0 : List Int)).bind fun y441 => (if 0 ≤ a0_1 then (if a0_1 < (y441.length : Int) then ((impl_reachOf.f k l0_0 a0_1).bind fun t446 => (impl_SharedOf.l0 k (y441.set (a0_1 : Int).toNat (wrap64 ((rd y441 a0_1) + 1))) t446 (t446.length : Int) 0 l0_0 a0_1)) else (none)) else (none))) else (none)) else (none)) else (some ([] : List Int))) = some r := H
 have A2 := As_ A20
 clear A20
 by_cases c3 : t440 = true
 ·subst c3
  have H1 : (if 0 ≤ (l0_0.length : Int) then (if ((l0_0.length : Int) : Int).toNat ≤ 35184372088832 then ((some (List.replicate ((l0_0.length : Int) : Int).toNat 0 : List Int)).bind fun y441 => (if 0 ≤ a0_1 then (if a0_1 < (y441.length : Int) then ((impl_reachOf.f k l0_0 a0_1).bind fun t446 => (impl_SharedOf.l0 k (y441.set (a0_1 : Int).toNat (wrap64 ((rd y441 a0_1) + 1))) t446 (t446.length : Int) 0 l0_0 a0_1)) else (none)) else (none))) else (none)) else (none)) = some r := by rw [if_pos rfl] at H;exact H
  clear H
  have H := H1
  clear H1
  by_cases c4 : 0 ≤ (l0_0.length : Int)
  rotate_left
  ·rw [if_neg c4] at H
   exact absurd H (by simp)
  rw [if_pos c4] at H
  have c4b0 := eq_true c4
  have c4b1 : decide (0 ≤ (l0_0.length : Int)) = true := deT c4
  clear c4
  by_cases c5 : ((l0_0.length : Int) : Int).toNat ≤ 35184372088832
  rotate_left
  ·rw [if_neg c5] at H
   exact absurd H (by simp)
  rw [if_pos c5] at H
  have c5b0 := eq_true c5
  have c5b1 : decide (((l0_0.length : Int) : Int).toNat ≤ 35184372088832) = true := deT c5
  clear c5
  obtain ⟨y441,hy441⟩ : ∃ y_ : List Int,y_ = (List.replicate ((l0_0.length : Int) : Int).toNat 0) := ⟨_,rfl⟩
  replace H : (if 0 ≤ a0_1 then (if a0_1 < (y441.length : Int) then ((impl_reachOf.f k l0_0 a0_1).bind fun t446 => (impl_SharedOf.l0 k (y441.set (a0_1 : Int).toNat (wrap64 ((rd y441 a0_1) + 1))) t446 (t446.length : Int) 0 l0_0 a0_1)) else (none)) else (none)) = some r := by first|(rw [hy441];with_reducible exact H)|(have H2_ := (Option.bind_some _ _).symm.trans H;rw [hy441];with_reducible exact H2_)|(have H2_ := (Option.bind_some _ _).symm.trans H;with_reducible exact H2_)|with_reducible exact H|(rw [hy441];exact H)|exact H
  have Ny441 := As_ hy441
  clear hy441
  by_cases c6 : 0 ≤ a0_1
  rotate_left
  ·rw [if_neg c6] at H
   exact absurd H (by simp)
  rw [if_pos c6] at H
  have c6b0 : decide (0 ≤ a0_1) = true := deT c6
  clear c6
  by_cases c7 : a0_1 < (y441.length : Int)
  rotate_left
  ·rw [if_neg c7] at H
   exact absurd H (by simp)
  rw [if_pos c7] at H
  have c7b0 : decide (a0_1 < (y441.length : Int)) = true := deT c7
  clear c7
  obtain ⟨y445,hy445⟩ : ∃ y_ : List Int,y_ = (y441.set (a0_1 : Int).toNat (wrap64 ((rd y441 a0_1) + 1))) := ⟨_,rfl⟩
  replace H : ((impl_reachOf.f k l0_0 a0_1).bind fun t446 => (impl_SharedOf.l0 k y445 t446 (t446.length : Int) 0 l0_0 a0_1)) = some r := by first|(rw [hy445];with_reducible exact H)|(have H2_ := (Option.bind_some _ _).symm.trans H;rw [hy445];with_reducible exact H2_)|(have H2_ := (Option.bind_some _ _).symm.trans H;with_reducible exact H2_)|with_reducible exact H|(rw [hy445];exact H)|exact H
  have Ny445 := As_ hy445
  clear hy445
  replace H := obS H
  obtain ⟨t446,A90,H⟩ := H
  replace H : (impl_SharedOf.l0 k y445 t446 (t446.length : Int) 0 l0_0 a0_1) = some r := H
  have A9 := As_ A90
  clear A90
  have H' := As_ H
  clear H
  go_enter Try.func25,Try.ntmps25
  go_wp2_with (first|((with_reducible refine gate_dst (N := 1) rfl ?_);refine box_event ?hg (N := 1) ?hd (cs := #[.slice A0_0 l0_0.length c0_0,.int .i64 a0_1]) (t := 25) ?hr ?_;(case hd => rfl);(case hg => rfl);(case hr => go_simp <;> rfl);intro gb439 hg w10 hbox hb;have n0_ := As_ (bwT (by repeat (first|(with_reducible first|exact HB.out|apply bwA|apply bwN|apply bwD)|exact HB.out)) hb);have n1_ := As_ (hbox);have n2_ := As_ ((by rw [hg];exact (bwZ (by repeat (first|(with_reducible first|exact HB.out|apply bwA|apply bwN|apply bwD)|exact HB.out))) : w.heap.size ≤ gb439));have n3_ := As_ ((by rw [hg];exact (bwZ (by repeat (first|(with_reducible first|exact HB.out|apply bwA|apply bwN|apply bwD)|exact HB.out))) : w.heap.size ≤ gb439));clear HB;have HB := n0_;have BK439 := n1_;have GW439 := n2_;have GE439 := n3_;clear n0_ n1_ n2_ n3_;clear hb hbox hg;have hcz11_0 : w10.cell? ⟨gb439,0,none⟩ = some (.slice A0_0 l0_0.length c0_0) := (bkC BK439.out 0).trans rfl;have hcz11_1 : w10.cell? ⟨gb439,1,none⟩ = some (.int .i64 a0_1) := (bkC BK439.out 1).trans rfl;have hfz11_0 := bkF BK439.out 0;have hfz11_1 := bkF BK439.out 1)|((with_reducible refine gate_callee (f := 37) rfl ?_);refine goesL_ (some 12) rfl rfl Try.func37 (by kernel_rfl) rfl #[.agg #[.slice A0_0 l0_0.length c0_0,.int .i64 a0_1]] rfl (by (try simp only [List.map_toArray,List.map_cons,List.map_nil]);first|done|rfl|(simp only [List.length_drop,List.length_take];rfl)) ?_;(with_reducible refine (impl_ValidGraph.calls k _ _ l0_0 a0_1 true _ ?side1 ?side2 A2.out).mono ?_);(case side1 => repeat (first|exact (Kd.C_below HR0_0.out HB.out)|(with_reducible refine Kd.C_alloc ?_ _)|(with_reducible refine Kd.C_drewN ?_ _)|(with_reducible refine Kd.C_drew ?_)));(case side2 => exact HC0_0.out);rintro e w12 ⟨rfl,hb⟩;refine ⟨_,rfl,?_⟩;have n0_ := As_ (blk_below (g := gb439) (o := .cells #[.slice A0_0 l0_0.length c0_0,.int .i64 a0_1] 25 (0,0)) (by (with_reducible repeat (first|refine bkN ?_ _|refine bkD ?_|refine bkA ?_ _));exact BK439.out) hb);have n1_ := As_ (bwT (by repeat (first|(with_reducible first|exact HB.out|apply bwA|apply bwN|apply bwD|refine bwS ?_ GE439.out)|exact HB.out)) hb);clear BK439;clear HB;have BK439 := n0_;have HB := n1_;clear n0_ n1_;(try clear hb);(try clear hb2);(try clear hk);(try clear hi);have hcz13_0 : w12.cell? ⟨gb439,0,none⟩ = some (.slice A0_0 l0_0.length c0_0) := (bkC BK439.out 0).trans rfl;have hcz13_1 : w12.cell? ⟨gb439,1,none⟩ = some (.int .i64 a0_1) := (bkC BK439.out 1).trans rfl;have hfz13_0 := bkF BK439.out 0;have hfz13_1 := bkF BK439.out 1)|((with_reducible refine gate_dst (N := 17) rfl ?_);refine Kd.R_make (Kd.int .i64) _ 3 rfl (N := 17) rfl 26 _ _ rfl (l0_0.length : Int) rfl rfl Try.underlying26 (.int .i64 0) 8 info3 rfl (by decide) (by omega) 0 (ok := fun _ => True) (okp := fun _ => True) rfl (fun _ hk => hk) trivial (odT (by first|(with_reducible assumption)|assumption)) (Nat.le_trans (Nat.mul_le_mul_right _ (odT (by first|(with_reducible assumption)|assumption) : (l0_0.length : Int).toNat ≤ 35184372088832)) (by omega)) (Below.refl _ _) (Nat.le_refl _) ?_;intro v442 w14 ho15 hb hg_ hnew_;clear hg_ hnew_;(first|rw [← Ny441.out] at ho15|(simp only [Int.reduceToNat] at ho15;rw [← Ny441.out] at ho15));have n0_ := As_ (Kd.R_lower ho15 (bwZ (by repeat (first|(with_reducible first|exact HB.out|apply bwA|apply bwN|apply bwD|refine bwS ?_ GE439.out)|exact HB.out))));have n1_ := As_ (blk_below (g := gb439) (o := .cells #[.slice A0_0 l0_0.length c0_0,.int .i64 a0_1] 25 (0,0)) (by (with_reducible repeat (first|refine bkN ?_ _|refine bkD ?_|refine bkA ?_ _));exact BK439.out) hb);have n2_ := As_ (bwT (by repeat (first|(with_reducible first|exact HB.out|apply bwA|apply bwN|apply bwD|refine bwS ?_ GE439.out)|exact HB.out)) hb);clear BK439;clear HB;have HO443 := n0_;have BK439 := n1_;have HB := n2_;clear n0_ n1_ n2_;clear hb ho15;have hcz16_0 : w14.cell? ⟨gb439,0,none⟩ = some (.slice A0_0 l0_0.length c0_0) := (bkC BK439.out 0).trans rfl;have hcz16_1 : w14.cell? ⟨gb439,1,none⟩ = some (.int .i64 a0_1) := (bkC BK439.out 1).trans rfl;have hfz16_0 := bkF BK439.out 0;have hfz16_1 := bkF BK439.out 1;obtain ⟨Ao17,co17,eo17⟩ := Kd.R_slice HO443.out;subst eo17;have p444 : 0 ≤ (a0_1 : Int) := odT (by first|(with_reducible assumption)|assumption);have q444 : a0_1 < (y441.length : Int) := odT (by first|(with_reducible assumption)|assumption);obtain ⟨ad444,e444,hx444_0⟩ := Kd.at_int (Kd.R_reads' HO443.out).2.2 a0_1 p444 q444;cases e444;replace p444 := eq_true p444;replace q444 := eq_true q444;have p8 : 0 ≤ (a0_1 : Int) := odT (by first|(with_reducible assumption)|assumption);have q8 : (a0_1 : Int) < ((y441.length : Int) : Int) := odT (by first|(with_reducible assumption)|assumption);obtain ⟨go8,co8,eo8,gb8,gl8,cl8,HG8⟩ := Kd.R_form HO443.out (by omega);(first|cases eo8|(injection eo8 with ea_ en_ ec_;(first|subst ea_|(injection ea_ with ea_;subst ea_));subst ec_;clear en_));have GB8 := As_ gb8;have GG8 := As_ HG8;clear gb8 gl8 HG8;(first|simp only [add_plain] at hx444_0|skip);obtain ⟨hx8_0,hf8_0⟩ := Kd.R_celln 0 HO443.out (a0_1 : Int) p8 q8;replace p8 := eq_true p8;replace q8 := eq_true q8;obtain ⟨hy18_,hz18_⟩ := Kd.R_celln 0 HO443.out (a0_1 : Int) (odT (by first|(with_reducible assumption)|assumption)) (odT (by first|(with_reducible assumption)|assumption));have HP18 := Kd.R_putg HO443.out (a0_1 : Int) (wrap64 ((rd y441 a0_1) + 1)))|((with_reducible refine gate_store (t := 3) (p := 24) rfl ?_);refine store_event (t := 3) (p := 24) (v := ?vo_w19) (w1 := (w14.setCell ⟨go8,(a0_1 : Int).toNat,none⟩ (.int .i64 (wrap64 ((rd y441 a0_1) + 1))))) ?hg ?ho ?hn ?hr ?_;(case ho => rfl);(case hg => rfl);(case hn => rfl);(case hr => go_simp <;> rfl);intro w19 hw;have hg : w14.grownBy w19 (some go8) := (by rw [hw];exact HP18.2);have hp_ : Kd.R (Kd.int .i64) 3 w19 w.heap.size (fun _ => True) (.slice (some ⟨go8,0,none⟩) y441.length co17) y445 := (by rw [hw,Ny445.out];exact HP18.1);clear HP18;have n0_ := As_ (blk_grown (g := gb439) (o := .cells #[.slice A0_0 l0_0.length c0_0,.int .i64 a0_1] 25 (0,0)) (by (with_reducible repeat (first|refine bkN ?_ _|refine bkD ?_|refine bkA ?_ _));exact BK439.out) hg (Kd.R_ne HO443.out BK439.out (by decide)));have n1_ := As_ (hp_);have n2_ := As_ ((by rw [hw];exact bwS (HB.out) GB8.out : Below w.heap.size w w19));clear BK439;clear HO443;clear HB;have BK439 := n0_;have HO443 := n1_;have HB := n2_;clear n0_ n1_ n2_;clear hg hw hp_;have hcz20_0 : w19.cell? ⟨gb439,0,none⟩ = some (.slice A0_0 l0_0.length c0_0) := (bkC BK439.out 0).trans rfl;have hcz20_1 : w19.cell? ⟨gb439,1,none⟩ = some (.int .i64 a0_1) := (bkC BK439.out 1).trans rfl;have hfz20_0 := bkF BK439.out 0;have hfz20_1 := bkF BK439.out 1)|((with_reducible refine gate_callee (f := 51) rfl ?_);refine goesL_ (some 26) rfl rfl Try.func51 (by kernel_rfl) rfl #[.agg #[.slice A0_0 l0_0.length c0_0,.int .i64 a0_1]] rfl (by (try simp only [List.map_toArray,List.map_cons,List.map_nil]);first|done|rfl|(simp only [List.length_drop,List.length_take];rfl)) ?_;(with_reducible refine (impl_reachOf.calls k _ _ l0_0 a0_1 t446 _ ?side1 ?side2 A9.out).mono ?_);(case side1 => repeat (first|exact (Kd.C_below HR0_0.out HB.out)|(with_reducible refine Kd.C_alloc ?_ _)|(with_reducible refine Kd.C_drewN ?_ _)|(with_reducible refine Kd.C_drew ?_)));(case side2 => exact HC0_0.out);rintro e w21 ⟨v447,rfl,ho0,hb⟩;refine ⟨_,rfl,?_⟩;have n0_ := As_ (Kd.R_elder' (by (with_reducible repeat (first|apply Kd.R_alloc|apply Kd.R_drewN|apply Kd.R_drew));exact HO443.out) (Kd.R_base ho0) hb);have n1_ := As_ (Kd.R_lower (Kd.R_new' ho0 (Kd.R_lt (by (with_reducible repeat (first|apply Kd.R_alloc|apply Kd.R_drewN|apply Kd.R_drew));exact HO443.out))) (bwZ (by repeat (first|(with_reducible first|exact HB.out|apply bwA|apply bwN|apply bwD|refine bwS ?_ GE439.out)|exact HB.out))));have n2_ := As_ (blk_below (g := gb439) (o := .cells #[.slice A0_0 l0_0.length c0_0,.int .i64 a0_1] 25 (0,0)) (by (with_reducible repeat (first|refine bkN ?_ _|refine bkD ?_|refine bkA ?_ _));exact BK439.out) hb);have n3_ := As_ (bwT (by repeat (first|(with_reducible first|exact HB.out|apply bwA|apply bwN|apply bwD|refine bwS ?_ GE439.out)|exact HB.out)) hb);clear HO443;clear BK439;clear HB;have HO443 := n0_;have HO448 := n1_;have BK439 := n2_;have HB := n3_;clear n0_ n1_ n2_ n3_;(try clear hb);(try clear hb2);(try clear hk);(try clear hi);(try clear ho0);obtain ⟨Ao22,co22,eo22⟩ := Kd.R_slice HO448.out;subst eo22))
  go_loopg [28] k (fun kq v28 w' => ∃ (x3_1 : List Int) (x28_1 : Int),v28 = .int .i64 x28_1 ∧ Aside0 (impl_SharedOf.l0 kq x3_1 t446 (t446.length : Int) x28_1 l0_0 a0_1 = some r) ∧ Aside0 (kq ≤ k) ∧ Aside0 (Kd.R (Kd.int .i64) 3 w' w.heap.size (fun k_ => some k_ ≠ ((.slice Ao22 t446.length co22) : Value).ownBlock) (.slice (some ⟨go8,0,none⟩) y441.length co17) x3_1) ∧ Aside0 (Kd.R (Kd.int .i64) 3 w' w.heap.size (fun k_ => some k_ ≠ ((.slice (some ⟨go8,0,none⟩) y441.length co17) : Value).ownBlock) (.slice Ao22 t446.length co22) t446) ∧ Aside0 (w'.heap[gb439]? = some (.cells #[(.slice A0_0 l0_0.length c0_0),.int .i64 a0_1] 25 (0,0))) ∧ Aside0 (Below w.heap.size w w'))
  case atStart => exact ⟨(y445),(0),(by first|rfl|(simp;done)|(simp [*];done)),H',⟨Nat.le_refl _⟩,⟨by (with_reducible repeat (first|apply Kd.R_alloc|apply Kd.R_drewN|apply Kd.R_drew));exact Kd.R_mono HO443.out (fun _ hk => hk.2)⟩,⟨by (with_reducible repeat (first|apply Kd.R_alloc|apply Kd.R_drewN|apply Kd.R_drew));exact Kd.R_mono HO448.out (fun _ hk => hk.2)⟩,⟨by (with_reducible repeat (first|refine bkN ?_ _|refine bkD ?_|refine bkA ?_ _));exact BK439.out⟩,⟨by repeat (first|(with_reducible first|exact HB.out|apply bwA|apply bwN|apply bwD|refine bwS ?_ GE439.out)|exact HB.out)⟩⟩
  case round =>
   clear H'
   try clear c2
   try clear p2
   try clear c3
   try clear c4
   try clear c4b0
   try clear c4b1
   try clear p4
   try clear q4
   try clear hx4
   try clear c5
   try clear c5b0
   try clear c5b1
   try clear c6
   try clear c6b0
   try clear p6
   try clear c7
   try clear c7b0
   try clear p8
   try clear q8
   try clear hx8
   try clear hf8
   try clear hcz11_0
   try clear hcz11_1
   try clear hcz13_0
   try clear hcz13_1
   try clear hcz16_0
   try clear hcz16_1
   try clear hcz20_0
   try clear hcz20_1
   try clear hfz11_0
   try clear hfz11_1
   try clear hfz13_0
   try clear hfz13_1
   try clear hfz16_0
   try clear hfz16_1
   try clear hfz20_0
   try clear hfz20_1
   try clear hx444_0
   try clear hx8_0
   try clear p444
   try clear p8
   try clear q444
   try clear q8
   obtain ⟨x3_1,x28_1,rfl,HA,HK1,HO_3,HO_26,BK439,HB⟩ := hrel
   have hl3_1 := (Kd.R_reads' HO_3.out).1
   rw [hl3_1] at HO_3
   (try simp only [hl3_1])
   (try simp only [hl3_1] at BK439)
   (try simp only [hl3_1] at HO_26)
   cases gk with
   | zero => exact absurd HA.out (fun h_ => (by cases h_))
   | succ k1 =>
    have H := HA.out
    clear HA
    simp only [impl_SharedOf.l0] at H
    by_cases c23 : x28_1 < (t446.length : Int)
    ·rw [if_pos c23] at H
     have c23b0 : decide (x28_1 < (t446.length : Int)) = true := deT c23
     clear c23
     by_cases c24 : 0 ≤ x28_1
     rotate_left
     ·rw [if_neg c24] at H
      exact absurd H (by simp)
     rw [if_pos c24] at H
     have c24b0 : decide (0 ≤ x28_1) = true := deT c24
     clear c24
     by_cases c25 : x28_1 < (t446.length : Int)
     rotate_left
     ·rw [if_neg c25] at H
      exact absurd H (by simp)
     rw [if_pos c25] at H
     have c25b0 : decide (x28_1 < (t446.length : Int)) = true := deT c25
     clear c25
     by_cases c26 : 0 ≤ (rd t446 x28_1)
     rotate_left
     ·rw [if_neg c26] at H
      exact absurd H (by simp)
     rw [if_pos c26] at H
     have c26b0 : decide (0 ≤ (rd t446 x28_1)) = true := deT c26
     clear c26
     by_cases c27 : (rd t446 x28_1) < (l0_0.length : Int)
     rotate_left
     ·rw [if_neg c27] at H
      exact absurd H (by simp)
     rw [if_pos c27] at H
     have c27b0 : decide ((rd t446 x28_1) < (l0_0.length : Int)) = true := deT c27
     clear c27
     have H' := As_ H
     clear H
     have p449 : 0 ≤ (x28_1 : Int) := odT (by first|(with_reducible assumption)|assumption)
     have q449 : x28_1 < (t446.length : Int) := odT (by first|(with_reducible assumption)|assumption)
     obtain ⟨ad449,e449,hx449_0⟩ := Kd.at_int (Kd.R_reads' HO_26.out).2.2 x28_1 p449 q449
     cases e449
     replace p449 := eq_true p449
     replace q449 := eq_true q449
     have hcz28_0 : wr.cell? ⟨gb439,0,none⟩ = some (.slice A0_0 l0_0.length c0_0) := (bkC BK439.out 0).trans rfl
     have hcz28_1 : wr.cell? ⟨gb439,1,none⟩ = some (.int .i64 a0_1) := (bkC BK439.out 1).trans rfl
     have hfz28_0 := bkF BK439.out 0
     have hfz28_1 := bkF BK439.out 1
     have p450 : 0 ≤ ((rd t446 x28_1) : Int) := odT (by first|(with_reducible assumption)|assumption)
     have q450 : (rd t446 x28_1) < (l0_0.length : Int) := odT (by first|(with_reducible assumption)|assumption)
     obtain ⟨ad450,A450_2,c450_2,e450,hx450_0,hx450_1,hx450_2,hl450_2,hi450_2⟩ := at_T58 HR0_0.out (rd t446 x28_1) p450 q450
     cases e450
     replace hx450_0 := (HB.out.cell (bwL w _ hx450_0)).trans hx450_0
     replace hx450_1 := (HB.out.cell (bwL w _ hx450_1)).trans hx450_1
     replace hx450_2 := (HB.out.cell (bwL w _ hx450_2)).trans hx450_2
     have HR450_2 := As_ hi450_2
     have HC450_2 := As_ hl450_2
     clear hi450_2 hl450_2
     replace p450 := eq_true p450
     replace q450 := eq_true q450
     go_wp2
     go_loopg [39] k1 (fun kq v39 w' => ∃ (x3_2 : List Int) (x39_2 : Int),v39 = .int .i64 x39_2 ∧ Aside0 (impl_SharedOf.l1 kq x3_2 t446 (t446.length : Int) x28_1 ((rd_T58 l0_0 (rd t446 x28_1)).f2) (((rd_T58 l0_0 (rd t446 x28_1)).f2).length : Int) x39_2 l0_0 a0_1 = some r) ∧ Aside0 (kq ≤ k1) ∧ Aside0 (Kd.R (Kd.int .i64) 3 w' w.heap.size (fun k_ => some k_ ≠ ((.slice (some ad449) t446.length co22) : Value).ownBlock) (.slice (some ⟨go8,0,none⟩) x3_1.length co17) x3_2) ∧ Aside0 (Kd.R (Kd.int .i64) 3 w' w.heap.size (fun k_ => some k_ ≠ ((.slice (some ⟨go8,0,none⟩) x3_1.length co17) : Value).ownBlock) (.slice (some ad449) t446.length co22) t446) ∧ Aside0 (w'.heap[gb439]? = some (.cells #[(.slice (some ad450) l0_0.length c0_0),.int .i64 a0_1] 25 (0,0))) ∧ Aside0 (Below w.heap.size w w'))
     case atStart => exact ⟨(x3_1),(0),(by first|rfl|(simp;done)|(simp [*];done)),H',⟨Nat.le_refl _⟩,⟨by (try simp only [hl3_1]);(with_reducible repeat (first|apply Kd.R_alloc|apply Kd.R_drewN|apply Kd.R_drew));exact HO_3.out⟩,⟨by (try simp only [hl3_1]);(with_reducible repeat (first|apply Kd.R_alloc|apply Kd.R_drewN|apply Kd.R_drew));exact HO_26.out⟩,⟨by (try simp only [hl3_1]);(with_reducible repeat (first|refine bkN ?_ _|refine bkD ?_|refine bkA ?_ _));exact BK439.out⟩,⟨by repeat (first|(with_reducible first|exact HB.out|apply bwA|apply bwN|apply bwD|refine bwS ?_ GE439.out)|exact HB.out)⟩⟩
     case round =>
      clear H'
      try clear c2
      try clear p2
      try clear c3
      try clear c4
      try clear c4b0
      try clear c4b1
      try clear p4
      try clear q4
      try clear hx4
      try clear c5
      try clear c5b0
      try clear c5b1
      try clear c6
      try clear c6b0
      try clear p6
      try clear c7
      try clear c7b0
      try clear p8
      try clear q8
      try clear hx8
      try clear hf8
      try clear c23
      try clear c23b0
      try clear c24
      try clear c24b0
      try clear c25
      try clear c25b0
      try clear c26
      try clear c26b0
      try clear c27
      try clear c27b0
      try clear hcz11_0
      try clear hcz11_1
      try clear hcz13_0
      try clear hcz13_1
      try clear hcz16_0
      try clear hcz16_1
      try clear hcz20_0
      try clear hcz20_1
      try clear hcz28_0
      try clear hcz28_1
      try clear hfz11_0
      try clear hfz11_1
      try clear hfz13_0
      try clear hfz13_1
      try clear hfz16_0
      try clear hfz16_1
      try clear hfz20_0
      try clear hfz20_1
      try clear hfz28_0
      try clear hfz28_1
      try clear hx444_0
      try clear hx449_0
      try clear hx450_0
      try clear hx450_1
      try clear hx450_2
      try clear hx8_0
      try clear p2
      try clear p4
      try clear p444
      try clear p449
      try clear p450
      try clear p6
      try clear p8
      try clear q4
      try clear q444
      try clear q449
      try clear q450
      try clear q8
      obtain ⟨x3_2,x39_2,rfl,HA,HK2,HO_3,HO_26,BK439,HB⟩ := hrel
      have hl3_2 := (Kd.R_reads' HO_3.out).1
      rw [hl3_2] at HO_3
      (try simp only [hl3_2])
      (try simp only [hl3_2] at BK439)
      (try simp only [hl3_2] at HO_26)
      cases gk with
      | zero => exact absurd HA.out (fun h_ => (by cases h_))
      | succ k2 =>
       have H := HA.out
       clear HA
       simp only [impl_SharedOf.l1] at H
       by_cases c29 : x39_2 < (((rd_T58 l0_0 (rd t446 x28_1)).f2).length : Int)
       ·rw [if_pos c29] at H
        have c29b0 : decide (x39_2 < (((rd_T58 l0_0 (rd t446 x28_1)).f2).length : Int)) = true := deT c29
        clear c29
        by_cases c30 : 0 ≤ x39_2
        rotate_left
        ·rw [if_neg c30] at H
         exact absurd H (by simp)
        rw [if_pos c30] at H
        have c30b0 : decide (0 ≤ x39_2) = true := deT c30
        clear c30
        by_cases c31 : x39_2 < (((rd_T58 l0_0 (rd t446 x28_1)).f2).length : Int)
        rotate_left
        ·rw [if_neg c31] at H
         exact absurd H (by simp)
        rw [if_pos c31] at H
        have c31b0 : decide (x39_2 < (((rd_T58 l0_0 (rd t446 x28_1)).f2).length : Int)) = true := deT c31
        clear c31
        by_cases c32 : 0 ≤ (rd ((rd_T58 l0_0 (rd t446 x28_1)).f2) x39_2)
        rotate_left
        ·rw [if_neg c32] at H
         exact absurd H (by simp)
        rw [if_pos c32] at H
        have c32b0 : decide (0 ≤ (rd ((rd_T58 l0_0 (rd t446 x28_1)).f2) x39_2)) = true := deT c32
        clear c32
        by_cases c33 : (rd ((rd_T58 l0_0 (rd t446 x28_1)).f2) x39_2) < (x3_2.length : Int)
        rotate_left
        ·rw [if_neg c33] at H
         exact absurd H (by simp)
        rw [if_pos c33] at H
        have c33b0 : decide ((rd ((rd_T58 l0_0 (rd t446 x28_1)).f2) x39_2) < (x3_2.length : Int)) = true := deT c33
        clear c33
        obtain ⟨y453,hy453⟩ : ∃ y_ : List Int,y_ = (x3_2.set ((rd ((rd_T58 l0_0 (rd t446 x28_1)).f2) x39_2) : Int).toNat (wrap64 ((rd x3_2 (rd ((rd_T58 l0_0 (rd t446 x28_1)).f2) x39_2)) + 1))) := ⟨_,rfl⟩
        replace H : (impl_SharedOf.l1 k2 y453 t446 (t446.length : Int) x28_1 ((rd_T58 l0_0 (rd t446 x28_1)).f2) (((rd_T58 l0_0 (rd t446 x28_1)).f2).length : Int) (wrap64 (x39_2 + 1)) l0_0 a0_1) = some r := by first|(rw [hy453];with_reducible exact H)|(have H2_ := (Option.bind_some _ _).symm.trans H;rw [hy453];with_reducible exact H2_)|(have H2_ := (Option.bind_some _ _).symm.trans H;with_reducible exact H2_)|with_reducible exact H|(rw [hy453];exact H)|exact H
        have Ny453 := As_ hy453
        clear hy453
        have H' := As_ H
        clear H
        have p451 : 0 ≤ (x39_2 : Int) := odT (by first|(with_reducible assumption)|assumption)
        have q451 : x39_2 < (((rd_T58 l0_0 (rd t446 x28_1)).f2).length : Int) := odT (by first|(with_reducible assumption)|assumption)
        obtain ⟨ad451,e451,hx451_0⟩ := Kd.at_int HR450_2.out x39_2 p451 q451
        cases e451
        replace hx451_0 := (HB.out.cell (bwL w _ hx451_0)).trans hx451_0
        replace p451 := eq_true p451
        replace q451 := eq_true q451
        have p452 : 0 ≤ ((rd ((rd_T58 l0_0 (rd t446 x28_1)).f2) x39_2) : Int) := odT (by first|(with_reducible assumption)|assumption)
        have q452 : (rd ((rd_T58 l0_0 (rd t446 x28_1)).f2) x39_2) < (x3_2.length : Int) := odT (by first|(with_reducible assumption)|assumption)
        obtain ⟨ad452,e452,hx452_0⟩ := Kd.at_int (Kd.R_reads' HO_3.out).2.2 (rd ((rd_T58 l0_0 (rd t446 x28_1)).f2) x39_2) p452 q452
        obtain rfl : (⟨go8,0,none⟩ : Addr) = ad452 := (by injection e452)
        (first|simp only [add_plain] at hx452_0|simp only [add_at] at hx452_0|simp only [Addr.add,Nat.zero_add] at hx452_0|skip)
        replace p452 := eq_true p452
        replace q452 := eq_true q452
        have p34 : 0 ≤ ((rd ((rd_T58 l0_0 (rd t446 x28_1)).f2) x39_2) : Int) := odT (by first|(with_reducible assumption)|assumption)
        have q34 : ((rd ((rd_T58 l0_0 (rd t446 x28_1)).f2) x39_2) : Int) < ((x3_2.length : Int) : Int) := odT (by first|(with_reducible assumption)|assumption)
        obtain ⟨hx34_0,hf34_0⟩ := Kd.R_celln 0 HO_3.out ((rd ((rd_T58 l0_0 (rd t446 x28_1)).f2) x39_2) : Int) p34 q34
        replace p34 := eq_true p34
        replace q34 := eq_true q34
        have HP35 := Kd.R_putg HO_3.out ((rd ((rd_T58 l0_0 (rd t446 x28_1)).f2) x39_2) : Int) (wrap64 ((rd x3_2 (rd ((rd_T58 l0_0 (rd t446 x28_1)).f2) x39_2)) + 1))
        go_wp2_with (first|((with_reducible refine gate_store (t := 3) (p := 48) rfl ?_);refine store_event (t := 3) (p := 48) (v := ?vo_w36) (w1 := (wr.setCell ⟨go8,((rd ((rd_T58 l0_0 (rd t446 x28_1)).f2) x39_2) : Int).toNat,none⟩ (.int .i64 (wrap64 ((rd x3_2 (rd ((rd_T58 l0_0 (rd t446 x28_1)).f2) x39_2)) + 1))))) ?hg ?ho ?hn ?hr ?_;(case ho => rfl);(case hg => rfl);(case hn => rfl);(case hr => go_simp <;> rfl);intro w36 hw;have hg : wr.grownBy w36 (some go8) := (by rw [hw];exact HP35.2);have hp_ : Kd.R (Kd.int .i64) 3 w36 w.heap.size (fun k_ => some k_ ≠ (.slice (some ad449) t446.length co22 : Value).ownBlock) (.slice (some ⟨go8,0,none⟩) x3_2.length co17) y453 := (by rw [hw,Ny453.out];exact HP35.1);clear HP35;have n0_ := As_ (hp_);have n1_ := As_ (Kd.R_after (v := (.slice (some ⟨go8,0,none⟩) x3_2.length co17)) (v1 := (.slice (some ⟨go8,0,none⟩) x3_2.length co17)) (ok := (fun _ => True)) (by (with_reducible repeat (first|apply Kd.R_alloc|apply Kd.R_drewN|apply Kd.R_drew));exact Kd.R_mono HO_26.out (fun _ hk => ⟨trivial,hk⟩)) hg (.inl rfl));have n2_ := As_ (blk_grown (g := gb439) (o := .cells #[.slice (some ad450) l0_0.length c0_0,.int .i64 a0_1] 25 (0,0)) (by (with_reducible repeat (first|refine bkN ?_ _|refine bkD ?_|refine bkA ?_ _));exact BK439.out) hg (Kd.R_ne HO_3.out BK439.out (by decide)));have n3_ := As_ ((by rw [hw];exact bwS (HB.out) GB8.out : Below w.heap.size w w36));clear HO_3;clear HO_26;clear BK439;clear HB;have HO_3 := n0_;have HO_26 := n1_;have BK439 := n2_;have HB := n3_;clear n0_ n1_ n2_ n3_;clear hg hw hp_))
        (try simp only [← hl3_2])
        go_roundg k2
        case measure => have := HK1.out;have := HK2.out;omega
        case rel => exact ⟨(y453),(wrap64 (x39_2 + 1)),(by first|rfl|(simp;done)|(simp [*];done)),H',⟨by have := HK1.out;have := HK2.out;omega⟩,⟨by (try simp only [hl3_1]);(try simp only [hl3_2]);(with_reducible repeat (first|apply Kd.R_alloc|apply Kd.R_drewN|apply Kd.R_drew));exact HO_3.out⟩,⟨by (try simp only [hl3_1]);(try simp only [hl3_2]);(with_reducible repeat (first|apply Kd.R_alloc|apply Kd.R_drewN|apply Kd.R_drew));exact Kd.R_mono HO_26.out (fun _ hk => hk.2)⟩,⟨by (try simp only [hl3_1]);(try simp only [hl3_2]);(with_reducible repeat (first|refine bkN ?_ _|refine bkD ?_|refine bkA ?_ _));exact BK439.out⟩,⟨by repeat (first|(with_reducible first|exact HB.out|apply bwA|apply bwN|apply bwD|refine bwS ?_ GE439.out)|exact HB.out)⟩⟩
       ·rw [if_neg c29] at H
        have c29b0 : decide (x39_2 < (((rd_T58 l0_0 (rd t446 x28_1)).f2).length : Int)) = false := deF c29
        clear c29
        have H' := As_ H
        clear H
        go_wp2
        (try simp only [← hl3_1,← hl3_2])
        go_roundg k2
        case measure => have := HK1.out;have := HK2.out;omega
        case rel => exact ⟨(x3_2),(wrap64 (x28_1 + 1)),(by first|rfl|(simp;done)|(simp [*];done)),H',⟨by have := HK1.out;have := HK2.out;omega⟩,⟨by (try simp only [hl3_1]);(try simp only [hl3_2]);(with_reducible repeat (first|apply Kd.R_alloc|apply Kd.R_drewN|apply Kd.R_drew));exact HO_3.out⟩,⟨by (try simp only [hl3_1]);(try simp only [hl3_2]);(with_reducible repeat (first|apply Kd.R_alloc|apply Kd.R_drewN|apply Kd.R_drew));exact HO_26.out⟩,⟨by (try simp only [hl3_1]);(try simp only [hl3_2]);(with_reducible repeat (first|refine bkN ?_ _|refine bkD ?_|refine bkA ?_ _));exact BK439.out⟩,⟨by repeat (first|(with_reducible first|exact HB.out|apply bwA|apply bwN|apply bwD|refine bwS ?_ GE439.out)|exact HB.out)⟩⟩
    ·rw [if_neg c23] at H
     have c23b0 : decide (x28_1 < (t446.length : Int)) = false := deF c23
     clear c23
     obtain ⟨y454,hy454⟩ : ∃ y_ : List Int,y_ = (([] : List Int)) := ⟨_,rfl⟩
     replace H : (impl_SharedOf.l2 k1 y454 x3_1 (x3_1.length : Int) 0 l0_0 a0_1) = some r := by first|(rw [hy454];with_reducible exact H)|(have H2_ := (Option.bind_some _ _).symm.trans H;rw [hy454];with_reducible exact H2_)|(have H2_ := (Option.bind_some _ _).symm.trans H;with_reducible exact H2_)|with_reducible exact H|(rw [hy454];exact H)|exact H
     have Ny454 := As_ hy454
     clear hy454
     have H' := As_ H
     clear H
     go_wp2_with (first|((with_reducible refine gate_dst (N := 51) rfl ?_);refine Kd.R_lit (Kd.int .i64) _ 3 ?hg (N := 51) ?hd (xs := ([] : List Int)) (inner := []) (ok := fun _ => True) (okp := fun _ => True) ?hr ?hp (fun _ hk => hk) trivial (Below.refl _ _) (Nat.le_refl _) (by simp) ?_;(case hd => rfl);(case hg => rfl);(case hr => go_simp <;> rfl);(case hp => exact (Reps.none _ _));intro v455 w37 ho38 hb hg_ hnew_;clear hg_ hnew_;(first|rw [← Ny454.out] at ho38|(simp only [Int.reduceToNat] at ho38;rw [← Ny454.out] at ho38));have n0_ := As_ (Kd.R_elder' (by (with_reducible repeat (first|apply Kd.R_alloc|apply Kd.R_drewN|apply Kd.R_drew));exact HO_3.out) (Kd.R_base ho38) hb);have n1_ := As_ (Kd.R_elder' (by (with_reducible repeat (first|apply Kd.R_alloc|apply Kd.R_drewN|apply Kd.R_drew));exact HO_26.out) (Kd.R_base ho38) hb);have n2_ := As_ (Kd.R_lower (Kd.R_new' (Kd.R_new' ho38 (Kd.R_lt (by (with_reducible repeat (first|apply Kd.R_alloc|apply Kd.R_drewN|apply Kd.R_drew));exact HO_3.out))) (Kd.R_lt (by (with_reducible repeat (first|apply Kd.R_alloc|apply Kd.R_drewN|apply Kd.R_drew));exact HO_26.out))) (bwZ (by repeat (first|(with_reducible first|exact HB.out|apply bwA|apply bwN|apply bwD|refine bwS ?_ GE439.out)|exact HB.out))));have n3_ := As_ (blk_below (g := gb439) (o := .cells #[.slice A0_0 l0_0.length c0_0,.int .i64 a0_1] 25 (0,0)) (by (with_reducible repeat (first|refine bkN ?_ _|refine bkD ?_|refine bkA ?_ _));exact BK439.out) hb);have n4_ := As_ (bwT (by repeat (first|(with_reducible first|exact HB.out|apply bwA|apply bwN|apply bwD|refine bwS ?_ GE439.out)|exact HB.out)) hb);clear HO_3;clear HO_26;clear BK439;clear HB;have HO_3 := n0_;have HO_26 := n1_;have HO456 := n2_;have BK439 := n3_;have HB := n4_;clear n0_ n1_ n2_ n3_ n4_;clear hb ho38))
     go_loopg [8,54] k1 (fun kq v8 v54 w' => ∃ (x8_2 : List Int) (x54_2 : Int),v54 = .int .i64 x54_2 ∧ Aside0 (impl_SharedOf.l2 kq x8_2 x3_1 (x3_1.length : Int) x54_2 l0_0 a0_1 = some r) ∧ Aside0 (kq ≤ k1) ∧ Aside0 (Kd.R (Kd.int .i64) 3 w' w.heap.size (fun k_ => some k_ ≠ ((.slice (some ⟨go8,0,none⟩) x3_1.length co17) : Value).ownBlock) v8 x8_2) ∧ Aside0 (Kd.R (Kd.int .i64) 3 w' w.heap.size (fun k_ => some k_ ≠ (v8 : Value).ownBlock) (.slice (some ⟨go8,0,none⟩) x3_1.length co17) x3_1) ∧ Aside0 (w'.heap[gb439]? = some (.cells #[(.slice A0_0 l0_0.length c0_0),.int .i64 a0_1] 25 (0,0))) ∧ Aside0 (Below w.heap.size w w'))
     case atStart => exact ⟨(y454),(0),(by first|rfl|(simp;done)|(simp [*];done)),H',⟨Nat.le_refl _⟩,⟨by (try simp only [hl3_1]);(with_reducible repeat (first|apply Kd.R_alloc|apply Kd.R_drewN|apply Kd.R_drew));exact Kd.R_mono HO456.out (fun _ hk => hk.1.2)⟩,⟨by (try simp only [hl3_1]);(with_reducible repeat (first|apply Kd.R_alloc|apply Kd.R_drewN|apply Kd.R_drew));exact Kd.R_mono HO_3.out (fun _ hk => hk.2)⟩,⟨by (try simp only [hl3_1]);(with_reducible repeat (first|refine bkN ?_ _|refine bkD ?_|refine bkA ?_ _));exact BK439.out⟩,⟨by repeat (first|(with_reducible first|exact HB.out|apply bwA|apply bwN|apply bwD|refine bwS ?_ GE439.out)|exact HB.out)⟩⟩
     case round =>
      clear H'
      try clear c2
      try clear p2
      try clear c3
      try clear p3
      try clear q3
      try clear hx3
      try clear hf3
      try clear c4
      try clear c4b0
      try clear c4b1
      try clear p4
      try clear q4
      try clear hx4
      try clear c5
      try clear c5b0
      try clear c5b1
      try clear c6
      try clear c6b0
      try clear p6
      try clear c7
      try clear c7b0
      try clear p8
      try clear q8
      try clear hx8
      try clear hf8
      try clear c23
      try clear c23b0
      try clear c24
      try clear c24b0
      try clear c25
      try clear c25b0
      try clear c26
      try clear c26b0
      try clear c27
      try clear c27b0
      try clear c29
      try clear c29b0
      try clear c30
      try clear c30b0
      try clear c31
      try clear c31b0
      try clear c32
      try clear c32b0
      try clear c33
      try clear c33b0
      try clear p34
      try clear q34
      try clear hx34
      try clear hf34
      try clear c37
      try clear hcz11_0
      try clear hcz11_1
      try clear hcz13_0
      try clear hcz13_1
      try clear hcz16_0
      try clear hcz16_1
      try clear hcz20_0
      try clear hcz20_1
      try clear hcz28_0
      try clear hcz28_1
      try clear hfz11_0
      try clear hfz11_1
      try clear hfz13_0
      try clear hfz13_1
      try clear hfz16_0
      try clear hfz16_1
      try clear hfz20_0
      try clear hfz20_1
      try clear hfz28_0
      try clear hfz28_1
      try clear hx34_0
      try clear hx444_0
      try clear hx449_0
      try clear hx450_0
      try clear hx450_1
      try clear hx450_2
      try clear hx451_0
      try clear hx452_0
      try clear hx8_0
      try clear p2
      try clear p34
      try clear p4
      try clear p444
      try clear p449
      try clear p450
      try clear p451
      try clear p452
      try clear p6
      try clear p8
      try clear q34
      try clear q4
      try clear q444
      try clear q449
      try clear q450
      try clear q451
      try clear q452
      try clear q8
      obtain ⟨x8_2,x54_2,rfl,HA,HK2,HO_8,HO_52,BK439,HB⟩ := hrel
      cases gk with
      | zero => exact absurd HA.out (fun h_ => (by cases h_))
      | succ k2 =>
       have H := HA.out
       clear HA
       simp only [impl_SharedOf.l2] at H
       by_cases c39 : x54_2 < (x3_1.length : Int)
       ·rw [if_pos c39] at H
        have c39b0 : decide (x54_2 < (x3_1.length : Int)) = true := deT c39
        clear c39
        by_cases c40 : 0 ≤ x54_2
        rotate_left
        ·rw [if_neg c40] at H
         exact absurd H (by simp)
        rw [if_pos c40] at H
        have c40b0 : decide (0 ≤ x54_2) = true := deT c40
        clear c40
        by_cases c41 : x54_2 < (x3_1.length : Int)
        rotate_left
        ·rw [if_neg c41] at H
         exact absurd H (by simp)
        rw [if_pos c41] at H
        have c41b0 : decide (x54_2 < (x3_1.length : Int)) = true := deT c41
        clear c41
        by_cases c42 : (rd x3_1 x54_2) > 1
        ·rw [if_pos c42] at H
         have c42b0 : decide (1 < (rd x3_1 x54_2)) = true := deT c42
         clear c42
         by_cases c43 : x54_2 < (l0_0.length : Int)
         rotate_left
         ·rw [if_neg c43] at H
          exact absurd H (by simp)
         rw [if_pos c43] at H
         have c43b0 : decide (x54_2 < (l0_0.length : Int)) = true := deT c43
         clear c43
         by_cases c44 : ((rd_T58 l0_0 x54_2).f0) = 0
         ·rw [if_pos c44] at H
          have c44b0 : (((rd_T58 l0_0 x54_2).f0) == 0) = true := beq_iff_eq.mpr c44
          have c44b1 : (((rd_T58 l0_0 x54_2).f0) != 0) = false := bne_eq_false_iff_eq.mpr c44
          clear c44
          have H' := As_ H
          clear H
          have p457 : 0 ≤ (x54_2 : Int) := odT (by first|(with_reducible assumption)|assumption)
          have q457 : x54_2 < (x3_1.length : Int) := odT (by first|(with_reducible assumption)|assumption)
          obtain ⟨ad457,e457,hx457_0⟩ := Kd.at_int (Kd.R_reads' HO_52.out).2.2 x54_2 p457 q457
          obtain rfl : (⟨go8,0,none⟩ : Addr) = ad457 := (by injection e457)
          (first|simp only [add_plain] at hx457_0|simp only [add_at] at hx457_0|simp only [Addr.add,Nat.zero_add] at hx457_0|skip)
          replace p457 := eq_true p457
          replace q457 := eq_true q457
          have hcz45_0 : wr.cell? ⟨gb439,0,none⟩ = some (.slice A0_0 l0_0.length c0_0) := (bkC BK439.out 0).trans rfl
          have hcz45_1 : wr.cell? ⟨gb439,1,none⟩ = some (.int .i64 a0_1) := (bkC BK439.out 1).trans rfl
          have hfz45_0 := bkF BK439.out 0
          have hfz45_1 := bkF BK439.out 1
          have p458 : 0 ≤ (x54_2 : Int) := odT (by first|(with_reducible assumption)|assumption)
          have q458 : x54_2 < (l0_0.length : Int) := odT (by first|(with_reducible assumption)|assumption)
          obtain ⟨ad458,A458_2,c458_2,e458,hx458_0,hx458_1,hx458_2,hl458_2,hi458_2⟩ := at_T58 HR0_0.out x54_2 p458 q458
          cases e458
          replace hx458_0 := (HB.out.cell (bwL w _ hx458_0)).trans hx458_0
          replace hx458_1 := (HB.out.cell (bwL w _ hx458_1)).trans hx458_1
          replace hx458_2 := (HB.out.cell (bwL w _ hx458_2)).trans hx458_2
          have HR458_2 := As_ hi458_2
          have HC458_2 := As_ hl458_2
          clear hi458_2 hl458_2
          replace p458 := eq_true p458
          replace q458 := eq_true q458
          go_wp2
          go_roundg k2
          case measure => have := HK1.out;have := HK2.out;omega
          case rel => exact ⟨(x8_2),(wrap64 (x54_2 + 1)),(by first|rfl|(simp;done)|(simp [*];done)),H',⟨by have := HK1.out;have := HK2.out;omega⟩,⟨by (try simp only [hl3_1]);(with_reducible repeat (first|apply Kd.R_alloc|apply Kd.R_drewN|apply Kd.R_drew));exact HO_8.out⟩,⟨by (try simp only [hl3_1]);(with_reducible repeat (first|apply Kd.R_alloc|apply Kd.R_drewN|apply Kd.R_drew));exact HO_52.out⟩,⟨by (try simp only [hl3_1]);(with_reducible repeat (first|refine bkN ?_ _|refine bkD ?_|refine bkA ?_ _));exact BK439.out⟩,⟨by repeat (first|(with_reducible first|exact HB.out|apply bwA|apply bwN|apply bwD|refine bwS ?_ GE439.out)|exact HB.out)⟩⟩
         ·rw [if_neg c44] at H
          have c44b0 : (((rd_T58 l0_0 x54_2).f0) == 0) = false := beq_eq_false_iff_ne.mpr c44
          have c44b1 : (((rd_T58 l0_0 x54_2).f0) != 0) = true := bne_iff_ne.mpr c44
          by_cases c46 : x8_2.length < 17592186044416
          rotate_left
          ·rw [if_neg c46] at H
           exact absurd H (by simp)
          rw [if_pos c46] at H
          have LMc46 := As_ c46
          clear c46
          obtain ⟨y459,hy459⟩ : ∃ y_ : List Int,y_ = (x8_2 ++ [x54_2]) := ⟨_,rfl⟩
          replace H : (impl_SharedOf.l2 k2 y459 x3_1 (x3_1.length : Int) (wrap64 (x54_2 + 1)) l0_0 a0_1) = some r := by first|(rw [hy459];with_reducible exact H)|(have H2_ := (Option.bind_some _ _).symm.trans H;rw [hy459];with_reducible exact H2_)|(have H2_ := (Option.bind_some _ _).symm.trans H;with_reducible exact H2_)|with_reducible exact H|(rw [hy459];exact H)|exact H
          have Ny459 := As_ hy459
          clear hy459
          have H' := As_ H
          clear H
          have p457 : 0 ≤ (x54_2 : Int) := odT (by first|(with_reducible assumption)|assumption)
          have q457 : x54_2 < (x3_1.length : Int) := odT (by first|(with_reducible assumption)|assumption)
          obtain ⟨ad457,e457,hx457_0⟩ := Kd.at_int (Kd.R_reads' HO_52.out).2.2 x54_2 p457 q457
          obtain rfl : (⟨go8,0,none⟩ : Addr) = ad457 := (by injection e457)
          (first|simp only [add_plain] at hx457_0|simp only [add_at] at hx457_0|simp only [Addr.add,Nat.zero_add] at hx457_0|skip)
          replace p457 := eq_true p457
          replace q457 := eq_true q457
          have hcz47_0 : wr.cell? ⟨gb439,0,none⟩ = some (.slice A0_0 l0_0.length c0_0) := (bkC BK439.out 0).trans rfl
          have hcz47_1 : wr.cell? ⟨gb439,1,none⟩ = some (.int .i64 a0_1) := (bkC BK439.out 1).trans rfl
          have hfz47_0 := bkF BK439.out 0
          have hfz47_1 := bkF BK439.out 1
          have p458 : 0 ≤ (x54_2 : Int) := odT (by first|(with_reducible assumption)|assumption)
          have q458 : x54_2 < (l0_0.length : Int) := odT (by first|(with_reducible assumption)|assumption)
          obtain ⟨ad458,A458_2,c458_2,e458,hx458_0,hx458_1,hx458_2,hl458_2,hi458_2⟩ := at_T58 HR0_0.out x54_2 p458 q458
          cases e458
          replace hx458_0 := (HB.out.cell (bwL w _ hx458_0)).trans hx458_0
          replace hx458_1 := (HB.out.cell (bwL w _ hx458_1)).trans hx458_1
          replace hx458_2 := (HB.out.cell (bwL w _ hx458_2)).trans hx458_2
          have HR458_2 := As_ hi458_2
          have HC458_2 := As_ hl458_2
          clear hi458_2 hl458_2
          replace p458 := eq_true p458
          replace q458 := eq_true q458
          go_wp2_with (first|((with_reducible refine gate_builtin (b := .append) (xs := #[.tmp 70,.tmp 72]) rfl ?_);at_builtin;refine Kd.R_append (Kd.int .i64) (w0 := w) w.heap.size rfl (.tmp 70) (.tmp 72) 26 3 (.int .i64 0) 8 rfl Try.underlying26 info3 rfl (by decide) (by omega) u8 x8_2 x54_2 [.int .i64 x54_2] (fun k_ => some k_ ≠ (.slice (some ⟨go8,0,none⟩) x3_1.length co17 : Value).ownBlock) (fun _ => False) rfl rfl ?aP (fun _ hk => hk.elim) ?aF ?aO ?aB ?aS ?aL ?_;(case aP => exact rfl);(case aB => exact (by repeat (first|(with_reducible first|exact HB.out|apply bwA|apply bwN|apply bwD|refine bwS ?_ GE439.out)|exact HB.out)));(case aF => exact (fun k_ hk => Kd.fresh' (Kd.R_lt (by (with_reducible repeat (first|apply Kd.R_alloc|apply Kd.R_drewN|apply Kd.R_drew));exact HO_52.out)) k_ hk));(case aO => exact (by (with_reducible repeat (first|apply Kd.R_alloc|apply Kd.R_drewN|apply Kd.R_drew));exact HO_8.out));(case aS => exact (bwZ (by repeat (first|(with_reducible first|exact HB.out|apply bwA|apply bwN|apply bwD|refine bwS ?_ GE439.out)|exact HB.out))));(case aL => have := LMc46.out;omega);intro v460 w48 ho hb hg hat;rw [← Ny459.out] at ho;have n0_ := As_ (Kd.R_after (ok := (fun _ => True)) (by (with_reducible repeat (first|apply Kd.R_alloc|apply Kd.R_drewN|apply Kd.R_drew));exact Kd.R_mono HO_52.out (fun _ hk => ⟨trivial,hk⟩)) hg hat);have n1_ := As_ (blk_grown (g := gb439) (o := .cells #[.slice (some ad458) l0_0.length c0_0,.int .i64 a0_1] 25 (0,0)) (by (with_reducible repeat (first|refine bkN ?_ _|refine bkD ?_|refine bkA ?_ _));exact BK439.out) hg (Kd.R_ne HO_8.out BK439.out (by decide)));have n2_ := As_ (hb);have n3_ := As_ (ho);clear HO_52;clear BK439;clear HB;clear HO_8;have HO_52 := n0_;have BK439 := n1_;have HB := n2_;have HO461 := n3_;clear n0_ n1_ n2_ n3_;clear ho hb hg hat))
          go_roundg k2
          case measure => have := HK1.out;have := HK2.out;omega
          case rel => exact ⟨(y459),(wrap64 (x54_2 + 1)),(by first|rfl|(simp;done)|(simp [*];done)),H',⟨by have := HK1.out;have := HK2.out;omega⟩,⟨by (try simp only [hl3_1]);(with_reducible repeat (first|apply Kd.R_alloc|apply Kd.R_drewN|apply Kd.R_drew));exact HO461.out⟩,⟨by (try simp only [hl3_1]);(with_reducible repeat (first|apply Kd.R_alloc|apply Kd.R_drewN|apply Kd.R_drew));exact Kd.R_mono HO_52.out (fun _ hk => hk.2)⟩,⟨by (try simp only [hl3_1]);(with_reducible repeat (first|refine bkN ?_ _|refine bkD ?_|refine bkA ?_ _));exact BK439.out⟩,⟨by repeat (first|(with_reducible first|exact HB.out|apply bwA|apply bwN|apply bwD|refine bwS ?_ GE439.out)|exact HB.out)⟩⟩
        ·rw [if_neg c42] at H
         have c42b0 : decide (1 < (rd x3_1 x54_2)) = false := deF c42
         clear c42
         have H' := As_ H
         clear H
         have p457 : 0 ≤ (x54_2 : Int) := odT (by first|(with_reducible assumption)|assumption)
         have q457 : x54_2 < (x3_1.length : Int) := odT (by first|(with_reducible assumption)|assumption)
         obtain ⟨ad457,e457,hx457_0⟩ := Kd.at_int (Kd.R_reads' HO_52.out).2.2 x54_2 p457 q457
         obtain rfl : (⟨go8,0,none⟩ : Addr) = ad457 := (by injection e457)
         (first|simp only [add_plain] at hx457_0|simp only [add_at] at hx457_0|simp only [Addr.add,Nat.zero_add] at hx457_0|skip)
         replace p457 := eq_true p457
         replace q457 := eq_true q457
         go_wp2
         go_roundg k2
         case measure => have := HK1.out;have := HK2.out;omega
         case rel => exact ⟨(x8_2),(wrap64 (x54_2 + 1)),(by first|rfl|(simp;done)|(simp [*];done)),H',⟨by have := HK1.out;have := HK2.out;omega⟩,⟨by (try simp only [hl3_1]);(with_reducible repeat (first|apply Kd.R_alloc|apply Kd.R_drewN|apply Kd.R_drew));exact HO_8.out⟩,⟨by (try simp only [hl3_1]);(with_reducible repeat (first|apply Kd.R_alloc|apply Kd.R_drewN|apply Kd.R_drew));exact HO_52.out⟩,⟨by (try simp only [hl3_1]);(with_reducible repeat (first|refine bkN ?_ _|refine bkD ?_|refine bkA ?_ _));exact BK439.out⟩,⟨by repeat (first|(with_reducible first|exact HB.out|apply bwA|apply bwN|apply bwD|refine bwS ?_ GE439.out)|exact HB.out)⟩⟩
       ·rw [if_neg c39] at H
        have c39b0 : decide (x54_2 < (x3_1.length : Int)) = false := deF c39
        clear c39
        obtain rfl := Option.some.inj H
        go_wp2
        go_ret
        exact ⟨_,by first|rfl|(simp [errW_none,errW_some] <;> rfl)|(simp [*,errW_none,errW_some] <;> rfl),by (with_reducible repeat (first|apply Kd.R_alloc|apply Kd.R_drewN|apply Kd.R_drew));exact Kd.R_mono HO_8.out (fun _ hk => trivial),by repeat (first|(with_reducible first|exact HB.out|apply bwA|apply bwN|apply bwD|refine bwS ?_ GE439.out)|exact HB.out)⟩
 ·replace c3 := Bool.eq_false_iff.mpr c3
  subst c3
  have H1 : (some ([] : List Int)) = some r := by rw [if_neg (show ¬ (false = true) by decide)] at H;exact H
  clear H
  have H := H1
  clear H1
  obtain rfl := Option.some.inj H
  go_enter Try.func25,Try.ntmps25
  go_wp2_with (first|((with_reducible refine gate_dst (N := 1) rfl ?_);refine box_event ?hg (N := 1) ?hd (cs := #[.slice A0_0 l0_0.length c0_0,.int .i64 a0_1]) (t := 25) ?hr ?_;(case hd => rfl);(case hg => rfl);(case hr => go_simp <;> rfl);intro gb439 hg w49 hbox hb;have n0_ := As_ (bwT (by repeat (first|(with_reducible first|exact HB.out|apply bwA|apply bwN|apply bwD)|exact HB.out)) hb);have n1_ := As_ (hbox);have n2_ := As_ ((by rw [hg];exact (bwZ (by repeat (first|(with_reducible first|exact HB.out|apply bwA|apply bwN|apply bwD)|exact HB.out))) : w.heap.size ≤ gb439));have n3_ := As_ ((by rw [hg];exact (bwZ (by repeat (first|(with_reducible first|exact HB.out|apply bwA|apply bwN|apply bwD)|exact HB.out))) : w.heap.size ≤ gb439));clear HB;have HB := n0_;have BK439 := n1_;have GW439 := n2_;have GE439 := n3_;clear n0_ n1_ n2_ n3_;clear hb hbox hg;have hcz50_0 : w49.cell? ⟨gb439,0,none⟩ = some (.slice A0_0 l0_0.length c0_0) := (bkC BK439.out 0).trans rfl;have hcz50_1 : w49.cell? ⟨gb439,1,none⟩ = some (.int .i64 a0_1) := (bkC BK439.out 1).trans rfl;have hfz50_0 := bkF BK439.out 0;have hfz50_1 := bkF BK439.out 1)|((with_reducible refine gate_callee (f := 37) rfl ?_);refine goesL_ (some 12) rfl rfl Try.func37 (by kernel_rfl) rfl #[.agg #[.slice A0_0 l0_0.length c0_0,.int .i64 a0_1]] rfl (by (try simp only [List.map_toArray,List.map_cons,List.map_nil]);first|done|rfl|(simp only [List.length_drop,List.length_take];rfl)) ?_;(with_reducible refine (impl_ValidGraph.calls k _ _ l0_0 a0_1 false _ ?side1 ?side2 A2.out).mono ?_);(case side1 => repeat (first|exact (Kd.C_below HR0_0.out HB.out)|(with_reducible refine Kd.C_alloc ?_ _)|(with_reducible refine Kd.C_drewN ?_ _)|(with_reducible refine Kd.C_drew ?_)));(case side2 => exact HC0_0.out);rintro e w51 ⟨rfl,hb⟩;refine ⟨_,rfl,?_⟩;have n0_ := As_ (blk_below (g := gb439) (o := .cells #[.slice A0_0 l0_0.length c0_0,.int .i64 a0_1] 25 (0,0)) (by (with_reducible repeat (first|refine bkN ?_ _|refine bkD ?_|refine bkA ?_ _));exact BK439.out) hb);have n1_ := As_ (bwT (by repeat (first|(with_reducible first|exact HB.out|apply bwA|apply bwN|apply bwD|refine bwS ?_ GE439.out)|exact HB.out)) hb);clear BK439;clear HB;have BK439 := n0_;have HB := n1_;clear n0_ n1_;(try clear hb);(try clear hb2);(try clear hk);(try clear hi)))
  go_ret
  exact ⟨_,by first|rfl|(simp [errW_none,errW_some] <;> rfl)|(simp [*,errW_none,errW_some] <;> rfl),by first|exact Kd.R_nil _ _ _ _ _|exact Kd.N_nil _ _ _ _ _|exact Kd.V_nil _ _ _ _ _|exact Kd.Q_nil _ _ _ _ _|exact Kd.S_nil _ _ _ _ _,by repeat (first|(with_reducible first|exact HB.out|apply bwA|apply bwN|apply bwD|refine bwS ?_ GE439.out)|exact HB.out)⟩

end Go.Proofs.Ytapaegcombfafaa.Q
