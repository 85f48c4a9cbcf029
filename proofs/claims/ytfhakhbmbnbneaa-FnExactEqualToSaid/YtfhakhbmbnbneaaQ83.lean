-- Written by wip/tools/qprint.py (a program of this claim's author) by means of the kit's printer.
import Derived.Test.YtfhakhbmbnbneaaQ0
import Derived.Test.YtfhakhbmbnbneaaQ81
namespace Go.Proofs.Ytfhakhbmbnbneaa.Q
open Go.RowKit Go.Proofs.YtfhakhbmbnbneaaW.PrintWords Go.Proofs.YtfhakhbmbnbneaaW.PrintLast Go.Proofs.YtfhakhbmbnbneaaW.PrintMore
attribute [local go_sem] max2_int min2_int max_two min_two max_three min_three max_four min_four   -- for this text's walks alone
set_option linter.unusedVariables false
set_option linter.unusedSimpArgs false

/-! ### spec_tupleReach: function 83 -/
def spec_tupleReach.l0 : Nat → List Int → List Int → Int → List (S45) → Int → Option (List Int)
 | 0,_,_,_,_,_ => none
 | k + 1,x5,x6,x7,x137000,x137001 => if x7 < (x6.length : Int) then (if 0 ≤ x7 then ((spec_placeIn.f k x5 (rd x6 x7)).bind fun t145 => (if t145 < 0 then (if x5.length < 17592186044416 then ((some (x5 ++ [rd x6 x7] : List Int)).bind fun y147 => (if 0 ≤ (rd x6 x7) then (if (rd x6 x7) < (x137000.length : Int) then (if ((rd_T45 x137000 (rd x6 x7)).f0) = 2 then (if x6.length + ((rd_T45 x137000 (rd x6 x7)).f2).length < 17592186044416 then (spec_tupleReach.l0 k y147 (x6 ++ ((rd_T45 x137000 (rd x6 x7)).f2)) (wrap64 (x7 + 1)) x137000 x137001) else (none)) else (spec_tupleReach.l0 k y147 x6 (wrap64 (x7 + 1)) x137000 x137001)) else (none)) else (none))) else (none)) else (spec_tupleReach.l0 k x5 x6 (wrap64 (x7 + 1)) x137000 x137001))) else (none)) else (some x5)
def spec_tupleReach.f (k : Nat) (l0_0 : List (S45)) (a0_1 : Int) (a1 : Int) : Option (List Int) := if 0 ≤ a1 then (if a1 < (l0_0.length : Int) then ((spec_copyInts.f ((rd_T45 l0_0 a1).f2)).bind fun t141 => (spec_tupleReach.l0 k (([] : List Int)) t141 0 l0_0 a0_1)) else (none)) else (none)
set_option maxRecDepth 100000 in
theorem spec_tupleReach.mono_l : ∀ k,(∀ y0 y1 y2 y3 y4,LeO (spec_tupleReach.l0 k y0 y1 y2 y3 y4) (spec_tupleReach.l0 (k + 1) y0 y1 y2 y3 y4))
 | 0 => fun _ _ _ _ _ r h => (by cases h)
 | k + 1 => by
  have ih0 := spec_tupleReach.mono_l k
  ·intro y0 y1 y2 y3 y4
   unfold spec_tupleReach.l0
   repeat' first
   | (with_reducible exact ih0 _ _ _ _ _)
   | (with_reducible exact spec_placeIn.mono _ _ _)
   | (with_reducible exact LeO.refl _)
   | (with_reducible exact LeO.none _)
   | (with_reducible refine LeO.ite ?_ ?_)
   | (with_reducible refine LeO.bind ?_ (fun _ => ?_))
   | exact ih0 _ _ _ _ _
   | exact spec_placeIn.mono _ _ _
   | exact LeO.none _
   | refine LeO.ite ?_ ?_
   | refine LeO.bind ?_ (fun _ => ?_)
set_option maxRecDepth 100000 in
theorem spec_tupleReach.mono : ∀ a0 a1 a2 k,LeO (spec_tupleReach.f k a0 a1 a2) (spec_tupleReach.f (k + 1) a0 a1 a2) := by
 intro a0 a1 a2 k
 have ih0 := spec_tupleReach.mono_l k
 unfold spec_tupleReach.f
 repeat' first
   | (with_reducible exact ih0 _ _ _ _ _)
   | (with_reducible exact spec_placeIn.mono _ _ _)
   | (with_reducible exact LeO.refl _)
   | (with_reducible exact LeO.none _)
   | (with_reducible refine LeO.ite ?_ ?_)
   | (with_reducible refine LeO.bind ?_ (fun _ => ?_))
   | exact ih0 _ _ _ _ _
   | exact spec_placeIn.mono _ _ _
   | exact LeO.none _
   | refine LeO.ite ?_ ?_
   | refine LeO.bind ?_ (fun _ => ?_)
def spec_tupleReach.T8 : Bool × List (List Nat × List Nat) := (true,[([],[]),([0],[0]),([],[]),([],[]),([2,3],[2,3]),([4],[4]),([1,5],[1,5]),([6],[6]),([7],[7]),([8],[8])])
def spec_tupleReach.B8 : List Nat := [0,1,0,0,12,28,63,127,255,511]
theorem spec_tupleReach.tab8 : rtab .any (opsOf Try.f83 8) = spec_tupleReach.T8 := by kernel_rfl
theorem spec_tupleReach.bits8 : waitsOk spec_tupleReach.T8.2 spec_tupleReach.B8 = true := by kernel_rfl
def spec_tupleReach.T9 : Bool × List (List Nat × List Nat) := (true,[([],[]),([],[]),([1],[1]),([],[]),([],[]),([3,4],[3,4]),([5],[5]),([2,6],[2,6]),([7],[7]),([8],[8]),([0,9],[0,9]),([10,10,0,1,2,3,4,5,6,7,8,9,10],[0,3,10])])
def spec_tupleReach.B9 : List Nat := [0,0,2,0,0,24,56,126,254,510,1023,2047]
theorem spec_tupleReach.tab9 : rtab .any (opsOf Try.f83 9) = spec_tupleReach.T9 := by kernel_rfl
theorem spec_tupleReach.bits9 : waitsOk spec_tupleReach.T9.2 spec_tupleReach.B9 = true := by kernel_rfl
set_option maxHeartbeats 8000000 in
set_option maxRecDepth 100000 in
theorem spec_tupleReach.calls (k : Nat) (A0_0 : Option Addr) (c0_0 : Nat) (l0_0 : List (S45)) (a0_1 : Int) (a1 : Int) (r : List Int) (w : World) (hr0_0 : Kd.C k45 w A0_0 l0_0.length l0_0) (hc0_0 : l0_0.length ≤ c0_0) (h : spec_tupleReach.f k l0_0 a0_1 a1 = some r) :
  Calls Try.prog 83 #[.agg #[.slice A0_0 l0_0.length c0_0,.int .i64 a0_1],.int .i64 a1] w fun e w' => ∃ v0_ : Value,e = .returned (v0_) ∧ Kd.R (Kd.int .i64) 3 w' w.heap.size (fun _ => True) v0_ r ∧ Below w.heap.size w w' := by
 have hu29 := Try.underlying29
 have HR0_0 := As_ hr0_0
 have HC0_0 := As_ hc0_0
 clear hr0_0 hc0_0
 have HB := As_ (Below.refl w.heap.size w)
 have H : (if 0 ≤ a1 then (if a1 < (l0_0.length : Int) then ((spec_copyInts.f ((rd_T45 l0_0 a1).f2)).bind fun t141 => (spec_tupleReach.l0 k (([] : List Int)) t141 0 l0_0 a0_1)) else (none)) else (none)) = some r := h
 clear h
 obtain ⟨y137,hy137⟩ : ∃ y_ : List Int,y_ = (([] : List Int)) := ⟨_,rfl⟩
 replace H : (if 0 ≤ a1 then (if a1 < (l0_0.length : Int) then ((spec_copyInts.f ((rd_T45 l0_0 a1).f2)).bind fun t141 => (spec_tupleReach.l0 k y137 t141 0 l0_0 a0_1)) else (none)) else (none)) = some r := zH_ H hy137
 have Ny137 := As_ hy137
 clear hy137
 by_cases c3 : 0 ≤ a1
 rotate_left
 ·rw [if_neg c3] at H
  exact absurd H (by simp)
 rw [if_pos c3] at H
 have c3b0 : decide (0 ≤ a1) = true := deT c3
 clear c3
 by_cases c4 : a1 < (l0_0.length : Int)
 rotate_left
 ·rw [if_neg c4] at H
  exact absurd H (by simp)
 rw [if_pos c4] at H
 have c4b0 : decide (a1 < (l0_0.length : Int)) = true := deT c4
 clear c4
 replace H := obS H
 obtain ⟨t141,A50,H⟩ := H
 replace H : (spec_tupleReach.l0 k y137 t141 0 l0_0 a0_1) = some r := H
 have A5 := As_ A50
 clear A50
 have H' := As_ H
 clear H
 go_enter Try.func83,Try.ntmps83
 go_wp2_with (first|((with_reducible refine gate_dst (N := 2) rfl ?_);refine box_event ?hg (N := 2) ?hd (cs := #[.slice A0_0 l0_0.length c0_0,.int .i64 a0_1]) (t := 29) ?hr ?_;(case hd => rfl);(case hg => rfl);(case hr => go_simp <;> rfl);intro gb136 hg w6 hbox hb;have n0_ := As_ (bwT (zb0 HB.out) hb);have n1_ := As_ (hbox);have n2_ := As_ ((by rw [hg];exact (bwZ (zb0 HB.out)) : w.heap.size ≤ gb136));have n3_ := As_ ((by rw [hg];exact (bwZ (zb0 HB.out)) : w.heap.size ≤ gb136));clear HB;revert n0_ n1_ n2_ n3_;intro HB BK136 GW136 GE136;clear hb hbox hg)|((with_reducible refine gate_dst (N := 8) rfl ?_);refine Kd.R_lit (Kd.int .i64) _ 3 ?hg (N := 8) ?hd (xs := ([] : List Int)) (inner := []) (ok := fun _ => True) (okp := fun _ => True) ?hr ?hp (fun _ hk => hk) trivial (Below.refl _ _) (Nat.le_refl _) (by simp) ?_;(case hd => rfl);(case hg => rfl);(case hr => go_simp <;> rfl);(case hp => exact (Reps.none _ _));intro v138 w7 ho8 hb hg_ hnew_;clear hg_ hnew_;(first|rw [← Ny137.out] at ho8|(simp only [Int.reduceToNat] at ho8;rw [← Ny137.out] at ho8));have n0_ := As_ (Kd.R_lower ho8 (bwZ (zb1 HB.out GE136.out)));have n1_ := As_ (zkb BK136.out hb);have n2_ := As_ (bwT (zb1 HB.out GE136.out) hb);clear BK136 HB;revert n0_ n1_ n2_;intro HO139 BK136 HB;clear hb ho8;obtain ⟨hcz9_0,hcz9_1,hfz9_0,hfz9_1⟩ := bk2 BK136.out;have p140 : 0 ≤ (a1 : Int) := odT zA_;have q140 : a1 < (l0_0.length : Int) := odT zA_;obtain ⟨ad140,A140_2,c140_2,e140,hx140_0,hx140_1,hx140_2,hl140_2,hi140_2⟩ := at_T45 HR0_0.out a1 p140 q140;cases e140;replace hx140_0 := bwC HB.out hx140_0;replace hx140_1 := bwC HB.out hx140_1;replace hx140_2 := bwC HB.out hx140_2;have HR140_2 := As_ hi140_2;have HC140_2 := As_ hl140_2;clear hi140_2 hl140_2;replace p140 := eq_true p140;replace q140 := eq_true q140)|((with_reducible refine gate_callee (f := 78) rfl ?_);refine goesL_ (some 15) rfl rfl Try.func78 (by kernel_rfl) rfl #[.slice A140_2 ((rd_T45 l0_0 a1).f2).length c140_2] rfl zM_ ?_;(with_reducible refine (spec_copyInts.calls _ _ ((rd_T45 l0_0 a1).f2) t141 _ ?side1 ?side2 A5.out).mono ?_);(case side1 => exact zC_ (Kd.C_below HR140_2.out HB.out));(case side2 => exact HC140_2.out);rintro e w10 ⟨v142,rfl,ho0,hb⟩;refine ⟨_,rfl,?_⟩;have n0_ := As_ (Kd.R_elder' (zR_ HO139.out) (Kd.R_base ho0) hb);have n1_ := As_ (Kd.R_lower (Kd.R_new' ho0 (Kd.R_lt (zR_ HO139.out))) (bwZ (zb1 HB.out GE136.out)));have n2_ := As_ (zkb BK136.out hb);have n3_ := As_ (bwT (zb1 HB.out GE136.out) hb);clear HO139 BK136 HB;revert n0_ n1_ n2_ n3_;intro HO139 HO143 BK136 HB))
 go_loopg [5,6,7] k (fun kq v5 v6 v7 w' => ∃ (x5_1 : List Int) (x6_1 : List Int) (x7_1 : Int),v7 = .int .i64 x7_1 ∧ Aside0 (spec_tupleReach.l0 kq x5_1 x6_1 x7_1 l0_0 a0_1 = some r) ∧ Aside0 (kq ≤ k) ∧ Aside0 (Kd.R (Kd.int .i64) 3 w' w.heap.size (fun k_ => some k_ ≠ (v6 : Value).ownBlock) v5 x5_1) ∧ Aside0 (Kd.R (Kd.int .i64) 3 w' w.heap.size (fun k_ => some k_ ≠ (v5 : Value).ownBlock) v6 x6_1) ∧ Aside0 (w'.heap[gb136]? = some (.cells #[(.slice (some ad140) l0_0.length c0_0),.int .i64 a0_1] 29 (0,0))) ∧ Aside0 (Below w.heap.size w w'))
 case atStart => exact ⟨(y137),(t141),(0),zT_,H',⟨Nat.le_refl _⟩,⟨by (with_reducible repeat (first|apply Kd.R_alloc|apply Kd.R_drewN|apply Kd.R_drew));exact Kd.R_mono HO139.out (fun _ hk => hk.2)⟩,⟨by (with_reducible repeat (first|apply Kd.R_alloc|apply Kd.R_drewN|apply Kd.R_drew));exact Kd.R_mono HO143.out (fun _ hk => hk.2)⟩,⟨by (with_reducible repeat first|apply bkN|apply bkD|apply bkA);exact BK136.out⟩,⟨zb1 HB.out GE136.out⟩⟩
 case round =>
  clear H'
  obtain ⟨x5_1,x6_1,x7_1,rfl,HA,HK1,HO_5,HO_6,BK136,HB⟩ := hrel
  cases gk with
  | zero => exact absurd HA.out (fun h_ => (by cases h_))
  | succ k1 =>
   have H := HA.out
   clear HA
   simp only [spec_tupleReach.l0] at H
   by_cases c11 : x7_1 < (x6_1.length : Int)
   rotate_left
   ·rw [if_neg c11] at H
    have c11b0 : decide (x7_1 < (x6_1.length : Int)) = false := deF c11
    clear c11
    obtain rfl := Option.some.inj H
    obtain ⟨Ao32,co32,eo32⟩ := Kd.R_slice HO_6.out
    subst eo32
    go_wp2
    go_ret
    exact ⟨_,zE_,by (with_reducible repeat (first|apply Kd.R_alloc|apply Kd.R_drewN|apply Kd.R_drew));exact Kd.R_mono HO_5.out (fun _ hk => trivial),zb1 HB.out GE136.out⟩

   rw [if_pos c11] at H
   have c11b0 : decide (x7_1 < (x6_1.length : Int)) = true := deT c11
   clear c11
   by_cases c12 : 0 ≤ x7_1
   rotate_left
   ·rw [if_neg c12] at H
    exact absurd H (by simp)
   rw [if_pos c12] at H
   have c12b0 : decide (0 ≤ x7_1) = true := deT c12
   clear c12
   replace H := obS H
   obtain ⟨t145,A130,H⟩ := H
   replace H : (if t145 < 0 then (if x5_1.length < 17592186044416 then ((some (x5_1 ++ [rd x6_1 x7_1] : List Int)).bind fun y147 => (if 0 ≤ (rd x6_1 x7_1) then (if (rd x6_1 x7_1) < (l0_0.length : Int) then (if ((rd_T45 l0_0 (rd x6_1 x7_1)).f0) = 2 then (if x6_1.length + ((rd_T45 l0_0 (rd x6_1 x7_1)).f2).length < 17592186044416 then (spec_tupleReach.l0 k1 y147 (x6_1 ++ ((rd_T45 l0_0 (rd x6_1 x7_1)).f2)) (wrap64 (x7_1 + 1)) l0_0 a0_1) else (none)) else (spec_tupleReach.l0 k1 y147 x6_1 (wrap64 (x7_1 + 1)) l0_0 a0_1)) else (none)) else (none))) else (none)) else (spec_tupleReach.l0 k1 x5_1 x6_1 (wrap64 (x7_1 + 1)) l0_0 a0_1)) = some r := H
   have A13 := As_ A130
   clear A130
   by_cases c14 : t145 < 0
   rotate_left
   ·rw [if_neg c14] at H
    have c14b0 : decide (t145 < 0) = false := deF c14
    clear c14
    have H' := As_ H
    clear H
    obtain ⟨Ao30,co30,eo30⟩ := Kd.R_slice HO_6.out
    subst eo30
    have p144 : 0 ≤ (x7_1 : Int) := odT zA_
    have q144 : x7_1 < (x6_1.length : Int) := odT zA_
    obtain ⟨ad144,e144,hx144_0⟩ := Kd.at_int (Kd.R_reads' HO_6.out).2.2 x7_1 p144 q144
    cases e144
    replace p144 := eq_true p144
    replace q144 := eq_true q144
    obtain ⟨Ao31,co31,eo31⟩ := Kd.R_slice HO_5.out
    subst eo31
    go_wp2_with (first|((with_reducible refine gate_callee (f := 82) rfl ?_);refine goesL_ (some 27) rfl rfl Try.func82 (by kernel_rfl) rfl #[.slice Ao31 x5_1.length co31,.int .i64 (rd x6_1 x7_1)] rfl zM_ ?_;(with_reducible refine (spec_placeIn.calls k1 _ _ x5_1 (rd x6_1 x7_1) t145 _ ?side1 ?side2 A13.out).mono ?_);(case side1 => exact zC_ (Kd.R_reads' HO_5.out).2.2);(case side2 => exact (Kd.R_reads' HO_5.out).2.1);rintro e w' ⟨rfl,⟨nd,rfl⟩⟩;refine ⟨_,rfl,?_⟩))
    go_roundg k1
    case measure => have := HK1.out;omega
    case rel => exact ⟨(x5_1),(x6_1),(wrap64 (x7_1 + 1)),zT_,H',⟨by have := HK1.out;omega⟩,⟨by (with_reducible repeat (first|apply Kd.R_alloc|apply Kd.R_drewN|apply Kd.R_drew));exact HO_5.out⟩,⟨by (with_reducible repeat (first|apply Kd.R_alloc|apply Kd.R_drewN|apply Kd.R_drew));exact HO_6.out⟩,⟨by (with_reducible repeat first|apply bkN|apply bkD|apply bkA);exact BK136.out⟩,⟨zb1 HB.out GE136.out⟩⟩
   rw [if_pos c14] at H
   have c14b0 : decide (t145 < 0) = true := deT c14
   clear c14
   by_cases c15 : x5_1.length < 17592186044416
   rotate_left
   ·rw [if_neg c15] at H
    exact absurd H (by simp)
   rw [if_pos c15] at H
   have LMc15 := As_ c15
   clear c15
   obtain ⟨y147,hy147⟩ : ∃ y_ : List Int,y_ = (x5_1 ++ [rd x6_1 x7_1]) := ⟨_,rfl⟩
   replace H : (if 0 ≤ (rd x6_1 x7_1) then (if (rd x6_1 x7_1) < (l0_0.length : Int) then (if ((rd_T45 l0_0 (rd x6_1 x7_1)).f0) = 2 then (if x6_1.length + ((rd_T45 l0_0 (rd x6_1 x7_1)).f2).length < 17592186044416 then (spec_tupleReach.l0 k1 y147 (x6_1 ++ ((rd_T45 l0_0 (rd x6_1 x7_1)).f2)) (wrap64 (x7_1 + 1)) l0_0 a0_1) else (none)) else (spec_tupleReach.l0 k1 y147 x6_1 (wrap64 (x7_1 + 1)) l0_0 a0_1)) else (none)) else (none)) = some r := zH_ H hy147
   have Ny147 := As_ hy147
   clear hy147
   by_cases c16 : 0 ≤ (rd x6_1 x7_1)
   rotate_left
   ·rw [if_neg c16] at H
    exact absurd H (by simp)
   rw [if_pos c16] at H
   have c16b0 : decide (0 ≤ (rd x6_1 x7_1)) = true := deT c16
   clear c16
   by_cases c17 : (rd x6_1 x7_1) < (l0_0.length : Int)
   rotate_left
   ·rw [if_neg c17] at H
    exact absurd H (by simp)
   rw [if_pos c17] at H
   have c17b0 : decide ((rd x6_1 x7_1) < (l0_0.length : Int)) = true := deT c17
   clear c17
   by_cases c18 : ((rd_T45 l0_0 (rd x6_1 x7_1)).f0) = 2
   rotate_left
   ·rw [if_neg c18] at H
    have c18b0 : (((rd_T45 l0_0 (rd x6_1 x7_1)).f0) == 2) = false := beq_eq_false_iff_ne.mpr c18
    have c18b1 : (((rd_T45 l0_0 (rd x6_1 x7_1)).f0) != 2) = true := bne_iff_ne.mpr c18
    have H' := As_ H
    clear H
    obtain ⟨Ao26,co26,eo26⟩ := Kd.R_slice HO_6.out
    subst eo26
    have p144 : 0 ≤ (x7_1 : Int) := odT zA_
    have q144 : x7_1 < (x6_1.length : Int) := odT zA_
    obtain ⟨ad144,e144,hx144_0⟩ := Kd.at_int (Kd.R_reads' HO_6.out).2.2 x7_1 p144 q144
    cases e144
    replace p144 := eq_true p144
    replace q144 := eq_true q144
    obtain ⟨Ao27,co27,eo27⟩ := Kd.R_slice HO_5.out
    subst eo27
    try go_wp2_with (first|((with_reducible refine gate_callee (f := 82) rfl ?_);refine goesL_ (some 27) rfl rfl Try.func82 (by kernel_rfl) rfl #[.slice Ao27 x5_1.length co27,.int .i64 (rd x6_1 x7_1)] rfl zM_ ?_;(with_reducible refine (spec_placeIn.calls k1 _ _ x5_1 (rd x6_1 x7_1) t145 _ ?side1 ?side2 A13.out).mono ?_);(case side1 => exact zC_ (Kd.R_reads' HO_5.out).2.2);(case side2 => exact (Kd.R_reads' HO_5.out).2.1);rintro e w' ⟨rfl,⟨nd,rfl⟩⟩;refine ⟨_,rfl,?_⟩;have p146 : 0 ≤ (x7_1 : Int) := odT zA_;have q146 : x7_1 < (x6_1.length : Int) := odT zA_;obtain ⟨ad146,e146,hx146_0⟩ := Kd.at_int (Kd.R_reads' HO_6.out).2.2 x7_1 p146 q146;obtain rfl : ad144 = ad146 := (by injection e146);replace p146 := eq_true p146;replace q146 := eq_true q146)|((with_reducible refine gate_builtin (b := .append) (xs := #[.tmp 29,.tmp 34]) rfl ?_);at_builtin;refine Kd.R_append (Kd.int .i64) (w0 := w) w.heap.size rfl (.tmp 29) (.tmp 34) 37 3 (.int .i64 0) 8 rfl Try.underlying37 info3 rfl (by decide) (by omega) (.slice Ao27 x5_1.length co27) x5_1 (rd x6_1 x7_1) [.int .i64 (rd x6_1 x7_1)] (fun k_ => some k_ ≠ (.slice (some ad144) x6_1.length co26 : Value).ownBlock) (fun _ => False) rfl rfl ?aP (fun _ hk => hk.elim) ?aF ?aO ?aB ?aS ?aL ?_;(case aP => exact rfl);(case aB => exact (zb1 HB.out GE136.out));(case aF => exact (fun k_ hk => Kd.fresh' (Kd.R_lt (zR_ HO_6.out)) k_ hk));(case aO => exact (zR_ HO_5.out));(case aS => exact (bwZ (zb1 HB.out GE136.out)));(case aL => have := LMc15.out;omega);intro v148 w28 ho hb hg hat;rw [← Ny147.out] at ho;have n0_ := As_ (Kd.R_after (ok := (fun _ => True)) (by (with_reducible repeat (first|apply Kd.R_alloc|apply Kd.R_drewN|apply Kd.R_drew));exact Kd.R_mono HO_6.out (fun _ hk => ⟨trivial,hk⟩)) hg hat);have n1_ := As_ (blk_grown (g := gb136) (o := .cells #[.slice (some ad140) l0_0.length c0_0,.int .i64 a0_1] 29 (0,0)) (zk_ BK136.out) hg (Kd.R_ne HO_5.out BK136.out (by decide)));have n2_ := As_ (hb);have n3_ := As_ (ho);clear HO_6 BK136 HB HO_5;revert n0_ n1_ n2_ n3_;intro HO_6 BK136 HB HO149;clear ho hb hg hat))
    have n0_ := As_ (Kd.R_drew HO_6.out)
    have n1_ := As_ (Kd.R_drew HO149.out)
    have n2_ := As_ (bkD BK136.out)
    have n3_ := As_ (bwD HB.out)
    clear HO_6 HO149 BK136 HB
    revert n0_ n1_ n2_ n3_;intro HO_6 HO149 BK136 HB
    have p150 : 0 ≤ (x7_1 : Int) := odT zA_
    have q150 : x7_1 < (x6_1.length : Int) := odT zA_
    obtain ⟨ad150,e150,hx150_0⟩ := Kd.at_int (Kd.R_reads' HO_6.out).2.2 x7_1 p150 q150
    obtain rfl : ad144 = ad150 := (by injection e150)
    replace p150 := eq_true p150
    replace q150 := eq_true q150
    have p151 : 0 ≤ ((rd x6_1 x7_1) : Int) := odT zA_
    have q151 : (rd x6_1 x7_1) < (l0_0.length : Int) := odT zA_
    obtain ⟨ad151,A151_2,c151_2,e151,hx151_0,hx151_1,hx151_2,hl151_2,hi151_2⟩ := at_T45 HR0_0.out (rd x6_1 x7_1) p151 q151
    have hw151_2 := hx151_2
    have hw151_1 := hx151_1
    have hw151_0 := hx151_0
    obtain rfl : ad140 = ad151 := (by injection e151)
    replace hx151_0 := bwC HB.out hx151_0
    replace hx151_1 := bwC HB.out hx151_1
    replace hx151_2 := bwC HB.out hx151_2
    have HR151_2 := As_ hi151_2
    have HC151_2 := As_ hl151_2
    clear hi151_2 hl151_2
    replace p151 := eq_true p151
    replace q151 := eq_true q151
    refine start_ (n := 10) (S := fun w' => w'.cell? ⟨gb136,0,none⟩ = some (.slice (some ad140) l0_0.length c0_0) ∧ w'.cell? ⟨gb136,1,none⟩ = some (.int .i64 a0_1) ∧ w'.cell? (ad144.add (x7_1).toNat) = some (.int .i64 (rd x6_1 x7_1)) ∧ w'.cell? (ad140.add (((rd x6_1 x7_1)).toNat * 3)) = some (.int .i64 ((rd_T45 l0_0 (rd x6_1 x7_1)).f0)) ∧ w'.cell? ⟨(ad140.add (((rd x6_1 x7_1)).toNat * 3)).block,(ad140.add (((rd x6_1 x7_1)).toNat * 3)).off + 1,none⟩ = some (.int .i64 ((rd_T45 l0_0 (rd x6_1 x7_1)).f1)) ∧ w'.cell? ⟨(ad140.add (((rd x6_1 x7_1)).toNat * 3)).block,(ad140.add (((rd x6_1 x7_1)).toNat * 3)).off + 2,none⟩ = some (.slice A151_2 ((rd_T45 l0_0 (rd x6_1 x7_1)).f2).length c151_2)) (ds := []) (bl_ 0 10) (by kernel_rfl) rfl rfl ⟨(bkC BK136.out 0).trans rfl,(bkC BK136.out 1).trans rfl,hx150_0,((HB.out.cell (bwL w _ hw151_0)).trans hw151_0),((HB.out.cell (bwL w _ hw151_1)).trans hw151_1),((HB.out.cell (bwL w _ hw151_2)).trans hw151_2)⟩ (fun hHeld => ?_);refine with_tabW spec_tupleReach.tab8 spec_tupleReach.bits8 (fun HT_ HW_ => ?_)
    generalize w28.drew = w29 at HO_6 HO149 BK136 HB HR151_2 hx150_0 hx151_0 hx151_1 hx151_2 hHeld ⊢
    refine pQ 0 36 (bl_ 1 10) HT_ rfl ?_
    refine pQ 2 38 (bl_ 5 10) HT_ rfl ?_
    refine pQ 3 39 (bl_ 13 10) HT_ rfl ?_
    refine pQ 4 40 (bl_ 29 10) HT_ rfl ?_
    refine tP 1 37 (bl_ 31 10) ?_ HT_ HW_ rfl (.inl ⟨by rfl,?_⟩) hHeld ?_ ?_ ?_;rotate_left;(rintro w' ⟨s0,s1,s2,s3,s4,s5⟩;go_simp;with_reducible rfl);rotate_left;(simp only [Act.put,sq_,i64_w,i32_w];rfl)
    refine tP 5 41 (bl_ 63 10) ?_ HT_ HW_ rfl (.inl ⟨by rfl,?_⟩) hHeld ?_ ?_ ?_;rotate_left;(rintro w' ⟨s0,s1,s2,s3,s4,s5⟩;go_simp;with_reducible rfl);rotate_left;(simp only [Act.put,sq_,i64_w,i32_w];rfl)
    refine pQ 6 42 (bl_ 127 10) HT_ rfl ?_
    refine pQ 7 43 (bl_ 255 10) HT_ rfl ?_
    refine tP 8 44 (bl_ 511 10) ?_ HT_ HW_ rfl (.inl ⟨by rfl,?_⟩) hHeld ?_ ?_ ?_;rotate_left;(rintro w' ⟨s0,s1,s2,s3,s4,s5⟩;go_simp;with_reducible rfl);rotate_left;(simp only [Act.put,sq_,i64_w,i32_w];rfl)
    refine pQ 9 45 (bl_ 1023 10) HT_ rfl ?_
    refine done_ (done_of HT_.out (by kernel_rfl)) ?_
    try go_wp2
    go_roundg k1
    case measure => have := HK1.out;omega
    case rel => exact ⟨(y147),(x6_1),(wrap64 (x7_1 + 1)),zT_,H',⟨by have := HK1.out;omega⟩,⟨by (with_reducible repeat (first|apply Kd.R_alloc|apply Kd.R_drewN|apply Kd.R_drew));exact HO149.out⟩,⟨by (with_reducible repeat (first|apply Kd.R_alloc|apply Kd.R_drewN|apply Kd.R_drew));exact Kd.R_mono HO_6.out (fun _ hk => hk.2)⟩,⟨by (with_reducible repeat first|apply bkN|apply bkD|apply bkA);exact BK136.out⟩,⟨zb1 HB.out GE136.out⟩⟩
   rw [if_pos c18] at H
   have c18b0 : (((rd_T45 l0_0 (rd x6_1 x7_1)).f0) == 2) = true := beq_iff_eq.mpr c18
   have c18b1 : (((rd_T45 l0_0 (rd x6_1 x7_1)).f0) != 2) = false := bne_eq_false_iff_eq.mpr c18
   clear c18
   by_cases c19 : x6_1.length + ((rd_T45 l0_0 (rd x6_1 x7_1)).f2).length < 17592186044416
   rotate_left
   ·rw [if_neg c19] at H
    exact absurd H (by simp)
   rw [if_pos c19] at H
   have LMc19 := As_ c19
   clear c19
   obtain ⟨y154,hy154⟩ : ∃ y_ : List Int,y_ = (x6_1 ++ ((rd_T45 l0_0 (rd x6_1 x7_1)).f2)) := ⟨_,rfl⟩
   replace H : (spec_tupleReach.l0 k1 y147 y154 (wrap64 (x7_1 + 1)) l0_0 a0_1) = some r := zH_ H hy154
   have Ny154 := As_ hy154
   clear hy154
   have H' := As_ H
   clear H
   obtain ⟨Ao20,co20,eo20⟩ := Kd.R_slice HO_6.out
   subst eo20
   have p144 : 0 ≤ (x7_1 : Int) := odT zA_
   have q144 : x7_1 < (x6_1.length : Int) := odT zA_
   obtain ⟨ad144,e144,hx144_0⟩ := Kd.at_int (Kd.R_reads' HO_6.out).2.2 x7_1 p144 q144
   cases e144
   replace p144 := eq_true p144
   replace q144 := eq_true q144
   obtain ⟨Ao21,co21,eo21⟩ := Kd.R_slice HO_5.out
   subst eo21
   try go_wp2_with (first|((with_reducible refine gate_callee (f := 82) rfl ?_);refine goesL_ (some 27) rfl rfl Try.func82 (by kernel_rfl) rfl #[.slice Ao21 x5_1.length co21,.int .i64 (rd x6_1 x7_1)] rfl zM_ ?_;(with_reducible refine (spec_placeIn.calls k1 _ _ x5_1 (rd x6_1 x7_1) t145 _ ?side1 ?side2 A13.out).mono ?_);(case side1 => exact zC_ (Kd.R_reads' HO_5.out).2.2);(case side2 => exact (Kd.R_reads' HO_5.out).2.1);rintro e w' ⟨rfl,⟨nd,rfl⟩⟩;refine ⟨_,rfl,?_⟩;have p146 : 0 ≤ (x7_1 : Int) := odT zA_;have q146 : x7_1 < (x6_1.length : Int) := odT zA_;obtain ⟨ad146,e146,hx146_0⟩ := Kd.at_int (Kd.R_reads' HO_6.out).2.2 x7_1 p146 q146;obtain rfl : ad144 = ad146 := (by injection e146);replace p146 := eq_true p146;replace q146 := eq_true q146)|((with_reducible refine gate_builtin (b := .append) (xs := #[.tmp 29,.tmp 34]) rfl ?_);at_builtin;refine Kd.R_append (Kd.int .i64) (w0 := w) w.heap.size rfl (.tmp 29) (.tmp 34) 37 3 (.int .i64 0) 8 rfl Try.underlying37 info3 rfl (by decide) (by omega) (.slice Ao21 x5_1.length co21) x5_1 (rd x6_1 x7_1) [.int .i64 (rd x6_1 x7_1)] (fun k_ => some k_ ≠ (.slice (some ad144) x6_1.length co20 : Value).ownBlock) (fun _ => False) rfl rfl ?aP (fun _ hk => hk.elim) ?aF ?aO ?aB ?aS ?aL ?_;(case aP => exact rfl);(case aB => exact (zb1 HB.out GE136.out));(case aF => exact (fun k_ hk => Kd.fresh' (Kd.R_lt (zR_ HO_6.out)) k_ hk));(case aO => exact (zR_ HO_5.out));(case aS => exact (bwZ (zb1 HB.out GE136.out)));(case aL => have := LMc15.out;omega);intro v148 w22 ho hb hg hat;rw [← Ny147.out] at ho;have n0_ := As_ (Kd.R_after (ok := (fun _ => True)) (by (with_reducible repeat (first|apply Kd.R_alloc|apply Kd.R_drewN|apply Kd.R_drew));exact Kd.R_mono HO_6.out (fun _ hk => ⟨trivial,hk⟩)) hg hat);have n1_ := As_ (blk_grown (g := gb136) (o := .cells #[.slice (some ad140) l0_0.length c0_0,.int .i64 a0_1] 29 (0,0)) (zk_ BK136.out) hg (Kd.R_ne HO_5.out BK136.out (by decide)));have n2_ := As_ (hb);have n3_ := As_ (ho);clear HO_6 BK136 HB HO_5;revert n0_ n1_ n2_ n3_;intro HO_6 BK136 HB HO149;clear ho hb hg hat))
   have n0_ := As_ (Kd.R_drew HO_6.out)
   have n1_ := As_ (Kd.R_drew HO149.out)
   have n2_ := As_ (bkD BK136.out)
   have n3_ := As_ (bwD HB.out)
   clear HO_6 HO149 BK136 HB
   revert n0_ n1_ n2_ n3_;intro HO_6 HO149 BK136 HB
   have p150 : 0 ≤ (x7_1 : Int) := odT zA_
   have q150 : x7_1 < (x6_1.length : Int) := odT zA_
   obtain ⟨ad150,e150,hx150_0⟩ := Kd.at_int (Kd.R_reads' HO_6.out).2.2 x7_1 p150 q150
   obtain rfl : ad144 = ad150 := (by injection e150)
   replace p150 := eq_true p150
   replace q150 := eq_true q150
   have p151 : 0 ≤ ((rd x6_1 x7_1) : Int) := odT zA_
   have q151 : (rd x6_1 x7_1) < (l0_0.length : Int) := odT zA_
   obtain ⟨ad151,A151_2,c151_2,e151,hx151_0,hx151_1,hx151_2,hl151_2,hi151_2⟩ := at_T45 HR0_0.out (rd x6_1 x7_1) p151 q151
   have hw151_2 := hx151_2
   have hw151_1 := hx151_1
   have hw151_0 := hx151_0
   obtain rfl : ad140 = ad151 := (by injection e151)
   replace hx151_0 := bwC HB.out hx151_0
   replace hx151_1 := bwC HB.out hx151_1
   replace hx151_2 := bwC HB.out hx151_2
   have HR151_2 := As_ hi151_2
   have HC151_2 := As_ hl151_2
   clear hi151_2 hl151_2
   replace p151 := eq_true p151
   replace q151 := eq_true q151
   refine start_ (n := 10) (S := fun w' => w'.cell? ⟨gb136,0,none⟩ = some (.slice (some ad140) l0_0.length c0_0) ∧ w'.cell? ⟨gb136,1,none⟩ = some (.int .i64 a0_1) ∧ w'.cell? (ad144.add (x7_1).toNat) = some (.int .i64 (rd x6_1 x7_1)) ∧ w'.cell? (ad140.add (((rd x6_1 x7_1)).toNat * 3)) = some (.int .i64 ((rd_T45 l0_0 (rd x6_1 x7_1)).f0)) ∧ w'.cell? ⟨(ad140.add (((rd x6_1 x7_1)).toNat * 3)).block,(ad140.add (((rd x6_1 x7_1)).toNat * 3)).off + 1,none⟩ = some (.int .i64 ((rd_T45 l0_0 (rd x6_1 x7_1)).f1)) ∧ w'.cell? ⟨(ad140.add (((rd x6_1 x7_1)).toNat * 3)).block,(ad140.add (((rd x6_1 x7_1)).toNat * 3)).off + 2,none⟩ = some (.slice A151_2 ((rd_T45 l0_0 (rd x6_1 x7_1)).f2).length c151_2)) (ds := []) (bl_ 0 10) (by kernel_rfl) rfl rfl ⟨(bkC BK136.out 0).trans rfl,(bkC BK136.out 1).trans rfl,hx150_0,((HB.out.cell (bwL w _ hw151_0)).trans hw151_0),((HB.out.cell (bwL w _ hw151_1)).trans hw151_1),((HB.out.cell (bwL w _ hw151_2)).trans hw151_2)⟩ (fun hHeld => ?_);refine with_tabW spec_tupleReach.tab8 spec_tupleReach.bits8 (fun HT_ HW_ => ?_)
   generalize w22.drew = w23 at HO_6 HO149 BK136 HB HR151_2 hx150_0 hx151_0 hx151_1 hx151_2 hHeld ⊢
   refine pQ 0 36 (bl_ 1 10) HT_ rfl ?_
   refine pQ 2 38 (bl_ 5 10) HT_ rfl ?_
   refine pQ 3 39 (bl_ 13 10) HT_ rfl ?_
   refine pQ 4 40 (bl_ 29 10) HT_ rfl ?_
   refine tP 1 37 (bl_ 31 10) ?_ HT_ HW_ rfl (.inl ⟨by rfl,?_⟩) hHeld ?_ ?_ ?_;rotate_left;(rintro w' ⟨s0,s1,s2,s3,s4,s5⟩;go_simp;with_reducible rfl);rotate_left;(simp only [Act.put,sq_,i64_w,i32_w];rfl)
   refine tP 5 41 (bl_ 63 10) ?_ HT_ HW_ rfl (.inl ⟨by rfl,?_⟩) hHeld ?_ ?_ ?_;rotate_left;(rintro w' ⟨s0,s1,s2,s3,s4,s5⟩;go_simp;with_reducible rfl);rotate_left;(simp only [Act.put,sq_,i64_w,i32_w];rfl)
   refine pQ 6 42 (bl_ 127 10) HT_ rfl ?_
   refine pQ 7 43 (bl_ 255 10) HT_ rfl ?_
   refine tP 8 44 (bl_ 511 10) ?_ HT_ HW_ rfl (.inl ⟨by rfl,?_⟩) hHeld ?_ ?_ ?_;rotate_left;(rintro w' ⟨s0,s1,s2,s3,s4,s5⟩;go_simp;with_reducible rfl);rotate_left;(simp only [Act.put,sq_,i64_w,i32_w];rfl)
   refine pQ 9 45 (bl_ 1023 10) HT_ rfl ?_
   refine done_ (done_of HT_.out (by kernel_rfl)) ?_
   try go_wp2
   have n0_ := As_ (Kd.R_drew HO_6.out)
   have n1_ := As_ (Kd.R_drew HO149.out)
   have n2_ := As_ (bkD BK136.out)
   have n3_ := As_ (bwD HB.out)
   clear HO_6 HO149 BK136 HB
   revert n0_ n1_ n2_ n3_;intro HO_6 HO149 BK136 HB
   have p152 : 0 ≤ (x7_1 : Int) := odT zA_
   have q152 : x7_1 < (x6_1.length : Int) := odT zA_
   obtain ⟨ad152,e152,hx152_0⟩ := Kd.at_int (Kd.R_reads' HO_6.out).2.2 x7_1 p152 q152
   obtain rfl : ad144 = ad152 := (by injection e152)
   replace p152 := eq_true p152
   replace q152 := eq_true q152
   have p153 : 0 ≤ ((rd x6_1 x7_1) : Int) := odT zA_
   have q153 : (rd x6_1 x7_1) < (l0_0.length : Int) := odT zA_
   obtain ⟨ad153,A153_2,c153_2,e153,hx153_0,hx153_1,hx153_2,hl153_2,hi153_2⟩ := at_T45 HR0_0.out (rd x6_1 x7_1) p153 q153
   have hw153_2 := hx153_2
   have hw153_1 := hx153_1
   have hw153_0 := hx153_0
   obtain rfl : ad140 = ad153 := (by injection e153)
   replace hx153_0 := bwC HB.out hx153_0
   replace hx153_1 := bwC HB.out hx153_1
   replace hx153_2 := bwC HB.out hx153_2
   have HR153_2 := As_ hi153_2
   have HC153_2 := As_ hl153_2
   clear hi153_2 hl153_2
   replace p153 := eq_true p153
   replace q153 := eq_true q153
   refine start_ (n := 12) (S := fun w' => w'.cell? ⟨gb136,0,none⟩ = some (.slice (some ad140) l0_0.length c0_0) ∧ w'.cell? ⟨gb136,1,none⟩ = some (.int .i64 a0_1) ∧ w'.cell? (ad144.add (x7_1).toNat) = some (.int .i64 (rd x6_1 x7_1)) ∧ w'.cell? (ad140.add (((rd x6_1 x7_1)).toNat * 3)) = some (.int .i64 ((rd_T45 l0_0 (rd x6_1 x7_1)).f0)) ∧ w'.cell? ⟨(ad140.add (((rd x6_1 x7_1)).toNat * 3)).block,(ad140.add (((rd x6_1 x7_1)).toNat * 3)).off + 1,none⟩ = some (.int .i64 ((rd_T45 l0_0 (rd x6_1 x7_1)).f1)) ∧ w'.cell? ⟨(ad140.add (((rd x6_1 x7_1)).toNat * 3)).block,(ad140.add (((rd x6_1 x7_1)).toNat * 3)).off + 2,none⟩ = some (.slice A153_2 ((rd_T45 l0_0 (rd x6_1 x7_1)).f2).length c153_2)) (ds := [10]) (bl_ 0 12) (by kernel_rfl) rfl rfl ⟨(bkC BK136.out 0).trans rfl,(bkC BK136.out 1).trans rfl,hx152_0,((HB.out.cell (bwL w _ hw153_0)).trans hw153_0),((HB.out.cell (bwL w _ hw153_1)).trans hw153_1),((HB.out.cell (bwL w _ hw153_2)).trans hw153_2)⟩ (fun hHeld => ?_);refine with_tabW spec_tupleReach.tab9 spec_tupleReach.bits9 (fun HT_ HW_ => ?_)
   generalize w23.drew = w24 at HO_6 HO149 BK136 HB HR153_2 hx152_0 hx153_0 hx153_1 hx153_2 hHeld ⊢
   refine pQ 0 46 (bl_ 1 12) HT_ rfl ?_
   refine pQ 1 47 (bl_ 3 12) HT_ rfl ?_
   refine pQ 3 49 (bl_ 11 12) HT_ rfl ?_
   refine pQ 4 50 (bl_ 27 12) HT_ rfl ?_
   refine pQ 5 51 (bl_ 59 12) HT_ rfl ?_
   refine tP 2 48 (bl_ 63 12) ?_ HT_ HW_ rfl (.inl ⟨by rfl,?_⟩) hHeld ?_ ?_ ?_;rotate_left;(rintro w' ⟨s0,s1,s2,s3,s4,s5⟩;go_simp;with_reducible rfl);rotate_left;(simp only [Act.put,sq_,i64_w,i32_w];rfl)
   refine tP 6 52 (bl_ 127 12) ?_ HT_ HW_ rfl (.inl ⟨by rfl,?_⟩) hHeld ?_ ?_ ?_;rotate_left;(rintro w' ⟨s0,s1,s2,s3,s4,s5⟩;go_simp;with_reducible rfl);rotate_left;(simp only [Act.put,sq_,i64_w,i32_w];rfl)
   refine pQ 7 53 (bl_ 255 12) HT_ rfl ?_
   refine pQ 8 54 (bl_ 511 12) HT_ rfl ?_
   refine tP 9 55 (bl_ 1023 12) ?_ HT_ HW_ rfl (.inl ⟨by rfl,?_⟩) hHeld ?_ ?_ ?_;rotate_left;(rintro w' ⟨s0,s1,s2,s3,s4,s5⟩;go_simp;with_reducible rfl);rotate_left;(simp only [Act.put,sq_,i64_w,i32_w];rfl)
   refine last_ (i := 10) (N := some 56) (bl_ 2047 12) rfl rfl (one_of HT_.out (by kernel_rfl)) (by decide) (fun K hK => ?_)
   refine Kd.R_append_rows_step (Kd.int .i64) (w0 := w) w.heap.size (by rfl) (.tmp 46) (.tmp 55) 37 3 (.int .i64 0) 8 rfl Try.underlying37 info3 rfl (by decide) (by omega) (.slice (some ad144) x6_1.length co20) x6_1 ((rd_T45 l0_0 (rd x6_1 x7_1)).f2) _ _ _ (fun k_ => some k_ ≠ (v148 : Value).ownBlock) (fun _ => False) rfl rfl ?aO ?aR (fun _ _ h => h) (fun _ h => h.elim) ?aF ?aB ?aS ?aL ?_
   (case aR => exact zC_ (Kd.C_below HR153_2.out HB.out))
   (case aB => exact (zb1 HB.out GE136.out))
   (case aF => exact (fun k_ hk => Kd.fresh' (Kd.R_lt (zR_ HO149.out)) k_ hk))
   (case aO => exact (by (with_reducible repeat (first|apply Kd.R_alloc|apply Kd.R_drewN|apply Kd.R_drew));exact Kd.R_mono HO_6.out (fun _ hk => hk.2)))
   (case aS => exact (bwZ (zb1 HB.out GE136.out)))
   (case aL => have := LMc19.out;omega)
   intro v155 w25 ho hb hg hat
   rw [← Ny154.out] at ho
   have n0_ := As_ (blk_grown (g := gb136) (o := .cells #[.slice (some ad140) l0_0.length c0_0,.int .i64 a0_1] 29 (0,0)) (zk_ BK136.out) hg (Kd.R_ne HO_6.out BK136.out (by decide)))
   have n1_ := As_ (Kd.R_after (ok := (fun _ => True)) (by (with_reducible repeat (first|apply Kd.R_alloc|apply Kd.R_drewN|apply Kd.R_drew));exact Kd.R_mono HO149.out (fun _ hk => ⟨trivial,hk⟩)) hg hat)
   have n2_ := As_ (hb)
   have n3_ := As_ (ho)
   clear BK136 HO149 HB HO_6
   revert n0_ n1_ n2_ n3_;intro BK136 HO149 HB HO156
   clear ho hb hg hat
   refine hK.out _ _ ?_
   clear hK K
   refine norm_ (a' := ?_) ?_ ?_
   rotate_left
   ·show Act.put _ (some 56) _ = _
    simp only [Act.put,sq_,i64_w,i32_w]
    rfl
   refine pQ 11 6 (bl_ 4095 12) HT_ rfl ?_
   refine done_ (done_of HT_.out (by kernel_rfl)) ?_
   try go_wp2
   go_roundg k1
   case measure => have := HK1.out;omega
   case rel => exact ⟨(y147),(y154),(wrap64 (x7_1 + 1)),zT_,H',⟨by have := HK1.out;omega⟩,⟨by (with_reducible repeat (first|apply Kd.R_alloc|apply Kd.R_drewN|apply Kd.R_drew));exact Kd.R_mono HO149.out (fun _ hk => hk.2)⟩,⟨by (with_reducible repeat (first|apply Kd.R_alloc|apply Kd.R_drewN|apply Kd.R_drew));exact HO156.out⟩,⟨by (with_reducible repeat first|apply bkN|apply bkD|apply bkA);exact BK136.out⟩,⟨zb1 HB.out GE136.out⟩⟩
end Go.Proofs.Ytfhakhbmbnbneaa.Q
