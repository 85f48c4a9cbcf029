-- Written by wip/tools/qprint.py (a program of this claim's author) by means of the kit's printer.
import Derived.Test.YtbokjhdhpmmpfaaQ0
import Derived.Test.YtbokjhdhpmmpfaaQ61
import Derived.Test.YtbokjhdhpmmpfaaQ94
namespace Go.Proofs.Ytbokjhdhpmmpfaa.Q
open Go.RowKit Go.Proofs.YtbokjhdhpmmpfaaW.PrintWords Go.Proofs.YtbokjhdhpmmpfaaW.PrintLast Go.Proofs.YtbokjhdhpmmpfaaW.PrintMore
attribute [local go_sem] max2_int min2_int max_two min_two max_three min_three max_four min_four   -- for this text's walks alone
set_option linter.unusedVariables false
set_option linter.unusedSimpArgs false

/-! ### impl_SplitStops: function 62 -/
def impl_SplitStops.l0 : Nat → List (List (S75)) → List (S75) → List (S75) → Int → Int → Option ((List (List (S75))))
 | 0,_,_,_,_,_ => none
 | k + 1,x3,x4,x12,x13,x14 => if x14 < x13 then (if 0 ≤ x14 then (if x14 < (x12.length : Int) then (if x4.length < 8796093022208 then ((some (x4 ++ [(⟨(rd_T75 x12 x14).f0,(rd_T75 x12 x14).f1⟩ : S75)] : List (S75))).bind fun y362 => (if ((rd_T75 x12 x14).f0) = 19 then ((impl_Op.f y362).bind fun t365 => (if x3.length < 5864062014805 then (impl_SplitStops.l0 k (x3 ++ [t365]) (([] : List (S75))) x12 x13 (wrap64 (x14 + 1))) else (none))) else (impl_SplitStops.l0 k x3 y362 x12 x13 (wrap64 (x14 + 1))))) else (none)) else (none)) else (none)) else (if (x4.length : Int) > 0 then ((impl_Op.f x4).bind fun t374 => (if x3.length < 5864062014805 then (some (x3 ++ [t374])) else (none))) else (some x3))
def impl_SplitStops.f (k : Nat) (l0 : List (S75)) : Option ((List (List (S75)))) := (impl_ValidOps.f k l0).bind fun t353 => (if t353 = true then (impl_SplitStops.l0 k (([] : List (List (S75)))) (([] : List (S75))) l0 (l0.length : Int) 0) else (some ([] : List (List (S75)))))
set_option maxRecDepth 100000 in
theorem impl_SplitStops.mono_l : ∀ k,(∀ y0 y1 y2 y3 y4,LeO (impl_SplitStops.l0 k y0 y1 y2 y3 y4) (impl_SplitStops.l0 (k + 1) y0 y1 y2 y3 y4))
 | 0 => fun _ _ _ _ _ r h => (by cases h)
 | k + 1 => by
  have ih0 := impl_SplitStops.mono_l k
  ·intro y0 y1 y2 y3 y4
   unfold impl_SplitStops.l0
   repeat' first
   | (with_reducible exact ih0 _ _ _ _ _)
   | (with_reducible exact impl_ValidOps.mono _ _)
   | (with_reducible exact LeO.refl _)
   | (with_reducible exact LeO.none _)
   | (with_reducible refine LeO.ite ?_ ?_)
   | (with_reducible refine LeO.bind ?_ (fun _ => ?_))
   | exact ih0 _ _ _ _ _
   | exact impl_ValidOps.mono _ _
   | exact LeO.none _
   | refine LeO.ite ?_ ?_
   | refine LeO.bind ?_ (fun _ => ?_)
set_option maxRecDepth 100000 in
theorem impl_SplitStops.mono : ∀ a0 k,LeO (impl_SplitStops.f k a0) (impl_SplitStops.f (k + 1) a0) := by
 intro a0 k
 have ih0 := impl_SplitStops.mono_l k
 unfold impl_SplitStops.f
 repeat' first
   | (with_reducible exact ih0 _ _ _ _ _)
   | (with_reducible exact impl_ValidOps.mono _ _)
   | (with_reducible exact LeO.refl _)
   | (with_reducible exact LeO.none _)
   | (with_reducible refine LeO.ite ?_ ?_)
   | (with_reducible refine LeO.bind ?_ (fun _ => ?_))
   | exact ih0 _ _ _ _ _
   | exact impl_ValidOps.mono _ _
   | exact LeO.none _
   | refine LeO.ite ?_ ?_
   | refine LeO.bind ?_ (fun _ => ?_)
set_option maxHeartbeats 8000000 in
set_option maxRecDepth 100000 in
theorem impl_SplitStops.calls (k : Nat) (A0 : Option Addr) (c0 : Nat) (l0 : List (S75)) (r : List (List (S75))) (w : World) (hr0 : Kd.C k75 w A0 l0.length l0) (hc0 : l0.length ≤ c0) (h : impl_SplitStops.f k l0 = some r) :
  Calls Try.prog 62 #[.slice A0 l0.length c0] w fun e w' => ∃ v0_ : Value,e = .returned (v0_) ∧ Kd.N (Kd.slice 75 k75) 23 w' w.heap.size (fun k_ => (w.heap.size ≤ k_)) v0_ r ∧ Below w.heap.size w w' := by
 have hu75 := Try.underlying75
 have HR0 := As_ hr0
 have HC0 := As_ hc0
 clear hr0 hc0
 have HB := As_ (Below.refl w.heap.size w)
 have H : ((impl_ValidOps.f k l0).bind fun t353 => (if t353 = true then (impl_SplitStops.l0 k (([] : List (List (S75)))) (([] : List (S75))) l0 (l0.length : Int) 0) else (some ([] : List (List (S75)))))) = some r := h
 clear h
 replace H := obS H
 obtain ⟨t353,A20,H⟩ := H
 replace H : (if t353 = true then (impl_SplitStops.l0 k (([] : List (List (S75)))) (([] : List (S75))) l0 (l0.length : Int) 0) else (some ([] : List (List (S75))))) = some r := H
 have A2 := As_ A20
 clear A20
 by_cases c3 : t353 = true
 rotate_left
 ·replace c3 := Bool.eq_false_iff.mpr c3
  subst c3
  have H1 : (some ([] : List (List (S75)))) = some r := by rw [if_neg (show ¬ (false = true) by decide)] at H;exact H
  clear H
  have H := H1
  clear H1
  obtain rfl := Option.some.inj H
  go_enter Try.func62,Try.ntmps62
  go_wp2_with (first|((with_reducible refine gate_callee (f := 61) rfl ?_);refine goesL_ (some 8) rfl rfl Try.func61 (by kernel_rfl) rfl #[.slice A0 l0.length c0] rfl zM_ ?_;(with_reducible refine (impl_ValidOps.calls k _ _ l0 false _ ?side1 ?side2 A2.out).mono ?_);(case side1 => repeat (first|exact HR0.out|(with_reducible refine Kd.C_alloc ?_ _)|(with_reducible refine Kd.C_drewN ?_ _)|(with_reducible refine Kd.C_drew ?_)));(case side2 => exact HC0.out);rintro e w38 ⟨rfl,hb⟩;refine ⟨_,rfl,?_⟩;have n0_ := As_ (bwT (zb0 HB.out) hb);clear HB;revert n0_;intro HB))
  go_ret
  exact ⟨_,zE_,by first|exact Kd.S_nil _ _ _ _ _|exact Kd.N_nil _ _ _ _ _|exact Kd.V_nil _ _ _ _ _|exact Kd.Q_nil _ _ _ _ _|exact Kd.R_nil _ _ _ _ _,zb0 HB.out⟩

 subst c3
 have H1 : (impl_SplitStops.l0 k (([] : List (List (S75)))) (([] : List (S75))) l0 (l0.length : Int) 0) = some r := by rw [if_pos rfl] at H;exact H
 clear H
 have H := H1
 clear H1
 obtain ⟨y354,hy354⟩ : ∃ y_ : List (List (S75)),y_ = (([] : List (List (S75)))) := ⟨_,rfl⟩
 replace H : (impl_SplitStops.l0 k y354 (([] : List (S75))) l0 (l0.length : Int) 0) = some r := zH_ H hy354
 have Ny354 := As_ hy354
 clear hy354
 obtain ⟨y357,hy357⟩ : ∃ y_ : List (S75),y_ = (([] : List (S75))) := ⟨_,rfl⟩
 replace H : (impl_SplitStops.l0 k y354 y357 l0 (l0.length : Int) 0) = some r := zH_ H hy357
 have Ny357 := As_ hy357
 clear hy357
 have H' := As_ H
 clear H
 go_enter Try.func62,Try.ntmps62
 go_wp2_with (first|((with_reducible refine gate_callee (f := 61) rfl ?_);refine goesL_ (some 8) rfl rfl Try.func61 (by kernel_rfl) rfl #[.slice A0 l0.length c0] rfl zM_ ?_;(with_reducible refine (impl_ValidOps.calls k _ _ l0 true _ ?side1 ?side2 A2.out).mono ?_);(case side1 => repeat (first|exact HR0.out|(with_reducible refine Kd.C_alloc ?_ _)|(with_reducible refine Kd.C_drewN ?_ _)|(with_reducible refine Kd.C_drew ?_)));(case side2 => exact HC0.out);rintro e w4 ⟨rfl,hb⟩;refine ⟨_,rfl,?_⟩;have n0_ := As_ (bwT (zb0 HB.out) hb);clear HB;revert n0_;intro HB)|((with_reducible refine gate_dst (N := 10) rfl ?_);refine Kd.N_lit (Kd.slice 75 k75) _ 23 ?hg (N' := 10) ?hd (xs := ([] : List (List (S75)))) (inner := []) (ok := (fun k_ => (w.heap.size ≤ k_))) (okp := (fun k_ => (w.heap.size ≤ k_))) ?hr ?hp (fun _ hk => hk) ((show ∀ k_,w4.heap.size ≤ k_ → (fun k_ => (w.heap.size ≤ k_)) k_ from fun k_ hk => (Nat.le_trans (bwZ (zb0 HB.out)) hk)) _ (Nat.le_refl _)) (Below.refl _ _) (Nat.le_refl _) (by simp) ?_;(case hd => rfl);(case hg => rfl);(case hr => go_simp <;> rfl);(case hp => exact (Reps.none _ _));intro v355 w5 ho6 hb hg_ hnew_;clear hg_ hnew_;(first|rw [← Ny354.out] at ho6|(simp only [Int.reduceToNat] at ho6;rw [← Ny354.out] at ho6));have n0_ := As_ (Kd.N_lower ho6 (bwZ (zb0 HB.out)));have n1_ := As_ (bwT (zb0 HB.out) hb);clear HB;revert n0_ n1_;intro HO356 HB;clear hb ho6)|((with_reducible refine gate_dst (N := 11) rfl ?_);refine Kd.R_lit k75 _ 75 ?hg (N := 11) ?hd (xs := ([] : List (S75))) (inner := []) (ok := fun _ => True) (okp := fun _ => True) ?hr ?hp (fun _ hk => hk) trivial (Below.refl _ _) (Nat.le_refl _) (by simp) ?_;(case hd => rfl);(case hg => rfl);(case hr => go_simp <;> rfl);(case hp => exact (Reps.none _ _));intro v358 w7 ho8 hb hg_ hnew_;clear hg_ hnew_;(first|rw [← Ny357.out] at ho8|(simp only [Int.reduceToNat] at ho8;rw [← Ny357.out] at ho8));have n0_ := As_ (Kd.N_elder' (zN_ HO356.out) (Kd.R_base ho8) hb);have n1_ := As_ (Kd.R_lower (Kd.R_newM (M := fun k_ => (w.heap.size ≤ k_)) ho8 (bwZ (zb0 HB.out)) (fun k_ h_ => h_)) (bwZ (zb0 HB.out)));have n2_ := As_ (bwT (zb0 HB.out) hb);clear HO356 HB;revert n0_ n1_ n2_;intro HO356 HO359 HB;clear hb ho8))
 go_loopg [3,4,14] k (fun kq v3 v4 v14 w' => ∃ (x3_1 : List (List (S75))) (x4_1 : List (S75)) (x14_1 : Int),v14 = .int .i64 x14_1 ∧ Aside0 (impl_SplitStops.l0 kq x3_1 x4_1 l0 (l0.length : Int) x14_1 = some r) ∧ Aside0 (kq ≤ k) ∧ Aside0 (Kd.N (Kd.slice 75 k75) 23 w' w.heap.size (fun k_ => (w.heap.size ≤ k_) ∧ some k_ ≠ (v4 : Value).ownBlock) v3 x3_1) ∧ Aside0 (Kd.R k75 75 w' w.heap.size (fun k_ => (w.heap.size ≤ k_)) v4 x4_1) ∧ Aside0 (Below w.heap.size w w'))
 case atStart => exact ⟨(y354),(y357),(0),zT_,H',⟨Nat.le_refl _⟩,⟨by (with_reducible repeat (first|apply Kd.N_alloc|apply Kd.N_drewN|apply Kd.N_drew));exact HO356.out⟩,⟨by (with_reducible repeat (first|apply Kd.R_alloc|apply Kd.R_drewN|apply Kd.R_drew));exact Kd.R_mono HO359.out (fun _ hk => hk.1)⟩,⟨zb0 HB.out⟩⟩
 case round =>
  clear H'
  obtain ⟨x3_1,x4_1,x14_1,rfl,HA,HK1,HO_3,HO_4,HB⟩ := hrel
  cases gk with
  | zero => exact absurd HA.out (fun h_ => (by cases h_))
  | succ k1 =>
   have H := HA.out
   clear HA
   simp only [impl_SplitStops.l0] at H
   by_cases c9 : x14_1 < (l0.length : Int)
   rotate_left
   ·rw [if_neg c9] at H
    have c9b0 : decide (x14_1 < (l0.length : Int)) = false := deF c9
    clear c9
    by_cases c30 : (x4_1.length : Int) > 0
    rotate_left
    ·rw [if_neg c30] at H
     have c30b0 : decide (0 < (x4_1.length : Int)) = false := deF c30
     have c30b1 : decide (0 < x4_1.length) = false := deF (by omega)
     clear c30
     obtain rfl := Option.some.inj H
     obtain ⟨Ao37,co37,eo37⟩ := Kd.R_slice HO_4.out
     subst eo37
     go_wp2
     go_ret
     exact ⟨_,zE_,by (with_reducible repeat (first|apply Kd.N_alloc|apply Kd.N_drewN|apply Kd.N_drew));exact Kd.N_mono HO_3.out (fun _ hk => hk.1),zb0 HB.out⟩
    rw [if_pos c30] at H
    have c30b0 : decide (0 < (x4_1.length : Int)) = true := deT c30
    have c30b1 : decide (0 < x4_1.length) = true := deT (by omega)
    clear c30
    replace H := obS H
    obtain ⟨t374,A310,H⟩ := H
    replace H : (if x3_1.length < 5864062014805 then (some (x3_1 ++ [t374])) else (none)) = some r := H
    have A31 := As_ A310
    clear A310
    by_cases c32 : x3_1.length < 5864062014805
    rotate_left
    ·rw [if_neg c32] at H
     exact absurd H (by simp)
    rw [if_pos c32] at H
    have LMc32 := As_ c32
    clear c32
    obtain ⟨y377,hy377⟩ : ∃ y_ : List (List (S75)),y_ = (x3_1 ++ [t374]) := ⟨_,rfl⟩
    replace H : (some y377) = some r := zH_ H hy377
    have Ny377 := As_ hy377
    clear hy377
    obtain rfl := Option.some.inj H
    obtain ⟨Ao33,co33,eo33⟩ := Kd.R_slice HO_4.out
    subst eo33
    go_wp2_with (first|((with_reducible refine gate_callee (f := 91) rfl ?_);refine goesL_ (some 37) rfl rfl Try.func91 (by kernel_rfl) rfl #[.slice Ao33 x4_1.length co33] rfl zM_ ?_;(with_reducible refine (impl_Op.calls (fun k_ => some k_ = (.slice Ao33 x4_1.length co33 : Value).ownBlock) _ _ x4_1 t374 _ ?side1 A31.out).mono ?_);(case side1 => exact Kd.R_V (Kd.R_tight rfl (Kd.R_apart' (HO_4.out) (Kd.N_typed HO_3.out) (by decide))));rintro e w34 ⟨v375,rfl,ho0,hb⟩;refine ⟨_,rfl,?_⟩;have n0_ := As_ (Kd.N_below (zN_ HO_3.out) hb);have n1_ := As_ (Kd.R_below (zR_ HO_4.out) hb);have n2_ := As_ (Kd.V_lower (Kd.V_mono (ok' := fun k_ => (w.heap.size ≤ k_) ∧ some k_ ≠ (u3 : Value).ownBlock) ho0 (fun k_ hk_ => ⟨Or.elim hk_ (fun hs_ => ((Kd.R_apart' (HO_4.out) (Kd.N_typed HO_3.out) (by decide)).1 k_ hs_.symm).1) (fun hn_ => (Nat.le_trans (bwZ (zb0 HB.out)) hn_)),Or.elim hk_ (fun hs_ => ((Kd.R_apart' (HO_4.out) (Kd.N_typed HO_3.out) (by decide)).1 k_ hs_.symm).2) (fun hn_ => (Kd.fresh' (Kd.N_lt (zN_ HO_3.out)) k_ hn_))⟩)) (bwZ (zb0 HB.out)));have n3_ := As_ (bwT (zb0 HB.out) hb);clear HO_3 HO_4 HB;revert n0_ n1_ n2_ n3_;intro HO_3 HO_4 HO376 HB;obtain ⟨Ao36,co36,eo36⟩ := Kd.V_slice HO376.out;subst eo36)|((with_reducible refine gate_builtin (b := .append) (xs := #[.tmp 35,.tmp 38]) rfl ?_);at_builtin;refine Kd.N_append (Kd.slice 75 k75) (w0 := w) w.heap.size rfl (.tmp 35) (.tmp 38) 81 23 (.slice none 0 0) 24 rfl Try.underlying81 info23 rfl (by decide) (by omega) u3 x3_1 t374 [.slice Ao36 t374.length co36] (fun k_ => (w.heap.size ≤ k_)) (fun k_ => ((fun k_ => (w.heap.size ≤ k_))) k_ ∧ some k_ ≠ (u3 : Value).ownBlock) rfl rfl ?aP (fun _ hk => hk) ?aF ?aO ?aB ?aS ?aL ?_;(case aP => exact (Kd.FK_slice_mk (Kd.V_reads' (Kd.V_mono (ok' := (fun k_ => ((fun k_ => (w.heap.size ≤ k_))) k_ ∧ some k_ ≠ (u3 : Value).ownBlock)) (HO376.out) (fun k_ hk => ⟨hk.1,hk.2⟩))).2.1 (Kd.V_F (Kd.V_mono (ok' := (fun k_ => ((fun k_ => (w.heap.size ≤ k_))) k_ ∧ some k_ ≠ (u3 : Value).ownBlock)) (HO376.out) (fun k_ hk => ⟨hk.1,hk.2⟩)))));(case aB => exact (zb0 HB.out));(case aF => exact (fun k_ hk => (Nat.le_trans (bwZ (zb0 HB.out)) hk)));(case aO => exact (by (with_reducible repeat (first|apply Kd.N_alloc|apply Kd.N_drewN|apply Kd.N_drew));exact Kd.N_mono HO_3.out (fun _ hk => hk.1)));(case aS => exact (bwZ (zb0 HB.out)));(case aL => have := LMc32.out;omega);intro v378 w35 ho hb hg hat;rw [← Ny377.out] at ho;have n0_ := As_ (Kd.R_over' (zR_ HO_4.out) (Kd.N_typed (zN_ HO_3.out)) (by decide) hg);have n1_ := As_ (Kd.V_afterv (ok := (fun k_ => (w.heap.size ≤ k_))) (by (with_reducible repeat (first|apply Kd.V_alloc|apply Kd.V_drewN|apply Kd.V_drew));exact HO376.out) hg hat);have n2_ := As_ (hb);have n3_ := As_ (ho);clear HO_4 HO376 HB HO_3;revert n0_ n1_ n2_ n3_;intro HO_4 HO376 HB HO379;clear ho hb hg hat))
    go_ret
    exact ⟨_,zE_,by (with_reducible repeat (first|apply Kd.N_alloc|apply Kd.N_drewN|apply Kd.N_drew));exact HO379.out,zb0 HB.out⟩
   rw [if_pos c9] at H
   have c9b0 : decide (x14_1 < (l0.length : Int)) = true := deT c9
   clear c9
   by_cases c10 : 0 ≤ x14_1
   rotate_left
   ·rw [if_neg c10] at H
    exact absurd H (by simp)
   rw [if_pos c10] at H
   have c10b0 : decide (0 ≤ x14_1) = true := deT c10
   clear c10
   by_cases c11 : x14_1 < (l0.length : Int)
   rotate_left
   ·rw [if_neg c11] at H
    exact absurd H (by simp)
   rw [if_pos c11] at H
   have c11b0 : decide (x14_1 < (l0.length : Int)) = true := deT c11
   clear c11
   by_cases c12 : x4_1.length < 8796093022208
   rotate_left
   ·rw [if_neg c12] at H
    exact absurd H (by simp)
   rw [if_pos c12] at H
   have LMc12 := As_ c12
   clear c12
   obtain ⟨y362,hy362⟩ : ∃ y_ : List (S75),y_ = (x4_1 ++ [(⟨(rd_T75 l0 x14_1).f0,(rd_T75 l0 x14_1).f1⟩ : S75)]) := ⟨_,rfl⟩
   replace H : (if ((rd_T75 l0 x14_1).f0) = 19 then ((impl_Op.f y362).bind fun t365 => (if x3_1.length < 5864062014805 then (impl_SplitStops.l0 k1 (x3_1 ++ [t365]) (([] : List (S75))) l0 (l0.length : Int) (wrap64 (x14_1 + 1))) else (none))) else (impl_SplitStops.l0 k1 x3_1 y362 l0 (l0.length : Int) (wrap64 (x14_1 + 1)))) = some r := zH_ H hy362
   have Ny362 := As_ hy362
   clear hy362
   by_cases c13 : ((rd_T75 l0 x14_1).f0) = 19
   rotate_left
   ·rw [if_neg c13] at H
    have c13b0 : (((rd_T75 l0 x14_1).f0) == 19) = false := beq_eq_false_iff_ne.mpr c13
    have c13b1 : (((rd_T75 l0 x14_1).f0) != 19) = true := bne_iff_ne.mpr c13
    have H' := As_ H
    clear H
    have p360 : 0 ≤ (x14_1 : Int) := odT zA_
    have q360 : x14_1 < (l0.length : Int) := odT zA_
    obtain ⟨ad360,e360,hx360_0,hx360_1⟩ := at_T75 HR0.out x14_1 p360 q360
    cases e360
    replace hx360_0 := bwC HB.out hx360_0
    replace hx360_1 := bwC HB.out hx360_1
    replace p360 := eq_true p360
    replace q360 := eq_true q360
    go_wp2_with (first|((with_reducible refine gate_dst (N := 6) rfl ?_);refine box_event ?hg (N := 6) ?hd (cs := #[.int .i64 0,.int .i64 0]) (t := 75) ?hr ?_;(case hd => rfl);(case hg => rfl);(case hr => go_simp <;> rfl);intro gb361 hg w26 hbox hb;have n0_ := As_ (Kd.N_below (Kd.N_elderB (zN_ HO_3.out) gb361 (Nat.le_of_eq hg.symm)) hb);have n1_ := As_ (Kd.R_below (Kd.R_elderB (zR_ HO_4.out) gb361 (Nat.le_of_eq hg.symm)) hb);have n2_ := As_ (bwT (zb0 HB.out) hb);have n3_ := As_ (hbox);have n4_ := As_ ((by rw [hg];exact (bwZ (zb0 HB.out)) : w.heap.size ≤ gb361));have n5_ := As_ ((by rw [hg];exact (bwZ (zb0 HB.out)) : w.heap.size ≤ gb361));clear HO_3 HO_4 HB;revert n0_ n1_ n2_ n3_ n4_ n5_;intro HO_3 HO_4 HB BK361 GW361 GE361;clear hb hbox hg;obtain ⟨hcz27_0,hcz27_1,hfz27_0,hfz27_1⟩ := bk2 BK361.out)|((with_reducible refine gate_builtin (b := .append) (xs := #[.tmp 18,.tmp 20]) rfl ?_);at_builtin;refine Kd.R_append k75 (w0 := w) w.heap.size rfl (.tmp 18) (.tmp 20) 23 75 (.agg #[(.int .i64 0),(.int .i64 0)]) 16 rfl Try.underlying23 info75 rfl (by decide) (by omega) u4 x4_1 (⟨(rd_T75 l0 x14_1).f0,(rd_T75 l0 x14_1).f1⟩ : S75) [.int .i64 ((rd_T75 l0 x14_1).f0),.int .i64 ((rd_T75 l0 x14_1).f1)] (fun k_ => (w.heap.size ≤ k_) ∧ k_ ≠ gb361) (fun _ => False) rfl (by go_simp <;> rfl) ?aP (fun _ hk => hk.elim) ?aF ?aO ?aB ?aS ?aL ?_;(case aP => exact k75_mkM _ _ _ (⟨(rd_T75 l0 x14_1).f0,(rd_T75 l0 x14_1).f1⟩ : S75));(case aB => exact (zb1 HB.out GE361.out));(case aF => exact (fun k_ hk => ⟨(Nat.le_trans (bwZ (zb1 HB.out GE361.out)) hk),Kd.freshB (g := gb361) (o := .cells #[.int .i64 ((rd_T75 l0 x14_1).f0),.int .i64 ((rd_T75 l0 x14_1).f1)] 75 (0,0)) (by (with_reducible repeat first|apply bkN|apply bkD|apply bkA);refine blk_put (cs := #[.int .i64 ((rd_T75 l0 x14_1).f0),.int .i64 0]) ?_ 1 _ rfl;(with_reducible repeat first|apply bkN|apply bkD|apply bkA);refine blk_put (cs := #[.int .i64 0,.int .i64 0]) ?_ 0 _ rfl;(with_reducible repeat first|apply bkN|apply bkD|apply bkA);exact BK361.out) k_ hk⟩));(case aO => exact (by (with_reducible repeat (first|apply Kd.R_alloc|apply Kd.R_drewN|apply Kd.R_drew));exact Kd.R_mono (Kd.R_far (p := ⟨gb361,1,none⟩) (Kd.R_far (p := ⟨gb361,0,none⟩) (Kd.R_mono HO_4.out (fun k_ hk => (⟨hk,hk.2⟩ : _ ∧ k_ ≠ gb361))) (fun _ hk => hk.2) (.int .i64 ((rd_T75 l0 x14_1).f0))) (fun _ hk => hk.2) (.int .i64 ((rd_T75 l0 x14_1).f1))) (fun _ hk => ⟨hk.1.1,hk.1.2⟩)));(case aS => exact (bwZ (zb1 HB.out GE361.out)));(case aL => have := LMc12.out;omega);intro v363 w28 ho hb hg hat;rw [← Ny362.out] at ho;have n0_ := As_ (Kd.N_afterv (ok := (fun k_ => (w.heap.size ≤ k_) ∧ k_ ≠ gb361)) (by (with_reducible repeat (first|apply Kd.N_alloc|apply Kd.N_drewN|apply Kd.N_drew));exact Kd.N_mono (Kd.N_far (p := ⟨gb361,1,none⟩) (Kd.N_far (p := ⟨gb361,0,none⟩) (Kd.N_mono HO_3.out (fun k_ hk => (⟨hk,hk.2⟩ : _ ∧ k_ ≠ gb361))) (fun _ hk => hk.2) (.int .i64 ((rd_T75 l0 x14_1).f0))) (fun _ hk => hk.2) (.int .i64 ((rd_T75 l0 x14_1).f1))) (fun _ hk => ⟨⟨hk.1.1.1,hk.1.2⟩,hk.1.1.2⟩)) hg hat);have n1_ := As_ (blk_grown (g := gb361) (o := .cells #[.int .i64 ((rd_T75 l0 x14_1).f0),.int .i64 ((rd_T75 l0 x14_1).f1)] 75 (0,0)) (by (with_reducible repeat first|apply bkN|apply bkD|apply bkA);refine blk_put (cs := #[.int .i64 ((rd_T75 l0 x14_1).f0),.int .i64 0]) ?_ 1 _ rfl;(with_reducible repeat first|apply bkN|apply bkD|apply bkA);refine blk_put (cs := #[.int .i64 0,.int .i64 0]) ?_ 0 _ rfl;(with_reducible repeat first|apply bkN|apply bkD|apply bkA);exact BK361.out) hg (Kd.R_away HO_4.out (fun _ hk => hk.2)));have n2_ := As_ (hb);have n3_ := As_ (ho);clear HO_3 BK361 HB HO_4;revert n0_ n1_ n2_ n3_;intro HO_3 BK361 HB HO364;clear ho hb hg hat;obtain ⟨hcz29_0,hcz29_1,hfz29_0,hfz29_1⟩ := bk2 BK361.out))
    go_roundg k1
    case measure => have := HK1.out;omega
    case rel => exact ⟨(x3_1),(y362),(wrap64 (x14_1 + 1)),zT_,H',⟨by have := HK1.out;omega⟩,⟨by (with_reducible repeat (first|apply Kd.N_alloc|apply Kd.N_drewN|apply Kd.N_drew));exact Kd.N_mono HO_3.out (fun _ hk => ⟨hk.1.1,hk.2⟩)⟩,⟨by (with_reducible repeat (first|apply Kd.R_alloc|apply Kd.R_drewN|apply Kd.R_drew));exact Kd.R_mono HO364.out (fun _ hk => hk.1)⟩,⟨zb1 HB.out GE361.out⟩⟩
   rw [if_pos c13] at H
   have c13b0 : (((rd_T75 l0 x14_1).f0) == 19) = true := beq_iff_eq.mpr c13
   have c13b1 : (((rd_T75 l0 x14_1).f0) != 19) = false := bne_eq_false_iff_eq.mpr c13
   clear c13
   replace H := obS H
   obtain ⟨t365,A140,H⟩ := H
   replace H : (if x3_1.length < 5864062014805 then (impl_SplitStops.l0 k1 (x3_1 ++ [t365]) (([] : List (S75))) l0 (l0.length : Int) (wrap64 (x14_1 + 1))) else (none)) = some r := H
   have A14 := As_ A140
   clear A140
   by_cases c15 : x3_1.length < 5864062014805
   rotate_left
   ·rw [if_neg c15] at H
    exact absurd H (by simp)
   rw [if_pos c15] at H
   have LMc15 := As_ c15
   clear c15
   obtain ⟨y368,hy368⟩ : ∃ y_ : List (List (S75)),y_ = (x3_1 ++ [t365]) := ⟨_,rfl⟩
   replace H : (impl_SplitStops.l0 k1 y368 (([] : List (S75))) l0 (l0.length : Int) (wrap64 (x14_1 + 1))) = some r := zH_ H hy368
   have Ny368 := As_ hy368
   clear hy368
   obtain ⟨y371,hy371⟩ : ∃ y_ : List (S75),y_ = (([] : List (S75))) := ⟨_,rfl⟩
   replace H : (impl_SplitStops.l0 k1 y368 y371 l0 (l0.length : Int) (wrap64 (x14_1 + 1))) = some r := zH_ H hy371
   have Ny371 := As_ hy371
   clear hy371
   have H' := As_ H
   clear H
   have p360 : 0 ≤ (x14_1 : Int) := odT zA_
   have q360 : x14_1 < (l0.length : Int) := odT zA_
   obtain ⟨ad360,e360,hx360_0,hx360_1⟩ := at_T75 HR0.out x14_1 p360 q360
   cases e360
   replace hx360_0 := bwC HB.out hx360_0
   replace hx360_1 := bwC HB.out hx360_1
   replace p360 := eq_true p360
   replace q360 := eq_true q360
   go_wp2_with (first|((with_reducible refine gate_dst (N := 6) rfl ?_);refine box_event ?hg (N := 6) ?hd (cs := #[.int .i64 0,.int .i64 0]) (t := 75) ?hr ?_;(case hd => rfl);(case hg => rfl);(case hr => go_simp <;> rfl);intro gb361 hg w16 hbox hb;have n0_ := As_ (Kd.N_below (Kd.N_elderB (zN_ HO_3.out) gb361 (Nat.le_of_eq hg.symm)) hb);have n1_ := As_ (Kd.R_below (Kd.R_elderB (zR_ HO_4.out) gb361 (Nat.le_of_eq hg.symm)) hb);have n2_ := As_ (bwT (zb0 HB.out) hb);have n3_ := As_ (hbox);have n4_ := As_ ((by rw [hg];exact (bwZ (zb0 HB.out)) : w.heap.size ≤ gb361));have n5_ := As_ ((by rw [hg];exact (bwZ (zb0 HB.out)) : w.heap.size ≤ gb361));clear HO_3 HO_4 HB;revert n0_ n1_ n2_ n3_ n4_ n5_;intro HO_3 HO_4 HB BK361 GW361 GE361;clear hb hbox hg;obtain ⟨hcz17_0,hcz17_1,hfz17_0,hfz17_1⟩ := bk2 BK361.out)|((with_reducible refine gate_builtin (b := .append) (xs := #[.tmp 18,.tmp 20]) rfl ?_);at_builtin;refine Kd.R_append k75 (w0 := w) w.heap.size rfl (.tmp 18) (.tmp 20) 23 75 (.agg #[(.int .i64 0),(.int .i64 0)]) 16 rfl Try.underlying23 info75 rfl (by decide) (by omega) u4 x4_1 (⟨(rd_T75 l0 x14_1).f0,(rd_T75 l0 x14_1).f1⟩ : S75) [.int .i64 ((rd_T75 l0 x14_1).f0),.int .i64 ((rd_T75 l0 x14_1).f1)] (fun k_ => (w.heap.size ≤ k_) ∧ k_ ≠ gb361) (fun _ => False) rfl (by go_simp <;> rfl) ?aP (fun _ hk => hk.elim) ?aF ?aO ?aB ?aS ?aL ?_;(case aP => exact k75_mkM _ _ _ (⟨(rd_T75 l0 x14_1).f0,(rd_T75 l0 x14_1).f1⟩ : S75));(case aB => exact (zb1 HB.out GE361.out));(case aF => exact (fun k_ hk => ⟨(Nat.le_trans (bwZ (zb1 HB.out GE361.out)) hk),Kd.freshB (g := gb361) (o := .cells #[.int .i64 ((rd_T75 l0 x14_1).f0),.int .i64 ((rd_T75 l0 x14_1).f1)] 75 (0,0)) (by (with_reducible repeat first|apply bkN|apply bkD|apply bkA);refine blk_put (cs := #[.int .i64 ((rd_T75 l0 x14_1).f0),.int .i64 0]) ?_ 1 _ rfl;(with_reducible repeat first|apply bkN|apply bkD|apply bkA);refine blk_put (cs := #[.int .i64 0,.int .i64 0]) ?_ 0 _ rfl;(with_reducible repeat first|apply bkN|apply bkD|apply bkA);exact BK361.out) k_ hk⟩));(case aO => exact (by (with_reducible repeat (first|apply Kd.R_alloc|apply Kd.R_drewN|apply Kd.R_drew));exact Kd.R_mono (Kd.R_far (p := ⟨gb361,1,none⟩) (Kd.R_far (p := ⟨gb361,0,none⟩) (Kd.R_mono HO_4.out (fun k_ hk => (⟨hk,hk.2⟩ : _ ∧ k_ ≠ gb361))) (fun _ hk => hk.2) (.int .i64 ((rd_T75 l0 x14_1).f0))) (fun _ hk => hk.2) (.int .i64 ((rd_T75 l0 x14_1).f1))) (fun _ hk => ⟨hk.1.1,hk.1.2⟩)));(case aS => exact (bwZ (zb1 HB.out GE361.out)));(case aL => have := LMc12.out;omega);intro v363 w18 ho hb hg hat;rw [← Ny362.out] at ho;have n0_ := As_ (Kd.N_afterv (ok := (fun k_ => (w.heap.size ≤ k_) ∧ k_ ≠ gb361)) (by (with_reducible repeat (first|apply Kd.N_alloc|apply Kd.N_drewN|apply Kd.N_drew));exact Kd.N_mono (Kd.N_far (p := ⟨gb361,1,none⟩) (Kd.N_far (p := ⟨gb361,0,none⟩) (Kd.N_mono HO_3.out (fun k_ hk => (⟨hk,hk.2⟩ : _ ∧ k_ ≠ gb361))) (fun _ hk => hk.2) (.int .i64 ((rd_T75 l0 x14_1).f0))) (fun _ hk => hk.2) (.int .i64 ((rd_T75 l0 x14_1).f1))) (fun _ hk => ⟨⟨hk.1.1.1,hk.1.2⟩,hk.1.1.2⟩)) hg hat);have n1_ := As_ (blk_grown (g := gb361) (o := .cells #[.int .i64 ((rd_T75 l0 x14_1).f0),.int .i64 ((rd_T75 l0 x14_1).f1)] 75 (0,0)) (by (with_reducible repeat first|apply bkN|apply bkD|apply bkA);refine blk_put (cs := #[.int .i64 ((rd_T75 l0 x14_1).f0),.int .i64 0]) ?_ 1 _ rfl;(with_reducible repeat first|apply bkN|apply bkD|apply bkA);refine blk_put (cs := #[.int .i64 0,.int .i64 0]) ?_ 0 _ rfl;(with_reducible repeat first|apply bkN|apply bkD|apply bkA);exact BK361.out) hg (Kd.R_away HO_4.out (fun _ hk => hk.2)));have n2_ := As_ (hb);have n3_ := As_ (ho);clear HO_3 BK361 HB HO_4;revert n0_ n1_ n2_ n3_;intro HO_3 BK361 HB HO364;clear ho hb hg hat;obtain ⟨hcz19_0,hcz19_1,hfz19_0,hfz19_1⟩ := bk2 BK361.out;obtain ⟨Ao20,co20,eo20⟩ := Kd.R_slice HO364.out;subst eo20)|((with_reducible refine gate_callee (f := 91) rfl ?_);refine goesL_ (some 27) rfl rfl Try.func91 (by kernel_rfl) rfl #[.slice Ao20 y362.length co20] rfl zM_ ?_;(with_reducible refine (impl_Op.calls (fun k_ => some k_ = (.slice Ao20 y362.length co20 : Value).ownBlock) _ _ y362 t365 _ ?side1 A14.out).mono ?_);(case side1 => exact Kd.R_V (Kd.R_tight rfl (Kd.R_apart' (HO364.out) (Kd.N_typed HO_3.out) (by decide))));rintro e w21 ⟨v366,rfl,ho0,hb⟩;refine ⟨_,rfl,?_⟩;have n0_ := As_ (Kd.N_below (zN_ HO_3.out) hb);have n1_ := As_ (Kd.R_below (zR_ HO364.out) hb);have n2_ := As_ (Kd.V_lower (Kd.V_mono (ok' := fun k_ => (w.heap.size ≤ k_) ∧ some k_ ≠ (u3 : Value).ownBlock ∧ k_ ≠ gb361) ho0 (fun k_ hk_ => ⟨Or.elim hk_ (fun hs_ => ((Kd.R_apart' (HO364.out) (Kd.N_typed HO_3.out) (by decide)).1 k_ hs_.symm).1.1) (fun hn_ => (Nat.le_trans (bwZ (zb1 HB.out GE361.out)) hn_)),Or.elim hk_ (fun hs_ => ((Kd.R_apart' (HO364.out) (Kd.N_typed HO_3.out) (by decide)).1 k_ hs_.symm).2) (fun hn_ => (Kd.fresh' (Kd.N_lt (zN_ HO_3.out)) k_ hn_)),Or.elim hk_ (fun hs_ => ((Kd.R_apart' (HO364.out) (Kd.N_typed HO_3.out) (by decide)).1 k_ hs_.symm).1.2) (fun hn_ => (Kd.freshB (g := gb361) (o := .cells #[.int .i64 ((rd_T75 l0 x14_1).f0),.int .i64 ((rd_T75 l0 x14_1).f1)] 75 (0,0)) (zk_ BK361.out) k_ hn_))⟩)) (bwZ (zb1 HB.out GE361.out)));have n3_ := As_ (zkb BK361.out hb);have n4_ := As_ (bwT (zb1 HB.out GE361.out) hb);clear HO_3 HO364 BK361 HB;revert n0_ n1_ n2_ n3_ n4_;intro HO_3 HO364 HO367 BK361 HB;obtain ⟨Ao23,co23,eo23⟩ := Kd.V_slice HO367.out;subst eo23)|((with_reducible refine gate_builtin (b := .append) (xs := #[.tmp 25,.tmp 28]) rfl ?_);at_builtin;refine Kd.N_append (Kd.slice 75 k75) (w0 := w) w.heap.size rfl (.tmp 25) (.tmp 28) 81 23 (.slice none 0 0) 24 rfl Try.underlying81 info23 rfl (by decide) (by omega) u3 x3_1 t365 [.slice Ao23 t365.length co23] (fun k_ => (w.heap.size ≤ k_) ∧ k_ ≠ gb361) (fun k_ => ((fun k_ => (w.heap.size ≤ k_) ∧ k_ ≠ gb361)) k_ ∧ some k_ ≠ (u3 : Value).ownBlock) rfl rfl ?aP (fun _ hk => hk) ?aF ?aO ?aB ?aS ?aL ?_;(case aP => exact (Kd.FK_slice_mk (Kd.V_reads' (Kd.V_mono (ok' := (fun k_ => ((fun k_ => (w.heap.size ≤ k_) ∧ k_ ≠ gb361)) k_ ∧ some k_ ≠ (u3 : Value).ownBlock)) (HO367.out) (fun k_ hk => ⟨⟨hk.1,hk.2.2⟩,hk.2.1⟩))).2.1 (Kd.V_F (Kd.V_mono (ok' := (fun k_ => ((fun k_ => (w.heap.size ≤ k_) ∧ k_ ≠ gb361)) k_ ∧ some k_ ≠ (u3 : Value).ownBlock)) (HO367.out) (fun k_ hk => ⟨⟨hk.1,hk.2.2⟩,hk.2.1⟩)))));(case aB => exact (zb1 HB.out GE361.out));(case aF => exact (fun k_ hk => ⟨(Nat.le_trans (bwZ (zb1 HB.out GE361.out)) hk),Kd.freshB (g := gb361) (o := .cells #[.int .i64 ((rd_T75 l0 x14_1).f0),.int .i64 ((rd_T75 l0 x14_1).f1)] 75 (0,0)) (zk_ BK361.out) k_ hk⟩));(case aO => exact (by (with_reducible repeat (first|apply Kd.N_alloc|apply Kd.N_drewN|apply Kd.N_drew));exact Kd.N_mono HO_3.out (fun _ hk => ⟨hk.1.1,hk.1.2⟩)));(case aS => exact (bwZ (zb1 HB.out GE361.out)));(case aL => have := LMc15.out;omega);intro v369 w22 ho hb hg hat;rw [← Ny368.out] at ho;have n0_ := As_ (blk_grown (g := gb361) (o := .cells #[.int .i64 ((rd_T75 l0 x14_1).f0),.int .i64 ((rd_T75 l0 x14_1).f1)] 75 (0,0)) (zk_ BK361.out) hg (Kd.N_ne HO_3.out BK361.out (by decide)));have n1_ := As_ (Kd.R_over' (zR_ HO364.out) (Kd.N_typed (zN_ HO_3.out)) (by decide) hg);have n2_ := As_ (Kd.V_afterv (ok := (fun k_ => (w.heap.size ≤ k_) ∧ k_ ≠ gb361)) (by (with_reducible repeat (first|apply Kd.V_alloc|apply Kd.V_drewN|apply Kd.V_drew));exact Kd.V_mono HO367.out (fun _ hk => ⟨⟨hk.1,hk.2.2⟩,hk.2.1⟩)) hg hat);have n3_ := As_ (hb);have n4_ := As_ (ho);clear BK361 HO364 HO367 HB HO_3;revert n0_ n1_ n2_ n3_ n4_;intro BK361 HO364 HO367 HB HO370;clear ho hb hg hat)|((with_reducible refine gate_dst (N := 30) rfl ?_);refine Kd.R_lit k75 _ 75 ?hg (N := 30) ?hd (xs := ([] : List (S75))) (inner := []) (ok := fun _ => True) (okp := fun _ => True) ?hr ?hp (fun _ hk => hk) trivial (Below.refl _ _) (Nat.le_refl _) (by simp) ?_;(case hd => rfl);(case hg => rfl);(case hr => go_simp <;> rfl);(case hp => exact (Reps.none _ _));intro v372 w24 ho25 hb hg_ hnew_;clear hg_ hnew_;(first|rw [← Ny371.out] at ho25|(simp only [Int.reduceToNat] at ho25;rw [← Ny371.out] at ho25));have n0_ := As_ (Kd.R_elder' (zR_ HO364.out) (Kd.R_base ho25) hb);have n1_ := As_ (Kd.V_elder' (by (with_reducible repeat (first|apply Kd.V_alloc|apply Kd.V_drewN|apply Kd.V_drew));exact HO367.out) (Kd.R_base ho25) hb);have n2_ := As_ (Kd.N_elder' (zN_ HO370.out) (Kd.R_base ho25) hb);have n3_ := As_ (Kd.R_lower (Kd.R_newB (Kd.R_new' (Kd.R_newM (M := fun k_ => (w.heap.size ≤ k_)) ho25 (bwZ (zb1 HB.out GE361.out)) (fun k_ h_ => h_)) (Kd.R_lt (zR_ HO364.out))) (g := gb361) (o := .cells #[.int .i64 ((rd_T75 l0 x14_1).f0),.int .i64 ((rd_T75 l0 x14_1).f1)] 75 (0,0)) (zk_ BK361.out)) (bwZ (zb1 HB.out GE361.out)));have n4_ := As_ (zkb BK361.out hb);have n5_ := As_ (bwT (zb1 HB.out GE361.out) hb);clear HO364 HO367 HO370 BK361 HB;revert n0_ n1_ n2_ n3_ n4_ n5_;intro HO364 HO367 HO370 HO373 BK361 HB;clear hb ho25))
   go_roundg k1
   case measure => have := HK1.out;omega
   case rel => exact ⟨(y368),(y371),(wrap64 (x14_1 + 1)),zT_,H',⟨by have := HK1.out;omega⟩,⟨by (with_reducible repeat (first|apply Kd.N_alloc|apply Kd.N_drewN|apply Kd.N_drew));exact Kd.N_mono HO370.out (fun _ hk => ⟨hk.1.1,hk.2⟩)⟩,⟨by (with_reducible repeat (first|apply Kd.R_alloc|apply Kd.R_drewN|apply Kd.R_drew));exact Kd.R_mono HO373.out (fun _ hk => hk.1.1.1)⟩,⟨zb1 HB.out GE361.out⟩⟩
/-! ### impl_FrameBytes: function 63 -/
mutual
def impl_FrameBytes.j0 : Nat → List Int → Int → Bool → Option (List Int)
 | 0,_,_,_ => none
 | k + 1,x0,x1,x18 => if x18 = true then (some ([] : List Int)) else (impl_FrameBytes.l0 k x1 (([] : List Int)) x0)
def impl_FrameBytes.l0 : Nat → Int → List Int → List Int → Option (List Int)
 | 0,_,_,_ => none
 | k + 1,x1,x5,x6 => if (x6.length : Int) > 0 then (if x5.length < 17592186044416 then ((some (x5 ++ [mn x1 (x6.length : Int)] : List Int)).bind fun y384 => (if 0 ≤ (mn x1 (x6.length : Int)) then (if (mn x1 (x6.length : Int)) ≤ (x6.length : Int) then ((some (x6.take ((mn x1 (x6.length : Int)) : Int).toNat : List Int)).bind fun y387 => (if y384.length + y387.length < 17592186044416 then (impl_FrameBytes.l0 k x1 (y384 ++ y387) (x6.drop ((mn x1 (x6.length : Int)) : Int).toNat)) else (none))) else (none)) else (none))) else (none)) else (some x5)
end
def impl_FrameBytes.f (k : Nat) (l0 : List Int) (a1 : Int) : Option (List Int) := (impl_bytesOk.f l0 1000).bind fun t380 => (if t380 = true then (if a1 < 1 then (impl_FrameBytes.j0 k l0 a1 true) else (impl_FrameBytes.j0 k l0 a1 (decide (a1 > 200)))) else (impl_FrameBytes.j0 k l0 a1 true))
set_option maxRecDepth 100000 in
theorem impl_FrameBytes.mono_l : ∀ k,(∀ y0 y1 y2,LeO (impl_FrameBytes.j0 k y0 y1 y2) (impl_FrameBytes.j0 (k + 1) y0 y1 y2)) ∧ (∀ y0 y1 y2,LeO (impl_FrameBytes.l0 k y0 y1 y2) (impl_FrameBytes.l0 (k + 1) y0 y1 y2))
 | 0 => ⟨fun _ _ _ r h => (by cases h),fun _ _ _ r h => (by cases h)⟩
 | k + 1 => by
  obtain ⟨ih0,ih1⟩ := impl_FrameBytes.mono_l k
  refine ⟨?_,?_⟩
  ·intro y0 y1 y2
   unfold impl_FrameBytes.j0
   repeat' first
   | (with_reducible exact ih0 _ _ _)
   | (with_reducible exact ih1 _ _ _)
   | (with_reducible exact LeO.refl _)
   | (with_reducible exact LeO.none _)
   | (with_reducible refine LeO.ite ?_ ?_)
   | (with_reducible refine LeO.bind ?_ (fun _ => ?_))
   | exact ih0 _ _ _
   | exact ih1 _ _ _
   | exact LeO.none _
   | refine LeO.ite ?_ ?_
   | refine LeO.bind ?_ (fun _ => ?_)
  ·intro y0 y1 y2
   unfold impl_FrameBytes.l0
   repeat' first
   | (with_reducible exact ih0 _ _ _)
   | (with_reducible exact ih1 _ _ _)
   | (with_reducible exact LeO.refl _)
   | (with_reducible exact LeO.none _)
   | (with_reducible refine LeO.ite ?_ ?_)
   | (with_reducible refine LeO.bind ?_ (fun _ => ?_))
   | exact ih0 _ _ _
   | exact ih1 _ _ _
   | exact LeO.none _
   | refine LeO.ite ?_ ?_
   | refine LeO.bind ?_ (fun _ => ?_)
set_option maxRecDepth 100000 in
theorem impl_FrameBytes.mono : ∀ a0 a1 k,LeO (impl_FrameBytes.f k a0 a1) (impl_FrameBytes.f (k + 1) a0 a1) := by
 intro a0 a1 k
 obtain ⟨ih0,ih1⟩ := impl_FrameBytes.mono_l k
 unfold impl_FrameBytes.f
 repeat' first
   | (with_reducible exact ih0 _ _ _)
   | (with_reducible exact ih1 _ _ _)
   | (with_reducible exact LeO.refl _)
   | (with_reducible exact LeO.none _)
   | (with_reducible refine LeO.ite ?_ ?_)
   | (with_reducible refine LeO.bind ?_ (fun _ => ?_))
   | exact ih0 _ _ _
   | exact ih1 _ _ _
   | exact LeO.none _
   | refine LeO.ite ?_ ?_
   | refine LeO.bind ?_ (fun _ => ?_)
def impl_FrameBytes.T7 : Bool × List (List Nat × List Nat) := (true,[([],[]),([],[]),([1],[1]),([0,2],[0,2]),([],[]),([],[]),([4,5],[4,5]),([3,6,3],[3,6]),([7,7,0,1,2,3,4,5,6,7],[0,7])])
def impl_FrameBytes.B7 : List Nat := [0,0,2,7,0,0,48,127,255]
theorem impl_FrameBytes.tab7 : rtab .any (opsOf Try.f63 7) = impl_FrameBytes.T7 := by kernel_rfl
theorem impl_FrameBytes.bits7 : waitsOk impl_FrameBytes.T7.2 impl_FrameBytes.B7 = true := by kernel_rfl
set_option maxHeartbeats 8000000 in
set_option maxRecDepth 100000 in
theorem impl_FrameBytes.calls (k : Nat) (P0_ : Nat → Prop) (A0 : Option Addr) (c0 : Nat) (l0 : List Int) (a1 : Int) (r : List Int) (w : World) (hs0 : Kd.V (Kd.int .i64) 3 w w.heap.size (fun k_ => P0_ k_) (.slice A0 l0.length c0) l0) (h : impl_FrameBytes.f k l0 a1 = some r) :
  Calls Try.prog 63 #[.slice A0 l0.length c0,.int .i64 a1] w fun e w' => ∃ v0_ : Value,e = .returned (v0_) ∧ Kd.R (Kd.int .i64) 3 w' w.heap.size (fun k_ => (w.heap.size ≤ k_)) v0_ r ∧ Below w.heap.size w w' := by
 have HO0 := As_ (show Kd.V (Kd.int .i64) 3 w w.heap.size (fun k_ => (P0_ k_ ∨ w.heap.size ≤ k_)) (.slice A0 l0.length c0) l0 from Kd.V_mono hs0 (fun k_ hk => .inl hk))
 have HB := As_ (Below.refl w.heap.size w)
 have H : ((impl_bytesOk.f l0 1000).bind fun t380 => (if t380 = true then (if a1 < 1 then (impl_FrameBytes.j0 k l0 a1 true) else (impl_FrameBytes.j0 k l0 a1 (decide (a1 > 200)))) else (impl_FrameBytes.j0 k l0 a1 true))) = some r := h
 clear h
 have HC3 := As_ H
 clear H
 go_enter Try.func63,Try.ntmps63
 go_upto_region 1 with (fail)
 go_cut [18] (fun v18 wc => ∃ (kq : Nat) (x18_2 : Bool),v18 = .bool x18_2 ∧ Aside0 (impl_FrameBytes.j0 kq l0 a1 x18_2 = some r) ∧ Aside0 (kq ≤ k) ∧ Aside0 (Kd.V (Kd.int .i64) 3 wc w.heap.size (fun k_ => (P0_ k_ ∨ w.heap.size ≤ k_)) (.slice A0 l0.length c0) l0) ∧ Aside0 (Below w.heap.size w wc))
 case first =>
  have H := HC3.out
  clear HC3
  replace H := obS H
  obtain ⟨t380,A40,H⟩ := H
  replace H : (if t380 = true then (if a1 < 1 then (impl_FrameBytes.j0 k l0 a1 true) else (impl_FrameBytes.j0 k l0 a1 (decide (a1 > 200)))) else (impl_FrameBytes.j0 k l0 a1 true)) = some r := H
  have A4 := As_ A40
  clear A40
  by_cases c5 : t380 = true
  rotate_left
  ·replace c5 := Bool.eq_false_iff.mpr c5
   subst c5
   have H1 : (impl_FrameBytes.j0 k l0 a1 true) = some r := by rw [if_neg (show ¬ (false = true) by decide)] at H;exact H
   clear H
   have H := H1
   clear H1
   have H' := As_ H
   clear H
   go_wp2_with (first|((with_reducible refine gate_callee (f := 96) rfl ?_);refine goesL_ (some 9) rfl rfl Try.func96 (by kernel_rfl) rfl #[.slice A0 l0.length c0,.int .i64 1000] rfl zM_ ?_;(with_reducible refine (impl_bytesOk.calls _ _ l0 1000 false _ ?side1 ?side2 A4.out).mono ?_);(case side1 => exact zC_ (Kd.V_reads' HO0.out).2.2);(case side2 => exact (Kd.V_reads' HO0.out).2.1);rintro e w' ⟨rfl,⟨nd,rfl⟩⟩;refine ⟨_,rfl,?_⟩))
   go_meet
   case rel => exact ⟨_,(true),zT_,H',⟨by first|omega|exact Nat.le_refl _⟩,⟨by (with_reducible repeat (first|apply Kd.V_alloc|apply Kd.V_drewN|apply Kd.V_drew));exact HO0.out⟩,⟨zb0 HB.out⟩⟩
  subst c5
  have H1 : (if a1 < 1 then (impl_FrameBytes.j0 k l0 a1 true) else (impl_FrameBytes.j0 k l0 a1 (decide (a1 > 200)))) = some r := by rw [if_pos rfl] at H;exact H
  clear H
  have H := H1
  clear H1
  by_cases c6 : a1 < 1
  ·rw [if_pos c6] at H
   have c6b0 : decide (a1 < 1) = true := deT c6
   clear c6
   (first|rw [c6b0]|(simp only [i64_w,i32_w];rw [c6b0])|skip)
   have H' := As_ H
   clear H
   go_wp2_with (first|((with_reducible refine gate_callee (f := 96) rfl ?_);refine goesL_ (some 9) rfl rfl Try.func96 (by kernel_rfl) rfl #[.slice A0 l0.length c0,.int .i64 1000] rfl zM_ ?_;(with_reducible refine (impl_bytesOk.calls _ _ l0 1000 true _ ?side1 ?side2 A4.out).mono ?_);(case side1 => exact zC_ (Kd.V_reads' HO0.out).2.2);(case side2 => exact (Kd.V_reads' HO0.out).2.1);rintro e w' ⟨rfl,⟨nd,rfl⟩⟩;refine ⟨_,rfl,?_⟩))
   go_meet
   case rel => exact ⟨_,(true),zT_,H',⟨by first|omega|exact Nat.le_refl _⟩,⟨by (with_reducible repeat (first|apply Kd.V_alloc|apply Kd.V_drewN|apply Kd.V_drew));exact HO0.out⟩,⟨zb0 HB.out⟩⟩
  rw [if_neg c6] at H
  have c6b0 : decide (a1 < 1) = false := deF c6
  clear c6
  (first|rw [c6b0]|(simp only [i64_w,i32_w];rw [c6b0])|skip)
  have H' := As_ H
  clear H
  go_wp2_with (first|((with_reducible refine gate_callee (f := 96) rfl ?_);refine goesL_ (some 9) rfl rfl Try.func96 (by kernel_rfl) rfl #[.slice A0 l0.length c0,.int .i64 1000] rfl zM_ ?_;(with_reducible refine (impl_bytesOk.calls _ _ l0 1000 true _ ?side1 ?side2 A4.out).mono ?_);(case side1 => exact zC_ (Kd.V_reads' HO0.out).2.2);(case side2 => exact (Kd.V_reads' HO0.out).2.1);rintro e w' ⟨rfl,⟨nd,rfl⟩⟩;refine ⟨_,rfl,?_⟩))
  go_meet
  case rel => exact ⟨_,(decide (a1 > 200)),zT_,H',⟨by first|omega|exact Nat.le_refl _⟩,⟨by (with_reducible repeat (first|apply Kd.V_alloc|apply Kd.V_drewN|apply Kd.V_drew));exact HO0.out⟩,⟨zb0 HB.out⟩⟩
 case rest =>
  clear HC3
  obtain ⟨kq,x18_2,rfl,HA,HJ2,HO_0,HB⟩ := hcut
  cases kq with
  | zero => exact absurd HA.out (fun h_ => (by cases h_))
  | succ kj2 =>
   have H := HA.out
   clear HA
   simp only [impl_FrameBytes.j0] at H
   by_cases c7 : x18_2 = true
   ·subst c7
    have H1 : (some ([] : List Int)) = some r := by rw [if_pos rfl] at H;exact H
    clear H
    have H := H1
    clear H1
    obtain rfl := Option.some.inj H
    go_wp2
    go_ret
    exact ⟨_,zE_,by first|exact Kd.R_nil _ _ _ _ _|exact Kd.N_nil _ _ _ _ _|exact Kd.V_nil _ _ _ _ _|exact Kd.Q_nil _ _ _ _ _|exact Kd.S_nil _ _ _ _ _,zb0 HB.out⟩
   replace c7 := Bool.eq_false_iff.mpr c7
   subst c7
   have H1 : (impl_FrameBytes.l0 kj2 a1 (([] : List Int)) l0) = some r := by rw [if_neg (show ¬ (false = true) by decide)] at H;exact H
   clear H
   have H := H1
   clear H1
   obtain ⟨y381,hy381⟩ : ∃ y_ : List Int,y_ = (([] : List Int)) := ⟨_,rfl⟩
   replace H : (impl_FrameBytes.l0 kj2 a1 y381 l0) = some r := zH_ H hy381
   have Ny381 := As_ hy381
   clear hy381
   have H' := As_ H
   clear H
   go_wp2_with (first|((with_reducible refine gate_dst (N := 19) rfl ?_);refine Kd.R_lit (Kd.int .i64) _ 3 ?hg (N := 19) ?hd (xs := ([] : List Int)) (inner := []) (ok := fun _ => True) (okp := fun _ => True) ?hr ?hp (fun _ hk => hk) trivial (Below.refl _ _) (Nat.le_refl _) (by simp) ?_;(case hd => rfl);(case hg => rfl);(case hr => go_simp <;> rfl);(case hp => exact (Reps.none _ _));intro v382 w8 ho9 hb hg_ hnew_;clear hg_ hnew_;(first|rw [← Ny381.out] at ho9|(simp only [Int.reduceToNat] at ho9;rw [← Ny381.out] at ho9));have n0_ := As_ (Kd.V_elder' (by (with_reducible repeat (first|apply Kd.V_alloc|apply Kd.V_drewN|apply Kd.V_drew));exact HO_0.out) (Kd.R_base ho9) hb);have n1_ := As_ (Kd.R_lower (Kd.R_newM (M := fun k_ => (w.heap.size ≤ k_)) ho9 (bwZ (zb0 HB.out)) (fun k_ h_ => h_)) (bwZ (zb0 HB.out)));have n2_ := As_ (bwT (zb0 HB.out) hb);clear HO_0 HB;revert n0_ n1_ n2_;intro HO_0 HO383 HB;clear hb ho9))
   go_loopg [5,6] kj2 (fun kq v5 v6 w' => ∃ (x5_2 : List Int) (x6_2 : List Int),Aside0 (impl_FrameBytes.l0 kq a1 x5_2 x6_2 = some r) ∧ Aside0 (kq ≤ kj2) ∧ Aside0 (Kd.R (Kd.int .i64) 3 w' w.heap.size (fun k_ => (w.heap.size ≤ k_)) v5 x5_2) ∧ Aside0 (Kd.V (Kd.int .i64) 3 w' w.heap.size (fun k_ => (P0_ k_ ∨ w.heap.size ≤ k_) ∧ some k_ ≠ (v5 : Value).ownBlock) v6 x6_2) ∧ Aside0 (Below w.heap.size w w'))
   case atStart => exact ⟨(y381),(l0),H',⟨Nat.le_refl _⟩,⟨by (with_reducible repeat (first|apply Kd.R_alloc|apply Kd.R_drewN|apply Kd.R_drew));exact Kd.R_mono HO383.out (fun _ hk => hk.1)⟩,⟨by (with_reducible repeat (first|apply Kd.V_alloc|apply Kd.V_drewN|apply Kd.V_drew));exact HO_0.out⟩,⟨zb0 HB.out⟩⟩
   case round =>
    clear H'
    obtain ⟨x5_2,x6_2,HA,HK2,HO_5,HO_6,HB⟩ := hrel
    cases gk with
    | zero => exact absurd HA.out (fun h_ => (by cases h_))
    | succ k2 =>
     have H := HA.out
     clear HA
     simp only [impl_FrameBytes.l0] at H
     by_cases c10 : (x6_2.length : Int) > 0
     rotate_left
     ·rw [if_neg c10] at H
      have c10b0 : decide (0 < (x6_2.length : Int)) = false := deF c10
      have c10b1 : decide (0 < x6_2.length) = false := deF (by omega)
      clear c10
      obtain rfl := Option.some.inj H
      obtain ⟨Ao24,co24,eo24⟩ := Kd.V_slice HO_6.out
      subst eo24
      go_wp2
      go_ret
      exact ⟨_,zE_,by (with_reducible repeat (first|apply Kd.R_alloc|apply Kd.R_drewN|apply Kd.R_drew));exact HO_5.out,zb0 HB.out⟩

     rw [if_pos c10] at H
     have c10b0 : decide (0 < (x6_2.length : Int)) = true := deT c10
     have c10b1 : decide (0 < x6_2.length) = true := deT (by omega)
     clear c10
     obtain ⟨ji11,hji11⟩ : ∃ j_ : Int,(mn a1 (x6_2.length : Int)) = j_ := ⟨_,rfl⟩
     replace H : (if x5_2.length < 17592186044416 then ((some (x5_2 ++ [ji11] : List Int)).bind fun y384 => (if 0 ≤ (ji11) then (if (ji11) ≤ (x6_2.length : Int) then ((some (x6_2.take ((ji11) : Int).toNat : List Int)).bind fun y387 => (if y384.length + y387.length < 17592186044416 then (impl_FrameBytes.l0 k2 a1 (y384 ++ y387) (x6_2.drop ((ji11) : Int).toNat)) else (none))) else (none)) else (none))) else (none)) = some r := by first|(rw [hji11] at H;exact H)|(simp only [hji11] at H ⊢;exact H)
     have hji11_ : (if (x6_2.length : Int) < a1 then (x6_2.length : Int) else a1) = ji11 := hji11
     by_cases c12 : x5_2.length < 17592186044416
     rotate_left
     ·rw [if_neg c12] at H
      exact absurd H (by simp)
     rw [if_pos c12] at H
     have LMc12 := As_ c12
     clear c12
     obtain ⟨y384,hy384⟩ : ∃ y_ : List Int,y_ = (x5_2 ++ [ji11]) := ⟨_,rfl⟩
     replace H : (if 0 ≤ (ji11) then (if (ji11) ≤ (x6_2.length : Int) then ((some (x6_2.take ((ji11) : Int).toNat : List Int)).bind fun y387 => (if y384.length + y387.length < 17592186044416 then (impl_FrameBytes.l0 k2 a1 (y384 ++ y387) (x6_2.drop ((ji11) : Int).toNat)) else (none))) else (none)) else (none)) = some r := zH_ H hy384
     have Ny384 := As_ hy384
     clear hy384
     by_cases c13 : 0 ≤ (ji11)
     rotate_left
     ·rw [if_neg c13] at H
      exact absurd H (by simp)
     rw [if_pos c13] at H
     have c13b0 := eq_true c13
     have c13b1 : decide (0 ≤ (ji11)) = true := deT c13
     clear c13
     by_cases c14 : (ji11) ≤ (x6_2.length : Int)
     rotate_left
     ·rw [if_neg c14] at H
      exact absurd H (by simp)
     rw [if_pos c14] at H
     have c14b0 := eq_true c14
     have c14b1 : decide ((ji11) ≤ (x6_2.length : Int)) = true := deT c14
     clear c14
     obtain ⟨y387,hy387⟩ : ∃ y_ : List Int,y_ = (x6_2.take ((ji11) : Int).toNat) := ⟨_,rfl⟩
     replace H : (if y384.length + y387.length < 17592186044416 then (impl_FrameBytes.l0 k2 a1 (y384 ++ y387) (x6_2.drop ((ji11) : Int).toNat)) else (none)) = some r := zH_ H hy387
     have Ny387 := As_ hy387
     clear hy387
     by_cases c15 : y384.length + y387.length < 17592186044416
     rotate_left
     ·rw [if_neg c15] at H
      exact absurd H (by simp)
     rw [if_pos c15] at H
     have LMc15 := As_ c15
     clear c15
     obtain ⟨y392,hy392⟩ : ∃ y_ : List Int,y_ = (y384 ++ y387) := ⟨_,rfl⟩
     replace H : (impl_FrameBytes.l0 k2 a1 y392 (x6_2.drop ((ji11) : Int).toNat)) = some r := zH_ H hy392
     have Ny392 := As_ hy392
     clear hy392
     have c16b0 := eq_true (odT zA_ : 0 ≤ (ji11))
     have c17b0 := eq_true (odT zA_ : (ji11) ≤ (x6_2.length : Int))
     obtain ⟨y395,hy395⟩ : ∃ y_ : List Int,y_ = (x6_2.drop ((ji11) : Int).toNat) := ⟨_,rfl⟩
     replace H : (impl_FrameBytes.l0 k2 a1 y392 y395) = some r := zH_ H hy395
     have Ny395 := As_ hy395
     clear hy395
     have H' := As_ H
     clear H
     obtain ⟨Ao18,co18,eo18⟩ := Kd.V_slice HO_6.out
     subst eo18
     try go_wp2
     have n0_ := As_ (Kd.R_drew HO_5.out)
     have n1_ := As_ (Kd.V_drew HO_6.out)
     have n2_ := As_ (bwD HB.out)
     clear HO_5 HO_6 HB
     revert n0_ n1_ n2_;intro HO_5 HO_6 HB
     have q20 : ((ji11) : Int) ≤ ((x6_2.length : Int) : Int) := odT zA_
     obtain ⟨i020,hi020,_,hsz20,_⟩ := info_parts info3
     have hroom20 : x6_2.length ≤ co18 := (Kd.V_reads' HO_6.out).2.1
     have hC20 : Kd.F (Kd.int .i64) _ _ Ao18 x6_2.length x6_2 := (Kd.V_at (base := w.heap.size) HO_6.out).2.2
     have hcut20 := cut_to (P := Try.prog) 22 3 .i64 Try.underlying22 hi020 Ao18 x6_2.length co18 (ji11) (odT zA_) q20 hroom20
     have hr20 := Kd.F_take (m := ((ji11) : Int).toNat) hC20 (by omega)
     have hy20 : y387.length = ((ji11) : Int).toNat := (by rw [Ny387.out,List.length_take];omega)
     rw [← Ny387.out] at hr20
     rw [← hy20] at hcut20
     have HO391 := As_ (show Kd.V (Kd.int .i64) 3 _ w.heap.size _ (.slice Ao18 y387.length co18) y387 from Kd.V_mk (by omega) hr20)
     have HC391 := As_ (show y387.length ≤ co18 from by omega)
     clear hr20 hC20 hroom20 hi020 hsz20
     have KY20 := As_ hy20
     clear hy20
     replace q20 := eq_true q20
     refine start_ (n := 9) (S := fun w' => True) (ds := []) (bl_ 0 9) (by kernel_rfl) rfl rfl trivial (fun hHeld => ?_);refine with_tabW impl_FrameBytes.tab7 impl_FrameBytes.bits7 (fun HT_ HW_ => ?_)
     generalize wr.drew = w19 at HO_5 HO_6 HB HO391 hHeld ⊢
     refine pQ 0 28 (bl_ 1 9) HT_ rfl ?_
     refine pQ 1 29 (bl_ 3 9) HT_ rfl ?_
     refine pQ 4 32 (bl_ 19 9) HT_ rfl ?_
     refine pQ 5 33 (bl_ 51 9) HT_ rfl ?_
     refine pQ 6 34 (bl_ 115 9) HT_ rfl ?_
     refine one_ (i := 2) (N := some 30) (bl_ 119 9) rfl rfl (one_of HT_.out (by kernel_rfl)) (by decide) (fun K hK => ?_)
     refine value_ (w1 := ?_) (v := ?_) (by rfl) rfl ?_ ?_
     rotate_left 2
     ·go_simp
      constructor
      ·rfl
      ·rfl
     refine hK.out _ _ trivial (fun hHeld => ?_)
     clear hK K
     refine norm_ (a' := ?_) ?_ ?_
     rotate_left
     ·show Act.put _ (some 30) _ = _
      simp only [Act.put,sq_]
      rfl
     refine one_ (i := 3) (N := some 31) (bl_ 127 9) rfl rfl (one_of HT_.out (by kernel_rfl)) (by decide) (fun K hK => ?_)
     refine Kd.R_append_step (Kd.int .i64) (w0 := w) w.heap.size (by rfl) (.tmp 28) (.tmp 30) 22 3 (.int .i64 0) 8 rfl Try.underlying22 info3 rfl (by decide) (by omega) u5 x5_2 ji11 [.int .i64 ji11] (fun k_ => (w.heap.size ≤ k_)) (fun _ => False) rfl rfl ?aP (fun _ hk => hk.elim) ?aF ?aO ?aB ?aS ?aL ?_
     (case aP => exact rfl)
     (case aB => exact (zb0 HB.out))
     (case aF => exact (fun k_ hk => (Nat.le_trans (bwZ (zb0 HB.out)) hk)))
     (case aO => exact (zR_ HO_5.out))
     (case aS => exact (bwZ (zb0 HB.out)))
     (case aL => have := LMc12.out;omega)
     intro v385 w21 ho hb hg hat
     rw [← Ny384.out] at ho
     have n0_ := As_ (Kd.V_afterv (ok := (fun k_ => (P0_ k_ ∨ w.heap.size ≤ k_))) (by (with_reducible repeat (first|apply Kd.V_alloc|apply Kd.V_drewN|apply Kd.V_drew));exact HO_6.out) hg hat)
     have n1_ := As_ (Kd.V_afterv (ok := (fun k_ => (P0_ k_ ∨ w.heap.size ≤ k_))) (by (with_reducible repeat (first|apply Kd.V_alloc|apply Kd.V_drewN|apply Kd.V_drew));exact HO391.out) hg hat)
     have n2_ := As_ (hb)
     have n3_ := As_ (ho)
     clear HO_6 HO391 HB HO_5
     revert n0_ n1_ n2_ n3_;intro HO_6 HO391 HB HO386
     clear ho hb hg hat
     refine hK.out _ _ trivial (fun hHeld => ?_)
     clear hK K
     refine norm_ (a' := ?_) ?_ ?_
     rotate_left
     ·show Act.put _ (some 31) _ = _
      simp only [Act.put,sq_]
      rfl
     refine one_ (i := 7) (N := some 35) (bl_ 255 9) rfl rfl (one_of HT_.out (by kernel_rfl)) (by decide) (fun K hK => ?_)
     refine Kd.R_append_rows_step (Kd.int .i64) (w0 := w) w.heap.size (by rfl) (.tmp 31) (.tmp 34) 22 3 (.int .i64 0) 8 rfl Try.underlying22 info3 rfl (by decide) (by omega) v385 y384 y387 _ _ _ (fun k_ => (w.heap.size ≤ k_)) (fun _ => False) rfl rfl ?aO ?aR (fun _ _ h => h) (fun _ h => h.elim) ?aF ?aB ?aS ?aL ?_
     (case aR => exact zC_ (Kd.V_reads' HO391.out).2.2)
     (case aB => exact (zb0 HB.out))
     (case aF => exact (fun k_ hk => (Nat.le_trans (bwZ (zb0 HB.out)) hk)))
     (case aO => exact (zR_ HO386.out))
     (case aS => exact (bwZ (zb0 HB.out)))
     (case aL => have := LMc15.out;omega)
     intro v393 w22 ho hb hg hat
     rw [← Ny392.out] at ho
     have n0_ := As_ (Kd.V_afterv (ok := (fun k_ => (P0_ k_ ∨ w.heap.size ≤ k_))) (by (with_reducible repeat (first|apply Kd.V_alloc|apply Kd.V_drewN|apply Kd.V_drew));exact HO_6.out) hg hat)
     have n1_ := As_ (Kd.V_afterv (ok := (fun k_ => (P0_ k_ ∨ w.heap.size ≤ k_))) (by (with_reducible repeat (first|apply Kd.V_alloc|apply Kd.V_drewN|apply Kd.V_drew));exact HO391.out) hg hat)
     have n2_ := As_ (hb)
     have n3_ := As_ (ho)
     clear HO_6 HO391 HB HO386
     revert n0_ n1_ n2_ n3_;intro HO_6 HO391 HB HO394
     clear ho hb hg hat
     refine hK.out _ _ trivial (fun hHeld => ?_)
     clear hK K
     refine norm_ (a' := ?_) ?_ ?_
     rotate_left
     ·show Act.put _ (some 35) _ = _
      simp only [Act.put,sq_]
      rfl
     refine pQ 8 5 (bl_ 511 9) HT_ rfl ?_
     refine done_ (done_of HT_.out (by kernel_rfl)) ?_
     have q23 : ((ji11) : Int) ≤ ((x6_2.length : Int) : Int) := odT zA_
     obtain ⟨i023,hi023,_,hsz23,_⟩ := info_parts info3
     have hroom23 : x6_2.length ≤ co18 := (Kd.V_reads' HO_6.out).2.1
     have hC23 : Kd.F (Kd.int .i64) _ _ Ao18 x6_2.length x6_2 := (Kd.V_at (base := w.heap.size) HO_6.out).2.2
     have q023 : (0 : Int) ≤ ((ji11) : Int) := odT zA_
     have hcut23 := cut_from (P := Try.prog) 22 3 .i64 Try.underlying22 hi023 1 hsz23 Ao18 x6_2.length co18 (ji11) q023 q23
     have hr23 := Kd.F_cut (m := ((ji11) : Int).toNat) (c := co18) hC23 (by omega) hroom23
     obtain ⟨A23,hA23⟩ : ∃ A1,A1 = (if co18 = ((ji11) : Int).toNat then Ao18 else (Ao18 : Option Addr).map (·.add (((ji11) : Int).toNat * 1))) := ⟨_,rfl⟩
     obtain ⟨c23,hc23⟩ : ∃ c1,c1 = co18 - ((ji11) : Int).toNat := ⟨_,rfl⟩
     have hy23 : y395.length = x6_2.length - ((ji11) : Int).toNat := (by rw [Ny395.out,List.length_drop] <;> omega)
     rw [show (x6_2).drop ((ji11) : Int).toNat = y395 from Ny395.out.symm] at hr23
     replace hr23 : Kd.F (Kd.int .i64) _ _ A23 y395.length y395 := (by rw [hA23];exact hr23)
     rw [← hy23,← hA23,← hc23] at hcut23
     have HO399 := As_ (show Kd.V (Kd.int .i64) 3 _ w.heap.size _ (.slice A23 y395.length c23) y395 from Kd.V_mk (by rw [hy23,hc23];exact Nat.sub_le_sub_right hroom23 _) hr23)
     have HC399 := As_ (show y395.length ≤ c23 from by rw [hy23,hc23];exact Nat.sub_le_sub_right hroom23 _)
     clear hr23 hC23 hroom23 hi023 hsz23 hc23
     have KY23 := As_ hy23
     have KA23 := As_ hA23
     clear hy23 hA23
     replace q23 := eq_true q23
     try go_wp2
     go_roundg k2
     case measure => have := HJ2.out;have := HK2.out;omega
     case rel => exact ⟨(y392),(y395),H',⟨by have := HJ2.out;have := HK2.out;omega⟩,⟨by (with_reducible repeat (first|apply Kd.R_alloc|apply Kd.R_drewN|apply Kd.R_drew));exact HO394.out⟩,⟨by (with_reducible repeat (first|apply Kd.V_alloc|apply Kd.V_drewN|apply Kd.V_drew));exact HO399.out⟩,⟨zb0 HB.out⟩⟩
end Go.Proofs.Ytbokjhdhpmmpfaa.Q
