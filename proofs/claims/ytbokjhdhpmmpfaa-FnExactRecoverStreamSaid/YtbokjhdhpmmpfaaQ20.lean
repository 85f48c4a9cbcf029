-- Written by wip/tools/qprint.py (a program of this claim's author) by means of the kit's printer.
import Derived.Test.YtbokjhdhpmmpfaaQ0
import Derived.Test.YtbokjhdhpmmpfaaQ55
import Derived.Test.YtbokjhdhpmmpfaaQ56
import Derived.Test.YtbokjhdhpmmpfaaQ87
namespace Go.Proofs.Ytbokjhdhpmmpfaa.Q
open Go.RowKit Go.Proofs.YtbokjhdhpmmpfaaW.PrintWords Go.Proofs.YtbokjhdhpmmpfaaW.PrintLast Go.Proofs.YtbokjhdhpmmpfaaW.PrintMore
attribute [local go_sem] max2_int min2_int max_two min_two max_three min_three max_four min_four   -- for this text's walks alone
set_option linter.unusedVariables false
set_option linter.unusedSimpArgs false

/-! ### laws_szOpS: function 20 -/
def laws_szOpS.f (l0 : List (S86)) (a1 : Int) : Option (Int) := if (wrap64 (a1 - (l0.length : Int))) < 0 then (some (-1)) else (some (wrap64 (a1 - (l0.length : Int))))
set_option maxHeartbeats 8000000 in
set_option maxRecDepth 100000 in
theorem laws_szOpS.calls (A0 : Option Addr) (c0 : Nat) (l0 : List (S86)) (a1 : Int) (r : Int) (w : World) (hr0 : Kd.C k86 w A0 l0.length l0) (hc0 : l0.length ≤ c0) (h : laws_szOpS.f l0 a1 = some r) :
    Calls Try.prog 20 #[.slice A0 l0.length c0, .int .i64 a1] w fun e w' => e = .returned (.int .i64 r) ∧ Drawn0 w w' := by
  have HR0 := As_ hr0
  have HC0 := As_ hc0
  clear hr0 hc0
  have H : (if (wrap64 (a1 - (l0.length : Int))) < 0 then (some (-1)) else (some (wrap64 (a1 - (l0.length : Int))))) = some r := h
  clear h
  by_cases c3 : (wrap64 (a1 - (l0.length : Int))) < 0
  · rw [if_pos c3] at H
    have c3b0 : decide ((wrap64 (a1 - (l0.length : Int))) < 0) = true := deT c3
    clear c3
    obtain rfl := Option.some.inj H
    go_enter Try.func20, Try.ntmps20
    go_wp2
    go_ret
    exact ⟨by first | rfl | (simp; done) | (simp [*]; done), by repeat (first | exact Drawn0.refl _ | apply Drawn0.step)⟩
  · rw [if_neg c3] at H
    have c3b0 : decide ((wrap64 (a1 - (l0.length : Int))) < 0) = false := deF c3
    clear c3
    obtain rfl := Option.some.inj H
    go_enter Try.func20, Try.ntmps20
    go_wp2
    go_ret
    exact ⟨by first | rfl | (simp; done) | (simp [*]; done), by repeat (first | exact Drawn0.refl _ | apply Drawn0.step)⟩

/-! ### spec_SplitStops: function 57 -/
def spec_SplitStops.l0 : Nat → List (S75) → List (List (S75)) → List (S75) → Int → Option ((List (List (S75))))
 | 0,_,_,_,_ => none
 | k + 1,x0,x3,x4,x5 => if x5 < (x0.length : Int) then (if 0 ≤ x5 then (if x4.length < 8796093022208 then ((some (x4 ++ [(⟨(rd_T75 x0 x5).f0,(rd_T75 x0 x5).f1⟩ : S75)] : List (S75))).bind fun y285 => (if ((rd_T75 x0 x5).f0) = 19 then (if x3.length < 5864062014805 then (spec_SplitStops.l0 k x0 (x3 ++ [y285]) (([] : List (S75))) (wrap64 (x5 + 1))) else (none)) else (spec_SplitStops.l0 k x0 x3 y285 (wrap64 (x5 + 1))))) else (none)) else (none)) else (if (x4.length : Int) > 0 then (if x3.length < 5864062014805 then (some (x3 ++ [x4])) else (none)) else (some x3))
def spec_SplitStops.f (k : Nat) (l0 : List (S75)) : Option ((List (List (S75)))) := (spec_validOps.f k l0).bind fun t277 => (if t277 = true then (spec_SplitStops.l0 k l0 (([] : List (List (S75)))) (([] : List (S75))) 0) else (some ([] : List (List (S75)))))
set_option maxRecDepth 100000 in
theorem spec_SplitStops.mono_l : ∀ k,(∀ y0 y1 y2 y3,LeO (spec_SplitStops.l0 k y0 y1 y2 y3) (spec_SplitStops.l0 (k + 1) y0 y1 y2 y3))
 | 0 => fun _ _ _ _ r h => (by cases h)
 | k + 1 => by
  have ih0 := spec_SplitStops.mono_l k
  ·intro y0 y1 y2 y3
   unfold spec_SplitStops.l0
   repeat' first
   | (with_reducible exact ih0 _ _ _ _)
   | (with_reducible exact spec_validOps.mono _ _)
   | (with_reducible exact LeO.refl _)
   | (with_reducible exact LeO.none _)
   | (with_reducible refine LeO.ite ?_ ?_)
   | (with_reducible refine LeO.bind ?_ (fun _ => ?_))
   | exact ih0 _ _ _ _
   | exact spec_validOps.mono _ _
   | exact LeO.none _
   | refine LeO.ite ?_ ?_
   | refine LeO.bind ?_ (fun _ => ?_)
set_option maxRecDepth 100000 in
theorem spec_SplitStops.mono : ∀ a0 k,LeO (spec_SplitStops.f k a0) (spec_SplitStops.f (k + 1) a0) := by
 intro a0 k
 have ih0 := spec_SplitStops.mono_l k
 unfold spec_SplitStops.f
 repeat' first
   | (with_reducible exact ih0 _ _ _ _)
   | (with_reducible exact spec_validOps.mono _ _)
   | (with_reducible exact LeO.refl _)
   | (with_reducible exact LeO.none _)
   | (with_reducible refine LeO.ite ?_ ?_)
   | (with_reducible refine LeO.bind ?_ (fun _ => ?_))
   | exact ih0 _ _ _ _
   | exact spec_validOps.mono _ _
   | exact LeO.none _
   | refine LeO.ite ?_ ?_
   | refine LeO.bind ?_ (fun _ => ?_)
set_option maxHeartbeats 8000000 in
set_option maxRecDepth 100000 in
theorem spec_SplitStops.calls (k : Nat) (A0 : Option Addr) (c0 : Nat) (l0 : List (S75)) (r : List (List (S75))) (w : World) (hr0 : Kd.C k75 w A0 l0.length l0) (hc0 : l0.length ≤ c0) (h : spec_SplitStops.f k l0 = some r) :
  Calls Try.prog 57 #[.slice A0 l0.length c0] w fun e w' => ∃ v0_ : Value,e = .returned (v0_) ∧ Kd.S (Kd.slice 75 k75) 23 w' w.heap.size (fun _ => True) v0_ r ∧ Below w.heap.size w w' := by
 have hu75 := Try.underlying75
 have HR0 := As_ hr0
 have HC0 := As_ hc0
 clear hr0 hc0
 have HB := As_ (Below.refl w.heap.size w)
 have H : ((spec_validOps.f k l0).bind fun t277 => (if t277 = true then (spec_SplitStops.l0 k l0 (([] : List (List (S75)))) (([] : List (S75))) 0) else (some ([] : List (List (S75)))))) = some r := h
 clear h
 replace H := obS H
 obtain ⟨t277,A20,H⟩ := H
 replace H : (if t277 = true then (spec_SplitStops.l0 k l0 (([] : List (List (S75)))) (([] : List (S75))) 0) else (some ([] : List (List (S75))))) = some r := H
 have A2 := As_ A20
 clear A20
 by_cases c3 : t277 = true
 rotate_left
 ·replace c3 := Bool.eq_false_iff.mpr c3
  subst c3
  have H1 : (some ([] : List (List (S75)))) = some r := by rw [if_neg (show ¬ (false = true) by decide)] at H;exact H
  clear H
  have H := H1
  clear H1
  obtain rfl := Option.some.inj H
  go_enter Try.func57,Try.ntmps57
  go_wp2_with (first|((with_reducible refine gate_callee (f := 55) rfl ?_);refine goesL_ (some 7) rfl rfl Try.func55 (by kernel_rfl) rfl #[.slice A0 l0.length c0] rfl zM_ ?_;(with_reducible refine (spec_validOps.calls k _ _ l0 false _ ?side1 ?side2 A2.out).mono ?_);(case side1 => repeat (first|exact HR0.out|(with_reducible refine Kd.C_alloc ?_ _)|(with_reducible refine Kd.C_drewN ?_ _)|(with_reducible refine Kd.C_drew ?_)));(case side2 => exact HC0.out);rintro e w25 ⟨rfl,hb⟩;refine ⟨_,rfl,?_⟩;have n0_ := As_ (bwT (zb0 HB.out) hb);clear HB;revert n0_;intro HB))
  go_ret
  exact ⟨_,zE_,by first|exact Kd.S_nil _ _ _ _ _|exact Kd.N_nil _ _ _ _ _|exact Kd.V_nil _ _ _ _ _|exact Kd.Q_nil _ _ _ _ _|exact Kd.R_nil _ _ _ _ _,zb0 HB.out⟩

 subst c3
 have H1 : (spec_SplitStops.l0 k l0 (([] : List (List (S75)))) (([] : List (S75))) 0) = some r := by rw [if_pos rfl] at H;exact H
 clear H
 have H := H1
 clear H1
 obtain ⟨y278,hy278⟩ : ∃ y_ : List (List (S75)),y_ = (([] : List (List (S75)))) := ⟨_,rfl⟩
 replace H : (spec_SplitStops.l0 k l0 y278 (([] : List (S75))) 0) = some r := zH_ H hy278
 have Ny278 := As_ hy278
 clear hy278
 obtain ⟨y281,hy281⟩ : ∃ y_ : List (S75),y_ = (([] : List (S75))) := ⟨_,rfl⟩
 replace H : (spec_SplitStops.l0 k l0 y278 y281 0) = some r := zH_ H hy281
 have Ny281 := As_ hy281
 clear hy281
 have H' := As_ H
 clear H
 go_enter Try.func57,Try.ntmps57
 go_wp2_with (first|((with_reducible refine gate_callee (f := 55) rfl ?_);refine goesL_ (some 7) rfl rfl Try.func55 (by kernel_rfl) rfl #[.slice A0 l0.length c0] rfl zM_ ?_;(with_reducible refine (spec_validOps.calls k _ _ l0 true _ ?side1 ?side2 A2.out).mono ?_);(case side1 => repeat (first|exact HR0.out|(with_reducible refine Kd.C_alloc ?_ _)|(with_reducible refine Kd.C_drewN ?_ _)|(with_reducible refine Kd.C_drew ?_)));(case side2 => exact HC0.out);rintro e w4 ⟨rfl,hb⟩;refine ⟨_,rfl,?_⟩;have n0_ := As_ (bwT (zb0 HB.out) hb);clear HB;revert n0_;intro HB)|((with_reducible refine gate_dst (N := 9) rfl ?_);refine Kd.S_lit (Kd.slice 75 k75) _ 23 ?hg (N := 9) ?hd (xs := ([] : List (List (S75)))) (inner := []) (ok := fun _ => True) (okp := fun _ => True) ?hr ?hp (fun _ hk => hk) trivial (Below.refl _ _) (Nat.le_refl _) (by simp) ?_;(case hd => rfl);(case hg => rfl);(case hr => go_simp <;> rfl);(case hp => exact (Reps.none _ _));intro v279 w5 ho6 hb hg_ hnew_;clear hg_ hnew_;(first|rw [← Ny278.out] at ho6|(simp only [Int.reduceToNat] at ho6;rw [← Ny278.out] at ho6));have n0_ := As_ (Kd.S_lower ho6 (bwZ (zb0 HB.out)));have n1_ := As_ (bwT (zb0 HB.out) hb);clear HB;revert n0_ n1_;intro HO280 HB;clear hb ho6)|((with_reducible refine gate_dst (N := 10) rfl ?_);refine Kd.R_lit k75 _ 75 ?hg (N := 10) ?hd (xs := ([] : List (S75))) (inner := []) (ok := fun _ => True) (okp := fun _ => True) ?hr ?hp (fun _ hk => hk) trivial (Below.refl _ _) (Nat.le_refl _) (by simp) ?_;(case hd => rfl);(case hg => rfl);(case hr => go_simp <;> rfl);(case hp => exact (Reps.none _ _));intro v282 w7 ho8 hb hg_ hnew_;clear hg_ hnew_;(first|rw [← Ny281.out] at ho8|(simp only [Int.reduceToNat] at ho8;rw [← Ny281.out] at ho8));have n0_ := As_ (Kd.S_elder' (zS_ HO280.out) (Kd.R_base ho8) hb);have n1_ := As_ (Kd.R_lower ho8 (bwZ (zb0 HB.out)));have n2_ := As_ (bwT (zb0 HB.out) hb);clear HO280 HB;revert n0_ n1_ n2_;intro HO280 HO283 HB;clear hb ho8))
 go_loopg [3,4,5] k (fun kq v3 v4 v5 w' => ∃ (x3_1 : List (List (S75))) (x4_1 : List (S75)) (x5_1 : Int),v5 = .int .i64 x5_1 ∧ Aside0 (spec_SplitStops.l0 kq l0 x3_1 x4_1 x5_1 = some r) ∧ Aside0 (kq ≤ k) ∧ Aside0 (Kd.S (Kd.slice 75 k75) 23 w' w.heap.size (fun k_ => some k_ ≠ (v4 : Value).ownBlock) v3 x3_1) ∧ Aside0 (Kd.R k75 75 w' w.heap.size (fun _ => True) v4 x4_1) ∧ Aside0 (Below w.heap.size w w'))
 case atStart => exact ⟨(y278),(y281),(0),zT_,H',⟨Nat.le_refl _⟩,⟨by (with_reducible repeat (first|apply Kd.S_alloc|apply Kd.S_drewN|apply Kd.S_drew));exact Kd.S_mono HO280.out (fun _ hk => hk.2)⟩,⟨by (with_reducible repeat (first|apply Kd.R_alloc|apply Kd.R_drewN|apply Kd.R_drew));exact HO283.out⟩,⟨zb0 HB.out⟩⟩
 case round =>
  clear H'
  obtain ⟨x3_1,x4_1,x5_1,rfl,HA,HK1,HO_3,HO_4,HB⟩ := hrel
  cases gk with
  | zero => exact absurd HA.out (fun h_ => (by cases h_))
  | succ k1 =>
   have H := HA.out
   clear HA
   simp only [spec_SplitStops.l0] at H
   by_cases c9 : x5_1 < (l0.length : Int)
   rotate_left
   ·rw [if_neg c9] at H
    have c9b0 : decide (x5_1 < (l0.length : Int)) = false := deF c9
    clear c9
    by_cases c20 : (x4_1.length : Int) > 0
    rotate_left
    ·rw [if_neg c20] at H
     have c20b0 : decide (0 < (x4_1.length : Int)) = false := deF c20
     have c20b1 : decide (0 < x4_1.length) = false := deF (by omega)
     clear c20
     obtain rfl := Option.some.inj H
     obtain ⟨Ao24,co24,eo24⟩ := Kd.R_slice HO_4.out
     subst eo24
     go_wp2
     go_ret
     exact ⟨_,zE_,by (with_reducible repeat (first|apply Kd.S_alloc|apply Kd.S_drewN|apply Kd.S_drew));exact Kd.S_mono HO_3.out (fun _ hk => trivial),zb0 HB.out⟩
    rw [if_pos c20] at H
    have c20b0 : decide (0 < (x4_1.length : Int)) = true := deT c20
    have c20b1 : decide (0 < x4_1.length) = true := deT (by omega)
    clear c20
    by_cases c21 : x3_1.length < 5864062014805
    rotate_left
    ·rw [if_neg c21] at H
     exact absurd H (by simp)
    rw [if_pos c21] at H
    have LMc21 := As_ c21
    clear c21
    obtain ⟨y295,hy295⟩ : ∃ y_ : List (List (S75)),y_ = (x3_1 ++ [x4_1]) := ⟨_,rfl⟩
    replace H : (some y295) = some r := zH_ H hy295
    have Ny295 := As_ hy295
    clear hy295
    obtain rfl := Option.some.inj H
    obtain ⟨Ao22,co22,eo22⟩ := Kd.R_slice HO_4.out
    subst eo22
    go_wp2_with (first|((with_reducible refine gate_builtin (b := .append) (xs := #[.tmp 38,.tmp 40]) rfl ?_);at_builtin;refine Kd.S_append (Kd.slice 75 k75) (w0 := w) w.heap.size rfl (.tmp 38) (.tmp 40) 81 23 (.slice none 0 0) 24 rfl Try.underlying81 info23 rfl (by decide) (by omega) u3 x3_1 x4_1 [.slice Ao22 x4_1.length co22] (fun _ => True) (fun k_ => some k_ = (.slice Ao22 x4_1.length co22 : Value).ownBlock) rfl rfl ?aP (fun k_ hk_ => ((Kd.R_mono (ok' := fun k_ => ((fun _ => True)) k_ ∧ some k_ ≠ (u3 : Value).ownBlock) (Kd.R_apart' (HO_4.out) (Kd.S_typed HO_3.out) (by decide)) (fun k_ hk => ⟨trivial,hk.2⟩))).1 k_ hk_.symm) ?aF ?aO ?aB ?aS ?aL ?_;(case aP => exact Kd.M_row (Kd.R_mono (Kd.R_tight rfl (Kd.R_mono (ok' := fun k_ => ((fun _ => True)) k_ ∧ some k_ ≠ (u3 : Value).ownBlock) (Kd.R_apart' (HO_4.out) (Kd.S_typed HO_3.out) (by decide)) (fun k_ hk => ⟨trivial,hk.2⟩))) (fun _ h_ => h_)));(case aB => exact (zb0 HB.out));(case aF => exact (fun _ _ => trivial));(case aO => exact (by (with_reducible repeat (first|apply Kd.S_alloc|apply Kd.S_drewN|apply Kd.S_drew));exact Kd.S_mono HO_3.out (fun k_ hk => ⟨trivial,fun e_ => hk e_⟩)));(case aS => exact (bwZ (zb0 HB.out)));(case aL => have := LMc21.out;omega);intro v296 w23 ho hb hg hat;rw [← Ny295.out] at ho;have n0_ := As_ (hb);have n1_ := As_ (ho);clear HB HO_3 HO_4;revert n0_ n1_;intro HB HO297;clear ho hb hg hat))
    go_ret
    exact ⟨_,zE_,by (with_reducible repeat (first|apply Kd.S_alloc|apply Kd.S_drewN|apply Kd.S_drew));exact HO297.out,zb0 HB.out⟩
   rw [if_pos c9] at H
   have c9b0 : decide (x5_1 < (l0.length : Int)) = true := deT c9
   clear c9
   by_cases c10 : 0 ≤ x5_1
   rotate_left
   ·rw [if_neg c10] at H
    exact absurd H (by simp)
   rw [if_pos c10] at H
   have c10b0 : decide (0 ≤ x5_1) = true := deT c10
   clear c10
   by_cases c11 : x4_1.length < 8796093022208
   rotate_left
   ·rw [if_neg c11] at H
    exact absurd H (by simp)
   rw [if_pos c11] at H
   have LMc11 := As_ c11
   clear c11
   obtain ⟨y285,hy285⟩ : ∃ y_ : List (S75),y_ = (x4_1 ++ [(⟨(rd_T75 l0 x5_1).f0,(rd_T75 l0 x5_1).f1⟩ : S75)]) := ⟨_,rfl⟩
   replace H : (if ((rd_T75 l0 x5_1).f0) = 19 then (if x3_1.length < 5864062014805 then (spec_SplitStops.l0 k1 l0 (x3_1 ++ [y285]) (([] : List (S75))) (wrap64 (x5_1 + 1))) else (none)) else (spec_SplitStops.l0 k1 l0 x3_1 y285 (wrap64 (x5_1 + 1)))) = some r := zH_ H hy285
   have Ny285 := As_ hy285
   clear hy285
   by_cases c12 : ((rd_T75 l0 x5_1).f0) = 19
   rotate_left
   ·rw [if_neg c12] at H
    have c12b0 : (((rd_T75 l0 x5_1).f0) == 19) = false := beq_eq_false_iff_ne.mpr c12
    have c12b1 : (((rd_T75 l0 x5_1).f0) != 19) = true := bne_iff_ne.mpr c12
    have H' := As_ H
    clear H
    have p284 : 0 ≤ (x5_1 : Int) := odT zA_
    have q284 : x5_1 < (l0.length : Int) := odT zA_
    obtain ⟨ad284,e284,hx284_0,hx284_1⟩ := at_T75 HR0.out x5_1 p284 q284
    cases e284
    replace hx284_0 := bwC HB.out hx284_0
    replace hx284_1 := bwC HB.out hx284_1
    replace p284 := eq_true p284
    replace q284 := eq_true q284
    go_wp2_with (first|((with_reducible refine gate_builtin (b := .append) (xs := #[.tmp 17,.tmp 22]) rfl ?_);at_builtin;refine Kd.R_append k75 (w0 := w) w.heap.size rfl (.tmp 17) (.tmp 22) 23 75 (.agg #[(.int .i64 0),(.int .i64 0)]) 16 rfl Try.underlying23 info75 rfl (by decide) (by omega) u4 x4_1 (⟨(rd_T75 l0 x5_1).f0,(rd_T75 l0 x5_1).f1⟩ : S75) [.int .i64 ((rd_T75 l0 x5_1).f0),.int .i64 ((rd_T75 l0 x5_1).f1)] (fun _ => True) (fun _ => False) rfl rfl ?aP (fun _ hk => hk.elim) ?aF ?aO ?aB ?aS ?aL ?_;(case aP => exact k75_mkM _ _ _ (⟨(rd_T75 l0 x5_1).f0,(rd_T75 l0 x5_1).f1⟩ : S75));(case aB => exact (zb0 HB.out));(case aF => exact (fun _ _ => trivial));(case aO => exact (zR_ HO_4.out));(case aS => exact (bwZ (zb0 HB.out)));(case aL => have := LMc11.out;omega);intro v286 w19 ho hb hg hat;rw [← Ny285.out] at ho;have n0_ := As_ (Kd.S_after (ok := (fun _ => True)) (by (with_reducible repeat (first|apply Kd.S_alloc|apply Kd.S_drewN|apply Kd.S_drew));exact Kd.S_mono HO_3.out (fun _ hk => ⟨trivial,hk⟩)) hg hat);have n1_ := As_ (hb);have n2_ := As_ (ho);clear HO_3 HB HO_4;revert n0_ n1_ n2_;intro HO_3 HB HO287;clear ho hb hg hat;have p288 : 0 ≤ (x5_1 : Int) := odT zA_;have q288 : x5_1 < (l0.length : Int) := odT zA_;obtain ⟨ad288,e288,hx288_0,hx288_1⟩ := at_T75 HR0.out x5_1 p288 q288;obtain rfl : ad284 = ad288 := (by injection e288);replace hx288_0 := bwC HB.out hx288_0;replace hx288_1 := bwC HB.out hx288_1;replace p288 := eq_true p288;replace q288 := eq_true q288))
    go_roundg k1
    case measure => have := HK1.out;omega
    case rel => exact ⟨(x3_1),(y285),(wrap64 (x5_1 + 1)),zT_,H',⟨by have := HK1.out;omega⟩,⟨by (with_reducible repeat (first|apply Kd.S_alloc|apply Kd.S_drewN|apply Kd.S_drew));exact Kd.S_mono HO_3.out (fun _ hk => hk.2)⟩,⟨by (with_reducible repeat (first|apply Kd.R_alloc|apply Kd.R_drewN|apply Kd.R_drew));exact HO287.out⟩,⟨zb0 HB.out⟩⟩
   rw [if_pos c12] at H
   have c12b0 : (((rd_T75 l0 x5_1).f0) == 19) = true := beq_iff_eq.mpr c12
   have c12b1 : (((rd_T75 l0 x5_1).f0) != 19) = false := bne_eq_false_iff_eq.mpr c12
   clear c12
   by_cases c13 : x3_1.length < 5864062014805
   rotate_left
   ·rw [if_neg c13] at H
    exact absurd H (by simp)
   rw [if_pos c13] at H
   have LMc13 := As_ c13
   clear c13
   obtain ⟨y289,hy289⟩ : ∃ y_ : List (List (S75)),y_ = (x3_1 ++ [y285]) := ⟨_,rfl⟩
   replace H : (spec_SplitStops.l0 k1 l0 y289 (([] : List (S75))) (wrap64 (x5_1 + 1))) = some r := zH_ H hy289
   have Ny289 := As_ hy289
   clear hy289
   obtain ⟨y292,hy292⟩ : ∃ y_ : List (S75),y_ = (([] : List (S75))) := ⟨_,rfl⟩
   replace H : (spec_SplitStops.l0 k1 l0 y289 y292 (wrap64 (x5_1 + 1))) = some r := zH_ H hy292
   have Ny292 := As_ hy292
   clear hy292
   have H' := As_ H
   clear H
   have p284 : 0 ≤ (x5_1 : Int) := odT zA_
   have q284 : x5_1 < (l0.length : Int) := odT zA_
   obtain ⟨ad284,e284,hx284_0,hx284_1⟩ := at_T75 HR0.out x5_1 p284 q284
   cases e284
   replace hx284_0 := bwC HB.out hx284_0
   replace hx284_1 := bwC HB.out hx284_1
   replace p284 := eq_true p284
   replace q284 := eq_true q284
   go_wp2_with (first|((with_reducible refine gate_builtin (b := .append) (xs := #[.tmp 17,.tmp 22]) rfl ?_);at_builtin;refine Kd.R_append k75 (w0 := w) w.heap.size rfl (.tmp 17) (.tmp 22) 23 75 (.agg #[(.int .i64 0),(.int .i64 0)]) 16 rfl Try.underlying23 info75 rfl (by decide) (by omega) u4 x4_1 (⟨(rd_T75 l0 x5_1).f0,(rd_T75 l0 x5_1).f1⟩ : S75) [.int .i64 ((rd_T75 l0 x5_1).f0),.int .i64 ((rd_T75 l0 x5_1).f1)] (fun _ => True) (fun _ => False) rfl rfl ?aP (fun _ hk => hk.elim) ?aF ?aO ?aB ?aS ?aL ?_;(case aP => exact k75_mkM _ _ _ (⟨(rd_T75 l0 x5_1).f0,(rd_T75 l0 x5_1).f1⟩ : S75));(case aB => exact (zb0 HB.out));(case aF => exact (fun _ _ => trivial));(case aO => exact (zR_ HO_4.out));(case aS => exact (bwZ (zb0 HB.out)));(case aL => have := LMc11.out;omega);intro v286 w14 ho hb hg hat;rw [← Ny285.out] at ho;have n0_ := As_ (Kd.S_after (ok := (fun _ => True)) (by (with_reducible repeat (first|apply Kd.S_alloc|apply Kd.S_drewN|apply Kd.S_drew));exact Kd.S_mono HO_3.out (fun _ hk => ⟨trivial,hk⟩)) hg hat);have n1_ := As_ (hb);have n2_ := As_ (ho);clear HO_3 HB HO_4;revert n0_ n1_ n2_;intro HO_3 HB HO287;clear ho hb hg hat;have p288 : 0 ≤ (x5_1 : Int) := odT zA_;have q288 : x5_1 < (l0.length : Int) := odT zA_;obtain ⟨ad288,e288,hx288_0,hx288_1⟩ := at_T75 HR0.out x5_1 p288 q288;obtain rfl : ad284 = ad288 := (by injection e288);replace hx288_0 := bwC HB.out hx288_0;replace hx288_1 := bwC HB.out hx288_1;replace p288 := eq_true p288;replace q288 := eq_true q288;obtain ⟨Ao16,co16,eo16⟩ := Kd.R_slice HO287.out;subst eo16)|((with_reducible refine gate_builtin (b := .append) (xs := #[.tmp 30,.tmp 32]) rfl ?_);at_builtin;refine Kd.S_append (Kd.slice 75 k75) (w0 := w) w.heap.size rfl (.tmp 30) (.tmp 32) 81 23 (.slice none 0 0) 24 rfl Try.underlying81 info23 rfl (by decide) (by omega) u3 x3_1 y285 [.slice Ao16 y285.length co16] (fun _ => True) (fun k_ => some k_ = (.slice Ao16 y285.length co16 : Value).ownBlock) rfl rfl ?aP (fun k_ hk_ => ((Kd.R_mono (ok' := fun k_ => ((fun _ => True)) k_ ∧ some k_ ≠ (u3 : Value).ownBlock) (Kd.R_apart' (HO287.out) (Kd.S_typed HO_3.out) (by decide)) (fun k_ hk => ⟨trivial,hk.2⟩))).1 k_ hk_.symm) ?aF ?aO ?aB ?aS ?aL ?_;(case aP => exact Kd.M_row (Kd.R_mono (Kd.R_tight rfl (Kd.R_mono (ok' := fun k_ => ((fun _ => True)) k_ ∧ some k_ ≠ (u3 : Value).ownBlock) (Kd.R_apart' (HO287.out) (Kd.S_typed HO_3.out) (by decide)) (fun k_ hk => ⟨trivial,hk.2⟩))) (fun _ h_ => h_)));(case aB => exact (zb0 HB.out));(case aF => exact (fun _ _ => trivial));(case aO => exact (by (with_reducible repeat (first|apply Kd.S_alloc|apply Kd.S_drewN|apply Kd.S_drew));exact Kd.S_mono HO_3.out (fun k_ hk => ⟨trivial,fun e_ => hk.2 e_⟩)));(case aS => exact (bwZ (zb0 HB.out)));(case aL => have := LMc13.out;omega);intro v290 w15 ho hb hg hat;rw [← Ny289.out] at ho;have n0_ := As_ (hb);have n1_ := As_ (ho);clear HB HO_3 HO287;revert n0_ n1_;intro HB HO291;clear ho hb hg hat)|((with_reducible refine gate_dst (N := 34) rfl ?_);refine Kd.R_lit k75 _ 75 ?hg (N := 34) ?hd (xs := ([] : List (S75))) (inner := []) (ok := fun _ => True) (okp := fun _ => True) ?hr ?hp (fun _ hk => hk) trivial (Below.refl _ _) (Nat.le_refl _) (by simp) ?_;(case hd => rfl);(case hg => rfl);(case hr => go_simp <;> rfl);(case hp => exact (Reps.none _ _));intro v293 w17 ho18 hb hg_ hnew_;clear hg_ hnew_;(first|rw [← Ny292.out] at ho18|(simp only [Int.reduceToNat] at ho18;rw [← Ny292.out] at ho18));have n0_ := As_ (Kd.S_elder' (zS_ HO291.out) (Kd.R_base ho18) hb);have n1_ := As_ (Kd.R_lower ho18 (bwZ (zb0 HB.out)));have n2_ := As_ (bwT (zb0 HB.out) hb);clear HO291 HB;revert n0_ n1_ n2_;intro HO291 HO294 HB;clear hb ho18))
   go_roundg k1
   case measure => have := HK1.out;omega
   case rel => exact ⟨(y289),(y292),(wrap64 (x5_1 + 1)),zT_,H',⟨by have := HK1.out;omega⟩,⟨by (with_reducible repeat (first|apply Kd.S_alloc|apply Kd.S_drewN|apply Kd.S_drew));exact Kd.S_mono HO291.out (fun _ hk => hk.2)⟩,⟨by (with_reducible repeat (first|apply Kd.R_alloc|apply Kd.R_drewN|apply Kd.R_drew));exact HO294.out⟩,⟨zb0 HB.out⟩⟩
/-! ### spec_validBytes: function 93 -/
def spec_validBytes.f (k : Nat) (l0 : List Int) : Option (Bool) := if (l0.length : Int) ≤ 1000 then ((spec_allIn.f k l0 0 255).bind fun t298 => (some t298)) else (some false)
set_option maxRecDepth 100000 in
theorem spec_validBytes.mono : ∀ a0 k, LeO (spec_validBytes.f k a0) (spec_validBytes.f (k + 1) a0) := by
  intro a0 k
  unfold spec_validBytes.f
  repeat' first
      | (with_reducible exact spec_allIn.mono _ _ _ _)
      | (with_reducible exact LeO.refl _)
      | (with_reducible exact LeO.none _)
      | (with_reducible refine LeO.ite ?_ ?_)
      | (with_reducible refine LeO.bind ?_ (fun _ => ?_))
      | exact spec_allIn.mono _ _ _ _
      | exact LeO.none _
      | refine LeO.ite ?_ ?_
      | refine LeO.bind ?_ (fun _ => ?_)
set_option maxHeartbeats 8000000 in
set_option maxRecDepth 100000 in
theorem spec_validBytes.calls (k : Nat) (A0 : Option Addr) (c0 : Nat) (l0 : List Int) (r : Bool) (w : World) (hr0 : Kd.C (Kd.int .i64) w A0 l0.length l0) (hc0 : l0.length ≤ c0) (h : spec_validBytes.f k l0 = some r) :
    Calls Try.prog 93 #[.slice A0 l0.length c0] w fun e w' => e = .returned (.bool r) ∧ Drawn0 w w' := by
  have HR0 := As_ hr0
  have HC0 := As_ hc0
  clear hr0 hc0
  have H : (if (l0.length : Int) ≤ 1000 then ((spec_allIn.f k l0 0 255).bind fun t298 => (some t298)) else (some false)) = some r := h
  clear h
  by_cases c2 : (l0.length : Int) ≤ 1000
  · rw [if_pos c2] at H
    have c2b0 : decide ((l0.length : Int) ≤ 1000) = true := deT c2
    have c2b1 : decide (l0.length ≤ 1000) = true := deT (by omega)
    clear c2
    replace H := obS H
    obtain ⟨t298, A30, H⟩ := H
    replace H : (some t298) = some r := H
    have A3 := As_ A30
    clear A30
    obtain rfl := Option.some.inj H
    go_enter Try.func93, Try.ntmps93
    go_wp2_with (first | (go_at_call 87; (with_reducible refine (spec_allIn.calls k _ _ l0 0 255 t298 _ ?side1 ?side2 A3.out).mono ?_); (case side1 => repeat (first | exact HR0.out | (with_reducible refine Kd.C_alloc ?_ _) | (with_reducible refine Kd.C_drewN ?_ _) | (with_reducible refine Kd.C_drew ?_))); (case side2 => exact HC0.out); rintro e w' ⟨rfl, ⟨nd, rfl⟩⟩))
    go_ret
    exact ⟨by first | rfl | (simp; done) | (simp [*]; done), by repeat (first | exact Drawn0.refl _ | apply Drawn0.step)⟩
  · rw [if_neg c2] at H
    have c2b0 : decide ((l0.length : Int) ≤ 1000) = false := deF c2
    have c2b1 : decide (l0.length ≤ 1000) = false := deF (by omega)
    clear c2
    obtain rfl := Option.some.inj H
    go_enter Try.func93, Try.ntmps93
    go_wp2
    go_ret
    exact ⟨by first | rfl | (simp; done) | (simp [*]; done), by repeat (first | exact Drawn0.refl _ | apply Drawn0.step)⟩

/-! ### spec_FrameBytes: function 58 -/
mutual
def spec_FrameBytes.j0 : Nat → List Int → Int → Bool → Option (List Int)
 | 0,_,_,_ => none
 | k + 1,x0,x1,x15 => if x15 = true then (some ([] : List Int)) else (spec_FrameBytes.l0 k x0 x1 (([] : List Int)) 0)
def spec_FrameBytes.l0 : Nat → List Int → Int → List Int → Int → Option (List Int)
 | 0,_,_,_,_ => none
 | k + 1,x0,x1,x5,x6 => if x6 < (x0.length : Int) then (if x5.length < 17592186044416 then ((some (x5 ++ [mn x1 (wrap64 ((x0.length : Int) - x6))] : List Int)).bind fun y304 => (if 0 ≤ x6 then (if x6 ≤ (wrap64 (x6 + (mn x1 (wrap64 ((x0.length : Int) - x6))))) then (if (wrap64 (x6 + (mn x1 (wrap64 ((x0.length : Int) - x6))))) ≤ (x0.length : Int) then (if y304.length + ((x0.take ((wrap64 (x6 + (mn x1 (wrap64 ((x0.length : Int) - x6))))) : Int).toNat).drop (x6 : Int).toNat).length < 17592186044416 then (spec_FrameBytes.l0 k x0 x1 (y304 ++ ((x0.take ((wrap64 (x6 + (mn x1 (wrap64 ((x0.length : Int) - x6))))) : Int).toNat).drop (x6 : Int).toNat)) (wrap64 (x6 + x1))) else (none)) else (none)) else (none)) else (none))) else (none)) else (some x5)
end
def spec_FrameBytes.f (k : Nat) (l0 : List Int) (a1 : Int) : Option (List Int) := (spec_validBytes.f k l0).bind fun t299 => (if t299 = true then ((spec_inRange.f a1 1 200).bind fun t300 => (spec_FrameBytes.j0 k l0 a1 (!t300))) else (spec_FrameBytes.j0 k l0 a1 true))
set_option maxRecDepth 100000 in
theorem spec_FrameBytes.mono_l : ∀ k,(∀ y0 y1 y2,LeO (spec_FrameBytes.j0 k y0 y1 y2) (spec_FrameBytes.j0 (k + 1) y0 y1 y2)) ∧ (∀ y0 y1 y2 y3,LeO (spec_FrameBytes.l0 k y0 y1 y2 y3) (spec_FrameBytes.l0 (k + 1) y0 y1 y2 y3))
 | 0 => ⟨fun _ _ _ r h => (by cases h),fun _ _ _ _ r h => (by cases h)⟩
 | k + 1 => by
  obtain ⟨ih0,ih1⟩ := spec_FrameBytes.mono_l k
  refine ⟨?_,?_⟩
  ·intro y0 y1 y2
   unfold spec_FrameBytes.j0
   repeat' first
   | (with_reducible exact ih0 _ _ _)
   | (with_reducible exact ih1 _ _ _ _)
   | (with_reducible exact spec_validBytes.mono _ _)
   | (with_reducible exact LeO.refl _)
   | (with_reducible exact LeO.none _)
   | (with_reducible refine LeO.ite ?_ ?_)
   | (with_reducible refine LeO.bind ?_ (fun _ => ?_))
   | exact ih0 _ _ _
   | exact ih1 _ _ _ _
   | exact spec_validBytes.mono _ _
   | exact LeO.none _
   | refine LeO.ite ?_ ?_
   | refine LeO.bind ?_ (fun _ => ?_)
  ·intro y0 y1 y2 y3
   unfold spec_FrameBytes.l0
   repeat' first
   | (with_reducible exact ih0 _ _ _)
   | (with_reducible exact ih1 _ _ _ _)
   | (with_reducible exact spec_validBytes.mono _ _)
   | (with_reducible exact LeO.refl _)
   | (with_reducible exact LeO.none _)
   | (with_reducible refine LeO.ite ?_ ?_)
   | (with_reducible refine LeO.bind ?_ (fun _ => ?_))
   | exact ih0 _ _ _
   | exact ih1 _ _ _ _
   | exact spec_validBytes.mono _ _
   | exact LeO.none _
   | refine LeO.ite ?_ ?_
   | refine LeO.bind ?_ (fun _ => ?_)
set_option maxRecDepth 100000 in
theorem spec_FrameBytes.mono : ∀ a0 a1 k,LeO (spec_FrameBytes.f k a0 a1) (spec_FrameBytes.f (k + 1) a0 a1) := by
 intro a0 a1 k
 obtain ⟨ih0,ih1⟩ := spec_FrameBytes.mono_l k
 unfold spec_FrameBytes.f
 repeat' first
   | (with_reducible exact ih0 _ _ _)
   | (with_reducible exact ih1 _ _ _ _)
   | (with_reducible exact spec_validBytes.mono _ _)
   | (with_reducible exact LeO.refl _)
   | (with_reducible exact LeO.none _)
   | (with_reducible refine LeO.ite ?_ ?_)
   | (with_reducible refine LeO.bind ?_ (fun _ => ?_))
   | exact ih0 _ _ _
   | exact ih1 _ _ _ _
   | exact spec_validBytes.mono _ _
   | exact LeO.none _
   | refine LeO.ite ?_ ?_
   | refine LeO.bind ?_ (fun _ => ?_)
def spec_FrameBytes.T8 : Bool × List (List Nat × List Nat) := (true,[([],[]),([],[]),([1],[1]),([0,2],[0,2]),([],[]),([],[]),([],[]),([],[]),([6,7],[6,7]),([4,5,8],[4,5,8]),([3,9,3],[3,9]),([10,10,0,1,2,3,4,5,6,7,8,9,10],[0,10])])
def spec_FrameBytes.B8 : List Nat := [0,0,2,7,0,0,0,0,192,496,1023,2047]
theorem spec_FrameBytes.tab8 : rtab .any (opsOf Try.f58 8) = spec_FrameBytes.T8 := by kernel_rfl
theorem spec_FrameBytes.bits8 : waitsOk spec_FrameBytes.T8.2 spec_FrameBytes.B8 = true := by kernel_rfl
set_option maxHeartbeats 8000000 in
set_option maxRecDepth 100000 in
theorem spec_FrameBytes.calls (k : Nat) (A0 : Option Addr) (c0 : Nat) (l0 : List Int) (a1 : Int) (r : List Int) (w : World) (hr0 : Kd.C (Kd.int .i64) w A0 l0.length l0) (hc0 : l0.length ≤ c0) (h : spec_FrameBytes.f k l0 a1 = some r) :
  Calls Try.prog 58 #[.slice A0 l0.length c0,.int .i64 a1] w fun e w' => ∃ v0_ : Value,e = .returned (v0_) ∧ Kd.R (Kd.int .i64) 3 w' w.heap.size (fun _ => True) v0_ r ∧ Below w.heap.size w w' := by
 have HR0 := As_ hr0
 have HC0 := As_ hc0
 clear hr0 hc0
 have HB := As_ (Below.refl w.heap.size w)
 have H : ((spec_validBytes.f k l0).bind fun t299 => (if t299 = true then ((spec_inRange.f a1 1 200).bind fun t300 => (spec_FrameBytes.j0 k l0 a1 (!t300))) else (spec_FrameBytes.j0 k l0 a1 true))) = some r := h
 clear h
 have HC3 := As_ H
 clear H
 go_enter Try.func58,Try.ntmps58
 go_upto_region 1 with (fail)
 go_cut [15] (fun v15 wc => ∃ (kq : Nat) (x15_2 : Bool),v15 = .bool x15_2 ∧ Aside0 (spec_FrameBytes.j0 kq l0 a1 x15_2 = some r) ∧ Aside0 (kq ≤ k) ∧ Aside0 (Below w.heap.size w wc))
 case first =>
  have H := HC3.out
  clear HC3
  replace H := obS H
  obtain ⟨t299,A40,H⟩ := H
  replace H : (if t299 = true then ((spec_inRange.f a1 1 200).bind fun t300 => (spec_FrameBytes.j0 k l0 a1 (!t300))) else (spec_FrameBytes.j0 k l0 a1 true)) = some r := H
  have A4 := As_ A40
  clear A40
  by_cases c5 : t299 = true
  rotate_left
  ·replace c5 := Bool.eq_false_iff.mpr c5
   subst c5
   have H1 : (spec_FrameBytes.j0 k l0 a1 true) = some r := by rw [if_neg (show ¬ (false = true) by decide)] at H;exact H
   clear H
   have H := H1
   clear H1
   have H' := As_ H
   clear H
   go_wp2_with (first|((with_reducible refine gate_callee (f := 93) rfl ?_);refine goesL_ (some 9) rfl rfl Try.func93 (by kernel_rfl) rfl #[.slice A0 l0.length c0] rfl zM_ ?_;(with_reducible refine (spec_validBytes.calls k _ _ l0 false _ ?side1 ?side2 A4.out).mono ?_);(case side1 => exact zC_ (Kd.C_below HR0.out HB.out));(case side2 => exact HC0.out);rintro e w' ⟨rfl,⟨nd,rfl⟩⟩;refine ⟨_,rfl,?_⟩))
   go_meet
   case rel => exact ⟨_,(true),zT_,H',⟨by first|omega|exact Nat.le_refl _⟩,⟨zb0 HB.out⟩⟩
  subst c5
  have H1 : ((spec_inRange.f a1 1 200).bind fun t300 => (spec_FrameBytes.j0 k l0 a1 (!t300))) = some r := by rw [if_pos rfl] at H;exact H
  clear H
  have H := H1
  clear H1
  replace H := obS H
  obtain ⟨t300,A60,H⟩ := H
  replace H : (spec_FrameBytes.j0 k l0 a1 (!t300)) = some r := H
  have A6 := As_ A60
  clear A60
  have H' := As_ H
  clear H
  go_wp2_with (first|((with_reducible refine gate_callee (f := 93) rfl ?_);refine goesL_ (some 9) rfl rfl Try.func93 (by kernel_rfl) rfl #[.slice A0 l0.length c0] rfl zM_ ?_;(with_reducible refine (spec_validBytes.calls k _ _ l0 true _ ?side1 ?side2 A4.out).mono ?_);(case side1 => exact zC_ (Kd.C_below HR0.out HB.out));(case side2 => exact HC0.out);rintro e w' ⟨rfl,⟨nd,rfl⟩⟩;refine ⟨_,rfl,?_⟩)|(go_at_call 56;(with_reducible refine (spec_inRange.calls a1 1 200 t300 _ A6.out).mono ?_);rintro e w' ⟨rfl,⟨nd,rfl⟩⟩))
  go_meet
  case rel => exact ⟨_,(!t300),zT_,H',⟨by first|omega|exact Nat.le_refl _⟩,⟨zb0 HB.out⟩⟩
 case rest =>
  clear HC3
  obtain ⟨kq,x15_2,rfl,HA,HJ2,HB⟩ := hcut
  cases kq with
  | zero => exact absurd HA.out (fun h_ => (by cases h_))
  | succ kj2 =>
   have H := HA.out
   clear HA
   simp only [spec_FrameBytes.j0] at H
   by_cases c7 : x15_2 = true
   ·subst c7
    have H1 : (some ([] : List Int)) = some r := by rw [if_pos rfl] at H;exact H
    clear H
    have H := H1
    clear H1
    obtain rfl := Option.some.inj H
    go_wp2
    go_ret
    exact ⟨_,zE_,by first|exact Kd.R_nil _ _ _ _ _|exact Kd.N_nil _ _ _ _ _|exact Kd.V_nil _ _ _ _ _|exact Kd.Q_nil _ _ _ _ _|exact Kd.S_nil _ _ _ _ _,zb0 HB.out⟩
   replace c7 := Bool.eq_false_iff.mpr c7
   subst c7
   have H1 : (spec_FrameBytes.l0 kj2 l0 a1 (([] : List Int)) 0) = some r := by rw [if_neg (show ¬ (false = true) by decide)] at H;exact H
   clear H
   have H := H1
   clear H1
   obtain ⟨y301,hy301⟩ : ∃ y_ : List Int,y_ = (([] : List Int)) := ⟨_,rfl⟩
   replace H : (spec_FrameBytes.l0 kj2 l0 a1 y301 0) = some r := zH_ H hy301
   have Ny301 := As_ hy301
   clear hy301
   have H' := As_ H
   clear H
   go_wp2_with (first|((with_reducible refine gate_dst (N := 16) rfl ?_);refine Kd.R_lit (Kd.int .i64) _ 3 ?hg (N := 16) ?hd (xs := ([] : List Int)) (inner := []) (ok := fun _ => True) (okp := fun _ => True) ?hr ?hp (fun _ hk => hk) trivial (Below.refl _ _) (Nat.le_refl _) (by simp) ?_;(case hd => rfl);(case hg => rfl);(case hr => go_simp <;> rfl);(case hp => exact (Reps.none _ _));intro v302 w8 ho9 hb hg_ hnew_;clear hg_ hnew_;(first|rw [← Ny301.out] at ho9|(simp only [Int.reduceToNat] at ho9;rw [← Ny301.out] at ho9));have n0_ := As_ (Kd.R_lower ho9 (bwZ (zb0 HB.out)));have n1_ := As_ (bwT (zb0 HB.out) hb);clear HB;revert n0_ n1_;intro HO303 HB;clear hb ho9))
   go_loopg [5,6] kj2 (fun kq v5 v6 w' => ∃ (x5_2 : List Int) (x6_2 : Int),v6 = .int .i64 x6_2 ∧ Aside0 (spec_FrameBytes.l0 kq l0 a1 x5_2 x6_2 = some r) ∧ Aside0 (kq ≤ kj2) ∧ Aside0 (Kd.R (Kd.int .i64) 3 w' w.heap.size (fun _ => True) v5 x5_2) ∧ Aside0 (Below w.heap.size w w'))
   case atStart => exact ⟨(y301),(0),zT_,H',⟨Nat.le_refl _⟩,⟨by (with_reducible repeat (first|apply Kd.R_alloc|apply Kd.R_drewN|apply Kd.R_drew));exact HO303.out⟩,⟨zb0 HB.out⟩⟩
   case round =>
    clear H'
    obtain ⟨x5_2,x6_2,rfl,HA,HK2,HO_5,HB⟩ := hrel
    cases gk with
    | zero => exact absurd HA.out (fun h_ => (by cases h_))
    | succ k2 =>
     have H := HA.out
     clear HA
     simp only [spec_FrameBytes.l0] at H
     by_cases c10 : x6_2 < (l0.length : Int)
     rotate_left
     ·rw [if_neg c10] at H
      have c10b0 : decide (x6_2 < (l0.length : Int)) = false := deF c10
      clear c10
      obtain rfl := Option.some.inj H
      go_wp2
      go_ret
      exact ⟨_,zE_,by (with_reducible repeat (first|apply Kd.R_alloc|apply Kd.R_drewN|apply Kd.R_drew));exact HO_5.out,zb0 HB.out⟩

     rw [if_pos c10] at H
     have c10b0 : decide (x6_2 < (l0.length : Int)) = true := deT c10
     clear c10
     obtain ⟨ji11,hji11⟩ : ∃ j_ : Int,(mn a1 (wrap64 ((l0.length : Int) - x6_2))) = j_ := ⟨_,rfl⟩
     replace H : (if x5_2.length < 17592186044416 then ((some (x5_2 ++ [ji11] : List Int)).bind fun y304 => (if 0 ≤ x6_2 then (if x6_2 ≤ (wrap64 (x6_2 + (ji11))) then (if (wrap64 (x6_2 + (ji11))) ≤ (l0.length : Int) then (if y304.length + ((l0.take ((wrap64 (x6_2 + (ji11))) : Int).toNat).drop (x6_2 : Int).toNat).length < 17592186044416 then (spec_FrameBytes.l0 k2 l0 a1 (y304 ++ ((l0.take ((wrap64 (x6_2 + (ji11))) : Int).toNat).drop (x6_2 : Int).toNat)) (wrap64 (x6_2 + a1))) else (none)) else (none)) else (none)) else (none))) else (none)) = some r := by first|(rw [hji11] at H;exact H)|(simp only [hji11] at H ⊢;exact H)
     have hji11_ : (if (wrap64 ((l0.length : Int) - x6_2)) < a1 then (wrap64 ((l0.length : Int) - x6_2)) else a1) = ji11 := hji11
     by_cases c12 : x5_2.length < 17592186044416
     rotate_left
     ·rw [if_neg c12] at H
      exact absurd H (by simp)
     rw [if_pos c12] at H
     have LMc12 := As_ c12
     clear c12
     obtain ⟨y304,hy304⟩ : ∃ y_ : List Int,y_ = (x5_2 ++ [ji11]) := ⟨_,rfl⟩
     replace H : (if 0 ≤ x6_2 then (if x6_2 ≤ (wrap64 (x6_2 + (ji11))) then (if (wrap64 (x6_2 + (ji11))) ≤ (l0.length : Int) then (if y304.length + ((l0.take ((wrap64 (x6_2 + (ji11))) : Int).toNat).drop (x6_2 : Int).toNat).length < 17592186044416 then (spec_FrameBytes.l0 k2 l0 a1 (y304 ++ ((l0.take ((wrap64 (x6_2 + (ji11))) : Int).toNat).drop (x6_2 : Int).toNat)) (wrap64 (x6_2 + a1))) else (none)) else (none)) else (none)) else (none)) = some r := zH_ H hy304
     have Ny304 := As_ hy304
     clear hy304
     by_cases c13 : 0 ≤ x6_2
     rotate_left
     ·rw [if_neg c13] at H
      exact absurd H (by simp)
     rw [if_pos c13] at H
     have c13b0 := eq_true c13
     have c13b1 : decide (0 ≤ x6_2) = true := deT c13
     clear c13
     by_cases c14 : x6_2 ≤ (wrap64 (x6_2 + (ji11)))
     rotate_left
     ·rw [if_neg c14] at H
      exact absurd H (by simp)
     rw [if_pos c14] at H
     have c14b0 := eq_true c14
     have c14b1 : decide (x6_2 ≤ (wrap64 (x6_2 + (ji11)))) = true := deT c14
     by_cases c15 : (wrap64 (x6_2 + (ji11))) ≤ (l0.length : Int)
     rotate_left
     ·rw [if_neg c15] at H
      exact absurd H (by simp)
     rw [if_pos c15] at H
     have c15b0 := eq_true c15
     have c15b1 : decide ((wrap64 (x6_2 + (ji11))) ≤ (l0.length : Int)) = true := deT c15
     by_cases c16 : y304.length + ((l0.take ((wrap64 (x6_2 + (ji11))) : Int).toNat).drop (x6_2 : Int).toNat).length < 17592186044416
     rotate_left
     ·rw [if_neg c16] at H
      exact absurd H (by simp)
     rw [if_pos c16] at H
     have LMc16 := As_ c16
     clear c16
     obtain ⟨y308,hy308⟩ : ∃ y_ : List Int,y_ = (y304 ++ ((l0.take ((wrap64 (x6_2 + (ji11))) : Int).toNat).drop (x6_2 : Int).toNat)) := ⟨_,rfl⟩
     replace H : (spec_FrameBytes.l0 k2 l0 a1 y308 (wrap64 (x6_2 + a1))) = some r := zH_ H hy308
     have Ny308 := As_ hy308
     clear hy308
     have H' := As_ H
     clear H
     try go_wp2
     have n0_ := As_ (Kd.R_drew HO_5.out)
     have n1_ := As_ (bwD HB.out)
     clear HO_5 HB
     revert n0_ n1_;intro HO_5 HB
     obtain ⟨i018,hi018,_,hsz18,_⟩ := info_parts info3
     obtain ⟨A18,hcut18,hA18,hC18⟩ := print_mid_of (P := Try.prog) (Value.int .i64) 0 22 3 .i64 .i64 Try.underlying22 hi018 hsz18 A0 c0 l0 x6_2 (wrap64 (x6_2 + (ji11))) (odT zA_) (by first|omega|exact odT zA_) (odT zA_) HC0.out
     have HR307 := As_ (Kd.C_of_reads (h1 := fun _ => rfl) (hA18 _ (Kd.reads_of_C HR0.out)))
     have HC307 := As_ hC18
     clear hA18 hC18 hi018 hsz18
     refine start_ (n := 12) (S := fun w' => True) (ds := []) (bl_ 0 12) (by kernel_rfl) rfl rfl trivial (fun hHeld => ?_);refine with_tabW spec_FrameBytes.tab8 spec_FrameBytes.bits8 (fun HT_ HW_ => ?_)
     generalize wr.drew = w17 at HO_5 HB HR307 hHeld ⊢
     refine pQ 0 30 (bl_ 1 12) HT_ rfl ?_
     refine pQ 1 31 (bl_ 3 12) HT_ rfl ?_
     refine pQ 4 34 (bl_ 19 12) HT_ rfl ?_
     refine pQ 5 35 (bl_ 51 12) HT_ rfl ?_
     refine pQ 6 36 (bl_ 115 12) HT_ rfl ?_
     refine pQ 7 37 (bl_ 243 12) HT_ rfl ?_
     refine pQ 8 38 (bl_ 499 12) HT_ rfl ?_
     refine pQ 9 39 (bl_ 1011 12) HT_ rfl ?_
     refine one_ (i := 2) (N := some 32) (bl_ 1015 12) rfl rfl (one_of HT_.out (by kernel_rfl)) (by decide) (fun K hK => ?_)
     refine value_ (w1 := ?_) (v := ?_) (by rfl) rfl ?_ ?_
     rotate_left 2
     ·go_simp
      constructor
      ·rfl
      ·rfl
     refine hK.out _ _ trivial (fun hHeld => ?_)
     clear hK K
     refine norm_ (a' := ?_) ?_ ?_
     rotate_left
     ·show Act.put _ (some 32) _ = _
      simp only [Act.put,sq_,i64_w,i32_w]
      rfl
     refine one_ (i := 3) (N := some 33) (bl_ 1023 12) rfl rfl (one_of HT_.out (by kernel_rfl)) (by decide) (fun K hK => ?_)
     refine Kd.R_append_step (Kd.int .i64) (w0 := w) w.heap.size (by rfl) (.tmp 30) (.tmp 32) 22 3 (.int .i64 0) 8 rfl Try.underlying22 info3 rfl (by decide) (by omega) u5 x5_2 ji11 [.int .i64 ji11] (fun _ => True) (fun _ => False) rfl rfl ?aP (fun _ hk => hk.elim) ?aF ?aO ?aB ?aS ?aL ?_
     (case aP => exact rfl)
     (case aB => exact (zb0 HB.out))
     (case aF => exact (fun _ _ => trivial))
     (case aO => exact (zR_ HO_5.out))
     (case aS => exact (bwZ (zb0 HB.out)))
     (case aL => have := LMc12.out;omega)
     intro v305 w19 ho hb hg hat
     rw [← Ny304.out] at ho
     have n0_ := As_ (hb)
     have n1_ := As_ (ho)
     clear HB HO_5
     revert n0_ n1_;intro HB HO306
     clear ho hb hg hat
     refine hK.out _ _ trivial (fun hHeld => ?_)
     clear hK K
     refine norm_ (a' := ?_) ?_ ?_
     rotate_left
     ·show Act.put _ (some 33) _ = _
      simp only [Act.put,sq_,i64_w,i32_w]
      rfl
     refine one_ (i := 10) (N := some 40) (bl_ 2047 12) rfl rfl (one_of HT_.out (by kernel_rfl)) (by decide) (fun K hK => ?_)
     refine Kd.R_append_rows_step (Kd.int .i64) (w0 := w) w.heap.size (by rfl) (.tmp 33) (.tmp 39) 22 3 (.int .i64 0) 8 rfl Try.underlying22 info3 rfl (by decide) (by omega) v305 y304 ((l0.take ((wrap64 (x6_2 + (ji11))) : Int).toNat).drop (x6_2 : Int).toNat) _ _ _ (fun _ => True) (fun _ => False) rfl rfl ?aO ?aR (fun _ _ h => h) (fun _ h => h.elim) ?aF ?aB ?aS ?aL ?_
     (case aR => first|(rw [← show ((l0.take ((wrap64 (x6_2 + (ji11))) : Int).toNat).drop (x6_2 : Int).toNat).length = ((wrap64 (x6_2 + (ji11))).toNat - x6_2.toNat) from (by rw [List.length_drop,List.length_take];have h_ : ((wrap64 (x6_2 + (ji11))) : Int) ≤ (l0.length : Int) := odT zA_;omega)];repeat (first|exact (Kd.C_below HR307.out HB.out)|(with_reducible refine Kd.C_alloc ?_ _)|(with_reducible refine Kd.C_drewN ?_ _)|(with_reducible refine Kd.C_drew ?_)))|(repeat (first|exact (Kd.C_below HR307.out HB.out)|(with_reducible refine Kd.C_alloc ?_ _)|(with_reducible refine Kd.C_drewN ?_ _)|(with_reducible refine Kd.C_drew ?_))))
     (case aB => exact (zb0 HB.out))
     (case aF => exact (fun _ _ => trivial))
     (case aO => exact (zR_ HO306.out))
     (case aS => exact (bwZ (zb0 HB.out)))
     (case aL => have := LMc16.out;have hlx_ := (show ((l0.take ((wrap64 (x6_2 + (ji11))) : Int).toNat).drop (x6_2 : Int).toNat).length = ((wrap64 (x6_2 + (ji11))).toNat - x6_2.toNat) from (by rw [List.length_drop,List.length_take];have h_ : ((wrap64 (x6_2 + (ji11))) : Int) ≤ (l0.length : Int) := odT zA_;omega));omega)
     intro v309 w20 ho hb hg hat
     rw [← Ny308.out] at ho
     have n0_ := As_ (hb)
     have n1_ := As_ (ho)
     clear HB HO306
     revert n0_ n1_;intro HB HO310
     clear ho hb hg hat
     refine hK.out _ _ trivial (fun hHeld => ?_)
     clear hK K
     refine norm_ (a' := ?_) ?_ ?_
     rotate_left
     ·show Act.put _ (some 40) _ = _
      simp only [Act.put,sq_,i64_w,i32_w]
      rfl
     refine pQ 11 5 (bl_ 4095 12) HT_ rfl ?_
     refine done_ (done_of HT_.out (by kernel_rfl)) ?_
     try go_wp2
     go_roundg k2
     case measure => have := HJ2.out;have := HK2.out;omega
     case rel => exact ⟨(y308),(wrap64 (x6_2 + a1)),zT_,H',⟨by have := HJ2.out;have := HK2.out;omega⟩,⟨by (with_reducible repeat (first|apply Kd.R_alloc|apply Kd.R_drewN|apply Kd.R_drew));exact HO310.out⟩,⟨zb0 HB.out⟩⟩
end Go.Proofs.Ytbokjhdhpmmpfaa.Q
