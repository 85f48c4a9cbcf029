-- Written by wip/tools/qprint.py (a program of this claim's author) by means of the kit's printer.
import Derived.Test.YtonppkaobnfldaaQ0
import Derived.Test.YtonppkaobnfldaaQ15
namespace Go.Proofs.Ytonppkaobnfldaa.Q
open Go.RowKit Go.Proofs.YtonppkaobnfldaaW.PrintWords Go.Proofs.YtonppkaobnfldaaW.PrintLast Go.Proofs.YtonppkaobnfldaaW.PrintMore
attribute [local go_sem] max2_int min2_int max_two min_two max_three min_three max_four min_four   -- for this text's walks alone
set_option linter.unusedVariables false
set_option linter.unusedSimpArgs false

/-! ### spec_SplitStops: function 37 -/
def spec_SplitStops.l0 : Nat → List (S49) → List (List (S49)) → List (S49) → Int → Option ((List (List (S49))))
 | 0,_,_,_,_ => none
 | k + 1,x0,x3,x4,x5 => if x5 < (x0.length : Int) then (if 0 ≤ x5 then (if x4.length < 8796093022208 then ((some (x4 ++ [(⟨(rd_T49 x0 x5).f0,(rd_T49 x0 x5).f1⟩ : S49)] : List (S49))).bind fun y420 => (if ((rd_T49 x0 x5).f0) = 19 then (if x3.length < 5864062014805 then (spec_SplitStops.l0 k x0 (x3 ++ [y420]) (([] : List (S49))) (wrap64 (x5 + 1))) else (none)) else (spec_SplitStops.l0 k x0 x3 y420 (wrap64 (x5 + 1))))) else (none)) else (none)) else (if (x4.length : Int) > 0 then (if x3.length < 5864062014805 then (some (x3 ++ [x4])) else (none)) else (some x3))
def spec_SplitStops.f (k : Nat) (l0 : List (S49)) : Option ((List (List (S49)))) := (spec_validOps.f k l0).bind fun t412 => (if t412 = true then (spec_SplitStops.l0 k l0 (([] : List (List (S49)))) (([] : List (S49))) 0) else (some ([] : List (List (S49)))))
set_option maxRecDepth 100000 in
theorem spec_SplitStops.mono_l : ∀ k,(∀ y0 y1 y2 y3,LeO (spec_SplitStops.l0 k y0 y1 y2 y3) (spec_SplitStops.l0 (k + 1) y0 y1 y2 y3))
 | 0 => fun _ _ _ _ r h => (by cases h)
 | k + 1 => by
  have ih0 := spec_SplitStops.mono_l k
  ·intro y0 y1 y2 y3
   unfold spec_SplitStops.l0
   repeat' first
   | (with_reducible exact ih0 _ _ _ _)
   | (with_reducible exact spec_validOps.mono _ _)
   | (with_reducible exact LeO.refl _)
   | (with_reducible exact LeO.none _)
   | (with_reducible refine LeO.ite ?_ ?_)
   | (with_reducible refine LeO.bind ?_ (fun _ => ?_))
   | exact ih0 _ _ _ _
   | exact spec_validOps.mono _ _
   | exact LeO.none _
   | refine LeO.ite ?_ ?_
   | refine LeO.bind ?_ (fun _ => ?_)
set_option maxRecDepth 100000 in
theorem spec_SplitStops.mono : ∀ a0 k,LeO (spec_SplitStops.f k a0) (spec_SplitStops.f (k + 1) a0) := by
 intro a0 k
 have ih0 := spec_SplitStops.mono_l k
 unfold spec_SplitStops.f
 repeat' first
   | (with_reducible exact ih0 _ _ _ _)
   | (with_reducible exact spec_validOps.mono _ _)
   | (with_reducible exact LeO.refl _)
   | (with_reducible exact LeO.none _)
   | (with_reducible refine LeO.ite ?_ ?_)
   | (with_reducible refine LeO.bind ?_ (fun _ => ?_))
   | exact ih0 _ _ _ _
   | exact spec_validOps.mono _ _
   | exact LeO.none _
   | refine LeO.ite ?_ ?_
   | refine LeO.bind ?_ (fun _ => ?_)
set_option maxHeartbeats 8000000 in
set_option maxRecDepth 100000 in
theorem spec_SplitStops.calls (k : Nat) (A0 : Option Addr) (c0 : Nat) (l0 : List (S49)) (r : List (List (S49))) (w : World) (hr0 : Kd.C k49 w A0 l0.length l0) (hc0 : l0.length ≤ c0) (h : spec_SplitStops.f k l0 = some r) :
  Calls Try.prog 37 #[.slice A0 l0.length c0] w fun e w' => ∃ v0_ : Value,e = .returned (v0_) ∧ Kd.S (Kd.slice 49 k49) 25 w' w.heap.size (fun _ => True) v0_ r ∧ Below w.heap.size w w' := by
 have hu49 := Try.underlying49
 have HR0 := As_ hr0
 have HC0 := As_ hc0
 clear hr0 hc0
 have HB := As_ (Below.refl w.heap.size w)
 have H : ((spec_validOps.f k l0).bind fun t412 => (if t412 = true then (spec_SplitStops.l0 k l0 (([] : List (List (S49)))) (([] : List (S49))) 0) else (some ([] : List (List (S49)))))) = some r := h
 clear h
 replace H := obS H
 obtain ⟨t412,A20,H⟩ := H
 replace H : (if t412 = true then (spec_SplitStops.l0 k l0 (([] : List (List (S49)))) (([] : List (S49))) 0) else (some ([] : List (List (S49))))) = some r := H
 have A2 := As_ A20
 clear A20
 by_cases c3 : t412 = true
 rotate_left
 ·replace c3 := Bool.eq_false_iff.mpr c3
  subst c3
  have H1 : (some ([] : List (List (S49)))) = some r := by rw [if_neg (show ¬ (false = true) by decide)] at H;exact H
  clear H
  have H := H1
  clear H1
  obtain rfl := Option.some.inj H
  go_enter Try.func37,Try.ntmps37
  go_wp2_with (first|((with_reducible refine gate_callee (f := 51) rfl ?_);refine goesL_ (some 7) rfl rfl Try.func51 (by kernel_rfl) rfl #[.slice A0 l0.length c0] rfl zM_ ?_;(with_reducible refine (spec_validOps.calls k _ _ l0 false _ ?side1 ?side2 A2.out).mono ?_);(case side1 => repeat (first|exact HR0.out|(with_reducible refine Kd.C_alloc ?_ _)|(with_reducible refine Kd.C_drewN ?_ _)|(with_reducible refine Kd.C_drew ?_)));(case side2 => exact HC0.out);rintro e w25 ⟨rfl,hb⟩;refine ⟨_,rfl,?_⟩;have n0_ := As_ (bwT (zb0 HB.out) hb);clear HB;revert n0_;intro HB))
  go_ret
  exact ⟨_,zE_,by first|exact Kd.S_nil _ _ _ _ _|exact Kd.N_nil _ _ _ _ _|exact Kd.V_nil _ _ _ _ _|exact Kd.Q_nil _ _ _ _ _|exact Kd.R_nil _ _ _ _ _,zb0 HB.out⟩

 subst c3
 have H1 : (spec_SplitStops.l0 k l0 (([] : List (List (S49)))) (([] : List (S49))) 0) = some r := by rw [if_pos rfl] at H;exact H
 clear H
 have H := H1
 clear H1
 obtain ⟨y413,hy413⟩ : ∃ y_ : List (List (S49)),y_ = (([] : List (List (S49)))) := ⟨_,rfl⟩
 replace H : (spec_SplitStops.l0 k l0 y413 (([] : List (S49))) 0) = some r := zH_ H hy413
 have Ny413 := As_ hy413
 clear hy413
 obtain ⟨y416,hy416⟩ : ∃ y_ : List (S49),y_ = (([] : List (S49))) := ⟨_,rfl⟩
 replace H : (spec_SplitStops.l0 k l0 y413 y416 0) = some r := zH_ H hy416
 have Ny416 := As_ hy416
 clear hy416
 have H' := As_ H
 clear H
 go_enter Try.func37,Try.ntmps37
 go_wp2_with (first|((with_reducible refine gate_callee (f := 51) rfl ?_);refine goesL_ (some 7) rfl rfl Try.func51 (by kernel_rfl) rfl #[.slice A0 l0.length c0] rfl zM_ ?_;(with_reducible refine (spec_validOps.calls k _ _ l0 true _ ?side1 ?side2 A2.out).mono ?_);(case side1 => repeat (first|exact HR0.out|(with_reducible refine Kd.C_alloc ?_ _)|(with_reducible refine Kd.C_drewN ?_ _)|(with_reducible refine Kd.C_drew ?_)));(case side2 => exact HC0.out);rintro e w4 ⟨rfl,hb⟩;refine ⟨_,rfl,?_⟩;have n0_ := As_ (bwT (zb0 HB.out) hb);clear HB;revert n0_;intro HB)|((with_reducible refine gate_dst (N := 9) rfl ?_);refine Kd.S_lit (Kd.slice 49 k49) _ 25 ?hg (N := 9) ?hd (xs := ([] : List (List (S49)))) (inner := []) (ok := fun _ => True) (okp := fun _ => True) ?hr ?hp (fun _ hk => hk) trivial (Below.refl _ _) (Nat.le_refl _) (by simp) ?_;(case hd => rfl);(case hg => rfl);(case hr => go_simp <;> rfl);(case hp => exact (Reps.none _ _));intro v414 w5 ho6 hb hg_ hnew_;clear hg_ hnew_;(first|rw [← Ny413.out] at ho6|(simp only [Int.reduceToNat] at ho6;rw [← Ny413.out] at ho6));have n0_ := As_ (Kd.S_lower ho6 (bwZ (zb0 HB.out)));have n1_ := As_ (bwT (zb0 HB.out) hb);clear HB;revert n0_ n1_;intro HO415 HB;clear hb ho6)|((with_reducible refine gate_dst (N := 10) rfl ?_);refine Kd.R_lit k49 _ 49 ?hg (N := 10) ?hd (xs := ([] : List (S49))) (inner := []) (ok := fun _ => True) (okp := fun _ => True) ?hr ?hp (fun _ hk => hk) trivial (Below.refl _ _) (Nat.le_refl _) (by simp) ?_;(case hd => rfl);(case hg => rfl);(case hr => go_simp <;> rfl);(case hp => exact (Reps.none _ _));intro v417 w7 ho8 hb hg_ hnew_;clear hg_ hnew_;(first|rw [← Ny416.out] at ho8|(simp only [Int.reduceToNat] at ho8;rw [← Ny416.out] at ho8));have n0_ := As_ (Kd.S_elder' (zS_ HO415.out) (Kd.R_base ho8) hb);have n1_ := As_ (Kd.R_lower ho8 (bwZ (zb0 HB.out)));have n2_ := As_ (bwT (zb0 HB.out) hb);clear HO415 HB;revert n0_ n1_ n2_;intro HO415 HO418 HB;clear hb ho8))
 go_loopg [3,4,5] k (fun kq v3 v4 v5 w' => ∃ (x3_1 : List (List (S49))) (x4_1 : List (S49)) (x5_1 : Int),v5 = .int .i64 x5_1 ∧ Aside0 (spec_SplitStops.l0 kq l0 x3_1 x4_1 x5_1 = some r) ∧ Aside0 (kq ≤ k) ∧ Aside0 (Kd.S (Kd.slice 49 k49) 25 w' w.heap.size (fun k_ => some k_ ≠ (v4 : Value).ownBlock) v3 x3_1) ∧ Aside0 (Kd.R k49 49 w' w.heap.size (fun _ => True) v4 x4_1) ∧ Aside0 (Below w.heap.size w w'))
 case atStart => exact ⟨(y413),(y416),(0),zT_,H',⟨Nat.le_refl _⟩,⟨by (with_reducible repeat (first|apply Kd.S_alloc|apply Kd.S_drewN|apply Kd.S_drew));exact Kd.S_mono HO415.out (fun _ hk => hk.2)⟩,⟨by (with_reducible repeat (first|apply Kd.R_alloc|apply Kd.R_drewN|apply Kd.R_drew));exact HO418.out⟩,⟨zb0 HB.out⟩⟩
 case round =>
  clear H'
  obtain ⟨x3_1,x4_1,x5_1,rfl,HA,HK1,HO_3,HO_4,HB⟩ := hrel
  cases gk with
  | zero => exact absurd HA.out (fun h_ => (by cases h_))
  | succ k1 =>
   have H := HA.out
   clear HA
   simp only [spec_SplitStops.l0] at H
   by_cases c9 : x5_1 < (l0.length : Int)
   rotate_left
   ·rw [if_neg c9] at H
    have c9b0 : decide (x5_1 < (l0.length : Int)) = false := deF c9
    clear c9
    by_cases c20 : (x4_1.length : Int) > 0
    rotate_left
    ·rw [if_neg c20] at H
     have c20b0 : decide (0 < (x4_1.length : Int)) = false := deF c20
     have c20b1 : decide (0 < x4_1.length) = false := deF (by omega)
     clear c20
     obtain rfl := Option.some.inj H
     obtain ⟨Ao24,co24,eo24⟩ := Kd.R_slice HO_4.out
     subst eo24
     go_wp2
     go_ret
     exact ⟨_,zE_,by (with_reducible repeat (first|apply Kd.S_alloc|apply Kd.S_drewN|apply Kd.S_drew));exact Kd.S_mono HO_3.out (fun _ hk => trivial),zb0 HB.out⟩
    rw [if_pos c20] at H
    have c20b0 : decide (0 < (x4_1.length : Int)) = true := deT c20
    have c20b1 : decide (0 < x4_1.length) = true := deT (by omega)
    clear c20
    by_cases c21 : x3_1.length < 5864062014805
    rotate_left
    ·rw [if_neg c21] at H
     exact absurd H (by simp)
    rw [if_pos c21] at H
    have LMc21 := As_ c21
    clear c21
    obtain ⟨y430,hy430⟩ : ∃ y_ : List (List (S49)),y_ = (x3_1 ++ [x4_1]) := ⟨_,rfl⟩
    replace H : (some y430) = some r := zH_ H hy430
    have Ny430 := As_ hy430
    clear hy430
    obtain rfl := Option.some.inj H
    obtain ⟨Ao22,co22,eo22⟩ := Kd.R_slice HO_4.out
    subst eo22
    go_wp2_with (first|((with_reducible refine gate_builtin (b := .append) (xs := #[.tmp 38,.tmp 40]) rfl ?_);at_builtin;refine Kd.S_append (Kd.slice 49 k49) (w0 := w) w.heap.size rfl (.tmp 38) (.tmp 40) 39 25 (.slice none 0 0) 24 rfl Try.underlying39 info25 rfl (by decide) (by omega) u3 x3_1 x4_1 [.slice Ao22 x4_1.length co22] (fun _ => True) (fun k_ => some k_ = (.slice Ao22 x4_1.length co22 : Value).ownBlock) rfl rfl ?aP (fun k_ hk_ => ((Kd.R_mono (ok' := fun k_ => ((fun _ => True)) k_ ∧ some k_ ≠ (u3 : Value).ownBlock) (Kd.R_apart' (HO_4.out) (Kd.S_typed HO_3.out) (by decide)) (fun k_ hk => ⟨trivial,hk.2⟩))).1 k_ hk_.symm) ?aF ?aO ?aB ?aS ?aL ?_;(case aP => exact Kd.M_row (Kd.R_mono (Kd.R_tight rfl (Kd.R_mono (ok' := fun k_ => ((fun _ => True)) k_ ∧ some k_ ≠ (u3 : Value).ownBlock) (Kd.R_apart' (HO_4.out) (Kd.S_typed HO_3.out) (by decide)) (fun k_ hk => ⟨trivial,hk.2⟩))) (fun _ h_ => h_)));(case aB => exact (zb0 HB.out));(case aF => exact (fun _ _ => trivial));(case aO => exact (by (with_reducible repeat (first|apply Kd.S_alloc|apply Kd.S_drewN|apply Kd.S_drew));exact Kd.S_mono HO_3.out (fun k_ hk => ⟨trivial,fun e_ => hk e_⟩)));(case aS => exact (bwZ (zb0 HB.out)));(case aL => have := LMc21.out;omega);intro v431 w23 ho hb hg hat;rw [← Ny430.out] at ho;have n0_ := As_ (hb);have n1_ := As_ (ho);clear HB HO_3 HO_4;revert n0_ n1_;intro HB HO432;clear ho hb hg hat))
    go_ret
    exact ⟨_,zE_,by (with_reducible repeat (first|apply Kd.S_alloc|apply Kd.S_drewN|apply Kd.S_drew));exact HO432.out,zb0 HB.out⟩
   rw [if_pos c9] at H
   have c9b0 : decide (x5_1 < (l0.length : Int)) = true := deT c9
   clear c9
   by_cases c10 : 0 ≤ x5_1
   rotate_left
   ·rw [if_neg c10] at H
    exact absurd H (by simp)
   rw [if_pos c10] at H
   have c10b0 : decide (0 ≤ x5_1) = true := deT c10
   clear c10
   by_cases c11 : x4_1.length < 8796093022208
   rotate_left
   ·rw [if_neg c11] at H
    exact absurd H (by simp)
   rw [if_pos c11] at H
   have LMc11 := As_ c11
   clear c11
   obtain ⟨y420,hy420⟩ : ∃ y_ : List (S49),y_ = (x4_1 ++ [(⟨(rd_T49 l0 x5_1).f0,(rd_T49 l0 x5_1).f1⟩ : S49)]) := ⟨_,rfl⟩
   replace H : (if ((rd_T49 l0 x5_1).f0) = 19 then (if x3_1.length < 5864062014805 then (spec_SplitStops.l0 k1 l0 (x3_1 ++ [y420]) (([] : List (S49))) (wrap64 (x5_1 + 1))) else (none)) else (spec_SplitStops.l0 k1 l0 x3_1 y420 (wrap64 (x5_1 + 1)))) = some r := zH_ H hy420
   have Ny420 := As_ hy420
   clear hy420
   by_cases c12 : ((rd_T49 l0 x5_1).f0) = 19
   rotate_left
   ·rw [if_neg c12] at H
    have c12b0 : (((rd_T49 l0 x5_1).f0) == 19) = false := beq_eq_false_iff_ne.mpr c12
    have c12b1 : (((rd_T49 l0 x5_1).f0) != 19) = true := bne_iff_ne.mpr c12
    have H' := As_ H
    clear H
    have p419 : 0 ≤ (x5_1 : Int) := odT zA_
    have q419 : x5_1 < (l0.length : Int) := odT zA_
    obtain ⟨ad419,e419,hx419_0,hx419_1⟩ := at_T49 HR0.out x5_1 p419 q419
    cases e419
    replace hx419_0 := bwC HB.out hx419_0
    replace hx419_1 := bwC HB.out hx419_1
    replace p419 := eq_true p419
    replace q419 := eq_true q419
    go_wp2_with (first|((with_reducible refine gate_builtin (b := .append) (xs := #[.tmp 17,.tmp 22]) rfl ?_);at_builtin;refine Kd.R_append k49 (w0 := w) w.heap.size rfl (.tmp 17) (.tmp 22) 25 49 (.agg #[(.int .i64 0),(.int .i64 0)]) 16 rfl Try.underlying25 info49 rfl (by decide) (by omega) u4 x4_1 (⟨(rd_T49 l0 x5_1).f0,(rd_T49 l0 x5_1).f1⟩ : S49) [.int .i64 ((rd_T49 l0 x5_1).f0),.int .i64 ((rd_T49 l0 x5_1).f1)] (fun _ => True) (fun _ => False) rfl rfl ?aP (fun _ hk => hk.elim) ?aF ?aO ?aB ?aS ?aL ?_;(case aP => exact k49_mkM _ _ _ (⟨(rd_T49 l0 x5_1).f0,(rd_T49 l0 x5_1).f1⟩ : S49));(case aB => exact (zb0 HB.out));(case aF => exact (fun _ _ => trivial));(case aO => exact (zR_ HO_4.out));(case aS => exact (bwZ (zb0 HB.out)));(case aL => have := LMc11.out;omega);intro v421 w19 ho hb hg hat;rw [← Ny420.out] at ho;have n0_ := As_ (Kd.S_after (ok := (fun _ => True)) (by (with_reducible repeat (first|apply Kd.S_alloc|apply Kd.S_drewN|apply Kd.S_drew));exact Kd.S_mono HO_3.out (fun _ hk => ⟨trivial,hk⟩)) hg hat);have n1_ := As_ (hb);have n2_ := As_ (ho);clear HO_3 HB HO_4;revert n0_ n1_ n2_;intro HO_3 HB HO422;clear ho hb hg hat;have p423 : 0 ≤ (x5_1 : Int) := odT zA_;have q423 : x5_1 < (l0.length : Int) := odT zA_;obtain ⟨ad423,e423,hx423_0,hx423_1⟩ := at_T49 HR0.out x5_1 p423 q423;obtain rfl : ad419 = ad423 := (by injection e423);replace hx423_0 := bwC HB.out hx423_0;replace hx423_1 := bwC HB.out hx423_1;replace p423 := eq_true p423;replace q423 := eq_true q423))
    go_roundg k1
    case measure => have := HK1.out;omega
    case rel => exact ⟨(x3_1),(y420),(wrap64 (x5_1 + 1)),zT_,H',⟨by have := HK1.out;omega⟩,⟨by (with_reducible repeat (first|apply Kd.S_alloc|apply Kd.S_drewN|apply Kd.S_drew));exact Kd.S_mono HO_3.out (fun _ hk => hk.2)⟩,⟨by (with_reducible repeat (first|apply Kd.R_alloc|apply Kd.R_drewN|apply Kd.R_drew));exact HO422.out⟩,⟨zb0 HB.out⟩⟩
   rw [if_pos c12] at H
   have c12b0 : (((rd_T49 l0 x5_1).f0) == 19) = true := beq_iff_eq.mpr c12
   have c12b1 : (((rd_T49 l0 x5_1).f0) != 19) = false := bne_eq_false_iff_eq.mpr c12
   clear c12
   by_cases c13 : x3_1.length < 5864062014805
   rotate_left
   ·rw [if_neg c13] at H
    exact absurd H (by simp)
   rw [if_pos c13] at H
   have LMc13 := As_ c13
   clear c13
   obtain ⟨y424,hy424⟩ : ∃ y_ : List (List (S49)),y_ = (x3_1 ++ [y420]) := ⟨_,rfl⟩
   replace H : (spec_SplitStops.l0 k1 l0 y424 (([] : List (S49))) (wrap64 (x5_1 + 1))) = some r := zH_ H hy424
   have Ny424 := As_ hy424
   clear hy424
   obtain ⟨y427,hy427⟩ : ∃ y_ : List (S49),y_ = (([] : List (S49))) := ⟨_,rfl⟩
   replace H : (spec_SplitStops.l0 k1 l0 y424 y427 (wrap64 (x5_1 + 1))) = some r := zH_ H hy427
   have Ny427 := As_ hy427
   clear hy427
   have H' := As_ H
   clear H
   have p419 : 0 ≤ (x5_1 : Int) := odT zA_
   have q419 : x5_1 < (l0.length : Int) := odT zA_
   obtain ⟨ad419,e419,hx419_0,hx419_1⟩ := at_T49 HR0.out x5_1 p419 q419
   cases e419
   replace hx419_0 := bwC HB.out hx419_0
   replace hx419_1 := bwC HB.out hx419_1
   replace p419 := eq_true p419
   replace q419 := eq_true q419
   go_wp2_with (first|((with_reducible refine gate_builtin (b := .append) (xs := #[.tmp 17,.tmp 22]) rfl ?_);at_builtin;refine Kd.R_append k49 (w0 := w) w.heap.size rfl (.tmp 17) (.tmp 22) 25 49 (.agg #[(.int .i64 0),(.int .i64 0)]) 16 rfl Try.underlying25 info49 rfl (by decide) (by omega) u4 x4_1 (⟨(rd_T49 l0 x5_1).f0,(rd_T49 l0 x5_1).f1⟩ : S49) [.int .i64 ((rd_T49 l0 x5_1).f0),.int .i64 ((rd_T49 l0 x5_1).f1)] (fun _ => True) (fun _ => False) rfl rfl ?aP (fun _ hk => hk.elim) ?aF ?aO ?aB ?aS ?aL ?_;(case aP => exact k49_mkM _ _ _ (⟨(rd_T49 l0 x5_1).f0,(rd_T49 l0 x5_1).f1⟩ : S49));(case aB => exact (zb0 HB.out));(case aF => exact (fun _ _ => trivial));(case aO => exact (zR_ HO_4.out));(case aS => exact (bwZ (zb0 HB.out)));(case aL => have := LMc11.out;omega);intro v421 w14 ho hb hg hat;rw [← Ny420.out] at ho;have n0_ := As_ (Kd.S_after (ok := (fun _ => True)) (by (with_reducible repeat (first|apply Kd.S_alloc|apply Kd.S_drewN|apply Kd.S_drew));exact Kd.S_mono HO_3.out (fun _ hk => ⟨trivial,hk⟩)) hg hat);have n1_ := As_ (hb);have n2_ := As_ (ho);clear HO_3 HB HO_4;revert n0_ n1_ n2_;intro HO_3 HB HO422;clear ho hb hg hat;have p423 : 0 ≤ (x5_1 : Int) := odT zA_;have q423 : x5_1 < (l0.length : Int) := odT zA_;obtain ⟨ad423,e423,hx423_0,hx423_1⟩ := at_T49 HR0.out x5_1 p423 q423;obtain rfl : ad419 = ad423 := (by injection e423);replace hx423_0 := bwC HB.out hx423_0;replace hx423_1 := bwC HB.out hx423_1;replace p423 := eq_true p423;replace q423 := eq_true q423;obtain ⟨Ao16,co16,eo16⟩ := Kd.R_slice HO422.out;subst eo16)|((with_reducible refine gate_builtin (b := .append) (xs := #[.tmp 30,.tmp 32]) rfl ?_);at_builtin;refine Kd.S_append (Kd.slice 49 k49) (w0 := w) w.heap.size rfl (.tmp 30) (.tmp 32) 39 25 (.slice none 0 0) 24 rfl Try.underlying39 info25 rfl (by decide) (by omega) u3 x3_1 y420 [.slice Ao16 y420.length co16] (fun _ => True) (fun k_ => some k_ = (.slice Ao16 y420.length co16 : Value).ownBlock) rfl rfl ?aP (fun k_ hk_ => ((Kd.R_mono (ok' := fun k_ => ((fun _ => True)) k_ ∧ some k_ ≠ (u3 : Value).ownBlock) (Kd.R_apart' (HO422.out) (Kd.S_typed HO_3.out) (by decide)) (fun k_ hk => ⟨trivial,hk.2⟩))).1 k_ hk_.symm) ?aF ?aO ?aB ?aS ?aL ?_;(case aP => exact Kd.M_row (Kd.R_mono (Kd.R_tight rfl (Kd.R_mono (ok' := fun k_ => ((fun _ => True)) k_ ∧ some k_ ≠ (u3 : Value).ownBlock) (Kd.R_apart' (HO422.out) (Kd.S_typed HO_3.out) (by decide)) (fun k_ hk => ⟨trivial,hk.2⟩))) (fun _ h_ => h_)));(case aB => exact (zb0 HB.out));(case aF => exact (fun _ _ => trivial));(case aO => exact (by (with_reducible repeat (first|apply Kd.S_alloc|apply Kd.S_drewN|apply Kd.S_drew));exact Kd.S_mono HO_3.out (fun k_ hk => ⟨trivial,fun e_ => hk.2 e_⟩)));(case aS => exact (bwZ (zb0 HB.out)));(case aL => have := LMc13.out;omega);intro v425 w15 ho hb hg hat;rw [← Ny424.out] at ho;have n0_ := As_ (hb);have n1_ := As_ (ho);clear HB HO_3 HO422;revert n0_ n1_;intro HB HO426;clear ho hb hg hat)|((with_reducible refine gate_dst (N := 34) rfl ?_);refine Kd.R_lit k49 _ 49 ?hg (N := 34) ?hd (xs := ([] : List (S49))) (inner := []) (ok := fun _ => True) (okp := fun _ => True) ?hr ?hp (fun _ hk => hk) trivial (Below.refl _ _) (Nat.le_refl _) (by simp) ?_;(case hd => rfl);(case hg => rfl);(case hr => go_simp <;> rfl);(case hp => exact (Reps.none _ _));intro v428 w17 ho18 hb hg_ hnew_;clear hg_ hnew_;(first|rw [← Ny427.out] at ho18|(simp only [Int.reduceToNat] at ho18;rw [← Ny427.out] at ho18));have n0_ := As_ (Kd.S_elder' (zS_ HO426.out) (Kd.R_base ho18) hb);have n1_ := As_ (Kd.R_lower ho18 (bwZ (zb0 HB.out)));have n2_ := As_ (bwT (zb0 HB.out) hb);clear HO426 HB;revert n0_ n1_ n2_;intro HO426 HO429 HB;clear hb ho18))
   go_roundg k1
   case measure => have := HK1.out;omega
   case rel => exact ⟨(y424),(y427),(wrap64 (x5_1 + 1)),zT_,H',⟨by have := HK1.out;omega⟩,⟨by (with_reducible repeat (first|apply Kd.S_alloc|apply Kd.S_drewN|apply Kd.S_drew));exact Kd.S_mono HO426.out (fun _ hk => hk.2)⟩,⟨by (with_reducible repeat (first|apply Kd.R_alloc|apply Kd.R_drewN|apply Kd.R_drew));exact HO429.out⟩,⟨zb0 HB.out⟩⟩
/-! ### impl_Op_63: function 63 -/
/-- A cut with a capacity: the row to its end,and no more room behind it. -/
theorem impl_Op_63.clip (t e : TypeId) {i : TypeInfo} (ht : Try.prog.underlying t = some (.slice e)) (hi : Try.prog.info? e = some i) (A : Option Addr) (n c : Nat) (hc : n ≤ c) :
  ∀ W : World,(Instr.slice t (.slice A n c) none (some (.int .i64 (n : Int))) (some (.int .i64 (n : Int)))).run Try.prog W = .ok (.slice A n n) W := by
 intro W
 have hel : Try.prog.elem t = e := by simp [Program.elem,ht]
 have hu : Try.prog.underlying t = some (.slice (Try.prog.elem t)) := by rw [hel];exact ht
 have ha : (A.map fun x => x.add 0) = A := by cases A <;> simp [Addr.add]
 rw [run_slice_hm W t A n c hu .i64 .i64 n n (by omega) (by omega) (by omega),hel]
 simp [sizeOf,typeInfo,hi,sliced,Result.andThen,ha]
def impl_Op_63.f (l0 : List (S49)) : Option ((List (S49))) := some l0
set_option maxHeartbeats 8000000 in
set_option maxRecDepth 100000 in
theorem impl_Op_63.calls (P0_ : Nat → Prop) (A0 : Option Addr) (c0 : Nat) (l0 : List (S49)) (r : List (S49)) (w : World) (hs0 : Kd.V k49 49 w w.heap.size (fun k_ => P0_ k_) (.slice A0 l0.length c0) l0) (h : impl_Op_63.f l0 = some r) :
  Calls Try.prog 63 #[.slice A0 l0.length c0] w fun e w' => ∃ v0_ : Value,e = .returned (v0_) ∧ Kd.V k49 49 w' w.heap.size (fun k_ => (P0_ k_ ∨ w.heap.size ≤ k_)) v0_ r ∧ Below w.heap.size w w' := by
 have HO0 := As_ (show Kd.V k49 49 w w.heap.size (fun k_ => (P0_ k_ ∨ w.heap.size ≤ k_)) (.slice A0 l0.length c0) l0 from Kd.V_mono hs0 (fun k_ hk => .inl hk))
 have HB := As_ (Below.refl w.heap.size w)
 have H : (some l0) = some r := h
 clear h
 obtain rfl := Option.some.inj H
 obtain ⟨iC,hiC,_,_,_⟩ := info_parts info49
 obtain ⟨AV,cV,eV,hlV,hfV⟩ := HO0.out
 have hlV0 : l0.length ≤ c0 := by injection eV with _ _ ec;omega
 have hcut := impl_Op_63.clip 25 49 Try.underlying25 hiC A0 l0.length c0 hlV0
 have HO0 := As_ (show Kd.V k49 49 w w.heap.size (fun k_ => (P0_ k_ ∨ w.heap.size ≤ k_)) (.slice A0 l0.length l0.length) l0 from ⟨AV,l0.length,by injection eV with ea;rw [ea],Nat.le_refl _,hfV⟩)
 go_enter Try.func63,Try.ntmps63
 go_wp2
 go_ret
 exact ⟨_,zE_,by (with_reducible repeat (first|apply Kd.V_alloc|apply Kd.V_drewN|apply Kd.V_drew));exact HO0.out,zb0 HB.out⟩

/-- A cut row of orders of one's own: its capacity is told as its length,whatever lies behind it. -/
def impl_Op_63.kcl : Kd (List (S49)) where
 sz := 1
 E := 49 :: (k49).E
 K := (Kd.slice 49 k49).K
 M := fun w base ok xs cs => ∃ (A : Option Addr) (c : Nat),cs = [.slice A xs.length xs.length] ∧ Kd.R k49 49 w base ok (.slice A xs.length c) xs
 K_len := (Kd.slice 49 k49).K_len
 K_one := (Kd.slice 49 k49).K_one
 K_below := (Kd.slice 49 k49).K_below
 K_of_M := by
  rintro w base ok x cs ⟨A,c,rfl,h⟩
  exact ⟨A,x.length,rfl,Nat.le_refl _,(Kd.R_reads' h).2.2⟩
 M_mono := by
  rintro w base ok ok' x cs hok ⟨A,c,rfl,h⟩
  exact ⟨A,c,rfl,Kd.R_mono h hok⟩
 M_bound := by
  rintro w base ok x cs ⟨A,c,rfl,h⟩
  exact ⟨A,c,rfl,Kd.R_bound h⟩
 M_move := by
  rintro w w1 base ok x cs hm ⟨A,c,rfl,h⟩
  exact ⟨A,c,rfl,Kd.R_move h hm⟩
 M_lower := by
  rintro w base base' ok x cs hb ⟨A,c,rfl,h⟩
  exact ⟨A,c,rfl,Kd.R_lower h hb⟩
theorem impl_Op_63.kcl_mk {w : World} {base : Nat} {ok : Nat → Prop} {A : Option Addr} {c : Nat} {xs : List (S49)} (h : Kd.R k49 49 w base ok (.slice A xs.length c) xs) : impl_Op_63.kcl.M w base ok xs [.slice A xs.length xs.length] := ⟨A,c,rfl,h⟩
theorem impl_Op_63.kcl_C {w : World} {A : Option Addr} {n : Nat} {xs : List (List (S49))} (h : impl_Op_63.kcl.C w A n xs) : (Kd.slice 49 k49).C w A n xs := h
set_option maxHeartbeats 8000000 in
set_option maxRecDepth 100000 in
theorem impl_Op_63.callsC (A0 : Option Addr) (n c0 : Nat) (hc : n ≤ c0) (w : World) : Calls Try.prog 63 #[.slice A0 n c0] w fun e w' => e = .returned (.slice A0 n n) ∧ Drawn0 w w' := by
 obtain ⟨iC,hiC,_,_,_⟩ := info_parts info49
 have hcut := impl_Op_63.clip 25 49 Try.underlying25 hiC A0 n c0 hc
 go_enter Try.func63,Try.ntmps63
 go_wp2
 go_ret
 exact ⟨by first|rfl|(simp;done)|(simp [*];done),by repeat (first|exact Drawn0.refl _|apply Drawn0.step)⟩

/-! ### impl_SplitStops: function 38 -/
def impl_SplitStops.l0 : Nat → List (List (S49)) → List (S49) → List (S49) → Int → Int → Option ((List (List (S49))))
 | 0,_,_,_,_,_ => none
 | k + 1,x3,x4,x12,x13,x14 => if x14 < x13 then (if 0 ≤ x14 then (if x14 < (x12.length : Int) then (if x4.length < 8796093022208 then ((some (x4 ++ [(⟨(rd_T49 x12 x14).f0,(rd_T49 x12 x14).f1⟩ : S49)] : List (S49))).bind fun y442 => (if ((rd_T49 x12 x14).f0) = 19 then (if x3.length < 5864062014805 then (impl_SplitStops.l0 k (x3 ++ [y442]) (([] : List (S49))) x12 x13 (wrap64 (x14 + 1))) else (none)) else (impl_SplitStops.l0 k x3 y442 x12 x13 (wrap64 (x14 + 1))))) else (none)) else (none)) else (none)) else (if (x4.length : Int) > 0 then (if x3.length < 5864062014805 then (some (x3 ++ [x4])) else (none)) else (some x3))
def impl_SplitStops.f (k : Nat) (l0 : List (S49)) : Option ((List (List (S49)))) := (impl_ValidOps.f k l0).bind fun t433 => (if t433 = true then (impl_SplitStops.l0 k (([] : List (List (S49)))) (([] : List (S49))) l0 (l0.length : Int) 0) else (some ([] : List (List (S49)))))
set_option maxRecDepth 100000 in
theorem impl_SplitStops.mono_l : ∀ k,(∀ y0 y1 y2 y3 y4,LeO (impl_SplitStops.l0 k y0 y1 y2 y3 y4) (impl_SplitStops.l0 (k + 1) y0 y1 y2 y3 y4))
 | 0 => fun _ _ _ _ _ r h => (by cases h)
 | k + 1 => by
  have ih0 := impl_SplitStops.mono_l k
  ·intro y0 y1 y2 y3 y4
   unfold impl_SplitStops.l0
   repeat' first
   | (with_reducible exact ih0 _ _ _ _ _)
   | (with_reducible exact impl_ValidOps.mono _ _)
   | (with_reducible exact LeO.refl _)
   | (with_reducible exact LeO.none _)
   | (with_reducible refine LeO.ite ?_ ?_)
   | (with_reducible refine LeO.bind ?_ (fun _ => ?_))
   | exact ih0 _ _ _ _ _
   | exact impl_ValidOps.mono _ _
   | exact LeO.none _
   | refine LeO.ite ?_ ?_
   | refine LeO.bind ?_ (fun _ => ?_)
set_option maxRecDepth 100000 in
theorem impl_SplitStops.mono : ∀ a0 k,LeO (impl_SplitStops.f k a0) (impl_SplitStops.f (k + 1) a0) := by
 intro a0 k
 have ih0 := impl_SplitStops.mono_l k
 unfold impl_SplitStops.f
 repeat' first
   | (with_reducible exact ih0 _ _ _ _ _)
   | (with_reducible exact impl_ValidOps.mono _ _)
   | (with_reducible exact LeO.refl _)
   | (with_reducible exact LeO.none _)
   | (with_reducible refine LeO.ite ?_ ?_)
   | (with_reducible refine LeO.bind ?_ (fun _ => ?_))
   | exact ih0 _ _ _ _ _
   | exact impl_ValidOps.mono _ _
   | exact LeO.none _
   | refine LeO.ite ?_ ?_
   | refine LeO.bind ?_ (fun _ => ?_)
set_option maxHeartbeats 8000000 in
set_option maxRecDepth 100000 in
theorem impl_SplitStops.calls (k : Nat) (A0 : Option Addr) (c0 : Nat) (l0 : List (S49)) (r : List (List (S49))) (w : World) (hr0 : Kd.C k49 w A0 l0.length l0) (hc0 : l0.length ≤ c0) (h : impl_SplitStops.f k l0 = some r) :
  Calls Try.prog 38 #[.slice A0 l0.length c0] w fun e w' => ∃ v0_ : Value,e = .returned (v0_) ∧ Kd.S (impl_Op_63.kcl) 25 w' w.heap.size (fun _ => True) v0_ r ∧ Below w.heap.size w w' := by
 have hu49 := Try.underlying49
 have HR0 := As_ hr0
 have HC0 := As_ hc0
 clear hr0 hc0
 have HB := As_ (Below.refl w.heap.size w)
 have H : ((impl_ValidOps.f k l0).bind fun t433 => (if t433 = true then (impl_SplitStops.l0 k (([] : List (List (S49)))) (([] : List (S49))) l0 (l0.length : Int) 0) else (some ([] : List (List (S49)))))) = some r := h
 clear h
 replace H := obS H
 obtain ⟨t433,A20,H⟩ := H
 replace H : (if t433 = true then (impl_SplitStops.l0 k (([] : List (List (S49)))) (([] : List (S49))) l0 (l0.length : Int) 0) else (some ([] : List (List (S49))))) = some r := H
 have A2 := As_ A20
 clear A20
 by_cases c3 : t433 = true
 rotate_left
 ·replace c3 := Bool.eq_false_iff.mpr c3
  subst c3
  have H1 : (some ([] : List (List (S49)))) = some r := by rw [if_neg (show ¬ (false = true) by decide)] at H;exact H
  clear H
  have H := H1
  clear H1
  obtain rfl := Option.some.inj H
  go_enter Try.func38,Try.ntmps38
  go_wp2_with (first|((with_reducible refine gate_callee (f := 18) rfl ?_);refine goesL_ (some 8) rfl rfl Try.func18 (by kernel_rfl) rfl #[.slice A0 l0.length c0] rfl zM_ ?_;(with_reducible refine (impl_ValidOps.calls k _ _ l0 false _ ?side1 ?side2 A2.out).mono ?_);(case side1 => repeat (first|exact HR0.out|(with_reducible refine Kd.C_alloc ?_ _)|(with_reducible refine Kd.C_drewN ?_ _)|(with_reducible refine Kd.C_drew ?_)));(case side2 => exact HC0.out);rintro e w32 ⟨rfl,hb⟩;refine ⟨_,rfl,?_⟩;have n0_ := As_ (bwT (zb0 HB.out) hb);clear HB;revert n0_;intro HB))
  go_ret
  exact ⟨_,zE_,by first|exact Kd.S_nil _ _ _ _ _|exact Kd.N_nil _ _ _ _ _|exact Kd.V_nil _ _ _ _ _|exact Kd.Q_nil _ _ _ _ _|exact Kd.R_nil _ _ _ _ _,zb0 HB.out⟩

 subst c3
 have H1 : (impl_SplitStops.l0 k (([] : List (List (S49)))) (([] : List (S49))) l0 (l0.length : Int) 0) = some r := by rw [if_pos rfl] at H;exact H
 clear H
 have H := H1
 clear H1
 obtain ⟨y434,hy434⟩ : ∃ y_ : List (List (S49)),y_ = (([] : List (List (S49)))) := ⟨_,rfl⟩
 replace H : (impl_SplitStops.l0 k y434 (([] : List (S49))) l0 (l0.length : Int) 0) = some r := zH_ H hy434
 have Ny434 := As_ hy434
 clear hy434
 obtain ⟨y437,hy437⟩ : ∃ y_ : List (S49),y_ = (([] : List (S49))) := ⟨_,rfl⟩
 replace H : (impl_SplitStops.l0 k y434 y437 l0 (l0.length : Int) 0) = some r := zH_ H hy437
 have Ny437 := As_ hy437
 clear hy437
 have H' := As_ H
 clear H
 go_enter Try.func38,Try.ntmps38
 go_wp2_with (first|((with_reducible refine gate_callee (f := 18) rfl ?_);refine goesL_ (some 8) rfl rfl Try.func18 (by kernel_rfl) rfl #[.slice A0 l0.length c0] rfl zM_ ?_;(with_reducible refine (impl_ValidOps.calls k _ _ l0 true _ ?side1 ?side2 A2.out).mono ?_);(case side1 => repeat (first|exact HR0.out|(with_reducible refine Kd.C_alloc ?_ _)|(with_reducible refine Kd.C_drewN ?_ _)|(with_reducible refine Kd.C_drew ?_)));(case side2 => exact HC0.out);rintro e w4 ⟨rfl,hb⟩;refine ⟨_,rfl,?_⟩;have n0_ := As_ (bwT (zb0 HB.out) hb);clear HB;revert n0_;intro HB)|((with_reducible refine gate_dst (N := 10) rfl ?_);refine Kd.S_lit (impl_Op_63.kcl) _ 25 ?hg (N := 10) ?hd (xs := ([] : List (List (S49)))) (inner := []) (ok := fun _ => True) (okp := fun _ => True) ?hr ?hp (fun _ hk => hk) trivial (Below.refl _ _) (Nat.le_refl _) (by simp) ?_;(case hd => rfl);(case hg => rfl);(case hr => go_simp <;> rfl);(case hp => exact (Reps.none _ _));intro v435 w5 ho6 hb hg_ hnew_;clear hg_ hnew_;(first|rw [← Ny434.out] at ho6|(simp only [Int.reduceToNat] at ho6;rw [← Ny434.out] at ho6));have n0_ := As_ (Kd.S_lower ho6 (bwZ (zb0 HB.out)));have n1_ := As_ (bwT (zb0 HB.out) hb);clear HB;revert n0_ n1_;intro HO436 HB;clear hb ho6)|((with_reducible refine gate_dst (N := 11) rfl ?_);refine Kd.R_lit k49 _ 49 ?hg (N := 11) ?hd (xs := ([] : List (S49))) (inner := []) (ok := fun _ => True) (okp := fun _ => True) ?hr ?hp (fun _ hk => hk) trivial (Below.refl _ _) (Nat.le_refl _) (by simp) ?_;(case hd => rfl);(case hg => rfl);(case hr => go_simp <;> rfl);(case hp => exact (Reps.none _ _));intro v438 w7 ho8 hb hg_ hnew_;clear hg_ hnew_;(first|rw [← Ny437.out] at ho8|(simp only [Int.reduceToNat] at ho8;rw [← Ny437.out] at ho8));have n0_ := As_ (Kd.S_elder' (zS_ HO436.out) (Kd.R_base ho8) hb);have n1_ := As_ (Kd.R_lower ho8 (bwZ (zb0 HB.out)));have n2_ := As_ (bwT (zb0 HB.out) hb);clear HO436 HB;revert n0_ n1_ n2_;intro HO436 HO439 HB;clear hb ho8))
 go_loopg [3,4,14] k (fun kq v3 v4 v14 w' => ∃ (x3_1 : List (List (S49))) (x4_1 : List (S49)) (x14_1 : Int),v14 = .int .i64 x14_1 ∧ Aside0 (impl_SplitStops.l0 kq x3_1 x4_1 l0 (l0.length : Int) x14_1 = some r) ∧ Aside0 (kq ≤ k) ∧ Aside0 (Kd.S (impl_Op_63.kcl) 25 w' w.heap.size (fun k_ => some k_ ≠ (v4 : Value).ownBlock) v3 x3_1) ∧ Aside0 (Kd.R k49 49 w' w.heap.size (fun _ => True) v4 x4_1) ∧ Aside0 (Below w.heap.size w w'))
 case atStart => exact ⟨(y434),(y437),(0),zT_,H',⟨Nat.le_refl _⟩,⟨by (with_reducible repeat (first|apply Kd.S_alloc|apply Kd.S_drewN|apply Kd.S_drew));exact Kd.S_mono HO436.out (fun _ hk => hk.2)⟩,⟨by (with_reducible repeat (first|apply Kd.R_alloc|apply Kd.R_drewN|apply Kd.R_drew));exact HO439.out⟩,⟨zb0 HB.out⟩⟩
 case round =>
  clear H'
  obtain ⟨x3_1,x4_1,x14_1,rfl,HA,HK1,HO_3,HO_4,HB⟩ := hrel
  cases gk with
  | zero => exact absurd HA.out (fun h_ => (by cases h_))
  | succ k1 =>
   have H := HA.out
   clear HA
   simp only [impl_SplitStops.l0] at H
   by_cases c9 : x14_1 < (l0.length : Int)
   rotate_left
   ·rw [if_neg c9] at H
    have c9b0 : decide (x14_1 < (l0.length : Int)) = false := deF c9
    clear c9
    by_cases c27 : (x4_1.length : Int) > 0
    rotate_left
    ·rw [if_neg c27] at H
     have c27b0 : decide (0 < (x4_1.length : Int)) = false := deF c27
     have c27b1 : decide (0 < x4_1.length) = false := deF (by omega)
     clear c27
     obtain rfl := Option.some.inj H
     obtain ⟨Ao31,co31,eo31⟩ := Kd.R_slice HO_4.out
     subst eo31
     go_wp2
     go_ret
     exact ⟨_,zE_,by (with_reducible repeat (first|apply Kd.S_alloc|apply Kd.S_drewN|apply Kd.S_drew));exact Kd.S_mono HO_3.out (fun _ hk => trivial),zb0 HB.out⟩
    rw [if_pos c27] at H
    have c27b0 : decide (0 < (x4_1.length : Int)) = true := deT c27
    have c27b1 : decide (0 < x4_1.length) = true := deT (by omega)
    clear c27
    by_cases c28 : x3_1.length < 5864062014805
    rotate_left
    ·rw [if_neg c28] at H
     exact absurd H (by simp)
    rw [if_pos c28] at H
    have LMc28 := As_ c28
    clear c28
    obtain ⟨y451,hy451⟩ : ∃ y_ : List (List (S49)),y_ = (x3_1 ++ [x4_1]) := ⟨_,rfl⟩
    replace H : (some y451) = some r := zH_ H hy451
    have Ny451 := As_ hy451
    clear hy451
    obtain rfl := Option.some.inj H
    obtain ⟨Ao29,co29,eo29⟩ := Kd.R_slice HO_4.out
    subst eo29
    go_wp2_with (first|((with_reducible refine gate_callee (f := 63) rfl ?_);refine goesL_ (some 37) rfl rfl Try.func63 (by kernel_rfl) rfl #[.slice Ao29 x4_1.length co29] rfl (by (try simp only [List.map_toArray,List.map_cons,List.map_nil]);first|done|rfl) ?_;(with_reducible refine (impl_Op_63.callsC Ao29 x4_1.length co29 (Kd.R_reads' HO_4.out).2.1 _).mono ?_);rintro e wq37 ⟨rfl,hdq⟩;obtain ⟨nq,hq⟩ := hdq.out;replace hq := hq.symm;clear hdq;refine ⟨_,rfl,?_⟩;have n0_ := As_ (Kd.S_at hq (zS_ HO_3.out));have n1_ := As_ (Kd.R_at hq (zR_ HO_4.out));have n2_ := As_ (below_at hq (zb0 HB.out));clear HO_3 HO_4 HB;revert n0_ n1_ n2_;intro HO_3 HO_4 HB;clear hq)|((with_reducible refine gate_builtin (b := .append) (xs := #[.tmp 35,.tmp 38]) rfl ?_);at_builtin;refine Kd.S_append (impl_Op_63.kcl) (w0 := w) w.heap.size rfl (.tmp 35) (.tmp 38) 39 25 (.slice none 0 0) 24 rfl Try.underlying39 info25 rfl (by decide) (by omega) u3 x3_1 x4_1 [.slice Ao29 x4_1.length x4_1.length] (fun _ => True) (fun k_ => some k_ = (.slice Ao29 x4_1.length co29 : Value).ownBlock) rfl rfl ?aP (fun k_ hk_ => ((Kd.R_mono (ok' := fun k_ => ((fun _ => True)) k_ ∧ some k_ ≠ (u3 : Value).ownBlock) (Kd.R_apart' (HO_4.out) (Kd.S_typed HO_3.out) (by decide)) (fun k_ hk => ⟨trivial,hk.2⟩))).1 k_ hk_.symm) ?aF ?aO ?aB ?aS ?aL ?_;(case aP => exact impl_Op_63.kcl_mk (Kd.R_mono (Kd.R_tight rfl (Kd.R_mono (ok' := fun k_ => ((fun _ => True)) k_ ∧ some k_ ≠ (u3 : Value).ownBlock) (Kd.R_apart' (HO_4.out) (Kd.S_typed HO_3.out) (by decide)) (fun k_ hk => ⟨trivial,hk.2⟩))) (fun _ h_ => h_)));(case aB => exact (zb0 HB.out));(case aF => exact (fun _ _ => trivial));(case aO => exact (by (with_reducible repeat (first|apply Kd.S_alloc|apply Kd.S_drewN|apply Kd.S_drew));exact Kd.S_mono HO_3.out (fun k_ hk => ⟨trivial,fun e_ => hk e_⟩)));(case aS => exact (bwZ (zb0 HB.out)));(case aL => have := LMc28.out;omega);intro v452 w30 ho hb hg hat;rw [← Ny451.out] at ho;have n0_ := As_ (hb);have n1_ := As_ (ho);clear HB HO_3 HO_4;revert n0_ n1_;intro HB HO453;clear ho hb hg hat))
    go_ret
    exact ⟨_,zE_,by (with_reducible repeat (first|apply Kd.S_alloc|apply Kd.S_drewN|apply Kd.S_drew));exact HO453.out,zb0 HB.out⟩
   rw [if_pos c9] at H
   have c9b0 : decide (x14_1 < (l0.length : Int)) = true := deT c9
   clear c9
   by_cases c10 : 0 ≤ x14_1
   rotate_left
   ·rw [if_neg c10] at H
    exact absurd H (by simp)
   rw [if_pos c10] at H
   have c10b0 : decide (0 ≤ x14_1) = true := deT c10
   clear c10
   by_cases c11 : x14_1 < (l0.length : Int)
   rotate_left
   ·rw [if_neg c11] at H
    exact absurd H (by simp)
   rw [if_pos c11] at H
   have c11b0 : decide (x14_1 < (l0.length : Int)) = true := deT c11
   clear c11
   by_cases c12 : x4_1.length < 8796093022208
   rotate_left
   ·rw [if_neg c12] at H
    exact absurd H (by simp)
   rw [if_pos c12] at H
   have LMc12 := As_ c12
   clear c12
   obtain ⟨y442,hy442⟩ : ∃ y_ : List (S49),y_ = (x4_1 ++ [(⟨(rd_T49 l0 x14_1).f0,(rd_T49 l0 x14_1).f1⟩ : S49)]) := ⟨_,rfl⟩
   replace H : (if ((rd_T49 l0 x14_1).f0) = 19 then (if x3_1.length < 5864062014805 then (impl_SplitStops.l0 k1 (x3_1 ++ [y442]) (([] : List (S49))) l0 (l0.length : Int) (wrap64 (x14_1 + 1))) else (none)) else (impl_SplitStops.l0 k1 x3_1 y442 l0 (l0.length : Int) (wrap64 (x14_1 + 1)))) = some r := zH_ H hy442
   have Ny442 := As_ hy442
   clear hy442
   by_cases c13 : ((rd_T49 l0 x14_1).f0) = 19
   rotate_left
   ·rw [if_neg c13] at H
    have c13b0 : (((rd_T49 l0 x14_1).f0) == 19) = false := beq_eq_false_iff_ne.mpr c13
    have c13b1 : (((rd_T49 l0 x14_1).f0) != 19) = true := bne_iff_ne.mpr c13
    have H' := As_ H
    clear H
    have p440 : 0 ≤ (x14_1 : Int) := odT zA_
    have q440 : x14_1 < (l0.length : Int) := odT zA_
    obtain ⟨ad440,e440,hx440_0,hx440_1⟩ := at_T49 HR0.out x14_1 p440 q440
    cases e440
    replace hx440_0 := bwC HB.out hx440_0
    replace hx440_1 := bwC HB.out hx440_1
    replace p440 := eq_true p440
    replace q440 := eq_true q440
    go_wp2_with (first|((with_reducible refine gate_dst (N := 6) rfl ?_);refine box_event ?hg (N := 6) ?hd (cs := #[.int .i64 0,.int .i64 0]) (t := 49) ?hr ?_;(case hd => rfl);(case hg => rfl);(case hr => go_simp <;> rfl);intro gb441 hg w23 hbox hb;have n0_ := As_ (Kd.S_below (Kd.S_elderB (zS_ HO_3.out) gb441 (Nat.le_of_eq hg.symm)) hb);have n1_ := As_ (Kd.R_below (Kd.R_elderB (zR_ HO_4.out) gb441 (Nat.le_of_eq hg.symm)) hb);have n2_ := As_ (bwT (zb0 HB.out) hb);have n3_ := As_ (hbox);have n4_ := As_ ((by rw [hg];exact (bwZ (zb0 HB.out)) : w.heap.size ≤ gb441));have n5_ := As_ ((by rw [hg];exact (bwZ (zb0 HB.out)) : w.heap.size ≤ gb441));clear HO_3 HO_4 HB;revert n0_ n1_ n2_ n3_ n4_ n5_;intro HO_3 HO_4 HB BK441 GW441 GE441;clear hb hbox hg;obtain ⟨hcz24_0,hcz24_1,hfz24_0,hfz24_1⟩ := bk2 BK441.out)|((with_reducible refine gate_builtin (b := .append) (xs := #[.tmp 18,.tmp 20]) rfl ?_);at_builtin;refine Kd.R_append k49 (w0 := w) w.heap.size rfl (.tmp 18) (.tmp 20) 25 49 (.agg #[(.int .i64 0),(.int .i64 0)]) 16 rfl Try.underlying25 info49 rfl (by decide) (by omega) u4 x4_1 (⟨(rd_T49 l0 x14_1).f0,(rd_T49 l0 x14_1).f1⟩ : S49) [.int .i64 ((rd_T49 l0 x14_1).f0),.int .i64 ((rd_T49 l0 x14_1).f1)] (fun k_ => k_ ≠ gb441) (fun _ => False) rfl (by go_simp <;> rfl) ?aP (fun _ hk => hk.elim) ?aF ?aO ?aB ?aS ?aL ?_;(case aP => exact k49_mkM _ _ _ (⟨(rd_T49 l0 x14_1).f0,(rd_T49 l0 x14_1).f1⟩ : S49));(case aB => exact (zb1 HB.out GE441.out));(case aF => exact (fun k_ hk => Kd.freshB (g := gb441) (o := .cells #[.int .i64 ((rd_T49 l0 x14_1).f0),.int .i64 ((rd_T49 l0 x14_1).f1)] 49 (0,0)) (by (with_reducible repeat first|apply bkN|apply bkD|apply bkA);refine blk_put (cs := #[.int .i64 ((rd_T49 l0 x14_1).f0),.int .i64 0]) ?_ 1 _ rfl;(with_reducible repeat first|apply bkN|apply bkD|apply bkA);refine blk_put (cs := #[.int .i64 0,.int .i64 0]) ?_ 0 _ rfl;(with_reducible repeat first|apply bkN|apply bkD|apply bkA);exact BK441.out) k_ hk));(case aO => exact (by (with_reducible repeat (first|apply Kd.R_alloc|apply Kd.R_drewN|apply Kd.R_drew));exact Kd.R_mono (Kd.R_far (p := ⟨gb441,1,none⟩) (Kd.R_far (p := ⟨gb441,0,none⟩) (Kd.R_mono HO_4.out (fun k_ hk => (⟨hk,hk.2⟩ : _ ∧ k_ ≠ gb441))) (fun _ hk => hk.2) (.int .i64 ((rd_T49 l0 x14_1).f0))) (fun _ hk => hk.2) (.int .i64 ((rd_T49 l0 x14_1).f1))) (fun _ hk => hk.1.2)));(case aS => exact (bwZ (zb1 HB.out GE441.out)));(case aL => have := LMc12.out;omega);intro v443 w25 ho hb hg hat;rw [← Ny442.out] at ho;have n0_ := As_ (Kd.S_after (ok := (fun k_ => k_ ≠ gb441)) (by (with_reducible repeat (first|apply Kd.S_alloc|apply Kd.S_drewN|apply Kd.S_drew));exact Kd.S_mono (Kd.S_far (p := ⟨gb441,1,none⟩) (Kd.S_far (p := ⟨gb441,0,none⟩) (Kd.S_mono HO_3.out (fun k_ hk => (⟨hk,hk.2⟩ : _ ∧ k_ ≠ gb441))) (fun _ hk => hk.2) (.int .i64 ((rd_T49 l0 x14_1).f0))) (fun _ hk => hk.2) (.int .i64 ((rd_T49 l0 x14_1).f1))) (fun _ hk => ⟨hk.1.2,hk.1.1⟩)) hg hat);have n1_ := As_ (blk_grown (g := gb441) (o := .cells #[.int .i64 ((rd_T49 l0 x14_1).f0),.int .i64 ((rd_T49 l0 x14_1).f1)] 49 (0,0)) (by (with_reducible repeat first|apply bkN|apply bkD|apply bkA);refine blk_put (cs := #[.int .i64 ((rd_T49 l0 x14_1).f0),.int .i64 0]) ?_ 1 _ rfl;(with_reducible repeat first|apply bkN|apply bkD|apply bkA);refine blk_put (cs := #[.int .i64 0,.int .i64 0]) ?_ 0 _ rfl;(with_reducible repeat first|apply bkN|apply bkD|apply bkA);exact BK441.out) hg (Kd.R_away HO_4.out (fun _ hk => hk.2)));have n2_ := As_ (hb);have n3_ := As_ (ho);clear HO_3 BK441 HB HO_4;revert n0_ n1_ n2_ n3_;intro HO_3 BK441 HB HO444;clear ho hb hg hat;obtain ⟨hcz26_0,hcz26_1,hfz26_0,hfz26_1⟩ := bk2 BK441.out))
    go_roundg k1
    case measure => have := HK1.out;omega
    case rel => exact ⟨(x3_1),(y442),(wrap64 (x14_1 + 1)),zT_,H',⟨by have := HK1.out;omega⟩,⟨by (with_reducible repeat (first|apply Kd.S_alloc|apply Kd.S_drewN|apply Kd.S_drew));exact Kd.S_mono HO_3.out (fun _ hk => hk.2)⟩,⟨by (with_reducible repeat (first|apply Kd.R_alloc|apply Kd.R_drewN|apply Kd.R_drew));exact Kd.R_mono HO444.out (fun _ hk => trivial)⟩,⟨zb1 HB.out GE441.out⟩⟩
   rw [if_pos c13] at H
   have c13b0 : (((rd_T49 l0 x14_1).f0) == 19) = true := beq_iff_eq.mpr c13
   have c13b1 : (((rd_T49 l0 x14_1).f0) != 19) = false := bne_eq_false_iff_eq.mpr c13
   clear c13
   by_cases c14 : x3_1.length < 5864062014805
   rotate_left
   ·rw [if_neg c14] at H
    exact absurd H (by simp)
   rw [if_pos c14] at H
   have LMc14 := As_ c14
   clear c14
   obtain ⟨y445,hy445⟩ : ∃ y_ : List (List (S49)),y_ = (x3_1 ++ [y442]) := ⟨_,rfl⟩
   replace H : (impl_SplitStops.l0 k1 y445 (([] : List (S49))) l0 (l0.length : Int) (wrap64 (x14_1 + 1))) = some r := zH_ H hy445
   have Ny445 := As_ hy445
   clear hy445
   obtain ⟨y448,hy448⟩ : ∃ y_ : List (S49),y_ = (([] : List (S49))) := ⟨_,rfl⟩
   replace H : (impl_SplitStops.l0 k1 y445 y448 l0 (l0.length : Int) (wrap64 (x14_1 + 1))) = some r := zH_ H hy448
   have Ny448 := As_ hy448
   clear hy448
   have H' := As_ H
   clear H
   have p440 : 0 ≤ (x14_1 : Int) := odT zA_
   have q440 : x14_1 < (l0.length : Int) := odT zA_
   obtain ⟨ad440,e440,hx440_0,hx440_1⟩ := at_T49 HR0.out x14_1 p440 q440
   cases e440
   replace hx440_0 := bwC HB.out hx440_0
   replace hx440_1 := bwC HB.out hx440_1
   replace p440 := eq_true p440
   replace q440 := eq_true q440
   go_wp2_with (first|((with_reducible refine gate_dst (N := 6) rfl ?_);refine box_event ?hg (N := 6) ?hd (cs := #[.int .i64 0,.int .i64 0]) (t := 49) ?hr ?_;(case hd => rfl);(case hg => rfl);(case hr => go_simp <;> rfl);intro gb441 hg w15 hbox hb;have n0_ := As_ (Kd.S_below (Kd.S_elderB (zS_ HO_3.out) gb441 (Nat.le_of_eq hg.symm)) hb);have n1_ := As_ (Kd.R_below (Kd.R_elderB (zR_ HO_4.out) gb441 (Nat.le_of_eq hg.symm)) hb);have n2_ := As_ (bwT (zb0 HB.out) hb);have n3_ := As_ (hbox);have n4_ := As_ ((by rw [hg];exact (bwZ (zb0 HB.out)) : w.heap.size ≤ gb441));have n5_ := As_ ((by rw [hg];exact (bwZ (zb0 HB.out)) : w.heap.size ≤ gb441));clear HO_3 HO_4 HB;revert n0_ n1_ n2_ n3_ n4_ n5_;intro HO_3 HO_4 HB BK441 GW441 GE441;clear hb hbox hg;obtain ⟨hcz16_0,hcz16_1,hfz16_0,hfz16_1⟩ := bk2 BK441.out)|((with_reducible refine gate_builtin (b := .append) (xs := #[.tmp 18,.tmp 20]) rfl ?_);at_builtin;refine Kd.R_append k49 (w0 := w) w.heap.size rfl (.tmp 18) (.tmp 20) 25 49 (.agg #[(.int .i64 0),(.int .i64 0)]) 16 rfl Try.underlying25 info49 rfl (by decide) (by omega) u4 x4_1 (⟨(rd_T49 l0 x14_1).f0,(rd_T49 l0 x14_1).f1⟩ : S49) [.int .i64 ((rd_T49 l0 x14_1).f0),.int .i64 ((rd_T49 l0 x14_1).f1)] (fun k_ => k_ ≠ gb441) (fun _ => False) rfl (by go_simp <;> rfl) ?aP (fun _ hk => hk.elim) ?aF ?aO ?aB ?aS ?aL ?_;(case aP => exact k49_mkM _ _ _ (⟨(rd_T49 l0 x14_1).f0,(rd_T49 l0 x14_1).f1⟩ : S49));(case aB => exact (zb1 HB.out GE441.out));(case aF => exact (fun k_ hk => Kd.freshB (g := gb441) (o := .cells #[.int .i64 ((rd_T49 l0 x14_1).f0),.int .i64 ((rd_T49 l0 x14_1).f1)] 49 (0,0)) (by (with_reducible repeat first|apply bkN|apply bkD|apply bkA);refine blk_put (cs := #[.int .i64 ((rd_T49 l0 x14_1).f0),.int .i64 0]) ?_ 1 _ rfl;(with_reducible repeat first|apply bkN|apply bkD|apply bkA);refine blk_put (cs := #[.int .i64 0,.int .i64 0]) ?_ 0 _ rfl;(with_reducible repeat first|apply bkN|apply bkD|apply bkA);exact BK441.out) k_ hk));(case aO => exact (by (with_reducible repeat (first|apply Kd.R_alloc|apply Kd.R_drewN|apply Kd.R_drew));exact Kd.R_mono (Kd.R_far (p := ⟨gb441,1,none⟩) (Kd.R_far (p := ⟨gb441,0,none⟩) (Kd.R_mono HO_4.out (fun k_ hk => (⟨hk,hk.2⟩ : _ ∧ k_ ≠ gb441))) (fun _ hk => hk.2) (.int .i64 ((rd_T49 l0 x14_1).f0))) (fun _ hk => hk.2) (.int .i64 ((rd_T49 l0 x14_1).f1))) (fun _ hk => hk.1.2)));(case aS => exact (bwZ (zb1 HB.out GE441.out)));(case aL => have := LMc12.out;omega);intro v443 w17 ho hb hg hat;rw [← Ny442.out] at ho;have n0_ := As_ (Kd.S_after (ok := (fun k_ => k_ ≠ gb441)) (by (with_reducible repeat (first|apply Kd.S_alloc|apply Kd.S_drewN|apply Kd.S_drew));exact Kd.S_mono (Kd.S_far (p := ⟨gb441,1,none⟩) (Kd.S_far (p := ⟨gb441,0,none⟩) (Kd.S_mono HO_3.out (fun k_ hk => (⟨hk,hk.2⟩ : _ ∧ k_ ≠ gb441))) (fun _ hk => hk.2) (.int .i64 ((rd_T49 l0 x14_1).f0))) (fun _ hk => hk.2) (.int .i64 ((rd_T49 l0 x14_1).f1))) (fun _ hk => ⟨hk.1.2,hk.1.1⟩)) hg hat);have n1_ := As_ (blk_grown (g := gb441) (o := .cells #[.int .i64 ((rd_T49 l0 x14_1).f0),.int .i64 ((rd_T49 l0 x14_1).f1)] 49 (0,0)) (by (with_reducible repeat first|apply bkN|apply bkD|apply bkA);refine blk_put (cs := #[.int .i64 ((rd_T49 l0 x14_1).f0),.int .i64 0]) ?_ 1 _ rfl;(with_reducible repeat first|apply bkN|apply bkD|apply bkA);refine blk_put (cs := #[.int .i64 0,.int .i64 0]) ?_ 0 _ rfl;(with_reducible repeat first|apply bkN|apply bkD|apply bkA);exact BK441.out) hg (Kd.R_away HO_4.out (fun _ hk => hk.2)));have n2_ := As_ (hb);have n3_ := As_ (ho);clear HO_3 BK441 HB HO_4;revert n0_ n1_ n2_ n3_;intro HO_3 BK441 HB HO444;clear ho hb hg hat;obtain ⟨hcz18_0,hcz18_1,hfz18_0,hfz18_1⟩ := bk2 BK441.out;obtain ⟨Ao20,co20,eo20⟩ := Kd.R_slice HO444.out;subst eo20)|((with_reducible refine gate_callee (f := 63) rfl ?_);refine goesL_ (some 27) rfl rfl Try.func63 (by kernel_rfl) rfl #[.slice Ao20 y442.length co20] rfl (by (try simp only [List.map_toArray,List.map_cons,List.map_nil]);first|done|rfl) ?_;(with_reducible refine (impl_Op_63.callsC Ao20 y442.length co20 (Kd.R_reads' HO444.out).2.1 _).mono ?_);rintro e wq27 ⟨rfl,hdq⟩;obtain ⟨nq,hq⟩ := hdq.out;replace hq := hq.symm;clear hdq;refine ⟨_,rfl,?_⟩;have n0_ := As_ (Kd.S_at hq (zS_ HO_3.out));have n1_ := As_ (Kd.R_at hq (zR_ HO444.out));have n2_ := As_ (blk_at (g := gb441) (o := .cells #[.int .i64 ((rd_T49 l0 x14_1).f0),.int .i64 ((rd_T49 l0 x14_1).f1)] 49 (0,0)) hq (zk_ BK441.out));have n3_ := As_ (below_at hq (zb0 HB.out));clear HO_3 HO444 BK441 HB;revert n0_ n1_ n2_ n3_;intro HO_3 HO444 BK441 HB;clear hq)|((with_reducible refine gate_builtin (b := .append) (xs := #[.tmp 25,.tmp 28]) rfl ?_);at_builtin;refine Kd.S_append (impl_Op_63.kcl) (w0 := w) w.heap.size rfl (.tmp 25) (.tmp 28) 39 25 (.slice none 0 0) 24 rfl Try.underlying39 info25 rfl (by decide) (by omega) u3 x3_1 y442 [.slice Ao20 y442.length y442.length] (fun k_ => k_ ≠ gb441) (fun k_ => some k_ = (.slice Ao20 y442.length co20 : Value).ownBlock) rfl rfl ?aP (fun k_ hk_ => ((Kd.R_mono (ok' := fun k_ => ((fun k_ => k_ ≠ gb441)) k_ ∧ some k_ ≠ (u3 : Value).ownBlock) (Kd.R_apart' (HO444.out) (Kd.S_typed HO_3.out) (by decide)) (fun k_ hk => ⟨hk.1,hk.2⟩))).1 k_ hk_.symm) ?aF ?aO ?aB ?aS ?aL ?_;(case aP => exact impl_Op_63.kcl_mk (Kd.R_mono (Kd.R_tight rfl (Kd.R_mono (ok' := fun k_ => ((fun k_ => k_ ≠ gb441)) k_ ∧ some k_ ≠ (u3 : Value).ownBlock) (Kd.R_apart' (HO444.out) (Kd.S_typed HO_3.out) (by decide)) (fun k_ hk => ⟨hk.1,hk.2⟩))) (fun _ h_ => h_)));(case aB => exact (zb1 HB.out GE441.out));(case aF => exact (fun k_ hk => Kd.freshB (g := gb441) (o := .cells #[.int .i64 ((rd_T49 l0 x14_1).f0),.int .i64 ((rd_T49 l0 x14_1).f1)] 49 (0,0)) (zk_ BK441.out) k_ hk));(case aO => exact (by (with_reducible repeat (first|apply Kd.S_alloc|apply Kd.S_drewN|apply Kd.S_drew));exact Kd.S_mono HO_3.out (fun k_ hk => ⟨hk.1,fun e_ => hk.2 e_⟩)));(case aS => exact (bwZ (zb1 HB.out GE441.out)));(case aL => have := LMc14.out;omega);intro v446 w19 ho hb hg hat;rw [← Ny445.out] at ho;have n0_ := As_ (blk_grown (g := gb441) (o := .cells #[.int .i64 ((rd_T49 l0 x14_1).f0),.int .i64 ((rd_T49 l0 x14_1).f1)] 49 (0,0)) (zk_ BK441.out) hg (Kd.S_ne HO_3.out BK441.out (by decide)));have n1_ := As_ (hb);have n2_ := As_ (ho);clear BK441 HB HO_3 HO444;revert n0_ n1_ n2_;intro BK441 HB HO447;clear ho hb hg hat)|((with_reducible refine gate_dst (N := 30) rfl ?_);refine Kd.R_lit k49 _ 49 ?hg (N := 30) ?hd (xs := ([] : List (S49))) (inner := []) (ok := fun _ => True) (okp := fun _ => True) ?hr ?hp (fun _ hk => hk) trivial (Below.refl _ _) (Nat.le_refl _) (by simp) ?_;(case hd => rfl);(case hg => rfl);(case hr => go_simp <;> rfl);(case hp => exact (Reps.none _ _));intro v449 w21 ho22 hb hg_ hnew_;clear hg_ hnew_;(first|rw [← Ny448.out] at ho22|(simp only [Int.reduceToNat] at ho22;rw [← Ny448.out] at ho22));have n0_ := As_ (Kd.S_elder' (zS_ HO447.out) (Kd.R_base ho22) hb);have n1_ := As_ (Kd.R_lower (Kd.R_newB ho22 (g := gb441) (o := .cells #[.int .i64 ((rd_T49 l0 x14_1).f0),.int .i64 ((rd_T49 l0 x14_1).f1)] 49 (0,0)) (zk_ BK441.out)) (bwZ (zb1 HB.out GE441.out)));have n2_ := As_ (zkb BK441.out hb);have n3_ := As_ (bwT (zb1 HB.out GE441.out) hb);clear HO447 BK441 HB;revert n0_ n1_ n2_ n3_;intro HO447 HO450 BK441 HB;clear hb ho22))
   go_roundg k1
   case measure => have := HK1.out;omega
   case rel => exact ⟨(y445),(y448),(wrap64 (x14_1 + 1)),zT_,H',⟨by have := HK1.out;omega⟩,⟨by (with_reducible repeat (first|apply Kd.S_alloc|apply Kd.S_drewN|apply Kd.S_drew));exact Kd.S_mono HO447.out (fun _ hk => hk.2)⟩,⟨by (with_reducible repeat (first|apply Kd.R_alloc|apply Kd.R_drewN|apply Kd.R_drew));exact Kd.R_mono HO450.out (fun _ hk => trivial)⟩,⟨zb1 HB.out GE441.out⟩⟩
end Go.Proofs.Ytonppkaobnfldaa.Q
