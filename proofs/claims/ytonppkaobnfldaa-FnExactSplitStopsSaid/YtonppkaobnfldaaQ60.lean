-- Written by wip/tools/qprint.py (a program of this claim's author) by means of the kit's printer.
import Derived.Test.YtonppkaobnfldaaQ0
import Derived.Test.YtonppkaobnfldaaQ15
import Derived.Test.YtonppkaobnfldaaQ77
import Derived.Test.YtonppkaobnfldaaHmap
namespace Go.Proofs.Ytonppkaobnfldaa.Q
open Go.RowKit Go.Proofs.YtonppkaobnfldaaW.PrintWords Go.Proofs.YtonppkaobnfldaaW.PrintLast Go.Proofs.YtonppkaobnfldaaW.PrintMore
attribute [local go_sem] max2_int min2_int max_two min_two max_three min_three max_four min_four   -- for this text's walks alone
set_option linter.unusedVariables false
set_option linter.unusedSimpArgs false

/-! ### spec_placeIn: function 60 -/
def spec_placeIn.l0 : Nat → List Int → Int → Int → Option (Int)
 | 0,_,_,_ => none
 | k + 1,x0,x1,x5 => if x5 < (x0.length : Int) then (if 0 ≤ x5 then (if (rd x0 x5) = x1 then (some x5) else (spec_placeIn.l0 k x0 x1 (wrap64 (x5 + 1)))) else (none)) else (some (-1))
def spec_placeIn.f (k : Nat) (l0 : List Int) (a1 : Int) : Option (Int) := spec_placeIn.l0 k l0 a1 0
set_option maxRecDepth 100000 in
theorem spec_placeIn.mono_l : ∀ k,(∀ y0 y1 y2,LeO (spec_placeIn.l0 k y0 y1 y2) (spec_placeIn.l0 (k + 1) y0 y1 y2))
 | 0 => fun _ _ _ r h => (by cases h)
 | k + 1 => by
  have ih0 := spec_placeIn.mono_l k
  ·intro y0 y1 y2
   unfold spec_placeIn.l0
   repeat' first
   | (with_reducible exact ih0 _ _ _)
   | (with_reducible exact LeO.refl _)
   | (with_reducible exact LeO.none _)
   | (with_reducible refine LeO.ite ?_ ?_)
   | (with_reducible refine LeO.bind ?_ (fun _ => ?_))
   | exact ih0 _ _ _
   | exact LeO.none _
   | refine LeO.ite ?_ ?_
   | refine LeO.bind ?_ (fun _ => ?_)
set_option maxRecDepth 100000 in
theorem spec_placeIn.mono : ∀ a0 a1 k,LeO (spec_placeIn.f k a0 a1) (spec_placeIn.f (k + 1) a0 a1) := by
 intro a0 a1 k
 have ih0 := spec_placeIn.mono_l k
 unfold spec_placeIn.f
 repeat' first
   | (with_reducible exact ih0 _ _ _)
   | (with_reducible exact LeO.refl _)
   | (with_reducible exact LeO.none _)
   | (with_reducible refine LeO.ite ?_ ?_)
   | (with_reducible refine LeO.bind ?_ (fun _ => ?_))
   | exact ih0 _ _ _
   | exact LeO.none _
   | refine LeO.ite ?_ ?_
   | refine LeO.bind ?_ (fun _ => ?_)
set_option maxHeartbeats 8000000 in
set_option maxRecDepth 100000 in
theorem spec_placeIn.calls (k : Nat) (A0 : Option Addr) (c0 : Nat) (l0 : List Int) (a1 : Int) (r : Int) (w : World) (hr0 : Kd.C (Kd.int .i64) w A0 l0.length l0) (hc0 : l0.length ≤ c0) (h : spec_placeIn.f k l0 a1 = some r) :
  Calls Try.prog 60 #[.slice A0 l0.length c0,.int .i64 a1] w fun e w' => e = .returned (.int .i64 r) ∧ Drawn0 w w' := by
 have HR0 := As_ hr0
 have HC0 := As_ hc0
 clear hr0 hc0
 have H : (spec_placeIn.l0 k l0 a1 0) = some r := h
 clear h
 have H' := As_ H
 clear H
 go_enter Try.func60,Try.ntmps60
 go_wp2
 go_loopg [5] k (fun kq v5 w' => ∃ (x5_1 : Int),v5 = .int .i64 x5_1 ∧ Aside0 (spec_placeIn.l0 kq l0 a1 x5_1 = some r) ∧ Aside0 (kq ≤ k) ∧ Drawn0 w w')
 case atStart => exact ⟨(0),zT_,H',⟨Nat.le_refl _⟩,by repeat (first|exact Drawn0.refl _|apply Drawn0.step)⟩
 case round =>
  clear H'
  obtain ⟨x5_1,rfl,HA,HK1,⟨m1,rfl⟩⟩ := hrel
  cases gk with
  | zero => exact absurd HA.out (fun h_ => (by cases h_))
  | succ k1 =>
   have H := HA.out
   clear HA
   simp only [spec_placeIn.l0] at H
   by_cases c3 : x5_1 < (l0.length : Int)
   rotate_left
   ·rw [if_neg c3] at H
    have c3b0 : decide (x5_1 < (l0.length : Int)) = false := deF c3
    clear c3
    obtain rfl := Option.some.inj H
    go_wp2
    go_ret
    exact ⟨by first|rfl|(simp;done)|(simp [*];done),by repeat (first|exact Drawn0.refl _|apply Drawn0.step)⟩

   rw [if_pos c3] at H
   have c3b0 : decide (x5_1 < (l0.length : Int)) = true := deT c3
   clear c3
   by_cases c4 : 0 ≤ x5_1
   rotate_left
   ·rw [if_neg c4] at H
    exact absurd H (by simp)
   rw [if_pos c4] at H
   have c4b0 : decide (0 ≤ x5_1) = true := deT c4
   clear c4
   by_cases c5 : (rd l0 x5_1) = a1
   ·rw [if_pos c5] at H
    have c5b0 : ((rd l0 x5_1) == a1) = true := beq_iff_eq.mpr c5
    have c5b1 : ((rd l0 x5_1) != a1) = false := bne_eq_false_iff_eq.mpr c5
    clear c5
    obtain rfl := Option.some.inj H
    have p243 : 0 ≤ (x5_1 : Int) := odT zA_
    have q243 : x5_1 < (l0.length : Int) := odT zA_
    obtain ⟨ad243,e243,hx243_0⟩ := Kd.at_int HR0.out x5_1 p243 q243
    cases e243
    replace p243 := eq_true p243
    replace q243 := eq_true q243
    go_wp2
    go_ret
    exact ⟨by first|rfl|(simp;done)|(simp [*];done),by repeat (first|exact Drawn0.refl _|apply Drawn0.step)⟩
   rw [if_neg c5] at H
   have c5b0 : ((rd l0 x5_1) == a1) = false := beq_eq_false_iff_ne.mpr c5
   have c5b1 : ((rd l0 x5_1) != a1) = true := bne_iff_ne.mpr c5
   have H' := As_ H
   clear H
   have p243 : 0 ≤ (x5_1 : Int) := odT zA_
   have q243 : x5_1 < (l0.length : Int) := odT zA_
   obtain ⟨ad243,e243,hx243_0⟩ := Kd.at_int HR0.out x5_1 p243 q243
   cases e243
   replace p243 := eq_true p243
   replace q243 := eq_true q243
   go_wp2
   go_roundg k1
   case measure => have := HK1.out;omega
   case rel => exact ⟨(wrap64 (x5_1 + 1)),zT_,H',⟨by have := HK1.out;omega⟩,by repeat (first|exact Drawn0.refl _|apply Drawn0.step)⟩
/-! ### spec_PlacesOf: function 28 -/
def spec_PlacesOf.l0 : Nat → List (S49) → List Int → Int → Option (Int)
 | 0,_,_,_ => none
 | k + 1,x0,x3,x4 => if x4 < (x0.length : Int) then (if 0 ≤ x4 then (if ((rd_T49 x0 x4).f0) = 15 then ((spec_placeIn.f k x3 ((rd_T49 x0 x4).f1)).bind fun t250 => (if t250 < 0 then (if x3.length < 17592186044416 then (spec_PlacesOf.l0 k x0 (x3 ++ [(rd_T49 x0 x4).f1]) (wrap64 (x4 + 1))) else (none)) else (spec_PlacesOf.l0 k x0 x3 (wrap64 (x4 + 1))))) else (spec_PlacesOf.l0 k x0 x3 (wrap64 (x4 + 1)))) else (none)) else (some (x3.length : Int))
def spec_PlacesOf.f (k : Nat) (l0 : List (S49)) : Option (Int) := (spec_validOps.f k l0).bind fun t244 => (if t244 = true then (spec_PlacesOf.l0 k l0 (([] : List Int)) 0) else (some (-1)))
set_option maxRecDepth 100000 in
theorem spec_PlacesOf.mono_l : ∀ k,(∀ y0 y1 y2,LeO (spec_PlacesOf.l0 k y0 y1 y2) (spec_PlacesOf.l0 (k + 1) y0 y1 y2))
 | 0 => fun _ _ _ r h => (by cases h)
 | k + 1 => by
  have ih0 := spec_PlacesOf.mono_l k
  ·intro y0 y1 y2
   unfold spec_PlacesOf.l0
   repeat' first
   | (with_reducible exact ih0 _ _ _)
   | (with_reducible exact spec_placeIn.mono _ _ _)
   | (with_reducible exact spec_validOps.mono _ _)
   | (with_reducible exact LeO.refl _)
   | (with_reducible exact LeO.none _)
   | (with_reducible refine LeO.ite ?_ ?_)
   | (with_reducible refine LeO.bind ?_ (fun _ => ?_))
   | exact ih0 _ _ _
   | exact spec_placeIn.mono _ _ _
   | exact spec_validOps.mono _ _
   | exact LeO.none _
   | refine LeO.ite ?_ ?_
   | refine LeO.bind ?_ (fun _ => ?_)
set_option maxRecDepth 100000 in
theorem spec_PlacesOf.mono : ∀ a0 k,LeO (spec_PlacesOf.f k a0) (spec_PlacesOf.f (k + 1) a0) := by
 intro a0 k
 have ih0 := spec_PlacesOf.mono_l k
 unfold spec_PlacesOf.f
 repeat' first
   | (with_reducible exact ih0 _ _ _)
   | (with_reducible exact spec_placeIn.mono _ _ _)
   | (with_reducible exact spec_validOps.mono _ _)
   | (with_reducible exact LeO.refl _)
   | (with_reducible exact LeO.none _)
   | (with_reducible refine LeO.ite ?_ ?_)
   | (with_reducible refine LeO.bind ?_ (fun _ => ?_))
   | exact ih0 _ _ _
   | exact spec_placeIn.mono _ _ _
   | exact spec_validOps.mono _ _
   | exact LeO.none _
   | refine LeO.ite ?_ ?_
   | refine LeO.bind ?_ (fun _ => ?_)
set_option maxHeartbeats 8000000 in
set_option maxRecDepth 100000 in
theorem spec_PlacesOf.calls (k : Nat) (A0 : Option Addr) (c0 : Nat) (l0 : List (S49)) (r : Int) (w : World) (hr0 : Kd.C k49 w A0 l0.length l0) (hc0 : l0.length ≤ c0) (h : spec_PlacesOf.f k l0 = some r) :
  Calls Try.prog 28 #[.slice A0 l0.length c0] w fun e w' => e = .returned (.int .i64 r) ∧ Below w.heap.size w w' := by
 have HR0 := As_ hr0
 have HC0 := As_ hc0
 clear hr0 hc0
 have HB := As_ (Below.refl w.heap.size w)
 have H : ((spec_validOps.f k l0).bind fun t244 => (if t244 = true then (spec_PlacesOf.l0 k l0 (([] : List Int)) 0) else (some (-1)))) = some r := h
 clear h
 replace H := obS H
 obtain ⟨t244,A20,H⟩ := H
 replace H : (if t244 = true then (spec_PlacesOf.l0 k l0 (([] : List Int)) 0) else (some (-1))) = some r := H
 have A2 := As_ A20
 clear A20
 by_cases c3 : t244 = true
 rotate_left
 ·replace c3 := Bool.eq_false_iff.mpr c3
  subst c3
  have H1 : (some (-1)) = some r := by rw [if_neg (show ¬ (false = true) by decide)] at H;exact H
  clear H
  have H := H1
  clear H1
  obtain rfl := Option.some.inj H
  go_enter Try.func28,Try.ntmps28
  go_wp2_with (first|((with_reducible refine gate_callee (f := 51) rfl ?_);refine goesL_ (some 6) rfl rfl Try.func51 (by kernel_rfl) rfl #[.slice A0 l0.length c0] rfl zM_ ?_;(with_reducible refine (spec_validOps.calls k _ _ l0 false _ ?side1 ?side2 A2.out).mono ?_);(case side1 => repeat (first|exact HR0.out|(with_reducible refine Kd.C_alloc ?_ _)|(with_reducible refine Kd.C_drewN ?_ _)|(with_reducible refine Kd.C_drew ?_)));(case side2 => exact HC0.out);rintro e w17 ⟨rfl,hb⟩;refine ⟨_,rfl,?_⟩;have n0_ := As_ (bwT (zb0 HB.out) hb);clear HB;revert n0_;intro HB))
  go_ret
  exact ⟨zE_,zb0 HB.out⟩

 subst c3
 have H1 : (spec_PlacesOf.l0 k l0 (([] : List Int)) 0) = some r := by rw [if_pos rfl] at H;exact H
 clear H
 have H := H1
 clear H1
 obtain ⟨y245,hy245⟩ : ∃ y_ : List Int,y_ = (([] : List Int)) := ⟨_,rfl⟩
 replace H : (spec_PlacesOf.l0 k l0 y245 0) = some r := zH_ H hy245
 have Ny245 := As_ hy245
 clear hy245
 have H' := As_ H
 clear H
 go_enter Try.func28,Try.ntmps28
 go_wp2_with (first|((with_reducible refine gate_callee (f := 51) rfl ?_);refine goesL_ (some 6) rfl rfl Try.func51 (by kernel_rfl) rfl #[.slice A0 l0.length c0] rfl zM_ ?_;(with_reducible refine (spec_validOps.calls k _ _ l0 true _ ?side1 ?side2 A2.out).mono ?_);(case side1 => repeat (first|exact HR0.out|(with_reducible refine Kd.C_alloc ?_ _)|(with_reducible refine Kd.C_drewN ?_ _)|(with_reducible refine Kd.C_drew ?_)));(case side2 => exact HC0.out);rintro e w4 ⟨rfl,hb⟩;refine ⟨_,rfl,?_⟩;have n0_ := As_ (bwT (zb0 HB.out) hb);clear HB;revert n0_;intro HB)|((with_reducible refine gate_dst (N := 8) rfl ?_);refine Kd.R_lit (Kd.int .i64) _ 3 ?hg (N := 8) ?hd (xs := ([] : List Int)) (inner := []) (ok := fun _ => True) (okp := fun _ => True) ?hr ?hp (fun _ hk => hk) trivial (Below.refl _ _) (Nat.le_refl _) (by simp) ?_;(case hd => rfl);(case hg => rfl);(case hr => go_simp <;> rfl);(case hp => exact (Reps.none _ _));intro v246 w5 ho6 hb hg_ hnew_;clear hg_ hnew_;(first|rw [← Ny245.out] at ho6|(simp only [Int.reduceToNat] at ho6;rw [← Ny245.out] at ho6));have n0_ := As_ (Kd.R_lower ho6 (bwZ (zb0 HB.out)));have n1_ := As_ (bwT (zb0 HB.out) hb);clear HB;revert n0_ n1_;intro HO247 HB;clear hb ho6))
 go_loopg [3,4] k (fun kq v3 v4 w' => ∃ (x3_1 : List Int) (x4_1 : Int),v4 = .int .i64 x4_1 ∧ Aside0 (spec_PlacesOf.l0 kq l0 x3_1 x4_1 = some r) ∧ Aside0 (kq ≤ k) ∧ Aside0 (Kd.R (Kd.int .i64) 3 w' w.heap.size (fun _ => True) v3 x3_1) ∧ Aside0 (Below w.heap.size w w'))
 case atStart => exact ⟨(y245),(0),zT_,H',⟨Nat.le_refl _⟩,⟨by (with_reducible repeat (first|apply Kd.R_alloc|apply Kd.R_drewN|apply Kd.R_drew));exact HO247.out⟩,⟨zb0 HB.out⟩⟩
 case round =>
  clear H'
  obtain ⟨x3_1,x4_1,rfl,HA,HK1,HO_3,HB⟩ := hrel
  cases gk with
  | zero => exact absurd HA.out (fun h_ => (by cases h_))
  | succ k1 =>
   have H := HA.out
   clear HA
   simp only [spec_PlacesOf.l0] at H
   by_cases c7 : x4_1 < (l0.length : Int)
   rotate_left
   ·rw [if_neg c7] at H
    have c7b0 : decide (x4_1 < (l0.length : Int)) = false := deF c7
    clear c7
    obtain rfl := Option.some.inj H
    obtain ⟨Ao16,co16,eo16⟩ := Kd.R_slice HO_3.out
    subst eo16
    go_wp2
    go_ret
    exact ⟨zE_,zb0 HB.out⟩
   rw [if_pos c7] at H
   have c7b0 : decide (x4_1 < (l0.length : Int)) = true := deT c7
   clear c7
   by_cases c8 : 0 ≤ x4_1
   rotate_left
   ·rw [if_neg c8] at H
    exact absurd H (by simp)
   rw [if_pos c8] at H
   have c8b0 : decide (0 ≤ x4_1) = true := deT c8
   clear c8
   by_cases c9 : ((rd_T49 l0 x4_1).f0) = 15
   rotate_left
   ·rw [if_neg c9] at H
    have c9b0 : (((rd_T49 l0 x4_1).f0) == 15) = false := beq_eq_false_iff_ne.mpr c9
    have c9b1 : (((rd_T49 l0 x4_1).f0) != 15) = true := bne_iff_ne.mpr c9
    have H' := As_ H
    clear H
    have p248 : 0 ≤ (x4_1 : Int) := odT zA_
    have q248 : x4_1 < (l0.length : Int) := odT zA_
    obtain ⟨ad248,e248,hx248_0,hx248_1⟩ := at_T49 HR0.out x4_1 p248 q248
    cases e248
    replace hx248_0 := bwC HB.out hx248_0
    replace hx248_1 := bwC HB.out hx248_1
    replace p248 := eq_true p248
    replace q248 := eq_true q248
    go_wp2
    go_roundg k1
    case measure => have := HK1.out;omega
    case rel => exact ⟨(x3_1),(wrap64 (x4_1 + 1)),zT_,H',⟨by have := HK1.out;omega⟩,⟨by (with_reducible repeat (first|apply Kd.R_alloc|apply Kd.R_drewN|apply Kd.R_drew));exact HO_3.out⟩,⟨zb0 HB.out⟩⟩
   rw [if_pos c9] at H
   have c9b0 : (((rd_T49 l0 x4_1).f0) == 15) = true := beq_iff_eq.mpr c9
   have c9b1 : (((rd_T49 l0 x4_1).f0) != 15) = false := bne_eq_false_iff_eq.mpr c9
   clear c9
   replace H := obS H
   obtain ⟨t250,A100,H⟩ := H
   replace H : (if t250 < 0 then (if x3_1.length < 17592186044416 then (spec_PlacesOf.l0 k1 l0 (x3_1 ++ [(rd_T49 l0 x4_1).f1]) (wrap64 (x4_1 + 1))) else (none)) else (spec_PlacesOf.l0 k1 l0 x3_1 (wrap64 (x4_1 + 1)))) = some r := H
   have A10 := As_ A100
   clear A100
   by_cases c11 : t250 < 0
   rotate_left
   ·rw [if_neg c11] at H
    have c11b0 : decide (t250 < 0) = false := deF c11
    clear c11
    have H' := As_ H
    clear H
    have p248 : 0 ≤ (x4_1 : Int) := odT zA_
    have q248 : x4_1 < (l0.length : Int) := odT zA_
    obtain ⟨ad248,e248,hx248_0,hx248_1⟩ := at_T49 HR0.out x4_1 p248 q248
    cases e248
    replace hx248_0 := bwC HB.out hx248_0
    replace hx248_1 := bwC HB.out hx248_1
    replace p248 := eq_true p248
    replace q248 := eq_true q248
    have p249 : 0 ≤ (x4_1 : Int) := odT zA_
    have q249 : x4_1 < (l0.length : Int) := odT zA_
    obtain ⟨ad249,e249,hx249_0,hx249_1⟩ := at_T49 HR0.out x4_1 p249 q249
    obtain rfl : ad248 = ad249 := (by injection e249)
    replace hx249_0 := bwC HB.out hx249_0
    replace hx249_1 := bwC HB.out hx249_1
    replace p249 := eq_true p249
    replace q249 := eq_true q249
    obtain ⟨Ao15,co15,eo15⟩ := Kd.R_slice HO_3.out
    subst eo15
    go_wp2_with (first|(go_at_call 60;(with_reducible refine (spec_placeIn.calls k1 _ _ x3_1 ((rd_T49 l0 x4_1).f1) t250 _ ?side1 ?side2 A10.out).mono ?_);(case side1 => exact zC_ (Kd.R_reads' HO_3.out).2.2);(case side2 => exact (Kd.R_reads' HO_3.out).2.1);rintro e w' ⟨rfl,⟨nd,rfl⟩⟩))
    go_roundg k1
    case measure => have := HK1.out;omega
    case rel => exact ⟨(x3_1),(wrap64 (x4_1 + 1)),zT_,H',⟨by have := HK1.out;omega⟩,⟨by (with_reducible repeat (first|apply Kd.R_alloc|apply Kd.R_drewN|apply Kd.R_drew));exact HO_3.out⟩,⟨zb0 HB.out⟩⟩
   rw [if_pos c11] at H
   have c11b0 : decide (t250 < 0) = true := deT c11
   clear c11
   by_cases c12 : x3_1.length < 17592186044416
   rotate_left
   ·rw [if_neg c12] at H
    exact absurd H (by simp)
   rw [if_pos c12] at H
   have LMc12 := As_ c12
   clear c12
   obtain ⟨y252,hy252⟩ : ∃ y_ : List Int,y_ = (x3_1 ++ [(rd_T49 l0 x4_1).f1]) := ⟨_,rfl⟩
   replace H : (spec_PlacesOf.l0 k1 l0 y252 (wrap64 (x4_1 + 1))) = some r := zH_ H hy252
   have Ny252 := As_ hy252
   clear hy252
   have H' := As_ H
   clear H
   have p248 : 0 ≤ (x4_1 : Int) := odT zA_
   have q248 : x4_1 < (l0.length : Int) := odT zA_
   obtain ⟨ad248,e248,hx248_0,hx248_1⟩ := at_T49 HR0.out x4_1 p248 q248
   cases e248
   replace hx248_0 := bwC HB.out hx248_0
   replace hx248_1 := bwC HB.out hx248_1
   replace p248 := eq_true p248
   replace q248 := eq_true q248
   have p249 : 0 ≤ (x4_1 : Int) := odT zA_
   have q249 : x4_1 < (l0.length : Int) := odT zA_
   obtain ⟨ad249,e249,hx249_0,hx249_1⟩ := at_T49 HR0.out x4_1 p249 q249
   obtain rfl : ad248 = ad249 := (by injection e249)
   replace hx249_0 := bwC HB.out hx249_0
   replace hx249_1 := bwC HB.out hx249_1
   replace p249 := eq_true p249
   replace q249 := eq_true q249
   obtain ⟨Ao13,co13,eo13⟩ := Kd.R_slice HO_3.out
   subst eo13
   go_wp2_with (first|(go_at_call 60;(with_reducible refine (spec_placeIn.calls k1 _ _ x3_1 ((rd_T49 l0 x4_1).f1) t250 _ ?side1 ?side2 A10.out).mono ?_);(case side1 => exact zC_ (Kd.R_reads' HO_3.out).2.2);(case side2 => exact (Kd.R_reads' HO_3.out).2.1);rintro e w' ⟨rfl,⟨nd,rfl⟩⟩;have p251 : 0 ≤ (x4_1 : Int) := odT zA_;have q251 : x4_1 < (l0.length : Int) := odT zA_;obtain ⟨ad251,e251,hx251_0,hx251_1⟩ := at_T49 HR0.out x4_1 p251 q251;obtain rfl : ad248 = ad251 := (by injection e251);replace hx251_0 := bwC HB.out hx251_0;replace hx251_1 := bwC HB.out hx251_1;replace p251 := eq_true p251;replace q251 := eq_true q251)|((with_reducible refine gate_builtin (b := .append) (xs := #[.tmp 31,.tmp 37]) rfl ?_);at_builtin;refine Kd.R_append (Kd.int .i64) (w0 := w) w.heap.size rfl (.tmp 31) (.tmp 37) 29 3 (.int .i64 0) 8 rfl Try.underlying29 info3 rfl (by decide) (by omega) (.slice Ao13 x3_1.length co13) x3_1 ((rd_T49 l0 x4_1).f1) [.int .i64 ((rd_T49 l0 x4_1).f1)] (fun _ => True) (fun _ => False) rfl rfl ?aP (fun _ hk => hk.elim) ?aF ?aO ?aB ?aS ?aL ?_;(case aP => exact rfl);(case aB => exact (zb0 HB.out));(case aF => exact (fun _ _ => trivial));(case aO => exact (zR_ HO_3.out));(case aS => exact (bwZ (zb0 HB.out)));(case aL => have := LMc12.out;omega);intro v253 w14 ho hb hg hat;rw [← Ny252.out] at ho;have n0_ := As_ (hb);have n1_ := As_ (ho);clear HB HO_3;revert n0_ n1_;intro HB HO254;clear ho hb hg hat))
   go_roundg k1
   case measure => have := HK1.out;omega
   case rel => exact ⟨(y252),(wrap64 (x4_1 + 1)),zT_,H',⟨by have := HK1.out;omega⟩,⟨by (with_reducible repeat (first|apply Kd.R_alloc|apply Kd.R_drewN|apply Kd.R_drew));exact HO254.out⟩,⟨zb0 HB.out⟩⟩
/-! ### impl_PlacesOf: function 29 -/
/-- The places that are kept: each just once. -/
def impl_PlacesOf.add (S : List Int) (o : S49) : List Int := if o.f0 = 15 then addTo S o.f1 else S
def impl_PlacesOf.places (l : List S49) : List Int := l.foldl impl_PlacesOf.add []
theorem impl_PlacesOf.len_le : ∀ (l : List S49) (S : List Int),(l.foldl impl_PlacesOf.add S).length ≤ S.length + l.length
 | [],S => by simp
 | o :: r,S => by
  have h := impl_PlacesOf.len_le r (impl_PlacesOf.add S o)
  have h2 : (impl_PlacesOf.add S o).length ≤ S.length + 1 := by
   unfold impl_PlacesOf.add addTo
   repeat' split
   all_goals simp
  rw [List.foldl_cons,List.length_cons]
  omega
theorem impl_PlacesOf.places_next (l : List S49) (i : Nat) (h : i < l.length) : impl_PlacesOf.places (l.take (i + 1)) = impl_PlacesOf.add (impl_PlacesOf.places (l.take i)) (rd_T49 l (i : Int)) := by
 unfold impl_PlacesOf.places
 rw [List.take_succ_eq_append_getElem h,List.foldl_append,show rd_T49 l (i : Int) = l[i] from by simp [rd_T49,List.getD_eq_getElem?_getD,List.getElem?_eq_getElem h]]
 rfl
def impl_PlacesOf.f (k : Nat) (l0 : List (S49)) : Option (Int) := (impl_ValidOps.f k l0).bind fun t => (if t = true then (if l0.all (fun o => (Lit.int .i64 o.f1).wf) = true then some ((impl_PlacesOf.places l0).length : Int) else none) else some (-1))
theorem impl_PlacesOf.mono : ∀ a0 k,LeO (impl_PlacesOf.f k a0) (impl_PlacesOf.f (k + 1) a0) := by
 intro a0 k
 unfold impl_PlacesOf.f
 exact LeO.bind (impl_ValidOps.mono _ _) (fun _ => LeO.refl _)
theorem impl_PlacesOf.zero_bool (w : World) : (zeroValue 4).run Try.prog w = .ok (.bool false) w := by kernel_rfl
set_option maxHeartbeats 8000000 in
set_option maxRecDepth 100000 in
theorem impl_PlacesOf.calls (k : Nat) (A0 : Option Addr) (c0 : Nat) (l0 : List (S49)) (r : Int) (w : World) (hr0 : Kd.C k49 w A0 l0.length l0) (hc0 : l0.length ≤ c0) (h : impl_PlacesOf.f k l0 = some r) :
  Calls Try.prog 29 #[.slice A0 l0.length c0] w fun e w' => e = .returned (.int .i64 r) ∧ Below w.heap.size w w' := by
 have hu := Try.underlying49
 have hmm := @run_makeMap Try.prog
 have hmax : l0.length ≤ 9223372036854775807 := Kd.C_max hr0
 have HR0 := As_ hr0
 have HC0 := As_ hc0
 clear hr0 hc0
 have HB := As_ (Below.refl w.heap.size w)
 obtain ⟨t,A20,H⟩ := obS (show ((impl_ValidOps.f k l0).bind fun t => (if t = true then (if l0.all (fun o => (Lit.int .i64 o.f1).wf) = true then some ((impl_PlacesOf.places l0).length : Int) else none) else some (-1))) = some r from h)
 clear h
 have A2 := As_ A20
 clear A20
 cases t with
 | false =>
  obtain rfl : (-1 : Int) = r := Option.some.inj (by rw [if_neg (by decide)] at H;exact H)
  clear H
  go_enter Try.func29,Try.ntmps29
  go_wp2_with (go_at_call 18;(with_reducible refine (impl_ValidOps.calls k _ _ l0 false _ HR0.out HC0.out A2.out).mono ?_);rintro e w5 ⟨rfl,hb⟩;have n0_ := As_ (bwT HB.out hb);clear HB;revert n0_;intro HB;clear hb)
  go_ret
  exact ⟨rfl,HB.out⟩
 | true =>
  by_cases hw : l0.all (fun o => (Lit.int .i64 o.f1).wf) = true
  rotate_left
  ·exact absurd H (by rw [if_pos rfl,if_neg hw];simp)

  obtain rfl : ((impl_PlacesOf.places l0).length : Int) = r := Option.some.inj (by rw [if_pos rfl,if_pos hw] at H;exact H)
  clear H
  have HW := As_ hw
  clear hw
  go_enter Try.func29,Try.ntmps29
  go_wp2_with (go_at_call 18;(with_reducible refine (impl_ValidOps.calls k _ _ l0 true _ HR0.out HC0.out A2.out).mono ?_);rintro e w5 ⟨rfl,hb⟩;have n0_ := As_ (bwT HB.out hb);clear HB;revert n0_;intro HB;clear hb)
  have GE := As_ HB.out.size
  go_loopw [12] (fun v12 wr => ∃ i : Nat,i ≤ l0.length ∧ v12 = .int .i64 i ∧ Aside0 (SetIs Try.prog 3 4 wr w5.heap.size (impl_PlacesOf.places (l0.take i))) ∧ Aside0 (Below w.heap.size w wr)) (fun v _ => l0.length - (intOf v).toNat)
  case atStart => exact ⟨0,Nat.zero_le _,rfl,⟨SetIs.made _⟩,⟨bwA HB.out _⟩⟩
  case round =>
   clear HB
   obtain ⟨i,hi,rfl,HS,HB⟩ := hrel
   by_cases hlt : i < l0.length
   rotate_left
   ·obtain rfl : i = l0.length := by omega
    have c8b0 : decide ((l0.length : Int) < (l0.length : Int)) = false := deF (by omega)
    go_wp2_with (at_len;refine wpList_set_len _ rfl _ 57 rfl 3 4 Try.underlying57 w5.heap.size (impl_PlacesOf.places (l0.take l0.length)) rfl HS.out ?_)
    go_ret
    exact ⟨rfl,HB.out⟩
   have HN := As_ (impl_PlacesOf.places_next l0 i hlt)
   have HL := As_ (show (impl_PlacesOf.places (l0.take i)).length < maxLen from by have := impl_PlacesOf.len_le (l0.take i) [];unfold maxLen;simp at this;unfold impl_PlacesOf.places;omega)
   have HF := As_ (show (Lit.int .i64 (rd_T49 l0 (i : Int)).f1).wf = true from by
    have := List.all_eq_true.1 HW.out (l0[i]) (List.getElem_mem hlt)
    rw [show rd_T49 l0 (i : Int) = l0[i] from by simp [rd_T49,List.getD_eq_getElem?_getD,List.getElem?_eq_getElem hlt]]
    exact this)
   have p338 : 0 ≤ (i : Int) := Int.natCast_nonneg i
   have q338 : (i : Int) < (l0.length : Int) := by omega
   have c8b0 : decide ((i : Int) < (l0.length : Int)) = true := deT q338
   obtain ⟨ad338,e338,hx338_0,hx338_1⟩ := at_T49 HR0.out (i : Int) p338 q338
   cases e338
   rw [Int.toNat_natCast] at hx338_0 hx338_1
   replace hx338_0 := bwC HB.out hx338_0
   replace hx338_1 := bwC HB.out hx338_1
   replace p338 := eq_true p338
   replace q338 := eq_true q338
   by_cases hc : (rd_T49 l0 (i : Int)).f0 = 15
   ·have c5b0 : ((rd_T49 l0 (i : Int)).f0 == 15) = true := beq_iff_eq.mpr hc
    have HC := As_ hc
    clear hc
    go_wp2_with (first|((with_reducible refine gate_dst (N := 5) rfl ?_);refine box_event ?hg (N := 5) ?hd (cs := #[.int .i64 0,.int .i64 0]) (t := 49) ?hr ?_;(case hd => rfl);(case hg => rfl);(case hr => go_simp <;> rfl);intro gb hg w14 hbox hb;have n0_ := As_ (HS.out.below hb);have n1_ := As_ (bwT HB.out hb);have n2_ := As_ hbox;have n3_ := As_ (show w.heap.size ≤ gb by rw [hg];exact bwZ HB.out);have n4_ := As_ (show w5.heap.size ≠ gb by rw [hg];exact Nat.ne_of_lt HS.out.lt);clear HS HB;revert n0_ n1_ n2_ n3_ n4_;intro HS HB BK GE1 NE;clear hb hbox hg;have hcz15_0 : w14.cell? ⟨gb,0,none⟩ = some (.int .i64 0) := (bkC BK.out 0).trans rfl;have hcz15_1 : w14.cell? ⟨gb,1,none⟩ = some (.int .i64 0) := (bkC BK.out 1).trans rfl;have hfz15_0 := bkF BK.out 0;have hfz15_1 := bkF BK.out 1)|((with_reducible refine gate_store (t := 49) (p := 5) rfl ?_);refine store_event (t := 49) (p := 5) (v := ?vo_w16) (w1 := ((w14.setCell ⟨gb,0,none⟩ (.int .i64 ((rd_T49 l0 i).f0))).setCell ⟨gb,1,none⟩ (.int .i64 ((rd_T49 l0 i).f1)))) ?hg ?ho ?hn ?hr ?_;(case ho => rfl);(case hg => rfl);(case hn => rfl);(case hr => go_simp <;> rfl);intro w16 hw;have n0_ : Aside0 (SetIs Try.prog 3 4 w16 w5.heap.size (impl_PlacesOf.places (l0.take i))) := ⟨(by rw [hw];exact (HS.out.setCell (a := ⟨gb,0,none⟩) NE.out _).setCell (a := ⟨gb,1,none⟩) NE.out _)⟩;have n1_ : Aside0 (w16.heap[gb]? = some (.cells #[.int .i64 ((rd_T49 l0 i).f0),.int .i64 ((rd_T49 l0 i).f1)] 49 (0,0))) := ⟨(by rw [hw];refine blk_put (cs := #[.int .i64 ((rd_T49 l0 i).f0),.int .i64 0]) ?_ 1 _ rfl;refine blk_put (cs := #[.int .i64 0,.int .i64 0]) ?_ 0 _ rfl;exact BK.out)⟩;have n2_ : Aside0 (Below w.heap.size w w16) := ⟨(by rw [hw];exact bwS (bwS HB.out GE1.out) GE1.out)⟩;clear hw HS BK HB;revert n0_ n1_ n2_;intro HS BK HB;have hcz17_0 : w16.cell? ⟨gb,0,none⟩ = some (.int .i64 ((rd_T49 l0 i).f0)) := (bkC BK.out 0).trans rfl;have hcz17_1 : w16.cell? ⟨gb,1,none⟩ = some (.int .i64 ((rd_T49 l0 i).f1)) := (bkC BK.out 1).trans rfl;have hfz17_0 := bkF BK.out 0;have hfz17_1 := bkF BK.out 1)|(at_mapUpdate;refine wpList_set_update _ rfl _ _ _ 57 rfl 3 4 Try.underlying57 Try.underlying3 Try.underlying4 w5.heap.size (impl_PlacesOf.places (l0.take i)) rfl HS.out HL.out _ rfl rfl HF.out ?_;intro w20 hs20 ht20;have n0_ := As_ hs20;have n1_ := As_ (show Below w.heap.size w w20 from HB.out.grown ht20.grown HB.out.size (fun j hj => by cases hj;exact GE.out));clear HS HB;have HS := n0_;have HB := n1_;clear n0_ n1_ hs20 ht20))
    go_roundw
    case measure => simp [intOf];omega
    case rel => exact ⟨i + 1,hlt,by go_num,⟨by rw [HN.out];unfold impl_PlacesOf.add;rw [if_pos HC.out];exact HS.out⟩,HB⟩
   have c5b0 : ((rd_T49 l0 (i : Int)).f0 == 15) = false := beq_eq_false_iff_ne.mpr hc
   have HC := As_ hc
   clear hc
   go_wp2_with (first|((with_reducible refine gate_dst (N := 5) rfl ?_);refine box_event ?hg (N := 5) ?hd (cs := #[.int .i64 0,.int .i64 0]) (t := 49) ?hr ?_;(case hd => rfl);(case hg => rfl);(case hr => go_simp <;> rfl);intro gb hg w14 hbox hb;have n0_ := As_ (HS.out.below hb);have n1_ := As_ (bwT HB.out hb);have n2_ := As_ hbox;have n3_ := As_ (show w.heap.size ≤ gb by rw [hg];exact bwZ HB.out);have n4_ := As_ (show w5.heap.size ≠ gb by rw [hg];exact Nat.ne_of_lt HS.out.lt);clear HS HB;revert n0_ n1_ n2_ n3_ n4_;intro HS HB BK GE1 NE;clear hb hbox hg;have hcz15_0 : w14.cell? ⟨gb,0,none⟩ = some (.int .i64 0) := (bkC BK.out 0).trans rfl;have hcz15_1 : w14.cell? ⟨gb,1,none⟩ = some (.int .i64 0) := (bkC BK.out 1).trans rfl;have hfz15_0 := bkF BK.out 0;have hfz15_1 := bkF BK.out 1)|((with_reducible refine gate_store (t := 49) (p := 5) rfl ?_);refine store_event (t := 49) (p := 5) (v := ?vo_w16) (w1 := ((w14.setCell ⟨gb,0,none⟩ (.int .i64 ((rd_T49 l0 i).f0))).setCell ⟨gb,1,none⟩ (.int .i64 ((rd_T49 l0 i).f1)))) ?hg ?ho ?hn ?hr ?_;(case ho => rfl);(case hg => rfl);(case hn => rfl);(case hr => go_simp <;> rfl);intro w16 hw;have n0_ : Aside0 (SetIs Try.prog 3 4 w16 w5.heap.size (impl_PlacesOf.places (l0.take i))) := ⟨(by rw [hw];exact (HS.out.setCell (a := ⟨gb,0,none⟩) NE.out _).setCell (a := ⟨gb,1,none⟩) NE.out _)⟩;have n1_ : Aside0 (w16.heap[gb]? = some (.cells #[.int .i64 ((rd_T49 l0 i).f0),.int .i64 ((rd_T49 l0 i).f1)] 49 (0,0))) := ⟨(by rw [hw];refine blk_put (cs := #[.int .i64 ((rd_T49 l0 i).f0),.int .i64 0]) ?_ 1 _ rfl;refine blk_put (cs := #[.int .i64 0,.int .i64 0]) ?_ 0 _ rfl;exact BK.out)⟩;have n2_ : Aside0 (Below w.heap.size w w16) := ⟨(by rw [hw];exact bwS (bwS HB.out GE1.out) GE1.out)⟩;clear hw HS BK HB;revert n0_ n1_ n2_;intro HS BK HB;have hcz17_0 : w16.cell? ⟨gb,0,none⟩ = some (.int .i64 ((rd_T49 l0 i).f0)) := (bkC BK.out 0).trans rfl;have hcz17_1 : w16.cell? ⟨gb,1,none⟩ = some (.int .i64 ((rd_T49 l0 i).f1)) := (bkC BK.out 1).trans rfl;have hfz17_0 := bkF BK.out 0;have hfz17_1 := bkF BK.out 1))
   go_roundw
   case measure => simp [intOf];omega
   case rel => exact ⟨i + 1,hlt,by go_num,⟨by rw [HN.out];unfold impl_PlacesOf.add;rw [if_neg HC.out];exact HS.out⟩,HB⟩
/-! ### laws_FnExactPlacesOf: function 6 -/
def laws_FnExactPlacesOf.f (k : Nat) (l0 : List (S51)) : Option (Bool) := (laws_szOpS.f l0 1048576).bind fun t255 => (if t255 < 0 then (some true) else ((laws_toOpS.f k l0).bind fun t256 => ((spec_PlacesOf.f k t256).bind fun t259 => ((laws_toOpS.f k l0).bind fun t260 => ((impl_PlacesOf.f k t260).bind fun t263 => (if t263 = t259 then ((laws_toOpS.f k l0).bind fun t264 => ((laws_eqOpS.f k t260 t264).bind fun t267 => (if t267 = true then (some true) else (some false)))) else (some false)))))))
set_option maxRecDepth 100000 in
theorem laws_FnExactPlacesOf.mono : ∀ a0 k,LeO (laws_FnExactPlacesOf.f k a0) (laws_FnExactPlacesOf.f (k + 1) a0) := by
 intro a0 k
 unfold laws_FnExactPlacesOf.f
 repeat' first
   | (with_reducible exact impl_PlacesOf.mono _ _)
   | (with_reducible exact laws_eqOpS.mono _ _ _)
   | (with_reducible exact laws_toOpS.mono _ _)
   | (with_reducible exact spec_PlacesOf.mono _ _)
   | (with_reducible exact LeO.refl _)
   | (with_reducible exact LeO.none _)
   | (with_reducible refine LeO.ite ?_ ?_)
   | (with_reducible refine LeO.bind ?_ (fun _ => ?_))
   | exact impl_PlacesOf.mono _ _
   | exact laws_eqOpS.mono _ _ _
   | exact laws_toOpS.mono _ _
   | exact spec_PlacesOf.mono _ _
   | exact LeO.none _
   | refine LeO.ite ?_ ?_
   | refine LeO.bind ?_ (fun _ => ?_)
set_option maxHeartbeats 8000000 in
set_option maxRecDepth 100000 in
theorem laws_FnExactPlacesOf.calls (k : Nat) (A0 : Option Addr) (c0 : Nat) (l0 : List (S51)) (r : Bool) (w : World) (hr0 : Kd.C k51 w A0 l0.length l0) (hc0 : l0.length ≤ c0) (h : laws_FnExactPlacesOf.f k l0 = some r) :
  Calls Try.prog 6 #[.slice A0 l0.length c0] w fun e w' => e = .returned (.bool r) ∧ Below w.heap.size w w' := by
 have HR0 := As_ hr0
 have HC0 := As_ hc0
 clear hr0 hc0
 have HB := As_ (Below.refl w.heap.size w)
 have H : ((laws_szOpS.f l0 1048576).bind fun t255 => (if t255 < 0 then (some true) else ((laws_toOpS.f k l0).bind fun t256 => ((spec_PlacesOf.f k t256).bind fun t259 => ((laws_toOpS.f k l0).bind fun t260 => ((impl_PlacesOf.f k t260).bind fun t263 => (if t263 = t259 then ((laws_toOpS.f k l0).bind fun t264 => ((laws_eqOpS.f k t260 t264).bind fun t267 => (if t267 = true then (some true) else (some false)))) else (some false)))))))) = some r := h
 clear h
 replace H := obS H
 obtain ⟨t255,A20,H⟩ := H
 replace H : (if t255 < 0 then (some true) else ((laws_toOpS.f k l0).bind fun t256 => ((spec_PlacesOf.f k t256).bind fun t259 => ((laws_toOpS.f k l0).bind fun t260 => ((impl_PlacesOf.f k t260).bind fun t263 => (if t263 = t259 then ((laws_toOpS.f k l0).bind fun t264 => ((laws_eqOpS.f k t260 t264).bind fun t267 => (if t267 = true then (some true) else (some false)))) else (some false))))))) = some r := H
 have A2 := As_ A20
 clear A20
 by_cases c3 : t255 < 0
 ·rw [if_pos c3] at H
  have c3b0 : decide (t255 < 0) = true := deT c3
  clear c3
  obtain rfl := Option.some.inj H
  go_enter Try.func6,Try.ntmps6
  go_wp2_with (first|((with_reducible refine gate_callee (f := 15) rfl ?_);refine goesL_ (some 9) rfl rfl Try.func15 (by kernel_rfl) rfl #[.slice A0 l0.length c0,.int .i64 1048576] rfl zM_ ?_;(with_reducible refine (laws_szOpS.calls _ _ l0 1048576 t255 _ ?side1 ?side2 A2.out).mono ?_);(case side1 => repeat (first|exact HR0.out|(with_reducible refine Kd.C_alloc ?_ _)|(with_reducible refine Kd.C_drewN ?_ _)|(with_reducible refine Kd.C_drew ?_)));(case side2 => exact HC0.out);rintro e w' ⟨rfl,⟨nd,rfl⟩⟩;refine ⟨_,rfl,?_⟩))
  go_ret
  exact ⟨zE_,zb0 HB.out⟩
 rw [if_neg c3] at H
 have c3b0 : decide (t255 < 0) = false := deF c3
 clear c3
 replace H := obS H
 obtain ⟨t256,A40,H⟩ := H
 replace H : ((spec_PlacesOf.f k t256).bind fun t259 => ((laws_toOpS.f k l0).bind fun t260 => ((impl_PlacesOf.f k t260).bind fun t263 => (if t263 = t259 then ((laws_toOpS.f k l0).bind fun t264 => ((laws_eqOpS.f k t260 t264).bind fun t267 => (if t267 = true then (some true) else (some false)))) else (some false))))) = some r := H
 have A4 := As_ A40
 clear A40
 replace H := obS H
 obtain ⟨t259,A50,H⟩ := H
 replace H : ((laws_toOpS.f k l0).bind fun t260 => ((impl_PlacesOf.f k t260).bind fun t263 => (if t263 = t259 then ((laws_toOpS.f k l0).bind fun t264 => ((laws_eqOpS.f k t260 t264).bind fun t267 => (if t267 = true then (some true) else (some false)))) else (some false)))) = some r := H
 have A5 := As_ A50
 clear A50
 replace H := obS H
 obtain ⟨t260,A60,H⟩ := H
 replace H : ((impl_PlacesOf.f k t260).bind fun t263 => (if t263 = t259 then ((laws_toOpS.f k l0).bind fun t264 => ((laws_eqOpS.f k t260 t264).bind fun t267 => (if t267 = true then (some true) else (some false)))) else (some false))) = some r := H
 have A6 := As_ A60
 clear A60
 replace H := obS H
 obtain ⟨t263,A70,H⟩ := H
 replace H : (if t263 = t259 then ((laws_toOpS.f k l0).bind fun t264 => ((laws_eqOpS.f k t260 t264).bind fun t267 => (if t267 = true then (some true) else (some false)))) else (some false)) = some r := H
 have A7 := As_ A70
 clear A70
 by_cases c8 : t263 = t259
 rotate_left
 ·rw [if_neg c8] at H
  have c8b0 : (t263 == t259) = false := beq_eq_false_iff_ne.mpr c8
  have c8b1 : (t263 != t259) = true := bne_iff_ne.mpr c8
  obtain rfl := Option.some.inj H
  go_enter Try.func6,Try.ntmps6
  go_wp2_with (first|((with_reducible refine gate_callee (f := 15) rfl ?_);refine goesL_ (some 9) rfl rfl Try.func15 (by kernel_rfl) rfl #[.slice A0 l0.length c0,.int .i64 1048576] rfl zM_ ?_;(with_reducible refine (laws_szOpS.calls _ _ l0 1048576 t255 _ ?side1 ?side2 A2.out).mono ?_);(case side1 => repeat (first|exact HR0.out|(with_reducible refine Kd.C_alloc ?_ _)|(with_reducible refine Kd.C_drewN ?_ _)|(with_reducible refine Kd.C_drew ?_)));(case side2 => exact HC0.out);rintro e w' ⟨rfl,⟨nd,rfl⟩⟩;refine ⟨_,rfl,?_⟩)|((with_reducible refine gate_callee (f := 17) rfl ?_);refine goesL_ (some 13) rfl rfl Try.func17 (by kernel_rfl) rfl #[.slice A0 l0.length c0] rfl zM_ ?_;(with_reducible refine (laws_toOpS.calls k _ _ l0 t256 _ ?side1 ?side2 A4.out).mono ?_);(case side1 => repeat (first|exact HR0.out|(with_reducible refine Kd.C_alloc ?_ _)|(with_reducible refine Kd.C_drewN ?_ _)|(with_reducible refine Kd.C_drew ?_)));(case side2 => exact HC0.out);rintro e w30 ⟨v257,rfl,ho0,hb⟩;refine ⟨_,rfl,?_⟩;have n0_ := As_ (Kd.R_lower ho0 (bwZ (zb0 HB.out)));have n1_ := As_ (bwT (zb0 HB.out) hb);clear HB;revert n0_ n1_;intro HO258 HB;obtain ⟨Ao31,co31,eo31⟩ := Kd.R_slice HO258.out;subst eo31)|((with_reducible refine gate_callee (f := 28) rfl ?_);refine goesL_ (some 14) rfl rfl Try.func28 (by kernel_rfl) rfl #[.slice Ao31 t256.length co31] rfl zM_ ?_;(with_reducible refine (spec_PlacesOf.calls k _ _ t256 t259 _ ?side1 ?side2 A5.out).mono ?_);(case side1 => exact zC_ (Kd.R_reads' HO258.out).2.2);(case side2 => exact (Kd.R_reads' HO258.out).2.1);rintro e w32 ⟨rfl,hb⟩;refine ⟨_,rfl,?_⟩;have n0_ := As_ (Kd.R_below (zR_ HO258.out) hb);have n1_ := As_ (bwT (zb0 HB.out) hb);clear HO258 HB;revert n0_ n1_;intro HO258 HB)|((with_reducible refine gate_callee (f := 17) rfl ?_);refine goesL_ (some 16) rfl rfl Try.func17 (by kernel_rfl) rfl #[.slice A0 l0.length c0] rfl zM_ ?_;(with_reducible refine (laws_toOpS.calls k _ _ l0 t260 _ ?side1 ?side2 A6.out).mono ?_);(case side1 => exact zC_ (Kd.C_below HR0.out HB.out));(case side2 => exact HC0.out);rintro e w33 ⟨v261,rfl,ho0,hb⟩;refine ⟨_,rfl,?_⟩;have n0_ := As_ (Kd.R_elder' (zR_ HO258.out) (Kd.R_base ho0) hb);have n1_ := As_ (Kd.R_lower (Kd.R_new' ho0 (Kd.R_lt (zR_ HO258.out))) (bwZ (zb0 HB.out)));have n2_ := As_ (bwT (zb0 HB.out) hb);clear HO258 HB;revert n0_ n1_ n2_;intro HO258 HO262 HB;obtain ⟨Ao34,co34,eo34⟩ := Kd.R_slice HO262.out;subst eo34)|((with_reducible refine gate_callee (f := 29) rfl ?_);refine goesL_ (some 18) rfl rfl Try.func29 (by kernel_rfl) rfl #[.slice Ao34 t260.length co34] rfl zM_ ?_;(with_reducible refine (impl_PlacesOf.calls k _ _ t260 t263 _ ?side1 ?side2 A7.out).mono ?_);(case side1 => exact zC_ (Kd.R_reads' HO262.out).2.2);(case side2 => exact (Kd.R_reads' HO262.out).2.1);rintro e w35 ⟨rfl,hb⟩;refine ⟨_,rfl,?_⟩;have n0_ := As_ (Kd.R_below (zR_ HO258.out) hb);have n1_ := As_ (Kd.R_below (zR_ HO262.out) hb);have n2_ := As_ (bwT (zb0 HB.out) hb);clear HO258 HO262 HB;revert n0_ n1_ n2_;intro HO258 HO262 HB))
  go_ret
  exact ⟨zE_,zb0 HB.out⟩

 rw [if_pos c8] at H
 have c8b0 : (t263 == t259) = true := beq_iff_eq.mpr c8
 have c8b1 : (t263 != t259) = false := bne_eq_false_iff_eq.mpr c8
 clear c8
 replace H := obS H
 obtain ⟨t264,A90,H⟩ := H
 replace H : ((laws_eqOpS.f k t260 t264).bind fun t267 => (if t267 = true then (some true) else (some false))) = some r := H
 have A9 := As_ A90
 clear A90
 replace H := obS H
 obtain ⟨t267,A100,H⟩ := H
 replace H : (if t267 = true then (some true) else (some false)) = some r := H
 have A10 := As_ A100
 clear A100
 by_cases c11 : t267 = true
 ·subst c11
  have H1 : (some true) = some r := by rw [if_pos rfl] at H;exact H
  clear H
  have H := H1
  clear H1
  obtain rfl := Option.some.inj H
  go_enter Try.func6,Try.ntmps6
  go_wp2_with (first|((with_reducible refine gate_callee (f := 15) rfl ?_);refine goesL_ (some 9) rfl rfl Try.func15 (by kernel_rfl) rfl #[.slice A0 l0.length c0,.int .i64 1048576] rfl zM_ ?_;(with_reducible refine (laws_szOpS.calls _ _ l0 1048576 t255 _ ?side1 ?side2 A2.out).mono ?_);(case side1 => repeat (first|exact HR0.out|(with_reducible refine Kd.C_alloc ?_ _)|(with_reducible refine Kd.C_drewN ?_ _)|(with_reducible refine Kd.C_drew ?_)));(case side2 => exact HC0.out);rintro e w' ⟨rfl,⟨nd,rfl⟩⟩;refine ⟨_,rfl,?_⟩)|((with_reducible refine gate_callee (f := 17) rfl ?_);refine goesL_ (some 13) rfl rfl Try.func17 (by kernel_rfl) rfl #[.slice A0 l0.length c0] rfl zM_ ?_;(with_reducible refine (laws_toOpS.calls k _ _ l0 t256 _ ?side1 ?side2 A4.out).mono ?_);(case side1 => repeat (first|exact HR0.out|(with_reducible refine Kd.C_alloc ?_ _)|(with_reducible refine Kd.C_drewN ?_ _)|(with_reducible refine Kd.C_drew ?_)));(case side2 => exact HC0.out);rintro e w12 ⟨v257,rfl,ho0,hb⟩;refine ⟨_,rfl,?_⟩;have n0_ := As_ (Kd.R_lower ho0 (bwZ (zb0 HB.out)));have n1_ := As_ (bwT (zb0 HB.out) hb);clear HB;revert n0_ n1_;intro HO258 HB;obtain ⟨Ao13,co13,eo13⟩ := Kd.R_slice HO258.out;subst eo13)|((with_reducible refine gate_callee (f := 28) rfl ?_);refine goesL_ (some 14) rfl rfl Try.func28 (by kernel_rfl) rfl #[.slice Ao13 t256.length co13] rfl zM_ ?_;(with_reducible refine (spec_PlacesOf.calls k _ _ t256 t259 _ ?side1 ?side2 A5.out).mono ?_);(case side1 => exact zC_ (Kd.R_reads' HO258.out).2.2);(case side2 => exact (Kd.R_reads' HO258.out).2.1);rintro e w14 ⟨rfl,hb⟩;refine ⟨_,rfl,?_⟩;have n0_ := As_ (Kd.R_below (zR_ HO258.out) hb);have n1_ := As_ (bwT (zb0 HB.out) hb);clear HO258 HB;revert n0_ n1_;intro HO258 HB)|((with_reducible refine gate_callee (f := 17) rfl ?_);refine goesL_ (some 16) rfl rfl Try.func17 (by kernel_rfl) rfl #[.slice A0 l0.length c0] rfl zM_ ?_;(with_reducible refine (laws_toOpS.calls k _ _ l0 t260 _ ?side1 ?side2 A6.out).mono ?_);(case side1 => exact zC_ (Kd.C_below HR0.out HB.out));(case side2 => exact HC0.out);rintro e w15 ⟨v261,rfl,ho0,hb⟩;refine ⟨_,rfl,?_⟩;have n0_ := As_ (Kd.R_elder' (zR_ HO258.out) (Kd.R_base ho0) hb);have n1_ := As_ (Kd.R_lower (Kd.R_new' ho0 (Kd.R_lt (zR_ HO258.out))) (bwZ (zb0 HB.out)));have n2_ := As_ (bwT (zb0 HB.out) hb);clear HO258 HB;revert n0_ n1_ n2_;intro HO258 HO262 HB;obtain ⟨Ao16,co16,eo16⟩ := Kd.R_slice HO262.out;subst eo16)|((with_reducible refine gate_callee (f := 29) rfl ?_);refine goesL_ (some 18) rfl rfl Try.func29 (by kernel_rfl) rfl #[.slice Ao16 t260.length co16] rfl zM_ ?_;(with_reducible refine (impl_PlacesOf.calls k _ _ t260 t263 _ ?side1 ?side2 A7.out).mono ?_);(case side1 => exact zC_ (Kd.R_reads' HO262.out).2.2);(case side2 => exact (Kd.R_reads' HO262.out).2.1);rintro e w17 ⟨rfl,hb⟩;refine ⟨_,rfl,?_⟩;have n0_ := As_ (Kd.R_below (zR_ HO258.out) hb);have n1_ := As_ (Kd.R_below (zR_ HO262.out) hb);have n2_ := As_ (bwT (zb0 HB.out) hb);clear HO258 HO262 HB;revert n0_ n1_ n2_;intro HO258 HO262 HB)|((with_reducible refine gate_callee (f := 17) rfl ?_);refine goesL_ (some 24) rfl rfl Try.func17 (by kernel_rfl) rfl #[.slice A0 l0.length c0] rfl zM_ ?_;(with_reducible refine (laws_toOpS.calls k _ _ l0 t264 _ ?side1 ?side2 A9.out).mono ?_);(case side1 => exact zC_ (Kd.C_below HR0.out HB.out));(case side2 => exact HC0.out);rintro e w18 ⟨v265,rfl,ho0,hb⟩;refine ⟨_,rfl,?_⟩;have n0_ := As_ (Kd.R_elder' (zR_ HO258.out) (Kd.R_base ho0) hb);have n1_ := As_ (Kd.R_elder' (zR_ HO262.out) (Kd.R_base ho0) hb);have n2_ := As_ (Kd.R_lower (Kd.R_new' (Kd.R_new' ho0 (Kd.R_lt (zR_ HO258.out))) (Kd.R_lt (zR_ HO262.out))) (bwZ (zb0 HB.out)));have n3_ := As_ (bwT (zb0 HB.out) hb);clear HO258 HO262 HB;revert n0_ n1_ n2_ n3_;intro HO258 HO262 HO266 HB;obtain ⟨Ao19,co19,eo19⟩ := Kd.R_slice HO266.out;subst eo19)|((with_reducible refine gate_callee (f := 19) rfl ?_);refine goesL_ (some 25) rfl rfl Try.func19 (by kernel_rfl) rfl #[.slice Ao16 t260.length co16,.slice Ao19 t264.length co19] rfl zM_ ?_;(with_reducible refine (laws_eqOpS.calls k _ _ t260 _ _ t264 true _ ?side1 ?side2 ?side3 ?side4 A10.out).mono ?_);(case side1 => exact zC_ (Kd.R_reads' HO262.out).2.2);(case side2 => exact (Kd.R_reads' HO262.out).2.1);(case side3 => exact zC_ (Kd.R_reads' HO266.out).2.2);(case side4 => exact (Kd.R_reads' HO266.out).2.1);rintro e w20 ⟨rfl,hb⟩;refine ⟨_,rfl,?_⟩;have n0_ := As_ (Kd.R_below (zR_ HO258.out) hb);have n1_ := As_ (Kd.R_below (zR_ HO262.out) hb);have n2_ := As_ (Kd.R_below (zR_ HO266.out) hb);have n3_ := As_ (bwT (zb0 HB.out) hb);clear HO258 HO262 HO266 HB;revert n0_ n1_ n2_ n3_;intro HO258 HO262 HO266 HB))
  go_ret
  exact ⟨zE_,zb0 HB.out⟩
 replace c11 := Bool.eq_false_iff.mpr c11
 subst c11
 have H1 : (some false) = some r := by rw [if_neg (show ¬ (false = true) by decide)] at H;exact H
 clear H
 have H := H1
 clear H1
 obtain rfl := Option.some.inj H
 go_enter Try.func6,Try.ntmps6
 go_wp2_with (first|((with_reducible refine gate_callee (f := 15) rfl ?_);refine goesL_ (some 9) rfl rfl Try.func15 (by kernel_rfl) rfl #[.slice A0 l0.length c0,.int .i64 1048576] rfl zM_ ?_;(with_reducible refine (laws_szOpS.calls _ _ l0 1048576 t255 _ ?side1 ?side2 A2.out).mono ?_);(case side1 => repeat (first|exact HR0.out|(with_reducible refine Kd.C_alloc ?_ _)|(with_reducible refine Kd.C_drewN ?_ _)|(with_reducible refine Kd.C_drew ?_)));(case side2 => exact HC0.out);rintro e w' ⟨rfl,⟨nd,rfl⟩⟩;refine ⟨_,rfl,?_⟩)|((with_reducible refine gate_callee (f := 17) rfl ?_);refine goesL_ (some 13) rfl rfl Try.func17 (by kernel_rfl) rfl #[.slice A0 l0.length c0] rfl zM_ ?_;(with_reducible refine (laws_toOpS.calls k _ _ l0 t256 _ ?side1 ?side2 A4.out).mono ?_);(case side1 => repeat (first|exact HR0.out|(with_reducible refine Kd.C_alloc ?_ _)|(with_reducible refine Kd.C_drewN ?_ _)|(with_reducible refine Kd.C_drew ?_)));(case side2 => exact HC0.out);rintro e w21 ⟨v257,rfl,ho0,hb⟩;refine ⟨_,rfl,?_⟩;have n0_ := As_ (Kd.R_lower ho0 (bwZ (zb0 HB.out)));have n1_ := As_ (bwT (zb0 HB.out) hb);clear HB;revert n0_ n1_;intro HO258 HB;obtain ⟨Ao22,co22,eo22⟩ := Kd.R_slice HO258.out;subst eo22)|((with_reducible refine gate_callee (f := 28) rfl ?_);refine goesL_ (some 14) rfl rfl Try.func28 (by kernel_rfl) rfl #[.slice Ao22 t256.length co22] rfl zM_ ?_;(with_reducible refine (spec_PlacesOf.calls k _ _ t256 t259 _ ?side1 ?side2 A5.out).mono ?_);(case side1 => exact zC_ (Kd.R_reads' HO258.out).2.2);(case side2 => exact (Kd.R_reads' HO258.out).2.1);rintro e w23 ⟨rfl,hb⟩;refine ⟨_,rfl,?_⟩;have n0_ := As_ (Kd.R_below (zR_ HO258.out) hb);have n1_ := As_ (bwT (zb0 HB.out) hb);clear HO258 HB;revert n0_ n1_;intro HO258 HB)|((with_reducible refine gate_callee (f := 17) rfl ?_);refine goesL_ (some 16) rfl rfl Try.func17 (by kernel_rfl) rfl #[.slice A0 l0.length c0] rfl zM_ ?_;(with_reducible refine (laws_toOpS.calls k _ _ l0 t260 _ ?side1 ?side2 A6.out).mono ?_);(case side1 => exact zC_ (Kd.C_below HR0.out HB.out));(case side2 => exact HC0.out);rintro e w24 ⟨v261,rfl,ho0,hb⟩;refine ⟨_,rfl,?_⟩;have n0_ := As_ (Kd.R_elder' (zR_ HO258.out) (Kd.R_base ho0) hb);have n1_ := As_ (Kd.R_lower (Kd.R_new' ho0 (Kd.R_lt (zR_ HO258.out))) (bwZ (zb0 HB.out)));have n2_ := As_ (bwT (zb0 HB.out) hb);clear HO258 HB;revert n0_ n1_ n2_;intro HO258 HO262 HB;obtain ⟨Ao25,co25,eo25⟩ := Kd.R_slice HO262.out;subst eo25)|((with_reducible refine gate_callee (f := 29) rfl ?_);refine goesL_ (some 18) rfl rfl Try.func29 (by kernel_rfl) rfl #[.slice Ao25 t260.length co25] rfl zM_ ?_;(with_reducible refine (impl_PlacesOf.calls k _ _ t260 t263 _ ?side1 ?side2 A7.out).mono ?_);(case side1 => exact zC_ (Kd.R_reads' HO262.out).2.2);(case side2 => exact (Kd.R_reads' HO262.out).2.1);rintro e w26 ⟨rfl,hb⟩;refine ⟨_,rfl,?_⟩;have n0_ := As_ (Kd.R_below (zR_ HO258.out) hb);have n1_ := As_ (Kd.R_below (zR_ HO262.out) hb);have n2_ := As_ (bwT (zb0 HB.out) hb);clear HO258 HO262 HB;revert n0_ n1_ n2_;intro HO258 HO262 HB)|((with_reducible refine gate_callee (f := 17) rfl ?_);refine goesL_ (some 24) rfl rfl Try.func17 (by kernel_rfl) rfl #[.slice A0 l0.length c0] rfl zM_ ?_;(with_reducible refine (laws_toOpS.calls k _ _ l0 t264 _ ?side1 ?side2 A9.out).mono ?_);(case side1 => exact zC_ (Kd.C_below HR0.out HB.out));(case side2 => exact HC0.out);rintro e w27 ⟨v265,rfl,ho0,hb⟩;refine ⟨_,rfl,?_⟩;have n0_ := As_ (Kd.R_elder' (zR_ HO258.out) (Kd.R_base ho0) hb);have n1_ := As_ (Kd.R_elder' (zR_ HO262.out) (Kd.R_base ho0) hb);have n2_ := As_ (Kd.R_lower (Kd.R_new' (Kd.R_new' ho0 (Kd.R_lt (zR_ HO258.out))) (Kd.R_lt (zR_ HO262.out))) (bwZ (zb0 HB.out)));have n3_ := As_ (bwT (zb0 HB.out) hb);clear HO258 HO262 HB;revert n0_ n1_ n2_ n3_;intro HO258 HO262 HO266 HB;obtain ⟨Ao28,co28,eo28⟩ := Kd.R_slice HO266.out;subst eo28)|((with_reducible refine gate_callee (f := 19) rfl ?_);refine goesL_ (some 25) rfl rfl Try.func19 (by kernel_rfl) rfl #[.slice Ao25 t260.length co25,.slice Ao28 t264.length co28] rfl zM_ ?_;(with_reducible refine (laws_eqOpS.calls k _ _ t260 _ _ t264 false _ ?side1 ?side2 ?side3 ?side4 A10.out).mono ?_);(case side1 => exact zC_ (Kd.R_reads' HO262.out).2.2);(case side2 => exact (Kd.R_reads' HO262.out).2.1);(case side3 => exact zC_ (Kd.R_reads' HO266.out).2.2);(case side4 => exact (Kd.R_reads' HO266.out).2.1);rintro e w29 ⟨rfl,hb⟩;refine ⟨_,rfl,?_⟩;have n0_ := As_ (Kd.R_below (zR_ HO258.out) hb);have n1_ := As_ (Kd.R_below (zR_ HO262.out) hb);have n2_ := As_ (Kd.R_below (zR_ HO266.out) hb);have n3_ := As_ (bwT (zb0 HB.out) hb);clear HO258 HO262 HO266 HB;revert n0_ n1_ n2_ n3_;intro HO258 HO262 HO266 HB))
 go_ret
 exact ⟨zE_,zb0 HB.out⟩
/-- THE ONE PURE STATEMENT of laws_FnExactPlacesOf. -/
def laws_FnExactPlacesOf.Pure : Prop := ∀ (l0 : List (S51)),(l0.length ≤ maxLen ∧ (∀ x_ ∈ l0,(Lit.int .i64 x_.f0).wf = true ∧ (Lit.int .i64 x_.f1).wf = true)) → ∃ k,laws_FnExactPlacesOf.f k l0 = some true
theorem laws_FnExactPlacesOf.walk (P : laws_FnExactPlacesOf.Pure) (A0 : Option Addr) (c0 : Nat) (l0 : List (S51)) (w : World) (hr0 : Kd.C k51 w A0 l0.length l0) (hc0 : l0.length ≤ c0) (hg0 : l0.length ≤ maxLen ∧ (∀ x_ ∈ l0,(Lit.int .i64 x_.f0).wf = true ∧ (Lit.int .i64 x_.f1).wf = true)) :
  Calls Try.prog 6 #[.slice A0 l0.length c0] w fun e w' => e = .returned (.bool true) ∧ Below w.heap.size w w' := by
 obtain ⟨k,h⟩ := P l0 hg0
 refine (laws_FnExactPlacesOf.calls k _ _ l0 true w hr0 hc0 h).mono ?_
 rintro e w' ⟨rfl,hd⟩
 exact ⟨rfl,hd⟩

end Go.Proofs.Ytonppkaobnfldaa.Q
