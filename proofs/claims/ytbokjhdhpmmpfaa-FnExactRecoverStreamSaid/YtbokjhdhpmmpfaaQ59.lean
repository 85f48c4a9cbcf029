-- Written by wip/tools/qprint.py (a program of this claim's author) by means of the kit's printer.
import Derived.Test.YtbokjhdhpmmpfaaQ0
import Derived.Test.YtbokjhdhpmmpfaaQ20
import Derived.Test.YtbokjhdhpmmpfaaQ55
import Derived.Test.YtbokjhdhpmmpfaaQ56
import Derived.Test.YtbokjhdhpmmpfaaQ94
namespace Go.Proofs.Ytbokjhdhpmmpfaa.Q
open Go.RowKit Go.Proofs.YtbokjhdhpmmpfaaW.PrintWords Go.Proofs.YtbokjhdhpmmpfaaW.PrintLast Go.Proofs.YtbokjhdhpmmpfaaW.PrintMore
attribute [local go_sem] max2_int min2_int max_two min_two max_three min_three max_four min_four   -- for this text's walks alone
set_option linter.unusedVariables false
set_option linter.unusedSimpArgs false

/-! ### spec_EncodeOps: function 59 -/
def spec_EncodeOps.l0 : Nat → List (S75) → List Int → Int → Option (List Int)
 | 0,_,_,_ => none
 | k + 1,x0,x3,x4 => if x4 < (x0.length : Int) then (if 0 ≤ x4 then ((spec_bytesOf.f ((rd_T75 x0 x4).f0) ((rd_T75 x0 x4).f1)).bind fun t316 => (if x3.length + t316.length < 17592186044416 then (spec_EncodeOps.l0 k x0 (x3 ++ t316) (wrap64 (x4 + 1))) else (none))) else (none)) else (some x3)
def spec_EncodeOps.f (k : Nat) (l0 : List (S75)) : Option (List Int) := (spec_validOps.f k l0).bind fun t311 => (if t311 = true then (spec_EncodeOps.l0 k l0 (([] : List Int)) 0) else (some ([] : List Int)))
set_option maxRecDepth 100000 in
theorem spec_EncodeOps.mono_l : ∀ k,(∀ y0 y1 y2,LeO (spec_EncodeOps.l0 k y0 y1 y2) (spec_EncodeOps.l0 (k + 1) y0 y1 y2))
 | 0 => fun _ _ _ r h => (by cases h)
 | k + 1 => by
  have ih0 := spec_EncodeOps.mono_l k
  ·intro y0 y1 y2
   unfold spec_EncodeOps.l0
   repeat' first
   | (with_reducible exact ih0 _ _ _)
   | (with_reducible exact spec_validOps.mono _ _)
   | (with_reducible exact LeO.refl _)
   | (with_reducible exact LeO.none _)
   | (with_reducible refine LeO.ite ?_ ?_)
   | (with_reducible refine LeO.bind ?_ (fun _ => ?_))
   | exact ih0 _ _ _
   | exact spec_validOps.mono _ _
   | exact LeO.none _
   | refine LeO.ite ?_ ?_
   | refine LeO.bind ?_ (fun _ => ?_)
set_option maxRecDepth 100000 in
theorem spec_EncodeOps.mono : ∀ a0 k,LeO (spec_EncodeOps.f k a0) (spec_EncodeOps.f (k + 1) a0) := by
 intro a0 k
 have ih0 := spec_EncodeOps.mono_l k
 unfold spec_EncodeOps.f
 repeat' first
   | (with_reducible exact ih0 _ _ _)
   | (with_reducible exact spec_validOps.mono _ _)
   | (with_reducible exact LeO.refl _)
   | (with_reducible exact LeO.none _)
   | (with_reducible refine LeO.ite ?_ ?_)
   | (with_reducible refine LeO.bind ?_ (fun _ => ?_))
   | exact ih0 _ _ _
   | exact spec_validOps.mono _ _
   | exact LeO.none _
   | refine LeO.ite ?_ ?_
   | refine LeO.bind ?_ (fun _ => ?_)
set_option maxHeartbeats 8000000 in
set_option maxRecDepth 100000 in
theorem spec_EncodeOps.calls (k : Nat) (A0 : Option Addr) (c0 : Nat) (l0 : List (S75)) (r : List Int) (w : World) (hr0 : Kd.C k75 w A0 l0.length l0) (hc0 : l0.length ≤ c0) (h : spec_EncodeOps.f k l0 = some r) :
  Calls Try.prog 59 #[.slice A0 l0.length c0] w fun e w' => ∃ v0_ : Value,e = .returned (v0_) ∧ Kd.R (Kd.int .i64) 3 w' w.heap.size (fun _ => True) v0_ r ∧ Below w.heap.size w w' := by
 have hu75 := Try.underlying75
 have HR0 := As_ hr0
 have HC0 := As_ hc0
 clear hr0 hc0
 have HB := As_ (Below.refl w.heap.size w)
 have H : ((spec_validOps.f k l0).bind fun t311 => (if t311 = true then (spec_EncodeOps.l0 k l0 (([] : List Int)) 0) else (some ([] : List Int)))) = some r := h
 clear h
 replace H := obS H
 obtain ⟨t311,A20,H⟩ := H
 replace H : (if t311 = true then (spec_EncodeOps.l0 k l0 (([] : List Int)) 0) else (some ([] : List Int))) = some r := H
 have A2 := As_ A20
 clear A20
 by_cases c3 : t311 = true
 rotate_left
 ·replace c3 := Bool.eq_false_iff.mpr c3
  subst c3
  have H1 : (some ([] : List Int)) = some r := by rw [if_neg (show ¬ (false = true) by decide)] at H;exact H
  clear H
  have H := H1
  clear H1
  obtain rfl := Option.some.inj H
  go_enter Try.func59,Try.ntmps59
  go_wp2_with (first|((with_reducible refine gate_callee (f := 55) rfl ?_);refine goesL_ (some 6) rfl rfl Try.func55 (by kernel_rfl) rfl #[.slice A0 l0.length c0] rfl zM_ ?_;(with_reducible refine (spec_validOps.calls k _ _ l0 false _ ?side1 ?side2 A2.out).mono ?_);(case side1 => repeat (first|exact HR0.out|(with_reducible refine Kd.C_alloc ?_ _)|(with_reducible refine Kd.C_drewN ?_ _)|(with_reducible refine Kd.C_drew ?_)));(case side2 => exact HC0.out);rintro e w14 ⟨rfl,hb⟩;refine ⟨_,rfl,?_⟩;have n0_ := As_ (bwT (zb0 HB.out) hb);clear HB;revert n0_;intro HB))
  go_ret
  exact ⟨_,zE_,by first|exact Kd.R_nil _ _ _ _ _|exact Kd.N_nil _ _ _ _ _|exact Kd.V_nil _ _ _ _ _|exact Kd.Q_nil _ _ _ _ _|exact Kd.S_nil _ _ _ _ _,zb0 HB.out⟩

 subst c3
 have H1 : (spec_EncodeOps.l0 k l0 (([] : List Int)) 0) = some r := by rw [if_pos rfl] at H;exact H
 clear H
 have H := H1
 clear H1
 obtain ⟨y312,hy312⟩ : ∃ y_ : List Int,y_ = (([] : List Int)) := ⟨_,rfl⟩
 replace H : (spec_EncodeOps.l0 k l0 y312 0) = some r := zH_ H hy312
 have Ny312 := As_ hy312
 clear hy312
 have H' := As_ H
 clear H
 go_enter Try.func59,Try.ntmps59
 go_wp2_with (first|((with_reducible refine gate_callee (f := 55) rfl ?_);refine goesL_ (some 6) rfl rfl Try.func55 (by kernel_rfl) rfl #[.slice A0 l0.length c0] rfl zM_ ?_;(with_reducible refine (spec_validOps.calls k _ _ l0 true _ ?side1 ?side2 A2.out).mono ?_);(case side1 => repeat (first|exact HR0.out|(with_reducible refine Kd.C_alloc ?_ _)|(with_reducible refine Kd.C_drewN ?_ _)|(with_reducible refine Kd.C_drew ?_)));(case side2 => exact HC0.out);rintro e w4 ⟨rfl,hb⟩;refine ⟨_,rfl,?_⟩;have n0_ := As_ (bwT (zb0 HB.out) hb);clear HB;revert n0_;intro HB)|((with_reducible refine gate_dst (N := 8) rfl ?_);refine Kd.R_lit (Kd.int .i64) _ 3 ?hg (N := 8) ?hd (xs := ([] : List Int)) (inner := []) (ok := fun _ => True) (okp := fun _ => True) ?hr ?hp (fun _ hk => hk) trivial (Below.refl _ _) (Nat.le_refl _) (by simp) ?_;(case hd => rfl);(case hg => rfl);(case hr => go_simp <;> rfl);(case hp => exact (Reps.none _ _));intro v313 w5 ho6 hb hg_ hnew_;clear hg_ hnew_;(first|rw [← Ny312.out] at ho6|(simp only [Int.reduceToNat] at ho6;rw [← Ny312.out] at ho6));have n0_ := As_ (Kd.R_lower ho6 (bwZ (zb0 HB.out)));have n1_ := As_ (bwT (zb0 HB.out) hb);clear HB;revert n0_ n1_;intro HO314 HB;clear hb ho6))
 go_loopg [3,4] k (fun kq v3 v4 w' => ∃ (x3_1 : List Int) (x4_1 : Int),v4 = .int .i64 x4_1 ∧ Aside0 (spec_EncodeOps.l0 kq l0 x3_1 x4_1 = some r) ∧ Aside0 (kq ≤ k) ∧ Aside0 (Kd.R (Kd.int .i64) 3 w' w.heap.size (fun _ => True) v3 x3_1) ∧ Aside0 (Below w.heap.size w w'))
 case atStart => exact ⟨(y312),(0),zT_,H',⟨Nat.le_refl _⟩,⟨by (with_reducible repeat (first|apply Kd.R_alloc|apply Kd.R_drewN|apply Kd.R_drew));exact HO314.out⟩,⟨zb0 HB.out⟩⟩
 case round =>
  clear H'
  obtain ⟨x3_1,x4_1,rfl,HA,HK1,HO_3,HB⟩ := hrel
  cases gk with
  | zero => exact absurd HA.out (fun h_ => (by cases h_))
  | succ k1 =>
   have H := HA.out
   clear HA
   simp only [spec_EncodeOps.l0] at H
   by_cases c7 : x4_1 < (l0.length : Int)
   rotate_left
   ·rw [if_neg c7] at H
    have c7b0 : decide (x4_1 < (l0.length : Int)) = false := deF c7
    clear c7
    obtain rfl := Option.some.inj H
    go_wp2
    go_ret
    exact ⟨_,zE_,by (with_reducible repeat (first|apply Kd.R_alloc|apply Kd.R_drewN|apply Kd.R_drew));exact HO_3.out,zb0 HB.out⟩
   rw [if_pos c7] at H
   have c7b0 : decide (x4_1 < (l0.length : Int)) = true := deT c7
   clear c7
   by_cases c8 : 0 ≤ x4_1
   rotate_left
   ·rw [if_neg c8] at H
    exact absurd H (by simp)
   rw [if_pos c8] at H
   have c8b0 : decide (0 ≤ x4_1) = true := deT c8
   clear c8
   replace H := obS H
   obtain ⟨t316,A90,H⟩ := H
   replace H : (if x3_1.length + t316.length < 17592186044416 then (spec_EncodeOps.l0 k1 l0 (x3_1 ++ t316) (wrap64 (x4_1 + 1))) else (none)) = some r := H
   have A9 := As_ A90
   clear A90
   by_cases c10 : x3_1.length + t316.length < 17592186044416
   rotate_left
   ·rw [if_neg c10] at H
    exact absurd H (by simp)
   rw [if_pos c10] at H
   have LMc10 := As_ c10
   clear c10
   obtain ⟨y319,hy319⟩ : ∃ y_ : List Int,y_ = (x3_1 ++ t316) := ⟨_,rfl⟩
   replace H : (spec_EncodeOps.l0 k1 l0 y319 (wrap64 (x4_1 + 1))) = some r := zH_ H hy319
   have Ny319 := As_ hy319
   clear hy319
   have H' := As_ H
   clear H
   have p315 : 0 ≤ (x4_1 : Int) := odT zA_
   have q315 : x4_1 < (l0.length : Int) := odT zA_
   obtain ⟨ad315,e315,hx315_0,hx315_1⟩ := at_T75 HR0.out x4_1 p315 q315
   cases e315
   replace hx315_0 := bwC HB.out hx315_0
   replace hx315_1 := bwC HB.out hx315_1
   replace p315 := eq_true p315
   replace q315 := eq_true q315
   go_wp2_with (first|((with_reducible refine gate_callee (f := 94) rfl ?_);refine goesL_ (some 20) rfl rfl Try.func94 (by kernel_rfl) rfl #[.agg #[.int .i64 ((rd_T75 l0 x4_1).f0),.int .i64 ((rd_T75 l0 x4_1).f1)]] rfl zM_ ?_;(with_reducible refine (spec_bytesOf.calls ((rd_T75 l0 x4_1).f0) ((rd_T75 l0 x4_1).f1) t316 _ A9.out).mono ?_);rintro e w11 ⟨v317,rfl,ho0,hb⟩;refine ⟨_,rfl,?_⟩;have n0_ := As_ (Kd.R_elder' (zR_ HO_3.out) (Kd.R_base ho0) hb);have n1_ := As_ (Kd.R_lower (Kd.R_new' ho0 (Kd.R_lt (zR_ HO_3.out))) (bwZ (zb0 HB.out)));have n2_ := As_ (bwT (zb0 HB.out) hb);clear HO_3 HB;revert n0_ n1_ n2_;intro HO_3 HO318 HB;obtain ⟨Ao13,co13,eo13⟩ := Kd.R_slice HO318.out;subst eo13)|((with_reducible refine gate_builtin (b := .append) (xs := #[.tmp 15,.tmp 20]) rfl ?_);at_builtin;refine Kd.R_append_rows (Kd.int .i64) (w0 := w) w.heap.size rfl (.tmp 15) (.tmp 20) 22 3 (.int .i64 0) 8 rfl Try.underlying22 info3 rfl (by decide) (by omega) u3 x3_1 t316 _ _ _ (fun k_ => some k_ ≠ (.slice Ao13 t316.length co13 : Value).ownBlock) (fun _ => False) rfl rfl ?aO ?aR (fun _ _ h => h) (fun _ h => h.elim) ?aF ?aB ?aS ?aL ?_;(case aR => exact zC_ (Kd.R_reads' HO318.out).2.2);(case aB => exact (zb0 HB.out));(case aF => exact (fun k_ hk => Kd.fresh' (Kd.R_lt (zR_ HO318.out)) k_ hk));(case aO => exact (by (with_reducible repeat (first|apply Kd.R_alloc|apply Kd.R_drewN|apply Kd.R_drew));exact Kd.R_mono HO_3.out (fun _ hk => hk.2)));(case aS => exact (bwZ (zb0 HB.out)));(case aL => have := LMc10.out;omega);intro v320 w12 ho hb hg hat;rw [← Ny319.out] at ho;have n0_ := As_ (Kd.R_after (ok := (fun _ => True)) (zR_ HO318.out) hg hat);have n1_ := As_ (hb);have n2_ := As_ (ho);clear HO318 HB HO_3;revert n0_ n1_ n2_;intro HO318 HB HO321;clear ho hb hg hat))
   go_roundg k1
   case measure => have := HK1.out;omega
   case rel => exact ⟨(y319),(wrap64 (x4_1 + 1)),zT_,H',⟨by have := HK1.out;omega⟩,⟨by (with_reducible repeat (first|apply Kd.R_alloc|apply Kd.R_drewN|apply Kd.R_drew));exact Kd.R_mono HO321.out (fun _ hk => trivial)⟩,⟨zb0 HB.out⟩⟩
/-! ### spec_StreamBytes: function 21 -/
mutual
def spec_StreamBytes.j0 : Nat → List (S75) → Int → Bool → Option (List Int)
 | 0,_,_,_ => none
 | k + 1,x0,x1,x15 => if x15 = true then (some ([] : List Int)) else ((spec_SplitStops.f k x0).bind fun t327 => (spec_StreamBytes.l0 k x1 (([] : List Int)) t327 0))
def spec_StreamBytes.l0 : Nat → Int → List Int → List (List (S75)) → Int → Option (List Int)
 | 0,_,_,_,_ => none
 | k + 1,x1,x5,x6,x7 => if x7 < (x6.length : Int) then (if 0 ≤ x7 then ((spec_EncodeOps.f k (rd_L6 x6 x7)).bind fun t331 => ((spec_FrameBytes.f k t331 x1).bind fun t334 => (if x5.length + t334.length < 17592186044416 then (spec_StreamBytes.l0 k x1 (x5 ++ t334) x6 (wrap64 (x7 + 1))) else (none)))) else (none)) else (if (x5.length : Int) > 2000 then (some ([] : List Int)) else (some x5))
end
def spec_StreamBytes.f (k : Nat) (l0 : List (S75)) (a1 : Int) : Option (List Int) := (spec_validOps.f k l0).bind fun t322 => (if t322 = true then ((spec_inRange.f a1 1 200).bind fun t323 => (spec_StreamBytes.j0 k l0 a1 (!t323))) else (spec_StreamBytes.j0 k l0 a1 true))
set_option maxRecDepth 100000 in
theorem spec_StreamBytes.mono_l : ∀ k,(∀ y0 y1 y2,LeO (spec_StreamBytes.j0 k y0 y1 y2) (spec_StreamBytes.j0 (k + 1) y0 y1 y2)) ∧ (∀ y0 y1 y2 y3,LeO (spec_StreamBytes.l0 k y0 y1 y2 y3) (spec_StreamBytes.l0 (k + 1) y0 y1 y2 y3))
 | 0 => ⟨fun _ _ _ r h => (by cases h),fun _ _ _ _ r h => (by cases h)⟩
 | k + 1 => by
  obtain ⟨ih0,ih1⟩ := spec_StreamBytes.mono_l k
  refine ⟨?_,?_⟩
  ·intro y0 y1 y2
   unfold spec_StreamBytes.j0
   repeat' first
   | (with_reducible exact ih0 _ _ _)
   | (with_reducible exact ih1 _ _ _ _)
   | (with_reducible exact spec_EncodeOps.mono _ _)
   | (with_reducible exact spec_FrameBytes.mono _ _ _)
   | (with_reducible exact spec_SplitStops.mono _ _)
   | (with_reducible exact spec_validOps.mono _ _)
   | (with_reducible exact LeO.refl _)
   | (with_reducible exact LeO.none _)
   | (with_reducible refine LeO.ite ?_ ?_)
   | (with_reducible refine LeO.bind ?_ (fun _ => ?_))
   | exact ih0 _ _ _
   | exact ih1 _ _ _ _
   | exact spec_EncodeOps.mono _ _
   | exact spec_FrameBytes.mono _ _ _
   | exact spec_SplitStops.mono _ _
   | exact spec_validOps.mono _ _
   | exact LeO.none _
   | refine LeO.ite ?_ ?_
   | refine LeO.bind ?_ (fun _ => ?_)
  ·intro y0 y1 y2 y3
   unfold spec_StreamBytes.l0
   repeat' first
   | (with_reducible exact ih0 _ _ _)
   | (with_reducible exact ih1 _ _ _ _)
   | (with_reducible exact spec_EncodeOps.mono _ _)
   | (with_reducible exact spec_FrameBytes.mono _ _ _)
   | (with_reducible exact spec_SplitStops.mono _ _)
   | (with_reducible exact spec_validOps.mono _ _)
   | (with_reducible exact LeO.refl _)
   | (with_reducible exact LeO.none _)
   | (with_reducible refine LeO.ite ?_ ?_)
   | (with_reducible refine LeO.bind ?_ (fun _ => ?_))
   | exact ih0 _ _ _
   | exact ih1 _ _ _ _
   | exact spec_EncodeOps.mono _ _
   | exact spec_FrameBytes.mono _ _ _
   | exact spec_SplitStops.mono _ _
   | exact spec_validOps.mono _ _
   | exact LeO.none _
   | refine LeO.ite ?_ ?_
   | refine LeO.bind ?_ (fun _ => ?_)
set_option maxRecDepth 100000 in
theorem spec_StreamBytes.mono : ∀ a0 a1 k,LeO (spec_StreamBytes.f k a0 a1) (spec_StreamBytes.f (k + 1) a0 a1) := by
 intro a0 a1 k
 obtain ⟨ih0,ih1⟩ := spec_StreamBytes.mono_l k
 unfold spec_StreamBytes.f
 repeat' first
   | (with_reducible exact ih0 _ _ _)
   | (with_reducible exact ih1 _ _ _ _)
   | (with_reducible exact spec_EncodeOps.mono _ _)
   | (with_reducible exact spec_FrameBytes.mono _ _ _)
   | (with_reducible exact spec_SplitStops.mono _ _)
   | (with_reducible exact spec_validOps.mono _ _)
   | (with_reducible exact LeO.refl _)
   | (with_reducible exact LeO.none _)
   | (with_reducible refine LeO.ite ?_ ?_)
   | (with_reducible refine LeO.bind ?_ (fun _ => ?_))
   | exact ih0 _ _ _
   | exact ih1 _ _ _ _
   | exact spec_EncodeOps.mono _ _
   | exact spec_FrameBytes.mono _ _ _
   | exact spec_SplitStops.mono _ _
   | exact spec_validOps.mono _ _
   | exact LeO.none _
   | refine LeO.ite ?_ ?_
   | refine LeO.bind ?_ (fun _ => ?_)
set_option maxHeartbeats 8000000 in
set_option maxRecDepth 100000 in
theorem spec_StreamBytes.calls (k : Nat) (A0 : Option Addr) (c0 : Nat) (l0 : List (S75)) (a1 : Int) (r : List Int) (w : World) (hr0 : Kd.C k75 w A0 l0.length l0) (hc0 : l0.length ≤ c0) (h : spec_StreamBytes.f k l0 a1 = some r) :
  Calls Try.prog 21 #[.slice A0 l0.length c0,.int .i64 a1] w fun e w' => ∃ v0_ : Value,e = .returned (v0_) ∧ Kd.R (Kd.int .i64) 3 w' w.heap.size (fun _ => True) v0_ r ∧ Below w.heap.size w w' := by
 have HR0 := As_ hr0
 have HC0 := As_ hc0
 clear hr0 hc0
 have HB := As_ (Below.refl w.heap.size w)
 have H : ((spec_validOps.f k l0).bind fun t322 => (if t322 = true then ((spec_inRange.f a1 1 200).bind fun t323 => (spec_StreamBytes.j0 k l0 a1 (!t323))) else (spec_StreamBytes.j0 k l0 a1 true))) = some r := h
 clear h
 have HC3 := As_ H
 clear H
 go_enter Try.func21,Try.ntmps21
 go_upto_region 1 with (fail)
 go_cut [15] (fun v15 wc => ∃ (kq : Nat) (x15_2 : Bool),v15 = .bool x15_2 ∧ Aside0 (spec_StreamBytes.j0 kq l0 a1 x15_2 = some r) ∧ Aside0 (kq ≤ k) ∧ Aside0 (Below w.heap.size w wc))
 case first =>
  have H := HC3.out
  clear HC3
  replace H := obS H
  obtain ⟨t322,A40,H⟩ := H
  replace H : (if t322 = true then ((spec_inRange.f a1 1 200).bind fun t323 => (spec_StreamBytes.j0 k l0 a1 (!t323))) else (spec_StreamBytes.j0 k l0 a1 true)) = some r := H
  have A4 := As_ A40
  clear A40
  by_cases c5 : t322 = true
  rotate_left
  ·replace c5 := Bool.eq_false_iff.mpr c5
   subst c5
   have H1 : (spec_StreamBytes.j0 k l0 a1 true) = some r := by rw [if_neg (show ¬ (false = true) by decide)] at H;exact H
   clear H
   have H := H1
   clear H1
   have H' := As_ H
   clear H
   go_wp2_with (first|((with_reducible refine gate_callee (f := 55) rfl ?_);refine goesL_ (some 9) rfl rfl Try.func55 (by kernel_rfl) rfl #[.slice A0 l0.length c0] rfl zM_ ?_;(with_reducible refine (spec_validOps.calls k _ _ l0 false _ ?side1 ?side2 A4.out).mono ?_);(case side1 => exact zC_ (Kd.C_below HR0.out HB.out));(case side2 => exact HC0.out);rintro e w8 ⟨rfl,hb⟩;refine ⟨_,rfl,?_⟩;have n0_ := As_ (bwT (zb0 HB.out) hb);clear HB;revert n0_;intro HB))
   go_meet
   case rel => exact ⟨_,(true),zT_,H',⟨by first|omega|exact Nat.le_refl _⟩,⟨zb0 HB.out⟩⟩
  subst c5
  have H1 : ((spec_inRange.f a1 1 200).bind fun t323 => (spec_StreamBytes.j0 k l0 a1 (!t323))) = some r := by rw [if_pos rfl] at H;exact H
  clear H
  have H := H1
  clear H1
  replace H := obS H
  obtain ⟨t323,A60,H⟩ := H
  replace H : (spec_StreamBytes.j0 k l0 a1 (!t323)) = some r := H
  have A6 := As_ A60
  clear A60
  have H' := As_ H
  clear H
  go_wp2_with (first|((with_reducible refine gate_callee (f := 55) rfl ?_);refine goesL_ (some 9) rfl rfl Try.func55 (by kernel_rfl) rfl #[.slice A0 l0.length c0] rfl zM_ ?_;(with_reducible refine (spec_validOps.calls k _ _ l0 true _ ?side1 ?side2 A4.out).mono ?_);(case side1 => exact zC_ (Kd.C_below HR0.out HB.out));(case side2 => exact HC0.out);rintro e w7 ⟨rfl,hb⟩;refine ⟨_,rfl,?_⟩;have n0_ := As_ (bwT (zb0 HB.out) hb);clear HB;revert n0_;intro HB)|(go_at_call 56;(with_reducible refine (spec_inRange.calls a1 1 200 t323 _ A6.out).mono ?_);rintro e w' ⟨rfl,⟨nd,rfl⟩⟩))
  go_meet
  case rel => exact ⟨_,(!t323),zT_,H',⟨by first|omega|exact Nat.le_refl _⟩,⟨zb0 HB.out⟩⟩
 case rest =>
  clear HC3
  obtain ⟨kq,x15_2,rfl,HA,HJ2,HB⟩ := hcut
  cases kq with
  | zero => exact absurd HA.out (fun h_ => (by cases h_))
  | succ kj2 =>
   have H := HA.out
   clear HA
   simp only [spec_StreamBytes.j0] at H
   by_cases c9 : x15_2 = true
   ·subst c9
    have H1 : (some ([] : List Int)) = some r := by rw [if_pos rfl] at H;exact H
    clear H
    have H := H1
    clear H1
    obtain rfl := Option.some.inj H
    go_wp2
    go_ret
    exact ⟨_,zE_,by first|exact Kd.R_nil _ _ _ _ _|exact Kd.N_nil _ _ _ _ _|exact Kd.V_nil _ _ _ _ _|exact Kd.Q_nil _ _ _ _ _|exact Kd.S_nil _ _ _ _ _,zb0 HB.out⟩
   replace c9 := Bool.eq_false_iff.mpr c9
   subst c9
   have H1 : ((spec_SplitStops.f kj2 l0).bind fun t327 => (spec_StreamBytes.l0 kj2 a1 (([] : List Int)) t327 0)) = some r := by rw [if_neg (show ¬ (false = true) by decide)] at H;exact H
   clear H
   have H := H1
   clear H1
   obtain ⟨y324,hy324⟩ : ∃ y_ : List Int,y_ = (([] : List Int)) := ⟨_,rfl⟩
   replace H : ((spec_SplitStops.f kj2 l0).bind fun t327 => (spec_StreamBytes.l0 kj2 a1 y324 t327 0)) = some r := zH_ H hy324
   have Ny324 := As_ hy324
   clear hy324
   replace H := obS H
   obtain ⟨t327,A100,H⟩ := H
   replace H : (spec_StreamBytes.l0 kj2 a1 y324 t327 0) = some r := H
   have A10 := As_ A100
   clear A100
   have H' := As_ H
   clear H
   go_wp2_with (first|((with_reducible refine gate_dst (N := 16) rfl ?_);refine Kd.R_lit (Kd.int .i64) _ 3 ?hg (N := 16) ?hd (xs := ([] : List Int)) (inner := []) (ok := fun _ => True) (okp := fun _ => True) ?hr ?hp (fun _ hk => hk) trivial (Below.refl _ _) (Nat.le_refl _) (by simp) ?_;(case hd => rfl);(case hg => rfl);(case hr => go_simp <;> rfl);(case hp => exact (Reps.none _ _));intro v325 w11 ho12 hb hg_ hnew_;clear hg_ hnew_;(first|rw [← Ny324.out] at ho12|(simp only [Int.reduceToNat] at ho12;rw [← Ny324.out] at ho12));have n0_ := As_ (Kd.R_lower ho12 (bwZ (zb0 HB.out)));have n1_ := As_ (bwT (zb0 HB.out) hb);clear HB;revert n0_ n1_;intro HO326 HB;clear hb ho12)|((with_reducible refine gate_callee (f := 57) rfl ?_);refine goesL_ (some 18) rfl rfl Try.func57 (by kernel_rfl) rfl #[.slice A0 l0.length c0] rfl zM_ ?_;(with_reducible refine (spec_SplitStops.calls kj2 _ _ l0 t327 _ ?side1 ?side2 A10.out).mono ?_);(case side1 => exact zC_ (Kd.C_below HR0.out HB.out));(case side2 => exact HC0.out);rintro e w13 ⟨v328,rfl,ho0,hb⟩;refine ⟨_,rfl,?_⟩;have n0_ := As_ (Kd.R_below (zR_ HO326.out) hb);have n1_ := As_ (Kd.S_lower ho0 (bwZ (zb0 HB.out)));have n2_ := As_ (bwT (zb0 HB.out) hb);clear HO326 HB;revert n0_ n1_ n2_;intro HO326 HO329 HB))
   go_loopg [5,7] kj2 (fun kq v5 v7 w' => ∃ (x5_2 : List Int) (x7_2 : Int),v7 = .int .i64 x7_2 ∧ Aside0 (spec_StreamBytes.l0 kq a1 x5_2 t327 x7_2 = some r) ∧ Aside0 (kq ≤ kj2) ∧ Aside0 (Kd.R (Kd.int .i64) 3 w' w.heap.size (fun _ => True) v5 x5_2) ∧ Aside0 (Kd.S (Kd.slice 75 k75) 23 w' w.heap.size (fun _ => True) v328 t327) ∧ Aside0 (Below w.heap.size w w'))
   case atStart => exact ⟨(y324),(0),zT_,H',⟨Nat.le_refl _⟩,⟨by (with_reducible repeat (first|apply Kd.R_alloc|apply Kd.R_drewN|apply Kd.R_drew));exact HO326.out⟩,⟨by (with_reducible repeat (first|apply Kd.S_alloc|apply Kd.S_drewN|apply Kd.S_drew));exact HO329.out⟩,⟨zb0 HB.out⟩⟩
   case round =>
    clear H'
    obtain ⟨x5_2,x7_2,rfl,HA,HK2,HO_5,HO_6,HB⟩ := hrel
    cases gk with
    | zero => exact absurd HA.out (fun h_ => (by cases h_))
    | succ k2 =>
     have H := HA.out
     clear HA
     simp only [spec_StreamBytes.l0] at H
     by_cases c14 : x7_2 < (t327.length : Int)
     rotate_left
     ·rw [if_neg c14] at H
      have c14b0 : decide (x7_2 < (t327.length : Int)) = false := deF c14
      clear c14
      by_cases c25 : (x5_2.length : Int) > 2000
      ·rw [if_pos c25] at H
       have c25b0 : decide (2000 < (x5_2.length : Int)) = true := deT c25
       have c25b1 : decide (2000 < x5_2.length) = true := deT (by omega)
       clear c25
       obtain rfl := Option.some.inj H
       obtain ⟨Ao26,co26,eo26⟩ := Kd.S_slice HO_6.out
       subst eo26
       obtain ⟨Ao27,co27,eo27⟩ := Kd.R_slice HO_5.out
       subst eo27
       go_wp2
       go_ret
       exact ⟨_,zE_,by first|exact Kd.R_nil _ _ _ _ _|exact Kd.N_nil _ _ _ _ _|exact Kd.V_nil _ _ _ _ _|exact Kd.Q_nil _ _ _ _ _|exact Kd.S_nil _ _ _ _ _,zb0 HB.out⟩
      rw [if_neg c25] at H
      have c25b0 : decide (2000 < (x5_2.length : Int)) = false := deF c25
      have c25b1 : decide (2000 < x5_2.length) = false := deF (by omega)
      clear c25
      obtain rfl := Option.some.inj H
      obtain ⟨Ao28,co28,eo28⟩ := Kd.S_slice HO_6.out
      subst eo28
      obtain ⟨Ao29,co29,eo29⟩ := Kd.R_slice HO_5.out
      subst eo29
      go_wp2
      go_ret
      exact ⟨_,zE_,by (with_reducible repeat (first|apply Kd.R_alloc|apply Kd.R_drewN|apply Kd.R_drew));exact HO_5.out,zb0 HB.out⟩

     rw [if_pos c14] at H
     have c14b0 : decide (x7_2 < (t327.length : Int)) = true := deT c14
     clear c14
     by_cases c15 : 0 ≤ x7_2
     rotate_left
     ·rw [if_neg c15] at H
      exact absurd H (by simp)
     rw [if_pos c15] at H
     have c15b0 : decide (0 ≤ x7_2) = true := deT c15
     clear c15
     replace H := obS H
     obtain ⟨t331,A160,H⟩ := H
     replace H : ((spec_FrameBytes.f k2 t331 a1).bind fun t334 => (if x5_2.length + t334.length < 17592186044416 then (spec_StreamBytes.l0 k2 a1 (x5_2 ++ t334) t327 (wrap64 (x7_2 + 1))) else (none))) = some r := H
     have A16 := As_ A160
     clear A160
     replace H := obS H
     obtain ⟨t334,A170,H⟩ := H
     replace H : (if x5_2.length + t334.length < 17592186044416 then (spec_StreamBytes.l0 k2 a1 (x5_2 ++ t334) t327 (wrap64 (x7_2 + 1))) else (none)) = some r := H
     have A17 := As_ A170
     clear A170
     by_cases c18 : x5_2.length + t334.length < 17592186044416
     rotate_left
     ·rw [if_neg c18] at H
      exact absurd H (by simp)
     rw [if_pos c18] at H
     have LMc18 := As_ c18
     clear c18
     obtain ⟨y337,hy337⟩ : ∃ y_ : List Int,y_ = (x5_2 ++ t334) := ⟨_,rfl⟩
     replace H : (spec_StreamBytes.l0 k2 a1 y337 t327 (wrap64 (x7_2 + 1))) = some r := zH_ H hy337
     have Ny337 := As_ hy337
     clear hy337
     have H' := As_ H
     clear H
     obtain ⟨Ao19,co19,eo19⟩ := Kd.S_slice HO_6.out
     subst eo19
     have p330 : 0 ≤ (x7_2 : Int) := odT zA_
     have q330 : x7_2 < (t327.length : Int) := odT zA_
     obtain ⟨ad330,A330_0,c330_0,e330,hx330_0,hl330_0,hi330_0⟩ := at_L6 (Kd.S_reads' HO_6.out).2.2 x7_2 p330 q330
     cases e330
     obtain ⟨ce330,hce330,hMe330,hcc330⟩ := Kd.S_get HO_6.out [] x7_2 p330 (by first|exact q330|exact odT zA_|(have e_ := (Kd.S_reads' HO_6.out).1;omega))
     obtain ⟨ve330_0,rfl,ge330_0⟩ := hMe330
     have hv330_0 := hcc330 0 _ rfl
     rw [Nat.add_zero,show ((Kd.slice 75 k75)).sz = 1 from rfl,Nat.mul_one] at hv330_0
     replace hv330_0 := Option.some.inj (hv330_0.symm.trans hx330_0)
     rw [hv330_0] at ge330_0
     have HL330_0 := As_ (show Kd.R k75 75 _ _ _ _ (rd_L6 t327 x7_2) from ge330_0)
     clear hv330_0 ge330_0 hcc330 hce330
     have HR330_0 := As_ hi330_0
     have HC330_0 := As_ hl330_0
     clear hi330_0 hl330_0
     replace p330 := eq_true p330
     replace q330 := eq_true q330
     go_wp2_with (first|((with_reducible refine gate_callee (f := 59) rfl ?_);refine goesL_ (some 30) rfl rfl Try.func59 (by kernel_rfl) rfl #[.slice A330_0 (rd_L6 t327 x7_2).length c330_0] rfl zM_ ?_;(with_reducible refine (spec_EncodeOps.calls k2 _ _ (rd_L6 t327 x7_2) t331 _ ?side1 ?side2 A16.out).mono ?_);(case side1 => repeat (first|exact (by repeat (first|(with_reducible exact HR330_0.out)|(with_reducible refine Kd.C_alloc ?_ _)|(with_reducible refine Kd.C_drewN ?_ _)|(with_reducible refine Kd.C_drew ?_)|exact HR330_0.out))|(with_reducible refine Kd.C_alloc ?_ _)|(with_reducible refine Kd.C_drewN ?_ _)|(with_reducible refine Kd.C_drew ?_)));(case side2 => exact HC330_0.out);rintro e w20 ⟨v332,rfl,ho0,hb⟩;refine ⟨_,rfl,?_⟩;have n0_ := As_ (Kd.R_elder' (zR_ HO_5.out) (Kd.R_base ho0) hb);have n1_ := As_ (Kd.S_below (zS_ HO_6.out) hb);have n2_ := As_ (Kd.R_below (zR_ HL330_0.out) hb);have n3_ := As_ (Kd.R_lower (Kd.R_new' ho0 (Kd.R_lt (zR_ HO_5.out))) (bwZ (zb0 HB.out)));have n4_ := As_ (Kd.C_below (by repeat (first|(with_reducible exact HR330_0.out)|(with_reducible refine Kd.C_alloc ?_ _)|(with_reducible refine Kd.C_drewN ?_ _)|(with_reducible refine Kd.C_drew ?_)|exact HR330_0.out)) hb);have n5_ := As_ (bwT (zb0 HB.out) hb);clear HO_5 HO_6 HL330_0 HR330_0 HB;revert n0_ n1_ n2_ n3_ n4_ n5_;intro HO_5 HO_6 HL330_0 HO333 HR330_0 HB;obtain ⟨Ao21,co21,eo21⟩ := Kd.R_slice HO333.out;subst eo21)|((with_reducible refine gate_callee (f := 58) rfl ?_);refine goesL_ (some 32) rfl rfl Try.func58 (by kernel_rfl) rfl #[.slice Ao21 t331.length co21,.int .i64 a1] rfl zM_ ?_;(with_reducible refine (spec_FrameBytes.calls k2 _ _ t331 a1 t334 _ ?side1 ?side2 A17.out).mono ?_);(case side1 => exact zC_ (Kd.R_reads' HO333.out).2.2);(case side2 => exact (Kd.R_reads' HO333.out).2.1);rintro e w22 ⟨v335,rfl,ho0,hb⟩;refine ⟨_,rfl,?_⟩;have n0_ := As_ (Kd.R_elder' (zR_ HO_5.out) (Kd.R_base ho0) hb);have n1_ := As_ (Kd.S_below (zS_ HO_6.out) hb);have n2_ := As_ (Kd.R_below (zR_ HL330_0.out) hb);have n3_ := As_ (Kd.R_elder' (zR_ HO333.out) (Kd.R_base ho0) hb);have n4_ := As_ (Kd.R_lower (Kd.R_new' (Kd.R_new' ho0 (Kd.R_lt (zR_ HO_5.out))) (Kd.R_lt (zR_ HO333.out))) (bwZ (zb0 HB.out)));have n5_ := As_ (Kd.C_below (by repeat (first|(with_reducible exact HR330_0.out)|(with_reducible refine Kd.C_alloc ?_ _)|(with_reducible refine Kd.C_drewN ?_ _)|(with_reducible refine Kd.C_drew ?_)|exact HR330_0.out)) hb);have n6_ := As_ (bwT (zb0 HB.out) hb);clear HO_5 HO_6 HL330_0 HO333 HR330_0 HB;revert n0_ n1_ n2_ n3_ n4_ n5_ n6_;intro HO_5 HO_6 HL330_0 HO333 HO336 HR330_0 HB;obtain ⟨Ao24,co24,eo24⟩ := Kd.R_slice HO336.out;subst eo24)|((with_reducible refine gate_builtin (b := .append) (xs := #[.tmp 25,.tmp 32]) rfl ?_);at_builtin;refine Kd.R_append_rows (Kd.int .i64) (w0 := w) w.heap.size rfl (.tmp 25) (.tmp 32) 22 3 (.int .i64 0) 8 rfl Try.underlying22 info3 rfl (by decide) (by omega) u5 x5_2 t334 _ _ _ (fun k_ => some k_ ≠ (.slice Ao21 t331.length co21 : Value).ownBlock ∧ some k_ ≠ (.slice Ao24 t334.length co24 : Value).ownBlock) (fun _ => False) rfl rfl ?aO ?aR (fun _ _ h => h) (fun _ h => h.elim) ?aF ?aB ?aS ?aL ?_;(case aR => exact zC_ (Kd.R_reads' HO336.out).2.2);(case aB => exact (zb0 HB.out));(case aF => exact (fun k_ hk => ⟨Kd.fresh' (Kd.R_lt (zR_ HO333.out)) k_ hk,Kd.fresh' (Kd.R_lt (zR_ HO336.out)) k_ hk⟩));(case aO => exact (by (with_reducible repeat (first|apply Kd.R_alloc|apply Kd.R_drewN|apply Kd.R_drew));exact Kd.R_mono HO_5.out (fun _ hk => ⟨hk.1.2,hk.2⟩)));(case aS => exact (bwZ (zb0 HB.out)));(case aL => have := LMc18.out;omega);intro v338 w23 ho hb hg hat;rw [← Ny337.out] at ho;have n0_ := As_ (Kd.S_over' (zS_ HO_6.out) (Kd.R_typed (zR_ HO_5.out)) (by decide) hg);have n1_ := As_ (Kd.R_over' (zR_ HL330_0.out) (Kd.R_typed (zR_ HO_5.out)) (by decide) hg);have n2_ := As_ (Kd.R_after (ok := (fun k_ => some k_ ≠ (.slice Ao24 t334.length co24 : Value).ownBlock)) (by (with_reducible repeat (first|apply Kd.R_alloc|apply Kd.R_drewN|apply Kd.R_drew));exact Kd.R_mono HO333.out (fun _ hk => ⟨hk.2,hk.1.2⟩)) hg hat);have n3_ := As_ (Kd.R_after (ok := (fun k_ => some k_ ≠ (.slice Ao21 t331.length co21 : Value).ownBlock)) (by (with_reducible repeat (first|apply Kd.R_alloc|apply Kd.R_drewN|apply Kd.R_drew));exact Kd.R_mono HO336.out (fun _ hk => ⟨hk.2,hk.1.2⟩)) hg hat);have n4_ := As_ (hb);have n5_ := As_ (ho);clear HO_6 HL330_0 HO333 HO336 HB HO_5;revert n0_ n1_ n2_ n3_ n4_ n5_;intro HO_6 HL330_0 HO333 HO336 HB HO339;clear ho hb hg hat))
     go_roundg k2
     case measure => have := HJ2.out;have := HK2.out;omega
     case rel => exact ⟨(y337),(wrap64 (x7_2 + 1)),zT_,H',⟨by have := HJ2.out;have := HK2.out;omega⟩,⟨by (with_reducible repeat (first|apply Kd.R_alloc|apply Kd.R_drewN|apply Kd.R_drew));exact Kd.R_mono HO339.out (fun _ hk => trivial)⟩,⟨by (with_reducible repeat (first|apply Kd.S_alloc|apply Kd.S_drewN|apply Kd.S_drew));exact HO_6.out⟩,⟨zb0 HB.out⟩⟩
/-! ### laws_toOp: function 60 -/
def laws_toOp.f (a0_0 : Int) (a0_1 : Int) : Option (Int × Int) := some (a0_0,a0_1)
set_option maxHeartbeats 8000000 in
set_option maxRecDepth 100000 in
theorem laws_toOp.calls (a0_0 : Int) (a0_1 : Int) (r1 : Int) (r2 : Int) (w : World) (h : laws_toOp.f a0_0 a0_1 = some (r1,r2)) :
  Calls Try.prog 60 #[.agg #[.int .i64 a0_0,.int .i64 a0_1]] w fun e w' => e = .returned (.agg #[.int .i64 r1,.int .i64 r2]) ∧ Below w.heap.size w w' := by
 have hu86 := Try.underlying86
 have hu75 := Try.underlying75
 have HB := As_ (Below.refl w.heap.size w)
 have H : (some (a0_0,a0_1)) = some (r1,r2) := h
 clear h
 simp only [Option.some.injEq,Prod.mk.injEq] at H
 obtain ⟨rfl,rfl⟩ := H
 go_enter Try.func60,Try.ntmps60
 go_wp2_with (first|((with_reducible refine gate_dst (N := 1) rfl ?_);refine box_event ?hg (N := 1) ?hd (cs := #[.int .i64 a0_0,.int .i64 a0_1]) (t := 86) ?hr ?_;(case hd => rfl);(case hg => rfl);(case hr => go_simp <;> rfl);intro gb340 hg w2 hbox hb;have n0_ := As_ (bwT (zb0 HB.out) hb);have n1_ := As_ (hbox);have n2_ := As_ ((by rw [hg];exact (bwZ (zb0 HB.out)) : w.heap.size ≤ gb340));have n3_ := As_ ((by rw [hg];exact (bwZ (zb0 HB.out)) : w.heap.size ≤ gb340));clear HB;revert n0_ n1_ n2_ n3_;intro HB BK340 GW340 GE340;clear hb hbox hg)|((with_reducible refine gate_dst (N := 2) rfl ?_);refine box_event ?hg (N := 2) ?hd (cs := #[.int .i64 0,.int .i64 0]) (t := 75) ?hr ?_;(case hd => rfl);(case hg => rfl);(case hr => go_simp <;> rfl);intro gb341 hg w3 hbox hb;have n0_ := As_ (zkb BK340.out hb);have n1_ := As_ (bwT (zb1 HB.out GE340.out) hb);have n2_ := As_ (hbox);have n3_ := As_ ((by rw [hg];exact (bwZ (zb1 HB.out GE340.out)) : w.heap.size ≤ gb341));have n4_ := As_ ((by rw [hg];exact (bwZ (zb1 HB.out GE340.out)) : w.heap.size ≤ gb341));have n5_ := As_ ((by rw [hg];exact Nat.ne_of_lt (zkl BK340.out) : gb340 ≠ gb341));have n6_ := As_ ((by rw [hg];exact Nat.ne_of_gt (zkl BK340.out) : gb341 ≠ gb340));clear BK340 HB;revert n0_ n1_ n2_ n3_ n4_ n5_ n6_;intro BK340 HB BK341 GW341 GE341 NB340_341 NB341_340;clear hb hbox hg)|((with_reducible refine gate_dst (N := 3) rfl ?_);refine box_event ?hg (N := 3) ?hd (cs := #[.int .i64 0,.int .i64 0]) (t := 75) ?hr ?_;(case hd => rfl);(case hg => rfl);(case hr => go_simp <;> rfl);intro gb342 hg w4 hbox hb;have n0_ := As_ (zkb BK340.out hb);have n1_ := As_ (zkb BK341.out hb);have n2_ := As_ (bwT (zb2 HB.out GE340.out GE341.out) hb);have n3_ := As_ (hbox);have n4_ := As_ ((by rw [hg];exact (bwZ (zb2 HB.out GE340.out GE341.out)) : w.heap.size ≤ gb342));have n5_ := As_ ((by rw [hg];exact (bwZ (zb2 HB.out GE340.out GE341.out)) : w.heap.size ≤ gb342));have n6_ := As_ ((by rw [hg];exact Nat.ne_of_lt (zkl BK340.out) : gb340 ≠ gb342));have n7_ := As_ ((by rw [hg];exact Nat.ne_of_gt (zkl BK340.out) : gb342 ≠ gb340));have n8_ := As_ ((by rw [hg];exact Nat.ne_of_lt (zkl BK341.out) : gb341 ≠ gb342));have n9_ := As_ ((by rw [hg];exact Nat.ne_of_gt (zkl BK341.out) : gb342 ≠ gb341));clear BK340 BK341 HB;revert n0_ n1_ n2_ n3_ n4_ n5_ n6_ n7_ n8_ n9_;intro BK340 BK341 HB BK342 GW342 GE342 NB340_342 NB342_340 NB341_342 NB342_341;clear hb hbox hg;have hnb5 := NB340_341.out;have hnc5 := NB341_340.out;have hnb6 := NB340_342.out;have hnc6 := NB342_340.out;obtain ⟨hcz7_0,hcz7_1,hfz7_0,hfz7_1⟩ := bk2 BK340.out;have hnb8 := NB342_341.out;have hnc8 := NB341_342.out;obtain ⟨hcz9_0,hcz9_1,hfz9_0,hfz9_1⟩ := bk2 BK342.out;obtain ⟨hcz10_0,hcz10_1,hfz10_0,hfz10_1⟩ := bk2 BK341.out))
 refine bodyPost_ret (results_cell_row rfl _ _ gb341 75 #[.int .i64 a0_0,.int .i64 a0_1] (0,0) _ rfl (by (with_reducible repeat first|apply bkN|apply bkD|apply bkA);refine blk_put (cs := #[.int .i64 a0_0,.int .i64 0]) ?_ 1 _ rfl;(with_reducible repeat first|apply bkN|apply bkD|apply bkA);refine blk_put (cs := #[.int .i64 0,.int .i64 0]) ?_ 0 _ rfl;(with_reducible repeat first|apply bkN|apply bkD|apply bkA);refine blk_far ?_ NB341_342.out _;(with_reducible repeat first|apply bkN|apply bkD|apply bkA);refine blk_far ?_ NB341_342.out _;(with_reducible repeat first|apply bkN|apply bkD|apply bkA);exact BK341.out) Try.underlying75 rfl (by kernel_rfl)) rfl ?_
 exact ⟨zE_,zb3 HB.out GE340.out GE341.out GE342.out⟩

/-! ### laws_toOpS: function 22 -/
def laws_toOpS.l0 : Nat → List (S86) → List (S75) → Int → Option ((List (S75)))
 | 0,_,_,_ => none
 | k + 1,x0,x3,x4 => if x4 < (x0.length : Int) then (if 0 ≤ x4 then ((laws_toOp.f ((rd_T86 x0 x4).f0) ((rd_T86 x0 x4).f1)).bind fun bt347 => (if x4 < (x3.length : Int) then (laws_toOpS.l0 k x0 (x3.set (x4 : Int).toNat (⟨bt347.1,bt347.2⟩ : S75)) (wrap64 (x4 + 1))) else (none))) else (none)) else (some x3)
def laws_toOpS.f (k : Nat) (l0 : List (S86)) : Option ((List (S75))) := if 0 ≤ (l0.length : Int) then (if ((l0.length : Int) : Int).toNat ≤ 17592186044416 then (laws_toOpS.l0 k l0 (List.replicate ((l0.length : Int) : Int).toNat z75) 0) else (none)) else (none)
set_option maxRecDepth 100000 in
theorem laws_toOpS.mono_l : ∀ k,(∀ y0 y1 y2,LeO (laws_toOpS.l0 k y0 y1 y2) (laws_toOpS.l0 (k + 1) y0 y1 y2))
 | 0 => fun _ _ _ r h => (by cases h)
 | k + 1 => by
  have ih0 := laws_toOpS.mono_l k
  ·intro y0 y1 y2
   unfold laws_toOpS.l0
   repeat' first
   | (with_reducible exact ih0 _ _ _)
   | (with_reducible exact LeO.refl _)
   | (with_reducible exact LeO.none _)
   | (with_reducible refine LeO.ite ?_ ?_)
   | (with_reducible refine LeO.bind ?_ (fun _ => ?_))
   | exact ih0 _ _ _
   | exact LeO.none _
   | refine LeO.ite ?_ ?_
   | refine LeO.bind ?_ (fun _ => ?_)
set_option maxRecDepth 100000 in
theorem laws_toOpS.mono : ∀ a0 k,LeO (laws_toOpS.f k a0) (laws_toOpS.f (k + 1) a0) := by
 intro a0 k
 have ih0 := laws_toOpS.mono_l k
 unfold laws_toOpS.f
 repeat' first
   | (with_reducible exact ih0 _ _ _)
   | (with_reducible exact LeO.refl _)
   | (with_reducible exact LeO.none _)
   | (with_reducible refine LeO.ite ?_ ?_)
   | (with_reducible refine LeO.bind ?_ (fun _ => ?_))
   | exact ih0 _ _ _
   | exact LeO.none _
   | refine LeO.ite ?_ ?_
   | refine LeO.bind ?_ (fun _ => ?_)
set_option maxHeartbeats 8000000 in
set_option maxRecDepth 100000 in
theorem laws_toOpS.calls (k : Nat) (A0 : Option Addr) (c0 : Nat) (l0 : List (S86)) (r : List (S75)) (w : World) (hr0 : Kd.C k86 w A0 l0.length l0) (hc0 : l0.length ≤ c0) (h : laws_toOpS.f k l0 = some r) :
  Calls Try.prog 22 #[.slice A0 l0.length c0] w fun e w' => ∃ v0_ : Value,e = .returned (v0_) ∧ Kd.R k75 75 w' w.heap.size (fun _ => True) v0_ r ∧ Below w.heap.size w w' := by
 have hu86 := Try.underlying86
 have hu75 := Try.underlying75
 have HR0 := As_ hr0
 have HC0 := As_ hc0
 clear hr0 hc0
 have HB := As_ (Below.refl w.heap.size w)
 have H : (if 0 ≤ (l0.length : Int) then (if ((l0.length : Int) : Int).toNat ≤ 17592186044416 then (laws_toOpS.l0 k l0 (List.replicate ((l0.length : Int) : Int).toNat z75) 0) else (none)) else (none)) = some r := h
 clear h
 by_cases c2 : 0 ≤ (l0.length : Int)
 rotate_left
 ·rw [if_neg c2] at H
  exact absurd H (by simp)
 rw [if_pos c2] at H
 have c2b0 := eq_true c2
 have c2b1 : decide (0 ≤ (l0.length : Int)) = true := deT c2
 clear c2
 by_cases c3 : ((l0.length : Int) : Int).toNat ≤ 17592186044416
 rotate_left
 ·rw [if_neg c3] at H
  exact absurd H (by simp)
 rw [if_pos c3] at H
 have c3b0 := eq_true c3
 have c3b1 : decide (((l0.length : Int) : Int).toNat ≤ 17592186044416) = true := deT c3
 clear c3
 obtain ⟨y343,hy343⟩ : ∃ y_ : List (S75),y_ = (List.replicate ((l0.length : Int) : Int).toNat z75) := ⟨_,rfl⟩
 replace H : (laws_toOpS.l0 k l0 y343 0) = some r := zH_ H hy343
 have Ny343 := As_ hy343
 clear hy343
 have H' := As_ H
 clear H
 go_enter Try.func22,Try.ntmps22
 go_wp2_with (first|((with_reducible refine gate_dst (N := 7) rfl ?_);refine Kd.R_make k75 _ 75 rfl (N := 7) rfl 23 _ _ rfl (l0.length : Int) rfl rfl Try.underlying23 (.agg #[(.int .i64 0),(.int .i64 0)]) 16 info75 rfl (by decide) (by omega) z75 (ok := fun _ => True) (okp := fun _ => True) (k75_mkM _ _ _ z75 ) (fun _ hk => hk) trivial (odT zA_) (Nat.le_trans (Nat.mul_le_mul_right _ (odT zA_ : (l0.length : Int).toNat ≤ 17592186044416)) (by omega)) (Below.refl _ _) (Nat.le_refl _) ?_;intro v344 w4 ho5 hb hg_ hnew_;clear hg_ hnew_;(first|rw [← Ny343.out] at ho5|(simp only [Int.reduceToNat] at ho5;rw [← Ny343.out] at ho5));have n0_ := As_ (Kd.R_lower ho5 (bwZ (zb0 HB.out)));have n1_ := As_ (bwT (zb0 HB.out) hb);clear HB;revert n0_ n1_;intro HO345 HB;clear hb ho5))
 go_loopg [4] k (fun kq v4 w' => ∃ (x3_1 : List (S75)) (x4_1 : Int),v4 = .int .i64 x4_1 ∧ Aside0 (laws_toOpS.l0 kq l0 x3_1 x4_1 = some r) ∧ Aside0 (kq ≤ k) ∧ Aside0 (Kd.R k75 75 w' w.heap.size (fun _ => True) v344 x3_1) ∧ Aside0 (Below w.heap.size w w'))
 case atStart => exact ⟨(y343),(0),zT_,H',⟨Nat.le_refl _⟩,⟨by (with_reducible repeat (first|apply Kd.R_alloc|apply Kd.R_drewN|apply Kd.R_drew));exact HO345.out⟩,⟨zb0 HB.out⟩⟩
 case round =>
  clear H'
  obtain ⟨x3_1,x4_1,rfl,HA,HK1,HO_3,HB⟩ := hrel
  cases gk with
  | zero => exact absurd HA.out (fun h_ => (by cases h_))
  | succ k1 =>
   have H := HA.out
   clear HA
   simp only [laws_toOpS.l0] at H
   by_cases c6 : x4_1 < (l0.length : Int)
   rotate_left
   ·rw [if_neg c6] at H
    have c6b0 : decide (x4_1 < (l0.length : Int)) = false := deF c6
    clear c6
    obtain rfl := Option.some.inj H
    go_wp2
    go_ret
    exact ⟨_,zE_,by (with_reducible repeat (first|apply Kd.R_alloc|apply Kd.R_drewN|apply Kd.R_drew));exact HO_3.out,zb0 HB.out⟩

   rw [if_pos c6] at H
   have c6b0 : decide (x4_1 < (l0.length : Int)) = true := deT c6
   clear c6
   by_cases c7 : 0 ≤ x4_1
   rotate_left
   ·rw [if_neg c7] at H
    exact absurd H (by simp)
   rw [if_pos c7] at H
   have c7b0 : decide (0 ≤ x4_1) = true := deT c7
   clear c7
   replace H := obS H
   obtain ⟨⟨t347,t348⟩,A80,H⟩ := H
   replace H : (if x4_1 < (x3_1.length : Int) then (laws_toOpS.l0 k1 l0 (x3_1.set (x4_1 : Int).toNat (⟨t347,t348⟩ : S75)) (wrap64 (x4_1 + 1))) else (none)) = some r := H
   have A8 := As_ A80
   clear A80
   by_cases c9 : x4_1 < (x3_1.length : Int)
   rotate_left
   ·rw [if_neg c9] at H
    exact absurd H (by simp)
   rw [if_pos c9] at H
   have c9b0 : decide (x4_1 < (x3_1.length : Int)) = true := deT c9
   clear c9
   obtain ⟨y349,hy349⟩ : ∃ y_ : List (S75),y_ = (x3_1.set (x4_1 : Int).toNat (⟨t347,t348⟩ : S75)) := ⟨_,rfl⟩
   replace H : (laws_toOpS.l0 k1 l0 y349 (wrap64 (x4_1 + 1))) = some r := zH_ H hy349
   have Ny349 := As_ hy349
   clear hy349
   have H' := As_ H
   clear H
   have p346 : 0 ≤ (x4_1 : Int) := odT zA_
   have q346 : x4_1 < (l0.length : Int) := odT zA_
   obtain ⟨ad346,e346,hx346_0,hx346_1⟩ := at_T86 HR0.out x4_1 p346 q346
   cases e346
   replace hx346_0 := bwC HB.out hx346_0
   replace hx346_1 := bwC HB.out hx346_1
   replace p346 := eq_true p346
   replace q346 := eq_true q346
   go_wp2_with (first|((with_reducible refine gate_callee (f := 60) rfl ?_);refine goesL_ (some 20) rfl rfl Try.func60 (by kernel_rfl) rfl #[.agg #[.int .i64 ((rd_T86 l0 x4_1).f0),.int .i64 ((rd_T86 l0 x4_1).f1)]] rfl zM_ ?_;(with_reducible refine (laws_toOp.calls ((rd_T86 l0 x4_1).f0) ((rd_T86 l0 x4_1).f1) t347 t348 _ A8.out).mono ?_);rintro e w11 ⟨rfl,hb⟩;refine ⟨_,rfl,?_⟩;have n0_ := As_ (Kd.R_below (zR_ HO_3.out) hb);have n1_ := As_ (bwT (zb0 HB.out) hb);clear HO_3 HB;revert n0_ n1_;intro HO_3 HB;have p10 : 0 ≤ (x4_1 : Int) := odT zA_;have q10 : (x4_1 : Int) < ((x3_1.length : Int) : Int) := odT zA_;obtain ⟨go10,co10,eo10,gb10,gl10,cl10,HG10⟩ := Kd.R_form HO_3.out (by omega);(first|cases eo10|(injection eo10 with ea_ en_ ec_;(first|subst ea_|(injection ea_ with ea_;subst ea_));subst ec_;clear en_));have GB10 := As_ gb10;have GG10 := As_ HG10;clear gb10 gl10 HG10;obtain ⟨ce10,hcl10,hM10,hcc10,hfr10⟩ := Kd.R_elem HO_3.out z75 (x4_1 : Int) p10 q10;obtain rfl := k75_openM hM10;have hx10_0 : w11.cell? ⟨go10,(x4_1 : Int).toNat * 2,none⟩ = some (.int .i64 ((rd_T75 x3_1 x4_1).f0)) := hcc10 0 _ rfl;have hx10_1 : w11.cell? ⟨go10,(x4_1 : Int).toNat * 2 + 1,none⟩ = some (.int .i64 ((rd_T75 x3_1 x4_1).f1)) := hcc10 1 _ rfl;have hf10_0 : w11.frozen? ⟨go10,(x4_1 : Int).toNat * 2,none⟩ = false := hfr10 0;have hf10_1 : w11.frozen? ⟨go10,(x4_1 : Int).toNat * 2 + 1,none⟩ = false := hfr10 1;clear hcl10 hcc10 hfr10 hM10;replace p10 := eq_true p10;replace q10 := eq_true q10;have HX12 := As_ (show Kd.R k75 75 w11 w.heap.size (fun _ => True) (.slice (some ⟨go10,0,none⟩) x3_1.length co10) x3_1 from (zR_ HO_3.out));obtain ⟨ce12,hcl12,hM12,hcc12,hfr12⟩ := Kd.R_elem HX12.out z75 (x4_1 : Int) (odT zA_) (by have h_ : (x4_1 : Int) < ((x3_1.length : Int) : Int) := odT zA_;first|exact h_|(have e_ := (Kd.R_reads' HO_3.out).1;omega)|simpa using h_);obtain rfl := k75_openM hM12;have HP12 := Kd.R_seg HX12.out (x4_1 : Int) (odT zA_) (by have h_ : (x4_1 : Int) < ((x3_1.length : Int) : Int) := odT zA_;first|exact h_|(have e_ := (Kd.R_reads' HO_3.out).1;omega)|simpa using h_) (seg := [.int .i64 t347,.int .i64 t348]) (j := 0) hcl12 hcc12 (show 2 ≤ 2 from by decide) (x' := (⟨t347,t348⟩ : S75)) (k75_mkM _ _ _ (⟨t347,t348⟩ : S75) ) (fun _ hk => hk);have hx12_0 := hcc12 0 _ rfl;(try simp only [show (k75).sz = 2 from rfl,Nat.mul_one,Nat.add_zero] at hx12_0);have hf12_0 := hfr12 0;(try simp only [show (k75).sz = 2 from rfl,Nat.mul_one,Nat.add_zero] at hf12_0);have hx12_1 := hcc12 1 _ rfl;(try simp only [show (k75).sz = 2 from rfl,Nat.mul_one,Nat.add_zero] at hx12_1);have hf12_1 := hfr12 1;(try simp only [show (k75).sz = 2 from rfl,Nat.mul_one,Nat.add_zero] at hf12_1);clear hcl12 hcc12 hfr12 hM12)|((with_reducible refine gate_store (t := 75) (p := 21) rfl ?_);refine store_event (t := 75) (p := 21) (v := ?vo_w13) (w1 := ((w11.setCell ⟨go10,(x4_1 : Int).toNat * 2,none⟩ (.int .i64 t347)).setCell ⟨go10,(x4_1 : Int).toNat * 2 + 1,none⟩ (.int .i64 t348))) ?hg ?ho ?hn ?hr ?_;(case ho => rfl);(case hg => rfl);(case hn => rfl);(case hr => go_simp <;> rfl);intro w13 hw;have hg : w11.grownBy w13 (some go10) := (by rw [hw];exact HP12.2);have hp_ : Kd.R k75 75 w13 w.heap.size (fun _ => True) (.slice (some ⟨go10,0,none⟩) x3_1.length co10) y349 := (by rw [hw,Ny349.out];exact HP12.1);clear HP12;have n0_ := As_ (hp_);have n1_ := As_ ((by rw [hw];exact bwS (bwS (HB.out) GB10.out) GB10.out : Below w.heap.size w w13));clear HO_3 HB;revert n0_ n1_;intro HO_3 HB;clear hg hw hp_))
   go_roundg k1
   case measure => have := HK1.out;omega
   case rel => exact ⟨(y349),(wrap64 (x4_1 + 1)),zT_,H',⟨by have := HK1.out;omega⟩,⟨by (with_reducible repeat (first|apply Kd.R_alloc|apply Kd.R_drewN|apply Kd.R_drew));exact HO_3.out⟩,⟨zb0 HB.out⟩⟩
end Go.Proofs.Ytbokjhdhpmmpfaa.Q
