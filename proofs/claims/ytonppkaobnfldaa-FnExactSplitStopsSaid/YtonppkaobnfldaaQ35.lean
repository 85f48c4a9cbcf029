-- Written by wip/tools/qprint.py (a program of this claim's author) by means of the kit's printer.
import Derived.Test.YtonppkaobnfldaaQ0
import Derived.Test.YtonppkaobnfldaaQ15
import Derived.Test.YtonppkaobnfldaaQ61
import Derived.Test.YtonppkaobnfldaaQ77
namespace Go.Proofs.Ytonppkaobnfldaa.Q
open Go.RowKit Go.Proofs.YtonppkaobnfldaaW.PrintWords Go.Proofs.YtonppkaobnfldaaW.PrintLast Go.Proofs.YtonppkaobnfldaaW.PrintMore
attribute [local go_sem] max2_int min2_int max_two min_two max_three min_three max_four min_four   -- for this text's walks alone
set_option linter.unusedVariables false
set_option linter.unusedSimpArgs false

/-! ### spec_EncodeOps: function 35 -/
def spec_EncodeOps.l0 : Nat → List (S49) → List Int → Int → Option (List Int)
 | 0,_,_,_ => none
 | k + 1,x0,x3,x4 => if x4 < (x0.length : Int) then (if 0 ≤ x4 then ((spec_bytesOf.f ((rd_T49 x0 x4).f0) ((rd_T49 x0 x4).f1)).bind fun t284 => (if x3.length + t284.length < 17592186044416 then (spec_EncodeOps.l0 k x0 (x3 ++ t284) (wrap64 (x4 + 1))) else (none))) else (none)) else (some x3)
def spec_EncodeOps.f (k : Nat) (l0 : List (S49)) : Option (List Int) := (spec_validOps.f k l0).bind fun t279 => (if t279 = true then (spec_EncodeOps.l0 k l0 (([] : List Int)) 0) else (some ([] : List Int)))
set_option maxRecDepth 100000 in
theorem spec_EncodeOps.mono_l : ∀ k,(∀ y0 y1 y2,LeO (spec_EncodeOps.l0 k y0 y1 y2) (spec_EncodeOps.l0 (k + 1) y0 y1 y2))
 | 0 => fun _ _ _ r h => (by cases h)
 | k + 1 => by
  have ih0 := spec_EncodeOps.mono_l k
  ·intro y0 y1 y2
   unfold spec_EncodeOps.l0
   repeat' first
   | (with_reducible exact ih0 _ _ _)
   | (with_reducible exact spec_validOps.mono _ _)
   | (with_reducible exact LeO.refl _)
   | (with_reducible exact LeO.none _)
   | (with_reducible refine LeO.ite ?_ ?_)
   | (with_reducible refine LeO.bind ?_ (fun _ => ?_))
   | exact ih0 _ _ _
   | exact spec_validOps.mono _ _
   | exact LeO.none _
   | refine LeO.ite ?_ ?_
   | refine LeO.bind ?_ (fun _ => ?_)
set_option maxRecDepth 100000 in
theorem spec_EncodeOps.mono : ∀ a0 k,LeO (spec_EncodeOps.f k a0) (spec_EncodeOps.f (k + 1) a0) := by
 intro a0 k
 have ih0 := spec_EncodeOps.mono_l k
 unfold spec_EncodeOps.f
 repeat' first
   | (with_reducible exact ih0 _ _ _)
   | (with_reducible exact spec_validOps.mono _ _)
   | (with_reducible exact LeO.refl _)
   | (with_reducible exact LeO.none _)
   | (with_reducible refine LeO.ite ?_ ?_)
   | (with_reducible refine LeO.bind ?_ (fun _ => ?_))
   | exact ih0 _ _ _
   | exact spec_validOps.mono _ _
   | exact LeO.none _
   | refine LeO.ite ?_ ?_
   | refine LeO.bind ?_ (fun _ => ?_)
set_option maxHeartbeats 8000000 in
set_option maxRecDepth 100000 in
theorem spec_EncodeOps.calls (k : Nat) (A0 : Option Addr) (c0 : Nat) (l0 : List (S49)) (r : List Int) (w : World) (hr0 : Kd.C k49 w A0 l0.length l0) (hc0 : l0.length ≤ c0) (h : spec_EncodeOps.f k l0 = some r) :
  Calls Try.prog 35 #[.slice A0 l0.length c0] w fun e w' => ∃ v0_ : Value,e = .returned (v0_) ∧ Kd.R (Kd.int .i64) 3 w' w.heap.size (fun _ => True) v0_ r ∧ Below w.heap.size w w' := by
 have hu49 := Try.underlying49
 have HR0 := As_ hr0
 have HC0 := As_ hc0
 clear hr0 hc0
 have HB := As_ (Below.refl w.heap.size w)
 have H : ((spec_validOps.f k l0).bind fun t279 => (if t279 = true then (spec_EncodeOps.l0 k l0 (([] : List Int)) 0) else (some ([] : List Int)))) = some r := h
 clear h
 replace H := obS H
 obtain ⟨t279,A20,H⟩ := H
 replace H : (if t279 = true then (spec_EncodeOps.l0 k l0 (([] : List Int)) 0) else (some ([] : List Int))) = some r := H
 have A2 := As_ A20
 clear A20
 by_cases c3 : t279 = true
 rotate_left
 ·replace c3 := Bool.eq_false_iff.mpr c3
  subst c3
  have H1 : (some ([] : List Int)) = some r := by rw [if_neg (show ¬ (false = true) by decide)] at H;exact H
  clear H
  have H := H1
  clear H1
  obtain rfl := Option.some.inj H
  go_enter Try.func35,Try.ntmps35
  go_wp2_with (first|((with_reducible refine gate_callee (f := 51) rfl ?_);refine goesL_ (some 6) rfl rfl Try.func51 (by kernel_rfl) rfl #[.slice A0 l0.length c0] rfl zM_ ?_;(with_reducible refine (spec_validOps.calls k _ _ l0 false _ ?side1 ?side2 A2.out).mono ?_);(case side1 => repeat (first|exact HR0.out|(with_reducible refine Kd.C_alloc ?_ _)|(with_reducible refine Kd.C_drewN ?_ _)|(with_reducible refine Kd.C_drew ?_)));(case side2 => exact HC0.out);rintro e w14 ⟨rfl,hb⟩;refine ⟨_,rfl,?_⟩;have n0_ := As_ (bwT (zb0 HB.out) hb);clear HB;revert n0_;intro HB))
  go_ret
  exact ⟨_,zE_,by first|exact Kd.R_nil _ _ _ _ _|exact Kd.N_nil _ _ _ _ _|exact Kd.V_nil _ _ _ _ _|exact Kd.Q_nil _ _ _ _ _|exact Kd.S_nil _ _ _ _ _,zb0 HB.out⟩

 subst c3
 have H1 : (spec_EncodeOps.l0 k l0 (([] : List Int)) 0) = some r := by rw [if_pos rfl] at H;exact H
 clear H
 have H := H1
 clear H1
 obtain ⟨y280,hy280⟩ : ∃ y_ : List Int,y_ = (([] : List Int)) := ⟨_,rfl⟩
 replace H : (spec_EncodeOps.l0 k l0 y280 0) = some r := zH_ H hy280
 have Ny280 := As_ hy280
 clear hy280
 have H' := As_ H
 clear H
 go_enter Try.func35,Try.ntmps35
 go_wp2_with (first|((with_reducible refine gate_callee (f := 51) rfl ?_);refine goesL_ (some 6) rfl rfl Try.func51 (by kernel_rfl) rfl #[.slice A0 l0.length c0] rfl zM_ ?_;(with_reducible refine (spec_validOps.calls k _ _ l0 true _ ?side1 ?side2 A2.out).mono ?_);(case side1 => repeat (first|exact HR0.out|(with_reducible refine Kd.C_alloc ?_ _)|(with_reducible refine Kd.C_drewN ?_ _)|(with_reducible refine Kd.C_drew ?_)));(case side2 => exact HC0.out);rintro e w4 ⟨rfl,hb⟩;refine ⟨_,rfl,?_⟩;have n0_ := As_ (bwT (zb0 HB.out) hb);clear HB;revert n0_;intro HB)|((with_reducible refine gate_dst (N := 8) rfl ?_);refine Kd.R_lit (Kd.int .i64) _ 3 ?hg (N := 8) ?hd (xs := ([] : List Int)) (inner := []) (ok := fun _ => True) (okp := fun _ => True) ?hr ?hp (fun _ hk => hk) trivial (Below.refl _ _) (Nat.le_refl _) (by simp) ?_;(case hd => rfl);(case hg => rfl);(case hr => go_simp <;> rfl);(case hp => exact (Reps.none _ _));intro v281 w5 ho6 hb hg_ hnew_;clear hg_ hnew_;(first|rw [← Ny280.out] at ho6|(simp only [Int.reduceToNat] at ho6;rw [← Ny280.out] at ho6));have n0_ := As_ (Kd.R_lower ho6 (bwZ (zb0 HB.out)));have n1_ := As_ (bwT (zb0 HB.out) hb);clear HB;revert n0_ n1_;intro HO282 HB;clear hb ho6))
 go_loopg [3,4] k (fun kq v3 v4 w' => ∃ (x3_1 : List Int) (x4_1 : Int),v4 = .int .i64 x4_1 ∧ Aside0 (spec_EncodeOps.l0 kq l0 x3_1 x4_1 = some r) ∧ Aside0 (kq ≤ k) ∧ Aside0 (Kd.R (Kd.int .i64) 3 w' w.heap.size (fun _ => True) v3 x3_1) ∧ Aside0 (Below w.heap.size w w'))
 case atStart => exact ⟨(y280),(0),zT_,H',⟨Nat.le_refl _⟩,⟨by (with_reducible repeat (first|apply Kd.R_alloc|apply Kd.R_drewN|apply Kd.R_drew));exact HO282.out⟩,⟨zb0 HB.out⟩⟩
 case round =>
  clear H'
  obtain ⟨x3_1,x4_1,rfl,HA,HK1,HO_3,HB⟩ := hrel
  cases gk with
  | zero => exact absurd HA.out (fun h_ => (by cases h_))
  | succ k1 =>
   have H := HA.out
   clear HA
   simp only [spec_EncodeOps.l0] at H
   by_cases c7 : x4_1 < (l0.length : Int)
   rotate_left
   ·rw [if_neg c7] at H
    have c7b0 : decide (x4_1 < (l0.length : Int)) = false := deF c7
    clear c7
    obtain rfl := Option.some.inj H
    go_wp2
    go_ret
    exact ⟨_,zE_,by (with_reducible repeat (first|apply Kd.R_alloc|apply Kd.R_drewN|apply Kd.R_drew));exact HO_3.out,zb0 HB.out⟩
   rw [if_pos c7] at H
   have c7b0 : decide (x4_1 < (l0.length : Int)) = true := deT c7
   clear c7
   by_cases c8 : 0 ≤ x4_1
   rotate_left
   ·rw [if_neg c8] at H
    exact absurd H (by simp)
   rw [if_pos c8] at H
   have c8b0 : decide (0 ≤ x4_1) = true := deT c8
   clear c8
   replace H := obS H
   obtain ⟨t284,A90,H⟩ := H
   replace H : (if x3_1.length + t284.length < 17592186044416 then (spec_EncodeOps.l0 k1 l0 (x3_1 ++ t284) (wrap64 (x4_1 + 1))) else (none)) = some r := H
   have A9 := As_ A90
   clear A90
   by_cases c10 : x3_1.length + t284.length < 17592186044416
   rotate_left
   ·rw [if_neg c10] at H
    exact absurd H (by simp)
   rw [if_pos c10] at H
   have LMc10 := As_ c10
   clear c10
   obtain ⟨y287,hy287⟩ : ∃ y_ : List Int,y_ = (x3_1 ++ t284) := ⟨_,rfl⟩
   replace H : (spec_EncodeOps.l0 k1 l0 y287 (wrap64 (x4_1 + 1))) = some r := zH_ H hy287
   have Ny287 := As_ hy287
   clear hy287
   have H' := As_ H
   clear H
   have p283 : 0 ≤ (x4_1 : Int) := odT zA_
   have q283 : x4_1 < (l0.length : Int) := odT zA_
   obtain ⟨ad283,e283,hx283_0,hx283_1⟩ := at_T49 HR0.out x4_1 p283 q283
   cases e283
   replace hx283_0 := bwC HB.out hx283_0
   replace hx283_1 := bwC HB.out hx283_1
   replace p283 := eq_true p283
   replace q283 := eq_true q283
   go_wp2_with (first|((with_reducible refine gate_callee (f := 61) rfl ?_);refine goesL_ (some 20) rfl rfl Try.func61 (by kernel_rfl) rfl #[.agg #[.int .i64 ((rd_T49 l0 x4_1).f0),.int .i64 ((rd_T49 l0 x4_1).f1)]] rfl zM_ ?_;(with_reducible refine (spec_bytesOf.calls ((rd_T49 l0 x4_1).f0) ((rd_T49 l0 x4_1).f1) t284 _ A9.out).mono ?_);rintro e w11 ⟨v285,rfl,ho0,hb⟩;refine ⟨_,rfl,?_⟩;have n0_ := As_ (Kd.R_elder' (zR_ HO_3.out) (Kd.R_base ho0) hb);have n1_ := As_ (Kd.R_lower (Kd.R_new' ho0 (Kd.R_lt (zR_ HO_3.out))) (bwZ (zb0 HB.out)));have n2_ := As_ (bwT (zb0 HB.out) hb);clear HO_3 HB;revert n0_ n1_ n2_;intro HO_3 HO286 HB;obtain ⟨Ao13,co13,eo13⟩ := Kd.R_slice HO286.out;subst eo13)|((with_reducible refine gate_builtin (b := .append) (xs := #[.tmp 15,.tmp 20]) rfl ?_);at_builtin;refine Kd.R_append_rows (Kd.int .i64) (w0 := w) w.heap.size rfl (.tmp 15) (.tmp 20) 29 3 (.int .i64 0) 8 rfl Try.underlying29 info3 rfl (by decide) (by omega) u3 x3_1 t284 _ _ _ (fun k_ => some k_ ≠ (.slice Ao13 t284.length co13 : Value).ownBlock) (fun _ => False) rfl rfl ?aO ?aR (fun _ _ h => h) (fun _ h => h.elim) ?aF ?aB ?aS ?aL ?_;(case aR => exact zC_ (Kd.R_reads' HO286.out).2.2);(case aB => exact (zb0 HB.out));(case aF => exact (fun k_ hk => Kd.fresh' (Kd.R_lt (zR_ HO286.out)) k_ hk));(case aO => exact (by (with_reducible repeat (first|apply Kd.R_alloc|apply Kd.R_drewN|apply Kd.R_drew));exact Kd.R_mono HO_3.out (fun _ hk => hk.2)));(case aS => exact (bwZ (zb0 HB.out)));(case aL => have := LMc10.out;omega);intro v288 w12 ho hb hg hat;rw [← Ny287.out] at ho;have n0_ := As_ (Kd.R_after (ok := (fun _ => True)) (zR_ HO286.out) hg hat);have n1_ := As_ (hb);have n2_ := As_ (ho);clear HO286 HB HO_3;revert n0_ n1_ n2_;intro HO286 HB HO289;clear ho hb hg hat))
   go_roundg k1
   case measure => have := HK1.out;omega
   case rel => exact ⟨(y287),(wrap64 (x4_1 + 1)),zT_,H',⟨by have := HK1.out;omega⟩,⟨by (with_reducible repeat (first|apply Kd.R_alloc|apply Kd.R_drewN|apply Kd.R_drew));exact Kd.R_mono HO289.out (fun _ hk => trivial)⟩,⟨zb0 HB.out⟩⟩
/-! ### impl_EncodeOps: function 36 -/
def impl_EncodeOps.l0 : Nat → List Int → List (S49) → Int → Int → Option (List Int)
 | 0,_,_,_,_ => none
 | k + 1,x3,x10,x11,x12 => if x12 < x11 then (if 0 ≤ x12 then (if x12 < (x10.length : Int) then (if x3.length < 17592186044416 then ((some (x3 ++ [(rd_T49 x10 x12).f0] : List Int)).bind fun y300 => ((impl_mostArg.f ((rd_T49 x10 x12).f0)).bind fun t303 => (if t303 = 0 then (impl_EncodeOps.l0 k y300 x10 x11 (wrap64 (x12 + 1))) else (if ((rd_T49 x10 x12).f1) < 128 then (if y300.length < 17592186044416 then (impl_EncodeOps.l0 k (y300 ++ [(rd_T49 x10 x12).f1]) x10 x11 (wrap64 (x12 + 1))) else (none)) else ((some (([wrap64 (128 + (Int.tmod ((rd_T49 x10 x12).f1) 128)),wrap64 (Int.tdiv ((rd_T49 x10 x12).f1) 128)] : List Int) : List Int)).bind fun y307 => (if y300.length + y307.length < 17592186044416 then (impl_EncodeOps.l0 k (y300 ++ y307) x10 x11 (wrap64 (x12 + 1))) else (none))))))) else (none)) else (none)) else (none)) else (some x3)
def impl_EncodeOps.f (k : Nat) (l0 : List (S49)) : Option (List Int) := (impl_ValidOps.f k l0).bind fun t294 => (if t294 = true then (impl_EncodeOps.l0 k (([] : List Int)) l0 (l0.length : Int) 0) else (some ([] : List Int)))
set_option maxRecDepth 100000 in
theorem impl_EncodeOps.mono_l : ∀ k,(∀ y0 y1 y2 y3,LeO (impl_EncodeOps.l0 k y0 y1 y2 y3) (impl_EncodeOps.l0 (k + 1) y0 y1 y2 y3))
 | 0 => fun _ _ _ _ r h => (by cases h)
 | k + 1 => by
  have ih0 := impl_EncodeOps.mono_l k
  ·intro y0 y1 y2 y3
   unfold impl_EncodeOps.l0
   repeat' first
   | (with_reducible exact ih0 _ _ _ _)
   | (with_reducible exact impl_ValidOps.mono _ _)
   | (with_reducible exact LeO.refl _)
   | (with_reducible exact LeO.none _)
   | (with_reducible refine LeO.ite ?_ ?_)
   | (with_reducible refine LeO.bind ?_ (fun _ => ?_))
   | exact ih0 _ _ _ _
   | exact impl_ValidOps.mono _ _
   | exact LeO.none _
   | refine LeO.ite ?_ ?_
   | refine LeO.bind ?_ (fun _ => ?_)
set_option maxRecDepth 100000 in
theorem impl_EncodeOps.mono : ∀ a0 k,LeO (impl_EncodeOps.f k a0) (impl_EncodeOps.f (k + 1) a0) := by
 intro a0 k
 have ih0 := impl_EncodeOps.mono_l k
 unfold impl_EncodeOps.f
 repeat' first
   | (with_reducible exact ih0 _ _ _ _)
   | (with_reducible exact impl_ValidOps.mono _ _)
   | (with_reducible exact LeO.refl _)
   | (with_reducible exact LeO.none _)
   | (with_reducible refine LeO.ite ?_ ?_)
   | (with_reducible refine LeO.bind ?_ (fun _ => ?_))
   | exact ih0 _ _ _ _
   | exact impl_ValidOps.mono _ _
   | exact LeO.none _
   | refine LeO.ite ?_ ?_
   | refine LeO.bind ?_ (fun _ => ?_)
set_option maxHeartbeats 8000000 in
set_option maxRecDepth 100000 in
theorem impl_EncodeOps.calls (k : Nat) (A0 : Option Addr) (c0 : Nat) (l0 : List (S49)) (r : List Int) (w : World) (hr0 : Kd.C k49 w A0 l0.length l0) (hc0 : l0.length ≤ c0) (h : impl_EncodeOps.f k l0 = some r) :
  Calls Try.prog 36 #[.slice A0 l0.length c0] w fun e w' => ∃ v0_ : Value,e = .returned (v0_) ∧ Kd.R (Kd.int .i64) 3 w' w.heap.size (fun _ => True) v0_ r ∧ Below w.heap.size w w' := by
 have hu49 := Try.underlying49
 have HR0 := As_ hr0
 have HC0 := As_ hc0
 clear hr0 hc0
 have HB := As_ (Below.refl w.heap.size w)
 have H : ((impl_ValidOps.f k l0).bind fun t294 => (if t294 = true then (impl_EncodeOps.l0 k (([] : List Int)) l0 (l0.length : Int) 0) else (some ([] : List Int)))) = some r := h
 clear h
 replace H := obS H
 obtain ⟨t294,A20,H⟩ := H
 replace H : (if t294 = true then (impl_EncodeOps.l0 k (([] : List Int)) l0 (l0.length : Int) 0) else (some ([] : List Int))) = some r := H
 have A2 := As_ A20
 clear A20
 by_cases c3 : t294 = true
 rotate_left
 ·replace c3 := Bool.eq_false_iff.mpr c3
  subst c3
  have H1 : (some ([] : List Int)) = some r := by rw [if_neg (show ¬ (false = true) by decide)] at H;exact H
  clear H
  have H := H1
  clear H1
  obtain rfl := Option.some.inj H
  go_enter Try.func36,Try.ntmps36
  go_wp2_with (first|((with_reducible refine gate_callee (f := 18) rfl ?_);refine goesL_ (some 7) rfl rfl Try.func18 (by kernel_rfl) rfl #[.slice A0 l0.length c0] rfl zM_ ?_;(with_reducible refine (impl_ValidOps.calls k _ _ l0 false _ ?side1 ?side2 A2.out).mono ?_);(case side1 => repeat (first|exact HR0.out|(with_reducible refine Kd.C_alloc ?_ _)|(with_reducible refine Kd.C_drewN ?_ _)|(with_reducible refine Kd.C_drew ?_)));(case side2 => exact HC0.out);rintro e w33 ⟨rfl,hb⟩;refine ⟨_,rfl,?_⟩;have n0_ := As_ (bwT (zb0 HB.out) hb);clear HB;revert n0_;intro HB))
  go_ret
  exact ⟨_,zE_,by first|exact Kd.R_nil _ _ _ _ _|exact Kd.N_nil _ _ _ _ _|exact Kd.V_nil _ _ _ _ _|exact Kd.Q_nil _ _ _ _ _|exact Kd.S_nil _ _ _ _ _,zb0 HB.out⟩

 subst c3
 have H1 : (impl_EncodeOps.l0 k (([] : List Int)) l0 (l0.length : Int) 0) = some r := by rw [if_pos rfl] at H;exact H
 clear H
 have H := H1
 clear H1
 obtain ⟨y295,hy295⟩ : ∃ y_ : List Int,y_ = (([] : List Int)) := ⟨_,rfl⟩
 replace H : (impl_EncodeOps.l0 k y295 l0 (l0.length : Int) 0) = some r := zH_ H hy295
 have Ny295 := As_ hy295
 clear hy295
 have H' := As_ H
 clear H
 go_enter Try.func36,Try.ntmps36
 go_wp2_with (first|((with_reducible refine gate_callee (f := 18) rfl ?_);refine goesL_ (some 7) rfl rfl Try.func18 (by kernel_rfl) rfl #[.slice A0 l0.length c0] rfl zM_ ?_;(with_reducible refine (impl_ValidOps.calls k _ _ l0 true _ ?side1 ?side2 A2.out).mono ?_);(case side1 => repeat (first|exact HR0.out|(with_reducible refine Kd.C_alloc ?_ _)|(with_reducible refine Kd.C_drewN ?_ _)|(with_reducible refine Kd.C_drew ?_)));(case side2 => exact HC0.out);rintro e w4 ⟨rfl,hb⟩;refine ⟨_,rfl,?_⟩;have n0_ := As_ (bwT (zb0 HB.out) hb);clear HB;revert n0_;intro HB)|((with_reducible refine gate_dst (N := 9) rfl ?_);refine Kd.R_lit (Kd.int .i64) _ 3 ?hg (N := 9) ?hd (xs := ([] : List Int)) (inner := []) (ok := fun _ => True) (okp := fun _ => True) ?hr ?hp (fun _ hk => hk) trivial (Below.refl _ _) (Nat.le_refl _) (by simp) ?_;(case hd => rfl);(case hg => rfl);(case hr => go_simp <;> rfl);(case hp => exact (Reps.none _ _));intro v296 w5 ho6 hb hg_ hnew_;clear hg_ hnew_;(first|rw [← Ny295.out] at ho6|(simp only [Int.reduceToNat] at ho6;rw [← Ny295.out] at ho6));have n0_ := As_ (Kd.R_lower ho6 (bwZ (zb0 HB.out)));have n1_ := As_ (bwT (zb0 HB.out) hb);clear HB;revert n0_ n1_;intro HO297 HB;clear hb ho6))
 go_loopg [3,12] k (fun kq v3 v12 w' => ∃ (x3_1 : List Int) (x12_1 : Int),v12 = .int .i64 x12_1 ∧ Aside0 (impl_EncodeOps.l0 kq x3_1 l0 (l0.length : Int) x12_1 = some r) ∧ Aside0 (kq ≤ k) ∧ Aside0 (Kd.R (Kd.int .i64) 3 w' w.heap.size (fun _ => True) v3 x3_1) ∧ Aside0 (Below w.heap.size w w'))
 case atStart => exact ⟨(y295),(0),zT_,H',⟨Nat.le_refl _⟩,⟨by (with_reducible repeat (first|apply Kd.R_alloc|apply Kd.R_drewN|apply Kd.R_drew));exact HO297.out⟩,⟨zb0 HB.out⟩⟩
 case round =>
  clear H'
  obtain ⟨x3_1,x12_1,rfl,HA,HK1,HO_3,HB⟩ := hrel
  cases gk with
  | zero => exact absurd HA.out (fun h_ => (by cases h_))
  | succ k1 =>
   have H := HA.out
   clear HA
   simp only [impl_EncodeOps.l0] at H
   by_cases c7 : x12_1 < (l0.length : Int)
   rotate_left
   ·rw [if_neg c7] at H
    have c7b0 : decide (x12_1 < (l0.length : Int)) = false := deF c7
    clear c7
    obtain rfl := Option.some.inj H
    go_wp2
    go_ret
    exact ⟨_,zE_,by (with_reducible repeat (first|apply Kd.R_alloc|apply Kd.R_drewN|apply Kd.R_drew));exact HO_3.out,zb0 HB.out⟩
   rw [if_pos c7] at H
   have c7b0 : decide (x12_1 < (l0.length : Int)) = true := deT c7
   clear c7
   by_cases c8 : 0 ≤ x12_1
   rotate_left
   ·rw [if_neg c8] at H
    exact absurd H (by simp)
   rw [if_pos c8] at H
   have c8b0 : decide (0 ≤ x12_1) = true := deT c8
   clear c8
   by_cases c9 : x12_1 < (l0.length : Int)
   rotate_left
   ·rw [if_neg c9] at H
    exact absurd H (by simp)
   rw [if_pos c9] at H
   have c9b0 : decide (x12_1 < (l0.length : Int)) = true := deT c9
   clear c9
   by_cases c10 : x3_1.length < 17592186044416
   rotate_left
   ·rw [if_neg c10] at H
    exact absurd H (by simp)
   rw [if_pos c10] at H
   have LMc10 := As_ c10
   clear c10
   obtain ⟨y300,hy300⟩ : ∃ y_ : List Int,y_ = (x3_1 ++ [(rd_T49 l0 x12_1).f0]) := ⟨_,rfl⟩
   replace H : ((impl_mostArg.f ((rd_T49 l0 x12_1).f0)).bind fun t303 => (if t303 = 0 then (impl_EncodeOps.l0 k1 y300 l0 (l0.length : Int) (wrap64 (x12_1 + 1))) else (if ((rd_T49 l0 x12_1).f1) < 128 then (if y300.length < 17592186044416 then (impl_EncodeOps.l0 k1 (y300 ++ [(rd_T49 l0 x12_1).f1]) l0 (l0.length : Int) (wrap64 (x12_1 + 1))) else (none)) else ((some (([wrap64 (128 + (Int.tmod ((rd_T49 l0 x12_1).f1) 128)),wrap64 (Int.tdiv ((rd_T49 l0 x12_1).f1) 128)] : List Int) : List Int)).bind fun y307 => (if y300.length + y307.length < 17592186044416 then (impl_EncodeOps.l0 k1 (y300 ++ y307) l0 (l0.length : Int) (wrap64 (x12_1 + 1))) else (none)))))) = some r := zH_ H hy300
   have Ny300 := As_ hy300
   clear hy300
   replace H := obS H
   obtain ⟨t303,A110,H⟩ := H
   replace H : (if t303 = 0 then (impl_EncodeOps.l0 k1 y300 l0 (l0.length : Int) (wrap64 (x12_1 + 1))) else (if ((rd_T49 l0 x12_1).f1) < 128 then (if y300.length < 17592186044416 then (impl_EncodeOps.l0 k1 (y300 ++ [(rd_T49 l0 x12_1).f1]) l0 (l0.length : Int) (wrap64 (x12_1 + 1))) else (none)) else ((some (([wrap64 (128 + (Int.tmod ((rd_T49 l0 x12_1).f1) 128)),wrap64 (Int.tdiv ((rd_T49 l0 x12_1).f1) 128)] : List Int) : List Int)).bind fun y307 => (if y300.length + y307.length < 17592186044416 then (impl_EncodeOps.l0 k1 (y300 ++ y307) l0 (l0.length : Int) (wrap64 (x12_1 + 1))) else (none))))) = some r := H
   have A11 := As_ A110
   clear A110
   by_cases c12 : t303 = 0
   ·rw [if_pos c12] at H
    have c12b0 : (t303 == 0) = true := beq_iff_eq.mpr c12
    have c12b1 : (t303 != 0) = false := bne_eq_false_iff_eq.mpr c12
    clear c12
    have H' := As_ H
    clear H
    have p298 : 0 ≤ (x12_1 : Int) := odT zA_
    have q298 : x12_1 < (l0.length : Int) := odT zA_
    obtain ⟨ad298,e298,hx298_0,hx298_1⟩ := at_T49 HR0.out x12_1 p298 q298
    cases e298
    replace hx298_0 := bwC HB.out hx298_0
    replace hx298_1 := bwC HB.out hx298_1
    replace p298 := eq_true p298
    replace q298 := eq_true q298
    go_wp2_with (first|((with_reducible refine gate_dst (N := 5) rfl ?_);refine box_event ?hg (N := 5) ?hd (cs := #[.int .i64 0,.int .i64 0]) (t := 49) ?hr ?_;(case hd => rfl);(case hg => rfl);(case hr => go_simp <;> rfl);intro gb299 hg w13 hbox hb;have n0_ := As_ (Kd.R_below (zR_ HO_3.out) hb);have n1_ := As_ (bwT (zb0 HB.out) hb);have n2_ := As_ (hbox);have n3_ := As_ ((by rw [hg];exact (bwZ (zb0 HB.out)) : w.heap.size ≤ gb299));have n4_ := As_ ((by rw [hg];exact (bwZ (zb0 HB.out)) : w.heap.size ≤ gb299));clear HO_3 HB;revert n0_ n1_ n2_ n3_ n4_;intro HO_3 HB BK299 GW299 GE299;clear hb hbox hg;obtain ⟨hcz14_0,hcz14_1,hfz14_0,hfz14_1⟩ := bk2 BK299.out)|((with_reducible refine gate_builtin (b := .append) (xs := #[.tmp 16,.tmp 19]) rfl ?_);at_builtin;refine Kd.R_append (Kd.int .i64) (w0 := w) w.heap.size rfl (.tmp 16) (.tmp 19) 29 3 (.int .i64 0) 8 rfl Try.underlying29 info3 rfl (by decide) (by omega) u3 x3_1 ((rd_T49 l0 x12_1).f0) [.int .i64 ((rd_T49 l0 x12_1).f0)] (fun _ => True) (fun _ => False) rfl (by go_simp <;> rfl) ?aP (fun _ hk => hk.elim) ?aF ?aO ?aB ?aS ?aL ?_;(case aP => exact rfl);(case aB => exact (zb1 HB.out GE299.out));(case aF => exact (fun _ _ => trivial));(case aO => exact (by (with_reducible repeat (first|apply Kd.R_alloc|apply Kd.R_drewN|apply Kd.R_drew));exact Kd.R_mono (Kd.R_far (p := ⟨gb299,1,none⟩) (Kd.R_far (p := ⟨gb299,0,none⟩) (Kd.R_types HO_3.out BK299.out (by decide)) (fun _ hk => hk.2) (.int .i64 ((rd_T49 l0 x12_1).f0))) (fun _ hk => hk.2) (.int .i64 ((rd_T49 l0 x12_1).f1))) (fun _ hk => trivial)));(case aS => exact (bwZ (zb1 HB.out GE299.out)));(case aL => have := LMc10.out;omega);intro v301 w15 ho hb hg hat;rw [← Ny300.out] at ho;have n0_ := As_ (blk_grown (g := gb299) (o := .cells #[.int .i64 ((rd_T49 l0 x12_1).f0),.int .i64 ((rd_T49 l0 x12_1).f1)] 49 (0,0)) (by (with_reducible repeat first|apply bkN|apply bkD|apply bkA);refine blk_put (cs := #[.int .i64 ((rd_T49 l0 x12_1).f0),.int .i64 0]) ?_ 1 _ rfl;(with_reducible repeat first|apply bkN|apply bkD|apply bkA);refine blk_put (cs := #[.int .i64 0,.int .i64 0]) ?_ 0 _ rfl;(with_reducible repeat first|apply bkN|apply bkD|apply bkA);exact BK299.out) hg (Kd.R_ne HO_3.out BK299.out (by decide)));have n1_ := As_ (hb);have n2_ := As_ (ho);clear BK299 HB HO_3;revert n0_ n1_ n2_;intro BK299 HB HO302;clear ho hb hg hat;obtain ⟨hcz16_0,hcz16_1,hfz16_0,hfz16_1⟩ := bk2 BK299.out)|((with_reducible refine gate_callee (f := 62) rfl ?_);refine goesL_ (some 34) rfl rfl Try.func62 (by kernel_rfl) rfl #[.int .i64 ((rd_T49 l0 x12_1).f0)] rfl zM_ ?_;(with_reducible refine (impl_mostArg.calls ((rd_T49 l0 x12_1).f0) t303 _ A11.out).mono ?_);rintro e w' ⟨rfl,⟨nd,rfl⟩⟩;refine ⟨_,rfl,?_⟩))
    go_roundg k1
    case measure => have := HK1.out;omega
    case rel => exact ⟨(y300),(wrap64 (x12_1 + 1)),zT_,H',⟨by have := HK1.out;omega⟩,⟨by (with_reducible repeat (first|apply Kd.R_alloc|apply Kd.R_drewN|apply Kd.R_drew));exact HO302.out⟩,⟨zb1 HB.out GE299.out⟩⟩
   rw [if_neg c12] at H
   have c12b0 : (t303 == 0) = false := beq_eq_false_iff_ne.mpr c12
   have c12b1 : (t303 != 0) = true := bne_iff_ne.mpr c12
   by_cases c17 : ((rd_T49 l0 x12_1).f1) < 128
   ·rw [if_pos c17] at H
    have c17b0 : decide (((rd_T49 l0 x12_1).f1) < 128) = true := deT c17
    clear c17
    by_cases c18 : y300.length < 17592186044416
    rotate_left
    ·rw [if_neg c18] at H
     exact absurd H (by simp)
    rw [if_pos c18] at H
    have LMc18 := As_ c18
    clear c18
    obtain ⟨y304,hy304⟩ : ∃ y_ : List Int,y_ = (y300 ++ [(rd_T49 l0 x12_1).f1]) := ⟨_,rfl⟩
    replace H : (impl_EncodeOps.l0 k1 y304 l0 (l0.length : Int) (wrap64 (x12_1 + 1))) = some r := zH_ H hy304
    have Ny304 := As_ hy304
    clear hy304
    have H' := As_ H
    clear H
    have p298 : 0 ≤ (x12_1 : Int) := odT zA_
    have q298 : x12_1 < (l0.length : Int) := odT zA_
    obtain ⟨ad298,e298,hx298_0,hx298_1⟩ := at_T49 HR0.out x12_1 p298 q298
    cases e298
    replace hx298_0 := bwC HB.out hx298_0
    replace hx298_1 := bwC HB.out hx298_1
    replace p298 := eq_true p298
    replace q298 := eq_true q298
    go_wp2_with (first|((with_reducible refine gate_dst (N := 5) rfl ?_);refine box_event ?hg (N := 5) ?hd (cs := #[.int .i64 0,.int .i64 0]) (t := 49) ?hr ?_;(case hd => rfl);(case hg => rfl);(case hr => go_simp <;> rfl);intro gb299 hg w19 hbox hb;have n0_ := As_ (Kd.R_below (zR_ HO_3.out) hb);have n1_ := As_ (bwT (zb0 HB.out) hb);have n2_ := As_ (hbox);have n3_ := As_ ((by rw [hg];exact (bwZ (zb0 HB.out)) : w.heap.size ≤ gb299));have n4_ := As_ ((by rw [hg];exact (bwZ (zb0 HB.out)) : w.heap.size ≤ gb299));clear HO_3 HB;revert n0_ n1_ n2_ n3_ n4_;intro HO_3 HB BK299 GW299 GE299;clear hb hbox hg;obtain ⟨hcz20_0,hcz20_1,hfz20_0,hfz20_1⟩ := bk2 BK299.out)|((with_reducible refine gate_builtin (b := .append) (xs := #[.tmp 16,.tmp 19]) rfl ?_);at_builtin;refine Kd.R_append (Kd.int .i64) (w0 := w) w.heap.size rfl (.tmp 16) (.tmp 19) 29 3 (.int .i64 0) 8 rfl Try.underlying29 info3 rfl (by decide) (by omega) u3 x3_1 ((rd_T49 l0 x12_1).f0) [.int .i64 ((rd_T49 l0 x12_1).f0)] (fun _ => True) (fun _ => False) rfl (by go_simp <;> rfl) ?aP (fun _ hk => hk.elim) ?aF ?aO ?aB ?aS ?aL ?_;(case aP => exact rfl);(case aB => exact (zb1 HB.out GE299.out));(case aF => exact (fun _ _ => trivial));(case aO => exact (by (with_reducible repeat (first|apply Kd.R_alloc|apply Kd.R_drewN|apply Kd.R_drew));exact Kd.R_mono (Kd.R_far (p := ⟨gb299,1,none⟩) (Kd.R_far (p := ⟨gb299,0,none⟩) (Kd.R_types HO_3.out BK299.out (by decide)) (fun _ hk => hk.2) (.int .i64 ((rd_T49 l0 x12_1).f0))) (fun _ hk => hk.2) (.int .i64 ((rd_T49 l0 x12_1).f1))) (fun _ hk => trivial)));(case aS => exact (bwZ (zb1 HB.out GE299.out)));(case aL => have := LMc10.out;omega);intro v301 w21 ho hb hg hat;rw [← Ny300.out] at ho;have n0_ := As_ (blk_grown (g := gb299) (o := .cells #[.int .i64 ((rd_T49 l0 x12_1).f0),.int .i64 ((rd_T49 l0 x12_1).f1)] 49 (0,0)) (by (with_reducible repeat first|apply bkN|apply bkD|apply bkA);refine blk_put (cs := #[.int .i64 ((rd_T49 l0 x12_1).f0),.int .i64 0]) ?_ 1 _ rfl;(with_reducible repeat first|apply bkN|apply bkD|apply bkA);refine blk_put (cs := #[.int .i64 0,.int .i64 0]) ?_ 0 _ rfl;(with_reducible repeat first|apply bkN|apply bkD|apply bkA);exact BK299.out) hg (Kd.R_ne HO_3.out BK299.out (by decide)));have n1_ := As_ (hb);have n2_ := As_ (ho);clear BK299 HB HO_3;revert n0_ n1_ n2_;intro BK299 HB HO302;clear ho hb hg hat;obtain ⟨hcz22_0,hcz22_1,hfz22_0,hfz22_1⟩ := bk2 BK299.out)|((with_reducible refine gate_callee (f := 62) rfl ?_);refine goesL_ (some 34) rfl rfl Try.func62 (by kernel_rfl) rfl #[.int .i64 ((rd_T49 l0 x12_1).f0)] rfl zM_ ?_;(with_reducible refine (impl_mostArg.calls ((rd_T49 l0 x12_1).f0) t303 _ A11.out).mono ?_);rintro e w' ⟨rfl,⟨nd,rfl⟩⟩;refine ⟨_,rfl,?_⟩)|((with_reducible refine gate_builtin (b := .append) (xs := #[.tmp 40,.tmp 43]) rfl ?_);at_builtin;refine Kd.R_append (Kd.int .i64) (w0 := w) w.heap.size rfl (.tmp 40) (.tmp 43) 29 3 (.int .i64 0) 8 rfl Try.underlying29 info3 rfl (by decide) (by omega) v301 y300 ((rd_T49 l0 x12_1).f1) [.int .i64 ((rd_T49 l0 x12_1).f1)] (fun _ => True) (fun _ => False) rfl rfl ?aP (fun _ hk => hk.elim) ?aF ?aO ?aB ?aS ?aL ?_;(case aP => exact rfl);(case aB => exact (zb1 HB.out GE299.out));(case aF => exact (fun _ _ => trivial));(case aO => exact (zR_ HO302.out));(case aS => exact (bwZ (zb1 HB.out GE299.out)));(case aL => have := LMc18.out;omega);intro v305 w23 ho hb hg hat;rw [← Ny304.out] at ho;have n0_ := As_ (blk_grown (g := gb299) (o := .cells #[.int .i64 ((rd_T49 l0 x12_1).f0),.int .i64 ((rd_T49 l0 x12_1).f1)] 49 (0,0)) (zk_ BK299.out) hg (Kd.R_ne HO302.out BK299.out (by decide)));have n1_ := As_ (hb);have n2_ := As_ (ho);clear BK299 HB HO302;revert n0_ n1_ n2_;intro BK299 HB HO306;clear ho hb hg hat))
    go_roundg k1
    case measure => have := HK1.out;omega
    case rel => exact ⟨(y304),(wrap64 (x12_1 + 1)),zT_,H',⟨by have := HK1.out;omega⟩,⟨by (with_reducible repeat (first|apply Kd.R_alloc|apply Kd.R_drewN|apply Kd.R_drew));exact HO306.out⟩,⟨zb1 HB.out GE299.out⟩⟩
   rw [if_neg c17] at H
   have c17b0 : decide (((rd_T49 l0 x12_1).f1) < 128) = false := deF c17
   clear c17
   obtain ⟨y307,hy307⟩ : ∃ y_ : List Int,y_ = (([wrap64 (128 + (Int.tmod ((rd_T49 l0 x12_1).f1) 128)),wrap64 (Int.tdiv ((rd_T49 l0 x12_1).f1) 128)] : List Int)) := ⟨_,rfl⟩
   replace H : (if y300.length + y307.length < 17592186044416 then (impl_EncodeOps.l0 k1 (y300 ++ y307) l0 (l0.length : Int) (wrap64 (x12_1 + 1))) else (none)) = some r := zH_ H hy307
   have Ny307 := As_ hy307
   clear hy307
   by_cases c24 : y300.length + y307.length < 17592186044416
   rotate_left
   ·rw [if_neg c24] at H
    exact absurd H (by simp)
   rw [if_pos c24] at H
   have LMc24 := As_ c24
   clear c24
   obtain ⟨y310,hy310⟩ : ∃ y_ : List Int,y_ = (y300 ++ y307) := ⟨_,rfl⟩
   replace H : (impl_EncodeOps.l0 k1 y310 l0 (l0.length : Int) (wrap64 (x12_1 + 1))) = some r := zH_ H hy310
   have Ny310 := As_ hy310
   clear hy310
   have H' := As_ H
   clear H
   have p298 : 0 ≤ (x12_1 : Int) := odT zA_
   have q298 : x12_1 < (l0.length : Int) := odT zA_
   obtain ⟨ad298,e298,hx298_0,hx298_1⟩ := at_T49 HR0.out x12_1 p298 q298
   cases e298
   replace hx298_0 := bwC HB.out hx298_0
   replace hx298_1 := bwC HB.out hx298_1
   replace p298 := eq_true p298
   replace q298 := eq_true q298
   go_wp2_with (first|((with_reducible refine gate_dst (N := 5) rfl ?_);refine box_event ?hg (N := 5) ?hd (cs := #[.int .i64 0,.int .i64 0]) (t := 49) ?hr ?_;(case hd => rfl);(case hg => rfl);(case hr => go_simp <;> rfl);intro gb299 hg w25 hbox hb;have n0_ := As_ (Kd.R_below (zR_ HO_3.out) hb);have n1_ := As_ (bwT (zb0 HB.out) hb);have n2_ := As_ (hbox);have n3_ := As_ ((by rw [hg];exact (bwZ (zb0 HB.out)) : w.heap.size ≤ gb299));have n4_ := As_ ((by rw [hg];exact (bwZ (zb0 HB.out)) : w.heap.size ≤ gb299));clear HO_3 HB;revert n0_ n1_ n2_ n3_ n4_;intro HO_3 HB BK299 GW299 GE299;clear hb hbox hg;obtain ⟨hcz26_0,hcz26_1,hfz26_0,hfz26_1⟩ := bk2 BK299.out)|((with_reducible refine gate_builtin (b := .append) (xs := #[.tmp 16,.tmp 19]) rfl ?_);at_builtin;refine Kd.R_append (Kd.int .i64) (w0 := w) w.heap.size rfl (.tmp 16) (.tmp 19) 29 3 (.int .i64 0) 8 rfl Try.underlying29 info3 rfl (by decide) (by omega) u3 x3_1 ((rd_T49 l0 x12_1).f0) [.int .i64 ((rd_T49 l0 x12_1).f0)] (fun _ => True) (fun _ => False) rfl (by go_simp <;> rfl) ?aP (fun _ hk => hk.elim) ?aF ?aO ?aB ?aS ?aL ?_;(case aP => exact rfl);(case aB => exact (zb1 HB.out GE299.out));(case aF => exact (fun _ _ => trivial));(case aO => exact (by (with_reducible repeat (first|apply Kd.R_alloc|apply Kd.R_drewN|apply Kd.R_drew));exact Kd.R_mono (Kd.R_far (p := ⟨gb299,1,none⟩) (Kd.R_far (p := ⟨gb299,0,none⟩) (Kd.R_types HO_3.out BK299.out (by decide)) (fun _ hk => hk.2) (.int .i64 ((rd_T49 l0 x12_1).f0))) (fun _ hk => hk.2) (.int .i64 ((rd_T49 l0 x12_1).f1))) (fun _ hk => trivial)));(case aS => exact (bwZ (zb1 HB.out GE299.out)));(case aL => have := LMc10.out;omega);intro v301 w27 ho hb hg hat;rw [← Ny300.out] at ho;have n0_ := As_ (blk_grown (g := gb299) (o := .cells #[.int .i64 ((rd_T49 l0 x12_1).f0),.int .i64 ((rd_T49 l0 x12_1).f1)] 49 (0,0)) (by (with_reducible repeat first|apply bkN|apply bkD|apply bkA);refine blk_put (cs := #[.int .i64 ((rd_T49 l0 x12_1).f0),.int .i64 0]) ?_ 1 _ rfl;(with_reducible repeat first|apply bkN|apply bkD|apply bkA);refine blk_put (cs := #[.int .i64 0,.int .i64 0]) ?_ 0 _ rfl;(with_reducible repeat first|apply bkN|apply bkD|apply bkA);exact BK299.out) hg (Kd.R_ne HO_3.out BK299.out (by decide)));have n1_ := As_ (hb);have n2_ := As_ (ho);clear BK299 HB HO_3;revert n0_ n1_ n2_;intro BK299 HB HO302;clear ho hb hg hat;obtain ⟨hcz28_0,hcz28_1,hfz28_0,hfz28_1⟩ := bk2 BK299.out)|((with_reducible refine gate_callee (f := 62) rfl ?_);refine goesL_ (some 34) rfl rfl Try.func62 (by kernel_rfl) rfl #[.int .i64 ((rd_T49 l0 x12_1).f0)] rfl zM_ ?_;(with_reducible refine (impl_mostArg.calls ((rd_T49 l0 x12_1).f0) t303 _ A11.out).mono ?_);rintro e w' ⟨rfl,⟨nd,rfl⟩⟩;refine ⟨_,rfl,?_⟩)|((with_reducible refine gate_dst (N := 29) rfl ?_);refine Kd.R_lit (Kd.int .i64) _ 3 ?hg (N := 29) ?hd (xs := ([wrap64 (128 + (Int.tmod ((rd_T49 l0 x12_1).f1) 128)),wrap64 (Int.tdiv ((rd_T49 l0 x12_1).f1) 128)] : List Int)) (inner := [.int .i64 (wrap64 (128 + (Int.tmod ((rd_T49 l0 x12_1).f1) 128))),.int .i64 (wrap64 (Int.tdiv ((rd_T49 l0 x12_1).f1) 128))]) (ok := fun _ => True) (okp := fun _ => True) ?hr ?hp (fun _ hk => hk) trivial (Below.refl _ _) (Nat.le_refl _) (by simp) ?_;(case hd => rfl);(case hg => rfl);(case hr => go_simp <;> rfl);(case hp => exact (Reps.one (show Kd.M (Kd.int .i64) _ _ _ (wrap64 (128 + (Int.tmod ((rd_T49 l0 x12_1).f1) 128))) [.int .i64 (wrap64 (128 + (Int.tmod ((rd_T49 l0 x12_1).f1) 128)))] from rfl) (Reps.one (show Kd.M (Kd.int .i64) _ _ _ (wrap64 (Int.tdiv ((rd_T49 l0 x12_1).f1) 128)) [.int .i64 (wrap64 (Int.tdiv ((rd_T49 l0 x12_1).f1) 128))] from rfl) (Reps.none _ _))));intro v308 w29 ho30 hb hg_ hnew_;clear hg_ hnew_;(first|rw [← Ny307.out] at ho30|(simp only [Int.reduceToNat] at ho30;rw [← Ny307.out] at ho30));have n0_ := As_ (Kd.R_elder' (zR_ HO302.out) (Kd.R_base ho30) hb);have n1_ := As_ (Kd.R_lower (Kd.R_new' ho30 (Kd.R_lt (zR_ HO302.out))) (bwZ (zb1 HB.out GE299.out)));have n2_ := As_ (zkb BK299.out hb);have n3_ := As_ (bwT (zb1 HB.out GE299.out) hb);clear HO302 BK299 HB;revert n0_ n1_ n2_ n3_;intro HO302 HO309 BK299 HB;clear hb ho30;obtain ⟨Ao32,co32,eo32⟩ := Kd.R_slice HO309.out;subst eo32)|((with_reducible refine gate_builtin (b := .append) (xs := #[.tmp 21,.tmp 29]) rfl ?_);at_builtin;refine Kd.R_append_rows (Kd.int .i64) (w0 := w) w.heap.size rfl (.tmp 21) (.tmp 29) 29 3 (.int .i64 0) 8 rfl Try.underlying29 info3 rfl (by decide) (by omega) v301 y300 y307 _ _ _ (fun k_ => some k_ ≠ (.slice Ao32 y307.length co32 : Value).ownBlock) (fun _ => False) rfl rfl ?aO ?aR (fun _ _ h => h) (fun _ h => h.elim) ?aF ?aB ?aS ?aL ?_;(case aR => exact zC_ (Kd.R_reads' HO309.out).2.2);(case aB => exact (zb1 HB.out GE299.out));(case aF => exact (fun k_ hk => Kd.fresh' (Kd.R_lt (zR_ HO309.out)) k_ hk));(case aO => exact (by (with_reducible repeat (first|apply Kd.R_alloc|apply Kd.R_drewN|apply Kd.R_drew));exact Kd.R_mono HO302.out (fun _ hk => hk.2)));(case aS => exact (bwZ (zb1 HB.out GE299.out)));(case aL => have := LMc24.out;omega);intro v311 w31 ho hb hg hat;rw [← Ny310.out] at ho;have n0_ := As_ (blk_grown (g := gb299) (o := .cells #[.int .i64 ((rd_T49 l0 x12_1).f0),.int .i64 ((rd_T49 l0 x12_1).f1)] 49 (0,0)) (zk_ BK299.out) hg (Kd.R_ne HO302.out BK299.out (by decide)));have n1_ := As_ (Kd.R_after (ok := (fun _ => True)) (zR_ HO309.out) hg hat);have n2_ := As_ (hb);have n3_ := As_ (ho);clear BK299 HO309 HB HO302;revert n0_ n1_ n2_ n3_;intro BK299 HO309 HB HO312;clear ho hb hg hat))
   go_roundg k1
   case measure => have := HK1.out;omega
   case rel => exact ⟨(y310),(wrap64 (x12_1 + 1)),zT_,H',⟨by have := HK1.out;omega⟩,⟨by (with_reducible repeat (first|apply Kd.R_alloc|apply Kd.R_drewN|apply Kd.R_drew));exact Kd.R_mono HO312.out (fun _ hk => trivial)⟩,⟨zb1 HB.out GE299.out⟩⟩
end Go.Proofs.Ytonppkaobnfldaa.Q
