-- Written by wip/tools/qprint.py (a program of this claim's author) by means of the kit's printer.
import Derived.Test.YtbokjhdhpmmpfaaQ0
import Derived.Test.YtbokjhdhpmmpfaaQ55
import Derived.Test.YtbokjhdhpmmpfaaQ118
namespace Go.Proofs.Ytbokjhdhpmmpfaa.Q
open Go.RowKit Go.Proofs.YtbokjhdhpmmpfaaW.PrintWords Go.Proofs.YtbokjhdhpmmpfaaW.PrintLast Go.Proofs.YtbokjhdhpmmpfaaW.PrintMore
attribute [local go_sem] max2_int min2_int max_two min_two max_three min_three max_four min_four   -- for this text's walks alone
set_option linter.unusedVariables false
set_option linter.unusedSimpArgs false

/-! ### spec_DepthsOf: function 119 -/
def spec_DepthsOf.l0 : Nat → List (S75) → List Int → Int → Int → Option (List Int)
 | 0,_,_,_,_ => none
 | k + 1,x0,x3,x5,x6 => if x6 ≤ x5 then (if 0 ≤ x6 then (if x6 ≤ (x0.length : Int) then ((spec_runShapes.f k (x0.take (x6 : Int).toNat)).bind fun l6 => (if x3.length < 17592186044416 then (spec_DepthsOf.l0 k x0 (x3 ++ [(l6.2.2.1.length : Int)]) x5 (wrap64 (x6 + 1))) else (none))) else (none)) else (none)) else (some x3)
def spec_DepthsOf.f (k : Nat) (l0 : List (S75)) : Option (List Int) := (spec_validOps.f k l0).bind fun j6 => (if j6 = true then ((spec_runShapes.f k l0).bind fun e6 => (spec_DepthsOf.l0 k l0 (([] : List Int)) e6.2.2.2.2.2 1)) else (some ([] : List Int)))
set_option maxRecDepth 100000 in
theorem spec_DepthsOf.mono_l : ∀ k,(∀ y0 y1 y2 y3,LeO (spec_DepthsOf.l0 k y0 y1 y2 y3) (spec_DepthsOf.l0 (k + 1) y0 y1 y2 y3))
 | 0 => fun _ _ _ _ r h => (by cases h)
 | k + 1 => by
  have ih0 := spec_DepthsOf.mono_l k
  ·intro y0 y1 y2 y3
   unfold spec_DepthsOf.l0
   repeat' first
   | (with_reducible exact ih0 _ _ _ _)
   | (with_reducible exact spec_runShapes.mono _ _)
   | (with_reducible exact spec_validOps.mono _ _)
   | (with_reducible exact LeO.refl _)
   | (with_reducible exact LeO.none _)
   | (with_reducible refine LeO.ite ?_ ?_)
   | (with_reducible refine LeO.bind ?_ (fun _ => ?_))
   | exact ih0 _ _ _ _
   | exact spec_runShapes.mono _ _
   | exact spec_validOps.mono _ _
   | exact LeO.none _
   | refine LeO.ite ?_ ?_
   | refine LeO.bind ?_ (fun _ => ?_)
set_option maxRecDepth 100000 in
theorem spec_DepthsOf.mono : ∀ a0 k,LeO (spec_DepthsOf.f k a0) (spec_DepthsOf.f (k + 1) a0) := by
 intro a0 k
 have ih0 := spec_DepthsOf.mono_l k
 unfold spec_DepthsOf.f
 repeat' first
   | (with_reducible exact ih0 _ _ _ _)
   | (with_reducible exact spec_runShapes.mono _ _)
   | (with_reducible exact spec_validOps.mono _ _)
   | (with_reducible exact LeO.refl _)
   | (with_reducible exact LeO.none _)
   | (with_reducible refine LeO.ite ?_ ?_)
   | (with_reducible refine LeO.bind ?_ (fun _ => ?_))
   | exact ih0 _ _ _ _
   | exact spec_runShapes.mono _ _
   | exact spec_validOps.mono _ _
   | exact LeO.none _
   | refine LeO.ite ?_ ?_
   | refine LeO.bind ?_ (fun _ => ?_)
set_option maxHeartbeats 8000000 in
set_option maxRecDepth 100000 in
theorem spec_DepthsOf.calls (k : Nat) (A0 : Option Addr) (c0 : Nat) (l0 : List (S75)) (r : List Int) (w : World) (hr0 : Kd.C k75 w A0 l0.length l0) (hc0 : l0.length ≤ c0) (h : spec_DepthsOf.f k l0 = some r) :
  Calls Try.prog 119 #[.slice A0 l0.length c0] w fun e w' => ∃ v0_ : Value,e = .returned (v0_) ∧ Kd.R (Kd.int .i64) 3 w' w.heap.size (fun _ => True) v0_ r ∧ Below w.heap.size w w' := by
 have hu120 := Try.underlying120
 have HR0 := As_ hr0
 have HC0 := As_ hc0
 clear hr0 hc0
 have HB := As_ (Below.refl w.heap.size w)
 have H : ((spec_validOps.f k l0).bind fun j6 => (if j6 = true then ((spec_runShapes.f k l0).bind fun e6 => (spec_DepthsOf.l0 k l0 (([] : List Int)) e6.2.2.2.2.2 1)) else (some ([] : List Int)))) = some r := h
 clear h
 replace H := obS H
 obtain ⟨j6,A20,H⟩ := H
 replace H : (if j6 = true then ((spec_runShapes.f k l0).bind fun e6 => (spec_DepthsOf.l0 k l0 (([] : List Int)) e6.2.2.2.2.2 1)) else (some ([] : List Int))) = some r := H
 have A2 := As_ A20
 clear A20
 by_cases c3 : j6 = true
 rotate_left
 ·replace c3 := Bool.eq_false_iff.mpr c3
  subst c3
  have H1 : (some ([] : List Int)) = some r := by rw [if_neg (show ¬ (false = true) by decide)] at H;exact H
  clear H
  have H := H1
  clear H1
  obtain rfl := Option.some.inj H
  go_enter Try.func119,Try.ntmps119
  go_wp2_with (first|((with_reducible refine gate_callee (f := 55) rfl ?_);refine goesL_ (some 10) rfl rfl Try.func55 (by kernel_rfl) rfl #[.slice A0 l0.length c0] rfl zM_ ?_;(with_reducible refine (spec_validOps.calls k _ _ l0 false _ ?side1 ?side2 A2.out).mono ?_);(case side1 => repeat (first|exact HR0.out|(with_reducible refine Kd.C_alloc ?_ _)|(with_reducible refine Kd.C_drewN ?_ _)|(with_reducible refine Kd.C_drew ?_)));(case side2 => exact HC0.out);rintro e w30 ⟨rfl,hb⟩;refine ⟨_,rfl,?_⟩;have n0_ := As_ (bwT (zb0 HB.out) hb);clear HB;revert n0_;intro HB))
  go_ret
  exact ⟨_,zE_,by first|exact Kd.R_nil _ _ _ _ _|exact Kd.N_nil _ _ _ _ _|exact Kd.V_nil _ _ _ _ _|exact Kd.Q_nil _ _ _ _ _|exact Kd.S_nil _ _ _ _ _,zb0 HB.out⟩

 subst c3
 have H1 : ((spec_runShapes.f k l0).bind fun e6 => (spec_DepthsOf.l0 k l0 (([] : List Int)) e6.2.2.2.2.2 1)) = some r := by rw [if_pos rfl] at H;exact H
 clear H
 have H := H1
 clear H1
 obtain ⟨n4,l7⟩ : ∃ y_ : List Int,y_ = (([] : List Int)) := ⟨_,rfl⟩
 replace H : ((spec_runShapes.f k l0).bind fun e6 => (spec_DepthsOf.l0 k l0 n4 e6.2.2.2.2.2 1)) = some r := zH_ H l7
 have m9 := As_ l7
 clear l7
 replace H := obS H
 obtain ⟨⟨e7,l8,e8,e9,n5,i5⟩,A40,H⟩ := H
 replace H : (spec_DepthsOf.l0 k l0 n4 i5 1) = some r := H
 have A4 := As_ A40
 clear A40
 have H' := As_ H
 clear H
 go_enter Try.func119,Try.ntmps119
 go_wp2_with (first|((with_reducible refine gate_callee (f := 55) rfl ?_);refine goesL_ (some 10) rfl rfl Try.func55 (by kernel_rfl) rfl #[.slice A0 l0.length c0] rfl zM_ ?_;(with_reducible refine (spec_validOps.calls k _ _ l0 true _ ?side1 ?side2 A2.out).mono ?_);(case side1 => repeat (first|exact HR0.out|(with_reducible refine Kd.C_alloc ?_ _)|(with_reducible refine Kd.C_drewN ?_ _)|(with_reducible refine Kd.C_drew ?_)));(case side2 => exact HC0.out);rintro e w5 ⟨rfl,hb⟩;refine ⟨_,rfl,?_⟩;have n0_ := As_ (bwT (zb0 HB.out) hb);clear HB;revert n0_;intro HB)|((with_reducible refine gate_dst (N := 12) rfl ?_);refine Kd.R_lit (Kd.int .i64) _ 3 ?hg (N := 12) ?hd (xs := ([] : List Int)) (inner := []) (ok := fun _ => True) (okp := fun _ => True) ?hr ?hp (fun _ hk => hk) trivial (Below.refl _ _) (Nat.le_refl _) (by simp) ?_;(case hd => rfl);(case hg => rfl);(case hr => go_simp <;> rfl);(case hp => exact (Reps.none _ _));intro v869 w6 ho7 hb hg_ hnew_;clear hg_ hnew_;(first|rw [← m9.out] at ho7|(simp only [Int.reduceToNat] at ho7;rw [← m9.out] at ho7));have n0_ := As_ (Kd.R_lower ho7 (bwZ (zb0 HB.out)));have n1_ := As_ (bwT (zb0 HB.out) hb);clear HB;revert n0_ n1_;intro e2 HB;clear hb ho7)|((with_reducible refine gate_callee (f := 118) rfl ?_);refine goesL_ (some 15) rfl rfl Try.func118 (by kernel_rfl) rfl #[.slice A0 l0.length c0] rfl zM_ ?_;(with_reducible refine (spec_runShapes.calls k _ _ l0 e7 l8 e8 e9 n5 i5 _ ?side1 ?side2 A4.out).mono ?_);(case side1 => exact zC_ (Kd.C_below HR0.out HB.out));(case side2 => exact HC0.out);rintro e w8 ⟨v872,v875,v878,v881,rfl,ho0,ho1,ho2,ho3,hb⟩;refine ⟨_,rfl,?_⟩;have n0_ := As_ (Kd.R_mono (Kd.R_told (Kd.R_told (Kd.R_told (Kd.R_old (zR_ e2.out) hb) (Kd.R_base ho0)) (Kd.R_base ho2)) (Kd.R_base ho3)) (fun _ h_ => h_.1));have n1_ := As_ (Kd.R_lower (Kd.R_new' ho0 (Kd.R_lt (zR_ e2.out))) (bwZ (zb0 HB.out)));have n2_ := As_ (Kd.R_lower ho1 (bwZ (zb0 HB.out)));have n3_ := As_ (Kd.R_lower (Kd.R_new' ho2 (Kd.R_lt (zR_ e2.out))) (bwZ (zb0 HB.out)));have n4_ := As_ (Kd.R_lower (Kd.R_new' ho3 (Kd.R_lt (zR_ e2.out))) (bwZ (zb0 HB.out)));have n5_ := As_ (bwT (zb0 HB.out) hb);clear e2 HB;revert n0_ n1_ n2_ n3_ n4_ n5_;intro e2 i8 i9 j0 j1 HB)|((with_reducible refine gate_dst (N := 4) rfl ?_);refine box_event ?hg (N := 4) ?hd (cs := #[.slice none 0 0,.slice none 0 0,.slice none 0 0,.slice none 0 0,.bool false]) (t := 120) ?hr ?_;(case hd => rfl);(case hg => rfl);(case hr => go_simp <;> rfl);intro e0 hg w9 hbox hb;have n0_ := As_ (Kd.R_below (zR_ e2.out) hb);have n1_ := As_ (Kd.R_below (zR_ i8.out) hb);have n2_ := As_ (Kd.R_below (zR_ i9.out) hb);have n3_ := As_ (Kd.R_below (zR_ j0.out) hb);have n4_ := As_ (Kd.R_below (zR_ j1.out) hb);have n5_ := As_ (bwT (zb0 HB.out) hb);have n6_ := As_ (hbox);have n7_ := As_ ((by rw [hg];exact (bwZ (zb0 HB.out)) : w.heap.size ≤ e0));have n8_ := As_ ((by rw [hg];exact (bwZ (zb0 HB.out)) : w.heap.size ≤ e0));clear e2 i8 i9 j0 j1 HB;revert n0_ n1_ n2_ n3_ n4_ n5_ n6_ n7_ n8_;intro e2 i8 i9 j0 j1 HB b0 B9 d6;clear hb hbox hg;obtain ⟨Ao10,co10,eo10⟩ := Kd.R_slice i8.out;subst eo10;have p9 : w9.cell? ⟨e0,0,none⟩ = some (.slice none 0 0) := (bkC b0.out 0).trans rfl;have q0 : w9.cell? ⟨e0,1,none⟩ = some (.slice none 0 0) := (bkC b0.out 1).trans rfl;have q1 : w9.cell? ⟨e0,2,none⟩ = some (.slice none 0 0) := (bkC b0.out 2).trans rfl;have q2 : w9.cell? ⟨e0,3,none⟩ = some (.slice none 0 0) := (bkC b0.out 3).trans rfl;have q3 : w9.cell? ⟨e0,4,none⟩ = some (.bool false) := (bkC b0.out 4).trans rfl;have q4 := bkF b0.out 0;have q5 := bkF b0.out 1;have q6 := bkF b0.out 2;have q7 := bkF b0.out 3;have q8 := bkF b0.out 4;obtain ⟨Ao12,co12,eo12⟩ := Kd.R_slice i9.out;subst eo12;obtain ⟨Ao13,co13,eo13⟩ := Kd.R_slice j0.out;subst eo13;obtain ⟨Ao14,co14,eo14⟩ := Kd.R_slice j1.out;subst eo14))
 go_loopg [3,6] k (fun kq v3 v6 w' => ∃ (e5 : List Int) (d0 : Int),v6 = .int .i64 d0 ∧ Aside0 (spec_DepthsOf.l0 kq l0 e5 i5 d0 = some r) ∧ Aside0 (kq ≤ k) ∧ Aside0 (Kd.R (Kd.int .i64) 3 w' w.heap.size (fun k_ => some k_ ≠ ((.slice Ao10 e7.length co10) : Value).ownBlock ∧ some k_ ≠ ((.slice Ao13 e8.length co13) : Value).ownBlock ∧ some k_ ≠ ((.slice Ao14 e9.length co14) : Value).ownBlock) v3 e5) ∧ Aside0 (Kd.R (Kd.int .i64) 3 w' w.heap.size (fun k_ => some k_ ≠ (v3 : Value).ownBlock ∧ some k_ ≠ ((.slice Ao13 e8.length co13) : Value).ownBlock ∧ some k_ ≠ ((.slice Ao14 e9.length co14) : Value).ownBlock) (.slice Ao10 e7.length co10) e7) ∧ Aside0 (Kd.R Kd.bool 4 w' w.heap.size (fun _ => True) (.slice Ao12 l8.length co12) l8) ∧ Aside0 (Kd.R (Kd.int .i64) 3 w' w.heap.size (fun k_ => some k_ ≠ (v3 : Value).ownBlock ∧ some k_ ≠ ((.slice Ao10 e7.length co10) : Value).ownBlock ∧ some k_ ≠ ((.slice Ao14 e9.length co14) : Value).ownBlock) (.slice Ao13 e8.length co13) e8) ∧ Aside0 (Kd.R (Kd.int .i64) 3 w' w.heap.size (fun k_ => some k_ ≠ (v3 : Value).ownBlock ∧ some k_ ≠ ((.slice Ao10 e7.length co10) : Value).ownBlock ∧ some k_ ≠ ((.slice Ao13 e8.length co13) : Value).ownBlock) (.slice Ao14 e9.length co14) e9) ∧ Aside0 (w'.heap[e0]? = some (.cells #[(.slice Ao10 e7.length co10),(.slice Ao12 l8.length co12),(.slice Ao13 e8.length co13),(.slice Ao14 e9.length co14),.bool n5] 120 (0,0))) ∧ Aside0 (Below w.heap.size w w'))
 case atStart => exact ⟨(n4),(1),zT_,H',⟨Nat.le_refl _⟩,⟨by exact Kd.R_mono (rX5 e2.out b0.out) (fun _ hk => ⟨hk.1.1.1.2,⟨hk.1.1.2,hk.1.2⟩⟩)⟩,⟨by exact Kd.R_mono (rX5 i8.out b0.out) (fun _ hk => ⟨hk.1.2,⟨hk.1.1.1,hk.1.1.2⟩⟩)⟩,⟨by exact Kd.R_mono (rX5 i9.out b0.out) (fun _ hk => trivial)⟩,⟨by exact Kd.R_mono (rX5 j0.out b0.out) (fun _ hk => ⟨hk.1.2,⟨hk.1.1.1,hk.1.1.2⟩⟩)⟩,⟨by exact Kd.R_mono (rX5 j1.out b0.out) (fun _ hk => ⟨hk.1.2,⟨hk.1.1.1,hk.1.1.2⟩⟩)⟩,⟨p5 b0.out⟩,⟨zb1 HB.out d6.out⟩⟩
 case round =>
  clear H'
  obtain ⟨e5,d0,rfl,HA,HK1,d1,a5,b1,a6,a7,b0,HB⟩ := hrel
  cases gk with
  | zero => exact absurd HA.out (fun h_ => (by cases h_))
  | succ k1 =>
   have H := HA.out
   clear HA
   simp only [spec_DepthsOf.l0] at H
   by_cases c15 : d0 ≤ i5
   rotate_left
   ·rw [if_neg c15] at H
    have n8 : decide (d0 ≤ i5) = false := deF c15
    clear c15
    obtain rfl := Option.some.inj H
    go_wp2
    go_ret
    exact ⟨_,zE_,by exact Kd.R_mono d1.out (fun _ hk => trivial),zb1 HB.out d6.out⟩
   rw [if_pos c15] at H
   have n8 : decide (d0 ≤ i5) = true := deT c15
   clear c15
   by_cases c16 : 0 ≤ d0
   rotate_left
   ·rw [if_neg c16] at H
    exact absurd H (by simp)
   rw [if_pos c16] at H
   have C0 := eq_true c16
   have C1 : decide (0 ≤ d0) = true := deT c16
   clear c16
   by_cases c17 : d0 ≤ (l0.length : Int)
   rotate_left
   ·rw [if_neg c17] at H
    exact absurd H (by simp)
   rw [if_pos c17] at H
   have C2 := eq_true c17
   have C3 : decide (d0 ≤ (l0.length : Int)) = true := deT c17
   clear c17
   obtain ⟨l9,m0⟩ : ∃ y_ : List (S75),y_ = (l0.take (d0 : Int).toNat) := ⟨_,rfl⟩
   replace H : ((spec_runShapes.f k1 l9).bind fun l6 => (if e5.length < 17592186044416 then (spec_DepthsOf.l0 k1 l0 (e5 ++ [(l6.2.2.1.length : Int)]) i5 (wrap64 (d0 + 1))) else (none))) = some r := zH_ H m0
   have n0 := As_ m0
   clear m0
   replace H := obS H
   obtain ⟨⟨j2,n9,g9,j3,o0,B5⟩,A180,H⟩ := H
   replace H : (if e5.length < 17592186044416 then (spec_DepthsOf.l0 k1 l0 (e5 ++ [(g9.length : Int)]) i5 (wrap64 (d0 + 1))) else (none)) = some r := H
   have A18 := As_ A180
   clear A180
   by_cases c19 : e5.length < 17592186044416
   rotate_left
   ·rw [if_neg c19] at H
    exact absurd H (by simp)
   rw [if_pos c19] at H
   have o1 := As_ c19
   clear c19
   obtain ⟨o2,m1⟩ : ∃ y_ : List Int,y_ = (e5 ++ [(g9.length : Int)]) := ⟨_,rfl⟩
   replace H : (spec_DepthsOf.l0 k1 l0 o2 i5 (wrap64 (d0 + 1))) = some r := zH_ H m1
   have o3 := As_ m1
   clear m1
   have H' := As_ H
   clear H
   have q20 : (d0 : Int) ≤ ((l0.length : Int) : Int) := odT zA_
   obtain ⟨i020,hi020,_,hsz20,_⟩ := info_parts info75
   have hroom20 : l0.length ≤ c0 := HC0.out
   have hC20 : Kd.C k75 _ A0 l0.length l0 := HR0.out
   have hcut20 := cut_to (P := Try.prog) 23 75 .i64 Try.underlying23 hi020 A0 l0.length c0 d0 (odT zA_) q20 hroom20
   have hr20 := Kd.C_take (m := (d0 : Int).toNat) hC20 (by omega)
   have n6 : l9.length = (d0 : Int).toNat := (by rw [n0.out,List.length_take];omega)
   rw [← n0.out] at hr20
   rw [← n6] at hcut20
   have HR889 := As_ hr20
   have HC889 := As_ (show l9.length ≤ c0 from by omega)
   clear hr20 hC20 hroom20 hi020 hsz20
   have KY20 := As_ n6
   clear n6
   replace q20 := eq_true q20
   go_wp2_with (first|((with_reducible refine gate_callee (f := 118) rfl ?_);refine goesL_ (some 27) rfl rfl Try.func118 (by kernel_rfl) rfl #[.slice A0 l9.length c0] rfl zM_ ?_;(with_reducible refine (spec_runShapes.calls k1 _ _ l9 j2 n9 g9 j3 o0 B5 _ ?side1 ?side2 A18.out).mono ?_);(case side1 => exact zC_ (Kd.C_below HR889.out HB.out));(case side2 => exact HC889.out);rintro e w21 ⟨v891,v894,v897,v900,rfl,ho0,ho1,ho2,ho3,hb⟩;refine ⟨_,rfl,?_⟩;have n0_ := As_ (Kd.R_mono (Kd.R_told (Kd.R_told (Kd.R_told (Kd.R_old (zR_ d1.out) hb) (Kd.R_base ho0)) (Kd.R_base ho2)) (Kd.R_base ho3)) (fun _ h_ => h_.1));have n1_ := As_ (Kd.R_mono (Kd.R_told (Kd.R_told (Kd.R_told (Kd.R_old (zR_ a5.out) hb) (Kd.R_base ho0)) (Kd.R_base ho2)) (Kd.R_base ho3)) (fun _ h_ => h_.1));have n2_ := As_ (Kd.R_elder' (zR_ b1.out) (Kd.R_base ho1) hb);have n3_ := As_ (Kd.R_mono (Kd.R_told (Kd.R_told (Kd.R_told (Kd.R_old (zR_ a6.out) hb) (Kd.R_base ho0)) (Kd.R_base ho2)) (Kd.R_base ho3)) (fun _ h_ => h_.1));have n4_ := As_ (Kd.R_mono (Kd.R_told (Kd.R_told (Kd.R_told (Kd.R_old (zR_ a7.out) hb) (Kd.R_base ho0)) (Kd.R_base ho2)) (Kd.R_base ho3)) (fun _ h_ => h_.1));have n5_ := As_ (Kd.R_lower (Kd.R_new' (Kd.R_new' (Kd.R_new' (Kd.R_new' ho0 (Kd.R_lt (zR_ d1.out))) (Kd.R_lt (zR_ a5.out))) (Kd.R_lt (zR_ a6.out))) (Kd.R_lt (zR_ a7.out))) (bwZ (zb1 HB.out d6.out)));have n6_ := As_ (Kd.R_lower (Kd.R_new' ho1 (Kd.R_lt (zR_ b1.out))) (bwZ (zb1 HB.out d6.out)));have n7_ := As_ (Kd.R_lower (Kd.R_new' (Kd.R_new' (Kd.R_new' (Kd.R_new' ho2 (Kd.R_lt (zR_ d1.out))) (Kd.R_lt (zR_ a5.out))) (Kd.R_lt (zR_ a6.out))) (Kd.R_lt (zR_ a7.out))) (bwZ (zb1 HB.out d6.out)));have n8_ := As_ (Kd.R_lower (Kd.R_new' (Kd.R_new' (Kd.R_new' (Kd.R_new' ho3 (Kd.R_lt (zR_ d1.out))) (Kd.R_lt (zR_ a5.out))) (Kd.R_lt (zR_ a6.out))) (Kd.R_lt (zR_ a7.out))) (bwZ (zb1 HB.out d6.out)));have n9_ := As_ (zkb b0.out hb);have n10_ := As_ (bwT (zb1 HB.out d6.out) hb);clear d1 a5 b1 a6 a7 b0 HB;revert n0_ n1_ n2_ n3_ n4_ n5_ n6_ n7_ n8_ n9_ n10_;intro d1 a5 b1 a6 a7 g6 i2 g7 g8 b0 HB)|((with_reducible refine gate_dst (N := 7) rfl ?_);refine box_event ?hg (N := 7) ?hd (cs := #[.slice none 0 0,.slice none 0 0,.slice none 0 0,.slice none 0 0,.bool false]) (t := 120) ?hr ?_;(case hd => rfl);(case hg => rfl);(case hr => go_simp <;> rfl);intro e3 hg w22 hbox hb;have n0_ := As_ (Kd.R_below (zR_ d1.out) hb);have n1_ := As_ (Kd.R_below (zR_ a5.out) hb);have n2_ := As_ (Kd.R_below (zR_ b1.out) hb);have n3_ := As_ (Kd.R_below (zR_ a6.out) hb);have n4_ := As_ (Kd.R_below (zR_ a7.out) hb);have n5_ := As_ (Kd.R_below (zR_ g6.out) hb);have n6_ := As_ (Kd.R_below (zR_ i2.out) hb);have n7_ := As_ (Kd.R_below (zR_ g7.out) hb);have n8_ := As_ (Kd.R_below (zR_ g8.out) hb);have n9_ := As_ (zkb b0.out hb);have n10_ := As_ (bwT (zb1 HB.out d6.out) hb);have n11_ := As_ (hbox);have n12_ := As_ ((by rw [hg];exact (bwZ (zb1 HB.out d6.out)) : w.heap.size ≤ e3));have n13_ := As_ ((by rw [hg];exact (bwZ (zb1 HB.out d6.out)) : w.heap.size ≤ e3));have n14_ := As_ ((by rw [hg];exact Nat.ne_of_lt (zkl b0.out) : e0 ≠ e3));have n15_ := As_ ((by rw [hg];exact Nat.ne_of_gt (zkl b0.out) : e3 ≠ e0));clear d1 a5 b1 a6 a7 g6 i2 g7 g8 b0 HB;revert n0_ n1_ n2_ n3_ n4_ n5_ n6_ n7_ n8_ n9_ n10_ n11_ n12_ n13_ n14_ n15_;intro d1 a5 b1 a6 a7 g6 i2 g7 g8 b0 HB a8 C4 m2 i4 j7;clear hb hbox hg;obtain ⟨Ao23,co23,eo23⟩ := Kd.R_slice g6.out;subst eo23;have C5 := j7.out;have C6 := i4.out;have q9 : w22.cell? ⟨e3,0,none⟩ = some (.slice none 0 0) := (bkC a8.out 0).trans rfl;have r0 : w22.cell? ⟨e3,1,none⟩ = some (.slice none 0 0) := (bkC a8.out 1).trans rfl;have r6 : w22.cell? ⟨e3,2,none⟩ = some (.slice none 0 0) := (bkC a8.out 2).trans rfl;have r7 : w22.cell? ⟨e3,3,none⟩ = some (.slice none 0 0) := (bkC a8.out 3).trans rfl;have r8 : w22.cell? ⟨e3,4,none⟩ = some (.bool false) := (bkC a8.out 4).trans rfl;have r9 := bkF a8.out 0;have s5 := bkF a8.out 1;have s6 := bkF a8.out 2;have s7 := bkF a8.out 3;have s8 := bkF a8.out 4;obtain ⟨Ao26,co26,eo26⟩ := Kd.R_slice i2.out;subst eo26;obtain ⟨Ao27,co27,eo27⟩ := Kd.R_slice g7.out;subst eo27;obtain ⟨Ao28,co28,eo28⟩ := Kd.R_slice g8.out;subst eo28)|((with_reducible refine gate_builtin (b := .append) (xs := #[.tmp 30,.tmp 34]) rfl ?_);at_builtin;refine Kd.R_append (Kd.int .i64) (w0 := w) w.heap.size rfl (.tmp 30) (.tmp 34) 22 3 (.int .i64 0) 8 rfl Try.underlying22 info3 rfl (by decide) (by omega) u3 e5 (g9.length : Int) [.int .i64 (g9.length : Int)] (fun k_ => some k_ ≠ (.slice Ao10 e7.length co10 : Value).ownBlock ∧ some k_ ≠ (.slice Ao13 e8.length co13 : Value).ownBlock ∧ some k_ ≠ (.slice Ao14 e9.length co14 : Value).ownBlock ∧ some k_ ≠ (.slice Ao23 j2.length co23 : Value).ownBlock ∧ some k_ ≠ (.slice Ao27 g9.length co27 : Value).ownBlock ∧ some k_ ≠ (.slice Ao28 j3.length co28 : Value).ownBlock) (fun _ => False) rfl (by go_simp <;> rfl) ?aP (fun _ hk => hk.elim) ?aF ?aO ?aB ?aS ?aL ?_;(case aP => exact rfl);(case aB => exact (zb2 HB.out d6.out m2.out));(case aF => exact (fun k_ hk => ⟨Kd.fresh' (Kd.R_lt (by exact (Kd.R_mono (rX5 a5.out a8.out) (fun _ h_ => h_.1)))) k_ hk,Kd.fresh' (Kd.R_lt (by exact (Kd.R_mono (rX5 a6.out a8.out) (fun _ h_ => h_.1)))) k_ hk,Kd.fresh' (Kd.R_lt (by exact (Kd.R_mono (rX5 a7.out a8.out) (fun _ h_ => h_.1)))) k_ hk,Kd.fresh' (Kd.R_lt (by exact (Kd.R_mono (rX5 g6.out a8.out) (fun _ h_ => h_.1)))) k_ hk,Kd.fresh' (Kd.R_lt (by exact (Kd.R_mono (rX5 g7.out a8.out) (fun _ h_ => h_.1)))) k_ hk,Kd.fresh' (Kd.R_lt (by exact (Kd.R_mono (rX5 g8.out a8.out) (fun _ h_ => h_.1)))) k_ hk⟩));(case aO => exact (by exact Kd.R_mono (rX5 d1.out a8.out) (fun _ hk => ⟨hk.1.1.1.1.1,⟨hk.1.1.1.1.2.1,⟨hk.1.1.1.1.2.2,⟨hk.1.1.1.2,⟨hk.1.1.2,hk.1.2⟩⟩⟩⟩⟩)));(case aS => exact (bwZ (zb2 HB.out d6.out m2.out)));(case aL => have := o1.out;omega);intro v906 w29 ho hb hg hat;rw [← o3.out] at ho;have n0_ := As_ (Kd.R_after (ok := (fun k_ => some k_ ≠ (.slice Ao13 e8.length co13 : Value).ownBlock ∧ some k_ ≠ (.slice Ao14 e9.length co14 : Value).ownBlock ∧ some k_ ≠ (.slice Ao23 j2.length co23 : Value).ownBlock ∧ some k_ ≠ (.slice Ao27 g9.length co27 : Value).ownBlock ∧ some k_ ≠ (.slice Ao28 j3.length co28 : Value).ownBlock)) (by exact Kd.R_mono (rX5 a5.out a8.out) (fun _ hk => ⟨⟨hk.1.1.1.1.2.1,⟨hk.1.1.1.1.2.2,⟨hk.1.1.1.2,⟨hk.1.1.2,hk.1.2⟩⟩⟩⟩,hk.1.1.1.1.1⟩)) hg hat);have n1_ := As_ (Kd.R_over' (by exact (Kd.R_mono (rX5 b1.out a8.out) (fun _ h_ => h_.1))) (Kd.R_typed (by exact (Kd.R_mono (rX5 d1.out a8.out) (fun _ h_ => h_.1)))) (by decide) hg);have n2_ := As_ (Kd.R_after (ok := (fun k_ => some k_ ≠ (.slice Ao10 e7.length co10 : Value).ownBlock ∧ some k_ ≠ (.slice Ao14 e9.length co14 : Value).ownBlock ∧ some k_ ≠ (.slice Ao23 j2.length co23 : Value).ownBlock ∧ some k_ ≠ (.slice Ao27 g9.length co27 : Value).ownBlock ∧ some k_ ≠ (.slice Ao28 j3.length co28 : Value).ownBlock)) (by exact Kd.R_mono (rX5 a6.out a8.out) (fun _ hk => ⟨⟨hk.1.1.1.1.2.1,⟨hk.1.1.1.1.2.2,⟨hk.1.1.1.2,⟨hk.1.1.2,hk.1.2⟩⟩⟩⟩,hk.1.1.1.1.1⟩)) hg hat);have n3_ := As_ (Kd.R_after (ok := (fun k_ => some k_ ≠ (.slice Ao10 e7.length co10 : Value).ownBlock ∧ some k_ ≠ (.slice Ao13 e8.length co13 : Value).ownBlock ∧ some k_ ≠ (.slice Ao23 j2.length co23 : Value).ownBlock ∧ some k_ ≠ (.slice Ao27 g9.length co27 : Value).ownBlock ∧ some k_ ≠ (.slice Ao28 j3.length co28 : Value).ownBlock)) (by exact Kd.R_mono (rX5 a7.out a8.out) (fun _ hk => ⟨⟨hk.1.1.1.1.2.1,⟨hk.1.1.1.1.2.2,⟨hk.1.1.1.2,⟨hk.1.1.2,hk.1.2⟩⟩⟩⟩,hk.1.1.1.1.1⟩)) hg hat);have n4_ := As_ (blk_grown (g := e0) (o := .cells #[.slice Ao10 e7.length co10,.slice Ao12 l8.length co12,.slice Ao13 e8.length co13,.slice Ao14 e9.length co14,.bool n5] 120 (0,0)) (f5 i4.out b0.out) hg (rne d1.out b0.out));have n5_ := As_ (Kd.R_after (ok := (fun k_ => some k_ ≠ (.slice Ao10 e7.length co10 : Value).ownBlock ∧ some k_ ≠ (.slice Ao13 e8.length co13 : Value).ownBlock ∧ some k_ ≠ (.slice Ao14 e9.length co14 : Value).ownBlock ∧ some k_ ≠ (.slice Ao27 g9.length co27 : Value).ownBlock ∧ some k_ ≠ (.slice Ao28 j3.length co28 : Value).ownBlock)) (by exact Kd.R_mono (rX5 g6.out a8.out) (fun _ hk => ⟨⟨hk.1.1.1.2,⟨hk.1.1.2,⟨hk.1.2,⟨hk.1.1.1.1.1.1,hk.1.1.1.1.1.2⟩⟩⟩⟩,hk.1.1.1.1.2⟩)) hg hat);have n6_ := As_ (Kd.R_over' (by exact (Kd.R_mono (rX5 i2.out a8.out) (fun _ h_ => h_.1))) (Kd.R_typed (by exact (Kd.R_mono (rX5 d1.out a8.out) (fun _ h_ => h_.1)))) (by decide) hg);have n7_ := As_ (Kd.R_after (ok := (fun k_ => some k_ ≠ (.slice Ao10 e7.length co10 : Value).ownBlock ∧ some k_ ≠ (.slice Ao13 e8.length co13 : Value).ownBlock ∧ some k_ ≠ (.slice Ao14 e9.length co14 : Value).ownBlock ∧ some k_ ≠ (.slice Ao23 j2.length co23 : Value).ownBlock ∧ some k_ ≠ (.slice Ao28 j3.length co28 : Value).ownBlock)) (by exact Kd.R_mono (rX5 g7.out a8.out) (fun _ hk => ⟨⟨hk.1.1.1.2,⟨hk.1.1.2,⟨hk.1.2,⟨hk.1.1.1.1.1.1,hk.1.1.1.1.1.2⟩⟩⟩⟩,hk.1.1.1.1.2⟩)) hg hat);have n8_ := As_ (Kd.R_after (ok := (fun k_ => some k_ ≠ (.slice Ao10 e7.length co10 : Value).ownBlock ∧ some k_ ≠ (.slice Ao13 e8.length co13 : Value).ownBlock ∧ some k_ ≠ (.slice Ao14 e9.length co14 : Value).ownBlock ∧ some k_ ≠ (.slice Ao23 j2.length co23 : Value).ownBlock ∧ some k_ ≠ (.slice Ao27 g9.length co27 : Value).ownBlock)) (by exact Kd.R_mono (rX5 g8.out a8.out) (fun _ hk => ⟨⟨hk.1.1.1.2,⟨hk.1.1.2,⟨hk.1.2,⟨hk.1.1.1.1.1.1,hk.1.1.1.1.1.2⟩⟩⟩⟩,hk.1.1.1.1.2⟩)) hg hat);have n9_ := As_ (blk_grown (g := e3) (o := .cells #[.slice Ao23 j2.length co23,.slice Ao26 n9.length co26,.slice Ao27 g9.length co27,.slice Ao28 j3.length co28,.bool o0] 120 (0,0)) (p5 a8.out) hg (rne d1.out a8.out));have n10_ := As_ (hb);have n11_ := As_ (ho);clear a5 b1 a6 a7 b0 g6 i2 g7 g8 a8 HB d1;revert n0_ n1_ n2_ n3_ n4_ n5_ n6_ n7_ n8_ n9_ n10_ n11_;intro a5 b1 a6 a7 b0 g6 i2 g7 g8 a8 HB o4;clear ho hb hg hat))
   go_roundg k1
   case measure => have := HK1.out;omega
   case rel => exact ⟨(o2),(wrap64 (d0 + 1)),zT_,H',⟨by have := HK1.out;omega⟩,⟨by exact Kd.R_mono o4.out (fun _ hk => ⟨hk.1,⟨hk.2.1,hk.2.2.1⟩⟩)⟩,⟨by exact Kd.R_mono a5.out (fun _ hk => ⟨hk.2,⟨hk.1.1,hk.1.2.1⟩⟩)⟩,⟨by exact Kd.R_mono b1.out (fun _ hk => trivial)⟩,⟨by exact Kd.R_mono a6.out (fun _ hk => ⟨hk.2,⟨hk.1.1,hk.1.2.1⟩⟩)⟩,⟨by exact Kd.R_mono a7.out (fun _ hk => ⟨hk.2,⟨hk.1.1,hk.1.2.1⟩⟩)⟩,⟨b0.out⟩,⟨zb2 HB.out d6.out m2.out⟩⟩
/-! ### spec_ClassesIn: function 120 -/
mutual
def spec_ClassesIn.l0 : Nat → List (S75) → List Int → Int → Option (List Int)
 | 0,_,_,_ => none
 | k + 1,x0,x3,x4 => if x4 ≤ 9 then (spec_ClassesIn.l1 k x0 x3 x4 0) else (some x3)
def spec_ClassesIn.l1 : Nat → List (S75) → List Int → Int → Int → Option (List Int)
 | 0,_,_,_,_ => none
 | k + 1,x0,x3,x4,x5 => if x5 < (x0.length : Int) then (if 0 ≤ x5 then (if ((rd_T75 x0 x5).f0) = 13 then (if ((rd_T75 x0 x5).f1) = x4 then (if x3.length < 17592186044416 then (spec_ClassesIn.l0 k x0 (x3 ++ [x4]) (wrap64 (x4 + 1))) else (none)) else (spec_ClassesIn.l1 k x0 x3 x4 (wrap64 (x5 + 1)))) else (spec_ClassesIn.l1 k x0 x3 x4 (wrap64 (x5 + 1)))) else (none)) else (spec_ClassesIn.l0 k x0 x3 (wrap64 (x4 + 1)))
end
def spec_ClassesIn.f (k : Nat) (l0 : List (S75)) : Option (List Int) := (spec_validOps.f k l0).bind fun j8 => (if j8 = true then (spec_ClassesIn.l0 k l0 (([] : List Int)) 0) else (some ([] : List Int)))
set_option maxRecDepth 100000 in
theorem spec_ClassesIn.mono_l : ∀ k,(∀ y0 y1 y2,LeO (spec_ClassesIn.l0 k y0 y1 y2) (spec_ClassesIn.l0 (k + 1) y0 y1 y2)) ∧ (∀ y0 y1 y2 y3,LeO (spec_ClassesIn.l1 k y0 y1 y2 y3) (spec_ClassesIn.l1 (k + 1) y0 y1 y2 y3))
 | 0 => ⟨fun _ _ _ r h => (by cases h),fun _ _ _ _ r h => (by cases h)⟩
 | k + 1 => by
  obtain ⟨ih0,ih1⟩ := spec_ClassesIn.mono_l k
  refine ⟨?_,?_⟩
  ·intro y0 y1 y2
   unfold spec_ClassesIn.l0
   repeat' first
   | (with_reducible exact ih0 _ _ _)
   | (with_reducible exact ih1 _ _ _ _)
   | (with_reducible exact spec_validOps.mono _ _)
   | (with_reducible exact LeO.refl _)
   | (with_reducible exact LeO.none _)
   | (with_reducible refine LeO.ite ?_ ?_)
   | (with_reducible refine LeO.bind ?_ (fun _ => ?_))
   | exact ih0 _ _ _
   | exact ih1 _ _ _ _
   | exact spec_validOps.mono _ _
   | exact LeO.none _
   | refine LeO.ite ?_ ?_
   | refine LeO.bind ?_ (fun _ => ?_)
  ·intro y0 y1 y2 y3
   unfold spec_ClassesIn.l1
   repeat' first
   | (with_reducible exact ih0 _ _ _)
   | (with_reducible exact ih1 _ _ _ _)
   | (with_reducible exact spec_validOps.mono _ _)
   | (with_reducible exact LeO.refl _)
   | (with_reducible exact LeO.none _)
   | (with_reducible refine LeO.ite ?_ ?_)
   | (with_reducible refine LeO.bind ?_ (fun _ => ?_))
   | exact ih0 _ _ _
   | exact ih1 _ _ _ _
   | exact spec_validOps.mono _ _
   | exact LeO.none _
   | refine LeO.ite ?_ ?_
   | refine LeO.bind ?_ (fun _ => ?_)
set_option maxRecDepth 100000 in
theorem spec_ClassesIn.mono : ∀ a0 k,LeO (spec_ClassesIn.f k a0) (spec_ClassesIn.f (k + 1) a0) := by
 intro a0 k
 obtain ⟨ih0,ih1⟩ := spec_ClassesIn.mono_l k
 unfold spec_ClassesIn.f
 repeat' first
   | (with_reducible exact ih0 _ _ _)
   | (with_reducible exact ih1 _ _ _ _)
   | (with_reducible exact spec_validOps.mono _ _)
   | (with_reducible exact LeO.refl _)
   | (with_reducible exact LeO.none _)
   | (with_reducible refine LeO.ite ?_ ?_)
   | (with_reducible refine LeO.bind ?_ (fun _ => ?_))
   | exact ih0 _ _ _
   | exact ih1 _ _ _ _
   | exact spec_validOps.mono _ _
   | exact LeO.none _
   | refine LeO.ite ?_ ?_
   | refine LeO.bind ?_ (fun _ => ?_)
set_option maxHeartbeats 8000000 in
set_option maxRecDepth 100000 in
theorem spec_ClassesIn.calls (k : Nat) (A0 : Option Addr) (c0 : Nat) (l0 : List (S75)) (r : List Int) (w : World) (hr0 : Kd.C k75 w A0 l0.length l0) (hc0 : l0.length ≤ c0) (h : spec_ClassesIn.f k l0 = some r) :
  Calls Try.prog 120 #[.slice A0 l0.length c0] w fun e w' => ∃ v0_ : Value,e = .returned (v0_) ∧ Kd.R (Kd.int .i64) 3 w' w.heap.size (fun _ => True) v0_ r ∧ Below w.heap.size w w' := by
 have HR0 := As_ hr0
 have HC0 := As_ hc0
 clear hr0 hc0
 have HB := As_ (Below.refl w.heap.size w)
 have H : ((spec_validOps.f k l0).bind fun j8 => (if j8 = true then (spec_ClassesIn.l0 k l0 (([] : List Int)) 0) else (some ([] : List Int)))) = some r := h
 clear h
 replace H := obS H
 obtain ⟨j8,A20,H⟩ := H
 replace H : (if j8 = true then (spec_ClassesIn.l0 k l0 (([] : List Int)) 0) else (some ([] : List Int))) = some r := H
 have A2 := As_ A20
 clear A20
 by_cases c3 : j8 = true
 rotate_left
 ·replace c3 := Bool.eq_false_iff.mpr c3
  subst c3
  have H1 : (some ([] : List Int)) = some r := by rw [if_neg (show ¬ (false = true) by decide)] at H;exact H
  clear H
  have H := H1
  clear H1
  obtain rfl := Option.some.inj H
  go_enter Try.func120,Try.ntmps120
  go_wp2_with (first|((with_reducible refine gate_callee (f := 55) rfl ?_);refine goesL_ (some 7) rfl rfl Try.func55 (by kernel_rfl) rfl #[.slice A0 l0.length c0] rfl zM_ ?_;(with_reducible refine (spec_validOps.calls k _ _ l0 false _ ?side1 ?side2 A2.out).mono ?_);(case side1 => repeat (first|exact HR0.out|(with_reducible refine Kd.C_alloc ?_ _)|(with_reducible refine Kd.C_drewN ?_ _)|(with_reducible refine Kd.C_drew ?_)));(case side2 => exact HC0.out);rintro e w14 ⟨rfl,hb⟩;refine ⟨_,rfl,?_⟩;have n0_ := As_ (bwT (zb0 HB.out) hb);clear HB;revert n0_;intro HB))
  go_ret
  exact ⟨_,zE_,by first|exact Kd.R_nil _ _ _ _ _|exact Kd.N_nil _ _ _ _ _|exact Kd.V_nil _ _ _ _ _|exact Kd.Q_nil _ _ _ _ _|exact Kd.S_nil _ _ _ _ _,zb0 HB.out⟩

 subst c3
 have H1 : (spec_ClassesIn.l0 k l0 (([] : List Int)) 0) = some r := by rw [if_pos rfl] at H;exact H
 clear H
 have H := H1
 clear H1
 obtain ⟨o5,m3⟩ : ∃ y_ : List Int,y_ = (([] : List Int)) := ⟨_,rfl⟩
 replace H : (spec_ClassesIn.l0 k l0 o5 0) = some r := zH_ H m3
 have n1 := As_ m3
 clear m3
 have H' := As_ H
 clear H
 go_enter Try.func120,Try.ntmps120
 go_wp2_with (first|((with_reducible refine gate_callee (f := 55) rfl ?_);refine goesL_ (some 7) rfl rfl Try.func55 (by kernel_rfl) rfl #[.slice A0 l0.length c0] rfl zM_ ?_;(with_reducible refine (spec_validOps.calls k _ _ l0 true _ ?side1 ?side2 A2.out).mono ?_);(case side1 => repeat (first|exact HR0.out|(with_reducible refine Kd.C_alloc ?_ _)|(with_reducible refine Kd.C_drewN ?_ _)|(with_reducible refine Kd.C_drew ?_)));(case side2 => exact HC0.out);rintro e w4 ⟨rfl,hb⟩;refine ⟨_,rfl,?_⟩;have n0_ := As_ (bwT (zb0 HB.out) hb);clear HB;revert n0_;intro HB)|((with_reducible refine gate_dst (N := 9) rfl ?_);refine Kd.R_lit (Kd.int .i64) _ 3 ?hg (N := 9) ?hd (xs := ([] : List Int)) (inner := []) (ok := fun _ => True) (okp := fun _ => True) ?hr ?hp (fun _ hk => hk) trivial (Below.refl _ _) (Nat.le_refl _) (by simp) ?_;(case hd => rfl);(case hg => rfl);(case hr => go_simp <;> rfl);(case hp => exact (Reps.none _ _));intro v910 w5 ho6 hb hg_ hnew_;clear hg_ hnew_;(first|rw [← n1.out] at ho6|(simp only [Int.reduceToNat] at ho6;rw [← n1.out] at ho6));have n0_ := As_ (Kd.R_lower ho6 (bwZ (zb0 HB.out)));have n1_ := As_ (bwT (zb0 HB.out) hb);clear HB;revert n0_ n1_;intro o6 HB;clear hb ho6))
 go_loopg [3,4] k (fun kq v3 v4 w' => ∃ (e5 : List Int) (d9 : Int),v4 = .int .i64 d9 ∧ Aside0 (spec_ClassesIn.l0 kq l0 e5 d9 = some r) ∧ Aside0 (kq ≤ k) ∧ Aside0 (Kd.R (Kd.int .i64) 3 w' w.heap.size (fun _ => True) v3 e5) ∧ Aside0 (Below w.heap.size w w'))
 case atStart => exact ⟨(o5),(0),zT_,H',⟨Nat.le_refl _⟩,⟨o6.out⟩,⟨zb0 HB.out⟩⟩
 case round =>
  clear H'
  obtain ⟨e5,d9,rfl,HA,HK1,d1,HB⟩ := hrel
  cases gk with
  | zero => exact absurd HA.out (fun h_ => (by cases h_))
  | succ k1 =>
   have H := HA.out
   clear HA
   simp only [spec_ClassesIn.l0] at H
   by_cases c7 : d9 ≤ 9
   rotate_left
   ·rw [if_neg c7] at H
    have B6 : decide (d9 ≤ 9) = false := deF c7
    clear c7
    obtain rfl := Option.some.inj H
    go_wp2
    go_ret
    exact ⟨_,zE_,by exact d1.out,zb0 HB.out⟩
   rw [if_pos c7] at H
   have B6 : decide (d9 ≤ 9) = true := deT c7
   clear c7
   have H' := As_ H
   clear H
   go_wp2
   go_loopg [3,5] k1 (fun kq v3 v5 w' => ∃ (i6 : List Int) (b4 : Int),v5 = .int .i64 b4 ∧ Aside0 (spec_ClassesIn.l1 kq l0 i6 d9 b4 = some r) ∧ Aside0 (kq ≤ k1) ∧ Aside0 (Kd.R (Kd.int .i64) 3 w' w.heap.size (fun _ => True) v3 i6) ∧ Aside0 (Below w.heap.size w w'))
   case atStart => exact ⟨(e5),(0),zT_,H',⟨Nat.le_refl _⟩,⟨d1.out⟩,⟨zb0 HB.out⟩⟩
   case round =>
    clear H'
    obtain ⟨i6,b4,rfl,HA,HK2,d1,HB⟩ := hrel
    cases gk with
    | zero => exact absurd HA.out (fun h_ => (by cases h_))
    | succ k2 =>
     have H := HA.out
     clear HA
     simp only [spec_ClassesIn.l1] at H
     by_cases c8 : b4 < (l0.length : Int)
     rotate_left
     ·rw [if_neg c8] at H
      have B7 : decide (b4 < (l0.length : Int)) = false := deF c8
      clear c8
      have H' := As_ H
      clear H
      go_wp2
      go_roundg k2
      case measure => have := HK1.out;have := HK2.out;omega
      case rel => exact ⟨(i6),(wrap64 (d9 + 1)),zT_,H',⟨by have := HK1.out;have := HK2.out;omega⟩,⟨d1.out⟩,⟨zb0 HB.out⟩⟩
     rw [if_pos c8] at H
     have B7 : decide (b4 < (l0.length : Int)) = true := deT c8
     clear c8
     by_cases c9 : 0 ≤ b4
     rotate_left
     ·rw [if_neg c9] at H
      exact absurd H (by simp)
     rw [if_pos c9] at H
     have D6 : decide (0 ≤ b4) = true := deT c9
     clear c9
     by_cases c10 : ((rd_T75 l0 b4).f0) = 13
     rotate_left
     ·rw [if_neg c10] at H
      have o7 : (((rd_T75 l0 b4).f0) == 13) = false := beq_eq_false_iff_ne.mpr c10
      have o8 : (((rd_T75 l0 b4).f0) != 13) = true := bne_iff_ne.mpr c10
      have H' := As_ H
      clear H
      have p912 : 0 ≤ (b4 : Int) := odT zA_
      have q912 : b4 < (l0.length : Int) := odT zA_
      obtain ⟨ad912,e912,hx912_0,hx912_1⟩ := at_T75 HR0.out b4 p912 q912
      cases e912
      replace hx912_0 := bwC HB.out hx912_0
      replace hx912_1 := bwC HB.out hx912_1
      replace p912 := eq_true p912
      replace q912 := eq_true q912
      go_wp2
      go_roundg k2
      case measure => have := HK1.out;have := HK2.out;omega
      case rel => exact ⟨(i6),(wrap64 (b4 + 1)),zT_,H',⟨by have := HK1.out;have := HK2.out;omega⟩,⟨d1.out⟩,⟨zb0 HB.out⟩⟩
     rw [if_pos c10] at H
     have o7 : (((rd_T75 l0 b4).f0) == 13) = true := beq_iff_eq.mpr c10
     have o8 : (((rd_T75 l0 b4).f0) != 13) = false := bne_eq_false_iff_eq.mpr c10
     clear c10
     by_cases c11 : ((rd_T75 l0 b4).f1) = d9
     rotate_left
     ·rw [if_neg c11] at H
      have o9 : (((rd_T75 l0 b4).f1) == d9) = false := beq_eq_false_iff_ne.mpr c11
      have p0 : (((rd_T75 l0 b4).f1) != d9) = true := bne_iff_ne.mpr c11
      have H' := As_ H
      clear H
      have p912 : 0 ≤ (b4 : Int) := odT zA_
      have q912 : b4 < (l0.length : Int) := odT zA_
      obtain ⟨ad912,e912,hx912_0,hx912_1⟩ := at_T75 HR0.out b4 p912 q912
      cases e912
      replace hx912_0 := bwC HB.out hx912_0
      replace hx912_1 := bwC HB.out hx912_1
      replace p912 := eq_true p912
      replace q912 := eq_true q912
      have p913 : 0 ≤ (b4 : Int) := odT zA_
      have q913 : b4 < (l0.length : Int) := odT zA_
      obtain ⟨ad913,e913,hx913_0,hx913_1⟩ := at_T75 HR0.out b4 p913 q913
      obtain rfl : ad912 = ad913 := (by injection e913)
      replace hx913_0 := bwC HB.out hx913_0
      replace hx913_1 := bwC HB.out hx913_1
      replace p913 := eq_true p913
      replace q913 := eq_true q913
      go_wp2
      go_roundg k2
      case measure => have := HK1.out;have := HK2.out;omega
      case rel => exact ⟨(i6),(wrap64 (b4 + 1)),zT_,H',⟨by have := HK1.out;have := HK2.out;omega⟩,⟨d1.out⟩,⟨zb0 HB.out⟩⟩
     rw [if_pos c11] at H
     have o9 : (((rd_T75 l0 b4).f1) == d9) = true := beq_iff_eq.mpr c11
     have p0 : (((rd_T75 l0 b4).f1) != d9) = false := bne_eq_false_iff_eq.mpr c11
     clear c11
     by_cases c12 : i6.length < 17592186044416
     rotate_left
     ·rw [if_neg c12] at H
      exact absurd H (by simp)
     rw [if_pos c12] at H
     have p1 := As_ c12
     clear c12
     obtain ⟨p2,m4⟩ : ∃ y_ : List Int,y_ = (i6 ++ [d9]) := ⟨_,rfl⟩
     replace H : (spec_ClassesIn.l0 k2 l0 p2 (wrap64 (d9 + 1))) = some r := zH_ H m4
     have p3 := As_ m4
     clear m4
     have H' := As_ H
     clear H
     have p912 : 0 ≤ (b4 : Int) := odT zA_
     have q912 : b4 < (l0.length : Int) := odT zA_
     obtain ⟨ad912,e912,hx912_0,hx912_1⟩ := at_T75 HR0.out b4 p912 q912
     cases e912
     replace hx912_0 := bwC HB.out hx912_0
     replace hx912_1 := bwC HB.out hx912_1
     replace p912 := eq_true p912
     replace q912 := eq_true q912
     have p913 : 0 ≤ (b4 : Int) := odT zA_
     have q913 : b4 < (l0.length : Int) := odT zA_
     obtain ⟨ad913,e913,hx913_0,hx913_1⟩ := at_T75 HR0.out b4 p913 q913
     obtain rfl : ad912 = ad913 := (by injection e913)
     replace hx913_0 := bwC HB.out hx913_0
     replace hx913_1 := bwC HB.out hx913_1
     replace p913 := eq_true p913
     replace q913 := eq_true q913
     go_wp2_with (first|((with_reducible refine gate_builtin (b := .append) (xs := #[.tmp 35,.tmp 37]) rfl ?_);at_builtin;refine Kd.R_append (Kd.int .i64) (w0 := w) w.heap.size rfl (.tmp 35) (.tmp 37) 22 3 (.int .i64 0) 8 rfl Try.underlying22 info3 rfl (by decide) (by omega) u3 i6 d9 [.int .i64 d9] (fun _ => True) (fun _ => False) rfl rfl ?aP (fun _ hk => hk.elim) ?aF ?aO ?aB ?aS ?aL ?_;(case aP => exact rfl);(case aB => exact (zb0 HB.out));(case aF => exact (fun _ _ => trivial));(case aO => exact (zR_ d1.out));(case aS => exact (bwZ (zb0 HB.out)));(case aL => have := p1.out;omega);intro v915 w13 ho hb hg hat;rw [← p3.out] at ho;have n0_ := As_ (hb);have n1_ := As_ (ho);clear HB d1;revert n0_ n1_;intro HB p4;clear ho hb hg hat))
     go_roundg k2
     case measure => have := HK1.out;have := HK2.out;omega
     case rel => exact ⟨(p2),(wrap64 (d9 + 1)),zT_,H',⟨by have := HK1.out;have := HK2.out;omega⟩,⟨p4.out⟩,⟨zb0 HB.out⟩⟩
/-! ### spec_LeastRules: function 103 -/
def spec_LeastRules.l0 : Nat → List (S75) → Int → List Int → Int → List Int → List Bool → List Int → List Int → Bool → Option (Int × Int × Int × List Int × Bool)
 | 0,_,_,_,_,_,_,_,_,_ => none
 | k + 1,x0,x6,x7,x8,j4,m5,m6,m7,m8 => if x8 < (x7.length : Int) then (if 0 ≤ x8 then (spec_LeastRules.l0 k x0 (mx x6 (rd x7 x8)) x7 (wrap64 (x8 + 1)) j4 m5 m6 m7 m8) else (none)) else ((spec_ClassesIn.f k x0).bind fun j9 => (some ((x0.length : Int),(j4.length : Int),x6,j9,true)))
def spec_LeastRules.f (k : Nat) (l0 : List (S75)) : Option (Int × Int × Int × List Int × Bool) := (spec_validOps.f k l0).bind fun l4 => (if l4 = true then ((spec_runShapes.f k l0).bind fun b2 => (if b2.2.2.2.2.2 < (l0.length : Int) then (some (0,0,0,([] : List Int),false)) else ((spec_DepthsOf.f k l0).bind fun d2 => (spec_LeastRules.l0 k l0 0 d2 0 b2.1 b2.2.1 b2.2.2.1 b2.2.2.2.1 b2.2.2.2.2.1)))) else (some (0,0,0,([] : List Int),false)))
set_option maxRecDepth 100000 in
theorem spec_LeastRules.mono_l : ∀ k,(∀ y0 y1 y2 y3 y4 y5 y6 y7 y8,LeO (spec_LeastRules.l0 k y0 y1 y2 y3 y4 y5 y6 y7 y8) (spec_LeastRules.l0 (k + 1) y0 y1 y2 y3 y4 y5 y6 y7 y8))
 | 0 => fun _ _ _ _ _ _ _ _ _ r h => (by cases h)
 | k + 1 => by
  have ih0 := spec_LeastRules.mono_l k
  ·intro y0 y1 y2 y3 y4 y5 y6 y7 y8
   unfold spec_LeastRules.l0
   repeat' first
   | (with_reducible exact ih0 _ _ _ _ _ _ _ _ _)
   | (with_reducible exact spec_ClassesIn.mono _ _)
   | (with_reducible exact spec_DepthsOf.mono _ _)
   | (with_reducible exact spec_runShapes.mono _ _)
   | (with_reducible exact spec_validOps.mono _ _)
   | (with_reducible exact LeO.refl _)
   | (with_reducible exact LeO.none _)
   | (with_reducible refine LeO.ite ?_ ?_)
   | (with_reducible refine LeO.bind ?_ (fun _ => ?_))
   | exact ih0 _ _ _ _ _ _ _ _ _
   | exact spec_ClassesIn.mono _ _
   | exact spec_DepthsOf.mono _ _
   | exact spec_runShapes.mono _ _
   | exact spec_validOps.mono _ _
   | exact LeO.none _
   | refine LeO.ite ?_ ?_
   | refine LeO.bind ?_ (fun _ => ?_)
set_option maxRecDepth 100000 in
theorem spec_LeastRules.mono : ∀ a0 k,LeO (spec_LeastRules.f k a0) (spec_LeastRules.f (k + 1) a0) := by
 intro a0 k
 have ih0 := spec_LeastRules.mono_l k
 unfold spec_LeastRules.f
 repeat' first
   | (with_reducible exact ih0 _ _ _ _ _ _ _ _ _)
   | (with_reducible exact spec_ClassesIn.mono _ _)
   | (with_reducible exact spec_DepthsOf.mono _ _)
   | (with_reducible exact spec_runShapes.mono _ _)
   | (with_reducible exact spec_validOps.mono _ _)
   | (with_reducible exact LeO.refl _)
   | (with_reducible exact LeO.none _)
   | (with_reducible refine LeO.ite ?_ ?_)
   | (with_reducible refine LeO.bind ?_ (fun _ => ?_))
   | exact ih0 _ _ _ _ _ _ _ _ _
   | exact spec_ClassesIn.mono _ _
   | exact spec_DepthsOf.mono _ _
   | exact spec_runShapes.mono _ _
   | exact spec_validOps.mono _ _
   | exact LeO.none _
   | refine LeO.ite ?_ ?_
   | refine LeO.bind ?_ (fun _ => ?_)
def spec_LeastRules.T12 : Bool × List (List Nat × List Nat) := (true,[([],[]),([0],[0]),([],[]),([2],[2]),([3],[3]),([],[]),([],[]),([6],[6]),([1,4,5,7],[1,4,5,7]),([8,7,0,1,2,3,4,5,6,7,8],[8]),([9,0,1,2,3,4,5,6,7,8,9],[])])
def spec_LeastRules.B12 : List Nat := [0,1,0,4,12,0,0,64,255,511,1023]
theorem spec_LeastRules.tab12 : rtab .any (opsOf Try.f103 12) = spec_LeastRules.T12 := by kernel_rfl
theorem spec_LeastRules.bits12 : waitsOk spec_LeastRules.T12.2 spec_LeastRules.B12 = true := by kernel_rfl
set_option maxHeartbeats 8000000 in
set_option maxRecDepth 100000 in
theorem spec_LeastRules.calls (k : Nat) (A0 : Option Addr) (c0 : Nat) (l0 : List (S75)) (r1 : Int) (r2 : Int) (r3 : Int) (r4 : List Int) (r5 : Bool) (w : World) (hr0 : Kd.C k75 w A0 l0.length l0) (hc0 : l0.length ≤ c0) (h : spec_LeastRules.f k l0 = some (r1,r2,r3,r4,r5)) :
  Calls Try.prog 103 #[.slice A0 l0.length c0] w fun e w' => ∃ v3_ : Value,e = .returned (.tuple #[.agg #[.int .i64 r1,.int .i64 r2,.int .i64 r3,v3_],.bool r5]) ∧ Kd.R (Kd.int .i64) 3 w' w.heap.size (fun _ => True) v3_ r4 ∧ Below w.heap.size w w' := by
 have hu47 := Try.underlying47
 have hu120 := Try.underlying120
 have HR0 := As_ hr0
 have HC0 := As_ hc0
 clear hr0 hc0
 have HB := As_ (Below.refl w.heap.size w)
 have H : ((spec_validOps.f k l0).bind fun l4 => (if l4 = true then ((spec_runShapes.f k l0).bind fun b2 => (if b2.2.2.2.2.2 < (l0.length : Int) then (some (0,0,0,([] : List Int),false)) else ((spec_DepthsOf.f k l0).bind fun d2 => (spec_LeastRules.l0 k l0 0 d2 0 b2.1 b2.2.1 b2.2.2.1 b2.2.2.2.1 b2.2.2.2.2.1)))) else (some (0,0,0,([] : List Int),false)))) = some (r1,r2,r3,r4,r5) := h
 clear h
 replace H := obS H
 obtain ⟨l4,A20,H⟩ := H
 replace H : (if l4 = true then ((spec_runShapes.f k l0).bind fun b2 => (if b2.2.2.2.2.2 < (l0.length : Int) then (some (0,0,0,([] : List Int),false)) else ((spec_DepthsOf.f k l0).bind fun d2 => (spec_LeastRules.l0 k l0 0 d2 0 b2.1 b2.2.1 b2.2.2.1 b2.2.2.2.1 b2.2.2.2.2.1)))) else (some (0,0,0,([] : List Int),false))) = some (r1,r2,r3,r4,r5) := H
 have A2 := As_ A20
 clear A20
 by_cases c3 : l4 = true
 rotate_left
 ·replace c3 := Bool.eq_false_iff.mpr c3
  subst c3
  have H1 : (some (0,0,0,([] : List Int),false)) = some (r1,r2,r3,r4,r5) := by rw [if_neg (show ¬ (false = true) by decide)] at H;exact H
  clear H
  have H := H1
  clear H1
  simp only [Option.some.injEq,Prod.mk.injEq] at H
  obtain ⟨rfl,rfl,rfl,rfl,rfl⟩ := H
  go_enter Try.func103,Try.ntmps103
  go_wp2_with (first|((with_reducible refine gate_dst (N := 2) rfl ?_);refine box_event ?hg (N := 2) ?hd (cs := #[.int .i64 0,.int .i64 0,.int .i64 0,.slice none 0 0]) (t := 47) ?hr ?_;(case hd => rfl);(case hg => rfl);(case hr => go_simp <;> rfl);intro a3 hg w42 hbox hb;have n0_ := As_ (bwT (zb0 HB.out) hb);have n1_ := As_ (hbox);have n2_ := As_ ((by rw [hg];exact (bwZ (zb0 HB.out)) : w.heap.size ≤ a3));have n3_ := As_ ((by rw [hg];exact (bwZ (zb0 HB.out)) : w.heap.size ≤ a3));clear HB;revert n0_ n1_ n2_ n3_;intro HB a1 n2 a9;clear hb hbox hg)|((with_reducible refine gate_callee (f := 55) rfl ?_);refine goesL_ (some 10) rfl rfl Try.func55 (by kernel_rfl) rfl #[.slice A0 l0.length c0] rfl zM_ ?_;(with_reducible refine (spec_validOps.calls k _ _ l0 false _ ?side1 ?side2 A2.out).mono ?_);(case side1 => exact zC_ (Kd.C_below HR0.out HB.out));(case side2 => exact HC0.out);rintro e w43 ⟨rfl,hb⟩;refine ⟨_,rfl,?_⟩;have n0_ := As_ (zkb a1.out hb);have n1_ := As_ (bwT (zb1 HB.out a9.out) hb);clear a1 HB;revert n0_ n1_;intro a1 HB;have s9 : w43.cell? ⟨a3,0,none⟩ = some (.int .i64 0) := (bkC a1.out 0).trans rfl;have t0 : w43.cell? ⟨a3,1,none⟩ = some (.int .i64 0) := (bkC a1.out 1).trans rfl;have t1 : w43.cell? ⟨a3,2,none⟩ = some (.int .i64 0) := (bkC a1.out 2).trans rfl;have t2 : w43.cell? ⟨a3,3,none⟩ = some (.slice none 0 0) := (bkC a1.out 3).trans rfl;have t3 := bkF a1.out 0;have t4 := bkF a1.out 1;have t5 := bkF a1.out 2;have t6 := bkF a1.out 3))
  refine bodyPost_ret (results_ct rfl _ _ a3 47 #[.int .i64 0,.int .i64 0,.int .i64 0,.slice none 0 0] (0,0) _ rfl (by refine blk_put (cs := #[.int .i64 0,.int .i64 0,.int .i64 0,.slice none 0 0]) ?_ 3 _ rfl;refine blk_put (cs := #[.int .i64 0,.int .i64 0,.int .i64 0,.slice none 0 0]) ?_ 2 _ rfl;refine blk_put (cs := #[.int .i64 0,.int .i64 0,.int .i64 0,.slice none 0 0]) ?_ 1 _ rfl;refine blk_put (cs := #[.int .i64 0,.int .i64 0,.int .i64 0,.slice none 0 0]) ?_ 0 _ rfl;exact a1.out) Try.underlying47 rfl (by kernel_rfl)) rfl ?_
  exact ⟨_,zE_,by first|exact Kd.R_nil _ _ _ _ _|exact Kd.N_nil _ _ _ _ _|exact Kd.V_nil _ _ _ _ _|exact Kd.Q_nil _ _ _ _ _|exact Kd.S_nil _ _ _ _ _,zb1 HB.out a9.out⟩

 subst c3
 have H1 : ((spec_runShapes.f k l0).bind fun b2 => (if b2.2.2.2.2.2 < (l0.length : Int) then (some (0,0,0,([] : List Int),false)) else ((spec_DepthsOf.f k l0).bind fun d2 => (spec_LeastRules.l0 k l0 0 d2 0 b2.1 b2.2.1 b2.2.2.1 b2.2.2.2.1 b2.2.2.2.2.1)))) = some (r1,r2,r3,r4,r5) := by rw [if_pos rfl] at H;exact H
 clear H
 have H := H1
 clear H1
 replace H := obS H
 obtain ⟨⟨d8,i3,g4,g5,i7,l5⟩,A40,H⟩ := H
 replace H : (if l5 < (l0.length : Int) then (some (0,0,0,([] : List Int),false)) else ((spec_DepthsOf.f k l0).bind fun d2 => (spec_LeastRules.l0 k l0 0 d2 0 d8 i3 g4 g5 i7))) = some (r1,r2,r3,r4,r5) := H
 have A4 := As_ A40
 clear A40
 by_cases c5 : l5 < (l0.length : Int)
 ·rw [if_pos c5] at H
  have B8 : decide (l5 < (l0.length : Int)) = true := deT c5
  clear c5
  simp only [Option.some.injEq,Prod.mk.injEq] at H
  obtain ⟨rfl,rfl,rfl,rfl,rfl⟩ := H
  go_enter Try.func103,Try.ntmps103
  go_wp2_with (first|((with_reducible refine gate_dst (N := 2) rfl ?_);refine box_event ?hg (N := 2) ?hd (cs := #[.int .i64 0,.int .i64 0,.int .i64 0,.slice none 0 0]) (t := 47) ?hr ?_;(case hd => rfl);(case hg => rfl);(case hr => go_simp <;> rfl);intro a3 hg w6 hbox hb;have n0_ := As_ (bwT (zb0 HB.out) hb);have n1_ := As_ (hbox);have n2_ := As_ ((by rw [hg];exact (bwZ (zb0 HB.out)) : w.heap.size ≤ a3));have n3_ := As_ ((by rw [hg];exact (bwZ (zb0 HB.out)) : w.heap.size ≤ a3));clear HB;revert n0_ n1_ n2_ n3_;intro HB a1 n2 a9;clear hb hbox hg)|((with_reducible refine gate_callee (f := 55) rfl ?_);refine goesL_ (some 10) rfl rfl Try.func55 (by kernel_rfl) rfl #[.slice A0 l0.length c0] rfl zM_ ?_;(with_reducible refine (spec_validOps.calls k _ _ l0 true _ ?side1 ?side2 A2.out).mono ?_);(case side1 => exact zC_ (Kd.C_below HR0.out HB.out));(case side2 => exact HC0.out);rintro e w7 ⟨rfl,hb⟩;refine ⟨_,rfl,?_⟩;have n0_ := As_ (zkb a1.out hb);have n1_ := As_ (bwT (zb1 HB.out a9.out) hb);clear a1 HB;revert n0_ n1_;intro a1 HB)|((with_reducible refine gate_callee (f := 118) rfl ?_);refine goesL_ (some 15) rfl rfl Try.func118 (by kernel_rfl) rfl #[.slice A0 l0.length c0] rfl zM_ ?_;(with_reducible refine (spec_runShapes.calls k _ _ l0 d8 i3 g4 g5 i7 l5 _ ?side1 ?side2 A4.out).mono ?_);(case side1 => exact zC_ (Kd.C_below HR0.out HB.out));(case side2 => exact HC0.out);rintro e w8 ⟨v920,v923,v926,v929,rfl,ho0,ho1,ho2,ho3,hb⟩;refine ⟨_,rfl,?_⟩;have n0_ := As_ (Kd.R_lower ho0 (bwZ (zb1 HB.out a9.out)));have n1_ := As_ (Kd.R_lower ho1 (bwZ (zb1 HB.out a9.out)));have n2_ := As_ (Kd.R_lower ho2 (bwZ (zb1 HB.out a9.out)));have n3_ := As_ (Kd.R_lower ho3 (bwZ (zb1 HB.out a9.out)));have n4_ := As_ (zkb a1.out hb);have n5_ := As_ (bwT (zb1 HB.out a9.out) hb);clear a1 HB;revert n0_ n1_ n2_ n3_ n4_ n5_;intro d3 d7 d4 d5 a1 HB)|((with_reducible refine gate_dst (N := 4) rfl ?_);refine box_event ?hg (N := 4) ?hd (cs := #[.slice none 0 0,.slice none 0 0,.slice none 0 0,.slice none 0 0,.bool false]) (t := 120) ?hr ?_;(case hd => rfl);(case hg => rfl);(case hr => go_simp <;> rfl);intro b3 hg w9 hbox hb;have n0_ := As_ (Kd.R_below (zR_ d3.out) hb);have n1_ := As_ (Kd.R_below (zR_ d7.out) hb);have n2_ := As_ (Kd.R_below (zR_ d4.out) hb);have n3_ := As_ (Kd.R_below (zR_ d5.out) hb);have n4_ := As_ (zkb a1.out hb);have n5_ := As_ (bwT (zb1 HB.out a9.out) hb);have n6_ := As_ (hbox);have n7_ := As_ ((by rw [hg];exact (bwZ (zb1 HB.out a9.out)) : w.heap.size ≤ b3));have n8_ := As_ ((by rw [hg];exact (bwZ (zb1 HB.out a9.out)) : w.heap.size ≤ b3));have n9_ := As_ ((by rw [hg];exact Nat.ne_of_lt (zkl a1.out) : a3 ≠ b3));have n10_ := As_ ((by rw [hg];exact Nat.ne_of_gt (zkl a1.out) : b3 ≠ a3));clear d3 d7 d4 d5 a1 HB;revert n0_ n1_ n2_ n3_ n4_ n5_ n6_ n7_ n8_ n9_ n10_;intro d3 d7 d4 d5 a1 HB a4 p6 e4 b5 a2;clear hb hbox hg;obtain ⟨Ao10,co10,eo10⟩ := Kd.R_slice d3.out;subst eo10;have C7 := a2.out;have C8 := b5.out;have t7 : w9.cell? ⟨b3,0,none⟩ = some (.slice none 0 0) := (bkC a4.out 0).trans rfl;have t8 : w9.cell? ⟨b3,1,none⟩ = some (.slice none 0 0) := (bkC a4.out 1).trans rfl;have t9 : w9.cell? ⟨b3,2,none⟩ = some (.slice none 0 0) := (bkC a4.out 2).trans rfl;have u0 : w9.cell? ⟨b3,3,none⟩ = some (.slice none 0 0) := (bkC a4.out 3).trans rfl;have u1 : w9.cell? ⟨b3,4,none⟩ = some (.bool false) := (bkC a4.out 4).trans rfl;have u2 := bkF a4.out 0;have u4 := bkF a4.out 1;have u5 := bkF a4.out 2;have u6 := bkF a4.out 3;have u7 := bkF a4.out 4;obtain ⟨Ao13,co13,eo13⟩ := Kd.R_slice d7.out;subst eo13;obtain ⟨Ao14,co14,eo14⟩ := Kd.R_slice d4.out;subst eo14;obtain ⟨Ao15,co15,eo15⟩ := Kd.R_slice d5.out;subst eo15;have u9 : w9.cell? ⟨a3,0,none⟩ = some (.int .i64 0) := (bkC a1.out 0).trans rfl;have v7 : w9.cell? ⟨a3,1,none⟩ = some (.int .i64 0) := (bkC a1.out 1).trans rfl;have v9 : w9.cell? ⟨a3,2,none⟩ = some (.int .i64 0) := (bkC a1.out 2).trans rfl;have x1 : w9.cell? ⟨a3,3,none⟩ = some (.slice none 0 0) := (bkC a1.out 3).trans rfl;have x2 := bkF a1.out 0;have x9 := bkF a1.out 1;have y9 := bkF a1.out 2;have z1 := bkF a1.out 3))
  refine bodyPost_ret (results_ct rfl _ _ a3 47 #[.int .i64 0,.int .i64 0,.int .i64 0,.slice none 0 0] (0,0) _ rfl (by refine blk_put (cs := #[.int .i64 0,.int .i64 0,.int .i64 0,.slice none 0 0]) ?_ 3 _ rfl;refine blk_put (cs := #[.int .i64 0,.int .i64 0,.int .i64 0,.slice none 0 0]) ?_ 2 _ rfl;refine blk_put (cs := #[.int .i64 0,.int .i64 0,.int .i64 0,.slice none 0 0]) ?_ 1 _ rfl;refine blk_put (cs := #[.int .i64 0,.int .i64 0,.int .i64 0,.slice none 0 0]) ?_ 0 _ rfl;exact f5 b5.out a1.out) Try.underlying47 rfl (by kernel_rfl)) rfl ?_
  exact ⟨_,zE_,by first|exact Kd.R_nil _ _ _ _ _|exact Kd.N_nil _ _ _ _ _|exact Kd.V_nil _ _ _ _ _|exact Kd.Q_nil _ _ _ _ _|exact Kd.S_nil _ _ _ _ _,zb2 HB.out a9.out e4.out⟩
 rw [if_neg c5] at H
 have B8 : decide (l5 < (l0.length : Int)) = false := deF c5
 clear c5
 replace H := obS H
 obtain ⟨d2,A170,H⟩ := H
 replace H : (spec_LeastRules.l0 k l0 0 d2 0 d8 i3 g4 g5 i7) = some (r1,r2,r3,r4,r5) := H
 have A17 := As_ A170
 clear A170
 have H' := As_ H
 clear H
 go_enter Try.func103,Try.ntmps103
 go_wp2_with (first|((with_reducible refine gate_dst (N := 2) rfl ?_);refine box_event ?hg (N := 2) ?hd (cs := #[.int .i64 0,.int .i64 0,.int .i64 0,.slice none 0 0]) (t := 47) ?hr ?_;(case hd => rfl);(case hg => rfl);(case hr => go_simp <;> rfl);intro a3 hg w18 hbox hb;have n0_ := As_ (bwT (zb0 HB.out) hb);have n1_ := As_ (hbox);have n2_ := As_ ((by rw [hg];exact (bwZ (zb0 HB.out)) : w.heap.size ≤ a3));have n3_ := As_ ((by rw [hg];exact (bwZ (zb0 HB.out)) : w.heap.size ≤ a3));clear HB;revert n0_ n1_ n2_ n3_;intro HB a1 n2 a9;clear hb hbox hg)|((with_reducible refine gate_callee (f := 55) rfl ?_);refine goesL_ (some 10) rfl rfl Try.func55 (by kernel_rfl) rfl #[.slice A0 l0.length c0] rfl zM_ ?_;(with_reducible refine (spec_validOps.calls k _ _ l0 true _ ?side1 ?side2 A2.out).mono ?_);(case side1 => exact zC_ (Kd.C_below HR0.out HB.out));(case side2 => exact HC0.out);rintro e w19 ⟨rfl,hb⟩;refine ⟨_,rfl,?_⟩;have n0_ := As_ (zkb a1.out hb);have n1_ := As_ (bwT (zb1 HB.out a9.out) hb);clear a1 HB;revert n0_ n1_;intro a1 HB)|((with_reducible refine gate_callee (f := 118) rfl ?_);refine goesL_ (some 15) rfl rfl Try.func118 (by kernel_rfl) rfl #[.slice A0 l0.length c0] rfl zM_ ?_;(with_reducible refine (spec_runShapes.calls k _ _ l0 d8 i3 g4 g5 i7 l5 _ ?side1 ?side2 A4.out).mono ?_);(case side1 => exact zC_ (Kd.C_below HR0.out HB.out));(case side2 => exact HC0.out);rintro e w20 ⟨v920,v923,v926,v929,rfl,ho0,ho1,ho2,ho3,hb⟩;refine ⟨_,rfl,?_⟩;have n0_ := As_ (Kd.R_lower ho0 (bwZ (zb1 HB.out a9.out)));have n1_ := As_ (Kd.R_lower ho1 (bwZ (zb1 HB.out a9.out)));have n2_ := As_ (Kd.R_lower ho2 (bwZ (zb1 HB.out a9.out)));have n3_ := As_ (Kd.R_lower ho3 (bwZ (zb1 HB.out a9.out)));have n4_ := As_ (zkb a1.out hb);have n5_ := As_ (bwT (zb1 HB.out a9.out) hb);clear a1 HB;revert n0_ n1_ n2_ n3_ n4_ n5_;intro d3 d7 d4 d5 a1 HB)|((with_reducible refine gate_dst (N := 4) rfl ?_);refine box_event ?hg (N := 4) ?hd (cs := #[.slice none 0 0,.slice none 0 0,.slice none 0 0,.slice none 0 0,.bool false]) (t := 120) ?hr ?_;(case hd => rfl);(case hg => rfl);(case hr => go_simp <;> rfl);intro b3 hg w21 hbox hb;have n0_ := As_ (Kd.R_below (zR_ d3.out) hb);have n1_ := As_ (Kd.R_below (zR_ d7.out) hb);have n2_ := As_ (Kd.R_below (zR_ d4.out) hb);have n3_ := As_ (Kd.R_below (zR_ d5.out) hb);have n4_ := As_ (zkb a1.out hb);have n5_ := As_ (bwT (zb1 HB.out a9.out) hb);have n6_ := As_ (hbox);have n7_ := As_ ((by rw [hg];exact (bwZ (zb1 HB.out a9.out)) : w.heap.size ≤ b3));have n8_ := As_ ((by rw [hg];exact (bwZ (zb1 HB.out a9.out)) : w.heap.size ≤ b3));have n9_ := As_ ((by rw [hg];exact Nat.ne_of_lt (zkl a1.out) : a3 ≠ b3));have n10_ := As_ ((by rw [hg];exact Nat.ne_of_gt (zkl a1.out) : b3 ≠ a3));clear d3 d7 d4 d5 a1 HB;revert n0_ n1_ n2_ n3_ n4_ n5_ n6_ n7_ n8_ n9_ n10_;intro d3 d7 d4 d5 a1 HB a4 p6 e4 b5 a2;clear hb hbox hg;obtain ⟨Ao22,co22,eo22⟩ := Kd.R_slice d3.out;subst eo22;have C9 := a2.out;have D0 := b5.out;have z2 : w21.cell? ⟨b3,0,none⟩ = some (.slice none 0 0) := (bkC a4.out 0).trans rfl;have z3 : w21.cell? ⟨b3,1,none⟩ = some (.slice none 0 0) := (bkC a4.out 1).trans rfl;have z4 : w21.cell? ⟨b3,2,none⟩ = some (.slice none 0 0) := (bkC a4.out 2).trans rfl;have z5 : w21.cell? ⟨b3,3,none⟩ = some (.slice none 0 0) := (bkC a4.out 3).trans rfl;have z6 : w21.cell? ⟨b3,4,none⟩ = some (.bool false) := (bkC a4.out 4).trans rfl;have z7 := bkF a4.out 0;have z8 := bkF a4.out 1;have z9 := bkF a4.out 2;have A5 := bkF a4.out 3;have A6 := bkF a4.out 4;obtain ⟨Ao25,co25,eo25⟩ := Kd.R_slice d7.out;subst eo25;obtain ⟨Ao26,co26,eo26⟩ := Kd.R_slice d4.out;subst eo26;obtain ⟨Ao27,co27,eo27⟩ := Kd.R_slice d5.out;subst eo27)|((with_reducible refine gate_callee (f := 119) rfl ?_);refine goesL_ (some 24) rfl rfl Try.func119 (by kernel_rfl) rfl #[.slice A0 l0.length c0] rfl zM_ ?_;(with_reducible refine (spec_DepthsOf.calls k _ _ l0 d2 _ ?side1 ?side2 A17.out).mono ?_);(case side1 => exact Kd.C_below HR0.out (zb2 HB.out a9.out e4.out));(case side2 => exact HC0.out);rintro e w28 ⟨v935,rfl,ho0,hb⟩;refine ⟨_,rfl,?_⟩;have n0_ := As_ (Kd.R_elder' (by exact (Kd.R_mono (rX5 d3.out a4.out) (fun _ h_ => h_.1))) (Kd.R_base ho0) hb);have n1_ := As_ (Kd.R_below (by exact (Kd.R_mono (rX5 d7.out a4.out) (fun _ h_ => h_.1))) hb);have n2_ := As_ (Kd.R_elder' (by exact (Kd.R_mono (rX5 d4.out a4.out) (fun _ h_ => h_.1))) (Kd.R_base ho0) hb);have n3_ := As_ (Kd.R_elder' (by exact (Kd.R_mono (rX5 d5.out a4.out) (fun _ h_ => h_.1))) (Kd.R_base ho0) hb);have n4_ := As_ (Kd.R_lower (Kd.R_new' (Kd.R_new' (Kd.R_new' ho0 (Kd.R_lt (by exact (Kd.R_mono (rX5 d3.out a4.out) (fun _ h_ => h_.1))))) (Kd.R_lt (by exact (Kd.R_mono (rX5 d4.out a4.out) (fun _ h_ => h_.1))))) (Kd.R_lt (by exact (Kd.R_mono (rX5 d5.out a4.out) (fun _ h_ => h_.1))))) (bwZ (zb2 HB.out a9.out e4.out)));have n5_ := As_ (blk_below (g := a3) (o := .cells #[.int .i64 0,.int .i64 0,.int .i64 0,.slice none 0 0] 47 (0,0)) (f5 b5.out a1.out) hb);have n6_ := As_ (blk_below (g := b3) (o := .cells #[.slice Ao22 d8.length co22,.slice Ao25 i3.length co25,.slice Ao26 g4.length co26,.slice Ao27 g5.length co27,.bool i7] 120 (0,0)) (p5 a4.out) hb);have n7_ := As_ (bwT (zb2 HB.out a9.out e4.out) hb);clear d3 d7 d4 d5 a1 a4 HB;revert n0_ n1_ n2_ n3_ n4_ n5_ n6_ n7_;intro d3 d7 d4 d5 p7 a1 a4 HB))
 go_loopg [6,8] k (fun kq v6 v8 w' => ∃ (d0 : Int) (e1 : Int),v6 = .int .i64 d0 ∧ v8 = .int .i64 e1 ∧ Aside0 (spec_LeastRules.l0 kq l0 d0 d2 e1 d8 i3 g4 g5 i7 = some (r1,r2,r3,r4,r5)) ∧ Aside0 (kq ≤ k) ∧ Aside0 (Kd.R (Kd.int .i64) 3 w' w.heap.size (fun k_ => some k_ ≠ ((.slice Ao22 d8.length co22) : Value).ownBlock ∧ some k_ ≠ ((.slice Ao26 g4.length co26) : Value).ownBlock ∧ some k_ ≠ ((.slice Ao27 g5.length co27) : Value).ownBlock) v935 d2) ∧ Aside0 (Kd.R (Kd.int .i64) 3 w' w.heap.size (fun k_ => some k_ ≠ (v935 : Value).ownBlock ∧ some k_ ≠ ((.slice Ao26 g4.length co26) : Value).ownBlock ∧ some k_ ≠ ((.slice Ao27 g5.length co27) : Value).ownBlock) (.slice Ao22 d8.length co22) d8) ∧ Aside0 (Kd.R Kd.bool 4 w' w.heap.size (fun _ => True) (.slice Ao25 i3.length co25) i3) ∧ Aside0 (Kd.R (Kd.int .i64) 3 w' w.heap.size (fun k_ => some k_ ≠ (v935 : Value).ownBlock ∧ some k_ ≠ ((.slice Ao22 d8.length co22) : Value).ownBlock ∧ some k_ ≠ ((.slice Ao27 g5.length co27) : Value).ownBlock) (.slice Ao26 g4.length co26) g4) ∧ Aside0 (Kd.R (Kd.int .i64) 3 w' w.heap.size (fun k_ => some k_ ≠ (v935 : Value).ownBlock ∧ some k_ ≠ ((.slice Ao22 d8.length co22) : Value).ownBlock ∧ some k_ ≠ ((.slice Ao26 g4.length co26) : Value).ownBlock) (.slice Ao27 g5.length co27) g5) ∧ Aside0 (w'.heap[a3]? = some (.cells #[.int .i64 0,.int .i64 0,.int .i64 0,(.slice none 0 0)] 47 (0,0))) ∧ Aside0 (w'.heap[b3]? = some (.cells #[(.slice Ao22 d8.length co22),(.slice Ao25 i3.length co25),(.slice Ao26 g4.length co26),(.slice Ao27 g5.length co27),.bool i7] 120 (0,0))) ∧ Aside0 (Below w.heap.size w w'))
 case atStart => exact ⟨(0),(0),zT_,zT_,H',⟨Nat.le_refl _⟩,⟨by exact Kd.R_mono p7.out (fun _ hk => ⟨hk.1.1.2,⟨hk.1.2,hk.2⟩⟩)⟩,⟨by exact Kd.R_mono d3.out (fun _ hk => ⟨hk.2,⟨hk.1.1,hk.1.2⟩⟩)⟩,⟨d7.out⟩,⟨by exact Kd.R_mono d4.out (fun _ hk => ⟨hk.2,⟨hk.1.1,hk.1.2⟩⟩)⟩,⟨by exact Kd.R_mono d5.out (fun _ hk => ⟨hk.2,⟨hk.1.1,hk.1.2⟩⟩)⟩,⟨a1.out⟩,⟨a4.out⟩,⟨zb2 HB.out a9.out e4.out⟩⟩
 case round =>
  clear H'
  obtain ⟨d0,e1,rfl,rfl,HA,HK1,i1,b6,b9,b7,b8,a1,a4,HB⟩ := hrel
  cases gk with
  | zero => exact absurd HA.out (fun h_ => (by cases h_))
  | succ k1 =>
   have H := HA.out
   clear HA
   simp only [spec_LeastRules.l0] at H
   by_cases c29 : e1 < (d2.length : Int)
   ·rw [if_pos c29] at H
    have p8 : decide (e1 < (d2.length : Int)) = true := deT c29
    clear c29
    by_cases c30 : 0 ≤ e1
    rotate_left
    ·rw [if_neg c30] at H
     exact absurd H (by simp)
    rw [if_pos c30] at H
    have D1 : decide (0 ≤ e1) = true := deT c30
    clear c30
    obtain ⟨n7,j5⟩ : ∃ j_ : Int,(mx d0 (rd d2 e1)) = j_ := ⟨_,rfl⟩
    replace H : (spec_LeastRules.l0 k1 l0 n7 d2 (wrap64 (e1 + 1)) d8 i3 g4 g5 i7) = some (r1,r2,r3,r4,r5) := by first|(rw [j5] at H;exact H)|(simp only [j5] at H ⊢;exact H)
    have hji31_ : (if d0 < (rd d2 e1) then (rd d2 e1) else d0) = n7 := j5
    have H' := As_ H
    clear H
    obtain ⟨Ao32,co32,eo32⟩ := Kd.R_slice i1.out
    subst eo32
    have p937 : 0 ≤ (e1 : Int) := odT zA_
    have q937 : e1 < (d2.length : Int) := odT zA_
    obtain ⟨ad937,e937,hx937_0⟩ := Kd.at_int (Kd.R_reads' i1.out).2.2 e1 p937 q937
    cases e937
    replace p937 := eq_true p937
    replace q937 := eq_true q937
    go_wp2
    go_roundg k1
    case measure => have := HK1.out;omega
    case rel => exact ⟨(n7),(wrap64 (e1 + 1)),(by first|rfl|(simp;done)|(simp only [← j5] <;> (first|rfl|simp))|(simp [*];done)),zT_,H',⟨by have := HK1.out;omega⟩,⟨i1.out⟩,⟨b6.out⟩,⟨b9.out⟩,⟨b7.out⟩,⟨b8.out⟩,⟨a1.out⟩,⟨a4.out⟩,⟨zb2 HB.out a9.out e4.out⟩⟩
   rw [if_neg c29] at H
   have p8 : decide (e1 < (d2.length : Int)) = false := deF c29
   clear c29
   replace H := obS H
   obtain ⟨j9,A330,H⟩ := H
   replace H : (some ((l0.length : Int),(d8.length : Int),d0,j9,true)) = some (r1,r2,r3,r4,r5) := H
   have A33 := As_ A330
   clear A330
   simp only [Option.some.injEq,Prod.mk.injEq] at H
   obtain ⟨rfl,rfl,rfl,rfl,rfl⟩ := H
   obtain ⟨Ao34,co34,eo34⟩ := Kd.R_slice i1.out
   subst eo34
   try go_wp2
   have n0_ := As_ (Kd.R_drew i1.out)
   have n1_ := As_ (Kd.R_drew b6.out)
   have n2_ := As_ (Kd.R_drew b9.out)
   have n3_ := As_ (Kd.R_drew b7.out)
   have n4_ := As_ (Kd.R_drew b8.out)
   have n5_ := As_ (bkD a1.out)
   have n6_ := As_ (bkD a4.out)
   have n7_ := As_ (bwD HB.out)
   clear i1 b6 b9 b7 b8 a1 a4 HB
   revert n0_ n1_ n2_ n3_ n4_ n5_ n6_ n7_;intro i1 b6 b9 b7 b8 a1 a4 HB
   refine start_ (n := 11) (S := fun w' => w'.cell? ⟨b3,0,none⟩ = some (.slice Ao22 d8.length co22) ∧ w'.cell? ⟨b3,1,none⟩ = some (.slice Ao25 i3.length co25) ∧ w'.cell? ⟨b3,2,none⟩ = some (.slice Ao26 g4.length co26) ∧ w'.cell? ⟨b3,3,none⟩ = some (.slice Ao27 g5.length co27) ∧ w'.cell? ⟨b3,4,none⟩ = some (.bool i7)) (ds := []) (bl_ 0 11) (by kernel_rfl) rfl rfl ⟨(bkC a4.out 0).trans rfl,(bkC a4.out 1).trans rfl,(bkC a4.out 2).trans rfl,(bkC a4.out 3).trans rfl,(bkC a4.out 4).trans rfl⟩ (fun hHeld => ?_);refine with_tabW spec_LeastRules.tab12 spec_LeastRules.bits12 (fun HT_ HW_ => ?_)
   generalize wr.drew = w35 at i1 b6 b9 b7 b8 a1 a4 HB hHeld ⊢
   refine pQ 0 37 (bl_ 1 11) HT_ rfl ?_
   refine pQ 1 38 (bl_ 3 11) HT_ rfl ?_
   refine pQ 2 39 (bl_ 7 11) HT_ rfl ?_
   refine pQ 5 42 (bl_ 39 11) HT_ rfl ?_
   refine pQ 6 43 (bl_ 103 11) HT_ rfl ?_
   refine tP 3 40 (bl_ 111 11) ?_ HT_ HW_ rfl (.inl ⟨by rfl,?_⟩) hHeld ?_ ?_ ?_;rotate_left;(rintro w' ⟨s0,s1,s2,s3,s4⟩;go_simp;with_reducible rfl);rotate_left;(simp only [Act.put,sq_,i64_w,i32_w];rfl)
   refine pQ 4 41 (bl_ 127 11) HT_ rfl ?_
   refine one_ (i := 7) (N := some 44) (bl_ 255 11) rfl rfl (one_of HT_.out (by kernel_rfl)) (by decide) (fun K hK => ?_)
   refine goes_ Try.func120 (by kernel_rfl) rfl #[.slice A0 l0.length c0] (by rfl) rfl rfl zM_ ?_
   with_reducible refine (spec_ClassesIn.calls k1 _ _ l0 j9 _ ?side1 ?side2 A33.out).mono ?_
   (case side1 => exact zC_ (Kd.C_below HR0.out HB.out))
   (case side2 => exact HC0.out)
   rintro e w36 ⟨v939,rfl,ho0,hb⟩
   refine ⟨_,rfl,?_⟩
   have n0_ := As_ (Kd.R_elder' (zR_ i1.out) (Kd.R_base ho0) hb)
   have n1_ := As_ (Kd.R_elder' (zR_ b6.out) (Kd.R_base ho0) hb)
   have n2_ := As_ (Kd.R_below (zR_ b9.out) hb)
   have n3_ := As_ (Kd.R_elder' (zR_ b7.out) (Kd.R_base ho0) hb)
   have n4_ := As_ (Kd.R_elder' (zR_ b8.out) (Kd.R_base ho0) hb)
   have n5_ := As_ (Kd.R_lower (Kd.R_new' (Kd.R_new' (Kd.R_new' (Kd.R_new' ho0 (Kd.R_lt (zR_ i1.out))) (Kd.R_lt (zR_ b6.out))) (Kd.R_lt (zR_ b7.out))) (Kd.R_lt (zR_ b8.out))) (bwZ (zb2 HB.out a9.out e4.out)))
   have n6_ := As_ (zkb a1.out hb)
   have n7_ := As_ (zkb a4.out hb)
   have n8_ := As_ (bwT (zb2 HB.out a9.out e4.out) hb)
   clear i1 b6 b9 b7 b8 a1 a4 HB
   revert n0_ n1_ n2_ n3_ n4_ n5_ n6_ n7_ n8_;intro i1 b6 b9 b7 b8 n3 a1 a4 HB
   obtain ⟨Ao37,co37,eo37⟩ := Kd.R_slice n3.out
   (first|subst eo37|(injection eo37 with f1_ f2_ f3_;have f4_ := f1_.symm;have f5_ := f3_.symm;clear f1_ f2_ f3_;subst f4_;subst f5_))
   refine hK.out _ _ ⟨(bkC a4.out 0).trans rfl,(bkC a4.out 1).trans rfl,(bkC a4.out 2).trans rfl,(bkC a4.out 3).trans rfl,(bkC a4.out 4).trans rfl⟩ (fun hHeld => ?_)
   clear hK K
   refine norm_ (a' := ?_) ?_ ?_
   rotate_left
   ·show Act.put _ (some 44) _ = _
    simp only [Act.put,sq_,i64_w,i32_w]
    rfl
   refine pQ 8 45 (bl_ 511 11) HT_ rfl ?_
   refine one_ (i := 9) (N := none) (bl_ 1023 11) rfl rfl (one_of HT_.out (by kernel_rfl)) (by decide) (fun K hK => ?_)
   have D7 : w36.cell? ⟨a3,0,none⟩ = some (.int .i64 0) := (bkC a1.out 0).trans rfl
   have D2 := bkF a1.out 0
   have A7 := a2.out
   have A8 := b5.out
   have D8 : w36.cell? ⟨a3,1,none⟩ = some (.int .i64 0) := (bkC a1.out 1).trans rfl
   have D3 := bkF a1.out 1
   have A9 := a2.out
   have B0 := b5.out
   have D9 : w36.cell? ⟨a3,2,none⟩ = some (.int .i64 0) := (bkC a1.out 2).trans rfl
   have D4 := bkF a1.out 2
   have B1 := a2.out
   have B2 := b5.out
   have E0 : w36.cell? ⟨a3,3,none⟩ = some (.slice none 0 0) := (bkC a1.out 3).trans rfl
   have D5 := bkF a1.out 3
   have B3 := a2.out
   have B4 := b5.out
   refine skip_ (w1 := ?_) (by rfl) rfl ?_ ?_
   rotate_left
   ·go_simp
    rfl
   refine hK.out _ _ ⟨((cell_far (p := ⟨a3,_,none⟩) a2.out _).trans (((cell_far (p := ⟨a3,_,none⟩) a2.out _).trans (((cell_far (p := ⟨a3,_,none⟩) a2.out _).trans (((cell_far (p := ⟨a3,_,none⟩) a2.out _).trans (hHeld.1)))))))),((cell_far (p := ⟨a3,_,none⟩) a2.out _).trans (((cell_far (p := ⟨a3,_,none⟩) a2.out _).trans (((cell_far (p := ⟨a3,_,none⟩) a2.out _).trans (((cell_far (p := ⟨a3,_,none⟩) a2.out _).trans (hHeld.2.1)))))))),((cell_far (p := ⟨a3,_,none⟩) a2.out _).trans (((cell_far (p := ⟨a3,_,none⟩) a2.out _).trans (((cell_far (p := ⟨a3,_,none⟩) a2.out _).trans (((cell_far (p := ⟨a3,_,none⟩) a2.out _).trans (hHeld.2.2.1)))))))),((cell_far (p := ⟨a3,_,none⟩) a2.out _).trans (((cell_far (p := ⟨a3,_,none⟩) a2.out _).trans (((cell_far (p := ⟨a3,_,none⟩) a2.out _).trans (((cell_far (p := ⟨a3,_,none⟩) a2.out _).trans (hHeld.2.2.2.1)))))))),((cell_far (p := ⟨a3,_,none⟩) a2.out _).trans (((cell_far (p := ⟨a3,_,none⟩) a2.out _).trans (((cell_far (p := ⟨a3,_,none⟩) a2.out _).trans (((cell_far (p := ⟨a3,_,none⟩) a2.out _).trans (hHeld.2.2.2.2))))))))⟩ (fun hHeld => ?_)
   clear hK K
   refine pQ 10 3 (bl_ 2047 11) HT_ rfl ?_
   refine done_ (done_of HT_.out (by kernel_rfl)) ?_
   try go_wp2
   refine bodyPost_ret (results_ct rfl _ _ a3 47 #[.int .i64 (l0.length : Int),.int .i64 (d8.length : Int),.int .i64 d0,.slice Ao37 j9.length co37] (0,0) _ rfl (by refine blk_put (cs := #[.int .i64 (l0.length : Int),.int .i64 (d8.length : Int),.int .i64 d0,.slice none 0 0]) ?_ 3 _ rfl;refine blk_put (cs := #[.int .i64 (l0.length : Int),.int .i64 (d8.length : Int),.int .i64 0,.slice none 0 0]) ?_ 2 _ rfl;refine blk_put (cs := #[.int .i64 (l0.length : Int),.int .i64 0,.int .i64 0,.slice none 0 0]) ?_ 1 _ rfl;refine blk_put (cs := #[.int .i64 0,.int .i64 0,.int .i64 0,.slice none 0 0]) ?_ 0 _ rfl;exact a1.out) Try.underlying47 rfl (by kernel_rfl)) rfl ?_
   exact ⟨_,zE_,by exact Kd.R_mono (Kd.R_far (p := ⟨a3,3,none⟩) (Kd.R_far (p := ⟨a3,2,none⟩) (Kd.R_far (p := ⟨a3,1,none⟩) (rX1 n3.out a1.out 0) (fun _ hk => hk.2) (.int .i64 (d8.length : Int))) (fun _ hk => hk.2) (.int .i64 d0)) (fun _ hk => hk.2) (.slice Ao37 j9.length co37)) (fun _ hk => trivial),zb2 HB.out a9.out e4.out⟩
end Go.Proofs.Ytbokjhdhpmmpfaa.Q
