-- Written by wip/tools/qprint.py (a program of this claim's author) by means of the kit's printer.
import Derived.Test.YtbokjhdhpmmpfaaQ0
import Derived.Test.YtbokjhdhpmmpfaaQ55
import Derived.Test.YtbokjhdhpmmpfaaQ118
namespace Go.Proofs.Ytbokjhdhpmmpfaa.Q
open Go.RowKit Go.Proofs.YtbokjhdhpmmpfaaW.PrintWords Go.Proofs.YtbokjhdhpmmpfaaW.PrintLast Go.Proofs.YtbokjhdhpmmpfaaW.PrintMore
attribute [local go_sem] max2_int min2_int max_two min_two max_three min_three max_four min_four   -- for this text's walks alone
set_option linter.unusedVariables false
set_option linter.unusedSimpArgs false

/-! ### spec_CutOps: function 110 -/
def spec_CutOps.f (k : Nat) (l0 : List (S75)) : Option ((List (S75))) := (spec_validOps.f k l0).bind fun b3 => (if b3 = true then ((spec_runShapes.f k l0).bind fun a4 => ((some (([] : List (S75)) : List (S75))).bind fun a3 => (if 0 ≤ a4.2.2.2.2.2 then (if a4.2.2.2.2.2 ≤ (l0.length : Int) then ((some (l0.take (a4.2.2.2.2.2 : Int).toNat : List (S75))).bind fun a2 => (if a3.length + a2.length < 8796093022208 then (some (a3 ++ a2)) else (none))) else (none)) else (none)))) else (some ([] : List (S75))))
set_option maxRecDepth 100000 in
theorem spec_CutOps.mono : ∀ a0 k,LeO (spec_CutOps.f k a0) (spec_CutOps.f (k + 1) a0) := by
 intro a0 k
 unfold spec_CutOps.f
 repeat' first
   | (with_reducible exact spec_runShapes.mono _ _)
   | (with_reducible exact spec_validOps.mono _ _)
   | (with_reducible exact LeO.refl _)
   | (with_reducible exact LeO.none _)
   | (with_reducible refine LeO.ite ?_ ?_)
   | (with_reducible refine LeO.bind ?_ (fun _ => ?_))
   | exact spec_runShapes.mono _ _
   | exact spec_validOps.mono _ _
   | exact LeO.none _
   | refine LeO.ite ?_ ?_
   | refine LeO.bind ?_ (fun _ => ?_)
set_option maxHeartbeats 8000000 in
set_option maxRecDepth 100000 in
theorem spec_CutOps.calls (k : Nat) (A0 : Option Addr) (c0 : Nat) (l0 : List (S75)) (r : List (S75)) (w : World) (hr0 : Kd.C k75 w A0 l0.length l0) (hc0 : l0.length ≤ c0) (h : spec_CutOps.f k l0 = some r) :
  Calls Try.prog 110 #[.slice A0 l0.length c0] w fun e w' => ∃ v0_ : Value,e = .returned (v0_) ∧ Kd.R k75 75 w' w.heap.size (fun _ => True) v0_ r ∧ Below w.heap.size w w' := by
 have hu120 := Try.underlying120
 have HR0 := As_ hr0
 have HC0 := As_ hc0
 clear hr0 hc0
 have HB := As_ (Below.refl w.heap.size w)
 have H : ((spec_validOps.f k l0).bind fun b3 => (if b3 = true then ((spec_runShapes.f k l0).bind fun a4 => ((some (([] : List (S75)) : List (S75))).bind fun a3 => (if 0 ≤ a4.2.2.2.2.2 then (if a4.2.2.2.2.2 ≤ (l0.length : Int) then ((some (l0.take (a4.2.2.2.2.2 : Int).toNat : List (S75))).bind fun a2 => (if a3.length + a2.length < 8796093022208 then (some (a3 ++ a2)) else (none))) else (none)) else (none)))) else (some ([] : List (S75))))) = some r := h
 clear h
 replace H := obS H
 obtain ⟨b3,A20,H⟩ := H
 replace H : (if b3 = true then ((spec_runShapes.f k l0).bind fun a4 => ((some (([] : List (S75)) : List (S75))).bind fun a3 => (if 0 ≤ a4.2.2.2.2.2 then (if a4.2.2.2.2.2 ≤ (l0.length : Int) then ((some (l0.take (a4.2.2.2.2.2 : Int).toNat : List (S75))).bind fun a2 => (if a3.length + a2.length < 8796093022208 then (some (a3 ++ a2)) else (none))) else (none)) else (none)))) else (some ([] : List (S75)))) = some r := H
 have A2 := As_ A20
 clear A20
 by_cases c3 : b3 = true
 rotate_left
 ·replace c3 := Bool.eq_false_iff.mpr c3
  subst c3
  have H1 : (some ([] : List (S75))) = some r := by rw [if_neg (show ¬ (false = true) by decide)] at H;exact H
  clear H
  have H := H1
  clear H1
  obtain rfl := Option.some.inj H
  go_enter Try.func110,Try.ntmps110
  go_wp2_with (first|((with_reducible refine gate_callee (f := 55) rfl ?_);refine goesL_ (some 6) rfl rfl Try.func55 (by kernel_rfl) rfl #[.slice A0 l0.length c0] rfl zM_ ?_;(with_reducible refine (spec_validOps.calls k _ _ l0 false _ ?side1 ?side2 A2.out).mono ?_);(case side1 => repeat (first|exact HR0.out|(with_reducible refine Kd.C_alloc ?_ _)|(with_reducible refine Kd.C_drewN ?_ _)|(with_reducible refine Kd.C_drew ?_)));(case side2 => exact HC0.out);rintro e w20 ⟨rfl,hb⟩;refine ⟨_,rfl,?_⟩;have n0_ := As_ (bwT (zb0 HB.out) hb);clear HB;revert n0_;intro HB))
  go_ret
  exact ⟨_,zE_,by first|exact Kd.R_nil _ _ _ _ _|exact Kd.N_nil _ _ _ _ _|exact Kd.V_nil _ _ _ _ _|exact Kd.Q_nil _ _ _ _ _|exact Kd.S_nil _ _ _ _ _,zb0 HB.out⟩

 subst c3
 have H1 : ((spec_runShapes.f k l0).bind fun a4 => ((some (([] : List (S75)) : List (S75))).bind fun a3 => (if 0 ≤ a4.2.2.2.2.2 then (if a4.2.2.2.2.2 ≤ (l0.length : Int) then ((some (l0.take (a4.2.2.2.2.2 : Int).toNat : List (S75))).bind fun a2 => (if a3.length + a2.length < 8796093022208 then (some (a3 ++ a2)) else (none))) else (none)) else (none)))) = some r := by rw [if_pos rfl] at H;exact H
 clear H
 have H := H1
 clear H1
 replace H := obS H
 obtain ⟨⟨b7,b8,b9,d0,d1,a5⟩,A40,H⟩ := H
 replace H : ((some (([] : List (S75)) : List (S75))).bind fun a3 => (if 0 ≤ a5 then (if a5 ≤ (l0.length : Int) then ((some (l0.take (a5 : Int).toNat : List (S75))).bind fun a2 => (if a3.length + a2.length < 8796093022208 then (some (a3 ++ a2)) else (none))) else (none)) else (none))) = some r := H
 have A4 := As_ A40
 clear A40
 obtain ⟨a3,b4⟩ : ∃ y_ : List (S75),y_ = (([] : List (S75))) := ⟨_,rfl⟩
 replace H : (if 0 ≤ a5 then (if a5 ≤ (l0.length : Int) then ((some (l0.take (a5 : Int).toNat : List (S75))).bind fun a2 => (if a3.length + a2.length < 8796093022208 then (some (a3 ++ a2)) else (none))) else (none)) else (none)) = some r := zH_ H b4
 have d2 := As_ b4
 clear b4
 by_cases c5 : 0 ≤ a5
 rotate_left
 ·rw [if_neg c5] at H
  exact absurd H (by simp)
 rw [if_pos c5] at H
 have g4 := eq_true c5
 have g5 : decide (0 ≤ a5) = true := deT c5
 clear c5
 by_cases c6 : a5 ≤ (l0.length : Int)
 rotate_left
 ·rw [if_neg c6] at H
  exact absurd H (by simp)
 rw [if_pos c6] at H
 have g6 := eq_true c6
 have g7 : decide (a5 ≤ (l0.length : Int)) = true := deT c6
 clear c6
 obtain ⟨a2,b5⟩ : ∃ y_ : List (S75),y_ = (l0.take (a5 : Int).toNat) := ⟨_,rfl⟩
 replace H : (if a3.length + a2.length < 8796093022208 then (some (a3 ++ a2)) else (none)) = some r := zH_ H b5
 have d3 := As_ b5
 clear b5
 by_cases c7 : a3.length + a2.length < 8796093022208
 rotate_left
 ·rw [if_neg c7] at H
  exact absurd H (by simp)
 rw [if_pos c7] at H
 have e8 := As_ c7
 clear c7
 obtain ⟨d7,b6⟩ : ∃ y_ : List (S75),y_ = (a3 ++ a2) := ⟨_,rfl⟩
 replace H : (some d7) = some r := zH_ H b6
 have d4 := As_ b6
 clear b6
 obtain rfl := Option.some.inj H
 go_enter Try.func110,Try.ntmps110
 go_wp2_with (first|((with_reducible refine gate_callee (f := 55) rfl ?_);refine goesL_ (some 6) rfl rfl Try.func55 (by kernel_rfl) rfl #[.slice A0 l0.length c0] rfl zM_ ?_;(with_reducible refine (spec_validOps.calls k _ _ l0 true _ ?side1 ?side2 A2.out).mono ?_);(case side1 => repeat (first|exact HR0.out|(with_reducible refine Kd.C_alloc ?_ _)|(with_reducible refine Kd.C_drewN ?_ _)|(with_reducible refine Kd.C_drew ?_)));(case side2 => exact HC0.out);rintro e w8 ⟨rfl,hb⟩;refine ⟨_,rfl,?_⟩;have n0_ := As_ (bwT (zb0 HB.out) hb);clear HB;revert n0_;intro HB)|((with_reducible refine gate_callee (f := 118) rfl ?_);refine goesL_ (some 10) rfl rfl Try.func118 (by kernel_rfl) rfl #[.slice A0 l0.length c0] rfl zM_ ?_;(with_reducible refine (spec_runShapes.calls k _ _ l0 b7 b8 b9 d0 d1 a5 _ ?side1 ?side2 A4.out).mono ?_);(case side1 => exact zC_ (Kd.C_below HR0.out HB.out));(case side2 => exact HC0.out);rintro e w9 ⟨v1086,v1089,v1092,v1095,rfl,ho0,ho1,ho2,ho3,hb⟩;refine ⟨_,rfl,?_⟩;have n0_ := As_ (Kd.R_lower ho0 (bwZ (zb0 HB.out)));have n1_ := As_ (Kd.R_lower ho1 (bwZ (zb0 HB.out)));have n2_ := As_ (Kd.R_lower ho2 (bwZ (zb0 HB.out)));have n3_ := As_ (Kd.R_lower ho3 (bwZ (zb0 HB.out)));have n4_ := As_ (bwT (zb0 HB.out) hb);clear HB;revert n0_ n1_ n2_ n3_ n4_;intro a6 a7 a8 a9 HB)|((with_reducible refine gate_dst (N := 3) rfl ?_);refine box_event ?hg (N := 3) ?hd (cs := #[.slice none 0 0,.slice none 0 0,.slice none 0 0,.slice none 0 0,.bool false]) (t := 120) ?hr ?_;(case hd => rfl);(case hg => rfl);(case hr => go_simp <;> rfl);intro b0 hg w10 hbox hb;have n0_ := As_ (Kd.R_below (zR_ a6.out) hb);have n1_ := As_ (Kd.R_below (zR_ a7.out) hb);have n2_ := As_ (Kd.R_below (zR_ a8.out) hb);have n3_ := As_ (Kd.R_below (zR_ a9.out) hb);have n4_ := As_ (bwT (zb0 HB.out) hb);have n5_ := As_ (hbox);have n6_ := As_ ((by rw [hg];exact (bwZ (zb0 HB.out)) : w.heap.size ≤ b0));have n7_ := As_ ((by rw [hg];exact (bwZ (zb0 HB.out)) : w.heap.size ≤ b0));clear a6 a7 a8 a9 HB;revert n0_ n1_ n2_ n3_ n4_ n5_ n6_ n7_;intro a6 a7 a8 a9 HB a1 e9 b2;clear hb hbox hg;obtain ⟨Ao11,co11,eo11⟩ := Kd.R_slice a6.out;subst eo11;have d8 : w10.cell? ⟨b0,0,none⟩ = some (.slice none 0 0) := (bkC a1.out 0).trans rfl;have d9 : w10.cell? ⟨b0,1,none⟩ = some (.slice none 0 0) := (bkC a1.out 1).trans rfl;have e0 : w10.cell? ⟨b0,2,none⟩ = some (.slice none 0 0) := (bkC a1.out 2).trans rfl;have e1 : w10.cell? ⟨b0,3,none⟩ = some (.slice none 0 0) := (bkC a1.out 3).trans rfl;have e2 : w10.cell? ⟨b0,4,none⟩ = some (.bool false) := (bkC a1.out 4).trans rfl;have e3 := bkF a1.out 0;have e4 := bkF a1.out 1;have e5 := bkF a1.out 2;have e6 := bkF a1.out 3;have e7 := bkF a1.out 4;obtain ⟨Ao13,co13,eo13⟩ := Kd.R_slice a7.out;subst eo13;obtain ⟨Ao14,co14,eo14⟩ := Kd.R_slice a8.out;subst eo14;obtain ⟨Ao15,co15,eo15⟩ := Kd.R_slice a9.out;subst eo15)|((with_reducible refine gate_dst (N := 13) rfl ?_);refine Kd.R_lit k75 _ 75 ?hg (N := 13) ?hd (xs := ([] : List (S75))) (inner := []) (ok := fun _ => True) (okp := fun _ => True) ?hr ?hp (fun _ hk => hk) trivial (Below.refl _ _) (Nat.le_refl _) (by simp) ?_;(case hd => rfl);(case hg => rfl);(case hr => go_simp <;> rfl);(case hp => exact (Reps.none _ _));intro v1101 w16 ho17 hb hg_ hnew_;clear hg_ hnew_;(first|rw [← d2.out] at ho17|(simp only [Int.reduceToNat] at ho17;rw [← d2.out] at ho17));have n0_ := As_ (Kd.R_below (by exact (Kd.R_mono (rX5 a6.out a1.out) (fun _ h_ => h_.1))) hb);have n1_ := As_ (Kd.R_below (by exact (Kd.R_mono (rX5 a7.out a1.out) (fun _ h_ => h_.1))) hb);have n2_ := As_ (Kd.R_below (by exact (Kd.R_mono (rX5 a8.out a1.out) (fun _ h_ => h_.1))) hb);have n3_ := As_ (Kd.R_below (by exact (Kd.R_mono (rX5 a9.out a1.out) (fun _ h_ => h_.1))) hb);have n4_ := As_ (Kd.R_lower ho17 (bwZ (zb1 HB.out b2.out)));have n5_ := As_ (blk_below (g := b0) (o := .cells #[.slice Ao11 b7.length co11,.slice Ao13 b8.length co13,.slice Ao14 b9.length co14,.slice Ao15 d0.length co15,.bool d1] 120 (0,0)) (p5 a1.out) hb);have n6_ := As_ (bwT (zb1 HB.out b2.out) hb);clear a6 a7 a8 a9 a1 HB;revert n0_ n1_ n2_ n3_ n4_ n5_ n6_;intro a6 a7 a8 a9 b1 a1 HB;clear hb ho17;have q18 : (a5 : Int) ≤ ((l0.length : Int) : Int) := odT zA_;obtain ⟨i018,hi018,_,hsz18,_⟩ := info_parts info75;have hroom18 : l0.length ≤ c0 := HC0.out;have hC18 : Kd.C k75 _ A0 l0.length l0 := HR0.out;have hcut18 := cut_to (P := Try.prog) 23 75 .i64 Try.underlying23 hi018 A0 l0.length c0 a5 (odT zA_) q18 hroom18;have hr18 := Kd.C_take (m := (a5 : Int).toNat) hC18 (by omega);have d5 : a2.length = (a5 : Int).toNat := (by rw [d3.out,List.length_take];omega);rw [← d3.out] at hr18;rw [← d5] at hcut18;have HR1106 := As_ hr18;have HC1106 := As_ (show a2.length ≤ c0 from by omega);clear hr18 hC18 hroom18 hi018 hsz18;have KY18 := As_ d5;clear d5;replace q18 := eq_true q18)|((with_reducible refine gate_builtin (b := .append) (xs := #[.tmp 13,.tmp 16]) rfl ?_);at_builtin;refine Kd.R_append_rows k75 (w0 := w) w.heap.size rfl (.tmp 13) (.tmp 16) 23 75 (.agg #[(.int .i64 0),(.int .i64 0)]) 16 rfl Try.underlying23 info75 rfl (by decide) (by omega) v1101 a3 a2 _ _ _ (fun _ => True) (fun _ => False) rfl rfl ?aO ?aR (fun _ _ h => h) (fun _ h => h.elim) ?aF ?aB ?aS ?aL ?_;(case aR => exact zC_ (Kd.C_below HR1106.out HB.out));(case aB => exact (zb1 HB.out b2.out));(case aF => exact (fun _ _ => trivial));(case aO => exact (zR_ b1.out));(case aS => exact (bwZ (zb1 HB.out b2.out)));(case aL => have := e8.out;omega);intro v1108 w19 ho hb hg hat;rw [← d4.out] at ho;have n0_ := As_ (Kd.R_over' (zR_ a6.out) (Kd.R_typed (zR_ b1.out)) (by decide) hg);have n1_ := As_ (Kd.R_over' (zR_ a7.out) (Kd.R_typed (zR_ b1.out)) (by decide) hg);have n2_ := As_ (Kd.R_over' (zR_ a8.out) (Kd.R_typed (zR_ b1.out)) (by decide) hg);have n3_ := As_ (Kd.R_over' (zR_ a9.out) (Kd.R_typed (zR_ b1.out)) (by decide) hg);have n4_ := As_ (blk_grown (g := b0) (o := .cells #[.slice Ao11 b7.length co11,.slice Ao13 b8.length co13,.slice Ao14 b9.length co14,.slice Ao15 d0.length co15,.bool d1] 120 (0,0)) (zk_ a1.out) hg (rne b1.out a1.out));have n5_ := As_ (hb);have n6_ := As_ (ho);clear a6 a7 a8 a9 a1 HB b1;revert n0_ n1_ n2_ n3_ n4_ n5_ n6_;intro a6 a7 a8 a9 a1 HB d6;clear ho hb hg hat))
 go_ret
 exact ⟨_,zE_,by exact d6.out,zb1 HB.out b2.out⟩
end Go.Proofs.Ytbokjhdhpmmpfaa.Q
