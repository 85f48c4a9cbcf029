-- Written by wip/tools/qprint.py (a program of this claim's author) by means of the kit's printer.
import Derived.Test.YtbokjhdhpmmpfaaQ0
import Derived.Test.YtbokjhdhpmmpfaaQ31
import Derived.Test.YtbokjhdhpmmpfaaQ33
import Derived.Test.YtbokjhdhpmmpfaaQ74
import Derived.Test.YtbokjhdhpmmpfaaQ76
import Derived.Test.YtbokjhdhpmmpfaaQ104
namespace Go.Proofs.Ytbokjhdhpmmpfaa.Q
open Go.RowKit Go.Proofs.YtbokjhdhpmmpfaaW.PrintWords Go.Proofs.YtbokjhdhpmmpfaaW.PrintLast Go.Proofs.YtbokjhdhpmmpfaaW.PrintMore
attribute [local go_sem] max2_int min2_int max_two min_two max_three min_three max_four min_four   -- for this text's walks alone
set_option linter.unusedVariables false
set_option linter.unusedSimpArgs false

/-! ### spec_DrawValidRules: function 37 -/
def spec_DrawValidRules.f (k : Nat) (l0 : List Int) : Option (Int × Int × Int × List Int) := (spec_newReader.f l0).bind fun d1 => ((spec_likelyOps.f k d1.1 d1.2).bind fun b8 => ((spec_someRules.f k d1.1 b8.2 b8.1).bind fun b2 => (some (b2.1,b2.2.1,b2.2.2.1,b2.2.2.2.1))))
set_option maxRecDepth 100000 in
theorem spec_DrawValidRules.mono : ∀ a0 k,LeO (spec_DrawValidRules.f k a0) (spec_DrawValidRules.f (k + 1) a0) := by
 intro a0 k
 unfold spec_DrawValidRules.f
 repeat' first
   | (with_reducible exact spec_likelyOps.mono _ _ _)
   | (with_reducible exact spec_someRules.mono _ _ _ _)
   | (with_reducible exact LeO.refl _)
   | (with_reducible exact LeO.none _)
   | (with_reducible refine LeO.ite ?_ ?_)
   | (with_reducible refine LeO.bind ?_ (fun _ => ?_))
   | exact spec_likelyOps.mono _ _ _
   | exact spec_someRules.mono _ _ _ _
   | exact LeO.none _
   | refine LeO.ite ?_ ?_
   | refine LeO.bind ?_ (fun _ => ?_)
set_option maxHeartbeats 8000000 in
set_option maxRecDepth 100000 in
theorem spec_DrawValidRules.calls (k : Nat) (A0 : Option Addr) (c0 : Nat) (l0 : List Int) (r1 : Int) (r2 : Int) (r3 : Int) (r4 : List Int) (w : World) (hr0 : Kd.C (Kd.int .u8) w A0 l0.length l0) (hc0 : l0.length ≤ c0) (h : spec_DrawValidRules.f k l0 = some (r1,r2,r3,r4)) :
  Calls Try.prog 37 #[.slice A0 l0.length c0] w fun e w' => ∃ v3_ : Value,e = .returned (.agg #[.int .i64 r1,.int .i64 r2,.int .i64 r3,v3_]) ∧ Kd.R (Kd.int .i64) 3 w' w.heap.size (fun _ => True) v3_ r4 ∧ Below w.heap.size w w' := by
 have hu47 := Try.underlying47
 have HR0 := As_ hr0
 have HC0 := As_ hc0
 clear hr0 hc0
 have HB := As_ (Below.refl w.heap.size w)
 have H : ((spec_newReader.f l0).bind fun d1 => ((spec_likelyOps.f k d1.1 d1.2).bind fun b8 => ((spec_someRules.f k d1.1 b8.2 b8.1).bind fun b2 => (some (b2.1,b2.2.1,b2.2.2.1,b2.2.2.2.1))))) = some (r1,r2,r3,r4) := h
 clear h
 replace H := obS H
 obtain ⟨⟨d4,e9⟩,A20,H⟩ := H
 replace H : ((spec_likelyOps.f k d4 e9).bind fun b8 => ((spec_someRules.f k d4 b8.2 b8.1).bind fun b2 => (some (b2.1,b2.2.1,b2.2.2.1,b2.2.2.2.1)))) = some (r1,r2,r3,r4) := H
 have A2 := As_ A20
 clear A20
 replace H := obS H
 obtain ⟨⟨e6,d9⟩,A30,H⟩ := H
 replace H : ((spec_someRules.f k d4 d9 e6).bind fun b2 => (some (b2.1,b2.2.1,b2.2.2.1,b2.2.2.2.1))) = some (r1,r2,r3,r4) := H
 have A3 := As_ A30
 clear A30
 replace H := obS H
 obtain ⟨⟨d5,d6,e0,e7,g5⟩,A40,H⟩ := H
 replace H : (some (d5,d6,e0,e7)) = some (r1,r2,r3,r4) := H
 have A4 := As_ A40
 clear A40
 simp only [Option.some.injEq,Prod.mk.injEq] at H
 obtain ⟨rfl,rfl,rfl,rfl⟩ := H
 go_enter Try.func37,Try.ntmps37
 go_wp2_with (first|((with_reducible refine gate_dst (N := 2) rfl ?_);refine box_event ?hg (N := 2) ?hd (cs := #[.int .i64 0,.int .i64 0,.int .i64 0,.slice none 0 0]) (t := 47) ?hr ?_;(case hd => rfl);(case hg => rfl);(case hr => go_simp <;> rfl);intro b6 hg w5 hbox hb;have n0_ := As_ (bwT (zb0 HB.out) hb);have n1_ := As_ (hbox);have n2_ := As_ ((by rw [hg];exact (bwZ (zb0 HB.out)) : w.heap.size ≤ b6));have n3_ := As_ ((by rw [hg];exact (bwZ (zb0 HB.out)) : w.heap.size ≤ b6));clear HB;revert n0_ n1_ n2_ n3_;intro HB b0 p0 d2;clear hb hbox hg)|((with_reducible refine gate_callee (f := 74) rfl ?_);refine goesL_ (some 5) rfl rfl Try.func74 (by kernel_rfl) rfl #[.slice A0 l0.length c0] rfl zM_ ?_;(with_reducible refine (spec_newReader.calls _ _ l0 d4 e9 w _ ?side1 ?side2 ?side3 A2.out).mono ?_);(case side1 => exact zb1 HB.out d2.out);(case side2 => exact HR0.out);(case side3 => exact HC0.out);rintro e w6 ⟨g1189,rfl,hi,hb,hb2⟩;refine ⟨_,rfl,?_⟩;have n0_ := As_ (zkb b0.out hb2);have n1_ := As_ (hb);have n2_ := As_ (hi);have n3_ := As_ (IsS113.ne_blk hi (zkb b0.out hb2) (by decide));have n4_ := As_ (Ne.symm (IsS113.ne_blk hi (zkb b0.out hb2) (by decide)));clear b0 HB;revert n0_ n1_ n2_ n3_ n4_;intro b0 HB b4 b5 b9)|((with_reducible refine gate_callee (f := 76) rfl ?_);refine goesL_ (some 8) rfl rfl Try.func76 (by kernel_rfl) rfl #[.pointer (some ⟨g1189,0,none⟩)] rfl zM_ ?_;(with_reducible refine (spec_likelyOps.calls k g1189 d4 e9 e6 d9 w _ ?side1 ?side2 A3.out).mono ?_);(case side1 => exact zi113_1 b4.out b5.out);(case side2 => exact zb2 HB.out (IsS113.ge b4.out) d2.out);rintro e w7 ⟨v1191,rfl,ho0,hi,hb,hk⟩;refine ⟨_,rfl,?_⟩;have n0_ := As_ (KeepBut.blk hk (g' := b6) (o := .cells #[.int .i64 0,.int .i64 0,.int .i64 0,.slice none 0 0] 47 (0,0)) (zk_ b0.out) b9.out (by simp));have n1_ := As_ (Kd.R_lower ho0 (bwZ (zb2 HB.out (IsS113.ge b4.out) d2.out)));have n2_ := As_ (hb);have n3_ := As_ (hi);clear b0 HB b4;revert n0_ n1_ n2_ n3_;intro b0 d3 HB b4;obtain ⟨Ao8,co8,eo8⟩ := Kd.R_slice d3.out;subst eo8)|((with_reducible refine gate_callee (f := 75) rfl ?_);refine goesL_ (some 9) rfl rfl Try.func75 (by kernel_rfl) rfl #[.pointer (some ⟨g1189,0,none⟩),.slice Ao8 e6.length co8] rfl zM_ ?_;(with_reducible refine (spec_someRules.calls k g1189 d4 d9 _ _ e6 d5 d6 e0 e7 g5 w _ ?side1 ?side2 ?side3 ?side4 A4.out).mono ?_);(case side1 => exact zi113_1 b4.out b5.out);(case side2 => exact zb2 HB.out (IsS113.ge b4.out) d2.out);(case side3 => exact Kd.C_foot_own (IsS113.apart (show IsS113 w _ g1189 d4 d9 from zi113_1 b4.out b5.out) (zR_ d3.out) (by decide)) (fun _ h_ => h_.2));(case side4 => exact (Kd.R_reads' d3.out).2.1);rintro e w9 ⟨v1198,rfl,ho0,hi,hb,hk⟩;refine ⟨_,rfl,?_⟩;have n0_ := As_ (KeepBut.blk hk (g' := b6) (o := .cells #[.int .i64 0,.int .i64 0,.int .i64 0,.slice none 0 0] 47 (0,0)) (zk_ b0.out) b9.out (by simp));have n1_ := As_ (Kd.R_mono (Kd.R_keep (IsS113.apart (show IsS113 w _ g1189 d4 d9 from zi113_1 b4.out b5.out) (zR_ d3.out) (by decide)) hk (fun _ h => h.2)) (fun _ h => h.1));have n2_ := As_ (Kd.R_lower ho0 (bwZ (zb2 HB.out (IsS113.ge b4.out) d2.out)));have n3_ := As_ (hb);have n4_ := As_ (hi);clear b0 d3 HB b4;revert n0_ n1_ n2_ n3_ n4_;intro b0 d3 g4 HB b4;have q2 := b9.out;have q3 := b5.out;have g8 : w9.cell? ⟨b6,0,none⟩ = some (.int .i64 0) := (bkC b0.out 0).trans rfl;have g9 : w9.cell? ⟨b6,1,none⟩ = some (.int .i64 0) := (bkC b0.out 1).trans rfl;have i1 : w9.cell? ⟨b6,2,none⟩ = some (.int .i64 0) := (bkC b0.out 2).trans rfl;have i2 : w9.cell? ⟨b6,3,none⟩ = some (.slice none 0 0) := (bkC b0.out 3).trans rfl;have i3 := bkF b0.out 0;have i4 := bkF b0.out 1;have i5 := bkF b0.out 2;have i6 := bkF b0.out 3;obtain ⟨Ao12,co12,eo12⟩ := Kd.R_slice g4.out;subst eo12))
 refine bodyPost_ret (results_cell_row rfl _ _ b6 47 #[.int .i64 d5,.int .i64 d6,.int .i64 e0,.slice Ao12 e7.length co12] (0,0) _ rfl (by refine blk_put (cs := #[.int .i64 d5,.int .i64 d6,.int .i64 e0,.slice none 0 0]) ?_ 3 _ rfl;refine blk_put (cs := #[.int .i64 d5,.int .i64 d6,.int .i64 0,.slice none 0 0]) ?_ 2 _ rfl;refine blk_put (cs := #[.int .i64 d5,.int .i64 0,.int .i64 0,.slice none 0 0]) ?_ 1 _ rfl;refine blk_put (cs := #[.int .i64 0,.int .i64 0,.int .i64 0,.slice none 0 0]) ?_ 0 _ rfl;exact b0.out) Try.underlying47 rfl (by kernel_rfl)) rfl ?_
 exact ⟨_,zE_,by exact Kd.R_mono (Kd.R_far (p := ⟨b6,3,none⟩) (Kd.R_far (p := ⟨b6,2,none⟩) (Kd.R_far (p := ⟨b6,1,none⟩) (rX1 g4.out b0.out 0) (fun _ hk => hk.2) (.int .i64 d6)) (fun _ hk => hk.2) (.int .i64 e0)) (fun _ hk => hk.2) (.slice Ao12 e7.length co12)) (fun _ hk => trivial),zb2 HB.out (IsS113.ge b4.out) d2.out⟩

/-! ### laws_FnValidRules: function 8 -/
def laws_FnValidRules.j0 : Nat → Bool → Bool → Int → Int → Int → List Int → Option (Bool)
 | 0,_,_,_,_,_,_ => none
 | k + 1,x4,x19,e1,e2,e3,e4 => if x19 = true then ((spec_ValidRules.f k e1 e2 e3 e4).bind fun d7 => (some (x4 == d7))) else ((impl_ValidRules.f k e1 e2 e3 ([] : List Int)).bind fun d8 => (if d8 = true then ((impl_ValidRules.f k 0 0 0 e4).bind fun d0 => (some d0)) else (some false)))
def laws_FnValidRules.f (k : Nat) (l0 : List Int) : Option (Bool) := if (l0.length : Int) > 1048576 then (some true) else ((spec_DrawValidRules.f k l0).bind fun a3 => ((impl_ValidRules.f k a3.1 a3.2.1 a3.2.2.1 a3.2.2.2).bind fun a7 => ((spec_ValidRules.f k a3.1 a3.2.1 a3.2.2.1 a3.2.2.2).bind fun b3 => (if (a7 != b3) = true then (laws_FnValidRules.j0 k a7 true a3.1 a3.2.1 a3.2.2.1 a3.2.2.2) else (laws_FnValidRules.j0 k a7 (!a7) a3.1 a3.2.1 a3.2.2.1 a3.2.2.2)))))
set_option maxRecDepth 100000 in
theorem laws_FnValidRules.mono_l : ∀ k,(∀ y0 y1 y2 y3 y4 y5,LeO (laws_FnValidRules.j0 k y0 y1 y2 y3 y4 y5) (laws_FnValidRules.j0 (k + 1) y0 y1 y2 y3 y4 y5))
 | 0 => fun _ _ _ _ _ _ r h => (by cases h)
 | k + 1 => by
  have ih0 := laws_FnValidRules.mono_l k
  ·intro y0 y1 y2 y3 y4 y5
   unfold laws_FnValidRules.j0
   repeat' first
   | (with_reducible exact ih0 _ _ _ _ _ _)
   | (with_reducible exact impl_ValidRules.mono _ _ _ _ _)
   | (with_reducible exact spec_DrawValidRules.mono _ _)
   | (with_reducible exact spec_ValidRules.mono _ _ _ _ _)
   | (with_reducible exact LeO.refl _)
   | (with_reducible exact LeO.none _)
   | (with_reducible refine LeO.ite ?_ ?_)
   | (with_reducible refine LeO.bind ?_ (fun _ => ?_))
   | exact ih0 _ _ _ _ _ _
   | exact impl_ValidRules.mono _ _ _ _ _
   | exact spec_DrawValidRules.mono _ _
   | exact spec_ValidRules.mono _ _ _ _ _
   | exact LeO.none _
   | refine LeO.ite ?_ ?_
   | refine LeO.bind ?_ (fun _ => ?_)
set_option maxRecDepth 100000 in
theorem laws_FnValidRules.mono : ∀ a0 k,LeO (laws_FnValidRules.f k a0) (laws_FnValidRules.f (k + 1) a0) := by
 intro a0 k
 have ih0 := laws_FnValidRules.mono_l k
 unfold laws_FnValidRules.f
 repeat' first
   | (with_reducible exact ih0 _ _ _ _ _ _)
   | (with_reducible exact impl_ValidRules.mono _ _ _ _ _)
   | (with_reducible exact spec_DrawValidRules.mono _ _)
   | (with_reducible exact spec_ValidRules.mono _ _ _ _ _)
   | (with_reducible exact LeO.refl _)
   | (with_reducible exact LeO.none _)
   | (with_reducible refine LeO.ite ?_ ?_)
   | (with_reducible refine LeO.bind ?_ (fun _ => ?_))
   | exact ih0 _ _ _ _ _ _
   | exact impl_ValidRules.mono _ _ _ _ _
   | exact spec_DrawValidRules.mono _ _
   | exact spec_ValidRules.mono _ _ _ _ _
   | exact LeO.none _
   | refine LeO.ite ?_ ?_
   | refine LeO.bind ?_ (fun _ => ?_)
set_option maxHeartbeats 8000000 in
set_option maxRecDepth 100000 in
theorem laws_FnValidRules.calls (k : Nat) (A0 : Option Addr) (c0 : Nat) (l0 : List Int) (r : Bool) (w : World) (hr0 : Kd.C (Kd.int .u8) w A0 l0.length l0) (hc0 : l0.length ≤ c0) (h : laws_FnValidRules.f k l0 = some r) :
  Calls Try.prog 8 #[.slice A0 l0.length c0] w fun e w' => e = .returned (.bool r) ∧ Below w.heap.size w w' := by
 have hu47 := Try.underlying47
 have HR0 := As_ hr0
 have HC0 := As_ hc0
 clear hr0 hc0
 have HB := As_ (Below.refl w.heap.size w)
 have H : (if (l0.length : Int) > 1048576 then (some true) else ((spec_DrawValidRules.f k l0).bind fun a3 => ((impl_ValidRules.f k a3.1 a3.2.1 a3.2.2.1 a3.2.2.2).bind fun a7 => ((spec_ValidRules.f k a3.1 a3.2.1 a3.2.2.1 a3.2.2.2).bind fun b3 => (if (a7 != b3) = true then (laws_FnValidRules.j0 k a7 true a3.1 a3.2.1 a3.2.2.1 a3.2.2.2) else (laws_FnValidRules.j0 k a7 (!a7) a3.1 a3.2.1 a3.2.2.1 a3.2.2.2)))))) = some r := h
 clear h
 by_cases c2 : (l0.length : Int) > 1048576
 ·rw [if_pos c2] at H
  have p1 : decide (1048576 < (l0.length : Int)) = true := deT c2
  have p2 : decide (1048576 < l0.length) = true := deT (by omega)
  clear c2
  obtain rfl := Option.some.inj H
  go_enter Try.func8,Try.ntmps8
  go_wp2
  go_ret
  exact ⟨zE_,zb0 HB.out⟩
 rw [if_neg c2] at H
 have p1 : decide (1048576 < (l0.length : Int)) = false := deF c2
 have p2 : decide (1048576 < l0.length) = false := deF (by omega)
 clear c2
 replace H := obS H
 obtain ⟨⟨a8,a5,a9,a6⟩,A30,H⟩ := H
 replace H : ((impl_ValidRules.f k a8 a5 a9 a6).bind fun a7 => ((spec_ValidRules.f k a8 a5 a9 a6).bind fun b3 => (if (a7 != b3) = true then (laws_FnValidRules.j0 k a7 true a8 a5 a9 a6) else (laws_FnValidRules.j0 k a7 (!a7) a8 a5 a9 a6)))) = some r := H
 have A3 := As_ A30
 clear A30
 replace H := obS H
 obtain ⟨a7,A40,H⟩ := H
 replace H : ((spec_ValidRules.f k a8 a5 a9 a6).bind fun b3 => (if (a7 != b3) = true then (laws_FnValidRules.j0 k a7 true a8 a5 a9 a6) else (laws_FnValidRules.j0 k a7 (!a7) a8 a5 a9 a6))) = some r := H
 have A4 := As_ A40
 clear A40
 have HC5 := As_ H
 clear H
 go_enter Try.func8,Try.ntmps8
 go_upto_region 5 with (first|((with_reducible refine gate_callee (f := 37) rfl ?_);refine goesL_ (some 9) rfl rfl Try.func37 (by kernel_rfl) rfl #[.slice A0 l0.length c0] rfl zM_ ?_;(with_reducible refine (spec_DrawValidRules.calls k _ _ l0 a8 a5 a9 a6 _ ?side1 ?side2 A3.out).mono ?_);(case side1 => repeat (first|exact HR0.out|(with_reducible refine Kd.C_alloc ?_ _)|(with_reducible refine Kd.C_drewN ?_ _)|(with_reducible refine Kd.C_drew ?_)));(case side2 => exact HC0.out);rintro e w6 ⟨v1205,rfl,ho0,hb⟩;refine ⟨_,rfl,?_⟩;have n0_ := As_ (Kd.R_lower ho0 (bwZ (zb0 HB.out)));have n1_ := As_ (bwT (zb0 HB.out) hb);clear HB;revert n0_ n1_;intro b1 HB)|((with_reducible refine gate_dst (N := 3) rfl ?_);refine box_event ?hg (N := 3) ?hd (cs := #[.int .i64 0,.int .i64 0,.int .i64 0,.slice none 0 0]) (t := 47) ?hr ?_;(case hd => rfl);(case hg => rfl);(case hr => go_simp <;> rfl);intro a2 hg w7 hbox hb;have n0_ := As_ (Kd.R_below (zR_ b1.out) hb);have n1_ := As_ (bwT (zb0 HB.out) hb);have n2_ := As_ (hbox);have n3_ := As_ ((by rw [hg];exact (bwZ (zb0 HB.out)) : w.heap.size ≤ a2));have n4_ := As_ ((by rw [hg];exact (bwZ (zb0 HB.out)) : w.heap.size ≤ a2));clear b1 HB;revert n0_ n1_ n2_ n3_ n4_;intro b1 HB a1 p3 b7;clear hb hbox hg;have p4 : w7.cell? ⟨a2,0,none⟩ = some (.int .i64 0) := (bkC a1.out 0).trans rfl;have p5 : w7.cell? ⟨a2,1,none⟩ = some (.int .i64 0) := (bkC a1.out 1).trans rfl;have p6 : w7.cell? ⟨a2,2,none⟩ = some (.int .i64 0) := (bkC a1.out 2).trans rfl;have p7 : w7.cell? ⟨a2,3,none⟩ = some (.slice none 0 0) := (bkC a1.out 3).trans rfl;have p8 := bkF a1.out 0;have p9 := bkF a1.out 1;have q0 := bkF a1.out 2;have q1 := bkF a1.out 3;obtain ⟨Ao9,co9,eo9⟩ := Kd.R_slice b1.out;subst eo9)|((with_reducible refine gate_callee (f := 33) rfl ?_);refine goesL_ (some 11) rfl rfl Try.func33 (by kernel_rfl) rfl #[.agg #[.int .i64 a8,.int .i64 a5,.int .i64 a9,.slice Ao9 a6.length co9]] rfl zM_ ?_;(with_reducible refine (impl_ValidRules.calls k a8 a5 a9 _ _ a6 a7 _ ?side1 ?side2 A4.out).mono ?_);(case side1 => refine (Kd.R_reads' (e := 3) (base := w.heap.size) (ok := fun k_ => True) (n := a6.length) (c := co9) ?_).2.2;exact (by exact (Kd.R_mono (Kd.R_far (p := ⟨a2,3,none⟩) (Kd.R_far (p := ⟨a2,2,none⟩) (Kd.R_far (p := ⟨a2,1,none⟩) (rX1 b1.out a1.out 0) (fun _ hk => hk.2) (.int .i64 a5)) (fun _ hk => hk.2) (.int .i64 a9)) (fun _ hk => hk.2) (.slice Ao9 a6.length co9)) (fun _ h_ => h_.1))));(case side2 => exact (Kd.R_reads' b1.out).2.1);rintro e w10 ⟨rfl,hb⟩;refine ⟨_,rfl,?_⟩;have n0_ := As_ (Kd.R_below (by exact (Kd.R_mono (Kd.R_far (p := ⟨a2,3,none⟩) (Kd.R_far (p := ⟨a2,2,none⟩) (Kd.R_far (p := ⟨a2,1,none⟩) (rX1 b1.out a1.out 0) (fun _ hk => hk.2) (.int .i64 a5)) (fun _ hk => hk.2) (.int .i64 a9)) (fun _ hk => hk.2) (.slice Ao9 a6.length co9)) (fun _ h_ => h_.1))) hb);have n1_ := As_ (blk_below (g := a2) (o := .cells #[.int .i64 a8,.int .i64 a5,.int .i64 a9,.slice Ao9 a6.length co9] 47 (0,0)) (by refine blk_put (cs := #[.int .i64 a8,.int .i64 a5,.int .i64 a9,.slice none 0 0]) ?_ 3 _ rfl;refine blk_put (cs := #[.int .i64 a8,.int .i64 a5,.int .i64 0,.slice none 0 0]) ?_ 2 _ rfl;refine blk_put (cs := #[.int .i64 a8,.int .i64 0,.int .i64 0,.slice none 0 0]) ?_ 1 _ rfl;refine blk_put (cs := #[.int .i64 0,.int .i64 0,.int .i64 0,.slice none 0 0]) ?_ 0 _ rfl;exact a1.out) hb);have n2_ := As_ (bwT (zb1 HB.out b7.out) hb);clear b1 a1 HB;revert n0_ n1_ n2_;intro b1 a1 HB))
 (try simp only [Act.put,List.setIfInBounds_toArray,List.set_cons_zero,List.set_cons_succ])
 go_cut [19] (fun v19 wc => ∃ (kq : Nat) (e8 : Bool),v19 = .bool e8 ∧ Aside0 (laws_FnValidRules.j0 kq a7 e8 a8 a5 a9 a6 = some r) ∧ Aside0 (kq ≤ k) ∧ Aside0 (Kd.R (Kd.int .i64) 3 wc w.heap.size (fun _ => True) (.slice Ao9 a6.length co9) a6) ∧ Aside0 (wc.heap[a2]? = some (.cells #[.int .i64 a8,.int .i64 a5,.int .i64 a9,(.slice Ao9 a6.length co9)] 47 (0,0))) ∧ Aside0 (Below w.heap.size w wc))
 case first =>
  have H := HC5.out
  clear HC5
  replace H := obS H
  obtain ⟨b3,A110,H⟩ := H
  replace H : (if (a7 != b3) = true then (laws_FnValidRules.j0 k a7 true a8 a5 a9 a6) else (laws_FnValidRules.j0 k a7 (!a7) a8 a5 a9 a6)) = some r := H
  have A11 := As_ A110
  clear A110
  by_cases c12 : (a7 != b3) = true
  rotate_left
  ·rw [if_neg c12] at H
   have e5 : (a7 != b3) = false := by simpa using c12
   (try (have g6 : decide (a7 = b3) = true := by simpa using c12))
   (try (have g7 : (a7 == b3) = true := by simpa using c12))
   clear c12
   (first|rw [e5]|(simp only [i64_w,i32_w];rw [e5])|skip)
   have H' := As_ H
   clear H
   have i7 : w10.cell? ⟨a2,0,none⟩ = some (.int .i64 a8) := (bkC a1.out 0).trans rfl
   have i8 : w10.cell? ⟨a2,1,none⟩ = some (.int .i64 a5) := (bkC a1.out 1).trans rfl
   have i9 : w10.cell? ⟨a2,2,none⟩ = some (.int .i64 a9) := (bkC a1.out 2).trans rfl
   have j1 : w10.cell? ⟨a2,3,none⟩ = some (.slice Ao9 a6.length co9) := (bkC a1.out 3).trans rfl
   have j2 := bkF a1.out 0
   have j3 := bkF a1.out 1
   have j4 := bkF a1.out 2
   have j5 := bkF a1.out 3
   go_wp2_with (first|((with_reducible refine gate_callee (f := 31) rfl ?_);refine goesL_ (some 14) rfl rfl Try.func31 (by kernel_rfl) rfl #[.agg #[.int .i64 a8,.int .i64 a5,.int .i64 a9,.slice Ao9 a6.length co9]] rfl zM_ ?_;(with_reducible refine (spec_ValidRules.calls k a8 a5 a9 _ _ a6 b3 _ ?side1 ?side2 A11.out).mono ?_);(case side1 => exact zC_ (Kd.R_reads' b1.out).2.2);(case side2 => exact (Kd.R_reads' b1.out).2.1);rintro e w16 ⟨rfl,hb⟩;refine ⟨_,rfl,?_⟩;have n0_ := As_ (Kd.R_below (zR_ b1.out) hb);have n1_ := As_ (zkb a1.out hb);have n2_ := As_ (bwT (zb1 HB.out b7.out) hb);clear b1 a1 HB;revert n0_ n1_ n2_;intro b1 a1 HB))
   go_meet
   case rel => exact ⟨_,(!a7),zT_,H',⟨by first|omega|exact Nat.le_refl _⟩,⟨b1.out⟩,⟨a1.out⟩,⟨zb1 HB.out b7.out⟩⟩
  rw [if_pos c12] at H
  have e5 : (a7 != b3) = true := c12
  (try (have g6 : decide (a7 = b3) = false := by simpa using c12))
  (try (have g7 : (a7 == b3) = false := by simpa using c12))
  (try (have q4 : ¬ (a7 = b3) := by simpa using c12))
  clear c12
  (first|rw [e5]|(simp only [i64_w,i32_w];rw [e5])|skip)
  have H' := As_ H
  clear H
  have j6 : w10.cell? ⟨a2,0,none⟩ = some (.int .i64 a8) := (bkC a1.out 0).trans rfl
  have j7 : w10.cell? ⟨a2,1,none⟩ = some (.int .i64 a5) := (bkC a1.out 1).trans rfl
  have j8 : w10.cell? ⟨a2,2,none⟩ = some (.int .i64 a9) := (bkC a1.out 2).trans rfl
  have j9 : w10.cell? ⟨a2,3,none⟩ = some (.slice Ao9 a6.length co9) := (bkC a1.out 3).trans rfl
  have l4 := bkF a1.out 0
  have l5 := bkF a1.out 1
  have l6 := bkF a1.out 2
  have l7 := bkF a1.out 3
  go_wp2_with (first|((with_reducible refine gate_callee (f := 31) rfl ?_);refine goesL_ (some 14) rfl rfl Try.func31 (by kernel_rfl) rfl #[.agg #[.int .i64 a8,.int .i64 a5,.int .i64 a9,.slice Ao9 a6.length co9]] rfl zM_ ?_;(with_reducible refine (spec_ValidRules.calls k a8 a5 a9 _ _ a6 b3 _ ?side1 ?side2 A11.out).mono ?_);(case side1 => exact zC_ (Kd.R_reads' b1.out).2.2);(case side2 => exact (Kd.R_reads' b1.out).2.1);rintro e w14 ⟨rfl,hb⟩;refine ⟨_,rfl,?_⟩;have n0_ := As_ (Kd.R_below (zR_ b1.out) hb);have n1_ := As_ (zkb a1.out hb);have n2_ := As_ (bwT (zb1 HB.out b7.out) hb);clear b1 a1 HB;revert n0_ n1_ n2_;intro b1 a1 HB))
  go_meet
  case rel => exact ⟨_,(true),zT_,H',⟨by first|omega|exact Nat.le_refl _⟩,⟨b1.out⟩,⟨a1.out⟩,⟨zb1 HB.out b7.out⟩⟩
 case rest =>
  clear HC5
  obtain ⟨kq,e8,rfl,HA,HJ4,a4,a1,HB⟩ := hcut
  cases kq with
  | zero => exact absurd HA.out (fun h_ => (by cases h_))
  | succ kj4 =>
   have H := HA.out
   clear HA
   simp only [laws_FnValidRules.j0] at H
   by_cases c17 : e8 = true
   ·subst c17
    have H1 : ((spec_ValidRules.f kj4 a8 a5 a9 a6).bind fun d7 => (some (a7 == d7))) = some r := by rw [if_pos rfl] at H;exact H
    clear H
    have H := H1
    clear H1
    replace H := obS H
    obtain ⟨d7,A180,H⟩ := H
    replace H : (some (a7 == d7)) = some r := H
    have A18 := As_ A180
    clear A180
    obtain rfl := Option.some.inj H
    have l8 : wc.cell? ⟨a2,0,none⟩ = some (.int .i64 a8) := (bkC a1.out 0).trans rfl
    have l9 : wc.cell? ⟨a2,1,none⟩ = some (.int .i64 a5) := (bkC a1.out 1).trans rfl
    have m0 : wc.cell? ⟨a2,2,none⟩ = some (.int .i64 a9) := (bkC a1.out 2).trans rfl
    have m1 : wc.cell? ⟨a2,3,none⟩ = some (.slice Ao9 a6.length co9) := (bkC a1.out 3).trans rfl
    have m2 := bkF a1.out 0
    have m3 := bkF a1.out 1
    have m4 := bkF a1.out 2
    have m5 := bkF a1.out 3
    go_wp2_with (first|((with_reducible refine gate_callee (f := 31) rfl ?_);refine goesL_ (some 22) rfl rfl Try.func31 (by kernel_rfl) rfl #[.agg #[.int .i64 a8,.int .i64 a5,.int .i64 a9,.slice Ao9 a6.length co9]] rfl zM_ ?_;(with_reducible refine (spec_ValidRules.calls kj4 a8 a5 a9 _ _ a6 d7 _ ?side1 ?side2 A18.out).mono ?_);(case side1 => exact zC_ (Kd.R_reads' a4.out).2.2);(case side2 => exact (Kd.R_reads' a4.out).2.1);rintro e w20 ⟨rfl,hb⟩;refine ⟨_,rfl,?_⟩;have n0_ := As_ (Kd.R_below (zR_ a4.out) hb);have n1_ := As_ (zkb a1.out hb);have n2_ := As_ (bwT (zb1 HB.out b7.out) hb);clear a4 a1 HB;revert n0_ n1_ n2_;intro a4 a1 HB))
    go_ret
    exact ⟨zE_,zb1 HB.out b7.out⟩
   replace c17 := Bool.eq_false_iff.mpr c17
   subst c17
   have H1 : ((impl_ValidRules.f kj4 a8 a5 a9 ([] : List Int)).bind fun d8 => (if d8 = true then ((impl_ValidRules.f kj4 0 0 0 a6).bind fun d0 => (some d0)) else (some false))) = some r := by rw [if_neg (show ¬ (false = true) by decide)] at H;exact H
   clear H
   have H := H1
   clear H1
   replace H := obS H
   obtain ⟨d8,A210,H⟩ := H
   replace H : (if d8 = true then ((impl_ValidRules.f kj4 0 0 0 a6).bind fun d0 => (some d0)) else (some false)) = some r := H
   have A21 := As_ A210
   clear A210
   by_cases c22 : d8 = true
   rotate_left
   ·replace c22 := Bool.eq_false_iff.mpr c22
    subst c22
    have H1 : (some false) = some r := by rw [if_neg (show ¬ (false = true) by decide)] at H;exact H
    clear H
    have H := H1
    clear H1
    obtain rfl := Option.some.inj H
    have m6 : wc.cell? ⟨a2,0,none⟩ = some (.int .i64 a8) := (bkC a1.out 0).trans rfl
    have m7 : wc.cell? ⟨a2,1,none⟩ = some (.int .i64 a5) := (bkC a1.out 1).trans rfl
    have m8 : wc.cell? ⟨a2,2,none⟩ = some (.int .i64 a9) := (bkC a1.out 2).trans rfl
    have m9 : wc.cell? ⟨a2,3,none⟩ = some (.slice Ao9 a6.length co9) := (bkC a1.out 3).trans rfl
    have n0 := bkF a1.out 0
    have n1 := bkF a1.out 1
    have n2 := bkF a1.out 2
    have n3 := bkF a1.out 3
    go_wp2_with (first|((with_reducible refine gate_callee (f := 33) rfl ?_);refine goesL_ (some 31) rfl rfl Try.func33 (by kernel_rfl) rfl #[.agg #[.int .i64 a8,.int .i64 a5,.int .i64 a9,.slice none 0 0]] rfl zM_ ?_;(refine (impl_ValidRules.calls kj4 a8 a5 a9 _ _ ([] : List Int) false _ ?side1 ?side2 A21.out).mono ?_);(case side1 => exact Kd.C_nil _ _);(case side2 => exact Nat.le_refl _);rintro e w29 ⟨rfl,hb⟩;refine ⟨_,rfl,?_⟩;have n0_ := As_ (Kd.R_below (zR_ a4.out) hb);have n1_ := As_ (zkb a1.out hb);have n2_ := As_ (bwT (zb1 HB.out b7.out) hb);clear a4 a1 HB;revert n0_ n1_ n2_;intro a4 a1 HB))
    go_ret
    exact ⟨zE_,zb1 HB.out b7.out⟩

   subst c22
   have H1 : ((impl_ValidRules.f kj4 0 0 0 a6).bind fun d0 => (some d0)) = some r := by rw [if_pos rfl] at H;exact H
   clear H
   have H := H1
   clear H1
   replace H := obS H
   obtain ⟨d0,A230,H⟩ := H
   replace H : (some d0) = some r := H
   have A23 := As_ A230
   clear A230
   obtain rfl := Option.some.inj H
   have n4 : wc.cell? ⟨a2,0,none⟩ = some (.int .i64 a8) := (bkC a1.out 0).trans rfl
   have n5 : wc.cell? ⟨a2,1,none⟩ = some (.int .i64 a5) := (bkC a1.out 1).trans rfl
   have n6 : wc.cell? ⟨a2,2,none⟩ = some (.int .i64 a9) := (bkC a1.out 2).trans rfl
   have n7 : wc.cell? ⟨a2,3,none⟩ = some (.slice Ao9 a6.length co9) := (bkC a1.out 3).trans rfl
   have n8 := bkF a1.out 0
   have n9 := bkF a1.out 1
   have o0 := bkF a1.out 2
   have o1 := bkF a1.out 3
   go_wp2_with (first|((with_reducible refine gate_callee (f := 33) rfl ?_);refine goesL_ (some 31) rfl rfl Try.func33 (by kernel_rfl) rfl #[.agg #[.int .i64 a8,.int .i64 a5,.int .i64 a9,.slice none 0 0]] rfl zM_ ?_;(refine (impl_ValidRules.calls kj4 a8 a5 a9 _ _ ([] : List Int) true _ ?side1 ?side2 A21.out).mono ?_);(case side1 => exact Kd.C_nil _ _);(case side2 => exact Nat.le_refl _);rintro e w25 ⟨rfl,hb⟩;refine ⟨_,rfl,?_⟩;have n0_ := As_ (Kd.R_below (zR_ a4.out) hb);have n1_ := As_ (zkb a1.out hb);have n2_ := As_ (bwT (zb1 HB.out b7.out) hb);clear a4 a1 HB;revert n0_ n1_ n2_;intro a4 a1 HB;have o2 : w25.cell? ⟨a2,0,none⟩ = some (.int .i64 a8) := (bkC a1.out 0).trans rfl;have o3 : w25.cell? ⟨a2,1,none⟩ = some (.int .i64 a5) := (bkC a1.out 1).trans rfl;have o4 : w25.cell? ⟨a2,2,none⟩ = some (.int .i64 a9) := (bkC a1.out 2).trans rfl;have o5 : w25.cell? ⟨a2,3,none⟩ = some (.slice Ao9 a6.length co9) := (bkC a1.out 3).trans rfl;have o6 := bkF a1.out 0;have o7 := bkF a1.out 1;have o8 := bkF a1.out 2;have o9 := bkF a1.out 3)|(go_at_call 33;(with_reducible refine (impl_ValidRules.calls kj4 0 0 0 _ _ a6 d0 _ ?side1 ?side2 A23.out).mono ?_);(case side1 => exact zC_ (Kd.R_reads' a4.out).2.2);(case side2 => exact (Kd.R_reads' a4.out).2.1);rintro e w27 ⟨rfl,hb⟩;have n0_ := As_ (Kd.R_below (zR_ a4.out) hb);have n1_ := As_ (zkb a1.out hb);have n2_ := As_ (bwT (zb1 HB.out b7.out) hb);clear a4 a1 HB;revert n0_ n1_ n2_;intro a4 a1 HB))
   go_ret
   exact ⟨zE_,zb1 HB.out b7.out⟩
/-- THE ONE PURE STATEMENT of laws_FnValidRules: yours. -/
def laws_FnValidRules.Pure : Prop := ∀ (l0 : List Int),l0.length ≤ maxLen → l0.length * 1 ≤ 140737488351232 → (∀ x ∈ l0,(Lit.int .u8 x).wf = true) → ∃ k,laws_FnValidRules.f k l0 = some true
theorem laws_FnValidRules.walk (P : laws_FnValidRules.Pure) (a0 : Option Addr) (len0 cap0 : Nat) (z0 : List Int) (w : World) (w0 : (a0 = none ∧ len0 = 0 ∧ cap0 = 0 ∧ z0 = []) ∨ ∃ x,a0 = some x ∧ len0 ≤ cap0 ∧ cap0 ≤ maxLen ∧ z0.length = cap0 ∧ (∀ i,i < z0.length → w.cell? (x.add i) = some (.int .u8 (z0.getD i 0))) ∧ ∀ n ∈ z0,(Lit.int .u8 n).wf = true) (y0 : len0 * 1 ≤ 140737488351232) :
  Calls Try.prog 8 #[.slice a0 len0 cap0] w fun e w' => e = .returned (.bool true) ∧ Below w.heap.size w w' := by
 obtain ⟨l0,rfl,hr0,hm0,hw0,hc0⟩ := ReadsInt.ofRowC w0
 obtain ⟨k,h⟩ := P l0 hm0 y0 hw0
 refine (laws_FnValidRules.calls k _ _ l0 true w (Kd.C_of_reads (d := (0 : Int)) (h1 := fun _ => rfl) hr0) hc0 h).mono ?_
 rintro e w' ⟨rfl,hd⟩
 exact ⟨rfl,hd⟩

end Go.Proofs.Ytbokjhdhpmmpfaa.Q
