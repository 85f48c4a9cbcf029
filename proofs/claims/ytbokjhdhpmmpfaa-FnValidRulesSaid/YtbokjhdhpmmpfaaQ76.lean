-- Written by wip/tools/qprint.py (a program of this claim's author) by means of the kit's printer.
import Derived.Test.YtbokjhdhpmmpfaaQ0
import Derived.Test.YtbokjhdhpmmpfaaQ74
import Derived.Test.YtbokjhdhpmmpfaaQ104
import Derived.Test.YtbokjhdhpmmpfaaQ105
import Derived.Test.YtbokjhdhpmmpfaaQ107
import Derived.Test.YtbokjhdhpmmpfaaQ108
import Derived.Test.YtbokjhdhpmmpfaaQ109
import Derived.Test.YtbokjhdhpmmpfaaQ110
namespace Go.Proofs.Ytbokjhdhpmmpfaa.Q
open Go.RowKit Go.Proofs.YtbokjhdhpmmpfaaW.PrintWords Go.Proofs.YtbokjhdhpmmpfaaW.PrintLast Go.Proofs.YtbokjhdhpmmpfaaW.PrintMore
attribute [local go_sem] max2_int min2_int max_two min_two max_three min_three max_four min_four   -- for this text's walks alone
set_option linter.unusedVariables false
set_option linter.unusedSimpArgs false

/-! ### spec_likelyOps: function 76 -/
mutual
def spec_likelyOps.l0 : Nat → List (S75) → Int → List Int → Int → List Int → List Bool → List Int → List Int → Bool → Option ((List (S75)) × Int)
 | 0,_,_,_,_,_,_,_,_,_ => none
 | k + 1,x3,x5,n0,o3,i7,i8,i9,j0,j3 => if x5 > 0 then ((spec_someOp.f k n0 o3).bind fun n9 => (if n9.1 = 19 then ((spec_reader_pick.f k n0 n9.2.2 3).bind fun p7 => (spec_likelyOps.j1 k x3 x5 (decide (p7.1 > 0)) n0 p7.2 i7 i8 i9 j0 j3 n9.1 n9.2.1)) else (spec_likelyOps.j1 k x3 x5 false n0 n9.2.2 i7 i8 i9 j0 j3 n9.1 n9.2.1))) else ((spec_reader_pick.f k n0 o3 2).bind fun p9 => (if p9.1 = 0 then ((spec_EndOps.f k x3).bind fun o0 => (if o0.2 = true then ((spec_CutOps.f k x3).bind fun j8 => (if j8.length + o0.1.length < 8796093022208 then (some ((j8 ++ o0.1),p9.2)) else (none))) else (some (x3,p9.2)))) else (some (x3,p9.2))))
def spec_likelyOps.j1 : Nat → List (S75) → Int → Bool → List Int → Int → List Int → List Bool → List Int → List Int → Bool → Int → Int → Option ((List (S75)) × Int)
 | 0,_,_,_,_,_,_,_,_,_,_,_,_ => none
 | k + 1,x3,x5,x29,n0,o3,i7,i8,i9,j0,j3,n1,n2 => if x29 = true then (spec_likelyOps.l0 k x3 (wrap64 (x5 - 1)) n0 o3 i7 i8 i9 j0 j3) else ((spec_copyShapes.f i7 i8 i9 j0 j3).bind fun m2 => ((spec_stepShapes.f k m2.1 m2.2.1 m2.2.2.1 m2.2.2.2.1 m2.2.2.2.2 n1 n2).bind fun g8 => (if g8.2.2.2.2.2 = true then (spec_likelyOps.j2 k x3 x5 g8.2.2.2.2.2 n0 o3 g8.1 g8.2.1 g8.2.2.1 g8.2.2.2.1 g8.2.2.2.2.1 n1 n2) else (spec_likelyOps.j2 k x3 x5 g8.2.2.2.2.2 n0 o3 i7 i8 i9 j0 j3 n1 n2))))
def spec_likelyOps.j2 : Nat → List (S75) → Int → Bool → List Int → Int → List Int → List Bool → List Int → List Int → Bool → Int → Int → Option ((List (S75)) × Int)
 | 0,_,_,_,_,_,_,_,_,_,_,_,_ => none
 | k + 1,x3,x5,x8,n0,o3,i7,i8,i9,j0,j3,n1,n2 => if x8 = true then (if x3.length < 8796093022208 then (spec_likelyOps.l0 k (x3 ++ [(⟨n1,n2⟩ : S75)]) (wrap64 (x5 - 1)) n0 o3 i7 i8 i9 j0 j3) else (none)) else ((spec_reader_pick.f k n0 o3 16).bind fun o1 => (if o1.1 = 0 then (if x3.length < 8796093022208 then (spec_likelyOps.l0 k (x3 ++ [(⟨n1,n2⟩ : S75)]) (wrap64 (x5 - 1)) n0 o1.2 i7 i8 i9 j0 j3) else (none)) else (spec_likelyOps.l0 k x3 (wrap64 (x5 - 1)) n0 o1.2 i7 i8 i9 j0 j3)))
end
def spec_likelyOps.f (k : Nat) (s0_0 : List Int) (s0_1 : Int) : Option ((List (S75)) × Int) := (spec_newShapes.f k).bind fun i5 => ((spec_reader_one.f k s0_0 s0_1 (([12,8,20,5,30,0] : List Int))).bind fun j6 => (spec_likelyOps.l0 k (([] : List (S75))) j6.1 s0_0 j6.2 i5.1 i5.2.1 i5.2.2.1 i5.2.2.2.1 i5.2.2.2.2))
set_option maxRecDepth 100000 in
theorem spec_likelyOps.mono_l : ∀ k,(∀ y0 y1 y2 y3 y4 y5 y6 y7 y8,LeO (spec_likelyOps.l0 k y0 y1 y2 y3 y4 y5 y6 y7 y8) (spec_likelyOps.l0 (k + 1) y0 y1 y2 y3 y4 y5 y6 y7 y8)) ∧ (∀ y0 y1 y2 y3 y4 y5 y6 y7 y8 y9 y10 y11,LeO (spec_likelyOps.j1 k y0 y1 y2 y3 y4 y5 y6 y7 y8 y9 y10 y11) (spec_likelyOps.j1 (k + 1) y0 y1 y2 y3 y4 y5 y6 y7 y8 y9 y10 y11)) ∧ (∀ y0 y1 y2 y3 y4 y5 y6 y7 y8 y9 y10 y11,LeO (spec_likelyOps.j2 k y0 y1 y2 y3 y4 y5 y6 y7 y8 y9 y10 y11) (spec_likelyOps.j2 (k + 1) y0 y1 y2 y3 y4 y5 y6 y7 y8 y9 y10 y11))
 | 0 => ⟨fun _ _ _ _ _ _ _ _ _ r h => (by cases h),fun _ _ _ _ _ _ _ _ _ _ _ _ r h => (by cases h),fun _ _ _ _ _ _ _ _ _ _ _ _ r h => (by cases h)⟩
 | k + 1 => by
  obtain ⟨ih0,ih1,ih2⟩ := spec_likelyOps.mono_l k
  refine ⟨?_,?_,?_⟩
  ·intro y0 y1 y2 y3 y4 y5 y6 y7 y8
   unfold spec_likelyOps.l0
   repeat' first
   | (with_reducible exact ih0 _ _ _ _ _ _ _ _ _)
   | (with_reducible exact ih1 _ _ _ _ _ _ _ _ _ _ _ _)
   | (with_reducible exact ih2 _ _ _ _ _ _ _ _ _ _ _ _)
   | (with_reducible exact spec_CutOps.mono _ _)
   | (with_reducible exact spec_EndOps.mono _ _)
   | (with_reducible exact spec_newShapes.mono _)
   | (with_reducible exact spec_reader_one.mono _ _ _ _)
   | (with_reducible exact spec_reader_pick.mono _ _ _ _)
   | (with_reducible exact spec_someOp.mono _ _ _)
   | (with_reducible exact spec_stepShapes.mono _ _ _ _ _ _ _ _)
   | (with_reducible exact LeO.refl _)
   | (with_reducible exact LeO.none _)
   | (with_reducible refine LeO.ite ?_ ?_)
   | (with_reducible refine LeO.bind ?_ (fun _ => ?_))
   | exact ih0 _ _ _ _ _ _ _ _ _
   | exact ih1 _ _ _ _ _ _ _ _ _ _ _ _
   | exact ih2 _ _ _ _ _ _ _ _ _ _ _ _
   | exact spec_CutOps.mono _ _
   | exact spec_EndOps.mono _ _
   | exact spec_newShapes.mono _
   | exact spec_reader_one.mono _ _ _ _
   | exact spec_reader_pick.mono _ _ _ _
   | exact spec_someOp.mono _ _ _
   | exact spec_stepShapes.mono _ _ _ _ _ _ _ _
   | exact LeO.none _
   | refine LeO.ite ?_ ?_
   | refine LeO.bind ?_ (fun _ => ?_)
  ·intro y0 y1 y2 y3 y4 y5 y6 y7 y8 y9 y10 y11
   unfold spec_likelyOps.j1
   repeat' first
   | (with_reducible exact ih0 _ _ _ _ _ _ _ _ _)
   | (with_reducible exact ih1 _ _ _ _ _ _ _ _ _ _ _ _)
   | (with_reducible exact ih2 _ _ _ _ _ _ _ _ _ _ _ _)
   | (with_reducible exact spec_CutOps.mono _ _)
   | (with_reducible exact spec_EndOps.mono _ _)
   | (with_reducible exact spec_newShapes.mono _)
   | (with_reducible exact spec_reader_one.mono _ _ _ _)
   | (with_reducible exact spec_reader_pick.mono _ _ _ _)
   | (with_reducible exact spec_someOp.mono _ _ _)
   | (with_reducible exact spec_stepShapes.mono _ _ _ _ _ _ _ _)
   | (with_reducible exact LeO.refl _)
   | (with_reducible exact LeO.none _)
   | (with_reducible refine LeO.ite ?_ ?_)
   | (with_reducible refine LeO.bind ?_ (fun _ => ?_))
   | exact ih0 _ _ _ _ _ _ _ _ _
   | exact ih1 _ _ _ _ _ _ _ _ _ _ _ _
   | exact ih2 _ _ _ _ _ _ _ _ _ _ _ _
   | exact spec_CutOps.mono _ _
   | exact spec_EndOps.mono _ _
   | exact spec_newShapes.mono _
   | exact spec_reader_one.mono _ _ _ _
   | exact spec_reader_pick.mono _ _ _ _
   | exact spec_someOp.mono _ _ _
   | exact spec_stepShapes.mono _ _ _ _ _ _ _ _
   | exact LeO.none _
   | refine LeO.ite ?_ ?_
   | refine LeO.bind ?_ (fun _ => ?_)
  ·intro y0 y1 y2 y3 y4 y5 y6 y7 y8 y9 y10 y11
   unfold spec_likelyOps.j2
   repeat' first
   | (with_reducible exact ih0 _ _ _ _ _ _ _ _ _)
   | (with_reducible exact ih1 _ _ _ _ _ _ _ _ _ _ _ _)
   | (with_reducible exact ih2 _ _ _ _ _ _ _ _ _ _ _ _)
   | (with_reducible exact spec_CutOps.mono _ _)
   | (with_reducible exact spec_EndOps.mono _ _)
   | (with_reducible exact spec_newShapes.mono _)
   | (with_reducible exact spec_reader_one.mono _ _ _ _)
   | (with_reducible exact spec_reader_pick.mono _ _ _ _)
   | (with_reducible exact spec_someOp.mono _ _ _)
   | (with_reducible exact spec_stepShapes.mono _ _ _ _ _ _ _ _)
   | (with_reducible exact LeO.refl _)
   | (with_reducible exact LeO.none _)
   | (with_reducible refine LeO.ite ?_ ?_)
   | (with_reducible refine LeO.bind ?_ (fun _ => ?_))
   | exact ih0 _ _ _ _ _ _ _ _ _
   | exact ih1 _ _ _ _ _ _ _ _ _ _ _ _
   | exact ih2 _ _ _ _ _ _ _ _ _ _ _ _
   | exact spec_CutOps.mono _ _
   | exact spec_EndOps.mono _ _
   | exact spec_newShapes.mono _
   | exact spec_reader_one.mono _ _ _ _
   | exact spec_reader_pick.mono _ _ _ _
   | exact spec_someOp.mono _ _ _
   | exact spec_stepShapes.mono _ _ _ _ _ _ _ _
   | exact LeO.none _
   | refine LeO.ite ?_ ?_
   | refine LeO.bind ?_ (fun _ => ?_)
set_option maxRecDepth 100000 in
theorem spec_likelyOps.mono : ∀ a0 a1 k,LeO (spec_likelyOps.f k a0 a1) (spec_likelyOps.f (k + 1) a0 a1) := by
 intro a0 a1 k
 obtain ⟨ih0,ih1,ih2⟩ := spec_likelyOps.mono_l k
 unfold spec_likelyOps.f
 repeat' first
   | (with_reducible exact ih0 _ _ _ _ _ _ _ _ _)
   | (with_reducible exact ih1 _ _ _ _ _ _ _ _ _ _ _ _)
   | (with_reducible exact ih2 _ _ _ _ _ _ _ _ _ _ _ _)
   | (with_reducible exact spec_CutOps.mono _ _)
   | (with_reducible exact spec_EndOps.mono _ _)
   | (with_reducible exact spec_newShapes.mono _)
   | (with_reducible exact spec_reader_one.mono _ _ _ _)
   | (with_reducible exact spec_reader_pick.mono _ _ _ _)
   | (with_reducible exact spec_someOp.mono _ _ _)
   | (with_reducible exact spec_stepShapes.mono _ _ _ _ _ _ _ _)
   | (with_reducible exact LeO.refl _)
   | (with_reducible exact LeO.none _)
   | (with_reducible refine LeO.ite ?_ ?_)
   | (with_reducible refine LeO.bind ?_ (fun _ => ?_))
   | exact ih0 _ _ _ _ _ _ _ _ _
   | exact ih1 _ _ _ _ _ _ _ _ _ _ _ _
   | exact ih2 _ _ _ _ _ _ _ _ _ _ _ _
   | exact spec_CutOps.mono _ _
   | exact spec_EndOps.mono _ _
   | exact spec_newShapes.mono _
   | exact spec_reader_one.mono _ _ _ _
   | exact spec_reader_pick.mono _ _ _ _
   | exact spec_someOp.mono _ _ _
   | exact spec_stepShapes.mono _ _ _ _ _ _ _ _
   | exact LeO.none _
   | refine LeO.ite ?_ ?_
   | refine LeO.bind ?_ (fun _ => ?_)
def spec_likelyOps.T8 : Bool × List (List Nat × List Nat) := (true,[([],[]),([0],[0]),([],[]),([1,2,1],[1,2]),([3],[3]),([4],[4]),([4],[4]),([],[]),([7,5,3,0,1,2,3,4,5,7],[5,7]),([6,8,0,1,2,3,4,5,6,7,8],[6])])
def spec_likelyOps.B8 : List Nat := [0,1,0,7,15,31,31,0,191,511]
theorem spec_likelyOps.tab8 : rtab .any (opsOf Try.f76 8) = spec_likelyOps.T8 := by kernel_rfl
theorem spec_likelyOps.bits8 : waitsOk spec_likelyOps.T8.2 spec_likelyOps.B8 = true := by kernel_rfl
set_option maxHeartbeats 8000000 in
set_option maxRecDepth 100000 in
theorem spec_likelyOps.calls (k : Nat) (g : Nat) (s0_0 : List Int) (s0_1 : Int) (r1 : List (S75)) (r2 : Int) (w0 w : World) (hI : IsS113 w0 w g s0_0 s0_1) (hB : Below w0.heap.size w0 w) (h : spec_likelyOps.f k s0_0 s0_1 = some (r1,r2)) :
  Calls Try.prog 76 #[.pointer (some ⟨g,0,none⟩)] w fun e w' => ∃ v0_ : Value,e = .returned (v0_) ∧ Kd.R k75 75 w' w.heap.size (fun _ => True) v0_ r1 ∧ IsS113 w0 w' g s0_0 r2 ∧ Below w0.heap.size w0 w' ∧ KeepBut w w' g none := by
 have hu120 := Try.underlying120
 have hu75 := Try.underlying75
 have HI0 := As_ hI
 have HK := As_ (KeepBut.refl w g none)
 have HL := As_ hB.size
 clear hI
 have HW0 := As_ hB.size
 have HB := As_ hB
 clear hB
 have H : ((spec_newShapes.f k).bind fun i5 => ((spec_reader_one.f k s0_0 s0_1 (([12,8,20,5,30,0] : List Int))).bind fun j6 => (spec_likelyOps.l0 k (([] : List (S75))) j6.1 s0_0 j6.2 i5.1 i5.2.1 i5.2.2.1 i5.2.2.2.1 i5.2.2.2.2))) = some (r1,r2) := h
 clear h
 obtain ⟨q1,q3⟩ : ∃ y_ : List (S75),y_ = (([] : List (S75))) := ⟨_,rfl⟩
 replace H : ((spec_newShapes.f k).bind fun i5 => ((spec_reader_one.f k s0_0 s0_1 (([12,8,20,5,30,0] : List Int))).bind fun j6 => (spec_likelyOps.l0 k q1 j6.1 s0_0 j6.2 i5.1 i5.2.1 i5.2.2.1 i5.2.2.2.1 i5.2.2.2.2))) = some (r1,r2) := zH_ H q3
 have q8 := As_ q3
 clear q3
 replace H := obS H
 obtain ⟨⟨o4,o5,o6,o7,p4⟩,A20,H⟩ := H
 replace H : ((spec_reader_one.f k s0_0 s0_1 (([12,8,20,5,30,0] : List Int))).bind fun j6 => (spec_likelyOps.l0 k q1 j6.1 s0_0 j6.2 o4 o5 o6 o7 p4)) = some (r1,r2) := H
 have A2 := As_ A20
 clear A20
 obtain ⟨q9,q4⟩ : ∃ y_ : List Int,y_ = (([12,8,20,5,30,0] : List Int)) := ⟨_,rfl⟩
 replace H : ((spec_reader_one.f k s0_0 s0_1 q9).bind fun j6 => (spec_likelyOps.l0 k q1 j6.1 s0_0 j6.2 o4 o5 o6 o7 p4)) = some (r1,r2) := zH_ H q4
 have r0 := As_ q4
 clear q4
 replace H := obS H
 obtain ⟨⟨r3,r4⟩,A30,H⟩ := H
 replace H : (spec_likelyOps.l0 k q1 r3 s0_0 r4 o4 o5 o6 o7 p4) = some (r1,r2) := H
 have A3 := As_ A30
 clear A30
 have H' := As_ H
 clear H
 go_enter Try.func76,Try.ntmps76
 go_wp2_with (first|((with_reducible refine gate_dst (N := 11) rfl ?_);refine Kd.R_lit k75 _ 75 ?hg (N := 11) ?hd (xs := ([] : List (S75))) (inner := []) (ok := fun _ => True) (okp := fun _ => True) ?hr ?hp (fun _ hk => hk) trivial (Below.refl _ _) (Nat.le_refl _) (by simp) ?_;(case hd => rfl);(case hg => rfl);(case hr => go_simp <;> rfl);(case hp => exact (Reps.none _ _));intro v1111 w4 ho5 hb hg_ hnew_;clear hg_ hnew_;(first|rw [← q8.out] at ho5|(simp only [Int.reduceToNat] at ho5;rw [← q8.out] at ho5));have n0_ := As_ (Kd.R_lower ho5 (keep_size (w := w) (g := g) (row := none) (zkp0 HK.out)));have n1_ := As_ (IsS113.below (zi113_0 HI0.out) hb);have n2_ := As_ (KeepBut.trans (zkp0 HK.out) (KeepBut.of_below hb g none) (.inl rfl));have n3_ := As_ (bwT (zb1 HB.out (IsS113.ge HI0.out)) hb);clear HI0 HK HB;revert n0_ n1_ n2_ n3_;intro l7 HI0 HK HB;clear hb ho5)|((with_reducible refine gate_callee (f := 105) rfl ?_);refine goesL_ (some 12) rfl rfl Try.func105 (by kernel_rfl) rfl #[] rfl zM_ ?_;(with_reducible refine (spec_newShapes.calls k  o4 o5 o6 o7 p4 _ A2.out).mono ?_);rintro e w6 ⟨v1114,v1117,v1120,v1123,rfl,ho0,ho1,ho2,ho3,hb⟩;refine ⟨_,rfl,?_⟩;have n0_ := As_ (Kd.R_below (zR_ l7.out) hb);have n1_ := As_ (Kd.R_lower ho0 (keep_size (w := w) (g := g) (row := none) (zkp0 HK.out)));have n2_ := As_ (Kd.R_lower ho1 (keep_size (w := w) (g := g) (row := none) (zkp0 HK.out)));have n3_ := As_ (Kd.R_lower ho2 (keep_size (w := w) (g := g) (row := none) (zkp0 HK.out)));have n4_ := As_ (Kd.R_lower ho3 (keep_size (w := w) (g := g) (row := none) (zkp0 HK.out)));have n5_ := As_ (IsS113.below (zi113_0 HI0.out) hb);have n6_ := As_ (KeepBut.trans (zkp0 HK.out) (KeepBut.of_below hb g none) (.inl rfl));have n7_ := As_ (bwT (zb1 HB.out (IsS113.ge HI0.out)) hb);clear l7 HI0 HK HB;revert n0_ n1_ n2_ n3_ n4_ n5_ n6_ n7_;intro l7 l9 m3 m0 m1 HI0 HK HB)|((with_reducible refine gate_dst (N := 4) rfl ?_);refine box_event ?hg (N := 4) ?hd (cs := #[.slice none 0 0,.slice none 0 0,.slice none 0 0,.slice none 0 0,.bool false]) (t := 120) ?hr ?_;(case hd => rfl);(case hg => rfl);(case hr => go_simp <;> rfl);intro b7 hg w7 hbox hb;have n0_ := As_ (Kd.R_below (zR_ l7.out) hb);have n1_ := As_ (Kd.R_below (zR_ l9.out) hb);have n2_ := As_ (Kd.R_below (zR_ m3.out) hb);have n3_ := As_ (Kd.R_below (zR_ m0.out) hb);have n4_ := As_ (Kd.R_below (zR_ m1.out) hb);have n5_ := As_ (IsS113.below (zi113_0 HI0.out) hb);have n6_ := As_ (KeepBut.trans (zkp0 HK.out) (KeepBut.of_below hb g none) (.inl rfl));have n7_ := As_ (bwT (zb1 HB.out (IsS113.ge HI0.out)) hb);have n8_ := As_ (hbox);have n9_ := As_ ((by rw [hg];exact (keep_size (w := w) (g := g) (row := none) (zkp0 HK.out)) : w.heap.size ≤ b7));have n10_ := As_ ((Nat.le_trans HW0.out (by rw [hg];exact (keep_size (w := w) (g := g) (row := none) (zkp0 HK.out)) : w.heap.size ≤ b7) : w0.heap.size ≤ b7));have n11_ := As_ ((by rw [hg];exact Nat.ne_of_lt (IsS113.lt (show IsS113 w0 _ g s0_0 s0_1 from zi113_0 HI0.out)) : g ≠ b7));have n12_ := As_ ((by rw [hg];exact Nat.ne_of_gt (IsS113.lt (show IsS113 w0 _ g s0_0 s0_1 from zi113_0 HI0.out)) : b7 ≠ g));clear l7 l9 m3 m0 m1 HI0 HK HB;revert n0_ n1_ n2_ n3_ n4_ n5_ n6_ n7_ n8_ n9_ n10_ n11_ n12_;intro l7 l9 m3 m0 m1 HI0 HK HB a6 b4 e4 a7 j4;clear hb hbox hg;obtain ⟨Ao8,co8,eo8⟩ := Kd.R_slice l9.out;subst eo8;have I5 := j4.out;have I6 := a7.out;have u4 : w7.cell? ⟨b7,0,none⟩ = some (.slice none 0 0) := (bkC a6.out 0).trans rfl;have u5 : w7.cell? ⟨b7,1,none⟩ = some (.slice none 0 0) := (bkC a6.out 1).trans rfl;have u6 : w7.cell? ⟨b7,2,none⟩ = some (.slice none 0 0) := (bkC a6.out 2).trans rfl;have u7 : w7.cell? ⟨b7,3,none⟩ = some (.slice none 0 0) := (bkC a6.out 3).trans rfl;have u9 : w7.cell? ⟨b7,4,none⟩ = some (.bool false) := (bkC a6.out 4).trans rfl;have v4 := bkF a6.out 0;have v6 := bkF a6.out 1;have v7 := bkF a6.out 2;have v8 := bkF a6.out 3;have v9 := bkF a6.out 4;obtain ⟨Ao11,co11,eo11⟩ := Kd.R_slice m3.out;subst eo11;obtain ⟨Ao12,co12,eo12⟩ := Kd.R_slice m0.out;subst eo12;obtain ⟨Ao13,co13,eo13⟩ := Kd.R_slice m1.out;subst eo13)|((with_reducible refine gate_dst (N := 14) rfl ?_);refine Kd.R_lit (Kd.int .i64) _ 3 ?hg (N := 14) ?hd (xs := ([12,8,20,5,30,0] : List Int)) (inner := [.int .i64 12,.int .i64 8,.int .i64 20,.int .i64 5,.int .i64 30,.int .i64 0]) (ok := fun _ => True) (okp := fun _ => True) ?hr ?hp (fun _ hk => hk) trivial (Below.refl _ _) (Nat.le_refl _) (by simp) ?_;(case hd => rfl);(case hg => rfl);(case hr => go_simp <;> rfl);(case hp => exact (Reps.one (show Kd.M (Kd.int .i64) _ _ _ 12 [.int .i64 12] from rfl) (Reps.one (show Kd.M (Kd.int .i64) _ _ _ 8 [.int .i64 8] from rfl) (Reps.one (show Kd.M (Kd.int .i64) _ _ _ 20 [.int .i64 20] from rfl) (Reps.one (show Kd.M (Kd.int .i64) _ _ _ 5 [.int .i64 5] from rfl) (Reps.one (show Kd.M (Kd.int .i64) _ _ _ 30 [.int .i64 30] from rfl) (Reps.one (show Kd.M (Kd.int .i64) _ _ _ 0 [.int .i64 0] from rfl) (Reps.none _ _))))))));intro v1128 w14 ho15 hb hg_ hnew_;clear hg_ hnew_;(first|rw [← r0.out] at ho15|(simp only [Int.reduceToNat] at ho15;rw [← r0.out] at ho15));have n0_ := As_ (Kd.R_below (by exact (Kd.R_mono (rX5 l7.out a6.out) (fun _ h_ => h_.1))) hb);have n1_ := As_ (Kd.R_elder' (by exact (Kd.R_mono (rX5 l9.out a6.out) (fun _ h_ => h_.1))) (Kd.R_base ho15) hb);have n2_ := As_ (Kd.R_below (by exact (Kd.R_mono (rX5 m3.out a6.out) (fun _ h_ => h_.1))) hb);have n3_ := As_ (Kd.R_elder' (by exact (Kd.R_mono (rX5 m0.out a6.out) (fun _ h_ => h_.1))) (Kd.R_base ho15) hb);have n4_ := As_ (Kd.R_elder' (by exact (Kd.R_mono (rX5 m1.out a6.out) (fun _ h_ => h_.1))) (Kd.R_base ho15) hb);have n5_ := As_ (Kd.R_lower (Kd.R_new' (Kd.R_new' (Kd.R_new' ho15 (Kd.R_lt (by exact (Kd.R_mono (rX5 l9.out a6.out) (fun _ h_ => h_.1))))) (Kd.R_lt (by exact (Kd.R_mono (rX5 m0.out a6.out) (fun _ h_ => h_.1))))) (Kd.R_lt (by exact (Kd.R_mono (rX5 m1.out a6.out) (fun _ h_ => h_.1))))) (keep_size (w := w) (g := g) (row := none) (zkp1 HK.out b4.out)));have n6_ := As_ (IsS113.below (show IsS113 w0 (((((w7.setCell ⟨b7,0,none⟩ (.slice Ao8 o4.length co8)).setCell ⟨b7,1,none⟩ (.slice Ao11 o5.length co11)).setCell ⟨b7,2,none⟩ (.slice Ao12 o6.length co12)).setCell ⟨b7,3,none⟩ (.slice Ao13 o7.length co13)).setCell ⟨b7,4,none⟩ (.bool p4)) g s0_0 s0_1 from zi113_1 HI0.out a7.out) hb);have n7_ := As_ (blk_below (g := b7) (o := .cells #[.slice Ao8 o4.length co8,.slice Ao11 o5.length co11,.slice Ao12 o6.length co12,.slice Ao13 o7.length co13,.bool p4] 120 (0,0)) (p5 a6.out) hb);have n8_ := As_ (KeepBut.trans (zkp1 HK.out b4.out) (KeepBut.of_below hb g none) (.inl rfl));have n9_ := As_ (bwT (zb2 HB.out (IsS113.ge HI0.out) e4.out) hb);clear l7 l9 m3 m0 m1 HI0 a6 HK HB;revert n0_ n1_ n2_ n3_ n4_ n5_ n6_ n7_ n8_ n9_;intro l7 l9 m3 m0 m1 o2 HI0 a6 HK HB;clear hb ho15;obtain ⟨Ao16,co16,eo16⟩ := Kd.R_slice o2.out;subst eo16)|((with_reducible refine gate_callee (f := 82) rfl ?_);refine goesL_ (some 15) rfl rfl Try.func82 (by kernel_rfl) rfl #[.pointer (some ⟨g,0,none⟩),.slice Ao16 q9.length co16] rfl zM_ ?_;(with_reducible refine (spec_reader_one.calls k g s0_0 s0_1 _ _ q9 r3 r4 w0 _ ?side1 ?side2 ?side3 ?side4 ?side5 A3.out).mono ?_);(case side1 => exact zi113_1 HI0.out a7.out);(case side2 => exact zb2 HB.out (IsS113.ge HI0.out) e4.out);(case side3 => exact zC_ (Kd.R_reads' o2.out).2.2);(case side4 => exact (Kd.R_reads' o2.out).2.1);(case side5 => exact far_slice (IsS113.own_ne HI0.out o2.out (by decide)));rintro e w17 ⟨rfl,hi,hb,hk⟩;refine ⟨_,rfl,?_⟩;have n0_ := As_ (Kd.R_mono (Kd.R_keep (IsS113.apart (show IsS113 w0 _ g s0_0 s0_1 from zi113_1 HI0.out a7.out) (zR_ l7.out) (by decide)) hk (fun _ h => h.2)) (fun _ h => h.1));have n1_ := As_ (Kd.R_mono (Kd.R_keep (IsS113.apart (show IsS113 w0 _ g s0_0 s0_1 from zi113_1 HI0.out a7.out) (zR_ l9.out) (by decide)) hk (fun _ h => h.2)) (fun _ h => h.1));have n2_ := As_ (Kd.R_mono (Kd.R_keep (IsS113.apart (show IsS113 w0 _ g s0_0 s0_1 from zi113_1 HI0.out a7.out) (zR_ m3.out) (by decide)) hk (fun _ h => h.2)) (fun _ h => h.1));have n3_ := As_ (Kd.R_mono (Kd.R_keep (IsS113.apart (show IsS113 w0 _ g s0_0 s0_1 from zi113_1 HI0.out a7.out) (zR_ m0.out) (by decide)) hk (fun _ h => h.2)) (fun _ h => h.1));have n4_ := As_ (Kd.R_mono (Kd.R_keep (IsS113.apart (show IsS113 w0 _ g s0_0 s0_1 from zi113_1 HI0.out a7.out) (zR_ m1.out) (by decide)) hk (fun _ h => h.2)) (fun _ h => h.1));have n5_ := As_ (KeepBut.blk hk (g' := b7) (o := .cells #[.slice Ao8 o4.length co8,.slice Ao11 o5.length co11,.slice Ao12 o6.length co12,.slice Ao13 o7.length co13,.bool p4] 120 (0,0)) (zk_ a6.out) j4.out (by simp));have n6_ := As_ (Kd.R_mono (Kd.R_keep (IsS113.apart (show IsS113 w0 _ g s0_0 s0_1 from zi113_1 HI0.out a7.out) (zR_ o2.out) (by decide)) hk (fun _ h => h.2)) (fun _ h => h.1));have n7_ := As_ (KeepBut.trans (zkp1 HK.out b4.out) hk (.inl rfl));have n8_ := As_ (hb);have n9_ := As_ (hi);clear l7 l9 m3 m0 m1 a6 o2 HK HB HI0;revert n0_ n1_ n2_ n3_ n4_ n5_ n6_ n7_ n8_ n9_;intro l7 l9 m3 m0 m1 a6 o2 HK HB HI0))
 go_loopg [3,5] k (fun kq v3 v5 w' => ∃ (g9 : List (S75)) (j5 : Int) (e7 : Int) (a8 : List Int) (b5 : List Bool) (a9 : List Int) (b0 : List Int) (b6 : Bool) (d7 : Value) (e6 : Value) (d8 : Value) (d9 : Value),v5 = .int .i64 j5 ∧ Aside0 (spec_likelyOps.l0 kq g9 j5 s0_0 e7 a8 b5 a9 b0 b6 = some (r1,r2)) ∧ Aside0 (kq ≤ k) ∧ Aside0 (Kd.R k75 75 w' w.heap.size (fun _ => True) v3 g9) ∧ Aside0 (Kd.R (Kd.int .i64) 3 w' w.heap.size (fun k_ => some k_ ≠ (d8 : Value).ownBlock ∧ some k_ ≠ (d9 : Value).ownBlock) d7 a8) ∧ Aside0 (Kd.R Kd.bool 4 w' w.heap.size (fun _ => True) e6 b5) ∧ Aside0 (Kd.R (Kd.int .i64) 3 w' w.heap.size (fun k_ => some k_ ≠ (d7 : Value).ownBlock ∧ some k_ ≠ (d9 : Value).ownBlock) d8 a9) ∧ Aside0 (Kd.R (Kd.int .i64) 3 w' w.heap.size (fun k_ => some k_ ≠ (d7 : Value).ownBlock ∧ some k_ ≠ (d8 : Value).ownBlock) d9 b0) ∧ Aside0 (w'.heap[b7]? = some (.cells #[d7,e6,d8,d9,.bool b6] 120 (0,0))) ∧ Aside0 (IsS113 w0 w' g s0_0 e7) ∧ Aside0 (KeepBut w w' g none) ∧ Aside0 (Below w0.heap.size w0 w'))
 case atStart => exact ⟨(q1),(r3),(r4),(o4),(o5),(o6),(o7),(p4),(.slice Ao8 o4.length co8),(.slice Ao11 o5.length co11),(.slice Ao12 o6.length co12),(.slice Ao13 o7.length co13),zT_,H',⟨Nat.le_refl _⟩,⟨l7.out⟩,⟨by exact Kd.R_mono l9.out (fun _ hk => ⟨hk.1.1,hk.1.2⟩)⟩,⟨m3.out⟩,⟨by exact Kd.R_mono m0.out (fun _ hk => ⟨hk.1.1,hk.1.2⟩)⟩,⟨by exact Kd.R_mono m1.out (fun _ hk => ⟨hk.1.1,hk.1.2⟩)⟩,⟨a6.out⟩,⟨zi113_1 HI0.out a7.out⟩,⟨zkp1 HK.out b4.out⟩,⟨zb2 HB.out (IsS113.ge HI0.out) e4.out⟩⟩
 case round =>
  clear H'
  obtain ⟨g9,j5,e7,a8,b5,a9,b0,b6,d7,e6,d8,d9,rfl,HA,HK1,d0,a2,a5,a3,a4,a6,HI0,HK,HB⟩ := hrel
  cases gk with
  | zero => exact absurd HA.out (fun h_ => (by cases h_))
  | succ k1 =>
   have H := HA.out
   clear HA
   simp only [spec_likelyOps.l0] at H
   by_cases c18 : j5 > 0
   rotate_left
   ·rw [if_neg c18] at H
    have t3 : decide (0 < j5) = false := deF c18
    clear c18
    replace H := obS H
    obtain ⟨⟨o8,n5⟩,A840,H⟩ := H
    replace H : (if o8 = 0 then ((spec_EndOps.f k1 g9).bind fun o0 => (if o0.2 = true then ((spec_CutOps.f k1 g9).bind fun j8 => (if j8.length + o0.1.length < 8796093022208 then (some ((j8 ++ o0.1),n5)) else (none))) else (some (g9,n5)))) else (some (g9,n5))) = some (r1,r2) := H
    have A84 := As_ A840
    clear A840
    by_cases c85 : o8 = 0
    rotate_left
    ·rw [if_neg c85] at H
     have t4 : (o8 == 0) = false := beq_eq_false_iff_ne.mpr c85
     have t5 : (o8 != 0) = true := bne_iff_ne.mpr c85
     simp only [Option.some.injEq,Prod.mk.injEq] at H
     obtain ⟨rfl,rfl⟩ := H
     go_wp2_with (first|((with_reducible refine gate_callee (f := 102) rfl ?_);refine goesL_ (some 50) rfl rfl Try.func102 (by kernel_rfl) rfl #[.pointer (some ⟨g,0,none⟩),.int .i64 2] rfl zM_ ?_;(with_reducible refine (spec_reader_pick.calls k1 g s0_0 e7 2 o8 n5 w0 _ ?side1 ?side2 A84.out).mono ?_);(case side1 => exact zi113_1 HI0.out a7.out);(case side2 => exact zb2 HB.out (IsS113.ge HI0.out) e4.out);rintro e w99 ⟨rfl,hi,hb,hk⟩;refine ⟨_,rfl,?_⟩;have n0_ := As_ (Kd.R_mono (Kd.R_keep (IsS113.apart (show IsS113 w0 _ g s0_0 e7 from zi113_1 HI0.out a7.out) (zR_ d0.out) (by decide)) hk (fun _ h => h.2)) (fun _ h => h.1));have n1_ := As_ (Kd.R_mono (Kd.R_keep (IsS113.apart (show IsS113 w0 _ g s0_0 e7 from zi113_1 HI0.out a7.out) (zR_ a2.out) (by decide)) hk (fun _ h => h.2)) (fun _ h => h.1));have n2_ := As_ (Kd.R_mono (Kd.R_keep (IsS113.apart (show IsS113 w0 _ g s0_0 e7 from zi113_1 HI0.out a7.out) (zR_ a5.out) (by decide)) hk (fun _ h => h.2)) (fun _ h => h.1));have n3_ := As_ (Kd.R_mono (Kd.R_keep (IsS113.apart (show IsS113 w0 _ g s0_0 e7 from zi113_1 HI0.out a7.out) (zR_ a3.out) (by decide)) hk (fun _ h => h.2)) (fun _ h => h.1));have n4_ := As_ (Kd.R_mono (Kd.R_keep (IsS113.apart (show IsS113 w0 _ g s0_0 e7 from zi113_1 HI0.out a7.out) (zR_ a4.out) (by decide)) hk (fun _ h => h.2)) (fun _ h => h.1));have n5_ := As_ (KeepBut.blk hk (g' := b7) (o := .cells #[d7,e6,d8,d9,.bool b6] 120 (0,0)) (zk_ a6.out) j4.out (by simp));have n6_ := As_ (KeepBut.trans (zkp1 HK.out b4.out) hk (.inl rfl));have n7_ := As_ (hb);have n8_ := As_ (hi);clear d0 a2 a5 a3 a4 a6 HK HB HI0;revert n0_ n1_ n2_ n3_ n4_ n5_ n6_ n7_ n8_;intro d0 a2 a5 a3 a4 a6 HK HB HI0))
     go_ret
     exact ⟨_,zE_,by exact d0.out,zi113_1 HI0.out a7.out,zb2 HB.out (IsS113.ge HI0.out) e4.out,zkp1 HK.out b4.out⟩

    rw [if_pos c85] at H
    have t4 : (o8 == 0) = true := beq_iff_eq.mpr c85
    have t5 : (o8 != 0) = false := bne_eq_false_iff_eq.mpr c85
    clear c85
    replace H := obS H
    obtain ⟨⟨n3,r7⟩,A860,H⟩ := H
    replace H : (if r7 = true then ((spec_CutOps.f k1 g9).bind fun j8 => (if j8.length + n3.length < 8796093022208 then (some ((j8 ++ n3),n5)) else (none))) else (some (g9,n5))) = some (r1,r2) := H
    have A86 := As_ A860
    clear A860
    by_cases c87 : r7 = true
    rotate_left
    ·replace c87 := Bool.eq_false_iff.mpr c87
     subst c87
     have H1 : (some (g9,n5)) = some (r1,r2) := by rw [if_neg (show ¬ (false = true) by decide)] at H;exact H
     clear H
     have H := H1
     clear H1
     simp only [Option.some.injEq,Prod.mk.injEq] at H
     obtain ⟨rfl,rfl⟩ := H
     go_wp2_with (first|((with_reducible refine gate_callee (f := 102) rfl ?_);refine goesL_ (some 50) rfl rfl Try.func102 (by kernel_rfl) rfl #[.pointer (some ⟨g,0,none⟩),.int .i64 2] rfl zM_ ?_;(with_reducible refine (spec_reader_pick.calls k1 g s0_0 e7 2 o8 n5 w0 _ ?side1 ?side2 A84.out).mono ?_);(case side1 => exact zi113_1 HI0.out a7.out);(case side2 => exact zb2 HB.out (IsS113.ge HI0.out) e4.out);rintro e w96 ⟨rfl,hi,hb,hk⟩;refine ⟨_,rfl,?_⟩;have n0_ := As_ (Kd.R_mono (Kd.R_keep (IsS113.apart (show IsS113 w0 _ g s0_0 e7 from zi113_1 HI0.out a7.out) (zR_ d0.out) (by decide)) hk (fun _ h => h.2)) (fun _ h => h.1));have n1_ := As_ (Kd.R_mono (Kd.R_keep (IsS113.apart (show IsS113 w0 _ g s0_0 e7 from zi113_1 HI0.out a7.out) (zR_ a2.out) (by decide)) hk (fun _ h => h.2)) (fun _ h => h.1));have n2_ := As_ (Kd.R_mono (Kd.R_keep (IsS113.apart (show IsS113 w0 _ g s0_0 e7 from zi113_1 HI0.out a7.out) (zR_ a5.out) (by decide)) hk (fun _ h => h.2)) (fun _ h => h.1));have n3_ := As_ (Kd.R_mono (Kd.R_keep (IsS113.apart (show IsS113 w0 _ g s0_0 e7 from zi113_1 HI0.out a7.out) (zR_ a3.out) (by decide)) hk (fun _ h => h.2)) (fun _ h => h.1));have n4_ := As_ (Kd.R_mono (Kd.R_keep (IsS113.apart (show IsS113 w0 _ g s0_0 e7 from zi113_1 HI0.out a7.out) (zR_ a4.out) (by decide)) hk (fun _ h => h.2)) (fun _ h => h.1));have n5_ := As_ (KeepBut.blk hk (g' := b7) (o := .cells #[d7,e6,d8,d9,.bool b6] 120 (0,0)) (zk_ a6.out) j4.out (by simp));have n6_ := As_ (KeepBut.trans (zkp1 HK.out b4.out) hk (.inl rfl));have n7_ := As_ (hb);have n8_ := As_ (hi);clear d0 a2 a5 a3 a4 a6 HK HB HI0;revert n0_ n1_ n2_ n3_ n4_ n5_ n6_ n7_ n8_;intro d0 a2 a5 a3 a4 a6 HK HB HI0;obtain ⟨Ao97,co97,eo97⟩ := Kd.R_slice d0.out;subst eo97)|((with_reducible refine gate_callee (f := 109) rfl ?_);refine goesL_ (some 54) rfl rfl Try.func109 (by kernel_rfl) rfl #[.slice Ao97 g9.length co97] rfl zM_ ?_;(with_reducible refine (spec_EndOps.calls k1 _ _ g9 n3 false _ ?side1 ?side2 A86.out).mono ?_);(case side1 => exact zC_ (Kd.R_reads' d0.out).2.2);(case side2 => exact (Kd.R_reads' d0.out).2.1);rintro e w98 ⟨v1178,rfl,ho0,hb⟩;refine ⟨_,rfl,?_⟩;have n0_ := As_ (Kd.R_elder' (zR_ d0.out) (Kd.R_base ho0) hb);have n1_ := As_ (Kd.R_below (zR_ a2.out) hb);have n2_ := As_ (Kd.R_below (zR_ a5.out) hb);have n3_ := As_ (Kd.R_below (zR_ a3.out) hb);have n4_ := As_ (Kd.R_below (zR_ a4.out) hb);have n5_ := As_ (Kd.R_lower (Kd.R_new' ho0 (Kd.R_lt (zR_ d0.out))) (keep_size (w := w) (g := g) (row := none) (zkp1 HK.out b4.out)));have n6_ := As_ (zkb a6.out hb);have n7_ := As_ (IsS113.below (zi113_1 HI0.out a7.out) hb);have n8_ := As_ (KeepBut.trans (zkp1 HK.out b4.out) (KeepBut.of_below hb g none) (.inl rfl));have n9_ := As_ (bwT (zb2 HB.out (IsS113.ge HI0.out) e4.out) hb);clear d0 a2 a5 a3 a4 a6 HI0 HK HB;revert n0_ n1_ n2_ n3_ n4_ n5_ n6_ n7_ n8_ n9_;intro d0 a2 a5 a3 a4 m4 a6 HI0 HK HB))
     go_ret
     exact ⟨_,zE_,by exact Kd.R_mono d0.out (fun _ hk => trivial),zi113_1 HI0.out a7.out,zb2 HB.out (IsS113.ge HI0.out) e4.out,zkp1 HK.out b4.out⟩
    subst c87
    have H1 : ((spec_CutOps.f k1 g9).bind fun j8 => (if j8.length + n3.length < 8796093022208 then (some ((j8 ++ n3),n5)) else (none))) = some (r1,r2) := by rw [if_pos rfl] at H;exact H
    clear H
    have H := H1
    clear H1
    replace H := obS H
    obtain ⟨j8,A880,H⟩ := H
    replace H : (if j8.length + n3.length < 8796093022208 then (some ((j8 ++ n3),n5)) else (none)) = some (r1,r2) := H
    have A88 := As_ A880
    clear A880
    by_cases c89 : j8.length + n3.length < 8796093022208
    rotate_left
    ·rw [if_neg c89] at H
     exact absurd H (by simp)
    rw [if_pos c89] at H
    have t6 := As_ c89
    clear c89
    obtain ⟨t7,q5⟩ : ∃ y_ : List (S75),y_ = (j8 ++ n3) := ⟨_,rfl⟩
    replace H : (some (t7,n5)) = some (r1,r2) := zH_ H q5
    have s7 := As_ q5
    clear q5
    simp only [Option.some.injEq,Prod.mk.injEq] at H
    obtain ⟨rfl,rfl⟩ := H
    go_wp2_with (first|((with_reducible refine gate_callee (f := 102) rfl ?_);refine goesL_ (some 50) rfl rfl Try.func102 (by kernel_rfl) rfl #[.pointer (some ⟨g,0,none⟩),.int .i64 2] rfl zM_ ?_;(with_reducible refine (spec_reader_pick.calls k1 g s0_0 e7 2 o8 n5 w0 _ ?side1 ?side2 A84.out).mono ?_);(case side1 => exact zi113_1 HI0.out a7.out);(case side2 => exact zb2 HB.out (IsS113.ge HI0.out) e4.out);rintro e w90 ⟨rfl,hi,hb,hk⟩;refine ⟨_,rfl,?_⟩;have n0_ := As_ (Kd.R_mono (Kd.R_keep (IsS113.apart (show IsS113 w0 _ g s0_0 e7 from zi113_1 HI0.out a7.out) (zR_ d0.out) (by decide)) hk (fun _ h => h.2)) (fun _ h => h.1));have n1_ := As_ (Kd.R_mono (Kd.R_keep (IsS113.apart (show IsS113 w0 _ g s0_0 e7 from zi113_1 HI0.out a7.out) (zR_ a2.out) (by decide)) hk (fun _ h => h.2)) (fun _ h => h.1));have n2_ := As_ (Kd.R_mono (Kd.R_keep (IsS113.apart (show IsS113 w0 _ g s0_0 e7 from zi113_1 HI0.out a7.out) (zR_ a5.out) (by decide)) hk (fun _ h => h.2)) (fun _ h => h.1));have n3_ := As_ (Kd.R_mono (Kd.R_keep (IsS113.apart (show IsS113 w0 _ g s0_0 e7 from zi113_1 HI0.out a7.out) (zR_ a3.out) (by decide)) hk (fun _ h => h.2)) (fun _ h => h.1));have n4_ := As_ (Kd.R_mono (Kd.R_keep (IsS113.apart (show IsS113 w0 _ g s0_0 e7 from zi113_1 HI0.out a7.out) (zR_ a4.out) (by decide)) hk (fun _ h => h.2)) (fun _ h => h.1));have n5_ := As_ (KeepBut.blk hk (g' := b7) (o := .cells #[d7,e6,d8,d9,.bool b6] 120 (0,0)) (zk_ a6.out) j4.out (by simp));have n6_ := As_ (KeepBut.trans (zkp1 HK.out b4.out) hk (.inl rfl));have n7_ := As_ (hb);have n8_ := As_ (hi);clear d0 a2 a5 a3 a4 a6 HK HB HI0;revert n0_ n1_ n2_ n3_ n4_ n5_ n6_ n7_ n8_;intro d0 a2 a5 a3 a4 a6 HK HB HI0;obtain ⟨Ao91,co91,eo91⟩ := Kd.R_slice d0.out;subst eo91)|((with_reducible refine gate_callee (f := 109) rfl ?_);refine goesL_ (some 54) rfl rfl Try.func109 (by kernel_rfl) rfl #[.slice Ao91 g9.length co91] rfl zM_ ?_;(with_reducible refine (spec_EndOps.calls k1 _ _ g9 n3 true _ ?side1 ?side2 A86.out).mono ?_);(case side1 => exact zC_ (Kd.R_reads' d0.out).2.2);(case side2 => exact (Kd.R_reads' d0.out).2.1);rintro e w92 ⟨v1178,rfl,ho0,hb⟩;refine ⟨_,rfl,?_⟩;have n0_ := As_ (Kd.R_elder' (zR_ d0.out) (Kd.R_base ho0) hb);have n1_ := As_ (Kd.R_below (zR_ a2.out) hb);have n2_ := As_ (Kd.R_below (zR_ a5.out) hb);have n3_ := As_ (Kd.R_below (zR_ a3.out) hb);have n4_ := As_ (Kd.R_below (zR_ a4.out) hb);have n5_ := As_ (Kd.R_lower (Kd.R_new' ho0 (Kd.R_lt (zR_ d0.out))) (keep_size (w := w) (g := g) (row := none) (zkp1 HK.out b4.out)));have n6_ := As_ (zkb a6.out hb);have n7_ := As_ (IsS113.below (zi113_1 HI0.out a7.out) hb);have n8_ := As_ (KeepBut.trans (zkp1 HK.out b4.out) (KeepBut.of_below hb g none) (.inl rfl));have n9_ := As_ (bwT (zb2 HB.out (IsS113.ge HI0.out) e4.out) hb);clear d0 a2 a5 a3 a4 a6 HI0 HK HB;revert n0_ n1_ n2_ n3_ n4_ n5_ n6_ n7_ n8_ n9_;intro d0 a2 a5 a3 a4 m4 a6 HI0 HK HB)|((with_reducible refine gate_callee (f := 110) rfl ?_);refine goesL_ (some 59) rfl rfl Try.func110 (by kernel_rfl) rfl #[.slice Ao91 g9.length co91] rfl zM_ ?_;(with_reducible refine (spec_CutOps.calls k1 _ _ g9 j8 _ ?side1 ?side2 A88.out).mono ?_);(case side1 => exact zC_ (Kd.R_reads' d0.out).2.2);(case side2 => exact (Kd.R_reads' d0.out).2.1);rintro e w93 ⟨v1181,rfl,ho0,hb⟩;refine ⟨_,rfl,?_⟩;have n0_ := As_ (Kd.R_elder' (zR_ d0.out) (Kd.R_base ho0) hb);have n1_ := As_ (Kd.R_below (zR_ a2.out) hb);have n2_ := As_ (Kd.R_below (zR_ a5.out) hb);have n3_ := As_ (Kd.R_below (zR_ a3.out) hb);have n4_ := As_ (Kd.R_below (zR_ a4.out) hb);have n5_ := As_ (Kd.R_elder' (zR_ m4.out) (Kd.R_base ho0) hb);have n6_ := As_ (Kd.R_lower (Kd.R_new' (Kd.R_new' ho0 (Kd.R_lt (zR_ d0.out))) (Kd.R_lt (zR_ m4.out))) (keep_size (w := w) (g := g) (row := none) (zkp1 HK.out b4.out)));have n7_ := As_ (zkb a6.out hb);have n8_ := As_ (IsS113.below (zi113_1 HI0.out a7.out) hb);have n9_ := As_ (KeepBut.trans (zkp1 HK.out b4.out) (KeepBut.of_below hb g none) (.inl rfl));have n10_ := As_ (bwT (zb2 HB.out (IsS113.ge HI0.out) e4.out) hb);clear d0 a2 a5 a3 a4 m4 a6 HI0 HK HB;revert n0_ n1_ n2_ n3_ n4_ n5_ n6_ n7_ n8_ n9_ n10_;intro d0 a2 a5 a3 a4 m4 n4 a6 HI0 HK HB;obtain ⟨Ao95,co95,eo95⟩ := Kd.R_slice m4.out;subst eo95)|((with_reducible refine gate_builtin (b := .append) (xs := #[.tmp 59,.tmp 60]) rfl ?_);at_builtin;refine Kd.R_append_rows k75 w.heap.size rfl (.tmp 59) (.tmp 60) 23 75 (.agg #[(.int .i64 0),(.int .i64 0)]) 16 rfl Try.underlying23 info75 rfl (by decide) (by omega) v1181 j8 n3 _ _ _ (fun k_ => some k_ ≠ (.slice Ao91 g9.length co91 : Value).ownBlock ∧ some k_ ≠ (.slice Ao95 n3.length co95 : Value).ownBlock) (fun _ => False) rfl rfl ?aO ?aR (fun _ _ h => h) (fun _ h => h.elim) ?aF (Below.refl _ _) ?aS ?aL ?_;(case aR => exact zC_ (Kd.R_reads' m4.out).2.2);(case aF => exact (fun k_ hk => ⟨Kd.fresh' (Kd.R_lt (zR_ d0.out)) k_ hk,Kd.fresh' (Kd.R_lt (zR_ m4.out)) k_ hk⟩));(case aO => exact (by exact Kd.R_mono n4.out (fun _ hk => ⟨hk.1.2,hk.2⟩)));(case aS => exact (keep_size (w := w) (g := g) (row := none) (zkp1 HK.out b4.out)));(case aL => have := t6.out;omega);intro v1184 w94 ho hb hg hat;rw [← s7.out] at ho;have n0_ := As_ (Kd.R_after (ok := (fun k_ => some k_ ≠ (.slice Ao95 n3.length co95 : Value).ownBlock)) (by exact Kd.R_mono d0.out (fun _ hk => ⟨hk.1.2,hk.2⟩)) hg hat);have n1_ := As_ (Kd.R_over' (zR_ a2.out) (Kd.R_typed (zR_ n4.out)) (by decide) hg);have n2_ := As_ (Kd.R_over' (zR_ a5.out) (Kd.R_typed (zR_ n4.out)) (by decide) hg);have n3_ := As_ (Kd.R_over' (zR_ a3.out) (Kd.R_typed (zR_ n4.out)) (by decide) hg);have n4_ := As_ (Kd.R_over' (zR_ a4.out) (Kd.R_typed (zR_ n4.out)) (by decide) hg);have n5_ := As_ (blk_grown (g := b7) (o := .cells #[d7,e6,d8,d9,.bool b6] 120 (0,0)) (zk_ a6.out) hg (rne n4.out a6.out));have n6_ := As_ (IsS113.grown (zi113_1 HI0.out a7.out) hg (IsS113.own_ne HI0.out n4.out (by decide)));have n7_ := As_ (Kd.R_after (ok := (fun k_ => some k_ ≠ (.slice Ao91 g9.length co91 : Value).ownBlock)) (by exact Kd.R_mono m4.out (fun _ hk => ⟨hk.1.2,hk.2⟩)) hg hat);have n8_ := As_ (below_weaken (zb2 HB.out (IsS113.ge HI0.out) e4.out) HL.out hb);have n9_ := As_ (KeepBut.trans (zkp1 HK.out b4.out) (KeepBut.of_grown hg g) (Kd.R_base2 n4.out));have n10_ := As_ (ho);clear d0 a2 a5 a3 a4 a6 HI0 m4 HB HK n4;revert n0_ n1_ n2_ n3_ n4_ n5_ n6_ n7_ n8_ n9_ n10_;intro d0 a2 a5 a3 a4 a6 HI0 m4 HB HK s8;clear ho hb hg hat))
    go_ret
    exact ⟨_,zE_,by exact Kd.R_mono s8.out (fun _ hk => trivial),zi113_1 HI0.out a7.out,zb2 HB.out (IsS113.ge HI0.out) e4.out,zkp1 HK.out b4.out⟩
   rw [if_pos c18] at H
   have t3 : decide (0 < j5) = true := deT c18
   clear c18
   replace H := obS H
   obtain ⟨⟨e1,e2,n6⟩,A190,H⟩ := H
   replace H : (if e1 = 19 then ((spec_reader_pick.f k1 s0_0 n6 3).bind fun p7 => (spec_likelyOps.j1 k1 g9 j5 (decide (p7.1 > 0)) s0_0 p7.2 a8 b5 a9 b0 b6 e1 e2)) else (spec_likelyOps.j1 k1 g9 j5 false s0_0 n6 a8 b5 a9 b0 b6 e1 e2)) = some (r1,r2) := H
   have A19 := As_ A190
   clear A190
   have HC20 := As_ H
   clear H
   go_upto_region 7 with (first|((with_reducible refine gate_callee (f := 106) rfl ?_);refine goesL_ (some 21) rfl rfl Try.func106 (by kernel_rfl) rfl #[.pointer (some ⟨g,0,none⟩)] rfl zM_ ?_;(with_reducible refine (spec_someOp.calls k1 g s0_0 e7 e1 e2 n6 w0 _ ?side1 ?side2 A19.out).mono ?_);(case side1 => exact zi113_1 HI0.out a7.out);(case side2 => exact zb2 HB.out (IsS113.ge HI0.out) e4.out);rintro e w21 ⟨rfl,hi,hb,hk⟩;refine ⟨_,rfl,?_⟩;have n0_ := As_ (Kd.R_mono (Kd.R_keep (IsS113.apart (show IsS113 w0 _ g s0_0 e7 from zi113_1 HI0.out a7.out) (zR_ d0.out) (by decide)) hk (fun _ h => h.2)) (fun _ h => h.1));have n1_ := As_ (Kd.R_mono (Kd.R_keep (IsS113.apart (show IsS113 w0 _ g s0_0 e7 from zi113_1 HI0.out a7.out) (zR_ a2.out) (by decide)) hk (fun _ h => h.2)) (fun _ h => h.1));have n2_ := As_ (Kd.R_mono (Kd.R_keep (IsS113.apart (show IsS113 w0 _ g s0_0 e7 from zi113_1 HI0.out a7.out) (zR_ a5.out) (by decide)) hk (fun _ h => h.2)) (fun _ h => h.1));have n3_ := As_ (Kd.R_mono (Kd.R_keep (IsS113.apart (show IsS113 w0 _ g s0_0 e7 from zi113_1 HI0.out a7.out) (zR_ a3.out) (by decide)) hk (fun _ h => h.2)) (fun _ h => h.1));have n4_ := As_ (Kd.R_mono (Kd.R_keep (IsS113.apart (show IsS113 w0 _ g s0_0 e7 from zi113_1 HI0.out a7.out) (zR_ a4.out) (by decide)) hk (fun _ h => h.2)) (fun _ h => h.1));have n5_ := As_ (KeepBut.blk hk (g' := b7) (o := .cells #[d7,e6,d8,d9,.bool b6] 120 (0,0)) (zk_ a6.out) j4.out (by simp));have n6_ := As_ (KeepBut.trans (zkp1 HK.out b4.out) hk (.inl rfl));have n7_ := As_ (hb);have n8_ := As_ (hi);clear d0 a2 a5 a3 a4 a6 HK HB HI0;revert n0_ n1_ n2_ n3_ n4_ n5_ n6_ n7_ n8_;intro d0 a2 a5 a3 a4 a6 HK HB HI0)|((with_reducible refine gate_dst (N := 6) rfl ?_);refine box_event ?hg (N := 6) ?hd (cs := #[.int .i64 0,.int .i64 0]) (t := 75) ?hr ?_;(case hd => rfl);(case hg => rfl);(case hr => go_simp <;> rfl);intro b9 hg w22 hbox hb;have n0_ := As_ (Kd.R_below (Kd.R_elderB (zR_ d0.out) b9 (Nat.le_of_eq hg.symm)) hb);have n1_ := As_ (Kd.R_below (zR_ a2.out) hb);have n2_ := As_ (Kd.R_below (zR_ a5.out) hb);have n3_ := As_ (Kd.R_below (zR_ a3.out) hb);have n4_ := As_ (Kd.R_below (zR_ a4.out) hb);have n5_ := As_ (zkb a6.out hb);have n6_ := As_ (IsS113.below (zi113_1 HI0.out a7.out) hb);have n7_ := As_ (KeepBut.trans (zkp1 HK.out b4.out) (KeepBut.of_below hb g none) (.inl rfl));have n8_ := As_ (bwT (zb2 HB.out (IsS113.ge HI0.out) e4.out) hb);have n9_ := As_ (hbox);have n10_ := As_ ((by rw [hg];exact (keep_size (w := w) (g := g) (row := none) (zkp1 HK.out b4.out)) : w.heap.size ≤ b9));have n11_ := As_ ((Nat.le_trans HW0.out (by rw [hg];exact (keep_size (w := w) (g := g) (row := none) (zkp1 HK.out b4.out)) : w.heap.size ≤ b9) : w0.heap.size ≤ b9));have n12_ := As_ ((by rw [hg];exact Nat.ne_of_lt (zkl a6.out) : b7 ≠ b9));have n13_ := As_ ((by rw [hg];exact Nat.ne_of_gt (zkl a6.out) : b9 ≠ b7));have n14_ := As_ ((by rw [hg];exact Nat.ne_of_lt (IsS113.lt (show IsS113 w0 _ g s0_0 n6 from zi113_1 HI0.out a7.out)) : g ≠ b9));have n15_ := As_ ((by rw [hg];exact Nat.ne_of_gt (IsS113.lt (show IsS113 w0 _ g s0_0 n6 from zi113_1 HI0.out a7.out)) : b9 ≠ g));clear d0 a2 a5 a3 a4 a6 HI0 HK HB;revert n0_ n1_ n2_ n3_ n4_ n5_ n6_ n7_ n8_ n9_ n10_ n11_ n12_ n13_ n14_ n15_;intro d0 a2 a5 a3 a4 a6 HI0 HK HB b1 d5 i2 i3 i6 b3 l8;clear hb hbox hg;have E9 := i6.out;have F0 := i3.out;have F1 := l8.out;have F2 := b3.out;obtain ⟨x0,x1,x2,x4⟩ := bk2 b1.out))
   (try simp only [Act.put,List.setIfInBounds_toArray,List.set_cons_zero,List.set_cons_succ])
   go_cut [29] (fun v29 wc => ∃ (kq : Nat) (q0 : Bool) (b8 : Int),v29 = .bool q0 ∧ Aside0 (spec_likelyOps.j1 kq g9 j5 q0 s0_0 b8 a8 b5 a9 b0 b6 e1 e2 = some (r1,r2)) ∧ Aside0 (kq ≤ k1) ∧ Aside0 (Kd.R k75 75 wc w.heap.size (fun k_ => k_ ≠ b9) u3 g9) ∧ Aside0 (Kd.R (Kd.int .i64) 3 wc w.heap.size (fun k_ => some k_ ≠ (d8 : Value).ownBlock ∧ some k_ ≠ (d9 : Value).ownBlock) d7 a8) ∧ Aside0 (Kd.R Kd.bool 4 wc w.heap.size (fun _ => True) e6 b5) ∧ Aside0 (Kd.R (Kd.int .i64) 3 wc w.heap.size (fun k_ => some k_ ≠ (d7 : Value).ownBlock ∧ some k_ ≠ (d9 : Value).ownBlock) d8 a9) ∧ Aside0 (Kd.R (Kd.int .i64) 3 wc w.heap.size (fun k_ => some k_ ≠ (d7 : Value).ownBlock ∧ some k_ ≠ (d8 : Value).ownBlock) d9 b0) ∧ Aside0 (wc.heap[b7]? = some (.cells #[d7,e6,d8,d9,.bool b6] 120 (0,0))) ∧ Aside0 (wc.heap[b9]? = some (.cells #[.int .i64 e1,.int .i64 e2] 75 (0,0))) ∧ Aside0 (IsS113 w0 wc g s0_0 b8) ∧ Aside0 (KeepBut w wc g none) ∧ Aside0 (Below w0.heap.size w0 wc))
   case first =>
    have H := HC20.out
    clear HC20
    by_cases c26 : e1 = 19
    rotate_left
    ·rw [if_neg c26] at H
     have q2 : (e1 == 19) = false := beq_eq_false_iff_ne.mpr c26
     have t8 : (e1 != 19) = true := bne_iff_ne.mpr c26
     (first|rw [q2]|(simp only [i64_w,i32_w];rw [q2])|skip)
     have H' := As_ H
     clear H
     have F3 := i6.out
     have F4 := i3.out
     have F5 := l8.out
     have F6 := b3.out
     obtain ⟨x6,x7,x9,z1⟩ := bk2 b1.out
     go_wp2
     go_meet
     case rel => exact ⟨_,(false),(n6),zT_,H',⟨by have := HK1.out;first|omega|exact Nat.le_refl _⟩,⟨by exact Kd.R_mono (Kd.R_far (p := ⟨b9,1,none⟩) (Kd.R_far (p := ⟨b9,0,none⟩) (Kd.R_mono d0.out (fun k_ hk => (⟨hk,hk.2⟩ : _ ∧ k_ ≠ b9))) (fun _ hk => hk.2) (.int .i64 e1)) (fun _ hk => hk.2) (.int .i64 e2)) (fun _ hk => hk.1.2)⟩,⟨by exact Kd.R_mono (Kd.R_far (p := ⟨b9,1,none⟩) (rX1 a2.out b1.out 0) (fun _ hk => hk.2) (.int .i64 e2)) (fun _ hk => ⟨hk.1.1,hk.1.2⟩)⟩,⟨by exact Kd.R_mono (Kd.R_far (p := ⟨b9,1,none⟩) (rX1 a5.out b1.out 0) (fun _ hk => hk.2) (.int .i64 e2)) (fun _ hk => trivial)⟩,⟨by exact Kd.R_mono (Kd.R_far (p := ⟨b9,1,none⟩) (rX1 a3.out b1.out 0) (fun _ hk => hk.2) (.int .i64 e2)) (fun _ hk => ⟨hk.1.1,hk.1.2⟩)⟩,⟨by exact Kd.R_mono (Kd.R_far (p := ⟨b9,1,none⟩) (rX1 a4.out b1.out 0) (fun _ hk => hk.2) (.int .i64 e2)) (fun _ hk => ⟨hk.1.1,hk.1.2⟩)⟩,⟨by refine blk_far ?_ i3.out _;refine blk_far ?_ i3.out _;exact a6.out⟩,⟨by refine blk_put (cs := #[.int .i64 e1,.int .i64 0]) ?_ 1 _ rfl;refine blk_put (cs := #[.int .i64 0,.int .i64 0]) ?_ 0 _ rfl;exact b1.out⟩,⟨zi113_2 HI0.out a7.out b3.out⟩,⟨zkp2 HK.out b4.out d5.out⟩,⟨zb3 HB.out (IsS113.ge HI0.out) e4.out i2.out⟩⟩
    rw [if_pos c26] at H
    have q2 : (e1 == 19) = true := beq_iff_eq.mpr c26
    have t8 : (e1 != 19) = false := bne_eq_false_iff_eq.mpr c26
    clear c26
    (first|rw [q2]|(simp only [i64_w,i32_w];rw [q2])|skip)
    replace H := obS H
    obtain ⟨⟨r5,r6⟩,A270,H⟩ := H
    replace H : (spec_likelyOps.j1 k1 g9 j5 (decide (r5 > 0)) s0_0 r6 a8 b5 a9 b0 b6 e1 e2) = some (r1,r2) := H
    have A27 := As_ A270
    clear A270
    have H' := As_ H
    clear H
    have F7 := i6.out
    have F8 := i3.out
    have F9 := l8.out
    have G0 := b3.out
    obtain ⟨z2,z3,z4,z5⟩ := bk2 b1.out
    go_wp2_with (first|(go_at_call 102;(with_reducible refine (spec_reader_pick.calls k1 g s0_0 n6 3 r5 r6 w0 _ ?side1 ?side2 A27.out).mono ?_);(case side1 => exact zi113_2 HI0.out a7.out b3.out);(case side2 => exact zb3 HB.out (IsS113.ge HI0.out) e4.out i2.out);rintro e w31 ⟨rfl,hi,hb,hk⟩;have n0_ := As_ (Kd.R_mono (Kd.R_keep (IsS113.apart (show IsS113 w0 _ g s0_0 n6 from zi113_2 HI0.out a7.out b3.out) (by exact (Kd.R_mono (Kd.R_far (p := ⟨b9,1,none⟩) (Kd.R_far (p := ⟨b9,0,none⟩) (Kd.R_mono d0.out (fun k_ hk => (⟨hk,hk.2⟩ : _ ∧ k_ ≠ b9))) (fun _ hk => hk.2) (.int .i64 e1)) (fun _ hk => hk.2) (.int .i64 e2)) (fun _ h_ => h_.1))) (by decide)) hk (fun _ h => h.2)) (fun _ h => h.1));have n1_ := As_ (Kd.R_mono (Kd.R_keep (IsS113.apart (show IsS113 w0 _ g s0_0 n6 from zi113_2 HI0.out a7.out b3.out) (by exact (Kd.R_mono (Kd.R_far (p := ⟨b9,1,none⟩) (rX1 a2.out b1.out 0) (fun _ hk => hk.2) (.int .i64 e2)) (fun _ h_ => h_.1))) (by decide)) hk (fun _ h => h.2)) (fun _ h => h.1));have n2_ := As_ (Kd.R_mono (Kd.R_keep (IsS113.apart (show IsS113 w0 _ g s0_0 n6 from zi113_2 HI0.out a7.out b3.out) (by exact (Kd.R_mono (Kd.R_far (p := ⟨b9,1,none⟩) (rX1 a5.out b1.out 0) (fun _ hk => hk.2) (.int .i64 e2)) (fun _ h_ => h_.1))) (by decide)) hk (fun _ h => h.2)) (fun _ h => h.1));have n3_ := As_ (Kd.R_mono (Kd.R_keep (IsS113.apart (show IsS113 w0 _ g s0_0 n6 from zi113_2 HI0.out a7.out b3.out) (by exact (Kd.R_mono (Kd.R_far (p := ⟨b9,1,none⟩) (rX1 a3.out b1.out 0) (fun _ hk => hk.2) (.int .i64 e2)) (fun _ h_ => h_.1))) (by decide)) hk (fun _ h => h.2)) (fun _ h => h.1));have n4_ := As_ (Kd.R_mono (Kd.R_keep (IsS113.apart (show IsS113 w0 _ g s0_0 n6 from zi113_2 HI0.out a7.out b3.out) (by exact (Kd.R_mono (Kd.R_far (p := ⟨b9,1,none⟩) (rX1 a4.out b1.out 0) (fun _ hk => hk.2) (.int .i64 e2)) (fun _ h_ => h_.1))) (by decide)) hk (fun _ h => h.2)) (fun _ h => h.1));have n5_ := As_ (KeepBut.blk hk (g' := b7) (o := .cells #[d7,e6,d8,d9,.bool b6] 120 (0,0)) (by refine blk_far ?_ i3.out _;refine blk_far ?_ i3.out _;exact a6.out) j4.out (by simp));have n6_ := As_ (KeepBut.blk hk (g' := b9) (o := .cells #[.int .i64 e1,.int .i64 e2] 75 (0,0)) (by refine blk_put (cs := #[.int .i64 e1,.int .i64 0]) ?_ 1 _ rfl;refine blk_put (cs := #[.int .i64 0,.int .i64 0]) ?_ 0 _ rfl;exact b1.out) l8.out (by simp));have n7_ := As_ (KeepBut.trans (zkp2 HK.out b4.out d5.out) hk (.inl rfl));have n8_ := As_ (hb);have n9_ := As_ (hi);clear d0 a2 a5 a3 a4 a6 b1 HK HB HI0;revert n0_ n1_ n2_ n3_ n4_ n5_ n6_ n7_ n8_ n9_;intro d0 a2 a5 a3 a4 a6 b1 HK HB HI0))
    go_meet
    case rel => exact ⟨_,(decide (r5 > 0)),(r6),zT_,H',⟨by have := HK1.out;first|omega|exact Nat.le_refl _⟩,⟨by exact Kd.R_mono d0.out (fun _ hk => hk.2)⟩,⟨a2.out⟩,⟨a5.out⟩,⟨a3.out⟩,⟨a4.out⟩,⟨a6.out⟩,⟨b1.out⟩,⟨zi113_2 HI0.out a7.out b3.out⟩,⟨zkp2 HK.out b4.out d5.out⟩,⟨zb3 HB.out (IsS113.ge HI0.out) e4.out i2.out⟩⟩
   case rest =>
    clear HC20
    obtain ⟨kq,q0,b8,rfl,HA,HJ19,d0,a2,a5,a3,a4,a6,b1,HI0,HK,HB⟩ := hcut
    cases kq with
    | zero => exact absurd HA.out (fun h_ => (by cases h_))
    | succ kj19 =>
     have H := HA.out
     clear HA
     simp only [spec_likelyOps.j1] at H
     by_cases c35 : q0 = true
     ·subst c35
      have H1 : (spec_likelyOps.l0 kj19 g9 (wrap64 (j5 - 1)) s0_0 b8 a8 b5 a9 b0 b6) = some (r1,r2) := by rw [if_pos rfl] at H;exact H
      clear H
      have H := H1
      clear H1
      have H' := As_ H
      clear H
      go_wp2
      go_roundg kj19
      case measure => have := HK1.out;have := HJ19.out;omega
      case rel => exact ⟨(g9),(wrap64 (j5 - 1)),(b8),(a8),(b5),(a9),(b0),(b6),(d7),(e6),(d8),(d9),zT_,H',⟨by have := HK1.out;have := HJ19.out;omega⟩,⟨by exact Kd.R_mono d0.out (fun _ hk => trivial)⟩,⟨a2.out⟩,⟨a5.out⟩,⟨a3.out⟩,⟨a4.out⟩,⟨a6.out⟩,⟨zi113_2 HI0.out a7.out b3.out⟩,⟨zkp2 HK.out b4.out d5.out⟩,⟨zb3 HB.out (IsS113.ge HI0.out) e4.out i2.out⟩⟩
     replace c35 := Bool.eq_false_iff.mpr c35
     subst c35
     have H1 : ((spec_copyShapes.f a8 b5 a9 b0 b6).bind fun m2 => ((spec_stepShapes.f kj19 m2.1 m2.2.1 m2.2.2.1 m2.2.2.2.1 m2.2.2.2.2 e1 e2).bind fun g8 => (if g8.2.2.2.2.2 = true then (spec_likelyOps.j2 kj19 g9 j5 g8.2.2.2.2.2 s0_0 b8 g8.1 g8.2.1 g8.2.2.1 g8.2.2.2.1 g8.2.2.2.2.1 e1 e2) else (spec_likelyOps.j2 kj19 g9 j5 g8.2.2.2.2.2 s0_0 b8 a8 b5 a9 b0 b6 e1 e2)))) = some (r1,r2) := by rw [if_neg (show ¬ (false = true) by decide)] at H;exact H
     clear H
     have H := H1
     clear H1
     replace H := obS H
     obtain ⟨⟨j9,l4,l5,l6,n8⟩,A360,H⟩ := H
     replace H : ((spec_stepShapes.f kj19 j9 l4 l5 l6 n8 e1 e2).bind fun g8 => (if g8.2.2.2.2.2 = true then (spec_likelyOps.j2 kj19 g9 j5 g8.2.2.2.2.2 s0_0 b8 g8.1 g8.2.1 g8.2.2.1 g8.2.2.2.1 g8.2.2.2.2.1 e1 e2) else (spec_likelyOps.j2 kj19 g9 j5 g8.2.2.2.2.2 s0_0 b8 a8 b5 a9 b0 b6 e1 e2))) = some (r1,r2) := H
     have A36 := As_ A360
     clear A360
     replace H := obS H
     obtain ⟨⟨o9,p0,p1,p2,p3,n7⟩,A370,H⟩ := H
     replace H : (if n7 = true then (spec_likelyOps.j2 kj19 g9 j5 n7 s0_0 b8 o9 p0 p1 p2 p3 e1 e2) else (spec_likelyOps.j2 kj19 g9 j5 n7 s0_0 b8 a8 b5 a9 b0 b6 e1 e2)) = some (r1,r2) := H
     have A37 := As_ A370
     clear A370
     have HC38 := As_ H
     clear H
     obtain ⟨Ao39,co39,eo39⟩ := Kd.R_slice a2.out
     subst eo39
     obtain ⟨Ao40,co40,eo40⟩ := Kd.R_slice a5.out
     subst eo40
     obtain ⟨Ao41,co41,eo41⟩ := Kd.R_slice a3.out
     subst eo41
     obtain ⟨Ao42,co42,eo42⟩ := Kd.R_slice a4.out
     subst eo42
     try go_wp2
     have n0_ := As_ (Kd.R_drew d0.out)
     have n1_ := As_ (Kd.R_drew a2.out)
     have n2_ := As_ (Kd.R_drew a5.out)
     have n3_ := As_ (Kd.R_drew a3.out)
     have n4_ := As_ (Kd.R_drew a4.out)
     have n5_ := As_ (bkD a6.out)
     have n6_ := As_ (bkD b1.out)
     have n7_ := As_ (IsS113.drew HI0.out)
     have n8_ := As_ (keep_drew HK.out)
     have n9_ := As_ (bwD HB.out)
     clear d0 a2 a5 a3 a4 a6 b1 HI0 HK HB
     revert n0_ n1_ n2_ n3_ n4_ n5_ n6_ n7_ n8_ n9_;intro d0 a2 a5 a3 a4 a6 b1 HI0 HK HB
     refine start_ (n := 10) (S := fun w' => w'.cell? ⟨b7,0,none⟩ = some (.slice Ao39 a8.length co39) ∧ w'.cell? ⟨b7,1,none⟩ = some (.slice Ao40 b5.length co40) ∧ w'.cell? ⟨b7,2,none⟩ = some (.slice Ao41 a9.length co41) ∧ w'.cell? ⟨b7,3,none⟩ = some (.slice Ao42 b0.length co42) ∧ w'.cell? ⟨b7,4,none⟩ = some (.bool b6) ∧ w'.cell? ⟨b9,0,none⟩ = some (.int .i64 e1) ∧ w'.cell? ⟨b9,1,none⟩ = some (.int .i64 e2)) (ds := []) (bl_ 0 10) (by kernel_rfl) rfl rfl ⟨(bkC a6.out 0).trans rfl,(bkC a6.out 1).trans rfl,(bkC a6.out 2).trans rfl,(bkC a6.out 3).trans rfl,(bkC a6.out 4).trans rfl,(bkC b1.out 0).trans rfl,(bkC b1.out 1).trans rfl⟩ (fun hHeld => ?_);refine with_tabW spec_likelyOps.tab8 spec_likelyOps.bits8 (fun HT_ HW_ => ?_)
     generalize wc.drew = w43 at d0 a2 a5 a3 a4 a6 b1 HI0 HK HB hHeld ⊢
     refine tP 0 31 (bl_ 1 10) ?_ HT_ HW_ rfl (.inl ⟨by rfl,?_⟩) hHeld ?_ ?_ ?_;rotate_left;(rintro w' ⟨s0,s1,s2,s3,s4,s5,s6⟩;go_simp;with_reducible rfl);rotate_left;(simp only [Act.put,sq_,i64_w,i32_w];rfl)
     refine tP 2 33 (bl_ 5 10) ?_ HT_ HW_ rfl (.inl ⟨by rfl,?_⟩) hHeld ?_ ?_ ?_;rotate_left;(rintro w' ⟨s0,s1,s2,s3,s4,s5,s6⟩;go_simp;with_reducible rfl);rotate_left;(simp only [Act.put,sq_,i64_w,i32_w];rfl)
     refine join_ (σ := Value × Value × Value × Value × Value × Value × Value × Value × Nat) 2 (bl_ 255 10) (fun s_ => [(32,.agg #[s_.1,s_.2.1,s_.2.2.1,s_.2.2.2.1,.bool n8]),(34,.tuple #[.agg #[s_.2.2.2.2.1,s_.2.2.2.2.2.1,s_.2.2.2.2.2.2.1,s_.2.2.2.2.2.2.2.1,.bool p3],.bool n7]),(7,.pointer (some ⟨s_.2.2.2.2.2.2.2.2,0,none⟩)),(30,.tuple #[.agg #[s_.2.2.2.2.1,s_.2.2.2.2.2.1,s_.2.2.2.2.2.2.1,s_.2.2.2.2.2.2.2.1,.bool p3],.bool n7]),(35,.agg #[s_.2.2.2.2.1,s_.2.2.2.2.2.1,s_.2.2.2.2.2.2.1,s_.2.2.2.2.2.2.2.1,.bool p3]),(36,.bool n7)]) (fun s_ w' => (w'.cell? ⟨b7,0,none⟩ = some (.slice Ao39 a8.length co39) ∧ w'.cell? ⟨b7,1,none⟩ = some (.slice Ao40 b5.length co40) ∧ w'.cell? ⟨b7,2,none⟩ = some (.slice Ao41 a9.length co41) ∧ w'.cell? ⟨b7,3,none⟩ = some (.slice Ao42 b0.length co42) ∧ w'.cell? ⟨b7,4,none⟩ = some (.bool b6) ∧ w'.cell? ⟨b9,0,none⟩ = some (.int .i64 e1) ∧ w'.cell? ⟨b9,1,none⟩ = some (.int .i64 e2)) ∧ (Kd.R (Kd.int .i64) 3 w' w.heap.size (fun k_ => some k_ ≠ (s_.2.2.2.2.2.2.1 : Value).ownBlock ∧ some k_ ≠ (s_.2.2.2.2.2.2.2.1 : Value).ownBlock ∧ some k_ ≠ (.slice Ao39 a8.length co39 : Value).ownBlock ∧ some k_ ≠ (.slice Ao41 a9.length co41 : Value).ownBlock ∧ some k_ ≠ (.slice Ao42 b0.length co42 : Value).ownBlock) s_.2.2.2.2.1 o9) ∧ (Kd.R Kd.bool 4 w' w.heap.size (fun k_ => some k_ ≠ (.slice Ao40 b5.length co40 : Value).ownBlock) s_.2.2.2.2.2.1 p0) ∧ (Kd.R (Kd.int .i64) 3 w' w.heap.size (fun k_ => some k_ ≠ (s_.2.2.2.2.1 : Value).ownBlock ∧ some k_ ≠ (s_.2.2.2.2.2.2.2.1 : Value).ownBlock ∧ some k_ ≠ (.slice Ao39 a8.length co39 : Value).ownBlock ∧ some k_ ≠ (.slice Ao41 a9.length co41 : Value).ownBlock ∧ some k_ ≠ (.slice Ao42 b0.length co42 : Value).ownBlock) s_.2.2.2.2.2.2.1 p1) ∧ (Kd.R (Kd.int .i64) 3 w' w.heap.size (fun k_ => some k_ ≠ (s_.2.2.2.2.1 : Value).ownBlock ∧ some k_ ≠ (s_.2.2.2.2.2.2.1 : Value).ownBlock ∧ some k_ ≠ (.slice Ao39 a8.length co39 : Value).ownBlock ∧ some k_ ≠ (.slice Ao41 a9.length co41 : Value).ownBlock ∧ some k_ ≠ (.slice Ao42 b0.length co42 : Value).ownBlock) s_.2.2.2.2.2.2.2.1 p2) ∧ (Kd.R (Kd.int .i64) 3 w' w.heap.size (fun k_ => some k_ ≠ (s_.2.2.2.2.1 : Value).ownBlock ∧ some k_ ≠ (s_.2.2.2.2.2.2.1 : Value).ownBlock ∧ some k_ ≠ (s_.2.2.2.2.2.2.2.1 : Value).ownBlock ∧ some k_ ≠ (.slice Ao41 a9.length co41 : Value).ownBlock ∧ some k_ ≠ (.slice Ao42 b0.length co42 : Value).ownBlock) (.slice Ao39 a8.length co39) a8) ∧ (Kd.R Kd.bool 4 w' w.heap.size (fun k_ => some k_ ≠ (s_.2.2.2.2.2.1 : Value).ownBlock) (.slice Ao40 b5.length co40) b5) ∧ (Kd.R (Kd.int .i64) 3 w' w.heap.size (fun k_ => some k_ ≠ (s_.2.2.2.2.1 : Value).ownBlock ∧ some k_ ≠ (s_.2.2.2.2.2.2.1 : Value).ownBlock ∧ some k_ ≠ (s_.2.2.2.2.2.2.2.1 : Value).ownBlock ∧ some k_ ≠ (.slice Ao39 a8.length co39 : Value).ownBlock ∧ some k_ ≠ (.slice Ao42 b0.length co42 : Value).ownBlock) (.slice Ao41 a9.length co41) a9) ∧ (Kd.R (Kd.int .i64) 3 w' w.heap.size (fun k_ => some k_ ≠ (s_.2.2.2.2.1 : Value).ownBlock ∧ some k_ ≠ (s_.2.2.2.2.2.2.1 : Value).ownBlock ∧ some k_ ≠ (s_.2.2.2.2.2.2.2.1 : Value).ownBlock ∧ some k_ ≠ (.slice Ao39 a8.length co39 : Value).ownBlock ∧ some k_ ≠ (.slice Ao41 a9.length co41 : Value).ownBlock) (.slice Ao42 b0.length co42) b0) ∧ (Kd.R k75 75 w' w.heap.size (fun k_ => k_ ≠ b9) u3 g9) ∧ (w'.heap[b7]? = some (.cells #[.slice Ao39 a8.length co39,.slice Ao40 b5.length co40,.slice Ao41 a9.length co41,.slice Ao42 b0.length co42,.bool b6] 120 (0,0))) ∧ (w'.heap[b9]? = some (.cells #[.int .i64 e1,.int .i64 e2] 75 (0,0))) ∧ (w'.heap[s_.2.2.2.2.2.2.2.2]? = some (.cells #[.slice none 0 0,.slice none 0 0,.slice none 0 0,.slice none 0 0,.bool false] 120 (0,0))) ∧ (w.heap.size ≤ s_.2.2.2.2.2.2.2.2) ∧ (w0.heap.size ≤ s_.2.2.2.2.2.2.2.2) ∧ (g ≠ s_.2.2.2.2.2.2.2.2) ∧ (s_.2.2.2.2.2.2.2.2 ≠ g) ∧ (b7 ≠ s_.2.2.2.2.2.2.2.2) ∧ (s_.2.2.2.2.2.2.2.2 ≠ b7) ∧ (b9 ≠ s_.2.2.2.2.2.2.2.2) ∧ (s_.2.2.2.2.2.2.2.2 ≠ b9) ∧ (IsS113 w0 w' g s0_0 b8) ∧ (KeepBut w w' g none) ∧ (Below w0.heap.size w0 w')) ?_ ?_
     rotate_left
     ·intro hCont
      refine two_ (i := 1) (j := 7) (Ni := some 32) (Nj := some 7) (bl_ 7 10) (bl_ 133 10) rfl rfl rfl rfl (two_of HT_.out (by kernel_rfl)) (by decide) (by decide) (fun K hK => ?_) (fun K hK => ?_)
      ·skip
       refine goes_ Try.func108 (by kernel_rfl) rfl #[.agg #[.slice Ao39 a8.length co39,.slice Ao40 b5.length co40,.slice Ao41 a9.length co41,.slice Ao42 b0.length co42,.bool b6]] (by rfl) rfl rfl zM_ ?_
       with_reducible refine (spec_copyShapes.calls _ _ a8 _ _ b5 _ _ a9 _ _ b0 b6 j9 l4 l5 l6 n8 _ ?side1 ?side2 ?side3 ?side4 ?side5 ?side6 ?side7 ?side8 A36.out).mono ?_
       (case side1 => exact zC_ (Kd.R_reads' a2.out).2.2)
       (case side2 => exact (Kd.R_reads' a2.out).2.1)
       (case side3 => exact zC_ (Kd.R_reads' a5.out).2.2)
       (case side4 => exact (Kd.R_reads' a5.out).2.1)
       (case side5 => exact zC_ (Kd.R_reads' a3.out).2.2)
       (case side6 => exact (Kd.R_reads' a3.out).2.1)
       (case side7 => exact zC_ (Kd.R_reads' a4.out).2.2)
       (case side8 => exact (Kd.R_reads' a4.out).2.1)
       rintro e w44 ⟨v1139,v1142,v1145,v1148,rfl,ho0,ho1,ho2,ho3,hb⟩
       refine ⟨_,rfl,?_⟩
       have n0_ := As_ (Kd.R_below (zR_ d0.out) hb)
       have n1_ := As_ (Kd.R_mono (Kd.R_told (Kd.R_told (Kd.R_told (Kd.R_old (zR_ a2.out) hb) (Kd.R_base ho0)) (Kd.R_base ho2)) (Kd.R_base ho3)) (fun _ h_ => h_.1))
       have n2_ := As_ (Kd.R_elder' (zR_ a5.out) (Kd.R_base ho1) hb)
       have n3_ := As_ (Kd.R_mono (Kd.R_told (Kd.R_told (Kd.R_told (Kd.R_old (zR_ a3.out) hb) (Kd.R_base ho0)) (Kd.R_base ho2)) (Kd.R_base ho3)) (fun _ h_ => h_.1))
       have n4_ := As_ (Kd.R_mono (Kd.R_told (Kd.R_told (Kd.R_told (Kd.R_old (zR_ a4.out) hb) (Kd.R_base ho0)) (Kd.R_base ho2)) (Kd.R_base ho3)) (fun _ h_ => h_.1))
       have n5_ := As_ (Kd.R_lower (Kd.R_new' (Kd.R_new' (Kd.R_new' ho0 (Kd.R_lt (zR_ a2.out))) (Kd.R_lt (zR_ a3.out))) (Kd.R_lt (zR_ a4.out))) (keep_size (w := w) (g := g) (row := none) (zkp2 HK.out b4.out d5.out)))
       have n6_ := As_ (Kd.R_lower (Kd.R_new' ho1 (Kd.R_lt (zR_ a5.out))) (keep_size (w := w) (g := g) (row := none) (zkp2 HK.out b4.out d5.out)))
       have n7_ := As_ (Kd.R_lower (Kd.R_new' (Kd.R_new' (Kd.R_new' ho2 (Kd.R_lt (zR_ a2.out))) (Kd.R_lt (zR_ a3.out))) (Kd.R_lt (zR_ a4.out))) (keep_size (w := w) (g := g) (row := none) (zkp2 HK.out b4.out d5.out)))
       have n8_ := As_ (Kd.R_lower (Kd.R_new' (Kd.R_new' (Kd.R_new' ho3 (Kd.R_lt (zR_ a2.out))) (Kd.R_lt (zR_ a3.out))) (Kd.R_lt (zR_ a4.out))) (keep_size (w := w) (g := g) (row := none) (zkp2 HK.out b4.out d5.out)))
       have n9_ := As_ (zkb a6.out hb)
       have n10_ := As_ (zkb b1.out hb)
       have n11_ := As_ (IsS113.below (zi113_2 HI0.out a7.out b3.out) hb)
       have n12_ := As_ (KeepBut.trans (zkp2 HK.out b4.out d5.out) (KeepBut.of_below hb g none) (.inl rfl))
       have n13_ := As_ (bwT (zb3 HB.out (IsS113.ge HI0.out) e4.out i2.out) hb)
       clear d0 a2 a5 a3 a4 a6 b1 HI0 HK HB
       revert n0_ n1_ n2_ n3_ n4_ n5_ n6_ n7_ n8_ n9_ n10_ n11_ n12_ n13_;intro d0 a2 a5 a3 a4 d1 b2 d2 d3 a6 b1 HI0 HK HB
       obtain ⟨Ao45,co45,eo45⟩ := Kd.R_slice d1.out
       (first|subst eo45|(injection eo45 with f1_ f2_ f3_;have f4_ := f1_.symm;have f5_ := f3_.symm;clear f1_ f2_ f3_;subst f4_;subst f5_))
       obtain ⟨Ao46,co46,eo46⟩ := Kd.R_slice b2.out
       (first|subst eo46|(injection eo46 with f1_ f2_ f3_;have f4_ := f1_.symm;have f5_ := f3_.symm;clear f1_ f2_ f3_;subst f4_;subst f5_))
       obtain ⟨Ao47,co47,eo47⟩ := Kd.R_slice d2.out
       (first|subst eo47|(injection eo47 with f1_ f2_ f3_;have f4_ := f1_.symm;have f5_ := f3_.symm;clear f1_ f2_ f3_;subst f4_;subst f5_))
       obtain ⟨Ao48,co48,eo48⟩ := Kd.R_slice d3.out
       (first|subst eo48|(injection eo48 with f1_ f2_ f3_;have f4_ := f1_.symm;have f5_ := f3_.symm;clear f1_ f2_ f3_;subst f4_;subst f5_))
       refine hK.out _ _ ⟨(bkC a6.out 0).trans rfl,(bkC a6.out 1).trans rfl,(bkC a6.out 2).trans rfl,(bkC a6.out 3).trans rfl,(bkC a6.out 4).trans rfl,(bkC b1.out 0).trans rfl,(bkC b1.out 1).trans rfl⟩ (fun hHeld => ?_)
       clear hK K
       refine norm_ (a' := ?_) ?_ ?_
       rotate_left
       ·show Act.put _ (some 32) _ = _
        simp only [Act.put,sq_,i64_w,i32_w]
        rfl
       refine two_ (i := 3) (j := 7) (Ni := some 34) (Nj := some 7) (bl_ 15 10) (bl_ 135 10) rfl rfl rfl rfl (two_of HT_.out (by kernel_rfl)) (by decide) (by decide) (fun K hK => ?_) (fun K hK => ?_)
       ·skip
        refine goes_ Try.func107 (by kernel_rfl) rfl #[.agg #[.slice Ao45 j9.length co45,.slice Ao46 l4.length co46,.slice Ao47 l5.length co47,.slice Ao48 l6.length co48,.bool n8],.agg #[.int .i64 e1,.int .i64 e2]] (by rfl) rfl rfl zM_ ?_
        with_reducible refine (spec_stepShapes.calls kj19 (fun k_ => some k_ = (.slice Ao45 j9.length co45 : Value).ownBlock) (.slice Ao45 j9.length co45) j9 (fun k_ => some k_ = (.slice Ao46 l4.length co46 : Value).ownBlock) (.slice Ao46 l4.length co46) l4 (fun k_ => some k_ = (.slice Ao47 l5.length co47 : Value).ownBlock) (.slice Ao47 l5.length co47) l5 (fun k_ => some k_ = (.slice Ao48 l6.length co48 : Value).ownBlock) (.slice Ao48 l6.length co48) l6 n8 e1 e2 o9 p0 p1 p2 p3 n7 w0 _ ?side1 ?side2 ?side3 ?side4 ?side5 ?side6 ?side7 ?side8 ?side9 ?side10 ?side11 A37.out).mono ?_
        (case side1 => exact zb3 HB.out (IsS113.ge HI0.out) e4.out i2.out)
        (case side2 => exact Kd.R_lower (Kd.R_tight rfl d1.out) HL.out)
        (case side3 => exact fun k_ e_ => (d1.out.1 k_ e_.symm).1.1.1.1)
        (case side4 => exact fun k_ e_ => (d1.out.1 k_ e_.symm).1.1.1.2)
        (case side5 => exact Kd.R_lower (Kd.R_tight rfl b2.out) HL.out)
        (case side6 => exact Kd.R_lower (Kd.R_tight rfl d2.out) HL.out)
        (case side7 => exact fun k_ e_ => (d2.out.1 k_ e_.symm).1.1.1.1)
        (case side8 => exact fun k_ e_ => (d2.out.1 k_ e_.symm).1.1.1.2)
        (case side9 => exact Kd.R_lower (Kd.R_tight rfl d3.out) HL.out)
        (case side10 => exact fun k_ e_ => (d3.out.1 k_ e_.symm).1.1.1.1)
        (case side11 => exact fun k_ e_ => (d3.out.1 k_ e_.symm).1.1.1.2)
        rintro e w49 ⟨v1152,v1155,v1158,v1161,rfl,ho0,ho1,ho2,ho3,hb,hkp⟩
        refine ⟨_,rfl,?_⟩
        have n0_ := As_ (Kd.R_mono (ok' := fun k_ => k_ ≠ b9) (Kd.R_keptB ((Kd.R_apart' (rA (rA (rA d0.out d1.out) b2.out) d2.out) (Kd.R_typed d3.out) (by decide))) hkp (fun _ hk_ => no4 ⟨hk_.1.1.1.2,hk_.1.1.2,hk_.1.2,hk_.2⟩)) (fun k_ hk_ => hk_.1.1.1.1.1))
        have n1_ := As_ (Kd.R_mono (ok' := fun k_ => some k_ ≠ (.slice Ao41 a9.length co41 : Value).ownBlock ∧ some k_ ≠ (.slice Ao42 b0.length co42 : Value).ownBlock ∧ some k_ ≠ (v1152 : Value).ownBlock ∧ some k_ ≠ (v1158 : Value).ownBlock ∧ some k_ ≠ (v1161 : Value).ownBlock) (Kd.R_keptB (rA a2.out b2.out) hkp (fun _ hk_ => no4 ⟨hk_.1.1.1.2,hk_.2,hk_.1.1.2,hk_.1.2⟩)) (fun k_ hk_ => ⟨hk_.1.1.1.1.1.1,hk_.1.1.1.1.1.2,nl (ho0.1 k_) hk_.2,nl (ho2.1 k_) hk_.2,nl (ho3.1 k_) hk_.2⟩))
        have n2_ := As_ (Kd.R_mono (ok' := fun k_ => some k_ ≠ (v1155 : Value).ownBlock) (Kd.R_keptB (rA (rA (rA a5.out d1.out) d2.out) d3.out) hkp (fun _ hk_ => no4 ⟨hk_.1.1.2,hk_.1.1.1.2,hk_.1.2,hk_.2⟩)) (fun k_ hk_ => nl' (ho1.1 k_) hk_.2))
        have n3_ := As_ (Kd.R_mono (ok' := fun k_ => some k_ ≠ (.slice Ao39 a8.length co39 : Value).ownBlock ∧ some k_ ≠ (.slice Ao42 b0.length co42 : Value).ownBlock ∧ some k_ ≠ (v1152 : Value).ownBlock ∧ some k_ ≠ (v1158 : Value).ownBlock ∧ some k_ ≠ (v1161 : Value).ownBlock) (Kd.R_keptB (rA a3.out b2.out) hkp (fun _ hk_ => no4 ⟨hk_.1.1.1.2,hk_.2,hk_.1.1.2,hk_.1.2⟩)) (fun k_ hk_ => ⟨hk_.1.1.1.1.1.1,hk_.1.1.1.1.1.2,nl (ho0.1 k_) hk_.2,nl (ho2.1 k_) hk_.2,nl (ho3.1 k_) hk_.2⟩))
        have n4_ := As_ (Kd.R_mono (ok' := fun k_ => some k_ ≠ (.slice Ao39 a8.length co39 : Value).ownBlock ∧ some k_ ≠ (.slice Ao41 a9.length co41 : Value).ownBlock ∧ some k_ ≠ (v1152 : Value).ownBlock ∧ some k_ ≠ (v1158 : Value).ownBlock ∧ some k_ ≠ (v1161 : Value).ownBlock) (Kd.R_keptB (rA a4.out b2.out) hkp (fun _ hk_ => no4 ⟨hk_.1.1.1.2,hk_.2,hk_.1.1.2,hk_.1.2⟩)) (fun k_ hk_ => ⟨hk_.1.1.1.1.1.1,hk_.1.1.1.1.1.2,nl (ho0.1 k_) hk_.2,nl (ho2.1 k_) hk_.2,nl (ho3.1 k_) hk_.2⟩))
        have n5_ := As_ (blk_kept (zk_ a6.out) hkp (no4 ⟨rne d1.out a6.out,rne b2.out a6.out,rne d2.out a6.out,rne d3.out a6.out⟩))
        have n6_ := As_ (blk_kept (zk_ b1.out) hkp (no4 ⟨rne d1.out b1.out,rne b2.out b1.out,rne d2.out b1.out,rne d3.out b1.out⟩))
        have n7_ := As_ (IsS113.kept (zi113_2 HI0.out a7.out b3.out) hkp (or4 (fun e_ => (fun e_ => (IsS113.own_ne HI0.out d1.out (by decide)) e_) e_) (fun e_ => (fun e_ => (IsS113.own_ne HI0.out b2.out (by decide)) e_) e_) (fun e_ => (fun e_ => (IsS113.own_ne HI0.out d2.out (by decide)) e_) e_) (fun e_ => (fun e_ => (IsS113.own_ne HI0.out d3.out (by decide)) e_) e_)))
        have n8_ := As_ (Kd.R_mono (ok' := fun k_ => some k_ ≠ (v1158 : Value).ownBlock ∧ some k_ ≠ (v1161 : Value).ownBlock ∧ some k_ ≠ (.slice Ao39 a8.length co39 : Value).ownBlock ∧ some k_ ≠ (.slice Ao41 a9.length co41 : Value).ownBlock ∧ some k_ ≠ (.slice Ao42 b0.length co42 : Value).ownBlock) (Kd.R_raise (d := (Kd.int .i64)) (b := w0.heap.size) (b' := w.heap.size) (fun _ _ _ _ h_ => h_) ho0 (fun k_ e_ => Or.elim (ho0.1 k_ e_).1 (or4 (fun e_ => (fun e_ => Kd.R_base d1.out k_ e_.symm) e_) (fun e_ => (fun e_ => Kd.R_base b2.out k_ e_.symm) e_) (fun e_ => (fun e_ => Kd.R_base d2.out k_ e_.symm) e_) (fun e_ => (fun e_ => Kd.R_base d3.out k_ e_.symm) e_)) (fun hn_ => Nat.le_trans (keep_size (w := w) (g := g) (row := none) (zkp2 HK.out b4.out d5.out)) hn_))) (fun k_ hk_ => ⟨hk_.2.1,hk_.2.2,aw4 (rA a2.out b2.out).1 (Kd.R_lt (zR_ a2.out)) (fun _ h => ⟨h.1.1.1.2,h.2,h.1.1.2,h.1.2⟩) hk_.1,aw4 (rA a3.out b2.out).1 (Kd.R_lt (zR_ a3.out)) (fun _ h => ⟨h.1.1.1.2,h.2,h.1.1.2,h.1.2⟩) hk_.1,aw4 (rA a4.out b2.out).1 (Kd.R_lt (zR_ a4.out)) (fun _ h => ⟨h.1.1.1.2,h.2,h.1.1.2,h.1.2⟩) hk_.1⟩))
        have n9_ := As_ (Kd.R_mono (ok' := fun k_ => some k_ ≠ (.slice Ao40 b5.length co40 : Value).ownBlock) (Kd.R_raise (d := Kd.bool) (b := w0.heap.size) (b' := w.heap.size) (fun _ _ _ _ h_ => h_) ho1 (fun k_ e_ => Or.elim (ho1.1 k_ e_) (or4 (fun e_ => (fun e_ => Kd.R_base d1.out k_ e_.symm) e_) (fun e_ => (fun e_ => Kd.R_base b2.out k_ e_.symm) e_) (fun e_ => (fun e_ => Kd.R_base d2.out k_ e_.symm) e_) (fun e_ => (fun e_ => Kd.R_base d3.out k_ e_.symm) e_)) (fun hn_ => Nat.le_trans (keep_size (w := w) (g := g) (row := none) (zkp2 HK.out b4.out d5.out)) hn_))) (fun k_ hk_ => aw4 (rA (rA (rA a5.out d1.out) d2.out) d3.out).1 (Kd.R_lt (zR_ a5.out)) (fun _ h => ⟨h.1.1.2,h.1.1.1.2,h.1.2,h.2⟩) hk_))
        have n10_ := As_ (Kd.R_mono (ok' := fun k_ => some k_ ≠ (v1152 : Value).ownBlock ∧ some k_ ≠ (v1161 : Value).ownBlock ∧ some k_ ≠ (.slice Ao39 a8.length co39 : Value).ownBlock ∧ some k_ ≠ (.slice Ao41 a9.length co41 : Value).ownBlock ∧ some k_ ≠ (.slice Ao42 b0.length co42 : Value).ownBlock) (Kd.R_raise (d := (Kd.int .i64)) (b := w0.heap.size) (b' := w.heap.size) (fun _ _ _ _ h_ => h_) ho2 (fun k_ e_ => Or.elim (ho2.1 k_ e_).1 (or4 (fun e_ => (fun e_ => Kd.R_base d1.out k_ e_.symm) e_) (fun e_ => (fun e_ => Kd.R_base b2.out k_ e_.symm) e_) (fun e_ => (fun e_ => Kd.R_base d2.out k_ e_.symm) e_) (fun e_ => (fun e_ => Kd.R_base d3.out k_ e_.symm) e_)) (fun hn_ => Nat.le_trans (keep_size (w := w) (g := g) (row := none) (zkp2 HK.out b4.out d5.out)) hn_))) (fun k_ hk_ => ⟨hk_.2.1,hk_.2.2,aw4 (rA a2.out b2.out).1 (Kd.R_lt (zR_ a2.out)) (fun _ h => ⟨h.1.1.1.2,h.2,h.1.1.2,h.1.2⟩) hk_.1,aw4 (rA a3.out b2.out).1 (Kd.R_lt (zR_ a3.out)) (fun _ h => ⟨h.1.1.1.2,h.2,h.1.1.2,h.1.2⟩) hk_.1,aw4 (rA a4.out b2.out).1 (Kd.R_lt (zR_ a4.out)) (fun _ h => ⟨h.1.1.1.2,h.2,h.1.1.2,h.1.2⟩) hk_.1⟩))
        have n11_ := As_ (Kd.R_mono (ok' := fun k_ => some k_ ≠ (v1152 : Value).ownBlock ∧ some k_ ≠ (v1158 : Value).ownBlock ∧ some k_ ≠ (.slice Ao39 a8.length co39 : Value).ownBlock ∧ some k_ ≠ (.slice Ao41 a9.length co41 : Value).ownBlock ∧ some k_ ≠ (.slice Ao42 b0.length co42 : Value).ownBlock) (Kd.R_raise (d := (Kd.int .i64)) (b := w0.heap.size) (b' := w.heap.size) (fun _ _ _ _ h_ => h_) ho3 (fun k_ e_ => Or.elim (ho3.1 k_ e_).1 (or4 (fun e_ => (fun e_ => Kd.R_base d1.out k_ e_.symm) e_) (fun e_ => (fun e_ => Kd.R_base b2.out k_ e_.symm) e_) (fun e_ => (fun e_ => Kd.R_base d2.out k_ e_.symm) e_) (fun e_ => (fun e_ => Kd.R_base d3.out k_ e_.symm) e_)) (fun hn_ => Nat.le_trans (keep_size (w := w) (g := g) (row := none) (zkp2 HK.out b4.out d5.out)) hn_))) (fun k_ hk_ => ⟨hk_.2.1,hk_.2.2,aw4 (rA a2.out b2.out).1 (Kd.R_lt (zR_ a2.out)) (fun _ h => ⟨h.1.1.1.2,h.2,h.1.1.2,h.1.2⟩) hk_.1,aw4 (rA a3.out b2.out).1 (Kd.R_lt (zR_ a3.out)) (fun _ h => ⟨h.1.1.1.2,h.2,h.1.1.2,h.1.2⟩) hk_.1,aw4 (rA a4.out b2.out).1 (Kd.R_lt (zR_ a4.out)) (fun _ h => ⟨h.1.1.1.2,h.2,h.1.1.2,h.1.2⟩) hk_.1⟩))
        have n12_ := As_ (Kept.keepG (zkp2 HK.out b4.out d5.out) hkp (fun k_ hs_ => Or.elim hs_ (fun e_ => (fun e_ => .inr (Kd.R_base d1.out k_ e_.symm)) e_) (fun e_ => Or.elim e_ (fun e_ => (fun e_ => .inr (Kd.R_base b2.out k_ e_.symm)) e_) (fun e_ => Or.elim e_ (fun e_ => (fun e_ => .inr (Kd.R_base d2.out k_ e_.symm)) e_) (fun e_ => (fun e_ => .inr (Kd.R_base d3.out k_ e_.symm)) e_)))))
        have n13_ := As_ (hb)
        clear d0 a2 a5 a3 a4 a6 b1 HI0 HK HB d1 b2 d2 d3
        revert n0_ n1_ n2_ n3_ n4_ n5_ n6_ n7_ n8_ n9_ n10_ n11_ n12_ n13_;intro d0 a2 a5 a3 a4 a6 b1 HI0 m5 m6 m7 m8 HK HB
        refine hK.out _ _ ⟨(bkC a6.out 0).trans rfl,(bkC a6.out 1).trans rfl,(bkC a6.out 2).trans rfl,(bkC a6.out 3).trans rfl,(bkC a6.out 4).trans rfl,(bkC b1.out 0).trans rfl,(bkC b1.out 1).trans rfl⟩ (fun hHeld => ?_)
        clear hK K
        refine norm_ (a' := ?_) ?_ ?_
        rotate_left
        ·show Act.put _ (some 34) _ = _
         simp only [Act.put,sq_,i64_w,i32_w]
         rfl
        refine pQ 4 30 (bl_ 31 10) HT_ rfl ?_
        refine pQ 5 35 (bl_ 63 10) HT_ rfl ?_
        refine pQ 6 36 (bl_ 127 10) HT_ rfl ?_
        refine one_ (i := 7) (N := some 7) (bl_ 255 10) rfl rfl (one_of HT_.out (by kernel_rfl)) (by decide) (fun K hK => ?_)
        refine box_step ?hg (N := 7) ?hd (cs := #[.slice none 0 0,.slice none 0 0,.slice none 0 0,.slice none 0 0,.bool false]) (t := 120) ?hr ?_;(case hd => rfl);(case hg => rfl);(case hr => go_simp <;> rfl)
        intro d6 hg w50 hbox hb
        have n0_ := As_ (Kd.R_below (zR_ d0.out) hb)
        have n1_ := As_ (Kd.R_below (zR_ a2.out) hb)
        have n2_ := As_ (Kd.R_below (zR_ a5.out) hb)
        have n3_ := As_ (Kd.R_below (zR_ a3.out) hb)
        have n4_ := As_ (Kd.R_below (zR_ a4.out) hb)
        have n5_ := As_ (Kd.R_below (zR_ m5.out) hb)
        have n6_ := As_ (Kd.R_below (zR_ m6.out) hb)
        have n7_ := As_ (Kd.R_below (zR_ m7.out) hb)
        have n8_ := As_ (Kd.R_below (zR_ m8.out) hb)
        have n9_ := As_ (zkb a6.out hb)
        have n10_ := As_ (zkb b1.out hb)
        have n11_ := As_ (IsS113.below (zi113_2 HI0.out a7.out b3.out) hb)
        have n12_ := As_ (KeepBut.trans (zkp2 HK.out b4.out d5.out) (KeepBut.of_below hb g none) (.inl rfl))
        have n13_ := As_ (bwT (zb3 HB.out (IsS113.ge HI0.out) e4.out i2.out) hb)
        have n14_ := As_ (hbox)
        have n15_ := As_ ((by rw [hg];exact (keep_size (w := w) (g := g) (row := none) (zkp2 HK.out b4.out d5.out)) : w.heap.size ≤ d6))
        have n16_ := As_ ((Nat.le_trans HW0.out (by rw [hg];exact (keep_size (w := w) (g := g) (row := none) (zkp2 HK.out b4.out d5.out)) : w.heap.size ≤ d6) : w0.heap.size ≤ d6))
        have n17_ := As_ ((by rw [hg];exact Nat.ne_of_lt (zkl a6.out) : b7 ≠ d6))
        have n18_ := As_ ((by rw [hg];exact Nat.ne_of_gt (zkl a6.out) : d6 ≠ b7))
        have n19_ := As_ ((by rw [hg];exact Nat.ne_of_lt (zkl b1.out) : b9 ≠ d6))
        have n20_ := As_ ((by rw [hg];exact Nat.ne_of_gt (zkl b1.out) : d6 ≠ b9))
        have n21_ := As_ ((by rw [hg];exact Nat.ne_of_lt (IsS113.lt (show IsS113 w0 _ g s0_0 b8 from zi113_2 HI0.out a7.out b3.out)) : g ≠ d6))
        have n22_ := As_ ((by rw [hg];exact Nat.ne_of_gt (IsS113.lt (show IsS113 w0 _ g s0_0 b8 from zi113_2 HI0.out a7.out b3.out)) : d6 ≠ g))
        clear d0 a2 a5 a3 a4 m5 m6 m7 m8 a6 b1 HI0 HK HB
        revert n0_ n1_ n2_ n3_ n4_ n5_ n6_ n7_ n8_ n9_ n10_ n11_ n12_ n13_ n14_ n15_ n16_ n17_ n18_ n19_ n20_ n21_ n22_;intro d0 a2 a5 a3 a4 m5 m6 m7 m8 a6 b1 HI0 HK HB d4 i1 j7 e0 g6 e5 g7 i4 m9
        clear hb hbox hg
        refine hK.out _ _ ⟨(bkC a6.out 0).trans rfl,(bkC a6.out 1).trans rfl,(bkC a6.out 2).trans rfl,(bkC a6.out 3).trans rfl,(bkC a6.out 4).trans rfl,(bkC b1.out 0).trans rfl,(bkC b1.out 1).trans rfl⟩ (fun hHeld => ?_)
        clear hK K
        refine norm_ (a' := ?_) ?_ ?_
        rotate_left
        ·show Act.put _ (some 7) _ = _
         simp only [Act.put,sq_,i64_w,i32_w]
         rfl
        exact norm_ (by simp only [putAll,Act.put,List.setIfInBounds_toArray,List.set_cons_zero,List.set_cons_succ]) (hCont (.slice Ao45 j9.length co45,.slice Ao46 l4.length co46,.slice Ao47 l5.length co47,.slice Ao48 l6.length co48,v1152,v1155,v1158,v1161,d6) _ ⟨hHeld,(zR_ m5.out),(zR_ m6.out),(zR_ m7.out),(zR_ m8.out),(by exact Kd.R_mono a2.out (fun _ hk => ⟨hk.2.2.1,⟨hk.2.2.2.1,⟨hk.2.2.2.2,⟨hk.1,hk.2.1⟩⟩⟩⟩)),(zR_ a5.out),(by exact Kd.R_mono a3.out (fun _ hk => ⟨hk.2.2.1,⟨hk.2.2.2.1,⟨hk.2.2.2.2,⟨hk.1,hk.2.1⟩⟩⟩⟩)),(by exact Kd.R_mono a4.out (fun _ hk => ⟨hk.2.2.1,⟨hk.2.2.2.1,⟨hk.2.2.2.2,⟨hk.1,hk.2.1⟩⟩⟩⟩)),(zR_ d0.out),(zk_ a6.out),(zk_ b1.out),(zk_ d4.out),i1.out,j7.out,i4.out,m9.out,e0.out,g6.out,e5.out,g7.out,(zi113_3 HI0.out a7.out b3.out i4.out),(zkp3 HK.out b4.out d5.out i1.out),(zb4 HB.out (IsS113.ge HI0.out) e4.out i2.out j7.out)⟩)
       ·skip
        refine box_step ?hg (N := 7) ?hd (cs := #[.slice none 0 0,.slice none 0 0,.slice none 0 0,.slice none 0 0,.bool false]) (t := 120) ?hr ?_;(case hd => rfl);(case hg => rfl);(case hr => go_simp <;> rfl)
        intro d6 hg w45 hbox hb
        have n0_ := As_ (Kd.R_below (zR_ d0.out) hb)
        have n1_ := As_ (Kd.R_below (zR_ a2.out) hb)
        have n2_ := As_ (Kd.R_below (zR_ a5.out) hb)
        have n3_ := As_ (Kd.R_below (zR_ a3.out) hb)
        have n4_ := As_ (Kd.R_below (zR_ a4.out) hb)
        have n5_ := As_ (Kd.R_below (zR_ d1.out) hb)
        have n6_ := As_ (Kd.R_below (zR_ b2.out) hb)
        have n7_ := As_ (Kd.R_below (zR_ d2.out) hb)
        have n8_ := As_ (Kd.R_below (zR_ d3.out) hb)
        have n9_ := As_ (zkb a6.out hb)
        have n10_ := As_ (zkb b1.out hb)
        have n11_ := As_ (IsS113.below (zi113_2 HI0.out a7.out b3.out) hb)
        have n12_ := As_ (KeepBut.trans (zkp2 HK.out b4.out d5.out) (KeepBut.of_below hb g none) (.inl rfl))
        have n13_ := As_ (bwT (zb3 HB.out (IsS113.ge HI0.out) e4.out i2.out) hb)
        have n14_ := As_ (hbox)
        have n15_ := As_ ((by rw [hg];exact (keep_size (w := w) (g := g) (row := none) (zkp2 HK.out b4.out d5.out)) : w.heap.size ≤ d6))
        have n16_ := As_ ((Nat.le_trans HW0.out (by rw [hg];exact (keep_size (w := w) (g := g) (row := none) (zkp2 HK.out b4.out d5.out)) : w.heap.size ≤ d6) : w0.heap.size ≤ d6))
        have n17_ := As_ ((by rw [hg];exact Nat.ne_of_lt (zkl a6.out) : b7 ≠ d6))
        have n18_ := As_ ((by rw [hg];exact Nat.ne_of_gt (zkl a6.out) : d6 ≠ b7))
        have n19_ := As_ ((by rw [hg];exact Nat.ne_of_lt (zkl b1.out) : b9 ≠ d6))
        have n20_ := As_ ((by rw [hg];exact Nat.ne_of_gt (zkl b1.out) : d6 ≠ b9))
        have n21_ := As_ ((by rw [hg];exact Nat.ne_of_lt (IsS113.lt (show IsS113 w0 _ g s0_0 b8 from zi113_2 HI0.out a7.out b3.out)) : g ≠ d6))
        have n22_ := As_ ((by rw [hg];exact Nat.ne_of_gt (IsS113.lt (show IsS113 w0 _ g s0_0 b8 from zi113_2 HI0.out a7.out b3.out)) : d6 ≠ g))
        clear d0 a2 a5 a3 a4 d1 b2 d2 d3 a6 b1 HI0 HK HB
        revert n0_ n1_ n2_ n3_ n4_ n5_ n6_ n7_ n8_ n9_ n10_ n11_ n12_ n13_ n14_ n15_ n16_ n17_ n18_ n19_ n20_ n21_ n22_;intro d0 a2 a5 a3 a4 d1 b2 d2 d3 a6 b1 HI0 HK HB d4 i1 j7 e0 g6 e5 g7 i4 m9
        clear hb hbox hg
        obtain ⟨Ao46,co46,eo46⟩ := Kd.R_slice d1.out
        (first|subst eo46|(injection eo46 with f1_ f2_ f3_;have f4_ := f1_.symm;have f5_ := f3_.symm;clear f1_ f2_ f3_;subst f4_;subst f5_))
        obtain ⟨Ao47,co47,eo47⟩ := Kd.R_slice b2.out
        (first|subst eo47|(injection eo47 with f1_ f2_ f3_;have f4_ := f1_.symm;have f5_ := f3_.symm;clear f1_ f2_ f3_;subst f4_;subst f5_))
        obtain ⟨Ao48,co48,eo48⟩ := Kd.R_slice d2.out
        (first|subst eo48|(injection eo48 with f1_ f2_ f3_;have f4_ := f1_.symm;have f5_ := f3_.symm;clear f1_ f2_ f3_;subst f4_;subst f5_))
        obtain ⟨Ao49,co49,eo49⟩ := Kd.R_slice d3.out
        (first|subst eo49|(injection eo49 with f1_ f2_ f3_;have f4_ := f1_.symm;have f5_ := f3_.symm;clear f1_ f2_ f3_;subst f4_;subst f5_))
        refine hK.out _ _ ⟨(bkC a6.out 0).trans rfl,(bkC a6.out 1).trans rfl,(bkC a6.out 2).trans rfl,(bkC a6.out 3).trans rfl,(bkC a6.out 4).trans rfl,(bkC b1.out 0).trans rfl,(bkC b1.out 1).trans rfl⟩ (fun hHeld => ?_)
        clear hK K
        refine norm_ (a' := ?_) ?_ ?_
        rotate_left
        ·show Act.put _ (some 7) _ = _
         simp only [Act.put,sq_,i64_w,i32_w]
         rfl
        refine one_ (i := 3) (N := some 34) (bl_ 143 10) rfl rfl (one_of HT_.out (by kernel_rfl)) (by decide) (fun K hK => ?_)
        refine goes_ Try.func107 (by kernel_rfl) rfl #[.agg #[.slice Ao46 j9.length co46,.slice Ao47 l4.length co47,.slice Ao48 l5.length co48,.slice Ao49 l6.length co49,.bool n8],.agg #[.int .i64 e1,.int .i64 e2]] (by rfl) rfl rfl zM_ ?_
        with_reducible refine (spec_stepShapes.calls kj19 (fun k_ => some k_ = (.slice Ao46 j9.length co46 : Value).ownBlock) (.slice Ao46 j9.length co46) j9 (fun k_ => some k_ = (.slice Ao47 l4.length co47 : Value).ownBlock) (.slice Ao47 l4.length co47) l4 (fun k_ => some k_ = (.slice Ao48 l5.length co48 : Value).ownBlock) (.slice Ao48 l5.length co48) l5 (fun k_ => some k_ = (.slice Ao49 l6.length co49 : Value).ownBlock) (.slice Ao49 l6.length co49) l6 n8 e1 e2 o9 p0 p1 p2 p3 n7 w0 _ ?side1 ?side2 ?side3 ?side4 ?side5 ?side6 ?side7 ?side8 ?side9 ?side10 ?side11 A37.out).mono ?_
        (case side1 => exact zb4 HB.out (IsS113.ge HI0.out) e4.out i2.out j7.out)
        (case side2 => exact Kd.R_lower (Kd.R_tight rfl d1.out) HL.out)
        (case side3 => exact fun k_ e_ => (d1.out.1 k_ e_.symm).1.1.1.1)
        (case side4 => exact fun k_ e_ => (d1.out.1 k_ e_.symm).1.1.1.2)
        (case side5 => exact Kd.R_lower (Kd.R_tight rfl b2.out) HL.out)
        (case side6 => exact Kd.R_lower (Kd.R_tight rfl d2.out) HL.out)
        (case side7 => exact fun k_ e_ => (d2.out.1 k_ e_.symm).1.1.1.1)
        (case side8 => exact fun k_ e_ => (d2.out.1 k_ e_.symm).1.1.1.2)
        (case side9 => exact Kd.R_lower (Kd.R_tight rfl d3.out) HL.out)
        (case side10 => exact fun k_ e_ => (d3.out.1 k_ e_.symm).1.1.1.1)
        (case side11 => exact fun k_ e_ => (d3.out.1 k_ e_.symm).1.1.1.2)
        rintro e w50 ⟨v1152,v1155,v1158,v1161,rfl,ho0,ho1,ho2,ho3,hb,hkp⟩
        refine ⟨_,rfl,?_⟩
        have n0_ := As_ (Kd.R_mono (ok' := fun k_ => k_ ≠ b9) (Kd.R_keptB ((Kd.R_apart' (rA (rA (rA d0.out d1.out) b2.out) d2.out) (Kd.R_typed d3.out) (by decide))) hkp (fun _ hk_ => no4 ⟨hk_.1.1.1.2,hk_.1.1.2,hk_.1.2,hk_.2⟩)) (fun k_ hk_ => hk_.1.1.1.1.1))
        have n1_ := As_ (Kd.R_mono (ok' := fun k_ => some k_ ≠ (.slice Ao41 a9.length co41 : Value).ownBlock ∧ some k_ ≠ (.slice Ao42 b0.length co42 : Value).ownBlock ∧ some k_ ≠ (v1152 : Value).ownBlock ∧ some k_ ≠ (v1158 : Value).ownBlock ∧ some k_ ≠ (v1161 : Value).ownBlock) (Kd.R_keptB (rA a2.out b2.out) hkp (fun _ hk_ => no4 ⟨hk_.1.1.1.2,hk_.2,hk_.1.1.2,hk_.1.2⟩)) (fun k_ hk_ => ⟨hk_.1.1.1.1.1.1,hk_.1.1.1.1.1.2,nl (ho0.1 k_) hk_.2,nl (ho2.1 k_) hk_.2,nl (ho3.1 k_) hk_.2⟩))
        have n2_ := As_ (Kd.R_mono (ok' := fun k_ => some k_ ≠ (v1155 : Value).ownBlock) (Kd.R_keptB (rA (rA (rA a5.out d1.out) d2.out) d3.out) hkp (fun _ hk_ => no4 ⟨hk_.1.1.2,hk_.1.1.1.2,hk_.1.2,hk_.2⟩)) (fun k_ hk_ => nl' (ho1.1 k_) hk_.2))
        have n3_ := As_ (Kd.R_mono (ok' := fun k_ => some k_ ≠ (.slice Ao39 a8.length co39 : Value).ownBlock ∧ some k_ ≠ (.slice Ao42 b0.length co42 : Value).ownBlock ∧ some k_ ≠ (v1152 : Value).ownBlock ∧ some k_ ≠ (v1158 : Value).ownBlock ∧ some k_ ≠ (v1161 : Value).ownBlock) (Kd.R_keptB (rA a3.out b2.out) hkp (fun _ hk_ => no4 ⟨hk_.1.1.1.2,hk_.2,hk_.1.1.2,hk_.1.2⟩)) (fun k_ hk_ => ⟨hk_.1.1.1.1.1.1,hk_.1.1.1.1.1.2,nl (ho0.1 k_) hk_.2,nl (ho2.1 k_) hk_.2,nl (ho3.1 k_) hk_.2⟩))
        have n4_ := As_ (Kd.R_mono (ok' := fun k_ => some k_ ≠ (.slice Ao39 a8.length co39 : Value).ownBlock ∧ some k_ ≠ (.slice Ao41 a9.length co41 : Value).ownBlock ∧ some k_ ≠ (v1152 : Value).ownBlock ∧ some k_ ≠ (v1158 : Value).ownBlock ∧ some k_ ≠ (v1161 : Value).ownBlock) (Kd.R_keptB (rA a4.out b2.out) hkp (fun _ hk_ => no4 ⟨hk_.1.1.1.2,hk_.2,hk_.1.1.2,hk_.1.2⟩)) (fun k_ hk_ => ⟨hk_.1.1.1.1.1.1,hk_.1.1.1.1.1.2,nl (ho0.1 k_) hk_.2,nl (ho2.1 k_) hk_.2,nl (ho3.1 k_) hk_.2⟩))
        have n5_ := As_ (blk_kept (zk_ a6.out) hkp (no4 ⟨rne d1.out a6.out,rne b2.out a6.out,rne d2.out a6.out,rne d3.out a6.out⟩))
        have n6_ := As_ (blk_kept (zk_ b1.out) hkp (no4 ⟨rne d1.out b1.out,rne b2.out b1.out,rne d2.out b1.out,rne d3.out b1.out⟩))
        have n7_ := As_ (IsS113.kept (zi113_3 HI0.out a7.out b3.out i4.out) hkp (or4 (fun e_ => (fun e_ => (IsS113.own_ne HI0.out d1.out (by decide)) e_) e_) (fun e_ => (fun e_ => (IsS113.own_ne HI0.out b2.out (by decide)) e_) e_) (fun e_ => (fun e_ => (IsS113.own_ne HI0.out d2.out (by decide)) e_) e_) (fun e_ => (fun e_ => (IsS113.own_ne HI0.out d3.out (by decide)) e_) e_)))
        have n8_ := As_ (blk_kept (zk_ d4.out) hkp (no4 ⟨rne d1.out d4.out,rne b2.out d4.out,rne d2.out d4.out,rne d3.out d4.out⟩))
        have n9_ := As_ (Kd.R_mono (ok' := fun k_ => some k_ ≠ (v1158 : Value).ownBlock ∧ some k_ ≠ (v1161 : Value).ownBlock ∧ some k_ ≠ (.slice Ao39 a8.length co39 : Value).ownBlock ∧ some k_ ≠ (.slice Ao41 a9.length co41 : Value).ownBlock ∧ some k_ ≠ (.slice Ao42 b0.length co42 : Value).ownBlock) (Kd.R_raise (d := (Kd.int .i64)) (b := w0.heap.size) (b' := w.heap.size) (fun _ _ _ _ h_ => h_) ho0 (fun k_ e_ => Or.elim (ho0.1 k_ e_).1 (or4 (fun e_ => (fun e_ => Kd.R_base d1.out k_ e_.symm) e_) (fun e_ => (fun e_ => Kd.R_base b2.out k_ e_.symm) e_) (fun e_ => (fun e_ => Kd.R_base d2.out k_ e_.symm) e_) (fun e_ => (fun e_ => Kd.R_base d3.out k_ e_.symm) e_)) (fun hn_ => Nat.le_trans (keep_size (w := w) (g := g) (row := none) (zkp3 HK.out b4.out d5.out i1.out)) hn_))) (fun k_ hk_ => ⟨hk_.2.1,hk_.2.2,aw4 (rA a2.out b2.out).1 (Kd.R_lt (zR_ a2.out)) (fun _ h => ⟨h.1.1.1.2,h.2,h.1.1.2,h.1.2⟩) hk_.1,aw4 (rA a3.out b2.out).1 (Kd.R_lt (zR_ a3.out)) (fun _ h => ⟨h.1.1.1.2,h.2,h.1.1.2,h.1.2⟩) hk_.1,aw4 (rA a4.out b2.out).1 (Kd.R_lt (zR_ a4.out)) (fun _ h => ⟨h.1.1.1.2,h.2,h.1.1.2,h.1.2⟩) hk_.1⟩))
        have n10_ := As_ (Kd.R_mono (ok' := fun k_ => some k_ ≠ (.slice Ao40 b5.length co40 : Value).ownBlock) (Kd.R_raise (d := Kd.bool) (b := w0.heap.size) (b' := w.heap.size) (fun _ _ _ _ h_ => h_) ho1 (fun k_ e_ => Or.elim (ho1.1 k_ e_) (or4 (fun e_ => (fun e_ => Kd.R_base d1.out k_ e_.symm) e_) (fun e_ => (fun e_ => Kd.R_base b2.out k_ e_.symm) e_) (fun e_ => (fun e_ => Kd.R_base d2.out k_ e_.symm) e_) (fun e_ => (fun e_ => Kd.R_base d3.out k_ e_.symm) e_)) (fun hn_ => Nat.le_trans (keep_size (w := w) (g := g) (row := none) (zkp3 HK.out b4.out d5.out i1.out)) hn_))) (fun k_ hk_ => aw4 (rA (rA (rA a5.out d1.out) d2.out) d3.out).1 (Kd.R_lt (zR_ a5.out)) (fun _ h => ⟨h.1.1.2,h.1.1.1.2,h.1.2,h.2⟩) hk_))
        have n11_ := As_ (Kd.R_mono (ok' := fun k_ => some k_ ≠ (v1152 : Value).ownBlock ∧ some k_ ≠ (v1161 : Value).ownBlock ∧ some k_ ≠ (.slice Ao39 a8.length co39 : Value).ownBlock ∧ some k_ ≠ (.slice Ao41 a9.length co41 : Value).ownBlock ∧ some k_ ≠ (.slice Ao42 b0.length co42 : Value).ownBlock) (Kd.R_raise (d := (Kd.int .i64)) (b := w0.heap.size) (b' := w.heap.size) (fun _ _ _ _ h_ => h_) ho2 (fun k_ e_ => Or.elim (ho2.1 k_ e_).1 (or4 (fun e_ => (fun e_ => Kd.R_base d1.out k_ e_.symm) e_) (fun e_ => (fun e_ => Kd.R_base b2.out k_ e_.symm) e_) (fun e_ => (fun e_ => Kd.R_base d2.out k_ e_.symm) e_) (fun e_ => (fun e_ => Kd.R_base d3.out k_ e_.symm) e_)) (fun hn_ => Nat.le_trans (keep_size (w := w) (g := g) (row := none) (zkp3 HK.out b4.out d5.out i1.out)) hn_))) (fun k_ hk_ => ⟨hk_.2.1,hk_.2.2,aw4 (rA a2.out b2.out).1 (Kd.R_lt (zR_ a2.out)) (fun _ h => ⟨h.1.1.1.2,h.2,h.1.1.2,h.1.2⟩) hk_.1,aw4 (rA a3.out b2.out).1 (Kd.R_lt (zR_ a3.out)) (fun _ h => ⟨h.1.1.1.2,h.2,h.1.1.2,h.1.2⟩) hk_.1,aw4 (rA a4.out b2.out).1 (Kd.R_lt (zR_ a4.out)) (fun _ h => ⟨h.1.1.1.2,h.2,h.1.1.2,h.1.2⟩) hk_.1⟩))
        have n12_ := As_ (Kd.R_mono (ok' := fun k_ => some k_ ≠ (v1152 : Value).ownBlock ∧ some k_ ≠ (v1158 : Value).ownBlock ∧ some k_ ≠ (.slice Ao39 a8.length co39 : Value).ownBlock ∧ some k_ ≠ (.slice Ao41 a9.length co41 : Value).ownBlock ∧ some k_ ≠ (.slice Ao42 b0.length co42 : Value).ownBlock) (Kd.R_raise (d := (Kd.int .i64)) (b := w0.heap.size) (b' := w.heap.size) (fun _ _ _ _ h_ => h_) ho3 (fun k_ e_ => Or.elim (ho3.1 k_ e_).1 (or4 (fun e_ => (fun e_ => Kd.R_base d1.out k_ e_.symm) e_) (fun e_ => (fun e_ => Kd.R_base b2.out k_ e_.symm) e_) (fun e_ => (fun e_ => Kd.R_base d2.out k_ e_.symm) e_) (fun e_ => (fun e_ => Kd.R_base d3.out k_ e_.symm) e_)) (fun hn_ => Nat.le_trans (keep_size (w := w) (g := g) (row := none) (zkp3 HK.out b4.out d5.out i1.out)) hn_))) (fun k_ hk_ => ⟨hk_.2.1,hk_.2.2,aw4 (rA a2.out b2.out).1 (Kd.R_lt (zR_ a2.out)) (fun _ h => ⟨h.1.1.1.2,h.2,h.1.1.2,h.1.2⟩) hk_.1,aw4 (rA a3.out b2.out).1 (Kd.R_lt (zR_ a3.out)) (fun _ h => ⟨h.1.1.1.2,h.2,h.1.1.2,h.1.2⟩) hk_.1,aw4 (rA a4.out b2.out).1 (Kd.R_lt (zR_ a4.out)) (fun _ h => ⟨h.1.1.1.2,h.2,h.1.1.2,h.1.2⟩) hk_.1⟩))
        have n13_ := As_ (Kept.keepG (zkp3 HK.out b4.out d5.out i1.out) hkp (fun k_ hs_ => Or.elim hs_ (fun e_ => (fun e_ => .inr (Kd.R_base d1.out k_ e_.symm)) e_) (fun e_ => Or.elim e_ (fun e_ => (fun e_ => .inr (Kd.R_base b2.out k_ e_.symm)) e_) (fun e_ => Or.elim e_ (fun e_ => (fun e_ => .inr (Kd.R_base d2.out k_ e_.symm)) e_) (fun e_ => (fun e_ => .inr (Kd.R_base d3.out k_ e_.symm)) e_)))))
        have n14_ := As_ (hb)
        clear d0 a2 a5 a3 a4 a6 b1 HI0 d4 HK HB d1 b2 d2 d3
        revert n0_ n1_ n2_ n3_ n4_ n5_ n6_ n7_ n8_ n9_ n10_ n11_ n12_ n13_ n14_;intro d0 a2 a5 a3 a4 a6 b1 HI0 d4 m5 m6 m7 m8 HK HB
        refine hK.out _ _ ⟨(bkC a6.out 0).trans rfl,(bkC a6.out 1).trans rfl,(bkC a6.out 2).trans rfl,(bkC a6.out 3).trans rfl,(bkC a6.out 4).trans rfl,(bkC b1.out 0).trans rfl,(bkC b1.out 1).trans rfl⟩ (fun hHeld => ?_)
        clear hK K
        refine norm_ (a' := ?_) ?_ ?_
        rotate_left
        ·show Act.put _ (some 34) _ = _
         simp only [Act.put,sq_,i64_w,i32_w]
         rfl
        refine pQ 4 30 (bl_ 159 10) HT_ rfl ?_
        refine pQ 5 35 (bl_ 191 10) HT_ rfl ?_
        refine pQ 6 36 (bl_ 255 10) HT_ rfl ?_
        exact norm_ (by simp only [putAll,Act.put,List.setIfInBounds_toArray,List.set_cons_zero,List.set_cons_succ]) (hCont (.slice Ao46 j9.length co46,.slice Ao47 l4.length co47,.slice Ao48 l5.length co48,.slice Ao49 l6.length co49,v1152,v1155,v1158,v1161,d6) _ ⟨hHeld,(zR_ m5.out),(zR_ m6.out),(zR_ m7.out),(zR_ m8.out),(by exact Kd.R_mono a2.out (fun _ hk => ⟨hk.2.2.1,⟨hk.2.2.2.1,⟨hk.2.2.2.2,⟨hk.1,hk.2.1⟩⟩⟩⟩)),(zR_ a5.out),(by exact Kd.R_mono a3.out (fun _ hk => ⟨hk.2.2.1,⟨hk.2.2.2.1,⟨hk.2.2.2.2,⟨hk.1,hk.2.1⟩⟩⟩⟩)),(by exact Kd.R_mono a4.out (fun _ hk => ⟨hk.2.2.1,⟨hk.2.2.2.1,⟨hk.2.2.2.2,⟨hk.1,hk.2.1⟩⟩⟩⟩)),(zR_ d0.out),(zk_ a6.out),(zk_ b1.out),(zk_ d4.out),i1.out,j7.out,i4.out,m9.out,e0.out,g6.out,e5.out,g7.out,(zi113_3 HI0.out a7.out b3.out i4.out),(zkp3 HK.out b4.out d5.out i1.out),(zb4 HB.out (IsS113.ge HI0.out) e4.out i2.out j7.out)⟩)
      ·skip
       refine box_step ?hg (N := 7) ?hd (cs := #[.slice none 0 0,.slice none 0 0,.slice none 0 0,.slice none 0 0,.bool false]) (t := 120) ?hr ?_;(case hd => rfl);(case hg => rfl);(case hr => go_simp <;> rfl)
       intro d6 hg w44 hbox hb
       have n0_ := As_ (Kd.R_below (zR_ d0.out) hb)
       have n1_ := As_ (Kd.R_below (zR_ a2.out) hb)
       have n2_ := As_ (Kd.R_below (zR_ a5.out) hb)
       have n3_ := As_ (Kd.R_below (zR_ a3.out) hb)
       have n4_ := As_ (Kd.R_below (zR_ a4.out) hb)
       have n5_ := As_ (zkb a6.out hb)
       have n6_ := As_ (zkb b1.out hb)
       have n7_ := As_ (IsS113.below (zi113_2 HI0.out a7.out b3.out) hb)
       have n8_ := As_ (KeepBut.trans (zkp2 HK.out b4.out d5.out) (KeepBut.of_below hb g none) (.inl rfl))
       have n9_ := As_ (bwT (zb3 HB.out (IsS113.ge HI0.out) e4.out i2.out) hb)
       have n10_ := As_ (hbox)
       have n11_ := As_ ((by rw [hg];exact (keep_size (w := w) (g := g) (row := none) (zkp2 HK.out b4.out d5.out)) : w.heap.size ≤ d6))
       have n12_ := As_ ((Nat.le_trans HW0.out (by rw [hg];exact (keep_size (w := w) (g := g) (row := none) (zkp2 HK.out b4.out d5.out)) : w.heap.size ≤ d6) : w0.heap.size ≤ d6))
       have n13_ := As_ ((by rw [hg];exact Nat.ne_of_lt (zkl a6.out) : b7 ≠ d6))
       have n14_ := As_ ((by rw [hg];exact Nat.ne_of_gt (zkl a6.out) : d6 ≠ b7))
       have n15_ := As_ ((by rw [hg];exact Nat.ne_of_lt (zkl b1.out) : b9 ≠ d6))
       have n16_ := As_ ((by rw [hg];exact Nat.ne_of_gt (zkl b1.out) : d6 ≠ b9))
       have n17_ := As_ ((by rw [hg];exact Nat.ne_of_lt (IsS113.lt (show IsS113 w0 _ g s0_0 b8 from zi113_2 HI0.out a7.out b3.out)) : g ≠ d6))
       have n18_ := As_ ((by rw [hg];exact Nat.ne_of_gt (IsS113.lt (show IsS113 w0 _ g s0_0 b8 from zi113_2 HI0.out a7.out b3.out)) : d6 ≠ g))
       clear d0 a2 a5 a3 a4 a6 b1 HI0 HK HB
       revert n0_ n1_ n2_ n3_ n4_ n5_ n6_ n7_ n8_ n9_ n10_ n11_ n12_ n13_ n14_ n15_ n16_ n17_ n18_;intro d0 a2 a5 a3 a4 a6 b1 HI0 HK HB d4 i1 j7 e0 g6 e5 g7 i4 m9
       clear hb hbox hg
       refine hK.out _ _ ⟨(bkC a6.out 0).trans rfl,(bkC a6.out 1).trans rfl,(bkC a6.out 2).trans rfl,(bkC a6.out 3).trans rfl,(bkC a6.out 4).trans rfl,(bkC b1.out 0).trans rfl,(bkC b1.out 1).trans rfl⟩ (fun hHeld => ?_)
       clear hK K
       refine norm_ (a' := ?_) ?_ ?_
       rotate_left
       ·show Act.put _ (some 7) _ = _
        simp only [Act.put,sq_,i64_w,i32_w]
        rfl
       refine one_ (i := 1) (N := some 32) (bl_ 135 10) rfl rfl (one_of HT_.out (by kernel_rfl)) (by decide) (fun K hK => ?_)
       refine goes_ Try.func108 (by kernel_rfl) rfl #[.agg #[.slice Ao39 a8.length co39,.slice Ao40 b5.length co40,.slice Ao41 a9.length co41,.slice Ao42 b0.length co42,.bool b6]] (by rfl) rfl rfl zM_ ?_
       with_reducible refine (spec_copyShapes.calls _ _ a8 _ _ b5 _ _ a9 _ _ b0 b6 j9 l4 l5 l6 n8 _ ?side1 ?side2 ?side3 ?side4 ?side5 ?side6 ?side7 ?side8 A36.out).mono ?_
       (case side1 => exact zC_ (Kd.R_reads' a2.out).2.2)
       (case side2 => exact (Kd.R_reads' a2.out).2.1)
       (case side3 => exact zC_ (Kd.R_reads' a5.out).2.2)
       (case side4 => exact (Kd.R_reads' a5.out).2.1)
       (case side5 => exact zC_ (Kd.R_reads' a3.out).2.2)
       (case side6 => exact (Kd.R_reads' a3.out).2.1)
       (case side7 => exact zC_ (Kd.R_reads' a4.out).2.2)
       (case side8 => exact (Kd.R_reads' a4.out).2.1)
       rintro e w45 ⟨v1139,v1142,v1145,v1148,rfl,ho0,ho1,ho2,ho3,hb⟩
       refine ⟨_,rfl,?_⟩
       have n0_ := As_ (Kd.R_below (zR_ d0.out) hb)
       have n1_ := As_ (Kd.R_mono (Kd.R_told (Kd.R_told (Kd.R_told (Kd.R_old (zR_ a2.out) hb) (Kd.R_base ho0)) (Kd.R_base ho2)) (Kd.R_base ho3)) (fun _ h_ => h_.1))
       have n2_ := As_ (Kd.R_elder' (zR_ a5.out) (Kd.R_base ho1) hb)
       have n3_ := As_ (Kd.R_mono (Kd.R_told (Kd.R_told (Kd.R_told (Kd.R_old (zR_ a3.out) hb) (Kd.R_base ho0)) (Kd.R_base ho2)) (Kd.R_base ho3)) (fun _ h_ => h_.1))
       have n4_ := As_ (Kd.R_mono (Kd.R_told (Kd.R_told (Kd.R_told (Kd.R_old (zR_ a4.out) hb) (Kd.R_base ho0)) (Kd.R_base ho2)) (Kd.R_base ho3)) (fun _ h_ => h_.1))
       have n5_ := As_ (Kd.R_lower (Kd.R_new' (Kd.R_new' (Kd.R_new' ho0 (Kd.R_lt (zR_ a2.out))) (Kd.R_lt (zR_ a3.out))) (Kd.R_lt (zR_ a4.out))) (keep_size (w := w) (g := g) (row := none) (zkp3 HK.out b4.out d5.out i1.out)))
       have n6_ := As_ (Kd.R_lower (Kd.R_new' ho1 (Kd.R_lt (zR_ a5.out))) (keep_size (w := w) (g := g) (row := none) (zkp3 HK.out b4.out d5.out i1.out)))
       have n7_ := As_ (Kd.R_lower (Kd.R_new' (Kd.R_new' (Kd.R_new' ho2 (Kd.R_lt (zR_ a2.out))) (Kd.R_lt (zR_ a3.out))) (Kd.R_lt (zR_ a4.out))) (keep_size (w := w) (g := g) (row := none) (zkp3 HK.out b4.out d5.out i1.out)))
       have n8_ := As_ (Kd.R_lower (Kd.R_new' (Kd.R_new' (Kd.R_new' ho3 (Kd.R_lt (zR_ a2.out))) (Kd.R_lt (zR_ a3.out))) (Kd.R_lt (zR_ a4.out))) (keep_size (w := w) (g := g) (row := none) (zkp3 HK.out b4.out d5.out i1.out)))
       have n9_ := As_ (zkb a6.out hb)
       have n10_ := As_ (zkb b1.out hb)
       have n11_ := As_ (IsS113.below (zi113_3 HI0.out a7.out b3.out i4.out) hb)
       have n12_ := As_ (zkb d4.out hb)
       have n13_ := As_ (KeepBut.trans (zkp3 HK.out b4.out d5.out i1.out) (KeepBut.of_below hb g none) (.inl rfl))
       have n14_ := As_ (bwT (zb4 HB.out (IsS113.ge HI0.out) e4.out i2.out j7.out) hb)
       clear d0 a2 a5 a3 a4 a6 b1 HI0 d4 HK HB
       revert n0_ n1_ n2_ n3_ n4_ n5_ n6_ n7_ n8_ n9_ n10_ n11_ n12_ n13_ n14_;intro d0 a2 a5 a3 a4 d1 b2 d2 d3 a6 b1 HI0 d4 HK HB
       obtain ⟨Ao46,co46,eo46⟩ := Kd.R_slice d1.out
       (first|subst eo46|(injection eo46 with f1_ f2_ f3_;have f4_ := f1_.symm;have f5_ := f3_.symm;clear f1_ f2_ f3_;subst f4_;subst f5_))
       obtain ⟨Ao47,co47,eo47⟩ := Kd.R_slice b2.out
       (first|subst eo47|(injection eo47 with f1_ f2_ f3_;have f4_ := f1_.symm;have f5_ := f3_.symm;clear f1_ f2_ f3_;subst f4_;subst f5_))
       obtain ⟨Ao48,co48,eo48⟩ := Kd.R_slice d2.out
       (first|subst eo48|(injection eo48 with f1_ f2_ f3_;have f4_ := f1_.symm;have f5_ := f3_.symm;clear f1_ f2_ f3_;subst f4_;subst f5_))
       obtain ⟨Ao49,co49,eo49⟩ := Kd.R_slice d3.out
       (first|subst eo49|(injection eo49 with f1_ f2_ f3_;have f4_ := f1_.symm;have f5_ := f3_.symm;clear f1_ f2_ f3_;subst f4_;subst f5_))
       refine hK.out _ _ ⟨(bkC a6.out 0).trans rfl,(bkC a6.out 1).trans rfl,(bkC a6.out 2).trans rfl,(bkC a6.out 3).trans rfl,(bkC a6.out 4).trans rfl,(bkC b1.out 0).trans rfl,(bkC b1.out 1).trans rfl⟩ (fun hHeld => ?_)
       clear hK K
       refine norm_ (a' := ?_) ?_ ?_
       rotate_left
       ·show Act.put _ (some 32) _ = _
        simp only [Act.put,sq_,i64_w,i32_w]
        rfl
       refine one_ (i := 3) (N := some 34) (bl_ 143 10) rfl rfl (one_of HT_.out (by kernel_rfl)) (by decide) (fun K hK => ?_)
       refine goes_ Try.func107 (by kernel_rfl) rfl #[.agg #[.slice Ao46 j9.length co46,.slice Ao47 l4.length co47,.slice Ao48 l5.length co48,.slice Ao49 l6.length co49,.bool n8],.agg #[.int .i64 e1,.int .i64 e2]] (by rfl) rfl rfl zM_ ?_
       with_reducible refine (spec_stepShapes.calls kj19 (fun k_ => some k_ = (.slice Ao46 j9.length co46 : Value).ownBlock) (.slice Ao46 j9.length co46) j9 (fun k_ => some k_ = (.slice Ao47 l4.length co47 : Value).ownBlock) (.slice Ao47 l4.length co47) l4 (fun k_ => some k_ = (.slice Ao48 l5.length co48 : Value).ownBlock) (.slice Ao48 l5.length co48) l5 (fun k_ => some k_ = (.slice Ao49 l6.length co49 : Value).ownBlock) (.slice Ao49 l6.length co49) l6 n8 e1 e2 o9 p0 p1 p2 p3 n7 w0 _ ?side1 ?side2 ?side3 ?side4 ?side5 ?side6 ?side7 ?side8 ?side9 ?side10 ?side11 A37.out).mono ?_
       (case side1 => exact zb4 HB.out (IsS113.ge HI0.out) e4.out i2.out j7.out)
       (case side2 => exact Kd.R_lower (Kd.R_tight rfl d1.out) HL.out)
       (case side3 => exact fun k_ e_ => (d1.out.1 k_ e_.symm).1.1.1.1)
       (case side4 => exact fun k_ e_ => (d1.out.1 k_ e_.symm).1.1.1.2)
       (case side5 => exact Kd.R_lower (Kd.R_tight rfl b2.out) HL.out)
       (case side6 => exact Kd.R_lower (Kd.R_tight rfl d2.out) HL.out)
       (case side7 => exact fun k_ e_ => (d2.out.1 k_ e_.symm).1.1.1.1)
       (case side8 => exact fun k_ e_ => (d2.out.1 k_ e_.symm).1.1.1.2)
       (case side9 => exact Kd.R_lower (Kd.R_tight rfl d3.out) HL.out)
       (case side10 => exact fun k_ e_ => (d3.out.1 k_ e_.symm).1.1.1.1)
       (case side11 => exact fun k_ e_ => (d3.out.1 k_ e_.symm).1.1.1.2)
       rintro e w50 ⟨v1152,v1155,v1158,v1161,rfl,ho0,ho1,ho2,ho3,hb,hkp⟩
       refine ⟨_,rfl,?_⟩
       have n0_ := As_ (Kd.R_mono (ok' := fun k_ => k_ ≠ b9) (Kd.R_keptB ((Kd.R_apart' (rA (rA (rA d0.out d1.out) b2.out) d2.out) (Kd.R_typed d3.out) (by decide))) hkp (fun _ hk_ => no4 ⟨hk_.1.1.1.2,hk_.1.1.2,hk_.1.2,hk_.2⟩)) (fun k_ hk_ => hk_.1.1.1.1.1))
       have n1_ := As_ (Kd.R_mono (ok' := fun k_ => some k_ ≠ (.slice Ao41 a9.length co41 : Value).ownBlock ∧ some k_ ≠ (.slice Ao42 b0.length co42 : Value).ownBlock ∧ some k_ ≠ (v1152 : Value).ownBlock ∧ some k_ ≠ (v1158 : Value).ownBlock ∧ some k_ ≠ (v1161 : Value).ownBlock) (Kd.R_keptB (rA a2.out b2.out) hkp (fun _ hk_ => no4 ⟨hk_.1.1.1.2,hk_.2,hk_.1.1.2,hk_.1.2⟩)) (fun k_ hk_ => ⟨hk_.1.1.1.1.1.1,hk_.1.1.1.1.1.2,nl (ho0.1 k_) hk_.2,nl (ho2.1 k_) hk_.2,nl (ho3.1 k_) hk_.2⟩))
       have n2_ := As_ (Kd.R_mono (ok' := fun k_ => some k_ ≠ (v1155 : Value).ownBlock) (Kd.R_keptB (rA (rA (rA a5.out d1.out) d2.out) d3.out) hkp (fun _ hk_ => no4 ⟨hk_.1.1.2,hk_.1.1.1.2,hk_.1.2,hk_.2⟩)) (fun k_ hk_ => nl' (ho1.1 k_) hk_.2))
       have n3_ := As_ (Kd.R_mono (ok' := fun k_ => some k_ ≠ (.slice Ao39 a8.length co39 : Value).ownBlock ∧ some k_ ≠ (.slice Ao42 b0.length co42 : Value).ownBlock ∧ some k_ ≠ (v1152 : Value).ownBlock ∧ some k_ ≠ (v1158 : Value).ownBlock ∧ some k_ ≠ (v1161 : Value).ownBlock) (Kd.R_keptB (rA a3.out b2.out) hkp (fun _ hk_ => no4 ⟨hk_.1.1.1.2,hk_.2,hk_.1.1.2,hk_.1.2⟩)) (fun k_ hk_ => ⟨hk_.1.1.1.1.1.1,hk_.1.1.1.1.1.2,nl (ho0.1 k_) hk_.2,nl (ho2.1 k_) hk_.2,nl (ho3.1 k_) hk_.2⟩))
       have n4_ := As_ (Kd.R_mono (ok' := fun k_ => some k_ ≠ (.slice Ao39 a8.length co39 : Value).ownBlock ∧ some k_ ≠ (.slice Ao41 a9.length co41 : Value).ownBlock ∧ some k_ ≠ (v1152 : Value).ownBlock ∧ some k_ ≠ (v1158 : Value).ownBlock ∧ some k_ ≠ (v1161 : Value).ownBlock) (Kd.R_keptB (rA a4.out b2.out) hkp (fun _ hk_ => no4 ⟨hk_.1.1.1.2,hk_.2,hk_.1.1.2,hk_.1.2⟩)) (fun k_ hk_ => ⟨hk_.1.1.1.1.1.1,hk_.1.1.1.1.1.2,nl (ho0.1 k_) hk_.2,nl (ho2.1 k_) hk_.2,nl (ho3.1 k_) hk_.2⟩))
       have n5_ := As_ (blk_kept (zk_ a6.out) hkp (no4 ⟨rne d1.out a6.out,rne b2.out a6.out,rne d2.out a6.out,rne d3.out a6.out⟩))
       have n6_ := As_ (blk_kept (zk_ b1.out) hkp (no4 ⟨rne d1.out b1.out,rne b2.out b1.out,rne d2.out b1.out,rne d3.out b1.out⟩))
       have n7_ := As_ (IsS113.kept (zi113_3 HI0.out a7.out b3.out i4.out) hkp (or4 (fun e_ => (fun e_ => (IsS113.own_ne HI0.out d1.out (by decide)) e_) e_) (fun e_ => (fun e_ => (IsS113.own_ne HI0.out b2.out (by decide)) e_) e_) (fun e_ => (fun e_ => (IsS113.own_ne HI0.out d2.out (by decide)) e_) e_) (fun e_ => (fun e_ => (IsS113.own_ne HI0.out d3.out (by decide)) e_) e_)))
       have n8_ := As_ (blk_kept (zk_ d4.out) hkp (no4 ⟨rne d1.out d4.out,rne b2.out d4.out,rne d2.out d4.out,rne d3.out d4.out⟩))
       have n9_ := As_ (Kd.R_mono (ok' := fun k_ => some k_ ≠ (v1158 : Value).ownBlock ∧ some k_ ≠ (v1161 : Value).ownBlock ∧ some k_ ≠ (.slice Ao39 a8.length co39 : Value).ownBlock ∧ some k_ ≠ (.slice Ao41 a9.length co41 : Value).ownBlock ∧ some k_ ≠ (.slice Ao42 b0.length co42 : Value).ownBlock) (Kd.R_raise (d := (Kd.int .i64)) (b := w0.heap.size) (b' := w.heap.size) (fun _ _ _ _ h_ => h_) ho0 (fun k_ e_ => Or.elim (ho0.1 k_ e_).1 (or4 (fun e_ => (fun e_ => Kd.R_base d1.out k_ e_.symm) e_) (fun e_ => (fun e_ => Kd.R_base b2.out k_ e_.symm) e_) (fun e_ => (fun e_ => Kd.R_base d2.out k_ e_.symm) e_) (fun e_ => (fun e_ => Kd.R_base d3.out k_ e_.symm) e_)) (fun hn_ => Nat.le_trans (keep_size (w := w) (g := g) (row := none) (zkp3 HK.out b4.out d5.out i1.out)) hn_))) (fun k_ hk_ => ⟨hk_.2.1,hk_.2.2,aw4 (rA a2.out b2.out).1 (Kd.R_lt (zR_ a2.out)) (fun _ h => ⟨h.1.1.1.2,h.2,h.1.1.2,h.1.2⟩) hk_.1,aw4 (rA a3.out b2.out).1 (Kd.R_lt (zR_ a3.out)) (fun _ h => ⟨h.1.1.1.2,h.2,h.1.1.2,h.1.2⟩) hk_.1,aw4 (rA a4.out b2.out).1 (Kd.R_lt (zR_ a4.out)) (fun _ h => ⟨h.1.1.1.2,h.2,h.1.1.2,h.1.2⟩) hk_.1⟩))
       have n10_ := As_ (Kd.R_mono (ok' := fun k_ => some k_ ≠ (.slice Ao40 b5.length co40 : Value).ownBlock) (Kd.R_raise (d := Kd.bool) (b := w0.heap.size) (b' := w.heap.size) (fun _ _ _ _ h_ => h_) ho1 (fun k_ e_ => Or.elim (ho1.1 k_ e_) (or4 (fun e_ => (fun e_ => Kd.R_base d1.out k_ e_.symm) e_) (fun e_ => (fun e_ => Kd.R_base b2.out k_ e_.symm) e_) (fun e_ => (fun e_ => Kd.R_base d2.out k_ e_.symm) e_) (fun e_ => (fun e_ => Kd.R_base d3.out k_ e_.symm) e_)) (fun hn_ => Nat.le_trans (keep_size (w := w) (g := g) (row := none) (zkp3 HK.out b4.out d5.out i1.out)) hn_))) (fun k_ hk_ => aw4 (rA (rA (rA a5.out d1.out) d2.out) d3.out).1 (Kd.R_lt (zR_ a5.out)) (fun _ h => ⟨h.1.1.2,h.1.1.1.2,h.1.2,h.2⟩) hk_))
       have n11_ := As_ (Kd.R_mono (ok' := fun k_ => some k_ ≠ (v1152 : Value).ownBlock ∧ some k_ ≠ (v1161 : Value).ownBlock ∧ some k_ ≠ (.slice Ao39 a8.length co39 : Value).ownBlock ∧ some k_ ≠ (.slice Ao41 a9.length co41 : Value).ownBlock ∧ some k_ ≠ (.slice Ao42 b0.length co42 : Value).ownBlock) (Kd.R_raise (d := (Kd.int .i64)) (b := w0.heap.size) (b' := w.heap.size) (fun _ _ _ _ h_ => h_) ho2 (fun k_ e_ => Or.elim (ho2.1 k_ e_).1 (or4 (fun e_ => (fun e_ => Kd.R_base d1.out k_ e_.symm) e_) (fun e_ => (fun e_ => Kd.R_base b2.out k_ e_.symm) e_) (fun e_ => (fun e_ => Kd.R_base d2.out k_ e_.symm) e_) (fun e_ => (fun e_ => Kd.R_base d3.out k_ e_.symm) e_)) (fun hn_ => Nat.le_trans (keep_size (w := w) (g := g) (row := none) (zkp3 HK.out b4.out d5.out i1.out)) hn_))) (fun k_ hk_ => ⟨hk_.2.1,hk_.2.2,aw4 (rA a2.out b2.out).1 (Kd.R_lt (zR_ a2.out)) (fun _ h => ⟨h.1.1.1.2,h.2,h.1.1.2,h.1.2⟩) hk_.1,aw4 (rA a3.out b2.out).1 (Kd.R_lt (zR_ a3.out)) (fun _ h => ⟨h.1.1.1.2,h.2,h.1.1.2,h.1.2⟩) hk_.1,aw4 (rA a4.out b2.out).1 (Kd.R_lt (zR_ a4.out)) (fun _ h => ⟨h.1.1.1.2,h.2,h.1.1.2,h.1.2⟩) hk_.1⟩))
       have n12_ := As_ (Kd.R_mono (ok' := fun k_ => some k_ ≠ (v1152 : Value).ownBlock ∧ some k_ ≠ (v1158 : Value).ownBlock ∧ some k_ ≠ (.slice Ao39 a8.length co39 : Value).ownBlock ∧ some k_ ≠ (.slice Ao41 a9.length co41 : Value).ownBlock ∧ some k_ ≠ (.slice Ao42 b0.length co42 : Value).ownBlock) (Kd.R_raise (d := (Kd.int .i64)) (b := w0.heap.size) (b' := w.heap.size) (fun _ _ _ _ h_ => h_) ho3 (fun k_ e_ => Or.elim (ho3.1 k_ e_).1 (or4 (fun e_ => (fun e_ => Kd.R_base d1.out k_ e_.symm) e_) (fun e_ => (fun e_ => Kd.R_base b2.out k_ e_.symm) e_) (fun e_ => (fun e_ => Kd.R_base d2.out k_ e_.symm) e_) (fun e_ => (fun e_ => Kd.R_base d3.out k_ e_.symm) e_)) (fun hn_ => Nat.le_trans (keep_size (w := w) (g := g) (row := none) (zkp3 HK.out b4.out d5.out i1.out)) hn_))) (fun k_ hk_ => ⟨hk_.2.1,hk_.2.2,aw4 (rA a2.out b2.out).1 (Kd.R_lt (zR_ a2.out)) (fun _ h => ⟨h.1.1.1.2,h.2,h.1.1.2,h.1.2⟩) hk_.1,aw4 (rA a3.out b2.out).1 (Kd.R_lt (zR_ a3.out)) (fun _ h => ⟨h.1.1.1.2,h.2,h.1.1.2,h.1.2⟩) hk_.1,aw4 (rA a4.out b2.out).1 (Kd.R_lt (zR_ a4.out)) (fun _ h => ⟨h.1.1.1.2,h.2,h.1.1.2,h.1.2⟩) hk_.1⟩))
       have n13_ := As_ (Kept.keepG (zkp3 HK.out b4.out d5.out i1.out) hkp (fun k_ hs_ => Or.elim hs_ (fun e_ => (fun e_ => .inr (Kd.R_base d1.out k_ e_.symm)) e_) (fun e_ => Or.elim e_ (fun e_ => (fun e_ => .inr (Kd.R_base b2.out k_ e_.symm)) e_) (fun e_ => Or.elim e_ (fun e_ => (fun e_ => .inr (Kd.R_base d2.out k_ e_.symm)) e_) (fun e_ => (fun e_ => .inr (Kd.R_base d3.out k_ e_.symm)) e_)))))
       have n14_ := As_ (hb)
       clear d0 a2 a5 a3 a4 a6 b1 HI0 d4 HK HB d1 b2 d2 d3
       revert n0_ n1_ n2_ n3_ n4_ n5_ n6_ n7_ n8_ n9_ n10_ n11_ n12_ n13_ n14_;intro d0 a2 a5 a3 a4 a6 b1 HI0 d4 m5 m6 m7 m8 HK HB
       refine hK.out _ _ ⟨(bkC a6.out 0).trans rfl,(bkC a6.out 1).trans rfl,(bkC a6.out 2).trans rfl,(bkC a6.out 3).trans rfl,(bkC a6.out 4).trans rfl,(bkC b1.out 0).trans rfl,(bkC b1.out 1).trans rfl⟩ (fun hHeld => ?_)
       clear hK K
       refine norm_ (a' := ?_) ?_ ?_
       rotate_left
       ·show Act.put _ (some 34) _ = _
        simp only [Act.put,sq_,i64_w,i32_w]
        rfl
       refine pQ 4 30 (bl_ 159 10) HT_ rfl ?_
       refine pQ 5 35 (bl_ 191 10) HT_ rfl ?_
       refine pQ 6 36 (bl_ 255 10) HT_ rfl ?_
       exact norm_ (by simp only [putAll,Act.put,List.setIfInBounds_toArray,List.set_cons_zero,List.set_cons_succ]) (hCont (.slice Ao46 j9.length co46,.slice Ao47 l4.length co47,.slice Ao48 l5.length co48,.slice Ao49 l6.length co49,v1152,v1155,v1158,v1161,d6) _ ⟨hHeld,(zR_ m5.out),(zR_ m6.out),(zR_ m7.out),(zR_ m8.out),(by exact Kd.R_mono a2.out (fun _ hk => ⟨hk.2.2.1,⟨hk.2.2.2.1,⟨hk.2.2.2.2,⟨hk.1,hk.2.1⟩⟩⟩⟩)),(zR_ a5.out),(by exact Kd.R_mono a3.out (fun _ hk => ⟨hk.2.2.1,⟨hk.2.2.2.1,⟨hk.2.2.2.2,⟨hk.1,hk.2.1⟩⟩⟩⟩)),(by exact Kd.R_mono a4.out (fun _ hk => ⟨hk.2.2.1,⟨hk.2.2.2.1,⟨hk.2.2.2.2,⟨hk.1,hk.2.1⟩⟩⟩⟩)),(zR_ d0.out),(zk_ a6.out),(zk_ b1.out),(zk_ d4.out),i1.out,j7.out,i4.out,m9.out,e0.out,g6.out,e5.out,g7.out,(zi113_3 HI0.out a7.out b3.out i4.out),(zkp3 HK.out b4.out d5.out i1.out),(zb4 HB.out (IsS113.ge HI0.out) e4.out i2.out j7.out)⟩)
     rintro ⟨v1139,v1142,v1145,v1148,v1152,v1155,v1158,v1161,d6⟩ w51 ⟨hS_,h0_,h1_,h2_,h3_,h4_,h5_,h6_,h7_,h8_,h9_,h10_,h11_,h12_,h13_,h14_,h15_,h16_,h17_,h18_,h19_,h20_,h21_,h22_⟩
     have n0_ : Aside0 (Kd.R (Kd.int .i64) 3 w51 w.heap.size (fun k_ => some k_ ≠ (v1158 : Value).ownBlock ∧ some k_ ≠ (v1161 : Value).ownBlock ∧ some k_ ≠ (.slice Ao39 a8.length co39 : Value).ownBlock ∧ some k_ ≠ (.slice Ao41 a9.length co41 : Value).ownBlock ∧ some k_ ≠ (.slice Ao42 b0.length co42 : Value).ownBlock) v1152 o9) := ⟨h0_⟩
     have n1_ : Aside0 (Kd.R Kd.bool 4 w51 w.heap.size (fun k_ => some k_ ≠ (.slice Ao40 b5.length co40 : Value).ownBlock) v1155 p0) := ⟨h1_⟩
     have n2_ : Aside0 (Kd.R (Kd.int .i64) 3 w51 w.heap.size (fun k_ => some k_ ≠ (v1152 : Value).ownBlock ∧ some k_ ≠ (v1161 : Value).ownBlock ∧ some k_ ≠ (.slice Ao39 a8.length co39 : Value).ownBlock ∧ some k_ ≠ (.slice Ao41 a9.length co41 : Value).ownBlock ∧ some k_ ≠ (.slice Ao42 b0.length co42 : Value).ownBlock) v1158 p1) := ⟨h2_⟩
     have n3_ : Aside0 (Kd.R (Kd.int .i64) 3 w51 w.heap.size (fun k_ => some k_ ≠ (v1152 : Value).ownBlock ∧ some k_ ≠ (v1158 : Value).ownBlock ∧ some k_ ≠ (.slice Ao39 a8.length co39 : Value).ownBlock ∧ some k_ ≠ (.slice Ao41 a9.length co41 : Value).ownBlock ∧ some k_ ≠ (.slice Ao42 b0.length co42 : Value).ownBlock) v1161 p2) := ⟨h3_⟩
     have n4_ : Aside0 (Kd.R (Kd.int .i64) 3 w51 w.heap.size (fun k_ => some k_ ≠ (v1152 : Value).ownBlock ∧ some k_ ≠ (v1158 : Value).ownBlock ∧ some k_ ≠ (v1161 : Value).ownBlock ∧ some k_ ≠ (.slice Ao41 a9.length co41 : Value).ownBlock ∧ some k_ ≠ (.slice Ao42 b0.length co42 : Value).ownBlock) (.slice Ao39 a8.length co39) a8) := ⟨h4_⟩
     have n5_ : Aside0 (Kd.R Kd.bool 4 w51 w.heap.size (fun k_ => some k_ ≠ (v1155 : Value).ownBlock) (.slice Ao40 b5.length co40) b5) := ⟨h5_⟩
     have n6_ : Aside0 (Kd.R (Kd.int .i64) 3 w51 w.heap.size (fun k_ => some k_ ≠ (v1152 : Value).ownBlock ∧ some k_ ≠ (v1158 : Value).ownBlock ∧ some k_ ≠ (v1161 : Value).ownBlock ∧ some k_ ≠ (.slice Ao39 a8.length co39 : Value).ownBlock ∧ some k_ ≠ (.slice Ao42 b0.length co42 : Value).ownBlock) (.slice Ao41 a9.length co41) a9) := ⟨h6_⟩
     have n7_ : Aside0 (Kd.R (Kd.int .i64) 3 w51 w.heap.size (fun k_ => some k_ ≠ (v1152 : Value).ownBlock ∧ some k_ ≠ (v1158 : Value).ownBlock ∧ some k_ ≠ (v1161 : Value).ownBlock ∧ some k_ ≠ (.slice Ao39 a8.length co39 : Value).ownBlock ∧ some k_ ≠ (.slice Ao41 a9.length co41 : Value).ownBlock) (.slice Ao42 b0.length co42) b0) := ⟨h7_⟩
     have n8_ : Aside0 (Kd.R k75 75 w51 w.heap.size (fun k_ => k_ ≠ b9) u3 g9) := ⟨h8_⟩
     have n9_ : Aside0 (w51.heap[b7]? = some (.cells #[.slice Ao39 a8.length co39,.slice Ao40 b5.length co40,.slice Ao41 a9.length co41,.slice Ao42 b0.length co42,.bool b6] 120 (0,0))) := ⟨h9_⟩
     have n10_ : Aside0 (w51.heap[b9]? = some (.cells #[.int .i64 e1,.int .i64 e2] 75 (0,0))) := ⟨h10_⟩
     have n11_ : Aside0 (w51.heap[d6]? = some (.cells #[.slice none 0 0,.slice none 0 0,.slice none 0 0,.slice none 0 0,.bool false] 120 (0,0))) := ⟨h11_⟩
     have n12_ : Aside0 (w.heap.size ≤ d6) := ⟨h12_⟩
     have n13_ : Aside0 (w0.heap.size ≤ d6) := ⟨h13_⟩
     have n14_ : Aside0 (g ≠ d6) := ⟨h14_⟩
     have n15_ : Aside0 (d6 ≠ g) := ⟨h15_⟩
     have n16_ : Aside0 (b7 ≠ d6) := ⟨h16_⟩
     have n17_ : Aside0 (d6 ≠ b7) := ⟨h17_⟩
     have n18_ : Aside0 (b9 ≠ d6) := ⟨h18_⟩
     have n19_ : Aside0 (d6 ≠ b9) := ⟨h19_⟩
     have n20_ : Aside0 (IsS113 w0 w51 g s0_0 b8) := ⟨h20_⟩
     have n21_ : Aside0 (KeepBut w w51 g none) := ⟨h21_⟩
     have n22_ : Aside0 (Below w0.heap.size w0 w51) := ⟨h22_⟩
     clear d0 a2 a5 a3 a4 a6 b1 HI0 HK HB h0_ h1_ h2_ h3_ h4_ h5_ h6_ h7_ h8_ h9_ h10_ h11_ h12_ h13_ h14_ h15_ h16_ h17_ h18_ h19_ h20_ h21_ h22_
     revert n0_ n1_ n2_ n3_ n4_ n5_ n6_ n7_ n8_ n9_ n10_ n11_ n12_ n13_ n14_ n15_ n16_ n17_ n18_ n19_ n20_ n21_ n22_;intro m5 m6 m7 m8 a2 a5 a3 a4 d0 a6 b1 d4 i1 j7 i4 m9 e0 g6 e5 g7 HI0 HK HB
     have hHeld : w51.cell? ⟨b7,0,none⟩ = some (.slice Ao39 a8.length co39) ∧ w51.cell? ⟨b7,1,none⟩ = some (.slice Ao40 b5.length co40) ∧ w51.cell? ⟨b7,2,none⟩ = some (.slice Ao41 a9.length co41) ∧ w51.cell? ⟨b7,3,none⟩ = some (.slice Ao42 b0.length co42) ∧ w51.cell? ⟨b7,4,none⟩ = some (.bool b6) ∧ w51.cell? ⟨b9,0,none⟩ = some (.int .i64 e1) ∧ w51.cell? ⟨b9,1,none⟩ = some (.int .i64 e2) := hS_
     obtain ⟨Ao52,co52,eo52⟩ := Kd.R_slice m5.out
     (first|subst eo52|(injection eo52 with f1_ f2_ f3_;have f4_ := f1_.symm;have f5_ := f3_.symm;clear f1_ f2_ f3_;subst f4_;subst f5_))
     obtain ⟨Ao54,co54,eo54⟩ := Kd.R_slice m6.out
     (first|subst eo54|(injection eo54 with f1_ f2_ f3_;have f4_ := f1_.symm;have f5_ := f3_.symm;clear f1_ f2_ f3_;subst f4_;subst f5_))
     obtain ⟨Ao56,co56,eo56⟩ := Kd.R_slice m7.out
     (first|subst eo56|(injection eo56 with f1_ f2_ f3_;have f4_ := f1_.symm;have f5_ := f3_.symm;clear f1_ f2_ f3_;subst f4_;subst f5_))
     obtain ⟨Ao58,co58,eo58⟩ := Kd.R_slice m8.out
     (first|subst eo58|(injection eo58 with f1_ f2_ f3_;have f4_ := f1_.symm;have f5_ := f3_.symm;clear f1_ f2_ f3_;subst f4_;subst f5_))
     refine norm_ (a' := ?_) ?_ ?_
     rotate_left
     ·simp only [putAll,Act.put,List.setIfInBounds_toArray,List.set_cons_zero,List.set_cons_succ]
      rfl
     refine one_ (i := 8) (N := none) (bl_ 511 10) rfl rfl (one_of HT_.out (by kernel_rfl)) (by decide) (fun K hK => ?_)
     have I7 : w51.cell? ⟨d6,0,none⟩ = some (.slice none 0 0) := (bkC d4.out 0).trans rfl
     have G1 := bkF d4.out 0
     have z6 := e0.out
     have z7 := e5.out
     have z8 := g6.out
     have z9 := g7.out
     have I8 : w51.cell? ⟨d6,1,none⟩ = some (.slice none 0 0) := (bkC d4.out 1).trans rfl
     have G2 := bkF d4.out 1
     have A4 := e0.out
     have A5 := e5.out
     have A6 := g6.out
     have A7 := g7.out
     have I9 : w51.cell? ⟨d6,2,none⟩ = some (.slice none 0 0) := (bkC d4.out 2).trans rfl
     have G3 := bkF d4.out 2
     have A8 := e0.out
     have A9 := e5.out
     have B0 := g6.out
     have B1 := g7.out
     have J0 : w51.cell? ⟨d6,3,none⟩ = some (.slice none 0 0) := (bkC d4.out 3).trans rfl
     have G4 := bkF d4.out 3
     have B2 := e0.out
     have B3 := e5.out
     have B4 := g6.out
     have B5 := g7.out
     have J1 : w51.cell? ⟨d6,4,none⟩ = some (.bool false) := (bkC d4.out 4).trans rfl
     have G5 := bkF d4.out 4
     have B6 := e0.out
     have B7 := e5.out
     have B9 := g6.out
     have C0 := g7.out
     refine skip_ (w1 := ?_) (by rfl) rfl ?_ ?_
     rotate_left
     ·go_simp
      rfl
     refine hK.out _ _ ⟨(c5 e0.out (hHeld.1)),(c5 e0.out (hHeld.2.1)),(c5 e0.out (hHeld.2.2.1)),(c5 e0.out (hHeld.2.2.2.1)),(c5 e0.out (hHeld.2.2.2.2.1)),(c5 e5.out (hHeld.2.2.2.2.2.1)),(c5 e5.out (hHeld.2.2.2.2.2.2))⟩ (fun hHeld => ?_)
     clear hK K
     refine pQ 9 8 (bl_ 1023 10) HT_ rfl ?_
     refine done_ (done_of HT_.out (by kernel_rfl)) ?_
     go_upto_if 37 with (fail)
     go_cut [] (fun wc => ∃ (kq : Nat) (e8 : List Int) (e9 : List Bool) (g4 : List Int) (g5 : List Int) (e3 : Bool) (d7 : Value) (e6 : Value) (d8 : Value) (d9 : Value),Aside0 (spec_likelyOps.j2 kq g9 j5 n7 s0_0 b8 e8 e9 g4 g5 e3 e1 e2 = some (r1,r2)) ∧ Aside0 (kq ≤ kj19) ∧ Aside0 (Kd.R k75 75 wc w.heap.size (fun k_ => k_ ≠ b9) u3 g9) ∧ Aside0 (Kd.R (Kd.int .i64) 3 wc w.heap.size (fun k_ => some k_ ≠ (d8 : Value).ownBlock ∧ some k_ ≠ (d9 : Value).ownBlock) d7 e8) ∧ Aside0 (Kd.R Kd.bool 4 wc w.heap.size (fun _ => True) e6 e9) ∧ Aside0 (Kd.R (Kd.int .i64) 3 wc w.heap.size (fun k_ => some k_ ≠ (d7 : Value).ownBlock ∧ some k_ ≠ (d9 : Value).ownBlock) d8 g4) ∧ Aside0 (Kd.R (Kd.int .i64) 3 wc w.heap.size (fun k_ => some k_ ≠ (d7 : Value).ownBlock ∧ some k_ ≠ (d8 : Value).ownBlock) d9 g5) ∧ Aside0 (wc.heap[b7]? = some (.cells #[d7,e6,d8,d9,.bool e3] 120 (0,0))) ∧ Aside0 (wc.heap[b9]? = some (.cells #[.int .i64 e1,.int .i64 e2] 75 (0,0))) ∧ Aside0 (IsS113 w0 wc g s0_0 b8) ∧ Aside0 (KeepBut w wc g none) ∧ Aside0 (Below w0.heap.size w0 wc))
     case first =>
      have H := HC38.out
      clear HC38
      by_cases c61 : n7 = true
      rotate_left
      ·replace c61 := Bool.eq_false_iff.mpr c61
       subst c61
       have H1 : (spec_likelyOps.j2 kj19 g9 j5 false s0_0 b8 a8 b5 a9 b0 b6 e1 e2) = some (r1,r2) := by rw [if_neg (show ¬ (false = true) by decide)] at H;exact H
       clear H
       have H := H1
       clear H1
       have H' := As_ H
       clear H
       go_wp2
       go_meet
       case rel => exact ⟨_,(a8),(b5),(a9),(b0),(b6),(.slice Ao39 a8.length co39),(.slice Ao40 b5.length co40),(.slice Ao41 a9.length co41),(.slice Ao42 b0.length co42),H',⟨by have := HK1.out;have := HJ19.out;first|omega|exact Nat.le_refl _⟩,⟨by exact Kd.R_mono (rX5 d0.out d4.out) (fun _ hk => hk.1)⟩,⟨by exact Kd.R_mono (rX5 a2.out d4.out) (fun _ hk => ⟨hk.1.2.2.2.1,hk.1.2.2.2.2⟩)⟩,⟨by exact Kd.R_mono (rX5 a5.out d4.out) (fun _ hk => trivial)⟩,⟨by exact Kd.R_mono (rX5 a3.out d4.out) (fun _ hk => ⟨hk.1.2.2.2.1,hk.1.2.2.2.2⟩)⟩,⟨by exact Kd.R_mono (rX5 a4.out d4.out) (fun _ hk => ⟨hk.1.2.2.2.1,hk.1.2.2.2.2⟩)⟩,⟨f5 e0.out a6.out⟩,⟨f5 e5.out b1.out⟩,⟨zi113_3 HI0.out a7.out b3.out i4.out⟩,⟨zkp3 HK.out b4.out d5.out i1.out⟩,⟨zb4 HB.out (IsS113.ge HI0.out) e4.out i2.out j7.out⟩⟩
      subst c61
      have H1 : (spec_likelyOps.j2 kj19 g9 j5 true s0_0 b8 o9 p0 p1 p2 p3 e1 e2) = some (r1,r2) := by rw [if_pos rfl] at H;exact H
      clear H
      have H := H1
      clear H1
      have H' := As_ H
      clear H
      have G6 := g6.out
      have G7 := e0.out
      have G8 := g7.out
      have G9 := e5.out
      have H0 := m9.out
      have H2 := i4.out
      have C1 : w51.cell? ⟨d6,0,none⟩ = some (.slice none 0 0) := (bkC d4.out 0).trans rfl
      have C2 : w51.cell? ⟨d6,1,none⟩ = some (.slice none 0 0) := (bkC d4.out 1).trans rfl
      have C3 : w51.cell? ⟨d6,2,none⟩ = some (.slice none 0 0) := (bkC d4.out 2).trans rfl
      have C4 : w51.cell? ⟨d6,3,none⟩ = some (.slice none 0 0) := (bkC d4.out 3).trans rfl
      have C5 : w51.cell? ⟨d6,4,none⟩ = some (.bool false) := (bkC d4.out 4).trans rfl
      have C6 := bkF d4.out 0
      have C7 := bkF d4.out 1
      have C8 := bkF d4.out 2
      have C9 := bkF d4.out 3
      have D0 := bkF d4.out 4
      have H3 := i3.out
      have H4 := i6.out
      have H5 := j4.out
      have H6 := a7.out
      have D1 : w51.cell? ⟨b7,0,none⟩ = some (.slice Ao39 a8.length co39) := (bkC a6.out 0).trans rfl
      have D2 : w51.cell? ⟨b7,1,none⟩ = some (.slice Ao40 b5.length co40) := (bkC a6.out 1).trans rfl
      have D3 : w51.cell? ⟨b7,2,none⟩ = some (.slice Ao41 a9.length co41) := (bkC a6.out 2).trans rfl
      have D4 : w51.cell? ⟨b7,3,none⟩ = some (.slice Ao42 b0.length co42) := (bkC a6.out 3).trans rfl
      have D5 : w51.cell? ⟨b7,4,none⟩ = some (.bool b6) := (bkC a6.out 4).trans rfl
      have D6 := bkF a6.out 0
      have D7 := bkF a6.out 1
      have D8 := bkF a6.out 2
      have D9 := bkF a6.out 3
      have E0 := bkF a6.out 4
      go_wp2
      go_meet
      case rel => exact ⟨_,(o9),(p0),(p1),(p2),(p3),(.slice Ao52 o9.length co52),(.slice Ao54 p0.length co54),(.slice Ao56 p1.length co56),(.slice Ao58 p2.length co58),H',⟨by have := HK1.out;have := HJ19.out;first|omega|exact Nat.le_refl _⟩,⟨by exact Kd.R_mono (rF5 (rF5 (Kd.R_types (rT d0.out d4.out) a6.out (by decide)) (fun _ hk => hk.1.2)) (fun _ hk => hk.2)) (fun _ hk => hk.1.1)⟩,⟨by exact Kd.R_mono (rF5 (rF5 (Kd.R_types (rT m5.out d4.out) a6.out (by decide)) (fun _ hk => hk.1.2)) (fun _ hk => hk.2)) (fun _ hk => ⟨hk.1.1.1,hk.1.1.2.1⟩)⟩,⟨by exact Kd.R_mono (rF5 (rF5 (Kd.R_types (rT m6.out d4.out) a6.out (by decide)) (fun _ hk => hk.1.2)) (fun _ hk => hk.2)) (fun _ hk => trivial)⟩,⟨by exact Kd.R_mono (rF5 (rF5 (Kd.R_types (rT m7.out d4.out) a6.out (by decide)) (fun _ hk => hk.1.2)) (fun _ hk => hk.2)) (fun _ hk => ⟨hk.1.1.1,hk.1.1.2.1⟩)⟩,⟨by exact Kd.R_mono (rF5 (rF5 (Kd.R_types (rT m8.out d4.out) a6.out (by decide)) (fun _ hk => hk.1.2)) (fun _ hk => hk.2)) (fun _ hk => ⟨hk.1.1.1,hk.1.1.2.1⟩)⟩,⟨by apply p5;exact f5 e0.out a6.out⟩,⟨by refine f5 i6.out ?_;exact f5 e5.out b1.out⟩,⟨zi113_3 HI0.out a7.out b3.out i4.out⟩,⟨zkp3 HK.out b4.out d5.out i1.out⟩,⟨zb4 HB.out (IsS113.ge HI0.out) e4.out i2.out j7.out⟩⟩
     case rest =>
      clear HC38
      obtain ⟨kq,e8,e9,g4,g5,e3,d7,e6,d8,d9,HA,HJ37,d0,a2,a5,a3,a4,a6,b1,HI0,HK,HB⟩ := hcut
      cases kq with
      | zero => exact absurd HA.out (fun h_ => (by cases h_))
      | succ kj37 =>
       have H := HA.out
       clear HA
       simp only [spec_likelyOps.j2] at H
       by_cases c69 : n7 = true
       ·subst c69
        have H1 : (if g9.length < 8796093022208 then (spec_likelyOps.l0 kj37 (g9 ++ [(⟨e1,e2⟩ : S75)]) (wrap64 (j5 - 1)) s0_0 b8 e8 e9 g4 g5 e3) else (none)) = some (r1,r2) := by rw [if_pos rfl] at H;exact H
        clear H
        have H := H1
        clear H1
        by_cases c70 : g9.length < 8796093022208
        rotate_left
        ·rw [if_neg c70] at H
         exact absurd H (by simp)
        rw [if_pos c70] at H
        have t9 := As_ c70
        clear c70
        obtain ⟨r8,q6⟩ : ∃ y_ : List (S75),y_ = (g9 ++ [(⟨e1,e2⟩ : S75)]) := ⟨_,rfl⟩
        replace H : (spec_likelyOps.l0 kj37 r8 (wrap64 (j5 - 1)) s0_0 b8 e8 e9 g4 g5 e3) = some (r1,r2) := zH_ H q6
        have s9 := As_ q6
        clear q6
        have H' := As_ H
        clear H
        have H7 := i6.out
        have H8 := i3.out
        have H9 := l8.out
        have I0 := b3.out
        obtain ⟨E1,E2,E3,E4⟩ := bk2 b1.out
        go_wp2_with (first|((with_reducible refine gate_builtin (b := .append) (xs := #[.tmp 45,.tmp 47]) rfl ?_);at_builtin;refine Kd.R_append k75 w.heap.size rfl (.tmp 45) (.tmp 47) 23 75 (.agg #[(.int .i64 0),(.int .i64 0)]) 16 rfl Try.underlying23 info75 rfl (by decide) (by omega) u3 g9 (⟨e1,e2⟩ : S75) [.int .i64 e1,.int .i64 e2] (fun k_ => k_ ≠ b9) (fun _ => False) rfl rfl ?aP (fun _ hk => hk.elim) ?aF ?aO (Below.refl _ _) ?aS ?aL ?_;(case aP => exact k75_mkM _ _ _ (⟨e1,e2⟩ : S75));(case aF => exact (fun k_ hk => Kd.freshB (g := b9) (o := .cells #[.int .i64 e1,.int .i64 e2] 75 (0,0)) (zk_ b1.out) k_ hk));(case aO => exact (zR_ d0.out));(case aS => exact (keep_size (w := w) (g := g) (row := none) (zkp2 HK.out b4.out d5.out)));(case aL => have := t9.out;omega);intro v1169 w74 ho hb hg hat;rw [← s9.out] at ho;have n0_ := As_ (Kd.R_over' (zR_ a2.out) (Kd.R_typed (zR_ d0.out)) (by decide) hg);have n1_ := As_ (Kd.R_over' (zR_ a5.out) (Kd.R_typed (zR_ d0.out)) (by decide) hg);have n2_ := As_ (Kd.R_over' (zR_ a3.out) (Kd.R_typed (zR_ d0.out)) (by decide) hg);have n3_ := As_ (Kd.R_over' (zR_ a4.out) (Kd.R_typed (zR_ d0.out)) (by decide) hg);have n4_ := As_ (blk_grown (g := b7) (o := .cells #[d7,e6,d8,d9,.bool e3] 120 (0,0)) (zk_ a6.out) hg (rne d0.out a6.out));have n5_ := As_ (blk_grown (g := b9) (o := .cells #[.int .i64 e1,.int .i64 e2] 75 (0,0)) (zk_ b1.out) hg (Kd.R_away d0.out (fun _ hk => hk)));have n6_ := As_ (IsS113.grown (zi113_2 HI0.out a7.out b3.out) hg (IsS113.own_ne HI0.out d0.out (by decide)));have n7_ := As_ (below_weaken (zb3 HB.out (IsS113.ge HI0.out) e4.out i2.out) HL.out hb);have n8_ := As_ (KeepBut.trans (zkp2 HK.out b4.out d5.out) (KeepBut.of_grown hg g) (Kd.R_base2 d0.out));have n9_ := As_ (ho);clear a2 a5 a3 a4 a6 b1 HI0 HB HK d0;revert n0_ n1_ n2_ n3_ n4_ n5_ n6_ n7_ n8_ n9_;intro a2 a5 a3 a4 a6 b1 HI0 HB HK t0;clear ho hb hg hat))
        go_roundg kj37
        case measure => have := HK1.out;have := HJ19.out;have := HJ37.out;omega
        case rel => exact ⟨(r8),(wrap64 (j5 - 1)),(b8),(e8),(e9),(g4),(g5),(e3),(d7),(e6),(d8),(d9),zT_,H',⟨by have := HK1.out;have := HJ19.out;have := HJ37.out;omega⟩,⟨by exact Kd.R_mono t0.out (fun _ hk => trivial)⟩,⟨a2.out⟩,⟨a5.out⟩,⟨a3.out⟩,⟨a4.out⟩,⟨a6.out⟩,⟨zi113_2 HI0.out a7.out b3.out⟩,⟨zkp2 HK.out b4.out d5.out⟩,⟨zb3 HB.out (IsS113.ge HI0.out) e4.out i2.out⟩⟩
       replace c69 := Bool.eq_false_iff.mpr c69
       subst c69
       have H1 : ((spec_reader_pick.f kj37 s0_0 b8 16).bind fun o1 => (if o1.1 = 0 then (if g9.length < 8796093022208 then (spec_likelyOps.l0 kj37 (g9 ++ [(⟨e1,e2⟩ : S75)]) (wrap64 (j5 - 1)) s0_0 o1.2 e8 e9 g4 g5 e3) else (none)) else (spec_likelyOps.l0 kj37 g9 (wrap64 (j5 - 1)) s0_0 o1.2 e8 e9 g4 g5 e3))) = some (r1,r2) := by rw [if_neg (show ¬ (false = true) by decide)] at H;exact H
       clear H
       have H := H1
       clear H1
       replace H := obS H
       obtain ⟨⟨p6,p8⟩,A750,H⟩ := H
       replace H : (if p6 = 0 then (if g9.length < 8796093022208 then (spec_likelyOps.l0 kj37 (g9 ++ [(⟨e1,e2⟩ : S75)]) (wrap64 (j5 - 1)) s0_0 p8 e8 e9 g4 g5 e3) else (none)) else (spec_likelyOps.l0 kj37 g9 (wrap64 (j5 - 1)) s0_0 p8 e8 e9 g4 g5 e3)) = some (r1,r2) := H
       have A75 := As_ A750
       clear A750
       by_cases c76 : p6 = 0
       rotate_left
       ·rw [if_neg c76] at H
        have u0 : (p6 == 0) = false := beq_eq_false_iff_ne.mpr c76
        have u1 : (p6 != 0) = true := bne_iff_ne.mpr c76
        have H' := As_ H
        clear H
        go_wp2_with (first|(go_at_call 102;(with_reducible refine (spec_reader_pick.calls kj37 g s0_0 b8 16 p6 p8 w0 _ ?side1 ?side2 A75.out).mono ?_);(case side1 => exact zi113_2 HI0.out a7.out b3.out);(case side2 => exact zb3 HB.out (IsS113.ge HI0.out) e4.out i2.out);rintro e w83 ⟨rfl,hi,hb,hk⟩;have n0_ := As_ (Kd.R_mono (Kd.R_keep (IsS113.apart (show IsS113 w0 _ g s0_0 b8 from zi113_2 HI0.out a7.out b3.out) (zR_ d0.out) (by decide)) hk (fun _ h => h.2)) (fun _ h => h.1));have n1_ := As_ (Kd.R_mono (Kd.R_keep (IsS113.apart (show IsS113 w0 _ g s0_0 b8 from zi113_2 HI0.out a7.out b3.out) (zR_ a2.out) (by decide)) hk (fun _ h => h.2)) (fun _ h => h.1));have n2_ := As_ (Kd.R_mono (Kd.R_keep (IsS113.apart (show IsS113 w0 _ g s0_0 b8 from zi113_2 HI0.out a7.out b3.out) (zR_ a5.out) (by decide)) hk (fun _ h => h.2)) (fun _ h => h.1));have n3_ := As_ (Kd.R_mono (Kd.R_keep (IsS113.apart (show IsS113 w0 _ g s0_0 b8 from zi113_2 HI0.out a7.out b3.out) (zR_ a3.out) (by decide)) hk (fun _ h => h.2)) (fun _ h => h.1));have n4_ := As_ (Kd.R_mono (Kd.R_keep (IsS113.apart (show IsS113 w0 _ g s0_0 b8 from zi113_2 HI0.out a7.out b3.out) (zR_ a4.out) (by decide)) hk (fun _ h => h.2)) (fun _ h => h.1));have n5_ := As_ (KeepBut.blk hk (g' := b7) (o := .cells #[d7,e6,d8,d9,.bool e3] 120 (0,0)) (zk_ a6.out) j4.out (by simp));have n6_ := As_ (KeepBut.blk hk (g' := b9) (o := .cells #[.int .i64 e1,.int .i64 e2] 75 (0,0)) (zk_ b1.out) l8.out (by simp));have n7_ := As_ (KeepBut.trans (zkp2 HK.out b4.out d5.out) hk (.inl rfl));have n8_ := As_ (hb);have n9_ := As_ (hi);clear d0 a2 a5 a3 a4 a6 b1 HK HB HI0;revert n0_ n1_ n2_ n3_ n4_ n5_ n6_ n7_ n8_ n9_;intro d0 a2 a5 a3 a4 a6 b1 HK HB HI0))
        go_roundg kj37
        case measure => have := HK1.out;have := HJ19.out;have := HJ37.out;omega
        case rel => exact ⟨(g9),(wrap64 (j5 - 1)),(p8),(e8),(e9),(g4),(g5),(e3),(d7),(e6),(d8),(d9),zT_,H',⟨by have := HK1.out;have := HJ19.out;have := HJ37.out;omega⟩,⟨by exact Kd.R_mono d0.out (fun _ hk => trivial)⟩,⟨a2.out⟩,⟨a5.out⟩,⟨a3.out⟩,⟨a4.out⟩,⟨a6.out⟩,⟨zi113_2 HI0.out a7.out b3.out⟩,⟨zkp2 HK.out b4.out d5.out⟩,⟨zb3 HB.out (IsS113.ge HI0.out) e4.out i2.out⟩⟩
       rw [if_pos c76] at H
       have u0 : (p6 == 0) = true := beq_iff_eq.mpr c76
       have u1 : (p6 != 0) = false := bne_eq_false_iff_eq.mpr c76
       clear c76
       by_cases c77 : g9.length < 8796093022208
       rotate_left
       ·rw [if_neg c77] at H
        exact absurd H (by simp)
       rw [if_pos c77] at H
       have u2 := As_ c77
       clear c77
       obtain ⟨r9,q7⟩ : ∃ y_ : List (S75),y_ = (g9 ++ [(⟨e1,e2⟩ : S75)]) := ⟨_,rfl⟩
       replace H : (spec_likelyOps.l0 kj37 r9 (wrap64 (j5 - 1)) s0_0 p8 e8 e9 g4 g5 e3) = some (r1,r2) := zH_ H q7
       have t1 := As_ q7
       clear q7
       have H' := As_ H
       clear H
       go_wp2_with (first|(go_at_call 102;(with_reducible refine (spec_reader_pick.calls kj37 g s0_0 b8 16 p6 p8 w0 _ ?side1 ?side2 A75.out).mono ?_);(case side1 => exact zi113_2 HI0.out a7.out b3.out);(case side2 => exact zb3 HB.out (IsS113.ge HI0.out) e4.out i2.out);rintro e w78 ⟨rfl,hi,hb,hk⟩;have n0_ := As_ (Kd.R_mono (Kd.R_keep (IsS113.apart (show IsS113 w0 _ g s0_0 b8 from zi113_2 HI0.out a7.out b3.out) (zR_ d0.out) (by decide)) hk (fun _ h => h.2)) (fun _ h => h.1));have n1_ := As_ (Kd.R_mono (Kd.R_keep (IsS113.apart (show IsS113 w0 _ g s0_0 b8 from zi113_2 HI0.out a7.out b3.out) (zR_ a2.out) (by decide)) hk (fun _ h => h.2)) (fun _ h => h.1));have n2_ := As_ (Kd.R_mono (Kd.R_keep (IsS113.apart (show IsS113 w0 _ g s0_0 b8 from zi113_2 HI0.out a7.out b3.out) (zR_ a5.out) (by decide)) hk (fun _ h => h.2)) (fun _ h => h.1));have n3_ := As_ (Kd.R_mono (Kd.R_keep (IsS113.apart (show IsS113 w0 _ g s0_0 b8 from zi113_2 HI0.out a7.out b3.out) (zR_ a3.out) (by decide)) hk (fun _ h => h.2)) (fun _ h => h.1));have n4_ := As_ (Kd.R_mono (Kd.R_keep (IsS113.apart (show IsS113 w0 _ g s0_0 b8 from zi113_2 HI0.out a7.out b3.out) (zR_ a4.out) (by decide)) hk (fun _ h => h.2)) (fun _ h => h.1));have n5_ := As_ (KeepBut.blk hk (g' := b7) (o := .cells #[d7,e6,d8,d9,.bool e3] 120 (0,0)) (zk_ a6.out) j4.out (by simp));have n6_ := As_ (KeepBut.blk hk (g' := b9) (o := .cells #[.int .i64 e1,.int .i64 e2] 75 (0,0)) (zk_ b1.out) l8.out (by simp));have n7_ := As_ (KeepBut.trans (zkp2 HK.out b4.out d5.out) hk (.inl rfl));have n8_ := As_ (hb);have n9_ := As_ (hi);clear d0 a2 a5 a3 a4 a6 b1 HK HB HI0;revert n0_ n1_ n2_ n3_ n4_ n5_ n6_ n7_ n8_ n9_;intro d0 a2 a5 a3 a4 a6 b1 HK HB HI0;have I1 := i6.out;have I2 := i3.out;have I3 := l8.out;have I4 := b3.out;obtain ⟨E5,E6,E7,E8⟩ := bk2 b1.out)|((with_reducible refine gate_builtin (b := .append) (xs := #[.tmp 45,.tmp 47]) rfl ?_);at_builtin;refine Kd.R_append k75 w.heap.size rfl (.tmp 45) (.tmp 47) 23 75 (.agg #[(.int .i64 0),(.int .i64 0)]) 16 rfl Try.underlying23 info75 rfl (by decide) (by omega) u3 g9 (⟨e1,e2⟩ : S75) [.int .i64 e1,.int .i64 e2] (fun k_ => k_ ≠ b9) (fun _ => False) rfl rfl ?aP (fun _ hk => hk.elim) ?aF ?aO (Below.refl _ _) ?aS ?aL ?_;(case aP => exact k75_mkM _ _ _ (⟨e1,e2⟩ : S75));(case aF => exact (fun k_ hk => Kd.freshB (g := b9) (o := .cells #[.int .i64 e1,.int .i64 e2] 75 (0,0)) (zk_ b1.out) k_ hk));(case aO => exact (zR_ d0.out));(case aS => exact (keep_size (w := w) (g := g) (row := none) (zkp2 HK.out b4.out d5.out)));(case aL => have := u2.out;omega);intro v1172 w82 ho hb hg hat;rw [← t1.out] at ho;have n0_ := As_ (Kd.R_over' (zR_ a2.out) (Kd.R_typed (zR_ d0.out)) (by decide) hg);have n1_ := As_ (Kd.R_over' (zR_ a5.out) (Kd.R_typed (zR_ d0.out)) (by decide) hg);have n2_ := As_ (Kd.R_over' (zR_ a3.out) (Kd.R_typed (zR_ d0.out)) (by decide) hg);have n3_ := As_ (Kd.R_over' (zR_ a4.out) (Kd.R_typed (zR_ d0.out)) (by decide) hg);have n4_ := As_ (blk_grown (g := b7) (o := .cells #[d7,e6,d8,d9,.bool e3] 120 (0,0)) (zk_ a6.out) hg (rne d0.out a6.out));have n5_ := As_ (blk_grown (g := b9) (o := .cells #[.int .i64 e1,.int .i64 e2] 75 (0,0)) (zk_ b1.out) hg (Kd.R_away d0.out (fun _ hk => hk)));have n6_ := As_ (IsS113.grown (zi113_2 HI0.out a7.out b3.out) hg (IsS113.own_ne HI0.out d0.out (by decide)));have n7_ := As_ (below_weaken (zb3 HB.out (IsS113.ge HI0.out) e4.out i2.out) HL.out hb);have n8_ := As_ (KeepBut.trans (zkp2 HK.out b4.out d5.out) (KeepBut.of_grown hg g) (Kd.R_base2 d0.out));have n9_ := As_ (ho);clear a2 a5 a3 a4 a6 b1 HI0 HB HK d0;revert n0_ n1_ n2_ n3_ n4_ n5_ n6_ n7_ n8_ n9_;intro a2 a5 a3 a4 a6 b1 HI0 HB HK t2;clear ho hb hg hat))
       go_roundg kj37
       case measure => have := HK1.out;have := HJ19.out;have := HJ37.out;omega
       case rel => exact ⟨(r9),(wrap64 (j5 - 1)),(p8),(e8),(e9),(g4),(g5),(e3),(d7),(e6),(d8),(d9),zT_,H',⟨by have := HK1.out;have := HJ19.out;have := HJ37.out;omega⟩,⟨by exact Kd.R_mono t2.out (fun _ hk => trivial)⟩,⟨a2.out⟩,⟨a5.out⟩,⟨a3.out⟩,⟨a4.out⟩,⟨a6.out⟩,⟨zi113_2 HI0.out a7.out b3.out⟩,⟨zkp2 HK.out b4.out d5.out⟩,⟨zb3 HB.out (IsS113.ge HI0.out) e4.out i2.out⟩⟩
end Go.Proofs.Ytbokjhdhpmmpfaa.Q
