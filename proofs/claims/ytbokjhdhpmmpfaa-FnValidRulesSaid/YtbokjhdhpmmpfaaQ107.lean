-- Written by wip/tools/qprint.py (a program of this claim's author) by means of the kit's printer.
import Derived.Test.YtbokjhdhpmmpfaaQ0
import Derived.Test.YtbokjhdhpmmpfaaQ105
import Derived.Test.YtbokjhdhpmmpfaaQ124
import Derived.Test.YtbokjhdhpmmpfaaQ125
namespace Go.Proofs.Ytbokjhdhpmmpfaa.Q
open Go.RowKit Go.Proofs.YtbokjhdhpmmpfaaW.PrintWords Go.Proofs.YtbokjhdhpmmpfaaW.PrintLast Go.Proofs.YtbokjhdhpmmpfaaW.PrintMore
attribute [local go_sem] max2_int min2_int max_two min_two max_three min_three max_four min_four   -- for this text's walks alone
set_option linter.unusedVariables false
set_option linter.unusedSimpArgs false

/-! ### spec_stepShapes: function 107 -/
mutual
def spec_stepShapes.j1 : Nat → Bool → List Int → List Bool → List Int → List Int → Bool → Option (List Int × List Bool × List Int × List Int × Bool × Bool)
 | 0,_,_,_,_,_,_ => none
 | k + 1,x6,i8,j2,i9,j3,j4 => if x6 = true then (if (i8.length : Int) ≤ 300 then (some (i8,j2,i9,j3,j4,decide ((i9.length : Int) ≤ 300))) else (some (i8,j2,i9,j3,j4,false))) else (some (i8,j2,i9,j3,j4,false))
def spec_stepShapes.j0 : Nat → Bool → List Int → List Bool → List Int → List Int → Bool → Int → Int → Option (List Int × List Bool × List Int × List Int × Bool × Bool)
 | 0,_,_,_,_,_,_,_,_ => none
 | k + 1,x61,i8,j2,i9,j3,j4,m2,n2 => if x61 = true then ((spec_markShapes.f k i8 j2 i9 j3 j4 m2).bind fun i6 => (spec_stepShapes.j1 k i6.2.2.2.2.2 i6.1 i6.2.1 i6.2.2.1 i6.2.2.2.1 i6.2.2.2.2.1)) else ((spec_takeShapes.f k i8 j2 i9 j3 j4 m2 n2).bind fun i7 => (spec_stepShapes.j1 k i7.2.2.2.2.2 i7.1 i7.2.1 i7.2.2.1 i7.2.2.2.1 i7.2.2.2.2.1))
end
def spec_stepShapes.f (k : Nat) (d4 : List Int) (e1 : List Bool) (b8 : List Int) (b6 : List Int) (i4 : Bool) (d5 : Int) (e6 : Int) : Option (List Int × List Bool × List Int × List Int × Bool × Bool) := if i4 = true then (some (d4,e1,b8,b6,i4,false)) else ((spec_newKind.f d5).bind fun j5 => (if j5 ≥ 0 then ((spec_newKind.f d5).bind fun j9 => ((spec_pushShape.f d4 e1 b8 b6 i4 j9).bind fun g7 => (spec_stepShapes.j1 k true g7.1 g7.2.1 g7.2.2.1 g7.2.2.2.1 g7.2.2.2.2))) else (if d5 = 2 then (if b8.length < 17592186044416 then (spec_stepShapes.j1 k true d4 e1 (b8 ++ [(-1)]) b6 i4) else (none)) else (if d5 = 16 then (if 0 ≤ e6 then (if e6 < (b6.length : Int) then (if (rd b6 e6) < 0 then (some (d4,e1,b8,b6,i4,false)) else (if b8.length < 17592186044416 then (spec_stepShapes.j1 k true d4 e1 (b8 ++ [rd b6 e6]) b6 i4) else (none))) else (none)) else (none)) else (if d5 = 3 then (spec_stepShapes.j0 k true d4 e1 b8 b6 i4 d5 e6) else (if d5 = 9 then (spec_stepShapes.j0 k true d4 e1 b8 b6 i4 d5 e6) else (if d5 = 12 then (spec_stepShapes.j0 k true d4 e1 b8 b6 i4 d5 e6) else (spec_stepShapes.j0 k (d5 == 18) d4 e1 b8 b6 i4 d5 e6))))))))
set_option maxRecDepth 100000 in
theorem spec_stepShapes.mono_l : ∀ k,(∀ y0 y1 y2 y3 y4 y5,LeO (spec_stepShapes.j1 k y0 y1 y2 y3 y4 y5) (spec_stepShapes.j1 (k + 1) y0 y1 y2 y3 y4 y5)) ∧ (∀ y0 y1 y2 y3 y4 y5 y6 y7,LeO (spec_stepShapes.j0 k y0 y1 y2 y3 y4 y5 y6 y7) (spec_stepShapes.j0 (k + 1) y0 y1 y2 y3 y4 y5 y6 y7))
 | 0 => ⟨fun _ _ _ _ _ _ r h => (by cases h),fun _ _ _ _ _ _ _ _ r h => (by cases h)⟩
 | k + 1 => by
  obtain ⟨ih0,ih1⟩ := spec_stepShapes.mono_l k
  refine ⟨?_,?_⟩
  ·intro y0 y1 y2 y3 y4 y5
   unfold spec_stepShapes.j1
   repeat' first
   | (with_reducible exact ih0 _ _ _ _ _ _)
   | (with_reducible exact ih1 _ _ _ _ _ _ _ _)
   | (with_reducible exact spec_markShapes.mono _ _ _ _ _ _ _)
   | (with_reducible exact spec_takeShapes.mono _ _ _ _ _ _ _ _)
   | (with_reducible exact LeO.refl _)
   | (with_reducible exact LeO.none _)
   | (with_reducible refine LeO.ite ?_ ?_)
   | (with_reducible refine LeO.bind ?_ (fun _ => ?_))
   | exact ih0 _ _ _ _ _ _
   | exact ih1 _ _ _ _ _ _ _ _
   | exact spec_markShapes.mono _ _ _ _ _ _ _
   | exact spec_takeShapes.mono _ _ _ _ _ _ _ _
   | exact LeO.none _
   | refine LeO.ite ?_ ?_
   | refine LeO.bind ?_ (fun _ => ?_)
  ·intro y0 y1 y2 y3 y4 y5 y6 y7
   unfold spec_stepShapes.j0
   repeat' first
   | (with_reducible exact ih0 _ _ _ _ _ _)
   | (with_reducible exact ih1 _ _ _ _ _ _ _ _)
   | (with_reducible exact spec_markShapes.mono _ _ _ _ _ _ _)
   | (with_reducible exact spec_takeShapes.mono _ _ _ _ _ _ _ _)
   | (with_reducible exact LeO.refl _)
   | (with_reducible exact LeO.none _)
   | (with_reducible refine LeO.ite ?_ ?_)
   | (with_reducible refine LeO.bind ?_ (fun _ => ?_))
   | exact ih0 _ _ _ _ _ _
   | exact ih1 _ _ _ _ _ _ _ _
   | exact spec_markShapes.mono _ _ _ _ _ _ _
   | exact spec_takeShapes.mono _ _ _ _ _ _ _ _
   | exact LeO.none _
   | refine LeO.ite ?_ ?_
   | refine LeO.bind ?_ (fun _ => ?_)
set_option maxRecDepth 100000 in
theorem spec_stepShapes.mono : ∀ a0 a1 a2 a3 a4 a5 a6 k,LeO (spec_stepShapes.f k a0 a1 a2 a3 a4 a5 a6) (spec_stepShapes.f (k + 1) a0 a1 a2 a3 a4 a5 a6) := by
 intro a0 a1 a2 a3 a4 a5 a6 k
 obtain ⟨ih0,ih1⟩ := spec_stepShapes.mono_l k
 unfold spec_stepShapes.f
 repeat' first
   | (with_reducible exact ih0 _ _ _ _ _ _)
   | (with_reducible exact ih1 _ _ _ _ _ _ _ _)
   | (with_reducible exact spec_markShapes.mono _ _ _ _ _ _ _)
   | (with_reducible exact spec_takeShapes.mono _ _ _ _ _ _ _ _)
   | (with_reducible exact LeO.refl _)
   | (with_reducible exact LeO.none _)
   | (with_reducible refine LeO.ite ?_ ?_)
   | (with_reducible refine LeO.bind ?_ (fun _ => ?_))
   | exact ih0 _ _ _ _ _ _
   | exact ih1 _ _ _ _ _ _ _ _
   | exact spec_markShapes.mono _ _ _ _ _ _ _
   | exact spec_takeShapes.mono _ _ _ _ _ _ _ _
   | exact LeO.none _
   | refine LeO.ite ?_ ?_
   | refine LeO.bind ?_ (fun _ => ?_)
def spec_stepShapes.T12 : Bool × List (List Nat × List Nat) := (true,[([],[]),([0],[0]),([],[]),([2],[2]),([],[]),([4],[4]),([3,5],[3,5]),([6],[6]),([7],[7]),([1,8],[1,8]),([0,1,2,3,4,5,6,7,8,9],[]),([10,9,9,0,1,2,3,4,5,6,7,8,9],[9,10])])
def spec_stepShapes.B12 : List Nat := [0,1,0,4,0,16,60,124,252,511,1023,2047]
theorem spec_stepShapes.tab12 : rtab .any (opsOf Try.f107 12) = spec_stepShapes.T12 := by kernel_rfl
theorem spec_stepShapes.bits12 : waitsOk spec_stepShapes.T12.2 spec_stepShapes.B12 = true := by kernel_rfl
def spec_stepShapes.T15 : Bool × List (List Nat × List Nat) := (true,[([],[]),([],[]),([1],[1]),([2],[2]),([3,2],[2,3]),([4,2],[2,4]),([5,2],[2,5]),([2,6],[2,6]),([7,2],[7]),([8],[8]),([9,8],[8,9]),([10,8],[8,10]),([11,8],[8,11]),([8,12],[8,12]),([0,8,0],[0]),([13,14,0,1,2,3,4,5,6,7,8,9,10,11,12,13,14],[13])])
def spec_stepShapes.B15 : List Nat := [0,0,2,6,14,30,62,126,254,510,1022,2046,4094,8190,511,32767]
theorem spec_stepShapes.tab15 : rtab .any (opsOf Try.f107 15) = spec_stepShapes.T15 := by kernel_rfl
theorem spec_stepShapes.bits15 : waitsOk spec_stepShapes.T15.2 spec_stepShapes.B15 = true := by kernel_rfl
set_option maxHeartbeats 8000000 in
set_option maxRecDepth 100000 in
theorem spec_stepShapes.calls (k : Nat) (d0 : Nat → Prop) (l4 : Value) (d4 : List Int) (d7 : Nat → Prop) (m1 : Value) (e1 : List Bool) (d1 : Nat → Prop) (l5 : Value) (b8 : List Int) (d2 : Nat → Prop) (l6 : Value) (b6 : List Int) (i4 : Bool) (d5 : Int) (e6 : Int) (r1 : List Int) (r2 : List Bool) (r3 : List Int) (r4 : List Int) (r5 : Bool) (r6 : Bool) (w0 w : World) (hB : Below w0.heap.size w0 w) (ho0_0 : Kd.R (Kd.int .i64) 3 w w0.heap.size d0 l4 d4) (m4 : ∀ k_,d0 k_ → ¬ d1 k_) (m5 : ∀ k_,d0 k_ → ¬ d2 k_) (ho0_1 : Kd.R Kd.bool 4 w w0.heap.size d7 m1 e1) (ho0_2 : Kd.R (Kd.int .i64) 3 w w0.heap.size d1 l5 b8) (m6 : ∀ k_,d1 k_ → ¬ d0 k_) (m7 : ∀ k_,d1 k_ → ¬ d2 k_) (ho0_3 : Kd.R (Kd.int .i64) 3 w w0.heap.size d2 l6 b6) (m8 : ∀ k_,d2 k_ → ¬ d0 k_) (m9 : ∀ k_,d2 k_ → ¬ d1 k_) (h : spec_stepShapes.f k d4 e1 b8 b6 i4 d5 e6 = some (r1,r2,r3,r4,r5,r6)) :
  Calls Try.prog 107 #[.agg #[l4,m1,l5,l6,.bool i4],.agg #[.int .i64 d5,.int .i64 e6]] w fun e w' => ∃ v0_ v1_ v2_ v3_ : Value,e = .returned (.tuple #[.agg #[v0_,v1_,v2_,v3_,.bool r5],.bool r6]) ∧ Kd.R (Kd.int .i64) 3 w' w0.heap.size (fun k_ => ((d0 k_ ∨ d7 k_ ∨ d1 k_ ∨ d2 k_) ∨ w.heap.size ≤ k_) ∧ some k_ ≠ (v2_ : Value).ownBlock ∧ some k_ ≠ (v3_ : Value).ownBlock) v0_ r1 ∧ Kd.R Kd.bool 4 w' w0.heap.size (fun k_ => ((d0 k_ ∨ d7 k_ ∨ d1 k_ ∨ d2 k_) ∨ w.heap.size ≤ k_)) v1_ r2 ∧ Kd.R (Kd.int .i64) 3 w' w0.heap.size (fun k_ => ((d0 k_ ∨ d7 k_ ∨ d1 k_ ∨ d2 k_) ∨ w.heap.size ≤ k_) ∧ some k_ ≠ (v0_ : Value).ownBlock ∧ some k_ ≠ (v3_ : Value).ownBlock) v2_ r3 ∧ Kd.R (Kd.int .i64) 3 w' w0.heap.size (fun k_ => ((d0 k_ ∨ d7 k_ ∨ d1 k_ ∨ d2 k_) ∨ w.heap.size ≤ k_) ∧ some k_ ≠ (v0_ : Value).ownBlock ∧ some k_ ≠ (v2_ : Value).ownBlock) v3_ r4 ∧ Below w0.heap.size w0 w' ∧ Kept w w' (fun k_ => d0 k_ ∨ d7 k_ ∨ d1 k_ ∨ d2 k_) := by
 have hu120 := Try.underlying120
 have hu75 := Try.underlying75
 have d6 := As_ (show Kd.R (Kd.int .i64) 3 w w0.heap.size (fun k_ => ((d0 k_ ∨ d7 k_ ∨ d1 k_ ∨ d2 k_) ∨ w.heap.size ≤ k_) ∧ some k_ ≠ (l5 : Value).ownBlock ∧ some k_ ≠ (l6 : Value).ownBlock) l4 d4 from Kd.R_mono ho0_0 (fun k_ hk => ⟨(.inl (.inl hk)),fun e_ => m4 k_ hk (ho0_2.1 k_ e_.symm),fun e_ => m5 k_ hk (ho0_3.1 k_ e_.symm)⟩))
 have d8 := As_ (show Kd.R Kd.bool 4 w w0.heap.size (fun k_ => ((d0 k_ ∨ d7 k_ ∨ d1 k_ ∨ d2 k_) ∨ w.heap.size ≤ k_)) m1 e1 from Kd.R_mono ho0_1 (fun k_ hk => (.inl (.inr (.inl hk)))))
 have b9 := As_ (show Kd.R (Kd.int .i64) 3 w w0.heap.size (fun k_ => ((d0 k_ ∨ d7 k_ ∨ d1 k_ ∨ d2 k_) ∨ w.heap.size ≤ k_) ∧ some k_ ≠ (l4 : Value).ownBlock ∧ some k_ ≠ (l6 : Value).ownBlock) l5 b8 from Kd.R_mono ho0_2 (fun k_ hk => ⟨(.inl (.inr (.inr (.inl hk)))),fun e_ => m6 k_ hk (ho0_0.1 k_ e_.symm),fun e_ => m7 k_ hk (ho0_3.1 k_ e_.symm)⟩))
 have d3 := As_ (show Kd.R (Kd.int .i64) 3 w w0.heap.size (fun k_ => ((d0 k_ ∨ d7 k_ ∨ d1 k_ ∨ d2 k_) ∨ w.heap.size ≤ k_) ∧ some k_ ≠ (l4 : Value).ownBlock ∧ some k_ ≠ (l5 : Value).ownBlock) l6 b6 from Kd.R_mono ho0_3 (fun k_ hk => ⟨(.inl (.inr (.inr (.inr hk)))),fun e_ => m8 k_ hk (ho0_0.1 k_ e_.symm),fun e_ => m9 k_ hk (ho0_2.1 k_ e_.symm)⟩))
 have HK := As_ (Kept.refl w (fun k_ => d0 k_ ∨ d7 k_ ∨ d1 k_ ∨ d2 k_))
 have HW0 := As_ hB.size
 have HB := As_ hB
 clear hB
 have H : (if i4 = true then (some (d4,e1,b8,b6,i4,false)) else ((spec_newKind.f d5).bind fun j5 => (if j5 ≥ 0 then ((spec_newKind.f d5).bind fun j9 => ((spec_pushShape.f d4 e1 b8 b6 i4 j9).bind fun g7 => (spec_stepShapes.j1 k true g7.1 g7.2.1 g7.2.2.1 g7.2.2.2.1 g7.2.2.2.2))) else (if d5 = 2 then (if b8.length < 17592186044416 then (spec_stepShapes.j1 k true d4 e1 (b8 ++ [(-1)]) b6 i4) else (none)) else (if d5 = 16 then (if 0 ≤ e6 then (if e6 < (b6.length : Int) then (if (rd b6 e6) < 0 then (some (d4,e1,b8,b6,i4,false)) else (if b8.length < 17592186044416 then (spec_stepShapes.j1 k true d4 e1 (b8 ++ [rd b6 e6]) b6 i4) else (none))) else (none)) else (none)) else (if d5 = 3 then (spec_stepShapes.j0 k true d4 e1 b8 b6 i4 d5 e6) else (if d5 = 9 then (spec_stepShapes.j0 k true d4 e1 b8 b6 i4 d5 e6) else (if d5 = 12 then (spec_stepShapes.j0 k true d4 e1 b8 b6 i4 d5 e6) else (spec_stepShapes.j0 k (d5 == 18) d4 e1 b8 b6 i4 d5 e6))))))))) = some (r1,r2,r3,r4,r5,r6) := h
 clear h
 by_cases c3 : i4 = true
 ·subst c3
  have H1 : (some (d4,e1,b8,b6,true,false)) = some (r1,r2,r3,r4,r5,r6) := by rw [if_pos rfl] at H;exact H
  clear H
  have H := H1
  clear H1
  simp only [Option.some.injEq,Prod.mk.injEq] at H
  obtain ⟨rfl,rfl,rfl,rfl,rfl,rfl⟩ := H
  obtain ⟨Ao4,co4,eo4⟩ := Kd.R_slice d6.out
  subst eo4
  obtain ⟨Ao5,co5,eo5⟩ := Kd.R_slice d8.out
  subst eo5
  obtain ⟨Ao6,co6,eo6⟩ := Kd.R_slice b9.out
  subst eo6
  obtain ⟨Ao7,co7,eo7⟩ := Kd.R_slice d3.out
  subst eo7
  go_enter Try.func107,Try.ntmps107
  go_wp2_with (first|((with_reducible refine gate_dst (N := 2) rfl ?_);(try (refine gate_guard (by rfl) ?_;dsimp only));refine box_event ?hg (N := 2) ?hd (cs := #[.slice Ao4 d4.length co4,.slice Ao5 e1.length co5,.slice Ao6 b8.length co6,.slice Ao7 b6.length co7,.bool true]) (t := 120) ?hr ?_;(case hd => rfl);(case hg => rfl);(case hr => go_simp <;> rfl);intro b1 hg w8 hbox hb;have n0_ := As_ (Kd.R_below (zR_ d6.out) hb);have n1_ := As_ (Kd.R_below (zR_ d8.out) hb);have n2_ := As_ (Kd.R_below (zR_ b9.out) hb);have n3_ := As_ (Kd.R_below (zR_ d3.out) hb);have n4_ := As_ (Kept.below (S := (fun k_ => d0 k_ ∨ d7 k_ ∨ d1 k_ ∨ d2 k_)) (zq0 HK.out) hb);have n5_ := As_ (bwT (zb0 HB.out) hb);have n6_ := As_ (hbox);have n7_ := As_ ((by rw [hg];exact (kz HK.out) : w.heap.size ≤ b1));have n8_ := As_ ((by rw [hg];exact (bwZ (zb0 HB.out)) : w0.heap.size ≤ b1));clear d6 d8 b9 d3 HK HB;revert n0_ n1_ n2_ n3_ n4_ n5_ n6_ n7_ n8_;intro d6 d8 b9 d3 HK HB a7 g8 e8;clear hb hbox hg)|((with_reducible refine gate_dst (N := 3) rfl ?_);(try (refine gate_guard (by rfl) ?_;dsimp only));refine box_event ?hg (N := 3) ?hd (cs := #[.int .i64 d5,.int .i64 e6]) (t := 75) ?hr ?_;(case hd => rfl);(case hg => rfl);(case hr => go_simp <;> rfl);intro i2 hg w9 hbox hb;have n0_ := As_ (Kd.R_below (zR_ d6.out) hb);have n1_ := As_ (Kd.R_below (zR_ d8.out) hb);have n2_ := As_ (Kd.R_below (zR_ b9.out) hb);have n3_ := As_ (Kd.R_below (zR_ d3.out) hb);have n4_ := As_ (zkb a7.out hb);have n5_ := As_ (Kept.below (S := (fun k_ => d0 k_ ∨ d7 k_ ∨ d1 k_ ∨ d2 k_)) (zq1 HK.out g8.out) hb);have n6_ := As_ (bwT (zb1 HB.out e8.out) hb);have n7_ := As_ (hbox);have n8_ := As_ ((by rw [hg];exact (kz HK.out) : w.heap.size ≤ i2));have n9_ := As_ ((by rw [hg];exact (bwZ (zb1 HB.out e8.out)) : w0.heap.size ≤ i2));have n10_ := As_ ((by rw [hg];exact Nat.ne_of_lt (zkl a7.out) : b1 ≠ i2));have n11_ := As_ ((by rw [hg];exact Nat.ne_of_gt (zkl a7.out) : i2 ≠ b1));clear d6 d8 b9 d3 a7 HK HB;revert n0_ n1_ n2_ n3_ n4_ n5_ n6_ n7_ n8_ n9_ n10_ n11_;intro d6 d8 b9 d3 a7 HK HB a9 g9 g6 e5 e2;clear hb hbox hg)|((with_reducible refine gate_dst (N := 4) rfl ?_);(try (refine gate_guard (by rfl) ?_;dsimp only));refine box_event ?hg (N := 4) ?hd (cs := #[.slice none 0 0,.slice none 0 0,.slice none 0 0,.slice none 0 0,.bool false]) (t := 120) ?hr ?_;(case hd => rfl);(case hg => rfl);(case hr => go_simp <;> rfl);intro e3 hg w10 hbox hb;have n0_ := As_ (Kd.R_below (zR_ d6.out) hb);have n1_ := As_ (Kd.R_below (zR_ d8.out) hb);have n2_ := As_ (Kd.R_below (zR_ b9.out) hb);have n3_ := As_ (Kd.R_below (zR_ d3.out) hb);have n4_ := As_ (zkb a7.out hb);have n5_ := As_ (zkb a9.out hb);have n6_ := As_ (Kept.below (S := (fun k_ => d0 k_ ∨ d7 k_ ∨ d1 k_ ∨ d2 k_)) (zq2 HK.out g8.out g9.out) hb);have n7_ := As_ (bwT (zb2 HB.out e8.out g6.out) hb);have n8_ := As_ (hbox);have n9_ := As_ ((by rw [hg];exact (kz HK.out) : w.heap.size ≤ e3));have n10_ := As_ ((by rw [hg];exact (bwZ (zb2 HB.out e8.out g6.out)) : w0.heap.size ≤ e3));have n11_ := As_ ((by rw [hg];exact Nat.ne_of_lt (zkl a7.out) : b1 ≠ e3));have n12_ := As_ ((by rw [hg];exact Nat.ne_of_gt (zkl a7.out) : e3 ≠ b1));have n13_ := As_ ((by rw [hg];exact Nat.ne_of_lt (zkl a9.out) : i2 ≠ e3));have n14_ := As_ ((by rw [hg];exact Nat.ne_of_gt (zkl a9.out) : e3 ≠ i2));clear d6 d8 b9 d3 a7 a9 HK HB;revert n0_ n1_ n2_ n3_ n4_ n5_ n6_ n7_ n8_ n9_ n10_ n11_ n12_ n13_ n14_;intro d6 d8 b9 d3 a7 a9 HK HB a8 i3 i1 b0 b7 d9 e0;clear hb hbox hg;have Y0 := e5.out;have Y1 := e2.out;have Y2 := b0.out;have Y3 := b7.out;have I2 : w10.cell? ⟨b1,0,none⟩ = some (.slice Ao4 d4.length co4) := (bkC a7.out 0).trans rfl;have I3 : w10.cell? ⟨b1,1,none⟩ = some (.slice Ao5 e1.length co5) := (bkC a7.out 1).trans rfl;have I4 : w10.cell? ⟨b1,2,none⟩ = some (.slice Ao6 b8.length co6) := (bkC a7.out 2).trans rfl;have I5 : w10.cell? ⟨b1,3,none⟩ = some (.slice Ao7 b6.length co7) := (bkC a7.out 3).trans rfl;have I6 : w10.cell? ⟨b1,4,none⟩ = some (.bool true) := (bkC a7.out 4).trans rfl;have I7 := bkF a7.out 0;have I8 := bkF a7.out 1;have I9 := bkF a7.out 2;have J0 := bkF a7.out 3;have J1 := bkF a7.out 4;have Y4 := e0.out;have Y5 := d9.out;have J2 : w10.cell? ⟨e3,0,none⟩ = some (.slice none 0 0) := (bkC a8.out 0).trans rfl;have J3 : w10.cell? ⟨e3,1,none⟩ = some (.slice none 0 0) := (bkC a8.out 1).trans rfl;have J4 : w10.cell? ⟨e3,2,none⟩ = some (.slice none 0 0) := (bkC a8.out 2).trans rfl;have J5 : w10.cell? ⟨e3,3,none⟩ = some (.slice none 0 0) := (bkC a8.out 3).trans rfl;have J6 : w10.cell? ⟨e3,4,none⟩ = some (.bool false) := (bkC a8.out 4).trans rfl;have J7 := bkF a8.out 0;have J8 := bkF a8.out 1;have J9 := bkF a8.out 2;have K0 := bkF a8.out 3;have K1 := bkF a8.out 4))
  refine bodyPost_ret (results_ct rfl _ _ e3 120 #[.slice Ao4 d4.length co4,.slice Ao5 e1.length co5,.slice Ao6 b8.length co6,.slice Ao7 b6.length co7,.bool true] (0,0) _ rfl (p5 a8.out) Try.underlying120 rfl (by kernel_rfl)) rfl ?_
  exact ⟨_,_,_,_,zE_,by exact Kd.R_mono (rX5 d6.out a8.out) (fun _ hk => ⟨hk.1.1,⟨hk.1.2.1,hk.1.2.2⟩⟩),by exact Kd.R_mono (rX5 d8.out a8.out) (fun _ hk => hk.1),by exact Kd.R_mono (rX5 b9.out a8.out) (fun _ hk => ⟨hk.1.1,⟨hk.1.2.1,hk.1.2.2⟩⟩),by exact Kd.R_mono (rX5 d3.out a8.out) (fun _ hk => ⟨hk.1.1,⟨hk.1.2.1,hk.1.2.2⟩⟩),zb3 HB.out e8.out g6.out i1.out,zq3 HK.out g8.out g9.out i3.out⟩
 replace c3 := Bool.eq_false_iff.mpr c3
 subst c3
 have H1 : ((spec_newKind.f d5).bind fun j5 => (if j5 ≥ 0 then ((spec_newKind.f d5).bind fun j9 => ((spec_pushShape.f d4 e1 b8 b6 false j9).bind fun g7 => (spec_stepShapes.j1 k true g7.1 g7.2.1 g7.2.2.1 g7.2.2.2.1 g7.2.2.2.2))) else (if d5 = 2 then (if b8.length < 17592186044416 then (spec_stepShapes.j1 k true d4 e1 (b8 ++ [(-1)]) b6 false) else (none)) else (if d5 = 16 then (if 0 ≤ e6 then (if e6 < (b6.length : Int) then (if (rd b6 e6) < 0 then (some (d4,e1,b8,b6,false,false)) else (if b8.length < 17592186044416 then (spec_stepShapes.j1 k true d4 e1 (b8 ++ [rd b6 e6]) b6 false) else (none))) else (none)) else (none)) else (if d5 = 3 then (spec_stepShapes.j0 k true d4 e1 b8 b6 false d5 e6) else (if d5 = 9 then (spec_stepShapes.j0 k true d4 e1 b8 b6 false d5 e6) else (if d5 = 12 then (spec_stepShapes.j0 k true d4 e1 b8 b6 false d5 e6) else (spec_stepShapes.j0 k (d5 == 18) d4 e1 b8 b6 false d5 e6)))))))) = some (r1,r2,r3,r4,r5,r6) := by rw [if_neg (show ¬ (false = true) by decide)] at H;exact H
 clear H
 have H := H1
 clear H1
 have HC16 := As_ H
 clear H
 obtain ⟨Ao17,co17,eo17⟩ := Kd.R_slice d6.out
 subst eo17
 obtain ⟨Ao18,co18,eo18⟩ := Kd.R_slice d8.out
 subst eo18
 obtain ⟨Ao19,co19,eo19⟩ := Kd.R_slice b9.out
 subst eo19
 obtain ⟨Ao20,co20,eo20⟩ := Kd.R_slice d3.out
 subst eo20
 go_enter Try.func107,Try.ntmps107
 go_upto_block 0 with (first|((with_reducible refine gate_dst (N := 2) rfl ?_);(try (refine gate_guard (by rfl) ?_;dsimp only));refine box_event ?hg (N := 2) ?hd (cs := #[.slice Ao17 d4.length co17,.slice Ao18 e1.length co18,.slice Ao19 b8.length co19,.slice Ao20 b6.length co20,.bool false]) (t := 120) ?hr ?_;(case hd => rfl);(case hg => rfl);(case hr => go_simp <;> rfl);intro b1 hg w21 hbox hb;have n0_ := As_ (Kd.R_below (zR_ d6.out) hb);have n1_ := As_ (Kd.R_below (zR_ d8.out) hb);have n2_ := As_ (Kd.R_below (zR_ b9.out) hb);have n3_ := As_ (Kd.R_below (zR_ d3.out) hb);have n4_ := As_ (Kept.below (S := (fun k_ => d0 k_ ∨ d7 k_ ∨ d1 k_ ∨ d2 k_)) (zq0 HK.out) hb);have n5_ := As_ (bwT (zb0 HB.out) hb);have n6_ := As_ (hbox);have n7_ := As_ ((by rw [hg];exact (kz HK.out) : w.heap.size ≤ b1));have n8_ := As_ ((by rw [hg];exact (bwZ (zb0 HB.out)) : w0.heap.size ≤ b1));clear d6 d8 b9 d3 HK HB;revert n0_ n1_ n2_ n3_ n4_ n5_ n6_ n7_ n8_;intro d6 d8 b9 d3 HK HB a7 g8 e8;clear hb hbox hg)|((with_reducible refine gate_dst (N := 3) rfl ?_);(try (refine gate_guard (by rfl) ?_;dsimp only));refine box_event ?hg (N := 3) ?hd (cs := #[.int .i64 d5,.int .i64 e6]) (t := 75) ?hr ?_;(case hd => rfl);(case hg => rfl);(case hr => go_simp <;> rfl);intro i2 hg w22 hbox hb;have n0_ := As_ (Kd.R_below (zR_ d6.out) hb);have n1_ := As_ (Kd.R_below (zR_ d8.out) hb);have n2_ := As_ (Kd.R_below (zR_ b9.out) hb);have n3_ := As_ (Kd.R_below (zR_ d3.out) hb);have n4_ := As_ (zkb a7.out hb);have n5_ := As_ (Kept.below (S := (fun k_ => d0 k_ ∨ d7 k_ ∨ d1 k_ ∨ d2 k_)) (zq1 HK.out g8.out) hb);have n6_ := As_ (bwT (zb1 HB.out e8.out) hb);have n7_ := As_ (hbox);have n8_ := As_ ((by rw [hg];exact (kz HK.out) : w.heap.size ≤ i2));have n9_ := As_ ((by rw [hg];exact (bwZ (zb1 HB.out e8.out)) : w0.heap.size ≤ i2));have n10_ := As_ ((by rw [hg];exact Nat.ne_of_lt (zkl a7.out) : b1 ≠ i2));have n11_ := As_ ((by rw [hg];exact Nat.ne_of_gt (zkl a7.out) : i2 ≠ b1));clear d6 d8 b9 d3 a7 HK HB;revert n0_ n1_ n2_ n3_ n4_ n5_ n6_ n7_ n8_ n9_ n10_ n11_;intro d6 d8 b9 d3 a7 HK HB a9 g9 g6 e5 e2;clear hb hbox hg)|((with_reducible refine gate_dst (N := 4) rfl ?_);(try (refine gate_guard (by rfl) ?_;dsimp only));refine box_event ?hg (N := 4) ?hd (cs := #[.slice none 0 0,.slice none 0 0,.slice none 0 0,.slice none 0 0,.bool false]) (t := 120) ?hr ?_;(case hd => rfl);(case hg => rfl);(case hr => go_simp <;> rfl);intro e3 hg w23 hbox hb;have n0_ := As_ (Kd.R_below (zR_ d6.out) hb);have n1_ := As_ (Kd.R_below (zR_ d8.out) hb);have n2_ := As_ (Kd.R_below (zR_ b9.out) hb);have n3_ := As_ (Kd.R_below (zR_ d3.out) hb);have n4_ := As_ (zkb a7.out hb);have n5_ := As_ (zkb a9.out hb);have n6_ := As_ (Kept.below (S := (fun k_ => d0 k_ ∨ d7 k_ ∨ d1 k_ ∨ d2 k_)) (zq2 HK.out g8.out g9.out) hb);have n7_ := As_ (bwT (zb2 HB.out e8.out g6.out) hb);have n8_ := As_ (hbox);have n9_ := As_ ((by rw [hg];exact (kz HK.out) : w.heap.size ≤ e3));have n10_ := As_ ((by rw [hg];exact (bwZ (zb2 HB.out e8.out g6.out)) : w0.heap.size ≤ e3));have n11_ := As_ ((by rw [hg];exact Nat.ne_of_lt (zkl a7.out) : b1 ≠ e3));have n12_ := As_ ((by rw [hg];exact Nat.ne_of_gt (zkl a7.out) : e3 ≠ b1));have n13_ := As_ ((by rw [hg];exact Nat.ne_of_lt (zkl a9.out) : i2 ≠ e3));have n14_ := As_ ((by rw [hg];exact Nat.ne_of_gt (zkl a9.out) : e3 ≠ i2));clear d6 d8 b9 d3 a7 a9 HK HB;revert n0_ n1_ n2_ n3_ n4_ n5_ n6_ n7_ n8_ n9_ n10_ n11_ n12_ n13_ n14_;intro d6 d8 b9 d3 a7 a9 HK HB a8 i3 i1 b0 b7 d9 e0;clear hb hbox hg;have Y6 := e5.out;have Y7 := e2.out;have Y8 := b0.out;have Y9 := b7.out;have K2 : w23.cell? ⟨b1,0,none⟩ = some (.slice Ao17 d4.length co17) := (bkC a7.out 0).trans rfl;have K3 : w23.cell? ⟨b1,1,none⟩ = some (.slice Ao18 e1.length co18) := (bkC a7.out 1).trans rfl;have K4 : w23.cell? ⟨b1,2,none⟩ = some (.slice Ao19 b8.length co19) := (bkC a7.out 2).trans rfl;have K5 : w23.cell? ⟨b1,3,none⟩ = some (.slice Ao20 b6.length co20) := (bkC a7.out 3).trans rfl;have K6 : w23.cell? ⟨b1,4,none⟩ = some (.bool false) := (bkC a7.out 4).trans rfl;have K7 := bkF a7.out 0;have K8 := bkF a7.out 1;have K9 := bkF a7.out 2;have L0 := bkF a7.out 3;have L1 := bkF a7.out 4))
 (try simp only [Act.put,List.setIfInBounds_toArray,List.set_cons_zero,List.set_cons_succ])
 go_cut [6] (fun v6 wc => ∃ (kq : Nat) (m3 : Bool) (e4 : List Int) (e9 : List Bool) (e7 : List Int) (g4 : List Int) (g5 : Bool) (i5 : Bool) (j6 : Value) (l7 : Value) (j7 : Value) (j8 : Value),v6 = .bool m3 ∧ Aside0 (spec_stepShapes.j1 kq m3 e4 e9 e7 g4 g5 = some (r1,r2,r3,r4,r5,r6)) ∧ Aside0 (kq ≤ k) ∧ Aside0 (Kd.R (Kd.int .i64) 3 wc w0.heap.size (fun k_ => ((d0 k_ ∨ d7 k_ ∨ d1 k_ ∨ d2 k_) ∨ w.heap.size ≤ k_) ∧ some k_ ≠ (j7 : Value).ownBlock ∧ some k_ ≠ (j8 : Value).ownBlock) j6 e4) ∧ Aside0 (Kd.R Kd.bool 4 wc w0.heap.size (fun k_ => ((d0 k_ ∨ d7 k_ ∨ d1 k_ ∨ d2 k_) ∨ w.heap.size ≤ k_)) l7 e9) ∧ Aside0 (Kd.R (Kd.int .i64) 3 wc w0.heap.size (fun k_ => ((d0 k_ ∨ d7 k_ ∨ d1 k_ ∨ d2 k_) ∨ w.heap.size ≤ k_) ∧ some k_ ≠ (j6 : Value).ownBlock ∧ some k_ ≠ (j8 : Value).ownBlock) j7 e7) ∧ Aside0 (Kd.R (Kd.int .i64) 3 wc w0.heap.size (fun k_ => ((d0 k_ ∨ d7 k_ ∨ d1 k_ ∨ d2 k_) ∨ w.heap.size ≤ k_) ∧ some k_ ≠ (j6 : Value).ownBlock ∧ some k_ ≠ (j7 : Value).ownBlock) j8 g4) ∧ Aside0 (wc.heap[b1]? = some (.cells #[j6,l7,j7,j8,.bool g5] 120 (0,0))) ∧ Aside0 (wc.heap[i2]? = some (.cells #[.int .i64 d5,.int .i64 e6] 75 (0,0))) ∧ Aside0 (wc.heap[e3]? = some (.cells #[(.slice none 0 0),(.slice none 0 0),(.slice none 0 0),(.slice none 0 0),.bool i5] 120 (0,0))) ∧ Aside0 (Kept w wc (fun k_ => d0 k_ ∨ d7 k_ ∨ d1 k_ ∨ d2 k_)) ∧ Aside0 (Below w0.heap.size w0 wc))
 case first =>
  have H := HC16.out
  clear HC16
  replace H := obS H
  obtain ⟨j5,A270,H⟩ := H
  replace H : (if j5 ≥ 0 then ((spec_newKind.f d5).bind fun j9 => ((spec_pushShape.f d4 e1 b8 b6 false j9).bind fun g7 => (spec_stepShapes.j1 k true g7.1 g7.2.1 g7.2.2.1 g7.2.2.2.1 g7.2.2.2.2))) else (if d5 = 2 then (if b8.length < 17592186044416 then (spec_stepShapes.j1 k true d4 e1 (b8 ++ [(-1)]) b6 false) else (none)) else (if d5 = 16 then (if 0 ≤ e6 then (if e6 < (b6.length : Int) then (if (rd b6 e6) < 0 then (some (d4,e1,b8,b6,false,false)) else (if b8.length < 17592186044416 then (spec_stepShapes.j1 k true d4 e1 (b8 ++ [rd b6 e6]) b6 false) else (none))) else (none)) else (none)) else (if d5 = 3 then (spec_stepShapes.j0 k true d4 e1 b8 b6 false d5 e6) else (if d5 = 9 then (spec_stepShapes.j0 k true d4 e1 b8 b6 false d5 e6) else (if d5 = 12 then (spec_stepShapes.j0 k true d4 e1 b8 b6 false d5 e6) else (spec_stepShapes.j0 k (d5 == 18) d4 e1 b8 b6 false d5 e6))))))) = some (r1,r2,r3,r4,r5,r6) := H
  have A27 := As_ A270
  clear A270
  by_cases c28 : j5 ≥ 0
  ·rw [if_pos c28] at H
   have l9 : decide (0 ≤ j5) = true := deT c28
   clear c28
   (first|rw [l9]|(simp only [i64_w,i32_w];rw [l9])|skip)
   replace H := obS H
   obtain ⟨j9,A290,H⟩ := H
   replace H : ((spec_pushShape.f d4 e1 b8 b6 false j9).bind fun g7 => (spec_stepShapes.j1 k true g7.1 g7.2.1 g7.2.2.1 g7.2.2.2.1 g7.2.2.2.2)) = some (r1,r2,r3,r4,r5,r6) := H
   have A29 := As_ A290
   clear A290
   replace H := obS H
   obtain ⟨⟨n3,n4,n5,n6,t0⟩,A300,H⟩ := H
   replace H : (spec_stepShapes.j1 k true n3 n4 n5 n6 t0) = some (r1,r2,r3,r4,r5,r6) := H
   have A30 := As_ A300
   clear A300
   have H' := As_ H
   clear H
   have Z0 := e2.out
   have Z1 := e5.out
   have Z2 := d9.out
   have Z3 := e0.out
   obtain ⟨n7,n8,n9,o0⟩ := bk2 a9.out
   try go_wp2_with (first|((with_reducible refine gate_callee (f := 122) rfl ?_);refine goesL_ (some 22) rfl rfl Try.func122 (by kernel_rfl) rfl #[.int .i64 d5] rfl zM_ ?_;(with_reducible refine (spec_newKind.calls d5 j5 _ A27.out).mono ?_);rintro e w' ⟨rfl,⟨nd,rfl⟩⟩;refine ⟨_,rfl,?_⟩;(try (rw [drewN_self w23];generalize hq_ : World.drewN w23 _ = w23;have n0_ : Aside0 (Kd.R (Kd.int .i64) 3 w23 w0.heap.size (fun k_ => ((d0 k_ ∨ d7 k_ ∨ d1 k_ ∨ d2 k_) ∨ w.heap.size ≤ k_) ∧ some k_ ≠ (.slice Ao19 b8.length co19 : Value).ownBlock ∧ some k_ ≠ (.slice Ao20 b6.length co20 : Value).ownBlock) (.slice Ao17 d4.length co17) d4) := ⟨by rw [← hq_];exact (zR_ d6.out)⟩;have n1_ : Aside0 (Kd.R Kd.bool 4 w23 w0.heap.size (fun k_ => ((d0 k_ ∨ d7 k_ ∨ d1 k_ ∨ d2 k_) ∨ w.heap.size ≤ k_)) (.slice Ao18 e1.length co18) e1) := ⟨by rw [← hq_];exact (zR_ d8.out)⟩;have n2_ : Aside0 (Kd.R (Kd.int .i64) 3 w23 w0.heap.size (fun k_ => ((d0 k_ ∨ d7 k_ ∨ d1 k_ ∨ d2 k_) ∨ w.heap.size ≤ k_) ∧ some k_ ≠ (.slice Ao17 d4.length co17 : Value).ownBlock ∧ some k_ ≠ (.slice Ao20 b6.length co20 : Value).ownBlock) (.slice Ao19 b8.length co19) b8) := ⟨by rw [← hq_];exact (zR_ b9.out)⟩;have n3_ : Aside0 (Kd.R (Kd.int .i64) 3 w23 w0.heap.size (fun k_ => ((d0 k_ ∨ d7 k_ ∨ d1 k_ ∨ d2 k_) ∨ w.heap.size ≤ k_) ∧ some k_ ≠ (.slice Ao17 d4.length co17 : Value).ownBlock ∧ some k_ ≠ (.slice Ao19 b8.length co19 : Value).ownBlock) (.slice Ao20 b6.length co20) b6) := ⟨by rw [← hq_];exact (zR_ d3.out)⟩;have n4_ : Aside0 (w23.heap[b1]? = some (.cells #[.slice Ao17 d4.length co17,.slice Ao18 e1.length co18,.slice Ao19 b8.length co19,.slice Ao20 b6.length co20,.bool false] 120 (0,0))) := ⟨by rw [← hq_];exact (zk_ a7.out)⟩;have n5_ : Aside0 (w23.heap[i2]? = some (.cells #[.int .i64 d5,.int .i64 e6] 75 (0,0))) := ⟨by rw [← hq_];exact (zk_ a9.out)⟩;have n6_ : Aside0 (w23.heap[e3]? = some (.cells #[.slice none 0 0,.slice none 0 0,.slice none 0 0,.slice none 0 0,.bool false] 120 (0,0))) := ⟨by rw [← hq_];exact (zk_ a8.out)⟩;have n7_ : Aside0 (Kept w w23 (fun k_ => d0 k_ ∨ d7 k_ ∨ d1 k_ ∨ d2 k_)) := ⟨by rw [← hq_];exact (zq3 HK.out g8.out g9.out i3.out)⟩;have n8_ : Aside0 (Below w0.heap.size w0 w23) := ⟨by rw [← hq_];exact (zb3 HB.out e8.out g6.out i1.out)⟩;clear d6 d8 b9 d3 a7 a9 a8 HK HB hq_;revert n0_ n1_ n2_ n3_ n4_ n5_ n6_ n7_ n8_;intro d6 d8 b9 d3 a7 a9 a8 HK HB));obtain ⟨n7,n8,n9,o0⟩ := bk2 a9.out))
   have n0_ := As_ (Kd.R_drew d6.out)
   have n1_ := As_ (Kd.R_drew d8.out)
   have n2_ := As_ (Kd.R_drew b9.out)
   have n3_ := As_ (Kd.R_drew d3.out)
   have n4_ := As_ (bkD a7.out)
   have n5_ := As_ (bkD a9.out)
   have n6_ := As_ (bkD a8.out)
   have n7_ := As_ (Kept.drew HK.out)
   have n8_ := As_ (bwD HB.out)
   clear d6 d8 b9 d3 a7 a9 a8 HK HB
   revert n0_ n1_ n2_ n3_ n4_ n5_ n6_ n7_ n8_;intro d6 d8 b9 d3 a7 a9 a8 HK HB
   refine start_ (n := 6) (S := fun w' => w'.cell? ⟨b1,0,none⟩ = some (.slice Ao17 d4.length co17) ∧ w'.cell? ⟨b1,1,none⟩ = some (.slice Ao18 e1.length co18) ∧ w'.cell? ⟨b1,2,none⟩ = some (.slice Ao19 b8.length co19) ∧ w'.cell? ⟨b1,3,none⟩ = some (.slice Ao20 b6.length co20) ∧ w'.cell? ⟨b1,4,none⟩ = some (.bool false) ∧ w'.cell? ⟨i2,0,none⟩ = some (.int .i64 d5) ∧ w'.cell? ⟨i2,1,none⟩ = some (.int .i64 e6)) (ds := [5]) (bl_ 0 6) (by kernel_rfl) rfl rfl ⟨(bkC a7.out 0).trans rfl,(bkC a7.out 1).trans rfl,(bkC a7.out 2).trans rfl,(bkC a7.out 3).trans rfl,(bkC a7.out 4).trans rfl,(bkC a9.out 0).trans rfl,(bkC a9.out 1).trans rfl⟩ (fun hHeld => ?_)
   generalize w23.drew = w34 at d6 d8 b9 d3 a7 a9 a8 HK HB hHeld ⊢
   refine pure_ (i := 1) (N := some 25) (v := ?_) (a' := ?_) (bl_ 2 6) rfl rfl (by kernel_rfl) (fun _ _ _ h => h) (Or.inl ⟨by rfl,?_⟩) ?_ ?_;rotate_left;(intro w';go_simp;with_reducible rfl);rotate_left;(simp only [Act.put,sq_];rfl)
   refine take_ (i := 0) (N := some 24) (v := ?_) (a' := ?_) (bl_ 3 6) rfl rfl (by kernel_rfl) (fun _ _ _ h => h) (Or.inl ⟨by rfl,?_⟩) hHeld ?_ ?_;rotate_left;(rintro w' ⟨s0,s1,s2,s3,s4,s5,s6⟩;go_simp;with_reducible rfl);rotate_left;(simp only [Act.put,sq_];rfl)
   refine take_ (i := 2) (N := some 26) (v := ?_) (a' := ?_) (bl_ 7 6) rfl rfl (by kernel_rfl) (fun _ _ _ h => h) (Or.inl ⟨by rfl,?_⟩) hHeld ?_ ?_;rotate_left;(rintro w' ⟨s0,s1,s2,s3,s4,s5,s6⟩;go_simp;with_reducible rfl);rotate_left;(simp only [Act.put,sq_];rfl)
   refine one_ (i := 3) (N := some 27) (bl_ 15 6) rfl rfl (by kernel_rfl) (by decide) (fun K hK => ?_)
   refine goes_ Try.func122 (by kernel_rfl) rfl #[.int .i64 d5] (by rfl) rfl rfl zM_ ?_
   with_reducible refine (spec_newKind.calls d5 j9 _ A29.out).mono ?_
   rintro e w' ⟨rfl,⟨nd,rfl⟩⟩
   refine ⟨_,rfl,?_⟩
   refine hK.out _ _ ⟨(bkC a7.out 0).trans rfl,(bkC a7.out 1).trans rfl,(bkC a7.out 2).trans rfl,(bkC a7.out 3).trans rfl,(bkC a7.out 4).trans rfl,(bkC a9.out 0).trans rfl,(bkC a9.out 1).trans rfl⟩ (fun hHeld => ?_)
   clear hK K
   have n0_ := As_ (Kd.R_drewN d6.out nd)
   have n1_ := As_ (Kd.R_drewN d8.out nd)
   have n2_ := As_ (Kd.R_drewN b9.out nd)
   have n3_ := As_ (Kd.R_drewN d3.out nd)
   have n4_ := As_ (bkN a7.out nd)
   have n5_ := As_ (bkN a9.out nd)
   have n6_ := As_ (bkN a8.out nd)
   have n7_ := As_ (Kept.drewN HK.out nd)
   have n8_ := As_ (bwN HB.out nd)
   clear d6 d8 b9 d3 a7 a9 a8 HK HB
   generalize World.drewN w34 nd = w34b at n0_ n1_ n2_ n3_ n4_ n5_ n6_ n7_ n8_ ⊢
   revert n0_ n1_ n2_ n3_ n4_ n5_ n6_ n7_ n8_;intro d6 d8 b9 d3 a7 a9 a8 HK HB
   refine norm_ (a' := ?_) ?_ ?_
   rotate_left
   ·show Act.put _ (some 27) _ = _
    simp only [Act.put,sq_]
    rfl
   refine one_ (i := 4) (N := some 28) (bl_ 31 6) rfl rfl (by kernel_rfl) (by decide) (fun K hK => ?_)
   refine goes_ Try.func123 (by kernel_rfl) rfl #[.agg #[.slice Ao17 d4.length co17,.slice Ao18 e1.length co18,.slice Ao19 b8.length co19,.slice Ao20 b6.length co20,.bool false],.int .i64 j9] (by rfl) rfl rfl zM_ ?_
   with_reducible refine (spec_pushShape.calls (fun k_ => some k_ = (.slice Ao17 d4.length co17 : Value).ownBlock) (.slice Ao17 d4.length co17) d4 (fun k_ => some k_ = (.slice Ao18 e1.length co18 : Value).ownBlock) (.slice Ao18 e1.length co18) e1 (fun k_ => some k_ = (.slice Ao19 b8.length co19 : Value).ownBlock) (.slice Ao19 b8.length co19) b8 (fun k_ => some k_ = (.slice Ao20 b6.length co20 : Value).ownBlock) (.slice Ao20 b6.length co20) b6 false j9 n3 n4 n5 n6 t0 w0 _ ?side1 ?side2 ?side3 ?side4 ?side5 ?side6 ?side7 ?side8 ?side9 ?side10 ?side11 A30.out).mono ?_
   (case side1 => exact zb3 HB.out e8.out g6.out i1.out)
   (case side2 => exact Kd.R_tight rfl d6.out)
   (case side3 => exact fun k_ e_ => (d6.out.1 k_ e_.symm).2.1)
   (case side4 => exact fun k_ e_ => (d6.out.1 k_ e_.symm).2.2)
   (case side5 => exact Kd.R_tight rfl d8.out)
   (case side6 => exact Kd.R_tight rfl b9.out)
   (case side7 => exact fun k_ e_ => (b9.out.1 k_ e_.symm).2.1)
   (case side8 => exact fun k_ e_ => (b9.out.1 k_ e_.symm).2.2)
   (case side9 => exact Kd.R_tight rfl d3.out)
   (case side10 => exact fun k_ e_ => (d3.out.1 k_ e_.symm).2.1)
   (case side11 => exact fun k_ e_ => (d3.out.1 k_ e_.symm).2.2)
   rintro e w35 ⟨v758,v761,v764,v767,rfl,ho0,ho1,ho2,ho3,hb,hkp⟩
   refine ⟨_,rfl,?_⟩
   have n0_ := As_ (blk_kept (zk_ a7.out) hkp (no4 ⟨rne d6.out a7.out,rne d8.out a7.out,rne b9.out a7.out,rne d3.out a7.out⟩))
   have n1_ := As_ (blk_kept (zk_ a9.out) hkp (no4 ⟨rne d6.out a9.out,rne d8.out a9.out,rne b9.out a9.out,rne d3.out a9.out⟩))
   have n2_ := As_ (blk_kept (zk_ a8.out) hkp (no4 ⟨rne d6.out a8.out,rne d8.out a8.out,rne b9.out a8.out,rne d3.out a8.out⟩))
   have n3_ := As_ (Kd.R_mono (ok' := fun k_ => ((d0 k_ ∨ d7 k_ ∨ d1 k_ ∨ d2 k_) ∨ w.heap.size ≤ k_) ∧ some k_ ≠ (v764 : Value).ownBlock ∧ some k_ ≠ (v767 : Value).ownBlock) ho0 (fun k_ hk_ => ⟨Or.elim hk_.1 (or4 (fun hs_ => (d6.out.1 k_ (hs_).symm).1) (fun hs_ => (d8.out.1 k_ (hs_).symm)) (fun hs_ => (b9.out.1 k_ (hs_).symm).1) (fun hs_ => (d3.out.1 k_ (hs_).symm).1)) (fun hn_ => (.inr (Nat.le_trans (kz HK.out) hn_))),hk_.2.1,hk_.2.2⟩))
   have n4_ := As_ (Kd.R_mono (ok' := fun k_ => ((d0 k_ ∨ d7 k_ ∨ d1 k_ ∨ d2 k_) ∨ w.heap.size ≤ k_)) ho1 (fun k_ hk_ => Or.elim hk_ (or4 (fun hs_ => (d6.out.1 k_ (hs_).symm).1) (fun hs_ => (d8.out.1 k_ (hs_).symm)) (fun hs_ => (b9.out.1 k_ (hs_).symm).1) (fun hs_ => (d3.out.1 k_ (hs_).symm).1)) (fun hn_ => (.inr (Nat.le_trans (kz HK.out) hn_)))))
   have n5_ := As_ (Kd.R_mono (ok' := fun k_ => ((d0 k_ ∨ d7 k_ ∨ d1 k_ ∨ d2 k_) ∨ w.heap.size ≤ k_) ∧ some k_ ≠ (v758 : Value).ownBlock ∧ some k_ ≠ (v767 : Value).ownBlock) ho2 (fun k_ hk_ => ⟨Or.elim hk_.1 (or4 (fun hs_ => (d6.out.1 k_ (hs_).symm).1) (fun hs_ => (d8.out.1 k_ (hs_).symm)) (fun hs_ => (b9.out.1 k_ (hs_).symm).1) (fun hs_ => (d3.out.1 k_ (hs_).symm).1)) (fun hn_ => (.inr (Nat.le_trans (kz HK.out) hn_))),hk_.2.1,hk_.2.2⟩))
   have n6_ := As_ (Kd.R_mono (ok' := fun k_ => ((d0 k_ ∨ d7 k_ ∨ d1 k_ ∨ d2 k_) ∨ w.heap.size ≤ k_) ∧ some k_ ≠ (v758 : Value).ownBlock ∧ some k_ ≠ (v764 : Value).ownBlock) ho3 (fun k_ hk_ => ⟨Or.elim hk_.1 (or4 (fun hs_ => (d6.out.1 k_ (hs_).symm).1) (fun hs_ => (d8.out.1 k_ (hs_).symm)) (fun hs_ => (b9.out.1 k_ (hs_).symm).1) (fun hs_ => (d3.out.1 k_ (hs_).symm).1)) (fun hn_ => (.inr (Nat.le_trans (kz HK.out) hn_))),hk_.2.1,hk_.2.2⟩))
   have n7_ := As_ (Kept.then_ (S := (fun k_ => d0 k_ ∨ d7 k_ ∨ d1 k_ ∨ d2 k_)) (zq3 HK.out g8.out g9.out i3.out) hkp (fun k_ hs_ => Or.elim hs_ (fun e_ => (fun e_ => (d6.out.1 k_ e_.symm).1) e_) (fun e_ => Or.elim e_ (fun e_ => (fun e_ => (d8.out.1 k_ e_.symm)) e_) (fun e_ => Or.elim e_ (fun e_ => (fun e_ => (b9.out.1 k_ e_.symm).1) e_) (fun e_ => (fun e_ => (d3.out.1 k_ e_.symm).1) e_)))))
   have n8_ := As_ (hb)
   clear a7 a9 a8 HK HB d6 d8 b9 d3
   revert n0_ n1_ n2_ n3_ n4_ n5_ n6_ n7_ n8_;intro a7 a9 a8 q2 q3 q4 q5 HK HB
   obtain ⟨Ao36,co36,eo36⟩ := Kd.R_slice q2.out
   (first|subst eo36|(injection eo36 with f1_ f2_ f3_;have f4_ := f1_.symm;have f5_ := f3_.symm;clear f1_ f2_ f3_;subst f4_;subst f5_))
   obtain ⟨Ao38,co38,eo38⟩ := Kd.R_slice q3.out
   (first|subst eo38|(injection eo38 with f1_ f2_ f3_;have f4_ := f1_.symm;have f5_ := f3_.symm;clear f1_ f2_ f3_;subst f4_;subst f5_))
   obtain ⟨Ao40,co40,eo40⟩ := Kd.R_slice q4.out
   (first|subst eo40|(injection eo40 with f1_ f2_ f3_;have f4_ := f1_.symm;have f5_ := f3_.symm;clear f1_ f2_ f3_;subst f4_;subst f5_))
   obtain ⟨Ao42,co42,eo42⟩ := Kd.R_slice q5.out
   (first|subst eo42|(injection eo42 with f1_ f2_ f3_;have f4_ := f1_.symm;have f5_ := f3_.symm;clear f1_ f2_ f3_;subst f4_;subst f5_))
   refine hK.out _ _ ⟨(bkC a7.out 0).trans rfl,(bkC a7.out 1).trans rfl,(bkC a7.out 2).trans rfl,(bkC a7.out 3).trans rfl,(bkC a7.out 4).trans rfl,(bkC a9.out 0).trans rfl,(bkC a9.out 1).trans rfl⟩ (fun hHeld => ?_)
   clear hK K
   refine norm_ (a' := ?_) ?_ ?_
   rotate_left
   ·show Act.put _ (some 28) _ = _
    simp only [Act.put,sq_]
    rfl
   refine last_ (i := 5) (N := none) (bl_ 63 6) rfl rfl (by kernel_rfl) (by decide) (fun K hK => ?_)
   have a09 : w35.cell? ⟨b1,0,none⟩ = some (.slice Ao17 d4.length co17) := (bkC a7.out 0).trans rfl
   have Z4 := bkF a7.out 0
   have L2 := e2.out
   have L3 := b7.out
   have L4 := e5.out
   have L5 := b0.out
   have a1a : w35.cell? ⟨b1,1,none⟩ = some (.slice Ao18 e1.length co18) := (bkC a7.out 1).trans rfl
   have Z5 := bkF a7.out 1
   have L6 := e2.out
   have L7 := b7.out
   have L8 := e5.out
   have L9 := b0.out
   have a1b : w35.cell? ⟨b1,2,none⟩ = some (.slice Ao19 b8.length co19) := (bkC a7.out 2).trans rfl
   have Z6 := bkF a7.out 2
   have M0 := e2.out
   have M1 := b7.out
   have M2 := e5.out
   have M3 := b0.out
   have a1c : w35.cell? ⟨b1,3,none⟩ = some (.slice Ao20 b6.length co20) := (bkC a7.out 3).trans rfl
   have Z7 := bkF a7.out 3
   have M4 := e2.out
   have M5 := b7.out
   have M6 := e5.out
   have M7 := b0.out
   have a1d : w35.cell? ⟨b1,4,none⟩ = some (.bool false) := (bkC a7.out 4).trans rfl
   have Z8 := bkF a7.out 4
   have M8 := e2.out
   have M9 := b7.out
   have N0 := e5.out
   have N1 := b0.out
   refine skip_ (w1 := ?_) (by rfl) rfl ?_ ?_
   rotate_left
   ·go_simp
    rfl
   refine hK.out _ _ ?_
   clear hK K
   refine done_ (by kernel_rfl) ?_
   try go_wp2
   go_meet
   case rel => exact ⟨_,(true),(n3),(n4),(n5),(n6),(t0),(false),(.slice Ao36 n3.length co36),(.slice Ao38 n4.length co38),(.slice Ao40 n5.length co40),(.slice Ao42 n6.length co42),zT_,H',⟨by first|omega|exact Nat.le_refl _⟩,⟨by exact Kd.R_mono (rX5 q2.out a7.out) (fun _ hk => ⟨hk.1.1,⟨hk.1.2.1,hk.1.2.2⟩⟩)⟩,⟨by exact Kd.R_mono (rX5 q3.out a7.out) (fun _ hk => hk.1)⟩,⟨by exact Kd.R_mono (rX5 q4.out a7.out) (fun _ hk => ⟨hk.1.1,⟨hk.1.2.1,hk.1.2.2⟩⟩)⟩,⟨by exact Kd.R_mono (rX5 q5.out a7.out) (fun _ hk => ⟨hk.1.1,⟨hk.1.2.1,hk.1.2.2⟩⟩)⟩,⟨p5 a7.out⟩,⟨f5 e2.out a9.out⟩,⟨f5 b7.out a8.out⟩,⟨zq3 HK.out g8.out g9.out i3.out⟩,⟨zb3 HB.out e8.out g6.out i1.out⟩⟩
  rw [if_neg c28] at H
  have l9 : decide (0 ≤ j5) = false := deF c28
  clear c28
  (first|rw [l9]|(simp only [i64_w,i32_w];rw [l9])|skip)
  by_cases c45 : d5 = 2
  ·rw [if_pos c45] at H
   have t9 : (d5 == 2) = true := beq_iff_eq.mpr c45
   have u0 : (d5 != 2) = false := bne_eq_false_iff_eq.mpr c45
   clear c45
   by_cases c46 : b8.length < 17592186044416
   rotate_left
   ·rw [if_neg c46] at H
    exact absurd H (by simp)
   rw [if_pos c46] at H
   have u1 := As_ c46
   clear c46
   obtain ⟨t1,n0⟩ : ∃ y_ : List Int,y_ = (b8 ++ [(-1)]) := ⟨_,rfl⟩
   replace H : (spec_stepShapes.j1 k true d4 e1 t1 b6 false) = some (r1,r2,r3,r4,r5,r6) := zH_ H n0
   have u2 := As_ n0
   clear n0
   have H' := As_ H
   clear H
   have Z9 := e2.out
   have a0a := e5.out
   have a0b := d9.out
   have a0c := e0.out
   obtain ⟨o1,o2,o3,o4⟩ := bk2 a9.out
   go_wp2_with (first|((with_reducible refine gate_callee (f := 122) rfl ?_);refine goesL_ (some 22) rfl rfl Try.func122 (by kernel_rfl) rfl #[.int .i64 d5] rfl zM_ ?_;(with_reducible refine (spec_newKind.calls d5 j5 _ A27.out).mono ?_);rintro e w' ⟨rfl,⟨nd,rfl⟩⟩;refine ⟨_,rfl,?_⟩;(try (rw [drewN_self w23];generalize hq_ : World.drewN w23 _ = w23;have n0_ : Aside0 (Kd.R (Kd.int .i64) 3 w23 w0.heap.size (fun k_ => ((d0 k_ ∨ d7 k_ ∨ d1 k_ ∨ d2 k_) ∨ w.heap.size ≤ k_) ∧ some k_ ≠ (.slice Ao19 b8.length co19 : Value).ownBlock ∧ some k_ ≠ (.slice Ao20 b6.length co20 : Value).ownBlock) (.slice Ao17 d4.length co17) d4) := ⟨by rw [← hq_];exact (zR_ d6.out)⟩;have n1_ : Aside0 (Kd.R Kd.bool 4 w23 w0.heap.size (fun k_ => ((d0 k_ ∨ d7 k_ ∨ d1 k_ ∨ d2 k_) ∨ w.heap.size ≤ k_)) (.slice Ao18 e1.length co18) e1) := ⟨by rw [← hq_];exact (zR_ d8.out)⟩;have n2_ : Aside0 (Kd.R (Kd.int .i64) 3 w23 w0.heap.size (fun k_ => ((d0 k_ ∨ d7 k_ ∨ d1 k_ ∨ d2 k_) ∨ w.heap.size ≤ k_) ∧ some k_ ≠ (.slice Ao17 d4.length co17 : Value).ownBlock ∧ some k_ ≠ (.slice Ao20 b6.length co20 : Value).ownBlock) (.slice Ao19 b8.length co19) b8) := ⟨by rw [← hq_];exact (zR_ b9.out)⟩;have n3_ : Aside0 (Kd.R (Kd.int .i64) 3 w23 w0.heap.size (fun k_ => ((d0 k_ ∨ d7 k_ ∨ d1 k_ ∨ d2 k_) ∨ w.heap.size ≤ k_) ∧ some k_ ≠ (.slice Ao17 d4.length co17 : Value).ownBlock ∧ some k_ ≠ (.slice Ao19 b8.length co19 : Value).ownBlock) (.slice Ao20 b6.length co20) b6) := ⟨by rw [← hq_];exact (zR_ d3.out)⟩;have n4_ : Aside0 (w23.heap[b1]? = some (.cells #[.slice Ao17 d4.length co17,.slice Ao18 e1.length co18,.slice Ao19 b8.length co19,.slice Ao20 b6.length co20,.bool false] 120 (0,0))) := ⟨by rw [← hq_];exact (zk_ a7.out)⟩;have n5_ : Aside0 (w23.heap[i2]? = some (.cells #[.int .i64 d5,.int .i64 e6] 75 (0,0))) := ⟨by rw [← hq_];exact (zk_ a9.out)⟩;have n6_ : Aside0 (w23.heap[e3]? = some (.cells #[.slice none 0 0,.slice none 0 0,.slice none 0 0,.slice none 0 0,.bool false] 120 (0,0))) := ⟨by rw [← hq_];exact (zk_ a8.out)⟩;have n7_ : Aside0 (Kept w w23 (fun k_ => d0 k_ ∨ d7 k_ ∨ d1 k_ ∨ d2 k_)) := ⟨by rw [← hq_];exact (zq3 HK.out g8.out g9.out i3.out)⟩;have n8_ : Aside0 (Below w0.heap.size w0 w23) := ⟨by rw [← hq_];exact (zb3 HB.out e8.out g6.out i1.out)⟩;clear d6 d8 b9 d3 a7 a9 a8 HK HB hq_;revert n0_ n1_ n2_ n3_ n4_ n5_ n6_ n7_ n8_;intro d6 d8 b9 d3 a7 a9 a8 HK HB));obtain ⟨o1,o2,o3,o4⟩ := bk2 a9.out;have a0d := b0.out;have a0e := b7.out;have N2 : w23.cell? ⟨b1,0,none⟩ = some (.slice Ao17 d4.length co17) := (bkC a7.out 0).trans rfl;have N3 : w23.cell? ⟨b1,1,none⟩ = some (.slice Ao18 e1.length co18) := (bkC a7.out 1).trans rfl;have N4 : w23.cell? ⟨b1,2,none⟩ = some (.slice Ao19 b8.length co19) := (bkC a7.out 2).trans rfl;have N5 : w23.cell? ⟨b1,3,none⟩ = some (.slice Ao20 b6.length co20) := (bkC a7.out 3).trans rfl;have N6 : w23.cell? ⟨b1,4,none⟩ = some (.bool false) := (bkC a7.out 4).trans rfl;have N7 := bkF a7.out 0;have N8 := bkF a7.out 1;have N9 := bkF a7.out 2;have O0 := bkF a7.out 3;have O1 := bkF a7.out 4)|((with_reducible refine gate_builtin (b := .append) (xs := #[.tmp 34,.tmp 35]) rfl ?_);(try (refine gate_guard (by rfl) ?_;dsimp only));at_builtin;refine Kd.R_append (Kd.int .i64) (w0 := w0) w0.heap.size rfl (.tmp 34) (.tmp 35) 22 3 (.int .i64 0) 8 rfl Try.underlying22 info3 rfl (by decide) (by omega) (.slice Ao19 b8.length co19) b8 (-1) [.int .i64 (-1)] (fun k_ => ((d0 k_ ∨ d7 k_ ∨ d1 k_ ∨ d2 k_) ∨ w.heap.size ≤ k_) ∧ some k_ ≠ (.slice Ao17 d4.length co17 : Value).ownBlock ∧ some k_ ≠ (.slice Ao20 b6.length co20 : Value).ownBlock) (fun _ => False) rfl rfl ?aP (fun _ hk => hk.elim) ?aF ?aO ?aB ?aS ?aL ?_;(case aP => exact rfl);(case aB => exact (zb3 HB.out e8.out g6.out i1.out));(case aF => exact (fun k_ hk => ⟨(.inr (Nat.le_trans (kz HK.out) hk)),Kd.fresh' (Kd.R_lt (zR_ d6.out)) k_ hk,Kd.fresh' (Kd.R_lt (zR_ d3.out)) k_ hk⟩));(case aO => exact (zR_ b9.out));(case aS => exact (bwZ (zb3 HB.out e8.out g6.out i1.out)));(case aL => have := u1.out;omega);intro v771 w52 ho hb hg hat;rw [← u2.out] at ho;have n0_ := As_ (Kd.R_after (ok := (fun k_ => ((d0 k_ ∨ d7 k_ ∨ d1 k_ ∨ d2 k_) ∨ w.heap.size ≤ k_) ∧ some k_ ≠ (.slice Ao20 b6.length co20 : Value).ownBlock)) (by exact Kd.R_mono d6.out (fun _ hk => ⟨⟨hk.1,hk.2.2⟩,hk.2.1⟩)) hg hat);have n1_ := As_ (Kd.R_over' (zR_ d8.out) (Kd.R_typed (zR_ b9.out)) (by decide) hg);have n2_ := As_ (Kd.R_after (ok := (fun k_ => ((d0 k_ ∨ d7 k_ ∨ d1 k_ ∨ d2 k_) ∨ w.heap.size ≤ k_) ∧ some k_ ≠ (.slice Ao17 d4.length co17 : Value).ownBlock)) (by exact Kd.R_mono d3.out (fun _ hk => ⟨⟨hk.1,hk.2.1⟩,hk.2.2⟩)) hg hat);have n3_ := As_ (blk_grown (g := b1) (o := .cells #[.slice Ao17 d4.length co17,.slice Ao18 e1.length co18,.slice Ao19 b8.length co19,.slice Ao20 b6.length co20,.bool false] 120 (0,0)) (zk_ a7.out) hg (rne b9.out a7.out));have n4_ := As_ (blk_grown (g := i2) (o := .cells #[.int .i64 d5,.int .i64 e6] 75 (0,0)) (zk_ a9.out) hg (rne b9.out a9.out));have n5_ := As_ (blk_grown (g := e3) (o := .cells #[.slice none 0 0,.slice none 0 0,.slice none 0 0,.slice none 0 0,.bool false] 120 (0,0)) (zk_ a8.out) hg (rne b9.out a8.out));have n6_ := As_ (hb);have n7_ := As_ (Kept.of_grown (S := (fun k_ => d0 k_ ∨ d7 k_ ∨ d1 k_ ∨ d2 k_)) hg (zq3 HK.out g8.out g9.out i3.out) (fun k_ e_ => (b9.out.1 k_ e_).1));have n8_ := As_ (ho);clear d6 d8 d3 a7 a9 a8 HB HK b9;revert n0_ n1_ n2_ n3_ n4_ n5_ n6_ n7_ n8_;intro d6 d8 d3 a7 a9 a8 HB HK q6;clear ho hb hg hat;obtain ⟨Ao53,co53,eo53⟩ := Kd.R_slice q6.out;subst eo53;have O2 : w52.cell? ⟨b1,0,none⟩ = some (.slice Ao17 d4.length co17) := (bkC a7.out 0).trans rfl;have O3 : w52.cell? ⟨b1,1,none⟩ = some (.slice Ao18 e1.length co18) := (bkC a7.out 1).trans rfl;have O4 : w52.cell? ⟨b1,2,none⟩ = some (.slice Ao19 b8.length co19) := (bkC a7.out 2).trans rfl;have O5 : w52.cell? ⟨b1,3,none⟩ = some (.slice Ao20 b6.length co20) := (bkC a7.out 3).trans rfl;have O6 : w52.cell? ⟨b1,4,none⟩ = some (.bool false) := (bkC a7.out 4).trans rfl;have O7 := bkF a7.out 0;have O8 := bkF a7.out 1;have O9 := bkF a7.out 2;have P0 := bkF a7.out 3;have P1 := bkF a7.out 4))
   go_meet
   case rel => exact ⟨_,(true),(d4),(e1),(t1),(b6),(false),(false),(.slice Ao17 d4.length co17),(.slice Ao18 e1.length co18),(.slice Ao53 t1.length co53),(.slice Ao20 b6.length co20),zT_,H',⟨by first|omega|exact Nat.le_refl _⟩,⟨by exact Kd.R_mono (rX1 d6.out a7.out 2) (fun _ hk => ⟨hk.1.1.1,⟨hk.1.2,hk.1.1.2⟩⟩)⟩,⟨by exact Kd.R_mono (rX1 d8.out a7.out 2) (fun _ hk => hk.1)⟩,⟨by exact Kd.R_mono (rX1 q6.out a7.out 2) (fun _ hk => ⟨hk.1.1,⟨hk.1.2.1,hk.1.2.2⟩⟩)⟩,⟨by exact Kd.R_mono (rX1 d3.out a7.out 2) (fun _ hk => ⟨hk.1.1.1,⟨hk.1.1.2,hk.1.2⟩⟩)⟩,⟨by refine blk_put (cs := #[.slice Ao17 d4.length co17,.slice Ao18 e1.length co18,.slice Ao19 b8.length co19,.slice Ao20 b6.length co20,.bool false]) ?_ 2 _ rfl;exact a7.out⟩,⟨by refine blk_far ?_ e2.out _;exact a9.out⟩,⟨by refine blk_far ?_ b7.out _;exact a8.out⟩,⟨zq3 HK.out g8.out g9.out i3.out⟩,⟨zb3 HB.out e8.out g6.out i1.out⟩⟩
  rw [if_neg c45] at H
  have t9 : (d5 == 2) = false := beq_eq_false_iff_ne.mpr c45
  have u0 : (d5 != 2) = true := bne_iff_ne.mpr c45
  by_cases c55 : d5 = 16
  ·rw [if_pos c55] at H
   have u3 : (d5 == 16) = true := beq_iff_eq.mpr c55
   have u4 : (d5 != 16) = false := bne_eq_false_iff_eq.mpr c55
   clear c55
   by_cases c56 : 0 ≤ e6
   rotate_left
   ·rw [if_neg c56] at H
    exact absurd H (by simp)
   rw [if_pos c56] at H
   have a0f : decide (0 ≤ e6) = true := deT c56
   clear c56
   by_cases c57 : e6 < (b6.length : Int)
   rotate_left
   ·rw [if_neg c57] at H
    exact absurd H (by simp)
   rw [if_pos c57] at H
   have a0g : decide (e6 < (b6.length : Int)) = true := deT c57
   clear c57
   by_cases c58 : (rd b6 e6) < 0
   ·rw [if_pos c58] at H
    have u5 : decide ((rd b6 e6) < 0) = true := deT c58
    clear c58
    simp only [Option.some.injEq,Prod.mk.injEq] at H
    obtain ⟨rfl,rfl,rfl,rfl,rfl,rfl⟩ := H
    have a0h := e2.out
    have a0i := e5.out
    have a0j := d9.out
    have a0k := e0.out
    obtain ⟨o5,o6,o7,o8⟩ := bk2 a9.out
    go_wp2_with (first|((with_reducible refine gate_callee (f := 122) rfl ?_);refine goesL_ (some 22) rfl rfl Try.func122 (by kernel_rfl) rfl #[.int .i64 d5] rfl zM_ ?_;(with_reducible refine (spec_newKind.calls d5 j5 _ A27.out).mono ?_);rintro e w' ⟨rfl,⟨nd,rfl⟩⟩;refine ⟨_,rfl,?_⟩;(try (rw [drewN_self w23];generalize hq_ : World.drewN w23 _ = w23;have n0_ : Aside0 (Kd.R (Kd.int .i64) 3 w23 w0.heap.size (fun k_ => ((d0 k_ ∨ d7 k_ ∨ d1 k_ ∨ d2 k_) ∨ w.heap.size ≤ k_) ∧ some k_ ≠ (.slice Ao19 b8.length co19 : Value).ownBlock ∧ some k_ ≠ (.slice Ao20 b6.length co20 : Value).ownBlock) (.slice Ao17 d4.length co17) d4) := ⟨by rw [← hq_];exact (zR_ d6.out)⟩;have n1_ : Aside0 (Kd.R Kd.bool 4 w23 w0.heap.size (fun k_ => ((d0 k_ ∨ d7 k_ ∨ d1 k_ ∨ d2 k_) ∨ w.heap.size ≤ k_)) (.slice Ao18 e1.length co18) e1) := ⟨by rw [← hq_];exact (zR_ d8.out)⟩;have n2_ : Aside0 (Kd.R (Kd.int .i64) 3 w23 w0.heap.size (fun k_ => ((d0 k_ ∨ d7 k_ ∨ d1 k_ ∨ d2 k_) ∨ w.heap.size ≤ k_) ∧ some k_ ≠ (.slice Ao17 d4.length co17 : Value).ownBlock ∧ some k_ ≠ (.slice Ao20 b6.length co20 : Value).ownBlock) (.slice Ao19 b8.length co19) b8) := ⟨by rw [← hq_];exact (zR_ b9.out)⟩;have n3_ : Aside0 (Kd.R (Kd.int .i64) 3 w23 w0.heap.size (fun k_ => ((d0 k_ ∨ d7 k_ ∨ d1 k_ ∨ d2 k_) ∨ w.heap.size ≤ k_) ∧ some k_ ≠ (.slice Ao17 d4.length co17 : Value).ownBlock ∧ some k_ ≠ (.slice Ao19 b8.length co19 : Value).ownBlock) (.slice Ao20 b6.length co20) b6) := ⟨by rw [← hq_];exact (zR_ d3.out)⟩;have n4_ : Aside0 (w23.heap[b1]? = some (.cells #[.slice Ao17 d4.length co17,.slice Ao18 e1.length co18,.slice Ao19 b8.length co19,.slice Ao20 b6.length co20,.bool false] 120 (0,0))) := ⟨by rw [← hq_];exact (zk_ a7.out)⟩;have n5_ : Aside0 (w23.heap[i2]? = some (.cells #[.int .i64 d5,.int .i64 e6] 75 (0,0))) := ⟨by rw [← hq_];exact (zk_ a9.out)⟩;have n6_ : Aside0 (w23.heap[e3]? = some (.cells #[.slice none 0 0,.slice none 0 0,.slice none 0 0,.slice none 0 0,.bool false] 120 (0,0))) := ⟨by rw [← hq_];exact (zk_ a8.out)⟩;have n7_ : Aside0 (Kept w w23 (fun k_ => d0 k_ ∨ d7 k_ ∨ d1 k_ ∨ d2 k_)) := ⟨by rw [← hq_];exact (zq3 HK.out g8.out g9.out i3.out)⟩;have n8_ : Aside0 (Below w0.heap.size w0 w23) := ⟨by rw [← hq_];exact (zb3 HB.out e8.out g6.out i1.out)⟩;clear d6 d8 b9 d3 a7 a9 a8 HK HB hq_;revert n0_ n1_ n2_ n3_ n4_ n5_ n6_ n7_ n8_;intro d6 d8 b9 d3 a7 a9 a8 HK HB));obtain ⟨o5,o6,o7,o8⟩ := bk2 a9.out;have a0l := b0.out;have a0m := b7.out;have P2 : w23.cell? ⟨b1,0,none⟩ = some (.slice Ao17 d4.length co17) := (bkC a7.out 0).trans rfl;have P3 : w23.cell? ⟨b1,1,none⟩ = some (.slice Ao18 e1.length co18) := (bkC a7.out 1).trans rfl;have P4 : w23.cell? ⟨b1,2,none⟩ = some (.slice Ao19 b8.length co19) := (bkC a7.out 2).trans rfl;have P5 : w23.cell? ⟨b1,3,none⟩ = some (.slice Ao20 b6.length co20) := (bkC a7.out 3).trans rfl;have P6 : w23.cell? ⟨b1,4,none⟩ = some (.bool false) := (bkC a7.out 4).trans rfl;have P7 := bkF a7.out 0;have P8 := bkF a7.out 1;have P9 := bkF a7.out 2;have Q0 := bkF a7.out 3;have Q1 := bkF a7.out 4;have p773 : 0 ≤ (e6 : Int) := odT zA_;have q773 : e6 < (b6.length : Int) := odT zA_;obtain ⟨ad773,e773,hx773_0⟩ := Kd.at_int (Kd.R_reads' d3.out).2.2 e6 p773 q773;cases e773;replace p773 := eq_true p773;replace q773 := eq_true q773;have Q2 : w23.cell? ⟨e3,0,none⟩ = some (.slice none 0 0) := (bkC a8.out 0).trans rfl;have Q3 : w23.cell? ⟨e3,1,none⟩ = some (.slice none 0 0) := (bkC a8.out 1).trans rfl;have Q4 : w23.cell? ⟨e3,2,none⟩ = some (.slice none 0 0) := (bkC a8.out 2).trans rfl;have Q5 : w23.cell? ⟨e3,3,none⟩ = some (.slice none 0 0) := (bkC a8.out 3).trans rfl;have Q6 : w23.cell? ⟨e3,4,none⟩ = some (.bool false) := (bkC a8.out 4).trans rfl;have Q7 := bkF a8.out 0;have Q8 := bkF a8.out 1;have Q9 := bkF a8.out 2;have R0 := bkF a8.out 3;have R1 := bkF a8.out 4))
    refine bodyPost_ret (results_ct rfl _ _ e3 120 #[.slice Ao17 d4.length co17,.slice Ao18 e1.length co18,.slice Ao19 b8.length co19,.slice (some ad773) b6.length co20,.bool false] (0,0) _ rfl (p5 a8.out) Try.underlying120 rfl (by kernel_rfl)) rfl ?_
    exact ⟨_,_,_,_,zE_,by exact Kd.R_mono (rX5 d6.out a8.out) (fun _ hk => ⟨hk.1.1,⟨hk.1.2.1,hk.1.2.2⟩⟩),by exact Kd.R_mono (rX5 d8.out a8.out) (fun _ hk => hk.1),by exact Kd.R_mono (rX5 b9.out a8.out) (fun _ hk => ⟨hk.1.1,⟨hk.1.2.1,hk.1.2.2⟩⟩),by exact Kd.R_mono (rX5 d3.out a8.out) (fun _ hk => ⟨hk.1.1,⟨hk.1.2.1,hk.1.2.2⟩⟩),zb3 HB.out e8.out g6.out i1.out,zq3 HK.out g8.out g9.out i3.out⟩
   rw [if_neg c58] at H
   have u5 : decide ((rd b6 e6) < 0) = false := deF c58
   clear c58
   by_cases c65 : b8.length < 17592186044416
   rotate_left
   ·rw [if_neg c65] at H
    exact absurd H (by simp)
   rw [if_pos c65] at H
   have u6 := As_ c65
   clear c65
   obtain ⟨t2,n1⟩ : ∃ y_ : List Int,y_ = (b8 ++ [rd b6 e6]) := ⟨_,rfl⟩
   replace H : (spec_stepShapes.j1 k true d4 e1 t2 b6 false) = some (r1,r2,r3,r4,r5,r6) := zH_ H n1
   have u7 := As_ n1
   clear n1
   have H' := As_ H
   clear H
   have a0n := e2.out
   have a0o := e5.out
   have a0p := d9.out
   have a0q := e0.out
   obtain ⟨o9,p0,p1,p2⟩ := bk2 a9.out
   try go_wp2_with (first|((with_reducible refine gate_callee (f := 122) rfl ?_);refine goesL_ (some 22) rfl rfl Try.func122 (by kernel_rfl) rfl #[.int .i64 d5] rfl zM_ ?_;(with_reducible refine (spec_newKind.calls d5 j5 _ A27.out).mono ?_);rintro e w' ⟨rfl,⟨nd,rfl⟩⟩;refine ⟨_,rfl,?_⟩;(try (rw [drewN_self w23];generalize hq_ : World.drewN w23 _ = w23;have n0_ : Aside0 (Kd.R (Kd.int .i64) 3 w23 w0.heap.size (fun k_ => ((d0 k_ ∨ d7 k_ ∨ d1 k_ ∨ d2 k_) ∨ w.heap.size ≤ k_) ∧ some k_ ≠ (.slice Ao19 b8.length co19 : Value).ownBlock ∧ some k_ ≠ (.slice Ao20 b6.length co20 : Value).ownBlock) (.slice Ao17 d4.length co17) d4) := ⟨by rw [← hq_];exact (zR_ d6.out)⟩;have n1_ : Aside0 (Kd.R Kd.bool 4 w23 w0.heap.size (fun k_ => ((d0 k_ ∨ d7 k_ ∨ d1 k_ ∨ d2 k_) ∨ w.heap.size ≤ k_)) (.slice Ao18 e1.length co18) e1) := ⟨by rw [← hq_];exact (zR_ d8.out)⟩;have n2_ : Aside0 (Kd.R (Kd.int .i64) 3 w23 w0.heap.size (fun k_ => ((d0 k_ ∨ d7 k_ ∨ d1 k_ ∨ d2 k_) ∨ w.heap.size ≤ k_) ∧ some k_ ≠ (.slice Ao17 d4.length co17 : Value).ownBlock ∧ some k_ ≠ (.slice Ao20 b6.length co20 : Value).ownBlock) (.slice Ao19 b8.length co19) b8) := ⟨by rw [← hq_];exact (zR_ b9.out)⟩;have n3_ : Aside0 (Kd.R (Kd.int .i64) 3 w23 w0.heap.size (fun k_ => ((d0 k_ ∨ d7 k_ ∨ d1 k_ ∨ d2 k_) ∨ w.heap.size ≤ k_) ∧ some k_ ≠ (.slice Ao17 d4.length co17 : Value).ownBlock ∧ some k_ ≠ (.slice Ao19 b8.length co19 : Value).ownBlock) (.slice Ao20 b6.length co20) b6) := ⟨by rw [← hq_];exact (zR_ d3.out)⟩;have n4_ : Aside0 (w23.heap[b1]? = some (.cells #[.slice Ao17 d4.length co17,.slice Ao18 e1.length co18,.slice Ao19 b8.length co19,.slice Ao20 b6.length co20,.bool false] 120 (0,0))) := ⟨by rw [← hq_];exact (zk_ a7.out)⟩;have n5_ : Aside0 (w23.heap[i2]? = some (.cells #[.int .i64 d5,.int .i64 e6] 75 (0,0))) := ⟨by rw [← hq_];exact (zk_ a9.out)⟩;have n6_ : Aside0 (w23.heap[e3]? = some (.cells #[.slice none 0 0,.slice none 0 0,.slice none 0 0,.slice none 0 0,.bool false] 120 (0,0))) := ⟨by rw [← hq_];exact (zk_ a8.out)⟩;have n7_ : Aside0 (Kept w w23 (fun k_ => d0 k_ ∨ d7 k_ ∨ d1 k_ ∨ d2 k_)) := ⟨by rw [← hq_];exact (zq3 HK.out g8.out g9.out i3.out)⟩;have n8_ : Aside0 (Below w0.heap.size w0 w23) := ⟨by rw [← hq_];exact (zb3 HB.out e8.out g6.out i1.out)⟩;clear d6 d8 b9 d3 a7 a9 a8 HK HB hq_;revert n0_ n1_ n2_ n3_ n4_ n5_ n6_ n7_ n8_;intro d6 d8 b9 d3 a7 a9 a8 HK HB));obtain ⟨o9,p0,p1,p2⟩ := bk2 a9.out;have a0r := b0.out;have a0s := b7.out;have R2 : w23.cell? ⟨b1,0,none⟩ = some (.slice Ao17 d4.length co17) := (bkC a7.out 0).trans rfl;have R3 : w23.cell? ⟨b1,1,none⟩ = some (.slice Ao18 e1.length co18) := (bkC a7.out 1).trans rfl;have R4 : w23.cell? ⟨b1,2,none⟩ = some (.slice Ao19 b8.length co19) := (bkC a7.out 2).trans rfl;have R5 : w23.cell? ⟨b1,3,none⟩ = some (.slice Ao20 b6.length co20) := (bkC a7.out 3).trans rfl;have R6 : w23.cell? ⟨b1,4,none⟩ = some (.bool false) := (bkC a7.out 4).trans rfl;have R7 := bkF a7.out 0;have R8 := bkF a7.out 1;have R9 := bkF a7.out 2;have S0 := bkF a7.out 3;have S1 := bkF a7.out 4;have p773 : 0 ≤ (e6 : Int) := odT zA_;have q773 : e6 < (b6.length : Int) := odT zA_;obtain ⟨ad773,e773,hx773_0⟩ := Kd.at_int (Kd.R_reads' d3.out).2.2 e6 p773 q773;cases e773;replace p773 := eq_true p773;replace q773 := eq_true q773))
   have n0_ := As_ (Kd.R_drew d6.out)
   have n1_ := As_ (Kd.R_drew d8.out)
   have n2_ := As_ (Kd.R_drew b9.out)
   have n3_ := As_ (Kd.R_drew d3.out)
   have n4_ := As_ (bkD a7.out)
   have n5_ := As_ (bkD a9.out)
   have n6_ := As_ (bkD a8.out)
   have n7_ := As_ (Kept.drew HK.out)
   have n8_ := As_ (bwD HB.out)
   clear d6 d8 b9 d3 a7 a9 a8 HK HB
   revert n0_ n1_ n2_ n3_ n4_ n5_ n6_ n7_ n8_;intro d6 d8 b9 d3 a7 a9 a8 HK HB
   have p774 : 0 ≤ (e6 : Int) := odT zA_
   have q774 : e6 < (b6.length : Int) := odT zA_
   obtain ⟨ad774,e774,hx774_0⟩ := Kd.at_int (Kd.R_reads' d3.out).2.2 e6 p774 q774
   obtain rfl : ad773 = ad774 := (by injection e774)
   replace p774 := eq_true p774
   replace q774 := eq_true q774
   refine start_ (n := 12) (S := fun w' => w'.cell? ⟨b1,0,none⟩ = some (.slice Ao17 d4.length co17) ∧ w'.cell? ⟨b1,1,none⟩ = some (.slice Ao18 e1.length co18) ∧ w'.cell? ⟨b1,2,none⟩ = some (.slice Ao19 b8.length co19) ∧ w'.cell? ⟨b1,3,none⟩ = some (.slice (some ad773) b6.length co20) ∧ w'.cell? ⟨b1,4,none⟩ = some (.bool false) ∧ w'.cell? ⟨i2,0,none⟩ = some (.int .i64 d5) ∧ w'.cell? ⟨i2,1,none⟩ = some (.int .i64 e6) ∧ w'.cell? (ad773.add (e6).toNat) = some (.int .i64 (rd b6 e6))) (ds := [9,11]) (bl_ 0 12) (by kernel_rfl) rfl rfl ⟨(bkC a7.out 0).trans rfl,(bkC a7.out 1).trans rfl,(bkC a7.out 2).trans rfl,(bkC a7.out 3).trans rfl,(bkC a7.out 4).trans rfl,(bkC a9.out 0).trans rfl,(bkC a9.out 1).trans rfl,hx774_0⟩ (fun hHeld => ?_);refine with_tabW spec_stepShapes.tab12 spec_stepShapes.bits12 (fun HT_ HW_ => ?_)
   generalize w23.drew = w71 at d6 d8 b9 d3 a7 a9 a8 HK HB hx774_0 hHeld ⊢
   refine pQ 0 50 (bl_ 1 12) HT_ rfl ?_
   refine pQ 2 52 (bl_ 5 12) HT_ rfl ?_
   refine pQ 4 54 (bl_ 21 12) HT_ rfl ?_
   refine tP 1 51 (bl_ 23 12) ?_ HT_ HW_ rfl (.inl ⟨by rfl,?_⟩) hHeld ?_ ?_ ?_;rotate_left;(rintro w' ⟨s0,s1,s2,s3,s4,s5,s6,s7⟩;go_simp;with_reducible rfl);rotate_left;(simp only [Act.put,sq_];rfl)
   refine tP 3 53 (bl_ 31 12) ?_ HT_ HW_ rfl (.inl ⟨by rfl,?_⟩) hHeld ?_ ?_ ?_;rotate_left;(rintro w' ⟨s0,s1,s2,s3,s4,s5,s6,s7⟩;go_simp;with_reducible rfl);rotate_left;(simp only [Act.put,sq_];rfl)
   refine tP 5 55 (bl_ 63 12) ?_ HT_ HW_ rfl (.inl ⟨by rfl,?_⟩) hHeld ?_ ?_ ?_;rotate_left;(rintro w' ⟨s0,s1,s2,s3,s4,s5,s6,s7⟩;go_simp;with_reducible rfl);rotate_left;(simp only [Act.put,sq_];rfl)
   refine pQ 6 56 (bl_ 127 12) HT_ rfl ?_
   refine tP 7 57 (bl_ 255 12) ?_ HT_ HW_ rfl (.inl ⟨by rfl,?_⟩) hHeld ?_ ?_ ?_;rotate_left;(rintro w' ⟨s0,s1,s2,s3,s4,s5,s6,s7⟩;go_simp;with_reducible rfl);rotate_left;(simp only [Act.put,sq_];rfl)
   refine one_ (i := 8) (N := some 58) (bl_ 511 12) rfl rfl (one_of HT_.out (by kernel_rfl)) (by decide) (fun K hK => ?_)
   refine value_ (w1 := ?_) (v := ?_) (by rfl) rfl ?_ ?_
   rotate_left 2
   ·go_simp
    constructor
    ·rfl
    ·rfl
   refine hK.out _ _ ⟨(bkC (bkA a7.out _) 0).trans rfl,(bkC (bkA a7.out _) 1).trans rfl,(bkC (bkA a7.out _) 2).trans rfl,(bkC (bkA a7.out _) 3).trans rfl,(bkC (bkA a7.out _) 4).trans rfl,(bkC (bkA a9.out _) 0).trans rfl,(bkC (bkA a9.out _) 1).trans rfl,(World.cell?_alloc_lt _ _ _ (bwL _ _ (hHeld.2.2.2.2.2.2.2))).trans (hHeld.2.2.2.2.2.2.2)⟩ (fun hHeld => ?_)
   clear hK K
   refine norm_ (a' := ?_) ?_ ?_
   rotate_left
   ·show Act.put _ (some 58) _ = _
    simp only [Act.put,sq_]
    rfl
   refine last_ (i := 9) (N := some 59) (bl_ 1023 12) rfl rfl (one_of HT_.out (by kernel_rfl)) (by decide) (fun K hK => ?_)
   refine Kd.R_append_step (Kd.int .i64) (w0 := w0) w0.heap.size (by rfl) (.tmp 51) (.tmp 58) 22 3 (.int .i64 0) 8 rfl Try.underlying22 info3 rfl (by decide) (by omega) (.slice Ao19 b8.length co19) b8 (rd b6 e6) [.int .i64 (rd b6 e6)] (fun k_ => ((d0 k_ ∨ d7 k_ ∨ d1 k_ ∨ d2 k_) ∨ w.heap.size ≤ k_) ∧ some k_ ≠ (.slice Ao17 d4.length co17 : Value).ownBlock ∧ some k_ ≠ (.slice (some ad773) b6.length co20 : Value).ownBlock) (fun _ => False) rfl rfl ?aP (fun _ hk => hk.elim) ?aF ?aO ?aB ?aS ?aL ?_
   (case aP => exact rfl)
   (case aB => exact (zb3 HB.out e8.out g6.out i1.out))
   (case aF => exact (fun k_ hk => ⟨(.inr (Nat.le_trans (kz HK.out) hk)),Kd.fresh' (Kd.R_lt (zR_ d6.out)) k_ hk,Kd.fresh' (Kd.R_lt (zR_ d3.out)) k_ hk⟩))
   (case aO => exact (zR_ b9.out))
   (case aS => exact (bwZ (zb3 HB.out e8.out g6.out i1.out)))
   (case aL => have := u6.out;omega)
   intro v776 w72 ho hb hg hat
   rw [← u7.out] at ho
   have n0_ := As_ (Kd.R_after (ok := (fun k_ => ((d0 k_ ∨ d7 k_ ∨ d1 k_ ∨ d2 k_) ∨ w.heap.size ≤ k_) ∧ some k_ ≠ (.slice (some ad773) b6.length co20 : Value).ownBlock)) (by exact Kd.R_mono d6.out (fun _ hk => ⟨⟨hk.1,hk.2.2⟩,hk.2.1⟩)) hg hat)
   have n1_ := As_ (Kd.R_over' (zR_ d8.out) (Kd.R_typed (zR_ b9.out)) (by decide) hg)
   have n2_ := As_ (Kd.R_after (ok := (fun k_ => ((d0 k_ ∨ d7 k_ ∨ d1 k_ ∨ d2 k_) ∨ w.heap.size ≤ k_) ∧ some k_ ≠ (.slice Ao17 d4.length co17 : Value).ownBlock)) (by exact Kd.R_mono d3.out (fun _ hk => ⟨⟨hk.1,hk.2.1⟩,hk.2.2⟩)) hg hat)
   have n3_ := As_ (blk_grown (g := b1) (o := .cells #[.slice Ao17 d4.length co17,.slice Ao18 e1.length co18,.slice Ao19 b8.length co19,.slice (some ad773) b6.length co20,.bool false] 120 (0,0)) (zk_ a7.out) hg (rne b9.out a7.out))
   have n4_ := As_ (blk_grown (g := i2) (o := .cells #[.int .i64 d5,.int .i64 e6] 75 (0,0)) (zk_ a9.out) hg (rne b9.out a9.out))
   have n5_ := As_ (blk_grown (g := e3) (o := .cells #[.slice none 0 0,.slice none 0 0,.slice none 0 0,.slice none 0 0,.bool false] 120 (0,0)) (zk_ a8.out) hg (rne b9.out a8.out))
   have n6_ := As_ (hb)
   have n7_ := As_ (Kept.of_grown (S := (fun k_ => d0 k_ ∨ d7 k_ ∨ d1 k_ ∨ d2 k_)) hg (zq3 HK.out g8.out g9.out i3.out) (fun k_ e_ => (b9.out.1 k_ e_).1))
   have n8_ := As_ (ho)
   clear d6 d8 d3 a7 a9 a8 HB HK b9
   revert n0_ n1_ n2_ n3_ n4_ n5_ n6_ n7_ n8_;intro d6 d8 d3 a7 a9 a8 HB HK q7
   clear ho hb hg hat
   obtain ⟨Ao73,co73,eo73⟩ := Kd.R_slice q7.out
   (first|subst eo73|(injection eo73 with f1_ f2_ f3_;have f4_ := f1_.symm;have f5_ := f3_.symm;clear f1_ f2_ f3_;subst f4_;subst f5_))
   refine hK.out _ _ ?_
   clear hK K
   refine norm_ (a' := ?_) ?_ ?_
   rotate_left
   ·show Act.put _ (some 59) _ = _
    simp only [Act.put,sq_]
    rfl
   refine pQ 10 60 (bl_ 2047 12) HT_ rfl ?_
   refine last_ (i := 11) (N := none) (bl_ 4095 12) rfl rfl (one_of HT_.out (by kernel_rfl)) (by decide) (fun K hK => ?_)
   have a1e : w72.cell? ⟨b1,2,none⟩ = some (.slice Ao19 b8.length co19) := (bkC a7.out 2).trans rfl
   have a0t := bkF a7.out 2
   have S3 := e2.out
   have S4 := b7.out
   have S5 := e5.out
   have S6 := b0.out
   refine skip_ (w1 := ?_) (by rfl) rfl ?_ ?_
   rotate_left
   ·go_simp
    rfl
   refine hK.out _ _ ?_
   clear hK K
   refine done_ (done_of HT_.out (by kernel_rfl)) ?_
   try go_wp2
   go_meet
   case rel => exact ⟨_,(true),(d4),(e1),(t2),(b6),(false),(false),(.slice Ao17 d4.length co17),(.slice Ao18 e1.length co18),(.slice Ao73 t2.length co73),(.slice (some ad773) b6.length co20),zT_,H',⟨by first|omega|exact Nat.le_refl _⟩,⟨by exact Kd.R_mono (rX1 d6.out a7.out 2) (fun _ hk => ⟨hk.1.1.1,⟨hk.1.2,hk.1.1.2⟩⟩)⟩,⟨by exact Kd.R_mono (rX1 d8.out a7.out 2) (fun _ hk => hk.1)⟩,⟨by exact Kd.R_mono (rX1 q7.out a7.out 2) (fun _ hk => ⟨hk.1.1,⟨hk.1.2.1,hk.1.2.2⟩⟩)⟩,⟨by exact Kd.R_mono (rX1 d3.out a7.out 2) (fun _ hk => ⟨hk.1.1.1,⟨hk.1.1.2,hk.1.2⟩⟩)⟩,⟨by refine blk_put (cs := #[.slice Ao17 d4.length co17,.slice Ao18 e1.length co18,.slice Ao19 b8.length co19,.slice (some ad773) b6.length co20,.bool false]) ?_ 2 _ rfl;exact a7.out⟩,⟨by refine blk_far ?_ e2.out _;exact a9.out⟩,⟨by refine blk_far ?_ b7.out _;exact a8.out⟩,⟨zq3 HK.out g8.out g9.out i3.out⟩,⟨zb3 HB.out e8.out g6.out i1.out⟩⟩
  rw [if_neg c55] at H
  have u3 : (d5 == 16) = false := beq_eq_false_iff_ne.mpr c55
  have u4 : (d5 != 16) = true := bne_iff_ne.mpr c55
  have HC75 := As_ H
  clear H
  have a0u := e2.out
  have a0v := e5.out
  have a0w := d9.out
  have a0x := e0.out
  obtain ⟨S7,S8,S9,T0⟩ := bk2 a9.out
  go_upto_region 13 with (first|((with_reducible refine gate_callee (f := 122) rfl ?_);refine goesL_ (some 22) rfl rfl Try.func122 (by kernel_rfl) rfl #[.int .i64 d5] rfl zM_ ?_;(with_reducible refine (spec_newKind.calls d5 j5 _ A27.out).mono ?_);rintro e w' ⟨rfl,⟨nd,rfl⟩⟩;refine ⟨_,rfl,?_⟩))
  (try simp only [Act.put,List.setIfInBounds_toArray,List.set_cons_zero,List.set_cons_succ])
  go_cut [61] (fun v61 wc => ∃ (kq : Nat) (l8 : Bool),v61 = .bool l8 ∧ Aside0 (spec_stepShapes.j0 kq l8 d4 e1 b8 b6 false d5 e6 = some (r1,r2,r3,r4,r5,r6)) ∧ Aside0 (kq ≤ k) ∧ Aside0 (Kd.R (Kd.int .i64) 3 wc w0.heap.size (fun k_ => ((d0 k_ ∨ d7 k_ ∨ d1 k_ ∨ d2 k_) ∨ w.heap.size ≤ k_) ∧ some k_ ≠ ((.slice Ao19 b8.length co19) : Value).ownBlock ∧ some k_ ≠ ((.slice Ao20 b6.length co20) : Value).ownBlock) (.slice Ao17 d4.length co17) d4) ∧ Aside0 (Kd.R Kd.bool 4 wc w0.heap.size (fun k_ => ((d0 k_ ∨ d7 k_ ∨ d1 k_ ∨ d2 k_) ∨ w.heap.size ≤ k_)) (.slice Ao18 e1.length co18) e1) ∧ Aside0 (Kd.R (Kd.int .i64) 3 wc w0.heap.size (fun k_ => ((d0 k_ ∨ d7 k_ ∨ d1 k_ ∨ d2 k_) ∨ w.heap.size ≤ k_) ∧ some k_ ≠ ((.slice Ao17 d4.length co17) : Value).ownBlock ∧ some k_ ≠ ((.slice Ao20 b6.length co20) : Value).ownBlock) (.slice Ao19 b8.length co19) b8) ∧ Aside0 (Kd.R (Kd.int .i64) 3 wc w0.heap.size (fun k_ => ((d0 k_ ∨ d7 k_ ∨ d1 k_ ∨ d2 k_) ∨ w.heap.size ≤ k_) ∧ some k_ ≠ ((.slice Ao17 d4.length co17) : Value).ownBlock ∧ some k_ ≠ ((.slice Ao19 b8.length co19) : Value).ownBlock) (.slice Ao20 b6.length co20) b6) ∧ Aside0 (wc.heap[b1]? = some (.cells #[(.slice Ao17 d4.length co17),(.slice Ao18 e1.length co18),(.slice Ao19 b8.length co19),(.slice Ao20 b6.length co20),.bool false] 120 (0,0))) ∧ Aside0 (wc.heap[i2]? = some (.cells #[.int .i64 d5,.int .i64 e6] 75 (0,0))) ∧ Aside0 (wc.heap[e3]? = some (.cells #[(.slice none 0 0),(.slice none 0 0),(.slice none 0 0),(.slice none 0 0),.bool false] 120 (0,0))) ∧ Aside0 (Kept w wc (fun k_ => d0 k_ ∨ d7 k_ ∨ d1 k_ ∨ d2 k_)) ∧ Aside0 (Below w0.heap.size w0 wc))
  case first =>
   have H := HC75.out
   clear HC75
   by_cases c79 : d5 = 3
   ·rw [if_pos c79] at H
    have m0 : (d5 == 3) = true := beq_iff_eq.mpr c79
    have u9 : (d5 != 3) = false := bne_eq_false_iff_eq.mpr c79
    clear c79
    (first|rw [m0]|(simp only [i64_w,i32_w];rw [m0])|skip)
    have H' := As_ H
    clear H
    have a0y := e2.out
    have a0z := e5.out
    have a0A := d9.out
    have a0B := e0.out
    obtain ⟨T1,T2,T3,T4⟩ := bk2 a9.out
    go_wp2
    go_meet
    case rel => exact ⟨_,(true),zT_,H',⟨by first|omega|exact Nat.le_refl _⟩,⟨by (with_reducible repeat (first|apply Kd.R_alloc|apply Kd.R_drewN|apply Kd.R_drew));exact d6.out⟩,⟨by (with_reducible repeat (first|apply Kd.R_alloc|apply Kd.R_drewN|apply Kd.R_drew));exact d8.out⟩,⟨by (with_reducible repeat (first|apply Kd.R_alloc|apply Kd.R_drewN|apply Kd.R_drew));exact b9.out⟩,⟨by (with_reducible repeat (first|apply Kd.R_alloc|apply Kd.R_drewN|apply Kd.R_drew));exact d3.out⟩,⟨by (with_reducible repeat first|apply bkN|apply bkD|apply bkA);exact a7.out⟩,⟨by (with_reducible repeat first|apply bkN|apply bkD|apply bkA);exact a9.out⟩,⟨by (with_reducible repeat first|apply bkN|apply bkD|apply bkA);exact a8.out⟩,⟨zq3 HK.out g8.out g9.out i3.out⟩,⟨zb3 HB.out e8.out g6.out i1.out⟩⟩
   rw [if_neg c79] at H
   have m0 : (d5 == 3) = false := beq_eq_false_iff_ne.mpr c79
   have u9 : (d5 != 3) = true := bne_iff_ne.mpr c79
   (first|rw [m0]|(simp only [i64_w,i32_w];rw [m0])|skip)
   by_cases c83 : d5 = 9
   ·rw [if_pos c83] at H
    have v4 : (d5 == 9) = true := beq_iff_eq.mpr c83
    have v5 : (d5 != 9) = false := bne_eq_false_iff_eq.mpr c83
    clear c83
    have H' := As_ H
    clear H
    have a0C := e2.out
    have a0D := e5.out
    have a0E := d9.out
    have a0F := e0.out
    obtain ⟨T5,T6,T7,T8⟩ := bk2 a9.out
    go_wp2
    go_meet
    case rel => exact ⟨_,(true),zT_,H',⟨by first|omega|exact Nat.le_refl _⟩,⟨by (with_reducible repeat (first|apply Kd.R_alloc|apply Kd.R_drewN|apply Kd.R_drew));exact d6.out⟩,⟨by (with_reducible repeat (first|apply Kd.R_alloc|apply Kd.R_drewN|apply Kd.R_drew));exact d8.out⟩,⟨by (with_reducible repeat (first|apply Kd.R_alloc|apply Kd.R_drewN|apply Kd.R_drew));exact b9.out⟩,⟨by (with_reducible repeat (first|apply Kd.R_alloc|apply Kd.R_drewN|apply Kd.R_drew));exact d3.out⟩,⟨by (with_reducible repeat first|apply bkN|apply bkD|apply bkA);exact a7.out⟩,⟨by (with_reducible repeat first|apply bkN|apply bkD|apply bkA);exact a9.out⟩,⟨by (with_reducible repeat first|apply bkN|apply bkD|apply bkA);exact a8.out⟩,⟨zq3 HK.out g8.out g9.out i3.out⟩,⟨zb3 HB.out e8.out g6.out i1.out⟩⟩
   rw [if_neg c83] at H
   have v4 : (d5 == 9) = false := beq_eq_false_iff_ne.mpr c83
   have v5 : (d5 != 9) = true := bne_iff_ne.mpr c83
   by_cases c87 : d5 = 12
   rotate_left
   ·rw [if_neg c87] at H
    have v7 : (d5 == 12) = false := beq_eq_false_iff_ne.mpr c87
    have v8 : (d5 != 12) = true := bne_iff_ne.mpr c87
    have H' := As_ H
    clear H
    have a0G := e2.out
    have a0H := e5.out
    have a0I := d9.out
    have a0J := e0.out
    obtain ⟨T9,U0,U1,U2⟩ := bk2 a9.out
    go_wp2
    go_meet
    case rel => exact ⟨_,((d5 == 18)),zT_,H',⟨by first|omega|exact Nat.le_refl _⟩,⟨by (with_reducible repeat (first|apply Kd.R_alloc|apply Kd.R_drewN|apply Kd.R_drew));exact d6.out⟩,⟨by (with_reducible repeat (first|apply Kd.R_alloc|apply Kd.R_drewN|apply Kd.R_drew));exact d8.out⟩,⟨by (with_reducible repeat (first|apply Kd.R_alloc|apply Kd.R_drewN|apply Kd.R_drew));exact b9.out⟩,⟨by (with_reducible repeat (first|apply Kd.R_alloc|apply Kd.R_drewN|apply Kd.R_drew));exact d3.out⟩,⟨by (with_reducible repeat first|apply bkN|apply bkD|apply bkA);exact a7.out⟩,⟨by (with_reducible repeat first|apply bkN|apply bkD|apply bkA);exact a9.out⟩,⟨by (with_reducible repeat first|apply bkN|apply bkD|apply bkA);exact a8.out⟩,⟨zq3 HK.out g8.out g9.out i3.out⟩,⟨zb3 HB.out e8.out g6.out i1.out⟩⟩
   rw [if_pos c87] at H
   have v7 : (d5 == 12) = true := beq_iff_eq.mpr c87
   have v8 : (d5 != 12) = false := bne_eq_false_iff_eq.mpr c87
   clear c87
   have H' := As_ H
   clear H
   have a0K := e2.out
   have a0L := e5.out
   have a0M := d9.out
   have a0N := e0.out
   obtain ⟨U3,U4,U5,U6⟩ := bk2 a9.out
   go_wp2
   go_meet
   case rel => exact ⟨_,(true),zT_,H',⟨by first|omega|exact Nat.le_refl _⟩,⟨by (with_reducible repeat (first|apply Kd.R_alloc|apply Kd.R_drewN|apply Kd.R_drew));exact d6.out⟩,⟨by (with_reducible repeat (first|apply Kd.R_alloc|apply Kd.R_drewN|apply Kd.R_drew));exact d8.out⟩,⟨by (with_reducible repeat (first|apply Kd.R_alloc|apply Kd.R_drewN|apply Kd.R_drew));exact b9.out⟩,⟨by (with_reducible repeat (first|apply Kd.R_alloc|apply Kd.R_drewN|apply Kd.R_drew));exact d3.out⟩,⟨by (with_reducible repeat first|apply bkN|apply bkD|apply bkA);exact a7.out⟩,⟨by (with_reducible repeat first|apply bkN|apply bkD|apply bkA);exact a9.out⟩,⟨by (with_reducible repeat first|apply bkN|apply bkD|apply bkA);exact a8.out⟩,⟨zq3 HK.out g8.out g9.out i3.out⟩,⟨zb3 HB.out e8.out g6.out i1.out⟩⟩
  case rest =>
   clear HC75
   obtain ⟨kq,l8,rfl,HA,HJ74,b2,b5,b3,b4,a7,a9,a8,HK,HB⟩ := hcut
   cases kq with
   | zero => exact absurd HA.out (fun h_ => (by cases h_))
   | succ kj74 =>
    have H := HA.out
    clear HA
    simp only [spec_stepShapes.j0] at H
    by_cases c94 : l8 = true
    ·subst c94
     have H1 : ((spec_markShapes.f kj74 d4 e1 b8 b6 false d5).bind fun i6 => (spec_stepShapes.j1 kj74 i6.2.2.2.2.2 i6.1 i6.2.1 i6.2.2.1 i6.2.2.2.1 i6.2.2.2.2.1)) = some (r1,r2,r3,r4,r5,r6) := by rw [if_pos rfl] at H;exact H
     clear H
     have H := H1
     clear H1
     replace H := obS H
     obtain ⟨⟨p3,p4,p6,p7,t3,t4⟩,A950,H⟩ := H
     replace H : (spec_stepShapes.j1 kj74 t4 p3 p4 p6 p7 t3) = some (r1,r2,r3,r4,r5,r6) := H
     have A95 := As_ A950
     clear A950
     have H' := As_ H
     clear H
     have a0O := e5.out
     have a0P := e2.out
     have a0Q := b0.out
     have a0R := b7.out
     have U7 : wc.cell? ⟨b1,0,none⟩ = some (.slice Ao17 d4.length co17) := (bkC a7.out 0).trans rfl
     have U8 : wc.cell? ⟨b1,1,none⟩ = some (.slice Ao18 e1.length co18) := (bkC a7.out 1).trans rfl
     have U9 : wc.cell? ⟨b1,2,none⟩ = some (.slice Ao19 b8.length co19) := (bkC a7.out 2).trans rfl
     have V0 : wc.cell? ⟨b1,3,none⟩ = some (.slice Ao20 b6.length co20) := (bkC a7.out 3).trans rfl
     have V1 : wc.cell? ⟨b1,4,none⟩ = some (.bool false) := (bkC a7.out 4).trans rfl
     have V2 := bkF a7.out 0
     have V3 := bkF a7.out 1
     have V4 := bkF a7.out 2
     have V5 := bkF a7.out 3
     have V6 := bkF a7.out 4
     have a0S := d9.out
     have a0T := e0.out
     obtain ⟨v9,x0,x1,x2⟩ := bk2 a9.out
     go_wp2_with (first|((with_reducible refine gate_callee (f := 124) rfl ?_);refine goesL_ (some 84) rfl rfl Try.func124 (by kernel_rfl) rfl #[.agg #[.slice Ao17 d4.length co17,.slice Ao18 e1.length co18,.slice Ao19 b8.length co19,.slice Ao20 b6.length co20,.bool false],.int .i64 d5] rfl zM_ ?_;(with_reducible refine (spec_markShapes.calls kj74 (fun k_ => some k_ = (.slice Ao17 d4.length co17 : Value).ownBlock) (.slice Ao17 d4.length co17) d4 (fun k_ => some k_ = (.slice Ao18 e1.length co18 : Value).ownBlock) (.slice Ao18 e1.length co18) e1 (fun k_ => some k_ = (.slice Ao19 b8.length co19 : Value).ownBlock) (.slice Ao19 b8.length co19) b8 (fun k_ => some k_ = (.slice Ao20 b6.length co20 : Value).ownBlock) (.slice Ao20 b6.length co20) b6 false d5 p3 p4 p6 p7 t3 t4 w0 _ ?side1 ?side2 ?side3 ?side4 ?side5 ?side6 ?side7 ?side8 ?side9 ?side10 ?side11 A95.out).mono ?_);(case side1 => exact zb3 HB.out e8.out g6.out i1.out);(case side2 => exact Kd.R_tight rfl b2.out);(case side3 => exact fun k_ e_ => (b2.out.1 k_ e_.symm).2.1);(case side4 => exact fun k_ e_ => (b2.out.1 k_ e_.symm).2.2);(case side5 => exact Kd.R_tight rfl b5.out);(case side6 => exact Kd.R_tight rfl b3.out);(case side7 => exact fun k_ e_ => (b3.out.1 k_ e_.symm).2.1);(case side8 => exact fun k_ e_ => (b3.out.1 k_ e_.symm).2.2);(case side9 => exact Kd.R_tight rfl b4.out);(case side10 => exact fun k_ e_ => (b4.out.1 k_ e_.symm).2.1);(case side11 => exact fun k_ e_ => (b4.out.1 k_ e_.symm).2.2);rintro e w101 ⟨v779,v782,v785,v788,rfl,ho0,ho1,ho2,ho3,hb,hkp⟩;refine ⟨_,rfl,?_⟩;have n0_ := As_ (blk_kept (zk_ a7.out) hkp (no4 ⟨rne b2.out a7.out,rne b5.out a7.out,rne b3.out a7.out,rne b4.out a7.out⟩));have n1_ := As_ (blk_kept (zk_ a9.out) hkp (no4 ⟨rne b2.out a9.out,rne b5.out a9.out,rne b3.out a9.out,rne b4.out a9.out⟩));have n2_ := As_ (blk_kept (zk_ a8.out) hkp (no4 ⟨rne b2.out a8.out,rne b5.out a8.out,rne b3.out a8.out,rne b4.out a8.out⟩));have n3_ := As_ (Kd.R_mono (ok' := fun k_ => ((d0 k_ ∨ d7 k_ ∨ d1 k_ ∨ d2 k_) ∨ w.heap.size ≤ k_) ∧ some k_ ≠ (v785 : Value).ownBlock ∧ some k_ ≠ (v788 : Value).ownBlock) ho0 (fun k_ hk_ => ⟨Or.elim hk_.1 (or4 (fun hs_ => (b2.out.1 k_ (hs_).symm).1) (fun hs_ => (b5.out.1 k_ (hs_).symm)) (fun hs_ => (b3.out.1 k_ (hs_).symm).1) (fun hs_ => (b4.out.1 k_ (hs_).symm).1)) (fun hn_ => (.inr (Nat.le_trans (kz HK.out) hn_))),hk_.2.1,hk_.2.2⟩));have n4_ := As_ (Kd.R_mono (ok' := fun k_ => ((d0 k_ ∨ d7 k_ ∨ d1 k_ ∨ d2 k_) ∨ w.heap.size ≤ k_)) ho1 (fun k_ hk_ => Or.elim hk_ (or4 (fun hs_ => (b2.out.1 k_ (hs_).symm).1) (fun hs_ => (b5.out.1 k_ (hs_).symm)) (fun hs_ => (b3.out.1 k_ (hs_).symm).1) (fun hs_ => (b4.out.1 k_ (hs_).symm).1)) (fun hn_ => (.inr (Nat.le_trans (kz HK.out) hn_)))));have n5_ := As_ (Kd.R_mono (ok' := fun k_ => ((d0 k_ ∨ d7 k_ ∨ d1 k_ ∨ d2 k_) ∨ w.heap.size ≤ k_) ∧ some k_ ≠ (v779 : Value).ownBlock ∧ some k_ ≠ (v788 : Value).ownBlock) ho2 (fun k_ hk_ => ⟨Or.elim hk_.1 (or4 (fun hs_ => (b2.out.1 k_ (hs_).symm).1) (fun hs_ => (b5.out.1 k_ (hs_).symm)) (fun hs_ => (b3.out.1 k_ (hs_).symm).1) (fun hs_ => (b4.out.1 k_ (hs_).symm).1)) (fun hn_ => (.inr (Nat.le_trans (kz HK.out) hn_))),hk_.2.1,hk_.2.2⟩));have n6_ := As_ (Kd.R_mono (ok' := fun k_ => ((d0 k_ ∨ d7 k_ ∨ d1 k_ ∨ d2 k_) ∨ w.heap.size ≤ k_) ∧ some k_ ≠ (v779 : Value).ownBlock ∧ some k_ ≠ (v785 : Value).ownBlock) ho3 (fun k_ hk_ => ⟨Or.elim hk_.1 (or4 (fun hs_ => (b2.out.1 k_ (hs_).symm).1) (fun hs_ => (b5.out.1 k_ (hs_).symm)) (fun hs_ => (b3.out.1 k_ (hs_).symm).1) (fun hs_ => (b4.out.1 k_ (hs_).symm).1)) (fun hn_ => (.inr (Nat.le_trans (kz HK.out) hn_))),hk_.2.1,hk_.2.2⟩));have n7_ := As_ (Kept.then_ (S := (fun k_ => d0 k_ ∨ d7 k_ ∨ d1 k_ ∨ d2 k_)) (zq3 HK.out g8.out g9.out i3.out) hkp (fun k_ hs_ => Or.elim hs_ (fun e_ => (fun e_ => (b2.out.1 k_ e_.symm).1) e_) (fun e_ => Or.elim e_ (fun e_ => (fun e_ => (b5.out.1 k_ e_.symm)) e_) (fun e_ => Or.elim e_ (fun e_ => (fun e_ => (b3.out.1 k_ e_.symm).1) e_) (fun e_ => (fun e_ => (b4.out.1 k_ e_.symm).1) e_)))));have n8_ := As_ (hb);clear a7 a9 a8 HK HB b2 b5 b3 b4;revert n0_ n1_ n2_ n3_ n4_ n5_ n6_ n7_ n8_;intro a7 a9 a8 q8 q9 r0 r7 HK HB;obtain ⟨Ao102,co102,eo102⟩ := Kd.R_slice q8.out;subst eo102;have x3 : w101.cell? ⟨b1,0,none⟩ = some (.slice Ao17 d4.length co17) := (bkC a7.out 0).trans rfl;have x4 : w101.cell? ⟨b1,1,none⟩ = some (.slice Ao18 e1.length co18) := (bkC a7.out 1).trans rfl;have x5 : w101.cell? ⟨b1,2,none⟩ = some (.slice Ao19 b8.length co19) := (bkC a7.out 2).trans rfl;have x7 : w101.cell? ⟨b1,3,none⟩ = some (.slice Ao20 b6.length co20) := (bkC a7.out 3).trans rfl;have x8 : w101.cell? ⟨b1,4,none⟩ = some (.bool false) := (bkC a7.out 4).trans rfl;have x9 := bkF a7.out 0;have y8 := bkF a7.out 1;have y9 := bkF a7.out 2;have z1 := bkF a7.out 3;have z2 := bkF a7.out 4;obtain ⟨Ao104,co104,eo104⟩ := Kd.R_slice q9.out;subst eo104;obtain ⟨Ao105,co105,eo105⟩ := Kd.R_slice r0.out;subst eo105;obtain ⟨Ao106,co106,eo106⟩ := Kd.R_slice r7.out;subst eo106))
     go_meet
     case rel => exact ⟨_,(t4),(p3),(p4),(p6),(p7),(t3),(false),(.slice Ao102 p3.length co102),(.slice Ao104 p4.length co104),(.slice Ao105 p6.length co105),(.slice Ao106 p7.length co106),zT_,H',⟨by have := HJ74.out;first|omega|exact Nat.le_refl _⟩,⟨by exact Kd.R_mono (rX5 q8.out a7.out) (fun _ hk => ⟨hk.1.1,⟨hk.1.2.1,hk.1.2.2⟩⟩)⟩,⟨by exact Kd.R_mono (rX5 q9.out a7.out) (fun _ hk => hk.1)⟩,⟨by exact Kd.R_mono (rX5 r0.out a7.out) (fun _ hk => ⟨hk.1.1,⟨hk.1.2.1,hk.1.2.2⟩⟩)⟩,⟨by exact Kd.R_mono (rX5 r7.out a7.out) (fun _ hk => ⟨hk.1.1,⟨hk.1.2.1,hk.1.2.2⟩⟩)⟩,⟨p5 a7.out⟩,⟨f5 e2.out a9.out⟩,⟨f5 b7.out a8.out⟩,⟨zq3 HK.out g8.out g9.out i3.out⟩,⟨zb3 HB.out e8.out g6.out i1.out⟩⟩
    replace c94 := Bool.eq_false_iff.mpr c94
    subst c94
    have H1 : ((spec_takeShapes.f kj74 d4 e1 b8 b6 false d5 e6).bind fun i7 => (spec_stepShapes.j1 kj74 i7.2.2.2.2.2 i7.1 i7.2.1 i7.2.2.1 i7.2.2.2.1 i7.2.2.2.2.1)) = some (r1,r2,r3,r4,r5,r6) := by rw [if_neg (show ¬ (false = true) by decide)] at H;exact H
    clear H
    have H := H1
    clear H1
    replace H := obS H
    obtain ⟨⟨p8,p9,q0,q1,t5,t6⟩,A1070,H⟩ := H
    replace H : (spec_stepShapes.j1 kj74 t6 p8 p9 q0 q1 t5) = some (r1,r2,r3,r4,r5,r6) := H
    have A107 := As_ A1070
    clear A1070
    have H' := As_ H
    clear H
    have V7 := e5.out
    have V8 := e2.out
    have V9 := b0.out
    have W0 := b7.out
    have z3 : wc.cell? ⟨b1,0,none⟩ = some (.slice Ao17 d4.length co17) := (bkC a7.out 0).trans rfl
    have z4 : wc.cell? ⟨b1,1,none⟩ = some (.slice Ao18 e1.length co18) := (bkC a7.out 1).trans rfl
    have z5 : wc.cell? ⟨b1,2,none⟩ = some (.slice Ao19 b8.length co19) := (bkC a7.out 2).trans rfl
    have z6 : wc.cell? ⟨b1,3,none⟩ = some (.slice Ao20 b6.length co20) := (bkC a7.out 3).trans rfl
    have z7 : wc.cell? ⟨b1,4,none⟩ = some (.bool false) := (bkC a7.out 4).trans rfl
    have z8 := bkF a7.out 0
    have z9 := bkF a7.out 1
    have A4 := bkF a7.out 2
    have A5 := bkF a7.out 3
    have A6 := bkF a7.out 4
    have W3 := d9.out
    have W4 := e0.out
    obtain ⟨A7,A8,A9,B0⟩ := bk2 a9.out
    go_wp2_with (first|((with_reducible refine gate_callee (f := 125) rfl ?_);refine goesL_ (some 16) rfl rfl Try.func125 (by kernel_rfl) rfl #[.agg #[.slice Ao17 d4.length co17,.slice Ao18 e1.length co18,.slice Ao19 b8.length co19,.slice Ao20 b6.length co20,.bool false],.agg #[.int .i64 d5,.int .i64 e6]] rfl zM_ ?_;(with_reducible refine (spec_takeShapes.calls kj74 (fun k_ => some k_ = (.slice Ao17 d4.length co17 : Value).ownBlock) (.slice Ao17 d4.length co17) d4 (fun k_ => some k_ = (.slice Ao18 e1.length co18 : Value).ownBlock) (.slice Ao18 e1.length co18) e1 (fun k_ => some k_ = (.slice Ao19 b8.length co19 : Value).ownBlock) (.slice Ao19 b8.length co19) b8 (fun k_ => some k_ = (.slice Ao20 b6.length co20 : Value).ownBlock) (.slice Ao20 b6.length co20) b6 false d5 e6 p8 p9 q0 q1 t5 t6 w0 _ ?side1 ?side2 ?side3 ?side4 ?side5 ?side6 ?side7 ?side8 ?side9 ?side10 ?side11 A107.out).mono ?_);(case side1 => exact zb3 HB.out e8.out g6.out i1.out);(case side2 => exact Kd.R_tight rfl b2.out);(case side3 => exact fun k_ e_ => (b2.out.1 k_ e_.symm).2.1);(case side4 => exact fun k_ e_ => (b2.out.1 k_ e_.symm).2.2);(case side5 => exact Kd.R_tight rfl b5.out);(case side6 => exact Kd.R_tight rfl b3.out);(case side7 => exact fun k_ e_ => (b3.out.1 k_ e_.symm).2.1);(case side8 => exact fun k_ e_ => (b3.out.1 k_ e_.symm).2.2);(case side9 => exact Kd.R_tight rfl b4.out);(case side10 => exact fun k_ e_ => (b4.out.1 k_ e_.symm).2.1);(case side11 => exact fun k_ e_ => (b4.out.1 k_ e_.symm).2.2);rintro e w113 ⟨v793,v796,v799,v802,rfl,ho0,ho1,ho2,ho3,hb,hkp⟩;refine ⟨_,rfl,?_⟩;have n0_ := As_ (blk_kept (zk_ a7.out) hkp (no4 ⟨rne b2.out a7.out,rne b5.out a7.out,rne b3.out a7.out,rne b4.out a7.out⟩));have n1_ := As_ (blk_kept (zk_ a9.out) hkp (no4 ⟨rne b2.out a9.out,rne b5.out a9.out,rne b3.out a9.out,rne b4.out a9.out⟩));have n2_ := As_ (blk_kept (zk_ a8.out) hkp (no4 ⟨rne b2.out a8.out,rne b5.out a8.out,rne b3.out a8.out,rne b4.out a8.out⟩));have n3_ := As_ (Kd.R_mono (ok' := fun k_ => ((d0 k_ ∨ d7 k_ ∨ d1 k_ ∨ d2 k_) ∨ w.heap.size ≤ k_) ∧ some k_ ≠ (v799 : Value).ownBlock ∧ some k_ ≠ (v802 : Value).ownBlock) ho0 (fun k_ hk_ => ⟨Or.elim hk_.1 (or4 (fun hs_ => (b2.out.1 k_ (hs_).symm).1) (fun hs_ => (b5.out.1 k_ (hs_).symm)) (fun hs_ => (b3.out.1 k_ (hs_).symm).1) (fun hs_ => (b4.out.1 k_ (hs_).symm).1)) (fun hn_ => (.inr (Nat.le_trans (kz HK.out) hn_))),hk_.2.1,hk_.2.2⟩));have n4_ := As_ (Kd.R_mono (ok' := fun k_ => ((d0 k_ ∨ d7 k_ ∨ d1 k_ ∨ d2 k_) ∨ w.heap.size ≤ k_)) ho1 (fun k_ hk_ => Or.elim hk_ (or4 (fun hs_ => (b2.out.1 k_ (hs_).symm).1) (fun hs_ => (b5.out.1 k_ (hs_).symm)) (fun hs_ => (b3.out.1 k_ (hs_).symm).1) (fun hs_ => (b4.out.1 k_ (hs_).symm).1)) (fun hn_ => (.inr (Nat.le_trans (kz HK.out) hn_)))));have n5_ := As_ (Kd.R_mono (ok' := fun k_ => ((d0 k_ ∨ d7 k_ ∨ d1 k_ ∨ d2 k_) ∨ w.heap.size ≤ k_) ∧ some k_ ≠ (v793 : Value).ownBlock ∧ some k_ ≠ (v802 : Value).ownBlock) ho2 (fun k_ hk_ => ⟨Or.elim hk_.1 (or4 (fun hs_ => (b2.out.1 k_ (hs_).symm).1) (fun hs_ => (b5.out.1 k_ (hs_).symm)) (fun hs_ => (b3.out.1 k_ (hs_).symm).1) (fun hs_ => (b4.out.1 k_ (hs_).symm).1)) (fun hn_ => (.inr (Nat.le_trans (kz HK.out) hn_))),hk_.2.1,hk_.2.2⟩));have n6_ := As_ (Kd.R_mono (ok' := fun k_ => ((d0 k_ ∨ d7 k_ ∨ d1 k_ ∨ d2 k_) ∨ w.heap.size ≤ k_) ∧ some k_ ≠ (v793 : Value).ownBlock ∧ some k_ ≠ (v799 : Value).ownBlock) ho3 (fun k_ hk_ => ⟨Or.elim hk_.1 (or4 (fun hs_ => (b2.out.1 k_ (hs_).symm).1) (fun hs_ => (b5.out.1 k_ (hs_).symm)) (fun hs_ => (b3.out.1 k_ (hs_).symm).1) (fun hs_ => (b4.out.1 k_ (hs_).symm).1)) (fun hn_ => (.inr (Nat.le_trans (kz HK.out) hn_))),hk_.2.1,hk_.2.2⟩));have n7_ := As_ (Kept.then_ (S := (fun k_ => d0 k_ ∨ d7 k_ ∨ d1 k_ ∨ d2 k_)) (zq3 HK.out g8.out g9.out i3.out) hkp (fun k_ hs_ => Or.elim hs_ (fun e_ => (fun e_ => (b2.out.1 k_ e_.symm).1) e_) (fun e_ => Or.elim e_ (fun e_ => (fun e_ => (b5.out.1 k_ e_.symm)) e_) (fun e_ => Or.elim e_ (fun e_ => (fun e_ => (b3.out.1 k_ e_.symm).1) e_) (fun e_ => (fun e_ => (b4.out.1 k_ e_.symm).1) e_)))));have n8_ := As_ (hb);clear a7 a9 a8 HK HB b2 b5 b3 b4;revert n0_ n1_ n2_ n3_ n4_ n5_ n6_ n7_ n8_;intro a7 a9 a8 r8 r9 s8 s9 HK HB;obtain ⟨Ao114,co114,eo114⟩ := Kd.R_slice r8.out;subst eo114;have B1 : w113.cell? ⟨b1,0,none⟩ = some (.slice Ao17 d4.length co17) := (bkC a7.out 0).trans rfl;have B2 : w113.cell? ⟨b1,1,none⟩ = some (.slice Ao18 e1.length co18) := (bkC a7.out 1).trans rfl;have B3 : w113.cell? ⟨b1,2,none⟩ = some (.slice Ao19 b8.length co19) := (bkC a7.out 2).trans rfl;have B4 : w113.cell? ⟨b1,3,none⟩ = some (.slice Ao20 b6.length co20) := (bkC a7.out 3).trans rfl;have B5 : w113.cell? ⟨b1,4,none⟩ = some (.bool false) := (bkC a7.out 4).trans rfl;have B6 := bkF a7.out 0;have B7 := bkF a7.out 1;have B8 := bkF a7.out 2;have B9 := bkF a7.out 3;have C0 := bkF a7.out 4;obtain ⟨Ao116,co116,eo116⟩ := Kd.R_slice r9.out;subst eo116;obtain ⟨Ao117,co117,eo117⟩ := Kd.R_slice s8.out;subst eo117;obtain ⟨Ao118,co118,eo118⟩ := Kd.R_slice s9.out;subst eo118))
    go_meet
    case rel => exact ⟨_,(t6),(p8),(p9),(q0),(q1),(t5),(false),(.slice Ao114 p8.length co114),(.slice Ao116 p9.length co116),(.slice Ao117 q0.length co117),(.slice Ao118 q1.length co118),zT_,H',⟨by have := HJ74.out;first|omega|exact Nat.le_refl _⟩,⟨by exact Kd.R_mono (rX5 r8.out a7.out) (fun _ hk => ⟨hk.1.1,⟨hk.1.2.1,hk.1.2.2⟩⟩)⟩,⟨by exact Kd.R_mono (rX5 r9.out a7.out) (fun _ hk => hk.1)⟩,⟨by exact Kd.R_mono (rX5 s8.out a7.out) (fun _ hk => ⟨hk.1.1,⟨hk.1.2.1,hk.1.2.2⟩⟩)⟩,⟨by exact Kd.R_mono (rX5 s9.out a7.out) (fun _ hk => ⟨hk.1.1,⟨hk.1.2.1,hk.1.2.2⟩⟩)⟩,⟨p5 a7.out⟩,⟨f5 e2.out a9.out⟩,⟨f5 b7.out a8.out⟩,⟨zq3 HK.out g8.out g9.out i3.out⟩,⟨zb3 HB.out e8.out g6.out i1.out⟩⟩
 case rest =>
  clear HC16
  obtain ⟨kq,m3,e4,e9,e7,g4,g5,i5,j6,l7,j7,j8,rfl,HA,HJ15,b2,b5,b3,b4,a7,a9,a8,HK,HB⟩ := hcut
  cases kq with
  | zero => exact absurd HA.out (fun h_ => (by cases h_))
  | succ kj15 =>
   have H := HA.out
   clear HA
   simp only [spec_stepShapes.j1] at H
   by_cases c119 : m3 = true
   rotate_left
   ·replace c119 := Bool.eq_false_iff.mpr c119
    subst c119
    have H1 : (some (e4,e9,e7,g4,g5,false)) = some (r1,r2,r3,r4,r5,r6) := by rw [if_neg (show ¬ (false = true) by decide)] at H;exact H
    clear H
    have H := H1
    clear H1
    simp only [Option.some.injEq,Prod.mk.injEq] at H
    obtain ⟨rfl,rfl,rfl,rfl,rfl,rfl⟩ := H
    try go_wp2
    have n0_ := As_ (Kd.R_drew b2.out)
    have n1_ := As_ (Kd.R_drew b5.out)
    have n2_ := As_ (Kd.R_drew b3.out)
    have n3_ := As_ (Kd.R_drew b4.out)
    have n4_ := As_ (bkD a7.out)
    have n5_ := As_ (bkD a9.out)
    have n6_ := As_ (bkD a8.out)
    have n7_ := As_ (Kept.drew HK.out)
    have n8_ := As_ (bwD HB.out)
    clear b2 b5 b3 b4 a7 a9 a8 HK HB
    revert n0_ n1_ n2_ n3_ n4_ n5_ n6_ n7_ n8_;intro b2 b5 b3 b4 a7 a9 a8 HK HB
    obtain ⟨Ao142,co142,eo142⟩ := Kd.R_slice b2.out
    (first|subst eo142|(injection eo142 with f1_ f2_ f3_;have f4_ := f1_.symm;have f5_ := f3_.symm;clear f1_ f2_ f3_;subst f4_;subst f5_))
    obtain ⟨Ao144,co144,eo144⟩ := Kd.R_slice b5.out
    (first|subst eo144|(injection eo144 with f1_ f2_ f3_;have f4_ := f1_.symm;have f5_ := f3_.symm;clear f1_ f2_ f3_;subst f4_;subst f5_))
    obtain ⟨Ao146,co146,eo146⟩ := Kd.R_slice b3.out
    (first|subst eo146|(injection eo146 with f1_ f2_ f3_;have f4_ := f1_.symm;have f5_ := f3_.symm;clear f1_ f2_ f3_;subst f4_;subst f5_))
    obtain ⟨Ao148,co148,eo148⟩ := Kd.R_slice b4.out
    (first|subst eo148|(injection eo148 with f1_ f2_ f3_;have f4_ := f1_.symm;have f5_ := f3_.symm;clear f1_ f2_ f3_;subst f4_;subst f5_))
    refine start_ (n := 16) (S := fun w' => w'.cell? ⟨b1,0,none⟩ = some (.slice Ao142 e4.length co142) ∧ w'.cell? ⟨b1,1,none⟩ = some (.slice Ao144 e9.length co144) ∧ w'.cell? ⟨b1,2,none⟩ = some (.slice Ao146 e7.length co146) ∧ w'.cell? ⟨b1,3,none⟩ = some (.slice Ao148 g4.length co148) ∧ w'.cell? ⟨b1,4,none⟩ = some (.bool g5)) (ds := []) (bl_ 0 16) (by kernel_rfl) rfl rfl ⟨(bkC a7.out 0).trans rfl,(bkC a7.out 1).trans rfl,(bkC a7.out 2).trans rfl,(bkC a7.out 3).trans rfl,(bkC a7.out 4).trans rfl⟩ (fun hHeld => ?_);refine with_tabW spec_stepShapes.tab15 spec_stepShapes.bits15 (fun HT_ HW_ => ?_)
    generalize wc.drew = w141 at b2 b5 b3 b4 a7 a9 a8 HK HB hHeld ⊢
    refine pQ 1 88 (bl_ 2 16) HT_ rfl ?_
    refine pQ 2 89 (bl_ 6 16) HT_ rfl ?_
    refine uP 3 90 (bl_ 14 16) ?_ HT_ rfl (.inr ⟨by rfl,rfl⟩) ?_ ?_;rotate_left;(simp only [Act.put,sq_];rfl)
    refine uP 4 91 (bl_ 30 16) ?_ HT_ rfl (.inr ⟨by rfl,rfl⟩) ?_ ?_;rotate_left;(simp only [Act.put,sq_];rfl)
    refine uP 5 92 (bl_ 62 16) ?_ HT_ rfl (.inr ⟨by rfl,rfl⟩) ?_ ?_;rotate_left;(simp only [Act.put,sq_];rfl)
    refine uP 6 93 (bl_ 126 16) ?_ HT_ rfl (.inr ⟨by rfl,rfl⟩) ?_ ?_;rotate_left;(simp only [Act.put,sq_];rfl)
    refine pQ 7 94 (bl_ 254 16) HT_ rfl ?_
    refine pQ 8 95 (bl_ 510 16) HT_ rfl ?_
    refine uP 9 96 (bl_ 1022 16) ?_ HT_ rfl (.inr ⟨by rfl,rfl⟩) ?_ ?_;rotate_left;(simp only [Act.put,sq_];rfl)
    refine uP 10 97 (bl_ 2046 16) ?_ HT_ rfl (.inr ⟨by rfl,rfl⟩) ?_ ?_;rotate_left;(simp only [Act.put,sq_];rfl)
    refine uP 11 98 (bl_ 4094 16) ?_ HT_ rfl (.inr ⟨by rfl,rfl⟩) ?_ ?_;rotate_left;(simp only [Act.put,sq_];rfl)
    refine uP 12 99 (bl_ 8190 16) ?_ HT_ rfl (.inr ⟨by rfl,rfl⟩) ?_ ?_;rotate_left;(simp only [Act.put,sq_];rfl)
    refine pQ 13 100 (bl_ 16382 16) HT_ rfl ?_
    refine tP 0 87 (bl_ 16383 16) ?_ HT_ HW_ rfl (.inl ⟨by rfl,?_⟩) hHeld ?_ ?_ ?_;rotate_left;(rintro w' ⟨s0,s1,s2,s3,s4⟩;go_simp;with_reducible rfl);rotate_left;(simp only [Act.put,sq_];rfl)
    refine one_ (i := 14) (N := none) (bl_ 32767 16) rfl rfl (one_of HT_.out (by kernel_rfl)) (by decide) (fun K hK => ?_)
    have a0U : w141.cell? ⟨e3,0,none⟩ = some (.slice none 0 0) := (bkC a8.out 0).trans rfl
    have W5 := bkF a8.out 0
    have C1 := b0.out
    have C2 := d9.out
    have C3 := b7.out
    have C4 := e0.out
    have a0V : w141.cell? ⟨e3,1,none⟩ = some (.slice none 0 0) := (bkC a8.out 1).trans rfl
    have W6 := bkF a8.out 1
    have C5 := b0.out
    have C6 := d9.out
    have C7 := b7.out
    have C8 := e0.out
    have a0W : w141.cell? ⟨e3,2,none⟩ = some (.slice none 0 0) := (bkC a8.out 2).trans rfl
    have W7 := bkF a8.out 2
    have C9 := b0.out
    have D0 := d9.out
    have D1 := b7.out
    have D2 := e0.out
    have a0X : w141.cell? ⟨e3,3,none⟩ = some (.slice none 0 0) := (bkC a8.out 3).trans rfl
    have W8 := bkF a8.out 3
    have D3 := b0.out
    have D4 := d9.out
    have D5 := b7.out
    have D6 := e0.out
    have a0Y : w141.cell? ⟨e3,4,none⟩ = some (.bool i5) := (bkC a8.out 4).trans rfl
    have W9 := bkF a8.out 4
    have D7 := b0.out
    have D8 := d9.out
    have D9 := b7.out
    have E0 := e0.out
    refine skip_ (w1 := ?_) (by rfl) rfl ?_ ?_
    rotate_left
    ·go_simp
     rfl
    refine hK.out _ _ ⟨(c5 b0.out (hHeld.1)),(c5 b0.out (hHeld.2.1)),(c5 b0.out (hHeld.2.2.1)),(c5 b0.out (hHeld.2.2.2.1)),(c5 b0.out (hHeld.2.2.2.2))⟩ (fun hHeld => ?_)
    clear hK K
    refine pQ 15 5 (bl_ 65535 16) HT_ rfl ?_
    refine done_ (done_of HT_.out (by kernel_rfl)) ?_
    try go_wp2
    refine bodyPost_ret (results_ct rfl _ _ e3 120 #[.slice Ao142 e4.length co142,.slice Ao144 e9.length co144,.slice Ao146 e7.length co146,.slice Ao148 g4.length co148,.bool g5] (0,0) _ rfl (p5 a8.out) Try.underlying120 rfl (by kernel_rfl)) rfl ?_
    exact ⟨_,_,_,_,zE_,by exact Kd.R_mono (rX5 b2.out a8.out) (fun _ hk => ⟨hk.1.1,⟨hk.1.2.1,hk.1.2.2⟩⟩),by exact Kd.R_mono (rX5 b5.out a8.out) (fun _ hk => hk.1),by exact Kd.R_mono (rX5 b3.out a8.out) (fun _ hk => ⟨hk.1.1,⟨hk.1.2.1,hk.1.2.2⟩⟩),by exact Kd.R_mono (rX5 b4.out a8.out) (fun _ hk => ⟨hk.1.1,⟨hk.1.2.1,hk.1.2.2⟩⟩),zb3 HB.out e8.out g6.out i1.out,zq3 HK.out g8.out g9.out i3.out⟩

   subst c119
   have H1 : (if (e4.length : Int) ≤ 300 then (some (e4,e9,e7,g4,g5,decide ((e7.length : Int) ≤ 300))) else (some (e4,e9,e7,g4,g5,false))) = some (r1,r2,r3,r4,r5,r6) := by rw [if_pos rfl] at H;exact H
   clear H
   have H := H1
   clear H1
   by_cases c120 : (e4.length : Int) ≤ 300
   ·rw [if_pos c120] at H
    have t7 : decide ((e4.length : Int) ≤ 300) = true := deT c120
    have t8 : decide (e4.length ≤ 300) = true := deT (by omega)
    clear c120
    simp only [Option.some.injEq,Prod.mk.injEq] at H
    obtain ⟨rfl,rfl,rfl,rfl,rfl,rfl⟩ := H
    try go_wp2
    have n0_ := As_ (Kd.R_drew b2.out)
    have n1_ := As_ (Kd.R_drew b5.out)
    have n2_ := As_ (Kd.R_drew b3.out)
    have n3_ := As_ (Kd.R_drew b4.out)
    have n4_ := As_ (bkD a7.out)
    have n5_ := As_ (bkD a9.out)
    have n6_ := As_ (bkD a8.out)
    have n7_ := As_ (Kept.drew HK.out)
    have n8_ := As_ (bwD HB.out)
    clear b2 b5 b3 b4 a7 a9 a8 HK HB
    revert n0_ n1_ n2_ n3_ n4_ n5_ n6_ n7_ n8_;intro b2 b5 b3 b4 a7 a9 a8 HK HB
    obtain ⟨Ao122,co122,eo122⟩ := Kd.R_slice b2.out
    (first|subst eo122|(injection eo122 with f1_ f2_ f3_;have f4_ := f1_.symm;have f5_ := f3_.symm;clear f1_ f2_ f3_;subst f4_;subst f5_))
    obtain ⟨Ao123,co123,eo123⟩ := Kd.R_slice b3.out
    (first|subst eo123|(injection eo123 with f1_ f2_ f3_;have f4_ := f1_.symm;have f5_ := f3_.symm;clear f1_ f2_ f3_;subst f4_;subst f5_))
    obtain ⟨Ao125,co125,eo125⟩ := Kd.R_slice b5.out
    (first|subst eo125|(injection eo125 with f1_ f2_ f3_;have f4_ := f1_.symm;have f5_ := f3_.symm;clear f1_ f2_ f3_;subst f4_;subst f5_))
    obtain ⟨Ao128,co128,eo128⟩ := Kd.R_slice b4.out
    (first|subst eo128|(injection eo128 with f1_ f2_ f3_;have f4_ := f1_.symm;have f5_ := f3_.symm;clear f1_ f2_ f3_;subst f4_;subst f5_))
    refine start_ (n := 16) (S := fun w' => w'.cell? ⟨b1,0,none⟩ = some (.slice Ao122 e4.length co122) ∧ w'.cell? ⟨b1,1,none⟩ = some (.slice Ao125 e9.length co125) ∧ w'.cell? ⟨b1,2,none⟩ = some (.slice Ao123 e7.length co123) ∧ w'.cell? ⟨b1,3,none⟩ = some (.slice Ao128 g4.length co128) ∧ w'.cell? ⟨b1,4,none⟩ = some (.bool g5)) (ds := []) (bl_ 0 16) (by kernel_rfl) rfl rfl ⟨(bkC a7.out 0).trans rfl,(bkC a7.out 1).trans rfl,(bkC a7.out 2).trans rfl,(bkC a7.out 3).trans rfl,(bkC a7.out 4).trans rfl⟩ (fun hHeld => ?_);refine with_tabW spec_stepShapes.tab15 spec_stepShapes.bits15 (fun HT_ HW_ => ?_)
    generalize wc.drew = w121 at b2 b5 b3 b4 a7 a9 a8 HK HB hHeld ⊢
    refine pQ 1 88 (bl_ 2 16) HT_ rfl ?_
    refine pQ 2 89 (bl_ 6 16) HT_ rfl ?_
    refine pQ 3 90 (bl_ 14 16) HT_ rfl ?_
    refine tP 0 87 (bl_ 15 16) ?_ HT_ HW_ rfl (.inl ⟨by rfl,?_⟩) hHeld ?_ ?_ ?_;rotate_left;(rintro w' ⟨s0,s1,s2,s3,s4⟩;go_simp;with_reducible rfl);rotate_left;(simp only [Act.put,sq_];rfl)
    refine tP 4 91 (bl_ 31 16) ?_ HT_ HW_ rfl (.inl ⟨by rfl,?_⟩) hHeld ?_ ?_ ?_;rotate_left;(rintro w' ⟨s0,s1,s2,s3,s4⟩;go_simp;with_reducible rfl);rotate_left;(simp only [Act.put,sq_];rfl)
    refine pQ 5 92 (bl_ 63 16) HT_ rfl ?_
    refine pQ 6 93 (bl_ 127 16) HT_ rfl ?_
    refine pQ 7 94 (bl_ 255 16) HT_ rfl ?_
    refine pQ 8 95 (bl_ 511 16) HT_ rfl ?_
    refine pQ 9 96 (bl_ 1023 16) HT_ rfl ?_
    refine tP 10 97 (bl_ 2047 16) ?_ HT_ HW_ rfl (.inl ⟨by rfl,?_⟩) hHeld ?_ ?_ ?_;rotate_left;(rintro w' ⟨s0,s1,s2,s3,s4⟩;go_simp;with_reducible rfl);rotate_left;(simp only [Act.put,sq_];rfl)
    refine pQ 11 98 (bl_ 4095 16) HT_ rfl ?_
    refine pQ 12 99 (bl_ 8191 16) HT_ rfl ?_
    refine pQ 13 100 (bl_ 16383 16) HT_ rfl ?_
    refine one_ (i := 14) (N := none) (bl_ 32767 16) rfl rfl (one_of HT_.out (by kernel_rfl)) (by decide) (fun K hK => ?_)
    have a0Z : w121.cell? ⟨e3,0,none⟩ = some (.slice none 0 0) := (bkC a8.out 0).trans rfl
    have X0 := bkF a8.out 0
    have E1 := b0.out
    have E2 := d9.out
    have E3 := b7.out
    have E4 := e0.out
    have a00 : w121.cell? ⟨e3,1,none⟩ = some (.slice none 0 0) := (bkC a8.out 1).trans rfl
    have X1 := bkF a8.out 1
    have E5 := b0.out
    have E6 := d9.out
    have E7 := b7.out
    have E8 := e0.out
    have a01 : w121.cell? ⟨e3,2,none⟩ = some (.slice none 0 0) := (bkC a8.out 2).trans rfl
    have X2 := bkF a8.out 2
    have E9 := b0.out
    have F0 := d9.out
    have F1 := b7.out
    have F2 := e0.out
    have a02 : w121.cell? ⟨e3,3,none⟩ = some (.slice none 0 0) := (bkC a8.out 3).trans rfl
    have X3 := bkF a8.out 3
    have F3 := b0.out
    have F4 := d9.out
    have F5 := b7.out
    have F6 := e0.out
    have a03 : w121.cell? ⟨e3,4,none⟩ = some (.bool i5) := (bkC a8.out 4).trans rfl
    have X4 := bkF a8.out 4
    have F7 := b0.out
    have F8 := d9.out
    have F9 := b7.out
    have G0 := e0.out
    refine skip_ (w1 := ?_) (by rfl) rfl ?_ ?_
    rotate_left
    ·go_simp
     rfl
    refine hK.out _ _ ⟨(c5 b0.out (hHeld.1)),(c5 b0.out (hHeld.2.1)),(c5 b0.out (hHeld.2.2.1)),(c5 b0.out (hHeld.2.2.2.1)),(c5 b0.out (hHeld.2.2.2.2))⟩ (fun hHeld => ?_)
    clear hK K
    refine pQ 15 5 (bl_ 65535 16) HT_ rfl ?_
    refine done_ (done_of HT_.out (by kernel_rfl)) ?_
    try go_wp2
    refine bodyPost_ret (results_ct rfl _ _ e3 120 #[.slice Ao122 e4.length co122,.slice Ao125 e9.length co125,.slice Ao123 e7.length co123,.slice Ao128 g4.length co128,.bool g5] (0,0) _ rfl (p5 a8.out) Try.underlying120 rfl (by kernel_rfl)) rfl ?_
    exact ⟨_,_,_,_,zE_,by exact Kd.R_mono (rX5 b2.out a8.out) (fun _ hk => ⟨hk.1.1,⟨hk.1.2.1,hk.1.2.2⟩⟩),by exact Kd.R_mono (rX5 b5.out a8.out) (fun _ hk => hk.1),by exact Kd.R_mono (rX5 b3.out a8.out) (fun _ hk => ⟨hk.1.1,⟨hk.1.2.1,hk.1.2.2⟩⟩),by exact Kd.R_mono (rX5 b4.out a8.out) (fun _ hk => ⟨hk.1.1,⟨hk.1.2.1,hk.1.2.2⟩⟩),zb3 HB.out e8.out g6.out i1.out,zq3 HK.out g8.out g9.out i3.out⟩
   rw [if_neg c120] at H
   have t7 : decide ((e4.length : Int) ≤ 300) = false := deF c120
   have t8 : decide (e4.length ≤ 300) = false := deF (by omega)
   clear c120
   simp only [Option.some.injEq,Prod.mk.injEq] at H
   obtain ⟨rfl,rfl,rfl,rfl,rfl,rfl⟩ := H
   try go_wp2
   have n0_ := As_ (Kd.R_drew b2.out)
   have n1_ := As_ (Kd.R_drew b5.out)
   have n2_ := As_ (Kd.R_drew b3.out)
   have n3_ := As_ (Kd.R_drew b4.out)
   have n4_ := As_ (bkD a7.out)
   have n5_ := As_ (bkD a9.out)
   have n6_ := As_ (bkD a8.out)
   have n7_ := As_ (Kept.drew HK.out)
   have n8_ := As_ (bwD HB.out)
   clear b2 b5 b3 b4 a7 a9 a8 HK HB
   revert n0_ n1_ n2_ n3_ n4_ n5_ n6_ n7_ n8_;intro b2 b5 b3 b4 a7 a9 a8 HK HB
   obtain ⟨Ao132,co132,eo132⟩ := Kd.R_slice b2.out
   (first|subst eo132|(injection eo132 with f1_ f2_ f3_;have f4_ := f1_.symm;have f5_ := f3_.symm;clear f1_ f2_ f3_;subst f4_;subst f5_))
   obtain ⟨Ao134,co134,eo134⟩ := Kd.R_slice b5.out
   (first|subst eo134|(injection eo134 with f1_ f2_ f3_;have f4_ := f1_.symm;have f5_ := f3_.symm;clear f1_ f2_ f3_;subst f4_;subst f5_))
   obtain ⟨Ao136,co136,eo136⟩ := Kd.R_slice b3.out
   (first|subst eo136|(injection eo136 with f1_ f2_ f3_;have f4_ := f1_.symm;have f5_ := f3_.symm;clear f1_ f2_ f3_;subst f4_;subst f5_))
   obtain ⟨Ao138,co138,eo138⟩ := Kd.R_slice b4.out
   (first|subst eo138|(injection eo138 with f1_ f2_ f3_;have f4_ := f1_.symm;have f5_ := f3_.symm;clear f1_ f2_ f3_;subst f4_;subst f5_))
   refine start_ (n := 16) (S := fun w' => w'.cell? ⟨b1,0,none⟩ = some (.slice Ao132 e4.length co132) ∧ w'.cell? ⟨b1,1,none⟩ = some (.slice Ao134 e9.length co134) ∧ w'.cell? ⟨b1,2,none⟩ = some (.slice Ao136 e7.length co136) ∧ w'.cell? ⟨b1,3,none⟩ = some (.slice Ao138 g4.length co138) ∧ w'.cell? ⟨b1,4,none⟩ = some (.bool g5)) (ds := []) (bl_ 0 16) (by kernel_rfl) rfl rfl ⟨(bkC a7.out 0).trans rfl,(bkC a7.out 1).trans rfl,(bkC a7.out 2).trans rfl,(bkC a7.out 3).trans rfl,(bkC a7.out 4).trans rfl⟩ (fun hHeld => ?_);refine with_tabW spec_stepShapes.tab15 spec_stepShapes.bits15 (fun HT_ HW_ => ?_)
   generalize wc.drew = w131 at b2 b5 b3 b4 a7 a9 a8 HK HB hHeld ⊢
   refine pQ 1 88 (bl_ 2 16) HT_ rfl ?_
   refine pQ 2 89 (bl_ 6 16) HT_ rfl ?_
   refine pQ 3 90 (bl_ 14 16) HT_ rfl ?_
   refine tP 0 87 (bl_ 15 16) ?_ HT_ HW_ rfl (.inl ⟨by rfl,?_⟩) hHeld ?_ ?_ ?_;rotate_left;(rintro w' ⟨s0,s1,s2,s3,s4⟩;go_simp;with_reducible rfl);rotate_left;(simp only [Act.put,sq_];rfl)
   refine tP 4 91 (bl_ 31 16) ?_ HT_ HW_ rfl (.inl ⟨by rfl,?_⟩) hHeld ?_ ?_ ?_;rotate_left;(rintro w' ⟨s0,s1,s2,s3,s4⟩;go_simp;with_reducible rfl);rotate_left;(simp only [Act.put,sq_];rfl)
   refine pQ 5 92 (bl_ 63 16) HT_ rfl ?_
   refine pQ 6 93 (bl_ 127 16) HT_ rfl ?_
   refine pQ 7 94 (bl_ 255 16) HT_ rfl ?_
   refine pQ 8 95 (bl_ 511 16) HT_ rfl ?_
   refine uP 9 96 (bl_ 1023 16) ?_ HT_ rfl (.inr ⟨by rfl,rfl⟩) ?_ ?_;rotate_left;(simp only [Act.put,sq_];rfl)
   refine uP 10 97 (bl_ 2047 16) ?_ HT_ rfl (.inr ⟨by rfl,rfl⟩) ?_ ?_;rotate_left;(simp only [Act.put,sq_];rfl)
   refine uP 11 98 (bl_ 4095 16) ?_ HT_ rfl (.inr ⟨by rfl,rfl⟩) ?_ ?_;rotate_left;(simp only [Act.put,sq_];rfl)
   refine uP 12 99 (bl_ 8191 16) ?_ HT_ rfl (.inr ⟨by rfl,rfl⟩) ?_ ?_;rotate_left;(simp only [Act.put,sq_];rfl)
   refine pQ 13 100 (bl_ 16383 16) HT_ rfl ?_
   refine one_ (i := 14) (N := none) (bl_ 32767 16) rfl rfl (one_of HT_.out (by kernel_rfl)) (by decide) (fun K hK => ?_)
   have a04 : w131.cell? ⟨e3,0,none⟩ = some (.slice none 0 0) := (bkC a8.out 0).trans rfl
   have X5 := bkF a8.out 0
   have G1 := b0.out
   have G2 := d9.out
   have G3 := b7.out
   have G4 := e0.out
   have a05 : w131.cell? ⟨e3,1,none⟩ = some (.slice none 0 0) := (bkC a8.out 1).trans rfl
   have X6 := bkF a8.out 1
   have G5 := b0.out
   have G6 := d9.out
   have G7 := b7.out
   have G8 := e0.out
   have a06 : w131.cell? ⟨e3,2,none⟩ = some (.slice none 0 0) := (bkC a8.out 2).trans rfl
   have X7 := bkF a8.out 2
   have G9 := b0.out
   have H0 := d9.out
   have H2 := b7.out
   have H3 := e0.out
   have a07 : w131.cell? ⟨e3,3,none⟩ = some (.slice none 0 0) := (bkC a8.out 3).trans rfl
   have X8 := bkF a8.out 3
   have H4 := b0.out
   have H5 := d9.out
   have H6 := b7.out
   have H7 := e0.out
   have a08 : w131.cell? ⟨e3,4,none⟩ = some (.bool i5) := (bkC a8.out 4).trans rfl
   have X9 := bkF a8.out 4
   have H8 := b0.out
   have H9 := d9.out
   have I0 := b7.out
   have I1 := e0.out
   refine skip_ (w1 := ?_) (by rfl) rfl ?_ ?_
   rotate_left
   ·go_simp
    rfl
   refine hK.out _ _ ⟨(c5 b0.out (hHeld.1)),(c5 b0.out (hHeld.2.1)),(c5 b0.out (hHeld.2.2.1)),(c5 b0.out (hHeld.2.2.2.1)),(c5 b0.out (hHeld.2.2.2.2))⟩ (fun hHeld => ?_)
   clear hK K
   refine pQ 15 5 (bl_ 65535 16) HT_ rfl ?_
   refine done_ (done_of HT_.out (by kernel_rfl)) ?_
   try go_wp2
   refine bodyPost_ret (results_ct rfl _ _ e3 120 #[.slice Ao132 e4.length co132,.slice Ao134 e9.length co134,.slice Ao136 e7.length co136,.slice Ao138 g4.length co138,.bool g5] (0,0) _ rfl (p5 a8.out) Try.underlying120 rfl (by kernel_rfl)) rfl ?_
   exact ⟨_,_,_,_,zE_,by exact Kd.R_mono (rX5 b2.out a8.out) (fun _ hk => ⟨hk.1.1,⟨hk.1.2.1,hk.1.2.2⟩⟩),by exact Kd.R_mono (rX5 b5.out a8.out) (fun _ hk => hk.1),by exact Kd.R_mono (rX5 b3.out a8.out) (fun _ hk => ⟨hk.1.1,⟨hk.1.2.1,hk.1.2.2⟩⟩),by exact Kd.R_mono (rX5 b4.out a8.out) (fun _ hk => ⟨hk.1.1,⟨hk.1.2.1,hk.1.2.2⟩⟩),zb3 HB.out e8.out g6.out i1.out,zq3 HK.out g8.out g9.out i3.out⟩
end Go.Proofs.Ytbokjhdhpmmpfaa.Q
