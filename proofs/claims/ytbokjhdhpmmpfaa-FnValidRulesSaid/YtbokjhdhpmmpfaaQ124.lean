-- Written by wip/tools/qprint.py (a program of this claim's author) by means of the kit's printer.
import Derived.Test.YtbokjhdhpmmpfaaQ0
import Derived.Test.YtbokjhdhpmmpfaaQ105
namespace Go.Proofs.Ytbokjhdhpmmpfaa.Q
open Go.RowKit Go.Proofs.YtbokjhdhpmmpfaaW.PrintWords Go.Proofs.YtbokjhdhpmmpfaaW.PrintLast Go.Proofs.YtbokjhdhpmmpfaaW.PrintMore
attribute [local go_sem] max2_int min2_int max_two min_two max_three min_three max_four min_four   -- for this text's walks alone
set_option linter.unusedVariables false
set_option linter.unusedSimpArgs false

/-! ### spec_markShapes: function 124 -/
mutual
def spec_markShapes.j1 : Nat → Int → Int → List Int → List Bool → List Int → List Int → Bool → Option (List Int × List Bool × List Int × List Int × Bool × Bool)
 | 0,_,_,_,_,_,_,_ => none
 | k + 1,x1,x6,d8,e4,d9,e5,e6 => if x6 < 0 then (some (d8,e4,d9,e5,e6,false)) else (if 0 ≤ (wrap64 (x6 + 1)) then (if (wrap64 (x6 + 1)) ≤ (d9.length : Int) then ((spec_copyInts.f (d9.drop ((wrap64 (x6 + 1)) : Int).toNat)).bind fun e0 => (if 0 ≤ x6 then (if x6 ≤ (d9.length : Int) then ((some (d9.take (x6 : Int).toNat : List Int)).bind fun b6 => (if x1 = 3 then ((spec_pushShape.f d8 e4 b6 e5 e6 2).bind fun e1 => (some (e1.1,e1.2.1,e1.2.2.1,e1.2.2.2.1,e1.2.2.2.2,true))) else (if x1 = 9 then ((spec_shapeAt.f d8 e4 b6 e5 e6 0).bind fun i8 => (some (d8,e4,b6,e5,e6,(i8 == 3)))) else (if x1 = 12 then (spec_markShapes.l1 k e0 0 d8 e4 b6 e5 e6) else (some (d8,e4,b6,e5,e6,true)))))) else (none)) else (none))) else (none)) else (none))
def spec_markShapes.l1 : Nat → List Int → Int → List Int → List Bool → List Int → List Int → Bool → Option (List Int × List Bool × List Int × List Int × Bool × Bool)
 | 0,_,_,_,_,_,_,_ => none
 | k + 1,x7,x8,d8,e4,d9,e5,e6 => if x8 < (x7.length : Int) then (if 0 ≤ x8 then (if 0 ≤ (rd x7 x8) then (if (rd x7 x8) < (d8.length : Int) then ((spec_keyKind.f (rd d8 (rd x7 x8))).bind fun l9 => (if l9 = true then (spec_markShapes.l1 k x7 (wrap64 (x8 + 2)) d8 e4 d9 e5 e6) else (some (d8,e4,d9,e5,e6,false)))) else (none)) else (none)) else (none)) else ((spec_shapeAt.f d8 e4 d9 e5 e6 0).bind fun j3 => (if j3 = 4 then (some (d8,e4,d9,e5,e6,(((x7.length : Int) % 2) == 0))) else (some (d8,e4,d9,e5,e6,false))))
def spec_markShapes.l0 : Nat → Int → Int → List Int → List Bool → List Int → List Int → Bool → Option (List Int × List Bool × List Int × List Int × Bool × Bool)
 | 0,_,_,_,_,_,_,_ => none
 | k + 1,x1,x6,d8,e4,d9,e5,e6 => if x6 ≥ 0 then (if 0 ≤ x6 then (if x6 < (d9.length : Int) then (if (rd d9 x6) ≥ 0 then (spec_markShapes.l0 k x1 (wrap64 (x6 - 1)) d8 e4 d9 e5 e6) else (spec_markShapes.j1 k x1 x6 d8 e4 d9 e5 e6)) else (none)) else (none)) else (spec_markShapes.j1 k x1 x6 d8 e4 d9 e5 e6)
end
def spec_markShapes.f (k : Nat) (b5 : List Int) (d2 : List Bool) (b4 : List Int) (b7 : List Int) (d4 : Bool) (a1 : Int) : Option (List Int × List Bool × List Int × List Int × Bool × Bool) := spec_markShapes.l0 k a1 (wrap64 ((b4.length : Int) - 1)) b5 d2 b4 b7 d4
set_option maxRecDepth 100000 in
theorem spec_markShapes.mono_l : ∀ k,(∀ y0 y1 y2 y3 y4 y5 y6,LeO (spec_markShapes.j1 k y0 y1 y2 y3 y4 y5 y6) (spec_markShapes.j1 (k + 1) y0 y1 y2 y3 y4 y5 y6)) ∧ (∀ y0 y1 y2 y3 y4 y5 y6,LeO (spec_markShapes.l1 k y0 y1 y2 y3 y4 y5 y6) (spec_markShapes.l1 (k + 1) y0 y1 y2 y3 y4 y5 y6)) ∧ (∀ y0 y1 y2 y3 y4 y5 y6,LeO (spec_markShapes.l0 k y0 y1 y2 y3 y4 y5 y6) (spec_markShapes.l0 (k + 1) y0 y1 y2 y3 y4 y5 y6))
 | 0 => ⟨fun _ _ _ _ _ _ _ r h => (by cases h),fun _ _ _ _ _ _ _ r h => (by cases h),fun _ _ _ _ _ _ _ r h => (by cases h)⟩
 | k + 1 => by
  obtain ⟨ih0,ih1,ih2⟩ := spec_markShapes.mono_l k
  refine ⟨?_,?_,?_⟩
  ·intro y0 y1 y2 y3 y4 y5 y6
   unfold spec_markShapes.j1
   repeat' first
   | (with_reducible exact ih0 _ _ _ _ _ _ _)
   | (with_reducible exact ih1 _ _ _ _ _ _ _)
   | (with_reducible exact ih2 _ _ _ _ _ _ _)
   | (with_reducible exact LeO.refl _)
   | (with_reducible exact LeO.none _)
   | (with_reducible refine LeO.ite ?_ ?_)
   | (with_reducible refine LeO.bind ?_ (fun _ => ?_))
   | exact ih0 _ _ _ _ _ _ _
   | exact ih1 _ _ _ _ _ _ _
   | exact ih2 _ _ _ _ _ _ _
   | exact LeO.none _
   | refine LeO.ite ?_ ?_
   | refine LeO.bind ?_ (fun _ => ?_)
  ·intro y0 y1 y2 y3 y4 y5 y6
   unfold spec_markShapes.l1
   repeat' first
   | (with_reducible exact ih0 _ _ _ _ _ _ _)
   | (with_reducible exact ih1 _ _ _ _ _ _ _)
   | (with_reducible exact ih2 _ _ _ _ _ _ _)
   | (with_reducible exact LeO.refl _)
   | (with_reducible exact LeO.none _)
   | (with_reducible refine LeO.ite ?_ ?_)
   | (with_reducible refine LeO.bind ?_ (fun _ => ?_))
   | exact ih0 _ _ _ _ _ _ _
   | exact ih1 _ _ _ _ _ _ _
   | exact ih2 _ _ _ _ _ _ _
   | exact LeO.none _
   | refine LeO.ite ?_ ?_
   | refine LeO.bind ?_ (fun _ => ?_)
  ·intro y0 y1 y2 y3 y4 y5 y6
   unfold spec_markShapes.l0
   repeat' first
   | (with_reducible exact ih0 _ _ _ _ _ _ _)
   | (with_reducible exact ih1 _ _ _ _ _ _ _)
   | (with_reducible exact ih2 _ _ _ _ _ _ _)
   | (with_reducible exact LeO.refl _)
   | (with_reducible exact LeO.none _)
   | (with_reducible refine LeO.ite ?_ ?_)
   | (with_reducible refine LeO.bind ?_ (fun _ => ?_))
   | exact ih0 _ _ _ _ _ _ _
   | exact ih1 _ _ _ _ _ _ _
   | exact ih2 _ _ _ _ _ _ _
   | exact LeO.none _
   | refine LeO.ite ?_ ?_
   | refine LeO.bind ?_ (fun _ => ?_)
set_option maxRecDepth 100000 in
theorem spec_markShapes.mono : ∀ a0 a1 a2 a3 a4 a5 k,LeO (spec_markShapes.f k a0 a1 a2 a3 a4 a5) (spec_markShapes.f (k + 1) a0 a1 a2 a3 a4 a5) := by
 intro a0 a1 a2 a3 a4 a5 k
 obtain ⟨ih0,ih1,ih2⟩ := spec_markShapes.mono_l k
 unfold spec_markShapes.f
 repeat' first
   | (with_reducible exact ih0 _ _ _ _ _ _ _)
   | (with_reducible exact ih1 _ _ _ _ _ _ _)
   | (with_reducible exact ih2 _ _ _ _ _ _ _)
   | (with_reducible exact LeO.refl _)
   | (with_reducible exact LeO.none _)
   | (with_reducible refine LeO.ite ?_ ?_)
   | (with_reducible refine LeO.bind ?_ (fun _ => ?_))
   | exact ih0 _ _ _ _ _ _ _
   | exact ih1 _ _ _ _ _ _ _
   | exact ih2 _ _ _ _ _ _ _
   | exact LeO.none _
   | refine LeO.ite ?_ ?_
   | refine LeO.bind ?_ (fun _ => ?_)
def spec_markShapes.T17 : Bool × List (List Nat × List Nat) := (true,[([],[]),([0],[0]),([],[]),([],[]),([2,3],[2,3]),([4],[4]),([1,5],[1,5]),([6],[6]),([7],[7]),([8],[8])])
def spec_markShapes.B17 : List Nat := [0,1,0,0,12,28,63,127,255,511]
theorem spec_markShapes.tab17 : rtab .any (opsOf Try.f124 17) = spec_markShapes.T17 := by kernel_rfl
theorem spec_markShapes.bits17 : waitsOk spec_markShapes.T17.2 spec_markShapes.B17 = true := by kernel_rfl
def spec_markShapes.T19 : Bool × List (List Nat × List Nat) := (true,[([],[]),([],[]),([1],[1]),([2],[2]),([3,2],[3]),([4],[4]),([5,4],[4,5]),([6,4],[4,6]),([7,4],[4,7]),([4,8],[4,8]),([0,4,0],[0]),([9,10,0,1,2,3,4,5,6,7,8,9,10],[9])])
def spec_markShapes.B19 : List Nat := [0,0,2,6,14,30,62,126,254,510,31,2047]
theorem spec_markShapes.tab19 : rtab .any (opsOf Try.f124 19) = spec_markShapes.T19 := by kernel_rfl
theorem spec_markShapes.bits19 : waitsOk spec_markShapes.T19.2 spec_markShapes.B19 = true := by kernel_rfl
set_option maxHeartbeats 8000000 in
set_option maxRecDepth 100000 in
theorem spec_markShapes.calls (k : Nat) (b9 : Nat → Prop) (i9 : Value) (b5 : List Int) (d3 : Nat → Prop) (j5 : Value) (d2 : List Bool) (d0 : Nat → Prop) (j0 : Value) (b4 : List Int) (d1 : Nat → Prop) (j2 : Value) (b7 : List Int) (d4 : Bool) (a1 : Int) (r1 : List Int) (r2 : List Bool) (r3 : List Int) (r4 : List Int) (r5 : Bool) (r6 : Bool) (w0 w : World) (hB : Below w0.heap.size w0 w) (ho0_0 : Kd.R (Kd.int .i64) 3 w w0.heap.size b9 i9 b5) (j7 : ∀ k_,b9 k_ → ¬ d0 k_) (j8 : ∀ k_,b9 k_ → ¬ d1 k_) (ho0_1 : Kd.R Kd.bool 4 w w0.heap.size d3 j5 d2) (ho0_2 : Kd.R (Kd.int .i64) 3 w w0.heap.size d0 j0 b4) (j9 : ∀ k_,d0 k_ → ¬ b9 k_) (l4 : ∀ k_,d0 k_ → ¬ d1 k_) (ho0_3 : Kd.R (Kd.int .i64) 3 w w0.heap.size d1 j2 b7) (l5 : ∀ k_,d1 k_ → ¬ b9 k_) (l6 : ∀ k_,d1 k_ → ¬ d0 k_) (h : spec_markShapes.f k b5 d2 b4 b7 d4 a1 = some (r1,r2,r3,r4,r5,r6)) :
  Calls Try.prog 124 #[.agg #[i9,j5,j0,j2,.bool d4],.int .i64 a1] w fun e w' => ∃ v0_ v1_ v2_ v3_ : Value,e = .returned (.tuple #[.agg #[v0_,v1_,v2_,v3_,.bool r5],.bool r6]) ∧ Kd.R (Kd.int .i64) 3 w' w0.heap.size (fun k_ => ((b9 k_ ∨ d3 k_ ∨ d0 k_ ∨ d1 k_) ∨ w.heap.size ≤ k_) ∧ some k_ ≠ (v2_ : Value).ownBlock ∧ some k_ ≠ (v3_ : Value).ownBlock) v0_ r1 ∧ Kd.R Kd.bool 4 w' w0.heap.size (fun k_ => ((b9 k_ ∨ d3 k_ ∨ d0 k_ ∨ d1 k_) ∨ w.heap.size ≤ k_)) v1_ r2 ∧ Kd.R (Kd.int .i64) 3 w' w0.heap.size (fun k_ => ((b9 k_ ∨ d3 k_ ∨ d0 k_ ∨ d1 k_) ∨ w.heap.size ≤ k_) ∧ some k_ ≠ (v0_ : Value).ownBlock ∧ some k_ ≠ (v3_ : Value).ownBlock) v2_ r3 ∧ Kd.R (Kd.int .i64) 3 w' w0.heap.size (fun k_ => ((b9 k_ ∨ d3 k_ ∨ d0 k_ ∨ d1 k_) ∨ w.heap.size ≤ k_) ∧ some k_ ≠ (v0_ : Value).ownBlock ∧ some k_ ≠ (v2_ : Value).ownBlock) v3_ r4 ∧ Below w0.heap.size w0 w' ∧ Kept w w' (fun k_ => b9 k_ ∨ d3 k_ ∨ d0 k_ ∨ d1 k_) := by
 have hu120 := Try.underlying120
 have i2 := As_ (show Kd.R (Kd.int .i64) 3 w w0.heap.size (fun k_ => ((b9 k_ ∨ d3 k_ ∨ d0 k_ ∨ d1 k_) ∨ w.heap.size ≤ k_) ∧ some k_ ≠ (j0 : Value).ownBlock ∧ some k_ ≠ (j2 : Value).ownBlock) i9 b5 from Kd.R_mono ho0_0 (fun k_ hk => ⟨(.inl (.inl hk)),fun e_ => j7 k_ hk (ho0_2.1 k_ e_.symm),fun e_ => j8 k_ hk (ho0_3.1 k_ e_.symm)⟩))
 have i3 := As_ (show Kd.R Kd.bool 4 w w0.heap.size (fun k_ => ((b9 k_ ∨ d3 k_ ∨ d0 k_ ∨ d1 k_) ∨ w.heap.size ≤ k_)) j5 d2 from Kd.R_mono ho0_1 (fun k_ hk => (.inl (.inr (.inl hk)))))
 have i4 := As_ (show Kd.R (Kd.int .i64) 3 w w0.heap.size (fun k_ => ((b9 k_ ∨ d3 k_ ∨ d0 k_ ∨ d1 k_) ∨ w.heap.size ≤ k_) ∧ some k_ ≠ (i9 : Value).ownBlock ∧ some k_ ≠ (j2 : Value).ownBlock) j0 b4 from Kd.R_mono ho0_2 (fun k_ hk => ⟨(.inl (.inr (.inr (.inl hk)))),fun e_ => j9 k_ hk (ho0_0.1 k_ e_.symm),fun e_ => l4 k_ hk (ho0_3.1 k_ e_.symm)⟩))
 have i5 := As_ (show Kd.R (Kd.int .i64) 3 w w0.heap.size (fun k_ => ((b9 k_ ∨ d3 k_ ∨ d0 k_ ∨ d1 k_) ∨ w.heap.size ≤ k_) ∧ some k_ ≠ (i9 : Value).ownBlock ∧ some k_ ≠ (j0 : Value).ownBlock) j2 b7 from Kd.R_mono ho0_3 (fun k_ hk => ⟨(.inl (.inr (.inr (.inr hk)))),fun e_ => l5 k_ hk (ho0_0.1 k_ e_.symm),fun e_ => l6 k_ hk (ho0_2.1 k_ e_.symm)⟩))
 have HK := As_ (Kept.refl w (fun k_ => b9 k_ ∨ d3 k_ ∨ d0 k_ ∨ d1 k_))
 have HW0 := As_ hB.size
 have HB := As_ hB
 clear hB
 have H : (spec_markShapes.l0 k a1 (wrap64 ((b4.length : Int) - 1)) b5 d2 b4 b7 d4) = some (r1,r2,r3,r4,r5,r6) := h
 clear h
 have HC3 := As_ H
 clear H
 obtain ⟨Ao4,co4,eo4⟩ := Kd.R_slice i2.out
 subst eo4
 obtain ⟨Ao5,co5,eo5⟩ := Kd.R_slice i3.out
 subst eo5
 obtain ⟨Ao6,co6,eo6⟩ := Kd.R_slice i4.out
 subst eo6
 obtain ⟨Ao7,co7,eo7⟩ := Kd.R_slice i5.out
 subst eo7
 go_enter Try.func124,Try.ntmps124
 go_upto_block 0 with (first|((with_reducible refine gate_dst (N := 2) rfl ?_);(try (refine gate_guard (by rfl) ?_;dsimp only));refine box_event ?hg (N := 2) ?hd (cs := #[.slice Ao4 b5.length co4,.slice Ao5 d2.length co5,.slice Ao6 b4.length co6,.slice Ao7 b7.length co7,.bool d4]) (t := 120) ?hr ?_;(case hd => rfl);(case hg => rfl);(case hr => go_simp <;> rfl);intro b2 hg w8 hbox hb;have n0_ := As_ (Kd.R_below (zR_ i2.out) hb);have n1_ := As_ (Kd.R_below (zR_ i3.out) hb);have n2_ := As_ (Kd.R_below (zR_ i4.out) hb);have n3_ := As_ (Kd.R_below (zR_ i5.out) hb);have n4_ := As_ (Kept.below (S := (fun k_ => b9 k_ ∨ d3 k_ ∨ d0 k_ ∨ d1 k_)) (zq0 HK.out) hb);have n5_ := As_ (bwT (zb0 HB.out) hb);have n6_ := As_ (hbox);have n7_ := As_ ((by rw [hg];exact (kz HK.out) : w.heap.size ≤ b2));have n8_ := As_ ((by rw [hg];exact (bwZ (zb0 HB.out)) : w0.heap.size ≤ b2));clear i2 i3 i4 i5 HK HB;revert n0_ n1_ n2_ n3_ n4_ n5_ n6_ n7_ n8_;intro i2 i3 i4 i5 HK HB a6 g4 e2;clear hb hbox hg)|((with_reducible refine gate_dst (N := 4) rfl ?_);(try (refine gate_guard (by rfl) ?_;dsimp only));refine box_event ?hg (N := 4) ?hd (cs := #[.slice none 0 0,.slice none 0 0,.slice none 0 0,.slice none 0 0,.bool false]) (t := 120) ?hr ?_;(case hd => rfl);(case hg => rfl);(case hr => go_simp <;> rfl);intro d5 hg w9 hbox hb;have n0_ := As_ (Kd.R_below (zR_ i2.out) hb);have n1_ := As_ (Kd.R_below (zR_ i3.out) hb);have n2_ := As_ (Kd.R_below (zR_ i4.out) hb);have n3_ := As_ (Kd.R_below (zR_ i5.out) hb);have n4_ := As_ (zkb a6.out hb);have n5_ := As_ (Kept.below (S := (fun k_ => b9 k_ ∨ d3 k_ ∨ d0 k_ ∨ d1 k_)) (zq1 HK.out g4.out) hb);have n6_ := As_ (bwT (zb1 HB.out e2.out) hb);have n7_ := As_ (hbox);have n8_ := As_ ((by rw [hg];exact (kz HK.out) : w.heap.size ≤ d5));have n9_ := As_ ((by rw [hg];exact (bwZ (zb1 HB.out e2.out)) : w0.heap.size ≤ d5));have n10_ := As_ ((by rw [hg];exact Nat.ne_of_lt (zkl a6.out) : b2 ≠ d5));have n11_ := As_ ((by rw [hg];exact Nat.ne_of_gt (zkl a6.out) : d5 ≠ b2));clear i2 i3 i4 i5 a6 HK HB;revert n0_ n1_ n2_ n3_ n4_ n5_ n6_ n7_ n8_ n9_ n10_ n11_;intro i2 i3 i4 i5 a6 HK HB b1 g5 e7 b3 b8;clear hb hbox hg;have O8 := b3.out;have O9 := b8.out;have t1 : w9.cell? ⟨b2,0,none⟩ = some (.slice Ao4 b5.length co4) := (bkC a6.out 0).trans rfl;have t2 : w9.cell? ⟨b2,1,none⟩ = some (.slice Ao5 d2.length co5) := (bkC a6.out 1).trans rfl;have t3 : w9.cell? ⟨b2,2,none⟩ = some (.slice Ao6 b4.length co6) := (bkC a6.out 2).trans rfl;have t4 : w9.cell? ⟨b2,3,none⟩ = some (.slice Ao7 b7.length co7) := (bkC a6.out 3).trans rfl;have t5 : w9.cell? ⟨b2,4,none⟩ = some (.bool d4) := (bkC a6.out 4).trans rfl;have t6 := bkF a6.out 0;have t7 := bkF a6.out 1;have t8 := bkF a6.out 2;have t9 := bkF a6.out 3;have u0 := bkF a6.out 4))
 (try simp only [Act.put,List.setIfInBounds_toArray,List.set_cons_zero,List.set_cons_succ])
 go_cut [6] (fun v6 wc => ∃ (kq : Nat) (e9 : Int),v6 = .int .i64 e9 ∧ Aside0 (spec_markShapes.j1 kq a1 e9 b5 d2 b4 b7 d4 = some (r1,r2,r3,r4,r5,r6)) ∧ Aside0 (kq ≤ k) ∧ Aside0 (Kd.R (Kd.int .i64) 3 wc w0.heap.size (fun k_ => ((b9 k_ ∨ d3 k_ ∨ d0 k_ ∨ d1 k_) ∨ w.heap.size ≤ k_) ∧ some k_ ≠ ((.slice Ao6 b4.length co6) : Value).ownBlock ∧ some k_ ≠ ((.slice Ao7 b7.length co7) : Value).ownBlock) (.slice Ao4 b5.length co4) b5) ∧ Aside0 (Kd.R Kd.bool 4 wc w0.heap.size (fun k_ => ((b9 k_ ∨ d3 k_ ∨ d0 k_ ∨ d1 k_) ∨ w.heap.size ≤ k_)) (.slice Ao5 d2.length co5) d2) ∧ Aside0 (Kd.R (Kd.int .i64) 3 wc w0.heap.size (fun k_ => ((b9 k_ ∨ d3 k_ ∨ d0 k_ ∨ d1 k_) ∨ w.heap.size ≤ k_) ∧ some k_ ≠ ((.slice Ao4 b5.length co4) : Value).ownBlock ∧ some k_ ≠ ((.slice Ao7 b7.length co7) : Value).ownBlock) (.slice Ao6 b4.length co6) b4) ∧ Aside0 (Kd.R (Kd.int .i64) 3 wc w0.heap.size (fun k_ => ((b9 k_ ∨ d3 k_ ∨ d0 k_ ∨ d1 k_) ∨ w.heap.size ≤ k_) ∧ some k_ ≠ ((.slice Ao4 b5.length co4) : Value).ownBlock ∧ some k_ ≠ ((.slice Ao6 b4.length co6) : Value).ownBlock) (.slice Ao7 b7.length co7) b7) ∧ Aside0 (wc.heap[b2]? = some (.cells #[(.slice Ao4 b5.length co4),(.slice Ao5 d2.length co5),(.slice Ao6 b4.length co6),(.slice Ao7 b7.length co7),.bool d4] 120 (0,0))) ∧ Aside0 (wc.heap[d5]? = some (.cells #[(.slice none 0 0),(.slice none 0 0),(.slice none 0 0),(.slice none 0 0),.bool false] 120 (0,0))) ∧ Aside0 (Kept w wc (fun k_ => b9 k_ ∨ d3 k_ ∨ d0 k_ ∨ d1 k_)) ∧ Aside0 (Below w0.heap.size w0 wc))
 case first =>
  have H := HC3.out
  clear HC3
  have H' := As_ H
  clear H
  go_wp2
  go_loopg [6] k (fun kq v6 w' => ∃ (g9 : Int),v6 = .int .i64 g9 ∧ Aside0 (spec_markShapes.l0 kq a1 g9 b5 d2 b4 b7 d4 = some (r1,r2,r3,r4,r5,r6)) ∧ Aside0 (kq ≤ k) ∧ Aside0 (Kd.R (Kd.int .i64) 3 w' w0.heap.size (fun k_ => ((b9 k_ ∨ d3 k_ ∨ d0 k_ ∨ d1 k_) ∨ w.heap.size ≤ k_) ∧ some k_ ≠ ((.slice Ao6 b4.length co6) : Value).ownBlock ∧ some k_ ≠ ((.slice Ao7 b7.length co7) : Value).ownBlock) (.slice Ao4 b5.length co4) b5) ∧ Aside0 (Kd.R Kd.bool 4 w' w0.heap.size (fun k_ => ((b9 k_ ∨ d3 k_ ∨ d0 k_ ∨ d1 k_) ∨ w.heap.size ≤ k_)) (.slice Ao5 d2.length co5) d2) ∧ Aside0 (Kd.R (Kd.int .i64) 3 w' w0.heap.size (fun k_ => ((b9 k_ ∨ d3 k_ ∨ d0 k_ ∨ d1 k_) ∨ w.heap.size ≤ k_) ∧ some k_ ≠ ((.slice Ao4 b5.length co4) : Value).ownBlock ∧ some k_ ≠ ((.slice Ao7 b7.length co7) : Value).ownBlock) (.slice Ao6 b4.length co6) b4) ∧ Aside0 (Kd.R (Kd.int .i64) 3 w' w0.heap.size (fun k_ => ((b9 k_ ∨ d3 k_ ∨ d0 k_ ∨ d1 k_) ∨ w.heap.size ≤ k_) ∧ some k_ ≠ ((.slice Ao4 b5.length co4) : Value).ownBlock ∧ some k_ ≠ ((.slice Ao6 b4.length co6) : Value).ownBlock) (.slice Ao7 b7.length co7) b7) ∧ Aside0 (w'.heap[b2]? = some (.cells #[(.slice Ao4 b5.length co4),(.slice Ao5 d2.length co5),(.slice Ao6 b4.length co6),(.slice Ao7 b7.length co7),.bool d4] 120 (0,0))) ∧ Aside0 (w'.heap[d5]? = some (.cells #[(.slice none 0 0),(.slice none 0 0),(.slice none 0 0),(.slice none 0 0),.bool false] 120 (0,0))) ∧ Aside0 (Kept w w' (fun k_ => b9 k_ ∨ d3 k_ ∨ d0 k_ ∨ d1 k_)) ∧ Aside0 (Below w0.heap.size w0 w'))
  case atStart => exact ⟨(wrap64 ((b4.length : Int) - 1)),zT_,H',⟨Nat.le_refl _⟩,⟨i2.out⟩,⟨i3.out⟩,⟨i4.out⟩,⟨i5.out⟩,⟨a6.out⟩,⟨b1.out⟩,⟨zq2 HK.out g4.out g5.out⟩,⟨zb2 HB.out e2.out e7.out⟩⟩
  case round =>
   clear H'
   obtain ⟨g9,rfl,HA,HK1,a7,a9,b0,a8,a6,b1,HK,HB⟩ := hrel
   cases gk with
   | zero => exact absurd HA.out (fun h_ => (by cases h_))
   | succ k1 =>
    have H := HA.out
    clear HA
    simp only [spec_markShapes.l0] at H
    by_cases c12 : g9 ≥ 0
    rotate_left
    ·rw [if_neg c12] at H
     have j4 : decide (0 ≤ g9) = false := deF c12
     clear c12
     (first|rw [j4]|(simp only [i64_w,i32_w];rw [j4])|skip)
     have H' := As_ H
     clear H
     go_wp2
     go_meet
     case rel => exact ⟨_,(g9),zT_,H',⟨by have := HK1.out;first|omega|exact Nat.le_refl _⟩,⟨a7.out⟩,⟨a9.out⟩,⟨b0.out⟩,⟨a8.out⟩,⟨a6.out⟩,⟨b1.out⟩,⟨zq2 HK.out g4.out g5.out⟩,⟨zb2 HB.out e2.out e7.out⟩⟩
    rw [if_pos c12] at H
    have j4 : decide (0 ≤ g9) = true := deT c12
    clear c12
    (first|rw [j4]|(simp only [i64_w,i32_w];rw [j4])|skip)
    by_cases c13 : 0 ≤ g9
    rotate_left
    ·rw [if_neg c13] at H
     exact absurd H (by simp)
    rw [if_pos c13] at H
    have P0 : decide (0 ≤ g9) = true := deT c13
    clear c13
    by_cases c14 : g9 < (b4.length : Int)
    rotate_left
    ·rw [if_neg c14] at H
     exact absurd H (by simp)
    rw [if_pos c14] at H
    have P1 : decide (g9 < (b4.length : Int)) = true := deT c14
    clear c14
    by_cases c15 : (rd b4 g9) ≥ 0
    rotate_left
    ·rw [if_neg c15] at H
     have n3 : decide (0 ≤ (rd b4 g9)) = false := deF c15
     clear c15
     have H' := As_ H
     clear H
     have P2 := b3.out
     have P3 := b8.out
     have u1 : wr.cell? ⟨b2,0,none⟩ = some (.slice Ao4 b5.length co4) := (bkC a6.out 0).trans rfl
     have u2 : wr.cell? ⟨b2,1,none⟩ = some (.slice Ao5 d2.length co5) := (bkC a6.out 1).trans rfl
     have u3 : wr.cell? ⟨b2,2,none⟩ = some (.slice Ao6 b4.length co6) := (bkC a6.out 2).trans rfl
     have u4 : wr.cell? ⟨b2,3,none⟩ = some (.slice Ao7 b7.length co7) := (bkC a6.out 3).trans rfl
     have u5 : wr.cell? ⟨b2,4,none⟩ = some (.bool d4) := (bkC a6.out 4).trans rfl
     have u6 := bkF a6.out 0
     have u7 := bkF a6.out 1
     have u9 := bkF a6.out 2
     have v4 := bkF a6.out 3
     have v5 := bkF a6.out 4
     have p675 : 0 ≤ (g9 : Int) := odT zA_
     have q675 : g9 < (b4.length : Int) := odT zA_
     obtain ⟨ad675,e675,hx675_0⟩ := Kd.at_int (Kd.R_reads' b0.out).2.2 g9 p675 q675
     cases e675
     replace p675 := eq_true p675
     replace q675 := eq_true q675
     go_wp2
     go_meet
     case rel => exact ⟨_,(g9),zT_,H',⟨by have := HK1.out;first|omega|exact Nat.le_refl _⟩,⟨a7.out⟩,⟨a9.out⟩,⟨b0.out⟩,⟨a8.out⟩,⟨a6.out⟩,⟨b1.out⟩,⟨zq2 HK.out g4.out g5.out⟩,⟨zb2 HB.out e2.out e7.out⟩⟩
    rw [if_pos c15] at H
    have n3 : decide (0 ≤ (rd b4 g9)) = true := deT c15
    clear c15
    have H' := As_ H
    clear H
    have P4 := b3.out
    have P5 := b8.out
    have v7 : wr.cell? ⟨b2,0,none⟩ = some (.slice Ao4 b5.length co4) := (bkC a6.out 0).trans rfl
    have v9 : wr.cell? ⟨b2,1,none⟩ = some (.slice Ao5 d2.length co5) := (bkC a6.out 1).trans rfl
    have x0 : wr.cell? ⟨b2,2,none⟩ = some (.slice Ao6 b4.length co6) := (bkC a6.out 2).trans rfl
    have x2 : wr.cell? ⟨b2,3,none⟩ = some (.slice Ao7 b7.length co7) := (bkC a6.out 3).trans rfl
    have x3 : wr.cell? ⟨b2,4,none⟩ = some (.bool d4) := (bkC a6.out 4).trans rfl
    have x4 := bkF a6.out 0
    have x5 := bkF a6.out 1
    have x9 := bkF a6.out 2
    have y7 := bkF a6.out 3
    have y8 := bkF a6.out 4
    have p675 : 0 ≤ (g9 : Int) := odT zA_
    have q675 : g9 < (b4.length : Int) := odT zA_
    obtain ⟨ad675,e675,hx675_0⟩ := Kd.at_int (Kd.R_reads' b0.out).2.2 g9 p675 q675
    cases e675
    replace p675 := eq_true p675
    replace q675 := eq_true q675
    go_wp2
    go_roundg k1
    case measure => have := HK1.out;omega
    case rel => exact ⟨(wrap64 (g9 - 1)),zT_,H',⟨by have := HK1.out;omega⟩,⟨a7.out⟩,⟨a9.out⟩,⟨b0.out⟩,⟨a8.out⟩,⟨a6.out⟩,⟨b1.out⟩,⟨zq2 HK.out g4.out g5.out⟩,⟨zb2 HB.out e2.out e7.out⟩⟩
 case rest =>
  clear HC3
  obtain ⟨kq,e9,rfl,HA,HJ2,a7,a9,b0,a8,a6,b1,HK,HB⟩ := hcut
  cases kq with
  | zero => exact absurd HA.out (fun h_ => (by cases h_))
  | succ kj2 =>
   have H := HA.out
   clear HA
   simp only [spec_markShapes.j1] at H
   by_cases c20 : e9 < 0
   ·rw [if_pos c20] at H
    have n4 : decide (e9 < 0) = true := deT c20
    clear c20
    simp only [Option.some.injEq,Prod.mk.injEq] at H
    obtain ⟨rfl,rfl,rfl,rfl,rfl,rfl⟩ := H
    have P6 := b3.out
    have P7 := b8.out
    have y9 : wc.cell? ⟨b2,0,none⟩ = some (.slice Ao4 b5.length co4) := (bkC a6.out 0).trans rfl
    have z1 : wc.cell? ⟨b2,1,none⟩ = some (.slice Ao5 d2.length co5) := (bkC a6.out 1).trans rfl
    have z2 : wc.cell? ⟨b2,2,none⟩ = some (.slice Ao6 b4.length co6) := (bkC a6.out 2).trans rfl
    have z3 : wc.cell? ⟨b2,3,none⟩ = some (.slice Ao7 b7.length co7) := (bkC a6.out 3).trans rfl
    have z4 : wc.cell? ⟨b2,4,none⟩ = some (.bool d4) := (bkC a6.out 4).trans rfl
    have z5 := bkF a6.out 0
    have z6 := bkF a6.out 1
    have z7 := bkF a6.out 2
    have z8 := bkF a6.out 3
    have z9 := bkF a6.out 4
    have A4 : wc.cell? ⟨d5,0,none⟩ = some (.slice none 0 0) := (bkC b1.out 0).trans rfl
    have A5 : wc.cell? ⟨d5,1,none⟩ = some (.slice none 0 0) := (bkC b1.out 1).trans rfl
    have A6 : wc.cell? ⟨d5,2,none⟩ = some (.slice none 0 0) := (bkC b1.out 2).trans rfl
    have A7 : wc.cell? ⟨d5,3,none⟩ = some (.slice none 0 0) := (bkC b1.out 3).trans rfl
    have A8 : wc.cell? ⟨d5,4,none⟩ = some (.bool false) := (bkC b1.out 4).trans rfl
    have A9 := bkF b1.out 0
    have B0 := bkF b1.out 1
    have B1 := bkF b1.out 2
    have B2 := bkF b1.out 3
    have B3 := bkF b1.out 4
    go_wp2
    refine bodyPost_ret (results_ct rfl _ _ d5 120 #[.slice Ao4 b5.length co4,.slice Ao5 d2.length co5,.slice Ao6 b4.length co6,.slice Ao7 b7.length co7,.bool d4] (0,0) _ rfl (p5 b1.out) Try.underlying120 rfl (by kernel_rfl)) rfl ?_
    exact ⟨_,_,_,_,zE_,by exact Kd.R_mono (rX5 a7.out b1.out) (fun _ hk => ⟨hk.1.1,⟨hk.1.2.1,hk.1.2.2⟩⟩),by exact Kd.R_mono (rX5 a9.out b1.out) (fun _ hk => hk.1),by exact Kd.R_mono (rX5 b0.out b1.out) (fun _ hk => ⟨hk.1.1,⟨hk.1.2.1,hk.1.2.2⟩⟩),by exact Kd.R_mono (rX5 a8.out b1.out) (fun _ hk => ⟨hk.1.1,⟨hk.1.2.1,hk.1.2.2⟩⟩),zb2 HB.out e2.out e7.out,zq2 HK.out g4.out g5.out⟩
   rw [if_neg c20] at H
   have n4 : decide (e9 < 0) = false := deF c20
   clear c20
   obtain ⟨d6,i1⟩ : ∃ j_ : Int,(wrap64 (e9 + 1)) = j_ := ⟨_,rfl⟩
   replace H : (if 0 ≤ (d6) then (if (d6) ≤ (b4.length : Int) then ((spec_copyInts.f (b4.drop ((d6) : Int).toNat)).bind fun e0 => (if 0 ≤ e9 then (if e9 ≤ (b4.length : Int) then ((some (b4.take (e9 : Int).toNat : List Int)).bind fun b6 => (if a1 = 3 then ((spec_pushShape.f b5 d2 b6 b7 d4 2).bind fun e1 => (some (e1.1,e1.2.1,e1.2.2.1,e1.2.2.2.1,e1.2.2.2.2,true))) else (if a1 = 9 then ((spec_shapeAt.f b5 d2 b6 b7 d4 0).bind fun i8 => (some (b5,d2,b6,b7,d4,(i8 == 3)))) else (if a1 = 12 then (spec_markShapes.l1 kj2 e0 0 b5 d2 b6 b7 d4) else (some (b5,d2,b6,b7,d4,true)))))) else (none)) else (none))) else (none)) else (none)) = some (r1,r2,r3,r4,r5,r6) := by first|(rw [i1] at H;exact H)|(simp only [i1] at H ⊢;exact H)
   have O5 : (IntKind.i64.wrap (e9 + 1)) = d6 := (i64_w _).trans i1
   by_cases c25 : 0 ≤ (d6)
   rotate_left
   ·rw [if_neg c25] at H
    exact absurd H (by simp)
   rw [if_pos c25] at H
   have P8 := eq_true c25
   have P9 : decide (0 ≤ (d6)) = true := deT c25
   clear c25
   by_cases c26 : (d6) ≤ (b4.length : Int)
   rotate_left
   ·rw [if_neg c26] at H
    exact absurd H (by simp)
   rw [if_pos c26] at H
   have Q0 := eq_true c26
   have Q1 : decide ((d6) ≤ (b4.length : Int)) = true := deT c26
   clear c26
   obtain ⟨g6,l7⟩ : ∃ y_ : List Int,y_ = (b4.drop ((d6) : Int).toNat) := ⟨_,rfl⟩
   replace H : ((spec_copyInts.f g6).bind fun e0 => (if 0 ≤ e9 then (if e9 ≤ (b4.length : Int) then ((some (b4.take (e9 : Int).toNat : List Int)).bind fun b6 => (if a1 = 3 then ((spec_pushShape.f b5 d2 b6 b7 d4 2).bind fun e1 => (some (e1.1,e1.2.1,e1.2.2.1,e1.2.2.2.1,e1.2.2.2.2,true))) else (if a1 = 9 then ((spec_shapeAt.f b5 d2 b6 b7 d4 0).bind fun i8 => (some (b5,d2,b6,b7,d4,(i8 == 3)))) else (if a1 = 12 then (spec_markShapes.l1 kj2 e0 0 b5 d2 b6 b7 d4) else (some (b5,d2,b6,b7,d4,true)))))) else (none)) else (none))) = some (r1,r2,r3,r4,r5,r6) := zH_ H l7
   have i6 := As_ l7
   clear l7
   replace H := obS H
   obtain ⟨e0,A270,H⟩ := H
   replace H : (if 0 ≤ e9 then (if e9 ≤ (b4.length : Int) then ((some (b4.take (e9 : Int).toNat : List Int)).bind fun b6 => (if a1 = 3 then ((spec_pushShape.f b5 d2 b6 b7 d4 2).bind fun e1 => (some (e1.1,e1.2.1,e1.2.2.1,e1.2.2.2.1,e1.2.2.2.2,true))) else (if a1 = 9 then ((spec_shapeAt.f b5 d2 b6 b7 d4 0).bind fun i8 => (some (b5,d2,b6,b7,d4,(i8 == 3)))) else (if a1 = 12 then (spec_markShapes.l1 kj2 e0 0 b5 d2 b6 b7 d4) else (some (b5,d2,b6,b7,d4,true)))))) else (none)) else (none)) = some (r1,r2,r3,r4,r5,r6) := H
   have A27 := As_ A270
   clear A270
   by_cases c28 : 0 ≤ e9
   rotate_left
   ·rw [if_neg c28] at H
    exact absurd H (by simp)
   rw [if_pos c28] at H
   have Q2 := eq_true c28
   have Q3 : decide (0 ≤ e9) = true := deT c28
   clear c28
   by_cases c29 : e9 ≤ (b4.length : Int)
   rotate_left
   ·rw [if_neg c29] at H
    exact absurd H (by simp)
   rw [if_pos c29] at H
   have Q4 := eq_true c29
   have Q5 : decide (e9 ≤ (b4.length : Int)) = true := deT c29
   clear c29
   obtain ⟨b6,l8⟩ : ∃ y_ : List Int,y_ = (b4.take (e9 : Int).toNat) := ⟨_,rfl⟩
   replace H : (if a1 = 3 then ((spec_pushShape.f b5 d2 b6 b7 d4 2).bind fun e1 => (some (e1.1,e1.2.1,e1.2.2.1,e1.2.2.2.1,e1.2.2.2.2,true))) else (if a1 = 9 then ((spec_shapeAt.f b5 d2 b6 b7 d4 0).bind fun i8 => (some (b5,d2,b6,b7,d4,(i8 == 3)))) else (if a1 = 12 then (spec_markShapes.l1 kj2 e0 0 b5 d2 b6 b7 d4) else (some (b5,d2,b6,b7,d4,true))))) = some (r1,r2,r3,r4,r5,r6) := zH_ H l8
   have i7 := As_ l8
   clear l8
   by_cases c30 : a1 = 3
   ·rw [if_pos c30] at H
    have n5 : (a1 == 3) = true := beq_iff_eq.mpr c30
    have n6 : (a1 != 3) = false := bne_eq_false_iff_eq.mpr c30
    clear c30
    replace H := obS H
    obtain ⟨⟨m8,m9,n0,n1,n2⟩,A310,H⟩ := H
    replace H : (some (m8,m9,n0,n1,n2,true)) = some (r1,r2,r3,r4,r5,r6) := H
    have A31 := As_ A310
    clear A310
    simp only [Option.some.injEq,Prod.mk.injEq] at H
    obtain ⟨rfl,rfl,rfl,rfl,rfl,rfl⟩ := H
    have Q6 := b3.out
    have Q7 := b8.out
    have B4 : wc.cell? ⟨b2,0,none⟩ = some (.slice Ao4 b5.length co4) := (bkC a6.out 0).trans rfl
    have B5 : wc.cell? ⟨b2,1,none⟩ = some (.slice Ao5 d2.length co5) := (bkC a6.out 1).trans rfl
    have B6 : wc.cell? ⟨b2,2,none⟩ = some (.slice Ao6 b4.length co6) := (bkC a6.out 2).trans rfl
    have B7 : wc.cell? ⟨b2,3,none⟩ = some (.slice Ao7 b7.length co7) := (bkC a6.out 3).trans rfl
    have B8 : wc.cell? ⟨b2,4,none⟩ = some (.bool d4) := (bkC a6.out 4).trans rfl
    have B9 := bkF a6.out 0
    have C0 := bkF a6.out 1
    have C1 := bkF a6.out 2
    have C2 := bkF a6.out 3
    have C3 := bkF a6.out 4
    have q34 : ((d6) : Int) ≤ ((b4.length : Int) : Int) := odT zA_
    obtain ⟨i034,hi034,_,hsz34,_⟩ := info_parts info3
    have hroom34 : b4.length ≤ co6 := (Kd.R_reads' b0.out).2.1
    have hC34 : Kd.C (Kd.int .i64) _ Ao6 b4.length b4 := (Kd.R_reads' b0.out).2.2
    have q034 : (0 : Int) ≤ ((d6) : Int) := odT zA_
    have hcut34 := cut_from (P := Try.prog) 22 3 .i64 Try.underlying22 hi034 1 hsz34 Ao6 b4.length co6 (d6) q034 q34
    have hr34 := Kd.C_drop (m := ((d6) : Int).toNat) (c := co6) hC34 (by omega) hroom34
    obtain ⟨A34,hA34⟩ : ∃ A1,A1 = (if co6 = ((d6) : Int).toNat then Ao6 else (Ao6 : Option Addr).map (·.add (((d6) : Int).toNat * 1))) := ⟨_,rfl⟩
    obtain ⟨c34,hc34⟩ : ∃ c1,c1 = co6 - ((d6) : Int).toNat := ⟨_,rfl⟩
    have m0 : g6.length = b4.length - ((d6) : Int).toNat := (by rw [i6.out,List.length_drop] <;> omega)
    rw [show (b4).drop ((d6) : Int).toNat = g6 from i6.out.symm] at hr34
    replace hr34 : Kd.C (Kd.int .i64) _ A34 g6.length g6 := (by rw [hA34];exact hr34)
    rw [← m0,← hA34,← hc34] at hcut34
    have HR679 := As_ hr34
    have HC679 := As_ (show g6.length ≤ c34 from by rw [m0,hc34];exact Nat.sub_le_sub_right hroom34 _)
    clear hr34 hC34 hroom34 hi034 hsz34 hc34
    have KY34 := As_ m0
    have KA34 := As_ hA34
    clear m0 hA34
    have KL34 := As_ (show ((d6) : Int).toNat ≤ b4.length from by omega)
    replace q34 := eq_true q34
    go_wp2_with (first|((with_reducible refine gate_callee (f := 121) rfl ?_);refine goesL_ (some 33) rfl rfl Try.func121 (by kernel_rfl) rfl #[.slice A34 g6.length c34] rfl zM_ ?_;(with_reducible refine (spec_copyInts.calls _ _ g6 e0 _ ?side1 ?side2 A27.out).mono ?_);(case side1 => repeat (first|exact (by repeat (first|(with_reducible exact HR679.out)|(with_reducible refine Kd.C_alloc ?_ _)|(with_reducible refine Kd.C_drewN ?_ _)|(with_reducible refine Kd.C_drew ?_)|exact HR679.out))|(with_reducible refine Kd.C_alloc ?_ _)|(with_reducible refine Kd.C_drewN ?_ _)|(with_reducible refine Kd.C_drew ?_)));(case side2 => exact HC679.out);rintro e w35 ⟨v681,rfl,ho0,hb⟩;refine ⟨_,rfl,?_⟩;have n0_ := As_ (Kd.R_elder' (zR_ a7.out) (Kd.R_base ho0) hb);have n1_ := As_ (Kd.R_below (zR_ a9.out) hb);have n2_ := As_ (Kd.R_elder' (zR_ b0.out) (Kd.R_base ho0) hb);have n3_ := As_ (Kd.R_elder' (zR_ a8.out) (Kd.R_base ho0) hb);have n4_ := As_ (Kd.R_lower (Kd.R_new' (Kd.R_new' (Kd.R_new' (Kd.R_newM (M := fun k_ => ((b9 k_ ∨ d3 k_ ∨ d0 k_ ∨ d1 k_) ∨ w.heap.size ≤ k_)) ho0 (kz HK.out) (fun k_ h_ => .inr h_)) (Kd.R_lt (zR_ a7.out))) (Kd.R_lt (zR_ b0.out))) (Kd.R_lt (zR_ a8.out))) (bwZ (zb2 HB.out e2.out e7.out)));have n5_ := As_ (zkb a6.out hb);have n6_ := As_ (zkb b1.out hb);have n7_ := As_ (Kd.C_below (by repeat (first|(with_reducible exact HR679.out)|(with_reducible refine Kd.C_alloc ?_ _)|(with_reducible refine Kd.C_drewN ?_ _)|(with_reducible refine Kd.C_drew ?_)|exact HR679.out)) hb);have n8_ := As_ (Kept.below (S := (fun k_ => b9 k_ ∨ d3 k_ ∨ d0 k_ ∨ d1 k_)) (zq2 HK.out g4.out g5.out) hb);have n9_ := As_ (bwT (zb2 HB.out e2.out e7.out) hb);clear a7 a9 b0 a8 a6 b1 HR679 HK HB;revert n0_ n1_ n2_ n3_ n4_ n5_ n6_ n7_ n8_ n9_;intro a7 a9 b0 a8 e3 a6 b1 HR679 HK HB;have C4 : w35.cell? ⟨b2,0,none⟩ = some (.slice Ao4 b5.length co4) := (bkC a6.out 0).trans rfl;have C5 : w35.cell? ⟨b2,1,none⟩ = some (.slice Ao5 d2.length co5) := (bkC a6.out 1).trans rfl;have C6 : w35.cell? ⟨b2,2,none⟩ = some (.slice Ao6 b4.length co6) := (bkC a6.out 2).trans rfl;have C7 : w35.cell? ⟨b2,3,none⟩ = some (.slice Ao7 b7.length co7) := (bkC a6.out 3).trans rfl;have C8 : w35.cell? ⟨b2,4,none⟩ = some (.bool d4) := (bkC a6.out 4).trans rfl;have C9 := bkF a6.out 0;have D0 := bkF a6.out 1;have D1 := bkF a6.out 2;have D2 := bkF a6.out 3;have D3 := bkF a6.out 4;have q37 : (e9 : Int) ≤ ((b4.length : Int) : Int) := odT zA_;obtain ⟨i037,hi037,_,hsz37,_⟩ := info_parts info3;have hcut37 := cut_to (P := Try.prog) 22 3 .i64 Try.underlying22 hi037 Ao6 b4.length co6 e9 (odT zA_) q37 (Kd.R_reads' b0.out).2.1;have hr37 := Kd.R_take (m := (e9 : Int).toNat) b0.out (by omega);have n7 : b6.length = (e9 : Int).toNat := (by rw [i7.out,List.length_take];omega);rw [← i7.out] at hr37;rw [← n7] at hr37 hcut37;clear n7 hi037 hsz37 b0;have d7 := As_ hr37;clear hr37;(try simp only [own_len Ao6 b4.length b6.length co6] at a7);(try simp only [own_len Ao6 b4.length b6.length co6] at a9);(try simp only [own_len Ao6 b4.length b6.length co6] at a8);(try simp only [own_len Ao6 b4.length b6.length co6] at e3);replace q37 := eq_true q37)|((with_reducible refine gate_store (t := 22) (p := 38) rfl ?_);refine store_event (t := 22) (p := 38) (v := ?vo_w38) (w1 := (w35.setCell ⟨b2,2,none⟩ (.slice Ao6 b6.length co6))) ?hg ?ho ?hn ?hr ?_;(case ho => rfl);(case hg => rfl);(case hn => rfl);(case hr => go_simp <;> rfl);intro w38 hw;have n0_ : Aside0 (Kd.R (Kd.int .i64) 3 w38 w0.heap.size (fun k_ => ((b9 k_ ∨ d3 k_ ∨ d0 k_ ∨ d1 k_) ∨ w.heap.size ≤ k_) ∧ some k_ ≠ (.slice Ao6 b6.length co6 : Value).ownBlock ∧ some k_ ≠ (.slice Ao7 b7.length co7 : Value).ownBlock ∧ some k_ ≠ (v681 : Value).ownBlock) (.slice Ao4 b5.length co4) b5) := ⟨(by rw [hw];exact (by exact Kd.R_mono (rX1 a7.out a6.out 2) (fun _ hk => ⟨hk.1.1.1,⟨hk.1.1.2.1,⟨hk.1.1.2.2,hk.1.2⟩⟩⟩)))⟩;have n1_ : Aside0 (Kd.R Kd.bool 4 w38 w0.heap.size (fun k_ => ((b9 k_ ∨ d3 k_ ∨ d0 k_ ∨ d1 k_) ∨ w.heap.size ≤ k_)) (.slice Ao5 d2.length co5) d2) := ⟨(by rw [hw];exact (by exact Kd.R_mono (rX1 a9.out a6.out 2) (fun _ hk => hk.1)))⟩;have n2_ : Aside0 (Kd.R (Kd.int .i64) 3 w38 w0.heap.size (fun k_ => ((b9 k_ ∨ d3 k_ ∨ d0 k_ ∨ d1 k_) ∨ w.heap.size ≤ k_) ∧ some k_ ≠ (.slice Ao4 b5.length co4 : Value).ownBlock ∧ some k_ ≠ (.slice Ao7 b7.length co7 : Value).ownBlock ∧ some k_ ≠ (v681 : Value).ownBlock) (.slice Ao6 b6.length co6) b6) := ⟨(by rw [hw];exact (by exact Kd.R_mono (rX1 d7.out a6.out 2) (fun _ hk => ⟨hk.1.1.1,⟨hk.1.1.2.1,⟨hk.1.1.2.2,hk.1.2⟩⟩⟩)))⟩;have n3_ : Aside0 (Kd.R (Kd.int .i64) 3 w38 w0.heap.size (fun k_ => ((b9 k_ ∨ d3 k_ ∨ d0 k_ ∨ d1 k_) ∨ w.heap.size ≤ k_) ∧ some k_ ≠ (.slice Ao4 b5.length co4 : Value).ownBlock ∧ some k_ ≠ (.slice Ao6 b6.length co6 : Value).ownBlock ∧ some k_ ≠ (v681 : Value).ownBlock) (.slice Ao7 b7.length co7) b7) := ⟨(by rw [hw];exact (by exact Kd.R_mono (rX1 a8.out a6.out 2) (fun _ hk => ⟨hk.1.1.1,⟨hk.1.1.2.1,⟨hk.1.1.2.2,hk.1.2⟩⟩⟩)))⟩;have n4_ : Aside0 (Kd.R (Kd.int .i64) 3 w38 w0.heap.size (fun k_ => ((b9 k_ ∨ d3 k_ ∨ d0 k_ ∨ d1 k_) ∨ w.heap.size ≤ k_) ∧ some k_ ≠ (.slice Ao4 b5.length co4 : Value).ownBlock ∧ some k_ ≠ (.slice Ao6 b6.length co6 : Value).ownBlock ∧ some k_ ≠ (.slice Ao7 b7.length co7 : Value).ownBlock) v681 e0) := ⟨(by rw [hw];exact (by exact Kd.R_mono (rX1 e3.out a6.out 2) (fun _ hk => ⟨hk.1.1.1.1.1,⟨hk.1.1.1.2,⟨hk.1.1.2,hk.1.2⟩⟩⟩)))⟩;have n5_ : Aside0 (w38.heap[b2]? = some (.cells #[.slice Ao4 b5.length co4,.slice Ao5 d2.length co5,.slice Ao6 b6.length co6,.slice Ao7 b7.length co7,.bool d4] 120 (0,0))) := ⟨(by rw [hw];exact (by refine blk_put (cs := #[.slice Ao4 b5.length co4,.slice Ao5 d2.length co5,.slice Ao6 b4.length co6,.slice Ao7 b7.length co7,.bool d4]) ?_ 2 _ rfl;exact a6.out))⟩;have n6_ : Aside0 (w38.heap[d5]? = some (.cells #[.slice none 0 0,.slice none 0 0,.slice none 0 0,.slice none 0 0,.bool false] 120 (0,0))) := ⟨(by rw [hw];exact (by refine blk_far ?_ b8.out _;exact b1.out))⟩;have n7_ : Aside0 (Kept w w38 (fun k_ => b9 k_ ∨ d3 k_ ∨ d0 k_ ∨ d1 k_)) := ⟨(by rw [hw];exact (zq2 HK.out g4.out g5.out))⟩;have n8_ : Aside0 (Below w0.heap.size w0 w38) := ⟨(by rw [hw];exact (zb2 HB.out e2.out e7.out))⟩;clear hw a7 a9 d7 a8 e3 a6 b1 HK HB;revert n0_ n1_ n2_ n3_ n4_ n5_ n6_ n7_ n8_;intro a7 a9 d7 a8 e3 a6 b1 HK HB;have D4 : w38.cell? ⟨b2,0,none⟩ = some (.slice Ao4 b5.length co4) := (bkC a6.out 0).trans rfl;have D5 : w38.cell? ⟨b2,1,none⟩ = some (.slice Ao5 d2.length co5) := (bkC a6.out 1).trans rfl;have D6 : w38.cell? ⟨b2,2,none⟩ = some (.slice Ao6 b6.length co6) := (bkC a6.out 2).trans rfl;have D7 : w38.cell? ⟨b2,3,none⟩ = some (.slice Ao7 b7.length co7) := (bkC a6.out 3).trans rfl;have D8 : w38.cell? ⟨b2,4,none⟩ = some (.bool d4) := (bkC a6.out 4).trans rfl;have D9 := bkF a6.out 0;have E0 := bkF a6.out 1;have E1 := bkF a6.out 2;have E2 := bkF a6.out 3;have E3 := bkF a6.out 4)|((with_reducible refine gate_callee (f := 123) rfl ?_);refine goesL_ (some 43) rfl rfl Try.func123 (by kernel_rfl) rfl #[.agg #[.slice Ao4 b5.length co4,.slice Ao5 d2.length co5,.slice Ao6 b6.length co6,.slice Ao7 b7.length co7,.bool d4],.int .i64 2] rfl zM_ ?_;(with_reducible refine (spec_pushShape.calls (fun k_ => some k_ = (.slice Ao4 b5.length co4 : Value).ownBlock) (.slice Ao4 b5.length co4) b5 (fun k_ => some k_ = (.slice Ao5 d2.length co5 : Value).ownBlock) (.slice Ao5 d2.length co5) d2 (fun k_ => some k_ = (.slice Ao6 b6.length co6 : Value).ownBlock) (.slice Ao6 b6.length co6) b6 (fun k_ => some k_ = (.slice Ao7 b7.length co7 : Value).ownBlock) (.slice Ao7 b7.length co7) b7 d4 2 m8 m9 n0 n1 n2 w0 _ ?side1 ?side2 ?side3 ?side4 ?side5 ?side6 ?side7 ?side8 ?side9 ?side10 ?side11 A31.out).mono ?_);(case side1 => exact zb2 HB.out e2.out e7.out);(case side2 => exact Kd.R_tight rfl a7.out);(case side3 => exact fun k_ e_ => (a7.out.1 k_ e_.symm).2.1);(case side4 => exact fun k_ e_ => (a7.out.1 k_ e_.symm).2.2.1);(case side5 => exact Kd.R_tight rfl a9.out);(case side6 => exact Kd.R_tight rfl d7.out);(case side7 => exact fun k_ e_ => (d7.out.1 k_ e_.symm).2.1);(case side8 => exact fun k_ e_ => (d7.out.1 k_ e_.symm).2.2.1);(case side9 => exact Kd.R_tight rfl a8.out);(case side10 => exact fun k_ e_ => (a8.out.1 k_ e_.symm).2.1);(case side11 => exact fun k_ e_ => (a8.out.1 k_ e_.symm).2.2.1);rintro e w40 ⟨v687,v690,v693,v696,rfl,ho0,ho1,ho2,ho3,hb,hkp⟩;refine ⟨_,rfl,?_⟩;have n0_ := As_ (blk_kept (zk_ a6.out) hkp (no4 ⟨rne a7.out a6.out,rne a9.out a6.out,rne d7.out a6.out,rne a8.out a6.out⟩));have n1_ := As_ (blk_kept (zk_ b1.out) hkp (no4 ⟨rne a7.out b1.out,rne a9.out b1.out,rne d7.out b1.out,rne a8.out b1.out⟩));have n2_ := As_ (Kd.R_mono (ok' := fun k_ => ((b9 k_ ∨ d3 k_ ∨ d0 k_ ∨ d1 k_) ∨ w.heap.size ≤ k_) ∧ some k_ ≠ (v687 : Value).ownBlock ∧ some k_ ≠ (v693 : Value).ownBlock ∧ some k_ ≠ (v696 : Value).ownBlock) (Kd.R_keptB (rA e3.out a9.out) hkp (fun _ hk_ => no4 ⟨hk_.1.2.1,hk_.2,hk_.1.2.2.1,hk_.1.2.2.2⟩)) (fun k_ hk_ => ⟨hk_.1.1.1,nl (ho0.1 k_) hk_.2,nl (ho2.1 k_) hk_.2,nl (ho3.1 k_) hk_.2⟩));have n3_ := As_ (Kd.R_mono (ok' := fun k_ => ((b9 k_ ∨ d3 k_ ∨ d0 k_ ∨ d1 k_) ∨ w.heap.size ≤ k_) ∧ some k_ ≠ (v693 : Value).ownBlock ∧ some k_ ≠ (v696 : Value).ownBlock ∧ some k_ ≠ (v681 : Value).ownBlock) ho0 (fun k_ hk_ => ⟨Or.elim hk_.1 (or4 (fun hs_ => (a7.out.1 k_ (hs_).symm).1) (fun hs_ => (a9.out.1 k_ (hs_).symm)) (fun hs_ => (d7.out.1 k_ (hs_).symm).1) (fun hs_ => (a8.out.1 k_ (hs_).symm).1)) (fun hn_ => (.inr (Nat.le_trans (kz HK.out) hn_))),hk_.2.1,hk_.2.2,aw4 (rA e3.out a9.out).1 (Kd.R_lt (zR_ e3.out)) (fun _ h => ⟨h.1.2.1,h.2,h.1.2.2.1,h.1.2.2.2⟩) hk_.1⟩));have n4_ := As_ (Kd.R_mono (ok' := fun k_ => ((b9 k_ ∨ d3 k_ ∨ d0 k_ ∨ d1 k_) ∨ w.heap.size ≤ k_)) ho1 (fun k_ hk_ => Or.elim hk_ (or4 (fun hs_ => (a7.out.1 k_ (hs_).symm).1) (fun hs_ => (a9.out.1 k_ (hs_).symm)) (fun hs_ => (d7.out.1 k_ (hs_).symm).1) (fun hs_ => (a8.out.1 k_ (hs_).symm).1)) (fun hn_ => (.inr (Nat.le_trans (kz HK.out) hn_)))));have n5_ := As_ (Kd.R_mono (ok' := fun k_ => ((b9 k_ ∨ d3 k_ ∨ d0 k_ ∨ d1 k_) ∨ w.heap.size ≤ k_) ∧ some k_ ≠ (v687 : Value).ownBlock ∧ some k_ ≠ (v696 : Value).ownBlock ∧ some k_ ≠ (v681 : Value).ownBlock) ho2 (fun k_ hk_ => ⟨Or.elim hk_.1 (or4 (fun hs_ => (a7.out.1 k_ (hs_).symm).1) (fun hs_ => (a9.out.1 k_ (hs_).symm)) (fun hs_ => (d7.out.1 k_ (hs_).symm).1) (fun hs_ => (a8.out.1 k_ (hs_).symm).1)) (fun hn_ => (.inr (Nat.le_trans (kz HK.out) hn_))),hk_.2.1,hk_.2.2,aw4 (rA e3.out a9.out).1 (Kd.R_lt (zR_ e3.out)) (fun _ h => ⟨h.1.2.1,h.2,h.1.2.2.1,h.1.2.2.2⟩) hk_.1⟩));have n6_ := As_ (Kd.R_mono (ok' := fun k_ => ((b9 k_ ∨ d3 k_ ∨ d0 k_ ∨ d1 k_) ∨ w.heap.size ≤ k_) ∧ some k_ ≠ (v687 : Value).ownBlock ∧ some k_ ≠ (v693 : Value).ownBlock ∧ some k_ ≠ (v681 : Value).ownBlock) ho3 (fun k_ hk_ => ⟨Or.elim hk_.1 (or4 (fun hs_ => (a7.out.1 k_ (hs_).symm).1) (fun hs_ => (a9.out.1 k_ (hs_).symm)) (fun hs_ => (d7.out.1 k_ (hs_).symm).1) (fun hs_ => (a8.out.1 k_ (hs_).symm).1)) (fun hn_ => (.inr (Nat.le_trans (kz HK.out) hn_))),hk_.2.1,hk_.2.2,aw4 (rA e3.out a9.out).1 (Kd.R_lt (zR_ e3.out)) (fun _ h => ⟨h.1.2.1,h.2,h.1.2.2.1,h.1.2.2.2⟩) hk_.1⟩));have n7_ := As_ (Kept.then_ (S := (fun k_ => b9 k_ ∨ d3 k_ ∨ d0 k_ ∨ d1 k_)) (zq2 HK.out g4.out g5.out) hkp (fun k_ hs_ => Or.elim hs_ (fun e_ => (fun e_ => (a7.out.1 k_ e_.symm).1) e_) (fun e_ => Or.elim e_ (fun e_ => (fun e_ => (a9.out.1 k_ e_.symm)) e_) (fun e_ => Or.elim e_ (fun e_ => (fun e_ => (d7.out.1 k_ e_.symm).1) e_) (fun e_ => (fun e_ => (a8.out.1 k_ e_.symm).1) e_)))));have n8_ := As_ (hb);clear a6 b1 e3 HK HB d7 a7 a9 a8;revert n0_ n1_ n2_ n3_ n4_ n5_ n6_ n7_ n8_;intro a6 b1 e3 m3 m4 m5 m6 HK HB;obtain ⟨Ao41,co41,eo41⟩ := Kd.R_slice m3.out;subst eo41;have E4 : w40.cell? ⟨d5,0,none⟩ = some (.slice none 0 0) := (bkC b1.out 0).trans rfl;have E5 : w40.cell? ⟨d5,1,none⟩ = some (.slice none 0 0) := (bkC b1.out 1).trans rfl;have E6 : w40.cell? ⟨d5,2,none⟩ = some (.slice none 0 0) := (bkC b1.out 2).trans rfl;have E7 : w40.cell? ⟨d5,3,none⟩ = some (.slice none 0 0) := (bkC b1.out 3).trans rfl;have E8 : w40.cell? ⟨d5,4,none⟩ = some (.bool false) := (bkC b1.out 4).trans rfl;have E9 := bkF b1.out 0;have F0 := bkF b1.out 1;have F1 := bkF b1.out 2;have F2 := bkF b1.out 3;have F3 := bkF b1.out 4;obtain ⟨Ao43,co43,eo43⟩ := Kd.R_slice m4.out;subst eo43;obtain ⟨Ao44,co44,eo44⟩ := Kd.R_slice m5.out;subst eo44;obtain ⟨Ao45,co45,eo45⟩ := Kd.R_slice m6.out;subst eo45))
    refine bodyPost_ret (results_ct rfl _ _ d5 120 #[.slice Ao41 m8.length co41,.slice Ao43 m9.length co43,.slice Ao44 n0.length co44,.slice Ao45 n1.length co45,.bool n2] (0,0) _ rfl (p5 b1.out) Try.underlying120 rfl (by kernel_rfl)) rfl ?_
    exact ⟨_,_,_,_,by first|rfl|(simp [errW_none,errW_some] <;> rfl)|(simp only [← i1];first|rfl|(simp [errW_none,errW_some] <;> rfl))|(simp [*,errW_none,errW_some] <;> rfl),by exact Kd.R_mono (rX5 m3.out b1.out) (fun _ hk => ⟨hk.1.1,⟨hk.1.2.1,hk.1.2.2.1⟩⟩),by exact Kd.R_mono (rX5 m4.out b1.out) (fun _ hk => hk.1),by exact Kd.R_mono (rX5 m5.out b1.out) (fun _ hk => ⟨hk.1.1,⟨hk.1.2.1,hk.1.2.2.1⟩⟩),by exact Kd.R_mono (rX5 m6.out b1.out) (fun _ hk => ⟨hk.1.1,⟨hk.1.2.1,hk.1.2.2.1⟩⟩),zb2 HB.out e2.out e7.out,zq2 HK.out g4.out g5.out⟩
   rw [if_neg c30] at H
   have n5 : (a1 == 3) = false := beq_eq_false_iff_ne.mpr c30
   have n6 : (a1 != 3) = true := bne_iff_ne.mpr c30
   by_cases c46 : a1 = 9
   ·rw [if_pos c46] at H
    have n8 : (a1 == 9) = true := beq_iff_eq.mpr c46
    have n9 : (a1 != 9) = false := bne_eq_false_iff_eq.mpr c46
    clear c46
    replace H := obS H
    obtain ⟨i8,A470,H⟩ := H
    replace H : (some (b5,d2,b6,b7,d4,(i8 == 3))) = some (r1,r2,r3,r4,r5,r6) := H
    have A47 := As_ A470
    clear A470
    simp only [Option.some.injEq,Prod.mk.injEq] at H
    obtain ⟨rfl,rfl,rfl,rfl,rfl,rfl⟩ := H
    have Q8 := b3.out
    have Q9 := b8.out
    have F4 : wc.cell? ⟨b2,0,none⟩ = some (.slice Ao4 b5.length co4) := (bkC a6.out 0).trans rfl
    have F5 : wc.cell? ⟨b2,1,none⟩ = some (.slice Ao5 d2.length co5) := (bkC a6.out 1).trans rfl
    have F6 : wc.cell? ⟨b2,2,none⟩ = some (.slice Ao6 b4.length co6) := (bkC a6.out 2).trans rfl
    have F7 : wc.cell? ⟨b2,3,none⟩ = some (.slice Ao7 b7.length co7) := (bkC a6.out 3).trans rfl
    have F8 : wc.cell? ⟨b2,4,none⟩ = some (.bool d4) := (bkC a6.out 4).trans rfl
    have F9 := bkF a6.out 0
    have G0 := bkF a6.out 1
    have G1 := bkF a6.out 2
    have G2 := bkF a6.out 3
    have G3 := bkF a6.out 4
    have q50 : ((d6) : Int) ≤ ((b4.length : Int) : Int) := odT zA_
    obtain ⟨i050,hi050,_,hsz50,_⟩ := info_parts info3
    have hroom50 : b4.length ≤ co6 := (Kd.R_reads' b0.out).2.1
    have hC50 : Kd.C (Kd.int .i64) _ Ao6 b4.length b4 := (Kd.R_reads' b0.out).2.2
    have q050 : (0 : Int) ≤ ((d6) : Int) := odT zA_
    have hcut50 := cut_from (P := Try.prog) 22 3 .i64 Try.underlying22 hi050 1 hsz50 Ao6 b4.length co6 (d6) q050 q50
    have hr50 := Kd.C_drop (m := ((d6) : Int).toNat) (c := co6) hC50 (by omega) hroom50
    obtain ⟨A50,hA50⟩ : ∃ A1,A1 = (if co6 = ((d6) : Int).toNat then Ao6 else (Ao6 : Option Addr).map (·.add (((d6) : Int).toNat * 1))) := ⟨_,rfl⟩
    obtain ⟨c50,hc50⟩ : ∃ c1,c1 = co6 - ((d6) : Int).toNat := ⟨_,rfl⟩
    have m1 : g6.length = b4.length - ((d6) : Int).toNat := (by rw [i6.out,List.length_drop] <;> omega)
    rw [show (b4).drop ((d6) : Int).toNat = g6 from i6.out.symm] at hr50
    replace hr50 : Kd.C (Kd.int .i64) _ A50 g6.length g6 := (by rw [hA50];exact hr50)
    rw [← m1,← hA50,← hc50] at hcut50
    have HR679 := As_ hr50
    have HC679 := As_ (show g6.length ≤ c50 from by rw [m1,hc50];exact Nat.sub_le_sub_right hroom50 _)
    clear hr50 hC50 hroom50 hi050 hsz50 hc50
    have KY50 := As_ m1
    have KA50 := As_ hA50
    clear m1 hA50
    have KL50 := As_ (show ((d6) : Int).toNat ≤ b4.length from by omega)
    replace q50 := eq_true q50
    try go_wp2_with (first|((with_reducible refine gate_callee (f := 121) rfl ?_);refine goesL_ (some 33) rfl rfl Try.func121 (by kernel_rfl) rfl #[.slice A50 g6.length c50] rfl zM_ ?_;(with_reducible refine (spec_copyInts.calls _ _ g6 e0 _ ?side1 ?side2 A27.out).mono ?_);(case side1 => repeat (first|exact (by repeat (first|(with_reducible exact HR679.out)|(with_reducible refine Kd.C_alloc ?_ _)|(with_reducible refine Kd.C_drewN ?_ _)|(with_reducible refine Kd.C_drew ?_)|exact HR679.out))|(with_reducible refine Kd.C_alloc ?_ _)|(with_reducible refine Kd.C_drewN ?_ _)|(with_reducible refine Kd.C_drew ?_)));(case side2 => exact HC679.out);rintro e w51 ⟨v681,rfl,ho0,hb⟩;refine ⟨_,rfl,?_⟩;have n0_ := As_ (Kd.R_elder' (zR_ a7.out) (Kd.R_base ho0) hb);have n1_ := As_ (Kd.R_below (zR_ a9.out) hb);have n2_ := As_ (Kd.R_elder' (zR_ b0.out) (Kd.R_base ho0) hb);have n3_ := As_ (Kd.R_elder' (zR_ a8.out) (Kd.R_base ho0) hb);have n4_ := As_ (Kd.R_lower (Kd.R_new' (Kd.R_new' (Kd.R_new' (Kd.R_newM (M := fun k_ => ((b9 k_ ∨ d3 k_ ∨ d0 k_ ∨ d1 k_) ∨ w.heap.size ≤ k_)) ho0 (kz HK.out) (fun k_ h_ => .inr h_)) (Kd.R_lt (zR_ a7.out))) (Kd.R_lt (zR_ b0.out))) (Kd.R_lt (zR_ a8.out))) (bwZ (zb2 HB.out e2.out e7.out)));have n5_ := As_ (zkb a6.out hb);have n6_ := As_ (zkb b1.out hb);have n7_ := As_ (Kd.C_below (by repeat (first|(with_reducible exact HR679.out)|(with_reducible refine Kd.C_alloc ?_ _)|(with_reducible refine Kd.C_drewN ?_ _)|(with_reducible refine Kd.C_drew ?_)|exact HR679.out)) hb);have n8_ := As_ (Kept.below (S := (fun k_ => b9 k_ ∨ d3 k_ ∨ d0 k_ ∨ d1 k_)) (zq2 HK.out g4.out g5.out) hb);have n9_ := As_ (bwT (zb2 HB.out e2.out e7.out) hb);clear a7 a9 b0 a8 a6 b1 HR679 HK HB;revert n0_ n1_ n2_ n3_ n4_ n5_ n6_ n7_ n8_ n9_;intro a7 a9 b0 a8 e3 a6 b1 HR679 HK HB;have G4 : w51.cell? ⟨b2,0,none⟩ = some (.slice Ao4 b5.length co4) := (bkC a6.out 0).trans rfl;have G5 : w51.cell? ⟨b2,1,none⟩ = some (.slice Ao5 d2.length co5) := (bkC a6.out 1).trans rfl;have G6 : w51.cell? ⟨b2,2,none⟩ = some (.slice Ao6 b4.length co6) := (bkC a6.out 2).trans rfl;have G7 : w51.cell? ⟨b2,3,none⟩ = some (.slice Ao7 b7.length co7) := (bkC a6.out 3).trans rfl;have G8 : w51.cell? ⟨b2,4,none⟩ = some (.bool d4) := (bkC a6.out 4).trans rfl;have G9 := bkF a6.out 0;have H0 := bkF a6.out 1;have H2 := bkF a6.out 2;have H3 := bkF a6.out 3;have H4 := bkF a6.out 4;have q53 : (e9 : Int) ≤ ((b4.length : Int) : Int) := odT zA_;obtain ⟨i053,hi053,_,hsz53,_⟩ := info_parts info3;have hcut53 := cut_to (P := Try.prog) 22 3 .i64 Try.underlying22 hi053 Ao6 b4.length co6 e9 (odT zA_) q53 (Kd.R_reads' b0.out).2.1;have hr53 := Kd.R_take (m := (e9 : Int).toNat) b0.out (by omega);have o0 : b6.length = (e9 : Int).toNat := (by rw [i7.out,List.length_take];omega);rw [← i7.out] at hr53;rw [← o0] at hr53 hcut53;clear o0 hi053 hsz53 b0;have d7 := As_ hr53;clear hr53;(try simp only [own_len Ao6 b4.length b6.length co6] at a7);(try simp only [own_len Ao6 b4.length b6.length co6] at a9);(try simp only [own_len Ao6 b4.length b6.length co6] at a8);(try simp only [own_len Ao6 b4.length b6.length co6] at e3);replace q53 := eq_true q53))
    have n0_ : Aside0 (Kd.R (Kd.int .i64) 3 (w51.setCell ⟨b2,2,none⟩ (.slice Ao6 b6.length co6)) w0.heap.size (fun k_ => ((b9 k_ ∨ d3 k_ ∨ d0 k_ ∨ d1 k_) ∨ w.heap.size ≤ k_) ∧ some k_ ≠ (.slice Ao6 b6.length co6 : Value).ownBlock ∧ some k_ ≠ (.slice Ao7 b7.length co7 : Value).ownBlock ∧ some k_ ≠ (v681 : Value).ownBlock) (.slice Ao4 b5.length co4) b5) := ⟨by exact Kd.R_mono (rX1 a7.out a6.out 2) (fun _ hk => ⟨hk.1.1.1,⟨hk.1.1.2.1,⟨hk.1.1.2.2,hk.1.2⟩⟩⟩)⟩
    have n1_ : Aside0 (Kd.R Kd.bool 4 (w51.setCell ⟨b2,2,none⟩ (.slice Ao6 b6.length co6)) w0.heap.size (fun k_ => ((b9 k_ ∨ d3 k_ ∨ d0 k_ ∨ d1 k_) ∨ w.heap.size ≤ k_)) (.slice Ao5 d2.length co5) d2) := ⟨by exact Kd.R_mono (rX1 a9.out a6.out 2) (fun _ hk => hk.1)⟩
    have n2_ : Aside0 (Kd.R (Kd.int .i64) 3 (w51.setCell ⟨b2,2,none⟩ (.slice Ao6 b6.length co6)) w0.heap.size (fun k_ => ((b9 k_ ∨ d3 k_ ∨ d0 k_ ∨ d1 k_) ∨ w.heap.size ≤ k_) ∧ some k_ ≠ (.slice Ao4 b5.length co4 : Value).ownBlock ∧ some k_ ≠ (.slice Ao7 b7.length co7 : Value).ownBlock ∧ some k_ ≠ (v681 : Value).ownBlock) (.slice Ao6 b6.length co6) b6) := ⟨by exact Kd.R_mono (rX1 d7.out a6.out 2) (fun _ hk => ⟨hk.1.1.1,⟨hk.1.1.2.1,⟨hk.1.1.2.2,hk.1.2⟩⟩⟩)⟩
    have n3_ : Aside0 (Kd.R (Kd.int .i64) 3 (w51.setCell ⟨b2,2,none⟩ (.slice Ao6 b6.length co6)) w0.heap.size (fun k_ => ((b9 k_ ∨ d3 k_ ∨ d0 k_ ∨ d1 k_) ∨ w.heap.size ≤ k_) ∧ some k_ ≠ (.slice Ao4 b5.length co4 : Value).ownBlock ∧ some k_ ≠ (.slice Ao6 b6.length co6 : Value).ownBlock ∧ some k_ ≠ (v681 : Value).ownBlock) (.slice Ao7 b7.length co7) b7) := ⟨by exact Kd.R_mono (rX1 a8.out a6.out 2) (fun _ hk => ⟨hk.1.1.1,⟨hk.1.1.2.1,⟨hk.1.1.2.2,hk.1.2⟩⟩⟩)⟩
    have n4_ : Aside0 (Kd.R (Kd.int .i64) 3 (w51.setCell ⟨b2,2,none⟩ (.slice Ao6 b6.length co6)) w0.heap.size (fun k_ => ((b9 k_ ∨ d3 k_ ∨ d0 k_ ∨ d1 k_) ∨ w.heap.size ≤ k_) ∧ some k_ ≠ (.slice Ao4 b5.length co4 : Value).ownBlock ∧ some k_ ≠ (.slice Ao6 b6.length co6 : Value).ownBlock ∧ some k_ ≠ (.slice Ao7 b7.length co7 : Value).ownBlock) v681 e0) := ⟨by exact Kd.R_mono (rX1 e3.out a6.out 2) (fun _ hk => ⟨hk.1.1.1.1.1,⟨hk.1.1.1.2,⟨hk.1.1.2,hk.1.2⟩⟩⟩)⟩
    have n5_ : Aside0 ((w51.setCell ⟨b2,2,none⟩ (.slice Ao6 b6.length co6)).heap[b2]? = some (.cells #[.slice Ao4 b5.length co4,.slice Ao5 d2.length co5,.slice Ao6 b6.length co6,.slice Ao7 b7.length co7,.bool d4] 120 (0,0))) := ⟨by refine blk_put (cs := #[.slice Ao4 b5.length co4,.slice Ao5 d2.length co5,.slice Ao6 b4.length co6,.slice Ao7 b7.length co7,.bool d4]) ?_ 2 _ rfl;exact a6.out⟩
    have n6_ : Aside0 ((w51.setCell ⟨b2,2,none⟩ (.slice Ao6 b6.length co6)).heap[d5]? = some (.cells #[.slice none 0 0,.slice none 0 0,.slice none 0 0,.slice none 0 0,.bool false] 120 (0,0))) := ⟨by refine blk_far ?_ b8.out _;exact b1.out⟩
    have n7_ : Aside0 (Kept w (w51.setCell ⟨b2,2,none⟩ (.slice Ao6 b6.length co6)) (fun k_ => b9 k_ ∨ d3 k_ ∨ d0 k_ ∨ d1 k_)) := ⟨zq2 HK.out g4.out g5.out⟩
    have n8_ : Aside0 (Below w0.heap.size w0 (w51.setCell ⟨b2,2,none⟩ (.slice Ao6 b6.length co6))) := ⟨zb2 HB.out e2.out e7.out⟩
    generalize (w51.setCell ⟨b2,2,none⟩ (.slice Ao6 b6.length co6)) = w54 at n0_ n1_ n2_ n3_ n4_ n5_ n6_ n7_ n8_ ⊢
    revert n0_ n1_ n2_ n3_ n4_ n5_ n6_ n7_ n8_;intro a7 a9 d7 a8 e3 a6 b1 HK HB
    have n0_ := As_ (Kd.R_drew a7.out)
    have n1_ := As_ (Kd.R_drew a9.out)
    have n2_ := As_ (Kd.R_drew d7.out)
    have n3_ := As_ (Kd.R_drew a8.out)
    have n4_ := As_ (Kd.R_drew e3.out)
    have n5_ := As_ (bkD a6.out)
    have n6_ := As_ (bkD b1.out)
    have n7_ := As_ (Kept.drew HK.out)
    have n8_ := As_ (bwD HB.out)
    clear a7 a9 d7 a8 e3 a6 b1 HK HB
    revert n0_ n1_ n2_ n3_ n4_ n5_ n6_ n7_ n8_;intro a7 a9 d7 a8 e3 a6 b1 HK HB
    refine start_ (n := 6) (S := fun w' => w'.cell? ⟨b2,0,none⟩ = some (.slice Ao4 b5.length co4) ∧ w'.cell? ⟨b2,1,none⟩ = some (.slice Ao5 d2.length co5) ∧ w'.cell? ⟨b2,2,none⟩ = some (.slice Ao6 b6.length co6) ∧ w'.cell? ⟨b2,3,none⟩ = some (.slice Ao7 b7.length co7) ∧ w'.cell? ⟨b2,4,none⟩ = some (.bool d4)) (ds := []) (bl_ 0 6) (by kernel_rfl) rfl rfl ⟨(bkC a6.out 0).trans rfl,(bkC a6.out 1).trans rfl,(bkC a6.out 2).trans rfl,(bkC a6.out 3).trans rfl,(bkC a6.out 4).trans rfl⟩ (fun hHeld => ?_)
    generalize w54.drew = w55 at a7 a9 d7 a8 e3 a6 b1 HK HB hHeld ⊢
    refine take_ (i := 0) (N := some 46) (v := ?_) (a' := ?_) (bl_ 1 6) rfl rfl (by kernel_rfl) (fun _ _ _ h => h) (Or.inl ⟨by rfl,?_⟩) hHeld ?_ ?_;rotate_left;(rintro w' ⟨s0,s1,s2,s3,s4⟩;go_simp;with_reducible rfl);rotate_left;(simp only [Act.put,sq_,i64_w,i32_w];rfl)
    refine take_ (i := 1) (N := some 47) (v := ?_) (a' := ?_) (bl_ 3 6) rfl rfl (by kernel_rfl) (fun _ _ _ h => h) (Or.inl ⟨by rfl,?_⟩) hHeld ?_ ?_;rotate_left;(rintro w' ⟨s0,s1,s2,s3,s4⟩;go_simp;with_reducible rfl);rotate_left;(simp only [Act.put,sq_,i64_w,i32_w];rfl)
    refine one_ (i := 2) (N := some 48) (bl_ 7 6) rfl rfl (by kernel_rfl) (by decide) (fun K hK => ?_)
    refine goes_ Try.func128 (by kernel_rfl) rfl #[.agg #[.slice Ao4 b5.length co4,.slice Ao5 d2.length co5,.slice Ao6 b6.length co6,.slice Ao7 b7.length co7,.bool d4],.int .i64 0] (by rfl) rfl rfl zM_ ?_
    with_reducible refine (spec_shapeAt.calls _ _ b5 _ _ d2 _ _ b6 _ _ b7 d4 0 i8 _ ?side1 ?side2 ?side3 ?side4 ?side5 ?side6 ?side7 ?side8 A47.out).mono ?_
    (case side1 => exact zC_ (Kd.R_reads' a7.out).2.2)
    (case side2 => exact (Kd.R_reads' a7.out).2.1)
    (case side3 => exact zC_ (Kd.R_reads' a9.out).2.2)
    (case side4 => exact (Kd.R_reads' a9.out).2.1)
    (case side5 => exact zC_ (Kd.R_reads' d7.out).2.2)
    (case side6 => exact (Kd.R_reads' d7.out).2.1)
    (case side7 => exact zC_ (Kd.R_reads' a8.out).2.2)
    (case side8 => exact (Kd.R_reads' a8.out).2.1)
    rintro e w56 ⟨rfl,hb⟩
    refine ⟨_,rfl,?_⟩
    have n0_ := As_ (Kd.R_below (zR_ a7.out) hb)
    have n1_ := As_ (Kd.R_below (zR_ a9.out) hb)
    have n2_ := As_ (Kd.R_below (zR_ d7.out) hb)
    have n3_ := As_ (Kd.R_below (zR_ a8.out) hb)
    have n4_ := As_ (Kd.R_below (zR_ e3.out) hb)
    have n5_ := As_ (zkb a6.out hb)
    have n6_ := As_ (zkb b1.out hb)
    have n7_ := As_ (Kept.below (S := (fun k_ => b9 k_ ∨ d3 k_ ∨ d0 k_ ∨ d1 k_)) (zq2 HK.out g4.out g5.out) hb)
    have n8_ := As_ (bwT (zb2 HB.out e2.out e7.out) hb)
    clear a7 a9 d7 a8 e3 a6 b1 HK HB
    revert n0_ n1_ n2_ n3_ n4_ n5_ n6_ n7_ n8_;intro a7 a9 d7 a8 e3 a6 b1 HK HB
    refine hK.out _ _ ⟨(bkC a6.out 0).trans rfl,(bkC a6.out 1).trans rfl,(bkC a6.out 2).trans rfl,(bkC a6.out 3).trans rfl,(bkC a6.out 4).trans rfl⟩ (fun hHeld => ?_)
    clear hK K
    refine norm_ (a' := ?_) ?_ ?_
    rotate_left
    ·show Act.put _ (some 48) _ = _
     simp only [Act.put,sq_,i64_w,i32_w]
     rfl
    refine pure_ (i := 3) (N := some 49) (v := ?_) (a' := ?_) (bl_ 15 6) rfl rfl (by kernel_rfl) (fun _ _ _ h => h) (Or.inl ⟨by rfl,?_⟩) ?_ ?_;rotate_left;(intro w';go_simp;with_reducible rfl);rotate_left;(simp only [Act.put,sq_,i64_w,i32_w];rfl)
    refine one_ (i := 4) (N := none) (bl_ 31 6) rfl rfl (by kernel_rfl) (by decide) (fun K hK => ?_)
    have T3 : w56.cell? ⟨d5,0,none⟩ = some (.slice none 0 0) := (bkC b1.out 0).trans rfl
    have R0 := bkF b1.out 0
    have H5 := b3.out
    have H6 := b8.out
    have T4 : w56.cell? ⟨d5,1,none⟩ = some (.slice none 0 0) := (bkC b1.out 1).trans rfl
    have R1 := bkF b1.out 1
    have H7 := b3.out
    have H8 := b8.out
    have T5 : w56.cell? ⟨d5,2,none⟩ = some (.slice none 0 0) := (bkC b1.out 2).trans rfl
    have R2 := bkF b1.out 2
    have H9 := b3.out
    have I0 := b8.out
    have T6 : w56.cell? ⟨d5,3,none⟩ = some (.slice none 0 0) := (bkC b1.out 3).trans rfl
    have R3 := bkF b1.out 3
    have I1 := b3.out
    have I2 := b8.out
    have T7 : w56.cell? ⟨d5,4,none⟩ = some (.bool false) := (bkC b1.out 4).trans rfl
    have R4 := bkF b1.out 4
    have I3 := b3.out
    have I4 := b8.out
    refine skip_ (w1 := ?_) (by rfl) rfl ?_ ?_
    rotate_left
    ·go_simp
     rfl
    refine hK.out _ _ ⟨(c5 b3.out (hHeld.1)),(c5 b3.out (hHeld.2.1)),(c5 b3.out (hHeld.2.2.1)),(c5 b3.out (hHeld.2.2.2.1)),(c5 b3.out (hHeld.2.2.2.2))⟩ (fun hHeld => ?_)
    clear hK K
    refine pure_ (i := 5) (N := some 5) (v := ?_) (a' := ?_) (bl_ 63 6) rfl rfl (by kernel_rfl) (fun _ _ _ h => h) (Or.inl ⟨by rfl,?_⟩) ?_ ?_;rotate_left;(intro w';go_simp;with_reducible rfl);rotate_left;(simp only [Act.put,sq_,i64_w,i32_w];rfl)
    refine done_ (by kernel_rfl) ?_
    try go_wp2
    refine bodyPost_ret (results_ct rfl _ _ d5 120 #[.slice Ao4 b5.length co4,.slice Ao5 d2.length co5,.slice Ao6 b6.length co6,.slice Ao7 b7.length co7,.bool d4] (0,0) _ rfl (p5 b1.out) Try.underlying120 rfl (by kernel_rfl)) rfl ?_
    exact ⟨_,_,_,_,by first|rfl|(simp [errW_none,errW_some] <;> rfl)|(simp only [← i1];first|rfl|(simp [errW_none,errW_some] <;> rfl))|(simp [*,errW_none,errW_some] <;> rfl),by exact Kd.R_mono (rX5 a7.out b1.out) (fun _ hk => ⟨hk.1.1,⟨hk.1.2.1,hk.1.2.2.1⟩⟩),by exact Kd.R_mono (rX5 a9.out b1.out) (fun _ hk => hk.1),by exact Kd.R_mono (rX5 d7.out b1.out) (fun _ hk => ⟨hk.1.1,⟨hk.1.2.1,hk.1.2.2.1⟩⟩),by exact Kd.R_mono (rX5 a8.out b1.out) (fun _ hk => ⟨hk.1.1,⟨hk.1.2.1,hk.1.2.2.1⟩⟩),zb2 HB.out e2.out e7.out,zq2 HK.out g4.out g5.out⟩
   rw [if_neg c46] at H
   have n8 : (a1 == 9) = false := beq_eq_false_iff_ne.mpr c46
   have n9 : (a1 != 9) = true := bne_iff_ne.mpr c46
   by_cases c62 : a1 = 12
   rotate_left
   ·rw [if_neg c62] at H
    have o1 : (a1 == 12) = false := beq_eq_false_iff_ne.mpr c62
    have o2 : (a1 != 12) = true := bne_iff_ne.mpr c62
    simp only [Option.some.injEq,Prod.mk.injEq] at H
    obtain ⟨rfl,rfl,rfl,rfl,rfl,rfl⟩ := H
    have O6 := b3.out
    have O7 := b8.out
    have o3 : wc.cell? ⟨b2,0,none⟩ = some (.slice Ao4 b5.length co4) := (bkC a6.out 0).trans rfl
    have o4 : wc.cell? ⟨b2,1,none⟩ = some (.slice Ao5 d2.length co5) := (bkC a6.out 1).trans rfl
    have o5 : wc.cell? ⟨b2,2,none⟩ = some (.slice Ao6 b4.length co6) := (bkC a6.out 2).trans rfl
    have o6 : wc.cell? ⟨b2,3,none⟩ = some (.slice Ao7 b7.length co7) := (bkC a6.out 3).trans rfl
    have o7 : wc.cell? ⟨b2,4,none⟩ = some (.bool d4) := (bkC a6.out 4).trans rfl
    have o8 := bkF a6.out 0
    have o9 := bkF a6.out 1
    have p0 := bkF a6.out 2
    have p1 := bkF a6.out 3
    have p2 := bkF a6.out 4
    have q102 : ((d6) : Int) ≤ ((b4.length : Int) : Int) := odT zA_
    obtain ⟨i0102,hi0102,_,hsz102,_⟩ := info_parts info3
    have hroom102 : b4.length ≤ co6 := (Kd.R_reads' b0.out).2.1
    have hC102 : Kd.C (Kd.int .i64) _ Ao6 b4.length b4 := (Kd.R_reads' b0.out).2.2
    have q0102 : (0 : Int) ≤ ((d6) : Int) := odT zA_
    have hcut102 := cut_from (P := Try.prog) 22 3 .i64 Try.underlying22 hi0102 1 hsz102 Ao6 b4.length co6 (d6) q0102 q102
    have hr102 := Kd.C_drop (m := ((d6) : Int).toNat) (c := co6) hC102 (by omega) hroom102
    obtain ⟨A102,hA102⟩ : ∃ A1,A1 = (if co6 = ((d6) : Int).toNat then Ao6 else (Ao6 : Option Addr).map (·.add (((d6) : Int).toNat * 1))) := ⟨_,rfl⟩
    obtain ⟨c102,hc102⟩ : ∃ c1,c1 = co6 - ((d6) : Int).toNat := ⟨_,rfl⟩
    have j6 : g6.length = b4.length - ((d6) : Int).toNat := (by rw [i6.out,List.length_drop] <;> omega)
    rw [show (b4).drop ((d6) : Int).toNat = g6 from i6.out.symm] at hr102
    replace hr102 : Kd.C (Kd.int .i64) _ A102 g6.length g6 := (by rw [hA102];exact hr102)
    rw [← j6,← hA102,← hc102] at hcut102
    have HR679 := As_ hr102
    have HC679 := As_ (show g6.length ≤ c102 from by rw [j6,hc102];exact Nat.sub_le_sub_right hroom102 _)
    clear hr102 hC102 hroom102 hi0102 hsz102 hc102
    have KY102 := As_ j6
    have KA102 := As_ hA102
    clear j6 hA102
    have KL102 := As_ (show ((d6) : Int).toNat ≤ b4.length from by omega)
    replace q102 := eq_true q102
    go_wp2_with (first|((with_reducible refine gate_callee (f := 121) rfl ?_);refine goesL_ (some 33) rfl rfl Try.func121 (by kernel_rfl) rfl #[.slice A102 g6.length c102] rfl zM_ ?_;(with_reducible refine (spec_copyInts.calls _ _ g6 e0 _ ?side1 ?side2 A27.out).mono ?_);(case side1 => repeat (first|exact (by repeat (first|(with_reducible exact HR679.out)|(with_reducible refine Kd.C_alloc ?_ _)|(with_reducible refine Kd.C_drewN ?_ _)|(with_reducible refine Kd.C_drew ?_)|exact HR679.out))|(with_reducible refine Kd.C_alloc ?_ _)|(with_reducible refine Kd.C_drewN ?_ _)|(with_reducible refine Kd.C_drew ?_)));(case side2 => exact HC679.out);rintro e w103 ⟨v681,rfl,ho0,hb⟩;refine ⟨_,rfl,?_⟩;have n0_ := As_ (Kd.R_elder' (zR_ a7.out) (Kd.R_base ho0) hb);have n1_ := As_ (Kd.R_below (zR_ a9.out) hb);have n2_ := As_ (Kd.R_elder' (zR_ b0.out) (Kd.R_base ho0) hb);have n3_ := As_ (Kd.R_elder' (zR_ a8.out) (Kd.R_base ho0) hb);have n4_ := As_ (Kd.R_lower (Kd.R_new' (Kd.R_new' (Kd.R_new' (Kd.R_newM (M := fun k_ => ((b9 k_ ∨ d3 k_ ∨ d0 k_ ∨ d1 k_) ∨ w.heap.size ≤ k_)) ho0 (kz HK.out) (fun k_ h_ => .inr h_)) (Kd.R_lt (zR_ a7.out))) (Kd.R_lt (zR_ b0.out))) (Kd.R_lt (zR_ a8.out))) (bwZ (zb2 HB.out e2.out e7.out)));have n5_ := As_ (zkb a6.out hb);have n6_ := As_ (zkb b1.out hb);have n7_ := As_ (Kd.C_below (by repeat (first|(with_reducible exact HR679.out)|(with_reducible refine Kd.C_alloc ?_ _)|(with_reducible refine Kd.C_drewN ?_ _)|(with_reducible refine Kd.C_drew ?_)|exact HR679.out)) hb);have n8_ := As_ (Kept.below (S := (fun k_ => b9 k_ ∨ d3 k_ ∨ d0 k_ ∨ d1 k_)) (zq2 HK.out g4.out g5.out) hb);have n9_ := As_ (bwT (zb2 HB.out e2.out e7.out) hb);clear a7 a9 b0 a8 a6 b1 HR679 HK HB;revert n0_ n1_ n2_ n3_ n4_ n5_ n6_ n7_ n8_ n9_;intro a7 a9 b0 a8 e3 a6 b1 HR679 HK HB;have p3 : w103.cell? ⟨b2,0,none⟩ = some (.slice Ao4 b5.length co4) := (bkC a6.out 0).trans rfl;have p4 : w103.cell? ⟨b2,1,none⟩ = some (.slice Ao5 d2.length co5) := (bkC a6.out 1).trans rfl;have p6 : w103.cell? ⟨b2,2,none⟩ = some (.slice Ao6 b4.length co6) := (bkC a6.out 2).trans rfl;have p7 : w103.cell? ⟨b2,3,none⟩ = some (.slice Ao7 b7.length co7) := (bkC a6.out 3).trans rfl;have p8 : w103.cell? ⟨b2,4,none⟩ = some (.bool d4) := (bkC a6.out 4).trans rfl;have p9 := bkF a6.out 0;have q0 := bkF a6.out 1;have q1 := bkF a6.out 2;have q2 := bkF a6.out 3;have q3 := bkF a6.out 4;have q105 : (e9 : Int) ≤ ((b4.length : Int) : Int) := odT zA_;obtain ⟨i0105,hi0105,_,hsz105,_⟩ := info_parts info3;have hcut105 := cut_to (P := Try.prog) 22 3 .i64 Try.underlying22 hi0105 Ao6 b4.length co6 e9 (odT zA_) q105 (Kd.R_reads' b0.out).2.1;have hr105 := Kd.R_take (m := (e9 : Int).toNat) b0.out (by omega);have m7 : b6.length = (e9 : Int).toNat := (by rw [i7.out,List.length_take];omega);rw [← i7.out] at hr105;rw [← m7] at hr105 hcut105;clear m7 hi0105 hsz105 b0;have d7 := As_ hr105;clear hr105;(try simp only [own_len Ao6 b4.length b6.length co6] at a7);(try simp only [own_len Ao6 b4.length b6.length co6] at a9);(try simp only [own_len Ao6 b4.length b6.length co6] at a8);replace q105 := eq_true q105;have q4 : w103.cell? ⟨d5,0,none⟩ = some (.slice none 0 0) := (bkC b1.out 0).trans rfl;have q5 : w103.cell? ⟨d5,1,none⟩ = some (.slice none 0 0) := (bkC b1.out 1).trans rfl;have q6 : w103.cell? ⟨d5,2,none⟩ = some (.slice none 0 0) := (bkC b1.out 2).trans rfl;have q7 : w103.cell? ⟨d5,3,none⟩ = some (.slice none 0 0) := (bkC b1.out 3).trans rfl;have q8 : w103.cell? ⟨d5,4,none⟩ = some (.bool false) := (bkC b1.out 4).trans rfl;have q9 := bkF b1.out 0;have r0 := bkF b1.out 1;have r7 := bkF b1.out 2;have r8 := bkF b1.out 3;have r9 := bkF b1.out 4))
    refine bodyPost_ret (results_ct rfl _ _ d5 120 #[.slice Ao4 b5.length co4,.slice Ao5 d2.length co5,.slice Ao6 b6.length co6,.slice Ao7 b7.length co7,.bool d4] (0,0) _ rfl (by apply p5;refine blk_far ?_ b8.out _;exact b1.out) Try.underlying120 rfl (by kernel_rfl)) rfl ?_
    exact ⟨_,_,_,_,by first|rfl|(simp [errW_none,errW_some] <;> rfl)|(simp only [← i1];first|rfl|(simp [errW_none,errW_some] <;> rfl))|(simp [*,errW_none,errW_some] <;> rfl),by exact Kd.R_mono (rF5 (Kd.R_far (p := ⟨b2,2,none⟩) (Kd.R_types (rT a7.out a6.out) b1.out (by decide)) (fun _ hk => hk.1.2) (.slice Ao6 b6.length co6)) (fun _ hk => hk.2)) (fun _ hk => ⟨hk.1.1.1.1,⟨hk.1.1.1.2.1,hk.1.1.1.2.2⟩⟩),by exact Kd.R_mono (rF5 (Kd.R_far (p := ⟨b2,2,none⟩) (Kd.R_types (rT a9.out a6.out) b1.out (by decide)) (fun _ hk => hk.1.2) (.slice Ao6 b6.length co6)) (fun _ hk => hk.2)) (fun _ hk => hk.1.1),by exact Kd.R_mono (rF5 (Kd.R_far (p := ⟨b2,2,none⟩) (Kd.R_types (rT d7.out a6.out) b1.out (by decide)) (fun _ hk => hk.1.2) (.slice Ao6 b6.length co6)) (fun _ hk => hk.2)) (fun _ hk => ⟨hk.1.1.1.1,⟨hk.1.1.1.2.1,hk.1.1.1.2.2⟩⟩),by exact Kd.R_mono (rF5 (Kd.R_far (p := ⟨b2,2,none⟩) (Kd.R_types (rT a8.out a6.out) b1.out (by decide)) (fun _ hk => hk.1.2) (.slice Ao6 b6.length co6)) (fun _ hk => hk.2)) (fun _ hk => ⟨hk.1.1.1.1,⟨hk.1.1.1.2.1,hk.1.1.1.2.2⟩⟩),zb2 HB.out e2.out e7.out,zq2 HK.out g4.out g5.out⟩

   rw [if_pos c62] at H
   have o1 : (a1 == 12) = true := beq_iff_eq.mpr c62
   have o2 : (a1 != 12) = false := bne_eq_false_iff_eq.mpr c62
   clear c62
   have H' := As_ H
   clear H
   have R5 := b3.out
   have R6 := b8.out
   have I5 : wc.cell? ⟨b2,0,none⟩ = some (.slice Ao4 b5.length co4) := (bkC a6.out 0).trans rfl
   have I6 : wc.cell? ⟨b2,1,none⟩ = some (.slice Ao5 d2.length co5) := (bkC a6.out 1).trans rfl
   have I7 : wc.cell? ⟨b2,2,none⟩ = some (.slice Ao6 b4.length co6) := (bkC a6.out 2).trans rfl
   have I8 : wc.cell? ⟨b2,3,none⟩ = some (.slice Ao7 b7.length co7) := (bkC a6.out 3).trans rfl
   have I9 : wc.cell? ⟨b2,4,none⟩ = some (.bool d4) := (bkC a6.out 4).trans rfl
   have J0 := bkF a6.out 0
   have J1 := bkF a6.out 1
   have J2 := bkF a6.out 2
   have J3 := bkF a6.out 3
   have J4 := bkF a6.out 4
   have q65 : ((d6) : Int) ≤ ((b4.length : Int) : Int) := odT zA_
   obtain ⟨i065,hi065,_,hsz65,_⟩ := info_parts info3
   have hroom65 : b4.length ≤ co6 := (Kd.R_reads' b0.out).2.1
   have hC65 : Kd.C (Kd.int .i64) _ Ao6 b4.length b4 := (Kd.R_reads' b0.out).2.2
   have q065 : (0 : Int) ≤ ((d6) : Int) := odT zA_
   have hcut65 := cut_from (P := Try.prog) 22 3 .i64 Try.underlying22 hi065 1 hsz65 Ao6 b4.length co6 (d6) q065 q65
   have hr65 := Kd.C_drop (m := ((d6) : Int).toNat) (c := co6) hC65 (by omega) hroom65
   obtain ⟨A65,hA65⟩ : ∃ A1,A1 = (if co6 = ((d6) : Int).toNat then Ao6 else (Ao6 : Option Addr).map (·.add (((d6) : Int).toNat * 1))) := ⟨_,rfl⟩
   obtain ⟨c65,hc65⟩ : ∃ c1,c1 = co6 - ((d6) : Int).toNat := ⟨_,rfl⟩
   have m2 : g6.length = b4.length - ((d6) : Int).toNat := (by rw [i6.out,List.length_drop] <;> omega)
   rw [show (b4).drop ((d6) : Int).toNat = g6 from i6.out.symm] at hr65
   replace hr65 : Kd.C (Kd.int .i64) _ A65 g6.length g6 := (by rw [hA65];exact hr65)
   rw [← m2,← hA65,← hc65] at hcut65
   have HR679 := As_ hr65
   have HC679 := As_ (show g6.length ≤ c65 from by rw [m2,hc65];exact Nat.sub_le_sub_right hroom65 _)
   clear hr65 hC65 hroom65 hi065 hsz65 hc65
   have KY65 := As_ m2
   have KA65 := As_ hA65
   clear m2 hA65
   have KL65 := As_ (show ((d6) : Int).toNat ≤ b4.length from by omega)
   replace q65 := eq_true q65
   go_wp2_with (first|((with_reducible refine gate_callee (f := 121) rfl ?_);refine goesL_ (some 33) rfl rfl Try.func121 (by kernel_rfl) rfl #[.slice A65 g6.length c65] rfl zM_ ?_;(with_reducible refine (spec_copyInts.calls _ _ g6 e0 _ ?side1 ?side2 A27.out).mono ?_);(case side1 => repeat (first|exact (by repeat (first|(with_reducible exact HR679.out)|(with_reducible refine Kd.C_alloc ?_ _)|(with_reducible refine Kd.C_drewN ?_ _)|(with_reducible refine Kd.C_drew ?_)|exact HR679.out))|(with_reducible refine Kd.C_alloc ?_ _)|(with_reducible refine Kd.C_drewN ?_ _)|(with_reducible refine Kd.C_drew ?_)));(case side2 => exact HC679.out);rintro e w66 ⟨v681,rfl,ho0,hb⟩;refine ⟨_,rfl,?_⟩;have n0_ := As_ (Kd.R_elder' (zR_ a7.out) (Kd.R_base ho0) hb);have n1_ := As_ (Kd.R_below (zR_ a9.out) hb);have n2_ := As_ (Kd.R_elder' (zR_ b0.out) (Kd.R_base ho0) hb);have n3_ := As_ (Kd.R_elder' (zR_ a8.out) (Kd.R_base ho0) hb);have n4_ := As_ (Kd.R_lower (Kd.R_new' (Kd.R_new' (Kd.R_new' (Kd.R_newM (M := fun k_ => ((b9 k_ ∨ d3 k_ ∨ d0 k_ ∨ d1 k_) ∨ w.heap.size ≤ k_)) ho0 (kz HK.out) (fun k_ h_ => .inr h_)) (Kd.R_lt (zR_ a7.out))) (Kd.R_lt (zR_ b0.out))) (Kd.R_lt (zR_ a8.out))) (bwZ (zb2 HB.out e2.out e7.out)));have n5_ := As_ (zkb a6.out hb);have n6_ := As_ (zkb b1.out hb);have n7_ := As_ (Kd.C_below (by repeat (first|(with_reducible exact HR679.out)|(with_reducible refine Kd.C_alloc ?_ _)|(with_reducible refine Kd.C_drewN ?_ _)|(with_reducible refine Kd.C_drew ?_)|exact HR679.out)) hb);have n8_ := As_ (Kept.below (S := (fun k_ => b9 k_ ∨ d3 k_ ∨ d0 k_ ∨ d1 k_)) (zq2 HK.out g4.out g5.out) hb);have n9_ := As_ (bwT (zb2 HB.out e2.out e7.out) hb);clear a7 a9 b0 a8 a6 b1 HR679 HK HB;revert n0_ n1_ n2_ n3_ n4_ n5_ n6_ n7_ n8_ n9_;intro a7 a9 b0 a8 e3 a6 b1 HR679 HK HB;have J5 : w66.cell? ⟨b2,0,none⟩ = some (.slice Ao4 b5.length co4) := (bkC a6.out 0).trans rfl;have J6 : w66.cell? ⟨b2,1,none⟩ = some (.slice Ao5 d2.length co5) := (bkC a6.out 1).trans rfl;have J7 : w66.cell? ⟨b2,2,none⟩ = some (.slice Ao6 b4.length co6) := (bkC a6.out 2).trans rfl;have J8 : w66.cell? ⟨b2,3,none⟩ = some (.slice Ao7 b7.length co7) := (bkC a6.out 3).trans rfl;have J9 : w66.cell? ⟨b2,4,none⟩ = some (.bool d4) := (bkC a6.out 4).trans rfl;have K0 := bkF a6.out 0;have K1 := bkF a6.out 1;have K2 := bkF a6.out 2;have K3 := bkF a6.out 3;have K4 := bkF a6.out 4;have q68 : (e9 : Int) ≤ ((b4.length : Int) : Int) := odT zA_;obtain ⟨i068,hi068,_,hsz68,_⟩ := info_parts info3;have hcut68 := cut_to (P := Try.prog) 22 3 .i64 Try.underlying22 hi068 Ao6 b4.length co6 e9 (odT zA_) q68 (Kd.R_reads' b0.out).2.1;have hr68 := Kd.R_take (m := (e9 : Int).toNat) b0.out (by omega);have s7 : b6.length = (e9 : Int).toNat := (by rw [i7.out,List.length_take];omega);rw [← i7.out] at hr68;rw [← s7] at hr68 hcut68;clear s7 hi068 hsz68 b0;have d7 := As_ hr68;clear hr68;(try simp only [own_len Ao6 b4.length b6.length co6] at e3);(try simp only [own_len Ao6 b4.length b6.length co6] at a7);(try simp only [own_len Ao6 b4.length b6.length co6] at a9);(try simp only [own_len Ao6 b4.length b6.length co6] at a8);replace q68 := eq_true q68))
   go_loopg [8] kj2 (fun kq v8 w' => ∃ (e8 : Int) (g8 : Bool),v8 = .int .i64 e8 ∧ Aside0 (spec_markShapes.l1 kq e0 e8 b5 d2 b6 b7 d4 = some (r1,r2,r3,r4,r5,r6)) ∧ Aside0 (kq ≤ kj2) ∧ Aside0 (Kd.R (Kd.int .i64) 3 w' w0.heap.size (fun k_ => ((b9 k_ ∨ d3 k_ ∨ d0 k_ ∨ d1 k_) ∨ w.heap.size ≤ k_) ∧ some k_ ≠ ((.slice Ao4 b5.length co4) : Value).ownBlock ∧ some k_ ≠ ((.slice Ao6 b6.length co6) : Value).ownBlock ∧ some k_ ≠ ((.slice Ao7 b7.length co7) : Value).ownBlock) v681 e0) ∧ Aside0 (Kd.R (Kd.int .i64) 3 w' w0.heap.size (fun k_ => ((b9 k_ ∨ d3 k_ ∨ d0 k_ ∨ d1 k_) ∨ w.heap.size ≤ k_) ∧ some k_ ≠ (v681 : Value).ownBlock ∧ some k_ ≠ ((.slice Ao6 b6.length co6) : Value).ownBlock ∧ some k_ ≠ ((.slice Ao7 b7.length co7) : Value).ownBlock) (.slice Ao4 b5.length co4) b5) ∧ Aside0 (Kd.R Kd.bool 4 w' w0.heap.size (fun k_ => ((b9 k_ ∨ d3 k_ ∨ d0 k_ ∨ d1 k_) ∨ w.heap.size ≤ k_)) (.slice Ao5 d2.length co5) d2) ∧ Aside0 (Kd.R (Kd.int .i64) 3 w' w0.heap.size (fun k_ => ((b9 k_ ∨ d3 k_ ∨ d0 k_ ∨ d1 k_) ∨ w.heap.size ≤ k_) ∧ some k_ ≠ (v681 : Value).ownBlock ∧ some k_ ≠ ((.slice Ao4 b5.length co4) : Value).ownBlock ∧ some k_ ≠ ((.slice Ao7 b7.length co7) : Value).ownBlock) (.slice Ao6 b6.length co6) b6) ∧ Aside0 (Kd.R (Kd.int .i64) 3 w' w0.heap.size (fun k_ => ((b9 k_ ∨ d3 k_ ∨ d0 k_ ∨ d1 k_) ∨ w.heap.size ≤ k_) ∧ some k_ ≠ (v681 : Value).ownBlock ∧ some k_ ≠ ((.slice Ao4 b5.length co4) : Value).ownBlock ∧ some k_ ≠ ((.slice Ao6 b6.length co6) : Value).ownBlock) (.slice Ao7 b7.length co7) b7) ∧ Aside0 (w'.heap[b2]? = some (.cells #[(.slice Ao4 b5.length co4),(.slice Ao5 d2.length co5),(.slice Ao6 b6.length co6),(.slice Ao7 b7.length co7),.bool d4] 120 (0,0))) ∧ Aside0 (w'.heap[d5]? = some (.cells #[(.slice none 0 0),(.slice none 0 0),(.slice none 0 0),(.slice none 0 0),.bool g8] 120 (0,0))) ∧ Aside0 (Kept w w' (fun k_ => b9 k_ ∨ d3 k_ ∨ d0 k_ ∨ d1 k_)) ∧ Aside0 (Below w0.heap.size w0 w'))
   case atStart => exact ⟨(0),(false),zT_,H',⟨Nat.le_refl _⟩,⟨by exact Kd.R_mono (rX1 e3.out a6.out 2) (fun _ hk => ⟨hk.1.1.1.1.1,⟨hk.1.1.1.2,⟨hk.1.1.2,hk.1.2⟩⟩⟩)⟩,⟨by exact Kd.R_mono (rX1 a7.out a6.out 2) (fun _ hk => ⟨hk.1.1.1,⟨hk.1.2,⟨hk.1.1.2.1,hk.1.1.2.2⟩⟩⟩)⟩,⟨by exact Kd.R_mono (rX1 a9.out a6.out 2) (fun _ hk => hk.1)⟩,⟨by exact Kd.R_mono (rX1 d7.out a6.out 2) (fun _ hk => ⟨hk.1.1.1,⟨hk.1.2,⟨hk.1.1.2.1,hk.1.1.2.2⟩⟩⟩)⟩,⟨by exact Kd.R_mono (rX1 a8.out a6.out 2) (fun _ hk => ⟨hk.1.1.1,⟨hk.1.2,⟨hk.1.1.2.1,hk.1.1.2.2⟩⟩⟩)⟩,⟨by refine blk_put (cs := #[.slice Ao4 b5.length co4,.slice Ao5 d2.length co5,.slice Ao6 b4.length co6,.slice Ao7 b7.length co7,.bool d4]) ?_ 2 _ rfl;exact a6.out⟩,⟨by refine blk_far ?_ b8.out _;exact b1.out⟩,⟨zq2 HK.out g4.out g5.out⟩,⟨zb2 HB.out e2.out e7.out⟩⟩
   case round =>
    clear H'
    obtain ⟨e8,g8,rfl,HA,HK2,g7,a7,a9,b0,a8,a6,b1,HK,HB⟩ := hrel
    cases gk with
    | zero => exact absurd HA.out (fun h_ => (by cases h_))
    | succ k2 =>
     have H := HA.out
     clear HA
     simp only [spec_markShapes.l1] at H
     by_cases c69 : e8 < (e0.length : Int)
     ·rw [if_pos c69] at H
      have s8 : decide (e8 < (e0.length : Int)) = true := deT c69
      clear c69
      by_cases c70 : 0 ≤ e8
      rotate_left
      ·rw [if_neg c70] at H
       exact absurd H (by simp)
      rw [if_pos c70] at H
      have R7 : decide (0 ≤ e8) = true := deT c70
      clear c70
      by_cases c71 : 0 ≤ (rd e0 e8)
      rotate_left
      ·rw [if_neg c71] at H
       exact absurd H (by simp)
      rw [if_pos c71] at H
      have R8 : decide (0 ≤ (rd e0 e8)) = true := deT c71
      clear c71
      by_cases c72 : (rd e0 e8) < (b5.length : Int)
      rotate_left
      ·rw [if_neg c72] at H
       exact absurd H (by simp)
      rw [if_pos c72] at H
      have R9 : decide ((rd e0 e8) < (b5.length : Int)) = true := deT c72
      clear c72
      replace H := obS H
      obtain ⟨l9,A730,H⟩ := H
      replace H : (if l9 = true then (spec_markShapes.l1 k2 e0 (wrap64 (e8 + 2)) b5 d2 b6 b7 d4) else (some (b5,d2,b6,b7,d4,false))) = some (r1,r2,r3,r4,r5,r6) := H
      have A73 := As_ A730
      clear A730
      by_cases c74 : l9 = true
      ·subst c74
       have H1 : (spec_markShapes.l1 k2 e0 (wrap64 (e8 + 2)) b5 d2 b6 b7 d4) = some (r1,r2,r3,r4,r5,r6) := by rw [if_pos rfl] at H;exact H
       clear H
       have H := H1
       clear H1
       have H' := As_ H
       clear H
       obtain ⟨Ao75,co75,eo75⟩ := Kd.R_slice g7.out
       subst eo75
       try go_wp2
       have n0_ := As_ (Kd.R_drew g7.out)
       have n1_ := As_ (Kd.R_drew a7.out)
       have n2_ := As_ (Kd.R_drew a9.out)
       have n3_ := As_ (Kd.R_drew b0.out)
       have n4_ := As_ (Kd.R_drew a8.out)
       have n5_ := As_ (bkD a6.out)
       have n6_ := As_ (bkD b1.out)
       have n7_ := As_ (Kept.drew HK.out)
       have n8_ := As_ (bwD HB.out)
       clear g7 a7 a9 b0 a8 a6 b1 HK HB
       revert n0_ n1_ n2_ n3_ n4_ n5_ n6_ n7_ n8_;intro g7 a7 a9 b0 a8 a6 b1 HK HB
       have p700 : 0 ≤ (e8 : Int) := odT zA_
       have q700 : e8 < (e0.length : Int) := odT zA_
       obtain ⟨ad700,e700,hx700_0⟩ := Kd.at_int (Kd.R_reads' g7.out).2.2 e8 p700 q700
       cases e700
       replace p700 := eq_true p700
       replace q700 := eq_true q700
       have p701 : 0 ≤ ((rd e0 e8) : Int) := odT zA_
       have q701 : (rd e0 e8) < (b5.length : Int) := odT zA_
       obtain ⟨ad701,e701,hx701_0⟩ := Kd.at_int (Kd.R_reads' a7.out).2.2 (rd e0 e8) p701 q701
       cases e701
       replace p701 := eq_true p701
       replace q701 := eq_true q701
       refine start_ (n := 10) (S := fun w' => w'.cell? ⟨b2,0,none⟩ = some (.slice (some ad701) b5.length co4) ∧ w'.cell? ⟨b2,1,none⟩ = some (.slice Ao5 d2.length co5) ∧ w'.cell? ⟨b2,2,none⟩ = some (.slice Ao6 b6.length co6) ∧ w'.cell? ⟨b2,3,none⟩ = some (.slice Ao7 b7.length co7) ∧ w'.cell? ⟨b2,4,none⟩ = some (.bool d4) ∧ w'.cell? (ad700.add (e8).toNat) = some (.int .i64 (rd e0 e8)) ∧ w'.cell? (ad701.add ((rd e0 e8)).toNat) = some (.int .i64 (rd b5 (rd e0 e8)))) (ds := []) (bl_ 0 10) (by kernel_rfl) rfl rfl ⟨(bkC a6.out 0).trans rfl,(bkC a6.out 1).trans rfl,(bkC a6.out 2).trans rfl,(bkC a6.out 3).trans rfl,(bkC a6.out 4).trans rfl,hx700_0,hx701_0⟩ (fun hHeld => ?_);refine with_tabW spec_markShapes.tab17 spec_markShapes.bits17 (fun HT_ HW_ => ?_)
       generalize wr.drew = w76 at g7 a7 a9 b0 a8 a6 b1 HK HB hx700_0 hx701_0 hHeld ⊢
       refine pQ 0 58 (bl_ 1 10) HT_ rfl ?_
       refine pQ 2 60 (bl_ 5 10) HT_ rfl ?_
       refine pQ 3 61 (bl_ 13 10) HT_ rfl ?_
       refine pQ 4 62 (bl_ 29 10) HT_ rfl ?_
       refine tP 1 59 (bl_ 31 10) ?_ HT_ HW_ rfl (.inl ⟨by rfl,?_⟩) hHeld ?_ ?_ ?_;rotate_left;(rintro w' ⟨s0,s1,s2,s3,s4,s5,s6⟩;go_simp;with_reducible rfl);rotate_left;(simp only [Act.put,sq_,i64_w,i32_w];rfl)
       refine tP 5 63 (bl_ 63 10) ?_ HT_ HW_ rfl (.inl ⟨by rfl,?_⟩) hHeld ?_ ?_ ?_;rotate_left;(rintro w' ⟨s0,s1,s2,s3,s4,s5,s6⟩;go_simp;with_reducible rfl);rotate_left;(simp only [Act.put,sq_,i64_w,i32_w];rfl)
       refine pQ 6 64 (bl_ 127 10) HT_ rfl ?_
       refine tP 7 65 (bl_ 255 10) ?_ HT_ HW_ rfl (.inl ⟨by rfl,?_⟩) hHeld ?_ ?_ ?_;rotate_left;(rintro w' ⟨s0,s1,s2,s3,s4,s5,s6⟩;go_simp;with_reducible rfl);rotate_left;(simp only [Act.put,sq_,i64_w,i32_w];rfl)
       refine one_ (i := 8) (N := some 66) (bl_ 511 10) rfl rfl (one_of HT_.out (by kernel_rfl)) (by decide) (fun K hK => ?_)
       refine goes_ Try.func129 (by kernel_rfl) rfl #[.int .i64 (rd b5 (rd e0 e8))] (by rfl) rfl rfl zM_ ?_
       with_reducible refine (spec_keyKind.calls (rd b5 (rd e0 e8)) true _ A73.out).mono ?_
       rintro e w' ⟨rfl,⟨nd,rfl⟩⟩
       refine ⟨_,rfl,?_⟩
       refine hK.out _ _ ⟨(bkC a6.out 0).trans rfl,(bkC a6.out 1).trans rfl,(bkC a6.out 2).trans rfl,(bkC a6.out 3).trans rfl,(bkC a6.out 4).trans rfl,hHeld.2.2.2.2.2.1,hHeld.2.2.2.2.2.2⟩ (fun hHeld => ?_)
       clear hK K
       refine norm_ (a' := ?_) ?_ ?_
       rotate_left
       ·show Act.put _ (some 66) _ = _
        simp only [Act.put,sq_,i64_w,i32_w]
        rfl
       refine pQ 9 67 (bl_ 1023 10) HT_ rfl ?_
       refine done_ (done_of HT_.out (by kernel_rfl)) ?_
       try go_wp2
       go_roundg k2
       case measure => have := HJ2.out;have := HK2.out;omega
       case rel => exact ⟨(wrap64 (e8 + 2)),(g8),zT_,H',⟨by have := HJ2.out;have := HK2.out;omega⟩,⟨by (with_reducible repeat (first|apply Kd.R_alloc|apply Kd.R_drewN|apply Kd.R_drew));exact g7.out⟩,⟨by (with_reducible repeat (first|apply Kd.R_alloc|apply Kd.R_drewN|apply Kd.R_drew));exact a7.out⟩,⟨by (with_reducible repeat (first|apply Kd.R_alloc|apply Kd.R_drewN|apply Kd.R_drew));exact a9.out⟩,⟨by (with_reducible repeat (first|apply Kd.R_alloc|apply Kd.R_drewN|apply Kd.R_drew));exact b0.out⟩,⟨by (with_reducible repeat (first|apply Kd.R_alloc|apply Kd.R_drewN|apply Kd.R_drew));exact a8.out⟩,⟨by (with_reducible repeat first|apply bkN|apply bkD|apply bkA);exact a6.out⟩,⟨by (with_reducible repeat first|apply bkN|apply bkD|apply bkA);exact b1.out⟩,⟨zq2 HK.out g4.out g5.out⟩,⟨zb2 HB.out e2.out e7.out⟩⟩
      replace c74 := Bool.eq_false_iff.mpr c74
      subst c74
      have H1 : (some (b5,d2,b6,b7,d4,false)) = some (r1,r2,r3,r4,r5,r6) := by rw [if_neg (show ¬ (false = true) by decide)] at H;exact H
      clear H
      have H := H1
      clear H1
      simp only [Option.some.injEq,Prod.mk.injEq] at H
      obtain ⟨rfl,rfl,rfl,rfl,rfl,rfl⟩ := H
      obtain ⟨Ao77,co77,eo77⟩ := Kd.R_slice g7.out
      subst eo77
      try go_wp2
      have n0_ := As_ (Kd.R_drew g7.out)
      have n1_ := As_ (Kd.R_drew a7.out)
      have n2_ := As_ (Kd.R_drew a9.out)
      have n3_ := As_ (Kd.R_drew b0.out)
      have n4_ := As_ (Kd.R_drew a8.out)
      have n5_ := As_ (bkD a6.out)
      have n6_ := As_ (bkD b1.out)
      have n7_ := As_ (Kept.drew HK.out)
      have n8_ := As_ (bwD HB.out)
      clear g7 a7 a9 b0 a8 a6 b1 HK HB
      revert n0_ n1_ n2_ n3_ n4_ n5_ n6_ n7_ n8_;intro g7 a7 a9 b0 a8 a6 b1 HK HB
      have p700 : 0 ≤ (e8 : Int) := odT zA_
      have q700 : e8 < (e0.length : Int) := odT zA_
      obtain ⟨ad700,e700,hx700_0⟩ := Kd.at_int (Kd.R_reads' g7.out).2.2 e8 p700 q700
      cases e700
      replace p700 := eq_true p700
      replace q700 := eq_true q700
      have p701 : 0 ≤ ((rd e0 e8) : Int) := odT zA_
      have q701 : (rd e0 e8) < (b5.length : Int) := odT zA_
      obtain ⟨ad701,e701,hx701_0⟩ := Kd.at_int (Kd.R_reads' a7.out).2.2 (rd e0 e8) p701 q701
      cases e701
      replace p701 := eq_true p701
      replace q701 := eq_true q701
      refine start_ (n := 10) (S := fun w' => w'.cell? ⟨b2,0,none⟩ = some (.slice (some ad701) b5.length co4) ∧ w'.cell? ⟨b2,1,none⟩ = some (.slice Ao5 d2.length co5) ∧ w'.cell? ⟨b2,2,none⟩ = some (.slice Ao6 b6.length co6) ∧ w'.cell? ⟨b2,3,none⟩ = some (.slice Ao7 b7.length co7) ∧ w'.cell? ⟨b2,4,none⟩ = some (.bool d4) ∧ w'.cell? (ad700.add (e8).toNat) = some (.int .i64 (rd e0 e8)) ∧ w'.cell? (ad701.add ((rd e0 e8)).toNat) = some (.int .i64 (rd b5 (rd e0 e8)))) (ds := []) (bl_ 0 10) (by kernel_rfl) rfl rfl ⟨(bkC a6.out 0).trans rfl,(bkC a6.out 1).trans rfl,(bkC a6.out 2).trans rfl,(bkC a6.out 3).trans rfl,(bkC a6.out 4).trans rfl,hx700_0,hx701_0⟩ (fun hHeld => ?_);refine with_tabW spec_markShapes.tab17 spec_markShapes.bits17 (fun HT_ HW_ => ?_)
      generalize wr.drew = w78 at g7 a7 a9 b0 a8 a6 b1 HK HB hx700_0 hx701_0 hHeld ⊢
      refine pQ 0 58 (bl_ 1 10) HT_ rfl ?_
      refine pQ 2 60 (bl_ 5 10) HT_ rfl ?_
      refine pQ 3 61 (bl_ 13 10) HT_ rfl ?_
      refine pQ 4 62 (bl_ 29 10) HT_ rfl ?_
      refine tP 1 59 (bl_ 31 10) ?_ HT_ HW_ rfl (.inl ⟨by rfl,?_⟩) hHeld ?_ ?_ ?_;rotate_left;(rintro w' ⟨s0,s1,s2,s3,s4,s5,s6⟩;go_simp;with_reducible rfl);rotate_left;(simp only [Act.put,sq_,i64_w,i32_w];rfl)
      refine tP 5 63 (bl_ 63 10) ?_ HT_ HW_ rfl (.inl ⟨by rfl,?_⟩) hHeld ?_ ?_ ?_;rotate_left;(rintro w' ⟨s0,s1,s2,s3,s4,s5,s6⟩;go_simp;with_reducible rfl);rotate_left;(simp only [Act.put,sq_,i64_w,i32_w];rfl)
      refine pQ 6 64 (bl_ 127 10) HT_ rfl ?_
      refine tP 7 65 (bl_ 255 10) ?_ HT_ HW_ rfl (.inl ⟨by rfl,?_⟩) hHeld ?_ ?_ ?_;rotate_left;(rintro w' ⟨s0,s1,s2,s3,s4,s5,s6⟩;go_simp;with_reducible rfl);rotate_left;(simp only [Act.put,sq_,i64_w,i32_w];rfl)
      refine one_ (i := 8) (N := some 66) (bl_ 511 10) rfl rfl (one_of HT_.out (by kernel_rfl)) (by decide) (fun K hK => ?_)
      refine goes_ Try.func129 (by kernel_rfl) rfl #[.int .i64 (rd b5 (rd e0 e8))] (by rfl) rfl rfl zM_ ?_
      with_reducible refine (spec_keyKind.calls (rd b5 (rd e0 e8)) false _ A73.out).mono ?_
      rintro e w' ⟨rfl,⟨nd,rfl⟩⟩
      refine ⟨_,rfl,?_⟩
      refine hK.out _ _ ⟨(bkC a6.out 0).trans rfl,(bkC a6.out 1).trans rfl,(bkC a6.out 2).trans rfl,(bkC a6.out 3).trans rfl,(bkC a6.out 4).trans rfl,hHeld.2.2.2.2.2.1,hHeld.2.2.2.2.2.2⟩ (fun hHeld => ?_)
      clear hK K
      refine norm_ (a' := ?_) ?_ ?_
      rotate_left
      ·show Act.put _ (some 66) _ = _
       simp only [Act.put,sq_,i64_w,i32_w]
       rfl
      refine pQ 9 67 (bl_ 1023 10) HT_ rfl ?_
      refine done_ (done_of HT_.out (by kernel_rfl)) ?_
      have S0 := b3.out
      have S1 := b8.out
      have K5 : w78.cell? ⟨b2,0,none⟩ = some (.slice (some ad701) b5.length co4) := (bkC a6.out 0).trans rfl
      have K6 : w78.cell? ⟨b2,1,none⟩ = some (.slice Ao5 d2.length co5) := (bkC a6.out 1).trans rfl
      have K7 : w78.cell? ⟨b2,2,none⟩ = some (.slice Ao6 b6.length co6) := (bkC a6.out 2).trans rfl
      have K8 : w78.cell? ⟨b2,3,none⟩ = some (.slice Ao7 b7.length co7) := (bkC a6.out 3).trans rfl
      have K9 : w78.cell? ⟨b2,4,none⟩ = some (.bool d4) := (bkC a6.out 4).trans rfl
      have L0 := bkF a6.out 0
      have L1 := bkF a6.out 1
      have L2 := bkF a6.out 2
      have L3 := bkF a6.out 3
      have L4 := bkF a6.out 4
      have L5 : w78.cell? ⟨d5,0,none⟩ = some (.slice none 0 0) := (bkC b1.out 0).trans rfl
      have L6 : w78.cell? ⟨d5,1,none⟩ = some (.slice none 0 0) := (bkC b1.out 1).trans rfl
      have L7 : w78.cell? ⟨d5,2,none⟩ = some (.slice none 0 0) := (bkC b1.out 2).trans rfl
      have L8 : w78.cell? ⟨d5,3,none⟩ = some (.slice none 0 0) := (bkC b1.out 3).trans rfl
      have L9 : w78.cell? ⟨d5,4,none⟩ = some (.bool g8) := (bkC b1.out 4).trans rfl
      have M0 := bkF b1.out 0
      have M1 := bkF b1.out 1
      have M2 := bkF b1.out 2
      have M3 := bkF b1.out 3
      have M4 := bkF b1.out 4
      try go_wp2
      refine bodyPost_ret (results_ct rfl _ _ d5 120 #[.slice (some ad701) b5.length co4,.slice Ao5 d2.length co5,.slice Ao6 b6.length co6,.slice Ao7 b7.length co7,.bool d4] (0,0) _ rfl (by apply p5;(with_reducible repeat first|apply bkN|apply bkD|apply bkA);exact b1.out) Try.underlying120 rfl (by kernel_rfl)) rfl ?_
      exact ⟨_,_,_,_,by first|rfl|(simp [errW_none,errW_some] <;> rfl)|(simp only [← i1];first|rfl|(simp [errW_none,errW_some] <;> rfl))|(simp [*,errW_none,errW_some] <;> rfl),by exact Kd.R_mono (rX5 a7.out b1.out) (fun _ hk => ⟨hk.1.1,⟨hk.1.2.2.1,hk.1.2.2.2⟩⟩),by exact Kd.R_mono (rX5 a9.out b1.out) (fun _ hk => hk.1),by exact Kd.R_mono (rX5 b0.out b1.out) (fun _ hk => ⟨hk.1.1,⟨hk.1.2.2.1,hk.1.2.2.2⟩⟩),by exact Kd.R_mono (rX5 a8.out b1.out) (fun _ hk => ⟨hk.1.1,⟨hk.1.2.2.1,hk.1.2.2.2⟩⟩),zb2 HB.out e2.out e7.out,zq2 HK.out g4.out g5.out⟩
     rw [if_neg c69] at H
     have s8 : decide (e8 < (e0.length : Int)) = false := deF c69
     clear c69
     replace H := obS H
     obtain ⟨j3,A820,H⟩ := H
     replace H : (if j3 = 4 then (some (b5,d2,b6,b7,d4,(((e0.length : Int) % 2) == 0))) else (some (b5,d2,b6,b7,d4,false))) = some (r1,r2,r3,r4,r5,r6) := H
     have A82 := As_ A820
     clear A820
     by_cases c83 : j3 = 4
     rotate_left
     ·rw [if_neg c83] at H
      have s9 : (j3 == 4) = false := beq_eq_false_iff_ne.mpr c83
      have t0 : (j3 != 4) = true := bne_iff_ne.mpr c83
      simp only [Option.some.injEq,Prod.mk.injEq] at H
      obtain ⟨rfl,rfl,rfl,rfl,rfl,rfl⟩ := H
      obtain ⟨Ao92,co92,eo92⟩ := Kd.R_slice g7.out
      subst eo92
      try go_wp2
      have n0_ := As_ (Kd.R_drew g7.out)
      have n1_ := As_ (Kd.R_drew a7.out)
      have n2_ := As_ (Kd.R_drew a9.out)
      have n3_ := As_ (Kd.R_drew b0.out)
      have n4_ := As_ (Kd.R_drew a8.out)
      have n5_ := As_ (bkD a6.out)
      have n6_ := As_ (bkD b1.out)
      have n7_ := As_ (Kept.drew HK.out)
      have n8_ := As_ (bwD HB.out)
      clear g7 a7 a9 b0 a8 a6 b1 HK HB
      revert n0_ n1_ n2_ n3_ n4_ n5_ n6_ n7_ n8_;intro g7 a7 a9 b0 a8 a6 b1 HK HB
      refine start_ (n := 12) (S := fun w' => w'.cell? ⟨b2,0,none⟩ = some (.slice Ao4 b5.length co4) ∧ w'.cell? ⟨b2,1,none⟩ = some (.slice Ao5 d2.length co5) ∧ w'.cell? ⟨b2,2,none⟩ = some (.slice Ao6 b6.length co6) ∧ w'.cell? ⟨b2,3,none⟩ = some (.slice Ao7 b7.length co7) ∧ w'.cell? ⟨b2,4,none⟩ = some (.bool d4)) (ds := []) (bl_ 0 12) (by kernel_rfl) rfl rfl ⟨(bkC a6.out 0).trans rfl,(bkC a6.out 1).trans rfl,(bkC a6.out 2).trans rfl,(bkC a6.out 3).trans rfl,(bkC a6.out 4).trans rfl⟩ (fun hHeld => ?_);refine with_tabW spec_markShapes.tab19 spec_markShapes.bits19 (fun HT_ HW_ => ?_)
      generalize wr.drew = w93 at g7 a7 a9 b0 a8 a6 b1 HK HB hHeld ⊢
      refine tP 0 69 (bl_ 1 12) ?_ HT_ HW_ rfl (.inl ⟨by rfl,?_⟩) hHeld ?_ ?_ ?_;rotate_left;(rintro w' ⟨s0,s1,s2,s3,s4⟩;go_simp;with_reducible rfl);rotate_left;(simp only [Act.put,sq_,i64_w,i32_w];rfl)
      refine tP 1 70 (bl_ 3 12) ?_ HT_ HW_ rfl (.inl ⟨by rfl,?_⟩) hHeld ?_ ?_ ?_;rotate_left;(rintro w' ⟨s0,s1,s2,s3,s4⟩;go_simp;with_reducible rfl);rotate_left;(simp only [Act.put,sq_,i64_w,i32_w];rfl)
      refine one_ (i := 2) (N := some 71) (bl_ 7 12) rfl rfl (one_of HT_.out (by kernel_rfl)) (by decide) (fun K hK => ?_)
      refine goes_ Try.func128 (by kernel_rfl) rfl #[.agg #[.slice Ao4 b5.length co4,.slice Ao5 d2.length co5,.slice Ao6 b6.length co6,.slice Ao7 b7.length co7,.bool d4],.int .i64 0] (by rfl) rfl rfl zM_ ?_
      with_reducible refine (spec_shapeAt.calls _ _ b5 _ _ d2 _ _ b6 _ _ b7 d4 0 j3 _ ?side1 ?side2 ?side3 ?side4 ?side5 ?side6 ?side7 ?side8 A82.out).mono ?_
      (case side1 => exact zC_ (Kd.R_reads' a7.out).2.2)
      (case side2 => exact (Kd.R_reads' a7.out).2.1)
      (case side3 => exact zC_ (Kd.R_reads' a9.out).2.2)
      (case side4 => exact (Kd.R_reads' a9.out).2.1)
      (case side5 => exact zC_ (Kd.R_reads' b0.out).2.2)
      (case side6 => exact (Kd.R_reads' b0.out).2.1)
      (case side7 => exact zC_ (Kd.R_reads' a8.out).2.2)
      (case side8 => exact (Kd.R_reads' a8.out).2.1)
      rintro e w94 ⟨rfl,hb⟩
      refine ⟨_,rfl,?_⟩
      have n0_ := As_ (Kd.R_below (zR_ g7.out) hb)
      have n1_ := As_ (Kd.R_below (zR_ a7.out) hb)
      have n2_ := As_ (Kd.R_below (zR_ a9.out) hb)
      have n3_ := As_ (Kd.R_below (zR_ b0.out) hb)
      have n4_ := As_ (Kd.R_below (zR_ a8.out) hb)
      have n5_ := As_ (zkb a6.out hb)
      have n6_ := As_ (zkb b1.out hb)
      have n7_ := As_ (Kept.below (S := (fun k_ => b9 k_ ∨ d3 k_ ∨ d0 k_ ∨ d1 k_)) (zq2 HK.out g4.out g5.out) hb)
      have n8_ := As_ (bwT (zb2 HB.out e2.out e7.out) hb)
      clear g7 a7 a9 b0 a8 a6 b1 HK HB
      revert n0_ n1_ n2_ n3_ n4_ n5_ n6_ n7_ n8_;intro g7 a7 a9 b0 a8 a6 b1 HK HB
      refine hK.out _ _ ⟨(bkC a6.out 0).trans rfl,(bkC a6.out 1).trans rfl,(bkC a6.out 2).trans rfl,(bkC a6.out 3).trans rfl,(bkC a6.out 4).trans rfl⟩ (fun hHeld => ?_)
      clear hK K
      refine norm_ (a' := ?_) ?_ ?_
      rotate_left
      ·show Act.put _ (some 71) _ = _
       simp only [Act.put,sq_,i64_w,i32_w]
       rfl
      refine pQ 3 72 (bl_ 15 12) HT_ rfl ?_
      refine pQ 4 73 (bl_ 31 12) HT_ rfl ?_
      refine uP 5 74 (bl_ 63 12) ?_ HT_ rfl (.inr ⟨by rfl,rfl⟩) ?_ ?_;rotate_left;(simp only [Act.put,sq_,i64_w,i32_w];rfl)
      refine uP 6 75 (bl_ 127 12) ?_ HT_ rfl (.inr ⟨by rfl,rfl⟩) ?_ ?_;rotate_left;(simp only [Act.put,sq_,i64_w,i32_w];rfl)
      refine uP 7 76 (bl_ 255 12) ?_ HT_ rfl (.inr ⟨by rfl,rfl⟩) ?_ ?_;rotate_left;(simp only [Act.put,sq_,i64_w,i32_w];rfl)
      refine uP 8 77 (bl_ 511 12) ?_ HT_ rfl (.inr ⟨by rfl,rfl⟩) ?_ ?_;rotate_left;(simp only [Act.put,sq_,i64_w,i32_w];rfl)
      refine pQ 9 78 (bl_ 1023 12) HT_ rfl ?_
      refine one_ (i := 10) (N := none) (bl_ 2047 12) rfl rfl (one_of HT_.out (by kernel_rfl)) (by decide) (fun K hK => ?_)
      have T8 : w94.cell? ⟨d5,0,none⟩ = some (.slice none 0 0) := (bkC b1.out 0).trans rfl
      have S3 := bkF b1.out 0
      have M5 := b3.out
      have M6 := b8.out
      have T9 : w94.cell? ⟨d5,1,none⟩ = some (.slice none 0 0) := (bkC b1.out 1).trans rfl
      have S4 := bkF b1.out 1
      have M7 := b3.out
      have M8 := b8.out
      have U0 : w94.cell? ⟨d5,2,none⟩ = some (.slice none 0 0) := (bkC b1.out 2).trans rfl
      have S5 := bkF b1.out 2
      have M9 := b3.out
      have N0 := b8.out
      have U1 : w94.cell? ⟨d5,3,none⟩ = some (.slice none 0 0) := (bkC b1.out 3).trans rfl
      have S6 := bkF b1.out 3
      have N1 := b3.out
      have N2 := b8.out
      have U2 : w94.cell? ⟨d5,4,none⟩ = some (.bool g8) := (bkC b1.out 4).trans rfl
      have S7 := bkF b1.out 4
      have N3 := b3.out
      have N4 := b8.out
      refine skip_ (w1 := ?_) (by rfl) rfl ?_ ?_
      rotate_left
      ·go_simp
       rfl
      refine hK.out _ _ ⟨(c5 b3.out (hHeld.1)),(c5 b3.out (hHeld.2.1)),(c5 b3.out (hHeld.2.2.1)),(c5 b3.out (hHeld.2.2.2.1)),(c5 b3.out (hHeld.2.2.2.2))⟩ (fun hHeld => ?_)
      clear hK K
      refine pQ 11 5 (bl_ 4095 12) HT_ rfl ?_
      refine done_ (done_of HT_.out (by kernel_rfl)) ?_
      try go_wp2
      refine bodyPost_ret (results_ct rfl _ _ d5 120 #[.slice Ao4 b5.length co4,.slice Ao5 d2.length co5,.slice Ao6 b6.length co6,.slice Ao7 b7.length co7,.bool d4] (0,0) _ rfl (p5 b1.out) Try.underlying120 rfl (by kernel_rfl)) rfl ?_
      exact ⟨_,_,_,_,by first|rfl|(simp [errW_none,errW_some] <;> rfl)|(simp only [← i1];first|rfl|(simp [errW_none,errW_some] <;> rfl))|(simp [*,errW_none,errW_some] <;> rfl),by exact Kd.R_mono (rX5 a7.out b1.out) (fun _ hk => ⟨hk.1.1,⟨hk.1.2.2.1,hk.1.2.2.2⟩⟩),by exact Kd.R_mono (rX5 a9.out b1.out) (fun _ hk => hk.1),by exact Kd.R_mono (rX5 b0.out b1.out) (fun _ hk => ⟨hk.1.1,⟨hk.1.2.2.1,hk.1.2.2.2⟩⟩),by exact Kd.R_mono (rX5 a8.out b1.out) (fun _ hk => ⟨hk.1.1,⟨hk.1.2.2.1,hk.1.2.2.2⟩⟩),zb2 HB.out e2.out e7.out,zq2 HK.out g4.out g5.out⟩
     rw [if_pos c83] at H
     have s9 : (j3 == 4) = true := beq_iff_eq.mpr c83
     have t0 : (j3 != 4) = false := bne_eq_false_iff_eq.mpr c83
     clear c83
     simp only [Option.some.injEq,Prod.mk.injEq] at H
     obtain ⟨rfl,rfl,rfl,rfl,rfl,rfl⟩ := H
     obtain ⟨Ao84,co84,eo84⟩ := Kd.R_slice g7.out
     subst eo84
     try go_wp2
     have n0_ := As_ (Kd.R_drew g7.out)
     have n1_ := As_ (Kd.R_drew a7.out)
     have n2_ := As_ (Kd.R_drew a9.out)
     have n3_ := As_ (Kd.R_drew b0.out)
     have n4_ := As_ (Kd.R_drew a8.out)
     have n5_ := As_ (bkD a6.out)
     have n6_ := As_ (bkD b1.out)
     have n7_ := As_ (Kept.drew HK.out)
     have n8_ := As_ (bwD HB.out)
     clear g7 a7 a9 b0 a8 a6 b1 HK HB
     revert n0_ n1_ n2_ n3_ n4_ n5_ n6_ n7_ n8_;intro g7 a7 a9 b0 a8 a6 b1 HK HB
     refine start_ (n := 12) (S := fun w' => w'.cell? ⟨b2,0,none⟩ = some (.slice Ao4 b5.length co4) ∧ w'.cell? ⟨b2,1,none⟩ = some (.slice Ao5 d2.length co5) ∧ w'.cell? ⟨b2,2,none⟩ = some (.slice Ao6 b6.length co6) ∧ w'.cell? ⟨b2,3,none⟩ = some (.slice Ao7 b7.length co7) ∧ w'.cell? ⟨b2,4,none⟩ = some (.bool d4)) (ds := []) (bl_ 0 12) (by kernel_rfl) rfl rfl ⟨(bkC a6.out 0).trans rfl,(bkC a6.out 1).trans rfl,(bkC a6.out 2).trans rfl,(bkC a6.out 3).trans rfl,(bkC a6.out 4).trans rfl⟩ (fun hHeld => ?_);refine with_tabW spec_markShapes.tab19 spec_markShapes.bits19 (fun HT_ HW_ => ?_)
     generalize wr.drew = w85 at g7 a7 a9 b0 a8 a6 b1 HK HB hHeld ⊢
     refine tP 0 69 (bl_ 1 12) ?_ HT_ HW_ rfl (.inl ⟨by rfl,?_⟩) hHeld ?_ ?_ ?_;rotate_left;(rintro w' ⟨s0,s1,s2,s3,s4⟩;go_simp;with_reducible rfl);rotate_left;(simp only [Act.put,sq_,i64_w,i32_w];rfl)
     refine tP 1 70 (bl_ 3 12) ?_ HT_ HW_ rfl (.inl ⟨by rfl,?_⟩) hHeld ?_ ?_ ?_;rotate_left;(rintro w' ⟨s0,s1,s2,s3,s4⟩;go_simp;with_reducible rfl);rotate_left;(simp only [Act.put,sq_,i64_w,i32_w];rfl)
     refine one_ (i := 2) (N := some 71) (bl_ 7 12) rfl rfl (one_of HT_.out (by kernel_rfl)) (by decide) (fun K hK => ?_)
     refine goes_ Try.func128 (by kernel_rfl) rfl #[.agg #[.slice Ao4 b5.length co4,.slice Ao5 d2.length co5,.slice Ao6 b6.length co6,.slice Ao7 b7.length co7,.bool d4],.int .i64 0] (by rfl) rfl rfl zM_ ?_
     with_reducible refine (spec_shapeAt.calls _ _ b5 _ _ d2 _ _ b6 _ _ b7 d4 0 j3 _ ?side1 ?side2 ?side3 ?side4 ?side5 ?side6 ?side7 ?side8 A82.out).mono ?_
     (case side1 => exact zC_ (Kd.R_reads' a7.out).2.2)
     (case side2 => exact (Kd.R_reads' a7.out).2.1)
     (case side3 => exact zC_ (Kd.R_reads' a9.out).2.2)
     (case side4 => exact (Kd.R_reads' a9.out).2.1)
     (case side5 => exact zC_ (Kd.R_reads' b0.out).2.2)
     (case side6 => exact (Kd.R_reads' b0.out).2.1)
     (case side7 => exact zC_ (Kd.R_reads' a8.out).2.2)
     (case side8 => exact (Kd.R_reads' a8.out).2.1)
     rintro e w86 ⟨rfl,hb⟩
     refine ⟨_,rfl,?_⟩
     have n0_ := As_ (Kd.R_below (zR_ g7.out) hb)
     have n1_ := As_ (Kd.R_below (zR_ a7.out) hb)
     have n2_ := As_ (Kd.R_below (zR_ a9.out) hb)
     have n3_ := As_ (Kd.R_below (zR_ b0.out) hb)
     have n4_ := As_ (Kd.R_below (zR_ a8.out) hb)
     have n5_ := As_ (zkb a6.out hb)
     have n6_ := As_ (zkb b1.out hb)
     have n7_ := As_ (Kept.below (S := (fun k_ => b9 k_ ∨ d3 k_ ∨ d0 k_ ∨ d1 k_)) (zq2 HK.out g4.out g5.out) hb)
     have n8_ := As_ (bwT (zb2 HB.out e2.out e7.out) hb)
     clear g7 a7 a9 b0 a8 a6 b1 HK HB
     revert n0_ n1_ n2_ n3_ n4_ n5_ n6_ n7_ n8_;intro g7 a7 a9 b0 a8 a6 b1 HK HB
     refine hK.out _ _ ⟨(bkC a6.out 0).trans rfl,(bkC a6.out 1).trans rfl,(bkC a6.out 2).trans rfl,(bkC a6.out 3).trans rfl,(bkC a6.out 4).trans rfl⟩ (fun hHeld => ?_)
     clear hK K
     refine norm_ (a' := ?_) ?_ ?_
     rotate_left
     ·show Act.put _ (some 71) _ = _
      simp only [Act.put,sq_,i64_w,i32_w]
      rfl
     refine pQ 3 72 (bl_ 15 12) HT_ rfl ?_
     refine pQ 4 73 (bl_ 31 12) HT_ rfl ?_
     refine pQ 5 74 (bl_ 63 12) HT_ rfl ?_
     refine pQ 6 75 (bl_ 127 12) HT_ rfl ?_
     refine pQ 7 76 (bl_ 255 12) HT_ rfl ?_
     refine pQ 8 77 (bl_ 511 12) HT_ rfl ?_
     refine pQ 9 78 (bl_ 1023 12) HT_ rfl ?_
     refine one_ (i := 10) (N := none) (bl_ 2047 12) rfl rfl (one_of HT_.out (by kernel_rfl)) (by decide) (fun K hK => ?_)
     have U3 : w86.cell? ⟨d5,0,none⟩ = some (.slice none 0 0) := (bkC b1.out 0).trans rfl
     have S8 := bkF b1.out 0
     have N5 := b3.out
     have N6 := b8.out
     have U4 : w86.cell? ⟨d5,1,none⟩ = some (.slice none 0 0) := (bkC b1.out 1).trans rfl
     have S9 := bkF b1.out 1
     have N7 := b3.out
     have N8 := b8.out
     have U5 : w86.cell? ⟨d5,2,none⟩ = some (.slice none 0 0) := (bkC b1.out 2).trans rfl
     have T0 := bkF b1.out 2
     have N9 := b3.out
     have O0 := b8.out
     have U6 : w86.cell? ⟨d5,3,none⟩ = some (.slice none 0 0) := (bkC b1.out 3).trans rfl
     have T1 := bkF b1.out 3
     have O1 := b3.out
     have O2 := b8.out
     have U7 : w86.cell? ⟨d5,4,none⟩ = some (.bool g8) := (bkC b1.out 4).trans rfl
     have T2 := bkF b1.out 4
     have O3 := b3.out
     have O4 := b8.out
     refine skip_ (w1 := ?_) (by rfl) rfl ?_ ?_
     rotate_left
     ·go_simp
      rfl
     refine hK.out _ _ ⟨(c5 b3.out (hHeld.1)),(c5 b3.out (hHeld.2.1)),(c5 b3.out (hHeld.2.2.1)),(c5 b3.out (hHeld.2.2.2.1)),(c5 b3.out (hHeld.2.2.2.2))⟩ (fun hHeld => ?_)
     clear hK K
     refine pQ 11 5 (bl_ 4095 12) HT_ rfl ?_
     refine done_ (done_of HT_.out (by kernel_rfl)) ?_
     try go_wp2
     refine bodyPost_ret (results_ct rfl _ _ d5 120 #[.slice Ao4 b5.length co4,.slice Ao5 d2.length co5,.slice Ao6 b6.length co6,.slice Ao7 b7.length co7,.bool d4] (0,0) _ rfl (p5 b1.out) Try.underlying120 rfl (by kernel_rfl)) rfl ?_
     exact ⟨_,_,_,_,by first|rfl|(simp [errW_none,errW_some] <;> rfl)|(simp only [← i1];first|rfl|(simp [errW_none,errW_some] <;> rfl))|(simp [*,errW_none,errW_some] <;> rfl),by exact Kd.R_mono (rX5 a7.out b1.out) (fun _ hk => ⟨hk.1.1,⟨hk.1.2.2.1,hk.1.2.2.2⟩⟩),by exact Kd.R_mono (rX5 a9.out b1.out) (fun _ hk => hk.1),by exact Kd.R_mono (rX5 b0.out b1.out) (fun _ hk => ⟨hk.1.1,⟨hk.1.2.2.1,hk.1.2.2.2⟩⟩),by exact Kd.R_mono (rX5 a8.out b1.out) (fun _ hk => ⟨hk.1.1,⟨hk.1.2.2.1,hk.1.2.2.2⟩⟩),zb2 HB.out e2.out e7.out,zq2 HK.out g4.out g5.out⟩
end Go.Proofs.Ytbokjhdhpmmpfaa.Q
