-- Written by wip/tools/qprint.py (a program of this claim's author) by means of the kit's printer.
import Derived.Test.YtbokjhdhpmmpfaaQ0
import Derived.Test.YtbokjhdhpmmpfaaQ105
import Derived.Test.YtbokjhdhpmmpfaaQ107
import Derived.Test.YtbokjhdhpmmpfaaQ108
namespace Go.Proofs.Ytbokjhdhpmmpfaa.Q
open Go.RowKit Go.Proofs.YtbokjhdhpmmpfaaW.PrintWords Go.Proofs.YtbokjhdhpmmpfaaW.PrintLast Go.Proofs.YtbokjhdhpmmpfaaW.PrintMore
attribute [local go_sem] max2_int min2_int max_two min_two max_three min_three max_four min_four   -- for this text's walks alone
set_option linter.unusedVariables false
set_option linter.unusedSimpArgs false

/-! ### spec_runShapes: function 118 -/
def spec_runShapes.l0 : Nat → List (S75) → Int → List Int → List Bool → List Int → List Int → Bool → Option (List Int × List Bool × List Int × List Int × Bool × Int)
 | 0,_,_,_,_,_,_,_ => none
 | k + 1,x0,x5,i7,i8,i9,j0,j1 => if x5 < (x0.length : Int) then ((spec_copyShapes.f i7 i8 i9 j0 j1).bind fun j2 => (if 0 ≤ x5 then ((spec_stepShapes.f k j2.1 j2.2.1 j2.2.2.1 j2.2.2.2.1 j2.2.2.2.2 ((rd_T75 x0 x5).f0) ((rd_T75 x0 x5).f1)).bind fun e9 => (if e9.2.2.2.2.2 = true then (spec_runShapes.l0 k x0 (wrap64 (x5 + 1)) e9.1 e9.2.1 e9.2.2.1 e9.2.2.2.1 e9.2.2.2.2.1) else (some (i7,i8,i9,j0,j1,x5)))) else (none))) else (some (i7,i8,i9,j0,j1,(x0.length : Int)))
def spec_runShapes.f (k : Nat) (l0 : List (S75)) : Option (List Int × List Bool × List Int × List Int × Bool × Int) := (spec_newShapes.f k).bind fun g5 => (spec_runShapes.l0 k l0 0 g5.1 g5.2.1 g5.2.2.1 g5.2.2.2.1 g5.2.2.2.2)
set_option maxRecDepth 100000 in
theorem spec_runShapes.mono_l : ∀ k,(∀ y0 y1 y2 y3 y4 y5 y6,LeO (spec_runShapes.l0 k y0 y1 y2 y3 y4 y5 y6) (spec_runShapes.l0 (k + 1) y0 y1 y2 y3 y4 y5 y6))
 | 0 => fun _ _ _ _ _ _ _ r h => (by cases h)
 | k + 1 => by
  have ih0 := spec_runShapes.mono_l k
  ·intro y0 y1 y2 y3 y4 y5 y6
   unfold spec_runShapes.l0
   repeat' first
   | (with_reducible exact ih0 _ _ _ _ _ _ _)
   | (with_reducible exact spec_newShapes.mono _)
   | (with_reducible exact spec_stepShapes.mono _ _ _ _ _ _ _ _)
   | (with_reducible exact LeO.refl _)
   | (with_reducible exact LeO.none _)
   | (with_reducible refine LeO.ite ?_ ?_)
   | (with_reducible refine LeO.bind ?_ (fun _ => ?_))
   | exact ih0 _ _ _ _ _ _ _
   | exact spec_newShapes.mono _
   | exact spec_stepShapes.mono _ _ _ _ _ _ _ _
   | exact LeO.none _
   | refine LeO.ite ?_ ?_
   | refine LeO.bind ?_ (fun _ => ?_)
set_option maxRecDepth 100000 in
theorem spec_runShapes.mono : ∀ a0 k,LeO (spec_runShapes.f k a0) (spec_runShapes.f (k + 1) a0) := by
 intro a0 k
 have ih0 := spec_runShapes.mono_l k
 unfold spec_runShapes.f
 repeat' first
   | (with_reducible exact ih0 _ _ _ _ _ _ _)
   | (with_reducible exact spec_newShapes.mono _)
   | (with_reducible exact spec_stepShapes.mono _ _ _ _ _ _ _ _)
   | (with_reducible exact LeO.refl _)
   | (with_reducible exact LeO.none _)
   | (with_reducible refine LeO.ite ?_ ?_)
   | (with_reducible refine LeO.bind ?_ (fun _ => ?_))
   | exact ih0 _ _ _ _ _ _ _
   | exact spec_newShapes.mono _
   | exact spec_stepShapes.mono _ _ _ _ _ _ _ _
   | exact LeO.none _
   | refine LeO.ite ?_ ?_
   | refine LeO.bind ?_ (fun _ => ?_)
def spec_runShapes.T5 : Bool × List (List Nat × List Nat) := (true,[([],[]),([0],[0]),([],[]),([],[]),([2,3],[2,3]),([4],[4]),([1,5,1],[1,5]),([6],[6]),([7],[7]),([7],[7]),([],[]),([10,8,6,0,1,2,3,4,5,6,7,8,10],[8,10]),([9,11,0,1,2,3,4,5,6,7,8,9,10,11],[9])])
def spec_runShapes.B5 : List Nat := [0,1,0,0,12,28,63,127,255,255,0,1535,4095]
theorem spec_runShapes.tab5 : rtab .any (opsOf Try.f118 5) = spec_runShapes.T5 := by kernel_rfl
theorem spec_runShapes.bits5 : waitsOk spec_runShapes.T5.2 spec_runShapes.B5 = true := by kernel_rfl
set_option maxHeartbeats 8000000 in
set_option maxRecDepth 100000 in
theorem spec_runShapes.calls (k : Nat) (A0 : Option Addr) (c0 : Nat) (l0 : List (S75)) (r1 : List Int) (r2 : List Bool) (r3 : List Int) (r4 : List Int) (r5 : Bool) (r6 : Int) (w : World) (hr0 : Kd.C k75 w A0 l0.length l0) (hc0 : l0.length ≤ c0) (h : spec_runShapes.f k l0 = some (r1,r2,r3,r4,r5,r6)) :
  Calls Try.prog 118 #[.slice A0 l0.length c0] w fun e w' => ∃ v0_ v1_ v2_ v3_ : Value,e = .returned (.tuple #[.agg #[v0_,v1_,v2_,v3_,.bool r5],.int .i64 r6]) ∧ Kd.R (Kd.int .i64) 3 w' w.heap.size (fun k_ => some k_ ≠ (v2_ : Value).ownBlock ∧ some k_ ≠ (v3_ : Value).ownBlock) v0_ r1 ∧ Kd.R Kd.bool 4 w' w.heap.size (fun _ => True) v1_ r2 ∧ Kd.R (Kd.int .i64) 3 w' w.heap.size (fun k_ => some k_ ≠ (v0_ : Value).ownBlock ∧ some k_ ≠ (v3_ : Value).ownBlock) v2_ r3 ∧ Kd.R (Kd.int .i64) 3 w' w.heap.size (fun k_ => some k_ ≠ (v0_ : Value).ownBlock ∧ some k_ ≠ (v2_ : Value).ownBlock) v3_ r4 ∧ Below w.heap.size w w' := by
 have hu120 := Try.underlying120
 have hu75 := Try.underlying75
 have HR0 := As_ hr0
 have HC0 := As_ hc0
 clear hr0 hc0
 have HB := As_ (Below.refl w.heap.size w)
 have H : ((spec_newShapes.f k).bind fun g5 => (spec_runShapes.l0 k l0 0 g5.1 g5.2.1 g5.2.2.1 g5.2.2.2.1 g5.2.2.2.2)) = some (r1,r2,r3,r4,r5,r6) := h
 clear h
 replace H := obS H
 obtain ⟨⟨j7,j8,j9,l4,l5⟩,A20,H⟩ := H
 replace H : (spec_runShapes.l0 k l0 0 j7 j8 j9 l4 l5) = some (r1,r2,r3,r4,r5,r6) := H
 have A2 := As_ A20
 clear A20
 have H' := As_ H
 clear H
 go_enter Try.func118,Try.ntmps118
 go_wp2_with (first|((with_reducible refine gate_dst (N := 2) rfl ?_);refine box_event ?hg (N := 2) ?hd (cs := #[.slice none 0 0,.slice none 0 0,.slice none 0 0,.slice none 0 0,.bool false]) (t := 120) ?hr ?_;(case hd => rfl);(case hg => rfl);(case hr => go_simp <;> rfl);intro d6 hg w3 hbox hb;have n0_ := As_ (bwT (zb0 HB.out) hb);have n1_ := As_ (hbox);have n2_ := As_ ((by rw [hg];exact (bwZ (zb0 HB.out)) : w.heap.size ≤ d6));have n3_ := As_ ((by rw [hg];exact (bwZ (zb0 HB.out)) : w.heap.size ≤ d6));clear HB;revert n0_ n1_ n2_ n3_;intro HB a9 B2 d1;clear hb hbox hg)|((with_reducible refine gate_callee (f := 105) rfl ?_);refine goesL_ (some 8) rfl rfl Try.func105 (by kernel_rfl) rfl #[] rfl zM_ ?_;(with_reducible refine (spec_newShapes.calls k  j7 j8 j9 l4 l5 _ A2.out).mono ?_);rintro e w4 ⟨v825,v828,v831,v834,rfl,ho0,ho1,ho2,ho3,hb⟩;refine ⟨_,rfl,?_⟩;have n0_ := As_ (Kd.R_lower ho0 (bwZ (zb1 HB.out d1.out)));have n1_ := As_ (Kd.R_lower ho1 (bwZ (zb1 HB.out d1.out)));have n2_ := As_ (Kd.R_lower ho2 (bwZ (zb1 HB.out d1.out)));have n3_ := As_ (Kd.R_lower ho3 (bwZ (zb1 HB.out d1.out)));have n4_ := As_ (zkb a9.out hb);have n5_ := As_ (bwT (zb1 HB.out d1.out) hb);clear a9 HB;revert n0_ n1_ n2_ n3_ n4_ n5_;intro j3 j4 j5 j6 a9 HB)|((with_reducible refine gate_dst (N := 4) rfl ?_);refine box_event ?hg (N := 4) ?hd (cs := #[.slice none 0 0,.slice none 0 0,.slice none 0 0,.slice none 0 0,.bool false]) (t := 120) ?hr ?_;(case hd => rfl);(case hg => rfl);(case hr => go_simp <;> rfl);intro b4 hg w5 hbox hb;have n0_ := As_ (Kd.R_below (zR_ j3.out) hb);have n1_ := As_ (Kd.R_below (zR_ j4.out) hb);have n2_ := As_ (Kd.R_below (zR_ j5.out) hb);have n3_ := As_ (Kd.R_below (zR_ j6.out) hb);have n4_ := As_ (zkb a9.out hb);have n5_ := As_ (bwT (zb1 HB.out d1.out) hb);have n6_ := As_ (hbox);have n7_ := As_ ((by rw [hg];exact (bwZ (zb1 HB.out d1.out)) : w.heap.size ≤ b4));have n8_ := As_ ((by rw [hg];exact (bwZ (zb1 HB.out d1.out)) : w.heap.size ≤ b4));have n9_ := As_ ((by rw [hg];exact Nat.ne_of_lt (zkl a9.out) : d6 ≠ b4));have n10_ := As_ ((by rw [hg];exact Nat.ne_of_gt (zkl a9.out) : b4 ≠ d6));clear j3 j4 j5 j6 a9 HB;revert n0_ n1_ n2_ n3_ n4_ n5_ n6_ n7_ n8_ n9_ n10_;intro j3 j4 j5 j6 a9 HB a4 B3 d4 e8 g6;clear hb hbox hg;obtain ⟨Ao6,co6,eo6⟩ := Kd.R_slice j3.out;subst eo6;have E0 := g6.out;have E1 := e8.out;have z8 : w5.cell? ⟨b4,0,none⟩ = some (.slice none 0 0) := (bkC a4.out 0).trans rfl;have z9 : w5.cell? ⟨b4,1,none⟩ = some (.slice none 0 0) := (bkC a4.out 1).trans rfl;have A4 : w5.cell? ⟨b4,2,none⟩ = some (.slice none 0 0) := (bkC a4.out 2).trans rfl;have A5 : w5.cell? ⟨b4,3,none⟩ = some (.slice none 0 0) := (bkC a4.out 3).trans rfl;have A6 : w5.cell? ⟨b4,4,none⟩ = some (.bool false) := (bkC a4.out 4).trans rfl;have A7 := bkF a4.out 0;have A8 := bkF a4.out 1;have A9 := bkF a4.out 2;have B0 := bkF a4.out 3;have B1 := bkF a4.out 4;obtain ⟨Ao9,co9,eo9⟩ := Kd.R_slice j4.out;subst eo9;obtain ⟨Ao10,co10,eo10⟩ := Kd.R_slice j5.out;subst eo10;obtain ⟨Ao11,co11,eo11⟩ := Kd.R_slice j6.out;subst eo11))
 go_loopg [5] k (fun kq v5 w' => ∃ (d5 : Int) (e3 : Bool) (a6 : List Int) (b1 : List Bool) (a7 : List Int) (a8 : List Int) (b6 : Bool) (g7 : Value) (i6 : Value) (g8 : Value) (g9 : Value),v5 = .int .i64 d5 ∧ Aside0 (spec_runShapes.l0 kq l0 d5 a6 b1 a7 a8 b6 = some (r1,r2,r3,r4,r5,r6)) ∧ Aside0 (kq ≤ k) ∧ Aside0 (Kd.R (Kd.int .i64) 3 w' w.heap.size (fun k_ => some k_ ≠ (g8 : Value).ownBlock ∧ some k_ ≠ (g9 : Value).ownBlock) g7 a6) ∧ Aside0 (Kd.R Kd.bool 4 w' w.heap.size (fun _ => True) i6 b1) ∧ Aside0 (Kd.R (Kd.int .i64) 3 w' w.heap.size (fun k_ => some k_ ≠ (g7 : Value).ownBlock ∧ some k_ ≠ (g9 : Value).ownBlock) g8 a7) ∧ Aside0 (Kd.R (Kd.int .i64) 3 w' w.heap.size (fun k_ => some k_ ≠ (g7 : Value).ownBlock ∧ some k_ ≠ (g8 : Value).ownBlock) g9 a8) ∧ Aside0 (w'.heap[d6]? = some (.cells #[(.slice none 0 0),(.slice none 0 0),(.slice none 0 0),(.slice none 0 0),.bool e3] 120 (0,0))) ∧ Aside0 (w'.heap[b4]? = some (.cells #[g7,i6,g8,g9,.bool b6] 120 (0,0))) ∧ Aside0 (Below w.heap.size w w'))
 case atStart => exact ⟨(0),(false),(j7),(j8),(j9),(l4),(l5),(.slice Ao6 j7.length co6),(.slice Ao9 j8.length co9),(.slice Ao10 j9.length co10),(.slice Ao11 l4.length co11),zT_,H',⟨Nat.le_refl _⟩,⟨by exact Kd.R_mono (rX5 j3.out a4.out) (fun _ hk => ⟨hk.1.1,hk.1.2⟩)⟩,⟨by exact Kd.R_mono (rX5 j4.out a4.out) (fun _ hk => trivial)⟩,⟨by exact Kd.R_mono (rX5 j5.out a4.out) (fun _ hk => ⟨hk.1.1,hk.1.2⟩)⟩,⟨by exact Kd.R_mono (rX5 j6.out a4.out) (fun _ hk => ⟨hk.1.1,hk.1.2⟩)⟩,⟨f5 e8.out a9.out⟩,⟨p5 a4.out⟩,⟨zb2 HB.out d1.out d4.out⟩⟩
 case round =>
  clear H'
  obtain ⟨d5,e3,a6,b1,a7,a8,b6,g7,i6,g8,g9,rfl,HA,HK1,a1,a5,a2,a3,a9,a4,HB⟩ := hrel
  cases gk with
  | zero => exact absurd HA.out (fun h_ => (by cases h_))
  | succ k1 =>
   have H := HA.out
   clear HA
   simp only [spec_runShapes.l0] at H
   by_cases c12 : d5 < (l0.length : Int)
   rotate_left
   ·rw [if_neg c12] at H
    have l6 : decide (d5 < (l0.length : Int)) = false := deF c12
    clear c12
    simp only [Option.some.injEq,Prod.mk.injEq] at H
    obtain ⟨rfl,rfl,rfl,rfl,rfl,rfl⟩ := H
    have B4 := g6.out
    have B6 := e8.out
    have l8 : wr.cell? ⟨b4,0,none⟩ = some (g7) := (bkC a4.out 0).trans rfl
    have l9 : wr.cell? ⟨b4,1,none⟩ = some (i6) := (bkC a4.out 1).trans rfl
    have m0 : wr.cell? ⟨b4,2,none⟩ = some (g8) := (bkC a4.out 2).trans rfl
    have m1 : wr.cell? ⟨b4,3,none⟩ = some (g9) := (bkC a4.out 3).trans rfl
    have m2 : wr.cell? ⟨b4,4,none⟩ = some (.bool b6) := (bkC a4.out 4).trans rfl
    have m3 := bkF a4.out 0
    have m4 := bkF a4.out 1
    have m5 := bkF a4.out 2
    have m6 := bkF a4.out 3
    have m7 := bkF a4.out 4
    obtain ⟨Ao73,co73,eo73⟩ := Kd.R_slice a1.out
    subst eo73
    have m8 : wr.cell? ⟨d6,0,none⟩ = some (.slice none 0 0) := (bkC a9.out 0).trans rfl
    have m9 : wr.cell? ⟨d6,1,none⟩ = some (.slice none 0 0) := (bkC a9.out 1).trans rfl
    have n0 : wr.cell? ⟨d6,2,none⟩ = some (.slice none 0 0) := (bkC a9.out 2).trans rfl
    have n1 : wr.cell? ⟨d6,3,none⟩ = some (.slice none 0 0) := (bkC a9.out 3).trans rfl
    have n2 : wr.cell? ⟨d6,4,none⟩ = some (.bool e3) := (bkC a9.out 4).trans rfl
    have n3 := bkF a9.out 0
    have n4 := bkF a9.out 1
    have n5 := bkF a9.out 2
    have n6 := bkF a9.out 3
    have n7 := bkF a9.out 4
    obtain ⟨Ao75,co75,eo75⟩ := Kd.R_slice a5.out
    subst eo75
    obtain ⟨Ao76,co76,eo76⟩ := Kd.R_slice a2.out
    subst eo76
    obtain ⟨Ao77,co77,eo77⟩ := Kd.R_slice a3.out
    subst eo77
    go_wp2
    refine bodyPost_ret (results_ct rfl _ _ d6 120 #[.slice Ao73 a6.length co73,.slice Ao75 b1.length co75,.slice Ao76 a7.length co76,.slice Ao77 a8.length co77,.bool b6] (0,0) _ rfl (p5 a9.out) Try.underlying120 rfl (by kernel_rfl)) rfl ?_
    exact ⟨_,_,_,_,zE_,by exact Kd.R_mono (rX5 a1.out a9.out) (fun _ hk => ⟨hk.1.1,hk.1.2⟩),by exact Kd.R_mono (rX5 a5.out a9.out) (fun _ hk => trivial),by exact Kd.R_mono (rX5 a2.out a9.out) (fun _ hk => ⟨hk.1.1,hk.1.2⟩),by exact Kd.R_mono (rX5 a3.out a9.out) (fun _ hk => ⟨hk.1.1,hk.1.2⟩),zb2 HB.out d1.out d4.out⟩

   rw [if_pos c12] at H
   have l6 : decide (d5 < (l0.length : Int)) = true := deT c12
   clear c12
   replace H := obS H
   obtain ⟨⟨d9,e0,e1,e2,g4⟩,A130,H⟩ := H
   replace H : (if 0 ≤ d5 then ((spec_stepShapes.f k1 d9 e0 e1 e2 g4 ((rd_T75 l0 d5).f0) ((rd_T75 l0 d5).f1)).bind fun e9 => (if e9.2.2.2.2.2 = true then (spec_runShapes.l0 k1 l0 (wrap64 (d5 + 1)) e9.1 e9.2.1 e9.2.2.1 e9.2.2.2.1 e9.2.2.2.2.1) else (some (a6,b1,a7,a8,b6,d5)))) else (none)) = some (r1,r2,r3,r4,r5,r6) := H
   have A13 := As_ A130
   clear A130
   by_cases c14 : 0 ≤ d5
   rotate_left
   ·rw [if_neg c14] at H
    exact absurd H (by simp)
   rw [if_pos c14] at H
   have B7 : decide (0 ≤ d5) = true := deT c14
   clear c14
   replace H := obS H
   obtain ⟨⟨i2,i3,i4,i5,i1,l7⟩,A150,H⟩ := H
   replace H : (if l7 = true then (spec_runShapes.l0 k1 l0 (wrap64 (d5 + 1)) i2 i3 i4 i5 i1) else (some (a6,b1,a7,a8,b6,d5))) = some (r1,r2,r3,r4,r5,r6) := H
   have A15 := As_ A150
   clear A150
   by_cases c16 : l7 = true
   ·subst c16
    have H1 : (spec_runShapes.l0 k1 l0 (wrap64 (d5 + 1)) i2 i3 i4 i5 i1) = some (r1,r2,r3,r4,r5,r6) := by rw [if_pos rfl] at H;exact H
    clear H
    have H := H1
    clear H1
    have H' := As_ H
    clear H
    obtain ⟨Ao17,co17,eo17⟩ := Kd.R_slice a1.out
    subst eo17
    obtain ⟨Ao18,co18,eo18⟩ := Kd.R_slice a5.out
    subst eo18
    obtain ⟨Ao19,co19,eo19⟩ := Kd.R_slice a2.out
    subst eo19
    obtain ⟨Ao20,co20,eo20⟩ := Kd.R_slice a3.out
    subst eo20
    try go_wp2
    have n0_ := As_ (Kd.R_drew a1.out)
    have n1_ := As_ (Kd.R_drew a5.out)
    have n2_ := As_ (Kd.R_drew a2.out)
    have n3_ := As_ (Kd.R_drew a3.out)
    have n4_ := As_ (bkD a9.out)
    have n5_ := As_ (bkD a4.out)
    have n6_ := As_ (bwD HB.out)
    clear a1 a5 a2 a3 a9 a4 HB
    revert n0_ n1_ n2_ n3_ n4_ n5_ n6_;intro a1 a5 a2 a3 a9 a4 HB
    have p851 : 0 ≤ (d5 : Int) := odT zA_
    have q851 : d5 < (l0.length : Int) := odT zA_
    obtain ⟨ad851,e851,hx851_0,hx851_1⟩ := at_T75 HR0.out d5 p851 q851
    have hw851_1 := hx851_1
    have hw851_0 := hx851_0
    cases e851
    replace hx851_0 := bwC HB.out hx851_0
    replace hx851_1 := bwC HB.out hx851_1
    replace p851 := eq_true p851
    replace q851 := eq_true q851
    refine start_ (n := 13) (S := fun w' => w'.cell? ⟨b4,0,none⟩ = some (.slice Ao17 a6.length co17) ∧ w'.cell? ⟨b4,1,none⟩ = some (.slice Ao18 b1.length co18) ∧ w'.cell? ⟨b4,2,none⟩ = some (.slice Ao19 a7.length co19) ∧ w'.cell? ⟨b4,3,none⟩ = some (.slice Ao20 a8.length co20) ∧ w'.cell? ⟨b4,4,none⟩ = some (.bool b6) ∧ w'.cell? (ad851.add ((d5).toNat * 2)) = some (.int .i64 ((rd_T75 l0 d5).f0)) ∧ w'.cell? ⟨(ad851.add ((d5).toNat * 2)).block,(ad851.add ((d5).toNat * 2)).off + 1,none⟩ = some (.int .i64 ((rd_T75 l0 d5).f1))) (ds := []) (bl_ 0 13) (by kernel_rfl) rfl rfl ⟨(bkC a4.out 0).trans rfl,(bkC a4.out 1).trans rfl,(bkC a4.out 2).trans rfl,(bkC a4.out 3).trans rfl,(bkC a4.out 4).trans rfl,((HB.out.cell (bwL w _ hw851_0)).trans hw851_0),((HB.out.cell (bwL w _ hw851_1)).trans hw851_1)⟩ (fun hHeld => ?_);refine with_tabW spec_runShapes.tab5 spec_runShapes.bits5 (fun HT_ HW_ => ?_)
    generalize wr.drew = w21 at a1 a5 a2 a3 a9 a4 HB hx851_0 hx851_1 hHeld ⊢
    refine pQ 2 18 (bl_ 4 13) HT_ rfl ?_
    refine pQ 3 19 (bl_ 12 13) HT_ rfl ?_
    refine pQ 4 20 (bl_ 28 13) HT_ rfl ?_
    refine tP 0 16 (bl_ 29 13) ?_ HT_ HW_ rfl (.inl ⟨by rfl,?_⟩) hHeld ?_ ?_ ?_;rotate_left;(rintro w' ⟨s0,s1,s2,s3,s4,s5,s6⟩;go_simp;with_reducible rfl);rotate_left;(simp only [Act.put,sq_,i64_w,i32_w];rfl)
    refine tP 5 21 (bl_ 61 13) ?_ HT_ HW_ rfl (.inl ⟨by rfl,?_⟩) hHeld ?_ ?_ ?_;rotate_left;(rintro w' ⟨s0,s1,s2,s3,s4,s5,s6⟩;go_simp;with_reducible rfl);rotate_left;(simp only [Act.put,sq_,i64_w,i32_w];rfl)
    refine join_ (σ := Value × Value × Value × Value × Value × Value × Value × Value × Nat) 2 (bl_ 2047 13) (fun s_ => [(17,.agg #[s_.1,s_.2.1,s_.2.2.1,s_.2.2.2.1,.bool g4]),(22,.tuple #[.agg #[s_.2.2.2.2.1,s_.2.2.2.2.2.1,s_.2.2.2.2.2.2.1,s_.2.2.2.2.2.2.2.1,.bool i1],.bool true]),(6,.pointer (some ⟨s_.2.2.2.2.2.2.2.2,0,none⟩)),(15,.tuple #[.agg #[s_.2.2.2.2.1,s_.2.2.2.2.2.1,s_.2.2.2.2.2.2.1,s_.2.2.2.2.2.2.2.1,.bool i1],.bool true]),(23,.agg #[s_.2.2.2.2.1,s_.2.2.2.2.2.1,s_.2.2.2.2.2.2.1,s_.2.2.2.2.2.2.2.1,.bool i1]),(24,.bool true)]) (fun s_ w' => (w'.cell? ⟨b4,0,none⟩ = some (.slice Ao17 a6.length co17) ∧ w'.cell? ⟨b4,1,none⟩ = some (.slice Ao18 b1.length co18) ∧ w'.cell? ⟨b4,2,none⟩ = some (.slice Ao19 a7.length co19) ∧ w'.cell? ⟨b4,3,none⟩ = some (.slice Ao20 a8.length co20) ∧ w'.cell? ⟨b4,4,none⟩ = some (.bool b6) ∧ w'.cell? (ad851.add ((d5).toNat * 2)) = some (.int .i64 ((rd_T75 l0 d5).f0)) ∧ w'.cell? ⟨(ad851.add ((d5).toNat * 2)).block,(ad851.add ((d5).toNat * 2)).off + 1,none⟩ = some (.int .i64 ((rd_T75 l0 d5).f1))) ∧ (Kd.R (Kd.int .i64) 3 w' w.heap.size (fun k_ => some k_ ≠ (s_.2.2.2.2.2.2.1 : Value).ownBlock ∧ some k_ ≠ (s_.2.2.2.2.2.2.2.1 : Value).ownBlock ∧ some k_ ≠ (.slice Ao17 a6.length co17 : Value).ownBlock ∧ some k_ ≠ (.slice Ao19 a7.length co19 : Value).ownBlock ∧ some k_ ≠ (.slice Ao20 a8.length co20 : Value).ownBlock) s_.2.2.2.2.1 i2) ∧ (Kd.R Kd.bool 4 w' w.heap.size (fun k_ => some k_ ≠ (.slice Ao18 b1.length co18 : Value).ownBlock) s_.2.2.2.2.2.1 i3) ∧ (Kd.R (Kd.int .i64) 3 w' w.heap.size (fun k_ => some k_ ≠ (s_.2.2.2.2.1 : Value).ownBlock ∧ some k_ ≠ (s_.2.2.2.2.2.2.2.1 : Value).ownBlock ∧ some k_ ≠ (.slice Ao17 a6.length co17 : Value).ownBlock ∧ some k_ ≠ (.slice Ao19 a7.length co19 : Value).ownBlock ∧ some k_ ≠ (.slice Ao20 a8.length co20 : Value).ownBlock) s_.2.2.2.2.2.2.1 i4) ∧ (Kd.R (Kd.int .i64) 3 w' w.heap.size (fun k_ => some k_ ≠ (s_.2.2.2.2.1 : Value).ownBlock ∧ some k_ ≠ (s_.2.2.2.2.2.2.1 : Value).ownBlock ∧ some k_ ≠ (.slice Ao17 a6.length co17 : Value).ownBlock ∧ some k_ ≠ (.slice Ao19 a7.length co19 : Value).ownBlock ∧ some k_ ≠ (.slice Ao20 a8.length co20 : Value).ownBlock) s_.2.2.2.2.2.2.2.1 i5) ∧ (Kd.R (Kd.int .i64) 3 w' w.heap.size (fun k_ => some k_ ≠ (s_.2.2.2.2.1 : Value).ownBlock ∧ some k_ ≠ (s_.2.2.2.2.2.2.1 : Value).ownBlock ∧ some k_ ≠ (s_.2.2.2.2.2.2.2.1 : Value).ownBlock ∧ some k_ ≠ (.slice Ao19 a7.length co19 : Value).ownBlock ∧ some k_ ≠ (.slice Ao20 a8.length co20 : Value).ownBlock) (.slice Ao17 a6.length co17) a6) ∧ (Kd.R Kd.bool 4 w' w.heap.size (fun k_ => some k_ ≠ (s_.2.2.2.2.2.1 : Value).ownBlock) (.slice Ao18 b1.length co18) b1) ∧ (Kd.R (Kd.int .i64) 3 w' w.heap.size (fun k_ => some k_ ≠ (s_.2.2.2.2.1 : Value).ownBlock ∧ some k_ ≠ (s_.2.2.2.2.2.2.1 : Value).ownBlock ∧ some k_ ≠ (s_.2.2.2.2.2.2.2.1 : Value).ownBlock ∧ some k_ ≠ (.slice Ao17 a6.length co17 : Value).ownBlock ∧ some k_ ≠ (.slice Ao20 a8.length co20 : Value).ownBlock) (.slice Ao19 a7.length co19) a7) ∧ (Kd.R (Kd.int .i64) 3 w' w.heap.size (fun k_ => some k_ ≠ (s_.2.2.2.2.1 : Value).ownBlock ∧ some k_ ≠ (s_.2.2.2.2.2.2.1 : Value).ownBlock ∧ some k_ ≠ (s_.2.2.2.2.2.2.2.1 : Value).ownBlock ∧ some k_ ≠ (.slice Ao17 a6.length co17 : Value).ownBlock ∧ some k_ ≠ (.slice Ao19 a7.length co19 : Value).ownBlock) (.slice Ao20 a8.length co20) a8) ∧ (w'.heap[d6]? = some (.cells #[.slice none 0 0,.slice none 0 0,.slice none 0 0,.slice none 0 0,.bool e3] 120 (0,0))) ∧ (w'.heap[b4]? = some (.cells #[.slice Ao17 a6.length co17,.slice Ao18 b1.length co18,.slice Ao19 a7.length co19,.slice Ao20 a8.length co20,.bool b6] 120 (0,0))) ∧ (w'.heap[s_.2.2.2.2.2.2.2.2]? = some (.cells #[.slice none 0 0,.slice none 0 0,.slice none 0 0,.slice none 0 0,.bool false] 120 (0,0))) ∧ (w.heap.size ≤ s_.2.2.2.2.2.2.2.2) ∧ (w.heap.size ≤ s_.2.2.2.2.2.2.2.2) ∧ (d6 ≠ s_.2.2.2.2.2.2.2.2) ∧ (s_.2.2.2.2.2.2.2.2 ≠ d6) ∧ (b4 ≠ s_.2.2.2.2.2.2.2.2) ∧ (s_.2.2.2.2.2.2.2.2 ≠ b4) ∧ (Below w.heap.size w w')) ?_ ?_
    rotate_left
    ·intro hCont
     refine two_ (i := 1) (j := 10) (Ni := some 17) (Nj := some 6) (bl_ 63 13) (bl_ 1085 13) rfl rfl rfl rfl (two_of HT_.out (by kernel_rfl)) (by decide) (by decide) (fun K hK => ?_) (fun K hK => ?_)
     ·skip
      refine goes_ Try.func108 (by kernel_rfl) rfl #[.agg #[.slice Ao17 a6.length co17,.slice Ao18 b1.length co18,.slice Ao19 a7.length co19,.slice Ao20 a8.length co20,.bool b6]] (by rfl) rfl rfl zM_ ?_
      with_reducible refine (spec_copyShapes.calls _ _ a6 _ _ b1 _ _ a7 _ _ a8 b6 d9 e0 e1 e2 g4 _ ?side1 ?side2 ?side3 ?side4 ?side5 ?side6 ?side7 ?side8 A13.out).mono ?_
      (case side1 => exact zC_ (Kd.R_reads' a1.out).2.2)
      (case side2 => exact (Kd.R_reads' a1.out).2.1)
      (case side3 => exact zC_ (Kd.R_reads' a5.out).2.2)
      (case side4 => exact (Kd.R_reads' a5.out).2.1)
      (case side5 => exact zC_ (Kd.R_reads' a2.out).2.2)
      (case side6 => exact (Kd.R_reads' a2.out).2.1)
      (case side7 => exact zC_ (Kd.R_reads' a3.out).2.2)
      (case side8 => exact (Kd.R_reads' a3.out).2.1)
      rintro e w22 ⟨v839,v842,v845,v848,rfl,ho0,ho1,ho2,ho3,hb⟩
      refine ⟨_,rfl,?_⟩
      have n0_ := As_ (Kd.R_mono (Kd.R_told (Kd.R_told (Kd.R_told (Kd.R_old (zR_ a1.out) hb) (Kd.R_base ho0)) (Kd.R_base ho2)) (Kd.R_base ho3)) (fun _ h_ => h_.1))
      have n1_ := As_ (Kd.R_elder' (zR_ a5.out) (Kd.R_base ho1) hb)
      have n2_ := As_ (Kd.R_mono (Kd.R_told (Kd.R_told (Kd.R_told (Kd.R_old (zR_ a2.out) hb) (Kd.R_base ho0)) (Kd.R_base ho2)) (Kd.R_base ho3)) (fun _ h_ => h_.1))
      have n3_ := As_ (Kd.R_mono (Kd.R_told (Kd.R_told (Kd.R_told (Kd.R_old (zR_ a3.out) hb) (Kd.R_base ho0)) (Kd.R_base ho2)) (Kd.R_base ho3)) (fun _ h_ => h_.1))
      have n4_ := As_ (Kd.R_lower (Kd.R_new' (Kd.R_new' (Kd.R_new' ho0 (Kd.R_lt (zR_ a1.out))) (Kd.R_lt (zR_ a2.out))) (Kd.R_lt (zR_ a3.out))) (bwZ (zb2 HB.out d1.out d4.out)))
      have n5_ := As_ (Kd.R_lower (Kd.R_new' ho1 (Kd.R_lt (zR_ a5.out))) (bwZ (zb2 HB.out d1.out d4.out)))
      have n6_ := As_ (Kd.R_lower (Kd.R_new' (Kd.R_new' (Kd.R_new' ho2 (Kd.R_lt (zR_ a1.out))) (Kd.R_lt (zR_ a2.out))) (Kd.R_lt (zR_ a3.out))) (bwZ (zb2 HB.out d1.out d4.out)))
      have n7_ := As_ (Kd.R_lower (Kd.R_new' (Kd.R_new' (Kd.R_new' ho3 (Kd.R_lt (zR_ a1.out))) (Kd.R_lt (zR_ a2.out))) (Kd.R_lt (zR_ a3.out))) (bwZ (zb2 HB.out d1.out d4.out)))
      have n8_ := As_ (zkb a9.out hb)
      have n9_ := As_ (zkb a4.out hb)
      have n10_ := As_ (bwT (zb2 HB.out d1.out d4.out) hb)
      clear a1 a5 a2 a3 a9 a4 HB
      revert n0_ n1_ n2_ n3_ n4_ n5_ n6_ n7_ n8_ n9_ n10_;intro a1 a5 a2 a3 b7 b0 b8 b9 a9 a4 HB
      obtain ⟨Ao23,co23,eo23⟩ := Kd.R_slice b7.out
      (first|subst eo23|(injection eo23 with f1_ f2_ f3_;have f4_ := f1_.symm;have f5_ := f3_.symm;clear f1_ f2_ f3_;subst f4_;subst f5_))
      obtain ⟨Ao24,co24,eo24⟩ := Kd.R_slice b0.out
      (first|subst eo24|(injection eo24 with f1_ f2_ f3_;have f4_ := f1_.symm;have f5_ := f3_.symm;clear f1_ f2_ f3_;subst f4_;subst f5_))
      obtain ⟨Ao25,co25,eo25⟩ := Kd.R_slice b8.out
      (first|subst eo25|(injection eo25 with f1_ f2_ f3_;have f4_ := f1_.symm;have f5_ := f3_.symm;clear f1_ f2_ f3_;subst f4_;subst f5_))
      obtain ⟨Ao26,co26,eo26⟩ := Kd.R_slice b9.out
      (first|subst eo26|(injection eo26 with f1_ f2_ f3_;have f4_ := f1_.symm;have f5_ := f3_.symm;clear f1_ f2_ f3_;subst f4_;subst f5_))
      refine hK.out _ _ ⟨(bkC a4.out 0).trans rfl,(bkC a4.out 1).trans rfl,(bkC a4.out 2).trans rfl,(bkC a4.out 3).trans rfl,(bkC a4.out 4).trans rfl,((HB.out.cell (bwL w _ hw851_0)).trans hw851_0),((HB.out.cell (bwL w _ hw851_1)).trans hw851_1)⟩ (fun hHeld => ?_)
      clear hK K
      refine norm_ (a' := ?_) ?_ ?_
      rotate_left
      ·show Act.put _ (some 17) _ = _
       simp only [Act.put,sq_,i64_w,i32_w]
       rfl
      refine two_ (i := 6) (j := 10) (Ni := some 22) (Nj := some 6) (bl_ 127 13) (bl_ 1087 13) rfl rfl rfl rfl (two_of HT_.out (by kernel_rfl)) (by decide) (by decide) (fun K hK => ?_) (fun K hK => ?_)
      ·skip
       refine goes_ Try.func107 (by kernel_rfl) rfl #[.agg #[.slice Ao23 d9.length co23,.slice Ao24 e0.length co24,.slice Ao25 e1.length co25,.slice Ao26 e2.length co26,.bool g4],.agg #[.int .i64 ((rd_T75 l0 d5).f0),.int .i64 ((rd_T75 l0 d5).f1)]] (by rfl) rfl rfl zM_ ?_
       with_reducible refine (spec_stepShapes.calls k1 (fun k_ => some k_ = (.slice Ao23 d9.length co23 : Value).ownBlock) (.slice Ao23 d9.length co23) d9 (fun k_ => some k_ = (.slice Ao24 e0.length co24 : Value).ownBlock) (.slice Ao24 e0.length co24) e0 (fun k_ => some k_ = (.slice Ao25 e1.length co25 : Value).ownBlock) (.slice Ao25 e1.length co25) e1 (fun k_ => some k_ = (.slice Ao26 e2.length co26 : Value).ownBlock) (.slice Ao26 e2.length co26) e2 g4 ((rd_T75 l0 d5).f0) ((rd_T75 l0 d5).f1) i2 i3 i4 i5 i1 true w _ ?side1 ?side2 ?side3 ?side4 ?side5 ?side6 ?side7 ?side8 ?side9 ?side10 ?side11 A15.out).mono ?_
       (case side1 => exact zb2 HB.out d1.out d4.out)
       (case side2 => exact Kd.R_tight rfl b7.out)
       (case side3 => exact fun k_ e_ => (b7.out.1 k_ e_.symm).1.1.1.1)
       (case side4 => exact fun k_ e_ => (b7.out.1 k_ e_.symm).1.1.1.2)
       (case side5 => exact Kd.R_tight rfl b0.out)
       (case side6 => exact Kd.R_tight rfl b8.out)
       (case side7 => exact fun k_ e_ => (b8.out.1 k_ e_.symm).1.1.1.1)
       (case side8 => exact fun k_ e_ => (b8.out.1 k_ e_.symm).1.1.1.2)
       (case side9 => exact Kd.R_tight rfl b9.out)
       (case side10 => exact fun k_ e_ => (b9.out.1 k_ e_.symm).1.1.1.1)
       (case side11 => exact fun k_ e_ => (b9.out.1 k_ e_.symm).1.1.1.2)
       rintro e w27 ⟨v853,v856,v859,v862,rfl,ho0,ho1,ho2,ho3,hb,hkp⟩
       refine ⟨_,rfl,?_⟩
       have n0_ := As_ (Kd.R_mono (ok' := fun k_ => some k_ ≠ (.slice Ao19 a7.length co19 : Value).ownBlock ∧ some k_ ≠ (.slice Ao20 a8.length co20 : Value).ownBlock ∧ some k_ ≠ (v853 : Value).ownBlock ∧ some k_ ≠ (v859 : Value).ownBlock ∧ some k_ ≠ (v862 : Value).ownBlock) (Kd.R_keptB (rA a1.out b0.out) hkp (fun _ hk_ => no4 ⟨hk_.1.1.1.2,hk_.2,hk_.1.1.2,hk_.1.2⟩)) (fun k_ hk_ => ⟨hk_.1.1.1.1.1.1,hk_.1.1.1.1.1.2,nl (ho0.1 k_) hk_.2,nl (ho2.1 k_) hk_.2,nl (ho3.1 k_) hk_.2⟩))
       have n1_ := As_ (Kd.R_mono (ok' := fun k_ => some k_ ≠ (v856 : Value).ownBlock) (Kd.R_keptB (rA (rA (rA a5.out b7.out) b8.out) b9.out) hkp (fun _ hk_ => no4 ⟨hk_.1.1.2,hk_.1.1.1.2,hk_.1.2,hk_.2⟩)) (fun k_ hk_ => nl' (ho1.1 k_) hk_.2))
       have n2_ := As_ (Kd.R_mono (ok' := fun k_ => some k_ ≠ (.slice Ao17 a6.length co17 : Value).ownBlock ∧ some k_ ≠ (.slice Ao20 a8.length co20 : Value).ownBlock ∧ some k_ ≠ (v853 : Value).ownBlock ∧ some k_ ≠ (v859 : Value).ownBlock ∧ some k_ ≠ (v862 : Value).ownBlock) (Kd.R_keptB (rA a2.out b0.out) hkp (fun _ hk_ => no4 ⟨hk_.1.1.1.2,hk_.2,hk_.1.1.2,hk_.1.2⟩)) (fun k_ hk_ => ⟨hk_.1.1.1.1.1.1,hk_.1.1.1.1.1.2,nl (ho0.1 k_) hk_.2,nl (ho2.1 k_) hk_.2,nl (ho3.1 k_) hk_.2⟩))
       have n3_ := As_ (Kd.R_mono (ok' := fun k_ => some k_ ≠ (.slice Ao17 a6.length co17 : Value).ownBlock ∧ some k_ ≠ (.slice Ao19 a7.length co19 : Value).ownBlock ∧ some k_ ≠ (v853 : Value).ownBlock ∧ some k_ ≠ (v859 : Value).ownBlock ∧ some k_ ≠ (v862 : Value).ownBlock) (Kd.R_keptB (rA a3.out b0.out) hkp (fun _ hk_ => no4 ⟨hk_.1.1.1.2,hk_.2,hk_.1.1.2,hk_.1.2⟩)) (fun k_ hk_ => ⟨hk_.1.1.1.1.1.1,hk_.1.1.1.1.1.2,nl (ho0.1 k_) hk_.2,nl (ho2.1 k_) hk_.2,nl (ho3.1 k_) hk_.2⟩))
       have n4_ := As_ (blk_kept (zk_ a9.out) hkp (no4 ⟨rne b7.out a9.out,rne b0.out a9.out,rne b8.out a9.out,rne b9.out a9.out⟩))
       have n5_ := As_ (blk_kept (zk_ a4.out) hkp (no4 ⟨rne b7.out a4.out,rne b0.out a4.out,rne b8.out a4.out,rne b9.out a4.out⟩))
       have n6_ := As_ (Kd.R_mono (ok' := fun k_ => some k_ ≠ (v859 : Value).ownBlock ∧ some k_ ≠ (v862 : Value).ownBlock ∧ some k_ ≠ (.slice Ao17 a6.length co17 : Value).ownBlock ∧ some k_ ≠ (.slice Ao19 a7.length co19 : Value).ownBlock ∧ some k_ ≠ (.slice Ao20 a8.length co20 : Value).ownBlock) ho0 (fun k_ hk_ => ⟨hk_.2.1,hk_.2.2,aw4 (rA a1.out b0.out).1 (Kd.R_lt (zR_ a1.out)) (fun _ h => ⟨h.1.1.1.2,h.2,h.1.1.2,h.1.2⟩) hk_.1,aw4 (rA a2.out b0.out).1 (Kd.R_lt (zR_ a2.out)) (fun _ h => ⟨h.1.1.1.2,h.2,h.1.1.2,h.1.2⟩) hk_.1,aw4 (rA a3.out b0.out).1 (Kd.R_lt (zR_ a3.out)) (fun _ h => ⟨h.1.1.1.2,h.2,h.1.1.2,h.1.2⟩) hk_.1⟩))
       have n7_ := As_ (Kd.R_mono (ok' := fun k_ => some k_ ≠ (.slice Ao18 b1.length co18 : Value).ownBlock) ho1 (fun k_ hk_ => aw4 (rA (rA (rA a5.out b7.out) b8.out) b9.out).1 (Kd.R_lt (zR_ a5.out)) (fun _ h => ⟨h.1.1.2,h.1.1.1.2,h.1.2,h.2⟩) hk_))
       have n8_ := As_ (Kd.R_mono (ok' := fun k_ => some k_ ≠ (v853 : Value).ownBlock ∧ some k_ ≠ (v862 : Value).ownBlock ∧ some k_ ≠ (.slice Ao17 a6.length co17 : Value).ownBlock ∧ some k_ ≠ (.slice Ao19 a7.length co19 : Value).ownBlock ∧ some k_ ≠ (.slice Ao20 a8.length co20 : Value).ownBlock) ho2 (fun k_ hk_ => ⟨hk_.2.1,hk_.2.2,aw4 (rA a1.out b0.out).1 (Kd.R_lt (zR_ a1.out)) (fun _ h => ⟨h.1.1.1.2,h.2,h.1.1.2,h.1.2⟩) hk_.1,aw4 (rA a2.out b0.out).1 (Kd.R_lt (zR_ a2.out)) (fun _ h => ⟨h.1.1.1.2,h.2,h.1.1.2,h.1.2⟩) hk_.1,aw4 (rA a3.out b0.out).1 (Kd.R_lt (zR_ a3.out)) (fun _ h => ⟨h.1.1.1.2,h.2,h.1.1.2,h.1.2⟩) hk_.1⟩))
       have n9_ := As_ (Kd.R_mono (ok' := fun k_ => some k_ ≠ (v853 : Value).ownBlock ∧ some k_ ≠ (v859 : Value).ownBlock ∧ some k_ ≠ (.slice Ao17 a6.length co17 : Value).ownBlock ∧ some k_ ≠ (.slice Ao19 a7.length co19 : Value).ownBlock ∧ some k_ ≠ (.slice Ao20 a8.length co20 : Value).ownBlock) ho3 (fun k_ hk_ => ⟨hk_.2.1,hk_.2.2,aw4 (rA a1.out b0.out).1 (Kd.R_lt (zR_ a1.out)) (fun _ h => ⟨h.1.1.1.2,h.2,h.1.1.2,h.1.2⟩) hk_.1,aw4 (rA a2.out b0.out).1 (Kd.R_lt (zR_ a2.out)) (fun _ h => ⟨h.1.1.1.2,h.2,h.1.1.2,h.1.2⟩) hk_.1,aw4 (rA a3.out b0.out).1 (Kd.R_lt (zR_ a3.out)) (fun _ h => ⟨h.1.1.1.2,h.2,h.1.1.2,h.1.2⟩) hk_.1⟩))
       have n10_ := As_ (hb)
       clear a1 a5 a2 a3 a9 a4 HB b7 b0 b8 b9
       revert n0_ n1_ n2_ n3_ n4_ n5_ n6_ n7_ n8_ n9_ n10_;intro a1 a5 a2 a3 a9 a4 e4 e5 e6 e7 HB
       refine hK.out _ _ ⟨(bkC a4.out 0).trans rfl,(bkC a4.out 1).trans rfl,(bkC a4.out 2).trans rfl,(bkC a4.out 3).trans rfl,(bkC a4.out 4).trans rfl,((HB.out.cell (bwL w _ hw851_0)).trans hw851_0),((HB.out.cell (bwL w _ hw851_1)).trans hw851_1)⟩ (fun hHeld => ?_)
       clear hK K
       refine norm_ (a' := ?_) ?_ ?_
       rotate_left
       ·show Act.put _ (some 22) _ = _
        simp only [Act.put,sq_,i64_w,i32_w]
        rfl
       refine pQ 7 15 (bl_ 255 13) HT_ rfl ?_
       refine pQ 8 23 (bl_ 511 13) HT_ rfl ?_
       refine pQ 9 24 (bl_ 1023 13) HT_ rfl ?_
       refine one_ (i := 10) (N := some 6) (bl_ 2047 13) rfl rfl (one_of HT_.out (by kernel_rfl)) (by decide) (fun K hK => ?_)
       refine box_step ?hg (N := 6) ?hd (cs := #[.slice none 0 0,.slice none 0 0,.slice none 0 0,.slice none 0 0,.bool false]) (t := 120) ?hr ?_;(case hd => rfl);(case hg => rfl);(case hr => go_simp <;> rfl)
       intro b5 hg w28 hbox hb
       have n0_ := As_ (Kd.R_below (zR_ a1.out) hb)
       have n1_ := As_ (Kd.R_below (zR_ a5.out) hb)
       have n2_ := As_ (Kd.R_below (zR_ a2.out) hb)
       have n3_ := As_ (Kd.R_below (zR_ a3.out) hb)
       have n4_ := As_ (Kd.R_below (zR_ e4.out) hb)
       have n5_ := As_ (Kd.R_below (zR_ e5.out) hb)
       have n6_ := As_ (Kd.R_below (zR_ e6.out) hb)
       have n7_ := As_ (Kd.R_below (zR_ e7.out) hb)
       have n8_ := As_ (zkb a9.out hb)
       have n9_ := As_ (zkb a4.out hb)
       have n10_ := As_ (bwT (zb2 HB.out d1.out d4.out) hb)
       have n11_ := As_ (hbox)
       have n12_ := As_ ((by rw [hg];exact (bwZ (zb2 HB.out d1.out d4.out)) : w.heap.size ≤ b5))
       have n13_ := As_ ((by rw [hg];exact (bwZ (zb2 HB.out d1.out d4.out)) : w.heap.size ≤ b5))
       have n14_ := As_ ((by rw [hg];exact Nat.ne_of_lt (zkl a9.out) : d6 ≠ b5))
       have n15_ := As_ ((by rw [hg];exact Nat.ne_of_gt (zkl a9.out) : b5 ≠ d6))
       have n16_ := As_ ((by rw [hg];exact Nat.ne_of_lt (zkl a4.out) : b4 ≠ b5))
       have n17_ := As_ ((by rw [hg];exact Nat.ne_of_gt (zkl a4.out) : b5 ≠ b4))
       clear a1 a5 a2 a3 e4 e5 e6 e7 a9 a4 HB
       revert n0_ n1_ n2_ n3_ n4_ n5_ n6_ n7_ n8_ n9_ n10_ n11_ n12_ n13_ n14_ n15_ n16_ n17_;intro a1 a5 a2 a3 e4 e5 e6 e7 a9 a4 HB b3 d8 d7 d0 d2 b2 d3
       clear hb hbox hg
       refine hK.out _ _ ⟨(bkC a4.out 0).trans rfl,(bkC a4.out 1).trans rfl,(bkC a4.out 2).trans rfl,(bkC a4.out 3).trans rfl,(bkC a4.out 4).trans rfl,((HB.out.cell (bwL w _ hw851_0)).trans hw851_0),((HB.out.cell (bwL w _ hw851_1)).trans hw851_1)⟩ (fun hHeld => ?_)
       clear hK K
       refine norm_ (a' := ?_) ?_ ?_
       rotate_left
       ·show Act.put _ (some 6) _ = _
        simp only [Act.put,sq_,i64_w,i32_w]
        rfl
       exact norm_ (by simp only [putAll,Act.put,List.setIfInBounds_toArray,List.set_cons_zero,List.set_cons_succ]) (hCont (.slice Ao23 d9.length co23,.slice Ao24 e0.length co24,.slice Ao25 e1.length co25,.slice Ao26 e2.length co26,v853,v856,v859,v862,b5) _ ⟨hHeld,(zR_ e4.out),(zR_ e5.out),(zR_ e6.out),(zR_ e7.out),(by exact Kd.R_mono a1.out (fun _ hk => ⟨hk.2.2.1,⟨hk.2.2.2.1,⟨hk.2.2.2.2,⟨hk.1,hk.2.1⟩⟩⟩⟩)),(zR_ a5.out),(by exact Kd.R_mono a2.out (fun _ hk => ⟨hk.2.2.1,⟨hk.2.2.2.1,⟨hk.2.2.2.2,⟨hk.1,hk.2.1⟩⟩⟩⟩)),(by exact Kd.R_mono a3.out (fun _ hk => ⟨hk.2.2.1,⟨hk.2.2.2.1,⟨hk.2.2.2.2,⟨hk.1,hk.2.1⟩⟩⟩⟩)),(zk_ a9.out),(zk_ a4.out),(zk_ b3.out),d8.out,d7.out,d0.out,d2.out,b2.out,d3.out,(zb3 HB.out d1.out d4.out d7.out)⟩)
      ·skip
       refine box_step ?hg (N := 6) ?hd (cs := #[.slice none 0 0,.slice none 0 0,.slice none 0 0,.slice none 0 0,.bool false]) (t := 120) ?hr ?_;(case hd => rfl);(case hg => rfl);(case hr => go_simp <;> rfl)
       intro b5 hg w23 hbox hb
       have n0_ := As_ (Kd.R_below (zR_ a1.out) hb)
       have n1_ := As_ (Kd.R_below (zR_ a5.out) hb)
       have n2_ := As_ (Kd.R_below (zR_ a2.out) hb)
       have n3_ := As_ (Kd.R_below (zR_ a3.out) hb)
       have n4_ := As_ (Kd.R_below (zR_ b7.out) hb)
       have n5_ := As_ (Kd.R_below (zR_ b0.out) hb)
       have n6_ := As_ (Kd.R_below (zR_ b8.out) hb)
       have n7_ := As_ (Kd.R_below (zR_ b9.out) hb)
       have n8_ := As_ (zkb a9.out hb)
       have n9_ := As_ (zkb a4.out hb)
       have n10_ := As_ (bwT (zb2 HB.out d1.out d4.out) hb)
       have n11_ := As_ (hbox)
       have n12_ := As_ ((by rw [hg];exact (bwZ (zb2 HB.out d1.out d4.out)) : w.heap.size ≤ b5))
       have n13_ := As_ ((by rw [hg];exact (bwZ (zb2 HB.out d1.out d4.out)) : w.heap.size ≤ b5))
       have n14_ := As_ ((by rw [hg];exact Nat.ne_of_lt (zkl a9.out) : d6 ≠ b5))
       have n15_ := As_ ((by rw [hg];exact Nat.ne_of_gt (zkl a9.out) : b5 ≠ d6))
       have n16_ := As_ ((by rw [hg];exact Nat.ne_of_lt (zkl a4.out) : b4 ≠ b5))
       have n17_ := As_ ((by rw [hg];exact Nat.ne_of_gt (zkl a4.out) : b5 ≠ b4))
       clear a1 a5 a2 a3 b7 b0 b8 b9 a9 a4 HB
       revert n0_ n1_ n2_ n3_ n4_ n5_ n6_ n7_ n8_ n9_ n10_ n11_ n12_ n13_ n14_ n15_ n16_ n17_;intro a1 a5 a2 a3 b7 b0 b8 b9 a9 a4 HB b3 d8 d7 d0 d2 b2 d3
       clear hb hbox hg
       obtain ⟨Ao24,co24,eo24⟩ := Kd.R_slice b7.out
       (first|subst eo24|(injection eo24 with f1_ f2_ f3_;have f4_ := f1_.symm;have f5_ := f3_.symm;clear f1_ f2_ f3_;subst f4_;subst f5_))
       obtain ⟨Ao25,co25,eo25⟩ := Kd.R_slice b0.out
       (first|subst eo25|(injection eo25 with f1_ f2_ f3_;have f4_ := f1_.symm;have f5_ := f3_.symm;clear f1_ f2_ f3_;subst f4_;subst f5_))
       obtain ⟨Ao26,co26,eo26⟩ := Kd.R_slice b8.out
       (first|subst eo26|(injection eo26 with f1_ f2_ f3_;have f4_ := f1_.symm;have f5_ := f3_.symm;clear f1_ f2_ f3_;subst f4_;subst f5_))
       obtain ⟨Ao27,co27,eo27⟩ := Kd.R_slice b9.out
       (first|subst eo27|(injection eo27 with f1_ f2_ f3_;have f4_ := f1_.symm;have f5_ := f3_.symm;clear f1_ f2_ f3_;subst f4_;subst f5_))
       refine hK.out _ _ ⟨(bkC a4.out 0).trans rfl,(bkC a4.out 1).trans rfl,(bkC a4.out 2).trans rfl,(bkC a4.out 3).trans rfl,(bkC a4.out 4).trans rfl,((HB.out.cell (bwL w _ hw851_0)).trans hw851_0),((HB.out.cell (bwL w _ hw851_1)).trans hw851_1)⟩ (fun hHeld => ?_)
       clear hK K
       refine norm_ (a' := ?_) ?_ ?_
       rotate_left
       ·show Act.put _ (some 6) _ = _
        simp only [Act.put,sq_,i64_w,i32_w]
        rfl
       refine one_ (i := 6) (N := some 22) (bl_ 1151 13) rfl rfl (one_of HT_.out (by kernel_rfl)) (by decide) (fun K hK => ?_)
       refine goes_ Try.func107 (by kernel_rfl) rfl #[.agg #[.slice Ao24 d9.length co24,.slice Ao25 e0.length co25,.slice Ao26 e1.length co26,.slice Ao27 e2.length co27,.bool g4],.agg #[.int .i64 ((rd_T75 l0 d5).f0),.int .i64 ((rd_T75 l0 d5).f1)]] (by rfl) rfl rfl zM_ ?_
       with_reducible refine (spec_stepShapes.calls k1 (fun k_ => some k_ = (.slice Ao24 d9.length co24 : Value).ownBlock) (.slice Ao24 d9.length co24) d9 (fun k_ => some k_ = (.slice Ao25 e0.length co25 : Value).ownBlock) (.slice Ao25 e0.length co25) e0 (fun k_ => some k_ = (.slice Ao26 e1.length co26 : Value).ownBlock) (.slice Ao26 e1.length co26) e1 (fun k_ => some k_ = (.slice Ao27 e2.length co27 : Value).ownBlock) (.slice Ao27 e2.length co27) e2 g4 ((rd_T75 l0 d5).f0) ((rd_T75 l0 d5).f1) i2 i3 i4 i5 i1 true w _ ?side1 ?side2 ?side3 ?side4 ?side5 ?side6 ?side7 ?side8 ?side9 ?side10 ?side11 A15.out).mono ?_
       (case side1 => exact zb3 HB.out d1.out d4.out d7.out)
       (case side2 => exact Kd.R_tight rfl b7.out)
       (case side3 => exact fun k_ e_ => (b7.out.1 k_ e_.symm).1.1.1.1)
       (case side4 => exact fun k_ e_ => (b7.out.1 k_ e_.symm).1.1.1.2)
       (case side5 => exact Kd.R_tight rfl b0.out)
       (case side6 => exact Kd.R_tight rfl b8.out)
       (case side7 => exact fun k_ e_ => (b8.out.1 k_ e_.symm).1.1.1.1)
       (case side8 => exact fun k_ e_ => (b8.out.1 k_ e_.symm).1.1.1.2)
       (case side9 => exact Kd.R_tight rfl b9.out)
       (case side10 => exact fun k_ e_ => (b9.out.1 k_ e_.symm).1.1.1.1)
       (case side11 => exact fun k_ e_ => (b9.out.1 k_ e_.symm).1.1.1.2)
       rintro e w28 ⟨v853,v856,v859,v862,rfl,ho0,ho1,ho2,ho3,hb,hkp⟩
       refine ⟨_,rfl,?_⟩
       have n0_ := As_ (Kd.R_mono (ok' := fun k_ => some k_ ≠ (.slice Ao19 a7.length co19 : Value).ownBlock ∧ some k_ ≠ (.slice Ao20 a8.length co20 : Value).ownBlock ∧ some k_ ≠ (v853 : Value).ownBlock ∧ some k_ ≠ (v859 : Value).ownBlock ∧ some k_ ≠ (v862 : Value).ownBlock) (Kd.R_keptB (rA a1.out b0.out) hkp (fun _ hk_ => no4 ⟨hk_.1.1.1.2,hk_.2,hk_.1.1.2,hk_.1.2⟩)) (fun k_ hk_ => ⟨hk_.1.1.1.1.1.1,hk_.1.1.1.1.1.2,nl (ho0.1 k_) hk_.2,nl (ho2.1 k_) hk_.2,nl (ho3.1 k_) hk_.2⟩))
       have n1_ := As_ (Kd.R_mono (ok' := fun k_ => some k_ ≠ (v856 : Value).ownBlock) (Kd.R_keptB (rA (rA (rA a5.out b7.out) b8.out) b9.out) hkp (fun _ hk_ => no4 ⟨hk_.1.1.2,hk_.1.1.1.2,hk_.1.2,hk_.2⟩)) (fun k_ hk_ => nl' (ho1.1 k_) hk_.2))
       have n2_ := As_ (Kd.R_mono (ok' := fun k_ => some k_ ≠ (.slice Ao17 a6.length co17 : Value).ownBlock ∧ some k_ ≠ (.slice Ao20 a8.length co20 : Value).ownBlock ∧ some k_ ≠ (v853 : Value).ownBlock ∧ some k_ ≠ (v859 : Value).ownBlock ∧ some k_ ≠ (v862 : Value).ownBlock) (Kd.R_keptB (rA a2.out b0.out) hkp (fun _ hk_ => no4 ⟨hk_.1.1.1.2,hk_.2,hk_.1.1.2,hk_.1.2⟩)) (fun k_ hk_ => ⟨hk_.1.1.1.1.1.1,hk_.1.1.1.1.1.2,nl (ho0.1 k_) hk_.2,nl (ho2.1 k_) hk_.2,nl (ho3.1 k_) hk_.2⟩))
       have n3_ := As_ (Kd.R_mono (ok' := fun k_ => some k_ ≠ (.slice Ao17 a6.length co17 : Value).ownBlock ∧ some k_ ≠ (.slice Ao19 a7.length co19 : Value).ownBlock ∧ some k_ ≠ (v853 : Value).ownBlock ∧ some k_ ≠ (v859 : Value).ownBlock ∧ some k_ ≠ (v862 : Value).ownBlock) (Kd.R_keptB (rA a3.out b0.out) hkp (fun _ hk_ => no4 ⟨hk_.1.1.1.2,hk_.2,hk_.1.1.2,hk_.1.2⟩)) (fun k_ hk_ => ⟨hk_.1.1.1.1.1.1,hk_.1.1.1.1.1.2,nl (ho0.1 k_) hk_.2,nl (ho2.1 k_) hk_.2,nl (ho3.1 k_) hk_.2⟩))
       have n4_ := As_ (blk_kept (zk_ a9.out) hkp (no4 ⟨rne b7.out a9.out,rne b0.out a9.out,rne b8.out a9.out,rne b9.out a9.out⟩))
       have n5_ := As_ (blk_kept (zk_ a4.out) hkp (no4 ⟨rne b7.out a4.out,rne b0.out a4.out,rne b8.out a4.out,rne b9.out a4.out⟩))
       have n6_ := As_ (blk_kept (zk_ b3.out) hkp (no4 ⟨rne b7.out b3.out,rne b0.out b3.out,rne b8.out b3.out,rne b9.out b3.out⟩))
       have n7_ := As_ (Kd.R_mono (ok' := fun k_ => some k_ ≠ (v859 : Value).ownBlock ∧ some k_ ≠ (v862 : Value).ownBlock ∧ some k_ ≠ (.slice Ao17 a6.length co17 : Value).ownBlock ∧ some k_ ≠ (.slice Ao19 a7.length co19 : Value).ownBlock ∧ some k_ ≠ (.slice Ao20 a8.length co20 : Value).ownBlock) ho0 (fun k_ hk_ => ⟨hk_.2.1,hk_.2.2,aw4 (rA a1.out b0.out).1 (Kd.R_lt (zR_ a1.out)) (fun _ h => ⟨h.1.1.1.2,h.2,h.1.1.2,h.1.2⟩) hk_.1,aw4 (rA a2.out b0.out).1 (Kd.R_lt (zR_ a2.out)) (fun _ h => ⟨h.1.1.1.2,h.2,h.1.1.2,h.1.2⟩) hk_.1,aw4 (rA a3.out b0.out).1 (Kd.R_lt (zR_ a3.out)) (fun _ h => ⟨h.1.1.1.2,h.2,h.1.1.2,h.1.2⟩) hk_.1⟩))
       have n8_ := As_ (Kd.R_mono (ok' := fun k_ => some k_ ≠ (.slice Ao18 b1.length co18 : Value).ownBlock) ho1 (fun k_ hk_ => aw4 (rA (rA (rA a5.out b7.out) b8.out) b9.out).1 (Kd.R_lt (zR_ a5.out)) (fun _ h => ⟨h.1.1.2,h.1.1.1.2,h.1.2,h.2⟩) hk_))
       have n9_ := As_ (Kd.R_mono (ok' := fun k_ => some k_ ≠ (v853 : Value).ownBlock ∧ some k_ ≠ (v862 : Value).ownBlock ∧ some k_ ≠ (.slice Ao17 a6.length co17 : Value).ownBlock ∧ some k_ ≠ (.slice Ao19 a7.length co19 : Value).ownBlock ∧ some k_ ≠ (.slice Ao20 a8.length co20 : Value).ownBlock) ho2 (fun k_ hk_ => ⟨hk_.2.1,hk_.2.2,aw4 (rA a1.out b0.out).1 (Kd.R_lt (zR_ a1.out)) (fun _ h => ⟨h.1.1.1.2,h.2,h.1.1.2,h.1.2⟩) hk_.1,aw4 (rA a2.out b0.out).1 (Kd.R_lt (zR_ a2.out)) (fun _ h => ⟨h.1.1.1.2,h.2,h.1.1.2,h.1.2⟩) hk_.1,aw4 (rA a3.out b0.out).1 (Kd.R_lt (zR_ a3.out)) (fun _ h => ⟨h.1.1.1.2,h.2,h.1.1.2,h.1.2⟩) hk_.1⟩))
       have n10_ := As_ (Kd.R_mono (ok' := fun k_ => some k_ ≠ (v853 : Value).ownBlock ∧ some k_ ≠ (v859 : Value).ownBlock ∧ some k_ ≠ (.slice Ao17 a6.length co17 : Value).ownBlock ∧ some k_ ≠ (.slice Ao19 a7.length co19 : Value).ownBlock ∧ some k_ ≠ (.slice Ao20 a8.length co20 : Value).ownBlock) ho3 (fun k_ hk_ => ⟨hk_.2.1,hk_.2.2,aw4 (rA a1.out b0.out).1 (Kd.R_lt (zR_ a1.out)) (fun _ h => ⟨h.1.1.1.2,h.2,h.1.1.2,h.1.2⟩) hk_.1,aw4 (rA a2.out b0.out).1 (Kd.R_lt (zR_ a2.out)) (fun _ h => ⟨h.1.1.1.2,h.2,h.1.1.2,h.1.2⟩) hk_.1,aw4 (rA a3.out b0.out).1 (Kd.R_lt (zR_ a3.out)) (fun _ h => ⟨h.1.1.1.2,h.2,h.1.1.2,h.1.2⟩) hk_.1⟩))
       have n11_ := As_ (hb)
       clear a1 a5 a2 a3 a9 a4 b3 HB b7 b0 b8 b9
       revert n0_ n1_ n2_ n3_ n4_ n5_ n6_ n7_ n8_ n9_ n10_ n11_;intro a1 a5 a2 a3 a9 a4 b3 e4 e5 e6 e7 HB
       refine hK.out _ _ ⟨(bkC a4.out 0).trans rfl,(bkC a4.out 1).trans rfl,(bkC a4.out 2).trans rfl,(bkC a4.out 3).trans rfl,(bkC a4.out 4).trans rfl,((HB.out.cell (bwL w _ hw851_0)).trans hw851_0),((HB.out.cell (bwL w _ hw851_1)).trans hw851_1)⟩ (fun hHeld => ?_)
       clear hK K
       refine norm_ (a' := ?_) ?_ ?_
       rotate_left
       ·show Act.put _ (some 22) _ = _
        simp only [Act.put,sq_,i64_w,i32_w]
        rfl
       refine pQ 7 15 (bl_ 1279 13) HT_ rfl ?_
       refine pQ 8 23 (bl_ 1535 13) HT_ rfl ?_
       refine pQ 9 24 (bl_ 2047 13) HT_ rfl ?_
       exact norm_ (by simp only [putAll,Act.put,List.setIfInBounds_toArray,List.set_cons_zero,List.set_cons_succ]) (hCont (.slice Ao24 d9.length co24,.slice Ao25 e0.length co25,.slice Ao26 e1.length co26,.slice Ao27 e2.length co27,v853,v856,v859,v862,b5) _ ⟨hHeld,(zR_ e4.out),(zR_ e5.out),(zR_ e6.out),(zR_ e7.out),(by exact Kd.R_mono a1.out (fun _ hk => ⟨hk.2.2.1,⟨hk.2.2.2.1,⟨hk.2.2.2.2,⟨hk.1,hk.2.1⟩⟩⟩⟩)),(zR_ a5.out),(by exact Kd.R_mono a2.out (fun _ hk => ⟨hk.2.2.1,⟨hk.2.2.2.1,⟨hk.2.2.2.2,⟨hk.1,hk.2.1⟩⟩⟩⟩)),(by exact Kd.R_mono a3.out (fun _ hk => ⟨hk.2.2.1,⟨hk.2.2.2.1,⟨hk.2.2.2.2,⟨hk.1,hk.2.1⟩⟩⟩⟩)),(zk_ a9.out),(zk_ a4.out),(zk_ b3.out),d8.out,d7.out,d0.out,d2.out,b2.out,d3.out,(zb3 HB.out d1.out d4.out d7.out)⟩)
     ·skip
      refine box_step ?hg (N := 6) ?hd (cs := #[.slice none 0 0,.slice none 0 0,.slice none 0 0,.slice none 0 0,.bool false]) (t := 120) ?hr ?_;(case hd => rfl);(case hg => rfl);(case hr => go_simp <;> rfl)
      intro b5 hg w22 hbox hb
      have n0_ := As_ (Kd.R_below (zR_ a1.out) hb)
      have n1_ := As_ (Kd.R_below (zR_ a5.out) hb)
      have n2_ := As_ (Kd.R_below (zR_ a2.out) hb)
      have n3_ := As_ (Kd.R_below (zR_ a3.out) hb)
      have n4_ := As_ (zkb a9.out hb)
      have n5_ := As_ (zkb a4.out hb)
      have n6_ := As_ (bwT (zb2 HB.out d1.out d4.out) hb)
      have n7_ := As_ (hbox)
      have n8_ := As_ ((by rw [hg];exact (bwZ (zb2 HB.out d1.out d4.out)) : w.heap.size ≤ b5))
      have n9_ := As_ ((by rw [hg];exact (bwZ (zb2 HB.out d1.out d4.out)) : w.heap.size ≤ b5))
      have n10_ := As_ ((by rw [hg];exact Nat.ne_of_lt (zkl a9.out) : d6 ≠ b5))
      have n11_ := As_ ((by rw [hg];exact Nat.ne_of_gt (zkl a9.out) : b5 ≠ d6))
      have n12_ := As_ ((by rw [hg];exact Nat.ne_of_lt (zkl a4.out) : b4 ≠ b5))
      have n13_ := As_ ((by rw [hg];exact Nat.ne_of_gt (zkl a4.out) : b5 ≠ b4))
      clear a1 a5 a2 a3 a9 a4 HB
      revert n0_ n1_ n2_ n3_ n4_ n5_ n6_ n7_ n8_ n9_ n10_ n11_ n12_ n13_;intro a1 a5 a2 a3 a9 a4 HB b3 d8 d7 d0 d2 b2 d3
      clear hb hbox hg
      refine hK.out _ _ ⟨(bkC a4.out 0).trans rfl,(bkC a4.out 1).trans rfl,(bkC a4.out 2).trans rfl,(bkC a4.out 3).trans rfl,(bkC a4.out 4).trans rfl,((HB.out.cell (bwL w _ hw851_0)).trans hw851_0),((HB.out.cell (bwL w _ hw851_1)).trans hw851_1)⟩ (fun hHeld => ?_)
      clear hK K
      refine norm_ (a' := ?_) ?_ ?_
      rotate_left
      ·show Act.put _ (some 6) _ = _
       simp only [Act.put,sq_,i64_w,i32_w]
       rfl
      refine one_ (i := 1) (N := some 17) (bl_ 1087 13) rfl rfl (one_of HT_.out (by kernel_rfl)) (by decide) (fun K hK => ?_)
      refine goes_ Try.func108 (by kernel_rfl) rfl #[.agg #[.slice Ao17 a6.length co17,.slice Ao18 b1.length co18,.slice Ao19 a7.length co19,.slice Ao20 a8.length co20,.bool b6]] (by rfl) rfl rfl zM_ ?_
      with_reducible refine (spec_copyShapes.calls _ _ a6 _ _ b1 _ _ a7 _ _ a8 b6 d9 e0 e1 e2 g4 _ ?side1 ?side2 ?side3 ?side4 ?side5 ?side6 ?side7 ?side8 A13.out).mono ?_
      (case side1 => exact zC_ (Kd.R_reads' a1.out).2.2)
      (case side2 => exact (Kd.R_reads' a1.out).2.1)
      (case side3 => exact zC_ (Kd.R_reads' a5.out).2.2)
      (case side4 => exact (Kd.R_reads' a5.out).2.1)
      (case side5 => exact zC_ (Kd.R_reads' a2.out).2.2)
      (case side6 => exact (Kd.R_reads' a2.out).2.1)
      (case side7 => exact zC_ (Kd.R_reads' a3.out).2.2)
      (case side8 => exact (Kd.R_reads' a3.out).2.1)
      rintro e w23 ⟨v839,v842,v845,v848,rfl,ho0,ho1,ho2,ho3,hb⟩
      refine ⟨_,rfl,?_⟩
      have n0_ := As_ (Kd.R_mono (Kd.R_told (Kd.R_told (Kd.R_told (Kd.R_old (zR_ a1.out) hb) (Kd.R_base ho0)) (Kd.R_base ho2)) (Kd.R_base ho3)) (fun _ h_ => h_.1))
      have n1_ := As_ (Kd.R_elder' (zR_ a5.out) (Kd.R_base ho1) hb)
      have n2_ := As_ (Kd.R_mono (Kd.R_told (Kd.R_told (Kd.R_told (Kd.R_old (zR_ a2.out) hb) (Kd.R_base ho0)) (Kd.R_base ho2)) (Kd.R_base ho3)) (fun _ h_ => h_.1))
      have n3_ := As_ (Kd.R_mono (Kd.R_told (Kd.R_told (Kd.R_told (Kd.R_old (zR_ a3.out) hb) (Kd.R_base ho0)) (Kd.R_base ho2)) (Kd.R_base ho3)) (fun _ h_ => h_.1))
      have n4_ := As_ (Kd.R_lower (Kd.R_new' (Kd.R_new' (Kd.R_new' ho0 (Kd.R_lt (zR_ a1.out))) (Kd.R_lt (zR_ a2.out))) (Kd.R_lt (zR_ a3.out))) (bwZ (zb3 HB.out d1.out d4.out d7.out)))
      have n5_ := As_ (Kd.R_lower (Kd.R_new' ho1 (Kd.R_lt (zR_ a5.out))) (bwZ (zb3 HB.out d1.out d4.out d7.out)))
      have n6_ := As_ (Kd.R_lower (Kd.R_new' (Kd.R_new' (Kd.R_new' ho2 (Kd.R_lt (zR_ a1.out))) (Kd.R_lt (zR_ a2.out))) (Kd.R_lt (zR_ a3.out))) (bwZ (zb3 HB.out d1.out d4.out d7.out)))
      have n7_ := As_ (Kd.R_lower (Kd.R_new' (Kd.R_new' (Kd.R_new' ho3 (Kd.R_lt (zR_ a1.out))) (Kd.R_lt (zR_ a2.out))) (Kd.R_lt (zR_ a3.out))) (bwZ (zb3 HB.out d1.out d4.out d7.out)))
      have n8_ := As_ (zkb a9.out hb)
      have n9_ := As_ (zkb a4.out hb)
      have n10_ := As_ (zkb b3.out hb)
      have n11_ := As_ (bwT (zb3 HB.out d1.out d4.out d7.out) hb)
      clear a1 a5 a2 a3 a9 a4 b3 HB
      revert n0_ n1_ n2_ n3_ n4_ n5_ n6_ n7_ n8_ n9_ n10_ n11_;intro a1 a5 a2 a3 b7 b0 b8 b9 a9 a4 b3 HB
      obtain ⟨Ao24,co24,eo24⟩ := Kd.R_slice b7.out
      (first|subst eo24|(injection eo24 with f1_ f2_ f3_;have f4_ := f1_.symm;have f5_ := f3_.symm;clear f1_ f2_ f3_;subst f4_;subst f5_))
      obtain ⟨Ao25,co25,eo25⟩ := Kd.R_slice b0.out
      (first|subst eo25|(injection eo25 with f1_ f2_ f3_;have f4_ := f1_.symm;have f5_ := f3_.symm;clear f1_ f2_ f3_;subst f4_;subst f5_))
      obtain ⟨Ao26,co26,eo26⟩ := Kd.R_slice b8.out
      (first|subst eo26|(injection eo26 with f1_ f2_ f3_;have f4_ := f1_.symm;have f5_ := f3_.symm;clear f1_ f2_ f3_;subst f4_;subst f5_))
      obtain ⟨Ao27,co27,eo27⟩ := Kd.R_slice b9.out
      (first|subst eo27|(injection eo27 with f1_ f2_ f3_;have f4_ := f1_.symm;have f5_ := f3_.symm;clear f1_ f2_ f3_;subst f4_;subst f5_))
      refine hK.out _ _ ⟨(bkC a4.out 0).trans rfl,(bkC a4.out 1).trans rfl,(bkC a4.out 2).trans rfl,(bkC a4.out 3).trans rfl,(bkC a4.out 4).trans rfl,((HB.out.cell (bwL w _ hw851_0)).trans hw851_0),((HB.out.cell (bwL w _ hw851_1)).trans hw851_1)⟩ (fun hHeld => ?_)
      clear hK K
      refine norm_ (a' := ?_) ?_ ?_
      rotate_left
      ·show Act.put _ (some 17) _ = _
       simp only [Act.put,sq_,i64_w,i32_w]
       rfl
      refine one_ (i := 6) (N := some 22) (bl_ 1151 13) rfl rfl (one_of HT_.out (by kernel_rfl)) (by decide) (fun K hK => ?_)
      refine goes_ Try.func107 (by kernel_rfl) rfl #[.agg #[.slice Ao24 d9.length co24,.slice Ao25 e0.length co25,.slice Ao26 e1.length co26,.slice Ao27 e2.length co27,.bool g4],.agg #[.int .i64 ((rd_T75 l0 d5).f0),.int .i64 ((rd_T75 l0 d5).f1)]] (by rfl) rfl rfl zM_ ?_
      with_reducible refine (spec_stepShapes.calls k1 (fun k_ => some k_ = (.slice Ao24 d9.length co24 : Value).ownBlock) (.slice Ao24 d9.length co24) d9 (fun k_ => some k_ = (.slice Ao25 e0.length co25 : Value).ownBlock) (.slice Ao25 e0.length co25) e0 (fun k_ => some k_ = (.slice Ao26 e1.length co26 : Value).ownBlock) (.slice Ao26 e1.length co26) e1 (fun k_ => some k_ = (.slice Ao27 e2.length co27 : Value).ownBlock) (.slice Ao27 e2.length co27) e2 g4 ((rd_T75 l0 d5).f0) ((rd_T75 l0 d5).f1) i2 i3 i4 i5 i1 true w _ ?side1 ?side2 ?side3 ?side4 ?side5 ?side6 ?side7 ?side8 ?side9 ?side10 ?side11 A15.out).mono ?_
      (case side1 => exact zb3 HB.out d1.out d4.out d7.out)
      (case side2 => exact Kd.R_tight rfl b7.out)
      (case side3 => exact fun k_ e_ => (b7.out.1 k_ e_.symm).1.1.1.1)
      (case side4 => exact fun k_ e_ => (b7.out.1 k_ e_.symm).1.1.1.2)
      (case side5 => exact Kd.R_tight rfl b0.out)
      (case side6 => exact Kd.R_tight rfl b8.out)
      (case side7 => exact fun k_ e_ => (b8.out.1 k_ e_.symm).1.1.1.1)
      (case side8 => exact fun k_ e_ => (b8.out.1 k_ e_.symm).1.1.1.2)
      (case side9 => exact Kd.R_tight rfl b9.out)
      (case side10 => exact fun k_ e_ => (b9.out.1 k_ e_.symm).1.1.1.1)
      (case side11 => exact fun k_ e_ => (b9.out.1 k_ e_.symm).1.1.1.2)
      rintro e w28 ⟨v853,v856,v859,v862,rfl,ho0,ho1,ho2,ho3,hb,hkp⟩
      refine ⟨_,rfl,?_⟩
      have n0_ := As_ (Kd.R_mono (ok' := fun k_ => some k_ ≠ (.slice Ao19 a7.length co19 : Value).ownBlock ∧ some k_ ≠ (.slice Ao20 a8.length co20 : Value).ownBlock ∧ some k_ ≠ (v853 : Value).ownBlock ∧ some k_ ≠ (v859 : Value).ownBlock ∧ some k_ ≠ (v862 : Value).ownBlock) (Kd.R_keptB (rA a1.out b0.out) hkp (fun _ hk_ => no4 ⟨hk_.1.1.1.2,hk_.2,hk_.1.1.2,hk_.1.2⟩)) (fun k_ hk_ => ⟨hk_.1.1.1.1.1.1,hk_.1.1.1.1.1.2,nl (ho0.1 k_) hk_.2,nl (ho2.1 k_) hk_.2,nl (ho3.1 k_) hk_.2⟩))
      have n1_ := As_ (Kd.R_mono (ok' := fun k_ => some k_ ≠ (v856 : Value).ownBlock) (Kd.R_keptB (rA (rA (rA a5.out b7.out) b8.out) b9.out) hkp (fun _ hk_ => no4 ⟨hk_.1.1.2,hk_.1.1.1.2,hk_.1.2,hk_.2⟩)) (fun k_ hk_ => nl' (ho1.1 k_) hk_.2))
      have n2_ := As_ (Kd.R_mono (ok' := fun k_ => some k_ ≠ (.slice Ao17 a6.length co17 : Value).ownBlock ∧ some k_ ≠ (.slice Ao20 a8.length co20 : Value).ownBlock ∧ some k_ ≠ (v853 : Value).ownBlock ∧ some k_ ≠ (v859 : Value).ownBlock ∧ some k_ ≠ (v862 : Value).ownBlock) (Kd.R_keptB (rA a2.out b0.out) hkp (fun _ hk_ => no4 ⟨hk_.1.1.1.2,hk_.2,hk_.1.1.2,hk_.1.2⟩)) (fun k_ hk_ => ⟨hk_.1.1.1.1.1.1,hk_.1.1.1.1.1.2,nl (ho0.1 k_) hk_.2,nl (ho2.1 k_) hk_.2,nl (ho3.1 k_) hk_.2⟩))
      have n3_ := As_ (Kd.R_mono (ok' := fun k_ => some k_ ≠ (.slice Ao17 a6.length co17 : Value).ownBlock ∧ some k_ ≠ (.slice Ao19 a7.length co19 : Value).ownBlock ∧ some k_ ≠ (v853 : Value).ownBlock ∧ some k_ ≠ (v859 : Value).ownBlock ∧ some k_ ≠ (v862 : Value).ownBlock) (Kd.R_keptB (rA a3.out b0.out) hkp (fun _ hk_ => no4 ⟨hk_.1.1.1.2,hk_.2,hk_.1.1.2,hk_.1.2⟩)) (fun k_ hk_ => ⟨hk_.1.1.1.1.1.1,hk_.1.1.1.1.1.2,nl (ho0.1 k_) hk_.2,nl (ho2.1 k_) hk_.2,nl (ho3.1 k_) hk_.2⟩))
      have n4_ := As_ (blk_kept (zk_ a9.out) hkp (no4 ⟨rne b7.out a9.out,rne b0.out a9.out,rne b8.out a9.out,rne b9.out a9.out⟩))
      have n5_ := As_ (blk_kept (zk_ a4.out) hkp (no4 ⟨rne b7.out a4.out,rne b0.out a4.out,rne b8.out a4.out,rne b9.out a4.out⟩))
      have n6_ := As_ (blk_kept (zk_ b3.out) hkp (no4 ⟨rne b7.out b3.out,rne b0.out b3.out,rne b8.out b3.out,rne b9.out b3.out⟩))
      have n7_ := As_ (Kd.R_mono (ok' := fun k_ => some k_ ≠ (v859 : Value).ownBlock ∧ some k_ ≠ (v862 : Value).ownBlock ∧ some k_ ≠ (.slice Ao17 a6.length co17 : Value).ownBlock ∧ some k_ ≠ (.slice Ao19 a7.length co19 : Value).ownBlock ∧ some k_ ≠ (.slice Ao20 a8.length co20 : Value).ownBlock) ho0 (fun k_ hk_ => ⟨hk_.2.1,hk_.2.2,aw4 (rA a1.out b0.out).1 (Kd.R_lt (zR_ a1.out)) (fun _ h => ⟨h.1.1.1.2,h.2,h.1.1.2,h.1.2⟩) hk_.1,aw4 (rA a2.out b0.out).1 (Kd.R_lt (zR_ a2.out)) (fun _ h => ⟨h.1.1.1.2,h.2,h.1.1.2,h.1.2⟩) hk_.1,aw4 (rA a3.out b0.out).1 (Kd.R_lt (zR_ a3.out)) (fun _ h => ⟨h.1.1.1.2,h.2,h.1.1.2,h.1.2⟩) hk_.1⟩))
      have n8_ := As_ (Kd.R_mono (ok' := fun k_ => some k_ ≠ (.slice Ao18 b1.length co18 : Value).ownBlock) ho1 (fun k_ hk_ => aw4 (rA (rA (rA a5.out b7.out) b8.out) b9.out).1 (Kd.R_lt (zR_ a5.out)) (fun _ h => ⟨h.1.1.2,h.1.1.1.2,h.1.2,h.2⟩) hk_))
      have n9_ := As_ (Kd.R_mono (ok' := fun k_ => some k_ ≠ (v853 : Value).ownBlock ∧ some k_ ≠ (v862 : Value).ownBlock ∧ some k_ ≠ (.slice Ao17 a6.length co17 : Value).ownBlock ∧ some k_ ≠ (.slice Ao19 a7.length co19 : Value).ownBlock ∧ some k_ ≠ (.slice Ao20 a8.length co20 : Value).ownBlock) ho2 (fun k_ hk_ => ⟨hk_.2.1,hk_.2.2,aw4 (rA a1.out b0.out).1 (Kd.R_lt (zR_ a1.out)) (fun _ h => ⟨h.1.1.1.2,h.2,h.1.1.2,h.1.2⟩) hk_.1,aw4 (rA a2.out b0.out).1 (Kd.R_lt (zR_ a2.out)) (fun _ h => ⟨h.1.1.1.2,h.2,h.1.1.2,h.1.2⟩) hk_.1,aw4 (rA a3.out b0.out).1 (Kd.R_lt (zR_ a3.out)) (fun _ h => ⟨h.1.1.1.2,h.2,h.1.1.2,h.1.2⟩) hk_.1⟩))
      have n10_ := As_ (Kd.R_mono (ok' := fun k_ => some k_ ≠ (v853 : Value).ownBlock ∧ some k_ ≠ (v859 : Value).ownBlock ∧ some k_ ≠ (.slice Ao17 a6.length co17 : Value).ownBlock ∧ some k_ ≠ (.slice Ao19 a7.length co19 : Value).ownBlock ∧ some k_ ≠ (.slice Ao20 a8.length co20 : Value).ownBlock) ho3 (fun k_ hk_ => ⟨hk_.2.1,hk_.2.2,aw4 (rA a1.out b0.out).1 (Kd.R_lt (zR_ a1.out)) (fun _ h => ⟨h.1.1.1.2,h.2,h.1.1.2,h.1.2⟩) hk_.1,aw4 (rA a2.out b0.out).1 (Kd.R_lt (zR_ a2.out)) (fun _ h => ⟨h.1.1.1.2,h.2,h.1.1.2,h.1.2⟩) hk_.1,aw4 (rA a3.out b0.out).1 (Kd.R_lt (zR_ a3.out)) (fun _ h => ⟨h.1.1.1.2,h.2,h.1.1.2,h.1.2⟩) hk_.1⟩))
      have n11_ := As_ (hb)
      clear a1 a5 a2 a3 a9 a4 b3 HB b7 b0 b8 b9
      revert n0_ n1_ n2_ n3_ n4_ n5_ n6_ n7_ n8_ n9_ n10_ n11_;intro a1 a5 a2 a3 a9 a4 b3 e4 e5 e6 e7 HB
      refine hK.out _ _ ⟨(bkC a4.out 0).trans rfl,(bkC a4.out 1).trans rfl,(bkC a4.out 2).trans rfl,(bkC a4.out 3).trans rfl,(bkC a4.out 4).trans rfl,((HB.out.cell (bwL w _ hw851_0)).trans hw851_0),((HB.out.cell (bwL w _ hw851_1)).trans hw851_1)⟩ (fun hHeld => ?_)
      clear hK K
      refine norm_ (a' := ?_) ?_ ?_
      rotate_left
      ·show Act.put _ (some 22) _ = _
       simp only [Act.put,sq_,i64_w,i32_w]
       rfl
      refine pQ 7 15 (bl_ 1279 13) HT_ rfl ?_
      refine pQ 8 23 (bl_ 1535 13) HT_ rfl ?_
      refine pQ 9 24 (bl_ 2047 13) HT_ rfl ?_
      exact norm_ (by simp only [putAll,Act.put,List.setIfInBounds_toArray,List.set_cons_zero,List.set_cons_succ]) (hCont (.slice Ao24 d9.length co24,.slice Ao25 e0.length co25,.slice Ao26 e1.length co26,.slice Ao27 e2.length co27,v853,v856,v859,v862,b5) _ ⟨hHeld,(zR_ e4.out),(zR_ e5.out),(zR_ e6.out),(zR_ e7.out),(by exact Kd.R_mono a1.out (fun _ hk => ⟨hk.2.2.1,⟨hk.2.2.2.1,⟨hk.2.2.2.2,⟨hk.1,hk.2.1⟩⟩⟩⟩)),(zR_ a5.out),(by exact Kd.R_mono a2.out (fun _ hk => ⟨hk.2.2.1,⟨hk.2.2.2.1,⟨hk.2.2.2.2,⟨hk.1,hk.2.1⟩⟩⟩⟩)),(by exact Kd.R_mono a3.out (fun _ hk => ⟨hk.2.2.1,⟨hk.2.2.2.1,⟨hk.2.2.2.2,⟨hk.1,hk.2.1⟩⟩⟩⟩)),(zk_ a9.out),(zk_ a4.out),(zk_ b3.out),d8.out,d7.out,d0.out,d2.out,b2.out,d3.out,(zb3 HB.out d1.out d4.out d7.out)⟩)
    rintro ⟨v839,v842,v845,v848,v853,v856,v859,v862,b5⟩ w29 ⟨hS_,h0_,h1_,h2_,h3_,h4_,h5_,h6_,h7_,h8_,h9_,h10_,h11_,h12_,h13_,h14_,h15_,h16_,h17_⟩
    have n0_ : Aside0 (Kd.R (Kd.int .i64) 3 w29 w.heap.size (fun k_ => some k_ ≠ (v859 : Value).ownBlock ∧ some k_ ≠ (v862 : Value).ownBlock ∧ some k_ ≠ (.slice Ao17 a6.length co17 : Value).ownBlock ∧ some k_ ≠ (.slice Ao19 a7.length co19 : Value).ownBlock ∧ some k_ ≠ (.slice Ao20 a8.length co20 : Value).ownBlock) v853 i2) := ⟨h0_⟩
    have n1_ : Aside0 (Kd.R Kd.bool 4 w29 w.heap.size (fun k_ => some k_ ≠ (.slice Ao18 b1.length co18 : Value).ownBlock) v856 i3) := ⟨h1_⟩
    have n2_ : Aside0 (Kd.R (Kd.int .i64) 3 w29 w.heap.size (fun k_ => some k_ ≠ (v853 : Value).ownBlock ∧ some k_ ≠ (v862 : Value).ownBlock ∧ some k_ ≠ (.slice Ao17 a6.length co17 : Value).ownBlock ∧ some k_ ≠ (.slice Ao19 a7.length co19 : Value).ownBlock ∧ some k_ ≠ (.slice Ao20 a8.length co20 : Value).ownBlock) v859 i4) := ⟨h2_⟩
    have n3_ : Aside0 (Kd.R (Kd.int .i64) 3 w29 w.heap.size (fun k_ => some k_ ≠ (v853 : Value).ownBlock ∧ some k_ ≠ (v859 : Value).ownBlock ∧ some k_ ≠ (.slice Ao17 a6.length co17 : Value).ownBlock ∧ some k_ ≠ (.slice Ao19 a7.length co19 : Value).ownBlock ∧ some k_ ≠ (.slice Ao20 a8.length co20 : Value).ownBlock) v862 i5) := ⟨h3_⟩
    have n4_ : Aside0 (Kd.R (Kd.int .i64) 3 w29 w.heap.size (fun k_ => some k_ ≠ (v853 : Value).ownBlock ∧ some k_ ≠ (v859 : Value).ownBlock ∧ some k_ ≠ (v862 : Value).ownBlock ∧ some k_ ≠ (.slice Ao19 a7.length co19 : Value).ownBlock ∧ some k_ ≠ (.slice Ao20 a8.length co20 : Value).ownBlock) (.slice Ao17 a6.length co17) a6) := ⟨h4_⟩
    have n5_ : Aside0 (Kd.R Kd.bool 4 w29 w.heap.size (fun k_ => some k_ ≠ (v856 : Value).ownBlock) (.slice Ao18 b1.length co18) b1) := ⟨h5_⟩
    have n6_ : Aside0 (Kd.R (Kd.int .i64) 3 w29 w.heap.size (fun k_ => some k_ ≠ (v853 : Value).ownBlock ∧ some k_ ≠ (v859 : Value).ownBlock ∧ some k_ ≠ (v862 : Value).ownBlock ∧ some k_ ≠ (.slice Ao17 a6.length co17 : Value).ownBlock ∧ some k_ ≠ (.slice Ao20 a8.length co20 : Value).ownBlock) (.slice Ao19 a7.length co19) a7) := ⟨h6_⟩
    have n7_ : Aside0 (Kd.R (Kd.int .i64) 3 w29 w.heap.size (fun k_ => some k_ ≠ (v853 : Value).ownBlock ∧ some k_ ≠ (v859 : Value).ownBlock ∧ some k_ ≠ (v862 : Value).ownBlock ∧ some k_ ≠ (.slice Ao17 a6.length co17 : Value).ownBlock ∧ some k_ ≠ (.slice Ao19 a7.length co19 : Value).ownBlock) (.slice Ao20 a8.length co20) a8) := ⟨h7_⟩
    have n8_ : Aside0 (w29.heap[d6]? = some (.cells #[.slice none 0 0,.slice none 0 0,.slice none 0 0,.slice none 0 0,.bool e3] 120 (0,0))) := ⟨h8_⟩
    have n9_ : Aside0 (w29.heap[b4]? = some (.cells #[.slice Ao17 a6.length co17,.slice Ao18 b1.length co18,.slice Ao19 a7.length co19,.slice Ao20 a8.length co20,.bool b6] 120 (0,0))) := ⟨h9_⟩
    have n10_ : Aside0 (w29.heap[b5]? = some (.cells #[.slice none 0 0,.slice none 0 0,.slice none 0 0,.slice none 0 0,.bool false] 120 (0,0))) := ⟨h10_⟩
    have n11_ : Aside0 (w.heap.size ≤ b5) := ⟨h11_⟩
    have n12_ : Aside0 (w.heap.size ≤ b5) := ⟨h12_⟩
    have n13_ : Aside0 (d6 ≠ b5) := ⟨h13_⟩
    have n14_ : Aside0 (b5 ≠ d6) := ⟨h14_⟩
    have n15_ : Aside0 (b4 ≠ b5) := ⟨h15_⟩
    have n16_ : Aside0 (b5 ≠ b4) := ⟨h16_⟩
    have n17_ : Aside0 (Below w.heap.size w w29) := ⟨h17_⟩
    clear a1 a5 a2 a3 a9 a4 HB h0_ h1_ h2_ h3_ h4_ h5_ h6_ h7_ h8_ h9_ h10_ h11_ h12_ h13_ h14_ h15_ h16_ h17_
    revert n0_ n1_ n2_ n3_ n4_ n5_ n6_ n7_ n8_ n9_ n10_ n11_ n12_ n13_ n14_ n15_ n16_ n17_;intro e4 e5 e6 e7 a1 a5 a2 a3 a9 a4 b3 d8 d7 d0 d2 b2 d3 HB
    have hHeld : w29.cell? ⟨b4,0,none⟩ = some (.slice Ao17 a6.length co17) ∧ w29.cell? ⟨b4,1,none⟩ = some (.slice Ao18 b1.length co18) ∧ w29.cell? ⟨b4,2,none⟩ = some (.slice Ao19 a7.length co19) ∧ w29.cell? ⟨b4,3,none⟩ = some (.slice Ao20 a8.length co20) ∧ w29.cell? ⟨b4,4,none⟩ = some (.bool b6) ∧ w29.cell? (ad851.add ((d5).toNat * 2)) = some (.int .i64 ((rd_T75 l0 d5).f0)) ∧ w29.cell? ⟨(ad851.add ((d5).toNat * 2)).block,(ad851.add ((d5).toNat * 2)).off + 1,none⟩ = some (.int .i64 ((rd_T75 l0 d5).f1)) := hS_
    obtain ⟨Ao30,co30,eo30⟩ := Kd.R_slice e4.out
    (first|subst eo30|(injection eo30 with f1_ f2_ f3_;have f4_ := f1_.symm;have f5_ := f3_.symm;clear f1_ f2_ f3_;subst f4_;subst f5_))
    obtain ⟨Ao32,co32,eo32⟩ := Kd.R_slice e5.out
    (first|subst eo32|(injection eo32 with f1_ f2_ f3_;have f4_ := f1_.symm;have f5_ := f3_.symm;clear f1_ f2_ f3_;subst f4_;subst f5_))
    obtain ⟨Ao34,co34,eo34⟩ := Kd.R_slice e6.out
    (first|subst eo34|(injection eo34 with f1_ f2_ f3_;have f4_ := f1_.symm;have f5_ := f3_.symm;clear f1_ f2_ f3_;subst f4_;subst f5_))
    obtain ⟨Ao36,co36,eo36⟩ := Kd.R_slice e7.out
    (first|subst eo36|(injection eo36 with f1_ f2_ f3_;have f4_ := f1_.symm;have f5_ := f3_.symm;clear f1_ f2_ f3_;subst f4_;subst f5_))
    refine norm_ (a' := ?_) ?_ ?_
    rotate_left
    ·simp only [putAll,Act.put,List.setIfInBounds_toArray,List.set_cons_zero,List.set_cons_succ]
     rfl
    refine one_ (i := 11) (N := none) (bl_ 4095 13) rfl rfl (one_of HT_.out (by kernel_rfl)) (by decide) (fun K hK => ?_)
    have E2 : w29.cell? ⟨b5,0,none⟩ = some (.slice none 0 0) := (bkC b3.out 0).trans rfl
    have B8 := bkF b3.out 0
    have n8 := d0.out
    have n9 := b2.out
    have o0 := d2.out
    have o1 := d3.out
    have E3 : w29.cell? ⟨b5,1,none⟩ = some (.slice none 0 0) := (bkC b3.out 1).trans rfl
    have B9 := bkF b3.out 1
    have o2 := d0.out
    have o3 := b2.out
    have o4 := d2.out
    have o5 := d3.out
    have E4 : w29.cell? ⟨b5,2,none⟩ = some (.slice none 0 0) := (bkC b3.out 2).trans rfl
    have C0 := bkF b3.out 2
    have o6 := d0.out
    have o7 := b2.out
    have o8 := d2.out
    have o9 := d3.out
    have E5 : w29.cell? ⟨b5,3,none⟩ = some (.slice none 0 0) := (bkC b3.out 3).trans rfl
    have C1 := bkF b3.out 3
    have p0 := d0.out
    have p1 := b2.out
    have p2 := d2.out
    have p3 := d3.out
    have E6 : w29.cell? ⟨b5,4,none⟩ = some (.bool false) := (bkC b3.out 4).trans rfl
    have C2 := bkF b3.out 4
    have p4 := d0.out
    have p6 := b2.out
    have p7 := d2.out
    have p8 := d3.out
    refine skip_ (w1 := ?_) (by rfl) rfl ?_ ?_
    rotate_left
    ·go_simp
     rfl
    refine hK.out _ _ ⟨(c5 b2.out (hHeld.1)),(c5 b2.out (hHeld.2.1)),(c5 b2.out (hHeld.2.2.1)),(c5 b2.out (hHeld.2.2.2.1)),(c5 b2.out (hHeld.2.2.2.2.1)),(c5 (by first|exact Nat.ne_of_lt (Nat.lt_of_lt_of_le (by have := bwL _ _ hw851_0;first|rwa [add_block] at this|exact this) d8.out)|(rw [add_block];exact Nat.ne_of_lt (Nat.lt_of_lt_of_le (by have := bwL _ _ hw851_0;first|rwa [add_block] at this|exact this) d8.out))|(show (Addr.add _ _).block ≠ _;rw [add_block];exact Nat.ne_of_lt (Nat.lt_of_lt_of_le (by have := bwL _ _ hw851_0;first|rwa [add_block] at this|exact this) d8.out))|(dsimp only;exact Nat.ne_of_lt (Nat.lt_of_lt_of_le (by have := bwL _ _ hw851_0;first|rwa [add_block] at this|exact this) d8.out))) (hHeld.2.2.2.2.2.1)),(c5 (by first|exact Nat.ne_of_lt (Nat.lt_of_lt_of_le (by have := bwL _ _ hw851_1;first|rwa [add_block] at this|exact this) d8.out)|(rw [add_block];exact Nat.ne_of_lt (Nat.lt_of_lt_of_le (by have := bwL _ _ hw851_1;first|rwa [add_block] at this|exact this) d8.out))|(show (Addr.add _ _).block ≠ _;rw [add_block];exact Nat.ne_of_lt (Nat.lt_of_lt_of_le (by have := bwL _ _ hw851_1;first|rwa [add_block] at this|exact this) d8.out))|(dsimp only;exact Nat.ne_of_lt (Nat.lt_of_lt_of_le (by have := bwL _ _ hw851_1;first|rwa [add_block] at this|exact this) d8.out))) (hHeld.2.2.2.2.2.2))⟩ (fun hHeld => ?_)
    clear hK K
    refine pQ 12 7 (bl_ 8191 13) HT_ rfl ?_
    refine done_ (done_of HT_.out (by kernel_rfl)) ?_
    have C3 := d2.out
    have C4 := d0.out
    have C5 := d3.out
    have C6 := b2.out
    have p9 : w29.cell? ⟨b5,0,none⟩ = some (.slice none 0 0) := (bkC b3.out 0).trans rfl
    have q0 : w29.cell? ⟨b5,1,none⟩ = some (.slice none 0 0) := (bkC b3.out 1).trans rfl
    have q1 : w29.cell? ⟨b5,2,none⟩ = some (.slice none 0 0) := (bkC b3.out 2).trans rfl
    have q2 : w29.cell? ⟨b5,3,none⟩ = some (.slice none 0 0) := (bkC b3.out 3).trans rfl
    have q3 : w29.cell? ⟨b5,4,none⟩ = some (.bool false) := (bkC b3.out 4).trans rfl
    have q4 := bkF b3.out 0
    have q5 := bkF b3.out 1
    have q6 := bkF b3.out 2
    have q7 := bkF b3.out 3
    have q8 := bkF b3.out 4
    have C7 := g6.out
    have C8 := e8.out
    have q9 : w29.cell? ⟨b4,0,none⟩ = some (.slice Ao17 a6.length co17) := (bkC a4.out 0).trans rfl
    have r0 : w29.cell? ⟨b4,1,none⟩ = some (.slice Ao18 b1.length co18) := (bkC a4.out 1).trans rfl
    have r7 : w29.cell? ⟨b4,2,none⟩ = some (.slice Ao19 a7.length co19) := (bkC a4.out 2).trans rfl
    have r8 : w29.cell? ⟨b4,3,none⟩ = some (.slice Ao20 a8.length co20) := (bkC a4.out 3).trans rfl
    have r9 : w29.cell? ⟨b4,4,none⟩ = some (.bool b6) := (bkC a4.out 4).trans rfl
    have s7 := bkF a4.out 0
    have s8 := bkF a4.out 1
    have s9 := bkF a4.out 2
    have t0 := bkF a4.out 3
    have t1 := bkF a4.out 4
    try go_wp2
    go_roundg k1
    case measure => have := HK1.out;omega
    case rel => exact ⟨(wrap64 (d5 + 1)),(e3),(i2),(i3),(i4),(i5),(i1),(.slice Ao30 i2.length co30),(.slice Ao32 i3.length co32),(.slice Ao34 i4.length co34),(.slice Ao36 i5.length co36),zT_,H',⟨by have := HK1.out;omega⟩,⟨by exact Kd.R_mono (rF5 (rF5 (Kd.R_types (rT e4.out b3.out) a4.out (by decide)) (fun _ hk => hk.1.2)) (fun _ hk => hk.2)) (fun _ hk => ⟨hk.1.1.1,hk.1.1.2.1⟩)⟩,⟨by exact Kd.R_mono (rF5 (rF5 (Kd.R_types (rT e5.out b3.out) a4.out (by decide)) (fun _ hk => hk.1.2)) (fun _ hk => hk.2)) (fun _ hk => trivial)⟩,⟨by exact Kd.R_mono (rF5 (rF5 (Kd.R_types (rT e6.out b3.out) a4.out (by decide)) (fun _ hk => hk.1.2)) (fun _ hk => hk.2)) (fun _ hk => ⟨hk.1.1.1,hk.1.1.2.1⟩)⟩,⟨by exact Kd.R_mono (rF5 (rF5 (Kd.R_types (rT e7.out b3.out) a4.out (by decide)) (fun _ hk => hk.1.2)) (fun _ hk => hk.2)) (fun _ hk => ⟨hk.1.1.1,hk.1.1.2.1⟩)⟩,⟨by refine f5 e8.out ?_;exact f5 d0.out a9.out⟩,⟨by apply p5;exact f5 b2.out a4.out⟩,⟨zb3 HB.out d1.out d4.out d7.out⟩⟩
   replace c16 := Bool.eq_false_iff.mpr c16
   subst c16
   have H1 : (some (a6,b1,a7,a8,b6,d5)) = some (r1,r2,r3,r4,r5,r6) := by rw [if_neg (show ¬ (false = true) by decide)] at H;exact H
   clear H
   have H := H1
   clear H1
   simp only [Option.some.injEq,Prod.mk.injEq] at H
   obtain ⟨rfl,rfl,rfl,rfl,rfl,rfl⟩ := H
   obtain ⟨Ao44,co44,eo44⟩ := Kd.R_slice a1.out
   subst eo44
   obtain ⟨Ao45,co45,eo45⟩ := Kd.R_slice a5.out
   subst eo45
   obtain ⟨Ao46,co46,eo46⟩ := Kd.R_slice a2.out
   subst eo46
   obtain ⟨Ao47,co47,eo47⟩ := Kd.R_slice a3.out
   subst eo47
   try go_wp2
   have n0_ := As_ (Kd.R_drew a1.out)
   have n1_ := As_ (Kd.R_drew a5.out)
   have n2_ := As_ (Kd.R_drew a2.out)
   have n3_ := As_ (Kd.R_drew a3.out)
   have n4_ := As_ (bkD a9.out)
   have n5_ := As_ (bkD a4.out)
   have n6_ := As_ (bwD HB.out)
   clear a1 a5 a2 a3 a9 a4 HB
   revert n0_ n1_ n2_ n3_ n4_ n5_ n6_;intro a1 a5 a2 a3 a9 a4 HB
   have p851 : 0 ≤ (d5 : Int) := odT zA_
   have q851 : d5 < (l0.length : Int) := odT zA_
   obtain ⟨ad851,e851,hx851_0,hx851_1⟩ := at_T75 HR0.out d5 p851 q851
   have hw851_1 := hx851_1
   have hw851_0 := hx851_0
   cases e851
   replace hx851_0 := bwC HB.out hx851_0
   replace hx851_1 := bwC HB.out hx851_1
   replace p851 := eq_true p851
   replace q851 := eq_true q851
   refine start_ (n := 13) (S := fun w' => w'.cell? ⟨b4,0,none⟩ = some (.slice Ao44 a6.length co44) ∧ w'.cell? ⟨b4,1,none⟩ = some (.slice Ao45 b1.length co45) ∧ w'.cell? ⟨b4,2,none⟩ = some (.slice Ao46 a7.length co46) ∧ w'.cell? ⟨b4,3,none⟩ = some (.slice Ao47 a8.length co47) ∧ w'.cell? ⟨b4,4,none⟩ = some (.bool b6) ∧ w'.cell? (ad851.add ((d5).toNat * 2)) = some (.int .i64 ((rd_T75 l0 d5).f0)) ∧ w'.cell? ⟨(ad851.add ((d5).toNat * 2)).block,(ad851.add ((d5).toNat * 2)).off + 1,none⟩ = some (.int .i64 ((rd_T75 l0 d5).f1))) (ds := []) (bl_ 0 13) (by kernel_rfl) rfl rfl ⟨(bkC a4.out 0).trans rfl,(bkC a4.out 1).trans rfl,(bkC a4.out 2).trans rfl,(bkC a4.out 3).trans rfl,(bkC a4.out 4).trans rfl,((HB.out.cell (bwL w _ hw851_0)).trans hw851_0),((HB.out.cell (bwL w _ hw851_1)).trans hw851_1)⟩ (fun hHeld => ?_);refine with_tabW spec_runShapes.tab5 spec_runShapes.bits5 (fun HT_ HW_ => ?_)
   generalize wr.drew = w48 at a1 a5 a2 a3 a9 a4 HB hx851_0 hx851_1 hHeld ⊢
   refine pQ 2 18 (bl_ 4 13) HT_ rfl ?_
   refine pQ 3 19 (bl_ 12 13) HT_ rfl ?_
   refine pQ 4 20 (bl_ 28 13) HT_ rfl ?_
   refine tP 0 16 (bl_ 29 13) ?_ HT_ HW_ rfl (.inl ⟨by rfl,?_⟩) hHeld ?_ ?_ ?_;rotate_left;(rintro w' ⟨s0,s1,s2,s3,s4,s5,s6⟩;go_simp;with_reducible rfl);rotate_left;(simp only [Act.put,sq_,i64_w,i32_w];rfl)
   refine tP 5 21 (bl_ 61 13) ?_ HT_ HW_ rfl (.inl ⟨by rfl,?_⟩) hHeld ?_ ?_ ?_;rotate_left;(rintro w' ⟨s0,s1,s2,s3,s4,s5,s6⟩;go_simp;with_reducible rfl);rotate_left;(simp only [Act.put,sq_,i64_w,i32_w];rfl)
   refine join_ (σ := Value × Value × Value × Value × Value × Value × Value × Value × Nat) 2 (bl_ 2047 13) (fun s_ => [(17,.agg #[s_.1,s_.2.1,s_.2.2.1,s_.2.2.2.1,.bool g4]),(22,.tuple #[.agg #[s_.2.2.2.2.1,s_.2.2.2.2.2.1,s_.2.2.2.2.2.2.1,s_.2.2.2.2.2.2.2.1,.bool i1],.bool false]),(6,.pointer (some ⟨s_.2.2.2.2.2.2.2.2,0,none⟩)),(15,.tuple #[.agg #[s_.2.2.2.2.1,s_.2.2.2.2.2.1,s_.2.2.2.2.2.2.1,s_.2.2.2.2.2.2.2.1,.bool i1],.bool false]),(23,.agg #[s_.2.2.2.2.1,s_.2.2.2.2.2.1,s_.2.2.2.2.2.2.1,s_.2.2.2.2.2.2.2.1,.bool i1]),(24,.bool false)]) (fun s_ w' => (w'.cell? ⟨b4,0,none⟩ = some (.slice Ao44 a6.length co44) ∧ w'.cell? ⟨b4,1,none⟩ = some (.slice Ao45 b1.length co45) ∧ w'.cell? ⟨b4,2,none⟩ = some (.slice Ao46 a7.length co46) ∧ w'.cell? ⟨b4,3,none⟩ = some (.slice Ao47 a8.length co47) ∧ w'.cell? ⟨b4,4,none⟩ = some (.bool b6) ∧ w'.cell? (ad851.add ((d5).toNat * 2)) = some (.int .i64 ((rd_T75 l0 d5).f0)) ∧ w'.cell? ⟨(ad851.add ((d5).toNat * 2)).block,(ad851.add ((d5).toNat * 2)).off + 1,none⟩ = some (.int .i64 ((rd_T75 l0 d5).f1))) ∧ (Kd.R (Kd.int .i64) 3 w' w.heap.size (fun k_ => some k_ ≠ (s_.2.2.2.2.2.2.1 : Value).ownBlock ∧ some k_ ≠ (s_.2.2.2.2.2.2.2.1 : Value).ownBlock ∧ some k_ ≠ (.slice Ao44 a6.length co44 : Value).ownBlock ∧ some k_ ≠ (.slice Ao46 a7.length co46 : Value).ownBlock ∧ some k_ ≠ (.slice Ao47 a8.length co47 : Value).ownBlock) s_.2.2.2.2.1 i2) ∧ (Kd.R Kd.bool 4 w' w.heap.size (fun k_ => some k_ ≠ (.slice Ao45 b1.length co45 : Value).ownBlock) s_.2.2.2.2.2.1 i3) ∧ (Kd.R (Kd.int .i64) 3 w' w.heap.size (fun k_ => some k_ ≠ (s_.2.2.2.2.1 : Value).ownBlock ∧ some k_ ≠ (s_.2.2.2.2.2.2.2.1 : Value).ownBlock ∧ some k_ ≠ (.slice Ao44 a6.length co44 : Value).ownBlock ∧ some k_ ≠ (.slice Ao46 a7.length co46 : Value).ownBlock ∧ some k_ ≠ (.slice Ao47 a8.length co47 : Value).ownBlock) s_.2.2.2.2.2.2.1 i4) ∧ (Kd.R (Kd.int .i64) 3 w' w.heap.size (fun k_ => some k_ ≠ (s_.2.2.2.2.1 : Value).ownBlock ∧ some k_ ≠ (s_.2.2.2.2.2.2.1 : Value).ownBlock ∧ some k_ ≠ (.slice Ao44 a6.length co44 : Value).ownBlock ∧ some k_ ≠ (.slice Ao46 a7.length co46 : Value).ownBlock ∧ some k_ ≠ (.slice Ao47 a8.length co47 : Value).ownBlock) s_.2.2.2.2.2.2.2.1 i5) ∧ (Kd.R (Kd.int .i64) 3 w' w.heap.size (fun k_ => some k_ ≠ (s_.2.2.2.2.1 : Value).ownBlock ∧ some k_ ≠ (s_.2.2.2.2.2.2.1 : Value).ownBlock ∧ some k_ ≠ (s_.2.2.2.2.2.2.2.1 : Value).ownBlock ∧ some k_ ≠ (.slice Ao46 a7.length co46 : Value).ownBlock ∧ some k_ ≠ (.slice Ao47 a8.length co47 : Value).ownBlock) (.slice Ao44 a6.length co44) a6) ∧ (Kd.R Kd.bool 4 w' w.heap.size (fun k_ => some k_ ≠ (s_.2.2.2.2.2.1 : Value).ownBlock) (.slice Ao45 b1.length co45) b1) ∧ (Kd.R (Kd.int .i64) 3 w' w.heap.size (fun k_ => some k_ ≠ (s_.2.2.2.2.1 : Value).ownBlock ∧ some k_ ≠ (s_.2.2.2.2.2.2.1 : Value).ownBlock ∧ some k_ ≠ (s_.2.2.2.2.2.2.2.1 : Value).ownBlock ∧ some k_ ≠ (.slice Ao44 a6.length co44 : Value).ownBlock ∧ some k_ ≠ (.slice Ao47 a8.length co47 : Value).ownBlock) (.slice Ao46 a7.length co46) a7) ∧ (Kd.R (Kd.int .i64) 3 w' w.heap.size (fun k_ => some k_ ≠ (s_.2.2.2.2.1 : Value).ownBlock ∧ some k_ ≠ (s_.2.2.2.2.2.2.1 : Value).ownBlock ∧ some k_ ≠ (s_.2.2.2.2.2.2.2.1 : Value).ownBlock ∧ some k_ ≠ (.slice Ao44 a6.length co44 : Value).ownBlock ∧ some k_ ≠ (.slice Ao46 a7.length co46 : Value).ownBlock) (.slice Ao47 a8.length co47) a8) ∧ (w'.heap[d6]? = some (.cells #[.slice none 0 0,.slice none 0 0,.slice none 0 0,.slice none 0 0,.bool e3] 120 (0,0))) ∧ (w'.heap[b4]? = some (.cells #[.slice Ao44 a6.length co44,.slice Ao45 b1.length co45,.slice Ao46 a7.length co46,.slice Ao47 a8.length co47,.bool b6] 120 (0,0))) ∧ (w'.heap[s_.2.2.2.2.2.2.2.2]? = some (.cells #[.slice none 0 0,.slice none 0 0,.slice none 0 0,.slice none 0 0,.bool false] 120 (0,0))) ∧ (w.heap.size ≤ s_.2.2.2.2.2.2.2.2) ∧ (w.heap.size ≤ s_.2.2.2.2.2.2.2.2) ∧ (d6 ≠ s_.2.2.2.2.2.2.2.2) ∧ (s_.2.2.2.2.2.2.2.2 ≠ d6) ∧ (b4 ≠ s_.2.2.2.2.2.2.2.2) ∧ (s_.2.2.2.2.2.2.2.2 ≠ b4) ∧ (Below w.heap.size w w')) ?_ ?_
   rotate_left
   ·intro hCont
    refine two_ (i := 1) (j := 10) (Ni := some 17) (Nj := some 6) (bl_ 63 13) (bl_ 1085 13) rfl rfl rfl rfl (two_of HT_.out (by kernel_rfl)) (by decide) (by decide) (fun K hK => ?_) (fun K hK => ?_)
    ·skip
     refine goes_ Try.func108 (by kernel_rfl) rfl #[.agg #[.slice Ao44 a6.length co44,.slice Ao45 b1.length co45,.slice Ao46 a7.length co46,.slice Ao47 a8.length co47,.bool b6]] (by rfl) rfl rfl zM_ ?_
     with_reducible refine (spec_copyShapes.calls _ _ a6 _ _ b1 _ _ a7 _ _ a8 b6 d9 e0 e1 e2 g4 _ ?side1 ?side2 ?side3 ?side4 ?side5 ?side6 ?side7 ?side8 A13.out).mono ?_
     (case side1 => exact zC_ (Kd.R_reads' a1.out).2.2)
     (case side2 => exact (Kd.R_reads' a1.out).2.1)
     (case side3 => exact zC_ (Kd.R_reads' a5.out).2.2)
     (case side4 => exact (Kd.R_reads' a5.out).2.1)
     (case side5 => exact zC_ (Kd.R_reads' a2.out).2.2)
     (case side6 => exact (Kd.R_reads' a2.out).2.1)
     (case side7 => exact zC_ (Kd.R_reads' a3.out).2.2)
     (case side8 => exact (Kd.R_reads' a3.out).2.1)
     rintro e w49 ⟨v839,v842,v845,v848,rfl,ho0,ho1,ho2,ho3,hb⟩
     refine ⟨_,rfl,?_⟩
     have n0_ := As_ (Kd.R_mono (Kd.R_told (Kd.R_told (Kd.R_told (Kd.R_old (zR_ a1.out) hb) (Kd.R_base ho0)) (Kd.R_base ho2)) (Kd.R_base ho3)) (fun _ h_ => h_.1))
     have n1_ := As_ (Kd.R_elder' (zR_ a5.out) (Kd.R_base ho1) hb)
     have n2_ := As_ (Kd.R_mono (Kd.R_told (Kd.R_told (Kd.R_told (Kd.R_old (zR_ a2.out) hb) (Kd.R_base ho0)) (Kd.R_base ho2)) (Kd.R_base ho3)) (fun _ h_ => h_.1))
     have n3_ := As_ (Kd.R_mono (Kd.R_told (Kd.R_told (Kd.R_told (Kd.R_old (zR_ a3.out) hb) (Kd.R_base ho0)) (Kd.R_base ho2)) (Kd.R_base ho3)) (fun _ h_ => h_.1))
     have n4_ := As_ (Kd.R_lower (Kd.R_new' (Kd.R_new' (Kd.R_new' ho0 (Kd.R_lt (zR_ a1.out))) (Kd.R_lt (zR_ a2.out))) (Kd.R_lt (zR_ a3.out))) (bwZ (zb2 HB.out d1.out d4.out)))
     have n5_ := As_ (Kd.R_lower (Kd.R_new' ho1 (Kd.R_lt (zR_ a5.out))) (bwZ (zb2 HB.out d1.out d4.out)))
     have n6_ := As_ (Kd.R_lower (Kd.R_new' (Kd.R_new' (Kd.R_new' ho2 (Kd.R_lt (zR_ a1.out))) (Kd.R_lt (zR_ a2.out))) (Kd.R_lt (zR_ a3.out))) (bwZ (zb2 HB.out d1.out d4.out)))
     have n7_ := As_ (Kd.R_lower (Kd.R_new' (Kd.R_new' (Kd.R_new' ho3 (Kd.R_lt (zR_ a1.out))) (Kd.R_lt (zR_ a2.out))) (Kd.R_lt (zR_ a3.out))) (bwZ (zb2 HB.out d1.out d4.out)))
     have n8_ := As_ (zkb a9.out hb)
     have n9_ := As_ (zkb a4.out hb)
     have n10_ := As_ (bwT (zb2 HB.out d1.out d4.out) hb)
     clear a1 a5 a2 a3 a9 a4 HB
     revert n0_ n1_ n2_ n3_ n4_ n5_ n6_ n7_ n8_ n9_ n10_;intro a1 a5 a2 a3 b7 b0 b8 b9 a9 a4 HB
     obtain ⟨Ao50,co50,eo50⟩ := Kd.R_slice b7.out
     (first|subst eo50|(injection eo50 with f1_ f2_ f3_;have f4_ := f1_.symm;have f5_ := f3_.symm;clear f1_ f2_ f3_;subst f4_;subst f5_))
     obtain ⟨Ao51,co51,eo51⟩ := Kd.R_slice b0.out
     (first|subst eo51|(injection eo51 with f1_ f2_ f3_;have f4_ := f1_.symm;have f5_ := f3_.symm;clear f1_ f2_ f3_;subst f4_;subst f5_))
     obtain ⟨Ao52,co52,eo52⟩ := Kd.R_slice b8.out
     (first|subst eo52|(injection eo52 with f1_ f2_ f3_;have f4_ := f1_.symm;have f5_ := f3_.symm;clear f1_ f2_ f3_;subst f4_;subst f5_))
     obtain ⟨Ao53,co53,eo53⟩ := Kd.R_slice b9.out
     (first|subst eo53|(injection eo53 with f1_ f2_ f3_;have f4_ := f1_.symm;have f5_ := f3_.symm;clear f1_ f2_ f3_;subst f4_;subst f5_))
     refine hK.out _ _ ⟨(bkC a4.out 0).trans rfl,(bkC a4.out 1).trans rfl,(bkC a4.out 2).trans rfl,(bkC a4.out 3).trans rfl,(bkC a4.out 4).trans rfl,((HB.out.cell (bwL w _ hw851_0)).trans hw851_0),((HB.out.cell (bwL w _ hw851_1)).trans hw851_1)⟩ (fun hHeld => ?_)
     clear hK K
     refine norm_ (a' := ?_) ?_ ?_
     rotate_left
     ·show Act.put _ (some 17) _ = _
      simp only [Act.put,sq_,i64_w,i32_w]
      rfl
     refine two_ (i := 6) (j := 10) (Ni := some 22) (Nj := some 6) (bl_ 127 13) (bl_ 1087 13) rfl rfl rfl rfl (two_of HT_.out (by kernel_rfl)) (by decide) (by decide) (fun K hK => ?_) (fun K hK => ?_)
     ·skip
      refine goes_ Try.func107 (by kernel_rfl) rfl #[.agg #[.slice Ao50 d9.length co50,.slice Ao51 e0.length co51,.slice Ao52 e1.length co52,.slice Ao53 e2.length co53,.bool g4],.agg #[.int .i64 ((rd_T75 l0 d5).f0),.int .i64 ((rd_T75 l0 d5).f1)]] (by rfl) rfl rfl zM_ ?_
      with_reducible refine (spec_stepShapes.calls k1 (fun k_ => some k_ = (.slice Ao50 d9.length co50 : Value).ownBlock) (.slice Ao50 d9.length co50) d9 (fun k_ => some k_ = (.slice Ao51 e0.length co51 : Value).ownBlock) (.slice Ao51 e0.length co51) e0 (fun k_ => some k_ = (.slice Ao52 e1.length co52 : Value).ownBlock) (.slice Ao52 e1.length co52) e1 (fun k_ => some k_ = (.slice Ao53 e2.length co53 : Value).ownBlock) (.slice Ao53 e2.length co53) e2 g4 ((rd_T75 l0 d5).f0) ((rd_T75 l0 d5).f1) i2 i3 i4 i5 i1 false w _ ?side1 ?side2 ?side3 ?side4 ?side5 ?side6 ?side7 ?side8 ?side9 ?side10 ?side11 A15.out).mono ?_
      (case side1 => exact zb2 HB.out d1.out d4.out)
      (case side2 => exact Kd.R_tight rfl b7.out)
      (case side3 => exact fun k_ e_ => (b7.out.1 k_ e_.symm).1.1.1.1)
      (case side4 => exact fun k_ e_ => (b7.out.1 k_ e_.symm).1.1.1.2)
      (case side5 => exact Kd.R_tight rfl b0.out)
      (case side6 => exact Kd.R_tight rfl b8.out)
      (case side7 => exact fun k_ e_ => (b8.out.1 k_ e_.symm).1.1.1.1)
      (case side8 => exact fun k_ e_ => (b8.out.1 k_ e_.symm).1.1.1.2)
      (case side9 => exact Kd.R_tight rfl b9.out)
      (case side10 => exact fun k_ e_ => (b9.out.1 k_ e_.symm).1.1.1.1)
      (case side11 => exact fun k_ e_ => (b9.out.1 k_ e_.symm).1.1.1.2)
      rintro e w54 ⟨v853,v856,v859,v862,rfl,ho0,ho1,ho2,ho3,hb,hkp⟩
      refine ⟨_,rfl,?_⟩
      have n0_ := As_ (Kd.R_mono (ok' := fun k_ => some k_ ≠ (.slice Ao46 a7.length co46 : Value).ownBlock ∧ some k_ ≠ (.slice Ao47 a8.length co47 : Value).ownBlock ∧ some k_ ≠ (v853 : Value).ownBlock ∧ some k_ ≠ (v859 : Value).ownBlock ∧ some k_ ≠ (v862 : Value).ownBlock) (Kd.R_keptB (rA a1.out b0.out) hkp (fun _ hk_ => no4 ⟨hk_.1.1.1.2,hk_.2,hk_.1.1.2,hk_.1.2⟩)) (fun k_ hk_ => ⟨hk_.1.1.1.1.1.1,hk_.1.1.1.1.1.2,nl (ho0.1 k_) hk_.2,nl (ho2.1 k_) hk_.2,nl (ho3.1 k_) hk_.2⟩))
      have n1_ := As_ (Kd.R_mono (ok' := fun k_ => some k_ ≠ (v856 : Value).ownBlock) (Kd.R_keptB (rA (rA (rA a5.out b7.out) b8.out) b9.out) hkp (fun _ hk_ => no4 ⟨hk_.1.1.2,hk_.1.1.1.2,hk_.1.2,hk_.2⟩)) (fun k_ hk_ => nl' (ho1.1 k_) hk_.2))
      have n2_ := As_ (Kd.R_mono (ok' := fun k_ => some k_ ≠ (.slice Ao44 a6.length co44 : Value).ownBlock ∧ some k_ ≠ (.slice Ao47 a8.length co47 : Value).ownBlock ∧ some k_ ≠ (v853 : Value).ownBlock ∧ some k_ ≠ (v859 : Value).ownBlock ∧ some k_ ≠ (v862 : Value).ownBlock) (Kd.R_keptB (rA a2.out b0.out) hkp (fun _ hk_ => no4 ⟨hk_.1.1.1.2,hk_.2,hk_.1.1.2,hk_.1.2⟩)) (fun k_ hk_ => ⟨hk_.1.1.1.1.1.1,hk_.1.1.1.1.1.2,nl (ho0.1 k_) hk_.2,nl (ho2.1 k_) hk_.2,nl (ho3.1 k_) hk_.2⟩))
      have n3_ := As_ (Kd.R_mono (ok' := fun k_ => some k_ ≠ (.slice Ao44 a6.length co44 : Value).ownBlock ∧ some k_ ≠ (.slice Ao46 a7.length co46 : Value).ownBlock ∧ some k_ ≠ (v853 : Value).ownBlock ∧ some k_ ≠ (v859 : Value).ownBlock ∧ some k_ ≠ (v862 : Value).ownBlock) (Kd.R_keptB (rA a3.out b0.out) hkp (fun _ hk_ => no4 ⟨hk_.1.1.1.2,hk_.2,hk_.1.1.2,hk_.1.2⟩)) (fun k_ hk_ => ⟨hk_.1.1.1.1.1.1,hk_.1.1.1.1.1.2,nl (ho0.1 k_) hk_.2,nl (ho2.1 k_) hk_.2,nl (ho3.1 k_) hk_.2⟩))
      have n4_ := As_ (blk_kept (zk_ a9.out) hkp (no4 ⟨rne b7.out a9.out,rne b0.out a9.out,rne b8.out a9.out,rne b9.out a9.out⟩))
      have n5_ := As_ (blk_kept (zk_ a4.out) hkp (no4 ⟨rne b7.out a4.out,rne b0.out a4.out,rne b8.out a4.out,rne b9.out a4.out⟩))
      have n6_ := As_ (Kd.R_mono (ok' := fun k_ => some k_ ≠ (v859 : Value).ownBlock ∧ some k_ ≠ (v862 : Value).ownBlock ∧ some k_ ≠ (.slice Ao44 a6.length co44 : Value).ownBlock ∧ some k_ ≠ (.slice Ao46 a7.length co46 : Value).ownBlock ∧ some k_ ≠ (.slice Ao47 a8.length co47 : Value).ownBlock) ho0 (fun k_ hk_ => ⟨hk_.2.1,hk_.2.2,aw4 (rA a1.out b0.out).1 (Kd.R_lt (zR_ a1.out)) (fun _ h => ⟨h.1.1.1.2,h.2,h.1.1.2,h.1.2⟩) hk_.1,aw4 (rA a2.out b0.out).1 (Kd.R_lt (zR_ a2.out)) (fun _ h => ⟨h.1.1.1.2,h.2,h.1.1.2,h.1.2⟩) hk_.1,aw4 (rA a3.out b0.out).1 (Kd.R_lt (zR_ a3.out)) (fun _ h => ⟨h.1.1.1.2,h.2,h.1.1.2,h.1.2⟩) hk_.1⟩))
      have n7_ := As_ (Kd.R_mono (ok' := fun k_ => some k_ ≠ (.slice Ao45 b1.length co45 : Value).ownBlock) ho1 (fun k_ hk_ => aw4 (rA (rA (rA a5.out b7.out) b8.out) b9.out).1 (Kd.R_lt (zR_ a5.out)) (fun _ h => ⟨h.1.1.2,h.1.1.1.2,h.1.2,h.2⟩) hk_))
      have n8_ := As_ (Kd.R_mono (ok' := fun k_ => some k_ ≠ (v853 : Value).ownBlock ∧ some k_ ≠ (v862 : Value).ownBlock ∧ some k_ ≠ (.slice Ao44 a6.length co44 : Value).ownBlock ∧ some k_ ≠ (.slice Ao46 a7.length co46 : Value).ownBlock ∧ some k_ ≠ (.slice Ao47 a8.length co47 : Value).ownBlock) ho2 (fun k_ hk_ => ⟨hk_.2.1,hk_.2.2,aw4 (rA a1.out b0.out).1 (Kd.R_lt (zR_ a1.out)) (fun _ h => ⟨h.1.1.1.2,h.2,h.1.1.2,h.1.2⟩) hk_.1,aw4 (rA a2.out b0.out).1 (Kd.R_lt (zR_ a2.out)) (fun _ h => ⟨h.1.1.1.2,h.2,h.1.1.2,h.1.2⟩) hk_.1,aw4 (rA a3.out b0.out).1 (Kd.R_lt (zR_ a3.out)) (fun _ h => ⟨h.1.1.1.2,h.2,h.1.1.2,h.1.2⟩) hk_.1⟩))
      have n9_ := As_ (Kd.R_mono (ok' := fun k_ => some k_ ≠ (v853 : Value).ownBlock ∧ some k_ ≠ (v859 : Value).ownBlock ∧ some k_ ≠ (.slice Ao44 a6.length co44 : Value).ownBlock ∧ some k_ ≠ (.slice Ao46 a7.length co46 : Value).ownBlock ∧ some k_ ≠ (.slice Ao47 a8.length co47 : Value).ownBlock) ho3 (fun k_ hk_ => ⟨hk_.2.1,hk_.2.2,aw4 (rA a1.out b0.out).1 (Kd.R_lt (zR_ a1.out)) (fun _ h => ⟨h.1.1.1.2,h.2,h.1.1.2,h.1.2⟩) hk_.1,aw4 (rA a2.out b0.out).1 (Kd.R_lt (zR_ a2.out)) (fun _ h => ⟨h.1.1.1.2,h.2,h.1.1.2,h.1.2⟩) hk_.1,aw4 (rA a3.out b0.out).1 (Kd.R_lt (zR_ a3.out)) (fun _ h => ⟨h.1.1.1.2,h.2,h.1.1.2,h.1.2⟩) hk_.1⟩))
      have n10_ := As_ (hb)
      clear a1 a5 a2 a3 a9 a4 HB b7 b0 b8 b9
      revert n0_ n1_ n2_ n3_ n4_ n5_ n6_ n7_ n8_ n9_ n10_;intro a1 a5 a2 a3 a9 a4 e4 e5 e6 e7 HB
      refine hK.out _ _ ⟨(bkC a4.out 0).trans rfl,(bkC a4.out 1).trans rfl,(bkC a4.out 2).trans rfl,(bkC a4.out 3).trans rfl,(bkC a4.out 4).trans rfl,((HB.out.cell (bwL w _ hw851_0)).trans hw851_0),((HB.out.cell (bwL w _ hw851_1)).trans hw851_1)⟩ (fun hHeld => ?_)
      clear hK K
      refine norm_ (a' := ?_) ?_ ?_
      rotate_left
      ·show Act.put _ (some 22) _ = _
       simp only [Act.put,sq_,i64_w,i32_w]
       rfl
      refine pQ 7 15 (bl_ 255 13) HT_ rfl ?_
      refine pQ 8 23 (bl_ 511 13) HT_ rfl ?_
      refine pQ 9 24 (bl_ 1023 13) HT_ rfl ?_
      refine one_ (i := 10) (N := some 6) (bl_ 2047 13) rfl rfl (one_of HT_.out (by kernel_rfl)) (by decide) (fun K hK => ?_)
      refine box_step ?hg (N := 6) ?hd (cs := #[.slice none 0 0,.slice none 0 0,.slice none 0 0,.slice none 0 0,.bool false]) (t := 120) ?hr ?_;(case hd => rfl);(case hg => rfl);(case hr => go_simp <;> rfl)
      intro b5 hg w55 hbox hb
      have n0_ := As_ (Kd.R_below (zR_ a1.out) hb)
      have n1_ := As_ (Kd.R_below (zR_ a5.out) hb)
      have n2_ := As_ (Kd.R_below (zR_ a2.out) hb)
      have n3_ := As_ (Kd.R_below (zR_ a3.out) hb)
      have n4_ := As_ (Kd.R_below (zR_ e4.out) hb)
      have n5_ := As_ (Kd.R_below (zR_ e5.out) hb)
      have n6_ := As_ (Kd.R_below (zR_ e6.out) hb)
      have n7_ := As_ (Kd.R_below (zR_ e7.out) hb)
      have n8_ := As_ (zkb a9.out hb)
      have n9_ := As_ (zkb a4.out hb)
      have n10_ := As_ (bwT (zb2 HB.out d1.out d4.out) hb)
      have n11_ := As_ (hbox)
      have n12_ := As_ ((by rw [hg];exact (bwZ (zb2 HB.out d1.out d4.out)) : w.heap.size ≤ b5))
      have n13_ := As_ ((by rw [hg];exact (bwZ (zb2 HB.out d1.out d4.out)) : w.heap.size ≤ b5))
      have n14_ := As_ ((by rw [hg];exact Nat.ne_of_lt (zkl a9.out) : d6 ≠ b5))
      have n15_ := As_ ((by rw [hg];exact Nat.ne_of_gt (zkl a9.out) : b5 ≠ d6))
      have n16_ := As_ ((by rw [hg];exact Nat.ne_of_lt (zkl a4.out) : b4 ≠ b5))
      have n17_ := As_ ((by rw [hg];exact Nat.ne_of_gt (zkl a4.out) : b5 ≠ b4))
      clear a1 a5 a2 a3 e4 e5 e6 e7 a9 a4 HB
      revert n0_ n1_ n2_ n3_ n4_ n5_ n6_ n7_ n8_ n9_ n10_ n11_ n12_ n13_ n14_ n15_ n16_ n17_;intro a1 a5 a2 a3 e4 e5 e6 e7 a9 a4 HB b3 d8 d7 d0 d2 b2 d3
      clear hb hbox hg
      refine hK.out _ _ ⟨(bkC a4.out 0).trans rfl,(bkC a4.out 1).trans rfl,(bkC a4.out 2).trans rfl,(bkC a4.out 3).trans rfl,(bkC a4.out 4).trans rfl,((HB.out.cell (bwL w _ hw851_0)).trans hw851_0),((HB.out.cell (bwL w _ hw851_1)).trans hw851_1)⟩ (fun hHeld => ?_)
      clear hK K
      refine norm_ (a' := ?_) ?_ ?_
      rotate_left
      ·show Act.put _ (some 6) _ = _
       simp only [Act.put,sq_,i64_w,i32_w]
       rfl
      exact norm_ (by simp only [putAll,Act.put,List.setIfInBounds_toArray,List.set_cons_zero,List.set_cons_succ]) (hCont (.slice Ao50 d9.length co50,.slice Ao51 e0.length co51,.slice Ao52 e1.length co52,.slice Ao53 e2.length co53,v853,v856,v859,v862,b5) _ ⟨hHeld,(zR_ e4.out),(zR_ e5.out),(zR_ e6.out),(zR_ e7.out),(by exact Kd.R_mono a1.out (fun _ hk => ⟨hk.2.2.1,⟨hk.2.2.2.1,⟨hk.2.2.2.2,⟨hk.1,hk.2.1⟩⟩⟩⟩)),(zR_ a5.out),(by exact Kd.R_mono a2.out (fun _ hk => ⟨hk.2.2.1,⟨hk.2.2.2.1,⟨hk.2.2.2.2,⟨hk.1,hk.2.1⟩⟩⟩⟩)),(by exact Kd.R_mono a3.out (fun _ hk => ⟨hk.2.2.1,⟨hk.2.2.2.1,⟨hk.2.2.2.2,⟨hk.1,hk.2.1⟩⟩⟩⟩)),(zk_ a9.out),(zk_ a4.out),(zk_ b3.out),d8.out,d7.out,d0.out,d2.out,b2.out,d3.out,(zb3 HB.out d1.out d4.out d7.out)⟩)
     ·skip
      refine box_step ?hg (N := 6) ?hd (cs := #[.slice none 0 0,.slice none 0 0,.slice none 0 0,.slice none 0 0,.bool false]) (t := 120) ?hr ?_;(case hd => rfl);(case hg => rfl);(case hr => go_simp <;> rfl)
      intro b5 hg w50 hbox hb
      have n0_ := As_ (Kd.R_below (zR_ a1.out) hb)
      have n1_ := As_ (Kd.R_below (zR_ a5.out) hb)
      have n2_ := As_ (Kd.R_below (zR_ a2.out) hb)
      have n3_ := As_ (Kd.R_below (zR_ a3.out) hb)
      have n4_ := As_ (Kd.R_below (zR_ b7.out) hb)
      have n5_ := As_ (Kd.R_below (zR_ b0.out) hb)
      have n6_ := As_ (Kd.R_below (zR_ b8.out) hb)
      have n7_ := As_ (Kd.R_below (zR_ b9.out) hb)
      have n8_ := As_ (zkb a9.out hb)
      have n9_ := As_ (zkb a4.out hb)
      have n10_ := As_ (bwT (zb2 HB.out d1.out d4.out) hb)
      have n11_ := As_ (hbox)
      have n12_ := As_ ((by rw [hg];exact (bwZ (zb2 HB.out d1.out d4.out)) : w.heap.size ≤ b5))
      have n13_ := As_ ((by rw [hg];exact (bwZ (zb2 HB.out d1.out d4.out)) : w.heap.size ≤ b5))
      have n14_ := As_ ((by rw [hg];exact Nat.ne_of_lt (zkl a9.out) : d6 ≠ b5))
      have n15_ := As_ ((by rw [hg];exact Nat.ne_of_gt (zkl a9.out) : b5 ≠ d6))
      have n16_ := As_ ((by rw [hg];exact Nat.ne_of_lt (zkl a4.out) : b4 ≠ b5))
      have n17_ := As_ ((by rw [hg];exact Nat.ne_of_gt (zkl a4.out) : b5 ≠ b4))
      clear a1 a5 a2 a3 b7 b0 b8 b9 a9 a4 HB
      revert n0_ n1_ n2_ n3_ n4_ n5_ n6_ n7_ n8_ n9_ n10_ n11_ n12_ n13_ n14_ n15_ n16_ n17_;intro a1 a5 a2 a3 b7 b0 b8 b9 a9 a4 HB b3 d8 d7 d0 d2 b2 d3
      clear hb hbox hg
      obtain ⟨Ao51,co51,eo51⟩ := Kd.R_slice b7.out
      (first|subst eo51|(injection eo51 with f1_ f2_ f3_;have f4_ := f1_.symm;have f5_ := f3_.symm;clear f1_ f2_ f3_;subst f4_;subst f5_))
      obtain ⟨Ao52,co52,eo52⟩ := Kd.R_slice b0.out
      (first|subst eo52|(injection eo52 with f1_ f2_ f3_;have f4_ := f1_.symm;have f5_ := f3_.symm;clear f1_ f2_ f3_;subst f4_;subst f5_))
      obtain ⟨Ao53,co53,eo53⟩ := Kd.R_slice b8.out
      (first|subst eo53|(injection eo53 with f1_ f2_ f3_;have f4_ := f1_.symm;have f5_ := f3_.symm;clear f1_ f2_ f3_;subst f4_;subst f5_))
      obtain ⟨Ao54,co54,eo54⟩ := Kd.R_slice b9.out
      (first|subst eo54|(injection eo54 with f1_ f2_ f3_;have f4_ := f1_.symm;have f5_ := f3_.symm;clear f1_ f2_ f3_;subst f4_;subst f5_))
      refine hK.out _ _ ⟨(bkC a4.out 0).trans rfl,(bkC a4.out 1).trans rfl,(bkC a4.out 2).trans rfl,(bkC a4.out 3).trans rfl,(bkC a4.out 4).trans rfl,((HB.out.cell (bwL w _ hw851_0)).trans hw851_0),((HB.out.cell (bwL w _ hw851_1)).trans hw851_1)⟩ (fun hHeld => ?_)
      clear hK K
      refine norm_ (a' := ?_) ?_ ?_
      rotate_left
      ·show Act.put _ (some 6) _ = _
       simp only [Act.put,sq_,i64_w,i32_w]
       rfl
      refine one_ (i := 6) (N := some 22) (bl_ 1151 13) rfl rfl (one_of HT_.out (by kernel_rfl)) (by decide) (fun K hK => ?_)
      refine goes_ Try.func107 (by kernel_rfl) rfl #[.agg #[.slice Ao51 d9.length co51,.slice Ao52 e0.length co52,.slice Ao53 e1.length co53,.slice Ao54 e2.length co54,.bool g4],.agg #[.int .i64 ((rd_T75 l0 d5).f0),.int .i64 ((rd_T75 l0 d5).f1)]] (by rfl) rfl rfl zM_ ?_
      with_reducible refine (spec_stepShapes.calls k1 (fun k_ => some k_ = (.slice Ao51 d9.length co51 : Value).ownBlock) (.slice Ao51 d9.length co51) d9 (fun k_ => some k_ = (.slice Ao52 e0.length co52 : Value).ownBlock) (.slice Ao52 e0.length co52) e0 (fun k_ => some k_ = (.slice Ao53 e1.length co53 : Value).ownBlock) (.slice Ao53 e1.length co53) e1 (fun k_ => some k_ = (.slice Ao54 e2.length co54 : Value).ownBlock) (.slice Ao54 e2.length co54) e2 g4 ((rd_T75 l0 d5).f0) ((rd_T75 l0 d5).f1) i2 i3 i4 i5 i1 false w _ ?side1 ?side2 ?side3 ?side4 ?side5 ?side6 ?side7 ?side8 ?side9 ?side10 ?side11 A15.out).mono ?_
      (case side1 => exact zb3 HB.out d1.out d4.out d7.out)
      (case side2 => exact Kd.R_tight rfl b7.out)
      (case side3 => exact fun k_ e_ => (b7.out.1 k_ e_.symm).1.1.1.1)
      (case side4 => exact fun k_ e_ => (b7.out.1 k_ e_.symm).1.1.1.2)
      (case side5 => exact Kd.R_tight rfl b0.out)
      (case side6 => exact Kd.R_tight rfl b8.out)
      (case side7 => exact fun k_ e_ => (b8.out.1 k_ e_.symm).1.1.1.1)
      (case side8 => exact fun k_ e_ => (b8.out.1 k_ e_.symm).1.1.1.2)
      (case side9 => exact Kd.R_tight rfl b9.out)
      (case side10 => exact fun k_ e_ => (b9.out.1 k_ e_.symm).1.1.1.1)
      (case side11 => exact fun k_ e_ => (b9.out.1 k_ e_.symm).1.1.1.2)
      rintro e w55 ⟨v853,v856,v859,v862,rfl,ho0,ho1,ho2,ho3,hb,hkp⟩
      refine ⟨_,rfl,?_⟩
      have n0_ := As_ (Kd.R_mono (ok' := fun k_ => some k_ ≠ (.slice Ao46 a7.length co46 : Value).ownBlock ∧ some k_ ≠ (.slice Ao47 a8.length co47 : Value).ownBlock ∧ some k_ ≠ (v853 : Value).ownBlock ∧ some k_ ≠ (v859 : Value).ownBlock ∧ some k_ ≠ (v862 : Value).ownBlock) (Kd.R_keptB (rA a1.out b0.out) hkp (fun _ hk_ => no4 ⟨hk_.1.1.1.2,hk_.2,hk_.1.1.2,hk_.1.2⟩)) (fun k_ hk_ => ⟨hk_.1.1.1.1.1.1,hk_.1.1.1.1.1.2,nl (ho0.1 k_) hk_.2,nl (ho2.1 k_) hk_.2,nl (ho3.1 k_) hk_.2⟩))
      have n1_ := As_ (Kd.R_mono (ok' := fun k_ => some k_ ≠ (v856 : Value).ownBlock) (Kd.R_keptB (rA (rA (rA a5.out b7.out) b8.out) b9.out) hkp (fun _ hk_ => no4 ⟨hk_.1.1.2,hk_.1.1.1.2,hk_.1.2,hk_.2⟩)) (fun k_ hk_ => nl' (ho1.1 k_) hk_.2))
      have n2_ := As_ (Kd.R_mono (ok' := fun k_ => some k_ ≠ (.slice Ao44 a6.length co44 : Value).ownBlock ∧ some k_ ≠ (.slice Ao47 a8.length co47 : Value).ownBlock ∧ some k_ ≠ (v853 : Value).ownBlock ∧ some k_ ≠ (v859 : Value).ownBlock ∧ some k_ ≠ (v862 : Value).ownBlock) (Kd.R_keptB (rA a2.out b0.out) hkp (fun _ hk_ => no4 ⟨hk_.1.1.1.2,hk_.2,hk_.1.1.2,hk_.1.2⟩)) (fun k_ hk_ => ⟨hk_.1.1.1.1.1.1,hk_.1.1.1.1.1.2,nl (ho0.1 k_) hk_.2,nl (ho2.1 k_) hk_.2,nl (ho3.1 k_) hk_.2⟩))
      have n3_ := As_ (Kd.R_mono (ok' := fun k_ => some k_ ≠ (.slice Ao44 a6.length co44 : Value).ownBlock ∧ some k_ ≠ (.slice Ao46 a7.length co46 : Value).ownBlock ∧ some k_ ≠ (v853 : Value).ownBlock ∧ some k_ ≠ (v859 : Value).ownBlock ∧ some k_ ≠ (v862 : Value).ownBlock) (Kd.R_keptB (rA a3.out b0.out) hkp (fun _ hk_ => no4 ⟨hk_.1.1.1.2,hk_.2,hk_.1.1.2,hk_.1.2⟩)) (fun k_ hk_ => ⟨hk_.1.1.1.1.1.1,hk_.1.1.1.1.1.2,nl (ho0.1 k_) hk_.2,nl (ho2.1 k_) hk_.2,nl (ho3.1 k_) hk_.2⟩))
      have n4_ := As_ (blk_kept (zk_ a9.out) hkp (no4 ⟨rne b7.out a9.out,rne b0.out a9.out,rne b8.out a9.out,rne b9.out a9.out⟩))
      have n5_ := As_ (blk_kept (zk_ a4.out) hkp (no4 ⟨rne b7.out a4.out,rne b0.out a4.out,rne b8.out a4.out,rne b9.out a4.out⟩))
      have n6_ := As_ (blk_kept (zk_ b3.out) hkp (no4 ⟨rne b7.out b3.out,rne b0.out b3.out,rne b8.out b3.out,rne b9.out b3.out⟩))
      have n7_ := As_ (Kd.R_mono (ok' := fun k_ => some k_ ≠ (v859 : Value).ownBlock ∧ some k_ ≠ (v862 : Value).ownBlock ∧ some k_ ≠ (.slice Ao44 a6.length co44 : Value).ownBlock ∧ some k_ ≠ (.slice Ao46 a7.length co46 : Value).ownBlock ∧ some k_ ≠ (.slice Ao47 a8.length co47 : Value).ownBlock) ho0 (fun k_ hk_ => ⟨hk_.2.1,hk_.2.2,aw4 (rA a1.out b0.out).1 (Kd.R_lt (zR_ a1.out)) (fun _ h => ⟨h.1.1.1.2,h.2,h.1.1.2,h.1.2⟩) hk_.1,aw4 (rA a2.out b0.out).1 (Kd.R_lt (zR_ a2.out)) (fun _ h => ⟨h.1.1.1.2,h.2,h.1.1.2,h.1.2⟩) hk_.1,aw4 (rA a3.out b0.out).1 (Kd.R_lt (zR_ a3.out)) (fun _ h => ⟨h.1.1.1.2,h.2,h.1.1.2,h.1.2⟩) hk_.1⟩))
      have n8_ := As_ (Kd.R_mono (ok' := fun k_ => some k_ ≠ (.slice Ao45 b1.length co45 : Value).ownBlock) ho1 (fun k_ hk_ => aw4 (rA (rA (rA a5.out b7.out) b8.out) b9.out).1 (Kd.R_lt (zR_ a5.out)) (fun _ h => ⟨h.1.1.2,h.1.1.1.2,h.1.2,h.2⟩) hk_))
      have n9_ := As_ (Kd.R_mono (ok' := fun k_ => some k_ ≠ (v853 : Value).ownBlock ∧ some k_ ≠ (v862 : Value).ownBlock ∧ some k_ ≠ (.slice Ao44 a6.length co44 : Value).ownBlock ∧ some k_ ≠ (.slice Ao46 a7.length co46 : Value).ownBlock ∧ some k_ ≠ (.slice Ao47 a8.length co47 : Value).ownBlock) ho2 (fun k_ hk_ => ⟨hk_.2.1,hk_.2.2,aw4 (rA a1.out b0.out).1 (Kd.R_lt (zR_ a1.out)) (fun _ h => ⟨h.1.1.1.2,h.2,h.1.1.2,h.1.2⟩) hk_.1,aw4 (rA a2.out b0.out).1 (Kd.R_lt (zR_ a2.out)) (fun _ h => ⟨h.1.1.1.2,h.2,h.1.1.2,h.1.2⟩) hk_.1,aw4 (rA a3.out b0.out).1 (Kd.R_lt (zR_ a3.out)) (fun _ h => ⟨h.1.1.1.2,h.2,h.1.1.2,h.1.2⟩) hk_.1⟩))
      have n10_ := As_ (Kd.R_mono (ok' := fun k_ => some k_ ≠ (v853 : Value).ownBlock ∧ some k_ ≠ (v859 : Value).ownBlock ∧ some k_ ≠ (.slice Ao44 a6.length co44 : Value).ownBlock ∧ some k_ ≠ (.slice Ao46 a7.length co46 : Value).ownBlock ∧ some k_ ≠ (.slice Ao47 a8.length co47 : Value).ownBlock) ho3 (fun k_ hk_ => ⟨hk_.2.1,hk_.2.2,aw4 (rA a1.out b0.out).1 (Kd.R_lt (zR_ a1.out)) (fun _ h => ⟨h.1.1.1.2,h.2,h.1.1.2,h.1.2⟩) hk_.1,aw4 (rA a2.out b0.out).1 (Kd.R_lt (zR_ a2.out)) (fun _ h => ⟨h.1.1.1.2,h.2,h.1.1.2,h.1.2⟩) hk_.1,aw4 (rA a3.out b0.out).1 (Kd.R_lt (zR_ a3.out)) (fun _ h => ⟨h.1.1.1.2,h.2,h.1.1.2,h.1.2⟩) hk_.1⟩))
      have n11_ := As_ (hb)
      clear a1 a5 a2 a3 a9 a4 b3 HB b7 b0 b8 b9
      revert n0_ n1_ n2_ n3_ n4_ n5_ n6_ n7_ n8_ n9_ n10_ n11_;intro a1 a5 a2 a3 a9 a4 b3 e4 e5 e6 e7 HB
      refine hK.out _ _ ⟨(bkC a4.out 0).trans rfl,(bkC a4.out 1).trans rfl,(bkC a4.out 2).trans rfl,(bkC a4.out 3).trans rfl,(bkC a4.out 4).trans rfl,((HB.out.cell (bwL w _ hw851_0)).trans hw851_0),((HB.out.cell (bwL w _ hw851_1)).trans hw851_1)⟩ (fun hHeld => ?_)
      clear hK K
      refine norm_ (a' := ?_) ?_ ?_
      rotate_left
      ·show Act.put _ (some 22) _ = _
       simp only [Act.put,sq_,i64_w,i32_w]
       rfl
      refine pQ 7 15 (bl_ 1279 13) HT_ rfl ?_
      refine pQ 8 23 (bl_ 1535 13) HT_ rfl ?_
      refine pQ 9 24 (bl_ 2047 13) HT_ rfl ?_
      exact norm_ (by simp only [putAll,Act.put,List.setIfInBounds_toArray,List.set_cons_zero,List.set_cons_succ]) (hCont (.slice Ao51 d9.length co51,.slice Ao52 e0.length co52,.slice Ao53 e1.length co53,.slice Ao54 e2.length co54,v853,v856,v859,v862,b5) _ ⟨hHeld,(zR_ e4.out),(zR_ e5.out),(zR_ e6.out),(zR_ e7.out),(by exact Kd.R_mono a1.out (fun _ hk => ⟨hk.2.2.1,⟨hk.2.2.2.1,⟨hk.2.2.2.2,⟨hk.1,hk.2.1⟩⟩⟩⟩)),(zR_ a5.out),(by exact Kd.R_mono a2.out (fun _ hk => ⟨hk.2.2.1,⟨hk.2.2.2.1,⟨hk.2.2.2.2,⟨hk.1,hk.2.1⟩⟩⟩⟩)),(by exact Kd.R_mono a3.out (fun _ hk => ⟨hk.2.2.1,⟨hk.2.2.2.1,⟨hk.2.2.2.2,⟨hk.1,hk.2.1⟩⟩⟩⟩)),(zk_ a9.out),(zk_ a4.out),(zk_ b3.out),d8.out,d7.out,d0.out,d2.out,b2.out,d3.out,(zb3 HB.out d1.out d4.out d7.out)⟩)
    ·skip
     refine box_step ?hg (N := 6) ?hd (cs := #[.slice none 0 0,.slice none 0 0,.slice none 0 0,.slice none 0 0,.bool false]) (t := 120) ?hr ?_;(case hd => rfl);(case hg => rfl);(case hr => go_simp <;> rfl)
     intro b5 hg w49 hbox hb
     have n0_ := As_ (Kd.R_below (zR_ a1.out) hb)
     have n1_ := As_ (Kd.R_below (zR_ a5.out) hb)
     have n2_ := As_ (Kd.R_below (zR_ a2.out) hb)
     have n3_ := As_ (Kd.R_below (zR_ a3.out) hb)
     have n4_ := As_ (zkb a9.out hb)
     have n5_ := As_ (zkb a4.out hb)
     have n6_ := As_ (bwT (zb2 HB.out d1.out d4.out) hb)
     have n7_ := As_ (hbox)
     have n8_ := As_ ((by rw [hg];exact (bwZ (zb2 HB.out d1.out d4.out)) : w.heap.size ≤ b5))
     have n9_ := As_ ((by rw [hg];exact (bwZ (zb2 HB.out d1.out d4.out)) : w.heap.size ≤ b5))
     have n10_ := As_ ((by rw [hg];exact Nat.ne_of_lt (zkl a9.out) : d6 ≠ b5))
     have n11_ := As_ ((by rw [hg];exact Nat.ne_of_gt (zkl a9.out) : b5 ≠ d6))
     have n12_ := As_ ((by rw [hg];exact Nat.ne_of_lt (zkl a4.out) : b4 ≠ b5))
     have n13_ := As_ ((by rw [hg];exact Nat.ne_of_gt (zkl a4.out) : b5 ≠ b4))
     clear a1 a5 a2 a3 a9 a4 HB
     revert n0_ n1_ n2_ n3_ n4_ n5_ n6_ n7_ n8_ n9_ n10_ n11_ n12_ n13_;intro a1 a5 a2 a3 a9 a4 HB b3 d8 d7 d0 d2 b2 d3
     clear hb hbox hg
     refine hK.out _ _ ⟨(bkC a4.out 0).trans rfl,(bkC a4.out 1).trans rfl,(bkC a4.out 2).trans rfl,(bkC a4.out 3).trans rfl,(bkC a4.out 4).trans rfl,((HB.out.cell (bwL w _ hw851_0)).trans hw851_0),((HB.out.cell (bwL w _ hw851_1)).trans hw851_1)⟩ (fun hHeld => ?_)
     clear hK K
     refine norm_ (a' := ?_) ?_ ?_
     rotate_left
     ·show Act.put _ (some 6) _ = _
      simp only [Act.put,sq_,i64_w,i32_w]
      rfl
     refine one_ (i := 1) (N := some 17) (bl_ 1087 13) rfl rfl (one_of HT_.out (by kernel_rfl)) (by decide) (fun K hK => ?_)
     refine goes_ Try.func108 (by kernel_rfl) rfl #[.agg #[.slice Ao44 a6.length co44,.slice Ao45 b1.length co45,.slice Ao46 a7.length co46,.slice Ao47 a8.length co47,.bool b6]] (by rfl) rfl rfl zM_ ?_
     with_reducible refine (spec_copyShapes.calls _ _ a6 _ _ b1 _ _ a7 _ _ a8 b6 d9 e0 e1 e2 g4 _ ?side1 ?side2 ?side3 ?side4 ?side5 ?side6 ?side7 ?side8 A13.out).mono ?_
     (case side1 => exact zC_ (Kd.R_reads' a1.out).2.2)
     (case side2 => exact (Kd.R_reads' a1.out).2.1)
     (case side3 => exact zC_ (Kd.R_reads' a5.out).2.2)
     (case side4 => exact (Kd.R_reads' a5.out).2.1)
     (case side5 => exact zC_ (Kd.R_reads' a2.out).2.2)
     (case side6 => exact (Kd.R_reads' a2.out).2.1)
     (case side7 => exact zC_ (Kd.R_reads' a3.out).2.2)
     (case side8 => exact (Kd.R_reads' a3.out).2.1)
     rintro e w50 ⟨v839,v842,v845,v848,rfl,ho0,ho1,ho2,ho3,hb⟩
     refine ⟨_,rfl,?_⟩
     have n0_ := As_ (Kd.R_mono (Kd.R_told (Kd.R_told (Kd.R_told (Kd.R_old (zR_ a1.out) hb) (Kd.R_base ho0)) (Kd.R_base ho2)) (Kd.R_base ho3)) (fun _ h_ => h_.1))
     have n1_ := As_ (Kd.R_elder' (zR_ a5.out) (Kd.R_base ho1) hb)
     have n2_ := As_ (Kd.R_mono (Kd.R_told (Kd.R_told (Kd.R_told (Kd.R_old (zR_ a2.out) hb) (Kd.R_base ho0)) (Kd.R_base ho2)) (Kd.R_base ho3)) (fun _ h_ => h_.1))
     have n3_ := As_ (Kd.R_mono (Kd.R_told (Kd.R_told (Kd.R_told (Kd.R_old (zR_ a3.out) hb) (Kd.R_base ho0)) (Kd.R_base ho2)) (Kd.R_base ho3)) (fun _ h_ => h_.1))
     have n4_ := As_ (Kd.R_lower (Kd.R_new' (Kd.R_new' (Kd.R_new' ho0 (Kd.R_lt (zR_ a1.out))) (Kd.R_lt (zR_ a2.out))) (Kd.R_lt (zR_ a3.out))) (bwZ (zb3 HB.out d1.out d4.out d7.out)))
     have n5_ := As_ (Kd.R_lower (Kd.R_new' ho1 (Kd.R_lt (zR_ a5.out))) (bwZ (zb3 HB.out d1.out d4.out d7.out)))
     have n6_ := As_ (Kd.R_lower (Kd.R_new' (Kd.R_new' (Kd.R_new' ho2 (Kd.R_lt (zR_ a1.out))) (Kd.R_lt (zR_ a2.out))) (Kd.R_lt (zR_ a3.out))) (bwZ (zb3 HB.out d1.out d4.out d7.out)))
     have n7_ := As_ (Kd.R_lower (Kd.R_new' (Kd.R_new' (Kd.R_new' ho3 (Kd.R_lt (zR_ a1.out))) (Kd.R_lt (zR_ a2.out))) (Kd.R_lt (zR_ a3.out))) (bwZ (zb3 HB.out d1.out d4.out d7.out)))
     have n8_ := As_ (zkb a9.out hb)
     have n9_ := As_ (zkb a4.out hb)
     have n10_ := As_ (zkb b3.out hb)
     have n11_ := As_ (bwT (zb3 HB.out d1.out d4.out d7.out) hb)
     clear a1 a5 a2 a3 a9 a4 b3 HB
     revert n0_ n1_ n2_ n3_ n4_ n5_ n6_ n7_ n8_ n9_ n10_ n11_;intro a1 a5 a2 a3 b7 b0 b8 b9 a9 a4 b3 HB
     obtain ⟨Ao51,co51,eo51⟩ := Kd.R_slice b7.out
     (first|subst eo51|(injection eo51 with f1_ f2_ f3_;have f4_ := f1_.symm;have f5_ := f3_.symm;clear f1_ f2_ f3_;subst f4_;subst f5_))
     obtain ⟨Ao52,co52,eo52⟩ := Kd.R_slice b0.out
     (first|subst eo52|(injection eo52 with f1_ f2_ f3_;have f4_ := f1_.symm;have f5_ := f3_.symm;clear f1_ f2_ f3_;subst f4_;subst f5_))
     obtain ⟨Ao53,co53,eo53⟩ := Kd.R_slice b8.out
     (first|subst eo53|(injection eo53 with f1_ f2_ f3_;have f4_ := f1_.symm;have f5_ := f3_.symm;clear f1_ f2_ f3_;subst f4_;subst f5_))
     obtain ⟨Ao54,co54,eo54⟩ := Kd.R_slice b9.out
     (first|subst eo54|(injection eo54 with f1_ f2_ f3_;have f4_ := f1_.symm;have f5_ := f3_.symm;clear f1_ f2_ f3_;subst f4_;subst f5_))
     refine hK.out _ _ ⟨(bkC a4.out 0).trans rfl,(bkC a4.out 1).trans rfl,(bkC a4.out 2).trans rfl,(bkC a4.out 3).trans rfl,(bkC a4.out 4).trans rfl,((HB.out.cell (bwL w _ hw851_0)).trans hw851_0),((HB.out.cell (bwL w _ hw851_1)).trans hw851_1)⟩ (fun hHeld => ?_)
     clear hK K
     refine norm_ (a' := ?_) ?_ ?_
     rotate_left
     ·show Act.put _ (some 17) _ = _
      simp only [Act.put,sq_,i64_w,i32_w]
      rfl
     refine one_ (i := 6) (N := some 22) (bl_ 1151 13) rfl rfl (one_of HT_.out (by kernel_rfl)) (by decide) (fun K hK => ?_)
     refine goes_ Try.func107 (by kernel_rfl) rfl #[.agg #[.slice Ao51 d9.length co51,.slice Ao52 e0.length co52,.slice Ao53 e1.length co53,.slice Ao54 e2.length co54,.bool g4],.agg #[.int .i64 ((rd_T75 l0 d5).f0),.int .i64 ((rd_T75 l0 d5).f1)]] (by rfl) rfl rfl zM_ ?_
     with_reducible refine (spec_stepShapes.calls k1 (fun k_ => some k_ = (.slice Ao51 d9.length co51 : Value).ownBlock) (.slice Ao51 d9.length co51) d9 (fun k_ => some k_ = (.slice Ao52 e0.length co52 : Value).ownBlock) (.slice Ao52 e0.length co52) e0 (fun k_ => some k_ = (.slice Ao53 e1.length co53 : Value).ownBlock) (.slice Ao53 e1.length co53) e1 (fun k_ => some k_ = (.slice Ao54 e2.length co54 : Value).ownBlock) (.slice Ao54 e2.length co54) e2 g4 ((rd_T75 l0 d5).f0) ((rd_T75 l0 d5).f1) i2 i3 i4 i5 i1 false w _ ?side1 ?side2 ?side3 ?side4 ?side5 ?side6 ?side7 ?side8 ?side9 ?side10 ?side11 A15.out).mono ?_
     (case side1 => exact zb3 HB.out d1.out d4.out d7.out)
     (case side2 => exact Kd.R_tight rfl b7.out)
     (case side3 => exact fun k_ e_ => (b7.out.1 k_ e_.symm).1.1.1.1)
     (case side4 => exact fun k_ e_ => (b7.out.1 k_ e_.symm).1.1.1.2)
     (case side5 => exact Kd.R_tight rfl b0.out)
     (case side6 => exact Kd.R_tight rfl b8.out)
     (case side7 => exact fun k_ e_ => (b8.out.1 k_ e_.symm).1.1.1.1)
     (case side8 => exact fun k_ e_ => (b8.out.1 k_ e_.symm).1.1.1.2)
     (case side9 => exact Kd.R_tight rfl b9.out)
     (case side10 => exact fun k_ e_ => (b9.out.1 k_ e_.symm).1.1.1.1)
     (case side11 => exact fun k_ e_ => (b9.out.1 k_ e_.symm).1.1.1.2)
     rintro e w55 ⟨v853,v856,v859,v862,rfl,ho0,ho1,ho2,ho3,hb,hkp⟩
     refine ⟨_,rfl,?_⟩
     have n0_ := As_ (Kd.R_mono (ok' := fun k_ => some k_ ≠ (.slice Ao46 a7.length co46 : Value).ownBlock ∧ some k_ ≠ (.slice Ao47 a8.length co47 : Value).ownBlock ∧ some k_ ≠ (v853 : Value).ownBlock ∧ some k_ ≠ (v859 : Value).ownBlock ∧ some k_ ≠ (v862 : Value).ownBlock) (Kd.R_keptB (rA a1.out b0.out) hkp (fun _ hk_ => no4 ⟨hk_.1.1.1.2,hk_.2,hk_.1.1.2,hk_.1.2⟩)) (fun k_ hk_ => ⟨hk_.1.1.1.1.1.1,hk_.1.1.1.1.1.2,nl (ho0.1 k_) hk_.2,nl (ho2.1 k_) hk_.2,nl (ho3.1 k_) hk_.2⟩))
     have n1_ := As_ (Kd.R_mono (ok' := fun k_ => some k_ ≠ (v856 : Value).ownBlock) (Kd.R_keptB (rA (rA (rA a5.out b7.out) b8.out) b9.out) hkp (fun _ hk_ => no4 ⟨hk_.1.1.2,hk_.1.1.1.2,hk_.1.2,hk_.2⟩)) (fun k_ hk_ => nl' (ho1.1 k_) hk_.2))
     have n2_ := As_ (Kd.R_mono (ok' := fun k_ => some k_ ≠ (.slice Ao44 a6.length co44 : Value).ownBlock ∧ some k_ ≠ (.slice Ao47 a8.length co47 : Value).ownBlock ∧ some k_ ≠ (v853 : Value).ownBlock ∧ some k_ ≠ (v859 : Value).ownBlock ∧ some k_ ≠ (v862 : Value).ownBlock) (Kd.R_keptB (rA a2.out b0.out) hkp (fun _ hk_ => no4 ⟨hk_.1.1.1.2,hk_.2,hk_.1.1.2,hk_.1.2⟩)) (fun k_ hk_ => ⟨hk_.1.1.1.1.1.1,hk_.1.1.1.1.1.2,nl (ho0.1 k_) hk_.2,nl (ho2.1 k_) hk_.2,nl (ho3.1 k_) hk_.2⟩))
     have n3_ := As_ (Kd.R_mono (ok' := fun k_ => some k_ ≠ (.slice Ao44 a6.length co44 : Value).ownBlock ∧ some k_ ≠ (.slice Ao46 a7.length co46 : Value).ownBlock ∧ some k_ ≠ (v853 : Value).ownBlock ∧ some k_ ≠ (v859 : Value).ownBlock ∧ some k_ ≠ (v862 : Value).ownBlock) (Kd.R_keptB (rA a3.out b0.out) hkp (fun _ hk_ => no4 ⟨hk_.1.1.1.2,hk_.2,hk_.1.1.2,hk_.1.2⟩)) (fun k_ hk_ => ⟨hk_.1.1.1.1.1.1,hk_.1.1.1.1.1.2,nl (ho0.1 k_) hk_.2,nl (ho2.1 k_) hk_.2,nl (ho3.1 k_) hk_.2⟩))
     have n4_ := As_ (blk_kept (zk_ a9.out) hkp (no4 ⟨rne b7.out a9.out,rne b0.out a9.out,rne b8.out a9.out,rne b9.out a9.out⟩))
     have n5_ := As_ (blk_kept (zk_ a4.out) hkp (no4 ⟨rne b7.out a4.out,rne b0.out a4.out,rne b8.out a4.out,rne b9.out a4.out⟩))
     have n6_ := As_ (blk_kept (zk_ b3.out) hkp (no4 ⟨rne b7.out b3.out,rne b0.out b3.out,rne b8.out b3.out,rne b9.out b3.out⟩))
     have n7_ := As_ (Kd.R_mono (ok' := fun k_ => some k_ ≠ (v859 : Value).ownBlock ∧ some k_ ≠ (v862 : Value).ownBlock ∧ some k_ ≠ (.slice Ao44 a6.length co44 : Value).ownBlock ∧ some k_ ≠ (.slice Ao46 a7.length co46 : Value).ownBlock ∧ some k_ ≠ (.slice Ao47 a8.length co47 : Value).ownBlock) ho0 (fun k_ hk_ => ⟨hk_.2.1,hk_.2.2,aw4 (rA a1.out b0.out).1 (Kd.R_lt (zR_ a1.out)) (fun _ h => ⟨h.1.1.1.2,h.2,h.1.1.2,h.1.2⟩) hk_.1,aw4 (rA a2.out b0.out).1 (Kd.R_lt (zR_ a2.out)) (fun _ h => ⟨h.1.1.1.2,h.2,h.1.1.2,h.1.2⟩) hk_.1,aw4 (rA a3.out b0.out).1 (Kd.R_lt (zR_ a3.out)) (fun _ h => ⟨h.1.1.1.2,h.2,h.1.1.2,h.1.2⟩) hk_.1⟩))
     have n8_ := As_ (Kd.R_mono (ok' := fun k_ => some k_ ≠ (.slice Ao45 b1.length co45 : Value).ownBlock) ho1 (fun k_ hk_ => aw4 (rA (rA (rA a5.out b7.out) b8.out) b9.out).1 (Kd.R_lt (zR_ a5.out)) (fun _ h => ⟨h.1.1.2,h.1.1.1.2,h.1.2,h.2⟩) hk_))
     have n9_ := As_ (Kd.R_mono (ok' := fun k_ => some k_ ≠ (v853 : Value).ownBlock ∧ some k_ ≠ (v862 : Value).ownBlock ∧ some k_ ≠ (.slice Ao44 a6.length co44 : Value).ownBlock ∧ some k_ ≠ (.slice Ao46 a7.length co46 : Value).ownBlock ∧ some k_ ≠ (.slice Ao47 a8.length co47 : Value).ownBlock) ho2 (fun k_ hk_ => ⟨hk_.2.1,hk_.2.2,aw4 (rA a1.out b0.out).1 (Kd.R_lt (zR_ a1.out)) (fun _ h => ⟨h.1.1.1.2,h.2,h.1.1.2,h.1.2⟩) hk_.1,aw4 (rA a2.out b0.out).1 (Kd.R_lt (zR_ a2.out)) (fun _ h => ⟨h.1.1.1.2,h.2,h.1.1.2,h.1.2⟩) hk_.1,aw4 (rA a3.out b0.out).1 (Kd.R_lt (zR_ a3.out)) (fun _ h => ⟨h.1.1.1.2,h.2,h.1.1.2,h.1.2⟩) hk_.1⟩))
     have n10_ := As_ (Kd.R_mono (ok' := fun k_ => some k_ ≠ (v853 : Value).ownBlock ∧ some k_ ≠ (v859 : Value).ownBlock ∧ some k_ ≠ (.slice Ao44 a6.length co44 : Value).ownBlock ∧ some k_ ≠ (.slice Ao46 a7.length co46 : Value).ownBlock ∧ some k_ ≠ (.slice Ao47 a8.length co47 : Value).ownBlock) ho3 (fun k_ hk_ => ⟨hk_.2.1,hk_.2.2,aw4 (rA a1.out b0.out).1 (Kd.R_lt (zR_ a1.out)) (fun _ h => ⟨h.1.1.1.2,h.2,h.1.1.2,h.1.2⟩) hk_.1,aw4 (rA a2.out b0.out).1 (Kd.R_lt (zR_ a2.out)) (fun _ h => ⟨h.1.1.1.2,h.2,h.1.1.2,h.1.2⟩) hk_.1,aw4 (rA a3.out b0.out).1 (Kd.R_lt (zR_ a3.out)) (fun _ h => ⟨h.1.1.1.2,h.2,h.1.1.2,h.1.2⟩) hk_.1⟩))
     have n11_ := As_ (hb)
     clear a1 a5 a2 a3 a9 a4 b3 HB b7 b0 b8 b9
     revert n0_ n1_ n2_ n3_ n4_ n5_ n6_ n7_ n8_ n9_ n10_ n11_;intro a1 a5 a2 a3 a9 a4 b3 e4 e5 e6 e7 HB
     refine hK.out _ _ ⟨(bkC a4.out 0).trans rfl,(bkC a4.out 1).trans rfl,(bkC a4.out 2).trans rfl,(bkC a4.out 3).trans rfl,(bkC a4.out 4).trans rfl,((HB.out.cell (bwL w _ hw851_0)).trans hw851_0),((HB.out.cell (bwL w _ hw851_1)).trans hw851_1)⟩ (fun hHeld => ?_)
     clear hK K
     refine norm_ (a' := ?_) ?_ ?_
     rotate_left
     ·show Act.put _ (some 22) _ = _
      simp only [Act.put,sq_,i64_w,i32_w]
      rfl
     refine pQ 7 15 (bl_ 1279 13) HT_ rfl ?_
     refine pQ 8 23 (bl_ 1535 13) HT_ rfl ?_
     refine pQ 9 24 (bl_ 2047 13) HT_ rfl ?_
     exact norm_ (by simp only [putAll,Act.put,List.setIfInBounds_toArray,List.set_cons_zero,List.set_cons_succ]) (hCont (.slice Ao51 d9.length co51,.slice Ao52 e0.length co52,.slice Ao53 e1.length co53,.slice Ao54 e2.length co54,v853,v856,v859,v862,b5) _ ⟨hHeld,(zR_ e4.out),(zR_ e5.out),(zR_ e6.out),(zR_ e7.out),(by exact Kd.R_mono a1.out (fun _ hk => ⟨hk.2.2.1,⟨hk.2.2.2.1,⟨hk.2.2.2.2,⟨hk.1,hk.2.1⟩⟩⟩⟩)),(zR_ a5.out),(by exact Kd.R_mono a2.out (fun _ hk => ⟨hk.2.2.1,⟨hk.2.2.2.1,⟨hk.2.2.2.2,⟨hk.1,hk.2.1⟩⟩⟩⟩)),(by exact Kd.R_mono a3.out (fun _ hk => ⟨hk.2.2.1,⟨hk.2.2.2.1,⟨hk.2.2.2.2,⟨hk.1,hk.2.1⟩⟩⟩⟩)),(zk_ a9.out),(zk_ a4.out),(zk_ b3.out),d8.out,d7.out,d0.out,d2.out,b2.out,d3.out,(zb3 HB.out d1.out d4.out d7.out)⟩)
   rintro ⟨v839,v842,v845,v848,v853,v856,v859,v862,b5⟩ w56 ⟨hS_,h0_,h1_,h2_,h3_,h4_,h5_,h6_,h7_,h8_,h9_,h10_,h11_,h12_,h13_,h14_,h15_,h16_,h17_⟩
   have n0_ : Aside0 (Kd.R (Kd.int .i64) 3 w56 w.heap.size (fun k_ => some k_ ≠ (v859 : Value).ownBlock ∧ some k_ ≠ (v862 : Value).ownBlock ∧ some k_ ≠ (.slice Ao44 a6.length co44 : Value).ownBlock ∧ some k_ ≠ (.slice Ao46 a7.length co46 : Value).ownBlock ∧ some k_ ≠ (.slice Ao47 a8.length co47 : Value).ownBlock) v853 i2) := ⟨h0_⟩
   have n1_ : Aside0 (Kd.R Kd.bool 4 w56 w.heap.size (fun k_ => some k_ ≠ (.slice Ao45 b1.length co45 : Value).ownBlock) v856 i3) := ⟨h1_⟩
   have n2_ : Aside0 (Kd.R (Kd.int .i64) 3 w56 w.heap.size (fun k_ => some k_ ≠ (v853 : Value).ownBlock ∧ some k_ ≠ (v862 : Value).ownBlock ∧ some k_ ≠ (.slice Ao44 a6.length co44 : Value).ownBlock ∧ some k_ ≠ (.slice Ao46 a7.length co46 : Value).ownBlock ∧ some k_ ≠ (.slice Ao47 a8.length co47 : Value).ownBlock) v859 i4) := ⟨h2_⟩
   have n3_ : Aside0 (Kd.R (Kd.int .i64) 3 w56 w.heap.size (fun k_ => some k_ ≠ (v853 : Value).ownBlock ∧ some k_ ≠ (v859 : Value).ownBlock ∧ some k_ ≠ (.slice Ao44 a6.length co44 : Value).ownBlock ∧ some k_ ≠ (.slice Ao46 a7.length co46 : Value).ownBlock ∧ some k_ ≠ (.slice Ao47 a8.length co47 : Value).ownBlock) v862 i5) := ⟨h3_⟩
   have n4_ : Aside0 (Kd.R (Kd.int .i64) 3 w56 w.heap.size (fun k_ => some k_ ≠ (v853 : Value).ownBlock ∧ some k_ ≠ (v859 : Value).ownBlock ∧ some k_ ≠ (v862 : Value).ownBlock ∧ some k_ ≠ (.slice Ao46 a7.length co46 : Value).ownBlock ∧ some k_ ≠ (.slice Ao47 a8.length co47 : Value).ownBlock) (.slice Ao44 a6.length co44) a6) := ⟨h4_⟩
   have n5_ : Aside0 (Kd.R Kd.bool 4 w56 w.heap.size (fun k_ => some k_ ≠ (v856 : Value).ownBlock) (.slice Ao45 b1.length co45) b1) := ⟨h5_⟩
   have n6_ : Aside0 (Kd.R (Kd.int .i64) 3 w56 w.heap.size (fun k_ => some k_ ≠ (v853 : Value).ownBlock ∧ some k_ ≠ (v859 : Value).ownBlock ∧ some k_ ≠ (v862 : Value).ownBlock ∧ some k_ ≠ (.slice Ao44 a6.length co44 : Value).ownBlock ∧ some k_ ≠ (.slice Ao47 a8.length co47 : Value).ownBlock) (.slice Ao46 a7.length co46) a7) := ⟨h6_⟩
   have n7_ : Aside0 (Kd.R (Kd.int .i64) 3 w56 w.heap.size (fun k_ => some k_ ≠ (v853 : Value).ownBlock ∧ some k_ ≠ (v859 : Value).ownBlock ∧ some k_ ≠ (v862 : Value).ownBlock ∧ some k_ ≠ (.slice Ao44 a6.length co44 : Value).ownBlock ∧ some k_ ≠ (.slice Ao46 a7.length co46 : Value).ownBlock) (.slice Ao47 a8.length co47) a8) := ⟨h7_⟩
   have n8_ : Aside0 (w56.heap[d6]? = some (.cells #[.slice none 0 0,.slice none 0 0,.slice none 0 0,.slice none 0 0,.bool e3] 120 (0,0))) := ⟨h8_⟩
   have n9_ : Aside0 (w56.heap[b4]? = some (.cells #[.slice Ao44 a6.length co44,.slice Ao45 b1.length co45,.slice Ao46 a7.length co46,.slice Ao47 a8.length co47,.bool b6] 120 (0,0))) := ⟨h9_⟩
   have n10_ : Aside0 (w56.heap[b5]? = some (.cells #[.slice none 0 0,.slice none 0 0,.slice none 0 0,.slice none 0 0,.bool false] 120 (0,0))) := ⟨h10_⟩
   have n11_ : Aside0 (w.heap.size ≤ b5) := ⟨h11_⟩
   have n12_ : Aside0 (w.heap.size ≤ b5) := ⟨h12_⟩
   have n13_ : Aside0 (d6 ≠ b5) := ⟨h13_⟩
   have n14_ : Aside0 (b5 ≠ d6) := ⟨h14_⟩
   have n15_ : Aside0 (b4 ≠ b5) := ⟨h15_⟩
   have n16_ : Aside0 (b5 ≠ b4) := ⟨h16_⟩
   have n17_ : Aside0 (Below w.heap.size w w56) := ⟨h17_⟩
   clear a1 a5 a2 a3 a9 a4 HB h0_ h1_ h2_ h3_ h4_ h5_ h6_ h7_ h8_ h9_ h10_ h11_ h12_ h13_ h14_ h15_ h16_ h17_
   revert n0_ n1_ n2_ n3_ n4_ n5_ n6_ n7_ n8_ n9_ n10_ n11_ n12_ n13_ n14_ n15_ n16_ n17_;intro e4 e5 e6 e7 a1 a5 a2 a3 a9 a4 b3 d8 d7 d0 d2 b2 d3 HB
   have hHeld : w56.cell? ⟨b4,0,none⟩ = some (.slice Ao44 a6.length co44) ∧ w56.cell? ⟨b4,1,none⟩ = some (.slice Ao45 b1.length co45) ∧ w56.cell? ⟨b4,2,none⟩ = some (.slice Ao46 a7.length co46) ∧ w56.cell? ⟨b4,3,none⟩ = some (.slice Ao47 a8.length co47) ∧ w56.cell? ⟨b4,4,none⟩ = some (.bool b6) ∧ w56.cell? (ad851.add ((d5).toNat * 2)) = some (.int .i64 ((rd_T75 l0 d5).f0)) ∧ w56.cell? ⟨(ad851.add ((d5).toNat * 2)).block,(ad851.add ((d5).toNat * 2)).off + 1,none⟩ = some (.int .i64 ((rd_T75 l0 d5).f1)) := hS_
   obtain ⟨Ao57,co57,eo57⟩ := Kd.R_slice e4.out
   (first|subst eo57|(injection eo57 with f1_ f2_ f3_;have f4_ := f1_.symm;have f5_ := f3_.symm;clear f1_ f2_ f3_;subst f4_;subst f5_))
   obtain ⟨Ao59,co59,eo59⟩ := Kd.R_slice e5.out
   (first|subst eo59|(injection eo59 with f1_ f2_ f3_;have f4_ := f1_.symm;have f5_ := f3_.symm;clear f1_ f2_ f3_;subst f4_;subst f5_))
   obtain ⟨Ao61,co61,eo61⟩ := Kd.R_slice e6.out
   (first|subst eo61|(injection eo61 with f1_ f2_ f3_;have f4_ := f1_.symm;have f5_ := f3_.symm;clear f1_ f2_ f3_;subst f4_;subst f5_))
   obtain ⟨Ao63,co63,eo63⟩ := Kd.R_slice e7.out
   (first|subst eo63|(injection eo63 with f1_ f2_ f3_;have f4_ := f1_.symm;have f5_ := f3_.symm;clear f1_ f2_ f3_;subst f4_;subst f5_))
   refine norm_ (a' := ?_) ?_ ?_
   rotate_left
   ·simp only [putAll,Act.put,List.setIfInBounds_toArray,List.set_cons_zero,List.set_cons_succ]
    rfl
   refine one_ (i := 11) (N := none) (bl_ 4095 13) rfl rfl (one_of HT_.out (by kernel_rfl)) (by decide) (fun K hK => ?_)
   have E7 : w56.cell? ⟨b5,0,none⟩ = some (.slice none 0 0) := (bkC b3.out 0).trans rfl
   have C9 := bkF b3.out 0
   have t2 := d0.out
   have t3 := b2.out
   have t4 := d2.out
   have t5 := d3.out
   have E8 : w56.cell? ⟨b5,1,none⟩ = some (.slice none 0 0) := (bkC b3.out 1).trans rfl
   have D0 := bkF b3.out 1
   have t6 := d0.out
   have t7 := b2.out
   have t8 := d2.out
   have t9 := d3.out
   have E9 : w56.cell? ⟨b5,2,none⟩ = some (.slice none 0 0) := (bkC b3.out 2).trans rfl
   have D1 := bkF b3.out 2
   have u0 := d0.out
   have u1 := b2.out
   have u2 := d2.out
   have u3 := d3.out
   have F0 : w56.cell? ⟨b5,3,none⟩ = some (.slice none 0 0) := (bkC b3.out 3).trans rfl
   have D2 := bkF b3.out 3
   have u4 := d0.out
   have u5 := b2.out
   have u6 := d2.out
   have u7 := d3.out
   have F1 : w56.cell? ⟨b5,4,none⟩ = some (.bool false) := (bkC b3.out 4).trans rfl
   have D3 := bkF b3.out 4
   have u9 := d0.out
   have v4 := b2.out
   have v6 := d2.out
   have v7 := d3.out
   refine skip_ (w1 := ?_) (by rfl) rfl ?_ ?_
   rotate_left
   ·go_simp
    rfl
   refine hK.out _ _ ⟨(c5 b2.out (hHeld.1)),(c5 b2.out (hHeld.2.1)),(c5 b2.out (hHeld.2.2.1)),(c5 b2.out (hHeld.2.2.2.1)),(c5 b2.out (hHeld.2.2.2.2.1)),(c5 (by first|exact Nat.ne_of_lt (Nat.lt_of_lt_of_le (by have := bwL _ _ hw851_0;first|rwa [add_block] at this|exact this) d8.out)|(rw [add_block];exact Nat.ne_of_lt (Nat.lt_of_lt_of_le (by have := bwL _ _ hw851_0;first|rwa [add_block] at this|exact this) d8.out))|(show (Addr.add _ _).block ≠ _;rw [add_block];exact Nat.ne_of_lt (Nat.lt_of_lt_of_le (by have := bwL _ _ hw851_0;first|rwa [add_block] at this|exact this) d8.out))|(dsimp only;exact Nat.ne_of_lt (Nat.lt_of_lt_of_le (by have := bwL _ _ hw851_0;first|rwa [add_block] at this|exact this) d8.out))) (hHeld.2.2.2.2.2.1)),(c5 (by first|exact Nat.ne_of_lt (Nat.lt_of_lt_of_le (by have := bwL _ _ hw851_1;first|rwa [add_block] at this|exact this) d8.out)|(rw [add_block];exact Nat.ne_of_lt (Nat.lt_of_lt_of_le (by have := bwL _ _ hw851_1;first|rwa [add_block] at this|exact this) d8.out))|(show (Addr.add _ _).block ≠ _;rw [add_block];exact Nat.ne_of_lt (Nat.lt_of_lt_of_le (by have := bwL _ _ hw851_1;first|rwa [add_block] at this|exact this) d8.out))|(dsimp only;exact Nat.ne_of_lt (Nat.lt_of_lt_of_le (by have := bwL _ _ hw851_1;first|rwa [add_block] at this|exact this) d8.out))) (hHeld.2.2.2.2.2.2))⟩ (fun hHeld => ?_)
   clear hK K
   refine pQ 12 7 (bl_ 8191 13) HT_ rfl ?_
   refine done_ (done_of HT_.out (by kernel_rfl)) ?_
   have D4 := g6.out
   have D5 := e8.out
   have D6 := b2.out
   have D7 := d3.out
   have v8 : w56.cell? ⟨b4,0,none⟩ = some (.slice Ao44 a6.length co44) := (bkC a4.out 0).trans rfl
   have v9 : w56.cell? ⟨b4,1,none⟩ = some (.slice Ao45 b1.length co45) := (bkC a4.out 1).trans rfl
   have x1 : w56.cell? ⟨b4,2,none⟩ = some (.slice Ao46 a7.length co46) := (bkC a4.out 2).trans rfl
   have x2 : w56.cell? ⟨b4,3,none⟩ = some (.slice Ao47 a8.length co47) := (bkC a4.out 3).trans rfl
   have x3 : w56.cell? ⟨b4,4,none⟩ = some (.bool b6) := (bkC a4.out 4).trans rfl
   have x4 := bkF a4.out 0
   have x6 := bkF a4.out 1
   have x7 := bkF a4.out 2
   have x8 := bkF a4.out 3
   have x9 := bkF a4.out 4
   have D8 := d0.out
   have D9 := d2.out
   have y7 : w56.cell? ⟨d6,0,none⟩ = some (.slice none 0 0) := (bkC a9.out 0).trans rfl
   have y8 : w56.cell? ⟨d6,1,none⟩ = some (.slice none 0 0) := (bkC a9.out 1).trans rfl
   have y9 : w56.cell? ⟨d6,2,none⟩ = some (.slice none 0 0) := (bkC a9.out 2).trans rfl
   have z1 : w56.cell? ⟨d6,3,none⟩ = some (.slice none 0 0) := (bkC a9.out 3).trans rfl
   have z2 : w56.cell? ⟨d6,4,none⟩ = some (.bool e3) := (bkC a9.out 4).trans rfl
   have z3 := bkF a9.out 0
   have z4 := bkF a9.out 1
   have z5 := bkF a9.out 2
   have z6 := bkF a9.out 3
   have z7 := bkF a9.out 4
   try go_wp2
   refine bodyPost_ret (results_ct rfl _ _ d6 120 #[.slice Ao44 a6.length co44,.slice Ao45 b1.length co45,.slice Ao46 a7.length co46,.slice Ao47 a8.length co47,.bool b6] (0,0) _ rfl (by apply p5;exact f5 d0.out a9.out) Try.underlying120 rfl (by kernel_rfl)) rfl ?_
   exact ⟨_,_,_,_,zE_,by exact Kd.R_mono (rF5 (rF5 (Kd.R_types (rT a1.out b3.out) a9.out (by decide)) (fun _ hk => hk.1.2)) (fun _ hk => hk.2)) (fun _ hk => ⟨hk.1.1.2.2.2.1,hk.1.1.2.2.2.2⟩),by exact Kd.R_mono (rF5 (rF5 (Kd.R_types (rT a5.out b3.out) a9.out (by decide)) (fun _ hk => hk.1.2)) (fun _ hk => hk.2)) (fun _ hk => trivial),by exact Kd.R_mono (rF5 (rF5 (Kd.R_types (rT a2.out b3.out) a9.out (by decide)) (fun _ hk => hk.1.2)) (fun _ hk => hk.2)) (fun _ hk => ⟨hk.1.1.2.2.2.1,hk.1.1.2.2.2.2⟩),by exact Kd.R_mono (rF5 (rF5 (Kd.R_types (rT a3.out b3.out) a9.out (by decide)) (fun _ hk => hk.1.2)) (fun _ hk => hk.2)) (fun _ hk => ⟨hk.1.1.2.2.2.1,hk.1.1.2.2.2.2⟩),zb3 HB.out d1.out d4.out d7.out⟩
end Go.Proofs.Ytbokjhdhpmmpfaa.Q
