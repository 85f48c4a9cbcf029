-- Written by wip/tools/qprint.py (a program of this claim's author) by means of the kit's printer.
import Derived.Test.YtbokjhdhpmmpfaaQ0
namespace Go.Proofs.Ytbokjhdhpmmpfaa.Q
open Go.RowKit Go.Proofs.YtbokjhdhpmmpfaaW.PrintWords Go.Proofs.YtbokjhdhpmmpfaaW.PrintLast Go.Proofs.YtbokjhdhpmmpfaaW.PrintMore
attribute [local go_sem] max2_int min2_int max_two min_two max_three min_three max_four min_four   -- for this text's walks alone
set_option linter.unusedVariables false
set_option linter.unusedSimpArgs false

/-! ### spec_newShapes: function 105 -/
def spec_newShapes.l0 : Nat → Int → List Int → Bool → Option (List Int × List Bool × List Int × List Int × Bool)
 | 0,_,_,_ => none
 | k + 1,x2,g7,j4 => if x2 < 20 then (if g7.length < 17592186044416 then (spec_newShapes.l0 k (wrap64 (x2 + 1)) (g7 ++ [(-1)]) j4) else (none)) else (some (([] : List Int),([] : List Bool),([] : List Int),g7,j4))
def spec_newShapes.f (k : Nat)  : Option (List Int × List Bool × List Int × List Int × Bool) := spec_newShapes.l0 k 0 ([] : List Int) false
set_option maxRecDepth 100000 in
theorem spec_newShapes.mono_l : ∀ k,(∀ y0 y1 y2,LeO (spec_newShapes.l0 k y0 y1 y2) (spec_newShapes.l0 (k + 1) y0 y1 y2))
 | 0 => fun _ _ _ r h => (by cases h)
 | k + 1 => by
  have ih0 := spec_newShapes.mono_l k
  ·intro y0 y1 y2
   unfold spec_newShapes.l0
   repeat' first
   | (with_reducible exact ih0 _ _ _)
   | (with_reducible exact LeO.refl _)
   | (with_reducible exact LeO.none _)
   | (with_reducible refine LeO.ite ?_ ?_)
   | (with_reducible refine LeO.bind ?_ (fun _ => ?_))
   | exact ih0 _ _ _
   | exact LeO.none _
   | refine LeO.ite ?_ ?_
   | refine LeO.bind ?_ (fun _ => ?_)
set_option maxRecDepth 100000 in
theorem spec_newShapes.mono : ∀ k,LeO (spec_newShapes.f k ) (spec_newShapes.f (k + 1) ) := by
 intro  k
 have ih0 := spec_newShapes.mono_l k
 unfold spec_newShapes.f
 repeat' first
   | (with_reducible exact ih0 _ _ _)
   | (with_reducible exact LeO.refl _)
   | (with_reducible exact LeO.none _)
   | (with_reducible refine LeO.ite ?_ ?_)
   | (with_reducible refine LeO.bind ?_ (fun _ => ?_))
   | exact ih0 _ _ _
   | exact LeO.none _
   | refine LeO.ite ?_ ?_
   | refine LeO.bind ?_ (fun _ => ?_)
set_option maxHeartbeats 8000000 in
set_option maxRecDepth 100000 in
theorem spec_newShapes.calls (k : Nat)  (r1 : List Int) (r2 : List Bool) (r3 : List Int) (r4 : List Int) (r5 : Bool) (w : World) (h : spec_newShapes.f k  = some (r1,r2,r3,r4,r5)) :
  Calls Try.prog 105 #[] w fun e w' => ∃ v0_ v1_ v2_ v3_ : Value,e = .returned (.agg #[v0_,v1_,v2_,v3_,.bool r5]) ∧ Kd.R (Kd.int .i64) 3 w' w.heap.size (fun k_ => some k_ ≠ (v2_ : Value).ownBlock ∧ some k_ ≠ (v3_ : Value).ownBlock) v0_ r1 ∧ Kd.R Kd.bool 4 w' w.heap.size (fun _ => True) v1_ r2 ∧ Kd.R (Kd.int .i64) 3 w' w.heap.size (fun k_ => some k_ ≠ (v0_ : Value).ownBlock ∧ some k_ ≠ (v3_ : Value).ownBlock) v2_ r3 ∧ Kd.R (Kd.int .i64) 3 w' w.heap.size (fun k_ => some k_ ≠ (v0_ : Value).ownBlock ∧ some k_ ≠ (v2_ : Value).ownBlock) v3_ r4 ∧ Below w.heap.size w w' := by
 have hu120 := Try.underlying120
 have HB := As_ (Below.refl w.heap.size w)
 have H : (spec_newShapes.l0 k 0 ([] : List Int) false) = some (r1,r2,r3,r4,r5) := h
 clear h
 have H' := As_ H
 clear H
 go_enter Try.func105,Try.ntmps105
 go_wp2_with (first|((with_reducible refine gate_dst (N := 0) rfl ?_);refine box_event ?hg (N := 0) ?hd (cs := #[.slice none 0 0,.slice none 0 0,.slice none 0 0,.slice none 0 0,.bool false]) (t := 120) ?hr ?_;(case hd => rfl);(case hg => rfl);(case hr => go_simp <;> rfl);intro e0 hg w1 hbox hb;have n0_ := As_ (bwT (zb0 HB.out) hb);have n1_ := As_ (hbox);have n2_ := As_ ((by rw [hg];exact (bwZ (zb0 HB.out)) : w.heap.size ≤ e0));have n3_ := As_ ((by rw [hg];exact (bwZ (zb0 HB.out)) : w.heap.size ≤ e0));clear HB;revert n0_ n1_ n2_ n3_;intro HB b7 D2 e6;clear hb hbox hg)|((with_reducible refine gate_dst (N := 1) rfl ?_);refine box_event ?hg (N := 1) ?hd (cs := #[.slice none 0 0,.slice none 0 0,.slice none 0 0,.slice none 0 0,.bool false]) (t := 120) ?hr ?_;(case hd => rfl);(case hg => rfl);(case hr => go_simp <;> rfl);intro b6 hg w2 hbox hb;have n0_ := As_ (zkb b7.out hb);have n1_ := As_ (bwT (zb1 HB.out e6.out) hb);have n2_ := As_ (hbox);have n3_ := As_ ((by rw [hg];exact (bwZ (zb1 HB.out e6.out)) : w.heap.size ≤ b6));have n4_ := As_ ((by rw [hg];exact (bwZ (zb1 HB.out e6.out)) : w.heap.size ≤ b6));have n5_ := As_ ((by rw [hg];exact Nat.ne_of_lt (zkl b7.out) : e0 ≠ b6));have n6_ := As_ ((by rw [hg];exact Nat.ne_of_gt (zkl b7.out) : b6 ≠ e0));clear b7 HB;revert n0_ n1_ n2_ n3_ n4_ n5_ n6_;intro b7 HB a6 D3 i9 d7 e5;clear hb hbox hg;have D7 := e5.out;have D8 := d7.out;have z4 : w2.cell? ⟨b6,0,none⟩ = some (.slice none 0 0) := (bkC a6.out 0).trans rfl;have z5 : w2.cell? ⟨b6,1,none⟩ = some (.slice none 0 0) := (bkC a6.out 1).trans rfl;have z6 : w2.cell? ⟨b6,2,none⟩ = some (.slice none 0 0) := (bkC a6.out 2).trans rfl;have z7 : w2.cell? ⟨b6,3,none⟩ = some (.slice none 0 0) := (bkC a6.out 3).trans rfl;have z8 : w2.cell? ⟨b6,4,none⟩ = some (.bool false) := (bkC a6.out 4).trans rfl;have z9 := bkF a6.out 0;have A4 := bkF a6.out 1;have A5 := bkF a6.out 2;have A6 := bkF a6.out 3;have A7 := bkF a6.out 4))
 go_loopg [2] k (fun kq v2 w' => ∃ (j0 : Int) (d2 : List Int) (d4 : Value),v2 = .int .i64 j0 ∧ Aside0 (spec_newShapes.l0 kq j0 d2 false = some (r1,r2,r3,r4,r5)) ∧ Aside0 (kq ≤ k) ∧ Aside0 (Kd.R (Kd.int .i64) 3 w' w.heap.size (fun _ => True) d4 d2) ∧ Aside0 (w'.heap[e0]? = some (.cells #[(.slice none 0 0),(.slice none 0 0),(.slice none 0 0),(.slice none 0 0),.bool false] 120 (0,0))) ∧ Aside0 (w'.heap[b6]? = some (.cells #[(.slice none 0 0),(.slice none 0 0),(.slice none 0 0),d4,.bool false] 120 (0,0))) ∧ Aside0 (Below w.heap.size w w'))
 case atStart => exact ⟨(0),(([] : List Int)),(.slice none 0 0),zT_,H',⟨Nat.le_refl _⟩,⟨by first|exact Kd.R_nil _ _ _ _ _|exact Kd.N_nil _ _ _ _ _|exact Kd.V_nil _ _ _ _ _|exact Kd.Q_nil _ _ _ _ _|exact Kd.S_nil _ _ _ _ _⟩,⟨f5 d7.out b7.out⟩,⟨p5 a6.out⟩,⟨zb2 HB.out e6.out i9.out⟩⟩
 case round =>
  clear H'
  obtain ⟨j0,d2,d4,rfl,HA,HK1,d5,b7,a6,HB⟩ := hrel
  cases gk with
  | zero => exact absurd HA.out (fun h_ => (by cases h_))
  | succ k1 =>
   have H := HA.out
   clear HA
   simp only [spec_newShapes.l0] at H
   by_cases c5 : j0 < 20
   ·rw [if_pos c5] at H
    have q2 : decide (j0 < 20) = true := deT c5
    clear c5
    by_cases c6 : d2.length < 17592186044416
    rotate_left
    ·rw [if_neg c6] at H
     exact absurd H (by simp)
    rw [if_pos c6] at H
    have A8 := As_ c6
    clear c6
    obtain ⟨q3,m9⟩ : ∃ y_ : List Int,y_ = (d2 ++ [(-1)]) := ⟨_,rfl⟩
    replace H : (spec_newShapes.l0 k1 (wrap64 (j0 + 1)) q3 false) = some (r1,r2,r3,r4,r5) := zH_ H m9
    have q6 := As_ m9
    clear m9
    have H' := As_ H
    clear H
    have D9 := e5.out
    have E0 := d7.out
    have A9 : wr.cell? ⟨b6,0,none⟩ = some (.slice none 0 0) := (bkC a6.out 0).trans rfl
    have B0 : wr.cell? ⟨b6,1,none⟩ = some (.slice none 0 0) := (bkC a6.out 1).trans rfl
    have B1 : wr.cell? ⟨b6,2,none⟩ = some (.slice none 0 0) := (bkC a6.out 2).trans rfl
    have B2 : wr.cell? ⟨b6,3,none⟩ = some (d4) := (bkC a6.out 3).trans rfl
    have B3 : wr.cell? ⟨b6,4,none⟩ = some (.bool false) := (bkC a6.out 4).trans rfl
    have B4 := bkF a6.out 0
    have B5 := bkF a6.out 1
    have B6 := bkF a6.out 2
    have B7 := bkF a6.out 3
    have B8 := bkF a6.out 4
    go_wp2_with (first|((with_reducible refine gate_builtin (b := .append) (xs := #[.tmp 9,.tmp 10]) rfl ?_);at_builtin;refine Kd.R_append (Kd.int .i64) (w0 := w) w.heap.size rfl (.tmp 9) (.tmp 10) 22 3 (.int .i64 0) 8 rfl Try.underlying22 info3 rfl (by decide) (by omega) d4 d2 (-1) [.int .i64 (-1)] (fun _ => True) (fun _ => False) rfl rfl ?aP (fun _ hk => hk.elim) ?aF ?aO ?aB ?aS ?aL ?_;(case aP => exact rfl);(case aB => exact (zb2 HB.out e6.out i9.out));(case aF => exact (fun _ _ => trivial));(case aO => exact (zR_ d5.out));(case aS => exact (bwZ (zb2 HB.out e6.out i9.out)));(case aL => have := A8.out;omega);intro v650 w9 ho hb hg hat;rw [← q6.out] at ho;have n0_ := As_ (blk_grown (g := e0) (o := .cells #[.slice none 0 0,.slice none 0 0,.slice none 0 0,.slice none 0 0,.bool false] 120 (0,0)) (zk_ b7.out) hg (rne d5.out b7.out));have n1_ := As_ (blk_grown (g := b6) (o := .cells #[.slice none 0 0,.slice none 0 0,.slice none 0 0,d4,.bool false] 120 (0,0)) (zk_ a6.out) hg (rne d5.out a6.out));have n2_ := As_ (hb);have n3_ := As_ (ho);clear b7 a6 HB d5;revert n0_ n1_ n2_ n3_;intro b7 a6 HB p8;clear ho hb hg hat;obtain ⟨Ao10,co10,eo10⟩ := Kd.R_slice p8.out;subst eo10;have g8 : w9.cell? ⟨b6,0,none⟩ = some (.slice none 0 0) := (bkC a6.out 0).trans rfl;have g9 : w9.cell? ⟨b6,1,none⟩ = some (.slice none 0 0) := (bkC a6.out 1).trans rfl;have i1 : w9.cell? ⟨b6,2,none⟩ = some (.slice none 0 0) := (bkC a6.out 2).trans rfl;have i2 : w9.cell? ⟨b6,3,none⟩ = some (d4) := (bkC a6.out 3).trans rfl;have i3 : w9.cell? ⟨b6,4,none⟩ = some (.bool false) := (bkC a6.out 4).trans rfl;have i4 := bkF a6.out 0;have i5 := bkF a6.out 1;have i6 := bkF a6.out 2;have i7 := bkF a6.out 3;have i8 := bkF a6.out 4))
    go_roundg k1
    case measure => have := HK1.out;omega
    case rel => exact ⟨(wrap64 (j0 + 1)),(q3),(.slice Ao10 q3.length co10),zT_,H',⟨by have := HK1.out;omega⟩,⟨by exact Kd.R_mono (rX1 p8.out a6.out 3) (fun _ hk => trivial)⟩,⟨by refine blk_far ?_ d7.out _;exact b7.out⟩,⟨by refine blk_put (cs := #[.slice none 0 0,.slice none 0 0,.slice none 0 0,d4,.bool false]) ?_ 3 _ rfl;exact a6.out⟩,⟨zb2 HB.out e6.out i9.out⟩⟩
   rw [if_neg c5] at H
   have q2 : decide (j0 < 20) = false := deF c5
   clear c5
   simp only [Option.some.injEq,Prod.mk.injEq] at H
   obtain ⟨rfl,rfl,rfl,rfl,rfl⟩ := H
   have q7 := e5.out
   have q8 := d7.out
   have o6 : wr.cell? ⟨b6,0,none⟩ = some (.slice none 0 0) := (bkC a6.out 0).trans rfl
   have o7 : wr.cell? ⟨b6,1,none⟩ = some (.slice none 0 0) := (bkC a6.out 1).trans rfl
   have o8 : wr.cell? ⟨b6,2,none⟩ = some (.slice none 0 0) := (bkC a6.out 2).trans rfl
   have o9 : wr.cell? ⟨b6,3,none⟩ = some (d4) := (bkC a6.out 3).trans rfl
   have p0 : wr.cell? ⟨b6,4,none⟩ = some (.bool false) := (bkC a6.out 4).trans rfl
   have p1 := bkF a6.out 0
   have p2 := bkF a6.out 1
   have p3 := bkF a6.out 2
   have p4 := bkF a6.out 3
   have p6 := bkF a6.out 4
   have s0 : wr.cell? ⟨e0,0,none⟩ = some (.slice none 0 0) := (bkC b7.out 0).trans rfl
   have s5 : wr.cell? ⟨e0,1,none⟩ = some (.slice none 0 0) := (bkC b7.out 1).trans rfl
   have s6 : wr.cell? ⟨e0,2,none⟩ = some (.slice none 0 0) := (bkC b7.out 2).trans rfl
   have s7 : wr.cell? ⟨e0,3,none⟩ = some (.slice none 0 0) := (bkC b7.out 3).trans rfl
   have s8 : wr.cell? ⟨e0,4,none⟩ = some (.bool false) := (bkC b7.out 4).trans rfl
   have s9 := bkF b7.out 0
   have t0 := bkF b7.out 1
   have t1 := bkF b7.out 2
   have t2 := bkF b7.out 3
   have t3 := bkF b7.out 4
   obtain ⟨Ao15,co15,eo15⟩ := Kd.R_slice d5.out
   subst eo15
   go_wp2
   refine bodyPost_ret (results_cell_row rfl _ _ e0 120 #[.slice none 0 0,.slice none 0 0,.slice none 0 0,.slice Ao15 d2.length co15,.bool false] (0,0) _ rfl (p5 b7.out) Try.underlying120 rfl (by kernel_rfl)) rfl ?_
   exact ⟨_,_,_,_,zE_,by first|exact Kd.R_nil _ _ _ _ _|exact Kd.N_nil _ _ _ _ _|exact Kd.V_nil _ _ _ _ _|exact Kd.Q_nil _ _ _ _ _|exact Kd.S_nil _ _ _ _ _,by first|exact Kd.R_nil _ _ _ _ _|exact Kd.N_nil _ _ _ _ _|exact Kd.V_nil _ _ _ _ _|exact Kd.Q_nil _ _ _ _ _|exact Kd.S_nil _ _ _ _ _,by first|exact Kd.R_nil _ _ _ _ _|exact Kd.N_nil _ _ _ _ _|exact Kd.V_nil _ _ _ _ _|exact Kd.Q_nil _ _ _ _ _|exact Kd.S_nil _ _ _ _ _,by exact Kd.R_mono (rX5 d5.out b7.out) (fun _ hk => ⟨(by simp [Value.ownBlock]),(by simp [Value.ownBlock])⟩),zb2 HB.out e6.out i9.out⟩

/-! ### spec_newKind: function 122 -/
def spec_newKind.f (a0 : Int) : Option (Int) := if a0 = 0 then (some 0) else (if a0 = 1 then (some 1) else (if a0 = 4 then (some 2) else (if a0 = 7 then (some 3) else (if a0 = 10 then (some 4) else (if a0 = 13 then (some 5) else (some (-1)))))))
set_option maxHeartbeats 8000000 in
set_option maxRecDepth 100000 in
theorem spec_newKind.calls (a0 : Int) (r : Int) (w : World) (h : spec_newKind.f a0 = some r) :
  Calls Try.prog 122 #[.int .i64 a0] w fun e w' => e = .returned (.int .i64 r) ∧ Drawn0 w w' := by
 have H : (if a0 = 0 then (some 0) else (if a0 = 1 then (some 1) else (if a0 = 4 then (some 2) else (if a0 = 7 then (some 3) else (if a0 = 10 then (some 4) else (if a0 = 13 then (some 5) else (some (-1)))))))) = some r := h
 clear h
 by_cases c2 : a0 = 0
 ·rw [if_pos c2] at H
  have q4 : (a0 == 0) = true := beq_iff_eq.mpr c2
  have q5 : (a0 != 0) = false := bne_eq_false_iff_eq.mpr c2
  clear c2
  obtain rfl := Option.some.inj H
  go_enter Try.func122,Try.ntmps122
  go_wp2
  go_ret
  exact ⟨by first|rfl|(simp;done)|(simp [*];done),by repeat (first|exact Drawn0.refl _|apply Drawn0.step)⟩
 rw [if_neg c2] at H
 have q4 : (a0 == 0) = false := beq_eq_false_iff_ne.mpr c2
 have q5 : (a0 != 0) = true := bne_iff_ne.mpr c2
 by_cases c3 : a0 = 1
 ·rw [if_pos c3] at H
  have p7 : (a0 == 1) = true := beq_iff_eq.mpr c3
  have B9 : (a0 != 1) = false := bne_eq_false_iff_eq.mpr c3
  clear c3
  obtain rfl := Option.some.inj H
  go_enter Try.func122,Try.ntmps122
  go_wp2
  go_ret
  exact ⟨by first|rfl|(simp;done)|(simp [*];done),by repeat (first|exact Drawn0.refl _|apply Drawn0.step)⟩
 rw [if_neg c3] at H
 have p7 : (a0 == 1) = false := beq_eq_false_iff_ne.mpr c3
 have B9 : (a0 != 1) = true := bne_iff_ne.mpr c3
 by_cases c4 : a0 = 4
 ·rw [if_pos c4] at H
  have C0 : (a0 == 4) = true := beq_iff_eq.mpr c4
  have C1 : (a0 != 4) = false := bne_eq_false_iff_eq.mpr c4
  clear c4
  obtain rfl := Option.some.inj H
  go_enter Try.func122,Try.ntmps122
  go_wp2
  go_ret
  exact ⟨by first|rfl|(simp;done)|(simp [*];done),by repeat (first|exact Drawn0.refl _|apply Drawn0.step)⟩
 rw [if_neg c4] at H
 have C0 : (a0 == 4) = false := beq_eq_false_iff_ne.mpr c4
 have C1 : (a0 != 4) = true := bne_iff_ne.mpr c4
 by_cases c5 : a0 = 7
 ·rw [if_pos c5] at H
  have q2 : (a0 == 7) = true := beq_iff_eq.mpr c5
  have C2 : (a0 != 7) = false := bne_eq_false_iff_eq.mpr c5
  clear c5
  obtain rfl := Option.some.inj H
  go_enter Try.func122,Try.ntmps122
  go_wp2
  go_ret
  exact ⟨by first|rfl|(simp;done)|(simp [*];done),by repeat (first|exact Drawn0.refl _|apply Drawn0.step)⟩
 rw [if_neg c5] at H
 have q2 : (a0 == 7) = false := beq_eq_false_iff_ne.mpr c5
 have C2 : (a0 != 7) = true := bne_iff_ne.mpr c5
 by_cases c6 : a0 = 10
 ·rw [if_pos c6] at H
  have C3 : (a0 == 10) = true := beq_iff_eq.mpr c6
  have C4 : (a0 != 10) = false := bne_eq_false_iff_eq.mpr c6
  clear c6
  obtain rfl := Option.some.inj H
  go_enter Try.func122,Try.ntmps122
  go_wp2
  go_ret
  exact ⟨by first|rfl|(simp;done)|(simp [*];done),by repeat (first|exact Drawn0.refl _|apply Drawn0.step)⟩
 rw [if_neg c6] at H
 have C3 : (a0 == 10) = false := beq_eq_false_iff_ne.mpr c6
 have C4 : (a0 != 10) = true := bne_iff_ne.mpr c6
 by_cases c7 : a0 = 13
 ·rw [if_pos c7] at H
  have q9 : (a0 == 13) = true := beq_iff_eq.mpr c7
  have C5 : (a0 != 13) = false := bne_eq_false_iff_eq.mpr c7
  clear c7
  obtain rfl := Option.some.inj H
  go_enter Try.func122,Try.ntmps122
  go_wp2
  go_ret
  exact ⟨by first|rfl|(simp;done)|(simp [*];done),by repeat (first|exact Drawn0.refl _|apply Drawn0.step)⟩
 rw [if_neg c7] at H
 have q9 : (a0 == 13) = false := beq_eq_false_iff_ne.mpr c7
 have C5 : (a0 != 13) = true := bne_iff_ne.mpr c7
 obtain rfl := Option.some.inj H
 go_enter Try.func122,Try.ntmps122
 go_wp2
 go_ret
 exact ⟨by first|rfl|(simp;done)|(simp [*];done),by repeat (first|exact Drawn0.refl _|apply Drawn0.step)⟩

/-! ### spec_pushShape: function 123 -/
def spec_pushShape.f (a7 : List Int) (a9 : List Bool) (a3 : List Int) (a8 : List Int) (b1 : Bool) (a1 : Int) : Option (List Int × List Bool × List Int × List Int × Bool) := if a7.length < 17592186044416 then ((some (a7 ++ [a1] : List Int)).bind fun d6 => (if a9.length < 140737488355328 then (if a3.length < 17592186044416 then (some (d6,(a9 ++ [false]),(a3 ++ [wrap64 ((d6.length : Int) - 1)]),a8,b1)) else (none)) else (none))) else (none)
set_option maxHeartbeats 8000000 in
set_option maxRecDepth 100000 in
theorem spec_pushShape.calls (b2 : Nat → Prop) (e8 : Value) (a7 : List Int) (b8 : Nat → Prop) (j3 : Value) (a9 : List Bool) (b3 : Nat → Prop) (e9 : Value) (a3 : List Int) (b4 : Nat → Prop) (g4 : Value) (a8 : List Int) (b1 : Bool) (a1 : Int) (r1 : List Int) (r2 : List Bool) (r3 : List Int) (r4 : List Int) (r5 : Bool) (w0 w : World) (hB : Below w0.heap.size w0 w) (ho0_0 : Kd.R (Kd.int .i64) 3 w w0.heap.size b2 e8 a7) (m0 : ∀ k_,b2 k_ → ¬ b3 k_) (m1 : ∀ k_,b2 k_ → ¬ b4 k_) (ho0_1 : Kd.R Kd.bool 4 w w0.heap.size b8 j3 a9) (ho0_2 : Kd.R (Kd.int .i64) 3 w w0.heap.size b3 e9 a3) (m2 : ∀ k_,b3 k_ → ¬ b2 k_) (m3 : ∀ k_,b3 k_ → ¬ b4 k_) (ho0_3 : Kd.R (Kd.int .i64) 3 w w0.heap.size b4 g4 a8) (m4 : ∀ k_,b4 k_ → ¬ b2 k_) (m5 : ∀ k_,b4 k_ → ¬ b3 k_) (h : spec_pushShape.f a7 a9 a3 a8 b1 a1 = some (r1,r2,r3,r4,r5)) :
  Calls Try.prog 123 #[.agg #[e8,j3,e9,g4,.bool b1],.int .i64 a1] w fun e w' => ∃ v0_ v1_ v2_ v3_ : Value,e = .returned (.agg #[v0_,v1_,v2_,v3_,.bool r5]) ∧ Kd.R (Kd.int .i64) 3 w' w0.heap.size (fun k_ => ((b2 k_ ∨ b8 k_ ∨ b3 k_ ∨ b4 k_) ∨ w.heap.size ≤ k_) ∧ some k_ ≠ (v2_ : Value).ownBlock ∧ some k_ ≠ (v3_ : Value).ownBlock) v0_ r1 ∧ Kd.R Kd.bool 4 w' w0.heap.size (fun k_ => ((b2 k_ ∨ b8 k_ ∨ b3 k_ ∨ b4 k_) ∨ w.heap.size ≤ k_)) v1_ r2 ∧ Kd.R (Kd.int .i64) 3 w' w0.heap.size (fun k_ => ((b2 k_ ∨ b8 k_ ∨ b3 k_ ∨ b4 k_) ∨ w.heap.size ≤ k_) ∧ some k_ ≠ (v0_ : Value).ownBlock ∧ some k_ ≠ (v3_ : Value).ownBlock) v2_ r3 ∧ Kd.R (Kd.int .i64) 3 w' w0.heap.size (fun k_ => ((b2 k_ ∨ b8 k_ ∨ b3 k_ ∨ b4 k_) ∨ w.heap.size ≤ k_) ∧ some k_ ≠ (v0_ : Value).ownBlock ∧ some k_ ≠ (v2_ : Value).ownBlock) v3_ r4 ∧ Below w0.heap.size w0 w' ∧ Kept w w' (fun k_ => b2 k_ ∨ b8 k_ ∨ b3 k_ ∨ b4 k_) := by
 have hu120 := Try.underlying120
 have d8 := As_ (show Kd.R (Kd.int .i64) 3 w w0.heap.size (fun k_ => ((b2 k_ ∨ b8 k_ ∨ b3 k_ ∨ b4 k_) ∨ w.heap.size ≤ k_) ∧ some k_ ≠ (e9 : Value).ownBlock ∧ some k_ ≠ (g4 : Value).ownBlock) e8 a7 from Kd.R_mono ho0_0 (fun k_ hk => ⟨(.inl (.inl hk)),fun e_ => m0 k_ hk (ho0_2.1 k_ e_.symm),fun e_ => m1 k_ hk (ho0_3.1 k_ e_.symm)⟩))
 have d1 := As_ (show Kd.R Kd.bool 4 w w0.heap.size (fun k_ => ((b2 k_ ∨ b8 k_ ∨ b3 k_ ∨ b4 k_) ∨ w.heap.size ≤ k_)) j3 a9 from Kd.R_mono ho0_1 (fun k_ hk => (.inl (.inr (.inl hk)))))
 have b9 := As_ (show Kd.R (Kd.int .i64) 3 w w0.heap.size (fun k_ => ((b2 k_ ∨ b8 k_ ∨ b3 k_ ∨ b4 k_) ∨ w.heap.size ≤ k_) ∧ some k_ ≠ (e8 : Value).ownBlock ∧ some k_ ≠ (g4 : Value).ownBlock) e9 a3 from Kd.R_mono ho0_2 (fun k_ hk => ⟨(.inl (.inr (.inr (.inl hk)))),fun e_ => m2 k_ hk (ho0_0.1 k_ e_.symm),fun e_ => m3 k_ hk (ho0_3.1 k_ e_.symm)⟩))
 have d0 := As_ (show Kd.R (Kd.int .i64) 3 w w0.heap.size (fun k_ => ((b2 k_ ∨ b8 k_ ∨ b3 k_ ∨ b4 k_) ∨ w.heap.size ≤ k_) ∧ some k_ ≠ (e8 : Value).ownBlock ∧ some k_ ≠ (e9 : Value).ownBlock) g4 a8 from Kd.R_mono ho0_3 (fun k_ hk => ⟨(.inl (.inr (.inr (.inr hk)))),fun e_ => m4 k_ hk (ho0_0.1 k_ e_.symm),fun e_ => m5 k_ hk (ho0_2.1 k_ e_.symm)⟩))
 have HK := As_ (Kept.refl w (fun k_ => b2 k_ ∨ b8 k_ ∨ b3 k_ ∨ b4 k_))
 have HW0 := As_ hB.size
 have HB := As_ hB
 clear hB
 have H : (if a7.length < 17592186044416 then ((some (a7 ++ [a1] : List Int)).bind fun d6 => (if a9.length < 140737488355328 then (if a3.length < 17592186044416 then (some (d6,(a9 ++ [false]),(a3 ++ [wrap64 ((d6.length : Int) - 1)]),a8,b1)) else (none)) else (none))) else (none)) = some (r1,r2,r3,r4,r5) := h
 clear h
 by_cases c3 : a7.length < 17592186044416
 rotate_left
 ·rw [if_neg c3] at H
  exact absurd H (by simp)
 rw [if_pos c3] at H
 have C6 := As_ c3
 clear c3
 obtain ⟨d6,n0⟩ : ∃ y_ : List Int,y_ = (a7 ++ [a1]) := ⟨_,rfl⟩
 replace H : (if a9.length < 140737488355328 then (if a3.length < 17592186044416 then (some (d6,(a9 ++ [false]),(a3 ++ [wrap64 ((d6.length : Int) - 1)]),a8,b1)) else (none)) else (none)) = some (r1,r2,r3,r4,r5) := zH_ H n0
 have r0 := As_ n0
 clear n0
 by_cases c4 : a9.length < 140737488355328
 rotate_left
 ·rw [if_neg c4] at H
  exact absurd H (by simp)
 rw [if_pos c4] at H
 have C7 := As_ c4
 clear c4
 obtain ⟨n1,n2⟩ : ∃ y_ : List Bool,y_ = (a9 ++ [false]) := ⟨_,rfl⟩
 replace H : (if a3.length < 17592186044416 then (some (d6,n1,(a3 ++ [wrap64 ((d6.length : Int) - 1)]),a8,b1)) else (none)) = some (r1,r2,r3,r4,r5) := zH_ H n2
 have r6 := As_ n2
 clear n2
 by_cases c5 : a3.length < 17592186044416
 rotate_left
 ·rw [if_neg c5] at H
  exact absurd H (by simp)
 rw [if_pos c5] at H
 have C8 := As_ c5
 clear c5
 obtain ⟨m6,n3⟩ : ∃ y_ : List Int,y_ = (a3 ++ [wrap64 ((d6.length : Int) - 1)]) := ⟨_,rfl⟩
 replace H : (some (d6,n1,m6,a8,b1)) = some (r1,r2,r3,r4,r5) := zH_ H n3
 have r7 := As_ n3
 clear n3
 simp only [Option.some.injEq,Prod.mk.injEq] at H
 obtain ⟨rfl,rfl,rfl,rfl,rfl⟩ := H
 obtain ⟨Ao6,co6,eo6⟩ := Kd.R_slice d8.out
 subst eo6
 obtain ⟨Ao7,co7,eo7⟩ := Kd.R_slice d1.out
 subst eo7
 obtain ⟨Ao8,co8,eo8⟩ := Kd.R_slice b9.out
 subst eo8
 obtain ⟨Ao9,co9,eo9⟩ := Kd.R_slice d0.out
 subst eo9
 go_enter Try.func123,Try.ntmps123
 go_wp2_with (first|((with_reducible refine gate_dst (N := 2) rfl ?_);refine box_event ?hg (N := 2) ?hd (cs := #[.slice Ao6 a7.length co6,.slice Ao7 a9.length co7,.slice Ao8 a3.length co8,.slice Ao9 a8.length co9,.bool b1]) (t := 120) ?hr ?_;(case hd => rfl);(case hg => rfl);(case hr => go_simp <;> rfl);intro b0 hg w10 hbox hb;have n0_ := As_ (Kd.R_below (zR_ d8.out) hb);have n1_ := As_ (Kd.R_below (zR_ d1.out) hb);have n2_ := As_ (Kd.R_below (zR_ b9.out) hb);have n3_ := As_ (Kd.R_below (zR_ d0.out) hb);have n4_ := As_ (Kept.below (S := (fun k_ => b2 k_ ∨ b8 k_ ∨ b3 k_ ∨ b4 k_)) (zq0 HK.out) hb);have n5_ := As_ (bwT (zb0 HB.out) hb);have n6_ := As_ (hbox);have n7_ := As_ ((by rw [hg];exact (kz HK.out) : w.heap.size ≤ b0));have n8_ := As_ ((by rw [hg];exact (bwZ (zb0 HB.out)) : w0.heap.size ≤ b0));clear d8 d1 b9 d0 HK HB;revert n0_ n1_ n2_ n3_ n4_ n5_ n6_ n7_ n8_;intro d8 d1 b9 d0 HK HB a4 j1 e3;clear hb hbox hg)|((with_reducible refine gate_dst (N := 4) rfl ?_);refine box_event ?hg (N := 4) ?hd (cs := #[.slice none 0 0,.slice none 0 0,.slice none 0 0,.slice none 0 0,.bool false]) (t := 120) ?hr ?_;(case hd => rfl);(case hg => rfl);(case hr => go_simp <;> rfl);intro d9 hg w11 hbox hb;have n0_ := As_ (Kd.R_below (zR_ d8.out) hb);have n1_ := As_ (Kd.R_below (zR_ d1.out) hb);have n2_ := As_ (Kd.R_below (zR_ b9.out) hb);have n3_ := As_ (Kd.R_below (zR_ d0.out) hb);have n4_ := As_ (zkb a4.out hb);have n5_ := As_ (Kept.below (S := (fun k_ => b2 k_ ∨ b8 k_ ∨ b3 k_ ∨ b4 k_)) (zq1 HK.out j1.out) hb);have n6_ := As_ (bwT (zb1 HB.out e3.out) hb);have n7_ := As_ (hbox);have n8_ := As_ ((by rw [hg];exact (kz HK.out) : w.heap.size ≤ d9));have n9_ := As_ ((by rw [hg];exact (bwZ (zb1 HB.out e3.out)) : w0.heap.size ≤ d9));have n10_ := As_ ((by rw [hg];exact Nat.ne_of_lt (zkl a4.out) : b0 ≠ d9));have n11_ := As_ ((by rw [hg];exact Nat.ne_of_gt (zkl a4.out) : d9 ≠ b0));clear d8 d1 b9 d0 a4 HK HB;revert n0_ n1_ n2_ n3_ n4_ n5_ n6_ n7_ n8_ n9_ n10_ n11_;intro d8 d1 b9 d0 a4 HK HB b5 j5 g5 m7 e2;clear hb hbox hg;have q7 := m7.out;have q8 := e2.out;have o6 : w11.cell? ⟨b0,0,none⟩ = some (.slice Ao6 a7.length co6) := (bkC a4.out 0).trans rfl;have o7 : w11.cell? ⟨b0,1,none⟩ = some (.slice Ao7 a9.length co7) := (bkC a4.out 1).trans rfl;have o8 : w11.cell? ⟨b0,2,none⟩ = some (.slice Ao8 a3.length co8) := (bkC a4.out 2).trans rfl;have o9 : w11.cell? ⟨b0,3,none⟩ = some (.slice Ao9 a8.length co9) := (bkC a4.out 3).trans rfl;have p0 : w11.cell? ⟨b0,4,none⟩ = some (.bool b1) := (bkC a4.out 4).trans rfl;have p1 := bkF a4.out 0;have p2 := bkF a4.out 1;have p3 := bkF a4.out 2;have p4 := bkF a4.out 3;have p6 := bkF a4.out 4)|((with_reducible refine gate_builtin (b := .append) (xs := #[.tmp 6,.tmp 8]) rfl ?_);at_builtin;refine Kd.R_append (Kd.int .i64) (w0 := w0) w0.heap.size rfl (.tmp 6) (.tmp 8) 22 3 (.int .i64 0) 8 rfl Try.underlying22 info3 rfl (by decide) (by omega) (.slice Ao6 a7.length co6) a7 a1 [.int .i64 a1] (fun k_ => ((b2 k_ ∨ b8 k_ ∨ b3 k_ ∨ b4 k_) ∨ w.heap.size ≤ k_) ∧ some k_ ≠ (.slice Ao8 a3.length co8 : Value).ownBlock ∧ some k_ ≠ (.slice Ao9 a8.length co9 : Value).ownBlock) (fun _ => False) rfl rfl ?aP (fun _ hk => hk.elim) ?aF ?aO ?aB ?aS ?aL ?_;(case aP => exact rfl);(case aB => exact (zb2 HB.out e3.out g5.out));(case aF => exact (fun k_ hk => ⟨(.inr (Nat.le_trans (kz HK.out) hk)),Kd.fresh' (Kd.R_lt (zR_ b9.out)) k_ hk,Kd.fresh' (Kd.R_lt (zR_ d0.out)) k_ hk⟩));(case aO => exact (zR_ d8.out));(case aS => exact (bwZ (zb2 HB.out e3.out g5.out)));(case aL => have := C6.out;omega);intro v655 w14 ho hb hg hat;rw [← r0.out] at ho;have n0_ := As_ (Kd.R_over' (zR_ d1.out) (Kd.R_typed (zR_ d8.out)) (by decide) hg);have n1_ := As_ (Kd.R_after (ok := (fun k_ => ((b2 k_ ∨ b8 k_ ∨ b3 k_ ∨ b4 k_) ∨ w.heap.size ≤ k_) ∧ some k_ ≠ (.slice Ao9 a8.length co9 : Value).ownBlock)) (by exact Kd.R_mono b9.out (fun _ hk => ⟨⟨hk.1,hk.2.2⟩,hk.2.1⟩)) hg hat);have n2_ := As_ (Kd.R_after (ok := (fun k_ => ((b2 k_ ∨ b8 k_ ∨ b3 k_ ∨ b4 k_) ∨ w.heap.size ≤ k_) ∧ some k_ ≠ (.slice Ao8 a3.length co8 : Value).ownBlock)) (by exact Kd.R_mono d0.out (fun _ hk => ⟨⟨hk.1,hk.2.2⟩,hk.2.1⟩)) hg hat);have n3_ := As_ (blk_grown (g := b0) (o := .cells #[.slice Ao6 a7.length co6,.slice Ao7 a9.length co7,.slice Ao8 a3.length co8,.slice Ao9 a8.length co9,.bool b1] 120 (0,0)) (zk_ a4.out) hg (rne d8.out a4.out));have n4_ := As_ (blk_grown (g := d9) (o := .cells #[.slice none 0 0,.slice none 0 0,.slice none 0 0,.slice none 0 0,.bool false] 120 (0,0)) (zk_ b5.out) hg (rne d8.out b5.out));have n5_ := As_ (hb);have n6_ := As_ (Kept.of_grown (S := (fun k_ => b2 k_ ∨ b8 k_ ∨ b3 k_ ∨ b4 k_)) hg (zq2 HK.out j1.out j5.out) (fun k_ e_ => (d8.out.1 k_ e_).1));have n7_ := As_ (ho);clear d1 b9 d0 a4 b5 HB HK d8;revert n0_ n1_ n2_ n3_ n4_ n5_ n6_ n7_;intro d1 b9 d0 a4 b5 HB HK e4;clear ho hb hg hat;obtain ⟨Ao15,co15,eo15⟩ := Kd.R_slice e4.out;subst eo15;have t4 : w14.cell? ⟨b0,0,none⟩ = some (.slice Ao6 a7.length co6) := (bkC a4.out 0).trans rfl;have t5 : w14.cell? ⟨b0,1,none⟩ = some (.slice Ao7 a9.length co7) := (bkC a4.out 1).trans rfl;have t6 : w14.cell? ⟨b0,2,none⟩ = some (.slice Ao8 a3.length co8) := (bkC a4.out 2).trans rfl;have t7 : w14.cell? ⟨b0,3,none⟩ = some (.slice Ao9 a8.length co9) := (bkC a4.out 3).trans rfl;have t8 : w14.cell? ⟨b0,4,none⟩ = some (.bool b1) := (bkC a4.out 4).trans rfl;have t9 := bkF a4.out 0;have u0 := bkF a4.out 1;have u1 := bkF a4.out 2;have u2 := bkF a4.out 3;have u3 := bkF a4.out 4)|((with_reducible refine gate_builtin (b := .append) (xs := #[.tmp 12,.tmp 13]) rfl ?_);at_builtin;refine Kd.R_append Kd.bool (w0 := w0) w0.heap.size rfl (.tmp 12) (.tmp 13) 118 4 (.bool false) 1 rfl Try.underlying118 info4 rfl (by decide) (by omega) (.slice Ao7 a9.length co7) a9 false [.bool false] (fun k_ => ((b2 k_ ∨ b8 k_ ∨ b3 k_ ∨ b4 k_) ∨ w.heap.size ≤ k_)) (fun _ => False) rfl (by go_simp <;> rfl) ?aP (fun _ hk => hk.elim) ?aF ?aO ?aB ?aS ?aL ?_;(case aP => exact rfl);(case aB => exact (zb2 HB.out e3.out g5.out));(case aF => exact (fun k_ hk => (.inr (Nat.le_trans (kz HK.out) hk))));(case aO => exact (by exact Kd.R_mono (rX1 d1.out a4.out 0) (fun _ hk => hk.1)));(case aS => exact (bwZ (zb2 HB.out e3.out g5.out)));(case aL => have := C7.out;omega);intro v658 w17 ho hb hg hat;rw [← r6.out] at ho;have n0_ := As_ (Kd.R_over' (by exact (Kd.R_mono (rX1 b9.out a4.out 0) (fun _ h_ => h_.1))) (Kd.R_typed (by exact (Kd.R_mono (rX1 d1.out a4.out 0) (fun _ h_ => h_.1)))) (by decide) hg);have n1_ := As_ (Kd.R_over' (by exact (Kd.R_mono (rX1 d0.out a4.out 0) (fun _ h_ => h_.1))) (Kd.R_typed (by exact (Kd.R_mono (rX1 d1.out a4.out 0) (fun _ h_ => h_.1)))) (by decide) hg);have n2_ := As_ (blk_grown (g := b0) (o := .cells #[.slice Ao15 d6.length co15,.slice Ao7 a9.length co7,.slice Ao8 a3.length co8,.slice Ao9 a8.length co9,.bool b1] 120 (0,0)) (by refine blk_put (cs := #[.slice Ao6 a7.length co6,.slice Ao7 a9.length co7,.slice Ao8 a3.length co8,.slice Ao9 a8.length co9,.bool b1]) ?_ 0 _ rfl;exact a4.out) hg (rne d1.out a4.out));have n3_ := As_ (blk_grown (g := d9) (o := .cells #[.slice none 0 0,.slice none 0 0,.slice none 0 0,.slice none 0 0,.bool false] 120 (0,0)) (by refine blk_far ?_ e2.out _;exact b5.out) hg (rne d1.out b5.out));have n4_ := As_ (Kd.R_over' (by exact (Kd.R_mono (rX1 e4.out a4.out 0) (fun _ h_ => h_.1))) (Kd.R_typed (by exact (Kd.R_mono (rX1 d1.out a4.out 0) (fun _ h_ => h_.1)))) (by decide) hg);have n5_ := As_ (hb);have n6_ := As_ (Kept.of_grown (S := (fun k_ => b2 k_ ∨ b8 k_ ∨ b3 k_ ∨ b4 k_)) hg (zq2 HK.out j1.out j5.out) (fun k_ e_ => (d1.out.1 k_ e_)));have n7_ := As_ (ho);clear b9 d0 a4 b5 e4 HB HK d1;revert n0_ n1_ n2_ n3_ n4_ n5_ n6_ n7_;intro b9 d0 a4 b5 e4 HB HK j2;clear ho hb hg hat;obtain ⟨Ao18,co18,eo18⟩ := Kd.R_slice j2.out;subst eo18;have u4 : w17.cell? ⟨b0,0,none⟩ = some (.slice Ao15 d6.length co15) := (bkC a4.out 0).trans rfl;have u5 : w17.cell? ⟨b0,1,none⟩ = some (.slice Ao7 a9.length co7) := (bkC a4.out 1).trans rfl;have u6 : w17.cell? ⟨b0,2,none⟩ = some (.slice Ao8 a3.length co8) := (bkC a4.out 2).trans rfl;have u7 : w17.cell? ⟨b0,3,none⟩ = some (.slice Ao9 a8.length co9) := (bkC a4.out 3).trans rfl;have u9 : w17.cell? ⟨b0,4,none⟩ = some (.bool b1) := (bkC a4.out 4).trans rfl;have v4 := bkF a4.out 0;have v5 := bkF a4.out 1;have v6 := bkF a4.out 2;have v7 := bkF a4.out 3;have v8 := bkF a4.out 4)|((with_reducible refine gate_builtin (b := .append) (xs := #[.tmp 17,.tmp 22]) rfl ?_);at_builtin;refine Kd.R_append (Kd.int .i64) (w0 := w0) w0.heap.size rfl (.tmp 17) (.tmp 22) 22 3 (.int .i64 0) 8 rfl Try.underlying22 info3 rfl (by decide) (by omega) (.slice Ao8 a3.length co8) a3 (wrap64 ((d6.length : Int) - 1)) [.int .i64 (wrap64 ((d6.length : Int) - 1))] (fun k_ => ((b2 k_ ∨ b8 k_ ∨ b3 k_ ∨ b4 k_) ∨ w.heap.size ≤ k_) ∧ some k_ ≠ (.slice Ao9 a8.length co9 : Value).ownBlock ∧ some k_ ≠ (.slice Ao15 d6.length co15 : Value).ownBlock) (fun _ => False) rfl (by go_simp <;> rfl) ?aP (fun _ hk => hk.elim) ?aF ?aO ?aB ?aS ?aL ?_;(case aP => exact rfl);(case aB => exact (zb2 HB.out e3.out g5.out));(case aF => exact (fun k_ hk => ⟨(.inr (Nat.le_trans (kz HK.out) hk)),Kd.fresh' (Kd.R_lt (by exact (Kd.R_mono (rX1 d0.out a4.out 1) (fun _ h_ => h_.1)))) k_ hk,Kd.fresh' (Kd.R_lt (by exact (Kd.R_mono (rX1 e4.out a4.out 1) (fun _ h_ => h_.1)))) k_ hk⟩));(case aO => exact (by exact Kd.R_mono (rX1 b9.out a4.out 1) (fun _ hk => ⟨hk.1.1.1,⟨hk.1.1.2,hk.1.2⟩⟩)));(case aS => exact (bwZ (zb2 HB.out e3.out g5.out)));(case aL => have := C8.out;omega);intro v661 w20 ho hb hg hat;rw [← r7.out] at ho;have n0_ := As_ (Kd.R_after (ok := (fun k_ => ((b2 k_ ∨ b8 k_ ∨ b3 k_ ∨ b4 k_) ∨ w.heap.size ≤ k_) ∧ some k_ ≠ (.slice Ao15 d6.length co15 : Value).ownBlock)) (by exact Kd.R_mono (rX1 d0.out a4.out 1) (fun _ hk => ⟨⟨hk.1.1.1,hk.1.2⟩,hk.1.1.2⟩)) hg hat);have n1_ := As_ (blk_grown (g := b0) (o := .cells #[.slice Ao15 d6.length co15,.slice Ao18 n1.length co18,.slice Ao8 a3.length co8,.slice Ao9 a8.length co9,.bool b1] 120 (0,0)) (by refine blk_put (cs := #[.slice Ao15 d6.length co15,.slice Ao7 a9.length co7,.slice Ao8 a3.length co8,.slice Ao9 a8.length co9,.bool b1]) ?_ 1 _ rfl;exact a4.out) hg (rne b9.out a4.out));have n2_ := As_ (blk_grown (g := d9) (o := .cells #[.slice none 0 0,.slice none 0 0,.slice none 0 0,.slice none 0 0,.bool false] 120 (0,0)) (by refine blk_far ?_ e2.out _;exact b5.out) hg (rne b9.out b5.out));have n3_ := As_ (Kd.R_after (ok := (fun k_ => ((b2 k_ ∨ b8 k_ ∨ b3 k_ ∨ b4 k_) ∨ w.heap.size ≤ k_) ∧ some k_ ≠ (.slice Ao9 a8.length co9 : Value).ownBlock)) (by exact Kd.R_mono (rX1 e4.out a4.out 1) (fun _ hk => ⟨⟨hk.1.1,hk.1.2.2⟩,hk.1.2.1⟩)) hg hat);have n4_ := As_ (Kd.R_over' (by exact (Kd.R_mono (rX1 j2.out a4.out 1) (fun _ h_ => h_.1))) (Kd.R_typed (by exact (Kd.R_mono (rX1 b9.out a4.out 1) (fun _ h_ => h_.1)))) (by decide) hg);have n5_ := As_ (hb);have n6_ := As_ (Kept.of_grown (S := (fun k_ => b2 k_ ∨ b8 k_ ∨ b3 k_ ∨ b4 k_)) hg (zq2 HK.out j1.out j5.out) (fun k_ e_ => (b9.out.1 k_ e_).1.1));have n7_ := As_ (ho);clear d0 a4 b5 e4 j2 HB HK b9;revert n0_ n1_ n2_ n3_ n4_ n5_ n6_ n7_;intro d0 a4 b5 e4 j2 HB HK p9;clear ho hb hg hat;obtain ⟨Ao21,co21,eo21⟩ := Kd.R_slice p9.out;subst eo21;have v9 : w20.cell? ⟨b0,0,none⟩ = some (.slice Ao15 d6.length co15) := (bkC a4.out 0).trans rfl;have x0 : w20.cell? ⟨b0,1,none⟩ = some (.slice Ao18 n1.length co18) := (bkC a4.out 1).trans rfl;have x1 : w20.cell? ⟨b0,2,none⟩ = some (.slice Ao8 a3.length co8) := (bkC a4.out 2).trans rfl;have x3 : w20.cell? ⟨b0,3,none⟩ = some (.slice Ao9 a8.length co9) := (bkC a4.out 3).trans rfl;have x4 : w20.cell? ⟨b0,4,none⟩ = some (.bool b1) := (bkC a4.out 4).trans rfl;have x5 := bkF a4.out 0;have x6 := bkF a4.out 1;have x7 := bkF a4.out 2;have x8 := bkF a4.out 3;have x9 := bkF a4.out 4;have y3 : w20.cell? ⟨d9,0,none⟩ = some (.slice none 0 0) := (bkC b5.out 0).trans rfl;have y4 : w20.cell? ⟨d9,1,none⟩ = some (.slice none 0 0) := (bkC b5.out 1).trans rfl;have y5 : w20.cell? ⟨d9,2,none⟩ = some (.slice none 0 0) := (bkC b5.out 2).trans rfl;have y6 : w20.cell? ⟨d9,3,none⟩ = some (.slice none 0 0) := (bkC b5.out 3).trans rfl;have y7 : w20.cell? ⟨d9,4,none⟩ = some (.bool false) := (bkC b5.out 4).trans rfl;have y8 := bkF b5.out 0;have y9 := bkF b5.out 1;have z1 := bkF b5.out 2;have z2 := bkF b5.out 3;have z3 := bkF b5.out 4))
 refine bodyPost_ret (results_cell_row rfl _ _ d9 120 #[.slice Ao15 d6.length co15,.slice Ao18 n1.length co18,.slice Ao21 m6.length co21,.slice Ao9 a8.length co9,.bool b1] (0,0) _ rfl (by apply p5;refine blk_far ?_ e2.out _;exact b5.out) Try.underlying120 rfl (by kernel_rfl)) rfl ?_
 exact ⟨_,_,_,_,zE_,by exact Kd.R_mono (rF5 (Kd.R_far (p := ⟨b0,2,none⟩) (Kd.R_types (rT e4.out a4.out) b5.out (by decide)) (fun _ hk => hk.1.2) (.slice Ao21 m6.length co21)) (fun _ hk => hk.2)) (fun _ hk => ⟨hk.1.1.1.1,⟨hk.1.1.2,hk.1.1.1.2⟩⟩),by exact Kd.R_mono (rF5 (Kd.R_far (p := ⟨b0,2,none⟩) (Kd.R_types (rT j2.out a4.out) b5.out (by decide)) (fun _ hk => hk.1.2) (.slice Ao21 m6.length co21)) (fun _ hk => hk.2)) (fun _ hk => hk.1.1),by exact Kd.R_mono (rF5 (Kd.R_far (p := ⟨b0,2,none⟩) (Kd.R_types (rT p9.out a4.out) b5.out (by decide)) (fun _ hk => hk.1.2) (.slice Ao21 m6.length co21)) (fun _ hk => hk.2)) (fun _ hk => ⟨hk.1.1.1,⟨hk.1.1.2.2,hk.1.1.2.1⟩⟩),by exact Kd.R_mono (rF5 (Kd.R_far (p := ⟨b0,2,none⟩) (Kd.R_types (rT d0.out a4.out) b5.out (by decide)) (fun _ hk => hk.1.2) (.slice Ao21 m6.length co21)) (fun _ hk => hk.2)) (fun _ hk => ⟨hk.1.1.1.1,⟨hk.1.1.1.2,hk.1.1.2⟩⟩),zb2 HB.out e3.out g5.out,zq2 HK.out j1.out j5.out⟩

/-! ### spec_copyInts: function 121 -/
def spec_copyInts.f (l0 : List Int) : Option (List Int) := (some (([] : List Int) : List Int)).bind fun g6 => (if g6.length + l0.length < 17592186044416 then (some (g6 ++ l0)) else (none))
set_option maxHeartbeats 8000000 in
set_option maxRecDepth 100000 in
theorem spec_copyInts.calls (A0 : Option Addr) (c0 : Nat) (l0 : List Int) (r : List Int) (w : World) (hr0 : Kd.C (Kd.int .i64) w A0 l0.length l0) (hc0 : l0.length ≤ c0) (h : spec_copyInts.f l0 = some r) :
  Calls Try.prog 121 #[.slice A0 l0.length c0] w fun e w' => ∃ v0_ : Value,e = .returned (v0_) ∧ Kd.R (Kd.int .i64) 3 w' w.heap.size (fun _ => True) v0_ r ∧ Below w.heap.size w w' := by
 have HR0 := As_ hr0
 have HC0 := As_ hc0
 clear hr0 hc0
 have HB := As_ (Below.refl w.heap.size w)
 have H : ((some (([] : List Int) : List Int)).bind fun g6 => (if g6.length + l0.length < 17592186044416 then (some (g6 ++ l0)) else (none))) = some r := h
 clear h
 obtain ⟨g6,n4⟩ : ∃ y_ : List Int,y_ = (([] : List Int)) := ⟨_,rfl⟩
 replace H : (if g6.length + l0.length < 17592186044416 then (some (g6 ++ l0)) else (none)) = some r := zH_ H n4
 have q0 := As_ n4
 clear n4
 by_cases c2 : g6.length + l0.length < 17592186044416
 rotate_left
 ·rw [if_neg c2] at H
  exact absurd H (by simp)
 rw [if_pos c2] at H
 have C9 := As_ c2
 clear c2
 obtain ⟨D0,n5⟩ : ∃ y_ : List Int,y_ = (g6 ++ l0) := ⟨_,rfl⟩
 replace H : (some D0) = some r := zH_ H n5
 have r8 := As_ n5
 clear n5
 obtain rfl := Option.some.inj H
 go_enter Try.func121,Try.ntmps121
 go_wp2_with (first|((with_reducible refine gate_dst (N := 3) rfl ?_);refine Kd.R_lit (Kd.int .i64) _ 3 ?hg (N := 3) ?hd (xs := ([] : List Int)) (inner := []) (ok := fun _ => True) (okp := fun _ => True) ?hr ?hp (fun _ hk => hk) trivial (Below.refl _ _) (Nat.le_refl _) (by simp) ?_;(case hd => rfl);(case hg => rfl);(case hr => go_simp <;> rfl);(case hp => exact (Reps.none _ _));intro v664 w3 ho4 hb hg_ hnew_;clear hg_ hnew_;(first|rw [← q0.out] at ho4|(simp only [Int.reduceToNat] at ho4;rw [← q0.out] at ho4));have n0_ := As_ (Kd.R_lower ho4 (bwZ (zb0 HB.out)));have n1_ := As_ (bwT (zb0 HB.out) hb);clear HB;revert n0_ n1_;intro q1 HB;clear hb ho4)|((with_reducible refine gate_builtin (b := .append) (xs := #[.tmp 3,.tmp 4]) rfl ?_);at_builtin;refine Kd.R_append_rows (Kd.int .i64) (w0 := w) w.heap.size rfl (.tmp 3) (.tmp 4) 22 3 (.int .i64 0) 8 rfl Try.underlying22 info3 rfl (by decide) (by omega) v664 g6 l0 _ _ _ (fun _ => True) (fun _ => False) rfl rfl ?aO ?aR (fun _ _ h => h) (fun _ h => h.elim) ?aF ?aB ?aS ?aL ?_;(case aR => exact zC_ (Kd.C_below HR0.out HB.out));(case aB => exact (zb0 HB.out));(case aF => exact (fun _ _ => trivial));(case aO => exact (zR_ q1.out));(case aS => exact (bwZ (zb0 HB.out)));(case aL => have := C9.out;omega);intro v667 w5 ho hb hg hat;rw [← r8.out] at ho;have n0_ := As_ (hb);have n1_ := As_ (ho);clear HB q1;revert n0_ n1_;intro HB r9;clear ho hb hg hat))
 go_ret
 exact ⟨_,zE_,by exact r9.out,zb0 HB.out⟩

/-! ### spec_shapeAt: function 128 -/
def spec_shapeAt.f (a7 : List Int) (a9 : List Bool) (a3 : List Int) (a8 : List Int) (b1 : Bool) (a1 : Int) : Option (Int) := if (wrap64 ((wrap64 ((a3.length : Int) - 1)) - a1)) < 0 then (some (-1)) else (if 0 ≤ (wrap64 ((wrap64 ((a3.length : Int) - 1)) - a1)) then (if (wrap64 ((wrap64 ((a3.length : Int) - 1)) - a1)) < (a3.length : Int) then (if (rd a3 (wrap64 ((wrap64 ((a3.length : Int) - 1)) - a1))) < 0 then (some (-1)) else (if 0 ≤ (rd a3 (wrap64 ((wrap64 ((a3.length : Int) - 1)) - a1))) then (if (rd a3 (wrap64 ((wrap64 ((a3.length : Int) - 1)) - a1))) < (a7.length : Int) then (some (rd a7 (rd a3 (wrap64 ((wrap64 ((a3.length : Int) - 1)) - a1))))) else (none)) else (none))) else (none)) else (none))
set_option maxHeartbeats 8000000 in
set_option maxRecDepth 100000 in
theorem spec_shapeAt.calls (A0_0 : Option Addr) (c0_0 : Nat) (a7 : List Int) (A0_1 : Option Addr) (c0_1 : Nat) (a9 : List Bool) (A0_2 : Option Addr) (c0_2 : Nat) (a3 : List Int) (A0_3 : Option Addr) (c0_3 : Nat) (a8 : List Int) (b1 : Bool) (a1 : Int) (r : Int) (w : World) (hr0_0 : Kd.C (Kd.int .i64) w A0_0 a7.length a7) (hc0_0 : a7.length ≤ c0_0) (hr0_1 : Kd.C Kd.bool w A0_1 a9.length a9) (hc0_1 : a9.length ≤ c0_1) (hr0_2 : Kd.C (Kd.int .i64) w A0_2 a3.length a3) (hc0_2 : a3.length ≤ c0_2) (hr0_3 : Kd.C (Kd.int .i64) w A0_3 a8.length a8) (hc0_3 : a8.length ≤ c0_3) (h : spec_shapeAt.f a7 a9 a3 a8 b1 a1 = some r) :
  Calls Try.prog 128 #[.agg #[.slice A0_0 a7.length c0_0,.slice A0_1 a9.length c0_1,.slice A0_2 a3.length c0_2,.slice A0_3 a8.length c0_3,.bool b1],.int .i64 a1] w fun e w' => e = .returned (.int .i64 r) ∧ Below w.heap.size w w' := by
 have hu120 := Try.underlying120
 have HR0_0 := As_ hr0_0
 have HC0_0 := As_ hc0_0
 clear hr0_0 hc0_0
 have HR0_1 := As_ hr0_1
 have HC0_1 := As_ hc0_1
 clear hr0_1 hc0_1
 have HR0_2 := As_ hr0_2
 have HC0_2 := As_ hc0_2
 clear hr0_2 hc0_2
 have HR0_3 := As_ hr0_3
 have HC0_3 := As_ hc0_3
 clear hr0_3 hc0_3
 have HB := As_ (Below.refl w.heap.size w)
 have H : (if (wrap64 ((wrap64 ((a3.length : Int) - 1)) - a1)) < 0 then (some (-1)) else (if 0 ≤ (wrap64 ((wrap64 ((a3.length : Int) - 1)) - a1)) then (if (wrap64 ((wrap64 ((a3.length : Int) - 1)) - a1)) < (a3.length : Int) then (if (rd a3 (wrap64 ((wrap64 ((a3.length : Int) - 1)) - a1))) < 0 then (some (-1)) else (if 0 ≤ (rd a3 (wrap64 ((wrap64 ((a3.length : Int) - 1)) - a1))) then (if (rd a3 (wrap64 ((wrap64 ((a3.length : Int) - 1)) - a1))) < (a7.length : Int) then (some (rd a7 (rd a3 (wrap64 ((wrap64 ((a3.length : Int) - 1)) - a1))))) else (none)) else (none))) else (none)) else (none))) = some r := h
 clear h
 by_cases c3 : (wrap64 ((wrap64 ((a3.length : Int) - 1)) - a1)) < 0
 ·rw [if_pos c3] at H
  have p7 : decide ((wrap64 ((wrap64 ((a3.length : Int) - 1)) - a1)) < 0) = true := deT c3
  clear c3
  obtain rfl := Option.some.inj H
  go_enter Try.func128,Try.ntmps128
  go_wp2_with (first|((with_reducible refine gate_dst (N := 2) rfl ?_);refine box_event ?hg (N := 2) ?hd (cs := #[.slice A0_0 a7.length c0_0,.slice A0_1 a9.length c0_1,.slice A0_2 a3.length c0_2,.slice A0_3 a8.length c0_3,.bool b1]) (t := 120) ?hr ?_;(case hd => rfl);(case hg => rfl);(case hr => go_simp <;> rfl);intro a5 hg w4 hbox hb;have n0_ := As_ (bwT (zb0 HB.out) hb);have n1_ := As_ (hbox);have n2_ := As_ ((by rw [hg];exact (bwZ (zb0 HB.out)) : w.heap.size ≤ a5));have n3_ := As_ ((by rw [hg];exact (bwZ (zb0 HB.out)) : w.heap.size ≤ a5));clear HB;revert n0_ n1_ n2_ n3_;intro HB a2 e7 e1;clear hb hbox hg;have n6 : w4.cell? ⟨a5,0,none⟩ = some (.slice A0_0 a7.length c0_0) := (bkC a2.out 0).trans rfl;have n7 : w4.cell? ⟨a5,1,none⟩ = some (.slice A0_1 a9.length c0_1) := (bkC a2.out 1).trans rfl;have n8 : w4.cell? ⟨a5,2,none⟩ = some (.slice A0_2 a3.length c0_2) := (bkC a2.out 2).trans rfl;have n9 : w4.cell? ⟨a5,3,none⟩ = some (.slice A0_3 a8.length c0_3) := (bkC a2.out 3).trans rfl;have o0 : w4.cell? ⟨a5,4,none⟩ = some (.bool b1) := (bkC a2.out 4).trans rfl;have o1 := bkF a2.out 0;have o2 := bkF a2.out 1;have o3 := bkF a2.out 2;have o4 := bkF a2.out 3;have o5 := bkF a2.out 4))
  repeat (go_quiet (first|((with_reducible refine gate_dst (N := 2) rfl ?_);refine box_event ?hg (N := 2) ?hd (cs := #[.slice A0_0 a7.length c0_0,.slice A0_1 a9.length c0_1,.slice A0_2 a3.length c0_2,.slice A0_3 a8.length c0_3,.bool b1]) (t := 120) ?hr ?_;(case hd => rfl);(case hg => rfl);(case hr => go_simp <;> rfl);intro a5 hg w4 hbox hb;have n0_ := As_ (bwT (zb0 HB.out) hb);have n1_ := As_ (hbox);have n2_ := As_ ((by rw [hg];exact (bwZ (zb0 HB.out)) : w.heap.size ≤ a5));have n3_ := As_ ((by rw [hg];exact (bwZ (zb0 HB.out)) : w.heap.size ≤ a5));clear HB;revert n0_ n1_ n2_ n3_;intro HB a2 e7 e1;clear hb hbox hg;have n6 : w4.cell? ⟨a5,0,none⟩ = some (.slice A0_0 a7.length c0_0) := (bkC a2.out 0).trans rfl;have n7 : w4.cell? ⟨a5,1,none⟩ = some (.slice A0_1 a9.length c0_1) := (bkC a2.out 1).trans rfl;have n8 : w4.cell? ⟨a5,2,none⟩ = some (.slice A0_2 a3.length c0_2) := (bkC a2.out 2).trans rfl;have n9 : w4.cell? ⟨a5,3,none⟩ = some (.slice A0_3 a8.length c0_3) := (bkC a2.out 3).trans rfl;have o0 : w4.cell? ⟨a5,4,none⟩ = some (.bool b1) := (bkC a2.out 4).trans rfl;have o1 := bkF a2.out 0;have o2 := bkF a2.out 1;have o3 := bkF a2.out 2;have o4 := bkF a2.out 3;have o5 := bkF a2.out 4));try go_wp2_with (first|((with_reducible refine gate_dst (N := 2) rfl ?_);refine box_event ?hg (N := 2) ?hd (cs := #[.slice A0_0 a7.length c0_0,.slice A0_1 a9.length c0_1,.slice A0_2 a3.length c0_2,.slice A0_3 a8.length c0_3,.bool b1]) (t := 120) ?hr ?_;(case hd => rfl);(case hg => rfl);(case hr => go_simp <;> rfl);intro a5 hg w4 hbox hb;have n0_ := As_ (bwT (zb0 HB.out) hb);have n1_ := As_ (hbox);have n2_ := As_ ((by rw [hg];exact (bwZ (zb0 HB.out)) : w.heap.size ≤ a5));have n3_ := As_ ((by rw [hg];exact (bwZ (zb0 HB.out)) : w.heap.size ≤ a5));clear HB;revert n0_ n1_ n2_ n3_;intro HB a2 e7 e1;clear hb hbox hg;have n6 : w4.cell? ⟨a5,0,none⟩ = some (.slice A0_0 a7.length c0_0) := (bkC a2.out 0).trans rfl;have n7 : w4.cell? ⟨a5,1,none⟩ = some (.slice A0_1 a9.length c0_1) := (bkC a2.out 1).trans rfl;have n8 : w4.cell? ⟨a5,2,none⟩ = some (.slice A0_2 a3.length c0_2) := (bkC a2.out 2).trans rfl;have n9 : w4.cell? ⟨a5,3,none⟩ = some (.slice A0_3 a8.length c0_3) := (bkC a2.out 3).trans rfl;have o0 : w4.cell? ⟨a5,4,none⟩ = some (.bool b1) := (bkC a2.out 4).trans rfl;have o1 := bkF a2.out 0;have o2 := bkF a2.out 1;have o3 := bkF a2.out 2;have o4 := bkF a2.out 3;have o5 := bkF a2.out 4)))
  go_ret
  exact ⟨zE_,zb1 HB.out e1.out⟩
 rw [if_neg c3] at H
 have p7 : decide ((wrap64 ((wrap64 ((a3.length : Int) - 1)) - a1)) < 0) = false := deF c3
 clear c3
 obtain ⟨d3,m8⟩ : ∃ j_ : Int,(wrap64 ((wrap64 ((a3.length : Int) - 1)) - a1)) = j_ := ⟨_,rfl⟩
 replace H : (if 0 ≤ (d3) then (if (d3) < (a3.length : Int) then (if (rd a3 (d3)) < 0 then (some (-1)) else (if 0 ≤ (rd a3 (d3)) then (if (rd a3 (d3)) < (a7.length : Int) then (some (rd a7 (rd a3 (d3)))) else (none)) else (none))) else (none)) else (none)) = some r := by first|(rw [m8] at H;exact H)|(simp only [m8] at H ⊢;exact H)
 (try rw [m8] at p7)
 have D4 : (IntKind.i64.wrap ((wrap64 ((a3.length : Int) - 1)) - a1)) = d3 := (i64_w _).trans m8
 by_cases c7 : 0 ≤ (d3)
 rotate_left
 ·rw [if_neg c7] at H
  exact absurd H (by simp)
 rw [if_pos c7] at H
 have q9 : decide (0 ≤ (d3)) = true := deT c7
 clear c7
 by_cases c8 : (d3) < (a3.length : Int)
 rotate_left
 ·rw [if_neg c8] at H
  exact absurd H (by simp)
 rw [if_pos c8] at H
 have E1 : decide ((d3) < (a3.length : Int)) = true := deT c8
 clear c8
 by_cases c9 : (rd a3 (d3)) < 0
 ·rw [if_pos c9] at H
  have D1 : decide ((rd a3 (d3)) < 0) = true := deT c9
  clear c9
  obtain rfl := Option.some.inj H
  go_enter Try.func128,Try.ntmps128
  go_wp2_with (first|((with_reducible refine gate_dst (N := 2) rfl ?_);refine box_event ?hg (N := 2) ?hd (cs := #[.slice A0_0 a7.length c0_0,.slice A0_1 a9.length c0_1,.slice A0_2 a3.length c0_2,.slice A0_3 a8.length c0_3,.bool b1]) (t := 120) ?hr ?_;(case hd => rfl);(case hg => rfl);(case hr => go_simp <;> rfl);intro a5 hg w10 hbox hb;have n0_ := As_ (bwT (zb0 HB.out) hb);have n1_ := As_ (hbox);have n2_ := As_ ((by rw [hg];exact (bwZ (zb0 HB.out)) : w.heap.size ≤ a5));have n3_ := As_ ((by rw [hg];exact (bwZ (zb0 HB.out)) : w.heap.size ≤ a5));clear HB;revert n0_ n1_ n2_ n3_;intro HB a2 e7 e1;clear hb hbox hg;have g8 : w10.cell? ⟨a5,0,none⟩ = some (.slice A0_0 a7.length c0_0) := (bkC a2.out 0).trans rfl;have g9 : w10.cell? ⟨a5,1,none⟩ = some (.slice A0_1 a9.length c0_1) := (bkC a2.out 1).trans rfl;have i1 : w10.cell? ⟨a5,2,none⟩ = some (.slice A0_2 a3.length c0_2) := (bkC a2.out 2).trans rfl;have i2 : w10.cell? ⟨a5,3,none⟩ = some (.slice A0_3 a8.length c0_3) := (bkC a2.out 3).trans rfl;have i3 : w10.cell? ⟨a5,4,none⟩ = some (.bool b1) := (bkC a2.out 4).trans rfl;have i4 := bkF a2.out 0;have i5 := bkF a2.out 1;have i6 := bkF a2.out 2;have i7 := bkF a2.out 3;have i8 := bkF a2.out 4;have p670 : 0 ≤ ((d3) : Int) := odT zA_;have q670 : (d3) < (a3.length : Int) := odT zA_;obtain ⟨ad670,e670,hx670_0⟩ := Kd.at_int HR0_2.out (d3) p670 q670;cases e670;replace hx670_0 := bwC HB.out hx670_0;replace p670 := eq_true p670;replace q670 := eq_true q670))
  repeat (go_quiet (first|((with_reducible refine gate_dst (N := 2) rfl ?_);refine box_event ?hg (N := 2) ?hd (cs := #[.slice A0_0 a7.length c0_0,.slice A0_1 a9.length c0_1,.slice A0_2 a3.length c0_2,.slice A0_3 a8.length c0_3,.bool b1]) (t := 120) ?hr ?_;(case hd => rfl);(case hg => rfl);(case hr => go_simp <;> rfl);intro a5 hg w10 hbox hb;have n0_ := As_ (bwT (zb0 HB.out) hb);have n1_ := As_ (hbox);have n2_ := As_ ((by rw [hg];exact (bwZ (zb0 HB.out)) : w.heap.size ≤ a5));have n3_ := As_ ((by rw [hg];exact (bwZ (zb0 HB.out)) : w.heap.size ≤ a5));clear HB;revert n0_ n1_ n2_ n3_;intro HB a2 e7 e1;clear hb hbox hg;have g8 : w10.cell? ⟨a5,0,none⟩ = some (.slice A0_0 a7.length c0_0) := (bkC a2.out 0).trans rfl;have g9 : w10.cell? ⟨a5,1,none⟩ = some (.slice A0_1 a9.length c0_1) := (bkC a2.out 1).trans rfl;have i1 : w10.cell? ⟨a5,2,none⟩ = some (.slice A0_2 a3.length c0_2) := (bkC a2.out 2).trans rfl;have i2 : w10.cell? ⟨a5,3,none⟩ = some (.slice A0_3 a8.length c0_3) := (bkC a2.out 3).trans rfl;have i3 : w10.cell? ⟨a5,4,none⟩ = some (.bool b1) := (bkC a2.out 4).trans rfl;have i4 := bkF a2.out 0;have i5 := bkF a2.out 1;have i6 := bkF a2.out 2;have i7 := bkF a2.out 3;have i8 := bkF a2.out 4;have p670 : 0 ≤ ((d3) : Int) := odT zA_;have q670 : (d3) < (a3.length : Int) := odT zA_;obtain ⟨ad670,e670,hx670_0⟩ := Kd.at_int HR0_2.out (d3) p670 q670;cases e670;replace hx670_0 := bwC HB.out hx670_0;replace p670 := eq_true p670;replace q670 := eq_true q670));try go_wp2_with (first|((with_reducible refine gate_dst (N := 2) rfl ?_);refine box_event ?hg (N := 2) ?hd (cs := #[.slice A0_0 a7.length c0_0,.slice A0_1 a9.length c0_1,.slice A0_2 a3.length c0_2,.slice A0_3 a8.length c0_3,.bool b1]) (t := 120) ?hr ?_;(case hd => rfl);(case hg => rfl);(case hr => go_simp <;> rfl);intro a5 hg w10 hbox hb;have n0_ := As_ (bwT (zb0 HB.out) hb);have n1_ := As_ (hbox);have n2_ := As_ ((by rw [hg];exact (bwZ (zb0 HB.out)) : w.heap.size ≤ a5));have n3_ := As_ ((by rw [hg];exact (bwZ (zb0 HB.out)) : w.heap.size ≤ a5));clear HB;revert n0_ n1_ n2_ n3_;intro HB a2 e7 e1;clear hb hbox hg;have g8 : w10.cell? ⟨a5,0,none⟩ = some (.slice A0_0 a7.length c0_0) := (bkC a2.out 0).trans rfl;have g9 : w10.cell? ⟨a5,1,none⟩ = some (.slice A0_1 a9.length c0_1) := (bkC a2.out 1).trans rfl;have i1 : w10.cell? ⟨a5,2,none⟩ = some (.slice A0_2 a3.length c0_2) := (bkC a2.out 2).trans rfl;have i2 : w10.cell? ⟨a5,3,none⟩ = some (.slice A0_3 a8.length c0_3) := (bkC a2.out 3).trans rfl;have i3 : w10.cell? ⟨a5,4,none⟩ = some (.bool b1) := (bkC a2.out 4).trans rfl;have i4 := bkF a2.out 0;have i5 := bkF a2.out 1;have i6 := bkF a2.out 2;have i7 := bkF a2.out 3;have i8 := bkF a2.out 4;have p670 : 0 ≤ ((d3) : Int) := odT zA_;have q670 : (d3) < (a3.length : Int) := odT zA_;obtain ⟨ad670,e670,hx670_0⟩ := Kd.at_int HR0_2.out (d3) p670 q670;cases e670;replace hx670_0 := bwC HB.out hx670_0;replace p670 := eq_true p670;replace q670 := eq_true q670)))
  go_ret
  exact ⟨by first|rfl|(simp [errW_none,errW_some] <;> rfl)|(simp only [← m8];first|rfl|(simp [errW_none,errW_some] <;> rfl))|(simp [*,errW_none,errW_some] <;> rfl),zb1 HB.out e1.out⟩
 rw [if_neg c9] at H
 have D1 : decide ((rd a3 (d3)) < 0) = false := deF c9
 clear c9
 by_cases c12 : 0 ≤ (rd a3 (d3))
 rotate_left
 ·rw [if_neg c12] at H
  exact absurd H (by simp)
 rw [if_pos c12] at H
 have D5 : decide (0 ≤ (rd a3 (d3))) = true := deT c12
 clear c12
 by_cases c13 : (rd a3 (d3)) < (a7.length : Int)
 rotate_left
 ·rw [if_neg c13] at H
  exact absurd H (by simp)
 rw [if_pos c13] at H
 have D6 : decide ((rd a3 (d3)) < (a7.length : Int)) = true := deT c13
 clear c13
 obtain rfl := Option.some.inj H
 go_enter Try.func128,Try.ntmps128
 go_wp2_with (first|((with_reducible refine gate_dst (N := 2) rfl ?_);refine box_event ?hg (N := 2) ?hd (cs := #[.slice A0_0 a7.length c0_0,.slice A0_1 a9.length c0_1,.slice A0_2 a3.length c0_2,.slice A0_3 a8.length c0_3,.bool b1]) (t := 120) ?hr ?_;(case hd => rfl);(case hg => rfl);(case hr => go_simp <;> rfl);intro a5 hg w14 hbox hb;have n0_ := As_ (bwT (zb0 HB.out) hb);have n1_ := As_ (hbox);have n2_ := As_ ((by rw [hg];exact (bwZ (zb0 HB.out)) : w.heap.size ≤ a5));have n3_ := As_ ((by rw [hg];exact (bwZ (zb0 HB.out)) : w.heap.size ≤ a5));clear HB;revert n0_ n1_ n2_ n3_;intro HB a2 e7 e1;clear hb hbox hg;have j6 : w14.cell? ⟨a5,0,none⟩ = some (.slice A0_0 a7.length c0_0) := (bkC a2.out 0).trans rfl;have j7 : w14.cell? ⟨a5,1,none⟩ = some (.slice A0_1 a9.length c0_1) := (bkC a2.out 1).trans rfl;have j8 : w14.cell? ⟨a5,2,none⟩ = some (.slice A0_2 a3.length c0_2) := (bkC a2.out 2).trans rfl;have j9 : w14.cell? ⟨a5,3,none⟩ = some (.slice A0_3 a8.length c0_3) := (bkC a2.out 3).trans rfl;have l4 : w14.cell? ⟨a5,4,none⟩ = some (.bool b1) := (bkC a2.out 4).trans rfl;have l5 := bkF a2.out 0;have l6 := bkF a2.out 1;have l7 := bkF a2.out 2;have l8 := bkF a2.out 3;have l9 := bkF a2.out 4;have p670 : 0 ≤ ((d3) : Int) := odT zA_;have q670 : (d3) < (a3.length : Int) := odT zA_;obtain ⟨ad670,e670,hx670_0⟩ := Kd.at_int HR0_2.out (d3) p670 q670;cases e670;replace hx670_0 := bwC HB.out hx670_0;replace p670 := eq_true p670;replace q670 := eq_true q670;have p671 : 0 ≤ ((d3) : Int) := odT zA_;have q671 : (d3) < (a3.length : Int) := odT zA_;obtain ⟨ad671,e671,hx671_0⟩ := Kd.at_int HR0_2.out (d3) p671 q671;obtain rfl : ad670 = ad671 := (by injection e671);replace hx671_0 := bwC HB.out hx671_0;replace p671 := eq_true p671;replace q671 := eq_true q671;have p672 : 0 ≤ ((rd a3 (d3)) : Int) := odT zA_;have q672 : (rd a3 (d3)) < (a7.length : Int) := odT zA_;obtain ⟨ad672,e672,hx672_0⟩ := Kd.at_int HR0_0.out (rd a3 (d3)) p672 q672;cases e672;replace hx672_0 := bwC HB.out hx672_0;replace p672 := eq_true p672;replace q672 := eq_true q672))
 repeat (go_quiet (first|((with_reducible refine gate_dst (N := 2) rfl ?_);refine box_event ?hg (N := 2) ?hd (cs := #[.slice A0_0 a7.length c0_0,.slice A0_1 a9.length c0_1,.slice A0_2 a3.length c0_2,.slice A0_3 a8.length c0_3,.bool b1]) (t := 120) ?hr ?_;(case hd => rfl);(case hg => rfl);(case hr => go_simp <;> rfl);intro a5 hg w14 hbox hb;have n0_ := As_ (bwT (zb0 HB.out) hb);have n1_ := As_ (hbox);have n2_ := As_ ((by rw [hg];exact (bwZ (zb0 HB.out)) : w.heap.size ≤ a5));have n3_ := As_ ((by rw [hg];exact (bwZ (zb0 HB.out)) : w.heap.size ≤ a5));clear HB;revert n0_ n1_ n2_ n3_;intro HB a2 e7 e1;clear hb hbox hg;have j6 : w14.cell? ⟨a5,0,none⟩ = some (.slice A0_0 a7.length c0_0) := (bkC a2.out 0).trans rfl;have j7 : w14.cell? ⟨a5,1,none⟩ = some (.slice A0_1 a9.length c0_1) := (bkC a2.out 1).trans rfl;have j8 : w14.cell? ⟨a5,2,none⟩ = some (.slice A0_2 a3.length c0_2) := (bkC a2.out 2).trans rfl;have j9 : w14.cell? ⟨a5,3,none⟩ = some (.slice A0_3 a8.length c0_3) := (bkC a2.out 3).trans rfl;have l4 : w14.cell? ⟨a5,4,none⟩ = some (.bool b1) := (bkC a2.out 4).trans rfl;have l5 := bkF a2.out 0;have l6 := bkF a2.out 1;have l7 := bkF a2.out 2;have l8 := bkF a2.out 3;have l9 := bkF a2.out 4;have p670 : 0 ≤ ((d3) : Int) := odT zA_;have q670 : (d3) < (a3.length : Int) := odT zA_;obtain ⟨ad670,e670,hx670_0⟩ := Kd.at_int HR0_2.out (d3) p670 q670;cases e670;replace hx670_0 := bwC HB.out hx670_0;replace p670 := eq_true p670;replace q670 := eq_true q670;have p671 : 0 ≤ ((d3) : Int) := odT zA_;have q671 : (d3) < (a3.length : Int) := odT zA_;obtain ⟨ad671,e671,hx671_0⟩ := Kd.at_int HR0_2.out (d3) p671 q671;obtain rfl : ad670 = ad671 := (by injection e671);replace hx671_0 := bwC HB.out hx671_0;replace p671 := eq_true p671;replace q671 := eq_true q671;have p672 : 0 ≤ ((rd a3 (d3)) : Int) := odT zA_;have q672 : (rd a3 (d3)) < (a7.length : Int) := odT zA_;obtain ⟨ad672,e672,hx672_0⟩ := Kd.at_int HR0_0.out (rd a3 (d3)) p672 q672;cases e672;replace hx672_0 := bwC HB.out hx672_0;replace p672 := eq_true p672;replace q672 := eq_true q672));try go_wp2_with (first|((with_reducible refine gate_dst (N := 2) rfl ?_);refine box_event ?hg (N := 2) ?hd (cs := #[.slice A0_0 a7.length c0_0,.slice A0_1 a9.length c0_1,.slice A0_2 a3.length c0_2,.slice A0_3 a8.length c0_3,.bool b1]) (t := 120) ?hr ?_;(case hd => rfl);(case hg => rfl);(case hr => go_simp <;> rfl);intro a5 hg w14 hbox hb;have n0_ := As_ (bwT (zb0 HB.out) hb);have n1_ := As_ (hbox);have n2_ := As_ ((by rw [hg];exact (bwZ (zb0 HB.out)) : w.heap.size ≤ a5));have n3_ := As_ ((by rw [hg];exact (bwZ (zb0 HB.out)) : w.heap.size ≤ a5));clear HB;revert n0_ n1_ n2_ n3_;intro HB a2 e7 e1;clear hb hbox hg;have j6 : w14.cell? ⟨a5,0,none⟩ = some (.slice A0_0 a7.length c0_0) := (bkC a2.out 0).trans rfl;have j7 : w14.cell? ⟨a5,1,none⟩ = some (.slice A0_1 a9.length c0_1) := (bkC a2.out 1).trans rfl;have j8 : w14.cell? ⟨a5,2,none⟩ = some (.slice A0_2 a3.length c0_2) := (bkC a2.out 2).trans rfl;have j9 : w14.cell? ⟨a5,3,none⟩ = some (.slice A0_3 a8.length c0_3) := (bkC a2.out 3).trans rfl;have l4 : w14.cell? ⟨a5,4,none⟩ = some (.bool b1) := (bkC a2.out 4).trans rfl;have l5 := bkF a2.out 0;have l6 := bkF a2.out 1;have l7 := bkF a2.out 2;have l8 := bkF a2.out 3;have l9 := bkF a2.out 4;have p670 : 0 ≤ ((d3) : Int) := odT zA_;have q670 : (d3) < (a3.length : Int) := odT zA_;obtain ⟨ad670,e670,hx670_0⟩ := Kd.at_int HR0_2.out (d3) p670 q670;cases e670;replace hx670_0 := bwC HB.out hx670_0;replace p670 := eq_true p670;replace q670 := eq_true q670;have p671 : 0 ≤ ((d3) : Int) := odT zA_;have q671 : (d3) < (a3.length : Int) := odT zA_;obtain ⟨ad671,e671,hx671_0⟩ := Kd.at_int HR0_2.out (d3) p671 q671;obtain rfl : ad670 = ad671 := (by injection e671);replace hx671_0 := bwC HB.out hx671_0;replace p671 := eq_true p671;replace q671 := eq_true q671;have p672 : 0 ≤ ((rd a3 (d3)) : Int) := odT zA_;have q672 : (rd a3 (d3)) < (a7.length : Int) := odT zA_;obtain ⟨ad672,e672,hx672_0⟩ := Kd.at_int HR0_0.out (rd a3 (d3)) p672 q672;cases e672;replace hx672_0 := bwC HB.out hx672_0;replace p672 := eq_true p672;replace q672 := eq_true q672)))
 go_ret
 exact ⟨by first|rfl|(simp [errW_none,errW_some] <;> rfl)|(simp only [← m8];first|rfl|(simp [errW_none,errW_some] <;> rfl))|(simp [*,errW_none,errW_some] <;> rfl),zb1 HB.out e1.out⟩

/-! ### spec_keyKind: function 129 -/
def spec_keyKind.f (a0 : Int) : Option (Bool) := if a0 = 0 then (some true) else (some (a0 == 1))
set_option maxHeartbeats 8000000 in
set_option maxRecDepth 100000 in
theorem spec_keyKind.calls (a0 : Int) (r : Bool) (w : World) (h : spec_keyKind.f a0 = some r) :
    Calls Try.prog 129 #[.int .i64 a0] w fun e w' => e = .returned (.bool r) ∧ Drawn0 w w' := by
  have H : (if a0 = 0 then (some true) else (some (a0 == 1))) = some r := h
  clear h
  by_cases c2 : a0 = 0
  · rw [if_pos c2] at H
    have q4 : (a0 == 0) = true := beq_iff_eq.mpr c2
    have q5 : (a0 != 0) = false := bne_eq_false_iff_eq.mpr c2
    clear c2
    obtain rfl := Option.some.inj H
    go_enter Try.func129, Try.ntmps129
    go_wp2
    go_ret
    exact ⟨by first | rfl | (simp; done) | (simp [*]; done), by repeat (first | exact Drawn0.refl _ | apply Drawn0.step)⟩
  · rw [if_neg c2] at H
    have q4 : (a0 == 0) = false := beq_eq_false_iff_ne.mpr c2
    have q5 : (a0 != 0) = true := bne_iff_ne.mpr c2
    obtain rfl := Option.some.inj H
    go_enter Try.func129, Try.ntmps129
    go_wp2
    go_ret
    exact ⟨by first | rfl | (simp; done) | (simp [*]; done), by repeat (first | exact Drawn0.refl _ | apply Drawn0.step)⟩

end Go.Proofs.Ytbokjhdhpmmpfaa.Q
