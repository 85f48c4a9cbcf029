-- Written by wip/tools/qprint.py (a program of this claim's author) by means of the kit's printer.
import Derived.Test.YtbokjhdhpmmpfaaQ0
import Derived.Test.YtbokjhdhpmmpfaaQ56
import Derived.Test.YtbokjhdhpmmpfaaQ87
import Derived.Test.YtbokjhdhpmmpfaaQ111
namespace Go.Proofs.Ytbokjhdhpmmpfaa.Q
open Go.RowKit Go.Proofs.YtbokjhdhpmmpfaaW.PrintWords Go.Proofs.YtbokjhdhpmmpfaaW.PrintLast Go.Proofs.YtbokjhdhpmmpfaaW.PrintMore
attribute [local go_sem] max2_int min2_int max_two min_two max_three min_three max_four min_four   -- for this text's walks alone
set_option linter.unusedVariables false
set_option linter.unusedSimpArgs false

/-! ### spec_validMachine: function 79 -/
mutual
def spec_validMachine.j0 : Nat → Bool → List (S88) → List Int → List Int → Bool → Option (Bool)
 | 0,_,_,_,_,_ => none
 | k + 1,x41,x974000,x974001,x974002,x974003 => if x41 = true then (some false) else (spec_validMachine.l0 k 0 x974000 x974001 x974002 x974003)
def spec_validMachine.l0 : Nat → Int → List (S88) → List Int → List Int → Bool → Option (Bool)
 | 0,_,_,_,_,_ => none
 | k + 1,x3,x974000,x974001,x974002,x974003 => if x3 < (x974000.length : Int) then (if 0 ≤ x3 then ((spec_inRange.f ((rd_T88 x974000 x3).f0) 0 5).bind fun t979 => (if t979 = true then ((spec_inRange.f ((rd_T88 x974000 x3).f1) 0 999).bind fun t980 => (if t980 = true then ((spec_allIn.f k ((rd_T88 x974000 x3).f2) 0 (wrap64 ((x974000.length : Int) - 1))).bind fun t981 => (if t981 = true then (if ((rd_T88 x974000 x3).f0) = 5 then (spec_validMachine.j2 k x3 (decide ((((rd_T88 x974000 x3).f2).length : Int) > 1)) x974000 x974001 x974002 x974003 ((rd_T88 x974000 x3).f0) ((rd_T88 x974000 x3).f1) ((rd_T88 x974000 x3).f2)) else (spec_validMachine.j2 k x3 false x974000 x974001 x974002 x974003 ((rd_T88 x974000 x3).f0) ((rd_T88 x974000 x3).f1) ((rd_T88 x974000 x3).f2))) else (spec_validMachine.j2 k x3 true x974000 x974001 x974002 x974003 ((rd_T88 x974000 x3).f0) ((rd_T88 x974000 x3).f1) ((rd_T88 x974000 x3).f2)))) else (spec_validMachine.j2 k x3 true x974000 x974001 x974002 x974003 ((rd_T88 x974000 x3).f0) ((rd_T88 x974000 x3).f1) ((rd_T88 x974000 x3).f2)))) else (spec_validMachine.j2 k x3 true x974000 x974001 x974002 x974003 ((rd_T88 x974000 x3).f0) ((rd_T88 x974000 x3).f1) ((rd_T88 x974000 x3).f2)))) else (none)) else (if x974003 = true then (if (x974001.length : Int) = 1 then (if 0 < (x974001.length : Int) then (some (decide ((rd x974001 0) ≥ 0))) else (none)) else (some false)) else (some true))
def spec_validMachine.j2 : Nat → Int → Bool → List (S88) → List Int → List Int → Bool → Int → Int → List Int → Option (Bool)
 | 0,_,_,_,_,_,_,_,_,_ => none
 | k + 1,x3,x84,x974000,x974001,x974002,x974003,x979000,x979001,x979002 => if x84 = true then (some false) else (spec_validMachine.l1 k x3 0 x974000 x974001 x974002 x974003 x979000 x979001 x979002)
def spec_validMachine.l1 : Nat → Int → Int → List (S88) → List Int → List Int → Bool → Int → Int → List Int → Option (Bool)
 | 0,_,_,_,_,_,_,_,_,_ => none
 | k + 1,x3,x5,x974000,x974001,x974002,x974003,x979000,x979001,x979002 => if x5 < (x979002.length : Int) then (spec_validMachine.j4 k x3 x5 (x979000 == 4) x974000 x974001 x974002 x974003 x979000 x979001 x979002) else (spec_validMachine.j4 k x3 x5 false x974000 x974001 x974002 x974003 x979000 x979001 x979002)
def spec_validMachine.j4 : Nat → Int → Int → Bool → List (S88) → List Int → List Int → Bool → Int → Int → List Int → Option (Bool)
 | 0,_,_,_,_,_,_,_,_,_,_ => none
 | k + 1,x3,x5,x94,x974000,x974001,x974002,x974003,x979000,x979001,x979002 => if x94 = true then (if 0 ≤ x5 then (if x5 < (x979002.length : Int) then (if 0 ≤ (rd x979002 x5) then (if (rd x979002 x5) < (x974000.length : Int) then ((spec_isKey.f ((rd_T88 x974000 (rd x979002 x5)).f0) ((rd_T88 x974000 (rd x979002 x5)).f1) ((rd_T88 x974000 (rd x979002 x5)).f2)).bind fun t984 => (if t984 = true then (if ((x979002.length : Int) % 2) = 0 then (spec_validMachine.l1 k x3 (wrap64 (x5 + 2)) x974000 x974001 x974002 x974003 x979000 x979001 x979002) else (some false)) else (some false))) else (none)) else (none)) else (none)) else (none)) else (spec_validMachine.l0 k (wrap64 (x3 + 1)) x974000 x974001 x974002 x974003)
end
def spec_validMachine.f (k : Nat) (l0_0 : List (S88)) (l0_1 : List Int) (l0_2 : List Int) (a0_3 : Bool) : Option (Bool) := if (l0_0.length : Int) > 300 then (spec_validMachine.j0 k true l0_0 l0_1 l0_2 a0_3) else (if (l0_1.length : Int) > 300 then (spec_validMachine.j0 k true l0_0 l0_1 l0_2 a0_3) else ((spec_allIn.f k l0_1 (-1) (wrap64 ((l0_0.length : Int) - 1))).bind fun t974 => (if t974 = true then (if (l0_2.length : Int) = 20 then ((spec_allIn.f k l0_2 (-1) (wrap64 ((l0_0.length : Int) - 1))).bind fun t975 => (spec_validMachine.j0 k (!t975) l0_0 l0_1 l0_2 a0_3)) else (spec_validMachine.j0 k true l0_0 l0_1 l0_2 a0_3)) else (spec_validMachine.j0 k true l0_0 l0_1 l0_2 a0_3))))
set_option maxRecDepth 100000 in
theorem spec_validMachine.mono_l : ∀ k,(∀ y0 y1 y2 y3 y4,LeO (spec_validMachine.j0 k y0 y1 y2 y3 y4) (spec_validMachine.j0 (k + 1) y0 y1 y2 y3 y4)) ∧ (∀ y0 y1 y2 y3 y4,LeO (spec_validMachine.l0 k y0 y1 y2 y3 y4) (spec_validMachine.l0 (k + 1) y0 y1 y2 y3 y4)) ∧ (∀ y0 y1 y2 y3 y4 y5 y6 y7 y8,LeO (spec_validMachine.j2 k y0 y1 y2 y3 y4 y5 y6 y7 y8) (spec_validMachine.j2 (k + 1) y0 y1 y2 y3 y4 y5 y6 y7 y8)) ∧ (∀ y0 y1 y2 y3 y4 y5 y6 y7 y8,LeO (spec_validMachine.l1 k y0 y1 y2 y3 y4 y5 y6 y7 y8) (spec_validMachine.l1 (k + 1) y0 y1 y2 y3 y4 y5 y6 y7 y8)) ∧ (∀ y0 y1 y2 y3 y4 y5 y6 y7 y8 y9,LeO (spec_validMachine.j4 k y0 y1 y2 y3 y4 y5 y6 y7 y8 y9) (spec_validMachine.j4 (k + 1) y0 y1 y2 y3 y4 y5 y6 y7 y8 y9))
 | 0 => ⟨fun _ _ _ _ _ r h => (by cases h),fun _ _ _ _ _ r h => (by cases h),fun _ _ _ _ _ _ _ _ _ r h => (by cases h),fun _ _ _ _ _ _ _ _ _ r h => (by cases h),fun _ _ _ _ _ _ _ _ _ _ r h => (by cases h)⟩
 | k + 1 => by
  obtain ⟨ih0,ih1,ih2,ih3,ih4⟩ := spec_validMachine.mono_l k
  refine ⟨?_,?_,?_,?_,?_⟩
  ·intro y0 y1 y2 y3 y4
   unfold spec_validMachine.j0
   repeat' first
   | (with_reducible exact ih0 _ _ _ _ _)
   | (with_reducible exact ih1 _ _ _ _ _)
   | (with_reducible exact ih2 _ _ _ _ _ _ _ _ _)
   | (with_reducible exact ih3 _ _ _ _ _ _ _ _ _)
   | (with_reducible exact ih4 _ _ _ _ _ _ _ _ _ _)
   | (with_reducible exact spec_allIn.mono _ _ _ _)
   | (with_reducible exact LeO.refl _)
   | (with_reducible exact LeO.none _)
   | (with_reducible refine LeO.ite ?_ ?_)
   | (with_reducible refine LeO.bind ?_ (fun _ => ?_))
   | exact ih0 _ _ _ _ _
   | exact ih1 _ _ _ _ _
   | exact ih2 _ _ _ _ _ _ _ _ _
   | exact ih3 _ _ _ _ _ _ _ _ _
   | exact ih4 _ _ _ _ _ _ _ _ _ _
   | exact spec_allIn.mono _ _ _ _
   | exact LeO.none _
   | refine LeO.ite ?_ ?_
   | refine LeO.bind ?_ (fun _ => ?_)
  ·intro y0 y1 y2 y3 y4
   unfold spec_validMachine.l0
   repeat' first
   | (with_reducible exact ih0 _ _ _ _ _)
   | (with_reducible exact ih1 _ _ _ _ _)
   | (with_reducible exact ih2 _ _ _ _ _ _ _ _ _)
   | (with_reducible exact ih3 _ _ _ _ _ _ _ _ _)
   | (with_reducible exact ih4 _ _ _ _ _ _ _ _ _ _)
   | (with_reducible exact spec_allIn.mono _ _ _ _)
   | (with_reducible exact LeO.refl _)
   | (with_reducible exact LeO.none _)
   | (with_reducible refine LeO.ite ?_ ?_)
   | (with_reducible refine LeO.bind ?_ (fun _ => ?_))
   | exact ih0 _ _ _ _ _
   | exact ih1 _ _ _ _ _
   | exact ih2 _ _ _ _ _ _ _ _ _
   | exact ih3 _ _ _ _ _ _ _ _ _
   | exact ih4 _ _ _ _ _ _ _ _ _ _
   | exact spec_allIn.mono _ _ _ _
   | exact LeO.none _
   | refine LeO.ite ?_ ?_
   | refine LeO.bind ?_ (fun _ => ?_)
  ·intro y0 y1 y2 y3 y4 y5 y6 y7 y8
   unfold spec_validMachine.j2
   repeat' first
   | (with_reducible exact ih0 _ _ _ _ _)
   | (with_reducible exact ih1 _ _ _ _ _)
   | (with_reducible exact ih2 _ _ _ _ _ _ _ _ _)
   | (with_reducible exact ih3 _ _ _ _ _ _ _ _ _)
   | (with_reducible exact ih4 _ _ _ _ _ _ _ _ _ _)
   | (with_reducible exact spec_allIn.mono _ _ _ _)
   | (with_reducible exact LeO.refl _)
   | (with_reducible exact LeO.none _)
   | (with_reducible refine LeO.ite ?_ ?_)
   | (with_reducible refine LeO.bind ?_ (fun _ => ?_))
   | exact ih0 _ _ _ _ _
   | exact ih1 _ _ _ _ _
   | exact ih2 _ _ _ _ _ _ _ _ _
   | exact ih3 _ _ _ _ _ _ _ _ _
   | exact ih4 _ _ _ _ _ _ _ _ _ _
   | exact spec_allIn.mono _ _ _ _
   | exact LeO.none _
   | refine LeO.ite ?_ ?_
   | refine LeO.bind ?_ (fun _ => ?_)
  ·intro y0 y1 y2 y3 y4 y5 y6 y7 y8
   unfold spec_validMachine.l1
   repeat' first
   | (with_reducible exact ih0 _ _ _ _ _)
   | (with_reducible exact ih1 _ _ _ _ _)
   | (with_reducible exact ih2 _ _ _ _ _ _ _ _ _)
   | (with_reducible exact ih3 _ _ _ _ _ _ _ _ _)
   | (with_reducible exact ih4 _ _ _ _ _ _ _ _ _ _)
   | (with_reducible exact spec_allIn.mono _ _ _ _)
   | (with_reducible exact LeO.refl _)
   | (with_reducible exact LeO.none _)
   | (with_reducible refine LeO.ite ?_ ?_)
   | (with_reducible refine LeO.bind ?_ (fun _ => ?_))
   | exact ih0 _ _ _ _ _
   | exact ih1 _ _ _ _ _
   | exact ih2 _ _ _ _ _ _ _ _ _
   | exact ih3 _ _ _ _ _ _ _ _ _
   | exact ih4 _ _ _ _ _ _ _ _ _ _
   | exact spec_allIn.mono _ _ _ _
   | exact LeO.none _
   | refine LeO.ite ?_ ?_
   | refine LeO.bind ?_ (fun _ => ?_)
  ·intro y0 y1 y2 y3 y4 y5 y6 y7 y8 y9
   unfold spec_validMachine.j4
   repeat' first
   | (with_reducible exact ih0 _ _ _ _ _)
   | (with_reducible exact ih1 _ _ _ _ _)
   | (with_reducible exact ih2 _ _ _ _ _ _ _ _ _)
   | (with_reducible exact ih3 _ _ _ _ _ _ _ _ _)
   | (with_reducible exact ih4 _ _ _ _ _ _ _ _ _ _)
   | (with_reducible exact spec_allIn.mono _ _ _ _)
   | (with_reducible exact LeO.refl _)
   | (with_reducible exact LeO.none _)
   | (with_reducible refine LeO.ite ?_ ?_)
   | (with_reducible refine LeO.bind ?_ (fun _ => ?_))
   | exact ih0 _ _ _ _ _
   | exact ih1 _ _ _ _ _
   | exact ih2 _ _ _ _ _ _ _ _ _
   | exact ih3 _ _ _ _ _ _ _ _ _
   | exact ih4 _ _ _ _ _ _ _ _ _ _
   | exact spec_allIn.mono _ _ _ _
   | exact LeO.none _
   | refine LeO.ite ?_ ?_
   | refine LeO.bind ?_ (fun _ => ?_)
set_option maxRecDepth 100000 in
theorem spec_validMachine.mono : ∀ a0 a1 a2 a3 k,LeO (spec_validMachine.f k a0 a1 a2 a3) (spec_validMachine.f (k + 1) a0 a1 a2 a3) := by
 intro a0 a1 a2 a3 k
 obtain ⟨ih0,ih1,ih2,ih3,ih4⟩ := spec_validMachine.mono_l k
 unfold spec_validMachine.f
 repeat' first
   | (with_reducible exact ih0 _ _ _ _ _)
   | (with_reducible exact ih1 _ _ _ _ _)
   | (with_reducible exact ih2 _ _ _ _ _ _ _ _ _)
   | (with_reducible exact ih3 _ _ _ _ _ _ _ _ _)
   | (with_reducible exact ih4 _ _ _ _ _ _ _ _ _ _)
   | (with_reducible exact spec_allIn.mono _ _ _ _)
   | (with_reducible exact LeO.refl _)
   | (with_reducible exact LeO.none _)
   | (with_reducible refine LeO.ite ?_ ?_)
   | (with_reducible refine LeO.bind ?_ (fun _ => ?_))
   | exact ih0 _ _ _ _ _
   | exact ih1 _ _ _ _ _
   | exact ih2 _ _ _ _ _ _ _ _ _
   | exact ih3 _ _ _ _ _ _ _ _ _
   | exact ih4 _ _ _ _ _ _ _ _ _ _
   | exact spec_allIn.mono _ _ _ _
   | exact LeO.none _
   | refine LeO.ite ?_ ?_
   | refine LeO.bind ?_ (fun _ => ?_)
def spec_validMachine.T12 : Bool × List (List Nat × List Nat) := (true,[([],[]),([0],[0]),([],[]),([2],[2]),([],[]),([3,4],[3,4]),([5],[5]),([1,6],[1,6]),([7],[7]),([8],[8]),([9],[9]),([10,9],[10]),([11],[11]),([12,11],[11,12]),([13,11],[11,13]),([14,11],[11,14]),([15,11],[11,15]),([11,16],[11,16])])
def spec_validMachine.B12 : List Nat := [0,1,0,4,0,28,60,127,255,511,1023,2047,4095,8191,16383,32767,65535,131071]
theorem spec_validMachine.tab12 : rtab .any (opsOf Try.f79 12) = spec_validMachine.T12 := by kernel_rfl
theorem spec_validMachine.bits12 : waitsOk spec_validMachine.T12.2 spec_validMachine.B12 = true := by kernel_rfl
set_option maxHeartbeats 8000000 in
set_option maxRecDepth 100000 in
theorem spec_validMachine.calls (k : Nat) (A0_0 : Option Addr) (c0_0 : Nat) (l0_0 : List (S88)) (A0_1 : Option Addr) (c0_1 : Nat) (l0_1 : List Int) (A0_2 : Option Addr) (c0_2 : Nat) (l0_2 : List Int) (a0_3 : Bool) (r : Bool) (w : World) (hr0_0 : Kd.C k88 w A0_0 l0_0.length l0_0) (hc0_0 : l0_0.length ≤ c0_0) (hr0_1 : Kd.C (Kd.int .i64) w A0_1 l0_1.length l0_1) (hc0_1 : l0_1.length ≤ c0_1) (hr0_2 : Kd.C (Kd.int .i64) w A0_2 l0_2.length l0_2) (hc0_2 : l0_2.length ≤ c0_2) (h : spec_validMachine.f k l0_0 l0_1 l0_2 a0_3 = some r) :
  Calls Try.prog 79 #[.agg #[.slice A0_0 l0_0.length c0_0,.slice A0_1 l0_1.length c0_1,.slice A0_2 l0_2.length c0_2,.bool a0_3]] w fun e w' => e = .returned (.bool r) ∧ Below w.heap.size w w' := by
 have hu56 := Try.underlying56
 have hu88 := Try.underlying88
 have HR0_0 := Aside0.mk hr0_0
 have HC0_0 := Aside0.mk hc0_0
 clear hr0_0 hc0_0
 have HR0_1 := Aside0.mk hr0_1
 have HC0_1 := Aside0.mk hc0_1
 clear hr0_1 hc0_1
 have HR0_2 := Aside0.mk hr0_2
 have HC0_2 := Aside0.mk hc0_2
 clear hr0_2 hc0_2
 have HB := Aside0.mk (Below.refl w.heap.size w)
 have H : (if (l0_0.length : Int) > 300 then (spec_validMachine.j0 k true l0_0 l0_1 l0_2 a0_3) else (if (l0_1.length : Int) > 300 then (spec_validMachine.j0 k true l0_0 l0_1 l0_2 a0_3) else ((spec_allIn.f k l0_1 (-1) (wrap64 ((l0_0.length : Int) - 1))).bind fun t974 => (if t974 = true then (if (l0_2.length : Int) = 20 then ((spec_allIn.f k l0_2 (-1) (wrap64 ((l0_0.length : Int) - 1))).bind fun t975 => (spec_validMachine.j0 k (!t975) l0_0 l0_1 l0_2 a0_3)) else (spec_validMachine.j0 k true l0_0 l0_1 l0_2 a0_3)) else (spec_validMachine.j0 k true l0_0 l0_1 l0_2 a0_3))))) = some r := h
 clear h
 have HC2 := Aside0.mk H
 clear H
 go_enter Try.func79,Try.ntmps79
 go_upto_region 1 with (first|((with_reducible refine gate_dst (N := 1) rfl ?_);(try (refine gate_guard (by rfl) ?_;dsimp only));refine box_event ?hg (N := 1) ?hd (cs := #[.slice A0_0 l0_0.length c0_0,.slice A0_1 l0_1.length c0_1,.slice A0_2 l0_2.length c0_2,.bool a0_3]) (t := 56) ?hr ?_;(case hd => rfl);(case hg => rfl);(case hr => first|(go_simp;done)|(go_simp;rfl));intro gb973 hg w3 hbox hb;have n0_ := Aside0.mk (below_step (by repeat (first|(with_reducible first|exact HB.out|apply below_alloc|apply pw_below_drewN|apply below_drew1)|exact HB.out)) hb);have n1_ := Aside0.mk (hbox);have n2_ := Aside0.mk ((by rw [hg];exact (below_size (by repeat (first|(with_reducible first|exact HB.out|apply below_alloc|apply pw_below_drewN|apply below_drew1)|exact HB.out))) : w.heap.size ≤ gb973));have n3_ := Aside0.mk ((by rw [hg];exact (below_size (by repeat (first|(with_reducible first|exact HB.out|apply below_alloc|apply pw_below_drewN|apply below_drew1)|exact HB.out))) : w.heap.size ≤ gb973));clear HB;have HB := n0_;have BK973 := n1_;have GW973 := n2_;have GE973 := n3_;clear n0_ n1_ n2_ n3_;clear hb hbox hg))
 (try simp only [Act.put,List.setIfInBounds_toArray,List.set_cons_zero,List.set_cons_succ])
 go_cut [41] (fun v41 wc => ∃ (kq : Nat) (x41_1 : Bool),v41 = .bool x41_1 ∧ Aside0 (spec_validMachine.j0 kq x41_1 l0_0 l0_1 l0_2 a0_3 = some r) ∧ Aside0 (kq ≤ k) ∧ Aside0 (wc.heap[gb973]? = some (.cells #[(.slice A0_0 l0_0.length c0_0),(.slice A0_1 l0_1.length c0_1),(.slice A0_2 l0_2.length c0_2),.bool a0_3] 56 (0,0))) ∧ Aside0 (Below w.heap.size w wc))
 case first =>
  have H := HC2.out
  clear HC2
  by_cases c4 : (l0_0.length : Int) > 300
  ·rw [if_pos c4] at H
   have c4b0 : decide (300 < (l0_0.length : Int)) = true := decide_eq_true c4
   have c4b1 : decide (300 < l0_0.length) = true := decide_eq_true (by omega)
   clear c4
   (first|rw [c4b0]|(simp only [i64_w,i32_w];rw [c4b0])|skip)
   have H' := Aside0.mk H
   clear H
   have hcz5_0 : w3.cell? ⟨gb973,0,none⟩ = some (.slice A0_0 l0_0.length c0_0) := (blk_cell BK973.out 0).trans rfl
   have hcz5_1 : w3.cell? ⟨gb973,1,none⟩ = some (.slice A0_1 l0_1.length c0_1) := (blk_cell BK973.out 1).trans rfl
   have hcz5_2 : w3.cell? ⟨gb973,2,none⟩ = some (.slice A0_2 l0_2.length c0_2) := (blk_cell BK973.out 2).trans rfl
   have hcz5_3 : w3.cell? ⟨gb973,3,none⟩ = some (.bool a0_3) := (blk_cell BK973.out 3).trans rfl
   have hfz5_0 := blk_frozen BK973.out 0
   have hfz5_1 := blk_frozen BK973.out 1
   have hfz5_2 := blk_frozen BK973.out 2
   have hfz5_3 := blk_frozen BK973.out 3
   go_wp2
   go_meet
   case rel => exact ⟨_,(true),(by first|rfl|(simp;done)|(simp [*];done)),H',⟨by first|omega|exact Nat.le_refl _⟩,⟨by (with_reducible repeat (first|refine blk_drewN ?_ _|refine blk_drew ?_|refine blk_alloc ?_ _));exact BK973.out⟩,⟨by repeat (first|(with_reducible first|exact HB.out|apply below_alloc|apply pw_below_drewN|apply below_drew1|refine below_set ?_ GE973.out)|exact HB.out)⟩⟩
  ·rw [if_neg c4] at H
   have c4b0 : decide (300 < (l0_0.length : Int)) = false := decide_eq_false c4
   have c4b1 : decide (300 < l0_0.length) = false := decide_eq_false (by omega)
   clear c4
   (first|rw [c4b0]|(simp only [i64_w,i32_w];rw [c4b0])|skip)
   by_cases c6 : (l0_1.length : Int) > 300
   ·rw [if_pos c6] at H
    have c6b0 : decide (300 < (l0_1.length : Int)) = true := decide_eq_true c6
    have c6b1 : decide (300 < l0_1.length) = true := decide_eq_true (by omega)
    clear c6
    have H' := Aside0.mk H
    clear H
    have hcz7_0 : w3.cell? ⟨gb973,0,none⟩ = some (.slice A0_0 l0_0.length c0_0) := (blk_cell BK973.out 0).trans rfl
    have hcz7_1 : w3.cell? ⟨gb973,1,none⟩ = some (.slice A0_1 l0_1.length c0_1) := (blk_cell BK973.out 1).trans rfl
    have hcz7_2 : w3.cell? ⟨gb973,2,none⟩ = some (.slice A0_2 l0_2.length c0_2) := (blk_cell BK973.out 2).trans rfl
    have hcz7_3 : w3.cell? ⟨gb973,3,none⟩ = some (.bool a0_3) := (blk_cell BK973.out 3).trans rfl
    have hfz7_0 := blk_frozen BK973.out 0
    have hfz7_1 := blk_frozen BK973.out 1
    have hfz7_2 := blk_frozen BK973.out 2
    have hfz7_3 := blk_frozen BK973.out 3
    go_wp2
    go_meet
    case rel => exact ⟨_,(true),(by first|rfl|(simp;done)|(simp [*];done)),H',⟨by first|omega|exact Nat.le_refl _⟩,⟨by (with_reducible repeat (first|refine blk_drewN ?_ _|refine blk_drew ?_|refine blk_alloc ?_ _));exact BK973.out⟩,⟨by repeat (first|(with_reducible first|exact HB.out|apply below_alloc|apply pw_below_drewN|apply below_drew1|refine below_set ?_ GE973.out)|exact HB.out)⟩⟩
   ·rw [if_neg c6] at H
    have c6b0 : decide (300 < (l0_1.length : Int)) = false := decide_eq_false c6
    have c6b1 : decide (300 < l0_1.length) = false := decide_eq_false (by omega)
    clear c6
    replace H := Option.bind_eq_some_iff.mp H
    obtain ⟨t974,A80,H⟩ := H
    replace H : (if t974 = true then (if (l0_2.length : Int) = 20 then ((spec_allIn.f k l0_2 (-1) (wrap64 ((l0_0.length : Int) - 1))).bind fun t975 => (spec_validMachine.j0 k (!t975) l0_0 l0_1 l0_2 a0_3)) else (spec_validMachine.j0 k true l0_0 l0_1 l0_2 a0_3)) else (spec_validMachine.j0 k true l0_0 l0_1 l0_2 a0_3)) = some r := H
    have A8 := Aside0.mk A80
    clear A80
    by_cases c9 : t974 = true
    ·subst c9
     have H1 : (if (l0_2.length : Int) = 20 then ((spec_allIn.f k l0_2 (-1) (wrap64 ((l0_0.length : Int) - 1))).bind fun t975 => (spec_validMachine.j0 k (!t975) l0_0 l0_1 l0_2 a0_3)) else (spec_validMachine.j0 k true l0_0 l0_1 l0_2 a0_3)) = some r := by rw [if_pos rfl] at H;exact H
     clear H
     have H := H1
     clear H1
     by_cases c10 : (l0_2.length : Int) = 20
     ·rw [if_pos c10] at H
      have c10b0 : ((l0_2.length : Int) == 20) = true := beq_iff_eq.mpr c10
      have c10b1 : ((l0_2.length : Int) != 20) = false := bne_eq_false_iff_eq.mpr c10
      clear c10
      replace H := Option.bind_eq_some_iff.mp H
      obtain ⟨t975,A110,H⟩ := H
      replace H : (spec_validMachine.j0 k (!t975) l0_0 l0_1 l0_2 a0_3) = some r := H
      have A11 := Aside0.mk A110
      clear A110
      have H' := Aside0.mk H
      clear H
      have hcz12_0 : w3.cell? ⟨gb973,0,none⟩ = some (.slice A0_0 l0_0.length c0_0) := (blk_cell BK973.out 0).trans rfl
      have hcz12_1 : w3.cell? ⟨gb973,1,none⟩ = some (.slice A0_1 l0_1.length c0_1) := (blk_cell BK973.out 1).trans rfl
      have hcz12_2 : w3.cell? ⟨gb973,2,none⟩ = some (.slice A0_2 l0_2.length c0_2) := (blk_cell BK973.out 2).trans rfl
      have hcz12_3 : w3.cell? ⟨gb973,3,none⟩ = some (.bool a0_3) := (blk_cell BK973.out 3).trans rfl
      have hfz12_0 := blk_frozen BK973.out 0
      have hfz12_1 := blk_frozen BK973.out 1
      have hfz12_2 := blk_frozen BK973.out 2
      have hfz12_3 := blk_frozen BK973.out 3
      go_wp2_with (first|(go_at_call 87;(with_reducible refine (spec_allIn.calls k _ _ l0_1 (-1) (wrap64 ((l0_0.length : Int) - 1)) true _ ?side1 ?side2 A8.out).mono ?_);(case side1 => repeat (first|exact (Kd.C_below HR0_1.out HB.out)|(with_reducible refine Kd.C_alloc ?_ _)|(with_reducible refine Kd.C_drewN ?_ _)|(with_reducible refine Kd.C_drew ?_)));(case side2 => exact HC0_1.out);rintro e w' ⟨rfl,⟨nd,rfl⟩⟩)|(go_at_call 87;(with_reducible refine (spec_allIn.calls k _ _ l0_2 (-1) (wrap64 ((l0_0.length : Int) - 1)) t975 _ ?side1 ?side2 A11.out).mono ?_);(case side1 => repeat (first|exact (Kd.C_below HR0_2.out (by repeat (first|(with_reducible first|exact HB.out|apply below_alloc|apply pw_below_drewN|apply below_drew1|refine below_set ?_ GE973.out)|exact HB.out)))|(with_reducible refine Kd.C_alloc ?_ _)|(with_reducible refine Kd.C_drewN ?_ _)|(with_reducible refine Kd.C_drew ?_)));(case side2 => exact HC0_2.out);rintro e w' ⟨rfl,⟨nd,rfl⟩⟩))
      go_meet
      case rel => exact ⟨_,(!t975),(by first|rfl|(simp;done)|(simp [*];done)),H',⟨by first|omega|exact Nat.le_refl _⟩,⟨by (with_reducible repeat (first|refine blk_drewN ?_ _|refine blk_drew ?_|refine blk_alloc ?_ _));exact BK973.out⟩,⟨by repeat (first|(with_reducible first|exact HB.out|apply below_alloc|apply pw_below_drewN|apply below_drew1|refine below_set ?_ GE973.out)|exact HB.out)⟩⟩
     ·rw [if_neg c10] at H
      have c10b0 : ((l0_2.length : Int) == 20) = false := beq_eq_false_iff_ne.mpr c10
      have c10b1 : ((l0_2.length : Int) != 20) = true := bne_iff_ne.mpr c10
      have H' := Aside0.mk H
      clear H
      have hcz13_0 : w3.cell? ⟨gb973,0,none⟩ = some (.slice A0_0 l0_0.length c0_0) := (blk_cell BK973.out 0).trans rfl
      have hcz13_1 : w3.cell? ⟨gb973,1,none⟩ = some (.slice A0_1 l0_1.length c0_1) := (blk_cell BK973.out 1).trans rfl
      have hcz13_2 : w3.cell? ⟨gb973,2,none⟩ = some (.slice A0_2 l0_2.length c0_2) := (blk_cell BK973.out 2).trans rfl
      have hcz13_3 : w3.cell? ⟨gb973,3,none⟩ = some (.bool a0_3) := (blk_cell BK973.out 3).trans rfl
      have hfz13_0 := blk_frozen BK973.out 0
      have hfz13_1 := blk_frozen BK973.out 1
      have hfz13_2 := blk_frozen BK973.out 2
      have hfz13_3 := blk_frozen BK973.out 3
      go_wp2_with (first|(go_at_call 87;(with_reducible refine (spec_allIn.calls k _ _ l0_1 (-1) (wrap64 ((l0_0.length : Int) - 1)) true _ ?side1 ?side2 A8.out).mono ?_);(case side1 => repeat (first|exact (Kd.C_below HR0_1.out HB.out)|(with_reducible refine Kd.C_alloc ?_ _)|(with_reducible refine Kd.C_drewN ?_ _)|(with_reducible refine Kd.C_drew ?_)));(case side2 => exact HC0_1.out);rintro e w' ⟨rfl,⟨nd,rfl⟩⟩))
      go_meet
      case rel => exact ⟨_,(true),(by first|rfl|(simp;done)|(simp [*];done)),H',⟨by first|omega|exact Nat.le_refl _⟩,⟨by (with_reducible repeat (first|refine blk_drewN ?_ _|refine blk_drew ?_|refine blk_alloc ?_ _));exact BK973.out⟩,⟨by repeat (first|(with_reducible first|exact HB.out|apply below_alloc|apply pw_below_drewN|apply below_drew1|refine below_set ?_ GE973.out)|exact HB.out)⟩⟩
    ·replace c9 := Bool.eq_false_iff.mpr c9
     subst c9
     have H1 : (spec_validMachine.j0 k true l0_0 l0_1 l0_2 a0_3) = some r := by rw [if_neg (show ¬ (false = true) by decide)] at H;exact H
     clear H
     have H := H1
     clear H1
     have H' := Aside0.mk H
     clear H
     have hcz14_0 : w3.cell? ⟨gb973,0,none⟩ = some (.slice A0_0 l0_0.length c0_0) := (blk_cell BK973.out 0).trans rfl
     have hcz14_1 : w3.cell? ⟨gb973,1,none⟩ = some (.slice A0_1 l0_1.length c0_1) := (blk_cell BK973.out 1).trans rfl
     have hcz14_2 : w3.cell? ⟨gb973,2,none⟩ = some (.slice A0_2 l0_2.length c0_2) := (blk_cell BK973.out 2).trans rfl
     have hcz14_3 : w3.cell? ⟨gb973,3,none⟩ = some (.bool a0_3) := (blk_cell BK973.out 3).trans rfl
     have hfz14_0 := blk_frozen BK973.out 0
     have hfz14_1 := blk_frozen BK973.out 1
     have hfz14_2 := blk_frozen BK973.out 2
     have hfz14_3 := blk_frozen BK973.out 3
     go_wp2_with (first|(go_at_call 87;(with_reducible refine (spec_allIn.calls k _ _ l0_1 (-1) (wrap64 ((l0_0.length : Int) - 1)) false _ ?side1 ?side2 A8.out).mono ?_);(case side1 => repeat (first|exact (Kd.C_below HR0_1.out HB.out)|(with_reducible refine Kd.C_alloc ?_ _)|(with_reducible refine Kd.C_drewN ?_ _)|(with_reducible refine Kd.C_drew ?_)));(case side2 => exact HC0_1.out);rintro e w' ⟨rfl,⟨nd,rfl⟩⟩))
     go_meet
     case rel => exact ⟨_,(true),(by first|rfl|(simp;done)|(simp [*];done)),H',⟨by first|omega|exact Nat.le_refl _⟩,⟨by (with_reducible repeat (first|refine blk_drewN ?_ _|refine blk_drew ?_|refine blk_alloc ?_ _));exact BK973.out⟩,⟨by repeat (first|(with_reducible first|exact HB.out|apply below_alloc|apply pw_below_drewN|apply below_drew1|refine below_set ?_ GE973.out)|exact HB.out)⟩⟩
 case rest =>
  clear HC2
  try clear c1
  try clear p2
  try clear c4
  try clear c4b0
  try clear c4b1
  try clear c6
  try clear c6b0
  try clear c6b1
  try clear p6
  try clear c7
  try clear c9
  try clear c10
  try clear c10b0
  try clear c10b1
  try clear hcz12_0
  try clear hcz12_1
  try clear hcz12_2
  try clear hcz12_3
  try clear hcz13_0
  try clear hcz13_1
  try clear hcz13_2
  try clear hcz13_3
  try clear hcz14_0
  try clear hcz14_1
  try clear hcz14_2
  try clear hcz14_3
  try clear hcz5_0
  try clear hcz5_1
  try clear hcz5_2
  try clear hcz5_3
  try clear hcz7_0
  try clear hcz7_1
  try clear hcz7_2
  try clear hcz7_3
  try clear hfz12_0
  try clear hfz12_1
  try clear hfz12_2
  try clear hfz12_3
  try clear hfz13_0
  try clear hfz13_1
  try clear hfz13_2
  try clear hfz13_3
  try clear hfz14_0
  try clear hfz14_1
  try clear hfz14_2
  try clear hfz14_3
  try clear hfz5_0
  try clear hfz5_1
  try clear hfz5_2
  try clear hfz5_3
  try clear hfz7_0
  try clear hfz7_1
  try clear hfz7_2
  try clear hfz7_3
  obtain ⟨kq,x41_1,rfl,HA,HJ1,BK973,HB⟩ := hcut
  cases kq with
  | zero => exact absurd HA.out (fun h_ => (by cases h_))
  | succ kj1 =>
   have H := HA.out
   clear HA
   simp only [spec_validMachine.j0] at H
   by_cases c15 : x41_1 = true
   ·subst c15
    have H1 : (some false) = some r := by rw [if_pos rfl] at H;exact H
    clear H
    have H := H1
    clear H1
    obtain rfl := Option.some.inj H
    go_wp2
    go_ret
    exact ⟨by first|rfl|(simp [errW_none,errW_some] <;> rfl)|(simp [*,errW_none,errW_some] <;> rfl),by repeat (first|(with_reducible first|exact HB.out|apply below_alloc|apply pw_below_drewN|apply below_drew1|refine below_set ?_ GE973.out)|exact HB.out)⟩
   ·replace c15 := Bool.eq_false_iff.mpr c15
    subst c15
    have H1 : (spec_validMachine.l0 kj1 0 l0_0 l0_1 l0_2 a0_3) = some r := by rw [if_neg (show ¬ (false = true) by decide)] at H;exact H
    clear H
    have H := H1
    clear H1
    have H' := Aside0.mk H
    clear H
    go_wp2
    go_loopg [3] kj1 (fun kq v3 w' => ∃ (x3_2 : Int),v3 = .int .i64 x3_2 ∧ Aside0 (spec_validMachine.l0 kq x3_2 l0_0 l0_1 l0_2 a0_3 = some r) ∧ Aside0 (kq ≤ kj1) ∧ Aside0 (w'.heap[gb973]? = some (.cells #[(.slice A0_0 l0_0.length c0_0),(.slice A0_1 l0_1.length c0_1),(.slice A0_2 l0_2.length c0_2),.bool a0_3] 56 (0,0))) ∧ Aside0 (Below w.heap.size w w'))
    case atStart => exact ⟨(0),(by first|rfl|(simp;done)|(simp [*];done)),H',⟨Nat.le_refl _⟩,⟨by (with_reducible repeat (first|refine blk_drewN ?_ _|refine blk_drew ?_|refine blk_alloc ?_ _));exact BK973.out⟩,⟨by repeat (first|(with_reducible first|exact HB.out|apply below_alloc|apply pw_below_drewN|apply below_drew1|refine below_set ?_ GE973.out)|exact HB.out)⟩⟩
    case round =>
     clear H'
     try clear c1
     try clear p2
     try clear c4
     try clear c4b0
     try clear c4b1
     try clear c6
     try clear c6b0
     try clear c6b1
     try clear p6
     try clear c7
     try clear c9
     try clear c10
     try clear c10b0
     try clear c10b1
     try clear c15
     try clear hcz12_0
     try clear hcz12_1
     try clear hcz12_2
     try clear hcz12_3
     try clear hcz13_0
     try clear hcz13_1
     try clear hcz13_2
     try clear hcz13_3
     try clear hcz14_0
     try clear hcz14_1
     try clear hcz14_2
     try clear hcz14_3
     try clear hcz5_0
     try clear hcz5_1
     try clear hcz5_2
     try clear hcz5_3
     try clear hcz7_0
     try clear hcz7_1
     try clear hcz7_2
     try clear hcz7_3
     try clear hfz12_0
     try clear hfz12_1
     try clear hfz12_2
     try clear hfz12_3
     try clear hfz13_0
     try clear hfz13_1
     try clear hfz13_2
     try clear hfz13_3
     try clear hfz14_0
     try clear hfz14_1
     try clear hfz14_2
     try clear hfz14_3
     try clear hfz5_0
     try clear hfz5_1
     try clear hfz5_2
     try clear hfz5_3
     try clear hfz7_0
     try clear hfz7_1
     try clear hfz7_2
     try clear hfz7_3
     try clear p2
     try clear p6
     obtain ⟨x3_2,rfl,HA,HK2,BK973,HB⟩ := hrel
     cases gk with
     | zero => exact absurd HA.out (fun h_ => (by cases h_))
     | succ k2 =>
      have H := HA.out
      clear HA
      simp only [spec_validMachine.l0] at H
      by_cases c16 : x3_2 < (l0_0.length : Int)
      ·rw [if_pos c16] at H
       have c16b0 : decide (x3_2 < (l0_0.length : Int)) = true := decide_eq_true c16
       clear c16
       by_cases c17 : 0 ≤ x3_2
       ·rw [if_pos c17] at H
        have c17b0 : decide (0 ≤ x3_2) = true := decide_eq_true c17
        clear c17
        have HC18 := Aside0.mk H
        clear H
        have hcz19_0 : wr.cell? ⟨gb973,0,none⟩ = some (.slice A0_0 l0_0.length c0_0) := (blk_cell BK973.out 0).trans rfl
        have hcz19_1 : wr.cell? ⟨gb973,1,none⟩ = some (.slice A0_1 l0_1.length c0_1) := (blk_cell BK973.out 1).trans rfl
        have hcz19_2 : wr.cell? ⟨gb973,2,none⟩ = some (.slice A0_2 l0_2.length c0_2) := (blk_cell BK973.out 2).trans rfl
        have hcz19_3 : wr.cell? ⟨gb973,3,none⟩ = some (.bool a0_3) := (blk_cell BK973.out 3).trans rfl
        have hfz19_0 := blk_frozen BK973.out 0
        have hfz19_1 := blk_frozen BK973.out 1
        have hfz19_2 := blk_frozen BK973.out 2
        have hfz19_3 := blk_frozen BK973.out 3
        have p977 : 0 ≤ (x3_2 : Int) := of_decide_eq_true (by first|(with_reducible assumption)|assumption)
        have q977 : x3_2 < (l0_0.length : Int) := of_decide_eq_true (by first|(with_reducible assumption)|assumption)
        obtain ⟨ad977,A977_2,c977_2,e977,hx977_0,hx977_1,hx977_2,hl977_2,hi977_2⟩ := at_T88 HR0_0.out x3_2 p977 q977
        cases e977
        replace hx977_0 := (HB.out.cell (World.block_lt_of_cell? w _ hx977_0)).trans hx977_0
        replace hx977_1 := (HB.out.cell (World.block_lt_of_cell? w _ hx977_1)).trans hx977_1
        replace hx977_2 := (HB.out.cell (World.block_lt_of_cell? w _ hx977_2)).trans hx977_2
        have HR977_2 := Aside0.mk hi977_2
        have HC977_2 := Aside0.mk hl977_2
        clear hi977_2 hl977_2
        replace p977 := eq_true p977
        replace q977 := eq_true q977
        go_upto_region 7 with (first|((with_reducible refine gate_dst (N := 4) rfl ?_);(try (refine gate_guard (by rfl) ?_;dsimp only));refine box_event ?hg (N := 4) ?hd (cs := #[.int .i64 0,.int .i64 0,.slice none 0 0]) (t := 88) ?hr ?_;(case hd => rfl);(case hg => rfl);(case hr => first|(go_simp;done)|(go_simp;rfl));intro gb978 hg w20 hbox hb;have n0_ := Aside0.mk (blk_below (g := gb973) (o := .cells #[.slice (some ad977) l0_0.length c0_0,.slice A0_1 l0_1.length c0_1,.slice A0_2 l0_2.length c0_2,.bool a0_3] 56 (0,0)) (by (with_reducible repeat (first|refine blk_drewN ?_ _|refine blk_drew ?_|refine blk_alloc ?_ _));exact BK973.out) hb);have n1_ := Aside0.mk (below_step (by repeat (first|(with_reducible first|exact HB.out|apply below_alloc|apply pw_below_drewN|apply below_drew1|refine below_set ?_ GE973.out)|exact HB.out)) hb);have n2_ := Aside0.mk (hbox);have n3_ := Aside0.mk ((by rw [hg];exact (below_size (by repeat (first|(with_reducible first|exact HB.out|apply below_alloc|apply pw_below_drewN|apply below_drew1|refine below_set ?_ GE973.out)|exact HB.out))) : w.heap.size ≤ gb978));have n4_ := Aside0.mk ((by rw [hg];exact (below_size (by repeat (first|(with_reducible first|exact HB.out|apply below_alloc|apply pw_below_drewN|apply below_drew1|refine below_set ?_ GE973.out)|exact HB.out))) : w.heap.size ≤ gb978));have n5_ := Aside0.mk ((by rw [hg];exact Nat.ne_of_lt (blk_lt (g := gb973) (o := .cells #[.slice (some ad977) l0_0.length c0_0,.slice A0_1 l0_1.length c0_1,.slice A0_2 l0_2.length c0_2,.bool a0_3] 56 (0,0)) (by (with_reducible repeat (first|refine blk_drewN ?_ _|refine blk_drew ?_|refine blk_alloc ?_ _));exact BK973.out)) : gb973 ≠ gb978));have n6_ := Aside0.mk ((by rw [hg];exact Nat.ne_of_gt (blk_lt (g := gb973) (o := .cells #[.slice (some ad977) l0_0.length c0_0,.slice A0_1 l0_1.length c0_1,.slice A0_2 l0_2.length c0_2,.bool a0_3] 56 (0,0)) (by (with_reducible repeat (first|refine blk_drewN ?_ _|refine blk_drew ?_|refine blk_alloc ?_ _));exact BK973.out)) : gb978 ≠ gb973));clear BK973;clear HB;have BK973 := n0_;have HB := n1_;have BK978 := n2_;have GW978 := n3_;have GE978 := n4_;have NB973_978 := n5_;have NB978_973 := n6_;clear n0_ n1_ n2_ n3_ n4_ n5_ n6_;clear hb hbox hg;have hnb21 := NB978_973.out;have hnc21 := NB973_978.out;have hcz22_0 : w20.cell? ⟨gb978,0,none⟩ = some (.int .i64 0) := (blk_cell BK978.out 0).trans rfl;have hcz22_1 : w20.cell? ⟨gb978,1,none⟩ = some (.int .i64 0) := (blk_cell BK978.out 1).trans rfl;have hcz22_2 : w20.cell? ⟨gb978,2,none⟩ = some (.slice none 0 0) := (blk_cell BK978.out 2).trans rfl;have hfz22_0 := blk_frozen BK978.out 0;have hfz22_1 := blk_frozen BK978.out 1;have hfz22_2 := blk_frozen BK978.out 2))
        (try simp only [Act.put,List.setIfInBounds_toArray,List.set_cons_zero,List.set_cons_succ])
        go_cut [84] (fun v84 wc => ∃ (kq : Nat) (x84_17 : Bool),v84 = .bool x84_17 ∧ Aside0 (spec_validMachine.j2 kq x3_2 x84_17 l0_0 l0_1 l0_2 a0_3 ((rd_T88 l0_0 x3_2).f0) ((rd_T88 l0_0 x3_2).f1) ((rd_T88 l0_0 x3_2).f2) = some r) ∧ Aside0 (kq ≤ k2) ∧ Aside0 (wc.heap[gb973]? = some (.cells #[(.slice (some ad977) l0_0.length c0_0),(.slice A0_1 l0_1.length c0_1),(.slice A0_2 l0_2.length c0_2),.bool a0_3] 56 (0,0))) ∧ Aside0 (wc.heap[gb978]? = some (.cells #[.int .i64 ((rd_T88 l0_0 x3_2).f0),.int .i64 ((rd_T88 l0_0 x3_2).f1),(.slice A977_2 ((rd_T88 l0_0 x3_2).f2).length c977_2)] 88 (0,0))) ∧ Aside0 (Below w.heap.size w wc))
        case first =>
         have H := HC18.out
         clear HC18
         replace H := Option.bind_eq_some_iff.mp H
         obtain ⟨t979,A230,H⟩ := H
         replace H : (if t979 = true then ((spec_inRange.f ((rd_T88 l0_0 x3_2).f1) 0 999).bind fun t980 => (if t980 = true then ((spec_allIn.f k2 ((rd_T88 l0_0 x3_2).f2) 0 (wrap64 ((l0_0.length : Int) - 1))).bind fun t981 => (if t981 = true then (if ((rd_T88 l0_0 x3_2).f0) = 5 then (spec_validMachine.j2 k2 x3_2 (decide ((((rd_T88 l0_0 x3_2).f2).length : Int) > 1)) l0_0 l0_1 l0_2 a0_3 ((rd_T88 l0_0 x3_2).f0) ((rd_T88 l0_0 x3_2).f1) ((rd_T88 l0_0 x3_2).f2)) else (spec_validMachine.j2 k2 x3_2 false l0_0 l0_1 l0_2 a0_3 ((rd_T88 l0_0 x3_2).f0) ((rd_T88 l0_0 x3_2).f1) ((rd_T88 l0_0 x3_2).f2))) else (spec_validMachine.j2 k2 x3_2 true l0_0 l0_1 l0_2 a0_3 ((rd_T88 l0_0 x3_2).f0) ((rd_T88 l0_0 x3_2).f1) ((rd_T88 l0_0 x3_2).f2)))) else (spec_validMachine.j2 k2 x3_2 true l0_0 l0_1 l0_2 a0_3 ((rd_T88 l0_0 x3_2).f0) ((rd_T88 l0_0 x3_2).f1) ((rd_T88 l0_0 x3_2).f2)))) else (spec_validMachine.j2 k2 x3_2 true l0_0 l0_1 l0_2 a0_3 ((rd_T88 l0_0 x3_2).f0) ((rd_T88 l0_0 x3_2).f1) ((rd_T88 l0_0 x3_2).f2))) = some r := H
         have A23 := Aside0.mk A230
         clear A230
         by_cases c24 : t979 = true
         ·subst c24
          have H1 : ((spec_inRange.f ((rd_T88 l0_0 x3_2).f1) 0 999).bind fun t980 => (if t980 = true then ((spec_allIn.f k2 ((rd_T88 l0_0 x3_2).f2) 0 (wrap64 ((l0_0.length : Int) - 1))).bind fun t981 => (if t981 = true then (if ((rd_T88 l0_0 x3_2).f0) = 5 then (spec_validMachine.j2 k2 x3_2 (decide ((((rd_T88 l0_0 x3_2).f2).length : Int) > 1)) l0_0 l0_1 l0_2 a0_3 ((rd_T88 l0_0 x3_2).f0) ((rd_T88 l0_0 x3_2).f1) ((rd_T88 l0_0 x3_2).f2)) else (spec_validMachine.j2 k2 x3_2 false l0_0 l0_1 l0_2 a0_3 ((rd_T88 l0_0 x3_2).f0) ((rd_T88 l0_0 x3_2).f1) ((rd_T88 l0_0 x3_2).f2))) else (spec_validMachine.j2 k2 x3_2 true l0_0 l0_1 l0_2 a0_3 ((rd_T88 l0_0 x3_2).f0) ((rd_T88 l0_0 x3_2).f1) ((rd_T88 l0_0 x3_2).f2)))) else (spec_validMachine.j2 k2 x3_2 true l0_0 l0_1 l0_2 a0_3 ((rd_T88 l0_0 x3_2).f0) ((rd_T88 l0_0 x3_2).f1) ((rd_T88 l0_0 x3_2).f2)))) = some r := by rw [if_pos rfl] at H;exact H
          clear H
          have H := H1
          clear H1
          replace H := Option.bind_eq_some_iff.mp H
          obtain ⟨t980,A250,H⟩ := H
          replace H : (if t980 = true then ((spec_allIn.f k2 ((rd_T88 l0_0 x3_2).f2) 0 (wrap64 ((l0_0.length : Int) - 1))).bind fun t981 => (if t981 = true then (if ((rd_T88 l0_0 x3_2).f0) = 5 then (spec_validMachine.j2 k2 x3_2 (decide ((((rd_T88 l0_0 x3_2).f2).length : Int) > 1)) l0_0 l0_1 l0_2 a0_3 ((rd_T88 l0_0 x3_2).f0) ((rd_T88 l0_0 x3_2).f1) ((rd_T88 l0_0 x3_2).f2)) else (spec_validMachine.j2 k2 x3_2 false l0_0 l0_1 l0_2 a0_3 ((rd_T88 l0_0 x3_2).f0) ((rd_T88 l0_0 x3_2).f1) ((rd_T88 l0_0 x3_2).f2))) else (spec_validMachine.j2 k2 x3_2 true l0_0 l0_1 l0_2 a0_3 ((rd_T88 l0_0 x3_2).f0) ((rd_T88 l0_0 x3_2).f1) ((rd_T88 l0_0 x3_2).f2)))) else (spec_validMachine.j2 k2 x3_2 true l0_0 l0_1 l0_2 a0_3 ((rd_T88 l0_0 x3_2).f0) ((rd_T88 l0_0 x3_2).f1) ((rd_T88 l0_0 x3_2).f2))) = some r := H
          have A25 := Aside0.mk A250
          clear A250
          by_cases c26 : t980 = true
          ·subst c26
           have H1 : ((spec_allIn.f k2 ((rd_T88 l0_0 x3_2).f2) 0 (wrap64 ((l0_0.length : Int) - 1))).bind fun t981 => (if t981 = true then (if ((rd_T88 l0_0 x3_2).f0) = 5 then (spec_validMachine.j2 k2 x3_2 (decide ((((rd_T88 l0_0 x3_2).f2).length : Int) > 1)) l0_0 l0_1 l0_2 a0_3 ((rd_T88 l0_0 x3_2).f0) ((rd_T88 l0_0 x3_2).f1) ((rd_T88 l0_0 x3_2).f2)) else (spec_validMachine.j2 k2 x3_2 false l0_0 l0_1 l0_2 a0_3 ((rd_T88 l0_0 x3_2).f0) ((rd_T88 l0_0 x3_2).f1) ((rd_T88 l0_0 x3_2).f2))) else (spec_validMachine.j2 k2 x3_2 true l0_0 l0_1 l0_2 a0_3 ((rd_T88 l0_0 x3_2).f0) ((rd_T88 l0_0 x3_2).f1) ((rd_T88 l0_0 x3_2).f2)))) = some r := by rw [if_pos rfl] at H;exact H
           clear H
           have H := H1
           clear H1
           replace H := Option.bind_eq_some_iff.mp H
           obtain ⟨t981,A270,H⟩ := H
           replace H : (if t981 = true then (if ((rd_T88 l0_0 x3_2).f0) = 5 then (spec_validMachine.j2 k2 x3_2 (decide ((((rd_T88 l0_0 x3_2).f2).length : Int) > 1)) l0_0 l0_1 l0_2 a0_3 ((rd_T88 l0_0 x3_2).f0) ((rd_T88 l0_0 x3_2).f1) ((rd_T88 l0_0 x3_2).f2)) else (spec_validMachine.j2 k2 x3_2 false l0_0 l0_1 l0_2 a0_3 ((rd_T88 l0_0 x3_2).f0) ((rd_T88 l0_0 x3_2).f1) ((rd_T88 l0_0 x3_2).f2))) else (spec_validMachine.j2 k2 x3_2 true l0_0 l0_1 l0_2 a0_3 ((rd_T88 l0_0 x3_2).f0) ((rd_T88 l0_0 x3_2).f1) ((rd_T88 l0_0 x3_2).f2))) = some r := H
           have A27 := Aside0.mk A270
           clear A270
           by_cases c28 : t981 = true
           ·subst c28
            have H1 : (if ((rd_T88 l0_0 x3_2).f0) = 5 then (spec_validMachine.j2 k2 x3_2 (decide ((((rd_T88 l0_0 x3_2).f2).length : Int) > 1)) l0_0 l0_1 l0_2 a0_3 ((rd_T88 l0_0 x3_2).f0) ((rd_T88 l0_0 x3_2).f1) ((rd_T88 l0_0 x3_2).f2)) else (spec_validMachine.j2 k2 x3_2 false l0_0 l0_1 l0_2 a0_3 ((rd_T88 l0_0 x3_2).f0) ((rd_T88 l0_0 x3_2).f1) ((rd_T88 l0_0 x3_2).f2))) = some r := by rw [if_pos rfl] at H;exact H
            clear H
            have H := H1
            clear H1
            by_cases c29 : ((rd_T88 l0_0 x3_2).f0) = 5
            ·rw [if_pos c29] at H
             have c29b0 : (((rd_T88 l0_0 x3_2).f0) == 5) = true := beq_iff_eq.mpr c29
             have c29b1 : (((rd_T88 l0_0 x3_2).f0) != 5) = false := bne_eq_false_iff_eq.mpr c29
             clear c29
             (first|rw [c29b0]|(simp only [i64_w,i32_w];rw [c29b0])|skip)
             have H' := Aside0.mk H
             clear H
             have hnb30 := NB978_973.out
             have hnc30 := NB973_978.out
             have hcz31_0 : w20.cell? ⟨gb978,0,none⟩ = some (.int .i64 0) := (blk_cell BK978.out 0).trans rfl
             have hcz31_1 : w20.cell? ⟨gb978,1,none⟩ = some (.int .i64 0) := (blk_cell BK978.out 1).trans rfl
             have hcz31_2 : w20.cell? ⟨gb978,2,none⟩ = some (.slice none 0 0) := (blk_cell BK978.out 2).trans rfl
             have hfz31_0 := blk_frozen BK978.out 0
             have hfz31_1 := blk_frozen BK978.out 1
             have hfz31_2 := blk_frozen BK978.out 2
             go_wp2_with (first|((with_reducible refine gate_callee (f := 56) rfl ?_);refine goesL_ (some 56) rfl rfl Try.func56 (by kernel_rfl) rfl #[.int .i64 ((rd_T88 l0_0 x3_2).f0),.int .i64 0,.int .i64 5] rfl (by (try simp only [List.map_toArray,List.map_cons,List.map_nil]);first|done|rfl|(simp only [List.length_drop,List.length_take];rfl)) ?_;(with_reducible refine (spec_inRange.calls ((rd_T88 l0_0 x3_2).f0) 0 5 true _ A23.out).mono ?_);rintro e w' ⟨rfl,⟨nd,rfl⟩⟩;refine ⟨_,rfl,?_⟩)|(go_at_call 56;(with_reducible refine (spec_inRange.calls ((rd_T88 l0_0 x3_2).f1) 0 999 true _ A25.out).mono ?_);rintro e w' ⟨rfl,⟨nd,rfl⟩⟩;have hcz32_0 : w20.cell? ⟨gb973,0,none⟩ = some (.slice (some ad977) l0_0.length c0_0) := (blk_cell BK973.out 0).trans rfl;have hcz32_1 : w20.cell? ⟨gb973,1,none⟩ = some (.slice A0_1 l0_1.length c0_1) := (blk_cell BK973.out 1).trans rfl;have hcz32_2 : w20.cell? ⟨gb973,2,none⟩ = some (.slice A0_2 l0_2.length c0_2) := (blk_cell BK973.out 2).trans rfl;have hcz32_3 : w20.cell? ⟨gb973,3,none⟩ = some (.bool a0_3) := (blk_cell BK973.out 3).trans rfl;have hfz32_0 := blk_frozen BK973.out 0;have hfz32_1 := blk_frozen BK973.out 1;have hfz32_2 := blk_frozen BK973.out 2;have hfz32_3 := blk_frozen BK973.out 3)|(go_at_call 87;(with_reducible refine (spec_allIn.calls k2 _ _ ((rd_T88 l0_0 x3_2).f2) 0 (wrap64 ((l0_0.length : Int) - 1)) true _ ?side1 ?side2 A27.out).mono ?_);(case side1 => exact Kd.C_below HR977_2.out (by repeat (first|(with_reducible first|exact HB.out|apply below_alloc|apply pw_below_drewN|apply below_drew1|refine below_set ?_ GE973.out|refine below_set ?_ GE978.out)|exact HB.out)));(case side2 => exact HC977_2.out);rintro e w' ⟨rfl,⟨nd,rfl⟩⟩))
             go_meet
             case rel => exact ⟨_,(decide ((((rd_T88 l0_0 x3_2).f2).length : Int) > 1)),(by first|rfl|(simp;done)|(simp [*];done)),H',⟨by have := HJ1.out;have := HK2.out;first|omega|exact Nat.le_refl _⟩,⟨by (with_reducible repeat (first|refine blk_drewN ?_ _|refine blk_drew ?_|refine blk_alloc ?_ _));refine blk_far ?_ NB973_978.out _;(with_reducible repeat (first|refine blk_drewN ?_ _|refine blk_drew ?_|refine blk_alloc ?_ _));refine blk_far ?_ NB973_978.out _;(with_reducible repeat (first|refine blk_drewN ?_ _|refine blk_drew ?_|refine blk_alloc ?_ _));refine blk_far ?_ NB973_978.out _;(with_reducible repeat (first|refine blk_drewN ?_ _|refine blk_drew ?_|refine blk_alloc ?_ _));exact BK973.out⟩,⟨by (with_reducible repeat (first|refine blk_drewN ?_ _|refine blk_drew ?_|refine blk_alloc ?_ _));refine blk_put (cs := #[.int .i64 ((rd_T88 l0_0 x3_2).f0),.int .i64 ((rd_T88 l0_0 x3_2).f1),.slice none 0 0]) ?_ 2 _ rfl;(with_reducible repeat (first|refine blk_drewN ?_ _|refine blk_drew ?_|refine blk_alloc ?_ _));refine blk_put (cs := #[.int .i64 ((rd_T88 l0_0 x3_2).f0),.int .i64 0,.slice none 0 0]) ?_ 1 _ rfl;(with_reducible repeat (first|refine blk_drewN ?_ _|refine blk_drew ?_|refine blk_alloc ?_ _));refine blk_put (cs := #[.int .i64 0,.int .i64 0,.slice none 0 0]) ?_ 0 _ rfl;(with_reducible repeat (first|refine blk_drewN ?_ _|refine blk_drew ?_|refine blk_alloc ?_ _));exact BK978.out⟩,⟨by repeat (first|(with_reducible first|exact HB.out|apply below_alloc|apply pw_below_drewN|apply below_drew1|refine below_set ?_ GE973.out|refine below_set ?_ GE978.out)|exact HB.out)⟩⟩
            ·rw [if_neg c29] at H
             have c29b0 : (((rd_T88 l0_0 x3_2).f0) == 5) = false := beq_eq_false_iff_ne.mpr c29
             have c29b1 : (((rd_T88 l0_0 x3_2).f0) != 5) = true := bne_iff_ne.mpr c29
             (first|rw [c29b0]|(simp only [i64_w,i32_w];rw [c29b0])|skip)
             have H' := Aside0.mk H
             clear H
             have hnb33 := NB978_973.out
             have hnc33 := NB973_978.out
             have hcz34_0 : w20.cell? ⟨gb978,0,none⟩ = some (.int .i64 0) := (blk_cell BK978.out 0).trans rfl
             have hcz34_1 : w20.cell? ⟨gb978,1,none⟩ = some (.int .i64 0) := (blk_cell BK978.out 1).trans rfl
             have hcz34_2 : w20.cell? ⟨gb978,2,none⟩ = some (.slice none 0 0) := (blk_cell BK978.out 2).trans rfl
             have hfz34_0 := blk_frozen BK978.out 0
             have hfz34_1 := blk_frozen BK978.out 1
             have hfz34_2 := blk_frozen BK978.out 2
             go_wp2_with (first|((with_reducible refine gate_callee (f := 56) rfl ?_);refine goesL_ (some 56) rfl rfl Try.func56 (by kernel_rfl) rfl #[.int .i64 ((rd_T88 l0_0 x3_2).f0),.int .i64 0,.int .i64 5] rfl (by (try simp only [List.map_toArray,List.map_cons,List.map_nil]);first|done|rfl|(simp only [List.length_drop,List.length_take];rfl)) ?_;(with_reducible refine (spec_inRange.calls ((rd_T88 l0_0 x3_2).f0) 0 5 true _ A23.out).mono ?_);rintro e w' ⟨rfl,⟨nd,rfl⟩⟩;refine ⟨_,rfl,?_⟩)|(go_at_call 56;(with_reducible refine (spec_inRange.calls ((rd_T88 l0_0 x3_2).f1) 0 999 true _ A25.out).mono ?_);rintro e w' ⟨rfl,⟨nd,rfl⟩⟩;have hcz35_0 : w20.cell? ⟨gb973,0,none⟩ = some (.slice (some ad977) l0_0.length c0_0) := (blk_cell BK973.out 0).trans rfl;have hcz35_1 : w20.cell? ⟨gb973,1,none⟩ = some (.slice A0_1 l0_1.length c0_1) := (blk_cell BK973.out 1).trans rfl;have hcz35_2 : w20.cell? ⟨gb973,2,none⟩ = some (.slice A0_2 l0_2.length c0_2) := (blk_cell BK973.out 2).trans rfl;have hcz35_3 : w20.cell? ⟨gb973,3,none⟩ = some (.bool a0_3) := (blk_cell BK973.out 3).trans rfl;have hfz35_0 := blk_frozen BK973.out 0;have hfz35_1 := blk_frozen BK973.out 1;have hfz35_2 := blk_frozen BK973.out 2;have hfz35_3 := blk_frozen BK973.out 3)|(go_at_call 87;(with_reducible refine (spec_allIn.calls k2 _ _ ((rd_T88 l0_0 x3_2).f2) 0 (wrap64 ((l0_0.length : Int) - 1)) true _ ?side1 ?side2 A27.out).mono ?_);(case side1 => exact Kd.C_below HR977_2.out (by repeat (first|(with_reducible first|exact HB.out|apply below_alloc|apply pw_below_drewN|apply below_drew1|refine below_set ?_ GE973.out|refine below_set ?_ GE978.out)|exact HB.out)));(case side2 => exact HC977_2.out);rintro e w' ⟨rfl,⟨nd,rfl⟩⟩))
             go_meet
             case rel => exact ⟨_,(false),(by first|rfl|(simp;done)|(simp [*];done)),H',⟨by have := HJ1.out;have := HK2.out;first|omega|exact Nat.le_refl _⟩,⟨by (with_reducible repeat (first|refine blk_drewN ?_ _|refine blk_drew ?_|refine blk_alloc ?_ _));refine blk_far ?_ NB973_978.out _;(with_reducible repeat (first|refine blk_drewN ?_ _|refine blk_drew ?_|refine blk_alloc ?_ _));refine blk_far ?_ NB973_978.out _;(with_reducible repeat (first|refine blk_drewN ?_ _|refine blk_drew ?_|refine blk_alloc ?_ _));refine blk_far ?_ NB973_978.out _;(with_reducible repeat (first|refine blk_drewN ?_ _|refine blk_drew ?_|refine blk_alloc ?_ _));exact BK973.out⟩,⟨by (with_reducible repeat (first|refine blk_drewN ?_ _|refine blk_drew ?_|refine blk_alloc ?_ _));refine blk_put (cs := #[.int .i64 ((rd_T88 l0_0 x3_2).f0),.int .i64 ((rd_T88 l0_0 x3_2).f1),.slice none 0 0]) ?_ 2 _ rfl;(with_reducible repeat (first|refine blk_drewN ?_ _|refine blk_drew ?_|refine blk_alloc ?_ _));refine blk_put (cs := #[.int .i64 ((rd_T88 l0_0 x3_2).f0),.int .i64 0,.slice none 0 0]) ?_ 1 _ rfl;(with_reducible repeat (first|refine blk_drewN ?_ _|refine blk_drew ?_|refine blk_alloc ?_ _));refine blk_put (cs := #[.int .i64 0,.int .i64 0,.slice none 0 0]) ?_ 0 _ rfl;(with_reducible repeat (first|refine blk_drewN ?_ _|refine blk_drew ?_|refine blk_alloc ?_ _));exact BK978.out⟩,⟨by repeat (first|(with_reducible first|exact HB.out|apply below_alloc|apply pw_below_drewN|apply below_drew1|refine below_set ?_ GE973.out|refine below_set ?_ GE978.out)|exact HB.out)⟩⟩
           ·replace c28 := Bool.eq_false_iff.mpr c28
            subst c28
            have H1 : (spec_validMachine.j2 k2 x3_2 true l0_0 l0_1 l0_2 a0_3 ((rd_T88 l0_0 x3_2).f0) ((rd_T88 l0_0 x3_2).f1) ((rd_T88 l0_0 x3_2).f2)) = some r := by rw [if_neg (show ¬ (false = true) by decide)] at H;exact H
            clear H
            have H := H1
            clear H1
            have H' := Aside0.mk H
            clear H
            have hnb36 := NB978_973.out
            have hnc36 := NB973_978.out
            have hcz37_0 : w20.cell? ⟨gb978,0,none⟩ = some (.int .i64 0) := (blk_cell BK978.out 0).trans rfl
            have hcz37_1 : w20.cell? ⟨gb978,1,none⟩ = some (.int .i64 0) := (blk_cell BK978.out 1).trans rfl
            have hcz37_2 : w20.cell? ⟨gb978,2,none⟩ = some (.slice none 0 0) := (blk_cell BK978.out 2).trans rfl
            have hfz37_0 := blk_frozen BK978.out 0
            have hfz37_1 := blk_frozen BK978.out 1
            have hfz37_2 := blk_frozen BK978.out 2
            go_wp2_with (first|((with_reducible refine gate_callee (f := 56) rfl ?_);refine goesL_ (some 56) rfl rfl Try.func56 (by kernel_rfl) rfl #[.int .i64 ((rd_T88 l0_0 x3_2).f0),.int .i64 0,.int .i64 5] rfl (by (try simp only [List.map_toArray,List.map_cons,List.map_nil]);first|done|rfl|(simp only [List.length_drop,List.length_take];rfl)) ?_;(with_reducible refine (spec_inRange.calls ((rd_T88 l0_0 x3_2).f0) 0 5 true _ A23.out).mono ?_);rintro e w' ⟨rfl,⟨nd,rfl⟩⟩;refine ⟨_,rfl,?_⟩)|(go_at_call 56;(with_reducible refine (spec_inRange.calls ((rd_T88 l0_0 x3_2).f1) 0 999 true _ A25.out).mono ?_);rintro e w' ⟨rfl,⟨nd,rfl⟩⟩;have hcz38_0 : w20.cell? ⟨gb973,0,none⟩ = some (.slice (some ad977) l0_0.length c0_0) := (blk_cell BK973.out 0).trans rfl;have hcz38_1 : w20.cell? ⟨gb973,1,none⟩ = some (.slice A0_1 l0_1.length c0_1) := (blk_cell BK973.out 1).trans rfl;have hcz38_2 : w20.cell? ⟨gb973,2,none⟩ = some (.slice A0_2 l0_2.length c0_2) := (blk_cell BK973.out 2).trans rfl;have hcz38_3 : w20.cell? ⟨gb973,3,none⟩ = some (.bool a0_3) := (blk_cell BK973.out 3).trans rfl;have hfz38_0 := blk_frozen BK973.out 0;have hfz38_1 := blk_frozen BK973.out 1;have hfz38_2 := blk_frozen BK973.out 2;have hfz38_3 := blk_frozen BK973.out 3)|(go_at_call 87;(with_reducible refine (spec_allIn.calls k2 _ _ ((rd_T88 l0_0 x3_2).f2) 0 (wrap64 ((l0_0.length : Int) - 1)) false _ ?side1 ?side2 A27.out).mono ?_);(case side1 => exact Kd.C_below HR977_2.out (by repeat (first|(with_reducible first|exact HB.out|apply below_alloc|apply pw_below_drewN|apply below_drew1|refine below_set ?_ GE973.out|refine below_set ?_ GE978.out)|exact HB.out)));(case side2 => exact HC977_2.out);rintro e w' ⟨rfl,⟨nd,rfl⟩⟩))
            go_meet
            case rel => exact ⟨_,(true),(by first|rfl|(simp;done)|(simp [*];done)),H',⟨by have := HJ1.out;have := HK2.out;first|omega|exact Nat.le_refl _⟩,⟨by (with_reducible repeat (first|refine blk_drewN ?_ _|refine blk_drew ?_|refine blk_alloc ?_ _));refine blk_far ?_ NB973_978.out _;(with_reducible repeat (first|refine blk_drewN ?_ _|refine blk_drew ?_|refine blk_alloc ?_ _));refine blk_far ?_ NB973_978.out _;(with_reducible repeat (first|refine blk_drewN ?_ _|refine blk_drew ?_|refine blk_alloc ?_ _));refine blk_far ?_ NB973_978.out _;(with_reducible repeat (first|refine blk_drewN ?_ _|refine blk_drew ?_|refine blk_alloc ?_ _));exact BK973.out⟩,⟨by (with_reducible repeat (first|refine blk_drewN ?_ _|refine blk_drew ?_|refine blk_alloc ?_ _));refine blk_put (cs := #[.int .i64 ((rd_T88 l0_0 x3_2).f0),.int .i64 ((rd_T88 l0_0 x3_2).f1),.slice none 0 0]) ?_ 2 _ rfl;(with_reducible repeat (first|refine blk_drewN ?_ _|refine blk_drew ?_|refine blk_alloc ?_ _));refine blk_put (cs := #[.int .i64 ((rd_T88 l0_0 x3_2).f0),.int .i64 0,.slice none 0 0]) ?_ 1 _ rfl;(with_reducible repeat (first|refine blk_drewN ?_ _|refine blk_drew ?_|refine blk_alloc ?_ _));refine blk_put (cs := #[.int .i64 0,.int .i64 0,.slice none 0 0]) ?_ 0 _ rfl;(with_reducible repeat (first|refine blk_drewN ?_ _|refine blk_drew ?_|refine blk_alloc ?_ _));exact BK978.out⟩,⟨by repeat (first|(with_reducible first|exact HB.out|apply below_alloc|apply pw_below_drewN|apply below_drew1|refine below_set ?_ GE973.out|refine below_set ?_ GE978.out)|exact HB.out)⟩⟩
          ·replace c26 := Bool.eq_false_iff.mpr c26
           subst c26
           have H1 : (spec_validMachine.j2 k2 x3_2 true l0_0 l0_1 l0_2 a0_3 ((rd_T88 l0_0 x3_2).f0) ((rd_T88 l0_0 x3_2).f1) ((rd_T88 l0_0 x3_2).f2)) = some r := by rw [if_neg (show ¬ (false = true) by decide)] at H;exact H
           clear H
           have H := H1
           clear H1
           have H' := Aside0.mk H
           clear H
           have hnb39 := NB978_973.out
           have hnc39 := NB973_978.out
           have hcz40_0 : w20.cell? ⟨gb978,0,none⟩ = some (.int .i64 0) := (blk_cell BK978.out 0).trans rfl
           have hcz40_1 : w20.cell? ⟨gb978,1,none⟩ = some (.int .i64 0) := (blk_cell BK978.out 1).trans rfl
           have hcz40_2 : w20.cell? ⟨gb978,2,none⟩ = some (.slice none 0 0) := (blk_cell BK978.out 2).trans rfl
           have hfz40_0 := blk_frozen BK978.out 0
           have hfz40_1 := blk_frozen BK978.out 1
           have hfz40_2 := blk_frozen BK978.out 2
           go_wp2_with (first|((with_reducible refine gate_callee (f := 56) rfl ?_);refine goesL_ (some 56) rfl rfl Try.func56 (by kernel_rfl) rfl #[.int .i64 ((rd_T88 l0_0 x3_2).f0),.int .i64 0,.int .i64 5] rfl (by (try simp only [List.map_toArray,List.map_cons,List.map_nil]);first|done|rfl|(simp only [List.length_drop,List.length_take];rfl)) ?_;(with_reducible refine (spec_inRange.calls ((rd_T88 l0_0 x3_2).f0) 0 5 true _ A23.out).mono ?_);rintro e w' ⟨rfl,⟨nd,rfl⟩⟩;refine ⟨_,rfl,?_⟩)|(go_at_call 56;(with_reducible refine (spec_inRange.calls ((rd_T88 l0_0 x3_2).f1) 0 999 false _ A25.out).mono ?_);rintro e w' ⟨rfl,⟨nd,rfl⟩⟩))
           go_meet
           case rel => exact ⟨_,(true),(by first|rfl|(simp;done)|(simp [*];done)),H',⟨by have := HJ1.out;have := HK2.out;first|omega|exact Nat.le_refl _⟩,⟨by (with_reducible repeat (first|refine blk_drewN ?_ _|refine blk_drew ?_|refine blk_alloc ?_ _));refine blk_far ?_ NB973_978.out _;(with_reducible repeat (first|refine blk_drewN ?_ _|refine blk_drew ?_|refine blk_alloc ?_ _));refine blk_far ?_ NB973_978.out _;(with_reducible repeat (first|refine blk_drewN ?_ _|refine blk_drew ?_|refine blk_alloc ?_ _));refine blk_far ?_ NB973_978.out _;(with_reducible repeat (first|refine blk_drewN ?_ _|refine blk_drew ?_|refine blk_alloc ?_ _));exact BK973.out⟩,⟨by (with_reducible repeat (first|refine blk_drewN ?_ _|refine blk_drew ?_|refine blk_alloc ?_ _));refine blk_put (cs := #[.int .i64 ((rd_T88 l0_0 x3_2).f0),.int .i64 ((rd_T88 l0_0 x3_2).f1),.slice none 0 0]) ?_ 2 _ rfl;(with_reducible repeat (first|refine blk_drewN ?_ _|refine blk_drew ?_|refine blk_alloc ?_ _));refine blk_put (cs := #[.int .i64 ((rd_T88 l0_0 x3_2).f0),.int .i64 0,.slice none 0 0]) ?_ 1 _ rfl;(with_reducible repeat (first|refine blk_drewN ?_ _|refine blk_drew ?_|refine blk_alloc ?_ _));refine blk_put (cs := #[.int .i64 0,.int .i64 0,.slice none 0 0]) ?_ 0 _ rfl;(with_reducible repeat (first|refine blk_drewN ?_ _|refine blk_drew ?_|refine blk_alloc ?_ _));exact BK978.out⟩,⟨by repeat (first|(with_reducible first|exact HB.out|apply below_alloc|apply pw_below_drewN|apply below_drew1|refine below_set ?_ GE973.out|refine below_set ?_ GE978.out)|exact HB.out)⟩⟩
         ·replace c24 := Bool.eq_false_iff.mpr c24
          subst c24
          have H1 : (spec_validMachine.j2 k2 x3_2 true l0_0 l0_1 l0_2 a0_3 ((rd_T88 l0_0 x3_2).f0) ((rd_T88 l0_0 x3_2).f1) ((rd_T88 l0_0 x3_2).f2)) = some r := by rw [if_neg (show ¬ (false = true) by decide)] at H;exact H
          clear H
          have H := H1
          clear H1
          have H' := Aside0.mk H
          clear H
          have hnb41 := NB978_973.out
          have hnc41 := NB973_978.out
          have hcz42_0 : w20.cell? ⟨gb978,0,none⟩ = some (.int .i64 0) := (blk_cell BK978.out 0).trans rfl
          have hcz42_1 : w20.cell? ⟨gb978,1,none⟩ = some (.int .i64 0) := (blk_cell BK978.out 1).trans rfl
          have hcz42_2 : w20.cell? ⟨gb978,2,none⟩ = some (.slice none 0 0) := (blk_cell BK978.out 2).trans rfl
          have hfz42_0 := blk_frozen BK978.out 0
          have hfz42_1 := blk_frozen BK978.out 1
          have hfz42_2 := blk_frozen BK978.out 2
          go_wp2_with (first|((with_reducible refine gate_callee (f := 56) rfl ?_);refine goesL_ (some 56) rfl rfl Try.func56 (by kernel_rfl) rfl #[.int .i64 ((rd_T88 l0_0 x3_2).f0),.int .i64 0,.int .i64 5] rfl (by (try simp only [List.map_toArray,List.map_cons,List.map_nil]);first|done|rfl|(simp only [List.length_drop,List.length_take];rfl)) ?_;(with_reducible refine (spec_inRange.calls ((rd_T88 l0_0 x3_2).f0) 0 5 false _ A23.out).mono ?_);rintro e w' ⟨rfl,⟨nd,rfl⟩⟩;refine ⟨_,rfl,?_⟩))
          go_meet
          case rel => exact ⟨_,(true),(by first|rfl|(simp;done)|(simp [*];done)),H',⟨by have := HJ1.out;have := HK2.out;first|omega|exact Nat.le_refl _⟩,⟨by (with_reducible repeat (first|refine blk_drewN ?_ _|refine blk_drew ?_|refine blk_alloc ?_ _));refine blk_far ?_ NB973_978.out _;(with_reducible repeat (first|refine blk_drewN ?_ _|refine blk_drew ?_|refine blk_alloc ?_ _));refine blk_far ?_ NB973_978.out _;(with_reducible repeat (first|refine blk_drewN ?_ _|refine blk_drew ?_|refine blk_alloc ?_ _));refine blk_far ?_ NB973_978.out _;(with_reducible repeat (first|refine blk_drewN ?_ _|refine blk_drew ?_|refine blk_alloc ?_ _));exact BK973.out⟩,⟨by (with_reducible repeat (first|refine blk_drewN ?_ _|refine blk_drew ?_|refine blk_alloc ?_ _));refine blk_put (cs := #[.int .i64 ((rd_T88 l0_0 x3_2).f0),.int .i64 ((rd_T88 l0_0 x3_2).f1),.slice none 0 0]) ?_ 2 _ rfl;(with_reducible repeat (first|refine blk_drewN ?_ _|refine blk_drew ?_|refine blk_alloc ?_ _));refine blk_put (cs := #[.int .i64 ((rd_T88 l0_0 x3_2).f0),.int .i64 0,.slice none 0 0]) ?_ 1 _ rfl;(with_reducible repeat (first|refine blk_drewN ?_ _|refine blk_drew ?_|refine blk_alloc ?_ _));refine blk_put (cs := #[.int .i64 0,.int .i64 0,.slice none 0 0]) ?_ 0 _ rfl;(with_reducible repeat (first|refine blk_drewN ?_ _|refine blk_drew ?_|refine blk_alloc ?_ _));exact BK978.out⟩,⟨by repeat (first|(with_reducible first|exact HB.out|apply below_alloc|apply pw_below_drewN|apply below_drew1|refine below_set ?_ GE973.out|refine below_set ?_ GE978.out)|exact HB.out)⟩⟩
        case rest =>
         clear HC18
         try clear c1
         try clear c2
         try clear p2
         try clear c3
         try clear c4
         try clear c4b0
         try clear c4b1
         try clear c5
         try clear c6
         try clear c6b0
         try clear c6b1
         try clear p6
         try clear c7
         try clear c9
         try clear p9
         try clear q9
         try clear hx9
         try clear c10
         try clear c10b0
         try clear c10b1
         try clear c15
         try clear c16
         try clear c16b0
         try clear c17
         try clear c17b0
         try clear c21
         try clear c24
         try clear c26
         try clear c28
         try clear c29
         try clear c29b0
         try clear c29b1
         try clear c30
         try clear c33
         try clear c36
         try clear c39
         try clear c41
         try clear hcz12_0
         try clear hcz12_1
         try clear hcz12_2
         try clear hcz12_3
         try clear hcz13_0
         try clear hcz13_1
         try clear hcz13_2
         try clear hcz13_3
         try clear hcz14_0
         try clear hcz14_1
         try clear hcz14_2
         try clear hcz14_3
         try clear hcz19_0
         try clear hcz19_1
         try clear hcz19_2
         try clear hcz19_3
         try clear hcz22_0
         try clear hcz22_1
         try clear hcz22_2
         try clear hcz31_0
         try clear hcz31_1
         try clear hcz31_2
         try clear hcz32_0
         try clear hcz32_1
         try clear hcz32_2
         try clear hcz32_3
         try clear hcz34_0
         try clear hcz34_1
         try clear hcz34_2
         try clear hcz35_0
         try clear hcz35_1
         try clear hcz35_2
         try clear hcz35_3
         try clear hcz37_0
         try clear hcz37_1
         try clear hcz37_2
         try clear hcz38_0
         try clear hcz38_1
         try clear hcz38_2
         try clear hcz38_3
         try clear hcz40_0
         try clear hcz40_1
         try clear hcz40_2
         try clear hcz42_0
         try clear hcz42_1
         try clear hcz42_2
         try clear hcz5_0
         try clear hcz5_1
         try clear hcz5_2
         try clear hcz5_3
         try clear hcz7_0
         try clear hcz7_1
         try clear hcz7_2
         try clear hcz7_3
         try clear hfz12_0
         try clear hfz12_1
         try clear hfz12_2
         try clear hfz12_3
         try clear hfz13_0
         try clear hfz13_1
         try clear hfz13_2
         try clear hfz13_3
         try clear hfz14_0
         try clear hfz14_1
         try clear hfz14_2
         try clear hfz14_3
         try clear hfz19_0
         try clear hfz19_1
         try clear hfz19_2
         try clear hfz19_3
         try clear hfz22_0
         try clear hfz22_1
         try clear hfz22_2
         try clear hfz31_0
         try clear hfz31_1
         try clear hfz31_2
         try clear hfz32_0
         try clear hfz32_1
         try clear hfz32_2
         try clear hfz32_3
         try clear hfz34_0
         try clear hfz34_1
         try clear hfz34_2
         try clear hfz35_0
         try clear hfz35_1
         try clear hfz35_2
         try clear hfz35_3
         try clear hfz37_0
         try clear hfz37_1
         try clear hfz37_2
         try clear hfz38_0
         try clear hfz38_1
         try clear hfz38_2
         try clear hfz38_3
         try clear hfz40_0
         try clear hfz40_1
         try clear hfz40_2
         try clear hfz42_0
         try clear hfz42_1
         try clear hfz42_2
         try clear hfz5_0
         try clear hfz5_1
         try clear hfz5_2
         try clear hfz5_3
         try clear hfz7_0
         try clear hfz7_1
         try clear hfz7_2
         try clear hfz7_3
         try clear hx977_0
         try clear hx977_1
         try clear hx977_2
         try clear p2
         try clear p6
         try clear p977
         try clear q977
         obtain ⟨kq,x84_17,rfl,HA,HJ17,BK973,BK978,HB⟩ := hcut
         cases kq with
         | zero => exact absurd HA.out (fun h_ => (by cases h_))
         | succ kj17 =>
          have H := HA.out
          clear HA
          simp only [spec_validMachine.j2] at H
          by_cases c43 : x84_17 = true
          ·subst c43
           have H1 : (some false) = some r := by rw [if_pos rfl] at H;exact H
           clear H
           have H := H1
           clear H1
           obtain rfl := Option.some.inj H
           go_wp2
           go_ret
           exact ⟨by first|rfl|(simp [errW_none,errW_some] <;> rfl)|(simp [*,errW_none,errW_some] <;> rfl),by repeat (first|(with_reducible first|exact HB.out|apply below_alloc|apply pw_below_drewN|apply below_drew1|refine below_set ?_ GE973.out|refine below_set ?_ GE978.out)|exact HB.out)⟩
          ·replace c43 := Bool.eq_false_iff.mpr c43
           subst c43
           have H1 : (spec_validMachine.l1 kj17 x3_2 0 l0_0 l0_1 l0_2 a0_3 ((rd_T88 l0_0 x3_2).f0) ((rd_T88 l0_0 x3_2).f1) ((rd_T88 l0_0 x3_2).f2)) = some r := by rw [if_neg (show ¬ (false = true) by decide)] at H;exact H
           clear H
           have H := H1
           clear H1
           have H' := Aside0.mk H
           clear H
           go_wp2
           go_loopg [5] kj17 (fun kq v5 w' => ∃ (x5_4 : Int),v5 = .int .i64 x5_4 ∧ Aside0 (spec_validMachine.l1 kq x3_2 x5_4 l0_0 l0_1 l0_2 a0_3 ((rd_T88 l0_0 x3_2).f0) ((rd_T88 l0_0 x3_2).f1) ((rd_T88 l0_0 x3_2).f2) = some r) ∧ Aside0 (kq ≤ kj17) ∧ Aside0 (w'.heap[gb973]? = some (.cells #[(.slice (some ad977) l0_0.length c0_0),(.slice A0_1 l0_1.length c0_1),(.slice A0_2 l0_2.length c0_2),.bool a0_3] 56 (0,0))) ∧ Aside0 (w'.heap[gb978]? = some (.cells #[.int .i64 ((rd_T88 l0_0 x3_2).f0),.int .i64 ((rd_T88 l0_0 x3_2).f1),(.slice A977_2 ((rd_T88 l0_0 x3_2).f2).length c977_2)] 88 (0,0))) ∧ Aside0 (Below w.heap.size w w'))
           case atStart => exact ⟨(0),(by first|rfl|(simp;done)|(simp [*];done)),H',⟨Nat.le_refl _⟩,⟨by (with_reducible repeat (first|refine blk_drewN ?_ _|refine blk_drew ?_|refine blk_alloc ?_ _));exact BK973.out⟩,⟨by (with_reducible repeat (first|refine blk_drewN ?_ _|refine blk_drew ?_|refine blk_alloc ?_ _));exact BK978.out⟩,⟨by repeat (first|(with_reducible first|exact HB.out|apply below_alloc|apply pw_below_drewN|apply below_drew1|refine below_set ?_ GE973.out|refine below_set ?_ GE978.out)|exact HB.out)⟩⟩
           case round =>
            clear H'
            try clear c1
            try clear c2
            try clear p2
            try clear c3
            try clear c4
            try clear c4b0
            try clear c4b1
            try clear c5
            try clear c6
            try clear c6b0
            try clear c6b1
            try clear p6
            try clear c7
            try clear c9
            try clear p9
            try clear q9
            try clear hx9
            try clear c10
            try clear c10b0
            try clear c10b1
            try clear c15
            try clear c16
            try clear c16b0
            try clear c17
            try clear c17b0
            try clear c21
            try clear c24
            try clear c26
            try clear c28
            try clear c29
            try clear c29b0
            try clear c29b1
            try clear c30
            try clear c33
            try clear c36
            try clear c39
            try clear c41
            try clear c43
            try clear hcz12_0
            try clear hcz12_1
            try clear hcz12_2
            try clear hcz12_3
            try clear hcz13_0
            try clear hcz13_1
            try clear hcz13_2
            try clear hcz13_3
            try clear hcz14_0
            try clear hcz14_1
            try clear hcz14_2
            try clear hcz14_3
            try clear hcz19_0
            try clear hcz19_1
            try clear hcz19_2
            try clear hcz19_3
            try clear hcz22_0
            try clear hcz22_1
            try clear hcz22_2
            try clear hcz31_0
            try clear hcz31_1
            try clear hcz31_2
            try clear hcz32_0
            try clear hcz32_1
            try clear hcz32_2
            try clear hcz32_3
            try clear hcz34_0
            try clear hcz34_1
            try clear hcz34_2
            try clear hcz35_0
            try clear hcz35_1
            try clear hcz35_2
            try clear hcz35_3
            try clear hcz37_0
            try clear hcz37_1
            try clear hcz37_2
            try clear hcz38_0
            try clear hcz38_1
            try clear hcz38_2
            try clear hcz38_3
            try clear hcz40_0
            try clear hcz40_1
            try clear hcz40_2
            try clear hcz42_0
            try clear hcz42_1
            try clear hcz42_2
            try clear hcz5_0
            try clear hcz5_1
            try clear hcz5_2
            try clear hcz5_3
            try clear hcz7_0
            try clear hcz7_1
            try clear hcz7_2
            try clear hcz7_3
            try clear hfz12_0
            try clear hfz12_1
            try clear hfz12_2
            try clear hfz12_3
            try clear hfz13_0
            try clear hfz13_1
            try clear hfz13_2
            try clear hfz13_3
            try clear hfz14_0
            try clear hfz14_1
            try clear hfz14_2
            try clear hfz14_3
            try clear hfz19_0
            try clear hfz19_1
            try clear hfz19_2
            try clear hfz19_3
            try clear hfz22_0
            try clear hfz22_1
            try clear hfz22_2
            try clear hfz31_0
            try clear hfz31_1
            try clear hfz31_2
            try clear hfz32_0
            try clear hfz32_1
            try clear hfz32_2
            try clear hfz32_3
            try clear hfz34_0
            try clear hfz34_1
            try clear hfz34_2
            try clear hfz35_0
            try clear hfz35_1
            try clear hfz35_2
            try clear hfz35_3
            try clear hfz37_0
            try clear hfz37_1
            try clear hfz37_2
            try clear hfz38_0
            try clear hfz38_1
            try clear hfz38_2
            try clear hfz38_3
            try clear hfz40_0
            try clear hfz40_1
            try clear hfz40_2
            try clear hfz42_0
            try clear hfz42_1
            try clear hfz42_2
            try clear hfz5_0
            try clear hfz5_1
            try clear hfz5_2
            try clear hfz5_3
            try clear hfz7_0
            try clear hfz7_1
            try clear hfz7_2
            try clear hfz7_3
            try clear hx977_0
            try clear hx977_1
            try clear hx977_2
            try clear p2
            try clear p6
            try clear p9
            try clear p977
            try clear q9
            try clear q977
            obtain ⟨x5_4,rfl,HA,HK4,BK973,BK978,HB⟩ := hrel
            cases gk with
            | zero => exact absurd HA.out (fun h_ => (by cases h_))
            | succ k4 =>
             have H := HA.out
             clear HA
             simp only [spec_validMachine.l1] at H
             have HC44 := Aside0.mk H
             clear H
             go_upto_region 10 with (fail)
             go_cut [94] (fun v94 wc => ∃ (kq : Nat) (x94_43 : Bool),v94 = .bool x94_43 ∧ Aside0 (spec_validMachine.j4 kq x3_2 x5_4 x94_43 l0_0 l0_1 l0_2 a0_3 ((rd_T88 l0_0 x3_2).f0) ((rd_T88 l0_0 x3_2).f1) ((rd_T88 l0_0 x3_2).f2) = some r) ∧ Aside0 (kq ≤ k4) ∧ Aside0 (wc.heap[gb973]? = some (.cells #[(.slice (some ad977) l0_0.length c0_0),(.slice A0_1 l0_1.length c0_1),(.slice A0_2 l0_2.length c0_2),.bool a0_3] 56 (0,0))) ∧ Aside0 (wc.heap[gb978]? = some (.cells #[.int .i64 ((rd_T88 l0_0 x3_2).f0),.int .i64 ((rd_T88 l0_0 x3_2).f1),(.slice A977_2 ((rd_T88 l0_0 x3_2).f2).length c977_2)] 88 (0,0))) ∧ Aside0 (Below w.heap.size w wc))
             case first =>
              have H := HC44.out
              clear HC44
              by_cases c45 : x5_4 < (((rd_T88 l0_0 x3_2).f2).length : Int)
              ·rw [if_pos c45] at H
               have c45b0 : decide (x5_4 < (((rd_T88 l0_0 x3_2).f2).length : Int)) = true := decide_eq_true c45
               clear c45
               (first|rw [c45b0]|(simp only [i64_w,i32_w];rw [c45b0])|skip)
               have H' := Aside0.mk H
               clear H
               have hnb46 := NB978_973.out
               have hnc46 := NB973_978.out
               have hcz47_0 : wr.cell? ⟨gb978,0,none⟩ = some (.int .i64 ((rd_T88 l0_0 x3_2).f0)) := (blk_cell BK978.out 0).trans rfl
               have hcz47_1 : wr.cell? ⟨gb978,1,none⟩ = some (.int .i64 ((rd_T88 l0_0 x3_2).f1)) := (blk_cell BK978.out 1).trans rfl
               have hcz47_2 : wr.cell? ⟨gb978,2,none⟩ = some (.slice A977_2 ((rd_T88 l0_0 x3_2).f2).length c977_2) := (blk_cell BK978.out 2).trans rfl
               have hfz47_0 := blk_frozen BK978.out 0
               have hfz47_1 := blk_frozen BK978.out 1
               have hfz47_2 := blk_frozen BK978.out 2
               go_wp2
               go_meet
               case rel => exact ⟨_,((((rd_T88 l0_0 x3_2).f0) == 4)),(by first|rfl|(simp;done)|(simp [*];done)),H',⟨by have := HJ1.out;have := HK2.out;have := HJ17.out;have := HK4.out;first|omega|exact Nat.le_refl _⟩,⟨by (with_reducible repeat (first|refine blk_drewN ?_ _|refine blk_drew ?_|refine blk_alloc ?_ _));exact BK973.out⟩,⟨by (with_reducible repeat (first|refine blk_drewN ?_ _|refine blk_drew ?_|refine blk_alloc ?_ _));exact BK978.out⟩,⟨by repeat (first|(with_reducible first|exact HB.out|apply below_alloc|apply pw_below_drewN|apply below_drew1|refine below_set ?_ GE973.out|refine below_set ?_ GE978.out)|exact HB.out)⟩⟩
              ·rw [if_neg c45] at H
               have c45b0 : decide (x5_4 < (((rd_T88 l0_0 x3_2).f2).length : Int)) = false := decide_eq_false c45
               clear c45
               (first|rw [c45b0]|(simp only [i64_w,i32_w];rw [c45b0])|skip)
               have H' := Aside0.mk H
               clear H
               have hnb48 := NB978_973.out
               have hnc48 := NB973_978.out
               have hcz49_0 : wr.cell? ⟨gb978,0,none⟩ = some (.int .i64 ((rd_T88 l0_0 x3_2).f0)) := (blk_cell BK978.out 0).trans rfl
               have hcz49_1 : wr.cell? ⟨gb978,1,none⟩ = some (.int .i64 ((rd_T88 l0_0 x3_2).f1)) := (blk_cell BK978.out 1).trans rfl
               have hcz49_2 : wr.cell? ⟨gb978,2,none⟩ = some (.slice A977_2 ((rd_T88 l0_0 x3_2).f2).length c977_2) := (blk_cell BK978.out 2).trans rfl
               have hfz49_0 := blk_frozen BK978.out 0
               have hfz49_1 := blk_frozen BK978.out 1
               have hfz49_2 := blk_frozen BK978.out 2
               go_wp2
               go_meet
               case rel => exact ⟨_,(false),(by first|rfl|(simp;done)|(simp [*];done)),H',⟨by have := HJ1.out;have := HK2.out;have := HJ17.out;have := HK4.out;first|omega|exact Nat.le_refl _⟩,⟨by (with_reducible repeat (first|refine blk_drewN ?_ _|refine blk_drew ?_|refine blk_alloc ?_ _));exact BK973.out⟩,⟨by (with_reducible repeat (first|refine blk_drewN ?_ _|refine blk_drew ?_|refine blk_alloc ?_ _));exact BK978.out⟩,⟨by repeat (first|(with_reducible first|exact HB.out|apply below_alloc|apply pw_below_drewN|apply below_drew1|refine below_set ?_ GE973.out|refine below_set ?_ GE978.out)|exact HB.out)⟩⟩
             case rest =>
              clear HC44
              try clear c1
              try clear c2
              try clear p2
              try clear c3
              try clear c4
              try clear c4b0
              try clear c4b1
              try clear c5
              try clear c6
              try clear c6b0
              try clear c6b1
              try clear p6
              try clear c7
              try clear c9
              try clear p9
              try clear q9
              try clear hx9
              try clear c10
              try clear c10b0
              try clear c10b1
              try clear c15
              try clear c16
              try clear c16b0
              try clear c17
              try clear c17b0
              try clear c21
              try clear c24
              try clear c26
              try clear c28
              try clear c29
              try clear c29b0
              try clear c29b1
              try clear c30
              try clear c33
              try clear c36
              try clear c39
              try clear c41
              try clear c43
              try clear c45
              try clear c45b0
              try clear c46
              try clear c48
              try clear hcz12_0
              try clear hcz12_1
              try clear hcz12_2
              try clear hcz12_3
              try clear hcz13_0
              try clear hcz13_1
              try clear hcz13_2
              try clear hcz13_3
              try clear hcz14_0
              try clear hcz14_1
              try clear hcz14_2
              try clear hcz14_3
              try clear hcz19_0
              try clear hcz19_1
              try clear hcz19_2
              try clear hcz19_3
              try clear hcz22_0
              try clear hcz22_1
              try clear hcz22_2
              try clear hcz31_0
              try clear hcz31_1
              try clear hcz31_2
              try clear hcz32_0
              try clear hcz32_1
              try clear hcz32_2
              try clear hcz32_3
              try clear hcz34_0
              try clear hcz34_1
              try clear hcz34_2
              try clear hcz35_0
              try clear hcz35_1
              try clear hcz35_2
              try clear hcz35_3
              try clear hcz37_0
              try clear hcz37_1
              try clear hcz37_2
              try clear hcz38_0
              try clear hcz38_1
              try clear hcz38_2
              try clear hcz38_3
              try clear hcz40_0
              try clear hcz40_1
              try clear hcz40_2
              try clear hcz42_0
              try clear hcz42_1
              try clear hcz42_2
              try clear hcz47_0
              try clear hcz47_1
              try clear hcz47_2
              try clear hcz49_0
              try clear hcz49_1
              try clear hcz49_2
              try clear hcz5_0
              try clear hcz5_1
              try clear hcz5_2
              try clear hcz5_3
              try clear hcz7_0
              try clear hcz7_1
              try clear hcz7_2
              try clear hcz7_3
              try clear hfz12_0
              try clear hfz12_1
              try clear hfz12_2
              try clear hfz12_3
              try clear hfz13_0
              try clear hfz13_1
              try clear hfz13_2
              try clear hfz13_3
              try clear hfz14_0
              try clear hfz14_1
              try clear hfz14_2
              try clear hfz14_3
              try clear hfz19_0
              try clear hfz19_1
              try clear hfz19_2
              try clear hfz19_3
              try clear hfz22_0
              try clear hfz22_1
              try clear hfz22_2
              try clear hfz31_0
              try clear hfz31_1
              try clear hfz31_2
              try clear hfz32_0
              try clear hfz32_1
              try clear hfz32_2
              try clear hfz32_3
              try clear hfz34_0
              try clear hfz34_1
              try clear hfz34_2
              try clear hfz35_0
              try clear hfz35_1
              try clear hfz35_2
              try clear hfz35_3
              try clear hfz37_0
              try clear hfz37_1
              try clear hfz37_2
              try clear hfz38_0
              try clear hfz38_1
              try clear hfz38_2
              try clear hfz38_3
              try clear hfz40_0
              try clear hfz40_1
              try clear hfz40_2
              try clear hfz42_0
              try clear hfz42_1
              try clear hfz42_2
              try clear hfz47_0
              try clear hfz47_1
              try clear hfz47_2
              try clear hfz49_0
              try clear hfz49_1
              try clear hfz49_2
              try clear hfz5_0
              try clear hfz5_1
              try clear hfz5_2
              try clear hfz5_3
              try clear hfz7_0
              try clear hfz7_1
              try clear hfz7_2
              try clear hfz7_3
              try clear hx977_0
              try clear hx977_1
              try clear hx977_2
              try clear p2
              try clear p6
              try clear p9
              try clear p977
              try clear q9
              try clear q977
              obtain ⟨kq,x94_43,rfl,HA,HJ43,BK973,BK978,HB⟩ := hcut
              cases kq with
              | zero => exact absurd HA.out (fun h_ => (by cases h_))
              | succ kj43 =>
               have H := HA.out
               clear HA
               simp only [spec_validMachine.j4] at H
               by_cases c50 : x94_43 = true
               ·subst c50
                have H1 : (if 0 ≤ x5_4 then (if x5_4 < (((rd_T88 l0_0 x3_2).f2).length : Int) then (if 0 ≤ (rd ((rd_T88 l0_0 x3_2).f2) x5_4) then (if (rd ((rd_T88 l0_0 x3_2).f2) x5_4) < (l0_0.length : Int) then ((spec_isKey.f ((rd_T88 l0_0 (rd ((rd_T88 l0_0 x3_2).f2) x5_4)).f0) ((rd_T88 l0_0 (rd ((rd_T88 l0_0 x3_2).f2) x5_4)).f1) ((rd_T88 l0_0 (rd ((rd_T88 l0_0 x3_2).f2) x5_4)).f2)).bind fun t984 => (if t984 = true then (if ((((rd_T88 l0_0 x3_2).f2).length : Int) % 2) = 0 then (spec_validMachine.l1 kj43 x3_2 (wrap64 (x5_4 + 2)) l0_0 l0_1 l0_2 a0_3 ((rd_T88 l0_0 x3_2).f0) ((rd_T88 l0_0 x3_2).f1) ((rd_T88 l0_0 x3_2).f2)) else (some false)) else (some false))) else (none)) else (none)) else (none)) else (none)) = some r := by rw [if_pos rfl] at H;exact H
                clear H
                have H := H1
                clear H1
                by_cases c51 : 0 ≤ x5_4
                ·rw [if_pos c51] at H
                 have c51b0 : decide (0 ≤ x5_4) = true := decide_eq_true c51
                 clear c51
                 by_cases c52 : x5_4 < (((rd_T88 l0_0 x3_2).f2).length : Int)
                 ·rw [if_pos c52] at H
                  have c52b0 : decide (x5_4 < (((rd_T88 l0_0 x3_2).f2).length : Int)) = true := decide_eq_true c52
                  clear c52
                  by_cases c53 : 0 ≤ (rd ((rd_T88 l0_0 x3_2).f2) x5_4)
                  ·rw [if_pos c53] at H
                   have c53b0 : decide (0 ≤ (rd ((rd_T88 l0_0 x3_2).f2) x5_4)) = true := decide_eq_true c53
                   clear c53
                   by_cases c54 : (rd ((rd_T88 l0_0 x3_2).f2) x5_4) < (l0_0.length : Int)
                   ·rw [if_pos c54] at H
                    have c54b0 : decide ((rd ((rd_T88 l0_0 x3_2).f2) x5_4) < (l0_0.length : Int)) = true := decide_eq_true c54
                    clear c54
                    replace H := Option.bind_eq_some_iff.mp H
                    obtain ⟨t984,A550,H⟩ := H
                    replace H : (if t984 = true then (if ((((rd_T88 l0_0 x3_2).f2).length : Int) % 2) = 0 then (spec_validMachine.l1 kj43 x3_2 (wrap64 (x5_4 + 2)) l0_0 l0_1 l0_2 a0_3 ((rd_T88 l0_0 x3_2).f0) ((rd_T88 l0_0 x3_2).f1) ((rd_T88 l0_0 x3_2).f2)) else (some false)) else (some false)) = some r := H
                    have A55 := Aside0.mk A550
                    clear A550
                    by_cases c56 : t984 = true
                    ·subst c56
                     have H1 : (if ((((rd_T88 l0_0 x3_2).f2).length : Int) % 2) = 0 then (spec_validMachine.l1 kj43 x3_2 (wrap64 (x5_4 + 2)) l0_0 l0_1 l0_2 a0_3 ((rd_T88 l0_0 x3_2).f0) ((rd_T88 l0_0 x3_2).f1) ((rd_T88 l0_0 x3_2).f2)) else (some false)) = some r := by rw [if_pos rfl] at H;exact H
                     clear H
                     have H := H1
                     clear H1
                     by_cases c57 : ((((rd_T88 l0_0 x3_2).f2).length : Int) % 2) = 0
                     ·rw [if_pos c57] at H
                      have c57b0 : (((((rd_T88 l0_0 x3_2).f2).length : Int) % 2) == 0) = true := beq_iff_eq.mpr c57
                      have c57b1 : (((((rd_T88 l0_0 x3_2).f2).length : Int) % 2) != 0) = false := bne_eq_false_iff_eq.mpr c57
                      have c57b2 : ((Int.tmod (((rd_T88 l0_0 x3_2).f2).length : Int) 2) != 0) = false := by rw [Int.tmod_eq_emod_of_nonneg (by omega)];exact c57b1
                      clear c57
                      have H' := Aside0.mk H
                      clear H
                      try go_wp2
                      have n0_ := Aside0.mk (blk_drew BK973.out)
                      have n1_ := Aside0.mk (blk_drew BK978.out)
                      have n2_ := Aside0.mk (below_drew1 HB.out)
                      clear BK973
                      clear BK978
                      clear HB
                      have BK973 := n0_
                      have BK978 := n1_
                      have HB := n2_
                      clear n0_ n1_ n2_
                      have p982 : 0 ≤ (x5_4 : Int) := of_decide_eq_true (by first|(with_reducible assumption)|assumption)
                      have q982 : x5_4 < (((rd_T88 l0_0 x3_2).f2).length : Int) := of_decide_eq_true (by first|(with_reducible assumption)|assumption)
                      obtain ⟨ad982,e982,hx982_0⟩ := Kd.at_int HR977_2.out x5_4 p982 q982
                      have hw982_0 := hx982_0
                      cases e982
                      replace hx982_0 := (HB.out.cell (World.block_lt_of_cell? w _ hx982_0)).trans hx982_0
                      replace p982 := eq_true p982
                      replace q982 := eq_true q982
                      have p983 : 0 ≤ ((rd ((rd_T88 l0_0 x3_2).f2) x5_4) : Int) := of_decide_eq_true (by first|(with_reducible assumption)|assumption)
                      have q983 : (rd ((rd_T88 l0_0 x3_2).f2) x5_4) < (l0_0.length : Int) := of_decide_eq_true (by first|(with_reducible assumption)|assumption)
                      obtain ⟨ad983,A983_2,c983_2,e983,hx983_0,hx983_1,hx983_2,hl983_2,hi983_2⟩ := at_T88 HR0_0.out (rd ((rd_T88 l0_0 x3_2).f2) x5_4) p983 q983
                      have hw983_2 := hx983_2
                      have hw983_1 := hx983_1
                      have hw983_0 := hx983_0
                      obtain rfl : ad977 = ad983 := (by injection e983)
                      replace hx983_0 := (HB.out.cell (World.block_lt_of_cell? w _ hx983_0)).trans hx983_0
                      replace hx983_1 := (HB.out.cell (World.block_lt_of_cell? w _ hx983_1)).trans hx983_1
                      replace hx983_2 := (HB.out.cell (World.block_lt_of_cell? w _ hx983_2)).trans hx983_2
                      have HR983_2 := Aside0.mk hi983_2
                      have HC983_2 := Aside0.mk hl983_2
                      clear hi983_2 hl983_2
                      replace p983 := eq_true p983
                      replace q983 := eq_true q983
                      refine start_ (n := 18) (S := fun w' => w'.cell? ⟨gb973,0,none⟩ = some (.slice (some ad977) l0_0.length c0_0) ∧ w'.cell? ⟨gb973,1,none⟩ = some (.slice A0_1 l0_1.length c0_1) ∧ w'.cell? ⟨gb973,2,none⟩ = some (.slice A0_2 l0_2.length c0_2) ∧ w'.cell? ⟨gb973,3,none⟩ = some (.bool a0_3) ∧ w'.cell? ⟨gb978,0,none⟩ = some (.int .i64 ((rd_T88 l0_0 x3_2).f0)) ∧ w'.cell? ⟨gb978,1,none⟩ = some (.int .i64 ((rd_T88 l0_0 x3_2).f1)) ∧ w'.cell? ⟨gb978,2,none⟩ = some (.slice (some ad982) ((rd_T88 l0_0 x3_2).f2).length c977_2) ∧ w'.cell? (ad982.add (x5_4).toNat) = some (.int .i64 (rd ((rd_T88 l0_0 x3_2).f2) x5_4)) ∧ w'.cell? (ad977.add (((rd ((rd_T88 l0_0 x3_2).f2) x5_4)).toNat * 3)) = some (.int .i64 ((rd_T88 l0_0 (rd ((rd_T88 l0_0 x3_2).f2) x5_4)).f0)) ∧ w'.cell? ⟨(ad977.add (((rd ((rd_T88 l0_0 x3_2).f2) x5_4)).toNat * 3)).block,(ad977.add (((rd ((rd_T88 l0_0 x3_2).f2) x5_4)).toNat * 3)).off + 1,none⟩ = some (.int .i64 ((rd_T88 l0_0 (rd ((rd_T88 l0_0 x3_2).f2) x5_4)).f1)) ∧ w'.cell? ⟨(ad977.add (((rd ((rd_T88 l0_0 x3_2).f2) x5_4)).toNat * 3)).block,(ad977.add (((rd ((rd_T88 l0_0 x3_2).f2) x5_4)).toNat * 3)).off + 2,none⟩ = some (.slice A983_2 ((rd_T88 l0_0 (rd ((rd_T88 l0_0 x3_2).f2) x5_4)).f2).length c983_2)) (ds := []) #[false,false,false,false,false,false,false,false,false,false,false,false,false,false,false,false,false,false] (by kernel_rfl) rfl rfl ⟨(blk_cell BK973.out 0).trans rfl,(blk_cell BK973.out 1).trans rfl,(blk_cell BK973.out 2).trans rfl,(blk_cell BK973.out 3).trans rfl,(blk_cell BK978.out 0).trans rfl,(blk_cell BK978.out 1).trans rfl,(blk_cell BK978.out 2).trans rfl,((HB.out.cell (World.block_lt_of_cell? w _ hw982_0)).trans hw982_0),((HB.out.cell (World.block_lt_of_cell? w _ hw983_0)).trans hw983_0),((HB.out.cell (World.block_lt_of_cell? w _ hw983_1)).trans hw983_1),((HB.out.cell (World.block_lt_of_cell? w _ hw983_2)).trans hw983_2)⟩ (fun hHeld => ?_);refine with_tabW spec_validMachine.tab12 spec_validMachine.bits12 (fun HT_ HW_ => ?_)
                      generalize wc.drew = w58 at BK973 BK978 HB HR983_2 hx982_0 hx983_0 hx983_1 hx983_2 hHeld ⊢
                      refine pure_ (i := 0) (N := some 97) (v := ?_) (a' := ?_) #[true,false,false,false,false,false,false,false,false,false,false,false,false,false,false,false,false,false] rfl rfl (any_of HT_.out (by kernel_rfl)) (fun _ _ _ h => h) (Or.inl ⟨by rfl,?_⟩) ?_ ?_
                      rotate_left
                      ·intro w'
                       go_simp
                       with_reducible rfl
                      rotate_left
                      ·simp only [Act.put,List.setIfInBounds_toArray,List.set_cons_zero,List.set_cons_succ,i64_w,i32_w]
                       rfl
                      refine pure_ (i := 2) (N := some 99) (v := ?_) (a' := ?_) #[true,false,true,false,false,false,false,false,false,false,false,false,false,false,false,false,false,false] rfl rfl (any_of HT_.out (by kernel_rfl)) (fun _ _ _ h => h) (Or.inl ⟨by rfl,?_⟩) ?_ ?_
                      rotate_left
                      ·intro w'
                       go_simp
                       with_reducible rfl
                      rotate_left
                      ·simp only [Act.put,List.setIfInBounds_toArray,List.set_cons_zero,List.set_cons_succ,i64_w,i32_w]
                       rfl
                      refine pure_ (i := 4) (N := some 101) (v := ?_) (a' := ?_) #[true,false,true,false,true,false,false,false,false,false,false,false,false,false,false,false,false,false] rfl rfl (any_of HT_.out (by kernel_rfl)) (fun _ _ _ h => h) (Or.inl ⟨by rfl,?_⟩) ?_ ?_
                      rotate_left
                      ·intro w'
                       go_simp
                       with_reducible rfl
                      rotate_left
                      ·simp only [Act.put,List.setIfInBounds_toArray,List.set_cons_zero,List.set_cons_succ,i64_w,i32_w]
                       rfl
                      refine take_ (i := 1) (N := some 98) (v := ?_) (a' := ?_) #[true,true,true,false,true,false,false,false,false,false,false,false,false,false,false,false,false,false] rfl rfl (take_ofW HT_.out HW_.out (by kernel_rfl)) (fun _ _ _ h => h) (Or.inl ⟨by rfl,?_⟩) hHeld ?_ ?_
                      rotate_left
                      ·rintro w' ⟨s0,s1,s2,s3,s4,s5,s6,s7,s8,s9,s10⟩
                       go_simp
                       with_reducible rfl
                      rotate_left
                      ·simp only [Act.put,List.setIfInBounds_toArray,List.set_cons_zero,List.set_cons_succ,i64_w,i32_w]
                       rfl
                      refine take_ (i := 3) (N := some 100) (v := ?_) (a' := ?_) #[true,true,true,true,true,false,false,false,false,false,false,false,false,false,false,false,false,false] rfl rfl (take_ofW HT_.out HW_.out (by kernel_rfl)) (fun _ _ _ h => h) (Or.inl ⟨by rfl,?_⟩) hHeld ?_ ?_
                      rotate_left
                      ·rintro w' ⟨s0,s1,s2,s3,s4,s5,s6,s7,s8,s9,s10⟩
                       go_simp
                       with_reducible rfl
                      rotate_left
                      ·simp only [Act.put,List.setIfInBounds_toArray,List.set_cons_zero,List.set_cons_succ,i64_w,i32_w]
                       rfl
                      refine pure_ (i := 5) (N := some 102) (v := ?_) (a' := ?_) #[true,true,true,true,true,true,false,false,false,false,false,false,false,false,false,false,false,false] rfl rfl (any_of HT_.out (by kernel_rfl)) (fun _ _ _ h => h) (Or.inl ⟨by rfl,?_⟩) ?_ ?_
                      rotate_left
                      ·intro w'
                       go_simp
                       with_reducible rfl
                      rotate_left
                      ·simp only [Act.put,List.setIfInBounds_toArray,List.set_cons_zero,List.set_cons_succ,i64_w,i32_w]
                       rfl
                      refine take_ (i := 6) (N := some 103) (v := ?_) (a' := ?_) #[true,true,true,true,true,true,true,false,false,false,false,false,false,false,false,false,false,false] rfl rfl (take_ofW HT_.out HW_.out (by kernel_rfl)) (fun _ _ _ h => h) (Or.inl ⟨by rfl,?_⟩) hHeld ?_ ?_
                      rotate_left
                      ·rintro w' ⟨s0,s1,s2,s3,s4,s5,s6,s7,s8,s9,s10⟩
                       go_simp
                       with_reducible rfl
                      rotate_left
                      ·simp only [Act.put,List.setIfInBounds_toArray,List.set_cons_zero,List.set_cons_succ,i64_w,i32_w]
                       rfl
                      refine pure_ (i := 7) (N := some 104) (v := ?_) (a' := ?_) #[true,true,true,true,true,true,true,true,false,false,false,false,false,false,false,false,false,false] rfl rfl (any_of HT_.out (by kernel_rfl)) (fun _ _ _ h => h) (Or.inl ⟨by rfl,?_⟩) ?_ ?_
                      rotate_left
                      ·intro w'
                       go_simp
                       with_reducible rfl
                      rotate_left
                      ·simp only [Act.put,List.setIfInBounds_toArray,List.set_cons_zero,List.set_cons_succ,i64_w,i32_w]
                       rfl
                      refine take_ (i := 8) (N := some 105) (v := ?_) (a' := ?_) #[true,true,true,true,true,true,true,true,true,false,false,false,false,false,false,false,false,false] rfl rfl (take_ofW HT_.out HW_.out (by kernel_rfl)) (fun _ _ _ h => h) (Or.inl ⟨by rfl,?_⟩) hHeld ?_ ?_
                      rotate_left
                      ·rintro w' ⟨s0,s1,s2,s3,s4,s5,s6,s7,s8,s9,s10⟩
                       go_simp
                       with_reducible rfl
                      rotate_left
                      ·simp only [Act.put,List.setIfInBounds_toArray,List.set_cons_zero,List.set_cons_succ,i64_w,i32_w]
                       rfl
                      refine one_ (i := 9) (N := some 106) #[true,true,true,true,true,true,true,true,true,true,false,false,false,false,false,false,false,false] rfl rfl (one_of HT_.out (by kernel_rfl)) (by decide) (fun K hK => ?_)
                      refine goes_ Try.func112 (by kernel_rfl) rfl #[.agg #[.int .i64 ((rd_T88 l0_0 (rd ((rd_T88 l0_0 x3_2).f2) x5_4)).f0),.int .i64 ((rd_T88 l0_0 (rd ((rd_T88 l0_0 x3_2).f2) x5_4)).f1),.slice A983_2 ((rd_T88 l0_0 (rd ((rd_T88 l0_0 x3_2).f2) x5_4)).f2).length c983_2]] (by rfl) rfl rfl (by (try simp only [List.map_toArray,List.map_cons,List.map_nil]);first|done|rfl|(simp only [List.length_drop,List.length_take];rfl)) ?_
                      with_reducible refine (spec_isKey.calls ((rd_T88 l0_0 (rd ((rd_T88 l0_0 x3_2).f2) x5_4)).f0) ((rd_T88 l0_0 (rd ((rd_T88 l0_0 x3_2).f2) x5_4)).f1) _ _ ((rd_T88 l0_0 (rd ((rd_T88 l0_0 x3_2).f2) x5_4)).f2) true _ ?side1 ?side2 A55.out).mono ?_
                      (case side1 => repeat (first|exact (Kd.C_below HR983_2.out HB.out)|(with_reducible refine Kd.C_alloc ?_ _)|(with_reducible refine Kd.C_drewN ?_ _)|(with_reducible refine Kd.C_drew ?_)))
                      (case side2 => exact HC983_2.out)
                      rintro e w59 ⟨rfl,hb⟩
                      refine ⟨_,rfl,?_⟩
                      have n0_ := Aside0.mk (blk_below (g := gb973) (o := .cells #[.slice (some ad977) l0_0.length c0_0,.slice A0_1 l0_1.length c0_1,.slice A0_2 l0_2.length c0_2,.bool a0_3] 56 (0,0)) (by (with_reducible repeat (first|refine blk_drewN ?_ _|refine blk_drew ?_|refine blk_alloc ?_ _));exact BK973.out) hb)
                      have n1_ := Aside0.mk (blk_below (g := gb978) (o := .cells #[.int .i64 ((rd_T88 l0_0 x3_2).f0),.int .i64 ((rd_T88 l0_0 x3_2).f1),.slice (some ad982) ((rd_T88 l0_0 x3_2).f2).length c977_2] 88 (0,0)) (by (with_reducible repeat (first|refine blk_drewN ?_ _|refine blk_drew ?_|refine blk_alloc ?_ _));exact BK978.out) hb)
                      have n2_ := Aside0.mk (below_step (by repeat (first|(with_reducible first|exact HB.out|apply below_alloc|apply pw_below_drewN|apply below_drew1|refine below_set ?_ GE973.out|refine below_set ?_ GE978.out)|exact HB.out)) hb)
                      clear BK973
                      clear BK978
                      clear HB
                      have BK973 := n0_
                      have BK978 := n1_
                      have HB := n2_
                      clear n0_ n1_ n2_
                      (try clear hb)
                      (try clear hb2)
                      (try clear hk)
                      (try clear hi)
                      refine hK.out _ _ ⟨(blk_cell BK973.out 0).trans rfl,(blk_cell BK973.out 1).trans rfl,(blk_cell BK973.out 2).trans rfl,(blk_cell BK973.out 3).trans rfl,(blk_cell BK978.out 0).trans rfl,(blk_cell BK978.out 1).trans rfl,(blk_cell BK978.out 2).trans rfl,((HB.out.cell (World.block_lt_of_cell? w _ hw982_0)).trans hw982_0),((HB.out.cell (World.block_lt_of_cell? w _ hw983_0)).trans hw983_0),((HB.out.cell (World.block_lt_of_cell? w _ hw983_1)).trans hw983_1),((HB.out.cell (World.block_lt_of_cell? w _ hw983_2)).trans hw983_2)⟩ (fun hHeld => ?_)
                      clear hK K
                      refine norm_ (a' := ?_) ?_ ?_
                      rotate_left
                      ·show Act.put _ (some 106) _ = _
                       simp only [Act.put,List.setIfInBounds_toArray,List.set_cons_zero,List.set_cons_succ,i64_w,i32_w]
                       rfl
                      refine pure_ (i := 10) (N := some 107) (v := ?_) (a' := ?_) #[true,true,true,true,true,true,true,true,true,true,true,false,false,false,false,false,false,false] rfl rfl (any_of HT_.out (by kernel_rfl)) (fun _ _ _ h => h) (Or.inl ⟨by rfl,?_⟩) ?_ ?_
                      rotate_left
                      ·intro w'
                       go_simp
                       with_reducible rfl
                      rotate_left
                      ·simp only [Act.put,List.setIfInBounds_toArray,List.set_cons_zero,List.set_cons_succ,i64_w,i32_w]
                       rfl
                      refine pure_ (i := 11) (N := some 108) (v := ?_) (a' := ?_) #[true,true,true,true,true,true,true,true,true,true,true,true,false,false,false,false,false,false] rfl rfl (any_of HT_.out (by kernel_rfl)) (fun _ _ _ h => h) (Or.inl ⟨by rfl,?_⟩) ?_ ?_
                      rotate_left
                      ·intro w'
                       go_simp
                       with_reducible rfl
                      rotate_left
                      ·simp only [Act.put,List.setIfInBounds_toArray,List.set_cons_zero,List.set_cons_succ,i64_w,i32_w]
                       rfl
                      refine pure_ (i := 12) (N := some 109) (v := ?_) (a' := ?_) #[true,true,true,true,true,true,true,true,true,true,true,true,true,false,false,false,false,false] rfl rfl (any_of HT_.out (by kernel_rfl)) (fun _ _ _ h => h) (Or.inl ⟨by rfl,?_⟩) ?_ ?_
                      rotate_left
                      ·intro w'
                       go_simp
                       with_reducible rfl
                      rotate_left
                      ·simp only [Act.put,List.setIfInBounds_toArray,List.set_cons_zero,List.set_cons_succ,i64_w,i32_w]
                       rfl
                      refine take_ (i := 13) (N := some 110) (v := ?_) (a' := ?_) #[true,true,true,true,true,true,true,true,true,true,true,true,true,true,false,false,false,false] rfl rfl (take_ofW HT_.out HW_.out (by kernel_rfl)) (fun _ _ _ h => h) (Or.inl ⟨by rfl,?_⟩) hHeld ?_ ?_
                      rotate_left
                      ·rintro w' ⟨s0,s1,s2,s3,s4,s5,s6,s7,s8,s9,s10⟩
                       go_simp
                       with_reducible rfl
                      rotate_left
                      ·simp only [Act.put,List.setIfInBounds_toArray,List.set_cons_zero,List.set_cons_succ,i64_w,i32_w]
                       rfl
                      refine pure_ (i := 14) (N := some 111) (v := ?_) (a' := ?_) #[true,true,true,true,true,true,true,true,true,true,true,true,true,true,true,false,false,false] rfl rfl (any_of HT_.out (by kernel_rfl)) (fun _ _ _ h => h) (Or.inl ⟨by rfl,?_⟩) ?_ ?_
                      rotate_left
                      ·intro w'
                       go_simp
                       with_reducible rfl
                      rotate_left
                      ·simp only [Act.put,List.setIfInBounds_toArray,List.set_cons_zero,List.set_cons_succ,i64_w,i32_w]
                       rfl
                      refine pure_ (i := 15) (N := some 112) (v := ?_) (a' := ?_) #[true,true,true,true,true,true,true,true,true,true,true,true,true,true,true,true,false,false] rfl rfl (any_of HT_.out (by kernel_rfl)) (fun _ _ _ h => h) (Or.inl ⟨by rfl,?_⟩) ?_ ?_
                      rotate_left
                      ·intro w'
                       go_simp
                       with_reducible rfl
                      rotate_left
                      ·simp only [Act.put,List.setIfInBounds_toArray,List.set_cons_zero,List.set_cons_succ,i64_w,i32_w]
                       rfl
                      refine pure_ (i := 16) (N := some 113) (v := ?_) (a' := ?_) #[true,true,true,true,true,true,true,true,true,true,true,true,true,true,true,true,true,false] rfl rfl (any_of HT_.out (by kernel_rfl)) (fun _ _ _ h => h) (Or.inl ⟨by rfl,?_⟩) ?_ ?_
                      rotate_left
                      ·intro w'
                       go_simp
                       with_reducible rfl
                      rotate_left
                      ·simp only [Act.put,List.setIfInBounds_toArray,List.set_cons_zero,List.set_cons_succ,i64_w,i32_w]
                       rfl
                      refine pure_ (i := 17) (N := some 114) (v := ?_) (a' := ?_) #[true,true,true,true,true,true,true,true,true,true,true,true,true,true,true,true,true,true] rfl rfl (any_of HT_.out (by kernel_rfl)) (fun _ _ _ h => h) (Or.inl ⟨by rfl,?_⟩) ?_ ?_
                      rotate_left
                      ·intro w'
                       go_simp
                       with_reducible rfl
                      rotate_left
                      ·simp only [Act.put,List.setIfInBounds_toArray,List.set_cons_zero,List.set_cons_succ,i64_w,i32_w]
                       rfl
                      refine done_ (done_of HT_.out (by kernel_rfl)) ?_
                      try go_wp2
                      go_roundg kj43
                      case measure => have := HJ1.out;have := HK2.out;have := HJ17.out;have := HK4.out;have := HJ43.out;omega
                      case rel => exact ⟨(wrap64 (x5_4 + 2)),(by first|rfl|(simp;done)|(simp [*];done)),H',⟨by have := HJ1.out;have := HK2.out;have := HJ17.out;have := HK4.out;have := HJ43.out;omega⟩,⟨by (with_reducible repeat (first|refine blk_drewN ?_ _|refine blk_drew ?_|refine blk_alloc ?_ _));exact BK973.out⟩,⟨by (with_reducible repeat (first|refine blk_drewN ?_ _|refine blk_drew ?_|refine blk_alloc ?_ _));exact BK978.out⟩,⟨by repeat (first|(with_reducible first|exact HB.out|apply below_alloc|apply pw_below_drewN|apply below_drew1|refine below_set ?_ GE973.out|refine below_set ?_ GE978.out)|exact HB.out)⟩⟩
                     ·rw [if_neg c57] at H
                      have c57b0 : (((((rd_T88 l0_0 x3_2).f2).length : Int) % 2) == 0) = false := beq_eq_false_iff_ne.mpr c57
                      have c57b1 : (((((rd_T88 l0_0 x3_2).f2).length : Int) % 2) != 0) = true := bne_iff_ne.mpr c57
                      have c57b2 : ((Int.tmod (((rd_T88 l0_0 x3_2).f2).length : Int) 2) != 0) = true := by rw [Int.tmod_eq_emod_of_nonneg (by omega)];exact c57b1
                      obtain rfl := Option.some.inj H
                      try go_wp2
                      have n0_ := Aside0.mk (blk_drew BK973.out)
                      have n1_ := Aside0.mk (blk_drew BK978.out)
                      have n2_ := Aside0.mk (below_drew1 HB.out)
                      clear BK973
                      clear BK978
                      clear HB
                      have BK973 := n0_
                      have BK978 := n1_
                      have HB := n2_
                      clear n0_ n1_ n2_
                      have p982 : 0 ≤ (x5_4 : Int) := of_decide_eq_true (by first|(with_reducible assumption)|assumption)
                      have q982 : x5_4 < (((rd_T88 l0_0 x3_2).f2).length : Int) := of_decide_eq_true (by first|(with_reducible assumption)|assumption)
                      obtain ⟨ad982,e982,hx982_0⟩ := Kd.at_int HR977_2.out x5_4 p982 q982
                      have hw982_0 := hx982_0
                      cases e982
                      replace hx982_0 := (HB.out.cell (World.block_lt_of_cell? w _ hx982_0)).trans hx982_0
                      replace p982 := eq_true p982
                      replace q982 := eq_true q982
                      have p983 : 0 ≤ ((rd ((rd_T88 l0_0 x3_2).f2) x5_4) : Int) := of_decide_eq_true (by first|(with_reducible assumption)|assumption)
                      have q983 : (rd ((rd_T88 l0_0 x3_2).f2) x5_4) < (l0_0.length : Int) := of_decide_eq_true (by first|(with_reducible assumption)|assumption)
                      obtain ⟨ad983,A983_2,c983_2,e983,hx983_0,hx983_1,hx983_2,hl983_2,hi983_2⟩ := at_T88 HR0_0.out (rd ((rd_T88 l0_0 x3_2).f2) x5_4) p983 q983
                      have hw983_2 := hx983_2
                      have hw983_1 := hx983_1
                      have hw983_0 := hx983_0
                      obtain rfl : ad977 = ad983 := (by injection e983)
                      replace hx983_0 := (HB.out.cell (World.block_lt_of_cell? w _ hx983_0)).trans hx983_0
                      replace hx983_1 := (HB.out.cell (World.block_lt_of_cell? w _ hx983_1)).trans hx983_1
                      replace hx983_2 := (HB.out.cell (World.block_lt_of_cell? w _ hx983_2)).trans hx983_2
                      have HR983_2 := Aside0.mk hi983_2
                      have HC983_2 := Aside0.mk hl983_2
                      clear hi983_2 hl983_2
                      replace p983 := eq_true p983
                      replace q983 := eq_true q983
                      refine start_ (n := 18) (S := fun w' => w'.cell? ⟨gb973,0,none⟩ = some (.slice (some ad977) l0_0.length c0_0) ∧ w'.cell? ⟨gb973,1,none⟩ = some (.slice A0_1 l0_1.length c0_1) ∧ w'.cell? ⟨gb973,2,none⟩ = some (.slice A0_2 l0_2.length c0_2) ∧ w'.cell? ⟨gb973,3,none⟩ = some (.bool a0_3) ∧ w'.cell? ⟨gb978,0,none⟩ = some (.int .i64 ((rd_T88 l0_0 x3_2).f0)) ∧ w'.cell? ⟨gb978,1,none⟩ = some (.int .i64 ((rd_T88 l0_0 x3_2).f1)) ∧ w'.cell? ⟨gb978,2,none⟩ = some (.slice (some ad982) ((rd_T88 l0_0 x3_2).f2).length c977_2) ∧ w'.cell? (ad982.add (x5_4).toNat) = some (.int .i64 (rd ((rd_T88 l0_0 x3_2).f2) x5_4)) ∧ w'.cell? (ad977.add (((rd ((rd_T88 l0_0 x3_2).f2) x5_4)).toNat * 3)) = some (.int .i64 ((rd_T88 l0_0 (rd ((rd_T88 l0_0 x3_2).f2) x5_4)).f0)) ∧ w'.cell? ⟨(ad977.add (((rd ((rd_T88 l0_0 x3_2).f2) x5_4)).toNat * 3)).block,(ad977.add (((rd ((rd_T88 l0_0 x3_2).f2) x5_4)).toNat * 3)).off + 1,none⟩ = some (.int .i64 ((rd_T88 l0_0 (rd ((rd_T88 l0_0 x3_2).f2) x5_4)).f1)) ∧ w'.cell? ⟨(ad977.add (((rd ((rd_T88 l0_0 x3_2).f2) x5_4)).toNat * 3)).block,(ad977.add (((rd ((rd_T88 l0_0 x3_2).f2) x5_4)).toNat * 3)).off + 2,none⟩ = some (.slice A983_2 ((rd_T88 l0_0 (rd ((rd_T88 l0_0 x3_2).f2) x5_4)).f2).length c983_2)) (ds := []) #[false,false,false,false,false,false,false,false,false,false,false,false,false,false,false,false,false,false] (by kernel_rfl) rfl rfl ⟨(blk_cell BK973.out 0).trans rfl,(blk_cell BK973.out 1).trans rfl,(blk_cell BK973.out 2).trans rfl,(blk_cell BK973.out 3).trans rfl,(blk_cell BK978.out 0).trans rfl,(blk_cell BK978.out 1).trans rfl,(blk_cell BK978.out 2).trans rfl,((HB.out.cell (World.block_lt_of_cell? w _ hw982_0)).trans hw982_0),((HB.out.cell (World.block_lt_of_cell? w _ hw983_0)).trans hw983_0),((HB.out.cell (World.block_lt_of_cell? w _ hw983_1)).trans hw983_1),((HB.out.cell (World.block_lt_of_cell? w _ hw983_2)).trans hw983_2)⟩ (fun hHeld => ?_);refine with_tabW spec_validMachine.tab12 spec_validMachine.bits12 (fun HT_ HW_ => ?_)
                      generalize wc.drew = w60 at BK973 BK978 HB HR983_2 hx982_0 hx983_0 hx983_1 hx983_2 hHeld ⊢
                      refine pure_ (i := 0) (N := some 97) (v := ?_) (a' := ?_) #[true,false,false,false,false,false,false,false,false,false,false,false,false,false,false,false,false,false] rfl rfl (any_of HT_.out (by kernel_rfl)) (fun _ _ _ h => h) (Or.inl ⟨by rfl,?_⟩) ?_ ?_
                      rotate_left
                      ·intro w'
                       go_simp
                       with_reducible rfl
                      rotate_left
                      ·simp only [Act.put,List.setIfInBounds_toArray,List.set_cons_zero,List.set_cons_succ,i64_w,i32_w]
                       rfl
                      refine pure_ (i := 2) (N := some 99) (v := ?_) (a' := ?_) #[true,false,true,false,false,false,false,false,false,false,false,false,false,false,false,false,false,false] rfl rfl (any_of HT_.out (by kernel_rfl)) (fun _ _ _ h => h) (Or.inl ⟨by rfl,?_⟩) ?_ ?_
                      rotate_left
                      ·intro w'
                       go_simp
                       with_reducible rfl
                      rotate_left
                      ·simp only [Act.put,List.setIfInBounds_toArray,List.set_cons_zero,List.set_cons_succ,i64_w,i32_w]
                       rfl
                      refine pure_ (i := 4) (N := some 101) (v := ?_) (a' := ?_) #[true,false,true,false,true,false,false,false,false,false,false,false,false,false,false,false,false,false] rfl rfl (any_of HT_.out (by kernel_rfl)) (fun _ _ _ h => h) (Or.inl ⟨by rfl,?_⟩) ?_ ?_
                      rotate_left
                      ·intro w'
                       go_simp
                       with_reducible rfl
                      rotate_left
                      ·simp only [Act.put,List.setIfInBounds_toArray,List.set_cons_zero,List.set_cons_succ,i64_w,i32_w]
                       rfl
                      refine take_ (i := 1) (N := some 98) (v := ?_) (a' := ?_) #[true,true,true,false,true,false,false,false,false,false,false,false,false,false,false,false,false,false] rfl rfl (take_ofW HT_.out HW_.out (by kernel_rfl)) (fun _ _ _ h => h) (Or.inl ⟨by rfl,?_⟩) hHeld ?_ ?_
                      rotate_left
                      ·rintro w' ⟨s0,s1,s2,s3,s4,s5,s6,s7,s8,s9,s10⟩
                       go_simp
                       with_reducible rfl
                      rotate_left
                      ·simp only [Act.put,List.setIfInBounds_toArray,List.set_cons_zero,List.set_cons_succ,i64_w,i32_w]
                       rfl
                      refine take_ (i := 3) (N := some 100) (v := ?_) (a' := ?_) #[true,true,true,true,true,false,false,false,false,false,false,false,false,false,false,false,false,false] rfl rfl (take_ofW HT_.out HW_.out (by kernel_rfl)) (fun _ _ _ h => h) (Or.inl ⟨by rfl,?_⟩) hHeld ?_ ?_
                      rotate_left
                      ·rintro w' ⟨s0,s1,s2,s3,s4,s5,s6,s7,s8,s9,s10⟩
                       go_simp
                       with_reducible rfl
                      rotate_left
                      ·simp only [Act.put,List.setIfInBounds_toArray,List.set_cons_zero,List.set_cons_succ,i64_w,i32_w]
                       rfl
                      refine pure_ (i := 5) (N := some 102) (v := ?_) (a' := ?_) #[true,true,true,true,true,true,false,false,false,false,false,false,false,false,false,false,false,false] rfl rfl (any_of HT_.out (by kernel_rfl)) (fun _ _ _ h => h) (Or.inl ⟨by rfl,?_⟩) ?_ ?_
                      rotate_left
                      ·intro w'
                       go_simp
                       with_reducible rfl
                      rotate_left
                      ·simp only [Act.put,List.setIfInBounds_toArray,List.set_cons_zero,List.set_cons_succ,i64_w,i32_w]
                       rfl
                      refine take_ (i := 6) (N := some 103) (v := ?_) (a' := ?_) #[true,true,true,true,true,true,true,false,false,false,false,false,false,false,false,false,false,false] rfl rfl (take_ofW HT_.out HW_.out (by kernel_rfl)) (fun _ _ _ h => h) (Or.inl ⟨by rfl,?_⟩) hHeld ?_ ?_
                      rotate_left
                      ·rintro w' ⟨s0,s1,s2,s3,s4,s5,s6,s7,s8,s9,s10⟩
                       go_simp
                       with_reducible rfl
                      rotate_left
                      ·simp only [Act.put,List.setIfInBounds_toArray,List.set_cons_zero,List.set_cons_succ,i64_w,i32_w]
                       rfl
                      refine pure_ (i := 7) (N := some 104) (v := ?_) (a' := ?_) #[true,true,true,true,true,true,true,true,false,false,false,false,false,false,false,false,false,false] rfl rfl (any_of HT_.out (by kernel_rfl)) (fun _ _ _ h => h) (Or.inl ⟨by rfl,?_⟩) ?_ ?_
                      rotate_left
                      ·intro w'
                       go_simp
                       with_reducible rfl
                      rotate_left
                      ·simp only [Act.put,List.setIfInBounds_toArray,List.set_cons_zero,List.set_cons_succ,i64_w,i32_w]
                       rfl
                      refine take_ (i := 8) (N := some 105) (v := ?_) (a' := ?_) #[true,true,true,true,true,true,true,true,true,false,false,false,false,false,false,false,false,false] rfl rfl (take_ofW HT_.out HW_.out (by kernel_rfl)) (fun _ _ _ h => h) (Or.inl ⟨by rfl,?_⟩) hHeld ?_ ?_
                      rotate_left
                      ·rintro w' ⟨s0,s1,s2,s3,s4,s5,s6,s7,s8,s9,s10⟩
                       go_simp
                       with_reducible rfl
                      rotate_left
                      ·simp only [Act.put,List.setIfInBounds_toArray,List.set_cons_zero,List.set_cons_succ,i64_w,i32_w]
                       rfl
                      refine one_ (i := 9) (N := some 106) #[true,true,true,true,true,true,true,true,true,true,false,false,false,false,false,false,false,false] rfl rfl (one_of HT_.out (by kernel_rfl)) (by decide) (fun K hK => ?_)
                      refine goes_ Try.func112 (by kernel_rfl) rfl #[.agg #[.int .i64 ((rd_T88 l0_0 (rd ((rd_T88 l0_0 x3_2).f2) x5_4)).f0),.int .i64 ((rd_T88 l0_0 (rd ((rd_T88 l0_0 x3_2).f2) x5_4)).f1),.slice A983_2 ((rd_T88 l0_0 (rd ((rd_T88 l0_0 x3_2).f2) x5_4)).f2).length c983_2]] (by rfl) rfl rfl (by (try simp only [List.map_toArray,List.map_cons,List.map_nil]);first|done|rfl|(simp only [List.length_drop,List.length_take];rfl)) ?_
                      with_reducible refine (spec_isKey.calls ((rd_T88 l0_0 (rd ((rd_T88 l0_0 x3_2).f2) x5_4)).f0) ((rd_T88 l0_0 (rd ((rd_T88 l0_0 x3_2).f2) x5_4)).f1) _ _ ((rd_T88 l0_0 (rd ((rd_T88 l0_0 x3_2).f2) x5_4)).f2) true _ ?side1 ?side2 A55.out).mono ?_
                      (case side1 => repeat (first|exact (Kd.C_below HR983_2.out HB.out)|(with_reducible refine Kd.C_alloc ?_ _)|(with_reducible refine Kd.C_drewN ?_ _)|(with_reducible refine Kd.C_drew ?_)))
                      (case side2 => exact HC983_2.out)
                      rintro e w61 ⟨rfl,hb⟩
                      refine ⟨_,rfl,?_⟩
                      have n0_ := Aside0.mk (blk_below (g := gb973) (o := .cells #[.slice (some ad977) l0_0.length c0_0,.slice A0_1 l0_1.length c0_1,.slice A0_2 l0_2.length c0_2,.bool a0_3] 56 (0,0)) (by (with_reducible repeat (first|refine blk_drewN ?_ _|refine blk_drew ?_|refine blk_alloc ?_ _));exact BK973.out) hb)
                      have n1_ := Aside0.mk (blk_below (g := gb978) (o := .cells #[.int .i64 ((rd_T88 l0_0 x3_2).f0),.int .i64 ((rd_T88 l0_0 x3_2).f1),.slice (some ad982) ((rd_T88 l0_0 x3_2).f2).length c977_2] 88 (0,0)) (by (with_reducible repeat (first|refine blk_drewN ?_ _|refine blk_drew ?_|refine blk_alloc ?_ _));exact BK978.out) hb)
                      have n2_ := Aside0.mk (below_step (by repeat (first|(with_reducible first|exact HB.out|apply below_alloc|apply pw_below_drewN|apply below_drew1|refine below_set ?_ GE973.out|refine below_set ?_ GE978.out)|exact HB.out)) hb)
                      clear BK973
                      clear BK978
                      clear HB
                      have BK973 := n0_
                      have BK978 := n1_
                      have HB := n2_
                      clear n0_ n1_ n2_
                      (try clear hb)
                      (try clear hb2)
                      (try clear hk)
                      (try clear hi)
                      refine hK.out _ _ ⟨(blk_cell BK973.out 0).trans rfl,(blk_cell BK973.out 1).trans rfl,(blk_cell BK973.out 2).trans rfl,(blk_cell BK973.out 3).trans rfl,(blk_cell BK978.out 0).trans rfl,(blk_cell BK978.out 1).trans rfl,(blk_cell BK978.out 2).trans rfl,((HB.out.cell (World.block_lt_of_cell? w _ hw982_0)).trans hw982_0),((HB.out.cell (World.block_lt_of_cell? w _ hw983_0)).trans hw983_0),((HB.out.cell (World.block_lt_of_cell? w _ hw983_1)).trans hw983_1),((HB.out.cell (World.block_lt_of_cell? w _ hw983_2)).trans hw983_2)⟩ (fun hHeld => ?_)
                      clear hK K
                      refine norm_ (a' := ?_) ?_ ?_
                      rotate_left
                      ·show Act.put _ (some 106) _ = _
                       simp only [Act.put,List.setIfInBounds_toArray,List.set_cons_zero,List.set_cons_succ,i64_w,i32_w]
                       rfl
                      refine pure_ (i := 10) (N := some 107) (v := ?_) (a' := ?_) #[true,true,true,true,true,true,true,true,true,true,true,false,false,false,false,false,false,false] rfl rfl (any_of HT_.out (by kernel_rfl)) (fun _ _ _ h => h) (Or.inl ⟨by rfl,?_⟩) ?_ ?_
                      rotate_left
                      ·intro w'
                       go_simp
                       with_reducible rfl
                      rotate_left
                      ·simp only [Act.put,List.setIfInBounds_toArray,List.set_cons_zero,List.set_cons_succ,i64_w,i32_w]
                       rfl
                      refine pure_ (i := 11) (N := some 108) (v := ?_) (a' := ?_) #[true,true,true,true,true,true,true,true,true,true,true,true,false,false,false,false,false,false] rfl rfl (any_of HT_.out (by kernel_rfl)) (fun _ _ _ h => h) (Or.inl ⟨by rfl,?_⟩) ?_ ?_
                      rotate_left
                      ·intro w'
                       go_simp
                       with_reducible rfl
                      rotate_left
                      ·simp only [Act.put,List.setIfInBounds_toArray,List.set_cons_zero,List.set_cons_succ,i64_w,i32_w]
                       rfl
                      refine pure_ (i := 12) (N := some 109) (v := ?_) (a' := ?_) #[true,true,true,true,true,true,true,true,true,true,true,true,true,false,false,false,false,false] rfl rfl (any_of HT_.out (by kernel_rfl)) (fun _ _ _ h => h) (Or.inl ⟨by rfl,?_⟩) ?_ ?_
                      rotate_left
                      ·intro w'
                       go_simp
                       with_reducible rfl
                      rotate_left
                      ·simp only [Act.put,List.setIfInBounds_toArray,List.set_cons_zero,List.set_cons_succ,i64_w,i32_w]
                       rfl
                      refine take_ (i := 13) (N := some 110) (v := ?_) (a' := ?_) #[true,true,true,true,true,true,true,true,true,true,true,true,true,true,false,false,false,false] rfl rfl (take_ofW HT_.out HW_.out (by kernel_rfl)) (fun _ _ _ h => h) (Or.inl ⟨by rfl,?_⟩) hHeld ?_ ?_
                      rotate_left
                      ·rintro w' ⟨s0,s1,s2,s3,s4,s5,s6,s7,s8,s9,s10⟩
                       go_simp
                       with_reducible rfl
                      rotate_left
                      ·simp only [Act.put,List.setIfInBounds_toArray,List.set_cons_zero,List.set_cons_succ,i64_w,i32_w]
                       rfl
                      refine pure_ (i := 14) (N := some 111) (v := ?_) (a' := ?_) #[true,true,true,true,true,true,true,true,true,true,true,true,true,true,true,false,false,false] rfl rfl (any_of HT_.out (by kernel_rfl)) (fun _ _ _ h => h) (Or.inl ⟨by rfl,?_⟩) ?_ ?_
                      rotate_left
                      ·intro w'
                       go_simp
                       with_reducible rfl
                      rotate_left
                      ·simp only [Act.put,List.setIfInBounds_toArray,List.set_cons_zero,List.set_cons_succ,i64_w,i32_w]
                       rfl
                      refine pure_ (i := 15) (N := some 112) (v := ?_) (a' := ?_) #[true,true,true,true,true,true,true,true,true,true,true,true,true,true,true,true,false,false] rfl rfl (any_of HT_.out (by kernel_rfl)) (fun _ _ _ h => h) (Or.inl ⟨by rfl,?_⟩) ?_ ?_
                      rotate_left
                      ·intro w'
                       go_simp
                       with_reducible rfl
                      rotate_left
                      ·simp only [Act.put,List.setIfInBounds_toArray,List.set_cons_zero,List.set_cons_succ,i64_w,i32_w]
                       rfl
                      refine pure_ (i := 16) (N := some 113) (v := ?_) (a' := ?_) #[true,true,true,true,true,true,true,true,true,true,true,true,true,true,true,true,true,false] rfl rfl (any_of HT_.out (by kernel_rfl)) (fun _ _ _ h => h) (Or.inl ⟨by rfl,?_⟩) ?_ ?_
                      rotate_left
                      ·intro w'
                       go_simp
                       with_reducible rfl
                      rotate_left
                      ·simp only [Act.put,List.setIfInBounds_toArray,List.set_cons_zero,List.set_cons_succ,i64_w,i32_w]
                       rfl
                      refine pure_ (i := 17) (N := some 114) (v := ?_) (a' := ?_) #[true,true,true,true,true,true,true,true,true,true,true,true,true,true,true,true,true,true] rfl rfl (any_of HT_.out (by kernel_rfl)) (fun _ _ _ h => h) (Or.inl ⟨by rfl,?_⟩) ?_ ?_
                      rotate_left
                      ·intro w'
                       go_simp
                       with_reducible rfl
                      rotate_left
                      ·simp only [Act.put,List.setIfInBounds_toArray,List.set_cons_zero,List.set_cons_succ,i64_w,i32_w]
                       rfl
                      refine done_ (done_of HT_.out (by kernel_rfl)) ?_
                      try go_wp2
                      go_ret
                      exact ⟨by first|rfl|(simp [errW_none,errW_some] <;> rfl)|(simp [*,errW_none,errW_some] <;> rfl),by repeat (first|(with_reducible first|exact HB.out|apply below_alloc|apply pw_below_drewN|apply below_drew1|refine below_set ?_ GE973.out|refine below_set ?_ GE978.out)|exact HB.out)⟩
                    ·replace c56 := Bool.eq_false_iff.mpr c56
                     subst c56
                     have H1 : (some false) = some r := by rw [if_neg (show ¬ (false = true) by decide)] at H;exact H
                     clear H
                     have H := H1
                     clear H1
                     obtain rfl := Option.some.inj H
                     try go_wp2
                     have n0_ := Aside0.mk (blk_drew BK973.out)
                     have n1_ := Aside0.mk (blk_drew BK978.out)
                     have n2_ := Aside0.mk (below_drew1 HB.out)
                     clear BK973
                     clear BK978
                     clear HB
                     have BK973 := n0_
                     have BK978 := n1_
                     have HB := n2_
                     clear n0_ n1_ n2_
                     have p982 : 0 ≤ (x5_4 : Int) := of_decide_eq_true (by first|(with_reducible assumption)|assumption)
                     have q982 : x5_4 < (((rd_T88 l0_0 x3_2).f2).length : Int) := of_decide_eq_true (by first|(with_reducible assumption)|assumption)
                     obtain ⟨ad982,e982,hx982_0⟩ := Kd.at_int HR977_2.out x5_4 p982 q982
                     have hw982_0 := hx982_0
                     cases e982
                     replace hx982_0 := (HB.out.cell (World.block_lt_of_cell? w _ hx982_0)).trans hx982_0
                     replace p982 := eq_true p982
                     replace q982 := eq_true q982
                     have p983 : 0 ≤ ((rd ((rd_T88 l0_0 x3_2).f2) x5_4) : Int) := of_decide_eq_true (by first|(with_reducible assumption)|assumption)
                     have q983 : (rd ((rd_T88 l0_0 x3_2).f2) x5_4) < (l0_0.length : Int) := of_decide_eq_true (by first|(with_reducible assumption)|assumption)
                     obtain ⟨ad983,A983_2,c983_2,e983,hx983_0,hx983_1,hx983_2,hl983_2,hi983_2⟩ := at_T88 HR0_0.out (rd ((rd_T88 l0_0 x3_2).f2) x5_4) p983 q983
                     have hw983_2 := hx983_2
                     have hw983_1 := hx983_1
                     have hw983_0 := hx983_0
                     obtain rfl : ad977 = ad983 := (by injection e983)
                     replace hx983_0 := (HB.out.cell (World.block_lt_of_cell? w _ hx983_0)).trans hx983_0
                     replace hx983_1 := (HB.out.cell (World.block_lt_of_cell? w _ hx983_1)).trans hx983_1
                     replace hx983_2 := (HB.out.cell (World.block_lt_of_cell? w _ hx983_2)).trans hx983_2
                     have HR983_2 := Aside0.mk hi983_2
                     have HC983_2 := Aside0.mk hl983_2
                     clear hi983_2 hl983_2
                     replace p983 := eq_true p983
                     replace q983 := eq_true q983
                     refine start_ (n := 18) (S := fun w' => w'.cell? ⟨gb973,0,none⟩ = some (.slice (some ad977) l0_0.length c0_0) ∧ w'.cell? ⟨gb973,1,none⟩ = some (.slice A0_1 l0_1.length c0_1) ∧ w'.cell? ⟨gb973,2,none⟩ = some (.slice A0_2 l0_2.length c0_2) ∧ w'.cell? ⟨gb973,3,none⟩ = some (.bool a0_3) ∧ w'.cell? ⟨gb978,0,none⟩ = some (.int .i64 ((rd_T88 l0_0 x3_2).f0)) ∧ w'.cell? ⟨gb978,1,none⟩ = some (.int .i64 ((rd_T88 l0_0 x3_2).f1)) ∧ w'.cell? ⟨gb978,2,none⟩ = some (.slice (some ad982) ((rd_T88 l0_0 x3_2).f2).length c977_2) ∧ w'.cell? (ad982.add (x5_4).toNat) = some (.int .i64 (rd ((rd_T88 l0_0 x3_2).f2) x5_4)) ∧ w'.cell? (ad977.add (((rd ((rd_T88 l0_0 x3_2).f2) x5_4)).toNat * 3)) = some (.int .i64 ((rd_T88 l0_0 (rd ((rd_T88 l0_0 x3_2).f2) x5_4)).f0)) ∧ w'.cell? ⟨(ad977.add (((rd ((rd_T88 l0_0 x3_2).f2) x5_4)).toNat * 3)).block,(ad977.add (((rd ((rd_T88 l0_0 x3_2).f2) x5_4)).toNat * 3)).off + 1,none⟩ = some (.int .i64 ((rd_T88 l0_0 (rd ((rd_T88 l0_0 x3_2).f2) x5_4)).f1)) ∧ w'.cell? ⟨(ad977.add (((rd ((rd_T88 l0_0 x3_2).f2) x5_4)).toNat * 3)).block,(ad977.add (((rd ((rd_T88 l0_0 x3_2).f2) x5_4)).toNat * 3)).off + 2,none⟩ = some (.slice A983_2 ((rd_T88 l0_0 (rd ((rd_T88 l0_0 x3_2).f2) x5_4)).f2).length c983_2)) (ds := []) #[false,false,false,false,false,false,false,false,false,false,false,false,false,false,false,false,false,false] (by kernel_rfl) rfl rfl ⟨(blk_cell BK973.out 0).trans rfl,(blk_cell BK973.out 1).trans rfl,(blk_cell BK973.out 2).trans rfl,(blk_cell BK973.out 3).trans rfl,(blk_cell BK978.out 0).trans rfl,(blk_cell BK978.out 1).trans rfl,(blk_cell BK978.out 2).trans rfl,((HB.out.cell (World.block_lt_of_cell? w _ hw982_0)).trans hw982_0),((HB.out.cell (World.block_lt_of_cell? w _ hw983_0)).trans hw983_0),((HB.out.cell (World.block_lt_of_cell? w _ hw983_1)).trans hw983_1),((HB.out.cell (World.block_lt_of_cell? w _ hw983_2)).trans hw983_2)⟩ (fun hHeld => ?_);refine with_tabW spec_validMachine.tab12 spec_validMachine.bits12 (fun HT_ HW_ => ?_)
                     generalize wc.drew = w62 at BK973 BK978 HB HR983_2 hx982_0 hx983_0 hx983_1 hx983_2 hHeld ⊢
                     refine pure_ (i := 0) (N := some 97) (v := ?_) (a' := ?_) #[true,false,false,false,false,false,false,false,false,false,false,false,false,false,false,false,false,false] rfl rfl (any_of HT_.out (by kernel_rfl)) (fun _ _ _ h => h) (Or.inl ⟨by rfl,?_⟩) ?_ ?_
                     rotate_left
                     ·intro w'
                      go_simp
                      with_reducible rfl
                     rotate_left
                     ·simp only [Act.put,List.setIfInBounds_toArray,List.set_cons_zero,List.set_cons_succ,i64_w,i32_w]
                      rfl
                     refine pure_ (i := 2) (N := some 99) (v := ?_) (a' := ?_) #[true,false,true,false,false,false,false,false,false,false,false,false,false,false,false,false,false,false] rfl rfl (any_of HT_.out (by kernel_rfl)) (fun _ _ _ h => h) (Or.inl ⟨by rfl,?_⟩) ?_ ?_
                     rotate_left
                     ·intro w'
                      go_simp
                      with_reducible rfl
                     rotate_left
                     ·simp only [Act.put,List.setIfInBounds_toArray,List.set_cons_zero,List.set_cons_succ,i64_w,i32_w]
                      rfl
                     refine pure_ (i := 4) (N := some 101) (v := ?_) (a' := ?_) #[true,false,true,false,true,false,false,false,false,false,false,false,false,false,false,false,false,false] rfl rfl (any_of HT_.out (by kernel_rfl)) (fun _ _ _ h => h) (Or.inl ⟨by rfl,?_⟩) ?_ ?_
                     rotate_left
                     ·intro w'
                      go_simp
                      with_reducible rfl
                     rotate_left
                     ·simp only [Act.put,List.setIfInBounds_toArray,List.set_cons_zero,List.set_cons_succ,i64_w,i32_w]
                      rfl
                     refine take_ (i := 1) (N := some 98) (v := ?_) (a' := ?_) #[true,true,true,false,true,false,false,false,false,false,false,false,false,false,false,false,false,false] rfl rfl (take_ofW HT_.out HW_.out (by kernel_rfl)) (fun _ _ _ h => h) (Or.inl ⟨by rfl,?_⟩) hHeld ?_ ?_
                     rotate_left
                     ·rintro w' ⟨s0,s1,s2,s3,s4,s5,s6,s7,s8,s9,s10⟩
                      go_simp
                      with_reducible rfl
                     rotate_left
                     ·simp only [Act.put,List.setIfInBounds_toArray,List.set_cons_zero,List.set_cons_succ,i64_w,i32_w]
                      rfl
                     refine take_ (i := 3) (N := some 100) (v := ?_) (a' := ?_) #[true,true,true,true,true,false,false,false,false,false,false,false,false,false,false,false,false,false] rfl rfl (take_ofW HT_.out HW_.out (by kernel_rfl)) (fun _ _ _ h => h) (Or.inl ⟨by rfl,?_⟩) hHeld ?_ ?_
                     rotate_left
                     ·rintro w' ⟨s0,s1,s2,s3,s4,s5,s6,s7,s8,s9,s10⟩
                      go_simp
                      with_reducible rfl
                     rotate_left
                     ·simp only [Act.put,List.setIfInBounds_toArray,List.set_cons_zero,List.set_cons_succ,i64_w,i32_w]
                      rfl
                     refine pure_ (i := 5) (N := some 102) (v := ?_) (a' := ?_) #[true,true,true,true,true,true,false,false,false,false,false,false,false,false,false,false,false,false] rfl rfl (any_of HT_.out (by kernel_rfl)) (fun _ _ _ h => h) (Or.inl ⟨by rfl,?_⟩) ?_ ?_
                     rotate_left
                     ·intro w'
                      go_simp
                      with_reducible rfl
                     rotate_left
                     ·simp only [Act.put,List.setIfInBounds_toArray,List.set_cons_zero,List.set_cons_succ,i64_w,i32_w]
                      rfl
                     refine take_ (i := 6) (N := some 103) (v := ?_) (a' := ?_) #[true,true,true,true,true,true,true,false,false,false,false,false,false,false,false,false,false,false] rfl rfl (take_ofW HT_.out HW_.out (by kernel_rfl)) (fun _ _ _ h => h) (Or.inl ⟨by rfl,?_⟩) hHeld ?_ ?_
                     rotate_left
                     ·rintro w' ⟨s0,s1,s2,s3,s4,s5,s6,s7,s8,s9,s10⟩
                      go_simp
                      with_reducible rfl
                     rotate_left
                     ·simp only [Act.put,List.setIfInBounds_toArray,List.set_cons_zero,List.set_cons_succ,i64_w,i32_w]
                      rfl
                     refine pure_ (i := 7) (N := some 104) (v := ?_) (a' := ?_) #[true,true,true,true,true,true,true,true,false,false,false,false,false,false,false,false,false,false] rfl rfl (any_of HT_.out (by kernel_rfl)) (fun _ _ _ h => h) (Or.inl ⟨by rfl,?_⟩) ?_ ?_
                     rotate_left
                     ·intro w'
                      go_simp
                      with_reducible rfl
                     rotate_left
                     ·simp only [Act.put,List.setIfInBounds_toArray,List.set_cons_zero,List.set_cons_succ,i64_w,i32_w]
                      rfl
                     refine take_ (i := 8) (N := some 105) (v := ?_) (a' := ?_) #[true,true,true,true,true,true,true,true,true,false,false,false,false,false,false,false,false,false] rfl rfl (take_ofW HT_.out HW_.out (by kernel_rfl)) (fun _ _ _ h => h) (Or.inl ⟨by rfl,?_⟩) hHeld ?_ ?_
                     rotate_left
                     ·rintro w' ⟨s0,s1,s2,s3,s4,s5,s6,s7,s8,s9,s10⟩
                      go_simp
                      with_reducible rfl
                     rotate_left
                     ·simp only [Act.put,List.setIfInBounds_toArray,List.set_cons_zero,List.set_cons_succ,i64_w,i32_w]
                      rfl
                     refine one_ (i := 9) (N := some 106) #[true,true,true,true,true,true,true,true,true,true,false,false,false,false,false,false,false,false] rfl rfl (one_of HT_.out (by kernel_rfl)) (by decide) (fun K hK => ?_)
                     refine goes_ Try.func112 (by kernel_rfl) rfl #[.agg #[.int .i64 ((rd_T88 l0_0 (rd ((rd_T88 l0_0 x3_2).f2) x5_4)).f0),.int .i64 ((rd_T88 l0_0 (rd ((rd_T88 l0_0 x3_2).f2) x5_4)).f1),.slice A983_2 ((rd_T88 l0_0 (rd ((rd_T88 l0_0 x3_2).f2) x5_4)).f2).length c983_2]] (by rfl) rfl rfl (by (try simp only [List.map_toArray,List.map_cons,List.map_nil]);first|done|rfl|(simp only [List.length_drop,List.length_take];rfl)) ?_
                     with_reducible refine (spec_isKey.calls ((rd_T88 l0_0 (rd ((rd_T88 l0_0 x3_2).f2) x5_4)).f0) ((rd_T88 l0_0 (rd ((rd_T88 l0_0 x3_2).f2) x5_4)).f1) _ _ ((rd_T88 l0_0 (rd ((rd_T88 l0_0 x3_2).f2) x5_4)).f2) false _ ?side1 ?side2 A55.out).mono ?_
                     (case side1 => repeat (first|exact (Kd.C_below HR983_2.out HB.out)|(with_reducible refine Kd.C_alloc ?_ _)|(with_reducible refine Kd.C_drewN ?_ _)|(with_reducible refine Kd.C_drew ?_)))
                     (case side2 => exact HC983_2.out)
                     rintro e w63 ⟨rfl,hb⟩
                     refine ⟨_,rfl,?_⟩
                     have n0_ := Aside0.mk (blk_below (g := gb973) (o := .cells #[.slice (some ad977) l0_0.length c0_0,.slice A0_1 l0_1.length c0_1,.slice A0_2 l0_2.length c0_2,.bool a0_3] 56 (0,0)) (by (with_reducible repeat (first|refine blk_drewN ?_ _|refine blk_drew ?_|refine blk_alloc ?_ _));exact BK973.out) hb)
                     have n1_ := Aside0.mk (blk_below (g := gb978) (o := .cells #[.int .i64 ((rd_T88 l0_0 x3_2).f0),.int .i64 ((rd_T88 l0_0 x3_2).f1),.slice (some ad982) ((rd_T88 l0_0 x3_2).f2).length c977_2] 88 (0,0)) (by (with_reducible repeat (first|refine blk_drewN ?_ _|refine blk_drew ?_|refine blk_alloc ?_ _));exact BK978.out) hb)
                     have n2_ := Aside0.mk (below_step (by repeat (first|(with_reducible first|exact HB.out|apply below_alloc|apply pw_below_drewN|apply below_drew1|refine below_set ?_ GE973.out|refine below_set ?_ GE978.out)|exact HB.out)) hb)
                     clear BK973
                     clear BK978
                     clear HB
                     have BK973 := n0_
                     have BK978 := n1_
                     have HB := n2_
                     clear n0_ n1_ n2_
                     (try clear hb)
                     (try clear hb2)
                     (try clear hk)
                     (try clear hi)
                     refine hK.out _ _ ⟨(blk_cell BK973.out 0).trans rfl,(blk_cell BK973.out 1).trans rfl,(blk_cell BK973.out 2).trans rfl,(blk_cell BK973.out 3).trans rfl,(blk_cell BK978.out 0).trans rfl,(blk_cell BK978.out 1).trans rfl,(blk_cell BK978.out 2).trans rfl,((HB.out.cell (World.block_lt_of_cell? w _ hw982_0)).trans hw982_0),((HB.out.cell (World.block_lt_of_cell? w _ hw983_0)).trans hw983_0),((HB.out.cell (World.block_lt_of_cell? w _ hw983_1)).trans hw983_1),((HB.out.cell (World.block_lt_of_cell? w _ hw983_2)).trans hw983_2)⟩ (fun hHeld => ?_)
                     clear hK K
                     refine norm_ (a' := ?_) ?_ ?_
                     rotate_left
                     ·show Act.put _ (some 106) _ = _
                      simp only [Act.put,List.setIfInBounds_toArray,List.set_cons_zero,List.set_cons_succ,i64_w,i32_w]
                      rfl
                     refine pure_ (i := 10) (N := some 107) (v := ?_) (a' := ?_) #[true,true,true,true,true,true,true,true,true,true,true,false,false,false,false,false,false,false] rfl rfl (any_of HT_.out (by kernel_rfl)) (fun _ _ _ h => h) (Or.inl ⟨by rfl,?_⟩) ?_ ?_
                     rotate_left
                     ·intro w'
                      go_simp
                      with_reducible rfl
                     rotate_left
                     ·simp only [Act.put,List.setIfInBounds_toArray,List.set_cons_zero,List.set_cons_succ,i64_w,i32_w]
                      rfl
                     refine pure_ (i := 11) (N := some 108) (v := ?_) (a' := ?_) #[true,true,true,true,true,true,true,true,true,true,true,true,false,false,false,false,false,false] rfl rfl (any_of HT_.out (by kernel_rfl)) (fun _ _ _ h => h) (Or.inl ⟨by rfl,?_⟩) ?_ ?_
                     rotate_left
                     ·intro w'
                      go_simp
                      with_reducible rfl
                     rotate_left
                     ·simp only [Act.put,List.setIfInBounds_toArray,List.set_cons_zero,List.set_cons_succ,i64_w,i32_w]
                      rfl
                     refine pure_ (i := 12) (N := some 109) (v := undef) (a' := ?_) #[true,true,true,true,true,true,true,true,true,true,true,true,true,false,false,false,false,false] rfl rfl (any_of HT_.out (by kernel_rfl)) (fun _ _ _ h => h) (Or.inr ⟨by rfl,rfl⟩) ?_ ?_
                     rotate_left
                     ·simp only [Act.put,List.setIfInBounds_toArray,List.set_cons_zero,List.set_cons_succ,i64_w,i32_w]
                      rfl
                     refine pure_ (i := 13) (N := some 110) (v := undef) (a' := ?_) #[true,true,true,true,true,true,true,true,true,true,true,true,true,true,false,false,false,false] rfl rfl (any_of HT_.out (by kernel_rfl)) (fun _ _ _ h => h) (Or.inr ⟨by rfl,rfl⟩) ?_ ?_
                     rotate_left
                     ·simp only [Act.put,List.setIfInBounds_toArray,List.set_cons_zero,List.set_cons_succ,i64_w,i32_w]
                      rfl
                     refine pure_ (i := 14) (N := some 111) (v := undef) (a' := ?_) #[true,true,true,true,true,true,true,true,true,true,true,true,true,true,true,false,false,false] rfl rfl (any_of HT_.out (by kernel_rfl)) (fun _ _ _ h => h) (Or.inr ⟨by rfl,rfl⟩) ?_ ?_
                     rotate_left
                     ·simp only [Act.put,List.setIfInBounds_toArray,List.set_cons_zero,List.set_cons_succ,i64_w,i32_w]
                      rfl
                     refine pure_ (i := 15) (N := some 112) (v := undef) (a' := ?_) #[true,true,true,true,true,true,true,true,true,true,true,true,true,true,true,true,false,false] rfl rfl (any_of HT_.out (by kernel_rfl)) (fun _ _ _ h => h) (Or.inr ⟨by rfl,rfl⟩) ?_ ?_
                     rotate_left
                     ·simp only [Act.put,List.setIfInBounds_toArray,List.set_cons_zero,List.set_cons_succ,i64_w,i32_w]
                      rfl
                     refine pure_ (i := 16) (N := some 113) (v := undef) (a' := ?_) #[true,true,true,true,true,true,true,true,true,true,true,true,true,true,true,true,true,false] rfl rfl (any_of HT_.out (by kernel_rfl)) (fun _ _ _ h => h) (Or.inr ⟨by rfl,rfl⟩) ?_ ?_
                     rotate_left
                     ·simp only [Act.put,List.setIfInBounds_toArray,List.set_cons_zero,List.set_cons_succ,i64_w,i32_w]
                      rfl
                     refine pure_ (i := 17) (N := some 114) (v := ?_) (a' := ?_) #[true,true,true,true,true,true,true,true,true,true,true,true,true,true,true,true,true,true] rfl rfl (any_of HT_.out (by kernel_rfl)) (fun _ _ _ h => h) (Or.inl ⟨by rfl,?_⟩) ?_ ?_
                     rotate_left
                     ·intro w'
                      go_simp
                      with_reducible rfl
                     rotate_left
                     ·simp only [Act.put,List.setIfInBounds_toArray,List.set_cons_zero,List.set_cons_succ,i64_w,i32_w]
                      rfl
                     refine done_ (done_of HT_.out (by kernel_rfl)) ?_
                     try go_wp2
                     go_ret
                     exact ⟨by first|rfl|(simp [errW_none,errW_some] <;> rfl)|(simp [*,errW_none,errW_some] <;> rfl),by repeat (first|(with_reducible first|exact HB.out|apply below_alloc|apply pw_below_drewN|apply below_drew1|refine below_set ?_ GE973.out|refine below_set ?_ GE978.out)|exact HB.out)⟩
                   ·rw [if_neg c54] at H
                    exact absurd H (by simp)
                  ·rw [if_neg c53] at H
                   exact absurd H (by simp)
                 ·rw [if_neg c52] at H
                  exact absurd H (by simp)
                ·rw [if_neg c51] at H
                 exact absurd H (by simp)
               ·replace c50 := Bool.eq_false_iff.mpr c50
                subst c50
                have H1 : (spec_validMachine.l0 kj43 (wrap64 (x3_2 + 1)) l0_0 l0_1 l0_2 a0_3) = some r := by rw [if_neg (show ¬ (false = true) by decide)] at H;exact H
                clear H
                have H := H1
                clear H1
                have H' := Aside0.mk H
                clear H
                go_wp2
                go_roundg kj43
                case measure => have := HJ1.out;have := HK2.out;have := HJ17.out;have := HK4.out;have := HJ43.out;omega
                case rel => exact ⟨(wrap64 (x3_2 + 1)),(by first|rfl|(simp;done)|(simp [*];done)),H',⟨by have := HJ1.out;have := HK2.out;have := HJ17.out;have := HK4.out;have := HJ43.out;omega⟩,⟨by (with_reducible repeat (first|refine blk_drewN ?_ _|refine blk_drew ?_|refine blk_alloc ?_ _));exact BK973.out⟩,⟨by repeat (first|(with_reducible first|exact HB.out|apply below_alloc|apply pw_below_drewN|apply below_drew1|refine below_set ?_ GE973.out|refine below_set ?_ GE978.out)|exact HB.out)⟩⟩
       ·rw [if_neg c17] at H
        exact absurd H (by simp)
      ·rw [if_neg c16] at H
       have c16b0 : decide (x3_2 < (l0_0.length : Int)) = false := decide_eq_false c16
       clear c16
       by_cases c64 : a0_3 = true
       ·subst c64
        have H1 : (if (l0_1.length : Int) = 1 then (if 0 < (l0_1.length : Int) then (some (decide ((rd l0_1 0) ≥ 0))) else (none)) else (some false)) = some r := by rw [if_pos rfl] at H;exact H
        clear H
        have H := H1
        clear H1
        by_cases c65 : (l0_1.length : Int) = 1
        ·rw [if_pos c65] at H
         have c65b0 : ((l0_1.length : Int) == 1) = true := beq_iff_eq.mpr c65
         have c65b1 : ((l0_1.length : Int) != 1) = false := bne_eq_false_iff_eq.mpr c65
         clear c65
         by_cases c66 : 0 < (l0_1.length : Int)
         ·rw [if_pos c66] at H
          have c66b0 : decide (0 < (l0_1.length : Int)) = true := decide_eq_true c66
          have c66b1 : decide (0 < l0_1.length) = true := decide_eq_true (by omega)
          clear c66
          obtain rfl := Option.some.inj H
          have hcz67_0 : wr.cell? ⟨gb973,0,none⟩ = some (.slice A0_0 l0_0.length c0_0) := (blk_cell BK973.out 0).trans rfl
          have hcz67_1 : wr.cell? ⟨gb973,1,none⟩ = some (.slice A0_1 l0_1.length c0_1) := (blk_cell BK973.out 1).trans rfl
          have hcz67_2 : wr.cell? ⟨gb973,2,none⟩ = some (.slice A0_2 l0_2.length c0_2) := (blk_cell BK973.out 2).trans rfl
          have hcz67_3 : wr.cell? ⟨gb973,3,none⟩ = some (.bool true) := (blk_cell BK973.out 3).trans rfl
          have hfz67_0 := blk_frozen BK973.out 0
          have hfz67_1 := blk_frozen BK973.out 1
          have hfz67_2 := blk_frozen BK973.out 2
          have hfz67_3 := blk_frozen BK973.out 3
          have p976 : 0 ≤ (0 : Int) := (by omega)
          have q976 : 0 < (l0_1.length : Int) := of_decide_eq_true (by first|(with_reducible assumption)|assumption)
          obtain ⟨ad976,e976,hx976_0⟩ := Kd.at_int HR0_1.out 0 p976 q976
          cases e976
          have qi976 : (0 < l0_1.length) = True := eq_true (by omega)
          (try rw [show ((0 : Int)).toNat = 0 from rfl] at hx976_0)
          (try rw [Addr.add_zero'] at hx976_0)
          replace hx976_0 := (HB.out.cell (World.block_lt_of_cell? w _ hx976_0)).trans hx976_0
          replace p976 := eq_true p976
          replace q976 := eq_true q976
          go_wp2
          go_ret
          exact ⟨by first|rfl|(simp [errW_none,errW_some] <;> rfl)|(simp [*,errW_none,errW_some] <;> rfl),by repeat (first|(with_reducible first|exact HB.out|apply below_alloc|apply pw_below_drewN|apply below_drew1|refine below_set ?_ GE973.out)|exact HB.out)⟩
         ·rw [if_neg c66] at H
          exact absurd H (by simp)
        ·rw [if_neg c65] at H
         have c65b0 : ((l0_1.length : Int) == 1) = false := beq_eq_false_iff_ne.mpr c65
         have c65b1 : ((l0_1.length : Int) != 1) = true := bne_iff_ne.mpr c65
         obtain rfl := Option.some.inj H
         have hcz68_0 : wr.cell? ⟨gb973,0,none⟩ = some (.slice A0_0 l0_0.length c0_0) := (blk_cell BK973.out 0).trans rfl
         have hcz68_1 : wr.cell? ⟨gb973,1,none⟩ = some (.slice A0_1 l0_1.length c0_1) := (blk_cell BK973.out 1).trans rfl
         have hcz68_2 : wr.cell? ⟨gb973,2,none⟩ = some (.slice A0_2 l0_2.length c0_2) := (blk_cell BK973.out 2).trans rfl
         have hcz68_3 : wr.cell? ⟨gb973,3,none⟩ = some (.bool true) := (blk_cell BK973.out 3).trans rfl
         have hfz68_0 := blk_frozen BK973.out 0
         have hfz68_1 := blk_frozen BK973.out 1
         have hfz68_2 := blk_frozen BK973.out 2
         have hfz68_3 := blk_frozen BK973.out 3
         go_wp2
         go_ret
         exact ⟨by first|rfl|(simp [errW_none,errW_some] <;> rfl)|(simp [*,errW_none,errW_some] <;> rfl),by repeat (first|(with_reducible first|exact HB.out|apply below_alloc|apply pw_below_drewN|apply below_drew1|refine below_set ?_ GE973.out)|exact HB.out)⟩
       ·replace c64 := Bool.eq_false_iff.mpr c64
        subst c64
        have H1 : (some true) = some r := by rw [if_neg (show ¬ (false = true) by decide)] at H;exact H
        clear H
        have H := H1
        clear H1
        obtain rfl := Option.some.inj H
        have hcz69_0 : wr.cell? ⟨gb973,0,none⟩ = some (.slice A0_0 l0_0.length c0_0) := (blk_cell BK973.out 0).trans rfl
        have hcz69_1 : wr.cell? ⟨gb973,1,none⟩ = some (.slice A0_1 l0_1.length c0_1) := (blk_cell BK973.out 1).trans rfl
        have hcz69_2 : wr.cell? ⟨gb973,2,none⟩ = some (.slice A0_2 l0_2.length c0_2) := (blk_cell BK973.out 2).trans rfl
        have hcz69_3 : wr.cell? ⟨gb973,3,none⟩ = some (.bool false) := (blk_cell BK973.out 3).trans rfl
        have hfz69_0 := blk_frozen BK973.out 0
        have hfz69_1 := blk_frozen BK973.out 1
        have hfz69_2 := blk_frozen BK973.out 2
        have hfz69_3 := blk_frozen BK973.out 3
        go_wp2
        go_ret
        exact ⟨by first|rfl|(simp [errW_none,errW_some] <;> rfl)|(simp [*,errW_none,errW_some] <;> rfl),by repeat (first|(with_reducible first|exact HB.out|apply below_alloc|apply pw_below_drewN|apply below_drew1|refine below_set ?_ GE973.out)|exact HB.out)⟩

end Go.Proofs.Ytbokjhdhpmmpfaa.Q
