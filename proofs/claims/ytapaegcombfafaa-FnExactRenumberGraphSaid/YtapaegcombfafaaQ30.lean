-- Written by wip/tools/qprint.py (a program of this claim's author) by means of the kit's printer.
import Derived.Test.YtapaegcombfafaaQ0
import Derived.Test.YtapaegcombfafaaQ49
import Derived.Test.YtapaegcombfafaaQ58
namespace Go.Proofs.Ytapaegcombfafaa.Q
open Go.RowKit Go.Proofs.YtapaegcombfafaaW.PrintWords Go.Proofs.YtapaegcombfafaaW.PrintLast Go.Proofs.YtapaegcombfafaaW.PrintMore
attribute [local go_sem] max2_int min2_int max_two min_two max_three min_three max_four min_four   -- for this text's walks alone
set_option linter.unusedVariables false
set_option linter.unusedSimpArgs false

/-! ### spec_RenumberGraph: function 30 -/
mutual
def spec_RenumberGraph.j0 : Nat → List Int → Bool → List (S58) → Int → Option ((List (S58)) × Int)
 | 0,_,_,_,_ => none
 | k + 1,x1,x27,x647000,x647001 => if x27 = true then (some (([] : List (S58)),0)) else (if 0 ≤ (x1.length : Int) then (if ((x1.length : Int) : Int).toNat ≤ 7036874417766 then (if 0 ≤ x647001 then (if x647001 < (x1.length : Int) then (spec_RenumberGraph.l0 k x1 0 x647000 x647001 (List.replicate ((x1.length : Int) : Int).toNat z58) (rd x1 x647001)) else (none)) else (none)) else (none)) else (none))
def spec_RenumberGraph.l0 : Nat → List Int → Int → List (S58) → Int → List (S58) → Int → Option ((List (S58)) × Int)
 | 0,_,_,_,_,_,_ => none
 | k + 1,x1,x6,x647000,x647001,x655000,x655001 => if x6 < (x1.length : Int) then (if 0 ≤ x6 then (if x6 ≤ (x1.length : Int) then ((spec_placeIn.f k (x1.take (x6 : Int).toNat) (rd x1 x6)).bind fun t657 => (if t657 ≥ 0 then (some (([] : List (S58)),0)) else (if x6 < (x647000.length : Int) then (spec_RenumberGraph.l1 k x1 x6 0 x647000 x647001 x655000 x655001 ((rd_T58 x647000 x6).f0) ((rd_T58 x647000 x6).f1) ([] : List Int)) else (none)))) else (none)) else (none)) else (some (x655000,x655001))
def spec_RenumberGraph.l1 : Nat → List Int → Int → Int → List (S58) → Int → List (S58) → Int → Int → Int → List Int → Option ((List (S58)) × Int)
 | 0,_,_,_,_,_,_,_,_,_,_ => none
 | k + 1,x1,x6,x8,x647000,x647001,x655000,x655001,x661000,x661001,x661002 => if 0 ≤ x6 then (if x6 < (x647000.length : Int) then (if x8 < (((rd_T58 x647000 x6).f2).length : Int) then (if 0 ≤ x8 then (if 0 ≤ (rd ((rd_T58 x647000 x6).f2) x8) then (if (rd ((rd_T58 x647000 x6).f2) x8) < (x1.length : Int) then (if x661002.length < 17592186044416 then (spec_RenumberGraph.l1 k x1 x6 (wrap64 (x8 + 1)) x647000 x647001 x655000 x655001 x661000 x661001 (x661002 ++ [rd x1 (rd ((rd_T58 x647000 x6).f2) x8)])) else (none)) else (none)) else (none)) else (none)) else (if x6 < (x1.length : Int) then (if 0 ≤ (rd x1 x6) then (if (rd x1 x6) < (x655000.length : Int) then (spec_RenumberGraph.l0 k x1 (wrap64 (x6 + 1)) x647000 x647001 (x655000.set ((rd x1 x6) : Int).toNat (⟨x661000,x661001,x661002⟩ : S58)) x655001) else (none)) else (none)) else (none))) else (none)) else (none)
end
def spec_RenumberGraph.f (k : Nat) (l0_0 : List (S58)) (a0_1 : Int) (l1 : List Int) : Option ((List (S58)) × Int) := (spec_validGraph.f k l0_0 a0_1).bind fun t648 => (if t648 = true then (if (l1.length : Int) = (l0_0.length : Int) then ((spec_allIn.f k l1 0 (wrap64 ((l1.length : Int) - 1))).bind fun t649 => (spec_RenumberGraph.j0 k l1 (!t649) l0_0 a0_1)) else (spec_RenumberGraph.j0 k l1 true l0_0 a0_1)) else (spec_RenumberGraph.j0 k l1 true l0_0 a0_1))
set_option maxRecDepth 100000 in
theorem spec_RenumberGraph.mono_l : ∀ k,(∀ y0 y1 y2 y3,LeO (spec_RenumberGraph.j0 k y0 y1 y2 y3) (spec_RenumberGraph.j0 (k + 1) y0 y1 y2 y3)) ∧ (∀ y0 y1 y2 y3 y4 y5,LeO (spec_RenumberGraph.l0 k y0 y1 y2 y3 y4 y5) (spec_RenumberGraph.l0 (k + 1) y0 y1 y2 y3 y4 y5)) ∧ (∀ y0 y1 y2 y3 y4 y5 y6 y7 y8 y9,LeO (spec_RenumberGraph.l1 k y0 y1 y2 y3 y4 y5 y6 y7 y8 y9) (spec_RenumberGraph.l1 (k + 1) y0 y1 y2 y3 y4 y5 y6 y7 y8 y9))
 | 0 => ⟨fun _ _ _ _ r h => (by cases h),fun _ _ _ _ _ _ r h => (by cases h),fun _ _ _ _ _ _ _ _ _ _ r h => (by cases h)⟩
 | k + 1 => by
  obtain ⟨ih0,ih1,ih2⟩ := spec_RenumberGraph.mono_l k
  refine ⟨?_,?_,?_⟩
  ·intro y0 y1 y2 y3
   unfold spec_RenumberGraph.j0
   repeat' first
   | (with_reducible exact ih0 _ _ _ _)
   | (with_reducible exact ih1 _ _ _ _ _ _)
   | (with_reducible exact ih2 _ _ _ _ _ _ _ _ _ _)
   | (with_reducible exact spec_allIn.mono _ _ _ _)
   | (with_reducible exact spec_placeIn.mono _ _ _)
   | (with_reducible exact spec_validGraph.mono _ _ _)
   | (with_reducible exact LeO.refl _)
   | (with_reducible exact LeO.none _)
   | (with_reducible refine LeO.ite ?_ ?_)
   | (with_reducible refine LeO.bind ?_ (fun _ => ?_))
   | exact ih0 _ _ _ _
   | exact ih1 _ _ _ _ _ _
   | exact ih2 _ _ _ _ _ _ _ _ _ _
   | exact spec_allIn.mono _ _ _ _
   | exact spec_placeIn.mono _ _ _
   | exact spec_validGraph.mono _ _ _
   | exact LeO.none _
   | refine LeO.ite ?_ ?_
   | refine LeO.bind ?_ (fun _ => ?_)
  ·intro y0 y1 y2 y3 y4 y5
   unfold spec_RenumberGraph.l0
   repeat' first
   | (with_reducible exact ih0 _ _ _ _)
   | (with_reducible exact ih1 _ _ _ _ _ _)
   | (with_reducible exact ih2 _ _ _ _ _ _ _ _ _ _)
   | (with_reducible exact spec_allIn.mono _ _ _ _)
   | (with_reducible exact spec_placeIn.mono _ _ _)
   | (with_reducible exact spec_validGraph.mono _ _ _)
   | (with_reducible exact LeO.refl _)
   | (with_reducible exact LeO.none _)
   | (with_reducible refine LeO.ite ?_ ?_)
   | (with_reducible refine LeO.bind ?_ (fun _ => ?_))
   | exact ih0 _ _ _ _
   | exact ih1 _ _ _ _ _ _
   | exact ih2 _ _ _ _ _ _ _ _ _ _
   | exact spec_allIn.mono _ _ _ _
   | exact spec_placeIn.mono _ _ _
   | exact spec_validGraph.mono _ _ _
   | exact LeO.none _
   | refine LeO.ite ?_ ?_
   | refine LeO.bind ?_ (fun _ => ?_)
  ·intro y0 y1 y2 y3 y4 y5 y6 y7 y8 y9
   unfold spec_RenumberGraph.l1
   repeat' first
   | (with_reducible exact ih0 _ _ _ _)
   | (with_reducible exact ih1 _ _ _ _ _ _)
   | (with_reducible exact ih2 _ _ _ _ _ _ _ _ _ _)
   | (with_reducible exact spec_allIn.mono _ _ _ _)
   | (with_reducible exact spec_placeIn.mono _ _ _)
   | (with_reducible exact spec_validGraph.mono _ _ _)
   | (with_reducible exact LeO.refl _)
   | (with_reducible exact LeO.none _)
   | (with_reducible refine LeO.ite ?_ ?_)
   | (with_reducible refine LeO.bind ?_ (fun _ => ?_))
   | exact ih0 _ _ _ _
   | exact ih1 _ _ _ _ _ _
   | exact ih2 _ _ _ _ _ _ _ _ _ _
   | exact spec_allIn.mono _ _ _ _
   | exact spec_placeIn.mono _ _ _
   | exact spec_validGraph.mono _ _ _
   | exact LeO.none _
   | refine LeO.ite ?_ ?_
   | refine LeO.bind ?_ (fun _ => ?_)
set_option maxRecDepth 100000 in
theorem spec_RenumberGraph.mono : ∀ a0 a1 a2 k,LeO (spec_RenumberGraph.f k a0 a1 a2) (spec_RenumberGraph.f (k + 1) a0 a1 a2) := by
 intro a0 a1 a2 k
 obtain ⟨ih0,ih1,ih2⟩ := spec_RenumberGraph.mono_l k
 unfold spec_RenumberGraph.f
 repeat' first
   | (with_reducible exact ih0 _ _ _ _)
   | (with_reducible exact ih1 _ _ _ _ _ _)
   | (with_reducible exact ih2 _ _ _ _ _ _ _ _ _ _)
   | (with_reducible exact spec_allIn.mono _ _ _ _)
   | (with_reducible exact spec_placeIn.mono _ _ _)
   | (with_reducible exact spec_validGraph.mono _ _ _)
   | (with_reducible exact LeO.refl _)
   | (with_reducible exact LeO.none _)
   | (with_reducible refine LeO.ite ?_ ?_)
   | (with_reducible refine LeO.bind ?_ (fun _ => ?_))
   | exact ih0 _ _ _ _
   | exact ih1 _ _ _ _ _ _
   | exact ih2 _ _ _ _ _ _ _ _ _ _
   | exact spec_allIn.mono _ _ _ _
   | exact spec_placeIn.mono _ _ _
   | exact spec_validGraph.mono _ _ _
   | exact LeO.none _
   | refine LeO.ite ?_ ?_
   | refine LeO.bind ?_ (fun _ => ?_)
def spec_RenumberGraph.T3 : Bool × List (List Nat × List Nat) := (true,[([],[]),([0],[0]),([1,1],[1]),([],[]),([],[]),([4],[4]),([3,5],[3,5]),([6],[6]),([2,7],[2,7]),([],[]),([9,8,0,1,2,3,4,5,6,7,8,9],[8,9])])
def spec_RenumberGraph.B3 : List Nat := [0,1,3,0,0,16,56,120,255,0,1023]
theorem spec_RenumberGraph.tab3 : rtab .any (opsOf Try.f30 3) = spec_RenumberGraph.T3 := by kernel_rfl
theorem spec_RenumberGraph.bits3 : waitsOk spec_RenumberGraph.T3.2 spec_RenumberGraph.B3 = true := by kernel_rfl
def spec_RenumberGraph.T7 : Bool × List (List Nat × List Nat) := (true,[([],[]),([],[]),([0,1],[0,1]),([],[]),([],[]),([3,4],[3,4]),([5],[5]),([2,6],[2,6]),([7],[7])])
def spec_RenumberGraph.B7 : List Nat := [0,0,3,0,0,24,56,127,255]
theorem spec_RenumberGraph.tab7 : rtab .any (opsOf Try.f30 7) = spec_RenumberGraph.T7 := by kernel_rfl
theorem spec_RenumberGraph.bits7 : waitsOk spec_RenumberGraph.T7.2 spec_RenumberGraph.B7 = true := by kernel_rfl
def spec_RenumberGraph.T9 : Bool × List (List Nat × List Nat) := (true,[([],[]),([0],[0]),([],[]),([1,2],[1,2]),([3],[3]),([4],[4]),([],[]),([6],[6]),([],[]),([7,8],[7,8]),([9],[9]),([10],[10]),([5,11],[5,11]),([],[]),([13,12,0,1,2,3,4,5,6,7,8,9,10,11,12,13],[12,13])])
def spec_RenumberGraph.B9 : List Nat := [0,1,0,7,15,31,0,64,0,448,960,1984,4095,0,16383]
theorem spec_RenumberGraph.tab9 : rtab .any (opsOf Try.f30 9) = spec_RenumberGraph.T9 := by kernel_rfl
theorem spec_RenumberGraph.bits9 : waitsOk spec_RenumberGraph.T9.2 spec_RenumberGraph.B9 = true := by kernel_rfl
def spec_RenumberGraph.T13 : Bool × List (List Nat × List Nat) := (true,[([],[]),([0],[0]),([],[]),([],[]),([3],[3]),([],[]),([4,5],[4,5]),([6],[6]),([7],[7]),([],[]),([8,9],[8,9]),([10],[10]),([2,11],[2,11]),([12],[12]),([13],[13]),([1,14],[1,14]),([0,1,2,3,4,5,6,7,8,9,10,11,12,13,14,15],[]),([16,15,15,0,1,2,3,4,5,6,7,8,9,10,11,12,13,14,15],[15,16])])
def spec_RenumberGraph.B13 : List Nat := [0,1,0,0,8,0,56,120,248,0,1016,2040,4092,8188,16380,32767,65535,131071]
theorem spec_RenumberGraph.tab13 : rtab .any (opsOf Try.f30 13) = spec_RenumberGraph.T13 := by kernel_rfl
theorem spec_RenumberGraph.bits13 : waitsOk spec_RenumberGraph.T13.2 spec_RenumberGraph.B13 = true := by kernel_rfl
def spec_RenumberGraph.T14 : Bool × List (List Nat × List Nat) := (true,[([],[]),([0],[0]),([],[]),([],[]),([2,3],[2,3]),([4],[4]),([],[]),([1,5,0,1,2,3,4,5,6],[1,5]),([7,6,0,1,2,3,4,5,6],[6,7])])
def spec_RenumberGraph.B14 : List Nat := [0,1,0,0,12,28,0,127,255]
theorem spec_RenumberGraph.tab14 : rtab .any (opsOf Try.f30 14) = spec_RenumberGraph.T14 := by kernel_rfl
theorem spec_RenumberGraph.bits14 : waitsOk spec_RenumberGraph.T14.2 spec_RenumberGraph.B14 = true := by kernel_rfl
set_option maxHeartbeats 8000000 in
set_option maxRecDepth 100000 in
theorem spec_RenumberGraph.calls (k : Nat) (A0_0 : Option Addr) (c0_0 : Nat) (l0_0 : List (S58)) (a0_1 : Int) (A1 : Option Addr) (c1 : Nat) (l1 : List Int) (r1 : List (S58)) (r2 : Int) (w : World) (hr0_0 : Kd.C k58 w A0_0 l0_0.length l0_0) (hc0_0 : l0_0.length ≤ c0_0) (hr1 : Kd.C (Kd.int .i64) w A1 l1.length l1) (hc1 : l1.length ≤ c1) (h : spec_RenumberGraph.f k l0_0 a0_1 l1 = some (r1,r2)) :
  Calls Try.prog 30 #[.agg #[.slice A0_0 l0_0.length c0_0,.int .i64 a0_1],.slice A1 l1.length c1] w fun e w' => ∃ v0_ : Value,e = .returned (.agg #[v0_,.int .i64 r2]) ∧ Kd.S k58 58 w' w.heap.size (fun _ => True) v0_ r1 ∧ Below w.heap.size w w' := by
 have hu25 := Try.underlying25
 have hu58 := Try.underlying58
 have HR0_0 := As_ hr0_0
 have HC0_0 := As_ hc0_0
 clear hr0_0 hc0_0
 have HR1 := As_ hr1
 have HC1 := As_ hc1
 clear hr1 hc1
 have HB := As_ (Below.refl w.heap.size w)
 have H : ((spec_validGraph.f k l0_0 a0_1).bind fun t648 => (if t648 = true then (if (l1.length : Int) = (l0_0.length : Int) then ((spec_allIn.f k l1 0 (wrap64 ((l1.length : Int) - 1))).bind fun t649 => (spec_RenumberGraph.j0 k l1 (!t649) l0_0 a0_1)) else (spec_RenumberGraph.j0 k l1 true l0_0 a0_1)) else (spec_RenumberGraph.j0 k l1 true l0_0 a0_1))) = some (r1,r2) := h
 clear h
 have HC3 := As_ H
 clear H
 go_enter Try.func30,Try.ntmps30
 go_upto_region 1 with (first|((with_reducible refine gate_dst (N := 2) rfl ?_);(try (refine gate_guard (by rfl) ?_;dsimp only));refine box_event ?hg (N := 2) ?hd (cs := #[.slice A0_0 l0_0.length c0_0,.int .i64 a0_1]) (t := 25) ?hr ?_;(case hd => rfl);(case hg => rfl);(case hr => go_simp <;> rfl);intro gb646 hg w4 hbox hb;have n0_ := As_ (bwT (zb0 HB.out) hb);have n1_ := As_ (hbox);have n2_ := As_ ((by rw [hg];exact (bwZ (zb0 HB.out)) : w.heap.size ≤ gb646));have n3_ := As_ ((by rw [hg];exact (bwZ (zb0 HB.out)) : w.heap.size ≤ gb646));clear HB;have HB := n0_;have BK646 := n1_;have GW646 := n2_;have GE646 := n3_;clear n0_ n1_ n2_ n3_;clear hb hbox hg)|((with_reducible refine gate_dst (N := 4) rfl ?_);(try (refine gate_guard (by rfl) ?_;dsimp only));refine box_event ?hg (N := 4) ?hd (cs := #[.slice none 0 0,.int .i64 0]) (t := 25) ?hr ?_;(case hd => rfl);(case hg => rfl);(case hr => go_simp <;> rfl);intro gb647 hg w5 hbox hb;have n0_ := As_ (zkb BK646.out hb);have n1_ := As_ (bwT (zb1 HB.out GE646.out) hb);have n2_ := As_ (hbox);have n3_ := As_ ((by rw [hg];exact (bwZ (zb1 HB.out GE646.out)) : w.heap.size ≤ gb647));have n4_ := As_ ((by rw [hg];exact (bwZ (zb1 HB.out GE646.out)) : w.heap.size ≤ gb647));have n5_ := As_ ((by rw [hg];exact Nat.ne_of_lt (zkl BK646.out) : gb646 ≠ gb647));have n6_ := As_ ((by rw [hg];exact Nat.ne_of_gt (zkl BK646.out) : gb647 ≠ gb646));clear BK646;clear HB;have BK646 := n0_;have HB := n1_;have BK647 := n2_;have GW647 := n3_;have GE647 := n4_;have NB646_647 := n5_;have NB647_646 := n6_;clear n0_ n1_ n2_ n3_ n4_ n5_ n6_;clear hb hbox hg))
 (try simp only [Act.put,List.setIfInBounds_toArray,List.set_cons_zero,List.set_cons_succ])
 go_cut [27] (fun v27 wc => ∃ (kq : Nat) (x27_2 : Bool),v27 = .bool x27_2 ∧ Aside0 (spec_RenumberGraph.j0 kq l1 x27_2 l0_0 a0_1 = some (r1,r2)) ∧ Aside0 (kq ≤ k) ∧ Aside0 (wc.heap[gb646]? = some (.cells #[(.slice A0_0 l0_0.length c0_0),.int .i64 a0_1] 25 (0,0))) ∧ Aside0 (wc.heap[gb647]? = some (.cells #[(.slice none 0 0),.int .i64 0] 25 (0,0))) ∧ Aside0 (Below w.heap.size w wc))
 case first =>
  have H := HC3.out
  clear HC3
  replace H := obS H
  obtain ⟨t648,A60,H⟩ := H
  replace H : (if t648 = true then (if (l1.length : Int) = (l0_0.length : Int) then ((spec_allIn.f k l1 0 (wrap64 ((l1.length : Int) - 1))).bind fun t649 => (spec_RenumberGraph.j0 k l1 (!t649) l0_0 a0_1)) else (spec_RenumberGraph.j0 k l1 true l0_0 a0_1)) else (spec_RenumberGraph.j0 k l1 true l0_0 a0_1)) = some (r1,r2) := H
  have A6 := As_ A60
  clear A60
  by_cases c7 : t648 = true
  ·subst c7
   have H1 : (if (l1.length : Int) = (l0_0.length : Int) then ((spec_allIn.f k l1 0 (wrap64 ((l1.length : Int) - 1))).bind fun t649 => (spec_RenumberGraph.j0 k l1 (!t649) l0_0 a0_1)) else (spec_RenumberGraph.j0 k l1 true l0_0 a0_1)) = some (r1,r2) := by rw [if_pos rfl] at H;exact H
   clear H
   have H := H1
   clear H1
   by_cases c8 : (l1.length : Int) = (l0_0.length : Int)
   ·rw [if_pos c8] at H
    have c8b0 : ((l1.length : Int) == (l0_0.length : Int)) = true := beq_iff_eq.mpr c8
    have c8b1 : ((l1.length : Int) != (l0_0.length : Int)) = false := bne_eq_false_iff_eq.mpr c8
    have c8b2 : (l1.length == l0_0.length) = true := by first|simpa using c8|(simp at c8 ⊢;omega)
    clear c8
    (first|rw [c8b0]|(simp only [i64_w,i32_w];rw [c8b0])|skip)
    replace H := obS H
    obtain ⟨t649,A90,H⟩ := H
    replace H : (spec_RenumberGraph.j0 k l1 (!t649) l0_0 a0_1) = some (r1,r2) := H
    have A9 := As_ A90
    clear A90
    have H' := As_ H
    clear H
    have hnb10 := NB646_647.out
    have hnc10 := NB647_646.out
    have hcz11_0 : w5.cell? ⟨gb646,0,none⟩ = some (.slice A0_0 l0_0.length c0_0) := (bkC BK646.out 0).trans rfl
    have hcz11_1 : w5.cell? ⟨gb646,1,none⟩ = some (.int .i64 a0_1) := (bkC BK646.out 1).trans rfl
    have hfz11_0 := bkF BK646.out 0
    have hfz11_1 := bkF BK646.out 1
    go_wp2_with (first|((with_reducible refine gate_callee (f := 49) rfl ?_);refine goesL_ (some 10) rfl rfl Try.func49 (by kernel_rfl) rfl #[.agg #[.slice A0_0 l0_0.length c0_0,.int .i64 a0_1]] rfl zM_ ?_;(with_reducible refine (spec_validGraph.calls k _ _ l0_0 a0_1 true _ ?side1 ?side2 A6.out).mono ?_);(case side1 => repeat (first|exact (Kd.C_below HR0_0.out HB.out)|(with_reducible refine Kd.C_alloc ?_ _)|(with_reducible refine Kd.C_drewN ?_ _)|(with_reducible refine Kd.C_drew ?_)));(case side2 => exact HC0_0.out);rintro e w12 ⟨rfl,hb⟩;refine ⟨_,rfl,?_⟩;have n0_ := As_ (zkb BK646.out hb);have n1_ := As_ (zkb BK647.out hb);have n2_ := As_ (bwT (zb2 HB.out GE646.out GE647.out) hb);clear BK646;clear BK647;clear HB;have BK646 := n0_;have BK647 := n1_;have HB := n2_;clear n0_ n1_ n2_;(try clear hb);(try clear hb2);(try clear hk);(try clear hi);have hcz13_0 : w12.cell? ⟨gb646,0,none⟩ = some (.slice A0_0 l0_0.length c0_0) := (bkC BK646.out 0).trans rfl;have hcz13_1 : w12.cell? ⟨gb646,1,none⟩ = some (.int .i64 a0_1) := (bkC BK646.out 1).trans rfl;have hfz13_0 := bkF BK646.out 0;have hfz13_1 := bkF BK646.out 1)|(go_at_call 57;(with_reducible refine (spec_allIn.calls k _ _ l1 0 (wrap64 ((l1.length : Int) - 1)) t649 _ ?side1 ?side2 A9.out).mono ?_);(case side1 => repeat (first|exact (Kd.C_below HR1.out HB.out)|(with_reducible refine Kd.C_alloc ?_ _)|(with_reducible refine Kd.C_drewN ?_ _)|(with_reducible refine Kd.C_drew ?_)));(case side2 => exact HC1.out);rintro e w' ⟨rfl,⟨nd,rfl⟩⟩))
    go_meet
    case rel => exact ⟨_,(!t649),zT_,H',⟨by first|omega|exact Nat.le_refl _⟩,⟨by (with_reducible repeat (first|refine bkN ?_ _|refine bkD ?_|refine bkA ?_ _));exact BK646.out⟩,⟨by (with_reducible repeat (first|refine bkN ?_ _|refine bkD ?_|refine bkA ?_ _));exact BK647.out⟩,⟨by repeat (first|(with_reducible first|exact HB.out|apply bwA|apply bwN|apply bwD|refine bwS ?_ GE646.out|refine bwS ?_ GE647.out)|exact HB.out)⟩⟩
   ·rw [if_neg c8] at H
    have c8b0 : ((l1.length : Int) == (l0_0.length : Int)) = false := beq_eq_false_iff_ne.mpr c8
    have c8b1 : ((l1.length : Int) != (l0_0.length : Int)) = true := bne_iff_ne.mpr c8
    have c8b2 : (l1.length == l0_0.length) = false := by first|simpa using c8|(simp at c8 ⊢;omega)
    (first|rw [c8b0]|(simp only [i64_w,i32_w];rw [c8b0])|skip)
    have H' := As_ H
    clear H
    have hnb14 := NB646_647.out
    have hnc14 := NB647_646.out
    have hcz15_0 : w5.cell? ⟨gb646,0,none⟩ = some (.slice A0_0 l0_0.length c0_0) := (bkC BK646.out 0).trans rfl
    have hcz15_1 : w5.cell? ⟨gb646,1,none⟩ = some (.int .i64 a0_1) := (bkC BK646.out 1).trans rfl
    have hfz15_0 := bkF BK646.out 0
    have hfz15_1 := bkF BK646.out 1
    go_wp2_with (first|((with_reducible refine gate_callee (f := 49) rfl ?_);refine goesL_ (some 10) rfl rfl Try.func49 (by kernel_rfl) rfl #[.agg #[.slice A0_0 l0_0.length c0_0,.int .i64 a0_1]] rfl zM_ ?_;(with_reducible refine (spec_validGraph.calls k _ _ l0_0 a0_1 true _ ?side1 ?side2 A6.out).mono ?_);(case side1 => repeat (first|exact (Kd.C_below HR0_0.out HB.out)|(with_reducible refine Kd.C_alloc ?_ _)|(with_reducible refine Kd.C_drewN ?_ _)|(with_reducible refine Kd.C_drew ?_)));(case side2 => exact HC0_0.out);rintro e w16 ⟨rfl,hb⟩;refine ⟨_,rfl,?_⟩;have n0_ := As_ (zkb BK646.out hb);have n1_ := As_ (zkb BK647.out hb);have n2_ := As_ (bwT (zb2 HB.out GE646.out GE647.out) hb);clear BK646;clear BK647;clear HB;have BK646 := n0_;have BK647 := n1_;have HB := n2_;clear n0_ n1_ n2_;(try clear hb);(try clear hb2);(try clear hk);(try clear hi);have hcz17_0 : w16.cell? ⟨gb646,0,none⟩ = some (.slice A0_0 l0_0.length c0_0) := (bkC BK646.out 0).trans rfl;have hcz17_1 : w16.cell? ⟨gb646,1,none⟩ = some (.int .i64 a0_1) := (bkC BK646.out 1).trans rfl;have hfz17_0 := bkF BK646.out 0;have hfz17_1 := bkF BK646.out 1))
    go_meet
    case rel => exact ⟨_,(true),zT_,H',⟨by first|omega|exact Nat.le_refl _⟩,⟨by (with_reducible repeat (first|refine bkN ?_ _|refine bkD ?_|refine bkA ?_ _));exact BK646.out⟩,⟨by (with_reducible repeat (first|refine bkN ?_ _|refine bkD ?_|refine bkA ?_ _));exact BK647.out⟩,⟨by repeat (first|(with_reducible first|exact HB.out|apply bwA|apply bwN|apply bwD|refine bwS ?_ GE646.out|refine bwS ?_ GE647.out)|exact HB.out)⟩⟩
  ·replace c7 := Bool.eq_false_iff.mpr c7
   subst c7
   have H1 : (spec_RenumberGraph.j0 k l1 true l0_0 a0_1) = some (r1,r2) := by rw [if_neg (show ¬ (false = true) by decide)] at H;exact H
   clear H
   have H := H1
   clear H1
   have H' := As_ H
   clear H
   have hnb18 := NB646_647.out
   have hnc18 := NB647_646.out
   have hcz19_0 : w5.cell? ⟨gb646,0,none⟩ = some (.slice A0_0 l0_0.length c0_0) := (bkC BK646.out 0).trans rfl
   have hcz19_1 : w5.cell? ⟨gb646,1,none⟩ = some (.int .i64 a0_1) := (bkC BK646.out 1).trans rfl
   have hfz19_0 := bkF BK646.out 0
   have hfz19_1 := bkF BK646.out 1
   go_wp2_with (first|((with_reducible refine gate_callee (f := 49) rfl ?_);refine goesL_ (some 10) rfl rfl Try.func49 (by kernel_rfl) rfl #[.agg #[.slice A0_0 l0_0.length c0_0,.int .i64 a0_1]] rfl zM_ ?_;(with_reducible refine (spec_validGraph.calls k _ _ l0_0 a0_1 false _ ?side1 ?side2 A6.out).mono ?_);(case side1 => repeat (first|exact (Kd.C_below HR0_0.out HB.out)|(with_reducible refine Kd.C_alloc ?_ _)|(with_reducible refine Kd.C_drewN ?_ _)|(with_reducible refine Kd.C_drew ?_)));(case side2 => exact HC0_0.out);rintro e w20 ⟨rfl,hb⟩;refine ⟨_,rfl,?_⟩;have n0_ := As_ (zkb BK646.out hb);have n1_ := As_ (zkb BK647.out hb);have n2_ := As_ (bwT (zb2 HB.out GE646.out GE647.out) hb);clear BK646;clear BK647;clear HB;have BK646 := n0_;have BK647 := n1_;have HB := n2_;clear n0_ n1_ n2_;(try clear hb);(try clear hb2);(try clear hk);(try clear hi)))
   go_meet
   case rel => exact ⟨_,(true),zT_,H',⟨by first|omega|exact Nat.le_refl _⟩,⟨by (with_reducible repeat (first|refine bkN ?_ _|refine bkD ?_|refine bkA ?_ _));exact BK646.out⟩,⟨by (with_reducible repeat (first|refine bkN ?_ _|refine bkD ?_|refine bkA ?_ _));exact BK647.out⟩,⟨by repeat (first|(with_reducible first|exact HB.out|apply bwA|apply bwN|apply bwD|refine bwS ?_ GE646.out|refine bwS ?_ GE647.out)|exact HB.out)⟩⟩
 case rest =>
  clear HC3
  try clear c1
  try clear p2
  try clear c3
  try clear c4
  try clear p6
  try clear c7
  try clear c8
  try clear c8b0
  try clear c8b1
  try clear c8b2
  try clear c10
  try clear c14
  try clear c18
  try clear hcz11_0
  try clear hcz11_1
  try clear hcz13_0
  try clear hcz13_1
  try clear hcz15_0
  try clear hcz15_1
  try clear hcz17_0
  try clear hcz17_1
  try clear hcz19_0
  try clear hcz19_1
  try clear hfz11_0
  try clear hfz11_1
  try clear hfz13_0
  try clear hfz13_1
  try clear hfz15_0
  try clear hfz15_1
  try clear hfz17_0
  try clear hfz17_1
  try clear hfz19_0
  try clear hfz19_1
  obtain ⟨kq,x27_2,rfl,HA,HJ2,BK646,BK647,HB⟩ := hcut
  cases kq with
  | zero => exact absurd HA.out (fun h_ => (by cases h_))
  | succ kj2 =>
   have H := HA.out
   clear HA
   simp only [spec_RenumberGraph.j0] at H
   by_cases c21 : x27_2 = true
   ·subst c21
    have H1 : (some (([] : List (S58)),0)) = some (r1,r2) := by rw [if_pos rfl] at H;exact H
    clear H
    have H := H1
    clear H1
    simp only [Option.some.injEq,Prod.mk.injEq] at H
    obtain ⟨rfl,rfl⟩ := H
    have hnb22 := NB647_646.out
    have hnc22 := NB646_647.out
    have hcz23_0 : wc.cell? ⟨gb647,0,none⟩ = some (.slice none 0 0) := (bkC BK647.out 0).trans rfl
    have hcz23_1 : wc.cell? ⟨gb647,1,none⟩ = some (.int .i64 0) := (bkC BK647.out 1).trans rfl
    have hfz23_0 := bkF BK647.out 0
    have hfz23_1 := bkF BK647.out 1
    go_wp2
    refine bodyPost_ret (results_cell_row rfl _ _ gb647 25 #[.slice none 0 0,.int .i64 0] (0,0) _ rfl (by (with_reducible repeat (first|refine bkN ?_ _|refine bkD ?_|refine bkA ?_ _));refine blk_put (cs := #[.slice none 0 0,.int .i64 0]) ?_ 1 _ rfl;(with_reducible repeat (first|refine bkN ?_ _|refine bkD ?_|refine bkA ?_ _));refine blk_put (cs := #[.slice none 0 0,.int .i64 0]) ?_ 0 _ rfl;(with_reducible repeat (first|refine bkN ?_ _|refine bkD ?_|refine bkA ?_ _));exact BK647.out) Try.underlying25 rfl (by kernel_rfl)) rfl ?_
    exact ⟨_,by first|rfl|(simp [errW_none,errW_some] <;> rfl)|(simp [*,errW_none,errW_some] <;> rfl),by first|exact Kd.S_nil _ _ _ _ _|exact Kd.S_nil _ _ _ _ _|exact Kd.V_nil _ _ _ _ _|exact Kd.Q_nil _ _ _ _ _|exact Kd.R_nil _ _ _ _ _,by repeat (first|(with_reducible first|exact HB.out|apply bwA|apply bwN|apply bwD|refine bwS ?_ GE646.out|refine bwS ?_ GE647.out)|exact HB.out)⟩
   ·replace c21 := Bool.eq_false_iff.mpr c21
    subst c21
    have H1 : (if 0 ≤ (l1.length : Int) then (if ((l1.length : Int) : Int).toNat ≤ 7036874417766 then (if 0 ≤ a0_1 then (if a0_1 < (l1.length : Int) then (spec_RenumberGraph.l0 kj2 l1 0 l0_0 a0_1 (List.replicate ((l1.length : Int) : Int).toNat z58) (rd l1 a0_1)) else (none)) else (none)) else (none)) else (none)) = some (r1,r2) := by rw [if_neg (show ¬ (false = true) by decide)] at H;exact H
    clear H
    have H := H1
    clear H1
    by_cases c24 : 0 ≤ (l1.length : Int)
    rotate_left
    ·rw [if_neg c24] at H
     exact absurd H (by simp)
    rw [if_pos c24] at H
    have c24b0 := eq_true c24
    have c24b1 : decide (0 ≤ (l1.length : Int)) = true := deT c24
    clear c24
    by_cases c25 : ((l1.length : Int) : Int).toNat ≤ 7036874417766
    rotate_left
    ·rw [if_neg c25] at H
     exact absurd H (by simp)
    rw [if_pos c25] at H
    have c25b0 := eq_true c25
    have c25b1 : decide (((l1.length : Int) : Int).toNat ≤ 7036874417766) = true := deT c25
    clear c25
    obtain ⟨y650,hy650⟩ : ∃ y_ : List (S58),y_ = (List.replicate ((l1.length : Int) : Int).toNat z58) := ⟨_,rfl⟩
    replace H : (if 0 ≤ a0_1 then (if a0_1 < (l1.length : Int) then (spec_RenumberGraph.l0 kj2 l1 0 l0_0 a0_1 y650 (rd l1 a0_1)) else (none)) else (none)) = some (r1,r2) := by first|(rw [hy650];with_reducible exact H)|(have H2_ := (Option.bind_some _ _).symm.trans H;rw [hy650];with_reducible exact H2_)|(have H2_ := (Option.bind_some _ _).symm.trans H;with_reducible exact H2_)|with_reducible exact H|(rw [hy650];exact H)|exact H
    have Ny650 := As_ hy650
    clear hy650
    by_cases c26 : 0 ≤ a0_1
    rotate_left
    ·rw [if_neg c26] at H
     exact absurd H (by simp)
    rw [if_pos c26] at H
    have c26b0 : decide (0 ≤ a0_1) = true := deT c26
    clear c26
    by_cases c27 : a0_1 < (l1.length : Int)
    rotate_left
    ·rw [if_neg c27] at H
     exact absurd H (by simp)
    rw [if_pos c27] at H
    have c27b0 : decide (a0_1 < (l1.length : Int)) = true := deT c27
    clear c27
    have H' := As_ H
    clear H
    try go_wp2
    have n0_ := As_ (bkD BK646.out)
    have n1_ := As_ (bkD BK647.out)
    have n2_ := As_ (bwD HB.out)
    clear BK646
    clear BK647
    clear HB
    have BK646 := n0_
    have BK647 := n1_
    have HB := n2_
    clear n0_ n1_ n2_
    have p653 : 0 ≤ (a0_1 : Int) := odT zA_
    have q653 : a0_1 < (l1.length : Int) := odT zA_
    obtain ⟨ad653,e653,hx653_0⟩ := Kd.at_int HR1.out a0_1 p653 q653
    have hw653_0 := hx653_0
    cases e653
    replace hx653_0 := (HB.out.cell (bwL w _ hx653_0)).trans hx653_0
    replace p653 := eq_true p653
    replace q653 := eq_true q653
    refine start_ (n := 11) (S := fun w' => w'.cell? ⟨gb646,0,none⟩ = some (.slice A0_0 l0_0.length c0_0) ∧ w'.cell? ⟨gb646,1,none⟩ = some (.int .i64 a0_1) ∧ w'.cell? (ad653.add (a0_1).toNat) = some (.int .i64 (rd l1 a0_1))) (ds := []) (bl_ 0 11) (by kernel_rfl) rfl rfl ⟨(bkC BK646.out 0).trans rfl,(bkC BK646.out 1).trans rfl,((HB.out.cell (bwL w _ hw653_0)).trans hw653_0)⟩ (fun hHeld => ?_);refine with_tabW spec_RenumberGraph.tab3 spec_RenumberGraph.bits3 (fun HT_ HW_ => ?_)
    generalize wc.drew = w28 at BK646 BK647 HB hx653_0 hHeld ⊢
    refine pP 0 29 (bl_ 1 11) ?_ HT_ rfl (.inl ⟨by rfl,?_⟩) ?_ ?_ ?_;rotate_left;(intro w';go_simp;with_reducible rfl);rotate_left;(simp only [Act.put,sq_,i64_w,i32_w];rfl)
    refine pP 1 30 (bl_ 3 11) ?_ HT_ rfl (.inl ⟨by rfl,?_⟩) ?_ ?_ ?_;rotate_left;(intro w';go_simp;with_reducible rfl);rotate_left;(simp only [Act.put,sq_,i64_w,i32_w];rfl)
    refine pP 3 32 (bl_ 11 11) ?_ HT_ rfl (.inl ⟨by rfl,?_⟩) ?_ ?_ ?_;rotate_left;(intro w';go_simp;with_reducible rfl);rotate_left;(simp only [Act.put,sq_,i64_w,i32_w];rfl)
    refine pP 4 33 (bl_ 27 11) ?_ HT_ rfl (.inl ⟨by rfl,?_⟩) ?_ ?_ ?_;rotate_left;(intro w';go_simp;with_reducible rfl);rotate_left;(simp only [Act.put,sq_,i64_w,i32_w];rfl)
    refine tP 5 34 (bl_ 59 11) ?_ HT_ HW_ rfl (.inl ⟨by rfl,?_⟩) hHeld ?_ ?_ ?_;rotate_left;(rintro w' ⟨s0,s1,s2⟩;go_simp;with_reducible rfl);rotate_left;(simp only [Act.put,sq_,i64_w,i32_w];rfl)
    refine pP 6 35 (bl_ 123 11) ?_ HT_ rfl (.inl ⟨by rfl,?_⟩) ?_ ?_ ?_;rotate_left;(intro w';go_simp;with_reducible rfl);rotate_left;(simp only [Act.put,sq_,i64_w,i32_w];rfl)
    refine tP 7 36 (bl_ 251 11) ?_ HT_ HW_ rfl (.inl ⟨by rfl,?_⟩) hHeld ?_ ?_ ?_;rotate_left;(rintro w' ⟨s0,s1,s2⟩;go_simp;with_reducible rfl);rotate_left;(simp only [Act.put,sq_,i64_w,i32_w];rfl)
    refine join_ (σ := Value × Nat) 1 (bl_ 1023 11) (fun s_ => [(31,s_.1),(5,.pointer (some ⟨s_.2,0,none⟩)),(37,.agg #[s_.1,.int .i64 (rd l1 a0_1)])]) (fun s_ w' => (w'.cell? ⟨gb646,0,none⟩ = some (.slice A0_0 l0_0.length c0_0) ∧ w'.cell? ⟨gb646,1,none⟩ = some (.int .i64 a0_1) ∧ w'.cell? (ad653.add (a0_1).toNat) = some (.int .i64 (rd l1 a0_1))) ∧ (Kd.S k58 58 w' w.heap.size (fun k_ => k_ ≠ gb646 ∧ k_ ≠ gb647 ∧ k_ ≠ s_.2) s_.1 y650) ∧ (w'.heap[gb646]? = some (.cells #[.slice A0_0 l0_0.length c0_0,.int .i64 a0_1] 25 (0,0))) ∧ (w'.heap[gb647]? = some (.cells #[.slice none 0 0,.int .i64 0] 25 (0,0))) ∧ (w'.heap[s_.2]? = some (.cells #[.slice none 0 0,.int .i64 0] 25 (0,0))) ∧ (w.heap.size ≤ s_.2) ∧ (w.heap.size ≤ s_.2) ∧ (gb646 ≠ s_.2) ∧ (s_.2 ≠ gb646) ∧ (gb647 ≠ s_.2) ∧ (s_.2 ≠ gb647) ∧ (Below w.heap.size w w')) ?_ ?_
    rotate_left
    ·intro hCont
     refine two_ (i := 2) (j := 9) (Ni := some 31) (Nj := some 5) (bl_ 255 11) (bl_ 763 11) rfl rfl rfl rfl (two_of HT_.out (by kernel_rfl)) (by decide) (by decide) (fun K hK => ?_) (fun K hK => ?_)
     ·skip
      refine Kd.S_make_step k58 _ 58 (by rfl) (N := 31) rfl 23 _ _ rfl (l1.length : Int) rfl rfl Try.underlying23 (.agg #[(.int .i64 0),(.int .i64 0),(.slice none 0 0)]) 40 info58 rfl (by decide) (by omega) z58 (ok := fun k_ => w28.heap.size ≤ k_) (okp := fun _ => False) (k58_mkM _ _ _ z58 (Kd.R_nil _ _ _ _ _)) (fun _ hk => hk.elim) (Nat.le_refl _) (odT zA_) (Nat.le_trans (Nat.mul_le_mul_right _ (odT zA_ : (l1.length : Int).toNat ≤ 7036874417766)) (by omega)) (Below.refl _ _) (Nat.le_refl _) ?_
      intro v651 w29 ho30 hb hg_ hnew_
      clear hg_ hnew_
      (first|rw [← Ny650.out] at ho30|(simp only [Int.reduceToNat] at ho30;rw [← Ny650.out] at ho30))
      have n0_ := As_ (Kd.S_lower (Kd.S_mono (ok' := fun k_ => k_ ≠ gb646 ∧ k_ ≠ gb647) ho30 (fun k_ hk_ => ⟨(Kd.freshB (g := gb646) (o := .cells #[.slice A0_0 l0_0.length c0_0,.int .i64 a0_1] 25 (0,0)) (zk_ BK646.out) k_ hk_),(Kd.freshB (g := gb647) (o := .cells #[.slice none 0 0,.int .i64 0] 25 (0,0)) (zk_ BK647.out) k_ hk_)⟩)) (bwZ (zb2 HB.out GE646.out GE647.out)))
      have n1_ := As_ (zkb BK646.out hb)
      have n2_ := As_ (zkb BK647.out hb)
      have n3_ := As_ (bwT (zb2 HB.out GE646.out GE647.out) hb)
      clear BK646
      clear BK647
      clear HB
      have HO652 := n0_
      have BK646 := n1_
      have BK647 := n2_
      have HB := n3_
      clear n0_ n1_ n2_ n3_
      clear hb ho30
      obtain ⟨Ao31,co31,eo31⟩ := Kd.S_slice HO652.out
      (first|subst eo31|(injection eo31 with f1_ f2_ f3_;have f4_ := f1_.symm;have f5_ := f3_.symm;clear f1_ f2_ f3_;subst f4_;subst f5_))
      refine hK.out _ _ ⟨(bkC BK646.out 0).trans rfl,(bkC BK646.out 1).trans rfl,((HB.out.cell (bwL w _ hw653_0)).trans hw653_0)⟩ (fun hHeld => ?_)
      clear hK K
      refine norm_ (a' := ?_) ?_ ?_
      rotate_left
      ·show Act.put _ (some 31) _ = _
       simp only [Act.put,sq_,i64_w,i32_w]
       rfl
      refine pP 8 37 (bl_ 511 11) ?_ HT_ rfl (.inl ⟨by rfl,?_⟩) ?_ ?_ ?_;rotate_left;(intro w';go_simp;with_reducible rfl);rotate_left;(simp only [Act.put,sq_,i64_w,i32_w];rfl)
      refine one_ (i := 9) (N := some 5) (bl_ 1023 11) rfl rfl (one_of HT_.out (by kernel_rfl)) (by decide) (fun K hK => ?_)
      refine box_step ?hg (N := 5) ?hd (cs := #[.slice none 0 0,.int .i64 0]) (t := 25) ?hr ?_;(case hd => rfl);(case hg => rfl);(case hr => go_simp <;> rfl)
      intro gb654 hg w32 hbox hb
      have n0_ := As_ (Kd.S_below (Kd.S_elderB (zS_ HO652.out) gb654 (Nat.le_of_eq hg.symm)) hb)
      have n1_ := As_ (zkb BK646.out hb)
      have n2_ := As_ (zkb BK647.out hb)
      have n3_ := As_ (bwT (zb2 HB.out GE646.out GE647.out) hb)
      have n4_ := As_ (hbox)
      have n5_ := As_ ((by rw [hg];exact (bwZ (zb2 HB.out GE646.out GE647.out)) : w.heap.size ≤ gb654))
      have n6_ := As_ ((by rw [hg];exact (bwZ (zb2 HB.out GE646.out GE647.out)) : w.heap.size ≤ gb654))
      have n7_ := As_ ((by rw [hg];exact Nat.ne_of_lt (zkl BK646.out) : gb646 ≠ gb654))
      have n8_ := As_ ((by rw [hg];exact Nat.ne_of_gt (zkl BK646.out) : gb654 ≠ gb646))
      have n9_ := As_ ((by rw [hg];exact Nat.ne_of_lt (zkl BK647.out) : gb647 ≠ gb654))
      have n10_ := As_ ((by rw [hg];exact Nat.ne_of_gt (zkl BK647.out) : gb654 ≠ gb647))
      clear HO652
      clear BK646
      clear BK647
      clear HB
      have HO652 := n0_
      have BK646 := n1_
      have BK647 := n2_
      have HB := n3_
      have BK654 := n4_
      have GW654 := n5_
      have GE654 := n6_
      have NB646_654 := n7_
      have NB654_646 := n8_
      have NB647_654 := n9_
      have NB654_647 := n10_
      clear n0_ n1_ n2_ n3_ n4_ n5_ n6_ n7_ n8_ n9_ n10_
      clear hb hbox hg
      refine hK.out _ _ ⟨(bkC BK646.out 0).trans rfl,(bkC BK646.out 1).trans rfl,((HB.out.cell (bwL w _ hw653_0)).trans hw653_0)⟩ (fun hHeld => ?_)
      clear hK K
      refine norm_ (a' := ?_) ?_ ?_
      rotate_left
      ·show Act.put _ (some 5) _ = _
       simp only [Act.put,sq_,i64_w,i32_w]
       rfl
      exact norm_ (by simp only [putAll,Act.put,List.setIfInBounds_toArray,List.set_cons_zero,List.set_cons_succ]) (hCont (.slice Ao31 y650.length co31,gb654) _ ⟨hHeld,(by (with_reducible repeat (first|apply Kd.S_alloc|apply Kd.S_drewN|apply Kd.S_drew));exact Kd.S_mono HO652.out (fun _ hk => ⟨hk.1.1,⟨hk.1.2,hk.2⟩⟩)),(zk_ BK646.out),(zk_ BK647.out),(zk_ BK654.out),GW654.out,GE654.out,NB646_654.out,NB654_646.out,NB647_654.out,NB654_647.out,(zb3 HB.out GE646.out GE647.out GE654.out)⟩)
     ·skip
      refine box_step ?hg (N := 5) ?hd (cs := #[.slice none 0 0,.int .i64 0]) (t := 25) ?hr ?_;(case hd => rfl);(case hg => rfl);(case hr => go_simp <;> rfl)
      intro gb654 hg w29 hbox hb
      have n0_ := As_ (zkb BK646.out hb)
      have n1_ := As_ (zkb BK647.out hb)
      have n2_ := As_ (bwT (zb2 HB.out GE646.out GE647.out) hb)
      have n3_ := As_ (hbox)
      have n4_ := As_ ((by rw [hg];exact (bwZ (zb2 HB.out GE646.out GE647.out)) : w.heap.size ≤ gb654))
      have n5_ := As_ ((by rw [hg];exact (bwZ (zb2 HB.out GE646.out GE647.out)) : w.heap.size ≤ gb654))
      have n6_ := As_ ((by rw [hg];exact Nat.ne_of_lt (zkl BK646.out) : gb646 ≠ gb654))
      have n7_ := As_ ((by rw [hg];exact Nat.ne_of_gt (zkl BK646.out) : gb654 ≠ gb646))
      have n8_ := As_ ((by rw [hg];exact Nat.ne_of_lt (zkl BK647.out) : gb647 ≠ gb654))
      have n9_ := As_ ((by rw [hg];exact Nat.ne_of_gt (zkl BK647.out) : gb654 ≠ gb647))
      clear BK646
      clear BK647
      clear HB
      have BK646 := n0_
      have BK647 := n1_
      have HB := n2_
      have BK654 := n3_
      have GW654 := n4_
      have GE654 := n5_
      have NB646_654 := n6_
      have NB654_646 := n7_
      have NB647_654 := n8_
      have NB654_647 := n9_
      clear n0_ n1_ n2_ n3_ n4_ n5_ n6_ n7_ n8_ n9_
      clear hb hbox hg
      refine hK.out _ _ ⟨(bkC BK646.out 0).trans rfl,(bkC BK646.out 1).trans rfl,((HB.out.cell (bwL w _ hw653_0)).trans hw653_0)⟩ (fun hHeld => ?_)
      clear hK K
      refine norm_ (a' := ?_) ?_ ?_
      rotate_left
      ·show Act.put _ (some 5) _ = _
       simp only [Act.put,sq_,i64_w,i32_w]
       rfl
      refine one_ (i := 2) (N := some 31) (bl_ 767 11) rfl rfl (one_of HT_.out (by kernel_rfl)) (by decide) (fun K hK => ?_)
      refine Kd.S_make_step k58 _ 58 (by rfl) (N := 31) rfl 23 _ _ rfl (l1.length : Int) rfl rfl Try.underlying23 (.agg #[(.int .i64 0),(.int .i64 0),(.slice none 0 0)]) 40 info58 rfl (by decide) (by omega) z58 (ok := fun k_ => w29.heap.size ≤ k_) (okp := fun _ => False) (k58_mkM _ _ _ z58 (Kd.R_nil _ _ _ _ _)) (fun _ hk => hk.elim) (Nat.le_refl _) (odT zA_) (Nat.le_trans (Nat.mul_le_mul_right _ (odT zA_ : (l1.length : Int).toNat ≤ 7036874417766)) (by omega)) (Below.refl _ _) (Nat.le_refl _) ?_
      intro v651 w30 ho31 hb hg_ hnew_
      clear hg_ hnew_
      (first|rw [← Ny650.out] at ho31|(simp only [Int.reduceToNat] at ho31;rw [← Ny650.out] at ho31))
      have n0_ := As_ (Kd.S_lower (Kd.S_mono (ok' := fun k_ => k_ ≠ gb646 ∧ k_ ≠ gb647 ∧ k_ ≠ gb654) ho31 (fun k_ hk_ => ⟨(Kd.freshB (g := gb646) (o := .cells #[.slice A0_0 l0_0.length c0_0,.int .i64 a0_1] 25 (0,0)) (zk_ BK646.out) k_ hk_),(Kd.freshB (g := gb647) (o := .cells #[.slice none 0 0,.int .i64 0] 25 (0,0)) (zk_ BK647.out) k_ hk_),(Kd.freshB (g := gb654) (o := .cells #[.slice none 0 0,.int .i64 0] 25 (0,0)) (zk_ BK654.out) k_ hk_)⟩)) (bwZ (zb3 HB.out GE646.out GE647.out GE654.out)))
      have n1_ := As_ (zkb BK646.out hb)
      have n2_ := As_ (zkb BK647.out hb)
      have n3_ := As_ (zkb BK654.out hb)
      have n4_ := As_ (bwT (zb3 HB.out GE646.out GE647.out GE654.out) hb)
      clear BK646
      clear BK647
      clear BK654
      clear HB
      have HO652 := n0_
      have BK646 := n1_
      have BK647 := n2_
      have BK654 := n3_
      have HB := n4_
      clear n0_ n1_ n2_ n3_ n4_
      clear hb ho31
      obtain ⟨Ao32,co32,eo32⟩ := Kd.S_slice HO652.out
      (first|subst eo32|(injection eo32 with f1_ f2_ f3_;have f4_ := f1_.symm;have f5_ := f3_.symm;clear f1_ f2_ f3_;subst f4_;subst f5_))
      refine hK.out _ _ ⟨(bkC BK646.out 0).trans rfl,(bkC BK646.out 1).trans rfl,((HB.out.cell (bwL w _ hw653_0)).trans hw653_0)⟩ (fun hHeld => ?_)
      clear hK K
      refine norm_ (a' := ?_) ?_ ?_
      rotate_left
      ·show Act.put _ (some 31) _ = _
       simp only [Act.put,sq_,i64_w,i32_w]
       rfl
      refine pP 8 37 (bl_ 1023 11) ?_ HT_ rfl (.inl ⟨by rfl,?_⟩) ?_ ?_ ?_;rotate_left;(intro w';go_simp;with_reducible rfl);rotate_left;(simp only [Act.put,sq_,i64_w,i32_w];rfl)
      exact norm_ (by simp only [putAll,Act.put,List.setIfInBounds_toArray,List.set_cons_zero,List.set_cons_succ]) (hCont (.slice Ao32 y650.length co32,gb654) _ ⟨hHeld,(zS_ HO652.out),(zk_ BK646.out),(zk_ BK647.out),(zk_ BK654.out),GW654.out,GE654.out,NB646_654.out,NB654_646.out,NB647_654.out,NB654_647.out,(zb3 HB.out GE646.out GE647.out GE654.out)⟩)
    rintro ⟨v651,gb654⟩ w33 ⟨hS_,h0_,h1_,h2_,h3_,h4_,h5_,h6_,h7_,h8_,h9_,h10_⟩
    have n0_ : Aside0 (Kd.S k58 58 w33 w.heap.size (fun k_ => k_ ≠ gb646 ∧ k_ ≠ gb647 ∧ k_ ≠ gb654) v651 y650) := ⟨h0_⟩
    have n1_ : Aside0 (w33.heap[gb646]? = some (.cells #[.slice A0_0 l0_0.length c0_0,.int .i64 a0_1] 25 (0,0))) := ⟨h1_⟩
    have n2_ : Aside0 (w33.heap[gb647]? = some (.cells #[.slice none 0 0,.int .i64 0] 25 (0,0))) := ⟨h2_⟩
    have n3_ : Aside0 (w33.heap[gb654]? = some (.cells #[.slice none 0 0,.int .i64 0] 25 (0,0))) := ⟨h3_⟩
    have n4_ : Aside0 (w.heap.size ≤ gb654) := ⟨h4_⟩
    have n5_ : Aside0 (w.heap.size ≤ gb654) := ⟨h5_⟩
    have n6_ : Aside0 (gb646 ≠ gb654) := ⟨h6_⟩
    have n7_ : Aside0 (gb654 ≠ gb646) := ⟨h7_⟩
    have n8_ : Aside0 (gb647 ≠ gb654) := ⟨h8_⟩
    have n9_ : Aside0 (gb654 ≠ gb647) := ⟨h9_⟩
    have n10_ : Aside0 (Below w.heap.size w w33) := ⟨h10_⟩
    clear BK646
    clear BK647
    clear HB
    clear h0_ h1_ h2_ h3_ h4_ h5_ h6_ h7_ h8_ h9_ h10_
    have HO652 := n0_
    have BK646 := n1_
    have BK647 := n2_
    have BK654 := n3_
    have GW654 := n4_
    have GE654 := n5_
    have NB646_654 := n6_
    have NB654_646 := n7_
    have NB647_654 := n8_
    have NB654_647 := n9_
    have HB := n10_
    clear n0_ n1_ n2_ n3_ n4_ n5_ n6_ n7_ n8_ n9_ n10_
    have hHeld : w33.cell? ⟨gb646,0,none⟩ = some (.slice A0_0 l0_0.length c0_0) ∧ w33.cell? ⟨gb646,1,none⟩ = some (.int .i64 a0_1) ∧ w33.cell? (ad653.add (a0_1).toNat) = some (.int .i64 (rd l1 a0_1)) := hS_
    obtain ⟨Ao34,co34,eo34⟩ := Kd.S_slice HO652.out
    (first|subst eo34|(injection eo34 with f1_ f2_ f3_;have f4_ := f1_.symm;have f5_ := f3_.symm;clear f1_ f2_ f3_;subst f4_;subst f5_))
    refine norm_ (a' := ?_) ?_ ?_
    rotate_left
    ·simp only [putAll,Act.put,List.setIfInBounds_toArray,List.set_cons_zero,List.set_cons_succ]
     rfl
    refine one_ (i := 10) (N := none) (bl_ 2047 11) rfl rfl (one_of HT_.out (by kernel_rfl)) (by decide) (fun K hK => ?_)
    have hs35 : w33.cell? ⟨gb654,0,none⟩ = some (.slice none 0 0) := (bkC BK654.out 0).trans rfl
    have hfs35 := bkF BK654.out 0
    have hns35_0 := NB646_654.out
    have hns35_1 := NB647_654.out
    have hms35_0 := NB654_646.out
    have hms35_1 := NB654_647.out
    have hs36 : w33.cell? ⟨gb654,1,none⟩ = some (.int .i64 0) := (bkC BK654.out 1).trans rfl
    have hfs36 := bkF BK654.out 1
    have hns36_0 := NB646_654.out
    have hns36_1 := NB647_654.out
    have hms36_0 := NB654_646.out
    have hms36_1 := NB654_647.out
    refine skip_ (w1 := ?_) (by rfl) rfl ?_ ?_
    rotate_left
    ·go_simp
     rfl
    refine hK.out _ _ ⟨((cell_far (p := ⟨gb654,_,none⟩) NB646_654.out _).trans (((cell_far (p := ⟨gb654,_,none⟩) NB646_654.out _).trans (hHeld.1)))),((cell_far (p := ⟨gb654,_,none⟩) NB646_654.out _).trans (((cell_far (p := ⟨gb654,_,none⟩) NB646_654.out _).trans (hHeld.2.1)))),((cell_far (p := ⟨gb654,_,none⟩) (by first|exact Nat.ne_of_lt (Nat.lt_of_lt_of_le (by have := bwL _ _ hw653_0;first|rwa [add_block] at this|exact this) GW654.out)|(rw [add_block];exact Nat.ne_of_lt (Nat.lt_of_lt_of_le (by have := bwL _ _ hw653_0;first|rwa [add_block] at this|exact this) GW654.out))|(show (Addr.add _ _).block ≠ _;rw [add_block];exact Nat.ne_of_lt (Nat.lt_of_lt_of_le (by have := bwL _ _ hw653_0;first|rwa [add_block] at this|exact this) GW654.out))|(dsimp only;exact Nat.ne_of_lt (Nat.lt_of_lt_of_le (by have := bwL _ _ hw653_0;first|rwa [add_block] at this|exact this) GW654.out))) _).trans (((cell_far (p := ⟨gb654,_,none⟩) (by first|exact Nat.ne_of_lt (Nat.lt_of_lt_of_le (by have := bwL _ _ hw653_0;first|rwa [add_block] at this|exact this) GW654.out)|(rw [add_block];exact Nat.ne_of_lt (Nat.lt_of_lt_of_le (by have := bwL _ _ hw653_0;first|rwa [add_block] at this|exact this) GW654.out))|(show (Addr.add _ _).block ≠ _;rw [add_block];exact Nat.ne_of_lt (Nat.lt_of_lt_of_le (by have := bwL _ _ hw653_0;first|rwa [add_block] at this|exact this) GW654.out))|(dsimp only;exact Nat.ne_of_lt (Nat.lt_of_lt_of_le (by have := bwL _ _ hw653_0;first|rwa [add_block] at this|exact this) GW654.out))) _).trans (hHeld.2.2))))⟩ (fun hHeld => ?_)
    clear hK K
    refine done_ (done_of HT_.out (by kernel_rfl)) ?_
    try go_wp2
    go_loopg [6] kj2 (fun kq v6 w' => ∃ (x6_2 : Int) (x648001_2 : Int) (x655000_2 : List (S58)) (u655000 : Value),v6 = .int .i64 x6_2 ∧ Aside0 (spec_RenumberGraph.l0 kq l1 x6_2 l0_0 a0_1 x655000_2 (rd l1 a0_1) = some (r1,r2)) ∧ Aside0 (kq ≤ kj2) ∧ Aside0 (Kd.S k58 58 w' w.heap.size (fun k_ => k_ ≠ gb646 ∧ k_ ≠ gb647 ∧ k_ ≠ gb654) u655000 x655000_2) ∧ Aside0 (w'.heap[gb646]? = some (.cells #[(.slice A0_0 l0_0.length c0_0),.int .i64 a0_1] 25 (0,0))) ∧ Aside0 (w'.heap[gb647]? = some (.cells #[(.slice none 0 0),.int .i64 x648001_2] 25 (0,0))) ∧ Aside0 (w'.heap[gb654]? = some (.cells #[u655000,.int .i64 (rd l1 a0_1)] 25 (0,0))) ∧ Aside0 (Below w.heap.size w w'))
    case atStart => exact ⟨(0),(0),(y650),(.slice Ao34 y650.length co34),zT_,H',⟨Nat.le_refl _⟩,⟨by (with_reducible repeat (first|apply Kd.S_alloc|apply Kd.S_drewN|apply Kd.S_drew));exact Kd.S_mono (Kd.S_far (p := ⟨gb654,1,none⟩) (Kd.S_far (p := ⟨gb654,0,none⟩) (Kd.S_mono HO652.out (fun k_ hk => (⟨hk,hk.2.2⟩ : _ ∧ k_ ≠ gb654))) (fun _ hk => hk.2) (.slice Ao34 y650.length co34)) (fun _ hk => hk.2) (.int .i64 (rd l1 a0_1))) (fun _ hk => ⟨hk.1.1,⟨hk.1.2.1,hk.1.2.2⟩⟩)⟩,⟨by (with_reducible repeat (first|refine bkN ?_ _|refine bkD ?_|refine bkA ?_ _));refine blk_far ?_ NB646_654.out _;(with_reducible repeat (first|refine bkN ?_ _|refine bkD ?_|refine bkA ?_ _));refine blk_far ?_ NB646_654.out _;(with_reducible repeat (first|refine bkN ?_ _|refine bkD ?_|refine bkA ?_ _));exact BK646.out⟩,⟨by (with_reducible repeat (first|refine bkN ?_ _|refine bkD ?_|refine bkA ?_ _));refine blk_far ?_ NB647_654.out _;(with_reducible repeat (first|refine bkN ?_ _|refine bkD ?_|refine bkA ?_ _));refine blk_far ?_ NB647_654.out _;(with_reducible repeat (first|refine bkN ?_ _|refine bkD ?_|refine bkA ?_ _));exact BK647.out⟩,⟨by (with_reducible repeat (first|refine bkN ?_ _|refine bkD ?_|refine bkA ?_ _));refine blk_put (cs := #[.slice Ao34 y650.length co34,.int .i64 0]) ?_ 1 _ rfl;(with_reducible repeat (first|refine bkN ?_ _|refine bkD ?_|refine bkA ?_ _));refine blk_put (cs := #[.slice none 0 0,.int .i64 0]) ?_ 0 _ rfl;(with_reducible repeat (first|refine bkN ?_ _|refine bkD ?_|refine bkA ?_ _));exact BK654.out⟩,⟨by repeat (first|(with_reducible first|exact HB.out|apply bwA|apply bwN|apply bwD|refine bwS ?_ GE646.out|refine bwS ?_ GE647.out|refine bwS ?_ GE654.out)|exact HB.out)⟩⟩
    case round =>
     clear H'
     try clear c1
     try clear c2
     try clear p2
     try clear c3
     try clear c4
     try clear p6
     try clear q6
     try clear hx6
     try clear c7
     try clear c8
     try clear c8b0
     try clear c8b1
     try clear c8b2
     try clear c10
     try clear c14
     try clear c18
     try clear c21
     try clear c22
     try clear c24
     try clear c24b0
     try clear c24b1
     try clear c25
     try clear c25b0
     try clear c25b1
     try clear c26
     try clear c26b0
     try clear c27
     try clear c27b0
     try clear c30
     try clear hcz11_0
     try clear hcz11_1
     try clear hcz13_0
     try clear hcz13_1
     try clear hcz15_0
     try clear hcz15_1
     try clear hcz17_0
     try clear hcz17_1
     try clear hcz19_0
     try clear hcz19_1
     try clear hcz23_0
     try clear hcz23_1
     try clear hfz11_0
     try clear hfz11_1
     try clear hfz13_0
     try clear hfz13_1
     try clear hfz15_0
     try clear hfz15_1
     try clear hfz17_0
     try clear hfz17_1
     try clear hfz19_0
     try clear hfz19_1
     try clear hfz23_0
     try clear hfz23_1
     try clear hx653_0
     try clear p2
     try clear p6
     try clear p653
     try clear q653
     obtain ⟨x6_2,x648001_2,x655000_2,u655000,rfl,HA,HK2,HO_655000,BK646,BK647,BK654,HB⟩ := hrel
     cases gk with
     | zero => exact absurd HA.out (fun h_ => (by cases h_))
     | succ k2 =>
      have H := HA.out
      clear HA
      simp only [spec_RenumberGraph.l0] at H
      by_cases c37 : x6_2 < (l1.length : Int)
      ·rw [if_pos c37] at H
       have c37b0 : decide (x6_2 < (l1.length : Int)) = true := deT c37
       clear c37
       by_cases c38 : 0 ≤ x6_2
       rotate_left
       ·rw [if_neg c38] at H
        exact absurd H (by simp)
       rw [if_pos c38] at H
       have c38b0 := eq_true c38
       have c38b1 : decide (0 ≤ x6_2) = true := deT c38
       clear c38
       by_cases c39 : x6_2 ≤ (l1.length : Int)
       rotate_left
       ·rw [if_neg c39] at H
        exact absurd H (by simp)
       rw [if_pos c39] at H
       have c39b0 := eq_true c39
       have c39b1 : decide (x6_2 ≤ (l1.length : Int)) = true := deT c39
       clear c39
       replace H := obS H
       obtain ⟨t657,A400,H⟩ := H
       replace H : (if t657 ≥ 0 then (some (([] : List (S58)),0)) else (if x6_2 < (l0_0.length : Int) then (spec_RenumberGraph.l1 k2 l1 x6_2 0 l0_0 a0_1 x655000_2 (rd l1 a0_1) ((rd_T58 l0_0 x6_2).f0) ((rd_T58 l0_0 x6_2).f1) ([] : List Int)) else (none))) = some (r1,r2) := H
       have A40 := As_ A400
       clear A400
       by_cases c41 : t657 ≥ 0
       ·rw [if_pos c41] at H
        have c41b0 : decide (0 ≤ t657) = true := deT c41
        clear c41
        simp only [Option.some.injEq,Prod.mk.injEq] at H
        obtain ⟨rfl,rfl⟩ := H
        try go_wp2
        have n0_ := As_ (Kd.S_drew HO_655000.out)
        have n1_ := As_ (bkD BK646.out)
        have n2_ := As_ (bkD BK647.out)
        have n3_ := As_ (bkD BK654.out)
        have n4_ := As_ (bwD HB.out)
        clear HO_655000
        clear BK646
        clear BK647
        clear BK654
        clear HB
        have HO_655000 := n0_
        have BK646 := n1_
        have BK647 := n2_
        have BK654 := n3_
        have HB := n4_
        clear n0_ n1_ n2_ n3_ n4_
        obtain ⟨i043,hi043,_,hsz43,_⟩ := info_parts info3
        obtain ⟨hcut43,hA43,hC43⟩ := print_take_of (P := Try.prog) (Value.int .i64) 0 26 3 .i64 Try.underlying26 hi043 hsz43 (some ad653) c1 l1 x6_2 (odT zA_) (odT zA_) HC1.out
        have HR655 := As_ (Kd.C_of_reads (h1 := fun _ => rfl) (hA43 _ (Kd.reads_of_C HR1.out)))
        have HC655 := As_ hC43
        clear hA43 hC43 hi043 hsz43
        have p656 : 0 ≤ (x6_2 : Int) := odT zA_
        have q656 : x6_2 < (l1.length : Int) := odT zA_
        obtain ⟨ad656,e656,hx656_0⟩ := Kd.at_int HR1.out x6_2 p656 q656
        have hw656_0 := hx656_0
        obtain rfl : ad653 = ad656 := (by injection e656)
        replace hx656_0 := (HB.out.cell (bwL w _ hx656_0)).trans hx656_0
        replace p656 := eq_true p656
        replace q656 := eq_true q656
        refine start_ (n := 9) (S := fun w' => w'.cell? (ad653.add (x6_2).toNat) = some (.int .i64 (rd l1 x6_2))) (ds := []) (bl_ 0 9) (by kernel_rfl) rfl rfl (((HB.out.cell (bwL w _ hw656_0)).trans hw656_0)) (fun hHeld => ?_);refine with_tabW spec_RenumberGraph.tab7 spec_RenumberGraph.bits7 (fun HT_ HW_ => ?_)
        generalize wr.drew = w42 at HO_655000 BK646 BK647 BK654 HB HR655 hx656_0 hHeld ⊢
        refine pP 0 44 (bl_ 1 9) ?_ HT_ rfl (.inl ⟨by rfl,?_⟩) ?_ ?_ ?_;rotate_left;(intro w';go_simp;with_reducible rfl);rotate_left;(simp only [Act.put,sq_,i64_w,i32_w];rfl)
        refine pP 1 45 (bl_ 3 9) ?_ HT_ rfl (.inl ⟨by rfl,?_⟩) ?_ ?_ ?_;rotate_left;(intro w';go_simp;with_reducible rfl);rotate_left;(simp only [Act.put,sq_,i64_w,i32_w];rfl)
        refine pP 2 46 (bl_ 7 9) ?_ HT_ rfl (.inl ⟨by rfl,?_⟩) ?_ ?_ ?_;rotate_left;(intro w';go_simp;with_reducible rfl);rotate_left;(simp only [Act.put,sq_,i64_w,i32_w];rfl)
        refine pP 3 47 (bl_ 15 9) ?_ HT_ rfl (.inl ⟨by rfl,?_⟩) ?_ ?_ ?_;rotate_left;(intro w';go_simp;with_reducible rfl);rotate_left;(simp only [Act.put,sq_,i64_w,i32_w];rfl)
        refine pP 4 48 (bl_ 31 9) ?_ HT_ rfl (.inl ⟨by rfl,?_⟩) ?_ ?_ ?_;rotate_left;(intro w';go_simp;with_reducible rfl);rotate_left;(simp only [Act.put,sq_,i64_w,i32_w];rfl)
        refine pP 5 49 (bl_ 63 9) ?_ HT_ rfl (.inl ⟨by rfl,?_⟩) ?_ ?_ ?_;rotate_left;(intro w';go_simp;with_reducible rfl);rotate_left;(simp only [Act.put,sq_,i64_w,i32_w];rfl)
        refine tP 6 50 (bl_ 127 9) ?_ HT_ HW_ rfl (.inl ⟨by rfl,?_⟩) hHeld ?_ ?_ ?_
        rotate_left
        ·intro w' s0
         go_simp
         with_reducible rfl
        rotate_left
        ·simp only [Act.put,sq_,i64_w,i32_w]
         rfl
        refine one_ (i := 7) (N := some 51) (bl_ 255 9) rfl rfl (one_of HT_.out (by kernel_rfl)) (by decide) (fun K hK => ?_)
        refine goes_ Try.func58 (by kernel_rfl) rfl #[.slice (some ad653) (l1.take (x6_2 : Int).toNat).length c1,.int .i64 (rd l1 x6_2)] (by rfl) rfl rfl (by (try simp only [List.map_toArray,List.map_cons,List.map_nil]);first|done|(rw [show (l1.take (x6_2 : Int).toNat).length = x6_2.toNat from (by rw [List.length_take];have h_ : (x6_2 : Int) ≤ (l1.length : Int) := odT zA_;omega)] <;> rfl)|rfl|(simp only [List.length_drop,List.length_take];rfl)) ?_
        with_reducible refine (spec_placeIn.calls k2 _ _ (l1.take (x6_2 : Int).toNat) (rd l1 x6_2) t657 _ ?side1 ?side2 A40.out).mono ?_
        (case side1 => repeat (first|exact (Kd.C_below HR655.out HB.out)|(with_reducible refine Kd.C_alloc ?_ _)|(with_reducible refine Kd.C_drewN ?_ _)|(with_reducible refine Kd.C_drew ?_)))
        (case side2 => exact HC655.out)
        rintro e w' ⟨rfl,⟨nd,rfl⟩⟩
        refine ⟨_,rfl,?_⟩
        refine hK.out _ _ (((HB.out.cell (bwL w _ hw656_0)).trans hw656_0)) (fun hHeld => ?_)
        clear hK K
        refine norm_ (a' := ?_) ?_ ?_
        rotate_left
        ·show Act.put _ (some 51) _ = _
         simp only [Act.put,sq_,i64_w,i32_w]
         rfl
        refine pP 8 52 (bl_ 511 9) ?_ HT_ rfl (.inl ⟨by rfl,?_⟩) ?_ ?_ ?_;rotate_left;(intro w';go_simp;with_reducible rfl);rotate_left;(simp only [Act.put,sq_,i64_w,i32_w];rfl)
        refine done_ (done_of HT_.out (by kernel_rfl)) ?_
        have hnb44 := NB647_646.out
        have hnc44 := NB646_647.out
        have hnb45 := NB647_654.out
        have hnc45 := NB654_647.out
        have hcz46_0 : w42.cell? ⟨gb647,0,none⟩ = some (.slice none 0 0) := (bkC BK647.out 0).trans rfl
        have hcz46_1 : w42.cell? ⟨gb647,1,none⟩ = some (.int .i64 x648001_2) := (bkC BK647.out 1).trans rfl
        have hfz46_0 := bkF BK647.out 0
        have hfz46_1 := bkF BK647.out 1
        try go_wp2
        refine bodyPost_ret (results_cell_row rfl _ _ gb647 25 #[.slice none 0 0,.int .i64 0] (0,0) _ rfl (by (with_reducible repeat (first|refine bkN ?_ _|refine bkD ?_|refine bkA ?_ _));refine blk_put (cs := #[.slice none 0 0,.int .i64 x648001_2]) ?_ 1 _ rfl;(with_reducible repeat (first|refine bkN ?_ _|refine bkD ?_|refine bkA ?_ _));refine blk_put (cs := #[.slice none 0 0,.int .i64 x648001_2]) ?_ 0 _ rfl;(with_reducible repeat (first|refine bkN ?_ _|refine bkD ?_|refine bkA ?_ _));exact BK647.out) Try.underlying25 rfl (by kernel_rfl)) rfl ?_
        exact ⟨_,by first|rfl|(simp [errW_none,errW_some] <;> rfl)|(simp [*,errW_none,errW_some] <;> rfl),by first|exact Kd.S_nil _ _ _ _ _|exact Kd.S_nil _ _ _ _ _|exact Kd.V_nil _ _ _ _ _|exact Kd.Q_nil _ _ _ _ _|exact Kd.R_nil _ _ _ _ _,by repeat (first|(with_reducible first|exact HB.out|apply bwA|apply bwN|apply bwD|refine bwS ?_ GE646.out|refine bwS ?_ GE647.out|refine bwS ?_ GE654.out)|exact HB.out)⟩
       ·rw [if_neg c41] at H
        have c41b0 : decide (0 ≤ t657) = false := deF c41
        clear c41
        by_cases c47 : x6_2 < (l0_0.length : Int)
        rotate_left
        ·rw [if_neg c47] at H
         exact absurd H (by simp)
        rw [if_pos c47] at H
        have c47b0 : decide (x6_2 < (l0_0.length : Int)) = true := deT c47
        clear c47
        have H' := As_ H
        clear H
        try go_wp2
        have n0_ := As_ (Kd.S_drew HO_655000.out)
        have n1_ := As_ (bkD BK646.out)
        have n2_ := As_ (bkD BK647.out)
        have n3_ := As_ (bkD BK654.out)
        have n4_ := As_ (bwD HB.out)
        clear HO_655000
        clear BK646
        clear BK647
        clear BK654
        clear HB
        have HO_655000 := n0_
        have BK646 := n1_
        have BK647 := n2_
        have BK654 := n3_
        have HB := n4_
        clear n0_ n1_ n2_ n3_ n4_
        obtain ⟨i049,hi049,_,hsz49,_⟩ := info_parts info3
        obtain ⟨hcut49,hA49,hC49⟩ := print_take_of (P := Try.prog) (Value.int .i64) 0 26 3 .i64 Try.underlying26 hi049 hsz49 (some ad653) c1 l1 x6_2 (odT zA_) (odT zA_) HC1.out
        have HR655 := As_ (Kd.C_of_reads (h1 := fun _ => rfl) (hA49 _ (Kd.reads_of_C HR1.out)))
        have HC655 := As_ hC49
        clear hA49 hC49 hi049 hsz49
        have p656 : 0 ≤ (x6_2 : Int) := odT zA_
        have q656 : x6_2 < (l1.length : Int) := odT zA_
        obtain ⟨ad656,e656,hx656_0⟩ := Kd.at_int HR1.out x6_2 p656 q656
        have hw656_0 := hx656_0
        obtain rfl : ad653 = ad656 := (by injection e656)
        replace hx656_0 := (HB.out.cell (bwL w _ hx656_0)).trans hx656_0
        replace p656 := eq_true p656
        replace q656 := eq_true q656
        refine start_ (n := 9) (S := fun w' => w'.cell? (ad653.add (x6_2).toNat) = some (.int .i64 (rd l1 x6_2))) (ds := []) (bl_ 0 9) (by kernel_rfl) rfl rfl (((HB.out.cell (bwL w _ hw656_0)).trans hw656_0)) (fun hHeld => ?_);refine with_tabW spec_RenumberGraph.tab7 spec_RenumberGraph.bits7 (fun HT_ HW_ => ?_)
        generalize wr.drew = w48 at HO_655000 BK646 BK647 BK654 HB HR655 hx656_0 hHeld ⊢
        refine pP 0 44 (bl_ 1 9) ?_ HT_ rfl (.inl ⟨by rfl,?_⟩) ?_ ?_ ?_;rotate_left;(intro w';go_simp;with_reducible rfl);rotate_left;(simp only [Act.put,sq_,i64_w,i32_w];rfl)
        refine pP 1 45 (bl_ 3 9) ?_ HT_ rfl (.inl ⟨by rfl,?_⟩) ?_ ?_ ?_;rotate_left;(intro w';go_simp;with_reducible rfl);rotate_left;(simp only [Act.put,sq_,i64_w,i32_w];rfl)
        refine pP 2 46 (bl_ 7 9) ?_ HT_ rfl (.inl ⟨by rfl,?_⟩) ?_ ?_ ?_;rotate_left;(intro w';go_simp;with_reducible rfl);rotate_left;(simp only [Act.put,sq_,i64_w,i32_w];rfl)
        refine pP 3 47 (bl_ 15 9) ?_ HT_ rfl (.inl ⟨by rfl,?_⟩) ?_ ?_ ?_;rotate_left;(intro w';go_simp;with_reducible rfl);rotate_left;(simp only [Act.put,sq_,i64_w,i32_w];rfl)
        refine pP 4 48 (bl_ 31 9) ?_ HT_ rfl (.inl ⟨by rfl,?_⟩) ?_ ?_ ?_;rotate_left;(intro w';go_simp;with_reducible rfl);rotate_left;(simp only [Act.put,sq_,i64_w,i32_w];rfl)
        refine pP 5 49 (bl_ 63 9) ?_ HT_ rfl (.inl ⟨by rfl,?_⟩) ?_ ?_ ?_;rotate_left;(intro w';go_simp;with_reducible rfl);rotate_left;(simp only [Act.put,sq_,i64_w,i32_w];rfl)
        refine tP 6 50 (bl_ 127 9) ?_ HT_ HW_ rfl (.inl ⟨by rfl,?_⟩) hHeld ?_ ?_ ?_
        rotate_left
        ·intro w' s0
         go_simp
         with_reducible rfl
        rotate_left
        ·simp only [Act.put,sq_,i64_w,i32_w]
         rfl
        refine one_ (i := 7) (N := some 51) (bl_ 255 9) rfl rfl (one_of HT_.out (by kernel_rfl)) (by decide) (fun K hK => ?_)
        refine goes_ Try.func58 (by kernel_rfl) rfl #[.slice (some ad653) (l1.take (x6_2 : Int).toNat).length c1,.int .i64 (rd l1 x6_2)] (by rfl) rfl rfl (by (try simp only [List.map_toArray,List.map_cons,List.map_nil]);first|done|(rw [show (l1.take (x6_2 : Int).toNat).length = x6_2.toNat from (by rw [List.length_take];have h_ : (x6_2 : Int) ≤ (l1.length : Int) := odT zA_;omega)] <;> rfl)|rfl|(simp only [List.length_drop,List.length_take];rfl)) ?_
        with_reducible refine (spec_placeIn.calls k2 _ _ (l1.take (x6_2 : Int).toNat) (rd l1 x6_2) t657 _ ?side1 ?side2 A40.out).mono ?_
        (case side1 => repeat (first|exact (Kd.C_below HR655.out HB.out)|(with_reducible refine Kd.C_alloc ?_ _)|(with_reducible refine Kd.C_drewN ?_ _)|(with_reducible refine Kd.C_drew ?_)))
        (case side2 => exact HC655.out)
        rintro e w' ⟨rfl,⟨nd,rfl⟩⟩
        refine ⟨_,rfl,?_⟩
        refine hK.out _ _ (((HB.out.cell (bwL w _ hw656_0)).trans hw656_0)) (fun hHeld => ?_)
        clear hK K
        refine norm_ (a' := ?_) ?_ ?_
        rotate_left
        ·show Act.put _ (some 51) _ = _
         simp only [Act.put,sq_,i64_w,i32_w]
         rfl
        refine pP 8 52 (bl_ 511 9) ?_ HT_ rfl (.inl ⟨by rfl,?_⟩) ?_ ?_ ?_;rotate_left;(intro w';go_simp;with_reducible rfl);rotate_left;(simp only [Act.put,sq_,i64_w,i32_w];rfl)
        refine done_ (done_of HT_.out (by kernel_rfl)) ?_
        try go_wp2
        (try (rw [drewN_self w48];generalize hq_ : World.drewN w48 _ = w48;have n0_ : Aside0 (Kd.S k58 58 w48 w.heap.size (fun k_ => k_ ≠ gb646 ∧ k_ ≠ gb647 ∧ k_ ≠ gb654) u655000 x655000_2) := ⟨by rw [← hq_];exact (zS_ HO_655000.out)⟩;have n1_ : Aside0 (w48.heap[gb646]? = some (.cells #[.slice A0_0 l0_0.length c0_0,.int .i64 a0_1] 25 (0,0))) := ⟨by rw [← hq_];exact (zk_ BK646.out)⟩;have n2_ : Aside0 (w48.heap[gb647]? = some (.cells #[.slice none 0 0,.int .i64 x648001_2] 25 (0,0))) := ⟨by rw [← hq_];exact (zk_ BK647.out)⟩;have n3_ : Aside0 (w48.heap[gb654]? = some (.cells #[u655000,.int .i64 (rd l1 a0_1)] 25 (0,0))) := ⟨by rw [← hq_];exact (zk_ BK654.out)⟩;have n4_ : Aside0 (Below w.heap.size w w48) := ⟨by rw [← hq_];exact (zb3 HB.out GE646.out GE647.out GE654.out)⟩;clear HO_655000 BK646 BK647 BK654 HB hq_;have HO_655000 := n0_;have BK646 := n1_;have BK647 := n2_;have BK654 := n3_;have HB := n4_;clear n0_ n1_ n2_ n3_ n4_))
        have n0_ := As_ (Kd.S_drew HO_655000.out)
        have n1_ := As_ (bkD BK646.out)
        have n2_ := As_ (bkD BK647.out)
        have n3_ := As_ (bkD BK654.out)
        have n4_ := As_ (bwD HB.out)
        clear HO_655000
        clear BK646
        clear BK647
        clear BK654
        clear HB
        have HO_655000 := n0_
        have BK646 := n1_
        have BK647 := n2_
        have BK654 := n3_
        have HB := n4_
        clear n0_ n1_ n2_ n3_ n4_
        have p658 : 0 ≤ (x6_2 : Int) := odT zA_
        have q658 : x6_2 < (l0_0.length : Int) := odT zA_
        obtain ⟨ad658,A658_2,c658_2,e658,hx658_0,hx658_1,hx658_2,hl658_2,hi658_2⟩ := at_T58 HR0_0.out x6_2 p658 q658
        have hw658_2 := hx658_2
        have hw658_1 := hx658_1
        have hw658_0 := hx658_0
        cases e658
        replace hx658_0 := (HB.out.cell (bwL w _ hx658_0)).trans hx658_0
        replace hx658_1 := (HB.out.cell (bwL w _ hx658_1)).trans hx658_1
        replace hx658_2 := (HB.out.cell (bwL w _ hx658_2)).trans hx658_2
        have HR658_2 := As_ hi658_2
        have HC658_2 := As_ hl658_2
        clear hi658_2 hl658_2
        replace p658 := eq_true p658
        replace q658 := eq_true q658
        have p659 : 0 ≤ (x6_2 : Int) := odT zA_
        have q659 : x6_2 < (l0_0.length : Int) := odT zA_
        obtain ⟨ad659,A659_2,c659_2,e659,hx659_0,hx659_1,hx659_2,hl659_2,hi659_2⟩ := at_T58 HR0_0.out x6_2 p659 q659
        have hw659_2 := hx659_2
        have hw659_1 := hx659_1
        have hw659_0 := hx659_0
        obtain rfl : ad658 = ad659 := (by injection e659)
        replace hx659_0 := (HB.out.cell (bwL w _ hx659_0)).trans hx659_0
        replace hx659_1 := (HB.out.cell (bwL w _ hx659_1)).trans hx659_1
        replace hx659_2 := (HB.out.cell (bwL w _ hx659_2)).trans hx659_2
        have HR659_2 := As_ hi659_2
        have HC659_2 := As_ hl659_2
        clear hi659_2 hl659_2
        replace p659 := eq_true p659
        replace q659 := eq_true q659
        have ea_ := Option.some.inj (hx658_2.symm.trans hx659_2)
        injection ea_ with ea_ en_ ec_
        subst ea_
        subst ec_
        clear en_
        refine start_ (n := 15) (S := fun w' => w'.cell? ⟨gb646,0,none⟩ = some (.slice (some ad658) l0_0.length c0_0) ∧ w'.cell? ⟨gb646,1,none⟩ = some (.int .i64 a0_1) ∧ w'.cell? (ad658.add ((x6_2).toNat * 3)) = some (.int .i64 ((rd_T58 l0_0 x6_2).f0)) ∧ w'.cell? ⟨(ad658.add ((x6_2).toNat * 3)).block,(ad658.add ((x6_2).toNat * 3)).off + 1,none⟩ = some (.int .i64 ((rd_T58 l0_0 x6_2).f1)) ∧ w'.cell? ⟨(ad658.add ((x6_2).toNat * 3)).block,(ad658.add ((x6_2).toNat * 3)).off + 2,none⟩ = some (.slice A658_2 ((rd_T58 l0_0 x6_2).f2).length c658_2) ∧ w'.cell? (ad658.add ((x6_2).toNat * 3)) = some (.int .i64 ((rd_T58 l0_0 x6_2).f0)) ∧ w'.cell? ⟨(ad658.add ((x6_2).toNat * 3)).block,(ad658.add ((x6_2).toNat * 3)).off + 1,none⟩ = some (.int .i64 ((rd_T58 l0_0 x6_2).f1)) ∧ w'.cell? ⟨(ad658.add ((x6_2).toNat * 3)).block,(ad658.add ((x6_2).toNat * 3)).off + 2,none⟩ = some (.slice A658_2 ((rd_T58 l0_0 x6_2).f2).length c658_2)) (ds := []) (bl_ 0 15) (by kernel_rfl) rfl rfl ⟨(bkC BK646.out 0).trans rfl,(bkC BK646.out 1).trans rfl,((HB.out.cell (bwL w _ hw658_0)).trans hw658_0),((HB.out.cell (bwL w _ hw658_1)).trans hw658_1),((HB.out.cell (bwL w _ hw658_2)).trans hw658_2),((HB.out.cell (bwL w _ hw659_0)).trans hw659_0),((HB.out.cell (bwL w _ hw659_1)).trans hw659_1),((HB.out.cell (bwL w _ hw659_2)).trans hw659_2)⟩ (fun hHeld => ?_);refine with_tabW spec_RenumberGraph.tab9 spec_RenumberGraph.bits9 (fun HT_ HW_ => ?_)
        generalize w48.drew = w50 at HO_655000 BK646 BK647 BK654 HB HR658_2 HR659_2 hx658_0 hx658_1 hx658_2 hx659_0 hx659_1 hx659_2 hHeld ⊢
        refine pP 0 54 (bl_ 1 15) ?_ HT_ rfl (.inl ⟨by rfl,?_⟩) ?_ ?_ ?_;rotate_left;(intro w';go_simp;with_reducible rfl);rotate_left;(simp only [Act.put,sq_,i64_w,i32_w];rfl)
        refine pP 2 56 (bl_ 5 15) ?_ HT_ rfl (.inl ⟨by rfl,?_⟩) ?_ ?_ ?_;rotate_left;(intro w';go_simp;with_reducible rfl);rotate_left;(simp only [Act.put,sq_,i64_w,i32_w];rfl)
        refine pP 6 60 (bl_ 69 15) ?_ HT_ rfl (.inl ⟨by rfl,?_⟩) ?_ ?_ ?_;rotate_left;(intro w';go_simp;with_reducible rfl);rotate_left;(simp only [Act.put,sq_,i64_w,i32_w];rfl)
        refine pP 8 62 (bl_ 325 15) ?_ HT_ rfl (.inl ⟨by rfl,?_⟩) ?_ ?_ ?_;rotate_left;(intro w';go_simp;with_reducible rfl);rotate_left;(simp only [Act.put,sq_,i64_w,i32_w];rfl)
        refine tP 1 55 (bl_ 327 15) ?_ HT_ HW_ rfl (.inl ⟨by rfl,?_⟩) hHeld ?_ ?_ ?_;rotate_left;(rintro w' ⟨s0,s1,s2,s3,s4,s5,s6,s7⟩;go_simp;with_reducible rfl);rotate_left;(simp only [Act.put,sq_,i64_w,i32_w];rfl)
        refine pP 3 57 (bl_ 335 15) ?_ HT_ rfl (.inl ⟨by rfl,?_⟩) ?_ ?_ ?_;rotate_left;(intro w';go_simp;with_reducible rfl);rotate_left;(simp only [Act.put,sq_,i64_w,i32_w];rfl)
        refine pP 4 58 (bl_ 351 15) ?_ HT_ rfl (.inl ⟨by rfl,?_⟩) ?_ ?_ ?_;rotate_left;(intro w';go_simp;with_reducible rfl);rotate_left;(simp only [Act.put,sq_,i64_w,i32_w];rfl)
        refine tP 5 59 (bl_ 383 15) ?_ HT_ HW_ rfl (.inl ⟨by rfl,?_⟩) hHeld ?_ ?_ ?_;rotate_left;(rintro w' ⟨s0,s1,s2,s3,s4,s5,s6,s7⟩;go_simp;with_reducible rfl);rotate_left;(simp only [Act.put,sq_,i64_w,i32_w];rfl)
        refine tP 7 61 (bl_ 511 15) ?_ HT_ HW_ rfl (.inl ⟨by rfl,?_⟩) hHeld ?_ ?_ ?_;rotate_left;(rintro w' ⟨s0,s1,s2,s3,s4,s5,s6,s7⟩;go_simp;with_reducible rfl);rotate_left;(simp only [Act.put,sq_,i64_w,i32_w];rfl)
        refine pP 9 63 (bl_ 1023 15) ?_ HT_ rfl (.inl ⟨by rfl,?_⟩) ?_ ?_ ?_;rotate_left;(intro w';go_simp;with_reducible rfl);rotate_left;(simp only [Act.put,sq_,i64_w,i32_w];rfl)
        refine pP 10 64 (bl_ 2047 15) ?_ HT_ rfl (.inl ⟨by rfl,?_⟩) ?_ ?_ ?_;rotate_left;(intro w';go_simp;with_reducible rfl);rotate_left;(simp only [Act.put,sq_,i64_w,i32_w];rfl)
        refine tP 11 65 (bl_ 4095 15) ?_ HT_ HW_ rfl (.inl ⟨by rfl,?_⟩) hHeld ?_ ?_ ?_;rotate_left;(rintro w' ⟨s0,s1,s2,s3,s4,s5,s6,s7⟩;go_simp;with_reducible rfl);rotate_left;(simp only [Act.put,sq_,i64_w,i32_w];rfl)
        refine pP 12 66 (bl_ 8191 15) ?_ HT_ rfl (.inl ⟨by rfl,?_⟩) ?_ ?_ ?_;rotate_left;(intro w';go_simp;with_reducible rfl);rotate_left;(simp only [Act.put,sq_,i64_w,i32_w];rfl)
        refine one_ (i := 13) (N := some 7) (bl_ 16383 15) rfl rfl (one_of HT_.out (by kernel_rfl)) (by decide) (fun K hK => ?_)
        refine box_step ?hg (N := 7) ?hd (cs := #[.int .i64 0,.int .i64 0,.slice none 0 0]) (t := 58) ?hr ?_;(case hd => rfl);(case hg => rfl);(case hr => go_simp <;> rfl)
        intro gb660 hg w51 hbox hb
        have n0_ := As_ (Kd.S_below (Kd.S_elderB (zS_ HO_655000.out) gb660 (Nat.le_of_eq hg.symm)) hb)
        have n1_ := As_ (zkb BK646.out hb)
        have n2_ := As_ (zkb BK647.out hb)
        have n3_ := As_ (zkb BK654.out hb)
        have n4_ := As_ (bwT (zb3 HB.out GE646.out GE647.out GE654.out) hb)
        have n5_ := As_ (hbox)
        have n6_ := As_ ((by rw [hg];exact (bwZ (zb3 HB.out GE646.out GE647.out GE654.out)) : w.heap.size ≤ gb660))
        have n7_ := As_ ((by rw [hg];exact (bwZ (zb3 HB.out GE646.out GE647.out GE654.out)) : w.heap.size ≤ gb660))
        have n8_ := As_ ((by rw [hg];exact Nat.ne_of_lt (zkl BK646.out) : gb646 ≠ gb660))
        have n9_ := As_ ((by rw [hg];exact Nat.ne_of_gt (zkl BK646.out) : gb660 ≠ gb646))
        have n10_ := As_ ((by rw [hg];exact Nat.ne_of_lt (zkl BK647.out) : gb647 ≠ gb660))
        have n11_ := As_ ((by rw [hg];exact Nat.ne_of_gt (zkl BK647.out) : gb660 ≠ gb647))
        have n12_ := As_ ((by rw [hg];exact Nat.ne_of_lt (zkl BK654.out) : gb654 ≠ gb660))
        have n13_ := As_ ((by rw [hg];exact Nat.ne_of_gt (zkl BK654.out) : gb660 ≠ gb654))
        clear HO_655000
        clear BK646
        clear BK647
        clear BK654
        clear HB
        have HO_655000 := n0_
        have BK646 := n1_
        have BK647 := n2_
        have BK654 := n3_
        have HB := n4_
        have BK660 := n5_
        have GW660 := n6_
        have GE660 := n7_
        have NB646_660 := n8_
        have NB660_646 := n9_
        have NB647_660 := n10_
        have NB660_647 := n11_
        have NB654_660 := n12_
        have NB660_654 := n13_
        clear n0_ n1_ n2_ n3_ n4_ n5_ n6_ n7_ n8_ n9_ n10_ n11_ n12_ n13_
        clear hb hbox hg
        refine hK.out _ _ ⟨(bkC BK646.out 0).trans rfl,(bkC BK646.out 1).trans rfl,((HB.out.cell (bwL w _ hw658_0)).trans hw658_0),((HB.out.cell (bwL w _ hw658_1)).trans hw658_1),((HB.out.cell (bwL w _ hw658_2)).trans hw658_2),((HB.out.cell (bwL w _ hw659_0)).trans hw659_0),((HB.out.cell (bwL w _ hw659_1)).trans hw659_1),((HB.out.cell (bwL w _ hw659_2)).trans hw659_2)⟩ (fun hHeld => ?_)
        clear hK K
        refine norm_ (a' := ?_) ?_ ?_
        rotate_left
        ·show Act.put _ (some 7) _ = _
         simp only [Act.put,sq_,i64_w,i32_w]
         rfl
        refine one_ (i := 14) (N := none) (bl_ 32767 15) rfl rfl (one_of HT_.out (by kernel_rfl)) (by decide) (fun K hK => ?_)
        have hs52 : w51.cell? ⟨gb660,0,none⟩ = some (.int .i64 0) := (bkC BK660.out 0).trans rfl
        have hfs52 := bkF BK660.out 0
        have hns52_0 := NB646_660.out
        have hns52_1 := NB647_660.out
        have hns52_2 := NB654_660.out
        have hms52_0 := NB660_646.out
        have hms52_1 := NB660_647.out
        have hms52_2 := NB660_654.out
        have hs53 : w51.cell? ⟨gb660,1,none⟩ = some (.int .i64 0) := (bkC BK660.out 1).trans rfl
        have hfs53 := bkF BK660.out 1
        have hns53_0 := NB646_660.out
        have hns53_1 := NB647_660.out
        have hns53_2 := NB654_660.out
        have hms53_0 := NB660_646.out
        have hms53_1 := NB660_647.out
        have hms53_2 := NB660_654.out
        have hs54 : w51.cell? ⟨gb660,2,none⟩ = some (.slice none 0 0) := (bkC BK660.out 2).trans rfl
        have hfs54 := bkF BK660.out 2
        have hns54_0 := NB646_660.out
        have hns54_1 := NB647_660.out
        have hns54_2 := NB654_660.out
        have hms54_0 := NB660_646.out
        have hms54_1 := NB660_647.out
        have hms54_2 := NB660_654.out
        refine skip_ (w1 := ?_) (by rfl) rfl ?_ ?_
        rotate_left
        ·go_simp
         rfl
        refine hK.out _ _ ⟨((cell_far (p := ⟨gb660,_,none⟩) NB646_660.out _).trans (((cell_far (p := ⟨gb660,_,none⟩) NB646_660.out _).trans (((cell_far (p := ⟨gb660,_,none⟩) NB646_660.out _).trans (hHeld.1)))))),((cell_far (p := ⟨gb660,_,none⟩) NB646_660.out _).trans (((cell_far (p := ⟨gb660,_,none⟩) NB646_660.out _).trans (((cell_far (p := ⟨gb660,_,none⟩) NB646_660.out _).trans (hHeld.2.1)))))),((cell_far (p := ⟨gb660,_,none⟩) (by first|exact Nat.ne_of_lt (Nat.lt_of_lt_of_le (by have := bwL _ _ hw658_0;first|rwa [add_block] at this|exact this) GW660.out)|(rw [add_block];exact Nat.ne_of_lt (Nat.lt_of_lt_of_le (by have := bwL _ _ hw658_0;first|rwa [add_block] at this|exact this) GW660.out))|(show (Addr.add _ _).block ≠ _;rw [add_block];exact Nat.ne_of_lt (Nat.lt_of_lt_of_le (by have := bwL _ _ hw658_0;first|rwa [add_block] at this|exact this) GW660.out))|(dsimp only;exact Nat.ne_of_lt (Nat.lt_of_lt_of_le (by have := bwL _ _ hw658_0;first|rwa [add_block] at this|exact this) GW660.out))) _).trans (((cell_far (p := ⟨gb660,_,none⟩) (by first|exact Nat.ne_of_lt (Nat.lt_of_lt_of_le (by have := bwL _ _ hw658_0;first|rwa [add_block] at this|exact this) GW660.out)|(rw [add_block];exact Nat.ne_of_lt (Nat.lt_of_lt_of_le (by have := bwL _ _ hw658_0;first|rwa [add_block] at this|exact this) GW660.out))|(show (Addr.add _ _).block ≠ _;rw [add_block];exact Nat.ne_of_lt (Nat.lt_of_lt_of_le (by have := bwL _ _ hw658_0;first|rwa [add_block] at this|exact this) GW660.out))|(dsimp only;exact Nat.ne_of_lt (Nat.lt_of_lt_of_le (by have := bwL _ _ hw658_0;first|rwa [add_block] at this|exact this) GW660.out))) _).trans (((cell_far (p := ⟨gb660,_,none⟩) (by first|exact Nat.ne_of_lt (Nat.lt_of_lt_of_le (by have := bwL _ _ hw658_0;first|rwa [add_block] at this|exact this) GW660.out)|(rw [add_block];exact Nat.ne_of_lt (Nat.lt_of_lt_of_le (by have := bwL _ _ hw658_0;first|rwa [add_block] at this|exact this) GW660.out))|(show (Addr.add _ _).block ≠ _;rw [add_block];exact Nat.ne_of_lt (Nat.lt_of_lt_of_le (by have := bwL _ _ hw658_0;first|rwa [add_block] at this|exact this) GW660.out))|(dsimp only;exact Nat.ne_of_lt (Nat.lt_of_lt_of_le (by have := bwL _ _ hw658_0;first|rwa [add_block] at this|exact this) GW660.out))) _).trans (hHeld.2.2.1)))))),((cell_far (p := ⟨gb660,_,none⟩) (by first|exact Nat.ne_of_lt (Nat.lt_of_lt_of_le (by have := bwL _ _ hw658_1;first|rwa [add_block] at this|exact this) GW660.out)|(rw [add_block];exact Nat.ne_of_lt (Nat.lt_of_lt_of_le (by have := bwL _ _ hw658_1;first|rwa [add_block] at this|exact this) GW660.out))|(show (Addr.add _ _).block ≠ _;rw [add_block];exact Nat.ne_of_lt (Nat.lt_of_lt_of_le (by have := bwL _ _ hw658_1;first|rwa [add_block] at this|exact this) GW660.out))|(dsimp only;exact Nat.ne_of_lt (Nat.lt_of_lt_of_le (by have := bwL _ _ hw658_1;first|rwa [add_block] at this|exact this) GW660.out))) _).trans (((cell_far (p := ⟨gb660,_,none⟩) (by first|exact Nat.ne_of_lt (Nat.lt_of_lt_of_le (by have := bwL _ _ hw658_1;first|rwa [add_block] at this|exact this) GW660.out)|(rw [add_block];exact Nat.ne_of_lt (Nat.lt_of_lt_of_le (by have := bwL _ _ hw658_1;first|rwa [add_block] at this|exact this) GW660.out))|(show (Addr.add _ _).block ≠ _;rw [add_block];exact Nat.ne_of_lt (Nat.lt_of_lt_of_le (by have := bwL _ _ hw658_1;first|rwa [add_block] at this|exact this) GW660.out))|(dsimp only;exact Nat.ne_of_lt (Nat.lt_of_lt_of_le (by have := bwL _ _ hw658_1;first|rwa [add_block] at this|exact this) GW660.out))) _).trans (((cell_far (p := ⟨gb660,_,none⟩) (by first|exact Nat.ne_of_lt (Nat.lt_of_lt_of_le (by have := bwL _ _ hw658_1;first|rwa [add_block] at this|exact this) GW660.out)|(rw [add_block];exact Nat.ne_of_lt (Nat.lt_of_lt_of_le (by have := bwL _ _ hw658_1;first|rwa [add_block] at this|exact this) GW660.out))|(show (Addr.add _ _).block ≠ _;rw [add_block];exact Nat.ne_of_lt (Nat.lt_of_lt_of_le (by have := bwL _ _ hw658_1;first|rwa [add_block] at this|exact this) GW660.out))|(dsimp only;exact Nat.ne_of_lt (Nat.lt_of_lt_of_le (by have := bwL _ _ hw658_1;first|rwa [add_block] at this|exact this) GW660.out))) _).trans (hHeld.2.2.2.1)))))),((cell_far (p := ⟨gb660,_,none⟩) (by first|exact Nat.ne_of_lt (Nat.lt_of_lt_of_le (by have := bwL _ _ hw658_2;first|rwa [add_block] at this|exact this) GW660.out)|(rw [add_block];exact Nat.ne_of_lt (Nat.lt_of_lt_of_le (by have := bwL _ _ hw658_2;first|rwa [add_block] at this|exact this) GW660.out))|(show (Addr.add _ _).block ≠ _;rw [add_block];exact Nat.ne_of_lt (Nat.lt_of_lt_of_le (by have := bwL _ _ hw658_2;first|rwa [add_block] at this|exact this) GW660.out))|(dsimp only;exact Nat.ne_of_lt (Nat.lt_of_lt_of_le (by have := bwL _ _ hw658_2;first|rwa [add_block] at this|exact this) GW660.out))) _).trans (((cell_far (p := ⟨gb660,_,none⟩) (by first|exact Nat.ne_of_lt (Nat.lt_of_lt_of_le (by have := bwL _ _ hw658_2;first|rwa [add_block] at this|exact this) GW660.out)|(rw [add_block];exact Nat.ne_of_lt (Nat.lt_of_lt_of_le (by have := bwL _ _ hw658_2;first|rwa [add_block] at this|exact this) GW660.out))|(show (Addr.add _ _).block ≠ _;rw [add_block];exact Nat.ne_of_lt (Nat.lt_of_lt_of_le (by have := bwL _ _ hw658_2;first|rwa [add_block] at this|exact this) GW660.out))|(dsimp only;exact Nat.ne_of_lt (Nat.lt_of_lt_of_le (by have := bwL _ _ hw658_2;first|rwa [add_block] at this|exact this) GW660.out))) _).trans (((cell_far (p := ⟨gb660,_,none⟩) (by first|exact Nat.ne_of_lt (Nat.lt_of_lt_of_le (by have := bwL _ _ hw658_2;first|rwa [add_block] at this|exact this) GW660.out)|(rw [add_block];exact Nat.ne_of_lt (Nat.lt_of_lt_of_le (by have := bwL _ _ hw658_2;first|rwa [add_block] at this|exact this) GW660.out))|(show (Addr.add _ _).block ≠ _;rw [add_block];exact Nat.ne_of_lt (Nat.lt_of_lt_of_le (by have := bwL _ _ hw658_2;first|rwa [add_block] at this|exact this) GW660.out))|(dsimp only;exact Nat.ne_of_lt (Nat.lt_of_lt_of_le (by have := bwL _ _ hw658_2;first|rwa [add_block] at this|exact this) GW660.out))) _).trans (hHeld.2.2.2.2.1)))))),((cell_far (p := ⟨gb660,_,none⟩) (by first|exact Nat.ne_of_lt (Nat.lt_of_lt_of_le (by have := bwL _ _ hw659_0;first|rwa [add_block] at this|exact this) GW660.out)|(rw [add_block];exact Nat.ne_of_lt (Nat.lt_of_lt_of_le (by have := bwL _ _ hw659_0;first|rwa [add_block] at this|exact this) GW660.out))|(show (Addr.add _ _).block ≠ _;rw [add_block];exact Nat.ne_of_lt (Nat.lt_of_lt_of_le (by have := bwL _ _ hw659_0;first|rwa [add_block] at this|exact this) GW660.out))|(dsimp only;exact Nat.ne_of_lt (Nat.lt_of_lt_of_le (by have := bwL _ _ hw659_0;first|rwa [add_block] at this|exact this) GW660.out))) _).trans (((cell_far (p := ⟨gb660,_,none⟩) (by first|exact Nat.ne_of_lt (Nat.lt_of_lt_of_le (by have := bwL _ _ hw659_0;first|rwa [add_block] at this|exact this) GW660.out)|(rw [add_block];exact Nat.ne_of_lt (Nat.lt_of_lt_of_le (by have := bwL _ _ hw659_0;first|rwa [add_block] at this|exact this) GW660.out))|(show (Addr.add _ _).block ≠ _;rw [add_block];exact Nat.ne_of_lt (Nat.lt_of_lt_of_le (by have := bwL _ _ hw659_0;first|rwa [add_block] at this|exact this) GW660.out))|(dsimp only;exact Nat.ne_of_lt (Nat.lt_of_lt_of_le (by have := bwL _ _ hw659_0;first|rwa [add_block] at this|exact this) GW660.out))) _).trans (((cell_far (p := ⟨gb660,_,none⟩) (by first|exact Nat.ne_of_lt (Nat.lt_of_lt_of_le (by have := bwL _ _ hw659_0;first|rwa [add_block] at this|exact this) GW660.out)|(rw [add_block];exact Nat.ne_of_lt (Nat.lt_of_lt_of_le (by have := bwL _ _ hw659_0;first|rwa [add_block] at this|exact this) GW660.out))|(show (Addr.add _ _).block ≠ _;rw [add_block];exact Nat.ne_of_lt (Nat.lt_of_lt_of_le (by have := bwL _ _ hw659_0;first|rwa [add_block] at this|exact this) GW660.out))|(dsimp only;exact Nat.ne_of_lt (Nat.lt_of_lt_of_le (by have := bwL _ _ hw659_0;first|rwa [add_block] at this|exact this) GW660.out))) _).trans (hHeld.2.2.2.2.2.1)))))),((cell_far (p := ⟨gb660,_,none⟩) (by first|exact Nat.ne_of_lt (Nat.lt_of_lt_of_le (by have := bwL _ _ hw659_1;first|rwa [add_block] at this|exact this) GW660.out)|(rw [add_block];exact Nat.ne_of_lt (Nat.lt_of_lt_of_le (by have := bwL _ _ hw659_1;first|rwa [add_block] at this|exact this) GW660.out))|(show (Addr.add _ _).block ≠ _;rw [add_block];exact Nat.ne_of_lt (Nat.lt_of_lt_of_le (by have := bwL _ _ hw659_1;first|rwa [add_block] at this|exact this) GW660.out))|(dsimp only;exact Nat.ne_of_lt (Nat.lt_of_lt_of_le (by have := bwL _ _ hw659_1;first|rwa [add_block] at this|exact this) GW660.out))) _).trans (((cell_far (p := ⟨gb660,_,none⟩) (by first|exact Nat.ne_of_lt (Nat.lt_of_lt_of_le (by have := bwL _ _ hw659_1;first|rwa [add_block] at this|exact this) GW660.out)|(rw [add_block];exact Nat.ne_of_lt (Nat.lt_of_lt_of_le (by have := bwL _ _ hw659_1;first|rwa [add_block] at this|exact this) GW660.out))|(show (Addr.add _ _).block ≠ _;rw [add_block];exact Nat.ne_of_lt (Nat.lt_of_lt_of_le (by have := bwL _ _ hw659_1;first|rwa [add_block] at this|exact this) GW660.out))|(dsimp only;exact Nat.ne_of_lt (Nat.lt_of_lt_of_le (by have := bwL _ _ hw659_1;first|rwa [add_block] at this|exact this) GW660.out))) _).trans (((cell_far (p := ⟨gb660,_,none⟩) (by first|exact Nat.ne_of_lt (Nat.lt_of_lt_of_le (by have := bwL _ _ hw659_1;first|rwa [add_block] at this|exact this) GW660.out)|(rw [add_block];exact Nat.ne_of_lt (Nat.lt_of_lt_of_le (by have := bwL _ _ hw659_1;first|rwa [add_block] at this|exact this) GW660.out))|(show (Addr.add _ _).block ≠ _;rw [add_block];exact Nat.ne_of_lt (Nat.lt_of_lt_of_le (by have := bwL _ _ hw659_1;first|rwa [add_block] at this|exact this) GW660.out))|(dsimp only;exact Nat.ne_of_lt (Nat.lt_of_lt_of_le (by have := bwL _ _ hw659_1;first|rwa [add_block] at this|exact this) GW660.out))) _).trans (hHeld.2.2.2.2.2.2.1)))))),((cell_far (p := ⟨gb660,_,none⟩) (by first|exact Nat.ne_of_lt (Nat.lt_of_lt_of_le (by have := bwL _ _ hw659_2;first|rwa [add_block] at this|exact this) GW660.out)|(rw [add_block];exact Nat.ne_of_lt (Nat.lt_of_lt_of_le (by have := bwL _ _ hw659_2;first|rwa [add_block] at this|exact this) GW660.out))|(show (Addr.add _ _).block ≠ _;rw [add_block];exact Nat.ne_of_lt (Nat.lt_of_lt_of_le (by have := bwL _ _ hw659_2;first|rwa [add_block] at this|exact this) GW660.out))|(dsimp only;exact Nat.ne_of_lt (Nat.lt_of_lt_of_le (by have := bwL _ _ hw659_2;first|rwa [add_block] at this|exact this) GW660.out))) _).trans (((cell_far (p := ⟨gb660,_,none⟩) (by first|exact Nat.ne_of_lt (Nat.lt_of_lt_of_le (by have := bwL _ _ hw659_2;first|rwa [add_block] at this|exact this) GW660.out)|(rw [add_block];exact Nat.ne_of_lt (Nat.lt_of_lt_of_le (by have := bwL _ _ hw659_2;first|rwa [add_block] at this|exact this) GW660.out))|(show (Addr.add _ _).block ≠ _;rw [add_block];exact Nat.ne_of_lt (Nat.lt_of_lt_of_le (by have := bwL _ _ hw659_2;first|rwa [add_block] at this|exact this) GW660.out))|(dsimp only;exact Nat.ne_of_lt (Nat.lt_of_lt_of_le (by have := bwL _ _ hw659_2;first|rwa [add_block] at this|exact this) GW660.out))) _).trans (((cell_far (p := ⟨gb660,_,none⟩) (by first|exact Nat.ne_of_lt (Nat.lt_of_lt_of_le (by have := bwL _ _ hw659_2;first|rwa [add_block] at this|exact this) GW660.out)|(rw [add_block];exact Nat.ne_of_lt (Nat.lt_of_lt_of_le (by have := bwL _ _ hw659_2;first|rwa [add_block] at this|exact this) GW660.out))|(show (Addr.add _ _).block ≠ _;rw [add_block];exact Nat.ne_of_lt (Nat.lt_of_lt_of_le (by have := bwL _ _ hw659_2;first|rwa [add_block] at this|exact this) GW660.out))|(dsimp only;exact Nat.ne_of_lt (Nat.lt_of_lt_of_le (by have := bwL _ _ hw659_2;first|rwa [add_block] at this|exact this) GW660.out))) _).trans (hHeld.2.2.2.2.2.2.2))))))⟩ (fun hHeld => ?_)
        clear hK K
        refine done_ (done_of HT_.out (by kernel_rfl)) ?_
        try go_wp2
        go_loopg [8] k2 (fun kq v8 w' => ∃ (x8_3 : Int) (x661002_3 : List Int) (u661002 : Value),v8 = .int .i64 x8_3 ∧ Aside0 (spec_RenumberGraph.l1 kq l1 x6_2 x8_3 l0_0 a0_1 x655000_2 (rd l1 a0_1) ((rd_T58 l0_0 x6_2).f0) ((rd_T58 l0_0 x6_2).f1) x661002_3 = some (r1,r2)) ∧ Aside0 (kq ≤ k2) ∧ Aside0 (Kd.S k58 58 w' w.heap.size (fun k_ => some k_ ≠ (u661002 : Value).ownBlock ∧ k_ ≠ gb646 ∧ k_ ≠ gb647 ∧ k_ ≠ gb654 ∧ k_ ≠ gb660) u655000 x655000_2) ∧ Aside0 (Kd.R (Kd.int .i64) 3 w' w.heap.size (fun _ => True) u661002 x661002_3) ∧ Aside0 (w'.heap[gb646]? = some (.cells #[(.slice (some ad658) l0_0.length c0_0),.int .i64 a0_1] 25 (0,0))) ∧ Aside0 (w'.heap[gb647]? = some (.cells #[(.slice none 0 0),.int .i64 x648001_2] 25 (0,0))) ∧ Aside0 (w'.heap[gb654]? = some (.cells #[u655000,.int .i64 (rd l1 a0_1)] 25 (0,0))) ∧ Aside0 (w'.heap[gb660]? = some (.cells #[.int .i64 ((rd_T58 l0_0 x6_2).f0),.int .i64 ((rd_T58 l0_0 x6_2).f1),u661002] 58 (0,0))) ∧ Aside0 (Below w.heap.size w w'))
        case atStart => exact ⟨(0),(([] : List Int)),(.slice none 0 0),zT_,H',⟨Nat.le_refl _⟩,⟨by (with_reducible repeat (first|apply Kd.S_alloc|apply Kd.S_drewN|apply Kd.S_drew));exact Kd.S_mono (Kd.S_far (p := ⟨gb660,2,none⟩) (Kd.S_far (p := ⟨gb660,1,none⟩) (Kd.S_far (p := ⟨gb660,0,none⟩) (Kd.S_mono HO_655000.out (fun k_ hk => (⟨hk,hk.2⟩ : _ ∧ k_ ≠ gb660))) (fun _ hk => hk.2) (.int .i64 ((rd_T58 l0_0 x6_2).f0))) (fun _ hk => hk.2) (.int .i64 ((rd_T58 l0_0 x6_2).f1))) (fun _ hk => hk.2) (.slice none 0 0)) (fun _ hk => ⟨(by simp [Value.ownBlock]),⟨hk.1.1.1,⟨hk.1.1.2.1,⟨hk.1.1.2.2,hk.1.2⟩⟩⟩⟩)⟩,⟨by first|exact Kd.R_nil _ _ _ _ _|exact Kd.S_nil _ _ _ _ _|exact Kd.V_nil _ _ _ _ _|exact Kd.Q_nil _ _ _ _ _|exact Kd.S_nil _ _ _ _ _⟩,⟨by (with_reducible repeat (first|refine bkN ?_ _|refine bkD ?_|refine bkA ?_ _));refine blk_far ?_ NB646_660.out _;(with_reducible repeat (first|refine bkN ?_ _|refine bkD ?_|refine bkA ?_ _));refine blk_far ?_ NB646_660.out _;(with_reducible repeat (first|refine bkN ?_ _|refine bkD ?_|refine bkA ?_ _));refine blk_far ?_ NB646_660.out _;(with_reducible repeat (first|refine bkN ?_ _|refine bkD ?_|refine bkA ?_ _));exact BK646.out⟩,⟨by (with_reducible repeat (first|refine bkN ?_ _|refine bkD ?_|refine bkA ?_ _));refine blk_far ?_ NB647_660.out _;(with_reducible repeat (first|refine bkN ?_ _|refine bkD ?_|refine bkA ?_ _));refine blk_far ?_ NB647_660.out _;(with_reducible repeat (first|refine bkN ?_ _|refine bkD ?_|refine bkA ?_ _));refine blk_far ?_ NB647_660.out _;(with_reducible repeat (first|refine bkN ?_ _|refine bkD ?_|refine bkA ?_ _));exact BK647.out⟩,⟨by (with_reducible repeat (first|refine bkN ?_ _|refine bkD ?_|refine bkA ?_ _));refine blk_far ?_ NB654_660.out _;(with_reducible repeat (first|refine bkN ?_ _|refine bkD ?_|refine bkA ?_ _));refine blk_far ?_ NB654_660.out _;(with_reducible repeat (first|refine bkN ?_ _|refine bkD ?_|refine bkA ?_ _));refine blk_far ?_ NB654_660.out _;(with_reducible repeat (first|refine bkN ?_ _|refine bkD ?_|refine bkA ?_ _));exact BK654.out⟩,⟨by (with_reducible repeat (first|refine bkN ?_ _|refine bkD ?_|refine bkA ?_ _));refine blk_put (cs := #[.int .i64 ((rd_T58 l0_0 x6_2).f0),.int .i64 ((rd_T58 l0_0 x6_2).f1),.slice none 0 0]) ?_ 2 _ rfl;(with_reducible repeat (first|refine bkN ?_ _|refine bkD ?_|refine bkA ?_ _));refine blk_put (cs := #[.int .i64 ((rd_T58 l0_0 x6_2).f0),.int .i64 0,.slice none 0 0]) ?_ 1 _ rfl;(with_reducible repeat (first|refine bkN ?_ _|refine bkD ?_|refine bkA ?_ _));refine blk_put (cs := #[.int .i64 0,.int .i64 0,.slice none 0 0]) ?_ 0 _ rfl;(with_reducible repeat (first|refine bkN ?_ _|refine bkD ?_|refine bkA ?_ _));exact BK660.out⟩,⟨by repeat (first|(with_reducible first|exact HB.out|apply bwA|apply bwN|apply bwD|refine bwS ?_ GE646.out|refine bwS ?_ GE647.out|refine bwS ?_ GE654.out|refine bwS ?_ GE660.out)|exact HB.out)⟩⟩
        case round =>
         clear H'
         try clear c1
         try clear c2
         try clear p2
         try clear c3
         try clear c4
         try clear c5
         try clear c6
         try clear p6
         try clear q6
         try clear hx6
         try clear c7
         try clear c8
         try clear c8b0
         try clear c8b1
         try clear c8b2
         try clear c10
         try clear c14
         try clear c18
         try clear c21
         try clear c22
         try clear c24
         try clear c24b0
         try clear c24b1
         try clear c25
         try clear c25b0
         try clear c25b1
         try clear c26
         try clear c26b0
         try clear c27
         try clear c27b0
         try clear c30
         try clear c37
         try clear c37b0
         try clear c38
         try clear c38b0
         try clear c38b1
         try clear c39
         try clear c39b0
         try clear c39b1
         try clear c41
         try clear c41b0
         try clear c44
         try clear c45
         try clear c47
         try clear c47b0
         try clear hcz11_0
         try clear hcz11_1
         try clear hcz13_0
         try clear hcz13_1
         try clear hcz15_0
         try clear hcz15_1
         try clear hcz17_0
         try clear hcz17_1
         try clear hcz19_0
         try clear hcz19_1
         try clear hcz23_0
         try clear hcz23_1
         try clear hcz46_0
         try clear hcz46_1
         try clear hfz11_0
         try clear hfz11_1
         try clear hfz13_0
         try clear hfz13_1
         try clear hfz15_0
         try clear hfz15_1
         try clear hfz17_0
         try clear hfz17_1
         try clear hfz19_0
         try clear hfz19_1
         try clear hfz23_0
         try clear hfz23_1
         try clear hfz46_0
         try clear hfz46_1
         try clear hx653_0
         try clear hx656_0
         try clear hx658_0
         try clear hx658_1
         try clear hx658_2
         try clear hx659_0
         try clear hx659_1
         try clear hx659_2
         try clear p2
         try clear p6
         try clear p653
         try clear p656
         try clear p658
         try clear p659
         try clear q6
         try clear q653
         try clear q656
         try clear q658
         try clear q659
         obtain ⟨x8_3,x661002_3,u661002,rfl,HA,HK3,HO_655000,HO_661002,BK646,BK647,BK654,BK660,HB⟩ := hrel
         cases gk with
         | zero => exact absurd HA.out (fun h_ => (by cases h_))
         | succ k3 =>
          have H := HA.out
          clear HA
          simp only [spec_RenumberGraph.l1] at H
          by_cases c55 : 0 ≤ x6_2
          rotate_left
          ·rw [if_neg c55] at H
           exact absurd H (by simp)
          rw [if_pos c55] at H
          have c55b0 : decide (0 ≤ x6_2) = true := deT c55
          clear c55
          by_cases c56 : x6_2 < (l0_0.length : Int)
          rotate_left
          ·rw [if_neg c56] at H
           exact absurd H (by simp)
          rw [if_pos c56] at H
          have c56b0 : decide (x6_2 < (l0_0.length : Int)) = true := deT c56
          clear c56
          by_cases c57 : x8_3 < (((rd_T58 l0_0 x6_2).f2).length : Int)
          ·rw [if_pos c57] at H
           have c57b0 : decide (x8_3 < (((rd_T58 l0_0 x6_2).f2).length : Int)) = true := deT c57
           clear c57
           by_cases c58 : 0 ≤ x8_3
           rotate_left
           ·rw [if_neg c58] at H
            exact absurd H (by simp)
           rw [if_pos c58] at H
           have c58b0 : decide (0 ≤ x8_3) = true := deT c58
           clear c58
           by_cases c59 : 0 ≤ (rd ((rd_T58 l0_0 x6_2).f2) x8_3)
           rotate_left
           ·rw [if_neg c59] at H
            exact absurd H (by simp)
           rw [if_pos c59] at H
           have c59b0 : decide (0 ≤ (rd ((rd_T58 l0_0 x6_2).f2) x8_3)) = true := deT c59
           clear c59
           by_cases c60 : (rd ((rd_T58 l0_0 x6_2).f2) x8_3) < (l1.length : Int)
           rotate_left
           ·rw [if_neg c60] at H
            exact absurd H (by simp)
           rw [if_pos c60] at H
           have c60b0 : decide ((rd ((rd_T58 l0_0 x6_2).f2) x8_3) < (l1.length : Int)) = true := deT c60
           clear c60
           by_cases c61 : x661002_3.length < 17592186044416
           rotate_left
           ·rw [if_neg c61] at H
            exact absurd H (by simp)
           rw [if_pos c61] at H
           have LMc61 := As_ c61
           clear c61
           obtain ⟨y665,hy665⟩ : ∃ y_ : List Int,y_ = (x661002_3 ++ [rd l1 (rd ((rd_T58 l0_0 x6_2).f2) x8_3)]) := ⟨_,rfl⟩
           replace H : (spec_RenumberGraph.l1 k3 l1 x6_2 (wrap64 (x8_3 + 1)) l0_0 a0_1 x655000_2 (rd l1 a0_1) ((rd_T58 l0_0 x6_2).f0) ((rd_T58 l0_0 x6_2).f1) y665) = some (r1,r2) := by first|(rw [hy665];with_reducible exact H)|(have H2_ := (Option.bind_some _ _).symm.trans H;rw [hy665];with_reducible exact H2_)|(have H2_ := (Option.bind_some _ _).symm.trans H;with_reducible exact H2_)|with_reducible exact H|(rw [hy665];exact H)|exact H
           have Ny665 := As_ hy665
           clear hy665
           have H' := As_ H
           clear H
           have hnb62 := NB646_647.out
           have hnc62 := NB647_646.out
           have hnb63 := NB646_654.out
           have hnc63 := NB654_646.out
           have hnb64 := NB646_660.out
           have hnc64 := NB660_646.out
           have hcz65_0 : wr.cell? ⟨gb646,0,none⟩ = some (.slice (some ad658) l0_0.length c0_0) := (bkC BK646.out 0).trans rfl
           have hcz65_1 : wr.cell? ⟨gb646,1,none⟩ = some (.int .i64 a0_1) := (bkC BK646.out 1).trans rfl
           have hfz65_0 := bkF BK646.out 0
           have hfz65_1 := bkF BK646.out 1
           have p661 : 0 ≤ (x6_2 : Int) := odT zA_
           have q661 : x6_2 < (l0_0.length : Int) := odT zA_
           obtain ⟨ad661,A661_2,c661_2,e661,hx661_0,hx661_1,hx661_2,hl661_2,hi661_2⟩ := at_T58 HR0_0.out x6_2 p661 q661
           obtain rfl : ad658 = ad661 := (by injection e661)
           replace hx661_0 := (HB.out.cell (bwL w _ hx661_0)).trans hx661_0
           replace hx661_1 := (HB.out.cell (bwL w _ hx661_1)).trans hx661_1
           replace hx661_2 := (HB.out.cell (bwL w _ hx661_2)).trans hx661_2
           have HR661_2 := As_ hi661_2
           have HC661_2 := As_ hl661_2
           clear hi661_2 hl661_2
           replace p661 := eq_true p661
           replace q661 := eq_true q661
           try go_wp2
           have n0_ := As_ (Kd.S_drew HO_655000.out)
           have n1_ := As_ (Kd.R_drew HO_661002.out)
           have n2_ := As_ (bkD BK646.out)
           have n3_ := As_ (bkD BK647.out)
           have n4_ := As_ (bkD BK654.out)
           have n5_ := As_ (bkD BK660.out)
           have n6_ := As_ (bwD HB.out)
           clear HO_655000
           clear HO_661002
           clear BK646
           clear BK647
           clear BK654
           clear BK660
           clear HB
           have HO_655000 := n0_
           have HO_661002 := n1_
           have BK646 := n2_
           have BK647 := n3_
           have BK654 := n4_
           have BK660 := n5_
           have HB := n6_
           clear n0_ n1_ n2_ n3_ n4_ n5_ n6_
           have p662 : 0 ≤ (x6_2 : Int) := odT zA_
           have q662 : x6_2 < (l0_0.length : Int) := odT zA_
           obtain ⟨ad662,A662_2,c662_2,e662,hx662_0,hx662_1,hx662_2,hl662_2,hi662_2⟩ := at_T58 HR0_0.out x6_2 p662 q662
           have hw662_2 := hx662_2
           have hw662_1 := hx662_1
           have hw662_0 := hx662_0
           obtain rfl : ad658 = ad662 := (by injection e662)
           replace hx662_0 := (HB.out.cell (bwL w _ hx662_0)).trans hx662_0
           replace hx662_1 := (HB.out.cell (bwL w _ hx662_1)).trans hx662_1
           replace hx662_2 := (HB.out.cell (bwL w _ hx662_2)).trans hx662_2
           have HR662_2 := As_ hi662_2
           have HC662_2 := As_ hl662_2
           clear hi662_2 hl662_2
           replace p662 := eq_true p662
           replace q662 := eq_true q662
           have p663 : 0 ≤ (x8_3 : Int) := odT zA_
           have q663 : x8_3 < (((rd_T58 l0_0 x6_2).f2).length : Int) := odT zA_
           obtain ⟨ad663,e663,hx663_0⟩ := Kd.at_int HR662_2.out x8_3 p663 q663
           have hw663_0 := hx663_0
           cases e663
           replace hx663_0 := (HB.out.cell (bwL w _ hx663_0)).trans hx663_0
           replace p663 := eq_true p663
           replace q663 := eq_true q663
           have p664 : 0 ≤ ((rd ((rd_T58 l0_0 x6_2).f2) x8_3) : Int) := odT zA_
           have q664 : (rd ((rd_T58 l0_0 x6_2).f2) x8_3) < (l1.length : Int) := odT zA_
           obtain ⟨ad664,e664,hx664_0⟩ := Kd.at_int HR1.out (rd ((rd_T58 l0_0 x6_2).f2) x8_3) p664 q664
           have hw664_0 := hx664_0
           obtain rfl : ad653 = ad664 := (by injection e664)
           replace hx664_0 := (HB.out.cell (bwL w _ hx664_0)).trans hx664_0
           replace p664 := eq_true p664
           replace q664 := eq_true q664
           refine start_ (n := 18) (S := fun w' => w'.cell? ⟨gb660,0,none⟩ = some (.int .i64 ((rd_T58 l0_0 x6_2).f0)) ∧ w'.cell? ⟨gb660,1,none⟩ = some (.int .i64 ((rd_T58 l0_0 x6_2).f1)) ∧ w'.cell? ⟨gb660,2,none⟩ = some (u661002) ∧ w'.cell? ⟨gb646,0,none⟩ = some (.slice (some ad658) l0_0.length c0_0) ∧ w'.cell? ⟨gb646,1,none⟩ = some (.int .i64 a0_1) ∧ w'.cell? (ad658.add ((x6_2).toNat * 3)) = some (.int .i64 ((rd_T58 l0_0 x6_2).f0)) ∧ w'.cell? ⟨(ad658.add ((x6_2).toNat * 3)).block,(ad658.add ((x6_2).toNat * 3)).off + 1,none⟩ = some (.int .i64 ((rd_T58 l0_0 x6_2).f1)) ∧ w'.cell? ⟨(ad658.add ((x6_2).toNat * 3)).block,(ad658.add ((x6_2).toNat * 3)).off + 2,none⟩ = some (.slice (some ad663) ((rd_T58 l0_0 x6_2).f2).length c662_2) ∧ w'.cell? (ad663.add (x8_3).toNat) = some (.int .i64 (rd ((rd_T58 l0_0 x6_2).f2) x8_3)) ∧ w'.cell? (ad653.add ((rd ((rd_T58 l0_0 x6_2).f2) x8_3)).toNat) = some (.int .i64 (rd l1 (rd ((rd_T58 l0_0 x6_2).f2) x8_3)))) (ds := [17]) (bl_ 0 18) (by kernel_rfl) rfl rfl ⟨(bkC BK660.out 0).trans rfl,(bkC BK660.out 1).trans rfl,(bkC BK660.out 2).trans rfl,(bkC BK646.out 0).trans rfl,(bkC BK646.out 1).trans rfl,((HB.out.cell (bwL w _ hw662_0)).trans hw662_0),((HB.out.cell (bwL w _ hw662_1)).trans hw662_1),((HB.out.cell (bwL w _ hw662_2)).trans hw662_2),((HB.out.cell (bwL w _ hw663_0)).trans hw663_0),((HB.out.cell (bwL w _ hw664_0)).trans hw664_0)⟩ (fun hHeld => ?_);refine with_tabW spec_RenumberGraph.tab13 spec_RenumberGraph.bits13 (fun HT_ HW_ => ?_)
           generalize wr.drew = w66 at HO_655000 HO_661002 BK646 BK647 BK654 BK660 HB HR662_2 hx662_0 hx662_1 hx662_2 hx663_0 hx664_0 hHeld ⊢
           refine pP 0 78 (bl_ 1 18) ?_ HT_ rfl (.inl ⟨by rfl,?_⟩) ?_ ?_ ?_;rotate_left;(intro w';go_simp;with_reducible rfl);rotate_left;(simp only [Act.put,sq_,i64_w,i32_w];rfl)
           refine pP 2 80 (bl_ 5 18) ?_ HT_ rfl (.inl ⟨by rfl,?_⟩) ?_ ?_ ?_;rotate_left;(intro w';go_simp;with_reducible rfl);rotate_left;(simp only [Act.put,sq_,i64_w,i32_w];rfl)
           refine pP 3 81 (bl_ 13 18) ?_ HT_ rfl (.inl ⟨by rfl,?_⟩) ?_ ?_ ?_;rotate_left;(intro w';go_simp;with_reducible rfl);rotate_left;(simp only [Act.put,sq_,i64_w,i32_w];rfl)
           refine pP 5 83 (bl_ 45 18) ?_ HT_ rfl (.inl ⟨by rfl,?_⟩) ?_ ?_ ?_;rotate_left;(intro w';go_simp;with_reducible rfl);rotate_left;(simp only [Act.put,sq_,i64_w,i32_w];rfl)
           refine pP 9 87 (bl_ 557 18) ?_ HT_ rfl (.inl ⟨by rfl,?_⟩) ?_ ?_ ?_;rotate_left;(intro w';go_simp;with_reducible rfl);rotate_left;(simp only [Act.put,sq_,i64_w,i32_w];rfl)
           refine tP 1 79 (bl_ 559 18) ?_ HT_ HW_ rfl (.inl ⟨by rfl,?_⟩) hHeld ?_ ?_ ?_;rotate_left;(rintro w' ⟨s0,s1,s2,s3,s4,s5,s6,s7,s8,s9⟩;go_simp;with_reducible rfl);rotate_left;(simp only [Act.put,sq_,i64_w,i32_w];rfl)
           refine tP 4 82 (bl_ 575 18) ?_ HT_ HW_ rfl (.inl ⟨by rfl,?_⟩) hHeld ?_ ?_ ?_;rotate_left;(rintro w' ⟨s0,s1,s2,s3,s4,s5,s6,s7,s8,s9⟩;go_simp;with_reducible rfl);rotate_left;(simp only [Act.put,sq_,i64_w,i32_w];rfl)
           refine pP 6 84 (bl_ 639 18) ?_ HT_ rfl (.inl ⟨by rfl,?_⟩) ?_ ?_ ?_;rotate_left;(intro w';go_simp;with_reducible rfl);rotate_left;(simp only [Act.put,sq_,i64_w,i32_w];rfl)
           refine pP 7 85 (bl_ 767 18) ?_ HT_ rfl (.inl ⟨by rfl,?_⟩) ?_ ?_ ?_;rotate_left;(intro w';go_simp;with_reducible rfl);rotate_left;(simp only [Act.put,sq_,i64_w,i32_w];rfl)
           refine tP 8 86 (bl_ 1023 18) ?_ HT_ HW_ rfl (.inl ⟨by rfl,?_⟩) hHeld ?_ ?_ ?_;rotate_left;(rintro w' ⟨s0,s1,s2,s3,s4,s5,s6,s7,s8,s9⟩;go_simp;with_reducible rfl);rotate_left;(simp only [Act.put,sq_,i64_w,i32_w];rfl)
           refine pP 10 88 (bl_ 2047 18) ?_ HT_ rfl (.inl ⟨by rfl,?_⟩) ?_ ?_ ?_;rotate_left;(intro w';go_simp;with_reducible rfl);rotate_left;(simp only [Act.put,sq_,i64_w,i32_w];rfl)
           refine tP 11 89 (bl_ 4095 18) ?_ HT_ HW_ rfl (.inl ⟨by rfl,?_⟩) hHeld ?_ ?_ ?_;rotate_left;(rintro w' ⟨s0,s1,s2,s3,s4,s5,s6,s7,s8,s9⟩;go_simp;with_reducible rfl);rotate_left;(simp only [Act.put,sq_,i64_w,i32_w];rfl)
           refine pP 12 90 (bl_ 8191 18) ?_ HT_ rfl (.inl ⟨by rfl,?_⟩) ?_ ?_ ?_;rotate_left;(intro w';go_simp;with_reducible rfl);rotate_left;(simp only [Act.put,sq_,i64_w,i32_w];rfl)
           refine tP 13 91 (bl_ 16383 18) ?_ HT_ HW_ rfl (.inl ⟨by rfl,?_⟩) hHeld ?_ ?_ ?_;rotate_left;(rintro w' ⟨s0,s1,s2,s3,s4,s5,s6,s7,s8,s9⟩;go_simp;with_reducible rfl);rotate_left;(simp only [Act.put,sq_,i64_w,i32_w];rfl)
           refine one_ (i := 14) (N := some 92) (bl_ 32767 18) rfl rfl (one_of HT_.out (by kernel_rfl)) (by decide) (fun K hK => ?_)
           refine value_ (w1 := ?_) (v := ?_) (by rfl) rfl ?_ ?_
           rotate_left 2
           ·go_simp
            constructor
            ·rfl
            ·rfl
           refine hK.out _ _ ⟨(bkC (bkA BK660.out _) 0).trans rfl,(bkC (bkA BK660.out _) 1).trans rfl,(bkC (bkA BK660.out _) 2).trans rfl,(bkC (bkA BK646.out _) 0).trans rfl,(bkC (bkA BK646.out _) 1).trans rfl,(World.cell?_alloc_lt _ _ _ (bwL _ _ (((HB.out.cell (bwL w _ hw662_0)).trans hw662_0)))).trans (((HB.out.cell (bwL w _ hw662_0)).trans hw662_0)),(World.cell?_alloc_lt _ _ _ (bwL _ _ (((HB.out.cell (bwL w _ hw662_1)).trans hw662_1)))).trans (((HB.out.cell (bwL w _ hw662_1)).trans hw662_1)),(World.cell?_alloc_lt _ _ _ (bwL _ _ (((HB.out.cell (bwL w _ hw662_2)).trans hw662_2)))).trans (((HB.out.cell (bwL w _ hw662_2)).trans hw662_2)),(World.cell?_alloc_lt _ _ _ (bwL _ _ (((HB.out.cell (bwL w _ hw663_0)).trans hw663_0)))).trans (((HB.out.cell (bwL w _ hw663_0)).trans hw663_0)),(World.cell?_alloc_lt _ _ _ (bwL _ _ (((HB.out.cell (bwL w _ hw664_0)).trans hw664_0)))).trans (((HB.out.cell (bwL w _ hw664_0)).trans hw664_0))⟩ (fun hHeld => ?_)
           clear hK K
           refine norm_ (a' := ?_) ?_ ?_
           rotate_left
           ·show Act.put _ (some 92) _ = _
            simp only [Act.put,sq_,i64_w,i32_w]
            rfl
           refine one_ (i := 15) (N := some 93) (bl_ 65535 18) rfl rfl (one_of HT_.out (by kernel_rfl)) (by decide) (fun K hK => ?_)
           refine Kd.R_append_step (Kd.int .i64) (w0 := w) w.heap.size (by rfl) (.tmp 79) (.tmp 92) 26 3 (.int .i64 0) 8 rfl Try.underlying26 info3 rfl (by decide) (by omega) u661002 x661002_3 (rd l1 (rd ((rd_T58 l0_0 x6_2).f2) x8_3)) [.int .i64 (rd l1 (rd ((rd_T58 l0_0 x6_2).f2) x8_3))] (fun _ => True) (fun _ => False) rfl rfl ?aP (fun _ hk => hk.elim) ?aF ?aO ?aB ?aS ?aL ?_
           (case aP => exact rfl)
           (case aB => exact (by repeat (first|(with_reducible first|exact HB.out|apply bwA|apply bwN|apply bwD|refine bwS ?_ GE646.out|refine bwS ?_ GE647.out|refine bwS ?_ GE654.out|refine bwS ?_ GE660.out)|exact HB.out)))
           (case aF => exact (fun _ _ => trivial))
           (case aO => exact (zR_ HO_661002.out))
           (case aS => exact (bwZ (by repeat (first|(with_reducible first|exact HB.out|apply bwA|apply bwN|apply bwD|refine bwS ?_ GE646.out|refine bwS ?_ GE647.out|refine bwS ?_ GE654.out|refine bwS ?_ GE660.out)|exact HB.out))))
           (case aL => have := LMc61.out;omega)
           intro v666 w67 ho hb hg hat
           rw [← Ny665.out] at ho
           have n0_ := As_ (Kd.S_after (ok := (fun k_ => k_ ≠ gb646 ∧ k_ ≠ gb647 ∧ k_ ≠ gb654 ∧ k_ ≠ gb660)) (by (with_reducible repeat (first|apply Kd.S_alloc|apply Kd.S_drewN|apply Kd.S_drew));exact Kd.S_mono HO_655000.out (fun _ hk => ⟨⟨hk.2.1,⟨hk.2.2.1,⟨hk.2.2.2.1,hk.2.2.2.2⟩⟩⟩,hk.1⟩)) hg hat)
           have n1_ := As_ (blk_grown (g := gb646) (o := .cells #[.slice (some ad658) l0_0.length c0_0,.int .i64 a0_1] 25 (0,0)) (zk_ BK646.out) hg (Kd.R_ne HO_661002.out BK646.out (by decide)))
           have n2_ := As_ (blk_grown (g := gb647) (o := .cells #[.slice none 0 0,.int .i64 x648001_2] 25 (0,0)) (zk_ BK647.out) hg (Kd.R_ne HO_661002.out BK647.out (by decide)))
           have n3_ := As_ (blk_grown (g := gb654) (o := .cells #[u655000,.int .i64 (rd l1 a0_1)] 25 (0,0)) (zk_ BK654.out) hg (Kd.R_ne HO_661002.out BK654.out (by decide)))
           have n4_ := As_ (blk_grown (g := gb660) (o := .cells #[.int .i64 ((rd_T58 l0_0 x6_2).f0),.int .i64 ((rd_T58 l0_0 x6_2).f1),u661002] 58 (0,0)) (zk_ BK660.out) hg (Kd.R_ne HO_661002.out BK660.out (by decide)))
           have n5_ := As_ (hb)
           have n6_ := As_ (ho)
           clear HO_655000
           clear BK646
           clear BK647
           clear BK654
           clear BK660
           clear HB
           clear HO_661002
           have HO_655000 := n0_
           have BK646 := n1_
           have BK647 := n2_
           have BK654 := n3_
           have BK660 := n4_
           have HB := n5_
           have HO667 := n6_
           clear n0_ n1_ n2_ n3_ n4_ n5_ n6_
           clear ho hb hg hat
           obtain ⟨Ao68,co68,eo68⟩ := Kd.R_slice HO667.out
           (first|subst eo68|(injection eo68 with f1_ f2_ f3_;have f4_ := f1_.symm;have f5_ := f3_.symm;clear f1_ f2_ f3_;subst f4_;subst f5_))
           refine hK.out _ _ ⟨(bkC BK660.out 0).trans rfl,(bkC BK660.out 1).trans rfl,(bkC BK660.out 2).trans rfl,(bkC BK646.out 0).trans rfl,(bkC BK646.out 1).trans rfl,((HB.out.cell (bwL w _ hw662_0)).trans hw662_0),((HB.out.cell (bwL w _ hw662_1)).trans hw662_1),((HB.out.cell (bwL w _ hw662_2)).trans hw662_2),((HB.out.cell (bwL w _ hw663_0)).trans hw663_0),((HB.out.cell (bwL w _ hw664_0)).trans hw664_0)⟩ (fun hHeld => ?_)
           clear hK K
           refine norm_ (a' := ?_) ?_ ?_
           rotate_left
           ·show Act.put _ (some 93) _ = _
            simp only [Act.put,sq_,i64_w,i32_w]
            rfl
           refine pP 16 94 (bl_ 131071 18) ?_ HT_ rfl (.inl ⟨by rfl,?_⟩) ?_ ?_ ?_;rotate_left;(intro w';go_simp;with_reducible rfl);rotate_left;(simp only [Act.put,sq_,i64_w,i32_w];rfl)
           refine last_ (i := 17) (N := none) (bl_ 262143 18) rfl rfl (one_of HT_.out (by kernel_rfl)) (by decide) (fun K hK => ?_)
           have hs69 : w67.cell? ⟨gb660,2,none⟩ = some (u661002) := (bkC BK660.out 2).trans rfl
           have hfs69 := bkF BK660.out 2
           have hns69_0 := NB646_660.out
           have hns69_1 := NB647_660.out
           have hns69_2 := NB654_660.out
           have hms69_0 := NB660_646.out
           have hms69_1 := NB660_647.out
           have hms69_2 := NB660_654.out
           refine skip_ (w1 := ?_) (by rfl) rfl ?_ ?_
           rotate_left
           ·go_simp
            rfl
           refine hK.out _ _ ?_
           clear hK K
           refine done_ (done_of HT_.out (by kernel_rfl)) ?_
           try go_wp2
           go_roundg k3
           case measure => have := HJ2.out;have := HK2.out;have := HK3.out;omega
           case rel => exact ⟨(wrap64 (x8_3 + 1)),(y665),(.slice Ao68 y665.length co68),zT_,H',⟨by have := HJ2.out;have := HK2.out;have := HK3.out;omega⟩,⟨by (with_reducible repeat (first|apply Kd.S_alloc|apply Kd.S_drewN|apply Kd.S_drew));exact Kd.S_mono (Kd.S_far (p := ⟨gb660,2,none⟩) (Kd.S_mono HO_655000.out (fun k_ hk => (⟨hk,hk.1.2.2.2⟩ : _ ∧ k_ ≠ gb660))) (fun _ hk => hk.2) (.slice Ao68 y665.length co68)) (fun _ hk => ⟨hk.1.2,⟨hk.1.1.1,⟨hk.1.1.2.1,⟨hk.1.1.2.2.1,hk.1.1.2.2.2⟩⟩⟩⟩)⟩,⟨by (with_reducible repeat (first|apply Kd.R_alloc|apply Kd.R_drewN|apply Kd.R_drew));exact Kd.R_mono (Kd.R_far (p := ⟨gb660,2,none⟩) (Kd.R_types HO667.out BK660.out (by decide)) (fun _ hk => hk.2) (.slice Ao68 y665.length co68)) (fun _ hk => trivial)⟩,⟨by (with_reducible repeat (first|refine bkN ?_ _|refine bkD ?_|refine bkA ?_ _));refine blk_far ?_ NB646_660.out _;(with_reducible repeat (first|refine bkN ?_ _|refine bkD ?_|refine bkA ?_ _));exact BK646.out⟩,⟨by (with_reducible repeat (first|refine bkN ?_ _|refine bkD ?_|refine bkA ?_ _));refine blk_far ?_ NB647_660.out _;(with_reducible repeat (first|refine bkN ?_ _|refine bkD ?_|refine bkA ?_ _));exact BK647.out⟩,⟨by (with_reducible repeat (first|refine bkN ?_ _|refine bkD ?_|refine bkA ?_ _));refine blk_far ?_ NB654_660.out _;(with_reducible repeat (first|refine bkN ?_ _|refine bkD ?_|refine bkA ?_ _));exact BK654.out⟩,⟨by (with_reducible repeat (first|refine bkN ?_ _|refine bkD ?_|refine bkA ?_ _));refine blk_put (cs := #[.int .i64 ((rd_T58 l0_0 x6_2).f0),.int .i64 ((rd_T58 l0_0 x6_2).f1),u661002]) ?_ 2 _ rfl;(with_reducible repeat (first|refine bkN ?_ _|refine bkD ?_|refine bkA ?_ _));exact BK660.out⟩,⟨by repeat (first|(with_reducible first|exact HB.out|apply bwA|apply bwN|apply bwD|refine bwS ?_ GE646.out|refine bwS ?_ GE647.out|refine bwS ?_ GE654.out|refine bwS ?_ GE660.out)|exact HB.out)⟩⟩
          ·rw [if_neg c57] at H
           have c57b0 : decide (x8_3 < (((rd_T58 l0_0 x6_2).f2).length : Int)) = false := deF c57
           clear c57
           by_cases c70 : x6_2 < (l1.length : Int)
           rotate_left
           ·rw [if_neg c70] at H
            exact absurd H (by simp)
           rw [if_pos c70] at H
           have c70b0 : decide (x6_2 < (l1.length : Int)) = true := deT c70
           clear c70
           by_cases c71 : 0 ≤ (rd l1 x6_2)
           rotate_left
           ·rw [if_neg c71] at H
            exact absurd H (by simp)
           rw [if_pos c71] at H
           have c71b0 : decide (0 ≤ (rd l1 x6_2)) = true := deT c71
           clear c71
           by_cases c72 : (rd l1 x6_2) < (x655000_2.length : Int)
           rotate_left
           ·rw [if_neg c72] at H
            exact absurd H (by simp)
           rw [if_pos c72] at H
           have c72b0 : decide ((rd l1 x6_2) < (x655000_2.length : Int)) = true := deT c72
           clear c72
           obtain ⟨y669,hy669⟩ : ∃ y_ : List (S58),y_ = (x655000_2.set ((rd l1 x6_2) : Int).toNat (⟨((rd_T58 l0_0 x6_2).f0),((rd_T58 l0_0 x6_2).f1),x661002_3⟩ : S58)) := ⟨_,rfl⟩
           replace H : (spec_RenumberGraph.l0 k3 l1 (wrap64 (x6_2 + 1)) l0_0 a0_1 y669 (rd l1 a0_1)) = some (r1,r2) := by first|(rw [hy669];with_reducible exact H)|(have H2_ := (Option.bind_some _ _).symm.trans H;rw [hy669];with_reducible exact H2_)|(have H2_ := (Option.bind_some _ _).symm.trans H;with_reducible exact H2_)|with_reducible exact H|(rw [hy669];exact H)|exact H
           have Ny669 := As_ hy669
           clear hy669
           have H' := As_ H
           clear H
           have hnb74 := NB646_647.out
           have hnc74 := NB647_646.out
           have hnb75 := NB646_654.out
           have hnc75 := NB654_646.out
           have hnb76 := NB646_660.out
           have hnc76 := NB660_646.out
           have hcz77_0 : wr.cell? ⟨gb646,0,none⟩ = some (.slice (some ad658) l0_0.length c0_0) := (bkC BK646.out 0).trans rfl
           have hcz77_1 : wr.cell? ⟨gb646,1,none⟩ = some (.int .i64 a0_1) := (bkC BK646.out 1).trans rfl
           have hfz77_0 := bkF BK646.out 0
           have hfz77_1 := bkF BK646.out 1
           have p661 : 0 ≤ (x6_2 : Int) := odT zA_
           have q661 : x6_2 < (l0_0.length : Int) := odT zA_
           obtain ⟨ad661,A661_2,c661_2,e661,hx661_0,hx661_1,hx661_2,hl661_2,hi661_2⟩ := at_T58 HR0_0.out x6_2 p661 q661
           obtain rfl : ad658 = ad661 := (by injection e661)
           replace hx661_0 := (HB.out.cell (bwL w _ hx661_0)).trans hx661_0
           replace hx661_1 := (HB.out.cell (bwL w _ hx661_1)).trans hx661_1
           replace hx661_2 := (HB.out.cell (bwL w _ hx661_2)).trans hx661_2
           have HR661_2 := As_ hi661_2
           have HC661_2 := As_ hl661_2
           clear hi661_2 hl661_2
           replace p661 := eq_true p661
           replace q661 := eq_true q661
           try go_wp2
           have n0_ := As_ (Kd.S_drew HO_655000.out)
           have n1_ := As_ (Kd.R_drew HO_661002.out)
           have n2_ := As_ (bkD BK646.out)
           have n3_ := As_ (bkD BK647.out)
           have n4_ := As_ (bkD BK654.out)
           have n5_ := As_ (bkD BK660.out)
           have n6_ := As_ (bwD HB.out)
           clear HO_655000
           clear HO_661002
           clear BK646
           clear BK647
           clear BK654
           clear BK660
           clear HB
           have HO_655000 := n0_
           have HO_661002 := n1_
           have BK646 := n2_
           have BK647 := n3_
           have BK654 := n4_
           have BK660 := n5_
           have HB := n6_
           clear n0_ n1_ n2_ n3_ n4_ n5_ n6_
           have p668 : 0 ≤ (x6_2 : Int) := odT zA_
           have q668 : x6_2 < (l1.length : Int) := odT zA_
           obtain ⟨ad668,e668,hx668_0⟩ := Kd.at_int HR1.out x6_2 p668 q668
           have hw668_0 := hx668_0
           obtain rfl : ad653 = ad668 := (by injection e668)
           replace hx668_0 := (HB.out.cell (bwL w _ hx668_0)).trans hx668_0
           replace p668 := eq_true p668
           replace q668 := eq_true q668
           have p73 : 0 ≤ ((rd l1 x6_2) : Int) := odT zA_
           have q73 : ((rd l1 x6_2) : Int) < ((x655000_2.length : Int) : Int) := odT zA_
           obtain ⟨go73,co73,eo73,gb73,gl73,cl73,HG73⟩ := Kd.S_form HO_655000.out (by omega)
           (first|cases eo73|(injection eo73 with ea_ en_ ec_;(first|subst ea_|(injection ea_ with ea_;subst ea_));subst ec_;clear en_))
           have GB73 := As_ gb73
           have GG73 := As_ HG73
           clear gb73 gl73 HG73
           obtain ⟨ce73,hcl73,hM73,hcc73,hfr73⟩ := Kd.N_elem (Kd.S_N HO_655000.out) z58 ((rd l1 x6_2) : Int) p73 q73
           obtain ⟨ua73_2,uc73_2,rfl,ul73_2,ge73_2⟩ := k58_openF hM73
           have hx73_0 : World.cell? _ ⟨go73,((rd l1 x6_2) : Int).toNat * 3,none⟩ = some (.int .i64 ((rd_T58 x655000_2 (rd l1 x6_2)).f0)) := hcc73 0 _ rfl
           have hx73_1 : World.cell? _ ⟨go73,((rd l1 x6_2) : Int).toNat * 3 + 1,none⟩ = some (.int .i64 ((rd_T58 x655000_2 (rd l1 x6_2)).f1)) := hcc73 1 _ rfl
           have hx73_2 : World.cell? _ ⟨go73,((rd l1 x6_2) : Int).toNat * 3 + 2,none⟩ = some (.slice ua73_2 ((rd_T58 x655000_2 (rd l1 x6_2)).f2).length uc73_2) := hcc73 2 _ rfl
           have hf73_0 : World.frozen? _ ⟨go73,((rd l1 x6_2) : Int).toNat * 3,none⟩ = false := hfr73 0
           have hf73_1 : World.frozen? _ ⟨go73,((rd l1 x6_2) : Int).toNat * 3 + 1,none⟩ = false := hfr73 1
           have hf73_2 : World.frozen? _ ⟨go73,((rd l1 x6_2) : Int).toNat * 3 + 2,none⟩ = false := hfr73 2
           clear hcl73 hcc73 hfr73 hM73
           replace p73 := eq_true p73
           replace q73 := eq_true q73
           obtain ⟨Av_,cv_,ev_⟩ := Kd.R_slice HO_661002.out
           subst ev_
           have HX79 := As_ (show Kd.S k58 58 _ w.heap.size (fun k_ => ((fun k_ => k_ ≠ gb646 ∧ k_ ≠ gb647 ∧ k_ ≠ gb654 ∧ k_ ≠ gb660) k_) ∧ ¬ (some k_ = ((.slice Av_ x661002_3.length cv_) : Value).ownBlock)) (.slice (some ⟨go73,0,none⟩) x655000_2.length co73) x655000_2 from (Kd.S_mono (HO_655000.out) (fun k_ hk => ⟨⟨hk.2.1,⟨hk.2.2.1,⟨hk.2.2.2.1,hk.2.2.2.2⟩⟩⟩,hk.1⟩)))
           obtain ⟨oki79,ce79,hcl79,hM79,hcc79,hfr79,hoki79,hH79⟩ := Kd.S_elem HX79.out z58 ((rd l1 x6_2) : Int) (odT zA_) (by have h_ : ((rd l1 x6_2) : Int) < ((x655000_2.length : Int) : Int) := odT zA_;first|exact h_|(have e_ := (Kd.S_reads' HO_655000.out).1;omega)|simpa using h_)
           obtain ⟨ve79_2,rfl,ge79_2⟩ := k58_openM hM79
           have HP79 := (Kd.S_seg (ok := fun k_ => k_ ≠ gb646 ∧ k_ ≠ gb647 ∧ k_ ≠ gb654 ∧ k_ ≠ gb660) (okg := fun k_ => some k_ = ((.slice Av_ x661002_3.length cv_) : Value).ownBlock) (okp := fun k_ => some k_ = ((.slice Av_ x661002_3.length cv_) : Value).ownBlock) hH79 (odT zA_) (by have h_ : ((rd l1 x6_2) : Int) < ((x655000_2.length : Int) : Int) := odT zA_;first|exact h_|(have e_ := (Kd.S_reads' HO_655000.out).1;omega)|simpa using h_) (seg := [.int .i64 ((rd_T58 l0_0 x6_2).f0),.int .i64 ((rd_T58 l0_0 x6_2).f1),(.slice Av_ x661002_3.length cv_)]) (j := 0) (show 3 ≤ 3 from by decide) (x' := (⟨((rd_T58 l0_0 x6_2).f0),((rd_T58 l0_0 x6_2).f1),x661002_3⟩ : S58)) (k58_mkM _ _ _ (⟨((rd_T58 l0_0 x6_2).f0),((rd_T58 l0_0 x6_2).f1),x661002_3⟩ : S58) (Kd.R_tight rfl HO_661002.out)) (fun _ hk => .inr hk) (fun k_ hk => (Kd.R_mono (ok' := (fun k_ => ((fun k_ => k_ ≠ gb646 ∧ k_ ≠ gb647 ∧ k_ ≠ gb654 ∧ k_ ≠ gb660)) k_ ∧ k_ ≠ go73)) (Kd.R_types (Kd.R_types (Kd.R_types (Kd.R_types (Kd.R_apart' (HO_661002.out) (Kd.S_typed HO_655000.out) (by decide)) BK646.out (by decide)) BK647.out (by decide)) BK654.out (by decide)) BK660.out (by decide)) (fun k_ hk => ⟨⟨hk.1.1.1.2,⟨hk.1.1.2,⟨hk.1.2,hk.2⟩⟩⟩,fun e_ => (hk.1.1.1.1.2) (by rw [e_];rfl)⟩)).1 k_ hk.symm)).1
           rw [← Ny669.out] at HP79
           have HQ79 := As_ HP79
           clear hcl79 hcc79 hfr79 hM79 HP79 hoki79 hH79
           refine start_ (n := 9) (S := fun w' => w'.cell? ⟨gb654,0,none⟩ = some (.slice (some ⟨go73,0,none⟩) x655000_2.length co73) ∧ w'.cell? ⟨gb654,1,none⟩ = some (.int .i64 (rd l1 a0_1)) ∧ w'.cell? ⟨gb660,0,none⟩ = some (.int .i64 ((rd_T58 l0_0 x6_2).f0)) ∧ w'.cell? ⟨gb660,1,none⟩ = some (.int .i64 ((rd_T58 l0_0 x6_2).f1)) ∧ w'.cell? ⟨gb660,2,none⟩ = some ((.slice Av_ x661002_3.length cv_)) ∧ w'.cell? (ad653.add (x6_2).toNat) = some (.int .i64 (rd l1 x6_2))) (ds := [8]) (bl_ 0 9) (by kernel_rfl) rfl rfl ⟨(bkC BK654.out 0).trans rfl,(bkC BK654.out 1).trans rfl,(bkC BK660.out 0).trans rfl,(bkC BK660.out 1).trans rfl,(bkC BK660.out 2).trans rfl,((HB.out.cell (bwL w _ hw668_0)).trans hw668_0)⟩ (fun hHeld => ?_);refine with_tabW spec_RenumberGraph.tab14 spec_RenumberGraph.bits14 (fun HT_ HW_ => ?_)
           generalize wr.drew = w78 at HO_655000 HO_661002 BK646 BK647 BK654 BK660 HB GG73 HQ79 hf73_0 hf73_1 hf73_2 hx668_0 hx73_0 hx73_1 hx73_2 hHeld ⊢
           refine pP 0 95 (bl_ 1 9) ?_ HT_ rfl (.inl ⟨by rfl,?_⟩) ?_ ?_ ?_;rotate_left;(intro w';go_simp;with_reducible rfl);rotate_left;(simp only [Act.put,sq_,i64_w,i32_w];rfl)
           refine pP 2 97 (bl_ 5 9) ?_ HT_ rfl (.inl ⟨by rfl,?_⟩) ?_ ?_ ?_;rotate_left;(intro w';go_simp;with_reducible rfl);rotate_left;(simp only [Act.put,sq_,i64_w,i32_w];rfl)
           refine pP 3 98 (bl_ 13 9) ?_ HT_ rfl (.inl ⟨by rfl,?_⟩) ?_ ?_ ?_;rotate_left;(intro w';go_simp;with_reducible rfl);rotate_left;(simp only [Act.put,sq_,i64_w,i32_w];rfl)
           refine pP 4 99 (bl_ 29 9) ?_ HT_ rfl (.inl ⟨by rfl,?_⟩) ?_ ?_ ?_;rotate_left;(intro w';go_simp;with_reducible rfl);rotate_left;(simp only [Act.put,sq_,i64_w,i32_w];rfl)
           refine tP 1 96 (bl_ 31 9) ?_ HT_ HW_ rfl (.inl ⟨by rfl,?_⟩) hHeld ?_ ?_ ?_;rotate_left;(rintro w' ⟨s0,s1,s2,s3,s4,s5⟩;go_simp;with_reducible rfl);rotate_left;(simp only [Act.put,sq_,i64_w,i32_w];rfl)
           refine tP 5 100 (bl_ 63 9) ?_ HT_ HW_ rfl (.inl ⟨by rfl,?_⟩) hHeld ?_ ?_ ?_;rotate_left;(rintro w' ⟨s0,s1,s2,s3,s4,s5⟩;go_simp;with_reducible rfl);rotate_left;(simp only [Act.put,sq_,i64_w,i32_w];rfl)
           refine tP 6 101 (bl_ 127 9) ?_ HT_ HW_ rfl (.inl ⟨by rfl,?_⟩) hHeld ?_ ?_ ?_;rotate_left;(rintro w' ⟨s0,s1,s2,s3,s4,s5⟩;go_simp;with_reducible rfl);rotate_left;(simp only [Act.put,sq_,i64_w,i32_w];rfl)
           refine pP 7 102 (bl_ 255 9) ?_ HT_ rfl (.inl ⟨by rfl,?_⟩) ?_ ?_ ?_;rotate_left;(intro w';go_simp;with_reducible rfl);rotate_left;(simp only [Act.put,sq_,i64_w,i32_w];rfl)
           refine last_ (i := 8) (N := none) (bl_ 511 9) rfl rfl (one_of HT_.out (by kernel_rfl)) (by decide) (fun K hK => ?_)
           refine skip_ (w1 := ?_) (by rfl) rfl ?_ ?_
           rotate_left
           ·go_simp
            rfl
           refine hK.out _ _ ?_
           clear hK K
           refine done_ (done_of HT_.out (by kernel_rfl)) ?_
           try go_wp2
           go_roundg k3
           case measure => have := HJ2.out;have := HK2.out;have := HK3.out;omega
           case rel => exact ⟨(wrap64 (x6_2 + 1)),(x648001_2),(y669),(.slice (some ⟨go73,0,none⟩) x655000_2.length co73),zT_,H',⟨by have := HJ2.out;have := HK2.out;have := HK3.out;omega⟩,⟨by (with_reducible repeat (first|apply Kd.S_alloc|apply Kd.S_drewN|apply Kd.S_drew));exact Kd.S_mono HQ79.out (fun _ hk => ⟨hk.1,⟨hk.2.1,hk.2.2.1⟩⟩)⟩,⟨by (with_reducible repeat (first|refine bkN ?_ _|refine bkD ?_|refine bkA ?_ _));refine blk_far ?_ (by have h_ := Kd.S_away HQ79.out (fun _ hk => hk.1);intro e_;exact h_ (by rw [e_];rfl)) _;(with_reducible repeat (first|refine bkN ?_ _|refine bkD ?_|refine bkA ?_ _));refine blk_far ?_ (by have h_ := Kd.S_away HQ79.out (fun _ hk => hk.1);intro e_;exact h_ (by rw [e_];rfl)) _;(with_reducible repeat (first|refine bkN ?_ _|refine bkD ?_|refine bkA ?_ _));refine blk_far ?_ (by have h_ := Kd.S_away HQ79.out (fun _ hk => hk.1);intro e_;exact h_ (by rw [e_];rfl)) _;(with_reducible repeat (first|refine bkN ?_ _|refine bkD ?_|refine bkA ?_ _));exact BK646.out⟩,⟨by (with_reducible repeat (first|refine bkN ?_ _|refine bkD ?_|refine bkA ?_ _));refine blk_far ?_ (by have h_ := Kd.S_away HQ79.out (fun _ hk => hk.2.1);intro e_;exact h_ (by rw [e_];rfl)) _;(with_reducible repeat (first|refine bkN ?_ _|refine bkD ?_|refine bkA ?_ _));refine blk_far ?_ (by have h_ := Kd.S_away HQ79.out (fun _ hk => hk.2.1);intro e_;exact h_ (by rw [e_];rfl)) _;(with_reducible repeat (first|refine bkN ?_ _|refine bkD ?_|refine bkA ?_ _));refine blk_far ?_ (by have h_ := Kd.S_away HQ79.out (fun _ hk => hk.2.1);intro e_;exact h_ (by rw [e_];rfl)) _;(with_reducible repeat (first|refine bkN ?_ _|refine bkD ?_|refine bkA ?_ _));exact BK647.out⟩,⟨by (with_reducible repeat (first|refine bkN ?_ _|refine bkD ?_|refine bkA ?_ _));refine blk_far ?_ (by have h_ := Kd.S_away HQ79.out (fun _ hk => hk.2.2.1);intro e_;exact h_ (by rw [e_];rfl)) _;(with_reducible repeat (first|refine bkN ?_ _|refine bkD ?_|refine bkA ?_ _));refine blk_far ?_ (by have h_ := Kd.S_away HQ79.out (fun _ hk => hk.2.2.1);intro e_;exact h_ (by rw [e_];rfl)) _;(with_reducible repeat (first|refine bkN ?_ _|refine bkD ?_|refine bkA ?_ _));refine blk_far ?_ (by have h_ := Kd.S_away HQ79.out (fun _ hk => hk.2.2.1);intro e_;exact h_ (by rw [e_];rfl)) _;(with_reducible repeat (first|refine bkN ?_ _|refine bkD ?_|refine bkA ?_ _));exact BK654.out⟩,⟨by repeat (first|(with_reducible first|exact HB.out|apply bwA|apply bwN|apply bwD|refine bwS ?_ GB73.out|refine bwS ?_ GB73.out|refine bwS ?_ GB73.out|refine bwS ?_ GE646.out|refine bwS ?_ GE647.out|refine bwS ?_ GE654.out|refine bwS ?_ GE660.out)|exact HB.out)⟩⟩
      ·rw [if_neg c37] at H
       have c37b0 : decide (x6_2 < (l1.length : Int)) = false := deF c37
       clear c37
       simp only [Option.some.injEq,Prod.mk.injEq] at H
       obtain ⟨rfl,rfl⟩ := H
       have hnb80 := NB654_646.out
       have hnc80 := NB646_654.out
       have hnb81 := NB654_647.out
       have hnc81 := NB647_654.out
       have hcz82_0 : wr.cell? ⟨gb654,0,none⟩ = some (u655000) := (bkC BK654.out 0).trans rfl
       have hcz82_1 : wr.cell? ⟨gb654,1,none⟩ = some (.int .i64 (rd l1 a0_1)) := (bkC BK654.out 1).trans rfl
       have hfz82_0 := bkF BK654.out 0
       have hfz82_1 := bkF BK654.out 1
       obtain ⟨Ao83,co83,eo83⟩ := Kd.S_slice HO_655000.out
       subst eo83
       have hnb84 := NB647_646.out
       have hnc84 := NB646_647.out
       have hcz85_0 : wr.cell? ⟨gb647,0,none⟩ = some (.slice none 0 0) := (bkC BK647.out 0).trans rfl
       have hcz85_1 : wr.cell? ⟨gb647,1,none⟩ = some (.int .i64 x648001_2) := (bkC BK647.out 1).trans rfl
       have hfz85_0 := bkF BK647.out 0
       have hfz85_1 := bkF BK647.out 1
       go_wp2
       refine bodyPost_ret (results_cell_row rfl _ _ gb647 25 #[.slice Ao83 x655000_2.length co83,.int .i64 (rd l1 a0_1)] (0,0) _ rfl (by (with_reducible repeat (first|refine bkN ?_ _|refine bkD ?_|refine bkA ?_ _));refine blk_put (cs := #[.slice Ao83 x655000_2.length co83,.int .i64 x648001_2]) ?_ 1 _ rfl;(with_reducible repeat (first|refine bkN ?_ _|refine bkD ?_|refine bkA ?_ _));refine blk_put (cs := #[.slice none 0 0,.int .i64 x648001_2]) ?_ 0 _ rfl;(with_reducible repeat (first|refine bkN ?_ _|refine bkD ?_|refine bkA ?_ _));exact BK647.out) Try.underlying25 rfl (by kernel_rfl)) rfl ?_
       exact ⟨_,by first|rfl|(simp [errW_none,errW_some] <;> rfl)|(simp [*,errW_none,errW_some] <;> rfl),by (with_reducible repeat (first|apply Kd.S_alloc|apply Kd.S_drewN|apply Kd.S_drew));exact Kd.S_mono (Kd.S_far (p := ⟨gb647,1,none⟩) (Kd.S_far (p := ⟨gb647,0,none⟩) (Kd.S_mono HO_655000.out (fun k_ hk => (⟨hk,hk.2.1⟩ : _ ∧ k_ ≠ gb647))) (fun _ hk => hk.2) (.slice Ao83 x655000_2.length co83)) (fun _ hk => hk.2) (.int .i64 (rd l1 a0_1))) (fun _ hk => trivial),by repeat (first|(with_reducible first|exact HB.out|apply bwA|apply bwN|apply bwD|refine bwS ?_ GE646.out|refine bwS ?_ GE647.out|refine bwS ?_ GE654.out)|exact HB.out)⟩

end Go.Proofs.Ytapaegcombfafaa.Q
