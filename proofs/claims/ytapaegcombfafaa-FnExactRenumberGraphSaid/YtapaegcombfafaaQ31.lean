-- Written by wip/tools/qprint.py (a program of this claim's author) by means of the kit's printer.
import Derived.Test.YtapaegcombfafaaQ0
import Derived.Test.YtapaegcombfafaaQ37
import Derived.Test.YtapaegcombfafaaQ56
import Derived.Test.YtapaegcombfafaaQ90
namespace Go.Proofs.Ytapaegcombfafaa.Q
open Go.RowKit Go.Proofs.YtapaegcombfafaaW.PrintWords Go.Proofs.YtapaegcombfafaaW.PrintLast Go.Proofs.YtapaegcombfafaaW.PrintMore
attribute [local go_sem] max2_int min2_int max_two min_two max_three min_three max_four min_four   -- for this text's walks alone
set_option linter.unusedVariables false
set_option linter.unusedSimpArgs false

/-! ### impl_RenumberGraph: function 31 -/
mutual
def impl_RenumberGraph.j0 : Nat → List Int → Bool → List (S58) → Int → Option ((List (S58)) × Int)
 | 0,_,_,_,_ => none
 | k + 1,x1,x20,x673000,x673001 => if x20 = true then (some (([] : List (S58)),0)) else (impl_RenumberGraph.l0 k x1 x1 (x1.length : Int) 0 x673000 x673001)
def impl_RenumberGraph.l0 : Nat → List Int → List Int → Int → Int → List (S58) → Int → Option ((List (S58)) × Int)
 | 0,_,_,_,_,_,_ => none
 | k + 1,x1,x22,x23,x24,x673000,x673001 => if x24 < x23 then (if 0 ≤ x24 then (if x24 < (x22.length : Int) then (if (rd x22 x24) < 0 then (some (([] : List (S58)),0)) else (if (rd x22 x24) ≥ (x1.length : Int) then (some (([] : List (S58)),0)) else (if x24 ≤ (x1.length : Int) then ((slices_Contains_int_int.f k (x1.take (x24 : Int).toNat) (rd x22 x24)).bind fun t677 => (if t677 = true then (some (([] : List (S58)),0)) else (impl_RenumberGraph.l0 k x1 x22 x23 (wrap64 (x24 + 1)) x673000 x673001))) else (none)))) else (none)) else (none)) else (if 0 ≤ (x1.length : Int) then (if ((x1.length : Int) : Int).toNat ≤ 7036874417766 then (if 0 ≤ x673001 then (if x673001 < (x1.length : Int) then (impl_RenumberGraph.l1 k x1 x673000 (x673000.length : Int) 0 (List.replicate ((x1.length : Int) : Int).toNat z58) (rd x1 x673001)) else (none)) else (none)) else (none)) else (none))
def impl_RenumberGraph.l1 : Nat → List Int → List (S58) → Int → Int → List (S58) → Int → Option ((List (S58)) × Int)
 | 0,_,_,_,_,_,_ => none
 | k + 1,x1,x56,x57,x58,x683000,x683001 => if x58 < x57 then (if 0 ≤ x58 then (if x58 < (x56.length : Int) then (if x58 < (x1.length : Int) then ((impl_mapped.f k ((rd_T58 x56 x58).f0) ((rd_T58 x56 x58).f1) ((rd_T58 x56 x58).f2) x1).bind fun bt686 => (if 0 ≤ (rd x1 x58) then (if (rd x1 x58) < (x683000.length : Int) then (impl_RenumberGraph.l1 k x1 x56 x57 (wrap64 (x58 + 1)) (x683000.set ((rd x1 x58) : Int).toNat (⟨bt686.1,bt686.2.1,bt686.2.2⟩ : S58)) x683001) else (none)) else (none))) else (none)) else (none)) else (none)) else (some (x683000,x683001))
end
def impl_RenumberGraph.f (k : Nat) (l0_0 : List (S58)) (a0_1 : Int) (l1 : List Int) : Option ((List (S58)) × Int) := (impl_ValidGraph.f k l0_0 a0_1).bind fun t674 => (if t674 = true then (impl_RenumberGraph.j0 k l1 ((l1.length : Int) != (l0_0.length : Int)) l0_0 a0_1) else (impl_RenumberGraph.j0 k l1 true l0_0 a0_1))
set_option maxRecDepth 100000 in
theorem impl_RenumberGraph.mono_l : ∀ k,(∀ y0 y1 y2 y3,LeO (impl_RenumberGraph.j0 k y0 y1 y2 y3) (impl_RenumberGraph.j0 (k + 1) y0 y1 y2 y3)) ∧ (∀ y0 y1 y2 y3 y4 y5,LeO (impl_RenumberGraph.l0 k y0 y1 y2 y3 y4 y5) (impl_RenumberGraph.l0 (k + 1) y0 y1 y2 y3 y4 y5)) ∧ (∀ y0 y1 y2 y3 y4 y5,LeO (impl_RenumberGraph.l1 k y0 y1 y2 y3 y4 y5) (impl_RenumberGraph.l1 (k + 1) y0 y1 y2 y3 y4 y5))
 | 0 => ⟨fun _ _ _ _ r h => (by cases h),fun _ _ _ _ _ _ r h => (by cases h),fun _ _ _ _ _ _ r h => (by cases h)⟩
 | k + 1 => by
  obtain ⟨ih0,ih1,ih2⟩ := impl_RenumberGraph.mono_l k
  refine ⟨?_,?_,?_⟩
  ·intro y0 y1 y2 y3
   unfold impl_RenumberGraph.j0
   repeat' first
   | (with_reducible exact ih0 _ _ _ _)
   | (with_reducible exact ih1 _ _ _ _ _ _)
   | (with_reducible exact ih2 _ _ _ _ _ _)
   | (with_reducible exact impl_ValidGraph.mono _ _ _)
   | (with_reducible exact impl_mapped.mono _ _ _ _ _)
   | (with_reducible exact slices_Contains_int_int.mono _ _ _)
   | (with_reducible exact LeO.refl _)
   | (with_reducible exact LeO.none _)
   | (with_reducible refine LeO.ite ?_ ?_)
   | (with_reducible refine LeO.bind ?_ (fun _ => ?_))
   | exact ih0 _ _ _ _
   | exact ih1 _ _ _ _ _ _
   | exact ih2 _ _ _ _ _ _
   | exact impl_ValidGraph.mono _ _ _
   | exact impl_mapped.mono _ _ _ _ _
   | exact slices_Contains_int_int.mono _ _ _
   | exact LeO.none _
   | refine LeO.ite ?_ ?_
   | refine LeO.bind ?_ (fun _ => ?_)
  ·intro y0 y1 y2 y3 y4 y5
   unfold impl_RenumberGraph.l0
   repeat' first
   | (with_reducible exact ih0 _ _ _ _)
   | (with_reducible exact ih1 _ _ _ _ _ _)
   | (with_reducible exact ih2 _ _ _ _ _ _)
   | (with_reducible exact impl_ValidGraph.mono _ _ _)
   | (with_reducible exact impl_mapped.mono _ _ _ _ _)
   | (with_reducible exact slices_Contains_int_int.mono _ _ _)
   | (with_reducible exact LeO.refl _)
   | (with_reducible exact LeO.none _)
   | (with_reducible refine LeO.ite ?_ ?_)
   | (with_reducible refine LeO.bind ?_ (fun _ => ?_))
   | exact ih0 _ _ _ _
   | exact ih1 _ _ _ _ _ _
   | exact ih2 _ _ _ _ _ _
   | exact impl_ValidGraph.mono _ _ _
   | exact impl_mapped.mono _ _ _ _ _
   | exact slices_Contains_int_int.mono _ _ _
   | exact LeO.none _
   | refine LeO.ite ?_ ?_
   | refine LeO.bind ?_ (fun _ => ?_)
  ·intro y0 y1 y2 y3 y4 y5
   unfold impl_RenumberGraph.l1
   repeat' first
   | (with_reducible exact ih0 _ _ _ _)
   | (with_reducible exact ih1 _ _ _ _ _ _)
   | (with_reducible exact ih2 _ _ _ _ _ _)
   | (with_reducible exact impl_ValidGraph.mono _ _ _)
   | (with_reducible exact impl_mapped.mono _ _ _ _ _)
   | (with_reducible exact slices_Contains_int_int.mono _ _ _)
   | (with_reducible exact LeO.refl _)
   | (with_reducible exact LeO.none _)
   | (with_reducible refine LeO.ite ?_ ?_)
   | (with_reducible refine LeO.bind ?_ (fun _ => ?_))
   | exact ih0 _ _ _ _
   | exact ih1 _ _ _ _ _ _
   | exact ih2 _ _ _ _ _ _
   | exact impl_ValidGraph.mono _ _ _
   | exact impl_mapped.mono _ _ _ _ _
   | exact slices_Contains_int_int.mono _ _ _
   | exact LeO.none _
   | refine LeO.ite ?_ ?_
   | refine LeO.bind ?_ (fun _ => ?_)
set_option maxRecDepth 100000 in
theorem impl_RenumberGraph.mono : ∀ a0 a1 a2 k,LeO (impl_RenumberGraph.f k a0 a1 a2) (impl_RenumberGraph.f (k + 1) a0 a1 a2) := by
 intro a0 a1 a2 k
 obtain ⟨ih0,ih1,ih2⟩ := impl_RenumberGraph.mono_l k
 unfold impl_RenumberGraph.f
 repeat' first
   | (with_reducible exact ih0 _ _ _ _)
   | (with_reducible exact ih1 _ _ _ _ _ _)
   | (with_reducible exact ih2 _ _ _ _ _ _)
   | (with_reducible exact impl_ValidGraph.mono _ _ _)
   | (with_reducible exact impl_mapped.mono _ _ _ _ _)
   | (with_reducible exact slices_Contains_int_int.mono _ _ _)
   | (with_reducible exact LeO.refl _)
   | (with_reducible exact LeO.none _)
   | (with_reducible refine LeO.ite ?_ ?_)
   | (with_reducible refine LeO.bind ?_ (fun _ => ?_))
   | exact ih0 _ _ _ _
   | exact ih1 _ _ _ _ _ _
   | exact ih2 _ _ _ _ _ _
   | exact impl_ValidGraph.mono _ _ _
   | exact impl_mapped.mono _ _ _ _ _
   | exact slices_Contains_int_int.mono _ _ _
   | exact LeO.none _
   | refine LeO.ite ?_ ?_
   | refine LeO.bind ?_ (fun _ => ?_)
def impl_RenumberGraph.T9 : Bool × List (List Nat × List Nat) := (true,[([],[]),([0],[0]),([1,1],[1]),([],[]),([],[]),([4],[4]),([3,5],[3,5]),([6],[6]),([2,7],[2,7]),([],[]),([9,8,0,1,2,3,4,5,6,7,8,9],[8,9])])
def impl_RenumberGraph.B9 : List Nat := [0,1,3,0,0,16,56,120,255,0,1023]
theorem impl_RenumberGraph.tab9 : rtab .any (opsOf Try.f31 9) = impl_RenumberGraph.T9 := by kernel_rfl
theorem impl_RenumberGraph.bits9 : waitsOk impl_RenumberGraph.T9.2 impl_RenumberGraph.B9 = true := by kernel_rfl
def impl_RenumberGraph.T13 : Bool × List (List Nat × List Nat) := (true,[([],[]),([0],[0]),([],[]),([],[]),([2,3],[2,3]),([4],[4]),([],[]),([],[]),([6,7],[6,7]),([1,5,0,1,2,3,4,5,6,7,8],[1,5]),([9,8,8,0,1,2,3,4,5,6,7,8],[8,9])])
def impl_RenumberGraph.B13 : List Nat := [0,1,0,0,12,28,0,0,192,511,1023]
theorem impl_RenumberGraph.tab13 : rtab .any (opsOf Try.f31 13) = impl_RenumberGraph.T13 := by kernel_rfl
theorem impl_RenumberGraph.bits13 : waitsOk impl_RenumberGraph.T13.2 impl_RenumberGraph.B13 = true := by kernel_rfl
set_option maxHeartbeats 8000000 in
set_option maxRecDepth 100000 in
theorem impl_RenumberGraph.calls (k : Nat) (A0_0 : Option Addr) (c0_0 : Nat) (l0_0 : List (S58)) (a0_1 : Int) (A1 : Option Addr) (c1 : Nat) (l1 : List Int) (r1 : List (S58)) (r2 : Int) (w : World) (hr0_0 : Kd.C k58 w A0_0 l0_0.length l0_0) (hc0_0 : l0_0.length ≤ c0_0) (hr1 : Kd.C (Kd.int .i64) w A1 l1.length l1) (hc1 : l1.length ≤ c1) (h : impl_RenumberGraph.f k l0_0 a0_1 l1 = some (r1,r2)) :
  Calls Try.prog 31 #[.agg #[.slice A0_0 l0_0.length c0_0,.int .i64 a0_1],.slice A1 l1.length c1] w fun e w' => ∃ v0_ : Value,e = .returned (.agg #[v0_,.int .i64 r2]) ∧ Kd.S k58 58 w' w.heap.size (fun _ => True) v0_ r1 ∧ Below w.heap.size w w' := by
 have hu25 := Try.underlying25
 have hu58 := Try.underlying58
 have HR0_0 := As_ hr0_0
 have HC0_0 := As_ hc0_0
 clear hr0_0 hc0_0
 have HR1 := As_ hr1
 have HC1 := As_ hc1
 clear hr1 hc1
 have HB := As_ (Below.refl w.heap.size w)
 have H : ((impl_ValidGraph.f k l0_0 a0_1).bind fun t674 => (if t674 = true then (impl_RenumberGraph.j0 k l1 ((l1.length : Int) != (l0_0.length : Int)) l0_0 a0_1) else (impl_RenumberGraph.j0 k l1 true l0_0 a0_1))) = some (r1,r2) := h
 clear h
 have HC3 := As_ H
 clear H
 go_enter Try.func31,Try.ntmps31
 go_upto_region 1 with (first|((with_reducible refine gate_dst (N := 2) rfl ?_);(try (refine gate_guard (by rfl) ?_;dsimp only));refine box_event ?hg (N := 2) ?hd (cs := #[.slice A0_0 l0_0.length c0_0,.int .i64 a0_1]) (t := 25) ?hr ?_;(case hd => rfl);(case hg => rfl);(case hr => go_simp <;> rfl);intro gb672 hg w4 hbox hb;have n0_ := As_ (bwT (zb0 HB.out) hb);have n1_ := As_ (hbox);have n2_ := As_ ((by rw [hg];exact (bwZ (zb0 HB.out)) : w.heap.size ≤ gb672));have n3_ := As_ ((by rw [hg];exact (bwZ (zb0 HB.out)) : w.heap.size ≤ gb672));clear HB;have HB := n0_;have BK672 := n1_;have GW672 := n2_;have GE672 := n3_;clear n0_ n1_ n2_ n3_;clear hb hbox hg)|((with_reducible refine gate_dst (N := 4) rfl ?_);(try (refine gate_guard (by rfl) ?_;dsimp only));refine box_event ?hg (N := 4) ?hd (cs := #[.slice none 0 0,.int .i64 0]) (t := 25) ?hr ?_;(case hd => rfl);(case hg => rfl);(case hr => go_simp <;> rfl);intro gb673 hg w5 hbox hb;have n0_ := As_ (zkb BK672.out hb);have n1_ := As_ (bwT (zb1 HB.out GE672.out) hb);have n2_ := As_ (hbox);have n3_ := As_ ((by rw [hg];exact (bwZ (zb1 HB.out GE672.out)) : w.heap.size ≤ gb673));have n4_ := As_ ((by rw [hg];exact (bwZ (zb1 HB.out GE672.out)) : w.heap.size ≤ gb673));have n5_ := As_ ((by rw [hg];exact Nat.ne_of_lt (zkl BK672.out) : gb672 ≠ gb673));have n6_ := As_ ((by rw [hg];exact Nat.ne_of_gt (zkl BK672.out) : gb673 ≠ gb672));clear BK672;clear HB;have BK672 := n0_;have HB := n1_;have BK673 := n2_;have GW673 := n3_;have GE673 := n4_;have NB672_673 := n5_;have NB673_672 := n6_;clear n0_ n1_ n2_ n3_ n4_ n5_ n6_;clear hb hbox hg))
 (try simp only [Act.put,List.setIfInBounds_toArray,List.set_cons_zero,List.set_cons_succ])
 go_cut [20] (fun v20 wc => ∃ (kq : Nat) (x20_2 : Bool),v20 = .bool x20_2 ∧ Aside0 (impl_RenumberGraph.j0 kq l1 x20_2 l0_0 a0_1 = some (r1,r2)) ∧ Aside0 (kq ≤ k) ∧ Aside0 (wc.heap[gb672]? = some (.cells #[(.slice A0_0 l0_0.length c0_0),.int .i64 a0_1] 25 (0,0))) ∧ Aside0 (wc.heap[gb673]? = some (.cells #[(.slice none 0 0),.int .i64 0] 25 (0,0))) ∧ Aside0 (Below w.heap.size w wc))
 case first =>
  have H := HC3.out
  clear HC3
  replace H := obS H
  obtain ⟨t674,A60,H⟩ := H
  replace H : (if t674 = true then (impl_RenumberGraph.j0 k l1 ((l1.length : Int) != (l0_0.length : Int)) l0_0 a0_1) else (impl_RenumberGraph.j0 k l1 true l0_0 a0_1)) = some (r1,r2) := H
  have A6 := As_ A60
  clear A60
  by_cases c7 : t674 = true
  ·subst c7
   have H1 : (impl_RenumberGraph.j0 k l1 ((l1.length : Int) != (l0_0.length : Int)) l0_0 a0_1) = some (r1,r2) := by rw [if_pos rfl] at H;exact H
   clear H
   have H := H1
   clear H1
   have H' := As_ H
   clear H
   have hnb8 := NB672_673.out
   have hnc8 := NB673_672.out
   have hcz9_0 : w5.cell? ⟨gb672,0,none⟩ = some (.slice A0_0 l0_0.length c0_0) := (bkC BK672.out 0).trans rfl
   have hcz9_1 : w5.cell? ⟨gb672,1,none⟩ = some (.int .i64 a0_1) := (bkC BK672.out 1).trans rfl
   have hfz9_0 := bkF BK672.out 0
   have hfz9_1 := bkF BK672.out 1
   go_wp2_with (first|((with_reducible refine gate_callee (f := 37) rfl ?_);refine goesL_ (some 11) rfl rfl Try.func37 (by kernel_rfl) rfl #[.agg #[.slice A0_0 l0_0.length c0_0,.int .i64 a0_1]] rfl zM_ ?_;(with_reducible refine (impl_ValidGraph.calls k _ _ l0_0 a0_1 true _ ?side1 ?side2 A6.out).mono ?_);(case side1 => repeat (first|exact (Kd.C_below HR0_0.out HB.out)|(with_reducible refine Kd.C_alloc ?_ _)|(with_reducible refine Kd.C_drewN ?_ _)|(with_reducible refine Kd.C_drew ?_)));(case side2 => exact HC0_0.out);rintro e w10 ⟨rfl,hb⟩;refine ⟨_,rfl,?_⟩;have n0_ := As_ (zkb BK672.out hb);have n1_ := As_ (zkb BK673.out hb);have n2_ := As_ (bwT (zb2 HB.out GE672.out GE673.out) hb);clear BK672;clear BK673;clear HB;have BK672 := n0_;have BK673 := n1_;have HB := n2_;clear n0_ n1_ n2_;(try clear hb);(try clear hb2);(try clear hk);(try clear hi);have hcz11_0 : w10.cell? ⟨gb672,0,none⟩ = some (.slice A0_0 l0_0.length c0_0) := (bkC BK672.out 0).trans rfl;have hcz11_1 : w10.cell? ⟨gb672,1,none⟩ = some (.int .i64 a0_1) := (bkC BK672.out 1).trans rfl;have hfz11_0 := bkF BK672.out 0;have hfz11_1 := bkF BK672.out 1))
   go_meet
   case rel => exact ⟨_,(((l1.length : Int) != (l0_0.length : Int))),zT_,H',⟨by first|omega|exact Nat.le_refl _⟩,⟨by (with_reducible repeat (first|refine bkN ?_ _|refine bkD ?_|refine bkA ?_ _));exact BK672.out⟩,⟨by (with_reducible repeat (first|refine bkN ?_ _|refine bkD ?_|refine bkA ?_ _));exact BK673.out⟩,⟨by repeat (first|(with_reducible first|exact HB.out|apply bwA|apply bwN|apply bwD|refine bwS ?_ GE672.out|refine bwS ?_ GE673.out)|exact HB.out)⟩⟩
  ·replace c7 := Bool.eq_false_iff.mpr c7
   subst c7
   have H1 : (impl_RenumberGraph.j0 k l1 true l0_0 a0_1) = some (r1,r2) := by rw [if_neg (show ¬ (false = true) by decide)] at H;exact H
   clear H
   have H := H1
   clear H1
   have H' := As_ H
   clear H
   have hnb12 := NB672_673.out
   have hnc12 := NB673_672.out
   have hcz13_0 : w5.cell? ⟨gb672,0,none⟩ = some (.slice A0_0 l0_0.length c0_0) := (bkC BK672.out 0).trans rfl
   have hcz13_1 : w5.cell? ⟨gb672,1,none⟩ = some (.int .i64 a0_1) := (bkC BK672.out 1).trans rfl
   have hfz13_0 := bkF BK672.out 0
   have hfz13_1 := bkF BK672.out 1
   go_wp2_with (first|((with_reducible refine gate_callee (f := 37) rfl ?_);refine goesL_ (some 11) rfl rfl Try.func37 (by kernel_rfl) rfl #[.agg #[.slice A0_0 l0_0.length c0_0,.int .i64 a0_1]] rfl zM_ ?_;(with_reducible refine (impl_ValidGraph.calls k _ _ l0_0 a0_1 false _ ?side1 ?side2 A6.out).mono ?_);(case side1 => repeat (first|exact (Kd.C_below HR0_0.out HB.out)|(with_reducible refine Kd.C_alloc ?_ _)|(with_reducible refine Kd.C_drewN ?_ _)|(with_reducible refine Kd.C_drew ?_)));(case side2 => exact HC0_0.out);rintro e w14 ⟨rfl,hb⟩;refine ⟨_,rfl,?_⟩;have n0_ := As_ (zkb BK672.out hb);have n1_ := As_ (zkb BK673.out hb);have n2_ := As_ (bwT (zb2 HB.out GE672.out GE673.out) hb);clear BK672;clear BK673;clear HB;have BK672 := n0_;have BK673 := n1_;have HB := n2_;clear n0_ n1_ n2_;(try clear hb);(try clear hb2);(try clear hk);(try clear hi)))
   go_meet
   case rel => exact ⟨_,(true),zT_,H',⟨by first|omega|exact Nat.le_refl _⟩,⟨by (with_reducible repeat (first|refine bkN ?_ _|refine bkD ?_|refine bkA ?_ _));exact BK672.out⟩,⟨by (with_reducible repeat (first|refine bkN ?_ _|refine bkD ?_|refine bkA ?_ _));exact BK673.out⟩,⟨by repeat (first|(with_reducible first|exact HB.out|apply bwA|apply bwN|apply bwD|refine bwS ?_ GE672.out|refine bwS ?_ GE673.out)|exact HB.out)⟩⟩
 case rest =>
  clear HC3
  try clear c1
  try clear p2
  try clear c3
  try clear c7
  try clear c8
  try clear c12
  try clear hcz11_0
  try clear hcz11_1
  try clear hcz13_0
  try clear hcz13_1
  try clear hcz9_0
  try clear hcz9_1
  try clear hfz11_0
  try clear hfz11_1
  try clear hfz13_0
  try clear hfz13_1
  try clear hfz9_0
  try clear hfz9_1
  obtain ⟨kq,x20_2,rfl,HA,HJ2,BK672,BK673,HB⟩ := hcut
  cases kq with
  | zero => exact absurd HA.out (fun h_ => (by cases h_))
  | succ kj2 =>
   have H := HA.out
   clear HA
   simp only [impl_RenumberGraph.j0] at H
   by_cases c15 : x20_2 = true
   ·subst c15
    have H1 : (some (([] : List (S58)),0)) = some (r1,r2) := by rw [if_pos rfl] at H;exact H
    clear H
    have H := H1
    clear H1
    simp only [Option.some.injEq,Prod.mk.injEq] at H
    obtain ⟨rfl,rfl⟩ := H
    have hnb16 := NB673_672.out
    have hnc16 := NB672_673.out
    have hcz17_0 : wc.cell? ⟨gb673,0,none⟩ = some (.slice none 0 0) := (bkC BK673.out 0).trans rfl
    have hcz17_1 : wc.cell? ⟨gb673,1,none⟩ = some (.int .i64 0) := (bkC BK673.out 1).trans rfl
    have hfz17_0 := bkF BK673.out 0
    have hfz17_1 := bkF BK673.out 1
    go_wp2
    refine bodyPost_ret (results_cell_row rfl _ _ gb673 25 #[.slice none 0 0,.int .i64 0] (0,0) _ rfl (by (with_reducible repeat (first|refine bkN ?_ _|refine bkD ?_|refine bkA ?_ _));refine blk_put (cs := #[.slice none 0 0,.int .i64 0]) ?_ 1 _ rfl;(with_reducible repeat (first|refine bkN ?_ _|refine bkD ?_|refine bkA ?_ _));refine blk_put (cs := #[.slice none 0 0,.int .i64 0]) ?_ 0 _ rfl;(with_reducible repeat (first|refine bkN ?_ _|refine bkD ?_|refine bkA ?_ _));exact BK673.out) Try.underlying25 rfl (by kernel_rfl)) rfl ?_
    exact ⟨_,by first|rfl|(simp [errW_none,errW_some] <;> rfl)|(simp [*,errW_none,errW_some] <;> rfl),by first|exact Kd.S_nil _ _ _ _ _|exact Kd.S_nil _ _ _ _ _|exact Kd.V_nil _ _ _ _ _|exact Kd.Q_nil _ _ _ _ _|exact Kd.R_nil _ _ _ _ _,by repeat (first|(with_reducible first|exact HB.out|apply bwA|apply bwN|apply bwD|refine bwS ?_ GE672.out|refine bwS ?_ GE673.out)|exact HB.out)⟩
   ·replace c15 := Bool.eq_false_iff.mpr c15
    subst c15
    have H1 : (impl_RenumberGraph.l0 kj2 l1 l1 (l1.length : Int) 0 l0_0 a0_1) = some (r1,r2) := by rw [if_neg (show ¬ (false = true) by decide)] at H;exact H
    clear H
    have H := H1
    clear H1
    have H' := As_ H
    clear H
    go_wp2
    go_loopg [24] kj2 (fun kq v24 w' => ∃ (x24_2 : Int) (x674001_2 : Int),v24 = .int .i64 x24_2 ∧ Aside0 (impl_RenumberGraph.l0 kq l1 l1 (l1.length : Int) x24_2 l0_0 a0_1 = some (r1,r2)) ∧ Aside0 (kq ≤ kj2) ∧ Aside0 (w'.heap[gb672]? = some (.cells #[(.slice A0_0 l0_0.length c0_0),.int .i64 a0_1] 25 (0,0))) ∧ Aside0 (w'.heap[gb673]? = some (.cells #[(.slice none 0 0),.int .i64 x674001_2] 25 (0,0))) ∧ Aside0 (Below w.heap.size w w'))
    case atStart => exact ⟨(0),(0),zT_,H',⟨Nat.le_refl _⟩,⟨by (with_reducible repeat (first|refine bkN ?_ _|refine bkD ?_|refine bkA ?_ _));exact BK672.out⟩,⟨by (with_reducible repeat (first|refine bkN ?_ _|refine bkD ?_|refine bkA ?_ _));exact BK673.out⟩,⟨by repeat (first|(with_reducible first|exact HB.out|apply bwA|apply bwN|apply bwD|refine bwS ?_ GE672.out|refine bwS ?_ GE673.out)|exact HB.out)⟩⟩
    case round =>
     clear H'
     try clear c1
     try clear p2
     try clear c3
     try clear c7
     try clear c8
     try clear c12
     try clear c15
     try clear c16
     try clear hcz11_0
     try clear hcz11_1
     try clear hcz13_0
     try clear hcz13_1
     try clear hcz17_0
     try clear hcz17_1
     try clear hcz9_0
     try clear hcz9_1
     try clear hfz11_0
     try clear hfz11_1
     try clear hfz13_0
     try clear hfz13_1
     try clear hfz17_0
     try clear hfz17_1
     try clear hfz9_0
     try clear hfz9_1
     try clear p2
     obtain ⟨x24_2,x674001_2,rfl,HA,HK2,BK672,BK673,HB⟩ := hrel
     cases gk with
     | zero => exact absurd HA.out (fun h_ => (by cases h_))
     | succ k2 =>
      have H := HA.out
      clear HA
      simp only [impl_RenumberGraph.l0] at H
      by_cases c18 : x24_2 < (l1.length : Int)
      ·rw [if_pos c18] at H
       have c18b0 : decide (x24_2 < (l1.length : Int)) = true := deT c18
       clear c18
       by_cases c19 : 0 ≤ x24_2
       rotate_left
       ·rw [if_neg c19] at H
        exact absurd H (by simp)
       rw [if_pos c19] at H
       have c19b0 : decide (0 ≤ x24_2) = true := deT c19
       clear c19
       by_cases c20 : x24_2 < (l1.length : Int)
       rotate_left
       ·rw [if_neg c20] at H
        exact absurd H (by simp)
       rw [if_pos c20] at H
       have c20b0 : decide (x24_2 < (l1.length : Int)) = true := deT c20
       clear c20
       by_cases c21 : (rd l1 x24_2) < 0
       ·rw [if_pos c21] at H
        have c21b0 : decide ((rd l1 x24_2) < 0) = true := deT c21
        clear c21
        simp only [Option.some.injEq,Prod.mk.injEq] at H
        obtain ⟨rfl,rfl⟩ := H
        have p675 : 0 ≤ (x24_2 : Int) := odT zA_
        have q675 : x24_2 < (l1.length : Int) := odT zA_
        obtain ⟨ad675,e675,hx675_0⟩ := Kd.at_int HR1.out x24_2 p675 q675
        cases e675
        replace hx675_0 := (HB.out.cell (bwL w _ hx675_0)).trans hx675_0
        replace p675 := eq_true p675
        replace q675 := eq_true q675
        have hnb22 := NB673_672.out
        have hnc22 := NB672_673.out
        have hcz23_0 : wr.cell? ⟨gb673,0,none⟩ = some (.slice none 0 0) := (bkC BK673.out 0).trans rfl
        have hcz23_1 : wr.cell? ⟨gb673,1,none⟩ = some (.int .i64 x674001_2) := (bkC BK673.out 1).trans rfl
        have hfz23_0 := bkF BK673.out 0
        have hfz23_1 := bkF BK673.out 1
        go_wp2
        refine bodyPost_ret (results_cell_row rfl _ _ gb673 25 #[.slice none 0 0,.int .i64 0] (0,0) _ rfl (by (with_reducible repeat (first|refine bkN ?_ _|refine bkD ?_|refine bkA ?_ _));refine blk_put (cs := #[.slice none 0 0,.int .i64 x674001_2]) ?_ 1 _ rfl;(with_reducible repeat (first|refine bkN ?_ _|refine bkD ?_|refine bkA ?_ _));refine blk_put (cs := #[.slice none 0 0,.int .i64 x674001_2]) ?_ 0 _ rfl;(with_reducible repeat (first|refine bkN ?_ _|refine bkD ?_|refine bkA ?_ _));exact BK673.out) Try.underlying25 rfl (by kernel_rfl)) rfl ?_
        exact ⟨_,by first|rfl|(simp [errW_none,errW_some] <;> rfl)|(simp [*,errW_none,errW_some] <;> rfl),by first|exact Kd.S_nil _ _ _ _ _|exact Kd.S_nil _ _ _ _ _|exact Kd.V_nil _ _ _ _ _|exact Kd.Q_nil _ _ _ _ _|exact Kd.R_nil _ _ _ _ _,by repeat (first|(with_reducible first|exact HB.out|apply bwA|apply bwN|apply bwD|refine bwS ?_ GE672.out|refine bwS ?_ GE673.out)|exact HB.out)⟩
       ·rw [if_neg c21] at H
        have c21b0 : decide ((rd l1 x24_2) < 0) = false := deF c21
        clear c21
        by_cases c24 : (rd l1 x24_2) ≥ (l1.length : Int)
        ·rw [if_pos c24] at H
         have c24b0 : decide ((l1.length : Int) ≤ (rd l1 x24_2)) = true := deT c24
         clear c24
         simp only [Option.some.injEq,Prod.mk.injEq] at H
         obtain ⟨rfl,rfl⟩ := H
         have p675 : 0 ≤ (x24_2 : Int) := odT zA_
         have q675 : x24_2 < (l1.length : Int) := odT zA_
         obtain ⟨ad675,e675,hx675_0⟩ := Kd.at_int HR1.out x24_2 p675 q675
         cases e675
         replace hx675_0 := (HB.out.cell (bwL w _ hx675_0)).trans hx675_0
         replace p675 := eq_true p675
         replace q675 := eq_true q675
         have hnb25 := NB673_672.out
         have hnc25 := NB672_673.out
         have hcz26_0 : wr.cell? ⟨gb673,0,none⟩ = some (.slice none 0 0) := (bkC BK673.out 0).trans rfl
         have hcz26_1 : wr.cell? ⟨gb673,1,none⟩ = some (.int .i64 x674001_2) := (bkC BK673.out 1).trans rfl
         have hfz26_0 := bkF BK673.out 0
         have hfz26_1 := bkF BK673.out 1
         go_wp2
         refine bodyPost_ret (results_cell_row rfl _ _ gb673 25 #[.slice none 0 0,.int .i64 0] (0,0) _ rfl (by (with_reducible repeat (first|refine bkN ?_ _|refine bkD ?_|refine bkA ?_ _));refine blk_put (cs := #[.slice none 0 0,.int .i64 x674001_2]) ?_ 1 _ rfl;(with_reducible repeat (first|refine bkN ?_ _|refine bkD ?_|refine bkA ?_ _));refine blk_put (cs := #[.slice none 0 0,.int .i64 x674001_2]) ?_ 0 _ rfl;(with_reducible repeat (first|refine bkN ?_ _|refine bkD ?_|refine bkA ?_ _));exact BK673.out) Try.underlying25 rfl (by kernel_rfl)) rfl ?_
         exact ⟨_,by first|rfl|(simp [errW_none,errW_some] <;> rfl)|(simp [*,errW_none,errW_some] <;> rfl),by first|exact Kd.S_nil _ _ _ _ _|exact Kd.S_nil _ _ _ _ _|exact Kd.V_nil _ _ _ _ _|exact Kd.Q_nil _ _ _ _ _|exact Kd.R_nil _ _ _ _ _,by repeat (first|(with_reducible first|exact HB.out|apply bwA|apply bwN|apply bwD|refine bwS ?_ GE672.out|refine bwS ?_ GE673.out)|exact HB.out)⟩
        ·rw [if_neg c24] at H
         have c24b0 : decide ((l1.length : Int) ≤ (rd l1 x24_2)) = false := deF c24
         clear c24
         have c27b0 := eq_true (odT zA_ : 0 ≤ x24_2)
         by_cases c28 : x24_2 ≤ (l1.length : Int)
         rotate_left
         ·rw [if_neg c28] at H
          exact absurd H (by simp)
         rw [if_pos c28] at H
         have c28b0 := eq_true c28
         have c28b1 : decide (x24_2 ≤ (l1.length : Int)) = true := deT c28
         clear c28
         replace H := obS H
         obtain ⟨t677,A290,H⟩ := H
         replace H : (if t677 = true then (some (([] : List (S58)),0)) else (impl_RenumberGraph.l0 k2 l1 l1 (l1.length : Int) (wrap64 (x24_2 + 1)) l0_0 a0_1)) = some (r1,r2) := H
         have A29 := As_ A290
         clear A290
         by_cases c30 : t677 = true
         ·subst c30
          have H1 : (some (([] : List (S58)),0)) = some (r1,r2) := by rw [if_pos rfl] at H;exact H
          clear H
          have H := H1
          clear H1
          simp only [Option.some.injEq,Prod.mk.injEq] at H
          obtain ⟨rfl,rfl⟩ := H
          have p675 : 0 ≤ (x24_2 : Int) := odT zA_
          have q675 : x24_2 < (l1.length : Int) := odT zA_
          obtain ⟨ad675,e675,hx675_0⟩ := Kd.at_int HR1.out x24_2 p675 q675
          cases e675
          replace hx675_0 := (HB.out.cell (bwL w _ hx675_0)).trans hx675_0
          replace p675 := eq_true p675
          replace q675 := eq_true q675
          obtain ⟨i031,hi031,_,hsz31,_⟩ := info_parts info3
          obtain ⟨hcut31,hA31,hC31⟩ := print_take_of (P := Try.prog) (Value.int .i64) 0 26 3 .i64 Try.underlying26 hi031 hsz31 (some ad675) c1 l1 x24_2 (odT zA_) (odT zA_) HC1.out
          have HR676 := As_ (Kd.C_of_reads (h1 := fun _ => rfl) (hA31 _ (Kd.reads_of_C HR1.out)))
          have HC676 := As_ hC31
          clear hA31 hC31 hi031 hsz31
          go_wp2_with (first|(go_at_call 59;(try rw [show x24_2.toNat = (List.take (x24_2 : Int).toNat l1).length from (by rw [List.length_take];symm;apply Nat.min_eq_left;have q_ : x24_2 < (l1.length : Int) := odT (by assumption);omega)]);(with_reducible refine (slices_Contains_int_int.calls k2 _ _ (l1.take (x24_2 : Int).toNat) (rd l1 x24_2) true _ ?side1 ?side2 A29.out).mono ?_);(case side1 => repeat (first|exact (Kd.C_below HR676.out HB.out)|(with_reducible refine Kd.C_alloc ?_ _)|(with_reducible refine Kd.C_drewN ?_ _)|(with_reducible refine Kd.C_drew ?_)));(case side2 => exact HC676.out);rintro e w' ⟨rfl,⟨nd,rfl⟩⟩;(try (rw [drewN_self wr];generalize hq_ : World.drewN wr _ = wr;have n0_ : Aside0 (wr.heap[gb672]? = some (.cells #[.slice A0_0 l0_0.length c0_0,.int .i64 a0_1] 25 (0,0))) := ⟨by rw [← hq_];exact (zk_ BK672.out)⟩;have n1_ : Aside0 (wr.heap[gb673]? = some (.cells #[.slice none 0 0,.int .i64 x674001_2] 25 (0,0))) := ⟨by rw [← hq_];exact (zk_ BK673.out)⟩;have n2_ : Aside0 (Below w.heap.size w wr) := ⟨by rw [← hq_];exact (zb2 HB.out GE672.out GE673.out)⟩;clear BK672 BK673 HB hq_;have BK672 := n0_;have BK673 := n1_;have HB := n2_;clear n0_ n1_ n2_));have hnb32 := NB673_672.out;have hnc32 := NB672_673.out;have hcz33_0 : wr.cell? ⟨gb673,0,none⟩ = some (.slice none 0 0) := (bkC BK673.out 0).trans rfl;have hcz33_1 : wr.cell? ⟨gb673,1,none⟩ = some (.int .i64 x674001_2) := (bkC BK673.out 1).trans rfl;have hfz33_0 := bkF BK673.out 0;have hfz33_1 := bkF BK673.out 1))
          refine bodyPost_ret (results_cell_row rfl _ _ gb673 25 #[.slice none 0 0,.int .i64 0] (0,0) _ rfl (by (with_reducible repeat (first|refine bkN ?_ _|refine bkD ?_|refine bkA ?_ _));refine blk_put (cs := #[.slice none 0 0,.int .i64 x674001_2]) ?_ 1 _ rfl;(with_reducible repeat (first|refine bkN ?_ _|refine bkD ?_|refine bkA ?_ _));refine blk_put (cs := #[.slice none 0 0,.int .i64 x674001_2]) ?_ 0 _ rfl;(with_reducible repeat (first|refine bkN ?_ _|refine bkD ?_|refine bkA ?_ _));exact BK673.out) Try.underlying25 rfl (by kernel_rfl)) rfl ?_
          exact ⟨_,by first|rfl|(simp [errW_none,errW_some] <;> rfl)|(simp [*,errW_none,errW_some] <;> rfl),by first|exact Kd.S_nil _ _ _ _ _|exact Kd.S_nil _ _ _ _ _|exact Kd.V_nil _ _ _ _ _|exact Kd.Q_nil _ _ _ _ _|exact Kd.R_nil _ _ _ _ _,by repeat (first|(with_reducible first|exact HB.out|apply bwA|apply bwN|apply bwD|refine bwS ?_ GE672.out|refine bwS ?_ GE673.out)|exact HB.out)⟩
         ·replace c30 := Bool.eq_false_iff.mpr c30
          subst c30
          have H1 : (impl_RenumberGraph.l0 k2 l1 l1 (l1.length : Int) (wrap64 (x24_2 + 1)) l0_0 a0_1) = some (r1,r2) := by rw [if_neg (show ¬ (false = true) by decide)] at H;exact H
          clear H
          have H := H1
          clear H1
          have H' := As_ H
          clear H
          have p675 : 0 ≤ (x24_2 : Int) := odT zA_
          have q675 : x24_2 < (l1.length : Int) := odT zA_
          obtain ⟨ad675,e675,hx675_0⟩ := Kd.at_int HR1.out x24_2 p675 q675
          cases e675
          replace hx675_0 := (HB.out.cell (bwL w _ hx675_0)).trans hx675_0
          replace p675 := eq_true p675
          replace q675 := eq_true q675
          obtain ⟨i034,hi034,_,hsz34,_⟩ := info_parts info3
          obtain ⟨hcut34,hA34,hC34⟩ := print_take_of (P := Try.prog) (Value.int .i64) 0 26 3 .i64 Try.underlying26 hi034 hsz34 (some ad675) c1 l1 x24_2 (odT zA_) (odT zA_) HC1.out
          have HR676 := As_ (Kd.C_of_reads (h1 := fun _ => rfl) (hA34 _ (Kd.reads_of_C HR1.out)))
          have HC676 := As_ hC34
          clear hA34 hC34 hi034 hsz34
          go_wp2_with (first|(go_at_call 59;(try rw [show x24_2.toNat = (List.take (x24_2 : Int).toNat l1).length from (by rw [List.length_take];symm;apply Nat.min_eq_left;have q_ : x24_2 < (l1.length : Int) := odT (by assumption);omega)]);(with_reducible refine (slices_Contains_int_int.calls k2 _ _ (l1.take (x24_2 : Int).toNat) (rd l1 x24_2) false _ ?side1 ?side2 A29.out).mono ?_);(case side1 => repeat (first|exact (Kd.C_below HR676.out HB.out)|(with_reducible refine Kd.C_alloc ?_ _)|(with_reducible refine Kd.C_drewN ?_ _)|(with_reducible refine Kd.C_drew ?_)));(case side2 => exact HC676.out);rintro e w' ⟨rfl,⟨nd,rfl⟩⟩))
          go_roundg k2
          case measure => have := HJ2.out;have := HK2.out;omega
          case rel => exact ⟨(wrap64 (x24_2 + 1)),(x674001_2),zT_,H',⟨by have := HJ2.out;have := HK2.out;omega⟩,⟨by (with_reducible repeat (first|refine bkN ?_ _|refine bkD ?_|refine bkA ?_ _));exact BK672.out⟩,⟨by (with_reducible repeat (first|refine bkN ?_ _|refine bkD ?_|refine bkA ?_ _));exact BK673.out⟩,⟨by repeat (first|(with_reducible first|exact HB.out|apply bwA|apply bwN|apply bwD|refine bwS ?_ GE672.out|refine bwS ?_ GE673.out)|exact HB.out)⟩⟩
      ·rw [if_neg c18] at H
       have c18b0 : decide (x24_2 < (l1.length : Int)) = false := deF c18
       clear c18
       by_cases c35 : 0 ≤ (l1.length : Int)
       rotate_left
       ·rw [if_neg c35] at H
        exact absurd H (by simp)
       rw [if_pos c35] at H
       have c35b0 := eq_true c35
       have c35b1 : decide (0 ≤ (l1.length : Int)) = true := deT c35
       clear c35
       by_cases c36 : ((l1.length : Int) : Int).toNat ≤ 7036874417766
       rotate_left
       ·rw [if_neg c36] at H
        exact absurd H (by simp)
       rw [if_pos c36] at H
       have c36b0 := eq_true c36
       have c36b1 : decide (((l1.length : Int) : Int).toNat ≤ 7036874417766) = true := deT c36
       clear c36
       obtain ⟨y678,hy678⟩ : ∃ y_ : List (S58),y_ = (List.replicate ((l1.length : Int) : Int).toNat z58) := ⟨_,rfl⟩
       replace H : (if 0 ≤ a0_1 then (if a0_1 < (l1.length : Int) then (impl_RenumberGraph.l1 k2 l1 l0_0 (l0_0.length : Int) 0 y678 (rd l1 a0_1)) else (none)) else (none)) = some (r1,r2) := by first|(rw [hy678];with_reducible exact H)|(have H2_ := (Option.bind_some _ _).symm.trans H;rw [hy678];with_reducible exact H2_)|(have H2_ := (Option.bind_some _ _).symm.trans H;with_reducible exact H2_)|with_reducible exact H|(rw [hy678];exact H)|exact H
       have Ny678 := As_ hy678
       clear hy678
       by_cases c37 : 0 ≤ a0_1
       rotate_left
       ·rw [if_neg c37] at H
        exact absurd H (by simp)
       rw [if_pos c37] at H
       have c37b0 : decide (0 ≤ a0_1) = true := deT c37
       clear c37
       by_cases c38 : a0_1 < (l1.length : Int)
       rotate_left
       ·rw [if_neg c38] at H
        exact absurd H (by simp)
       rw [if_pos c38] at H
       have c38b0 : decide (a0_1 < (l1.length : Int)) = true := deT c38
       clear c38
       have H' := As_ H
       clear H
       try go_wp2
       have n0_ := As_ (bkD BK672.out)
       have n1_ := As_ (bkD BK673.out)
       have n2_ := As_ (bwD HB.out)
       clear BK672
       clear BK673
       clear HB
       have BK672 := n0_
       have BK673 := n1_
       have HB := n2_
       clear n0_ n1_ n2_
       have p681 : 0 ≤ (a0_1 : Int) := odT zA_
       have q681 : a0_1 < (l1.length : Int) := odT zA_
       obtain ⟨ad681,e681,hx681_0⟩ := Kd.at_int HR1.out a0_1 p681 q681
       have hw681_0 := hx681_0
       cases e681
       replace hx681_0 := (HB.out.cell (bwL w _ hx681_0)).trans hx681_0
       replace p681 := eq_true p681
       replace q681 := eq_true q681
       refine start_ (n := 11) (S := fun w' => w'.cell? ⟨gb672,0,none⟩ = some (.slice A0_0 l0_0.length c0_0) ∧ w'.cell? ⟨gb672,1,none⟩ = some (.int .i64 a0_1) ∧ w'.cell? (ad681.add (a0_1).toNat) = some (.int .i64 (rd l1 a0_1))) (ds := []) (bl_ 0 11) (by kernel_rfl) rfl rfl ⟨(bkC BK672.out 0).trans rfl,(bkC BK672.out 1).trans rfl,((HB.out.cell (bwL w _ hw681_0)).trans hw681_0)⟩ (fun hHeld => ?_);refine with_tabW impl_RenumberGraph.tab9 impl_RenumberGraph.bits9 (fun HT_ HW_ => ?_)
       generalize wr.drew = w39 at BK672 BK673 HB hx681_0 hHeld ⊢
       refine pP 0 46 (bl_ 1 11) ?_ HT_ rfl (.inl ⟨by rfl,?_⟩) ?_ ?_ ?_;rotate_left;(intro w';go_simp;with_reducible rfl);rotate_left;(simp only [Act.put,sq_,i64_w,i32_w];rfl)
       refine pP 1 47 (bl_ 3 11) ?_ HT_ rfl (.inl ⟨by rfl,?_⟩) ?_ ?_ ?_;rotate_left;(intro w';go_simp;with_reducible rfl);rotate_left;(simp only [Act.put,sq_,i64_w,i32_w];rfl)
       refine pP 3 49 (bl_ 11 11) ?_ HT_ rfl (.inl ⟨by rfl,?_⟩) ?_ ?_ ?_;rotate_left;(intro w';go_simp;with_reducible rfl);rotate_left;(simp only [Act.put,sq_,i64_w,i32_w];rfl)
       refine pP 4 50 (bl_ 27 11) ?_ HT_ rfl (.inl ⟨by rfl,?_⟩) ?_ ?_ ?_;rotate_left;(intro w';go_simp;with_reducible rfl);rotate_left;(simp only [Act.put,sq_,i64_w,i32_w];rfl)
       refine tP 5 51 (bl_ 59 11) ?_ HT_ HW_ rfl (.inl ⟨by rfl,?_⟩) hHeld ?_ ?_ ?_;rotate_left;(rintro w' ⟨s0,s1,s2⟩;go_simp;with_reducible rfl);rotate_left;(simp only [Act.put,sq_,i64_w,i32_w];rfl)
       refine pP 6 52 (bl_ 123 11) ?_ HT_ rfl (.inl ⟨by rfl,?_⟩) ?_ ?_ ?_;rotate_left;(intro w';go_simp;with_reducible rfl);rotate_left;(simp only [Act.put,sq_,i64_w,i32_w];rfl)
       refine tP 7 53 (bl_ 251 11) ?_ HT_ HW_ rfl (.inl ⟨by rfl,?_⟩) hHeld ?_ ?_ ?_;rotate_left;(rintro w' ⟨s0,s1,s2⟩;go_simp;with_reducible rfl);rotate_left;(simp only [Act.put,sq_,i64_w,i32_w];rfl)
       refine join_ (σ := Value × Nat) 1 (bl_ 1023 11) (fun s_ => [(48,s_.1),(7,.pointer (some ⟨s_.2,0,none⟩)),(54,.agg #[s_.1,.int .i64 (rd l1 a0_1)])]) (fun s_ w' => (w'.cell? ⟨gb672,0,none⟩ = some (.slice A0_0 l0_0.length c0_0) ∧ w'.cell? ⟨gb672,1,none⟩ = some (.int .i64 a0_1) ∧ w'.cell? (ad681.add (a0_1).toNat) = some (.int .i64 (rd l1 a0_1))) ∧ (Kd.S k58 58 w' w.heap.size (fun k_ => k_ ≠ gb672 ∧ k_ ≠ gb673 ∧ k_ ≠ s_.2) s_.1 y678) ∧ (w'.heap[gb672]? = some (.cells #[.slice A0_0 l0_0.length c0_0,.int .i64 a0_1] 25 (0,0))) ∧ (w'.heap[gb673]? = some (.cells #[.slice none 0 0,.int .i64 x674001_2] 25 (0,0))) ∧ (w'.heap[s_.2]? = some (.cells #[.slice none 0 0,.int .i64 0] 25 (0,0))) ∧ (w.heap.size ≤ s_.2) ∧ (w.heap.size ≤ s_.2) ∧ (gb672 ≠ s_.2) ∧ (s_.2 ≠ gb672) ∧ (gb673 ≠ s_.2) ∧ (s_.2 ≠ gb673) ∧ (Below w.heap.size w w')) ?_ ?_
       rotate_left
       ·intro hCont
        refine two_ (i := 2) (j := 9) (Ni := some 48) (Nj := some 7) (bl_ 255 11) (bl_ 763 11) rfl rfl rfl rfl (two_of HT_.out (by kernel_rfl)) (by decide) (by decide) (fun K hK => ?_) (fun K hK => ?_)
        ·skip
         refine Kd.S_make_step k58 _ 58 (by rfl) (N := 48) rfl 23 _ _ rfl (l1.length : Int) rfl rfl Try.underlying23 (.agg #[(.int .i64 0),(.int .i64 0),(.slice none 0 0)]) 40 info58 rfl (by decide) (by omega) z58 (ok := fun k_ => w39.heap.size ≤ k_) (okp := fun _ => False) (k58_mkM _ _ _ z58 (Kd.R_nil _ _ _ _ _)) (fun _ hk => hk.elim) (Nat.le_refl _) (odT zA_) (Nat.le_trans (Nat.mul_le_mul_right _ (odT zA_ : (l1.length : Int).toNat ≤ 7036874417766)) (by omega)) (Below.refl _ _) (Nat.le_refl _) ?_
         intro v679 w40 ho41 hb hg_ hnew_
         clear hg_ hnew_
         (first|rw [← Ny678.out] at ho41|(simp only [Int.reduceToNat] at ho41;rw [← Ny678.out] at ho41))
         have n0_ := As_ (Kd.S_lower (Kd.S_mono (ok' := fun k_ => k_ ≠ gb672 ∧ k_ ≠ gb673) ho41 (fun k_ hk_ => ⟨(Kd.freshB (g := gb672) (o := .cells #[.slice A0_0 l0_0.length c0_0,.int .i64 a0_1] 25 (0,0)) (zk_ BK672.out) k_ hk_),(Kd.freshB (g := gb673) (o := .cells #[.slice none 0 0,.int .i64 x674001_2] 25 (0,0)) (zk_ BK673.out) k_ hk_)⟩)) (bwZ (zb2 HB.out GE672.out GE673.out)))
         have n1_ := As_ (zkb BK672.out hb)
         have n2_ := As_ (zkb BK673.out hb)
         have n3_ := As_ (bwT (zb2 HB.out GE672.out GE673.out) hb)
         clear BK672
         clear BK673
         clear HB
         have HO680 := n0_
         have BK672 := n1_
         have BK673 := n2_
         have HB := n3_
         clear n0_ n1_ n2_ n3_
         clear hb ho41
         obtain ⟨Ao42,co42,eo42⟩ := Kd.S_slice HO680.out
         (first|subst eo42|(injection eo42 with f1_ f2_ f3_;have f4_ := f1_.symm;have f5_ := f3_.symm;clear f1_ f2_ f3_;subst f4_;subst f5_))
         refine hK.out _ _ ⟨(bkC BK672.out 0).trans rfl,(bkC BK672.out 1).trans rfl,((HB.out.cell (bwL w _ hw681_0)).trans hw681_0)⟩ (fun hHeld => ?_)
         clear hK K
         refine norm_ (a' := ?_) ?_ ?_
         rotate_left
         ·show Act.put _ (some 48) _ = _
          simp only [Act.put,sq_,i64_w,i32_w]
          rfl
         refine pP 8 54 (bl_ 511 11) ?_ HT_ rfl (.inl ⟨by rfl,?_⟩) ?_ ?_ ?_;rotate_left;(intro w';go_simp;with_reducible rfl);rotate_left;(simp only [Act.put,sq_,i64_w,i32_w];rfl)
         refine one_ (i := 9) (N := some 7) (bl_ 1023 11) rfl rfl (one_of HT_.out (by kernel_rfl)) (by decide) (fun K hK => ?_)
         refine box_step ?hg (N := 7) ?hd (cs := #[.slice none 0 0,.int .i64 0]) (t := 25) ?hr ?_;(case hd => rfl);(case hg => rfl);(case hr => go_simp <;> rfl)
         intro gb682 hg w43 hbox hb
         have n0_ := As_ (Kd.S_below (Kd.S_elderB (zS_ HO680.out) gb682 (Nat.le_of_eq hg.symm)) hb)
         have n1_ := As_ (zkb BK672.out hb)
         have n2_ := As_ (zkb BK673.out hb)
         have n3_ := As_ (bwT (zb2 HB.out GE672.out GE673.out) hb)
         have n4_ := As_ (hbox)
         have n5_ := As_ ((by rw [hg];exact (bwZ (zb2 HB.out GE672.out GE673.out)) : w.heap.size ≤ gb682))
         have n6_ := As_ ((by rw [hg];exact (bwZ (zb2 HB.out GE672.out GE673.out)) : w.heap.size ≤ gb682))
         have n7_ := As_ ((by rw [hg];exact Nat.ne_of_lt (zkl BK672.out) : gb672 ≠ gb682))
         have n8_ := As_ ((by rw [hg];exact Nat.ne_of_gt (zkl BK672.out) : gb682 ≠ gb672))
         have n9_ := As_ ((by rw [hg];exact Nat.ne_of_lt (zkl BK673.out) : gb673 ≠ gb682))
         have n10_ := As_ ((by rw [hg];exact Nat.ne_of_gt (zkl BK673.out) : gb682 ≠ gb673))
         clear HO680
         clear BK672
         clear BK673
         clear HB
         have HO680 := n0_
         have BK672 := n1_
         have BK673 := n2_
         have HB := n3_
         have BK682 := n4_
         have GW682 := n5_
         have GE682 := n6_
         have NB672_682 := n7_
         have NB682_672 := n8_
         have NB673_682 := n9_
         have NB682_673 := n10_
         clear n0_ n1_ n2_ n3_ n4_ n5_ n6_ n7_ n8_ n9_ n10_
         clear hb hbox hg
         refine hK.out _ _ ⟨(bkC BK672.out 0).trans rfl,(bkC BK672.out 1).trans rfl,((HB.out.cell (bwL w _ hw681_0)).trans hw681_0)⟩ (fun hHeld => ?_)
         clear hK K
         refine norm_ (a' := ?_) ?_ ?_
         rotate_left
         ·show Act.put _ (some 7) _ = _
          simp only [Act.put,sq_,i64_w,i32_w]
          rfl
         exact norm_ (by simp only [putAll,Act.put,List.setIfInBounds_toArray,List.set_cons_zero,List.set_cons_succ]) (hCont (.slice Ao42 y678.length co42,gb682) _ ⟨hHeld,(by (with_reducible repeat (first|apply Kd.S_alloc|apply Kd.S_drewN|apply Kd.S_drew));exact Kd.S_mono HO680.out (fun _ hk => ⟨hk.1.1,⟨hk.1.2,hk.2⟩⟩)),(zk_ BK672.out),(zk_ BK673.out),(zk_ BK682.out),GW682.out,GE682.out,NB672_682.out,NB682_672.out,NB673_682.out,NB682_673.out,(zb3 HB.out GE672.out GE673.out GE682.out)⟩)
        ·skip
         refine box_step ?hg (N := 7) ?hd (cs := #[.slice none 0 0,.int .i64 0]) (t := 25) ?hr ?_;(case hd => rfl);(case hg => rfl);(case hr => go_simp <;> rfl)
         intro gb682 hg w40 hbox hb
         have n0_ := As_ (zkb BK672.out hb)
         have n1_ := As_ (zkb BK673.out hb)
         have n2_ := As_ (bwT (zb2 HB.out GE672.out GE673.out) hb)
         have n3_ := As_ (hbox)
         have n4_ := As_ ((by rw [hg];exact (bwZ (zb2 HB.out GE672.out GE673.out)) : w.heap.size ≤ gb682))
         have n5_ := As_ ((by rw [hg];exact (bwZ (zb2 HB.out GE672.out GE673.out)) : w.heap.size ≤ gb682))
         have n6_ := As_ ((by rw [hg];exact Nat.ne_of_lt (zkl BK672.out) : gb672 ≠ gb682))
         have n7_ := As_ ((by rw [hg];exact Nat.ne_of_gt (zkl BK672.out) : gb682 ≠ gb672))
         have n8_ := As_ ((by rw [hg];exact Nat.ne_of_lt (zkl BK673.out) : gb673 ≠ gb682))
         have n9_ := As_ ((by rw [hg];exact Nat.ne_of_gt (zkl BK673.out) : gb682 ≠ gb673))
         clear BK672
         clear BK673
         clear HB
         have BK672 := n0_
         have BK673 := n1_
         have HB := n2_
         have BK682 := n3_
         have GW682 := n4_
         have GE682 := n5_
         have NB672_682 := n6_
         have NB682_672 := n7_
         have NB673_682 := n8_
         have NB682_673 := n9_
         clear n0_ n1_ n2_ n3_ n4_ n5_ n6_ n7_ n8_ n9_
         clear hb hbox hg
         refine hK.out _ _ ⟨(bkC BK672.out 0).trans rfl,(bkC BK672.out 1).trans rfl,((HB.out.cell (bwL w _ hw681_0)).trans hw681_0)⟩ (fun hHeld => ?_)
         clear hK K
         refine norm_ (a' := ?_) ?_ ?_
         rotate_left
         ·show Act.put _ (some 7) _ = _
          simp only [Act.put,sq_,i64_w,i32_w]
          rfl
         refine one_ (i := 2) (N := some 48) (bl_ 767 11) rfl rfl (one_of HT_.out (by kernel_rfl)) (by decide) (fun K hK => ?_)
         refine Kd.S_make_step k58 _ 58 (by rfl) (N := 48) rfl 23 _ _ rfl (l1.length : Int) rfl rfl Try.underlying23 (.agg #[(.int .i64 0),(.int .i64 0),(.slice none 0 0)]) 40 info58 rfl (by decide) (by omega) z58 (ok := fun k_ => w40.heap.size ≤ k_) (okp := fun _ => False) (k58_mkM _ _ _ z58 (Kd.R_nil _ _ _ _ _)) (fun _ hk => hk.elim) (Nat.le_refl _) (odT zA_) (Nat.le_trans (Nat.mul_le_mul_right _ (odT zA_ : (l1.length : Int).toNat ≤ 7036874417766)) (by omega)) (Below.refl _ _) (Nat.le_refl _) ?_
         intro v679 w41 ho42 hb hg_ hnew_
         clear hg_ hnew_
         (first|rw [← Ny678.out] at ho42|(simp only [Int.reduceToNat] at ho42;rw [← Ny678.out] at ho42))
         have n0_ := As_ (Kd.S_lower (Kd.S_mono (ok' := fun k_ => k_ ≠ gb672 ∧ k_ ≠ gb673 ∧ k_ ≠ gb682) ho42 (fun k_ hk_ => ⟨(Kd.freshB (g := gb672) (o := .cells #[.slice A0_0 l0_0.length c0_0,.int .i64 a0_1] 25 (0,0)) (zk_ BK672.out) k_ hk_),(Kd.freshB (g := gb673) (o := .cells #[.slice none 0 0,.int .i64 x674001_2] 25 (0,0)) (zk_ BK673.out) k_ hk_),(Kd.freshB (g := gb682) (o := .cells #[.slice none 0 0,.int .i64 0] 25 (0,0)) (zk_ BK682.out) k_ hk_)⟩)) (bwZ (zb3 HB.out GE672.out GE673.out GE682.out)))
         have n1_ := As_ (zkb BK672.out hb)
         have n2_ := As_ (zkb BK673.out hb)
         have n3_ := As_ (zkb BK682.out hb)
         have n4_ := As_ (bwT (zb3 HB.out GE672.out GE673.out GE682.out) hb)
         clear BK672
         clear BK673
         clear BK682
         clear HB
         have HO680 := n0_
         have BK672 := n1_
         have BK673 := n2_
         have BK682 := n3_
         have HB := n4_
         clear n0_ n1_ n2_ n3_ n4_
         clear hb ho42
         obtain ⟨Ao43,co43,eo43⟩ := Kd.S_slice HO680.out
         (first|subst eo43|(injection eo43 with f1_ f2_ f3_;have f4_ := f1_.symm;have f5_ := f3_.symm;clear f1_ f2_ f3_;subst f4_;subst f5_))
         refine hK.out _ _ ⟨(bkC BK672.out 0).trans rfl,(bkC BK672.out 1).trans rfl,((HB.out.cell (bwL w _ hw681_0)).trans hw681_0)⟩ (fun hHeld => ?_)
         clear hK K
         refine norm_ (a' := ?_) ?_ ?_
         rotate_left
         ·show Act.put _ (some 48) _ = _
          simp only [Act.put,sq_,i64_w,i32_w]
          rfl
         refine pP 8 54 (bl_ 1023 11) ?_ HT_ rfl (.inl ⟨by rfl,?_⟩) ?_ ?_ ?_;rotate_left;(intro w';go_simp;with_reducible rfl);rotate_left;(simp only [Act.put,sq_,i64_w,i32_w];rfl)
         exact norm_ (by simp only [putAll,Act.put,List.setIfInBounds_toArray,List.set_cons_zero,List.set_cons_succ]) (hCont (.slice Ao43 y678.length co43,gb682) _ ⟨hHeld,(zS_ HO680.out),(zk_ BK672.out),(zk_ BK673.out),(zk_ BK682.out),GW682.out,GE682.out,NB672_682.out,NB682_672.out,NB673_682.out,NB682_673.out,(zb3 HB.out GE672.out GE673.out GE682.out)⟩)
       rintro ⟨v679,gb682⟩ w44 ⟨hS_,h0_,h1_,h2_,h3_,h4_,h5_,h6_,h7_,h8_,h9_,h10_⟩
       have n0_ : Aside0 (Kd.S k58 58 w44 w.heap.size (fun k_ => k_ ≠ gb672 ∧ k_ ≠ gb673 ∧ k_ ≠ gb682) v679 y678) := ⟨h0_⟩
       have n1_ : Aside0 (w44.heap[gb672]? = some (.cells #[.slice A0_0 l0_0.length c0_0,.int .i64 a0_1] 25 (0,0))) := ⟨h1_⟩
       have n2_ : Aside0 (w44.heap[gb673]? = some (.cells #[.slice none 0 0,.int .i64 x674001_2] 25 (0,0))) := ⟨h2_⟩
       have n3_ : Aside0 (w44.heap[gb682]? = some (.cells #[.slice none 0 0,.int .i64 0] 25 (0,0))) := ⟨h3_⟩
       have n4_ : Aside0 (w.heap.size ≤ gb682) := ⟨h4_⟩
       have n5_ : Aside0 (w.heap.size ≤ gb682) := ⟨h5_⟩
       have n6_ : Aside0 (gb672 ≠ gb682) := ⟨h6_⟩
       have n7_ : Aside0 (gb682 ≠ gb672) := ⟨h7_⟩
       have n8_ : Aside0 (gb673 ≠ gb682) := ⟨h8_⟩
       have n9_ : Aside0 (gb682 ≠ gb673) := ⟨h9_⟩
       have n10_ : Aside0 (Below w.heap.size w w44) := ⟨h10_⟩
       clear BK672
       clear BK673
       clear HB
       clear h0_ h1_ h2_ h3_ h4_ h5_ h6_ h7_ h8_ h9_ h10_
       have HO680 := n0_
       have BK672 := n1_
       have BK673 := n2_
       have BK682 := n3_
       have GW682 := n4_
       have GE682 := n5_
       have NB672_682 := n6_
       have NB682_672 := n7_
       have NB673_682 := n8_
       have NB682_673 := n9_
       have HB := n10_
       clear n0_ n1_ n2_ n3_ n4_ n5_ n6_ n7_ n8_ n9_ n10_
       have hHeld : w44.cell? ⟨gb672,0,none⟩ = some (.slice A0_0 l0_0.length c0_0) ∧ w44.cell? ⟨gb672,1,none⟩ = some (.int .i64 a0_1) ∧ w44.cell? (ad681.add (a0_1).toNat) = some (.int .i64 (rd l1 a0_1)) := hS_
       obtain ⟨Ao45,co45,eo45⟩ := Kd.S_slice HO680.out
       (first|subst eo45|(injection eo45 with f1_ f2_ f3_;have f4_ := f1_.symm;have f5_ := f3_.symm;clear f1_ f2_ f3_;subst f4_;subst f5_))
       refine norm_ (a' := ?_) ?_ ?_
       rotate_left
       ·simp only [putAll,Act.put,List.setIfInBounds_toArray,List.set_cons_zero,List.set_cons_succ]
        rfl
       refine one_ (i := 10) (N := none) (bl_ 2047 11) rfl rfl (one_of HT_.out (by kernel_rfl)) (by decide) (fun K hK => ?_)
       have hs46 : w44.cell? ⟨gb682,0,none⟩ = some (.slice none 0 0) := (bkC BK682.out 0).trans rfl
       have hfs46 := bkF BK682.out 0
       have hns46_0 := NB672_682.out
       have hns46_1 := NB673_682.out
       have hms46_0 := NB682_672.out
       have hms46_1 := NB682_673.out
       have hs47 : w44.cell? ⟨gb682,1,none⟩ = some (.int .i64 0) := (bkC BK682.out 1).trans rfl
       have hfs47 := bkF BK682.out 1
       have hns47_0 := NB672_682.out
       have hns47_1 := NB673_682.out
       have hms47_0 := NB682_672.out
       have hms47_1 := NB682_673.out
       refine skip_ (w1 := ?_) (by rfl) rfl ?_ ?_
       rotate_left
       ·go_simp
        rfl
       refine hK.out _ _ ⟨((cell_far (p := ⟨gb682,_,none⟩) NB672_682.out _).trans (((cell_far (p := ⟨gb682,_,none⟩) NB672_682.out _).trans (hHeld.1)))),((cell_far (p := ⟨gb682,_,none⟩) NB672_682.out _).trans (((cell_far (p := ⟨gb682,_,none⟩) NB672_682.out _).trans (hHeld.2.1)))),((cell_far (p := ⟨gb682,_,none⟩) (by first|exact Nat.ne_of_lt (Nat.lt_of_lt_of_le (by have := bwL _ _ hw681_0;first|rwa [add_block] at this|exact this) GW682.out)|(rw [add_block];exact Nat.ne_of_lt (Nat.lt_of_lt_of_le (by have := bwL _ _ hw681_0;first|rwa [add_block] at this|exact this) GW682.out))|(show (Addr.add _ _).block ≠ _;rw [add_block];exact Nat.ne_of_lt (Nat.lt_of_lt_of_le (by have := bwL _ _ hw681_0;first|rwa [add_block] at this|exact this) GW682.out))|(dsimp only;exact Nat.ne_of_lt (Nat.lt_of_lt_of_le (by have := bwL _ _ hw681_0;first|rwa [add_block] at this|exact this) GW682.out))) _).trans (((cell_far (p := ⟨gb682,_,none⟩) (by first|exact Nat.ne_of_lt (Nat.lt_of_lt_of_le (by have := bwL _ _ hw681_0;first|rwa [add_block] at this|exact this) GW682.out)|(rw [add_block];exact Nat.ne_of_lt (Nat.lt_of_lt_of_le (by have := bwL _ _ hw681_0;first|rwa [add_block] at this|exact this) GW682.out))|(show (Addr.add _ _).block ≠ _;rw [add_block];exact Nat.ne_of_lt (Nat.lt_of_lt_of_le (by have := bwL _ _ hw681_0;first|rwa [add_block] at this|exact this) GW682.out))|(dsimp only;exact Nat.ne_of_lt (Nat.lt_of_lt_of_le (by have := bwL _ _ hw681_0;first|rwa [add_block] at this|exact this) GW682.out))) _).trans (hHeld.2.2))))⟩ (fun hHeld => ?_)
       clear hK K
       refine done_ (done_of HT_.out (by kernel_rfl)) ?_
       have hnb48 := NB672_673.out
       have hnc48 := NB673_672.out
       have hnb49 := NB672_682.out
       have hnc49 := NB682_672.out
       have hcz50_0 : w44.cell? ⟨gb672,0,none⟩ = some (.slice A0_0 l0_0.length c0_0) := (bkC BK672.out 0).trans rfl
       have hcz50_1 : w44.cell? ⟨gb672,1,none⟩ = some (.int .i64 a0_1) := (bkC BK672.out 1).trans rfl
       have hfz50_0 := bkF BK672.out 0
       have hfz50_1 := bkF BK672.out 1
       try go_wp2
       go_loopg [58] k2 (fun kq v58 w' => ∃ (x58_3 : Int) (x683000_3 : List (S58)) (u683000 : Value),v58 = .int .i64 x58_3 ∧ Aside0 (impl_RenumberGraph.l1 kq l1 l0_0 (l0_0.length : Int) x58_3 x683000_3 (rd l1 a0_1) = some (r1,r2)) ∧ Aside0 (kq ≤ k2) ∧ Aside0 (Kd.S k58 58 w' w.heap.size (fun k_ => k_ ≠ gb672 ∧ k_ ≠ gb673 ∧ k_ ≠ gb682) u683000 x683000_3) ∧ Aside0 (w'.heap[gb672]? = some (.cells #[(.slice A0_0 l0_0.length c0_0),.int .i64 a0_1] 25 (0,0))) ∧ Aside0 (w'.heap[gb673]? = some (.cells #[(.slice none 0 0),.int .i64 x674001_2] 25 (0,0))) ∧ Aside0 (w'.heap[gb682]? = some (.cells #[u683000,.int .i64 (rd l1 a0_1)] 25 (0,0))) ∧ Aside0 (Below w.heap.size w w'))
       case atStart => exact ⟨(0),(y678),(.slice Ao45 y678.length co45),zT_,H',⟨Nat.le_refl _⟩,⟨by (with_reducible repeat (first|apply Kd.S_alloc|apply Kd.S_drewN|apply Kd.S_drew));exact Kd.S_mono (Kd.S_far (p := ⟨gb682,1,none⟩) (Kd.S_far (p := ⟨gb682,0,none⟩) (Kd.S_mono HO680.out (fun k_ hk => (⟨hk,hk.2.2⟩ : _ ∧ k_ ≠ gb682))) (fun _ hk => hk.2) (.slice Ao45 y678.length co45)) (fun _ hk => hk.2) (.int .i64 (rd l1 a0_1))) (fun _ hk => ⟨hk.1.1,⟨hk.1.2.1,hk.1.2.2⟩⟩)⟩,⟨by (with_reducible repeat (first|refine bkN ?_ _|refine bkD ?_|refine bkA ?_ _));refine blk_far ?_ NB672_682.out _;(with_reducible repeat (first|refine bkN ?_ _|refine bkD ?_|refine bkA ?_ _));refine blk_far ?_ NB672_682.out _;(with_reducible repeat (first|refine bkN ?_ _|refine bkD ?_|refine bkA ?_ _));exact BK672.out⟩,⟨by (with_reducible repeat (first|refine bkN ?_ _|refine bkD ?_|refine bkA ?_ _));refine blk_far ?_ NB673_682.out _;(with_reducible repeat (first|refine bkN ?_ _|refine bkD ?_|refine bkA ?_ _));refine blk_far ?_ NB673_682.out _;(with_reducible repeat (first|refine bkN ?_ _|refine bkD ?_|refine bkA ?_ _));exact BK673.out⟩,⟨by (with_reducible repeat (first|refine bkN ?_ _|refine bkD ?_|refine bkA ?_ _));refine blk_put (cs := #[.slice Ao45 y678.length co45,.int .i64 0]) ?_ 1 _ rfl;(with_reducible repeat (first|refine bkN ?_ _|refine bkD ?_|refine bkA ?_ _));refine blk_put (cs := #[.slice none 0 0,.int .i64 0]) ?_ 0 _ rfl;(with_reducible repeat (first|refine bkN ?_ _|refine bkD ?_|refine bkA ?_ _));exact BK682.out⟩,⟨by repeat (first|(with_reducible first|exact HB.out|apply bwA|apply bwN|apply bwD|refine bwS ?_ GE672.out|refine bwS ?_ GE673.out|refine bwS ?_ GE682.out)|exact HB.out)⟩⟩
       case round =>
        clear H'
        try clear c1
        try clear c2
        try clear p2
        try clear c3
        try clear c4
        try clear p6
        try clear q6
        try clear hx6
        try clear c7
        try clear c8
        try clear c12
        try clear c15
        try clear c16
        try clear c18
        try clear c18b0
        try clear c19
        try clear c19b0
        try clear c20
        try clear c20b0
        try clear c21
        try clear c21b0
        try clear c22
        try clear c24
        try clear c24b0
        try clear c25
        try clear c27
        try clear c27b0
        try clear c28
        try clear c28b0
        try clear c28b1
        try clear c30
        try clear c31
        try clear c32
        try clear c35
        try clear c35b0
        try clear c35b1
        try clear c36
        try clear c36b0
        try clear c36b1
        try clear c37
        try clear c37b0
        try clear c38
        try clear c38b0
        try clear c48
        try clear c49
        try clear hcz11_0
        try clear hcz11_1
        try clear hcz13_0
        try clear hcz13_1
        try clear hcz17_0
        try clear hcz17_1
        try clear hcz23_0
        try clear hcz23_1
        try clear hcz26_0
        try clear hcz26_1
        try clear hcz33_0
        try clear hcz33_1
        try clear hcz50_0
        try clear hcz50_1
        try clear hcz9_0
        try clear hcz9_1
        try clear hfz11_0
        try clear hfz11_1
        try clear hfz13_0
        try clear hfz13_1
        try clear hfz17_0
        try clear hfz17_1
        try clear hfz23_0
        try clear hfz23_1
        try clear hfz26_0
        try clear hfz26_1
        try clear hfz33_0
        try clear hfz33_1
        try clear hfz50_0
        try clear hfz50_1
        try clear hfz9_0
        try clear hfz9_1
        try clear hx675_0
        try clear hx681_0
        try clear p2
        try clear p675
        try clear p681
        try clear q675
        try clear q681
        obtain ⟨x58_3,x683000_3,u683000,rfl,HA,HK3,HO_683000,BK672,BK673,BK682,HB⟩ := hrel
        cases gk with
        | zero => exact absurd HA.out (fun h_ => (by cases h_))
        | succ k3 =>
         have H := HA.out
         clear HA
         simp only [impl_RenumberGraph.l1] at H
         by_cases c51 : x58_3 < (l0_0.length : Int)
         ·rw [if_pos c51] at H
          have c51b0 : decide (x58_3 < (l0_0.length : Int)) = true := deT c51
          clear c51
          by_cases c52 : 0 ≤ x58_3
          rotate_left
          ·rw [if_neg c52] at H
           exact absurd H (by simp)
          rw [if_pos c52] at H
          have c52b0 : decide (0 ≤ x58_3) = true := deT c52
          clear c52
          by_cases c53 : x58_3 < (l0_0.length : Int)
          rotate_left
          ·rw [if_neg c53] at H
           exact absurd H (by simp)
          rw [if_pos c53] at H
          have c53b0 : decide (x58_3 < (l0_0.length : Int)) = true := deT c53
          clear c53
          by_cases c54 : x58_3 < (l1.length : Int)
          rotate_left
          ·rw [if_neg c54] at H
           exact absurd H (by simp)
          rw [if_pos c54] at H
          have c54b0 : decide (x58_3 < (l1.length : Int)) = true := deT c54
          clear c54
          replace H := obS H
          obtain ⟨⟨t686,t687,t688⟩,A550,H⟩ := H
          replace H : (if 0 ≤ (rd l1 x58_3) then (if (rd l1 x58_3) < (x683000_3.length : Int) then (impl_RenumberGraph.l1 k3 l1 l0_0 (l0_0.length : Int) (wrap64 (x58_3 + 1)) (x683000_3.set ((rd l1 x58_3) : Int).toNat (⟨t686,t687,t688⟩ : S58)) (rd l1 a0_1)) else (none)) else (none)) = some (r1,r2) := H
          have A55 := As_ A550
          clear A550
          by_cases c56 : 0 ≤ (rd l1 x58_3)
          rotate_left
          ·rw [if_neg c56] at H
           exact absurd H (by simp)
          rw [if_pos c56] at H
          have c56b0 : decide (0 ≤ (rd l1 x58_3)) = true := deT c56
          clear c56
          by_cases c57 : (rd l1 x58_3) < (x683000_3.length : Int)
          rotate_left
          ·rw [if_neg c57] at H
           exact absurd H (by simp)
          rw [if_pos c57] at H
          have c57b0 : decide ((rd l1 x58_3) < (x683000_3.length : Int)) = true := deT c57
          clear c57
          obtain ⟨y691,hy691⟩ : ∃ y_ : List (S58),y_ = (x683000_3.set ((rd l1 x58_3) : Int).toNat (⟨t686,t687,t688⟩ : S58)) := ⟨_,rfl⟩
          replace H : (impl_RenumberGraph.l1 k3 l1 l0_0 (l0_0.length : Int) (wrap64 (x58_3 + 1)) y691 (rd l1 a0_1)) = some (r1,r2) := by first|(rw [hy691];with_reducible exact H)|(have H2_ := (Option.bind_some _ _).symm.trans H;rw [hy691];with_reducible exact H2_)|(have H2_ := (Option.bind_some _ _).symm.trans H;with_reducible exact H2_)|with_reducible exact H|(rw [hy691];exact H)|exact H
          have Ny691 := As_ hy691
          clear hy691
          have H' := As_ H
          clear H
          have p683 : 0 ≤ (x58_3 : Int) := odT zA_
          have q683 : x58_3 < (l0_0.length : Int) := odT zA_
          obtain ⟨ad683,A683_2,c683_2,e683,hx683_0,hx683_1,hx683_2,hl683_2,hi683_2⟩ := at_T58 HR0_0.out x58_3 p683 q683
          cases e683
          replace hx683_0 := (HB.out.cell (bwL w _ hx683_0)).trans hx683_0
          replace hx683_1 := (HB.out.cell (bwL w _ hx683_1)).trans hx683_1
          replace hx683_2 := (HB.out.cell (bwL w _ hx683_2)).trans hx683_2
          have HR683_2 := As_ hi683_2
          have HC683_2 := As_ hl683_2
          clear hi683_2 hl683_2
          replace p683 := eq_true p683
          replace q683 := eq_true q683
          try go_wp2_with (first|((with_reducible refine gate_dst (N := 9) rfl ?_);(try (refine gate_guard (by rfl) ?_;dsimp only));refine box_event ?hg (N := 9) ?hd (cs := #[.int .i64 0,.int .i64 0,.slice none 0 0]) (t := 58) ?hr ?_;(case hd => rfl);(case hg => rfl);(case hr => go_simp <;> rfl);intro gb684 hg w59 hbox hb;have n0_ := As_ (Kd.S_below (Kd.S_elderB (zS_ HO_683000.out) gb684 (Nat.le_of_eq hg.symm)) hb);have n1_ := As_ (zkb BK672.out hb);have n2_ := As_ (zkb BK673.out hb);have n3_ := As_ (zkb BK682.out hb);have n4_ := As_ (bwT (zb3 HB.out GE672.out GE673.out GE682.out) hb);have n5_ := As_ (hbox);have n6_ := As_ ((by rw [hg];exact (bwZ (zb3 HB.out GE672.out GE673.out GE682.out)) : w.heap.size ≤ gb684));have n7_ := As_ ((by rw [hg];exact (bwZ (zb3 HB.out GE672.out GE673.out GE682.out)) : w.heap.size ≤ gb684));have n8_ := As_ ((by rw [hg];exact Nat.ne_of_lt (zkl BK672.out) : gb672 ≠ gb684));have n9_ := As_ ((by rw [hg];exact Nat.ne_of_gt (zkl BK672.out) : gb684 ≠ gb672));have n10_ := As_ ((by rw [hg];exact Nat.ne_of_lt (zkl BK673.out) : gb673 ≠ gb684));have n11_ := As_ ((by rw [hg];exact Nat.ne_of_gt (zkl BK673.out) : gb684 ≠ gb673));have n12_ := As_ ((by rw [hg];exact Nat.ne_of_lt (zkl BK682.out) : gb682 ≠ gb684));have n13_ := As_ ((by rw [hg];exact Nat.ne_of_gt (zkl BK682.out) : gb684 ≠ gb682));clear HO_683000;clear BK672;clear BK673;clear BK682;clear HB;have HO_683000 := n0_;have BK672 := n1_;have BK673 := n2_;have BK682 := n3_;have HB := n4_;have BK684 := n5_;have GW684 := n6_;have GE684 := n7_;have NB672_684 := n8_;have NB684_672 := n9_;have NB673_684 := n10_;have NB684_673 := n11_;have NB682_684 := n12_;have NB684_682 := n13_;clear n0_ n1_ n2_ n3_ n4_ n5_ n6_ n7_ n8_ n9_ n10_ n11_ n12_ n13_;clear hb hbox hg;have hnb60 := NB684_672.out;have hnc60 := NB672_684.out;have hnb61 := NB684_673.out;have hnc61 := NB673_684.out;have hnb62 := NB684_682.out;have hnc62 := NB682_684.out;have hcz63_0 : w59.cell? ⟨gb684,0,none⟩ = some (.int .i64 0) := (bkC BK684.out 0).trans rfl;have hcz63_1 : w59.cell? ⟨gb684,1,none⟩ = some (.int .i64 0) := (bkC BK684.out 1).trans rfl;have hcz63_2 : w59.cell? ⟨gb684,2,none⟩ = some (.slice none 0 0) := (bkC BK684.out 2).trans rfl;have hfz63_0 := bkF BK684.out 0;have hfz63_1 := bkF BK684.out 1;have hfz63_2 := bkF BK684.out 2))
          have n0_ : Aside0 (Kd.S k58 58 (((w59.setCell ⟨gb684,0,none⟩ (.int .i64 ((rd_T58 l0_0 x58_3).f0))).setCell ⟨gb684,1,none⟩ (.int .i64 ((rd_T58 l0_0 x58_3).f1))).setCell ⟨gb684,2,none⟩ (.slice A683_2 ((rd_T58 l0_0 x58_3).f2).length c683_2)) w.heap.size (fun k_ => k_ ≠ gb672 ∧ k_ ≠ gb673 ∧ k_ ≠ gb682 ∧ k_ ≠ gb684) u683000 x683000_3) := ⟨by (with_reducible repeat (first|apply Kd.S_alloc|apply Kd.S_drewN|apply Kd.S_drew));exact Kd.S_mono (Kd.S_far (p := ⟨gb684,2,none⟩) (Kd.S_far (p := ⟨gb684,1,none⟩) (Kd.S_far (p := ⟨gb684,0,none⟩) (Kd.S_mono HO_683000.out (fun k_ hk => (⟨hk,hk.2⟩ : _ ∧ k_ ≠ gb684))) (fun _ hk => hk.2) (.int .i64 ((rd_T58 l0_0 x58_3).f0))) (fun _ hk => hk.2) (.int .i64 ((rd_T58 l0_0 x58_3).f1))) (fun _ hk => hk.2) (.slice A683_2 ((rd_T58 l0_0 x58_3).f2).length c683_2)) (fun _ hk => ⟨hk.1.1.1,⟨hk.1.1.2.1,⟨hk.1.1.2.2,hk.1.2⟩⟩⟩)⟩
          have n1_ : Aside0 ((((w59.setCell ⟨gb684,0,none⟩ (.int .i64 ((rd_T58 l0_0 x58_3).f0))).setCell ⟨gb684,1,none⟩ (.int .i64 ((rd_T58 l0_0 x58_3).f1))).setCell ⟨gb684,2,none⟩ (.slice A683_2 ((rd_T58 l0_0 x58_3).f2).length c683_2)).heap[gb672]? = some (.cells #[.slice (some ad683) l0_0.length c0_0,.int .i64 a0_1] 25 (0,0))) := ⟨by (with_reducible repeat (first|refine bkN ?_ _|refine bkD ?_|refine bkA ?_ _));refine blk_far ?_ NB672_684.out _;(with_reducible repeat (first|refine bkN ?_ _|refine bkD ?_|refine bkA ?_ _));refine blk_far ?_ NB672_684.out _;(with_reducible repeat (first|refine bkN ?_ _|refine bkD ?_|refine bkA ?_ _));refine blk_far ?_ NB672_684.out _;(with_reducible repeat (first|refine bkN ?_ _|refine bkD ?_|refine bkA ?_ _));exact BK672.out⟩
          have n2_ : Aside0 ((((w59.setCell ⟨gb684,0,none⟩ (.int .i64 ((rd_T58 l0_0 x58_3).f0))).setCell ⟨gb684,1,none⟩ (.int .i64 ((rd_T58 l0_0 x58_3).f1))).setCell ⟨gb684,2,none⟩ (.slice A683_2 ((rd_T58 l0_0 x58_3).f2).length c683_2)).heap[gb673]? = some (.cells #[.slice none 0 0,.int .i64 x674001_2] 25 (0,0))) := ⟨by (with_reducible repeat (first|refine bkN ?_ _|refine bkD ?_|refine bkA ?_ _));refine blk_far ?_ NB673_684.out _;(with_reducible repeat (first|refine bkN ?_ _|refine bkD ?_|refine bkA ?_ _));refine blk_far ?_ NB673_684.out _;(with_reducible repeat (first|refine bkN ?_ _|refine bkD ?_|refine bkA ?_ _));refine blk_far ?_ NB673_684.out _;(with_reducible repeat (first|refine bkN ?_ _|refine bkD ?_|refine bkA ?_ _));exact BK673.out⟩
          have n3_ : Aside0 ((((w59.setCell ⟨gb684,0,none⟩ (.int .i64 ((rd_T58 l0_0 x58_3).f0))).setCell ⟨gb684,1,none⟩ (.int .i64 ((rd_T58 l0_0 x58_3).f1))).setCell ⟨gb684,2,none⟩ (.slice A683_2 ((rd_T58 l0_0 x58_3).f2).length c683_2)).heap[gb682]? = some (.cells #[u683000,.int .i64 (rd l1 a0_1)] 25 (0,0))) := ⟨by (with_reducible repeat (first|refine bkN ?_ _|refine bkD ?_|refine bkA ?_ _));refine blk_far ?_ NB682_684.out _;(with_reducible repeat (first|refine bkN ?_ _|refine bkD ?_|refine bkA ?_ _));refine blk_far ?_ NB682_684.out _;(with_reducible repeat (first|refine bkN ?_ _|refine bkD ?_|refine bkA ?_ _));refine blk_far ?_ NB682_684.out _;(with_reducible repeat (first|refine bkN ?_ _|refine bkD ?_|refine bkA ?_ _));exact BK682.out⟩
          have n4_ : Aside0 ((((w59.setCell ⟨gb684,0,none⟩ (.int .i64 ((rd_T58 l0_0 x58_3).f0))).setCell ⟨gb684,1,none⟩ (.int .i64 ((rd_T58 l0_0 x58_3).f1))).setCell ⟨gb684,2,none⟩ (.slice A683_2 ((rd_T58 l0_0 x58_3).f2).length c683_2)).heap[gb684]? = some (.cells #[.int .i64 ((rd_T58 l0_0 x58_3).f0),.int .i64 ((rd_T58 l0_0 x58_3).f1),.slice A683_2 ((rd_T58 l0_0 x58_3).f2).length c683_2] 58 (0,0))) := ⟨by (with_reducible repeat (first|refine bkN ?_ _|refine bkD ?_|refine bkA ?_ _));refine blk_put (cs := #[.int .i64 ((rd_T58 l0_0 x58_3).f0),.int .i64 ((rd_T58 l0_0 x58_3).f1),.slice none 0 0]) ?_ 2 _ rfl;(with_reducible repeat (first|refine bkN ?_ _|refine bkD ?_|refine bkA ?_ _));refine blk_put (cs := #[.int .i64 ((rd_T58 l0_0 x58_3).f0),.int .i64 0,.slice none 0 0]) ?_ 1 _ rfl;(with_reducible repeat (first|refine bkN ?_ _|refine bkD ?_|refine bkA ?_ _));refine blk_put (cs := #[.int .i64 0,.int .i64 0,.slice none 0 0]) ?_ 0 _ rfl;(with_reducible repeat (first|refine bkN ?_ _|refine bkD ?_|refine bkA ?_ _));exact BK684.out⟩
          have n5_ : Aside0 (Below w.heap.size w (((w59.setCell ⟨gb684,0,none⟩ (.int .i64 ((rd_T58 l0_0 x58_3).f0))).setCell ⟨gb684,1,none⟩ (.int .i64 ((rd_T58 l0_0 x58_3).f1))).setCell ⟨gb684,2,none⟩ (.slice A683_2 ((rd_T58 l0_0 x58_3).f2).length c683_2))) := ⟨by repeat (first|(with_reducible first|exact HB.out|apply bwA|apply bwN|apply bwD|refine bwS ?_ GE672.out|refine bwS ?_ GE673.out|refine bwS ?_ GE682.out|refine bwS ?_ GE684.out)|exact HB.out)⟩
          (try clear HO_683000)
          (try clear BK672)
          (try clear BK673)
          (try clear BK682)
          (try clear BK684)
          (try clear HB)
          generalize (((w59.setCell ⟨gb684,0,none⟩ (.int .i64 ((rd_T58 l0_0 x58_3).f0))).setCell ⟨gb684,1,none⟩ (.int .i64 ((rd_T58 l0_0 x58_3).f1))).setCell ⟨gb684,2,none⟩ (.slice A683_2 ((rd_T58 l0_0 x58_3).f2).length c683_2)) = w64 at n0_ n1_ n2_ n3_ n4_ n5_ ⊢
          have HO_683000 := n0_
          have BK672 := n1_
          have BK673 := n2_
          have BK682 := n3_
          have BK684 := n4_
          have HB := n5_
          clear n0_ n1_ n2_ n3_ n4_ n5_
          have n0_ := As_ (Kd.S_drew HO_683000.out)
          have n1_ := As_ (bkD BK672.out)
          have n2_ := As_ (bkD BK673.out)
          have n3_ := As_ (bkD BK682.out)
          have n4_ := As_ (bkD BK684.out)
          have n5_ := As_ (bwD HB.out)
          clear HO_683000
          clear BK672
          clear BK673
          clear BK682
          clear BK684
          clear HB
          have HO_683000 := n0_
          have BK672 := n1_
          have BK673 := n2_
          have BK682 := n3_
          have BK684 := n4_
          have HB := n5_
          clear n0_ n1_ n2_ n3_ n4_ n5_
          have p685 : 0 ≤ (x58_3 : Int) := odT zA_
          have q685 : x58_3 < (l1.length : Int) := odT zA_
          obtain ⟨ad685,e685,hx685_0⟩ := Kd.at_int HR1.out x58_3 p685 q685
          have hw685_0 := hx685_0
          obtain rfl : ad681 = ad685 := (by injection e685)
          replace hx685_0 := (HB.out.cell (bwL w _ hx685_0)).trans hx685_0
          replace p685 := eq_true p685
          replace q685 := eq_true q685
          refine start_ (n := 11) (S := fun w' => w'.cell? ⟨gb682,0,none⟩ = some (u683000) ∧ w'.cell? ⟨gb682,1,none⟩ = some (.int .i64 (rd l1 a0_1)) ∧ w'.cell? ⟨gb684,0,none⟩ = some (.int .i64 ((rd_T58 l0_0 x58_3).f0)) ∧ w'.cell? ⟨gb684,1,none⟩ = some (.int .i64 ((rd_T58 l0_0 x58_3).f1)) ∧ w'.cell? ⟨gb684,2,none⟩ = some (.slice A683_2 ((rd_T58 l0_0 x58_3).f2).length c683_2) ∧ w'.cell? (ad681.add (x58_3).toNat) = some (.int .i64 (rd l1 x58_3))) (ds := [10]) (bl_ 0 11) (by kernel_rfl) rfl rfl ⟨(bkC BK682.out 0).trans rfl,(bkC BK682.out 1).trans rfl,(bkC BK684.out 0).trans rfl,(bkC BK684.out 1).trans rfl,(bkC BK684.out 2).trans rfl,((HB.out.cell (bwL w _ hw685_0)).trans hw685_0)⟩ (fun hHeld => ?_);refine with_tabW impl_RenumberGraph.tab13 impl_RenumberGraph.bits13 (fun HT_ HW_ => ?_)
          generalize w64.drew = w65 at HO_683000 BK672 BK673 BK682 BK684 HB hx685_0 hHeld ⊢
          refine pP 0 63 (bl_ 1 11) ?_ HT_ rfl (.inl ⟨by rfl,?_⟩) ?_ ?_ ?_;rotate_left;(intro w';go_simp;with_reducible rfl);rotate_left;(simp only [Act.put,sq_,i64_w,i32_w];rfl)
          refine pP 2 65 (bl_ 5 11) ?_ HT_ rfl (.inl ⟨by rfl,?_⟩) ?_ ?_ ?_;rotate_left;(intro w';go_simp;with_reducible rfl);rotate_left;(simp only [Act.put,sq_,i64_w,i32_w];rfl)
          refine pP 3 66 (bl_ 13 11) ?_ HT_ rfl (.inl ⟨by rfl,?_⟩) ?_ ?_ ?_;rotate_left;(intro w';go_simp;with_reducible rfl);rotate_left;(simp only [Act.put,sq_,i64_w,i32_w];rfl)
          refine pP 4 67 (bl_ 29 11) ?_ HT_ rfl (.inl ⟨by rfl,?_⟩) ?_ ?_ ?_;rotate_left;(intro w';go_simp;with_reducible rfl);rotate_left;(simp only [Act.put,sq_,i64_w,i32_w];rfl)
          refine pP 7 70 (bl_ 157 11) ?_ HT_ rfl (.inl ⟨by rfl,?_⟩) ?_ ?_ ?_;rotate_left;(intro w';go_simp;with_reducible rfl);rotate_left;(simp only [Act.put,sq_,i64_w,i32_w];rfl)
          refine tP 1 64 (bl_ 159 11) ?_ HT_ HW_ rfl (.inl ⟨by rfl,?_⟩) hHeld ?_ ?_ ?_;rotate_left;(rintro w' ⟨s0,s1,s2,s3,s4,s5⟩;go_simp;with_reducible rfl);rotate_left;(simp only [Act.put,sq_,i64_w,i32_w];rfl)
          refine tP 5 68 (bl_ 191 11) ?_ HT_ HW_ rfl (.inl ⟨by rfl,?_⟩) hHeld ?_ ?_ ?_;rotate_left;(rintro w' ⟨s0,s1,s2,s3,s4,s5⟩;go_simp;with_reducible rfl);rotate_left;(simp only [Act.put,sq_,i64_w,i32_w];rfl)
          refine tP 6 69 (bl_ 255 11) ?_ HT_ HW_ rfl (.inl ⟨by rfl,?_⟩) hHeld ?_ ?_ ?_;rotate_left;(rintro w' ⟨s0,s1,s2,s3,s4,s5⟩;go_simp;with_reducible rfl);rotate_left;(simp only [Act.put,sq_,i64_w,i32_w];rfl)
          refine one_ (i := 8) (N := some 71) (bl_ 511 11) rfl rfl (one_of HT_.out (by kernel_rfl)) (by decide) (fun K hK => ?_)
          refine goes_ Try.func56 (by kernel_rfl) rfl #[.agg #[.int .i64 ((rd_T58 l0_0 x58_3).f0),.int .i64 ((rd_T58 l0_0 x58_3).f1),.slice A683_2 ((rd_T58 l0_0 x58_3).f2).length c683_2],.slice (some ad681) l1.length c1] (by rfl) rfl rfl zM_ ?_
          with_reducible refine (impl_mapped.calls k3 ((rd_T58 l0_0 x58_3).f0) ((rd_T58 l0_0 x58_3).f1) _ _ ((rd_T58 l0_0 x58_3).f2) _ _ l1 t686 t687 t688 _ ?side1 ?side2 ?side3 ?side4 A55.out).mono ?_
          (case side1 => repeat (first|exact (Kd.C_below HR683_2.out HB.out)|(with_reducible refine Kd.C_alloc ?_ _)|(with_reducible refine Kd.C_drewN ?_ _)|(with_reducible refine Kd.C_drew ?_)))
          (case side2 => exact HC683_2.out)
          (case side3 => repeat (first|exact (Kd.C_below HR1.out HB.out)|(with_reducible refine Kd.C_alloc ?_ _)|(with_reducible refine Kd.C_drewN ?_ _)|(with_reducible refine Kd.C_drew ?_)))
          (case side4 => exact HC1.out)
          rintro e w66 ⟨v689,rfl,ho0,hb⟩
          refine ⟨_,rfl,?_⟩
          have n0_ := As_ (Kd.S_elder' (zS_ HO_683000.out) (Kd.R_base ho0) hb)
          have n1_ := As_ (Kd.R_lower ho0 (bwZ (by repeat (first|(with_reducible first|exact HB.out|apply bwA|apply bwN|apply bwD|refine bwS ?_ GE672.out|refine bwS ?_ GE673.out|refine bwS ?_ GE682.out|refine bwS ?_ GE684.out)|exact HB.out))))
          have n2_ := As_ (zkb BK672.out hb)
          have n3_ := As_ (zkb BK673.out hb)
          have n4_ := As_ (zkb BK682.out hb)
          have n5_ := As_ (zkb BK684.out hb)
          have n6_ := As_ (bwT (by repeat (first|(with_reducible first|exact HB.out|apply bwA|apply bwN|apply bwD|refine bwS ?_ GE672.out|refine bwS ?_ GE673.out|refine bwS ?_ GE682.out|refine bwS ?_ GE684.out)|exact HB.out)) hb)
          clear HO_683000
          clear BK672
          clear BK673
          clear BK682
          clear BK684
          clear HB
          have HO_683000 := n0_
          have HO690 := n1_
          have BK672 := n2_
          have BK673 := n3_
          have BK682 := n4_
          have BK684 := n5_
          have HB := n6_
          clear n0_ n1_ n2_ n3_ n4_ n5_ n6_
          (try clear hb)
          (try clear hb2)
          (try clear hk)
          (try clear hi)
          (try clear ho0)
          have p58 : 0 ≤ ((rd l1 x58_3) : Int) := odT zA_
          have q58 : ((rd l1 x58_3) : Int) < ((x683000_3.length : Int) : Int) := odT zA_
          obtain ⟨go58,co58,eo58,gb58,gl58,cl58,HG58⟩ := Kd.S_form HO_683000.out (by omega)
          (first|cases eo58|(injection eo58 with ea_ en_ ec_;(first|subst ea_|(injection ea_ with ea_;subst ea_));subst ec_;clear en_))
          have GB58 := As_ gb58
          have GG58 := As_ HG58
          clear gb58 gl58 HG58
          obtain ⟨ce58,hcl58,hM58,hcc58,hfr58⟩ := Kd.N_elem (Kd.S_N HO_683000.out) z58 ((rd l1 x58_3) : Int) p58 q58
          obtain ⟨ua58_2,uc58_2,rfl,ul58_2,ge58_2⟩ := k58_openF hM58
          have hx58_0 : World.cell? _ ⟨go58,((rd l1 x58_3) : Int).toNat * 3,none⟩ = some (.int .i64 ((rd_T58 x683000_3 (rd l1 x58_3)).f0)) := hcc58 0 _ rfl
          have hx58_1 : World.cell? _ ⟨go58,((rd l1 x58_3) : Int).toNat * 3 + 1,none⟩ = some (.int .i64 ((rd_T58 x683000_3 (rd l1 x58_3)).f1)) := hcc58 1 _ rfl
          have hx58_2 : World.cell? _ ⟨go58,((rd l1 x58_3) : Int).toNat * 3 + 2,none⟩ = some (.slice ua58_2 ((rd_T58 x683000_3 (rd l1 x58_3)).f2).length uc58_2) := hcc58 2 _ rfl
          have hf58_0 : World.frozen? _ ⟨go58,((rd l1 x58_3) : Int).toNat * 3,none⟩ = false := hfr58 0
          have hf58_1 : World.frozen? _ ⟨go58,((rd l1 x58_3) : Int).toNat * 3 + 1,none⟩ = false := hfr58 1
          have hf58_2 : World.frozen? _ ⟨go58,((rd l1 x58_3) : Int).toNat * 3 + 2,none⟩ = false := hfr58 2
          clear hcl58 hcc58 hfr58 hM58
          replace p58 := eq_true p58
          replace q58 := eq_true q58
          obtain ⟨Av_,cv_,ev_⟩ := Kd.R_slice HO690.out
          subst ev_
          have HX67 := As_ (show Kd.S k58 58 _ w.heap.size (fun k_ => ((fun k_ => k_ ≠ gb672 ∧ k_ ≠ gb673 ∧ k_ ≠ gb682 ∧ k_ ≠ gb684) k_) ∧ ¬ (some k_ = ((.slice Av_ t688.length cv_) : Value).ownBlock)) (.slice (some ⟨go58,0,none⟩) x683000_3.length co58) x683000_3 from (Kd.S_mono (HO_683000.out) (fun k_ hk => ⟨⟨hk.1.1,⟨hk.1.2.1,⟨hk.1.2.2.1,hk.1.2.2.2⟩⟩⟩,hk.2⟩)))
          obtain ⟨oki67,ce67,hcl67,hM67,hcc67,hfr67,hoki67,hH67⟩ := Kd.S_elem HX67.out z58 ((rd l1 x58_3) : Int) (odT zA_) (by have h_ : ((rd l1 x58_3) : Int) < ((x683000_3.length : Int) : Int) := odT zA_;first|exact h_|(have e_ := (Kd.S_reads' HO_683000.out).1;omega)|simpa using h_)
          obtain ⟨ve67_2,rfl,ge67_2⟩ := k58_openM hM67
          have HP67 := (Kd.S_seg (ok := fun k_ => k_ ≠ gb672 ∧ k_ ≠ gb673 ∧ k_ ≠ gb682 ∧ k_ ≠ gb684) (okg := fun k_ => some k_ = ((.slice Av_ t688.length cv_) : Value).ownBlock) (okp := fun k_ => some k_ = ((.slice Av_ t688.length cv_) : Value).ownBlock) hH67 (odT zA_) (by have h_ : ((rd l1 x58_3) : Int) < ((x683000_3.length : Int) : Int) := odT zA_;first|exact h_|(have e_ := (Kd.S_reads' HO_683000.out).1;omega)|simpa using h_) (seg := [.int .i64 t686,.int .i64 t687,(.slice Av_ t688.length cv_)]) (j := 0) (show 3 ≤ 3 from by decide) (x' := (⟨t686,t687,t688⟩ : S58)) (k58_mkM _ _ _ (⟨t686,t687,t688⟩ : S58) (Kd.R_tight rfl HO690.out)) (fun _ hk => .inr hk) (fun k_ hk => (Kd.R_mono (ok' := (fun k_ => ((fun k_ => k_ ≠ gb672 ∧ k_ ≠ gb673 ∧ k_ ≠ gb682 ∧ k_ ≠ gb684)) k_ ∧ k_ ≠ go58)) (Kd.R_types (Kd.R_types (Kd.R_types (Kd.R_types (Kd.R_apart' (HO690.out) (Kd.S_typed HO_683000.out) (by decide)) BK672.out (by decide)) BK673.out (by decide)) BK682.out (by decide)) BK684.out (by decide)) (fun k_ hk => ⟨⟨hk.1.1.1.2,⟨hk.1.1.2,⟨hk.1.2,hk.2⟩⟩⟩,fun e_ => (hk.1.1.1.1.2) (by rw [e_];rfl)⟩)).1 k_ hk.symm)).1
          rw [← Ny691.out] at HP67
          have HQ67 := As_ HP67
          clear hcl67 hcc67 hfr67 hM67 HP67 hoki67 hH67
          refine hK.out _ _ ⟨(bkC BK682.out 0).trans rfl,(bkC BK682.out 1).trans rfl,(bkC BK684.out 0).trans rfl,(bkC BK684.out 1).trans rfl,(bkC BK684.out 2).trans rfl,((HB.out.cell (bwL w _ hw685_0)).trans hw685_0)⟩ (fun hHeld => ?_)
          clear hK K
          refine norm_ (a' := ?_) ?_ ?_
          rotate_left
          ·show Act.put _ (some 71) _ = _
           simp only [Act.put,sq_,i64_w,i32_w]
           rfl
          refine pP 9 72 (bl_ 1023 11) ?_ HT_ rfl (.inl ⟨by rfl,?_⟩) ?_ ?_ ?_;rotate_left;(intro w';go_simp;with_reducible rfl);rotate_left;(simp only [Act.put,sq_,i64_w,i32_w];rfl)
          refine last_ (i := 10) (N := none) (bl_ 2047 11) rfl rfl (one_of HT_.out (by kernel_rfl)) (by decide) (fun K hK => ?_)
          refine skip_ (w1 := ?_) (by rfl) rfl ?_ ?_
          rotate_left
          ·go_simp
           rfl
          refine hK.out _ _ ?_
          clear hK K
          refine done_ (done_of HT_.out (by kernel_rfl)) ?_
          try go_wp2
          go_roundg k3
          case measure => have := HJ2.out;have := HK2.out;have := HK3.out;omega
          case rel => exact ⟨(wrap64 (x58_3 + 1)),(y691),(.slice (some ⟨go58,0,none⟩) x683000_3.length co58),zT_,H',⟨by have := HJ2.out;have := HK2.out;have := HK3.out;omega⟩,⟨by (with_reducible repeat (first|apply Kd.S_alloc|apply Kd.S_drewN|apply Kd.S_drew));exact Kd.S_mono HQ67.out (fun _ hk => ⟨hk.1,⟨hk.2.1,hk.2.2.1⟩⟩)⟩,⟨by (with_reducible repeat (first|refine bkN ?_ _|refine bkD ?_|refine bkA ?_ _));refine blk_far ?_ (by have h_ := Kd.S_away HQ67.out (fun _ hk => hk.1);intro e_;exact h_ (by rw [e_];rfl)) _;(with_reducible repeat (first|refine bkN ?_ _|refine bkD ?_|refine bkA ?_ _));refine blk_far ?_ (by have h_ := Kd.S_away HQ67.out (fun _ hk => hk.1);intro e_;exact h_ (by rw [e_];rfl)) _;(with_reducible repeat (first|refine bkN ?_ _|refine bkD ?_|refine bkA ?_ _));refine blk_far ?_ (by have h_ := Kd.S_away HQ67.out (fun _ hk => hk.1);intro e_;exact h_ (by rw [e_];rfl)) _;(with_reducible repeat (first|refine bkN ?_ _|refine bkD ?_|refine bkA ?_ _));exact BK672.out⟩,⟨by (with_reducible repeat (first|refine bkN ?_ _|refine bkD ?_|refine bkA ?_ _));refine blk_far ?_ (by have h_ := Kd.S_away HQ67.out (fun _ hk => hk.2.1);intro e_;exact h_ (by rw [e_];rfl)) _;(with_reducible repeat (first|refine bkN ?_ _|refine bkD ?_|refine bkA ?_ _));refine blk_far ?_ (by have h_ := Kd.S_away HQ67.out (fun _ hk => hk.2.1);intro e_;exact h_ (by rw [e_];rfl)) _;(with_reducible repeat (first|refine bkN ?_ _|refine bkD ?_|refine bkA ?_ _));refine blk_far ?_ (by have h_ := Kd.S_away HQ67.out (fun _ hk => hk.2.1);intro e_;exact h_ (by rw [e_];rfl)) _;(with_reducible repeat (first|refine bkN ?_ _|refine bkD ?_|refine bkA ?_ _));exact BK673.out⟩,⟨by (with_reducible repeat (first|refine bkN ?_ _|refine bkD ?_|refine bkA ?_ _));refine blk_far ?_ (by have h_ := Kd.S_away HQ67.out (fun _ hk => hk.2.2.1);intro e_;exact h_ (by rw [e_];rfl)) _;(with_reducible repeat (first|refine bkN ?_ _|refine bkD ?_|refine bkA ?_ _));refine blk_far ?_ (by have h_ := Kd.S_away HQ67.out (fun _ hk => hk.2.2.1);intro e_;exact h_ (by rw [e_];rfl)) _;(with_reducible repeat (first|refine bkN ?_ _|refine bkD ?_|refine bkA ?_ _));refine blk_far ?_ (by have h_ := Kd.S_away HQ67.out (fun _ hk => hk.2.2.1);intro e_;exact h_ (by rw [e_];rfl)) _;(with_reducible repeat (first|refine bkN ?_ _|refine bkD ?_|refine bkA ?_ _));exact BK682.out⟩,⟨by repeat (first|(with_reducible first|exact HB.out|apply bwA|apply bwN|apply bwD|refine bwS ?_ GB58.out|refine bwS ?_ GB58.out|refine bwS ?_ GB58.out|refine bwS ?_ GE672.out|refine bwS ?_ GE673.out|refine bwS ?_ GE682.out|refine bwS ?_ GE684.out)|exact HB.out)⟩⟩
         ·rw [if_neg c51] at H
          have c51b0 : decide (x58_3 < (l0_0.length : Int)) = false := deF c51
          clear c51
          simp only [Option.some.injEq,Prod.mk.injEq] at H
          obtain ⟨rfl,rfl⟩ := H
          have hnb68 := NB682_672.out
          have hnc68 := NB672_682.out
          have hnb69 := NB682_673.out
          have hnc69 := NB673_682.out
          have hcz70_0 : wr.cell? ⟨gb682,0,none⟩ = some (u683000) := (bkC BK682.out 0).trans rfl
          have hcz70_1 : wr.cell? ⟨gb682,1,none⟩ = some (.int .i64 (rd l1 a0_1)) := (bkC BK682.out 1).trans rfl
          have hfz70_0 := bkF BK682.out 0
          have hfz70_1 := bkF BK682.out 1
          obtain ⟨Ao71,co71,eo71⟩ := Kd.S_slice HO_683000.out
          subst eo71
          have hnb72 := NB673_672.out
          have hnc72 := NB672_673.out
          have hcz73_0 : wr.cell? ⟨gb673,0,none⟩ = some (.slice none 0 0) := (bkC BK673.out 0).trans rfl
          have hcz73_1 : wr.cell? ⟨gb673,1,none⟩ = some (.int .i64 x674001_2) := (bkC BK673.out 1).trans rfl
          have hfz73_0 := bkF BK673.out 0
          have hfz73_1 := bkF BK673.out 1
          go_wp2
          refine bodyPost_ret (results_cell_row rfl _ _ gb673 25 #[.slice Ao71 x683000_3.length co71,.int .i64 (rd l1 a0_1)] (0,0) _ rfl (by (with_reducible repeat (first|refine bkN ?_ _|refine bkD ?_|refine bkA ?_ _));refine blk_put (cs := #[.slice Ao71 x683000_3.length co71,.int .i64 x674001_2]) ?_ 1 _ rfl;(with_reducible repeat (first|refine bkN ?_ _|refine bkD ?_|refine bkA ?_ _));refine blk_put (cs := #[.slice none 0 0,.int .i64 x674001_2]) ?_ 0 _ rfl;(with_reducible repeat (first|refine bkN ?_ _|refine bkD ?_|refine bkA ?_ _));exact BK673.out) Try.underlying25 rfl (by kernel_rfl)) rfl ?_
          exact ⟨_,by first|rfl|(simp [errW_none,errW_some] <;> rfl)|(simp [*,errW_none,errW_some] <;> rfl),by (with_reducible repeat (first|apply Kd.S_alloc|apply Kd.S_drewN|apply Kd.S_drew));exact Kd.S_mono (Kd.S_far (p := ⟨gb673,1,none⟩) (Kd.S_far (p := ⟨gb673,0,none⟩) (Kd.S_mono HO_683000.out (fun k_ hk => (⟨hk,hk.2.1⟩ : _ ∧ k_ ≠ gb673))) (fun _ hk => hk.2) (.slice Ao71 x683000_3.length co71)) (fun _ hk => hk.2) (.int .i64 (rd l1 a0_1))) (fun _ hk => trivial),by repeat (first|(with_reducible first|exact HB.out|apply bwA|apply bwN|apply bwD|refine bwS ?_ GE672.out|refine bwS ?_ GE673.out|refine bwS ?_ GE682.out)|exact HB.out)⟩

end Go.Proofs.Ytapaegcombfafaa.Q
