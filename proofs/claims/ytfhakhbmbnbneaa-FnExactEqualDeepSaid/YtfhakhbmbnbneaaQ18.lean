-- Written by wip/tools/qprint.py (a program of this claim's author) by means of the kit's printer.
import Derived.Test.YtfhakhbmbnbneaaQ0
import Derived.Test.YtfhakhbmbnbneaaQ29
import Derived.Test.YtfhakhbmbnbneaaQ53
import Derived.Test.YtfhakhbmbnbneaaQ54
import Derived.Test.YtfhakhbmbnbneaaQ77
namespace Go.Proofs.Ytfhakhbmbnbneaa.Q
open Go.RowKit Go.Proofs.YtfhakhbmbnbneaaW.PrintWords Go.Proofs.YtfhakhbmbnbneaaW.PrintLast Go.Proofs.YtfhakhbmbnbneaaW.PrintMore
attribute [local go_sem] max2_int min2_int max_two min_two max_three min_three max_four min_four   -- for this text's walks alone
set_option linter.unusedVariables false
set_option linter.unusedSimpArgs false

/-! ### impl_EqualDeep: function 18 -/
mutual
def impl_EqualDeep.j0 : Nat → Bool → List (S45) → Int → List (S45) → Int → Option (Bool)
 | 0,_,_,_,_,_ => none
 | k + 1,x18,x329000,x329001,x330000,x330001 => if x18 = true then (some false) else (impl_EqualDeep.l0 k (([] : List Int)) (x330000.length : Int) 0 x329000 x329001 x330000 x330001)
def impl_EqualDeep.l0 : Nat → List Int → Int → Int → List (S45) → Int → List (S45) → Int → Option (Bool)
 | 0,_,_,_,_,_,_,_ => none
 | k + 1,x5,x22,x23,x329000,x329001,x330000,x330001 => if x23 < x22 then (if x5.length < 17592186044416 then (impl_EqualDeep.l0 k (x5 ++ [wrap64 (x23 + (x329000.length : Int))]) x22 (wrap64 (x23 + 1)) x329000 x329001 x330000 x330001) else (none)) else ((impl_Node.f x329000).bind fun t338 => (impl_EqualDeep.l1 k x5 t338 x330000 (x330000.length : Int) 0 x329000 x329001 x330000 x330001))
def impl_EqualDeep.l1 : Nat → List Int → List (S45) → List (S45) → Int → Int → List (S45) → Int → List (S45) → Int → Option (Bool)
 | 0,_,_,_,_,_,_,_,_,_ => none
 | k + 1,x5,x7,x39,x40,x41,x329000,x329001,x330000,x330001 => if x41 < x40 then (if 0 ≤ x41 then (if x41 < (x39.length : Int) then ((impl_mapped.f k ((rd_T45 x39 x41).f0) ((rd_T45 x39 x41).f1) ((rd_T45 x39 x41).f2) x5).bind fun bt343 => (if x7.length < 3518437208883 then (impl_EqualDeep.l1 k x5 (x7 ++ [(⟨bt343.1,bt343.2.1,bt343.2.2⟩ : S45)]) x39 x40 (wrap64 (x41 + 1)) x329000 x329001 x330000 x330001) else (none))) else (none)) else (none)) else ((impl_classes.f k x7).bind fun t351 => (if 0 ≤ x329001 then (if x329001 < (t351.length : Int) then (if 0 ≤ (wrap64 (x330001 + (x329000.length : Int))) then (if (wrap64 (x330001 + (x329000.length : Int))) < (t351.length : Int) then (some ((rd t351 x329001) == (rd t351 (wrap64 (x330001 + (x329000.length : Int)))))) else (none)) else (none)) else (none)) else (none)))
end
def impl_EqualDeep.f (k : Nat) (l0_0 : List (S45)) (a0_1 : Int) (l1_0 : List (S45)) (a1_1 : Int) : Option (Bool) := (impl_ValidGraph.f k l0_0 a0_1).bind fun t330 => (if t330 = true then ((impl_ValidGraph.f k l1_0 a1_1).bind fun t331 => (impl_EqualDeep.j0 k (!t331) l0_0 a0_1 l1_0 a1_1)) else (impl_EqualDeep.j0 k true l0_0 a0_1 l1_0 a1_1))
set_option maxRecDepth 100000 in
theorem impl_EqualDeep.mono_l : ∀ k,(∀ y0 y1 y2 y3 y4,LeO (impl_EqualDeep.j0 k y0 y1 y2 y3 y4) (impl_EqualDeep.j0 (k + 1) y0 y1 y2 y3 y4)) ∧ (∀ y0 y1 y2 y3 y4 y5 y6,LeO (impl_EqualDeep.l0 k y0 y1 y2 y3 y4 y5 y6) (impl_EqualDeep.l0 (k + 1) y0 y1 y2 y3 y4 y5 y6)) ∧ (∀ y0 y1 y2 y3 y4 y5 y6 y7 y8,LeO (impl_EqualDeep.l1 k y0 y1 y2 y3 y4 y5 y6 y7 y8) (impl_EqualDeep.l1 (k + 1) y0 y1 y2 y3 y4 y5 y6 y7 y8))
 | 0 => ⟨fun _ _ _ _ _ r h => (by cases h),fun _ _ _ _ _ _ _ r h => (by cases h),fun _ _ _ _ _ _ _ _ _ r h => (by cases h)⟩
 | k + 1 => by
  obtain ⟨ih0,ih1,ih2⟩ := impl_EqualDeep.mono_l k
  refine ⟨?_,?_,?_⟩
  ·intro y0 y1 y2 y3 y4
   unfold impl_EqualDeep.j0
   repeat' first
   | (with_reducible exact ih0 _ _ _ _ _)
   | (with_reducible exact ih1 _ _ _ _ _ _ _)
   | (with_reducible exact ih2 _ _ _ _ _ _ _ _ _)
   | (with_reducible exact impl_ValidGraph.mono _ _ _)
   | (with_reducible exact impl_classes.mono _ _)
   | (with_reducible exact impl_mapped.mono _ _ _ _ _)
   | (with_reducible exact LeO.refl _)
   | (with_reducible exact LeO.none _)
   | (with_reducible refine LeO.ite ?_ ?_)
   | (with_reducible refine LeO.bind ?_ (fun _ => ?_))
   | exact ih0 _ _ _ _ _
   | exact ih1 _ _ _ _ _ _ _
   | exact ih2 _ _ _ _ _ _ _ _ _
   | exact impl_ValidGraph.mono _ _ _
   | exact impl_classes.mono _ _
   | exact impl_mapped.mono _ _ _ _ _
   | exact LeO.none _
   | refine LeO.ite ?_ ?_
   | refine LeO.bind ?_ (fun _ => ?_)
  ·intro y0 y1 y2 y3 y4 y5 y6
   unfold impl_EqualDeep.l0
   repeat' first
   | (with_reducible exact ih0 _ _ _ _ _)
   | (with_reducible exact ih1 _ _ _ _ _ _ _)
   | (with_reducible exact ih2 _ _ _ _ _ _ _ _ _)
   | (with_reducible exact impl_ValidGraph.mono _ _ _)
   | (with_reducible exact impl_classes.mono _ _)
   | (with_reducible exact impl_mapped.mono _ _ _ _ _)
   | (with_reducible exact LeO.refl _)
   | (with_reducible exact LeO.none _)
   | (with_reducible refine LeO.ite ?_ ?_)
   | (with_reducible refine LeO.bind ?_ (fun _ => ?_))
   | exact ih0 _ _ _ _ _
   | exact ih1 _ _ _ _ _ _ _
   | exact ih2 _ _ _ _ _ _ _ _ _
   | exact impl_ValidGraph.mono _ _ _
   | exact impl_classes.mono _ _
   | exact impl_mapped.mono _ _ _ _ _
   | exact LeO.none _
   | refine LeO.ite ?_ ?_
   | refine LeO.bind ?_ (fun _ => ?_)
  ·intro y0 y1 y2 y3 y4 y5 y6 y7 y8
   unfold impl_EqualDeep.l1
   repeat' first
   | (with_reducible exact ih0 _ _ _ _ _)
   | (with_reducible exact ih1 _ _ _ _ _ _ _)
   | (with_reducible exact ih2 _ _ _ _ _ _ _ _ _)
   | (with_reducible exact impl_ValidGraph.mono _ _ _)
   | (with_reducible exact impl_classes.mono _ _)
   | (with_reducible exact impl_mapped.mono _ _ _ _ _)
   | (with_reducible exact LeO.refl _)
   | (with_reducible exact LeO.none _)
   | (with_reducible refine LeO.ite ?_ ?_)
   | (with_reducible refine LeO.bind ?_ (fun _ => ?_))
   | exact ih0 _ _ _ _ _
   | exact ih1 _ _ _ _ _ _ _
   | exact ih2 _ _ _ _ _ _ _ _ _
   | exact impl_ValidGraph.mono _ _ _
   | exact impl_classes.mono _ _
   | exact impl_mapped.mono _ _ _ _ _
   | exact LeO.none _
   | refine LeO.ite ?_ ?_
   | refine LeO.bind ?_ (fun _ => ?_)
set_option maxRecDepth 100000 in
theorem impl_EqualDeep.mono : ∀ a0 a1 a2 a3 k,LeO (impl_EqualDeep.f k a0 a1 a2 a3) (impl_EqualDeep.f (k + 1) a0 a1 a2 a3) := by
 intro a0 a1 a2 a3 k
 obtain ⟨ih0,ih1,ih2⟩ := impl_EqualDeep.mono_l k
 unfold impl_EqualDeep.f
 repeat' first
   | (with_reducible exact ih0 _ _ _ _ _)
   | (with_reducible exact ih1 _ _ _ _ _ _ _)
   | (with_reducible exact ih2 _ _ _ _ _ _ _ _ _)
   | (with_reducible exact impl_ValidGraph.mono _ _ _)
   | (with_reducible exact impl_classes.mono _ _)
   | (with_reducible exact impl_mapped.mono _ _ _ _ _)
   | (with_reducible exact LeO.refl _)
   | (with_reducible exact LeO.none _)
   | (with_reducible refine LeO.ite ?_ ?_)
   | (with_reducible refine LeO.bind ?_ (fun _ => ?_))
   | exact ih0 _ _ _ _ _
   | exact ih1 _ _ _ _ _ _ _
   | exact ih2 _ _ _ _ _ _ _ _ _
   | exact impl_ValidGraph.mono _ _ _
   | exact impl_classes.mono _ _
   | exact impl_mapped.mono _ _ _ _ _
   | exact LeO.none _
   | refine LeO.ite ?_ ?_
   | refine LeO.bind ?_ (fun _ => ?_)
set_option maxHeartbeats 8000000 in
set_option maxRecDepth 100000 in
theorem impl_EqualDeep.calls (k : Nat) (A0_0 : Option Addr) (c0_0 : Nat) (l0_0 : List (S45)) (a0_1 : Int) (A1_0 : Option Addr) (c1_0 : Nat) (l1_0 : List (S45)) (a1_1 : Int) (r : Bool) (w : World) (hr0_0 : Kd.C k45 w A0_0 l0_0.length l0_0) (hc0_0 : l0_0.length ≤ c0_0) (hr1_0 : Kd.C k45 w A1_0 l1_0.length l1_0) (hc1_0 : l1_0.length ≤ c1_0) (h : impl_EqualDeep.f k l0_0 a0_1 l1_0 a1_1 = some r) :
  Calls Try.prog 18 #[.agg #[.slice A0_0 l0_0.length c0_0,.int .i64 a0_1],.agg #[.slice A1_0 l1_0.length c1_0,.int .i64 a1_1]] w fun e w' => e = .returned (.bool r) ∧ Below w.heap.size w w' := by
 have hu29 := Try.underlying29
 have hu45 := Try.underlying45
 have HR0_0 := As_ hr0_0
 have HC0_0 := As_ hc0_0
 clear hr0_0 hc0_0
 have HR1_0 := As_ hr1_0
 have HC1_0 := As_ hc1_0
 clear hr1_0 hc1_0
 have HB := As_ (Below.refl w.heap.size w)
 have H : ((impl_ValidGraph.f k l0_0 a0_1).bind fun t330 => (if t330 = true then ((impl_ValidGraph.f k l1_0 a1_1).bind fun t331 => (impl_EqualDeep.j0 k (!t331) l0_0 a0_1 l1_0 a1_1)) else (impl_EqualDeep.j0 k true l0_0 a0_1 l1_0 a1_1))) = some r := h
 clear h
 have HC3 := As_ H
 clear H
 go_enter Try.func18,Try.ntmps18
 go_upto_region 1 with (first|((with_reducible refine gate_dst (N := 2) rfl ?_);refine box_event ?hg (N := 2) ?hd (cs := #[.slice A0_0 l0_0.length c0_0,.int .i64 a0_1]) (t := 29) ?hr ?_;(case hd => rfl);(case hg => rfl);(case hr => go_simp <;> rfl);intro gb328 hg w4 hbox hb;have n0_ := As_ (bwT (zb0 HB.out) hb);have n1_ := As_ (hbox);have n2_ := As_ ((by rw [hg];exact (bwZ (zb0 HB.out)) : w.heap.size ≤ gb328));have n3_ := As_ ((by rw [hg];exact (bwZ (zb0 HB.out)) : w.heap.size ≤ gb328));clear HB;have HB := n0_;have BK328 := n1_;have GW328 := n2_;have GE328 := n3_;clear n0_ n1_ n2_ n3_;clear hb hbox hg)|((with_reducible refine gate_dst (N := 3) rfl ?_);refine box_event ?hg (N := 3) ?hd (cs := #[.slice A1_0 l1_0.length c1_0,.int .i64 a1_1]) (t := 29) ?hr ?_;(case hd => rfl);(case hg => rfl);(case hr => go_simp <;> rfl);intro gb329 hg w5 hbox hb;have n0_ := As_ (zkb BK328.out hb);have n1_ := As_ (bwT (zb1 HB.out GE328.out) hb);have n2_ := As_ (hbox);have n3_ := As_ ((by rw [hg];exact (bwZ (zb1 HB.out GE328.out)) : w.heap.size ≤ gb329));have n4_ := As_ ((by rw [hg];exact (bwZ (zb1 HB.out GE328.out)) : w.heap.size ≤ gb329));have n5_ := As_ ((by rw [hg];exact Nat.ne_of_lt (zkl BK328.out) : gb328 ≠ gb329));have n6_ := As_ ((by rw [hg];exact Nat.ne_of_gt (zkl BK328.out) : gb329 ≠ gb328));clear BK328;clear HB;have BK328 := n0_;have HB := n1_;have BK329 := n2_;have GW329 := n3_;have GE329 := n4_;have NB328_329 := n5_;have NB329_328 := n6_;clear n0_ n1_ n2_ n3_ n4_ n5_ n6_;clear hb hbox hg))
 repeat (go_quiet (first|((with_reducible refine gate_dst (N := 2) rfl ?_);refine box_event ?hg (N := 2) ?hd (cs := #[.slice A0_0 l0_0.length c0_0,.int .i64 a0_1]) (t := 29) ?hr ?_;(case hd => rfl);(case hg => rfl);(case hr => go_simp <;> rfl);intro gb328 hg w4 hbox hb;have n0_ := As_ (bwT (zb0 HB.out) hb);have n1_ := As_ (hbox);have n2_ := As_ ((by rw [hg];exact (bwZ (zb0 HB.out)) : w.heap.size ≤ gb328));have n3_ := As_ ((by rw [hg];exact (bwZ (zb0 HB.out)) : w.heap.size ≤ gb328));clear HB;have HB := n0_;have BK328 := n1_;have GW328 := n2_;have GE328 := n3_;clear n0_ n1_ n2_ n3_;clear hb hbox hg)|((with_reducible refine gate_dst (N := 3) rfl ?_);refine box_event ?hg (N := 3) ?hd (cs := #[.slice A1_0 l1_0.length c1_0,.int .i64 a1_1]) (t := 29) ?hr ?_;(case hd => rfl);(case hg => rfl);(case hr => go_simp <;> rfl);intro gb329 hg w5 hbox hb;have n0_ := As_ (zkb BK328.out hb);have n1_ := As_ (bwT (zb1 HB.out GE328.out) hb);have n2_ := As_ (hbox);have n3_ := As_ ((by rw [hg];exact (bwZ (zb1 HB.out GE328.out)) : w.heap.size ≤ gb329));have n4_ := As_ ((by rw [hg];exact (bwZ (zb1 HB.out GE328.out)) : w.heap.size ≤ gb329));have n5_ := As_ ((by rw [hg];exact Nat.ne_of_lt (zkl BK328.out) : gb328 ≠ gb329));have n6_ := As_ ((by rw [hg];exact Nat.ne_of_gt (zkl BK328.out) : gb329 ≠ gb328));clear BK328;clear HB;have BK328 := n0_;have HB := n1_;have BK329 := n2_;have GW329 := n3_;have GE329 := n4_;have NB328_329 := n5_;have NB329_328 := n6_;clear n0_ n1_ n2_ n3_ n4_ n5_ n6_;clear hb hbox hg));go_upto_region 1 with (first|((with_reducible refine gate_dst (N := 2) rfl ?_);refine box_event ?hg (N := 2) ?hd (cs := #[.slice A0_0 l0_0.length c0_0,.int .i64 a0_1]) (t := 29) ?hr ?_;(case hd => rfl);(case hg => rfl);(case hr => go_simp <;> rfl);intro gb328 hg w4 hbox hb;have n0_ := As_ (bwT (zb0 HB.out) hb);have n1_ := As_ (hbox);have n2_ := As_ ((by rw [hg];exact (bwZ (zb0 HB.out)) : w.heap.size ≤ gb328));have n3_ := As_ ((by rw [hg];exact (bwZ (zb0 HB.out)) : w.heap.size ≤ gb328));clear HB;have HB := n0_;have BK328 := n1_;have GW328 := n2_;have GE328 := n3_;clear n0_ n1_ n2_ n3_;clear hb hbox hg)|((with_reducible refine gate_dst (N := 3) rfl ?_);refine box_event ?hg (N := 3) ?hd (cs := #[.slice A1_0 l1_0.length c1_0,.int .i64 a1_1]) (t := 29) ?hr ?_;(case hd => rfl);(case hg => rfl);(case hr => go_simp <;> rfl);intro gb329 hg w5 hbox hb;have n0_ := As_ (zkb BK328.out hb);have n1_ := As_ (bwT (zb1 HB.out GE328.out) hb);have n2_ := As_ (hbox);have n3_ := As_ ((by rw [hg];exact (bwZ (zb1 HB.out GE328.out)) : w.heap.size ≤ gb329));have n4_ := As_ ((by rw [hg];exact (bwZ (zb1 HB.out GE328.out)) : w.heap.size ≤ gb329));have n5_ := As_ ((by rw [hg];exact Nat.ne_of_lt (zkl BK328.out) : gb328 ≠ gb329));have n6_ := As_ ((by rw [hg];exact Nat.ne_of_gt (zkl BK328.out) : gb329 ≠ gb328));clear BK328;clear HB;have BK328 := n0_;have HB := n1_;have BK329 := n2_;have GW329 := n3_;have GE329 := n4_;have NB328_329 := n5_;have NB329_328 := n6_;clear n0_ n1_ n2_ n3_ n4_ n5_ n6_;clear hb hbox hg)))
 (try simp only [Act.put,List.setIfInBounds_toArray,List.set_cons_zero,List.set_cons_succ])
 go_cut [18] (fun v18 wc => ∃ (kq : Nat) (x18_2 : Bool),v18 = .bool x18_2 ∧ Aside0 (impl_EqualDeep.j0 kq x18_2 l0_0 a0_1 l1_0 a1_1 = some r) ∧ Aside0 (kq ≤ k) ∧ Aside0 (wc.heap[gb328]? = some (.cells #[(.slice A0_0 l0_0.length c0_0),.int .i64 a0_1] 29 (0,0))) ∧ Aside0 (wc.heap[gb329]? = some (.cells #[(.slice A1_0 l1_0.length c1_0),.int .i64 a1_1] 29 (0,0))) ∧ Aside0 (Below w.heap.size w wc))
 case first =>
  have H := HC3.out
  clear HC3
  replace H := obS H
  obtain ⟨t330,A60,H⟩ := H
  replace H : (if t330 = true then ((impl_ValidGraph.f k l1_0 a1_1).bind fun t331 => (impl_EqualDeep.j0 k (!t331) l0_0 a0_1 l1_0 a1_1)) else (impl_EqualDeep.j0 k true l0_0 a0_1 l1_0 a1_1)) = some r := H
  have A6 := As_ A60
  clear A60
  by_cases c7 : t330 = true
  ·subst c7
   have H1 : ((impl_ValidGraph.f k l1_0 a1_1).bind fun t331 => (impl_EqualDeep.j0 k (!t331) l0_0 a0_1 l1_0 a1_1)) = some r := by rw [if_pos rfl] at H;exact H
   clear H
   have H := H1
   clear H1
   replace H := obS H
   obtain ⟨t331,A80,H⟩ := H
   replace H : (impl_EqualDeep.j0 k (!t331) l0_0 a0_1 l1_0 a1_1) = some r := H
   have A8 := As_ A80
   clear A80
   have H' := As_ H
   clear H
   have hnb9 := NB328_329.out
   have hnc9 := NB329_328.out
   have hcz10_0 : w5.cell? ⟨gb328,0,none⟩ = some (.slice A0_0 l0_0.length c0_0) := (bkC BK328.out 0).trans rfl
   have hcz10_1 : w5.cell? ⟨gb328,1,none⟩ = some (.int .i64 a0_1) := (bkC BK328.out 1).trans rfl
   have hfz10_0 := bkF BK328.out 0
   have hfz10_1 := bkF BK328.out 1
   go_wp2_with (first|(go_at_call 29;(with_reducible refine (impl_ValidGraph.calls k _ _ l0_0 a0_1 true _ ?side1 ?side2 A6.out).mono ?_);(case side1 => repeat (first|exact (Kd.C_below HR0_0.out HB.out)|(with_reducible refine Kd.C_alloc ?_ _)|(with_reducible refine Kd.C_drewN ?_ _)|(with_reducible refine Kd.C_drew ?_)));(case side2 => exact HC0_0.out);rintro e w11 ⟨rfl,hb⟩;have n0_ := As_ (zkb BK328.out hb);have n1_ := As_ (zkb BK329.out hb);have n2_ := As_ (bwT (zb2 HB.out GE328.out GE329.out) hb);clear BK328;clear BK329;clear HB;have BK328 := n0_;have BK329 := n1_;have HB := n2_;clear n0_ n1_ n2_;(try clear hb);(try clear hb2);(try clear hk);(try clear hi);have hcz12_0 : w11.cell? ⟨gb329,0,none⟩ = some (.slice A1_0 l1_0.length c1_0) := (bkC BK329.out 0).trans rfl;have hcz12_1 : w11.cell? ⟨gb329,1,none⟩ = some (.int .i64 a1_1) := (bkC BK329.out 1).trans rfl;have hfz12_0 := bkF BK329.out 0;have hfz12_1 := bkF BK329.out 1)|(go_at_call 29;(with_reducible refine (impl_ValidGraph.calls k _ _ l1_0 a1_1 t331 _ ?side1 ?side2 A8.out).mono ?_);(case side1 => repeat (first|exact (Kd.C_below HR1_0.out HB.out)|(with_reducible refine Kd.C_alloc ?_ _)|(with_reducible refine Kd.C_drewN ?_ _)|(with_reducible refine Kd.C_drew ?_)));(case side2 => exact HC1_0.out);rintro e w13 ⟨rfl,hb⟩;have n0_ := As_ (zkb BK328.out hb);have n1_ := As_ (zkb BK329.out hb);have n2_ := As_ (bwT (zb2 HB.out GE328.out GE329.out) hb);clear BK328;clear BK329;clear HB;have BK328 := n0_;have BK329 := n1_;have HB := n2_;clear n0_ n1_ n2_;(try clear hb);(try clear hb2);(try clear hk);(try clear hi)))
   repeat (go_quiet (first|(go_at_call 29;(with_reducible refine (impl_ValidGraph.calls k _ _ l0_0 a0_1 true _ ?side1 ?side2 A6.out).mono ?_);(case side1 => repeat (first|exact (Kd.C_below HR0_0.out HB.out)|(with_reducible refine Kd.C_alloc ?_ _)|(with_reducible refine Kd.C_drewN ?_ _)|(with_reducible refine Kd.C_drew ?_)));(case side2 => exact HC0_0.out);rintro e w11 ⟨rfl,hb⟩;have n0_ := As_ (zkb BK328.out hb);have n1_ := As_ (zkb BK329.out hb);have n2_ := As_ (bwT (zb2 HB.out GE328.out GE329.out) hb);clear BK328;clear BK329;clear HB;have BK328 := n0_;have BK329 := n1_;have HB := n2_;clear n0_ n1_ n2_;(try clear hb);(try clear hb2);(try clear hk);(try clear hi);have hcz12_0 : w11.cell? ⟨gb329,0,none⟩ = some (.slice A1_0 l1_0.length c1_0) := (bkC BK329.out 0).trans rfl;have hcz12_1 : w11.cell? ⟨gb329,1,none⟩ = some (.int .i64 a1_1) := (bkC BK329.out 1).trans rfl;have hfz12_0 := bkF BK329.out 0;have hfz12_1 := bkF BK329.out 1)|(go_at_call 29;(with_reducible refine (impl_ValidGraph.calls k _ _ l1_0 a1_1 t331 _ ?side1 ?side2 A8.out).mono ?_);(case side1 => repeat (first|exact (Kd.C_below HR1_0.out HB.out)|(with_reducible refine Kd.C_alloc ?_ _)|(with_reducible refine Kd.C_drewN ?_ _)|(with_reducible refine Kd.C_drew ?_)));(case side2 => exact HC1_0.out);rintro e w13 ⟨rfl,hb⟩;have n0_ := As_ (zkb BK328.out hb);have n1_ := As_ (zkb BK329.out hb);have n2_ := As_ (bwT (zb2 HB.out GE328.out GE329.out) hb);clear BK328;clear BK329;clear HB;have BK328 := n0_;have BK329 := n1_;have HB := n2_;clear n0_ n1_ n2_;(try clear hb);(try clear hb2);(try clear hk);(try clear hi)));try go_wp2_with (first|(go_at_call 29;(with_reducible refine (impl_ValidGraph.calls k _ _ l0_0 a0_1 true _ ?side1 ?side2 A6.out).mono ?_);(case side1 => repeat (first|exact (Kd.C_below HR0_0.out HB.out)|(with_reducible refine Kd.C_alloc ?_ _)|(with_reducible refine Kd.C_drewN ?_ _)|(with_reducible refine Kd.C_drew ?_)));(case side2 => exact HC0_0.out);rintro e w11 ⟨rfl,hb⟩;have n0_ := As_ (zkb BK328.out hb);have n1_ := As_ (zkb BK329.out hb);have n2_ := As_ (bwT (zb2 HB.out GE328.out GE329.out) hb);clear BK328;clear BK329;clear HB;have BK328 := n0_;have BK329 := n1_;have HB := n2_;clear n0_ n1_ n2_;(try clear hb);(try clear hb2);(try clear hk);(try clear hi);have hcz12_0 : w11.cell? ⟨gb329,0,none⟩ = some (.slice A1_0 l1_0.length c1_0) := (bkC BK329.out 0).trans rfl;have hcz12_1 : w11.cell? ⟨gb329,1,none⟩ = some (.int .i64 a1_1) := (bkC BK329.out 1).trans rfl;have hfz12_0 := bkF BK329.out 0;have hfz12_1 := bkF BK329.out 1)|(go_at_call 29;(with_reducible refine (impl_ValidGraph.calls k _ _ l1_0 a1_1 t331 _ ?side1 ?side2 A8.out).mono ?_);(case side1 => repeat (first|exact (Kd.C_below HR1_0.out HB.out)|(with_reducible refine Kd.C_alloc ?_ _)|(with_reducible refine Kd.C_drewN ?_ _)|(with_reducible refine Kd.C_drew ?_)));(case side2 => exact HC1_0.out);rintro e w13 ⟨rfl,hb⟩;have n0_ := As_ (zkb BK328.out hb);have n1_ := As_ (zkb BK329.out hb);have n2_ := As_ (bwT (zb2 HB.out GE328.out GE329.out) hb);clear BK328;clear BK329;clear HB;have BK328 := n0_;have BK329 := n1_;have HB := n2_;clear n0_ n1_ n2_;(try clear hb);(try clear hb2);(try clear hk);(try clear hi))))
   go_meet
   case rel => exact ⟨_,(!t331),zT_,H',⟨by first|omega|exact Nat.le_refl _⟩,⟨by (with_reducible repeat (first|refine bkN ?_ _|refine bkD ?_|refine bkA ?_ _));exact BK328.out⟩,⟨by (with_reducible repeat (first|refine bkN ?_ _|refine bkD ?_|refine bkA ?_ _));exact BK329.out⟩,⟨by repeat (first|(with_reducible first|exact HB.out|apply bwA|apply bwN|apply bwD|refine bwS ?_ GE328.out|refine bwS ?_ GE329.out)|exact HB.out)⟩⟩
  ·replace c7 := Bool.eq_false_iff.mpr c7
   subst c7
   have H1 : (impl_EqualDeep.j0 k true l0_0 a0_1 l1_0 a1_1) = some r := by rw [if_neg (show ¬ (false = true) by decide)] at H;exact H
   clear H
   have H := H1
   clear H1
   have H' := As_ H
   clear H
   have hnb14 := NB328_329.out
   have hnc14 := NB329_328.out
   have hcz15_0 : w5.cell? ⟨gb328,0,none⟩ = some (.slice A0_0 l0_0.length c0_0) := (bkC BK328.out 0).trans rfl
   have hcz15_1 : w5.cell? ⟨gb328,1,none⟩ = some (.int .i64 a0_1) := (bkC BK328.out 1).trans rfl
   have hfz15_0 := bkF BK328.out 0
   have hfz15_1 := bkF BK328.out 1
   go_wp2_with (first|(go_at_call 29;(with_reducible refine (impl_ValidGraph.calls k _ _ l0_0 a0_1 false _ ?side1 ?side2 A6.out).mono ?_);(case side1 => repeat (first|exact (Kd.C_below HR0_0.out HB.out)|(with_reducible refine Kd.C_alloc ?_ _)|(with_reducible refine Kd.C_drewN ?_ _)|(with_reducible refine Kd.C_drew ?_)));(case side2 => exact HC0_0.out);rintro e w16 ⟨rfl,hb⟩;have n0_ := As_ (zkb BK328.out hb);have n1_ := As_ (zkb BK329.out hb);have n2_ := As_ (bwT (zb2 HB.out GE328.out GE329.out) hb);clear BK328;clear BK329;clear HB;have BK328 := n0_;have BK329 := n1_;have HB := n2_;clear n0_ n1_ n2_;(try clear hb);(try clear hb2);(try clear hk);(try clear hi)))
   repeat (go_quiet (first|(go_at_call 29;(with_reducible refine (impl_ValidGraph.calls k _ _ l0_0 a0_1 false _ ?side1 ?side2 A6.out).mono ?_);(case side1 => repeat (first|exact (Kd.C_below HR0_0.out HB.out)|(with_reducible refine Kd.C_alloc ?_ _)|(with_reducible refine Kd.C_drewN ?_ _)|(with_reducible refine Kd.C_drew ?_)));(case side2 => exact HC0_0.out);rintro e w16 ⟨rfl,hb⟩;have n0_ := As_ (zkb BK328.out hb);have n1_ := As_ (zkb BK329.out hb);have n2_ := As_ (bwT (zb2 HB.out GE328.out GE329.out) hb);clear BK328;clear BK329;clear HB;have BK328 := n0_;have BK329 := n1_;have HB := n2_;clear n0_ n1_ n2_;(try clear hb);(try clear hb2);(try clear hk);(try clear hi)));try go_wp2_with (first|(go_at_call 29;(with_reducible refine (impl_ValidGraph.calls k _ _ l0_0 a0_1 false _ ?side1 ?side2 A6.out).mono ?_);(case side1 => repeat (first|exact (Kd.C_below HR0_0.out HB.out)|(with_reducible refine Kd.C_alloc ?_ _)|(with_reducible refine Kd.C_drewN ?_ _)|(with_reducible refine Kd.C_drew ?_)));(case side2 => exact HC0_0.out);rintro e w16 ⟨rfl,hb⟩;have n0_ := As_ (zkb BK328.out hb);have n1_ := As_ (zkb BK329.out hb);have n2_ := As_ (bwT (zb2 HB.out GE328.out GE329.out) hb);clear BK328;clear BK329;clear HB;have BK328 := n0_;have BK329 := n1_;have HB := n2_;clear n0_ n1_ n2_;(try clear hb);(try clear hb2);(try clear hk);(try clear hi))))
   go_meet
   case rel => exact ⟨_,(true),zT_,H',⟨by first|omega|exact Nat.le_refl _⟩,⟨by (with_reducible repeat (first|refine bkN ?_ _|refine bkD ?_|refine bkA ?_ _));exact BK328.out⟩,⟨by (with_reducible repeat (first|refine bkN ?_ _|refine bkD ?_|refine bkA ?_ _));exact BK329.out⟩,⟨by repeat (first|(with_reducible first|exact HB.out|apply bwA|apply bwN|apply bwD|refine bwS ?_ GE328.out|refine bwS ?_ GE329.out)|exact HB.out)⟩⟩
 case rest =>
  clear HC3
  try clear c1
  try clear p2
  try clear c7
  try clear c9
  try clear c14
  try clear hcz10_0
  try clear hcz10_1
  try clear hcz12_0
  try clear hcz12_1
  try clear hcz15_0
  try clear hcz15_1
  try clear hfz10_0
  try clear hfz10_1
  try clear hfz12_0
  try clear hfz12_1
  try clear hfz15_0
  try clear hfz15_1
  obtain ⟨kq,x18_2,rfl,HA,HJ2,BK328,BK329,HB⟩ := hcut
  cases kq with
  | zero => exact absurd HA.out (fun h_ => (by cases h_))
  | succ kj2 =>
   have H := HA.out
   clear HA
   simp only [impl_EqualDeep.j0] at H
   by_cases c17 : x18_2 = true
   ·subst c17
    have H1 : (some false) = some r := by rw [if_pos rfl] at H;exact H
    clear H
    have H := H1
    clear H1
    obtain rfl := Option.some.inj H
    go_wp2
    repeat (go_quiet (fail);try go_wp2)
    go_ret
    exact ⟨by first|rfl|(simp [errW_none,errW_some] <;> rfl)|(simp [*,errW_none,errW_some] <;> rfl),by repeat (first|(with_reducible first|exact HB.out|apply bwA|apply bwN|apply bwD|refine bwS ?_ GE328.out|refine bwS ?_ GE329.out)|exact HB.out)⟩
   ·replace c17 := Bool.eq_false_iff.mpr c17
    subst c17
    have H1 : (impl_EqualDeep.l0 kj2 (([] : List Int)) (l1_0.length : Int) 0 l0_0 a0_1 l1_0 a1_1) = some r := by rw [if_neg (show ¬ (false = true) by decide)] at H;exact H
    clear H
    have H := H1
    clear H1
    obtain ⟨y332,hy332⟩ : ∃ y_ : List Int,y_ = (([] : List Int)) := ⟨_,rfl⟩
    replace H : (impl_EqualDeep.l0 kj2 y332 (l1_0.length : Int) 0 l0_0 a0_1 l1_0 a1_1) = some r := by first|(rw [hy332];with_reducible exact H)|(have H2_ := (Option.bind_some _ _).symm.trans H;rw [hy332];with_reducible exact H2_)|(have H2_ := (Option.bind_some _ _).symm.trans H;with_reducible exact H2_)|with_reducible exact H|(rw [hy332];exact H)|exact H
    have Ny332 := As_ hy332
    clear hy332
    have H' := As_ H
    clear H
    go_wp2_with (first|((with_reducible refine gate_dst (N := 19) rfl ?_);refine Kd.R_lit (Kd.int .i64) _ 3 ?hg (N := 19) ?hd (xs := ([] : List Int)) (inner := []) (ok := fun _ => True) (okp := fun _ => True) ?hr ?hp (fun _ hk => hk) trivial (Below.refl _ _) (Nat.le_refl _) (by simp) ?_;(case hd => rfl);(case hg => rfl);(case hr => go_simp <;> rfl);(case hp => exact (Reps.none _ _));intro v333 w18 ho19 hb hg_ hnew_;clear hg_ hnew_;(first|rw [← Ny332.out] at ho19|(simp only [Int.reduceToNat] at ho19;rw [← Ny332.out] at ho19));have n0_ := As_ (Kd.R_lower ho19 (bwZ (zb2 HB.out GE328.out GE329.out)));have n1_ := As_ (zkb BK328.out hb);have n2_ := As_ (zkb BK329.out hb);have n3_ := As_ (bwT (zb2 HB.out GE328.out GE329.out) hb);clear BK328;clear BK329;clear HB;have HO334 := n0_;have BK328 := n1_;have BK329 := n2_;have HB := n3_;clear n0_ n1_ n2_ n3_;clear hb ho19;have hnb20 := NB329_328.out;have hnc20 := NB328_329.out;have hcz21_0 : w18.cell? ⟨gb329,0,none⟩ = some (.slice A1_0 l1_0.length c1_0) := (bkC BK329.out 0).trans rfl;have hcz21_1 : w18.cell? ⟨gb329,1,none⟩ = some (.int .i64 a1_1) := (bkC BK329.out 1).trans rfl;have hfz21_0 := bkF BK329.out 0;have hfz21_1 := bkF BK329.out 1))
    repeat (go_quiet (first|((with_reducible refine gate_dst (N := 19) rfl ?_);refine Kd.R_lit (Kd.int .i64) _ 3 ?hg (N := 19) ?hd (xs := ([] : List Int)) (inner := []) (ok := fun _ => True) (okp := fun _ => True) ?hr ?hp (fun _ hk => hk) trivial (Below.refl _ _) (Nat.le_refl _) (by simp) ?_;(case hd => rfl);(case hg => rfl);(case hr => go_simp <;> rfl);(case hp => exact (Reps.none _ _));intro v333 w18 ho19 hb hg_ hnew_;clear hg_ hnew_;(first|rw [← Ny332.out] at ho19|(simp only [Int.reduceToNat] at ho19;rw [← Ny332.out] at ho19));have n0_ := As_ (Kd.R_lower ho19 (bwZ (zb2 HB.out GE328.out GE329.out)));have n1_ := As_ (zkb BK328.out hb);have n2_ := As_ (zkb BK329.out hb);have n3_ := As_ (bwT (zb2 HB.out GE328.out GE329.out) hb);clear BK328;clear BK329;clear HB;have HO334 := n0_;have BK328 := n1_;have BK329 := n2_;have HB := n3_;clear n0_ n1_ n2_ n3_;clear hb ho19;have hnb20 := NB329_328.out;have hnc20 := NB328_329.out;have hcz21_0 : w18.cell? ⟨gb329,0,none⟩ = some (.slice A1_0 l1_0.length c1_0) := (bkC BK329.out 0).trans rfl;have hcz21_1 : w18.cell? ⟨gb329,1,none⟩ = some (.int .i64 a1_1) := (bkC BK329.out 1).trans rfl;have hfz21_0 := bkF BK329.out 0;have hfz21_1 := bkF BK329.out 1));try go_wp2_with (first|((with_reducible refine gate_dst (N := 19) rfl ?_);refine Kd.R_lit (Kd.int .i64) _ 3 ?hg (N := 19) ?hd (xs := ([] : List Int)) (inner := []) (ok := fun _ => True) (okp := fun _ => True) ?hr ?hp (fun _ hk => hk) trivial (Below.refl _ _) (Nat.le_refl _) (by simp) ?_;(case hd => rfl);(case hg => rfl);(case hr => go_simp <;> rfl);(case hp => exact (Reps.none _ _));intro v333 w18 ho19 hb hg_ hnew_;clear hg_ hnew_;(first|rw [← Ny332.out] at ho19|(simp only [Int.reduceToNat] at ho19;rw [← Ny332.out] at ho19));have n0_ := As_ (Kd.R_lower ho19 (bwZ (zb2 HB.out GE328.out GE329.out)));have n1_ := As_ (zkb BK328.out hb);have n2_ := As_ (zkb BK329.out hb);have n3_ := As_ (bwT (zb2 HB.out GE328.out GE329.out) hb);clear BK328;clear BK329;clear HB;have HO334 := n0_;have BK328 := n1_;have BK329 := n2_;have HB := n3_;clear n0_ n1_ n2_ n3_;clear hb ho19;have hnb20 := NB329_328.out;have hnc20 := NB328_329.out;have hcz21_0 : w18.cell? ⟨gb329,0,none⟩ = some (.slice A1_0 l1_0.length c1_0) := (bkC BK329.out 0).trans rfl;have hcz21_1 : w18.cell? ⟨gb329,1,none⟩ = some (.int .i64 a1_1) := (bkC BK329.out 1).trans rfl;have hfz21_0 := bkF BK329.out 0;have hfz21_1 := bkF BK329.out 1)))
    go_loopg [5,23] kj2 (fun kq v5 v23 w' => ∃ (x5_2 : List Int) (x23_2 : Int),v23 = .int .i64 x23_2 ∧ Aside0 (impl_EqualDeep.l0 kq x5_2 (l1_0.length : Int) x23_2 l0_0 a0_1 l1_0 a1_1 = some r) ∧ Aside0 (kq ≤ kj2) ∧ Aside0 (Kd.R (Kd.int .i64) 3 w' w.heap.size (fun _ => True) v5 x5_2) ∧ Aside0 (w'.heap[gb328]? = some (.cells #[(.slice A0_0 l0_0.length c0_0),.int .i64 a0_1] 29 (0,0))) ∧ Aside0 (w'.heap[gb329]? = some (.cells #[(.slice A1_0 l1_0.length c1_0),.int .i64 a1_1] 29 (0,0))) ∧ Aside0 (Below w.heap.size w w'))
    case atStart => exact ⟨(y332),(0),zT_,H',⟨Nat.le_refl _⟩,⟨by (with_reducible repeat (first|apply Kd.R_alloc|apply Kd.R_drewN|apply Kd.R_drew));exact HO334.out⟩,⟨by (with_reducible repeat (first|refine bkN ?_ _|refine bkD ?_|refine bkA ?_ _));exact BK328.out⟩,⟨by (with_reducible repeat (first|refine bkN ?_ _|refine bkD ?_|refine bkA ?_ _));exact BK329.out⟩,⟨by repeat (first|(with_reducible first|exact HB.out|apply bwA|apply bwN|apply bwD|refine bwS ?_ GE328.out|refine bwS ?_ GE329.out)|exact HB.out)⟩⟩
    case round =>
     clear H'
     try clear c1
     try clear c2
     try clear p2
     try clear c7
     try clear c9
     try clear c14
     try clear c17
     try clear c18
     try clear c20
     try clear hcz10_0
     try clear hcz10_1
     try clear hcz12_0
     try clear hcz12_1
     try clear hcz15_0
     try clear hcz15_1
     try clear hcz21_0
     try clear hcz21_1
     try clear hfz10_0
     try clear hfz10_1
     try clear hfz12_0
     try clear hfz12_1
     try clear hfz15_0
     try clear hfz15_1
     try clear hfz21_0
     try clear hfz21_1
     try clear p2
     obtain ⟨x5_2,x23_2,rfl,HA,HK2,HO_5,BK328,BK329,HB⟩ := hrel
     cases gk with
     | zero => exact absurd HA.out (fun h_ => (by cases h_))
     | succ k2 =>
      have H := HA.out
      clear HA
      simp only [impl_EqualDeep.l0] at H
      by_cases c22 : x23_2 < (l1_0.length : Int)
      ·rw [if_pos c22] at H
       have c22b0 : decide (x23_2 < (l1_0.length : Int)) = true := deT c22
       clear c22
       by_cases c23 : x5_2.length < 17592186044416
       rotate_left
       ·rw [if_neg c23] at H
        exact absurd H (by simp)
       rw [if_pos c23] at H
       have LMc23 := As_ c23
       clear c23
       obtain ⟨y335,hy335⟩ : ∃ y_ : List Int,y_ = (x5_2 ++ [wrap64 (x23_2 + (l0_0.length : Int))]) := ⟨_,rfl⟩
       replace H : (impl_EqualDeep.l0 k2 y335 (l1_0.length : Int) (wrap64 (x23_2 + 1)) l0_0 a0_1 l1_0 a1_1) = some r := by first|(rw [hy335];with_reducible exact H)|(have H2_ := (Option.bind_some _ _).symm.trans H;rw [hy335];with_reducible exact H2_)|(have H2_ := (Option.bind_some _ _).symm.trans H;with_reducible exact H2_)|with_reducible exact H|(rw [hy335];exact H)|exact H
       have Ny335 := As_ hy335
       clear hy335
       have H' := As_ H
       clear H
       have hnb24 := NB328_329.out
       have hnc24 := NB329_328.out
       have hcz25_0 : wr.cell? ⟨gb328,0,none⟩ = some (.slice A0_0 l0_0.length c0_0) := (bkC BK328.out 0).trans rfl
       have hcz25_1 : wr.cell? ⟨gb328,1,none⟩ = some (.int .i64 a0_1) := (bkC BK328.out 1).trans rfl
       have hfz25_0 := bkF BK328.out 0
       have hfz25_1 := bkF BK328.out 1
       go_wp2_with (first|((with_reducible refine gate_builtin (b := .append) (xs := #[.tmp 26,.tmp 32]) rfl ?_);at_builtin;refine Kd.R_append (Kd.int .i64) (w0 := w) w.heap.size rfl (.tmp 26) (.tmp 32) 37 3 (.int .i64 0) 8 rfl Try.underlying37 info3 rfl (by decide) (by omega) u5 x5_2 (wrap64 (x23_2 + (l0_0.length : Int))) [.int .i64 (wrap64 (x23_2 + (l0_0.length : Int)))] (fun _ => True) (fun _ => False) rfl rfl ?aP (fun _ hk => hk.elim) ?aF ?aO ?aB ?aS ?aL ?_;(case aP => exact rfl);(case aB => exact (zb2 HB.out GE328.out GE329.out));(case aF => exact (fun _ _ => trivial));(case aO => exact (zR_ HO_5.out));(case aS => exact (bwZ (zb2 HB.out GE328.out GE329.out)));(case aL => have := LMc23.out;omega);intro v336 w26 ho hb hg hat;rw [← Ny335.out] at ho;have n0_ := As_ (blk_grown (g := gb328) (o := .cells #[.slice A0_0 l0_0.length c0_0,.int .i64 a0_1] 29 (0,0)) (zk_ BK328.out) hg (Kd.R_ne HO_5.out BK328.out (by decide)));have n1_ := As_ (blk_grown (g := gb329) (o := .cells #[.slice A1_0 l1_0.length c1_0,.int .i64 a1_1] 29 (0,0)) (zk_ BK329.out) hg (Kd.R_ne HO_5.out BK329.out (by decide)));have n2_ := As_ (hb);have n3_ := As_ (ho);clear BK328;clear BK329;clear HB;clear HO_5;have BK328 := n0_;have BK329 := n1_;have HB := n2_;have HO337 := n3_;clear n0_ n1_ n2_ n3_;clear ho hb hg hat))
       repeat (go_quiet (first|((with_reducible refine gate_builtin (b := .append) (xs := #[.tmp 26,.tmp 32]) rfl ?_);at_builtin;refine Kd.R_append (Kd.int .i64) (w0 := w) w.heap.size rfl (.tmp 26) (.tmp 32) 37 3 (.int .i64 0) 8 rfl Try.underlying37 info3 rfl (by decide) (by omega) u5 x5_2 (wrap64 (x23_2 + (l0_0.length : Int))) [.int .i64 (wrap64 (x23_2 + (l0_0.length : Int)))] (fun _ => True) (fun _ => False) rfl rfl ?aP (fun _ hk => hk.elim) ?aF ?aO ?aB ?aS ?aL ?_;(case aP => exact rfl);(case aB => exact (zb2 HB.out GE328.out GE329.out));(case aF => exact (fun _ _ => trivial));(case aO => exact (zR_ HO_5.out));(case aS => exact (bwZ (zb2 HB.out GE328.out GE329.out)));(case aL => have := LMc23.out;omega);intro v336 w26 ho hb hg hat;rw [← Ny335.out] at ho;have n0_ := As_ (blk_grown (g := gb328) (o := .cells #[.slice A0_0 l0_0.length c0_0,.int .i64 a0_1] 29 (0,0)) (zk_ BK328.out) hg (Kd.R_ne HO_5.out BK328.out (by decide)));have n1_ := As_ (blk_grown (g := gb329) (o := .cells #[.slice A1_0 l1_0.length c1_0,.int .i64 a1_1] 29 (0,0)) (zk_ BK329.out) hg (Kd.R_ne HO_5.out BK329.out (by decide)));have n2_ := As_ (hb);have n3_ := As_ (ho);clear BK328;clear BK329;clear HB;clear HO_5;have BK328 := n0_;have BK329 := n1_;have HB := n2_;have HO337 := n3_;clear n0_ n1_ n2_ n3_;clear ho hb hg hat));try go_wp2_with (first|((with_reducible refine gate_builtin (b := .append) (xs := #[.tmp 26,.tmp 32]) rfl ?_);at_builtin;refine Kd.R_append (Kd.int .i64) (w0 := w) w.heap.size rfl (.tmp 26) (.tmp 32) 37 3 (.int .i64 0) 8 rfl Try.underlying37 info3 rfl (by decide) (by omega) u5 x5_2 (wrap64 (x23_2 + (l0_0.length : Int))) [.int .i64 (wrap64 (x23_2 + (l0_0.length : Int)))] (fun _ => True) (fun _ => False) rfl rfl ?aP (fun _ hk => hk.elim) ?aF ?aO ?aB ?aS ?aL ?_;(case aP => exact rfl);(case aB => exact (zb2 HB.out GE328.out GE329.out));(case aF => exact (fun _ _ => trivial));(case aO => exact (zR_ HO_5.out));(case aS => exact (bwZ (zb2 HB.out GE328.out GE329.out)));(case aL => have := LMc23.out;omega);intro v336 w26 ho hb hg hat;rw [← Ny335.out] at ho;have n0_ := As_ (blk_grown (g := gb328) (o := .cells #[.slice A0_0 l0_0.length c0_0,.int .i64 a0_1] 29 (0,0)) (zk_ BK328.out) hg (Kd.R_ne HO_5.out BK328.out (by decide)));have n1_ := As_ (blk_grown (g := gb329) (o := .cells #[.slice A1_0 l1_0.length c1_0,.int .i64 a1_1] 29 (0,0)) (zk_ BK329.out) hg (Kd.R_ne HO_5.out BK329.out (by decide)));have n2_ := As_ (hb);have n3_ := As_ (ho);clear BK328;clear BK329;clear HB;clear HO_5;have BK328 := n0_;have BK329 := n1_;have HB := n2_;have HO337 := n3_;clear n0_ n1_ n2_ n3_;clear ho hb hg hat)))
       go_roundg k2
       case measure => have := HJ2.out;have := HK2.out;omega
       case rel => exact ⟨(y335),(wrap64 (x23_2 + 1)),zT_,H',⟨by have := HJ2.out;have := HK2.out;omega⟩,⟨by (with_reducible repeat (first|apply Kd.R_alloc|apply Kd.R_drewN|apply Kd.R_drew));exact HO337.out⟩,⟨by (with_reducible repeat (first|refine bkN ?_ _|refine bkD ?_|refine bkA ?_ _));exact BK328.out⟩,⟨by (with_reducible repeat (first|refine bkN ?_ _|refine bkD ?_|refine bkA ?_ _));exact BK329.out⟩,⟨by repeat (first|(with_reducible first|exact HB.out|apply bwA|apply bwN|apply bwD|refine bwS ?_ GE328.out|refine bwS ?_ GE329.out)|exact HB.out)⟩⟩
      ·rw [if_neg c22] at H
       have c22b0 : decide (x23_2 < (l1_0.length : Int)) = false := deF c22
       clear c22
       replace H := obS H
       obtain ⟨t338,A270,H⟩ := H
       replace H : (impl_EqualDeep.l1 k2 x5_2 t338 l1_0 (l1_0.length : Int) 0 l0_0 a0_1 l1_0 a1_1) = some r := H
       have A27 := As_ A270
       clear A270
       have H' := As_ H
       clear H
       have hnb28 := NB328_329.out
       have hnc28 := NB329_328.out
       have hcz29_0 : wr.cell? ⟨gb328,0,none⟩ = some (.slice A0_0 l0_0.length c0_0) := (bkC BK328.out 0).trans rfl
       have hcz29_1 : wr.cell? ⟨gb328,1,none⟩ = some (.int .i64 a0_1) := (bkC BK328.out 1).trans rfl
       have hfz29_0 := bkF BK328.out 0
       have hfz29_1 := bkF BK328.out 1
       go_wp2_with (first|(go_at_call 52;(with_reducible refine (impl_Node.calls (fun k_ => k_ < w.heap.size) _ _ l0_0 t338 _ ?side1 A27.out).mono ?_);(case side1 => exact Kd.V_mk HC0_0.out (Kd.F_below (Kd.C_F k45_heap HR0_0.out) (zb2 HB.out GE328.out GE329.out)));rintro e w30 ⟨v339,rfl,ho0,hb⟩;have n0_ := As_ (Kd.R_below (zR_ HO_5.out) hb);have n1_ := As_ (Kd.N_lower (Kd.N_mono (ok' := fun k_ => some k_ ≠ (u5 : Value).ownBlock ∧ k_ ≠ gb328 ∧ k_ ≠ gb329) ho0 (fun k_ hk_ => ⟨Or.elim hk_ (fun hs_ => fun e_ => Nat.not_le.2 hs_ (Kd.R_base HO_5.out k_ e_.symm)) (fun hn_ => (Kd.fresh' (Kd.R_lt (zR_ HO_5.out)) k_ hn_)),Or.elim hk_ (fun hs_ => fun e_ => Nat.not_le.2 hs_ (by rw [e_];exact GW328.out)) (fun hn_ => (Kd.freshB (g := gb328) (o := .cells #[.slice A0_0 l0_0.length c0_0,.int .i64 a0_1] 29 (0,0)) (zk_ BK328.out) k_ hn_)),Or.elim hk_ (fun hs_ => fun e_ => Nat.not_le.2 hs_ (by rw [e_];exact GW329.out)) (fun hn_ => (Kd.freshB (g := gb329) (o := .cells #[.slice A1_0 l1_0.length c1_0,.int .i64 a1_1] 29 (0,0)) (zk_ BK329.out) k_ hn_))⟩)) (bwZ (zb2 HB.out GE328.out GE329.out)));have n2_ := As_ (zkb BK328.out hb);have n3_ := As_ (zkb BK329.out hb);have n4_ := As_ (bwT (zb2 HB.out GE328.out GE329.out) hb);clear HO_5;clear BK328;clear BK329;clear HB;have HO_5 := n0_;have HO340 := n1_;have BK328 := n2_;have BK329 := n3_;have HB := n4_;clear n0_ n1_ n2_ n3_ n4_;(try clear hb);(try clear hb2);(try clear hk);(try clear hi);(try clear ho0);have hcz31_0 : w30.cell? ⟨gb329,0,none⟩ = some (.slice A1_0 l1_0.length c1_0) := (bkC BK329.out 0).trans rfl;have hcz31_1 : w30.cell? ⟨gb329,1,none⟩ = some (.int .i64 a1_1) := (bkC BK329.out 1).trans rfl;have hfz31_0 := bkF BK329.out 0;have hfz31_1 := bkF BK329.out 1))
       repeat (go_quiet (first|(go_at_call 52;(with_reducible refine (impl_Node.calls (fun k_ => k_ < w.heap.size) _ _ l0_0 t338 _ ?side1 A27.out).mono ?_);(case side1 => exact Kd.V_mk HC0_0.out (Kd.F_below (Kd.C_F k45_heap HR0_0.out) (zb2 HB.out GE328.out GE329.out)));rintro e w30 ⟨v339,rfl,ho0,hb⟩;have n0_ := As_ (Kd.R_below (zR_ HO_5.out) hb);have n1_ := As_ (Kd.N_lower (Kd.N_mono (ok' := fun k_ => some k_ ≠ (u5 : Value).ownBlock ∧ k_ ≠ gb328 ∧ k_ ≠ gb329) ho0 (fun k_ hk_ => ⟨Or.elim hk_ (fun hs_ => fun e_ => Nat.not_le.2 hs_ (Kd.R_base HO_5.out k_ e_.symm)) (fun hn_ => (Kd.fresh' (Kd.R_lt (zR_ HO_5.out)) k_ hn_)),Or.elim hk_ (fun hs_ => fun e_ => Nat.not_le.2 hs_ (by rw [e_];exact GW328.out)) (fun hn_ => (Kd.freshB (g := gb328) (o := .cells #[.slice A0_0 l0_0.length c0_0,.int .i64 a0_1] 29 (0,0)) (zk_ BK328.out) k_ hn_)),Or.elim hk_ (fun hs_ => fun e_ => Nat.not_le.2 hs_ (by rw [e_];exact GW329.out)) (fun hn_ => (Kd.freshB (g := gb329) (o := .cells #[.slice A1_0 l1_0.length c1_0,.int .i64 a1_1] 29 (0,0)) (zk_ BK329.out) k_ hn_))⟩)) (bwZ (zb2 HB.out GE328.out GE329.out)));have n2_ := As_ (zkb BK328.out hb);have n3_ := As_ (zkb BK329.out hb);have n4_ := As_ (bwT (zb2 HB.out GE328.out GE329.out) hb);clear HO_5;clear BK328;clear BK329;clear HB;have HO_5 := n0_;have HO340 := n1_;have BK328 := n2_;have BK329 := n3_;have HB := n4_;clear n0_ n1_ n2_ n3_ n4_;(try clear hb);(try clear hb2);(try clear hk);(try clear hi);(try clear ho0);have hcz31_0 : w30.cell? ⟨gb329,0,none⟩ = some (.slice A1_0 l1_0.length c1_0) := (bkC BK329.out 0).trans rfl;have hcz31_1 : w30.cell? ⟨gb329,1,none⟩ = some (.int .i64 a1_1) := (bkC BK329.out 1).trans rfl;have hfz31_0 := bkF BK329.out 0;have hfz31_1 := bkF BK329.out 1));try go_wp2_with (first|(go_at_call 52;(with_reducible refine (impl_Node.calls (fun k_ => k_ < w.heap.size) _ _ l0_0 t338 _ ?side1 A27.out).mono ?_);(case side1 => exact Kd.V_mk HC0_0.out (Kd.F_below (Kd.C_F k45_heap HR0_0.out) (zb2 HB.out GE328.out GE329.out)));rintro e w30 ⟨v339,rfl,ho0,hb⟩;have n0_ := As_ (Kd.R_below (zR_ HO_5.out) hb);have n1_ := As_ (Kd.N_lower (Kd.N_mono (ok' := fun k_ => some k_ ≠ (u5 : Value).ownBlock ∧ k_ ≠ gb328 ∧ k_ ≠ gb329) ho0 (fun k_ hk_ => ⟨Or.elim hk_ (fun hs_ => fun e_ => Nat.not_le.2 hs_ (Kd.R_base HO_5.out k_ e_.symm)) (fun hn_ => (Kd.fresh' (Kd.R_lt (zR_ HO_5.out)) k_ hn_)),Or.elim hk_ (fun hs_ => fun e_ => Nat.not_le.2 hs_ (by rw [e_];exact GW328.out)) (fun hn_ => (Kd.freshB (g := gb328) (o := .cells #[.slice A0_0 l0_0.length c0_0,.int .i64 a0_1] 29 (0,0)) (zk_ BK328.out) k_ hn_)),Or.elim hk_ (fun hs_ => fun e_ => Nat.not_le.2 hs_ (by rw [e_];exact GW329.out)) (fun hn_ => (Kd.freshB (g := gb329) (o := .cells #[.slice A1_0 l1_0.length c1_0,.int .i64 a1_1] 29 (0,0)) (zk_ BK329.out) k_ hn_))⟩)) (bwZ (zb2 HB.out GE328.out GE329.out)));have n2_ := As_ (zkb BK328.out hb);have n3_ := As_ (zkb BK329.out hb);have n4_ := As_ (bwT (zb2 HB.out GE328.out GE329.out) hb);clear HO_5;clear BK328;clear BK329;clear HB;have HO_5 := n0_;have HO340 := n1_;have BK328 := n2_;have BK329 := n3_;have HB := n4_;clear n0_ n1_ n2_ n3_ n4_;(try clear hb);(try clear hb2);(try clear hk);(try clear hi);(try clear ho0);have hcz31_0 : w30.cell? ⟨gb329,0,none⟩ = some (.slice A1_0 l1_0.length c1_0) := (bkC BK329.out 0).trans rfl;have hcz31_1 : w30.cell? ⟨gb329,1,none⟩ = some (.int .i64 a1_1) := (bkC BK329.out 1).trans rfl;have hfz31_0 := bkF BK329.out 0;have hfz31_1 := bkF BK329.out 1)))
       go_loopg [7,41] k2 (fun kq v7 v41 w' => ∃ (x7_3 : List (S45)) (x41_3 : Int),v41 = .int .i64 x41_3 ∧ Aside0 (impl_EqualDeep.l1 kq x5_2 x7_3 l1_0 (l1_0.length : Int) x41_3 l0_0 a0_1 l1_0 a1_1 = some r) ∧ Aside0 (kq ≤ k2) ∧ Aside0 (Kd.R (Kd.int .i64) 3 w' w.heap.size (fun _ => True) u5 x5_2) ∧ Aside0 (Kd.N k45 45 w' w.heap.size (fun k_ => some k_ ≠ (u5 : Value).ownBlock ∧ k_ ≠ gb328 ∧ k_ ≠ gb329) v7 x7_3) ∧ Aside0 (w'.heap[gb328]? = some (.cells #[(.slice A0_0 l0_0.length c0_0),.int .i64 a0_1] 29 (0,0))) ∧ Aside0 (w'.heap[gb329]? = some (.cells #[(.slice A1_0 l1_0.length c1_0),.int .i64 a1_1] 29 (0,0))) ∧ Aside0 (Below w.heap.size w w'))
       case atStart => exact ⟨(t338),(0),zT_,H',⟨Nat.le_refl _⟩,⟨by (with_reducible repeat (first|apply Kd.R_alloc|apply Kd.R_drewN|apply Kd.R_drew));exact HO_5.out⟩,⟨by (with_reducible repeat (first|apply Kd.N_alloc|apply Kd.N_drewN|apply Kd.N_drew));exact HO340.out⟩,⟨by (with_reducible repeat (first|refine bkN ?_ _|refine bkD ?_|refine bkA ?_ _));exact BK328.out⟩,⟨by (with_reducible repeat (first|refine bkN ?_ _|refine bkD ?_|refine bkA ?_ _));exact BK329.out⟩,⟨by repeat (first|(with_reducible first|exact HB.out|apply bwA|apply bwN|apply bwD|refine bwS ?_ GE328.out|refine bwS ?_ GE329.out)|exact HB.out)⟩⟩
       case round =>
        clear H'
        try clear c1
        try clear c2
        try clear p2
        try clear p6
        try clear c7
        try clear c9
        try clear c14
        try clear c17
        try clear c18
        try clear c20
        try clear c22
        try clear c22b0
        try clear c23
        try clear c24
        try clear c28
        try clear hcz10_0
        try clear hcz10_1
        try clear hcz12_0
        try clear hcz12_1
        try clear hcz15_0
        try clear hcz15_1
        try clear hcz21_0
        try clear hcz21_1
        try clear hcz25_0
        try clear hcz25_1
        try clear hcz29_0
        try clear hcz29_1
        try clear hcz31_0
        try clear hcz31_1
        try clear hfz10_0
        try clear hfz10_1
        try clear hfz12_0
        try clear hfz12_1
        try clear hfz15_0
        try clear hfz15_1
        try clear hfz21_0
        try clear hfz21_1
        try clear hfz25_0
        try clear hfz25_1
        try clear hfz29_0
        try clear hfz29_1
        try clear hfz31_0
        try clear hfz31_1
        try clear p2
        obtain ⟨x7_3,x41_3,rfl,HA,HK3,HO_5,HO_7,BK328,BK329,HB⟩ := hrel
        cases gk with
        | zero => exact absurd HA.out (fun h_ => (by cases h_))
        | succ k3 =>
         have H := HA.out
         clear HA
         simp only [impl_EqualDeep.l1] at H
         by_cases c32 : x41_3 < (l1_0.length : Int)
         ·rw [if_pos c32] at H
          have c32b0 : decide (x41_3 < (l1_0.length : Int)) = true := deT c32
          clear c32
          by_cases c33 : 0 ≤ x41_3
          rotate_left
          ·rw [if_neg c33] at H
           exact absurd H (by simp)
          rw [if_pos c33] at H
          have c33b0 : decide (0 ≤ x41_3) = true := deT c33
          clear c33
          by_cases c34 : x41_3 < (l1_0.length : Int)
          rotate_left
          ·rw [if_neg c34] at H
           exact absurd H (by simp)
          rw [if_pos c34] at H
          have c34b0 : decide (x41_3 < (l1_0.length : Int)) = true := deT c34
          clear c34
          replace H := obS H
          obtain ⟨⟨t343,t344,t345⟩,A350,H⟩ := H
          replace H : (if x7_3.length < 3518437208883 then (impl_EqualDeep.l1 k3 x5_2 (x7_3 ++ [(⟨t343,t344,t345⟩ : S45)]) l1_0 (l1_0.length : Int) (wrap64 (x41_3 + 1)) l0_0 a0_1 l1_0 a1_1) else (none)) = some r := H
          have A35 := As_ A350
          clear A350
          by_cases c36 : x7_3.length < 3518437208883
          rotate_left
          ·rw [if_neg c36] at H
           exact absurd H (by simp)
          rw [if_pos c36] at H
          have LMc36 := As_ c36
          clear c36
          obtain ⟨y348,hy348⟩ : ∃ y_ : List (S45),y_ = (x7_3 ++ [(⟨t343,t344,t345⟩ : S45)]) := ⟨_,rfl⟩
          replace H : (impl_EqualDeep.l1 k3 x5_2 y348 l1_0 (l1_0.length : Int) (wrap64 (x41_3 + 1)) l0_0 a0_1 l1_0 a1_1) = some r := by first|(rw [hy348];with_reducible exact H)|(have H2_ := (Option.bind_some _ _).symm.trans H;rw [hy348];with_reducible exact H2_)|(have H2_ := (Option.bind_some _ _).symm.trans H;with_reducible exact H2_)|with_reducible exact H|(rw [hy348];exact H)|exact H
          have Ny348 := As_ hy348
          clear hy348
          have H' := As_ H
          clear H
          have p341 : 0 ≤ (x41_3 : Int) := odT zA_
          have q341 : x41_3 < (l1_0.length : Int) := odT zA_
          obtain ⟨ad341,A341_2,c341_2,e341,hx341_0,hx341_1,hx341_2,hl341_2,hi341_2⟩ := at_T45 HR1_0.out x41_3 p341 q341
          cases e341
          replace hx341_0 := (HB.out.cell (bwL w _ hx341_0)).trans hx341_0
          replace hx341_1 := (HB.out.cell (bwL w _ hx341_1)).trans hx341_1
          replace hx341_2 := (HB.out.cell (bwL w _ hx341_2)).trans hx341_2
          have HR341_2 := As_ hi341_2
          have HC341_2 := As_ hl341_2
          clear hi341_2 hl341_2
          replace p341 := eq_true p341
          replace q341 := eq_true q341
          go_wp2_with (first|((with_reducible refine gate_dst (N := 9) rfl ?_);refine box_event ?hg (N := 9) ?hd (cs := #[.int .i64 0,.int .i64 0,.slice none 0 0]) (t := 45) ?hr ?_;(case hd => rfl);(case hg => rfl);(case hr => go_simp <;> rfl);intro gb342 hg w37 hbox hb;have n0_ := As_ (Kd.R_below (zR_ HO_5.out) hb);have n1_ := As_ (Kd.N_below (Kd.N_elderB (zN_ HO_7.out) gb342 (Nat.le_of_eq hg.symm)) hb);have n2_ := As_ (zkb BK328.out hb);have n3_ := As_ (zkb BK329.out hb);have n4_ := As_ (bwT (zb2 HB.out GE328.out GE329.out) hb);have n5_ := As_ (hbox);have n6_ := As_ ((by rw [hg];exact (bwZ (zb2 HB.out GE328.out GE329.out)) : w.heap.size ≤ gb342));have n7_ := As_ ((by rw [hg];exact (bwZ (zb2 HB.out GE328.out GE329.out)) : w.heap.size ≤ gb342));have n8_ := As_ ((by rw [hg];exact Nat.ne_of_lt (zkl BK328.out) : gb328 ≠ gb342));have n9_ := As_ ((by rw [hg];exact Nat.ne_of_gt (zkl BK328.out) : gb342 ≠ gb328));have n10_ := As_ ((by rw [hg];exact Nat.ne_of_lt (zkl BK329.out) : gb329 ≠ gb342));have n11_ := As_ ((by rw [hg];exact Nat.ne_of_gt (zkl BK329.out) : gb342 ≠ gb329));clear HO_5;clear HO_7;clear BK328;clear BK329;clear HB;have HO_5 := n0_;have HO_7 := n1_;have BK328 := n2_;have BK329 := n3_;have HB := n4_;have BK342 := n5_;have GW342 := n6_;have GE342 := n7_;have NB328_342 := n8_;have NB342_328 := n9_;have NB329_342 := n10_;have NB342_329 := n11_;clear n0_ n1_ n2_ n3_ n4_ n5_ n6_ n7_ n8_ n9_ n10_ n11_;clear hb hbox hg;have hnb38 := NB342_328.out;have hnc38 := NB328_342.out;have hnb39 := NB342_329.out;have hnc39 := NB329_342.out;have hcz40_0 : w37.cell? ⟨gb342,0,none⟩ = some (.int .i64 0) := (bkC BK342.out 0).trans rfl;have hcz40_1 : w37.cell? ⟨gb342,1,none⟩ = some (.int .i64 0) := (bkC BK342.out 1).trans rfl;have hcz40_2 : w37.cell? ⟨gb342,2,none⟩ = some (.slice none 0 0) := (bkC BK342.out 2).trans rfl;have hfz40_0 := bkF BK342.out 0;have hfz40_1 := bkF BK342.out 1;have hfz40_2 := bkF BK342.out 2;obtain ⟨Ao41,co41,eo41⟩ := Kd.R_slice HO_5.out;subst eo41)|(go_at_call 53;(with_reducible refine (impl_mapped.calls k3 ((rd_T45 l1_0 x41_3).f0) ((rd_T45 l1_0 x41_3).f1) _ _ ((rd_T45 l1_0 x41_3).f2) _ _ x5_2 t343 t344 t345 _ ?side1 ?side2 ?side3 ?side4 A35.out).mono ?_);(case side1 => exact Kd.C_below HR341_2.out (zb3 HB.out GE328.out GE329.out GE342.out));(case side2 => exact HC341_2.out);(case side3 => refine (Kd.R_reads' (e := 3) (base := w.heap.size) (ok := fun k_ => True) (n := x5_2.length) (c := co41) ?_).2.2;exact (by (with_reducible repeat (first|apply Kd.R_alloc|apply Kd.R_drewN|apply Kd.R_drew));exact (Kd.R_mono (Kd.R_far (p := ⟨gb342,2,none⟩) (Kd.R_far (p := ⟨gb342,1,none⟩) (Kd.R_far (p := ⟨gb342,0,none⟩) (Kd.R_types HO_5.out BK342.out (by decide)) (fun _ hk => hk.2) (.int .i64 ((rd_T45 l1_0 x41_3).f0))) (fun _ hk => hk.2) (.int .i64 ((rd_T45 l1_0 x41_3).f1))) (fun _ hk => hk.2) (.slice A341_2 ((rd_T45 l1_0 x41_3).f2).length c341_2)) (fun _ h_ => h_.1))));(case side4 => exact (Kd.R_reads' HO_5.out).2.1);rintro e w42 ⟨v346,rfl,ho0,hb⟩;have n0_ := As_ (Kd.R_elder' (by (with_reducible repeat (first|apply Kd.R_alloc|apply Kd.R_drewN|apply Kd.R_drew));exact (Kd.R_mono (Kd.R_far (p := ⟨gb342,2,none⟩) (Kd.R_far (p := ⟨gb342,1,none⟩) (Kd.R_far (p := ⟨gb342,0,none⟩) (Kd.R_types HO_5.out BK342.out (by decide)) (fun _ hk => hk.2) (.int .i64 ((rd_T45 l1_0 x41_3).f0))) (fun _ hk => hk.2) (.int .i64 ((rd_T45 l1_0 x41_3).f1))) (fun _ hk => hk.2) (.slice A341_2 ((rd_T45 l1_0 x41_3).f2).length c341_2)) (fun _ h_ => h_.1))) (Kd.R_base ho0) hb);have n1_ := As_ (Kd.N_elder' (by (with_reducible repeat (first|apply Kd.N_alloc|apply Kd.N_drewN|apply Kd.N_drew));exact (Kd.N_mono (Kd.N_far (p := ⟨gb342,2,none⟩) (Kd.N_far (p := ⟨gb342,1,none⟩) (Kd.N_far (p := ⟨gb342,0,none⟩) (Kd.N_mono HO_7.out (fun k_ hk => (⟨hk,hk.2⟩ : _ ∧ k_ ≠ gb342))) (fun _ hk => hk.2) (.int .i64 ((rd_T45 l1_0 x41_3).f0))) (fun _ hk => hk.2) (.int .i64 ((rd_T45 l1_0 x41_3).f1))) (fun _ hk => hk.2) (.slice A341_2 ((rd_T45 l1_0 x41_3).f2).length c341_2)) (fun _ h_ => h_.1))) (Kd.R_base ho0) hb);have n2_ := As_ (Kd.R_lower (Kd.R_new' ho0 (Kd.R_lt (by (with_reducible repeat (first|apply Kd.R_alloc|apply Kd.R_drewN|apply Kd.R_drew));exact (Kd.R_mono (Kd.R_far (p := ⟨gb342,2,none⟩) (Kd.R_far (p := ⟨gb342,1,none⟩) (Kd.R_far (p := ⟨gb342,0,none⟩) (Kd.R_types HO_5.out BK342.out (by decide)) (fun _ hk => hk.2) (.int .i64 ((rd_T45 l1_0 x41_3).f0))) (fun _ hk => hk.2) (.int .i64 ((rd_T45 l1_0 x41_3).f1))) (fun _ hk => hk.2) (.slice A341_2 ((rd_T45 l1_0 x41_3).f2).length c341_2)) (fun _ h_ => h_.1))))) (bwZ (zb3 HB.out GE328.out GE329.out GE342.out)));have n3_ := As_ (blk_below (g := gb328) (o := .cells #[.slice A0_0 l0_0.length c0_0,.int .i64 a0_1] 29 (0,0)) (by (with_reducible repeat (first|refine bkN ?_ _|refine bkD ?_|refine bkA ?_ _));refine blk_far ?_ NB328_342.out _;(with_reducible repeat (first|refine bkN ?_ _|refine bkD ?_|refine bkA ?_ _));refine blk_far ?_ NB328_342.out _;(with_reducible repeat (first|refine bkN ?_ _|refine bkD ?_|refine bkA ?_ _));refine blk_far ?_ NB328_342.out _;(with_reducible repeat (first|refine bkN ?_ _|refine bkD ?_|refine bkA ?_ _));exact BK328.out) hb);have n4_ := As_ (blk_below (g := gb329) (o := .cells #[.slice (some ad341) l1_0.length c1_0,.int .i64 a1_1] 29 (0,0)) (by (with_reducible repeat (first|refine bkN ?_ _|refine bkD ?_|refine bkA ?_ _));refine blk_far ?_ NB329_342.out _;(with_reducible repeat (first|refine bkN ?_ _|refine bkD ?_|refine bkA ?_ _));refine blk_far ?_ NB329_342.out _;(with_reducible repeat (first|refine bkN ?_ _|refine bkD ?_|refine bkA ?_ _));refine blk_far ?_ NB329_342.out _;(with_reducible repeat (first|refine bkN ?_ _|refine bkD ?_|refine bkA ?_ _));exact BK329.out) hb);have n5_ := As_ (blk_below (g := gb342) (o := .cells #[.int .i64 ((rd_T45 l1_0 x41_3).f0),.int .i64 ((rd_T45 l1_0 x41_3).f1),.slice A341_2 ((rd_T45 l1_0 x41_3).f2).length c341_2] 45 (0,0)) (by (with_reducible repeat (first|refine bkN ?_ _|refine bkD ?_|refine bkA ?_ _));refine blk_put (cs := #[.int .i64 ((rd_T45 l1_0 x41_3).f0),.int .i64 ((rd_T45 l1_0 x41_3).f1),.slice none 0 0]) ?_ 2 _ rfl;(with_reducible repeat (first|refine bkN ?_ _|refine bkD ?_|refine bkA ?_ _));refine blk_put (cs := #[.int .i64 ((rd_T45 l1_0 x41_3).f0),.int .i64 0,.slice none 0 0]) ?_ 1 _ rfl;(with_reducible repeat (first|refine bkN ?_ _|refine bkD ?_|refine bkA ?_ _));refine blk_put (cs := #[.int .i64 0,.int .i64 0,.slice none 0 0]) ?_ 0 _ rfl;(with_reducible repeat (first|refine bkN ?_ _|refine bkD ?_|refine bkA ?_ _));exact BK342.out) hb);have n6_ := As_ (bwT (zb3 HB.out GE328.out GE329.out GE342.out) hb);clear HO_5;clear HO_7;clear BK328;clear BK329;clear BK342;clear HB;have HO_5 := n0_;have HO_7 := n1_;have HO347 := n2_;have BK328 := n3_;have BK329 := n4_;have BK342 := n5_;have HB := n6_;clear n0_ n1_ n2_ n3_ n4_ n5_ n6_;(try clear hb);(try clear hb2);(try clear hk);(try clear hi);(try clear ho0);obtain ⟨Ao44,co44,eo44⟩ := Kd.R_slice HO347.out;subst eo44)|((with_reducible refine gate_builtin (b := .append) (xs := #[.tmp 45,.tmp 49]) rfl ?_);at_builtin;refine Kd.N_append k45 (w0 := w) w.heap.size rfl (.tmp 45) (.tmp 49) 27 45 (.agg #[(.int .i64 0),(.int .i64 0),(.slice none 0 0)]) 40 rfl Try.underlying27 info45 rfl (by decide) (by omega) u7 x7_3 (⟨t343,t344,t345⟩ : S45) [.int .i64 t343,.int .i64 t344,.slice Ao44 t345.length co44] (fun k_ => some k_ ≠ (.slice Ao41 x5_2.length co41 : Value).ownBlock ∧ k_ ≠ gb328 ∧ k_ ≠ gb329 ∧ k_ ≠ gb342) (fun k_ => ((fun k_ => some k_ ≠ (.slice Ao41 x5_2.length co41 : Value).ownBlock ∧ k_ ≠ gb328 ∧ k_ ≠ gb329 ∧ k_ ≠ gb342)) k_ ∧ some k_ ≠ (u7 : Value).ownBlock) rfl rfl ?aP (fun _ hk => hk) ?aF ?aO ?aB ?aS ?aL ?_;(case aP => exact (k45_mkF _ _ (⟨t343,t344,t345⟩ : S45) (Kd.R_reads' (Kd.R_mono (ok' := (fun k_ => ((fun k_ => some k_ ≠ (.slice Ao41 x5_2.length co41 : Value).ownBlock ∧ k_ ≠ gb328 ∧ k_ ≠ gb329 ∧ k_ ≠ gb342)) k_ ∧ some k_ ≠ (u7 : Value).ownBlock)) (Kd.R_types (Kd.R_types (Kd.R_types (Kd.R_apart' (HO347.out) (Kd.N_typed HO_7.out) (by decide)) BK328.out (by decide)) BK329.out (by decide)) BK342.out (by decide)) (fun k_ hk => ⟨⟨hk.1.1.1.1.2,⟨hk.1.1.2,⟨hk.1.2,hk.2⟩⟩⟩,hk.1.1.1.2⟩))).2.1 (Kd.R_F (Kd.R_mono (ok' := (fun k_ => ((fun k_ => some k_ ≠ (.slice Ao41 x5_2.length co41 : Value).ownBlock ∧ k_ ≠ gb328 ∧ k_ ≠ gb329 ∧ k_ ≠ gb342)) k_ ∧ some k_ ≠ (u7 : Value).ownBlock)) (Kd.R_types (Kd.R_types (Kd.R_types (Kd.R_apart' (HO347.out) (Kd.N_typed HO_7.out) (by decide)) BK328.out (by decide)) BK329.out (by decide)) BK342.out (by decide)) (fun k_ hk => ⟨⟨hk.1.1.1.1.2,⟨hk.1.1.2,⟨hk.1.2,hk.2⟩⟩⟩,hk.1.1.1.2⟩)))));(case aB => exact (zb3 HB.out GE328.out GE329.out GE342.out));(case aF => exact (fun k_ hk => ⟨Kd.fresh' (Kd.R_lt (zR_ HO_5.out)) k_ hk,Kd.freshB (g := gb328) (o := .cells #[.slice A0_0 l0_0.length c0_0,.int .i64 a0_1] 29 (0,0)) (zk_ BK328.out) k_ hk,Kd.freshB (g := gb329) (o := .cells #[.slice (some ad341) l1_0.length c1_0,.int .i64 a1_1] 29 (0,0)) (zk_ BK329.out) k_ hk,Kd.freshB (g := gb342) (o := .cells #[.int .i64 ((rd_T45 l1_0 x41_3).f0),.int .i64 ((rd_T45 l1_0 x41_3).f1),.slice A341_2 ((rd_T45 l1_0 x41_3).f2).length c341_2] 45 (0,0)) (zk_ BK342.out) k_ hk⟩));(case aO => exact (by (with_reducible repeat (first|apply Kd.N_alloc|apply Kd.N_drewN|apply Kd.N_drew));exact Kd.N_mono HO_7.out (fun _ hk => ⟨hk.1.1.1,⟨hk.1.1.2.1,⟨hk.1.1.2.2,hk.1.2⟩⟩⟩)));(case aS => exact (bwZ (zb3 HB.out GE328.out GE329.out GE342.out)));(case aL => have := LMc36.out;omega);intro v349 w43 ho hb hg hat;rw [← Ny348.out] at ho;have n0_ := As_ (Kd.R_over' (zR_ HO_5.out) (Kd.N_typed (zN_ HO_7.out)) (by decide) hg);have n1_ := As_ (blk_grown (g := gb328) (o := .cells #[.slice A0_0 l0_0.length c0_0,.int .i64 a0_1] 29 (0,0)) (zk_ BK328.out) hg (Kd.N_ne HO_7.out BK328.out (by decide)));have n2_ := As_ (blk_grown (g := gb329) (o := .cells #[.slice (some ad341) l1_0.length c1_0,.int .i64 a1_1] 29 (0,0)) (zk_ BK329.out) hg (Kd.N_ne HO_7.out BK329.out (by decide)));have n3_ := As_ (blk_grown (g := gb342) (o := .cells #[.int .i64 ((rd_T45 l1_0 x41_3).f0),.int .i64 ((rd_T45 l1_0 x41_3).f1),.slice A341_2 ((rd_T45 l1_0 x41_3).f2).length c341_2] 45 (0,0)) (zk_ BK342.out) hg (Kd.N_away HO_7.out (fun _ hk => hk.1.2)));have n4_ := As_ (hb);have n5_ := As_ (ho);clear HO_5;clear BK328;clear BK329;clear BK342;clear HB;clear HO_7;clear HO347;have HO_5 := n0_;have BK328 := n1_;have BK329 := n2_;have BK342 := n3_;have HB := n4_;have HO350 := n5_;clear n0_ n1_ n2_ n3_ n4_ n5_;clear ho hb hg hat))
          repeat (go_quiet (first|((with_reducible refine gate_dst (N := 9) rfl ?_);refine box_event ?hg (N := 9) ?hd (cs := #[.int .i64 0,.int .i64 0,.slice none 0 0]) (t := 45) ?hr ?_;(case hd => rfl);(case hg => rfl);(case hr => go_simp <;> rfl);intro gb342 hg w37 hbox hb;have n0_ := As_ (Kd.R_below (zR_ HO_5.out) hb);have n1_ := As_ (Kd.N_below (Kd.N_elderB (zN_ HO_7.out) gb342 (Nat.le_of_eq hg.symm)) hb);have n2_ := As_ (zkb BK328.out hb);have n3_ := As_ (zkb BK329.out hb);have n4_ := As_ (bwT (zb2 HB.out GE328.out GE329.out) hb);have n5_ := As_ (hbox);have n6_ := As_ ((by rw [hg];exact (bwZ (zb2 HB.out GE328.out GE329.out)) : w.heap.size ≤ gb342));have n7_ := As_ ((by rw [hg];exact (bwZ (zb2 HB.out GE328.out GE329.out)) : w.heap.size ≤ gb342));have n8_ := As_ ((by rw [hg];exact Nat.ne_of_lt (zkl BK328.out) : gb328 ≠ gb342));have n9_ := As_ ((by rw [hg];exact Nat.ne_of_gt (zkl BK328.out) : gb342 ≠ gb328));have n10_ := As_ ((by rw [hg];exact Nat.ne_of_lt (zkl BK329.out) : gb329 ≠ gb342));have n11_ := As_ ((by rw [hg];exact Nat.ne_of_gt (zkl BK329.out) : gb342 ≠ gb329));clear HO_5;clear HO_7;clear BK328;clear BK329;clear HB;have HO_5 := n0_;have HO_7 := n1_;have BK328 := n2_;have BK329 := n3_;have HB := n4_;have BK342 := n5_;have GW342 := n6_;have GE342 := n7_;have NB328_342 := n8_;have NB342_328 := n9_;have NB329_342 := n10_;have NB342_329 := n11_;clear n0_ n1_ n2_ n3_ n4_ n5_ n6_ n7_ n8_ n9_ n10_ n11_;clear hb hbox hg;have hnb38 := NB342_328.out;have hnc38 := NB328_342.out;have hnb39 := NB342_329.out;have hnc39 := NB329_342.out;have hcz40_0 : w37.cell? ⟨gb342,0,none⟩ = some (.int .i64 0) := (bkC BK342.out 0).trans rfl;have hcz40_1 : w37.cell? ⟨gb342,1,none⟩ = some (.int .i64 0) := (bkC BK342.out 1).trans rfl;have hcz40_2 : w37.cell? ⟨gb342,2,none⟩ = some (.slice none 0 0) := (bkC BK342.out 2).trans rfl;have hfz40_0 := bkF BK342.out 0;have hfz40_1 := bkF BK342.out 1;have hfz40_2 := bkF BK342.out 2;obtain ⟨Ao41,co41,eo41⟩ := Kd.R_slice HO_5.out;subst eo41)|(go_at_call 53;(with_reducible refine (impl_mapped.calls k3 ((rd_T45 l1_0 x41_3).f0) ((rd_T45 l1_0 x41_3).f1) _ _ ((rd_T45 l1_0 x41_3).f2) _ _ x5_2 t343 t344 t345 _ ?side1 ?side2 ?side3 ?side4 A35.out).mono ?_);(case side1 => exact Kd.C_below HR341_2.out (zb3 HB.out GE328.out GE329.out GE342.out));(case side2 => exact HC341_2.out);(case side3 => refine (Kd.R_reads' (e := 3) (base := w.heap.size) (ok := fun k_ => True) (n := x5_2.length) (c := co41) ?_).2.2;exact (by (with_reducible repeat (first|apply Kd.R_alloc|apply Kd.R_drewN|apply Kd.R_drew));exact (Kd.R_mono (Kd.R_far (p := ⟨gb342,2,none⟩) (Kd.R_far (p := ⟨gb342,1,none⟩) (Kd.R_far (p := ⟨gb342,0,none⟩) (Kd.R_types HO_5.out BK342.out (by decide)) (fun _ hk => hk.2) (.int .i64 ((rd_T45 l1_0 x41_3).f0))) (fun _ hk => hk.2) (.int .i64 ((rd_T45 l1_0 x41_3).f1))) (fun _ hk => hk.2) (.slice A341_2 ((rd_T45 l1_0 x41_3).f2).length c341_2)) (fun _ h_ => h_.1))));(case side4 => exact (Kd.R_reads' HO_5.out).2.1);rintro e w42 ⟨v346,rfl,ho0,hb⟩;have n0_ := As_ (Kd.R_elder' (by (with_reducible repeat (first|apply Kd.R_alloc|apply Kd.R_drewN|apply Kd.R_drew));exact (Kd.R_mono (Kd.R_far (p := ⟨gb342,2,none⟩) (Kd.R_far (p := ⟨gb342,1,none⟩) (Kd.R_far (p := ⟨gb342,0,none⟩) (Kd.R_types HO_5.out BK342.out (by decide)) (fun _ hk => hk.2) (.int .i64 ((rd_T45 l1_0 x41_3).f0))) (fun _ hk => hk.2) (.int .i64 ((rd_T45 l1_0 x41_3).f1))) (fun _ hk => hk.2) (.slice A341_2 ((rd_T45 l1_0 x41_3).f2).length c341_2)) (fun _ h_ => h_.1))) (Kd.R_base ho0) hb);have n1_ := As_ (Kd.N_elder' (by (with_reducible repeat (first|apply Kd.N_alloc|apply Kd.N_drewN|apply Kd.N_drew));exact (Kd.N_mono (Kd.N_far (p := ⟨gb342,2,none⟩) (Kd.N_far (p := ⟨gb342,1,none⟩) (Kd.N_far (p := ⟨gb342,0,none⟩) (Kd.N_mono HO_7.out (fun k_ hk => (⟨hk,hk.2⟩ : _ ∧ k_ ≠ gb342))) (fun _ hk => hk.2) (.int .i64 ((rd_T45 l1_0 x41_3).f0))) (fun _ hk => hk.2) (.int .i64 ((rd_T45 l1_0 x41_3).f1))) (fun _ hk => hk.2) (.slice A341_2 ((rd_T45 l1_0 x41_3).f2).length c341_2)) (fun _ h_ => h_.1))) (Kd.R_base ho0) hb);have n2_ := As_ (Kd.R_lower (Kd.R_new' ho0 (Kd.R_lt (by (with_reducible repeat (first|apply Kd.R_alloc|apply Kd.R_drewN|apply Kd.R_drew));exact (Kd.R_mono (Kd.R_far (p := ⟨gb342,2,none⟩) (Kd.R_far (p := ⟨gb342,1,none⟩) (Kd.R_far (p := ⟨gb342,0,none⟩) (Kd.R_types HO_5.out BK342.out (by decide)) (fun _ hk => hk.2) (.int .i64 ((rd_T45 l1_0 x41_3).f0))) (fun _ hk => hk.2) (.int .i64 ((rd_T45 l1_0 x41_3).f1))) (fun _ hk => hk.2) (.slice A341_2 ((rd_T45 l1_0 x41_3).f2).length c341_2)) (fun _ h_ => h_.1))))) (bwZ (zb3 HB.out GE328.out GE329.out GE342.out)));have n3_ := As_ (blk_below (g := gb328) (o := .cells #[.slice A0_0 l0_0.length c0_0,.int .i64 a0_1] 29 (0,0)) (by (with_reducible repeat (first|refine bkN ?_ _|refine bkD ?_|refine bkA ?_ _));refine blk_far ?_ NB328_342.out _;(with_reducible repeat (first|refine bkN ?_ _|refine bkD ?_|refine bkA ?_ _));refine blk_far ?_ NB328_342.out _;(with_reducible repeat (first|refine bkN ?_ _|refine bkD ?_|refine bkA ?_ _));refine blk_far ?_ NB328_342.out _;(with_reducible repeat (first|refine bkN ?_ _|refine bkD ?_|refine bkA ?_ _));exact BK328.out) hb);have n4_ := As_ (blk_below (g := gb329) (o := .cells #[.slice (some ad341) l1_0.length c1_0,.int .i64 a1_1] 29 (0,0)) (by (with_reducible repeat (first|refine bkN ?_ _|refine bkD ?_|refine bkA ?_ _));refine blk_far ?_ NB329_342.out _;(with_reducible repeat (first|refine bkN ?_ _|refine bkD ?_|refine bkA ?_ _));refine blk_far ?_ NB329_342.out _;(with_reducible repeat (first|refine bkN ?_ _|refine bkD ?_|refine bkA ?_ _));refine blk_far ?_ NB329_342.out _;(with_reducible repeat (first|refine bkN ?_ _|refine bkD ?_|refine bkA ?_ _));exact BK329.out) hb);have n5_ := As_ (blk_below (g := gb342) (o := .cells #[.int .i64 ((rd_T45 l1_0 x41_3).f0),.int .i64 ((rd_T45 l1_0 x41_3).f1),.slice A341_2 ((rd_T45 l1_0 x41_3).f2).length c341_2] 45 (0,0)) (by (with_reducible repeat (first|refine bkN ?_ _|refine bkD ?_|refine bkA ?_ _));refine blk_put (cs := #[.int .i64 ((rd_T45 l1_0 x41_3).f0),.int .i64 ((rd_T45 l1_0 x41_3).f1),.slice none 0 0]) ?_ 2 _ rfl;(with_reducible repeat (first|refine bkN ?_ _|refine bkD ?_|refine bkA ?_ _));refine blk_put (cs := #[.int .i64 ((rd_T45 l1_0 x41_3).f0),.int .i64 0,.slice none 0 0]) ?_ 1 _ rfl;(with_reducible repeat (first|refine bkN ?_ _|refine bkD ?_|refine bkA ?_ _));refine blk_put (cs := #[.int .i64 0,.int .i64 0,.slice none 0 0]) ?_ 0 _ rfl;(with_reducible repeat (first|refine bkN ?_ _|refine bkD ?_|refine bkA ?_ _));exact BK342.out) hb);have n6_ := As_ (bwT (zb3 HB.out GE328.out GE329.out GE342.out) hb);clear HO_5;clear HO_7;clear BK328;clear BK329;clear BK342;clear HB;have HO_5 := n0_;have HO_7 := n1_;have HO347 := n2_;have BK328 := n3_;have BK329 := n4_;have BK342 := n5_;have HB := n6_;clear n0_ n1_ n2_ n3_ n4_ n5_ n6_;(try clear hb);(try clear hb2);(try clear hk);(try clear hi);(try clear ho0);obtain ⟨Ao44,co44,eo44⟩ := Kd.R_slice HO347.out;subst eo44)|((with_reducible refine gate_builtin (b := .append) (xs := #[.tmp 45,.tmp 49]) rfl ?_);at_builtin;refine Kd.N_append k45 (w0 := w) w.heap.size rfl (.tmp 45) (.tmp 49) 27 45 (.agg #[(.int .i64 0),(.int .i64 0),(.slice none 0 0)]) 40 rfl Try.underlying27 info45 rfl (by decide) (by omega) u7 x7_3 (⟨t343,t344,t345⟩ : S45) [.int .i64 t343,.int .i64 t344,.slice Ao44 t345.length co44] (fun k_ => some k_ ≠ (.slice Ao41 x5_2.length co41 : Value).ownBlock ∧ k_ ≠ gb328 ∧ k_ ≠ gb329 ∧ k_ ≠ gb342) (fun k_ => ((fun k_ => some k_ ≠ (.slice Ao41 x5_2.length co41 : Value).ownBlock ∧ k_ ≠ gb328 ∧ k_ ≠ gb329 ∧ k_ ≠ gb342)) k_ ∧ some k_ ≠ (u7 : Value).ownBlock) rfl rfl ?aP (fun _ hk => hk) ?aF ?aO ?aB ?aS ?aL ?_;(case aP => exact (k45_mkF _ _ (⟨t343,t344,t345⟩ : S45) (Kd.R_reads' (Kd.R_mono (ok' := (fun k_ => ((fun k_ => some k_ ≠ (.slice Ao41 x5_2.length co41 : Value).ownBlock ∧ k_ ≠ gb328 ∧ k_ ≠ gb329 ∧ k_ ≠ gb342)) k_ ∧ some k_ ≠ (u7 : Value).ownBlock)) (Kd.R_types (Kd.R_types (Kd.R_types (Kd.R_apart' (HO347.out) (Kd.N_typed HO_7.out) (by decide)) BK328.out (by decide)) BK329.out (by decide)) BK342.out (by decide)) (fun k_ hk => ⟨⟨hk.1.1.1.1.2,⟨hk.1.1.2,⟨hk.1.2,hk.2⟩⟩⟩,hk.1.1.1.2⟩))).2.1 (Kd.R_F (Kd.R_mono (ok' := (fun k_ => ((fun k_ => some k_ ≠ (.slice Ao41 x5_2.length co41 : Value).ownBlock ∧ k_ ≠ gb328 ∧ k_ ≠ gb329 ∧ k_ ≠ gb342)) k_ ∧ some k_ ≠ (u7 : Value).ownBlock)) (Kd.R_types (Kd.R_types (Kd.R_types (Kd.R_apart' (HO347.out) (Kd.N_typed HO_7.out) (by decide)) BK328.out (by decide)) BK329.out (by decide)) BK342.out (by decide)) (fun k_ hk => ⟨⟨hk.1.1.1.1.2,⟨hk.1.1.2,⟨hk.1.2,hk.2⟩⟩⟩,hk.1.1.1.2⟩)))));(case aB => exact (zb3 HB.out GE328.out GE329.out GE342.out));(case aF => exact (fun k_ hk => ⟨Kd.fresh' (Kd.R_lt (zR_ HO_5.out)) k_ hk,Kd.freshB (g := gb328) (o := .cells #[.slice A0_0 l0_0.length c0_0,.int .i64 a0_1] 29 (0,0)) (zk_ BK328.out) k_ hk,Kd.freshB (g := gb329) (o := .cells #[.slice (some ad341) l1_0.length c1_0,.int .i64 a1_1] 29 (0,0)) (zk_ BK329.out) k_ hk,Kd.freshB (g := gb342) (o := .cells #[.int .i64 ((rd_T45 l1_0 x41_3).f0),.int .i64 ((rd_T45 l1_0 x41_3).f1),.slice A341_2 ((rd_T45 l1_0 x41_3).f2).length c341_2] 45 (0,0)) (zk_ BK342.out) k_ hk⟩));(case aO => exact (by (with_reducible repeat (first|apply Kd.N_alloc|apply Kd.N_drewN|apply Kd.N_drew));exact Kd.N_mono HO_7.out (fun _ hk => ⟨hk.1.1.1,⟨hk.1.1.2.1,⟨hk.1.1.2.2,hk.1.2⟩⟩⟩)));(case aS => exact (bwZ (zb3 HB.out GE328.out GE329.out GE342.out)));(case aL => have := LMc36.out;omega);intro v349 w43 ho hb hg hat;rw [← Ny348.out] at ho;have n0_ := As_ (Kd.R_over' (zR_ HO_5.out) (Kd.N_typed (zN_ HO_7.out)) (by decide) hg);have n1_ := As_ (blk_grown (g := gb328) (o := .cells #[.slice A0_0 l0_0.length c0_0,.int .i64 a0_1] 29 (0,0)) (zk_ BK328.out) hg (Kd.N_ne HO_7.out BK328.out (by decide)));have n2_ := As_ (blk_grown (g := gb329) (o := .cells #[.slice (some ad341) l1_0.length c1_0,.int .i64 a1_1] 29 (0,0)) (zk_ BK329.out) hg (Kd.N_ne HO_7.out BK329.out (by decide)));have n3_ := As_ (blk_grown (g := gb342) (o := .cells #[.int .i64 ((rd_T45 l1_0 x41_3).f0),.int .i64 ((rd_T45 l1_0 x41_3).f1),.slice A341_2 ((rd_T45 l1_0 x41_3).f2).length c341_2] 45 (0,0)) (zk_ BK342.out) hg (Kd.N_away HO_7.out (fun _ hk => hk.1.2)));have n4_ := As_ (hb);have n5_ := As_ (ho);clear HO_5;clear BK328;clear BK329;clear BK342;clear HB;clear HO_7;clear HO347;have HO_5 := n0_;have BK328 := n1_;have BK329 := n2_;have BK342 := n3_;have HB := n4_;have HO350 := n5_;clear n0_ n1_ n2_ n3_ n4_ n5_;clear ho hb hg hat));try go_wp2_with (first|((with_reducible refine gate_dst (N := 9) rfl ?_);refine box_event ?hg (N := 9) ?hd (cs := #[.int .i64 0,.int .i64 0,.slice none 0 0]) (t := 45) ?hr ?_;(case hd => rfl);(case hg => rfl);(case hr => go_simp <;> rfl);intro gb342 hg w37 hbox hb;have n0_ := As_ (Kd.R_below (zR_ HO_5.out) hb);have n1_ := As_ (Kd.N_below (Kd.N_elderB (zN_ HO_7.out) gb342 (Nat.le_of_eq hg.symm)) hb);have n2_ := As_ (zkb BK328.out hb);have n3_ := As_ (zkb BK329.out hb);have n4_ := As_ (bwT (zb2 HB.out GE328.out GE329.out) hb);have n5_ := As_ (hbox);have n6_ := As_ ((by rw [hg];exact (bwZ (zb2 HB.out GE328.out GE329.out)) : w.heap.size ≤ gb342));have n7_ := As_ ((by rw [hg];exact (bwZ (zb2 HB.out GE328.out GE329.out)) : w.heap.size ≤ gb342));have n8_ := As_ ((by rw [hg];exact Nat.ne_of_lt (zkl BK328.out) : gb328 ≠ gb342));have n9_ := As_ ((by rw [hg];exact Nat.ne_of_gt (zkl BK328.out) : gb342 ≠ gb328));have n10_ := As_ ((by rw [hg];exact Nat.ne_of_lt (zkl BK329.out) : gb329 ≠ gb342));have n11_ := As_ ((by rw [hg];exact Nat.ne_of_gt (zkl BK329.out) : gb342 ≠ gb329));clear HO_5;clear HO_7;clear BK328;clear BK329;clear HB;have HO_5 := n0_;have HO_7 := n1_;have BK328 := n2_;have BK329 := n3_;have HB := n4_;have BK342 := n5_;have GW342 := n6_;have GE342 := n7_;have NB328_342 := n8_;have NB342_328 := n9_;have NB329_342 := n10_;have NB342_329 := n11_;clear n0_ n1_ n2_ n3_ n4_ n5_ n6_ n7_ n8_ n9_ n10_ n11_;clear hb hbox hg;have hnb38 := NB342_328.out;have hnc38 := NB328_342.out;have hnb39 := NB342_329.out;have hnc39 := NB329_342.out;have hcz40_0 : w37.cell? ⟨gb342,0,none⟩ = some (.int .i64 0) := (bkC BK342.out 0).trans rfl;have hcz40_1 : w37.cell? ⟨gb342,1,none⟩ = some (.int .i64 0) := (bkC BK342.out 1).trans rfl;have hcz40_2 : w37.cell? ⟨gb342,2,none⟩ = some (.slice none 0 0) := (bkC BK342.out 2).trans rfl;have hfz40_0 := bkF BK342.out 0;have hfz40_1 := bkF BK342.out 1;have hfz40_2 := bkF BK342.out 2;obtain ⟨Ao41,co41,eo41⟩ := Kd.R_slice HO_5.out;subst eo41)|(go_at_call 53;(with_reducible refine (impl_mapped.calls k3 ((rd_T45 l1_0 x41_3).f0) ((rd_T45 l1_0 x41_3).f1) _ _ ((rd_T45 l1_0 x41_3).f2) _ _ x5_2 t343 t344 t345 _ ?side1 ?side2 ?side3 ?side4 A35.out).mono ?_);(case side1 => exact Kd.C_below HR341_2.out (zb3 HB.out GE328.out GE329.out GE342.out));(case side2 => exact HC341_2.out);(case side3 => refine (Kd.R_reads' (e := 3) (base := w.heap.size) (ok := fun k_ => True) (n := x5_2.length) (c := co41) ?_).2.2;exact (by (with_reducible repeat (first|apply Kd.R_alloc|apply Kd.R_drewN|apply Kd.R_drew));exact (Kd.R_mono (Kd.R_far (p := ⟨gb342,2,none⟩) (Kd.R_far (p := ⟨gb342,1,none⟩) (Kd.R_far (p := ⟨gb342,0,none⟩) (Kd.R_types HO_5.out BK342.out (by decide)) (fun _ hk => hk.2) (.int .i64 ((rd_T45 l1_0 x41_3).f0))) (fun _ hk => hk.2) (.int .i64 ((rd_T45 l1_0 x41_3).f1))) (fun _ hk => hk.2) (.slice A341_2 ((rd_T45 l1_0 x41_3).f2).length c341_2)) (fun _ h_ => h_.1))));(case side4 => exact (Kd.R_reads' HO_5.out).2.1);rintro e w42 ⟨v346,rfl,ho0,hb⟩;have n0_ := As_ (Kd.R_elder' (by (with_reducible repeat (first|apply Kd.R_alloc|apply Kd.R_drewN|apply Kd.R_drew));exact (Kd.R_mono (Kd.R_far (p := ⟨gb342,2,none⟩) (Kd.R_far (p := ⟨gb342,1,none⟩) (Kd.R_far (p := ⟨gb342,0,none⟩) (Kd.R_types HO_5.out BK342.out (by decide)) (fun _ hk => hk.2) (.int .i64 ((rd_T45 l1_0 x41_3).f0))) (fun _ hk => hk.2) (.int .i64 ((rd_T45 l1_0 x41_3).f1))) (fun _ hk => hk.2) (.slice A341_2 ((rd_T45 l1_0 x41_3).f2).length c341_2)) (fun _ h_ => h_.1))) (Kd.R_base ho0) hb);have n1_ := As_ (Kd.N_elder' (by (with_reducible repeat (first|apply Kd.N_alloc|apply Kd.N_drewN|apply Kd.N_drew));exact (Kd.N_mono (Kd.N_far (p := ⟨gb342,2,none⟩) (Kd.N_far (p := ⟨gb342,1,none⟩) (Kd.N_far (p := ⟨gb342,0,none⟩) (Kd.N_mono HO_7.out (fun k_ hk => (⟨hk,hk.2⟩ : _ ∧ k_ ≠ gb342))) (fun _ hk => hk.2) (.int .i64 ((rd_T45 l1_0 x41_3).f0))) (fun _ hk => hk.2) (.int .i64 ((rd_T45 l1_0 x41_3).f1))) (fun _ hk => hk.2) (.slice A341_2 ((rd_T45 l1_0 x41_3).f2).length c341_2)) (fun _ h_ => h_.1))) (Kd.R_base ho0) hb);have n2_ := As_ (Kd.R_lower (Kd.R_new' ho0 (Kd.R_lt (by (with_reducible repeat (first|apply Kd.R_alloc|apply Kd.R_drewN|apply Kd.R_drew));exact (Kd.R_mono (Kd.R_far (p := ⟨gb342,2,none⟩) (Kd.R_far (p := ⟨gb342,1,none⟩) (Kd.R_far (p := ⟨gb342,0,none⟩) (Kd.R_types HO_5.out BK342.out (by decide)) (fun _ hk => hk.2) (.int .i64 ((rd_T45 l1_0 x41_3).f0))) (fun _ hk => hk.2) (.int .i64 ((rd_T45 l1_0 x41_3).f1))) (fun _ hk => hk.2) (.slice A341_2 ((rd_T45 l1_0 x41_3).f2).length c341_2)) (fun _ h_ => h_.1))))) (bwZ (zb3 HB.out GE328.out GE329.out GE342.out)));have n3_ := As_ (blk_below (g := gb328) (o := .cells #[.slice A0_0 l0_0.length c0_0,.int .i64 a0_1] 29 (0,0)) (by (with_reducible repeat (first|refine bkN ?_ _|refine bkD ?_|refine bkA ?_ _));refine blk_far ?_ NB328_342.out _;(with_reducible repeat (first|refine bkN ?_ _|refine bkD ?_|refine bkA ?_ _));refine blk_far ?_ NB328_342.out _;(with_reducible repeat (first|refine bkN ?_ _|refine bkD ?_|refine bkA ?_ _));refine blk_far ?_ NB328_342.out _;(with_reducible repeat (first|refine bkN ?_ _|refine bkD ?_|refine bkA ?_ _));exact BK328.out) hb);have n4_ := As_ (blk_below (g := gb329) (o := .cells #[.slice (some ad341) l1_0.length c1_0,.int .i64 a1_1] 29 (0,0)) (by (with_reducible repeat (first|refine bkN ?_ _|refine bkD ?_|refine bkA ?_ _));refine blk_far ?_ NB329_342.out _;(with_reducible repeat (first|refine bkN ?_ _|refine bkD ?_|refine bkA ?_ _));refine blk_far ?_ NB329_342.out _;(with_reducible repeat (first|refine bkN ?_ _|refine bkD ?_|refine bkA ?_ _));refine blk_far ?_ NB329_342.out _;(with_reducible repeat (first|refine bkN ?_ _|refine bkD ?_|refine bkA ?_ _));exact BK329.out) hb);have n5_ := As_ (blk_below (g := gb342) (o := .cells #[.int .i64 ((rd_T45 l1_0 x41_3).f0),.int .i64 ((rd_T45 l1_0 x41_3).f1),.slice A341_2 ((rd_T45 l1_0 x41_3).f2).length c341_2] 45 (0,0)) (by (with_reducible repeat (first|refine bkN ?_ _|refine bkD ?_|refine bkA ?_ _));refine blk_put (cs := #[.int .i64 ((rd_T45 l1_0 x41_3).f0),.int .i64 ((rd_T45 l1_0 x41_3).f1),.slice none 0 0]) ?_ 2 _ rfl;(with_reducible repeat (first|refine bkN ?_ _|refine bkD ?_|refine bkA ?_ _));refine blk_put (cs := #[.int .i64 ((rd_T45 l1_0 x41_3).f0),.int .i64 0,.slice none 0 0]) ?_ 1 _ rfl;(with_reducible repeat (first|refine bkN ?_ _|refine bkD ?_|refine bkA ?_ _));refine blk_put (cs := #[.int .i64 0,.int .i64 0,.slice none 0 0]) ?_ 0 _ rfl;(with_reducible repeat (first|refine bkN ?_ _|refine bkD ?_|refine bkA ?_ _));exact BK342.out) hb);have n6_ := As_ (bwT (zb3 HB.out GE328.out GE329.out GE342.out) hb);clear HO_5;clear HO_7;clear BK328;clear BK329;clear BK342;clear HB;have HO_5 := n0_;have HO_7 := n1_;have HO347 := n2_;have BK328 := n3_;have BK329 := n4_;have BK342 := n5_;have HB := n6_;clear n0_ n1_ n2_ n3_ n4_ n5_ n6_;(try clear hb);(try clear hb2);(try clear hk);(try clear hi);(try clear ho0);obtain ⟨Ao44,co44,eo44⟩ := Kd.R_slice HO347.out;subst eo44)|((with_reducible refine gate_builtin (b := .append) (xs := #[.tmp 45,.tmp 49]) rfl ?_);at_builtin;refine Kd.N_append k45 (w0 := w) w.heap.size rfl (.tmp 45) (.tmp 49) 27 45 (.agg #[(.int .i64 0),(.int .i64 0),(.slice none 0 0)]) 40 rfl Try.underlying27 info45 rfl (by decide) (by omega) u7 x7_3 (⟨t343,t344,t345⟩ : S45) [.int .i64 t343,.int .i64 t344,.slice Ao44 t345.length co44] (fun k_ => some k_ ≠ (.slice Ao41 x5_2.length co41 : Value).ownBlock ∧ k_ ≠ gb328 ∧ k_ ≠ gb329 ∧ k_ ≠ gb342) (fun k_ => ((fun k_ => some k_ ≠ (.slice Ao41 x5_2.length co41 : Value).ownBlock ∧ k_ ≠ gb328 ∧ k_ ≠ gb329 ∧ k_ ≠ gb342)) k_ ∧ some k_ ≠ (u7 : Value).ownBlock) rfl rfl ?aP (fun _ hk => hk) ?aF ?aO ?aB ?aS ?aL ?_;(case aP => exact (k45_mkF _ _ (⟨t343,t344,t345⟩ : S45) (Kd.R_reads' (Kd.R_mono (ok' := (fun k_ => ((fun k_ => some k_ ≠ (.slice Ao41 x5_2.length co41 : Value).ownBlock ∧ k_ ≠ gb328 ∧ k_ ≠ gb329 ∧ k_ ≠ gb342)) k_ ∧ some k_ ≠ (u7 : Value).ownBlock)) (Kd.R_types (Kd.R_types (Kd.R_types (Kd.R_apart' (HO347.out) (Kd.N_typed HO_7.out) (by decide)) BK328.out (by decide)) BK329.out (by decide)) BK342.out (by decide)) (fun k_ hk => ⟨⟨hk.1.1.1.1.2,⟨hk.1.1.2,⟨hk.1.2,hk.2⟩⟩⟩,hk.1.1.1.2⟩))).2.1 (Kd.R_F (Kd.R_mono (ok' := (fun k_ => ((fun k_ => some k_ ≠ (.slice Ao41 x5_2.length co41 : Value).ownBlock ∧ k_ ≠ gb328 ∧ k_ ≠ gb329 ∧ k_ ≠ gb342)) k_ ∧ some k_ ≠ (u7 : Value).ownBlock)) (Kd.R_types (Kd.R_types (Kd.R_types (Kd.R_apart' (HO347.out) (Kd.N_typed HO_7.out) (by decide)) BK328.out (by decide)) BK329.out (by decide)) BK342.out (by decide)) (fun k_ hk => ⟨⟨hk.1.1.1.1.2,⟨hk.1.1.2,⟨hk.1.2,hk.2⟩⟩⟩,hk.1.1.1.2⟩)))));(case aB => exact (zb3 HB.out GE328.out GE329.out GE342.out));(case aF => exact (fun k_ hk => ⟨Kd.fresh' (Kd.R_lt (zR_ HO_5.out)) k_ hk,Kd.freshB (g := gb328) (o := .cells #[.slice A0_0 l0_0.length c0_0,.int .i64 a0_1] 29 (0,0)) (zk_ BK328.out) k_ hk,Kd.freshB (g := gb329) (o := .cells #[.slice (some ad341) l1_0.length c1_0,.int .i64 a1_1] 29 (0,0)) (zk_ BK329.out) k_ hk,Kd.freshB (g := gb342) (o := .cells #[.int .i64 ((rd_T45 l1_0 x41_3).f0),.int .i64 ((rd_T45 l1_0 x41_3).f1),.slice A341_2 ((rd_T45 l1_0 x41_3).f2).length c341_2] 45 (0,0)) (zk_ BK342.out) k_ hk⟩));(case aO => exact (by (with_reducible repeat (first|apply Kd.N_alloc|apply Kd.N_drewN|apply Kd.N_drew));exact Kd.N_mono HO_7.out (fun _ hk => ⟨hk.1.1.1,⟨hk.1.1.2.1,⟨hk.1.1.2.2,hk.1.2⟩⟩⟩)));(case aS => exact (bwZ (zb3 HB.out GE328.out GE329.out GE342.out)));(case aL => have := LMc36.out;omega);intro v349 w43 ho hb hg hat;rw [← Ny348.out] at ho;have n0_ := As_ (Kd.R_over' (zR_ HO_5.out) (Kd.N_typed (zN_ HO_7.out)) (by decide) hg);have n1_ := As_ (blk_grown (g := gb328) (o := .cells #[.slice A0_0 l0_0.length c0_0,.int .i64 a0_1] 29 (0,0)) (zk_ BK328.out) hg (Kd.N_ne HO_7.out BK328.out (by decide)));have n2_ := As_ (blk_grown (g := gb329) (o := .cells #[.slice (some ad341) l1_0.length c1_0,.int .i64 a1_1] 29 (0,0)) (zk_ BK329.out) hg (Kd.N_ne HO_7.out BK329.out (by decide)));have n3_ := As_ (blk_grown (g := gb342) (o := .cells #[.int .i64 ((rd_T45 l1_0 x41_3).f0),.int .i64 ((rd_T45 l1_0 x41_3).f1),.slice A341_2 ((rd_T45 l1_0 x41_3).f2).length c341_2] 45 (0,0)) (zk_ BK342.out) hg (Kd.N_away HO_7.out (fun _ hk => hk.1.2)));have n4_ := As_ (hb);have n5_ := As_ (ho);clear HO_5;clear BK328;clear BK329;clear BK342;clear HB;clear HO_7;clear HO347;have HO_5 := n0_;have BK328 := n1_;have BK329 := n2_;have BK342 := n3_;have HB := n4_;have HO350 := n5_;clear n0_ n1_ n2_ n3_ n4_ n5_;clear ho hb hg hat)))
          go_roundg k3
          case measure => have := HJ2.out;have := HK2.out;have := HK3.out;omega
          case rel => exact ⟨(y348),(wrap64 (x41_3 + 1)),zT_,H',⟨by have := HJ2.out;have := HK2.out;have := HK3.out;omega⟩,⟨by (with_reducible repeat (first|apply Kd.R_alloc|apply Kd.R_drewN|apply Kd.R_drew));exact Kd.R_mono HO_5.out (fun _ hk => trivial)⟩,⟨by (with_reducible repeat (first|apply Kd.N_alloc|apply Kd.N_drewN|apply Kd.N_drew));exact Kd.N_mono HO350.out (fun _ hk => ⟨hk.1,⟨hk.2.1,hk.2.2.1⟩⟩)⟩,⟨by (with_reducible repeat (first|refine bkN ?_ _|refine bkD ?_|refine bkA ?_ _));exact BK328.out⟩,⟨by (with_reducible repeat (first|refine bkN ?_ _|refine bkD ?_|refine bkA ?_ _));exact BK329.out⟩,⟨by repeat (first|(with_reducible first|exact HB.out|apply bwA|apply bwN|apply bwD|refine bwS ?_ GE328.out|refine bwS ?_ GE329.out|refine bwS ?_ GE342.out)|exact HB.out)⟩⟩
         ·rw [if_neg c32] at H
          have c32b0 : decide (x41_3 < (l1_0.length : Int)) = false := deF c32
          clear c32
          replace H := obS H
          obtain ⟨t351,A450,H⟩ := H
          replace H : (if 0 ≤ a0_1 then (if a0_1 < (t351.length : Int) then (if 0 ≤ (wrap64 (a1_1 + (l0_0.length : Int))) then (if (wrap64 (a1_1 + (l0_0.length : Int))) < (t351.length : Int) then (some ((rd t351 a0_1) == (rd t351 (wrap64 (a1_1 + (l0_0.length : Int)))))) else (none)) else (none)) else (none)) else (none)) = some r := H
          have A45 := As_ A450
          clear A450
          by_cases c46 : 0 ≤ a0_1
          rotate_left
          ·rw [if_neg c46] at H
           exact absurd H (by simp)
          rw [if_pos c46] at H
          have c46b0 : decide (0 ≤ a0_1) = true := deT c46
          clear c46
          by_cases c47 : a0_1 < (t351.length : Int)
          rotate_left
          ·rw [if_neg c47] at H
           exact absurd H (by simp)
          rw [if_pos c47] at H
          have c47b0 : decide (a0_1 < (t351.length : Int)) = true := deT c47
          clear c47
          obtain ⟨ji48,hji48⟩ : ∃ j_ : Int,(wrap64 (a1_1 + (l0_0.length : Int))) = j_ := ⟨_,rfl⟩
          replace H : (if 0 ≤ (ji48) then (if (ji48) < (t351.length : Int) then (some ((rd t351 a0_1) == (rd t351 (ji48)))) else (none)) else (none)) = some r := by first|(rw [hji48] at H;exact H)|(simp only [hji48] at H ⊢;exact H)
          (try rw [hji48] at A45)
          have hji48w : (IntKind.i64.wrap (a1_1 + (l0_0.length : Int))) = ji48 := (i64_w _).trans hji48
          by_cases c49 : 0 ≤ (ji48)
          rotate_left
          ·rw [if_neg c49] at H
           exact absurd H (by simp)
          rw [if_pos c49] at H
          have c49b0 : decide (0 ≤ (ji48)) = true := deT c49
          clear c49
          by_cases c50 : (ji48) < (t351.length : Int)
          rotate_left
          ·rw [if_neg c50] at H
           exact absurd H (by simp)
          rw [if_pos c50] at H
          have c50b0 : decide ((ji48) < (t351.length : Int)) = true := deT c50
          clear c50
          obtain rfl := Option.some.inj H
          obtain ⟨Ao51,co51,eo51⟩ := Kd.N_slice HO_7.out
          subst eo51
          go_wp2_with (first|(go_at_call 54;(with_reducible refine (impl_classes.calls k3 _ _ x7_3 t351 _ ?side1 ?side2 A45.out).mono ?_);(case side1 => repeat (first|exact (Kd.N_reads' HO_7.out).2.2|(with_reducible refine Kd.C_alloc ?_ _)|(with_reducible refine Kd.C_drewN ?_ _)|(with_reducible refine Kd.C_drew ?_)));(case side2 => exact (Kd.N_reads' HO_7.out).2.1);rintro e w52 ⟨v352,rfl,ho0,hb⟩;have n0_ := As_ (Kd.R_elder' (zR_ HO_5.out) (Kd.R_base ho0) hb);have n1_ := As_ (Kd.N_elder' (zN_ HO_7.out) (Kd.R_base ho0) hb);have n2_ := As_ (Kd.R_lower (Kd.R_new' ho0 (Kd.R_lt (zR_ HO_5.out))) (bwZ (zb2 HB.out GE328.out GE329.out)));have n3_ := As_ (zkb BK328.out hb);have n4_ := As_ (zkb BK329.out hb);have n5_ := As_ (bwT (zb2 HB.out GE328.out GE329.out) hb);clear HO_5;clear HO_7;clear BK328;clear BK329;clear HB;have HO_5 := n0_;have HO_7 := n1_;have HO353 := n2_;have BK328 := n3_;have BK329 := n4_;have HB := n5_;clear n0_ n1_ n2_ n3_ n4_ n5_;(try clear hb);(try clear hb2);(try clear hk);(try clear hi);(try clear ho0);have hnb53 := NB328_329.out;have hnc53 := NB329_328.out;have hcz54_0 : w52.cell? ⟨gb328,0,none⟩ = some (.slice A0_0 l0_0.length c0_0) := (bkC BK328.out 0).trans rfl;have hcz54_1 : w52.cell? ⟨gb328,1,none⟩ = some (.int .i64 a0_1) := (bkC BK328.out 1).trans rfl;have hfz54_0 := bkF BK328.out 0;have hfz54_1 := bkF BK328.out 1;obtain ⟨Ao55,co55,eo55⟩ := Kd.R_slice HO353.out;subst eo55;have p354 : 0 ≤ (a0_1 : Int) := odT zA_;have q354 : a0_1 < (t351.length : Int) := odT zA_;obtain ⟨ad354,e354,hx354_0⟩ := Kd.at_int (Kd.R_reads' HO353.out).2.2 a0_1 p354 q354;cases e354;replace p354 := eq_true p354;replace q354 := eq_true q354;have hcz56_0 : w52.cell? ⟨gb329,0,none⟩ = some (.slice A1_0 l1_0.length c1_0) := (bkC BK329.out 0).trans rfl;have hcz56_1 : w52.cell? ⟨gb329,1,none⟩ = some (.int .i64 a1_1) := (bkC BK329.out 1).trans rfl;have hfz56_0 := bkF BK329.out 0;have hfz56_1 := bkF BK329.out 1;have p355 : 0 ≤ ((ji48) : Int) := odT zA_;have q355 : (ji48) < (t351.length : Int) := odT zA_;obtain ⟨ad355,e355,hx355_0⟩ := Kd.at_int (Kd.R_reads' HO353.out).2.2 (ji48) p355 q355;obtain rfl : ad354 = ad355 := (by injection e355);replace p355 := eq_true p355;replace q355 := eq_true q355))
          repeat (go_quiet (first|(go_at_call 54;(with_reducible refine (impl_classes.calls k3 _ _ x7_3 t351 _ ?side1 ?side2 A45.out).mono ?_);(case side1 => repeat (first|exact (Kd.N_reads' HO_7.out).2.2|(with_reducible refine Kd.C_alloc ?_ _)|(with_reducible refine Kd.C_drewN ?_ _)|(with_reducible refine Kd.C_drew ?_)));(case side2 => exact (Kd.N_reads' HO_7.out).2.1);rintro e w52 ⟨v352,rfl,ho0,hb⟩;have n0_ := As_ (Kd.R_elder' (zR_ HO_5.out) (Kd.R_base ho0) hb);have n1_ := As_ (Kd.N_elder' (zN_ HO_7.out) (Kd.R_base ho0) hb);have n2_ := As_ (Kd.R_lower (Kd.R_new' ho0 (Kd.R_lt (zR_ HO_5.out))) (bwZ (zb2 HB.out GE328.out GE329.out)));have n3_ := As_ (zkb BK328.out hb);have n4_ := As_ (zkb BK329.out hb);have n5_ := As_ (bwT (zb2 HB.out GE328.out GE329.out) hb);clear HO_5;clear HO_7;clear BK328;clear BK329;clear HB;have HO_5 := n0_;have HO_7 := n1_;have HO353 := n2_;have BK328 := n3_;have BK329 := n4_;have HB := n5_;clear n0_ n1_ n2_ n3_ n4_ n5_;(try clear hb);(try clear hb2);(try clear hk);(try clear hi);(try clear ho0);have hnb53 := NB328_329.out;have hnc53 := NB329_328.out;have hcz54_0 : w52.cell? ⟨gb328,0,none⟩ = some (.slice A0_0 l0_0.length c0_0) := (bkC BK328.out 0).trans rfl;have hcz54_1 : w52.cell? ⟨gb328,1,none⟩ = some (.int .i64 a0_1) := (bkC BK328.out 1).trans rfl;have hfz54_0 := bkF BK328.out 0;have hfz54_1 := bkF BK328.out 1;obtain ⟨Ao55,co55,eo55⟩ := Kd.R_slice HO353.out;subst eo55;have p354 : 0 ≤ (a0_1 : Int) := odT zA_;have q354 : a0_1 < (t351.length : Int) := odT zA_;obtain ⟨ad354,e354,hx354_0⟩ := Kd.at_int (Kd.R_reads' HO353.out).2.2 a0_1 p354 q354;cases e354;replace p354 := eq_true p354;replace q354 := eq_true q354;have hcz56_0 : w52.cell? ⟨gb329,0,none⟩ = some (.slice A1_0 l1_0.length c1_0) := (bkC BK329.out 0).trans rfl;have hcz56_1 : w52.cell? ⟨gb329,1,none⟩ = some (.int .i64 a1_1) := (bkC BK329.out 1).trans rfl;have hfz56_0 := bkF BK329.out 0;have hfz56_1 := bkF BK329.out 1;have p355 : 0 ≤ ((ji48) : Int) := odT zA_;have q355 : (ji48) < (t351.length : Int) := odT zA_;obtain ⟨ad355,e355,hx355_0⟩ := Kd.at_int (Kd.R_reads' HO353.out).2.2 (ji48) p355 q355;obtain rfl : ad354 = ad355 := (by injection e355);replace p355 := eq_true p355;replace q355 := eq_true q355));try go_wp2_with (first|(go_at_call 54;(with_reducible refine (impl_classes.calls k3 _ _ x7_3 t351 _ ?side1 ?side2 A45.out).mono ?_);(case side1 => repeat (first|exact (Kd.N_reads' HO_7.out).2.2|(with_reducible refine Kd.C_alloc ?_ _)|(with_reducible refine Kd.C_drewN ?_ _)|(with_reducible refine Kd.C_drew ?_)));(case side2 => exact (Kd.N_reads' HO_7.out).2.1);rintro e w52 ⟨v352,rfl,ho0,hb⟩;have n0_ := As_ (Kd.R_elder' (zR_ HO_5.out) (Kd.R_base ho0) hb);have n1_ := As_ (Kd.N_elder' (zN_ HO_7.out) (Kd.R_base ho0) hb);have n2_ := As_ (Kd.R_lower (Kd.R_new' ho0 (Kd.R_lt (zR_ HO_5.out))) (bwZ (zb2 HB.out GE328.out GE329.out)));have n3_ := As_ (zkb BK328.out hb);have n4_ := As_ (zkb BK329.out hb);have n5_ := As_ (bwT (zb2 HB.out GE328.out GE329.out) hb);clear HO_5;clear HO_7;clear BK328;clear BK329;clear HB;have HO_5 := n0_;have HO_7 := n1_;have HO353 := n2_;have BK328 := n3_;have BK329 := n4_;have HB := n5_;clear n0_ n1_ n2_ n3_ n4_ n5_;(try clear hb);(try clear hb2);(try clear hk);(try clear hi);(try clear ho0);have hnb53 := NB328_329.out;have hnc53 := NB329_328.out;have hcz54_0 : w52.cell? ⟨gb328,0,none⟩ = some (.slice A0_0 l0_0.length c0_0) := (bkC BK328.out 0).trans rfl;have hcz54_1 : w52.cell? ⟨gb328,1,none⟩ = some (.int .i64 a0_1) := (bkC BK328.out 1).trans rfl;have hfz54_0 := bkF BK328.out 0;have hfz54_1 := bkF BK328.out 1;obtain ⟨Ao55,co55,eo55⟩ := Kd.R_slice HO353.out;subst eo55;have p354 : 0 ≤ (a0_1 : Int) := odT zA_;have q354 : a0_1 < (t351.length : Int) := odT zA_;obtain ⟨ad354,e354,hx354_0⟩ := Kd.at_int (Kd.R_reads' HO353.out).2.2 a0_1 p354 q354;cases e354;replace p354 := eq_true p354;replace q354 := eq_true q354;have hcz56_0 : w52.cell? ⟨gb329,0,none⟩ = some (.slice A1_0 l1_0.length c1_0) := (bkC BK329.out 0).trans rfl;have hcz56_1 : w52.cell? ⟨gb329,1,none⟩ = some (.int .i64 a1_1) := (bkC BK329.out 1).trans rfl;have hfz56_0 := bkF BK329.out 0;have hfz56_1 := bkF BK329.out 1;have p355 : 0 ≤ ((ji48) : Int) := odT zA_;have q355 : (ji48) < (t351.length : Int) := odT zA_;obtain ⟨ad355,e355,hx355_0⟩ := Kd.at_int (Kd.R_reads' HO353.out).2.2 (ji48) p355 q355;obtain rfl : ad354 = ad355 := (by injection e355);replace p355 := eq_true p355;replace q355 := eq_true q355)))
          go_ret
          exact ⟨by first|rfl|(simp [errW_none,errW_some] <;> rfl)|(simp only [← hji48];first|rfl|(simp [errW_none,errW_some] <;> rfl))|(simp [*,errW_none,errW_some] <;> rfl),by repeat (first|(with_reducible first|exact HB.out|apply bwA|apply bwN|apply bwD|refine bwS ?_ GE328.out|refine bwS ?_ GE329.out)|exact HB.out)⟩

end Go.Proofs.Ytfhakhbmbnbneaa.Q
