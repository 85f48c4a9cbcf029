-- Written by wip/tools/qprint.py (a program of this claim's author) by means of the kit's printer.
import Derived.Test.YtfhakhbmbnbneaaQ0
import Derived.Test.YtfhakhbmbnbneaaQ48
import Derived.Test.YtfhakhbmbnbneaaQ67
import Derived.Test.YtfhakhbmbnbneaaQ68
namespace Go.Proofs.Ytfhakhbmbnbneaa.Q
open Go.RowKit Go.Proofs.YtfhakhbmbnbneaaW.PrintWords Go.Proofs.YtfhakhbmbnbneaaW.PrintLast Go.Proofs.YtfhakhbmbnbneaaW.PrintMore
attribute [local go_sem] max2_int min2_int max_two min_two max_three min_three max_four min_four   -- for this text's walks alone
set_option linter.unusedVariables false
set_option linter.unusedSimpArgs false

/-! ### impl_ValidGraph: function 29 -/
mutual
def impl_ValidGraph.j0 : Nat → Int → Bool → List (S45) → Int → Option (Bool)
 | 0,_,_,_,_ => none
 | k + 1,x3,x28,x277000,x277001 => if x28 = true then (some false) else (impl_ValidGraph.l0 k x3 x277000 (x277000.length : Int) 0 x277000 x277001)
def impl_ValidGraph.l0 : Nat → Int → List (S45) → Int → Int → List (S45) → Int → Option (Bool)
 | 0,_,_,_,_,_,_ => none
 | k + 1,x3,x30,x31,x32,x277000,x277001 => if x32 < x31 then (if 0 ≤ x32 then (if x32 < (x30.length : Int) then (if (((rd_T45 x30 x32).f2).length : Int) > 6 then (some false) else ((slices_ContainsFunc_int_int.f ((rd_T45 x30 x32).f2) x3).bind fun t279 => (if t279 = true then (some false) else (impl_ValidGraph.l0 k x3 x30 x31 (wrap64 (x32 + 1)) x277000 x277001)))) else (none)) else (none)) else (impl_ValidGraph.l1 k x277000 (x277000.length : Int) 0 x277000 x277001)
def impl_ValidGraph.l1 : Nat → List (S45) → Int → Int → List (S45) → Int → Option (Bool)
 | 0,_,_,_,_,_ => none
 | k + 1,x48,x49,x50,x277000,x277001 => if x50 < x49 then (if 0 ≤ x50 then (if x50 < (x48.length : Int) then ((impl_nodeOk.f k x277000 ((rd_T45 x48 x50).f0) ((rd_T45 x48 x50).f1) ((rd_T45 x48 x50).f2)).bind fun t282 => (if t282 = true then (impl_ValidGraph.l1 k x48 x49 (wrap64 (x50 + 1)) x277000 x277001) else (some false))) else (none)) else (none)) else (impl_ValidGraph.l2 k (x277000.length : Int) 0 x277000 x277001)
def impl_ValidGraph.l2 : Nat → Int → Int → List (S45) → Int → Option (Bool)
 | 0,_,_,_,_ => none
 | k + 1,x62,x63,x277000,x277001 => if x63 < x62 then (if 0 ≤ x63 then (if x63 < (x277000.length : Int) then (if ((rd_T45 x277000 x63).f0) = 2 then ((impl_circles.f k x277000 x63).bind fun t284 => (if t284 = true then (some false) else (impl_ValidGraph.l2 k x62 (wrap64 (x63 + 1)) x277000 x277001))) else (impl_ValidGraph.l2 k x62 (wrap64 (x63 + 1)) x277000 x277001)) else (none)) else (none)) else (some true)
end
def impl_ValidGraph.f (k : Nat) (l0_0 : List (S45)) (a0_1 : Int) : Option (Bool) := if (l0_0.length : Int) < 1 then (impl_ValidGraph.j0 k (l0_0.length : Int) true l0_0 a0_1) else (if (l0_0.length : Int) > 12 then (impl_ValidGraph.j0 k (l0_0.length : Int) true l0_0 a0_1) else (if a0_1 < 0 then (impl_ValidGraph.j0 k (l0_0.length : Int) true l0_0 a0_1) else (impl_ValidGraph.j0 k (l0_0.length : Int) (decide (a0_1 ≥ (l0_0.length : Int))) l0_0 a0_1)))
set_option maxRecDepth 100000 in
theorem impl_ValidGraph.mono_l : ∀ k,(∀ y0 y1 y2 y3,LeO (impl_ValidGraph.j0 k y0 y1 y2 y3) (impl_ValidGraph.j0 (k + 1) y0 y1 y2 y3)) ∧ (∀ y0 y1 y2 y3 y4 y5,LeO (impl_ValidGraph.l0 k y0 y1 y2 y3 y4 y5) (impl_ValidGraph.l0 (k + 1) y0 y1 y2 y3 y4 y5)) ∧ (∀ y0 y1 y2 y3 y4,LeO (impl_ValidGraph.l1 k y0 y1 y2 y3 y4) (impl_ValidGraph.l1 (k + 1) y0 y1 y2 y3 y4)) ∧ (∀ y0 y1 y2 y3,LeO (impl_ValidGraph.l2 k y0 y1 y2 y3) (impl_ValidGraph.l2 (k + 1) y0 y1 y2 y3))
 | 0 => ⟨fun _ _ _ _ r h => (by cases h),fun _ _ _ _ _ _ r h => (by cases h),fun _ _ _ _ _ r h => (by cases h),fun _ _ _ _ r h => (by cases h)⟩
 | k + 1 => by
  obtain ⟨ih0,ih1,ih2,ih3⟩ := impl_ValidGraph.mono_l k
  refine ⟨?_,?_,?_,?_⟩
  ·intro y0 y1 y2 y3
   unfold impl_ValidGraph.j0
   repeat' first
   | (with_reducible exact ih0 _ _ _ _)
   | (with_reducible exact ih1 _ _ _ _ _ _)
   | (with_reducible exact ih2 _ _ _ _ _)
   | (with_reducible exact ih3 _ _ _ _)
   | (with_reducible exact impl_circles.mono _ _ _)
   | (with_reducible exact impl_nodeOk.mono _ _ _ _ _)
   | (with_reducible exact LeO.refl _)
   | (with_reducible exact LeO.none _)
   | (with_reducible refine LeO.ite ?_ ?_)
   | (with_reducible refine LeO.bind ?_ (fun _ => ?_))
   | exact ih0 _ _ _ _
   | exact ih1 _ _ _ _ _ _
   | exact ih2 _ _ _ _ _
   | exact ih3 _ _ _ _
   | exact impl_circles.mono _ _ _
   | exact impl_nodeOk.mono _ _ _ _ _
   | exact LeO.none _
   | refine LeO.ite ?_ ?_
   | refine LeO.bind ?_ (fun _ => ?_)
  ·intro y0 y1 y2 y3 y4 y5
   unfold impl_ValidGraph.l0
   repeat' first
   | (with_reducible exact ih0 _ _ _ _)
   | (with_reducible exact ih1 _ _ _ _ _ _)
   | (with_reducible exact ih2 _ _ _ _ _)
   | (with_reducible exact ih3 _ _ _ _)
   | (with_reducible exact impl_circles.mono _ _ _)
   | (with_reducible exact impl_nodeOk.mono _ _ _ _ _)
   | (with_reducible exact LeO.refl _)
   | (with_reducible exact LeO.none _)
   | (with_reducible refine LeO.ite ?_ ?_)
   | (with_reducible refine LeO.bind ?_ (fun _ => ?_))
   | exact ih0 _ _ _ _
   | exact ih1 _ _ _ _ _ _
   | exact ih2 _ _ _ _ _
   | exact ih3 _ _ _ _
   | exact impl_circles.mono _ _ _
   | exact impl_nodeOk.mono _ _ _ _ _
   | exact LeO.none _
   | refine LeO.ite ?_ ?_
   | refine LeO.bind ?_ (fun _ => ?_)
  ·intro y0 y1 y2 y3 y4
   unfold impl_ValidGraph.l1
   repeat' first
   | (with_reducible exact ih0 _ _ _ _)
   | (with_reducible exact ih1 _ _ _ _ _ _)
   | (with_reducible exact ih2 _ _ _ _ _)
   | (with_reducible exact ih3 _ _ _ _)
   | (with_reducible exact impl_circles.mono _ _ _)
   | (with_reducible exact impl_nodeOk.mono _ _ _ _ _)
   | (with_reducible exact LeO.refl _)
   | (with_reducible exact LeO.none _)
   | (with_reducible refine LeO.ite ?_ ?_)
   | (with_reducible refine LeO.bind ?_ (fun _ => ?_))
   | exact ih0 _ _ _ _
   | exact ih1 _ _ _ _ _ _
   | exact ih2 _ _ _ _ _
   | exact ih3 _ _ _ _
   | exact impl_circles.mono _ _ _
   | exact impl_nodeOk.mono _ _ _ _ _
   | exact LeO.none _
   | refine LeO.ite ?_ ?_
   | refine LeO.bind ?_ (fun _ => ?_)
  ·intro y0 y1 y2 y3
   unfold impl_ValidGraph.l2
   repeat' first
   | (with_reducible exact ih0 _ _ _ _)
   | (with_reducible exact ih1 _ _ _ _ _ _)
   | (with_reducible exact ih2 _ _ _ _ _)
   | (with_reducible exact ih3 _ _ _ _)
   | (with_reducible exact impl_circles.mono _ _ _)
   | (with_reducible exact impl_nodeOk.mono _ _ _ _ _)
   | (with_reducible exact LeO.refl _)
   | (with_reducible exact LeO.none _)
   | (with_reducible refine LeO.ite ?_ ?_)
   | (with_reducible refine LeO.bind ?_ (fun _ => ?_))
   | exact ih0 _ _ _ _
   | exact ih1 _ _ _ _ _ _
   | exact ih2 _ _ _ _ _
   | exact ih3 _ _ _ _
   | exact impl_circles.mono _ _ _
   | exact impl_nodeOk.mono _ _ _ _ _
   | exact LeO.none _
   | refine LeO.ite ?_ ?_
   | refine LeO.bind ?_ (fun _ => ?_)
set_option maxRecDepth 100000 in
theorem impl_ValidGraph.mono : ∀ a0 a1 k,LeO (impl_ValidGraph.f k a0 a1) (impl_ValidGraph.f (k + 1) a0 a1) := by
 intro a0 a1 k
 obtain ⟨ih0,ih1,ih2,ih3⟩ := impl_ValidGraph.mono_l k
 unfold impl_ValidGraph.f
 repeat' first
   | (with_reducible exact ih0 _ _ _ _)
   | (with_reducible exact ih1 _ _ _ _ _ _)
   | (with_reducible exact ih2 _ _ _ _ _)
   | (with_reducible exact ih3 _ _ _ _)
   | (with_reducible exact impl_circles.mono _ _ _)
   | (with_reducible exact impl_nodeOk.mono _ _ _ _ _)
   | (with_reducible exact LeO.refl _)
   | (with_reducible exact LeO.none _)
   | (with_reducible refine LeO.ite ?_ ?_)
   | (with_reducible refine LeO.bind ?_ (fun _ => ?_))
   | exact ih0 _ _ _ _
   | exact ih1 _ _ _ _ _ _
   | exact ih2 _ _ _ _ _
   | exact ih3 _ _ _ _
   | exact impl_circles.mono _ _ _
   | exact impl_nodeOk.mono _ _ _ _ _
   | exact LeO.none _
   | refine LeO.ite ?_ ?_
   | refine LeO.bind ?_ (fun _ => ?_)
set_option maxHeartbeats 8000000 in
set_option maxRecDepth 100000 in
theorem impl_ValidGraph.calls (k : Nat) (A0_0 : Option Addr) (c0_0 : Nat) (l0_0 : List (S45)) (a0_1 : Int) (r : Bool) (w : World) (hr0_0 : Kd.C k45 w A0_0 l0_0.length l0_0) (hc0_0 : l0_0.length ≤ c0_0) (h : impl_ValidGraph.f k l0_0 a0_1 = some r) :
  Calls Try.prog 29 #[.agg #[.slice A0_0 l0_0.length c0_0,.int .i64 a0_1]] w fun e w' => e = .returned (.bool r) ∧ Below w.heap.size w w' := by
 have hu29 := Try.underlying29
 have hu45 := Try.underlying45
 have HR0_0 := As_ hr0_0
 have HC0_0 := As_ hc0_0
 clear hr0_0 hc0_0
 have HB := As_ (Below.refl w.heap.size w)
 have H : (if (l0_0.length : Int) < 1 then (impl_ValidGraph.j0 k (l0_0.length : Int) true l0_0 a0_1) else (if (l0_0.length : Int) > 12 then (impl_ValidGraph.j0 k (l0_0.length : Int) true l0_0 a0_1) else (if a0_1 < 0 then (impl_ValidGraph.j0 k (l0_0.length : Int) true l0_0 a0_1) else (impl_ValidGraph.j0 k (l0_0.length : Int) (decide (a0_1 ≥ (l0_0.length : Int))) l0_0 a0_1)))) = some r := h
 clear h
 have HC2 := As_ H
 clear H
 go_enter Try.func29,Try.ntmps29
 go_upto_region 2 with (first|((with_reducible refine gate_dst (N := 1) rfl ?_);refine box_event ?hg (N := 1) ?hd (cs := #[.slice A0_0 l0_0.length c0_0,.int .i64 a0_1]) (t := 29) ?hr ?_;(case hd => rfl);(case hg => rfl);(case hr => go_simp <;> rfl);intro gb276 hg w3 hbox hb;have n0_ := As_ (bwT (zb0 HB.out) hb);have n1_ := As_ (hbox);have n2_ := As_ ((by rw [hg];exact (bwZ (zb0 HB.out)) : w.heap.size ≤ gb276));have n3_ := As_ ((by rw [hg];exact (bwZ (zb0 HB.out)) : w.heap.size ≤ gb276));clear HB;revert n0_ n1_ n2_ n3_;intro HB BK276 GW276 GE276;clear hb hbox hg;obtain ⟨hcz4_0,hcz4_1,hfz4_0,hfz4_1⟩ := bk2 BK276.out)|((with_reducible refine gate_dst (N := 3) rfl ?_);refine box_event ?hg (N := 3) ?hd (cs := #[.int .i64 0]) (t := 3) ?hr ?_;(case hd => rfl);(case hg => rfl);(case hr => go_simp <;> rfl);intro gbn hg wn hbox hb;have n0_ := As_ (blk_below (g := gb276) (o := .cells #[.slice A0_0 l0_0.length c0_0,.int .i64 a0_1] 29 (0,0)) (BK276.out) hb);have n1_ := As_ (bwT (zb1 HB.out GE276.out) hb);have n2_ := As_ hbox;have n3_ := As_ ((by rw [hg];exact (bwZ (zb1 HB.out GE276.out))) : w.heap.size ≤ gbn);have n4_ := As_ ((by rw [hg];exact Nat.ne_of_lt (blk_lt (g := gb276) (o := .cells #[.slice A0_0 l0_0.length c0_0,.int .i64 a0_1] 29 (0,0)) BK276.out)) : gb276 ≠ gbn);clear BK276 HB;revert n0_ n1_ n2_ n3_ n4_;intro BK276 HB BN GEn NBn;clear hb hbox hg;have hczm_0 : wn.cell? ⟨gbn,0,none⟩ = some (.int .i64 0) := (bkC BN.out 0).trans rfl;have hfzm_0 := bkF BN.out 0)|((with_reducible refine gate_store (t := 3) (p := 3) rfl ?_);refine store_event (t := 3) (p := 3) (v := ?vo_wn2) (w1 := (wn.setCell ⟨gbn,0,none⟩ (.int .i64 (l0_0.length : Int)))) ?hg ?ho ?hn ?hr ?_;(case ho => rfl);(case hg => rfl);(case hn => rfl);(case hr => go_simp <;> rfl);intro wn2 hw;have n0_ : Aside0 (wn2.heap[gb276]? = some (.cells #[.slice A0_0 l0_0.length c0_0,.int .i64 a0_1] 29 (0,0))) := ⟨(by rw [hw];exact blk_far BK276.out NBn.out _)⟩;have n1_ : Aside0 (wn2.heap[gbn]? = some (.cells #[.int .i64 (l0_0.length : Int)] 3 (0,0))) := ⟨(by rw [hw];refine blk_put (cs := #[.int .i64 0]) ?_ 0 _ rfl;exact BN.out)⟩;have n2_ : Aside0 (Below w.heap.size w wn2) := ⟨(by rw [hw];exact bwS HB.out GEn.out)⟩;clear hw BK276 BN HB;revert n0_ n1_ n2_;intro BK276 BN HB))
 (try simp only [Act.put,List.setIfInBounds_toArray,List.set_cons_zero,List.set_cons_succ])
 go_cut [28] (fun v28 wc => ∃ (kq : Nat) (x28_1 : Bool),v28 = .bool x28_1 ∧ Aside0 (impl_ValidGraph.j0 kq (l0_0.length : Int) x28_1 l0_0 a0_1 = some r) ∧ Aside0 (kq ≤ k) ∧ Aside0 (wc.heap[gb276]? = some (.cells #[(.slice A0_0 l0_0.length c0_0),.int .i64 a0_1] 29 (0,0))) ∧ Aside0 (Below w.heap.size w wc) ∧ Aside0 (wc.heap[gbn]? = some (.cells #[.int .i64 (l0_0.length : Int)] 3 (0,0))))
 case first =>
  have H := HC2.out
  clear HC2
  have hczn_0 : wn2.cell? ⟨gbn,0,none⟩ = some (.int .i64 (l0_0.length : Int)) := (bkC BN.out 0).trans rfl
  have hfzn_0 := bkF BN.out 0
  by_cases c5 : (l0_0.length : Int) < 1
  ·rw [if_pos c5] at H
   have c5b0 : decide ((l0_0.length : Int) < 1) = true := deT c5
   have c5b1 : decide (l0_0.length < 1) = true := deT (by omega)
   clear c5
   (first|rw [c5b0]|(simp only [i64_w,i32_w];rw [c5b0])|skip)
   have H' := As_ H
   clear H
   go_wp2
   go_meet
   case rel => exact ⟨_,(true),zT_,H',⟨by first|omega|exact Nat.le_refl _⟩,⟨by (with_reducible repeat first|apply bkN|apply bkD|apply bkA);exact BK276.out⟩,⟨zb1 HB.out GE276.out⟩,BN⟩
  rw [if_neg c5] at H
  have c5b0 : decide ((l0_0.length : Int) < 1) = false := deF c5
  have c5b1 : decide (l0_0.length < 1) = false := deF (by omega)
  clear c5
  (first|rw [c5b0]|(simp only [i64_w,i32_w];rw [c5b0])|skip)
  by_cases c6 : (l0_0.length : Int) > 12
  ·rw [if_pos c6] at H
   have c6b0 : decide (12 < (l0_0.length : Int)) = true := deT c6
   have c6b1 : decide (12 < l0_0.length) = true := deT (by omega)
   clear c6
   have H' := As_ H
   clear H
   go_wp2
   go_meet
   case rel => exact ⟨_,(true),zT_,H',⟨by first|omega|exact Nat.le_refl _⟩,⟨by (with_reducible repeat first|apply bkN|apply bkD|apply bkA);exact BK276.out⟩,⟨zb1 HB.out GE276.out⟩,BN⟩
  rw [if_neg c6] at H
  have c6b0 : decide (12 < (l0_0.length : Int)) = false := deF c6
  have c6b1 : decide (12 < l0_0.length) = false := deF (by omega)
  clear c6
  by_cases c7 : a0_1 < 0
  ·rw [if_pos c7] at H
   have c7b0 : decide (a0_1 < 0) = true := deT c7
   clear c7
   have H' := As_ H
   clear H
   obtain ⟨hcz8_0,hcz8_1,hfz8_0,hfz8_1⟩ := bk2 BK276.out
   go_wp2
   go_meet
   case rel => exact ⟨_,(true),zT_,H',⟨by first|omega|exact Nat.le_refl _⟩,⟨by (with_reducible repeat first|apply bkN|apply bkD|apply bkA);exact BK276.out⟩,⟨zb1 HB.out GE276.out⟩,BN⟩
  rw [if_neg c7] at H
  have c7b0 : decide (a0_1 < 0) = false := deF c7
  clear c7
  have H' := As_ H
  clear H
  obtain ⟨hcz9_0,hcz9_1,hfz9_0,hfz9_1⟩ := bk2 BK276.out
  go_wp2
  go_meet
  case rel => exact ⟨_,(decide (a0_1 ≥ (l0_0.length : Int))),zT_,H',⟨by first|omega|exact Nat.le_refl _⟩,⟨by (with_reducible repeat first|apply bkN|apply bkD|apply bkA);exact BK276.out⟩,⟨zb1 HB.out GE276.out⟩,BN⟩
 case rest =>
  clear HC2
  obtain ⟨kq,x28_1,rfl,HA,HJ1,BK276,HB,BN⟩ := hcut
  cases kq with
  | zero => exact absurd HA.out (fun h_ => (by cases h_))
  | succ kj1 =>
   have H := HA.out
   clear HA
   simp only [impl_ValidGraph.j0] at H
   by_cases c10 : x28_1 = true
   ·subst c10
    have H1 : (some false) = some r := by rw [if_pos rfl] at H;exact H
    clear H
    have H := H1
    clear H1
    obtain rfl := Option.some.inj H
    go_wp2
    go_ret
    exact ⟨zE_,zb1 HB.out GE276.out⟩
   replace c10 := Bool.eq_false_iff.mpr c10
   subst c10
   have H1 : (impl_ValidGraph.l0 kj1 (l0_0.length : Int) l0_0 (l0_0.length : Int) 0 l0_0 a0_1) = some r := by rw [if_neg (show ¬ (false = true) by decide)] at H;exact H
   clear H
   have H := H1
   clear H1
   have H' := As_ H
   clear H
   obtain ⟨hcz11_0,hcz11_1,hfz11_0,hfz11_1⟩ := bk2 BK276.out
   go_wp2
   go_loopg [32] kj1 (fun kq v32 w' => ∃ (x32_2 : Int),v32 = .int .i64 x32_2 ∧ Aside0 (impl_ValidGraph.l0 kq (l0_0.length : Int) l0_0 (l0_0.length : Int) x32_2 l0_0 a0_1 = some r) ∧ Aside0 (kq ≤ kj1) ∧ Aside0 (w'.heap[gb276]? = some (.cells #[(.slice A0_0 l0_0.length c0_0),.int .i64 a0_1] 29 (0,0))) ∧ Aside0 (Below w.heap.size w w') ∧ Aside0 (w'.heap[gbn]? = some (.cells #[.int .i64 (l0_0.length : Int)] 3 (0,0))))
   case atStart => exact ⟨(0),zT_,H',⟨Nat.le_refl _⟩,⟨by (with_reducible repeat first|apply bkN|apply bkD|apply bkA);exact BK276.out⟩,⟨zb1 HB.out GE276.out⟩,BN⟩
   case round =>
    clear H'
    obtain ⟨x32_2,rfl,HA,HK2,BK276,HB,BN⟩ := hrel
    cases gk with
    | zero => exact absurd HA.out (fun h_ => (by cases h_))
    | succ k2 =>
     have H := HA.out
     clear HA
     simp only [impl_ValidGraph.l0] at H
     by_cases c12 : x32_2 < (l0_0.length : Int)
     ·rw [if_pos c12] at H
      have c12b0 : decide (x32_2 < (l0_0.length : Int)) = true := deT c12
      clear c12
      by_cases c13 : 0 ≤ x32_2
      rotate_left
      ·rw [if_neg c13] at H
       exact absurd H (by simp)
      rw [if_pos c13] at H
      have c13b0 : decide (0 ≤ x32_2) = true := deT c13
      clear c13
      by_cases c14 : x32_2 < (l0_0.length : Int)
      rotate_left
      ·rw [if_neg c14] at H
       exact absurd H (by simp)
      rw [if_pos c14] at H
      have c14b0 : decide (x32_2 < (l0_0.length : Int)) = true := deT c14
      clear c14
      by_cases c15 : (((rd_T45 l0_0 x32_2).f2).length : Int) > 6
      ·rw [if_pos c15] at H
       have c15b0 : decide (6 < (((rd_T45 l0_0 x32_2).f2).length : Int)) = true := deT c15
       have c15b1 : decide (6 < ((rd_T45 l0_0 x32_2).f2).length) = true := deT (by omega)
       clear c15
       obtain rfl := Option.some.inj H
       have p277 : 0 ≤ (x32_2 : Int) := odT zA_
       have q277 : x32_2 < (l0_0.length : Int) := odT zA_
       obtain ⟨ad277,A277_2,c277_2,e277,hx277_0,hx277_1,hx277_2,hl277_2,hi277_2⟩ := at_T45 HR0_0.out x32_2 p277 q277
       cases e277
       replace hx277_0 := bwC HB.out hx277_0
       replace hx277_1 := bwC HB.out hx277_1
       replace hx277_2 := bwC HB.out hx277_2
       have HR277_2 := As_ hi277_2
       have HC277_2 := As_ hl277_2
       clear hi277_2 hl277_2
       replace p277 := eq_true p277
       replace q277 := eq_true q277
       go_wp2_with (first|((with_reducible refine gate_dst (N := 5) rfl ?_);refine box_event ?hg (N := 5) ?hd (cs := #[.int .i64 0,.int .i64 0,.slice none 0 0]) (t := 45) ?hr ?_;(case hd => rfl);(case hg => rfl);(case hr => go_simp <;> rfl);intro gb278 hg w16 hbox hb;have b0_ := As_ (blk_below (g := gbn) (o := .cells #[.int .i64 (l0_0.length : Int)] 3 (0,0)) (zk_ BN.out) hb);have n0_ := As_ (zkb BK276.out hb);have n1_ := As_ (bwT (zb1 HB.out GE276.out) hb);have n2_ := As_ (hbox);have n3_ := As_ ((by rw [hg];exact (bwZ (zb1 HB.out GE276.out)) : w.heap.size ≤ gb278));have n4_ := As_ ((by rw [hg];exact (bwZ (zb1 HB.out GE276.out)) : w.heap.size ≤ gb278));have b1_ := As_ ((by rw [hg];exact Nat.ne_of_lt (blk_lt (g := gbn) (o := .cells #[.int .i64 (l0_0.length : Int)] 3 (0,0)) (zk_ BN.out))) : gbn ≠ gb278);have n5_ := As_ ((by rw [hg];exact Nat.ne_of_lt (zkl BK276.out) : gb276 ≠ gb278));have n6_ := As_ ((by rw [hg];exact Nat.ne_of_gt (zkl BK276.out) : gb278 ≠ gb276));clear BN BK276 HB;have BK276 := n0_;have BN := b0_;clear b0_;have NBn_278 := b1_;clear b1_; have HB := n1_;have BK278 := n2_;have GW278 := n3_;have GE278 := n4_;have NB276_278 := n5_;have NB278_276 := n6_;clear n0_ n1_ n2_ n3_ n4_ n5_ n6_ hb hbox hg;have hnb17 := NB278_276.out;have hnc17 := NB276_278.out;obtain ⟨hcz18_0,hcz18_1,hcz18_2,hfz18_0,hfz18_1,hfz18_2⟩ := bk3 BK278.out))
       go_ret
       exact ⟨zE_,zb2 HB.out GE276.out GE278.out⟩
      rw [if_neg c15] at H
      have c15b0 : decide (6 < (((rd_T45 l0_0 x32_2).f2).length : Int)) = false := deF c15
      have c15b1 : decide (6 < ((rd_T45 l0_0 x32_2).f2).length) = false := deF (by omega)
      clear c15
      replace H := obS H
      obtain ⟨t279,A190,H⟩ := H
      replace H : (if t279 = true then (some false) else (impl_ValidGraph.l0 k2 (l0_0.length : Int) l0_0 (l0_0.length : Int) (wrap64 (x32_2 + 1)) l0_0 a0_1)) = some r := H
      have A19 := As_ A190
      clear A190
      by_cases c20 : t279 = true
      ·subst c20
       have H1 : (some false) = some r := by rw [if_pos rfl] at H;exact H
       clear H
       have H := H1
       clear H1
       obtain rfl := Option.some.inj H
       have p277 : 0 ≤ (x32_2 : Int) := odT zA_
       have q277 : x32_2 < (l0_0.length : Int) := odT zA_
       obtain ⟨ad277,A277_2,c277_2,e277,hx277_0,hx277_1,hx277_2,hl277_2,hi277_2⟩ := at_T45 HR0_0.out x32_2 p277 q277
       cases e277
       replace hx277_0 := bwC HB.out hx277_0
       replace hx277_1 := bwC HB.out hx277_1
       replace hx277_2 := bwC HB.out hx277_2
       have HR277_2 := As_ hi277_2
       have HC277_2 := As_ hl277_2
       clear hi277_2 hl277_2
       replace p277 := eq_true p277
       replace q277 := eq_true q277
       go_wp2_with (first|((with_reducible refine gate_dst (N := 5) rfl ?_);refine box_event ?hg (N := 5) ?hd (cs := #[.int .i64 0,.int .i64 0,.slice none 0 0]) (t := 45) ?hr ?_;(case hd => rfl);(case hg => rfl);(case hr => go_simp <;> rfl);intro gb278 hg w21 hbox hb;have b0_ := As_ (blk_below (g := gbn) (o := .cells #[.int .i64 (l0_0.length : Int)] 3 (0,0)) (zk_ BN.out) hb);have n0_ := As_ (zkb BK276.out hb);have n1_ := As_ (bwT (zb1 HB.out GE276.out) hb);have n2_ := As_ (hbox);have n3_ := As_ ((by rw [hg];exact (bwZ (zb1 HB.out GE276.out)) : w.heap.size ≤ gb278));have n4_ := As_ ((by rw [hg];exact (bwZ (zb1 HB.out GE276.out)) : w.heap.size ≤ gb278));have b1_ := As_ ((by rw [hg];exact Nat.ne_of_lt (blk_lt (g := gbn) (o := .cells #[.int .i64 (l0_0.length : Int)] 3 (0,0)) (zk_ BN.out))) : gbn ≠ gb278);have n5_ := As_ ((by rw [hg];exact Nat.ne_of_lt (zkl BK276.out) : gb276 ≠ gb278));have n6_ := As_ ((by rw [hg];exact Nat.ne_of_gt (zkl BK276.out) : gb278 ≠ gb276));clear BN BK276 HB;have BK276 := n0_;have BN := b0_;clear b0_;have NBn_278 := b1_;clear b1_; have HB := n1_;have BK278 := n2_;have GW278 := n3_;have GE278 := n4_;have NB276_278 := n5_;have NB278_276 := n6_;clear n0_ n1_ n2_ n3_ n4_ n5_ n6_ hb hbox hg;have hnb22 := NB278_276.out;have hnc22 := NB276_278.out;obtain ⟨hcz23_0,hcz23_1,hcz23_2,hfz23_0,hfz23_1,hfz23_2⟩ := bk3 BK278.out)|(go_at_call 65;(with_reducible refine (slices_ContainsFunc_int_int.calls _ _ ((rd_T45 l0_0 x32_2).f2) (l0_0.length : Int) true _ ?side1 ?side2 A19.out (by (with_reducible repeat first|apply bkN|apply bkD|apply bkA);refine blk_far ?_ NBn_278.out _;(with_reducible repeat first|apply bkN|apply bkD|apply bkA);refine blk_far ?_ NBn_278.out _;(with_reducible repeat first|apply bkN|apply bkD|apply bkA);refine blk_far ?_ NBn_278.out _;(with_reducible repeat first|apply bkN|apply bkD|apply bkA);exact BN.out)).mono ?_);(case side1 => exact Kd.C_below HR277_2.out (zb2 HB.out GE276.out GE278.out));(case side2 => exact HC277_2.out);rintro e w24 ⟨rfl,hb⟩;have b0_ := As_ (blk_below (g := gbn) (o := .cells #[.int .i64 (l0_0.length : Int)] 3 (0,0)) (by (with_reducible repeat first|apply bkN|apply bkD|apply bkA);refine blk_far ?_ NBn_278.out _;(with_reducible repeat first|apply bkN|apply bkD|apply bkA);refine blk_far ?_ NBn_278.out _;(with_reducible repeat first|apply bkN|apply bkD|apply bkA);refine blk_far ?_ NBn_278.out _;(with_reducible repeat first|apply bkN|apply bkD|apply bkA);exact BN.out) hb);have n0_ := As_ (blk_below (g := gb276) (o := .cells #[.slice (some ad277) l0_0.length c0_0,.int .i64 a0_1] 29 (0,0)) (by (with_reducible repeat first|apply bkN|apply bkD|apply bkA);refine blk_far ?_ NB276_278.out _;(with_reducible repeat first|apply bkN|apply bkD|apply bkA);refine blk_far ?_ NB276_278.out _;(with_reducible repeat first|apply bkN|apply bkD|apply bkA);refine blk_far ?_ NB276_278.out _;(with_reducible repeat first|apply bkN|apply bkD|apply bkA);exact BK276.out) hb);have n1_ := As_ (blk_below (g := gb278) (o := .cells #[.int .i64 ((rd_T45 l0_0 x32_2).f0),.int .i64 ((rd_T45 l0_0 x32_2).f1),.slice A277_2 ((rd_T45 l0_0 x32_2).f2).length c277_2] 45 (0,0)) (by (with_reducible repeat first|apply bkN|apply bkD|apply bkA);refine blk_put (cs := #[.int .i64 ((rd_T45 l0_0 x32_2).f0),.int .i64 ((rd_T45 l0_0 x32_2).f1),.slice none 0 0]) ?_ 2 _ rfl;(with_reducible repeat first|apply bkN|apply bkD|apply bkA);refine blk_put (cs := #[.int .i64 ((rd_T45 l0_0 x32_2).f0),.int .i64 0,.slice none 0 0]) ?_ 1 _ rfl;(with_reducible repeat first|apply bkN|apply bkD|apply bkA);refine blk_put (cs := #[.int .i64 0,.int .i64 0,.slice none 0 0]) ?_ 0 _ rfl;(with_reducible repeat first|apply bkN|apply bkD|apply bkA);exact BK278.out) hb);have n2_ := As_ (bwT (zb2 HB.out GE276.out GE278.out) hb);clear BN BK276 BK278 HB;have BK276 := n0_;have BN := b0_;clear b0_; have BK278 := n1_;have HB := n2_;clear n0_ n1_ n2_))
       go_ret
       exact ⟨zE_,zb2 HB.out GE276.out GE278.out⟩
      replace c20 := Bool.eq_false_iff.mpr c20
      subst c20
      have H1 : (impl_ValidGraph.l0 k2 (l0_0.length : Int) l0_0 (l0_0.length : Int) (wrap64 (x32_2 + 1)) l0_0 a0_1) = some r := by rw [if_neg (show ¬ (false = true) by decide)] at H;exact H
      clear H
      have H := H1
      clear H1
      have H' := As_ H
      clear H
      have p277 : 0 ≤ (x32_2 : Int) := odT zA_
      have q277 : x32_2 < (l0_0.length : Int) := odT zA_
      obtain ⟨ad277,A277_2,c277_2,e277,hx277_0,hx277_1,hx277_2,hl277_2,hi277_2⟩ := at_T45 HR0_0.out x32_2 p277 q277
      cases e277
      replace hx277_0 := bwC HB.out hx277_0
      replace hx277_1 := bwC HB.out hx277_1
      replace hx277_2 := bwC HB.out hx277_2
      have HR277_2 := As_ hi277_2
      have HC277_2 := As_ hl277_2
      clear hi277_2 hl277_2
      replace p277 := eq_true p277
      replace q277 := eq_true q277
      go_wp2_with (first|((with_reducible refine gate_dst (N := 5) rfl ?_);refine box_event ?hg (N := 5) ?hd (cs := #[.int .i64 0,.int .i64 0,.slice none 0 0]) (t := 45) ?hr ?_;(case hd => rfl);(case hg => rfl);(case hr => go_simp <;> rfl);intro gb278 hg w25 hbox hb;have b0_ := As_ (blk_below (g := gbn) (o := .cells #[.int .i64 (l0_0.length : Int)] 3 (0,0)) (zk_ BN.out) hb);have n0_ := As_ (zkb BK276.out hb);have n1_ := As_ (bwT (zb1 HB.out GE276.out) hb);have n2_ := As_ (hbox);have n3_ := As_ ((by rw [hg];exact (bwZ (zb1 HB.out GE276.out)) : w.heap.size ≤ gb278));have n4_ := As_ ((by rw [hg];exact (bwZ (zb1 HB.out GE276.out)) : w.heap.size ≤ gb278));have b1_ := As_ ((by rw [hg];exact Nat.ne_of_lt (blk_lt (g := gbn) (o := .cells #[.int .i64 (l0_0.length : Int)] 3 (0,0)) (zk_ BN.out))) : gbn ≠ gb278);have n5_ := As_ ((by rw [hg];exact Nat.ne_of_lt (zkl BK276.out) : gb276 ≠ gb278));have n6_ := As_ ((by rw [hg];exact Nat.ne_of_gt (zkl BK276.out) : gb278 ≠ gb276));clear BN BK276 HB;have BK276 := n0_;have BN := b0_;clear b0_;have NBn_278 := b1_;clear b1_; have HB := n1_;have BK278 := n2_;have GW278 := n3_;have GE278 := n4_;have NB276_278 := n5_;have NB278_276 := n6_;clear n0_ n1_ n2_ n3_ n4_ n5_ n6_ hb hbox hg;have hnb26 := NB278_276.out;have hnc26 := NB276_278.out;obtain ⟨hcz27_0,hcz27_1,hcz27_2,hfz27_0,hfz27_1,hfz27_2⟩ := bk3 BK278.out)|(go_at_call 65;(with_reducible refine (slices_ContainsFunc_int_int.calls _ _ ((rd_T45 l0_0 x32_2).f2) (l0_0.length : Int) false _ ?side1 ?side2 A19.out (by (with_reducible repeat first|apply bkN|apply bkD|apply bkA);refine blk_far ?_ NBn_278.out _;(with_reducible repeat first|apply bkN|apply bkD|apply bkA);refine blk_far ?_ NBn_278.out _;(with_reducible repeat first|apply bkN|apply bkD|apply bkA);refine blk_far ?_ NBn_278.out _;(with_reducible repeat first|apply bkN|apply bkD|apply bkA);exact BN.out)).mono ?_);(case side1 => exact Kd.C_below HR277_2.out (zb2 HB.out GE276.out GE278.out));(case side2 => exact HC277_2.out);rintro e w28 ⟨rfl,hb⟩;have b0_ := As_ (blk_below (g := gbn) (o := .cells #[.int .i64 (l0_0.length : Int)] 3 (0,0)) (by (with_reducible repeat first|apply bkN|apply bkD|apply bkA);refine blk_far ?_ NBn_278.out _;(with_reducible repeat first|apply bkN|apply bkD|apply bkA);refine blk_far ?_ NBn_278.out _;(with_reducible repeat first|apply bkN|apply bkD|apply bkA);refine blk_far ?_ NBn_278.out _;(with_reducible repeat first|apply bkN|apply bkD|apply bkA);exact BN.out) hb);have n0_ := As_ (blk_below (g := gb276) (o := .cells #[.slice (some ad277) l0_0.length c0_0,.int .i64 a0_1] 29 (0,0)) (by (with_reducible repeat first|apply bkN|apply bkD|apply bkA);refine blk_far ?_ NB276_278.out _;(with_reducible repeat first|apply bkN|apply bkD|apply bkA);refine blk_far ?_ NB276_278.out _;(with_reducible repeat first|apply bkN|apply bkD|apply bkA);refine blk_far ?_ NB276_278.out _;(with_reducible repeat first|apply bkN|apply bkD|apply bkA);exact BK276.out) hb);have n1_ := As_ (blk_below (g := gb278) (o := .cells #[.int .i64 ((rd_T45 l0_0 x32_2).f0),.int .i64 ((rd_T45 l0_0 x32_2).f1),.slice A277_2 ((rd_T45 l0_0 x32_2).f2).length c277_2] 45 (0,0)) (by (with_reducible repeat first|apply bkN|apply bkD|apply bkA);refine blk_put (cs := #[.int .i64 ((rd_T45 l0_0 x32_2).f0),.int .i64 ((rd_T45 l0_0 x32_2).f1),.slice none 0 0]) ?_ 2 _ rfl;(with_reducible repeat first|apply bkN|apply bkD|apply bkA);refine blk_put (cs := #[.int .i64 ((rd_T45 l0_0 x32_2).f0),.int .i64 0,.slice none 0 0]) ?_ 1 _ rfl;(with_reducible repeat first|apply bkN|apply bkD|apply bkA);refine blk_put (cs := #[.int .i64 0,.int .i64 0,.slice none 0 0]) ?_ 0 _ rfl;(with_reducible repeat first|apply bkN|apply bkD|apply bkA);exact BK278.out) hb);have n2_ := As_ (bwT (zb2 HB.out GE276.out GE278.out) hb);clear BN BK276 BK278 HB;have BK276 := n0_;have BN := b0_;clear b0_; have BK278 := n1_;have HB := n2_;clear n0_ n1_ n2_))
      go_roundg k2
      case measure => have := HJ1.out;have := HK2.out;omega
      case rel => exact ⟨(wrap64 (x32_2 + 1)),zT_,H',⟨by have := HJ1.out;have := HK2.out;omega⟩,⟨by (with_reducible repeat first|apply bkN|apply bkD|apply bkA);exact BK276.out⟩,⟨zb2 HB.out GE276.out GE278.out⟩,BN⟩
     rw [if_neg c12] at H
     have c12b0 : decide (x32_2 < (l0_0.length : Int)) = false := deF c12
     clear c12
     have H' := As_ H
     clear H
     obtain ⟨hcz29_0,hcz29_1,hfz29_0,hfz29_1⟩ := bk2 BK276.out
     go_wp2
     go_loopg [50] k2 (fun kq v50 w' => ∃ (x50_3 : Int),v50 = .int .i64 x50_3 ∧ Aside0 (impl_ValidGraph.l1 kq l0_0 (l0_0.length : Int) x50_3 l0_0 a0_1 = some r) ∧ Aside0 (kq ≤ k2) ∧ Aside0 (w'.heap[gb276]? = some (.cells #[(.slice A0_0 l0_0.length c0_0),.int .i64 a0_1] 29 (0,0))) ∧ Aside0 (Below w.heap.size w w'))
     case atStart => exact ⟨(0),zT_,H',⟨Nat.le_refl _⟩,⟨by (with_reducible repeat first|apply bkN|apply bkD|apply bkA);exact BK276.out⟩,⟨zb1 HB.out GE276.out⟩⟩
     case round =>
      clear H'
      obtain ⟨x50_3,rfl,HA,HK3,BK276,HB⟩ := hrel
      cases gk with
      | zero => exact absurd HA.out (fun h_ => (by cases h_))
      | succ k3 =>
       have H := HA.out
       clear HA
       simp only [impl_ValidGraph.l1] at H
       by_cases c30 : x50_3 < (l0_0.length : Int)
       ·rw [if_pos c30] at H
        have c30b0 : decide (x50_3 < (l0_0.length : Int)) = true := deT c30
        clear c30
        by_cases c31 : 0 ≤ x50_3
        rotate_left
        ·rw [if_neg c31] at H
         exact absurd H (by simp)
        rw [if_pos c31] at H
        have c31b0 : decide (0 ≤ x50_3) = true := deT c31
        clear c31
        by_cases c32 : x50_3 < (l0_0.length : Int)
        rotate_left
        ·rw [if_neg c32] at H
         exact absurd H (by simp)
        rw [if_pos c32] at H
        have c32b0 : decide (x50_3 < (l0_0.length : Int)) = true := deT c32
        clear c32
        replace H := obS H
        obtain ⟨t282,A330,H⟩ := H
        replace H : (if t282 = true then (impl_ValidGraph.l1 k3 l0_0 (l0_0.length : Int) (wrap64 (x50_3 + 1)) l0_0 a0_1) else (some false)) = some r := H
        have A33 := As_ A330
        clear A330
        by_cases c34 : t282 = true
        rotate_left
        ·replace c34 := Bool.eq_false_iff.mpr c34
         subst c34
         have H1 : (some false) = some r := by rw [if_neg (show ¬ (false = true) by decide)] at H;exact H
         clear H
         have H := H1
         clear H1
         obtain rfl := Option.some.inj H
         have p280 : 0 ≤ (x50_3 : Int) := odT zA_
         have q280 : x50_3 < (l0_0.length : Int) := odT zA_
         obtain ⟨ad280,A280_2,c280_2,e280,hx280_0,hx280_1,hx280_2,hl280_2,hi280_2⟩ := at_T45 HR0_0.out x50_3 p280 q280
         cases e280
         replace hx280_0 := bwC HB.out hx280_0
         replace hx280_1 := bwC HB.out hx280_1
         replace hx280_2 := bwC HB.out hx280_2
         have HR280_2 := As_ hi280_2
         have HC280_2 := As_ hl280_2
         clear hi280_2 hl280_2
         replace p280 := eq_true p280
         replace q280 := eq_true q280
         go_wp2_with (first|((with_reducible refine gate_dst (N := 7) rfl ?_);refine box_event ?hg (N := 7) ?hd (cs := #[.int .i64 0,.int .i64 0,.slice none 0 0]) (t := 45) ?hr ?_;(case hd => rfl);(case hg => rfl);(case hr => go_simp <;> rfl);intro gb281 hg w40 hbox hb;have n0_ := As_ (zkb BK276.out hb);have n1_ := As_ (bwT (zb1 HB.out GE276.out) hb);have n2_ := As_ (hbox);have n3_ := As_ ((by rw [hg];exact (bwZ (zb1 HB.out GE276.out)) : w.heap.size ≤ gb281));have n4_ := As_ ((by rw [hg];exact (bwZ (zb1 HB.out GE276.out)) : w.heap.size ≤ gb281));have n5_ := As_ ((by rw [hg];exact Nat.ne_of_lt (zkl BK276.out) : gb276 ≠ gb281));have n6_ := As_ ((by rw [hg];exact Nat.ne_of_gt (zkl BK276.out) : gb281 ≠ gb276));clear BK276 HB;revert n0_ n1_ n2_ n3_ n4_ n5_ n6_;intro BK276 HB BK281 GW281 GE281 NB276_281 NB281_276;clear hb hbox hg;have hnb41 := NB281_276.out;have hnc41 := NB276_281.out;obtain ⟨hcz42_0,hcz42_1,hcz42_2,hfz42_0,hfz42_1,hfz42_2⟩ := bk3 BK281.out;obtain ⟨hcz43_0,hcz43_1,hfz43_0,hfz43_1⟩ := bk2 BK276.out)|((with_reducible refine gate_callee (f := 67) rfl ?_);refine goesL_ (some 57) rfl rfl Try.func67 (by kernel_rfl) rfl #[.slice (some ad280) l0_0.length c0_0,.agg #[.int .i64 ((rd_T45 l0_0 x50_3).f0),.int .i64 ((rd_T45 l0_0 x50_3).f1),.slice A280_2 ((rd_T45 l0_0 x50_3).f2).length c280_2]] rfl zM_ ?_;(with_reducible refine (impl_nodeOk.calls k3 _ _ l0_0 ((rd_T45 l0_0 x50_3).f0) ((rd_T45 l0_0 x50_3).f1) _ _ ((rd_T45 l0_0 x50_3).f2) false _ ?side1 ?side2 ?side3 ?side4 A33.out).mono ?_);(case side1 => exact Kd.C_below HR0_0.out (zb2 HB.out GE276.out GE281.out));(case side2 => exact HC0_0.out);(case side3 => exact Kd.C_below HR280_2.out (zb2 HB.out GE276.out GE281.out));(case side4 => exact HC280_2.out);rintro e w44 ⟨rfl,hb⟩;refine ⟨_,rfl,?_⟩;have n0_ := As_ (blk_below (g := gb276) (o := .cells #[.slice (some ad280) l0_0.length c0_0,.int .i64 a0_1] 29 (0,0)) (by (with_reducible repeat first|apply bkN|apply bkD|apply bkA);refine blk_far ?_ NB276_281.out _;(with_reducible repeat first|apply bkN|apply bkD|apply bkA);refine blk_far ?_ NB276_281.out _;(with_reducible repeat first|apply bkN|apply bkD|apply bkA);refine blk_far ?_ NB276_281.out _;(with_reducible repeat first|apply bkN|apply bkD|apply bkA);exact BK276.out) hb);have n1_ := As_ (blk_below (g := gb281) (o := .cells #[.int .i64 ((rd_T45 l0_0 x50_3).f0),.int .i64 ((rd_T45 l0_0 x50_3).f1),.slice A280_2 ((rd_T45 l0_0 x50_3).f2).length c280_2] 45 (0,0)) (by (with_reducible repeat first|apply bkN|apply bkD|apply bkA);refine blk_put (cs := #[.int .i64 ((rd_T45 l0_0 x50_3).f0),.int .i64 ((rd_T45 l0_0 x50_3).f1),.slice none 0 0]) ?_ 2 _ rfl;(with_reducible repeat first|apply bkN|apply bkD|apply bkA);refine blk_put (cs := #[.int .i64 ((rd_T45 l0_0 x50_3).f0),.int .i64 0,.slice none 0 0]) ?_ 1 _ rfl;(with_reducible repeat first|apply bkN|apply bkD|apply bkA);refine blk_put (cs := #[.int .i64 0,.int .i64 0,.slice none 0 0]) ?_ 0 _ rfl;(with_reducible repeat first|apply bkN|apply bkD|apply bkA);exact BK281.out) hb);have n2_ := As_ (bwT (zb2 HB.out GE276.out GE281.out) hb);clear BK276 BK281 HB;revert n0_ n1_ n2_;intro BK276 BK281 HB))
         go_ret
         exact ⟨zE_,zb2 HB.out GE276.out GE281.out⟩
        subst c34
        have H1 : (impl_ValidGraph.l1 k3 l0_0 (l0_0.length : Int) (wrap64 (x50_3 + 1)) l0_0 a0_1) = some r := by rw [if_pos rfl] at H;exact H
        clear H
        have H := H1
        clear H1
        have H' := As_ H
        clear H
        have p280 : 0 ≤ (x50_3 : Int) := odT zA_
        have q280 : x50_3 < (l0_0.length : Int) := odT zA_
        obtain ⟨ad280,A280_2,c280_2,e280,hx280_0,hx280_1,hx280_2,hl280_2,hi280_2⟩ := at_T45 HR0_0.out x50_3 p280 q280
        cases e280
        replace hx280_0 := bwC HB.out hx280_0
        replace hx280_1 := bwC HB.out hx280_1
        replace hx280_2 := bwC HB.out hx280_2
        have HR280_2 := As_ hi280_2
        have HC280_2 := As_ hl280_2
        clear hi280_2 hl280_2
        replace p280 := eq_true p280
        replace q280 := eq_true q280
        go_wp2_with (first|((with_reducible refine gate_dst (N := 7) rfl ?_);refine box_event ?hg (N := 7) ?hd (cs := #[.int .i64 0,.int .i64 0,.slice none 0 0]) (t := 45) ?hr ?_;(case hd => rfl);(case hg => rfl);(case hr => go_simp <;> rfl);intro gb281 hg w35 hbox hb;have n0_ := As_ (zkb BK276.out hb);have n1_ := As_ (bwT (zb1 HB.out GE276.out) hb);have n2_ := As_ (hbox);have n3_ := As_ ((by rw [hg];exact (bwZ (zb1 HB.out GE276.out)) : w.heap.size ≤ gb281));have n4_ := As_ ((by rw [hg];exact (bwZ (zb1 HB.out GE276.out)) : w.heap.size ≤ gb281));have n5_ := As_ ((by rw [hg];exact Nat.ne_of_lt (zkl BK276.out) : gb276 ≠ gb281));have n6_ := As_ ((by rw [hg];exact Nat.ne_of_gt (zkl BK276.out) : gb281 ≠ gb276));clear BK276 HB;revert n0_ n1_ n2_ n3_ n4_ n5_ n6_;intro BK276 HB BK281 GW281 GE281 NB276_281 NB281_276;clear hb hbox hg;have hnb36 := NB281_276.out;have hnc36 := NB276_281.out;obtain ⟨hcz37_0,hcz37_1,hcz37_2,hfz37_0,hfz37_1,hfz37_2⟩ := bk3 BK281.out;obtain ⟨hcz38_0,hcz38_1,hfz38_0,hfz38_1⟩ := bk2 BK276.out)|((with_reducible refine gate_callee (f := 67) rfl ?_);refine goesL_ (some 57) rfl rfl Try.func67 (by kernel_rfl) rfl #[.slice (some ad280) l0_0.length c0_0,.agg #[.int .i64 ((rd_T45 l0_0 x50_3).f0),.int .i64 ((rd_T45 l0_0 x50_3).f1),.slice A280_2 ((rd_T45 l0_0 x50_3).f2).length c280_2]] rfl zM_ ?_;(with_reducible refine (impl_nodeOk.calls k3 _ _ l0_0 ((rd_T45 l0_0 x50_3).f0) ((rd_T45 l0_0 x50_3).f1) _ _ ((rd_T45 l0_0 x50_3).f2) true _ ?side1 ?side2 ?side3 ?side4 A33.out).mono ?_);(case side1 => exact Kd.C_below HR0_0.out (zb2 HB.out GE276.out GE281.out));(case side2 => exact HC0_0.out);(case side3 => exact Kd.C_below HR280_2.out (zb2 HB.out GE276.out GE281.out));(case side4 => exact HC280_2.out);rintro e w39 ⟨rfl,hb⟩;refine ⟨_,rfl,?_⟩;have n0_ := As_ (blk_below (g := gb276) (o := .cells #[.slice (some ad280) l0_0.length c0_0,.int .i64 a0_1] 29 (0,0)) (by (with_reducible repeat first|apply bkN|apply bkD|apply bkA);refine blk_far ?_ NB276_281.out _;(with_reducible repeat first|apply bkN|apply bkD|apply bkA);refine blk_far ?_ NB276_281.out _;(with_reducible repeat first|apply bkN|apply bkD|apply bkA);refine blk_far ?_ NB276_281.out _;(with_reducible repeat first|apply bkN|apply bkD|apply bkA);exact BK276.out) hb);have n1_ := As_ (blk_below (g := gb281) (o := .cells #[.int .i64 ((rd_T45 l0_0 x50_3).f0),.int .i64 ((rd_T45 l0_0 x50_3).f1),.slice A280_2 ((rd_T45 l0_0 x50_3).f2).length c280_2] 45 (0,0)) (by (with_reducible repeat first|apply bkN|apply bkD|apply bkA);refine blk_put (cs := #[.int .i64 ((rd_T45 l0_0 x50_3).f0),.int .i64 ((rd_T45 l0_0 x50_3).f1),.slice none 0 0]) ?_ 2 _ rfl;(with_reducible repeat first|apply bkN|apply bkD|apply bkA);refine blk_put (cs := #[.int .i64 ((rd_T45 l0_0 x50_3).f0),.int .i64 0,.slice none 0 0]) ?_ 1 _ rfl;(with_reducible repeat first|apply bkN|apply bkD|apply bkA);refine blk_put (cs := #[.int .i64 0,.int .i64 0,.slice none 0 0]) ?_ 0 _ rfl;(with_reducible repeat first|apply bkN|apply bkD|apply bkA);exact BK281.out) hb);have n2_ := As_ (bwT (zb2 HB.out GE276.out GE281.out) hb);clear BK276 BK281 HB;revert n0_ n1_ n2_;intro BK276 BK281 HB))
        go_roundg k3
        case measure => have := HJ1.out;have := HK2.out;have := HK3.out;omega
        case rel => exact ⟨(wrap64 (x50_3 + 1)),zT_,H',⟨by have := HJ1.out;have := HK2.out;have := HK3.out;omega⟩,⟨by (with_reducible repeat first|apply bkN|apply bkD|apply bkA);exact BK276.out⟩,⟨zb2 HB.out GE276.out GE281.out⟩⟩
       rw [if_neg c30] at H
       have c30b0 : decide (x50_3 < (l0_0.length : Int)) = false := deF c30
       clear c30
       have H' := As_ H
       clear H
       obtain ⟨hcz45_0,hcz45_1,hfz45_0,hfz45_1⟩ := bk2 BK276.out
       go_wp2
       go_loopg [63] k3 (fun kq v63 w' => ∃ (x63_4 : Int),v63 = .int .i64 x63_4 ∧ Aside0 (impl_ValidGraph.l2 kq (l0_0.length : Int) x63_4 l0_0 a0_1 = some r) ∧ Aside0 (kq ≤ k3) ∧ Aside0 (w'.heap[gb276]? = some (.cells #[(.slice A0_0 l0_0.length c0_0),.int .i64 a0_1] 29 (0,0))) ∧ Aside0 (Below w.heap.size w w'))
       case atStart => exact ⟨(0),zT_,H',⟨Nat.le_refl _⟩,⟨by (with_reducible repeat first|apply bkN|apply bkD|apply bkA);exact BK276.out⟩,⟨zb1 HB.out GE276.out⟩⟩
       case round =>
        clear H'
        obtain ⟨x63_4,rfl,HA,HK4,BK276,HB⟩ := hrel
        cases gk with
        | zero => exact absurd HA.out (fun h_ => (by cases h_))
        | succ k4 =>
         have H := HA.out
         clear HA
         simp only [impl_ValidGraph.l2] at H
         by_cases c46 : x63_4 < (l0_0.length : Int)
         rotate_left
         ·rw [if_neg c46] at H
          have c46b0 : decide (x63_4 < (l0_0.length : Int)) = false := deF c46
          clear c46
          obtain rfl := Option.some.inj H
          go_wp2
          go_ret
          exact ⟨zE_,zb1 HB.out GE276.out⟩

         rw [if_pos c46] at H
         have c46b0 : decide (x63_4 < (l0_0.length : Int)) = true := deT c46
         clear c46
         by_cases c47 : 0 ≤ x63_4
         rotate_left
         ·rw [if_neg c47] at H
          exact absurd H (by simp)
         rw [if_pos c47] at H
         have c47b0 : decide (0 ≤ x63_4) = true := deT c47
         clear c47
         by_cases c48 : x63_4 < (l0_0.length : Int)
         rotate_left
         ·rw [if_neg c48] at H
          exact absurd H (by simp)
         rw [if_pos c48] at H
         have c48b0 : decide (x63_4 < (l0_0.length : Int)) = true := deT c48
         clear c48
         by_cases c49 : ((rd_T45 l0_0 x63_4).f0) = 2
         rotate_left
         ·rw [if_neg c49] at H
          have c49b0 : (((rd_T45 l0_0 x63_4).f0) == 2) = false := beq_eq_false_iff_ne.mpr c49
          have c49b1 : (((rd_T45 l0_0 x63_4).f0) != 2) = true := bne_iff_ne.mpr c49
          have H' := As_ H
          clear H
          obtain ⟨hcz56_0,hcz56_1,hfz56_0,hfz56_1⟩ := bk2 BK276.out
          have p283 : 0 ≤ (x63_4 : Int) := odT zA_
          have q283 : x63_4 < (l0_0.length : Int) := odT zA_
          obtain ⟨ad283,A283_2,c283_2,e283,hx283_0,hx283_1,hx283_2,hl283_2,hi283_2⟩ := at_T45 HR0_0.out x63_4 p283 q283
          cases e283
          replace hx283_0 := bwC HB.out hx283_0
          replace hx283_1 := bwC HB.out hx283_1
          replace hx283_2 := bwC HB.out hx283_2
          have HR283_2 := As_ hi283_2
          have HC283_2 := As_ hl283_2
          clear hi283_2 hl283_2
          replace p283 := eq_true p283
          replace q283 := eq_true q283
          go_wp2
          go_roundg k4
          case measure => have := HJ1.out;have := HK2.out;have := HK3.out;have := HK4.out;omega
          case rel => exact ⟨(wrap64 (x63_4 + 1)),zT_,H',⟨by have := HJ1.out;have := HK2.out;have := HK3.out;have := HK4.out;omega⟩,⟨by (with_reducible repeat first|apply bkN|apply bkD|apply bkA);exact BK276.out⟩,⟨zb1 HB.out GE276.out⟩⟩
         rw [if_pos c49] at H
         have c49b0 : (((rd_T45 l0_0 x63_4).f0) == 2) = true := beq_iff_eq.mpr c49
         have c49b1 : (((rd_T45 l0_0 x63_4).f0) != 2) = false := bne_eq_false_iff_eq.mpr c49
         clear c49
         replace H := obS H
         obtain ⟨t284,A500,H⟩ := H
         replace H : (if t284 = true then (some false) else (impl_ValidGraph.l2 k4 (l0_0.length : Int) (wrap64 (x63_4 + 1)) l0_0 a0_1)) = some r := H
         have A50 := As_ A500
         clear A500
         by_cases c51 : t284 = true
         ·subst c51
          have H1 : (some false) = some r := by rw [if_pos rfl] at H;exact H
          clear H
          have H := H1
          clear H1
          obtain rfl := Option.some.inj H
          obtain ⟨hcz52_0,hcz52_1,hfz52_0,hfz52_1⟩ := bk2 BK276.out
          have p283 : 0 ≤ (x63_4 : Int) := odT zA_
          have q283 : x63_4 < (l0_0.length : Int) := odT zA_
          obtain ⟨ad283,A283_2,c283_2,e283,hx283_0,hx283_1,hx283_2,hl283_2,hi283_2⟩ := at_T45 HR0_0.out x63_4 p283 q283
          cases e283
          replace hx283_0 := bwC HB.out hx283_0
          replace hx283_1 := bwC HB.out hx283_1
          replace hx283_2 := bwC HB.out hx283_2
          have HR283_2 := As_ hi283_2
          have HC283_2 := As_ hl283_2
          clear hi283_2 hl283_2
          replace p283 := eq_true p283
          replace q283 := eq_true q283
          go_wp2_with (first|(go_at_call 68;(with_reducible refine (impl_circles.calls k4 _ _ l0_0 x63_4 true _ ?side1 ?side2 A50.out).mono ?_);(case side1 => exact zC_ (Kd.C_below HR0_0.out HB.out));(case side2 => exact HC0_0.out);rintro e w53 ⟨rfl,hb⟩;have n0_ := As_ (zkb BK276.out hb);have n1_ := As_ (bwT (zb1 HB.out GE276.out) hb);clear BK276 HB;revert n0_ n1_;intro BK276 HB))
          go_ret
          exact ⟨zE_,zb1 HB.out GE276.out⟩
         replace c51 := Bool.eq_false_iff.mpr c51
         subst c51
         have H1 : (impl_ValidGraph.l2 k4 (l0_0.length : Int) (wrap64 (x63_4 + 1)) l0_0 a0_1) = some r := by rw [if_neg (show ¬ (false = true) by decide)] at H;exact H
         clear H
         have H := H1
         clear H1
         have H' := As_ H
         clear H
         obtain ⟨hcz54_0,hcz54_1,hfz54_0,hfz54_1⟩ := bk2 BK276.out
         have p283 : 0 ≤ (x63_4 : Int) := odT zA_
         have q283 : x63_4 < (l0_0.length : Int) := odT zA_
         obtain ⟨ad283,A283_2,c283_2,e283,hx283_0,hx283_1,hx283_2,hl283_2,hi283_2⟩ := at_T45 HR0_0.out x63_4 p283 q283
         cases e283
         replace hx283_0 := bwC HB.out hx283_0
         replace hx283_1 := bwC HB.out hx283_1
         replace hx283_2 := bwC HB.out hx283_2
         have HR283_2 := As_ hi283_2
         have HC283_2 := As_ hl283_2
         clear hi283_2 hl283_2
         replace p283 := eq_true p283
         replace q283 := eq_true q283
         go_wp2_with (first|(go_at_call 68;(with_reducible refine (impl_circles.calls k4 _ _ l0_0 x63_4 false _ ?side1 ?side2 A50.out).mono ?_);(case side1 => exact zC_ (Kd.C_below HR0_0.out HB.out));(case side2 => exact HC0_0.out);rintro e w55 ⟨rfl,hb⟩;have n0_ := As_ (zkb BK276.out hb);have n1_ := As_ (bwT (zb1 HB.out GE276.out) hb);clear BK276 HB;revert n0_ n1_;intro BK276 HB))
         go_roundg k4
         case measure => have := HJ1.out;have := HK2.out;have := HK3.out;have := HK4.out;omega
         case rel => exact ⟨(wrap64 (x63_4 + 1)),zT_,H',⟨by have := HJ1.out;have := HK2.out;have := HK3.out;have := HK4.out;omega⟩,⟨by (with_reducible repeat first|apply bkN|apply bkD|apply bkA);exact BK276.out⟩,⟨zb1 HB.out GE276.out⟩⟩
end Go.Proofs.Ytfhakhbmbnbneaa.Q
