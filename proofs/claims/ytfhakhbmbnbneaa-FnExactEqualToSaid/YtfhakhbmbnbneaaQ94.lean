-- Written by wip/tools/qprint.py (a program of this claim's author) by means of the kit's printer.
import Derived.Test.YtfhakhbmbnbneaaQ0
namespace Go.Proofs.Ytfhakhbmbnbneaa.Q
open Go.RowKit Go.Proofs.YtfhakhbmbnbneaaW.PrintWords Go.Proofs.YtfhakhbmbnbneaaW.PrintLast Go.Proofs.YtfhakhbmbnbneaaW.PrintMore
attribute [local go_sem] max2_int min2_int max_two min_two max_three min_three max_four min_four   -- for this text's walks alone
set_option linter.unusedVariables false
set_option linter.unusedSimpArgs false

/-! ### impl_findKey: function 94 -/
def impl_findKey.l0 : Nat → List (S45) → List Int → Int → Int → Int → List Int → Option (Int)
 | 0,_,_,_,_,_,_ => none
 | k + 1,x0,x1,x7,x266000,x266001,x266002 => if x7 < (x1.length : Int) then (if 0 ≤ x7 then (if 0 ≤ (rd x1 x7) then (if (rd x1 x7) < (x0.length : Int) then (if ((rd_T45 x0 (rd x1 x7)).f0) = x266000 then (if ((rd_T45 x0 (rd x1 x7)).f1) = x266001 then (some x7) else (impl_findKey.l0 k x0 x1 (wrap64 (x7 + 2)) x266000 x266001 x266002)) else (impl_findKey.l0 k x0 x1 (wrap64 (x7 + 2)) x266000 x266001 x266002)) else (none)) else (none)) else (none)) else (some (-1))
def impl_findKey.f (k : Nat) (l0 : List (S45)) (l1 : List Int) (a2_0 : Int) (a2_1 : Int) (l2_2 : List Int) : Option (Int) := impl_findKey.l0 k l0 l1 0 a2_0 a2_1 l2_2
set_option maxRecDepth 100000 in
theorem impl_findKey.mono_l : ∀ k,(∀ y0 y1 y2 y3 y4 y5,LeO (impl_findKey.l0 k y0 y1 y2 y3 y4 y5) (impl_findKey.l0 (k + 1) y0 y1 y2 y3 y4 y5))
 | 0 => fun _ _ _ _ _ _ r h => (by cases h)
 | k + 1 => by
  have ih0 := impl_findKey.mono_l k
  ·intro y0 y1 y2 y3 y4 y5
   unfold impl_findKey.l0
   repeat' first
   | (with_reducible exact ih0 _ _ _ _ _ _)
   | (with_reducible exact LeO.refl _)
   | (with_reducible exact LeO.none _)
   | (with_reducible refine LeO.ite ?_ ?_)
   | (with_reducible refine LeO.bind ?_ (fun _ => ?_))
   | exact ih0 _ _ _ _ _ _
   | exact LeO.none _
   | refine LeO.ite ?_ ?_
   | refine LeO.bind ?_ (fun _ => ?_)
set_option maxRecDepth 100000 in
theorem impl_findKey.mono : ∀ a0 a1 a2 a3 a4 k,LeO (impl_findKey.f k a0 a1 a2 a3 a4) (impl_findKey.f (k + 1) a0 a1 a2 a3 a4) := by
 intro a0 a1 a2 a3 a4 k
 have ih0 := impl_findKey.mono_l k
 unfold impl_findKey.f
 repeat' first
   | (with_reducible exact ih0 _ _ _ _ _ _)
   | (with_reducible exact LeO.refl _)
   | (with_reducible exact LeO.none _)
   | (with_reducible refine LeO.ite ?_ ?_)
   | (with_reducible refine LeO.bind ?_ (fun _ => ?_))
   | exact ih0 _ _ _ _ _ _
   | exact LeO.none _
   | refine LeO.ite ?_ ?_
   | refine LeO.bind ?_ (fun _ => ?_)
set_option maxHeartbeats 8000000 in
set_option maxRecDepth 100000 in
theorem impl_findKey.calls (k : Nat) (A0 : Option Addr) (c0 : Nat) (l0 : List (S45)) (A1 : Option Addr) (c1 : Nat) (l1 : List Int) (a2_0 : Int) (a2_1 : Int) (A2_2 : Option Addr) (c2_2 : Nat) (l2_2 : List Int) (r : Int) (w : World) (hr0 : Kd.C k45 w A0 l0.length l0) (hc0 : l0.length ≤ c0) (hr1 : Kd.C (Kd.int .i64) w A1 l1.length l1) (hc1 : l1.length ≤ c1) (hr2_2 : Kd.C (Kd.int .i64) w A2_2 l2_2.length l2_2) (hc2_2 : l2_2.length ≤ c2_2) (h : impl_findKey.f k l0 l1 a2_0 a2_1 l2_2 = some r) :
  Calls Try.prog 94 #[.slice A0 l0.length c0,.slice A1 l1.length c1,.agg #[.int .i64 a2_0,.int .i64 a2_1,.slice A2_2 l2_2.length c2_2]] w fun e w' => e = .returned (.int .i64 r) ∧ Below w.heap.size w w' := by
 have hu45 := Try.underlying45
 have HR0 := As_ hr0
 have HC0 := As_ hc0
 clear hr0 hc0
 have HR1 := As_ hr1
 have HC1 := As_ hc1
 clear hr1 hc1
 have HR2_2 := As_ hr2_2
 have HC2_2 := As_ hc2_2
 clear hr2_2 hc2_2
 have HB := As_ (Below.refl w.heap.size w)
 have H : (impl_findKey.l0 k l0 l1 0 a2_0 a2_1 l2_2) = some r := h
 clear h
 have H' := As_ H
 clear H
 go_enter Try.func94,Try.ntmps94
 go_wp2_with (first|((with_reducible refine gate_dst (N := 5) rfl ?_);refine box_event ?hg (N := 5) ?hd (cs := #[.int .i64 a2_0,.int .i64 a2_1,.slice A2_2 l2_2.length c2_2]) (t := 45) ?hr ?_;(case hd => rfl);(case hg => rfl);(case hr => go_simp <;> rfl);intro gb265 hg w4 hbox hb;have n0_ := As_ (bwT (zb0 HB.out) hb);have n1_ := As_ (hbox);have n2_ := As_ ((by rw [hg];exact (bwZ (zb0 HB.out)) : w.heap.size ≤ gb265));have n3_ := As_ ((by rw [hg];exact (bwZ (zb0 HB.out)) : w.heap.size ≤ gb265));clear HB;revert n0_ n1_ n2_ n3_;intro HB BK265 GW265 GE265;clear hb hbox hg))
 go_loopg [7] k (fun kq v7 w' => ∃ (x7_1 : Int),v7 = .int .i64 x7_1 ∧ Aside0 (impl_findKey.l0 kq l0 l1 x7_1 a2_0 a2_1 l2_2 = some r) ∧ Aside0 (kq ≤ k) ∧ Aside0 (w'.heap[gb265]? = some (.cells #[.int .i64 a2_0,.int .i64 a2_1,(.slice A2_2 l2_2.length c2_2)] 45 (0,0))) ∧ Aside0 (Below w.heap.size w w'))
 case atStart => exact ⟨(0),zT_,H',⟨Nat.le_refl _⟩,⟨by (with_reducible repeat first|apply bkN|apply bkD|apply bkA);exact BK265.out⟩,⟨zb1 HB.out GE265.out⟩⟩
 case round =>
  clear H'
  obtain ⟨x7_1,rfl,HA,HK1,BK265,HB⟩ := hrel
  cases gk with
  | zero => exact absurd HA.out (fun h_ => (by cases h_))
  | succ k1 =>
   have H := HA.out
   clear HA
   simp only [impl_findKey.l0] at H
   by_cases c5 : x7_1 < (l1.length : Int)
   rotate_left
   ·rw [if_neg c5] at H
    have c5b0 : decide (x7_1 < (l1.length : Int)) = false := deF c5
    clear c5
    obtain rfl := Option.some.inj H
    go_wp2
    go_ret
    exact ⟨zE_,zb1 HB.out GE265.out⟩

   rw [if_pos c5] at H
   have c5b0 : decide (x7_1 < (l1.length : Int)) = true := deT c5
   clear c5
   by_cases c6 : 0 ≤ x7_1
   rotate_left
   ·rw [if_neg c6] at H
    exact absurd H (by simp)
   rw [if_pos c6] at H
   have c6b0 : decide (0 ≤ x7_1) = true := deT c6
   clear c6
   by_cases c7 : 0 ≤ (rd l1 x7_1)
   rotate_left
   ·rw [if_neg c7] at H
    exact absurd H (by simp)
   rw [if_pos c7] at H
   have c7b0 : decide (0 ≤ (rd l1 x7_1)) = true := deT c7
   clear c7
   by_cases c8 : (rd l1 x7_1) < (l0.length : Int)
   rotate_left
   ·rw [if_neg c8] at H
    exact absurd H (by simp)
   rw [if_pos c8] at H
   have c8b0 : decide ((rd l1 x7_1) < (l0.length : Int)) = true := deT c8
   clear c8
   by_cases c9 : ((rd_T45 l0 (rd l1 x7_1)).f0) = a2_0
   rotate_left
   ·rw [if_neg c9] at H
    have c9b0 : (((rd_T45 l0 (rd l1 x7_1)).f0) == a2_0) = false := beq_eq_false_iff_ne.mpr c9
    have c9b1 : (((rd_T45 l0 (rd l1 x7_1)).f0) != a2_0) = true := bne_iff_ne.mpr c9
    have H' := As_ H
    clear H
    have p266 : 0 ≤ (x7_1 : Int) := odT zA_
    have q266 : x7_1 < (l1.length : Int) := odT zA_
    obtain ⟨ad266,e266,hx266_0⟩ := Kd.at_int HR1.out x7_1 p266 q266
    cases e266
    replace hx266_0 := bwC HB.out hx266_0
    replace p266 := eq_true p266
    replace q266 := eq_true q266
    have p267 : 0 ≤ ((rd l1 x7_1) : Int) := odT zA_
    have q267 : (rd l1 x7_1) < (l0.length : Int) := odT zA_
    obtain ⟨ad267,A267_2,c267_2,e267,hx267_0,hx267_1,hx267_2,hl267_2,hi267_2⟩ := at_T45 HR0.out (rd l1 x7_1) p267 q267
    cases e267
    replace hx267_0 := bwC HB.out hx267_0
    replace hx267_1 := bwC HB.out hx267_1
    replace hx267_2 := bwC HB.out hx267_2
    have HR267_2 := As_ hi267_2
    have HC267_2 := As_ hl267_2
    clear hi267_2 hl267_2
    replace p267 := eq_true p267
    replace q267 := eq_true q267
    go_wp2_with (first|((with_reducible refine gate_dst (N := 8) rfl ?_);refine box_event ?hg (N := 8) ?hd (cs := #[.int .i64 0,.int .i64 0,.slice none 0 0]) (t := 45) ?hr ?_;(case hd => rfl);(case hg => rfl);(case hr => go_simp <;> rfl);intro gb268 hg w19 hbox hb;have n0_ := As_ (zkb BK265.out hb);have n1_ := As_ (bwT (zb1 HB.out GE265.out) hb);have n2_ := As_ (hbox);have n3_ := As_ ((by rw [hg];exact (bwZ (zb1 HB.out GE265.out)) : w.heap.size ≤ gb268));have n4_ := As_ ((by rw [hg];exact (bwZ (zb1 HB.out GE265.out)) : w.heap.size ≤ gb268));have n5_ := As_ ((by rw [hg];exact Nat.ne_of_lt (zkl BK265.out) : gb265 ≠ gb268));have n6_ := As_ ((by rw [hg];exact Nat.ne_of_gt (zkl BK265.out) : gb268 ≠ gb265));clear BK265 HB;revert n0_ n1_ n2_ n3_ n4_ n5_ n6_;intro BK265 HB BK268 GW268 GE268 NB265_268 NB268_265;clear hb hbox hg;have hnb20 := NB268_265.out;have hnc20 := NB265_268.out;obtain ⟨hcz21_0,hcz21_1,hcz21_2,hfz21_0,hfz21_1,hfz21_2⟩ := bk3 BK268.out;obtain ⟨hcz22_0,hcz22_1,hcz22_2,hfz22_0,hfz22_1,hfz22_2⟩ := bk3 BK265.out))
    go_roundg k1
    case measure => have := HK1.out;omega
    case rel => exact ⟨(wrap64 (x7_1 + 2)),zT_,H',⟨by have := HK1.out;omega⟩,⟨by (with_reducible repeat first|apply bkN|apply bkD|apply bkA);refine blk_far ?_ NB265_268.out _;(with_reducible repeat first|apply bkN|apply bkD|apply bkA);refine blk_far ?_ NB265_268.out _;(with_reducible repeat first|apply bkN|apply bkD|apply bkA);refine blk_far ?_ NB265_268.out _;(with_reducible repeat first|apply bkN|apply bkD|apply bkA);exact BK265.out⟩,⟨zb2 HB.out GE265.out GE268.out⟩⟩
   rw [if_pos c9] at H
   have c9b0 : (((rd_T45 l0 (rd l1 x7_1)).f0) == a2_0) = true := beq_iff_eq.mpr c9
   have c9b1 : (((rd_T45 l0 (rd l1 x7_1)).f0) != a2_0) = false := bne_eq_false_iff_eq.mpr c9
   clear c9
   by_cases c10 : ((rd_T45 l0 (rd l1 x7_1)).f1) = a2_1
   ·rw [if_pos c10] at H
    have c10b0 : (((rd_T45 l0 (rd l1 x7_1)).f1) == a2_1) = true := beq_iff_eq.mpr c10
    have c10b1 : (((rd_T45 l0 (rd l1 x7_1)).f1) != a2_1) = false := bne_eq_false_iff_eq.mpr c10
    clear c10
    obtain rfl := Option.some.inj H
    have p266 : 0 ≤ (x7_1 : Int) := odT zA_
    have q266 : x7_1 < (l1.length : Int) := odT zA_
    obtain ⟨ad266,e266,hx266_0⟩ := Kd.at_int HR1.out x7_1 p266 q266
    cases e266
    replace hx266_0 := bwC HB.out hx266_0
    replace p266 := eq_true p266
    replace q266 := eq_true q266
    have p267 : 0 ≤ ((rd l1 x7_1) : Int) := odT zA_
    have q267 : (rd l1 x7_1) < (l0.length : Int) := odT zA_
    obtain ⟨ad267,A267_2,c267_2,e267,hx267_0,hx267_1,hx267_2,hl267_2,hi267_2⟩ := at_T45 HR0.out (rd l1 x7_1) p267 q267
    cases e267
    replace hx267_0 := bwC HB.out hx267_0
    replace hx267_1 := bwC HB.out hx267_1
    replace hx267_2 := bwC HB.out hx267_2
    have HR267_2 := As_ hi267_2
    have HC267_2 := As_ hl267_2
    clear hi267_2 hl267_2
    replace p267 := eq_true p267
    replace q267 := eq_true q267
    go_wp2_with (first|((with_reducible refine gate_dst (N := 8) rfl ?_);refine box_event ?hg (N := 8) ?hd (cs := #[.int .i64 0,.int .i64 0,.slice none 0 0]) (t := 45) ?hr ?_;(case hd => rfl);(case hg => rfl);(case hr => go_simp <;> rfl);intro gb268 hg w11 hbox hb;have n0_ := As_ (zkb BK265.out hb);have n1_ := As_ (bwT (zb1 HB.out GE265.out) hb);have n2_ := As_ (hbox);have n3_ := As_ ((by rw [hg];exact (bwZ (zb1 HB.out GE265.out)) : w.heap.size ≤ gb268));have n4_ := As_ ((by rw [hg];exact (bwZ (zb1 HB.out GE265.out)) : w.heap.size ≤ gb268));have n5_ := As_ ((by rw [hg];exact Nat.ne_of_lt (zkl BK265.out) : gb265 ≠ gb268));have n6_ := As_ ((by rw [hg];exact Nat.ne_of_gt (zkl BK265.out) : gb268 ≠ gb265));clear BK265 HB;revert n0_ n1_ n2_ n3_ n4_ n5_ n6_;intro BK265 HB BK268 GW268 GE268 NB265_268 NB268_265;clear hb hbox hg;have hnb12 := NB268_265.out;have hnc12 := NB265_268.out;obtain ⟨hcz13_0,hcz13_1,hcz13_2,hfz13_0,hfz13_1,hfz13_2⟩ := bk3 BK268.out;obtain ⟨hcz14_0,hcz14_1,hcz14_2,hfz14_0,hfz14_1,hfz14_2⟩ := bk3 BK265.out))
    go_ret
    exact ⟨zE_,zb2 HB.out GE265.out GE268.out⟩
   rw [if_neg c10] at H
   have c10b0 : (((rd_T45 l0 (rd l1 x7_1)).f1) == a2_1) = false := beq_eq_false_iff_ne.mpr c10
   have c10b1 : (((rd_T45 l0 (rd l1 x7_1)).f1) != a2_1) = true := bne_iff_ne.mpr c10
   have H' := As_ H
   clear H
   have p266 : 0 ≤ (x7_1 : Int) := odT zA_
   have q266 : x7_1 < (l1.length : Int) := odT zA_
   obtain ⟨ad266,e266,hx266_0⟩ := Kd.at_int HR1.out x7_1 p266 q266
   cases e266
   replace hx266_0 := bwC HB.out hx266_0
   replace p266 := eq_true p266
   replace q266 := eq_true q266
   have p267 : 0 ≤ ((rd l1 x7_1) : Int) := odT zA_
   have q267 : (rd l1 x7_1) < (l0.length : Int) := odT zA_
   obtain ⟨ad267,A267_2,c267_2,e267,hx267_0,hx267_1,hx267_2,hl267_2,hi267_2⟩ := at_T45 HR0.out (rd l1 x7_1) p267 q267
   cases e267
   replace hx267_0 := bwC HB.out hx267_0
   replace hx267_1 := bwC HB.out hx267_1
   replace hx267_2 := bwC HB.out hx267_2
   have HR267_2 := As_ hi267_2
   have HC267_2 := As_ hl267_2
   clear hi267_2 hl267_2
   replace p267 := eq_true p267
   replace q267 := eq_true q267
   go_wp2_with (first|((with_reducible refine gate_dst (N := 8) rfl ?_);refine box_event ?hg (N := 8) ?hd (cs := #[.int .i64 0,.int .i64 0,.slice none 0 0]) (t := 45) ?hr ?_;(case hd => rfl);(case hg => rfl);(case hr => go_simp <;> rfl);intro gb268 hg w15 hbox hb;have n0_ := As_ (zkb BK265.out hb);have n1_ := As_ (bwT (zb1 HB.out GE265.out) hb);have n2_ := As_ (hbox);have n3_ := As_ ((by rw [hg];exact (bwZ (zb1 HB.out GE265.out)) : w.heap.size ≤ gb268));have n4_ := As_ ((by rw [hg];exact (bwZ (zb1 HB.out GE265.out)) : w.heap.size ≤ gb268));have n5_ := As_ ((by rw [hg];exact Nat.ne_of_lt (zkl BK265.out) : gb265 ≠ gb268));have n6_ := As_ ((by rw [hg];exact Nat.ne_of_gt (zkl BK265.out) : gb268 ≠ gb265));clear BK265 HB;revert n0_ n1_ n2_ n3_ n4_ n5_ n6_;intro BK265 HB BK268 GW268 GE268 NB265_268 NB268_265;clear hb hbox hg;have hnb16 := NB268_265.out;have hnc16 := NB265_268.out;obtain ⟨hcz17_0,hcz17_1,hcz17_2,hfz17_0,hfz17_1,hfz17_2⟩ := bk3 BK268.out;obtain ⟨hcz18_0,hcz18_1,hcz18_2,hfz18_0,hfz18_1,hfz18_2⟩ := bk3 BK265.out))
   go_roundg k1
   case measure => have := HK1.out;omega
   case rel => exact ⟨(wrap64 (x7_1 + 2)),zT_,H',⟨by have := HK1.out;omega⟩,⟨by (with_reducible repeat first|apply bkN|apply bkD|apply bkA);refine blk_far ?_ NB265_268.out _;(with_reducible repeat first|apply bkN|apply bkD|apply bkA);refine blk_far ?_ NB265_268.out _;(with_reducible repeat first|apply bkN|apply bkD|apply bkA);refine blk_far ?_ NB265_268.out _;(with_reducible repeat first|apply bkN|apply bkD|apply bkA);exact BK265.out⟩,⟨zb2 HB.out GE265.out GE268.out⟩⟩
end Go.Proofs.Ytfhakhbmbnbneaa.Q
