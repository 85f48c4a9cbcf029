-- Written by wip/tools/qprint.py (a program of this claim's author) by means of the kit's printer.
import Derived.Test.YtfhakhbmbnbneaaQ0
import Derived.Test.YtfhakhbmbnbneaaQ70
import Derived.Test.YtfhakhbmbnbneaaQ81
import Derived.Test.YtfhakhbmbnbneaaQ83
namespace Go.Proofs.Ytfhakhbmbnbneaa.Q
open Go.RowKit Go.Proofs.YtfhakhbmbnbneaaW.PrintWords Go.Proofs.YtfhakhbmbnbneaaW.PrintLast Go.Proofs.YtfhakhbmbnbneaaW.PrintMore
attribute [local go_sem] max2_int min2_int max_two min_two max_three min_three max_four min_four   -- for this text's walks alone
set_option linter.unusedVariables false
set_option linter.unusedSimpArgs false

/-! ### spec_validGraph: function 48 -/
mutual
def spec_validGraph.j0 : Nat → Bool → List (S45) → Int → Option (Bool)
 | 0,_,_,_ => none
 | k + 1,x19,x158000,x158001 => if x19 = true then (some false) else (spec_validGraph.l0 k 0 x158000 x158001)
def spec_validGraph.l0 : Nat → Int → List (S45) → Int → Option (Bool)
 | 0,_,_,_ => none
 | k + 1,x3,x158000,x158001 => if x3 < (x158000.length : Int) then (if 0 ≤ x3 then ((spec_validNode.f k x158000 x158001 ((rd_T45 x158000 x3).f0) ((rd_T45 x158000 x3).f1) ((rd_T45 x158000 x3).f2)).bind fun t161 => (if t161 = true then (spec_validGraph.l0 k (wrap64 (x3 + 1)) x158000 x158001) else (some false))) else (none)) else (spec_validGraph.l1 k 0 x158000 x158001)
def spec_validGraph.l1 : Nat → Int → List (S45) → Int → Option (Bool)
 | 0,_,_,_ => none
 | k + 1,x4,x158000,x158001 => if x4 < (x158000.length : Int) then (if 0 ≤ x4 then (if ((rd_T45 x158000 x4).f0) = 2 then ((spec_tupleReach.f k x158000 x158001 x4).bind fun t163 => ((spec_placeIn.f k t163 x4).bind fun t166 => (if t166 ≥ 0 then (some false) else (spec_validGraph.l1 k (wrap64 (x4 + 1)) x158000 x158001)))) else (spec_validGraph.l1 k (wrap64 (x4 + 1)) x158000 x158001)) else (none)) else (some true)
end
def spec_validGraph.f (k : Nat) (l0_0 : List (S45)) (a0_1 : Int) : Option (Bool) := (spec_inRange.f (l0_0.length : Int) 1 12).bind fun t158 => (if t158 = true then ((spec_inRange.f a0_1 0 (wrap64 ((l0_0.length : Int) - 1))).bind fun t159 => (spec_validGraph.j0 k (!t159) l0_0 a0_1)) else (spec_validGraph.j0 k true l0_0 a0_1))
set_option maxRecDepth 100000 in
theorem spec_validGraph.mono_l : ∀ k,(∀ y0 y1 y2,LeO (spec_validGraph.j0 k y0 y1 y2) (spec_validGraph.j0 (k + 1) y0 y1 y2)) ∧ (∀ y0 y1 y2,LeO (spec_validGraph.l0 k y0 y1 y2) (spec_validGraph.l0 (k + 1) y0 y1 y2)) ∧ (∀ y0 y1 y2,LeO (spec_validGraph.l1 k y0 y1 y2) (spec_validGraph.l1 (k + 1) y0 y1 y2))
 | 0 => ⟨fun _ _ _ r h => (by cases h),fun _ _ _ r h => (by cases h),fun _ _ _ r h => (by cases h)⟩
 | k + 1 => by
  obtain ⟨ih0,ih1,ih2⟩ := spec_validGraph.mono_l k
  refine ⟨?_,?_,?_⟩
  ·intro y0 y1 y2
   unfold spec_validGraph.j0
   repeat' first
   | (with_reducible exact ih0 _ _ _)
   | (with_reducible exact ih1 _ _ _)
   | (with_reducible exact ih2 _ _ _)
   | (with_reducible exact spec_placeIn.mono _ _ _)
   | (with_reducible exact spec_tupleReach.mono _ _ _ _)
   | (with_reducible exact spec_validNode.mono _ _ _ _ _ _)
   | (with_reducible exact LeO.refl _)
   | (with_reducible exact LeO.none _)
   | (with_reducible refine LeO.ite ?_ ?_)
   | (with_reducible refine LeO.bind ?_ (fun _ => ?_))
   | exact ih0 _ _ _
   | exact ih1 _ _ _
   | exact ih2 _ _ _
   | exact spec_placeIn.mono _ _ _
   | exact spec_tupleReach.mono _ _ _ _
   | exact spec_validNode.mono _ _ _ _ _ _
   | exact LeO.none _
   | refine LeO.ite ?_ ?_
   | refine LeO.bind ?_ (fun _ => ?_)
  ·intro y0 y1 y2
   unfold spec_validGraph.l0
   repeat' first
   | (with_reducible exact ih0 _ _ _)
   | (with_reducible exact ih1 _ _ _)
   | (with_reducible exact ih2 _ _ _)
   | (with_reducible exact spec_placeIn.mono _ _ _)
   | (with_reducible exact spec_tupleReach.mono _ _ _ _)
   | (with_reducible exact spec_validNode.mono _ _ _ _ _ _)
   | (with_reducible exact LeO.refl _)
   | (with_reducible exact LeO.none _)
   | (with_reducible refine LeO.ite ?_ ?_)
   | (with_reducible refine LeO.bind ?_ (fun _ => ?_))
   | exact ih0 _ _ _
   | exact ih1 _ _ _
   | exact ih2 _ _ _
   | exact spec_placeIn.mono _ _ _
   | exact spec_tupleReach.mono _ _ _ _
   | exact spec_validNode.mono _ _ _ _ _ _
   | exact LeO.none _
   | refine LeO.ite ?_ ?_
   | refine LeO.bind ?_ (fun _ => ?_)
  ·intro y0 y1 y2
   unfold spec_validGraph.l1
   repeat' first
   | (with_reducible exact ih0 _ _ _)
   | (with_reducible exact ih1 _ _ _)
   | (with_reducible exact ih2 _ _ _)
   | (with_reducible exact spec_placeIn.mono _ _ _)
   | (with_reducible exact spec_tupleReach.mono _ _ _ _)
   | (with_reducible exact spec_validNode.mono _ _ _ _ _ _)
   | (with_reducible exact LeO.refl _)
   | (with_reducible exact LeO.none _)
   | (with_reducible refine LeO.ite ?_ ?_)
   | (with_reducible refine LeO.bind ?_ (fun _ => ?_))
   | exact ih0 _ _ _
   | exact ih1 _ _ _
   | exact ih2 _ _ _
   | exact spec_placeIn.mono _ _ _
   | exact spec_tupleReach.mono _ _ _ _
   | exact spec_validNode.mono _ _ _ _ _ _
   | exact LeO.none _
   | refine LeO.ite ?_ ?_
   | refine LeO.bind ?_ (fun _ => ?_)
set_option maxRecDepth 100000 in
theorem spec_validGraph.mono : ∀ a0 a1 k,LeO (spec_validGraph.f k a0 a1) (spec_validGraph.f (k + 1) a0 a1) := by
 intro a0 a1 k
 obtain ⟨ih0,ih1,ih2⟩ := spec_validGraph.mono_l k
 unfold spec_validGraph.f
 repeat' first
   | (with_reducible exact ih0 _ _ _)
   | (with_reducible exact ih1 _ _ _)
   | (with_reducible exact ih2 _ _ _)
   | (with_reducible exact spec_placeIn.mono _ _ _)
   | (with_reducible exact spec_tupleReach.mono _ _ _ _)
   | (with_reducible exact spec_validNode.mono _ _ _ _ _ _)
   | (with_reducible exact LeO.refl _)
   | (with_reducible exact LeO.none _)
   | (with_reducible refine LeO.ite ?_ ?_)
   | (with_reducible refine LeO.bind ?_ (fun _ => ?_))
   | exact ih0 _ _ _
   | exact ih1 _ _ _
   | exact ih2 _ _ _
   | exact spec_placeIn.mono _ _ _
   | exact spec_tupleReach.mono _ _ _ _
   | exact spec_validNode.mono _ _ _ _ _ _
   | exact LeO.none _
   | refine LeO.ite ?_ ?_
   | refine LeO.bind ?_ (fun _ => ?_)
def spec_validGraph.T6 : Bool × List (List Nat × List Nat) := (true,[([],[]),([],[]),([1],[1]),([],[]),([2,3],[2,3]),([4],[4]),([0,5],[0,5]),([6],[6])])
def spec_validGraph.B6 : List Nat := [0,0,2,0,14,30,63,127]
theorem spec_validGraph.tab6 : rtab .any (opsOf Try.f48 6) = spec_validGraph.T6 := by kernel_rfl
theorem spec_validGraph.bits6 : waitsOk spec_validGraph.T6.2 spec_validGraph.B6 = true := by kernel_rfl
set_option maxHeartbeats 8000000 in
set_option maxRecDepth 100000 in
theorem spec_validGraph.calls (k : Nat) (A0_0 : Option Addr) (c0_0 : Nat) (l0_0 : List (S45)) (a0_1 : Int) (r : Bool) (w : World) (hr0_0 : Kd.C k45 w A0_0 l0_0.length l0_0) (hc0_0 : l0_0.length ≤ c0_0) (h : spec_validGraph.f k l0_0 a0_1 = some r) :
  Calls Try.prog 48 #[.agg #[.slice A0_0 l0_0.length c0_0,.int .i64 a0_1]] w fun e w' => e = .returned (.bool r) ∧ Below w.heap.size w w' := by
 have hu29 := Try.underlying29
 have hu45 := Try.underlying45
 have HR0_0 := As_ hr0_0
 have HC0_0 := As_ hc0_0
 clear hr0_0 hc0_0
 have HB := As_ (Below.refl w.heap.size w)
 have H : ((spec_inRange.f (l0_0.length : Int) 1 12).bind fun t158 => (if t158 = true then ((spec_inRange.f a0_1 0 (wrap64 ((l0_0.length : Int) - 1))).bind fun t159 => (spec_validGraph.j0 k (!t159) l0_0 a0_1)) else (spec_validGraph.j0 k true l0_0 a0_1))) = some r := h
 clear h
 have HC2 := As_ H
 clear H
 go_enter Try.func48,Try.ntmps48
 go_upto_region 1 with (first|((with_reducible refine gate_dst (N := 1) rfl ?_);(try (refine gate_guard (by rfl) ?_;dsimp only));refine box_event ?hg (N := 1) ?hd (cs := #[.slice A0_0 l0_0.length c0_0,.int .i64 a0_1]) (t := 29) ?hr ?_;(case hd => rfl);(case hg => rfl);(case hr => go_simp <;> rfl);intro gb157 hg w3 hbox hb;have n0_ := As_ (bwT (zb0 HB.out) hb);have n1_ := As_ (hbox);have n2_ := As_ ((by rw [hg];exact (bwZ (zb0 HB.out)) : w.heap.size ≤ gb157));have n3_ := As_ ((by rw [hg];exact (bwZ (zb0 HB.out)) : w.heap.size ≤ gb157));clear HB;revert n0_ n1_ n2_ n3_;intro HB BK157 GW157 GE157;clear hb hbox hg))
 (try simp only [Act.put,List.setIfInBounds_toArray,List.set_cons_zero,List.set_cons_succ])
 go_cut [19] (fun v19 wc => ∃ (kq : Nat) (x19_1 : Bool),v19 = .bool x19_1 ∧ Aside0 (spec_validGraph.j0 kq x19_1 l0_0 a0_1 = some r) ∧ Aside0 (kq ≤ k) ∧ Aside0 (wc.heap[gb157]? = some (.cells #[(.slice A0_0 l0_0.length c0_0),.int .i64 a0_1] 29 (0,0))) ∧ Aside0 (Below w.heap.size w wc))
 case first =>
  have H := HC2.out
  clear HC2
  replace H := obS H
  obtain ⟨t158,A40,H⟩ := H
  replace H : (if t158 = true then ((spec_inRange.f a0_1 0 (wrap64 ((l0_0.length : Int) - 1))).bind fun t159 => (spec_validGraph.j0 k (!t159) l0_0 a0_1)) else (spec_validGraph.j0 k true l0_0 a0_1)) = some r := H
  have A4 := As_ A40
  clear A40
  by_cases c5 : t158 = true
  rotate_left
  ·replace c5 := Bool.eq_false_iff.mpr c5
   subst c5
   have H1 : (spec_validGraph.j0 k true l0_0 a0_1) = some r := by rw [if_neg (show ¬ (false = true) by decide)] at H;exact H
   clear H
   have H := H1
   clear H1
   have H' := As_ H
   clear H
   obtain ⟨hcz8_0,hcz8_1,hfz8_0,hfz8_1⟩ := bk2 BK157.out
   go_wp2_with (first|((with_reducible refine gate_callee (f := 70) rfl ?_);refine goesL_ (some 8) rfl rfl Try.func70 (by kernel_rfl) rfl #[.int .i64 (l0_0.length : Int),.int .i64 1,.int .i64 12] rfl zM_ ?_;(with_reducible refine (spec_inRange.calls (l0_0.length : Int) 1 12 false _ A4.out).mono ?_);rintro e w' ⟨rfl,⟨nd,rfl⟩⟩;refine ⟨_,rfl,?_⟩))
   go_meet
   case rel => exact ⟨_,(true),zT_,H',⟨by first|omega|exact Nat.le_refl _⟩,⟨by (with_reducible repeat first|apply bkN|apply bkD|apply bkA);exact BK157.out⟩,⟨zb1 HB.out GE157.out⟩⟩
  subst c5
  have H1 : ((spec_inRange.f a0_1 0 (wrap64 ((l0_0.length : Int) - 1))).bind fun t159 => (spec_validGraph.j0 k (!t159) l0_0 a0_1)) = some r := by rw [if_pos rfl] at H;exact H
  clear H
  have H := H1
  clear H1
  replace H := obS H
  obtain ⟨t159,A60,H⟩ := H
  replace H : (spec_validGraph.j0 k (!t159) l0_0 a0_1) = some r := H
  have A6 := As_ A60
  clear A60
  have H' := As_ H
  clear H
  obtain ⟨hcz7_0,hcz7_1,hfz7_0,hfz7_1⟩ := bk2 BK157.out
  go_wp2_with (first|((with_reducible refine gate_callee (f := 70) rfl ?_);refine goesL_ (some 8) rfl rfl Try.func70 (by kernel_rfl) rfl #[.int .i64 (l0_0.length : Int),.int .i64 1,.int .i64 12] rfl zM_ ?_;(with_reducible refine (spec_inRange.calls (l0_0.length : Int) 1 12 true _ A4.out).mono ?_);rintro e w' ⟨rfl,⟨nd,rfl⟩⟩;refine ⟨_,rfl,?_⟩)|(go_at_call 70;(with_reducible refine (spec_inRange.calls a0_1 0 (wrap64 ((l0_0.length : Int) - 1)) t159 _ A6.out).mono ?_);rintro e w' ⟨rfl,⟨nd,rfl⟩⟩))
  go_meet
  case rel => exact ⟨_,(!t159),zT_,H',⟨by first|omega|exact Nat.le_refl _⟩,⟨by (with_reducible repeat first|apply bkN|apply bkD|apply bkA);exact BK157.out⟩,⟨zb1 HB.out GE157.out⟩⟩
 case rest =>
  clear HC2
  obtain ⟨kq,x19_1,rfl,HA,HJ1,BK157,HB⟩ := hcut
  cases kq with
  | zero => exact absurd HA.out (fun h_ => (by cases h_))
  | succ kj1 =>
   have H := HA.out
   clear HA
   simp only [spec_validGraph.j0] at H
   by_cases c9 : x19_1 = true
   ·subst c9
    have H1 : (some false) = some r := by rw [if_pos rfl] at H;exact H
    clear H
    have H := H1
    clear H1
    obtain rfl := Option.some.inj H
    go_wp2
    go_ret
    exact ⟨zE_,zb1 HB.out GE157.out⟩
   replace c9 := Bool.eq_false_iff.mpr c9
   subst c9
   have H1 : (spec_validGraph.l0 kj1 0 l0_0 a0_1) = some r := by rw [if_neg (show ¬ (false = true) by decide)] at H;exact H
   clear H
   have H := H1
   clear H1
   have H' := As_ H
   clear H
   go_wp2
   go_loopg [3] kj1 (fun kq v3 w' => ∃ (x3_2 : Int),v3 = .int .i64 x3_2 ∧ Aside0 (spec_validGraph.l0 kq x3_2 l0_0 a0_1 = some r) ∧ Aside0 (kq ≤ kj1) ∧ Aside0 (w'.heap[gb157]? = some (.cells #[(.slice A0_0 l0_0.length c0_0),.int .i64 a0_1] 29 (0,0))) ∧ Aside0 (Below w.heap.size w w'))
   case atStart => exact ⟨(0),zT_,H',⟨Nat.le_refl _⟩,⟨by (with_reducible repeat first|apply bkN|apply bkD|apply bkA);exact BK157.out⟩,⟨zb1 HB.out GE157.out⟩⟩
   case round =>
    clear H'
    obtain ⟨x3_2,rfl,HA,HK2,BK157,HB⟩ := hrel
    cases gk with
    | zero => exact absurd HA.out (fun h_ => (by cases h_))
    | succ k2 =>
     have H := HA.out
     clear HA
     simp only [spec_validGraph.l0] at H
     by_cases c10 : x3_2 < (l0_0.length : Int)
     rotate_left
     ·rw [if_neg c10] at H
      have c10b0 : decide (x3_2 < (l0_0.length : Int)) = false := deF c10
      clear c10
      have H' := As_ H
      clear H
      obtain ⟨hcz20_0,hcz20_1,hfz20_0,hfz20_1⟩ := bk2 BK157.out
      go_wp2
      go_loopg [4] k2 (fun kq v4 w' => ∃ (x4_3 : Int),v4 = .int .i64 x4_3 ∧ Aside0 (spec_validGraph.l1 kq x4_3 l0_0 a0_1 = some r) ∧ Aside0 (kq ≤ k2) ∧ Aside0 (w'.heap[gb157]? = some (.cells #[(.slice A0_0 l0_0.length c0_0),.int .i64 a0_1] 29 (0,0))) ∧ Aside0 (Below w.heap.size w w'))
      case atStart => exact ⟨(0),zT_,H',⟨Nat.le_refl _⟩,⟨by (with_reducible repeat first|apply bkN|apply bkD|apply bkA);exact BK157.out⟩,⟨zb1 HB.out GE157.out⟩⟩
      case round =>
       clear H'
       obtain ⟨x4_3,rfl,HA,HK3,BK157,HB⟩ := hrel
       cases gk with
       | zero => exact absurd HA.out (fun h_ => (by cases h_))
       | succ k3 =>
        have H := HA.out
        clear HA
        simp only [spec_validGraph.l1] at H
        by_cases c21 : x4_3 < (l0_0.length : Int)
        rotate_left
        ·rw [if_neg c21] at H
         have c21b0 : decide (x4_3 < (l0_0.length : Int)) = false := deF c21
         clear c21
         obtain rfl := Option.some.inj H
         obtain ⟨hcz34_0,hcz34_1,hfz34_0,hfz34_1⟩ := bk2 BK157.out
         go_wp2
         go_ret
         exact ⟨zE_,zb1 HB.out GE157.out⟩

        rw [if_pos c21] at H
        have c21b0 : decide (x4_3 < (l0_0.length : Int)) = true := deT c21
        clear c21
        by_cases c22 : 0 ≤ x4_3
        rotate_left
        ·rw [if_neg c22] at H
         exact absurd H (by simp)
        rw [if_pos c22] at H
        have c22b0 : decide (0 ≤ x4_3) = true := deT c22
        clear c22
        by_cases c23 : ((rd_T45 l0_0 x4_3).f0) = 2
        rotate_left
        ·rw [if_neg c23] at H
         have c23b0 : (((rd_T45 l0_0 x4_3).f0) == 2) = false := beq_eq_false_iff_ne.mpr c23
         have c23b1 : (((rd_T45 l0_0 x4_3).f0) != 2) = true := bne_iff_ne.mpr c23
         have H' := As_ H
         clear H
         obtain ⟨hcz33_0,hcz33_1,hfz33_0,hfz33_1⟩ := bk2 BK157.out
         have p162 : 0 ≤ (x4_3 : Int) := odT zA_
         have q162 : x4_3 < (l0_0.length : Int) := odT zA_
         obtain ⟨ad162,A162_2,c162_2,e162,hx162_0,hx162_1,hx162_2,hl162_2,hi162_2⟩ := at_T45 HR0_0.out x4_3 p162 q162
         cases e162
         replace hx162_0 := bwC HB.out hx162_0
         replace hx162_1 := bwC HB.out hx162_1
         replace hx162_2 := bwC HB.out hx162_2
         have HR162_2 := As_ hi162_2
         have HC162_2 := As_ hl162_2
         clear hi162_2 hl162_2
         replace p162 := eq_true p162
         replace q162 := eq_true q162
         go_wp2
         go_roundg k3
         case measure => have := HJ1.out;have := HK2.out;have := HK3.out;omega
         case rel => exact ⟨(wrap64 (x4_3 + 1)),zT_,H',⟨by have := HJ1.out;have := HK2.out;have := HK3.out;omega⟩,⟨by (with_reducible repeat first|apply bkN|apply bkD|apply bkA);exact BK157.out⟩,⟨zb1 HB.out GE157.out⟩⟩
        rw [if_pos c23] at H
        have c23b0 : (((rd_T45 l0_0 x4_3).f0) == 2) = true := beq_iff_eq.mpr c23
        have c23b1 : (((rd_T45 l0_0 x4_3).f0) != 2) = false := bne_eq_false_iff_eq.mpr c23
        clear c23
        replace H := obS H
        obtain ⟨t163,A240,H⟩ := H
        replace H : ((spec_placeIn.f k3 t163 x4_3).bind fun t166 => (if t166 ≥ 0 then (some false) else (spec_validGraph.l1 k3 (wrap64 (x4_3 + 1)) l0_0 a0_1))) = some r := H
        have A24 := As_ A240
        clear A240
        replace H := obS H
        obtain ⟨t166,A250,H⟩ := H
        replace H : (if t166 ≥ 0 then (some false) else (spec_validGraph.l1 k3 (wrap64 (x4_3 + 1)) l0_0 a0_1)) = some r := H
        have A25 := As_ A250
        clear A250
        by_cases c26 : t166 ≥ 0
        ·rw [if_pos c26] at H
         have c26b0 : decide (0 ≤ t166) = true := deT c26
         clear c26
         obtain rfl := Option.some.inj H
         obtain ⟨hcz27_0,hcz27_1,hfz27_0,hfz27_1⟩ := bk2 BK157.out
         have p162 : 0 ≤ (x4_3 : Int) := odT zA_
         have q162 : x4_3 < (l0_0.length : Int) := odT zA_
         obtain ⟨ad162,A162_2,c162_2,e162,hx162_0,hx162_1,hx162_2,hl162_2,hi162_2⟩ := at_T45 HR0_0.out x4_3 p162 q162
         cases e162
         replace hx162_0 := bwC HB.out hx162_0
         replace hx162_1 := bwC HB.out hx162_1
         replace hx162_2 := bwC HB.out hx162_2
         have HR162_2 := As_ hi162_2
         have HC162_2 := As_ hl162_2
         clear hi162_2 hl162_2
         replace p162 := eq_true p162
         replace q162 := eq_true q162
         go_wp2_with (first|(go_at_call 83;(with_reducible refine (spec_tupleReach.calls k3 _ _ l0_0 a0_1 x4_3 t163 _ ?side1 ?side2 A24.out).mono ?_);(case side1 => exact zC_ (Kd.C_below HR0_0.out HB.out));(case side2 => exact HC0_0.out);rintro e w28 ⟨v164,rfl,ho0,hb⟩;have n0_ := As_ (Kd.R_lower ho0 (bwZ (zb1 HB.out GE157.out)));have n1_ := As_ (zkb BK157.out hb);have n2_ := As_ (bwT (zb1 HB.out GE157.out) hb);clear BK157 HB;revert n0_ n1_ n2_;intro HO165 BK157 HB;obtain ⟨Ao29,co29,eo29⟩ := Kd.R_slice HO165.out;subst eo29)|(go_at_call 82;(with_reducible refine (spec_placeIn.calls k3 _ _ t163 x4_3 t166 _ ?side1 ?side2 A25.out).mono ?_);(case side1 => exact zC_ (Kd.R_reads' HO165.out).2.2);(case side2 => exact (Kd.R_reads' HO165.out).2.1);rintro e w' ⟨rfl,⟨nd,rfl⟩⟩))
         go_ret
         exact ⟨zE_,zb1 HB.out GE157.out⟩
        rw [if_neg c26] at H
        have c26b0 : decide (0 ≤ t166) = false := deF c26
        clear c26
        have H' := As_ H
        clear H
        obtain ⟨hcz30_0,hcz30_1,hfz30_0,hfz30_1⟩ := bk2 BK157.out
        have p162 : 0 ≤ (x4_3 : Int) := odT zA_
        have q162 : x4_3 < (l0_0.length : Int) := odT zA_
        obtain ⟨ad162,A162_2,c162_2,e162,hx162_0,hx162_1,hx162_2,hl162_2,hi162_2⟩ := at_T45 HR0_0.out x4_3 p162 q162
        cases e162
        replace hx162_0 := bwC HB.out hx162_0
        replace hx162_1 := bwC HB.out hx162_1
        replace hx162_2 := bwC HB.out hx162_2
        have HR162_2 := As_ hi162_2
        have HC162_2 := As_ hl162_2
        clear hi162_2 hl162_2
        replace p162 := eq_true p162
        replace q162 := eq_true q162
        go_wp2_with (first|(go_at_call 83;(with_reducible refine (spec_tupleReach.calls k3 _ _ l0_0 a0_1 x4_3 t163 _ ?side1 ?side2 A24.out).mono ?_);(case side1 => exact zC_ (Kd.C_below HR0_0.out HB.out));(case side2 => exact HC0_0.out);rintro e w31 ⟨v164,rfl,ho0,hb⟩;have n0_ := As_ (Kd.R_lower ho0 (bwZ (zb1 HB.out GE157.out)));have n1_ := As_ (zkb BK157.out hb);have n2_ := As_ (bwT (zb1 HB.out GE157.out) hb);clear BK157 HB;revert n0_ n1_ n2_;intro HO165 BK157 HB;obtain ⟨Ao32,co32,eo32⟩ := Kd.R_slice HO165.out;subst eo32)|(go_at_call 82;(with_reducible refine (spec_placeIn.calls k3 _ _ t163 x4_3 t166 _ ?side1 ?side2 A25.out).mono ?_);(case side1 => exact zC_ (Kd.R_reads' HO165.out).2.2);(case side2 => exact (Kd.R_reads' HO165.out).2.1);rintro e w' ⟨rfl,⟨nd,rfl⟩⟩))
        go_roundg k3
        case measure => have := HJ1.out;have := HK2.out;have := HK3.out;omega
        case rel => exact ⟨(wrap64 (x4_3 + 1)),zT_,H',⟨by have := HJ1.out;have := HK2.out;have := HK3.out;omega⟩,⟨by (with_reducible repeat first|apply bkN|apply bkD|apply bkA);exact BK157.out⟩,⟨zb1 HB.out GE157.out⟩⟩
     rw [if_pos c10] at H
     have c10b0 : decide (x3_2 < (l0_0.length : Int)) = true := deT c10
     clear c10
     by_cases c11 : 0 ≤ x3_2
     rotate_left
     ·rw [if_neg c11] at H
      exact absurd H (by simp)
     rw [if_pos c11] at H
     have c11b0 : decide (0 ≤ x3_2) = true := deT c11
     clear c11
     replace H := obS H
     obtain ⟨t161,A120,H⟩ := H
     replace H : (if t161 = true then (spec_validGraph.l0 k2 (wrap64 (x3_2 + 1)) l0_0 a0_1) else (some false)) = some r := H
     have A12 := As_ A120
     clear A120
     by_cases c13 : t161 = true
     rotate_left
     ·replace c13 := Bool.eq_false_iff.mpr c13
      subst c13
      have H1 : (some false) = some r := by rw [if_neg (show ¬ (false = true) by decide)] at H;exact H
      clear H
      have H := H1
      clear H1
      obtain rfl := Option.some.inj H
      obtain ⟨hcz17_0,hcz17_1,hfz17_0,hfz17_1⟩ := bk2 BK157.out
      try go_wp2
      have n0_ := As_ (bkD BK157.out)
      have n1_ := As_ (bwD HB.out)
      clear BK157 HB
      revert n0_ n1_;intro BK157 HB
      have p160 : 0 ≤ (x3_2 : Int) := odT zA_
      have q160 : x3_2 < (l0_0.length : Int) := odT zA_
      obtain ⟨ad160,A160_2,c160_2,e160,hx160_0,hx160_1,hx160_2,hl160_2,hi160_2⟩ := at_T45 HR0_0.out x3_2 p160 q160
      have hw160_2 := hx160_2
      have hw160_1 := hx160_1
      have hw160_0 := hx160_0
      cases e160
      replace hx160_0 := bwC HB.out hx160_0
      replace hx160_1 := bwC HB.out hx160_1
      replace hx160_2 := bwC HB.out hx160_2
      have HR160_2 := As_ hi160_2
      have HC160_2 := As_ hl160_2
      clear hi160_2 hl160_2
      replace p160 := eq_true p160
      replace q160 := eq_true q160
      refine start_ (n := 8) (S := fun w' => w'.cell? ⟨gb157,0,none⟩ = some (.slice (some ad160) l0_0.length c0_0) ∧ w'.cell? ⟨gb157,1,none⟩ = some (.int .i64 a0_1) ∧ w'.cell? (ad160.add ((x3_2).toNat * 3)) = some (.int .i64 ((rd_T45 l0_0 x3_2).f0)) ∧ w'.cell? ⟨(ad160.add ((x3_2).toNat * 3)).block,(ad160.add ((x3_2).toNat * 3)).off + 1,none⟩ = some (.int .i64 ((rd_T45 l0_0 x3_2).f1)) ∧ w'.cell? ⟨(ad160.add ((x3_2).toNat * 3)).block,(ad160.add ((x3_2).toNat * 3)).off + 2,none⟩ = some (.slice A160_2 ((rd_T45 l0_0 x3_2).f2).length c160_2)) (ds := []) (bl_ 0 8) (by kernel_rfl) rfl rfl ⟨(bkC BK157.out 0).trans rfl,(bkC BK157.out 1).trans rfl,((HB.out.cell (bwL w _ hw160_0)).trans hw160_0),((HB.out.cell (bwL w _ hw160_1)).trans hw160_1),((HB.out.cell (bwL w _ hw160_2)).trans hw160_2)⟩ (fun hHeld => ?_);refine with_tabW spec_validGraph.tab6 spec_validGraph.bits6 (fun HT_ HW_ => ?_)
      generalize wr.drew = w18 at BK157 HB HR160_2 hx160_0 hx160_1 hx160_2 hHeld ⊢
      refine pQ 1 28 (bl_ 2 8) HT_ rfl ?_
      refine pQ 3 30 (bl_ 10 8) HT_ rfl ?_
      refine tP 0 27 (bl_ 11 8) ?_ HT_ HW_ rfl (.inl ⟨by rfl,?_⟩) hHeld ?_ ?_ ?_;rotate_left;(rintro w' ⟨s0,s1,s2,s3,s4⟩;go_simp;with_reducible rfl);rotate_left;(simp only [Act.put,sq_,i64_w,i32_w];rfl)
      refine tP 2 29 (bl_ 15 8) ?_ HT_ HW_ rfl (.inl ⟨by rfl,?_⟩) hHeld ?_ ?_ ?_;rotate_left;(rintro w' ⟨s0,s1,s2,s3,s4⟩;go_simp;with_reducible rfl);rotate_left;(simp only [Act.put,sq_,i64_w,i32_w];rfl)
      refine pQ 4 31 (bl_ 31 8) HT_ rfl ?_
      refine tP 5 32 (bl_ 63 8) ?_ HT_ HW_ rfl (.inl ⟨by rfl,?_⟩) hHeld ?_ ?_ ?_;rotate_left;(rintro w' ⟨s0,s1,s2,s3,s4⟩;go_simp;with_reducible rfl);rotate_left;(simp only [Act.put,sq_,i64_w,i32_w];rfl)
      refine one_ (i := 6) (N := some 33) (bl_ 127 8) rfl rfl (one_of HT_.out (by kernel_rfl)) (by decide) (fun K hK => ?_)
      refine goes_ Try.func81 (by kernel_rfl) rfl #[.agg #[.slice (some ad160) l0_0.length c0_0,.int .i64 a0_1],.agg #[.int .i64 ((rd_T45 l0_0 x3_2).f0),.int .i64 ((rd_T45 l0_0 x3_2).f1),.slice A160_2 ((rd_T45 l0_0 x3_2).f2).length c160_2]] (by rfl) rfl rfl zM_ ?_
      with_reducible refine (spec_validNode.calls k2 _ _ l0_0 a0_1 ((rd_T45 l0_0 x3_2).f0) ((rd_T45 l0_0 x3_2).f1) _ _ ((rd_T45 l0_0 x3_2).f2) false _ ?side1 ?side2 ?side3 ?side4 A12.out).mono ?_
      (case side1 => exact zC_ (Kd.C_below HR0_0.out HB.out))
      (case side2 => exact HC0_0.out)
      (case side3 => exact zC_ (Kd.C_below HR160_2.out HB.out))
      (case side4 => exact HC160_2.out)
      rintro e w19 ⟨rfl,hb⟩
      refine ⟨_,rfl,?_⟩
      have n0_ := As_ (zkb BK157.out hb)
      have n1_ := As_ (bwT (zb1 HB.out GE157.out) hb)
      clear BK157 HB
      revert n0_ n1_;intro BK157 HB
      refine hK.out _ _ ⟨(bkC BK157.out 0).trans rfl,(bkC BK157.out 1).trans rfl,((HB.out.cell (bwL w _ hw160_0)).trans hw160_0),((HB.out.cell (bwL w _ hw160_1)).trans hw160_1),((HB.out.cell (bwL w _ hw160_2)).trans hw160_2)⟩ (fun hHeld => ?_)
      clear hK K
      refine norm_ (a' := ?_) ?_ ?_
      rotate_left
      ·show Act.put _ (some 33) _ = _
       simp only [Act.put,sq_,i64_w,i32_w]
       rfl
      refine pQ 7 34 (bl_ 255 8) HT_ rfl ?_
      refine done_ (done_of HT_.out (by kernel_rfl)) ?_
      try go_wp2
      go_ret
      exact ⟨zE_,zb1 HB.out GE157.out⟩
     subst c13
     have H1 : (spec_validGraph.l0 k2 (wrap64 (x3_2 + 1)) l0_0 a0_1) = some r := by rw [if_pos rfl] at H;exact H
     clear H
     have H := H1
     clear H1
     have H' := As_ H
     clear H
     obtain ⟨hcz14_0,hcz14_1,hfz14_0,hfz14_1⟩ := bk2 BK157.out
     try go_wp2
     have n0_ := As_ (bkD BK157.out)
     have n1_ := As_ (bwD HB.out)
     clear BK157 HB
     revert n0_ n1_;intro BK157 HB
     have p160 : 0 ≤ (x3_2 : Int) := odT zA_
     have q160 : x3_2 < (l0_0.length : Int) := odT zA_
     obtain ⟨ad160,A160_2,c160_2,e160,hx160_0,hx160_1,hx160_2,hl160_2,hi160_2⟩ := at_T45 HR0_0.out x3_2 p160 q160
     have hw160_2 := hx160_2
     have hw160_1 := hx160_1
     have hw160_0 := hx160_0
     cases e160
     replace hx160_0 := bwC HB.out hx160_0
     replace hx160_1 := bwC HB.out hx160_1
     replace hx160_2 := bwC HB.out hx160_2
     have HR160_2 := As_ hi160_2
     have HC160_2 := As_ hl160_2
     clear hi160_2 hl160_2
     replace p160 := eq_true p160
     replace q160 := eq_true q160
     refine start_ (n := 8) (S := fun w' => w'.cell? ⟨gb157,0,none⟩ = some (.slice (some ad160) l0_0.length c0_0) ∧ w'.cell? ⟨gb157,1,none⟩ = some (.int .i64 a0_1) ∧ w'.cell? (ad160.add ((x3_2).toNat * 3)) = some (.int .i64 ((rd_T45 l0_0 x3_2).f0)) ∧ w'.cell? ⟨(ad160.add ((x3_2).toNat * 3)).block,(ad160.add ((x3_2).toNat * 3)).off + 1,none⟩ = some (.int .i64 ((rd_T45 l0_0 x3_2).f1)) ∧ w'.cell? ⟨(ad160.add ((x3_2).toNat * 3)).block,(ad160.add ((x3_2).toNat * 3)).off + 2,none⟩ = some (.slice A160_2 ((rd_T45 l0_0 x3_2).f2).length c160_2)) (ds := []) (bl_ 0 8) (by kernel_rfl) rfl rfl ⟨(bkC BK157.out 0).trans rfl,(bkC BK157.out 1).trans rfl,((HB.out.cell (bwL w _ hw160_0)).trans hw160_0),((HB.out.cell (bwL w _ hw160_1)).trans hw160_1),((HB.out.cell (bwL w _ hw160_2)).trans hw160_2)⟩ (fun hHeld => ?_);refine with_tabW spec_validGraph.tab6 spec_validGraph.bits6 (fun HT_ HW_ => ?_)
     generalize wr.drew = w15 at BK157 HB HR160_2 hx160_0 hx160_1 hx160_2 hHeld ⊢
     refine pQ 1 28 (bl_ 2 8) HT_ rfl ?_
     refine pQ 3 30 (bl_ 10 8) HT_ rfl ?_
     refine tP 0 27 (bl_ 11 8) ?_ HT_ HW_ rfl (.inl ⟨by rfl,?_⟩) hHeld ?_ ?_ ?_;rotate_left;(rintro w' ⟨s0,s1,s2,s3,s4⟩;go_simp;with_reducible rfl);rotate_left;(simp only [Act.put,sq_,i64_w,i32_w];rfl)
     refine tP 2 29 (bl_ 15 8) ?_ HT_ HW_ rfl (.inl ⟨by rfl,?_⟩) hHeld ?_ ?_ ?_;rotate_left;(rintro w' ⟨s0,s1,s2,s3,s4⟩;go_simp;with_reducible rfl);rotate_left;(simp only [Act.put,sq_,i64_w,i32_w];rfl)
     refine pQ 4 31 (bl_ 31 8) HT_ rfl ?_
     refine tP 5 32 (bl_ 63 8) ?_ HT_ HW_ rfl (.inl ⟨by rfl,?_⟩) hHeld ?_ ?_ ?_;rotate_left;(rintro w' ⟨s0,s1,s2,s3,s4⟩;go_simp;with_reducible rfl);rotate_left;(simp only [Act.put,sq_,i64_w,i32_w];rfl)
     refine one_ (i := 6) (N := some 33) (bl_ 127 8) rfl rfl (one_of HT_.out (by kernel_rfl)) (by decide) (fun K hK => ?_)
     refine goes_ Try.func81 (by kernel_rfl) rfl #[.agg #[.slice (some ad160) l0_0.length c0_0,.int .i64 a0_1],.agg #[.int .i64 ((rd_T45 l0_0 x3_2).f0),.int .i64 ((rd_T45 l0_0 x3_2).f1),.slice A160_2 ((rd_T45 l0_0 x3_2).f2).length c160_2]] (by rfl) rfl rfl zM_ ?_
     with_reducible refine (spec_validNode.calls k2 _ _ l0_0 a0_1 ((rd_T45 l0_0 x3_2).f0) ((rd_T45 l0_0 x3_2).f1) _ _ ((rd_T45 l0_0 x3_2).f2) true _ ?side1 ?side2 ?side3 ?side4 A12.out).mono ?_
     (case side1 => exact zC_ (Kd.C_below HR0_0.out HB.out))
     (case side2 => exact HC0_0.out)
     (case side3 => exact zC_ (Kd.C_below HR160_2.out HB.out))
     (case side4 => exact HC160_2.out)
     rintro e w16 ⟨rfl,hb⟩
     refine ⟨_,rfl,?_⟩
     have n0_ := As_ (zkb BK157.out hb)
     have n1_ := As_ (bwT (zb1 HB.out GE157.out) hb)
     clear BK157 HB
     revert n0_ n1_;intro BK157 HB
     refine hK.out _ _ ⟨(bkC BK157.out 0).trans rfl,(bkC BK157.out 1).trans rfl,((HB.out.cell (bwL w _ hw160_0)).trans hw160_0),((HB.out.cell (bwL w _ hw160_1)).trans hw160_1),((HB.out.cell (bwL w _ hw160_2)).trans hw160_2)⟩ (fun hHeld => ?_)
     clear hK K
     refine norm_ (a' := ?_) ?_ ?_
     rotate_left
     ·show Act.put _ (some 33) _ = _
      simp only [Act.put,sq_,i64_w,i32_w]
      rfl
     refine pQ 7 34 (bl_ 255 8) HT_ rfl ?_
     refine done_ (done_of HT_.out (by kernel_rfl)) ?_
     try go_wp2
     go_roundg k2
     case measure => have := HJ1.out;have := HK2.out;omega
     case rel => exact ⟨(wrap64 (x3_2 + 1)),zT_,H',⟨by have := HJ1.out;have := HK2.out;omega⟩,⟨by (with_reducible repeat first|apply bkN|apply bkD|apply bkA);exact BK157.out⟩,⟨zb1 HB.out GE157.out⟩⟩
/-! ### slices_ContainsFunc_int_int: function 65 -/
/-- Is a number none of 0..n-1? -/
def slices_ContainsFunc_int_int.bad (n x : Int) : Bool := decide (x < 0) || decide (n ≤ x)
def slices_ContainsFunc_int_int.f (l0 : List Int) (a1 : Int) : Option (Bool) := some (l0.any (slices_ContainsFunc_int_int.bad a1))
theorem slices_ContainsFunc_int_int.lit (x n : Int) (g : Nat) (w : World) (hbox : w.heap[g]? = some (.cells #[.int .i64 n] 3 (0,0))) : Calls Try.prog 66 #[.int .i64 x,.pointer (some ⟨g,0,none⟩)] w fun e w' => e = .returned (.bool (slices_ContainsFunc_int_int.bad n x)) ∧ w = w' := by
 have hcz_0 : w.cell? ⟨g,0,none⟩ = some (.int .i64 n) := (bkC hbox 0).trans rfl
 have hfz_0 := bkF hbox 0
 clear hbox
 by_cases h1 : x < 0
 ·have e1 : decide (x < 0) = true := deT h1
  go_enter Try.func66,Try.ntmps66
  go_wp2
  go_ret
  exact ⟨by simp [slices_ContainsFunc_int_int.bad,h1],rfl⟩
 have e1 : decide (x < 0) = false := deF h1
 by_cases h2 : n ≤ x
 ·have e2 : decide (n ≤ x) = true := deT h2
  go_enter Try.func66,Try.ntmps66
  go_wp2
  go_ret
  exact ⟨by simp [slices_ContainsFunc_int_int.bad,h1,h2],rfl⟩
 have e2 : decide (n ≤ x) = false := deF h2
 go_enter Try.func66,Try.ntmps66
 go_wp2
 go_ret
 exact ⟨by simp [slices_ContainsFunc_int_int.bad,h1,h2],rfl⟩
/-- What slices.IndexFunc tells: a place,just if there is one. -/
def slices_ContainsFunc_int_int.Tells (n : Int) (l : List Int) (w : World) (e : Ending) (w' : World) : Prop := ∃ r : Int,e = .returned (.int .i64 r) ∧ decide (0 ≤ r) = l.any (slices_ContainsFunc_int_int.bad n) ∧ w = w'
theorem slices_ContainsFunc_int_int.any_from (n : Int) (l : List Int) (i : Nat) (h : i < l.length) : (l.drop i).any (slices_ContainsFunc_int_int.bad n) = (slices_ContainsFunc_int_int.bad n (rd l (i : Int)) || (l.drop (i + 1)).any (slices_ContainsFunc_int_int.bad n)) := by
 rw [List.drop_eq_getElem_cons h,List.any_cons,show rd l (i : Int) = l[i] from by simp [rd,List.getD_eq_getElem?_getD,List.getElem?_eq_getElem h]]
set_option maxHeartbeats 2000000 in
set_option maxRecDepth 100000 in
theorem slices_ContainsFunc_int_int.index (A0 : Option Addr) (c0 : Nat) (l0 : List Int) (n : Int) (g : Nat) (w : World) (hr0 : Kd.C (Kd.int .i64) w A0 l0.length l0) (hbox : w.heap[g]? = some (.cells #[.int .i64 n] 3 (0,0))) :
  Calls Try.prog 93 #[.slice A0 l0.length c0,.func (.func 66) #[] #[.pointer (some ⟨g,0,none⟩)]] w (slices_ContainsFunc_int_int.Tells n l0 w) := by
 have hmax := Kd.C_max hr0
 have HR := As_ hr0
 have BK := As_ hbox
 clear hr0 hbox
 go_enter Try.func93,Try.ntmps93
 go_wp2
 go_loop [8] (fun v => ∃ i : Nat,i ≤ l0.length ∧ v = .int .i64 i ∧ Aside0 (l0.any (slices_ContainsFunc_int_int.bad n) = (l0.drop i).any (slices_ContainsFunc_int_int.bad n))) (fun v => l0.length - (intOf v).toNat)
 case atStart => exact ⟨0,Nat.zero_le _,rfl,⟨by simp⟩⟩
 case round =>
  obtain ⟨i,hi,rfl,hA⟩ := hrel
  by_cases hlt : i < l0.length
  rotate_left
  ·go_wp2
   go_ret
   exact ⟨-1,rfl,by rw [hA.out,List.drop_of_length_le (by omega)];simp,rfl⟩
  have hat := Kd.at_int HR.out (i : Int) (by omega) (by omega)
  obtain ⟨ad,e1,hx⟩ := hat
  subst e1
  rw [Int.toNat_natCast] at hx
  have hf := slices_ContainsFunc_int_int.any_from n l0 i hlt
  have HF := As_ hf
  clear hf
  cases hb : slices_ContainsFunc_int_int.bad n (rd l0 (i : Int)) with
  | true =>
   have HB := As_ hb
   clear hb
   go_wp2_with (go_at_call 66;refine (slices_ContainsFunc_int_int.lit _ n g _ BK.out).mono ?_;rintro e w' ⟨rfl,rfl⟩;rw [HB.out])
   go_ret
   exact ⟨i,rfl,by rw [hA.out,HF.out,HB.out];simp,rfl⟩
  | false =>
   have HB := As_ hb
   clear hb
   go_wp2_with (go_at_call 66;refine (slices_ContainsFunc_int_int.lit _ n g _ BK.out).mono ?_;rintro e w' ⟨rfl,rfl⟩;rw [HB.out])
   go_round
   case rel => exact ⟨i + 1,by omega,by go_num,⟨by rw [hA.out,HF.out,HB.out];simp⟩⟩
   case measure => simp [intOf];omega
set_option maxHeartbeats 2000000 in
theorem slices_ContainsFunc_int_int.calls (A0 : Option Addr) (c0 : Nat) (l0 : List Int) (a1 : Int) (r : Bool) (w : World) (hr0 : Kd.C (Kd.int .i64) w A0 l0.length l0) (hc0 : l0.length ≤ c0) (h : slices_ContainsFunc_int_int.f l0 a1 = some r) {g : Nat} (hbox : w.heap[g]? = some (.cells #[.int .i64 a1] 3 (0,0))) :
  Calls Try.prog 65 #[.slice A0 l0.length c0,.func (.func 66) #[] #[.pointer (some ⟨g,0,none⟩)]] w fun e w' => e = .returned (.bool r) ∧ Below w.heap.size w w' := by
 have HR := As_ hr0
 have BK := As_ hbox
 obtain rfl : l0.any (slices_ContainsFunc_int_int.bad a1) = r := Option.some.inj h
 clear hr0 hbox h hc0
 go_enter Try.func65,Try.ntmps65
 go_wp2_with (go_at_call 93;refine (slices_ContainsFunc_int_int.index _ _ l0 a1 g _ HR.out BK.out).mono ?_;rintro e w' ⟨r,rfl,hr,rfl⟩;have HT := As_ hr;clear hr)
 go_ret
 exact ⟨by rw [← HT.out];rfl,Below.refl _ _⟩

end Go.Proofs.Ytfhakhbmbnbneaa.Q
