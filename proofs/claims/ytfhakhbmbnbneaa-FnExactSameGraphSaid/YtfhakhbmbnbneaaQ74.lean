-- Written by wip/tools/qprint.py (a program of this claim's author) by means of the kit's printer.
import Derived.Test.YtfhakhbmbnbneaaQ0
import Derived.Test.YtfhakhbmbnbneaaQ48
import Derived.Test.YtfhakhbmbnbneaaQ75
namespace Go.Proofs.Ytfhakhbmbnbneaa.Q
open Go.RowKit Go.Proofs.YtfhakhbmbnbneaaW.PrintWords Go.Proofs.YtfhakhbmbnbneaaW.PrintLast Go.Proofs.YtfhakhbmbnbneaaW.PrintMore
attribute [local go_sem] max2_int min2_int max_two min_two max_three min_three max_four min_four   -- for this text's walks alone
set_option linter.unusedVariables false
set_option linter.unusedSimpArgs false

/-! ### spec_sameInts: function 74 -/
def spec_sameInts.l0 : Nat → List Int → List Int → Int → Option (Bool)
 | 0,_,_,_ => none
 | k + 1,x0,x1,x5 => if x5 < (x0.length : Int) then (if 0 ≤ x5 then (if x5 < (x1.length : Int) then (if (rd x0 x5) = (rd x1 x5) then (spec_sameInts.l0 k x0 x1 (wrap64 (x5 + 1))) else (some false)) else (none)) else (none)) else (some true)
def spec_sameInts.f (k : Nat) (l0 : List Int) (l1 : List Int) : Option (Bool) := if (l0.length : Int) = (l1.length : Int) then (spec_sameInts.l0 k l0 l1 0) else (some false)
set_option maxRecDepth 100000 in
theorem spec_sameInts.mono_l : ∀ k,(∀ y0 y1 y2,LeO (spec_sameInts.l0 k y0 y1 y2) (spec_sameInts.l0 (k + 1) y0 y1 y2))
 | 0 => fun _ _ _ r h => (by cases h)
 | k + 1 => by
  have ih0 := spec_sameInts.mono_l k
  ·intro y0 y1 y2
   unfold spec_sameInts.l0
   repeat' first
   | (with_reducible exact ih0 _ _ _)
   | (with_reducible exact LeO.refl _)
   | (with_reducible exact LeO.none _)
   | (with_reducible refine LeO.ite ?_ ?_)
   | (with_reducible refine LeO.bind ?_ (fun _ => ?_))
   | exact ih0 _ _ _
   | exact LeO.none _
   | refine LeO.ite ?_ ?_
   | refine LeO.bind ?_ (fun _ => ?_)
set_option maxRecDepth 100000 in
theorem spec_sameInts.mono : ∀ a0 a1 k,LeO (spec_sameInts.f k a0 a1) (spec_sameInts.f (k + 1) a0 a1) := by
 intro a0 a1 k
 have ih0 := spec_sameInts.mono_l k
 unfold spec_sameInts.f
 repeat' first
   | (with_reducible exact ih0 _ _ _)
   | (with_reducible exact LeO.refl _)
   | (with_reducible exact LeO.none _)
   | (with_reducible refine LeO.ite ?_ ?_)
   | (with_reducible refine LeO.bind ?_ (fun _ => ?_))
   | exact ih0 _ _ _
   | exact LeO.none _
   | refine LeO.ite ?_ ?_
   | refine LeO.bind ?_ (fun _ => ?_)
set_option maxHeartbeats 8000000 in
set_option maxRecDepth 100000 in
theorem spec_sameInts.calls (k : Nat) (A0 : Option Addr) (c0 : Nat) (l0 : List Int) (A1 : Option Addr) (c1 : Nat) (l1 : List Int) (r : Bool) (w : World) (hr0 : Kd.C (Kd.int .i64) w A0 l0.length l0) (hc0 : l0.length ≤ c0) (hr1 : Kd.C (Kd.int .i64) w A1 l1.length l1) (hc1 : l1.length ≤ c1) (h : spec_sameInts.f k l0 l1 = some r) :
  Calls Try.prog 74 #[.slice A0 l0.length c0,.slice A1 l1.length c1] w fun e w' => e = .returned (.bool r) ∧ Drawn0 w w' := by
 have HR0 := As_ hr0
 have HC0 := As_ hc0
 clear hr0 hc0
 have HR1 := As_ hr1
 have HC1 := As_ hc1
 clear hr1 hc1
 have H : (if (l0.length : Int) = (l1.length : Int) then (spec_sameInts.l0 k l0 l1 0) else (some false)) = some r := h
 clear h
 by_cases c3 : (l0.length : Int) = (l1.length : Int)
 ·rw [if_pos c3] at H
  have c3b0 : ((l0.length : Int) == (l1.length : Int)) = true := beq_iff_eq.mpr c3
  have c3b1 : ((l0.length : Int) != (l1.length : Int)) = false := bne_eq_false_iff_eq.mpr c3
  have c3b2 : (l0.length == l1.length) = true := by first|simpa using c3|(simp at c3 ⊢;omega)
  clear c3
  have H' := As_ H
  clear H
  go_enter Try.func74,Try.ntmps74
  go_wp2
  repeat (go_quiet (fail);try go_wp2)
  go_loopg [5] k (fun kq v5 w' => ∃ (x5_1 : Int),v5 = .int .i64 x5_1 ∧ Aside0 (spec_sameInts.l0 kq l0 l1 x5_1 = some r) ∧ Aside0 (kq ≤ k) ∧ Drawn0 w w')
  case atStart => exact ⟨(0),(by first|rfl|(simp;done)|(simp [*];done)),H',⟨Nat.le_refl _⟩,by repeat (first|exact Drawn0.refl _|apply Drawn0.step)⟩
  case round =>
   clear H'
   try clear c1
   try clear p2
   try clear c3
   try clear c3b0
   try clear c3b1
   try clear c3b2
   obtain ⟨x5_1,rfl,HA,HK1,⟨m1,rfl⟩⟩ := hrel
   cases gk with
   | zero => exact absurd HA.out (fun h_ => (by cases h_))
   | succ k1 =>
    have H := HA.out
    clear HA
    simp only [spec_sameInts.l0] at H
    by_cases c4 : x5_1 < (l0.length : Int)
    ·rw [if_pos c4] at H
     have c4b0 : decide (x5_1 < (l0.length : Int)) = true := deT c4
     clear c4
     by_cases c5 : 0 ≤ x5_1
     ·rw [if_pos c5] at H
      have c5b0 : decide (0 ≤ x5_1) = true := deT c5
      clear c5
      by_cases c6 : x5_1 < (l1.length : Int)
      ·rw [if_pos c6] at H
       have c6b0 : decide (x5_1 < (l1.length : Int)) = true := deT c6
       clear c6
       by_cases c7 : (rd l0 x5_1) = (rd l1 x5_1)
       ·rw [if_pos c7] at H
        have c7b0 : ((rd l0 x5_1) == (rd l1 x5_1)) = true := beq_iff_eq.mpr c7
        have c7b1 : ((rd l0 x5_1) != (rd l1 x5_1)) = false := bne_eq_false_iff_eq.mpr c7
        clear c7
        have H' := As_ H
        clear H
        have p734 : 0 ≤ (x5_1 : Int) := odT (by first|(with_reducible assumption)|assumption)
        have q734 : x5_1 < (l0.length : Int) := odT (by first|(with_reducible assumption)|assumption)
        obtain ⟨ad734,e734,hx734_0⟩ := Kd.at_int HR0.out x5_1 p734 q734
        cases e734
        replace p734 := eq_true p734
        replace q734 := eq_true q734
        have p735 : 0 ≤ (x5_1 : Int) := odT (by first|(with_reducible assumption)|assumption)
        have q735 : x5_1 < (l1.length : Int) := odT (by first|(with_reducible assumption)|assumption)
        obtain ⟨ad735,e735,hx735_0⟩ := Kd.at_int HR1.out x5_1 p735 q735
        cases e735
        replace p735 := eq_true p735
        replace q735 := eq_true q735
        go_wp2
        repeat (go_quiet (fail);try go_wp2)
        go_roundg k1
        case measure => have := HK1.out;omega
        case rel => exact ⟨(wrap64 (x5_1 + 1)),(by first|rfl|(simp;done)|(simp [*];done)),H',⟨by have := HK1.out;omega⟩,by repeat (first|exact Drawn0.refl _|apply Drawn0.step)⟩
       ·rw [if_neg c7] at H
        have c7b0 : ((rd l0 x5_1) == (rd l1 x5_1)) = false := beq_eq_false_iff_ne.mpr c7
        have c7b1 : ((rd l0 x5_1) != (rd l1 x5_1)) = true := bne_iff_ne.mpr c7
        obtain rfl := Option.some.inj H
        have p734 : 0 ≤ (x5_1 : Int) := odT (by first|(with_reducible assumption)|assumption)
        have q734 : x5_1 < (l0.length : Int) := odT (by first|(with_reducible assumption)|assumption)
        obtain ⟨ad734,e734,hx734_0⟩ := Kd.at_int HR0.out x5_1 p734 q734
        cases e734
        replace p734 := eq_true p734
        replace q734 := eq_true q734
        have p735 : 0 ≤ (x5_1 : Int) := odT (by first|(with_reducible assumption)|assumption)
        have q735 : x5_1 < (l1.length : Int) := odT (by first|(with_reducible assumption)|assumption)
        obtain ⟨ad735,e735,hx735_0⟩ := Kd.at_int HR1.out x5_1 p735 q735
        cases e735
        replace p735 := eq_true p735
        replace q735 := eq_true q735
        go_wp2
        repeat (go_quiet (fail);try go_wp2)
        go_ret
        exact ⟨by first|rfl|(simp;done)|(simp [*];done),by repeat (first|exact Drawn0.refl _|apply Drawn0.step)⟩
      ·rw [if_neg c6] at H
       exact absurd H (by simp)
     ·rw [if_neg c5] at H
      exact absurd H (by simp)
    ·rw [if_neg c4] at H
     have c4b0 : decide (x5_1 < (l0.length : Int)) = false := deF c4
     clear c4
     obtain rfl := Option.some.inj H
     go_wp2
     repeat (go_quiet (fail);try go_wp2)
     go_ret
     exact ⟨by first|rfl|(simp;done)|(simp [*];done),by repeat (first|exact Drawn0.refl _|apply Drawn0.step)⟩
 ·rw [if_neg c3] at H
  have c3b0 : ((l0.length : Int) == (l1.length : Int)) = false := beq_eq_false_iff_ne.mpr c3
  have c3b1 : ((l0.length : Int) != (l1.length : Int)) = true := bne_iff_ne.mpr c3
  have c3b2 : (l0.length == l1.length) = false := by first|simpa using c3|(simp at c3 ⊢;omega)
  obtain rfl := Option.some.inj H
  go_enter Try.func74,Try.ntmps74
  go_wp2
  repeat (go_quiet (fail);try go_wp2)
  go_ret
  exact ⟨by first|rfl|(simp;done)|(simp [*];done),by repeat (first|exact Drawn0.refl _|apply Drawn0.step)⟩

/-! ### spec_SameGraph: function 41 -/
def spec_SameGraph.f (k : Nat) (l0_0 : List (S45)) (a0_1 : Int) (l1_0 : List (S45)) (a1_1 : Int) : Option (Bool) := (spec_validGraph.f k l0_0 a0_1).bind fun t786 => (if t786 = true then ((spec_validGraph.f k l1_0 a1_1).bind fun t787 => (if t787 = true then ((spec_codeOf.f k l0_0 a0_1).bind fun t788 => ((spec_codeOf.f k l1_0 a1_1).bind fun t791 => ((spec_sameInts.f k t788 t791).bind fun t794 => (some t794)))) else (some false))) else (some false))
set_option maxRecDepth 100000 in
theorem spec_SameGraph.mono : ∀ a0 a1 a2 a3 k,LeO (spec_SameGraph.f k a0 a1 a2 a3) (spec_SameGraph.f (k + 1) a0 a1 a2 a3) := by
 intro a0 a1 a2 a3 k
 unfold spec_SameGraph.f
 repeat' first
   | (with_reducible exact spec_codeOf.mono _ _ _)
   | (with_reducible exact spec_sameInts.mono _ _ _)
   | (with_reducible exact spec_validGraph.mono _ _ _)
   | (with_reducible exact LeO.refl _)
   | (with_reducible exact LeO.none _)
   | (with_reducible refine LeO.ite ?_ ?_)
   | (with_reducible refine LeO.bind ?_ (fun _ => ?_))
   | exact spec_codeOf.mono _ _ _
   | exact spec_sameInts.mono _ _ _
   | exact spec_validGraph.mono _ _ _
   | exact LeO.none _
   | refine LeO.ite ?_ ?_
   | refine LeO.bind ?_ (fun _ => ?_)
def spec_SameGraph.T1 : Bool × List (List Nat × List Nat) := (true,[([],[]),([0],[0]),([1,1],[1]),([2],[2]),([3,2,2],[2,3]),([2,4],[2,4]),([5,4],[5]),([6],[6]),([7,6,6],[6,7]),([6],[6]),([9,8,6],[6,9]),([8,10,10,6],[6,8,10]),([6,11],[6,11]),([12,11,0,1,2,3,4,5,6,7,8,9,10,11,12],[12])])
def spec_SameGraph.B1 : List Nat := [0,1,3,7,15,31,63,127,255,127,1023,2047,4095,8191]
theorem spec_SameGraph.tab1 : rtab .any (opsOf Try.f41 1) = spec_SameGraph.T1 := by kernel_rfl
theorem spec_SameGraph.bits1 : waitsOk spec_SameGraph.T1.2 spec_SameGraph.B1 = true := by kernel_rfl
set_option maxHeartbeats 8000000 in
set_option maxRecDepth 100000 in
theorem spec_SameGraph.calls (k : Nat) (A0_0 : Option Addr) (c0_0 : Nat) (l0_0 : List (S45)) (a0_1 : Int) (A1_0 : Option Addr) (c1_0 : Nat) (l1_0 : List (S45)) (a1_1 : Int) (r : Bool) (w : World) (hr0_0 : Kd.C k45 w A0_0 l0_0.length l0_0) (hc0_0 : l0_0.length ≤ c0_0) (hr1_0 : Kd.C k45 w A1_0 l1_0.length l1_0) (hc1_0 : l1_0.length ≤ c1_0) (h : spec_SameGraph.f k l0_0 a0_1 l1_0 a1_1 = some r) :
  Calls Try.prog 41 #[.agg #[.slice A0_0 l0_0.length c0_0,.int .i64 a0_1],.agg #[.slice A1_0 l1_0.length c1_0,.int .i64 a1_1]] w fun e w' => e = .returned (.bool r) ∧ Below w.heap.size w w' := by
 have hu29 := Try.underlying29
 have HR0_0 := As_ hr0_0
 have HC0_0 := As_ hc0_0
 clear hr0_0 hc0_0
 have HR1_0 := As_ hr1_0
 have HC1_0 := As_ hc1_0
 clear hr1_0 hc1_0
 have HB := As_ (Below.refl w.heap.size w)
 have H : ((spec_validGraph.f k l0_0 a0_1).bind fun t786 => (if t786 = true then ((spec_validGraph.f k l1_0 a1_1).bind fun t787 => (if t787 = true then ((spec_codeOf.f k l0_0 a0_1).bind fun t788 => ((spec_codeOf.f k l1_0 a1_1).bind fun t791 => ((spec_sameInts.f k t788 t791).bind fun t794 => (some t794)))) else (some false))) else (some false))) = some r := h
 clear h
 replace H := obS H
 obtain ⟨t786,A30,H⟩ := H
 replace H : (if t786 = true then ((spec_validGraph.f k l1_0 a1_1).bind fun t787 => (if t787 = true then ((spec_codeOf.f k l0_0 a0_1).bind fun t788 => ((spec_codeOf.f k l1_0 a1_1).bind fun t791 => ((spec_sameInts.f k t788 t791).bind fun t794 => (some t794)))) else (some false))) else (some false)) = some r := H
 have A3 := As_ A30
 clear A30
 by_cases c4 : t786 = true
 ·subst c4
  have H1 : ((spec_validGraph.f k l1_0 a1_1).bind fun t787 => (if t787 = true then ((spec_codeOf.f k l0_0 a0_1).bind fun t788 => ((spec_codeOf.f k l1_0 a1_1).bind fun t791 => ((spec_sameInts.f k t788 t791).bind fun t794 => (some t794)))) else (some false))) = some r := by rw [if_pos rfl] at H;exact H
  clear H
  have H := H1
  clear H1
  replace H := obS H
  obtain ⟨t787,A50,H⟩ := H
  replace H : (if t787 = true then ((spec_codeOf.f k l0_0 a0_1).bind fun t788 => ((spec_codeOf.f k l1_0 a1_1).bind fun t791 => ((spec_sameInts.f k t788 t791).bind fun t794 => (some t794)))) else (some false)) = some r := H
  have A5 := As_ A50
  clear A50
  by_cases c6 : t787 = true
  ·subst c6
   have H1 : ((spec_codeOf.f k l0_0 a0_1).bind fun t788 => ((spec_codeOf.f k l1_0 a1_1).bind fun t791 => ((spec_sameInts.f k t788 t791).bind fun t794 => (some t794)))) = some r := by rw [if_pos rfl] at H;exact H
   clear H
   have H := H1
   clear H1
   replace H := obS H
   obtain ⟨t788,A70,H⟩ := H
   replace H : ((spec_codeOf.f k l1_0 a1_1).bind fun t791 => ((spec_sameInts.f k t788 t791).bind fun t794 => (some t794))) = some r := H
   have A7 := As_ A70
   clear A70
   replace H := obS H
   obtain ⟨t791,A80,H⟩ := H
   replace H : ((spec_sameInts.f k t788 t791).bind fun t794 => (some t794)) = some r := H
   have A8 := As_ A80
   clear A80
   replace H := obS H
   obtain ⟨t794,A90,H⟩ := H
   replace H : (some t794) = some r := H
   have A9 := As_ A90
   clear A90
   obtain rfl := Option.some.inj H
   go_enter Try.func41,Try.ntmps41
   try go_wp2_with (first|((with_reducible refine gate_dst (N := 2) rfl ?_);refine box_event ?hg (N := 2) ?hd (cs := #[.slice A0_0 l0_0.length c0_0,.int .i64 a0_1]) (t := 29) ?hr ?_;(case hd => rfl);(case hg => rfl);(case hr => go_simp <;> rfl);intro gb784 hg w10 hbox hb;have n0_ := As_ (bwT (by repeat (first|(with_reducible first|exact HB.out|apply bwA|apply bwN|apply bwD)|exact HB.out)) hb);have n1_ := As_ (hbox);have n2_ := As_ ((by rw [hg];exact (bwZ (by repeat (first|(with_reducible first|exact HB.out|apply bwA|apply bwN|apply bwD)|exact HB.out))) : w.heap.size ≤ gb784));have n3_ := As_ ((by rw [hg];exact (bwZ (by repeat (first|(with_reducible first|exact HB.out|apply bwA|apply bwN|apply bwD)|exact HB.out))) : w.heap.size ≤ gb784));clear HB;have HB := n0_;have BK784 := n1_;have GW784 := n2_;have GE784 := n3_;clear n0_ n1_ n2_ n3_;clear hb hbox hg)|((with_reducible refine gate_dst (N := 3) rfl ?_);refine box_event ?hg (N := 3) ?hd (cs := #[.slice A1_0 l1_0.length c1_0,.int .i64 a1_1]) (t := 29) ?hr ?_;(case hd => rfl);(case hg => rfl);(case hr => go_simp <;> rfl);intro gb785 hg w11 hbox hb;have n0_ := As_ (blk_below (g := gb784) (o := .cells #[.slice A0_0 l0_0.length c0_0,.int .i64 a0_1] 29 (0,0)) (by (with_reducible repeat (first|refine bkN ?_ _|refine bkD ?_|refine bkA ?_ _));exact BK784.out) hb);have n1_ := As_ (bwT (by repeat (first|(with_reducible first|exact HB.out|apply bwA|apply bwN|apply bwD|refine bwS ?_ GE784.out)|exact HB.out)) hb);have n2_ := As_ (hbox);have n3_ := As_ ((by rw [hg];exact (bwZ (by repeat (first|(with_reducible first|exact HB.out|apply bwA|apply bwN|apply bwD|refine bwS ?_ GE784.out)|exact HB.out))) : w.heap.size ≤ gb785));have n4_ := As_ ((by rw [hg];exact (bwZ (by repeat (first|(with_reducible first|exact HB.out|apply bwA|apply bwN|apply bwD|refine bwS ?_ GE784.out)|exact HB.out))) : w.heap.size ≤ gb785));have n5_ := As_ ((by rw [hg];exact Nat.ne_of_lt (blk_lt (g := gb784) (o := .cells #[.slice A0_0 l0_0.length c0_0,.int .i64 a0_1] 29 (0,0)) (by (with_reducible repeat (first|refine bkN ?_ _|refine bkD ?_|refine bkA ?_ _));exact BK784.out)) : gb784 ≠ gb785));have n6_ := As_ ((by rw [hg];exact Nat.ne_of_gt (blk_lt (g := gb784) (o := .cells #[.slice A0_0 l0_0.length c0_0,.int .i64 a0_1] 29 (0,0)) (by (with_reducible repeat (first|refine bkN ?_ _|refine bkD ?_|refine bkA ?_ _));exact BK784.out)) : gb785 ≠ gb784));clear BK784;clear HB;have BK784 := n0_;have HB := n1_;have BK785 := n2_;have GW785 := n3_;have GE785 := n4_;have NB784_785 := n5_;have NB785_784 := n6_;clear n0_ n1_ n2_ n3_ n4_ n5_ n6_;clear hb hbox hg))
   have n0_ := As_ (bkD BK784.out)
   have n1_ := As_ (bkD BK785.out)
   have n2_ := As_ (bwD HB.out)
   clear BK784
   clear BK785
   clear HB
   have BK784 := n0_
   have BK785 := n1_
   have HB := n2_
   clear n0_ n1_ n2_
   refine start_ (n := 14) (S := fun w' => w'.cell? ⟨gb784,0,none⟩ = some (.slice A0_0 l0_0.length c0_0) ∧ w'.cell? ⟨gb784,1,none⟩ = some (.int .i64 a0_1) ∧ w'.cell? ⟨gb785,0,none⟩ = some (.slice A1_0 l1_0.length c1_0) ∧ w'.cell? ⟨gb785,1,none⟩ = some (.int .i64 a1_1)) (ds := []) #[false,false,false,false,false,false,false,false,false,false,false,false,false,false] (by kernel_rfl) rfl rfl ⟨(bkC BK784.out 0).trans rfl,(bkC BK784.out 1).trans rfl,(bkC BK785.out 0).trans rfl,(bkC BK785.out 1).trans rfl⟩ (fun hHeld => ?_);refine with_tabW spec_SameGraph.tab1 spec_SameGraph.bits1 (fun HT_ HW_ => ?_)
   generalize w11.drew = w12 at BK784 BK785 HB hHeld ⊢
   refine take_ (i := 0) (N := some 5) (v := ?_) (a' := ?_) #[true,false,false,false,false,false,false,false,false,false,false,false,false,false] rfl rfl (take_ofW HT_.out HW_.out (by kernel_rfl)) (fun _ _ _ h => h) (Or.inl ⟨by rfl,?_⟩) hHeld ?_ ?_;rotate_left;(rintro w' ⟨s0,s1,s2,s3⟩;go_simp;with_reducible rfl);rotate_left;(simp only [Act.put,sq_,i64_w,i32_w];rfl)
   refine one_ (i := 1) (N := some 6) #[true,true,false,false,false,false,false,false,false,false,false,false,false,false] rfl rfl (one_of HT_.out (by kernel_rfl)) (by decide) (fun K hK => ?_)
   refine goes_ Try.func48 (by kernel_rfl) rfl #[.agg #[.slice A0_0 l0_0.length c0_0,.int .i64 a0_1]] (by rfl) rfl rfl (by (try simp only [List.map_toArray,List.map_cons,List.map_nil]);first|done|rfl|(simp only [List.length_drop,List.length_take];rfl)) ?_
   with_reducible refine (spec_validGraph.calls k _ _ l0_0 a0_1 true _ ?side1 ?side2 A3.out).mono ?_
   (case side1 => repeat (first|exact (Kd.C_below HR0_0.out HB.out)|(with_reducible refine Kd.C_alloc ?_ _)|(with_reducible refine Kd.C_drewN ?_ _)|(with_reducible refine Kd.C_drew ?_)))
   (case side2 => exact HC0_0.out)
   rintro e w13 ⟨rfl,hb⟩
   refine ⟨_,rfl,?_⟩
   have n0_ := As_ (blk_below (g := gb784) (o := .cells #[.slice A0_0 l0_0.length c0_0,.int .i64 a0_1] 29 (0,0)) (by (with_reducible repeat (first|refine bkN ?_ _|refine bkD ?_|refine bkA ?_ _));exact BK784.out) hb)
   have n1_ := As_ (blk_below (g := gb785) (o := .cells #[.slice A1_0 l1_0.length c1_0,.int .i64 a1_1] 29 (0,0)) (by (with_reducible repeat (first|refine bkN ?_ _|refine bkD ?_|refine bkA ?_ _));exact BK785.out) hb)
   have n2_ := As_ (bwT (by repeat (first|(with_reducible first|exact HB.out|apply bwA|apply bwN|apply bwD|refine bwS ?_ GE784.out|refine bwS ?_ GE785.out)|exact HB.out)) hb)
   clear BK784
   clear BK785
   clear HB
   have BK784 := n0_
   have BK785 := n1_
   have HB := n2_
   clear n0_ n1_ n2_
   (try clear hb)
   (try clear hb2)
   (try clear hk)
   (try clear hi)
   refine hK.out _ _ ⟨(bkC BK784.out 0).trans rfl,(bkC BK784.out 1).trans rfl,(bkC BK785.out 0).trans rfl,(bkC BK785.out 1).trans rfl⟩ (fun hHeld => ?_)
   clear hK K
   refine norm_ (a' := ?_) ?_ ?_
   rotate_left
   ·show Act.put _ (some 6) _ = _
    simp only [Act.put,sq_,i64_w,i32_w]
    rfl
   refine pure_ (i := 2) (N := some 7) (v := ?_) (a' := ?_) #[true,true,true,false,false,false,false,false,false,false,false,false,false,false] rfl rfl (any_of HT_.out (by kernel_rfl)) (fun _ _ _ h => h) (Or.inl ⟨by rfl,?_⟩) ?_ ?_;rotate_left;(intro w';go_simp;with_reducible rfl);rotate_left;(simp only [Act.put,sq_,i64_w,i32_w];rfl)
   refine take_ (i := 3) (N := some 8) (v := ?_) (a' := ?_) #[true,true,true,true,false,false,false,false,false,false,false,false,false,false] rfl rfl (take_ofW HT_.out HW_.out (by kernel_rfl)) (fun _ _ _ h => h) (Or.inl ⟨by rfl,?_⟩) hHeld ?_ ?_;rotate_left;(rintro w' ⟨s0,s1,s2,s3⟩;go_simp;with_reducible rfl);rotate_left;(simp only [Act.put,sq_,i64_w,i32_w];rfl)
   refine one_ (i := 4) (N := some 9) #[true,true,true,true,true,false,false,false,false,false,false,false,false,false] rfl rfl (one_of HT_.out (by kernel_rfl)) (by decide) (fun K hK => ?_)
   refine goes_ Try.func48 (by kernel_rfl) rfl #[.agg #[.slice A1_0 l1_0.length c1_0,.int .i64 a1_1]] (by rfl) rfl rfl (by (try simp only [List.map_toArray,List.map_cons,List.map_nil]);first|done|rfl|(simp only [List.length_drop,List.length_take];rfl)) ?_
   with_reducible refine (spec_validGraph.calls k _ _ l1_0 a1_1 true _ ?side1 ?side2 A5.out).mono ?_
   (case side1 => repeat (first|exact (Kd.C_below HR1_0.out HB.out)|(with_reducible refine Kd.C_alloc ?_ _)|(with_reducible refine Kd.C_drewN ?_ _)|(with_reducible refine Kd.C_drew ?_)))
   (case side2 => exact HC1_0.out)
   rintro e w14 ⟨rfl,hb⟩
   refine ⟨_,rfl,?_⟩
   have n0_ := As_ (blk_below (g := gb784) (o := .cells #[.slice A0_0 l0_0.length c0_0,.int .i64 a0_1] 29 (0,0)) (by (with_reducible repeat (first|refine bkN ?_ _|refine bkD ?_|refine bkA ?_ _));exact BK784.out) hb)
   have n1_ := As_ (blk_below (g := gb785) (o := .cells #[.slice A1_0 l1_0.length c1_0,.int .i64 a1_1] 29 (0,0)) (by (with_reducible repeat (first|refine bkN ?_ _|refine bkD ?_|refine bkA ?_ _));exact BK785.out) hb)
   have n2_ := As_ (bwT (by repeat (first|(with_reducible first|exact HB.out|apply bwA|apply bwN|apply bwD|refine bwS ?_ GE784.out|refine bwS ?_ GE785.out)|exact HB.out)) hb)
   clear BK784
   clear BK785
   clear HB
   have BK784 := n0_
   have BK785 := n1_
   have HB := n2_
   clear n0_ n1_ n2_
   (try clear hb)
   (try clear hb2)
   (try clear hk)
   (try clear hi)
   refine hK.out _ _ ⟨(bkC BK784.out 0).trans rfl,(bkC BK784.out 1).trans rfl,(bkC BK785.out 0).trans rfl,(bkC BK785.out 1).trans rfl⟩ (fun hHeld => ?_)
   clear hK K
   refine norm_ (a' := ?_) ?_ ?_
   rotate_left
   ·show Act.put _ (some 9) _ = _
    simp only [Act.put,sq_,i64_w,i32_w]
    rfl
   refine pure_ (i := 5) (N := some 10) (v := ?_) (a' := ?_) #[true,true,true,true,true,true,false,false,false,false,false,false,false,false] rfl rfl (any_of HT_.out (by kernel_rfl)) (fun _ _ _ h => h) (Or.inl ⟨by rfl,?_⟩) ?_ ?_;rotate_left;(intro w';go_simp;with_reducible rfl);rotate_left;(simp only [Act.put,sq_,i64_w,i32_w];rfl)
   refine pure_ (i := 6) (N := some 11) (v := ?_) (a' := ?_) #[true,true,true,true,true,true,true,false,false,false,false,false,false,false] rfl rfl (any_of HT_.out (by kernel_rfl)) (fun _ _ _ h => h) (Or.inl ⟨by rfl,?_⟩) ?_ ?_;rotate_left;(intro w';go_simp;with_reducible rfl);rotate_left;(simp only [Act.put,sq_,i64_w,i32_w];rfl)
   refine take_ (i := 7) (N := some 12) (v := ?_) (a' := ?_) #[true,true,true,true,true,true,true,true,false,false,false,false,false,false] rfl rfl (take_ofW HT_.out HW_.out (by kernel_rfl)) (fun _ _ _ h => h) (Or.inl ⟨by rfl,?_⟩) hHeld ?_ ?_;rotate_left;(rintro w' ⟨s0,s1,s2,s3⟩;go_simp;with_reducible rfl);rotate_left;(simp only [Act.put,sq_,i64_w,i32_w];rfl)
   refine take_ (i := 9) (N := some 14) (v := ?_) (a' := ?_) #[true,true,true,true,true,true,true,true,false,true,false,false,false,false] rfl rfl (take_ofW HT_.out HW_.out (by kernel_rfl)) (fun _ _ _ h => h) (Or.inl ⟨by rfl,?_⟩) hHeld ?_ ?_;rotate_left;(rintro w' ⟨s0,s1,s2,s3⟩;go_simp;with_reducible rfl);rotate_left;(simp only [Act.put,sq_,i64_w,i32_w];rfl)
   refine one_ (i := 8) (N := some 13) #[true,true,true,true,true,true,true,true,true,true,false,false,false,false] rfl rfl (one_of HT_.out (by kernel_rfl)) (by decide) (fun K hK => ?_)
   refine goes_ Try.func75 (by kernel_rfl) rfl #[.agg #[.slice A0_0 l0_0.length c0_0,.int .i64 a0_1]] (by rfl) rfl rfl (by (try simp only [List.map_toArray,List.map_cons,List.map_nil]);first|done|rfl|(simp only [List.length_drop,List.length_take];rfl)) ?_
   with_reducible refine (spec_codeOf.calls k _ _ l0_0 a0_1 t788 _ ?side1 ?side2 A7.out).mono ?_
   (case side1 => repeat (first|exact (Kd.C_below HR0_0.out HB.out)|(with_reducible refine Kd.C_alloc ?_ _)|(with_reducible refine Kd.C_drewN ?_ _)|(with_reducible refine Kd.C_drew ?_)))
   (case side2 => exact HC0_0.out)
   rintro e w15 ⟨v789,rfl,ho0,hb⟩
   refine ⟨_,rfl,?_⟩
   have n0_ := As_ (Kd.R_lower ho0 (bwZ (by repeat (first|(with_reducible first|exact HB.out|apply bwA|apply bwN|apply bwD|refine bwS ?_ GE784.out|refine bwS ?_ GE785.out)|exact HB.out))))
   have n1_ := As_ (blk_below (g := gb784) (o := .cells #[.slice A0_0 l0_0.length c0_0,.int .i64 a0_1] 29 (0,0)) (by (with_reducible repeat (first|refine bkN ?_ _|refine bkD ?_|refine bkA ?_ _));exact BK784.out) hb)
   have n2_ := As_ (blk_below (g := gb785) (o := .cells #[.slice A1_0 l1_0.length c1_0,.int .i64 a1_1] 29 (0,0)) (by (with_reducible repeat (first|refine bkN ?_ _|refine bkD ?_|refine bkA ?_ _));exact BK785.out) hb)
   have n3_ := As_ (bwT (by repeat (first|(with_reducible first|exact HB.out|apply bwA|apply bwN|apply bwD|refine bwS ?_ GE784.out|refine bwS ?_ GE785.out)|exact HB.out)) hb)
   clear BK784
   clear BK785
   clear HB
   have HO790 := n0_
   have BK784 := n1_
   have BK785 := n2_
   have HB := n3_
   clear n0_ n1_ n2_ n3_
   (try clear hb)
   (try clear hb2)
   (try clear hk)
   (try clear hi)
   (try clear ho0)
   refine hK.out _ _ ⟨(bkC BK784.out 0).trans rfl,(bkC BK784.out 1).trans rfl,(bkC BK785.out 0).trans rfl,(bkC BK785.out 1).trans rfl⟩ (fun hHeld => ?_)
   clear hK K
   refine norm_ (a' := ?_) ?_ ?_
   rotate_left
   ·show Act.put _ (some 13) _ = _
    simp only [Act.put,sq_,i64_w,i32_w]
    rfl
   refine one_ (i := 10) (N := some 15) #[true,true,true,true,true,true,true,true,true,true,true,false,false,false] rfl rfl (one_of HT_.out (by kernel_rfl)) (by decide) (fun K hK => ?_)
   refine goes_ Try.func75 (by kernel_rfl) rfl #[.agg #[.slice A1_0 l1_0.length c1_0,.int .i64 a1_1]] (by rfl) rfl rfl (by (try simp only [List.map_toArray,List.map_cons,List.map_nil]);first|done|rfl|(simp only [List.length_drop,List.length_take];rfl)) ?_
   with_reducible refine (spec_codeOf.calls k _ _ l1_0 a1_1 t791 _ ?side1 ?side2 A8.out).mono ?_
   (case side1 => repeat (first|exact (Kd.C_below HR1_0.out HB.out)|(with_reducible refine Kd.C_alloc ?_ _)|(with_reducible refine Kd.C_drewN ?_ _)|(with_reducible refine Kd.C_drew ?_)))
   (case side2 => exact HC1_0.out)
   rintro e w16 ⟨v792,rfl,ho0,hb⟩
   refine ⟨_,rfl,?_⟩
   have n0_ := As_ (Kd.R_elder' (by (with_reducible repeat (first|apply Kd.R_alloc|apply Kd.R_drewN|apply Kd.R_drew));exact HO790.out) (Kd.R_base ho0) hb)
   have n1_ := As_ (Kd.R_lower (Kd.R_new' ho0 (Kd.R_lt (by (with_reducible repeat (first|apply Kd.R_alloc|apply Kd.R_drewN|apply Kd.R_drew));exact HO790.out))) (bwZ (by repeat (first|(with_reducible first|exact HB.out|apply bwA|apply bwN|apply bwD|refine bwS ?_ GE784.out|refine bwS ?_ GE785.out)|exact HB.out))))
   have n2_ := As_ (blk_below (g := gb784) (o := .cells #[.slice A0_0 l0_0.length c0_0,.int .i64 a0_1] 29 (0,0)) (by (with_reducible repeat (first|refine bkN ?_ _|refine bkD ?_|refine bkA ?_ _));exact BK784.out) hb)
   have n3_ := As_ (blk_below (g := gb785) (o := .cells #[.slice A1_0 l1_0.length c1_0,.int .i64 a1_1] 29 (0,0)) (by (with_reducible repeat (first|refine bkN ?_ _|refine bkD ?_|refine bkA ?_ _));exact BK785.out) hb)
   have n4_ := As_ (bwT (by repeat (first|(with_reducible first|exact HB.out|apply bwA|apply bwN|apply bwD|refine bwS ?_ GE784.out|refine bwS ?_ GE785.out)|exact HB.out)) hb)
   clear HO790
   clear BK784
   clear BK785
   clear HB
   have HO790 := n0_
   have HO793 := n1_
   have BK784 := n2_
   have BK785 := n3_
   have HB := n4_
   clear n0_ n1_ n2_ n3_ n4_
   (try clear hb)
   (try clear hb2)
   (try clear hk)
   (try clear hi)
   (try clear ho0)
   obtain ⟨Ao17,co17,eo17⟩ := Kd.R_slice HO790.out
   (first|subst eo17|(injection eo17 with f1_ f2_ f3_;have f4_ := f1_.symm;have f5_ := f3_.symm;clear f1_ f2_ f3_;subst f4_;subst f5_))
   obtain ⟨Ao18,co18,eo18⟩ := Kd.R_slice HO793.out
   (first|subst eo18|(injection eo18 with f1_ f2_ f3_;have f4_ := f1_.symm;have f5_ := f3_.symm;clear f1_ f2_ f3_;subst f4_;subst f5_))
   refine hK.out _ _ ⟨(bkC BK784.out 0).trans rfl,(bkC BK784.out 1).trans rfl,(bkC BK785.out 0).trans rfl,(bkC BK785.out 1).trans rfl⟩ (fun hHeld => ?_)
   clear hK K
   refine norm_ (a' := ?_) ?_ ?_
   rotate_left
   ·show Act.put _ (some 15) _ = _
    simp only [Act.put,sq_,i64_w,i32_w]
    rfl
   refine one_ (i := 11) (N := some 16) #[true,true,true,true,true,true,true,true,true,true,true,true,false,false] rfl rfl (one_of HT_.out (by kernel_rfl)) (by decide) (fun K hK => ?_)
   refine goes_ Try.func74 (by kernel_rfl) rfl #[.slice Ao17 t788.length co17,.slice Ao18 t791.length co18] (by rfl) rfl rfl (by (try simp only [List.map_toArray,List.map_cons,List.map_nil]);first|done|rfl|(simp only [List.length_drop,List.length_take];rfl)) ?_
   with_reducible refine (spec_sameInts.calls k _ _ t788 _ _ t791 t794 _ ?side1 ?side2 ?side3 ?side4 A9.out).mono ?_
   (case side1 => repeat (first|exact (Kd.R_reads' HO790.out).2.2|(with_reducible refine Kd.C_alloc ?_ _)|(with_reducible refine Kd.C_drewN ?_ _)|(with_reducible refine Kd.C_drew ?_)))
   (case side2 => exact (Kd.R_reads' HO790.out).2.1)
   (case side3 => repeat (first|exact (Kd.R_reads' HO793.out).2.2|(with_reducible refine Kd.C_alloc ?_ _)|(with_reducible refine Kd.C_drewN ?_ _)|(with_reducible refine Kd.C_drew ?_)))
   (case side4 => exact (Kd.R_reads' HO793.out).2.1)
   rintro e w' ⟨rfl,⟨nd,rfl⟩⟩
   refine ⟨_,rfl,?_⟩
   refine hK.out _ _ ⟨(bkC BK784.out 0).trans rfl,(bkC BK784.out 1).trans rfl,(bkC BK785.out 0).trans rfl,(bkC BK785.out 1).trans rfl⟩ (fun hHeld => ?_)
   clear hK K
   refine norm_ (a' := ?_) ?_ ?_
   rotate_left
   ·show Act.put _ (some 16) _ = _
    simp only [Act.put,sq_,i64_w,i32_w]
    rfl
   refine pure_ (i := 12) (N := some 17) (v := ?_) (a' := ?_) #[true,true,true,true,true,true,true,true,true,true,true,true,true,false] rfl rfl (any_of HT_.out (by kernel_rfl)) (fun _ _ _ h => h) (Or.inl ⟨by rfl,?_⟩) ?_ ?_;rotate_left;(intro w';go_simp;with_reducible rfl);rotate_left;(simp only [Act.put,sq_,i64_w,i32_w];rfl)
   refine pure_ (i := 13) (N := some 4) (v := ?_) (a' := ?_) #[true,true,true,true,true,true,true,true,true,true,true,true,true,true] rfl rfl (any_of HT_.out (by kernel_rfl)) (fun _ _ _ h => h) (Or.inl ⟨by rfl,?_⟩) ?_ ?_;rotate_left;(intro w';go_simp;with_reducible rfl);rotate_left;(simp only [Act.put,sq_,i64_w,i32_w];rfl)
   refine done_ (done_of HT_.out (by kernel_rfl)) ?_
   try go_wp2
   go_ret
   exact ⟨by first|rfl|(simp [errW_none,errW_some] <;> rfl)|(simp [*,errW_none,errW_some] <;> rfl),by repeat (first|(with_reducible first|exact HB.out|apply bwA|apply bwN|apply bwD|refine bwS ?_ GE784.out|refine bwS ?_ GE785.out)|exact HB.out)⟩
  ·replace c6 := Bool.eq_false_iff.mpr c6
   subst c6
   have H1 : (some false) = some r := by rw [if_neg (show ¬ (false = true) by decide)] at H;exact H
   clear H
   have H := H1
   clear H1
   obtain rfl := Option.some.inj H
   go_enter Try.func41,Try.ntmps41
   try go_wp2_with (first|((with_reducible refine gate_dst (N := 2) rfl ?_);refine box_event ?hg (N := 2) ?hd (cs := #[.slice A0_0 l0_0.length c0_0,.int .i64 a0_1]) (t := 29) ?hr ?_;(case hd => rfl);(case hg => rfl);(case hr => go_simp <;> rfl);intro gb784 hg w19 hbox hb;have n0_ := As_ (bwT (by repeat (first|(with_reducible first|exact HB.out|apply bwA|apply bwN|apply bwD)|exact HB.out)) hb);have n1_ := As_ (hbox);have n2_ := As_ ((by rw [hg];exact (bwZ (by repeat (first|(with_reducible first|exact HB.out|apply bwA|apply bwN|apply bwD)|exact HB.out))) : w.heap.size ≤ gb784));have n3_ := As_ ((by rw [hg];exact (bwZ (by repeat (first|(with_reducible first|exact HB.out|apply bwA|apply bwN|apply bwD)|exact HB.out))) : w.heap.size ≤ gb784));clear HB;have HB := n0_;have BK784 := n1_;have GW784 := n2_;have GE784 := n3_;clear n0_ n1_ n2_ n3_;clear hb hbox hg)|((with_reducible refine gate_dst (N := 3) rfl ?_);refine box_event ?hg (N := 3) ?hd (cs := #[.slice A1_0 l1_0.length c1_0,.int .i64 a1_1]) (t := 29) ?hr ?_;(case hd => rfl);(case hg => rfl);(case hr => go_simp <;> rfl);intro gb785 hg w20 hbox hb;have n0_ := As_ (blk_below (g := gb784) (o := .cells #[.slice A0_0 l0_0.length c0_0,.int .i64 a0_1] 29 (0,0)) (by (with_reducible repeat (first|refine bkN ?_ _|refine bkD ?_|refine bkA ?_ _));exact BK784.out) hb);have n1_ := As_ (bwT (by repeat (first|(with_reducible first|exact HB.out|apply bwA|apply bwN|apply bwD|refine bwS ?_ GE784.out)|exact HB.out)) hb);have n2_ := As_ (hbox);have n3_ := As_ ((by rw [hg];exact (bwZ (by repeat (first|(with_reducible first|exact HB.out|apply bwA|apply bwN|apply bwD|refine bwS ?_ GE784.out)|exact HB.out))) : w.heap.size ≤ gb785));have n4_ := As_ ((by rw [hg];exact (bwZ (by repeat (first|(with_reducible first|exact HB.out|apply bwA|apply bwN|apply bwD|refine bwS ?_ GE784.out)|exact HB.out))) : w.heap.size ≤ gb785));have n5_ := As_ ((by rw [hg];exact Nat.ne_of_lt (blk_lt (g := gb784) (o := .cells #[.slice A0_0 l0_0.length c0_0,.int .i64 a0_1] 29 (0,0)) (by (with_reducible repeat (first|refine bkN ?_ _|refine bkD ?_|refine bkA ?_ _));exact BK784.out)) : gb784 ≠ gb785));have n6_ := As_ ((by rw [hg];exact Nat.ne_of_gt (blk_lt (g := gb784) (o := .cells #[.slice A0_0 l0_0.length c0_0,.int .i64 a0_1] 29 (0,0)) (by (with_reducible repeat (first|refine bkN ?_ _|refine bkD ?_|refine bkA ?_ _));exact BK784.out)) : gb785 ≠ gb784));clear BK784;clear HB;have BK784 := n0_;have HB := n1_;have BK785 := n2_;have GW785 := n3_;have GE785 := n4_;have NB784_785 := n5_;have NB785_784 := n6_;clear n0_ n1_ n2_ n3_ n4_ n5_ n6_;clear hb hbox hg))
   have n0_ := As_ (bkD BK784.out)
   have n1_ := As_ (bkD BK785.out)
   have n2_ := As_ (bwD HB.out)
   clear BK784
   clear BK785
   clear HB
   have BK784 := n0_
   have BK785 := n1_
   have HB := n2_
   clear n0_ n1_ n2_
   refine start_ (n := 14) (S := fun w' => w'.cell? ⟨gb784,0,none⟩ = some (.slice A0_0 l0_0.length c0_0) ∧ w'.cell? ⟨gb784,1,none⟩ = some (.int .i64 a0_1) ∧ w'.cell? ⟨gb785,0,none⟩ = some (.slice A1_0 l1_0.length c1_0) ∧ w'.cell? ⟨gb785,1,none⟩ = some (.int .i64 a1_1)) (ds := []) #[false,false,false,false,false,false,false,false,false,false,false,false,false,false] (by kernel_rfl) rfl rfl ⟨(bkC BK784.out 0).trans rfl,(bkC BK784.out 1).trans rfl,(bkC BK785.out 0).trans rfl,(bkC BK785.out 1).trans rfl⟩ (fun hHeld => ?_);refine with_tabW spec_SameGraph.tab1 spec_SameGraph.bits1 (fun HT_ HW_ => ?_)
   generalize w20.drew = w21 at BK784 BK785 HB hHeld ⊢
   refine take_ (i := 0) (N := some 5) (v := ?_) (a' := ?_) #[true,false,false,false,false,false,false,false,false,false,false,false,false,false] rfl rfl (take_ofW HT_.out HW_.out (by kernel_rfl)) (fun _ _ _ h => h) (Or.inl ⟨by rfl,?_⟩) hHeld ?_ ?_;rotate_left;(rintro w' ⟨s0,s1,s2,s3⟩;go_simp;with_reducible rfl);rotate_left;(simp only [Act.put,sq_,i64_w,i32_w];rfl)
   refine one_ (i := 1) (N := some 6) #[true,true,false,false,false,false,false,false,false,false,false,false,false,false] rfl rfl (one_of HT_.out (by kernel_rfl)) (by decide) (fun K hK => ?_)
   refine goes_ Try.func48 (by kernel_rfl) rfl #[.agg #[.slice A0_0 l0_0.length c0_0,.int .i64 a0_1]] (by rfl) rfl rfl (by (try simp only [List.map_toArray,List.map_cons,List.map_nil]);first|done|rfl|(simp only [List.length_drop,List.length_take];rfl)) ?_
   with_reducible refine (spec_validGraph.calls k _ _ l0_0 a0_1 true _ ?side1 ?side2 A3.out).mono ?_
   (case side1 => repeat (first|exact (Kd.C_below HR0_0.out HB.out)|(with_reducible refine Kd.C_alloc ?_ _)|(with_reducible refine Kd.C_drewN ?_ _)|(with_reducible refine Kd.C_drew ?_)))
   (case side2 => exact HC0_0.out)
   rintro e w22 ⟨rfl,hb⟩
   refine ⟨_,rfl,?_⟩
   have n0_ := As_ (blk_below (g := gb784) (o := .cells #[.slice A0_0 l0_0.length c0_0,.int .i64 a0_1] 29 (0,0)) (by (with_reducible repeat (first|refine bkN ?_ _|refine bkD ?_|refine bkA ?_ _));exact BK784.out) hb)
   have n1_ := As_ (blk_below (g := gb785) (o := .cells #[.slice A1_0 l1_0.length c1_0,.int .i64 a1_1] 29 (0,0)) (by (with_reducible repeat (first|refine bkN ?_ _|refine bkD ?_|refine bkA ?_ _));exact BK785.out) hb)
   have n2_ := As_ (bwT (by repeat (first|(with_reducible first|exact HB.out|apply bwA|apply bwN|apply bwD|refine bwS ?_ GE784.out|refine bwS ?_ GE785.out)|exact HB.out)) hb)
   clear BK784
   clear BK785
   clear HB
   have BK784 := n0_
   have BK785 := n1_
   have HB := n2_
   clear n0_ n1_ n2_
   (try clear hb)
   (try clear hb2)
   (try clear hk)
   (try clear hi)
   refine hK.out _ _ ⟨(bkC BK784.out 0).trans rfl,(bkC BK784.out 1).trans rfl,(bkC BK785.out 0).trans rfl,(bkC BK785.out 1).trans rfl⟩ (fun hHeld => ?_)
   clear hK K
   refine norm_ (a' := ?_) ?_ ?_
   rotate_left
   ·show Act.put _ (some 6) _ = _
    simp only [Act.put,sq_,i64_w,i32_w]
    rfl
   refine pure_ (i := 2) (N := some 7) (v := ?_) (a' := ?_) #[true,true,true,false,false,false,false,false,false,false,false,false,false,false] rfl rfl (any_of HT_.out (by kernel_rfl)) (fun _ _ _ h => h) (Or.inl ⟨by rfl,?_⟩) ?_ ?_;rotate_left;(intro w';go_simp;with_reducible rfl);rotate_left;(simp only [Act.put,sq_,i64_w,i32_w];rfl)
   refine take_ (i := 3) (N := some 8) (v := ?_) (a' := ?_) #[true,true,true,true,false,false,false,false,false,false,false,false,false,false] rfl rfl (take_ofW HT_.out HW_.out (by kernel_rfl)) (fun _ _ _ h => h) (Or.inl ⟨by rfl,?_⟩) hHeld ?_ ?_;rotate_left;(rintro w' ⟨s0,s1,s2,s3⟩;go_simp;with_reducible rfl);rotate_left;(simp only [Act.put,sq_,i64_w,i32_w];rfl)
   refine one_ (i := 4) (N := some 9) #[true,true,true,true,true,false,false,false,false,false,false,false,false,false] rfl rfl (one_of HT_.out (by kernel_rfl)) (by decide) (fun K hK => ?_)
   refine goes_ Try.func48 (by kernel_rfl) rfl #[.agg #[.slice A1_0 l1_0.length c1_0,.int .i64 a1_1]] (by rfl) rfl rfl (by (try simp only [List.map_toArray,List.map_cons,List.map_nil]);first|done|rfl|(simp only [List.length_drop,List.length_take];rfl)) ?_
   with_reducible refine (spec_validGraph.calls k _ _ l1_0 a1_1 false _ ?side1 ?side2 A5.out).mono ?_
   (case side1 => repeat (first|exact (Kd.C_below HR1_0.out HB.out)|(with_reducible refine Kd.C_alloc ?_ _)|(with_reducible refine Kd.C_drewN ?_ _)|(with_reducible refine Kd.C_drew ?_)))
   (case side2 => exact HC1_0.out)
   rintro e w23 ⟨rfl,hb⟩
   refine ⟨_,rfl,?_⟩
   have n0_ := As_ (blk_below (g := gb784) (o := .cells #[.slice A0_0 l0_0.length c0_0,.int .i64 a0_1] 29 (0,0)) (by (with_reducible repeat (first|refine bkN ?_ _|refine bkD ?_|refine bkA ?_ _));exact BK784.out) hb)
   have n1_ := As_ (blk_below (g := gb785) (o := .cells #[.slice A1_0 l1_0.length c1_0,.int .i64 a1_1] 29 (0,0)) (by (with_reducible repeat (first|refine bkN ?_ _|refine bkD ?_|refine bkA ?_ _));exact BK785.out) hb)
   have n2_ := As_ (bwT (by repeat (first|(with_reducible first|exact HB.out|apply bwA|apply bwN|apply bwD|refine bwS ?_ GE784.out|refine bwS ?_ GE785.out)|exact HB.out)) hb)
   clear BK784
   clear BK785
   clear HB
   have BK784 := n0_
   have BK785 := n1_
   have HB := n2_
   clear n0_ n1_ n2_
   (try clear hb)
   (try clear hb2)
   (try clear hk)
   (try clear hi)
   refine hK.out _ _ ⟨(bkC BK784.out 0).trans rfl,(bkC BK784.out 1).trans rfl,(bkC BK785.out 0).trans rfl,(bkC BK785.out 1).trans rfl⟩ (fun hHeld => ?_)
   clear hK K
   refine norm_ (a' := ?_) ?_ ?_
   rotate_left
   ·show Act.put _ (some 9) _ = _
    simp only [Act.put,sq_,i64_w,i32_w]
    rfl
   refine pure_ (i := 5) (N := some 10) (v := ?_) (a' := ?_) #[true,true,true,true,true,true,false,false,false,false,false,false,false,false] rfl rfl (any_of HT_.out (by kernel_rfl)) (fun _ _ _ h => h) (Or.inl ⟨by rfl,?_⟩) ?_ ?_;rotate_left;(intro w';go_simp;with_reducible rfl);rotate_left;(simp only [Act.put,sq_,i64_w,i32_w];rfl)
   refine pure_ (i := 6) (N := some 11) (v := ?_) (a' := ?_) #[true,true,true,true,true,true,true,false,false,false,false,false,false,false] rfl rfl (any_of HT_.out (by kernel_rfl)) (fun _ _ _ h => h) (Or.inl ⟨by rfl,?_⟩) ?_ ?_;rotate_left;(intro w';go_simp;with_reducible rfl);rotate_left;(simp only [Act.put,sq_,i64_w,i32_w];rfl)
   refine pure_ (i := 7) (N := some 12) (v := undef) (a' := ?_) #[true,true,true,true,true,true,true,true,false,false,false,false,false,false] rfl rfl (any_of HT_.out (by kernel_rfl)) (fun _ _ _ h => h) (Or.inr ⟨by rfl,rfl⟩) ?_ ?_
   rotate_left
   ·simp only [Act.put,sq_,i64_w,i32_w]
    rfl
   refine pure_ (i := 8) (N := some 13) (v := undef) (a' := ?_) #[true,true,true,true,true,true,true,true,true,false,false,false,false,false] rfl rfl (any_of HT_.out (by kernel_rfl)) (fun _ _ _ h => h) (Or.inr ⟨by rfl,rfl⟩) ?_ ?_
   rotate_left
   ·simp only [Act.put,sq_,i64_w,i32_w]
    rfl
   refine pure_ (i := 9) (N := some 14) (v := undef) (a' := ?_) #[true,true,true,true,true,true,true,true,true,true,false,false,false,false] rfl rfl (any_of HT_.out (by kernel_rfl)) (fun _ _ _ h => h) (Or.inr ⟨by rfl,rfl⟩) ?_ ?_
   rotate_left
   ·simp only [Act.put,sq_,i64_w,i32_w]
    rfl
   refine pure_ (i := 10) (N := some 15) (v := undef) (a' := ?_) #[true,true,true,true,true,true,true,true,true,true,true,false,false,false] rfl rfl (any_of HT_.out (by kernel_rfl)) (fun _ _ _ h => h) (Or.inr ⟨by rfl,rfl⟩) ?_ ?_
   rotate_left
   ·simp only [Act.put,sq_,i64_w,i32_w]
    rfl
   refine pure_ (i := 11) (N := some 16) (v := undef) (a' := ?_) #[true,true,true,true,true,true,true,true,true,true,true,true,false,false] rfl rfl (any_of HT_.out (by kernel_rfl)) (fun _ _ _ h => h) (Or.inr ⟨by rfl,rfl⟩) ?_ ?_
   rotate_left
   ·simp only [Act.put,sq_,i64_w,i32_w]
    rfl
   refine pure_ (i := 12) (N := some 17) (v := ?_) (a' := ?_) #[true,true,true,true,true,true,true,true,true,true,true,true,true,false] rfl rfl (any_of HT_.out (by kernel_rfl)) (fun _ _ _ h => h) (Or.inl ⟨by rfl,?_⟩) ?_ ?_;rotate_left;(intro w';go_simp;with_reducible rfl);rotate_left;(simp only [Act.put,sq_,i64_w,i32_w];rfl)
   refine pure_ (i := 13) (N := some 4) (v := ?_) (a' := ?_) #[true,true,true,true,true,true,true,true,true,true,true,true,true,true] rfl rfl (any_of HT_.out (by kernel_rfl)) (fun _ _ _ h => h) (Or.inl ⟨by rfl,?_⟩) ?_ ?_;rotate_left;(intro w';go_simp;with_reducible rfl);rotate_left;(simp only [Act.put,sq_,i64_w,i32_w];rfl)
   refine done_ (done_of HT_.out (by kernel_rfl)) ?_
   try go_wp2
   go_ret
   exact ⟨by first|rfl|(simp [errW_none,errW_some] <;> rfl)|(simp [*,errW_none,errW_some] <;> rfl),by repeat (first|(with_reducible first|exact HB.out|apply bwA|apply bwN|apply bwD|refine bwS ?_ GE784.out|refine bwS ?_ GE785.out)|exact HB.out)⟩
 ·replace c4 := Bool.eq_false_iff.mpr c4
  subst c4
  have H1 : (some false) = some r := by rw [if_neg (show ¬ (false = true) by decide)] at H;exact H
  clear H
  have H := H1
  clear H1
  obtain rfl := Option.some.inj H
  go_enter Try.func41,Try.ntmps41
  try go_wp2_with (first|((with_reducible refine gate_dst (N := 2) rfl ?_);refine box_event ?hg (N := 2) ?hd (cs := #[.slice A0_0 l0_0.length c0_0,.int .i64 a0_1]) (t := 29) ?hr ?_;(case hd => rfl);(case hg => rfl);(case hr => go_simp <;> rfl);intro gb784 hg w24 hbox hb;have n0_ := As_ (bwT (by repeat (first|(with_reducible first|exact HB.out|apply bwA|apply bwN|apply bwD)|exact HB.out)) hb);have n1_ := As_ (hbox);have n2_ := As_ ((by rw [hg];exact (bwZ (by repeat (first|(with_reducible first|exact HB.out|apply bwA|apply bwN|apply bwD)|exact HB.out))) : w.heap.size ≤ gb784));have n3_ := As_ ((by rw [hg];exact (bwZ (by repeat (first|(with_reducible first|exact HB.out|apply bwA|apply bwN|apply bwD)|exact HB.out))) : w.heap.size ≤ gb784));clear HB;have HB := n0_;have BK784 := n1_;have GW784 := n2_;have GE784 := n3_;clear n0_ n1_ n2_ n3_;clear hb hbox hg)|((with_reducible refine gate_dst (N := 3) rfl ?_);refine box_event ?hg (N := 3) ?hd (cs := #[.slice A1_0 l1_0.length c1_0,.int .i64 a1_1]) (t := 29) ?hr ?_;(case hd => rfl);(case hg => rfl);(case hr => go_simp <;> rfl);intro gb785 hg w25 hbox hb;have n0_ := As_ (blk_below (g := gb784) (o := .cells #[.slice A0_0 l0_0.length c0_0,.int .i64 a0_1] 29 (0,0)) (by (with_reducible repeat (first|refine bkN ?_ _|refine bkD ?_|refine bkA ?_ _));exact BK784.out) hb);have n1_ := As_ (bwT (by repeat (first|(with_reducible first|exact HB.out|apply bwA|apply bwN|apply bwD|refine bwS ?_ GE784.out)|exact HB.out)) hb);have n2_ := As_ (hbox);have n3_ := As_ ((by rw [hg];exact (bwZ (by repeat (first|(with_reducible first|exact HB.out|apply bwA|apply bwN|apply bwD|refine bwS ?_ GE784.out)|exact HB.out))) : w.heap.size ≤ gb785));have n4_ := As_ ((by rw [hg];exact (bwZ (by repeat (first|(with_reducible first|exact HB.out|apply bwA|apply bwN|apply bwD|refine bwS ?_ GE784.out)|exact HB.out))) : w.heap.size ≤ gb785));have n5_ := As_ ((by rw [hg];exact Nat.ne_of_lt (blk_lt (g := gb784) (o := .cells #[.slice A0_0 l0_0.length c0_0,.int .i64 a0_1] 29 (0,0)) (by (with_reducible repeat (first|refine bkN ?_ _|refine bkD ?_|refine bkA ?_ _));exact BK784.out)) : gb784 ≠ gb785));have n6_ := As_ ((by rw [hg];exact Nat.ne_of_gt (blk_lt (g := gb784) (o := .cells #[.slice A0_0 l0_0.length c0_0,.int .i64 a0_1] 29 (0,0)) (by (with_reducible repeat (first|refine bkN ?_ _|refine bkD ?_|refine bkA ?_ _));exact BK784.out)) : gb785 ≠ gb784));clear BK784;clear HB;have BK784 := n0_;have HB := n1_;have BK785 := n2_;have GW785 := n3_;have GE785 := n4_;have NB784_785 := n5_;have NB785_784 := n6_;clear n0_ n1_ n2_ n3_ n4_ n5_ n6_;clear hb hbox hg))
  have n0_ := As_ (bkD BK784.out)
  have n1_ := As_ (bkD BK785.out)
  have n2_ := As_ (bwD HB.out)
  clear BK784
  clear BK785
  clear HB
  have BK784 := n0_
  have BK785 := n1_
  have HB := n2_
  clear n0_ n1_ n2_
  refine start_ (n := 14) (S := fun w' => w'.cell? ⟨gb784,0,none⟩ = some (.slice A0_0 l0_0.length c0_0) ∧ w'.cell? ⟨gb784,1,none⟩ = some (.int .i64 a0_1)) (ds := []) #[false,false,false,false,false,false,false,false,false,false,false,false,false,false] (by kernel_rfl) rfl rfl ⟨(bkC BK784.out 0).trans rfl,(bkC BK784.out 1).trans rfl⟩ (fun hHeld => ?_);refine with_tabW spec_SameGraph.tab1 spec_SameGraph.bits1 (fun HT_ HW_ => ?_)
  generalize w25.drew = w26 at BK784 BK785 HB hHeld ⊢
  refine take_ (i := 0) (N := some 5) (v := ?_) (a' := ?_) #[true,false,false,false,false,false,false,false,false,false,false,false,false,false] rfl rfl (take_ofW HT_.out HW_.out (by kernel_rfl)) (fun _ _ _ h => h) (Or.inl ⟨by rfl,?_⟩) hHeld ?_ ?_;rotate_left;(rintro w' ⟨s0,s1⟩;go_simp;with_reducible rfl);rotate_left;(simp only [Act.put,sq_,i64_w,i32_w];rfl)
  refine one_ (i := 1) (N := some 6) #[true,true,false,false,false,false,false,false,false,false,false,false,false,false] rfl rfl (one_of HT_.out (by kernel_rfl)) (by decide) (fun K hK => ?_)
  refine goes_ Try.func48 (by kernel_rfl) rfl #[.agg #[.slice A0_0 l0_0.length c0_0,.int .i64 a0_1]] (by rfl) rfl rfl (by (try simp only [List.map_toArray,List.map_cons,List.map_nil]);first|done|rfl|(simp only [List.length_drop,List.length_take];rfl)) ?_
  with_reducible refine (spec_validGraph.calls k _ _ l0_0 a0_1 false _ ?side1 ?side2 A3.out).mono ?_
  (case side1 => repeat (first|exact (Kd.C_below HR0_0.out HB.out)|(with_reducible refine Kd.C_alloc ?_ _)|(with_reducible refine Kd.C_drewN ?_ _)|(with_reducible refine Kd.C_drew ?_)))
  (case side2 => exact HC0_0.out)
  rintro e w27 ⟨rfl,hb⟩
  refine ⟨_,rfl,?_⟩
  have n0_ := As_ (blk_below (g := gb784) (o := .cells #[.slice A0_0 l0_0.length c0_0,.int .i64 a0_1] 29 (0,0)) (by (with_reducible repeat (first|refine bkN ?_ _|refine bkD ?_|refine bkA ?_ _));exact BK784.out) hb)
  have n1_ := As_ (blk_below (g := gb785) (o := .cells #[.slice A1_0 l1_0.length c1_0,.int .i64 a1_1] 29 (0,0)) (by (with_reducible repeat (first|refine bkN ?_ _|refine bkD ?_|refine bkA ?_ _));exact BK785.out) hb)
  have n2_ := As_ (bwT (by repeat (first|(with_reducible first|exact HB.out|apply bwA|apply bwN|apply bwD|refine bwS ?_ GE784.out|refine bwS ?_ GE785.out)|exact HB.out)) hb)
  clear BK784
  clear BK785
  clear HB
  have BK784 := n0_
  have BK785 := n1_
  have HB := n2_
  clear n0_ n1_ n2_
  (try clear hb)
  (try clear hb2)
  (try clear hk)
  (try clear hi)
  refine hK.out _ _ ⟨(bkC BK784.out 0).trans rfl,(bkC BK784.out 1).trans rfl⟩ (fun hHeld => ?_)
  clear hK K
  refine norm_ (a' := ?_) ?_ ?_
  rotate_left
  ·show Act.put _ (some 6) _ = _
   simp only [Act.put,sq_,i64_w,i32_w]
   rfl
  refine pure_ (i := 2) (N := some 7) (v := ?_) (a' := ?_) #[true,true,true,false,false,false,false,false,false,false,false,false,false,false] rfl rfl (any_of HT_.out (by kernel_rfl)) (fun _ _ _ h => h) (Or.inl ⟨by rfl,?_⟩) ?_ ?_;rotate_left;(intro w';go_simp;with_reducible rfl);rotate_left;(simp only [Act.put,sq_,i64_w,i32_w];rfl)
  refine pure_ (i := 3) (N := some 8) (v := undef) (a' := ?_) #[true,true,true,true,false,false,false,false,false,false,false,false,false,false] rfl rfl (any_of HT_.out (by kernel_rfl)) (fun _ _ _ h => h) (Or.inr ⟨by rfl,rfl⟩) ?_ ?_
  rotate_left
  ·simp only [Act.put,sq_,i64_w,i32_w]
   rfl
  refine pure_ (i := 4) (N := some 9) (v := undef) (a' := ?_) #[true,true,true,true,true,false,false,false,false,false,false,false,false,false] rfl rfl (any_of HT_.out (by kernel_rfl)) (fun _ _ _ h => h) (Or.inr ⟨by rfl,rfl⟩) ?_ ?_
  rotate_left
  ·simp only [Act.put,sq_,i64_w,i32_w]
   rfl
  refine pure_ (i := 5) (N := some 10) (v := ?_) (a' := ?_) #[true,true,true,true,true,true,false,false,false,false,false,false,false,false] rfl rfl (any_of HT_.out (by kernel_rfl)) (fun _ _ _ h => h) (Or.inl ⟨by rfl,?_⟩) ?_ ?_;rotate_left;(intro w';go_simp;with_reducible rfl);rotate_left;(simp only [Act.put,sq_,i64_w,i32_w];rfl)
  refine pure_ (i := 6) (N := some 11) (v := ?_) (a' := ?_) #[true,true,true,true,true,true,true,false,false,false,false,false,false,false] rfl rfl (any_of HT_.out (by kernel_rfl)) (fun _ _ _ h => h) (Or.inl ⟨by rfl,?_⟩) ?_ ?_;rotate_left;(intro w';go_simp;with_reducible rfl);rotate_left;(simp only [Act.put,sq_,i64_w,i32_w];rfl)
  refine pure_ (i := 7) (N := some 12) (v := undef) (a' := ?_) #[true,true,true,true,true,true,true,true,false,false,false,false,false,false] rfl rfl (any_of HT_.out (by kernel_rfl)) (fun _ _ _ h => h) (Or.inr ⟨by rfl,rfl⟩) ?_ ?_
  rotate_left
  ·simp only [Act.put,sq_,i64_w,i32_w]
   rfl
  refine pure_ (i := 8) (N := some 13) (v := undef) (a' := ?_) #[true,true,true,true,true,true,true,true,true,false,false,false,false,false] rfl rfl (any_of HT_.out (by kernel_rfl)) (fun _ _ _ h => h) (Or.inr ⟨by rfl,rfl⟩) ?_ ?_
  rotate_left
  ·simp only [Act.put,sq_,i64_w,i32_w]
   rfl
  refine pure_ (i := 9) (N := some 14) (v := undef) (a' := ?_) #[true,true,true,true,true,true,true,true,true,true,false,false,false,false] rfl rfl (any_of HT_.out (by kernel_rfl)) (fun _ _ _ h => h) (Or.inr ⟨by rfl,rfl⟩) ?_ ?_
  rotate_left
  ·simp only [Act.put,sq_,i64_w,i32_w]
   rfl
  refine pure_ (i := 10) (N := some 15) (v := undef) (a' := ?_) #[true,true,true,true,true,true,true,true,true,true,true,false,false,false] rfl rfl (any_of HT_.out (by kernel_rfl)) (fun _ _ _ h => h) (Or.inr ⟨by rfl,rfl⟩) ?_ ?_
  rotate_left
  ·simp only [Act.put,sq_,i64_w,i32_w]
   rfl
  refine pure_ (i := 11) (N := some 16) (v := undef) (a' := ?_) #[true,true,true,true,true,true,true,true,true,true,true,true,false,false] rfl rfl (any_of HT_.out (by kernel_rfl)) (fun _ _ _ h => h) (Or.inr ⟨by rfl,rfl⟩) ?_ ?_
  rotate_left
  ·simp only [Act.put,sq_,i64_w,i32_w]
   rfl
  refine pure_ (i := 12) (N := some 17) (v := ?_) (a' := ?_) #[true,true,true,true,true,true,true,true,true,true,true,true,true,false] rfl rfl (any_of HT_.out (by kernel_rfl)) (fun _ _ _ h => h) (Or.inl ⟨by rfl,?_⟩) ?_ ?_;rotate_left;(intro w';go_simp;with_reducible rfl);rotate_left;(simp only [Act.put,sq_,i64_w,i32_w];rfl)
  refine pure_ (i := 13) (N := some 4) (v := ?_) (a' := ?_) #[true,true,true,true,true,true,true,true,true,true,true,true,true,true] rfl rfl (any_of HT_.out (by kernel_rfl)) (fun _ _ _ h => h) (Or.inl ⟨by rfl,?_⟩) ?_ ?_;rotate_left;(intro w';go_simp;with_reducible rfl);rotate_left;(simp only [Act.put,sq_,i64_w,i32_w];rfl)
  refine done_ (done_of HT_.out (by kernel_rfl)) ?_
  try go_wp2
  go_ret
  exact ⟨by first|rfl|(simp [errW_none,errW_some] <;> rfl)|(simp [*,errW_none,errW_some] <;> rfl),by repeat (first|(with_reducible first|exact HB.out|apply bwA|apply bwN|apply bwD|refine bwS ?_ GE784.out|refine bwS ?_ GE785.out)|exact HB.out)⟩

end Go.Proofs.Ytfhakhbmbnbneaa.Q
