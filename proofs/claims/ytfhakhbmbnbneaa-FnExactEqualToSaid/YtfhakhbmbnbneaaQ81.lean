-- Written by wip/tools/qprint.py (a program of this claim's author) by means of the kit's printer.
import Derived.Test.YtfhakhbmbnbneaaQ0
import Derived.Test.YtfhakhbmbnbneaaQ70
import Derived.Test.YtfhakhbmbnbneaaQ101
namespace Go.Proofs.Ytfhakhbmbnbneaa.Q
open Go.RowKit Go.Proofs.YtfhakhbmbnbneaaW.PrintWords Go.Proofs.YtfhakhbmbnbneaaW.PrintLast Go.Proofs.YtfhakhbmbnbneaaW.PrintMore
attribute [local go_sem] max2_int min2_int max_two min_two max_three min_three max_four min_four   -- for this text's walks alone
set_option linter.unusedVariables false
set_option linter.unusedSimpArgs false

/-! ### spec_validNode: function 81 -/
mutual
def spec_validNode.j0 : Nat → Bool → List (S45) → Int → Int → Int → List Int → Option (Bool)
 | 0,_,_,_,_,_,_ => none
 | k + 1,x18,x123000,x123001,x124000,x124001,x124002 => if x18 = true then (some false) else (if x124000 = 0 then ((spec_inRange.f x124001 0 999).bind fun t125 => (if t125 = true then (some ((x124002.length : Int) == 0)) else (some false))) else (if x124000 = 1 then ((spec_inRange.f x124001 0 9).bind fun t126 => (if t126 = true then (some ((x124002.length : Int) == 0)) else (some false))) else (if x124000 = 2 then (spec_validNode.j1 k x124000 (x124000 == 2) x123000 x123001 x124000 x124001 x124002) else (spec_validNode.j1 k x124000 (x124000 == 3) x123000 x123001 x124000 x124001 x124002))))
def spec_validNode.j1 : Nat → Int → Bool → List (S45) → Int → Int → Int → List Int → Option (Bool)
 | 0,_,_,_,_,_,_,_ => none
 | k + 1,x20,x43,x123000,x123001,x124000,x124001,x124002 => if x43 = true then (some (x124001 == 0)) else (if x20 = 4 then (if x124001 = 0 then ((spec_validDict.f k x123000 x123001 x124000 x124001 x124002).bind fun t127 => (some t127)) else (some false)) else (if x20 = 5 then ((spec_inRange.f x124001 0 9).bind fun t128 => (if t128 = true then (some (decide ((x124002.length : Int) ≤ 1))) else (some false))) else (some false)))
end
def spec_validNode.f (k : Nat) (l0_0 : List (S45)) (a0_1 : Int) (a1_0 : Int) (a1_1 : Int) (l1_2 : List Int) : Option (Bool) := if (l1_2.length : Int) > 6 then (spec_validNode.j0 k true l0_0 a0_1 a1_0 a1_1 l1_2) else ((spec_allIn.f k l1_2 0 (wrap64 ((l0_0.length : Int) - 1))).bind fun t124 => (spec_validNode.j0 k (!t124) l0_0 a0_1 a1_0 a1_1 l1_2))
set_option maxRecDepth 100000 in
theorem spec_validNode.mono_l : ∀ k,(∀ y0 y1 y2 y3 y4 y5,LeO (spec_validNode.j0 k y0 y1 y2 y3 y4 y5) (spec_validNode.j0 (k + 1) y0 y1 y2 y3 y4 y5)) ∧ (∀ y0 y1 y2 y3 y4 y5 y6,LeO (spec_validNode.j1 k y0 y1 y2 y3 y4 y5 y6) (spec_validNode.j1 (k + 1) y0 y1 y2 y3 y4 y5 y6))
 | 0 => ⟨fun _ _ _ _ _ _ r h => (by cases h),fun _ _ _ _ _ _ _ r h => (by cases h)⟩
 | k + 1 => by
  obtain ⟨ih0,ih1⟩ := spec_validNode.mono_l k
  refine ⟨?_,?_⟩
  ·intro y0 y1 y2 y3 y4 y5
   unfold spec_validNode.j0
   repeat' first
   | (with_reducible exact ih0 _ _ _ _ _ _)
   | (with_reducible exact ih1 _ _ _ _ _ _ _)
   | (with_reducible exact spec_allIn.mono _ _ _ _)
   | (with_reducible exact spec_validDict.mono _ _ _ _ _ _)
   | (with_reducible exact LeO.refl _)
   | (with_reducible exact LeO.none _)
   | (with_reducible refine LeO.ite ?_ ?_)
   | (with_reducible refine LeO.bind ?_ (fun _ => ?_))
   | exact ih0 _ _ _ _ _ _
   | exact ih1 _ _ _ _ _ _ _
   | exact spec_allIn.mono _ _ _ _
   | exact spec_validDict.mono _ _ _ _ _ _
   | exact LeO.none _
   | refine LeO.ite ?_ ?_
   | refine LeO.bind ?_ (fun _ => ?_)
  ·intro y0 y1 y2 y3 y4 y5 y6
   unfold spec_validNode.j1
   repeat' first
   | (with_reducible exact ih0 _ _ _ _ _ _)
   | (with_reducible exact ih1 _ _ _ _ _ _ _)
   | (with_reducible exact spec_allIn.mono _ _ _ _)
   | (with_reducible exact spec_validDict.mono _ _ _ _ _ _)
   | (with_reducible exact LeO.refl _)
   | (with_reducible exact LeO.none _)
   | (with_reducible refine LeO.ite ?_ ?_)
   | (with_reducible refine LeO.bind ?_ (fun _ => ?_))
   | exact ih0 _ _ _ _ _ _
   | exact ih1 _ _ _ _ _ _ _
   | exact spec_allIn.mono _ _ _ _
   | exact spec_validDict.mono _ _ _ _ _ _
   | exact LeO.none _
   | refine LeO.ite ?_ ?_
   | refine LeO.bind ?_ (fun _ => ?_)
set_option maxRecDepth 100000 in
theorem spec_validNode.mono : ∀ a0 a1 a2 a3 a4 k,LeO (spec_validNode.f k a0 a1 a2 a3 a4) (spec_validNode.f (k + 1) a0 a1 a2 a3 a4) := by
 intro a0 a1 a2 a3 a4 k
 obtain ⟨ih0,ih1⟩ := spec_validNode.mono_l k
 unfold spec_validNode.f
 repeat' first
   | (with_reducible exact ih0 _ _ _ _ _ _)
   | (with_reducible exact ih1 _ _ _ _ _ _ _)
   | (with_reducible exact spec_allIn.mono _ _ _ _)
   | (with_reducible exact spec_validDict.mono _ _ _ _ _ _)
   | (with_reducible exact LeO.refl _)
   | (with_reducible exact LeO.none _)
   | (with_reducible refine LeO.ite ?_ ?_)
   | (with_reducible refine LeO.bind ?_ (fun _ => ?_))
   | exact ih0 _ _ _ _ _ _
   | exact ih1 _ _ _ _ _ _ _
   | exact spec_allIn.mono _ _ _ _
   | exact spec_validDict.mono _ _ _ _ _ _
   | exact LeO.none _
   | refine LeO.ite ?_ ?_
   | refine LeO.bind ?_ (fun _ => ?_)
set_option maxHeartbeats 8000000 in
set_option maxRecDepth 100000 in
theorem spec_validNode.calls (k : Nat) (A0_0 : Option Addr) (c0_0 : Nat) (l0_0 : List (S45)) (a0_1 : Int) (a1_0 : Int) (a1_1 : Int) (A1_2 : Option Addr) (c1_2 : Nat) (l1_2 : List Int) (r : Bool) (w : World) (hr0_0 : Kd.C k45 w A0_0 l0_0.length l0_0) (hc0_0 : l0_0.length ≤ c0_0) (hr1_2 : Kd.C (Kd.int .i64) w A1_2 l1_2.length l1_2) (hc1_2 : l1_2.length ≤ c1_2) (h : spec_validNode.f k l0_0 a0_1 a1_0 a1_1 l1_2 = some r) :
  Calls Try.prog 81 #[.agg #[.slice A0_0 l0_0.length c0_0,.int .i64 a0_1],.agg #[.int .i64 a1_0,.int .i64 a1_1,.slice A1_2 l1_2.length c1_2]] w fun e w' => e = .returned (.bool r) ∧ Below w.heap.size w w' := by
 have hu29 := Try.underlying29
 have hu45 := Try.underlying45
 have HR0_0 := As_ hr0_0
 have HC0_0 := As_ hc0_0
 clear hr0_0 hc0_0
 have HR1_2 := As_ hr1_2
 have HC1_2 := As_ hc1_2
 clear hr1_2 hc1_2
 have HB := As_ (Below.refl w.heap.size w)
 have H : (if (l1_2.length : Int) > 6 then (spec_validNode.j0 k true l0_0 a0_1 a1_0 a1_1 l1_2) else ((spec_allIn.f k l1_2 0 (wrap64 ((l0_0.length : Int) - 1))).bind fun t124 => (spec_validNode.j0 k (!t124) l0_0 a0_1 a1_0 a1_1 l1_2))) = some r := h
 clear h
 have HC3 := As_ H
 clear H
 go_enter Try.func81,Try.ntmps81
 go_upto_region 1 with (first|((with_reducible refine gate_dst (N := 2) rfl ?_);(try (refine gate_guard (by rfl) ?_;dsimp only));refine box_event ?hg (N := 2) ?hd (cs := #[.slice A0_0 l0_0.length c0_0,.int .i64 a0_1]) (t := 29) ?hr ?_;(case hd => rfl);(case hg => rfl);(case hr => go_simp <;> rfl);intro gb122 hg w4 hbox hb;have n0_ := As_ (bwT (zb0 HB.out) hb);have n1_ := As_ (hbox);have n2_ := As_ ((by rw [hg];exact (bwZ (zb0 HB.out)) : w.heap.size ≤ gb122));have n3_ := As_ ((by rw [hg];exact (bwZ (zb0 HB.out)) : w.heap.size ≤ gb122));clear HB;revert n0_ n1_ n2_ n3_;intro HB BK122 GW122 GE122;clear hb hbox hg)|((with_reducible refine gate_dst (N := 3) rfl ?_);(try (refine gate_guard (by rfl) ?_;dsimp only));refine box_event ?hg (N := 3) ?hd (cs := #[.int .i64 a1_0,.int .i64 a1_1,.slice A1_2 l1_2.length c1_2]) (t := 45) ?hr ?_;(case hd => rfl);(case hg => rfl);(case hr => go_simp <;> rfl);intro gb123 hg w5 hbox hb;have n0_ := As_ (zkb BK122.out hb);have n1_ := As_ (bwT (zb1 HB.out GE122.out) hb);have n2_ := As_ (hbox);have n3_ := As_ ((by rw [hg];exact (bwZ (zb1 HB.out GE122.out)) : w.heap.size ≤ gb123));have n4_ := As_ ((by rw [hg];exact (bwZ (zb1 HB.out GE122.out)) : w.heap.size ≤ gb123));have n5_ := As_ ((by rw [hg];exact Nat.ne_of_lt (zkl BK122.out) : gb122 ≠ gb123));have n6_ := As_ ((by rw [hg];exact Nat.ne_of_gt (zkl BK122.out) : gb123 ≠ gb122));clear BK122 HB;revert n0_ n1_ n2_ n3_ n4_ n5_ n6_;intro BK122 HB BK123 GW123 GE123 NB122_123 NB123_122;clear hb hbox hg))
 (try simp only [Act.put,List.setIfInBounds_toArray,List.set_cons_zero,List.set_cons_succ])
 go_cut [18] (fun v18 wc => ∃ (kq : Nat) (x18_2 : Bool),v18 = .bool x18_2 ∧ Aside0 (spec_validNode.j0 kq x18_2 l0_0 a0_1 a1_0 a1_1 l1_2 = some r) ∧ Aside0 (kq ≤ k) ∧ Aside0 (wc.heap[gb122]? = some (.cells #[(.slice A0_0 l0_0.length c0_0),.int .i64 a0_1] 29 (0,0))) ∧ Aside0 (wc.heap[gb123]? = some (.cells #[.int .i64 a1_0,.int .i64 a1_1,(.slice A1_2 l1_2.length c1_2)] 45 (0,0))) ∧ Aside0 (Below w.heap.size w wc))
 case first =>
  have H := HC3.out
  clear HC3
  by_cases c6 : (l1_2.length : Int) > 6
  ·rw [if_pos c6] at H
   have c6b0 : decide (6 < (l1_2.length : Int)) = true := deT c6
   have c6b1 : decide (6 < l1_2.length) = true := deT (by omega)
   clear c6
   (first|rw [c6b0]|(simp only [i64_w,i32_w];rw [c6b0])|skip)
   have H' := As_ H
   clear H
   have hnb7 := NB123_122.out
   have hnc7 := NB122_123.out
   obtain ⟨hcz8_0,hcz8_1,hcz8_2,hfz8_0,hfz8_1,hfz8_2⟩ := bk3 BK123.out
   go_wp2
   go_meet
   case rel => exact ⟨_,(true),zT_,H',⟨by first|omega|exact Nat.le_refl _⟩,⟨by (with_reducible repeat first|apply bkN|apply bkD|apply bkA);exact BK122.out⟩,⟨by (with_reducible repeat first|apply bkN|apply bkD|apply bkA);exact BK123.out⟩,⟨zb2 HB.out GE122.out GE123.out⟩⟩
  rw [if_neg c6] at H
  have c6b0 : decide (6 < (l1_2.length : Int)) = false := deF c6
  have c6b1 : decide (6 < l1_2.length) = false := deF (by omega)
  clear c6
  (first|rw [c6b0]|(simp only [i64_w,i32_w];rw [c6b0])|skip)
  replace H := obS H
  obtain ⟨t124,A90,H⟩ := H
  replace H : (spec_validNode.j0 k (!t124) l0_0 a0_1 a1_0 a1_1 l1_2) = some r := H
  have A9 := As_ A90
  clear A90
  have H' := As_ H
  clear H
  have hnb10 := NB123_122.out
  have hnc10 := NB122_123.out
  obtain ⟨hcz11_0,hcz11_1,hcz11_2,hfz11_0,hfz11_1,hfz11_2⟩ := bk3 BK123.out
  obtain ⟨hcz12_0,hcz12_1,hfz12_0,hfz12_1⟩ := bk2 BK122.out
  go_wp2_with (first|(go_at_call 100;(with_reducible refine (spec_allIn.calls k _ _ l1_2 0 (wrap64 ((l0_0.length : Int) - 1)) t124 _ ?side1 ?side2 A9.out).mono ?_);(case side1 => exact zC_ (Kd.C_below HR1_2.out HB.out));(case side2 => exact HC1_2.out);rintro e w' ⟨rfl,⟨nd,rfl⟩⟩))
  go_meet
  case rel => exact ⟨_,(!t124),zT_,H',⟨by first|omega|exact Nat.le_refl _⟩,⟨by (with_reducible repeat first|apply bkN|apply bkD|apply bkA);exact BK122.out⟩,⟨by (with_reducible repeat first|apply bkN|apply bkD|apply bkA);exact BK123.out⟩,⟨zb2 HB.out GE122.out GE123.out⟩⟩
 case rest =>
  clear HC3
  obtain ⟨kq,x18_2,rfl,HA,HJ2,BK122,BK123,HB⟩ := hcut
  cases kq with
  | zero => exact absurd HA.out (fun h_ => (by cases h_))
  | succ kj2 =>
   have H := HA.out
   clear HA
   simp only [spec_validNode.j0] at H
   by_cases c13 : x18_2 = true
   ·subst c13
    have H1 : (some false) = some r := by rw [if_pos rfl] at H;exact H
    clear H
    have H := H1
    clear H1
    obtain rfl := Option.some.inj H
    go_wp2
    go_ret
    exact ⟨zE_,zb2 HB.out GE122.out GE123.out⟩
   replace c13 := Bool.eq_false_iff.mpr c13
   subst c13
   have H1 : (if a1_0 = 0 then ((spec_inRange.f a1_1 0 999).bind fun t125 => (if t125 = true then (some ((l1_2.length : Int) == 0)) else (some false))) else (if a1_0 = 1 then ((spec_inRange.f a1_1 0 9).bind fun t126 => (if t126 = true then (some ((l1_2.length : Int) == 0)) else (some false))) else (if a1_0 = 2 then (spec_validNode.j1 kj2 a1_0 (a1_0 == 2) l0_0 a0_1 a1_0 a1_1 l1_2) else (spec_validNode.j1 kj2 a1_0 (a1_0 == 3) l0_0 a0_1 a1_0 a1_1 l1_2)))) = some r := by rw [if_neg (show ¬ (false = true) by decide)] at H;exact H
   clear H
   have H := H1
   clear H1
   by_cases c14 : a1_0 = 0
   ·rw [if_pos c14] at H
    have c14b0 : (a1_0 == 0) = true := beq_iff_eq.mpr c14
    have c14b1 : (a1_0 != 0) = false := bne_eq_false_iff_eq.mpr c14
    clear c14
    replace H := obS H
    obtain ⟨t125,A150,H⟩ := H
    replace H : (if t125 = true then (some ((l1_2.length : Int) == 0)) else (some false)) = some r := H
    have A15 := As_ A150
    clear A150
    by_cases c16 : t125 = true
    ·subst c16
     have H1 : (some ((l1_2.length : Int) == 0)) = some r := by rw [if_pos rfl] at H;exact H
     clear H
     have H := H1
     clear H1
     obtain rfl := Option.some.inj H
     have hnb17 := NB123_122.out
     have hnc17 := NB122_123.out
     obtain ⟨hcz18_0,hcz18_1,hcz18_2,hfz18_0,hfz18_1,hfz18_2⟩ := bk3 BK123.out
     go_wp2_with (first|((with_reducible refine gate_callee (f := 70) rfl ?_);refine goesL_ (some 25) rfl rfl Try.func70 (by kernel_rfl) rfl #[.int .i64 a1_1,.int .i64 0,.int .i64 999] rfl zM_ ?_;(with_reducible refine (spec_inRange.calls a1_1 0 999 true _ A15.out).mono ?_);rintro e w' ⟨rfl,⟨nd,rfl⟩⟩;refine ⟨_,rfl,?_⟩))
     go_ret
     exact ⟨zE_,zb2 HB.out GE122.out GE123.out⟩
    replace c16 := Bool.eq_false_iff.mpr c16
    subst c16
    have H1 : (some false) = some r := by rw [if_neg (show ¬ (false = true) by decide)] at H;exact H
    clear H
    have H := H1
    clear H1
    obtain rfl := Option.some.inj H
    have hnb19 := NB123_122.out
    have hnc19 := NB122_123.out
    obtain ⟨hcz20_0,hcz20_1,hcz20_2,hfz20_0,hfz20_1,hfz20_2⟩ := bk3 BK123.out
    go_wp2_with (first|((with_reducible refine gate_callee (f := 70) rfl ?_);refine goesL_ (some 25) rfl rfl Try.func70 (by kernel_rfl) rfl #[.int .i64 a1_1,.int .i64 0,.int .i64 999] rfl zM_ ?_;(with_reducible refine (spec_inRange.calls a1_1 0 999 false _ A15.out).mono ?_);rintro e w' ⟨rfl,⟨nd,rfl⟩⟩;refine ⟨_,rfl,?_⟩))
    go_ret
    exact ⟨zE_,zb2 HB.out GE122.out GE123.out⟩
   rw [if_neg c14] at H
   have c14b0 : (a1_0 == 0) = false := beq_eq_false_iff_ne.mpr c14
   have c14b1 : (a1_0 != 0) = true := bne_iff_ne.mpr c14
   by_cases c21 : a1_0 = 1
   ·rw [if_pos c21] at H
    have c21b0 : (a1_0 == 1) = true := beq_iff_eq.mpr c21
    have c21b1 : (a1_0 != 1) = false := bne_eq_false_iff_eq.mpr c21
    clear c21
    replace H := obS H
    obtain ⟨t126,A220,H⟩ := H
    replace H : (if t126 = true then (some ((l1_2.length : Int) == 0)) else (some false)) = some r := H
    have A22 := As_ A220
    clear A220
    by_cases c23 : t126 = true
    ·subst c23
     have H1 : (some ((l1_2.length : Int) == 0)) = some r := by rw [if_pos rfl] at H;exact H
     clear H
     have H := H1
     clear H1
     obtain rfl := Option.some.inj H
     have hnb24 := NB123_122.out
     have hnc24 := NB122_123.out
     obtain ⟨hcz25_0,hcz25_1,hcz25_2,hfz25_0,hfz25_1,hfz25_2⟩ := bk3 BK123.out
     go_wp2_with (first|((with_reducible refine gate_callee (f := 70) rfl ?_);refine goesL_ (some 36) rfl rfl Try.func70 (by kernel_rfl) rfl #[.int .i64 a1_1,.int .i64 0,.int .i64 9] rfl zM_ ?_;(with_reducible refine (spec_inRange.calls a1_1 0 9 true _ A22.out).mono ?_);rintro e w' ⟨rfl,⟨nd,rfl⟩⟩;refine ⟨_,rfl,?_⟩))
     go_ret
     exact ⟨zE_,zb2 HB.out GE122.out GE123.out⟩
    replace c23 := Bool.eq_false_iff.mpr c23
    subst c23
    have H1 : (some false) = some r := by rw [if_neg (show ¬ (false = true) by decide)] at H;exact H
    clear H
    have H := H1
    clear H1
    obtain rfl := Option.some.inj H
    have hnb26 := NB123_122.out
    have hnc26 := NB122_123.out
    obtain ⟨hcz27_0,hcz27_1,hcz27_2,hfz27_0,hfz27_1,hfz27_2⟩ := bk3 BK123.out
    go_wp2_with (first|((with_reducible refine gate_callee (f := 70) rfl ?_);refine goesL_ (some 36) rfl rfl Try.func70 (by kernel_rfl) rfl #[.int .i64 a1_1,.int .i64 0,.int .i64 9] rfl zM_ ?_;(with_reducible refine (spec_inRange.calls a1_1 0 9 false _ A22.out).mono ?_);rintro e w' ⟨rfl,⟨nd,rfl⟩⟩;refine ⟨_,rfl,?_⟩))
    go_ret
    exact ⟨zE_,zb2 HB.out GE122.out GE123.out⟩
   rw [if_neg c21] at H
   have c21b0 : (a1_0 == 1) = false := beq_eq_false_iff_ne.mpr c21
   have c21b1 : (a1_0 != 1) = true := bne_iff_ne.mpr c21
   have HC28 := As_ H
   clear H
   have hnb29 := NB123_122.out
   have hnc29 := NB122_123.out
   obtain ⟨hcz30_0,hcz30_1,hcz30_2,hfz30_0,hfz30_1,hfz30_2⟩ := bk3 BK123.out
   go_upto_if 43 with (fail)
   go_cut [43] (fun v43 wc => ∃ (kq : Nat) (x43_27 : Bool),v43 = .bool x43_27 ∧ Aside0 (spec_validNode.j1 kq a1_0 x43_27 l0_0 a0_1 a1_0 a1_1 l1_2 = some r) ∧ Aside0 (kq ≤ kj2) ∧ Aside0 (wc.heap[gb122]? = some (.cells #[(.slice A0_0 l0_0.length c0_0),.int .i64 a0_1] 29 (0,0))) ∧ Aside0 (wc.heap[gb123]? = some (.cells #[.int .i64 a1_0,.int .i64 a1_1,(.slice A1_2 l1_2.length c1_2)] 45 (0,0))) ∧ Aside0 (Below w.heap.size w wc))
   case first =>
    have H := HC28.out
    clear HC28
    by_cases c31 : a1_0 = 2
    rotate_left
    ·rw [if_neg c31] at H
     have c31b0 : (a1_0 == 2) = false := beq_eq_false_iff_ne.mpr c31
     have c31b1 : (a1_0 != 2) = true := bne_iff_ne.mpr c31
     (first|rw [c31b0]|(simp only [i64_w,i32_w];rw [c31b0])|skip)
     have H' := As_ H
     clear H
     go_wp2
     go_meet
     case rel => exact ⟨_,((a1_0 == 3)),zT_,H',⟨by have := HJ2.out;first|omega|exact Nat.le_refl _⟩,⟨by (with_reducible repeat first|apply bkN|apply bkD|apply bkA);exact BK122.out⟩,⟨by (with_reducible repeat first|apply bkN|apply bkD|apply bkA);exact BK123.out⟩,⟨zb2 HB.out GE122.out GE123.out⟩⟩
    rw [if_pos c31] at H
    have c31b0 : (a1_0 == 2) = true := beq_iff_eq.mpr c31
    have c31b1 : (a1_0 != 2) = false := bne_eq_false_iff_eq.mpr c31
    clear c31
    (first|rw [c31b0]|(simp only [i64_w,i32_w];rw [c31b0])|skip)
    have H' := As_ H
    clear H
    go_wp2
    go_meet
    case rel => exact ⟨_,((a1_0 == 2)),zT_,H',⟨by have := HJ2.out;first|omega|exact Nat.le_refl _⟩,⟨by (with_reducible repeat first|apply bkN|apply bkD|apply bkA);exact BK122.out⟩,⟨by (with_reducible repeat first|apply bkN|apply bkD|apply bkA);exact BK123.out⟩,⟨zb2 HB.out GE122.out GE123.out⟩⟩
   case rest =>
    clear HC28
    obtain ⟨kq,x43_27,rfl,HA,HJ27,BK122,BK123,HB⟩ := hcut
    cases kq with
    | zero => exact absurd HA.out (fun h_ => (by cases h_))
    | succ kj27 =>
     have H := HA.out
     clear HA
     simp only [spec_validNode.j1] at H
     by_cases c32 : x43_27 = true
     ·subst c32
      have H1 : (some (a1_1 == 0)) = some r := by rw [if_pos rfl] at H;exact H
      clear H
      have H := H1
      clear H1
      obtain rfl := Option.some.inj H
      have hnb33 := NB123_122.out
      have hnc33 := NB122_123.out
      obtain ⟨hcz34_0,hcz34_1,hcz34_2,hfz34_0,hfz34_1,hfz34_2⟩ := bk3 BK123.out
      go_wp2
      go_ret
      exact ⟨zE_,zb2 HB.out GE122.out GE123.out⟩
     replace c32 := Bool.eq_false_iff.mpr c32
     subst c32
     have H1 : (if a1_0 = 4 then (if a1_1 = 0 then ((spec_validDict.f kj27 l0_0 a0_1 a1_0 a1_1 l1_2).bind fun t127 => (some t127)) else (some false)) else (if a1_0 = 5 then ((spec_inRange.f a1_1 0 9).bind fun t128 => (if t128 = true then (some (decide ((l1_2.length : Int) ≤ 1))) else (some false))) else (some false))) = some r := by rw [if_neg (show ¬ (false = true) by decide)] at H;exact H
     clear H
     have H := H1
     clear H1
     by_cases c35 : a1_0 = 4
     ·rw [if_pos c35] at H
      have c35b0 : (a1_0 == 4) = true := beq_iff_eq.mpr c35
      have c35b1 : (a1_0 != 4) = false := bne_eq_false_iff_eq.mpr c35
      clear c35
      by_cases c36 : a1_1 = 0
      rotate_left
      ·rw [if_neg c36] at H
       have c36b0 : (a1_1 == 0) = false := beq_eq_false_iff_ne.mpr c36
       have c36b1 : (a1_1 != 0) = true := bne_iff_ne.mpr c36
       obtain rfl := Option.some.inj H
       have hnb42 := NB123_122.out
       have hnc42 := NB122_123.out
       obtain ⟨hcz43_0,hcz43_1,hcz43_2,hfz43_0,hfz43_1,hfz43_2⟩ := bk3 BK123.out
       go_wp2
       go_ret
       exact ⟨zE_,zb2 HB.out GE122.out GE123.out⟩
      rw [if_pos c36] at H
      have c36b0 : (a1_1 == 0) = true := beq_iff_eq.mpr c36
      have c36b1 : (a1_1 != 0) = false := bne_eq_false_iff_eq.mpr c36
      clear c36
      replace H := obS H
      obtain ⟨t127,A370,H⟩ := H
      replace H : (some t127) = some r := H
      have A37 := As_ A370
      clear A370
      obtain rfl := Option.some.inj H
      have hnb38 := NB123_122.out
      have hnc38 := NB122_123.out
      obtain ⟨hcz39_0,hcz39_1,hcz39_2,hfz39_0,hfz39_1,hfz39_2⟩ := bk3 BK123.out
      obtain ⟨hcz40_0,hcz40_1,hfz40_0,hfz40_1⟩ := bk2 BK122.out
      go_wp2_with (first|(go_at_call 101;(with_reducible refine (spec_validDict.calls kj27 _ _ l0_0 a0_1 a1_0 a1_1 _ _ l1_2 t127 _ ?side1 ?side2 ?side3 ?side4 A37.out).mono ?_);(case side1 => exact zC_ (Kd.C_below HR0_0.out HB.out));(case side2 => exact HC0_0.out);(case side3 => exact zC_ (Kd.C_below HR1_2.out HB.out));(case side4 => exact HC1_2.out);rintro e w41 ⟨rfl,hb⟩;have n0_ := As_ (zkb BK122.out hb);have n1_ := As_ (zkb BK123.out hb);have n2_ := As_ (bwT (zb2 HB.out GE122.out GE123.out) hb);clear BK122 BK123 HB;revert n0_ n1_ n2_;intro BK122 BK123 HB))
      go_ret
      exact ⟨zE_,zb2 HB.out GE122.out GE123.out⟩
     rw [if_neg c35] at H
     have c35b0 : (a1_0 == 4) = false := beq_eq_false_iff_ne.mpr c35
     have c35b1 : (a1_0 != 4) = true := bne_iff_ne.mpr c35
     by_cases c44 : a1_0 = 5
     rotate_left
     ·rw [if_neg c44] at H
      have c44b0 : (a1_0 == 5) = false := beq_eq_false_iff_ne.mpr c44
      have c44b1 : (a1_0 != 5) = true := bne_iff_ne.mpr c44
      obtain rfl := Option.some.inj H
      go_wp2
      go_ret
      exact ⟨zE_,zb2 HB.out GE122.out GE123.out⟩

     rw [if_pos c44] at H
     have c44b0 : (a1_0 == 5) = true := beq_iff_eq.mpr c44
     have c44b1 : (a1_0 != 5) = false := bne_eq_false_iff_eq.mpr c44
     clear c44
     replace H := obS H
     obtain ⟨t128,A450,H⟩ := H
     replace H : (if t128 = true then (some (decide ((l1_2.length : Int) ≤ 1))) else (some false)) = some r := H
     have A45 := As_ A450
     clear A450
     by_cases c46 : t128 = true
     ·subst c46
      have H1 : (some (decide ((l1_2.length : Int) ≤ 1))) = some r := by rw [if_pos rfl] at H;exact H
      clear H
      have H := H1
      clear H1
      obtain rfl := Option.some.inj H
      have hnb47 := NB123_122.out
      have hnc47 := NB122_123.out
      obtain ⟨hcz48_0,hcz48_1,hcz48_2,hfz48_0,hfz48_1,hfz48_2⟩ := bk3 BK123.out
      go_wp2_with (first|((with_reducible refine gate_callee (f := 70) rfl ?_);refine goesL_ (some 63) rfl rfl Try.func70 (by kernel_rfl) rfl #[.int .i64 a1_1,.int .i64 0,.int .i64 9] rfl zM_ ?_;(with_reducible refine (spec_inRange.calls a1_1 0 9 true _ A45.out).mono ?_);rintro e w' ⟨rfl,⟨nd,rfl⟩⟩;refine ⟨_,rfl,?_⟩))
      go_ret
      exact ⟨zE_,zb2 HB.out GE122.out GE123.out⟩
     replace c46 := Bool.eq_false_iff.mpr c46
     subst c46
     have H1 : (some false) = some r := by rw [if_neg (show ¬ (false = true) by decide)] at H;exact H
     clear H
     have H := H1
     clear H1
     obtain rfl := Option.some.inj H
     have hnb49 := NB123_122.out
     have hnc49 := NB122_123.out
     obtain ⟨hcz50_0,hcz50_1,hcz50_2,hfz50_0,hfz50_1,hfz50_2⟩ := bk3 BK123.out
     go_wp2_with (first|((with_reducible refine gate_callee (f := 70) rfl ?_);refine goesL_ (some 63) rfl rfl Try.func70 (by kernel_rfl) rfl #[.int .i64 a1_1,.int .i64 0,.int .i64 9] rfl zM_ ?_;(with_reducible refine (spec_inRange.calls a1_1 0 9 false _ A45.out).mono ?_);rintro e w' ⟨rfl,⟨nd,rfl⟩⟩;refine ⟨_,rfl,?_⟩))
     go_ret
     exact ⟨zE_,zb2 HB.out GE122.out GE123.out⟩
/-! ### spec_placeIn: function 82 -/
def spec_placeIn.l0 : Nat → List Int → Int → Int → Option (Int)
 | 0,_,_,_ => none
 | k + 1,x0,x1,x5 => if x5 < (x0.length : Int) then (if 0 ≤ x5 then (if (rd x0 x5) = x1 then (some x5) else (spec_placeIn.l0 k x0 x1 (wrap64 (x5 + 1)))) else (none)) else (some (-1))
def spec_placeIn.f (k : Nat) (l0 : List Int) (a1 : Int) : Option (Int) := spec_placeIn.l0 k l0 a1 0
set_option maxRecDepth 100000 in
theorem spec_placeIn.mono_l : ∀ k,(∀ y0 y1 y2,LeO (spec_placeIn.l0 k y0 y1 y2) (spec_placeIn.l0 (k + 1) y0 y1 y2))
 | 0 => fun _ _ _ r h => (by cases h)
 | k + 1 => by
  have ih0 := spec_placeIn.mono_l k
  ·intro y0 y1 y2
   unfold spec_placeIn.l0
   repeat' first
   | (with_reducible exact ih0 _ _ _)
   | (with_reducible exact LeO.refl _)
   | (with_reducible exact LeO.none _)
   | (with_reducible refine LeO.ite ?_ ?_)
   | (with_reducible refine LeO.bind ?_ (fun _ => ?_))
   | exact ih0 _ _ _
   | exact LeO.none _
   | refine LeO.ite ?_ ?_
   | refine LeO.bind ?_ (fun _ => ?_)
set_option maxRecDepth 100000 in
theorem spec_placeIn.mono : ∀ a0 a1 k,LeO (spec_placeIn.f k a0 a1) (spec_placeIn.f (k + 1) a0 a1) := by
 intro a0 a1 k
 have ih0 := spec_placeIn.mono_l k
 unfold spec_placeIn.f
 repeat' first
   | (with_reducible exact ih0 _ _ _)
   | (with_reducible exact LeO.refl _)
   | (with_reducible exact LeO.none _)
   | (with_reducible refine LeO.ite ?_ ?_)
   | (with_reducible refine LeO.bind ?_ (fun _ => ?_))
   | exact ih0 _ _ _
   | exact LeO.none _
   | refine LeO.ite ?_ ?_
   | refine LeO.bind ?_ (fun _ => ?_)
set_option maxHeartbeats 8000000 in
set_option maxRecDepth 100000 in
theorem spec_placeIn.calls (k : Nat) (A0 : Option Addr) (c0 : Nat) (l0 : List Int) (a1 : Int) (r : Int) (w : World) (hr0 : Kd.C (Kd.int .i64) w A0 l0.length l0) (hc0 : l0.length ≤ c0) (h : spec_placeIn.f k l0 a1 = some r) :
  Calls Try.prog 82 #[.slice A0 l0.length c0,.int .i64 a1] w fun e w' => e = .returned (.int .i64 r) ∧ Drawn0 w w' := by
 have HR0 := As_ hr0
 have HC0 := As_ hc0
 clear hr0 hc0
 have H : (spec_placeIn.l0 k l0 a1 0) = some r := h
 clear h
 have H' := As_ H
 clear H
 go_enter Try.func82,Try.ntmps82
 go_wp2
 go_loopg [5] k (fun kq v5 w' => ∃ (x5_1 : Int),v5 = .int .i64 x5_1 ∧ Aside0 (spec_placeIn.l0 kq l0 a1 x5_1 = some r) ∧ Aside0 (kq ≤ k) ∧ Drawn0 w w')
 case atStart => exact ⟨(0),zT_,H',⟨Nat.le_refl _⟩,by repeat (first|exact Drawn0.refl _|apply Drawn0.step)⟩
 case round =>
  clear H'
  obtain ⟨x5_1,rfl,HA,HK1,⟨m1,rfl⟩⟩ := hrel
  cases gk with
  | zero => exact absurd HA.out (fun h_ => (by cases h_))
  | succ k1 =>
   have H := HA.out
   clear HA
   simp only [spec_placeIn.l0] at H
   by_cases c3 : x5_1 < (l0.length : Int)
   rotate_left
   ·rw [if_neg c3] at H
    have c3b0 : decide (x5_1 < (l0.length : Int)) = false := deF c3
    clear c3
    obtain rfl := Option.some.inj H
    go_wp2
    go_ret
    exact ⟨by first|rfl|(simp;done)|(simp [*];done),by repeat (first|exact Drawn0.refl _|apply Drawn0.step)⟩

   rw [if_pos c3] at H
   have c3b0 : decide (x5_1 < (l0.length : Int)) = true := deT c3
   clear c3
   by_cases c4 : 0 ≤ x5_1
   rotate_left
   ·rw [if_neg c4] at H
    exact absurd H (by simp)
   rw [if_pos c4] at H
   have c4b0 : decide (0 ≤ x5_1) = true := deT c4
   clear c4
   by_cases c5 : (rd l0 x5_1) = a1
   ·rw [if_pos c5] at H
    have c5b0 : ((rd l0 x5_1) == a1) = true := beq_iff_eq.mpr c5
    have c5b1 : ((rd l0 x5_1) != a1) = false := bne_eq_false_iff_eq.mpr c5
    clear c5
    obtain rfl := Option.some.inj H
    have p129 : 0 ≤ (x5_1 : Int) := odT zA_
    have q129 : x5_1 < (l0.length : Int) := odT zA_
    obtain ⟨ad129,e129,hx129_0⟩ := Kd.at_int HR0.out x5_1 p129 q129
    cases e129
    replace p129 := eq_true p129
    replace q129 := eq_true q129
    go_wp2
    go_ret
    exact ⟨by first|rfl|(simp;done)|(simp [*];done),by repeat (first|exact Drawn0.refl _|apply Drawn0.step)⟩
   rw [if_neg c5] at H
   have c5b0 : ((rd l0 x5_1) == a1) = false := beq_eq_false_iff_ne.mpr c5
   have c5b1 : ((rd l0 x5_1) != a1) = true := bne_iff_ne.mpr c5
   have H' := As_ H
   clear H
   have p129 : 0 ≤ (x5_1 : Int) := odT zA_
   have q129 : x5_1 < (l0.length : Int) := odT zA_
   obtain ⟨ad129,e129,hx129_0⟩ := Kd.at_int HR0.out x5_1 p129 q129
   cases e129
   replace p129 := eq_true p129
   replace q129 := eq_true q129
   go_wp2
   go_roundg k1
   case measure => have := HK1.out;omega
   case rel => exact ⟨(wrap64 (x5_1 + 1)),zT_,H',⟨by have := HK1.out;omega⟩,by repeat (first|exact Drawn0.refl _|apply Drawn0.step)⟩
/-! ### spec_copyInts: function 78 -/
def spec_copyInts.f (l0 : List Int) : Option (List Int) := (some (([] : List Int) : List Int)).bind fun y130 => (if y130.length + l0.length < 17592186044416 then (some (y130 ++ l0)) else (none))
set_option maxHeartbeats 8000000 in
set_option maxRecDepth 100000 in
theorem spec_copyInts.calls (A0 : Option Addr) (c0 : Nat) (l0 : List Int) (r : List Int) (w : World) (hr0 : Kd.C (Kd.int .i64) w A0 l0.length l0) (hc0 : l0.length ≤ c0) (h : spec_copyInts.f l0 = some r) :
  Calls Try.prog 78 #[.slice A0 l0.length c0] w fun e w' => ∃ v0_ : Value,e = .returned (v0_) ∧ Kd.R (Kd.int .i64) 3 w' w.heap.size (fun _ => True) v0_ r ∧ Below w.heap.size w w' := by
 have HR0 := As_ hr0
 have HC0 := As_ hc0
 clear hr0 hc0
 have HB := As_ (Below.refl w.heap.size w)
 have H : ((some (([] : List Int) : List Int)).bind fun y130 => (if y130.length + l0.length < 17592186044416 then (some (y130 ++ l0)) else (none))) = some r := h
 clear h
 obtain ⟨y130,hy130⟩ : ∃ y_ : List Int,y_ = (([] : List Int)) := ⟨_,rfl⟩
 replace H : (if y130.length + l0.length < 17592186044416 then (some (y130 ++ l0)) else (none)) = some r := zH_ H hy130
 have Ny130 := As_ hy130
 clear hy130
 by_cases c2 : y130.length + l0.length < 17592186044416
 rotate_left
 ·rw [if_neg c2] at H
  exact absurd H (by simp)
 rw [if_pos c2] at H
 have LMc2 := As_ c2
 clear c2
 obtain ⟨y133,hy133⟩ : ∃ y_ : List Int,y_ = (y130 ++ l0) := ⟨_,rfl⟩
 replace H : (some y133) = some r := zH_ H hy133
 have Ny133 := As_ hy133
 clear hy133
 obtain rfl := Option.some.inj H
 go_enter Try.func78,Try.ntmps78
 go_wp2_with (first|((with_reducible refine gate_dst (N := 3) rfl ?_);refine Kd.R_lit (Kd.int .i64) _ 3 ?hg (N := 3) ?hd (xs := ([] : List Int)) (inner := []) (ok := fun _ => True) (okp := fun _ => True) ?hr ?hp (fun _ hk => hk) trivial (Below.refl _ _) (Nat.le_refl _) (by simp) ?_;(case hd => rfl);(case hg => rfl);(case hr => go_simp <;> rfl);(case hp => exact (Reps.none _ _));intro v131 w3 ho4 hb hg_ hnew_;clear hg_ hnew_;(first|rw [← Ny130.out] at ho4|(simp only [Int.reduceToNat] at ho4;rw [← Ny130.out] at ho4));have n0_ := As_ (Kd.R_lower ho4 (bwZ (zb0 HB.out)));have n1_ := As_ (bwT (zb0 HB.out) hb);clear HB;revert n0_ n1_;intro HO132 HB;clear hb ho4)|((with_reducible refine gate_builtin (b := .append) (xs := #[.tmp 3,.tmp 4]) rfl ?_);at_builtin;refine Kd.R_append_rows (Kd.int .i64) (w0 := w) w.heap.size rfl (.tmp 3) (.tmp 4) 37 3 (.int .i64 0) 8 rfl Try.underlying37 info3 rfl (by decide) (by omega) v131 y130 l0 _ _ _ (fun _ => True) (fun _ => False) rfl rfl ?aO ?aR (fun _ _ h => h) (fun _ h => h.elim) ?aF ?aB ?aS ?aL ?_;(case aR => exact zC_ (Kd.C_below HR0.out HB.out));(case aB => exact (zb0 HB.out));(case aF => exact (fun _ _ => trivial));(case aO => exact (zR_ HO132.out));(case aS => exact (bwZ (zb0 HB.out)));(case aL => have := LMc2.out;omega);intro v134 w5 ho hb hg hat;rw [← Ny133.out] at ho;have n0_ := As_ (hb);have n1_ := As_ (ho);clear HB HO132;revert n0_ n1_;intro HB HO135;clear ho hb hg hat))
 go_ret
 exact ⟨_,zE_,by (with_reducible repeat (first|apply Kd.R_alloc|apply Kd.R_drewN|apply Kd.R_drew));exact HO135.out,zb0 HB.out⟩

end Go.Proofs.Ytfhakhbmbnbneaa.Q
