-- Written by wip/tools/qprint.py (a program of this claim's author) by means of the kit's printer.
import Derived.Test.YtapaegcombfafaaQ0
import Derived.Test.YtapaegcombfafaaQ27
namespace Go.Proofs.Ytapaegcombfafaa.Q
open Go.RowKit Go.Proofs.YtapaegcombfafaaW.PrintWords Go.Proofs.YtapaegcombfafaaW.PrintLast Go.Proofs.YtapaegcombfafaaW.PrintMore
attribute [local go_sem] max2_int min2_int max_two min_two max_three min_three max_four min_four   -- for this text's walks alone
set_option linter.unusedVariables false
set_option linter.unusedSimpArgs false

/-! ### spec_sameClass: function 89 -/
mutual
def spec_sameClass.j0 : Nat → List (S58) → List Int → Int → Int → Bool → Option (Bool)
 | 0,_,_,_,_,_ => none
 | k + 1,x0,x1,x2,x3,x30 => if x30 = true then (some false) else (spec_sameClass.l0 k x0 x1 x2 x3 0)
def spec_sameClass.l0 : Nat → List (S58) → List Int → Int → Int → Int → Option (Bool)
 | 0,_,_,_,_,_ => none
 | k + 1,x0,x1,x2,x3,x9 => if 0 ≤ x2 then (if x2 < (x0.length : Int) then (if x9 < (((rd_T58 x0 x2).f2).length : Int) then (if 0 ≤ x9 then (if 0 ≤ (rd ((rd_T58 x0 x2).f2) x9) then (if (rd ((rd_T58 x0 x2).f2) x9) < (x1.length : Int) then (if 0 ≤ x3 then (if x3 < (x0.length : Int) then (if x9 < (((rd_T58 x0 x3).f2).length : Int) then (if 0 ≤ (rd ((rd_T58 x0 x3).f2) x9) then (if (rd ((rd_T58 x0 x3).f2) x9) < (x1.length : Int) then (if (rd x1 (rd ((rd_T58 x0 x2).f2) x9)) = (rd x1 (rd ((rd_T58 x0 x3).f2) x9)) then (spec_sameClass.l0 k x0 x1 x2 x3 (wrap64 (x9 + 1))) else (some false)) else (none)) else (none)) else (none)) else (none)) else (none)) else (none)) else (none)) else (none)) else (some true)) else (none)) else (none)
end
def spec_sameClass.f (k : Nat) (l0 : List (S58)) (l1 : List Int) (a2 : Int) (a3 : Int) : Option (Bool) := if 0 ≤ a2 then (if a2 < (l1.length : Int) then (if 0 ≤ a3 then (if a3 < (l1.length : Int) then (if (rd l1 a2) = (rd l1 a3) then (if a2 < (l0.length : Int) then (if a3 < (l0.length : Int) then ((spec_alike.f ((rd_T58 l0 a2).f0) ((rd_T58 l0 a2).f1) ((rd_T58 l0 a2).f2) ((rd_T58 l0 a3).f0) ((rd_T58 l0 a3).f1) ((rd_T58 l0 a3).f2)).bind fun t701 => (spec_sameClass.j0 k l0 l1 a2 a3 (!t701))) else (none)) else (none)) else (spec_sameClass.j0 k l0 l1 a2 a3 true)) else (none)) else (none)) else (none)) else (none)
set_option maxRecDepth 100000 in
theorem spec_sameClass.mono_l : ∀ k,(∀ y0 y1 y2 y3 y4,LeO (spec_sameClass.j0 k y0 y1 y2 y3 y4) (spec_sameClass.j0 (k + 1) y0 y1 y2 y3 y4)) ∧ (∀ y0 y1 y2 y3 y4,LeO (spec_sameClass.l0 k y0 y1 y2 y3 y4) (spec_sameClass.l0 (k + 1) y0 y1 y2 y3 y4))
 | 0 => ⟨fun _ _ _ _ _ r h => (by cases h),fun _ _ _ _ _ r h => (by cases h)⟩
 | k + 1 => by
  obtain ⟨ih0,ih1⟩ := spec_sameClass.mono_l k
  refine ⟨?_,?_⟩
  ·intro y0 y1 y2 y3 y4
   unfold spec_sameClass.j0
   repeat' first
   | (with_reducible exact ih0 _ _ _ _ _)
   | (with_reducible exact ih1 _ _ _ _ _)
   | (with_reducible exact LeO.refl _)
   | (with_reducible exact LeO.none _)
   | (with_reducible refine LeO.ite ?_ ?_)
   | (with_reducible refine LeO.bind ?_ (fun _ => ?_))
   | exact ih0 _ _ _ _ _
   | exact ih1 _ _ _ _ _
   | exact LeO.none _
   | refine LeO.ite ?_ ?_
   | refine LeO.bind ?_ (fun _ => ?_)
  ·intro y0 y1 y2 y3 y4
   unfold spec_sameClass.l0
   repeat' first
   | (with_reducible exact ih0 _ _ _ _ _)
   | (with_reducible exact ih1 _ _ _ _ _)
   | (with_reducible exact LeO.refl _)
   | (with_reducible exact LeO.none _)
   | (with_reducible refine LeO.ite ?_ ?_)
   | (with_reducible refine LeO.bind ?_ (fun _ => ?_))
   | exact ih0 _ _ _ _ _
   | exact ih1 _ _ _ _ _
   | exact LeO.none _
   | refine LeO.ite ?_ ?_
   | refine LeO.bind ?_ (fun _ => ?_)
set_option maxRecDepth 100000 in
theorem spec_sameClass.mono : ∀ a0 a1 a2 a3 k,LeO (spec_sameClass.f k a0 a1 a2 a3) (spec_sameClass.f (k + 1) a0 a1 a2 a3) := by
 intro a0 a1 a2 a3 k
 obtain ⟨ih0,ih1⟩ := spec_sameClass.mono_l k
 unfold spec_sameClass.f
 repeat' first
   | (with_reducible exact ih0 _ _ _ _ _)
   | (with_reducible exact ih1 _ _ _ _ _)
   | (with_reducible exact LeO.refl _)
   | (with_reducible exact LeO.none _)
   | (with_reducible refine LeO.ite ?_ ?_)
   | (with_reducible refine LeO.bind ?_ (fun _ => ?_))
   | exact ih0 _ _ _ _ _
   | exact ih1 _ _ _ _ _
   | exact LeO.none _
   | refine LeO.ite ?_ ?_
   | refine LeO.bind ?_ (fun _ => ?_)
def spec_sameClass.T1 : Bool × List (List Nat × List Nat) := (true,[([],[]),([],[]),([0,1],[0,1]),([2],[2]),([],[]),([],[]),([4,5],[4,5]),([6],[6]),([3,7],[3,7]),([8],[8]),([9],[9]),([9],[9]),([10,11,9],[9,10,11]),([12,9],[9,12]),([9],[9]),([9],[9]),([14,15,9],[9,14,15]),([16,9],[9,16]),([13,17,9,9],[9,13,17]),([18,9],[9,18]),([9,19],[9,19])])
def spec_sameClass.B1 : List Nat := [0,0,3,7,0,0,48,112,255,511,1023,1023,4095,8191,1023,1023,50175,115711,262143,524287,1048575]
theorem spec_sameClass.tab1 : rtab .any (opsOf Try.f89 1) = spec_sameClass.T1 := by kernel_rfl
theorem spec_sameClass.bits1 : waitsOk spec_sameClass.T1.2 spec_sameClass.B1 = true := by kernel_rfl
def spec_sameClass.T6 : Bool × List (List Nat × List Nat) := (true,[([],[]),([],[]),([],[]),([1,2],[1,2]),([3],[3]),([4],[4]),([],[]),([5,6],[5,6]),([7],[7]),([0,8],[0,8]),([9],[9]),([],[]),([],[]),([],[]),([12,13],[12,13]),([14],[14]),([15],[15]),([],[]),([16,17],[16,17]),([18],[18]),([11,19],[11,19]),([20],[20]),([10,21],[10,21])])
def spec_sameClass.B6 : List Nat := [0,0,0,6,14,30,0,126,254,511,1023,0,0,0,12288,28672,61440,0,258048,520192,1046528,2095104,4194303]
theorem spec_sameClass.tab6 : rtab .any (opsOf Try.f89 6) = spec_sameClass.T6 := by kernel_rfl
theorem spec_sameClass.bits6 : waitsOk spec_sameClass.T6.2 spec_sameClass.B6 = true := by kernel_rfl
set_option maxHeartbeats 8000000 in
set_option maxRecDepth 100000 in
theorem spec_sameClass.calls (k : Nat) (A0 : Option Addr) (c0 : Nat) (l0 : List (S58)) (A1 : Option Addr) (c1 : Nat) (l1 : List Int) (a2 : Int) (a3 : Int) (r : Bool) (w : World) (hr0 : Kd.C k58 w A0 l0.length l0) (hc0 : l0.length ≤ c0) (hr1 : Kd.C (Kd.int .i64) w A1 l1.length l1) (hc1 : l1.length ≤ c1) (h : spec_sameClass.f k l0 l1 a2 a3 = some r) :
  Calls Try.prog 89 #[.slice A0 l0.length c0,.slice A1 l1.length c1,.int .i64 a2,.int .i64 a3] w fun e w' => e = .returned (.bool r) ∧ Below w.heap.size w w' := by
 have hu58 := Try.underlying58
 have HR0 := As_ hr0
 have HC0 := As_ hc0
 clear hr0 hc0
 have HR1 := As_ hr1
 have HC1 := As_ hc1
 clear hr1 hc1
 have HB := As_ (Below.refl w.heap.size w)
 have H : (if 0 ≤ a2 then (if a2 < (l1.length : Int) then (if 0 ≤ a3 then (if a3 < (l1.length : Int) then (if (rd l1 a2) = (rd l1 a3) then (if a2 < (l0.length : Int) then (if a3 < (l0.length : Int) then ((spec_alike.f ((rd_T58 l0 a2).f0) ((rd_T58 l0 a2).f1) ((rd_T58 l0 a2).f2) ((rd_T58 l0 a3).f0) ((rd_T58 l0 a3).f1) ((rd_T58 l0 a3).f2)).bind fun t701 => (spec_sameClass.j0 k l0 l1 a2 a3 (!t701))) else (none)) else (none)) else (spec_sameClass.j0 k l0 l1 a2 a3 true)) else (none)) else (none)) else (none)) else (none)) = some r := h
 clear h
 have HC5 := As_ H
 clear H
 go_enter Try.func89,Try.ntmps89
 go_upto_region 1 with (fail)
 go_cut [30] (fun v30 wc => ∃ (kq : Nat) (x30_4 : Bool),v30 = .bool x30_4 ∧ Aside0 (spec_sameClass.j0 kq l0 l1 a2 a3 x30_4 = some r) ∧ Aside0 (kq ≤ k) ∧ Aside0 (Below w.heap.size w wc))
 case first =>
  have H := HC5.out
  clear HC5
  by_cases c6 : 0 ≤ a2
  rotate_left
  ·rw [if_neg c6] at H
   exact absurd H (by simp)
  rw [if_pos c6] at H
  have c6b0 : decide (0 ≤ a2) = true := deT c6
  clear c6
  (first|rw [c6b0]|(simp only [i64_w,i32_w];rw [c6b0])|skip)
  by_cases c7 : a2 < (l1.length : Int)
  rotate_left
  ·rw [if_neg c7] at H
   exact absurd H (by simp)
  rw [if_pos c7] at H
  have c7b0 : decide (a2 < (l1.length : Int)) = true := deT c7
  clear c7
  by_cases c8 : 0 ≤ a3
  rotate_left
  ·rw [if_neg c8] at H
   exact absurd H (by simp)
  rw [if_pos c8] at H
  have c8b0 : decide (0 ≤ a3) = true := deT c8
  clear c8
  by_cases c9 : a3 < (l1.length : Int)
  rotate_left
  ·rw [if_neg c9] at H
   exact absurd H (by simp)
  rw [if_pos c9] at H
  have c9b0 : decide (a3 < (l1.length : Int)) = true := deT c9
  clear c9
  by_cases c10 : (rd l1 a2) = (rd l1 a3)
  rotate_left
  ·rw [if_neg c10] at H
   have c10b0 : ((rd l1 a2) == (rd l1 a3)) = false := beq_eq_false_iff_ne.mpr c10
   have c10b1 : ((rd l1 a2) != (rd l1 a3)) = true := bne_iff_ne.mpr c10
   have H' := As_ H
   clear H
   try go_wp2
   have n0_ := As_ (bwD HB.out)
   clear HB
   revert n0_;intro HB
   have p697 : 0 ≤ (a2 : Int) := odT zA_
   have q697 : a2 < (l1.length : Int) := odT zA_
   obtain ⟨ad697,e697,hx697_0⟩ := Kd.at_int HR1.out a2 p697 q697
   have hw697_0 := hx697_0
   cases e697
   replace hx697_0 := bwC HB.out hx697_0
   replace p697 := eq_true p697
   replace q697 := eq_true q697
   have p698 : 0 ≤ (a3 : Int) := odT zA_
   have q698 : a3 < (l1.length : Int) := odT zA_
   obtain ⟨ad698,e698,hx698_0⟩ := Kd.at_int HR1.out a3 p698 q698
   have hw698_0 := hx698_0
   obtain rfl : ad697 = ad698 := (by injection e698)
   replace hx698_0 := bwC HB.out hx698_0
   replace p698 := eq_true p698
   replace q698 := eq_true q698
   refine start_ (n := 21) (S := fun w' => w'.cell? (ad697.add (a2).toNat) = some (.int .i64 (rd l1 a2)) ∧ w'.cell? (ad697.add (a3).toNat) = some (.int .i64 (rd l1 a3))) (ds := []) (bl_ 0 21) (by kernel_rfl) rfl rfl ⟨((HB.out.cell (bwL w _ hw697_0)).trans hw697_0),((HB.out.cell (bwL w _ hw698_0)).trans hw698_0)⟩ (fun hHeld => ?_);refine with_tabW spec_sameClass.tab1 spec_sameClass.bits1 (fun HT_ HW_ => ?_)
   generalize w.drew = w16 at HB hx697_0 hx698_0 hHeld ⊢
   refine pQ 0 10 (bl_ 1 21) HT_ rfl ?_
   refine pQ 1 11 (bl_ 3 21) HT_ rfl ?_
   refine pQ 2 12 (bl_ 7 21) HT_ rfl ?_
   refine pQ 4 14 (bl_ 23 21) HT_ rfl ?_
   refine pQ 5 15 (bl_ 55 21) HT_ rfl ?_
   refine pQ 6 16 (bl_ 119 21) HT_ rfl ?_
   refine tP 3 13 (bl_ 127 21) ?_ HT_ HW_ rfl (.inl ⟨by rfl,?_⟩) hHeld ?_ ?_ ?_;rotate_left;(rintro w' ⟨s0,s1⟩;go_simp;with_reducible rfl);rotate_left;(simp only [Act.put,sq_,i64_w,i32_w];rfl)
   refine tP 7 17 (bl_ 255 21) ?_ HT_ HW_ rfl (.inl ⟨by rfl,?_⟩) hHeld ?_ ?_ ?_;rotate_left;(rintro w' ⟨s0,s1⟩;go_simp;with_reducible rfl);rotate_left;(simp only [Act.put,sq_,i64_w,i32_w];rfl)
   refine pQ 8 18 (bl_ 511 21) HT_ rfl ?_
   refine pQ 9 19 (bl_ 1023 21) HT_ rfl ?_
   refine uP 10 20 (bl_ 2047 21) ?_ HT_ rfl (.inr ⟨by rfl,rfl⟩) ?_ ?_;rotate_left;(simp only [Act.put,sq_,i64_w,i32_w];rfl)
   refine uP 11 21 (bl_ 4095 21) ?_ HT_ rfl (.inr ⟨by rfl,rfl⟩) ?_ ?_;rotate_left;(simp only [Act.put,sq_,i64_w,i32_w];rfl)
   refine uP 12 22 (bl_ 8191 21) ?_ HT_ rfl (.inr ⟨by rfl,rfl⟩) ?_ ?_;rotate_left;(simp only [Act.put,sq_,i64_w,i32_w];rfl)
   refine uP 13 23 (bl_ 16383 21) ?_ HT_ rfl (.inr ⟨by rfl,rfl⟩) ?_ ?_;rotate_left;(simp only [Act.put,sq_,i64_w,i32_w];rfl)
   refine uP 14 24 (bl_ 32767 21) ?_ HT_ rfl (.inr ⟨by rfl,rfl⟩) ?_ ?_;rotate_left;(simp only [Act.put,sq_,i64_w,i32_w];rfl)
   refine uP 15 25 (bl_ 65535 21) ?_ HT_ rfl (.inr ⟨by rfl,rfl⟩) ?_ ?_;rotate_left;(simp only [Act.put,sq_,i64_w,i32_w];rfl)
   refine uP 16 26 (bl_ 131071 21) ?_ HT_ rfl (.inr ⟨by rfl,rfl⟩) ?_ ?_;rotate_left;(simp only [Act.put,sq_,i64_w,i32_w];rfl)
   refine uP 17 27 (bl_ 262143 21) ?_ HT_ rfl (.inr ⟨by rfl,rfl⟩) ?_ ?_;rotate_left;(simp only [Act.put,sq_,i64_w,i32_w];rfl)
   refine uP 18 28 (bl_ 524287 21) ?_ HT_ rfl (.inr ⟨by rfl,rfl⟩) ?_ ?_;rotate_left;(simp only [Act.put,sq_,i64_w,i32_w];rfl)
   refine uP 19 29 (bl_ 1048575 21) ?_ HT_ rfl (.inr ⟨by rfl,rfl⟩) ?_ ?_;rotate_left;(simp only [Act.put,sq_,i64_w,i32_w];rfl)
   refine pQ 20 30 (bl_ 2097151 21) HT_ rfl ?_
   refine done_ (done_of HT_.out (by kernel_rfl)) ?_
   try go_wp2
   go_meet
   case rel => exact ⟨_,(true),zT_,H',⟨by first|omega|exact Nat.le_refl _⟩,⟨zb0 HB.out⟩⟩
  rw [if_pos c10] at H
  have c10b0 : ((rd l1 a2) == (rd l1 a3)) = true := beq_iff_eq.mpr c10
  have c10b1 : ((rd l1 a2) != (rd l1 a3)) = false := bne_eq_false_iff_eq.mpr c10
  clear c10
  by_cases c11 : a2 < (l0.length : Int)
  rotate_left
  ·rw [if_neg c11] at H
   exact absurd H (by simp)
  rw [if_pos c11] at H
  have c11b0 : decide (a2 < (l0.length : Int)) = true := deT c11
  clear c11
  by_cases c12 : a3 < (l0.length : Int)
  rotate_left
  ·rw [if_neg c12] at H
   exact absurd H (by simp)
  rw [if_pos c12] at H
  have c12b0 : decide (a3 < (l0.length : Int)) = true := deT c12
  clear c12
  replace H := obS H
  obtain ⟨t701,A130,H⟩ := H
  replace H : (spec_sameClass.j0 k l0 l1 a2 a3 (!t701)) = some r := H
  have A13 := As_ A130
  clear A130
  have H' := As_ H
  clear H
  try go_wp2
  have n0_ := As_ (bwD HB.out)
  clear HB
  revert n0_;intro HB
  have p697 : 0 ≤ (a2 : Int) := odT zA_
  have q697 : a2 < (l1.length : Int) := odT zA_
  obtain ⟨ad697,e697,hx697_0⟩ := Kd.at_int HR1.out a2 p697 q697
  have hw697_0 := hx697_0
  cases e697
  replace hx697_0 := bwC HB.out hx697_0
  replace p697 := eq_true p697
  replace q697 := eq_true q697
  have p698 : 0 ≤ (a3 : Int) := odT zA_
  have q698 : a3 < (l1.length : Int) := odT zA_
  obtain ⟨ad698,e698,hx698_0⟩ := Kd.at_int HR1.out a3 p698 q698
  have hw698_0 := hx698_0
  obtain rfl : ad697 = ad698 := (by injection e698)
  replace hx698_0 := bwC HB.out hx698_0
  replace p698 := eq_true p698
  replace q698 := eq_true q698
  have p699 : 0 ≤ (a2 : Int) := odT zA_
  have q699 : a2 < (l0.length : Int) := odT zA_
  obtain ⟨ad699,A699_2,c699_2,e699,hx699_0,hx699_1,hx699_2,hl699_2,hi699_2⟩ := at_T58 HR0.out a2 p699 q699
  have hw699_2 := hx699_2
  have hw699_1 := hx699_1
  have hw699_0 := hx699_0
  cases e699
  replace hx699_0 := bwC HB.out hx699_0
  replace hx699_1 := bwC HB.out hx699_1
  replace hx699_2 := bwC HB.out hx699_2
  have HR699_2 := As_ hi699_2
  have HC699_2 := As_ hl699_2
  clear hi699_2 hl699_2
  replace p699 := eq_true p699
  replace q699 := eq_true q699
  have p700 : 0 ≤ (a3 : Int) := odT zA_
  have q700 : a3 < (l0.length : Int) := odT zA_
  obtain ⟨ad700,A700_2,c700_2,e700,hx700_0,hx700_1,hx700_2,hl700_2,hi700_2⟩ := at_T58 HR0.out a3 p700 q700
  have hw700_2 := hx700_2
  have hw700_1 := hx700_1
  have hw700_0 := hx700_0
  obtain rfl : ad699 = ad700 := (by injection e700)
  replace hx700_0 := bwC HB.out hx700_0
  replace hx700_1 := bwC HB.out hx700_1
  replace hx700_2 := bwC HB.out hx700_2
  have HR700_2 := As_ hi700_2
  have HC700_2 := As_ hl700_2
  clear hi700_2 hl700_2
  replace p700 := eq_true p700
  replace q700 := eq_true q700
  refine start_ (n := 21) (S := fun w' => w'.cell? (ad697.add (a2).toNat) = some (.int .i64 (rd l1 a2)) ∧ w'.cell? (ad697.add (a3).toNat) = some (.int .i64 (rd l1 a3)) ∧ w'.cell? (ad699.add ((a2).toNat * 3)) = some (.int .i64 ((rd_T58 l0 a2).f0)) ∧ w'.cell? ⟨(ad699.add ((a2).toNat * 3)).block,(ad699.add ((a2).toNat * 3)).off + 1,none⟩ = some (.int .i64 ((rd_T58 l0 a2).f1)) ∧ w'.cell? ⟨(ad699.add ((a2).toNat * 3)).block,(ad699.add ((a2).toNat * 3)).off + 2,none⟩ = some (.slice A699_2 ((rd_T58 l0 a2).f2).length c699_2) ∧ w'.cell? (ad699.add ((a3).toNat * 3)) = some (.int .i64 ((rd_T58 l0 a3).f0)) ∧ w'.cell? ⟨(ad699.add ((a3).toNat * 3)).block,(ad699.add ((a3).toNat * 3)).off + 1,none⟩ = some (.int .i64 ((rd_T58 l0 a3).f1)) ∧ w'.cell? ⟨(ad699.add ((a3).toNat * 3)).block,(ad699.add ((a3).toNat * 3)).off + 2,none⟩ = some (.slice A700_2 ((rd_T58 l0 a3).f2).length c700_2)) (ds := []) (bl_ 0 21) (by kernel_rfl) rfl rfl ⟨((HB.out.cell (bwL w _ hw697_0)).trans hw697_0),((HB.out.cell (bwL w _ hw698_0)).trans hw698_0),((HB.out.cell (bwL w _ hw699_0)).trans hw699_0),((HB.out.cell (bwL w _ hw699_1)).trans hw699_1),((HB.out.cell (bwL w _ hw699_2)).trans hw699_2),((HB.out.cell (bwL w _ hw700_0)).trans hw700_0),((HB.out.cell (bwL w _ hw700_1)).trans hw700_1),((HB.out.cell (bwL w _ hw700_2)).trans hw700_2)⟩ (fun hHeld => ?_);refine with_tabW spec_sameClass.tab1 spec_sameClass.bits1 (fun HT_ HW_ => ?_)
  generalize w.drew = w14 at HB HR699_2 HR700_2 hx697_0 hx698_0 hx699_0 hx699_1 hx699_2 hx700_0 hx700_1 hx700_2 hHeld ⊢
  refine pQ 0 10 (bl_ 1 21) HT_ rfl ?_
  refine pQ 1 11 (bl_ 3 21) HT_ rfl ?_
  refine pQ 2 12 (bl_ 7 21) HT_ rfl ?_
  refine pQ 4 14 (bl_ 23 21) HT_ rfl ?_
  refine pQ 5 15 (bl_ 55 21) HT_ rfl ?_
  refine pQ 6 16 (bl_ 119 21) HT_ rfl ?_
  refine tP 3 13 (bl_ 127 21) ?_ HT_ HW_ rfl (.inl ⟨by rfl,?_⟩) hHeld ?_ ?_ ?_;rotate_left;(rintro w' ⟨s0,s1,s2,s3,s4,s5,s6,s7⟩;go_simp;with_reducible rfl);rotate_left;(simp only [Act.put,sq_,i64_w,i32_w];rfl)
  refine tP 7 17 (bl_ 255 21) ?_ HT_ HW_ rfl (.inl ⟨by rfl,?_⟩) hHeld ?_ ?_ ?_;rotate_left;(rintro w' ⟨s0,s1,s2,s3,s4,s5,s6,s7⟩;go_simp;with_reducible rfl);rotate_left;(simp only [Act.put,sq_,i64_w,i32_w];rfl)
  refine pQ 8 18 (bl_ 511 21) HT_ rfl ?_
  refine pQ 9 19 (bl_ 1023 21) HT_ rfl ?_
  refine pQ 10 20 (bl_ 2047 21) HT_ rfl ?_
  refine pQ 11 21 (bl_ 4095 21) HT_ rfl ?_
  refine pQ 12 22 (bl_ 8191 21) HT_ rfl ?_
  refine pQ 14 24 (bl_ 24575 21) HT_ rfl ?_
  refine pQ 15 25 (bl_ 57343 21) HT_ rfl ?_
  refine pQ 16 26 (bl_ 122879 21) HT_ rfl ?_
  refine tP 13 23 (bl_ 131071 21) ?_ HT_ HW_ rfl (.inl ⟨by rfl,?_⟩) hHeld ?_ ?_ ?_;rotate_left;(rintro w' ⟨s0,s1,s2,s3,s4,s5,s6,s7⟩;go_simp;with_reducible rfl);rotate_left;(simp only [Act.put,sq_,i64_w,i32_w];rfl)
  refine tP 17 27 (bl_ 262143 21) ?_ HT_ HW_ rfl (.inl ⟨by rfl,?_⟩) hHeld ?_ ?_ ?_;rotate_left;(rintro w' ⟨s0,s1,s2,s3,s4,s5,s6,s7⟩;go_simp;with_reducible rfl);rotate_left;(simp only [Act.put,sq_,i64_w,i32_w];rfl)
  refine one_ (i := 18) (N := some 28) (bl_ 524287 21) rfl rfl (one_of HT_.out (by kernel_rfl)) (by decide) (fun K hK => ?_)
  refine goes_ Try.func98 (by kernel_rfl) rfl #[.agg #[.int .i64 ((rd_T58 l0 a2).f0),.int .i64 ((rd_T58 l0 a2).f1),.slice A699_2 ((rd_T58 l0 a2).f2).length c699_2],.agg #[.int .i64 ((rd_T58 l0 a3).f0),.int .i64 ((rd_T58 l0 a3).f1),.slice A700_2 ((rd_T58 l0 a3).f2).length c700_2]] (by rfl) rfl rfl zM_ ?_
  with_reducible refine (spec_alike.calls ((rd_T58 l0 a2).f0) ((rd_T58 l0 a2).f1) _ _ ((rd_T58 l0 a2).f2) ((rd_T58 l0 a3).f0) ((rd_T58 l0 a3).f1) _ _ ((rd_T58 l0 a3).f2) t701 _ ?side1 ?side2 ?side3 ?side4 A13.out).mono ?_
  (case side1 => exact zC_ (Kd.C_below HR699_2.out HB.out))
  (case side2 => exact HC699_2.out)
  (case side3 => exact zC_ (Kd.C_below HR700_2.out HB.out))
  (case side4 => exact HC700_2.out)
  rintro e w15 ⟨rfl,hb⟩
  refine ⟨_,rfl,?_⟩
  have n0_ := As_ (bwT (zb0 HB.out) hb)
  clear HB
  revert n0_;intro HB
  refine hK.out _ _ ⟨((HB.out.cell (bwL w _ hw697_0)).trans hw697_0),((HB.out.cell (bwL w _ hw698_0)).trans hw698_0),((HB.out.cell (bwL w _ hw699_0)).trans hw699_0),((HB.out.cell (bwL w _ hw699_1)).trans hw699_1),((HB.out.cell (bwL w _ hw699_2)).trans hw699_2),((HB.out.cell (bwL w _ hw700_0)).trans hw700_0),((HB.out.cell (bwL w _ hw700_1)).trans hw700_1),((HB.out.cell (bwL w _ hw700_2)).trans hw700_2)⟩ (fun hHeld => ?_)
  clear hK K
  refine norm_ (a' := ?_) ?_ ?_
  rotate_left
  ·show Act.put _ (some 28) _ = _
   simp only [Act.put,sq_,i64_w,i32_w]
   rfl
  refine pQ 19 29 (bl_ 1048575 21) HT_ rfl ?_
  refine pQ 20 30 (bl_ 2097151 21) HT_ rfl ?_
  refine done_ (done_of HT_.out (by kernel_rfl)) ?_
  try go_wp2
  go_meet
  case rel => exact ⟨_,(!t701),zT_,H',⟨by first|omega|exact Nat.le_refl _⟩,⟨zb0 HB.out⟩⟩
 case rest =>
  clear HC5
  obtain ⟨kq,x30_4,rfl,HA,HJ4,HB⟩ := hcut
  cases kq with
  | zero => exact absurd HA.out (fun h_ => (by cases h_))
  | succ kj4 =>
   have H := HA.out
   clear HA
   simp only [spec_sameClass.j0] at H
   by_cases c17 : x30_4 = true
   ·subst c17
    have H1 : (some false) = some r := by rw [if_pos rfl] at H;exact H
    clear H
    have H := H1
    clear H1
    obtain rfl := Option.some.inj H
    go_wp2
    go_ret
    exact ⟨zE_,zb0 HB.out⟩
   replace c17 := Bool.eq_false_iff.mpr c17
   subst c17
   have H1 : (spec_sameClass.l0 kj4 l0 l1 a2 a3 0) = some r := by rw [if_neg (show ¬ (false = true) by decide)] at H;exact H
   clear H
   have H := H1
   clear H1
   have H' := As_ H
   clear H
   go_wp2
   go_loopg [9] kj4 (fun kq v9 w' => ∃ (x9_2 : Int),v9 = .int .i64 x9_2 ∧ Aside0 (spec_sameClass.l0 kq l0 l1 a2 a3 x9_2 = some r) ∧ Aside0 (kq ≤ kj4) ∧ Aside0 (Below w.heap.size w w'))
   case atStart => exact ⟨(0),zT_,H',⟨Nat.le_refl _⟩,⟨zb0 HB.out⟩⟩
   case round =>
    clear H'
    obtain ⟨x9_2,rfl,HA,HK2,HB⟩ := hrel
    cases gk with
    | zero => exact absurd HA.out (fun h_ => (by cases h_))
    | succ k2 =>
     have H := HA.out
     clear HA
     simp only [spec_sameClass.l0] at H
     by_cases c18 : 0 ≤ a2
     rotate_left
     ·rw [if_neg c18] at H
      exact absurd H (by simp)
     rw [if_pos c18] at H
     have c18b0 : decide (0 ≤ a2) = true := deT c18
     clear c18
     by_cases c19 : a2 < (l0.length : Int)
     rotate_left
     ·rw [if_neg c19] at H
      exact absurd H (by simp)
     rw [if_pos c19] at H
     have c19b0 : decide (a2 < (l0.length : Int)) = true := deT c19
     clear c19
     by_cases c20 : x9_2 < (((rd_T58 l0 a2).f2).length : Int)
     rotate_left
     ·rw [if_neg c20] at H
      have c20b0 : decide (x9_2 < (((rd_T58 l0 a2).f2).length : Int)) = false := deF c20
      clear c20
      obtain rfl := Option.some.inj H
      have p702 : 0 ≤ (a2 : Int) := odT zA_
      have q702 : a2 < (l0.length : Int) := odT zA_
      obtain ⟨ad702,A702_2,c702_2,e702,hx702_0,hx702_1,hx702_2,hl702_2,hi702_2⟩ := at_T58 HR0.out a2 p702 q702
      cases e702
      replace hx702_0 := bwC HB.out hx702_0
      replace hx702_1 := bwC HB.out hx702_1
      replace hx702_2 := bwC HB.out hx702_2
      have HR702_2 := As_ hi702_2
      have HC702_2 := As_ hl702_2
      clear hi702_2 hl702_2
      replace p702 := eq_true p702
      replace q702 := eq_true q702
      go_wp2
      go_ret
      exact ⟨zE_,zb0 HB.out⟩

     rw [if_pos c20] at H
     have c20b0 : decide (x9_2 < (((rd_T58 l0 a2).f2).length : Int)) = true := deT c20
     clear c20
     by_cases c21 : 0 ≤ x9_2
     rotate_left
     ·rw [if_neg c21] at H
      exact absurd H (by simp)
     rw [if_pos c21] at H
     have c21b0 : decide (0 ≤ x9_2) = true := deT c21
     clear c21
     by_cases c22 : 0 ≤ (rd ((rd_T58 l0 a2).f2) x9_2)
     rotate_left
     ·rw [if_neg c22] at H
      exact absurd H (by simp)
     rw [if_pos c22] at H
     have c22b0 : decide (0 ≤ (rd ((rd_T58 l0 a2).f2) x9_2)) = true := deT c22
     clear c22
     by_cases c23 : (rd ((rd_T58 l0 a2).f2) x9_2) < (l1.length : Int)
     rotate_left
     ·rw [if_neg c23] at H
      exact absurd H (by simp)
     rw [if_pos c23] at H
     have c23b0 : decide ((rd ((rd_T58 l0 a2).f2) x9_2) < (l1.length : Int)) = true := deT c23
     clear c23
     by_cases c24 : 0 ≤ a3
     rotate_left
     ·rw [if_neg c24] at H
      exact absurd H (by simp)
     rw [if_pos c24] at H
     have c24b0 : decide (0 ≤ a3) = true := deT c24
     clear c24
     by_cases c25 : a3 < (l0.length : Int)
     rotate_left
     ·rw [if_neg c25] at H
      exact absurd H (by simp)
     rw [if_pos c25] at H
     have c25b0 : decide (a3 < (l0.length : Int)) = true := deT c25
     clear c25
     by_cases c26 : x9_2 < (((rd_T58 l0 a3).f2).length : Int)
     rotate_left
     ·rw [if_neg c26] at H
      exact absurd H (by simp)
     rw [if_pos c26] at H
     have c26b0 : decide (x9_2 < (((rd_T58 l0 a3).f2).length : Int)) = true := deT c26
     clear c26
     by_cases c27 : 0 ≤ (rd ((rd_T58 l0 a3).f2) x9_2)
     rotate_left
     ·rw [if_neg c27] at H
      exact absurd H (by simp)
     rw [if_pos c27] at H
     have c27b0 : decide (0 ≤ (rd ((rd_T58 l0 a3).f2) x9_2)) = true := deT c27
     clear c27
     by_cases c28 : (rd ((rd_T58 l0 a3).f2) x9_2) < (l1.length : Int)
     rotate_left
     ·rw [if_neg c28] at H
      exact absurd H (by simp)
     rw [if_pos c28] at H
     have c28b0 : decide ((rd ((rd_T58 l0 a3).f2) x9_2) < (l1.length : Int)) = true := deT c28
     clear c28
     by_cases c29 : (rd l1 (rd ((rd_T58 l0 a2).f2) x9_2)) = (rd l1 (rd ((rd_T58 l0 a3).f2) x9_2))
     rotate_left
     ·rw [if_neg c29] at H
      have c29b0 : ((rd l1 (rd ((rd_T58 l0 a2).f2) x9_2)) == (rd l1 (rd ((rd_T58 l0 a3).f2) x9_2))) = false := beq_eq_false_iff_ne.mpr c29
      have c29b1 : ((rd l1 (rd ((rd_T58 l0 a2).f2) x9_2)) != (rd l1 (rd ((rd_T58 l0 a3).f2) x9_2))) = true := bne_iff_ne.mpr c29
      obtain rfl := Option.some.inj H
      have p702 : 0 ≤ (a2 : Int) := odT zA_
      have q702 : a2 < (l0.length : Int) := odT zA_
      obtain ⟨ad702,A702_2,c702_2,e702,hx702_0,hx702_1,hx702_2,hl702_2,hi702_2⟩ := at_T58 HR0.out a2 p702 q702
      cases e702
      replace hx702_0 := bwC HB.out hx702_0
      replace hx702_1 := bwC HB.out hx702_1
      replace hx702_2 := bwC HB.out hx702_2
      have HR702_2 := As_ hi702_2
      have HC702_2 := As_ hl702_2
      clear hi702_2 hl702_2
      replace p702 := eq_true p702
      replace q702 := eq_true q702
      try go_wp2
      have n0_ := As_ (bwD HB.out)
      clear HB
      revert n0_;intro HB
      have p703 : 0 ≤ (a2 : Int) := odT zA_
      have q703 : a2 < (l0.length : Int) := odT zA_
      obtain ⟨ad703,A703_2,c703_2,e703,hx703_0,hx703_1,hx703_2,hl703_2,hi703_2⟩ := at_T58 HR0.out a2 p703 q703
      have hw703_2 := hx703_2
      have hw703_1 := hx703_1
      have hw703_0 := hx703_0
      obtain rfl : ad702 = ad703 := (by injection e703)
      replace hx703_0 := bwC HB.out hx703_0
      replace hx703_1 := bwC HB.out hx703_1
      replace hx703_2 := bwC HB.out hx703_2
      have HR703_2 := As_ hi703_2
      have HC703_2 := As_ hl703_2
      clear hi703_2 hl703_2
      replace p703 := eq_true p703
      replace q703 := eq_true q703
      have p704 : 0 ≤ (x9_2 : Int) := odT zA_
      have q704 : x9_2 < (((rd_T58 l0 a2).f2).length : Int) := odT zA_
      obtain ⟨ad704,e704,hx704_0⟩ := Kd.at_int HR703_2.out x9_2 p704 q704
      have hw704_0 := hx704_0
      cases e704
      replace hx704_0 := bwC HB.out hx704_0
      replace p704 := eq_true p704
      replace q704 := eq_true q704
      have p705 : 0 ≤ ((rd ((rd_T58 l0 a2).f2) x9_2) : Int) := odT zA_
      have q705 : (rd ((rd_T58 l0 a2).f2) x9_2) < (l1.length : Int) := odT zA_
      obtain ⟨ad705,e705,hx705_0⟩ := Kd.at_int HR1.out (rd ((rd_T58 l0 a2).f2) x9_2) p705 q705
      have hw705_0 := hx705_0
      cases e705
      replace hx705_0 := bwC HB.out hx705_0
      replace p705 := eq_true p705
      replace q705 := eq_true q705
      have p706 : 0 ≤ (a3 : Int) := odT zA_
      have q706 : a3 < (l0.length : Int) := odT zA_
      obtain ⟨ad706,A706_2,c706_2,e706,hx706_0,hx706_1,hx706_2,hl706_2,hi706_2⟩ := at_T58 HR0.out a3 p706 q706
      have hw706_2 := hx706_2
      have hw706_1 := hx706_1
      have hw706_0 := hx706_0
      obtain rfl : ad702 = ad706 := (by injection e706)
      replace hx706_0 := bwC HB.out hx706_0
      replace hx706_1 := bwC HB.out hx706_1
      replace hx706_2 := bwC HB.out hx706_2
      have HR706_2 := As_ hi706_2
      have HC706_2 := As_ hl706_2
      clear hi706_2 hl706_2
      replace p706 := eq_true p706
      replace q706 := eq_true q706
      have p707 : 0 ≤ (x9_2 : Int) := odT zA_
      have q707 : x9_2 < (((rd_T58 l0 a3).f2).length : Int) := odT zA_
      obtain ⟨ad707,e707,hx707_0⟩ := Kd.at_int HR706_2.out x9_2 p707 q707
      have hw707_0 := hx707_0
      cases e707
      replace hx707_0 := bwC HB.out hx707_0
      replace p707 := eq_true p707
      replace q707 := eq_true q707
      have p708 : 0 ≤ ((rd ((rd_T58 l0 a3).f2) x9_2) : Int) := odT zA_
      have q708 : (rd ((rd_T58 l0 a3).f2) x9_2) < (l1.length : Int) := odT zA_
      obtain ⟨ad708,e708,hx708_0⟩ := Kd.at_int HR1.out (rd ((rd_T58 l0 a3).f2) x9_2) p708 q708
      have hw708_0 := hx708_0
      obtain rfl : ad705 = ad708 := (by injection e708)
      replace hx708_0 := bwC HB.out hx708_0
      replace p708 := eq_true p708
      replace q708 := eq_true q708
      refine start_ (n := 23) (S := fun w' => w'.cell? (ad702.add ((a2).toNat * 3)) = some (.int .i64 ((rd_T58 l0 a2).f0)) ∧ w'.cell? ⟨(ad702.add ((a2).toNat * 3)).block,(ad702.add ((a2).toNat * 3)).off + 1,none⟩ = some (.int .i64 ((rd_T58 l0 a2).f1)) ∧ w'.cell? ⟨(ad702.add ((a2).toNat * 3)).block,(ad702.add ((a2).toNat * 3)).off + 2,none⟩ = some (.slice (some ad704) ((rd_T58 l0 a2).f2).length c703_2) ∧ w'.cell? (ad704.add (x9_2).toNat) = some (.int .i64 (rd ((rd_T58 l0 a2).f2) x9_2)) ∧ w'.cell? (ad705.add ((rd ((rd_T58 l0 a2).f2) x9_2)).toNat) = some (.int .i64 (rd l1 (rd ((rd_T58 l0 a2).f2) x9_2))) ∧ w'.cell? (ad702.add ((a3).toNat * 3)) = some (.int .i64 ((rd_T58 l0 a3).f0)) ∧ w'.cell? ⟨(ad702.add ((a3).toNat * 3)).block,(ad702.add ((a3).toNat * 3)).off + 1,none⟩ = some (.int .i64 ((rd_T58 l0 a3).f1)) ∧ w'.cell? ⟨(ad702.add ((a3).toNat * 3)).block,(ad702.add ((a3).toNat * 3)).off + 2,none⟩ = some (.slice (some ad707) ((rd_T58 l0 a3).f2).length c706_2) ∧ w'.cell? (ad707.add (x9_2).toNat) = some (.int .i64 (rd ((rd_T58 l0 a3).f2) x9_2)) ∧ w'.cell? (ad705.add ((rd ((rd_T58 l0 a3).f2) x9_2)).toNat) = some (.int .i64 (rd l1 (rd ((rd_T58 l0 a3).f2) x9_2)))) (ds := []) (bl_ 0 23) (by kernel_rfl) rfl rfl ⟨((HB.out.cell (bwL w _ hw703_0)).trans hw703_0),((HB.out.cell (bwL w _ hw703_1)).trans hw703_1),((HB.out.cell (bwL w _ hw703_2)).trans hw703_2),((HB.out.cell (bwL w _ hw704_0)).trans hw704_0),((HB.out.cell (bwL w _ hw705_0)).trans hw705_0),((HB.out.cell (bwL w _ hw706_0)).trans hw706_0),((HB.out.cell (bwL w _ hw706_1)).trans hw706_1),((HB.out.cell (bwL w _ hw706_2)).trans hw706_2),((HB.out.cell (bwL w _ hw707_0)).trans hw707_0),((HB.out.cell (bwL w _ hw708_0)).trans hw708_0)⟩ (fun hHeld => ?_);refine with_tabW spec_sameClass.tab6 spec_sameClass.bits6 (fun HT_ HW_ => ?_)
      generalize wr.drew = w31 at HB HR703_2 HR706_2 hx703_0 hx703_1 hx703_2 hx704_0 hx705_0 hx706_0 hx706_1 hx706_2 hx707_0 hx708_0 hHeld ⊢
      refine pQ 0 41 (bl_ 1 23) HT_ rfl ?_
      refine pQ 1 42 (bl_ 3 23) HT_ rfl ?_
      refine pQ 2 43 (bl_ 7 23) HT_ rfl ?_
      refine pQ 3 44 (bl_ 15 23) HT_ rfl ?_
      refine pQ 4 45 (bl_ 31 23) HT_ rfl ?_
      refine pQ 6 47 (bl_ 95 23) HT_ rfl ?_
      refine pQ 11 52 (bl_ 2143 23) HT_ rfl ?_
      refine pQ 12 53 (bl_ 6239 23) HT_ rfl ?_
      refine pQ 13 54 (bl_ 14431 23) HT_ rfl ?_
      refine pQ 14 55 (bl_ 30815 23) HT_ rfl ?_
      refine pQ 15 56 (bl_ 63583 23) HT_ rfl ?_
      refine pQ 17 58 (bl_ 194655 23) HT_ rfl ?_
      refine tP 5 46 (bl_ 194687 23) ?_ HT_ HW_ rfl (.inl ⟨by rfl,?_⟩) hHeld ?_ ?_ ?_;rotate_left;(rintro w' ⟨s0,s1,s2,s3,s4,s5,s6,s7,s8,s9⟩;go_simp;with_reducible rfl);rotate_left;(simp only [Act.put,sq_,i64_w,i32_w];rfl)
      refine pQ 7 48 (bl_ 194815 23) HT_ rfl ?_
      refine tP 8 49 (bl_ 195071 23) ?_ HT_ HW_ rfl (.inl ⟨by rfl,?_⟩) hHeld ?_ ?_ ?_;rotate_left;(rintro w' ⟨s0,s1,s2,s3,s4,s5,s6,s7,s8,s9⟩;go_simp;with_reducible rfl);rotate_left;(simp only [Act.put,sq_,i64_w,i32_w];rfl)
      refine pQ 9 50 (bl_ 195583 23) HT_ rfl ?_
      refine tP 10 51 (bl_ 196607 23) ?_ HT_ HW_ rfl (.inl ⟨by rfl,?_⟩) hHeld ?_ ?_ ?_;rotate_left;(rintro w' ⟨s0,s1,s2,s3,s4,s5,s6,s7,s8,s9⟩;go_simp;with_reducible rfl);rotate_left;(simp only [Act.put,sq_,i64_w,i32_w];rfl)
      refine tP 16 57 (bl_ 262143 23) ?_ HT_ HW_ rfl (.inl ⟨by rfl,?_⟩) hHeld ?_ ?_ ?_;rotate_left;(rintro w' ⟨s0,s1,s2,s3,s4,s5,s6,s7,s8,s9⟩;go_simp;with_reducible rfl);rotate_left;(simp only [Act.put,sq_,i64_w,i32_w];rfl)
      refine pQ 18 59 (bl_ 524287 23) HT_ rfl ?_
      refine tP 19 60 (bl_ 1048575 23) ?_ HT_ HW_ rfl (.inl ⟨by rfl,?_⟩) hHeld ?_ ?_ ?_;rotate_left;(rintro w' ⟨s0,s1,s2,s3,s4,s5,s6,s7,s8,s9⟩;go_simp;with_reducible rfl);rotate_left;(simp only [Act.put,sq_,i64_w,i32_w];rfl)
      refine pQ 20 61 (bl_ 2097151 23) HT_ rfl ?_
      refine tP 21 62 (bl_ 4194303 23) ?_ HT_ HW_ rfl (.inl ⟨by rfl,?_⟩) hHeld ?_ ?_ ?_;rotate_left;(rintro w' ⟨s0,s1,s2,s3,s4,s5,s6,s7,s8,s9⟩;go_simp;with_reducible rfl);rotate_left;(simp only [Act.put,sq_,i64_w,i32_w];rfl)
      refine pQ 22 63 (bl_ 8388607 23) HT_ rfl ?_
      refine done_ (done_of HT_.out (by kernel_rfl)) ?_
      try go_wp2
      go_ret
      exact ⟨zE_,zb0 HB.out⟩
     rw [if_pos c29] at H
     have c29b0 : ((rd l1 (rd ((rd_T58 l0 a2).f2) x9_2)) == (rd l1 (rd ((rd_T58 l0 a3).f2) x9_2))) = true := beq_iff_eq.mpr c29
     have c29b1 : ((rd l1 (rd ((rd_T58 l0 a2).f2) x9_2)) != (rd l1 (rd ((rd_T58 l0 a3).f2) x9_2))) = false := bne_eq_false_iff_eq.mpr c29
     clear c29
     have H' := As_ H
     clear H
     have p702 : 0 ≤ (a2 : Int) := odT zA_
     have q702 : a2 < (l0.length : Int) := odT zA_
     obtain ⟨ad702,A702_2,c702_2,e702,hx702_0,hx702_1,hx702_2,hl702_2,hi702_2⟩ := at_T58 HR0.out a2 p702 q702
     cases e702
     replace hx702_0 := bwC HB.out hx702_0
     replace hx702_1 := bwC HB.out hx702_1
     replace hx702_2 := bwC HB.out hx702_2
     have HR702_2 := As_ hi702_2
     have HC702_2 := As_ hl702_2
     clear hi702_2 hl702_2
     replace p702 := eq_true p702
     replace q702 := eq_true q702
     try go_wp2
     have n0_ := As_ (bwD HB.out)
     clear HB
     revert n0_;intro HB
     have p703 : 0 ≤ (a2 : Int) := odT zA_
     have q703 : a2 < (l0.length : Int) := odT zA_
     obtain ⟨ad703,A703_2,c703_2,e703,hx703_0,hx703_1,hx703_2,hl703_2,hi703_2⟩ := at_T58 HR0.out a2 p703 q703
     have hw703_2 := hx703_2
     have hw703_1 := hx703_1
     have hw703_0 := hx703_0
     obtain rfl : ad702 = ad703 := (by injection e703)
     replace hx703_0 := bwC HB.out hx703_0
     replace hx703_1 := bwC HB.out hx703_1
     replace hx703_2 := bwC HB.out hx703_2
     have HR703_2 := As_ hi703_2
     have HC703_2 := As_ hl703_2
     clear hi703_2 hl703_2
     replace p703 := eq_true p703
     replace q703 := eq_true q703
     have p704 : 0 ≤ (x9_2 : Int) := odT zA_
     have q704 : x9_2 < (((rd_T58 l0 a2).f2).length : Int) := odT zA_
     obtain ⟨ad704,e704,hx704_0⟩ := Kd.at_int HR703_2.out x9_2 p704 q704
     have hw704_0 := hx704_0
     cases e704
     replace hx704_0 := bwC HB.out hx704_0
     replace p704 := eq_true p704
     replace q704 := eq_true q704
     have p705 : 0 ≤ ((rd ((rd_T58 l0 a2).f2) x9_2) : Int) := odT zA_
     have q705 : (rd ((rd_T58 l0 a2).f2) x9_2) < (l1.length : Int) := odT zA_
     obtain ⟨ad705,e705,hx705_0⟩ := Kd.at_int HR1.out (rd ((rd_T58 l0 a2).f2) x9_2) p705 q705
     have hw705_0 := hx705_0
     cases e705
     replace hx705_0 := bwC HB.out hx705_0
     replace p705 := eq_true p705
     replace q705 := eq_true q705
     have p706 : 0 ≤ (a3 : Int) := odT zA_
     have q706 : a3 < (l0.length : Int) := odT zA_
     obtain ⟨ad706,A706_2,c706_2,e706,hx706_0,hx706_1,hx706_2,hl706_2,hi706_2⟩ := at_T58 HR0.out a3 p706 q706
     have hw706_2 := hx706_2
     have hw706_1 := hx706_1
     have hw706_0 := hx706_0
     obtain rfl : ad702 = ad706 := (by injection e706)
     replace hx706_0 := bwC HB.out hx706_0
     replace hx706_1 := bwC HB.out hx706_1
     replace hx706_2 := bwC HB.out hx706_2
     have HR706_2 := As_ hi706_2
     have HC706_2 := As_ hl706_2
     clear hi706_2 hl706_2
     replace p706 := eq_true p706
     replace q706 := eq_true q706
     have p707 : 0 ≤ (x9_2 : Int) := odT zA_
     have q707 : x9_2 < (((rd_T58 l0 a3).f2).length : Int) := odT zA_
     obtain ⟨ad707,e707,hx707_0⟩ := Kd.at_int HR706_2.out x9_2 p707 q707
     have hw707_0 := hx707_0
     cases e707
     replace hx707_0 := bwC HB.out hx707_0
     replace p707 := eq_true p707
     replace q707 := eq_true q707
     have p708 : 0 ≤ ((rd ((rd_T58 l0 a3).f2) x9_2) : Int) := odT zA_
     have q708 : (rd ((rd_T58 l0 a3).f2) x9_2) < (l1.length : Int) := odT zA_
     obtain ⟨ad708,e708,hx708_0⟩ := Kd.at_int HR1.out (rd ((rd_T58 l0 a3).f2) x9_2) p708 q708
     have hw708_0 := hx708_0
     obtain rfl : ad705 = ad708 := (by injection e708)
     replace hx708_0 := bwC HB.out hx708_0
     replace p708 := eq_true p708
     replace q708 := eq_true q708
     refine start_ (n := 23) (S := fun w' => w'.cell? (ad702.add ((a2).toNat * 3)) = some (.int .i64 ((rd_T58 l0 a2).f0)) ∧ w'.cell? ⟨(ad702.add ((a2).toNat * 3)).block,(ad702.add ((a2).toNat * 3)).off + 1,none⟩ = some (.int .i64 ((rd_T58 l0 a2).f1)) ∧ w'.cell? ⟨(ad702.add ((a2).toNat * 3)).block,(ad702.add ((a2).toNat * 3)).off + 2,none⟩ = some (.slice (some ad704) ((rd_T58 l0 a2).f2).length c703_2) ∧ w'.cell? (ad704.add (x9_2).toNat) = some (.int .i64 (rd ((rd_T58 l0 a2).f2) x9_2)) ∧ w'.cell? (ad705.add ((rd ((rd_T58 l0 a2).f2) x9_2)).toNat) = some (.int .i64 (rd l1 (rd ((rd_T58 l0 a2).f2) x9_2))) ∧ w'.cell? (ad702.add ((a3).toNat * 3)) = some (.int .i64 ((rd_T58 l0 a3).f0)) ∧ w'.cell? ⟨(ad702.add ((a3).toNat * 3)).block,(ad702.add ((a3).toNat * 3)).off + 1,none⟩ = some (.int .i64 ((rd_T58 l0 a3).f1)) ∧ w'.cell? ⟨(ad702.add ((a3).toNat * 3)).block,(ad702.add ((a3).toNat * 3)).off + 2,none⟩ = some (.slice (some ad707) ((rd_T58 l0 a3).f2).length c706_2) ∧ w'.cell? (ad707.add (x9_2).toNat) = some (.int .i64 (rd ((rd_T58 l0 a3).f2) x9_2)) ∧ w'.cell? (ad705.add ((rd ((rd_T58 l0 a3).f2) x9_2)).toNat) = some (.int .i64 (rd l1 (rd ((rd_T58 l0 a3).f2) x9_2)))) (ds := []) (bl_ 0 23) (by kernel_rfl) rfl rfl ⟨((HB.out.cell (bwL w _ hw703_0)).trans hw703_0),((HB.out.cell (bwL w _ hw703_1)).trans hw703_1),((HB.out.cell (bwL w _ hw703_2)).trans hw703_2),((HB.out.cell (bwL w _ hw704_0)).trans hw704_0),((HB.out.cell (bwL w _ hw705_0)).trans hw705_0),((HB.out.cell (bwL w _ hw706_0)).trans hw706_0),((HB.out.cell (bwL w _ hw706_1)).trans hw706_1),((HB.out.cell (bwL w _ hw706_2)).trans hw706_2),((HB.out.cell (bwL w _ hw707_0)).trans hw707_0),((HB.out.cell (bwL w _ hw708_0)).trans hw708_0)⟩ (fun hHeld => ?_);refine with_tabW spec_sameClass.tab6 spec_sameClass.bits6 (fun HT_ HW_ => ?_)
     generalize wr.drew = w30 at HB HR703_2 HR706_2 hx703_0 hx703_1 hx703_2 hx704_0 hx705_0 hx706_0 hx706_1 hx706_2 hx707_0 hx708_0 hHeld ⊢
     refine pQ 0 41 (bl_ 1 23) HT_ rfl ?_
     refine pQ 1 42 (bl_ 3 23) HT_ rfl ?_
     refine pQ 2 43 (bl_ 7 23) HT_ rfl ?_
     refine pQ 3 44 (bl_ 15 23) HT_ rfl ?_
     refine pQ 4 45 (bl_ 31 23) HT_ rfl ?_
     refine pQ 6 47 (bl_ 95 23) HT_ rfl ?_
     refine pQ 11 52 (bl_ 2143 23) HT_ rfl ?_
     refine pQ 12 53 (bl_ 6239 23) HT_ rfl ?_
     refine pQ 13 54 (bl_ 14431 23) HT_ rfl ?_
     refine pQ 14 55 (bl_ 30815 23) HT_ rfl ?_
     refine pQ 15 56 (bl_ 63583 23) HT_ rfl ?_
     refine pQ 17 58 (bl_ 194655 23) HT_ rfl ?_
     refine tP 5 46 (bl_ 194687 23) ?_ HT_ HW_ rfl (.inl ⟨by rfl,?_⟩) hHeld ?_ ?_ ?_;rotate_left;(rintro w' ⟨s0,s1,s2,s3,s4,s5,s6,s7,s8,s9⟩;go_simp;with_reducible rfl);rotate_left;(simp only [Act.put,sq_,i64_w,i32_w];rfl)
     refine pQ 7 48 (bl_ 194815 23) HT_ rfl ?_
     refine tP 8 49 (bl_ 195071 23) ?_ HT_ HW_ rfl (.inl ⟨by rfl,?_⟩) hHeld ?_ ?_ ?_;rotate_left;(rintro w' ⟨s0,s1,s2,s3,s4,s5,s6,s7,s8,s9⟩;go_simp;with_reducible rfl);rotate_left;(simp only [Act.put,sq_,i64_w,i32_w];rfl)
     refine pQ 9 50 (bl_ 195583 23) HT_ rfl ?_
     refine tP 10 51 (bl_ 196607 23) ?_ HT_ HW_ rfl (.inl ⟨by rfl,?_⟩) hHeld ?_ ?_ ?_;rotate_left;(rintro w' ⟨s0,s1,s2,s3,s4,s5,s6,s7,s8,s9⟩;go_simp;with_reducible rfl);rotate_left;(simp only [Act.put,sq_,i64_w,i32_w];rfl)
     refine tP 16 57 (bl_ 262143 23) ?_ HT_ HW_ rfl (.inl ⟨by rfl,?_⟩) hHeld ?_ ?_ ?_;rotate_left;(rintro w' ⟨s0,s1,s2,s3,s4,s5,s6,s7,s8,s9⟩;go_simp;with_reducible rfl);rotate_left;(simp only [Act.put,sq_,i64_w,i32_w];rfl)
     refine pQ 18 59 (bl_ 524287 23) HT_ rfl ?_
     refine tP 19 60 (bl_ 1048575 23) ?_ HT_ HW_ rfl (.inl ⟨by rfl,?_⟩) hHeld ?_ ?_ ?_;rotate_left;(rintro w' ⟨s0,s1,s2,s3,s4,s5,s6,s7,s8,s9⟩;go_simp;with_reducible rfl);rotate_left;(simp only [Act.put,sq_,i64_w,i32_w];rfl)
     refine pQ 20 61 (bl_ 2097151 23) HT_ rfl ?_
     refine tP 21 62 (bl_ 4194303 23) ?_ HT_ HW_ rfl (.inl ⟨by rfl,?_⟩) hHeld ?_ ?_ ?_;rotate_left;(rintro w' ⟨s0,s1,s2,s3,s4,s5,s6,s7,s8,s9⟩;go_simp;with_reducible rfl);rotate_left;(simp only [Act.put,sq_,i64_w,i32_w];rfl)
     refine pQ 22 63 (bl_ 8388607 23) HT_ rfl ?_
     refine done_ (done_of HT_.out (by kernel_rfl)) ?_
     try go_wp2
     go_roundg k2
     case measure => have := HJ4.out;have := HK2.out;omega
     case rel => exact ⟨(wrap64 (x9_2 + 1)),zT_,H',⟨by have := HJ4.out;have := HK2.out;omega⟩,⟨zb0 HB.out⟩⟩
end Go.Proofs.Ytapaegcombfafaa.Q
