-- Written by wip/tools/qprint.py (a program of this claim's author) by means of the kit's printer.
import Derived.Test.YtapaegcombfafaaQ0
import Derived.Test.YtapaegcombfafaaQ27
namespace Go.Proofs.Ytapaegcombfafaa.Q
open Go.RowKit Go.Proofs.YtapaegcombfafaaW.PrintWords Go.Proofs.YtapaegcombfafaaW.PrintLast Go.Proofs.YtapaegcombfafaaW.PrintMore
attribute [local go_sem] max2_int min2_int max_two min_two max_three min_three max_four min_four   -- for this text's walks alone
set_option linter.unusedVariables false
set_option linter.unusedSimpArgs false

/-! ### spec_sameClass: function 89 -/
mutual
def spec_sameClass.j0 : Nat → List (S58) → List Int → Int → Int → Bool → Option (Bool)
 | 0,_,_,_,_,_ => none
 | k + 1,x0,x1,x2,x3,x30 => if x30 = true then (some false) else (spec_sameClass.l0 k x0 x1 x2 x3 0)
def spec_sameClass.l0 : Nat → List (S58) → List Int → Int → Int → Int → Option (Bool)
 | 0,_,_,_,_,_ => none
 | k + 1,x0,x1,x2,x3,x9 => if 0 ≤ x2 then (if x2 < (x0.length : Int) then (if x9 < (((rd_T58 x0 x2).f2).length : Int) then (if 0 ≤ x9 then (if 0 ≤ (rd ((rd_T58 x0 x2).f2) x9) then (if (rd ((rd_T58 x0 x2).f2) x9) < (x1.length : Int) then (if 0 ≤ x3 then (if x3 < (x0.length : Int) then (if x9 < (((rd_T58 x0 x3).f2).length : Int) then (if 0 ≤ (rd ((rd_T58 x0 x3).f2) x9) then (if (rd ((rd_T58 x0 x3).f2) x9) < (x1.length : Int) then (if (rd x1 (rd ((rd_T58 x0 x2).f2) x9)) = (rd x1 (rd ((rd_T58 x0 x3).f2) x9)) then (spec_sameClass.l0 k x0 x1 x2 x3 (wrap64 (x9 + 1))) else (some false)) else (none)) else (none)) else (none)) else (none)) else (none)) else (none)) else (none)) else (none)) else (some true)) else (none)) else (none)
end
def spec_sameClass.f (k : Nat) (l0 : List (S58)) (l1 : List Int) (a2 : Int) (a3 : Int) : Option (Bool) := if 0 ≤ a2 then (if a2 < (l1.length : Int) then (if 0 ≤ a3 then (if a3 < (l1.length : Int) then (if (rd l1 a2) = (rd l1 a3) then (if a2 < (l0.length : Int) then (if a3 < (l0.length : Int) then ((spec_alike.f ((rd_T58 l0 a2).f0) ((rd_T58 l0 a2).f1) ((rd_T58 l0 a2).f2) ((rd_T58 l0 a3).f0) ((rd_T58 l0 a3).f1) ((rd_T58 l0 a3).f2)).bind fun t543 => (spec_sameClass.j0 k l0 l1 a2 a3 (!t543))) else (none)) else (none)) else (spec_sameClass.j0 k l0 l1 a2 a3 true)) else (none)) else (none)) else (none)) else (none)
set_option maxRecDepth 100000 in
theorem spec_sameClass.mono_l : ∀ k,(∀ y0 y1 y2 y3 y4,LeO (spec_sameClass.j0 k y0 y1 y2 y3 y4) (spec_sameClass.j0 (k + 1) y0 y1 y2 y3 y4)) ∧ (∀ y0 y1 y2 y3 y4,LeO (spec_sameClass.l0 k y0 y1 y2 y3 y4) (spec_sameClass.l0 (k + 1) y0 y1 y2 y3 y4))
 | 0 => ⟨fun _ _ _ _ _ r h => (by cases h),fun _ _ _ _ _ r h => (by cases h)⟩
 | k + 1 => by
  obtain ⟨ih0,ih1⟩ := spec_sameClass.mono_l k
  refine ⟨?_,?_⟩
  ·intro y0 y1 y2 y3 y4
   unfold spec_sameClass.j0
   repeat' first
   | (with_reducible exact ih0 _ _ _ _ _)
   | (with_reducible exact ih1 _ _ _ _ _)
   | (with_reducible exact LeO.refl _)
   | (with_reducible exact LeO.none _)
   | (with_reducible refine LeO.ite ?_ ?_)
   | (with_reducible refine LeO.bind ?_ (fun _ => ?_))
   | exact ih0 _ _ _ _ _
   | exact ih1 _ _ _ _ _
   | exact LeO.none _
   | refine LeO.ite ?_ ?_
   | refine LeO.bind ?_ (fun _ => ?_)
  ·intro y0 y1 y2 y3 y4
   unfold spec_sameClass.l0
   repeat' first
   | (with_reducible exact ih0 _ _ _ _ _)
   | (with_reducible exact ih1 _ _ _ _ _)
   | (with_reducible exact LeO.refl _)
   | (with_reducible exact LeO.none _)
   | (with_reducible refine LeO.ite ?_ ?_)
   | (with_reducible refine LeO.bind ?_ (fun _ => ?_))
   | exact ih0 _ _ _ _ _
   | exact ih1 _ _ _ _ _
   | exact LeO.none _
   | refine LeO.ite ?_ ?_
   | refine LeO.bind ?_ (fun _ => ?_)
set_option maxRecDepth 100000 in
theorem spec_sameClass.mono : ∀ a0 a1 a2 a3 k,LeO (spec_sameClass.f k a0 a1 a2 a3) (spec_sameClass.f (k + 1) a0 a1 a2 a3) := by
 intro a0 a1 a2 a3 k
 obtain ⟨ih0,ih1⟩ := spec_sameClass.mono_l k
 unfold spec_sameClass.f
 repeat' first
   | (with_reducible exact ih0 _ _ _ _ _)
   | (with_reducible exact ih1 _ _ _ _ _)
   | (with_reducible exact LeO.refl _)
   | (with_reducible exact LeO.none _)
   | (with_reducible refine LeO.ite ?_ ?_)
   | (with_reducible refine LeO.bind ?_ (fun _ => ?_))
   | exact ih0 _ _ _ _ _
   | exact ih1 _ _ _ _ _
   | exact LeO.none _
   | refine LeO.ite ?_ ?_
   | refine LeO.bind ?_ (fun _ => ?_)
def spec_sameClass.T1 : Bool × List (List Nat × List Nat) := (true,[([],[]),([],[]),([0,1],[0,1]),([2],[2]),([],[]),([],[]),([4,5],[4,5]),([6],[6]),([3,7],[3,7]),([8],[8]),([9],[9]),([9],[9]),([10,11,9],[9,10,11]),([12,9],[9,12]),([9],[9]),([9],[9]),([14,15,9],[9,14,15]),([16,9],[9,16]),([13,17,9,9],[9,13,17]),([18,9],[9,18]),([9,19],[9,19])])
def spec_sameClass.B1 : List Nat := [0,0,3,7,0,0,48,112,255,511,1023,1023,4095,8191,1023,1023,50175,115711,262143,524287,1048575]
theorem spec_sameClass.tab1 : rtab .any (opsOf Try.f89 1) = spec_sameClass.T1 := by kernel_rfl
theorem spec_sameClass.bits1 : waitsOk spec_sameClass.T1.2 spec_sameClass.B1 = true := by kernel_rfl
def spec_sameClass.T6 : Bool × List (List Nat × List Nat) := (true,[([],[]),([],[]),([],[]),([1,2],[1,2]),([3],[3]),([4],[4]),([],[]),([5,6],[5,6]),([7],[7]),([0,8],[0,8]),([9],[9]),([],[]),([],[]),([],[]),([12,13],[12,13]),([14],[14]),([15],[15]),([],[]),([16,17],[16,17]),([18],[18]),([11,19],[11,19]),([20],[20]),([10,21],[10,21])])
def spec_sameClass.B6 : List Nat := [0,0,0,6,14,30,0,126,254,511,1023,0,0,0,12288,28672,61440,0,258048,520192,1046528,2095104,4194303]
theorem spec_sameClass.tab6 : rtab .any (opsOf Try.f89 6) = spec_sameClass.T6 := by kernel_rfl
theorem spec_sameClass.bits6 : waitsOk spec_sameClass.T6.2 spec_sameClass.B6 = true := by kernel_rfl
set_option maxHeartbeats 8000000 in
set_option maxRecDepth 100000 in
theorem spec_sameClass.calls (k : Nat) (A0 : Option Addr) (c0 : Nat) (l0 : List (S58)) (A1 : Option Addr) (c1 : Nat) (l1 : List Int) (a2 : Int) (a3 : Int) (r : Bool) (w : World) (hr0 : Kd.C k58 w A0 l0.length l0) (hc0 : l0.length ≤ c0) (hr1 : Kd.C (Kd.int .i64) w A1 l1.length l1) (hc1 : l1.length ≤ c1) (h : spec_sameClass.f k l0 l1 a2 a3 = some r) :
  Calls Try.prog 89 #[.slice A0 l0.length c0,.slice A1 l1.length c1,.int .i64 a2,.int .i64 a3] w fun e w' => e = .returned (.bool r) ∧ Below w.heap.size w w' := by
 have hu58 := Try.underlying58
 have HR0 := As_ hr0
 have HC0 := As_ hc0
 clear hr0 hc0
 have HR1 := As_ hr1
 have HC1 := As_ hc1
 clear hr1 hc1
 have HB := As_ (Below.refl w.heap.size w)
 have H : (if 0 ≤ a2 then (if a2 < (l1.length : Int) then (if 0 ≤ a3 then (if a3 < (l1.length : Int) then (if (rd l1 a2) = (rd l1 a3) then (if a2 < (l0.length : Int) then (if a3 < (l0.length : Int) then ((spec_alike.f ((rd_T58 l0 a2).f0) ((rd_T58 l0 a2).f1) ((rd_T58 l0 a2).f2) ((rd_T58 l0 a3).f0) ((rd_T58 l0 a3).f1) ((rd_T58 l0 a3).f2)).bind fun t543 => (spec_sameClass.j0 k l0 l1 a2 a3 (!t543))) else (none)) else (none)) else (spec_sameClass.j0 k l0 l1 a2 a3 true)) else (none)) else (none)) else (none)) else (none)) = some r := h
 clear h
 have HC5 := As_ H
 clear H
 go_enter Try.func89,Try.ntmps89
 go_upto_region 1 with (fail)
 go_cut [30] (fun v30 wc => ∃ (kq : Nat) (x30_4 : Bool),v30 = .bool x30_4 ∧ Aside0 (spec_sameClass.j0 kq l0 l1 a2 a3 x30_4 = some r) ∧ Aside0 (kq ≤ k) ∧ Aside0 (Below w.heap.size w wc))
 case first =>
  have H := HC5.out
  clear HC5
  by_cases c6 : 0 ≤ a2
  rotate_left
  ·rw [if_neg c6] at H
   exact absurd H (by simp)
  rw [if_pos c6] at H
  have c6b0 : decide (0 ≤ a2) = true := deT c6
  clear c6
  (first|rw [c6b0]|(simp only [i64_w,i32_w];rw [c6b0])|skip)
  by_cases c7 : a2 < (l1.length : Int)
  rotate_left
  ·rw [if_neg c7] at H
   exact absurd H (by simp)
  rw [if_pos c7] at H
  have c7b0 : decide (a2 < (l1.length : Int)) = true := deT c7
  clear c7
  by_cases c8 : 0 ≤ a3
  rotate_left
  ·rw [if_neg c8] at H
   exact absurd H (by simp)
  rw [if_pos c8] at H
  have c8b0 : decide (0 ≤ a3) = true := deT c8
  clear c8
  by_cases c9 : a3 < (l1.length : Int)
  rotate_left
  ·rw [if_neg c9] at H
   exact absurd H (by simp)
  rw [if_pos c9] at H
  have c9b0 : decide (a3 < (l1.length : Int)) = true := deT c9
  clear c9
  by_cases c10 : (rd l1 a2) = (rd l1 a3)
  ·rw [if_pos c10] at H
   have c10b0 : ((rd l1 a2) == (rd l1 a3)) = true := beq_iff_eq.mpr c10
   have c10b1 : ((rd l1 a2) != (rd l1 a3)) = false := bne_eq_false_iff_eq.mpr c10
   clear c10
   by_cases c11 : a2 < (l0.length : Int)
   rotate_left
   ·rw [if_neg c11] at H
    exact absurd H (by simp)
   rw [if_pos c11] at H
   have c11b0 : decide (a2 < (l0.length : Int)) = true := deT c11
   clear c11
   by_cases c12 : a3 < (l0.length : Int)
   rotate_left
   ·rw [if_neg c12] at H
    exact absurd H (by simp)
   rw [if_pos c12] at H
   have c12b0 : decide (a3 < (l0.length : Int)) = true := deT c12
   clear c12
   replace H := obS H
   obtain ⟨t543,A130,H⟩ := H
   replace H : (spec_sameClass.j0 k l0 l1 a2 a3 (!t543)) = some r := H
   have A13 := As_ A130
   clear A130
   have H' := As_ H
   clear H
   try go_wp2
   have n0_ := As_ (bwD HB.out)
   clear HB
   have HB := n0_
   clear n0_
   have p539 : 0 ≤ (a2 : Int) := odT (by first|(with_reducible assumption)|assumption)
   have q539 : a2 < (l1.length : Int) := odT (by first|(with_reducible assumption)|assumption)
   obtain ⟨ad539,e539,hx539_0⟩ := Kd.at_int HR1.out a2 p539 q539
   have hw539_0 := hx539_0
   cases e539
   replace hx539_0 := (HB.out.cell (bwL w _ hx539_0)).trans hx539_0
   replace p539 := eq_true p539
   replace q539 := eq_true q539
   have p540 : 0 ≤ (a3 : Int) := odT (by first|(with_reducible assumption)|assumption)
   have q540 : a3 < (l1.length : Int) := odT (by first|(with_reducible assumption)|assumption)
   obtain ⟨ad540,e540,hx540_0⟩ := Kd.at_int HR1.out a3 p540 q540
   have hw540_0 := hx540_0
   obtain rfl : ad539 = ad540 := (by injection e540)
   replace hx540_0 := (HB.out.cell (bwL w _ hx540_0)).trans hx540_0
   replace p540 := eq_true p540
   replace q540 := eq_true q540
   have p541 : 0 ≤ (a2 : Int) := odT (by first|(with_reducible assumption)|assumption)
   have q541 : a2 < (l0.length : Int) := odT (by first|(with_reducible assumption)|assumption)
   obtain ⟨ad541,A541_2,c541_2,e541,hx541_0,hx541_1,hx541_2,hl541_2,hi541_2⟩ := at_T58 HR0.out a2 p541 q541
   have hw541_2 := hx541_2
   have hw541_1 := hx541_1
   have hw541_0 := hx541_0
   cases e541
   replace hx541_0 := (HB.out.cell (bwL w _ hx541_0)).trans hx541_0
   replace hx541_1 := (HB.out.cell (bwL w _ hx541_1)).trans hx541_1
   replace hx541_2 := (HB.out.cell (bwL w _ hx541_2)).trans hx541_2
   have HR541_2 := As_ hi541_2
   have HC541_2 := As_ hl541_2
   clear hi541_2 hl541_2
   replace p541 := eq_true p541
   replace q541 := eq_true q541
   have p542 : 0 ≤ (a3 : Int) := odT (by first|(with_reducible assumption)|assumption)
   have q542 : a3 < (l0.length : Int) := odT (by first|(with_reducible assumption)|assumption)
   obtain ⟨ad542,A542_2,c542_2,e542,hx542_0,hx542_1,hx542_2,hl542_2,hi542_2⟩ := at_T58 HR0.out a3 p542 q542
   have hw542_2 := hx542_2
   have hw542_1 := hx542_1
   have hw542_0 := hx542_0
   obtain rfl : ad541 = ad542 := (by injection e542)
   replace hx542_0 := (HB.out.cell (bwL w _ hx542_0)).trans hx542_0
   replace hx542_1 := (HB.out.cell (bwL w _ hx542_1)).trans hx542_1
   replace hx542_2 := (HB.out.cell (bwL w _ hx542_2)).trans hx542_2
   have HR542_2 := As_ hi542_2
   have HC542_2 := As_ hl542_2
   clear hi542_2 hl542_2
   replace p542 := eq_true p542
   replace q542 := eq_true q542
   refine start_ (n := 21) (S := fun w' => w'.cell? (ad539.add (a2).toNat) = some (.int .i64 (rd l1 a2)) ∧ w'.cell? (ad539.add (a3).toNat) = some (.int .i64 (rd l1 a3)) ∧ w'.cell? (ad541.add ((a2).toNat * 3)) = some (.int .i64 ((rd_T58 l0 a2).f0)) ∧ w'.cell? ⟨(ad541.add ((a2).toNat * 3)).block,(ad541.add ((a2).toNat * 3)).off + 1,none⟩ = some (.int .i64 ((rd_T58 l0 a2).f1)) ∧ w'.cell? ⟨(ad541.add ((a2).toNat * 3)).block,(ad541.add ((a2).toNat * 3)).off + 2,none⟩ = some (.slice A541_2 ((rd_T58 l0 a2).f2).length c541_2) ∧ w'.cell? (ad541.add ((a3).toNat * 3)) = some (.int .i64 ((rd_T58 l0 a3).f0)) ∧ w'.cell? ⟨(ad541.add ((a3).toNat * 3)).block,(ad541.add ((a3).toNat * 3)).off + 1,none⟩ = some (.int .i64 ((rd_T58 l0 a3).f1)) ∧ w'.cell? ⟨(ad541.add ((a3).toNat * 3)).block,(ad541.add ((a3).toNat * 3)).off + 2,none⟩ = some (.slice A542_2 ((rd_T58 l0 a3).f2).length c542_2)) (ds := []) (bl_ 0 21) (by kernel_rfl) rfl rfl ⟨((HB.out.cell (bwL w _ hw539_0)).trans hw539_0),((HB.out.cell (bwL w _ hw540_0)).trans hw540_0),((HB.out.cell (bwL w _ hw541_0)).trans hw541_0),((HB.out.cell (bwL w _ hw541_1)).trans hw541_1),((HB.out.cell (bwL w _ hw541_2)).trans hw541_2),((HB.out.cell (bwL w _ hw542_0)).trans hw542_0),((HB.out.cell (bwL w _ hw542_1)).trans hw542_1),((HB.out.cell (bwL w _ hw542_2)).trans hw542_2)⟩ (fun hHeld => ?_);refine with_tabW spec_sameClass.tab1 spec_sameClass.bits1 (fun HT_ HW_ => ?_)
   generalize w.drew = w14 at HB HR541_2 HR542_2 hx539_0 hx540_0 hx541_0 hx541_1 hx541_2 hx542_0 hx542_1 hx542_2 hHeld ⊢
   refine pP 0 10 (bl_ 1 21) ?_ HT_ rfl rfl (by kernel_rfl) (fun _ _ _ h => h) (.inl ⟨by rfl,?_⟩) ?_ ?_ ?_;rotate_left;(intro w';go_simp;with_reducible rfl);rotate_left;(simp only [Act.put,sq_,i64_w,i32_w];rfl)
   refine pP 1 11 (bl_ 3 21) ?_ HT_ rfl rfl (by kernel_rfl) (fun _ _ _ h => h) (.inl ⟨by rfl,?_⟩) ?_ ?_ ?_;rotate_left;(intro w';go_simp;with_reducible rfl);rotate_left;(simp only [Act.put,sq_,i64_w,i32_w];rfl)
   refine pP 2 12 (bl_ 7 21) ?_ HT_ rfl rfl (by kernel_rfl) (fun _ _ _ h => h) (.inl ⟨by rfl,?_⟩) ?_ ?_ ?_;rotate_left;(intro w';go_simp;with_reducible rfl);rotate_left;(simp only [Act.put,sq_,i64_w,i32_w];rfl)
   refine pP 4 14 (bl_ 23 21) ?_ HT_ rfl rfl (by kernel_rfl) (fun _ _ _ h => h) (.inl ⟨by rfl,?_⟩) ?_ ?_ ?_;rotate_left;(intro w';go_simp;with_reducible rfl);rotate_left;(simp only [Act.put,sq_,i64_w,i32_w];rfl)
   refine pP 5 15 (bl_ 55 21) ?_ HT_ rfl rfl (by kernel_rfl) (fun _ _ _ h => h) (.inl ⟨by rfl,?_⟩) ?_ ?_ ?_;rotate_left;(intro w';go_simp;with_reducible rfl);rotate_left;(simp only [Act.put,sq_,i64_w,i32_w];rfl)
   refine pP 6 16 (bl_ 119 21) ?_ HT_ rfl rfl (by kernel_rfl) (fun _ _ _ h => h) (.inl ⟨by rfl,?_⟩) ?_ ?_ ?_;rotate_left;(intro w';go_simp;with_reducible rfl);rotate_left;(simp only [Act.put,sq_,i64_w,i32_w];rfl)
   refine tP 3 13 (bl_ 127 21) ?_ HT_ HW_ rfl rfl (by kernel_rfl) (fun _ _ _ h => h) (.inl ⟨by rfl,?_⟩) hHeld ?_ ?_ ?_;rotate_left;(rintro w' ⟨s0,s1,s2,s3,s4,s5,s6,s7⟩;go_simp;with_reducible rfl);rotate_left;(simp only [Act.put,sq_,i64_w,i32_w];rfl)
   refine tP 7 17 (bl_ 255 21) ?_ HT_ HW_ rfl rfl (by kernel_rfl) (fun _ _ _ h => h) (.inl ⟨by rfl,?_⟩) hHeld ?_ ?_ ?_;rotate_left;(rintro w' ⟨s0,s1,s2,s3,s4,s5,s6,s7⟩;go_simp;with_reducible rfl);rotate_left;(simp only [Act.put,sq_,i64_w,i32_w];rfl)
   refine pP 8 18 (bl_ 511 21) ?_ HT_ rfl rfl (by kernel_rfl) (fun _ _ _ h => h) (.inl ⟨by rfl,?_⟩) ?_ ?_ ?_;rotate_left;(intro w';go_simp;with_reducible rfl);rotate_left;(simp only [Act.put,sq_,i64_w,i32_w];rfl)
   refine pP 9 19 (bl_ 1023 21) ?_ HT_ rfl rfl (by kernel_rfl) (fun _ _ _ h => h) (.inl ⟨by rfl,?_⟩) ?_ ?_ ?_;rotate_left;(intro w';go_simp;with_reducible rfl);rotate_left;(simp only [Act.put,sq_,i64_w,i32_w];rfl)
   refine pP 10 20 (bl_ 2047 21) ?_ HT_ rfl rfl (by kernel_rfl) (fun _ _ _ h => h) (.inl ⟨by rfl,?_⟩) ?_ ?_ ?_;rotate_left;(intro w';go_simp;with_reducible rfl);rotate_left;(simp only [Act.put,sq_,i64_w,i32_w];rfl)
   refine pP 11 21 (bl_ 4095 21) ?_ HT_ rfl rfl (by kernel_rfl) (fun _ _ _ h => h) (.inl ⟨by rfl,?_⟩) ?_ ?_ ?_;rotate_left;(intro w';go_simp;with_reducible rfl);rotate_left;(simp only [Act.put,sq_,i64_w,i32_w];rfl)
   refine pP 12 22 (bl_ 8191 21) ?_ HT_ rfl rfl (by kernel_rfl) (fun _ _ _ h => h) (.inl ⟨by rfl,?_⟩) ?_ ?_ ?_;rotate_left;(intro w';go_simp;with_reducible rfl);rotate_left;(simp only [Act.put,sq_,i64_w,i32_w];rfl)
   refine pP 14 24 (bl_ 24575 21) ?_ HT_ rfl rfl (by kernel_rfl) (fun _ _ _ h => h) (.inl ⟨by rfl,?_⟩) ?_ ?_ ?_;rotate_left;(intro w';go_simp;with_reducible rfl);rotate_left;(simp only [Act.put,sq_,i64_w,i32_w];rfl)
   refine pP 15 25 (bl_ 57343 21) ?_ HT_ rfl rfl (by kernel_rfl) (fun _ _ _ h => h) (.inl ⟨by rfl,?_⟩) ?_ ?_ ?_;rotate_left;(intro w';go_simp;with_reducible rfl);rotate_left;(simp only [Act.put,sq_,i64_w,i32_w];rfl)
   refine pP 16 26 (bl_ 122879 21) ?_ HT_ rfl rfl (by kernel_rfl) (fun _ _ _ h => h) (.inl ⟨by rfl,?_⟩) ?_ ?_ ?_;rotate_left;(intro w';go_simp;with_reducible rfl);rotate_left;(simp only [Act.put,sq_,i64_w,i32_w];rfl)
   refine tP 13 23 (bl_ 131071 21) ?_ HT_ HW_ rfl rfl (by kernel_rfl) (fun _ _ _ h => h) (.inl ⟨by rfl,?_⟩) hHeld ?_ ?_ ?_;rotate_left;(rintro w' ⟨s0,s1,s2,s3,s4,s5,s6,s7⟩;go_simp;with_reducible rfl);rotate_left;(simp only [Act.put,sq_,i64_w,i32_w];rfl)
   refine tP 17 27 (bl_ 262143 21) ?_ HT_ HW_ rfl rfl (by kernel_rfl) (fun _ _ _ h => h) (.inl ⟨by rfl,?_⟩) hHeld ?_ ?_ ?_;rotate_left;(rintro w' ⟨s0,s1,s2,s3,s4,s5,s6,s7⟩;go_simp;with_reducible rfl);rotate_left;(simp only [Act.put,sq_,i64_w,i32_w];rfl)
   refine one_ (i := 18) (N := some 28) (bl_ 524287 21) rfl rfl (one_of HT_.out (by kernel_rfl)) (by decide) (fun K hK => ?_)
   refine goes_ Try.func98 (by kernel_rfl) rfl #[.agg #[.int .i64 ((rd_T58 l0 a2).f0),.int .i64 ((rd_T58 l0 a2).f1),.slice A541_2 ((rd_T58 l0 a2).f2).length c541_2],.agg #[.int .i64 ((rd_T58 l0 a3).f0),.int .i64 ((rd_T58 l0 a3).f1),.slice A542_2 ((rd_T58 l0 a3).f2).length c542_2]] (by rfl) rfl rfl (by (try simp only [List.map_toArray,List.map_cons,List.map_nil]);first|done|rfl|(simp only [List.length_drop,List.length_take];rfl)) ?_
   with_reducible refine (spec_alike.calls ((rd_T58 l0 a2).f0) ((rd_T58 l0 a2).f1) _ _ ((rd_T58 l0 a2).f2) ((rd_T58 l0 a3).f0) ((rd_T58 l0 a3).f1) _ _ ((rd_T58 l0 a3).f2) t543 _ ?side1 ?side2 ?side3 ?side4 A13.out).mono ?_
   (case side1 => repeat (first|exact (Kd.C_below HR541_2.out HB.out)|(with_reducible refine Kd.C_alloc ?_ _)|(with_reducible refine Kd.C_drewN ?_ _)|(with_reducible refine Kd.C_drew ?_)))
   (case side2 => exact HC541_2.out)
   (case side3 => repeat (first|exact (Kd.C_below HR542_2.out HB.out)|(with_reducible refine Kd.C_alloc ?_ _)|(with_reducible refine Kd.C_drewN ?_ _)|(with_reducible refine Kd.C_drew ?_)))
   (case side4 => exact HC542_2.out)
   rintro e w15 ⟨rfl,hb⟩
   refine ⟨_,rfl,?_⟩
   have n0_ := As_ (bwT (by repeat (first|(with_reducible first|exact HB.out|apply bwA|apply bwN|apply bwD)|exact HB.out)) hb)
   clear HB
   have HB := n0_
   clear n0_
   (try clear hb)
   (try clear hb2)
   (try clear hk)
   (try clear hi)
   refine hK.out _ _ ⟨((HB.out.cell (bwL w _ hw539_0)).trans hw539_0),((HB.out.cell (bwL w _ hw540_0)).trans hw540_0),((HB.out.cell (bwL w _ hw541_0)).trans hw541_0),((HB.out.cell (bwL w _ hw541_1)).trans hw541_1),((HB.out.cell (bwL w _ hw541_2)).trans hw541_2),((HB.out.cell (bwL w _ hw542_0)).trans hw542_0),((HB.out.cell (bwL w _ hw542_1)).trans hw542_1),((HB.out.cell (bwL w _ hw542_2)).trans hw542_2)⟩ (fun hHeld => ?_)
   clear hK K
   refine norm_ (a' := ?_) ?_ ?_
   rotate_left
   ·show Act.put _ (some 28) _ = _
    simp only [Act.put,sq_,i64_w,i32_w]
    rfl
   refine pP 19 29 (bl_ 1048575 21) ?_ HT_ rfl rfl (by kernel_rfl) (fun _ _ _ h => h) (.inl ⟨by rfl,?_⟩) ?_ ?_ ?_;rotate_left;(intro w';go_simp;with_reducible rfl);rotate_left;(simp only [Act.put,sq_,i64_w,i32_w];rfl)
   refine pP 20 30 (bl_ 2097151 21) ?_ HT_ rfl rfl (by kernel_rfl) (fun _ _ _ h => h) (.inl ⟨by rfl,?_⟩) ?_ ?_ ?_;rotate_left;(intro w';go_simp;with_reducible rfl);rotate_left;(simp only [Act.put,sq_,i64_w,i32_w];rfl)
   refine done_ (done_of HT_.out (by kernel_rfl)) ?_
   try go_wp2
   go_meet
   case rel => exact ⟨_,(!t543),(by first|rfl|(simp;done)|(simp [*];done)),H',⟨by first|omega|exact Nat.le_refl _⟩,⟨by repeat (first|(with_reducible first|exact HB.out|apply bwA|apply bwN|apply bwD)|exact HB.out)⟩⟩
  ·rw [if_neg c10] at H
   have c10b0 : ((rd l1 a2) == (rd l1 a3)) = false := beq_eq_false_iff_ne.mpr c10
   have c10b1 : ((rd l1 a2) != (rd l1 a3)) = true := bne_iff_ne.mpr c10
   have H' := As_ H
   clear H
   try go_wp2
   have n0_ := As_ (bwD HB.out)
   clear HB
   have HB := n0_
   clear n0_
   have p539 : 0 ≤ (a2 : Int) := odT (by first|(with_reducible assumption)|assumption)
   have q539 : a2 < (l1.length : Int) := odT (by first|(with_reducible assumption)|assumption)
   obtain ⟨ad539,e539,hx539_0⟩ := Kd.at_int HR1.out a2 p539 q539
   have hw539_0 := hx539_0
   cases e539
   replace hx539_0 := (HB.out.cell (bwL w _ hx539_0)).trans hx539_0
   replace p539 := eq_true p539
   replace q539 := eq_true q539
   have p540 : 0 ≤ (a3 : Int) := odT (by first|(with_reducible assumption)|assumption)
   have q540 : a3 < (l1.length : Int) := odT (by first|(with_reducible assumption)|assumption)
   obtain ⟨ad540,e540,hx540_0⟩ := Kd.at_int HR1.out a3 p540 q540
   have hw540_0 := hx540_0
   obtain rfl : ad539 = ad540 := (by injection e540)
   replace hx540_0 := (HB.out.cell (bwL w _ hx540_0)).trans hx540_0
   replace p540 := eq_true p540
   replace q540 := eq_true q540
   refine start_ (n := 21) (S := fun w' => w'.cell? (ad539.add (a2).toNat) = some (.int .i64 (rd l1 a2)) ∧ w'.cell? (ad539.add (a3).toNat) = some (.int .i64 (rd l1 a3))) (ds := []) (bl_ 0 21) (by kernel_rfl) rfl rfl ⟨((HB.out.cell (bwL w _ hw539_0)).trans hw539_0),((HB.out.cell (bwL w _ hw540_0)).trans hw540_0)⟩ (fun hHeld => ?_);refine with_tabW spec_sameClass.tab1 spec_sameClass.bits1 (fun HT_ HW_ => ?_)
   generalize w.drew = w16 at HB hx539_0 hx540_0 hHeld ⊢
   refine pP 0 10 (bl_ 1 21) ?_ HT_ rfl rfl (by kernel_rfl) (fun _ _ _ h => h) (.inl ⟨by rfl,?_⟩) ?_ ?_ ?_;rotate_left;(intro w';go_simp;with_reducible rfl);rotate_left;(simp only [Act.put,sq_,i64_w,i32_w];rfl)
   refine pP 1 11 (bl_ 3 21) ?_ HT_ rfl rfl (by kernel_rfl) (fun _ _ _ h => h) (.inl ⟨by rfl,?_⟩) ?_ ?_ ?_;rotate_left;(intro w';go_simp;with_reducible rfl);rotate_left;(simp only [Act.put,sq_,i64_w,i32_w];rfl)
   refine pP 2 12 (bl_ 7 21) ?_ HT_ rfl rfl (by kernel_rfl) (fun _ _ _ h => h) (.inl ⟨by rfl,?_⟩) ?_ ?_ ?_;rotate_left;(intro w';go_simp;with_reducible rfl);rotate_left;(simp only [Act.put,sq_,i64_w,i32_w];rfl)
   refine pP 4 14 (bl_ 23 21) ?_ HT_ rfl rfl (by kernel_rfl) (fun _ _ _ h => h) (.inl ⟨by rfl,?_⟩) ?_ ?_ ?_;rotate_left;(intro w';go_simp;with_reducible rfl);rotate_left;(simp only [Act.put,sq_,i64_w,i32_w];rfl)
   refine pP 5 15 (bl_ 55 21) ?_ HT_ rfl rfl (by kernel_rfl) (fun _ _ _ h => h) (.inl ⟨by rfl,?_⟩) ?_ ?_ ?_;rotate_left;(intro w';go_simp;with_reducible rfl);rotate_left;(simp only [Act.put,sq_,i64_w,i32_w];rfl)
   refine pP 6 16 (bl_ 119 21) ?_ HT_ rfl rfl (by kernel_rfl) (fun _ _ _ h => h) (.inl ⟨by rfl,?_⟩) ?_ ?_ ?_;rotate_left;(intro w';go_simp;with_reducible rfl);rotate_left;(simp only [Act.put,sq_,i64_w,i32_w];rfl)
   refine tP 3 13 (bl_ 127 21) ?_ HT_ HW_ rfl rfl (by kernel_rfl) (fun _ _ _ h => h) (.inl ⟨by rfl,?_⟩) hHeld ?_ ?_ ?_;rotate_left;(rintro w' ⟨s0,s1⟩;go_simp;with_reducible rfl);rotate_left;(simp only [Act.put,sq_,i64_w,i32_w];rfl)
   refine tP 7 17 (bl_ 255 21) ?_ HT_ HW_ rfl rfl (by kernel_rfl) (fun _ _ _ h => h) (.inl ⟨by rfl,?_⟩) hHeld ?_ ?_ ?_;rotate_left;(rintro w' ⟨s0,s1⟩;go_simp;with_reducible rfl);rotate_left;(simp only [Act.put,sq_,i64_w,i32_w];rfl)
   refine pP 8 18 (bl_ 511 21) ?_ HT_ rfl rfl (by kernel_rfl) (fun _ _ _ h => h) (.inl ⟨by rfl,?_⟩) ?_ ?_ ?_;rotate_left;(intro w';go_simp;with_reducible rfl);rotate_left;(simp only [Act.put,sq_,i64_w,i32_w];rfl)
   refine pP 9 19 (bl_ 1023 21) ?_ HT_ rfl rfl (by kernel_rfl) (fun _ _ _ h => h) (.inl ⟨by rfl,?_⟩) ?_ ?_ ?_;rotate_left;(intro w';go_simp;with_reducible rfl);rotate_left;(simp only [Act.put,sq_,i64_w,i32_w];rfl)
   refine pure_ (i := 10) (N := some 20) (v := undef) (a' := ?_) (bl_ 2047 21) rfl rfl (any_of HT_.out (by kernel_rfl)) (fun _ _ _ h => h) (Or.inr ⟨by rfl,rfl⟩) ?_ ?_
   rotate_left
   ·simp only [Act.put,sq_,i64_w,i32_w]
    rfl
   refine pure_ (i := 11) (N := some 21) (v := undef) (a' := ?_) (bl_ 4095 21) rfl rfl (any_of HT_.out (by kernel_rfl)) (fun _ _ _ h => h) (Or.inr ⟨by rfl,rfl⟩) ?_ ?_
   rotate_left
   ·simp only [Act.put,sq_,i64_w,i32_w]
    rfl
   refine pure_ (i := 12) (N := some 22) (v := undef) (a' := ?_) (bl_ 8191 21) rfl rfl (any_of HT_.out (by kernel_rfl)) (fun _ _ _ h => h) (Or.inr ⟨by rfl,rfl⟩) ?_ ?_
   rotate_left
   ·simp only [Act.put,sq_,i64_w,i32_w]
    rfl
   refine pure_ (i := 13) (N := some 23) (v := undef) (a' := ?_) (bl_ 16383 21) rfl rfl (any_of HT_.out (by kernel_rfl)) (fun _ _ _ h => h) (Or.inr ⟨by rfl,rfl⟩) ?_ ?_
   rotate_left
   ·simp only [Act.put,sq_,i64_w,i32_w]
    rfl
   refine pure_ (i := 14) (N := some 24) (v := undef) (a' := ?_) (bl_ 32767 21) rfl rfl (any_of HT_.out (by kernel_rfl)) (fun _ _ _ h => h) (Or.inr ⟨by rfl,rfl⟩) ?_ ?_
   rotate_left
   ·simp only [Act.put,sq_,i64_w,i32_w]
    rfl
   refine pure_ (i := 15) (N := some 25) (v := undef) (a' := ?_) (bl_ 65535 21) rfl rfl (any_of HT_.out (by kernel_rfl)) (fun _ _ _ h => h) (Or.inr ⟨by rfl,rfl⟩) ?_ ?_
   rotate_left
   ·simp only [Act.put,sq_,i64_w,i32_w]
    rfl
   refine pure_ (i := 16) (N := some 26) (v := undef) (a' := ?_) (bl_ 131071 21) rfl rfl (any_of HT_.out (by kernel_rfl)) (fun _ _ _ h => h) (Or.inr ⟨by rfl,rfl⟩) ?_ ?_
   rotate_left
   ·simp only [Act.put,sq_,i64_w,i32_w]
    rfl
   refine pure_ (i := 17) (N := some 27) (v := undef) (a' := ?_) (bl_ 262143 21) rfl rfl (any_of HT_.out (by kernel_rfl)) (fun _ _ _ h => h) (Or.inr ⟨by rfl,rfl⟩) ?_ ?_
   rotate_left
   ·simp only [Act.put,sq_,i64_w,i32_w]
    rfl
   refine pure_ (i := 18) (N := some 28) (v := undef) (a' := ?_) (bl_ 524287 21) rfl rfl (any_of HT_.out (by kernel_rfl)) (fun _ _ _ h => h) (Or.inr ⟨by rfl,rfl⟩) ?_ ?_
   rotate_left
   ·simp only [Act.put,sq_,i64_w,i32_w]
    rfl
   refine pure_ (i := 19) (N := some 29) (v := undef) (a' := ?_) (bl_ 1048575 21) rfl rfl (any_of HT_.out (by kernel_rfl)) (fun _ _ _ h => h) (Or.inr ⟨by rfl,rfl⟩) ?_ ?_
   rotate_left
   ·simp only [Act.put,sq_,i64_w,i32_w]
    rfl
   refine pP 20 30 (bl_ 2097151 21) ?_ HT_ rfl rfl (by kernel_rfl) (fun _ _ _ h => h) (.inl ⟨by rfl,?_⟩) ?_ ?_ ?_;rotate_left;(intro w';go_simp;with_reducible rfl);rotate_left;(simp only [Act.put,sq_,i64_w,i32_w];rfl)
   refine done_ (done_of HT_.out (by kernel_rfl)) ?_
   try go_wp2
   go_meet
   case rel => exact ⟨_,(true),(by first|rfl|(simp;done)|(simp [*];done)),H',⟨by first|omega|exact Nat.le_refl _⟩,⟨by repeat (first|(with_reducible first|exact HB.out|apply bwA|apply bwN|apply bwD)|exact HB.out)⟩⟩
 case rest =>
  clear HC5
  try clear c1
  try clear p2
  try clear c5
  try clear p5
  try clear q5
  try clear hx5
  try clear c6
  try clear c6b0
  try clear c7
  try clear c7b0
  try clear c8
  try clear c8b0
  try clear c9
  try clear c9b0
  try clear c10
  try clear c10b0
  try clear c10b1
  try clear c11
  try clear c11b0
  try clear c12
  try clear c12b0
  try clear hx539_0
  try clear hx540_0
  try clear hx541_0
  try clear hx541_1
  try clear hx541_2
  try clear hx542_0
  try clear hx542_1
  try clear hx542_2
  try clear p539
  try clear p540
  try clear p541
  try clear p542
  try clear q539
  try clear q540
  try clear q541
  try clear q542
  obtain ⟨kq,x30_4,rfl,HA,HJ4,HB⟩ := hcut
  cases kq with
  | zero => exact absurd HA.out (fun h_ => (by cases h_))
  | succ kj4 =>
   have H := HA.out
   clear HA
   simp only [spec_sameClass.j0] at H
   by_cases c17 : x30_4 = true
   ·subst c17
    have H1 : (some false) = some r := by rw [if_pos rfl] at H;exact H
    clear H
    have H := H1
    clear H1
    obtain rfl := Option.some.inj H
    go_wp2
    go_ret
    exact ⟨by first|rfl|(simp [errW_none,errW_some] <;> rfl)|(simp [*,errW_none,errW_some] <;> rfl),by repeat (first|(with_reducible first|exact HB.out|apply bwA|apply bwN|apply bwD)|exact HB.out)⟩
   ·replace c17 := Bool.eq_false_iff.mpr c17
    subst c17
    have H1 : (spec_sameClass.l0 kj4 l0 l1 a2 a3 0) = some r := by rw [if_neg (show ¬ (false = true) by decide)] at H;exact H
    clear H
    have H := H1
    clear H1
    have H' := As_ H
    clear H
    go_wp2
    go_loopg [9] kj4 (fun kq v9 w' => ∃ (x9_2 : Int),v9 = .int .i64 x9_2 ∧ Aside0 (spec_sameClass.l0 kq l0 l1 a2 a3 x9_2 = some r) ∧ Aside0 (kq ≤ kj4) ∧ Aside0 (Below w.heap.size w w'))
    case atStart => exact ⟨(0),(by first|rfl|(simp;done)|(simp [*];done)),H',⟨Nat.le_refl _⟩,⟨by repeat (first|(with_reducible first|exact HB.out|apply bwA|apply bwN|apply bwD)|exact HB.out)⟩⟩
    case round =>
     clear H'
     try clear c1
     try clear p2
     try clear c5
     try clear p5
     try clear q5
     try clear hx5
     try clear c6
     try clear c6b0
     try clear c7
     try clear c7b0
     try clear c8
     try clear c8b0
     try clear c9
     try clear c9b0
     try clear c10
     try clear c10b0
     try clear c10b1
     try clear c11
     try clear c11b0
     try clear c12
     try clear c12b0
     try clear c17
     try clear hx539_0
     try clear hx540_0
     try clear hx541_0
     try clear hx541_1
     try clear hx541_2
     try clear hx542_0
     try clear hx542_1
     try clear hx542_2
     try clear p2
     try clear p5
     try clear p539
     try clear p540
     try clear p541
     try clear p542
     try clear q5
     try clear q539
     try clear q540
     try clear q541
     try clear q542
     obtain ⟨x9_2,rfl,HA,HK2,HB⟩ := hrel
     cases gk with
     | zero => exact absurd HA.out (fun h_ => (by cases h_))
     | succ k2 =>
      have H := HA.out
      clear HA
      simp only [spec_sameClass.l0] at H
      by_cases c18 : 0 ≤ a2
      rotate_left
      ·rw [if_neg c18] at H
       exact absurd H (by simp)
      rw [if_pos c18] at H
      have c18b0 : decide (0 ≤ a2) = true := deT c18
      clear c18
      by_cases c19 : a2 < (l0.length : Int)
      rotate_left
      ·rw [if_neg c19] at H
       exact absurd H (by simp)
      rw [if_pos c19] at H
      have c19b0 : decide (a2 < (l0.length : Int)) = true := deT c19
      clear c19
      by_cases c20 : x9_2 < (((rd_T58 l0 a2).f2).length : Int)
      ·rw [if_pos c20] at H
       have c20b0 : decide (x9_2 < (((rd_T58 l0 a2).f2).length : Int)) = true := deT c20
       clear c20
       by_cases c21 : 0 ≤ x9_2
       rotate_left
       ·rw [if_neg c21] at H
        exact absurd H (by simp)
       rw [if_pos c21] at H
       have c21b0 : decide (0 ≤ x9_2) = true := deT c21
       clear c21
       by_cases c22 : 0 ≤ (rd ((rd_T58 l0 a2).f2) x9_2)
       rotate_left
       ·rw [if_neg c22] at H
        exact absurd H (by simp)
       rw [if_pos c22] at H
       have c22b0 : decide (0 ≤ (rd ((rd_T58 l0 a2).f2) x9_2)) = true := deT c22
       clear c22
       by_cases c23 : (rd ((rd_T58 l0 a2).f2) x9_2) < (l1.length : Int)
       rotate_left
       ·rw [if_neg c23] at H
        exact absurd H (by simp)
       rw [if_pos c23] at H
       have c23b0 : decide ((rd ((rd_T58 l0 a2).f2) x9_2) < (l1.length : Int)) = true := deT c23
       clear c23
       by_cases c24 : 0 ≤ a3
       rotate_left
       ·rw [if_neg c24] at H
        exact absurd H (by simp)
       rw [if_pos c24] at H
       have c24b0 : decide (0 ≤ a3) = true := deT c24
       clear c24
       by_cases c25 : a3 < (l0.length : Int)
       rotate_left
       ·rw [if_neg c25] at H
        exact absurd H (by simp)
       rw [if_pos c25] at H
       have c25b0 : decide (a3 < (l0.length : Int)) = true := deT c25
       clear c25
       by_cases c26 : x9_2 < (((rd_T58 l0 a3).f2).length : Int)
       rotate_left
       ·rw [if_neg c26] at H
        exact absurd H (by simp)
       rw [if_pos c26] at H
       have c26b0 : decide (x9_2 < (((rd_T58 l0 a3).f2).length : Int)) = true := deT c26
       clear c26
       by_cases c27 : 0 ≤ (rd ((rd_T58 l0 a3).f2) x9_2)
       rotate_left
       ·rw [if_neg c27] at H
        exact absurd H (by simp)
       rw [if_pos c27] at H
       have c27b0 : decide (0 ≤ (rd ((rd_T58 l0 a3).f2) x9_2)) = true := deT c27
       clear c27
       by_cases c28 : (rd ((rd_T58 l0 a3).f2) x9_2) < (l1.length : Int)
       rotate_left
       ·rw [if_neg c28] at H
        exact absurd H (by simp)
       rw [if_pos c28] at H
       have c28b0 : decide ((rd ((rd_T58 l0 a3).f2) x9_2) < (l1.length : Int)) = true := deT c28
       clear c28
       by_cases c29 : (rd l1 (rd ((rd_T58 l0 a2).f2) x9_2)) = (rd l1 (rd ((rd_T58 l0 a3).f2) x9_2))
       ·rw [if_pos c29] at H
        have c29b0 : ((rd l1 (rd ((rd_T58 l0 a2).f2) x9_2)) == (rd l1 (rd ((rd_T58 l0 a3).f2) x9_2))) = true := beq_iff_eq.mpr c29
        have c29b1 : ((rd l1 (rd ((rd_T58 l0 a2).f2) x9_2)) != (rd l1 (rd ((rd_T58 l0 a3).f2) x9_2))) = false := bne_eq_false_iff_eq.mpr c29
        clear c29
        have H' := As_ H
        clear H
        have p544 : 0 ≤ (a2 : Int) := odT (by first|(with_reducible assumption)|assumption)
        have q544 : a2 < (l0.length : Int) := odT (by first|(with_reducible assumption)|assumption)
        obtain ⟨ad544,A544_2,c544_2,e544,hx544_0,hx544_1,hx544_2,hl544_2,hi544_2⟩ := at_T58 HR0.out a2 p544 q544
        cases e544
        replace hx544_0 := (HB.out.cell (bwL w _ hx544_0)).trans hx544_0
        replace hx544_1 := (HB.out.cell (bwL w _ hx544_1)).trans hx544_1
        replace hx544_2 := (HB.out.cell (bwL w _ hx544_2)).trans hx544_2
        have HR544_2 := As_ hi544_2
        have HC544_2 := As_ hl544_2
        clear hi544_2 hl544_2
        replace p544 := eq_true p544
        replace q544 := eq_true q544
        try go_wp2
        have n0_ := As_ (bwD HB.out)
        clear HB
        have HB := n0_
        clear n0_
        have p545 : 0 ≤ (a2 : Int) := odT (by first|(with_reducible assumption)|assumption)
        have q545 : a2 < (l0.length : Int) := odT (by first|(with_reducible assumption)|assumption)
        obtain ⟨ad545,A545_2,c545_2,e545,hx545_0,hx545_1,hx545_2,hl545_2,hi545_2⟩ := at_T58 HR0.out a2 p545 q545
        have hw545_2 := hx545_2
        have hw545_1 := hx545_1
        have hw545_0 := hx545_0
        obtain rfl : ad544 = ad545 := (by injection e545)
        replace hx545_0 := (HB.out.cell (bwL w _ hx545_0)).trans hx545_0
        replace hx545_1 := (HB.out.cell (bwL w _ hx545_1)).trans hx545_1
        replace hx545_2 := (HB.out.cell (bwL w _ hx545_2)).trans hx545_2
        have HR545_2 := As_ hi545_2
        have HC545_2 := As_ hl545_2
        clear hi545_2 hl545_2
        replace p545 := eq_true p545
        replace q545 := eq_true q545
        have p546 : 0 ≤ (x9_2 : Int) := odT (by first|(with_reducible assumption)|assumption)
        have q546 : x9_2 < (((rd_T58 l0 a2).f2).length : Int) := odT (by first|(with_reducible assumption)|assumption)
        obtain ⟨ad546,e546,hx546_0⟩ := Kd.at_int HR545_2.out x9_2 p546 q546
        have hw546_0 := hx546_0
        cases e546
        replace hx546_0 := (HB.out.cell (bwL w _ hx546_0)).trans hx546_0
        replace p546 := eq_true p546
        replace q546 := eq_true q546
        have p547 : 0 ≤ ((rd ((rd_T58 l0 a2).f2) x9_2) : Int) := odT (by first|(with_reducible assumption)|assumption)
        have q547 : (rd ((rd_T58 l0 a2).f2) x9_2) < (l1.length : Int) := odT (by first|(with_reducible assumption)|assumption)
        obtain ⟨ad547,e547,hx547_0⟩ := Kd.at_int HR1.out (rd ((rd_T58 l0 a2).f2) x9_2) p547 q547
        have hw547_0 := hx547_0
        cases e547
        replace hx547_0 := (HB.out.cell (bwL w _ hx547_0)).trans hx547_0
        replace p547 := eq_true p547
        replace q547 := eq_true q547
        have p548 : 0 ≤ (a3 : Int) := odT (by first|(with_reducible assumption)|assumption)
        have q548 : a3 < (l0.length : Int) := odT (by first|(with_reducible assumption)|assumption)
        obtain ⟨ad548,A548_2,c548_2,e548,hx548_0,hx548_1,hx548_2,hl548_2,hi548_2⟩ := at_T58 HR0.out a3 p548 q548
        have hw548_2 := hx548_2
        have hw548_1 := hx548_1
        have hw548_0 := hx548_0
        obtain rfl : ad544 = ad548 := (by injection e548)
        replace hx548_0 := (HB.out.cell (bwL w _ hx548_0)).trans hx548_0
        replace hx548_1 := (HB.out.cell (bwL w _ hx548_1)).trans hx548_1
        replace hx548_2 := (HB.out.cell (bwL w _ hx548_2)).trans hx548_2
        have HR548_2 := As_ hi548_2
        have HC548_2 := As_ hl548_2
        clear hi548_2 hl548_2
        replace p548 := eq_true p548
        replace q548 := eq_true q548
        have p549 : 0 ≤ (x9_2 : Int) := odT (by first|(with_reducible assumption)|assumption)
        have q549 : x9_2 < (((rd_T58 l0 a3).f2).length : Int) := odT (by first|(with_reducible assumption)|assumption)
        obtain ⟨ad549,e549,hx549_0⟩ := Kd.at_int HR548_2.out x9_2 p549 q549
        have hw549_0 := hx549_0
        cases e549
        replace hx549_0 := (HB.out.cell (bwL w _ hx549_0)).trans hx549_0
        replace p549 := eq_true p549
        replace q549 := eq_true q549
        have p550 : 0 ≤ ((rd ((rd_T58 l0 a3).f2) x9_2) : Int) := odT (by first|(with_reducible assumption)|assumption)
        have q550 : (rd ((rd_T58 l0 a3).f2) x9_2) < (l1.length : Int) := odT (by first|(with_reducible assumption)|assumption)
        obtain ⟨ad550,e550,hx550_0⟩ := Kd.at_int HR1.out (rd ((rd_T58 l0 a3).f2) x9_2) p550 q550
        have hw550_0 := hx550_0
        obtain rfl : ad547 = ad550 := (by injection e550)
        replace hx550_0 := (HB.out.cell (bwL w _ hx550_0)).trans hx550_0
        replace p550 := eq_true p550
        replace q550 := eq_true q550
        refine start_ (n := 23) (S := fun w' => w'.cell? (ad544.add ((a2).toNat * 3)) = some (.int .i64 ((rd_T58 l0 a2).f0)) ∧ w'.cell? ⟨(ad544.add ((a2).toNat * 3)).block,(ad544.add ((a2).toNat * 3)).off + 1,none⟩ = some (.int .i64 ((rd_T58 l0 a2).f1)) ∧ w'.cell? ⟨(ad544.add ((a2).toNat * 3)).block,(ad544.add ((a2).toNat * 3)).off + 2,none⟩ = some (.slice (some ad546) ((rd_T58 l0 a2).f2).length c545_2) ∧ w'.cell? (ad546.add (x9_2).toNat) = some (.int .i64 (rd ((rd_T58 l0 a2).f2) x9_2)) ∧ w'.cell? (ad547.add ((rd ((rd_T58 l0 a2).f2) x9_2)).toNat) = some (.int .i64 (rd l1 (rd ((rd_T58 l0 a2).f2) x9_2))) ∧ w'.cell? (ad544.add ((a3).toNat * 3)) = some (.int .i64 ((rd_T58 l0 a3).f0)) ∧ w'.cell? ⟨(ad544.add ((a3).toNat * 3)).block,(ad544.add ((a3).toNat * 3)).off + 1,none⟩ = some (.int .i64 ((rd_T58 l0 a3).f1)) ∧ w'.cell? ⟨(ad544.add ((a3).toNat * 3)).block,(ad544.add ((a3).toNat * 3)).off + 2,none⟩ = some (.slice (some ad549) ((rd_T58 l0 a3).f2).length c548_2) ∧ w'.cell? (ad549.add (x9_2).toNat) = some (.int .i64 (rd ((rd_T58 l0 a3).f2) x9_2)) ∧ w'.cell? (ad547.add ((rd ((rd_T58 l0 a3).f2) x9_2)).toNat) = some (.int .i64 (rd l1 (rd ((rd_T58 l0 a3).f2) x9_2)))) (ds := []) (bl_ 0 23) (by kernel_rfl) rfl rfl ⟨((HB.out.cell (bwL w _ hw545_0)).trans hw545_0),((HB.out.cell (bwL w _ hw545_1)).trans hw545_1),((HB.out.cell (bwL w _ hw545_2)).trans hw545_2),((HB.out.cell (bwL w _ hw546_0)).trans hw546_0),((HB.out.cell (bwL w _ hw547_0)).trans hw547_0),((HB.out.cell (bwL w _ hw548_0)).trans hw548_0),((HB.out.cell (bwL w _ hw548_1)).trans hw548_1),((HB.out.cell (bwL w _ hw548_2)).trans hw548_2),((HB.out.cell (bwL w _ hw549_0)).trans hw549_0),((HB.out.cell (bwL w _ hw550_0)).trans hw550_0)⟩ (fun hHeld => ?_);refine with_tabW spec_sameClass.tab6 spec_sameClass.bits6 (fun HT_ HW_ => ?_)
        generalize wr.drew = w30 at HB HR545_2 HR548_2 hx545_0 hx545_1 hx545_2 hx546_0 hx547_0 hx548_0 hx548_1 hx548_2 hx549_0 hx550_0 hHeld ⊢
        refine pP 0 41 (bl_ 1 23) ?_ HT_ rfl rfl (by kernel_rfl) (fun _ _ _ h => h) (.inl ⟨by rfl,?_⟩) ?_ ?_ ?_;rotate_left;(intro w';go_simp;with_reducible rfl);rotate_left;(simp only [Act.put,sq_,i64_w,i32_w];rfl)
        refine pP 1 42 (bl_ 3 23) ?_ HT_ rfl rfl (by kernel_rfl) (fun _ _ _ h => h) (.inl ⟨by rfl,?_⟩) ?_ ?_ ?_;rotate_left;(intro w';go_simp;with_reducible rfl);rotate_left;(simp only [Act.put,sq_,i64_w,i32_w];rfl)
        refine pP 2 43 (bl_ 7 23) ?_ HT_ rfl rfl (by kernel_rfl) (fun _ _ _ h => h) (.inl ⟨by rfl,?_⟩) ?_ ?_ ?_;rotate_left;(intro w';go_simp;with_reducible rfl);rotate_left;(simp only [Act.put,sq_,i64_w,i32_w];rfl)
        refine pP 3 44 (bl_ 15 23) ?_ HT_ rfl rfl (by kernel_rfl) (fun _ _ _ h => h) (.inl ⟨by rfl,?_⟩) ?_ ?_ ?_;rotate_left;(intro w';go_simp;with_reducible rfl);rotate_left;(simp only [Act.put,sq_,i64_w,i32_w];rfl)
        refine pP 4 45 (bl_ 31 23) ?_ HT_ rfl rfl (by kernel_rfl) (fun _ _ _ h => h) (.inl ⟨by rfl,?_⟩) ?_ ?_ ?_;rotate_left;(intro w';go_simp;with_reducible rfl);rotate_left;(simp only [Act.put,sq_,i64_w,i32_w];rfl)
        refine pP 6 47 (bl_ 95 23) ?_ HT_ rfl rfl (by kernel_rfl) (fun _ _ _ h => h) (.inl ⟨by rfl,?_⟩) ?_ ?_ ?_;rotate_left;(intro w';go_simp;with_reducible rfl);rotate_left;(simp only [Act.put,sq_,i64_w,i32_w];rfl)
        refine pP 11 52 (bl_ 2143 23) ?_ HT_ rfl rfl (by kernel_rfl) (fun _ _ _ h => h) (.inl ⟨by rfl,?_⟩) ?_ ?_ ?_;rotate_left;(intro w';go_simp;with_reducible rfl);rotate_left;(simp only [Act.put,sq_,i64_w,i32_w];rfl)
        refine pP 12 53 (bl_ 6239 23) ?_ HT_ rfl rfl (by kernel_rfl) (fun _ _ _ h => h) (.inl ⟨by rfl,?_⟩) ?_ ?_ ?_;rotate_left;(intro w';go_simp;with_reducible rfl);rotate_left;(simp only [Act.put,sq_,i64_w,i32_w];rfl)
        refine pP 13 54 (bl_ 14431 23) ?_ HT_ rfl rfl (by kernel_rfl) (fun _ _ _ h => h) (.inl ⟨by rfl,?_⟩) ?_ ?_ ?_;rotate_left;(intro w';go_simp;with_reducible rfl);rotate_left;(simp only [Act.put,sq_,i64_w,i32_w];rfl)
        refine pP 14 55 (bl_ 30815 23) ?_ HT_ rfl rfl (by kernel_rfl) (fun _ _ _ h => h) (.inl ⟨by rfl,?_⟩) ?_ ?_ ?_;rotate_left;(intro w';go_simp;with_reducible rfl);rotate_left;(simp only [Act.put,sq_,i64_w,i32_w];rfl)
        refine pP 15 56 (bl_ 63583 23) ?_ HT_ rfl rfl (by kernel_rfl) (fun _ _ _ h => h) (.inl ⟨by rfl,?_⟩) ?_ ?_ ?_;rotate_left;(intro w';go_simp;with_reducible rfl);rotate_left;(simp only [Act.put,sq_,i64_w,i32_w];rfl)
        refine pP 17 58 (bl_ 194655 23) ?_ HT_ rfl rfl (by kernel_rfl) (fun _ _ _ h => h) (.inl ⟨by rfl,?_⟩) ?_ ?_ ?_;rotate_left;(intro w';go_simp;with_reducible rfl);rotate_left;(simp only [Act.put,sq_,i64_w,i32_w];rfl)
        refine tP 5 46 (bl_ 194687 23) ?_ HT_ HW_ rfl rfl (by kernel_rfl) (fun _ _ _ h => h) (.inl ⟨by rfl,?_⟩) hHeld ?_ ?_ ?_;rotate_left;(rintro w' ⟨s0,s1,s2,s3,s4,s5,s6,s7,s8,s9⟩;go_simp;with_reducible rfl);rotate_left;(simp only [Act.put,sq_,i64_w,i32_w];rfl)
        refine pP 7 48 (bl_ 194815 23) ?_ HT_ rfl rfl (by kernel_rfl) (fun _ _ _ h => h) (.inl ⟨by rfl,?_⟩) ?_ ?_ ?_;rotate_left;(intro w';go_simp;with_reducible rfl);rotate_left;(simp only [Act.put,sq_,i64_w,i32_w];rfl)
        refine tP 8 49 (bl_ 195071 23) ?_ HT_ HW_ rfl rfl (by kernel_rfl) (fun _ _ _ h => h) (.inl ⟨by rfl,?_⟩) hHeld ?_ ?_ ?_;rotate_left;(rintro w' ⟨s0,s1,s2,s3,s4,s5,s6,s7,s8,s9⟩;go_simp;with_reducible rfl);rotate_left;(simp only [Act.put,sq_,i64_w,i32_w];rfl)
        refine pP 9 50 (bl_ 195583 23) ?_ HT_ rfl rfl (by kernel_rfl) (fun _ _ _ h => h) (.inl ⟨by rfl,?_⟩) ?_ ?_ ?_;rotate_left;(intro w';go_simp;with_reducible rfl);rotate_left;(simp only [Act.put,sq_,i64_w,i32_w];rfl)
        refine tP 10 51 (bl_ 196607 23) ?_ HT_ HW_ rfl rfl (by kernel_rfl) (fun _ _ _ h => h) (.inl ⟨by rfl,?_⟩) hHeld ?_ ?_ ?_;rotate_left;(rintro w' ⟨s0,s1,s2,s3,s4,s5,s6,s7,s8,s9⟩;go_simp;with_reducible rfl);rotate_left;(simp only [Act.put,sq_,i64_w,i32_w];rfl)
        refine tP 16 57 (bl_ 262143 23) ?_ HT_ HW_ rfl rfl (by kernel_rfl) (fun _ _ _ h => h) (.inl ⟨by rfl,?_⟩) hHeld ?_ ?_ ?_;rotate_left;(rintro w' ⟨s0,s1,s2,s3,s4,s5,s6,s7,s8,s9⟩;go_simp;with_reducible rfl);rotate_left;(simp only [Act.put,sq_,i64_w,i32_w];rfl)
        refine pP 18 59 (bl_ 524287 23) ?_ HT_ rfl rfl (by kernel_rfl) (fun _ _ _ h => h) (.inl ⟨by rfl,?_⟩) ?_ ?_ ?_;rotate_left;(intro w';go_simp;with_reducible rfl);rotate_left;(simp only [Act.put,sq_,i64_w,i32_w];rfl)
        refine tP 19 60 (bl_ 1048575 23) ?_ HT_ HW_ rfl rfl (by kernel_rfl) (fun _ _ _ h => h) (.inl ⟨by rfl,?_⟩) hHeld ?_ ?_ ?_;rotate_left;(rintro w' ⟨s0,s1,s2,s3,s4,s5,s6,s7,s8,s9⟩;go_simp;with_reducible rfl);rotate_left;(simp only [Act.put,sq_,i64_w,i32_w];rfl)
        refine pP 20 61 (bl_ 2097151 23) ?_ HT_ rfl rfl (by kernel_rfl) (fun _ _ _ h => h) (.inl ⟨by rfl,?_⟩) ?_ ?_ ?_;rotate_left;(intro w';go_simp;with_reducible rfl);rotate_left;(simp only [Act.put,sq_,i64_w,i32_w];rfl)
        refine tP 21 62 (bl_ 4194303 23) ?_ HT_ HW_ rfl rfl (by kernel_rfl) (fun _ _ _ h => h) (.inl ⟨by rfl,?_⟩) hHeld ?_ ?_ ?_;rotate_left;(rintro w' ⟨s0,s1,s2,s3,s4,s5,s6,s7,s8,s9⟩;go_simp;with_reducible rfl);rotate_left;(simp only [Act.put,sq_,i64_w,i32_w];rfl)
        refine pP 22 63 (bl_ 8388607 23) ?_ HT_ rfl rfl (by kernel_rfl) (fun _ _ _ h => h) (.inl ⟨by rfl,?_⟩) ?_ ?_ ?_;rotate_left;(intro w';go_simp;with_reducible rfl);rotate_left;(simp only [Act.put,sq_,i64_w,i32_w];rfl)
        refine done_ (done_of HT_.out (by kernel_rfl)) ?_
        try go_wp2
        go_roundg k2
        case measure => have := HJ4.out;have := HK2.out;omega
        case rel => exact ⟨(wrap64 (x9_2 + 1)),(by first|rfl|(simp;done)|(simp [*];done)),H',⟨by have := HJ4.out;have := HK2.out;omega⟩,⟨by repeat (first|(with_reducible first|exact HB.out|apply bwA|apply bwN|apply bwD)|exact HB.out)⟩⟩
       ·rw [if_neg c29] at H
        have c29b0 : ((rd l1 (rd ((rd_T58 l0 a2).f2) x9_2)) == (rd l1 (rd ((rd_T58 l0 a3).f2) x9_2))) = false := beq_eq_false_iff_ne.mpr c29
        have c29b1 : ((rd l1 (rd ((rd_T58 l0 a2).f2) x9_2)) != (rd l1 (rd ((rd_T58 l0 a3).f2) x9_2))) = true := bne_iff_ne.mpr c29
        obtain rfl := Option.some.inj H
        have p544 : 0 ≤ (a2 : Int) := odT (by first|(with_reducible assumption)|assumption)
        have q544 : a2 < (l0.length : Int) := odT (by first|(with_reducible assumption)|assumption)
        obtain ⟨ad544,A544_2,c544_2,e544,hx544_0,hx544_1,hx544_2,hl544_2,hi544_2⟩ := at_T58 HR0.out a2 p544 q544
        cases e544
        replace hx544_0 := (HB.out.cell (bwL w _ hx544_0)).trans hx544_0
        replace hx544_1 := (HB.out.cell (bwL w _ hx544_1)).trans hx544_1
        replace hx544_2 := (HB.out.cell (bwL w _ hx544_2)).trans hx544_2
        have HR544_2 := As_ hi544_2
        have HC544_2 := As_ hl544_2
        clear hi544_2 hl544_2
        replace p544 := eq_true p544
        replace q544 := eq_true q544
        try go_wp2
        have n0_ := As_ (bwD HB.out)
        clear HB
        have HB := n0_
        clear n0_
        have p545 : 0 ≤ (a2 : Int) := odT (by first|(with_reducible assumption)|assumption)
        have q545 : a2 < (l0.length : Int) := odT (by first|(with_reducible assumption)|assumption)
        obtain ⟨ad545,A545_2,c545_2,e545,hx545_0,hx545_1,hx545_2,hl545_2,hi545_2⟩ := at_T58 HR0.out a2 p545 q545
        have hw545_2 := hx545_2
        have hw545_1 := hx545_1
        have hw545_0 := hx545_0
        obtain rfl : ad544 = ad545 := (by injection e545)
        replace hx545_0 := (HB.out.cell (bwL w _ hx545_0)).trans hx545_0
        replace hx545_1 := (HB.out.cell (bwL w _ hx545_1)).trans hx545_1
        replace hx545_2 := (HB.out.cell (bwL w _ hx545_2)).trans hx545_2
        have HR545_2 := As_ hi545_2
        have HC545_2 := As_ hl545_2
        clear hi545_2 hl545_2
        replace p545 := eq_true p545
        replace q545 := eq_true q545
        have p546 : 0 ≤ (x9_2 : Int) := odT (by first|(with_reducible assumption)|assumption)
        have q546 : x9_2 < (((rd_T58 l0 a2).f2).length : Int) := odT (by first|(with_reducible assumption)|assumption)
        obtain ⟨ad546,e546,hx546_0⟩ := Kd.at_int HR545_2.out x9_2 p546 q546
        have hw546_0 := hx546_0
        cases e546
        replace hx546_0 := (HB.out.cell (bwL w _ hx546_0)).trans hx546_0
        replace p546 := eq_true p546
        replace q546 := eq_true q546
        have p547 : 0 ≤ ((rd ((rd_T58 l0 a2).f2) x9_2) : Int) := odT (by first|(with_reducible assumption)|assumption)
        have q547 : (rd ((rd_T58 l0 a2).f2) x9_2) < (l1.length : Int) := odT (by first|(with_reducible assumption)|assumption)
        obtain ⟨ad547,e547,hx547_0⟩ := Kd.at_int HR1.out (rd ((rd_T58 l0 a2).f2) x9_2) p547 q547
        have hw547_0 := hx547_0
        cases e547
        replace hx547_0 := (HB.out.cell (bwL w _ hx547_0)).trans hx547_0
        replace p547 := eq_true p547
        replace q547 := eq_true q547
        have p548 : 0 ≤ (a3 : Int) := odT (by first|(with_reducible assumption)|assumption)
        have q548 : a3 < (l0.length : Int) := odT (by first|(with_reducible assumption)|assumption)
        obtain ⟨ad548,A548_2,c548_2,e548,hx548_0,hx548_1,hx548_2,hl548_2,hi548_2⟩ := at_T58 HR0.out a3 p548 q548
        have hw548_2 := hx548_2
        have hw548_1 := hx548_1
        have hw548_0 := hx548_0
        obtain rfl : ad544 = ad548 := (by injection e548)
        replace hx548_0 := (HB.out.cell (bwL w _ hx548_0)).trans hx548_0
        replace hx548_1 := (HB.out.cell (bwL w _ hx548_1)).trans hx548_1
        replace hx548_2 := (HB.out.cell (bwL w _ hx548_2)).trans hx548_2
        have HR548_2 := As_ hi548_2
        have HC548_2 := As_ hl548_2
        clear hi548_2 hl548_2
        replace p548 := eq_true p548
        replace q548 := eq_true q548
        have p549 : 0 ≤ (x9_2 : Int) := odT (by first|(with_reducible assumption)|assumption)
        have q549 : x9_2 < (((rd_T58 l0 a3).f2).length : Int) := odT (by first|(with_reducible assumption)|assumption)
        obtain ⟨ad549,e549,hx549_0⟩ := Kd.at_int HR548_2.out x9_2 p549 q549
        have hw549_0 := hx549_0
        cases e549
        replace hx549_0 := (HB.out.cell (bwL w _ hx549_0)).trans hx549_0
        replace p549 := eq_true p549
        replace q549 := eq_true q549
        have p550 : 0 ≤ ((rd ((rd_T58 l0 a3).f2) x9_2) : Int) := odT (by first|(with_reducible assumption)|assumption)
        have q550 : (rd ((rd_T58 l0 a3).f2) x9_2) < (l1.length : Int) := odT (by first|(with_reducible assumption)|assumption)
        obtain ⟨ad550,e550,hx550_0⟩ := Kd.at_int HR1.out (rd ((rd_T58 l0 a3).f2) x9_2) p550 q550
        have hw550_0 := hx550_0
        obtain rfl : ad547 = ad550 := (by injection e550)
        replace hx550_0 := (HB.out.cell (bwL w _ hx550_0)).trans hx550_0
        replace p550 := eq_true p550
        replace q550 := eq_true q550
        refine start_ (n := 23) (S := fun w' => w'.cell? (ad544.add ((a2).toNat * 3)) = some (.int .i64 ((rd_T58 l0 a2).f0)) ∧ w'.cell? ⟨(ad544.add ((a2).toNat * 3)).block,(ad544.add ((a2).toNat * 3)).off + 1,none⟩ = some (.int .i64 ((rd_T58 l0 a2).f1)) ∧ w'.cell? ⟨(ad544.add ((a2).toNat * 3)).block,(ad544.add ((a2).toNat * 3)).off + 2,none⟩ = some (.slice (some ad546) ((rd_T58 l0 a2).f2).length c545_2) ∧ w'.cell? (ad546.add (x9_2).toNat) = some (.int .i64 (rd ((rd_T58 l0 a2).f2) x9_2)) ∧ w'.cell? (ad547.add ((rd ((rd_T58 l0 a2).f2) x9_2)).toNat) = some (.int .i64 (rd l1 (rd ((rd_T58 l0 a2).f2) x9_2))) ∧ w'.cell? (ad544.add ((a3).toNat * 3)) = some (.int .i64 ((rd_T58 l0 a3).f0)) ∧ w'.cell? ⟨(ad544.add ((a3).toNat * 3)).block,(ad544.add ((a3).toNat * 3)).off + 1,none⟩ = some (.int .i64 ((rd_T58 l0 a3).f1)) ∧ w'.cell? ⟨(ad544.add ((a3).toNat * 3)).block,(ad544.add ((a3).toNat * 3)).off + 2,none⟩ = some (.slice (some ad549) ((rd_T58 l0 a3).f2).length c548_2) ∧ w'.cell? (ad549.add (x9_2).toNat) = some (.int .i64 (rd ((rd_T58 l0 a3).f2) x9_2)) ∧ w'.cell? (ad547.add ((rd ((rd_T58 l0 a3).f2) x9_2)).toNat) = some (.int .i64 (rd l1 (rd ((rd_T58 l0 a3).f2) x9_2)))) (ds := []) (bl_ 0 23) (by kernel_rfl) rfl rfl ⟨((HB.out.cell (bwL w _ hw545_0)).trans hw545_0),((HB.out.cell (bwL w _ hw545_1)).trans hw545_1),((HB.out.cell (bwL w _ hw545_2)).trans hw545_2),((HB.out.cell (bwL w _ hw546_0)).trans hw546_0),((HB.out.cell (bwL w _ hw547_0)).trans hw547_0),((HB.out.cell (bwL w _ hw548_0)).trans hw548_0),((HB.out.cell (bwL w _ hw548_1)).trans hw548_1),((HB.out.cell (bwL w _ hw548_2)).trans hw548_2),((HB.out.cell (bwL w _ hw549_0)).trans hw549_0),((HB.out.cell (bwL w _ hw550_0)).trans hw550_0)⟩ (fun hHeld => ?_);refine with_tabW spec_sameClass.tab6 spec_sameClass.bits6 (fun HT_ HW_ => ?_)
        generalize wr.drew = w31 at HB HR545_2 HR548_2 hx545_0 hx545_1 hx545_2 hx546_0 hx547_0 hx548_0 hx548_1 hx548_2 hx549_0 hx550_0 hHeld ⊢
        refine pP 0 41 (bl_ 1 23) ?_ HT_ rfl rfl (by kernel_rfl) (fun _ _ _ h => h) (.inl ⟨by rfl,?_⟩) ?_ ?_ ?_;rotate_left;(intro w';go_simp;with_reducible rfl);rotate_left;(simp only [Act.put,sq_,i64_w,i32_w];rfl)
        refine pP 1 42 (bl_ 3 23) ?_ HT_ rfl rfl (by kernel_rfl) (fun _ _ _ h => h) (.inl ⟨by rfl,?_⟩) ?_ ?_ ?_;rotate_left;(intro w';go_simp;with_reducible rfl);rotate_left;(simp only [Act.put,sq_,i64_w,i32_w];rfl)
        refine pP 2 43 (bl_ 7 23) ?_ HT_ rfl rfl (by kernel_rfl) (fun _ _ _ h => h) (.inl ⟨by rfl,?_⟩) ?_ ?_ ?_;rotate_left;(intro w';go_simp;with_reducible rfl);rotate_left;(simp only [Act.put,sq_,i64_w,i32_w];rfl)
        refine pP 3 44 (bl_ 15 23) ?_ HT_ rfl rfl (by kernel_rfl) (fun _ _ _ h => h) (.inl ⟨by rfl,?_⟩) ?_ ?_ ?_;rotate_left;(intro w';go_simp;with_reducible rfl);rotate_left;(simp only [Act.put,sq_,i64_w,i32_w];rfl)
        refine pP 4 45 (bl_ 31 23) ?_ HT_ rfl rfl (by kernel_rfl) (fun _ _ _ h => h) (.inl ⟨by rfl,?_⟩) ?_ ?_ ?_;rotate_left;(intro w';go_simp;with_reducible rfl);rotate_left;(simp only [Act.put,sq_,i64_w,i32_w];rfl)
        refine pP 6 47 (bl_ 95 23) ?_ HT_ rfl rfl (by kernel_rfl) (fun _ _ _ h => h) (.inl ⟨by rfl,?_⟩) ?_ ?_ ?_;rotate_left;(intro w';go_simp;with_reducible rfl);rotate_left;(simp only [Act.put,sq_,i64_w,i32_w];rfl)
        refine pP 11 52 (bl_ 2143 23) ?_ HT_ rfl rfl (by kernel_rfl) (fun _ _ _ h => h) (.inl ⟨by rfl,?_⟩) ?_ ?_ ?_;rotate_left;(intro w';go_simp;with_reducible rfl);rotate_left;(simp only [Act.put,sq_,i64_w,i32_w];rfl)
        refine pP 12 53 (bl_ 6239 23) ?_ HT_ rfl rfl (by kernel_rfl) (fun _ _ _ h => h) (.inl ⟨by rfl,?_⟩) ?_ ?_ ?_;rotate_left;(intro w';go_simp;with_reducible rfl);rotate_left;(simp only [Act.put,sq_,i64_w,i32_w];rfl)
        refine pP 13 54 (bl_ 14431 23) ?_ HT_ rfl rfl (by kernel_rfl) (fun _ _ _ h => h) (.inl ⟨by rfl,?_⟩) ?_ ?_ ?_;rotate_left;(intro w';go_simp;with_reducible rfl);rotate_left;(simp only [Act.put,sq_,i64_w,i32_w];rfl)
        refine pP 14 55 (bl_ 30815 23) ?_ HT_ rfl rfl (by kernel_rfl) (fun _ _ _ h => h) (.inl ⟨by rfl,?_⟩) ?_ ?_ ?_;rotate_left;(intro w';go_simp;with_reducible rfl);rotate_left;(simp only [Act.put,sq_,i64_w,i32_w];rfl)
        refine pP 15 56 (bl_ 63583 23) ?_ HT_ rfl rfl (by kernel_rfl) (fun _ _ _ h => h) (.inl ⟨by rfl,?_⟩) ?_ ?_ ?_;rotate_left;(intro w';go_simp;with_reducible rfl);rotate_left;(simp only [Act.put,sq_,i64_w,i32_w];rfl)
        refine pP 17 58 (bl_ 194655 23) ?_ HT_ rfl rfl (by kernel_rfl) (fun _ _ _ h => h) (.inl ⟨by rfl,?_⟩) ?_ ?_ ?_;rotate_left;(intro w';go_simp;with_reducible rfl);rotate_left;(simp only [Act.put,sq_,i64_w,i32_w];rfl)
        refine tP 5 46 (bl_ 194687 23) ?_ HT_ HW_ rfl rfl (by kernel_rfl) (fun _ _ _ h => h) (.inl ⟨by rfl,?_⟩) hHeld ?_ ?_ ?_;rotate_left;(rintro w' ⟨s0,s1,s2,s3,s4,s5,s6,s7,s8,s9⟩;go_simp;with_reducible rfl);rotate_left;(simp only [Act.put,sq_,i64_w,i32_w];rfl)
        refine pP 7 48 (bl_ 194815 23) ?_ HT_ rfl rfl (by kernel_rfl) (fun _ _ _ h => h) (.inl ⟨by rfl,?_⟩) ?_ ?_ ?_;rotate_left;(intro w';go_simp;with_reducible rfl);rotate_left;(simp only [Act.put,sq_,i64_w,i32_w];rfl)
        refine tP 8 49 (bl_ 195071 23) ?_ HT_ HW_ rfl rfl (by kernel_rfl) (fun _ _ _ h => h) (.inl ⟨by rfl,?_⟩) hHeld ?_ ?_ ?_;rotate_left;(rintro w' ⟨s0,s1,s2,s3,s4,s5,s6,s7,s8,s9⟩;go_simp;with_reducible rfl);rotate_left;(simp only [Act.put,sq_,i64_w,i32_w];rfl)
        refine pP 9 50 (bl_ 195583 23) ?_ HT_ rfl rfl (by kernel_rfl) (fun _ _ _ h => h) (.inl ⟨by rfl,?_⟩) ?_ ?_ ?_;rotate_left;(intro w';go_simp;with_reducible rfl);rotate_left;(simp only [Act.put,sq_,i64_w,i32_w];rfl)
        refine tP 10 51 (bl_ 196607 23) ?_ HT_ HW_ rfl rfl (by kernel_rfl) (fun _ _ _ h => h) (.inl ⟨by rfl,?_⟩) hHeld ?_ ?_ ?_;rotate_left;(rintro w' ⟨s0,s1,s2,s3,s4,s5,s6,s7,s8,s9⟩;go_simp;with_reducible rfl);rotate_left;(simp only [Act.put,sq_,i64_w,i32_w];rfl)
        refine tP 16 57 (bl_ 262143 23) ?_ HT_ HW_ rfl rfl (by kernel_rfl) (fun _ _ _ h => h) (.inl ⟨by rfl,?_⟩) hHeld ?_ ?_ ?_;rotate_left;(rintro w' ⟨s0,s1,s2,s3,s4,s5,s6,s7,s8,s9⟩;go_simp;with_reducible rfl);rotate_left;(simp only [Act.put,sq_,i64_w,i32_w];rfl)
        refine pP 18 59 (bl_ 524287 23) ?_ HT_ rfl rfl (by kernel_rfl) (fun _ _ _ h => h) (.inl ⟨by rfl,?_⟩) ?_ ?_ ?_;rotate_left;(intro w';go_simp;with_reducible rfl);rotate_left;(simp only [Act.put,sq_,i64_w,i32_w];rfl)
        refine tP 19 60 (bl_ 1048575 23) ?_ HT_ HW_ rfl rfl (by kernel_rfl) (fun _ _ _ h => h) (.inl ⟨by rfl,?_⟩) hHeld ?_ ?_ ?_;rotate_left;(rintro w' ⟨s0,s1,s2,s3,s4,s5,s6,s7,s8,s9⟩;go_simp;with_reducible rfl);rotate_left;(simp only [Act.put,sq_,i64_w,i32_w];rfl)
        refine pP 20 61 (bl_ 2097151 23) ?_ HT_ rfl rfl (by kernel_rfl) (fun _ _ _ h => h) (.inl ⟨by rfl,?_⟩) ?_ ?_ ?_;rotate_left;(intro w';go_simp;with_reducible rfl);rotate_left;(simp only [Act.put,sq_,i64_w,i32_w];rfl)
        refine tP 21 62 (bl_ 4194303 23) ?_ HT_ HW_ rfl rfl (by kernel_rfl) (fun _ _ _ h => h) (.inl ⟨by rfl,?_⟩) hHeld ?_ ?_ ?_;rotate_left;(rintro w' ⟨s0,s1,s2,s3,s4,s5,s6,s7,s8,s9⟩;go_simp;with_reducible rfl);rotate_left;(simp only [Act.put,sq_,i64_w,i32_w];rfl)
        refine pP 22 63 (bl_ 8388607 23) ?_ HT_ rfl rfl (by kernel_rfl) (fun _ _ _ h => h) (.inl ⟨by rfl,?_⟩) ?_ ?_ ?_;rotate_left;(intro w';go_simp;with_reducible rfl);rotate_left;(simp only [Act.put,sq_,i64_w,i32_w];rfl)
        refine done_ (done_of HT_.out (by kernel_rfl)) ?_
        try go_wp2
        go_ret
        exact ⟨by first|rfl|(simp [errW_none,errW_some] <;> rfl)|(simp [*,errW_none,errW_some] <;> rfl),by repeat (first|(with_reducible first|exact HB.out|apply bwA|apply bwN|apply bwD)|exact HB.out)⟩
      ·rw [if_neg c20] at H
       have c20b0 : decide (x9_2 < (((rd_T58 l0 a2).f2).length : Int)) = false := deF c20
       clear c20
       obtain rfl := Option.some.inj H
       have p544 : 0 ≤ (a2 : Int) := odT (by first|(with_reducible assumption)|assumption)
       have q544 : a2 < (l0.length : Int) := odT (by first|(with_reducible assumption)|assumption)
       obtain ⟨ad544,A544_2,c544_2,e544,hx544_0,hx544_1,hx544_2,hl544_2,hi544_2⟩ := at_T58 HR0.out a2 p544 q544
       cases e544
       replace hx544_0 := (HB.out.cell (bwL w _ hx544_0)).trans hx544_0
       replace hx544_1 := (HB.out.cell (bwL w _ hx544_1)).trans hx544_1
       replace hx544_2 := (HB.out.cell (bwL w _ hx544_2)).trans hx544_2
       have HR544_2 := As_ hi544_2
       have HC544_2 := As_ hl544_2
       clear hi544_2 hl544_2
       replace p544 := eq_true p544
       replace q544 := eq_true q544
       go_wp2
       go_ret
       exact ⟨by first|rfl|(simp [errW_none,errW_some] <;> rfl)|(simp [*,errW_none,errW_some] <;> rfl),by repeat (first|(with_reducible first|exact HB.out|apply bwA|apply bwN|apply bwD)|exact HB.out)⟩

end Go.Proofs.Ytapaegcombfafaa.Q
