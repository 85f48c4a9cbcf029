-- Written by wip/tools/qprint.py (a program of this claim's author) by means of the kit's printer.
import Derived.Test.YtfhakhbmbnbneaaQ0
import Derived.Test.YtfhakhbmbnbneaaQ95
namespace Go.Proofs.Ytfhakhbmbnbneaa.Q
open Go.RowKit Go.Proofs.YtfhakhbmbnbneaaW.PrintWords Go.Proofs.YtfhakhbmbnbneaaW.PrintLast Go.Proofs.YtfhakhbmbnbneaaW.PrintMore
attribute [local go_sem] max2_int min2_int max_two min_two max_three min_three max_four min_four   -- for this text's walks alone
set_option linter.unusedVariables false
set_option linter.unusedSimpArgs false

/-! ### spec_sameClass: function 84 -/
mutual
def spec_sameClass.j0 : Nat → List (S45) → List Int → Int → Int → Bool → Option (Bool)
 | 0,_,_,_,_,_ => none
 | k + 1,x0,x1,x2,x3,x30 => if x30 = true then (some false) else (spec_sameClass.l0 k x0 x1 x2 x3 0)
def spec_sameClass.l0 : Nat → List (S45) → List Int → Int → Int → Int → Option (Bool)
 | 0,_,_,_,_,_ => none
 | k + 1,x0,x1,x2,x3,x9 => if 0 ≤ x2 then (if x2 < (x0.length : Int) then (if x9 < (((rd_T45 x0 x2).f2).length : Int) then (if 0 ≤ x9 then (if 0 ≤ (rd ((rd_T45 x0 x2).f2) x9) then (if (rd ((rd_T45 x0 x2).f2) x9) < (x1.length : Int) then (if 0 ≤ x3 then (if x3 < (x0.length : Int) then (if x9 < (((rd_T45 x0 x3).f2).length : Int) then (if 0 ≤ (rd ((rd_T45 x0 x3).f2) x9) then (if (rd ((rd_T45 x0 x3).f2) x9) < (x1.length : Int) then (if (rd x1 (rd ((rd_T45 x0 x2).f2) x9)) = (rd x1 (rd ((rd_T45 x0 x3).f2) x9)) then (spec_sameClass.l0 k x0 x1 x2 x3 (wrap64 (x9 + 1))) else (some false)) else (none)) else (none)) else (none)) else (none)) else (none)) else (none)) else (none)) else (none)) else (some true)) else (none)) else (none)
end
def spec_sameClass.f (k : Nat) (l0 : List (S45)) (l1 : List Int) (a2 : Int) (a3 : Int) : Option (Bool) := if 0 ≤ a2 then (if a2 < (l1.length : Int) then (if 0 ≤ a3 then (if a3 < (l1.length : Int) then (if (rd l1 a2) = (rd l1 a3) then (if a2 < (l0.length : Int) then (if a3 < (l0.length : Int) then ((spec_alike.f ((rd_T45 l0 a2).f0) ((rd_T45 l0 a2).f1) ((rd_T45 l0 a2).f2) ((rd_T45 l0 a3).f0) ((rd_T45 l0 a3).f1) ((rd_T45 l0 a3).f2)).bind fun t203 => (spec_sameClass.j0 k l0 l1 a2 a3 (!t203))) else (none)) else (none)) else (spec_sameClass.j0 k l0 l1 a2 a3 true)) else (none)) else (none)) else (none)) else (none)
set_option maxRecDepth 100000 in
theorem spec_sameClass.mono_l : ∀ k,(∀ y0 y1 y2 y3 y4,LeO (spec_sameClass.j0 k y0 y1 y2 y3 y4) (spec_sameClass.j0 (k + 1) y0 y1 y2 y3 y4)) ∧ (∀ y0 y1 y2 y3 y4,LeO (spec_sameClass.l0 k y0 y1 y2 y3 y4) (spec_sameClass.l0 (k + 1) y0 y1 y2 y3 y4))
 | 0 => ⟨fun _ _ _ _ _ r h => (by cases h),fun _ _ _ _ _ r h => (by cases h)⟩
 | k + 1 => by
  obtain ⟨ih0,ih1⟩ := spec_sameClass.mono_l k
  refine ⟨?_,?_⟩
  ·intro y0 y1 y2 y3 y4
   unfold spec_sameClass.j0
   repeat' first
   | (with_reducible exact ih0 _ _ _ _ _)
   | (with_reducible exact ih1 _ _ _ _ _)
   | (with_reducible exact LeO.refl _)
   | (with_reducible exact LeO.none _)
   | (with_reducible refine LeO.ite ?_ ?_)
   | (with_reducible refine LeO.bind ?_ (fun _ => ?_))
   | exact ih0 _ _ _ _ _
   | exact ih1 _ _ _ _ _
   | exact LeO.none _
   | refine LeO.ite ?_ ?_
   | refine LeO.bind ?_ (fun _ => ?_)
  ·intro y0 y1 y2 y3 y4
   unfold spec_sameClass.l0
   repeat' first
   | (with_reducible exact ih0 _ _ _ _ _)
   | (with_reducible exact ih1 _ _ _ _ _)
   | (with_reducible exact LeO.refl _)
   | (with_reducible exact LeO.none _)
   | (with_reducible refine LeO.ite ?_ ?_)
   | (with_reducible refine LeO.bind ?_ (fun _ => ?_))
   | exact ih0 _ _ _ _ _
   | exact ih1 _ _ _ _ _
   | exact LeO.none _
   | refine LeO.ite ?_ ?_
   | refine LeO.bind ?_ (fun _ => ?_)
set_option maxRecDepth 100000 in
theorem spec_sameClass.mono : ∀ a0 a1 a2 a3 k,LeO (spec_sameClass.f k a0 a1 a2 a3) (spec_sameClass.f (k + 1) a0 a1 a2 a3) := by
 intro a0 a1 a2 a3 k
 obtain ⟨ih0,ih1⟩ := spec_sameClass.mono_l k
 unfold spec_sameClass.f
 repeat' first
   | (with_reducible exact ih0 _ _ _ _ _)
   | (with_reducible exact ih1 _ _ _ _ _)
   | (with_reducible exact LeO.refl _)
   | (with_reducible exact LeO.none _)
   | (with_reducible refine LeO.ite ?_ ?_)
   | (with_reducible refine LeO.bind ?_ (fun _ => ?_))
   | exact ih0 _ _ _ _ _
   | exact ih1 _ _ _ _ _
   | exact LeO.none _
   | refine LeO.ite ?_ ?_
   | refine LeO.bind ?_ (fun _ => ?_)
def spec_sameClass.T1 : Bool × List (List Nat × List Nat) := (true,[([],[]),([],[]),([0,1],[0,1]),([2],[2]),([],[]),([],[]),([4,5],[4,5]),([6],[6]),([3,7],[3,7]),([8],[8]),([9],[9]),([9],[9]),([10,11,9],[9,10,11]),([12,9],[9,12]),([9],[9]),([9],[9]),([14,15,9],[9,14,15]),([16,9],[9,16]),([13,17,9,9],[9,13,17]),([18,9],[9,18]),([9,19],[9,19])])
def spec_sameClass.B1 : List Nat := [0,0,3,7,0,0,48,112,255,511,1023,1023,4095,8191,1023,1023,50175,115711,262143,524287,1048575]
theorem spec_sameClass.tab1 : rtab .any (opsOf Try.f84 1) = spec_sameClass.T1 := by kernel_rfl
theorem spec_sameClass.bits1 : waitsOk spec_sameClass.T1.2 spec_sameClass.B1 = true := by kernel_rfl
def spec_sameClass.T6 : Bool × List (List Nat × List Nat) := (true,[([],[]),([],[]),([],[]),([1,2],[1,2]),([3],[3]),([4],[4]),([],[]),([5,6],[5,6]),([7],[7]),([0,8],[0,8]),([9],[9]),([],[]),([],[]),([],[]),([12,13],[12,13]),([14],[14]),([15],[15]),([],[]),([16,17],[16,17]),([18],[18]),([11,19],[11,19]),([20],[20]),([10,21],[10,21])])
def spec_sameClass.B6 : List Nat := [0,0,0,6,14,30,0,126,254,511,1023,0,0,0,12288,28672,61440,0,258048,520192,1046528,2095104,4194303]
theorem spec_sameClass.tab6 : rtab .any (opsOf Try.f84 6) = spec_sameClass.T6 := by kernel_rfl
theorem spec_sameClass.bits6 : waitsOk spec_sameClass.T6.2 spec_sameClass.B6 = true := by kernel_rfl
set_option maxHeartbeats 8000000 in
set_option maxRecDepth 100000 in
theorem spec_sameClass.calls (k : Nat) (A0 : Option Addr) (c0 : Nat) (l0 : List (S45)) (A1 : Option Addr) (c1 : Nat) (l1 : List Int) (a2 : Int) (a3 : Int) (r : Bool) (w : World) (hr0 : Kd.C k45 w A0 l0.length l0) (hc0 : l0.length ≤ c0) (hr1 : Kd.C (Kd.int .i64) w A1 l1.length l1) (hc1 : l1.length ≤ c1) (h : spec_sameClass.f k l0 l1 a2 a3 = some r) :
  Calls Try.prog 84 #[.slice A0 l0.length c0,.slice A1 l1.length c1,.int .i64 a2,.int .i64 a3] w fun e w' => e = .returned (.bool r) ∧ Below w.heap.size w w' := by
 have hu45 := Try.underlying45
 have HR0 := As_ hr0
 have HC0 := As_ hc0
 clear hr0 hc0
 have HR1 := As_ hr1
 have HC1 := As_ hc1
 clear hr1 hc1
 have HB := As_ (Below.refl w.heap.size w)
 have H : (if 0 ≤ a2 then (if a2 < (l1.length : Int) then (if 0 ≤ a3 then (if a3 < (l1.length : Int) then (if (rd l1 a2) = (rd l1 a3) then (if a2 < (l0.length : Int) then (if a3 < (l0.length : Int) then ((spec_alike.f ((rd_T45 l0 a2).f0) ((rd_T45 l0 a2).f1) ((rd_T45 l0 a2).f2) ((rd_T45 l0 a3).f0) ((rd_T45 l0 a3).f1) ((rd_T45 l0 a3).f2)).bind fun t203 => (spec_sameClass.j0 k l0 l1 a2 a3 (!t203))) else (none)) else (none)) else (spec_sameClass.j0 k l0 l1 a2 a3 true)) else (none)) else (none)) else (none)) else (none)) = some r := h
 clear h
 have HC5 := As_ H
 clear H
 go_enter Try.func84,Try.ntmps84
 go_upto_region 1 with (fail)
 go_cut [30] (fun v30 wc => ∃ (kq : Nat) (x30_4 : Bool),v30 = .bool x30_4 ∧ Aside0 (spec_sameClass.j0 kq l0 l1 a2 a3 x30_4 = some r) ∧ Aside0 (kq ≤ k) ∧ Aside0 (Below w.heap.size w wc))
 case first =>
  have H := HC5.out
  clear HC5
  by_cases c6 : 0 ≤ a2
  rotate_left
  ·rw [if_neg c6] at H
   exact absurd H (by simp)
  rw [if_pos c6] at H
  have c6b0 : decide (0 ≤ a2) = true := deT c6
  clear c6
  (first|rw [c6b0]|(simp only [i64_w,i32_w];rw [c6b0])|skip)
  by_cases c7 : a2 < (l1.length : Int)
  rotate_left
  ·rw [if_neg c7] at H
   exact absurd H (by simp)
  rw [if_pos c7] at H
  have c7b0 : decide (a2 < (l1.length : Int)) = true := deT c7
  clear c7
  by_cases c8 : 0 ≤ a3
  rotate_left
  ·rw [if_neg c8] at H
   exact absurd H (by simp)
  rw [if_pos c8] at H
  have c8b0 : decide (0 ≤ a3) = true := deT c8
  clear c8
  by_cases c9 : a3 < (l1.length : Int)
  rotate_left
  ·rw [if_neg c9] at H
   exact absurd H (by simp)
  rw [if_pos c9] at H
  have c9b0 : decide (a3 < (l1.length : Int)) = true := deT c9
  clear c9
  by_cases c10 : (rd l1 a2) = (rd l1 a3)
  ·rw [if_pos c10] at H
   have c10b0 : ((rd l1 a2) == (rd l1 a3)) = true := beq_iff_eq.mpr c10
   have c10b1 : ((rd l1 a2) != (rd l1 a3)) = false := bne_eq_false_iff_eq.mpr c10
   clear c10
   by_cases c11 : a2 < (l0.length : Int)
   rotate_left
   ·rw [if_neg c11] at H
    exact absurd H (by simp)
   rw [if_pos c11] at H
   have c11b0 : decide (a2 < (l0.length : Int)) = true := deT c11
   clear c11
   by_cases c12 : a3 < (l0.length : Int)
   rotate_left
   ·rw [if_neg c12] at H
    exact absurd H (by simp)
   rw [if_pos c12] at H
   have c12b0 : decide (a3 < (l0.length : Int)) = true := deT c12
   clear c12
   replace H := obS H
   obtain ⟨t203,A130,H⟩ := H
   replace H : (spec_sameClass.j0 k l0 l1 a2 a3 (!t203)) = some r := H
   have A13 := As_ A130
   clear A130
   have H' := As_ H
   clear H
   try go_wp2
   have n0_ := As_ (bwD HB.out)
   clear HB
   have HB := n0_
   clear n0_
   have p199 : 0 ≤ (a2 : Int) := odT zA_
   have q199 : a2 < (l1.length : Int) := odT zA_
   obtain ⟨ad199,e199,hx199_0⟩ := Kd.at_int HR1.out a2 p199 q199
   have hw199_0 := hx199_0
   cases e199
   replace hx199_0 := (HB.out.cell (bwL w _ hx199_0)).trans hx199_0
   replace p199 := eq_true p199
   replace q199 := eq_true q199
   have p200 : 0 ≤ (a3 : Int) := odT zA_
   have q200 : a3 < (l1.length : Int) := odT zA_
   obtain ⟨ad200,e200,hx200_0⟩ := Kd.at_int HR1.out a3 p200 q200
   have hw200_0 := hx200_0
   obtain rfl : ad199 = ad200 := (by injection e200)
   replace hx200_0 := (HB.out.cell (bwL w _ hx200_0)).trans hx200_0
   replace p200 := eq_true p200
   replace q200 := eq_true q200
   have p201 : 0 ≤ (a2 : Int) := odT zA_
   have q201 : a2 < (l0.length : Int) := odT zA_
   obtain ⟨ad201,A201_2,c201_2,e201,hx201_0,hx201_1,hx201_2,hl201_2,hi201_2⟩ := at_T45 HR0.out a2 p201 q201
   have hw201_2 := hx201_2
   have hw201_1 := hx201_1
   have hw201_0 := hx201_0
   cases e201
   replace hx201_0 := (HB.out.cell (bwL w _ hx201_0)).trans hx201_0
   replace hx201_1 := (HB.out.cell (bwL w _ hx201_1)).trans hx201_1
   replace hx201_2 := (HB.out.cell (bwL w _ hx201_2)).trans hx201_2
   have HR201_2 := As_ hi201_2
   have HC201_2 := As_ hl201_2
   clear hi201_2 hl201_2
   replace p201 := eq_true p201
   replace q201 := eq_true q201
   have p202 : 0 ≤ (a3 : Int) := odT zA_
   have q202 : a3 < (l0.length : Int) := odT zA_
   obtain ⟨ad202,A202_2,c202_2,e202,hx202_0,hx202_1,hx202_2,hl202_2,hi202_2⟩ := at_T45 HR0.out a3 p202 q202
   have hw202_2 := hx202_2
   have hw202_1 := hx202_1
   have hw202_0 := hx202_0
   obtain rfl : ad201 = ad202 := (by injection e202)
   replace hx202_0 := (HB.out.cell (bwL w _ hx202_0)).trans hx202_0
   replace hx202_1 := (HB.out.cell (bwL w _ hx202_1)).trans hx202_1
   replace hx202_2 := (HB.out.cell (bwL w _ hx202_2)).trans hx202_2
   have HR202_2 := As_ hi202_2
   have HC202_2 := As_ hl202_2
   clear hi202_2 hl202_2
   replace p202 := eq_true p202
   replace q202 := eq_true q202
   refine start_ (n := 21) (S := fun w' => w'.cell? (ad199.add (a2).toNat) = some (.int .i64 (rd l1 a2)) ∧ w'.cell? (ad199.add (a3).toNat) = some (.int .i64 (rd l1 a3)) ∧ w'.cell? (ad201.add ((a2).toNat * 3)) = some (.int .i64 ((rd_T45 l0 a2).f0)) ∧ w'.cell? ⟨(ad201.add ((a2).toNat * 3)).block,(ad201.add ((a2).toNat * 3)).off + 1,none⟩ = some (.int .i64 ((rd_T45 l0 a2).f1)) ∧ w'.cell? ⟨(ad201.add ((a2).toNat * 3)).block,(ad201.add ((a2).toNat * 3)).off + 2,none⟩ = some (.slice A201_2 ((rd_T45 l0 a2).f2).length c201_2) ∧ w'.cell? (ad201.add ((a3).toNat * 3)) = some (.int .i64 ((rd_T45 l0 a3).f0)) ∧ w'.cell? ⟨(ad201.add ((a3).toNat * 3)).block,(ad201.add ((a3).toNat * 3)).off + 1,none⟩ = some (.int .i64 ((rd_T45 l0 a3).f1)) ∧ w'.cell? ⟨(ad201.add ((a3).toNat * 3)).block,(ad201.add ((a3).toNat * 3)).off + 2,none⟩ = some (.slice A202_2 ((rd_T45 l0 a3).f2).length c202_2)) (ds := []) (bl_ 0 21) (by kernel_rfl) rfl rfl ⟨((HB.out.cell (bwL w _ hw199_0)).trans hw199_0),((HB.out.cell (bwL w _ hw200_0)).trans hw200_0),((HB.out.cell (bwL w _ hw201_0)).trans hw201_0),((HB.out.cell (bwL w _ hw201_1)).trans hw201_1),((HB.out.cell (bwL w _ hw201_2)).trans hw201_2),((HB.out.cell (bwL w _ hw202_0)).trans hw202_0),((HB.out.cell (bwL w _ hw202_1)).trans hw202_1),((HB.out.cell (bwL w _ hw202_2)).trans hw202_2)⟩ (fun hHeld => ?_);refine with_tabW spec_sameClass.tab1 spec_sameClass.bits1 (fun HT_ HW_ => ?_)
   generalize w.drew = w14 at HB HR201_2 HR202_2 hx199_0 hx200_0 hx201_0 hx201_1 hx201_2 hx202_0 hx202_1 hx202_2 hHeld ⊢
   refine pP 0 10 (bl_ 1 21) ?_ HT_ rfl (.inl ⟨by rfl,?_⟩) ?_ ?_ ?_;rotate_left;(intro w';go_simp;with_reducible rfl);rotate_left;(simp only [Act.put,sq_];rfl)
   refine pP 1 11 (bl_ 3 21) ?_ HT_ rfl (.inl ⟨by rfl,?_⟩) ?_ ?_ ?_;rotate_left;(intro w';go_simp;with_reducible rfl);rotate_left;(simp only [Act.put,sq_];rfl)
   refine pP 2 12 (bl_ 7 21) ?_ HT_ rfl (.inl ⟨by rfl,?_⟩) ?_ ?_ ?_;rotate_left;(intro w';go_simp;with_reducible rfl);rotate_left;(simp only [Act.put,sq_];rfl)
   refine pP 4 14 (bl_ 23 21) ?_ HT_ rfl (.inl ⟨by rfl,?_⟩) ?_ ?_ ?_;rotate_left;(intro w';go_simp;with_reducible rfl);rotate_left;(simp only [Act.put,sq_];rfl)
   refine pP 5 15 (bl_ 55 21) ?_ HT_ rfl (.inl ⟨by rfl,?_⟩) ?_ ?_ ?_;rotate_left;(intro w';go_simp;with_reducible rfl);rotate_left;(simp only [Act.put,sq_];rfl)
   refine pP 6 16 (bl_ 119 21) ?_ HT_ rfl (.inl ⟨by rfl,?_⟩) ?_ ?_ ?_;rotate_left;(intro w';go_simp;with_reducible rfl);rotate_left;(simp only [Act.put,sq_];rfl)
   refine tP 3 13 (bl_ 127 21) ?_ HT_ HW_ rfl (.inl ⟨by rfl,?_⟩) hHeld ?_ ?_ ?_;rotate_left;(rintro w' ⟨s0,s1,s2,s3,s4,s5,s6,s7⟩;go_simp;with_reducible rfl);rotate_left;(simp only [Act.put,sq_];rfl)
   refine tP 7 17 (bl_ 255 21) ?_ HT_ HW_ rfl (.inl ⟨by rfl,?_⟩) hHeld ?_ ?_ ?_;rotate_left;(rintro w' ⟨s0,s1,s2,s3,s4,s5,s6,s7⟩;go_simp;with_reducible rfl);rotate_left;(simp only [Act.put,sq_];rfl)
   refine pP 8 18 (bl_ 511 21) ?_ HT_ rfl (.inl ⟨by rfl,?_⟩) ?_ ?_ ?_;rotate_left;(intro w';go_simp;with_reducible rfl);rotate_left;(simp only [Act.put,sq_];rfl)
   refine pP 9 19 (bl_ 1023 21) ?_ HT_ rfl (.inl ⟨by rfl,?_⟩) ?_ ?_ ?_;rotate_left;(intro w';go_simp;with_reducible rfl);rotate_left;(simp only [Act.put,sq_];rfl)
   refine pP 10 20 (bl_ 2047 21) ?_ HT_ rfl (.inl ⟨by rfl,?_⟩) ?_ ?_ ?_;rotate_left;(intro w';go_simp;with_reducible rfl);rotate_left;(simp only [Act.put,sq_];rfl)
   refine pP 11 21 (bl_ 4095 21) ?_ HT_ rfl (.inl ⟨by rfl,?_⟩) ?_ ?_ ?_;rotate_left;(intro w';go_simp;with_reducible rfl);rotate_left;(simp only [Act.put,sq_];rfl)
   refine pP 12 22 (bl_ 8191 21) ?_ HT_ rfl (.inl ⟨by rfl,?_⟩) ?_ ?_ ?_;rotate_left;(intro w';go_simp;with_reducible rfl);rotate_left;(simp only [Act.put,sq_];rfl)
   refine pP 14 24 (bl_ 24575 21) ?_ HT_ rfl (.inl ⟨by rfl,?_⟩) ?_ ?_ ?_;rotate_left;(intro w';go_simp;with_reducible rfl);rotate_left;(simp only [Act.put,sq_];rfl)
   refine pP 15 25 (bl_ 57343 21) ?_ HT_ rfl (.inl ⟨by rfl,?_⟩) ?_ ?_ ?_;rotate_left;(intro w';go_simp;with_reducible rfl);rotate_left;(simp only [Act.put,sq_];rfl)
   refine pP 16 26 (bl_ 122879 21) ?_ HT_ rfl (.inl ⟨by rfl,?_⟩) ?_ ?_ ?_;rotate_left;(intro w';go_simp;with_reducible rfl);rotate_left;(simp only [Act.put,sq_];rfl)
   refine tP 13 23 (bl_ 131071 21) ?_ HT_ HW_ rfl (.inl ⟨by rfl,?_⟩) hHeld ?_ ?_ ?_;rotate_left;(rintro w' ⟨s0,s1,s2,s3,s4,s5,s6,s7⟩;go_simp;with_reducible rfl);rotate_left;(simp only [Act.put,sq_];rfl)
   refine tP 17 27 (bl_ 262143 21) ?_ HT_ HW_ rfl (.inl ⟨by rfl,?_⟩) hHeld ?_ ?_ ?_;rotate_left;(rintro w' ⟨s0,s1,s2,s3,s4,s5,s6,s7⟩;go_simp;with_reducible rfl);rotate_left;(simp only [Act.put,sq_];rfl)
   refine one_ (i := 18) (N := some 28) (bl_ 524287 21) rfl rfl (one_of HT_.out (by kernel_rfl)) (by decide) (fun K hK => ?_)
   refine goes_ Try.func95 (by kernel_rfl) rfl #[.agg #[.int .i64 ((rd_T45 l0 a2).f0),.int .i64 ((rd_T45 l0 a2).f1),.slice A201_2 ((rd_T45 l0 a2).f2).length c201_2],.agg #[.int .i64 ((rd_T45 l0 a3).f0),.int .i64 ((rd_T45 l0 a3).f1),.slice A202_2 ((rd_T45 l0 a3).f2).length c202_2]] (by rfl) rfl rfl zM_ ?_
   with_reducible refine (spec_alike.calls ((rd_T45 l0 a2).f0) ((rd_T45 l0 a2).f1) _ _ ((rd_T45 l0 a2).f2) ((rd_T45 l0 a3).f0) ((rd_T45 l0 a3).f1) _ _ ((rd_T45 l0 a3).f2) t203 _ ?side1 ?side2 ?side3 ?side4 A13.out).mono ?_
   (case side1 => repeat (first|exact (Kd.C_below HR201_2.out HB.out)|(with_reducible refine Kd.C_alloc ?_ _)|(with_reducible refine Kd.C_drewN ?_ _)|(with_reducible refine Kd.C_drew ?_)))
   (case side2 => exact HC201_2.out)
   (case side3 => repeat (first|exact (Kd.C_below HR202_2.out HB.out)|(with_reducible refine Kd.C_alloc ?_ _)|(with_reducible refine Kd.C_drewN ?_ _)|(with_reducible refine Kd.C_drew ?_)))
   (case side4 => exact HC202_2.out)
   rintro e w15 ⟨rfl,hb⟩
   refine ⟨_,rfl,?_⟩
   have n0_ := As_ (bwT (zb0 HB.out) hb)
   clear HB
   have HB := n0_
   clear n0_
   (try clear hb)
   (try clear hb2)
   (try clear hk)
   (try clear hi)
   refine hK.out _ _ ⟨((HB.out.cell (bwL w _ hw199_0)).trans hw199_0),((HB.out.cell (bwL w _ hw200_0)).trans hw200_0),((HB.out.cell (bwL w _ hw201_0)).trans hw201_0),((HB.out.cell (bwL w _ hw201_1)).trans hw201_1),((HB.out.cell (bwL w _ hw201_2)).trans hw201_2),((HB.out.cell (bwL w _ hw202_0)).trans hw202_0),((HB.out.cell (bwL w _ hw202_1)).trans hw202_1),((HB.out.cell (bwL w _ hw202_2)).trans hw202_2)⟩ (fun hHeld => ?_)
   clear hK K
   refine norm_ (a' := ?_) ?_ ?_
   rotate_left
   ·show Act.put _ (some 28) _ = _
    simp only [Act.put,sq_]
    rfl
   refine pP 19 29 (bl_ 1048575 21) ?_ HT_ rfl (.inl ⟨by rfl,?_⟩) ?_ ?_ ?_;rotate_left;(intro w';go_simp;with_reducible rfl);rotate_left;(simp only [Act.put,sq_];rfl)
   refine pP 20 30 (bl_ 2097151 21) ?_ HT_ rfl (.inl ⟨by rfl,?_⟩) ?_ ?_ ?_;rotate_left;(intro w';go_simp;with_reducible rfl);rotate_left;(simp only [Act.put,sq_];rfl)
   refine done_ (done_of HT_.out (by kernel_rfl)) ?_
   try go_wp2
   go_meet
   case rel => exact ⟨_,(!t203),zT_,H',⟨by first|omega|exact Nat.le_refl _⟩,⟨by repeat (first|(with_reducible first|exact HB.out|apply bwA|apply bwN|apply bwD)|exact HB.out)⟩⟩
  ·rw [if_neg c10] at H
   have c10b0 : ((rd l1 a2) == (rd l1 a3)) = false := beq_eq_false_iff_ne.mpr c10
   have c10b1 : ((rd l1 a2) != (rd l1 a3)) = true := bne_iff_ne.mpr c10
   have H' := As_ H
   clear H
   try go_wp2
   have n0_ := As_ (bwD HB.out)
   clear HB
   have HB := n0_
   clear n0_
   have p199 : 0 ≤ (a2 : Int) := odT zA_
   have q199 : a2 < (l1.length : Int) := odT zA_
   obtain ⟨ad199,e199,hx199_0⟩ := Kd.at_int HR1.out a2 p199 q199
   have hw199_0 := hx199_0
   cases e199
   replace hx199_0 := (HB.out.cell (bwL w _ hx199_0)).trans hx199_0
   replace p199 := eq_true p199
   replace q199 := eq_true q199
   have p200 : 0 ≤ (a3 : Int) := odT zA_
   have q200 : a3 < (l1.length : Int) := odT zA_
   obtain ⟨ad200,e200,hx200_0⟩ := Kd.at_int HR1.out a3 p200 q200
   have hw200_0 := hx200_0
   obtain rfl : ad199 = ad200 := (by injection e200)
   replace hx200_0 := (HB.out.cell (bwL w _ hx200_0)).trans hx200_0
   replace p200 := eq_true p200
   replace q200 := eq_true q200
   refine start_ (n := 21) (S := fun w' => w'.cell? (ad199.add (a2).toNat) = some (.int .i64 (rd l1 a2)) ∧ w'.cell? (ad199.add (a3).toNat) = some (.int .i64 (rd l1 a3))) (ds := []) (bl_ 0 21) (by kernel_rfl) rfl rfl ⟨((HB.out.cell (bwL w _ hw199_0)).trans hw199_0),((HB.out.cell (bwL w _ hw200_0)).trans hw200_0)⟩ (fun hHeld => ?_);refine with_tabW spec_sameClass.tab1 spec_sameClass.bits1 (fun HT_ HW_ => ?_)
   generalize w.drew = w16 at HB hx199_0 hx200_0 hHeld ⊢
   refine pP 0 10 (bl_ 1 21) ?_ HT_ rfl (.inl ⟨by rfl,?_⟩) ?_ ?_ ?_;rotate_left;(intro w';go_simp;with_reducible rfl);rotate_left;(simp only [Act.put,sq_];rfl)
   refine pP 1 11 (bl_ 3 21) ?_ HT_ rfl (.inl ⟨by rfl,?_⟩) ?_ ?_ ?_;rotate_left;(intro w';go_simp;with_reducible rfl);rotate_left;(simp only [Act.put,sq_];rfl)
   refine pP 2 12 (bl_ 7 21) ?_ HT_ rfl (.inl ⟨by rfl,?_⟩) ?_ ?_ ?_;rotate_left;(intro w';go_simp;with_reducible rfl);rotate_left;(simp only [Act.put,sq_];rfl)
   refine pP 4 14 (bl_ 23 21) ?_ HT_ rfl (.inl ⟨by rfl,?_⟩) ?_ ?_ ?_;rotate_left;(intro w';go_simp;with_reducible rfl);rotate_left;(simp only [Act.put,sq_];rfl)
   refine pP 5 15 (bl_ 55 21) ?_ HT_ rfl (.inl ⟨by rfl,?_⟩) ?_ ?_ ?_;rotate_left;(intro w';go_simp;with_reducible rfl);rotate_left;(simp only [Act.put,sq_];rfl)
   refine pP 6 16 (bl_ 119 21) ?_ HT_ rfl (.inl ⟨by rfl,?_⟩) ?_ ?_ ?_;rotate_left;(intro w';go_simp;with_reducible rfl);rotate_left;(simp only [Act.put,sq_];rfl)
   refine tP 3 13 (bl_ 127 21) ?_ HT_ HW_ rfl (.inl ⟨by rfl,?_⟩) hHeld ?_ ?_ ?_;rotate_left;(rintro w' ⟨s0,s1⟩;go_simp;with_reducible rfl);rotate_left;(simp only [Act.put,sq_];rfl)
   refine tP 7 17 (bl_ 255 21) ?_ HT_ HW_ rfl (.inl ⟨by rfl,?_⟩) hHeld ?_ ?_ ?_;rotate_left;(rintro w' ⟨s0,s1⟩;go_simp;with_reducible rfl);rotate_left;(simp only [Act.put,sq_];rfl)
   refine pP 8 18 (bl_ 511 21) ?_ HT_ rfl (.inl ⟨by rfl,?_⟩) ?_ ?_ ?_;rotate_left;(intro w';go_simp;with_reducible rfl);rotate_left;(simp only [Act.put,sq_];rfl)
   refine pP 9 19 (bl_ 1023 21) ?_ HT_ rfl (.inl ⟨by rfl,?_⟩) ?_ ?_ ?_;rotate_left;(intro w';go_simp;with_reducible rfl);rotate_left;(simp only [Act.put,sq_];rfl)
   refine uP 10 20 (bl_ 2047 21) ?_ HT_ rfl (.inr ⟨by rfl,rfl⟩) ?_ ?_;rotate_left;(simp only [Act.put,sq_];rfl)
   refine uP 11 21 (bl_ 4095 21) ?_ HT_ rfl (.inr ⟨by rfl,rfl⟩) ?_ ?_;rotate_left;(simp only [Act.put,sq_];rfl)
   refine uP 12 22 (bl_ 8191 21) ?_ HT_ rfl (.inr ⟨by rfl,rfl⟩) ?_ ?_;rotate_left;(simp only [Act.put,sq_];rfl)
   refine uP 13 23 (bl_ 16383 21) ?_ HT_ rfl (.inr ⟨by rfl,rfl⟩) ?_ ?_;rotate_left;(simp only [Act.put,sq_];rfl)
   refine uP 14 24 (bl_ 32767 21) ?_ HT_ rfl (.inr ⟨by rfl,rfl⟩) ?_ ?_;rotate_left;(simp only [Act.put,sq_];rfl)
   refine uP 15 25 (bl_ 65535 21) ?_ HT_ rfl (.inr ⟨by rfl,rfl⟩) ?_ ?_;rotate_left;(simp only [Act.put,sq_];rfl)
   refine uP 16 26 (bl_ 131071 21) ?_ HT_ rfl (.inr ⟨by rfl,rfl⟩) ?_ ?_;rotate_left;(simp only [Act.put,sq_];rfl)
   refine uP 17 27 (bl_ 262143 21) ?_ HT_ rfl (.inr ⟨by rfl,rfl⟩) ?_ ?_;rotate_left;(simp only [Act.put,sq_];rfl)
   refine uP 18 28 (bl_ 524287 21) ?_ HT_ rfl (.inr ⟨by rfl,rfl⟩) ?_ ?_;rotate_left;(simp only [Act.put,sq_];rfl)
   refine uP 19 29 (bl_ 1048575 21) ?_ HT_ rfl (.inr ⟨by rfl,rfl⟩) ?_ ?_;rotate_left;(simp only [Act.put,sq_];rfl)
   refine pP 20 30 (bl_ 2097151 21) ?_ HT_ rfl (.inl ⟨by rfl,?_⟩) ?_ ?_ ?_;rotate_left;(intro w';go_simp;with_reducible rfl);rotate_left;(simp only [Act.put,sq_];rfl)
   refine done_ (done_of HT_.out (by kernel_rfl)) ?_
   try go_wp2
   go_meet
   case rel => exact ⟨_,(true),zT_,H',⟨by first|omega|exact Nat.le_refl _⟩,⟨by repeat (first|(with_reducible first|exact HB.out|apply bwA|apply bwN|apply bwD)|exact HB.out)⟩⟩
 case rest =>
  clear HC5
  try clear c1
  try clear p1
  try clear q1
  try clear hx1
  try clear c2
  try clear p2
  try clear q2
  try clear hx2
  try clear c6
  try clear c6b0
  try clear c7
  try clear c7b0
  try clear c8
  try clear c8b0
  try clear c9
  try clear c9b0
  try clear c10
  try clear c10b0
  try clear c10b1
  try clear c11
  try clear c11b0
  try clear c12
  try clear c12b0
  try clear hx199_0
  try clear hx200_0
  try clear hx201_0
  try clear hx201_1
  try clear hx201_2
  try clear hx202_0
  try clear hx202_1
  try clear hx202_2
  try clear p199
  try clear p200
  try clear p201
  try clear p202
  try clear q199
  try clear q200
  try clear q201
  try clear q202
  obtain ⟨kq,x30_4,rfl,HA,HJ4,HB⟩ := hcut
  cases kq with
  | zero => exact absurd HA.out (fun h_ => (by cases h_))
  | succ kj4 =>
   have H := HA.out
   clear HA
   simp only [spec_sameClass.j0] at H
   by_cases c17 : x30_4 = true
   ·subst c17
    have H1 : (some false) = some r := by rw [if_pos rfl] at H;exact H
    clear H
    have H := H1
    clear H1
    obtain rfl := Option.some.inj H
    go_wp2
    go_ret
    exact ⟨by first|rfl|(simp [errW_none,errW_some] <;> rfl)|(simp [*,errW_none,errW_some] <;> rfl),by repeat (first|(with_reducible first|exact HB.out|apply bwA|apply bwN|apply bwD)|exact HB.out)⟩
   ·replace c17 := Bool.eq_false_iff.mpr c17
    subst c17
    have H1 : (spec_sameClass.l0 kj4 l0 l1 a2 a3 0) = some r := by rw [if_neg (show ¬ (false = true) by decide)] at H;exact H
    clear H
    have H := H1
    clear H1
    have H' := As_ H
    clear H
    go_wp2
    go_loopg [9] kj4 (fun kq v9 w' => ∃ (x9_2 : Int),v9 = .int .i64 x9_2 ∧ Aside0 (spec_sameClass.l0 kq l0 l1 a2 a3 x9_2 = some r) ∧ Aside0 (kq ≤ kj4) ∧ Aside0 (Below w.heap.size w w'))
    case atStart => exact ⟨(0),zT_,H',⟨Nat.le_refl _⟩,⟨by repeat (first|(with_reducible first|exact HB.out|apply bwA|apply bwN|apply bwD)|exact HB.out)⟩⟩
    case round =>
     clear H'
     try clear c1
     try clear p1
     try clear q1
     try clear hx1
     try clear c2
     try clear p2
     try clear q2
     try clear hx2
     try clear c6
     try clear c6b0
     try clear c7
     try clear c7b0
     try clear c8
     try clear c8b0
     try clear c9
     try clear c9b0
     try clear c10
     try clear c10b0
     try clear c10b1
     try clear c11
     try clear c11b0
     try clear c12
     try clear c12b0
     try clear c17
     try clear hx199_0
     try clear hx200_0
     try clear hx201_0
     try clear hx201_1
     try clear hx201_2
     try clear hx202_0
     try clear hx202_1
     try clear hx202_2
     try clear p1
     try clear p199
     try clear p2
     try clear p200
     try clear p201
     try clear p202
     try clear q1
     try clear q199
     try clear q2
     try clear q200
     try clear q201
     try clear q202
     obtain ⟨x9_2,rfl,HA,HK2,HB⟩ := hrel
     cases gk with
     | zero => exact absurd HA.out (fun h_ => (by cases h_))
     | succ k2 =>
      have H := HA.out
      clear HA
      simp only [spec_sameClass.l0] at H
      by_cases c18 : 0 ≤ a2
      rotate_left
      ·rw [if_neg c18] at H
       exact absurd H (by simp)
      rw [if_pos c18] at H
      have c18b0 : decide (0 ≤ a2) = true := deT c18
      clear c18
      by_cases c19 : a2 < (l0.length : Int)
      rotate_left
      ·rw [if_neg c19] at H
       exact absurd H (by simp)
      rw [if_pos c19] at H
      have c19b0 : decide (a2 < (l0.length : Int)) = true := deT c19
      clear c19
      by_cases c20 : x9_2 < (((rd_T45 l0 a2).f2).length : Int)
      ·rw [if_pos c20] at H
       have c20b0 : decide (x9_2 < (((rd_T45 l0 a2).f2).length : Int)) = true := deT c20
       clear c20
       by_cases c21 : 0 ≤ x9_2
       rotate_left
       ·rw [if_neg c21] at H
        exact absurd H (by simp)
       rw [if_pos c21] at H
       have c21b0 : decide (0 ≤ x9_2) = true := deT c21
       clear c21
       by_cases c22 : 0 ≤ (rd ((rd_T45 l0 a2).f2) x9_2)
       rotate_left
       ·rw [if_neg c22] at H
        exact absurd H (by simp)
       rw [if_pos c22] at H
       have c22b0 : decide (0 ≤ (rd ((rd_T45 l0 a2).f2) x9_2)) = true := deT c22
       clear c22
       by_cases c23 : (rd ((rd_T45 l0 a2).f2) x9_2) < (l1.length : Int)
       rotate_left
       ·rw [if_neg c23] at H
        exact absurd H (by simp)
       rw [if_pos c23] at H
       have c23b0 : decide ((rd ((rd_T45 l0 a2).f2) x9_2) < (l1.length : Int)) = true := deT c23
       clear c23
       by_cases c24 : 0 ≤ a3
       rotate_left
       ·rw [if_neg c24] at H
        exact absurd H (by simp)
       rw [if_pos c24] at H
       have c24b0 : decide (0 ≤ a3) = true := deT c24
       clear c24
       by_cases c25 : a3 < (l0.length : Int)
       rotate_left
       ·rw [if_neg c25] at H
        exact absurd H (by simp)
       rw [if_pos c25] at H
       have c25b0 : decide (a3 < (l0.length : Int)) = true := deT c25
       clear c25
       by_cases c26 : x9_2 < (((rd_T45 l0 a3).f2).length : Int)
       rotate_left
       ·rw [if_neg c26] at H
        exact absurd H (by simp)
       rw [if_pos c26] at H
       have c26b0 : decide (x9_2 < (((rd_T45 l0 a3).f2).length : Int)) = true := deT c26
       clear c26
       by_cases c27 : 0 ≤ (rd ((rd_T45 l0 a3).f2) x9_2)
       rotate_left
       ·rw [if_neg c27] at H
        exact absurd H (by simp)
       rw [if_pos c27] at H
       have c27b0 : decide (0 ≤ (rd ((rd_T45 l0 a3).f2) x9_2)) = true := deT c27
       clear c27
       by_cases c28 : (rd ((rd_T45 l0 a3).f2) x9_2) < (l1.length : Int)
       rotate_left
       ·rw [if_neg c28] at H
        exact absurd H (by simp)
       rw [if_pos c28] at H
       have c28b0 : decide ((rd ((rd_T45 l0 a3).f2) x9_2) < (l1.length : Int)) = true := deT c28
       clear c28
       by_cases c29 : (rd l1 (rd ((rd_T45 l0 a2).f2) x9_2)) = (rd l1 (rd ((rd_T45 l0 a3).f2) x9_2))
       ·rw [if_pos c29] at H
        have c29b0 : ((rd l1 (rd ((rd_T45 l0 a2).f2) x9_2)) == (rd l1 (rd ((rd_T45 l0 a3).f2) x9_2))) = true := beq_iff_eq.mpr c29
        have c29b1 : ((rd l1 (rd ((rd_T45 l0 a2).f2) x9_2)) != (rd l1 (rd ((rd_T45 l0 a3).f2) x9_2))) = false := bne_eq_false_iff_eq.mpr c29
        clear c29
        have H' := As_ H
        clear H
        have p204 : 0 ≤ (a2 : Int) := odT zA_
        have q204 : a2 < (l0.length : Int) := odT zA_
        obtain ⟨ad204,A204_2,c204_2,e204,hx204_0,hx204_1,hx204_2,hl204_2,hi204_2⟩ := at_T45 HR0.out a2 p204 q204
        cases e204
        replace hx204_0 := (HB.out.cell (bwL w _ hx204_0)).trans hx204_0
        replace hx204_1 := (HB.out.cell (bwL w _ hx204_1)).trans hx204_1
        replace hx204_2 := (HB.out.cell (bwL w _ hx204_2)).trans hx204_2
        have HR204_2 := As_ hi204_2
        have HC204_2 := As_ hl204_2
        clear hi204_2 hl204_2
        replace p204 := eq_true p204
        replace q204 := eq_true q204
        try go_wp2
        have n0_ := As_ (bwD HB.out)
        clear HB
        have HB := n0_
        clear n0_
        have p205 : 0 ≤ (a2 : Int) := odT zA_
        have q205 : a2 < (l0.length : Int) := odT zA_
        obtain ⟨ad205,A205_2,c205_2,e205,hx205_0,hx205_1,hx205_2,hl205_2,hi205_2⟩ := at_T45 HR0.out a2 p205 q205
        have hw205_2 := hx205_2
        have hw205_1 := hx205_1
        have hw205_0 := hx205_0
        obtain rfl : ad204 = ad205 := (by injection e205)
        replace hx205_0 := (HB.out.cell (bwL w _ hx205_0)).trans hx205_0
        replace hx205_1 := (HB.out.cell (bwL w _ hx205_1)).trans hx205_1
        replace hx205_2 := (HB.out.cell (bwL w _ hx205_2)).trans hx205_2
        have HR205_2 := As_ hi205_2
        have HC205_2 := As_ hl205_2
        clear hi205_2 hl205_2
        replace p205 := eq_true p205
        replace q205 := eq_true q205
        have p206 : 0 ≤ (x9_2 : Int) := odT zA_
        have q206 : x9_2 < (((rd_T45 l0 a2).f2).length : Int) := odT zA_
        obtain ⟨ad206,e206,hx206_0⟩ := Kd.at_int HR205_2.out x9_2 p206 q206
        have hw206_0 := hx206_0
        cases e206
        replace hx206_0 := (HB.out.cell (bwL w _ hx206_0)).trans hx206_0
        replace p206 := eq_true p206
        replace q206 := eq_true q206
        have p207 : 0 ≤ ((rd ((rd_T45 l0 a2).f2) x9_2) : Int) := odT zA_
        have q207 : (rd ((rd_T45 l0 a2).f2) x9_2) < (l1.length : Int) := odT zA_
        obtain ⟨ad207,e207,hx207_0⟩ := Kd.at_int HR1.out (rd ((rd_T45 l0 a2).f2) x9_2) p207 q207
        have hw207_0 := hx207_0
        cases e207
        replace hx207_0 := (HB.out.cell (bwL w _ hx207_0)).trans hx207_0
        replace p207 := eq_true p207
        replace q207 := eq_true q207
        have p208 : 0 ≤ (a3 : Int) := odT zA_
        have q208 : a3 < (l0.length : Int) := odT zA_
        obtain ⟨ad208,A208_2,c208_2,e208,hx208_0,hx208_1,hx208_2,hl208_2,hi208_2⟩ := at_T45 HR0.out a3 p208 q208
        have hw208_2 := hx208_2
        have hw208_1 := hx208_1
        have hw208_0 := hx208_0
        obtain rfl : ad204 = ad208 := (by injection e208)
        replace hx208_0 := (HB.out.cell (bwL w _ hx208_0)).trans hx208_0
        replace hx208_1 := (HB.out.cell (bwL w _ hx208_1)).trans hx208_1
        replace hx208_2 := (HB.out.cell (bwL w _ hx208_2)).trans hx208_2
        have HR208_2 := As_ hi208_2
        have HC208_2 := As_ hl208_2
        clear hi208_2 hl208_2
        replace p208 := eq_true p208
        replace q208 := eq_true q208
        have p209 : 0 ≤ (x9_2 : Int) := odT zA_
        have q209 : x9_2 < (((rd_T45 l0 a3).f2).length : Int) := odT zA_
        obtain ⟨ad209,e209,hx209_0⟩ := Kd.at_int HR208_2.out x9_2 p209 q209
        have hw209_0 := hx209_0
        cases e209
        replace hx209_0 := (HB.out.cell (bwL w _ hx209_0)).trans hx209_0
        replace p209 := eq_true p209
        replace q209 := eq_true q209
        have p210 : 0 ≤ ((rd ((rd_T45 l0 a3).f2) x9_2) : Int) := odT zA_
        have q210 : (rd ((rd_T45 l0 a3).f2) x9_2) < (l1.length : Int) := odT zA_
        obtain ⟨ad210,e210,hx210_0⟩ := Kd.at_int HR1.out (rd ((rd_T45 l0 a3).f2) x9_2) p210 q210
        have hw210_0 := hx210_0
        obtain rfl : ad207 = ad210 := (by injection e210)
        replace hx210_0 := (HB.out.cell (bwL w _ hx210_0)).trans hx210_0
        replace p210 := eq_true p210
        replace q210 := eq_true q210
        refine start_ (n := 23) (S := fun w' => w'.cell? (ad204.add ((a2).toNat * 3)) = some (.int .i64 ((rd_T45 l0 a2).f0)) ∧ w'.cell? ⟨(ad204.add ((a2).toNat * 3)).block,(ad204.add ((a2).toNat * 3)).off + 1,none⟩ = some (.int .i64 ((rd_T45 l0 a2).f1)) ∧ w'.cell? ⟨(ad204.add ((a2).toNat * 3)).block,(ad204.add ((a2).toNat * 3)).off + 2,none⟩ = some (.slice (some ad206) ((rd_T45 l0 a2).f2).length c205_2) ∧ w'.cell? (ad206.add (x9_2).toNat) = some (.int .i64 (rd ((rd_T45 l0 a2).f2) x9_2)) ∧ w'.cell? (ad207.add ((rd ((rd_T45 l0 a2).f2) x9_2)).toNat) = some (.int .i64 (rd l1 (rd ((rd_T45 l0 a2).f2) x9_2))) ∧ w'.cell? (ad204.add ((a3).toNat * 3)) = some (.int .i64 ((rd_T45 l0 a3).f0)) ∧ w'.cell? ⟨(ad204.add ((a3).toNat * 3)).block,(ad204.add ((a3).toNat * 3)).off + 1,none⟩ = some (.int .i64 ((rd_T45 l0 a3).f1)) ∧ w'.cell? ⟨(ad204.add ((a3).toNat * 3)).block,(ad204.add ((a3).toNat * 3)).off + 2,none⟩ = some (.slice (some ad209) ((rd_T45 l0 a3).f2).length c208_2) ∧ w'.cell? (ad209.add (x9_2).toNat) = some (.int .i64 (rd ((rd_T45 l0 a3).f2) x9_2)) ∧ w'.cell? (ad207.add ((rd ((rd_T45 l0 a3).f2) x9_2)).toNat) = some (.int .i64 (rd l1 (rd ((rd_T45 l0 a3).f2) x9_2)))) (ds := []) (bl_ 0 23) (by kernel_rfl) rfl rfl ⟨((HB.out.cell (bwL w _ hw205_0)).trans hw205_0),((HB.out.cell (bwL w _ hw205_1)).trans hw205_1),((HB.out.cell (bwL w _ hw205_2)).trans hw205_2),((HB.out.cell (bwL w _ hw206_0)).trans hw206_0),((HB.out.cell (bwL w _ hw207_0)).trans hw207_0),((HB.out.cell (bwL w _ hw208_0)).trans hw208_0),((HB.out.cell (bwL w _ hw208_1)).trans hw208_1),((HB.out.cell (bwL w _ hw208_2)).trans hw208_2),((HB.out.cell (bwL w _ hw209_0)).trans hw209_0),((HB.out.cell (bwL w _ hw210_0)).trans hw210_0)⟩ (fun hHeld => ?_);refine with_tabW spec_sameClass.tab6 spec_sameClass.bits6 (fun HT_ HW_ => ?_)
        generalize wr.drew = w30 at HB HR205_2 HR208_2 hx205_0 hx205_1 hx205_2 hx206_0 hx207_0 hx208_0 hx208_1 hx208_2 hx209_0 hx210_0 hHeld ⊢
        refine pP 0 41 (bl_ 1 23) ?_ HT_ rfl (.inl ⟨by rfl,?_⟩) ?_ ?_ ?_;rotate_left;(intro w';go_simp;with_reducible rfl);rotate_left;(simp only [Act.put,sq_];rfl)
        refine pP 1 42 (bl_ 3 23) ?_ HT_ rfl (.inl ⟨by rfl,?_⟩) ?_ ?_ ?_;rotate_left;(intro w';go_simp;with_reducible rfl);rotate_left;(simp only [Act.put,sq_];rfl)
        refine pP 2 43 (bl_ 7 23) ?_ HT_ rfl (.inl ⟨by rfl,?_⟩) ?_ ?_ ?_;rotate_left;(intro w';go_simp;with_reducible rfl);rotate_left;(simp only [Act.put,sq_];rfl)
        refine pP 3 44 (bl_ 15 23) ?_ HT_ rfl (.inl ⟨by rfl,?_⟩) ?_ ?_ ?_;rotate_left;(intro w';go_simp;with_reducible rfl);rotate_left;(simp only [Act.put,sq_];rfl)
        refine pP 4 45 (bl_ 31 23) ?_ HT_ rfl (.inl ⟨by rfl,?_⟩) ?_ ?_ ?_;rotate_left;(intro w';go_simp;with_reducible rfl);rotate_left;(simp only [Act.put,sq_];rfl)
        refine pP 6 47 (bl_ 95 23) ?_ HT_ rfl (.inl ⟨by rfl,?_⟩) ?_ ?_ ?_;rotate_left;(intro w';go_simp;with_reducible rfl);rotate_left;(simp only [Act.put,sq_];rfl)
        refine pP 11 52 (bl_ 2143 23) ?_ HT_ rfl (.inl ⟨by rfl,?_⟩) ?_ ?_ ?_;rotate_left;(intro w';go_simp;with_reducible rfl);rotate_left;(simp only [Act.put,sq_];rfl)
        refine pP 12 53 (bl_ 6239 23) ?_ HT_ rfl (.inl ⟨by rfl,?_⟩) ?_ ?_ ?_;rotate_left;(intro w';go_simp;with_reducible rfl);rotate_left;(simp only [Act.put,sq_];rfl)
        refine pP 13 54 (bl_ 14431 23) ?_ HT_ rfl (.inl ⟨by rfl,?_⟩) ?_ ?_ ?_;rotate_left;(intro w';go_simp;with_reducible rfl);rotate_left;(simp only [Act.put,sq_];rfl)
        refine pP 14 55 (bl_ 30815 23) ?_ HT_ rfl (.inl ⟨by rfl,?_⟩) ?_ ?_ ?_;rotate_left;(intro w';go_simp;with_reducible rfl);rotate_left;(simp only [Act.put,sq_];rfl)
        refine pP 15 56 (bl_ 63583 23) ?_ HT_ rfl (.inl ⟨by rfl,?_⟩) ?_ ?_ ?_;rotate_left;(intro w';go_simp;with_reducible rfl);rotate_left;(simp only [Act.put,sq_];rfl)
        refine pP 17 58 (bl_ 194655 23) ?_ HT_ rfl (.inl ⟨by rfl,?_⟩) ?_ ?_ ?_;rotate_left;(intro w';go_simp;with_reducible rfl);rotate_left;(simp only [Act.put,sq_];rfl)
        refine tP 5 46 (bl_ 194687 23) ?_ HT_ HW_ rfl (.inl ⟨by rfl,?_⟩) hHeld ?_ ?_ ?_;rotate_left;(rintro w' ⟨s0,s1,s2,s3,s4,s5,s6,s7,s8,s9⟩;go_simp;with_reducible rfl);rotate_left;(simp only [Act.put,sq_];rfl)
        refine pP 7 48 (bl_ 194815 23) ?_ HT_ rfl (.inl ⟨by rfl,?_⟩) ?_ ?_ ?_;rotate_left;(intro w';go_simp;with_reducible rfl);rotate_left;(simp only [Act.put,sq_];rfl)
        refine tP 8 49 (bl_ 195071 23) ?_ HT_ HW_ rfl (.inl ⟨by rfl,?_⟩) hHeld ?_ ?_ ?_;rotate_left;(rintro w' ⟨s0,s1,s2,s3,s4,s5,s6,s7,s8,s9⟩;go_simp;with_reducible rfl);rotate_left;(simp only [Act.put,sq_];rfl)
        refine pP 9 50 (bl_ 195583 23) ?_ HT_ rfl (.inl ⟨by rfl,?_⟩) ?_ ?_ ?_;rotate_left;(intro w';go_simp;with_reducible rfl);rotate_left;(simp only [Act.put,sq_];rfl)
        refine tP 10 51 (bl_ 196607 23) ?_ HT_ HW_ rfl (.inl ⟨by rfl,?_⟩) hHeld ?_ ?_ ?_;rotate_left;(rintro w' ⟨s0,s1,s2,s3,s4,s5,s6,s7,s8,s9⟩;go_simp;with_reducible rfl);rotate_left;(simp only [Act.put,sq_];rfl)
        refine tP 16 57 (bl_ 262143 23) ?_ HT_ HW_ rfl (.inl ⟨by rfl,?_⟩) hHeld ?_ ?_ ?_;rotate_left;(rintro w' ⟨s0,s1,s2,s3,s4,s5,s6,s7,s8,s9⟩;go_simp;with_reducible rfl);rotate_left;(simp only [Act.put,sq_];rfl)
        refine pP 18 59 (bl_ 524287 23) ?_ HT_ rfl (.inl ⟨by rfl,?_⟩) ?_ ?_ ?_;rotate_left;(intro w';go_simp;with_reducible rfl);rotate_left;(simp only [Act.put,sq_];rfl)
        refine tP 19 60 (bl_ 1048575 23) ?_ HT_ HW_ rfl (.inl ⟨by rfl,?_⟩) hHeld ?_ ?_ ?_;rotate_left;(rintro w' ⟨s0,s1,s2,s3,s4,s5,s6,s7,s8,s9⟩;go_simp;with_reducible rfl);rotate_left;(simp only [Act.put,sq_];rfl)
        refine pP 20 61 (bl_ 2097151 23) ?_ HT_ rfl (.inl ⟨by rfl,?_⟩) ?_ ?_ ?_;rotate_left;(intro w';go_simp;with_reducible rfl);rotate_left;(simp only [Act.put,sq_];rfl)
        refine tP 21 62 (bl_ 4194303 23) ?_ HT_ HW_ rfl (.inl ⟨by rfl,?_⟩) hHeld ?_ ?_ ?_;rotate_left;(rintro w' ⟨s0,s1,s2,s3,s4,s5,s6,s7,s8,s9⟩;go_simp;with_reducible rfl);rotate_left;(simp only [Act.put,sq_];rfl)
        refine pP 22 63 (bl_ 8388607 23) ?_ HT_ rfl (.inl ⟨by rfl,?_⟩) ?_ ?_ ?_;rotate_left;(intro w';go_simp;with_reducible rfl);rotate_left;(simp only [Act.put,sq_];rfl)
        refine done_ (done_of HT_.out (by kernel_rfl)) ?_
        try go_wp2
        go_roundg k2
        case measure => have := HJ4.out;have := HK2.out;omega
        case rel => exact ⟨(wrap64 (x9_2 + 1)),zT_,H',⟨by have := HJ4.out;have := HK2.out;omega⟩,⟨by repeat (first|(with_reducible first|exact HB.out|apply bwA|apply bwN|apply bwD)|exact HB.out)⟩⟩
       ·rw [if_neg c29] at H
        have c29b0 : ((rd l1 (rd ((rd_T45 l0 a2).f2) x9_2)) == (rd l1 (rd ((rd_T45 l0 a3).f2) x9_2))) = false := beq_eq_false_iff_ne.mpr c29
        have c29b1 : ((rd l1 (rd ((rd_T45 l0 a2).f2) x9_2)) != (rd l1 (rd ((rd_T45 l0 a3).f2) x9_2))) = true := bne_iff_ne.mpr c29
        obtain rfl := Option.some.inj H
        have p204 : 0 ≤ (a2 : Int) := odT zA_
        have q204 : a2 < (l0.length : Int) := odT zA_
        obtain ⟨ad204,A204_2,c204_2,e204,hx204_0,hx204_1,hx204_2,hl204_2,hi204_2⟩ := at_T45 HR0.out a2 p204 q204
        cases e204
        replace hx204_0 := (HB.out.cell (bwL w _ hx204_0)).trans hx204_0
        replace hx204_1 := (HB.out.cell (bwL w _ hx204_1)).trans hx204_1
        replace hx204_2 := (HB.out.cell (bwL w _ hx204_2)).trans hx204_2
        have HR204_2 := As_ hi204_2
        have HC204_2 := As_ hl204_2
        clear hi204_2 hl204_2
        replace p204 := eq_true p204
        replace q204 := eq_true q204
        try go_wp2
        have n0_ := As_ (bwD HB.out)
        clear HB
        have HB := n0_
        clear n0_
        have p205 : 0 ≤ (a2 : Int) := odT zA_
        have q205 : a2 < (l0.length : Int) := odT zA_
        obtain ⟨ad205,A205_2,c205_2,e205,hx205_0,hx205_1,hx205_2,hl205_2,hi205_2⟩ := at_T45 HR0.out a2 p205 q205
        have hw205_2 := hx205_2
        have hw205_1 := hx205_1
        have hw205_0 := hx205_0
        obtain rfl : ad204 = ad205 := (by injection e205)
        replace hx205_0 := (HB.out.cell (bwL w _ hx205_0)).trans hx205_0
        replace hx205_1 := (HB.out.cell (bwL w _ hx205_1)).trans hx205_1
        replace hx205_2 := (HB.out.cell (bwL w _ hx205_2)).trans hx205_2
        have HR205_2 := As_ hi205_2
        have HC205_2 := As_ hl205_2
        clear hi205_2 hl205_2
        replace p205 := eq_true p205
        replace q205 := eq_true q205
        have p206 : 0 ≤ (x9_2 : Int) := odT zA_
        have q206 : x9_2 < (((rd_T45 l0 a2).f2).length : Int) := odT zA_
        obtain ⟨ad206,e206,hx206_0⟩ := Kd.at_int HR205_2.out x9_2 p206 q206
        have hw206_0 := hx206_0
        cases e206
        replace hx206_0 := (HB.out.cell (bwL w _ hx206_0)).trans hx206_0
        replace p206 := eq_true p206
        replace q206 := eq_true q206
        have p207 : 0 ≤ ((rd ((rd_T45 l0 a2).f2) x9_2) : Int) := odT zA_
        have q207 : (rd ((rd_T45 l0 a2).f2) x9_2) < (l1.length : Int) := odT zA_
        obtain ⟨ad207,e207,hx207_0⟩ := Kd.at_int HR1.out (rd ((rd_T45 l0 a2).f2) x9_2) p207 q207
        have hw207_0 := hx207_0
        cases e207
        replace hx207_0 := (HB.out.cell (bwL w _ hx207_0)).trans hx207_0
        replace p207 := eq_true p207
        replace q207 := eq_true q207
        have p208 : 0 ≤ (a3 : Int) := odT zA_
        have q208 : a3 < (l0.length : Int) := odT zA_
        obtain ⟨ad208,A208_2,c208_2,e208,hx208_0,hx208_1,hx208_2,hl208_2,hi208_2⟩ := at_T45 HR0.out a3 p208 q208
        have hw208_2 := hx208_2
        have hw208_1 := hx208_1
        have hw208_0 := hx208_0
        obtain rfl : ad204 = ad208 := (by injection e208)
        replace hx208_0 := (HB.out.cell (bwL w _ hx208_0)).trans hx208_0
        replace hx208_1 := (HB.out.cell (bwL w _ hx208_1)).trans hx208_1
        replace hx208_2 := (HB.out.cell (bwL w _ hx208_2)).trans hx208_2
        have HR208_2 := As_ hi208_2
        have HC208_2 := As_ hl208_2
        clear hi208_2 hl208_2
        replace p208 := eq_true p208
        replace q208 := eq_true q208
        have p209 : 0 ≤ (x9_2 : Int) := odT zA_
        have q209 : x9_2 < (((rd_T45 l0 a3).f2).length : Int) := odT zA_
        obtain ⟨ad209,e209,hx209_0⟩ := Kd.at_int HR208_2.out x9_2 p209 q209
        have hw209_0 := hx209_0
        cases e209
        replace hx209_0 := (HB.out.cell (bwL w _ hx209_0)).trans hx209_0
        replace p209 := eq_true p209
        replace q209 := eq_true q209
        have p210 : 0 ≤ ((rd ((rd_T45 l0 a3).f2) x9_2) : Int) := odT zA_
        have q210 : (rd ((rd_T45 l0 a3).f2) x9_2) < (l1.length : Int) := odT zA_
        obtain ⟨ad210,e210,hx210_0⟩ := Kd.at_int HR1.out (rd ((rd_T45 l0 a3).f2) x9_2) p210 q210
        have hw210_0 := hx210_0
        obtain rfl : ad207 = ad210 := (by injection e210)
        replace hx210_0 := (HB.out.cell (bwL w _ hx210_0)).trans hx210_0
        replace p210 := eq_true p210
        replace q210 := eq_true q210
        refine start_ (n := 23) (S := fun w' => w'.cell? (ad204.add ((a2).toNat * 3)) = some (.int .i64 ((rd_T45 l0 a2).f0)) ∧ w'.cell? ⟨(ad204.add ((a2).toNat * 3)).block,(ad204.add ((a2).toNat * 3)).off + 1,none⟩ = some (.int .i64 ((rd_T45 l0 a2).f1)) ∧ w'.cell? ⟨(ad204.add ((a2).toNat * 3)).block,(ad204.add ((a2).toNat * 3)).off + 2,none⟩ = some (.slice (some ad206) ((rd_T45 l0 a2).f2).length c205_2) ∧ w'.cell? (ad206.add (x9_2).toNat) = some (.int .i64 (rd ((rd_T45 l0 a2).f2) x9_2)) ∧ w'.cell? (ad207.add ((rd ((rd_T45 l0 a2).f2) x9_2)).toNat) = some (.int .i64 (rd l1 (rd ((rd_T45 l0 a2).f2) x9_2))) ∧ w'.cell? (ad204.add ((a3).toNat * 3)) = some (.int .i64 ((rd_T45 l0 a3).f0)) ∧ w'.cell? ⟨(ad204.add ((a3).toNat * 3)).block,(ad204.add ((a3).toNat * 3)).off + 1,none⟩ = some (.int .i64 ((rd_T45 l0 a3).f1)) ∧ w'.cell? ⟨(ad204.add ((a3).toNat * 3)).block,(ad204.add ((a3).toNat * 3)).off + 2,none⟩ = some (.slice (some ad209) ((rd_T45 l0 a3).f2).length c208_2) ∧ w'.cell? (ad209.add (x9_2).toNat) = some (.int .i64 (rd ((rd_T45 l0 a3).f2) x9_2)) ∧ w'.cell? (ad207.add ((rd ((rd_T45 l0 a3).f2) x9_2)).toNat) = some (.int .i64 (rd l1 (rd ((rd_T45 l0 a3).f2) x9_2)))) (ds := []) (bl_ 0 23) (by kernel_rfl) rfl rfl ⟨((HB.out.cell (bwL w _ hw205_0)).trans hw205_0),((HB.out.cell (bwL w _ hw205_1)).trans hw205_1),((HB.out.cell (bwL w _ hw205_2)).trans hw205_2),((HB.out.cell (bwL w _ hw206_0)).trans hw206_0),((HB.out.cell (bwL w _ hw207_0)).trans hw207_0),((HB.out.cell (bwL w _ hw208_0)).trans hw208_0),((HB.out.cell (bwL w _ hw208_1)).trans hw208_1),((HB.out.cell (bwL w _ hw208_2)).trans hw208_2),((HB.out.cell (bwL w _ hw209_0)).trans hw209_0),((HB.out.cell (bwL w _ hw210_0)).trans hw210_0)⟩ (fun hHeld => ?_);refine with_tabW spec_sameClass.tab6 spec_sameClass.bits6 (fun HT_ HW_ => ?_)
        generalize wr.drew = w31 at HB HR205_2 HR208_2 hx205_0 hx205_1 hx205_2 hx206_0 hx207_0 hx208_0 hx208_1 hx208_2 hx209_0 hx210_0 hHeld ⊢
        refine pP 0 41 (bl_ 1 23) ?_ HT_ rfl (.inl ⟨by rfl,?_⟩) ?_ ?_ ?_;rotate_left;(intro w';go_simp;with_reducible rfl);rotate_left;(simp only [Act.put,sq_];rfl)
        refine pP 1 42 (bl_ 3 23) ?_ HT_ rfl (.inl ⟨by rfl,?_⟩) ?_ ?_ ?_;rotate_left;(intro w';go_simp;with_reducible rfl);rotate_left;(simp only [Act.put,sq_];rfl)
        refine pP 2 43 (bl_ 7 23) ?_ HT_ rfl (.inl ⟨by rfl,?_⟩) ?_ ?_ ?_;rotate_left;(intro w';go_simp;with_reducible rfl);rotate_left;(simp only [Act.put,sq_];rfl)
        refine pP 3 44 (bl_ 15 23) ?_ HT_ rfl (.inl ⟨by rfl,?_⟩) ?_ ?_ ?_;rotate_left;(intro w';go_simp;with_reducible rfl);rotate_left;(simp only [Act.put,sq_];rfl)
        refine pP 4 45 (bl_ 31 23) ?_ HT_ rfl (.inl ⟨by rfl,?_⟩) ?_ ?_ ?_;rotate_left;(intro w';go_simp;with_reducible rfl);rotate_left;(simp only [Act.put,sq_];rfl)
        refine pP 6 47 (bl_ 95 23) ?_ HT_ rfl (.inl ⟨by rfl,?_⟩) ?_ ?_ ?_;rotate_left;(intro w';go_simp;with_reducible rfl);rotate_left;(simp only [Act.put,sq_];rfl)
        refine pP 11 52 (bl_ 2143 23) ?_ HT_ rfl (.inl ⟨by rfl,?_⟩) ?_ ?_ ?_;rotate_left;(intro w';go_simp;with_reducible rfl);rotate_left;(simp only [Act.put,sq_];rfl)
        refine pP 12 53 (bl_ 6239 23) ?_ HT_ rfl (.inl ⟨by rfl,?_⟩) ?_ ?_ ?_;rotate_left;(intro w';go_simp;with_reducible rfl);rotate_left;(simp only [Act.put,sq_];rfl)
        refine pP 13 54 (bl_ 14431 23) ?_ HT_ rfl (.inl ⟨by rfl,?_⟩) ?_ ?_ ?_;rotate_left;(intro w';go_simp;with_reducible rfl);rotate_left;(simp only [Act.put,sq_];rfl)
        refine pP 14 55 (bl_ 30815 23) ?_ HT_ rfl (.inl ⟨by rfl,?_⟩) ?_ ?_ ?_;rotate_left;(intro w';go_simp;with_reducible rfl);rotate_left;(simp only [Act.put,sq_];rfl)
        refine pP 15 56 (bl_ 63583 23) ?_ HT_ rfl (.inl ⟨by rfl,?_⟩) ?_ ?_ ?_;rotate_left;(intro w';go_simp;with_reducible rfl);rotate_left;(simp only [Act.put,sq_];rfl)
        refine pP 17 58 (bl_ 194655 23) ?_ HT_ rfl (.inl ⟨by rfl,?_⟩) ?_ ?_ ?_;rotate_left;(intro w';go_simp;with_reducible rfl);rotate_left;(simp only [Act.put,sq_];rfl)
        refine tP 5 46 (bl_ 194687 23) ?_ HT_ HW_ rfl (.inl ⟨by rfl,?_⟩) hHeld ?_ ?_ ?_;rotate_left;(rintro w' ⟨s0,s1,s2,s3,s4,s5,s6,s7,s8,s9⟩;go_simp;with_reducible rfl);rotate_left;(simp only [Act.put,sq_];rfl)
        refine pP 7 48 (bl_ 194815 23) ?_ HT_ rfl (.inl ⟨by rfl,?_⟩) ?_ ?_ ?_;rotate_left;(intro w';go_simp;with_reducible rfl);rotate_left;(simp only [Act.put,sq_];rfl)
        refine tP 8 49 (bl_ 195071 23) ?_ HT_ HW_ rfl (.inl ⟨by rfl,?_⟩) hHeld ?_ ?_ ?_;rotate_left;(rintro w' ⟨s0,s1,s2,s3,s4,s5,s6,s7,s8,s9⟩;go_simp;with_reducible rfl);rotate_left;(simp only [Act.put,sq_];rfl)
        refine pP 9 50 (bl_ 195583 23) ?_ HT_ rfl (.inl ⟨by rfl,?_⟩) ?_ ?_ ?_;rotate_left;(intro w';go_simp;with_reducible rfl);rotate_left;(simp only [Act.put,sq_];rfl)
        refine tP 10 51 (bl_ 196607 23) ?_ HT_ HW_ rfl (.inl ⟨by rfl,?_⟩) hHeld ?_ ?_ ?_;rotate_left;(rintro w' ⟨s0,s1,s2,s3,s4,s5,s6,s7,s8,s9⟩;go_simp;with_reducible rfl);rotate_left;(simp only [Act.put,sq_];rfl)
        refine tP 16 57 (bl_ 262143 23) ?_ HT_ HW_ rfl (.inl ⟨by rfl,?_⟩) hHeld ?_ ?_ ?_;rotate_left;(rintro w' ⟨s0,s1,s2,s3,s4,s5,s6,s7,s8,s9⟩;go_simp;with_reducible rfl);rotate_left;(simp only [Act.put,sq_];rfl)
        refine pP 18 59 (bl_ 524287 23) ?_ HT_ rfl (.inl ⟨by rfl,?_⟩) ?_ ?_ ?_;rotate_left;(intro w';go_simp;with_reducible rfl);rotate_left;(simp only [Act.put,sq_];rfl)
        refine tP 19 60 (bl_ 1048575 23) ?_ HT_ HW_ rfl (.inl ⟨by rfl,?_⟩) hHeld ?_ ?_ ?_;rotate_left;(rintro w' ⟨s0,s1,s2,s3,s4,s5,s6,s7,s8,s9⟩;go_simp;with_reducible rfl);rotate_left;(simp only [Act.put,sq_];rfl)
        refine pP 20 61 (bl_ 2097151 23) ?_ HT_ rfl (.inl ⟨by rfl,?_⟩) ?_ ?_ ?_;rotate_left;(intro w';go_simp;with_reducible rfl);rotate_left;(simp only [Act.put,sq_];rfl)
        refine tP 21 62 (bl_ 4194303 23) ?_ HT_ HW_ rfl (.inl ⟨by rfl,?_⟩) hHeld ?_ ?_ ?_;rotate_left;(rintro w' ⟨s0,s1,s2,s3,s4,s5,s6,s7,s8,s9⟩;go_simp;with_reducible rfl);rotate_left;(simp only [Act.put,sq_];rfl)
        refine pP 22 63 (bl_ 8388607 23) ?_ HT_ rfl (.inl ⟨by rfl,?_⟩) ?_ ?_ ?_;rotate_left;(intro w';go_simp;with_reducible rfl);rotate_left;(simp only [Act.put,sq_];rfl)
        refine done_ (done_of HT_.out (by kernel_rfl)) ?_
        try go_wp2
        go_ret
        exact ⟨by first|rfl|(simp [errW_none,errW_some] <;> rfl)|(simp [*,errW_none,errW_some] <;> rfl),by repeat (first|(with_reducible first|exact HB.out|apply bwA|apply bwN|apply bwD)|exact HB.out)⟩
      ·rw [if_neg c20] at H
       have c20b0 : decide (x9_2 < (((rd_T45 l0 a2).f2).length : Int)) = false := deF c20
       clear c20
       obtain rfl := Option.some.inj H
       have p204 : 0 ≤ (a2 : Int) := odT zA_
       have q204 : a2 < (l0.length : Int) := odT zA_
       obtain ⟨ad204,A204_2,c204_2,e204,hx204_0,hx204_1,hx204_2,hl204_2,hi204_2⟩ := at_T45 HR0.out a2 p204 q204
       cases e204
       replace hx204_0 := (HB.out.cell (bwL w _ hx204_0)).trans hx204_0
       replace hx204_1 := (HB.out.cell (bwL w _ hx204_1)).trans hx204_1
       replace hx204_2 := (HB.out.cell (bwL w _ hx204_2)).trans hx204_2
       have HR204_2 := As_ hi204_2
       have HC204_2 := As_ hl204_2
       clear hi204_2 hl204_2
       replace p204 := eq_true p204
       replace q204 := eq_true q204
       go_wp2
       go_ret
       exact ⟨by first|rfl|(simp [errW_none,errW_some] <;> rfl)|(simp [*,errW_none,errW_some] <;> rfl),by repeat (first|(with_reducible first|exact HB.out|apply bwA|apply bwN|apply bwD)|exact HB.out)⟩

end Go.Proofs.Ytfhakhbmbnbneaa.Q
