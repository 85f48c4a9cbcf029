-- Written by wip/tools/qprint.py (a program of this claim's author) by means of the kit's printer.
import Derived.Test.YtfhakhbmbnbneaaQ0
import Derived.Test.YtfhakhbmbnbneaaQ95
namespace Go.Proofs.Ytfhakhbmbnbneaa.Q
open Go.RowKit Go.Proofs.YtfhakhbmbnbneaaW.PrintWords Go.Proofs.YtfhakhbmbnbneaaW.PrintLast Go.Proofs.YtfhakhbmbnbneaaW.PrintMore
attribute [local go_sem] max2_int min2_int max_two min_two max_three min_three max_four min_four   -- for this text's walks alone
set_option linter.unusedVariables false
set_option linter.unusedSimpArgs false

/-! ### spec_equalTo: function 71 -/
mutual
def spec_equalTo.l0 : Nat → Int → Int → Int → Int → List (S45) → Int → List (S45) → Int → Option (Bool)
 | 0,_,_,_,_,_,_,_,_ => none
 | k + 1,x1,x3,x4,x11,x756000,x756001,x757000,x757001 => if 0 ≤ x1 then (if x1 < (x756000.length : Int) then (if x11 < (((rd_T45 x756000 x1).f2).length : Int) then (if 0 ≤ x11 then (if 0 ≤ x3 then (if x3 < (x757000.length : Int) then (if x11 < (((rd_T45 x757000 x3).f2).length : Int) then ((spec_equalTo.f k x756000 x756001 (rd ((rd_T45 x756000 x1).f2) x11) x757000 x757001 (rd ((rd_T45 x757000 x3).f2) x11) (wrap64 (x4 - 1))).bind fun t765 => (if t765 = true then (spec_equalTo.l0 k x1 x3 x4 (wrap64 (x11 + 1)) x756000 x756001 x757000 x757001) else (some false))) else (none)) else (none)) else (none)) else (none)) else (some true)) else (none)) else (none)
def spec_equalTo.f : Nat → List (S45) → Int → Int → List (S45) → Int → Int → Int → Option (Bool)
 | 0,_,_,_,_,_,_,_ => none
 | k + 1,l0_0,a0_1,a1,l2_0,a2_1,a3,a4 => if a4 = 0 then (some true) else (if 0 ≤ a1 then (if a1 < (l0_0.length : Int) then (if 0 ≤ a3 then (if a3 < (l2_0.length : Int) then ((spec_alike.f ((rd_T45 l0_0 a1).f0) ((rd_T45 l0_0 a1).f1) ((rd_T45 l0_0 a1).f2) ((rd_T45 l2_0 a3).f0) ((rd_T45 l2_0 a3).f1) ((rd_T45 l2_0 a3).f2)).bind fun t759 => (if t759 = true then (spec_equalTo.l0 k a1 a3 a4 0 l0_0 a0_1 l2_0 a2_1) else (some false))) else (none)) else (none)) else (none)) else (none))
end
set_option maxRecDepth 100000 in
theorem spec_equalTo.mono_l : ∀ k,(∀ y0 y1 y2 y3 y4 y5 y6,LeO (spec_equalTo.f k y0 y1 y2 y3 y4 y5 y6) (spec_equalTo.f (k + 1) y0 y1 y2 y3 y4 y5 y6)) ∧ (∀ y0 y1 y2 y3 y4 y5 y6 y7,LeO (spec_equalTo.l0 k y0 y1 y2 y3 y4 y5 y6 y7) (spec_equalTo.l0 (k + 1) y0 y1 y2 y3 y4 y5 y6 y7))
 | 0 => ⟨fun _ _ _ _ _ _ _ r h => (by cases h),fun _ _ _ _ _ _ _ _ r h => (by cases h)⟩
 | k + 1 => by
  obtain ⟨ih0,ih1⟩ := spec_equalTo.mono_l k
  refine ⟨?_,?_⟩
  ·intro y0 y1 y2 y3 y4 y5 y6
   unfold spec_equalTo.f
   repeat' first
   | (with_reducible exact ih0 _ _ _ _ _ _ _)
   | (with_reducible exact ih1 _ _ _ _ _ _ _ _)
   | (with_reducible exact LeO.refl _)
   | (with_reducible exact LeO.none _)
   | (with_reducible refine LeO.ite ?_ ?_)
   | (with_reducible refine LeO.bind ?_ (fun _ => ?_))
   | exact ih0 _ _ _ _ _ _ _
   | exact ih1 _ _ _ _ _ _ _ _
   | exact LeO.none _
   | refine LeO.ite ?_ ?_
   | refine LeO.bind ?_ (fun _ => ?_)
  ·intro y0 y1 y2 y3 y4 y5 y6 y7
   unfold spec_equalTo.l0
   repeat' first
   | (with_reducible exact ih0 _ _ _ _ _ _ _)
   | (with_reducible exact ih1 _ _ _ _ _ _ _ _)
   | (with_reducible exact LeO.refl _)
   | (with_reducible exact LeO.none _)
   | (with_reducible refine LeO.ite ?_ ?_)
   | (with_reducible refine LeO.bind ?_ (fun _ => ?_))
   | exact ih0 _ _ _ _ _ _ _
   | exact ih1 _ _ _ _ _ _ _ _
   | exact LeO.none _
   | refine LeO.ite ?_ ?_
   | refine LeO.bind ?_ (fun _ => ?_)
set_option maxRecDepth 100000 in
theorem spec_equalTo.mono : ∀ a0 a1 a2 a3 a4 a5 a6 k,LeO (spec_equalTo.f k a0 a1 a2 a3 a4 a5 a6) (spec_equalTo.f (k + 1) a0 a1 a2 a3 a4 a5 a6) := by
 intro a0 a1 a2 a3 a4 a5 a6 k
 obtain ⟨ih0,ih1⟩ := spec_equalTo.mono_l k
 exact ih0 a0 a1 a2 a3 a4 a5 a6
def spec_equalTo.T3 : Bool × List (List Nat × List Nat) := (true,[([],[]),([0],[0]),([],[]),([1,2],[1,2]),([3],[3]),([],[]),([5],[5]),([],[]),([6,7],[6,7]),([8],[8]),([4,9],[4,9]),([10],[10])])
def spec_equalTo.B3 : List Nat := [0,1,0,7,15,0,32,0,224,480,1023,2047]
theorem spec_equalTo.tab3 : rtab .any (opsOf Try.f71 3) = spec_equalTo.T3 := by kernel_rfl
theorem spec_equalTo.bits3 : waitsOk spec_equalTo.T3.2 spec_equalTo.B3 = true := by kernel_rfl
def spec_equalTo.T8 : Bool × List (List Nat × List Nat) := (true,[([],[]),([],[]),([1],[1]),([],[]),([2,3],[2,3]),([4],[4]),([5],[5]),([],[]),([6,7],[6,7]),([8],[8]),([],[]),([],[]),([11],[11]),([],[]),([12,13],[12,13]),([14],[14]),([15],[15]),([],[]),([16,17],[16,17]),([18],[18]),([],[]),([20],[20]),([0,9,10,19,21],[0,9,10,19,21]),([22],[22])])
def spec_equalTo.B8 : List Nat := [0,0,2,0,14,30,62,0,254,510,0,0,2048,0,14336,30720,63488,0,260096,522240,0,1048576,4194303,8388607]
theorem spec_equalTo.tab8 : rtab .any (opsOf Try.f71 8) = spec_equalTo.T8 := by kernel_rfl
theorem spec_equalTo.bits8 : waitsOk spec_equalTo.T8.2 spec_equalTo.B8 = true := by kernel_rfl
set_option maxHeartbeats 8000000 in
set_option maxRecDepth 100000 in
theorem spec_equalTo.calls (k : Nat) : ∀ (A0_0 : Option Addr) (c0_0 : Nat) (l0_0 : List (S45)) (a0_1 : Int) (a1 : Int) (A2_0 : Option Addr) (c2_0 : Nat) (l2_0 : List (S45)) (a2_1 : Int) (a3 : Int) (a4 : Int) (r : Bool) (w : World) (hr0_0 : Kd.C k45 w A0_0 l0_0.length l0_0) (hc0_0 : l0_0.length ≤ c0_0) (hr2_0 : Kd.C k45 w A2_0 l2_0.length l2_0) (hc2_0 : l2_0.length ≤ c2_0) (h : spec_equalTo.f k l0_0 a0_1 a1 l2_0 a2_1 a3 a4 = some r),
  Calls Try.prog 71 #[.agg #[.slice A0_0 l0_0.length c0_0,.int .i64 a0_1],.int .i64 a1,.agg #[.slice A2_0 l2_0.length c2_0,.int .i64 a2_1],.int .i64 a3,.int .i64 a4] w fun e w' => e = .returned (.bool r) ∧ Below w.heap.size w w' := by
 induction k using Nat.strongRecOn with
 | _ k ih =>
 intro A0_0 c0_0 l0_0 a0_1 a1 A2_0 c2_0 l2_0 a2_1 a3 a4 r w hr0_0 hc0_0 hr2_0 hc2_0 h
 cases k with
 | zero => exact absurd h (by simp [spec_equalTo.f])
 | succ k =>
 simp only [spec_equalTo.f] at h
 have hu29 := Try.underlying29
 have hu45 := Try.underlying45
 have HR0_0 := As_ hr0_0
 have HC0_0 := As_ hc0_0
 clear hr0_0 hc0_0
 have HR2_0 := As_ hr2_0
 have HC2_0 := As_ hc2_0
 clear hr2_0 hc2_0
 have HB := As_ (Below.refl w.heap.size w)
 have H : (if a4 = 0 then (some true) else (if 0 ≤ a1 then (if a1 < (l0_0.length : Int) then (if 0 ≤ a3 then (if a3 < (l2_0.length : Int) then ((spec_alike.f ((rd_T45 l0_0 a1).f0) ((rd_T45 l0_0 a1).f1) ((rd_T45 l0_0 a1).f2) ((rd_T45 l2_0 a3).f0) ((rd_T45 l2_0 a3).f1) ((rd_T45 l2_0 a3).f2)).bind fun t759 => (if t759 = true then (spec_equalTo.l0 k a1 a3 a4 0 l0_0 a0_1 l2_0 a2_1) else (some false))) else (none)) else (none)) else (none)) else (none))) = some r := h
 clear h
 by_cases c6 : a4 = 0
 ·rw [if_pos c6] at H
  have c6b0 : (a4 == 0) = true := beq_iff_eq.mpr c6
  have c6b1 : (a4 != 0) = false := bne_eq_false_iff_eq.mpr c6
  clear c6
  obtain rfl := Option.some.inj H
  go_enter Try.func71,Try.ntmps71
  go_wp2_with (first|((with_reducible refine gate_dst (N := 5) rfl ?_);refine box_event ?hg (N := 5) ?hd (cs := #[.slice A0_0 l0_0.length c0_0,.int .i64 a0_1]) (t := 29) ?hr ?_;(case hd => rfl);(case hg => rfl);(case hr => go_simp <;> rfl);intro gb755 hg w7 hbox hb;have n0_ := As_ (bwT (zb0 HB.out) hb);have n1_ := As_ (hbox);have n2_ := As_ ((by rw [hg];exact (bwZ (zb0 HB.out)) : w.heap.size ≤ gb755));have n3_ := As_ ((by rw [hg];exact (bwZ (zb0 HB.out)) : w.heap.size ≤ gb755));clear HB;revert n0_ n1_ n2_ n3_;intro HB BK755 GW755 GE755;clear hb hbox hg)|((with_reducible refine gate_dst (N := 7) rfl ?_);refine box_event ?hg (N := 7) ?hd (cs := #[.slice A2_0 l2_0.length c2_0,.int .i64 a2_1]) (t := 29) ?hr ?_;(case hd => rfl);(case hg => rfl);(case hr => go_simp <;> rfl);intro gb756 hg w8 hbox hb;have n0_ := As_ (zkb BK755.out hb);have n1_ := As_ (bwT (zb1 HB.out GE755.out) hb);have n2_ := As_ (hbox);have n3_ := As_ ((by rw [hg];exact (bwZ (zb1 HB.out GE755.out)) : w.heap.size ≤ gb756));have n4_ := As_ ((by rw [hg];exact (bwZ (zb1 HB.out GE755.out)) : w.heap.size ≤ gb756));have n5_ := As_ ((by rw [hg];exact Nat.ne_of_lt (zkl BK755.out) : gb755 ≠ gb756));have n6_ := As_ ((by rw [hg];exact Nat.ne_of_gt (zkl BK755.out) : gb756 ≠ gb755));clear BK755 HB;revert n0_ n1_ n2_ n3_ n4_ n5_ n6_;intro BK755 HB BK756 GW756 GE756 NB755_756 NB756_755;clear hb hbox hg))
  go_ret
  exact ⟨zE_,zb2 HB.out GE755.out GE756.out⟩
 rw [if_neg c6] at H
 have c6b0 : (a4 == 0) = false := beq_eq_false_iff_ne.mpr c6
 have c6b1 : (a4 != 0) = true := bne_iff_ne.mpr c6
 by_cases c9 : 0 ≤ a1
 rotate_left
 ·rw [if_neg c9] at H
  exact absurd H (by simp)
 rw [if_pos c9] at H
 have c9b0 : decide (0 ≤ a1) = true := deT c9
 clear c9
 by_cases c10 : a1 < (l0_0.length : Int)
 rotate_left
 ·rw [if_neg c10] at H
  exact absurd H (by simp)
 rw [if_pos c10] at H
 have c10b0 : decide (a1 < (l0_0.length : Int)) = true := deT c10
 clear c10
 by_cases c11 : 0 ≤ a3
 rotate_left
 ·rw [if_neg c11] at H
  exact absurd H (by simp)
 rw [if_pos c11] at H
 have c11b0 : decide (0 ≤ a3) = true := deT c11
 clear c11
 by_cases c12 : a3 < (l2_0.length : Int)
 rotate_left
 ·rw [if_neg c12] at H
  exact absurd H (by simp)
 rw [if_pos c12] at H
 have c12b0 : decide (a3 < (l2_0.length : Int)) = true := deT c12
 clear c12
 replace H := obS H
 obtain ⟨t759,A130,H⟩ := H
 replace H : (if t759 = true then (spec_equalTo.l0 k a1 a3 a4 0 l0_0 a0_1 l2_0 a2_1) else (some false)) = some r := H
 have A13 := As_ A130
 clear A130
 by_cases c14 : t759 = true
 rotate_left
 ·replace c14 := Bool.eq_false_iff.mpr c14
  subst c14
  have H1 : (some false) = some r := by rw [if_neg (show ¬ (false = true) by decide)] at H;exact H
  clear H
  have H := H1
  clear H1
  obtain rfl := Option.some.inj H
  go_enter Try.func71,Try.ntmps71
  try go_wp2_with (first|((with_reducible refine gate_dst (N := 5) rfl ?_);refine box_event ?hg (N := 5) ?hd (cs := #[.slice A0_0 l0_0.length c0_0,.int .i64 a0_1]) (t := 29) ?hr ?_;(case hd => rfl);(case hg => rfl);(case hr => go_simp <;> rfl);intro gb755 hg w38 hbox hb;have n0_ := As_ (bwT (zb0 HB.out) hb);have n1_ := As_ (hbox);have n2_ := As_ ((by rw [hg];exact (bwZ (zb0 HB.out)) : w.heap.size ≤ gb755));have n3_ := As_ ((by rw [hg];exact (bwZ (zb0 HB.out)) : w.heap.size ≤ gb755));clear HB;revert n0_ n1_ n2_ n3_;intro HB BK755 GW755 GE755;clear hb hbox hg)|((with_reducible refine gate_dst (N := 7) rfl ?_);refine box_event ?hg (N := 7) ?hd (cs := #[.slice A2_0 l2_0.length c2_0,.int .i64 a2_1]) (t := 29) ?hr ?_;(case hd => rfl);(case hg => rfl);(case hr => go_simp <;> rfl);intro gb756 hg w39 hbox hb;have n0_ := As_ (zkb BK755.out hb);have n1_ := As_ (bwT (zb1 HB.out GE755.out) hb);have n2_ := As_ (hbox);have n3_ := As_ ((by rw [hg];exact (bwZ (zb1 HB.out GE755.out)) : w.heap.size ≤ gb756));have n4_ := As_ ((by rw [hg];exact (bwZ (zb1 HB.out GE755.out)) : w.heap.size ≤ gb756));have n5_ := As_ ((by rw [hg];exact Nat.ne_of_lt (zkl BK755.out) : gb755 ≠ gb756));have n6_ := As_ ((by rw [hg];exact Nat.ne_of_gt (zkl BK755.out) : gb756 ≠ gb755));clear BK755 HB;revert n0_ n1_ n2_ n3_ n4_ n5_ n6_;intro BK755 HB BK756 GW756 GE756 NB755_756 NB756_755;clear hb hbox hg))
  have n0_ := As_ (bkD BK755.out)
  have n1_ := As_ (bkD BK756.out)
  have n2_ := As_ (bwD HB.out)
  clear BK755 BK756 HB
  revert n0_ n1_ n2_;intro BK755 BK756 HB
  have p757 : 0 ≤ (a1 : Int) := odT zA_
  have q757 : a1 < (l0_0.length : Int) := odT zA_
  obtain ⟨ad757,A757_2,c757_2,e757,hx757_0,hx757_1,hx757_2,hl757_2,hi757_2⟩ := at_T45 HR0_0.out a1 p757 q757
  have hw757_2 := hx757_2
  have hw757_1 := hx757_1
  have hw757_0 := hx757_0
  cases e757
  replace hx757_0 := bwC HB.out hx757_0
  replace hx757_1 := bwC HB.out hx757_1
  replace hx757_2 := bwC HB.out hx757_2
  have HR757_2 := As_ hi757_2
  have HC757_2 := As_ hl757_2
  clear hi757_2 hl757_2
  replace p757 := eq_true p757
  replace q757 := eq_true q757
  have p758 : 0 ≤ (a3 : Int) := odT zA_
  have q758 : a3 < (l2_0.length : Int) := odT zA_
  obtain ⟨ad758,A758_2,c758_2,e758,hx758_0,hx758_1,hx758_2,hl758_2,hi758_2⟩ := at_T45 HR2_0.out a3 p758 q758
  have hw758_2 := hx758_2
  have hw758_1 := hx758_1
  have hw758_0 := hx758_0
  cases e758
  replace hx758_0 := bwC HB.out hx758_0
  replace hx758_1 := bwC HB.out hx758_1
  replace hx758_2 := bwC HB.out hx758_2
  have HR758_2 := As_ hi758_2
  have HC758_2 := As_ hl758_2
  clear hi758_2 hl758_2
  replace p758 := eq_true p758
  replace q758 := eq_true q758
  refine start_ (n := 12) (S := fun w' => w'.cell? ⟨gb755,0,none⟩ = some (.slice (some ad757) l0_0.length c0_0) ∧ w'.cell? ⟨gb755,1,none⟩ = some (.int .i64 a0_1) ∧ w'.cell? ⟨gb756,0,none⟩ = some (.slice (some ad758) l2_0.length c2_0) ∧ w'.cell? ⟨gb756,1,none⟩ = some (.int .i64 a2_1) ∧ w'.cell? (ad757.add ((a1).toNat * 3)) = some (.int .i64 ((rd_T45 l0_0 a1).f0)) ∧ w'.cell? ⟨(ad757.add ((a1).toNat * 3)).block,(ad757.add ((a1).toNat * 3)).off + 1,none⟩ = some (.int .i64 ((rd_T45 l0_0 a1).f1)) ∧ w'.cell? ⟨(ad757.add ((a1).toNat * 3)).block,(ad757.add ((a1).toNat * 3)).off + 2,none⟩ = some (.slice A757_2 ((rd_T45 l0_0 a1).f2).length c757_2) ∧ w'.cell? (ad758.add ((a3).toNat * 3)) = some (.int .i64 ((rd_T45 l2_0 a3).f0)) ∧ w'.cell? ⟨(ad758.add ((a3).toNat * 3)).block,(ad758.add ((a3).toNat * 3)).off + 1,none⟩ = some (.int .i64 ((rd_T45 l2_0 a3).f1)) ∧ w'.cell? ⟨(ad758.add ((a3).toNat * 3)).block,(ad758.add ((a3).toNat * 3)).off + 2,none⟩ = some (.slice A758_2 ((rd_T45 l2_0 a3).f2).length c758_2)) (ds := []) (bl_ 0 12) (by kernel_rfl) rfl rfl ⟨(bkC BK755.out 0).trans rfl,(bkC BK755.out 1).trans rfl,(bkC BK756.out 0).trans rfl,(bkC BK756.out 1).trans rfl,((HB.out.cell (bwL w _ hw757_0)).trans hw757_0),((HB.out.cell (bwL w _ hw757_1)).trans hw757_1),((HB.out.cell (bwL w _ hw757_2)).trans hw757_2),((HB.out.cell (bwL w _ hw758_0)).trans hw758_0),((HB.out.cell (bwL w _ hw758_1)).trans hw758_1),((HB.out.cell (bwL w _ hw758_2)).trans hw758_2)⟩ (fun hHeld => ?_);refine with_tabW spec_equalTo.tab3 spec_equalTo.bits3 (fun HT_ HW_ => ?_)
  generalize w39.drew = w40 at BK755 BK756 HB HR757_2 HR758_2 hx757_0 hx757_1 hx757_2 hx758_0 hx758_1 hx758_2 hHeld ⊢
  refine pQ 0 14 (bl_ 1 12) HT_ rfl ?_
  refine pQ 2 16 (bl_ 5 12) HT_ rfl ?_
  refine pQ 5 19 (bl_ 37 12) HT_ rfl ?_
  refine pQ 7 21 (bl_ 165 12) HT_ rfl ?_
  refine tP 1 15 (bl_ 167 12) ?_ HT_ HW_ rfl (.inl ⟨by rfl,?_⟩) hHeld ?_ ?_ ?_;rotate_left;(rintro w' ⟨s0,s1,s2,s3,s4,s5,s6,s7,s8,s9⟩;go_simp;with_reducible rfl);rotate_left;(simp only [Act.put,sq_,i64_w,i32_w];rfl)
  refine pQ 3 17 (bl_ 175 12) HT_ rfl ?_
  refine tP 4 18 (bl_ 191 12) ?_ HT_ HW_ rfl (.inl ⟨by rfl,?_⟩) hHeld ?_ ?_ ?_;rotate_left;(rintro w' ⟨s0,s1,s2,s3,s4,s5,s6,s7,s8,s9⟩;go_simp;with_reducible rfl);rotate_left;(simp only [Act.put,sq_,i64_w,i32_w];rfl)
  refine tP 6 20 (bl_ 255 12) ?_ HT_ HW_ rfl (.inl ⟨by rfl,?_⟩) hHeld ?_ ?_ ?_;rotate_left;(rintro w' ⟨s0,s1,s2,s3,s4,s5,s6,s7,s8,s9⟩;go_simp;with_reducible rfl);rotate_left;(simp only [Act.put,sq_,i64_w,i32_w];rfl)
  refine pQ 8 22 (bl_ 511 12) HT_ rfl ?_
  refine tP 9 23 (bl_ 1023 12) ?_ HT_ HW_ rfl (.inl ⟨by rfl,?_⟩) hHeld ?_ ?_ ?_;rotate_left;(rintro w' ⟨s0,s1,s2,s3,s4,s5,s6,s7,s8,s9⟩;go_simp;with_reducible rfl);rotate_left;(simp only [Act.put,sq_,i64_w,i32_w];rfl)
  refine one_ (i := 10) (N := some 24) (bl_ 2047 12) rfl rfl (one_of HT_.out (by kernel_rfl)) (by decide) (fun K hK => ?_)
  refine goes_ Try.func95 (by kernel_rfl) rfl #[.agg #[.int .i64 ((rd_T45 l0_0 a1).f0),.int .i64 ((rd_T45 l0_0 a1).f1),.slice A757_2 ((rd_T45 l0_0 a1).f2).length c757_2],.agg #[.int .i64 ((rd_T45 l2_0 a3).f0),.int .i64 ((rd_T45 l2_0 a3).f1),.slice A758_2 ((rd_T45 l2_0 a3).f2).length c758_2]] (by rfl) rfl rfl zM_ ?_
  with_reducible refine (spec_alike.calls ((rd_T45 l0_0 a1).f0) ((rd_T45 l0_0 a1).f1) _ _ ((rd_T45 l0_0 a1).f2) ((rd_T45 l2_0 a3).f0) ((rd_T45 l2_0 a3).f1) _ _ ((rd_T45 l2_0 a3).f2) false _ ?side1 ?side2 ?side3 ?side4 A13.out).mono ?_
  (case side1 => exact zC_ (Kd.C_below HR757_2.out HB.out))
  (case side2 => exact HC757_2.out)
  (case side3 => exact zC_ (Kd.C_below HR758_2.out HB.out))
  (case side4 => exact HC758_2.out)
  rintro e w41 ⟨rfl,hb⟩
  refine ⟨_,rfl,?_⟩
  have n0_ := As_ (zkb BK755.out hb)
  have n1_ := As_ (zkb BK756.out hb)
  have n2_ := As_ (bwT (zb2 HB.out GE755.out GE756.out) hb)
  clear BK755 BK756 HB
  revert n0_ n1_ n2_;intro BK755 BK756 HB
  refine hK.out _ _ ⟨(bkC BK755.out 0).trans rfl,(bkC BK755.out 1).trans rfl,(bkC BK756.out 0).trans rfl,(bkC BK756.out 1).trans rfl,((HB.out.cell (bwL w _ hw757_0)).trans hw757_0),((HB.out.cell (bwL w _ hw757_1)).trans hw757_1),((HB.out.cell (bwL w _ hw757_2)).trans hw757_2),((HB.out.cell (bwL w _ hw758_0)).trans hw758_0),((HB.out.cell (bwL w _ hw758_1)).trans hw758_1),((HB.out.cell (bwL w _ hw758_2)).trans hw758_2)⟩ (fun hHeld => ?_)
  clear hK K
  refine norm_ (a' := ?_) ?_ ?_
  rotate_left
  ·show Act.put _ (some 24) _ = _
   simp only [Act.put,sq_,i64_w,i32_w]
   rfl
  refine pQ 11 25 (bl_ 4095 12) HT_ rfl ?_
  refine done_ (done_of HT_.out (by kernel_rfl)) ?_
  try go_wp2
  go_ret
  exact ⟨zE_,zb2 HB.out GE755.out GE756.out⟩

 subst c14
 have H1 : (spec_equalTo.l0 k a1 a3 a4 0 l0_0 a0_1 l2_0 a2_1) = some r := by rw [if_pos rfl] at H;exact H
 clear H
 have H := H1
 clear H1
 have H' := As_ H
 clear H
 go_enter Try.func71,Try.ntmps71
 try go_wp2_with (first|((with_reducible refine gate_dst (N := 5) rfl ?_);refine box_event ?hg (N := 5) ?hd (cs := #[.slice A0_0 l0_0.length c0_0,.int .i64 a0_1]) (t := 29) ?hr ?_;(case hd => rfl);(case hg => rfl);(case hr => go_simp <;> rfl);intro gb755 hg w15 hbox hb;have n0_ := As_ (bwT (zb0 HB.out) hb);have n1_ := As_ (hbox);have n2_ := As_ ((by rw [hg];exact (bwZ (zb0 HB.out)) : w.heap.size ≤ gb755));have n3_ := As_ ((by rw [hg];exact (bwZ (zb0 HB.out)) : w.heap.size ≤ gb755));clear HB;revert n0_ n1_ n2_ n3_;intro HB BK755 GW755 GE755;clear hb hbox hg)|((with_reducible refine gate_dst (N := 7) rfl ?_);refine box_event ?hg (N := 7) ?hd (cs := #[.slice A2_0 l2_0.length c2_0,.int .i64 a2_1]) (t := 29) ?hr ?_;(case hd => rfl);(case hg => rfl);(case hr => go_simp <;> rfl);intro gb756 hg w16 hbox hb;have n0_ := As_ (zkb BK755.out hb);have n1_ := As_ (bwT (zb1 HB.out GE755.out) hb);have n2_ := As_ (hbox);have n3_ := As_ ((by rw [hg];exact (bwZ (zb1 HB.out GE755.out)) : w.heap.size ≤ gb756));have n4_ := As_ ((by rw [hg];exact (bwZ (zb1 HB.out GE755.out)) : w.heap.size ≤ gb756));have n5_ := As_ ((by rw [hg];exact Nat.ne_of_lt (zkl BK755.out) : gb755 ≠ gb756));have n6_ := As_ ((by rw [hg];exact Nat.ne_of_gt (zkl BK755.out) : gb756 ≠ gb755));clear BK755 HB;revert n0_ n1_ n2_ n3_ n4_ n5_ n6_;intro BK755 HB BK756 GW756 GE756 NB755_756 NB756_755;clear hb hbox hg))
 have n0_ := As_ (bkD BK755.out)
 have n1_ := As_ (bkD BK756.out)
 have n2_ := As_ (bwD HB.out)
 clear BK755 BK756 HB
 revert n0_ n1_ n2_;intro BK755 BK756 HB
 have p757 : 0 ≤ (a1 : Int) := odT zA_
 have q757 : a1 < (l0_0.length : Int) := odT zA_
 obtain ⟨ad757,A757_2,c757_2,e757,hx757_0,hx757_1,hx757_2,hl757_2,hi757_2⟩ := at_T45 HR0_0.out a1 p757 q757
 have hw757_2 := hx757_2
 have hw757_1 := hx757_1
 have hw757_0 := hx757_0
 cases e757
 replace hx757_0 := bwC HB.out hx757_0
 replace hx757_1 := bwC HB.out hx757_1
 replace hx757_2 := bwC HB.out hx757_2
 have HR757_2 := As_ hi757_2
 have HC757_2 := As_ hl757_2
 clear hi757_2 hl757_2
 replace p757 := eq_true p757
 replace q757 := eq_true q757
 have p758 : 0 ≤ (a3 : Int) := odT zA_
 have q758 : a3 < (l2_0.length : Int) := odT zA_
 obtain ⟨ad758,A758_2,c758_2,e758,hx758_0,hx758_1,hx758_2,hl758_2,hi758_2⟩ := at_T45 HR2_0.out a3 p758 q758
 have hw758_2 := hx758_2
 have hw758_1 := hx758_1
 have hw758_0 := hx758_0
 cases e758
 replace hx758_0 := bwC HB.out hx758_0
 replace hx758_1 := bwC HB.out hx758_1
 replace hx758_2 := bwC HB.out hx758_2
 have HR758_2 := As_ hi758_2
 have HC758_2 := As_ hl758_2
 clear hi758_2 hl758_2
 replace p758 := eq_true p758
 replace q758 := eq_true q758
 refine start_ (n := 12) (S := fun w' => w'.cell? ⟨gb755,0,none⟩ = some (.slice (some ad757) l0_0.length c0_0) ∧ w'.cell? ⟨gb755,1,none⟩ = some (.int .i64 a0_1) ∧ w'.cell? ⟨gb756,0,none⟩ = some (.slice (some ad758) l2_0.length c2_0) ∧ w'.cell? ⟨gb756,1,none⟩ = some (.int .i64 a2_1) ∧ w'.cell? (ad757.add ((a1).toNat * 3)) = some (.int .i64 ((rd_T45 l0_0 a1).f0)) ∧ w'.cell? ⟨(ad757.add ((a1).toNat * 3)).block,(ad757.add ((a1).toNat * 3)).off + 1,none⟩ = some (.int .i64 ((rd_T45 l0_0 a1).f1)) ∧ w'.cell? ⟨(ad757.add ((a1).toNat * 3)).block,(ad757.add ((a1).toNat * 3)).off + 2,none⟩ = some (.slice A757_2 ((rd_T45 l0_0 a1).f2).length c757_2) ∧ w'.cell? (ad758.add ((a3).toNat * 3)) = some (.int .i64 ((rd_T45 l2_0 a3).f0)) ∧ w'.cell? ⟨(ad758.add ((a3).toNat * 3)).block,(ad758.add ((a3).toNat * 3)).off + 1,none⟩ = some (.int .i64 ((rd_T45 l2_0 a3).f1)) ∧ w'.cell? ⟨(ad758.add ((a3).toNat * 3)).block,(ad758.add ((a3).toNat * 3)).off + 2,none⟩ = some (.slice A758_2 ((rd_T45 l2_0 a3).f2).length c758_2)) (ds := []) (bl_ 0 12) (by kernel_rfl) rfl rfl ⟨(bkC BK755.out 0).trans rfl,(bkC BK755.out 1).trans rfl,(bkC BK756.out 0).trans rfl,(bkC BK756.out 1).trans rfl,((HB.out.cell (bwL w _ hw757_0)).trans hw757_0),((HB.out.cell (bwL w _ hw757_1)).trans hw757_1),((HB.out.cell (bwL w _ hw757_2)).trans hw757_2),((HB.out.cell (bwL w _ hw758_0)).trans hw758_0),((HB.out.cell (bwL w _ hw758_1)).trans hw758_1),((HB.out.cell (bwL w _ hw758_2)).trans hw758_2)⟩ (fun hHeld => ?_);refine with_tabW spec_equalTo.tab3 spec_equalTo.bits3 (fun HT_ HW_ => ?_)
 generalize w16.drew = w17 at BK755 BK756 HB HR757_2 HR758_2 hx757_0 hx757_1 hx757_2 hx758_0 hx758_1 hx758_2 hHeld ⊢
 refine pQ 0 14 (bl_ 1 12) HT_ rfl ?_
 refine pQ 2 16 (bl_ 5 12) HT_ rfl ?_
 refine pQ 5 19 (bl_ 37 12) HT_ rfl ?_
 refine pQ 7 21 (bl_ 165 12) HT_ rfl ?_
 refine tP 1 15 (bl_ 167 12) ?_ HT_ HW_ rfl (.inl ⟨by rfl,?_⟩) hHeld ?_ ?_ ?_;rotate_left;(rintro w' ⟨s0,s1,s2,s3,s4,s5,s6,s7,s8,s9⟩;go_simp;with_reducible rfl);rotate_left;(simp only [Act.put,sq_,i64_w,i32_w];rfl)
 refine pQ 3 17 (bl_ 175 12) HT_ rfl ?_
 refine tP 4 18 (bl_ 191 12) ?_ HT_ HW_ rfl (.inl ⟨by rfl,?_⟩) hHeld ?_ ?_ ?_;rotate_left;(rintro w' ⟨s0,s1,s2,s3,s4,s5,s6,s7,s8,s9⟩;go_simp;with_reducible rfl);rotate_left;(simp only [Act.put,sq_,i64_w,i32_w];rfl)
 refine tP 6 20 (bl_ 255 12) ?_ HT_ HW_ rfl (.inl ⟨by rfl,?_⟩) hHeld ?_ ?_ ?_;rotate_left;(rintro w' ⟨s0,s1,s2,s3,s4,s5,s6,s7,s8,s9⟩;go_simp;with_reducible rfl);rotate_left;(simp only [Act.put,sq_,i64_w,i32_w];rfl)
 refine pQ 8 22 (bl_ 511 12) HT_ rfl ?_
 refine tP 9 23 (bl_ 1023 12) ?_ HT_ HW_ rfl (.inl ⟨by rfl,?_⟩) hHeld ?_ ?_ ?_;rotate_left;(rintro w' ⟨s0,s1,s2,s3,s4,s5,s6,s7,s8,s9⟩;go_simp;with_reducible rfl);rotate_left;(simp only [Act.put,sq_,i64_w,i32_w];rfl)
 refine one_ (i := 10) (N := some 24) (bl_ 2047 12) rfl rfl (one_of HT_.out (by kernel_rfl)) (by decide) (fun K hK => ?_)
 refine goes_ Try.func95 (by kernel_rfl) rfl #[.agg #[.int .i64 ((rd_T45 l0_0 a1).f0),.int .i64 ((rd_T45 l0_0 a1).f1),.slice A757_2 ((rd_T45 l0_0 a1).f2).length c757_2],.agg #[.int .i64 ((rd_T45 l2_0 a3).f0),.int .i64 ((rd_T45 l2_0 a3).f1),.slice A758_2 ((rd_T45 l2_0 a3).f2).length c758_2]] (by rfl) rfl rfl zM_ ?_
 with_reducible refine (spec_alike.calls ((rd_T45 l0_0 a1).f0) ((rd_T45 l0_0 a1).f1) _ _ ((rd_T45 l0_0 a1).f2) ((rd_T45 l2_0 a3).f0) ((rd_T45 l2_0 a3).f1) _ _ ((rd_T45 l2_0 a3).f2) true _ ?side1 ?side2 ?side3 ?side4 A13.out).mono ?_
 (case side1 => exact zC_ (Kd.C_below HR757_2.out HB.out))
 (case side2 => exact HC757_2.out)
 (case side3 => exact zC_ (Kd.C_below HR758_2.out HB.out))
 (case side4 => exact HC758_2.out)
 rintro e w18 ⟨rfl,hb⟩
 refine ⟨_,rfl,?_⟩
 have n0_ := As_ (zkb BK755.out hb)
 have n1_ := As_ (zkb BK756.out hb)
 have n2_ := As_ (bwT (zb2 HB.out GE755.out GE756.out) hb)
 clear BK755 BK756 HB
 revert n0_ n1_ n2_;intro BK755 BK756 HB
 refine hK.out _ _ ⟨(bkC BK755.out 0).trans rfl,(bkC BK755.out 1).trans rfl,(bkC BK756.out 0).trans rfl,(bkC BK756.out 1).trans rfl,((HB.out.cell (bwL w _ hw757_0)).trans hw757_0),((HB.out.cell (bwL w _ hw757_1)).trans hw757_1),((HB.out.cell (bwL w _ hw757_2)).trans hw757_2),((HB.out.cell (bwL w _ hw758_0)).trans hw758_0),((HB.out.cell (bwL w _ hw758_1)).trans hw758_1),((HB.out.cell (bwL w _ hw758_2)).trans hw758_2)⟩ (fun hHeld => ?_)
 clear hK K
 refine norm_ (a' := ?_) ?_ ?_
 rotate_left
 ·show Act.put _ (some 24) _ = _
  simp only [Act.put,sq_,i64_w,i32_w]
  rfl
 refine pQ 11 25 (bl_ 4095 12) HT_ rfl ?_
 refine done_ (done_of HT_.out (by kernel_rfl)) ?_
 try go_wp2
 go_loopg [11] k (fun kq v11 w' => ∃ (x11_1 : Int),v11 = .int .i64 x11_1 ∧ Aside0 (spec_equalTo.l0 kq a1 a3 a4 x11_1 l0_0 a0_1 l2_0 a2_1 = some r) ∧ Aside0 (kq ≤ k) ∧ Aside0 (w'.heap[gb755]? = some (.cells #[(.slice (some ad757) l0_0.length c0_0),.int .i64 a0_1] 29 (0,0))) ∧ Aside0 (w'.heap[gb756]? = some (.cells #[(.slice (some ad758) l2_0.length c2_0),.int .i64 a2_1] 29 (0,0))) ∧ Aside0 (Below w.heap.size w w'))
 case atStart => exact ⟨(0),zT_,H',⟨Nat.le_refl _⟩,⟨by (with_reducible repeat first|apply bkN|apply bkD|apply bkA);exact BK755.out⟩,⟨by (with_reducible repeat first|apply bkN|apply bkD|apply bkA);exact BK756.out⟩,⟨zb2 HB.out GE755.out GE756.out⟩⟩
 case round =>
  clear H'
  obtain ⟨x11_1,rfl,HA,HK1,BK755,BK756,HB⟩ := hrel
  cases gk with
  | zero => exact absurd HA.out (fun h_ => (by cases h_))
  | succ k1 =>
   have H := HA.out
   clear HA
   simp only [spec_equalTo.l0] at H
   by_cases c19 : 0 ≤ a1
   rotate_left
   ·rw [if_neg c19] at H
    exact absurd H (by simp)
   rw [if_pos c19] at H
   have c19b0 : decide (0 ≤ a1) = true := deT c19
   clear c19
   by_cases c20 : a1 < (l0_0.length : Int)
   rotate_left
   ·rw [if_neg c20] at H
    exact absurd H (by simp)
   rw [if_pos c20] at H
   have c20b0 : decide (a1 < (l0_0.length : Int)) = true := deT c20
   clear c20
   by_cases c21 : x11_1 < (((rd_T45 l0_0 a1).f2).length : Int)
   rotate_left
   ·rw [if_neg c21] at H
    have c21b0 : decide (x11_1 < (((rd_T45 l0_0 a1).f2).length : Int)) = false := deF c21
    clear c21
    obtain rfl := Option.some.inj H
    have hnb36 := NB755_756.out
    have hnc36 := NB756_755.out
    obtain ⟨hcz37_0,hcz37_1,hfz37_0,hfz37_1⟩ := bk2 BK755.out
    have p760 : 0 ≤ (a1 : Int) := odT zA_
    have q760 : a1 < (l0_0.length : Int) := odT zA_
    obtain ⟨ad760,A760_2,c760_2,e760,hx760_0,hx760_1,hx760_2,hl760_2,hi760_2⟩ := at_T45 HR0_0.out a1 p760 q760
    obtain rfl : ad757 = ad760 := (by injection e760)
    replace hx760_0 := bwC HB.out hx760_0
    replace hx760_1 := bwC HB.out hx760_1
    replace hx760_2 := bwC HB.out hx760_2
    have HR760_2 := As_ hi760_2
    have HC760_2 := As_ hl760_2
    clear hi760_2 hl760_2
    replace p760 := eq_true p760
    replace q760 := eq_true q760
    go_wp2
    go_ret
    exact ⟨zE_,zb2 HB.out GE755.out GE756.out⟩
   rw [if_pos c21] at H
   have c21b0 : decide (x11_1 < (((rd_T45 l0_0 a1).f2).length : Int)) = true := deT c21
   clear c21
   by_cases c22 : 0 ≤ x11_1
   rotate_left
   ·rw [if_neg c22] at H
    exact absurd H (by simp)
   rw [if_pos c22] at H
   have c22b0 : decide (0 ≤ x11_1) = true := deT c22
   clear c22
   by_cases c23 : 0 ≤ a3
   rotate_left
   ·rw [if_neg c23] at H
    exact absurd H (by simp)
   rw [if_pos c23] at H
   have c23b0 : decide (0 ≤ a3) = true := deT c23
   clear c23
   by_cases c24 : a3 < (l2_0.length : Int)
   rotate_left
   ·rw [if_neg c24] at H
    exact absurd H (by simp)
   rw [if_pos c24] at H
   have c24b0 : decide (a3 < (l2_0.length : Int)) = true := deT c24
   clear c24
   by_cases c25 : x11_1 < (((rd_T45 l2_0 a3).f2).length : Int)
   rotate_left
   ·rw [if_neg c25] at H
    exact absurd H (by simp)
   rw [if_pos c25] at H
   have c25b0 : decide (x11_1 < (((rd_T45 l2_0 a3).f2).length : Int)) = true := deT c25
   clear c25
   replace H := obS H
   obtain ⟨t765,A260,H⟩ := H
   replace H : (if t765 = true then (spec_equalTo.l0 k1 a1 a3 a4 (wrap64 (x11_1 + 1)) l0_0 a0_1 l2_0 a2_1) else (some false)) = some r := H
   have A26 := As_ A260
   clear A260
   by_cases c27 : t765 = true
   rotate_left
   ·replace c27 := Bool.eq_false_iff.mpr c27
    subst c27
    have H1 : (some false) = some r := by rw [if_neg (show ¬ (false = true) by decide)] at H;exact H
    clear H
    have H := H1
    clear H1
    obtain rfl := Option.some.inj H
    have hnb32 := NB755_756.out
    have hnc32 := NB756_755.out
    obtain ⟨hcz33_0,hcz33_1,hfz33_0,hfz33_1⟩ := bk2 BK755.out
    have p760 : 0 ≤ (a1 : Int) := odT zA_
    have q760 : a1 < (l0_0.length : Int) := odT zA_
    obtain ⟨ad760,A760_2,c760_2,e760,hx760_0,hx760_1,hx760_2,hl760_2,hi760_2⟩ := at_T45 HR0_0.out a1 p760 q760
    obtain rfl : ad757 = ad760 := (by injection e760)
    replace hx760_0 := bwC HB.out hx760_0
    replace hx760_1 := bwC HB.out hx760_1
    replace hx760_2 := bwC HB.out hx760_2
    have HR760_2 := As_ hi760_2
    have HC760_2 := As_ hl760_2
    clear hi760_2 hl760_2
    replace p760 := eq_true p760
    replace q760 := eq_true q760
    try go_wp2
    have n0_ := As_ (bkD BK755.out)
    have n1_ := As_ (bkD BK756.out)
    have n2_ := As_ (bwD HB.out)
    clear BK755 BK756 HB
    revert n0_ n1_ n2_;intro BK755 BK756 HB
    have p761 : 0 ≤ (a1 : Int) := odT zA_
    have q761 : a1 < (l0_0.length : Int) := odT zA_
    obtain ⟨ad761,A761_2,c761_2,e761,hx761_0,hx761_1,hx761_2,hl761_2,hi761_2⟩ := at_T45 HR0_0.out a1 p761 q761
    have hw761_2 := hx761_2
    have hw761_1 := hx761_1
    have hw761_0 := hx761_0
    obtain rfl : ad757 = ad761 := (by injection e761)
    replace hx761_0 := bwC HB.out hx761_0
    replace hx761_1 := bwC HB.out hx761_1
    replace hx761_2 := bwC HB.out hx761_2
    have HR761_2 := As_ hi761_2
    have HC761_2 := As_ hl761_2
    clear hi761_2 hl761_2
    replace p761 := eq_true p761
    replace q761 := eq_true q761
    have p762 : 0 ≤ (x11_1 : Int) := odT zA_
    have q762 : x11_1 < (((rd_T45 l0_0 a1).f2).length : Int) := odT zA_
    obtain ⟨ad762,e762,hx762_0⟩ := Kd.at_int HR761_2.out x11_1 p762 q762
    have hw762_0 := hx762_0
    cases e762
    replace hx762_0 := bwC HB.out hx762_0
    replace p762 := eq_true p762
    replace q762 := eq_true q762
    have p763 : 0 ≤ (a3 : Int) := odT zA_
    have q763 : a3 < (l2_0.length : Int) := odT zA_
    obtain ⟨ad763,A763_2,c763_2,e763,hx763_0,hx763_1,hx763_2,hl763_2,hi763_2⟩ := at_T45 HR2_0.out a3 p763 q763
    have hw763_2 := hx763_2
    have hw763_1 := hx763_1
    have hw763_0 := hx763_0
    obtain rfl : ad758 = ad763 := (by injection e763)
    replace hx763_0 := bwC HB.out hx763_0
    replace hx763_1 := bwC HB.out hx763_1
    replace hx763_2 := bwC HB.out hx763_2
    have HR763_2 := As_ hi763_2
    have HC763_2 := As_ hl763_2
    clear hi763_2 hl763_2
    replace p763 := eq_true p763
    replace q763 := eq_true q763
    have p764 : 0 ≤ (x11_1 : Int) := odT zA_
    have q764 : x11_1 < (((rd_T45 l2_0 a3).f2).length : Int) := odT zA_
    obtain ⟨ad764,e764,hx764_0⟩ := Kd.at_int HR763_2.out x11_1 p764 q764
    have hw764_0 := hx764_0
    cases e764
    replace hx764_0 := bwC HB.out hx764_0
    replace p764 := eq_true p764
    replace q764 := eq_true q764
    refine start_ (n := 24) (S := fun w' => w'.cell? ⟨gb755,0,none⟩ = some (.slice (some ad757) l0_0.length c0_0) ∧ w'.cell? ⟨gb755,1,none⟩ = some (.int .i64 a0_1) ∧ w'.cell? ⟨gb756,0,none⟩ = some (.slice (some ad758) l2_0.length c2_0) ∧ w'.cell? ⟨gb756,1,none⟩ = some (.int .i64 a2_1) ∧ w'.cell? (ad757.add ((a1).toNat * 3)) = some (.int .i64 ((rd_T45 l0_0 a1).f0)) ∧ w'.cell? ⟨(ad757.add ((a1).toNat * 3)).block,(ad757.add ((a1).toNat * 3)).off + 1,none⟩ = some (.int .i64 ((rd_T45 l0_0 a1).f1)) ∧ w'.cell? ⟨(ad757.add ((a1).toNat * 3)).block,(ad757.add ((a1).toNat * 3)).off + 2,none⟩ = some (.slice (some ad762) ((rd_T45 l0_0 a1).f2).length c761_2) ∧ w'.cell? (ad762.add (x11_1).toNat) = some (.int .i64 (rd ((rd_T45 l0_0 a1).f2) x11_1)) ∧ w'.cell? (ad758.add ((a3).toNat * 3)) = some (.int .i64 ((rd_T45 l2_0 a3).f0)) ∧ w'.cell? ⟨(ad758.add ((a3).toNat * 3)).block,(ad758.add ((a3).toNat * 3)).off + 1,none⟩ = some (.int .i64 ((rd_T45 l2_0 a3).f1)) ∧ w'.cell? ⟨(ad758.add ((a3).toNat * 3)).block,(ad758.add ((a3).toNat * 3)).off + 2,none⟩ = some (.slice (some ad764) ((rd_T45 l2_0 a3).f2).length c763_2) ∧ w'.cell? (ad764.add (x11_1).toNat) = some (.int .i64 (rd ((rd_T45 l2_0 a3).f2) x11_1))) (ds := []) (bl_ 0 24) (by kernel_rfl) rfl rfl ⟨(bkC BK755.out 0).trans rfl,(bkC BK755.out 1).trans rfl,(bkC BK756.out 0).trans rfl,(bkC BK756.out 1).trans rfl,((HB.out.cell (bwL w _ hw761_0)).trans hw761_0),((HB.out.cell (bwL w _ hw761_1)).trans hw761_1),((HB.out.cell (bwL w _ hw761_2)).trans hw761_2),((HB.out.cell (bwL w _ hw762_0)).trans hw762_0),((HB.out.cell (bwL w _ hw763_0)).trans hw763_0),((HB.out.cell (bwL w _ hw763_1)).trans hw763_1),((HB.out.cell (bwL w _ hw763_2)).trans hw763_2),((HB.out.cell (bwL w _ hw764_0)).trans hw764_0)⟩ (fun hHeld => ?_);refine with_tabW spec_equalTo.tab8 spec_equalTo.bits8 (fun HT_ HW_ => ?_)
    generalize wr.drew = w34 at BK755 BK756 HB HR761_2 HR763_2 hx761_0 hx761_1 hx761_2 hx762_0 hx763_0 hx763_1 hx763_2 hx764_0 hHeld ⊢
    refine pQ 1 38 (bl_ 2 24) HT_ rfl ?_
    refine pQ 3 40 (bl_ 10 24) HT_ rfl ?_
    refine pQ 7 44 (bl_ 138 24) HT_ rfl ?_
    refine pQ 11 48 (bl_ 2186 24) HT_ rfl ?_
    refine pQ 13 50 (bl_ 10378 24) HT_ rfl ?_
    refine pQ 17 54 (bl_ 141450 24) HT_ rfl ?_
    refine pQ 20 57 (bl_ 1190026 24) HT_ rfl ?_
    refine pQ 21 58 (bl_ 3287178 24) HT_ rfl ?_
    refine tP 0 37 (bl_ 3287179 24) ?_ HT_ HW_ rfl (.inl ⟨by rfl,?_⟩) hHeld ?_ ?_ ?_;rotate_left;(rintro w' ⟨s0,s1,s2,s3,s4,s5,s6,s7,s8,s9,s10,s11⟩;go_simp;with_reducible rfl);rotate_left;(simp only [Act.put,sq_,i64_w,i32_w];rfl)
    refine tP 2 39 (bl_ 3287183 24) ?_ HT_ HW_ rfl (.inl ⟨by rfl,?_⟩) hHeld ?_ ?_ ?_;rotate_left;(rintro w' ⟨s0,s1,s2,s3,s4,s5,s6,s7,s8,s9,s10,s11⟩;go_simp;with_reducible rfl);rotate_left;(simp only [Act.put,sq_,i64_w,i32_w];rfl)
    refine pQ 4 41 (bl_ 3287199 24) HT_ rfl ?_
    refine pQ 5 42 (bl_ 3287231 24) HT_ rfl ?_
    refine tP 6 43 (bl_ 3287295 24) ?_ HT_ HW_ rfl (.inl ⟨by rfl,?_⟩) hHeld ?_ ?_ ?_;rotate_left;(rintro w' ⟨s0,s1,s2,s3,s4,s5,s6,s7,s8,s9,s10,s11⟩;go_simp;with_reducible rfl);rotate_left;(simp only [Act.put,sq_,i64_w,i32_w];rfl)
    refine pQ 8 45 (bl_ 3287551 24) HT_ rfl ?_
    refine tP 9 46 (bl_ 3288063 24) ?_ HT_ HW_ rfl (.inl ⟨by rfl,?_⟩) hHeld ?_ ?_ ?_;rotate_left;(rintro w' ⟨s0,s1,s2,s3,s4,s5,s6,s7,s8,s9,s10,s11⟩;go_simp;with_reducible rfl);rotate_left;(simp only [Act.put,sq_,i64_w,i32_w];rfl)
    refine tP 10 47 (bl_ 3289087 24) ?_ HT_ HW_ rfl (.inl ⟨by rfl,?_⟩) hHeld ?_ ?_ ?_;rotate_left;(rintro w' ⟨s0,s1,s2,s3,s4,s5,s6,s7,s8,s9,s10,s11⟩;go_simp;with_reducible rfl);rotate_left;(simp only [Act.put,sq_,i64_w,i32_w];rfl)
    refine tP 12 49 (bl_ 3293183 24) ?_ HT_ HW_ rfl (.inl ⟨by rfl,?_⟩) hHeld ?_ ?_ ?_;rotate_left;(rintro w' ⟨s0,s1,s2,s3,s4,s5,s6,s7,s8,s9,s10,s11⟩;go_simp;with_reducible rfl);rotate_left;(simp only [Act.put,sq_,i64_w,i32_w];rfl)
    refine pQ 14 51 (bl_ 3309567 24) HT_ rfl ?_
    refine pQ 15 52 (bl_ 3342335 24) HT_ rfl ?_
    refine tP 16 53 (bl_ 3407871 24) ?_ HT_ HW_ rfl (.inl ⟨by rfl,?_⟩) hHeld ?_ ?_ ?_;rotate_left;(rintro w' ⟨s0,s1,s2,s3,s4,s5,s6,s7,s8,s9,s10,s11⟩;go_simp;with_reducible rfl);rotate_left;(simp only [Act.put,sq_,i64_w,i32_w];rfl)
    refine pQ 18 55 (bl_ 3670015 24) HT_ rfl ?_
    refine tP 19 56 (bl_ 4194303 24) ?_ HT_ HW_ rfl (.inl ⟨by rfl,?_⟩) hHeld ?_ ?_ ?_;rotate_left;(rintro w' ⟨s0,s1,s2,s3,s4,s5,s6,s7,s8,s9,s10,s11⟩;go_simp;with_reducible rfl);rotate_left;(simp only [Act.put,sq_,i64_w,i32_w];rfl)
    refine one_ (i := 22) (N := some 59) (bl_ 8388607 24) rfl rfl (one_of HT_.out (by kernel_rfl)) (by decide) (fun K hK => ?_)
    refine goes_ Try.func71 (by kernel_rfl) rfl #[.agg #[.slice (some ad757) l0_0.length c0_0,.int .i64 a0_1],.int .i64 (rd ((rd_T45 l0_0 a1).f2) x11_1),.agg #[.slice (some ad758) l2_0.length c2_0,.int .i64 a2_1],.int .i64 (rd ((rd_T45 l2_0 a3).f2) x11_1),.int .i64 (wrap64 (a4 - 1))] (by rfl) rfl rfl zM_ ?_
    with_reducible refine (ih k1 (by have := HK1.out;omega) _ _ l0_0 a0_1 (rd ((rd_T45 l0_0 a1).f2) x11_1) _ _ l2_0 a2_1 (rd ((rd_T45 l2_0 a3).f2) x11_1) (wrap64 (a4 - 1)) false _ ?side1 ?side2 ?side3 ?side4 A26.out).mono ?_
    (case side1 => exact zC_ (Kd.C_below HR0_0.out HB.out))
    (case side2 => exact HC0_0.out)
    (case side3 => exact zC_ (Kd.C_below HR2_0.out HB.out))
    (case side4 => exact HC2_0.out)
    rintro e w35 ⟨rfl,hb⟩
    refine ⟨_,rfl,?_⟩
    have n0_ := As_ (zkb BK755.out hb)
    have n1_ := As_ (zkb BK756.out hb)
    have n2_ := As_ (bwT (zb2 HB.out GE755.out GE756.out) hb)
    clear BK755 BK756 HB
    revert n0_ n1_ n2_;intro BK755 BK756 HB
    refine hK.out _ _ ⟨(bkC BK755.out 0).trans rfl,(bkC BK755.out 1).trans rfl,(bkC BK756.out 0).trans rfl,(bkC BK756.out 1).trans rfl,((HB.out.cell (bwL w _ hw761_0)).trans hw761_0),((HB.out.cell (bwL w _ hw761_1)).trans hw761_1),((HB.out.cell (bwL w _ hw761_2)).trans hw761_2),((HB.out.cell (bwL w _ hw762_0)).trans hw762_0),((HB.out.cell (bwL w _ hw763_0)).trans hw763_0),((HB.out.cell (bwL w _ hw763_1)).trans hw763_1),((HB.out.cell (bwL w _ hw763_2)).trans hw763_2),((HB.out.cell (bwL w _ hw764_0)).trans hw764_0)⟩ (fun hHeld => ?_)
    clear hK K
    refine norm_ (a' := ?_) ?_ ?_
    rotate_left
    ·show Act.put _ (some 59) _ = _
     simp only [Act.put,sq_,i64_w,i32_w]
     rfl
    refine pQ 23 60 (bl_ 16777215 24) HT_ rfl ?_
    refine done_ (done_of HT_.out (by kernel_rfl)) ?_
    try go_wp2
    go_ret
    exact ⟨zE_,zb2 HB.out GE755.out GE756.out⟩
   subst c27
   have H1 : (spec_equalTo.l0 k1 a1 a3 a4 (wrap64 (x11_1 + 1)) l0_0 a0_1 l2_0 a2_1) = some r := by rw [if_pos rfl] at H;exact H
   clear H
   have H := H1
   clear H1
   have H' := As_ H
   clear H
   have hnb28 := NB755_756.out
   have hnc28 := NB756_755.out
   obtain ⟨hcz29_0,hcz29_1,hfz29_0,hfz29_1⟩ := bk2 BK755.out
   have p760 : 0 ≤ (a1 : Int) := odT zA_
   have q760 : a1 < (l0_0.length : Int) := odT zA_
   obtain ⟨ad760,A760_2,c760_2,e760,hx760_0,hx760_1,hx760_2,hl760_2,hi760_2⟩ := at_T45 HR0_0.out a1 p760 q760
   obtain rfl : ad757 = ad760 := (by injection e760)
   replace hx760_0 := bwC HB.out hx760_0
   replace hx760_1 := bwC HB.out hx760_1
   replace hx760_2 := bwC HB.out hx760_2
   have HR760_2 := As_ hi760_2
   have HC760_2 := As_ hl760_2
   clear hi760_2 hl760_2
   replace p760 := eq_true p760
   replace q760 := eq_true q760
   try go_wp2
   have n0_ := As_ (bkD BK755.out)
   have n1_ := As_ (bkD BK756.out)
   have n2_ := As_ (bwD HB.out)
   clear BK755 BK756 HB
   revert n0_ n1_ n2_;intro BK755 BK756 HB
   have p761 : 0 ≤ (a1 : Int) := odT zA_
   have q761 : a1 < (l0_0.length : Int) := odT zA_
   obtain ⟨ad761,A761_2,c761_2,e761,hx761_0,hx761_1,hx761_2,hl761_2,hi761_2⟩ := at_T45 HR0_0.out a1 p761 q761
   have hw761_2 := hx761_2
   have hw761_1 := hx761_1
   have hw761_0 := hx761_0
   obtain rfl : ad757 = ad761 := (by injection e761)
   replace hx761_0 := bwC HB.out hx761_0
   replace hx761_1 := bwC HB.out hx761_1
   replace hx761_2 := bwC HB.out hx761_2
   have HR761_2 := As_ hi761_2
   have HC761_2 := As_ hl761_2
   clear hi761_2 hl761_2
   replace p761 := eq_true p761
   replace q761 := eq_true q761
   have p762 : 0 ≤ (x11_1 : Int) := odT zA_
   have q762 : x11_1 < (((rd_T45 l0_0 a1).f2).length : Int) := odT zA_
   obtain ⟨ad762,e762,hx762_0⟩ := Kd.at_int HR761_2.out x11_1 p762 q762
   have hw762_0 := hx762_0
   cases e762
   replace hx762_0 := bwC HB.out hx762_0
   replace p762 := eq_true p762
   replace q762 := eq_true q762
   have p763 : 0 ≤ (a3 : Int) := odT zA_
   have q763 : a3 < (l2_0.length : Int) := odT zA_
   obtain ⟨ad763,A763_2,c763_2,e763,hx763_0,hx763_1,hx763_2,hl763_2,hi763_2⟩ := at_T45 HR2_0.out a3 p763 q763
   have hw763_2 := hx763_2
   have hw763_1 := hx763_1
   have hw763_0 := hx763_0
   obtain rfl : ad758 = ad763 := (by injection e763)
   replace hx763_0 := bwC HB.out hx763_0
   replace hx763_1 := bwC HB.out hx763_1
   replace hx763_2 := bwC HB.out hx763_2
   have HR763_2 := As_ hi763_2
   have HC763_2 := As_ hl763_2
   clear hi763_2 hl763_2
   replace p763 := eq_true p763
   replace q763 := eq_true q763
   have p764 : 0 ≤ (x11_1 : Int) := odT zA_
   have q764 : x11_1 < (((rd_T45 l2_0 a3).f2).length : Int) := odT zA_
   obtain ⟨ad764,e764,hx764_0⟩ := Kd.at_int HR763_2.out x11_1 p764 q764
   have hw764_0 := hx764_0
   cases e764
   replace hx764_0 := bwC HB.out hx764_0
   replace p764 := eq_true p764
   replace q764 := eq_true q764
   refine start_ (n := 24) (S := fun w' => w'.cell? ⟨gb755,0,none⟩ = some (.slice (some ad757) l0_0.length c0_0) ∧ w'.cell? ⟨gb755,1,none⟩ = some (.int .i64 a0_1) ∧ w'.cell? ⟨gb756,0,none⟩ = some (.slice (some ad758) l2_0.length c2_0) ∧ w'.cell? ⟨gb756,1,none⟩ = some (.int .i64 a2_1) ∧ w'.cell? (ad757.add ((a1).toNat * 3)) = some (.int .i64 ((rd_T45 l0_0 a1).f0)) ∧ w'.cell? ⟨(ad757.add ((a1).toNat * 3)).block,(ad757.add ((a1).toNat * 3)).off + 1,none⟩ = some (.int .i64 ((rd_T45 l0_0 a1).f1)) ∧ w'.cell? ⟨(ad757.add ((a1).toNat * 3)).block,(ad757.add ((a1).toNat * 3)).off + 2,none⟩ = some (.slice (some ad762) ((rd_T45 l0_0 a1).f2).length c761_2) ∧ w'.cell? (ad762.add (x11_1).toNat) = some (.int .i64 (rd ((rd_T45 l0_0 a1).f2) x11_1)) ∧ w'.cell? (ad758.add ((a3).toNat * 3)) = some (.int .i64 ((rd_T45 l2_0 a3).f0)) ∧ w'.cell? ⟨(ad758.add ((a3).toNat * 3)).block,(ad758.add ((a3).toNat * 3)).off + 1,none⟩ = some (.int .i64 ((rd_T45 l2_0 a3).f1)) ∧ w'.cell? ⟨(ad758.add ((a3).toNat * 3)).block,(ad758.add ((a3).toNat * 3)).off + 2,none⟩ = some (.slice (some ad764) ((rd_T45 l2_0 a3).f2).length c763_2) ∧ w'.cell? (ad764.add (x11_1).toNat) = some (.int .i64 (rd ((rd_T45 l2_0 a3).f2) x11_1))) (ds := []) (bl_ 0 24) (by kernel_rfl) rfl rfl ⟨(bkC BK755.out 0).trans rfl,(bkC BK755.out 1).trans rfl,(bkC BK756.out 0).trans rfl,(bkC BK756.out 1).trans rfl,((HB.out.cell (bwL w _ hw761_0)).trans hw761_0),((HB.out.cell (bwL w _ hw761_1)).trans hw761_1),((HB.out.cell (bwL w _ hw761_2)).trans hw761_2),((HB.out.cell (bwL w _ hw762_0)).trans hw762_0),((HB.out.cell (bwL w _ hw763_0)).trans hw763_0),((HB.out.cell (bwL w _ hw763_1)).trans hw763_1),((HB.out.cell (bwL w _ hw763_2)).trans hw763_2),((HB.out.cell (bwL w _ hw764_0)).trans hw764_0)⟩ (fun hHeld => ?_);refine with_tabW spec_equalTo.tab8 spec_equalTo.bits8 (fun HT_ HW_ => ?_)
   generalize wr.drew = w30 at BK755 BK756 HB HR761_2 HR763_2 hx761_0 hx761_1 hx761_2 hx762_0 hx763_0 hx763_1 hx763_2 hx764_0 hHeld ⊢
   refine pQ 1 38 (bl_ 2 24) HT_ rfl ?_
   refine pQ 3 40 (bl_ 10 24) HT_ rfl ?_
   refine pQ 7 44 (bl_ 138 24) HT_ rfl ?_
   refine pQ 11 48 (bl_ 2186 24) HT_ rfl ?_
   refine pQ 13 50 (bl_ 10378 24) HT_ rfl ?_
   refine pQ 17 54 (bl_ 141450 24) HT_ rfl ?_
   refine pQ 20 57 (bl_ 1190026 24) HT_ rfl ?_
   refine pQ 21 58 (bl_ 3287178 24) HT_ rfl ?_
   refine tP 0 37 (bl_ 3287179 24) ?_ HT_ HW_ rfl (.inl ⟨by rfl,?_⟩) hHeld ?_ ?_ ?_;rotate_left;(rintro w' ⟨s0,s1,s2,s3,s4,s5,s6,s7,s8,s9,s10,s11⟩;go_simp;with_reducible rfl);rotate_left;(simp only [Act.put,sq_,i64_w,i32_w];rfl)
   refine tP 2 39 (bl_ 3287183 24) ?_ HT_ HW_ rfl (.inl ⟨by rfl,?_⟩) hHeld ?_ ?_ ?_;rotate_left;(rintro w' ⟨s0,s1,s2,s3,s4,s5,s6,s7,s8,s9,s10,s11⟩;go_simp;with_reducible rfl);rotate_left;(simp only [Act.put,sq_,i64_w,i32_w];rfl)
   refine pQ 4 41 (bl_ 3287199 24) HT_ rfl ?_
   refine pQ 5 42 (bl_ 3287231 24) HT_ rfl ?_
   refine tP 6 43 (bl_ 3287295 24) ?_ HT_ HW_ rfl (.inl ⟨by rfl,?_⟩) hHeld ?_ ?_ ?_;rotate_left;(rintro w' ⟨s0,s1,s2,s3,s4,s5,s6,s7,s8,s9,s10,s11⟩;go_simp;with_reducible rfl);rotate_left;(simp only [Act.put,sq_,i64_w,i32_w];rfl)
   refine pQ 8 45 (bl_ 3287551 24) HT_ rfl ?_
   refine tP 9 46 (bl_ 3288063 24) ?_ HT_ HW_ rfl (.inl ⟨by rfl,?_⟩) hHeld ?_ ?_ ?_;rotate_left;(rintro w' ⟨s0,s1,s2,s3,s4,s5,s6,s7,s8,s9,s10,s11⟩;go_simp;with_reducible rfl);rotate_left;(simp only [Act.put,sq_,i64_w,i32_w];rfl)
   refine tP 10 47 (bl_ 3289087 24) ?_ HT_ HW_ rfl (.inl ⟨by rfl,?_⟩) hHeld ?_ ?_ ?_;rotate_left;(rintro w' ⟨s0,s1,s2,s3,s4,s5,s6,s7,s8,s9,s10,s11⟩;go_simp;with_reducible rfl);rotate_left;(simp only [Act.put,sq_,i64_w,i32_w];rfl)
   refine tP 12 49 (bl_ 3293183 24) ?_ HT_ HW_ rfl (.inl ⟨by rfl,?_⟩) hHeld ?_ ?_ ?_;rotate_left;(rintro w' ⟨s0,s1,s2,s3,s4,s5,s6,s7,s8,s9,s10,s11⟩;go_simp;with_reducible rfl);rotate_left;(simp only [Act.put,sq_,i64_w,i32_w];rfl)
   refine pQ 14 51 (bl_ 3309567 24) HT_ rfl ?_
   refine pQ 15 52 (bl_ 3342335 24) HT_ rfl ?_
   refine tP 16 53 (bl_ 3407871 24) ?_ HT_ HW_ rfl (.inl ⟨by rfl,?_⟩) hHeld ?_ ?_ ?_;rotate_left;(rintro w' ⟨s0,s1,s2,s3,s4,s5,s6,s7,s8,s9,s10,s11⟩;go_simp;with_reducible rfl);rotate_left;(simp only [Act.put,sq_,i64_w,i32_w];rfl)
   refine pQ 18 55 (bl_ 3670015 24) HT_ rfl ?_
   refine tP 19 56 (bl_ 4194303 24) ?_ HT_ HW_ rfl (.inl ⟨by rfl,?_⟩) hHeld ?_ ?_ ?_;rotate_left;(rintro w' ⟨s0,s1,s2,s3,s4,s5,s6,s7,s8,s9,s10,s11⟩;go_simp;with_reducible rfl);rotate_left;(simp only [Act.put,sq_,i64_w,i32_w];rfl)
   refine one_ (i := 22) (N := some 59) (bl_ 8388607 24) rfl rfl (one_of HT_.out (by kernel_rfl)) (by decide) (fun K hK => ?_)
   refine goes_ Try.func71 (by kernel_rfl) rfl #[.agg #[.slice (some ad757) l0_0.length c0_0,.int .i64 a0_1],.int .i64 (rd ((rd_T45 l0_0 a1).f2) x11_1),.agg #[.slice (some ad758) l2_0.length c2_0,.int .i64 a2_1],.int .i64 (rd ((rd_T45 l2_0 a3).f2) x11_1),.int .i64 (wrap64 (a4 - 1))] (by rfl) rfl rfl zM_ ?_
   with_reducible refine (ih k1 (by have := HK1.out;omega) _ _ l0_0 a0_1 (rd ((rd_T45 l0_0 a1).f2) x11_1) _ _ l2_0 a2_1 (rd ((rd_T45 l2_0 a3).f2) x11_1) (wrap64 (a4 - 1)) true _ ?side1 ?side2 ?side3 ?side4 A26.out).mono ?_
   (case side1 => exact zC_ (Kd.C_below HR0_0.out HB.out))
   (case side2 => exact HC0_0.out)
   (case side3 => exact zC_ (Kd.C_below HR2_0.out HB.out))
   (case side4 => exact HC2_0.out)
   rintro e w31 ⟨rfl,hb⟩
   refine ⟨_,rfl,?_⟩
   have n0_ := As_ (zkb BK755.out hb)
   have n1_ := As_ (zkb BK756.out hb)
   have n2_ := As_ (bwT (zb2 HB.out GE755.out GE756.out) hb)
   clear BK755 BK756 HB
   revert n0_ n1_ n2_;intro BK755 BK756 HB
   refine hK.out _ _ ⟨(bkC BK755.out 0).trans rfl,(bkC BK755.out 1).trans rfl,(bkC BK756.out 0).trans rfl,(bkC BK756.out 1).trans rfl,((HB.out.cell (bwL w _ hw761_0)).trans hw761_0),((HB.out.cell (bwL w _ hw761_1)).trans hw761_1),((HB.out.cell (bwL w _ hw761_2)).trans hw761_2),((HB.out.cell (bwL w _ hw762_0)).trans hw762_0),((HB.out.cell (bwL w _ hw763_0)).trans hw763_0),((HB.out.cell (bwL w _ hw763_1)).trans hw763_1),((HB.out.cell (bwL w _ hw763_2)).trans hw763_2),((HB.out.cell (bwL w _ hw764_0)).trans hw764_0)⟩ (fun hHeld => ?_)
   clear hK K
   refine norm_ (a' := ?_) ?_ ?_
   rotate_left
   ·show Act.put _ (some 59) _ = _
    simp only [Act.put,sq_,i64_w,i32_w]
    rfl
   refine pQ 23 60 (bl_ 16777215 24) HT_ rfl ?_
   refine done_ (done_of HT_.out (by kernel_rfl)) ?_
   try go_wp2
   go_roundg k1
   case measure => have := HK1.out;omega
   case rel => exact ⟨(wrap64 (x11_1 + 1)),zT_,H',⟨by have := HK1.out;omega⟩,⟨by (with_reducible repeat first|apply bkN|apply bkD|apply bkA);exact BK755.out⟩,⟨by (with_reducible repeat first|apply bkN|apply bkD|apply bkA);exact BK756.out⟩,⟨zb2 HB.out GE755.out GE756.out⟩⟩
end Go.Proofs.Ytfhakhbmbnbneaa.Q
