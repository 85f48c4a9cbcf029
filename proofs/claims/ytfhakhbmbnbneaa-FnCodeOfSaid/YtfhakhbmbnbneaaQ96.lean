-- Written by wip/tools/qprint.py (a program of this claim's author) by means of the kit's printer.
import Derived.Test.YtfhakhbmbnbneaaQ0
import Derived.Test.YtfhakhbmbnbneaaQ81
namespace Go.Proofs.Ytfhakhbmbnbneaa.Q
open Go.RowKit Go.Proofs.YtfhakhbmbnbneaaW.PrintWords Go.Proofs.YtfhakhbmbnbneaaW.PrintLast Go.Proofs.YtfhakhbmbnbneaaW.PrintMore
attribute [local go_sem] max2_int min2_int max_two min_two max_three min_three max_four min_four   -- for this text's walks alone
set_option linter.unusedVariables false
set_option linter.unusedSimpArgs false

/-! ### spec_code: function 96 -/
mutual
def spec_code.l0 : Nat → List Int → List Int → Int → List (S45) → Int → Int → Int → List Int → Option (List Int × List Int)
 | 0,_,_,_,_,_,_,_,_ => none
 | k + 1,x2,x3,x12,x889000,x889001,x891000,x891001,x891002 => if x12 < (x891002.length : Int) then (if 0 ≤ x12 then ((spec_code.f k x889000 x889001 (rd x891002 x12) x2 x3).bind fun bt911 => (spec_code.l0 k bt911.1 bt911.2 (wrap64 (x12 + 1)) x889000 x889001 x891000 x891001 x891002)) else (none)) else (some (x2,x3))
def spec_code.f : Nat → List (S45) → Int → Int → List Int → List Int → Option (List Int × List Int)
 | 0,_,_,_,_,_ => none
 | k + 1,l0_0,a0_1,a1,l2,l3 => if 0 ≤ a1 then (if a1 < (l0_0.length : Int) then ((spec_placeIn.f k l3 a1).bind fun t891 => (if t891 ≥ 0 then ((spec_copyInts.f l2).bind fun t892 => ((some (([(-1),t891] : List Int) : List Int)).bind fun y895 => (if t892.length + y895.length < 17592186044416 then (some ((t892 ++ y895),l3)) else (none)))) else ((spec_copyInts.f l2).bind fun t901 => ((some (([(rd_T45 l0_0 a1).f0,(rd_T45 l0_0 a1).f1,(((rd_T45 l0_0 a1).f2).length : Int)] : List Int) : List Int)).bind fun y904 => (if t901.length + y904.length < 17592186044416 then ((some (t901 ++ y904 : List Int)).bind fun y907 => (if ((rd_T45 l0_0 a1).f0) = 0 then (spec_code.l0 k y907 l3 0 l0_0 a0_1 ((rd_T45 l0_0 a1).f0) ((rd_T45 l0_0 a1).f1) ((rd_T45 l0_0 a1).f2)) else ((spec_copyInts.f l3).bind fun t917 => (if t917.length < 17592186044416 then (spec_code.l0 k y907 (t917 ++ [a1]) 0 l0_0 a0_1 ((rd_T45 l0_0 a1).f0) ((rd_T45 l0_0 a1).f1) ((rd_T45 l0_0 a1).f2)) else (none))))) else (none)))))) else (none)) else (none)
end
set_option maxRecDepth 100000 in
theorem spec_code.mono_l : ∀ k,(∀ y0 y1 y2 y3 y4,LeO (spec_code.f k y0 y1 y2 y3 y4) (spec_code.f (k + 1) y0 y1 y2 y3 y4)) ∧ (∀ y0 y1 y2 y3 y4 y5 y6 y7,LeO (spec_code.l0 k y0 y1 y2 y3 y4 y5 y6 y7) (spec_code.l0 (k + 1) y0 y1 y2 y3 y4 y5 y6 y7))
 | 0 => ⟨fun _ _ _ _ _ r h => (by cases h),fun _ _ _ _ _ _ _ _ r h => (by cases h)⟩
 | k + 1 => by
  obtain ⟨ih0,ih1⟩ := spec_code.mono_l k
  refine ⟨?_,?_⟩
  ·intro y0 y1 y2 y3 y4
   unfold spec_code.f
   repeat' first
   | (with_reducible exact ih0 _ _ _ _ _)
   | (with_reducible exact ih1 _ _ _ _ _ _ _ _)
   | (with_reducible exact spec_placeIn.mono _ _ _)
   | (with_reducible exact LeO.refl _)
   | (with_reducible exact LeO.none _)
   | (with_reducible refine LeO.ite ?_ ?_)
   | (with_reducible refine LeO.bind ?_ (fun _ => ?_))
   | exact ih0 _ _ _ _ _
   | exact ih1 _ _ _ _ _ _ _ _
   | exact spec_placeIn.mono _ _ _
   | exact LeO.none _
   | refine LeO.ite ?_ ?_
   | refine LeO.bind ?_ (fun _ => ?_)
  ·intro y0 y1 y2 y3 y4 y5 y6 y7
   unfold spec_code.l0
   repeat' first
   | (with_reducible exact ih0 _ _ _ _ _)
   | (with_reducible exact ih1 _ _ _ _ _ _ _ _)
   | (with_reducible exact spec_placeIn.mono _ _ _)
   | (with_reducible exact LeO.refl _)
   | (with_reducible exact LeO.none _)
   | (with_reducible refine LeO.ite ?_ ?_)
   | (with_reducible refine LeO.bind ?_ (fun _ => ?_))
   | exact ih0 _ _ _ _ _
   | exact ih1 _ _ _ _ _ _ _ _
   | exact spec_placeIn.mono _ _ _
   | exact LeO.none _
   | refine LeO.ite ?_ ?_
   | refine LeO.bind ?_ (fun _ => ?_)
set_option maxRecDepth 100000 in
theorem spec_code.mono : ∀ a0 a1 a2 a3 a4 k,LeO (spec_code.f k a0 a1 a2 a3 a4) (spec_code.f (k + 1) a0 a1 a2 a3 a4) := by
 intro a0 a1 a2 a3 a4 k
 obtain ⟨ih0,ih1⟩ := spec_code.mono_l k
 exact ih0 a0 a1 a2 a3 a4
def spec_code.T5 : Bool × List (List Nat × List Nat) := (true,[([],[]),([0],[0]),([],[]),([2],[2]),([],[]),([4],[4]),([],[]),([6],[6]),([7],[7]),([3,5,8],[3,5,8]),([1,9,1],[1,9]),([10,10,0,1,2,3,4,5,6,7,8,9,10],[0,10])])
def spec_code.B5 : List Nat := [0,1,0,4,0,16,0,64,192,508,1023,2047]
theorem spec_code.tab5 : rtab .any (opsOf Try.f96 5) = spec_code.T5 := by kernel_rfl
theorem spec_code.bits5 : waitsOk spec_code.T5.2 spec_code.B5 = true := by kernel_rfl
def spec_code.T11 : Bool × List (List Nat × List Nat) := (true,[([],[]),([],[]),([1],[1]),([],[]),([2,3],[2,3]),([4],[4]),([],[]),([],[]),([0,5,6,7],[0,5,6,7]),([8],[8]),([9],[9]),([9],[9]),([10,8,0,1,2,3,4,5,6,7,8,9,10],[6,10]),([11,12,0,1,2,3,4,5,6,7,8,9,10,11,12],[7,11])])
def spec_code.B11 : List Nat := [0,0,2,0,14,30,0,0,255,511,1023,1023,2047,8191]
theorem spec_code.tab11 : rtab .any (opsOf Try.f96 11) = spec_code.T11 := by kernel_rfl
theorem spec_code.bits11 : waitsOk spec_code.T11.2 spec_code.B11 = true := by kernel_rfl
set_option maxHeartbeats 8000000 in
set_option maxRecDepth 100000 in
theorem spec_code.calls (k : Nat) : ∀ (A0_0 : Option Addr) (c0_0 : Nat) (l0_0 : List (S45)) (a0_1 : Int) (a1 : Int) (A2 : Option Addr) (c2 : Nat) (l2 : List Int) (P3_ : Nat → Prop) (A3 : Option Addr) (c3 : Nat) (l3 : List Int) (r1 : List Int) (r2 : List Int) (w : World) (hr0_0 : Kd.C k45 w A0_0 l0_0.length l0_0) (hc0_0 : l0_0.length ≤ c0_0) (hr2 : Kd.C (Kd.int .i64) w A2 l2.length l2) (hc2 : l2.length ≤ c2) (hs3 : Kd.V (Kd.int .i64) 3 w w.heap.size (fun k_ => P3_ k_) (.slice A3 l3.length c3) l3) (h : spec_code.f k l0_0 a0_1 a1 l2 l3 = some (r1,r2)),
  Calls Try.prog 96 #[.agg #[.slice A0_0 l0_0.length c0_0,.int .i64 a0_1],.int .i64 a1,.slice A2 l2.length c2,.slice A3 l3.length c3] w fun e w' => ∃ v0_ v1_ : Value,e = .returned (.tuple #[v0_,v1_]) ∧ Kd.R (Kd.int .i64) 3 w' w.heap.size (fun k_ => (w.heap.size ≤ k_)) v0_ r1 ∧ Kd.V (Kd.int .i64) 3 w' w.heap.size (fun k_ => (P3_ k_ ∨ w.heap.size ≤ k_) ∧ some k_ ≠ (v0_ : Value).ownBlock) v1_ r2 ∧ Below w.heap.size w w' := by
 induction k using Nat.strongRecOn with
 | _ k ih =>
 intro A0_0 c0_0 l0_0 a0_1 a1 A2 c2 l2 P3_ A3 c3 l3 r1 r2 w hr0_0 hc0_0 hr2 hc2 hs3 h
 cases k with
 | zero => exact absurd h (by simp [spec_code.f])
 | succ k =>
 simp only [spec_code.f] at h
 have hu29 := Try.underlying29
 have hu45 := Try.underlying45
 have HR0_0 := As_ hr0_0
 have HC0_0 := As_ hc0_0
 clear hr0_0 hc0_0
 have HR2 := As_ hr2
 have HC2 := As_ hc2
 clear hr2 hc2
 have HO3 := As_ (show Kd.V (Kd.int .i64) 3 w w.heap.size (fun k_ => (P3_ k_ ∨ w.heap.size ≤ k_)) (.slice A3 l3.length c3) l3 from Kd.V_mono hs3 (fun k_ hk => .inl hk))
 have HB := As_ (Below.refl w.heap.size w)
 have H : (if 0 ≤ a1 then (if a1 < (l0_0.length : Int) then ((spec_placeIn.f k l3 a1).bind fun t891 => (if t891 ≥ 0 then ((spec_copyInts.f l2).bind fun t892 => ((some (([(-1),t891] : List Int) : List Int)).bind fun y895 => (if t892.length + y895.length < 17592186044416 then (some ((t892 ++ y895),l3)) else (none)))) else ((spec_copyInts.f l2).bind fun t901 => ((some (([(rd_T45 l0_0 a1).f0,(rd_T45 l0_0 a1).f1,(((rd_T45 l0_0 a1).f2).length : Int)] : List Int) : List Int)).bind fun y904 => (if t901.length + y904.length < 17592186044416 then ((some (t901 ++ y904 : List Int)).bind fun y907 => (if ((rd_T45 l0_0 a1).f0) = 0 then (spec_code.l0 k y907 l3 0 l0_0 a0_1 ((rd_T45 l0_0 a1).f0) ((rd_T45 l0_0 a1).f1) ((rd_T45 l0_0 a1).f2)) else ((spec_copyInts.f l3).bind fun t917 => (if t917.length < 17592186044416 then (spec_code.l0 k y907 (t917 ++ [a1]) 0 l0_0 a0_1 ((rd_T45 l0_0 a1).f0) ((rd_T45 l0_0 a1).f1) ((rd_T45 l0_0 a1).f2)) else (none))))) else (none)))))) else (none)) else (none)) = some (r1,r2) := h
 clear h
 by_cases c5 : 0 ≤ a1
 rotate_left
 ·rw [if_neg c5] at H
  exact absurd H (by simp)
 rw [if_pos c5] at H
 have c5b0 : decide (0 ≤ a1) = true := deT c5
 clear c5
 by_cases c6 : a1 < (l0_0.length : Int)
 rotate_left
 ·rw [if_neg c6] at H
  exact absurd H (by simp)
 rw [if_pos c6] at H
 have c6b0 : decide (a1 < (l0_0.length : Int)) = true := deT c6
 clear c6
 replace H := obS H
 obtain ⟨t891,A70,H⟩ := H
 replace H : (if t891 ≥ 0 then ((spec_copyInts.f l2).bind fun t892 => ((some (([(-1),t891] : List Int) : List Int)).bind fun y895 => (if t892.length + y895.length < 17592186044416 then (some ((t892 ++ y895),l3)) else (none)))) else ((spec_copyInts.f l2).bind fun t901 => ((some (([(rd_T45 l0_0 a1).f0,(rd_T45 l0_0 a1).f1,(((rd_T45 l0_0 a1).f2).length : Int)] : List Int) : List Int)).bind fun y904 => (if t901.length + y904.length < 17592186044416 then ((some (t901 ++ y904 : List Int)).bind fun y907 => (if ((rd_T45 l0_0 a1).f0) = 0 then (spec_code.l0 k y907 l3 0 l0_0 a0_1 ((rd_T45 l0_0 a1).f0) ((rd_T45 l0_0 a1).f1) ((rd_T45 l0_0 a1).f2)) else ((spec_copyInts.f l3).bind fun t917 => (if t917.length < 17592186044416 then (spec_code.l0 k y907 (t917 ++ [a1]) 0 l0_0 a0_1 ((rd_T45 l0_0 a1).f0) ((rd_T45 l0_0 a1).f1) ((rd_T45 l0_0 a1).f2)) else (none))))) else (none))))) = some (r1,r2) := H
 have A7 := As_ A70
 clear A70
 by_cases c8 : t891 ≥ 0
 ·rw [if_pos c8] at H
  have c8b0 : decide (0 ≤ t891) = true := deT c8
  clear c8
  replace H := obS H
  obtain ⟨t892,A90,H⟩ := H
  replace H : ((some (([(-1),t891] : List Int) : List Int)).bind fun y895 => (if t892.length + y895.length < 17592186044416 then (some ((t892 ++ y895),l3)) else (none))) = some (r1,r2) := H
  have A9 := As_ A90
  clear A90
  obtain ⟨y895,hy895⟩ : ∃ y_ : List Int,y_ = (([(-1),t891] : List Int)) := ⟨_,rfl⟩
  replace H : (if t892.length + y895.length < 17592186044416 then (some ((t892 ++ y895),l3)) else (none)) = some (r1,r2) := zH_ H hy895
  have Ny895 := As_ hy895
  clear hy895
  by_cases c10 : t892.length + y895.length < 17592186044416
  rotate_left
  ·rw [if_neg c10] at H
   exact absurd H (by simp)
  rw [if_pos c10] at H
  have LMc10 := As_ c10
  clear c10
  obtain ⟨y898,hy898⟩ : ∃ y_ : List Int,y_ = (t892 ++ y895) := ⟨_,rfl⟩
  replace H : (some (y898,l3)) = some (r1,r2) := zH_ H hy898
  have Ny898 := As_ hy898
  clear hy898
  simp only [Option.some.injEq,Prod.mk.injEq] at H
  obtain ⟨rfl,rfl⟩ := H
  go_enter Try.func96,Try.ntmps96
  go_wp2_with (first|((with_reducible refine gate_dst (N := 4) rfl ?_);refine box_event ?hg (N := 4) ?hd (cs := #[.slice A0_0 l0_0.length c0_0,.int .i64 a0_1]) (t := 29) ?hr ?_;(case hd => rfl);(case hg => rfl);(case hr => go_simp <;> rfl);intro gb888 hg w11 hbox hb;have n0_ := As_ (Kd.V_below (Kd.V_elderB (by (with_reducible repeat (first|apply Kd.V_alloc|apply Kd.V_drewN|apply Kd.V_drew));exact HO3.out) gb888 (Nat.le_of_eq hg.symm)) hb);have n1_ := As_ (bwT (zb0 HB.out) hb);have n2_ := As_ (hbox);have n3_ := As_ ((by rw [hg];exact (bwZ (zb0 HB.out)) : w.heap.size ≤ gb888));have n4_ := As_ ((by rw [hg];exact (bwZ (zb0 HB.out)) : w.heap.size ≤ gb888));clear HO3 HB;revert n0_ n1_ n2_ n3_ n4_;intro HO3 HB BK888 GW888 GE888;clear hb hbox hg;obtain ⟨hcz12_0,hcz12_1,hfz12_0,hfz12_1⟩ := bk2 BK888.out;have p889 : 0 ≤ (a1 : Int) := odT zA_;have q889 : a1 < (l0_0.length : Int) := odT zA_;obtain ⟨ad889,A889_2,c889_2,e889,hx889_0,hx889_1,hx889_2,hl889_2,hi889_2⟩ := at_T45 HR0_0.out a1 p889 q889;cases e889;replace hx889_0 := bwC HB.out hx889_0;replace hx889_1 := bwC HB.out hx889_1;replace hx889_2 := bwC HB.out hx889_2;have HR889_2 := As_ hi889_2;have HC889_2 := As_ hl889_2;clear hi889_2 hl889_2;replace p889 := eq_true p889;replace q889 := eq_true q889)|((with_reducible refine gate_dst (N := 10) rfl ?_);refine box_event ?hg (N := 10) ?hd (cs := #[.int .i64 0,.int .i64 0,.slice none 0 0]) (t := 45) ?hr ?_;(case hd => rfl);(case hg => rfl);(case hr => go_simp <;> rfl);intro gb890 hg w13 hbox hb;have n0_ := As_ (Kd.V_below (Kd.V_elderB (by (with_reducible repeat (first|apply Kd.V_alloc|apply Kd.V_drewN|apply Kd.V_drew));exact HO3.out) gb890 (Nat.le_of_eq hg.symm)) hb);have n1_ := As_ (zkb BK888.out hb);have n2_ := As_ (bwT (zb1 HB.out GE888.out) hb);have n3_ := As_ (hbox);have n4_ := As_ ((by rw [hg];exact (bwZ (zb1 HB.out GE888.out)) : w.heap.size ≤ gb890));have n5_ := As_ ((by rw [hg];exact (bwZ (zb1 HB.out GE888.out)) : w.heap.size ≤ gb890));have n6_ := As_ ((by rw [hg];exact Nat.ne_of_lt (zkl BK888.out) : gb888 ≠ gb890));have n7_ := As_ ((by rw [hg];exact Nat.ne_of_gt (zkl BK888.out) : gb890 ≠ gb888));clear HO3 BK888 HB;revert n0_ n1_ n2_ n3_ n4_ n5_ n6_ n7_;intro HO3 BK888 HB BK890 GW890 GE890 NB888_890 NB890_888;clear hb hbox hg;have hnb14 := NB890_888.out;have hnc14 := NB888_890.out;obtain ⟨hcz15_0,hcz15_1,hcz15_2,hfz15_0,hfz15_1,hfz15_2⟩ := bk3 BK890.out)|((with_reducible refine gate_callee (f := 82) rfl ?_);refine goesL_ (some 20) rfl rfl Try.func82 (by kernel_rfl) rfl #[.slice A3 l3.length c3,.int .i64 a1] rfl zM_ ?_;(with_reducible refine (spec_placeIn.calls k _ _ l3 a1 t891 _ ?side1 ?side2 A7.out).mono ?_);(case side1 => refine (Kd.V_reads' (e := 3) (base := w.heap.size) (ok := fun k_ => (((P3_ k_ ∨ w.heap.size ≤ k_) ∧ k_ ≠ gb888) ∧ k_ ≠ gb890)) (n := l3.length) (c := c3) ?_).2.2;exact (by (with_reducible repeat (first|apply Kd.V_alloc|apply Kd.V_drewN|apply Kd.V_drew));exact (Kd.V_mono (Kd.V_far (p := ⟨gb890,2,none⟩) (Kd.V_far (p := ⟨gb890,1,none⟩) (Kd.V_far (p := ⟨gb890,0,none⟩) (Kd.V_mono HO3.out (fun k_ hk => (⟨hk,hk.2⟩ : _ ∧ k_ ≠ gb890))) (fun _ hk => hk.2) (.int .i64 ((rd_T45 l0_0 a1).f0))) (fun _ hk => hk.2) (.int .i64 ((rd_T45 l0_0 a1).f1))) (fun _ hk => hk.2) (.slice A889_2 ((rd_T45 l0_0 a1).f2).length c889_2)) (fun _ h_ => h_.1))));(case side2 => exact (Kd.V_reads' HO3.out).2.1);rintro e w' ⟨rfl,⟨nd,rfl⟩⟩;refine ⟨_,rfl,?_⟩)|((with_reducible refine gate_callee (f := 78) rfl ?_);refine goesL_ (some 24) rfl rfl Try.func78 (by kernel_rfl) rfl #[.slice A2 l2.length c2] rfl zM_ ?_;(with_reducible refine (spec_copyInts.calls _ _ l2 t892 _ ?side1 ?side2 A9.out).mono ?_);(case side1 => exact Kd.C_below HR2.out (zb2 HB.out GE888.out GE890.out));(case side2 => exact HC2.out);rintro e w16 ⟨v893,rfl,ho0,hb⟩;refine ⟨_,rfl,?_⟩;have n0_ := As_ (Kd.V_elder' (by (with_reducible repeat (first|apply Kd.V_alloc|apply Kd.V_drewN|apply Kd.V_drew));exact (Kd.V_mono (Kd.V_far (p := ⟨gb890,2,none⟩) (Kd.V_far (p := ⟨gb890,1,none⟩) (Kd.V_far (p := ⟨gb890,0,none⟩) (Kd.V_mono HO3.out (fun k_ hk => (⟨hk,hk.2⟩ : _ ∧ k_ ≠ gb890))) (fun _ hk => hk.2) (.int .i64 ((rd_T45 l0_0 a1).f0))) (fun _ hk => hk.2) (.int .i64 ((rd_T45 l0_0 a1).f1))) (fun _ hk => hk.2) (.slice A889_2 ((rd_T45 l0_0 a1).f2).length c889_2)) (fun _ h_ => h_.1))) (Kd.R_base ho0) hb);have n1_ := As_ (Kd.R_lower (Kd.R_newM (M := fun k_ => (w.heap.size ≤ k_)) ho0 (bwZ (zb2 HB.out GE888.out GE890.out)) (fun k_ h_ => h_)) (bwZ (zb2 HB.out GE888.out GE890.out)));have n2_ := As_ (blk_below (g := gb888) (o := .cells #[.slice (some ad889) l0_0.length c0_0,.int .i64 a0_1] 29 (0,0)) (by (with_reducible repeat first|apply bkN|apply bkD|apply bkA);refine blk_far ?_ NB888_890.out _;(with_reducible repeat first|apply bkN|apply bkD|apply bkA);refine blk_far ?_ NB888_890.out _;(with_reducible repeat first|apply bkN|apply bkD|apply bkA);refine blk_far ?_ NB888_890.out _;(with_reducible repeat first|apply bkN|apply bkD|apply bkA);exact BK888.out) hb);have n3_ := As_ (blk_below (g := gb890) (o := .cells #[.int .i64 ((rd_T45 l0_0 a1).f0),.int .i64 ((rd_T45 l0_0 a1).f1),.slice A889_2 ((rd_T45 l0_0 a1).f2).length c889_2] 45 (0,0)) (by (with_reducible repeat first|apply bkN|apply bkD|apply bkA);refine blk_put (cs := #[.int .i64 ((rd_T45 l0_0 a1).f0),.int .i64 ((rd_T45 l0_0 a1).f1),.slice none 0 0]) ?_ 2 _ rfl;(with_reducible repeat first|apply bkN|apply bkD|apply bkA);refine blk_put (cs := #[.int .i64 ((rd_T45 l0_0 a1).f0),.int .i64 0,.slice none 0 0]) ?_ 1 _ rfl;(with_reducible repeat first|apply bkN|apply bkD|apply bkA);refine blk_put (cs := #[.int .i64 0,.int .i64 0,.slice none 0 0]) ?_ 0 _ rfl;(with_reducible repeat first|apply bkN|apply bkD|apply bkA);exact BK890.out) hb);have n4_ := As_ (bwT (zb2 HB.out GE888.out GE890.out) hb);clear HO3 BK888 BK890 HB;revert n0_ n1_ n2_ n3_ n4_;intro HO3 HO894 BK888 BK890 HB)|((with_reducible refine gate_dst (N := 26) rfl ?_);refine Kd.R_lit (Kd.int .i64) _ 3 ?hg (N := 26) ?hd (xs := ([(-1),t891] : List Int)) (inner := [.int .i64 (-1),.int .i64 t891]) (ok := fun _ => True) (okp := fun _ => True) ?hr ?hp (fun _ hk => hk) trivial (Below.refl _ _) (Nat.le_refl _) (by simp) ?_;(case hd => rfl);(case hg => rfl);(case hr => go_simp <;> rfl);(case hp => exact (Reps.one (show Kd.M (Kd.int .i64) _ _ _ (-1) [.int .i64 (-1)] from rfl) (Reps.one (show Kd.M (Kd.int .i64) _ _ _ t891 [.int .i64 t891] from rfl) (Reps.none _ _))));intro v896 w17 ho18 hb hg_ hnew_;clear hg_ hnew_;(first|rw [← Ny895.out] at ho18|(simp only [Int.reduceToNat] at ho18;rw [← Ny895.out] at ho18));have n0_ := As_ (Kd.V_elder' (by (with_reducible repeat (first|apply Kd.V_alloc|apply Kd.V_drewN|apply Kd.V_drew));exact HO3.out) (Kd.R_base ho18) hb);have n1_ := As_ (Kd.R_elder' (zR_ HO894.out) (Kd.R_base ho18) hb);have n2_ := As_ (Kd.R_lower (Kd.R_new' (Kd.R_newM (M := fun k_ => (w.heap.size ≤ k_)) ho18 (bwZ (zb2 HB.out GE888.out GE890.out)) (fun k_ h_ => h_)) (Kd.R_lt (zR_ HO894.out))) (bwZ (zb2 HB.out GE888.out GE890.out)));have n3_ := As_ (zkb BK888.out hb);have n4_ := As_ (zkb BK890.out hb);have n5_ := As_ (bwT (zb2 HB.out GE888.out GE890.out) hb);clear HO3 HO894 BK888 BK890 HB;revert n0_ n1_ n2_ n3_ n4_ n5_;intro HO3 HO894 HO897 BK888 BK890 HB;clear hb ho18;obtain ⟨Ao20,co20,eo20⟩ := Kd.R_slice HO897.out;subst eo20)|((with_reducible refine gate_builtin (b := .append) (xs := #[.tmp 24,.tmp 26]) rfl ?_);at_builtin;refine Kd.R_append_rows (Kd.int .i64) (w0 := w) w.heap.size rfl (.tmp 24) (.tmp 26) 37 3 (.int .i64 0) 8 rfl Try.underlying37 info3 rfl (by decide) (by omega) v893 t892 y895 _ _ _ (fun k_ => (w.heap.size ≤ k_) ∧ some k_ ≠ (.slice Ao20 y895.length co20 : Value).ownBlock) (fun _ => False) rfl rfl ?aO ?aR (fun _ _ h => h) (fun _ h => h.elim) ?aF ?aB ?aS ?aL ?_;(case aR => exact zC_ (Kd.R_reads' HO897.out).2.2);(case aB => exact (zb2 HB.out GE888.out GE890.out));(case aF => exact (fun k_ hk => ⟨(Nat.le_trans (bwZ (zb2 HB.out GE888.out GE890.out)) hk),Kd.fresh' (Kd.R_lt (zR_ HO897.out)) k_ hk⟩));(case aO => exact (by (with_reducible repeat (first|apply Kd.R_alloc|apply Kd.R_drewN|apply Kd.R_drew));exact Kd.R_mono HO894.out (fun _ hk => ⟨hk.1.1,hk.2⟩)));(case aS => exact (bwZ (zb2 HB.out GE888.out GE890.out)));(case aL => have := LMc10.out;omega);intro v899 w19 ho hb hg hat;rw [← Ny898.out] at ho;have n0_ := As_ (Kd.V_afterv (ok := (fun k_ => (P3_ k_ ∨ w.heap.size ≤ k_) ∧ some k_ ≠ (.slice Ao20 y895.length co20 : Value).ownBlock ∧ k_ ≠ gb888 ∧ k_ ≠ gb890)) (by (with_reducible repeat (first|apply Kd.V_alloc|apply Kd.V_drewN|apply Kd.V_drew));exact Kd.V_mono HO3.out (fun _ hk => ⟨⟨hk.1.1.1.1,⟨hk.2,⟨hk.1.1.1.2,hk.1.1.2⟩⟩⟩,hk.1.2⟩)) hg hat);have n1_ := As_ (blk_grown (g := gb888) (o := .cells #[.slice (some ad889) l0_0.length c0_0,.int .i64 a0_1] 29 (0,0)) (zk_ BK888.out) hg (Kd.R_ne HO894.out BK888.out (by decide)));have n2_ := As_ (blk_grown (g := gb890) (o := .cells #[.int .i64 ((rd_T45 l0_0 a1).f0),.int .i64 ((rd_T45 l0_0 a1).f1),.slice A889_2 ((rd_T45 l0_0 a1).f2).length c889_2] 45 (0,0)) (zk_ BK890.out) hg (Kd.R_ne HO894.out BK890.out (by decide)));have n3_ := As_ (Kd.R_after (ok := (fun k_ => (w.heap.size ≤ k_))) (by (with_reducible repeat (first|apply Kd.R_alloc|apply Kd.R_drewN|apply Kd.R_drew));exact Kd.R_mono HO897.out (fun _ hk => ⟨hk.1.1,hk.2⟩)) hg hat);have n4_ := As_ (hb);have n5_ := As_ (ho);clear HO3 BK888 BK890 HO897 HB HO894;revert n0_ n1_ n2_ n3_ n4_ n5_;intro HO3 BK888 BK890 HO897 HB HO900;clear ho hb hg hat))
  go_ret2
  exact ⟨_,_,zE_,by (with_reducible repeat (first|apply Kd.R_alloc|apply Kd.R_drewN|apply Kd.R_drew));exact Kd.R_mono HO900.out (fun _ hk => hk.1),by (with_reducible repeat (first|apply Kd.V_alloc|apply Kd.V_drewN|apply Kd.V_drew));exact Kd.V_mono HO3.out (fun _ hk => ⟨hk.1.1,hk.2⟩),zb2 HB.out GE888.out GE890.out⟩
 rw [if_neg c8] at H
 have c8b0 : decide (0 ≤ t891) = false := deF c8
 clear c8
 replace H := obS H
 obtain ⟨t901,A210,H⟩ := H
 replace H : ((some (([(rd_T45 l0_0 a1).f0,(rd_T45 l0_0 a1).f1,(((rd_T45 l0_0 a1).f2).length : Int)] : List Int) : List Int)).bind fun y904 => (if t901.length + y904.length < 17592186044416 then ((some (t901 ++ y904 : List Int)).bind fun y907 => (if ((rd_T45 l0_0 a1).f0) = 0 then (spec_code.l0 k y907 l3 0 l0_0 a0_1 ((rd_T45 l0_0 a1).f0) ((rd_T45 l0_0 a1).f1) ((rd_T45 l0_0 a1).f2)) else ((spec_copyInts.f l3).bind fun t917 => (if t917.length < 17592186044416 then (spec_code.l0 k y907 (t917 ++ [a1]) 0 l0_0 a0_1 ((rd_T45 l0_0 a1).f0) ((rd_T45 l0_0 a1).f1) ((rd_T45 l0_0 a1).f2)) else (none))))) else (none))) = some (r1,r2) := H
 have A21 := As_ A210
 clear A210
 obtain ⟨y904,hy904⟩ : ∃ y_ : List Int,y_ = (([(rd_T45 l0_0 a1).f0,(rd_T45 l0_0 a1).f1,(((rd_T45 l0_0 a1).f2).length : Int)] : List Int)) := ⟨_,rfl⟩
 replace H : (if t901.length + y904.length < 17592186044416 then ((some (t901 ++ y904 : List Int)).bind fun y907 => (if ((rd_T45 l0_0 a1).f0) = 0 then (spec_code.l0 k y907 l3 0 l0_0 a0_1 ((rd_T45 l0_0 a1).f0) ((rd_T45 l0_0 a1).f1) ((rd_T45 l0_0 a1).f2)) else ((spec_copyInts.f l3).bind fun t917 => (if t917.length < 17592186044416 then (spec_code.l0 k y907 (t917 ++ [a1]) 0 l0_0 a0_1 ((rd_T45 l0_0 a1).f0) ((rd_T45 l0_0 a1).f1) ((rd_T45 l0_0 a1).f2)) else (none))))) else (none)) = some (r1,r2) := zH_ H hy904
 have Ny904 := As_ hy904
 clear hy904
 by_cases c22 : t901.length + y904.length < 17592186044416
 rotate_left
 ·rw [if_neg c22] at H
  exact absurd H (by simp)
 rw [if_pos c22] at H
 have LMc22 := As_ c22
 clear c22
 obtain ⟨y907,hy907⟩ : ∃ y_ : List Int,y_ = (t901 ++ y904) := ⟨_,rfl⟩
 replace H : (if ((rd_T45 l0_0 a1).f0) = 0 then (spec_code.l0 k y907 l3 0 l0_0 a0_1 ((rd_T45 l0_0 a1).f0) ((rd_T45 l0_0 a1).f1) ((rd_T45 l0_0 a1).f2)) else ((spec_copyInts.f l3).bind fun t917 => (if t917.length < 17592186044416 then (spec_code.l0 k y907 (t917 ++ [a1]) 0 l0_0 a0_1 ((rd_T45 l0_0 a1).f0) ((rd_T45 l0_0 a1).f1) ((rd_T45 l0_0 a1).f2)) else (none)))) = some (r1,r2) := zH_ H hy907
 have Ny907 := As_ hy907
 clear hy907
 by_cases c23 : ((rd_T45 l0_0 a1).f0) = 0
 ·rw [if_pos c23] at H
  have c23b0 : (((rd_T45 l0_0 a1).f0) == 0) = true := beq_iff_eq.mpr c23
  have c23b1 : (((rd_T45 l0_0 a1).f0) != 0) = false := bne_eq_false_iff_eq.mpr c23
  clear c23
  have H' := As_ H
  clear H
  go_enter Try.func96,Try.ntmps96
  try go_wp2_with (first|((with_reducible refine gate_dst (N := 4) rfl ?_);refine box_event ?hg (N := 4) ?hd (cs := #[.slice A0_0 l0_0.length c0_0,.int .i64 a0_1]) (t := 29) ?hr ?_;(case hd => rfl);(case hg => rfl);(case hr => go_simp <;> rfl);intro gb888 hg w24 hbox hb;have n0_ := As_ (Kd.V_below (Kd.V_elderB (by (with_reducible repeat (first|apply Kd.V_alloc|apply Kd.V_drewN|apply Kd.V_drew));exact HO3.out) gb888 (Nat.le_of_eq hg.symm)) hb);have n1_ := As_ (bwT (zb0 HB.out) hb);have n2_ := As_ (hbox);have n3_ := As_ ((by rw [hg];exact (bwZ (zb0 HB.out)) : w.heap.size ≤ gb888));have n4_ := As_ ((by rw [hg];exact (bwZ (zb0 HB.out)) : w.heap.size ≤ gb888));clear HO3 HB;revert n0_ n1_ n2_ n3_ n4_;intro HO3 HB BK888 GW888 GE888;clear hb hbox hg;obtain ⟨hcz25_0,hcz25_1,hfz25_0,hfz25_1⟩ := bk2 BK888.out;have p889 : 0 ≤ (a1 : Int) := odT zA_;have q889 : a1 < (l0_0.length : Int) := odT zA_;obtain ⟨ad889,A889_2,c889_2,e889,hx889_0,hx889_1,hx889_2,hl889_2,hi889_2⟩ := at_T45 HR0_0.out a1 p889 q889;cases e889;replace hx889_0 := bwC HB.out hx889_0;replace hx889_1 := bwC HB.out hx889_1;replace hx889_2 := bwC HB.out hx889_2;have HR889_2 := As_ hi889_2;have HC889_2 := As_ hl889_2;clear hi889_2 hl889_2;replace p889 := eq_true p889;replace q889 := eq_true q889)|((with_reducible refine gate_dst (N := 10) rfl ?_);refine box_event ?hg (N := 10) ?hd (cs := #[.int .i64 0,.int .i64 0,.slice none 0 0]) (t := 45) ?hr ?_;(case hd => rfl);(case hg => rfl);(case hr => go_simp <;> rfl);intro gb890 hg w26 hbox hb;have n0_ := As_ (Kd.V_below (Kd.V_elderB (by (with_reducible repeat (first|apply Kd.V_alloc|apply Kd.V_drewN|apply Kd.V_drew));exact HO3.out) gb890 (Nat.le_of_eq hg.symm)) hb);have n1_ := As_ (zkb BK888.out hb);have n2_ := As_ (bwT (zb1 HB.out GE888.out) hb);have n3_ := As_ (hbox);have n4_ := As_ ((by rw [hg];exact (bwZ (zb1 HB.out GE888.out)) : w.heap.size ≤ gb890));have n5_ := As_ ((by rw [hg];exact (bwZ (zb1 HB.out GE888.out)) : w.heap.size ≤ gb890));have n6_ := As_ ((by rw [hg];exact Nat.ne_of_lt (zkl BK888.out) : gb888 ≠ gb890));have n7_ := As_ ((by rw [hg];exact Nat.ne_of_gt (zkl BK888.out) : gb890 ≠ gb888));clear HO3 BK888 HB;revert n0_ n1_ n2_ n3_ n4_ n5_ n6_ n7_;intro HO3 BK888 HB BK890 GW890 GE890 NB888_890 NB890_888;clear hb hbox hg;have hnb27 := NB890_888.out;have hnc27 := NB888_890.out;obtain ⟨hcz28_0,hcz28_1,hcz28_2,hfz28_0,hfz28_1,hfz28_2⟩ := bk3 BK890.out)|((with_reducible refine gate_callee (f := 82) rfl ?_);refine goesL_ (some 20) rfl rfl Try.func82 (by kernel_rfl) rfl #[.slice A3 l3.length c3,.int .i64 a1] rfl zM_ ?_;(with_reducible refine (spec_placeIn.calls k _ _ l3 a1 t891 _ ?side1 ?side2 A7.out).mono ?_);(case side1 => refine (Kd.V_reads' (e := 3) (base := w.heap.size) (ok := fun k_ => (((P3_ k_ ∨ w.heap.size ≤ k_) ∧ k_ ≠ gb888) ∧ k_ ≠ gb890)) (n := l3.length) (c := c3) ?_).2.2;exact (by (with_reducible repeat (first|apply Kd.V_alloc|apply Kd.V_drewN|apply Kd.V_drew));exact (Kd.V_mono (Kd.V_far (p := ⟨gb890,2,none⟩) (Kd.V_far (p := ⟨gb890,1,none⟩) (Kd.V_far (p := ⟨gb890,0,none⟩) (Kd.V_mono HO3.out (fun k_ hk => (⟨hk,hk.2⟩ : _ ∧ k_ ≠ gb890))) (fun _ hk => hk.2) (.int .i64 ((rd_T45 l0_0 a1).f0))) (fun _ hk => hk.2) (.int .i64 ((rd_T45 l0_0 a1).f1))) (fun _ hk => hk.2) (.slice A889_2 ((rd_T45 l0_0 a1).f2).length c889_2)) (fun _ h_ => h_.1))));(case side2 => exact (Kd.V_reads' HO3.out).2.1);rintro e w' ⟨rfl,⟨nd,rfl⟩⟩;refine ⟨_,rfl,?_⟩))
  have n0_ : Aside0 (Kd.V (Kd.int .i64) 3 (((w26.setCell ⟨gb890,0,none⟩ (.int .i64 ((rd_T45 l0_0 a1).f0))).setCell ⟨gb890,1,none⟩ (.int .i64 ((rd_T45 l0_0 a1).f1))).setCell ⟨gb890,2,none⟩ (.slice A889_2 ((rd_T45 l0_0 a1).f2).length c889_2)) w.heap.size (fun k_ => (P3_ k_ ∨ w.heap.size ≤ k_) ∧ k_ ≠ gb888 ∧ k_ ≠ gb890) (.slice A3 l3.length c3) l3) := ⟨by (with_reducible repeat (first|apply Kd.V_alloc|apply Kd.V_drewN|apply Kd.V_drew));exact Kd.V_mono (Kd.V_far (p := ⟨gb890,2,none⟩) (Kd.V_far (p := ⟨gb890,1,none⟩) (Kd.V_far (p := ⟨gb890,0,none⟩) (Kd.V_mono HO3.out (fun k_ hk => (⟨hk,hk.2⟩ : _ ∧ k_ ≠ gb890))) (fun _ hk => hk.2) (.int .i64 ((rd_T45 l0_0 a1).f0))) (fun _ hk => hk.2) (.int .i64 ((rd_T45 l0_0 a1).f1))) (fun _ hk => hk.2) (.slice A889_2 ((rd_T45 l0_0 a1).f2).length c889_2)) (fun _ hk => ⟨hk.1.1.1,⟨hk.1.1.2,hk.1.2⟩⟩)⟩
  have n1_ : Aside0 ((((w26.setCell ⟨gb890,0,none⟩ (.int .i64 ((rd_T45 l0_0 a1).f0))).setCell ⟨gb890,1,none⟩ (.int .i64 ((rd_T45 l0_0 a1).f1))).setCell ⟨gb890,2,none⟩ (.slice A889_2 ((rd_T45 l0_0 a1).f2).length c889_2)).heap[gb888]? = some (.cells #[.slice (some ad889) l0_0.length c0_0,.int .i64 a0_1] 29 (0,0))) := ⟨by (with_reducible repeat first|apply bkN|apply bkD|apply bkA);refine blk_far ?_ NB888_890.out _;(with_reducible repeat first|apply bkN|apply bkD|apply bkA);refine blk_far ?_ NB888_890.out _;(with_reducible repeat first|apply bkN|apply bkD|apply bkA);refine blk_far ?_ NB888_890.out _;(with_reducible repeat first|apply bkN|apply bkD|apply bkA);exact BK888.out⟩
  have n2_ : Aside0 ((((w26.setCell ⟨gb890,0,none⟩ (.int .i64 ((rd_T45 l0_0 a1).f0))).setCell ⟨gb890,1,none⟩ (.int .i64 ((rd_T45 l0_0 a1).f1))).setCell ⟨gb890,2,none⟩ (.slice A889_2 ((rd_T45 l0_0 a1).f2).length c889_2)).heap[gb890]? = some (.cells #[.int .i64 ((rd_T45 l0_0 a1).f0),.int .i64 ((rd_T45 l0_0 a1).f1),.slice A889_2 ((rd_T45 l0_0 a1).f2).length c889_2] 45 (0,0))) := ⟨by (with_reducible repeat first|apply bkN|apply bkD|apply bkA);refine blk_put (cs := #[.int .i64 ((rd_T45 l0_0 a1).f0),.int .i64 ((rd_T45 l0_0 a1).f1),.slice none 0 0]) ?_ 2 _ rfl;(with_reducible repeat first|apply bkN|apply bkD|apply bkA);refine blk_put (cs := #[.int .i64 ((rd_T45 l0_0 a1).f0),.int .i64 0,.slice none 0 0]) ?_ 1 _ rfl;(with_reducible repeat first|apply bkN|apply bkD|apply bkA);refine blk_put (cs := #[.int .i64 0,.int .i64 0,.slice none 0 0]) ?_ 0 _ rfl;(with_reducible repeat first|apply bkN|apply bkD|apply bkA);exact BK890.out⟩
  have n3_ : Aside0 (Below w.heap.size w (((w26.setCell ⟨gb890,0,none⟩ (.int .i64 ((rd_T45 l0_0 a1).f0))).setCell ⟨gb890,1,none⟩ (.int .i64 ((rd_T45 l0_0 a1).f1))).setCell ⟨gb890,2,none⟩ (.slice A889_2 ((rd_T45 l0_0 a1).f2).length c889_2))) := ⟨zb2 HB.out GE888.out GE890.out⟩
  generalize (((w26.setCell ⟨gb890,0,none⟩ (.int .i64 ((rd_T45 l0_0 a1).f0))).setCell ⟨gb890,1,none⟩ (.int .i64 ((rd_T45 l0_0 a1).f1))).setCell ⟨gb890,2,none⟩ (.slice A889_2 ((rd_T45 l0_0 a1).f2).length c889_2)) = w29 at n0_ n1_ n2_ n3_ ⊢
  revert n0_ n1_ n2_ n3_;intro HO3 BK888 BK890 HB
  (try (rw [drewN_self w29];generalize hq_ : World.drewN w29 _ = w29;have n0_ : Aside0 (Kd.V (Kd.int .i64) 3 w29 w.heap.size (fun k_ => (P3_ k_ ∨ w.heap.size ≤ k_) ∧ k_ ≠ gb888 ∧ k_ ≠ gb890) (.slice A3 l3.length c3) l3) := ⟨by rw [← hq_];exact (by (with_reducible repeat (first|apply Kd.V_alloc|apply Kd.V_drewN|apply Kd.V_drew));exact HO3.out)⟩;have n1_ : Aside0 (w29.heap[gb888]? = some (.cells #[.slice (some ad889) l0_0.length c0_0,.int .i64 a0_1] 29 (0,0))) := ⟨by rw [← hq_];exact (zk_ BK888.out)⟩;have n2_ : Aside0 (w29.heap[gb890]? = some (.cells #[.int .i64 ((rd_T45 l0_0 a1).f0),.int .i64 ((rd_T45 l0_0 a1).f1),.slice A889_2 ((rd_T45 l0_0 a1).f2).length c889_2] 45 (0,0))) := ⟨by rw [← hq_];exact (zk_ BK890.out)⟩;have n3_ : Aside0 (Below w.heap.size w w29) := ⟨by rw [← hq_];exact (zb2 HB.out GE888.out GE890.out)⟩;clear HO3 BK888 BK890 HB hq_;revert n0_ n1_ n2_ n3_;intro HO3 BK888 BK890 HB))
  have n0_ := As_ (Kd.V_drew HO3.out)
  have n1_ := As_ (bkD BK888.out)
  have n2_ := As_ (bkD BK890.out)
  have n3_ := As_ (bwD HB.out)
  clear HO3 BK888 BK890 HB
  revert n0_ n1_ n2_ n3_;intro HO3 BK888 BK890 HB
  refine start_ (n := 12) (S := fun w' => w'.cell? ⟨gb890,0,none⟩ = some (.int .i64 ((rd_T45 l0_0 a1).f0)) ∧ w'.cell? ⟨gb890,1,none⟩ = some (.int .i64 ((rd_T45 l0_0 a1).f1)) ∧ w'.cell? ⟨gb890,2,none⟩ = some (.slice A889_2 ((rd_T45 l0_0 a1).f2).length c889_2)) (ds := []) (bl_ 0 12) (by kernel_rfl) rfl rfl ⟨(bkC BK890.out 0).trans rfl,(bkC BK890.out 1).trans rfl,(bkC BK890.out 2).trans rfl⟩ (fun hHeld => ?_);refine with_tabW spec_code.tab5 spec_code.bits5 (fun HT_ HW_ => ?_)
  generalize w29.drew = w30 at HO3 BK888 BK890 HB hHeld ⊢
  refine pQ 0 29 (bl_ 1 12) HT_ rfl ?_
  refine pQ 2 31 (bl_ 5 12) HT_ rfl ?_
  refine pQ 4 33 (bl_ 21 12) HT_ rfl ?_
  refine pQ 6 35 (bl_ 85 12) HT_ rfl ?_
  refine tP 3 32 (bl_ 93 12) ?_ HT_ HW_ rfl (.inl ⟨by rfl,?_⟩) hHeld ?_ ?_ ?_;rotate_left;(rintro w' ⟨s0,s1,s2⟩;go_simp;with_reducible rfl);rotate_left;(simp only [Act.put,sq_,i64_w,i32_w];rfl)
  refine tP 5 34 (bl_ 125 12) ?_ HT_ HW_ rfl (.inl ⟨by rfl,?_⟩) hHeld ?_ ?_ ?_;rotate_left;(rintro w' ⟨s0,s1,s2⟩;go_simp;with_reducible rfl);rotate_left;(simp only [Act.put,sq_,i64_w,i32_w];rfl)
  refine tP 7 36 (bl_ 253 12) ?_ HT_ HW_ rfl (.inl ⟨by rfl,?_⟩) hHeld ?_ ?_ ?_;rotate_left;(rintro w' ⟨s0,s1,s2⟩;go_simp;with_reducible rfl);rotate_left;(simp only [Act.put,sq_,i64_w,i32_w];rfl)
  refine pQ 8 37 (bl_ 509 12) HT_ rfl ?_
  refine join_ (σ := Value × Value) 2 (bl_ 1023 12) (fun s_ => [(30,s_.1),(38,s_.2)]) (fun s_ w' => (w'.cell? ⟨gb890,0,none⟩ = some (.int .i64 ((rd_T45 l0_0 a1).f0)) ∧ w'.cell? ⟨gb890,1,none⟩ = some (.int .i64 ((rd_T45 l0_0 a1).f1)) ∧ w'.cell? ⟨gb890,2,none⟩ = some (.slice A889_2 ((rd_T45 l0_0 a1).f2).length c889_2)) ∧ (Kd.V (Kd.int .i64) 3 w' w.heap.size (fun k_ => (P3_ k_ ∨ w.heap.size ≤ k_) ∧ some k_ ≠ (s_.1 : Value).ownBlock ∧ some k_ ≠ (s_.2 : Value).ownBlock ∧ k_ ≠ gb888 ∧ k_ ≠ gb890) (.slice A3 l3.length c3) l3) ∧ (Kd.R (Kd.int .i64) 3 w' w.heap.size (fun k_ => (w.heap.size ≤ k_) ∧ some k_ ≠ (s_.2 : Value).ownBlock) s_.1 t901) ∧ (Kd.R (Kd.int .i64) 3 w' w.heap.size (fun k_ => (w.heap.size ≤ k_) ∧ some k_ ≠ (s_.1 : Value).ownBlock) s_.2 y904) ∧ (w'.heap[gb888]? = some (.cells #[.slice (some ad889) l0_0.length c0_0,.int .i64 a0_1] 29 (0,0))) ∧ (w'.heap[gb890]? = some (.cells #[.int .i64 ((rd_T45 l0_0 a1).f0),.int .i64 ((rd_T45 l0_0 a1).f1),.slice A889_2 ((rd_T45 l0_0 a1).f2).length c889_2] 45 (0,0))) ∧ (Below w.heap.size w w')) ?_ ?_
  rotate_left
  ·intro hCont
   refine two_ (i := 1) (j := 9) (Ni := some 30) (Nj := some 38) (bl_ 511 12) (bl_ 1021 12) rfl rfl rfl rfl (two_of HT_.out (by kernel_rfl)) (by decide) (by decide) (fun K hK => ?_) (fun K hK => ?_)
   ·skip
    refine goes_ Try.func78 (by kernel_rfl) rfl #[.slice A2 l2.length c2] (by rfl) rfl rfl zM_ ?_
    with_reducible refine (spec_copyInts.calls _ _ l2 t901 _ ?side1 ?side2 A21.out).mono ?_
    (case side1 => exact zC_ (Kd.C_below HR2.out HB.out))
    (case side2 => exact HC2.out)
    rintro e w31 ⟨v902,rfl,ho0,hb⟩
    refine ⟨_,rfl,?_⟩
    have n0_ := As_ (Kd.V_elder' (by (with_reducible repeat (first|apply Kd.V_alloc|apply Kd.V_drewN|apply Kd.V_drew));exact HO3.out) (Kd.R_base ho0) hb)
    have n1_ := As_ (Kd.R_lower (Kd.R_newM (M := fun k_ => (w.heap.size ≤ k_)) ho0 (bwZ (zb2 HB.out GE888.out GE890.out)) (fun k_ h_ => h_)) (bwZ (zb2 HB.out GE888.out GE890.out)))
    have n2_ := As_ (zkb BK888.out hb)
    have n3_ := As_ (zkb BK890.out hb)
    have n4_ := As_ (bwT (zb2 HB.out GE888.out GE890.out) hb)
    clear HO3 BK888 BK890 HB
    revert n0_ n1_ n2_ n3_ n4_;intro HO3 HO903 BK888 BK890 HB
    refine hK.out _ _ ⟨(bkC BK890.out 0).trans rfl,(bkC BK890.out 1).trans rfl,(bkC BK890.out 2).trans rfl⟩ (fun hHeld => ?_)
    clear hK K
    refine norm_ (a' := ?_) ?_ ?_
    rotate_left
    ·show Act.put _ (some 30) _ = _
     simp only [Act.put,sq_,i64_w,i32_w]
     rfl
    refine one_ (i := 9) (N := some 38) (bl_ 1023 12) rfl rfl (one_of HT_.out (by kernel_rfl)) (by decide) (fun K hK => ?_)
    refine Kd.R_lit_step (Kd.int .i64) _ 3 ?hg (N := 38) ?hd (xs := ([(rd_T45 l0_0 a1).f0,(rd_T45 l0_0 a1).f1,(((rd_T45 l0_0 a1).f2).length : Int)] : List Int)) (inner := [.int .i64 ((rd_T45 l0_0 a1).f0),.int .i64 ((rd_T45 l0_0 a1).f1),.int .i64 (((rd_T45 l0_0 a1).f2).length : Int)]) (ok := fun _ => True) (okp := fun _ => True) ?hr ?hp (fun _ hk => hk) trivial (Below.refl _ _) (Nat.le_refl _) (by simp) ?_;(case hd => rfl);(case hg => rfl);(case hr => go_simp <;> rfl);(case hp => exact (Reps.one (show Kd.M (Kd.int .i64) _ _ _ ((rd_T45 l0_0 a1).f0) [.int .i64 ((rd_T45 l0_0 a1).f0)] from rfl) (Reps.one (show Kd.M (Kd.int .i64) _ _ _ ((rd_T45 l0_0 a1).f1) [.int .i64 ((rd_T45 l0_0 a1).f1)] from rfl) (Reps.one (show Kd.M (Kd.int .i64) _ _ _ (((rd_T45 l0_0 a1).f2).length : Int) [.int .i64 (((rd_T45 l0_0 a1).f2).length : Int)] from rfl) (Reps.none _ _)))))
    intro v905 w32 ho33 hb hg_ hnew_
    clear hg_ hnew_
    (first|rw [← Ny904.out] at ho33|(simp only [Int.reduceToNat] at ho33;rw [← Ny904.out] at ho33))
    have n0_ := As_ (Kd.V_elder' (by (with_reducible repeat (first|apply Kd.V_alloc|apply Kd.V_drewN|apply Kd.V_drew));exact HO3.out) (Kd.R_base ho33) hb)
    have n1_ := As_ (Kd.R_elder' (zR_ HO903.out) (Kd.R_base ho33) hb)
    have n2_ := As_ (Kd.R_lower (Kd.R_new' (Kd.R_newM (M := fun k_ => (w.heap.size ≤ k_)) ho33 (bwZ (zb2 HB.out GE888.out GE890.out)) (fun k_ h_ => h_)) (Kd.R_lt (zR_ HO903.out))) (bwZ (zb2 HB.out GE888.out GE890.out)))
    have n3_ := As_ (zkb BK888.out hb)
    have n4_ := As_ (zkb BK890.out hb)
    have n5_ := As_ (bwT (zb2 HB.out GE888.out GE890.out) hb)
    clear HO3 HO903 BK888 BK890 HB
    revert n0_ n1_ n2_ n3_ n4_ n5_;intro HO3 HO903 HO906 BK888 BK890 HB
    clear hb ho33
    refine hK.out _ _ ⟨(bkC BK890.out 0).trans rfl,(bkC BK890.out 1).trans rfl,(bkC BK890.out 2).trans rfl⟩ (fun hHeld => ?_)
    clear hK K
    refine norm_ (a' := ?_) ?_ ?_
    rotate_left
    ·show Act.put _ (some 38) _ = _
     simp only [Act.put,sq_,i64_w,i32_w]
     rfl
    exact norm_ (by simp only [putAll,Act.put,List.setIfInBounds_toArray,List.set_cons_zero,List.set_cons_succ]) (hCont (v902,v905) _ ⟨hHeld,(by (with_reducible repeat (first|apply Kd.V_alloc|apply Kd.V_drewN|apply Kd.V_drew));exact Kd.V_mono HO3.out (fun _ hk => ⟨hk.1.1.1,⟨hk.1.2,⟨hk.2,⟨hk.1.1.2.1,hk.1.1.2.2⟩⟩⟩⟩)),(by (with_reducible repeat (first|apply Kd.R_alloc|apply Kd.R_drewN|apply Kd.R_drew));exact Kd.R_mono HO903.out (fun _ hk => ⟨hk.1.1,hk.2⟩)),(by (with_reducible repeat (first|apply Kd.R_alloc|apply Kd.R_drewN|apply Kd.R_drew));exact Kd.R_mono HO906.out (fun _ hk => ⟨hk.1.1,hk.2⟩)),(zk_ BK888.out),(zk_ BK890.out),(zb2 HB.out GE888.out GE890.out)⟩)
   ·skip
    refine Kd.R_lit_step (Kd.int .i64) _ 3 ?hg (N := 38) ?hd (xs := ([(rd_T45 l0_0 a1).f0,(rd_T45 l0_0 a1).f1,(((rd_T45 l0_0 a1).f2).length : Int)] : List Int)) (inner := [.int .i64 ((rd_T45 l0_0 a1).f0),.int .i64 ((rd_T45 l0_0 a1).f1),.int .i64 (((rd_T45 l0_0 a1).f2).length : Int)]) (ok := fun _ => True) (okp := fun _ => True) ?hr ?hp (fun _ hk => hk) trivial (Below.refl _ _) (Nat.le_refl _) (by simp) ?_;(case hd => rfl);(case hg => rfl);(case hr => go_simp <;> rfl);(case hp => exact (Reps.one (show Kd.M (Kd.int .i64) _ _ _ ((rd_T45 l0_0 a1).f0) [.int .i64 ((rd_T45 l0_0 a1).f0)] from rfl) (Reps.one (show Kd.M (Kd.int .i64) _ _ _ ((rd_T45 l0_0 a1).f1) [.int .i64 ((rd_T45 l0_0 a1).f1)] from rfl) (Reps.one (show Kd.M (Kd.int .i64) _ _ _ (((rd_T45 l0_0 a1).f2).length : Int) [.int .i64 (((rd_T45 l0_0 a1).f2).length : Int)] from rfl) (Reps.none _ _)))))
    intro v905 w31 ho32 hb hg_ hnew_
    clear hg_ hnew_
    (first|rw [← Ny904.out] at ho32|(simp only [Int.reduceToNat] at ho32;rw [← Ny904.out] at ho32))
    have n0_ := As_ (Kd.V_elder' (by (with_reducible repeat (first|apply Kd.V_alloc|apply Kd.V_drewN|apply Kd.V_drew));exact HO3.out) (Kd.R_base ho32) hb)
    have n1_ := As_ (Kd.R_lower (Kd.R_newM (M := fun k_ => (w.heap.size ≤ k_)) ho32 (bwZ (zb2 HB.out GE888.out GE890.out)) (fun k_ h_ => h_)) (bwZ (zb2 HB.out GE888.out GE890.out)))
    have n2_ := As_ (zkb BK888.out hb)
    have n3_ := As_ (zkb BK890.out hb)
    have n4_ := As_ (bwT (zb2 HB.out GE888.out GE890.out) hb)
    clear HO3 BK888 BK890 HB
    revert n0_ n1_ n2_ n3_ n4_;intro HO3 HO906 BK888 BK890 HB
    clear hb ho32
    refine hK.out _ _ ⟨(bkC BK890.out 0).trans rfl,(bkC BK890.out 1).trans rfl,(bkC BK890.out 2).trans rfl⟩ (fun hHeld => ?_)
    clear hK K
    refine norm_ (a' := ?_) ?_ ?_
    rotate_left
    ·show Act.put _ (some 38) _ = _
     simp only [Act.put,sq_,i64_w,i32_w]
     rfl
    refine one_ (i := 1) (N := some 30) (bl_ 1023 12) rfl rfl (one_of HT_.out (by kernel_rfl)) (by decide) (fun K hK => ?_)
    refine goes_ Try.func78 (by kernel_rfl) rfl #[.slice A2 l2.length c2] (by rfl) rfl rfl zM_ ?_
    with_reducible refine (spec_copyInts.calls _ _ l2 t901 _ ?side1 ?side2 A21.out).mono ?_
    (case side1 => exact zC_ (Kd.C_below HR2.out HB.out))
    (case side2 => exact HC2.out)
    rintro e w33 ⟨v902,rfl,ho0,hb⟩
    refine ⟨_,rfl,?_⟩
    have n0_ := As_ (Kd.V_elder' (by (with_reducible repeat (first|apply Kd.V_alloc|apply Kd.V_drewN|apply Kd.V_drew));exact HO3.out) (Kd.R_base ho0) hb)
    have n1_ := As_ (Kd.R_elder' (zR_ HO906.out) (Kd.R_base ho0) hb)
    have n2_ := As_ (Kd.R_lower (Kd.R_new' (Kd.R_newM (M := fun k_ => (w.heap.size ≤ k_)) ho0 (bwZ (zb2 HB.out GE888.out GE890.out)) (fun k_ h_ => h_)) (Kd.R_lt (zR_ HO906.out))) (bwZ (zb2 HB.out GE888.out GE890.out)))
    have n3_ := As_ (zkb BK888.out hb)
    have n4_ := As_ (zkb BK890.out hb)
    have n5_ := As_ (bwT (zb2 HB.out GE888.out GE890.out) hb)
    clear HO3 HO906 BK888 BK890 HB
    revert n0_ n1_ n2_ n3_ n4_ n5_;intro HO3 HO906 HO903 BK888 BK890 HB
    refine hK.out _ _ ⟨(bkC BK890.out 0).trans rfl,(bkC BK890.out 1).trans rfl,(bkC BK890.out 2).trans rfl⟩ (fun hHeld => ?_)
    clear hK K
    refine norm_ (a' := ?_) ?_ ?_
    rotate_left
    ·show Act.put _ (some 30) _ = _
     simp only [Act.put,sq_,i64_w,i32_w]
     rfl
    exact norm_ (by simp only [putAll,Act.put,List.setIfInBounds_toArray,List.set_cons_zero,List.set_cons_succ]) (hCont (v902,v905) _ ⟨hHeld,(by (with_reducible repeat (first|apply Kd.V_alloc|apply Kd.V_drewN|apply Kd.V_drew));exact Kd.V_mono HO3.out (fun _ hk => ⟨hk.1.1.1,⟨hk.2,⟨hk.1.2,⟨hk.1.1.2.1,hk.1.1.2.2⟩⟩⟩⟩)),(by (with_reducible repeat (first|apply Kd.R_alloc|apply Kd.R_drewN|apply Kd.R_drew));exact Kd.R_mono HO903.out (fun _ hk => ⟨hk.1.1,hk.2⟩)),(by (with_reducible repeat (first|apply Kd.R_alloc|apply Kd.R_drewN|apply Kd.R_drew));exact Kd.R_mono HO906.out (fun _ hk => ⟨hk.1.1,hk.2⟩)),(zk_ BK888.out),(zk_ BK890.out),(zb2 HB.out GE888.out GE890.out)⟩)
  rintro ⟨v902,v905⟩ w34 ⟨hS_,h0_,h1_,h2_,h3_,h4_,h5_⟩
  have n0_ : Aside0 (Kd.V (Kd.int .i64) 3 w34 w.heap.size (fun k_ => (P3_ k_ ∨ w.heap.size ≤ k_) ∧ some k_ ≠ (v902 : Value).ownBlock ∧ some k_ ≠ (v905 : Value).ownBlock ∧ k_ ≠ gb888 ∧ k_ ≠ gb890) (.slice A3 l3.length c3) l3) := ⟨h0_⟩
  have n1_ : Aside0 (Kd.R (Kd.int .i64) 3 w34 w.heap.size (fun k_ => (w.heap.size ≤ k_) ∧ some k_ ≠ (v905 : Value).ownBlock) v902 t901) := ⟨h1_⟩
  have n2_ : Aside0 (Kd.R (Kd.int .i64) 3 w34 w.heap.size (fun k_ => (w.heap.size ≤ k_) ∧ some k_ ≠ (v902 : Value).ownBlock) v905 y904) := ⟨h2_⟩
  have n3_ : Aside0 (w34.heap[gb888]? = some (.cells #[.slice (some ad889) l0_0.length c0_0,.int .i64 a0_1] 29 (0,0))) := ⟨h3_⟩
  have n4_ : Aside0 (w34.heap[gb890]? = some (.cells #[.int .i64 ((rd_T45 l0_0 a1).f0),.int .i64 ((rd_T45 l0_0 a1).f1),.slice A889_2 ((rd_T45 l0_0 a1).f2).length c889_2] 45 (0,0))) := ⟨h4_⟩
  have n5_ : Aside0 (Below w.heap.size w w34) := ⟨h5_⟩
  clear HO3 BK888 BK890 HB h0_ h1_ h2_ h3_ h4_ h5_
  revert n0_ n1_ n2_ n3_ n4_ n5_;intro HO3 HO903 HO906 BK888 BK890 HB
  have hHeld : w34.cell? ⟨gb890,0,none⟩ = some (.int .i64 ((rd_T45 l0_0 a1).f0)) ∧ w34.cell? ⟨gb890,1,none⟩ = some (.int .i64 ((rd_T45 l0_0 a1).f1)) ∧ w34.cell? ⟨gb890,2,none⟩ = some (.slice A889_2 ((rd_T45 l0_0 a1).f2).length c889_2) := hS_
  obtain ⟨Ao36,co36,eo36⟩ := Kd.R_slice HO906.out
  (first|subst eo36|(injection eo36 with f1_ f2_ f3_;have f4_ := f1_.symm;have f5_ := f3_.symm;clear f1_ f2_ f3_;subst f4_;subst f5_))
  refine norm_ (a' := ?_) ?_ ?_
  rotate_left
  ·simp only [putAll,Act.put,List.setIfInBounds_toArray,List.set_cons_zero,List.set_cons_succ]
   rfl
  refine one_ (i := 10) (N := some 39) (bl_ 2047 12) rfl rfl (one_of HT_.out (by kernel_rfl)) (by decide) (fun K hK => ?_)
  refine Kd.R_append_rows_step (Kd.int .i64) (w0 := w) w.heap.size (by rfl) (.tmp 30) (.tmp 38) 37 3 (.int .i64 0) 8 rfl Try.underlying37 info3 rfl (by decide) (by omega) v902 t901 y904 _ _ _ (fun k_ => (w.heap.size ≤ k_) ∧ some k_ ≠ (.slice Ao36 y904.length co36 : Value).ownBlock) (fun _ => False) rfl rfl ?aO ?aR (fun _ _ h => h) (fun _ h => h.elim) ?aF ?aB ?aS ?aL ?_
  (case aR => exact zC_ (Kd.R_reads' HO906.out).2.2)
  (case aB => exact (zb2 HB.out GE888.out GE890.out))
  (case aF => exact (fun k_ hk => ⟨(Nat.le_trans (bwZ (zb2 HB.out GE888.out GE890.out)) hk),Kd.fresh' (Kd.R_lt (zR_ HO906.out)) k_ hk⟩))
  (case aO => exact (zR_ HO903.out))
  (case aS => exact (bwZ (zb2 HB.out GE888.out GE890.out)))
  (case aL => have := LMc22.out;omega)
  intro v908 w35 ho hb hg hat
  rw [← Ny907.out] at ho
  have n0_ := As_ (Kd.V_afterv (ok := (fun k_ => (P3_ k_ ∨ w.heap.size ≤ k_) ∧ some k_ ≠ (.slice Ao36 y904.length co36 : Value).ownBlock ∧ k_ ≠ gb888 ∧ k_ ≠ gb890)) (by (with_reducible repeat (first|apply Kd.V_alloc|apply Kd.V_drewN|apply Kd.V_drew));exact Kd.V_mono HO3.out (fun _ hk => ⟨⟨hk.1,⟨hk.2.2.1,⟨hk.2.2.2.1,hk.2.2.2.2⟩⟩⟩,hk.2.1⟩)) hg hat)
  have n1_ := As_ (blk_grown (g := gb888) (o := .cells #[.slice (some ad889) l0_0.length c0_0,.int .i64 a0_1] 29 (0,0)) (zk_ BK888.out) hg (Kd.R_ne HO903.out BK888.out (by decide)))
  have n2_ := As_ (blk_grown (g := gb890) (o := .cells #[.int .i64 ((rd_T45 l0_0 a1).f0),.int .i64 ((rd_T45 l0_0 a1).f1),.slice A889_2 ((rd_T45 l0_0 a1).f2).length c889_2] 45 (0,0)) (zk_ BK890.out) hg (Kd.R_ne HO903.out BK890.out (by decide)))
  have n3_ := As_ (Kd.R_after (ok := (fun k_ => (w.heap.size ≤ k_))) (zR_ HO906.out) hg hat)
  have n4_ := As_ (hb)
  have n5_ := As_ (ho)
  clear HO3 BK888 BK890 HO906 HB HO903
  revert n0_ n1_ n2_ n3_ n4_ n5_;intro HO3 BK888 BK890 HO906 HB HO909
  clear ho hb hg hat
  refine hK.out _ _ ⟨(bkC BK890.out 0).trans rfl,(bkC BK890.out 1).trans rfl,(bkC BK890.out 2).trans rfl⟩ (fun hHeld => ?_)
  clear hK K
  refine norm_ (a' := ?_) ?_ ?_
  rotate_left
  ·show Act.put _ (some 39) _ = _
   simp only [Act.put,sq_,i64_w,i32_w]
   rfl
  refine pQ 11 2 (bl_ 4095 12) HT_ rfl ?_
  refine done_ (done_of HT_.out (by kernel_rfl)) ?_
  obtain ⟨hcz37_0,hcz37_1,hcz37_2,hfz37_0,hfz37_1,hfz37_2⟩ := bk3 BK890.out
  try go_wp2
  go_loopg [2,3,12] k (fun kq v2 v3 v12 w' => ∃ (x2_1 : List Int) (x3_1 : List Int) (x12_1 : Int),v12 = .int .i64 x12_1 ∧ Aside0 (spec_code.l0 kq x2_1 x3_1 x12_1 l0_0 a0_1 ((rd_T45 l0_0 a1).f0) ((rd_T45 l0_0 a1).f1) ((rd_T45 l0_0 a1).f2) = some (r1,r2)) ∧ Aside0 (kq ≤ k) ∧ Aside0 (Kd.R (Kd.int .i64) 3 w' w.heap.size (fun k_ => (w.heap.size ≤ k_)) v2 x2_1) ∧ Aside0 (Kd.V (Kd.int .i64) 3 w' w.heap.size (fun k_ => (P3_ k_ ∨ w.heap.size ≤ k_) ∧ some k_ ≠ (v2 : Value).ownBlock ∧ k_ ≠ gb888 ∧ k_ ≠ gb890) v3 x3_1) ∧ Aside0 (w'.heap[gb888]? = some (.cells #[(.slice (some ad889) l0_0.length c0_0),.int .i64 a0_1] 29 (0,0))) ∧ Aside0 (w'.heap[gb890]? = some (.cells #[.int .i64 ((rd_T45 l0_0 a1).f0),.int .i64 ((rd_T45 l0_0 a1).f1),(.slice A889_2 ((rd_T45 l0_0 a1).f2).length c889_2)] 45 (0,0))) ∧ Aside0 (Below w.heap.size w w'))
  case atStart => exact ⟨(y907),(l3),(0),zT_,H',⟨Nat.le_refl _⟩,⟨by (with_reducible repeat (first|apply Kd.R_alloc|apply Kd.R_drewN|apply Kd.R_drew));exact Kd.R_mono HO909.out (fun _ hk => hk.1)⟩,⟨by (with_reducible repeat (first|apply Kd.V_alloc|apply Kd.V_drewN|apply Kd.V_drew));exact Kd.V_mono HO3.out (fun _ hk => ⟨hk.1.1,⟨hk.2,⟨hk.1.2.2.1,hk.1.2.2.2⟩⟩⟩)⟩,⟨by (with_reducible repeat first|apply bkN|apply bkD|apply bkA);exact BK888.out⟩,⟨by (with_reducible repeat first|apply bkN|apply bkD|apply bkA);exact BK890.out⟩,⟨zb2 HB.out GE888.out GE890.out⟩⟩
  case round =>
   clear H'
   obtain ⟨x2_1,x3_1,x12_1,rfl,HA,HK1,HO_2,HO_3,BK888,BK890,HB⟩ := hrel
   cases gk with
   | zero => exact absurd HA.out (fun h_ => (by cases h_))
   | succ k1 =>
    have H := HA.out
    clear HA
    simp only [spec_code.l0] at H
    by_cases c38 : x12_1 < (((rd_T45 l0_0 a1).f2).length : Int)
    rotate_left
    ·rw [if_neg c38] at H
     have c38b0 : decide (x12_1 < (((rd_T45 l0_0 a1).f2).length : Int)) = false := deF c38
     clear c38
     simp only [Option.some.injEq,Prod.mk.injEq] at H
     obtain ⟨rfl,rfl⟩ := H
     have hnb47 := NB890_888.out
     have hnc47 := NB888_890.out
     obtain ⟨hcz48_0,hcz48_1,hcz48_2,hfz48_0,hfz48_1,hfz48_2⟩ := bk3 BK890.out
     go_wp2
     go_ret2
     exact ⟨_,_,zE_,by (with_reducible repeat (first|apply Kd.R_alloc|apply Kd.R_drewN|apply Kd.R_drew));exact HO_2.out,by (with_reducible repeat (first|apply Kd.V_alloc|apply Kd.V_drewN|apply Kd.V_drew));exact Kd.V_mono HO_3.out (fun _ hk => ⟨hk.1,hk.2.1⟩),zb2 HB.out GE888.out GE890.out⟩
    rw [if_pos c38] at H
    have c38b0 : decide (x12_1 < (((rd_T45 l0_0 a1).f2).length : Int)) = true := deT c38
    clear c38
    by_cases c39 : 0 ≤ x12_1
    rotate_left
    ·rw [if_neg c39] at H
     exact absurd H (by simp)
    rw [if_pos c39] at H
    have c39b0 : decide (0 ≤ x12_1) = true := deT c39
    clear c39
    replace H := obS H
    obtain ⟨⟨t911,t914⟩,A400,H⟩ := H
    replace H : (spec_code.l0 k1 t911 t914 (wrap64 (x12_1 + 1)) l0_0 a0_1 ((rd_T45 l0_0 a1).f0) ((rd_T45 l0_0 a1).f1) ((rd_T45 l0_0 a1).f2)) = some (r1,r2) := H
    have A40 := As_ A400
    clear A400
    have H' := As_ H
    clear H
    have hnb41 := NB890_888.out
    have hnc41 := NB888_890.out
    obtain ⟨hcz42_0,hcz42_1,hcz42_2,hfz42_0,hfz42_1,hfz42_2⟩ := bk3 BK890.out
    try go_wp2
    have n0_ := As_ (Kd.R_drew HO_2.out)
    have n1_ := As_ (Kd.V_drew HO_3.out)
    have n2_ := As_ (bkD BK888.out)
    have n3_ := As_ (bkD BK890.out)
    have n4_ := As_ (bwD HB.out)
    clear HO_2 HO_3 BK888 BK890 HB
    revert n0_ n1_ n2_ n3_ n4_;intro HO_2 HO_3 BK888 BK890 HB
    have p910 : 0 ≤ (x12_1 : Int) := odT zA_
    have q910 : x12_1 < (((rd_T45 l0_0 a1).f2).length : Int) := odT zA_
    obtain ⟨ad910,e910,hx910_0⟩ := Kd.at_int HR889_2.out x12_1 p910 q910
    have hw910_0 := hx910_0
    cases e910
    replace hx910_0 := bwC HB.out hx910_0
    replace p910 := eq_true p910
    replace q910 := eq_true q910
    obtain ⟨Ao44,co44,eo44⟩ := Kd.R_slice HO_2.out
    (first|subst eo44|(injection eo44 with f1_ f2_ f3_;have f4_ := f1_.symm;have f5_ := f3_.symm;clear f1_ f2_ f3_;subst f4_;subst f5_))
    obtain ⟨Ao45,co45,eo45⟩ := Kd.V_slice HO_3.out
    (first|subst eo45|(injection eo45 with f1_ f2_ f3_;have f4_ := f1_.symm;have f5_ := f3_.symm;clear f1_ f2_ f3_;subst f4_;subst f5_))
    refine start_ (n := 14) (S := fun w' => w'.cell? ⟨gb888,0,none⟩ = some (.slice (some ad889) l0_0.length c0_0) ∧ w'.cell? ⟨gb888,1,none⟩ = some (.int .i64 a0_1) ∧ w'.cell? ⟨gb890,0,none⟩ = some (.int .i64 ((rd_T45 l0_0 a1).f0)) ∧ w'.cell? ⟨gb890,1,none⟩ = some (.int .i64 ((rd_T45 l0_0 a1).f1)) ∧ w'.cell? ⟨gb890,2,none⟩ = some (.slice (some ad910) ((rd_T45 l0_0 a1).f2).length c889_2) ∧ w'.cell? (ad910.add (x12_1).toNat) = some (.int .i64 (rd ((rd_T45 l0_0 a1).f2) x12_1))) (ds := []) (bl_ 0 14) (by kernel_rfl) rfl rfl ⟨(bkC BK888.out 0).trans rfl,(bkC BK888.out 1).trans rfl,(bkC BK890.out 0).trans rfl,(bkC BK890.out 1).trans rfl,(bkC BK890.out 2).trans rfl,((HB.out.cell (bwL w _ hw910_0)).trans hw910_0)⟩ (fun hHeld => ?_);refine with_tabW spec_code.tab11 spec_code.bits11 (fun HT_ HW_ => ?_)
    generalize wr.drew = w43 at HO_2 HO_3 BK888 BK890 HB hx910_0 hHeld ⊢
    refine pQ 1 57 (bl_ 2 14) HT_ rfl ?_
    refine pQ 3 59 (bl_ 10 14) HT_ rfl ?_
    refine pQ 6 62 (bl_ 74 14) HT_ rfl ?_
    refine pQ 7 63 (bl_ 202 14) HT_ rfl ?_
    refine tP 0 56 (bl_ 203 14) ?_ HT_ HW_ rfl (.inl ⟨by rfl,?_⟩) hHeld ?_ ?_ ?_;rotate_left;(rintro w' ⟨s0,s1,s2,s3,s4,s5⟩;go_simp;with_reducible rfl);rotate_left;(simp only [Act.put,sq_,i64_w,i32_w];rfl)
    refine tP 2 58 (bl_ 207 14) ?_ HT_ HW_ rfl (.inl ⟨by rfl,?_⟩) hHeld ?_ ?_ ?_;rotate_left;(rintro w' ⟨s0,s1,s2,s3,s4,s5⟩;go_simp;with_reducible rfl);rotate_left;(simp only [Act.put,sq_,i64_w,i32_w];rfl)
    refine pQ 4 60 (bl_ 223 14) HT_ rfl ?_
    refine tP 5 61 (bl_ 255 14) ?_ HT_ HW_ rfl (.inl ⟨by rfl,?_⟩) hHeld ?_ ?_ ?_;rotate_left;(rintro w' ⟨s0,s1,s2,s3,s4,s5⟩;go_simp;with_reducible rfl);rotate_left;(simp only [Act.put,sq_,i64_w,i32_w];rfl)
    refine one_ (i := 8) (N := some 64) (bl_ 511 14) rfl rfl (one_of HT_.out (by kernel_rfl)) (by decide) (fun K hK => ?_)
    refine goes_ Try.func96 (by kernel_rfl) rfl #[.agg #[.slice (some ad889) l0_0.length c0_0,.int .i64 a0_1],.int .i64 (rd ((rd_T45 l0_0 a1).f2) x12_1),.slice Ao44 x2_1.length co44,.slice Ao45 x3_1.length co45] (by rfl) rfl rfl zM_ ?_
    with_reducible refine (ih k1 (by have := HK1.out;omega) _ _ l0_0 a0_1 (rd ((rd_T45 l0_0 a1).f2) x12_1) _ _ x2_1 (fun k_ => ((P3_ k_ ∨ w.heap.size ≤ k_) ∧ (some k_ ≠ (.slice Ao44 x2_1.length co44 : Value).ownBlock ∧ (k_ ≠ gb888 ∧ k_ ≠ gb890)))) _ _ x3_1 t911 t914 _ ?side1 ?side2 ?side3 ?side4 ?side5 A40.out).mono ?_
    (case side1 => exact zC_ (Kd.C_below HR0_0.out HB.out))
    (case side2 => exact HC0_0.out)
    (case side3 => exact zC_ (Kd.R_reads' HO_2.out).2.2)
    (case side4 => exact (Kd.R_reads' HO_2.out).2.1)
    (case side5 => exact HO_3.out)
    rintro e w46 ⟨v912,v915,rfl,ho0,ho1,hb⟩
    refine ⟨_,rfl,?_⟩
    have n0_ := As_ (Kd.R_elder' (zR_ HO_2.out) (Kd.R_base ho0) hb)
    have n1_ := As_ (Kd.V_elder' (by (with_reducible repeat (first|apply Kd.V_alloc|apply Kd.V_drewN|apply Kd.V_drew));exact HO_3.out) (Kd.R_base ho0) hb)
    have n2_ := As_ (Kd.R_lower (Kd.R_new' (Kd.R_newM (M := fun k_ => (w.heap.size ≤ k_)) (Kd.R_mono (ok' := fun k_ => True) ho0 (fun _ hk_ => trivial)) (bwZ (zb2 HB.out GE888.out GE890.out)) (fun k_ h_ => h_)) (Kd.R_lt (zR_ HO_2.out))) (bwZ (zb2 HB.out GE888.out GE890.out)))
    have n3_ := As_ (Kd.V_lower (Kd.V_mono (ok' := fun k_ => (P3_ k_ ∨ w.heap.size ≤ k_) ∧ some k_ ≠ (v912 : Value).ownBlock ∧ some k_ ≠ (.slice Ao44 x2_1.length co44 : Value).ownBlock ∧ k_ ≠ gb888 ∧ k_ ≠ gb890) ho1 (fun k_ hk_ => ⟨Or.elim hk_.1 (fun hs_ => hs_.1) (fun hn_ => (.inr (Nat.le_trans (bwZ (zb2 HB.out GE888.out GE890.out)) hn_))),hk_.2,Or.elim hk_.1 (fun hs_ => hs_.2.1) (fun hn_ => (Kd.fresh' (Kd.R_lt (zR_ HO_2.out)) k_ hn_)),Or.elim hk_.1 (fun hs_ => hs_.2.2.1) (fun hn_ => (Kd.freshB (g := gb888) (o := .cells #[.slice (some ad889) l0_0.length c0_0,.int .i64 a0_1] 29 (0,0)) (zk_ BK888.out) k_ hn_)),Or.elim hk_.1 (fun hs_ => hs_.2.2.2) (fun hn_ => (Kd.freshB (g := gb890) (o := .cells #[.int .i64 ((rd_T45 l0_0 a1).f0),.int .i64 ((rd_T45 l0_0 a1).f1),.slice (some ad910) ((rd_T45 l0_0 a1).f2).length c889_2] 45 (0,0)) (zk_ BK890.out) k_ hn_))⟩)) (bwZ (zb2 HB.out GE888.out GE890.out)))
    have n4_ := As_ (zkb BK888.out hb)
    have n5_ := As_ (zkb BK890.out hb)
    have n6_ := As_ (bwT (zb2 HB.out GE888.out GE890.out) hb)
    clear HO_2 HO_3 BK888 BK890 HB
    revert n0_ n1_ n2_ n3_ n4_ n5_ n6_;intro HO_2 HO_3 HO913 HO916 BK888 BK890 HB
    refine hK.out _ _ ⟨(bkC BK888.out 0).trans rfl,(bkC BK888.out 1).trans rfl,(bkC BK890.out 0).trans rfl,(bkC BK890.out 1).trans rfl,(bkC BK890.out 2).trans rfl,((HB.out.cell (bwL w _ hw910_0)).trans hw910_0)⟩ (fun hHeld => ?_)
    clear hK K
    refine norm_ (a' := ?_) ?_ ?_
    rotate_left
    ·show Act.put _ (some 64) _ = _
     simp only [Act.put,sq_,i64_w,i32_w]
     rfl
    refine pQ 9 55 (bl_ 1023 14) HT_ rfl ?_
    refine pQ 10 65 (bl_ 2047 14) HT_ rfl ?_
    refine pQ 11 66 (bl_ 4095 14) HT_ rfl ?_
    refine pQ 12 2 (bl_ 8191 14) HT_ rfl ?_
    refine pQ 13 3 (bl_ 16383 14) HT_ rfl ?_
    refine done_ (done_of HT_.out (by kernel_rfl)) ?_
    try go_wp2
    go_roundg k1
    case measure => have := HK1.out;omega
    case rel => exact ⟨(t911),(t914),(wrap64 (x12_1 + 1)),zT_,H',⟨by have := HK1.out;omega⟩,⟨by (with_reducible repeat (first|apply Kd.R_alloc|apply Kd.R_drewN|apply Kd.R_drew));exact Kd.R_mono HO913.out (fun _ hk => hk.1.1)⟩,⟨by (with_reducible repeat (first|apply Kd.V_alloc|apply Kd.V_drewN|apply Kd.V_drew));exact Kd.V_mono HO916.out (fun _ hk => ⟨hk.1,⟨hk.2.1,⟨hk.2.2.2.1,hk.2.2.2.2⟩⟩⟩)⟩,⟨by (with_reducible repeat first|apply bkN|apply bkD|apply bkA);exact BK888.out⟩,⟨by (with_reducible repeat first|apply bkN|apply bkD|apply bkA);exact BK890.out⟩,⟨zb2 HB.out GE888.out GE890.out⟩⟩
 rw [if_neg c23] at H
 have c23b0 : (((rd_T45 l0_0 a1).f0) == 0) = false := beq_eq_false_iff_ne.mpr c23
 have c23b1 : (((rd_T45 l0_0 a1).f0) != 0) = true := bne_iff_ne.mpr c23
 replace H := obS H
 obtain ⟨t917,A490,H⟩ := H
 replace H : (if t917.length < 17592186044416 then (spec_code.l0 k y907 (t917 ++ [a1]) 0 l0_0 a0_1 ((rd_T45 l0_0 a1).f0) ((rd_T45 l0_0 a1).f1) ((rd_T45 l0_0 a1).f2)) else (none)) = some (r1,r2) := H
 have A49 := As_ A490
 clear A490
 by_cases c50 : t917.length < 17592186044416
 rotate_left
 ·rw [if_neg c50] at H
  exact absurd H (by simp)
 rw [if_pos c50] at H
 have LMc50 := As_ c50
 clear c50
 obtain ⟨y920,hy920⟩ : ∃ y_ : List Int,y_ = (t917 ++ [a1]) := ⟨_,rfl⟩
 replace H : (spec_code.l0 k y907 y920 0 l0_0 a0_1 ((rd_T45 l0_0 a1).f0) ((rd_T45 l0_0 a1).f1) ((rd_T45 l0_0 a1).f2)) = some (r1,r2) := zH_ H hy920
 have Ny920 := As_ hy920
 clear hy920
 have H' := As_ H
 clear H
 go_enter Try.func96,Try.ntmps96
 try go_wp2_with (first|((with_reducible refine gate_dst (N := 4) rfl ?_);refine box_event ?hg (N := 4) ?hd (cs := #[.slice A0_0 l0_0.length c0_0,.int .i64 a0_1]) (t := 29) ?hr ?_;(case hd => rfl);(case hg => rfl);(case hr => go_simp <;> rfl);intro gb888 hg w51 hbox hb;have n0_ := As_ (Kd.V_below (Kd.V_elderB (by (with_reducible repeat (first|apply Kd.V_alloc|apply Kd.V_drewN|apply Kd.V_drew));exact HO3.out) gb888 (Nat.le_of_eq hg.symm)) hb);have n1_ := As_ (bwT (zb0 HB.out) hb);have n2_ := As_ (hbox);have n3_ := As_ ((by rw [hg];exact (bwZ (zb0 HB.out)) : w.heap.size ≤ gb888));have n4_ := As_ ((by rw [hg];exact (bwZ (zb0 HB.out)) : w.heap.size ≤ gb888));clear HO3 HB;revert n0_ n1_ n2_ n3_ n4_;intro HO3 HB BK888 GW888 GE888;clear hb hbox hg;obtain ⟨hcz52_0,hcz52_1,hfz52_0,hfz52_1⟩ := bk2 BK888.out;have p889 : 0 ≤ (a1 : Int) := odT zA_;have q889 : a1 < (l0_0.length : Int) := odT zA_;obtain ⟨ad889,A889_2,c889_2,e889,hx889_0,hx889_1,hx889_2,hl889_2,hi889_2⟩ := at_T45 HR0_0.out a1 p889 q889;cases e889;replace hx889_0 := bwC HB.out hx889_0;replace hx889_1 := bwC HB.out hx889_1;replace hx889_2 := bwC HB.out hx889_2;have HR889_2 := As_ hi889_2;have HC889_2 := As_ hl889_2;clear hi889_2 hl889_2;replace p889 := eq_true p889;replace q889 := eq_true q889)|((with_reducible refine gate_dst (N := 10) rfl ?_);refine box_event ?hg (N := 10) ?hd (cs := #[.int .i64 0,.int .i64 0,.slice none 0 0]) (t := 45) ?hr ?_;(case hd => rfl);(case hg => rfl);(case hr => go_simp <;> rfl);intro gb890 hg w53 hbox hb;have n0_ := As_ (Kd.V_below (Kd.V_elderB (by (with_reducible repeat (first|apply Kd.V_alloc|apply Kd.V_drewN|apply Kd.V_drew));exact HO3.out) gb890 (Nat.le_of_eq hg.symm)) hb);have n1_ := As_ (zkb BK888.out hb);have n2_ := As_ (bwT (zb1 HB.out GE888.out) hb);have n3_ := As_ (hbox);have n4_ := As_ ((by rw [hg];exact (bwZ (zb1 HB.out GE888.out)) : w.heap.size ≤ gb890));have n5_ := As_ ((by rw [hg];exact (bwZ (zb1 HB.out GE888.out)) : w.heap.size ≤ gb890));have n6_ := As_ ((by rw [hg];exact Nat.ne_of_lt (zkl BK888.out) : gb888 ≠ gb890));have n7_ := As_ ((by rw [hg];exact Nat.ne_of_gt (zkl BK888.out) : gb890 ≠ gb888));clear HO3 BK888 HB;revert n0_ n1_ n2_ n3_ n4_ n5_ n6_ n7_;intro HO3 BK888 HB BK890 GW890 GE890 NB888_890 NB890_888;clear hb hbox hg;have hnb54 := NB890_888.out;have hnc54 := NB888_890.out;obtain ⟨hcz55_0,hcz55_1,hcz55_2,hfz55_0,hfz55_1,hfz55_2⟩ := bk3 BK890.out)|((with_reducible refine gate_callee (f := 82) rfl ?_);refine goesL_ (some 20) rfl rfl Try.func82 (by kernel_rfl) rfl #[.slice A3 l3.length c3,.int .i64 a1] rfl zM_ ?_;(with_reducible refine (spec_placeIn.calls k _ _ l3 a1 t891 _ ?side1 ?side2 A7.out).mono ?_);(case side1 => refine (Kd.V_reads' (e := 3) (base := w.heap.size) (ok := fun k_ => (((P3_ k_ ∨ w.heap.size ≤ k_) ∧ k_ ≠ gb888) ∧ k_ ≠ gb890)) (n := l3.length) (c := c3) ?_).2.2;exact (by (with_reducible repeat (first|apply Kd.V_alloc|apply Kd.V_drewN|apply Kd.V_drew));exact (Kd.V_mono (Kd.V_far (p := ⟨gb890,2,none⟩) (Kd.V_far (p := ⟨gb890,1,none⟩) (Kd.V_far (p := ⟨gb890,0,none⟩) (Kd.V_mono HO3.out (fun k_ hk => (⟨hk,hk.2⟩ : _ ∧ k_ ≠ gb890))) (fun _ hk => hk.2) (.int .i64 ((rd_T45 l0_0 a1).f0))) (fun _ hk => hk.2) (.int .i64 ((rd_T45 l0_0 a1).f1))) (fun _ hk => hk.2) (.slice A889_2 ((rd_T45 l0_0 a1).f2).length c889_2)) (fun _ h_ => h_.1))));(case side2 => exact (Kd.V_reads' HO3.out).2.1);rintro e w' ⟨rfl,⟨nd,rfl⟩⟩;refine ⟨_,rfl,?_⟩))
 have n0_ : Aside0 (Kd.V (Kd.int .i64) 3 (((w53.setCell ⟨gb890,0,none⟩ (.int .i64 ((rd_T45 l0_0 a1).f0))).setCell ⟨gb890,1,none⟩ (.int .i64 ((rd_T45 l0_0 a1).f1))).setCell ⟨gb890,2,none⟩ (.slice A889_2 ((rd_T45 l0_0 a1).f2).length c889_2)) w.heap.size (fun k_ => (P3_ k_ ∨ w.heap.size ≤ k_) ∧ k_ ≠ gb888 ∧ k_ ≠ gb890) (.slice A3 l3.length c3) l3) := ⟨by (with_reducible repeat (first|apply Kd.V_alloc|apply Kd.V_drewN|apply Kd.V_drew));exact Kd.V_mono (Kd.V_far (p := ⟨gb890,2,none⟩) (Kd.V_far (p := ⟨gb890,1,none⟩) (Kd.V_far (p := ⟨gb890,0,none⟩) (Kd.V_mono HO3.out (fun k_ hk => (⟨hk,hk.2⟩ : _ ∧ k_ ≠ gb890))) (fun _ hk => hk.2) (.int .i64 ((rd_T45 l0_0 a1).f0))) (fun _ hk => hk.2) (.int .i64 ((rd_T45 l0_0 a1).f1))) (fun _ hk => hk.2) (.slice A889_2 ((rd_T45 l0_0 a1).f2).length c889_2)) (fun _ hk => ⟨hk.1.1.1,⟨hk.1.1.2,hk.1.2⟩⟩)⟩
 have n1_ : Aside0 ((((w53.setCell ⟨gb890,0,none⟩ (.int .i64 ((rd_T45 l0_0 a1).f0))).setCell ⟨gb890,1,none⟩ (.int .i64 ((rd_T45 l0_0 a1).f1))).setCell ⟨gb890,2,none⟩ (.slice A889_2 ((rd_T45 l0_0 a1).f2).length c889_2)).heap[gb888]? = some (.cells #[.slice (some ad889) l0_0.length c0_0,.int .i64 a0_1] 29 (0,0))) := ⟨by (with_reducible repeat first|apply bkN|apply bkD|apply bkA);refine blk_far ?_ NB888_890.out _;(with_reducible repeat first|apply bkN|apply bkD|apply bkA);refine blk_far ?_ NB888_890.out _;(with_reducible repeat first|apply bkN|apply bkD|apply bkA);refine blk_far ?_ NB888_890.out _;(with_reducible repeat first|apply bkN|apply bkD|apply bkA);exact BK888.out⟩
 have n2_ : Aside0 ((((w53.setCell ⟨gb890,0,none⟩ (.int .i64 ((rd_T45 l0_0 a1).f0))).setCell ⟨gb890,1,none⟩ (.int .i64 ((rd_T45 l0_0 a1).f1))).setCell ⟨gb890,2,none⟩ (.slice A889_2 ((rd_T45 l0_0 a1).f2).length c889_2)).heap[gb890]? = some (.cells #[.int .i64 ((rd_T45 l0_0 a1).f0),.int .i64 ((rd_T45 l0_0 a1).f1),.slice A889_2 ((rd_T45 l0_0 a1).f2).length c889_2] 45 (0,0))) := ⟨by (with_reducible repeat first|apply bkN|apply bkD|apply bkA);refine blk_put (cs := #[.int .i64 ((rd_T45 l0_0 a1).f0),.int .i64 ((rd_T45 l0_0 a1).f1),.slice none 0 0]) ?_ 2 _ rfl;(with_reducible repeat first|apply bkN|apply bkD|apply bkA);refine blk_put (cs := #[.int .i64 ((rd_T45 l0_0 a1).f0),.int .i64 0,.slice none 0 0]) ?_ 1 _ rfl;(with_reducible repeat first|apply bkN|apply bkD|apply bkA);refine blk_put (cs := #[.int .i64 0,.int .i64 0,.slice none 0 0]) ?_ 0 _ rfl;(with_reducible repeat first|apply bkN|apply bkD|apply bkA);exact BK890.out⟩
 have n3_ : Aside0 (Below w.heap.size w (((w53.setCell ⟨gb890,0,none⟩ (.int .i64 ((rd_T45 l0_0 a1).f0))).setCell ⟨gb890,1,none⟩ (.int .i64 ((rd_T45 l0_0 a1).f1))).setCell ⟨gb890,2,none⟩ (.slice A889_2 ((rd_T45 l0_0 a1).f2).length c889_2))) := ⟨zb2 HB.out GE888.out GE890.out⟩
 generalize (((w53.setCell ⟨gb890,0,none⟩ (.int .i64 ((rd_T45 l0_0 a1).f0))).setCell ⟨gb890,1,none⟩ (.int .i64 ((rd_T45 l0_0 a1).f1))).setCell ⟨gb890,2,none⟩ (.slice A889_2 ((rd_T45 l0_0 a1).f2).length c889_2)) = w56 at n0_ n1_ n2_ n3_ ⊢
 revert n0_ n1_ n2_ n3_;intro HO3 BK888 BK890 HB
 (try (rw [drewN_self w56];generalize hq_ : World.drewN w56 _ = w56;have n0_ : Aside0 (Kd.V (Kd.int .i64) 3 w56 w.heap.size (fun k_ => (P3_ k_ ∨ w.heap.size ≤ k_) ∧ k_ ≠ gb888 ∧ k_ ≠ gb890) (.slice A3 l3.length c3) l3) := ⟨by rw [← hq_];exact (by (with_reducible repeat (first|apply Kd.V_alloc|apply Kd.V_drewN|apply Kd.V_drew));exact HO3.out)⟩;have n1_ : Aside0 (w56.heap[gb888]? = some (.cells #[.slice (some ad889) l0_0.length c0_0,.int .i64 a0_1] 29 (0,0))) := ⟨by rw [← hq_];exact (zk_ BK888.out)⟩;have n2_ : Aside0 (w56.heap[gb890]? = some (.cells #[.int .i64 ((rd_T45 l0_0 a1).f0),.int .i64 ((rd_T45 l0_0 a1).f1),.slice A889_2 ((rd_T45 l0_0 a1).f2).length c889_2] 45 (0,0))) := ⟨by rw [← hq_];exact (zk_ BK890.out)⟩;have n3_ : Aside0 (Below w.heap.size w w56) := ⟨by rw [← hq_];exact (zb2 HB.out GE888.out GE890.out)⟩;clear HO3 BK888 BK890 HB hq_;revert n0_ n1_ n2_ n3_;intro HO3 BK888 BK890 HB))
 have n0_ := As_ (Kd.V_drew HO3.out)
 have n1_ := As_ (bkD BK888.out)
 have n2_ := As_ (bkD BK890.out)
 have n3_ := As_ (bwD HB.out)
 clear HO3 BK888 BK890 HB
 revert n0_ n1_ n2_ n3_;intro HO3 BK888 BK890 HB
 refine start_ (n := 12) (S := fun w' => w'.cell? ⟨gb890,0,none⟩ = some (.int .i64 ((rd_T45 l0_0 a1).f0)) ∧ w'.cell? ⟨gb890,1,none⟩ = some (.int .i64 ((rd_T45 l0_0 a1).f1)) ∧ w'.cell? ⟨gb890,2,none⟩ = some (.slice A889_2 ((rd_T45 l0_0 a1).f2).length c889_2)) (ds := []) (bl_ 0 12) (by kernel_rfl) rfl rfl ⟨(bkC BK890.out 0).trans rfl,(bkC BK890.out 1).trans rfl,(bkC BK890.out 2).trans rfl⟩ (fun hHeld => ?_);refine with_tabW spec_code.tab5 spec_code.bits5 (fun HT_ HW_ => ?_)
 generalize w56.drew = w57 at HO3 BK888 BK890 HB hHeld ⊢
 refine pQ 0 29 (bl_ 1 12) HT_ rfl ?_
 refine pQ 2 31 (bl_ 5 12) HT_ rfl ?_
 refine pQ 4 33 (bl_ 21 12) HT_ rfl ?_
 refine pQ 6 35 (bl_ 85 12) HT_ rfl ?_
 refine tP 3 32 (bl_ 93 12) ?_ HT_ HW_ rfl (.inl ⟨by rfl,?_⟩) hHeld ?_ ?_ ?_;rotate_left;(rintro w' ⟨s0,s1,s2⟩;go_simp;with_reducible rfl);rotate_left;(simp only [Act.put,sq_,i64_w,i32_w];rfl)
 refine tP 5 34 (bl_ 125 12) ?_ HT_ HW_ rfl (.inl ⟨by rfl,?_⟩) hHeld ?_ ?_ ?_;rotate_left;(rintro w' ⟨s0,s1,s2⟩;go_simp;with_reducible rfl);rotate_left;(simp only [Act.put,sq_,i64_w,i32_w];rfl)
 refine tP 7 36 (bl_ 253 12) ?_ HT_ HW_ rfl (.inl ⟨by rfl,?_⟩) hHeld ?_ ?_ ?_;rotate_left;(rintro w' ⟨s0,s1,s2⟩;go_simp;with_reducible rfl);rotate_left;(simp only [Act.put,sq_,i64_w,i32_w];rfl)
 refine pQ 8 37 (bl_ 509 12) HT_ rfl ?_
 refine join_ (σ := Value × Value) 2 (bl_ 1023 12) (fun s_ => [(30,s_.1),(38,s_.2)]) (fun s_ w' => (w'.cell? ⟨gb890,0,none⟩ = some (.int .i64 ((rd_T45 l0_0 a1).f0)) ∧ w'.cell? ⟨gb890,1,none⟩ = some (.int .i64 ((rd_T45 l0_0 a1).f1)) ∧ w'.cell? ⟨gb890,2,none⟩ = some (.slice A889_2 ((rd_T45 l0_0 a1).f2).length c889_2)) ∧ (Kd.V (Kd.int .i64) 3 w' w.heap.size (fun k_ => (P3_ k_ ∨ w.heap.size ≤ k_) ∧ some k_ ≠ (s_.1 : Value).ownBlock ∧ some k_ ≠ (s_.2 : Value).ownBlock ∧ k_ ≠ gb888 ∧ k_ ≠ gb890) (.slice A3 l3.length c3) l3) ∧ (Kd.R (Kd.int .i64) 3 w' w.heap.size (fun k_ => (w.heap.size ≤ k_) ∧ some k_ ≠ (s_.2 : Value).ownBlock) s_.1 t901) ∧ (Kd.R (Kd.int .i64) 3 w' w.heap.size (fun k_ => (w.heap.size ≤ k_) ∧ some k_ ≠ (s_.1 : Value).ownBlock) s_.2 y904) ∧ (w'.heap[gb888]? = some (.cells #[.slice (some ad889) l0_0.length c0_0,.int .i64 a0_1] 29 (0,0))) ∧ (w'.heap[gb890]? = some (.cells #[.int .i64 ((rd_T45 l0_0 a1).f0),.int .i64 ((rd_T45 l0_0 a1).f1),.slice A889_2 ((rd_T45 l0_0 a1).f2).length c889_2] 45 (0,0))) ∧ (Below w.heap.size w w')) ?_ ?_
 rotate_left
 ·intro hCont
  refine two_ (i := 1) (j := 9) (Ni := some 30) (Nj := some 38) (bl_ 511 12) (bl_ 1021 12) rfl rfl rfl rfl (two_of HT_.out (by kernel_rfl)) (by decide) (by decide) (fun K hK => ?_) (fun K hK => ?_)
  ·skip
   refine goes_ Try.func78 (by kernel_rfl) rfl #[.slice A2 l2.length c2] (by rfl) rfl rfl zM_ ?_
   with_reducible refine (spec_copyInts.calls _ _ l2 t901 _ ?side1 ?side2 A21.out).mono ?_
   (case side1 => exact zC_ (Kd.C_below HR2.out HB.out))
   (case side2 => exact HC2.out)
   rintro e w58 ⟨v902,rfl,ho0,hb⟩
   refine ⟨_,rfl,?_⟩
   have n0_ := As_ (Kd.V_elder' (by (with_reducible repeat (first|apply Kd.V_alloc|apply Kd.V_drewN|apply Kd.V_drew));exact HO3.out) (Kd.R_base ho0) hb)
   have n1_ := As_ (Kd.R_lower (Kd.R_newM (M := fun k_ => (w.heap.size ≤ k_)) ho0 (bwZ (zb2 HB.out GE888.out GE890.out)) (fun k_ h_ => h_)) (bwZ (zb2 HB.out GE888.out GE890.out)))
   have n2_ := As_ (zkb BK888.out hb)
   have n3_ := As_ (zkb BK890.out hb)
   have n4_ := As_ (bwT (zb2 HB.out GE888.out GE890.out) hb)
   clear HO3 BK888 BK890 HB
   revert n0_ n1_ n2_ n3_ n4_;intro HO3 HO903 BK888 BK890 HB
   refine hK.out _ _ ⟨(bkC BK890.out 0).trans rfl,(bkC BK890.out 1).trans rfl,(bkC BK890.out 2).trans rfl⟩ (fun hHeld => ?_)
   clear hK K
   refine norm_ (a' := ?_) ?_ ?_
   rotate_left
   ·show Act.put _ (some 30) _ = _
    simp only [Act.put,sq_,i64_w,i32_w]
    rfl
   refine one_ (i := 9) (N := some 38) (bl_ 1023 12) rfl rfl (one_of HT_.out (by kernel_rfl)) (by decide) (fun K hK => ?_)
   refine Kd.R_lit_step (Kd.int .i64) _ 3 ?hg (N := 38) ?hd (xs := ([(rd_T45 l0_0 a1).f0,(rd_T45 l0_0 a1).f1,(((rd_T45 l0_0 a1).f2).length : Int)] : List Int)) (inner := [.int .i64 ((rd_T45 l0_0 a1).f0),.int .i64 ((rd_T45 l0_0 a1).f1),.int .i64 (((rd_T45 l0_0 a1).f2).length : Int)]) (ok := fun _ => True) (okp := fun _ => True) ?hr ?hp (fun _ hk => hk) trivial (Below.refl _ _) (Nat.le_refl _) (by simp) ?_;(case hd => rfl);(case hg => rfl);(case hr => go_simp <;> rfl);(case hp => exact (Reps.one (show Kd.M (Kd.int .i64) _ _ _ ((rd_T45 l0_0 a1).f0) [.int .i64 ((rd_T45 l0_0 a1).f0)] from rfl) (Reps.one (show Kd.M (Kd.int .i64) _ _ _ ((rd_T45 l0_0 a1).f1) [.int .i64 ((rd_T45 l0_0 a1).f1)] from rfl) (Reps.one (show Kd.M (Kd.int .i64) _ _ _ (((rd_T45 l0_0 a1).f2).length : Int) [.int .i64 (((rd_T45 l0_0 a1).f2).length : Int)] from rfl) (Reps.none _ _)))))
   intro v905 w59 ho60 hb hg_ hnew_
   clear hg_ hnew_
   (first|rw [← Ny904.out] at ho60|(simp only [Int.reduceToNat] at ho60;rw [← Ny904.out] at ho60))
   have n0_ := As_ (Kd.V_elder' (by (with_reducible repeat (first|apply Kd.V_alloc|apply Kd.V_drewN|apply Kd.V_drew));exact HO3.out) (Kd.R_base ho60) hb)
   have n1_ := As_ (Kd.R_elder' (zR_ HO903.out) (Kd.R_base ho60) hb)
   have n2_ := As_ (Kd.R_lower (Kd.R_new' (Kd.R_newM (M := fun k_ => (w.heap.size ≤ k_)) ho60 (bwZ (zb2 HB.out GE888.out GE890.out)) (fun k_ h_ => h_)) (Kd.R_lt (zR_ HO903.out))) (bwZ (zb2 HB.out GE888.out GE890.out)))
   have n3_ := As_ (zkb BK888.out hb)
   have n4_ := As_ (zkb BK890.out hb)
   have n5_ := As_ (bwT (zb2 HB.out GE888.out GE890.out) hb)
   clear HO3 HO903 BK888 BK890 HB
   revert n0_ n1_ n2_ n3_ n4_ n5_;intro HO3 HO903 HO906 BK888 BK890 HB
   clear hb ho60
   refine hK.out _ _ ⟨(bkC BK890.out 0).trans rfl,(bkC BK890.out 1).trans rfl,(bkC BK890.out 2).trans rfl⟩ (fun hHeld => ?_)
   clear hK K
   refine norm_ (a' := ?_) ?_ ?_
   rotate_left
   ·show Act.put _ (some 38) _ = _
    simp only [Act.put,sq_,i64_w,i32_w]
    rfl
   exact norm_ (by simp only [putAll,Act.put,List.setIfInBounds_toArray,List.set_cons_zero,List.set_cons_succ]) (hCont (v902,v905) _ ⟨hHeld,(by (with_reducible repeat (first|apply Kd.V_alloc|apply Kd.V_drewN|apply Kd.V_drew));exact Kd.V_mono HO3.out (fun _ hk => ⟨hk.1.1.1,⟨hk.1.2,⟨hk.2,⟨hk.1.1.2.1,hk.1.1.2.2⟩⟩⟩⟩)),(by (with_reducible repeat (first|apply Kd.R_alloc|apply Kd.R_drewN|apply Kd.R_drew));exact Kd.R_mono HO903.out (fun _ hk => ⟨hk.1.1,hk.2⟩)),(by (with_reducible repeat (first|apply Kd.R_alloc|apply Kd.R_drewN|apply Kd.R_drew));exact Kd.R_mono HO906.out (fun _ hk => ⟨hk.1.1,hk.2⟩)),(zk_ BK888.out),(zk_ BK890.out),(zb2 HB.out GE888.out GE890.out)⟩)
  ·skip
   refine Kd.R_lit_step (Kd.int .i64) _ 3 ?hg (N := 38) ?hd (xs := ([(rd_T45 l0_0 a1).f0,(rd_T45 l0_0 a1).f1,(((rd_T45 l0_0 a1).f2).length : Int)] : List Int)) (inner := [.int .i64 ((rd_T45 l0_0 a1).f0),.int .i64 ((rd_T45 l0_0 a1).f1),.int .i64 (((rd_T45 l0_0 a1).f2).length : Int)]) (ok := fun _ => True) (okp := fun _ => True) ?hr ?hp (fun _ hk => hk) trivial (Below.refl _ _) (Nat.le_refl _) (by simp) ?_;(case hd => rfl);(case hg => rfl);(case hr => go_simp <;> rfl);(case hp => exact (Reps.one (show Kd.M (Kd.int .i64) _ _ _ ((rd_T45 l0_0 a1).f0) [.int .i64 ((rd_T45 l0_0 a1).f0)] from rfl) (Reps.one (show Kd.M (Kd.int .i64) _ _ _ ((rd_T45 l0_0 a1).f1) [.int .i64 ((rd_T45 l0_0 a1).f1)] from rfl) (Reps.one (show Kd.M (Kd.int .i64) _ _ _ (((rd_T45 l0_0 a1).f2).length : Int) [.int .i64 (((rd_T45 l0_0 a1).f2).length : Int)] from rfl) (Reps.none _ _)))))
   intro v905 w58 ho59 hb hg_ hnew_
   clear hg_ hnew_
   (first|rw [← Ny904.out] at ho59|(simp only [Int.reduceToNat] at ho59;rw [← Ny904.out] at ho59))
   have n0_ := As_ (Kd.V_elder' (by (with_reducible repeat (first|apply Kd.V_alloc|apply Kd.V_drewN|apply Kd.V_drew));exact HO3.out) (Kd.R_base ho59) hb)
   have n1_ := As_ (Kd.R_lower (Kd.R_newM (M := fun k_ => (w.heap.size ≤ k_)) ho59 (bwZ (zb2 HB.out GE888.out GE890.out)) (fun k_ h_ => h_)) (bwZ (zb2 HB.out GE888.out GE890.out)))
   have n2_ := As_ (zkb BK888.out hb)
   have n3_ := As_ (zkb BK890.out hb)
   have n4_ := As_ (bwT (zb2 HB.out GE888.out GE890.out) hb)
   clear HO3 BK888 BK890 HB
   revert n0_ n1_ n2_ n3_ n4_;intro HO3 HO906 BK888 BK890 HB
   clear hb ho59
   refine hK.out _ _ ⟨(bkC BK890.out 0).trans rfl,(bkC BK890.out 1).trans rfl,(bkC BK890.out 2).trans rfl⟩ (fun hHeld => ?_)
   clear hK K
   refine norm_ (a' := ?_) ?_ ?_
   rotate_left
   ·show Act.put _ (some 38) _ = _
    simp only [Act.put,sq_,i64_w,i32_w]
    rfl
   refine one_ (i := 1) (N := some 30) (bl_ 1023 12) rfl rfl (one_of HT_.out (by kernel_rfl)) (by decide) (fun K hK => ?_)
   refine goes_ Try.func78 (by kernel_rfl) rfl #[.slice A2 l2.length c2] (by rfl) rfl rfl zM_ ?_
   with_reducible refine (spec_copyInts.calls _ _ l2 t901 _ ?side1 ?side2 A21.out).mono ?_
   (case side1 => exact zC_ (Kd.C_below HR2.out HB.out))
   (case side2 => exact HC2.out)
   rintro e w60 ⟨v902,rfl,ho0,hb⟩
   refine ⟨_,rfl,?_⟩
   have n0_ := As_ (Kd.V_elder' (by (with_reducible repeat (first|apply Kd.V_alloc|apply Kd.V_drewN|apply Kd.V_drew));exact HO3.out) (Kd.R_base ho0) hb)
   have n1_ := As_ (Kd.R_elder' (zR_ HO906.out) (Kd.R_base ho0) hb)
   have n2_ := As_ (Kd.R_lower (Kd.R_new' (Kd.R_newM (M := fun k_ => (w.heap.size ≤ k_)) ho0 (bwZ (zb2 HB.out GE888.out GE890.out)) (fun k_ h_ => h_)) (Kd.R_lt (zR_ HO906.out))) (bwZ (zb2 HB.out GE888.out GE890.out)))
   have n3_ := As_ (zkb BK888.out hb)
   have n4_ := As_ (zkb BK890.out hb)
   have n5_ := As_ (bwT (zb2 HB.out GE888.out GE890.out) hb)
   clear HO3 HO906 BK888 BK890 HB
   revert n0_ n1_ n2_ n3_ n4_ n5_;intro HO3 HO906 HO903 BK888 BK890 HB
   refine hK.out _ _ ⟨(bkC BK890.out 0).trans rfl,(bkC BK890.out 1).trans rfl,(bkC BK890.out 2).trans rfl⟩ (fun hHeld => ?_)
   clear hK K
   refine norm_ (a' := ?_) ?_ ?_
   rotate_left
   ·show Act.put _ (some 30) _ = _
    simp only [Act.put,sq_,i64_w,i32_w]
    rfl
   exact norm_ (by simp only [putAll,Act.put,List.setIfInBounds_toArray,List.set_cons_zero,List.set_cons_succ]) (hCont (v902,v905) _ ⟨hHeld,(by (with_reducible repeat (first|apply Kd.V_alloc|apply Kd.V_drewN|apply Kd.V_drew));exact Kd.V_mono HO3.out (fun _ hk => ⟨hk.1.1.1,⟨hk.2,⟨hk.1.2,⟨hk.1.1.2.1,hk.1.1.2.2⟩⟩⟩⟩)),(by (with_reducible repeat (first|apply Kd.R_alloc|apply Kd.R_drewN|apply Kd.R_drew));exact Kd.R_mono HO903.out (fun _ hk => ⟨hk.1.1,hk.2⟩)),(by (with_reducible repeat (first|apply Kd.R_alloc|apply Kd.R_drewN|apply Kd.R_drew));exact Kd.R_mono HO906.out (fun _ hk => ⟨hk.1.1,hk.2⟩)),(zk_ BK888.out),(zk_ BK890.out),(zb2 HB.out GE888.out GE890.out)⟩)
 rintro ⟨v902,v905⟩ w61 ⟨hS_,h0_,h1_,h2_,h3_,h4_,h5_⟩
 have n0_ : Aside0 (Kd.V (Kd.int .i64) 3 w61 w.heap.size (fun k_ => (P3_ k_ ∨ w.heap.size ≤ k_) ∧ some k_ ≠ (v902 : Value).ownBlock ∧ some k_ ≠ (v905 : Value).ownBlock ∧ k_ ≠ gb888 ∧ k_ ≠ gb890) (.slice A3 l3.length c3) l3) := ⟨h0_⟩
 have n1_ : Aside0 (Kd.R (Kd.int .i64) 3 w61 w.heap.size (fun k_ => (w.heap.size ≤ k_) ∧ some k_ ≠ (v905 : Value).ownBlock) v902 t901) := ⟨h1_⟩
 have n2_ : Aside0 (Kd.R (Kd.int .i64) 3 w61 w.heap.size (fun k_ => (w.heap.size ≤ k_) ∧ some k_ ≠ (v902 : Value).ownBlock) v905 y904) := ⟨h2_⟩
 have n3_ : Aside0 (w61.heap[gb888]? = some (.cells #[.slice (some ad889) l0_0.length c0_0,.int .i64 a0_1] 29 (0,0))) := ⟨h3_⟩
 have n4_ : Aside0 (w61.heap[gb890]? = some (.cells #[.int .i64 ((rd_T45 l0_0 a1).f0),.int .i64 ((rd_T45 l0_0 a1).f1),.slice A889_2 ((rd_T45 l0_0 a1).f2).length c889_2] 45 (0,0))) := ⟨h4_⟩
 have n5_ : Aside0 (Below w.heap.size w w61) := ⟨h5_⟩
 clear HO3 BK888 BK890 HB h0_ h1_ h2_ h3_ h4_ h5_
 revert n0_ n1_ n2_ n3_ n4_ n5_;intro HO3 HO903 HO906 BK888 BK890 HB
 have hHeld : w61.cell? ⟨gb890,0,none⟩ = some (.int .i64 ((rd_T45 l0_0 a1).f0)) ∧ w61.cell? ⟨gb890,1,none⟩ = some (.int .i64 ((rd_T45 l0_0 a1).f1)) ∧ w61.cell? ⟨gb890,2,none⟩ = some (.slice A889_2 ((rd_T45 l0_0 a1).f2).length c889_2) := hS_
 obtain ⟨Ao63,co63,eo63⟩ := Kd.R_slice HO906.out
 (first|subst eo63|(injection eo63 with f1_ f2_ f3_;have f4_ := f1_.symm;have f5_ := f3_.symm;clear f1_ f2_ f3_;subst f4_;subst f5_))
 refine norm_ (a' := ?_) ?_ ?_
 rotate_left
 ·simp only [putAll,Act.put,List.setIfInBounds_toArray,List.set_cons_zero,List.set_cons_succ]
  rfl
 refine one_ (i := 10) (N := some 39) (bl_ 2047 12) rfl rfl (one_of HT_.out (by kernel_rfl)) (by decide) (fun K hK => ?_)
 refine Kd.R_append_rows_step (Kd.int .i64) (w0 := w) w.heap.size (by rfl) (.tmp 30) (.tmp 38) 37 3 (.int .i64 0) 8 rfl Try.underlying37 info3 rfl (by decide) (by omega) v902 t901 y904 _ _ _ (fun k_ => (w.heap.size ≤ k_) ∧ some k_ ≠ (.slice Ao63 y904.length co63 : Value).ownBlock) (fun _ => False) rfl rfl ?aO ?aR (fun _ _ h => h) (fun _ h => h.elim) ?aF ?aB ?aS ?aL ?_
 (case aR => exact zC_ (Kd.R_reads' HO906.out).2.2)
 (case aB => exact (zb2 HB.out GE888.out GE890.out))
 (case aF => exact (fun k_ hk => ⟨(Nat.le_trans (bwZ (zb2 HB.out GE888.out GE890.out)) hk),Kd.fresh' (Kd.R_lt (zR_ HO906.out)) k_ hk⟩))
 (case aO => exact (zR_ HO903.out))
 (case aS => exact (bwZ (zb2 HB.out GE888.out GE890.out)))
 (case aL => have := LMc22.out;omega)
 intro v908 w62 ho hb hg hat
 rw [← Ny907.out] at ho
 have n0_ := As_ (Kd.V_afterv (ok := (fun k_ => (P3_ k_ ∨ w.heap.size ≤ k_) ∧ some k_ ≠ (.slice Ao63 y904.length co63 : Value).ownBlock ∧ k_ ≠ gb888 ∧ k_ ≠ gb890)) (by (with_reducible repeat (first|apply Kd.V_alloc|apply Kd.V_drewN|apply Kd.V_drew));exact Kd.V_mono HO3.out (fun _ hk => ⟨⟨hk.1,⟨hk.2.2.1,⟨hk.2.2.2.1,hk.2.2.2.2⟩⟩⟩,hk.2.1⟩)) hg hat)
 have n1_ := As_ (blk_grown (g := gb888) (o := .cells #[.slice (some ad889) l0_0.length c0_0,.int .i64 a0_1] 29 (0,0)) (zk_ BK888.out) hg (Kd.R_ne HO903.out BK888.out (by decide)))
 have n2_ := As_ (blk_grown (g := gb890) (o := .cells #[.int .i64 ((rd_T45 l0_0 a1).f0),.int .i64 ((rd_T45 l0_0 a1).f1),.slice A889_2 ((rd_T45 l0_0 a1).f2).length c889_2] 45 (0,0)) (zk_ BK890.out) hg (Kd.R_ne HO903.out BK890.out (by decide)))
 have n3_ := As_ (Kd.R_after (ok := (fun k_ => (w.heap.size ≤ k_))) (zR_ HO906.out) hg hat)
 have n4_ := As_ (hb)
 have n5_ := As_ (ho)
 clear HO3 BK888 BK890 HO906 HB HO903
 revert n0_ n1_ n2_ n3_ n4_ n5_;intro HO3 BK888 BK890 HO906 HB HO909
 clear ho hb hg hat
 refine hK.out _ _ ⟨(bkC BK890.out 0).trans rfl,(bkC BK890.out 1).trans rfl,(bkC BK890.out 2).trans rfl⟩ (fun hHeld => ?_)
 clear hK K
 refine norm_ (a' := ?_) ?_ ?_
 rotate_left
 ·show Act.put _ (some 39) _ = _
  simp only [Act.put,sq_,i64_w,i32_w]
  rfl
 refine pQ 11 2 (bl_ 4095 12) HT_ rfl ?_
 refine done_ (done_of HT_.out (by kernel_rfl)) ?_
 obtain ⟨hcz64_0,hcz64_1,hcz64_2,hfz64_0,hfz64_1,hfz64_2⟩ := bk3 BK890.out
 try go_wp2_with (first|((with_reducible refine gate_callee (f := 78) rfl ?_);refine goesL_ (some 44) rfl rfl Try.func78 (by kernel_rfl) rfl #[.slice A3 l3.length c3] rfl zM_ ?_;(with_reducible refine (spec_copyInts.calls _ _ l3 t917 _ ?side1 ?side2 A49.out).mono ?_);(case side1 => exact zC_ (Kd.V_reads' HO3.out).2.2);(case side2 => exact (Kd.V_reads' HO3.out).2.1);rintro e w65 ⟨v918,rfl,ho0,hb⟩;refine ⟨_,rfl,?_⟩;have n0_ := As_ (Kd.V_elder' (by (with_reducible repeat (first|apply Kd.V_alloc|apply Kd.V_drewN|apply Kd.V_drew));exact HO3.out) (Kd.R_base ho0) hb);have n1_ := As_ (Kd.R_elder' (zR_ HO906.out) (Kd.R_base ho0) hb);have n2_ := As_ (Kd.R_elder' (zR_ HO909.out) (Kd.R_base ho0) hb);have n3_ := As_ (Kd.R_lower (Kd.R_new' (Kd.R_new' (Kd.R_newM (M := fun k_ => (w.heap.size ≤ k_)) ho0 (bwZ (zb2 HB.out GE888.out GE890.out)) (fun k_ h_ => h_)) (Kd.R_lt (zR_ HO906.out))) (Kd.R_lt (zR_ HO909.out))) (bwZ (zb2 HB.out GE888.out GE890.out)));have n4_ := As_ (zkb BK888.out hb);have n5_ := As_ (zkb BK890.out hb);have n6_ := As_ (bwT (zb2 HB.out GE888.out GE890.out) hb);clear HO3 HO906 HO909 BK888 BK890 HB;revert n0_ n1_ n2_ n3_ n4_ n5_ n6_;intro HO3 HO906 HO909 HO919 BK888 BK890 HB)|((with_reducible refine gate_builtin (b := .append) (xs := #[.tmp 44,.tmp 46]) rfl ?_);at_builtin;refine Kd.R_append (Kd.int .i64) (w0 := w) w.heap.size rfl (.tmp 44) (.tmp 46) 37 3 (.int .i64 0) 8 rfl Try.underlying37 info3 rfl (by decide) (by omega) v918 t917 a1 [.int .i64 a1] (fun k_ => (w.heap.size ≤ k_) ∧ some k_ ≠ (.slice Ao63 y904.length co63 : Value).ownBlock ∧ some k_ ≠ (v908 : Value).ownBlock) (fun _ => False) rfl rfl ?aP (fun _ hk => hk.elim) ?aF ?aO ?aB ?aS ?aL ?_;(case aP => exact rfl);(case aB => exact (zb2 HB.out GE888.out GE890.out));(case aF => exact (fun k_ hk => ⟨(Nat.le_trans (bwZ (zb2 HB.out GE888.out GE890.out)) hk),Kd.fresh' (Kd.R_lt (zR_ HO906.out)) k_ hk,Kd.fresh' (Kd.R_lt (zR_ HO909.out)) k_ hk⟩));(case aO => exact (by (with_reducible repeat (first|apply Kd.R_alloc|apply Kd.R_drewN|apply Kd.R_drew));exact Kd.R_mono HO919.out (fun _ hk => ⟨hk.1.1.1,⟨hk.1.2,hk.2⟩⟩)));(case aS => exact (bwZ (zb2 HB.out GE888.out GE890.out)));(case aL => have := LMc50.out;omega);intro v921 w66 ho hb hg hat;rw [← Ny920.out] at ho;have n0_ := As_ (Kd.V_afterv (ok := (fun k_ => (P3_ k_ ∨ w.heap.size ≤ k_) ∧ some k_ ≠ (.slice Ao63 y904.length co63 : Value).ownBlock ∧ some k_ ≠ (v908 : Value).ownBlock ∧ k_ ≠ gb888 ∧ k_ ≠ gb890)) (by (with_reducible repeat (first|apply Kd.V_alloc|apply Kd.V_drewN|apply Kd.V_drew));exact Kd.V_mono HO3.out (fun _ hk => ⟨⟨hk.1.1.1,⟨hk.1.1.2.1,⟨hk.1.2,⟨hk.1.1.2.2.1,hk.1.1.2.2.2⟩⟩⟩⟩,hk.2⟩)) hg hat);have n1_ := As_ (blk_grown (g := gb888) (o := .cells #[.slice (some ad889) l0_0.length c0_0,.int .i64 a0_1] 29 (0,0)) (zk_ BK888.out) hg (Kd.R_ne HO919.out BK888.out (by decide)));have n2_ := As_ (blk_grown (g := gb890) (o := .cells #[.int .i64 ((rd_T45 l0_0 a1).f0),.int .i64 ((rd_T45 l0_0 a1).f1),.slice A889_2 ((rd_T45 l0_0 a1).f2).length c889_2] 45 (0,0)) (zk_ BK890.out) hg (Kd.R_ne HO919.out BK890.out (by decide)));have n3_ := As_ (Kd.R_after (ok := (fun k_ => (w.heap.size ≤ k_) ∧ some k_ ≠ (v908 : Value).ownBlock)) (zR_ HO906.out) hg hat);have n4_ := As_ (Kd.R_after (ok := (fun k_ => (w.heap.size ≤ k_) ∧ some k_ ≠ (.slice Ao63 y904.length co63 : Value).ownBlock)) (zR_ HO909.out) hg hat);have n5_ := As_ (hb);have n6_ := As_ (ho);clear HO3 BK888 BK890 HO906 HO909 HB HO919;revert n0_ n1_ n2_ n3_ n4_ n5_ n6_;intro HO3 BK888 BK890 HO906 HO909 HB HO922;clear ho hb hg hat))
 go_loopg [2,3,12] k (fun kq v2 v3 v12 w' => ∃ (x2_1 : List Int) (x3_1 : List Int) (x12_1 : Int),v12 = .int .i64 x12_1 ∧ Aside0 (spec_code.l0 kq x2_1 x3_1 x12_1 l0_0 a0_1 ((rd_T45 l0_0 a1).f0) ((rd_T45 l0_0 a1).f1) ((rd_T45 l0_0 a1).f2) = some (r1,r2)) ∧ Aside0 (kq ≤ k) ∧ Aside0 (Kd.R (Kd.int .i64) 3 w' w.heap.size (fun k_ => (w.heap.size ≤ k_)) v2 x2_1) ∧ Aside0 (Kd.V (Kd.int .i64) 3 w' w.heap.size (fun k_ => (P3_ k_ ∨ w.heap.size ≤ k_) ∧ some k_ ≠ (v2 : Value).ownBlock ∧ k_ ≠ gb888 ∧ k_ ≠ gb890) v3 x3_1) ∧ Aside0 (w'.heap[gb888]? = some (.cells #[(.slice (some ad889) l0_0.length c0_0),.int .i64 a0_1] 29 (0,0))) ∧ Aside0 (w'.heap[gb890]? = some (.cells #[.int .i64 ((rd_T45 l0_0 a1).f0),.int .i64 ((rd_T45 l0_0 a1).f1),(.slice A889_2 ((rd_T45 l0_0 a1).f2).length c889_2)] 45 (0,0))) ∧ Aside0 (Below w.heap.size w w'))
 case atStart => exact ⟨(y907),(y920),(0),zT_,H',⟨Nat.le_refl _⟩,⟨by (with_reducible repeat (first|apply Kd.R_alloc|apply Kd.R_drewN|apply Kd.R_drew));exact Kd.R_mono HO909.out (fun _ hk => hk.1.1)⟩,⟨Kd.V_mono (Kd.R_V (Kd.R_types (Kd.R_types HO922.out BK888.out (by decide)) BK890.out (by decide))) (fun k_ hk => ⟨.inr hk.1.1.1,⟨hk.1.1.2.2,⟨hk.1.2,hk.2⟩⟩⟩)⟩,⟨by (with_reducible repeat first|apply bkN|apply bkD|apply bkA);exact BK888.out⟩,⟨by (with_reducible repeat first|apply bkN|apply bkD|apply bkA);exact BK890.out⟩,⟨zb2 HB.out GE888.out GE890.out⟩⟩
 case round =>
  clear H'
  obtain ⟨x2_1,x3_1,x12_1,rfl,HA,HK1,HO_2,HO_3,BK888,BK890,HB⟩ := hrel
  cases gk with
  | zero => exact absurd HA.out (fun h_ => (by cases h_))
  | succ k1 =>
   have H := HA.out
   clear HA
   simp only [spec_code.l0] at H
   by_cases c67 : x12_1 < (((rd_T45 l0_0 a1).f2).length : Int)
   rotate_left
   ·rw [if_neg c67] at H
    have c67b0 : decide (x12_1 < (((rd_T45 l0_0 a1).f2).length : Int)) = false := deF c67
    clear c67
    simp only [Option.some.injEq,Prod.mk.injEq] at H
    obtain ⟨rfl,rfl⟩ := H
    have hnb76 := NB890_888.out
    have hnc76 := NB888_890.out
    obtain ⟨hcz77_0,hcz77_1,hcz77_2,hfz77_0,hfz77_1,hfz77_2⟩ := bk3 BK890.out
    go_wp2
    go_ret2
    exact ⟨_,_,zE_,by (with_reducible repeat (first|apply Kd.R_alloc|apply Kd.R_drewN|apply Kd.R_drew));exact HO_2.out,by (with_reducible repeat (first|apply Kd.V_alloc|apply Kd.V_drewN|apply Kd.V_drew));exact Kd.V_mono HO_3.out (fun _ hk => ⟨hk.1,hk.2.1⟩),zb2 HB.out GE888.out GE890.out⟩

   rw [if_pos c67] at H
   have c67b0 : decide (x12_1 < (((rd_T45 l0_0 a1).f2).length : Int)) = true := deT c67
   clear c67
   by_cases c68 : 0 ≤ x12_1
   rotate_left
   ·rw [if_neg c68] at H
    exact absurd H (by simp)
   rw [if_pos c68] at H
   have c68b0 : decide (0 ≤ x12_1) = true := deT c68
   clear c68
   replace H := obS H
   obtain ⟨⟨t911,t914⟩,A690,H⟩ := H
   replace H : (spec_code.l0 k1 t911 t914 (wrap64 (x12_1 + 1)) l0_0 a0_1 ((rd_T45 l0_0 a1).f0) ((rd_T45 l0_0 a1).f1) ((rd_T45 l0_0 a1).f2)) = some (r1,r2) := H
   have A69 := As_ A690
   clear A690
   have H' := As_ H
   clear H
   have hnb70 := NB890_888.out
   have hnc70 := NB888_890.out
   obtain ⟨hcz71_0,hcz71_1,hcz71_2,hfz71_0,hfz71_1,hfz71_2⟩ := bk3 BK890.out
   try go_wp2
   have n0_ := As_ (Kd.R_drew HO_2.out)
   have n1_ := As_ (Kd.V_drew HO_3.out)
   have n2_ := As_ (bkD BK888.out)
   have n3_ := As_ (bkD BK890.out)
   have n4_ := As_ (bwD HB.out)
   clear HO_2 HO_3 BK888 BK890 HB
   revert n0_ n1_ n2_ n3_ n4_;intro HO_2 HO_3 BK888 BK890 HB
   have p910 : 0 ≤ (x12_1 : Int) := odT zA_
   have q910 : x12_1 < (((rd_T45 l0_0 a1).f2).length : Int) := odT zA_
   obtain ⟨ad910,e910,hx910_0⟩ := Kd.at_int HR889_2.out x12_1 p910 q910
   have hw910_0 := hx910_0
   cases e910
   replace hx910_0 := bwC HB.out hx910_0
   replace p910 := eq_true p910
   replace q910 := eq_true q910
   obtain ⟨Ao73,co73,eo73⟩ := Kd.R_slice HO_2.out
   (first|subst eo73|(injection eo73 with f1_ f2_ f3_;have f4_ := f1_.symm;have f5_ := f3_.symm;clear f1_ f2_ f3_;subst f4_;subst f5_))
   obtain ⟨Ao74,co74,eo74⟩ := Kd.V_slice HO_3.out
   (first|subst eo74|(injection eo74 with f1_ f2_ f3_;have f4_ := f1_.symm;have f5_ := f3_.symm;clear f1_ f2_ f3_;subst f4_;subst f5_))
   refine start_ (n := 14) (S := fun w' => w'.cell? ⟨gb888,0,none⟩ = some (.slice (some ad889) l0_0.length c0_0) ∧ w'.cell? ⟨gb888,1,none⟩ = some (.int .i64 a0_1) ∧ w'.cell? ⟨gb890,0,none⟩ = some (.int .i64 ((rd_T45 l0_0 a1).f0)) ∧ w'.cell? ⟨gb890,1,none⟩ = some (.int .i64 ((rd_T45 l0_0 a1).f1)) ∧ w'.cell? ⟨gb890,2,none⟩ = some (.slice (some ad910) ((rd_T45 l0_0 a1).f2).length c889_2) ∧ w'.cell? (ad910.add (x12_1).toNat) = some (.int .i64 (rd ((rd_T45 l0_0 a1).f2) x12_1))) (ds := []) (bl_ 0 14) (by kernel_rfl) rfl rfl ⟨(bkC BK888.out 0).trans rfl,(bkC BK888.out 1).trans rfl,(bkC BK890.out 0).trans rfl,(bkC BK890.out 1).trans rfl,(bkC BK890.out 2).trans rfl,((HB.out.cell (bwL w _ hw910_0)).trans hw910_0)⟩ (fun hHeld => ?_);refine with_tabW spec_code.tab11 spec_code.bits11 (fun HT_ HW_ => ?_)
   generalize wr.drew = w72 at HO_2 HO_3 BK888 BK890 HB hx910_0 hHeld ⊢
   refine pQ 1 57 (bl_ 2 14) HT_ rfl ?_
   refine pQ 3 59 (bl_ 10 14) HT_ rfl ?_
   refine pQ 6 62 (bl_ 74 14) HT_ rfl ?_
   refine pQ 7 63 (bl_ 202 14) HT_ rfl ?_
   refine tP 0 56 (bl_ 203 14) ?_ HT_ HW_ rfl (.inl ⟨by rfl,?_⟩) hHeld ?_ ?_ ?_;rotate_left;(rintro w' ⟨s0,s1,s2,s3,s4,s5⟩;go_simp;with_reducible rfl);rotate_left;(simp only [Act.put,sq_,i64_w,i32_w];rfl)
   refine tP 2 58 (bl_ 207 14) ?_ HT_ HW_ rfl (.inl ⟨by rfl,?_⟩) hHeld ?_ ?_ ?_;rotate_left;(rintro w' ⟨s0,s1,s2,s3,s4,s5⟩;go_simp;with_reducible rfl);rotate_left;(simp only [Act.put,sq_,i64_w,i32_w];rfl)
   refine pQ 4 60 (bl_ 223 14) HT_ rfl ?_
   refine tP 5 61 (bl_ 255 14) ?_ HT_ HW_ rfl (.inl ⟨by rfl,?_⟩) hHeld ?_ ?_ ?_;rotate_left;(rintro w' ⟨s0,s1,s2,s3,s4,s5⟩;go_simp;with_reducible rfl);rotate_left;(simp only [Act.put,sq_,i64_w,i32_w];rfl)
   refine one_ (i := 8) (N := some 64) (bl_ 511 14) rfl rfl (one_of HT_.out (by kernel_rfl)) (by decide) (fun K hK => ?_)
   refine goes_ Try.func96 (by kernel_rfl) rfl #[.agg #[.slice (some ad889) l0_0.length c0_0,.int .i64 a0_1],.int .i64 (rd ((rd_T45 l0_0 a1).f2) x12_1),.slice Ao73 x2_1.length co73,.slice Ao74 x3_1.length co74] (by rfl) rfl rfl zM_ ?_
   with_reducible refine (ih k1 (by have := HK1.out;omega) _ _ l0_0 a0_1 (rd ((rd_T45 l0_0 a1).f2) x12_1) _ _ x2_1 (fun k_ => ((P3_ k_ ∨ w.heap.size ≤ k_) ∧ (some k_ ≠ (.slice Ao73 x2_1.length co73 : Value).ownBlock ∧ (k_ ≠ gb888 ∧ k_ ≠ gb890)))) _ _ x3_1 t911 t914 _ ?side1 ?side2 ?side3 ?side4 ?side5 A69.out).mono ?_
   (case side1 => exact zC_ (Kd.C_below HR0_0.out HB.out))
   (case side2 => exact HC0_0.out)
   (case side3 => exact zC_ (Kd.R_reads' HO_2.out).2.2)
   (case side4 => exact (Kd.R_reads' HO_2.out).2.1)
   (case side5 => exact HO_3.out)
   rintro e w75 ⟨v912,v915,rfl,ho0,ho1,hb⟩
   refine ⟨_,rfl,?_⟩
   have n0_ := As_ (Kd.R_elder' (zR_ HO_2.out) (Kd.R_base ho0) hb)
   have n1_ := As_ (Kd.V_elder' (by (with_reducible repeat (first|apply Kd.V_alloc|apply Kd.V_drewN|apply Kd.V_drew));exact HO_3.out) (Kd.R_base ho0) hb)
   have n2_ := As_ (Kd.R_lower (Kd.R_new' (Kd.R_newM (M := fun k_ => (w.heap.size ≤ k_)) (Kd.R_mono (ok' := fun k_ => True) ho0 (fun _ hk_ => trivial)) (bwZ (zb2 HB.out GE888.out GE890.out)) (fun k_ h_ => h_)) (Kd.R_lt (zR_ HO_2.out))) (bwZ (zb2 HB.out GE888.out GE890.out)))
   have n3_ := As_ (Kd.V_lower (Kd.V_mono (ok' := fun k_ => (P3_ k_ ∨ w.heap.size ≤ k_) ∧ some k_ ≠ (v912 : Value).ownBlock ∧ some k_ ≠ (.slice Ao73 x2_1.length co73 : Value).ownBlock ∧ k_ ≠ gb888 ∧ k_ ≠ gb890) ho1 (fun k_ hk_ => ⟨Or.elim hk_.1 (fun hs_ => hs_.1) (fun hn_ => (.inr (Nat.le_trans (bwZ (zb2 HB.out GE888.out GE890.out)) hn_))),hk_.2,Or.elim hk_.1 (fun hs_ => hs_.2.1) (fun hn_ => (Kd.fresh' (Kd.R_lt (zR_ HO_2.out)) k_ hn_)),Or.elim hk_.1 (fun hs_ => hs_.2.2.1) (fun hn_ => (Kd.freshB (g := gb888) (o := .cells #[.slice (some ad889) l0_0.length c0_0,.int .i64 a0_1] 29 (0,0)) (zk_ BK888.out) k_ hn_)),Or.elim hk_.1 (fun hs_ => hs_.2.2.2) (fun hn_ => (Kd.freshB (g := gb890) (o := .cells #[.int .i64 ((rd_T45 l0_0 a1).f0),.int .i64 ((rd_T45 l0_0 a1).f1),.slice (some ad910) ((rd_T45 l0_0 a1).f2).length c889_2] 45 (0,0)) (zk_ BK890.out) k_ hn_))⟩)) (bwZ (zb2 HB.out GE888.out GE890.out)))
   have n4_ := As_ (zkb BK888.out hb)
   have n5_ := As_ (zkb BK890.out hb)
   have n6_ := As_ (bwT (zb2 HB.out GE888.out GE890.out) hb)
   clear HO_2 HO_3 BK888 BK890 HB
   revert n0_ n1_ n2_ n3_ n4_ n5_ n6_;intro HO_2 HO_3 HO913 HO916 BK888 BK890 HB
   refine hK.out _ _ ⟨(bkC BK888.out 0).trans rfl,(bkC BK888.out 1).trans rfl,(bkC BK890.out 0).trans rfl,(bkC BK890.out 1).trans rfl,(bkC BK890.out 2).trans rfl,((HB.out.cell (bwL w _ hw910_0)).trans hw910_0)⟩ (fun hHeld => ?_)
   clear hK K
   refine norm_ (a' := ?_) ?_ ?_
   rotate_left
   ·show Act.put _ (some 64) _ = _
    simp only [Act.put,sq_,i64_w,i32_w]
    rfl
   refine pQ 9 55 (bl_ 1023 14) HT_ rfl ?_
   refine pQ 10 65 (bl_ 2047 14) HT_ rfl ?_
   refine pQ 11 66 (bl_ 4095 14) HT_ rfl ?_
   refine pQ 12 2 (bl_ 8191 14) HT_ rfl ?_
   refine pQ 13 3 (bl_ 16383 14) HT_ rfl ?_
   refine done_ (done_of HT_.out (by kernel_rfl)) ?_
   try go_wp2
   go_roundg k1
   case measure => have := HK1.out;omega
   case rel => exact ⟨(t911),(t914),(wrap64 (x12_1 + 1)),zT_,H',⟨by have := HK1.out;omega⟩,⟨by (with_reducible repeat (first|apply Kd.R_alloc|apply Kd.R_drewN|apply Kd.R_drew));exact Kd.R_mono HO913.out (fun _ hk => hk.1.1)⟩,⟨by (with_reducible repeat (first|apply Kd.V_alloc|apply Kd.V_drewN|apply Kd.V_drew));exact Kd.V_mono HO916.out (fun _ hk => ⟨hk.1,⟨hk.2.1,⟨hk.2.2.2.1,hk.2.2.2.2⟩⟩⟩)⟩,⟨by (with_reducible repeat first|apply bkN|apply bkD|apply bkA);exact BK888.out⟩,⟨by (with_reducible repeat first|apply bkN|apply bkD|apply bkA);exact BK890.out⟩,⟨zb2 HB.out GE888.out GE890.out⟩⟩
end Go.Proofs.Ytfhakhbmbnbneaa.Q
