-- Written by wip/tools/qprint.py (a program of this claim's author) by means of the kit's printer.
import Derived.Test.YtfhakhbmbnbneaaQ0
import Derived.Test.YtfhakhbmbnbneaaQ77
namespace Go.Proofs.Ytfhakhbmbnbneaa.Q
open Go.RowKit Go.Proofs.YtfhakhbmbnbneaaW.PrintWords Go.Proofs.YtfhakhbmbnbneaaW.PrintLast Go.Proofs.YtfhakhbmbnbneaaW.PrintMore
attribute [local go_sem] max2_int min2_int max_two min_two max_three min_three max_four min_four   -- for this text's walks alone
set_option linter.unusedVariables false
set_option linter.unusedSimpArgs false

/-! ### spec_together: function 49 -/
mutual
def spec_together.l0 : Nat → List (S45) → Int → Int → List (S45) → Int → Option ((List (S45)) × Int)
 | 0,_,_,_,_,_ => none
 | k + 1,x6,x7,x8,x181000,x181001 => if x8 < (x181000.length : Int) then (if 0 ≤ x8 then (spec_together.l1 k x6 x7 x8 0 x181000 x181001 ((rd_T45 x181000 x8).f0) ((rd_T45 x181000 x8).f1) ([] : List Int)) else (none)) else (some (x6,wrap64 (x7 + x181001)))
def spec_together.l1 : Nat → List (S45) → Int → Int → Int → List (S45) → Int → Int → Int → List Int → Option ((List (S45)) × Int)
 | 0,_,_,_,_,_,_,_,_,_ => none
 | k + 1,x6,x7,x8,x10,x181000,x181001,x188000,x188001,x188002 => if 0 ≤ x8 then (if x8 < (x181000.length : Int) then (if x10 < (((rd_T45 x181000 x8).f2).length : Int) then (if 0 ≤ x10 then (if x188002.length < 17592186044416 then (spec_together.l1 k x6 x7 x8 (wrap64 (x10 + 1)) x181000 x181001 x188000 x188001 (x188002 ++ [wrap64 (x7 + (rd ((rd_T45 x181000 x8).f2) x10))])) else (none)) else (none)) else (if x6.length < 3518437208883 then (spec_together.l0 k (x6 ++ [(⟨x188000,x188001,x188002⟩ : S45)]) x7 (wrap64 (x8 + 1)) x181000 x181001) else (none))) else (none)) else (none)
end
def spec_together.f (k : Nat) (l0_0 : List (S45)) (a0_1 : Int) (l1_0 : List (S45)) (a1_1 : Int) : Option ((List (S45)) × Int) := (spec_copyGraph.f k l0_0 a0_1).bind fun bt181 => (spec_together.l0 k bt181.1 (l0_0.length : Int) 0 l1_0 a1_1)
set_option maxRecDepth 100000 in
theorem spec_together.mono_l : ∀ k,(∀ y0 y1 y2 y3 y4,LeO (spec_together.l0 k y0 y1 y2 y3 y4) (spec_together.l0 (k + 1) y0 y1 y2 y3 y4)) ∧ (∀ y0 y1 y2 y3 y4 y5 y6 y7 y8,LeO (spec_together.l1 k y0 y1 y2 y3 y4 y5 y6 y7 y8) (spec_together.l1 (k + 1) y0 y1 y2 y3 y4 y5 y6 y7 y8))
 | 0 => ⟨fun _ _ _ _ _ r h => (by cases h),fun _ _ _ _ _ _ _ _ _ r h => (by cases h)⟩
 | k + 1 => by
  obtain ⟨ih0,ih1⟩ := spec_together.mono_l k
  refine ⟨?_,?_⟩
  ·intro y0 y1 y2 y3 y4
   unfold spec_together.l0
   repeat' first
   | (with_reducible exact ih0 _ _ _ _ _)
   | (with_reducible exact ih1 _ _ _ _ _ _ _ _ _)
   | (with_reducible exact spec_copyGraph.mono _ _ _)
   | (with_reducible exact LeO.refl _)
   | (with_reducible exact LeO.none _)
   | (with_reducible refine LeO.ite ?_ ?_)
   | (with_reducible refine LeO.bind ?_ (fun _ => ?_))
   | exact ih0 _ _ _ _ _
   | exact ih1 _ _ _ _ _ _ _ _ _
   | exact spec_copyGraph.mono _ _ _
   | exact LeO.none _
   | refine LeO.ite ?_ ?_
   | refine LeO.bind ?_ (fun _ => ?_)
  ·intro y0 y1 y2 y3 y4 y5 y6 y7 y8
   unfold spec_together.l1
   repeat' first
   | (with_reducible exact ih0 _ _ _ _ _)
   | (with_reducible exact ih1 _ _ _ _ _ _ _ _ _)
   | (with_reducible exact spec_copyGraph.mono _ _ _)
   | (with_reducible exact LeO.refl _)
   | (with_reducible exact LeO.none _)
   | (with_reducible refine LeO.ite ?_ ?_)
   | (with_reducible refine LeO.bind ?_ (fun _ => ?_))
   | exact ih0 _ _ _ _ _
   | exact ih1 _ _ _ _ _ _ _ _ _
   | exact spec_copyGraph.mono _ _ _
   | exact LeO.none _
   | refine LeO.ite ?_ ?_
   | refine LeO.bind ?_ (fun _ => ?_)
set_option maxRecDepth 100000 in
theorem spec_together.mono : ∀ a0 a1 a2 a3 k,LeO (spec_together.f k a0 a1 a2 a3) (spec_together.f (k + 1) a0 a1 a2 a3) := by
 intro a0 a1 a2 a3 k
 obtain ⟨ih0,ih1⟩ := spec_together.mono_l k
 unfold spec_together.f
 repeat' first
   | (with_reducible exact ih0 _ _ _ _ _)
   | (with_reducible exact ih1 _ _ _ _ _ _ _ _ _)
   | (with_reducible exact spec_copyGraph.mono _ _ _)
   | (with_reducible exact LeO.refl _)
   | (with_reducible exact LeO.none _)
   | (with_reducible refine LeO.ite ?_ ?_)
   | (with_reducible refine LeO.bind ?_ (fun _ => ?_))
   | exact ih0 _ _ _ _ _
   | exact ih1 _ _ _ _ _ _ _ _ _
   | exact spec_copyGraph.mono _ _ _
   | exact LeO.none _
   | refine LeO.ite ?_ ?_
   | refine LeO.bind ?_ (fun _ => ?_)
def spec_together.T6 : Bool × List (List Nat × List Nat) := (true,[([],[]),([0],[0]),([],[]),([1,2],[1,2]),([3],[3]),([4],[4]),([],[]),([6],[6]),([],[]),([7,8],[7,8]),([9],[9]),([10],[10]),([5,11],[5,11]),([],[]),([13,12,0,1,2,3,4,5,6,7,8,9,10,11,12,13],[12,13])])
def spec_together.B6 : List Nat := [0,1,0,7,15,31,0,64,0,448,960,1984,4095,0,16383]
theorem spec_together.tab6 : rtab .any (opsOf Try.f49 6) = spec_together.T6 := by kernel_rfl
theorem spec_together.bits6 : waitsOk spec_together.T6.2 spec_together.B6 = true := by kernel_rfl
def spec_together.T10 : Bool × List (List Nat × List Nat) := (true,[([],[]),([0],[0]),([],[]),([],[]),([3],[3]),([],[]),([4,5],[4,5]),([6],[6]),([7],[7]),([],[]),([8,9],[8,9]),([10],[10]),([2,11],[2,11]),([12],[12]),([1,13],[1,13]),([0,1,2,3,4,5,6,7,8,9,10,11,12,13,14],[]),([15,14,14,0,1,2,3,4,5,6,7,8,9,10,11,12,13,14],[14,15])])
def spec_together.B10 : List Nat := [0,1,0,0,8,0,56,120,248,0,1016,2040,4092,8188,16383,32767,65535]
theorem spec_together.tab10 : rtab .any (opsOf Try.f49 10) = spec_together.T10 := by kernel_rfl
theorem spec_together.bits10 : waitsOk spec_together.T10.2 spec_together.B10 = true := by kernel_rfl
set_option maxHeartbeats 8000000 in
set_option maxRecDepth 100000 in
theorem spec_together.calls (k : Nat) (A0_0 : Option Addr) (c0_0 : Nat) (l0_0 : List (S45)) (a0_1 : Int) (A1_0 : Option Addr) (c1_0 : Nat) (l1_0 : List (S45)) (a1_1 : Int) (r1 : List (S45)) (r2 : Int) (w : World) (hr0_0 : Kd.C k45 w A0_0 l0_0.length l0_0) (hc0_0 : l0_0.length ≤ c0_0) (hr1_0 : Kd.C k45 w A1_0 l1_0.length l1_0) (hc1_0 : l1_0.length ≤ c1_0) (h : spec_together.f k l0_0 a0_1 l1_0 a1_1 = some (r1,r2)) :
  Calls Try.prog 49 #[.agg #[.slice A0_0 l0_0.length c0_0,.int .i64 a0_1],.agg #[.slice A1_0 l1_0.length c1_0,.int .i64 a1_1]] w fun e w' => ∃ v0_ : Value,e = .returned (.tuple #[v0_,.int .i64 r2]) ∧ Kd.S k45 45 w' w.heap.size (fun _ => True) v0_ r1 ∧ Below w.heap.size w w' := by
 have hu29 := Try.underlying29
 have hu45 := Try.underlying45
 have HR0_0 := As_ hr0_0
 have HC0_0 := As_ hc0_0
 clear hr0_0 hc0_0
 have HR1_0 := As_ hr1_0
 have HC1_0 := As_ hc1_0
 clear hr1_0 hc1_0
 have HB := As_ (Below.refl w.heap.size w)
 have H : ((spec_copyGraph.f k l0_0 a0_1).bind fun bt181 => (spec_together.l0 k bt181.1 (l0_0.length : Int) 0 l1_0 a1_1)) = some (r1,r2) := h
 clear h
 replace H := obS H
 obtain ⟨⟨t181,t184⟩,A30,H⟩ := H
 replace H : (spec_together.l0 k t181 (l0_0.length : Int) 0 l1_0 a1_1) = some (r1,r2) := H
 have A3 := As_ A30
 clear A30
 have H' := As_ H
 clear H
 have hfd29_0 : ∀ (v0_ v1_ : Value) (W : World),(Instr.field 29 (.agg #[v0_,v1_]) 0).run Try.prog W = .ok v0_ W := fun _ _ _ => by kernel_rfl
 go_enter Try.func49,Try.ntmps49
 go_wp2_with (first|((with_reducible refine gate_dst (N := 2) rfl ?_);refine box_event ?hg (N := 2) ?hd (cs := #[.slice A0_0 l0_0.length c0_0,.int .i64 a0_1]) (t := 29) ?hr ?_;(case hd => rfl);(case hg => rfl);(case hr => go_simp <;> rfl);intro gb179 hg w4 hbox hb;have n0_ := As_ (bwT (zb0 HB.out) hb);have n1_ := As_ (hbox);have n2_ := As_ ((by rw [hg];exact (bwZ (zb0 HB.out)) : w.heap.size ≤ gb179));have n3_ := As_ ((by rw [hg];exact (bwZ (zb0 HB.out)) : w.heap.size ≤ gb179));clear HB;have HB := n0_;have BK179 := n1_;have GW179 := n2_;have GE179 := n3_;clear n0_ n1_ n2_ n3_;clear hb hbox hg)|((with_reducible refine gate_dst (N := 3) rfl ?_);refine box_event ?hg (N := 3) ?hd (cs := #[.slice A1_0 l1_0.length c1_0,.int .i64 a1_1]) (t := 29) ?hr ?_;(case hd => rfl);(case hg => rfl);(case hr => go_simp <;> rfl);intro gb180 hg w5 hbox hb;have n0_ := As_ (zkb BK179.out hb);have n1_ := As_ (bwT (zb1 HB.out GE179.out) hb);have n2_ := As_ (hbox);have n3_ := As_ ((by rw [hg];exact (bwZ (zb1 HB.out GE179.out)) : w.heap.size ≤ gb180));have n4_ := As_ ((by rw [hg];exact (bwZ (zb1 HB.out GE179.out)) : w.heap.size ≤ gb180));have n5_ := As_ ((by rw [hg];exact Nat.ne_of_lt (zkl BK179.out) : gb179 ≠ gb180));have n6_ := As_ ((by rw [hg];exact Nat.ne_of_gt (zkl BK179.out) : gb180 ≠ gb179));clear BK179;clear HB;have BK179 := n0_;have HB := n1_;have BK180 := n2_;have GW180 := n3_;have GE180 := n4_;have NB179_180 := n5_;have NB180_179 := n6_;clear n0_ n1_ n2_ n3_ n4_ n5_ n6_;clear hb hbox hg;have hnb6 := NB179_180.out;have hnc6 := NB180_179.out;have hcz7_0 : w5.cell? ⟨gb179,0,none⟩ = some (.slice A0_0 l0_0.length c0_0) := (bkC BK179.out 0).trans rfl;have hcz7_1 : w5.cell? ⟨gb179,1,none⟩ = some (.int .i64 a0_1) := (bkC BK179.out 1).trans rfl;have hfz7_0 := bkF BK179.out 0;have hfz7_1 := bkF BK179.out 1)|((with_reducible refine gate_callee (f := 77) rfl ?_);refine goesL_ (some 12) rfl rfl Try.func77 (by kernel_rfl) rfl #[.agg #[.slice A0_0 l0_0.length c0_0,.int .i64 a0_1]] rfl zM_ ?_;(with_reducible refine (spec_copyGraph.calls k _ _ l0_0 a0_1 t181 t184 _ ?side1 ?side2 A3.out).mono ?_);(case side1 => repeat (first|exact (Kd.C_below HR0_0.out HB.out)|(with_reducible refine Kd.C_alloc ?_ _)|(with_reducible refine Kd.C_drewN ?_ _)|(with_reducible refine Kd.C_drew ?_)));(case side2 => exact HC0_0.out);rintro e w8 ⟨v182,rfl,ho0,hb⟩;refine ⟨_,rfl,?_⟩;have n0_ := As_ (Kd.S_lower ho0 (bwZ (zb2 HB.out GE179.out GE180.out)));have n1_ := As_ (zkb BK179.out hb);have n2_ := As_ (zkb BK180.out hb);have n3_ := As_ (bwT (zb2 HB.out GE179.out GE180.out) hb);clear BK179;clear BK180;clear HB;have HO183 := n0_;have BK179 := n1_;have BK180 := n2_;have HB := n3_;clear n0_ n1_ n2_ n3_;(try clear hb);(try clear hb2);(try clear hk);(try clear hi);(try clear ho0);have hcz9_0 : w8.cell? ⟨gb179,0,none⟩ = some (.slice A0_0 l0_0.length c0_0) := (bkC BK179.out 0).trans rfl;have hcz9_1 : w8.cell? ⟨gb179,1,none⟩ = some (.int .i64 a0_1) := (bkC BK179.out 1).trans rfl;have hfz9_0 := bkF BK179.out 0;have hfz9_1 := bkF BK179.out 1))
 go_loopg [6,8] k (fun kq v6 v8 w' => ∃ (x6_1 : List (S45)) (x8_1 : Int),v8 = .int .i64 x8_1 ∧ Aside0 (spec_together.l0 kq x6_1 (l0_0.length : Int) x8_1 l1_0 a1_1 = some (r1,r2)) ∧ Aside0 (kq ≤ k) ∧ Aside0 (Kd.S k45 45 w' w.heap.size (fun _ => True) v6 x6_1) ∧ Aside0 (w'.heap[gb179]? = some (.cells #[(.slice A0_0 l0_0.length c0_0),.int .i64 a0_1] 29 (0,0))) ∧ Aside0 (w'.heap[gb180]? = some (.cells #[(.slice A1_0 l1_0.length c1_0),.int .i64 a1_1] 29 (0,0))) ∧ Aside0 (Below w.heap.size w w'))
 case atStart => exact ⟨(t181),(0),zT_,H',⟨Nat.le_refl _⟩,⟨by (with_reducible repeat (first|apply Kd.S_alloc|apply Kd.S_drewN|apply Kd.S_drew));exact HO183.out⟩,⟨by (with_reducible repeat (first|refine bkN ?_ _|refine bkD ?_|refine bkA ?_ _));exact BK179.out⟩,⟨by (with_reducible repeat (first|refine bkN ?_ _|refine bkD ?_|refine bkA ?_ _));exact BK180.out⟩,⟨by repeat (first|(with_reducible first|exact HB.out|apply bwA|apply bwN|apply bwD|refine bwS ?_ GE179.out|refine bwS ?_ GE180.out)|exact HB.out)⟩⟩
 case round =>
  clear H'
  try clear c1
  try clear p2
  try clear c4
  try clear c6
  try clear c7
  try clear hcz7_0
  try clear hcz7_1
  try clear hcz9_0
  try clear hcz9_1
  try clear hfz7_0
  try clear hfz7_1
  try clear hfz9_0
  try clear hfz9_1
  obtain ⟨x6_1,x8_1,rfl,HA,HK1,HO_6,BK179,BK180,HB⟩ := hrel
  cases gk with
  | zero => exact absurd HA.out (fun h_ => (by cases h_))
  | succ k1 =>
   have H := HA.out
   clear HA
   simp only [spec_together.l0] at H
   by_cases c10 : x8_1 < (l1_0.length : Int)
   ·rw [if_pos c10] at H
    have c10b0 : decide (x8_1 < (l1_0.length : Int)) = true := deT c10
    clear c10
    by_cases c11 : 0 ≤ x8_1
    rotate_left
    ·rw [if_neg c11] at H
     exact absurd H (by simp)
    rw [if_pos c11] at H
    have c11b0 : decide (0 ≤ x8_1) = true := deT c11
    clear c11
    have H' := As_ H
    clear H
    have hnb12 := NB180_179.out
    have hnc12 := NB179_180.out
    have hcz13_0 : wr.cell? ⟨gb180,0,none⟩ = some (.slice A1_0 l1_0.length c1_0) := (bkC BK180.out 0).trans rfl
    have hcz13_1 : wr.cell? ⟨gb180,1,none⟩ = some (.int .i64 a1_1) := (bkC BK180.out 1).trans rfl
    have hfz13_0 := bkF BK180.out 0
    have hfz13_1 := bkF BK180.out 1
    try go_wp2
    have n0_ := As_ (Kd.S_drew HO_6.out)
    have n1_ := As_ (bkD BK179.out)
    have n2_ := As_ (bkD BK180.out)
    have n3_ := As_ (bwD HB.out)
    clear HO_6
    clear BK179
    clear BK180
    clear HB
    have HO_6 := n0_
    have BK179 := n1_
    have BK180 := n2_
    have HB := n3_
    clear n0_ n1_ n2_ n3_
    have p185 : 0 ≤ (x8_1 : Int) := odT zA_
    have q185 : x8_1 < (l1_0.length : Int) := odT zA_
    obtain ⟨ad185,A185_2,c185_2,e185,hx185_0,hx185_1,hx185_2,hl185_2,hi185_2⟩ := at_T45 HR1_0.out x8_1 p185 q185
    have hw185_2 := hx185_2
    have hw185_1 := hx185_1
    have hw185_0 := hx185_0
    cases e185
    replace hx185_0 := (HB.out.cell (bwL w _ hx185_0)).trans hx185_0
    replace hx185_1 := (HB.out.cell (bwL w _ hx185_1)).trans hx185_1
    replace hx185_2 := (HB.out.cell (bwL w _ hx185_2)).trans hx185_2
    have HR185_2 := As_ hi185_2
    have HC185_2 := As_ hl185_2
    clear hi185_2 hl185_2
    replace p185 := eq_true p185
    replace q185 := eq_true q185
    have p186 : 0 ≤ (x8_1 : Int) := odT zA_
    have q186 : x8_1 < (l1_0.length : Int) := odT zA_
    obtain ⟨ad186,A186_2,c186_2,e186,hx186_0,hx186_1,hx186_2,hl186_2,hi186_2⟩ := at_T45 HR1_0.out x8_1 p186 q186
    have hw186_2 := hx186_2
    have hw186_1 := hx186_1
    have hw186_0 := hx186_0
    obtain rfl : ad185 = ad186 := (by injection e186)
    replace hx186_0 := (HB.out.cell (bwL w _ hx186_0)).trans hx186_0
    replace hx186_1 := (HB.out.cell (bwL w _ hx186_1)).trans hx186_1
    replace hx186_2 := (HB.out.cell (bwL w _ hx186_2)).trans hx186_2
    have HR186_2 := As_ hi186_2
    have HC186_2 := As_ hl186_2
    clear hi186_2 hl186_2
    replace p186 := eq_true p186
    replace q186 := eq_true q186
    have ea_ := Option.some.inj (hx185_2.symm.trans hx186_2)
    injection ea_ with ea_ en_ ec_
    subst ea_
    subst ec_
    clear en_
    refine start_ (n := 15) (S := fun w' => w'.cell? ⟨gb180,0,none⟩ = some (.slice (some ad185) l1_0.length c1_0) ∧ w'.cell? ⟨gb180,1,none⟩ = some (.int .i64 a1_1) ∧ w'.cell? (ad185.add ((x8_1).toNat * 3)) = some (.int .i64 ((rd_T45 l1_0 x8_1).f0)) ∧ w'.cell? ⟨(ad185.add ((x8_1).toNat * 3)).block,(ad185.add ((x8_1).toNat * 3)).off + 1,none⟩ = some (.int .i64 ((rd_T45 l1_0 x8_1).f1)) ∧ w'.cell? ⟨(ad185.add ((x8_1).toNat * 3)).block,(ad185.add ((x8_1).toNat * 3)).off + 2,none⟩ = some (.slice A185_2 ((rd_T45 l1_0 x8_1).f2).length c185_2) ∧ w'.cell? (ad185.add ((x8_1).toNat * 3)) = some (.int .i64 ((rd_T45 l1_0 x8_1).f0)) ∧ w'.cell? ⟨(ad185.add ((x8_1).toNat * 3)).block,(ad185.add ((x8_1).toNat * 3)).off + 1,none⟩ = some (.int .i64 ((rd_T45 l1_0 x8_1).f1)) ∧ w'.cell? ⟨(ad185.add ((x8_1).toNat * 3)).block,(ad185.add ((x8_1).toNat * 3)).off + 2,none⟩ = some (.slice A185_2 ((rd_T45 l1_0 x8_1).f2).length c185_2)) (ds := []) (bl_ 0 15) (by kernel_rfl) rfl rfl ⟨(bkC BK180.out 0).trans rfl,(bkC BK180.out 1).trans rfl,((HB.out.cell (bwL w _ hw185_0)).trans hw185_0),((HB.out.cell (bwL w _ hw185_1)).trans hw185_1),((HB.out.cell (bwL w _ hw185_2)).trans hw185_2),((HB.out.cell (bwL w _ hw186_0)).trans hw186_0),((HB.out.cell (bwL w _ hw186_1)).trans hw186_1),((HB.out.cell (bwL w _ hw186_2)).trans hw186_2)⟩ (fun hHeld => ?_);refine with_tabW spec_together.tab6 spec_together.bits6 (fun HT_ HW_ => ?_)
    generalize wr.drew = w14 at HO_6 BK179 BK180 HB HR185_2 HR186_2 hx185_0 hx185_1 hx185_2 hx186_0 hx186_1 hx186_2 hHeld ⊢
    refine pP 0 24 (bl_ 1 15) ?_ HT_ rfl (.inl ⟨by rfl,?_⟩) ?_ ?_ ?_;rotate_left;(intro w';go_simp;with_reducible rfl);rotate_left;(simp only [Act.put,sq_,i64_w,i32_w];rfl)
    refine pP 2 26 (bl_ 5 15) ?_ HT_ rfl (.inl ⟨by rfl,?_⟩) ?_ ?_ ?_;rotate_left;(intro w';go_simp;with_reducible rfl);rotate_left;(simp only [Act.put,sq_,i64_w,i32_w];rfl)
    refine pP 6 30 (bl_ 69 15) ?_ HT_ rfl (.inl ⟨by rfl,?_⟩) ?_ ?_ ?_;rotate_left;(intro w';go_simp;with_reducible rfl);rotate_left;(simp only [Act.put,sq_,i64_w,i32_w];rfl)
    refine pP 8 32 (bl_ 325 15) ?_ HT_ rfl (.inl ⟨by rfl,?_⟩) ?_ ?_ ?_;rotate_left;(intro w';go_simp;with_reducible rfl);rotate_left;(simp only [Act.put,sq_,i64_w,i32_w];rfl)
    refine tP 1 25 (bl_ 327 15) ?_ HT_ HW_ rfl (.inl ⟨by rfl,?_⟩) hHeld ?_ ?_ ?_;rotate_left;(rintro w' ⟨s0,s1,s2,s3,s4,s5,s6,s7⟩;go_simp;with_reducible rfl);rotate_left;(simp only [Act.put,sq_,i64_w,i32_w];rfl)
    refine pP 3 27 (bl_ 335 15) ?_ HT_ rfl (.inl ⟨by rfl,?_⟩) ?_ ?_ ?_;rotate_left;(intro w';go_simp;with_reducible rfl);rotate_left;(simp only [Act.put,sq_,i64_w,i32_w];rfl)
    refine pP 4 28 (bl_ 351 15) ?_ HT_ rfl (.inl ⟨by rfl,?_⟩) ?_ ?_ ?_;rotate_left;(intro w';go_simp;with_reducible rfl);rotate_left;(simp only [Act.put,sq_,i64_w,i32_w];rfl)
    refine tP 5 29 (bl_ 383 15) ?_ HT_ HW_ rfl (.inl ⟨by rfl,?_⟩) hHeld ?_ ?_ ?_;rotate_left;(rintro w' ⟨s0,s1,s2,s3,s4,s5,s6,s7⟩;go_simp;with_reducible rfl);rotate_left;(simp only [Act.put,sq_,i64_w,i32_w];rfl)
    refine tP 7 31 (bl_ 511 15) ?_ HT_ HW_ rfl (.inl ⟨by rfl,?_⟩) hHeld ?_ ?_ ?_;rotate_left;(rintro w' ⟨s0,s1,s2,s3,s4,s5,s6,s7⟩;go_simp;with_reducible rfl);rotate_left;(simp only [Act.put,sq_,i64_w,i32_w];rfl)
    refine pP 9 33 (bl_ 1023 15) ?_ HT_ rfl (.inl ⟨by rfl,?_⟩) ?_ ?_ ?_;rotate_left;(intro w';go_simp;with_reducible rfl);rotate_left;(simp only [Act.put,sq_,i64_w,i32_w];rfl)
    refine pP 10 34 (bl_ 2047 15) ?_ HT_ rfl (.inl ⟨by rfl,?_⟩) ?_ ?_ ?_;rotate_left;(intro w';go_simp;with_reducible rfl);rotate_left;(simp only [Act.put,sq_,i64_w,i32_w];rfl)
    refine tP 11 35 (bl_ 4095 15) ?_ HT_ HW_ rfl (.inl ⟨by rfl,?_⟩) hHeld ?_ ?_ ?_;rotate_left;(rintro w' ⟨s0,s1,s2,s3,s4,s5,s6,s7⟩;go_simp;with_reducible rfl);rotate_left;(simp only [Act.put,sq_,i64_w,i32_w];rfl)
    refine pP 12 36 (bl_ 8191 15) ?_ HT_ rfl (.inl ⟨by rfl,?_⟩) ?_ ?_ ?_;rotate_left;(intro w';go_simp;with_reducible rfl);rotate_left;(simp only [Act.put,sq_,i64_w,i32_w];rfl)
    refine one_ (i := 13) (N := some 9) (bl_ 16383 15) rfl rfl (one_of HT_.out (by kernel_rfl)) (by decide) (fun K hK => ?_)
    refine box_step ?hg (N := 9) ?hd (cs := #[.int .i64 0,.int .i64 0,.slice none 0 0]) (t := 45) ?hr ?_;(case hd => rfl);(case hg => rfl);(case hr => go_simp <;> rfl)
    intro gb187 hg w15 hbox hb
    have n0_ := As_ (Kd.S_below (Kd.S_elderB (zS_ HO_6.out) gb187 (Nat.le_of_eq hg.symm)) hb)
    have n1_ := As_ (zkb BK179.out hb)
    have n2_ := As_ (zkb BK180.out hb)
    have n3_ := As_ (bwT (zb2 HB.out GE179.out GE180.out) hb)
    have n4_ := As_ (hbox)
    have n5_ := As_ ((by rw [hg];exact (bwZ (zb2 HB.out GE179.out GE180.out)) : w.heap.size ≤ gb187))
    have n6_ := As_ ((by rw [hg];exact (bwZ (zb2 HB.out GE179.out GE180.out)) : w.heap.size ≤ gb187))
    have n7_ := As_ ((by rw [hg];exact Nat.ne_of_lt (zkl BK179.out) : gb179 ≠ gb187))
    have n8_ := As_ ((by rw [hg];exact Nat.ne_of_gt (zkl BK179.out) : gb187 ≠ gb179))
    have n9_ := As_ ((by rw [hg];exact Nat.ne_of_lt (zkl BK180.out) : gb180 ≠ gb187))
    have n10_ := As_ ((by rw [hg];exact Nat.ne_of_gt (zkl BK180.out) : gb187 ≠ gb180))
    clear HO_6
    clear BK179
    clear BK180
    clear HB
    have HO_6 := n0_
    have BK179 := n1_
    have BK180 := n2_
    have HB := n3_
    have BK187 := n4_
    have GW187 := n5_
    have GE187 := n6_
    have NB179_187 := n7_
    have NB187_179 := n8_
    have NB180_187 := n9_
    have NB187_180 := n10_
    clear n0_ n1_ n2_ n3_ n4_ n5_ n6_ n7_ n8_ n9_ n10_
    clear hb hbox hg
    refine hK.out _ _ ⟨(bkC BK180.out 0).trans rfl,(bkC BK180.out 1).trans rfl,((HB.out.cell (bwL w _ hw185_0)).trans hw185_0),((HB.out.cell (bwL w _ hw185_1)).trans hw185_1),((HB.out.cell (bwL w _ hw185_2)).trans hw185_2),((HB.out.cell (bwL w _ hw186_0)).trans hw186_0),((HB.out.cell (bwL w _ hw186_1)).trans hw186_1),((HB.out.cell (bwL w _ hw186_2)).trans hw186_2)⟩ (fun hHeld => ?_)
    clear hK K
    refine norm_ (a' := ?_) ?_ ?_
    rotate_left
    ·show Act.put _ (some 9) _ = _
     simp only [Act.put,sq_,i64_w,i32_w]
     rfl
    refine one_ (i := 14) (N := none) (bl_ 32767 15) rfl rfl (one_of HT_.out (by kernel_rfl)) (by decide) (fun K hK => ?_)
    have hs16 : w15.cell? ⟨gb187,0,none⟩ = some (.int .i64 0) := (bkC BK187.out 0).trans rfl
    have hfs16 := bkF BK187.out 0
    have hns16_0 := NB179_187.out
    have hns16_1 := NB180_187.out
    have hms16_0 := NB187_179.out
    have hms16_1 := NB187_180.out
    have hs17 : w15.cell? ⟨gb187,1,none⟩ = some (.int .i64 0) := (bkC BK187.out 1).trans rfl
    have hfs17 := bkF BK187.out 1
    have hns17_0 := NB179_187.out
    have hns17_1 := NB180_187.out
    have hms17_0 := NB187_179.out
    have hms17_1 := NB187_180.out
    have hs18 : w15.cell? ⟨gb187,2,none⟩ = some (.slice none 0 0) := (bkC BK187.out 2).trans rfl
    have hfs18 := bkF BK187.out 2
    have hns18_0 := NB179_187.out
    have hns18_1 := NB180_187.out
    have hms18_0 := NB187_179.out
    have hms18_1 := NB187_180.out
    refine skip_ (w1 := ?_) (by rfl) rfl ?_ ?_
    rotate_left
    ·go_simp
     rfl
    refine hK.out _ _ ⟨((cell_far (p := ⟨gb187,_,none⟩) NB180_187.out _).trans (((cell_far (p := ⟨gb187,_,none⟩) NB180_187.out _).trans (((cell_far (p := ⟨gb187,_,none⟩) NB180_187.out _).trans (hHeld.1)))))),((cell_far (p := ⟨gb187,_,none⟩) NB180_187.out _).trans (((cell_far (p := ⟨gb187,_,none⟩) NB180_187.out _).trans (((cell_far (p := ⟨gb187,_,none⟩) NB180_187.out _).trans (hHeld.2.1)))))),((cell_far (p := ⟨gb187,_,none⟩) (by first|exact Nat.ne_of_lt (Nat.lt_of_lt_of_le (by have := bwL _ _ hw185_0;first|rwa [add_block] at this|exact this) GW187.out)|(rw [add_block];exact Nat.ne_of_lt (Nat.lt_of_lt_of_le (by have := bwL _ _ hw185_0;first|rwa [add_block] at this|exact this) GW187.out))|(show (Addr.add _ _).block ≠ _;rw [add_block];exact Nat.ne_of_lt (Nat.lt_of_lt_of_le (by have := bwL _ _ hw185_0;first|rwa [add_block] at this|exact this) GW187.out))|(dsimp only;exact Nat.ne_of_lt (Nat.lt_of_lt_of_le (by have := bwL _ _ hw185_0;first|rwa [add_block] at this|exact this) GW187.out))) _).trans (((cell_far (p := ⟨gb187,_,none⟩) (by first|exact Nat.ne_of_lt (Nat.lt_of_lt_of_le (by have := bwL _ _ hw185_0;first|rwa [add_block] at this|exact this) GW187.out)|(rw [add_block];exact Nat.ne_of_lt (Nat.lt_of_lt_of_le (by have := bwL _ _ hw185_0;first|rwa [add_block] at this|exact this) GW187.out))|(show (Addr.add _ _).block ≠ _;rw [add_block];exact Nat.ne_of_lt (Nat.lt_of_lt_of_le (by have := bwL _ _ hw185_0;first|rwa [add_block] at this|exact this) GW187.out))|(dsimp only;exact Nat.ne_of_lt (Nat.lt_of_lt_of_le (by have := bwL _ _ hw185_0;first|rwa [add_block] at this|exact this) GW187.out))) _).trans (((cell_far (p := ⟨gb187,_,none⟩) (by first|exact Nat.ne_of_lt (Nat.lt_of_lt_of_le (by have := bwL _ _ hw185_0;first|rwa [add_block] at this|exact this) GW187.out)|(rw [add_block];exact Nat.ne_of_lt (Nat.lt_of_lt_of_le (by have := bwL _ _ hw185_0;first|rwa [add_block] at this|exact this) GW187.out))|(show (Addr.add _ _).block ≠ _;rw [add_block];exact Nat.ne_of_lt (Nat.lt_of_lt_of_le (by have := bwL _ _ hw185_0;first|rwa [add_block] at this|exact this) GW187.out))|(dsimp only;exact Nat.ne_of_lt (Nat.lt_of_lt_of_le (by have := bwL _ _ hw185_0;first|rwa [add_block] at this|exact this) GW187.out))) _).trans (hHeld.2.2.1)))))),((cell_far (p := ⟨gb187,_,none⟩) (by first|exact Nat.ne_of_lt (Nat.lt_of_lt_of_le (by have := bwL _ _ hw185_1;first|rwa [add_block] at this|exact this) GW187.out)|(rw [add_block];exact Nat.ne_of_lt (Nat.lt_of_lt_of_le (by have := bwL _ _ hw185_1;first|rwa [add_block] at this|exact this) GW187.out))|(show (Addr.add _ _).block ≠ _;rw [add_block];exact Nat.ne_of_lt (Nat.lt_of_lt_of_le (by have := bwL _ _ hw185_1;first|rwa [add_block] at this|exact this) GW187.out))|(dsimp only;exact Nat.ne_of_lt (Nat.lt_of_lt_of_le (by have := bwL _ _ hw185_1;first|rwa [add_block] at this|exact this) GW187.out))) _).trans (((cell_far (p := ⟨gb187,_,none⟩) (by first|exact Nat.ne_of_lt (Nat.lt_of_lt_of_le (by have := bwL _ _ hw185_1;first|rwa [add_block] at this|exact this) GW187.out)|(rw [add_block];exact Nat.ne_of_lt (Nat.lt_of_lt_of_le (by have := bwL _ _ hw185_1;first|rwa [add_block] at this|exact this) GW187.out))|(show (Addr.add _ _).block ≠ _;rw [add_block];exact Nat.ne_of_lt (Nat.lt_of_lt_of_le (by have := bwL _ _ hw185_1;first|rwa [add_block] at this|exact this) GW187.out))|(dsimp only;exact Nat.ne_of_lt (Nat.lt_of_lt_of_le (by have := bwL _ _ hw185_1;first|rwa [add_block] at this|exact this) GW187.out))) _).trans (((cell_far (p := ⟨gb187,_,none⟩) (by first|exact Nat.ne_of_lt (Nat.lt_of_lt_of_le (by have := bwL _ _ hw185_1;first|rwa [add_block] at this|exact this) GW187.out)|(rw [add_block];exact Nat.ne_of_lt (Nat.lt_of_lt_of_le (by have := bwL _ _ hw185_1;first|rwa [add_block] at this|exact this) GW187.out))|(show (Addr.add _ _).block ≠ _;rw [add_block];exact Nat.ne_of_lt (Nat.lt_of_lt_of_le (by have := bwL _ _ hw185_1;first|rwa [add_block] at this|exact this) GW187.out))|(dsimp only;exact Nat.ne_of_lt (Nat.lt_of_lt_of_le (by have := bwL _ _ hw185_1;first|rwa [add_block] at this|exact this) GW187.out))) _).trans (hHeld.2.2.2.1)))))),((cell_far (p := ⟨gb187,_,none⟩) (by first|exact Nat.ne_of_lt (Nat.lt_of_lt_of_le (by have := bwL _ _ hw185_2;first|rwa [add_block] at this|exact this) GW187.out)|(rw [add_block];exact Nat.ne_of_lt (Nat.lt_of_lt_of_le (by have := bwL _ _ hw185_2;first|rwa [add_block] at this|exact this) GW187.out))|(show (Addr.add _ _).block ≠ _;rw [add_block];exact Nat.ne_of_lt (Nat.lt_of_lt_of_le (by have := bwL _ _ hw185_2;first|rwa [add_block] at this|exact this) GW187.out))|(dsimp only;exact Nat.ne_of_lt (Nat.lt_of_lt_of_le (by have := bwL _ _ hw185_2;first|rwa [add_block] at this|exact this) GW187.out))) _).trans (((cell_far (p := ⟨gb187,_,none⟩) (by first|exact Nat.ne_of_lt (Nat.lt_of_lt_of_le (by have := bwL _ _ hw185_2;first|rwa [add_block] at this|exact this) GW187.out)|(rw [add_block];exact Nat.ne_of_lt (Nat.lt_of_lt_of_le (by have := bwL _ _ hw185_2;first|rwa [add_block] at this|exact this) GW187.out))|(show (Addr.add _ _).block ≠ _;rw [add_block];exact Nat.ne_of_lt (Nat.lt_of_lt_of_le (by have := bwL _ _ hw185_2;first|rwa [add_block] at this|exact this) GW187.out))|(dsimp only;exact Nat.ne_of_lt (Nat.lt_of_lt_of_le (by have := bwL _ _ hw185_2;first|rwa [add_block] at this|exact this) GW187.out))) _).trans (((cell_far (p := ⟨gb187,_,none⟩) (by first|exact Nat.ne_of_lt (Nat.lt_of_lt_of_le (by have := bwL _ _ hw185_2;first|rwa [add_block] at this|exact this) GW187.out)|(rw [add_block];exact Nat.ne_of_lt (Nat.lt_of_lt_of_le (by have := bwL _ _ hw185_2;first|rwa [add_block] at this|exact this) GW187.out))|(show (Addr.add _ _).block ≠ _;rw [add_block];exact Nat.ne_of_lt (Nat.lt_of_lt_of_le (by have := bwL _ _ hw185_2;first|rwa [add_block] at this|exact this) GW187.out))|(dsimp only;exact Nat.ne_of_lt (Nat.lt_of_lt_of_le (by have := bwL _ _ hw185_2;first|rwa [add_block] at this|exact this) GW187.out))) _).trans (hHeld.2.2.2.2.1)))))),((cell_far (p := ⟨gb187,_,none⟩) (by first|exact Nat.ne_of_lt (Nat.lt_of_lt_of_le (by have := bwL _ _ hw186_0;first|rwa [add_block] at this|exact this) GW187.out)|(rw [add_block];exact Nat.ne_of_lt (Nat.lt_of_lt_of_le (by have := bwL _ _ hw186_0;first|rwa [add_block] at this|exact this) GW187.out))|(show (Addr.add _ _).block ≠ _;rw [add_block];exact Nat.ne_of_lt (Nat.lt_of_lt_of_le (by have := bwL _ _ hw186_0;first|rwa [add_block] at this|exact this) GW187.out))|(dsimp only;exact Nat.ne_of_lt (Nat.lt_of_lt_of_le (by have := bwL _ _ hw186_0;first|rwa [add_block] at this|exact this) GW187.out))) _).trans (((cell_far (p := ⟨gb187,_,none⟩) (by first|exact Nat.ne_of_lt (Nat.lt_of_lt_of_le (by have := bwL _ _ hw186_0;first|rwa [add_block] at this|exact this) GW187.out)|(rw [add_block];exact Nat.ne_of_lt (Nat.lt_of_lt_of_le (by have := bwL _ _ hw186_0;first|rwa [add_block] at this|exact this) GW187.out))|(show (Addr.add _ _).block ≠ _;rw [add_block];exact Nat.ne_of_lt (Nat.lt_of_lt_of_le (by have := bwL _ _ hw186_0;first|rwa [add_block] at this|exact this) GW187.out))|(dsimp only;exact Nat.ne_of_lt (Nat.lt_of_lt_of_le (by have := bwL _ _ hw186_0;first|rwa [add_block] at this|exact this) GW187.out))) _).trans (((cell_far (p := ⟨gb187,_,none⟩) (by first|exact Nat.ne_of_lt (Nat.lt_of_lt_of_le (by have := bwL _ _ hw186_0;first|rwa [add_block] at this|exact this) GW187.out)|(rw [add_block];exact Nat.ne_of_lt (Nat.lt_of_lt_of_le (by have := bwL _ _ hw186_0;first|rwa [add_block] at this|exact this) GW187.out))|(show (Addr.add _ _).block ≠ _;rw [add_block];exact Nat.ne_of_lt (Nat.lt_of_lt_of_le (by have := bwL _ _ hw186_0;first|rwa [add_block] at this|exact this) GW187.out))|(dsimp only;exact Nat.ne_of_lt (Nat.lt_of_lt_of_le (by have := bwL _ _ hw186_0;first|rwa [add_block] at this|exact this) GW187.out))) _).trans (hHeld.2.2.2.2.2.1)))))),((cell_far (p := ⟨gb187,_,none⟩) (by first|exact Nat.ne_of_lt (Nat.lt_of_lt_of_le (by have := bwL _ _ hw186_1;first|rwa [add_block] at this|exact this) GW187.out)|(rw [add_block];exact Nat.ne_of_lt (Nat.lt_of_lt_of_le (by have := bwL _ _ hw186_1;first|rwa [add_block] at this|exact this) GW187.out))|(show (Addr.add _ _).block ≠ _;rw [add_block];exact Nat.ne_of_lt (Nat.lt_of_lt_of_le (by have := bwL _ _ hw186_1;first|rwa [add_block] at this|exact this) GW187.out))|(dsimp only;exact Nat.ne_of_lt (Nat.lt_of_lt_of_le (by have := bwL _ _ hw186_1;first|rwa [add_block] at this|exact this) GW187.out))) _).trans (((cell_far (p := ⟨gb187,_,none⟩) (by first|exact Nat.ne_of_lt (Nat.lt_of_lt_of_le (by have := bwL _ _ hw186_1;first|rwa [add_block] at this|exact this) GW187.out)|(rw [add_block];exact Nat.ne_of_lt (Nat.lt_of_lt_of_le (by have := bwL _ _ hw186_1;first|rwa [add_block] at this|exact this) GW187.out))|(show (Addr.add _ _).block ≠ _;rw [add_block];exact Nat.ne_of_lt (Nat.lt_of_lt_of_le (by have := bwL _ _ hw186_1;first|rwa [add_block] at this|exact this) GW187.out))|(dsimp only;exact Nat.ne_of_lt (Nat.lt_of_lt_of_le (by have := bwL _ _ hw186_1;first|rwa [add_block] at this|exact this) GW187.out))) _).trans (((cell_far (p := ⟨gb187,_,none⟩) (by first|exact Nat.ne_of_lt (Nat.lt_of_lt_of_le (by have := bwL _ _ hw186_1;first|rwa [add_block] at this|exact this) GW187.out)|(rw [add_block];exact Nat.ne_of_lt (Nat.lt_of_lt_of_le (by have := bwL _ _ hw186_1;first|rwa [add_block] at this|exact this) GW187.out))|(show (Addr.add _ _).block ≠ _;rw [add_block];exact Nat.ne_of_lt (Nat.lt_of_lt_of_le (by have := bwL _ _ hw186_1;first|rwa [add_block] at this|exact this) GW187.out))|(dsimp only;exact Nat.ne_of_lt (Nat.lt_of_lt_of_le (by have := bwL _ _ hw186_1;first|rwa [add_block] at this|exact this) GW187.out))) _).trans (hHeld.2.2.2.2.2.2.1)))))),((cell_far (p := ⟨gb187,_,none⟩) (by first|exact Nat.ne_of_lt (Nat.lt_of_lt_of_le (by have := bwL _ _ hw186_2;first|rwa [add_block] at this|exact this) GW187.out)|(rw [add_block];exact Nat.ne_of_lt (Nat.lt_of_lt_of_le (by have := bwL _ _ hw186_2;first|rwa [add_block] at this|exact this) GW187.out))|(show (Addr.add _ _).block ≠ _;rw [add_block];exact Nat.ne_of_lt (Nat.lt_of_lt_of_le (by have := bwL _ _ hw186_2;first|rwa [add_block] at this|exact this) GW187.out))|(dsimp only;exact Nat.ne_of_lt (Nat.lt_of_lt_of_le (by have := bwL _ _ hw186_2;first|rwa [add_block] at this|exact this) GW187.out))) _).trans (((cell_far (p := ⟨gb187,_,none⟩) (by first|exact Nat.ne_of_lt (Nat.lt_of_lt_of_le (by have := bwL _ _ hw186_2;first|rwa [add_block] at this|exact this) GW187.out)|(rw [add_block];exact Nat.ne_of_lt (Nat.lt_of_lt_of_le (by have := bwL _ _ hw186_2;first|rwa [add_block] at this|exact this) GW187.out))|(show (Addr.add _ _).block ≠ _;rw [add_block];exact Nat.ne_of_lt (Nat.lt_of_lt_of_le (by have := bwL _ _ hw186_2;first|rwa [add_block] at this|exact this) GW187.out))|(dsimp only;exact Nat.ne_of_lt (Nat.lt_of_lt_of_le (by have := bwL _ _ hw186_2;first|rwa [add_block] at this|exact this) GW187.out))) _).trans (((cell_far (p := ⟨gb187,_,none⟩) (by first|exact Nat.ne_of_lt (Nat.lt_of_lt_of_le (by have := bwL _ _ hw186_2;first|rwa [add_block] at this|exact this) GW187.out)|(rw [add_block];exact Nat.ne_of_lt (Nat.lt_of_lt_of_le (by have := bwL _ _ hw186_2;first|rwa [add_block] at this|exact this) GW187.out))|(show (Addr.add _ _).block ≠ _;rw [add_block];exact Nat.ne_of_lt (Nat.lt_of_lt_of_le (by have := bwL _ _ hw186_2;first|rwa [add_block] at this|exact this) GW187.out))|(dsimp only;exact Nat.ne_of_lt (Nat.lt_of_lt_of_le (by have := bwL _ _ hw186_2;first|rwa [add_block] at this|exact this) GW187.out))) _).trans (hHeld.2.2.2.2.2.2.2))))))⟩ (fun hHeld => ?_)
    clear hK K
    refine done_ (done_of HT_.out (by kernel_rfl)) ?_
    try go_wp2
    go_loopg [10] k1 (fun kq v10 w' => ∃ (x10_2 : Int) (x188002_2 : List Int) (u188002 : Value),v10 = .int .i64 x10_2 ∧ Aside0 (spec_together.l1 kq x6_1 (l0_0.length : Int) x8_1 x10_2 l1_0 a1_1 ((rd_T45 l1_0 x8_1).f0) ((rd_T45 l1_0 x8_1).f1) x188002_2 = some (r1,r2)) ∧ Aside0 (kq ≤ k1) ∧ Aside0 (Kd.S k45 45 w' w.heap.size (fun k_ => some k_ ≠ (u188002 : Value).ownBlock ∧ k_ ≠ gb187) u6 x6_1) ∧ Aside0 (Kd.R (Kd.int .i64) 3 w' w.heap.size (fun _ => True) u188002 x188002_2) ∧ Aside0 (w'.heap[gb179]? = some (.cells #[(.slice A0_0 l0_0.length c0_0),.int .i64 a0_1] 29 (0,0))) ∧ Aside0 (w'.heap[gb180]? = some (.cells #[(.slice (some ad185) l1_0.length c1_0),.int .i64 a1_1] 29 (0,0))) ∧ Aside0 (w'.heap[gb187]? = some (.cells #[.int .i64 ((rd_T45 l1_0 x8_1).f0),.int .i64 ((rd_T45 l1_0 x8_1).f1),u188002] 45 (0,0))) ∧ Aside0 (Below w.heap.size w w'))
    case atStart => exact ⟨(0),(([] : List Int)),(.slice none 0 0),zT_,H',⟨Nat.le_refl _⟩,⟨by (with_reducible repeat (first|apply Kd.S_alloc|apply Kd.S_drewN|apply Kd.S_drew));exact Kd.S_mono (Kd.S_far (p := ⟨gb187,2,none⟩) (Kd.S_far (p := ⟨gb187,1,none⟩) (Kd.S_far (p := ⟨gb187,0,none⟩) (Kd.S_mono HO_6.out (fun k_ hk => (⟨hk,hk.2⟩ : _ ∧ k_ ≠ gb187))) (fun _ hk => hk.2) (.int .i64 ((rd_T45 l1_0 x8_1).f0))) (fun _ hk => hk.2) (.int .i64 ((rd_T45 l1_0 x8_1).f1))) (fun _ hk => hk.2) (.slice none 0 0)) (fun _ hk => ⟨(by simp [Value.ownBlock]),hk.1.2⟩)⟩,⟨by first|exact Kd.R_nil _ _ _ _ _|exact Kd.N_nil _ _ _ _ _|exact Kd.V_nil _ _ _ _ _|exact Kd.Q_nil _ _ _ _ _|exact Kd.S_nil _ _ _ _ _⟩,⟨by (with_reducible repeat (first|refine bkN ?_ _|refine bkD ?_|refine bkA ?_ _));refine blk_far ?_ NB179_187.out _;(with_reducible repeat (first|refine bkN ?_ _|refine bkD ?_|refine bkA ?_ _));refine blk_far ?_ NB179_187.out _;(with_reducible repeat (first|refine bkN ?_ _|refine bkD ?_|refine bkA ?_ _));refine blk_far ?_ NB179_187.out _;(with_reducible repeat (first|refine bkN ?_ _|refine bkD ?_|refine bkA ?_ _));exact BK179.out⟩,⟨by (with_reducible repeat (first|refine bkN ?_ _|refine bkD ?_|refine bkA ?_ _));refine blk_far ?_ NB180_187.out _;(with_reducible repeat (first|refine bkN ?_ _|refine bkD ?_|refine bkA ?_ _));refine blk_far ?_ NB180_187.out _;(with_reducible repeat (first|refine bkN ?_ _|refine bkD ?_|refine bkA ?_ _));refine blk_far ?_ NB180_187.out _;(with_reducible repeat (first|refine bkN ?_ _|refine bkD ?_|refine bkA ?_ _));exact BK180.out⟩,⟨by (with_reducible repeat (first|refine bkN ?_ _|refine bkD ?_|refine bkA ?_ _));refine blk_put (cs := #[.int .i64 ((rd_T45 l1_0 x8_1).f0),.int .i64 ((rd_T45 l1_0 x8_1).f1),.slice none 0 0]) ?_ 2 _ rfl;(with_reducible repeat (first|refine bkN ?_ _|refine bkD ?_|refine bkA ?_ _));refine blk_put (cs := #[.int .i64 ((rd_T45 l1_0 x8_1).f0),.int .i64 0,.slice none 0 0]) ?_ 1 _ rfl;(with_reducible repeat (first|refine bkN ?_ _|refine bkD ?_|refine bkA ?_ _));refine blk_put (cs := #[.int .i64 0,.int .i64 0,.slice none 0 0]) ?_ 0 _ rfl;(with_reducible repeat (first|refine bkN ?_ _|refine bkD ?_|refine bkA ?_ _));exact BK187.out⟩,⟨by repeat (first|(with_reducible first|exact HB.out|apply bwA|apply bwN|apply bwD|refine bwS ?_ GE179.out|refine bwS ?_ GE180.out|refine bwS ?_ GE187.out)|exact HB.out)⟩⟩
    case round =>
     clear H'
     try clear c1
     try clear p1
     try clear q1
     try clear hx1
     try clear p2
     try clear c4
     try clear c6
     try clear c7
     try clear c10
     try clear c10b0
     try clear c11
     try clear c11b0
     try clear c12
     try clear c18
     try clear p18
     try clear q18
     try clear hx18
     try clear hcz13_0
     try clear hcz13_1
     try clear hcz7_0
     try clear hcz7_1
     try clear hcz9_0
     try clear hcz9_1
     try clear hfz13_0
     try clear hfz13_1
     try clear hfz7_0
     try clear hfz7_1
     try clear hfz9_0
     try clear hfz9_1
     try clear hx185_0
     try clear hx185_1
     try clear hx185_2
     try clear hx186_0
     try clear hx186_1
     try clear hx186_2
     try clear p185
     try clear p186
     try clear p2
     try clear q185
     try clear q186
     obtain ⟨x10_2,x188002_2,u188002,rfl,HA,HK2,HO_6,HO_188002,BK179,BK180,BK187,HB⟩ := hrel
     cases gk with
     | zero => exact absurd HA.out (fun h_ => (by cases h_))
     | succ k2 =>
      have H := HA.out
      clear HA
      simp only [spec_together.l1] at H
      by_cases c19 : 0 ≤ x8_1
      rotate_left
      ·rw [if_neg c19] at H
       exact absurd H (by simp)
      rw [if_pos c19] at H
      have c19b0 : decide (0 ≤ x8_1) = true := deT c19
      clear c19
      by_cases c20 : x8_1 < (l1_0.length : Int)
      rotate_left
      ·rw [if_neg c20] at H
       exact absurd H (by simp)
      rw [if_pos c20] at H
      have c20b0 : decide (x8_1 < (l1_0.length : Int)) = true := deT c20
      clear c20
      by_cases c21 : x10_2 < (((rd_T45 l1_0 x8_1).f2).length : Int)
      ·rw [if_pos c21] at H
       have c21b0 : decide (x10_2 < (((rd_T45 l1_0 x8_1).f2).length : Int)) = true := deT c21
       clear c21
       by_cases c22 : 0 ≤ x10_2
       rotate_left
       ·rw [if_neg c22] at H
        exact absurd H (by simp)
       rw [if_pos c22] at H
       have c22b0 : decide (0 ≤ x10_2) = true := deT c22
       clear c22
       by_cases c23 : x188002_2.length < 17592186044416
       rotate_left
       ·rw [if_neg c23] at H
        exact absurd H (by simp)
       rw [if_pos c23] at H
       have LMc23 := As_ c23
       clear c23
       obtain ⟨y191,hy191⟩ : ∃ y_ : List Int,y_ = (x188002_2 ++ [wrap64 ((l0_0.length : Int) + (rd ((rd_T45 l1_0 x8_1).f2) x10_2))]) := ⟨_,rfl⟩
       replace H : (spec_together.l1 k2 x6_1 (l0_0.length : Int) x8_1 (wrap64 (x10_2 + 1)) l1_0 a1_1 ((rd_T45 l1_0 x8_1).f0) ((rd_T45 l1_0 x8_1).f1) y191) = some (r1,r2) := by first|(rw [hy191];with_reducible exact H)|(have H2_ := (Option.bind_some _ _).symm.trans H;rw [hy191];with_reducible exact H2_)|(have H2_ := (Option.bind_some _ _).symm.trans H;with_reducible exact H2_)|with_reducible exact H|(rw [hy191];exact H)|exact H
       have Ny191 := As_ hy191
       clear hy191
       have H' := As_ H
       clear H
       have hnb24 := NB180_179.out
       have hnc24 := NB179_180.out
       have hnb25 := NB180_187.out
       have hnc25 := NB187_180.out
       have hcz26_0 : wr.cell? ⟨gb180,0,none⟩ = some (.slice (some ad185) l1_0.length c1_0) := (bkC BK180.out 0).trans rfl
       have hcz26_1 : wr.cell? ⟨gb180,1,none⟩ = some (.int .i64 a1_1) := (bkC BK180.out 1).trans rfl
       have hfz26_0 := bkF BK180.out 0
       have hfz26_1 := bkF BK180.out 1
       have p188 : 0 ≤ (x8_1 : Int) := odT zA_
       have q188 : x8_1 < (l1_0.length : Int) := odT zA_
       obtain ⟨ad188,A188_2,c188_2,e188,hx188_0,hx188_1,hx188_2,hl188_2,hi188_2⟩ := at_T45 HR1_0.out x8_1 p188 q188
       obtain rfl : ad185 = ad188 := (by injection e188)
       replace hx188_0 := (HB.out.cell (bwL w _ hx188_0)).trans hx188_0
       replace hx188_1 := (HB.out.cell (bwL w _ hx188_1)).trans hx188_1
       replace hx188_2 := (HB.out.cell (bwL w _ hx188_2)).trans hx188_2
       have HR188_2 := As_ hi188_2
       have HC188_2 := As_ hl188_2
       clear hi188_2 hl188_2
       replace p188 := eq_true p188
       replace q188 := eq_true q188
       try go_wp2
       have n0_ := As_ (Kd.S_drew HO_6.out)
       have n1_ := As_ (Kd.R_drew HO_188002.out)
       have n2_ := As_ (bkD BK179.out)
       have n3_ := As_ (bkD BK180.out)
       have n4_ := As_ (bkD BK187.out)
       have n5_ := As_ (bwD HB.out)
       clear HO_6
       clear HO_188002
       clear BK179
       clear BK180
       clear BK187
       clear HB
       have HO_6 := n0_
       have HO_188002 := n1_
       have BK179 := n2_
       have BK180 := n3_
       have BK187 := n4_
       have HB := n5_
       clear n0_ n1_ n2_ n3_ n4_ n5_
       have p189 : 0 ≤ (x8_1 : Int) := odT zA_
       have q189 : x8_1 < (l1_0.length : Int) := odT zA_
       obtain ⟨ad189,A189_2,c189_2,e189,hx189_0,hx189_1,hx189_2,hl189_2,hi189_2⟩ := at_T45 HR1_0.out x8_1 p189 q189
       have hw189_2 := hx189_2
       have hw189_1 := hx189_1
       have hw189_0 := hx189_0
       obtain rfl : ad185 = ad189 := (by injection e189)
       replace hx189_0 := (HB.out.cell (bwL w _ hx189_0)).trans hx189_0
       replace hx189_1 := (HB.out.cell (bwL w _ hx189_1)).trans hx189_1
       replace hx189_2 := (HB.out.cell (bwL w _ hx189_2)).trans hx189_2
       have HR189_2 := As_ hi189_2
       have HC189_2 := As_ hl189_2
       clear hi189_2 hl189_2
       replace p189 := eq_true p189
       replace q189 := eq_true q189
       have p190 : 0 ≤ (x10_2 : Int) := odT zA_
       have q190 : x10_2 < (((rd_T45 l1_0 x8_1).f2).length : Int) := odT zA_
       obtain ⟨ad190,e190,hx190_0⟩ := Kd.at_int HR189_2.out x10_2 p190 q190
       have hw190_0 := hx190_0
       cases e190
       replace hx190_0 := (HB.out.cell (bwL w _ hx190_0)).trans hx190_0
       replace p190 := eq_true p190
       replace q190 := eq_true q190
       refine start_ (n := 17) (S := fun w' => w'.cell? ⟨gb187,0,none⟩ = some (.int .i64 ((rd_T45 l1_0 x8_1).f0)) ∧ w'.cell? ⟨gb187,1,none⟩ = some (.int .i64 ((rd_T45 l1_0 x8_1).f1)) ∧ w'.cell? ⟨gb187,2,none⟩ = some (u188002) ∧ w'.cell? ⟨gb180,0,none⟩ = some (.slice (some ad185) l1_0.length c1_0) ∧ w'.cell? ⟨gb180,1,none⟩ = some (.int .i64 a1_1) ∧ w'.cell? (ad185.add ((x8_1).toNat * 3)) = some (.int .i64 ((rd_T45 l1_0 x8_1).f0)) ∧ w'.cell? ⟨(ad185.add ((x8_1).toNat * 3)).block,(ad185.add ((x8_1).toNat * 3)).off + 1,none⟩ = some (.int .i64 ((rd_T45 l1_0 x8_1).f1)) ∧ w'.cell? ⟨(ad185.add ((x8_1).toNat * 3)).block,(ad185.add ((x8_1).toNat * 3)).off + 2,none⟩ = some (.slice (some ad190) ((rd_T45 l1_0 x8_1).f2).length c189_2) ∧ w'.cell? (ad190.add (x10_2).toNat) = some (.int .i64 (rd ((rd_T45 l1_0 x8_1).f2) x10_2))) (ds := [16]) (bl_ 0 17) (by kernel_rfl) rfl rfl ⟨(bkC BK187.out 0).trans rfl,(bkC BK187.out 1).trans rfl,(bkC BK187.out 2).trans rfl,(bkC BK180.out 0).trans rfl,(bkC BK180.out 1).trans rfl,((HB.out.cell (bwL w _ hw189_0)).trans hw189_0),((HB.out.cell (bwL w _ hw189_1)).trans hw189_1),((HB.out.cell (bwL w _ hw189_2)).trans hw189_2),((HB.out.cell (bwL w _ hw190_0)).trans hw190_0)⟩ (fun hHeld => ?_);refine with_tabW spec_together.tab10 spec_together.bits10 (fun HT_ HW_ => ?_)
       generalize wr.drew = w27 at HO_6 HO_188002 BK179 BK180 BK187 HB HR189_2 hx189_0 hx189_1 hx189_2 hx190_0 hHeld ⊢
       refine pP 0 48 (bl_ 1 17) ?_ HT_ rfl (.inl ⟨by rfl,?_⟩) ?_ ?_ ?_;rotate_left;(intro w';go_simp;with_reducible rfl);rotate_left;(simp only [Act.put,sq_,i64_w,i32_w];rfl)
       refine pP 2 50 (bl_ 5 17) ?_ HT_ rfl (.inl ⟨by rfl,?_⟩) ?_ ?_ ?_;rotate_left;(intro w';go_simp;with_reducible rfl);rotate_left;(simp only [Act.put,sq_,i64_w,i32_w];rfl)
       refine pP 3 51 (bl_ 13 17) ?_ HT_ rfl (.inl ⟨by rfl,?_⟩) ?_ ?_ ?_;rotate_left;(intro w';go_simp;with_reducible rfl);rotate_left;(simp only [Act.put,sq_,i64_w,i32_w];rfl)
       refine pP 5 53 (bl_ 45 17) ?_ HT_ rfl (.inl ⟨by rfl,?_⟩) ?_ ?_ ?_;rotate_left;(intro w';go_simp;with_reducible rfl);rotate_left;(simp only [Act.put,sq_,i64_w,i32_w];rfl)
       refine pP 9 57 (bl_ 557 17) ?_ HT_ rfl (.inl ⟨by rfl,?_⟩) ?_ ?_ ?_;rotate_left;(intro w';go_simp;with_reducible rfl);rotate_left;(simp only [Act.put,sq_,i64_w,i32_w];rfl)
       refine tP 1 49 (bl_ 559 17) ?_ HT_ HW_ rfl (.inl ⟨by rfl,?_⟩) hHeld ?_ ?_ ?_;rotate_left;(rintro w' ⟨s0,s1,s2,s3,s4,s5,s6,s7,s8⟩;go_simp;with_reducible rfl);rotate_left;(simp only [Act.put,sq_,i64_w,i32_w];rfl)
       refine tP 4 52 (bl_ 575 17) ?_ HT_ HW_ rfl (.inl ⟨by rfl,?_⟩) hHeld ?_ ?_ ?_;rotate_left;(rintro w' ⟨s0,s1,s2,s3,s4,s5,s6,s7,s8⟩;go_simp;with_reducible rfl);rotate_left;(simp only [Act.put,sq_,i64_w,i32_w];rfl)
       refine pP 6 54 (bl_ 639 17) ?_ HT_ rfl (.inl ⟨by rfl,?_⟩) ?_ ?_ ?_;rotate_left;(intro w';go_simp;with_reducible rfl);rotate_left;(simp only [Act.put,sq_,i64_w,i32_w];rfl)
       refine pP 7 55 (bl_ 767 17) ?_ HT_ rfl (.inl ⟨by rfl,?_⟩) ?_ ?_ ?_;rotate_left;(intro w';go_simp;with_reducible rfl);rotate_left;(simp only [Act.put,sq_,i64_w,i32_w];rfl)
       refine tP 8 56 (bl_ 1023 17) ?_ HT_ HW_ rfl (.inl ⟨by rfl,?_⟩) hHeld ?_ ?_ ?_;rotate_left;(rintro w' ⟨s0,s1,s2,s3,s4,s5,s6,s7,s8⟩;go_simp;with_reducible rfl);rotate_left;(simp only [Act.put,sq_,i64_w,i32_w];rfl)
       refine pP 10 58 (bl_ 2047 17) ?_ HT_ rfl (.inl ⟨by rfl,?_⟩) ?_ ?_ ?_;rotate_left;(intro w';go_simp;with_reducible rfl);rotate_left;(simp only [Act.put,sq_,i64_w,i32_w];rfl)
       refine tP 11 59 (bl_ 4095 17) ?_ HT_ HW_ rfl (.inl ⟨by rfl,?_⟩) hHeld ?_ ?_ ?_;rotate_left;(rintro w' ⟨s0,s1,s2,s3,s4,s5,s6,s7,s8⟩;go_simp;with_reducible rfl);rotate_left;(simp only [Act.put,sq_,i64_w,i32_w];rfl)
       refine pP 12 60 (bl_ 8191 17) ?_ HT_ rfl (.inl ⟨by rfl,?_⟩) ?_ ?_ ?_;rotate_left;(intro w';go_simp;with_reducible rfl);rotate_left;(simp only [Act.put,sq_,i64_w,i32_w];rfl)
       refine one_ (i := 13) (N := some 61) (bl_ 16383 17) rfl rfl (one_of HT_.out (by kernel_rfl)) (by decide) (fun K hK => ?_)
       refine value_ (w1 := ?_) (v := ?_) (by rfl) rfl ?_ ?_
       rotate_left 2
       ·go_simp
        constructor
        ·rfl
        ·rfl
       refine hK.out _ _ ⟨(bkC (bkA BK187.out _) 0).trans rfl,(bkC (bkA BK187.out _) 1).trans rfl,(bkC (bkA BK187.out _) 2).trans rfl,(bkC (bkA BK180.out _) 0).trans rfl,(bkC (bkA BK180.out _) 1).trans rfl,(World.cell?_alloc_lt _ _ _ (bwL _ _ (((HB.out.cell (bwL w _ hw189_0)).trans hw189_0)))).trans (((HB.out.cell (bwL w _ hw189_0)).trans hw189_0)),(World.cell?_alloc_lt _ _ _ (bwL _ _ (((HB.out.cell (bwL w _ hw189_1)).trans hw189_1)))).trans (((HB.out.cell (bwL w _ hw189_1)).trans hw189_1)),(World.cell?_alloc_lt _ _ _ (bwL _ _ (((HB.out.cell (bwL w _ hw189_2)).trans hw189_2)))).trans (((HB.out.cell (bwL w _ hw189_2)).trans hw189_2)),(World.cell?_alloc_lt _ _ _ (bwL _ _ (((HB.out.cell (bwL w _ hw190_0)).trans hw190_0)))).trans (((HB.out.cell (bwL w _ hw190_0)).trans hw190_0))⟩ (fun hHeld => ?_)
       clear hK K
       refine norm_ (a' := ?_) ?_ ?_
       rotate_left
       ·show Act.put _ (some 61) _ = _
        simp only [Act.put,sq_,i64_w,i32_w]
        rfl
       refine one_ (i := 14) (N := some 62) (bl_ 32767 17) rfl rfl (one_of HT_.out (by kernel_rfl)) (by decide) (fun K hK => ?_)
       refine Kd.R_append_step (Kd.int .i64) (w0 := w) w.heap.size (by rfl) (.tmp 49) (.tmp 61) 37 3 (.int .i64 0) 8 rfl Try.underlying37 info3 rfl (by decide) (by omega) u188002 x188002_2 (wrap64 ((l0_0.length : Int) + (rd ((rd_T45 l1_0 x8_1).f2) x10_2))) [.int .i64 (wrap64 ((l0_0.length : Int) + (rd ((rd_T45 l1_0 x8_1).f2) x10_2)))] (fun _ => True) (fun _ => False) rfl rfl ?aP (fun _ hk => hk.elim) ?aF ?aO ?aB ?aS ?aL ?_
       (case aP => exact rfl)
       (case aB => exact (zb3 HB.out GE179.out GE180.out GE187.out))
       (case aF => exact (fun _ _ => trivial))
       (case aO => exact (zR_ HO_188002.out))
       (case aS => exact (bwZ (zb3 HB.out GE179.out GE180.out GE187.out)))
       (case aL => have := LMc23.out;omega)
       intro v192 w28 ho hb hg hat
       rw [← Ny191.out] at ho
       have n0_ := As_ (Kd.S_after (ok := (fun k_ => k_ ≠ gb187)) (by (with_reducible repeat (first|apply Kd.S_alloc|apply Kd.S_drewN|apply Kd.S_drew));exact Kd.S_mono HO_6.out (fun _ hk => ⟨hk.2,hk.1⟩)) hg hat)
       have n1_ := As_ (blk_grown (g := gb179) (o := .cells #[.slice A0_0 l0_0.length c0_0,.int .i64 a0_1] 29 (0,0)) (zk_ BK179.out) hg (Kd.R_ne HO_188002.out BK179.out (by decide)))
       have n2_ := As_ (blk_grown (g := gb180) (o := .cells #[.slice (some ad185) l1_0.length c1_0,.int .i64 a1_1] 29 (0,0)) (zk_ BK180.out) hg (Kd.R_ne HO_188002.out BK180.out (by decide)))
       have n3_ := As_ (blk_grown (g := gb187) (o := .cells #[.int .i64 ((rd_T45 l1_0 x8_1).f0),.int .i64 ((rd_T45 l1_0 x8_1).f1),u188002] 45 (0,0)) (zk_ BK187.out) hg (Kd.R_ne HO_188002.out BK187.out (by decide)))
       have n4_ := As_ (hb)
       have n5_ := As_ (ho)
       clear HO_6
       clear BK179
       clear BK180
       clear BK187
       clear HB
       clear HO_188002
       have HO_6 := n0_
       have BK179 := n1_
       have BK180 := n2_
       have BK187 := n3_
       have HB := n4_
       have HO193 := n5_
       clear n0_ n1_ n2_ n3_ n4_ n5_
       clear ho hb hg hat
       obtain ⟨Ao29,co29,eo29⟩ := Kd.R_slice HO193.out
       (first|subst eo29|(injection eo29 with f1_ f2_ f3_;have f4_ := f1_.symm;have f5_ := f3_.symm;clear f1_ f2_ f3_;subst f4_;subst f5_))
       refine hK.out _ _ ⟨(bkC BK187.out 0).trans rfl,(bkC BK187.out 1).trans rfl,(bkC BK187.out 2).trans rfl,(bkC BK180.out 0).trans rfl,(bkC BK180.out 1).trans rfl,((HB.out.cell (bwL w _ hw189_0)).trans hw189_0),((HB.out.cell (bwL w _ hw189_1)).trans hw189_1),((HB.out.cell (bwL w _ hw189_2)).trans hw189_2),((HB.out.cell (bwL w _ hw190_0)).trans hw190_0)⟩ (fun hHeld => ?_)
       clear hK K
       refine norm_ (a' := ?_) ?_ ?_
       rotate_left
       ·show Act.put _ (some 62) _ = _
        simp only [Act.put,sq_,i64_w,i32_w]
        rfl
       refine pP 15 63 (bl_ 65535 17) ?_ HT_ rfl (.inl ⟨by rfl,?_⟩) ?_ ?_ ?_;rotate_left;(intro w';go_simp;with_reducible rfl);rotate_left;(simp only [Act.put,sq_,i64_w,i32_w];rfl)
       refine last_ (i := 16) (N := none) (bl_ 131071 17) rfl rfl (one_of HT_.out (by kernel_rfl)) (by decide) (fun K hK => ?_)
       have hs30 : w28.cell? ⟨gb187,2,none⟩ = some (u188002) := (bkC BK187.out 2).trans rfl
       have hfs30 := bkF BK187.out 2
       have hns30_0 := NB179_187.out
       have hns30_1 := NB180_187.out
       have hms30_0 := NB187_179.out
       have hms30_1 := NB187_180.out
       refine skip_ (w1 := ?_) (by rfl) rfl ?_ ?_
       rotate_left
       ·go_simp
        rfl
       refine hK.out _ _ ?_
       clear hK K
       refine done_ (done_of HT_.out (by kernel_rfl)) ?_
       try go_wp2
       go_roundg k2
       case measure => have := HK1.out;have := HK2.out;omega
       case rel => exact ⟨(wrap64 (x10_2 + 1)),(y191),(.slice Ao29 y191.length co29),zT_,H',⟨by have := HK1.out;have := HK2.out;omega⟩,⟨by (with_reducible repeat (first|apply Kd.S_alloc|apply Kd.S_drewN|apply Kd.S_drew));exact Kd.S_mono (Kd.S_far (p := ⟨gb187,2,none⟩) (Kd.S_mono HO_6.out (fun k_ hk => (⟨hk,hk.1⟩ : _ ∧ k_ ≠ gb187))) (fun _ hk => hk.2) (.slice Ao29 y191.length co29)) (fun _ hk => ⟨hk.1.2,hk.1.1⟩)⟩,⟨by (with_reducible repeat (first|apply Kd.R_alloc|apply Kd.R_drewN|apply Kd.R_drew));exact Kd.R_mono (Kd.R_far (p := ⟨gb187,2,none⟩) (Kd.R_types HO193.out BK187.out (by decide)) (fun _ hk => hk.2) (.slice Ao29 y191.length co29)) (fun _ hk => trivial)⟩,⟨by (with_reducible repeat (first|refine bkN ?_ _|refine bkD ?_|refine bkA ?_ _));refine blk_far ?_ NB179_187.out _;(with_reducible repeat (first|refine bkN ?_ _|refine bkD ?_|refine bkA ?_ _));exact BK179.out⟩,⟨by (with_reducible repeat (first|refine bkN ?_ _|refine bkD ?_|refine bkA ?_ _));refine blk_far ?_ NB180_187.out _;(with_reducible repeat (first|refine bkN ?_ _|refine bkD ?_|refine bkA ?_ _));exact BK180.out⟩,⟨by (with_reducible repeat (first|refine bkN ?_ _|refine bkD ?_|refine bkA ?_ _));refine blk_put (cs := #[.int .i64 ((rd_T45 l1_0 x8_1).f0),.int .i64 ((rd_T45 l1_0 x8_1).f1),u188002]) ?_ 2 _ rfl;(with_reducible repeat (first|refine bkN ?_ _|refine bkD ?_|refine bkA ?_ _));exact BK187.out⟩,⟨by repeat (first|(with_reducible first|exact HB.out|apply bwA|apply bwN|apply bwD|refine bwS ?_ GE179.out|refine bwS ?_ GE180.out|refine bwS ?_ GE187.out)|exact HB.out)⟩⟩
      ·rw [if_neg c21] at H
       have c21b0 : decide (x10_2 < (((rd_T45 l1_0 x8_1).f2).length : Int)) = false := deF c21
       clear c21
       by_cases c31 : x6_1.length < 3518437208883
       rotate_left
       ·rw [if_neg c31] at H
        exact absurd H (by simp)
       rw [if_pos c31] at H
       have LMc31 := As_ c31
       clear c31
       obtain ⟨y194,hy194⟩ : ∃ y_ : List (S45),y_ = (x6_1 ++ [(⟨((rd_T45 l1_0 x8_1).f0),((rd_T45 l1_0 x8_1).f1),x188002_2⟩ : S45)]) := ⟨_,rfl⟩
       replace H : (spec_together.l0 k2 y194 (l0_0.length : Int) (wrap64 (x8_1 + 1)) l1_0 a1_1) = some (r1,r2) := by first|(rw [hy194];with_reducible exact H)|(have H2_ := (Option.bind_some _ _).symm.trans H;rw [hy194];with_reducible exact H2_)|(have H2_ := (Option.bind_some _ _).symm.trans H;with_reducible exact H2_)|with_reducible exact H|(rw [hy194];exact H)|exact H
       have Ny194 := As_ hy194
       clear hy194
       have H' := As_ H
       clear H
       have hnb32 := NB180_179.out
       have hnc32 := NB179_180.out
       have hnb33 := NB180_187.out
       have hnc33 := NB187_180.out
       have hcz34_0 : wr.cell? ⟨gb180,0,none⟩ = some (.slice (some ad185) l1_0.length c1_0) := (bkC BK180.out 0).trans rfl
       have hcz34_1 : wr.cell? ⟨gb180,1,none⟩ = some (.int .i64 a1_1) := (bkC BK180.out 1).trans rfl
       have hfz34_0 := bkF BK180.out 0
       have hfz34_1 := bkF BK180.out 1
       have p188 : 0 ≤ (x8_1 : Int) := odT zA_
       have q188 : x8_1 < (l1_0.length : Int) := odT zA_
       obtain ⟨ad188,A188_2,c188_2,e188,hx188_0,hx188_1,hx188_2,hl188_2,hi188_2⟩ := at_T45 HR1_0.out x8_1 p188 q188
       obtain rfl : ad185 = ad188 := (by injection e188)
       replace hx188_0 := (HB.out.cell (bwL w _ hx188_0)).trans hx188_0
       replace hx188_1 := (HB.out.cell (bwL w _ hx188_1)).trans hx188_1
       replace hx188_2 := (HB.out.cell (bwL w _ hx188_2)).trans hx188_2
       have HR188_2 := As_ hi188_2
       have HC188_2 := As_ hl188_2
       clear hi188_2 hl188_2
       replace p188 := eq_true p188
       replace q188 := eq_true q188
       have hnb35 := NB187_179.out
       have hnc35 := NB179_187.out
       have hcz36_0 : wr.cell? ⟨gb187,0,none⟩ = some (.int .i64 ((rd_T45 l1_0 x8_1).f0)) := (bkC BK187.out 0).trans rfl
       have hcz36_1 : wr.cell? ⟨gb187,1,none⟩ = some (.int .i64 ((rd_T45 l1_0 x8_1).f1)) := (bkC BK187.out 1).trans rfl
       have hcz36_2 : wr.cell? ⟨gb187,2,none⟩ = some (u188002) := (bkC BK187.out 2).trans rfl
       have hfz36_0 := bkF BK187.out 0
       have hfz36_1 := bkF BK187.out 1
       have hfz36_2 := bkF BK187.out 2
       obtain ⟨Ao38,co38,eo38⟩ := Kd.R_slice HO_188002.out
       subst eo38
       go_wp2_with (first|((with_reducible refine gate_builtin (b := .append) (xs := #[.tmp 64,.tmp 66]) rfl ?_);at_builtin;refine Kd.S_append k45 (w0 := w) w.heap.size rfl (.tmp 64) (.tmp 66) 27 45 (.agg #[(.int .i64 0),(.int .i64 0),(.slice none 0 0)]) 40 rfl Try.underlying27 info45 rfl (by decide) (by omega) u6 x6_1 (⟨((rd_T45 l1_0 x8_1).f0),((rd_T45 l1_0 x8_1).f1),x188002_2⟩ : S45) [.int .i64 ((rd_T45 l1_0 x8_1).f0),.int .i64 ((rd_T45 l1_0 x8_1).f1),.slice Ao38 x188002_2.length co38] (fun k_ => k_ ≠ gb187) (fun k_ => some k_ = (.slice Ao38 x188002_2.length co38 : Value).ownBlock) rfl rfl ?aP (fun k_ hk_ => ((Kd.R_mono (ok' := fun k_ => ((fun k_ => k_ ≠ gb187)) k_ ∧ some k_ ≠ (u6 : Value).ownBlock) (Kd.R_types (Kd.R_apart' (HO_188002.out) (Kd.S_typed HO_6.out) (by decide)) BK187.out (by decide)) (fun k_ hk => ⟨hk.2,hk.1.2⟩))).1 k_ hk_.symm) ?aF ?aO ?aB ?aS ?aL ?_;(case aP => exact k45_mkM _ _ _ (⟨((rd_T45 l1_0 x8_1).f0),((rd_T45 l1_0 x8_1).f1),x188002_2⟩ : S45) (Kd.R_mono (Kd.R_tight rfl (Kd.R_mono (ok' := fun k_ => ((fun k_ => k_ ≠ gb187)) k_ ∧ some k_ ≠ (u6 : Value).ownBlock) (Kd.R_types (Kd.R_apart' (HO_188002.out) (Kd.S_typed HO_6.out) (by decide)) BK187.out (by decide)) (fun k_ hk => ⟨hk.2,hk.1.2⟩))) (fun _ h_ => h_)));(case aB => exact (zb3 HB.out GE179.out GE180.out GE187.out));(case aF => exact (fun k_ hk => Kd.freshB (g := gb187) (o := .cells #[.int .i64 ((rd_T45 l1_0 x8_1).f0),.int .i64 ((rd_T45 l1_0 x8_1).f1),.slice Ao38 x188002_2.length co38] 45 (0,0)) (zk_ BK187.out) k_ hk));(case aO => exact (by (with_reducible repeat (first|apply Kd.S_alloc|apply Kd.S_drewN|apply Kd.S_drew));exact Kd.S_mono HO_6.out (fun k_ hk => ⟨hk.2,fun e_ => hk.1 e_⟩)));(case aS => exact (bwZ (zb3 HB.out GE179.out GE180.out GE187.out)));(case aL => have := LMc31.out;omega);intro v195 w37 ho hb hg hat;rw [← Ny194.out] at ho;have n0_ := As_ (blk_grown (g := gb179) (o := .cells #[.slice A0_0 l0_0.length c0_0,.int .i64 a0_1] 29 (0,0)) (zk_ BK179.out) hg (Kd.S_ne HO_6.out BK179.out (by decide)));have n1_ := As_ (blk_grown (g := gb180) (o := .cells #[.slice (some ad185) l1_0.length c1_0,.int .i64 a1_1] 29 (0,0)) (zk_ BK180.out) hg (Kd.S_ne HO_6.out BK180.out (by decide)));have n2_ := As_ (blk_grown (g := gb187) (o := .cells #[.int .i64 ((rd_T45 l1_0 x8_1).f0),.int .i64 ((rd_T45 l1_0 x8_1).f1),.slice Ao38 x188002_2.length co38] 45 (0,0)) (zk_ BK187.out) hg (Kd.S_away HO_6.out (fun _ hk => hk.2)));have n3_ := As_ (hb);have n4_ := As_ (ho);clear BK179;clear BK180;clear BK187;clear HB;clear HO_6;clear HO_188002;have BK179 := n0_;have BK180 := n1_;have BK187 := n2_;have HB := n3_;have HO196 := n4_;clear n0_ n1_ n2_ n3_ n4_;clear ho hb hg hat))
       go_roundg k2
       case measure => have := HK1.out;have := HK2.out;omega
       case rel => exact ⟨(y194),(wrap64 (x8_1 + 1)),zT_,H',⟨by have := HK1.out;have := HK2.out;omega⟩,⟨by (with_reducible repeat (first|apply Kd.S_alloc|apply Kd.S_drewN|apply Kd.S_drew));exact Kd.S_mono HO196.out (fun _ hk => trivial)⟩,⟨by (with_reducible repeat (first|refine bkN ?_ _|refine bkD ?_|refine bkA ?_ _));exact BK179.out⟩,⟨by (with_reducible repeat (first|refine bkN ?_ _|refine bkD ?_|refine bkA ?_ _));exact BK180.out⟩,⟨by repeat (first|(with_reducible first|exact HB.out|apply bwA|apply bwN|apply bwD|refine bwS ?_ GE179.out|refine bwS ?_ GE180.out|refine bwS ?_ GE187.out)|exact HB.out)⟩⟩
   ·rw [if_neg c10] at H
    have c10b0 : decide (x8_1 < (l1_0.length : Int)) = false := deF c10
    clear c10
    simp only [Option.some.injEq,Prod.mk.injEq] at H
    obtain ⟨rfl,rfl⟩ := H
    have hnb39 := NB180_179.out
    have hnc39 := NB179_180.out
    have hcz40_0 : wr.cell? ⟨gb180,0,none⟩ = some (.slice A1_0 l1_0.length c1_0) := (bkC BK180.out 0).trans rfl
    have hcz40_1 : wr.cell? ⟨gb180,1,none⟩ = some (.int .i64 a1_1) := (bkC BK180.out 1).trans rfl
    have hfz40_0 := bkF BK180.out 0
    have hfz40_1 := bkF BK180.out 1
    try go_wp2
    have n0_ := As_ (Kd.S_drew HO_6.out)
    have n1_ := As_ (bkD BK179.out)
    have n2_ := As_ (bkD BK180.out)
    have n3_ := As_ (bwD HB.out)
    clear HO_6
    clear BK179
    clear BK180
    clear HB
    have HO_6 := n0_
    have BK179 := n1_
    have BK180 := n2_
    have HB := n3_
    clear n0_ n1_ n2_ n3_
    refine start_ (n := 7) (S := fun w' => w'.cell? ⟨gb180,0,none⟩ = some (.slice A1_0 l1_0.length c1_0) ∧ w'.cell? ⟨gb180,1,none⟩ = some (.int .i64 a1_1)) (ds := []) (bl_ 0 7) (by kernel_rfl) rfl rfl ⟨(bkC BK180.out 0).trans rfl,(bkC BK180.out 1).trans rfl⟩ (fun hHeld => ?_)
    generalize wr.drew = w41 at HO_6 BK179 BK180 HB hHeld ⊢
    refine pure_ (i := 0) (N := some 68) (v := ?_) (a' := ?_) (bl_ 1 7) rfl rfl (by kernel_rfl) (fun _ _ _ h => h) (Or.inl ⟨by rfl,?_⟩) ?_ ?_;rotate_left;(intro w';go_simp;with_reducible rfl);rotate_left;(simp only [Act.put,sq_,i64_w,i32_w];rfl)
    refine pure_ (i := 1) (N := some 69) (v := ?_) (a' := ?_) (bl_ 3 7) rfl rfl (by kernel_rfl) (fun _ _ _ h => h) (Or.inl ⟨by rfl,?_⟩) ?_ ?_;rotate_left;(intro w';go_simp;with_reducible rfl);rotate_left;(simp only [Act.put,sq_,i64_w,i32_w];rfl)
    refine pure_ (i := 2) (N := some 70) (v := ?_) (a' := ?_) (bl_ 7 7) rfl rfl (by kernel_rfl) (fun _ _ _ h => h) (Or.inl ⟨by rfl,?_⟩) ?_ ?_;rotate_left;(intro w';go_simp;with_reducible rfl);rotate_left;(simp only [Act.put,sq_,i64_w,i32_w];rfl)
    refine pure_ (i := 5) (N := some 4) (v := ?_) (a' := ?_) (bl_ 39 7) rfl rfl (by kernel_rfl) (fun _ _ _ h => h) (Or.inl ⟨by rfl,?_⟩) ?_ ?_;rotate_left;(intro w';go_simp;with_reducible rfl);rotate_left;(simp only [Act.put,sq_,i64_w,i32_w];rfl)
    refine take_ (i := 3) (N := some 71) (v := ?_) (a' := ?_) (bl_ 47 7) rfl rfl (by kernel_rfl) (fun _ _ _ h => h) (Or.inl ⟨by rfl,?_⟩) hHeld ?_ ?_;rotate_left;(rintro w' ⟨s0,s1⟩;go_simp;with_reducible rfl);rotate_left;(simp only [Act.put,sq_,i64_w,i32_w];rfl)
    refine pure_ (i := 4) (N := some 72) (v := ?_) (a' := ?_) (bl_ 63 7) rfl rfl (by kernel_rfl) (fun _ _ _ h => h) (Or.inl ⟨by rfl,?_⟩) ?_ ?_;rotate_left;(intro w';go_simp;with_reducible rfl);rotate_left;(simp only [Act.put,sq_,i64_w,i32_w];rfl)
    refine pure_ (i := 6) (N := some 5) (v := ?_) (a' := ?_) (bl_ 127 7) rfl rfl (by kernel_rfl) (fun _ _ _ h => h) (Or.inl ⟨by rfl,?_⟩) ?_ ?_;rotate_left;(intro w';go_simp;with_reducible rfl);rotate_left;(simp only [Act.put,sq_,i64_w,i32_w];rfl)
    refine done_ (by kernel_rfl) ?_
    try go_wp2
    go_ret2
    exact ⟨_,by first|rfl|(simp [errW_none,errW_some] <;> rfl)|(simp [*,errW_none,errW_some] <;> rfl),by (with_reducible repeat (first|apply Kd.S_alloc|apply Kd.S_drewN|apply Kd.S_drew));exact HO_6.out,by repeat (first|(with_reducible first|exact HB.out|apply bwA|apply bwN|apply bwD|refine bwS ?_ GE179.out|refine bwS ?_ GE180.out)|exact HB.out)⟩

end Go.Proofs.Ytfhakhbmbnbneaa.Q
