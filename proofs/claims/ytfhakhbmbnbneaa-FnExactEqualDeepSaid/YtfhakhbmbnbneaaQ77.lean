-- Written by wip/tools/qprint.py (a program of this claim's author) by means of the kit's printer.
import Derived.Test.YtfhakhbmbnbneaaQ0
import Derived.Test.YtfhakhbmbnbneaaQ81
import Derived.Lib.SliceRun
namespace Go.Proofs.Ytfhakhbmbnbneaa.Q
open Go.RowKit Go.Proofs.YtfhakhbmbnbneaaW.PrintWords Go.Proofs.YtfhakhbmbnbneaaW.PrintLast Go.Proofs.YtfhakhbmbnbneaaW.PrintMore
attribute [local go_sem] max2_int min2_int max_two min_two max_three min_three max_four min_four   -- for this text's walks alone
set_option linter.unusedVariables false
set_option linter.unusedSimpArgs false

/-! ### spec_copyGraph: function 77 -/
def spec_copyGraph.l0 : Nat → Int → List (S45) → Int → List (S45) → Int → Option ((List (S45)) × Int)
 | 0,_,_,_,_,_ => none
 | k + 1,x4,x168000,x168001,x170000,x170001 => if x4 < (x168000.length : Int) then (if 0 ≤ x4 then ((spec_copyInts.f ((rd_T45 x168000 x4).f2)).bind fun t173 => (if x170000.length < 3518437208883 then (spec_copyGraph.l0 k (wrap64 (x4 + 1)) x168000 x168001 (x170000 ++ [(⟨(rd_T45 x168000 x4).f0,(rd_T45 x168000 x4).f1,t173⟩ : S45)]) x170001) else (none))) else (none)) else (some (x170000,x170001))
def spec_copyGraph.f (k : Nat) (l0_0 : List (S45)) (a0_1 : Int) : Option ((List (S45)) × Int) := spec_copyGraph.l0 k 0 l0_0 a0_1 ([] : List (S45)) a0_1
set_option maxRecDepth 100000 in
theorem spec_copyGraph.mono_l : ∀ k,(∀ y0 y1 y2 y3 y4,LeO (spec_copyGraph.l0 k y0 y1 y2 y3 y4) (spec_copyGraph.l0 (k + 1) y0 y1 y2 y3 y4))
 | 0 => fun _ _ _ _ _ r h => (by cases h)
 | k + 1 => by
  have ih0 := spec_copyGraph.mono_l k
  ·intro y0 y1 y2 y3 y4
   unfold spec_copyGraph.l0
   repeat' first
   | (with_reducible exact ih0 _ _ _ _ _)
   | (with_reducible exact LeO.refl _)
   | (with_reducible exact LeO.none _)
   | (with_reducible refine LeO.ite ?_ ?_)
   | (with_reducible refine LeO.bind ?_ (fun _ => ?_))
   | exact ih0 _ _ _ _ _
   | exact LeO.none _
   | refine LeO.ite ?_ ?_
   | refine LeO.bind ?_ (fun _ => ?_)
set_option maxRecDepth 100000 in
theorem spec_copyGraph.mono : ∀ a0 a1 k,LeO (spec_copyGraph.f k a0 a1) (spec_copyGraph.f (k + 1) a0 a1) := by
 intro a0 a1 k
 have ih0 := spec_copyGraph.mono_l k
 unfold spec_copyGraph.f
 repeat' first
   | (with_reducible exact ih0 _ _ _ _ _)
   | (with_reducible exact LeO.refl _)
   | (with_reducible exact LeO.none _)
   | (with_reducible refine LeO.ite ?_ ?_)
   | (with_reducible refine LeO.bind ?_ (fun _ => ?_))
   | exact ih0 _ _ _ _ _
   | exact LeO.none _
   | refine LeO.ite ?_ ?_
   | refine LeO.bind ?_ (fun _ => ?_)
def spec_copyGraph.T5 : Bool × List (List Nat × List Nat) := (true,[([],[]),([0],[0]),([],[]),([2],[2]),([],[]),([3,4],[3,4]),([5],[5]),([6],[6]),([],[]),([8],[8]),([],[]),([9,10],[9,10]),([11],[11]),([12],[12]),([],[]),([14],[14]),([],[]),([15,16],[15,16]),([17],[17]),([18],[18]),([19],[19]),([7,13,20],[7,13,20]),([21],[21]),([1,22,20],[1,22]),([0,1,2,3,4,5,6,7,8,9,10,11,12,13,14,15,16,17,18,19,20,21,22,23],[]),([24,23,23,0,1,2,3,4,5,6,7,8,9,10,11,12,13,14,15,16,17,18,19,20,21,22,23],[23,24])])
def spec_copyGraph.B5 : List Nat := [0,1,0,4,0,28,60,124,0,256,0,1792,3840,7936,0,16384,0,114688,245760,507904,1032192,2097148,4194300,8388607,16777215,33554431]
theorem spec_copyGraph.tab5 : rtab .any (opsOf Try.f77 5) = spec_copyGraph.T5 := by kernel_rfl
theorem spec_copyGraph.bits5 : waitsOk spec_copyGraph.T5.2 spec_copyGraph.B5 = true := by kernel_rfl
set_option maxHeartbeats 8000000 in
set_option maxRecDepth 100000 in
theorem spec_copyGraph.calls (k : Nat) (A0_0 : Option Addr) (c0_0 : Nat) (l0_0 : List (S45)) (a0_1 : Int) (r1 : List (S45)) (r2 : Int) (w : World) (hr0_0 : Kd.C k45 w A0_0 l0_0.length l0_0) (hc0_0 : l0_0.length ≤ c0_0) (h : spec_copyGraph.f k l0_0 a0_1 = some (r1,r2)) :
  Calls Try.prog 77 #[.agg #[.slice A0_0 l0_0.length c0_0,.int .i64 a0_1]] w fun e w' => ∃ v0_ : Value,e = .returned (.agg #[v0_,.int .i64 r2]) ∧ Kd.S k45 45 w' w.heap.size (fun _ => True) v0_ r1 ∧ Below w.heap.size w w' := by
 have hu29 := Try.underlying29
 have hu45 := Try.underlying45
 have HR0_0 := As_ hr0_0
 have HC0_0 := As_ hc0_0
 clear hr0_0 hc0_0
 have HB := As_ (Below.refl w.heap.size w)
 have H : (spec_copyGraph.l0 k 0 l0_0 a0_1 ([] : List (S45)) a0_1) = some (r1,r2) := h
 clear h
 have H' := As_ H
 clear H
 go_enter Try.func77,Try.ntmps77
 go_wp2_with (first|((with_reducible refine gate_dst (N := 1) rfl ?_);refine box_event ?hg (N := 1) ?hd (cs := #[.slice A0_0 l0_0.length c0_0,.int .i64 a0_1]) (t := 29) ?hr ?_;(case hd => rfl);(case hg => rfl);(case hr => go_simp <;> rfl);intro gb167 hg w2 hbox hb;have n0_ := As_ (bwT (zb0 HB.out) hb);have n1_ := As_ (hbox);have n2_ := As_ ((by rw [hg];exact (bwZ (zb0 HB.out)) : w.heap.size ≤ gb167));have n3_ := As_ ((by rw [hg];exact (bwZ (zb0 HB.out)) : w.heap.size ≤ gb167));clear HB;have HB := n0_;have BK167 := n1_;have GW167 := n2_;have GE167 := n3_;clear n0_ n1_ n2_ n3_;clear hb hbox hg)|((with_reducible refine gate_dst (N := 2) rfl ?_);refine box_event ?hg (N := 2) ?hd (cs := #[.slice none 0 0,.int .i64 0]) (t := 29) ?hr ?_;(case hd => rfl);(case hg => rfl);(case hr => go_simp <;> rfl);intro gb168 hg w3 hbox hb;have n0_ := As_ (zkb BK167.out hb);have n1_ := As_ (bwT (zb1 HB.out GE167.out) hb);have n2_ := As_ (hbox);have n3_ := As_ ((by rw [hg];exact (bwZ (zb1 HB.out GE167.out)) : w.heap.size ≤ gb168));have n4_ := As_ ((by rw [hg];exact (bwZ (zb1 HB.out GE167.out)) : w.heap.size ≤ gb168));have n5_ := As_ ((by rw [hg];exact Nat.ne_of_lt (zkl BK167.out) : gb167 ≠ gb168));have n6_ := As_ ((by rw [hg];exact Nat.ne_of_gt (zkl BK167.out) : gb168 ≠ gb167));clear BK167;clear HB;have BK167 := n0_;have HB := n1_;have BK168 := n2_;have GW168 := n3_;have GE168 := n4_;have NB167_168 := n5_;have NB168_167 := n6_;clear n0_ n1_ n2_ n3_ n4_ n5_ n6_;clear hb hbox hg;have hnb4 := NB167_168.out;have hnc4 := NB168_167.out;have hcz5_0 : w3.cell? ⟨gb167,0,none⟩ = some (.slice A0_0 l0_0.length c0_0) := (bkC BK167.out 0).trans rfl;have hcz5_1 : w3.cell? ⟨gb167,1,none⟩ = some (.int .i64 a0_1) := (bkC BK167.out 1).trans rfl;have hfz5_0 := bkF BK167.out 0;have hfz5_1 := bkF BK167.out 1)|((with_reducible refine gate_dst (N := 3) rfl ?_);refine box_event ?hg (N := 3) ?hd (cs := #[.slice none 0 0,.int .i64 0]) (t := 29) ?hr ?_;(case hd => rfl);(case hg => rfl);(case hr => go_simp <;> rfl);intro gb169 hg w6 hbox hb;have n0_ := As_ (zkb BK167.out hb);have n1_ := As_ (zkb BK168.out hb);have n2_ := As_ (bwT (zb2 HB.out GE167.out GE168.out) hb);have n3_ := As_ (hbox);have n4_ := As_ ((by rw [hg];exact (bwZ (zb2 HB.out GE167.out GE168.out)) : w.heap.size ≤ gb169));have n5_ := As_ ((by rw [hg];exact (bwZ (zb2 HB.out GE167.out GE168.out)) : w.heap.size ≤ gb169));have n6_ := As_ ((by rw [hg];exact Nat.ne_of_lt (zkl BK167.out) : gb167 ≠ gb169));have n7_ := As_ ((by rw [hg];exact Nat.ne_of_gt (zkl BK167.out) : gb169 ≠ gb167));have n8_ := As_ ((by rw [hg];exact Nat.ne_of_lt (zkl BK168.out) : gb168 ≠ gb169));have n9_ := As_ ((by rw [hg];exact Nat.ne_of_gt (zkl BK168.out) : gb169 ≠ gb168));clear BK167;clear BK168;clear HB;have BK167 := n0_;have BK168 := n1_;have HB := n2_;have BK169 := n3_;have GW169 := n4_;have GE169 := n5_;have NB167_169 := n6_;have NB169_167 := n7_;have NB168_169 := n8_;have NB169_168 := n9_;clear n0_ n1_ n2_ n3_ n4_ n5_ n6_ n7_ n8_ n9_;clear hb hbox hg;have hnb7 := NB169_167.out;have hnc7 := NB167_169.out;have hnb8 := NB169_168.out;have hnc8 := NB168_169.out;have hcz9_0 : w6.cell? ⟨gb169,0,none⟩ = some (.slice none 0 0) := (bkC BK169.out 0).trans rfl;have hcz9_1 : w6.cell? ⟨gb169,1,none⟩ = some (.int .i64 0) := (bkC BK169.out 1).trans rfl;have hfz9_0 := bkF BK169.out 0;have hfz9_1 := bkF BK169.out 1))
 go_loopg [4] k (fun kq v4 w' => ∃ (x4_1 : Int) (x170000_1 : List (S45)) (u170000 : Value),v4 = .int .i64 x4_1 ∧ Aside0 (spec_copyGraph.l0 kq x4_1 l0_0 a0_1 x170000_1 a0_1 = some (r1,r2)) ∧ Aside0 (kq ≤ k) ∧ Aside0 (Kd.S k45 45 w' w.heap.size (fun _ => True) u170000 x170000_1) ∧ Aside0 (w'.heap[gb167]? = some (.cells #[(.slice A0_0 l0_0.length c0_0),.int .i64 a0_1] 29 (0,0))) ∧ Aside0 (w'.heap[gb168]? = some (.cells #[(.slice none 0 0),.int .i64 0] 29 (0,0))) ∧ Aside0 (w'.heap[gb169]? = some (.cells #[u170000,.int .i64 a0_1] 29 (0,0))) ∧ Aside0 (Below w.heap.size w w'))
 case atStart => exact ⟨(0),(([] : List (S45))),(.slice none 0 0),zT_,H',⟨Nat.le_refl _⟩,⟨by first|exact Kd.S_nil _ _ _ _ _|exact Kd.N_nil _ _ _ _ _|exact Kd.V_nil _ _ _ _ _|exact Kd.Q_nil _ _ _ _ _|exact Kd.R_nil _ _ _ _ _⟩,⟨by (with_reducible repeat (first|refine bkN ?_ _|refine bkD ?_|refine bkA ?_ _));refine blk_far ?_ NB167_169.out _;(with_reducible repeat (first|refine bkN ?_ _|refine bkD ?_|refine bkA ?_ _));refine blk_far ?_ NB167_169.out _;(with_reducible repeat (first|refine bkN ?_ _|refine bkD ?_|refine bkA ?_ _));exact BK167.out⟩,⟨by (with_reducible repeat (first|refine bkN ?_ _|refine bkD ?_|refine bkA ?_ _));refine blk_far ?_ NB168_169.out _;(with_reducible repeat (first|refine bkN ?_ _|refine bkD ?_|refine bkA ?_ _));refine blk_far ?_ NB168_169.out _;(with_reducible repeat (first|refine bkN ?_ _|refine bkD ?_|refine bkA ?_ _));exact BK168.out⟩,⟨by (with_reducible repeat (first|refine bkN ?_ _|refine bkD ?_|refine bkA ?_ _));refine blk_put (cs := #[.slice none 0 0,.int .i64 0]) ?_ 1 _ rfl;(with_reducible repeat (first|refine bkN ?_ _|refine bkD ?_|refine bkA ?_ _));refine blk_put (cs := #[.slice none 0 0,.int .i64 0]) ?_ 0 _ rfl;(with_reducible repeat (first|refine bkN ?_ _|refine bkD ?_|refine bkA ?_ _));exact BK169.out⟩,⟨by repeat (first|(with_reducible first|exact HB.out|apply bwA|apply bwN|apply bwD|refine bwS ?_ GE167.out|refine bwS ?_ GE168.out|refine bwS ?_ GE169.out)|exact HB.out)⟩⟩
 case round =>
  clear H'
  try clear p2
  try clear c4
  try clear c7
  try clear c8
  try clear hcz5_0
  try clear hcz5_1
  try clear hcz9_0
  try clear hcz9_1
  try clear hfz5_0
  try clear hfz5_1
  try clear hfz9_0
  try clear hfz9_1
  obtain ⟨x4_1,x170000_1,u170000,rfl,HA,HK1,HO_170000,BK167,BK168,BK169,HB⟩ := hrel
  cases gk with
  | zero => exact absurd HA.out (fun h_ => (by cases h_))
  | succ k1 =>
   have H := HA.out
   clear HA
   simp only [spec_copyGraph.l0] at H
   by_cases c10 : x4_1 < (l0_0.length : Int)
   ·rw [if_pos c10] at H
    have c10b0 : decide (x4_1 < (l0_0.length : Int)) = true := deT c10
    clear c10
    by_cases c11 : 0 ≤ x4_1
    rotate_left
    ·rw [if_neg c11] at H
     exact absurd H (by simp)
    rw [if_pos c11] at H
    have c11b0 : decide (0 ≤ x4_1) = true := deT c11
    clear c11
    replace H := obS H
    obtain ⟨t173,A120,H⟩ := H
    replace H : (if x170000_1.length < 3518437208883 then (spec_copyGraph.l0 k1 (wrap64 (x4_1 + 1)) l0_0 a0_1 (x170000_1 ++ [(⟨(rd_T45 l0_0 x4_1).f0,(rd_T45 l0_0 x4_1).f1,t173⟩ : S45)]) a0_1) else (none)) = some (r1,r2) := H
    have A12 := As_ A120
    clear A120
    by_cases c13 : x170000_1.length < 3518437208883
    rotate_left
    ·rw [if_neg c13] at H
     exact absurd H (by simp)
    rw [if_pos c13] at H
    have LMc13 := As_ c13
    clear c13
    obtain ⟨y176,hy176⟩ : ∃ y_ : List (S45),y_ = (x170000_1 ++ [(⟨(rd_T45 l0_0 x4_1).f0,(rd_T45 l0_0 x4_1).f1,t173⟩ : S45)]) := ⟨_,rfl⟩
    replace H : (spec_copyGraph.l0 k1 (wrap64 (x4_1 + 1)) l0_0 a0_1 y176 a0_1) = some (r1,r2) := by first|(rw [hy176];with_reducible exact H)|(have H2_ := (Option.bind_some _ _).symm.trans H;rw [hy176];with_reducible exact H2_)|(have H2_ := (Option.bind_some _ _).symm.trans H;with_reducible exact H2_)|with_reducible exact H|(rw [hy176];exact H)|exact H
    have Ny176 := As_ hy176
    clear hy176
    have H' := As_ H
    clear H
    have hnb14 := NB167_168.out
    have hnc14 := NB168_167.out
    have hnb15 := NB167_169.out
    have hnc15 := NB169_167.out
    have hcz16_0 : wr.cell? ⟨gb167,0,none⟩ = some (.slice A0_0 l0_0.length c0_0) := (bkC BK167.out 0).trans rfl
    have hcz16_1 : wr.cell? ⟨gb167,1,none⟩ = some (.int .i64 a0_1) := (bkC BK167.out 1).trans rfl
    have hfz16_0 := bkF BK167.out 0
    have hfz16_1 := bkF BK167.out 1
    try go_wp2
    have n0_ := As_ (Kd.S_drew HO_170000.out)
    have n1_ := As_ (bkD BK167.out)
    have n2_ := As_ (bkD BK168.out)
    have n3_ := As_ (bkD BK169.out)
    have n4_ := As_ (bwD HB.out)
    clear HO_170000
    clear BK167
    clear BK168
    clear BK169
    clear HB
    have HO_170000 := n0_
    have BK167 := n1_
    have BK168 := n2_
    have BK169 := n3_
    have HB := n4_
    clear n0_ n1_ n2_ n3_ n4_
    have p170 : 0 ≤ (x4_1 : Int) := odT zA_
    have q170 : x4_1 < (l0_0.length : Int) := odT zA_
    obtain ⟨ad170,A170_2,c170_2,e170,hx170_0,hx170_1,hx170_2,hl170_2,hi170_2⟩ := at_T45 HR0_0.out x4_1 p170 q170
    have hw170_2 := hx170_2
    have hw170_1 := hx170_1
    have hw170_0 := hx170_0
    cases e170
    replace hx170_0 := (HB.out.cell (bwL w _ hx170_0)).trans hx170_0
    replace hx170_1 := (HB.out.cell (bwL w _ hx170_1)).trans hx170_1
    replace hx170_2 := (HB.out.cell (bwL w _ hx170_2)).trans hx170_2
    have HR170_2 := As_ hi170_2
    have HC170_2 := As_ hl170_2
    clear hi170_2 hl170_2
    replace p170 := eq_true p170
    replace q170 := eq_true q170
    have p171 : 0 ≤ (x4_1 : Int) := odT zA_
    have q171 : x4_1 < (l0_0.length : Int) := odT zA_
    obtain ⟨ad171,A171_2,c171_2,e171,hx171_0,hx171_1,hx171_2,hl171_2,hi171_2⟩ := at_T45 HR0_0.out x4_1 p171 q171
    have hw171_2 := hx171_2
    have hw171_1 := hx171_1
    have hw171_0 := hx171_0
    obtain rfl : ad170 = ad171 := (by injection e171)
    replace hx171_0 := (HB.out.cell (bwL w _ hx171_0)).trans hx171_0
    replace hx171_1 := (HB.out.cell (bwL w _ hx171_1)).trans hx171_1
    replace hx171_2 := (HB.out.cell (bwL w _ hx171_2)).trans hx171_2
    have HR171_2 := As_ hi171_2
    have HC171_2 := As_ hl171_2
    clear hi171_2 hl171_2
    replace p171 := eq_true p171
    replace q171 := eq_true q171
    have ea_ := Option.some.inj (hx170_2.symm.trans hx171_2)
    injection ea_ with ea_ en_ ec_
    subst ea_
    subst ec_
    clear en_
    have p172 : 0 ≤ (x4_1 : Int) := odT zA_
    have q172 : x4_1 < (l0_0.length : Int) := odT zA_
    obtain ⟨ad172,A172_2,c172_2,e172,hx172_0,hx172_1,hx172_2,hl172_2,hi172_2⟩ := at_T45 HR0_0.out x4_1 p172 q172
    have hw172_2 := hx172_2
    have hw172_1 := hx172_1
    have hw172_0 := hx172_0
    obtain rfl : ad170 = ad172 := (by injection e172)
    replace hx172_0 := (HB.out.cell (bwL w _ hx172_0)).trans hx172_0
    replace hx172_1 := (HB.out.cell (bwL w _ hx172_1)).trans hx172_1
    replace hx172_2 := (HB.out.cell (bwL w _ hx172_2)).trans hx172_2
    have HR172_2 := As_ hi172_2
    have HC172_2 := As_ hl172_2
    clear hi172_2 hl172_2
    replace p172 := eq_true p172
    replace q172 := eq_true q172
    have ea_ := Option.some.inj (hx170_2.symm.trans hx172_2)
    injection ea_ with ea_ en_ ec_
    subst ea_
    subst ec_
    clear en_
    refine start_ (n := 26) (S := fun w' => w'.cell? ⟨gb169,0,none⟩ = some (u170000) ∧ w'.cell? ⟨gb169,1,none⟩ = some (.int .i64 a0_1) ∧ w'.cell? ⟨gb167,0,none⟩ = some (.slice (some ad170) l0_0.length c0_0) ∧ w'.cell? ⟨gb167,1,none⟩ = some (.int .i64 a0_1) ∧ w'.cell? (ad170.add ((x4_1).toNat * 3)) = some (.int .i64 ((rd_T45 l0_0 x4_1).f0)) ∧ w'.cell? ⟨(ad170.add ((x4_1).toNat * 3)).block,(ad170.add ((x4_1).toNat * 3)).off + 1,none⟩ = some (.int .i64 ((rd_T45 l0_0 x4_1).f1)) ∧ w'.cell? ⟨(ad170.add ((x4_1).toNat * 3)).block,(ad170.add ((x4_1).toNat * 3)).off + 2,none⟩ = some (.slice A170_2 ((rd_T45 l0_0 x4_1).f2).length c170_2) ∧ w'.cell? (ad170.add ((x4_1).toNat * 3)) = some (.int .i64 ((rd_T45 l0_0 x4_1).f0)) ∧ w'.cell? ⟨(ad170.add ((x4_1).toNat * 3)).block,(ad170.add ((x4_1).toNat * 3)).off + 1,none⟩ = some (.int .i64 ((rd_T45 l0_0 x4_1).f1)) ∧ w'.cell? ⟨(ad170.add ((x4_1).toNat * 3)).block,(ad170.add ((x4_1).toNat * 3)).off + 2,none⟩ = some (.slice A170_2 ((rd_T45 l0_0 x4_1).f2).length c170_2) ∧ w'.cell? (ad170.add ((x4_1).toNat * 3)) = some (.int .i64 ((rd_T45 l0_0 x4_1).f0)) ∧ w'.cell? ⟨(ad170.add ((x4_1).toNat * 3)).block,(ad170.add ((x4_1).toNat * 3)).off + 1,none⟩ = some (.int .i64 ((rd_T45 l0_0 x4_1).f1)) ∧ w'.cell? ⟨(ad170.add ((x4_1).toNat * 3)).block,(ad170.add ((x4_1).toNat * 3)).off + 2,none⟩ = some (.slice A170_2 ((rd_T45 l0_0 x4_1).f2).length c170_2)) (ds := [25]) (bl_ 0 26) (by kernel_rfl) rfl rfl ⟨(bkC BK169.out 0).trans rfl,(bkC BK169.out 1).trans rfl,(bkC BK167.out 0).trans rfl,(bkC BK167.out 1).trans rfl,((HB.out.cell (bwL w _ hw170_0)).trans hw170_0),((HB.out.cell (bwL w _ hw170_1)).trans hw170_1),((HB.out.cell (bwL w _ hw170_2)).trans hw170_2),((HB.out.cell (bwL w _ hw171_0)).trans hw171_0),((HB.out.cell (bwL w _ hw171_1)).trans hw171_1),((HB.out.cell (bwL w _ hw171_2)).trans hw171_2),((HB.out.cell (bwL w _ hw172_0)).trans hw172_0),((HB.out.cell (bwL w _ hw172_1)).trans hw172_1),((HB.out.cell (bwL w _ hw172_2)).trans hw172_2)⟩ (fun hHeld => ?_);refine with_tabW spec_copyGraph.tab5 spec_copyGraph.bits5 (fun HT_ HW_ => ?_)
    generalize wr.drew = w17 at HO_170000 BK167 BK168 BK169 HB HR170_2 HR171_2 HR172_2 hx170_0 hx170_1 hx170_2 hx171_0 hx171_1 hx171_2 hx172_0 hx172_1 hx172_2 hHeld ⊢
    refine pP 0 15 (bl_ 1 26) ?_ HT_ rfl (.inl ⟨by rfl,?_⟩) ?_ ?_ ?_;rotate_left;(intro w';go_simp;with_reducible rfl);rotate_left;(simp only [Act.put,sq_];rfl)
    refine pP 2 17 (bl_ 5 26) ?_ HT_ rfl (.inl ⟨by rfl,?_⟩) ?_ ?_ ?_;rotate_left;(intro w';go_simp;with_reducible rfl);rotate_left;(simp only [Act.put,sq_];rfl)
    refine pP 4 19 (bl_ 21 26) ?_ HT_ rfl (.inl ⟨by rfl,?_⟩) ?_ ?_ ?_;rotate_left;(intro w';go_simp;with_reducible rfl);rotate_left;(simp only [Act.put,sq_];rfl)
    refine pP 8 23 (bl_ 277 26) ?_ HT_ rfl (.inl ⟨by rfl,?_⟩) ?_ ?_ ?_;rotate_left;(intro w';go_simp;with_reducible rfl);rotate_left;(simp only [Act.put,sq_];rfl)
    refine pP 10 25 (bl_ 1301 26) ?_ HT_ rfl (.inl ⟨by rfl,?_⟩) ?_ ?_ ?_;rotate_left;(intro w';go_simp;with_reducible rfl);rotate_left;(simp only [Act.put,sq_];rfl)
    refine pP 14 29 (bl_ 17685 26) ?_ HT_ rfl (.inl ⟨by rfl,?_⟩) ?_ ?_ ?_;rotate_left;(intro w';go_simp;with_reducible rfl);rotate_left;(simp only [Act.put,sq_];rfl)
    refine pP 16 31 (bl_ 83221 26) ?_ HT_ rfl (.inl ⟨by rfl,?_⟩) ?_ ?_ ?_;rotate_left;(intro w';go_simp;with_reducible rfl);rotate_left;(simp only [Act.put,sq_];rfl)
    refine tP 1 16 (bl_ 83223 26) ?_ HT_ HW_ rfl (.inl ⟨by rfl,?_⟩) hHeld ?_ ?_ ?_;rotate_left;(rintro w' ⟨s0,s1,s2,s3,s4,s5,s6,s7,s8,s9,s10,s11,s12⟩;go_simp;with_reducible rfl);rotate_left;(simp only [Act.put,sq_];rfl)
    refine tP 3 18 (bl_ 83231 26) ?_ HT_ HW_ rfl (.inl ⟨by rfl,?_⟩) hHeld ?_ ?_ ?_;rotate_left;(rintro w' ⟨s0,s1,s2,s3,s4,s5,s6,s7,s8,s9,s10,s11,s12⟩;go_simp;with_reducible rfl);rotate_left;(simp only [Act.put,sq_];rfl)
    refine pP 5 20 (bl_ 83263 26) ?_ HT_ rfl (.inl ⟨by rfl,?_⟩) ?_ ?_ ?_;rotate_left;(intro w';go_simp;with_reducible rfl);rotate_left;(simp only [Act.put,sq_];rfl)
    refine pP 6 21 (bl_ 83327 26) ?_ HT_ rfl (.inl ⟨by rfl,?_⟩) ?_ ?_ ?_;rotate_left;(intro w';go_simp;with_reducible rfl);rotate_left;(simp only [Act.put,sq_];rfl)
    refine tP 7 22 (bl_ 83455 26) ?_ HT_ HW_ rfl (.inl ⟨by rfl,?_⟩) hHeld ?_ ?_ ?_;rotate_left;(rintro w' ⟨s0,s1,s2,s3,s4,s5,s6,s7,s8,s9,s10,s11,s12⟩;go_simp;with_reducible rfl);rotate_left;(simp only [Act.put,sq_];rfl)
    refine tP 9 24 (bl_ 83967 26) ?_ HT_ HW_ rfl (.inl ⟨by rfl,?_⟩) hHeld ?_ ?_ ?_;rotate_left;(rintro w' ⟨s0,s1,s2,s3,s4,s5,s6,s7,s8,s9,s10,s11,s12⟩;go_simp;with_reducible rfl);rotate_left;(simp only [Act.put,sq_];rfl)
    refine pP 11 26 (bl_ 86015 26) ?_ HT_ rfl (.inl ⟨by rfl,?_⟩) ?_ ?_ ?_;rotate_left;(intro w';go_simp;with_reducible rfl);rotate_left;(simp only [Act.put,sq_];rfl)
    refine pP 12 27 (bl_ 90111 26) ?_ HT_ rfl (.inl ⟨by rfl,?_⟩) ?_ ?_ ?_;rotate_left;(intro w';go_simp;with_reducible rfl);rotate_left;(simp only [Act.put,sq_];rfl)
    refine tP 13 28 (bl_ 98303 26) ?_ HT_ HW_ rfl (.inl ⟨by rfl,?_⟩) hHeld ?_ ?_ ?_;rotate_left;(rintro w' ⟨s0,s1,s2,s3,s4,s5,s6,s7,s8,s9,s10,s11,s12⟩;go_simp;with_reducible rfl);rotate_left;(simp only [Act.put,sq_];rfl)
    refine tP 15 30 (bl_ 131071 26) ?_ HT_ HW_ rfl (.inl ⟨by rfl,?_⟩) hHeld ?_ ?_ ?_;rotate_left;(rintro w' ⟨s0,s1,s2,s3,s4,s5,s6,s7,s8,s9,s10,s11,s12⟩;go_simp;with_reducible rfl);rotate_left;(simp only [Act.put,sq_];rfl)
    refine pP 17 32 (bl_ 262143 26) ?_ HT_ rfl (.inl ⟨by rfl,?_⟩) ?_ ?_ ?_;rotate_left;(intro w';go_simp;with_reducible rfl);rotate_left;(simp only [Act.put,sq_];rfl)
    refine pP 18 33 (bl_ 524287 26) ?_ HT_ rfl (.inl ⟨by rfl,?_⟩) ?_ ?_ ?_;rotate_left;(intro w';go_simp;with_reducible rfl);rotate_left;(simp only [Act.put,sq_];rfl)
    refine tP 19 34 (bl_ 1048575 26) ?_ HT_ HW_ rfl (.inl ⟨by rfl,?_⟩) hHeld ?_ ?_ ?_;rotate_left;(rintro w' ⟨s0,s1,s2,s3,s4,s5,s6,s7,s8,s9,s10,s11,s12⟩;go_simp;with_reducible rfl);rotate_left;(simp only [Act.put,sq_];rfl)
    refine one_ (i := 20) (N := some 35) (bl_ 2097151 26) rfl rfl (one_of HT_.out (by kernel_rfl)) (by decide) (fun K hK => ?_)
    refine goes_ Try.func78 (by kernel_rfl) rfl #[.slice A170_2 ((rd_T45 l0_0 x4_1).f2).length c170_2] (by rfl) rfl rfl zM_ ?_
    with_reducible refine (spec_copyInts.calls _ _ ((rd_T45 l0_0 x4_1).f2) t173 _ ?side1 ?side2 A12.out).mono ?_
    (case side1 => repeat (first|exact (Kd.C_below HR172_2.out HB.out)|(with_reducible refine Kd.C_alloc ?_ _)|(with_reducible refine Kd.C_drewN ?_ _)|(with_reducible refine Kd.C_drew ?_)))
    (case side2 => exact HC172_2.out)
    rintro e w18 ⟨v174,rfl,ho0,hb⟩
    refine ⟨_,rfl,?_⟩
    have n0_ := As_ (Kd.S_elder' (zS_ HO_170000.out) (Kd.R_base ho0) hb)
    have n1_ := As_ (Kd.R_lower ho0 (bwZ (zb3 HB.out GE167.out GE168.out GE169.out)))
    have n2_ := As_ (zkb BK167.out hb)
    have n3_ := As_ (zkb BK168.out hb)
    have n4_ := As_ (zkb BK169.out hb)
    have n5_ := As_ (bwT (zb3 HB.out GE167.out GE168.out GE169.out) hb)
    clear HO_170000
    clear BK167
    clear BK168
    clear BK169
    clear HB
    have HO_170000 := n0_
    have HO175 := n1_
    have BK167 := n2_
    have BK168 := n3_
    have BK169 := n4_
    have HB := n5_
    clear n0_ n1_ n2_ n3_ n4_ n5_
    (try clear hb)
    (try clear hb2)
    (try clear hk)
    (try clear hi)
    (try clear ho0)
    obtain ⟨Ao19,co19,eo19⟩ := Kd.R_slice HO175.out
    (first|subst eo19|(injection eo19 with f1_ f2_ f3_;have f4_ := f1_.symm;have f5_ := f3_.symm;clear f1_ f2_ f3_;subst f4_;subst f5_))
    refine hK.out _ _ ⟨(bkC BK169.out 0).trans rfl,(bkC BK169.out 1).trans rfl,(bkC BK167.out 0).trans rfl,(bkC BK167.out 1).trans rfl,((HB.out.cell (bwL w _ hw170_0)).trans hw170_0),((HB.out.cell (bwL w _ hw170_1)).trans hw170_1),((HB.out.cell (bwL w _ hw170_2)).trans hw170_2),((HB.out.cell (bwL w _ hw171_0)).trans hw171_0),((HB.out.cell (bwL w _ hw171_1)).trans hw171_1),((HB.out.cell (bwL w _ hw171_2)).trans hw171_2),((HB.out.cell (bwL w _ hw172_0)).trans hw172_0),((HB.out.cell (bwL w _ hw172_1)).trans hw172_1),((HB.out.cell (bwL w _ hw172_2)).trans hw172_2)⟩ (fun hHeld => ?_)
    clear hK K
    refine norm_ (a' := ?_) ?_ ?_
    rotate_left
    ·show Act.put _ (some 35) _ = _
     simp only [Act.put,sq_]
     rfl
    refine pP 21 36 (bl_ 4194303 26) ?_ HT_ rfl (.inl ⟨by rfl,?_⟩) ?_ ?_ ?_;rotate_left;(intro w';go_simp;with_reducible rfl);rotate_left;(simp only [Act.put,sq_];rfl)
    refine one_ (i := 22) (N := some 37) (bl_ 8388607 26) rfl rfl (one_of HT_.out (by kernel_rfl)) (by decide) (fun K hK => ?_)
    refine value_ (w1 := ?_) (v := ?_) (by rfl) rfl ?_ ?_
    rotate_left 2
    ·go_simp
     constructor
     ·rfl
     ·rfl
    refine hK.out _ _ ⟨(bkC (bkA BK169.out _) 0).trans rfl,(bkC (bkA BK169.out _) 1).trans rfl,(bkC (bkA BK167.out _) 0).trans rfl,(bkC (bkA BK167.out _) 1).trans rfl,(World.cell?_alloc_lt _ _ _ (bwL _ _ (((HB.out.cell (bwL w _ hw170_0)).trans hw170_0)))).trans (((HB.out.cell (bwL w _ hw170_0)).trans hw170_0)),(World.cell?_alloc_lt _ _ _ (bwL _ _ (((HB.out.cell (bwL w _ hw170_1)).trans hw170_1)))).trans (((HB.out.cell (bwL w _ hw170_1)).trans hw170_1)),(World.cell?_alloc_lt _ _ _ (bwL _ _ (((HB.out.cell (bwL w _ hw170_2)).trans hw170_2)))).trans (((HB.out.cell (bwL w _ hw170_2)).trans hw170_2)),(World.cell?_alloc_lt _ _ _ (bwL _ _ (((HB.out.cell (bwL w _ hw171_0)).trans hw171_0)))).trans (((HB.out.cell (bwL w _ hw171_0)).trans hw171_0)),(World.cell?_alloc_lt _ _ _ (bwL _ _ (((HB.out.cell (bwL w _ hw171_1)).trans hw171_1)))).trans (((HB.out.cell (bwL w _ hw171_1)).trans hw171_1)),(World.cell?_alloc_lt _ _ _ (bwL _ _ (((HB.out.cell (bwL w _ hw171_2)).trans hw171_2)))).trans (((HB.out.cell (bwL w _ hw171_2)).trans hw171_2)),(World.cell?_alloc_lt _ _ _ (bwL _ _ (((HB.out.cell (bwL w _ hw172_0)).trans hw172_0)))).trans (((HB.out.cell (bwL w _ hw172_0)).trans hw172_0)),(World.cell?_alloc_lt _ _ _ (bwL _ _ (((HB.out.cell (bwL w _ hw172_1)).trans hw172_1)))).trans (((HB.out.cell (bwL w _ hw172_1)).trans hw172_1)),(World.cell?_alloc_lt _ _ _ (bwL _ _ (((HB.out.cell (bwL w _ hw172_2)).trans hw172_2)))).trans (((HB.out.cell (bwL w _ hw172_2)).trans hw172_2))⟩ (fun hHeld => ?_)
    clear hK K
    refine norm_ (a' := ?_) ?_ ?_
    rotate_left
    ·show Act.put _ (some 37) _ = _
     simp only [Act.put,sq_]
     rfl
    refine one_ (i := 23) (N := some 38) (bl_ 16777215 26) rfl rfl (one_of HT_.out (by kernel_rfl)) (by decide) (fun K hK => ?_)
    refine Kd.S_append_step k45 (w0 := w) w.heap.size (by rfl) (.tmp 16) (.tmp 37) 27 45 (.agg #[(.int .i64 0),(.int .i64 0),(.slice none 0 0)]) 40 rfl Try.underlying27 info45 rfl (by decide) (by omega) u170000 x170000_1 (⟨(rd_T45 l0_0 x4_1).f0,(rd_T45 l0_0 x4_1).f1,t173⟩ : S45) [.int .i64 ((rd_T45 l0_0 x4_1).f0),.int .i64 ((rd_T45 l0_0 x4_1).f1),.slice Ao19 t173.length co19] (fun _ => True) (fun k_ => some k_ = (.slice Ao19 t173.length co19 : Value).ownBlock) rfl rfl ?aP (fun k_ hk_ => ((Kd.R_mono (ok' := fun k_ => ((fun _ => True)) k_ ∧ some k_ ≠ (u170000 : Value).ownBlock) (Kd.R_apart' (HO175.out) (Kd.S_typed HO_170000.out) (by decide)) (fun k_ hk => ⟨trivial,hk.2⟩))).1 k_ hk_.symm) ?aF ?aO ?aB ?aS ?aL ?_
    (case aP => exact k45_mkM _ _ _ (⟨(rd_T45 l0_0 x4_1).f0,(rd_T45 l0_0 x4_1).f1,t173⟩ : S45) (Kd.R_mono (Kd.R_tight rfl (Kd.R_mono (ok' := fun k_ => ((fun _ => True)) k_ ∧ some k_ ≠ (u170000 : Value).ownBlock) (Kd.R_apart' (HO175.out) (Kd.S_typed HO_170000.out) (by decide)) (fun k_ hk => ⟨trivial,hk.2⟩))) (fun _ h_ => h_)))
    (case aB => exact (zb3 HB.out GE167.out GE168.out GE169.out))
    (case aF => exact (fun _ _ => trivial))
    (case aO => exact (by (with_reducible repeat (first|apply Kd.S_alloc|apply Kd.S_drewN|apply Kd.S_drew));exact Kd.S_mono HO_170000.out (fun k_ hk => ⟨trivial,fun e_ => hk.2 e_⟩)))
    (case aS => exact (bwZ (zb3 HB.out GE167.out GE168.out GE169.out)))
    (case aL => have := LMc13.out;omega)
    intro v177 w20 ho hb hg hat
    rw [← Ny176.out] at ho
    have n0_ := As_ (blk_grown (g := gb167) (o := .cells #[.slice (some ad170) l0_0.length c0_0,.int .i64 a0_1] 29 (0,0)) (zk_ BK167.out) hg (Kd.S_ne HO_170000.out BK167.out (by decide)))
    have n1_ := As_ (blk_grown (g := gb168) (o := .cells #[.slice none 0 0,.int .i64 0] 29 (0,0)) (zk_ BK168.out) hg (Kd.S_ne HO_170000.out BK168.out (by decide)))
    have n2_ := As_ (blk_grown (g := gb169) (o := .cells #[u170000,.int .i64 a0_1] 29 (0,0)) (zk_ BK169.out) hg (Kd.S_ne HO_170000.out BK169.out (by decide)))
    have n3_ := As_ (hb)
    have n4_ := As_ (ho)
    clear BK167
    clear BK168
    clear BK169
    clear HB
    clear HO_170000
    clear HO175
    have BK167 := n0_
    have BK168 := n1_
    have BK169 := n2_
    have HB := n3_
    have HO178 := n4_
    clear n0_ n1_ n2_ n3_ n4_
    clear ho hb hg hat
    obtain ⟨Ao21,co21,eo21⟩ := Kd.S_slice HO178.out
    (first|subst eo21|(injection eo21 with f1_ f2_ f3_;have f4_ := f1_.symm;have f5_ := f3_.symm;clear f1_ f2_ f3_;subst f4_;subst f5_))
    refine hK.out _ _ ⟨(bkC BK169.out 0).trans rfl,(bkC BK169.out 1).trans rfl,(bkC BK167.out 0).trans rfl,(bkC BK167.out 1).trans rfl,((HB.out.cell (bwL w _ hw170_0)).trans hw170_0),((HB.out.cell (bwL w _ hw170_1)).trans hw170_1),((HB.out.cell (bwL w _ hw170_2)).trans hw170_2),((HB.out.cell (bwL w _ hw171_0)).trans hw171_0),((HB.out.cell (bwL w _ hw171_1)).trans hw171_1),((HB.out.cell (bwL w _ hw171_2)).trans hw171_2),((HB.out.cell (bwL w _ hw172_0)).trans hw172_0),((HB.out.cell (bwL w _ hw172_1)).trans hw172_1),((HB.out.cell (bwL w _ hw172_2)).trans hw172_2)⟩ (fun hHeld => ?_)
    clear hK K
    refine norm_ (a' := ?_) ?_ ?_
    rotate_left
    ·show Act.put _ (some 38) _ = _
     simp only [Act.put,sq_]
     rfl
    refine pP 24 39 (bl_ 33554431 26) ?_ HT_ rfl (.inl ⟨by rfl,?_⟩) ?_ ?_ ?_;rotate_left;(intro w';go_simp;with_reducible rfl);rotate_left;(simp only [Act.put,sq_];rfl)
    refine last_ (i := 25) (N := none) (bl_ 67108863 26) rfl rfl (one_of HT_.out (by kernel_rfl)) (by decide) (fun K hK => ?_)
    have hs22 : w20.cell? ⟨gb169,0,none⟩ = some (u170000) := (bkC BK169.out 0).trans rfl
    have hfs22 := bkF BK169.out 0
    have hns22_0 := NB167_169.out
    have hns22_1 := NB168_169.out
    have hms22_0 := NB169_167.out
    have hms22_1 := NB169_168.out
    refine skip_ (w1 := ?_) (by rfl) rfl ?_ ?_
    rotate_left
    ·go_simp
     rfl
    refine hK.out _ _ ?_
    clear hK K
    refine done_ (done_of HT_.out (by kernel_rfl)) ?_
    try go_wp2
    go_roundg k1
    case measure => have := HK1.out;omega
    case rel => exact ⟨(wrap64 (x4_1 + 1)),(y176),(.slice Ao21 y176.length co21),zT_,H',⟨by have := HK1.out;omega⟩,⟨by (with_reducible repeat (first|apply Kd.S_alloc|apply Kd.S_drewN|apply Kd.S_drew));exact Kd.S_mono (Kd.S_far (p := ⟨gb169,0,none⟩) (Kd.S_types HO178.out BK169.out (by decide)) (fun _ hk => hk.2) (.slice Ao21 y176.length co21)) (fun _ hk => trivial)⟩,⟨by (with_reducible repeat (first|refine bkN ?_ _|refine bkD ?_|refine bkA ?_ _));refine blk_far ?_ NB167_169.out _;(with_reducible repeat (first|refine bkN ?_ _|refine bkD ?_|refine bkA ?_ _));exact BK167.out⟩,⟨by (with_reducible repeat (first|refine bkN ?_ _|refine bkD ?_|refine bkA ?_ _));refine blk_far ?_ NB168_169.out _;(with_reducible repeat (first|refine bkN ?_ _|refine bkD ?_|refine bkA ?_ _));exact BK168.out⟩,⟨by (with_reducible repeat (first|refine bkN ?_ _|refine bkD ?_|refine bkA ?_ _));refine blk_put (cs := #[u170000,.int .i64 a0_1]) ?_ 0 _ rfl;(with_reducible repeat (first|refine bkN ?_ _|refine bkD ?_|refine bkA ?_ _));exact BK169.out⟩,⟨by repeat (first|(with_reducible first|exact HB.out|apply bwA|apply bwN|apply bwD|refine bwS ?_ GE167.out|refine bwS ?_ GE168.out|refine bwS ?_ GE169.out)|exact HB.out)⟩⟩
   ·rw [if_neg c10] at H
    have c10b0 : decide (x4_1 < (l0_0.length : Int)) = false := deF c10
    clear c10
    simp only [Option.some.injEq,Prod.mk.injEq] at H
    obtain ⟨rfl,rfl⟩ := H
    have hnb23 := NB167_168.out
    have hnc23 := NB168_167.out
    have hnb24 := NB167_169.out
    have hnc24 := NB169_167.out
    have hcz25_0 : wr.cell? ⟨gb167,0,none⟩ = some (.slice A0_0 l0_0.length c0_0) := (bkC BK167.out 0).trans rfl
    have hcz25_1 : wr.cell? ⟨gb167,1,none⟩ = some (.int .i64 a0_1) := (bkC BK167.out 1).trans rfl
    have hfz25_0 := bkF BK167.out 0
    have hfz25_1 := bkF BK167.out 1
    have hnb26 := NB169_168.out
    have hnc26 := NB168_169.out
    have hcz27_0 : wr.cell? ⟨gb169,0,none⟩ = some (u170000) := (bkC BK169.out 0).trans rfl
    have hcz27_1 : wr.cell? ⟨gb169,1,none⟩ = some (.int .i64 a0_1) := (bkC BK169.out 1).trans rfl
    have hfz27_0 := bkF BK169.out 0
    have hfz27_1 := bkF BK169.out 1
    obtain ⟨Ao28,co28,eo28⟩ := Kd.S_slice HO_170000.out
    subst eo28
    have hcz29_0 : wr.cell? ⟨gb168,0,none⟩ = some (.slice none 0 0) := (bkC BK168.out 0).trans rfl
    have hcz29_1 : wr.cell? ⟨gb168,1,none⟩ = some (.int .i64 0) := (bkC BK168.out 1).trans rfl
    have hfz29_0 := bkF BK168.out 0
    have hfz29_1 := bkF BK168.out 1
    go_wp2
    refine bodyPost_ret (results_cell_row rfl _ _ gb168 29 #[.slice Ao28 x170000_1.length co28,.int .i64 a0_1] (0,0) _ rfl (by (with_reducible repeat (first|refine bkN ?_ _|refine bkD ?_|refine bkA ?_ _));refine blk_put (cs := #[.slice Ao28 x170000_1.length co28,.int .i64 0]) ?_ 1 _ rfl;(with_reducible repeat (first|refine bkN ?_ _|refine bkD ?_|refine bkA ?_ _));refine blk_put (cs := #[.slice none 0 0,.int .i64 0]) ?_ 0 _ rfl;(with_reducible repeat (first|refine bkN ?_ _|refine bkD ?_|refine bkA ?_ _));exact BK168.out) Try.underlying29 rfl (by kernel_rfl)) rfl ?_
    exact ⟨_,by first|rfl|(simp [errW_none,errW_some] <;> rfl)|(simp [*,errW_none,errW_some] <;> rfl),by (with_reducible repeat (first|apply Kd.S_alloc|apply Kd.S_drewN|apply Kd.S_drew));exact Kd.S_mono (Kd.S_far (p := ⟨gb168,1,none⟩) (Kd.S_far (p := ⟨gb168,0,none⟩) (Kd.S_types HO_170000.out BK168.out (by decide)) (fun _ hk => hk.2) (.slice Ao28 x170000_1.length co28)) (fun _ hk => hk.2) (.int .i64 a0_1)) (fun _ hk => trivial),by repeat (first|(with_reducible first|exact HB.out|apply bwA|apply bwN|apply bwD|refine bwS ?_ GE167.out|refine bwS ?_ GE168.out|refine bwS ?_ GE169.out)|exact HB.out)⟩

/-! ### impl_Node: function 52 -/
def impl_Node.f (l0 : List (S45)) : Option ((List (S45))) := (some (([] : List (S45)) : List (S45))).bind fun y285 => (if y285.length + l0.length < 3518437208883 then (some (y285 ++ l0)) else (none))
set_option maxHeartbeats 8000000 in
set_option maxRecDepth 100000 in
theorem impl_Node.calls (P0_ : Nat → Prop) (A0 : Option Addr) (c0 : Nat) (l0 : List (S45)) (r : List (S45)) (w : World) (hs0 : Kd.V k45 45 w w.heap.size (fun k_ => P0_ k_) (.slice A0 l0.length c0) l0) (h : impl_Node.f l0 = some r) :
  Calls Try.prog 52 #[.slice A0 l0.length c0] w fun e w' => ∃ v0_ : Value,e = .returned (v0_) ∧ Kd.N k45 45 w' w.heap.size (fun k_ => (P0_ k_ ∨ w.heap.size ≤ k_)) v0_ r ∧ Below w.heap.size w w' := by
 have HO0 := As_ (show Kd.V k45 45 w w.heap.size (fun k_ => (P0_ k_ ∨ w.heap.size ≤ k_)) (.slice A0 l0.length c0) l0 from Kd.V_mono hs0 (fun k_ hk => .inl hk))
 have HB := As_ (Below.refl w.heap.size w)
 have H : ((some (([] : List (S45)) : List (S45))).bind fun y285 => (if y285.length + l0.length < 3518437208883 then (some (y285 ++ l0)) else (none))) = some r := h
 clear h
 obtain ⟨y285,hy285⟩ : ∃ y_ : List (S45),y_ = (([] : List (S45))) := ⟨_,rfl⟩
 replace H : (if y285.length + l0.length < 3518437208883 then (some (y285 ++ l0)) else (none)) = some r := by first|(rw [hy285];with_reducible exact H)|(have H2_ := (Option.bind_some _ _).symm.trans H;rw [hy285];with_reducible exact H2_)|(have H2_ := (Option.bind_some _ _).symm.trans H;with_reducible exact H2_)|with_reducible exact H|(rw [hy285];exact H)|exact H
 have Ny285 := As_ hy285
 clear hy285
 by_cases c2 : y285.length + l0.length < 3518437208883
 rotate_left
 ·rw [if_neg c2] at H
  exact absurd H (by simp)
 rw [if_pos c2] at H
 have LMc2 := As_ c2
 clear c2
 obtain ⟨y288,hy288⟩ : ∃ y_ : List (S45),y_ = (y285 ++ l0) := ⟨_,rfl⟩
 replace H : (some y288) = some r := by first|(rw [hy288];with_reducible exact H)|(have H2_ := (Option.bind_some _ _).symm.trans H;rw [hy288];with_reducible exact H2_)|(have H2_ := (Option.bind_some _ _).symm.trans H;with_reducible exact H2_)|with_reducible exact H|(rw [hy288];exact H)|exact H
 have Ny288 := As_ hy288
 clear hy288
 obtain rfl := Option.some.inj H
 rcases A0 with _|ad
 ·have hl : l0 = [] := by
   rcases Nat.eq_zero_or_pos l0.length with q|q
   ·exact List.length_eq_zero_iff.1 q
   ·obtain ⟨ad,e,_⟩ := (Kd.V_reads' HO0.out).2.2.2.2 q
    cases e
  subst hl
  have hy : y288 = [] := by rw [Ny288.out,Ny285.out];rfl
  have q4 := fun W : World => Go.Lib.run_eql_slice_nil (P := Try.prog) W 27 45 none 0 c0 0 0 Try.underlying27
  go_enter Try.func52,Try.ntmps52
  go_wp2
  go_ret
  exact ⟨_,rfl,by first|exact Kd.N_nil _ _ _ _ _|(rw [hy];exact Kd.N_nil _ _ _ _ _),HB.out⟩
 have q4 := fun W : World => Go.Lib.run_eql_slice_nil (P := Try.prog) W 27 45 (some ad) l0.length c0 0 0 Try.underlying27
 go_enter Try.func52,Try.ntmps52
 go_wp2_with (first|((with_reducible refine gate_dst (N := 5) rfl ?_);refine Kd.N_lit k45 _ 45 ?hg (N' := 5) ?hd (xs := ([] : List (S45))) (inner := []) (ok := (fun k_ => (P0_ k_ ∨ w.heap.size ≤ k_))) (okp := (fun k_ => (P0_ k_ ∨ w.heap.size ≤ k_))) ?hr ?hp (fun _ hk => hk) ((show ∀ k_,w.heap.size ≤ k_ → (fun k_ => (P0_ k_ ∨ w.heap.size ≤ k_)) k_ from fun k_ hk => (.inr (Nat.le_trans (bwZ (zb0 HB.out)) hk))) _ (Nat.le_refl _)) (Below.refl _ _) (Nat.le_refl _) (by simp) ?_;(case hd => rfl);(case hg => rfl);(case hr => go_simp <;> rfl);(case hp => exact (Reps.none _ _));intro v286 w3 ho4 hb hg_ hnew_;clear hg_ hnew_;(first|rw [← Ny285.out] at ho4|(simp only [Int.reduceToNat] at ho4;rw [← Ny285.out] at ho4));have n0_ := As_ (Kd.V_elder' (by (with_reducible repeat (first|apply Kd.V_alloc|apply Kd.V_drewN|apply Kd.V_drew));exact HO0.out) (Kd.N_base ho4) hb);have n1_ := As_ (Kd.N_lower ho4 (bwZ (zb0 HB.out)));have n2_ := As_ (bwT (zb0 HB.out) hb);clear HO0;clear HB;have HO0 := n0_;have HO287 := n1_;have HB := n2_;clear n0_ n1_ n2_;clear hb ho4)|((with_reducible refine gate_builtin (b := .append) (xs := #[.tmp 5,.tmp 6]) rfl ?_);at_builtin;refine Kd.N_append_rows k45 (w0 := w) w.heap.size rfl (.tmp 5) (.tmp 6) 27 45 (.agg #[(.int .i64 0),(.int .i64 0),(.slice none 0 0)]) 40 rfl Try.underlying27 info45 rfl (by decide) (by omega) v286 y285 l0 _ _ _ (fun k_ => (P0_ k_ ∨ w.heap.size ≤ k_)) (fun k_ => ((fun k_ => (P0_ k_ ∨ w.heap.size ≤ k_))) k_ ∧ some k_ ≠ (v286 : Value).ownBlock) rfl rfl ?aO ?aR (fun _ hk => hk) ?aF ?aB ?aS ?aL ?_;(case aR => exact (by skip;exact Kd.V_F (Kd.V_mono (ok' := (fun k_ => ((fun k_ => (P0_ k_ ∨ w.heap.size ≤ k_))) k_ ∧ some k_ ≠ (v286 : Value).ownBlock)) (HO0.out) (fun k_ hk => ⟨hk.1,hk.2⟩))));(case aB => exact (zb0 HB.out));(case aF => exact (fun k_ hk => (.inr (Nat.le_trans (bwZ (zb0 HB.out)) hk))));(case aO => exact (zN_ HO287.out));(case aS => exact (bwZ (zb0 HB.out)));(case aL => have := LMc2.out;omega);intro v289 w5 ho hb hg hat;rw [← Ny288.out] at ho;have n0_ := As_ (Kd.V_afterv (ok := (fun k_ => (P0_ k_ ∨ w.heap.size ≤ k_))) (by (with_reducible repeat (first|apply Kd.V_alloc|apply Kd.V_drewN|apply Kd.V_drew));exact HO0.out) hg hat);have n1_ := As_ (hb);have n2_ := As_ (ho);clear HO0;clear HB;clear HO287;have HO0 := n0_;have HB := n1_;have HO290 := n2_;clear n0_ n1_ n2_;clear ho hb hg hat))
 go_ret
 exact ⟨_,by first|rfl|(simp [errW_none,errW_some] <;> rfl)|(simp [*,errW_none,errW_some] <;> rfl),by (with_reducible repeat (first|apply Kd.N_alloc|apply Kd.N_drewN|apply Kd.N_drew));exact HO290.out,by repeat (first|(with_reducible first|exact HB.out|apply bwA|apply bwN|apply bwD)|exact HB.out)⟩

end Go.Proofs.Ytfhakhbmbnbneaa.Q
