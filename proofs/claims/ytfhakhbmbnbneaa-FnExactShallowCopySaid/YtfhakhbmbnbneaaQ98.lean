-- Written by wip/tools/qprint.py (a program of this claim's author) by means of the kit's printer.
import Derived.Test.YtfhakhbmbnbneaaQ0
import Derived.Lib.SliceRun
namespace Go.Proofs.Ytfhakhbmbnbneaa.Q
open Go.RowKit Go.Proofs.YtfhakhbmbnbneaaW.PrintWords Go.Proofs.YtfhakhbmbnbneaaW.PrintLast Go.Proofs.YtfhakhbmbnbneaaW.PrintMore
attribute [local go_sem] max2_int min2_int max_two min_two max_three min_three max_four min_four   -- for this text's walks alone
set_option linter.unusedVariables false
set_option linter.unusedSimpArgs false

/-! ### slices_Clone_int_int: function 98 -/
def slices_Clone_int_int.f (l0 : List Int) : Option (List Int) := if l0.length < 17592186044416 then some l0 else none
set_option maxHeartbeats 8000000 in
set_option maxRecDepth 100000 in
theorem slices_Clone_int_int.calls (A0 : Option Addr) (c0 : Nat) (l0 : List Int) (r : List Int) (w : World) (hr0 : Kd.C (Kd.int .i64) w A0 l0.length l0) (hc0 : l0.length ≤ c0) (h : slices_Clone_int_int.f l0 = some r) :
  Calls Try.prog 98 #[.slice A0 l0.length c0] w fun e w' => ∃ v0_ : Value,e = .returned (v0_) ∧ Kd.R (Kd.int .i64) 3 w' w.heap.size (fun _ => True) v0_ r ∧ Below w.heap.size w w' := by
 have HR0 := As_ hr0
 have HC0 := As_ hc0
 have HB := As_ (Below.refl w.heap.size w)
 unfold slices_Clone_int_int.f at h
 by_cases c2 : l0.length < 17592186044416
 ·rw [if_pos c2] at h
  obtain rfl := Option.some.inj h
  cases A0 with
  | none =>
   have hl : l0 = [] := by
    rcases Nat.eq_zero_or_pos l0.length with q|q
    ·exact List.length_eq_zero_iff.1 q
    ·obtain ⟨ad,e,_⟩ := hr0.2.2 q
     cases e
   subst hl
   have q4 := fun W : World => Go.Lib.run_eql_slice_nil (P := Try.prog) W 37 3 none 0 c0 0 0 Try.underlying37
   go_enter Try.func98,Try.ntmps98
   go_wp2
   go_ret
   exact ⟨_,rfl,Kd.R_nil _ _ _ _ _,HB.out⟩
  | some ad =>
   obtain ⟨y130,hy130⟩ : ∃ y_ : List Int,y_ = (([] : List Int)) := ⟨_,rfl⟩
   have Ny130 := As_ hy130
   have hy1 : y130 ++ l0 = l0 := by rw [hy130,List.nil_append]
   have hy2 : y130.length + l0.length < 17592186044416 := by rw [hy130,List.length_nil];omega
   have LMc2 := As_ hy2
   clear hr0 hc0 hy130
   have q4 := fun W : World => Go.Lib.run_eql_slice_nil (P := Try.prog) W 37 3 (some ad) l0.length c0 0 0 Try.underlying37
   go_enter Try.func98,Try.ntmps98
   go_wp2_with (first|((with_reducible refine gate_dst (N := 5) rfl ?_);refine Kd.R_lit (Kd.int .i64) _ 3 ?hg (N := 5) ?hd (xs := ([] : List Int)) (inner := []) (ok := fun _ => True) (okp := fun _ => True) ?hr ?hp (fun _ hk => hk) trivial (Below.refl _ _) (Nat.le_refl _) (by simp) ?_;(case hd => rfl);(case hg => rfl);(case hr => go_simp <;> rfl);(case hp => exact (Reps.none _ _));intro v131 w3 ho4 hb hg_ hnew_;clear hg_ hnew_;(first|rw [← Ny130.out] at ho4|(simp only [Int.reduceToNat] at ho4;rw [← Ny130.out] at ho4));have n0_ := As_ (Kd.R_lower ho4 (bwZ HB.out));have n1_ := As_ (bwT HB.out hb);clear HB;have HO132 := n0_;have HB := n1_;clear n0_ n1_;clear hb ho4)|((with_reducible refine gate_builtin (b := .append) (xs := #[.tmp 5,.tmp 6]) rfl ?_);at_builtin;refine Kd.R_append_rows (Kd.int .i64) (w0 := w) w.heap.size rfl (.tmp 5) (.tmp 6) 37 3 (.int .i64 0) 8 rfl Try.underlying37 info3 rfl (by decide) (by omega) v131 y130 l0 _ _ _ (fun _ => True) (fun _ => False) rfl rfl ?aO ?aR (fun _ _ h => h) (fun _ h => h.elim) ?aF ?aB ?aS ?aL ?_;(case aR => exact (Kd.C_below HR0.out HB.out));(case aB => exact HB.out);(case aF => exact (fun _ _ => trivial));(case aO => exact HO132.out);(case aS => exact (bwZ HB.out));(case aL => have := LMc2.out;omega);intro v134 w5 ho hb hg hat;rw [hy1] at ho))
   go_ret
   exact ⟨_,rfl,ho,hb⟩
 ·rw [if_neg c2] at h
  cases h

/-! ### impl_copyNodes: function 79 -/
def impl_copyNodes.l0 : Nat → List (S45) → List (S45) → Int → Int → Option ((List (S45)))
 | 0,_,_,_,_ => none
 | k + 1,x3,x7,x8,x9 => if x9 < x8 then (if 0 ≤ x9 then (if x9 < (x7.length : Int) then ((slices_Clone_int_int.f ((rd_T45 x7 x9).f2)).bind fun t917 => (if x3.length < 3518437208883 then (impl_copyNodes.l0 k (x3 ++ [(⟨(rd_T45 x7 x9).f0,(rd_T45 x7 x9).f1,t917⟩ : S45)]) x7 x8 (wrap64 (x9 + 1))) else (none))) else (none)) else (none)) else (some x3)
def impl_copyNodes.f (k : Nat) (l0 : List (S45)) : Option ((List (S45))) := impl_copyNodes.l0 k (([] : List (S45))) l0 (l0.length : Int) 0
set_option maxRecDepth 100000 in
theorem impl_copyNodes.mono_l : ∀ k,(∀ y0 y1 y2 y3,LeO (impl_copyNodes.l0 k y0 y1 y2 y3) (impl_copyNodes.l0 (k + 1) y0 y1 y2 y3))
 | 0 => fun _ _ _ _ r h => (by cases h)
 | k + 1 => by
  have ih0 := impl_copyNodes.mono_l k
  ·intro y0 y1 y2 y3
   unfold impl_copyNodes.l0
   repeat' first
   | (with_reducible exact ih0 _ _ _ _)
   | (with_reducible exact LeO.refl _)
   | (with_reducible exact LeO.none _)
   | (with_reducible refine LeO.ite ?_ ?_)
   | (with_reducible refine LeO.bind ?_ (fun _ => ?_))
   | exact ih0 _ _ _ _
   | exact LeO.none _
   | refine LeO.ite ?_ ?_
   | refine LeO.bind ?_ (fun _ => ?_)
set_option maxRecDepth 100000 in
theorem impl_copyNodes.mono : ∀ a0 k,LeO (impl_copyNodes.f k a0) (impl_copyNodes.f (k + 1) a0) := by
 intro a0 k
 have ih0 := impl_copyNodes.mono_l k
 unfold impl_copyNodes.f
 repeat' first
   | (with_reducible exact ih0 _ _ _ _)
   | (with_reducible exact LeO.refl _)
   | (with_reducible exact LeO.none _)
   | (with_reducible refine LeO.ite ?_ ?_)
   | (with_reducible refine LeO.bind ?_ (fun _ => ?_))
   | exact ih0 _ _ _ _
   | exact LeO.none _
   | refine LeO.ite ?_ ?_
   | refine LeO.bind ?_ (fun _ => ?_)
def impl_copyNodes.T5 : Bool × List (List Nat × List Nat) := (true,[([],[]),([],[]),([1],[1]),([],[]),([3],[3]),([],[]),([5],[5]),([6],[6]),([2,4,7],[2,4,7]),([8],[8]),([0,9,7],[0,9]),([10,10,0,1,2,3,4,5,6,7,8,9,10],[0,10])])
def impl_copyNodes.B5 : List Nat := [0,0,2,0,8,0,32,96,254,510,1023,2047]
theorem impl_copyNodes.tab5 : rtab .any (opsOf Try.f79 5) = impl_copyNodes.T5 := by kernel_rfl
theorem impl_copyNodes.bits5 : waitsOk impl_copyNodes.T5.2 impl_copyNodes.B5 = true := by kernel_rfl
set_option maxHeartbeats 8000000 in
set_option maxRecDepth 100000 in
theorem impl_copyNodes.calls (k : Nat) (A0 : Option Addr) (c0 : Nat) (l0 : List (S45)) (r : List (S45)) (w : World) (hr0 : Kd.C k45 w A0 l0.length l0) (hc0 : l0.length ≤ c0) (h : impl_copyNodes.f k l0 = some r) :
  Calls Try.prog 79 #[.slice A0 l0.length c0] w fun e w' => ∃ v0_ : Value,e = .returned (v0_) ∧ Kd.S k45 45 w' w.heap.size (fun _ => True) v0_ r ∧ Below w.heap.size w w' := by
 have hu45 := Try.underlying45
 have HR0 := As_ hr0
 have HC0 := As_ hc0
 clear hr0 hc0
 have HB := As_ (Below.refl w.heap.size w)
 have H : (impl_copyNodes.l0 k (([] : List (S45))) l0 (l0.length : Int) 0) = some r := h
 clear h
 obtain ⟨y912,hy912⟩ : ∃ y_ : List (S45),y_ = (([] : List (S45))) := ⟨_,rfl⟩
 replace H : (impl_copyNodes.l0 k y912 l0 (l0.length : Int) 0) = some r := by first|(rw [hy912];with_reducible exact H)|(have H2_ := (Option.bind_some _ _).symm.trans H;rw [hy912];with_reducible exact H2_)|(have H2_ := (Option.bind_some _ _).symm.trans H;with_reducible exact H2_)|with_reducible exact H|(rw [hy912];exact H)|exact H
 have Ny912 := As_ hy912
 clear hy912
 have H' := As_ H
 clear H
 go_enter Try.func79,Try.ntmps79
 go_wp2_with (first|((with_reducible refine gate_dst (N := 6) rfl ?_);refine Kd.S_lit k45 _ 45 ?hg (N := 6) ?hd (xs := ([] : List (S45))) (inner := []) (ok := fun _ => True) (okp := fun _ => True) ?hr ?hp (fun _ hk => hk) trivial (Below.refl _ _) (Nat.le_refl _) (by simp) ?_;(case hd => rfl);(case hg => rfl);(case hr => go_simp <;> rfl);(case hp => exact (Reps.none _ _));intro v913 w2 ho3 hb hg_ hnew_;clear hg_ hnew_;(first|rw [← Ny912.out] at ho3|(simp only [Int.reduceToNat] at ho3;rw [← Ny912.out] at ho3));have n0_ := As_ (Kd.S_lower ho3 (bwZ (by repeat (first|(with_reducible first|exact HB.out|apply bwA|apply bwN|apply bwD)|exact HB.out))));have n1_ := As_ (bwT (by repeat (first|(with_reducible first|exact HB.out|apply bwA|apply bwN|apply bwD)|exact HB.out)) hb);clear HB;have HO914 := n0_;have HB := n1_;clear n0_ n1_;clear hb ho3))
 go_loopg [3,9] k (fun kq v3 v9 w' => ∃ (x3_1 : List (S45)) (x9_1 : Int),v9 = .int .i64 x9_1 ∧ Aside0 (impl_copyNodes.l0 kq x3_1 l0 (l0.length : Int) x9_1 = some r) ∧ Aside0 (kq ≤ k) ∧ Aside0 (Kd.S k45 45 w' w.heap.size (fun _ => True) v3 x3_1) ∧ Aside0 (Below w.heap.size w w'))
 case atStart => exact ⟨(y912),(0),(by first|rfl|(simp;done)|(simp [*];done)),H',⟨Nat.le_refl _⟩,⟨by (with_reducible repeat (first|apply Kd.S_alloc|apply Kd.S_drewN|apply Kd.S_drew));exact HO914.out⟩,⟨by repeat (first|(with_reducible first|exact HB.out|apply bwA|apply bwN|apply bwD)|exact HB.out)⟩⟩
 case round =>
  clear H'
  try clear p2
  obtain ⟨x3_1,x9_1,rfl,HA,HK1,HO_3,HB⟩ := hrel
  cases gk with
  | zero => exact absurd HA.out (fun h_ => (by cases h_))
  | succ k1 =>
   have H := HA.out
   clear HA
   simp only [impl_copyNodes.l0] at H
   by_cases c4 : x9_1 < (l0.length : Int)
   ·rw [if_pos c4] at H
    have c4b0 : decide (x9_1 < (l0.length : Int)) = true := deT c4
    clear c4
    by_cases c5 : 0 ≤ x9_1
    rotate_left
    ·rw [if_neg c5] at H
     exact absurd H (by simp)
    rw [if_pos c5] at H
    have c5b0 : decide (0 ≤ x9_1) = true := deT c5
    clear c5
    by_cases c6 : x9_1 < (l0.length : Int)
    rotate_left
    ·rw [if_neg c6] at H
     exact absurd H (by simp)
    rw [if_pos c6] at H
    have c6b0 : decide (x9_1 < (l0.length : Int)) = true := deT c6
    clear c6
    replace H := obS H
    obtain ⟨t917,A70,H⟩ := H
    replace H : (if x3_1.length < 3518437208883 then (impl_copyNodes.l0 k1 (x3_1 ++ [(⟨(rd_T45 l0 x9_1).f0,(rd_T45 l0 x9_1).f1,t917⟩ : S45)]) l0 (l0.length : Int) (wrap64 (x9_1 + 1))) else (none)) = some r := H
    have A7 := As_ A70
    clear A70
    by_cases c8 : x3_1.length < 3518437208883
    rotate_left
    ·rw [if_neg c8] at H
     exact absurd H (by simp)
    rw [if_pos c8] at H
    have LMc8 := As_ c8
    clear c8
    obtain ⟨y920,hy920⟩ : ∃ y_ : List (S45),y_ = (x3_1 ++ [(⟨(rd_T45 l0 x9_1).f0,(rd_T45 l0 x9_1).f1,t917⟩ : S45)]) := ⟨_,rfl⟩
    replace H : (impl_copyNodes.l0 k1 y920 l0 (l0.length : Int) (wrap64 (x9_1 + 1))) = some r := by first|(rw [hy920];with_reducible exact H)|(have H2_ := (Option.bind_some _ _).symm.trans H;rw [hy920];with_reducible exact H2_)|(have H2_ := (Option.bind_some _ _).symm.trans H;with_reducible exact H2_)|with_reducible exact H|(rw [hy920];exact H)|exact H
    have Ny920 := As_ hy920
    clear hy920
    have H' := As_ H
    clear H
    have p915 : 0 ≤ (x9_1 : Int) := odT (by first|(with_reducible assumption)|assumption)
    have q915 : x9_1 < (l0.length : Int) := odT (by first|(with_reducible assumption)|assumption)
    obtain ⟨ad915,A915_2,c915_2,e915,hx915_0,hx915_1,hx915_2,hl915_2,hi915_2⟩ := at_T45 HR0.out x9_1 p915 q915
    cases e915
    replace hx915_0 := (HB.out.cell (bwL w _ hx915_0)).trans hx915_0
    replace hx915_1 := (HB.out.cell (bwL w _ hx915_1)).trans hx915_1
    replace hx915_2 := (HB.out.cell (bwL w _ hx915_2)).trans hx915_2
    have HR915_2 := As_ hi915_2
    have HC915_2 := As_ hl915_2
    clear hi915_2 hl915_2
    replace p915 := eq_true p915
    replace q915 := eq_true q915
    try go_wp2_with (first|((with_reducible refine gate_dst (N := 5) rfl ?_);refine box_event ?hg (N := 5) ?hd (cs := #[.int .i64 0,.int .i64 0,.slice none 0 0]) (t := 45) ?hr ?_;(case hd => rfl);(case hg => rfl);(case hr => go_simp <;> rfl);intro gb916 hg w9 hbox hb;have n0_ := As_ (Kd.S_below (Kd.S_elderB (by (with_reducible repeat (first|apply Kd.S_alloc|apply Kd.S_drewN|apply Kd.S_drew));exact HO_3.out) gb916 (Nat.le_of_eq hg.symm)) hb);have n1_ := As_ (bwT (by repeat (first|(with_reducible first|exact HB.out|apply bwA|apply bwN|apply bwD)|exact HB.out)) hb);have n2_ := As_ (hbox);have n3_ := As_ ((by rw [hg];exact (bwZ (by repeat (first|(with_reducible first|exact HB.out|apply bwA|apply bwN|apply bwD)|exact HB.out))) : w.heap.size ≤ gb916));have n4_ := As_ ((by rw [hg];exact (bwZ (by repeat (first|(with_reducible first|exact HB.out|apply bwA|apply bwN|apply bwD)|exact HB.out))) : w.heap.size ≤ gb916));clear HO_3;clear HB;have HO_3 := n0_;have HB := n1_;have BK916 := n2_;have GW916 := n3_;have GE916 := n4_;clear n0_ n1_ n2_ n3_ n4_;clear hb hbox hg;have hcz10_0 : w9.cell? ⟨gb916,0,none⟩ = some (.int .i64 0) := (bkC BK916.out 0).trans rfl;have hcz10_1 : w9.cell? ⟨gb916,1,none⟩ = some (.int .i64 0) := (bkC BK916.out 1).trans rfl;have hcz10_2 : w9.cell? ⟨gb916,2,none⟩ = some (.slice none 0 0) := (bkC BK916.out 2).trans rfl;have hfz10_0 := bkF BK916.out 0;have hfz10_1 := bkF BK916.out 1;have hfz10_2 := bkF BK916.out 2))
    have n0_ : Aside0 (Kd.S k45 45 (((w9.setCell ⟨gb916,0,none⟩ (.int .i64 ((rd_T45 l0 x9_1).f0))).setCell ⟨gb916,1,none⟩ (.int .i64 ((rd_T45 l0 x9_1).f1))).setCell ⟨gb916,2,none⟩ (.slice A915_2 ((rd_T45 l0 x9_1).f2).length c915_2)) w.heap.size (fun k_ => k_ ≠ gb916) u3 x3_1) := ⟨by (with_reducible repeat (first|apply Kd.S_alloc|apply Kd.S_drewN|apply Kd.S_drew));exact Kd.S_mono (Kd.S_far (p := ⟨gb916,2,none⟩) (Kd.S_far (p := ⟨gb916,1,none⟩) (Kd.S_far (p := ⟨gb916,0,none⟩) (Kd.S_mono HO_3.out (fun k_ hk => (⟨hk,hk.2⟩ : _ ∧ k_ ≠ gb916))) (fun _ hk => hk.2) (.int .i64 ((rd_T45 l0 x9_1).f0))) (fun _ hk => hk.2) (.int .i64 ((rd_T45 l0 x9_1).f1))) (fun _ hk => hk.2) (.slice A915_2 ((rd_T45 l0 x9_1).f2).length c915_2)) (fun _ hk => hk.1.2)⟩
    have n1_ : Aside0 ((((w9.setCell ⟨gb916,0,none⟩ (.int .i64 ((rd_T45 l0 x9_1).f0))).setCell ⟨gb916,1,none⟩ (.int .i64 ((rd_T45 l0 x9_1).f1))).setCell ⟨gb916,2,none⟩ (.slice A915_2 ((rd_T45 l0 x9_1).f2).length c915_2)).heap[gb916]? = some (.cells #[.int .i64 ((rd_T45 l0 x9_1).f0),.int .i64 ((rd_T45 l0 x9_1).f1),.slice A915_2 ((rd_T45 l0 x9_1).f2).length c915_2] 45 (0,0))) := ⟨by (with_reducible repeat (first|refine bkN ?_ _|refine bkD ?_|refine bkA ?_ _));refine blk_put (cs := #[.int .i64 ((rd_T45 l0 x9_1).f0),.int .i64 ((rd_T45 l0 x9_1).f1),.slice none 0 0]) ?_ 2 _ rfl;(with_reducible repeat (first|refine bkN ?_ _|refine bkD ?_|refine bkA ?_ _));refine blk_put (cs := #[.int .i64 ((rd_T45 l0 x9_1).f0),.int .i64 0,.slice none 0 0]) ?_ 1 _ rfl;(with_reducible repeat (first|refine bkN ?_ _|refine bkD ?_|refine bkA ?_ _));refine blk_put (cs := #[.int .i64 0,.int .i64 0,.slice none 0 0]) ?_ 0 _ rfl;(with_reducible repeat (first|refine bkN ?_ _|refine bkD ?_|refine bkA ?_ _));exact BK916.out⟩
    have n2_ : Aside0 (Below w.heap.size w (((w9.setCell ⟨gb916,0,none⟩ (.int .i64 ((rd_T45 l0 x9_1).f0))).setCell ⟨gb916,1,none⟩ (.int .i64 ((rd_T45 l0 x9_1).f1))).setCell ⟨gb916,2,none⟩ (.slice A915_2 ((rd_T45 l0 x9_1).f2).length c915_2))) := ⟨by repeat (first|(with_reducible first|exact HB.out|apply bwA|apply bwN|apply bwD|refine bwS ?_ GE916.out)|exact HB.out)⟩
    (try clear HO_3)
    (try clear BK916)
    (try clear HB)
    generalize (((w9.setCell ⟨gb916,0,none⟩ (.int .i64 ((rd_T45 l0 x9_1).f0))).setCell ⟨gb916,1,none⟩ (.int .i64 ((rd_T45 l0 x9_1).f1))).setCell ⟨gb916,2,none⟩ (.slice A915_2 ((rd_T45 l0 x9_1).f2).length c915_2)) = w11 at n0_ n1_ n2_ ⊢
    have HO_3 := n0_
    have BK916 := n1_
    have HB := n2_
    clear n0_ n1_ n2_
    have n0_ := As_ (Kd.S_drew HO_3.out)
    have n1_ := As_ (bkD BK916.out)
    have n2_ := As_ (bwD HB.out)
    clear HO_3
    clear BK916
    clear HB
    have HO_3 := n0_
    have BK916 := n1_
    have HB := n2_
    clear n0_ n1_ n2_
    refine start_ (n := 12) (S := fun w' => w'.cell? ⟨gb916,0,none⟩ = some (.int .i64 ((rd_T45 l0 x9_1).f0)) ∧ w'.cell? ⟨gb916,1,none⟩ = some (.int .i64 ((rd_T45 l0 x9_1).f1)) ∧ w'.cell? ⟨gb916,2,none⟩ = some (.slice A915_2 ((rd_T45 l0 x9_1).f2).length c915_2)) (ds := []) (bl_ 0 12) (by kernel_rfl) rfl rfl ⟨(bkC BK916.out 0).trans rfl,(bkC BK916.out 1).trans rfl,(bkC BK916.out 2).trans rfl⟩ (fun hHeld => ?_);refine with_tabW impl_copyNodes.tab5 impl_copyNodes.bits5 (fun HT_ HW_ => ?_)
    generalize w11.drew = w12 at HO_3 BK916 HB hHeld ⊢
    refine pP 0 13 (bl_ 1 12) ?_ HT_ rfl rfl (by kernel_rfl) (fun _ _ _ h => h) (.inl ⟨by rfl,?_⟩) ?_ ?_ ?_;rotate_left;(intro w';go_simp;with_reducible rfl);rotate_left;(simp only [Act.put,sq_,i64_w,i32_w];rfl)
    refine pP 1 14 (bl_ 3 12) ?_ HT_ rfl rfl (by kernel_rfl) (fun _ _ _ h => h) (.inl ⟨by rfl,?_⟩) ?_ ?_ ?_;rotate_left;(intro w';go_simp;with_reducible rfl);rotate_left;(simp only [Act.put,sq_,i64_w,i32_w];rfl)
    refine pP 3 16 (bl_ 11 12) ?_ HT_ rfl rfl (by kernel_rfl) (fun _ _ _ h => h) (.inl ⟨by rfl,?_⟩) ?_ ?_ ?_;rotate_left;(intro w';go_simp;with_reducible rfl);rotate_left;(simp only [Act.put,sq_,i64_w,i32_w];rfl)
    refine pP 5 18 (bl_ 43 12) ?_ HT_ rfl rfl (by kernel_rfl) (fun _ _ _ h => h) (.inl ⟨by rfl,?_⟩) ?_ ?_ ?_;rotate_left;(intro w';go_simp;with_reducible rfl);rotate_left;(simp only [Act.put,sq_,i64_w,i32_w];rfl)
    refine tP 2 15 (bl_ 47 12) ?_ HT_ HW_ rfl rfl (by kernel_rfl) (fun _ _ _ h => h) (.inl ⟨by rfl,?_⟩) hHeld ?_ ?_ ?_;rotate_left;(rintro w' ⟨s0,s1,s2⟩;go_simp;with_reducible rfl);rotate_left;(simp only [Act.put,sq_,i64_w,i32_w];rfl)
    refine tP 4 17 (bl_ 63 12) ?_ HT_ HW_ rfl rfl (by kernel_rfl) (fun _ _ _ h => h) (.inl ⟨by rfl,?_⟩) hHeld ?_ ?_ ?_;rotate_left;(rintro w' ⟨s0,s1,s2⟩;go_simp;with_reducible rfl);rotate_left;(simp only [Act.put,sq_,i64_w,i32_w];rfl)
    refine tP 6 19 (bl_ 127 12) ?_ HT_ HW_ rfl rfl (by kernel_rfl) (fun _ _ _ h => h) (.inl ⟨by rfl,?_⟩) hHeld ?_ ?_ ?_;rotate_left;(rintro w' ⟨s0,s1,s2⟩;go_simp;with_reducible rfl);rotate_left;(simp only [Act.put,sq_,i64_w,i32_w];rfl)
    refine one_ (i := 7) (N := some 20) (bl_ 255 12) rfl rfl (one_of HT_.out (by kernel_rfl)) (by decide) (fun K hK => ?_)
    refine goes_ Try.func98 (by kernel_rfl) rfl #[.slice A915_2 ((rd_T45 l0 x9_1).f2).length c915_2] (by rfl) rfl rfl (by (try simp only [List.map_toArray,List.map_cons,List.map_nil]);first|done|rfl|(simp only [List.length_drop,List.length_take];rfl)) ?_
    with_reducible refine (slices_Clone_int_int.calls _ _ ((rd_T45 l0 x9_1).f2) t917 _ ?side1 ?side2 A7.out).mono ?_
    (case side1 => repeat (first|exact (Kd.C_below HR915_2.out HB.out)|(with_reducible refine Kd.C_alloc ?_ _)|(with_reducible refine Kd.C_drewN ?_ _)|(with_reducible refine Kd.C_drew ?_)))
    (case side2 => exact HC915_2.out)
    rintro e w13 ⟨v918,rfl,ho0,hb⟩
    refine ⟨_,rfl,?_⟩
    have n0_ := As_ (Kd.S_elder' (by (with_reducible repeat (first|apply Kd.S_alloc|apply Kd.S_drewN|apply Kd.S_drew));exact HO_3.out) (Kd.R_base ho0) hb)
    have n1_ := As_ (Kd.R_lower ho0 (bwZ (by repeat (first|(with_reducible first|exact HB.out|apply bwA|apply bwN|apply bwD|refine bwS ?_ GE916.out)|exact HB.out))))
    have n2_ := As_ (blk_below (g := gb916) (o := .cells #[.int .i64 ((rd_T45 l0 x9_1).f0),.int .i64 ((rd_T45 l0 x9_1).f1),.slice A915_2 ((rd_T45 l0 x9_1).f2).length c915_2] 45 (0,0)) (by (with_reducible repeat (first|refine bkN ?_ _|refine bkD ?_|refine bkA ?_ _));exact BK916.out) hb)
    have n3_ := As_ (bwT (by repeat (first|(with_reducible first|exact HB.out|apply bwA|apply bwN|apply bwD|refine bwS ?_ GE916.out)|exact HB.out)) hb)
    clear HO_3
    clear BK916
    clear HB
    have HO_3 := n0_
    have HO919 := n1_
    have BK916 := n2_
    have HB := n3_
    clear n0_ n1_ n2_ n3_
    (try clear hb)
    (try clear hb2)
    (try clear hk)
    (try clear hi)
    (try clear ho0)
    obtain ⟨Ao14,co14,eo14⟩ := Kd.R_slice HO919.out
    (first|subst eo14|(injection eo14 with f1_ f2_ f3_;have f4_ := f1_.symm;have f5_ := f3_.symm;clear f1_ f2_ f3_;subst f4_;subst f5_))
    refine hK.out _ _ ⟨(bkC BK916.out 0).trans rfl,(bkC BK916.out 1).trans rfl,(bkC BK916.out 2).trans rfl⟩ (fun hHeld => ?_)
    clear hK K
    refine norm_ (a' := ?_) ?_ ?_
    rotate_left
    ·show Act.put _ (some 20) _ = _
     simp only [Act.put,sq_,i64_w,i32_w]
     rfl
    refine pP 8 21 (bl_ 511 12) ?_ HT_ rfl rfl (by kernel_rfl) (fun _ _ _ h => h) (.inl ⟨by rfl,?_⟩) ?_ ?_ ?_;rotate_left;(intro w';go_simp;with_reducible rfl);rotate_left;(simp only [Act.put,sq_,i64_w,i32_w];rfl)
    refine one_ (i := 9) (N := some 22) (bl_ 1023 12) rfl rfl (one_of HT_.out (by kernel_rfl)) (by decide) (fun K hK => ?_)
    refine value_ (w1 := ?_) (v := ?_) (by rfl) rfl ?_ ?_
    rotate_left 2
    ·go_simp
     constructor
     ·rfl
     ·rfl
    refine hK.out _ _ ⟨(bkC (bkA BK916.out _) 0).trans rfl,(bkC (bkA BK916.out _) 1).trans rfl,(bkC (bkA BK916.out _) 2).trans rfl⟩ (fun hHeld => ?_)
    clear hK K
    refine norm_ (a' := ?_) ?_ ?_
    rotate_left
    ·show Act.put _ (some 22) _ = _
     simp only [Act.put,sq_,i64_w,i32_w]
     rfl
    refine one_ (i := 10) (N := some 23) (bl_ 2047 12) rfl rfl (one_of HT_.out (by kernel_rfl)) (by decide) (fun K hK => ?_)
    refine Kd.S_append_step k45 (w0 := w) w.heap.size (by rfl) (.tmp 13) (.tmp 22) 27 45 (.agg #[(.int .i64 0),(.int .i64 0),(.slice none 0 0)]) 40 rfl Try.underlying27 info45 rfl (by decide) (by omega) u3 x3_1 (⟨(rd_T45 l0 x9_1).f0,(rd_T45 l0 x9_1).f1,t917⟩ : S45) [.int .i64 ((rd_T45 l0 x9_1).f0),.int .i64 ((rd_T45 l0 x9_1).f1),.slice Ao14 t917.length co14] (fun k_ => k_ ≠ gb916) (fun k_ => some k_ = (.slice Ao14 t917.length co14 : Value).ownBlock) rfl rfl ?aP (fun k_ hk_ => ((Kd.R_mono (ok' := fun k_ => ((fun k_ => k_ ≠ gb916)) k_ ∧ some k_ ≠ (u3 : Value).ownBlock) (Kd.R_types (Kd.R_apart' (HO919.out) (Kd.S_typed HO_3.out) (by decide)) BK916.out (by decide)) (fun k_ hk => ⟨hk.2,hk.1.2⟩))).1 k_ hk_.symm) ?aF ?aO ?aB ?aS ?aL ?_
    (case aP => exact k45_mkM _ _ _ (⟨(rd_T45 l0 x9_1).f0,(rd_T45 l0 x9_1).f1,t917⟩ : S45) (Kd.R_mono (Kd.R_tight rfl (Kd.R_mono (ok' := fun k_ => ((fun k_ => k_ ≠ gb916)) k_ ∧ some k_ ≠ (u3 : Value).ownBlock) (Kd.R_types (Kd.R_apart' (HO919.out) (Kd.S_typed HO_3.out) (by decide)) BK916.out (by decide)) (fun k_ hk => ⟨hk.2,hk.1.2⟩))) (fun _ h_ => h_)))
    (case aB => exact (by repeat (first|(with_reducible first|exact HB.out|apply bwA|apply bwN|apply bwD|refine bwS ?_ GE916.out)|exact HB.out)))
    (case aF => exact (fun k_ hk => Kd.freshB (g := gb916) (o := .cells #[.int .i64 ((rd_T45 l0 x9_1).f0),.int .i64 ((rd_T45 l0 x9_1).f1),.slice A915_2 ((rd_T45 l0 x9_1).f2).length c915_2] 45 (0,0)) (by (with_reducible repeat (first|refine bkN ?_ _|refine bkD ?_|refine bkA ?_ _));exact BK916.out) k_ hk))
    (case aO => exact (by (with_reducible repeat (first|apply Kd.S_alloc|apply Kd.S_drewN|apply Kd.S_drew));exact Kd.S_mono HO_3.out (fun k_ hk => ⟨hk.1,fun e_ => hk.2 e_⟩)))
    (case aS => exact (bwZ (by repeat (first|(with_reducible first|exact HB.out|apply bwA|apply bwN|apply bwD|refine bwS ?_ GE916.out)|exact HB.out))))
    (case aL => have := LMc8.out;omega)
    intro v921 w15 ho hb hg hat
    rw [← Ny920.out] at ho
    have n0_ := As_ (blk_grown (g := gb916) (o := .cells #[.int .i64 ((rd_T45 l0 x9_1).f0),.int .i64 ((rd_T45 l0 x9_1).f1),.slice A915_2 ((rd_T45 l0 x9_1).f2).length c915_2] 45 (0,0)) (by (with_reducible repeat (first|refine bkN ?_ _|refine bkD ?_|refine bkA ?_ _));exact BK916.out) hg (Kd.S_away HO_3.out (fun _ hk => hk.1)))
    have n1_ := As_ (hb)
    have n2_ := As_ (ho)
    clear BK916
    clear HB
    clear HO_3
    clear HO919
    have BK916 := n0_
    have HB := n1_
    have HO922 := n2_
    clear n0_ n1_ n2_
    clear ho hb hg hat
    refine hK.out _ _ ⟨(bkC BK916.out 0).trans rfl,(bkC BK916.out 1).trans rfl,(bkC BK916.out 2).trans rfl⟩ (fun hHeld => ?_)
    clear hK K
    refine norm_ (a' := ?_) ?_ ?_
    rotate_left
    ·show Act.put _ (some 23) _ = _
     simp only [Act.put,sq_,i64_w,i32_w]
     rfl
    refine pP 11 3 (bl_ 4095 12) ?_ HT_ rfl rfl (by kernel_rfl) (fun _ _ _ h => h) (.inl ⟨by rfl,?_⟩) ?_ ?_ ?_;rotate_left;(intro w';go_simp;with_reducible rfl);rotate_left;(simp only [Act.put,sq_,i64_w,i32_w];rfl)
    refine done_ (done_of HT_.out (by kernel_rfl)) ?_
    try go_wp2
    go_roundg k1
    case measure => have := HK1.out;omega
    case rel => exact ⟨(y920),(wrap64 (x9_1 + 1)),(by first|rfl|(simp;done)|(simp [*];done)),H',⟨by have := HK1.out;omega⟩,⟨by (with_reducible repeat (first|apply Kd.S_alloc|apply Kd.S_drewN|apply Kd.S_drew));exact Kd.S_mono HO922.out (fun _ hk => trivial)⟩,⟨by repeat (first|(with_reducible first|exact HB.out|apply bwA|apply bwN|apply bwD|refine bwS ?_ GE916.out)|exact HB.out)⟩⟩
   ·rw [if_neg c4] at H
    have c4b0 : decide (x9_1 < (l0.length : Int)) = false := deF c4
    clear c4
    obtain rfl := Option.some.inj H
    go_wp2
    go_ret
    exact ⟨_,by first|rfl|(simp [errW_none,errW_some] <;> rfl)|(simp [*,errW_none,errW_some] <;> rfl),by (with_reducible repeat (first|apply Kd.S_alloc|apply Kd.S_drewN|apply Kd.S_drew));exact HO_3.out,by repeat (first|(with_reducible first|exact HB.out|apply bwA|apply bwN|apply bwD)|exact HB.out)⟩

end Go.Proofs.Ytfhakhbmbnbneaa.Q
