-- Written by wip/tools/qprint.py (a program of this claim's author) by means of the kit's printer.
import Derived.Test.YtfhakhbmbnbneaaQ0
import Derived.Test.YtfhakhbmbnbneaaQ29
import Derived.Test.YtfhakhbmbnbneaaQ77
import Derived.Test.YtfhakhbmbnbneaaQ98
namespace Go.Proofs.Ytfhakhbmbnbneaa.Q
open Go.RowKit Go.Proofs.YtfhakhbmbnbneaaW.PrintWords Go.Proofs.YtfhakhbmbnbneaaW.PrintLast Go.Proofs.YtfhakhbmbnbneaaW.PrintMore
attribute [local go_sem] max2_int min2_int max_two min_two max_three min_three max_four min_four   -- for this text's walks alone
set_option linter.unusedVariables false
set_option linter.unusedSimpArgs false

/-! ### impl_ShallowCopy: function 46 -/
def impl_ShallowCopy.j0 : Nat → Bool → List (S45) → Int → Option ((List (S45)) × Int)
 | 0,_,_,_ => none
 | k + 1,x12,x903000,x903001 => if x12 = true then (some (([] : List (S45)),0)) else (if 0 ≤ x903001 then (if x903001 < (x903000.length : Int) then ((impl_Node.f x903000).bind fun t907 => ((some (([(⟨(rd_T45 x903000 x903001).f0,(rd_T45 x903000 x903001).f1,(rd_T45 x903000 x903001).f2⟩ : S45)] : List (S45)) : List (S45))).bind fun y910 => (if t907.length + y910.length < 3518437208883 then ((impl_copyNodes.f k (t907 ++ y910)).bind fun t916 => (some (t916,(x903000.length : Int)))) else (none)))) else (none)) else (none))
def impl_ShallowCopy.f (k : Nat) (l0_0 : List (S45)) (a0_1 : Int) : Option ((List (S45)) × Int) := (impl_ValidGraph.f k l0_0 a0_1).bind fun t904 => (if t904 = true then (impl_ShallowCopy.j0 k ((l0_0.length : Int) == 12) l0_0 a0_1) else (impl_ShallowCopy.j0 k true l0_0 a0_1))
theorem impl_ShallowCopy.mono_l : ∀ k,(∀ y0 y1 y2,LeO (impl_ShallowCopy.j0 k y0 y1 y2) (impl_ShallowCopy.j0 (k + 1) y0 y1 y2))
 | 0 => fun _ _ _ r h => by simp [impl_ShallowCopy.j0] at h
 | k + 1 => by
  have ih0 := impl_ShallowCopy.mono_l k
  ·intro y0 y1 y2
   unfold impl_ShallowCopy.j0
   repeat' first
   | (with_reducible exact ih0 _ _ _)
   | (with_reducible exact impl_ValidGraph.mono _ _ _)
   | (with_reducible exact impl_copyNodes.mono _ _)
   | (with_reducible exact LeO.refl _)
   | (with_reducible exact LeO.none _)
   | (with_reducible refine LeO.ite ?_ ?_)
   | (with_reducible refine LeO.bind ?_ (fun _ => ?_))
   | exact ih0 _ _ _
   | exact impl_ValidGraph.mono _ _ _
   | exact impl_copyNodes.mono _ _
   | exact LeO.none _
   | refine LeO.ite ?_ ?_
   | refine LeO.bind ?_ (fun _ => ?_)
theorem impl_ShallowCopy.mono : ∀ a0 a1 k,LeO (impl_ShallowCopy.f k a0 a1) (impl_ShallowCopy.f (k + 1) a0 a1) := by
 intro a0 a1 k
 have ih0 := impl_ShallowCopy.mono_l k
 unfold impl_ShallowCopy.f
 repeat' first
   | (with_reducible exact ih0 _ _ _)
   | (with_reducible exact impl_ValidGraph.mono _ _ _)
   | (with_reducible exact impl_copyNodes.mono _ _)
   | (with_reducible exact LeO.refl _)
   | (with_reducible exact LeO.none _)
   | (with_reducible refine LeO.ite ?_ ?_)
   | (with_reducible refine LeO.bind ?_ (fun _ => ?_))
   | exact ih0 _ _ _
   | exact impl_ValidGraph.mono _ _ _
   | exact impl_copyNodes.mono _ _
   | exact LeO.none _
   | refine LeO.ite ?_ ?_
   | refine LeO.bind ?_ (fun _ => ?_)
def impl_ShallowCopy.T4 : Bool × List (List Nat × List Nat) := (true,[([],[]),([0],[0]),([1],[1]),([],[]),([3],[3]),([2,4,2],[2,4]),([5,5],[5]),([],[]),([7],[7]),([8],[8]),([6,9],[6,9]),([10,6,0,1,2,3,4,5,6,7,8,9,10],[10])])
def impl_ShallowCopy.B4 : List Nat := [0,1,3,0,8,31,63,0,128,384,1023,2047]
theorem impl_ShallowCopy.tab4 : rtab .any (opsOf Try.f46 4) = impl_ShallowCopy.T4 := by kernel_rfl
theorem impl_ShallowCopy.bits4 : waitsOk impl_ShallowCopy.T4.2 impl_ShallowCopy.B4 = true := by kernel_rfl
set_option maxHeartbeats 8000000 in
set_option maxRecDepth 100000 in
theorem impl_ShallowCopy.callsV (k : Nat) (P0_0_ : Nat → Prop) (A0_0 : Option Addr) (c0_0 : Nat) (l0_0 : List (S45)) (a0_1 : Int) (r1 : List (S45)) (r2 : Int) (w : World) (hs0_0 : Kd.V k45 45 w w.heap.size (fun k_ => P0_0_ k_) (.slice A0_0 l0_0.length c0_0) l0_0) (h : impl_ShallowCopy.f k l0_0 a0_1 = some (r1,r2)) :
  Calls Try.prog 46 #[.agg #[.slice A0_0 l0_0.length c0_0,.int .i64 a0_1]] w fun e w' => ∃ v0_ : Value,e = .returned (.agg #[v0_,.int .i64 r2]) ∧ Kd.S k45 45 w' w.heap.size (fun k_ => (P0_0_ k_ ∨ w.heap.size ≤ k_)) v0_ r1 ∧ Below w.heap.size w w' := by
 have hu29 := Try.underlying29
 have hu45 := Try.underlying45
 have HO0_0 := As_ (show Kd.V k45 45 w w.heap.size (fun k_ => (P0_0_ k_ ∨ w.heap.size ≤ k_)) (.slice A0_0 l0_0.length c0_0) l0_0 from Kd.V_mono hs0_0 (fun k_ hk => .inl hk))
 have HB := As_ (Below.refl w.heap.size w)
 have H : ((impl_ValidGraph.f k l0_0 a0_1).bind fun t904 => (if t904 = true then (impl_ShallowCopy.j0 k ((l0_0.length : Int) == 12) l0_0 a0_1) else (impl_ShallowCopy.j0 k true l0_0 a0_1))) = some (r1,r2) := h
 clear h
 have HC2 := As_ H
 clear H
 go_enter Try.func46,Try.ntmps46
 go_upto_region 1 with (first|((with_reducible refine gate_dst (N := 1) rfl ?_);(try (refine gate_guard (by rfl) ?_;dsimp only));refine box_event ?hg (N := 1) ?hd (cs := #[.slice A0_0 l0_0.length c0_0,.int .i64 a0_1]) (t := 29) ?hr ?_;(case hd => rfl);(case hg => rfl);(case hr => go_simp <;> rfl);intro gb902 hg w3 hbox hb;have n0_ := As_ (Kd.V_below (Kd.V_elderB (by (with_reducible repeat (first|apply Kd.V_alloc|apply Kd.V_drewN|apply Kd.V_drew));exact HO0_0.out) gb902 (Nat.le_of_eq hg.symm)) hb);have n1_ := As_ (bwT (by repeat (first|(with_reducible first|exact HB.out|apply bwA|apply bwN|apply bwD)|exact HB.out)) hb);have n2_ := As_ (hbox);have n3_ := As_ ((by rw [hg];exact (bwZ (by repeat (first|(with_reducible first|exact HB.out|apply bwA|apply bwN|apply bwD)|exact HB.out))) : w.heap.size ≤ gb902));have n4_ := As_ ((by rw [hg];exact (bwZ (by repeat (first|(with_reducible first|exact HB.out|apply bwA|apply bwN|apply bwD)|exact HB.out))) : w.heap.size ≤ gb902));clear HO0_0;clear HB;have HO0_0 := n0_;have HB := n1_;have BK902 := n2_;have GW902 := n3_;have GE902 := n4_;clear n0_ n1_ n2_ n3_ n4_;clear hb hbox hg)|((with_reducible refine gate_dst (N := 2) rfl ?_);(try (refine gate_guard (by rfl) ?_;dsimp only));refine box_event ?hg (N := 2) ?hd (cs := #[.slice none 0 0,.int .i64 0]) (t := 29) ?hr ?_;(case hd => rfl);(case hg => rfl);(case hr => go_simp <;> rfl);intro gb903 hg w4 hbox hb;have n0_ := As_ (Kd.V_below (Kd.V_elderB (by (with_reducible repeat (first|apply Kd.V_alloc|apply Kd.V_drewN|apply Kd.V_drew));exact HO0_0.out) gb903 (Nat.le_of_eq hg.symm)) hb);have n1_ := As_ (blk_below (g := gb902) (o := .cells #[.slice A0_0 l0_0.length c0_0,.int .i64 a0_1] 29 (0,0)) (by (with_reducible repeat (first|refine bkN ?_ _|refine bkD ?_|refine bkA ?_ _));exact BK902.out) hb);have n2_ := As_ (bwT (by repeat (first|(with_reducible first|exact HB.out|apply bwA|apply bwN|apply bwD|refine bwS ?_ GE902.out)|exact HB.out)) hb);have n3_ := As_ (hbox);have n4_ := As_ ((by rw [hg];exact (bwZ (by repeat (first|(with_reducible first|exact HB.out|apply bwA|apply bwN|apply bwD|refine bwS ?_ GE902.out)|exact HB.out))) : w.heap.size ≤ gb903));have n5_ := As_ ((by rw [hg];exact (bwZ (by repeat (first|(with_reducible first|exact HB.out|apply bwA|apply bwN|apply bwD|refine bwS ?_ GE902.out)|exact HB.out))) : w.heap.size ≤ gb903));have n6_ := As_ ((by rw [hg];exact Nat.ne_of_lt (blk_lt (g := gb902) (o := .cells #[.slice A0_0 l0_0.length c0_0,.int .i64 a0_1] 29 (0,0)) (by (with_reducible repeat (first|refine bkN ?_ _|refine bkD ?_|refine bkA ?_ _));exact BK902.out)) : gb902 ≠ gb903));have n7_ := As_ ((by rw [hg];exact Nat.ne_of_gt (blk_lt (g := gb902) (o := .cells #[.slice A0_0 l0_0.length c0_0,.int .i64 a0_1] 29 (0,0)) (by (with_reducible repeat (first|refine bkN ?_ _|refine bkD ?_|refine bkA ?_ _));exact BK902.out)) : gb903 ≠ gb902));clear HO0_0;clear BK902;clear HB;have HO0_0 := n0_;have BK902 := n1_;have HB := n2_;have BK903 := n3_;have GW903 := n4_;have GE903 := n5_;have NB902_903 := n6_;have NB903_902 := n7_;clear n0_ n1_ n2_ n3_ n4_ n5_ n6_ n7_;clear hb hbox hg))
 (try simp only [Act.put,List.setIfInBounds_toArray,List.set_cons_zero,List.set_cons_succ])
 go_cut [12] (fun v12 wc => ∃ (kq : Nat) (x12_1 : Bool),v12 = .bool x12_1 ∧ Aside0 (impl_ShallowCopy.j0 kq x12_1 l0_0 a0_1 = some (r1,r2)) ∧ Aside0 (kq ≤ k) ∧ Aside0 (Kd.V k45 45 wc w.heap.size (fun k_ => (P0_0_ k_ ∨ w.heap.size ≤ k_) ∧ k_ ≠ gb902 ∧ k_ ≠ gb903) (.slice A0_0 l0_0.length c0_0) l0_0) ∧ Aside0 (wc.heap[gb902]? = some (.cells #[(.slice A0_0 l0_0.length c0_0),.int .i64 a0_1] 29 (0,0))) ∧ Aside0 (wc.heap[gb903]? = some (.cells #[(.slice none 0 0),.int .i64 0] 29 (0,0))) ∧ Aside0 (Below w.heap.size w wc))
 case first =>
  have H := HC2.out
  clear HC2
  replace H := obS H
  obtain ⟨t904,A50,H⟩ := H
  replace H : (if t904 = true then (impl_ShallowCopy.j0 k ((l0_0.length : Int) == 12) l0_0 a0_1) else (impl_ShallowCopy.j0 k true l0_0 a0_1)) = some (r1,r2) := H
  have A5 := As_ A50
  clear A50
  by_cases c6 : t904 = true
  ·subst c6
   have H1 : (impl_ShallowCopy.j0 k ((l0_0.length : Int) == 12) l0_0 a0_1) = some (r1,r2) := by rw [if_pos rfl] at H;exact H
   clear H
   have H := H1
   clear H1
   have H' := As_ H
   clear H
   have hnb7 := NB902_903.out
   have hnc7 := NB903_902.out
   have hcz8_0 : w4.cell? ⟨gb902,0,none⟩ = some (.slice A0_0 l0_0.length c0_0) := (bkC BK902.out 0).trans rfl
   have hcz8_1 : w4.cell? ⟨gb902,1,none⟩ = some (.int .i64 a0_1) := (bkC BK902.out 1).trans rfl
   have hfz8_0 := bkF BK902.out 0
   have hfz8_1 := bkF BK902.out 1
   go_wp2_with (first|((with_reducible refine gate_callee (f := 29) rfl ?_);refine goesL_ (some 5) rfl rfl Try.func29 (by kernel_rfl) rfl #[.agg #[.slice A0_0 l0_0.length c0_0,.int .i64 a0_1]] rfl (by (try simp only [List.map_toArray,List.map_cons,List.map_nil]);first|done|rfl|(simp only [List.length_drop,List.length_take];rfl)) ?_;(with_reducible refine (impl_ValidGraph.calls k _ _ l0_0 a0_1 true _ ?side1 ?side2 A5.out).mono ?_);(case side1 => repeat (first|exact (Kd.V_reads' HO0_0.out).2.2|(with_reducible refine Kd.C_alloc ?_ _)|(with_reducible refine Kd.C_drewN ?_ _)|(with_reducible refine Kd.C_drew ?_)));(case side2 => exact (Kd.V_reads' HO0_0.out).2.1);rintro e w9 ⟨rfl,hb⟩;refine ⟨_,rfl,?_⟩;have n0_ := As_ (Kd.V_below (by (with_reducible repeat (first|apply Kd.V_alloc|apply Kd.V_drewN|apply Kd.V_drew));exact HO0_0.out) hb);have n1_ := As_ (blk_below (g := gb902) (o := .cells #[.slice A0_0 l0_0.length c0_0,.int .i64 a0_1] 29 (0,0)) (by (with_reducible repeat (first|refine bkN ?_ _|refine bkD ?_|refine bkA ?_ _));exact BK902.out) hb);have n2_ := As_ (blk_below (g := gb903) (o := .cells #[.slice none 0 0,.int .i64 0] 29 (0,0)) (by (with_reducible repeat (first|refine bkN ?_ _|refine bkD ?_|refine bkA ?_ _));exact BK903.out) hb);have n3_ := As_ (bwT (by repeat (first|(with_reducible first|exact HB.out|apply bwA|apply bwN|apply bwD|refine bwS ?_ GE902.out|refine bwS ?_ GE903.out)|exact HB.out)) hb);clear HO0_0;clear BK902;clear BK903;clear HB;have HO0_0 := n0_;have BK902 := n1_;have BK903 := n2_;have HB := n3_;clear n0_ n1_ n2_ n3_;(try clear hb);(try clear hb2);(try clear hk);(try clear hi);have hcz10_0 : w9.cell? ⟨gb902,0,none⟩ = some (.slice A0_0 l0_0.length c0_0) := (bkC BK902.out 0).trans rfl;have hcz10_1 : w9.cell? ⟨gb902,1,none⟩ = some (.int .i64 a0_1) := (bkC BK902.out 1).trans rfl;have hfz10_0 := bkF BK902.out 0;have hfz10_1 := bkF BK902.out 1))
   go_meet
   case rel => exact ⟨_,(((l0_0.length : Int) == 12)),(by first|rfl|(simp;done)|(simp [*];done)),H',⟨by first|omega|exact Nat.le_refl _⟩,⟨by (with_reducible repeat (first|apply Kd.V_alloc|apply Kd.V_drewN|apply Kd.V_drew));exact Kd.V_mono HO0_0.out (fun _ hk => ⟨hk.1.1,⟨hk.1.2,hk.2⟩⟩)⟩,⟨by (with_reducible repeat (first|refine bkN ?_ _|refine bkD ?_|refine bkA ?_ _));exact BK902.out⟩,⟨by (with_reducible repeat (first|refine bkN ?_ _|refine bkD ?_|refine bkA ?_ _));exact BK903.out⟩,⟨by repeat (first|(with_reducible first|exact HB.out|apply bwA|apply bwN|apply bwD|refine bwS ?_ GE902.out|refine bwS ?_ GE903.out)|exact HB.out)⟩⟩
  ·replace c6 := Bool.eq_false_iff.mpr c6
   subst c6
   have H1 : (impl_ShallowCopy.j0 k true l0_0 a0_1) = some (r1,r2) := by rw [if_neg (show ¬ (false = true) by decide)] at H;exact H
   clear H
   have H := H1
   clear H1
   have H' := As_ H
   clear H
   have hnb11 := NB902_903.out
   have hnc11 := NB903_902.out
   have hcz12_0 : w4.cell? ⟨gb902,0,none⟩ = some (.slice A0_0 l0_0.length c0_0) := (bkC BK902.out 0).trans rfl
   have hcz12_1 : w4.cell? ⟨gb902,1,none⟩ = some (.int .i64 a0_1) := (bkC BK902.out 1).trans rfl
   have hfz12_0 := bkF BK902.out 0
   have hfz12_1 := bkF BK902.out 1
   go_wp2_with (first|((with_reducible refine gate_callee (f := 29) rfl ?_);refine goesL_ (some 5) rfl rfl Try.func29 (by kernel_rfl) rfl #[.agg #[.slice A0_0 l0_0.length c0_0,.int .i64 a0_1]] rfl (by (try simp only [List.map_toArray,List.map_cons,List.map_nil]);first|done|rfl|(simp only [List.length_drop,List.length_take];rfl)) ?_;(with_reducible refine (impl_ValidGraph.calls k _ _ l0_0 a0_1 false _ ?side1 ?side2 A5.out).mono ?_);(case side1 => repeat (first|exact (Kd.V_reads' HO0_0.out).2.2|(with_reducible refine Kd.C_alloc ?_ _)|(with_reducible refine Kd.C_drewN ?_ _)|(with_reducible refine Kd.C_drew ?_)));(case side2 => exact (Kd.V_reads' HO0_0.out).2.1);rintro e w13 ⟨rfl,hb⟩;refine ⟨_,rfl,?_⟩;have n0_ := As_ (Kd.V_below (by (with_reducible repeat (first|apply Kd.V_alloc|apply Kd.V_drewN|apply Kd.V_drew));exact HO0_0.out) hb);have n1_ := As_ (blk_below (g := gb902) (o := .cells #[.slice A0_0 l0_0.length c0_0,.int .i64 a0_1] 29 (0,0)) (by (with_reducible repeat (first|refine bkN ?_ _|refine bkD ?_|refine bkA ?_ _));exact BK902.out) hb);have n2_ := As_ (blk_below (g := gb903) (o := .cells #[.slice none 0 0,.int .i64 0] 29 (0,0)) (by (with_reducible repeat (first|refine bkN ?_ _|refine bkD ?_|refine bkA ?_ _));exact BK903.out) hb);have n3_ := As_ (bwT (by repeat (first|(with_reducible first|exact HB.out|apply bwA|apply bwN|apply bwD|refine bwS ?_ GE902.out|refine bwS ?_ GE903.out)|exact HB.out)) hb);clear HO0_0;clear BK902;clear BK903;clear HB;have HO0_0 := n0_;have BK902 := n1_;have BK903 := n2_;have HB := n3_;clear n0_ n1_ n2_ n3_;(try clear hb);(try clear hb2);(try clear hk);(try clear hi)))
   go_meet
   case rel => exact ⟨_,(true),(by first|rfl|(simp;done)|(simp [*];done)),H',⟨by first|omega|exact Nat.le_refl _⟩,⟨by (with_reducible repeat (first|apply Kd.V_alloc|apply Kd.V_drewN|apply Kd.V_drew));exact Kd.V_mono HO0_0.out (fun _ hk => ⟨hk.1.1,⟨hk.1.2,hk.2⟩⟩)⟩,⟨by (with_reducible repeat (first|refine bkN ?_ _|refine bkD ?_|refine bkA ?_ _));exact BK902.out⟩,⟨by (with_reducible repeat (first|refine bkN ?_ _|refine bkD ?_|refine bkA ?_ _));exact BK903.out⟩,⟨by repeat (first|(with_reducible first|exact HB.out|apply bwA|apply bwN|apply bwD|refine bwS ?_ GE902.out|refine bwS ?_ GE903.out)|exact HB.out)⟩⟩
 case rest =>
  clear HC2
  try clear c1
  try clear c2
  try clear p2
  try clear c4
  try clear c6
  try clear c7
  try clear c11
  try clear hcz10_0
  try clear hcz10_1
  try clear hcz12_0
  try clear hcz12_1
  try clear hcz8_0
  try clear hcz8_1
  try clear hfz10_0
  try clear hfz10_1
  try clear hfz12_0
  try clear hfz12_1
  try clear hfz8_0
  try clear hfz8_1
  obtain ⟨kq,x12_1,rfl,HA,HJ1,HO_903000,BK902,BK903,HB⟩ := hcut
  cases kq with
  | zero => exact absurd HA.out (by simp [impl_ShallowCopy.j0])
  | succ kj1 =>
   have H := HA.out
   clear HA
   simp only [impl_ShallowCopy.j0] at H
   by_cases c14 : x12_1 = true
   ·subst c14
    have H1 : (some (([] : List (S45)),0)) = some (r1,r2) := by rw [if_pos rfl] at H;exact H
    clear H
    have H := H1
    clear H1
    simp only [Option.some.injEq,Prod.mk.injEq] at H
    obtain ⟨rfl,rfl⟩ := H
    have hnb15 := NB903_902.out
    have hnc15 := NB902_903.out
    have hcz16_0 : wc.cell? ⟨gb903,0,none⟩ = some (.slice none 0 0) := (bkC BK903.out 0).trans rfl
    have hcz16_1 : wc.cell? ⟨gb903,1,none⟩ = some (.int .i64 0) := (bkC BK903.out 1).trans rfl
    have hfz16_0 := bkF BK903.out 0
    have hfz16_1 := bkF BK903.out 1
    go_wp2
    refine bodyPost_ret (results_cell_row rfl _ _ gb903 29 #[.slice none 0 0,.int .i64 0] (0,0) _ rfl (by (with_reducible repeat (first|refine bkN ?_ _|refine bkD ?_|refine bkA ?_ _));refine blk_put (cs := #[.slice none 0 0,.int .i64 0]) ?_ 1 _ rfl;(with_reducible repeat (first|refine bkN ?_ _|refine bkD ?_|refine bkA ?_ _));refine blk_put (cs := #[.slice none 0 0,.int .i64 0]) ?_ 0 _ rfl;(with_reducible repeat (first|refine bkN ?_ _|refine bkD ?_|refine bkA ?_ _));exact BK903.out) Try.underlying29 rfl (by kernel_rfl)) rfl ?_
    exact ⟨_,by first|rfl|(simp [errW_none,errW_some] <;> rfl)|(simp [*,errW_none,errW_some] <;> rfl),by first|exact Kd.S_nil _ _ _ _ _|exact Kd.N_nil _ _ _ _ _|exact Kd.V_nil _ _ _ _ _|exact Kd.Q_nil _ _ _ _ _|exact Kd.R_nil _ _ _ _ _,by repeat (first|(with_reducible first|exact HB.out|apply bwA|apply bwN|apply bwD|refine bwS ?_ GE902.out|refine bwS ?_ GE903.out)|exact HB.out)⟩
   ·replace c14 := Bool.eq_false_iff.mpr c14
    subst c14
    have H1 : (if 0 ≤ a0_1 then (if a0_1 < (l0_0.length : Int) then ((impl_Node.f l0_0).bind fun t907 => ((some (([(⟨(rd_T45 l0_0 a0_1).f0,(rd_T45 l0_0 a0_1).f1,(rd_T45 l0_0 a0_1).f2⟩ : S45)] : List (S45)) : List (S45))).bind fun y910 => (if t907.length + y910.length < 3518437208883 then ((impl_copyNodes.f kj1 (t907 ++ y910)).bind fun t916 => (some (t916,(l0_0.length : Int)))) else (none)))) else (none)) else (none)) = some (r1,r2) := by rw [if_neg (show ¬ (false = true) by decide)] at H;exact H
    clear H
    have H := H1
    clear H1
    by_cases c17 : 0 ≤ a0_1
    rotate_left
    ·rw [if_neg c17] at H
     exact absurd H (by simp)
    rw [if_pos c17] at H
    have c17b0 : decide (0 ≤ a0_1) = true := deT c17
    clear c17
    by_cases c18 : a0_1 < (l0_0.length : Int)
    rotate_left
    ·rw [if_neg c18] at H
     exact absurd H (by simp)
    rw [if_pos c18] at H
    have c18b0 : decide (a0_1 < (l0_0.length : Int)) = true := deT c18
    clear c18
    replace H := obS H
    obtain ⟨t907,A190,H⟩ := H
    replace H : ((some (([(⟨(rd_T45 l0_0 a0_1).f0,(rd_T45 l0_0 a0_1).f1,(rd_T45 l0_0 a0_1).f2⟩ : S45)] : List (S45)) : List (S45))).bind fun y910 => (if t907.length + y910.length < 3518437208883 then ((impl_copyNodes.f kj1 (t907 ++ y910)).bind fun t916 => (some (t916,(l0_0.length : Int)))) else (none))) = some (r1,r2) := H
    have A19 := As_ A190
    clear A190
    obtain ⟨y910,hy910⟩ : ∃ y_ : List (S45),y_ = (([(⟨(rd_T45 l0_0 a0_1).f0,(rd_T45 l0_0 a0_1).f1,(rd_T45 l0_0 a0_1).f2⟩ : S45)] : List (S45))) := ⟨_,rfl⟩
    replace H : (if t907.length + y910.length < 3518437208883 then ((impl_copyNodes.f kj1 (t907 ++ y910)).bind fun t916 => (some (t916,(l0_0.length : Int)))) else (none)) = some (r1,r2) := by first|(rw [hy910];with_reducible exact H)|(have H2_ := (Option.bind_some _ _).symm.trans H;rw [hy910];with_reducible exact H2_)|(have H2_ := (Option.bind_some _ _).symm.trans H;with_reducible exact H2_)|with_reducible exact H|(rw [hy910];exact H)|exact H
    have Ny910 := As_ hy910
    clear hy910
    by_cases c20 : t907.length + y910.length < 3518437208883
    rotate_left
    ·rw [if_neg c20] at H
     exact absurd H (by simp)
    rw [if_pos c20] at H
    have LMc20 := As_ c20
    clear c20
    obtain ⟨y913,hy913⟩ : ∃ y_ : List (S45),y_ = (t907 ++ y910) := ⟨_,rfl⟩
    replace H : ((impl_copyNodes.f kj1 y913).bind fun t916 => (some (t916,(l0_0.length : Int)))) = some (r1,r2) := by first|(rw [hy913];with_reducible exact H)|(have H2_ := (Option.bind_some _ _).symm.trans H;rw [hy913];with_reducible exact H2_)|(have H2_ := (Option.bind_some _ _).symm.trans H;with_reducible exact H2_)|with_reducible exact H|(rw [hy913];exact H)|exact H
    have Ny913 := As_ hy913
    clear hy913
    replace H := obS H
    obtain ⟨t916,A210,H⟩ := H
    replace H : (some (t916,(l0_0.length : Int))) = some (r1,r2) := H
    have A21 := As_ A210
    clear A210
    simp only [Option.some.injEq,Prod.mk.injEq] at H
    obtain ⟨rfl,rfl⟩ := H
    have hnb22 := NB902_903.out
    have hnc22 := NB903_902.out
    have hcz23_0 : wc.cell? ⟨gb902,0,none⟩ = some (.slice A0_0 l0_0.length c0_0) := (bkC BK902.out 0).trans rfl
    have hcz23_1 : wc.cell? ⟨gb902,1,none⟩ = some (.int .i64 a0_1) := (bkC BK902.out 1).trans rfl
    have hfz23_0 := bkF BK902.out 0
    have hfz23_1 := bkF BK902.out 1
    have p905 : 0 ≤ (a0_1 : Int) := odT (by first|(with_reducible assumption)|assumption)
    have q905 : a0_1 < (l0_0.length : Int) := odT (by first|(with_reducible assumption)|assumption)
    obtain ⟨ad905,A905_2,c905_2,e905,hx905_0,hx905_1,hx905_2,hl905_2,hi905_2⟩ := at_T45 (Kd.V_reads' HO_903000.out).2.2 a0_1 p905 q905
    cases e905
    obtain ⟨ce905,hce905,hMe905,hcc905⟩ := Kd.V_get HO_903000.out z45 a0_1 p905 (by first|exact q905|exact odT (by first|(with_reducible assumption)|assumption)|(have e_ := (Kd.V_reads' HO_903000.out).1;omega))
    obtain ⟨ua905_2,uc905_2,rfl,ul905_2,ge905_2⟩ := k45_openF hMe905
    have hv905_2 := hcc905 2 _ rfl
    rw [add_field _ _ 2 (by omega)] at hv905_2
    replace hv905_2 := Option.some.inj (hv905_2.symm.trans hx905_2)
    injection hv905_2 with hva_ hvn_ hvc_
    rw [hva_] at ge905_2
    rw [hvc_] at ul905_2
    have HL905_2 := As_ (show Kd.V (Kd.int .i64) 3 _ w.heap.size _ _ ((rd_T45 l0_0 a0_1).f2) from Kd.V_mk ul905_2 ge905_2)
    clear hva_ hvn_ hvc_ ge905_2 ul905_2
    clear hcc905 hce905
    have HR905_2 := As_ hi905_2
    have HC905_2 := As_ hl905_2
    clear hi905_2 hl905_2
    replace p905 := eq_true p905
    replace q905 := eq_true q905
    try go_wp2_with (first|((with_reducible refine gate_dst (N := 3) rfl ?_);(try (refine gate_guard (by rfl) ?_;dsimp only));refine box_event ?hg (N := 3) ?hd (cs := #[.int .i64 0,.int .i64 0,.slice none 0 0]) (t := 45) ?hr ?_;(case hd => rfl);(case hg => rfl);(case hr => go_simp <;> rfl);intro gb906 hg w24 hbox hb;have n0_ := As_ (Kd.V_below (Kd.V_elderB (by (with_reducible repeat (first|apply Kd.V_alloc|apply Kd.V_drewN|apply Kd.V_drew));exact HO_903000.out) gb906 (Nat.le_of_eq hg.symm)) hb);have n1_ := As_ (Kd.V_below (Kd.V_elderB (by (with_reducible repeat (first|apply Kd.V_alloc|apply Kd.V_drewN|apply Kd.V_drew));exact HL905_2.out) gb906 (Nat.le_of_eq hg.symm)) hb);have n2_ := As_ (blk_below (g := gb902) (o := .cells #[.slice (some ad905) l0_0.length c0_0,.int .i64 a0_1] 29 (0,0)) (by (with_reducible repeat (first|refine bkN ?_ _|refine bkD ?_|refine bkA ?_ _));exact BK902.out) hb);have n3_ := As_ (blk_below (g := gb903) (o := .cells #[.slice none 0 0,.int .i64 0] 29 (0,0)) (by (with_reducible repeat (first|refine bkN ?_ _|refine bkD ?_|refine bkA ?_ _));exact BK903.out) hb);have n4_ := As_ (Kd.C_below (by repeat (first|(with_reducible exact HR905_2.out)|(with_reducible refine Kd.C_alloc ?_ _)|(with_reducible refine Kd.C_drewN ?_ _)|(with_reducible refine Kd.C_drew ?_)|exact HR905_2.out)) hb);have n5_ := As_ (bwT (by repeat (first|(with_reducible first|exact HB.out|apply bwA|apply bwN|apply bwD|refine bwS ?_ GE902.out|refine bwS ?_ GE903.out)|exact HB.out)) hb);have n6_ := As_ (hbox);have n7_ := As_ ((by rw [hg];exact (bwZ (by repeat (first|(with_reducible first|exact HB.out|apply bwA|apply bwN|apply bwD|refine bwS ?_ GE902.out|refine bwS ?_ GE903.out)|exact HB.out))) : w.heap.size ≤ gb906));have n8_ := As_ ((by rw [hg];exact (bwZ (by repeat (first|(with_reducible first|exact HB.out|apply bwA|apply bwN|apply bwD|refine bwS ?_ GE902.out|refine bwS ?_ GE903.out)|exact HB.out))) : w.heap.size ≤ gb906));have n9_ := As_ ((by rw [hg];exact Nat.ne_of_lt (blk_lt (g := gb902) (o := .cells #[.slice (some ad905) l0_0.length c0_0,.int .i64 a0_1] 29 (0,0)) (by (with_reducible repeat (first|refine bkN ?_ _|refine bkD ?_|refine bkA ?_ _));exact BK902.out)) : gb902 ≠ gb906));have n10_ := As_ ((by rw [hg];exact Nat.ne_of_gt (blk_lt (g := gb902) (o := .cells #[.slice (some ad905) l0_0.length c0_0,.int .i64 a0_1] 29 (0,0)) (by (with_reducible repeat (first|refine bkN ?_ _|refine bkD ?_|refine bkA ?_ _));exact BK902.out)) : gb906 ≠ gb902));have n11_ := As_ ((by rw [hg];exact Nat.ne_of_lt (blk_lt (g := gb903) (o := .cells #[.slice none 0 0,.int .i64 0] 29 (0,0)) (by (with_reducible repeat (first|refine bkN ?_ _|refine bkD ?_|refine bkA ?_ _));exact BK903.out)) : gb903 ≠ gb906));have n12_ := As_ ((by rw [hg];exact Nat.ne_of_gt (blk_lt (g := gb903) (o := .cells #[.slice none 0 0,.int .i64 0] 29 (0,0)) (by (with_reducible repeat (first|refine bkN ?_ _|refine bkD ?_|refine bkA ?_ _));exact BK903.out)) : gb906 ≠ gb903));clear HO_903000;clear HL905_2;clear BK902;clear BK903;clear HR905_2;clear HB;have HO_903000 := n0_;have HL905_2 := n1_;have BK902 := n2_;have BK903 := n3_;have HR905_2 := n4_;have HB := n5_;have BK906 := n6_;have GW906 := n7_;have GE906 := n8_;have NB902_906 := n9_;have NB906_902 := n10_;have NB903_906 := n11_;have NB906_903 := n12_;clear n0_ n1_ n2_ n3_ n4_ n5_ n6_ n7_ n8_ n9_ n10_ n11_ n12_;clear hb hbox hg;have hnb25 := NB906_902.out;have hnc25 := NB902_906.out;have hnb26 := NB906_903.out;have hnc26 := NB903_906.out;have hcz27_0 : w24.cell? ⟨gb906,0,none⟩ = some (.int .i64 0) := (bkC BK906.out 0).trans rfl;have hcz27_1 : w24.cell? ⟨gb906,1,none⟩ = some (.int .i64 0) := (bkC BK906.out 1).trans rfl;have hcz27_2 : w24.cell? ⟨gb906,2,none⟩ = some (.slice none 0 0) := (bkC BK906.out 2).trans rfl;have hfz27_0 := bkF BK906.out 0;have hfz27_1 := bkF BK906.out 1;have hfz27_2 := bkF BK906.out 2))
    have n0_ : Aside0 (Kd.V k45 45 (((w24.setCell ⟨gb906,0,none⟩ (.int .i64 ((rd_T45 l0_0 a0_1).f0))).setCell ⟨gb906,1,none⟩ (.int .i64 ((rd_T45 l0_0 a0_1).f1))).setCell ⟨gb906,2,none⟩ (.slice A905_2 ((rd_T45 l0_0 a0_1).f2).length c905_2)) w.heap.size (fun k_ => (P0_0_ k_ ∨ w.heap.size ≤ k_) ∧ k_ ≠ gb902 ∧ k_ ≠ gb903 ∧ k_ ≠ gb906) (.slice (some ad905) l0_0.length c0_0) l0_0) := ⟨by (with_reducible repeat (first|apply Kd.V_alloc|apply Kd.V_drewN|apply Kd.V_drew));exact Kd.V_mono (Kd.V_far (p := ⟨gb906,2,none⟩) (Kd.V_far (p := ⟨gb906,1,none⟩) (Kd.V_far (p := ⟨gb906,0,none⟩) (Kd.V_mono HO_903000.out (fun k_ hk => (⟨hk,hk.2⟩ : _ ∧ k_ ≠ gb906))) (fun _ hk => hk.2) (.int .i64 ((rd_T45 l0_0 a0_1).f0))) (fun _ hk => hk.2) (.int .i64 ((rd_T45 l0_0 a0_1).f1))) (fun _ hk => hk.2) (.slice A905_2 ((rd_T45 l0_0 a0_1).f2).length c905_2)) (fun _ hk => ⟨hk.1.1.1,⟨hk.1.1.2.1,⟨hk.1.1.2.2,hk.1.2⟩⟩⟩)⟩
    have n1_ : Aside0 (Kd.V (Kd.int .i64) 3 (((w24.setCell ⟨gb906,0,none⟩ (.int .i64 ((rd_T45 l0_0 a0_1).f0))).setCell ⟨gb906,1,none⟩ (.int .i64 ((rd_T45 l0_0 a0_1).f1))).setCell ⟨gb906,2,none⟩ (.slice A905_2 ((rd_T45 l0_0 a0_1).f2).length c905_2)) w.heap.size (fun k_ => (P0_0_ k_ ∨ w.heap.size ≤ k_) ∧ k_ ≠ gb902 ∧ k_ ≠ gb903 ∧ k_ ≠ gb906) (.slice A905_2 ((rd_T45 l0_0 a0_1).f2).length c905_2) ((rd_T45 l0_0 a0_1).f2)) := ⟨by (with_reducible repeat (first|apply Kd.V_alloc|apply Kd.V_drewN|apply Kd.V_drew));exact Kd.V_mono (Kd.V_far (p := ⟨gb906,2,none⟩) (Kd.V_far (p := ⟨gb906,1,none⟩) (Kd.V_far (p := ⟨gb906,0,none⟩) (Kd.V_mono HL905_2.out (fun k_ hk => (⟨hk,hk.2⟩ : _ ∧ k_ ≠ gb906))) (fun _ hk => hk.2) (.int .i64 ((rd_T45 l0_0 a0_1).f0))) (fun _ hk => hk.2) (.int .i64 ((rd_T45 l0_0 a0_1).f1))) (fun _ hk => hk.2) (.slice A905_2 ((rd_T45 l0_0 a0_1).f2).length c905_2)) (fun _ hk => ⟨hk.1.1.1,⟨hk.1.1.2.1,⟨hk.1.1.2.2,hk.1.2⟩⟩⟩)⟩
    have n2_ : Aside0 ((((w24.setCell ⟨gb906,0,none⟩ (.int .i64 ((rd_T45 l0_0 a0_1).f0))).setCell ⟨gb906,1,none⟩ (.int .i64 ((rd_T45 l0_0 a0_1).f1))).setCell ⟨gb906,2,none⟩ (.slice A905_2 ((rd_T45 l0_0 a0_1).f2).length c905_2)).heap[gb902]? = some (.cells #[.slice (some ad905) l0_0.length c0_0,.int .i64 a0_1] 29 (0,0))) := ⟨by (with_reducible repeat (first|refine bkN ?_ _|refine bkD ?_|refine bkA ?_ _));refine blk_far ?_ NB902_906.out _;(with_reducible repeat (first|refine bkN ?_ _|refine bkD ?_|refine bkA ?_ _));refine blk_far ?_ NB902_906.out _;(with_reducible repeat (first|refine bkN ?_ _|refine bkD ?_|refine bkA ?_ _));refine blk_far ?_ NB902_906.out _;(with_reducible repeat (first|refine bkN ?_ _|refine bkD ?_|refine bkA ?_ _));exact BK902.out⟩
    have n3_ : Aside0 ((((w24.setCell ⟨gb906,0,none⟩ (.int .i64 ((rd_T45 l0_0 a0_1).f0))).setCell ⟨gb906,1,none⟩ (.int .i64 ((rd_T45 l0_0 a0_1).f1))).setCell ⟨gb906,2,none⟩ (.slice A905_2 ((rd_T45 l0_0 a0_1).f2).length c905_2)).heap[gb903]? = some (.cells #[.slice none 0 0,.int .i64 0] 29 (0,0))) := ⟨by (with_reducible repeat (first|refine bkN ?_ _|refine bkD ?_|refine bkA ?_ _));refine blk_far ?_ NB903_906.out _;(with_reducible repeat (first|refine bkN ?_ _|refine bkD ?_|refine bkA ?_ _));refine blk_far ?_ NB903_906.out _;(with_reducible repeat (first|refine bkN ?_ _|refine bkD ?_|refine bkA ?_ _));refine blk_far ?_ NB903_906.out _;(with_reducible repeat (first|refine bkN ?_ _|refine bkD ?_|refine bkA ?_ _));exact BK903.out⟩
    have n4_ : Aside0 ((((w24.setCell ⟨gb906,0,none⟩ (.int .i64 ((rd_T45 l0_0 a0_1).f0))).setCell ⟨gb906,1,none⟩ (.int .i64 ((rd_T45 l0_0 a0_1).f1))).setCell ⟨gb906,2,none⟩ (.slice A905_2 ((rd_T45 l0_0 a0_1).f2).length c905_2)).heap[gb906]? = some (.cells #[.int .i64 ((rd_T45 l0_0 a0_1).f0),.int .i64 ((rd_T45 l0_0 a0_1).f1),.slice A905_2 ((rd_T45 l0_0 a0_1).f2).length c905_2] 45 (0,0))) := ⟨by (with_reducible repeat (first|refine bkN ?_ _|refine bkD ?_|refine bkA ?_ _));refine blk_put (cs := #[.int .i64 ((rd_T45 l0_0 a0_1).f0),.int .i64 ((rd_T45 l0_0 a0_1).f1),.slice none 0 0]) ?_ 2 _ rfl;(with_reducible repeat (first|refine bkN ?_ _|refine bkD ?_|refine bkA ?_ _));refine blk_put (cs := #[.int .i64 ((rd_T45 l0_0 a0_1).f0),.int .i64 0,.slice none 0 0]) ?_ 1 _ rfl;(with_reducible repeat (first|refine bkN ?_ _|refine bkD ?_|refine bkA ?_ _));refine blk_put (cs := #[.int .i64 0,.int .i64 0,.slice none 0 0]) ?_ 0 _ rfl;(with_reducible repeat (first|refine bkN ?_ _|refine bkD ?_|refine bkA ?_ _));exact BK906.out⟩
    have n5_ : Aside0 (Below w.heap.size w (((w24.setCell ⟨gb906,0,none⟩ (.int .i64 ((rd_T45 l0_0 a0_1).f0))).setCell ⟨gb906,1,none⟩ (.int .i64 ((rd_T45 l0_0 a0_1).f1))).setCell ⟨gb906,2,none⟩ (.slice A905_2 ((rd_T45 l0_0 a0_1).f2).length c905_2))) := ⟨by repeat (first|(with_reducible first|exact HB.out|apply bwA|apply bwN|apply bwD|refine bwS ?_ GE902.out|refine bwS ?_ GE903.out|refine bwS ?_ GE906.out)|exact HB.out)⟩
    (try clear HO_903000)
    (try clear HL905_2)
    (try clear BK902)
    (try clear BK903)
    (try clear BK906)
    (try clear HB)
    generalize (((w24.setCell ⟨gb906,0,none⟩ (.int .i64 ((rd_T45 l0_0 a0_1).f0))).setCell ⟨gb906,1,none⟩ (.int .i64 ((rd_T45 l0_0 a0_1).f1))).setCell ⟨gb906,2,none⟩ (.slice A905_2 ((rd_T45 l0_0 a0_1).f2).length c905_2)) = w28 at n0_ n1_ n2_ n3_ n4_ n5_ ⊢
    have HO_903000 := n0_
    have HL905_2 := n1_
    have BK902 := n2_
    have BK903 := n3_
    have BK906 := n4_
    have HB := n5_
    clear n0_ n1_ n2_ n3_ n4_ n5_
    have n0_ := As_ (Kd.V_drew HO_903000.out)
    have n1_ := As_ (Kd.V_drew HL905_2.out)
    have n2_ := As_ (bkD BK902.out)
    have n3_ := As_ (bkD BK903.out)
    have n4_ := As_ (bkD BK906.out)
    have n5_ := As_ (bwD HB.out)
    clear HO_903000
    clear HL905_2
    clear BK902
    clear BK903
    clear BK906
    clear HB
    have HO_903000 := n0_
    have HL905_2 := n1_
    have BK902 := n2_
    have BK903 := n3_
    have BK906 := n4_
    have HB := n5_
    clear n0_ n1_ n2_ n3_ n4_ n5_
    refine start_ (n := 12) (S := fun w' => w'.cell? ⟨gb902,0,none⟩ = some (.slice (some ad905) l0_0.length c0_0) ∧ w'.cell? ⟨gb902,1,none⟩ = some (.int .i64 a0_1) ∧ w'.cell? ⟨gb906,0,none⟩ = some (.int .i64 ((rd_T45 l0_0 a0_1).f0)) ∧ w'.cell? ⟨gb906,1,none⟩ = some (.int .i64 ((rd_T45 l0_0 a0_1).f1)) ∧ w'.cell? ⟨gb906,2,none⟩ = some (.slice A905_2 ((rd_T45 l0_0 a0_1).f2).length c905_2)) (ds := []) (bl_ 0 12) (by kernel_rfl) rfl rfl ⟨(bkC BK902.out 0).trans rfl,(bkC BK902.out 1).trans rfl,(bkC BK906.out 0).trans rfl,(bkC BK906.out 1).trans rfl,(bkC BK906.out 2).trans rfl⟩ (fun hHeld => ?_);refine with_tabW impl_ShallowCopy.tab4 impl_ShallowCopy.bits4 (fun HT_ HW_ => ?_)
    generalize w28.drew = w29 at HO_903000 HL905_2 BK902 BK903 BK906 HB hHeld ⊢
    refine pP 0 20 (bl_ 1 12) ?_ HT_ rfl rfl (by kernel_rfl) (fun _ _ _ h => h) (.inl ⟨by rfl,?_⟩) ?_ ?_ ?_;rotate_left;(intro w';go_simp;with_reducible rfl);rotate_left;(simp only [Act.put,sq_,i64_w,i32_w];rfl)
    refine pP 7 27 (bl_ 129 12) ?_ HT_ rfl rfl (by kernel_rfl) (fun _ _ _ h => h) (.inl ⟨by rfl,?_⟩) ?_ ?_ ?_;rotate_left;(intro w';go_simp;with_reducible rfl);rotate_left;(simp only [Act.put,sq_,i64_w,i32_w];rfl)
    refine tP 1 21 (bl_ 131 12) ?_ HT_ HW_ rfl rfl (by kernel_rfl) (fun _ _ _ h => h) (.inl ⟨by rfl,?_⟩) hHeld ?_ ?_ ?_;rotate_left;(rintro w' ⟨s0,s1,s2,s3,s4⟩;go_simp;with_reducible rfl);rotate_left;(simp only [Act.put,sq_,i64_w,i32_w];rfl)
    refine tP 3 23 (bl_ 139 12) ?_ HT_ HW_ rfl rfl (by kernel_rfl) (fun _ _ _ h => h) (.inl ⟨by rfl,?_⟩) hHeld ?_ ?_ ?_;rotate_left;(rintro w' ⟨s0,s1,s2,s3,s4⟩;go_simp;with_reducible rfl);rotate_left;(simp only [Act.put,sq_,i64_w,i32_w];rfl)
    refine tP 8 28 (bl_ 395 12) ?_ HT_ HW_ rfl rfl (by kernel_rfl) (fun _ _ _ h => h) (.inl ⟨by rfl,?_⟩) hHeld ?_ ?_ ?_;rotate_left;(rintro w' ⟨s0,s1,s2,s3,s4⟩;go_simp;with_reducible rfl);rotate_left;(simp only [Act.put,sq_,i64_w,i32_w];rfl)
    refine pP 9 29 (bl_ 907 12) ?_ HT_ rfl rfl (by kernel_rfl) (fun _ _ _ h => h) (.inl ⟨by rfl,?_⟩) ?_ ?_ ?_;rotate_left;(intro w';go_simp;with_reducible rfl);rotate_left;(simp only [Act.put,sq_,i64_w,i32_w];rfl)
    refine join_ (σ := Value × Value) 4 (bl_ 927 12) (fun s_ => [(22,s_.1),(24,s_.2)]) (fun s_ w' => (w'.cell? ⟨gb902,0,none⟩ = some (.slice (some ad905) l0_0.length c0_0) ∧ w'.cell? ⟨gb902,1,none⟩ = some (.int .i64 a0_1) ∧ w'.cell? ⟨gb906,0,none⟩ = some (.int .i64 ((rd_T45 l0_0 a0_1).f0)) ∧ w'.cell? ⟨gb906,1,none⟩ = some (.int .i64 ((rd_T45 l0_0 a0_1).f1)) ∧ w'.cell? ⟨gb906,2,none⟩ = some (.slice A905_2 ((rd_T45 l0_0 a0_1).f2).length c905_2)) ∧ (Kd.V (Kd.int .i64) 3 w' w.heap.size (fun k_ => (P0_0_ k_ ∨ w.heap.size ≤ k_) ∧ some k_ ≠ (s_.1 : Value).ownBlock ∧ some k_ ≠ (s_.2 : Value).ownBlock ∧ k_ ≠ gb902 ∧ k_ ≠ gb903 ∧ k_ ≠ gb906) (.slice A905_2 ((rd_T45 l0_0 a0_1).f2).length c905_2) ((rd_T45 l0_0 a0_1).f2)) ∧ (Kd.N k45 45 w' w.heap.size (fun k_ => (P0_0_ k_ ∨ w.heap.size ≤ k_) ∧ some k_ ≠ (s_.2 : Value).ownBlock ∧ k_ ≠ gb902 ∧ k_ ≠ gb903 ∧ k_ ≠ gb906) s_.1 t907) ∧ (Kd.N k45 45 w' w.heap.size (fun k_ => (P0_0_ k_ ∨ w.heap.size ≤ k_) ∧ some k_ ≠ (s_.1 : Value).ownBlock ∧ k_ ≠ gb902 ∧ k_ ≠ gb903 ∧ k_ ≠ gb906) s_.2 y910) ∧ (Kd.V k45 45 w' w.heap.size (fun k_ => (P0_0_ k_ ∨ w.heap.size ≤ k_) ∧ some k_ ≠ (s_.1 : Value).ownBlock ∧ some k_ ≠ (s_.2 : Value).ownBlock ∧ k_ ≠ gb902 ∧ k_ ≠ gb903 ∧ k_ ≠ gb906) (.slice (some ad905) l0_0.length c0_0) l0_0) ∧ (w'.heap[gb902]? = some (.cells #[.slice (some ad905) l0_0.length c0_0,.int .i64 a0_1] 29 (0,0))) ∧ (w'.heap[gb903]? = some (.cells #[.slice none 0 0,.int .i64 0] 29 (0,0))) ∧ (w'.heap[gb906]? = some (.cells #[.int .i64 ((rd_T45 l0_0 a0_1).f0),.int .i64 ((rd_T45 l0_0 a0_1).f1),.slice A905_2 ((rd_T45 l0_0 a0_1).f2).length c905_2] 45 (0,0))) ∧ (Below w.heap.size w w')) ?_ ?_
    rotate_left
    ·intro hCont
     refine two_ (i := 2) (j := 4) (Ni := some 22) (Nj := some 24) (bl_ 911 12) (bl_ 923 12) rfl rfl rfl rfl (two_of HT_.out (by kernel_rfl)) (by decide) (by decide) (fun K hK => ?_) (fun K hK => ?_)
     ·skip
      refine goes_ Try.func52 (by kernel_rfl) rfl #[.slice (some ad905) l0_0.length c0_0] (by rfl) rfl rfl (by (try simp only [List.map_toArray,List.map_cons,List.map_nil]);first|done|rfl|(simp only [List.length_drop,List.length_take];rfl)) ?_
      with_reducible refine (impl_Node.calls (fun k_ => ((P0_0_ k_ ∨ w.heap.size ≤ k_) ∧ (k_ ≠ gb902 ∧ (k_ ≠ gb903 ∧ k_ ≠ gb906)))) _ _ l0_0 t907 _ ?side1 A19.out).mono ?_
      (case side1 => exact HO_903000.out)
      rintro e w30 ⟨v908,rfl,ho0,hb⟩
      refine ⟨_,rfl,?_⟩
      have n0_ := As_ (Kd.V_elder' (by (with_reducible repeat (first|apply Kd.V_alloc|apply Kd.V_drewN|apply Kd.V_drew));exact HO_903000.out) (Kd.N_base ho0) hb)
      have n1_ := As_ (Kd.V_elder' (by (with_reducible repeat (first|apply Kd.V_alloc|apply Kd.V_drewN|apply Kd.V_drew));exact HL905_2.out) (Kd.N_base ho0) hb)
      have n2_ := As_ (Kd.N_lower (Kd.N_mono (ok' := fun k_ => (P0_0_ k_ ∨ w.heap.size ≤ k_) ∧ k_ ≠ gb902 ∧ k_ ≠ gb903 ∧ k_ ≠ gb906) ho0 (fun k_ hk_ => ⟨Or.elim hk_ (fun hs_ => hs_.1) (fun hn_ => (.inr (Nat.le_trans (bwZ (by repeat (first|(with_reducible first|exact HB.out|apply bwA|apply bwN|apply bwD|refine bwS ?_ GE902.out|refine bwS ?_ GE903.out|refine bwS ?_ GE906.out)|exact HB.out))) hn_))),Or.elim hk_ (fun hs_ => hs_.2.1) (fun hn_ => (Kd.freshB (g := gb902) (o := .cells #[.slice (some ad905) l0_0.length c0_0,.int .i64 a0_1] 29 (0,0)) (by (with_reducible repeat (first|refine bkN ?_ _|refine bkD ?_|refine bkA ?_ _));exact BK902.out) k_ hn_)),Or.elim hk_ (fun hs_ => hs_.2.2.1) (fun hn_ => (Kd.freshB (g := gb903) (o := .cells #[.slice none 0 0,.int .i64 0] 29 (0,0)) (by (with_reducible repeat (first|refine bkN ?_ _|refine bkD ?_|refine bkA ?_ _));exact BK903.out) k_ hn_)),Or.elim hk_ (fun hs_ => hs_.2.2.2) (fun hn_ => (Kd.freshB (g := gb906) (o := .cells #[.int .i64 ((rd_T45 l0_0 a0_1).f0),.int .i64 ((rd_T45 l0_0 a0_1).f1),.slice A905_2 ((rd_T45 l0_0 a0_1).f2).length c905_2] 45 (0,0)) (by (with_reducible repeat (first|refine bkN ?_ _|refine bkD ?_|refine bkA ?_ _));exact BK906.out) k_ hn_))⟩)) (bwZ (by repeat (first|(with_reducible first|exact HB.out|apply bwA|apply bwN|apply bwD|refine bwS ?_ GE902.out|refine bwS ?_ GE903.out|refine bwS ?_ GE906.out)|exact HB.out))))
      have n3_ := As_ (blk_below (g := gb902) (o := .cells #[.slice (some ad905) l0_0.length c0_0,.int .i64 a0_1] 29 (0,0)) (by (with_reducible repeat (first|refine bkN ?_ _|refine bkD ?_|refine bkA ?_ _));exact BK902.out) hb)
      have n4_ := As_ (blk_below (g := gb903) (o := .cells #[.slice none 0 0,.int .i64 0] 29 (0,0)) (by (with_reducible repeat (first|refine bkN ?_ _|refine bkD ?_|refine bkA ?_ _));exact BK903.out) hb)
      have n5_ := As_ (blk_below (g := gb906) (o := .cells #[.int .i64 ((rd_T45 l0_0 a0_1).f0),.int .i64 ((rd_T45 l0_0 a0_1).f1),.slice A905_2 ((rd_T45 l0_0 a0_1).f2).length c905_2] 45 (0,0)) (by (with_reducible repeat (first|refine bkN ?_ _|refine bkD ?_|refine bkA ?_ _));exact BK906.out) hb)
      have n6_ := As_ (bwT (by repeat (first|(with_reducible first|exact HB.out|apply bwA|apply bwN|apply bwD|refine bwS ?_ GE902.out|refine bwS ?_ GE903.out|refine bwS ?_ GE906.out)|exact HB.out)) hb)
      clear HO_903000
      clear HL905_2
      clear BK902
      clear BK903
      clear BK906
      clear HB
      have HO_903000 := n0_
      have HL905_2 := n1_
      have HO909 := n2_
      have BK902 := n3_
      have BK903 := n4_
      have BK906 := n5_
      have HB := n6_
      clear n0_ n1_ n2_ n3_ n4_ n5_ n6_
      (try clear hb)
      (try clear hb2)
      (try clear hk)
      (try clear hi)
      (try clear ho0)
      refine hK.out _ _ ⟨(bkC BK902.out 0).trans rfl,(bkC BK902.out 1).trans rfl,(bkC BK906.out 0).trans rfl,(bkC BK906.out 1).trans rfl,(bkC BK906.out 2).trans rfl⟩ (fun hHeld => ?_)
      clear hK K
      refine norm_ (a' := ?_) ?_ ?_
      rotate_left
      ·show Act.put _ (some 22) _ = _
       simp only [Act.put,sq_,i64_w,i32_w]
       rfl
      refine one_ (i := 4) (N := some 24) (bl_ 927 12) rfl rfl (one_of HT_.out (by kernel_rfl)) (by decide) (fun K hK => ?_)
      refine Kd.N_lit_step k45 _ 45 ?hg (N' := 24) ?hd (xs := ([(⟨(rd_T45 l0_0 a0_1).f0,(rd_T45 l0_0 a0_1).f1,(rd_T45 l0_0 a0_1).f2⟩ : S45)] : List (S45))) (inner := [.int .i64 ((rd_T45 l0_0 a0_1).f0),.int .i64 ((rd_T45 l0_0 a0_1).f1),.slice A905_2 ((rd_T45 l0_0 a0_1).f2).length c905_2]) (ok := (fun k_ => (P0_0_ k_ ∨ w.heap.size ≤ k_) ∧ some k_ ≠ (v908 : Value).ownBlock ∧ k_ ≠ gb902 ∧ k_ ≠ gb903 ∧ k_ ≠ gb906)) (okp := (fun k_ => (P0_0_ k_ ∨ w.heap.size ≤ k_) ∧ some k_ ≠ (v908 : Value).ownBlock ∧ k_ ≠ gb902 ∧ k_ ≠ gb903 ∧ k_ ≠ gb906)) ?hr ?hp (fun _ hk => hk) ((show ∀ k_,w30.heap.size ≤ k_ → (fun k_ => (P0_0_ k_ ∨ w.heap.size ≤ k_) ∧ some k_ ≠ (v908 : Value).ownBlock ∧ k_ ≠ gb902 ∧ k_ ≠ gb903 ∧ k_ ≠ gb906) k_ from fun k_ hk => ⟨(.inr (Nat.le_trans (bwZ (by repeat (first|(with_reducible first|exact HB.out|apply bwA|apply bwN|apply bwD|refine bwS ?_ GE902.out|refine bwS ?_ GE903.out|refine bwS ?_ GE906.out)|exact HB.out))) hk)),Kd.fresh' (Kd.N_lt (by (with_reducible repeat (first|apply Kd.N_alloc|apply Kd.N_drewN|apply Kd.N_drew));exact HO909.out)) k_ hk,Kd.freshB (g := gb902) (o := .cells #[.slice (some ad905) l0_0.length c0_0,.int .i64 a0_1] 29 (0,0)) (by (with_reducible repeat (first|refine bkN ?_ _|refine bkD ?_|refine bkA ?_ _));exact BK902.out) k_ hk,Kd.freshB (g := gb903) (o := .cells #[.slice none 0 0,.int .i64 0] 29 (0,0)) (by (with_reducible repeat (first|refine bkN ?_ _|refine bkD ?_|refine bkA ?_ _));exact BK903.out) k_ hk,Kd.freshB (g := gb906) (o := .cells #[.int .i64 ((rd_T45 l0_0 a0_1).f0),.int .i64 ((rd_T45 l0_0 a0_1).f1),.slice A905_2 ((rd_T45 l0_0 a0_1).f2).length c905_2] 45 (0,0)) (by (with_reducible repeat (first|refine bkN ?_ _|refine bkD ?_|refine bkA ?_ _));exact BK906.out) k_ hk⟩) _ (Nat.le_refl _)) (Below.refl _ _) (Nat.le_refl _) (by simp) ?_;(case hd => rfl);(case hg => rfl);(case hr => go_simp <;> rfl);(case hp => exact (Reps.c3 (show Kd.FK k45 _ _ (⟨(rd_T45 l0_0 a0_1).f0,(rd_T45 l0_0 a0_1).f1,(rd_T45 l0_0 a0_1).f2⟩ : S45) [.int .i64 ((rd_T45 l0_0 a0_1).f0),.int .i64 ((rd_T45 l0_0 a0_1).f1),.slice A905_2 ((rd_T45 l0_0 a0_1).f2).length c905_2] from (k45_mkF _ _ (⟨(rd_T45 l0_0 a0_1).f0,(rd_T45 l0_0 a0_1).f1,(rd_T45 l0_0 a0_1).f2⟩ : S45) (Kd.V_reads' (Kd.V_mono (ok' := (fun k_ => (P0_0_ k_ ∨ w.heap.size ≤ k_) ∧ some k_ ≠ (v908 : Value).ownBlock ∧ k_ ≠ gb902 ∧ k_ ≠ gb903 ∧ k_ ≠ gb906)) (HL905_2.out) (fun k_ hk => ⟨hk.1.1,⟨hk.2,⟨hk.1.2.1,⟨hk.1.2.2.1,hk.1.2.2.2⟩⟩⟩⟩))).2.1 (Kd.V_F (Kd.V_mono (ok' := (fun k_ => (P0_0_ k_ ∨ w.heap.size ≤ k_) ∧ some k_ ≠ (v908 : Value).ownBlock ∧ k_ ≠ gb902 ∧ k_ ≠ gb903 ∧ k_ ≠ gb906)) (HL905_2.out) (fun k_ hk => ⟨hk.1.1,⟨hk.2,⟨hk.1.2.1,⟨hk.1.2.2.1,hk.1.2.2.2⟩⟩⟩⟩))))) (Reps.none _ _)))
      intro v911 w31 ho32 hb hg_ hnew_
      clear hg_ hnew_
      (first|rw [← Ny910.out] at ho32|(simp only [Int.reduceToNat] at ho32;rw [← Ny910.out] at ho32))
      have n0_ := As_ (Kd.V_elder' (by (with_reducible repeat (first|apply Kd.V_alloc|apply Kd.V_drewN|apply Kd.V_drew));exact HO_903000.out) (Kd.N_base ho32) hb)
      have n1_ := As_ (Kd.V_elder' (by (with_reducible repeat (first|apply Kd.V_alloc|apply Kd.V_drewN|apply Kd.V_drew));exact HL905_2.out) (Kd.N_base ho32) hb)
      have n2_ := As_ (Kd.N_elder' (by (with_reducible repeat (first|apply Kd.N_alloc|apply Kd.N_drewN|apply Kd.N_drew));exact HO909.out) (Kd.N_base ho32) hb)
      have n3_ := As_ (Kd.N_lower ho32 (bwZ (by repeat (first|(with_reducible first|exact HB.out|apply bwA|apply bwN|apply bwD|refine bwS ?_ GE902.out|refine bwS ?_ GE903.out|refine bwS ?_ GE906.out)|exact HB.out))))
      have n4_ := As_ (blk_below (g := gb902) (o := .cells #[.slice (some ad905) l0_0.length c0_0,.int .i64 a0_1] 29 (0,0)) (by (with_reducible repeat (first|refine bkN ?_ _|refine bkD ?_|refine bkA ?_ _));exact BK902.out) hb)
      have n5_ := As_ (blk_below (g := gb903) (o := .cells #[.slice none 0 0,.int .i64 0] 29 (0,0)) (by (with_reducible repeat (first|refine bkN ?_ _|refine bkD ?_|refine bkA ?_ _));exact BK903.out) hb)
      have n6_ := As_ (blk_below (g := gb906) (o := .cells #[.int .i64 ((rd_T45 l0_0 a0_1).f0),.int .i64 ((rd_T45 l0_0 a0_1).f1),.slice A905_2 ((rd_T45 l0_0 a0_1).f2).length c905_2] 45 (0,0)) (by (with_reducible repeat (first|refine bkN ?_ _|refine bkD ?_|refine bkA ?_ _));exact BK906.out) hb)
      have n7_ := As_ (bwT (by repeat (first|(with_reducible first|exact HB.out|apply bwA|apply bwN|apply bwD|refine bwS ?_ GE902.out|refine bwS ?_ GE903.out|refine bwS ?_ GE906.out)|exact HB.out)) hb)
      clear HO_903000
      clear HL905_2
      clear HO909
      clear BK902
      clear BK903
      clear BK906
      clear HB
      have HO_903000 := n0_
      have HL905_2 := n1_
      have HO909 := n2_
      have HO912 := n3_
      have BK902 := n4_
      have BK903 := n5_
      have BK906 := n6_
      have HB := n7_
      clear n0_ n1_ n2_ n3_ n4_ n5_ n6_ n7_
      clear hb ho32
      refine hK.out _ _ ⟨(bkC BK902.out 0).trans rfl,(bkC BK902.out 1).trans rfl,(bkC BK906.out 0).trans rfl,(bkC BK906.out 1).trans rfl,(bkC BK906.out 2).trans rfl⟩ (fun hHeld => ?_)
      clear hK K
      refine norm_ (a' := ?_) ?_ ?_
      rotate_left
      ·show Act.put _ (some 24) _ = _
       simp only [Act.put,sq_,i64_w,i32_w]
       rfl
      exact norm_ (by simp only [putAll,Act.put,List.setIfInBounds_toArray,List.set_cons_zero,List.set_cons_succ]) (hCont (v908,v911) _ ⟨hHeld,(by (with_reducible repeat (first|apply Kd.V_alloc|apply Kd.V_drewN|apply Kd.V_drew));exact Kd.V_mono HL905_2.out (fun _ hk => ⟨hk.1.1.1,⟨hk.1.2,⟨hk.2,⟨hk.1.1.2.1,⟨hk.1.1.2.2.1,hk.1.1.2.2.2⟩⟩⟩⟩⟩)),(by (with_reducible repeat (first|apply Kd.N_alloc|apply Kd.N_drewN|apply Kd.N_drew));exact Kd.N_mono HO909.out (fun _ hk => ⟨hk.1.1,⟨hk.2,⟨hk.1.2.1,⟨hk.1.2.2.1,hk.1.2.2.2⟩⟩⟩⟩)),(by (with_reducible repeat (first|apply Kd.N_alloc|apply Kd.N_drewN|apply Kd.N_drew));exact HO912.out),(by (with_reducible repeat (first|apply Kd.V_alloc|apply Kd.V_drewN|apply Kd.V_drew));exact Kd.V_mono HO_903000.out (fun _ hk => ⟨hk.1.1.1,⟨hk.1.2,⟨hk.2,⟨hk.1.1.2.1,⟨hk.1.1.2.2.1,hk.1.1.2.2.2⟩⟩⟩⟩⟩)),(by (with_reducible repeat (first|refine bkN ?_ _|refine bkD ?_|refine bkA ?_ _));exact BK902.out),(by (with_reducible repeat (first|refine bkN ?_ _|refine bkD ?_|refine bkA ?_ _));exact BK903.out),(by (with_reducible repeat (first|refine bkN ?_ _|refine bkD ?_|refine bkA ?_ _));exact BK906.out),(by repeat (first|(with_reducible first|exact HB.out|apply bwA|apply bwN|apply bwD|refine bwS ?_ GE902.out|refine bwS ?_ GE903.out|refine bwS ?_ GE906.out)|exact HB.out))⟩)
     ·skip
      refine Kd.N_lit_step k45 _ 45 ?hg (N' := 24) ?hd (xs := ([(⟨(rd_T45 l0_0 a0_1).f0,(rd_T45 l0_0 a0_1).f1,(rd_T45 l0_0 a0_1).f2⟩ : S45)] : List (S45))) (inner := [.int .i64 ((rd_T45 l0_0 a0_1).f0),.int .i64 ((rd_T45 l0_0 a0_1).f1),.slice A905_2 ((rd_T45 l0_0 a0_1).f2).length c905_2]) (ok := (fun k_ => (P0_0_ k_ ∨ w.heap.size ≤ k_) ∧ k_ ≠ gb902 ∧ k_ ≠ gb903 ∧ k_ ≠ gb906)) (okp := (fun k_ => (P0_0_ k_ ∨ w.heap.size ≤ k_) ∧ k_ ≠ gb902 ∧ k_ ≠ gb903 ∧ k_ ≠ gb906)) ?hr ?hp (fun _ hk => hk) ((show ∀ k_,w29.heap.size ≤ k_ → (fun k_ => (P0_0_ k_ ∨ w.heap.size ≤ k_) ∧ k_ ≠ gb902 ∧ k_ ≠ gb903 ∧ k_ ≠ gb906) k_ from fun k_ hk => ⟨(.inr (Nat.le_trans (bwZ (by repeat (first|(with_reducible first|exact HB.out|apply bwA|apply bwN|apply bwD|refine bwS ?_ GE902.out|refine bwS ?_ GE903.out|refine bwS ?_ GE906.out)|exact HB.out))) hk)),Kd.freshB (g := gb902) (o := .cells #[.slice (some ad905) l0_0.length c0_0,.int .i64 a0_1] 29 (0,0)) (by (with_reducible repeat (first|refine bkN ?_ _|refine bkD ?_|refine bkA ?_ _));exact BK902.out) k_ hk,Kd.freshB (g := gb903) (o := .cells #[.slice none 0 0,.int .i64 0] 29 (0,0)) (by (with_reducible repeat (first|refine bkN ?_ _|refine bkD ?_|refine bkA ?_ _));exact BK903.out) k_ hk,Kd.freshB (g := gb906) (o := .cells #[.int .i64 ((rd_T45 l0_0 a0_1).f0),.int .i64 ((rd_T45 l0_0 a0_1).f1),.slice A905_2 ((rd_T45 l0_0 a0_1).f2).length c905_2] 45 (0,0)) (by (with_reducible repeat (first|refine bkN ?_ _|refine bkD ?_|refine bkA ?_ _));exact BK906.out) k_ hk⟩) _ (Nat.le_refl _)) (Below.refl _ _) (Nat.le_refl _) (by simp) ?_;(case hd => rfl);(case hg => rfl);(case hr => go_simp <;> rfl);(case hp => exact (Reps.c3 (show Kd.FK k45 _ _ (⟨(rd_T45 l0_0 a0_1).f0,(rd_T45 l0_0 a0_1).f1,(rd_T45 l0_0 a0_1).f2⟩ : S45) [.int .i64 ((rd_T45 l0_0 a0_1).f0),.int .i64 ((rd_T45 l0_0 a0_1).f1),.slice A905_2 ((rd_T45 l0_0 a0_1).f2).length c905_2] from (k45_mkF _ _ (⟨(rd_T45 l0_0 a0_1).f0,(rd_T45 l0_0 a0_1).f1,(rd_T45 l0_0 a0_1).f2⟩ : S45) (Kd.V_reads' (Kd.V_mono (ok' := (fun k_ => (P0_0_ k_ ∨ w.heap.size ≤ k_) ∧ k_ ≠ gb902 ∧ k_ ≠ gb903 ∧ k_ ≠ gb906)) (HL905_2.out) (fun k_ hk => ⟨hk.1,⟨hk.2.1,⟨hk.2.2.1,hk.2.2.2⟩⟩⟩))).2.1 (Kd.V_F (Kd.V_mono (ok' := (fun k_ => (P0_0_ k_ ∨ w.heap.size ≤ k_) ∧ k_ ≠ gb902 ∧ k_ ≠ gb903 ∧ k_ ≠ gb906)) (HL905_2.out) (fun k_ hk => ⟨hk.1,⟨hk.2.1,⟨hk.2.2.1,hk.2.2.2⟩⟩⟩))))) (Reps.none _ _)))
      intro v911 w30 ho31 hb hg_ hnew_
      clear hg_ hnew_
      (first|rw [← Ny910.out] at ho31|(simp only [Int.reduceToNat] at ho31;rw [← Ny910.out] at ho31))
      have n0_ := As_ (Kd.V_elder' (by (with_reducible repeat (first|apply Kd.V_alloc|apply Kd.V_drewN|apply Kd.V_drew));exact HO_903000.out) (Kd.N_base ho31) hb)
      have n1_ := As_ (Kd.V_elder' (by (with_reducible repeat (first|apply Kd.V_alloc|apply Kd.V_drewN|apply Kd.V_drew));exact HL905_2.out) (Kd.N_base ho31) hb)
      have n2_ := As_ (Kd.N_lower ho31 (bwZ (by repeat (first|(with_reducible first|exact HB.out|apply bwA|apply bwN|apply bwD|refine bwS ?_ GE902.out|refine bwS ?_ GE903.out|refine bwS ?_ GE906.out)|exact HB.out))))
      have n3_ := As_ (blk_below (g := gb902) (o := .cells #[.slice (some ad905) l0_0.length c0_0,.int .i64 a0_1] 29 (0,0)) (by (with_reducible repeat (first|refine bkN ?_ _|refine bkD ?_|refine bkA ?_ _));exact BK902.out) hb)
      have n4_ := As_ (blk_below (g := gb903) (o := .cells #[.slice none 0 0,.int .i64 0] 29 (0,0)) (by (with_reducible repeat (first|refine bkN ?_ _|refine bkD ?_|refine bkA ?_ _));exact BK903.out) hb)
      have n5_ := As_ (blk_below (g := gb906) (o := .cells #[.int .i64 ((rd_T45 l0_0 a0_1).f0),.int .i64 ((rd_T45 l0_0 a0_1).f1),.slice A905_2 ((rd_T45 l0_0 a0_1).f2).length c905_2] 45 (0,0)) (by (with_reducible repeat (first|refine bkN ?_ _|refine bkD ?_|refine bkA ?_ _));exact BK906.out) hb)
      have n6_ := As_ (bwT (by repeat (first|(with_reducible first|exact HB.out|apply bwA|apply bwN|apply bwD|refine bwS ?_ GE902.out|refine bwS ?_ GE903.out|refine bwS ?_ GE906.out)|exact HB.out)) hb)
      clear HO_903000
      clear HL905_2
      clear BK902
      clear BK903
      clear BK906
      clear HB
      have HO_903000 := n0_
      have HL905_2 := n1_
      have HO912 := n2_
      have BK902 := n3_
      have BK903 := n4_
      have BK906 := n5_
      have HB := n6_
      clear n0_ n1_ n2_ n3_ n4_ n5_ n6_
      clear hb ho31
      refine hK.out _ _ ⟨(bkC BK902.out 0).trans rfl,(bkC BK902.out 1).trans rfl,(bkC BK906.out 0).trans rfl,(bkC BK906.out 1).trans rfl,(bkC BK906.out 2).trans rfl⟩ (fun hHeld => ?_)
      clear hK K
      refine norm_ (a' := ?_) ?_ ?_
      rotate_left
      ·show Act.put _ (some 24) _ = _
       simp only [Act.put,sq_,i64_w,i32_w]
       rfl
      refine one_ (i := 2) (N := some 22) (bl_ 927 12) rfl rfl (one_of HT_.out (by kernel_rfl)) (by decide) (fun K hK => ?_)
      refine goes_ Try.func52 (by kernel_rfl) rfl #[.slice (some ad905) l0_0.length c0_0] (by rfl) rfl rfl (by (try simp only [List.map_toArray,List.map_cons,List.map_nil]);first|done|rfl|(simp only [List.length_drop,List.length_take];rfl)) ?_
      with_reducible refine (impl_Node.calls (fun k_ => (((P0_0_ k_ ∨ w.heap.size ≤ k_) ∧ (k_ ≠ gb902 ∧ (k_ ≠ gb903 ∧ k_ ≠ gb906))) ∧ some k_ ≠ (v911 : Value).ownBlock)) _ _ l0_0 t907 _ ?side1 A19.out).mono ?_
      (case side1 => exact HO_903000.out)
      rintro e w32 ⟨v908,rfl,ho0,hb⟩
      refine ⟨_,rfl,?_⟩
      have n0_ := As_ (Kd.V_elder' (by (with_reducible repeat (first|apply Kd.V_alloc|apply Kd.V_drewN|apply Kd.V_drew));exact HO_903000.out) (Kd.N_base ho0) hb)
      have n1_ := As_ (Kd.V_elder' (by (with_reducible repeat (first|apply Kd.V_alloc|apply Kd.V_drewN|apply Kd.V_drew));exact HL905_2.out) (Kd.N_base ho0) hb)
      have n2_ := As_ (Kd.N_elder' (by (with_reducible repeat (first|apply Kd.N_alloc|apply Kd.N_drewN|apply Kd.N_drew));exact HO912.out) (Kd.N_base ho0) hb)
      have n3_ := As_ (Kd.N_lower (Kd.N_mono (ok' := fun k_ => (P0_0_ k_ ∨ w.heap.size ≤ k_) ∧ some k_ ≠ (v911 : Value).ownBlock ∧ k_ ≠ gb902 ∧ k_ ≠ gb903 ∧ k_ ≠ gb906) ho0 (fun k_ hk_ => ⟨Or.elim hk_ (fun hs_ => hs_.1.1) (fun hn_ => (.inr (Nat.le_trans (bwZ (by repeat (first|(with_reducible first|exact HB.out|apply bwA|apply bwN|apply bwD|refine bwS ?_ GE902.out|refine bwS ?_ GE903.out|refine bwS ?_ GE906.out)|exact HB.out))) hn_))),Or.elim hk_ (fun hs_ => hs_.2) (fun hn_ => (Kd.fresh' (Kd.N_lt (by (with_reducible repeat (first|apply Kd.N_alloc|apply Kd.N_drewN|apply Kd.N_drew));exact HO912.out)) k_ hn_)),Or.elim hk_ (fun hs_ => hs_.1.2.1) (fun hn_ => (Kd.freshB (g := gb902) (o := .cells #[.slice (some ad905) l0_0.length c0_0,.int .i64 a0_1] 29 (0,0)) (by (with_reducible repeat (first|refine bkN ?_ _|refine bkD ?_|refine bkA ?_ _));exact BK902.out) k_ hn_)),Or.elim hk_ (fun hs_ => hs_.1.2.2.1) (fun hn_ => (Kd.freshB (g := gb903) (o := .cells #[.slice none 0 0,.int .i64 0] 29 (0,0)) (by (with_reducible repeat (first|refine bkN ?_ _|refine bkD ?_|refine bkA ?_ _));exact BK903.out) k_ hn_)),Or.elim hk_ (fun hs_ => hs_.1.2.2.2) (fun hn_ => (Kd.freshB (g := gb906) (o := .cells #[.int .i64 ((rd_T45 l0_0 a0_1).f0),.int .i64 ((rd_T45 l0_0 a0_1).f1),.slice A905_2 ((rd_T45 l0_0 a0_1).f2).length c905_2] 45 (0,0)) (by (with_reducible repeat (first|refine bkN ?_ _|refine bkD ?_|refine bkA ?_ _));exact BK906.out) k_ hn_))⟩)) (bwZ (by repeat (first|(with_reducible first|exact HB.out|apply bwA|apply bwN|apply bwD|refine bwS ?_ GE902.out|refine bwS ?_ GE903.out|refine bwS ?_ GE906.out)|exact HB.out))))
      have n4_ := As_ (blk_below (g := gb902) (o := .cells #[.slice (some ad905) l0_0.length c0_0,.int .i64 a0_1] 29 (0,0)) (by (with_reducible repeat (first|refine bkN ?_ _|refine bkD ?_|refine bkA ?_ _));exact BK902.out) hb)
      have n5_ := As_ (blk_below (g := gb903) (o := .cells #[.slice none 0 0,.int .i64 0] 29 (0,0)) (by (with_reducible repeat (first|refine bkN ?_ _|refine bkD ?_|refine bkA ?_ _));exact BK903.out) hb)
      have n6_ := As_ (blk_below (g := gb906) (o := .cells #[.int .i64 ((rd_T45 l0_0 a0_1).f0),.int .i64 ((rd_T45 l0_0 a0_1).f1),.slice A905_2 ((rd_T45 l0_0 a0_1).f2).length c905_2] 45 (0,0)) (by (with_reducible repeat (first|refine bkN ?_ _|refine bkD ?_|refine bkA ?_ _));exact BK906.out) hb)
      have n7_ := As_ (bwT (by repeat (first|(with_reducible first|exact HB.out|apply bwA|apply bwN|apply bwD|refine bwS ?_ GE902.out|refine bwS ?_ GE903.out|refine bwS ?_ GE906.out)|exact HB.out)) hb)
      clear HO_903000
      clear HL905_2
      clear HO912
      clear BK902
      clear BK903
      clear BK906
      clear HB
      have HO_903000 := n0_
      have HL905_2 := n1_
      have HO912 := n2_
      have HO909 := n3_
      have BK902 := n4_
      have BK903 := n5_
      have BK906 := n6_
      have HB := n7_
      clear n0_ n1_ n2_ n3_ n4_ n5_ n6_ n7_
      (try clear hb)
      (try clear hb2)
      (try clear hk)
      (try clear hi)
      (try clear ho0)
      refine hK.out _ _ ⟨(bkC BK902.out 0).trans rfl,(bkC BK902.out 1).trans rfl,(bkC BK906.out 0).trans rfl,(bkC BK906.out 1).trans rfl,(bkC BK906.out 2).trans rfl⟩ (fun hHeld => ?_)
      clear hK K
      refine norm_ (a' := ?_) ?_ ?_
      rotate_left
      ·show Act.put _ (some 22) _ = _
       simp only [Act.put,sq_,i64_w,i32_w]
       rfl
      exact norm_ (by simp only [putAll,Act.put,List.setIfInBounds_toArray,List.set_cons_zero,List.set_cons_succ]) (hCont (v908,v911) _ ⟨hHeld,(by (with_reducible repeat (first|apply Kd.V_alloc|apply Kd.V_drewN|apply Kd.V_drew));exact Kd.V_mono HL905_2.out (fun _ hk => ⟨hk.1.1.1,⟨hk.2,⟨hk.1.2,⟨hk.1.1.2.1,⟨hk.1.1.2.2.1,hk.1.1.2.2.2⟩⟩⟩⟩⟩)),(by (with_reducible repeat (first|apply Kd.N_alloc|apply Kd.N_drewN|apply Kd.N_drew));exact HO909.out),(by (with_reducible repeat (first|apply Kd.N_alloc|apply Kd.N_drewN|apply Kd.N_drew));exact Kd.N_mono HO912.out (fun _ hk => ⟨hk.1.1,⟨hk.2,⟨hk.1.2.1,⟨hk.1.2.2.1,hk.1.2.2.2⟩⟩⟩⟩)),(by (with_reducible repeat (first|apply Kd.V_alloc|apply Kd.V_drewN|apply Kd.V_drew));exact Kd.V_mono HO_903000.out (fun _ hk => ⟨hk.1.1.1,⟨hk.2,⟨hk.1.2,⟨hk.1.1.2.1,⟨hk.1.1.2.2.1,hk.1.1.2.2.2⟩⟩⟩⟩⟩)),(by (with_reducible repeat (first|refine bkN ?_ _|refine bkD ?_|refine bkA ?_ _));exact BK902.out),(by (with_reducible repeat (first|refine bkN ?_ _|refine bkD ?_|refine bkA ?_ _));exact BK903.out),(by (with_reducible repeat (first|refine bkN ?_ _|refine bkD ?_|refine bkA ?_ _));exact BK906.out),(by repeat (first|(with_reducible first|exact HB.out|apply bwA|apply bwN|apply bwD|refine bwS ?_ GE902.out|refine bwS ?_ GE903.out|refine bwS ?_ GE906.out)|exact HB.out))⟩)
    rintro ⟨v908,v911⟩ w33 ⟨hS_,h0_,h1_,h2_,h3_,h4_,h5_,h6_,h7_⟩
    have n0_ : Aside0 (Kd.V (Kd.int .i64) 3 w33 w.heap.size (fun k_ => (P0_0_ k_ ∨ w.heap.size ≤ k_) ∧ some k_ ≠ (v908 : Value).ownBlock ∧ some k_ ≠ (v911 : Value).ownBlock ∧ k_ ≠ gb902 ∧ k_ ≠ gb903 ∧ k_ ≠ gb906) (.slice A905_2 ((rd_T45 l0_0 a0_1).f2).length c905_2) ((rd_T45 l0_0 a0_1).f2)) := ⟨h0_⟩
    have n1_ : Aside0 (Kd.N k45 45 w33 w.heap.size (fun k_ => (P0_0_ k_ ∨ w.heap.size ≤ k_) ∧ some k_ ≠ (v911 : Value).ownBlock ∧ k_ ≠ gb902 ∧ k_ ≠ gb903 ∧ k_ ≠ gb906) v908 t907) := ⟨h1_⟩
    have n2_ : Aside0 (Kd.N k45 45 w33 w.heap.size (fun k_ => (P0_0_ k_ ∨ w.heap.size ≤ k_) ∧ some k_ ≠ (v908 : Value).ownBlock ∧ k_ ≠ gb902 ∧ k_ ≠ gb903 ∧ k_ ≠ gb906) v911 y910) := ⟨h2_⟩
    have n3_ : Aside0 (Kd.V k45 45 w33 w.heap.size (fun k_ => (P0_0_ k_ ∨ w.heap.size ≤ k_) ∧ some k_ ≠ (v908 : Value).ownBlock ∧ some k_ ≠ (v911 : Value).ownBlock ∧ k_ ≠ gb902 ∧ k_ ≠ gb903 ∧ k_ ≠ gb906) (.slice (some ad905) l0_0.length c0_0) l0_0) := ⟨h3_⟩
    have n4_ : Aside0 (w33.heap[gb902]? = some (.cells #[.slice (some ad905) l0_0.length c0_0,.int .i64 a0_1] 29 (0,0))) := ⟨h4_⟩
    have n5_ : Aside0 (w33.heap[gb903]? = some (.cells #[.slice none 0 0,.int .i64 0] 29 (0,0))) := ⟨h5_⟩
    have n6_ : Aside0 (w33.heap[gb906]? = some (.cells #[.int .i64 ((rd_T45 l0_0 a0_1).f0),.int .i64 ((rd_T45 l0_0 a0_1).f1),.slice A905_2 ((rd_T45 l0_0 a0_1).f2).length c905_2] 45 (0,0))) := ⟨h6_⟩
    have n7_ : Aside0 (Below w.heap.size w w33) := ⟨h7_⟩
    clear HO_903000
    clear HL905_2
    clear BK902
    clear BK903
    clear BK906
    clear HB
    clear h0_ h1_ h2_ h3_ h4_ h5_ h6_ h7_
    have HL905_2 := n0_
    have HO909 := n1_
    have HO912 := n2_
    have HO_903000 := n3_
    have BK902 := n4_
    have BK903 := n5_
    have BK906 := n6_
    have HB := n7_
    clear n0_ n1_ n2_ n3_ n4_ n5_ n6_ n7_
    have hHeld : w33.cell? ⟨gb902,0,none⟩ = some (.slice (some ad905) l0_0.length c0_0) ∧ w33.cell? ⟨gb902,1,none⟩ = some (.int .i64 a0_1) ∧ w33.cell? ⟨gb906,0,none⟩ = some (.int .i64 ((rd_T45 l0_0 a0_1).f0)) ∧ w33.cell? ⟨gb906,1,none⟩ = some (.int .i64 ((rd_T45 l0_0 a0_1).f1)) ∧ w33.cell? ⟨gb906,2,none⟩ = some (.slice A905_2 ((rd_T45 l0_0 a0_1).f2).length c905_2) := hS_
    obtain ⟨Ao35,co35,eo35⟩ := Kd.N_slice HO912.out
    (first|subst eo35|(injection eo35 with f1_ f2_ f3_;have f4_ := f1_.symm;have f5_ := f3_.symm;clear f1_ f2_ f3_;subst f4_;subst f5_))
    refine norm_ (a' := ?_) ?_ ?_
    rotate_left
    ·simp only [putAll,Act.put,List.setIfInBounds_toArray,List.set_cons_zero,List.set_cons_succ]
     rfl
    refine one_ (i := 5) (N := some 25) (bl_ 959 12) rfl rfl (one_of HT_.out (by kernel_rfl)) (by decide) (fun K hK => ?_)
    refine Kd.N_append_rows_step k45 (w0 := w) w.heap.size (by rfl) (.tmp 22) (.tmp 24) 27 45 (.agg #[(.int .i64 0),(.int .i64 0),(.slice none 0 0)]) 40 rfl Try.underlying27 info45 rfl (by decide) (by omega) v908 t907 y910 _ _ _ (fun k_ => (P0_0_ k_ ∨ w.heap.size ≤ k_) ∧ k_ ≠ gb902 ∧ k_ ≠ gb903 ∧ k_ ≠ gb906) (fun k_ => ((fun k_ => (P0_0_ k_ ∨ w.heap.size ≤ k_) ∧ k_ ≠ gb902 ∧ k_ ≠ gb903 ∧ k_ ≠ gb906)) k_ ∧ some k_ ≠ (v908 : Value).ownBlock) rfl rfl ?aO ?aR (fun _ hk => hk) ?aF ?aB ?aS ?aL ?_
    (case aR => exact (by skip;exact Kd.N_F (Kd.N_mono (ok' := (fun k_ => ((fun k_ => (P0_0_ k_ ∨ w.heap.size ≤ k_) ∧ k_ ≠ gb902 ∧ k_ ≠ gb903 ∧ k_ ≠ gb906)) k_ ∧ some k_ ≠ (v908 : Value).ownBlock)) (HO912.out) (fun k_ hk => ⟨⟨hk.1,⟨hk.2.2.1,⟨hk.2.2.2.1,hk.2.2.2.2⟩⟩⟩,hk.2.1⟩))))
    (case aB => exact (by repeat (first|(with_reducible first|exact HB.out|apply bwA|apply bwN|apply bwD|refine bwS ?_ GE902.out|refine bwS ?_ GE903.out|refine bwS ?_ GE906.out)|exact HB.out)))
    (case aF => exact (fun k_ hk => ⟨(.inr (Nat.le_trans (bwZ (by repeat (first|(with_reducible first|exact HB.out|apply bwA|apply bwN|apply bwD|refine bwS ?_ GE902.out|refine bwS ?_ GE903.out|refine bwS ?_ GE906.out)|exact HB.out))) hk)),Kd.freshB (g := gb902) (o := .cells #[.slice (some ad905) l0_0.length c0_0,.int .i64 a0_1] 29 (0,0)) (by (with_reducible repeat (first|refine bkN ?_ _|refine bkD ?_|refine bkA ?_ _));exact BK902.out) k_ hk,Kd.freshB (g := gb903) (o := .cells #[.slice none 0 0,.int .i64 0] 29 (0,0)) (by (with_reducible repeat (first|refine bkN ?_ _|refine bkD ?_|refine bkA ?_ _));exact BK903.out) k_ hk,Kd.freshB (g := gb906) (o := .cells #[.int .i64 ((rd_T45 l0_0 a0_1).f0),.int .i64 ((rd_T45 l0_0 a0_1).f1),.slice A905_2 ((rd_T45 l0_0 a0_1).f2).length c905_2] 45 (0,0)) (by (with_reducible repeat (first|refine bkN ?_ _|refine bkD ?_|refine bkA ?_ _));exact BK906.out) k_ hk⟩))
    (case aO => exact (by (with_reducible repeat (first|apply Kd.N_alloc|apply Kd.N_drewN|apply Kd.N_drew));exact Kd.N_mono HO909.out (fun _ hk => ⟨hk.1,⟨hk.2.2.1,⟨hk.2.2.2.1,hk.2.2.2.2⟩⟩⟩)))
    (case aS => exact (bwZ (by repeat (first|(with_reducible first|exact HB.out|apply bwA|apply bwN|apply bwD|refine bwS ?_ GE902.out|refine bwS ?_ GE903.out|refine bwS ?_ GE906.out)|exact HB.out))))
    (case aL => have := LMc20.out;omega)
    intro v914 w34 ho hb hg hat
    rw [← Ny913.out] at ho
    have n0_ := As_ (Kd.V_afterv (ok := (fun k_ => (P0_0_ k_ ∨ w.heap.size ≤ k_) ∧ some k_ ≠ (.slice Ao35 y910.length co35 : Value).ownBlock ∧ k_ ≠ gb902 ∧ k_ ≠ gb903 ∧ k_ ≠ gb906)) (by (with_reducible repeat (first|apply Kd.V_alloc|apply Kd.V_drewN|apply Kd.V_drew));exact Kd.V_mono HO_903000.out (fun _ hk => ⟨⟨hk.1,⟨hk.2.2.1,⟨hk.2.2.2.1,⟨hk.2.2.2.2.1,hk.2.2.2.2.2⟩⟩⟩⟩,hk.2.1⟩)) hg hat)
    have n1_ := As_ (blk_grown (g := gb902) (o := .cells #[.slice (some ad905) l0_0.length c0_0,.int .i64 a0_1] 29 (0,0)) (by (with_reducible repeat (first|refine bkN ?_ _|refine bkD ?_|refine bkA ?_ _));exact BK902.out) hg (Kd.N_ne HO909.out BK902.out (by decide)))
    have n2_ := As_ (blk_grown (g := gb903) (o := .cells #[.slice none 0 0,.int .i64 0] 29 (0,0)) (by (with_reducible repeat (first|refine bkN ?_ _|refine bkD ?_|refine bkA ?_ _));exact BK903.out) hg (Kd.N_ne HO909.out BK903.out (by decide)))
    have n3_ := As_ (Kd.V_afterv (ok := (fun k_ => (P0_0_ k_ ∨ w.heap.size ≤ k_) ∧ some k_ ≠ (.slice Ao35 y910.length co35 : Value).ownBlock ∧ k_ ≠ gb902 ∧ k_ ≠ gb903 ∧ k_ ≠ gb906)) (by (with_reducible repeat (first|apply Kd.V_alloc|apply Kd.V_drewN|apply Kd.V_drew));exact Kd.V_mono HL905_2.out (fun _ hk => ⟨⟨hk.1,⟨hk.2.2.1,⟨hk.2.2.2.1,⟨hk.2.2.2.2.1,hk.2.2.2.2.2⟩⟩⟩⟩,hk.2.1⟩)) hg hat)
    have n4_ := As_ (blk_grown (g := gb906) (o := .cells #[.int .i64 ((rd_T45 l0_0 a0_1).f0),.int .i64 ((rd_T45 l0_0 a0_1).f1),.slice A905_2 ((rd_T45 l0_0 a0_1).f2).length c905_2] 45 (0,0)) (by (with_reducible repeat (first|refine bkN ?_ _|refine bkD ?_|refine bkA ?_ _));exact BK906.out) hg (Kd.N_away HO909.out (fun _ hk => hk.2.2.2.2)))
    have n5_ := As_ (Kd.N_afterv (ok := (fun k_ => (P0_0_ k_ ∨ w.heap.size ≤ k_) ∧ k_ ≠ gb902 ∧ k_ ≠ gb903 ∧ k_ ≠ gb906)) (by (with_reducible repeat (first|apply Kd.N_alloc|apply Kd.N_drewN|apply Kd.N_drew));exact Kd.N_mono HO912.out (fun _ hk => ⟨⟨hk.1,⟨hk.2.2.1,⟨hk.2.2.2.1,hk.2.2.2.2⟩⟩⟩,hk.2.1⟩)) hg hat)
    have n6_ := As_ (hb)
    have n7_ := As_ (ho)
    clear HO_903000
    clear BK902
    clear BK903
    clear HL905_2
    clear BK906
    clear HO912
    clear HB
    clear HO909
    have HO_903000 := n0_
    have BK902 := n1_
    have BK903 := n2_
    have HL905_2 := n3_
    have BK906 := n4_
    have HO912 := n5_
    have HB := n6_
    have HO915 := n7_
    clear n0_ n1_ n2_ n3_ n4_ n5_ n6_ n7_
    clear ho hb hg hat
    obtain ⟨Ao36,co36,eo36⟩ := Kd.N_slice HO915.out
    (first|subst eo36|(injection eo36 with f1_ f2_ f3_;have f4_ := f1_.symm;have f5_ := f3_.symm;clear f1_ f2_ f3_;subst f4_;subst f5_))
    refine hK.out _ _ ⟨(bkC BK902.out 0).trans rfl,(bkC BK902.out 1).trans rfl,(bkC BK906.out 0).trans rfl,(bkC BK906.out 1).trans rfl,(bkC BK906.out 2).trans rfl⟩ (fun hHeld => ?_)
    clear hK K
    refine norm_ (a' := ?_) ?_ ?_
    rotate_left
    ·show Act.put _ (some 25) _ = _
     simp only [Act.put,sq_,i64_w,i32_w]
     rfl
    refine one_ (i := 6) (N := some 26) (bl_ 1023 12) rfl rfl (one_of HT_.out (by kernel_rfl)) (by decide) (fun K hK => ?_)
    refine goes_ Try.func79 (by kernel_rfl) rfl #[.slice Ao36 y913.length co36] (by rfl) rfl rfl (by (try simp only [List.map_toArray,List.map_cons,List.map_nil]);first|done|rfl|(simp only [List.length_drop,List.length_take];rfl)) ?_
    with_reducible refine (impl_copyNodes.calls kj1 _ _ y913 t916 _ ?side1 ?side2 A21.out).mono ?_
    (case side1 => repeat (first|exact (Kd.N_reads' HO915.out).2.2|(with_reducible refine Kd.C_alloc ?_ _)|(with_reducible refine Kd.C_drewN ?_ _)|(with_reducible refine Kd.C_drew ?_)))
    (case side2 => exact (Kd.N_reads' HO915.out).2.1)
    rintro e w37 ⟨v917,rfl,ho0,hb⟩
    refine ⟨_,rfl,?_⟩
    have n0_ := As_ (Kd.V_elder' (by (with_reducible repeat (first|apply Kd.V_alloc|apply Kd.V_drewN|apply Kd.V_drew));exact HO_903000.out) (Kd.S_base ho0) hb)
    have n1_ := As_ (Kd.V_elder' (by (with_reducible repeat (first|apply Kd.V_alloc|apply Kd.V_drewN|apply Kd.V_drew));exact HL905_2.out) (Kd.S_base ho0) hb)
    have n2_ := As_ (Kd.N_elder' (by (with_reducible repeat (first|apply Kd.N_alloc|apply Kd.N_drewN|apply Kd.N_drew));exact HO912.out) (Kd.S_base ho0) hb)
    have n3_ := As_ (Kd.N_elder' (by (with_reducible repeat (first|apply Kd.N_alloc|apply Kd.N_drewN|apply Kd.N_drew));exact HO915.out) (Kd.S_base ho0) hb)
    have n4_ := As_ (Kd.S_lower (Kd.S_mono (ok' := fun k_ => (P0_0_ k_ ∨ w.heap.size ≤ k_) ∧ some k_ ≠ (.slice Ao35 y910.length co35 : Value).ownBlock ∧ some k_ ≠ (.slice Ao36 y913.length co36 : Value).ownBlock ∧ k_ ≠ gb902 ∧ k_ ≠ gb903 ∧ k_ ≠ gb906) (Kd.S_bound ho0) (fun k_ hk_ => ⟨(.inr (Nat.le_trans (bwZ (by repeat (first|(with_reducible first|exact HB.out|apply bwA|apply bwN|apply bwD|refine bwS ?_ GE902.out|refine bwS ?_ GE903.out|refine bwS ?_ GE906.out)|exact HB.out))) hk_.2.1)),(Kd.fresh' (Kd.N_lt (by (with_reducible repeat (first|apply Kd.N_alloc|apply Kd.N_drewN|apply Kd.N_drew));exact HO912.out)) k_ hk_.2.1),(Kd.fresh' (Kd.N_lt (by (with_reducible repeat (first|apply Kd.N_alloc|apply Kd.N_drewN|apply Kd.N_drew));exact HO915.out)) k_ hk_.2.1),(Kd.freshB (g := gb902) (o := .cells #[.slice (some ad905) l0_0.length c0_0,.int .i64 a0_1] 29 (0,0)) (by (with_reducible repeat (first|refine bkN ?_ _|refine bkD ?_|refine bkA ?_ _));exact BK902.out) k_ hk_.2.1),(Kd.freshB (g := gb903) (o := .cells #[.slice none 0 0,.int .i64 0] 29 (0,0)) (by (with_reducible repeat (first|refine bkN ?_ _|refine bkD ?_|refine bkA ?_ _));exact BK903.out) k_ hk_.2.1),(Kd.freshB (g := gb906) (o := .cells #[.int .i64 ((rd_T45 l0_0 a0_1).f0),.int .i64 ((rd_T45 l0_0 a0_1).f1),.slice A905_2 ((rd_T45 l0_0 a0_1).f2).length c905_2] 45 (0,0)) (by (with_reducible repeat (first|refine bkN ?_ _|refine bkD ?_|refine bkA ?_ _));exact BK906.out) k_ hk_.2.1)⟩)) (bwZ (by repeat (first|(with_reducible first|exact HB.out|apply bwA|apply bwN|apply bwD|refine bwS ?_ GE902.out|refine bwS ?_ GE903.out|refine bwS ?_ GE906.out)|exact HB.out))))
    have n5_ := As_ (blk_below (g := gb902) (o := .cells #[.slice (some ad905) l0_0.length c0_0,.int .i64 a0_1] 29 (0,0)) (by (with_reducible repeat (first|refine bkN ?_ _|refine bkD ?_|refine bkA ?_ _));exact BK902.out) hb)
    have n6_ := As_ (blk_below (g := gb903) (o := .cells #[.slice none 0 0,.int .i64 0] 29 (0,0)) (by (with_reducible repeat (first|refine bkN ?_ _|refine bkD ?_|refine bkA ?_ _));exact BK903.out) hb)
    have n7_ := As_ (blk_below (g := gb906) (o := .cells #[.int .i64 ((rd_T45 l0_0 a0_1).f0),.int .i64 ((rd_T45 l0_0 a0_1).f1),.slice A905_2 ((rd_T45 l0_0 a0_1).f2).length c905_2] 45 (0,0)) (by (with_reducible repeat (first|refine bkN ?_ _|refine bkD ?_|refine bkA ?_ _));exact BK906.out) hb)
    have n8_ := As_ (bwT (by repeat (first|(with_reducible first|exact HB.out|apply bwA|apply bwN|apply bwD|refine bwS ?_ GE902.out|refine bwS ?_ GE903.out|refine bwS ?_ GE906.out)|exact HB.out)) hb)
    clear HO_903000
    clear HL905_2
    clear HO912
    clear HO915
    clear BK902
    clear BK903
    clear BK906
    clear HB
    have HO_903000 := n0_
    have HL905_2 := n1_
    have HO912 := n2_
    have HO915 := n3_
    have HO918 := n4_
    have BK902 := n5_
    have BK903 := n6_
    have BK906 := n7_
    have HB := n8_
    clear n0_ n1_ n2_ n3_ n4_ n5_ n6_ n7_ n8_
    (try clear hb)
    (try clear hb2)
    (try clear hk)
    (try clear hi)
    (try clear ho0)
    obtain ⟨Ao38,co38,eo38⟩ := Kd.S_slice HO918.out
    (first|subst eo38|(injection eo38 with f1_ f2_ f3_;have f4_ := f1_.symm;have f5_ := f3_.symm;clear f1_ f2_ f3_;subst f4_;subst f5_))
    refine hK.out _ _ ⟨(bkC BK902.out 0).trans rfl,(bkC BK902.out 1).trans rfl,(bkC BK906.out 0).trans rfl,(bkC BK906.out 1).trans rfl,(bkC BK906.out 2).trans rfl⟩ (fun hHeld => ?_)
    clear hK K
    refine norm_ (a' := ?_) ?_ ?_
    rotate_left
    ·show Act.put _ (some 26) _ = _
     simp only [Act.put,sq_,i64_w,i32_w]
     rfl
    refine pP 10 30 (bl_ 2047 12) ?_ HT_ rfl rfl (by kernel_rfl) (fun _ _ _ h => h) (.inl ⟨by rfl,?_⟩) ?_ ?_ ?_;rotate_left;(intro w';go_simp;with_reducible rfl);rotate_left;(simp only [Act.put,sq_,i64_w,i32_w];rfl)
    refine one_ (i := 11) (N := none) (bl_ 4095 12) rfl rfl (one_of HT_.out (by kernel_rfl)) (by decide) (fun K hK => ?_)
    have hs39 : w37.cell? ⟨gb903,0,none⟩ = some (.slice none 0 0) := (bkC BK903.out 0).trans rfl
    have hfs39 := bkF BK903.out 0
    have hns39_0 := NB902_903.out
    have hns39_2 := NB906_903.out
    have hms39_0 := NB903_902.out
    have hms39_2 := NB903_906.out
    have hs40 : w37.cell? ⟨gb903,1,none⟩ = some (.int .i64 0) := (bkC BK903.out 1).trans rfl
    have hfs40 := bkF BK903.out 1
    have hns40_0 := NB902_903.out
    have hns40_2 := NB906_903.out
    have hms40_0 := NB903_902.out
    have hms40_2 := NB903_906.out
    refine skip_ (w1 := ?_) (by rfl) rfl ?_ ?_
    rotate_left
    ·go_simp
     rfl
    refine hK.out _ _ ⟨((cell_far (p := ⟨gb903,_,none⟩) NB902_903.out _).trans (((cell_far (p := ⟨gb903,_,none⟩) NB902_903.out _).trans (hHeld.1)))),((cell_far (p := ⟨gb903,_,none⟩) NB902_903.out _).trans (((cell_far (p := ⟨gb903,_,none⟩) NB902_903.out _).trans (hHeld.2.1)))),((cell_far (p := ⟨gb903,_,none⟩) NB906_903.out _).trans (((cell_far (p := ⟨gb903,_,none⟩) NB906_903.out _).trans (hHeld.2.2.1)))),((cell_far (p := ⟨gb903,_,none⟩) NB906_903.out _).trans (((cell_far (p := ⟨gb903,_,none⟩) NB906_903.out _).trans (hHeld.2.2.2.1)))),((cell_far (p := ⟨gb903,_,none⟩) NB906_903.out _).trans (((cell_far (p := ⟨gb903,_,none⟩) NB906_903.out _).trans (hHeld.2.2.2.2))))⟩ (fun hHeld => ?_)
    clear hK K
    refine done_ (done_of HT_.out (by kernel_rfl)) ?_
    try go_wp2
    refine bodyPost_ret (results_cell_row rfl _ _ gb903 29 #[.slice Ao38 t916.length co38,.int .i64 (l0_0.length : Int)] (0,0) _ rfl (by (with_reducible repeat (first|refine bkN ?_ _|refine bkD ?_|refine bkA ?_ _));refine blk_put (cs := #[.slice Ao38 t916.length co38,.int .i64 0]) ?_ 1 _ rfl;(with_reducible repeat (first|refine bkN ?_ _|refine bkD ?_|refine bkA ?_ _));refine blk_put (cs := #[.slice none 0 0,.int .i64 0]) ?_ 0 _ rfl;(with_reducible repeat (first|refine bkN ?_ _|refine bkD ?_|refine bkA ?_ _));exact BK903.out) Try.underlying29 rfl (by kernel_rfl)) rfl ?_
    exact ⟨_,by first|rfl|(simp [errW_none,errW_some] <;> rfl)|(simp [*,errW_none,errW_some] <;> rfl),by (with_reducible repeat (first|apply Kd.S_alloc|apply Kd.S_drewN|apply Kd.S_drew));exact Kd.S_mono (Kd.S_far (p := ⟨gb903,1,none⟩) (Kd.S_far (p := ⟨gb903,0,none⟩) (Kd.S_mono HO918.out (fun k_ hk => (⟨hk,hk.2.2.2.2.1⟩ : _ ∧ k_ ≠ gb903))) (fun _ hk => hk.2) (.slice Ao38 t916.length co38)) (fun _ hk => hk.2) (.int .i64 (l0_0.length : Int))) (fun _ hk => hk.1.1),by repeat (first|(with_reducible first|exact HB.out|apply bwA|apply bwN|apply bwD|refine bwS ?_ GE902.out|refine bwS ?_ GE903.out|refine bwS ?_ GE906.out)|exact HB.out)⟩
set_option maxHeartbeats 1000000 in
theorem impl_ShallowCopy.calls (k : Nat) (A0_0 : Option Addr) (c0_0 : Nat) (l0_0 : List (S45)) (a0_1 : Int) (r1 : List (S45)) (r2 : Int) (w : World) (hr0_0 : Kd.C k45 w A0_0 l0_0.length l0_0) (hc0_0 : l0_0.length ≤ c0_0) (h : impl_ShallowCopy.f k l0_0 a0_1 = some (r1,r2)) :
  Calls Try.prog 46 #[.agg #[.slice A0_0 l0_0.length c0_0,.int .i64 a0_1]] w fun e w' => ∃ v0_ : Value,e = .returned (.agg #[v0_,.int .i64 r2]) ∧ Kd.S k45 45 w' w.heap.size (fun _ => True) v0_ r1 ∧ Below w.heap.size w w' := by
 refine (impl_ShallowCopy.callsV k (fun k_ => k_ < w.heap.size) A0_0 c0_0 l0_0 a0_1 r1 r2 w (Kd.V_mk hc0_0 (Kd.C_F k45_heap hr0_0)) h).mono ?_
 rintro e w' ⟨v0,he,ho,hb⟩
 exact ⟨v0,he,Kd.S_mono ho (fun _ _ => trivial),hb⟩

end Go.Proofs.Ytfhakhbmbnbneaa.Q
