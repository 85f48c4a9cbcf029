-- Written by wip/tools/qprint.py (a program of this claim's author) by means of the kit's printer.
import Derived.Test.YtbokjhdhpmmpfaaQ0
import Derived.Test.YtbokjhdhpmmpfaaQ77
import Derived.Test.YtbokjhdhpmmpfaaQ81
namespace Go.Proofs.Ytbokjhdhpmmpfaa.Q
open Go.RowKit Go.Proofs.YtbokjhdhpmmpfaaW.PrintWords Go.Proofs.YtbokjhdhpmmpfaaW.PrintLast Go.Proofs.YtbokjhdhpmmpfaaW.PrintMore
attribute [local go_sem] max2_int min2_int max_two min_two max_three min_three max_four min_four   -- for this text's walks alone
set_option linter.unusedVariables false
set_option linter.unusedSimpArgs false

/-! ### impl_copyNodes: function 127 -/
def impl_copyNodes.l0 : Nat → List (S88) → List (S88) → Int → Int → Option ((List (S88)))
 | 0,_,_,_,_ => none
 | k + 1,x3,x7,x8,x9 => if x9 < x8 then (if 0 ≤ x9 then (if x9 < (x7.length : Int) then ((slices_Clone_int_int.f ((rd_T88 x7 x9).f2)).bind fun t1102 => (if x3.length < 3518437208883 then (impl_copyNodes.l0 k (x3 ++ [(⟨(rd_T88 x7 x9).f0,(rd_T88 x7 x9).f1,t1102⟩ : S88)]) x7 x8 (wrap64 (x9 + 1))) else (none))) else (none)) else (none)) else (some x3)
def impl_copyNodes.f (k : Nat) (l0 : List (S88)) : Option ((List (S88))) := impl_copyNodes.l0 k (([] : List (S88))) l0 (l0.length : Int) 0
set_option maxRecDepth 100000 in
theorem impl_copyNodes.mono_l : ∀ k,(∀ y0 y1 y2 y3,LeO (impl_copyNodes.l0 k y0 y1 y2 y3) (impl_copyNodes.l0 (k + 1) y0 y1 y2 y3))
 | 0 => fun _ _ _ _ r h => (by cases h)
 | k + 1 => by
  have ih0 := impl_copyNodes.mono_l k
  ·intro y0 y1 y2 y3
   unfold impl_copyNodes.l0
   repeat' first
   | (with_reducible exact ih0 _ _ _ _)
   | (with_reducible exact LeO.refl _)
   | (with_reducible exact LeO.none _)
   | (with_reducible refine LeO.ite ?_ ?_)
   | (with_reducible refine LeO.bind ?_ (fun _ => ?_))
   | exact ih0 _ _ _ _
   | exact LeO.none _
   | refine LeO.ite ?_ ?_
   | refine LeO.bind ?_ (fun _ => ?_)
set_option maxRecDepth 100000 in
theorem impl_copyNodes.mono : ∀ a0 k,LeO (impl_copyNodes.f k a0) (impl_copyNodes.f (k + 1) a0) := by
 intro a0 k
 have ih0 := impl_copyNodes.mono_l k
 unfold impl_copyNodes.f
 repeat' first
   | (with_reducible exact ih0 _ _ _ _)
   | (with_reducible exact LeO.refl _)
   | (with_reducible exact LeO.none _)
   | (with_reducible refine LeO.ite ?_ ?_)
   | (with_reducible refine LeO.bind ?_ (fun _ => ?_))
   | exact ih0 _ _ _ _
   | exact LeO.none _
   | refine LeO.ite ?_ ?_
   | refine LeO.bind ?_ (fun _ => ?_)
def impl_copyNodes.T5 : Bool × List (List Nat × List Nat) := (true,[([],[]),([],[]),([1],[1]),([],[]),([3],[3]),([],[]),([5],[5]),([6],[6]),([2,4,7],[2,4,7]),([8],[8]),([0,9,7],[0,9]),([10,10,0,1,2,3,4,5,6,7,8,9,10],[0,10])])
def impl_copyNodes.B5 : List Nat := [0,0,2,0,8,0,32,96,254,510,1023,2047]
theorem impl_copyNodes.tab5 : rtab .any (opsOf Try.f127 5) = impl_copyNodes.T5 := by kernel_rfl
theorem impl_copyNodes.bits5 : waitsOk impl_copyNodes.T5.2 impl_copyNodes.B5 = true := by kernel_rfl
set_option maxHeartbeats 8000000 in
set_option maxRecDepth 100000 in
theorem impl_copyNodes.calls (k : Nat) (A0 : Option Addr) (c0 : Nat) (l0 : List (S88)) (r : List (S88)) (w : World) (hr0 : Kd.C k88 w A0 l0.length l0) (hc0 : l0.length ≤ c0) (h : impl_copyNodes.f k l0 = some r) :
  Calls Try.prog 127 #[.slice A0 l0.length c0] w fun e w' => ∃ v0_ : Value,e = .returned (v0_) ∧ Kd.S k88 88 w' w.heap.size (fun _ => True) v0_ r ∧ Below w.heap.size w w' := by
 have hu88 := Try.underlying88
 have HR0 := Aside0.mk hr0
 have HC0 := Aside0.mk hc0
 clear hr0 hc0
 have HB := Aside0.mk (Below.refl w.heap.size w)
 have H : (impl_copyNodes.l0 k (([] : List (S88))) l0 (l0.length : Int) 0) = some r := h
 clear h
 obtain ⟨y1097,hy1097⟩ : ∃ y_ : List (S88),y_ = (([] : List (S88))) := ⟨_,rfl⟩
 replace H : (impl_copyNodes.l0 k y1097 l0 (l0.length : Int) 0) = some r := by first|(rw [hy1097];with_reducible exact H)|(have H2_ := (Option.bind_some _ _).symm.trans H;rw [hy1097];with_reducible exact H2_)|(have H2_ := (Option.bind_some _ _).symm.trans H;with_reducible exact H2_)|with_reducible exact H|(rw [hy1097];exact H)|exact H
 have Ny1097 := Aside0.mk hy1097
 clear hy1097
 have H' := Aside0.mk H
 clear H
 go_enter Try.func127,Try.ntmps127
 go_wp2_with (first|((with_reducible refine gate_dst (N := 6) rfl ?_);refine Kd.S_lit k88 _ 88 ?hg (N := 6) ?hd (xs := ([] : List (S88))) (inner := []) (ok := fun _ => True) (okp := fun _ => True) ?hr ?hp (fun _ hk => hk) trivial (Below.refl _ _) (Nat.le_refl _) (by simp) ?_;(case hd => rfl);(case hg => rfl);(case hr => first|(go_simp;done)|(go_simp;rfl));(case hp => exact (Reps.none _ _));intro v1098 w2 ho3 hb hg_ hnew_;clear hg_ hnew_;(first|rw [← Ny1097.out] at ho3|(simp only [Int.reduceToNat] at ho3;rw [← Ny1097.out] at ho3));have n0_ := Aside0.mk (Kd.S_lower ho3 (below_size (by repeat (first|(with_reducible first|exact HB.out|apply below_alloc|apply pw_below_drewN|apply below_drew1)|exact HB.out))));have n1_ := Aside0.mk (below_step (by repeat (first|(with_reducible first|exact HB.out|apply below_alloc|apply pw_below_drewN|apply below_drew1)|exact HB.out)) hb);clear HB;have HO1099 := n0_;have HB := n1_;clear n0_ n1_;clear hb ho3))
 go_loopg [3,9] k (fun kq v3 v9 w' => ∃ (x3_1 : List (S88)) (x9_1 : Int),v9 = .int .i64 x9_1 ∧ Aside0 (impl_copyNodes.l0 kq x3_1 l0 (l0.length : Int) x9_1 = some r) ∧ Aside0 (kq ≤ k) ∧ Aside0 (Kd.S k88 88 w' w.heap.size (fun _ => True) v3 x3_1) ∧ Aside0 (Below w.heap.size w w'))
 case atStart => exact ⟨(y1097),(0),(by first|rfl|(simp;done)|(simp [*];done)),H',⟨Nat.le_refl _⟩,⟨by (with_reducible repeat (first|apply Kd.S_alloc|apply Kd.S_drewN|apply Kd.S_drew));exact HO1099.out⟩,⟨by repeat (first|(with_reducible first|exact HB.out|apply below_alloc|apply pw_below_drewN|apply below_drew1)|exact HB.out)⟩⟩
 case round =>
  clear H'
  try clear c1
  try clear p2
  obtain ⟨x3_1,x9_1,rfl,HA,HK1,HO_3,HB⟩ := hrel
  cases gk with
  | zero => exact absurd HA.out (fun h_ => (by cases h_))
  | succ k1 =>
   have H := HA.out
   clear HA
   simp only [impl_copyNodes.l0] at H
   by_cases c4 : x9_1 < (l0.length : Int)
   ·rw [if_pos c4] at H
    have c4b0 : decide (x9_1 < (l0.length : Int)) = true := decide_eq_true c4
    clear c4
    by_cases c5 : 0 ≤ x9_1
    ·rw [if_pos c5] at H
     have c5b0 : decide (0 ≤ x9_1) = true := decide_eq_true c5
     clear c5
     by_cases c6 : x9_1 < (l0.length : Int)
     ·rw [if_pos c6] at H
      have c6b0 : decide (x9_1 < (l0.length : Int)) = true := decide_eq_true c6
      clear c6
      replace H := Option.bind_eq_some_iff.mp H
      obtain ⟨t1102,A70,H⟩ := H
      replace H : (if x3_1.length < 3518437208883 then (impl_copyNodes.l0 k1 (x3_1 ++ [(⟨(rd_T88 l0 x9_1).f0,(rd_T88 l0 x9_1).f1,t1102⟩ : S88)]) l0 (l0.length : Int) (wrap64 (x9_1 + 1))) else (none)) = some r := H
      have A7 := Aside0.mk A70
      clear A70
      by_cases c8 : x3_1.length < 3518437208883
      ·rw [if_pos c8] at H
       have LMc8 := Aside0.mk c8
       clear c8
       obtain ⟨y1105,hy1105⟩ : ∃ y_ : List (S88),y_ = (x3_1 ++ [(⟨(rd_T88 l0 x9_1).f0,(rd_T88 l0 x9_1).f1,t1102⟩ : S88)]) := ⟨_,rfl⟩
       replace H : (impl_copyNodes.l0 k1 y1105 l0 (l0.length : Int) (wrap64 (x9_1 + 1))) = some r := by first|(rw [hy1105];with_reducible exact H)|(have H2_ := (Option.bind_some _ _).symm.trans H;rw [hy1105];with_reducible exact H2_)|(have H2_ := (Option.bind_some _ _).symm.trans H;with_reducible exact H2_)|with_reducible exact H|(rw [hy1105];exact H)|exact H
       have Ny1105 := Aside0.mk hy1105
       clear hy1105
       have H' := Aside0.mk H
       clear H
       have p1100 : 0 ≤ (x9_1 : Int) := of_decide_eq_true (by first|(with_reducible assumption)|assumption)
       have q1100 : x9_1 < (l0.length : Int) := of_decide_eq_true (by first|(with_reducible assumption)|assumption)
       obtain ⟨ad1100,A1100_2,c1100_2,e1100,hx1100_0,hx1100_1,hx1100_2,hl1100_2,hi1100_2⟩ := at_T88 HR0.out x9_1 p1100 q1100
       cases e1100
       replace hx1100_0 := (HB.out.cell (World.block_lt_of_cell? w _ hx1100_0)).trans hx1100_0
       replace hx1100_1 := (HB.out.cell (World.block_lt_of_cell? w _ hx1100_1)).trans hx1100_1
       replace hx1100_2 := (HB.out.cell (World.block_lt_of_cell? w _ hx1100_2)).trans hx1100_2
       have HR1100_2 := Aside0.mk hi1100_2
       have HC1100_2 := Aside0.mk hl1100_2
       clear hi1100_2 hl1100_2
       replace p1100 := eq_true p1100
       replace q1100 := eq_true q1100
       try go_wp2_with (first|((with_reducible refine gate_dst (N := 5) rfl ?_);refine box_event ?hg (N := 5) ?hd (cs := #[.int .i64 0,.int .i64 0,.slice none 0 0]) (t := 88) ?hr ?_;(case hd => rfl);(case hg => rfl);(case hr => first|(go_simp;done)|(go_simp;rfl));intro gb1101 hg w9 hbox hb;have n0_ := Aside0.mk (Kd.S_below (Kd.S_elderB (by (with_reducible repeat (first|apply Kd.S_alloc|apply Kd.S_drewN|apply Kd.S_drew));exact HO_3.out) gb1101 (Nat.le_of_eq hg.symm)) hb);have n1_ := Aside0.mk (below_step (by repeat (first|(with_reducible first|exact HB.out|apply below_alloc|apply pw_below_drewN|apply below_drew1)|exact HB.out)) hb);have n2_ := Aside0.mk (hbox);have n3_ := Aside0.mk ((by rw [hg];exact (below_size (by repeat (first|(with_reducible first|exact HB.out|apply below_alloc|apply pw_below_drewN|apply below_drew1)|exact HB.out))) : w.heap.size ≤ gb1101));have n4_ := Aside0.mk ((by rw [hg];exact (below_size (by repeat (first|(with_reducible first|exact HB.out|apply below_alloc|apply pw_below_drewN|apply below_drew1)|exact HB.out))) : w.heap.size ≤ gb1101));clear HO_3;clear HB;have HO_3 := n0_;have HB := n1_;have BK1101 := n2_;have GW1101 := n3_;have GE1101 := n4_;clear n0_ n1_ n2_ n3_ n4_;clear hb hbox hg;have hcz10_0 : w9.cell? ⟨gb1101,0,none⟩ = some (.int .i64 0) := (blk_cell BK1101.out 0).trans rfl;have hcz10_1 : w9.cell? ⟨gb1101,1,none⟩ = some (.int .i64 0) := (blk_cell BK1101.out 1).trans rfl;have hcz10_2 : w9.cell? ⟨gb1101,2,none⟩ = some (.slice none 0 0) := (blk_cell BK1101.out 2).trans rfl;have hfz10_0 := blk_frozen BK1101.out 0;have hfz10_1 := blk_frozen BK1101.out 1;have hfz10_2 := blk_frozen BK1101.out 2))
       have n0_ : Aside0 (Kd.S k88 88 (((w9.setCell ⟨gb1101,0,none⟩ (.int .i64 ((rd_T88 l0 x9_1).f0))).setCell ⟨gb1101,1,none⟩ (.int .i64 ((rd_T88 l0 x9_1).f1))).setCell ⟨gb1101,2,none⟩ (.slice A1100_2 ((rd_T88 l0 x9_1).f2).length c1100_2)) w.heap.size (fun k_ => k_ ≠ gb1101) u3 x3_1) := ⟨by (with_reducible repeat (first|apply Kd.S_alloc|apply Kd.S_drewN|apply Kd.S_drew));exact Kd.S_mono (Kd.S_far (p := ⟨gb1101,2,none⟩) (Kd.S_far (p := ⟨gb1101,1,none⟩) (Kd.S_far (p := ⟨gb1101,0,none⟩) (Kd.S_mono HO_3.out (fun k_ hk => (⟨hk,hk.2⟩ : _ ∧ k_ ≠ gb1101))) (fun _ hk => hk.2) (.int .i64 ((rd_T88 l0 x9_1).f0))) (fun _ hk => hk.2) (.int .i64 ((rd_T88 l0 x9_1).f1))) (fun _ hk => hk.2) (.slice A1100_2 ((rd_T88 l0 x9_1).f2).length c1100_2)) (fun _ hk => hk.1.2)⟩
       have n1_ : Aside0 ((((w9.setCell ⟨gb1101,0,none⟩ (.int .i64 ((rd_T88 l0 x9_1).f0))).setCell ⟨gb1101,1,none⟩ (.int .i64 ((rd_T88 l0 x9_1).f1))).setCell ⟨gb1101,2,none⟩ (.slice A1100_2 ((rd_T88 l0 x9_1).f2).length c1100_2)).heap[gb1101]? = some (.cells #[.int .i64 ((rd_T88 l0 x9_1).f0),.int .i64 ((rd_T88 l0 x9_1).f1),.slice A1100_2 ((rd_T88 l0 x9_1).f2).length c1100_2] 88 (0,0))) := ⟨by (with_reducible repeat (first|refine blk_drewN ?_ _|refine blk_drew ?_|refine blk_alloc ?_ _));refine blk_put (cs := #[.int .i64 ((rd_T88 l0 x9_1).f0),.int .i64 ((rd_T88 l0 x9_1).f1),.slice none 0 0]) ?_ 2 _ rfl;(with_reducible repeat (first|refine blk_drewN ?_ _|refine blk_drew ?_|refine blk_alloc ?_ _));refine blk_put (cs := #[.int .i64 ((rd_T88 l0 x9_1).f0),.int .i64 0,.slice none 0 0]) ?_ 1 _ rfl;(with_reducible repeat (first|refine blk_drewN ?_ _|refine blk_drew ?_|refine blk_alloc ?_ _));refine blk_put (cs := #[.int .i64 0,.int .i64 0,.slice none 0 0]) ?_ 0 _ rfl;(with_reducible repeat (first|refine blk_drewN ?_ _|refine blk_drew ?_|refine blk_alloc ?_ _));exact BK1101.out⟩
       have n2_ : Aside0 (Below w.heap.size w (((w9.setCell ⟨gb1101,0,none⟩ (.int .i64 ((rd_T88 l0 x9_1).f0))).setCell ⟨gb1101,1,none⟩ (.int .i64 ((rd_T88 l0 x9_1).f1))).setCell ⟨gb1101,2,none⟩ (.slice A1100_2 ((rd_T88 l0 x9_1).f2).length c1100_2))) := ⟨by repeat (first|(with_reducible first|exact HB.out|apply below_alloc|apply pw_below_drewN|apply below_drew1|refine below_set ?_ GE1101.out)|exact HB.out)⟩
       (try clear HO_3)
       (try clear BK1101)
       (try clear HB)
       generalize (((w9.setCell ⟨gb1101,0,none⟩ (.int .i64 ((rd_T88 l0 x9_1).f0))).setCell ⟨gb1101,1,none⟩ (.int .i64 ((rd_T88 l0 x9_1).f1))).setCell ⟨gb1101,2,none⟩ (.slice A1100_2 ((rd_T88 l0 x9_1).f2).length c1100_2)) = w11 at n0_ n1_ n2_ ⊢
       have HO_3 := n0_
       have BK1101 := n1_
       have HB := n2_
       clear n0_ n1_ n2_
       have n0_ := Aside0.mk (Kd.S_drew HO_3.out)
       have n1_ := Aside0.mk (blk_drew BK1101.out)
       have n2_ := Aside0.mk (below_drew1 HB.out)
       clear HO_3
       clear BK1101
       clear HB
       have HO_3 := n0_
       have BK1101 := n1_
       have HB := n2_
       clear n0_ n1_ n2_
       refine start_ (n := 12) (S := fun w' => w'.cell? ⟨gb1101,0,none⟩ = some (.int .i64 ((rd_T88 l0 x9_1).f0)) ∧ w'.cell? ⟨gb1101,1,none⟩ = some (.int .i64 ((rd_T88 l0 x9_1).f1)) ∧ w'.cell? ⟨gb1101,2,none⟩ = some (.slice A1100_2 ((rd_T88 l0 x9_1).f2).length c1100_2)) (ds := []) #[false,false,false,false,false,false,false,false,false,false,false,false] (by kernel_rfl) rfl rfl ⟨(blk_cell BK1101.out 0).trans rfl,(blk_cell BK1101.out 1).trans rfl,(blk_cell BK1101.out 2).trans rfl⟩ (fun hHeld => ?_);refine with_tabW impl_copyNodes.tab5 impl_copyNodes.bits5 (fun HT_ HW_ => ?_)
       generalize w11.drew = w12 at HO_3 BK1101 HB hHeld ⊢
       refine pure_ (i := 0) (N := some 13) (v := ?_) (a' := ?_) #[true,false,false,false,false,false,false,false,false,false,false,false] rfl rfl (any_of HT_.out (by kernel_rfl)) (fun _ _ _ h => h) (Or.inl ⟨by rfl,?_⟩) ?_ ?_
       rotate_left
       ·intro w'
        go_simp
        with_reducible rfl
       rotate_left
       ·simp only [Act.put,List.setIfInBounds_toArray,List.set_cons_zero,List.set_cons_succ,i64_w,i32_w]
        rfl
       refine pure_ (i := 1) (N := some 14) (v := ?_) (a' := ?_) #[true,true,false,false,false,false,false,false,false,false,false,false] rfl rfl (any_of HT_.out (by kernel_rfl)) (fun _ _ _ h => h) (Or.inl ⟨by rfl,?_⟩) ?_ ?_
       rotate_left
       ·intro w'
        go_simp
        with_reducible rfl
       rotate_left
       ·simp only [Act.put,List.setIfInBounds_toArray,List.set_cons_zero,List.set_cons_succ,i64_w,i32_w]
        rfl
       refine pure_ (i := 3) (N := some 16) (v := ?_) (a' := ?_) #[true,true,false,true,false,false,false,false,false,false,false,false] rfl rfl (any_of HT_.out (by kernel_rfl)) (fun _ _ _ h => h) (Or.inl ⟨by rfl,?_⟩) ?_ ?_
       rotate_left
       ·intro w'
        go_simp
        with_reducible rfl
       rotate_left
       ·simp only [Act.put,List.setIfInBounds_toArray,List.set_cons_zero,List.set_cons_succ,i64_w,i32_w]
        rfl
       refine pure_ (i := 5) (N := some 18) (v := ?_) (a' := ?_) #[true,true,false,true,false,true,false,false,false,false,false,false] rfl rfl (any_of HT_.out (by kernel_rfl)) (fun _ _ _ h => h) (Or.inl ⟨by rfl,?_⟩) ?_ ?_
       rotate_left
       ·intro w'
        go_simp
        with_reducible rfl
       rotate_left
       ·simp only [Act.put,List.setIfInBounds_toArray,List.set_cons_zero,List.set_cons_succ,i64_w,i32_w]
        rfl
       refine take_ (i := 2) (N := some 15) (v := ?_) (a' := ?_) #[true,true,true,true,false,true,false,false,false,false,false,false] rfl rfl (take_ofW HT_.out HW_.out (by kernel_rfl)) (fun _ _ _ h => h) (Or.inl ⟨by rfl,?_⟩) hHeld ?_ ?_
       rotate_left
       ·rintro w' ⟨s0,s1,s2⟩
        go_simp
        with_reducible rfl
       rotate_left
       ·simp only [Act.put,List.setIfInBounds_toArray,List.set_cons_zero,List.set_cons_succ,i64_w,i32_w]
        rfl
       refine take_ (i := 4) (N := some 17) (v := ?_) (a' := ?_) #[true,true,true,true,true,true,false,false,false,false,false,false] rfl rfl (take_ofW HT_.out HW_.out (by kernel_rfl)) (fun _ _ _ h => h) (Or.inl ⟨by rfl,?_⟩) hHeld ?_ ?_
       rotate_left
       ·rintro w' ⟨s0,s1,s2⟩
        go_simp
        with_reducible rfl
       rotate_left
       ·simp only [Act.put,List.setIfInBounds_toArray,List.set_cons_zero,List.set_cons_succ,i64_w,i32_w]
        rfl
       refine take_ (i := 6) (N := some 19) (v := ?_) (a' := ?_) #[true,true,true,true,true,true,true,false,false,false,false,false] rfl rfl (take_ofW HT_.out HW_.out (by kernel_rfl)) (fun _ _ _ h => h) (Or.inl ⟨by rfl,?_⟩) hHeld ?_ ?_
       rotate_left
       ·rintro w' ⟨s0,s1,s2⟩
        go_simp
        with_reducible rfl
       rotate_left
       ·simp only [Act.put,List.setIfInBounds_toArray,List.set_cons_zero,List.set_cons_succ,i64_w,i32_w]
        rfl
       refine one_ (i := 7) (N := some 20) #[true,true,true,true,true,true,true,true,false,false,false,false] rfl rfl (one_of HT_.out (by kernel_rfl)) (by decide) (fun K hK => ?_)
       refine goes_ Try.func81 (by kernel_rfl) rfl #[.slice A1100_2 ((rd_T88 l0 x9_1).f2).length c1100_2] (by rfl) rfl rfl (by (try simp only [List.map_toArray,List.map_cons,List.map_nil]);first|done|rfl|(simp only [List.length_drop,List.length_take];rfl)) ?_
       with_reducible refine (slices_Clone_int_int.calls _ _ ((rd_T88 l0 x9_1).f2) t1102 _ ?side1 ?side2 A7.out).mono ?_
       (case side1 => repeat (first|exact (Kd.C_below HR1100_2.out HB.out)|(with_reducible refine Kd.C_alloc ?_ _)|(with_reducible refine Kd.C_drewN ?_ _)|(with_reducible refine Kd.C_drew ?_)))
       (case side2 => exact HC1100_2.out)
       rintro e w13 ⟨v1103,rfl,ho0,hb⟩
       refine ⟨_,rfl,?_⟩
       have n0_ := Aside0.mk (Kd.S_elder' (by (with_reducible repeat (first|apply Kd.S_alloc|apply Kd.S_drewN|apply Kd.S_drew));exact HO_3.out) (Kd.R_base ho0) hb)
       have n1_ := Aside0.mk (Kd.R_lower ho0 (below_size (by repeat (first|(with_reducible first|exact HB.out|apply below_alloc|apply pw_below_drewN|apply below_drew1|refine below_set ?_ GE1101.out)|exact HB.out))))
       have n2_ := Aside0.mk (blk_below (g := gb1101) (o := .cells #[.int .i64 ((rd_T88 l0 x9_1).f0),.int .i64 ((rd_T88 l0 x9_1).f1),.slice A1100_2 ((rd_T88 l0 x9_1).f2).length c1100_2] 88 (0,0)) (by (with_reducible repeat (first|refine blk_drewN ?_ _|refine blk_drew ?_|refine blk_alloc ?_ _));exact BK1101.out) hb)
       have n3_ := Aside0.mk (below_step (by repeat (first|(with_reducible first|exact HB.out|apply below_alloc|apply pw_below_drewN|apply below_drew1|refine below_set ?_ GE1101.out)|exact HB.out)) hb)
       clear HO_3
       clear BK1101
       clear HB
       have HO_3 := n0_
       have HO1104 := n1_
       have BK1101 := n2_
       have HB := n3_
       clear n0_ n1_ n2_ n3_
       (try clear hb)
       (try clear hb2)
       (try clear hk)
       (try clear hi)
       (try clear ho0)
       obtain ⟨Ao14,co14,eo14⟩ := Kd.R_slice HO1104.out
       (first|subst eo14|(injection eo14 with f1_ f2_ f3_;have f4_ := f1_.symm;have f5_ := f3_.symm;clear f1_ f2_ f3_;subst f4_;subst f5_))
       refine hK.out _ _ ⟨(blk_cell BK1101.out 0).trans rfl,(blk_cell BK1101.out 1).trans rfl,(blk_cell BK1101.out 2).trans rfl⟩ (fun hHeld => ?_)
       clear hK K
       refine norm_ (a' := ?_) ?_ ?_
       rotate_left
       ·show Act.put _ (some 20) _ = _
        simp only [Act.put,List.setIfInBounds_toArray,List.set_cons_zero,List.set_cons_succ,i64_w,i32_w]
        rfl
       refine pure_ (i := 8) (N := some 21) (v := ?_) (a' := ?_) #[true,true,true,true,true,true,true,true,true,false,false,false] rfl rfl (any_of HT_.out (by kernel_rfl)) (fun _ _ _ h => h) (Or.inl ⟨by rfl,?_⟩) ?_ ?_
       rotate_left
       ·intro w'
        go_simp
        with_reducible rfl
       rotate_left
       ·simp only [Act.put,List.setIfInBounds_toArray,List.set_cons_zero,List.set_cons_succ,i64_w,i32_w]
        rfl
       refine one_ (i := 9) (N := some 22) #[true,true,true,true,true,true,true,true,true,true,false,false] rfl rfl (one_of HT_.out (by kernel_rfl)) (by decide) (fun K hK => ?_)
       refine value_ (w1 := ?_) (v := ?_) (by rfl) rfl ?_ ?_
       rotate_left 2
       ·go_simp
        constructor
        ·rfl
        ·rfl
       refine hK.out _ _ ⟨(blk_cell (blk_alloc BK1101.out _) 0).trans rfl,(blk_cell (blk_alloc BK1101.out _) 1).trans rfl,(blk_cell (blk_alloc BK1101.out _) 2).trans rfl⟩ (fun hHeld => ?_)
       clear hK K
       refine norm_ (a' := ?_) ?_ ?_
       rotate_left
       ·show Act.put _ (some 22) _ = _
        simp only [Act.put,List.setIfInBounds_toArray,List.set_cons_zero,List.set_cons_succ,i64_w,i32_w]
        rfl
       refine one_ (i := 10) (N := some 23) #[true,true,true,true,true,true,true,true,true,true,true,false] rfl rfl (one_of HT_.out (by kernel_rfl)) (by decide) (fun K hK => ?_)
       refine Kd.S_append_step k88 (w0 := w) w.heap.size (by rfl) (.tmp 13) (.tmp 22) 36 88 (.agg #[(.int .i64 0),(.int .i64 0),(.slice none 0 0)]) 40 rfl Try.underlying36 info88 rfl (by decide) (by omega) u3 x3_1 (⟨(rd_T88 l0 x9_1).f0,(rd_T88 l0 x9_1).f1,t1102⟩ : S88) [.int .i64 ((rd_T88 l0 x9_1).f0),.int .i64 ((rd_T88 l0 x9_1).f1),.slice Ao14 t1102.length co14] (fun k_ => k_ ≠ gb1101) (fun k_ => some k_ = (.slice Ao14 t1102.length co14 : Value).ownBlock) rfl rfl ?aP (fun k_ hk_ => ((Kd.R_mono (ok' := fun k_ => ((fun k_ => k_ ≠ gb1101)) k_ ∧ some k_ ≠ (u3 : Value).ownBlock) (Kd.R_types (Kd.R_apart' (HO1104.out) (Kd.S_typed HO_3.out) (by decide)) BK1101.out (by decide)) (fun k_ hk => ⟨hk.2,hk.1.2⟩))).1 k_ hk_.symm) ?aF ?aO ?aB ?aS ?aL ?_
       (case aP => exact k88_mkM _ _ _ (⟨(rd_T88 l0 x9_1).f0,(rd_T88 l0 x9_1).f1,t1102⟩ : S88) (Kd.R_mono (Kd.R_tight rfl (Kd.R_mono (ok' := fun k_ => ((fun k_ => k_ ≠ gb1101)) k_ ∧ some k_ ≠ (u3 : Value).ownBlock) (Kd.R_types (Kd.R_apart' (HO1104.out) (Kd.S_typed HO_3.out) (by decide)) BK1101.out (by decide)) (fun k_ hk => ⟨hk.2,hk.1.2⟩))) (fun _ h_ => h_)))
       (case aB => exact (by repeat (first|(with_reducible first|exact HB.out|apply below_alloc|apply pw_below_drewN|apply below_drew1|refine below_set ?_ GE1101.out)|exact HB.out)))
       (case aF => exact (fun k_ hk => Kd.freshB (g := gb1101) (o := .cells #[.int .i64 ((rd_T88 l0 x9_1).f0),.int .i64 ((rd_T88 l0 x9_1).f1),.slice A1100_2 ((rd_T88 l0 x9_1).f2).length c1100_2] 88 (0,0)) (by (with_reducible repeat (first|refine blk_drewN ?_ _|refine blk_drew ?_|refine blk_alloc ?_ _));exact BK1101.out) k_ hk))
       (case aO => exact (by (with_reducible repeat (first|apply Kd.S_alloc|apply Kd.S_drewN|apply Kd.S_drew));exact Kd.S_mono HO_3.out (fun k_ hk => ⟨hk.1,fun e_ => hk.2 e_⟩)))
       (case aS => exact (below_size (by repeat (first|(with_reducible first|exact HB.out|apply below_alloc|apply pw_below_drewN|apply below_drew1|refine below_set ?_ GE1101.out)|exact HB.out))))
       (case aL => have := LMc8.out;omega)
       intro v1106 w15 ho hb hg hat
       rw [← Ny1105.out] at ho
       have n0_ := Aside0.mk (blk_grown (g := gb1101) (o := .cells #[.int .i64 ((rd_T88 l0 x9_1).f0),.int .i64 ((rd_T88 l0 x9_1).f1),.slice A1100_2 ((rd_T88 l0 x9_1).f2).length c1100_2] 88 (0,0)) (by (with_reducible repeat (first|refine blk_drewN ?_ _|refine blk_drew ?_|refine blk_alloc ?_ _));exact BK1101.out) hg (Kd.S_away HO_3.out (fun _ hk => hk.1)))
       have n1_ := Aside0.mk (hb)
       have n2_ := Aside0.mk (ho)
       clear BK1101
       clear HB
       clear HO_3
       clear HO1104
       have BK1101 := n0_
       have HB := n1_
       have HO1107 := n2_
       clear n0_ n1_ n2_
       clear ho hb hg hat
       refine hK.out _ _ ⟨(blk_cell BK1101.out 0).trans rfl,(blk_cell BK1101.out 1).trans rfl,(blk_cell BK1101.out 2).trans rfl⟩ (fun hHeld => ?_)
       clear hK K
       refine norm_ (a' := ?_) ?_ ?_
       rotate_left
       ·show Act.put _ (some 23) _ = _
        simp only [Act.put,List.setIfInBounds_toArray,List.set_cons_zero,List.set_cons_succ,i64_w,i32_w]
        rfl
       refine pure_ (i := 11) (N := some 3) (v := ?_) (a' := ?_) #[true,true,true,true,true,true,true,true,true,true,true,true] rfl rfl (any_of HT_.out (by kernel_rfl)) (fun _ _ _ h => h) (Or.inl ⟨by rfl,?_⟩) ?_ ?_
       rotate_left
       ·intro w'
        go_simp
        with_reducible rfl
       rotate_left
       ·simp only [Act.put,List.setIfInBounds_toArray,List.set_cons_zero,List.set_cons_succ,i64_w,i32_w]
        rfl
       refine done_ (done_of HT_.out (by kernel_rfl)) ?_
       try go_wp2
       go_roundg k1
       case measure => have := HK1.out;omega
       case rel => exact ⟨(y1105),(wrap64 (x9_1 + 1)),(by first|rfl|(simp;done)|(simp [*];done)),H',⟨by have := HK1.out;omega⟩,⟨by (with_reducible repeat (first|apply Kd.S_alloc|apply Kd.S_drewN|apply Kd.S_drew));exact Kd.S_mono HO1107.out (fun _ hk => trivial)⟩,⟨by repeat (first|(with_reducible first|exact HB.out|apply below_alloc|apply pw_below_drewN|apply below_drew1|refine below_set ?_ GE1101.out)|exact HB.out)⟩⟩
      ·rw [if_neg c8] at H
       exact absurd H (by simp)
     ·rw [if_neg c6] at H
      exact absurd H (by simp)
    ·rw [if_neg c5] at H
     exact absurd H (by simp)
   ·rw [if_neg c4] at H
    have c4b0 : decide (x9_1 < (l0.length : Int)) = false := decide_eq_false c4
    clear c4
    obtain rfl := Option.some.inj H
    go_wp2
    go_ret
    exact ⟨_,by first|rfl|(simp [errW_none,errW_some] <;> rfl)|(simp [*,errW_none,errW_some] <;> rfl),by (with_reducible repeat (first|apply Kd.S_alloc|apply Kd.S_drewN|apply Kd.S_drew));exact HO_3.out,by repeat (first|(with_reducible first|exact HB.out|apply below_alloc|apply pw_below_drewN|apply below_drew1)|exact HB.out)⟩

/-! ### impl_copyMachine: function 115 -/
def impl_copyMachine.f (k : Nat) (l0_0 : List (S88)) (l0_1 : List Int) (l0_2 : List Int) (a0_3 : Bool) : Option ((List (S88)) × List Int × List Int × Bool) := (impl_copyNodes.f k l0_0).bind fun t1110 => ((slices_Clone_int_int.f l0_1).bind fun t1113 => ((slices_Clone_int_int.f l0_2).bind fun t1116 => (some (t1110,t1113,t1116,a0_3))))
set_option maxRecDepth 100000 in
theorem impl_copyMachine.mono : ∀ a0 a1 a2 a3 k,LeO (impl_copyMachine.f k a0 a1 a2 a3) (impl_copyMachine.f (k + 1) a0 a1 a2 a3) := by
 intro a0 a1 a2 a3 k
 unfold impl_copyMachine.f
 repeat' first
   | (with_reducible exact impl_copyNodes.mono _ _)
   | (with_reducible exact LeO.refl _)
   | (with_reducible exact LeO.none _)
   | (with_reducible refine LeO.ite ?_ ?_)
   | (with_reducible refine LeO.bind ?_ (fun _ => ?_))
   | exact impl_copyNodes.mono _ _
   | exact LeO.none _
   | refine LeO.ite ?_ ?_
   | refine LeO.bind ?_ (fun _ => ?_)
def impl_copyMachine.T1 : Bool × List (List Nat × List Nat) := (true,[([],[]),([0],[0]),([1],[1]),([],[]),([3],[3]),([4,2],[4]),([],[]),([6],[6]),([7,5],[7]),([],[]),([9],[9]),([2,5,8,10],[2,5,8,10]),([11,8,0,1,2,3,4,5,6,7,8,9,10,11],[11])])
def impl_copyMachine.B1 : List Nat := [0,1,3,0,8,31,0,64,255,0,512,2047,4095]
theorem impl_copyMachine.tab1 : rtab .any (opsOf Try.f115 1) = impl_copyMachine.T1 := by kernel_rfl
theorem impl_copyMachine.bits1 : waitsOk impl_copyMachine.T1.2 impl_copyMachine.B1 = true := by kernel_rfl
set_option maxHeartbeats 8000000 in
set_option maxRecDepth 100000 in
theorem impl_copyMachine.calls (k : Nat) (A0_0 : Option Addr) (c0_0 : Nat) (l0_0 : List (S88)) (A0_1 : Option Addr) (c0_1 : Nat) (l0_1 : List Int) (A0_2 : Option Addr) (c0_2 : Nat) (l0_2 : List Int) (a0_3 : Bool) (r1 : List (S88)) (r2 : List Int) (r3 : List Int) (r4 : Bool) (w : World) (hr0_0 : Kd.C k88 w A0_0 l0_0.length l0_0) (hc0_0 : l0_0.length ≤ c0_0) (hr0_1 : Kd.C (Kd.int .i64) w A0_1 l0_1.length l0_1) (hc0_1 : l0_1.length ≤ c0_1) (hr0_2 : Kd.C (Kd.int .i64) w A0_2 l0_2.length l0_2) (hc0_2 : l0_2.length ≤ c0_2) (h : impl_copyMachine.f k l0_0 l0_1 l0_2 a0_3 = some (r1,r2,r3,r4)) :
  Calls Try.prog 115 #[.agg #[.slice A0_0 l0_0.length c0_0,.slice A0_1 l0_1.length c0_1,.slice A0_2 l0_2.length c0_2,.bool a0_3]] w fun e w' => ∃ v0_ v1_ v2_ : Value,e = .returned (.agg #[v0_,v1_,v2_,.bool r4]) ∧ Kd.S k88 88 w' w.heap.size (fun k_ => some k_ ≠ (v1_ : Value).ownBlock ∧ some k_ ≠ (v2_ : Value).ownBlock) v0_ r1 ∧ Kd.R (Kd.int .i64) 3 w' w.heap.size (fun k_ => some k_ ≠ (v2_ : Value).ownBlock) v1_ r2 ∧ Kd.R (Kd.int .i64) 3 w' w.heap.size (fun k_ => some k_ ≠ (v1_ : Value).ownBlock) v2_ r3 ∧ Below w.heap.size w w' := by
 have hu56 := Try.underlying56
 have HR0_0 := Aside0.mk hr0_0
 have HC0_0 := Aside0.mk hc0_0
 clear hr0_0 hc0_0
 have HR0_1 := Aside0.mk hr0_1
 have HC0_1 := Aside0.mk hc0_1
 clear hr0_1 hc0_1
 have HR0_2 := Aside0.mk hr0_2
 have HC0_2 := Aside0.mk hc0_2
 clear hr0_2 hc0_2
 have HB := Aside0.mk (Below.refl w.heap.size w)
 have H : ((impl_copyNodes.f k l0_0).bind fun t1110 => ((slices_Clone_int_int.f l0_1).bind fun t1113 => ((slices_Clone_int_int.f l0_2).bind fun t1116 => (some (t1110,t1113,t1116,a0_3))))) = some (r1,r2,r3,r4) := h
 clear h
 replace H := Option.bind_eq_some_iff.mp H
 obtain ⟨t1110,A20,H⟩ := H
 replace H : ((slices_Clone_int_int.f l0_1).bind fun t1113 => ((slices_Clone_int_int.f l0_2).bind fun t1116 => (some (t1110,t1113,t1116,a0_3)))) = some (r1,r2,r3,r4) := H
 have A2 := Aside0.mk A20
 clear A20
 replace H := Option.bind_eq_some_iff.mp H
 obtain ⟨t1113,A30,H⟩ := H
 replace H : ((slices_Clone_int_int.f l0_2).bind fun t1116 => (some (t1110,t1113,t1116,a0_3))) = some (r1,r2,r3,r4) := H
 have A3 := Aside0.mk A30
 clear A30
 replace H := Option.bind_eq_some_iff.mp H
 obtain ⟨t1116,A40,H⟩ := H
 replace H : (some (t1110,t1113,t1116,a0_3)) = some (r1,r2,r3,r4) := H
 have A4 := Aside0.mk A40
 clear A40
 simp only [Option.some.injEq,Prod.mk.injEq] at H
 obtain ⟨rfl,rfl,rfl,rfl⟩ := H
 go_enter Try.func115,Try.ntmps115
 try go_wp2_with (first|((with_reducible refine gate_dst (N := 1) rfl ?_);refine box_event ?hg (N := 1) ?hd (cs := #[.slice A0_0 l0_0.length c0_0,.slice A0_1 l0_1.length c0_1,.slice A0_2 l0_2.length c0_2,.bool a0_3]) (t := 56) ?hr ?_;(case hd => rfl);(case hg => rfl);(case hr => first|(go_simp;done)|(go_simp;rfl));intro gb1108 hg w5 hbox hb;have n0_ := Aside0.mk (below_step (by repeat (first|(with_reducible first|exact HB.out|apply below_alloc|apply pw_below_drewN|apply below_drew1)|exact HB.out)) hb);have n1_ := Aside0.mk (hbox);have n2_ := Aside0.mk ((by rw [hg];exact (below_size (by repeat (first|(with_reducible first|exact HB.out|apply below_alloc|apply pw_below_drewN|apply below_drew1)|exact HB.out))) : w.heap.size ≤ gb1108));have n3_ := Aside0.mk ((by rw [hg];exact (below_size (by repeat (first|(with_reducible first|exact HB.out|apply below_alloc|apply pw_below_drewN|apply below_drew1)|exact HB.out))) : w.heap.size ≤ gb1108));clear HB;have HB := n0_;have BK1108 := n1_;have GW1108 := n2_;have GE1108 := n3_;clear n0_ n1_ n2_ n3_;clear hb hbox hg)|((with_reducible refine gate_dst (N := 2) rfl ?_);refine box_event ?hg (N := 2) ?hd (cs := #[.slice none 0 0,.slice none 0 0,.slice none 0 0,.bool false]) (t := 56) ?hr ?_;(case hd => rfl);(case hg => rfl);(case hr => first|(go_simp;done)|(go_simp;rfl));intro gb1109 hg w6 hbox hb;have n0_ := Aside0.mk (blk_below (g := gb1108) (o := .cells #[.slice A0_0 l0_0.length c0_0,.slice A0_1 l0_1.length c0_1,.slice A0_2 l0_2.length c0_2,.bool a0_3] 56 (0,0)) (by (with_reducible repeat (first|refine blk_drewN ?_ _|refine blk_drew ?_|refine blk_alloc ?_ _));exact BK1108.out) hb);have n1_ := Aside0.mk (below_step (by repeat (first|(with_reducible first|exact HB.out|apply below_alloc|apply pw_below_drewN|apply below_drew1|refine below_set ?_ GE1108.out)|exact HB.out)) hb);have n2_ := Aside0.mk (hbox);have n3_ := Aside0.mk ((by rw [hg];exact (below_size (by repeat (first|(with_reducible first|exact HB.out|apply below_alloc|apply pw_below_drewN|apply below_drew1|refine below_set ?_ GE1108.out)|exact HB.out))) : w.heap.size ≤ gb1109));have n4_ := Aside0.mk ((by rw [hg];exact (below_size (by repeat (first|(with_reducible first|exact HB.out|apply below_alloc|apply pw_below_drewN|apply below_drew1|refine below_set ?_ GE1108.out)|exact HB.out))) : w.heap.size ≤ gb1109));have n5_ := Aside0.mk ((by rw [hg];exact Nat.ne_of_lt (blk_lt (g := gb1108) (o := .cells #[.slice A0_0 l0_0.length c0_0,.slice A0_1 l0_1.length c0_1,.slice A0_2 l0_2.length c0_2,.bool a0_3] 56 (0,0)) (by (with_reducible repeat (first|refine blk_drewN ?_ _|refine blk_drew ?_|refine blk_alloc ?_ _));exact BK1108.out)) : gb1108 ≠ gb1109));have n6_ := Aside0.mk ((by rw [hg];exact Nat.ne_of_gt (blk_lt (g := gb1108) (o := .cells #[.slice A0_0 l0_0.length c0_0,.slice A0_1 l0_1.length c0_1,.slice A0_2 l0_2.length c0_2,.bool a0_3] 56 (0,0)) (by (with_reducible repeat (first|refine blk_drewN ?_ _|refine blk_drew ?_|refine blk_alloc ?_ _));exact BK1108.out)) : gb1109 ≠ gb1108));clear BK1108;clear HB;have BK1108 := n0_;have HB := n1_;have BK1109 := n2_;have GW1109 := n3_;have GE1109 := n4_;have NB1108_1109 := n5_;have NB1109_1108 := n6_;clear n0_ n1_ n2_ n3_ n4_ n5_ n6_;clear hb hbox hg))
 have n0_ := Aside0.mk (blk_drew BK1108.out)
 have n1_ := Aside0.mk (blk_drew BK1109.out)
 have n2_ := Aside0.mk (below_drew1 HB.out)
 clear BK1108
 clear BK1109
 clear HB
 have BK1108 := n0_
 have BK1109 := n1_
 have HB := n2_
 clear n0_ n1_ n2_
 refine start_ (n := 13) (S := fun w' => w'.cell? ⟨gb1108,0,none⟩ = some (.slice A0_0 l0_0.length c0_0) ∧ w'.cell? ⟨gb1108,1,none⟩ = some (.slice A0_1 l0_1.length c0_1) ∧ w'.cell? ⟨gb1108,2,none⟩ = some (.slice A0_2 l0_2.length c0_2) ∧ w'.cell? ⟨gb1108,3,none⟩ = some (.bool a0_3)) (ds := []) #[false,false,false,false,false,false,false,false,false,false,false,false,false] (by kernel_rfl) rfl rfl ⟨(blk_cell BK1108.out 0).trans rfl,(blk_cell BK1108.out 1).trans rfl,(blk_cell BK1108.out 2).trans rfl,(blk_cell BK1108.out 3).trans rfl⟩ (fun hHeld => ?_);refine with_tabW impl_copyMachine.tab1 impl_copyMachine.bits1 (fun HT_ HW_ => ?_)
 generalize w6.drew = w7 at BK1108 BK1109 HB hHeld ⊢
 refine pure_ (i := 0) (N := some 3) (v := ?_) (a' := ?_) #[true,false,false,false,false,false,false,false,false,false,false,false,false] rfl rfl (any_of HT_.out (by kernel_rfl)) (fun _ _ _ h => h) (Or.inl ⟨by rfl,?_⟩) ?_ ?_
 rotate_left
 ·intro w'
  go_simp
  with_reducible rfl
 rotate_left
 ·simp only [Act.put,List.setIfInBounds_toArray,List.set_cons_zero,List.set_cons_succ,i64_w,i32_w]
  rfl
 refine pure_ (i := 3) (N := some 6) (v := ?_) (a' := ?_) #[true,false,false,true,false,false,false,false,false,false,false,false,false] rfl rfl (any_of HT_.out (by kernel_rfl)) (fun _ _ _ h => h) (Or.inl ⟨by rfl,?_⟩) ?_ ?_
 rotate_left
 ·intro w'
  go_simp
  with_reducible rfl
 rotate_left
 ·simp only [Act.put,List.setIfInBounds_toArray,List.set_cons_zero,List.set_cons_succ,i64_w,i32_w]
  rfl
 refine pure_ (i := 6) (N := some 9) (v := ?_) (a' := ?_) #[true,false,false,true,false,false,true,false,false,false,false,false,false] rfl rfl (any_of HT_.out (by kernel_rfl)) (fun _ _ _ h => h) (Or.inl ⟨by rfl,?_⟩) ?_ ?_
 rotate_left
 ·intro w'
  go_simp
  with_reducible rfl
 rotate_left
 ·simp only [Act.put,List.setIfInBounds_toArray,List.set_cons_zero,List.set_cons_succ,i64_w,i32_w]
  rfl
 refine pure_ (i := 9) (N := some 12) (v := ?_) (a' := ?_) #[true,false,false,true,false,false,true,false,false,true,false,false,false] rfl rfl (any_of HT_.out (by kernel_rfl)) (fun _ _ _ h => h) (Or.inl ⟨by rfl,?_⟩) ?_ ?_
 rotate_left
 ·intro w'
  go_simp
  with_reducible rfl
 rotate_left
 ·simp only [Act.put,List.setIfInBounds_toArray,List.set_cons_zero,List.set_cons_succ,i64_w,i32_w]
  rfl
 refine take_ (i := 1) (N := some 4) (v := ?_) (a' := ?_) #[true,true,false,true,false,false,true,false,false,true,false,false,false] rfl rfl (take_ofW HT_.out HW_.out (by kernel_rfl)) (fun _ _ _ h => h) (Or.inl ⟨by rfl,?_⟩) hHeld ?_ ?_
 rotate_left
 ·rintro w' ⟨s0,s1,s2,s3⟩
  go_simp
  with_reducible rfl
 rotate_left
 ·simp only [Act.put,List.setIfInBounds_toArray,List.set_cons_zero,List.set_cons_succ,i64_w,i32_w]
  rfl
 refine take_ (i := 4) (N := some 7) (v := ?_) (a' := ?_) #[true,true,false,true,true,false,true,false,false,true,false,false,false] rfl rfl (take_ofW HT_.out HW_.out (by kernel_rfl)) (fun _ _ _ h => h) (Or.inl ⟨by rfl,?_⟩) hHeld ?_ ?_
 rotate_left
 ·rintro w' ⟨s0,s1,s2,s3⟩
  go_simp
  with_reducible rfl
 rotate_left
 ·simp only [Act.put,List.setIfInBounds_toArray,List.set_cons_zero,List.set_cons_succ,i64_w,i32_w]
  rfl
 refine take_ (i := 7) (N := some 10) (v := ?_) (a' := ?_) #[true,true,false,true,true,false,true,true,false,true,false,false,false] rfl rfl (take_ofW HT_.out HW_.out (by kernel_rfl)) (fun _ _ _ h => h) (Or.inl ⟨by rfl,?_⟩) hHeld ?_ ?_
 rotate_left
 ·rintro w' ⟨s0,s1,s2,s3⟩
  go_simp
  with_reducible rfl
 rotate_left
 ·simp only [Act.put,List.setIfInBounds_toArray,List.set_cons_zero,List.set_cons_succ,i64_w,i32_w]
  rfl
 refine take_ (i := 10) (N := some 13) (v := ?_) (a' := ?_) #[true,true,false,true,true,false,true,true,false,true,true,false,false] rfl rfl (take_ofW HT_.out HW_.out (by kernel_rfl)) (fun _ _ _ h => h) (Or.inl ⟨by rfl,?_⟩) hHeld ?_ ?_
 rotate_left
 ·rintro w' ⟨s0,s1,s2,s3⟩
  go_simp
  with_reducible rfl
 rotate_left
 ·simp only [Act.put,List.setIfInBounds_toArray,List.set_cons_zero,List.set_cons_succ,i64_w,i32_w]
  rfl
 refine one_ (i := 2) (N := some 5) #[true,true,true,true,true,false,true,true,false,true,true,false,false] rfl rfl (one_of HT_.out (by kernel_rfl)) (by decide) (fun K hK => ?_)
 refine goes_ Try.func127 (by kernel_rfl) rfl #[.slice A0_0 l0_0.length c0_0] (by rfl) rfl rfl (by (try simp only [List.map_toArray,List.map_cons,List.map_nil]);first|done|rfl|(simp only [List.length_drop,List.length_take];rfl)) ?_
 with_reducible refine (impl_copyNodes.calls k _ _ l0_0 t1110 _ ?side1 ?side2 A2.out).mono ?_
 (case side1 => repeat (first|exact (Kd.C_below HR0_0.out HB.out)|(with_reducible refine Kd.C_alloc ?_ _)|(with_reducible refine Kd.C_drewN ?_ _)|(with_reducible refine Kd.C_drew ?_)))
 (case side2 => exact HC0_0.out)
 rintro e w8 ⟨v1111,rfl,ho0,hb⟩
 refine ⟨_,rfl,?_⟩
 have n0_ := Aside0.mk (Kd.S_lower ho0 (below_size (by repeat (first|(with_reducible first|exact HB.out|apply below_alloc|apply pw_below_drewN|apply below_drew1|refine below_set ?_ GE1108.out|refine below_set ?_ GE1109.out)|exact HB.out))))
 have n1_ := Aside0.mk (blk_below (g := gb1108) (o := .cells #[.slice A0_0 l0_0.length c0_0,.slice A0_1 l0_1.length c0_1,.slice A0_2 l0_2.length c0_2,.bool a0_3] 56 (0,0)) (by (with_reducible repeat (first|refine blk_drewN ?_ _|refine blk_drew ?_|refine blk_alloc ?_ _));exact BK1108.out) hb)
 have n2_ := Aside0.mk (blk_below (g := gb1109) (o := .cells #[.slice none 0 0,.slice none 0 0,.slice none 0 0,.bool false] 56 (0,0)) (by (with_reducible repeat (first|refine blk_drewN ?_ _|refine blk_drew ?_|refine blk_alloc ?_ _));exact BK1109.out) hb)
 have n3_ := Aside0.mk (below_step (by repeat (first|(with_reducible first|exact HB.out|apply below_alloc|apply pw_below_drewN|apply below_drew1|refine below_set ?_ GE1108.out|refine below_set ?_ GE1109.out)|exact HB.out)) hb)
 clear BK1108
 clear BK1109
 clear HB
 have HO1112 := n0_
 have BK1108 := n1_
 have BK1109 := n2_
 have HB := n3_
 clear n0_ n1_ n2_ n3_
 (try clear hb)
 (try clear hb2)
 (try clear hk)
 (try clear hi)
 (try clear ho0)
 refine hK.out _ _ ⟨(blk_cell BK1108.out 0).trans rfl,(blk_cell BK1108.out 1).trans rfl,(blk_cell BK1108.out 2).trans rfl,(blk_cell BK1108.out 3).trans rfl⟩ (fun hHeld => ?_)
 clear hK K
 refine norm_ (a' := ?_) ?_ ?_
 rotate_left
 ·show Act.put _ (some 5) _ = _
  simp only [Act.put,List.setIfInBounds_toArray,List.set_cons_zero,List.set_cons_succ,i64_w,i32_w]
  rfl
 refine one_ (i := 5) (N := some 8) #[true,true,true,true,true,true,true,true,false,true,true,false,false] rfl rfl (one_of HT_.out (by kernel_rfl)) (by decide) (fun K hK => ?_)
 refine goes_ Try.func81 (by kernel_rfl) rfl #[.slice A0_1 l0_1.length c0_1] (by rfl) rfl rfl (by (try simp only [List.map_toArray,List.map_cons,List.map_nil]);first|done|rfl|(simp only [List.length_drop,List.length_take];rfl)) ?_
 with_reducible refine (slices_Clone_int_int.calls _ _ l0_1 t1113 _ ?side1 ?side2 A3.out).mono ?_
 (case side1 => repeat (first|exact (Kd.C_below HR0_1.out HB.out)|(with_reducible refine Kd.C_alloc ?_ _)|(with_reducible refine Kd.C_drewN ?_ _)|(with_reducible refine Kd.C_drew ?_)))
 (case side2 => exact HC0_1.out)
 rintro e w9 ⟨v1114,rfl,ho0,hb⟩
 refine ⟨_,rfl,?_⟩
 have n0_ := Aside0.mk (Kd.S_elder' (by (with_reducible repeat (first|apply Kd.S_alloc|apply Kd.S_drewN|apply Kd.S_drew));exact HO1112.out) (Kd.R_base ho0) hb)
 have n1_ := Aside0.mk (Kd.R_lower ho0 (below_size (by repeat (first|(with_reducible first|exact HB.out|apply below_alloc|apply pw_below_drewN|apply below_drew1|refine below_set ?_ GE1108.out|refine below_set ?_ GE1109.out)|exact HB.out))))
 have n2_ := Aside0.mk (blk_below (g := gb1108) (o := .cells #[.slice A0_0 l0_0.length c0_0,.slice A0_1 l0_1.length c0_1,.slice A0_2 l0_2.length c0_2,.bool a0_3] 56 (0,0)) (by (with_reducible repeat (first|refine blk_drewN ?_ _|refine blk_drew ?_|refine blk_alloc ?_ _));exact BK1108.out) hb)
 have n3_ := Aside0.mk (blk_below (g := gb1109) (o := .cells #[.slice none 0 0,.slice none 0 0,.slice none 0 0,.bool false] 56 (0,0)) (by (with_reducible repeat (first|refine blk_drewN ?_ _|refine blk_drew ?_|refine blk_alloc ?_ _));exact BK1109.out) hb)
 have n4_ := Aside0.mk (below_step (by repeat (first|(with_reducible first|exact HB.out|apply below_alloc|apply pw_below_drewN|apply below_drew1|refine below_set ?_ GE1108.out|refine below_set ?_ GE1109.out)|exact HB.out)) hb)
 clear HO1112
 clear BK1108
 clear BK1109
 clear HB
 have HO1112 := n0_
 have HO1115 := n1_
 have BK1108 := n2_
 have BK1109 := n3_
 have HB := n4_
 clear n0_ n1_ n2_ n3_ n4_
 (try clear hb)
 (try clear hb2)
 (try clear hk)
 (try clear hi)
 (try clear ho0)
 refine hK.out _ _ ⟨(blk_cell BK1108.out 0).trans rfl,(blk_cell BK1108.out 1).trans rfl,(blk_cell BK1108.out 2).trans rfl,(blk_cell BK1108.out 3).trans rfl⟩ (fun hHeld => ?_)
 clear hK K
 refine norm_ (a' := ?_) ?_ ?_
 rotate_left
 ·show Act.put _ (some 8) _ = _
  simp only [Act.put,List.setIfInBounds_toArray,List.set_cons_zero,List.set_cons_succ,i64_w,i32_w]
  rfl
 refine one_ (i := 8) (N := some 11) #[true,true,true,true,true,true,true,true,true,true,true,false,false] rfl rfl (one_of HT_.out (by kernel_rfl)) (by decide) (fun K hK => ?_)
 refine goes_ Try.func81 (by kernel_rfl) rfl #[.slice A0_2 l0_2.length c0_2] (by rfl) rfl rfl (by (try simp only [List.map_toArray,List.map_cons,List.map_nil]);first|done|rfl|(simp only [List.length_drop,List.length_take];rfl)) ?_
 with_reducible refine (slices_Clone_int_int.calls _ _ l0_2 t1116 _ ?side1 ?side2 A4.out).mono ?_
 (case side1 => repeat (first|exact (Kd.C_below HR0_2.out HB.out)|(with_reducible refine Kd.C_alloc ?_ _)|(with_reducible refine Kd.C_drewN ?_ _)|(with_reducible refine Kd.C_drew ?_)))
 (case side2 => exact HC0_2.out)
 rintro e w10 ⟨v1117,rfl,ho0,hb⟩
 refine ⟨_,rfl,?_⟩
 have n0_ := Aside0.mk (Kd.S_elder' (by (with_reducible repeat (first|apply Kd.S_alloc|apply Kd.S_drewN|apply Kd.S_drew));exact HO1112.out) (Kd.R_base ho0) hb)
 have n1_ := Aside0.mk (Kd.R_elder' (by (with_reducible repeat (first|apply Kd.R_alloc|apply Kd.R_drewN|apply Kd.R_drew));exact HO1115.out) (Kd.R_base ho0) hb)
 have n2_ := Aside0.mk (Kd.R_lower (Kd.R_new' ho0 (Kd.R_lt (by (with_reducible repeat (first|apply Kd.R_alloc|apply Kd.R_drewN|apply Kd.R_drew));exact HO1115.out))) (below_size (by repeat (first|(with_reducible first|exact HB.out|apply below_alloc|apply pw_below_drewN|apply below_drew1|refine below_set ?_ GE1108.out|refine below_set ?_ GE1109.out)|exact HB.out))))
 have n3_ := Aside0.mk (blk_below (g := gb1108) (o := .cells #[.slice A0_0 l0_0.length c0_0,.slice A0_1 l0_1.length c0_1,.slice A0_2 l0_2.length c0_2,.bool a0_3] 56 (0,0)) (by (with_reducible repeat (first|refine blk_drewN ?_ _|refine blk_drew ?_|refine blk_alloc ?_ _));exact BK1108.out) hb)
 have n4_ := Aside0.mk (blk_below (g := gb1109) (o := .cells #[.slice none 0 0,.slice none 0 0,.slice none 0 0,.bool false] 56 (0,0)) (by (with_reducible repeat (first|refine blk_drewN ?_ _|refine blk_drew ?_|refine blk_alloc ?_ _));exact BK1109.out) hb)
 have n5_ := Aside0.mk (below_step (by repeat (first|(with_reducible first|exact HB.out|apply below_alloc|apply pw_below_drewN|apply below_drew1|refine below_set ?_ GE1108.out|refine below_set ?_ GE1109.out)|exact HB.out)) hb)
 clear HO1112
 clear HO1115
 clear BK1108
 clear BK1109
 clear HB
 have HO1112 := n0_
 have HO1115 := n1_
 have HO1118 := n2_
 have BK1108 := n3_
 have BK1109 := n4_
 have HB := n5_
 clear n0_ n1_ n2_ n3_ n4_ n5_
 (try clear hb)
 (try clear hb2)
 (try clear hk)
 (try clear hi)
 (try clear ho0)
 obtain ⟨Ao11,co11,eo11⟩ := Kd.R_slice HO1118.out
 (first|subst eo11|(injection eo11 with f1_ f2_ f3_;have f4_ := f1_.symm;have f5_ := f3_.symm;clear f1_ f2_ f3_;subst f4_;subst f5_))
 obtain ⟨Ao12,co12,eo12⟩ := Kd.R_slice HO1115.out
 (first|subst eo12|(injection eo12 with f1_ f2_ f3_;have f4_ := f1_.symm;have f5_ := f3_.symm;clear f1_ f2_ f3_;subst f4_;subst f5_))
 obtain ⟨Ao13,co13,eo13⟩ := Kd.S_slice HO1112.out
 (first|subst eo13|(injection eo13 with f1_ f2_ f3_;have f4_ := f1_.symm;have f5_ := f3_.symm;clear f1_ f2_ f3_;subst f4_;subst f5_))
 refine hK.out _ _ ⟨(blk_cell BK1108.out 0).trans rfl,(blk_cell BK1108.out 1).trans rfl,(blk_cell BK1108.out 2).trans rfl,(blk_cell BK1108.out 3).trans rfl⟩ (fun hHeld => ?_)
 clear hK K
 refine norm_ (a' := ?_) ?_ ?_
 rotate_left
 ·show Act.put _ (some 11) _ = _
  simp only [Act.put,List.setIfInBounds_toArray,List.set_cons_zero,List.set_cons_succ,i64_w,i32_w]
  rfl
 refine pure_ (i := 11) (N := some 14) (v := ?_) (a' := ?_) #[true,true,true,true,true,true,true,true,true,true,true,true,false] rfl rfl (any_of HT_.out (by kernel_rfl)) (fun _ _ _ h => h) (Or.inl ⟨by rfl,?_⟩) ?_ ?_
 rotate_left
 ·intro w'
  go_simp
  with_reducible rfl
 rotate_left
 ·simp only [Act.put,List.setIfInBounds_toArray,List.set_cons_zero,List.set_cons_succ,i64_w,i32_w]
  rfl
 refine one_ (i := 12) (N := none) #[true,true,true,true,true,true,true,true,true,true,true,true,true] rfl rfl (one_of HT_.out (by kernel_rfl)) (by decide) (fun K hK => ?_)
 have hs14 : w10.cell? ⟨gb1109,0,none⟩ = some (.slice none 0 0) := (blk_cell BK1109.out 0).trans rfl
 have hfs14 := blk_frozen BK1109.out 0
 have hns14_0 := NB1108_1109.out
 have hms14_0 := NB1109_1108.out
 have hs15 : w10.cell? ⟨gb1109,1,none⟩ = some (.slice none 0 0) := (blk_cell BK1109.out 1).trans rfl
 have hfs15 := blk_frozen BK1109.out 1
 have hns15_0 := NB1108_1109.out
 have hms15_0 := NB1109_1108.out
 have hs16 : w10.cell? ⟨gb1109,2,none⟩ = some (.slice none 0 0) := (blk_cell BK1109.out 2).trans rfl
 have hfs16 := blk_frozen BK1109.out 2
 have hns16_0 := NB1108_1109.out
 have hms16_0 := NB1109_1108.out
 have hs17 : w10.cell? ⟨gb1109,3,none⟩ = some (.bool false) := (blk_cell BK1109.out 3).trans rfl
 have hfs17 := blk_frozen BK1109.out 3
 have hns17_0 := NB1108_1109.out
 have hms17_0 := NB1109_1108.out
 refine skip_ (w1 := ?_) (by rfl) rfl ?_ ?_
 rotate_left
 ·go_simp
  rfl
 refine hK.out _ _ ⟨((cell_far (p := ⟨gb1109,_,none⟩) NB1108_1109.out _).trans (((cell_far (p := ⟨gb1109,_,none⟩) NB1108_1109.out _).trans (((cell_far (p := ⟨gb1109,_,none⟩) NB1108_1109.out _).trans (((cell_far (p := ⟨gb1109,_,none⟩) NB1108_1109.out _).trans (hHeld.1)))))))),((cell_far (p := ⟨gb1109,_,none⟩) NB1108_1109.out _).trans (((cell_far (p := ⟨gb1109,_,none⟩) NB1108_1109.out _).trans (((cell_far (p := ⟨gb1109,_,none⟩) NB1108_1109.out _).trans (((cell_far (p := ⟨gb1109,_,none⟩) NB1108_1109.out _).trans (hHeld.2.1)))))))),((cell_far (p := ⟨gb1109,_,none⟩) NB1108_1109.out _).trans (((cell_far (p := ⟨gb1109,_,none⟩) NB1108_1109.out _).trans (((cell_far (p := ⟨gb1109,_,none⟩) NB1108_1109.out _).trans (((cell_far (p := ⟨gb1109,_,none⟩) NB1108_1109.out _).trans (hHeld.2.2.1)))))))),((cell_far (p := ⟨gb1109,_,none⟩) NB1108_1109.out _).trans (((cell_far (p := ⟨gb1109,_,none⟩) NB1108_1109.out _).trans (((cell_far (p := ⟨gb1109,_,none⟩) NB1108_1109.out _).trans (((cell_far (p := ⟨gb1109,_,none⟩) NB1108_1109.out _).trans (hHeld.2.2.2))))))))⟩ (fun hHeld => ?_)
 clear hK K
 refine done_ (done_of HT_.out (by kernel_rfl)) ?_
 try go_wp2
 refine bodyPost_ret (results_cell_row rfl _ _ gb1109 56 #[.slice Ao13 t1110.length co13,.slice Ao12 t1113.length co12,.slice Ao11 t1116.length co11,.bool a0_3] (0,0) _ rfl (by (with_reducible repeat (first|refine blk_drewN ?_ _|refine blk_drew ?_|refine blk_alloc ?_ _));refine blk_put (cs := #[.slice Ao13 t1110.length co13,.slice Ao12 t1113.length co12,.slice Ao11 t1116.length co11,.bool false]) ?_ 3 _ rfl;(with_reducible repeat (first|refine blk_drewN ?_ _|refine blk_drew ?_|refine blk_alloc ?_ _));refine blk_put (cs := #[.slice Ao13 t1110.length co13,.slice Ao12 t1113.length co12,.slice none 0 0,.bool false]) ?_ 2 _ rfl;(with_reducible repeat (first|refine blk_drewN ?_ _|refine blk_drew ?_|refine blk_alloc ?_ _));refine blk_put (cs := #[.slice Ao13 t1110.length co13,.slice none 0 0,.slice none 0 0,.bool false]) ?_ 1 _ rfl;(with_reducible repeat (first|refine blk_drewN ?_ _|refine blk_drew ?_|refine blk_alloc ?_ _));refine blk_put (cs := #[.slice none 0 0,.slice none 0 0,.slice none 0 0,.bool false]) ?_ 0 _ rfl;(with_reducible repeat (first|refine blk_drewN ?_ _|refine blk_drew ?_|refine blk_alloc ?_ _));exact BK1109.out) Try.underlying56 rfl (by kernel_rfl)) rfl ?_
 exact ⟨_,_,_,by first|rfl|(simp [errW_none,errW_some] <;> rfl)|(simp [*,errW_none,errW_some] <;> rfl),by (with_reducible repeat (first|apply Kd.S_alloc|apply Kd.S_drewN|apply Kd.S_drew));exact Kd.S_mono (Kd.S_far (p := ⟨gb1109,3,none⟩) (Kd.S_far (p := ⟨gb1109,2,none⟩) (Kd.S_far (p := ⟨gb1109,1,none⟩) (Kd.S_far (p := ⟨gb1109,0,none⟩) (Kd.S_types HO1112.out BK1109.out (by decide)) (fun _ hk => hk.2) (.slice Ao13 t1110.length co13)) (fun _ hk => hk.2) (.slice Ao12 t1113.length co12)) (fun _ hk => hk.2) (.slice Ao11 t1116.length co11)) (fun _ hk => hk.2) (.bool a0_3)) (fun _ hk => ⟨hk.1.1.2,hk.1.2⟩),by (with_reducible repeat (first|apply Kd.R_alloc|apply Kd.R_drewN|apply Kd.R_drew));exact Kd.R_mono (Kd.R_far (p := ⟨gb1109,3,none⟩) (Kd.R_far (p := ⟨gb1109,2,none⟩) (Kd.R_far (p := ⟨gb1109,1,none⟩) (Kd.R_far (p := ⟨gb1109,0,none⟩) (Kd.R_types HO1115.out BK1109.out (by decide)) (fun _ hk => hk.2) (.slice Ao13 t1110.length co13)) (fun _ hk => hk.2) (.slice Ao12 t1113.length co12)) (fun _ hk => hk.2) (.slice Ao11 t1116.length co11)) (fun _ hk => hk.2) (.bool a0_3)) (fun _ hk => hk.1.2),by (with_reducible repeat (first|apply Kd.R_alloc|apply Kd.R_drewN|apply Kd.R_drew));exact Kd.R_mono (Kd.R_far (p := ⟨gb1109,3,none⟩) (Kd.R_far (p := ⟨gb1109,2,none⟩) (Kd.R_far (p := ⟨gb1109,1,none⟩) (Kd.R_far (p := ⟨gb1109,0,none⟩) (Kd.R_types HO1118.out BK1109.out (by decide)) (fun _ hk => hk.2) (.slice Ao13 t1110.length co13)) (fun _ hk => hk.2) (.slice Ao12 t1113.length co12)) (fun _ hk => hk.2) (.slice Ao11 t1116.length co11)) (fun _ hk => hk.2) (.bool a0_3)) (fun _ hk => hk.1.2),by repeat (first|(with_reducible first|exact HB.out|apply below_alloc|apply pw_below_drewN|apply below_drew1|refine below_set ?_ GE1108.out|refine below_set ?_ GE1109.out)|exact HB.out)⟩

/-! ### impl_running: function 85 -/
def impl_running.l0 : Nat → List (S75) → Int → Int → List (S88) → List Int → List Int → Bool → Option ((List (S88)) × List Int × List Int × Bool × Int)
 | 0,_,_,_,_,_,_,_ => none
 | k + 1,x0,x11,x12,x1131000,x1131001,x1131002,x1131003 => if x12 < x11 then (none) else ((impl_copyMachine.f k x1131000 x1131001 x1131002 x1131003).bind fun bt1131 => (some (bt1131.1,bt1131.2.1,bt1131.2.2.1,bt1131.2.2.2,(x0.length : Int))))
def impl_running.f (k : Nat) (l0 : List (S75)) : Option ((List (S88)) × List Int × List Int × Bool × Int) := (impl_NewMachine.f k 0).bind fun bt1120 => (impl_running.l0 k l0 (l0.length : Int) 0 bt1120.1 bt1120.2.1 bt1120.2.2.1 bt1120.2.2.2)
set_option maxRecDepth 100000 in
theorem impl_running.mono_l : ∀ k,(∀ y0 y1 y2 y3 y4 y5 y6,LeO (impl_running.l0 k y0 y1 y2 y3 y4 y5 y6) (impl_running.l0 (k + 1) y0 y1 y2 y3 y4 y5 y6))
 | 0 => fun _ _ _ _ _ _ _ r h => (by cases h)
 | k + 1 => by
  have ih0 := impl_running.mono_l k
  ·intro y0 y1 y2 y3 y4 y5 y6
   unfold impl_running.l0
   repeat' first
   | (with_reducible exact ih0 _ _ _ _ _ _ _)
   | (with_reducible exact impl_NewMachine.mono _ _)
   | (with_reducible exact impl_copyMachine.mono _ _ _ _ _)
   | (with_reducible exact LeO.refl _)
   | (with_reducible exact LeO.none _)
   | (with_reducible refine LeO.ite ?_ ?_)
   | (with_reducible refine LeO.bind ?_ (fun _ => ?_))
   | exact ih0 _ _ _ _ _ _ _
   | exact impl_NewMachine.mono _ _
   | exact impl_copyMachine.mono _ _ _ _ _
   | exact LeO.none _
   | refine LeO.ite ?_ ?_
   | refine LeO.bind ?_ (fun _ => ?_)
set_option maxRecDepth 100000 in
theorem impl_running.mono : ∀ a0 k,LeO (impl_running.f k a0) (impl_running.f (k + 1) a0) := by
 intro a0 k
 have ih0 := impl_running.mono_l k
 unfold impl_running.f
 repeat' first
   | (with_reducible exact ih0 _ _ _ _ _ _ _)
   | (with_reducible exact impl_NewMachine.mono _ _)
   | (with_reducible exact impl_copyMachine.mono _ _ _ _ _)
   | (with_reducible exact LeO.refl _)
   | (with_reducible exact LeO.none _)
   | (with_reducible refine LeO.ite ?_ ?_)
   | (with_reducible refine LeO.bind ?_ (fun _ => ?_))
   | exact ih0 _ _ _ _ _ _ _
   | exact impl_NewMachine.mono _ _
   | exact impl_copyMachine.mono _ _ _ _ _
   | exact LeO.none _
   | refine LeO.ite ?_ ?_
   | refine LeO.bind ?_ (fun _ => ?_)
set_option maxHeartbeats 8000000 in
set_option maxRecDepth 100000 in
theorem impl_running.calls (k : Nat) (A0 : Option Addr) (c0 : Nat) (l0 : List (S75)) (r1 : List (S88)) (r2 : List Int) (r3 : List Int) (r4 : Bool) (r5 : Int) (w : World) (hr0 : Kd.C k75 w A0 l0.length l0) (hc0 : l0.length ≤ c0) (h : impl_running.f k l0 = some (r1,r2,r3,r4,r5)) :
  Calls Try.prog 85 #[.slice A0 l0.length c0,.func (.func 86) #[] #[]] w fun e w' => ∃ v0_ v1_ v2_ : Value,e = .returned (.tuple #[.agg #[v0_,v1_,v2_,.bool r4],.int .i64 r5]) ∧ Kd.S k88 88 w' w.heap.size (fun k_ => some k_ ≠ (v1_ : Value).ownBlock ∧ some k_ ≠ (v2_ : Value).ownBlock) v0_ r1 ∧ Kd.R (Kd.int .i64) 3 w' w.heap.size (fun k_ => some k_ ≠ (v2_ : Value).ownBlock) v1_ r2 ∧ Kd.R (Kd.int .i64) 3 w' w.heap.size (fun k_ => some k_ ≠ (v1_ : Value).ownBlock) v2_ r3 ∧ Below w.heap.size w w' := by
 have hu56 := Try.underlying56
 have HR0 := Aside0.mk hr0
 have HC0 := Aside0.mk hc0
 clear hr0 hc0
 have HB := Aside0.mk (Below.refl w.heap.size w)
 have H : ((impl_NewMachine.f k 0).bind fun bt1120 => (impl_running.l0 k l0 (l0.length : Int) 0 bt1120.1 bt1120.2.1 bt1120.2.2.1 bt1120.2.2.2)) = some (r1,r2,r3,r4,r5) := h
 clear h
 replace H := Option.bind_eq_some_iff.mp H
 obtain ⟨⟨t1120,t1123,t1126,t1129⟩,A20,H⟩ := H
 replace H : (impl_running.l0 k l0 (l0.length : Int) 0 t1120 t1123 t1126 t1129) = some (r1,r2,r3,r4,r5) := H
 have A2 := Aside0.mk A20
 clear A20
 have H' := Aside0.mk H
 clear H
 go_enter Try.func85,Try.ntmps85
 go_wp2_with (first|((with_reducible refine gate_dst (N := 4) rfl ?_);refine box_event ?hg (N := 4) ?hd (cs := #[.slice none 0 0,.slice none 0 0,.slice none 0 0,.bool false]) (t := 56) ?hr ?_;(case hd => rfl);(case hg => rfl);(case hr => first|(go_simp;done)|(go_simp;rfl));intro gb1119 hg w3 hbox hb;have n0_ := Aside0.mk (below_step (by repeat (first|(with_reducible first|exact HB.out|apply below_alloc|apply pw_below_drewN|apply below_drew1)|exact HB.out)) hb);have n1_ := Aside0.mk (hbox);have n2_ := Aside0.mk ((by rw [hg];exact (below_size (by repeat (first|(with_reducible first|exact HB.out|apply below_alloc|apply pw_below_drewN|apply below_drew1)|exact HB.out))) : w.heap.size ≤ gb1119));have n3_ := Aside0.mk ((by rw [hg];exact (below_size (by repeat (first|(with_reducible first|exact HB.out|apply below_alloc|apply pw_below_drewN|apply below_drew1)|exact HB.out))) : w.heap.size ≤ gb1119));clear HB;have HB := n0_;have BK1119 := n1_;have GW1119 := n2_;have GE1119 := n3_;clear n0_ n1_ n2_ n3_;clear hb hbox hg)|((with_reducible refine gate_callee (f := 39) rfl ?_);refine goesL_ (some 9) rfl rfl Try.func39 (by kernel_rfl) rfl #[.int .i64 0] rfl (by (try simp only [List.map_toArray,List.map_cons,List.map_nil]);first|done|rfl|(simp only [List.length_drop,List.length_take];rfl)) ?_;(with_reducible refine (impl_NewMachine.calls k 0 t1120 t1123 t1126 t1129 _ A2.out).mono ?_);rintro e w4 ⟨v1121,v1124,v1127,rfl,ho0,ho1,ho2,hb⟩;refine ⟨_,rfl,?_⟩;have n0_ := Aside0.mk (Kd.S_lower ho0 (below_size (by repeat (first|(with_reducible first|exact HB.out|apply below_alloc|apply pw_below_drewN|apply below_drew1|refine below_set ?_ GE1119.out)|exact HB.out))));have n1_ := Aside0.mk (Kd.R_lower ho1 (below_size (by repeat (first|(with_reducible first|exact HB.out|apply below_alloc|apply pw_below_drewN|apply below_drew1|refine below_set ?_ GE1119.out)|exact HB.out))));have n2_ := Aside0.mk (Kd.R_lower ho2 (below_size (by repeat (first|(with_reducible first|exact HB.out|apply below_alloc|apply pw_below_drewN|apply below_drew1|refine below_set ?_ GE1119.out)|exact HB.out))));have n3_ := Aside0.mk (blk_below (g := gb1119) (o := .cells #[.slice none 0 0,.slice none 0 0,.slice none 0 0,.bool false] 56 (0,0)) (by (with_reducible repeat (first|refine blk_drewN ?_ _|refine blk_drew ?_|refine blk_alloc ?_ _));exact BK1119.out) hb);have n4_ := Aside0.mk (below_step (by repeat (first|(with_reducible first|exact HB.out|apply below_alloc|apply pw_below_drewN|apply below_drew1|refine below_set ?_ GE1119.out)|exact HB.out)) hb);clear BK1119;clear HB;have HO1122 := n0_;have HO1125 := n1_;have HO1128 := n2_;have BK1119 := n3_;have HB := n4_;clear n0_ n1_ n2_ n3_ n4_;(try clear hb);(try clear hb2);(try clear hk);(try clear hi);(try clear ho0);(try clear ho1);(try clear ho2))|((with_reducible refine gate_dst (N := 6) rfl ?_);refine box_event ?hg (N := 6) ?hd (cs := #[.slice none 0 0,.slice none 0 0,.slice none 0 0,.bool false]) (t := 56) ?hr ?_;(case hd => rfl);(case hg => rfl);(case hr => first|(go_simp;done)|(go_simp;rfl));intro gb1130 hg w5 hbox hb;have n0_ := Aside0.mk (Kd.S_below (by (with_reducible repeat (first|apply Kd.S_alloc|apply Kd.S_drewN|apply Kd.S_drew));exact HO1122.out) hb);have n1_ := Aside0.mk (Kd.R_below (by (with_reducible repeat (first|apply Kd.R_alloc|apply Kd.R_drewN|apply Kd.R_drew));exact HO1125.out) hb);have n2_ := Aside0.mk (Kd.R_below (by (with_reducible repeat (first|apply Kd.R_alloc|apply Kd.R_drewN|apply Kd.R_drew));exact HO1128.out) hb);have n3_ := Aside0.mk (blk_below (g := gb1119) (o := .cells #[.slice none 0 0,.slice none 0 0,.slice none 0 0,.bool false] 56 (0,0)) (by (with_reducible repeat (first|refine blk_drewN ?_ _|refine blk_drew ?_|refine blk_alloc ?_ _));exact BK1119.out) hb);have n4_ := Aside0.mk (below_step (by repeat (first|(with_reducible first|exact HB.out|apply below_alloc|apply pw_below_drewN|apply below_drew1|refine below_set ?_ GE1119.out)|exact HB.out)) hb);have n5_ := Aside0.mk (hbox);have n6_ := Aside0.mk ((by rw [hg];exact (below_size (by repeat (first|(with_reducible first|exact HB.out|apply below_alloc|apply pw_below_drewN|apply below_drew1|refine below_set ?_ GE1119.out)|exact HB.out))) : w.heap.size ≤ gb1130));have n7_ := Aside0.mk ((by rw [hg];exact (below_size (by repeat (first|(with_reducible first|exact HB.out|apply below_alloc|apply pw_below_drewN|apply below_drew1|refine below_set ?_ GE1119.out)|exact HB.out))) : w.heap.size ≤ gb1130));have n8_ := Aside0.mk ((by rw [hg];exact Nat.ne_of_lt (blk_lt (g := gb1119) (o := .cells #[.slice none 0 0,.slice none 0 0,.slice none 0 0,.bool false] 56 (0,0)) (by (with_reducible repeat (first|refine blk_drewN ?_ _|refine blk_drew ?_|refine blk_alloc ?_ _));exact BK1119.out)) : gb1119 ≠ gb1130));have n9_ := Aside0.mk ((by rw [hg];exact Nat.ne_of_gt (blk_lt (g := gb1119) (o := .cells #[.slice none 0 0,.slice none 0 0,.slice none 0 0,.bool false] 56 (0,0)) (by (with_reducible repeat (first|refine blk_drewN ?_ _|refine blk_drew ?_|refine blk_alloc ?_ _));exact BK1119.out)) : gb1130 ≠ gb1119));clear HO1122;clear HO1125;clear HO1128;clear BK1119;clear HB;have HO1122 := n0_;have HO1125 := n1_;have HO1128 := n2_;have BK1119 := n3_;have HB := n4_;have BK1130 := n5_;have GW1130 := n6_;have GE1130 := n7_;have NB1119_1130 := n8_;have NB1130_1119 := n9_;clear n0_ n1_ n2_ n3_ n4_ n5_ n6_ n7_ n8_ n9_;clear hb hbox hg;obtain ⟨Ao6,co6,eo6⟩ := Kd.S_slice HO1122.out;subst eo6;have hnb7 := NB1130_1119.out;have hnc7 := NB1119_1130.out;have hcz8_0 : w5.cell? ⟨gb1130,0,none⟩ = some (.slice none 0 0) := (blk_cell BK1130.out 0).trans rfl;have hcz8_1 : w5.cell? ⟨gb1130,1,none⟩ = some (.slice none 0 0) := (blk_cell BK1130.out 1).trans rfl;have hcz8_2 : w5.cell? ⟨gb1130,2,none⟩ = some (.slice none 0 0) := (blk_cell BK1130.out 2).trans rfl;have hcz8_3 : w5.cell? ⟨gb1130,3,none⟩ = some (.bool false) := (blk_cell BK1130.out 3).trans rfl;have hfz8_0 := blk_frozen BK1130.out 0;have hfz8_1 := blk_frozen BK1130.out 1;have hfz8_2 := blk_frozen BK1130.out 2;have hfz8_3 := blk_frozen BK1130.out 3;obtain ⟨Ao9,co9,eo9⟩ := Kd.R_slice HO1125.out;subst eo9;obtain ⟨Ao10,co10,eo10⟩ := Kd.R_slice HO1128.out;subst eo10))
 go_loopg [12] k (fun kq v12 w' => ∃ (x12_1 : Int),v12 = .int .i64 x12_1 ∧ Aside0 (impl_running.l0 kq l0 (l0.length : Int) x12_1 t1120 t1123 t1126 t1129 = some (r1,r2,r3,r4,r5)) ∧ Aside0 (kq ≤ k) ∧ Aside0 (Kd.S k88 88 w' w.heap.size (fun k_ => some k_ ≠ ((.slice Ao9 t1123.length co9) : Value).ownBlock ∧ some k_ ≠ ((.slice Ao10 t1126.length co10) : Value).ownBlock) (.slice Ao6 t1120.length co6) t1120) ∧ Aside0 (Kd.R (Kd.int .i64) 3 w' w.heap.size (fun k_ => some k_ ≠ ((.slice Ao10 t1126.length co10) : Value).ownBlock) (.slice Ao9 t1123.length co9) t1123) ∧ Aside0 (Kd.R (Kd.int .i64) 3 w' w.heap.size (fun k_ => some k_ ≠ ((.slice Ao9 t1123.length co9) : Value).ownBlock) (.slice Ao10 t1126.length co10) t1126) ∧ Aside0 (w'.heap[gb1119]? = some (.cells #[(.slice none 0 0),(.slice none 0 0),(.slice none 0 0),.bool false] 56 (0,0))) ∧ Aside0 (w'.heap[gb1130]? = some (.cells #[(.slice Ao6 t1120.length co6),(.slice Ao9 t1123.length co9),(.slice Ao10 t1126.length co10),.bool t1129] 56 (0,0))) ∧ Aside0 (Below w.heap.size w w'))
 case atStart => exact ⟨(0),(by first|rfl|(simp;done)|(simp [*];done)),H',⟨Nat.le_refl _⟩,⟨by (with_reducible repeat (first|apply Kd.S_alloc|apply Kd.S_drewN|apply Kd.S_drew));exact Kd.S_mono (Kd.S_far (p := ⟨gb1130,3,none⟩) (Kd.S_far (p := ⟨gb1130,2,none⟩) (Kd.S_far (p := ⟨gb1130,1,none⟩) (Kd.S_far (p := ⟨gb1130,0,none⟩) (Kd.S_types HO1122.out BK1130.out (by decide)) (fun _ hk => hk.2) (.slice Ao6 t1120.length co6)) (fun _ hk => hk.2) (.slice Ao9 t1123.length co9)) (fun _ hk => hk.2) (.slice Ao10 t1126.length co10)) (fun _ hk => hk.2) (.bool t1129)) (fun _ hk => ⟨hk.1.1,hk.1.2⟩)⟩,⟨by (with_reducible repeat (first|apply Kd.R_alloc|apply Kd.R_drewN|apply Kd.R_drew));exact Kd.R_mono (Kd.R_far (p := ⟨gb1130,3,none⟩) (Kd.R_far (p := ⟨gb1130,2,none⟩) (Kd.R_far (p := ⟨gb1130,1,none⟩) (Kd.R_far (p := ⟨gb1130,0,none⟩) (Kd.R_types HO1125.out BK1130.out (by decide)) (fun _ hk => hk.2) (.slice Ao6 t1120.length co6)) (fun _ hk => hk.2) (.slice Ao9 t1123.length co9)) (fun _ hk => hk.2) (.slice Ao10 t1126.length co10)) (fun _ hk => hk.2) (.bool t1129)) (fun _ hk => hk.1)⟩,⟨by (with_reducible repeat (first|apply Kd.R_alloc|apply Kd.R_drewN|apply Kd.R_drew));exact Kd.R_mono (Kd.R_far (p := ⟨gb1130,3,none⟩) (Kd.R_far (p := ⟨gb1130,2,none⟩) (Kd.R_far (p := ⟨gb1130,1,none⟩) (Kd.R_far (p := ⟨gb1130,0,none⟩) (Kd.R_types HO1128.out BK1130.out (by decide)) (fun _ hk => hk.2) (.slice Ao6 t1120.length co6)) (fun _ hk => hk.2) (.slice Ao9 t1123.length co9)) (fun _ hk => hk.2) (.slice Ao10 t1126.length co10)) (fun _ hk => hk.2) (.bool t1129)) (fun _ hk => hk.1)⟩,⟨by (with_reducible repeat (first|refine blk_drewN ?_ _|refine blk_drew ?_|refine blk_alloc ?_ _));refine blk_far ?_ NB1119_1130.out _;(with_reducible repeat (first|refine blk_drewN ?_ _|refine blk_drew ?_|refine blk_alloc ?_ _));refine blk_far ?_ NB1119_1130.out _;(with_reducible repeat (first|refine blk_drewN ?_ _|refine blk_drew ?_|refine blk_alloc ?_ _));refine blk_far ?_ NB1119_1130.out _;(with_reducible repeat (first|refine blk_drewN ?_ _|refine blk_drew ?_|refine blk_alloc ?_ _));refine blk_far ?_ NB1119_1130.out _;(with_reducible repeat (first|refine blk_drewN ?_ _|refine blk_drew ?_|refine blk_alloc ?_ _));exact BK1119.out⟩,⟨by (with_reducible repeat (first|refine blk_drewN ?_ _|refine blk_drew ?_|refine blk_alloc ?_ _));refine blk_put (cs := #[.slice Ao6 t1120.length co6,.slice Ao9 t1123.length co9,.slice Ao10 t1126.length co10,.bool false]) ?_ 3 _ rfl;(with_reducible repeat (first|refine blk_drewN ?_ _|refine blk_drew ?_|refine blk_alloc ?_ _));refine blk_put (cs := #[.slice Ao6 t1120.length co6,.slice Ao9 t1123.length co9,.slice none 0 0,.bool false]) ?_ 2 _ rfl;(with_reducible repeat (first|refine blk_drewN ?_ _|refine blk_drew ?_|refine blk_alloc ?_ _));refine blk_put (cs := #[.slice Ao6 t1120.length co6,.slice none 0 0,.slice none 0 0,.bool false]) ?_ 1 _ rfl;(with_reducible repeat (first|refine blk_drewN ?_ _|refine blk_drew ?_|refine blk_alloc ?_ _));refine blk_put (cs := #[.slice none 0 0,.slice none 0 0,.slice none 0 0,.bool false]) ?_ 0 _ rfl;(with_reducible repeat (first|refine blk_drewN ?_ _|refine blk_drew ?_|refine blk_alloc ?_ _));exact BK1130.out⟩,⟨by repeat (first|(with_reducible first|exact HB.out|apply below_alloc|apply pw_below_drewN|apply below_drew1|refine below_set ?_ GE1119.out|refine below_set ?_ GE1130.out)|exact HB.out)⟩⟩
 case round =>
  clear H'
  try clear p2
  try clear c3
  try clear c7
  try clear c8
  try clear hcz8_0
  try clear hcz8_1
  try clear hcz8_2
  try clear hcz8_3
  try clear hfz8_0
  try clear hfz8_1
  try clear hfz8_2
  try clear hfz8_3
  obtain ⟨x12_1,rfl,HA,HK1,HO_1131000,HO_1131001,HO_1131002,BK1119,BK1130,HB⟩ := hrel
  cases gk with
  | zero => exact absurd HA.out (fun h_ => (by cases h_))
  | succ k1 =>
   have H := HA.out
   clear HA
   simp only [impl_running.l0] at H
   by_cases c11 : x12_1 < (l0.length : Int)
   ·rw [if_pos c11] at H
    exact absurd H (by simp)
   ·rw [if_neg c11] at H
    have c11b0 : decide (x12_1 < (l0.length : Int)) = false := decide_eq_false c11
    clear c11
    replace H := Option.bind_eq_some_iff.mp H
    obtain ⟨⟨t1131,t1134,t1137,t1140⟩,A120,H⟩ := H
    replace H : (some (t1131,t1134,t1137,t1140,(l0.length : Int))) = some (r1,r2,r3,r4,r5) := H
    have A12 := Aside0.mk A120
    clear A120
    simp only [Option.some.injEq,Prod.mk.injEq] at H
    obtain ⟨rfl,rfl,rfl,rfl,rfl⟩ := H
    have hnb13 := NB1130_1119.out
    have hnc13 := NB1119_1130.out
    have hcz14_0 : wr.cell? ⟨gb1130,0,none⟩ = some (.slice Ao6 t1120.length co6) := (blk_cell BK1130.out 0).trans rfl
    have hcz14_1 : wr.cell? ⟨gb1130,1,none⟩ = some (.slice Ao9 t1123.length co9) := (blk_cell BK1130.out 1).trans rfl
    have hcz14_2 : wr.cell? ⟨gb1130,2,none⟩ = some (.slice Ao10 t1126.length co10) := (blk_cell BK1130.out 2).trans rfl
    have hcz14_3 : wr.cell? ⟨gb1130,3,none⟩ = some (.bool t1129) := (blk_cell BK1130.out 3).trans rfl
    have hfz14_0 := blk_frozen BK1130.out 0
    have hfz14_1 := blk_frozen BK1130.out 1
    have hfz14_2 := blk_frozen BK1130.out 2
    have hfz14_3 := blk_frozen BK1130.out 3
    go_wp2_with (first|((with_reducible refine gate_callee (f := 115) rfl ?_);refine goesL_ (some 28) rfl rfl Try.func115 (by kernel_rfl) rfl #[.agg #[.slice Ao6 t1120.length co6,.slice Ao9 t1123.length co9,.slice Ao10 t1126.length co10,.bool t1129]] rfl (by (try simp only [List.map_toArray,List.map_cons,List.map_nil]);first|done|rfl|(simp only [List.length_drop,List.length_take];rfl)) ?_;(with_reducible refine (impl_copyMachine.calls k1 _ _ t1120 _ _ t1123 _ _ t1126 t1129 t1131 t1134 t1137 t1140 _ ?side1 ?side2 ?side3 ?side4 ?side5 ?side6 A12.out).mono ?_);(case side1 => repeat (first|exact (Kd.S_reads' HO_1131000.out).2.2|(with_reducible refine Kd.C_alloc ?_ _)|(with_reducible refine Kd.C_drewN ?_ _)|(with_reducible refine Kd.C_drew ?_)));(case side2 => exact (Kd.S_reads' HO_1131000.out).2.1);(case side3 => repeat (first|exact (Kd.R_reads' HO_1131001.out).2.2|(with_reducible refine Kd.C_alloc ?_ _)|(with_reducible refine Kd.C_drewN ?_ _)|(with_reducible refine Kd.C_drew ?_)));(case side4 => exact (Kd.R_reads' HO_1131001.out).2.1);(case side5 => repeat (first|exact (Kd.R_reads' HO_1131002.out).2.2|(with_reducible refine Kd.C_alloc ?_ _)|(with_reducible refine Kd.C_drewN ?_ _)|(with_reducible refine Kd.C_drew ?_)));(case side6 => exact (Kd.R_reads' HO_1131002.out).2.1);rintro e w15 ⟨v1132,v1135,v1138,rfl,ho0,ho1,ho2,hb⟩;refine ⟨_,rfl,?_⟩;have n0_ := Aside0.mk (Kd.S_mono (Kd.S_told (Kd.S_told (Kd.S_told (Kd.S_old (by (with_reducible repeat (first|apply Kd.S_alloc|apply Kd.S_drewN|apply Kd.S_drew));exact HO_1131000.out) hb) (Kd.S_base ho0)) (Kd.R_base ho1)) (Kd.R_base ho2)) (fun _ h_ => h_.1));have n1_ := Aside0.mk (Kd.R_mono (Kd.R_told (Kd.R_told (Kd.R_old (by (with_reducible repeat (first|apply Kd.R_alloc|apply Kd.R_drewN|apply Kd.R_drew));exact HO_1131001.out) hb) (Kd.R_base ho1)) (Kd.R_base ho2)) (fun _ h_ => h_.1));have n2_ := Aside0.mk (Kd.R_mono (Kd.R_told (Kd.R_told (Kd.R_old (by (with_reducible repeat (first|apply Kd.R_alloc|apply Kd.R_drewN|apply Kd.R_drew));exact HO_1131002.out) hb) (Kd.R_base ho1)) (Kd.R_base ho2)) (fun _ h_ => h_.1));have n3_ := Aside0.mk (Kd.S_lower (Kd.S_new' (Kd.S_new' (Kd.S_new' ho0 (Kd.S_lt (by (with_reducible repeat (first|apply Kd.S_alloc|apply Kd.S_drewN|apply Kd.S_drew));exact HO_1131000.out))) (Kd.R_lt (by (with_reducible repeat (first|apply Kd.R_alloc|apply Kd.R_drewN|apply Kd.R_drew));exact HO_1131001.out))) (Kd.R_lt (by (with_reducible repeat (first|apply Kd.R_alloc|apply Kd.R_drewN|apply Kd.R_drew));exact HO_1131002.out))) (below_size (by repeat (first|(with_reducible first|exact HB.out|apply below_alloc|apply pw_below_drewN|apply below_drew1|refine below_set ?_ GE1119.out|refine below_set ?_ GE1130.out)|exact HB.out))));have n4_ := Aside0.mk (Kd.R_lower (Kd.R_new' (Kd.R_new' ho1 (Kd.R_lt (by (with_reducible repeat (first|apply Kd.R_alloc|apply Kd.R_drewN|apply Kd.R_drew));exact HO_1131001.out))) (Kd.R_lt (by (with_reducible repeat (first|apply Kd.R_alloc|apply Kd.R_drewN|apply Kd.R_drew));exact HO_1131002.out))) (below_size (by repeat (first|(with_reducible first|exact HB.out|apply below_alloc|apply pw_below_drewN|apply below_drew1|refine below_set ?_ GE1119.out|refine below_set ?_ GE1130.out)|exact HB.out))));have n5_ := Aside0.mk (Kd.R_lower (Kd.R_new' (Kd.R_new' ho2 (Kd.R_lt (by (with_reducible repeat (first|apply Kd.R_alloc|apply Kd.R_drewN|apply Kd.R_drew));exact HO_1131001.out))) (Kd.R_lt (by (with_reducible repeat (first|apply Kd.R_alloc|apply Kd.R_drewN|apply Kd.R_drew));exact HO_1131002.out))) (below_size (by repeat (first|(with_reducible first|exact HB.out|apply below_alloc|apply pw_below_drewN|apply below_drew1|refine below_set ?_ GE1119.out|refine below_set ?_ GE1130.out)|exact HB.out))));have n6_ := Aside0.mk (blk_below (g := gb1119) (o := .cells #[.slice none 0 0,.slice none 0 0,.slice none 0 0,.bool false] 56 (0,0)) (by (with_reducible repeat (first|refine blk_drewN ?_ _|refine blk_drew ?_|refine blk_alloc ?_ _));exact BK1119.out) hb);have n7_ := Aside0.mk (blk_below (g := gb1130) (o := .cells #[.slice Ao6 t1120.length co6,.slice Ao9 t1123.length co9,.slice Ao10 t1126.length co10,.bool t1129] 56 (0,0)) (by (with_reducible repeat (first|refine blk_drewN ?_ _|refine blk_drew ?_|refine blk_alloc ?_ _));exact BK1130.out) hb);have n8_ := Aside0.mk (below_step (by repeat (first|(with_reducible first|exact HB.out|apply below_alloc|apply pw_below_drewN|apply below_drew1|refine below_set ?_ GE1119.out|refine below_set ?_ GE1130.out)|exact HB.out)) hb);clear HO_1131000;clear HO_1131001;clear HO_1131002;clear BK1119;clear BK1130;clear HB;have HO_1131000 := n0_;have HO_1131001 := n1_;have HO_1131002 := n2_;have HO1133 := n3_;have HO1136 := n4_;have HO1139 := n5_;have BK1119 := n6_;have BK1130 := n7_;have HB := n8_;clear n0_ n1_ n2_ n3_ n4_ n5_ n6_ n7_ n8_;(try clear hb);(try clear hb2);(try clear hk);(try clear hi);(try clear ho0);(try clear ho1);(try clear ho2);obtain ⟨Ao16,co16,eo16⟩ := Kd.S_slice HO1133.out;subst eo16;have hcz17_0 : w15.cell? ⟨gb1119,0,none⟩ = some (.slice none 0 0) := (blk_cell BK1119.out 0).trans rfl;have hcz17_1 : w15.cell? ⟨gb1119,1,none⟩ = some (.slice none 0 0) := (blk_cell BK1119.out 1).trans rfl;have hcz17_2 : w15.cell? ⟨gb1119,2,none⟩ = some (.slice none 0 0) := (blk_cell BK1119.out 2).trans rfl;have hcz17_3 : w15.cell? ⟨gb1119,3,none⟩ = some (.bool false) := (blk_cell BK1119.out 3).trans rfl;have hfz17_0 := blk_frozen BK1119.out 0;have hfz17_1 := blk_frozen BK1119.out 1;have hfz17_2 := blk_frozen BK1119.out 2;have hfz17_3 := blk_frozen BK1119.out 3;obtain ⟨Ao18,co18,eo18⟩ := Kd.R_slice HO1136.out;subst eo18;obtain ⟨Ao19,co19,eo19⟩ := Kd.R_slice HO1139.out;subst eo19))
    refine bodyPost_ret (results_ct rfl _ _ gb1119 56 #[.slice Ao16 t1131.length co16,.slice Ao18 t1134.length co18,.slice Ao19 t1137.length co19,.bool t1140] (0,0) _ rfl (by (with_reducible repeat (first|refine blk_drewN ?_ _|refine blk_drew ?_|refine blk_alloc ?_ _));refine blk_put (cs := #[.slice Ao16 t1131.length co16,.slice Ao18 t1134.length co18,.slice Ao19 t1137.length co19,.bool false]) ?_ 3 _ rfl;(with_reducible repeat (first|refine blk_drewN ?_ _|refine blk_drew ?_|refine blk_alloc ?_ _));refine blk_put (cs := #[.slice Ao16 t1131.length co16,.slice Ao18 t1134.length co18,.slice none 0 0,.bool false]) ?_ 2 _ rfl;(with_reducible repeat (first|refine blk_drewN ?_ _|refine blk_drew ?_|refine blk_alloc ?_ _));refine blk_put (cs := #[.slice Ao16 t1131.length co16,.slice none 0 0,.slice none 0 0,.bool false]) ?_ 1 _ rfl;(with_reducible repeat (first|refine blk_drewN ?_ _|refine blk_drew ?_|refine blk_alloc ?_ _));refine blk_put (cs := #[.slice none 0 0,.slice none 0 0,.slice none 0 0,.bool false]) ?_ 0 _ rfl;(with_reducible repeat (first|refine blk_drewN ?_ _|refine blk_drew ?_|refine blk_alloc ?_ _));exact BK1119.out) Try.underlying56 rfl (by kernel_rfl)) rfl ?_
    exact ⟨_,_,_,by first|rfl|(simp [errW_none,errW_some] <;> rfl)|(simp [*,errW_none,errW_some] <;> rfl),by (with_reducible repeat (first|apply Kd.S_alloc|apply Kd.S_drewN|apply Kd.S_drew));exact Kd.S_mono (Kd.S_far (p := ⟨gb1119,3,none⟩) (Kd.S_far (p := ⟨gb1119,2,none⟩) (Kd.S_far (p := ⟨gb1119,1,none⟩) (Kd.S_far (p := ⟨gb1119,0,none⟩) (Kd.S_types HO1133.out BK1119.out (by decide)) (fun _ hk => hk.2) (.slice Ao16 t1131.length co16)) (fun _ hk => hk.2) (.slice Ao18 t1134.length co18)) (fun _ hk => hk.2) (.slice Ao19 t1137.length co19)) (fun _ hk => hk.2) (.bool t1140)) (fun _ hk => ⟨hk.1.1.1.1.1,hk.1.1.1.1.2⟩),by (with_reducible repeat (first|apply Kd.R_alloc|apply Kd.R_drewN|apply Kd.R_drew));exact Kd.R_mono (Kd.R_far (p := ⟨gb1119,3,none⟩) (Kd.R_far (p := ⟨gb1119,2,none⟩) (Kd.R_far (p := ⟨gb1119,1,none⟩) (Kd.R_far (p := ⟨gb1119,0,none⟩) (Kd.R_types HO1136.out BK1119.out (by decide)) (fun _ hk => hk.2) (.slice Ao16 t1131.length co16)) (fun _ hk => hk.2) (.slice Ao18 t1134.length co18)) (fun _ hk => hk.2) (.slice Ao19 t1137.length co19)) (fun _ hk => hk.2) (.bool t1140)) (fun _ hk => hk.1.1.1),by (with_reducible repeat (first|apply Kd.R_alloc|apply Kd.R_drewN|apply Kd.R_drew));exact Kd.R_mono (Kd.R_far (p := ⟨gb1119,3,none⟩) (Kd.R_far (p := ⟨gb1119,2,none⟩) (Kd.R_far (p := ⟨gb1119,1,none⟩) (Kd.R_far (p := ⟨gb1119,0,none⟩) (Kd.R_types HO1139.out BK1119.out (by decide)) (fun _ hk => hk.2) (.slice Ao16 t1131.length co16)) (fun _ hk => hk.2) (.slice Ao18 t1134.length co18)) (fun _ hk => hk.2) (.slice Ao19 t1137.length co19)) (fun _ hk => hk.2) (.bool t1140)) (fun _ hk => hk.1.1.1),by repeat (first|(with_reducible first|exact HB.out|apply below_alloc|apply pw_below_drewN|apply below_drew1|refine below_set ?_ GE1119.out|refine below_set ?_ GE1130.out)|exact HB.out)⟩

end Go.Proofs.Ytbokjhdhpmmpfaa.Q
