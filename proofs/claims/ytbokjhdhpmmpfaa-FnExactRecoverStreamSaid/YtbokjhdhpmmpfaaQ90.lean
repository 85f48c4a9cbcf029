-- Written by wip/tools/qprint.py (a program of this claim's author) by means of the kit's printer.
import Derived.Test.YtbokjhdhpmmpfaaQ0
import Derived.Test.YtbokjhdhpmmpfaaQ97
namespace Go.Proofs.Ytbokjhdhpmmpfaa.Q
open Go.RowKit Go.Proofs.YtbokjhdhpmmpfaaW.PrintWords Go.Proofs.YtbokjhdhpmmpfaaW.PrintLast Go.Proofs.YtbokjhdhpmmpfaaW.PrintMore
attribute [local go_sem] max2_int min2_int max_two min_two max_three min_three max_four min_four   -- for this text's walks alone
set_option linter.unusedVariables false
set_option linter.unusedSimpArgs false

/-! ### impl_decoded: function 90 -/
mutual
def impl_decoded.l0 : Nat → List Int → List (S75) → Int → Option ((List (S75)) × Int)
 | 0,_,_,_ => none
 | k + 1,x0,x4,x5 => if (x4.length : Int) < 300 then (impl_decoded.j1 k x0 x4 x5 (decide (x5 < (x0.length : Int)))) else (impl_decoded.j1 k x0 x4 x5 false)
def impl_decoded.j1 : Nat → List Int → List (S75) → Int → Bool → Option ((List (S75)) × Int)
 | 0,_,_,_,_ => none
 | k + 1,x0,x4,x5,x17 => if x17 = true then (if 0 ≤ x5 then (if x5 < (x0.length : Int) then (if (rd x0 x5) ≤ 19 then ((impl_mostArg.f (rd x0 x5)).bind fun t200 => (impl_decoded.j2 k x0 x4 x5 1 (decide (t200 > 0)) (rd x0 x5) 0)) else (impl_decoded.j2 k x0 x4 x5 1 false (rd x0 x5) 0)) else (none)) else (none)) else (some (x4,x5))
def impl_decoded.j2 : Nat → List Int → List (S75) → Int → Int → Bool → Int → Int → Option ((List (S75)) × Int)
 | 0,_,_,_,_,_,_,_ => none
 | k + 1,x0,x4,x5,x7,x31,x200000,x200001 => if x31 = true then (if (wrap64 (x5 + 1)) ≥ (x0.length : Int) then (some (x4,x5)) else (if 0 ≤ (wrap64 (x5 + 1)) then (if (wrap64 (x5 + 1)) < (x0.length : Int) then (if (rd x0 (wrap64 (x5 + 1))) ≥ 128 then (if (wrap64 (x5 + 2)) ≥ (x0.length : Int) then (impl_decoded.j3 k x0 x4 x5 true x200000 (rd x0 (wrap64 (x5 + 1)))) else (if 0 ≤ (wrap64 (x5 + 2)) then (if (wrap64 (x5 + 2)) < (x0.length : Int) then (impl_decoded.j3 k x0 x4 x5 ((rd x0 (wrap64 (x5 + 2))) == 0) x200000 (rd x0 (wrap64 (x5 + 1)))) else (none)) else (none))) else ((impl_opOk.f x200000 (rd x0 (wrap64 (x5 + 1)))).bind fun t208 => (if t208 = true then (if x4.length < 8796093022208 then (impl_decoded.l0 k x0 (x4 ++ [(⟨x200000,rd x0 (wrap64 (x5 + 1))⟩ : S75)]) (wrap64 (x5 + 2))) else (none)) else (some (x4,x5))))) else (none)) else (none))) else ((impl_opOk.f x200000 x200001).bind fun t212 => (if t212 = true then (if x4.length < 8796093022208 then (impl_decoded.l0 k x0 (x4 ++ [(⟨x200000,x200001⟩ : S75)]) (wrap64 (x5 + x7))) else (none)) else (some (x4,x5))))
def impl_decoded.j3 : Nat → List Int → List (S75) → Int → Bool → Int → Int → Option ((List (S75)) × Int)
 | 0,_,_,_,_,_,_ => none
 | k + 1,x0,x4,x5,x58,x200000,x200001 => if x58 = true then (some (x4,x5)) else (if 0 ≤ (wrap64 (x5 + 2)) then (if (wrap64 (x5 + 2)) < (x0.length : Int) then ((impl_opOk.f x200000 (wrap64 ((wrap64 (x200001 - 128)) + (wrap64 (128 * (rd x0 (wrap64 (x5 + 2)))))))).bind fun t204 => (if t204 = true then (if x4.length < 8796093022208 then (impl_decoded.l0 k x0 (x4 ++ [(⟨x200000,wrap64 ((wrap64 (x200001 - 128)) + (wrap64 (128 * (rd x0 (wrap64 (x5 + 2))))))⟩ : S75)]) (wrap64 (x5 + 3))) else (none)) else (some (x4,x5)))) else (none)) else (none))
end
def impl_decoded.f (k : Nat) (l0 : List Int) : Option ((List (S75)) × Int) := impl_decoded.l0 k l0 (([] : List (S75))) 0
set_option maxRecDepth 100000 in
theorem impl_decoded.mono_l : ∀ k,(∀ y0 y1 y2,LeO (impl_decoded.l0 k y0 y1 y2) (impl_decoded.l0 (k + 1) y0 y1 y2)) ∧ (∀ y0 y1 y2 y3,LeO (impl_decoded.j1 k y0 y1 y2 y3) (impl_decoded.j1 (k + 1) y0 y1 y2 y3)) ∧ (∀ y0 y1 y2 y3 y4 y5 y6,LeO (impl_decoded.j2 k y0 y1 y2 y3 y4 y5 y6) (impl_decoded.j2 (k + 1) y0 y1 y2 y3 y4 y5 y6)) ∧ (∀ y0 y1 y2 y3 y4 y5,LeO (impl_decoded.j3 k y0 y1 y2 y3 y4 y5) (impl_decoded.j3 (k + 1) y0 y1 y2 y3 y4 y5))
 | 0 => ⟨fun _ _ _ r h => (by cases h),fun _ _ _ _ r h => (by cases h),fun _ _ _ _ _ _ _ r h => (by cases h),fun _ _ _ _ _ _ r h => (by cases h)⟩
 | k + 1 => by
  obtain ⟨ih0,ih1,ih2,ih3⟩ := impl_decoded.mono_l k
  refine ⟨?_,?_,?_,?_⟩
  ·intro y0 y1 y2
   unfold impl_decoded.l0
   repeat' first
   | (with_reducible exact ih0 _ _ _)
   | (with_reducible exact ih1 _ _ _ _)
   | (with_reducible exact ih2 _ _ _ _ _ _ _)
   | (with_reducible exact ih3 _ _ _ _ _ _)
   | (with_reducible exact LeO.refl _)
   | (with_reducible exact LeO.none _)
   | (with_reducible refine LeO.ite ?_ ?_)
   | (with_reducible refine LeO.bind ?_ (fun _ => ?_))
   | exact ih0 _ _ _
   | exact ih1 _ _ _ _
   | exact ih2 _ _ _ _ _ _ _
   | exact ih3 _ _ _ _ _ _
   | exact LeO.none _
   | refine LeO.ite ?_ ?_
   | refine LeO.bind ?_ (fun _ => ?_)
  ·intro y0 y1 y2 y3
   unfold impl_decoded.j1
   repeat' first
   | (with_reducible exact ih0 _ _ _)
   | (with_reducible exact ih1 _ _ _ _)
   | (with_reducible exact ih2 _ _ _ _ _ _ _)
   | (with_reducible exact ih3 _ _ _ _ _ _)
   | (with_reducible exact LeO.refl _)
   | (with_reducible exact LeO.none _)
   | (with_reducible refine LeO.ite ?_ ?_)
   | (with_reducible refine LeO.bind ?_ (fun _ => ?_))
   | exact ih0 _ _ _
   | exact ih1 _ _ _ _
   | exact ih2 _ _ _ _ _ _ _
   | exact ih3 _ _ _ _ _ _
   | exact LeO.none _
   | refine LeO.ite ?_ ?_
   | refine LeO.bind ?_ (fun _ => ?_)
  ·intro y0 y1 y2 y3 y4 y5 y6
   unfold impl_decoded.j2
   repeat' first
   | (with_reducible exact ih0 _ _ _)
   | (with_reducible exact ih1 _ _ _ _)
   | (with_reducible exact ih2 _ _ _ _ _ _ _)
   | (with_reducible exact ih3 _ _ _ _ _ _)
   | (with_reducible exact LeO.refl _)
   | (with_reducible exact LeO.none _)
   | (with_reducible refine LeO.ite ?_ ?_)
   | (with_reducible refine LeO.bind ?_ (fun _ => ?_))
   | exact ih0 _ _ _
   | exact ih1 _ _ _ _
   | exact ih2 _ _ _ _ _ _ _
   | exact ih3 _ _ _ _ _ _
   | exact LeO.none _
   | refine LeO.ite ?_ ?_
   | refine LeO.bind ?_ (fun _ => ?_)
  ·intro y0 y1 y2 y3 y4 y5
   unfold impl_decoded.j3
   repeat' first
   | (with_reducible exact ih0 _ _ _)
   | (with_reducible exact ih1 _ _ _ _)
   | (with_reducible exact ih2 _ _ _ _ _ _ _)
   | (with_reducible exact ih3 _ _ _ _ _ _)
   | (with_reducible exact LeO.refl _)
   | (with_reducible exact LeO.none _)
   | (with_reducible refine LeO.ite ?_ ?_)
   | (with_reducible refine LeO.bind ?_ (fun _ => ?_))
   | exact ih0 _ _ _
   | exact ih1 _ _ _ _
   | exact ih2 _ _ _ _ _ _ _
   | exact ih3 _ _ _ _ _ _
   | exact LeO.none _
   | refine LeO.ite ?_ ?_
   | refine LeO.bind ?_ (fun _ => ?_)
set_option maxRecDepth 100000 in
theorem impl_decoded.mono : ∀ a0 k,LeO (impl_decoded.f k a0) (impl_decoded.f (k + 1) a0) := by
 intro a0 k
 obtain ⟨ih0,ih1,ih2,ih3⟩ := impl_decoded.mono_l k
 unfold impl_decoded.f
 repeat' first
   | (with_reducible exact ih0 _ _ _)
   | (with_reducible exact ih1 _ _ _ _)
   | (with_reducible exact ih2 _ _ _ _ _ _ _)
   | (with_reducible exact ih3 _ _ _ _ _ _)
   | (with_reducible exact LeO.refl _)
   | (with_reducible exact LeO.none _)
   | (with_reducible refine LeO.ite ?_ ?_)
   | (with_reducible refine LeO.bind ?_ (fun _ => ?_))
   | exact ih0 _ _ _
   | exact ih1 _ _ _ _
   | exact ih2 _ _ _ _ _ _ _
   | exact ih3 _ _ _ _ _ _
   | exact LeO.none _
   | refine LeO.ite ?_ ?_
   | refine LeO.bind ?_ (fun _ => ?_)
def impl_decoded.T10 : Bool × List (List Nat × List Nat) := (true,[([],[]),([0],[0]),([1],[1]),([],[]),([],[]),([4],[4]),([3,5],[3,5]),([6],[6]),([7],[7]),([2,8],[2,8]),([0,1,2,3,4,5,6,7,8,9],[]),([10,9,0,1,2,3,4,5,6,7,8,9],[9,10]),([11,0,1,2,3,4,5,6,7,8,9,10,11],[])])
def impl_decoded.B10 : List Nat := [0,1,3,0,0,16,56,120,248,511,1023,2047,4095]
theorem impl_decoded.tab10 : rtab .any (opsOf Try.f90 10) = impl_decoded.T10 := by kernel_rfl
theorem impl_decoded.bits10 : waitsOk impl_decoded.T10.2 impl_decoded.B10 = true := by kernel_rfl
set_option maxHeartbeats 8000000 in
set_option maxRecDepth 100000 in
theorem impl_decoded.calls (k : Nat) (A0 : Option Addr) (c0 : Nat) (l0 : List Int) (r1 : List (S75)) (r2 : Int) (w : World) (hr0 : Kd.C (Kd.int .i64) w A0 l0.length l0) (hc0 : l0.length ≤ c0) (h : impl_decoded.f k l0 = some (r1,r2)) :
  Calls Try.prog 90 #[.slice A0 l0.length c0] w fun e w' => ∃ v0_ : Value,e = .returned (.tuple #[v0_,.int .i64 r2]) ∧ Kd.R k75 75 w' w.heap.size (fun _ => True) v0_ r1 ∧ Below w.heap.size w w' := by
 have hu75 := Try.underlying75
 have HR0 := As_ hr0
 have HC0 := As_ hc0
 clear hr0 hc0
 have HB := As_ (Below.refl w.heap.size w)
 have H : (impl_decoded.l0 k l0 (([] : List (S75))) 0) = some (r1,r2) := h
 clear h
 obtain ⟨y195,hy195⟩ : ∃ y_ : List (S75),y_ = (([] : List (S75))) := ⟨_,rfl⟩
 replace H : (impl_decoded.l0 k l0 y195 0) = some (r1,r2) := zH_ H hy195
 have Ny195 := As_ hy195
 clear hy195
 have H' := As_ H
 clear H
 go_enter Try.func90,Try.ntmps90
 go_wp2_with (first|((with_reducible refine gate_dst (N := 8) rfl ?_);(try (refine gate_guard (by rfl) ?_;dsimp only));refine Kd.R_lit k75 _ 75 ?hg (N := 8) ?hd (xs := ([] : List (S75))) (inner := []) (ok := fun _ => True) (okp := fun _ => True) ?hr ?hp (fun _ hk => hk) trivial (Below.refl _ _) (Nat.le_refl _) (by simp) ?_;(case hd => rfl);(case hg => rfl);(case hr => go_simp <;> rfl);(case hp => exact (Reps.none _ _));intro v196 w2 ho3 hb hg_ hnew_;clear hg_ hnew_;(first|rw [← Ny195.out] at ho3|(simp only [Int.reduceToNat] at ho3;rw [← Ny195.out] at ho3));have n0_ := As_ (Kd.R_lower ho3 (bwZ (zb0 HB.out)));have n1_ := As_ (bwT (zb0 HB.out) hb);clear HB;revert n0_ n1_;intro HO197 HB;clear hb ho3))
 go_loopg [4,5] k (fun kq v4 v5 w' => ∃ (x4_1 : List (S75)) (x5_1 : Int),v5 = .int .i64 x5_1 ∧ Aside0 (impl_decoded.l0 kq l0 x4_1 x5_1 = some (r1,r2)) ∧ Aside0 (kq ≤ k) ∧ Aside0 (Kd.R k75 75 w' w.heap.size (fun _ => True) v4 x4_1) ∧ Aside0 (Below w.heap.size w w'))
 case atStart => exact ⟨(y195),(0),zT_,H',⟨Nat.le_refl _⟩,⟨by (with_reducible repeat (first|apply Kd.R_alloc|apply Kd.R_drewN|apply Kd.R_drew));exact HO197.out⟩,⟨zb0 HB.out⟩⟩
 case round =>
  clear H'
  obtain ⟨x4_1,x5_1,rfl,HA,HK1,HO_4,HB⟩ := hrel
  cases gk with
  | zero => exact absurd HA.out (fun h_ => (by cases h_))
  | succ k1 =>
   have H := HA.out
   clear HA
   (unfold impl_decoded.l0 at H;try dsimp only at H)
   have HC4 := As_ H
   clear H
   go_upto_region 3 with (fail)
   go_cut [17] (fun v17 wc => ∃ (kq : Nat) (x17_3 : Bool),v17 = .bool x17_3 ∧ Aside0 (impl_decoded.j1 kq l0 x4_1 x5_1 x17_3 = some (r1,r2)) ∧ Aside0 (kq ≤ k1) ∧ Aside0 (Kd.R k75 75 wc w.heap.size (fun _ => True) u4 x4_1) ∧ Aside0 (Below w.heap.size w wc))
   case first =>
    have H := HC4.out
    clear HC4
    by_cases c5 : (x4_1.length : Int) < 300
    ·rw [if_pos c5] at H
     have c5b0 : decide ((x4_1.length : Int) < 300) = true := deT c5
     have c5b1 : decide (x4_1.length < 300) = true := deT (by omega)
     clear c5
     (first|rw [c5b0]|(simp only [i64_w,i32_w];rw [c5b0])|skip)
     have H' := As_ H
     clear H
     obtain ⟨Ao6,co6,eo6⟩ := Kd.R_slice HO_4.out
     subst eo6
     go_wp2
     go_meet
     case rel => exact ⟨_,(decide (x5_1 < (l0.length : Int))),zT_,H',⟨by have := HK1.out;first|omega|exact Nat.le_refl _⟩,⟨by (with_reducible repeat (first|apply Kd.R_alloc|apply Kd.R_drewN|apply Kd.R_drew));exact HO_4.out⟩,⟨zb0 HB.out⟩⟩
    rw [if_neg c5] at H
    have c5b0 : decide ((x4_1.length : Int) < 300) = false := deF c5
    have c5b1 : decide (x4_1.length < 300) = false := deF (by omega)
    clear c5
    (first|rw [c5b0]|(simp only [i64_w,i32_w];rw [c5b0])|skip)
    have H' := As_ H
    clear H
    obtain ⟨Ao7,co7,eo7⟩ := Kd.R_slice HO_4.out
    subst eo7
    go_wp2
    go_meet
    case rel => exact ⟨_,(false),zT_,H',⟨by have := HK1.out;first|omega|exact Nat.le_refl _⟩,⟨by (with_reducible repeat (first|apply Kd.R_alloc|apply Kd.R_drewN|apply Kd.R_drew));exact HO_4.out⟩,⟨zb0 HB.out⟩⟩
   case rest =>
    clear HC4
    obtain ⟨kq,x17_3,rfl,HA,HJ3,HO_4,HB⟩ := hcut
    cases kq with
    | zero => exact absurd HA.out (fun h_ => (by cases h_))
    | succ kj3 =>
     have H := HA.out
     clear HA
     (unfold impl_decoded.j1 at H;try dsimp only at H)
     by_cases c8 : x17_3 = true
     rotate_left
     ·replace c8 := Bool.eq_false_iff.mpr c8
      subst c8
      have H1 : (some (x4_1,x5_1)) = some (r1,r2) := by rw [if_neg (show ¬ (false = true) by decide)] at H;exact H
      clear H
      have H := H1
      clear H1
      simp only [Option.some.injEq,Prod.mk.injEq] at H
      obtain ⟨rfl,rfl⟩ := H
      go_wp2
      go_ret2
      exact ⟨_,zE_,by (with_reducible repeat (first|apply Kd.R_alloc|apply Kd.R_drewN|apply Kd.R_drew));exact HO_4.out,zb0 HB.out⟩

     subst c8
     have H1 : (if 0 ≤ x5_1 then (if x5_1 < (l0.length : Int) then (if (rd l0 x5_1) ≤ 19 then ((impl_mostArg.f (rd l0 x5_1)).bind fun t200 => (impl_decoded.j2 kj3 l0 x4_1 x5_1 1 (decide (t200 > 0)) (rd l0 x5_1) 0)) else (impl_decoded.j2 kj3 l0 x4_1 x5_1 1 false (rd l0 x5_1) 0)) else (none)) else (none)) = some (r1,r2) := by rw [if_pos rfl] at H;exact H
     clear H
     have H := H1
     clear H1
     by_cases c9 : 0 ≤ x5_1
     rotate_left
     ·rw [if_neg c9] at H
      exact absurd H (by simp)
     rw [if_pos c9] at H
     have c9b0 : decide (0 ≤ x5_1) = true := deT c9
     clear c9
     by_cases c10 : x5_1 < (l0.length : Int)
     rotate_left
     ·rw [if_neg c10] at H
      exact absurd H (by simp)
     rw [if_pos c10] at H
     have c10b0 : decide (x5_1 < (l0.length : Int)) = true := deT c10
     clear c10
     have HC11 := As_ H
     clear H
     have p198 : 0 ≤ (x5_1 : Int) := odT zA_
     have q198 : x5_1 < (l0.length : Int) := odT zA_
     obtain ⟨ad198,e198,hx198_0⟩ := Kd.at_int HR0.out x5_1 p198 q198
     cases e198
     replace hx198_0 := bwC HB.out hx198_0
     replace p198 := eq_true p198
     replace q198 := eq_true q198
     go_upto_region 5 with (first|((with_reducible refine gate_dst (N := 6) rfl ?_);(try (refine gate_guard (by rfl) ?_;dsimp only));refine box_event ?hg (N := 6) ?hd (cs := #[.int .i64 0,.int .i64 0]) (t := 75) ?hr ?_;(case hd => rfl);(case hg => rfl);(case hr => go_simp <;> rfl);intro gb199 hg w12 hbox hb;have n0_ := As_ (Kd.R_below (Kd.R_elderB (zR_ HO_4.out) gb199 (Nat.le_of_eq hg.symm)) hb);have n1_ := As_ (bwT (zb0 HB.out) hb);have n2_ := As_ (hbox);have n3_ := As_ ((by rw [hg];exact (bwZ (zb0 HB.out)) : w.heap.size ≤ gb199));have n4_ := As_ ((by rw [hg];exact (bwZ (zb0 HB.out)) : w.heap.size ≤ gb199));clear HO_4 HB;revert n0_ n1_ n2_ n3_ n4_;intro HO_4 HB BK199 GW199 GE199;clear hb hbox hg;obtain ⟨hcz13_0,hcz13_1,hfz13_0,hfz13_1⟩ := bk2 BK199.out))
     (try simp only [Act.put,List.setIfInBounds_toArray,List.set_cons_zero,List.set_cons_succ])
     go_cut [31] (fun v31 wc => ∃ (kq : Nat) (x31_10 : Bool),v31 = .bool x31_10 ∧ Aside0 (impl_decoded.j2 kq l0 x4_1 x5_1 1 x31_10 (rd l0 x5_1) 0 = some (r1,r2)) ∧ Aside0 (kq ≤ kj3) ∧ Aside0 (Kd.R k75 75 wc w.heap.size (fun k_ => k_ ≠ gb199) u4 x4_1) ∧ Aside0 (wc.heap[gb199]? = some (.cells #[.int .i64 (rd l0 x5_1),.int .i64 0] 75 (0,0))) ∧ Aside0 (Below w.heap.size w wc))
     case first =>
      have H := HC11.out
      clear HC11
      by_cases c14 : (rd l0 x5_1) ≤ 19
      rotate_left
      ·rw [if_neg c14] at H
       have c14b0 : decide ((rd l0 x5_1) ≤ 19) = false := deF c14
       clear c14
       (first|rw [c14b0]|(simp only [i64_w,i32_w];rw [c14b0])|skip)
       have H' := As_ H
       clear H
       obtain ⟨hcz17_0,hcz17_1,hfz17_0,hfz17_1⟩ := bk2 BK199.out
       go_wp2
       go_meet
       case rel => exact ⟨_,(false),zT_,H',⟨by have := HK1.out;have := HJ3.out;first|omega|exact Nat.le_refl _⟩,⟨by (with_reducible repeat (first|apply Kd.R_alloc|apply Kd.R_drewN|apply Kd.R_drew));exact Kd.R_mono (Kd.R_far (p := ⟨gb199,1,none⟩) (Kd.R_far (p := ⟨gb199,0,none⟩) (Kd.R_mono HO_4.out (fun k_ hk => (⟨hk,hk.2⟩ : _ ∧ k_ ≠ gb199))) (fun _ hk => hk.2) (.int .i64 (rd l0 x5_1))) (fun _ hk => hk.2) (.int .i64 0)) (fun _ hk => hk.1.2)⟩,⟨by (with_reducible repeat first|apply bkN|apply bkD|apply bkA);refine blk_put (cs := #[.int .i64 (rd l0 x5_1),.int .i64 0]) ?_ 1 _ rfl;(with_reducible repeat first|apply bkN|apply bkD|apply bkA);refine blk_put (cs := #[.int .i64 0,.int .i64 0]) ?_ 0 _ rfl;(with_reducible repeat first|apply bkN|apply bkD|apply bkA);exact BK199.out⟩,⟨zb1 HB.out GE199.out⟩⟩
      rw [if_pos c14] at H
      have c14b0 : decide ((rd l0 x5_1) ≤ 19) = true := deT c14
      clear c14
      (first|rw [c14b0]|(simp only [i64_w,i32_w];rw [c14b0])|skip)
      replace H := obS H
      obtain ⟨t200,A150,H⟩ := H
      replace H : (impl_decoded.j2 kj3 l0 x4_1 x5_1 1 (decide (t200 > 0)) (rd l0 x5_1) 0) = some (r1,r2) := H
      have A15 := As_ A150
      clear A150
      have H' := As_ H
      clear H
      obtain ⟨hcz16_0,hcz16_1,hfz16_0,hfz16_1⟩ := bk2 BK199.out
      go_wp2_with (first|(go_at_call 97;(with_reducible refine (impl_mostArg.calls (rd l0 x5_1) t200 _ A15.out).mono ?_);rintro e w' ⟨rfl,⟨nd,rfl⟩⟩))
      go_meet
      case rel => exact ⟨_,(decide (t200 > 0)),zT_,H',⟨by have := HK1.out;have := HJ3.out;first|omega|exact Nat.le_refl _⟩,⟨by (with_reducible repeat (first|apply Kd.R_alloc|apply Kd.R_drewN|apply Kd.R_drew));exact Kd.R_mono (Kd.R_far (p := ⟨gb199,1,none⟩) (Kd.R_far (p := ⟨gb199,0,none⟩) (Kd.R_mono HO_4.out (fun k_ hk => (⟨hk,hk.2⟩ : _ ∧ k_ ≠ gb199))) (fun _ hk => hk.2) (.int .i64 (rd l0 x5_1))) (fun _ hk => hk.2) (.int .i64 0)) (fun _ hk => hk.1.2)⟩,⟨by (with_reducible repeat first|apply bkN|apply bkD|apply bkA);refine blk_put (cs := #[.int .i64 (rd l0 x5_1),.int .i64 0]) ?_ 1 _ rfl;(with_reducible repeat first|apply bkN|apply bkD|apply bkA);refine blk_put (cs := #[.int .i64 0,.int .i64 0]) ?_ 0 _ rfl;(with_reducible repeat first|apply bkN|apply bkD|apply bkA);exact BK199.out⟩,⟨zb1 HB.out GE199.out⟩⟩
     case rest =>
      clear HC11
      obtain ⟨kq,x31_10,rfl,HA,HJ10,HO_4,BK199,HB⟩ := hcut
      cases kq with
      | zero => exact absurd HA.out (fun h_ => (by cases h_))
      | succ kj10 =>
       have H := HA.out
       clear HA
       (unfold impl_decoded.j2 at H;try dsimp only at H)
       by_cases c18 : x31_10 = true
       rotate_left
       ·replace c18 := Bool.eq_false_iff.mpr c18
        subst c18
        have H1 : ((impl_opOk.f (rd l0 x5_1) 0).bind fun t212 => (if t212 = true then (if x4_1.length < 8796093022208 then (impl_decoded.l0 kj10 l0 (x4_1 ++ [(⟨(rd l0 x5_1),0⟩ : S75)]) (wrap64 (x5_1 + 1))) else (none)) else (some (x4_1,x5_1)))) = some (r1,r2) := by rw [if_neg (show ¬ (false = true) by decide)] at H;exact H
        clear H
        have H := H1
        clear H1
        replace H := obS H
        obtain ⟨t212,A560,H⟩ := H
        replace H : (if t212 = true then (if x4_1.length < 8796093022208 then (impl_decoded.l0 kj10 l0 (x4_1 ++ [(⟨(rd l0 x5_1),0⟩ : S75)]) (wrap64 (x5_1 + 1))) else (none)) else (some (x4_1,x5_1))) = some (r1,r2) := H
        have A56 := As_ A560
        clear A560
        by_cases c57 : t212 = true
        rotate_left
        ·replace c57 := Bool.eq_false_iff.mpr c57
         subst c57
         have H1 : (some (x4_1,x5_1)) = some (r1,r2) := by rw [if_neg (show ¬ (false = true) by decide)] at H;exact H
         clear H
         have H := H1
         clear H1
         simp only [Option.some.injEq,Prod.mk.injEq] at H
         obtain ⟨rfl,rfl⟩ := H
         obtain ⟨hcz63_0,hcz63_1,hfz63_0,hfz63_1⟩ := bk2 BK199.out
         go_wp2_with (first|((with_reducible refine gate_callee (f := 95) rfl ?_);refine goesL_ (some 71) rfl rfl Try.func95 (by kernel_rfl) rfl #[.agg #[.int .i64 (rd l0 x5_1),.int .i64 0]] rfl zM_ ?_;(with_reducible refine (impl_opOk.calls (rd l0 x5_1) 0 false _ A56.out).mono ?_);rintro e w64 ⟨rfl,hb⟩;refine ⟨_,rfl,?_⟩;have n0_ := As_ (Kd.R_below (zR_ HO_4.out) hb);have n1_ := As_ (zkb BK199.out hb);have n2_ := As_ (bwT (zb1 HB.out GE199.out) hb);clear HO_4 BK199 HB;revert n0_ n1_ n2_;intro HO_4 BK199 HB))
         go_ret2
         exact ⟨_,zE_,by (with_reducible repeat (first|apply Kd.R_alloc|apply Kd.R_drewN|apply Kd.R_drew));exact Kd.R_mono HO_4.out (fun _ hk => trivial),zb1 HB.out GE199.out⟩
        subst c57
        have H1 : (if x4_1.length < 8796093022208 then (impl_decoded.l0 kj10 l0 (x4_1 ++ [(⟨(rd l0 x5_1),0⟩ : S75)]) (wrap64 (x5_1 + 1))) else (none)) = some (r1,r2) := by rw [if_pos rfl] at H;exact H
        clear H
        have H := H1
        clear H1
        by_cases c58 : x4_1.length < 8796093022208
        rotate_left
        ·rw [if_neg c58] at H
         exact absurd H (by simp)
        rw [if_pos c58] at H
        have LMc58 := As_ c58
        clear c58
        obtain ⟨y213,hy213⟩ : ∃ y_ : List (S75),y_ = (x4_1 ++ [(⟨(rd l0 x5_1),0⟩ : S75)]) := ⟨_,rfl⟩
        replace H : (impl_decoded.l0 kj10 l0 y213 (wrap64 (x5_1 + 1))) = some (r1,r2) := zH_ H hy213
        have Ny213 := As_ hy213
        clear hy213
        have H' := As_ H
        clear H
        obtain ⟨hcz59_0,hcz59_1,hfz59_0,hfz59_1⟩ := bk2 BK199.out
        go_wp2_with (first|((with_reducible refine gate_callee (f := 95) rfl ?_);refine goesL_ (some 71) rfl rfl Try.func95 (by kernel_rfl) rfl #[.agg #[.int .i64 (rd l0 x5_1),.int .i64 0]] rfl zM_ ?_;(with_reducible refine (impl_opOk.calls (rd l0 x5_1) 0 true _ A56.out).mono ?_);rintro e w60 ⟨rfl,hb⟩;refine ⟨_,rfl,?_⟩;have n0_ := As_ (Kd.R_below (zR_ HO_4.out) hb);have n1_ := As_ (zkb BK199.out hb);have n2_ := As_ (bwT (zb1 HB.out GE199.out) hb);clear HO_4 BK199 HB;revert n0_ n1_ n2_;intro HO_4 BK199 HB;obtain ⟨hcz61_0,hcz61_1,hfz61_0,hfz61_1⟩ := bk2 BK199.out)|((with_reducible refine gate_builtin (b := .append) (xs := #[.tmp 73,.tmp 75]) rfl ?_);(try (refine gate_guard (by rfl) ?_;dsimp only));at_builtin;refine Kd.R_append k75 (w0 := w) w.heap.size rfl (.tmp 73) (.tmp 75) 23 75 (.agg #[(.int .i64 0),(.int .i64 0)]) 16 rfl Try.underlying23 info75 rfl (by decide) (by omega) u4 x4_1 (⟨(rd l0 x5_1),0⟩ : S75) [.int .i64 (rd l0 x5_1),.int .i64 0] (fun k_ => k_ ≠ gb199) (fun _ => False) rfl rfl ?aP (fun _ hk => hk.elim) ?aF ?aO ?aB ?aS ?aL ?_;(case aP => exact k75_mkM _ _ _ (⟨(rd l0 x5_1),0⟩ : S75));(case aB => exact (zb1 HB.out GE199.out));(case aF => exact (fun k_ hk => Kd.freshB (g := gb199) (o := .cells #[.int .i64 (rd l0 x5_1),.int .i64 0] 75 (0,0)) (zk_ BK199.out) k_ hk));(case aO => exact (zR_ HO_4.out));(case aS => exact (bwZ (zb1 HB.out GE199.out)));(case aL => have := LMc58.out;omega);intro v214 w62 ho hb hg hat;rw [← Ny213.out] at ho;have n0_ := As_ (blk_grown (g := gb199) (o := .cells #[.int .i64 (rd l0 x5_1),.int .i64 0] 75 (0,0)) (zk_ BK199.out) hg (Kd.R_away HO_4.out (fun _ hk => hk)));have n1_ := As_ (hb);have n2_ := As_ (ho);clear BK199 HB HO_4;revert n0_ n1_ n2_;intro BK199 HB HO215;clear ho hb hg hat))
        go_roundg kj10
        case measure => have := HK1.out;have := HJ3.out;have := HJ10.out;omega
        case rel => exact ⟨(y213),(wrap64 (x5_1 + 1)),zT_,H',⟨by have := HK1.out;have := HJ3.out;have := HJ10.out;omega⟩,⟨by (with_reducible repeat (first|apply Kd.R_alloc|apply Kd.R_drewN|apply Kd.R_drew));exact Kd.R_mono HO215.out (fun _ hk => trivial)⟩,⟨zb1 HB.out GE199.out⟩⟩
       subst c18
       have H1 : (if (wrap64 (x5_1 + 1)) ≥ (l0.length : Int) then (some (x4_1,x5_1)) else (if 0 ≤ (wrap64 (x5_1 + 1)) then (if (wrap64 (x5_1 + 1)) < (l0.length : Int) then (if (rd l0 (wrap64 (x5_1 + 1))) ≥ 128 then (if (wrap64 (x5_1 + 2)) ≥ (l0.length : Int) then (impl_decoded.j3 kj10 l0 x4_1 x5_1 true (rd l0 x5_1) (rd l0 (wrap64 (x5_1 + 1)))) else (if 0 ≤ (wrap64 (x5_1 + 2)) then (if (wrap64 (x5_1 + 2)) < (l0.length : Int) then (impl_decoded.j3 kj10 l0 x4_1 x5_1 ((rd l0 (wrap64 (x5_1 + 2))) == 0) (rd l0 x5_1) (rd l0 (wrap64 (x5_1 + 1)))) else (none)) else (none))) else ((impl_opOk.f (rd l0 x5_1) (rd l0 (wrap64 (x5_1 + 1)))).bind fun t208 => (if t208 = true then (if x4_1.length < 8796093022208 then (impl_decoded.l0 kj10 l0 (x4_1 ++ [(⟨(rd l0 x5_1),rd l0 (wrap64 (x5_1 + 1))⟩ : S75)]) (wrap64 (x5_1 + 2))) else (none)) else (some (x4_1,x5_1))))) else (none)) else (none))) = some (r1,r2) := by rw [if_pos rfl] at H;exact H
       clear H
       have H := H1
       clear H1
       by_cases c19 : (wrap64 (x5_1 + 1)) ≥ (l0.length : Int)
       ·rw [if_pos c19] at H
        have c19b0 : decide ((l0.length : Int) ≤ (wrap64 (x5_1 + 1))) = true := deT c19
        clear c19
        simp only [Option.some.injEq,Prod.mk.injEq] at H
        obtain ⟨rfl,rfl⟩ := H
        go_wp2
        go_ret2
        exact ⟨_,zE_,by (with_reducible repeat (first|apply Kd.R_alloc|apply Kd.R_drewN|apply Kd.R_drew));exact Kd.R_mono HO_4.out (fun _ hk => trivial),zb1 HB.out GE199.out⟩
       rw [if_neg c19] at H
       have c19b0 : decide ((l0.length : Int) ≤ (wrap64 (x5_1 + 1))) = false := deF c19
       clear c19
       obtain ⟨ji20,hji20⟩ : ∃ j_ : Int,(wrap64 (x5_1 + 1)) = j_ := ⟨_,rfl⟩
       replace H : (if 0 ≤ (ji20) then (if (ji20) < (l0.length : Int) then (if (rd l0 (ji20)) ≥ 128 then (if (wrap64 (x5_1 + 2)) ≥ (l0.length : Int) then (impl_decoded.j3 kj10 l0 x4_1 x5_1 true (rd l0 x5_1) (rd l0 (ji20))) else (if 0 ≤ (wrap64 (x5_1 + 2)) then (if (wrap64 (x5_1 + 2)) < (l0.length : Int) then (impl_decoded.j3 kj10 l0 x4_1 x5_1 ((rd l0 (wrap64 (x5_1 + 2))) == 0) (rd l0 x5_1) (rd l0 (ji20))) else (none)) else (none))) else ((impl_opOk.f (rd l0 x5_1) (rd l0 (ji20))).bind fun t208 => (if t208 = true then (if x4_1.length < 8796093022208 then (impl_decoded.l0 kj10 l0 (x4_1 ++ [(⟨(rd l0 x5_1),rd l0 (ji20)⟩ : S75)]) (wrap64 (x5_1 + 2))) else (none)) else (some (x4_1,x5_1))))) else (none)) else (none)) = some (r1,r2) := by first|(rw [hji20] at H;exact H)|(simp only [hji20] at H ⊢;exact H)
       (try rw [hji20] at c19b0)
       have hji20w : (IntKind.i64.wrap (x5_1 + 1)) = ji20 := (i64_w _).trans hji20
       by_cases c21 : 0 ≤ (ji20)
       rotate_left
       ·rw [if_neg c21] at H
        exact absurd H (by simp)
       rw [if_pos c21] at H
       have c21b0 : decide (0 ≤ (ji20)) = true := deT c21
       clear c21
       by_cases c22 : (ji20) < (l0.length : Int)
       rotate_left
       ·rw [if_neg c22] at H
        exact absurd H (by simp)
       rw [if_pos c22] at H
       have c22b0 : decide ((ji20) < (l0.length : Int)) = true := deT c22
       clear c22
       by_cases c23 : (rd l0 (ji20)) ≥ 128
       rotate_left
       ·rw [if_neg c23] at H
        have c23b0 : decide (128 ≤ (rd l0 (ji20))) = false := deF c23
        clear c23
        replace H := obS H
        obtain ⟨t208,A470,H⟩ := H
        replace H : (if t208 = true then (if x4_1.length < 8796093022208 then (impl_decoded.l0 kj10 l0 (x4_1 ++ [(⟨(rd l0 x5_1),rd l0 (ji20)⟩ : S75)]) (wrap64 (x5_1 + 2))) else (none)) else (some (x4_1,x5_1))) = some (r1,r2) := H
        have A47 := As_ A470
        clear A470
        by_cases c48 : t208 = true
        rotate_left
        ·replace c48 := Bool.eq_false_iff.mpr c48
         subst c48
         have H1 : (some (x4_1,x5_1)) = some (r1,r2) := by rw [if_neg (show ¬ (false = true) by decide)] at H;exact H
         clear H
         have H := H1
         clear H1
         simp only [Option.some.injEq,Prod.mk.injEq] at H
         obtain ⟨rfl,rfl⟩ := H
         have p201 : 0 ≤ ((ji20) : Int) := odT zA_
         have q201 : (ji20) < (l0.length : Int) := odT zA_
         obtain ⟨ad201,e201,hx201_0⟩ := Kd.at_int HR0.out (ji20) p201 q201
         obtain rfl : ad198 = ad201 := (by injection e201)
         replace hx201_0 := bwC HB.out hx201_0
         replace p201 := eq_true p201
         replace q201 := eq_true q201
         obtain ⟨hcz54_0,hcz54_1,hfz54_0,hfz54_1⟩ := bk2 BK199.out
         go_wp2_with (first|((with_reducible refine gate_callee (f := 95) rfl ?_);refine goesL_ (some 71) rfl rfl Try.func95 (by kernel_rfl) rfl #[.agg #[.int .i64 (rd l0 x5_1),.int .i64 (rd l0 (ji20))]] rfl (by (try simp only [List.map_toArray,List.map_cons,List.map_nil]);first|done|(simp only [hji20];rfl)|rfl|(simp only [List.length_drop,List.length_take];rfl)) ?_;(with_reducible refine (impl_opOk.calls (rd l0 x5_1) (rd l0 (ji20)) false _ A47.out).mono ?_);rintro e w55 ⟨rfl,hb⟩;refine ⟨_,rfl,?_⟩;have n0_ := As_ (Kd.R_below (by (with_reducible repeat (first|apply Kd.R_alloc|apply Kd.R_drewN|apply Kd.R_drew));exact (Kd.R_mono (Kd.R_far (p := ⟨gb199,1,none⟩) (Kd.R_mono HO_4.out (fun k_ hk => (⟨hk,hk⟩ : _ ∧ k_ ≠ gb199))) (fun _ hk => hk.2) (.int .i64 (rd l0 (ji20)))) (fun _ h_ => h_.1))) hb);have n1_ := As_ (blk_below (g := gb199) (o := .cells #[.int .i64 (rd l0 x5_1),.int .i64 (rd l0 (ji20))] 75 (0,0)) (by (with_reducible repeat first|apply bkN|apply bkD|apply bkA);refine blk_put (cs := #[.int .i64 (rd l0 x5_1),.int .i64 0]) ?_ 1 _ rfl;(with_reducible repeat first|apply bkN|apply bkD|apply bkA);exact BK199.out) hb);have n2_ := As_ (bwT (zb1 HB.out GE199.out) hb);clear HO_4 BK199 HB;revert n0_ n1_ n2_;intro HO_4 BK199 HB))
         go_ret2
         exact ⟨_,by first|rfl|(simp [errW_none,errW_some] <;> rfl)|(simp only [← hji20];first|rfl|(simp [errW_none,errW_some] <;> rfl))|(simp [*,errW_none,errW_some] <;> rfl),by (with_reducible repeat (first|apply Kd.R_alloc|apply Kd.R_drewN|apply Kd.R_drew));exact Kd.R_mono HO_4.out (fun _ hk => trivial),zb1 HB.out GE199.out⟩
        subst c48
        have H1 : (if x4_1.length < 8796093022208 then (impl_decoded.l0 kj10 l0 (x4_1 ++ [(⟨(rd l0 x5_1),rd l0 (ji20)⟩ : S75)]) (wrap64 (x5_1 + 2))) else (none)) = some (r1,r2) := by rw [if_pos rfl] at H;exact H
        clear H
        have H := H1
        clear H1
        by_cases c49 : x4_1.length < 8796093022208
        rotate_left
        ·rw [if_neg c49] at H
         exact absurd H (by simp)
        rw [if_pos c49] at H
        have LMc49 := As_ c49
        clear c49
        obtain ⟨y209,hy209⟩ : ∃ y_ : List (S75),y_ = (x4_1 ++ [(⟨(rd l0 x5_1),rd l0 (ji20)⟩ : S75)]) := ⟨_,rfl⟩
        replace H : (impl_decoded.l0 kj10 l0 y209 (wrap64 (x5_1 + 2))) = some (r1,r2) := zH_ H hy209
        have Ny209 := As_ hy209
        clear hy209
        have H' := As_ H
        clear H
        have p201 : 0 ≤ ((ji20) : Int) := odT zA_
        have q201 : (ji20) < (l0.length : Int) := odT zA_
        obtain ⟨ad201,e201,hx201_0⟩ := Kd.at_int HR0.out (ji20) p201 q201
        obtain rfl : ad198 = ad201 := (by injection e201)
        replace hx201_0 := bwC HB.out hx201_0
        replace p201 := eq_true p201
        replace q201 := eq_true q201
        obtain ⟨hcz50_0,hcz50_1,hfz50_0,hfz50_1⟩ := bk2 BK199.out
        go_wp2_with (first|((with_reducible refine gate_callee (f := 95) rfl ?_);refine goesL_ (some 71) rfl rfl Try.func95 (by kernel_rfl) rfl #[.agg #[.int .i64 (rd l0 x5_1),.int .i64 (rd l0 (ji20))]] rfl (by (try simp only [List.map_toArray,List.map_cons,List.map_nil]);first|done|(simp only [hji20];rfl)|rfl|(simp only [List.length_drop,List.length_take];rfl)) ?_;(with_reducible refine (impl_opOk.calls (rd l0 x5_1) (rd l0 (ji20)) true _ A47.out).mono ?_);rintro e w51 ⟨rfl,hb⟩;refine ⟨_,rfl,?_⟩;have n0_ := As_ (Kd.R_below (by (with_reducible repeat (first|apply Kd.R_alloc|apply Kd.R_drewN|apply Kd.R_drew));exact (Kd.R_mono (Kd.R_far (p := ⟨gb199,1,none⟩) (Kd.R_mono HO_4.out (fun k_ hk => (⟨hk,hk⟩ : _ ∧ k_ ≠ gb199))) (fun _ hk => hk.2) (.int .i64 (rd l0 (ji20)))) (fun _ h_ => h_.1))) hb);have n1_ := As_ (blk_below (g := gb199) (o := .cells #[.int .i64 (rd l0 x5_1),.int .i64 (rd l0 (ji20))] 75 (0,0)) (by (with_reducible repeat first|apply bkN|apply bkD|apply bkA);refine blk_put (cs := #[.int .i64 (rd l0 x5_1),.int .i64 0]) ?_ 1 _ rfl;(with_reducible repeat first|apply bkN|apply bkD|apply bkA);exact BK199.out) hb);have n2_ := As_ (bwT (zb1 HB.out GE199.out) hb);clear HO_4 BK199 HB;revert n0_ n1_ n2_;intro HO_4 BK199 HB;obtain ⟨hcz52_0,hcz52_1,hfz52_0,hfz52_1⟩ := bk2 BK199.out)|((with_reducible refine gate_builtin (b := .append) (xs := #[.tmp 73,.tmp 75]) rfl ?_);(try (refine gate_guard (by rfl) ?_;dsimp only));at_builtin;refine Kd.R_append k75 (w0 := w) w.heap.size rfl (.tmp 73) (.tmp 75) 23 75 (.agg #[(.int .i64 0),(.int .i64 0)]) 16 rfl Try.underlying23 info75 rfl (by decide) (by omega) u4 x4_1 (⟨(rd l0 x5_1),rd l0 (ji20)⟩ : S75) [.int .i64 (rd l0 x5_1),.int .i64 (rd l0 (ji20))] (fun k_ => k_ ≠ gb199) (fun _ => False) rfl rfl ?aP (fun _ hk => hk.elim) ?aF ?aO ?aB ?aS ?aL ?_;(case aP => exact k75_mkM _ _ _ (⟨(rd l0 x5_1),rd l0 (ji20)⟩ : S75));(case aB => exact (zb1 HB.out GE199.out));(case aF => exact (fun k_ hk => Kd.freshB (g := gb199) (o := .cells #[.int .i64 (rd l0 x5_1),.int .i64 (rd l0 (ji20))] 75 (0,0)) (zk_ BK199.out) k_ hk));(case aO => exact (zR_ HO_4.out));(case aS => exact (bwZ (zb1 HB.out GE199.out)));(case aL => have := LMc49.out;omega);intro v210 w53 ho hb hg hat;rw [← Ny209.out] at ho;have n0_ := As_ (blk_grown (g := gb199) (o := .cells #[.int .i64 (rd l0 x5_1),.int .i64 (rd l0 (ji20))] 75 (0,0)) (zk_ BK199.out) hg (Kd.R_away HO_4.out (fun _ hk => hk)));have n1_ := As_ (hb);have n2_ := As_ (ho);clear BK199 HB HO_4;revert n0_ n1_ n2_;intro BK199 HB HO211;clear ho hb hg hat))
        go_roundg kj10
        case measure => have := HK1.out;have := HJ3.out;have := HJ10.out;omega
        case rel => exact ⟨(y209),(wrap64 (x5_1 + 2)),zT_,H',⟨by have := HK1.out;have := HJ3.out;have := HJ10.out;omega⟩,⟨by (with_reducible repeat (first|apply Kd.R_alloc|apply Kd.R_drewN|apply Kd.R_drew));exact Kd.R_mono HO211.out (fun _ hk => trivial)⟩,⟨zb1 HB.out GE199.out⟩⟩
       rw [if_pos c23] at H
       have c23b0 : decide (128 ≤ (rd l0 (ji20))) = true := deT c23
       clear c23
       have HC24 := As_ H
       clear H
       have p201 : 0 ≤ ((ji20) : Int) := odT zA_
       have q201 : (ji20) < (l0.length : Int) := odT zA_
       obtain ⟨ad201,e201,hx201_0⟩ := Kd.at_int HR0.out (ji20) p201 q201
       obtain rfl : ad198 = ad201 := (by injection e201)
       replace hx201_0 := bwC HB.out hx201_0
       replace p201 := eq_true p201
       replace q201 := eq_true q201
       obtain ⟨hcz25_0,hcz25_1,hfz25_0,hfz25_1⟩ := bk2 BK199.out
       go_upto_region 9 with (fail)
       go_cut [58] (fun v58 wc => ∃ (kq : Nat) (x58_23 : Bool),v58 = .bool x58_23 ∧ Aside0 (impl_decoded.j3 kq l0 x4_1 x5_1 x58_23 (rd l0 x5_1) (rd l0 (ji20)) = some (r1,r2)) ∧ Aside0 (kq ≤ kj10) ∧ Aside0 (Kd.R k75 75 wc w.heap.size (fun k_ => k_ ≠ gb199) u4 x4_1) ∧ Aside0 (wc.heap[gb199]? = some (.cells #[.int .i64 (rd l0 x5_1),.int .i64 (rd l0 (ji20))] 75 (0,0))) ∧ Aside0 (Below w.heap.size w wc))
       case first =>
        have H := HC24.out
        clear HC24
        by_cases c26 : (wrap64 (x5_1 + 2)) ≥ (l0.length : Int)
        ·rw [if_pos c26] at H
         have c26b0 : decide ((l0.length : Int) ≤ (wrap64 (x5_1 + 2))) = true := deT c26
         clear c26
         (first|rw [c26b0]|(simp only [i64_w,i32_w];rw [c26b0])|skip)
         have H' := As_ H
         clear H
         go_wp2
         go_meet
         case rel => exact ⟨_,(true),zT_,H',⟨by have := HK1.out;have := HJ3.out;have := HJ10.out;first|omega|exact Nat.le_refl _⟩,⟨by (with_reducible repeat (first|apply Kd.R_alloc|apply Kd.R_drewN|apply Kd.R_drew));exact Kd.R_mono (Kd.R_far (p := ⟨gb199,1,none⟩) (Kd.R_mono HO_4.out (fun k_ hk => (⟨hk,hk⟩ : _ ∧ k_ ≠ gb199))) (fun _ hk => hk.2) (.int .i64 (rd l0 (ji20)))) (fun _ hk => hk.1)⟩,⟨by (with_reducible repeat first|apply bkN|apply bkD|apply bkA);refine blk_put (cs := #[.int .i64 (rd l0 x5_1),.int .i64 0]) ?_ 1 _ rfl;(with_reducible repeat first|apply bkN|apply bkD|apply bkA);exact BK199.out⟩,⟨zb1 HB.out GE199.out⟩⟩
        rw [if_neg c26] at H
        have c26b0 : decide ((l0.length : Int) ≤ (wrap64 (x5_1 + 2))) = false := deF c26
        clear c26
        (first|rw [c26b0]|(simp only [i64_w,i32_w];rw [c26b0])|skip)
        obtain ⟨ji27,hji27⟩ : ∃ j_ : Int,(wrap64 (x5_1 + 2)) = j_ := ⟨_,rfl⟩
        replace H : (if 0 ≤ (ji27) then (if (ji27) < (l0.length : Int) then (impl_decoded.j3 kj10 l0 x4_1 x5_1 ((rd l0 (ji27)) == 0) (rd l0 x5_1) (rd l0 (ji20))) else (none)) else (none)) = some (r1,r2) := by first|(rw [hji27] at H;exact H)|(simp only [hji27] at H ⊢;exact H)
        (try rw [hji27] at c26b0)
        have hji27w : (IntKind.i64.wrap (x5_1 + 2)) = ji27 := (i64_w _).trans hji27
        by_cases c28 : 0 ≤ (ji27)
        rotate_left
        ·rw [if_neg c28] at H
         exact absurd H (by simp)
        rw [if_pos c28] at H
        have c28b0 : decide (0 ≤ (ji27)) = true := deT c28
        clear c28
        by_cases c29 : (ji27) < (l0.length : Int)
        rotate_left
        ·rw [if_neg c29] at H
         exact absurd H (by simp)
        rw [if_pos c29] at H
        have c29b0 : decide ((ji27) < (l0.length : Int)) = true := deT c29
        clear c29
        have H' := As_ H
        clear H
        have p202 : 0 ≤ ((ji27) : Int) := odT zA_
        have q202 : (ji27) < (l0.length : Int) := odT zA_
        obtain ⟨ad202,e202,hx202_0⟩ := Kd.at_int HR0.out (ji27) p202 q202
        obtain rfl : ad198 = ad202 := (by injection e202)
        have hn202_0 : ad198.block ≠ gb199 := Nat.ne_of_lt (Nat.lt_of_lt_of_le (by have := bwL _ _ hx202_0;first|rwa [add_block] at this|exact this) GW199.out)
        replace hx202_0 := bwC HB.out hx202_0
        replace hx202_0 := (cell_far (p := ⟨gb199,1,none⟩) (by first|(rw [add_block];exact hn202_0)|(show (Addr.add _ _).block ≠ _;rw [add_block];exact hn202_0)|exact hn202_0) (.int .i64 (rd l0 (ji20)))).trans hx202_0
        clear hn202_0
        replace p202 := eq_true p202
        replace q202 := eq_true q202
        go_wp2
        go_meet
        case rel => exact ⟨_,(((rd l0 (ji27)) == 0)),(by first|rfl|(simp;done)|(simp only [← hji27] <;> (first|rfl|simp))|(simp [*];done)),H',⟨by have := HK1.out;have := HJ3.out;have := HJ10.out;first|omega|exact Nat.le_refl _⟩,⟨by (with_reducible repeat (first|apply Kd.R_alloc|apply Kd.R_drewN|apply Kd.R_drew));exact Kd.R_mono (Kd.R_far (p := ⟨gb199,1,none⟩) (Kd.R_mono HO_4.out (fun k_ hk => (⟨hk,hk⟩ : _ ∧ k_ ≠ gb199))) (fun _ hk => hk.2) (.int .i64 (rd l0 (ji20)))) (fun _ hk => hk.1)⟩,⟨by (with_reducible repeat first|apply bkN|apply bkD|apply bkA);refine blk_put (cs := #[.int .i64 (rd l0 x5_1),.int .i64 0]) ?_ 1 _ rfl;(with_reducible repeat first|apply bkN|apply bkD|apply bkA);exact BK199.out⟩,⟨zb1 HB.out GE199.out⟩⟩
       case rest =>
        clear HC24
        obtain ⟨kq,x58_23,rfl,HA,HJ23,HO_4,BK199,HB⟩ := hcut
        cases kq with
        | zero => exact absurd HA.out (fun h_ => (by cases h_))
        | succ kj23 =>
         have H := HA.out
         clear HA
         (unfold impl_decoded.j3 at H;try dsimp only at H)
         by_cases c30 : x58_23 = true
         ·subst c30
          have H1 : (some (x4_1,x5_1)) = some (r1,r2) := by rw [if_pos rfl] at H;exact H
          clear H
          have H := H1
          clear H1
          simp only [Option.some.injEq,Prod.mk.injEq] at H
          obtain ⟨rfl,rfl⟩ := H
          go_wp2
          go_ret2
          exact ⟨_,by first|rfl|(simp [errW_none,errW_some] <;> rfl)|(simp only [← hji20];first|rfl|(simp [errW_none,errW_some] <;> rfl))|(simp [*,errW_none,errW_some] <;> rfl),by (with_reducible repeat (first|apply Kd.R_alloc|apply Kd.R_drewN|apply Kd.R_drew));exact Kd.R_mono HO_4.out (fun _ hk => trivial),zb1 HB.out GE199.out⟩
         replace c30 := Bool.eq_false_iff.mpr c30
         subst c30
         have H1 : (if 0 ≤ (wrap64 (x5_1 + 2)) then (if (wrap64 (x5_1 + 2)) < (l0.length : Int) then ((impl_opOk.f (rd l0 x5_1) (wrap64 ((wrap64 ((rd l0 (ji20)) - 128)) + (wrap64 (128 * (rd l0 (wrap64 (x5_1 + 2)))))))).bind fun t204 => (if t204 = true then (if x4_1.length < 8796093022208 then (impl_decoded.l0 kj23 l0 (x4_1 ++ [(⟨(rd l0 x5_1),wrap64 ((wrap64 ((rd l0 (ji20)) - 128)) + (wrap64 (128 * (rd l0 (wrap64 (x5_1 + 2))))))⟩ : S75)]) (wrap64 (x5_1 + 3))) else (none)) else (some (x4_1,x5_1)))) else (none)) else (none)) = some (r1,r2) := by rw [if_neg (show ¬ (false = true) by decide)] at H;exact H
         clear H
         have H := H1
         clear H1
         obtain ⟨ji31,hji31⟩ : ∃ j_ : Int,(wrap64 (x5_1 + 2)) = j_ := ⟨_,rfl⟩
         replace H : (if 0 ≤ (ji31) then (if (ji31) < (l0.length : Int) then ((impl_opOk.f (rd l0 x5_1) (wrap64 ((wrap64 ((rd l0 (ji20)) - 128)) + (wrap64 (128 * (rd l0 (ji31))))))).bind fun t204 => (if t204 = true then (if x4_1.length < 8796093022208 then (impl_decoded.l0 kj23 l0 (x4_1 ++ [(⟨(rd l0 x5_1),wrap64 ((wrap64 ((rd l0 (ji20)) - 128)) + (wrap64 (128 * (rd l0 (ji31)))))⟩ : S75)]) (wrap64 (x5_1 + 3))) else (none)) else (some (x4_1,x5_1)))) else (none)) else (none)) = some (r1,r2) := by first|(rw [hji31] at H;exact H)|(simp only [hji31] at H ⊢;exact H)
         have hji31w : (IntKind.i64.wrap (x5_1 + 2)) = ji31 := (i64_w _).trans hji31
         by_cases c32 : 0 ≤ (ji31)
         rotate_left
         ·rw [if_neg c32] at H
          exact absurd H (by simp)
         rw [if_pos c32] at H
         have c32b0 : decide (0 ≤ (ji31)) = true := deT c32
         clear c32
         by_cases c33 : (ji31) < (l0.length : Int)
         rotate_left
         ·rw [if_neg c33] at H
          exact absurd H (by simp)
         rw [if_pos c33] at H
         have c33b0 : decide ((ji31) < (l0.length : Int)) = true := deT c33
         clear c33
         replace H := obS H
         obtain ⟨t204,A340,H⟩ := H
         replace H : (if t204 = true then (if x4_1.length < 8796093022208 then (impl_decoded.l0 kj23 l0 (x4_1 ++ [(⟨(rd l0 x5_1),wrap64 ((wrap64 ((rd l0 (ji20)) - 128)) + (wrap64 (128 * (rd l0 (ji31)))))⟩ : S75)]) (wrap64 (x5_1 + 3))) else (none)) else (some (x4_1,x5_1))) = some (r1,r2) := H
         have A34 := As_ A340
         clear A340
         by_cases c35 : t204 = true
         rotate_left
         ·replace c35 := Bool.eq_false_iff.mpr c35
          subst c35
          have H1 : (some (x4_1,x5_1)) = some (r1,r2) := by rw [if_neg (show ¬ (false = true) by decide)] at H;exact H
          clear H
          have H := H1
          clear H1
          simp only [Option.some.injEq,Prod.mk.injEq] at H
          obtain ⟨rfl,rfl⟩ := H
          try go_wp2
          have n0_ := As_ (Kd.R_drew HO_4.out)
          have n1_ := As_ (bkD BK199.out)
          have n2_ := As_ (bwD HB.out)
          clear HO_4 BK199 HB
          revert n0_ n1_ n2_;intro HO_4 BK199 HB
          have p203 : 0 ≤ ((ji31) : Int) := odT zA_
          have q203 : (ji31) < (l0.length : Int) := odT zA_
          obtain ⟨ad203,e203,hx203_0⟩ := Kd.at_int HR0.out (ji31) p203 q203
          have hw203_0 := hx203_0
          obtain rfl : ad198 = ad203 := (by injection e203)
          replace hx203_0 := bwC HB.out hx203_0
          replace p203 := eq_true p203
          replace q203 := eq_true q203
          refine start_ (n := 13) (S := fun w' => w'.cell? ⟨gb199,0,none⟩ = some (.int .i64 (rd l0 x5_1)) ∧ w'.cell? ⟨gb199,1,none⟩ = some (.int .i64 (rd l0 (ji20))) ∧ w'.cell? (ad198.add ((ji31)).toNat) = some (.int .i64 (rd l0 (ji31)))) (ds := [11]) (bl_ 0 13) (by kernel_rfl) rfl rfl ⟨(bkC BK199.out 0).trans rfl,(bkC BK199.out 1).trans rfl,((HB.out.cell (bwL w _ hw203_0)).trans hw203_0)⟩ (fun hHeld => ?_);refine with_tabW impl_decoded.tab10 impl_decoded.bits10 (fun HT_ HW_ => ?_)
          generalize wc.drew = w43 at HO_4 BK199 HB hx203_0 hHeld ⊢
          refine pQ 0 59 (bl_ 1 13) HT_ rfl ?_
          refine pQ 3 62 (bl_ 9 13) HT_ rfl ?_
          refine pQ 4 63 (bl_ 25 13) HT_ rfl ?_
          refine pQ 5 64 (bl_ 57 13) HT_ rfl ?_
          refine pQ 6 65 (bl_ 121 13) HT_ rfl ?_
          refine tP 1 60 (bl_ 123 13) ?_ HT_ HW_ rfl (.inl ⟨by rfl,?_⟩) hHeld ?_ ?_ ?_;rotate_left;(rintro w' ⟨s0,s1,s2⟩;go_simp;with_reducible rfl);rotate_left;(simp only [Act.put,sq_,i64_w,i32_w];rfl)
          refine pQ 2 61 (bl_ 127 13) HT_ rfl ?_
          refine tP 7 66 (bl_ 255 13) ?_ HT_ HW_ rfl (.inl ⟨by rfl,?_⟩) hHeld ?_ ?_ ?_;rotate_left;(rintro w' ⟨s0,s1,s2⟩;go_simp;with_reducible rfl);rotate_left;(simp only [Act.put,sq_,i64_w,i32_w];rfl)
          refine pQ 8 67 (bl_ 511 13) HT_ rfl ?_
          refine pQ 9 68 (bl_ 1023 13) HT_ rfl ?_
          refine pQ 10 69 (bl_ 2047 13) HT_ rfl ?_
          refine last_ (i := 11) (N := none) (bl_ 4095 13) rfl rfl (one_of HT_.out (by kernel_rfl)) (by decide) (fun K hK => ?_)
          have hs44 : w43.cell? ⟨gb199,1,none⟩ = some (.int .i64 (rd l0 (ji20))) := (bkC BK199.out 1).trans rfl
          have hfs44 := bkF BK199.out 1
          refine skip_ (w1 := ?_) (by rfl) rfl ?_ ?_
          rotate_left
          ·go_simp
           rfl
          refine hK.out _ _ ?_
          clear hK K
          refine pQ 12 7 (bl_ 8191 13) HT_ rfl ?_
          refine done_ (done_of HT_.out (by kernel_rfl)) ?_
          obtain ⟨hcz45_0,hcz45_1,hfz45_0,hfz45_1⟩ := bk2 BK199.out
          try go_wp2_with (first|((with_reducible refine gate_callee (f := 95) rfl ?_);refine goesL_ (some 71) rfl rfl Try.func95 (by kernel_rfl) rfl #[.agg #[.int .i64 (rd l0 x5_1),.int .i64 (wrap64 ((wrap64 ((rd l0 (ji20)) - 128)) + (wrap64 (128 * (rd l0 (ji31))))))]] rfl (by (try simp only [List.map_toArray,List.map_cons,List.map_nil]);first|done|(simp only [hji20,hji31];rfl)|rfl|(simp only [List.length_drop,List.length_take];rfl)) ?_;(with_reducible refine (impl_opOk.calls (rd l0 x5_1) (wrap64 ((wrap64 ((rd l0 (ji20)) - 128)) + (wrap64 (128 * (rd l0 (ji31)))))) false _ A34.out).mono ?_);rintro e w46 ⟨rfl,hb⟩;refine ⟨_,rfl,?_⟩;have n0_ := As_ (Kd.R_below (by (with_reducible repeat (first|apply Kd.R_alloc|apply Kd.R_drewN|apply Kd.R_drew));exact (Kd.R_mono (Kd.R_far (p := ⟨gb199,1,none⟩) (Kd.R_mono HO_4.out (fun k_ hk => (⟨hk,hk⟩ : _ ∧ k_ ≠ gb199))) (fun _ hk => hk.2) (.int .i64 (wrap64 ((wrap64 ((rd l0 (ji20)) - 128)) + (wrap64 (128 * (rd l0 (ji31)))))))) (fun _ h_ => h_.1))) hb);have n1_ := As_ (blk_below (g := gb199) (o := .cells #[.int .i64 (rd l0 x5_1),.int .i64 (wrap64 ((wrap64 ((rd l0 (ji20)) - 128)) + (wrap64 (128 * (rd l0 (ji31))))))] 75 (0,0)) (by (with_reducible repeat first|apply bkN|apply bkD|apply bkA);refine blk_put (cs := #[.int .i64 (rd l0 x5_1),.int .i64 (rd l0 (ji20))]) ?_ 1 _ rfl;(with_reducible repeat first|apply bkN|apply bkD|apply bkA);exact BK199.out) hb);have n2_ := As_ (bwT (zb1 HB.out GE199.out) hb);clear HO_4 BK199 HB;revert n0_ n1_ n2_;intro HO_4 BK199 HB))
          go_ret2
          exact ⟨_,by first|rfl|(simp [errW_none,errW_some] <;> rfl)|(simp only [← hji20,← hji31];first|rfl|(simp [errW_none,errW_some] <;> rfl))|(simp [*,errW_none,errW_some] <;> rfl),by (with_reducible repeat (first|apply Kd.R_alloc|apply Kd.R_drewN|apply Kd.R_drew));exact Kd.R_mono HO_4.out (fun _ hk => trivial),zb1 HB.out GE199.out⟩
         subst c35
         have H1 : (if x4_1.length < 8796093022208 then (impl_decoded.l0 kj23 l0 (x4_1 ++ [(⟨(rd l0 x5_1),wrap64 ((wrap64 ((rd l0 (ji20)) - 128)) + (wrap64 (128 * (rd l0 (ji31)))))⟩ : S75)]) (wrap64 (x5_1 + 3))) else (none)) = some (r1,r2) := by rw [if_pos rfl] at H;exact H
         clear H
         have H := H1
         clear H1
         by_cases c36 : x4_1.length < 8796093022208
         rotate_left
         ·rw [if_neg c36] at H
          exact absurd H (by simp)
         rw [if_pos c36] at H
         have LMc36 := As_ c36
         clear c36
         obtain ⟨y205,hy205⟩ : ∃ y_ : List (S75),y_ = (x4_1 ++ [(⟨(rd l0 x5_1),wrap64 ((wrap64 ((rd l0 (ji20)) - 128)) + (wrap64 (128 * (rd l0 (ji31)))))⟩ : S75)]) := ⟨_,rfl⟩
         replace H : (impl_decoded.l0 kj23 l0 y205 (wrap64 (x5_1 + 3))) = some (r1,r2) := zH_ H hy205
         have Ny205 := As_ hy205
         clear hy205
         have H' := As_ H
         clear H
         try go_wp2
         have n0_ := As_ (Kd.R_drew HO_4.out)
         have n1_ := As_ (bkD BK199.out)
         have n2_ := As_ (bwD HB.out)
         clear HO_4 BK199 HB
         revert n0_ n1_ n2_;intro HO_4 BK199 HB
         have p203 : 0 ≤ ((ji31) : Int) := odT zA_
         have q203 : (ji31) < (l0.length : Int) := odT zA_
         obtain ⟨ad203,e203,hx203_0⟩ := Kd.at_int HR0.out (ji31) p203 q203
         have hw203_0 := hx203_0
         obtain rfl : ad198 = ad203 := (by injection e203)
         replace hx203_0 := bwC HB.out hx203_0
         replace p203 := eq_true p203
         replace q203 := eq_true q203
         refine start_ (n := 13) (S := fun w' => w'.cell? ⟨gb199,0,none⟩ = some (.int .i64 (rd l0 x5_1)) ∧ w'.cell? ⟨gb199,1,none⟩ = some (.int .i64 (rd l0 (ji20))) ∧ w'.cell? (ad198.add ((ji31)).toNat) = some (.int .i64 (rd l0 (ji31)))) (ds := [11]) (bl_ 0 13) (by kernel_rfl) rfl rfl ⟨(bkC BK199.out 0).trans rfl,(bkC BK199.out 1).trans rfl,((HB.out.cell (bwL w _ hw203_0)).trans hw203_0)⟩ (fun hHeld => ?_);refine with_tabW impl_decoded.tab10 impl_decoded.bits10 (fun HT_ HW_ => ?_)
         generalize wc.drew = w37 at HO_4 BK199 HB hx203_0 hHeld ⊢
         refine pQ 0 59 (bl_ 1 13) HT_ rfl ?_
         refine pQ 3 62 (bl_ 9 13) HT_ rfl ?_
         refine pQ 4 63 (bl_ 25 13) HT_ rfl ?_
         refine pQ 5 64 (bl_ 57 13) HT_ rfl ?_
         refine pQ 6 65 (bl_ 121 13) HT_ rfl ?_
         refine tP 1 60 (bl_ 123 13) ?_ HT_ HW_ rfl (.inl ⟨by rfl,?_⟩) hHeld ?_ ?_ ?_;rotate_left;(rintro w' ⟨s0,s1,s2⟩;go_simp;with_reducible rfl);rotate_left;(simp only [Act.put,sq_,i64_w,i32_w];rfl)
         refine pQ 2 61 (bl_ 127 13) HT_ rfl ?_
         refine tP 7 66 (bl_ 255 13) ?_ HT_ HW_ rfl (.inl ⟨by rfl,?_⟩) hHeld ?_ ?_ ?_;rotate_left;(rintro w' ⟨s0,s1,s2⟩;go_simp;with_reducible rfl);rotate_left;(simp only [Act.put,sq_,i64_w,i32_w];rfl)
         refine pQ 8 67 (bl_ 511 13) HT_ rfl ?_
         refine pQ 9 68 (bl_ 1023 13) HT_ rfl ?_
         refine pQ 10 69 (bl_ 2047 13) HT_ rfl ?_
         refine last_ (i := 11) (N := none) (bl_ 4095 13) rfl rfl (one_of HT_.out (by kernel_rfl)) (by decide) (fun K hK => ?_)
         have hs38 : w37.cell? ⟨gb199,1,none⟩ = some (.int .i64 (rd l0 (ji20))) := (bkC BK199.out 1).trans rfl
         have hfs38 := bkF BK199.out 1
         refine skip_ (w1 := ?_) (by rfl) rfl ?_ ?_
         rotate_left
         ·go_simp
          rfl
         refine hK.out _ _ ?_
         clear hK K
         refine pQ 12 7 (bl_ 8191 13) HT_ rfl ?_
         refine done_ (done_of HT_.out (by kernel_rfl)) ?_
         obtain ⟨hcz39_0,hcz39_1,hfz39_0,hfz39_1⟩ := bk2 BK199.out
         try go_wp2_with (first|((with_reducible refine gate_callee (f := 95) rfl ?_);refine goesL_ (some 71) rfl rfl Try.func95 (by kernel_rfl) rfl #[.agg #[.int .i64 (rd l0 x5_1),.int .i64 (wrap64 ((wrap64 ((rd l0 (ji20)) - 128)) + (wrap64 (128 * (rd l0 (ji31))))))]] rfl (by (try simp only [List.map_toArray,List.map_cons,List.map_nil]);first|done|(simp only [hji20,hji31];rfl)|rfl|(simp only [List.length_drop,List.length_take];rfl)) ?_;(with_reducible refine (impl_opOk.calls (rd l0 x5_1) (wrap64 ((wrap64 ((rd l0 (ji20)) - 128)) + (wrap64 (128 * (rd l0 (ji31)))))) true _ A34.out).mono ?_);rintro e w40 ⟨rfl,hb⟩;refine ⟨_,rfl,?_⟩;have n0_ := As_ (Kd.R_below (by (with_reducible repeat (first|apply Kd.R_alloc|apply Kd.R_drewN|apply Kd.R_drew));exact (Kd.R_mono (Kd.R_far (p := ⟨gb199,1,none⟩) (Kd.R_mono HO_4.out (fun k_ hk => (⟨hk,hk⟩ : _ ∧ k_ ≠ gb199))) (fun _ hk => hk.2) (.int .i64 (wrap64 ((wrap64 ((rd l0 (ji20)) - 128)) + (wrap64 (128 * (rd l0 (ji31)))))))) (fun _ h_ => h_.1))) hb);have n1_ := As_ (blk_below (g := gb199) (o := .cells #[.int .i64 (rd l0 x5_1),.int .i64 (wrap64 ((wrap64 ((rd l0 (ji20)) - 128)) + (wrap64 (128 * (rd l0 (ji31))))))] 75 (0,0)) (by (with_reducible repeat first|apply bkN|apply bkD|apply bkA);refine blk_put (cs := #[.int .i64 (rd l0 x5_1),.int .i64 (rd l0 (ji20))]) ?_ 1 _ rfl;(with_reducible repeat first|apply bkN|apply bkD|apply bkA);exact BK199.out) hb);have n2_ := As_ (bwT (zb1 HB.out GE199.out) hb);clear HO_4 BK199 HB;revert n0_ n1_ n2_;intro HO_4 BK199 HB;obtain ⟨hcz41_0,hcz41_1,hfz41_0,hfz41_1⟩ := bk2 BK199.out)|((with_reducible refine gate_builtin (b := .append) (xs := #[.tmp 73,.tmp 75]) rfl ?_);(try (refine gate_guard (by rfl) ?_;dsimp only));at_builtin;refine Kd.R_append k75 (w0 := w) w.heap.size rfl (.tmp 73) (.tmp 75) 23 75 (.agg #[(.int .i64 0),(.int .i64 0)]) 16 rfl Try.underlying23 info75 rfl (by decide) (by omega) u4 x4_1 (⟨(rd l0 x5_1),wrap64 ((wrap64 ((rd l0 (ji20)) - 128)) + (wrap64 (128 * (rd l0 (ji31)))))⟩ : S75) [.int .i64 (rd l0 x5_1),.int .i64 (wrap64 ((wrap64 ((rd l0 (ji20)) - 128)) + (wrap64 (128 * (rd l0 (ji31))))))] (fun k_ => k_ ≠ gb199) (fun _ => False) rfl rfl ?aP (fun _ hk => hk.elim) ?aF ?aO ?aB ?aS ?aL ?_;(case aP => exact k75_mkM _ _ _ (⟨(rd l0 x5_1),wrap64 ((wrap64 ((rd l0 (ji20)) - 128)) + (wrap64 (128 * (rd l0 (ji31)))))⟩ : S75));(case aB => exact (zb1 HB.out GE199.out));(case aF => exact (fun k_ hk => Kd.freshB (g := gb199) (o := .cells #[.int .i64 (rd l0 x5_1),.int .i64 (wrap64 ((wrap64 ((rd l0 (ji20)) - 128)) + (wrap64 (128 * (rd l0 (ji31))))))] 75 (0,0)) (zk_ BK199.out) k_ hk));(case aO => exact (zR_ HO_4.out));(case aS => exact (bwZ (zb1 HB.out GE199.out)));(case aL => have := LMc36.out;omega);intro v206 w42 ho hb hg hat;rw [← Ny205.out] at ho;have n0_ := As_ (blk_grown (g := gb199) (o := .cells #[.int .i64 (rd l0 x5_1),.int .i64 (wrap64 ((wrap64 ((rd l0 (ji20)) - 128)) + (wrap64 (128 * (rd l0 (ji31))))))] 75 (0,0)) (zk_ BK199.out) hg (Kd.R_away HO_4.out (fun _ hk => hk)));have n1_ := As_ (hb);have n2_ := As_ (ho);clear BK199 HB HO_4;revert n0_ n1_ n2_;intro BK199 HB HO207;clear ho hb hg hat))
         go_roundg kj23
         case measure => have := HK1.out;have := HJ3.out;have := HJ10.out;have := HJ23.out;omega
         case rel => exact ⟨(y205),(wrap64 (x5_1 + 3)),zT_,H',⟨by have := HK1.out;have := HJ3.out;have := HJ10.out;have := HJ23.out;omega⟩,⟨by (with_reducible repeat (first|apply Kd.R_alloc|apply Kd.R_drewN|apply Kd.R_drew));exact Kd.R_mono HO207.out (fun _ hk => trivial)⟩,⟨zb1 HB.out GE199.out⟩⟩
end Go.Proofs.Ytbokjhdhpmmpfaa.Q
