-- Written by wip/tools/qprint.py (a program of this claim's author) by means of the kit's printer.
import Derived.Test.YtapaegcombfafaaQ0
import Derived.Test.YtapaegcombfafaaQ88
namespace Go.Proofs.Ytapaegcombfafaa.Q
open Go.RowKit Go.Proofs.YtapaegcombfafaaW.PrintWords Go.Proofs.YtapaegcombfafaaW.PrintLast Go.Proofs.YtapaegcombfafaaW.PrintMore
attribute [local go_sem] max2_int min2_int max_two min_two max_three min_three max_four min_four   -- for this text's walks alone
set_option linter.unusedVariables false
set_option linter.unusedSimpArgs false

/-! ### impl_classes: function 53 -/
mutual
def impl_classes.l0 : Nat → List (S58) → Int → Int → List Int → Option (List Int)
 | 0,_,_,_,_ => none
 | k + 1,x0,x15,x16,x670000 => if x16 < x15 then (impl_classes.l1 k x0 (([] : List Int)) x15 x16 x0 (x0.length : Int) 0 x670000) else (some x670000)
def impl_classes.l1 : Nat → List (S58) → List Int → Int → Int → List (S58) → Int → Int → List Int → Option (List Int)
 | 0,_,_,_,_,_,_,_,_ => none
 | k + 1,x0,x4,x15,x16,x19,x20,x21,x670000 => if x21 < x20 then (if 0 ≤ x21 then (if x21 < (x19.length : Int) then (if x21 ≤ (x0.length : Int) then ((some (x0.take (x21 : Int).toNat : List (S58))).bind fun y675 => (impl_classes.l2 k x0 x4 x21 x21 x15 x16 x19 x20 x21 y675 (y675.length : Int) 0 x670000 ((rd_T58 x19 x21).f0) ((rd_T58 x19 x21).f1) ((rd_T58 x19 x21).f2))) else (none)) else (none)) else (none)) else (impl_classes.l0 k x0 x15 (wrap64 (x16 + 1)) x4)
def impl_classes.l2 : Nat → List (S58) → List Int → Int → Int → Int → Int → List (S58) → Int → Int → List (S58) → Int → Int → List Int → Int → Int → List Int → Option (List Int)
 | 0,_,_,_,_,_,_,_,_,_,_,_,_,_,_,_,_ => none
 | k + 1,x0,x4,x5,x7,x15,x16,x19,x20,x21,x29,x30,x31,x670000,x675000,x675001,x675002 => if x31 < x30 then (if 0 ≤ x31 then (if x31 < (x29.length : Int) then (if x31 < (x670000.length : Int) then (if 0 ≤ x5 then (if x5 < (x670000.length : Int) then (if (rd x670000 x31) = (rd x670000 x5) then (if x675000 = ((rd_T58 x29 x31).f0) then (if x675001 = ((rd_T58 x29 x31).f1) then ((slices_EqualFunc_int_int_int_int.f k x675002 ((rd_T58 x29 x31).f2) x670000).bind fun t683 => (if t683 = true then (if x4.length < 17592186044416 then (impl_classes.l1 k x0 (x4 ++ [x31]) x15 x16 x19 x20 (wrap64 (x21 + 1)) x670000) else (none)) else (impl_classes.l2 k x0 x4 x5 x7 x15 x16 x19 x20 x21 x29 x30 (wrap64 (x31 + 1)) x670000 x675000 x675001 x675002))) else (impl_classes.l2 k x0 x4 x5 x7 x15 x16 x19 x20 x21 x29 x30 (wrap64 (x31 + 1)) x670000 x675000 x675001 x675002)) else (impl_classes.l2 k x0 x4 x5 x7 x15 x16 x19 x20 x21 x29 x30 (wrap64 (x31 + 1)) x670000 x675000 x675001 x675002)) else (impl_classes.l2 k x0 x4 x5 x7 x15 x16 x19 x20 x21 x29 x30 (wrap64 (x31 + 1)) x670000 x675000 x675001 x675002)) else (none)) else (none)) else (none)) else (none)) else (none)) else (if x4.length < 17592186044416 then (impl_classes.l1 k x0 (x4 ++ [x7]) x15 x16 x19 x20 (wrap64 (x21 + 1)) x670000) else (none))
end
def impl_classes.f (k : Nat) (l0 : List (S58)) : Option (List Int) := if 0 ≤ (l0.length : Int) then (if ((l0.length : Int) : Int).toNat ≤ 35184372088832 then (impl_classes.l0 k l0 (wrap64 ((l0.length : Int) + 1)) 0 (List.replicate ((l0.length : Int) : Int).toNat 0)) else (none)) else (none)
set_option maxRecDepth 100000 in
theorem impl_classes.mono_l : ∀ k,(∀ y0 y1 y2 y3,LeO (impl_classes.l0 k y0 y1 y2 y3) (impl_classes.l0 (k + 1) y0 y1 y2 y3)) ∧ (∀ y0 y1 y2 y3 y4 y5 y6 y7,LeO (impl_classes.l1 k y0 y1 y2 y3 y4 y5 y6 y7) (impl_classes.l1 (k + 1) y0 y1 y2 y3 y4 y5 y6 y7)) ∧ (∀ y0 y1 y2 y3 y4 y5 y6 y7 y8 y9 y10 y11 y12 y13 y14 y15,LeO (impl_classes.l2 k y0 y1 y2 y3 y4 y5 y6 y7 y8 y9 y10 y11 y12 y13 y14 y15) (impl_classes.l2 (k + 1) y0 y1 y2 y3 y4 y5 y6 y7 y8 y9 y10 y11 y12 y13 y14 y15))
 | 0 => ⟨fun _ _ _ _ r h => (by cases h),fun _ _ _ _ _ _ _ _ r h => (by cases h),fun _ _ _ _ _ _ _ _ _ _ _ _ _ _ _ _ r h => (by cases h)⟩
 | k + 1 => by
  obtain ⟨ih0,ih1,ih2⟩ := impl_classes.mono_l k
  refine ⟨?_,?_,?_⟩
  ·intro y0 y1 y2 y3
   unfold impl_classes.l0
   repeat' first
   | (with_reducible exact ih0 _ _ _ _)
   | (with_reducible exact ih1 _ _ _ _ _ _ _ _)
   | (with_reducible exact ih2 _ _ _ _ _ _ _ _ _ _ _ _ _ _ _ _)
   | (with_reducible exact slices_EqualFunc_int_int_int_int.mono _ _ _ _)
   | (with_reducible exact LeO.refl _)
   | (with_reducible exact LeO.none _)
   | (with_reducible refine LeO.ite ?_ ?_)
   | (with_reducible refine LeO.bind ?_ (fun _ => ?_))
   | exact ih0 _ _ _ _
   | exact ih1 _ _ _ _ _ _ _ _
   | exact ih2 _ _ _ _ _ _ _ _ _ _ _ _ _ _ _ _
   | exact slices_EqualFunc_int_int_int_int.mono _ _ _ _
   | exact LeO.none _
   | refine LeO.ite ?_ ?_
   | refine LeO.bind ?_ (fun _ => ?_)
  ·intro y0 y1 y2 y3 y4 y5 y6 y7
   unfold impl_classes.l1
   repeat' first
   | (with_reducible exact ih0 _ _ _ _)
   | (with_reducible exact ih1 _ _ _ _ _ _ _ _)
   | (with_reducible exact ih2 _ _ _ _ _ _ _ _ _ _ _ _ _ _ _ _)
   | (with_reducible exact slices_EqualFunc_int_int_int_int.mono _ _ _ _)
   | (with_reducible exact LeO.refl _)
   | (with_reducible exact LeO.none _)
   | (with_reducible refine LeO.ite ?_ ?_)
   | (with_reducible refine LeO.bind ?_ (fun _ => ?_))
   | exact ih0 _ _ _ _
   | exact ih1 _ _ _ _ _ _ _ _
   | exact ih2 _ _ _ _ _ _ _ _ _ _ _ _ _ _ _ _
   | exact slices_EqualFunc_int_int_int_int.mono _ _ _ _
   | exact LeO.none _
   | refine LeO.ite ?_ ?_
   | refine LeO.bind ?_ (fun _ => ?_)
  ·intro y0 y1 y2 y3 y4 y5 y6 y7 y8 y9 y10 y11 y12 y13 y14 y15
   unfold impl_classes.l2
   repeat' first
   | (with_reducible exact ih0 _ _ _ _)
   | (with_reducible exact ih1 _ _ _ _ _ _ _ _)
   | (with_reducible exact ih2 _ _ _ _ _ _ _ _ _ _ _ _ _ _ _ _)
   | (with_reducible exact slices_EqualFunc_int_int_int_int.mono _ _ _ _)
   | (with_reducible exact LeO.refl _)
   | (with_reducible exact LeO.none _)
   | (with_reducible refine LeO.ite ?_ ?_)
   | (with_reducible refine LeO.bind ?_ (fun _ => ?_))
   | exact ih0 _ _ _ _
   | exact ih1 _ _ _ _ _ _ _ _
   | exact ih2 _ _ _ _ _ _ _ _ _ _ _ _ _ _ _ _
   | exact slices_EqualFunc_int_int_int_int.mono _ _ _ _
   | exact LeO.none _
   | refine LeO.ite ?_ ?_
   | refine LeO.bind ?_ (fun _ => ?_)
set_option maxRecDepth 100000 in
theorem impl_classes.mono : ∀ a0 k,LeO (impl_classes.f k a0) (impl_classes.f (k + 1) a0) := by
 intro a0 k
 obtain ⟨ih0,ih1,ih2⟩ := impl_classes.mono_l k
 unfold impl_classes.f
 repeat' first
   | (with_reducible exact ih0 _ _ _ _)
   | (with_reducible exact ih1 _ _ _ _ _ _ _ _)
   | (with_reducible exact ih2 _ _ _ _ _ _ _ _ _ _ _ _ _ _ _ _)
   | (with_reducible exact slices_EqualFunc_int_int_int_int.mono _ _ _ _)
   | (with_reducible exact LeO.refl _)
   | (with_reducible exact LeO.none _)
   | (with_reducible refine LeO.ite ?_ ?_)
   | (with_reducible refine LeO.bind ?_ (fun _ => ?_))
   | exact ih0 _ _ _ _
   | exact ih1 _ _ _ _ _ _ _ _
   | exact ih2 _ _ _ _ _ _ _ _ _ _ _ _ _ _ _ _
   | exact slices_EqualFunc_int_int_int_int.mono _ _ _ _
   | exact LeO.none _
   | refine LeO.ite ?_ ?_
   | refine LeO.bind ?_ (fun _ => ?_)
def impl_classes.T12 : Bool × List (List Nat × List Nat) := (true,[([],[]),([],[]),([0,1],[0,1]),([2],[2]),([],[]),([],[]),([4,5],[4,5]),([6],[6]),([3,7],[3,7]),([8],[8]),([9],[9]),([10,9],[9,10]),([9],[9]),([12,9],[9,12]),([11,13,9],[9,11,13]),([9,14],[9,14]),([15,9],[15]),([16],[16]),([17,16],[16,17]),([16],[16]),([19,16],[16,19]),([18,20,16],[16,18,20]),([16,21],[16,21]),([22,16],[22]),([23],[23]),([24,23],[23,24]),([23],[23]),([26,23],[23,26]),([23],[23]),([25,27,28,23,23],[23,25,27,28]),([23,29],[23,29])])
def impl_classes.B12 : List Nat := [0,0,3,7,0,0,48,112,255,511,1023,2047,1023,5119,16383,32767,65535,131071,262143,131071,655359,2097151,4194303,8388607,16777215,33554431,16777215,83886079,16777215,536870911,1073741823]
theorem impl_classes.tab12 : rtab .any (opsOf Try.f53 12) = impl_classes.T12 := by kernel_rfl
theorem impl_classes.bits12 : waitsOk impl_classes.T12.2 impl_classes.B12 = true := by kernel_rfl
set_option maxHeartbeats 8000000 in
set_option maxRecDepth 100000 in
theorem impl_classes.calls (k : Nat) (A0 : Option Addr) (c0 : Nat) (l0 : List (S58)) (r : List Int) (w : World) (hr0 : Kd.C k58 w A0 l0.length l0) (hc0 : l0.length ≤ c0) (h : impl_classes.f k l0 = some r) :
  Calls Try.prog 53 #[.slice A0 l0.length c0] w fun e w' => ∃ v0_ : Value,e = .returned (v0_) ∧ Kd.R (Kd.int .i64) 3 w' w.heap.size (fun _ => True) v0_ r ∧ Below w.heap.size w w' := by
 have hu58 := Try.underlying58
 have HR0 := As_ hr0
 have HC0 := As_ hc0
 clear hr0 hc0
 have HB := As_ (Below.refl w.heap.size w)
 have H : (if 0 ≤ (l0.length : Int) then (if ((l0.length : Int) : Int).toNat ≤ 35184372088832 then (impl_classes.l0 k l0 (wrap64 ((l0.length : Int) + 1)) 0 (List.replicate ((l0.length : Int) : Int).toNat 0)) else (none)) else (none)) = some r := h
 clear h
 by_cases c2 : 0 ≤ (l0.length : Int)
 rotate_left
 ·rw [if_neg c2] at H
  exact absurd H (by simp)
 rw [if_pos c2] at H
 have c2b0 := eq_true c2
 have c2b1 : decide (0 ≤ (l0.length : Int)) = true := deT c2
 clear c2
 by_cases c3 : ((l0.length : Int) : Int).toNat ≤ 35184372088832
 rotate_left
 ·rw [if_neg c3] at H
  exact absurd H (by simp)
 rw [if_pos c3] at H
 have c3b0 := eq_true c3
 have c3b1 : decide (((l0.length : Int) : Int).toNat ≤ 35184372088832) = true := deT c3
 clear c3
 obtain ⟨y666,hy666⟩ : ∃ y_ : List Int,y_ = (List.replicate ((l0.length : Int) : Int).toNat 0) := ⟨_,rfl⟩
 replace H : (impl_classes.l0 k l0 (wrap64 ((l0.length : Int) + 1)) 0 y666) = some r := zH_ H hy666
 have Ny666 := As_ hy666
 clear hy666
 have H' := As_ H
 clear H
 go_enter Try.func53,Try.ntmps53
 go_wp2_with (first|((with_reducible refine gate_dst (N := 12) rfl ?_);refine Kd.R_make (Kd.int .i64) _ 3 rfl (N := 12) rfl 26 _ _ rfl (l0.length : Int) rfl rfl Try.underlying26 (.int .i64 0) 8 info3 rfl (by decide) (by omega) 0 (ok := fun _ => True) (okp := fun _ => True) rfl (fun _ hk => hk) trivial (odT zA_) (Nat.le_trans (Nat.mul_le_mul_right _ (odT zA_ : (l0.length : Int).toNat ≤ 35184372088832)) (by omega)) (Below.refl _ _) (Nat.le_refl _) ?_;intro v667 w4 ho5 hb hg_ hnew_;clear hg_ hnew_;(first|rw [← Ny666.out] at ho5|(simp only [Int.reduceToNat] at ho5;rw [← Ny666.out] at ho5));have n0_ := As_ (Kd.R_lower ho5 (bwZ (zb0 HB.out)));have n1_ := As_ (bwT (zb0 HB.out) hb);clear HB;revert n0_ n1_;intro HO668 HB;clear hb ho5)|((with_reducible refine gate_dst (N := 3) rfl ?_);refine box_event ?hg (N := 3) ?hd (cs := #[.slice none 0 0]) (t := 26) ?hr ?_;(case hd => rfl);(case hg => rfl);(case hr => go_simp <;> rfl);intro gb669 hg w6 hbox hb;have n0_ := As_ (Kd.R_below (zR_ HO668.out) hb);have n1_ := As_ (bwT (zb0 HB.out) hb);have n2_ := As_ (hbox);have n3_ := As_ ((by rw [hg];exact (bwZ (zb0 HB.out)) : w.heap.size ≤ gb669));have n4_ := As_ ((by rw [hg];exact (bwZ (zb0 HB.out)) : w.heap.size ≤ gb669));clear HO668 HB;revert n0_ n1_ n2_ n3_ n4_;intro HO668 HB BK669 GW669 GE669;clear hb hbox hg;obtain ⟨Ao7,co7,eo7⟩ := Kd.R_slice HO668.out;subst eo7;obtain ⟨hcz8_0,hfz8_0⟩ := bk1 BK669.out))
 go_loopg [16] k (fun kq v16 w' => ∃ (x16_1 : Int) (x670000_1 : List Int) (u670000 : Value),v16 = .int .i64 x16_1 ∧ Aside0 (impl_classes.l0 kq l0 (wrap64 ((l0.length : Int) + 1)) x16_1 x670000_1 = some r) ∧ Aside0 (kq ≤ k) ∧ Aside0 (Kd.R (Kd.int .i64) 3 w' w.heap.size (fun _ => True) u670000 x670000_1) ∧ Aside0 (w'.heap[gb669]? = some (.cells #[u670000] 26 (0,0))) ∧ Aside0 (Below w.heap.size w w'))
 case atStart => exact ⟨(0),(y666),(.slice Ao7 y666.length co7),zT_,H',⟨Nat.le_refl _⟩,⟨by (with_reducible repeat (first|apply Kd.R_alloc|apply Kd.R_drewN|apply Kd.R_drew));exact Kd.R_mono (Kd.R_far (p := ⟨gb669,0,none⟩) (Kd.R_types HO668.out BK669.out (by decide)) (fun _ hk => hk.2) (.slice Ao7 y666.length co7)) (fun _ hk => trivial)⟩,⟨by (with_reducible repeat first|apply bkN|apply bkD|apply bkA);refine blk_put (cs := #[.slice none 0 0]) ?_ 0 _ rfl;(with_reducible repeat first|apply bkN|apply bkD|apply bkA);exact BK669.out⟩,⟨zb1 HB.out GE669.out⟩⟩
 case round =>
  clear H'
  obtain ⟨x16_1,x670000_1,u670000,rfl,HA,HK1,HO_670000,BK669,HB⟩ := hrel
  cases gk with
  | zero => exact absurd HA.out (fun h_ => (by cases h_))
  | succ k1 =>
   have H := HA.out
   clear HA
   simp only [impl_classes.l0] at H
   by_cases c9 : x16_1 < (wrap64 ((l0.length : Int) + 1))
   rotate_left
   ·rw [if_neg c9] at H
    have c9b0 : decide (x16_1 < (wrap64 ((l0.length : Int) + 1))) = false := deF c9
    clear c9
    obtain rfl := Option.some.inj H
    obtain ⟨hcz74_0,hfz74_0⟩ := bk1 BK669.out
    go_wp2
    go_ret
    exact ⟨_,zE_,by (with_reducible repeat (first|apply Kd.R_alloc|apply Kd.R_drewN|apply Kd.R_drew));exact HO_670000.out,zb1 HB.out GE669.out⟩

   rw [if_pos c9] at H
   have c9b0 : decide (x16_1 < (wrap64 ((l0.length : Int) + 1))) = true := deT c9
   clear c9
   obtain ⟨y670,hy670⟩ : ∃ y_ : List Int,y_ = (([] : List Int)) := ⟨_,rfl⟩
   replace H : (impl_classes.l1 k1 l0 y670 (wrap64 ((l0.length : Int) + 1)) x16_1 l0 (l0.length : Int) 0 x670000_1) = some r := zH_ H hy670
   have Ny670 := As_ hy670
   clear hy670
   have H' := As_ H
   clear H
   go_wp2_with (first|((with_reducible refine gate_dst (N := 18) rfl ?_);refine Kd.R_lit (Kd.int .i64) _ 3 ?hg (N := 18) ?hd (xs := ([] : List Int)) (inner := []) (ok := fun _ => True) (okp := fun _ => True) ?hr ?hp (fun _ hk => hk) trivial (Below.refl _ _) (Nat.le_refl _) (by simp) ?_;(case hd => rfl);(case hg => rfl);(case hr => go_simp <;> rfl);(case hp => exact (Reps.none _ _));intro v671 w10 ho11 hb hg_ hnew_;clear hg_ hnew_;(first|rw [← Ny670.out] at ho11|(simp only [Int.reduceToNat] at ho11;rw [← Ny670.out] at ho11));have n0_ := As_ (Kd.R_elder' (zR_ HO_670000.out) (Kd.R_base ho11) hb);have n1_ := As_ (Kd.R_lower (Kd.R_new' ho11 (Kd.R_lt (zR_ HO_670000.out))) (bwZ (zb1 HB.out GE669.out)));have n2_ := As_ (zkb BK669.out hb);have n3_ := As_ (bwT (zb1 HB.out GE669.out) hb);clear HO_670000 BK669 HB;revert n0_ n1_ n2_ n3_;intro HO_670000 HO672 BK669 HB;clear hb ho11))
   go_loopg [4,21] k1 (fun kq v4 v21 w' => ∃ (x4_2 : List Int) (x21_2 : Int),v21 = .int .i64 x21_2 ∧ Aside0 (impl_classes.l1 kq l0 x4_2 (wrap64 ((l0.length : Int) + 1)) x16_1 l0 (l0.length : Int) x21_2 x670000_1 = some r) ∧ Aside0 (kq ≤ k1) ∧ Aside0 (Kd.R (Kd.int .i64) 3 w' w.heap.size (fun k_ => some k_ ≠ (u670000 : Value).ownBlock) v4 x4_2) ∧ Aside0 (Kd.R (Kd.int .i64) 3 w' w.heap.size (fun k_ => some k_ ≠ (v4 : Value).ownBlock) u670000 x670000_1) ∧ Aside0 (w'.heap[gb669]? = some (.cells #[u670000] 26 (0,0))) ∧ Aside0 (Below w.heap.size w w'))
   case atStart => exact ⟨(y670),(0),zT_,H',⟨Nat.le_refl _⟩,⟨by (with_reducible repeat (first|apply Kd.R_alloc|apply Kd.R_drewN|apply Kd.R_drew));exact Kd.R_mono HO672.out (fun _ hk => hk.2)⟩,⟨by (with_reducible repeat (first|apply Kd.R_alloc|apply Kd.R_drewN|apply Kd.R_drew));exact Kd.R_mono HO_670000.out (fun _ hk => hk.2)⟩,⟨by (with_reducible repeat first|apply bkN|apply bkD|apply bkA);exact BK669.out⟩,⟨zb1 HB.out GE669.out⟩⟩
   case round =>
    clear H'
    obtain ⟨x4_2,x21_2,rfl,HA,HK2,HO_4,HO_670000,BK669,HB⟩ := hrel
    cases gk with
    | zero => exact absurd HA.out (fun h_ => (by cases h_))
    | succ k2 =>
     have H := HA.out
     clear HA
     simp only [impl_classes.l1] at H
     by_cases c12 : x21_2 < (l0.length : Int)
     rotate_left
     ·rw [if_neg c12] at H
      have c12b0 : decide (x21_2 < (l0.length : Int)) = false := deF c12
      clear c12
      have H' := As_ H
      clear H
      obtain ⟨Ao72,co72,eo72⟩ := Kd.R_slice HO_4.out
      subst eo72
      obtain ⟨hcz73_0,hfz73_0⟩ := bk1 BK669.out
      go_wp2
      go_roundg k2
      case measure => have := HK1.out;have := HK2.out;omega
      case rel => exact ⟨(wrap64 (x16_1 + 1)),(x4_2),(.slice Ao72 x4_2.length co72),zT_,H',⟨by have := HK1.out;have := HK2.out;omega⟩,⟨by (with_reducible repeat (first|apply Kd.R_alloc|apply Kd.R_drewN|apply Kd.R_drew));exact Kd.R_mono (Kd.R_far (p := ⟨gb669,0,none⟩) (Kd.R_types HO_4.out BK669.out (by decide)) (fun _ hk => hk.2) (.slice Ao72 x4_2.length co72)) (fun _ hk => trivial)⟩,⟨by (with_reducible repeat first|apply bkN|apply bkD|apply bkA);refine blk_put (cs := #[u670000]) ?_ 0 _ rfl;(with_reducible repeat first|apply bkN|apply bkD|apply bkA);exact BK669.out⟩,⟨zb1 HB.out GE669.out⟩⟩
     rw [if_pos c12] at H
     have c12b0 : decide (x21_2 < (l0.length : Int)) = true := deT c12
     clear c12
     by_cases c13 : 0 ≤ x21_2
     rotate_left
     ·rw [if_neg c13] at H
      exact absurd H (by simp)
     rw [if_pos c13] at H
     have c13b0 : decide (0 ≤ x21_2) = true := deT c13
     clear c13
     by_cases c14 : x21_2 < (l0.length : Int)
     rotate_left
     ·rw [if_neg c14] at H
      exact absurd H (by simp)
     rw [if_pos c14] at H
     have c14b0 : decide (x21_2 < (l0.length : Int)) = true := deT c14
     clear c14
     have c15b0 := eq_true (odT zA_ : 0 ≤ x21_2)
     by_cases c16 : x21_2 ≤ (l0.length : Int)
     rotate_left
     ·rw [if_neg c16] at H
      exact absurd H (by simp)
     rw [if_pos c16] at H
     have c16b0 := eq_true c16
     have c16b1 : decide (x21_2 ≤ (l0.length : Int)) = true := deT c16
     clear c16
     obtain ⟨y675,hy675⟩ : ∃ y_ : List (S58),y_ = (l0.take (x21_2 : Int).toNat) := ⟨_,rfl⟩
     replace H : (impl_classes.l2 k2 l0 x4_2 x21_2 x21_2 (wrap64 ((l0.length : Int) + 1)) x16_1 l0 (l0.length : Int) x21_2 y675 (y675.length : Int) 0 x670000_1 ((rd_T58 l0 x21_2).f0) ((rd_T58 l0 x21_2).f1) ((rd_T58 l0 x21_2).f2)) = some r := zH_ H hy675
     have Ny675 := As_ hy675
     clear hy675
     have H' := As_ H
     clear H
     have p673 : 0 ≤ (x21_2 : Int) := odT zA_
     have q673 : x21_2 < (l0.length : Int) := odT zA_
     obtain ⟨ad673,A673_2,c673_2,e673,hx673_0,hx673_1,hx673_2,hl673_2,hi673_2⟩ := at_T58 HR0.out x21_2 p673 q673
     cases e673
     replace hx673_0 := bwC HB.out hx673_0
     replace hx673_1 := bwC HB.out hx673_1
     replace hx673_2 := bwC HB.out hx673_2
     have HR673_2 := As_ hi673_2
     have HC673_2 := As_ hl673_2
     clear hi673_2 hl673_2
     replace p673 := eq_true p673
     replace q673 := eq_true q673
     go_wp2_with (first|((with_reducible refine gate_dst (N := 6) rfl ?_);refine box_event ?hg (N := 6) ?hd (cs := #[.int .i64 0,.int .i64 0,.slice none 0 0]) (t := 58) ?hr ?_;(case hd => rfl);(case hg => rfl);(case hr => go_simp <;> rfl);intro gb674 hg w17 hbox hb;have n0_ := As_ (Kd.R_below (zR_ HO_4.out) hb);have n1_ := As_ (Kd.R_below (zR_ HO_670000.out) hb);have n2_ := As_ (zkb BK669.out hb);have n3_ := As_ (bwT (zb1 HB.out GE669.out) hb);have n4_ := As_ (hbox);have n5_ := As_ ((by rw [hg];exact (bwZ (zb1 HB.out GE669.out)) : w.heap.size ≤ gb674));have n6_ := As_ ((by rw [hg];exact (bwZ (zb1 HB.out GE669.out)) : w.heap.size ≤ gb674));have n7_ := As_ ((by rw [hg];exact Nat.ne_of_lt (zkl BK669.out) : gb669 ≠ gb674));have n8_ := As_ ((by rw [hg];exact Nat.ne_of_gt (zkl BK669.out) : gb674 ≠ gb669));clear HO_4 HO_670000 BK669 HB;revert n0_ n1_ n2_ n3_ n4_ n5_ n6_ n7_ n8_;intro HO_4 HO_670000 BK669 HB BK674 GW674 GE674 NB669_674 NB674_669;clear hb hbox hg;have hnb18 := NB674_669.out;have hnc18 := NB669_674.out;obtain ⟨hcz19_0,hcz19_1,hcz19_2,hfz19_0,hfz19_1,hfz19_2⟩ := bk3 BK674.out)|((with_reducible refine gate_store (t := 58) (p := 6) rfl ?_);refine store_event (t := 58) (p := 6) (v := ?vo_w20) (w1 := (((w17.setCell ⟨gb674,0,none⟩ (.int .i64 ((rd_T58 l0 x21_2).f0))).setCell ⟨gb674,1,none⟩ (.int .i64 ((rd_T58 l0 x21_2).f1))).setCell ⟨gb674,2,none⟩ (.slice A673_2 ((rd_T58 l0 x21_2).f2).length c673_2))) ?hg ?ho ?hn ?hr ?_;(case ho => rfl);(case hg => rfl);(case hn => rfl);(case hr => go_simp <;> rfl);intro w20 hw;have n0_ : Aside0 (Kd.R (Kd.int .i64) 3 w20 w.heap.size (fun k_ => some k_ ≠ (u670000 : Value).ownBlock) u4 x4_2) := ⟨(by rw [hw];exact (by (with_reducible repeat (first|apply Kd.R_alloc|apply Kd.R_drewN|apply Kd.R_drew));exact Kd.R_mono (Kd.R_far (p := ⟨gb674,2,none⟩) (Kd.R_far (p := ⟨gb674,1,none⟩) (Kd.R_far (p := ⟨gb674,0,none⟩) (Kd.R_types HO_4.out BK674.out (by decide)) (fun _ hk => hk.2) (.int .i64 ((rd_T58 l0 x21_2).f0))) (fun _ hk => hk.2) (.int .i64 ((rd_T58 l0 x21_2).f1))) (fun _ hk => hk.2) (.slice A673_2 ((rd_T58 l0 x21_2).f2).length c673_2)) (fun _ hk => hk.1)))⟩;have n1_ : Aside0 (Kd.R (Kd.int .i64) 3 w20 w.heap.size (fun k_ => some k_ ≠ (u4 : Value).ownBlock) u670000 x670000_1) := ⟨(by rw [hw];exact (by (with_reducible repeat (first|apply Kd.R_alloc|apply Kd.R_drewN|apply Kd.R_drew));exact Kd.R_mono (Kd.R_far (p := ⟨gb674,2,none⟩) (Kd.R_far (p := ⟨gb674,1,none⟩) (Kd.R_far (p := ⟨gb674,0,none⟩) (Kd.R_types HO_670000.out BK674.out (by decide)) (fun _ hk => hk.2) (.int .i64 ((rd_T58 l0 x21_2).f0))) (fun _ hk => hk.2) (.int .i64 ((rd_T58 l0 x21_2).f1))) (fun _ hk => hk.2) (.slice A673_2 ((rd_T58 l0 x21_2).f2).length c673_2)) (fun _ hk => hk.1)))⟩;have n2_ : Aside0 (w20.heap[gb669]? = some (.cells #[u670000] 26 (0,0))) := ⟨(by rw [hw];exact (by (with_reducible repeat first|apply bkN|apply bkD|apply bkA);refine blk_far ?_ NB669_674.out _;(with_reducible repeat first|apply bkN|apply bkD|apply bkA);refine blk_far ?_ NB669_674.out _;(with_reducible repeat first|apply bkN|apply bkD|apply bkA);refine blk_far ?_ NB669_674.out _;(with_reducible repeat first|apply bkN|apply bkD|apply bkA);exact BK669.out))⟩;have n3_ : Aside0 (w20.heap[gb674]? = some (.cells #[.int .i64 ((rd_T58 l0 x21_2).f0),.int .i64 ((rd_T58 l0 x21_2).f1),.slice A673_2 ((rd_T58 l0 x21_2).f2).length c673_2] 58 (0,0))) := ⟨(by rw [hw];exact (by (with_reducible repeat first|apply bkN|apply bkD|apply bkA);refine blk_put (cs := #[.int .i64 ((rd_T58 l0 x21_2).f0),.int .i64 ((rd_T58 l0 x21_2).f1),.slice none 0 0]) ?_ 2 _ rfl;(with_reducible repeat first|apply bkN|apply bkD|apply bkA);refine blk_put (cs := #[.int .i64 ((rd_T58 l0 x21_2).f0),.int .i64 0,.slice none 0 0]) ?_ 1 _ rfl;(with_reducible repeat first|apply bkN|apply bkD|apply bkA);refine blk_put (cs := #[.int .i64 0,.int .i64 0,.slice none 0 0]) ?_ 0 _ rfl;(with_reducible repeat first|apply bkN|apply bkD|apply bkA);exact BK674.out))⟩;have n4_ : Aside0 (Below w.heap.size w w20) := ⟨(by rw [hw];exact (zb2 HB.out GE669.out GE674.out))⟩;clear hw HO_4 HO_670000 BK669 BK674 HB;revert n0_ n1_ n2_ n3_ n4_;intro HO_4 HO_670000 BK669 BK674 HB;have q21 : (x21_2 : Int) ≤ ((l0.length : Int) : Int) := odT zA_;obtain ⟨i021,hi021,_,hsz21,_⟩ := info_parts info58;have hroom21 : l0.length ≤ c0 := HC0.out;have hC21 : Kd.C k58 _ (some ad673) l0.length l0 := HR0.out;have hcut21 := cut_to (P := Try.prog) 23 58 .i64 Try.underlying23 hi021 (some ad673) l0.length c0 x21_2 (odT zA_) q21 hroom21;have hr21 := Kd.C_take (m := (x21_2 : Int).toNat) hC21 (by omega);have hy21 : y675.length = (x21_2 : Int).toNat := (by rw [Ny675.out,List.length_take];omega);rw [← Ny675.out] at hr21;rw [← hy21] at hcut21;have HR678 := As_ hr21;have HC678 := As_ (show y675.length ≤ c0 from by omega);clear hr21 hC21 hroom21 hi021 hsz21;have KY21 := As_ hy21;clear hy21;replace q21 := eq_true q21))
     go_loopg [7,31] k2 (fun kq v7 v31 w' => ∃ (x7_3 : Int) (x31_3 : Int),v7 = .int .i64 x7_3 ∧ v31 = .int .i64 x31_3 ∧ Aside0 (impl_classes.l2 kq l0 x4_2 x21_2 x7_3 (wrap64 ((l0.length : Int) + 1)) x16_1 l0 (l0.length : Int) x21_2 y675 (y675.length : Int) x31_3 x670000_1 ((rd_T58 l0 x21_2).f0) ((rd_T58 l0 x21_2).f1) ((rd_T58 l0 x21_2).f2) = some r) ∧ Aside0 (kq ≤ k2) ∧ Aside0 (Kd.R (Kd.int .i64) 3 w' w.heap.size (fun k_ => some k_ ≠ (u670000 : Value).ownBlock) u4 x4_2) ∧ Aside0 (Kd.R (Kd.int .i64) 3 w' w.heap.size (fun k_ => some k_ ≠ (u4 : Value).ownBlock) u670000 x670000_1) ∧ Aside0 (w'.heap[gb669]? = some (.cells #[u670000] 26 (0,0))) ∧ Aside0 (w'.heap[gb674]? = some (.cells #[.int .i64 ((rd_T58 l0 x21_2).f0),.int .i64 ((rd_T58 l0 x21_2).f1),(.slice A673_2 ((rd_T58 l0 x21_2).f2).length c673_2)] 58 (0,0))) ∧ Aside0 (Below w.heap.size w w'))
     case atStart => exact ⟨(x21_2),(0),zT_,zT_,H',⟨Nat.le_refl _⟩,⟨by (with_reducible repeat (first|apply Kd.R_alloc|apply Kd.R_drewN|apply Kd.R_drew));exact HO_4.out⟩,⟨by (with_reducible repeat (first|apply Kd.R_alloc|apply Kd.R_drewN|apply Kd.R_drew));exact HO_670000.out⟩,⟨by (with_reducible repeat first|apply bkN|apply bkD|apply bkA);exact BK669.out⟩,⟨by (with_reducible repeat first|apply bkN|apply bkD|apply bkA);exact BK674.out⟩,⟨zb2 HB.out GE669.out GE674.out⟩⟩
     case round =>
      clear H'
      obtain ⟨x7_3,x31_3,rfl,rfl,HA,HK3,HO_4,HO_670000,BK669,BK674,HB⟩ := hrel
      cases gk with
      | zero => exact absurd HA.out (fun h_ => (by cases h_))
      | succ k3 =>
       have H := HA.out
       clear HA
       simp only [impl_classes.l2] at H
       by_cases c22 : x31_3 < (y675.length : Int)
       rotate_left
       ·rw [if_neg c22] at H
        have c22b0 : decide (x31_3 < (y675.length : Int)) = false := deF c22
        clear c22
        by_cases c70 : x4_2.length < 17592186044416
        rotate_left
        ·rw [if_neg c70] at H
         exact absurd H (by simp)
        rw [if_pos c70] at H
        have LMc70 := As_ c70
        clear c70
        obtain ⟨y687,hy687⟩ : ∃ y_ : List Int,y_ = (x4_2 ++ [x7_3]) := ⟨_,rfl⟩
        replace H : (impl_classes.l1 k3 l0 y687 (wrap64 ((l0.length : Int) + 1)) x16_1 l0 (l0.length : Int) (wrap64 (x21_2 + 1)) x670000_1) = some r := zH_ H hy687
        have Ny687 := As_ hy687
        clear hy687
        have H' := As_ H
        clear H
        go_wp2_with (first|((with_reducible refine gate_builtin (b := .append) (xs := #[.tmp 69,.tmp 71]) rfl ?_);at_builtin;refine Kd.R_append (Kd.int .i64) (w0 := w) w.heap.size rfl (.tmp 69) (.tmp 71) 26 3 (.int .i64 0) 8 rfl Try.underlying26 info3 rfl (by decide) (by omega) u4 x4_2 x7_3 [.int .i64 x7_3] (fun k_ => some k_ ≠ (u670000 : Value).ownBlock) (fun _ => False) rfl rfl ?aP (fun _ hk => hk.elim) ?aF ?aO ?aB ?aS ?aL ?_;(case aP => exact rfl);(case aB => exact (zb2 HB.out GE669.out GE674.out));(case aF => exact (fun k_ hk => Kd.fresh' (Kd.R_lt (zR_ HO_670000.out)) k_ hk));(case aO => exact (zR_ HO_4.out));(case aS => exact (bwZ (zb2 HB.out GE669.out GE674.out)));(case aL => have := LMc70.out;omega);intro v688 w71 ho hb hg hat;rw [← Ny687.out] at ho;have n0_ := As_ (Kd.R_after (ok := (fun _ => True)) (by (with_reducible repeat (first|apply Kd.R_alloc|apply Kd.R_drewN|apply Kd.R_drew));exact Kd.R_mono HO_670000.out (fun _ hk => ⟨trivial,hk⟩)) hg hat);have n1_ := As_ (blk_grown (g := gb669) (o := .cells #[u670000] 26 (0,0)) (zk_ BK669.out) hg (Kd.R_ne HO_4.out BK669.out (by decide)));have n2_ := As_ (blk_grown (g := gb674) (o := .cells #[.int .i64 ((rd_T58 l0 x21_2).f0),.int .i64 ((rd_T58 l0 x21_2).f1),.slice A673_2 ((rd_T58 l0 x21_2).f2).length c673_2] 58 (0,0)) (zk_ BK674.out) hg (Kd.R_ne HO_4.out BK674.out (by decide)));have n3_ := As_ (hb);have n4_ := As_ (ho);clear HO_670000 BK669 BK674 HB HO_4;revert n0_ n1_ n2_ n3_ n4_;intro HO_670000 BK669 BK674 HB HO689;clear ho hb hg hat))
        go_roundg k3
        case measure => have := HK1.out;have := HK2.out;have := HK3.out;omega
        case rel => exact ⟨(y687),(wrap64 (x21_2 + 1)),zT_,H',⟨by have := HK1.out;have := HK2.out;have := HK3.out;omega⟩,⟨by (with_reducible repeat (first|apply Kd.R_alloc|apply Kd.R_drewN|apply Kd.R_drew));exact HO689.out⟩,⟨by (with_reducible repeat (first|apply Kd.R_alloc|apply Kd.R_drewN|apply Kd.R_drew));exact Kd.R_mono HO_670000.out (fun _ hk => hk.2)⟩,⟨by (with_reducible repeat first|apply bkN|apply bkD|apply bkA);exact BK669.out⟩,⟨zb2 HB.out GE669.out GE674.out⟩⟩
       rw [if_pos c22] at H
       have c22b0 : decide (x31_3 < (y675.length : Int)) = true := deT c22
       clear c22
       by_cases c23 : 0 ≤ x31_3
       rotate_left
       ·rw [if_neg c23] at H
        exact absurd H (by simp)
       rw [if_pos c23] at H
       have c23b0 : decide (0 ≤ x31_3) = true := deT c23
       clear c23
       by_cases c24 : x31_3 < (y675.length : Int)
       rotate_left
       ·rw [if_neg c24] at H
        exact absurd H (by simp)
       rw [if_pos c24] at H
       have c24b0 : decide (x31_3 < (y675.length : Int)) = true := deT c24
       clear c24
       by_cases c25 : x31_3 < (x670000_1.length : Int)
       rotate_left
       ·rw [if_neg c25] at H
        exact absurd H (by simp)
       rw [if_pos c25] at H
       have c25b0 : decide (x31_3 < (x670000_1.length : Int)) = true := deT c25
       clear c25
       by_cases c26 : 0 ≤ x21_2
       rotate_left
       ·rw [if_neg c26] at H
        exact absurd H (by simp)
       rw [if_pos c26] at H
       have c26b0 : decide (0 ≤ x21_2) = true := deT c26
       clear c26
       by_cases c27 : x21_2 < (x670000_1.length : Int)
       rotate_left
       ·rw [if_neg c27] at H
        exact absurd H (by simp)
       rw [if_pos c27] at H
       have c27b0 : decide (x21_2 < (x670000_1.length : Int)) = true := deT c27
       clear c27
       by_cases c28 : (rd x670000_1 x31_3) = (rd x670000_1 x21_2)
       rotate_left
       ·rw [if_neg c28] at H
        have c28b0 : ((rd x670000_1 x31_3) == (rd x670000_1 x21_2)) = false := beq_eq_false_iff_ne.mpr c28
        have c28b1 : ((rd x670000_1 x31_3) != (rd x670000_1 x21_2)) = true := bne_iff_ne.mpr c28
        have H' := As_ H
        clear H
        have p679 : 0 ≤ (x31_3 : Int) := odT zA_
        have q679 : x31_3 < (y675.length : Int) := odT zA_
        obtain ⟨ad679,A679_2,c679_2,e679,hx679_0,hx679_1,hx679_2,hl679_2,hi679_2⟩ := at_T58 HR678.out x31_3 p679 q679
        obtain rfl : ad673 = ad679 := (by injection e679)
        replace hx679_0 := bwC HB.out hx679_0
        replace hx679_1 := bwC HB.out hx679_1
        replace hx679_2 := bwC HB.out hx679_2
        have HR679_2 := As_ hi679_2
        have HC679_2 := As_ hl679_2
        clear hi679_2 hl679_2
        replace p679 := eq_true p679
        replace q679 := eq_true q679
        try go_wp2_with (first|((with_reducible refine gate_dst (N := 9) rfl ?_);refine box_event ?hg (N := 9) ?hd (cs := #[.int .i64 0,.int .i64 0,.slice none 0 0]) (t := 58) ?hr ?_;(case hd => rfl);(case hg => rfl);(case hr => go_simp <;> rfl);intro gb680 hg w63 hbox hb;have n0_ := As_ (Kd.R_below (zR_ HO_4.out) hb);have n1_ := As_ (Kd.R_below (zR_ HO_670000.out) hb);have n2_ := As_ (zkb BK669.out hb);have n3_ := As_ (zkb BK674.out hb);have n4_ := As_ (bwT (zb2 HB.out GE669.out GE674.out) hb);have n5_ := As_ (hbox);have n6_ := As_ ((by rw [hg];exact (bwZ (zb2 HB.out GE669.out GE674.out)) : w.heap.size ≤ gb680));have n7_ := As_ ((by rw [hg];exact (bwZ (zb2 HB.out GE669.out GE674.out)) : w.heap.size ≤ gb680));have n8_ := As_ ((by rw [hg];exact Nat.ne_of_lt (zkl BK669.out) : gb669 ≠ gb680));have n9_ := As_ ((by rw [hg];exact Nat.ne_of_gt (zkl BK669.out) : gb680 ≠ gb669));have n10_ := As_ ((by rw [hg];exact Nat.ne_of_lt (zkl BK674.out) : gb674 ≠ gb680));have n11_ := As_ ((by rw [hg];exact Nat.ne_of_gt (zkl BK674.out) : gb680 ≠ gb674));clear HO_4 HO_670000 BK669 BK674 HB;revert n0_ n1_ n2_ n3_ n4_ n5_ n6_ n7_ n8_ n9_ n10_ n11_;intro HO_4 HO_670000 BK669 BK674 HB BK680 GW680 GE680 NB669_680 NB680_669 NB674_680 NB680_674;clear hb hbox hg;have hnb64 := NB680_669.out;have hnc64 := NB669_680.out;have hnb65 := NB680_674.out;have hnc65 := NB674_680.out;obtain ⟨hcz66_0,hcz66_1,hcz66_2,hfz66_0,hfz66_1,hfz66_2⟩ := bk3 BK680.out))
        have n0_ : Aside0 (Kd.R (Kd.int .i64) 3 (((w63.setCell ⟨gb680,0,none⟩ (.int .i64 ((rd_T58 y675 x31_3).f0))).setCell ⟨gb680,1,none⟩ (.int .i64 ((rd_T58 y675 x31_3).f1))).setCell ⟨gb680,2,none⟩ (.slice A679_2 ((rd_T58 y675 x31_3).f2).length c679_2)) w.heap.size (fun k_ => some k_ ≠ (u670000 : Value).ownBlock) u4 x4_2) := ⟨by (with_reducible repeat (first|apply Kd.R_alloc|apply Kd.R_drewN|apply Kd.R_drew));exact Kd.R_mono (Kd.R_far (p := ⟨gb680,2,none⟩) (Kd.R_far (p := ⟨gb680,1,none⟩) (Kd.R_far (p := ⟨gb680,0,none⟩) (Kd.R_types HO_4.out BK680.out (by decide)) (fun _ hk => hk.2) (.int .i64 ((rd_T58 y675 x31_3).f0))) (fun _ hk => hk.2) (.int .i64 ((rd_T58 y675 x31_3).f1))) (fun _ hk => hk.2) (.slice A679_2 ((rd_T58 y675 x31_3).f2).length c679_2)) (fun _ hk => hk.1)⟩
        have n1_ : Aside0 (Kd.R (Kd.int .i64) 3 (((w63.setCell ⟨gb680,0,none⟩ (.int .i64 ((rd_T58 y675 x31_3).f0))).setCell ⟨gb680,1,none⟩ (.int .i64 ((rd_T58 y675 x31_3).f1))).setCell ⟨gb680,2,none⟩ (.slice A679_2 ((rd_T58 y675 x31_3).f2).length c679_2)) w.heap.size (fun k_ => some k_ ≠ (u4 : Value).ownBlock) u670000 x670000_1) := ⟨by (with_reducible repeat (first|apply Kd.R_alloc|apply Kd.R_drewN|apply Kd.R_drew));exact Kd.R_mono (Kd.R_far (p := ⟨gb680,2,none⟩) (Kd.R_far (p := ⟨gb680,1,none⟩) (Kd.R_far (p := ⟨gb680,0,none⟩) (Kd.R_types HO_670000.out BK680.out (by decide)) (fun _ hk => hk.2) (.int .i64 ((rd_T58 y675 x31_3).f0))) (fun _ hk => hk.2) (.int .i64 ((rd_T58 y675 x31_3).f1))) (fun _ hk => hk.2) (.slice A679_2 ((rd_T58 y675 x31_3).f2).length c679_2)) (fun _ hk => hk.1)⟩
        have n2_ : Aside0 ((((w63.setCell ⟨gb680,0,none⟩ (.int .i64 ((rd_T58 y675 x31_3).f0))).setCell ⟨gb680,1,none⟩ (.int .i64 ((rd_T58 y675 x31_3).f1))).setCell ⟨gb680,2,none⟩ (.slice A679_2 ((rd_T58 y675 x31_3).f2).length c679_2)).heap[gb669]? = some (.cells #[u670000] 26 (0,0))) := ⟨by (with_reducible repeat first|apply bkN|apply bkD|apply bkA);refine blk_far ?_ NB669_680.out _;(with_reducible repeat first|apply bkN|apply bkD|apply bkA);refine blk_far ?_ NB669_680.out _;(with_reducible repeat first|apply bkN|apply bkD|apply bkA);refine blk_far ?_ NB669_680.out _;(with_reducible repeat first|apply bkN|apply bkD|apply bkA);exact BK669.out⟩
        have n3_ : Aside0 ((((w63.setCell ⟨gb680,0,none⟩ (.int .i64 ((rd_T58 y675 x31_3).f0))).setCell ⟨gb680,1,none⟩ (.int .i64 ((rd_T58 y675 x31_3).f1))).setCell ⟨gb680,2,none⟩ (.slice A679_2 ((rd_T58 y675 x31_3).f2).length c679_2)).heap[gb674]? = some (.cells #[.int .i64 ((rd_T58 l0 x21_2).f0),.int .i64 ((rd_T58 l0 x21_2).f1),.slice A673_2 ((rd_T58 l0 x21_2).f2).length c673_2] 58 (0,0))) := ⟨by (with_reducible repeat first|apply bkN|apply bkD|apply bkA);refine blk_far ?_ NB674_680.out _;(with_reducible repeat first|apply bkN|apply bkD|apply bkA);refine blk_far ?_ NB674_680.out _;(with_reducible repeat first|apply bkN|apply bkD|apply bkA);refine blk_far ?_ NB674_680.out _;(with_reducible repeat first|apply bkN|apply bkD|apply bkA);exact BK674.out⟩
        have n4_ : Aside0 ((((w63.setCell ⟨gb680,0,none⟩ (.int .i64 ((rd_T58 y675 x31_3).f0))).setCell ⟨gb680,1,none⟩ (.int .i64 ((rd_T58 y675 x31_3).f1))).setCell ⟨gb680,2,none⟩ (.slice A679_2 ((rd_T58 y675 x31_3).f2).length c679_2)).heap[gb680]? = some (.cells #[.int .i64 ((rd_T58 y675 x31_3).f0),.int .i64 ((rd_T58 y675 x31_3).f1),.slice A679_2 ((rd_T58 y675 x31_3).f2).length c679_2] 58 (0,0))) := ⟨by (with_reducible repeat first|apply bkN|apply bkD|apply bkA);refine blk_put (cs := #[.int .i64 ((rd_T58 y675 x31_3).f0),.int .i64 ((rd_T58 y675 x31_3).f1),.slice none 0 0]) ?_ 2 _ rfl;(with_reducible repeat first|apply bkN|apply bkD|apply bkA);refine blk_put (cs := #[.int .i64 ((rd_T58 y675 x31_3).f0),.int .i64 0,.slice none 0 0]) ?_ 1 _ rfl;(with_reducible repeat first|apply bkN|apply bkD|apply bkA);refine blk_put (cs := #[.int .i64 0,.int .i64 0,.slice none 0 0]) ?_ 0 _ rfl;(with_reducible repeat first|apply bkN|apply bkD|apply bkA);exact BK680.out⟩
        have n5_ : Aside0 (Below w.heap.size w (((w63.setCell ⟨gb680,0,none⟩ (.int .i64 ((rd_T58 y675 x31_3).f0))).setCell ⟨gb680,1,none⟩ (.int .i64 ((rd_T58 y675 x31_3).f1))).setCell ⟨gb680,2,none⟩ (.slice A679_2 ((rd_T58 y675 x31_3).f2).length c679_2))) := ⟨zb3 HB.out GE669.out GE674.out GE680.out⟩
        generalize (((w63.setCell ⟨gb680,0,none⟩ (.int .i64 ((rd_T58 y675 x31_3).f0))).setCell ⟨gb680,1,none⟩ (.int .i64 ((rd_T58 y675 x31_3).f1))).setCell ⟨gb680,2,none⟩ (.slice A679_2 ((rd_T58 y675 x31_3).f2).length c679_2)) = w67 at n0_ n1_ n2_ n3_ n4_ n5_ ⊢
        revert n0_ n1_ n2_ n3_ n4_ n5_;intro HO_4 HO_670000 BK669 BK674 BK680 HB
        have n0_ := As_ (Kd.R_drew HO_4.out)
        have n1_ := As_ (Kd.R_drew HO_670000.out)
        have n2_ := As_ (bkD BK669.out)
        have n3_ := As_ (bkD BK674.out)
        have n4_ := As_ (bkD BK680.out)
        have n5_ := As_ (bwD HB.out)
        clear HO_4 HO_670000 BK669 BK674 BK680 HB
        revert n0_ n1_ n2_ n3_ n4_ n5_;intro HO_4 HO_670000 BK669 BK674 BK680 HB
        obtain ⟨Ao69,co69,eo69⟩ := Kd.R_slice HO_670000.out
        (first|subst eo69|(injection eo69 with f1_ f2_ f3_;have f4_ := f1_.symm;have f5_ := f3_.symm;clear f1_ f2_ f3_;subst f4_;subst f5_))
        have p681 : 0 ≤ (x31_3 : Int) := odT zA_
        have q681 : x31_3 < (x670000_1.length : Int) := odT zA_
        obtain ⟨ad681,e681,hx681_0⟩ := Kd.at_int (Kd.R_reads' HO_670000.out).2.2 x31_3 p681 q681
        cases e681
        replace p681 := eq_true p681
        replace q681 := eq_true q681
        have p682 : 0 ≤ (x21_2 : Int) := odT zA_
        have q682 : x21_2 < (x670000_1.length : Int) := odT zA_
        obtain ⟨ad682,e682,hx682_0⟩ := Kd.at_int (Kd.R_reads' HO_670000.out).2.2 x21_2 p682 q682
        obtain rfl : ad681 = ad682 := (by injection e682)
        replace p682 := eq_true p682
        replace q682 := eq_true q682
        refine start_ (n := 31) (S := fun w' => w'.cell? ⟨gb669,0,none⟩ = some (.slice (some ad681) x670000_1.length co69) ∧ w'.cell? (ad681.add (x31_3).toNat) = some (.int .i64 (rd x670000_1 x31_3)) ∧ w'.cell? (ad681.add (x21_2).toNat) = some (.int .i64 (rd x670000_1 x21_2))) (ds := []) (bl_ 0 31) (by kernel_rfl) rfl rfl ⟨(bkC BK669.out 0).trans rfl,hx681_0,hx682_0⟩ (fun hHeld => ?_);refine with_tabW impl_classes.tab12 impl_classes.bits12 (fun HT_ HW_ => ?_)
        generalize w67.drew = w68 at HO_4 HO_670000 BK669 BK674 BK680 HB hx681_0 hx682_0 hHeld ⊢
        refine pQ 1 37 (bl_ 2 31) HT_ rfl ?_
        refine pQ 5 41 (bl_ 34 31) HT_ rfl ?_
        refine tP 0 36 (bl_ 35 31) ?_ HT_ HW_ rfl (.inl ⟨by rfl,?_⟩) hHeld ?_ ?_ ?_;rotate_left;(rintro w' ⟨s0,s1,s2⟩;go_simp;with_reducible rfl);rotate_left;(simp only [Act.put,sq_,i64_w,i32_w];rfl)
        refine pQ 2 38 (bl_ 39 31) HT_ rfl ?_
        refine tP 3 39 (bl_ 47 31) ?_ HT_ HW_ rfl (.inl ⟨by rfl,?_⟩) hHeld ?_ ?_ ?_;rotate_left;(rintro w' ⟨s0,s1,s2⟩;go_simp;with_reducible rfl);rotate_left;(simp only [Act.put,sq_,i64_w,i32_w];rfl)
        refine tP 4 40 (bl_ 63 31) ?_ HT_ HW_ rfl (.inl ⟨by rfl,?_⟩) hHeld ?_ ?_ ?_;rotate_left;(rintro w' ⟨s0,s1,s2⟩;go_simp;with_reducible rfl);rotate_left;(simp only [Act.put,sq_,i64_w,i32_w];rfl)
        refine pQ 6 42 (bl_ 127 31) HT_ rfl ?_
        refine tP 7 43 (bl_ 255 31) ?_ HT_ HW_ rfl (.inl ⟨by rfl,?_⟩) hHeld ?_ ?_ ?_;rotate_left;(rintro w' ⟨s0,s1,s2⟩;go_simp;with_reducible rfl);rotate_left;(simp only [Act.put,sq_,i64_w,i32_w];rfl)
        refine pQ 8 44 (bl_ 511 31) HT_ rfl ?_
        refine pQ 9 45 (bl_ 1023 31) HT_ rfl ?_
        refine uP 10 46 (bl_ 2047 31) ?_ HT_ rfl (.inr ⟨by rfl,rfl⟩) ?_ ?_;rotate_left;(simp only [Act.put,sq_,i64_w,i32_w];rfl)
        refine uP 11 47 (bl_ 4095 31) ?_ HT_ rfl (.inr ⟨by rfl,rfl⟩) ?_ ?_;rotate_left;(simp only [Act.put,sq_,i64_w,i32_w];rfl)
        refine uP 12 48 (bl_ 8191 31) ?_ HT_ rfl (.inr ⟨by rfl,rfl⟩) ?_ ?_;rotate_left;(simp only [Act.put,sq_,i64_w,i32_w];rfl)
        refine uP 13 49 (bl_ 16383 31) ?_ HT_ rfl (.inr ⟨by rfl,rfl⟩) ?_ ?_;rotate_left;(simp only [Act.put,sq_,i64_w,i32_w];rfl)
        refine uP 14 50 (bl_ 32767 31) ?_ HT_ rfl (.inr ⟨by rfl,rfl⟩) ?_ ?_;rotate_left;(simp only [Act.put,sq_,i64_w,i32_w];rfl)
        refine pQ 15 51 (bl_ 65535 31) HT_ rfl ?_
        refine pQ 16 52 (bl_ 131071 31) HT_ rfl ?_
        refine uP 17 53 (bl_ 262143 31) ?_ HT_ rfl (.inr ⟨by rfl,rfl⟩) ?_ ?_;rotate_left;(simp only [Act.put,sq_,i64_w,i32_w];rfl)
        refine uP 18 54 (bl_ 524287 31) ?_ HT_ rfl (.inr ⟨by rfl,rfl⟩) ?_ ?_;rotate_left;(simp only [Act.put,sq_,i64_w,i32_w];rfl)
        refine uP 19 55 (bl_ 1048575 31) ?_ HT_ rfl (.inr ⟨by rfl,rfl⟩) ?_ ?_;rotate_left;(simp only [Act.put,sq_,i64_w,i32_w];rfl)
        refine uP 20 56 (bl_ 2097151 31) ?_ HT_ rfl (.inr ⟨by rfl,rfl⟩) ?_ ?_;rotate_left;(simp only [Act.put,sq_,i64_w,i32_w];rfl)
        refine uP 21 57 (bl_ 4194303 31) ?_ HT_ rfl (.inr ⟨by rfl,rfl⟩) ?_ ?_;rotate_left;(simp only [Act.put,sq_,i64_w,i32_w];rfl)
        refine pQ 22 58 (bl_ 8388607 31) HT_ rfl ?_
        refine pQ 23 59 (bl_ 16777215 31) HT_ rfl ?_
        refine uP 24 60 (bl_ 33554431 31) ?_ HT_ rfl (.inr ⟨by rfl,rfl⟩) ?_ ?_;rotate_left;(simp only [Act.put,sq_,i64_w,i32_w];rfl)
        refine uP 25 61 (bl_ 67108863 31) ?_ HT_ rfl (.inr ⟨by rfl,rfl⟩) ?_ ?_;rotate_left;(simp only [Act.put,sq_,i64_w,i32_w];rfl)
        refine uP 26 62 (bl_ 134217727 31) ?_ HT_ rfl (.inr ⟨by rfl,rfl⟩) ?_ ?_;rotate_left;(simp only [Act.put,sq_,i64_w,i32_w];rfl)
        refine uP 27 63 (bl_ 268435455 31) ?_ HT_ rfl (.inr ⟨by rfl,rfl⟩) ?_ ?_;rotate_left;(simp only [Act.put,sq_,i64_w,i32_w];rfl)
        refine uP 28 64 (bl_ 536870911 31) ?_ HT_ rfl (.inr ⟨by rfl,rfl⟩) ?_ ?_;rotate_left;(simp only [Act.put,sq_,i64_w,i32_w];rfl)
        refine uP 29 65 (bl_ 1073741823 31) ?_ HT_ rfl (.inr ⟨by rfl,rfl⟩) ?_ ?_;rotate_left;(simp only [Act.put,sq_,i64_w,i32_w];rfl)
        refine pQ 30 66 (bl_ 2147483647 31) HT_ rfl ?_
        refine done_ (done_of HT_.out (by kernel_rfl)) ?_
        try go_wp2
        go_roundg k3
        case measure => have := HK1.out;have := HK2.out;have := HK3.out;omega
        case rel => exact ⟨(x7_3),(wrap64 (x31_3 + 1)),zT_,zT_,H',⟨by have := HK1.out;have := HK2.out;have := HK3.out;omega⟩,⟨by (with_reducible repeat (first|apply Kd.R_alloc|apply Kd.R_drewN|apply Kd.R_drew));exact HO_4.out⟩,⟨by (with_reducible repeat (first|apply Kd.R_alloc|apply Kd.R_drewN|apply Kd.R_drew));exact HO_670000.out⟩,⟨by (with_reducible repeat first|apply bkN|apply bkD|apply bkA);exact BK669.out⟩,⟨by (with_reducible repeat first|apply bkN|apply bkD|apply bkA);exact BK674.out⟩,⟨zb3 HB.out GE669.out GE674.out GE680.out⟩⟩
       rw [if_pos c28] at H
       have c28b0 : ((rd x670000_1 x31_3) == (rd x670000_1 x21_2)) = true := beq_iff_eq.mpr c28
       have c28b1 : ((rd x670000_1 x31_3) != (rd x670000_1 x21_2)) = false := bne_eq_false_iff_eq.mpr c28
       clear c28
       by_cases c29 : ((rd_T58 l0 x21_2).f0) = ((rd_T58 y675 x31_3).f0)
       rotate_left
       ·rw [if_neg c29] at H
        have c29b0 : (((rd_T58 l0 x21_2).f0) == ((rd_T58 y675 x31_3).f0)) = false := beq_eq_false_iff_ne.mpr c29
        have c29b1 : (((rd_T58 l0 x21_2).f0) != ((rd_T58 y675 x31_3).f0)) = true := bne_iff_ne.mpr c29
        have H' := As_ H
        clear H
        have p679 : 0 ≤ (x31_3 : Int) := odT zA_
        have q679 : x31_3 < (y675.length : Int) := odT zA_
        obtain ⟨ad679,A679_2,c679_2,e679,hx679_0,hx679_1,hx679_2,hl679_2,hi679_2⟩ := at_T58 HR678.out x31_3 p679 q679
        obtain rfl : ad673 = ad679 := (by injection e679)
        replace hx679_0 := bwC HB.out hx679_0
        replace hx679_1 := bwC HB.out hx679_1
        replace hx679_2 := bwC HB.out hx679_2
        have HR679_2 := As_ hi679_2
        have HC679_2 := As_ hl679_2
        clear hi679_2 hl679_2
        replace p679 := eq_true p679
        replace q679 := eq_true q679
        try go_wp2_with (first|((with_reducible refine gate_dst (N := 9) rfl ?_);refine box_event ?hg (N := 9) ?hd (cs := #[.int .i64 0,.int .i64 0,.slice none 0 0]) (t := 58) ?hr ?_;(case hd => rfl);(case hg => rfl);(case hr => go_simp <;> rfl);intro gb680 hg w56 hbox hb;have n0_ := As_ (Kd.R_below (zR_ HO_4.out) hb);have n1_ := As_ (Kd.R_below (zR_ HO_670000.out) hb);have n2_ := As_ (zkb BK669.out hb);have n3_ := As_ (zkb BK674.out hb);have n4_ := As_ (bwT (zb2 HB.out GE669.out GE674.out) hb);have n5_ := As_ (hbox);have n6_ := As_ ((by rw [hg];exact (bwZ (zb2 HB.out GE669.out GE674.out)) : w.heap.size ≤ gb680));have n7_ := As_ ((by rw [hg];exact (bwZ (zb2 HB.out GE669.out GE674.out)) : w.heap.size ≤ gb680));have n8_ := As_ ((by rw [hg];exact Nat.ne_of_lt (zkl BK669.out) : gb669 ≠ gb680));have n9_ := As_ ((by rw [hg];exact Nat.ne_of_gt (zkl BK669.out) : gb680 ≠ gb669));have n10_ := As_ ((by rw [hg];exact Nat.ne_of_lt (zkl BK674.out) : gb674 ≠ gb680));have n11_ := As_ ((by rw [hg];exact Nat.ne_of_gt (zkl BK674.out) : gb680 ≠ gb674));clear HO_4 HO_670000 BK669 BK674 HB;revert n0_ n1_ n2_ n3_ n4_ n5_ n6_ n7_ n8_ n9_ n10_ n11_;intro HO_4 HO_670000 BK669 BK674 HB BK680 GW680 GE680 NB669_680 NB680_669 NB674_680 NB680_674;clear hb hbox hg;have hnb57 := NB680_669.out;have hnc57 := NB669_680.out;have hnb58 := NB680_674.out;have hnc58 := NB674_680.out;obtain ⟨hcz59_0,hcz59_1,hcz59_2,hfz59_0,hfz59_1,hfz59_2⟩ := bk3 BK680.out))
        have n0_ : Aside0 (Kd.R (Kd.int .i64) 3 (((w56.setCell ⟨gb680,0,none⟩ (.int .i64 ((rd_T58 y675 x31_3).f0))).setCell ⟨gb680,1,none⟩ (.int .i64 ((rd_T58 y675 x31_3).f1))).setCell ⟨gb680,2,none⟩ (.slice A679_2 ((rd_T58 y675 x31_3).f2).length c679_2)) w.heap.size (fun k_ => some k_ ≠ (u670000 : Value).ownBlock) u4 x4_2) := ⟨by (with_reducible repeat (first|apply Kd.R_alloc|apply Kd.R_drewN|apply Kd.R_drew));exact Kd.R_mono (Kd.R_far (p := ⟨gb680,2,none⟩) (Kd.R_far (p := ⟨gb680,1,none⟩) (Kd.R_far (p := ⟨gb680,0,none⟩) (Kd.R_types HO_4.out BK680.out (by decide)) (fun _ hk => hk.2) (.int .i64 ((rd_T58 y675 x31_3).f0))) (fun _ hk => hk.2) (.int .i64 ((rd_T58 y675 x31_3).f1))) (fun _ hk => hk.2) (.slice A679_2 ((rd_T58 y675 x31_3).f2).length c679_2)) (fun _ hk => hk.1)⟩
        have n1_ : Aside0 (Kd.R (Kd.int .i64) 3 (((w56.setCell ⟨gb680,0,none⟩ (.int .i64 ((rd_T58 y675 x31_3).f0))).setCell ⟨gb680,1,none⟩ (.int .i64 ((rd_T58 y675 x31_3).f1))).setCell ⟨gb680,2,none⟩ (.slice A679_2 ((rd_T58 y675 x31_3).f2).length c679_2)) w.heap.size (fun k_ => some k_ ≠ (u4 : Value).ownBlock) u670000 x670000_1) := ⟨by (with_reducible repeat (first|apply Kd.R_alloc|apply Kd.R_drewN|apply Kd.R_drew));exact Kd.R_mono (Kd.R_far (p := ⟨gb680,2,none⟩) (Kd.R_far (p := ⟨gb680,1,none⟩) (Kd.R_far (p := ⟨gb680,0,none⟩) (Kd.R_types HO_670000.out BK680.out (by decide)) (fun _ hk => hk.2) (.int .i64 ((rd_T58 y675 x31_3).f0))) (fun _ hk => hk.2) (.int .i64 ((rd_T58 y675 x31_3).f1))) (fun _ hk => hk.2) (.slice A679_2 ((rd_T58 y675 x31_3).f2).length c679_2)) (fun _ hk => hk.1)⟩
        have n2_ : Aside0 ((((w56.setCell ⟨gb680,0,none⟩ (.int .i64 ((rd_T58 y675 x31_3).f0))).setCell ⟨gb680,1,none⟩ (.int .i64 ((rd_T58 y675 x31_3).f1))).setCell ⟨gb680,2,none⟩ (.slice A679_2 ((rd_T58 y675 x31_3).f2).length c679_2)).heap[gb669]? = some (.cells #[u670000] 26 (0,0))) := ⟨by (with_reducible repeat first|apply bkN|apply bkD|apply bkA);refine blk_far ?_ NB669_680.out _;(with_reducible repeat first|apply bkN|apply bkD|apply bkA);refine blk_far ?_ NB669_680.out _;(with_reducible repeat first|apply bkN|apply bkD|apply bkA);refine blk_far ?_ NB669_680.out _;(with_reducible repeat first|apply bkN|apply bkD|apply bkA);exact BK669.out⟩
        have n3_ : Aside0 ((((w56.setCell ⟨gb680,0,none⟩ (.int .i64 ((rd_T58 y675 x31_3).f0))).setCell ⟨gb680,1,none⟩ (.int .i64 ((rd_T58 y675 x31_3).f1))).setCell ⟨gb680,2,none⟩ (.slice A679_2 ((rd_T58 y675 x31_3).f2).length c679_2)).heap[gb674]? = some (.cells #[.int .i64 ((rd_T58 l0 x21_2).f0),.int .i64 ((rd_T58 l0 x21_2).f1),.slice A673_2 ((rd_T58 l0 x21_2).f2).length c673_2] 58 (0,0))) := ⟨by (with_reducible repeat first|apply bkN|apply bkD|apply bkA);refine blk_far ?_ NB674_680.out _;(with_reducible repeat first|apply bkN|apply bkD|apply bkA);refine blk_far ?_ NB674_680.out _;(with_reducible repeat first|apply bkN|apply bkD|apply bkA);refine blk_far ?_ NB674_680.out _;(with_reducible repeat first|apply bkN|apply bkD|apply bkA);exact BK674.out⟩
        have n4_ : Aside0 ((((w56.setCell ⟨gb680,0,none⟩ (.int .i64 ((rd_T58 y675 x31_3).f0))).setCell ⟨gb680,1,none⟩ (.int .i64 ((rd_T58 y675 x31_3).f1))).setCell ⟨gb680,2,none⟩ (.slice A679_2 ((rd_T58 y675 x31_3).f2).length c679_2)).heap[gb680]? = some (.cells #[.int .i64 ((rd_T58 y675 x31_3).f0),.int .i64 ((rd_T58 y675 x31_3).f1),.slice A679_2 ((rd_T58 y675 x31_3).f2).length c679_2] 58 (0,0))) := ⟨by (with_reducible repeat first|apply bkN|apply bkD|apply bkA);refine blk_put (cs := #[.int .i64 ((rd_T58 y675 x31_3).f0),.int .i64 ((rd_T58 y675 x31_3).f1),.slice none 0 0]) ?_ 2 _ rfl;(with_reducible repeat first|apply bkN|apply bkD|apply bkA);refine blk_put (cs := #[.int .i64 ((rd_T58 y675 x31_3).f0),.int .i64 0,.slice none 0 0]) ?_ 1 _ rfl;(with_reducible repeat first|apply bkN|apply bkD|apply bkA);refine blk_put (cs := #[.int .i64 0,.int .i64 0,.slice none 0 0]) ?_ 0 _ rfl;(with_reducible repeat first|apply bkN|apply bkD|apply bkA);exact BK680.out⟩
        have n5_ : Aside0 (Below w.heap.size w (((w56.setCell ⟨gb680,0,none⟩ (.int .i64 ((rd_T58 y675 x31_3).f0))).setCell ⟨gb680,1,none⟩ (.int .i64 ((rd_T58 y675 x31_3).f1))).setCell ⟨gb680,2,none⟩ (.slice A679_2 ((rd_T58 y675 x31_3).f2).length c679_2))) := ⟨zb3 HB.out GE669.out GE674.out GE680.out⟩
        generalize (((w56.setCell ⟨gb680,0,none⟩ (.int .i64 ((rd_T58 y675 x31_3).f0))).setCell ⟨gb680,1,none⟩ (.int .i64 ((rd_T58 y675 x31_3).f1))).setCell ⟨gb680,2,none⟩ (.slice A679_2 ((rd_T58 y675 x31_3).f2).length c679_2)) = w60 at n0_ n1_ n2_ n3_ n4_ n5_ ⊢
        revert n0_ n1_ n2_ n3_ n4_ n5_;intro HO_4 HO_670000 BK669 BK674 BK680 HB
        have n0_ := As_ (Kd.R_drew HO_4.out)
        have n1_ := As_ (Kd.R_drew HO_670000.out)
        have n2_ := As_ (bkD BK669.out)
        have n3_ := As_ (bkD BK674.out)
        have n4_ := As_ (bkD BK680.out)
        have n5_ := As_ (bwD HB.out)
        clear HO_4 HO_670000 BK669 BK674 BK680 HB
        revert n0_ n1_ n2_ n3_ n4_ n5_;intro HO_4 HO_670000 BK669 BK674 BK680 HB
        obtain ⟨Ao62,co62,eo62⟩ := Kd.R_slice HO_670000.out
        (first|subst eo62|(injection eo62 with f1_ f2_ f3_;have f4_ := f1_.symm;have f5_ := f3_.symm;clear f1_ f2_ f3_;subst f4_;subst f5_))
        have p681 : 0 ≤ (x31_3 : Int) := odT zA_
        have q681 : x31_3 < (x670000_1.length : Int) := odT zA_
        obtain ⟨ad681,e681,hx681_0⟩ := Kd.at_int (Kd.R_reads' HO_670000.out).2.2 x31_3 p681 q681
        cases e681
        replace p681 := eq_true p681
        replace q681 := eq_true q681
        have p682 : 0 ≤ (x21_2 : Int) := odT zA_
        have q682 : x21_2 < (x670000_1.length : Int) := odT zA_
        obtain ⟨ad682,e682,hx682_0⟩ := Kd.at_int (Kd.R_reads' HO_670000.out).2.2 x21_2 p682 q682
        obtain rfl : ad681 = ad682 := (by injection e682)
        replace p682 := eq_true p682
        replace q682 := eq_true q682
        refine start_ (n := 31) (S := fun w' => w'.cell? ⟨gb669,0,none⟩ = some (.slice (some ad681) x670000_1.length co62) ∧ w'.cell? ⟨gb674,0,none⟩ = some (.int .i64 ((rd_T58 l0 x21_2).f0)) ∧ w'.cell? ⟨gb674,1,none⟩ = some (.int .i64 ((rd_T58 l0 x21_2).f1)) ∧ w'.cell? ⟨gb674,2,none⟩ = some (.slice A673_2 ((rd_T58 l0 x21_2).f2).length c673_2) ∧ w'.cell? ⟨gb680,0,none⟩ = some (.int .i64 ((rd_T58 y675 x31_3).f0)) ∧ w'.cell? ⟨gb680,1,none⟩ = some (.int .i64 ((rd_T58 y675 x31_3).f1)) ∧ w'.cell? ⟨gb680,2,none⟩ = some (.slice A679_2 ((rd_T58 y675 x31_3).f2).length c679_2) ∧ w'.cell? (ad681.add (x31_3).toNat) = some (.int .i64 (rd x670000_1 x31_3)) ∧ w'.cell? (ad681.add (x21_2).toNat) = some (.int .i64 (rd x670000_1 x21_2))) (ds := []) (bl_ 0 31) (by kernel_rfl) rfl rfl ⟨(bkC BK669.out 0).trans rfl,(bkC BK674.out 0).trans rfl,(bkC BK674.out 1).trans rfl,(bkC BK674.out 2).trans rfl,(bkC BK680.out 0).trans rfl,(bkC BK680.out 1).trans rfl,(bkC BK680.out 2).trans rfl,hx681_0,hx682_0⟩ (fun hHeld => ?_);refine with_tabW impl_classes.tab12 impl_classes.bits12 (fun HT_ HW_ => ?_)
        generalize w60.drew = w61 at HO_4 HO_670000 BK669 BK674 BK680 HB hx681_0 hx682_0 hHeld ⊢
        refine pQ 1 37 (bl_ 2 31) HT_ rfl ?_
        refine pQ 5 41 (bl_ 34 31) HT_ rfl ?_
        refine tP 0 36 (bl_ 35 31) ?_ HT_ HW_ rfl (.inl ⟨by rfl,?_⟩) hHeld ?_ ?_ ?_;rotate_left;(rintro w' ⟨s0,s1,s2,s3,s4,s5,s6,s7,s8⟩;go_simp;with_reducible rfl);rotate_left;(simp only [Act.put,sq_,i64_w,i32_w];rfl)
        refine pQ 2 38 (bl_ 39 31) HT_ rfl ?_
        refine tP 3 39 (bl_ 47 31) ?_ HT_ HW_ rfl (.inl ⟨by rfl,?_⟩) hHeld ?_ ?_ ?_;rotate_left;(rintro w' ⟨s0,s1,s2,s3,s4,s5,s6,s7,s8⟩;go_simp;with_reducible rfl);rotate_left;(simp only [Act.put,sq_,i64_w,i32_w];rfl)
        refine tP 4 40 (bl_ 63 31) ?_ HT_ HW_ rfl (.inl ⟨by rfl,?_⟩) hHeld ?_ ?_ ?_;rotate_left;(rintro w' ⟨s0,s1,s2,s3,s4,s5,s6,s7,s8⟩;go_simp;with_reducible rfl);rotate_left;(simp only [Act.put,sq_,i64_w,i32_w];rfl)
        refine pQ 6 42 (bl_ 127 31) HT_ rfl ?_
        refine tP 7 43 (bl_ 255 31) ?_ HT_ HW_ rfl (.inl ⟨by rfl,?_⟩) hHeld ?_ ?_ ?_;rotate_left;(rintro w' ⟨s0,s1,s2,s3,s4,s5,s6,s7,s8⟩;go_simp;with_reducible rfl);rotate_left;(simp only [Act.put,sq_,i64_w,i32_w];rfl)
        refine pQ 8 44 (bl_ 511 31) HT_ rfl ?_
        refine pQ 9 45 (bl_ 1023 31) HT_ rfl ?_
        refine pQ 10 46 (bl_ 2047 31) HT_ rfl ?_
        refine pQ 12 48 (bl_ 6143 31) HT_ rfl ?_
        refine tP 11 47 (bl_ 8191 31) ?_ HT_ HW_ rfl (.inl ⟨by rfl,?_⟩) hHeld ?_ ?_ ?_;rotate_left;(rintro w' ⟨s0,s1,s2,s3,s4,s5,s6,s7,s8⟩;go_simp;with_reducible rfl);rotate_left;(simp only [Act.put,sq_,i64_w,i32_w];rfl)
        refine tP 13 49 (bl_ 16383 31) ?_ HT_ HW_ rfl (.inl ⟨by rfl,?_⟩) hHeld ?_ ?_ ?_;rotate_left;(rintro w' ⟨s0,s1,s2,s3,s4,s5,s6,s7,s8⟩;go_simp;with_reducible rfl);rotate_left;(simp only [Act.put,sq_,i64_w,i32_w];rfl)
        refine pQ 14 50 (bl_ 32767 31) HT_ rfl ?_
        refine pQ 15 51 (bl_ 65535 31) HT_ rfl ?_
        refine pQ 16 52 (bl_ 131071 31) HT_ rfl ?_
        refine uP 17 53 (bl_ 262143 31) ?_ HT_ rfl (.inr ⟨by rfl,rfl⟩) ?_ ?_;rotate_left;(simp only [Act.put,sq_,i64_w,i32_w];rfl)
        refine uP 18 54 (bl_ 524287 31) ?_ HT_ rfl (.inr ⟨by rfl,rfl⟩) ?_ ?_;rotate_left;(simp only [Act.put,sq_,i64_w,i32_w];rfl)
        refine uP 19 55 (bl_ 1048575 31) ?_ HT_ rfl (.inr ⟨by rfl,rfl⟩) ?_ ?_;rotate_left;(simp only [Act.put,sq_,i64_w,i32_w];rfl)
        refine uP 20 56 (bl_ 2097151 31) ?_ HT_ rfl (.inr ⟨by rfl,rfl⟩) ?_ ?_;rotate_left;(simp only [Act.put,sq_,i64_w,i32_w];rfl)
        refine uP 21 57 (bl_ 4194303 31) ?_ HT_ rfl (.inr ⟨by rfl,rfl⟩) ?_ ?_;rotate_left;(simp only [Act.put,sq_,i64_w,i32_w];rfl)
        refine pQ 22 58 (bl_ 8388607 31) HT_ rfl ?_
        refine pQ 23 59 (bl_ 16777215 31) HT_ rfl ?_
        refine uP 24 60 (bl_ 33554431 31) ?_ HT_ rfl (.inr ⟨by rfl,rfl⟩) ?_ ?_;rotate_left;(simp only [Act.put,sq_,i64_w,i32_w];rfl)
        refine uP 25 61 (bl_ 67108863 31) ?_ HT_ rfl (.inr ⟨by rfl,rfl⟩) ?_ ?_;rotate_left;(simp only [Act.put,sq_,i64_w,i32_w];rfl)
        refine uP 26 62 (bl_ 134217727 31) ?_ HT_ rfl (.inr ⟨by rfl,rfl⟩) ?_ ?_;rotate_left;(simp only [Act.put,sq_,i64_w,i32_w];rfl)
        refine uP 27 63 (bl_ 268435455 31) ?_ HT_ rfl (.inr ⟨by rfl,rfl⟩) ?_ ?_;rotate_left;(simp only [Act.put,sq_,i64_w,i32_w];rfl)
        refine uP 28 64 (bl_ 536870911 31) ?_ HT_ rfl (.inr ⟨by rfl,rfl⟩) ?_ ?_;rotate_left;(simp only [Act.put,sq_,i64_w,i32_w];rfl)
        refine uP 29 65 (bl_ 1073741823 31) ?_ HT_ rfl (.inr ⟨by rfl,rfl⟩) ?_ ?_;rotate_left;(simp only [Act.put,sq_,i64_w,i32_w];rfl)
        refine pQ 30 66 (bl_ 2147483647 31) HT_ rfl ?_
        refine done_ (done_of HT_.out (by kernel_rfl)) ?_
        try go_wp2
        go_roundg k3
        case measure => have := HK1.out;have := HK2.out;have := HK3.out;omega
        case rel => exact ⟨(x7_3),(wrap64 (x31_3 + 1)),zT_,zT_,H',⟨by have := HK1.out;have := HK2.out;have := HK3.out;omega⟩,⟨by (with_reducible repeat (first|apply Kd.R_alloc|apply Kd.R_drewN|apply Kd.R_drew));exact HO_4.out⟩,⟨by (with_reducible repeat (first|apply Kd.R_alloc|apply Kd.R_drewN|apply Kd.R_drew));exact HO_670000.out⟩,⟨by (with_reducible repeat first|apply bkN|apply bkD|apply bkA);exact BK669.out⟩,⟨by (with_reducible repeat first|apply bkN|apply bkD|apply bkA);exact BK674.out⟩,⟨zb3 HB.out GE669.out GE674.out GE680.out⟩⟩
       rw [if_pos c29] at H
       have c29b0 : (((rd_T58 l0 x21_2).f0) == ((rd_T58 y675 x31_3).f0)) = true := beq_iff_eq.mpr c29
       have c29b1 : (((rd_T58 l0 x21_2).f0) != ((rd_T58 y675 x31_3).f0)) = false := bne_eq_false_iff_eq.mpr c29
       clear c29
       by_cases c30 : ((rd_T58 l0 x21_2).f1) = ((rd_T58 y675 x31_3).f1)
       rotate_left
       ·rw [if_neg c30] at H
        have c30b0 : (((rd_T58 l0 x21_2).f1) == ((rd_T58 y675 x31_3).f1)) = false := beq_eq_false_iff_ne.mpr c30
        have c30b1 : (((rd_T58 l0 x21_2).f1) != ((rd_T58 y675 x31_3).f1)) = true := bne_iff_ne.mpr c30
        have H' := As_ H
        clear H
        have p679 : 0 ≤ (x31_3 : Int) := odT zA_
        have q679 : x31_3 < (y675.length : Int) := odT zA_
        obtain ⟨ad679,A679_2,c679_2,e679,hx679_0,hx679_1,hx679_2,hl679_2,hi679_2⟩ := at_T58 HR678.out x31_3 p679 q679
        obtain rfl : ad673 = ad679 := (by injection e679)
        replace hx679_0 := bwC HB.out hx679_0
        replace hx679_1 := bwC HB.out hx679_1
        replace hx679_2 := bwC HB.out hx679_2
        have HR679_2 := As_ hi679_2
        have HC679_2 := As_ hl679_2
        clear hi679_2 hl679_2
        replace p679 := eq_true p679
        replace q679 := eq_true q679
        try go_wp2_with (first|((with_reducible refine gate_dst (N := 9) rfl ?_);refine box_event ?hg (N := 9) ?hd (cs := #[.int .i64 0,.int .i64 0,.slice none 0 0]) (t := 58) ?hr ?_;(case hd => rfl);(case hg => rfl);(case hr => go_simp <;> rfl);intro gb680 hg w49 hbox hb;have n0_ := As_ (Kd.R_below (zR_ HO_4.out) hb);have n1_ := As_ (Kd.R_below (zR_ HO_670000.out) hb);have n2_ := As_ (zkb BK669.out hb);have n3_ := As_ (zkb BK674.out hb);have n4_ := As_ (bwT (zb2 HB.out GE669.out GE674.out) hb);have n5_ := As_ (hbox);have n6_ := As_ ((by rw [hg];exact (bwZ (zb2 HB.out GE669.out GE674.out)) : w.heap.size ≤ gb680));have n7_ := As_ ((by rw [hg];exact (bwZ (zb2 HB.out GE669.out GE674.out)) : w.heap.size ≤ gb680));have n8_ := As_ ((by rw [hg];exact Nat.ne_of_lt (zkl BK669.out) : gb669 ≠ gb680));have n9_ := As_ ((by rw [hg];exact Nat.ne_of_gt (zkl BK669.out) : gb680 ≠ gb669));have n10_ := As_ ((by rw [hg];exact Nat.ne_of_lt (zkl BK674.out) : gb674 ≠ gb680));have n11_ := As_ ((by rw [hg];exact Nat.ne_of_gt (zkl BK674.out) : gb680 ≠ gb674));clear HO_4 HO_670000 BK669 BK674 HB;revert n0_ n1_ n2_ n3_ n4_ n5_ n6_ n7_ n8_ n9_ n10_ n11_;intro HO_4 HO_670000 BK669 BK674 HB BK680 GW680 GE680 NB669_680 NB680_669 NB674_680 NB680_674;clear hb hbox hg;have hnb50 := NB680_669.out;have hnc50 := NB669_680.out;have hnb51 := NB680_674.out;have hnc51 := NB674_680.out;obtain ⟨hcz52_0,hcz52_1,hcz52_2,hfz52_0,hfz52_1,hfz52_2⟩ := bk3 BK680.out))
        have n0_ : Aside0 (Kd.R (Kd.int .i64) 3 (((w49.setCell ⟨gb680,0,none⟩ (.int .i64 ((rd_T58 y675 x31_3).f0))).setCell ⟨gb680,1,none⟩ (.int .i64 ((rd_T58 y675 x31_3).f1))).setCell ⟨gb680,2,none⟩ (.slice A679_2 ((rd_T58 y675 x31_3).f2).length c679_2)) w.heap.size (fun k_ => some k_ ≠ (u670000 : Value).ownBlock) u4 x4_2) := ⟨by (with_reducible repeat (first|apply Kd.R_alloc|apply Kd.R_drewN|apply Kd.R_drew));exact Kd.R_mono (Kd.R_far (p := ⟨gb680,2,none⟩) (Kd.R_far (p := ⟨gb680,1,none⟩) (Kd.R_far (p := ⟨gb680,0,none⟩) (Kd.R_types HO_4.out BK680.out (by decide)) (fun _ hk => hk.2) (.int .i64 ((rd_T58 y675 x31_3).f0))) (fun _ hk => hk.2) (.int .i64 ((rd_T58 y675 x31_3).f1))) (fun _ hk => hk.2) (.slice A679_2 ((rd_T58 y675 x31_3).f2).length c679_2)) (fun _ hk => hk.1)⟩
        have n1_ : Aside0 (Kd.R (Kd.int .i64) 3 (((w49.setCell ⟨gb680,0,none⟩ (.int .i64 ((rd_T58 y675 x31_3).f0))).setCell ⟨gb680,1,none⟩ (.int .i64 ((rd_T58 y675 x31_3).f1))).setCell ⟨gb680,2,none⟩ (.slice A679_2 ((rd_T58 y675 x31_3).f2).length c679_2)) w.heap.size (fun k_ => some k_ ≠ (u4 : Value).ownBlock) u670000 x670000_1) := ⟨by (with_reducible repeat (first|apply Kd.R_alloc|apply Kd.R_drewN|apply Kd.R_drew));exact Kd.R_mono (Kd.R_far (p := ⟨gb680,2,none⟩) (Kd.R_far (p := ⟨gb680,1,none⟩) (Kd.R_far (p := ⟨gb680,0,none⟩) (Kd.R_types HO_670000.out BK680.out (by decide)) (fun _ hk => hk.2) (.int .i64 ((rd_T58 y675 x31_3).f0))) (fun _ hk => hk.2) (.int .i64 ((rd_T58 y675 x31_3).f1))) (fun _ hk => hk.2) (.slice A679_2 ((rd_T58 y675 x31_3).f2).length c679_2)) (fun _ hk => hk.1)⟩
        have n2_ : Aside0 ((((w49.setCell ⟨gb680,0,none⟩ (.int .i64 ((rd_T58 y675 x31_3).f0))).setCell ⟨gb680,1,none⟩ (.int .i64 ((rd_T58 y675 x31_3).f1))).setCell ⟨gb680,2,none⟩ (.slice A679_2 ((rd_T58 y675 x31_3).f2).length c679_2)).heap[gb669]? = some (.cells #[u670000] 26 (0,0))) := ⟨by (with_reducible repeat first|apply bkN|apply bkD|apply bkA);refine blk_far ?_ NB669_680.out _;(with_reducible repeat first|apply bkN|apply bkD|apply bkA);refine blk_far ?_ NB669_680.out _;(with_reducible repeat first|apply bkN|apply bkD|apply bkA);refine blk_far ?_ NB669_680.out _;(with_reducible repeat first|apply bkN|apply bkD|apply bkA);exact BK669.out⟩
        have n3_ : Aside0 ((((w49.setCell ⟨gb680,0,none⟩ (.int .i64 ((rd_T58 y675 x31_3).f0))).setCell ⟨gb680,1,none⟩ (.int .i64 ((rd_T58 y675 x31_3).f1))).setCell ⟨gb680,2,none⟩ (.slice A679_2 ((rd_T58 y675 x31_3).f2).length c679_2)).heap[gb674]? = some (.cells #[.int .i64 ((rd_T58 l0 x21_2).f0),.int .i64 ((rd_T58 l0 x21_2).f1),.slice A673_2 ((rd_T58 l0 x21_2).f2).length c673_2] 58 (0,0))) := ⟨by (with_reducible repeat first|apply bkN|apply bkD|apply bkA);refine blk_far ?_ NB674_680.out _;(with_reducible repeat first|apply bkN|apply bkD|apply bkA);refine blk_far ?_ NB674_680.out _;(with_reducible repeat first|apply bkN|apply bkD|apply bkA);refine blk_far ?_ NB674_680.out _;(with_reducible repeat first|apply bkN|apply bkD|apply bkA);exact BK674.out⟩
        have n4_ : Aside0 ((((w49.setCell ⟨gb680,0,none⟩ (.int .i64 ((rd_T58 y675 x31_3).f0))).setCell ⟨gb680,1,none⟩ (.int .i64 ((rd_T58 y675 x31_3).f1))).setCell ⟨gb680,2,none⟩ (.slice A679_2 ((rd_T58 y675 x31_3).f2).length c679_2)).heap[gb680]? = some (.cells #[.int .i64 ((rd_T58 y675 x31_3).f0),.int .i64 ((rd_T58 y675 x31_3).f1),.slice A679_2 ((rd_T58 y675 x31_3).f2).length c679_2] 58 (0,0))) := ⟨by (with_reducible repeat first|apply bkN|apply bkD|apply bkA);refine blk_put (cs := #[.int .i64 ((rd_T58 y675 x31_3).f0),.int .i64 ((rd_T58 y675 x31_3).f1),.slice none 0 0]) ?_ 2 _ rfl;(with_reducible repeat first|apply bkN|apply bkD|apply bkA);refine blk_put (cs := #[.int .i64 ((rd_T58 y675 x31_3).f0),.int .i64 0,.slice none 0 0]) ?_ 1 _ rfl;(with_reducible repeat first|apply bkN|apply bkD|apply bkA);refine blk_put (cs := #[.int .i64 0,.int .i64 0,.slice none 0 0]) ?_ 0 _ rfl;(with_reducible repeat first|apply bkN|apply bkD|apply bkA);exact BK680.out⟩
        have n5_ : Aside0 (Below w.heap.size w (((w49.setCell ⟨gb680,0,none⟩ (.int .i64 ((rd_T58 y675 x31_3).f0))).setCell ⟨gb680,1,none⟩ (.int .i64 ((rd_T58 y675 x31_3).f1))).setCell ⟨gb680,2,none⟩ (.slice A679_2 ((rd_T58 y675 x31_3).f2).length c679_2))) := ⟨zb3 HB.out GE669.out GE674.out GE680.out⟩
        generalize (((w49.setCell ⟨gb680,0,none⟩ (.int .i64 ((rd_T58 y675 x31_3).f0))).setCell ⟨gb680,1,none⟩ (.int .i64 ((rd_T58 y675 x31_3).f1))).setCell ⟨gb680,2,none⟩ (.slice A679_2 ((rd_T58 y675 x31_3).f2).length c679_2)) = w53 at n0_ n1_ n2_ n3_ n4_ n5_ ⊢
        revert n0_ n1_ n2_ n3_ n4_ n5_;intro HO_4 HO_670000 BK669 BK674 BK680 HB
        have n0_ := As_ (Kd.R_drew HO_4.out)
        have n1_ := As_ (Kd.R_drew HO_670000.out)
        have n2_ := As_ (bkD BK669.out)
        have n3_ := As_ (bkD BK674.out)
        have n4_ := As_ (bkD BK680.out)
        have n5_ := As_ (bwD HB.out)
        clear HO_4 HO_670000 BK669 BK674 BK680 HB
        revert n0_ n1_ n2_ n3_ n4_ n5_;intro HO_4 HO_670000 BK669 BK674 BK680 HB
        obtain ⟨Ao55,co55,eo55⟩ := Kd.R_slice HO_670000.out
        (first|subst eo55|(injection eo55 with f1_ f2_ f3_;have f4_ := f1_.symm;have f5_ := f3_.symm;clear f1_ f2_ f3_;subst f4_;subst f5_))
        have p681 : 0 ≤ (x31_3 : Int) := odT zA_
        have q681 : x31_3 < (x670000_1.length : Int) := odT zA_
        obtain ⟨ad681,e681,hx681_0⟩ := Kd.at_int (Kd.R_reads' HO_670000.out).2.2 x31_3 p681 q681
        cases e681
        replace p681 := eq_true p681
        replace q681 := eq_true q681
        have p682 : 0 ≤ (x21_2 : Int) := odT zA_
        have q682 : x21_2 < (x670000_1.length : Int) := odT zA_
        obtain ⟨ad682,e682,hx682_0⟩ := Kd.at_int (Kd.R_reads' HO_670000.out).2.2 x21_2 p682 q682
        obtain rfl : ad681 = ad682 := (by injection e682)
        replace p682 := eq_true p682
        replace q682 := eq_true q682
        refine start_ (n := 31) (S := fun w' => w'.cell? ⟨gb669,0,none⟩ = some (.slice (some ad681) x670000_1.length co55) ∧ w'.cell? ⟨gb674,0,none⟩ = some (.int .i64 ((rd_T58 l0 x21_2).f0)) ∧ w'.cell? ⟨gb674,1,none⟩ = some (.int .i64 ((rd_T58 l0 x21_2).f1)) ∧ w'.cell? ⟨gb674,2,none⟩ = some (.slice A673_2 ((rd_T58 l0 x21_2).f2).length c673_2) ∧ w'.cell? ⟨gb680,0,none⟩ = some (.int .i64 ((rd_T58 y675 x31_3).f0)) ∧ w'.cell? ⟨gb680,1,none⟩ = some (.int .i64 ((rd_T58 y675 x31_3).f1)) ∧ w'.cell? ⟨gb680,2,none⟩ = some (.slice A679_2 ((rd_T58 y675 x31_3).f2).length c679_2) ∧ w'.cell? (ad681.add (x31_3).toNat) = some (.int .i64 (rd x670000_1 x31_3)) ∧ w'.cell? (ad681.add (x21_2).toNat) = some (.int .i64 (rd x670000_1 x21_2))) (ds := []) (bl_ 0 31) (by kernel_rfl) rfl rfl ⟨(bkC BK669.out 0).trans rfl,(bkC BK674.out 0).trans rfl,(bkC BK674.out 1).trans rfl,(bkC BK674.out 2).trans rfl,(bkC BK680.out 0).trans rfl,(bkC BK680.out 1).trans rfl,(bkC BK680.out 2).trans rfl,hx681_0,hx682_0⟩ (fun hHeld => ?_);refine with_tabW impl_classes.tab12 impl_classes.bits12 (fun HT_ HW_ => ?_)
        generalize w53.drew = w54 at HO_4 HO_670000 BK669 BK674 BK680 HB hx681_0 hx682_0 hHeld ⊢
        refine pQ 1 37 (bl_ 2 31) HT_ rfl ?_
        refine pQ 5 41 (bl_ 34 31) HT_ rfl ?_
        refine tP 0 36 (bl_ 35 31) ?_ HT_ HW_ rfl (.inl ⟨by rfl,?_⟩) hHeld ?_ ?_ ?_;rotate_left;(rintro w' ⟨s0,s1,s2,s3,s4,s5,s6,s7,s8⟩;go_simp;with_reducible rfl);rotate_left;(simp only [Act.put,sq_,i64_w,i32_w];rfl)
        refine pQ 2 38 (bl_ 39 31) HT_ rfl ?_
        refine tP 3 39 (bl_ 47 31) ?_ HT_ HW_ rfl (.inl ⟨by rfl,?_⟩) hHeld ?_ ?_ ?_;rotate_left;(rintro w' ⟨s0,s1,s2,s3,s4,s5,s6,s7,s8⟩;go_simp;with_reducible rfl);rotate_left;(simp only [Act.put,sq_,i64_w,i32_w];rfl)
        refine tP 4 40 (bl_ 63 31) ?_ HT_ HW_ rfl (.inl ⟨by rfl,?_⟩) hHeld ?_ ?_ ?_;rotate_left;(rintro w' ⟨s0,s1,s2,s3,s4,s5,s6,s7,s8⟩;go_simp;with_reducible rfl);rotate_left;(simp only [Act.put,sq_,i64_w,i32_w];rfl)
        refine pQ 6 42 (bl_ 127 31) HT_ rfl ?_
        refine tP 7 43 (bl_ 255 31) ?_ HT_ HW_ rfl (.inl ⟨by rfl,?_⟩) hHeld ?_ ?_ ?_;rotate_left;(rintro w' ⟨s0,s1,s2,s3,s4,s5,s6,s7,s8⟩;go_simp;with_reducible rfl);rotate_left;(simp only [Act.put,sq_,i64_w,i32_w];rfl)
        refine pQ 8 44 (bl_ 511 31) HT_ rfl ?_
        refine pQ 9 45 (bl_ 1023 31) HT_ rfl ?_
        refine pQ 10 46 (bl_ 2047 31) HT_ rfl ?_
        refine pQ 12 48 (bl_ 6143 31) HT_ rfl ?_
        refine tP 11 47 (bl_ 8191 31) ?_ HT_ HW_ rfl (.inl ⟨by rfl,?_⟩) hHeld ?_ ?_ ?_;rotate_left;(rintro w' ⟨s0,s1,s2,s3,s4,s5,s6,s7,s8⟩;go_simp;with_reducible rfl);rotate_left;(simp only [Act.put,sq_,i64_w,i32_w];rfl)
        refine tP 13 49 (bl_ 16383 31) ?_ HT_ HW_ rfl (.inl ⟨by rfl,?_⟩) hHeld ?_ ?_ ?_;rotate_left;(rintro w' ⟨s0,s1,s2,s3,s4,s5,s6,s7,s8⟩;go_simp;with_reducible rfl);rotate_left;(simp only [Act.put,sq_,i64_w,i32_w];rfl)
        refine pQ 14 50 (bl_ 32767 31) HT_ rfl ?_
        refine pQ 15 51 (bl_ 65535 31) HT_ rfl ?_
        refine pQ 16 52 (bl_ 131071 31) HT_ rfl ?_
        refine pQ 17 53 (bl_ 262143 31) HT_ rfl ?_
        refine pQ 19 55 (bl_ 786431 31) HT_ rfl ?_
        refine tP 18 54 (bl_ 1048575 31) ?_ HT_ HW_ rfl (.inl ⟨by rfl,?_⟩) hHeld ?_ ?_ ?_;rotate_left;(rintro w' ⟨s0,s1,s2,s3,s4,s5,s6,s7,s8⟩;go_simp;with_reducible rfl);rotate_left;(simp only [Act.put,sq_,i64_w,i32_w];rfl)
        refine tP 20 56 (bl_ 2097151 31) ?_ HT_ HW_ rfl (.inl ⟨by rfl,?_⟩) hHeld ?_ ?_ ?_;rotate_left;(rintro w' ⟨s0,s1,s2,s3,s4,s5,s6,s7,s8⟩;go_simp;with_reducible rfl);rotate_left;(simp only [Act.put,sq_,i64_w,i32_w];rfl)
        refine pQ 21 57 (bl_ 4194303 31) HT_ rfl ?_
        refine pQ 22 58 (bl_ 8388607 31) HT_ rfl ?_
        refine pQ 23 59 (bl_ 16777215 31) HT_ rfl ?_
        refine uP 24 60 (bl_ 33554431 31) ?_ HT_ rfl (.inr ⟨by rfl,rfl⟩) ?_ ?_;rotate_left;(simp only [Act.put,sq_,i64_w,i32_w];rfl)
        refine uP 25 61 (bl_ 67108863 31) ?_ HT_ rfl (.inr ⟨by rfl,rfl⟩) ?_ ?_;rotate_left;(simp only [Act.put,sq_,i64_w,i32_w];rfl)
        refine uP 26 62 (bl_ 134217727 31) ?_ HT_ rfl (.inr ⟨by rfl,rfl⟩) ?_ ?_;rotate_left;(simp only [Act.put,sq_,i64_w,i32_w];rfl)
        refine uP 27 63 (bl_ 268435455 31) ?_ HT_ rfl (.inr ⟨by rfl,rfl⟩) ?_ ?_;rotate_left;(simp only [Act.put,sq_,i64_w,i32_w];rfl)
        refine uP 28 64 (bl_ 536870911 31) ?_ HT_ rfl (.inr ⟨by rfl,rfl⟩) ?_ ?_;rotate_left;(simp only [Act.put,sq_,i64_w,i32_w];rfl)
        refine uP 29 65 (bl_ 1073741823 31) ?_ HT_ rfl (.inr ⟨by rfl,rfl⟩) ?_ ?_;rotate_left;(simp only [Act.put,sq_,i64_w,i32_w];rfl)
        refine pQ 30 66 (bl_ 2147483647 31) HT_ rfl ?_
        refine done_ (done_of HT_.out (by kernel_rfl)) ?_
        try go_wp2
        go_roundg k3
        case measure => have := HK1.out;have := HK2.out;have := HK3.out;omega
        case rel => exact ⟨(x7_3),(wrap64 (x31_3 + 1)),zT_,zT_,H',⟨by have := HK1.out;have := HK2.out;have := HK3.out;omega⟩,⟨by (with_reducible repeat (first|apply Kd.R_alloc|apply Kd.R_drewN|apply Kd.R_drew));exact HO_4.out⟩,⟨by (with_reducible repeat (first|apply Kd.R_alloc|apply Kd.R_drewN|apply Kd.R_drew));exact HO_670000.out⟩,⟨by (with_reducible repeat first|apply bkN|apply bkD|apply bkA);exact BK669.out⟩,⟨by (with_reducible repeat first|apply bkN|apply bkD|apply bkA);exact BK674.out⟩,⟨zb3 HB.out GE669.out GE674.out GE680.out⟩⟩
       rw [if_pos c30] at H
       have c30b0 : (((rd_T58 l0 x21_2).f1) == ((rd_T58 y675 x31_3).f1)) = true := beq_iff_eq.mpr c30
       have c30b1 : (((rd_T58 l0 x21_2).f1) != ((rd_T58 y675 x31_3).f1)) = false := bne_eq_false_iff_eq.mpr c30
       clear c30
       replace H := obS H
       obtain ⟨t683,A310,H⟩ := H
       replace H : (if t683 = true then (if x4_2.length < 17592186044416 then (impl_classes.l1 k3 l0 (x4_2 ++ [x31_3]) (wrap64 ((l0.length : Int) + 1)) x16_1 l0 (l0.length : Int) (wrap64 (x21_2 + 1)) x670000_1) else (none)) else (impl_classes.l2 k3 l0 x4_2 x21_2 x7_3 (wrap64 ((l0.length : Int) + 1)) x16_1 l0 (l0.length : Int) x21_2 y675 (y675.length : Int) (wrap64 (x31_3 + 1)) x670000_1 ((rd_T58 l0 x21_2).f0) ((rd_T58 l0 x21_2).f1) ((rd_T58 l0 x21_2).f2))) = some r := H
       have A31 := As_ A310
       clear A310
       by_cases c32 : t683 = true
       rotate_left
       ·replace c32 := Bool.eq_false_iff.mpr c32
        subst c32
        have H1 : (impl_classes.l2 k3 l0 x4_2 x21_2 x7_3 (wrap64 ((l0.length : Int) + 1)) x16_1 l0 (l0.length : Int) x21_2 y675 (y675.length : Int) (wrap64 (x31_3 + 1)) x670000_1 ((rd_T58 l0 x21_2).f0) ((rd_T58 l0 x21_2).f1) ((rd_T58 l0 x21_2).f2)) = some r := by rw [if_neg (show ¬ (false = true) by decide)] at H;exact H
        clear H
        have H := H1
        clear H1
        have H' := As_ H
        clear H
        have p679 : 0 ≤ (x31_3 : Int) := odT zA_
        have q679 : x31_3 < (y675.length : Int) := odT zA_
        obtain ⟨ad679,A679_2,c679_2,e679,hx679_0,hx679_1,hx679_2,hl679_2,hi679_2⟩ := at_T58 HR678.out x31_3 p679 q679
        obtain rfl : ad673 = ad679 := (by injection e679)
        replace hx679_0 := bwC HB.out hx679_0
        replace hx679_1 := bwC HB.out hx679_1
        replace hx679_2 := bwC HB.out hx679_2
        have HR679_2 := As_ hi679_2
        have HC679_2 := As_ hl679_2
        clear hi679_2 hl679_2
        replace p679 := eq_true p679
        replace q679 := eq_true q679
        try go_wp2_with (first|((with_reducible refine gate_dst (N := 9) rfl ?_);refine box_event ?hg (N := 9) ?hd (cs := #[.int .i64 0,.int .i64 0,.slice none 0 0]) (t := 58) ?hr ?_;(case hd => rfl);(case hg => rfl);(case hr => go_simp <;> rfl);intro gb680 hg w42 hbox hb;have n0_ := As_ (Kd.R_below (zR_ HO_4.out) hb);have n1_ := As_ (Kd.R_below (zR_ HO_670000.out) hb);have n2_ := As_ (zkb BK669.out hb);have n3_ := As_ (zkb BK674.out hb);have n4_ := As_ (bwT (zb2 HB.out GE669.out GE674.out) hb);have n5_ := As_ (hbox);have n6_ := As_ ((by rw [hg];exact (bwZ (zb2 HB.out GE669.out GE674.out)) : w.heap.size ≤ gb680));have n7_ := As_ ((by rw [hg];exact (bwZ (zb2 HB.out GE669.out GE674.out)) : w.heap.size ≤ gb680));have n8_ := As_ ((by rw [hg];exact Nat.ne_of_lt (zkl BK669.out) : gb669 ≠ gb680));have n9_ := As_ ((by rw [hg];exact Nat.ne_of_gt (zkl BK669.out) : gb680 ≠ gb669));have n10_ := As_ ((by rw [hg];exact Nat.ne_of_lt (zkl BK674.out) : gb674 ≠ gb680));have n11_ := As_ ((by rw [hg];exact Nat.ne_of_gt (zkl BK674.out) : gb680 ≠ gb674));clear HO_4 HO_670000 BK669 BK674 HB;revert n0_ n1_ n2_ n3_ n4_ n5_ n6_ n7_ n8_ n9_ n10_ n11_;intro HO_4 HO_670000 BK669 BK674 HB BK680 GW680 GE680 NB669_680 NB680_669 NB674_680 NB680_674;clear hb hbox hg;have hnb43 := NB680_669.out;have hnc43 := NB669_680.out;have hnb44 := NB680_674.out;have hnc44 := NB674_680.out;obtain ⟨hcz45_0,hcz45_1,hcz45_2,hfz45_0,hfz45_1,hfz45_2⟩ := bk3 BK680.out))
        have n0_ : Aside0 (Kd.R (Kd.int .i64) 3 (((w42.setCell ⟨gb680,0,none⟩ (.int .i64 ((rd_T58 y675 x31_3).f0))).setCell ⟨gb680,1,none⟩ (.int .i64 ((rd_T58 y675 x31_3).f1))).setCell ⟨gb680,2,none⟩ (.slice A679_2 ((rd_T58 y675 x31_3).f2).length c679_2)) w.heap.size (fun k_ => some k_ ≠ (u670000 : Value).ownBlock) u4 x4_2) := ⟨by (with_reducible repeat (first|apply Kd.R_alloc|apply Kd.R_drewN|apply Kd.R_drew));exact Kd.R_mono (Kd.R_far (p := ⟨gb680,2,none⟩) (Kd.R_far (p := ⟨gb680,1,none⟩) (Kd.R_far (p := ⟨gb680,0,none⟩) (Kd.R_types HO_4.out BK680.out (by decide)) (fun _ hk => hk.2) (.int .i64 ((rd_T58 y675 x31_3).f0))) (fun _ hk => hk.2) (.int .i64 ((rd_T58 y675 x31_3).f1))) (fun _ hk => hk.2) (.slice A679_2 ((rd_T58 y675 x31_3).f2).length c679_2)) (fun _ hk => hk.1)⟩
        have n1_ : Aside0 (Kd.R (Kd.int .i64) 3 (((w42.setCell ⟨gb680,0,none⟩ (.int .i64 ((rd_T58 y675 x31_3).f0))).setCell ⟨gb680,1,none⟩ (.int .i64 ((rd_T58 y675 x31_3).f1))).setCell ⟨gb680,2,none⟩ (.slice A679_2 ((rd_T58 y675 x31_3).f2).length c679_2)) w.heap.size (fun k_ => some k_ ≠ (u4 : Value).ownBlock) u670000 x670000_1) := ⟨by (with_reducible repeat (first|apply Kd.R_alloc|apply Kd.R_drewN|apply Kd.R_drew));exact Kd.R_mono (Kd.R_far (p := ⟨gb680,2,none⟩) (Kd.R_far (p := ⟨gb680,1,none⟩) (Kd.R_far (p := ⟨gb680,0,none⟩) (Kd.R_types HO_670000.out BK680.out (by decide)) (fun _ hk => hk.2) (.int .i64 ((rd_T58 y675 x31_3).f0))) (fun _ hk => hk.2) (.int .i64 ((rd_T58 y675 x31_3).f1))) (fun _ hk => hk.2) (.slice A679_2 ((rd_T58 y675 x31_3).f2).length c679_2)) (fun _ hk => hk.1)⟩
        have n2_ : Aside0 ((((w42.setCell ⟨gb680,0,none⟩ (.int .i64 ((rd_T58 y675 x31_3).f0))).setCell ⟨gb680,1,none⟩ (.int .i64 ((rd_T58 y675 x31_3).f1))).setCell ⟨gb680,2,none⟩ (.slice A679_2 ((rd_T58 y675 x31_3).f2).length c679_2)).heap[gb669]? = some (.cells #[u670000] 26 (0,0))) := ⟨by (with_reducible repeat first|apply bkN|apply bkD|apply bkA);refine blk_far ?_ NB669_680.out _;(with_reducible repeat first|apply bkN|apply bkD|apply bkA);refine blk_far ?_ NB669_680.out _;(with_reducible repeat first|apply bkN|apply bkD|apply bkA);refine blk_far ?_ NB669_680.out _;(with_reducible repeat first|apply bkN|apply bkD|apply bkA);exact BK669.out⟩
        have n3_ : Aside0 ((((w42.setCell ⟨gb680,0,none⟩ (.int .i64 ((rd_T58 y675 x31_3).f0))).setCell ⟨gb680,1,none⟩ (.int .i64 ((rd_T58 y675 x31_3).f1))).setCell ⟨gb680,2,none⟩ (.slice A679_2 ((rd_T58 y675 x31_3).f2).length c679_2)).heap[gb674]? = some (.cells #[.int .i64 ((rd_T58 l0 x21_2).f0),.int .i64 ((rd_T58 l0 x21_2).f1),.slice A673_2 ((rd_T58 l0 x21_2).f2).length c673_2] 58 (0,0))) := ⟨by (with_reducible repeat first|apply bkN|apply bkD|apply bkA);refine blk_far ?_ NB674_680.out _;(with_reducible repeat first|apply bkN|apply bkD|apply bkA);refine blk_far ?_ NB674_680.out _;(with_reducible repeat first|apply bkN|apply bkD|apply bkA);refine blk_far ?_ NB674_680.out _;(with_reducible repeat first|apply bkN|apply bkD|apply bkA);exact BK674.out⟩
        have n4_ : Aside0 ((((w42.setCell ⟨gb680,0,none⟩ (.int .i64 ((rd_T58 y675 x31_3).f0))).setCell ⟨gb680,1,none⟩ (.int .i64 ((rd_T58 y675 x31_3).f1))).setCell ⟨gb680,2,none⟩ (.slice A679_2 ((rd_T58 y675 x31_3).f2).length c679_2)).heap[gb680]? = some (.cells #[.int .i64 ((rd_T58 y675 x31_3).f0),.int .i64 ((rd_T58 y675 x31_3).f1),.slice A679_2 ((rd_T58 y675 x31_3).f2).length c679_2] 58 (0,0))) := ⟨by (with_reducible repeat first|apply bkN|apply bkD|apply bkA);refine blk_put (cs := #[.int .i64 ((rd_T58 y675 x31_3).f0),.int .i64 ((rd_T58 y675 x31_3).f1),.slice none 0 0]) ?_ 2 _ rfl;(with_reducible repeat first|apply bkN|apply bkD|apply bkA);refine blk_put (cs := #[.int .i64 ((rd_T58 y675 x31_3).f0),.int .i64 0,.slice none 0 0]) ?_ 1 _ rfl;(with_reducible repeat first|apply bkN|apply bkD|apply bkA);refine blk_put (cs := #[.int .i64 0,.int .i64 0,.slice none 0 0]) ?_ 0 _ rfl;(with_reducible repeat first|apply bkN|apply bkD|apply bkA);exact BK680.out⟩
        have n5_ : Aside0 (Below w.heap.size w (((w42.setCell ⟨gb680,0,none⟩ (.int .i64 ((rd_T58 y675 x31_3).f0))).setCell ⟨gb680,1,none⟩ (.int .i64 ((rd_T58 y675 x31_3).f1))).setCell ⟨gb680,2,none⟩ (.slice A679_2 ((rd_T58 y675 x31_3).f2).length c679_2))) := ⟨zb3 HB.out GE669.out GE674.out GE680.out⟩
        generalize (((w42.setCell ⟨gb680,0,none⟩ (.int .i64 ((rd_T58 y675 x31_3).f0))).setCell ⟨gb680,1,none⟩ (.int .i64 ((rd_T58 y675 x31_3).f1))).setCell ⟨gb680,2,none⟩ (.slice A679_2 ((rd_T58 y675 x31_3).f2).length c679_2)) = w46 at n0_ n1_ n2_ n3_ n4_ n5_ ⊢
        revert n0_ n1_ n2_ n3_ n4_ n5_;intro HO_4 HO_670000 BK669 BK674 BK680 HB
        have n0_ := As_ (Kd.R_drew HO_4.out)
        have n1_ := As_ (Kd.R_drew HO_670000.out)
        have n2_ := As_ (bkD BK669.out)
        have n3_ := As_ (bkD BK674.out)
        have n4_ := As_ (bkD BK680.out)
        have n5_ := As_ (bwD HB.out)
        clear HO_4 HO_670000 BK669 BK674 BK680 HB
        revert n0_ n1_ n2_ n3_ n4_ n5_;intro HO_4 HO_670000 BK669 BK674 BK680 HB
        obtain ⟨Ao48,co48,eo48⟩ := Kd.R_slice HO_670000.out
        (first|subst eo48|(injection eo48 with f1_ f2_ f3_;have f4_ := f1_.symm;have f5_ := f3_.symm;clear f1_ f2_ f3_;subst f4_;subst f5_))
        have p681 : 0 ≤ (x31_3 : Int) := odT zA_
        have q681 : x31_3 < (x670000_1.length : Int) := odT zA_
        obtain ⟨ad681,e681,hx681_0⟩ := Kd.at_int (Kd.R_reads' HO_670000.out).2.2 x31_3 p681 q681
        cases e681
        replace p681 := eq_true p681
        replace q681 := eq_true q681
        have p682 : 0 ≤ (x21_2 : Int) := odT zA_
        have q682 : x21_2 < (x670000_1.length : Int) := odT zA_
        obtain ⟨ad682,e682,hx682_0⟩ := Kd.at_int (Kd.R_reads' HO_670000.out).2.2 x21_2 p682 q682
        obtain rfl : ad681 = ad682 := (by injection e682)
        replace p682 := eq_true p682
        replace q682 := eq_true q682
        refine start_ (n := 31) (S := fun w' => w'.cell? ⟨gb669,0,none⟩ = some (.slice (some ad681) x670000_1.length co48) ∧ w'.cell? ⟨gb674,0,none⟩ = some (.int .i64 ((rd_T58 l0 x21_2).f0)) ∧ w'.cell? ⟨gb674,1,none⟩ = some (.int .i64 ((rd_T58 l0 x21_2).f1)) ∧ w'.cell? ⟨gb674,2,none⟩ = some (.slice A673_2 ((rd_T58 l0 x21_2).f2).length c673_2) ∧ w'.cell? ⟨gb680,0,none⟩ = some (.int .i64 ((rd_T58 y675 x31_3).f0)) ∧ w'.cell? ⟨gb680,1,none⟩ = some (.int .i64 ((rd_T58 y675 x31_3).f1)) ∧ w'.cell? ⟨gb680,2,none⟩ = some (.slice A679_2 ((rd_T58 y675 x31_3).f2).length c679_2) ∧ w'.cell? (ad681.add (x31_3).toNat) = some (.int .i64 (rd x670000_1 x31_3)) ∧ w'.cell? (ad681.add (x21_2).toNat) = some (.int .i64 (rd x670000_1 x21_2))) (ds := []) (bl_ 0 31) (by kernel_rfl) rfl rfl ⟨(bkC BK669.out 0).trans rfl,(bkC BK674.out 0).trans rfl,(bkC BK674.out 1).trans rfl,(bkC BK674.out 2).trans rfl,(bkC BK680.out 0).trans rfl,(bkC BK680.out 1).trans rfl,(bkC BK680.out 2).trans rfl,hx681_0,hx682_0⟩ (fun hHeld => ?_);refine with_tabW impl_classes.tab12 impl_classes.bits12 (fun HT_ HW_ => ?_)
        generalize w46.drew = w47 at HO_4 HO_670000 BK669 BK674 BK680 HB hx681_0 hx682_0 hHeld ⊢
        refine pQ 1 37 (bl_ 2 31) HT_ rfl ?_
        refine pQ 5 41 (bl_ 34 31) HT_ rfl ?_
        refine tP 0 36 (bl_ 35 31) ?_ HT_ HW_ rfl (.inl ⟨by rfl,?_⟩) hHeld ?_ ?_ ?_;rotate_left;(rintro w' ⟨s0,s1,s2,s3,s4,s5,s6,s7,s8⟩;go_simp;with_reducible rfl);rotate_left;(simp only [Act.put,sq_,i64_w,i32_w];rfl)
        refine pQ 2 38 (bl_ 39 31) HT_ rfl ?_
        refine tP 3 39 (bl_ 47 31) ?_ HT_ HW_ rfl (.inl ⟨by rfl,?_⟩) hHeld ?_ ?_ ?_;rotate_left;(rintro w' ⟨s0,s1,s2,s3,s4,s5,s6,s7,s8⟩;go_simp;with_reducible rfl);rotate_left;(simp only [Act.put,sq_,i64_w,i32_w];rfl)
        refine tP 4 40 (bl_ 63 31) ?_ HT_ HW_ rfl (.inl ⟨by rfl,?_⟩) hHeld ?_ ?_ ?_;rotate_left;(rintro w' ⟨s0,s1,s2,s3,s4,s5,s6,s7,s8⟩;go_simp;with_reducible rfl);rotate_left;(simp only [Act.put,sq_,i64_w,i32_w];rfl)
        refine pQ 6 42 (bl_ 127 31) HT_ rfl ?_
        refine tP 7 43 (bl_ 255 31) ?_ HT_ HW_ rfl (.inl ⟨by rfl,?_⟩) hHeld ?_ ?_ ?_;rotate_left;(rintro w' ⟨s0,s1,s2,s3,s4,s5,s6,s7,s8⟩;go_simp;with_reducible rfl);rotate_left;(simp only [Act.put,sq_,i64_w,i32_w];rfl)
        refine pQ 8 44 (bl_ 511 31) HT_ rfl ?_
        refine pQ 9 45 (bl_ 1023 31) HT_ rfl ?_
        refine pQ 10 46 (bl_ 2047 31) HT_ rfl ?_
        refine pQ 12 48 (bl_ 6143 31) HT_ rfl ?_
        refine tP 11 47 (bl_ 8191 31) ?_ HT_ HW_ rfl (.inl ⟨by rfl,?_⟩) hHeld ?_ ?_ ?_;rotate_left;(rintro w' ⟨s0,s1,s2,s3,s4,s5,s6,s7,s8⟩;go_simp;with_reducible rfl);rotate_left;(simp only [Act.put,sq_,i64_w,i32_w];rfl)
        refine tP 13 49 (bl_ 16383 31) ?_ HT_ HW_ rfl (.inl ⟨by rfl,?_⟩) hHeld ?_ ?_ ?_;rotate_left;(rintro w' ⟨s0,s1,s2,s3,s4,s5,s6,s7,s8⟩;go_simp;with_reducible rfl);rotate_left;(simp only [Act.put,sq_,i64_w,i32_w];rfl)
        refine pQ 14 50 (bl_ 32767 31) HT_ rfl ?_
        refine pQ 15 51 (bl_ 65535 31) HT_ rfl ?_
        refine pQ 16 52 (bl_ 131071 31) HT_ rfl ?_
        refine pQ 17 53 (bl_ 262143 31) HT_ rfl ?_
        refine pQ 19 55 (bl_ 786431 31) HT_ rfl ?_
        refine tP 18 54 (bl_ 1048575 31) ?_ HT_ HW_ rfl (.inl ⟨by rfl,?_⟩) hHeld ?_ ?_ ?_;rotate_left;(rintro w' ⟨s0,s1,s2,s3,s4,s5,s6,s7,s8⟩;go_simp;with_reducible rfl);rotate_left;(simp only [Act.put,sq_,i64_w,i32_w];rfl)
        refine tP 20 56 (bl_ 2097151 31) ?_ HT_ HW_ rfl (.inl ⟨by rfl,?_⟩) hHeld ?_ ?_ ?_;rotate_left;(rintro w' ⟨s0,s1,s2,s3,s4,s5,s6,s7,s8⟩;go_simp;with_reducible rfl);rotate_left;(simp only [Act.put,sq_,i64_w,i32_w];rfl)
        refine pQ 21 57 (bl_ 4194303 31) HT_ rfl ?_
        refine pQ 22 58 (bl_ 8388607 31) HT_ rfl ?_
        refine pQ 23 59 (bl_ 16777215 31) HT_ rfl ?_
        refine pQ 24 60 (bl_ 33554431 31) HT_ rfl ?_
        refine pQ 26 62 (bl_ 100663295 31) HT_ rfl ?_
        refine tP 25 61 (bl_ 134217727 31) ?_ HT_ HW_ rfl (.inl ⟨by rfl,?_⟩) hHeld ?_ ?_ ?_;rotate_left;(rintro w' ⟨s0,s1,s2,s3,s4,s5,s6,s7,s8⟩;go_simp;with_reducible rfl);rotate_left;(simp only [Act.put,sq_,i64_w,i32_w];rfl)
        refine tP 27 63 (bl_ 268435455 31) ?_ HT_ HW_ rfl (.inl ⟨by rfl,?_⟩) hHeld ?_ ?_ ?_;rotate_left;(rintro w' ⟨s0,s1,s2,s3,s4,s5,s6,s7,s8⟩;go_simp;with_reducible rfl);rotate_left;(simp only [Act.put,sq_,i64_w,i32_w];rfl)
        refine tP 28 64 (bl_ 536870911 31) ?_ HT_ HW_ rfl (.inl ⟨by rfl,?_⟩) hHeld ?_ ?_ ?_;rotate_left;(rintro w' ⟨s0,s1,s2,s3,s4,s5,s6,s7,s8⟩;go_simp;with_reducible rfl);rotate_left;(simp only [Act.put,sq_,i64_w,i32_w];rfl)
        refine one_ (i := 29) (N := some 65) (bl_ 1073741823 31) rfl rfl (one_of HT_.out (by kernel_rfl)) (by decide) (fun K hK => ?_)
        refine goes_ Try.func87 (by kernel_rfl) rfl #[.slice A673_2 ((rd_T58 l0 x21_2).f2).length c673_2,.slice A679_2 ((rd_T58 y675 x31_3).f2).length c679_2,.func (.func 88) #[] #[.pointer (some ⟨gb669,0,none⟩)]] (by rfl) rfl rfl zM_ ?_
        with_reducible refine (slices_EqualFunc_int_int_int_int.calls k3 _ _ ((rd_T58 l0 x21_2).f2) _ _ ((rd_T58 y675 x31_3).f2) _ _ x670000_1 false _ ?side1 ?side2 ?side3 ?side4 ?side5 ?side6 A31.out (zk_ BK669.out)).mono ?_
        (case side1 => exact zC_ (Kd.C_below HR673_2.out HB.out))
        (case side2 => exact HC673_2.out)
        (case side3 => exact zC_ (Kd.C_below HR679_2.out HB.out))
        (case side4 => exact HC679_2.out)
        (case side5 => exact zC_ (Kd.R_reads' HO_670000.out).2.2)
        (case side6 => exact (Kd.R_reads' HO_670000.out).2.1)
        rintro e w' ⟨rfl,⟨nd,rfl⟩⟩
        refine ⟨_,rfl,?_⟩
        refine hK.out _ _ ⟨(bkC BK669.out 0).trans rfl,(bkC BK674.out 0).trans rfl,(bkC BK674.out 1).trans rfl,(bkC BK674.out 2).trans rfl,(bkC BK680.out 0).trans rfl,(bkC BK680.out 1).trans rfl,(bkC BK680.out 2).trans rfl,hHeld.2.2.2.2.2.2.2.1,hHeld.2.2.2.2.2.2.2.2⟩ (fun hHeld => ?_)
        clear hK K
        refine norm_ (a' := ?_) ?_ ?_
        rotate_left
        ·show Act.put _ (some 65) _ = _
         simp only [Act.put,sq_,i64_w,i32_w]
         rfl
        refine pQ 30 66 (bl_ 2147483647 31) HT_ rfl ?_
        refine done_ (done_of HT_.out (by kernel_rfl)) ?_
        try go_wp2
        go_roundg k3
        case measure => have := HK1.out;have := HK2.out;have := HK3.out;omega
        case rel => exact ⟨(x7_3),(wrap64 (x31_3 + 1)),zT_,zT_,H',⟨by have := HK1.out;have := HK2.out;have := HK3.out;omega⟩,⟨by (with_reducible repeat (first|apply Kd.R_alloc|apply Kd.R_drewN|apply Kd.R_drew));exact HO_4.out⟩,⟨by (with_reducible repeat (first|apply Kd.R_alloc|apply Kd.R_drewN|apply Kd.R_drew));exact HO_670000.out⟩,⟨by (with_reducible repeat first|apply bkN|apply bkD|apply bkA);exact BK669.out⟩,⟨by (with_reducible repeat first|apply bkN|apply bkD|apply bkA);exact BK674.out⟩,⟨zb3 HB.out GE669.out GE674.out GE680.out⟩⟩
       subst c32
       have H1 : (if x4_2.length < 17592186044416 then (impl_classes.l1 k3 l0 (x4_2 ++ [x31_3]) (wrap64 ((l0.length : Int) + 1)) x16_1 l0 (l0.length : Int) (wrap64 (x21_2 + 1)) x670000_1) else (none)) = some r := by rw [if_pos rfl] at H;exact H
       clear H
       have H := H1
       clear H1
       by_cases c33 : x4_2.length < 17592186044416
       rotate_left
       ·rw [if_neg c33] at H
        exact absurd H (by simp)
       rw [if_pos c33] at H
       have LMc33 := As_ c33
       clear c33
       obtain ⟨y684,hy684⟩ : ∃ y_ : List Int,y_ = (x4_2 ++ [x31_3]) := ⟨_,rfl⟩
       replace H : (impl_classes.l1 k3 l0 y684 (wrap64 ((l0.length : Int) + 1)) x16_1 l0 (l0.length : Int) (wrap64 (x21_2 + 1)) x670000_1) = some r := zH_ H hy684
       have Ny684 := As_ hy684
       clear hy684
       have H' := As_ H
       clear H
       have p679 : 0 ≤ (x31_3 : Int) := odT zA_
       have q679 : x31_3 < (y675.length : Int) := odT zA_
       obtain ⟨ad679,A679_2,c679_2,e679,hx679_0,hx679_1,hx679_2,hl679_2,hi679_2⟩ := at_T58 HR678.out x31_3 p679 q679
       obtain rfl : ad673 = ad679 := (by injection e679)
       replace hx679_0 := bwC HB.out hx679_0
       replace hx679_1 := bwC HB.out hx679_1
       replace hx679_2 := bwC HB.out hx679_2
       have HR679_2 := As_ hi679_2
       have HC679_2 := As_ hl679_2
       clear hi679_2 hl679_2
       replace p679 := eq_true p679
       replace q679 := eq_true q679
       try go_wp2_with (first|((with_reducible refine gate_dst (N := 9) rfl ?_);refine box_event ?hg (N := 9) ?hd (cs := #[.int .i64 0,.int .i64 0,.slice none 0 0]) (t := 58) ?hr ?_;(case hd => rfl);(case hg => rfl);(case hr => go_simp <;> rfl);intro gb680 hg w34 hbox hb;have n0_ := As_ (Kd.R_below (zR_ HO_4.out) hb);have n1_ := As_ (Kd.R_below (zR_ HO_670000.out) hb);have n2_ := As_ (zkb BK669.out hb);have n3_ := As_ (zkb BK674.out hb);have n4_ := As_ (bwT (zb2 HB.out GE669.out GE674.out) hb);have n5_ := As_ (hbox);have n6_ := As_ ((by rw [hg];exact (bwZ (zb2 HB.out GE669.out GE674.out)) : w.heap.size ≤ gb680));have n7_ := As_ ((by rw [hg];exact (bwZ (zb2 HB.out GE669.out GE674.out)) : w.heap.size ≤ gb680));have n8_ := As_ ((by rw [hg];exact Nat.ne_of_lt (zkl BK669.out) : gb669 ≠ gb680));have n9_ := As_ ((by rw [hg];exact Nat.ne_of_gt (zkl BK669.out) : gb680 ≠ gb669));have n10_ := As_ ((by rw [hg];exact Nat.ne_of_lt (zkl BK674.out) : gb674 ≠ gb680));have n11_ := As_ ((by rw [hg];exact Nat.ne_of_gt (zkl BK674.out) : gb680 ≠ gb674));clear HO_4 HO_670000 BK669 BK674 HB;revert n0_ n1_ n2_ n3_ n4_ n5_ n6_ n7_ n8_ n9_ n10_ n11_;intro HO_4 HO_670000 BK669 BK674 HB BK680 GW680 GE680 NB669_680 NB680_669 NB674_680 NB680_674;clear hb hbox hg;have hnb35 := NB680_669.out;have hnc35 := NB669_680.out;have hnb36 := NB680_674.out;have hnc36 := NB674_680.out;obtain ⟨hcz37_0,hcz37_1,hcz37_2,hfz37_0,hfz37_1,hfz37_2⟩ := bk3 BK680.out))
       have n0_ : Aside0 (Kd.R (Kd.int .i64) 3 (((w34.setCell ⟨gb680,0,none⟩ (.int .i64 ((rd_T58 y675 x31_3).f0))).setCell ⟨gb680,1,none⟩ (.int .i64 ((rd_T58 y675 x31_3).f1))).setCell ⟨gb680,2,none⟩ (.slice A679_2 ((rd_T58 y675 x31_3).f2).length c679_2)) w.heap.size (fun k_ => some k_ ≠ (u670000 : Value).ownBlock) u4 x4_2) := ⟨by (with_reducible repeat (first|apply Kd.R_alloc|apply Kd.R_drewN|apply Kd.R_drew));exact Kd.R_mono (Kd.R_far (p := ⟨gb680,2,none⟩) (Kd.R_far (p := ⟨gb680,1,none⟩) (Kd.R_far (p := ⟨gb680,0,none⟩) (Kd.R_types HO_4.out BK680.out (by decide)) (fun _ hk => hk.2) (.int .i64 ((rd_T58 y675 x31_3).f0))) (fun _ hk => hk.2) (.int .i64 ((rd_T58 y675 x31_3).f1))) (fun _ hk => hk.2) (.slice A679_2 ((rd_T58 y675 x31_3).f2).length c679_2)) (fun _ hk => hk.1)⟩
       have n1_ : Aside0 (Kd.R (Kd.int .i64) 3 (((w34.setCell ⟨gb680,0,none⟩ (.int .i64 ((rd_T58 y675 x31_3).f0))).setCell ⟨gb680,1,none⟩ (.int .i64 ((rd_T58 y675 x31_3).f1))).setCell ⟨gb680,2,none⟩ (.slice A679_2 ((rd_T58 y675 x31_3).f2).length c679_2)) w.heap.size (fun k_ => some k_ ≠ (u4 : Value).ownBlock) u670000 x670000_1) := ⟨by (with_reducible repeat (first|apply Kd.R_alloc|apply Kd.R_drewN|apply Kd.R_drew));exact Kd.R_mono (Kd.R_far (p := ⟨gb680,2,none⟩) (Kd.R_far (p := ⟨gb680,1,none⟩) (Kd.R_far (p := ⟨gb680,0,none⟩) (Kd.R_types HO_670000.out BK680.out (by decide)) (fun _ hk => hk.2) (.int .i64 ((rd_T58 y675 x31_3).f0))) (fun _ hk => hk.2) (.int .i64 ((rd_T58 y675 x31_3).f1))) (fun _ hk => hk.2) (.slice A679_2 ((rd_T58 y675 x31_3).f2).length c679_2)) (fun _ hk => hk.1)⟩
       have n2_ : Aside0 ((((w34.setCell ⟨gb680,0,none⟩ (.int .i64 ((rd_T58 y675 x31_3).f0))).setCell ⟨gb680,1,none⟩ (.int .i64 ((rd_T58 y675 x31_3).f1))).setCell ⟨gb680,2,none⟩ (.slice A679_2 ((rd_T58 y675 x31_3).f2).length c679_2)).heap[gb669]? = some (.cells #[u670000] 26 (0,0))) := ⟨by (with_reducible repeat first|apply bkN|apply bkD|apply bkA);refine blk_far ?_ NB669_680.out _;(with_reducible repeat first|apply bkN|apply bkD|apply bkA);refine blk_far ?_ NB669_680.out _;(with_reducible repeat first|apply bkN|apply bkD|apply bkA);refine blk_far ?_ NB669_680.out _;(with_reducible repeat first|apply bkN|apply bkD|apply bkA);exact BK669.out⟩
       have n3_ : Aside0 ((((w34.setCell ⟨gb680,0,none⟩ (.int .i64 ((rd_T58 y675 x31_3).f0))).setCell ⟨gb680,1,none⟩ (.int .i64 ((rd_T58 y675 x31_3).f1))).setCell ⟨gb680,2,none⟩ (.slice A679_2 ((rd_T58 y675 x31_3).f2).length c679_2)).heap[gb674]? = some (.cells #[.int .i64 ((rd_T58 l0 x21_2).f0),.int .i64 ((rd_T58 l0 x21_2).f1),.slice A673_2 ((rd_T58 l0 x21_2).f2).length c673_2] 58 (0,0))) := ⟨by (with_reducible repeat first|apply bkN|apply bkD|apply bkA);refine blk_far ?_ NB674_680.out _;(with_reducible repeat first|apply bkN|apply bkD|apply bkA);refine blk_far ?_ NB674_680.out _;(with_reducible repeat first|apply bkN|apply bkD|apply bkA);refine blk_far ?_ NB674_680.out _;(with_reducible repeat first|apply bkN|apply bkD|apply bkA);exact BK674.out⟩
       have n4_ : Aside0 ((((w34.setCell ⟨gb680,0,none⟩ (.int .i64 ((rd_T58 y675 x31_3).f0))).setCell ⟨gb680,1,none⟩ (.int .i64 ((rd_T58 y675 x31_3).f1))).setCell ⟨gb680,2,none⟩ (.slice A679_2 ((rd_T58 y675 x31_3).f2).length c679_2)).heap[gb680]? = some (.cells #[.int .i64 ((rd_T58 y675 x31_3).f0),.int .i64 ((rd_T58 y675 x31_3).f1),.slice A679_2 ((rd_T58 y675 x31_3).f2).length c679_2] 58 (0,0))) := ⟨by (with_reducible repeat first|apply bkN|apply bkD|apply bkA);refine blk_put (cs := #[.int .i64 ((rd_T58 y675 x31_3).f0),.int .i64 ((rd_T58 y675 x31_3).f1),.slice none 0 0]) ?_ 2 _ rfl;(with_reducible repeat first|apply bkN|apply bkD|apply bkA);refine blk_put (cs := #[.int .i64 ((rd_T58 y675 x31_3).f0),.int .i64 0,.slice none 0 0]) ?_ 1 _ rfl;(with_reducible repeat first|apply bkN|apply bkD|apply bkA);refine blk_put (cs := #[.int .i64 0,.int .i64 0,.slice none 0 0]) ?_ 0 _ rfl;(with_reducible repeat first|apply bkN|apply bkD|apply bkA);exact BK680.out⟩
       have n5_ : Aside0 (Below w.heap.size w (((w34.setCell ⟨gb680,0,none⟩ (.int .i64 ((rd_T58 y675 x31_3).f0))).setCell ⟨gb680,1,none⟩ (.int .i64 ((rd_T58 y675 x31_3).f1))).setCell ⟨gb680,2,none⟩ (.slice A679_2 ((rd_T58 y675 x31_3).f2).length c679_2))) := ⟨zb3 HB.out GE669.out GE674.out GE680.out⟩
       generalize (((w34.setCell ⟨gb680,0,none⟩ (.int .i64 ((rd_T58 y675 x31_3).f0))).setCell ⟨gb680,1,none⟩ (.int .i64 ((rd_T58 y675 x31_3).f1))).setCell ⟨gb680,2,none⟩ (.slice A679_2 ((rd_T58 y675 x31_3).f2).length c679_2)) = w38 at n0_ n1_ n2_ n3_ n4_ n5_ ⊢
       revert n0_ n1_ n2_ n3_ n4_ n5_;intro HO_4 HO_670000 BK669 BK674 BK680 HB
       have n0_ := As_ (Kd.R_drew HO_4.out)
       have n1_ := As_ (Kd.R_drew HO_670000.out)
       have n2_ := As_ (bkD BK669.out)
       have n3_ := As_ (bkD BK674.out)
       have n4_ := As_ (bkD BK680.out)
       have n5_ := As_ (bwD HB.out)
       clear HO_4 HO_670000 BK669 BK674 BK680 HB
       revert n0_ n1_ n2_ n3_ n4_ n5_;intro HO_4 HO_670000 BK669 BK674 BK680 HB
       obtain ⟨Ao40,co40,eo40⟩ := Kd.R_slice HO_670000.out
       (first|subst eo40|(injection eo40 with f1_ f2_ f3_;have f4_ := f1_.symm;have f5_ := f3_.symm;clear f1_ f2_ f3_;subst f4_;subst f5_))
       have p681 : 0 ≤ (x31_3 : Int) := odT zA_
       have q681 : x31_3 < (x670000_1.length : Int) := odT zA_
       obtain ⟨ad681,e681,hx681_0⟩ := Kd.at_int (Kd.R_reads' HO_670000.out).2.2 x31_3 p681 q681
       cases e681
       replace p681 := eq_true p681
       replace q681 := eq_true q681
       have p682 : 0 ≤ (x21_2 : Int) := odT zA_
       have q682 : x21_2 < (x670000_1.length : Int) := odT zA_
       obtain ⟨ad682,e682,hx682_0⟩ := Kd.at_int (Kd.R_reads' HO_670000.out).2.2 x21_2 p682 q682
       obtain rfl : ad681 = ad682 := (by injection e682)
       replace p682 := eq_true p682
       replace q682 := eq_true q682
       refine start_ (n := 31) (S := fun w' => w'.cell? ⟨gb669,0,none⟩ = some (.slice (some ad681) x670000_1.length co40) ∧ w'.cell? ⟨gb674,0,none⟩ = some (.int .i64 ((rd_T58 l0 x21_2).f0)) ∧ w'.cell? ⟨gb674,1,none⟩ = some (.int .i64 ((rd_T58 l0 x21_2).f1)) ∧ w'.cell? ⟨gb674,2,none⟩ = some (.slice A673_2 ((rd_T58 l0 x21_2).f2).length c673_2) ∧ w'.cell? ⟨gb680,0,none⟩ = some (.int .i64 ((rd_T58 y675 x31_3).f0)) ∧ w'.cell? ⟨gb680,1,none⟩ = some (.int .i64 ((rd_T58 y675 x31_3).f1)) ∧ w'.cell? ⟨gb680,2,none⟩ = some (.slice A679_2 ((rd_T58 y675 x31_3).f2).length c679_2) ∧ w'.cell? (ad681.add (x31_3).toNat) = some (.int .i64 (rd x670000_1 x31_3)) ∧ w'.cell? (ad681.add (x21_2).toNat) = some (.int .i64 (rd x670000_1 x21_2))) (ds := []) (bl_ 0 31) (by kernel_rfl) rfl rfl ⟨(bkC BK669.out 0).trans rfl,(bkC BK674.out 0).trans rfl,(bkC BK674.out 1).trans rfl,(bkC BK674.out 2).trans rfl,(bkC BK680.out 0).trans rfl,(bkC BK680.out 1).trans rfl,(bkC BK680.out 2).trans rfl,hx681_0,hx682_0⟩ (fun hHeld => ?_);refine with_tabW impl_classes.tab12 impl_classes.bits12 (fun HT_ HW_ => ?_)
       generalize w38.drew = w39 at HO_4 HO_670000 BK669 BK674 BK680 HB hx681_0 hx682_0 hHeld ⊢
       refine pQ 1 37 (bl_ 2 31) HT_ rfl ?_
       refine pQ 5 41 (bl_ 34 31) HT_ rfl ?_
       refine tP 0 36 (bl_ 35 31) ?_ HT_ HW_ rfl (.inl ⟨by rfl,?_⟩) hHeld ?_ ?_ ?_;rotate_left;(rintro w' ⟨s0,s1,s2,s3,s4,s5,s6,s7,s8⟩;go_simp;with_reducible rfl);rotate_left;(simp only [Act.put,sq_,i64_w,i32_w];rfl)
       refine pQ 2 38 (bl_ 39 31) HT_ rfl ?_
       refine tP 3 39 (bl_ 47 31) ?_ HT_ HW_ rfl (.inl ⟨by rfl,?_⟩) hHeld ?_ ?_ ?_;rotate_left;(rintro w' ⟨s0,s1,s2,s3,s4,s5,s6,s7,s8⟩;go_simp;with_reducible rfl);rotate_left;(simp only [Act.put,sq_,i64_w,i32_w];rfl)
       refine tP 4 40 (bl_ 63 31) ?_ HT_ HW_ rfl (.inl ⟨by rfl,?_⟩) hHeld ?_ ?_ ?_;rotate_left;(rintro w' ⟨s0,s1,s2,s3,s4,s5,s6,s7,s8⟩;go_simp;with_reducible rfl);rotate_left;(simp only [Act.put,sq_,i64_w,i32_w];rfl)
       refine pQ 6 42 (bl_ 127 31) HT_ rfl ?_
       refine tP 7 43 (bl_ 255 31) ?_ HT_ HW_ rfl (.inl ⟨by rfl,?_⟩) hHeld ?_ ?_ ?_;rotate_left;(rintro w' ⟨s0,s1,s2,s3,s4,s5,s6,s7,s8⟩;go_simp;with_reducible rfl);rotate_left;(simp only [Act.put,sq_,i64_w,i32_w];rfl)
       refine pQ 8 44 (bl_ 511 31) HT_ rfl ?_
       refine pQ 9 45 (bl_ 1023 31) HT_ rfl ?_
       refine pQ 10 46 (bl_ 2047 31) HT_ rfl ?_
       refine pQ 12 48 (bl_ 6143 31) HT_ rfl ?_
       refine tP 11 47 (bl_ 8191 31) ?_ HT_ HW_ rfl (.inl ⟨by rfl,?_⟩) hHeld ?_ ?_ ?_;rotate_left;(rintro w' ⟨s0,s1,s2,s3,s4,s5,s6,s7,s8⟩;go_simp;with_reducible rfl);rotate_left;(simp only [Act.put,sq_,i64_w,i32_w];rfl)
       refine tP 13 49 (bl_ 16383 31) ?_ HT_ HW_ rfl (.inl ⟨by rfl,?_⟩) hHeld ?_ ?_ ?_;rotate_left;(rintro w' ⟨s0,s1,s2,s3,s4,s5,s6,s7,s8⟩;go_simp;with_reducible rfl);rotate_left;(simp only [Act.put,sq_,i64_w,i32_w];rfl)
       refine pQ 14 50 (bl_ 32767 31) HT_ rfl ?_
       refine pQ 15 51 (bl_ 65535 31) HT_ rfl ?_
       refine pQ 16 52 (bl_ 131071 31) HT_ rfl ?_
       refine pQ 17 53 (bl_ 262143 31) HT_ rfl ?_
       refine pQ 19 55 (bl_ 786431 31) HT_ rfl ?_
       refine tP 18 54 (bl_ 1048575 31) ?_ HT_ HW_ rfl (.inl ⟨by rfl,?_⟩) hHeld ?_ ?_ ?_;rotate_left;(rintro w' ⟨s0,s1,s2,s3,s4,s5,s6,s7,s8⟩;go_simp;with_reducible rfl);rotate_left;(simp only [Act.put,sq_,i64_w,i32_w];rfl)
       refine tP 20 56 (bl_ 2097151 31) ?_ HT_ HW_ rfl (.inl ⟨by rfl,?_⟩) hHeld ?_ ?_ ?_;rotate_left;(rintro w' ⟨s0,s1,s2,s3,s4,s5,s6,s7,s8⟩;go_simp;with_reducible rfl);rotate_left;(simp only [Act.put,sq_,i64_w,i32_w];rfl)
       refine pQ 21 57 (bl_ 4194303 31) HT_ rfl ?_
       refine pQ 22 58 (bl_ 8388607 31) HT_ rfl ?_
       refine pQ 23 59 (bl_ 16777215 31) HT_ rfl ?_
       refine pQ 24 60 (bl_ 33554431 31) HT_ rfl ?_
       refine pQ 26 62 (bl_ 100663295 31) HT_ rfl ?_
       refine tP 25 61 (bl_ 134217727 31) ?_ HT_ HW_ rfl (.inl ⟨by rfl,?_⟩) hHeld ?_ ?_ ?_;rotate_left;(rintro w' ⟨s0,s1,s2,s3,s4,s5,s6,s7,s8⟩;go_simp;with_reducible rfl);rotate_left;(simp only [Act.put,sq_,i64_w,i32_w];rfl)
       refine tP 27 63 (bl_ 268435455 31) ?_ HT_ HW_ rfl (.inl ⟨by rfl,?_⟩) hHeld ?_ ?_ ?_;rotate_left;(rintro w' ⟨s0,s1,s2,s3,s4,s5,s6,s7,s8⟩;go_simp;with_reducible rfl);rotate_left;(simp only [Act.put,sq_,i64_w,i32_w];rfl)
       refine tP 28 64 (bl_ 536870911 31) ?_ HT_ HW_ rfl (.inl ⟨by rfl,?_⟩) hHeld ?_ ?_ ?_;rotate_left;(rintro w' ⟨s0,s1,s2,s3,s4,s5,s6,s7,s8⟩;go_simp;with_reducible rfl);rotate_left;(simp only [Act.put,sq_,i64_w,i32_w];rfl)
       refine one_ (i := 29) (N := some 65) (bl_ 1073741823 31) rfl rfl (one_of HT_.out (by kernel_rfl)) (by decide) (fun K hK => ?_)
       refine goes_ Try.func87 (by kernel_rfl) rfl #[.slice A673_2 ((rd_T58 l0 x21_2).f2).length c673_2,.slice A679_2 ((rd_T58 y675 x31_3).f2).length c679_2,.func (.func 88) #[] #[.pointer (some ⟨gb669,0,none⟩)]] (by rfl) rfl rfl zM_ ?_
       with_reducible refine (slices_EqualFunc_int_int_int_int.calls k3 _ _ ((rd_T58 l0 x21_2).f2) _ _ ((rd_T58 y675 x31_3).f2) _ _ x670000_1 true _ ?side1 ?side2 ?side3 ?side4 ?side5 ?side6 A31.out (zk_ BK669.out)).mono ?_
       (case side1 => exact zC_ (Kd.C_below HR673_2.out HB.out))
       (case side2 => exact HC673_2.out)
       (case side3 => exact zC_ (Kd.C_below HR679_2.out HB.out))
       (case side4 => exact HC679_2.out)
       (case side5 => exact zC_ (Kd.R_reads' HO_670000.out).2.2)
       (case side6 => exact (Kd.R_reads' HO_670000.out).2.1)
       rintro e w' ⟨rfl,⟨nd,rfl⟩⟩
       refine ⟨_,rfl,?_⟩
       refine hK.out _ _ ⟨(bkC BK669.out 0).trans rfl,(bkC BK674.out 0).trans rfl,(bkC BK674.out 1).trans rfl,(bkC BK674.out 2).trans rfl,(bkC BK680.out 0).trans rfl,(bkC BK680.out 1).trans rfl,(bkC BK680.out 2).trans rfl,hHeld.2.2.2.2.2.2.2.1,hHeld.2.2.2.2.2.2.2.2⟩ (fun hHeld => ?_)
       clear hK K
       refine norm_ (a' := ?_) ?_ ?_
       rotate_left
       ·show Act.put _ (some 65) _ = _
        simp only [Act.put,sq_,i64_w,i32_w]
        rfl
       refine pQ 30 66 (bl_ 2147483647 31) HT_ rfl ?_
       refine done_ (done_of HT_.out (by kernel_rfl)) ?_
       try go_wp2_with (first|((with_reducible refine gate_builtin (b := .append) (xs := #[.tmp 69,.tmp 71]) rfl ?_);at_builtin;refine Kd.R_append (Kd.int .i64) (w0 := w) w.heap.size rfl (.tmp 69) (.tmp 71) 26 3 (.int .i64 0) 8 rfl Try.underlying26 info3 rfl (by decide) (by omega) u4 x4_2 x31_3 [.int .i64 x31_3] (fun k_ => some k_ ≠ (.slice (some ad681) x670000_1.length co40 : Value).ownBlock) (fun _ => False) rfl rfl ?aP (fun _ hk => hk.elim) ?aF ?aO ?aB ?aS ?aL ?_;(case aP => exact rfl);(case aB => exact (zb3 HB.out GE669.out GE674.out GE680.out));(case aF => exact (fun k_ hk => Kd.fresh' (Kd.R_lt (zR_ HO_670000.out)) k_ hk));(case aO => exact (zR_ HO_4.out));(case aS => exact (bwZ (zb3 HB.out GE669.out GE674.out GE680.out)));(case aL => have := LMc33.out;omega);intro v685 w41 ho hb hg hat;rw [← Ny684.out] at ho;have n0_ := As_ (Kd.R_after (ok := (fun _ => True)) (by (with_reducible repeat (first|apply Kd.R_alloc|apply Kd.R_drewN|apply Kd.R_drew));exact Kd.R_mono HO_670000.out (fun _ hk => ⟨trivial,hk⟩)) hg hat);have n1_ := As_ (blk_grown (g := gb669) (o := .cells #[.slice (some ad681) x670000_1.length co40] 26 (0,0)) (zk_ BK669.out) hg (Kd.R_ne HO_4.out BK669.out (by decide)));have n2_ := As_ (blk_grown (g := gb674) (o := .cells #[.int .i64 ((rd_T58 l0 x21_2).f0),.int .i64 ((rd_T58 l0 x21_2).f1),.slice A673_2 ((rd_T58 l0 x21_2).f2).length c673_2] 58 (0,0)) (zk_ BK674.out) hg (Kd.R_ne HO_4.out BK674.out (by decide)));have n3_ := As_ (blk_grown (g := gb680) (o := .cells #[.int .i64 ((rd_T58 y675 x31_3).f0),.int .i64 ((rd_T58 y675 x31_3).f1),.slice A679_2 ((rd_T58 y675 x31_3).f2).length c679_2] 58 (0,0)) (zk_ BK680.out) hg (Kd.R_ne HO_4.out BK680.out (by decide)));have n4_ := As_ (hb);have n5_ := As_ (ho);clear HO_670000 BK669 BK674 BK680 HB HO_4;revert n0_ n1_ n2_ n3_ n4_ n5_;intro HO_670000 BK669 BK674 BK680 HB HO686;clear ho hb hg hat))
       go_roundg k3
       case measure => have := HK1.out;have := HK2.out;have := HK3.out;omega
       case rel => exact ⟨(y684),(wrap64 (x21_2 + 1)),zT_,H',⟨by have := HK1.out;have := HK2.out;have := HK3.out;omega⟩,⟨by (with_reducible repeat (first|apply Kd.R_alloc|apply Kd.R_drewN|apply Kd.R_drew));exact HO686.out⟩,⟨by (with_reducible repeat (first|apply Kd.R_alloc|apply Kd.R_drewN|apply Kd.R_drew));exact Kd.R_mono HO_670000.out (fun _ hk => hk.2)⟩,⟨by (with_reducible repeat first|apply bkN|apply bkD|apply bkA);exact BK669.out⟩,⟨zb3 HB.out GE669.out GE674.out GE680.out⟩⟩
end Go.Proofs.Ytapaegcombfafaa.Q
