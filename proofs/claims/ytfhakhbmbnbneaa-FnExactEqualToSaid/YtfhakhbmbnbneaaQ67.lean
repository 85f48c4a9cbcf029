-- Written by wip/tools/qprint.py (a program of this claim's author) by means of the kit's printer.
import Derived.Test.YtfhakhbmbnbneaaQ0
import Derived.Test.YtfhakhbmbnbneaaQ94
namespace Go.Proofs.Ytfhakhbmbnbneaa.Q
open Go.RowKit Go.Proofs.YtfhakhbmbnbneaaW.PrintWords Go.Proofs.YtfhakhbmbnbneaaW.PrintLast Go.Proofs.YtfhakhbmbnbneaaW.PrintMore
attribute [local go_sem] max2_int min2_int max_two min_two max_three min_three max_four min_four   -- for this text's walks alone
set_option linter.unusedVariables false
set_option linter.unusedSimpArgs false

/-! ### impl_nodeOk: function 67 -/
mutual
def impl_nodeOk.j0 : Nat → List (S45) → Int → Bool → Int → Int → List Int → Option (Bool)
 | 0,_,_,_,_,_,_ => none
 | k + 1,x0,x8,x41,x270000,x270001,x270002 => if x41 = true then (some (x270001 == 0)) else (if x8 = 5 then (if x270001 ≥ 0 then (if x270001 ≤ 9 then (some (decide ((x270002.length : Int) ≤ 1))) else (some false)) else (some false)) else (if x8 = 4 then (impl_nodeOk.l0 k x0 0 x270000 x270001 x270002) else (some false)))
def impl_nodeOk.l0 : Nat → List (S45) → Int → Int → Int → List Int → Option (Bool)
 | 0,_,_,_,_,_ => none
 | k + 1,x0,x5,x270000,x270001,x270002 => if x5 < (x270002.length : Int) then (if 0 ≤ x5 then (if 0 ≤ (rd x270002 x5) then (if (rd x270002 x5) < (x0.length : Int) then (if ((rd_T45 x0 (rd x270002 x5)).f0) > 1 then (some false) else (if ((rd_T45 x0 (rd x270002 x5)).f0) < 0 then (some false) else (if x5 ≤ (x270002.length : Int) then ((impl_findKey.f k x0 (x270002.take (x5 : Int).toNat) ((rd_T45 x0 (rd x270002 x5)).f0) ((rd_T45 x0 (rd x270002 x5)).f1) ((rd_T45 x0 (rd x270002 x5)).f2)).bind fun t274 => (if t274 ≥ 0 then (some false) else (impl_nodeOk.l0 k x0 (wrap64 (x5 + 2)) x270000 x270001 x270002))) else (none)))) else (none)) else (none)) else (none)) else (if x270001 = 0 then (some (((x270002.length : Int) % 2) == 0)) else (some false))
end
def impl_nodeOk.f (k : Nat) (l0 : List (S45)) (a1_0 : Int) (a1_1 : Int) (l1_2 : List Int) : Option (Bool) := if a1_0 = 0 then (if a1_1 ≥ 0 then (if a1_1 ≤ 999 then (some ((l1_2.length : Int) == 0)) else (some false)) else (some false)) else (if a1_0 = 1 then (if a1_1 ≥ 0 then (if a1_1 ≤ 9 then (some ((l1_2.length : Int) == 0)) else (some false)) else (some false)) else (if a1_0 = 2 then (impl_nodeOk.j0 k l0 a1_0 (a1_0 == 2) a1_0 a1_1 l1_2) else (impl_nodeOk.j0 k l0 a1_0 (a1_0 == 3) a1_0 a1_1 l1_2)))
set_option maxRecDepth 100000 in
theorem impl_nodeOk.mono_l : ∀ k,(∀ y0 y1 y2 y3 y4 y5,LeO (impl_nodeOk.j0 k y0 y1 y2 y3 y4 y5) (impl_nodeOk.j0 (k + 1) y0 y1 y2 y3 y4 y5)) ∧ (∀ y0 y1 y2 y3 y4,LeO (impl_nodeOk.l0 k y0 y1 y2 y3 y4) (impl_nodeOk.l0 (k + 1) y0 y1 y2 y3 y4))
 | 0 => ⟨fun _ _ _ _ _ _ r h => (by cases h),fun _ _ _ _ _ r h => (by cases h)⟩
 | k + 1 => by
  obtain ⟨ih0,ih1⟩ := impl_nodeOk.mono_l k
  refine ⟨?_,?_⟩
  ·intro y0 y1 y2 y3 y4 y5
   unfold impl_nodeOk.j0
   repeat' first
   | (with_reducible exact ih0 _ _ _ _ _ _)
   | (with_reducible exact ih1 _ _ _ _ _)
   | (with_reducible exact impl_findKey.mono _ _ _ _ _ _)
   | (with_reducible exact LeO.refl _)
   | (with_reducible exact LeO.none _)
   | (with_reducible refine LeO.ite ?_ ?_)
   | (with_reducible refine LeO.bind ?_ (fun _ => ?_))
   | exact ih0 _ _ _ _ _ _
   | exact ih1 _ _ _ _ _
   | exact impl_findKey.mono _ _ _ _ _ _
   | exact LeO.none _
   | refine LeO.ite ?_ ?_
   | refine LeO.bind ?_ (fun _ => ?_)
  ·intro y0 y1 y2 y3 y4
   unfold impl_nodeOk.l0
   repeat' first
   | (with_reducible exact ih0 _ _ _ _ _ _)
   | (with_reducible exact ih1 _ _ _ _ _)
   | (with_reducible exact impl_findKey.mono _ _ _ _ _ _)
   | (with_reducible exact LeO.refl _)
   | (with_reducible exact LeO.none _)
   | (with_reducible refine LeO.ite ?_ ?_)
   | (with_reducible refine LeO.bind ?_ (fun _ => ?_))
   | exact ih0 _ _ _ _ _ _
   | exact ih1 _ _ _ _ _
   | exact impl_findKey.mono _ _ _ _ _ _
   | exact LeO.none _
   | refine LeO.ite ?_ ?_
   | refine LeO.bind ?_ (fun _ => ?_)
set_option maxRecDepth 100000 in
theorem impl_nodeOk.mono : ∀ a0 a1 a2 a3 k,LeO (impl_nodeOk.f k a0 a1 a2 a3) (impl_nodeOk.f (k + 1) a0 a1 a2 a3) := by
 intro a0 a1 a2 a3 k
 obtain ⟨ih0,ih1⟩ := impl_nodeOk.mono_l k
 unfold impl_nodeOk.f
 repeat' first
   | (with_reducible exact ih0 _ _ _ _ _ _)
   | (with_reducible exact ih1 _ _ _ _ _)
   | (with_reducible exact impl_findKey.mono _ _ _ _ _ _)
   | (with_reducible exact LeO.refl _)
   | (with_reducible exact LeO.none _)
   | (with_reducible refine LeO.ite ?_ ?_)
   | (with_reducible refine LeO.bind ?_ (fun _ => ?_))
   | exact ih0 _ _ _ _ _ _
   | exact ih1 _ _ _ _ _
   | exact impl_findKey.mono _ _ _ _ _ _
   | exact LeO.none _
   | refine LeO.ite ?_ ?_
   | refine LeO.bind ?_ (fun _ => ?_)
def impl_nodeOk.T16 : Bool × List (List Nat × List Nat) := (true,[([],[]),([0],[0]),([1],[1]),([2],[2]),([3],[3]),([4,3],[3,4]),([5,3],[3,5]),([3,6],[3,6]),([7,3],[7]),([8],[8]),([8],[8]),([10,8],[8,10]),([8],[8]),([11,12,8],[8,11,12]),([8],[8]),([9,13,14,8,8],[8,9,13,14]),([15,8],[8,15]),([8,16],[8,16])])
def impl_nodeOk.B16 : List Nat := [0,1,3,7,15,31,63,127,255,511,511,1535,511,7679,511,32767,65535,131071]
theorem impl_nodeOk.tab16 : rtab .any (opsOf Try.f67 16) = impl_nodeOk.T16 := by kernel_rfl
theorem impl_nodeOk.bits16 : waitsOk impl_nodeOk.T16.2 impl_nodeOk.B16 = true := by kernel_rfl
set_option maxHeartbeats 8000000 in
set_option maxRecDepth 100000 in
theorem impl_nodeOk.calls (k : Nat) (A0 : Option Addr) (c0 : Nat) (l0 : List (S45)) (a1_0 : Int) (a1_1 : Int) (A1_2 : Option Addr) (c1_2 : Nat) (l1_2 : List Int) (r : Bool) (w : World) (hr0 : Kd.C k45 w A0 l0.length l0) (hc0 : l0.length ≤ c0) (hr1_2 : Kd.C (Kd.int .i64) w A1_2 l1_2.length l1_2) (hc1_2 : l1_2.length ≤ c1_2) (h : impl_nodeOk.f k l0 a1_0 a1_1 l1_2 = some r) :
  Calls Try.prog 67 #[.slice A0 l0.length c0,.agg #[.int .i64 a1_0,.int .i64 a1_1,.slice A1_2 l1_2.length c1_2]] w fun e w' => e = .returned (.bool r) ∧ Below w.heap.size w w' := by
 have hu45 := Try.underlying45
 have HR0 := As_ hr0
 have HC0 := As_ hc0
 clear hr0 hc0
 have HR1_2 := As_ hr1_2
 have HC1_2 := As_ hc1_2
 clear hr1_2 hc1_2
 have HB := As_ (Below.refl w.heap.size w)
 have H : (if a1_0 = 0 then (if a1_1 ≥ 0 then (if a1_1 ≤ 999 then (some ((l1_2.length : Int) == 0)) else (some false)) else (some false)) else (if a1_0 = 1 then (if a1_1 ≥ 0 then (if a1_1 ≤ 9 then (some ((l1_2.length : Int) == 0)) else (some false)) else (some false)) else (if a1_0 = 2 then (impl_nodeOk.j0 k l0 a1_0 (a1_0 == 2) a1_0 a1_1 l1_2) else (impl_nodeOk.j0 k l0 a1_0 (a1_0 == 3) a1_0 a1_1 l1_2)))) = some r := h
 clear h
 by_cases c3 : a1_0 = 0
 ·rw [if_pos c3] at H
  have c3b0 : (a1_0 == 0) = true := beq_iff_eq.mpr c3
  have c3b1 : (a1_0 != 0) = false := bne_eq_false_iff_eq.mpr c3
  clear c3
  by_cases c4 : a1_1 ≥ 0
  rotate_left
  ·rw [if_neg c4] at H
   have c4b0 : decide (0 ≤ a1_1) = false := deF c4
   clear c4
   obtain rfl := Option.some.inj H
   go_enter Try.func67,Try.ntmps67
   go_wp2_with (first|((with_reducible refine gate_dst (N := 3) rfl ?_);(try (refine gate_guard (by rfl) ?_;dsimp only));refine box_event ?hg (N := 3) ?hd (cs := #[.int .i64 a1_0,.int .i64 a1_1,.slice A1_2 l1_2.length c1_2]) (t := 45) ?hr ?_;(case hd => rfl);(case hg => rfl);(case hr => go_simp <;> rfl);intro gb269 hg w10 hbox hb;have n0_ := As_ (bwT (zb0 HB.out) hb);have n1_ := As_ (hbox);have n2_ := As_ ((by rw [hg];exact (bwZ (zb0 HB.out)) : w.heap.size ≤ gb269));have n3_ := As_ ((by rw [hg];exact (bwZ (zb0 HB.out)) : w.heap.size ≤ gb269));clear HB;revert n0_ n1_ n2_ n3_;intro HB BK269 GW269 GE269;clear hb hbox hg;obtain ⟨hcz11_0,hcz11_1,hcz11_2,hfz11_0,hfz11_1,hfz11_2⟩ := bk3 BK269.out))
   go_ret
   exact ⟨zE_,zb1 HB.out GE269.out⟩
  rw [if_pos c4] at H
  have c4b0 : decide (0 ≤ a1_1) = true := deT c4
  clear c4
  by_cases c5 : a1_1 ≤ 999
  ·rw [if_pos c5] at H
   have c5b0 : decide (a1_1 ≤ 999) = true := deT c5
   clear c5
   obtain rfl := Option.some.inj H
   go_enter Try.func67,Try.ntmps67
   go_wp2_with (first|((with_reducible refine gate_dst (N := 3) rfl ?_);(try (refine gate_guard (by rfl) ?_;dsimp only));refine box_event ?hg (N := 3) ?hd (cs := #[.int .i64 a1_0,.int .i64 a1_1,.slice A1_2 l1_2.length c1_2]) (t := 45) ?hr ?_;(case hd => rfl);(case hg => rfl);(case hr => go_simp <;> rfl);intro gb269 hg w6 hbox hb;have n0_ := As_ (bwT (zb0 HB.out) hb);have n1_ := As_ (hbox);have n2_ := As_ ((by rw [hg];exact (bwZ (zb0 HB.out)) : w.heap.size ≤ gb269));have n3_ := As_ ((by rw [hg];exact (bwZ (zb0 HB.out)) : w.heap.size ≤ gb269));clear HB;revert n0_ n1_ n2_ n3_;intro HB BK269 GW269 GE269;clear hb hbox hg;obtain ⟨hcz7_0,hcz7_1,hcz7_2,hfz7_0,hfz7_1,hfz7_2⟩ := bk3 BK269.out))
   go_ret
   exact ⟨zE_,zb1 HB.out GE269.out⟩
  rw [if_neg c5] at H
  have c5b0 : decide (a1_1 ≤ 999) = false := deF c5
  clear c5
  obtain rfl := Option.some.inj H
  go_enter Try.func67,Try.ntmps67
  go_wp2_with (first|((with_reducible refine gate_dst (N := 3) rfl ?_);(try (refine gate_guard (by rfl) ?_;dsimp only));refine box_event ?hg (N := 3) ?hd (cs := #[.int .i64 a1_0,.int .i64 a1_1,.slice A1_2 l1_2.length c1_2]) (t := 45) ?hr ?_;(case hd => rfl);(case hg => rfl);(case hr => go_simp <;> rfl);intro gb269 hg w8 hbox hb;have n0_ := As_ (bwT (zb0 HB.out) hb);have n1_ := As_ (hbox);have n2_ := As_ ((by rw [hg];exact (bwZ (zb0 HB.out)) : w.heap.size ≤ gb269));have n3_ := As_ ((by rw [hg];exact (bwZ (zb0 HB.out)) : w.heap.size ≤ gb269));clear HB;revert n0_ n1_ n2_ n3_;intro HB BK269 GW269 GE269;clear hb hbox hg;obtain ⟨hcz9_0,hcz9_1,hcz9_2,hfz9_0,hfz9_1,hfz9_2⟩ := bk3 BK269.out))
  go_ret
  exact ⟨zE_,zb1 HB.out GE269.out⟩
 rw [if_neg c3] at H
 have c3b0 : (a1_0 == 0) = false := beq_eq_false_iff_ne.mpr c3
 have c3b1 : (a1_0 != 0) = true := bne_iff_ne.mpr c3
 by_cases c12 : a1_0 = 1
 ·rw [if_pos c12] at H
  have c12b0 : (a1_0 == 1) = true := beq_iff_eq.mpr c12
  have c12b1 : (a1_0 != 1) = false := bne_eq_false_iff_eq.mpr c12
  clear c12
  by_cases c13 : a1_1 ≥ 0
  rotate_left
  ·rw [if_neg c13] at H
   have c13b0 : decide (0 ≤ a1_1) = false := deF c13
   clear c13
   obtain rfl := Option.some.inj H
   go_enter Try.func67,Try.ntmps67
   go_wp2_with (first|((with_reducible refine gate_dst (N := 3) rfl ?_);(try (refine gate_guard (by rfl) ?_;dsimp only));refine box_event ?hg (N := 3) ?hd (cs := #[.int .i64 a1_0,.int .i64 a1_1,.slice A1_2 l1_2.length c1_2]) (t := 45) ?hr ?_;(case hd => rfl);(case hg => rfl);(case hr => go_simp <;> rfl);intro gb269 hg w19 hbox hb;have n0_ := As_ (bwT (zb0 HB.out) hb);have n1_ := As_ (hbox);have n2_ := As_ ((by rw [hg];exact (bwZ (zb0 HB.out)) : w.heap.size ≤ gb269));have n3_ := As_ ((by rw [hg];exact (bwZ (zb0 HB.out)) : w.heap.size ≤ gb269));clear HB;revert n0_ n1_ n2_ n3_;intro HB BK269 GW269 GE269;clear hb hbox hg;obtain ⟨hcz20_0,hcz20_1,hcz20_2,hfz20_0,hfz20_1,hfz20_2⟩ := bk3 BK269.out))
   go_ret
   exact ⟨zE_,zb1 HB.out GE269.out⟩
  rw [if_pos c13] at H
  have c13b0 : decide (0 ≤ a1_1) = true := deT c13
  clear c13
  by_cases c14 : a1_1 ≤ 9
  ·rw [if_pos c14] at H
   have c14b0 : decide (a1_1 ≤ 9) = true := deT c14
   clear c14
   obtain rfl := Option.some.inj H
   go_enter Try.func67,Try.ntmps67
   go_wp2_with (first|((with_reducible refine gate_dst (N := 3) rfl ?_);(try (refine gate_guard (by rfl) ?_;dsimp only));refine box_event ?hg (N := 3) ?hd (cs := #[.int .i64 a1_0,.int .i64 a1_1,.slice A1_2 l1_2.length c1_2]) (t := 45) ?hr ?_;(case hd => rfl);(case hg => rfl);(case hr => go_simp <;> rfl);intro gb269 hg w15 hbox hb;have n0_ := As_ (bwT (zb0 HB.out) hb);have n1_ := As_ (hbox);have n2_ := As_ ((by rw [hg];exact (bwZ (zb0 HB.out)) : w.heap.size ≤ gb269));have n3_ := As_ ((by rw [hg];exact (bwZ (zb0 HB.out)) : w.heap.size ≤ gb269));clear HB;revert n0_ n1_ n2_ n3_;intro HB BK269 GW269 GE269;clear hb hbox hg;obtain ⟨hcz16_0,hcz16_1,hcz16_2,hfz16_0,hfz16_1,hfz16_2⟩ := bk3 BK269.out))
   go_ret
   exact ⟨zE_,zb1 HB.out GE269.out⟩
  rw [if_neg c14] at H
  have c14b0 : decide (a1_1 ≤ 9) = false := deF c14
  clear c14
  obtain rfl := Option.some.inj H
  go_enter Try.func67,Try.ntmps67
  go_wp2_with (first|((with_reducible refine gate_dst (N := 3) rfl ?_);(try (refine gate_guard (by rfl) ?_;dsimp only));refine box_event ?hg (N := 3) ?hd (cs := #[.int .i64 a1_0,.int .i64 a1_1,.slice A1_2 l1_2.length c1_2]) (t := 45) ?hr ?_;(case hd => rfl);(case hg => rfl);(case hr => go_simp <;> rfl);intro gb269 hg w17 hbox hb;have n0_ := As_ (bwT (zb0 HB.out) hb);have n1_ := As_ (hbox);have n2_ := As_ ((by rw [hg];exact (bwZ (zb0 HB.out)) : w.heap.size ≤ gb269));have n3_ := As_ ((by rw [hg];exact (bwZ (zb0 HB.out)) : w.heap.size ≤ gb269));clear HB;revert n0_ n1_ n2_ n3_;intro HB BK269 GW269 GE269;clear hb hbox hg;obtain ⟨hcz18_0,hcz18_1,hcz18_2,hfz18_0,hfz18_1,hfz18_2⟩ := bk3 BK269.out))
  go_ret
  exact ⟨zE_,zb1 HB.out GE269.out⟩
 rw [if_neg c12] at H
 have c12b0 : (a1_0 == 1) = false := beq_eq_false_iff_ne.mpr c12
 have c12b1 : (a1_0 != 1) = true := bne_iff_ne.mpr c12
 have HC21 := As_ H
 clear H
 go_enter Try.func67,Try.ntmps67
 go_upto_if 41 with (first|((with_reducible refine gate_dst (N := 3) rfl ?_);(try (refine gate_guard (by rfl) ?_;dsimp only));refine box_event ?hg (N := 3) ?hd (cs := #[.int .i64 a1_0,.int .i64 a1_1,.slice A1_2 l1_2.length c1_2]) (t := 45) ?hr ?_;(case hd => rfl);(case hg => rfl);(case hr => go_simp <;> rfl);intro gb269 hg w22 hbox hb;have n0_ := As_ (bwT (zb0 HB.out) hb);have n1_ := As_ (hbox);have n2_ := As_ ((by rw [hg];exact (bwZ (zb0 HB.out)) : w.heap.size ≤ gb269));have n3_ := As_ ((by rw [hg];exact (bwZ (zb0 HB.out)) : w.heap.size ≤ gb269));clear HB;revert n0_ n1_ n2_ n3_;intro HB BK269 GW269 GE269;clear hb hbox hg;obtain ⟨hcz23_0,hcz23_1,hcz23_2,hfz23_0,hfz23_1,hfz23_2⟩ := bk3 BK269.out))
 (try simp only [Act.put,List.setIfInBounds_toArray,List.set_cons_zero,List.set_cons_succ])
 go_cut [41] (fun v41 wc => ∃ (kq : Nat) (x41_20 : Bool),v41 = .bool x41_20 ∧ Aside0 (impl_nodeOk.j0 kq l0 a1_0 x41_20 a1_0 a1_1 l1_2 = some r) ∧ Aside0 (kq ≤ k) ∧ Aside0 (wc.heap[gb269]? = some (.cells #[.int .i64 a1_0,.int .i64 a1_1,(.slice A1_2 l1_2.length c1_2)] 45 (0,0))) ∧ Aside0 (Below w.heap.size w wc))
 case first =>
  have H := HC21.out
  clear HC21
  by_cases c24 : a1_0 = 2
  rotate_left
  ·rw [if_neg c24] at H
   have c24b0 : (a1_0 == 2) = false := beq_eq_false_iff_ne.mpr c24
   have c24b1 : (a1_0 != 2) = true := bne_iff_ne.mpr c24
   (first|rw [c24b0]|(simp only [i64_w,i32_w];rw [c24b0])|skip)
   have H' := As_ H
   clear H
   go_wp2
   go_meet
   case rel => exact ⟨_,((a1_0 == 3)),zT_,H',⟨by first|omega|exact Nat.le_refl _⟩,⟨by (with_reducible repeat first|apply bkN|apply bkD|apply bkA);exact BK269.out⟩,⟨zb1 HB.out GE269.out⟩⟩
  rw [if_pos c24] at H
  have c24b0 : (a1_0 == 2) = true := beq_iff_eq.mpr c24
  have c24b1 : (a1_0 != 2) = false := bne_eq_false_iff_eq.mpr c24
  clear c24
  (first|rw [c24b0]|(simp only [i64_w,i32_w];rw [c24b0])|skip)
  have H' := As_ H
  clear H
  go_wp2
  go_meet
  case rel => exact ⟨_,((a1_0 == 2)),zT_,H',⟨by first|omega|exact Nat.le_refl _⟩,⟨by (with_reducible repeat first|apply bkN|apply bkD|apply bkA);exact BK269.out⟩,⟨zb1 HB.out GE269.out⟩⟩
 case rest =>
  clear HC21
  obtain ⟨kq,x41_20,rfl,HA,HJ20,BK269,HB⟩ := hcut
  cases kq with
  | zero => exact absurd HA.out (fun h_ => (by cases h_))
  | succ kj20 =>
   have H := HA.out
   clear HA
   simp only [impl_nodeOk.j0] at H
   by_cases c25 : x41_20 = true
   ·subst c25
    have H1 : (some (a1_1 == 0)) = some r := by rw [if_pos rfl] at H;exact H
    clear H
    have H := H1
    clear H1
    obtain rfl := Option.some.inj H
    obtain ⟨hcz26_0,hcz26_1,hcz26_2,hfz26_0,hfz26_1,hfz26_2⟩ := bk3 BK269.out
    go_wp2
    go_ret
    exact ⟨zE_,zb1 HB.out GE269.out⟩
   replace c25 := Bool.eq_false_iff.mpr c25
   subst c25
   have H1 : (if a1_0 = 5 then (if a1_1 ≥ 0 then (if a1_1 ≤ 9 then (some (decide ((l1_2.length : Int) ≤ 1))) else (some false)) else (some false)) else (if a1_0 = 4 then (impl_nodeOk.l0 kj20 l0 0 a1_0 a1_1 l1_2) else (some false))) = some r := by rw [if_neg (show ¬ (false = true) by decide)] at H;exact H
   clear H
   have H := H1
   clear H1
   by_cases c27 : a1_0 = 5
   ·rw [if_pos c27] at H
    have c27b0 : (a1_0 == 5) = true := beq_iff_eq.mpr c27
    have c27b1 : (a1_0 != 5) = false := bne_eq_false_iff_eq.mpr c27
    clear c27
    by_cases c28 : a1_1 ≥ 0
    rotate_left
    ·rw [if_neg c28] at H
     have c28b0 : decide (0 ≤ a1_1) = false := deF c28
     clear c28
     obtain rfl := Option.some.inj H
     obtain ⟨hcz32_0,hcz32_1,hcz32_2,hfz32_0,hfz32_1,hfz32_2⟩ := bk3 BK269.out
     go_wp2
     go_ret
     exact ⟨zE_,zb1 HB.out GE269.out⟩
    rw [if_pos c28] at H
    have c28b0 : decide (0 ≤ a1_1) = true := deT c28
    clear c28
    by_cases c29 : a1_1 ≤ 9
    ·rw [if_pos c29] at H
     have c29b0 : decide (a1_1 ≤ 9) = true := deT c29
     clear c29
     obtain rfl := Option.some.inj H
     obtain ⟨hcz30_0,hcz30_1,hcz30_2,hfz30_0,hfz30_1,hfz30_2⟩ := bk3 BK269.out
     go_wp2
     go_ret
     exact ⟨zE_,zb1 HB.out GE269.out⟩
    rw [if_neg c29] at H
    have c29b0 : decide (a1_1 ≤ 9) = false := deF c29
    clear c29
    obtain rfl := Option.some.inj H
    obtain ⟨hcz31_0,hcz31_1,hcz31_2,hfz31_0,hfz31_1,hfz31_2⟩ := bk3 BK269.out
    go_wp2
    go_ret
    exact ⟨zE_,zb1 HB.out GE269.out⟩
   rw [if_neg c27] at H
   have c27b0 : (a1_0 == 5) = false := beq_eq_false_iff_ne.mpr c27
   have c27b1 : (a1_0 != 5) = true := bne_iff_ne.mpr c27
   by_cases c33 : a1_0 = 4
   rotate_left
   ·rw [if_neg c33] at H
    have c33b0 : (a1_0 == 4) = false := beq_eq_false_iff_ne.mpr c33
    have c33b1 : (a1_0 != 4) = true := bne_iff_ne.mpr c33
    obtain rfl := Option.some.inj H
    go_wp2
    go_ret
    exact ⟨zE_,zb1 HB.out GE269.out⟩

   rw [if_pos c33] at H
   have c33b0 : (a1_0 == 4) = true := beq_iff_eq.mpr c33
   have c33b1 : (a1_0 != 4) = false := bne_eq_false_iff_eq.mpr c33
   clear c33
   have H' := As_ H
   clear H
   go_wp2
   go_loopg [5] kj20 (fun kq v5 w' => ∃ (x5_2 : Int),v5 = .int .i64 x5_2 ∧ Aside0 (impl_nodeOk.l0 kq l0 x5_2 a1_0 a1_1 l1_2 = some r) ∧ Aside0 (kq ≤ kj20) ∧ Aside0 (w'.heap[gb269]? = some (.cells #[.int .i64 a1_0,.int .i64 a1_1,(.slice A1_2 l1_2.length c1_2)] 45 (0,0))) ∧ Aside0 (Below w.heap.size w w'))
   case atStart => exact ⟨(0),zT_,H',⟨Nat.le_refl _⟩,⟨by (with_reducible repeat first|apply bkN|apply bkD|apply bkA);exact BK269.out⟩,⟨zb1 HB.out GE269.out⟩⟩
   case round =>
    clear H'
    obtain ⟨x5_2,rfl,HA,HK2,BK269,HB⟩ := hrel
    cases gk with
    | zero => exact absurd HA.out (fun h_ => (by cases h_))
    | succ k2 =>
     have H := HA.out
     clear HA
     simp only [impl_nodeOk.l0] at H
     by_cases c34 : x5_2 < (l1_2.length : Int)
     rotate_left
     ·rw [if_neg c34] at H
      have c34b0 : decide (x5_2 < (l1_2.length : Int)) = false := deF c34
      clear c34
      by_cases c72 : a1_1 = 0
      rotate_left
      ·rw [if_neg c72] at H
       have c72b0 : (a1_1 == 0) = false := beq_eq_false_iff_ne.mpr c72
       have c72b1 : (a1_1 != 0) = true := bne_iff_ne.mpr c72
       obtain rfl := Option.some.inj H
       obtain ⟨hcz74_0,hcz74_1,hcz74_2,hfz74_0,hfz74_1,hfz74_2⟩ := bk3 BK269.out
       go_wp2
       go_ret
       exact ⟨zE_,zb1 HB.out GE269.out⟩
      rw [if_pos c72] at H
      have c72b0 : (a1_1 == 0) = true := beq_iff_eq.mpr c72
      have c72b1 : (a1_1 != 0) = false := bne_eq_false_iff_eq.mpr c72
      clear c72
      obtain rfl := Option.some.inj H
      obtain ⟨hcz73_0,hcz73_1,hcz73_2,hfz73_0,hfz73_1,hfz73_2⟩ := bk3 BK269.out
      go_wp2
      go_ret
      exact ⟨zE_,zb1 HB.out GE269.out⟩
     rw [if_pos c34] at H
     have c34b0 : decide (x5_2 < (l1_2.length : Int)) = true := deT c34
     clear c34
     by_cases c35 : 0 ≤ x5_2
     rotate_left
     ·rw [if_neg c35] at H
      exact absurd H (by simp)
     rw [if_pos c35] at H
     have c35b0 : decide (0 ≤ x5_2) = true := deT c35
     clear c35
     by_cases c36 : 0 ≤ (rd l1_2 x5_2)
     rotate_left
     ·rw [if_neg c36] at H
      exact absurd H (by simp)
     rw [if_pos c36] at H
     have c36b0 : decide (0 ≤ (rd l1_2 x5_2)) = true := deT c36
     clear c36
     by_cases c37 : (rd l1_2 x5_2) < (l0.length : Int)
     rotate_left
     ·rw [if_neg c37] at H
      exact absurd H (by simp)
     rw [if_pos c37] at H
     have c37b0 : decide ((rd l1_2 x5_2) < (l0.length : Int)) = true := deT c37
     clear c37
     by_cases c38 : ((rd_T45 l0 (rd l1_2 x5_2)).f0) > 1
     ·rw [if_pos c38] at H
      have c38b0 : decide (1 < ((rd_T45 l0 (rd l1_2 x5_2)).f0)) = true := deT c38
      clear c38
      obtain rfl := Option.some.inj H
      obtain ⟨hcz39_0,hcz39_1,hcz39_2,hfz39_0,hfz39_1,hfz39_2⟩ := bk3 BK269.out
      have p270 : 0 ≤ (x5_2 : Int) := odT zA_
      have q270 : x5_2 < (l1_2.length : Int) := odT zA_
      obtain ⟨ad270,e270,hx270_0⟩ := Kd.at_int HR1_2.out x5_2 p270 q270
      cases e270
      replace hx270_0 := bwC HB.out hx270_0
      replace p270 := eq_true p270
      replace q270 := eq_true q270
      have p271 : 0 ≤ ((rd l1_2 x5_2) : Int) := odT zA_
      have q271 : (rd l1_2 x5_2) < (l0.length : Int) := odT zA_
      obtain ⟨ad271,A271_2,c271_2,e271,hx271_0,hx271_1,hx271_2,hl271_2,hi271_2⟩ := at_T45 HR0.out (rd l1_2 x5_2) p271 q271
      cases e271
      replace hx271_0 := bwC HB.out hx271_0
      replace hx271_1 := bwC HB.out hx271_1
      replace hx271_2 := bwC HB.out hx271_2
      have HR271_2 := As_ hi271_2
      have HC271_2 := As_ hl271_2
      clear hi271_2 hl271_2
      replace p271 := eq_true p271
      replace q271 := eq_true q271
      try go_wp2_with (first|((with_reducible refine gate_dst (N := 6) rfl ?_);(try (refine gate_guard (by rfl) ?_;dsimp only));refine box_event ?hg (N := 6) ?hd (cs := #[.int .i64 0,.int .i64 0,.slice none 0 0]) (t := 45) ?hr ?_;(case hd => rfl);(case hg => rfl);(case hr => go_simp <;> rfl);intro gb272 hg w40 hbox hb;have n0_ := As_ (zkb BK269.out hb);have n1_ := As_ (bwT (zb1 HB.out GE269.out) hb);have n2_ := As_ (hbox);have n3_ := As_ ((by rw [hg];exact (bwZ (zb1 HB.out GE269.out)) : w.heap.size ≤ gb272));have n4_ := As_ ((by rw [hg];exact (bwZ (zb1 HB.out GE269.out)) : w.heap.size ≤ gb272));have n5_ := As_ ((by rw [hg];exact Nat.ne_of_lt (zkl BK269.out) : gb269 ≠ gb272));have n6_ := As_ ((by rw [hg];exact Nat.ne_of_gt (zkl BK269.out) : gb272 ≠ gb269));clear BK269 HB;revert n0_ n1_ n2_ n3_ n4_ n5_ n6_;intro BK269 HB BK272 GW272 GE272 NB269_272 NB272_269;clear hb hbox hg;have hnb41 := NB272_269.out;have hnc41 := NB269_272.out;obtain ⟨hcz42_0,hcz42_1,hcz42_2,hfz42_0,hfz42_1,hfz42_2⟩ := bk3 BK272.out))
      have n0_ : Aside0 ((((w40.setCell ⟨gb272,0,none⟩ (.int .i64 ((rd_T45 l0 (rd l1_2 x5_2)).f0))).setCell ⟨gb272,1,none⟩ (.int .i64 ((rd_T45 l0 (rd l1_2 x5_2)).f1))).setCell ⟨gb272,2,none⟩ (.slice A271_2 ((rd_T45 l0 (rd l1_2 x5_2)).f2).length c271_2)).heap[gb269]? = some (.cells #[.int .i64 a1_0,.int .i64 a1_1,.slice (some ad270) l1_2.length c1_2] 45 (0,0))) := ⟨by (with_reducible repeat first|apply bkN|apply bkD|apply bkA);refine blk_far ?_ NB269_272.out _;(with_reducible repeat first|apply bkN|apply bkD|apply bkA);refine blk_far ?_ NB269_272.out _;(with_reducible repeat first|apply bkN|apply bkD|apply bkA);refine blk_far ?_ NB269_272.out _;(with_reducible repeat first|apply bkN|apply bkD|apply bkA);exact BK269.out⟩
      have n1_ : Aside0 ((((w40.setCell ⟨gb272,0,none⟩ (.int .i64 ((rd_T45 l0 (rd l1_2 x5_2)).f0))).setCell ⟨gb272,1,none⟩ (.int .i64 ((rd_T45 l0 (rd l1_2 x5_2)).f1))).setCell ⟨gb272,2,none⟩ (.slice A271_2 ((rd_T45 l0 (rd l1_2 x5_2)).f2).length c271_2)).heap[gb272]? = some (.cells #[.int .i64 ((rd_T45 l0 (rd l1_2 x5_2)).f0),.int .i64 ((rd_T45 l0 (rd l1_2 x5_2)).f1),.slice A271_2 ((rd_T45 l0 (rd l1_2 x5_2)).f2).length c271_2] 45 (0,0))) := ⟨by (with_reducible repeat first|apply bkN|apply bkD|apply bkA);refine blk_put (cs := #[.int .i64 ((rd_T45 l0 (rd l1_2 x5_2)).f0),.int .i64 ((rd_T45 l0 (rd l1_2 x5_2)).f1),.slice none 0 0]) ?_ 2 _ rfl;(with_reducible repeat first|apply bkN|apply bkD|apply bkA);refine blk_put (cs := #[.int .i64 ((rd_T45 l0 (rd l1_2 x5_2)).f0),.int .i64 0,.slice none 0 0]) ?_ 1 _ rfl;(with_reducible repeat first|apply bkN|apply bkD|apply bkA);refine blk_put (cs := #[.int .i64 0,.int .i64 0,.slice none 0 0]) ?_ 0 _ rfl;(with_reducible repeat first|apply bkN|apply bkD|apply bkA);exact BK272.out⟩
      have n2_ : Aside0 (Below w.heap.size w (((w40.setCell ⟨gb272,0,none⟩ (.int .i64 ((rd_T45 l0 (rd l1_2 x5_2)).f0))).setCell ⟨gb272,1,none⟩ (.int .i64 ((rd_T45 l0 (rd l1_2 x5_2)).f1))).setCell ⟨gb272,2,none⟩ (.slice A271_2 ((rd_T45 l0 (rd l1_2 x5_2)).f2).length c271_2))) := ⟨zb2 HB.out GE269.out GE272.out⟩
      generalize (((w40.setCell ⟨gb272,0,none⟩ (.int .i64 ((rd_T45 l0 (rd l1_2 x5_2)).f0))).setCell ⟨gb272,1,none⟩ (.int .i64 ((rd_T45 l0 (rd l1_2 x5_2)).f1))).setCell ⟨gb272,2,none⟩ (.slice A271_2 ((rd_T45 l0 (rd l1_2 x5_2)).f2).length c271_2)) = w43 at n0_ n1_ n2_ ⊢
      revert n0_ n1_ n2_;intro BK269 BK272 HB
      have n0_ := As_ (bkD BK269.out)
      have n1_ := As_ (bkD BK272.out)
      have n2_ := As_ (bwD HB.out)
      clear BK269 BK272 HB
      revert n0_ n1_ n2_;intro BK269 BK272 HB
      refine start_ (n := 18) (S := fun w' => w'.cell? ⟨gb272,0,none⟩ = some (.int .i64 ((rd_T45 l0 (rd l1_2 x5_2)).f0)) ∧ w'.cell? ⟨gb272,1,none⟩ = some (.int .i64 ((rd_T45 l0 (rd l1_2 x5_2)).f1)) ∧ w'.cell? ⟨gb272,2,none⟩ = some (.slice A271_2 ((rd_T45 l0 (rd l1_2 x5_2)).f2).length c271_2)) (ds := []) (bl_ 0 18) (by kernel_rfl) rfl rfl ⟨(bkC BK272.out 0).trans rfl,(bkC BK272.out 1).trans rfl,(bkC BK272.out 2).trans rfl⟩ (fun hHeld => ?_);refine with_tabW impl_nodeOk.tab16 impl_nodeOk.bits16 (fun HT_ HW_ => ?_)
      generalize w43.drew = w44 at BK269 BK272 HB hHeld ⊢
      refine pQ 0 80 (bl_ 1 18) HT_ rfl ?_
      refine tP 1 81 (bl_ 3 18) ?_ HT_ HW_ rfl (.inl ⟨by rfl,?_⟩) hHeld ?_ ?_ ?_;rotate_left;(rintro w' ⟨s0,s1,s2⟩;go_simp;with_reducible rfl);rotate_left;(simp only [Act.put,sq_,i64_w,i32_w];rfl)
      refine pQ 2 82 (bl_ 7 18) HT_ rfl ?_
      refine pQ 3 83 (bl_ 15 18) HT_ rfl ?_
      refine uP 4 84 (bl_ 31 18) ?_ HT_ rfl (.inr ⟨by rfl,rfl⟩) ?_ ?_;rotate_left;(simp only [Act.put,sq_,i64_w,i32_w];rfl)
      refine uP 5 85 (bl_ 63 18) ?_ HT_ rfl (.inr ⟨by rfl,rfl⟩) ?_ ?_;rotate_left;(simp only [Act.put,sq_,i64_w,i32_w];rfl)
      refine uP 6 86 (bl_ 127 18) ?_ HT_ rfl (.inr ⟨by rfl,rfl⟩) ?_ ?_;rotate_left;(simp only [Act.put,sq_,i64_w,i32_w];rfl)
      refine pQ 7 87 (bl_ 255 18) HT_ rfl ?_
      refine pQ 8 88 (bl_ 511 18) HT_ rfl ?_
      refine uP 9 89 (bl_ 1023 18) ?_ HT_ rfl (.inr ⟨by rfl,rfl⟩) ?_ ?_;rotate_left;(simp only [Act.put,sq_,i64_w,i32_w];rfl)
      refine uP 10 90 (bl_ 2047 18) ?_ HT_ rfl (.inr ⟨by rfl,rfl⟩) ?_ ?_;rotate_left;(simp only [Act.put,sq_,i64_w,i32_w];rfl)
      refine uP 11 91 (bl_ 4095 18) ?_ HT_ rfl (.inr ⟨by rfl,rfl⟩) ?_ ?_;rotate_left;(simp only [Act.put,sq_,i64_w,i32_w];rfl)
      refine uP 12 92 (bl_ 8191 18) ?_ HT_ rfl (.inr ⟨by rfl,rfl⟩) ?_ ?_;rotate_left;(simp only [Act.put,sq_,i64_w,i32_w];rfl)
      refine uP 13 93 (bl_ 16383 18) ?_ HT_ rfl (.inr ⟨by rfl,rfl⟩) ?_ ?_;rotate_left;(simp only [Act.put,sq_,i64_w,i32_w];rfl)
      refine uP 14 94 (bl_ 32767 18) ?_ HT_ rfl (.inr ⟨by rfl,rfl⟩) ?_ ?_;rotate_left;(simp only [Act.put,sq_,i64_w,i32_w];rfl)
      refine uP 15 95 (bl_ 65535 18) ?_ HT_ rfl (.inr ⟨by rfl,rfl⟩) ?_ ?_;rotate_left;(simp only [Act.put,sq_,i64_w,i32_w];rfl)
      refine uP 16 96 (bl_ 131071 18) ?_ HT_ rfl (.inr ⟨by rfl,rfl⟩) ?_ ?_;rotate_left;(simp only [Act.put,sq_,i64_w,i32_w];rfl)
      refine pQ 17 97 (bl_ 262143 18) HT_ rfl ?_
      refine done_ (done_of HT_.out (by kernel_rfl)) ?_
      try go_wp2
      go_ret
      exact ⟨zE_,zb2 HB.out GE269.out GE272.out⟩
     rw [if_neg c38] at H
     have c38b0 : decide (1 < ((rd_T45 l0 (rd l1_2 x5_2)).f0)) = false := deF c38
     clear c38
     by_cases c45 : ((rd_T45 l0 (rd l1_2 x5_2)).f0) < 0
     ·rw [if_pos c45] at H
      have c45b0 : decide (((rd_T45 l0 (rd l1_2 x5_2)).f0) < 0) = true := deT c45
      clear c45
      obtain rfl := Option.some.inj H
      obtain ⟨hcz46_0,hcz46_1,hcz46_2,hfz46_0,hfz46_1,hfz46_2⟩ := bk3 BK269.out
      have p270 : 0 ≤ (x5_2 : Int) := odT zA_
      have q270 : x5_2 < (l1_2.length : Int) := odT zA_
      obtain ⟨ad270,e270,hx270_0⟩ := Kd.at_int HR1_2.out x5_2 p270 q270
      cases e270
      replace hx270_0 := bwC HB.out hx270_0
      replace p270 := eq_true p270
      replace q270 := eq_true q270
      have p271 : 0 ≤ ((rd l1_2 x5_2) : Int) := odT zA_
      have q271 : (rd l1_2 x5_2) < (l0.length : Int) := odT zA_
      obtain ⟨ad271,A271_2,c271_2,e271,hx271_0,hx271_1,hx271_2,hl271_2,hi271_2⟩ := at_T45 HR0.out (rd l1_2 x5_2) p271 q271
      cases e271
      replace hx271_0 := bwC HB.out hx271_0
      replace hx271_1 := bwC HB.out hx271_1
      replace hx271_2 := bwC HB.out hx271_2
      have HR271_2 := As_ hi271_2
      have HC271_2 := As_ hl271_2
      clear hi271_2 hl271_2
      replace p271 := eq_true p271
      replace q271 := eq_true q271
      try go_wp2_with (first|((with_reducible refine gate_dst (N := 6) rfl ?_);(try (refine gate_guard (by rfl) ?_;dsimp only));refine box_event ?hg (N := 6) ?hd (cs := #[.int .i64 0,.int .i64 0,.slice none 0 0]) (t := 45) ?hr ?_;(case hd => rfl);(case hg => rfl);(case hr => go_simp <;> rfl);intro gb272 hg w47 hbox hb;have n0_ := As_ (zkb BK269.out hb);have n1_ := As_ (bwT (zb1 HB.out GE269.out) hb);have n2_ := As_ (hbox);have n3_ := As_ ((by rw [hg];exact (bwZ (zb1 HB.out GE269.out)) : w.heap.size ≤ gb272));have n4_ := As_ ((by rw [hg];exact (bwZ (zb1 HB.out GE269.out)) : w.heap.size ≤ gb272));have n5_ := As_ ((by rw [hg];exact Nat.ne_of_lt (zkl BK269.out) : gb269 ≠ gb272));have n6_ := As_ ((by rw [hg];exact Nat.ne_of_gt (zkl BK269.out) : gb272 ≠ gb269));clear BK269 HB;revert n0_ n1_ n2_ n3_ n4_ n5_ n6_;intro BK269 HB BK272 GW272 GE272 NB269_272 NB272_269;clear hb hbox hg;have hnb48 := NB272_269.out;have hnc48 := NB269_272.out;obtain ⟨hcz49_0,hcz49_1,hcz49_2,hfz49_0,hfz49_1,hfz49_2⟩ := bk3 BK272.out))
      have n0_ : Aside0 ((((w47.setCell ⟨gb272,0,none⟩ (.int .i64 ((rd_T45 l0 (rd l1_2 x5_2)).f0))).setCell ⟨gb272,1,none⟩ (.int .i64 ((rd_T45 l0 (rd l1_2 x5_2)).f1))).setCell ⟨gb272,2,none⟩ (.slice A271_2 ((rd_T45 l0 (rd l1_2 x5_2)).f2).length c271_2)).heap[gb269]? = some (.cells #[.int .i64 a1_0,.int .i64 a1_1,.slice (some ad270) l1_2.length c1_2] 45 (0,0))) := ⟨by (with_reducible repeat first|apply bkN|apply bkD|apply bkA);refine blk_far ?_ NB269_272.out _;(with_reducible repeat first|apply bkN|apply bkD|apply bkA);refine blk_far ?_ NB269_272.out _;(with_reducible repeat first|apply bkN|apply bkD|apply bkA);refine blk_far ?_ NB269_272.out _;(with_reducible repeat first|apply bkN|apply bkD|apply bkA);exact BK269.out⟩
      have n1_ : Aside0 ((((w47.setCell ⟨gb272,0,none⟩ (.int .i64 ((rd_T45 l0 (rd l1_2 x5_2)).f0))).setCell ⟨gb272,1,none⟩ (.int .i64 ((rd_T45 l0 (rd l1_2 x5_2)).f1))).setCell ⟨gb272,2,none⟩ (.slice A271_2 ((rd_T45 l0 (rd l1_2 x5_2)).f2).length c271_2)).heap[gb272]? = some (.cells #[.int .i64 ((rd_T45 l0 (rd l1_2 x5_2)).f0),.int .i64 ((rd_T45 l0 (rd l1_2 x5_2)).f1),.slice A271_2 ((rd_T45 l0 (rd l1_2 x5_2)).f2).length c271_2] 45 (0,0))) := ⟨by (with_reducible repeat first|apply bkN|apply bkD|apply bkA);refine blk_put (cs := #[.int .i64 ((rd_T45 l0 (rd l1_2 x5_2)).f0),.int .i64 ((rd_T45 l0 (rd l1_2 x5_2)).f1),.slice none 0 0]) ?_ 2 _ rfl;(with_reducible repeat first|apply bkN|apply bkD|apply bkA);refine blk_put (cs := #[.int .i64 ((rd_T45 l0 (rd l1_2 x5_2)).f0),.int .i64 0,.slice none 0 0]) ?_ 1 _ rfl;(with_reducible repeat first|apply bkN|apply bkD|apply bkA);refine blk_put (cs := #[.int .i64 0,.int .i64 0,.slice none 0 0]) ?_ 0 _ rfl;(with_reducible repeat first|apply bkN|apply bkD|apply bkA);exact BK272.out⟩
      have n2_ : Aside0 (Below w.heap.size w (((w47.setCell ⟨gb272,0,none⟩ (.int .i64 ((rd_T45 l0 (rd l1_2 x5_2)).f0))).setCell ⟨gb272,1,none⟩ (.int .i64 ((rd_T45 l0 (rd l1_2 x5_2)).f1))).setCell ⟨gb272,2,none⟩ (.slice A271_2 ((rd_T45 l0 (rd l1_2 x5_2)).f2).length c271_2))) := ⟨zb2 HB.out GE269.out GE272.out⟩
      generalize (((w47.setCell ⟨gb272,0,none⟩ (.int .i64 ((rd_T45 l0 (rd l1_2 x5_2)).f0))).setCell ⟨gb272,1,none⟩ (.int .i64 ((rd_T45 l0 (rd l1_2 x5_2)).f1))).setCell ⟨gb272,2,none⟩ (.slice A271_2 ((rd_T45 l0 (rd l1_2 x5_2)).f2).length c271_2)) = w50 at n0_ n1_ n2_ ⊢
      revert n0_ n1_ n2_;intro BK269 BK272 HB
      have n0_ := As_ (bkD BK269.out)
      have n1_ := As_ (bkD BK272.out)
      have n2_ := As_ (bwD HB.out)
      clear BK269 BK272 HB
      revert n0_ n1_ n2_;intro BK269 BK272 HB
      refine start_ (n := 18) (S := fun w' => w'.cell? ⟨gb272,0,none⟩ = some (.int .i64 ((rd_T45 l0 (rd l1_2 x5_2)).f0)) ∧ w'.cell? ⟨gb272,1,none⟩ = some (.int .i64 ((rd_T45 l0 (rd l1_2 x5_2)).f1)) ∧ w'.cell? ⟨gb272,2,none⟩ = some (.slice A271_2 ((rd_T45 l0 (rd l1_2 x5_2)).f2).length c271_2)) (ds := []) (bl_ 0 18) (by kernel_rfl) rfl rfl ⟨(bkC BK272.out 0).trans rfl,(bkC BK272.out 1).trans rfl,(bkC BK272.out 2).trans rfl⟩ (fun hHeld => ?_);refine with_tabW impl_nodeOk.tab16 impl_nodeOk.bits16 (fun HT_ HW_ => ?_)
      generalize w50.drew = w51 at BK269 BK272 HB hHeld ⊢
      refine pQ 0 80 (bl_ 1 18) HT_ rfl ?_
      refine tP 1 81 (bl_ 3 18) ?_ HT_ HW_ rfl (.inl ⟨by rfl,?_⟩) hHeld ?_ ?_ ?_;rotate_left;(rintro w' ⟨s0,s1,s2⟩;go_simp;with_reducible rfl);rotate_left;(simp only [Act.put,sq_,i64_w,i32_w];rfl)
      refine pQ 2 82 (bl_ 7 18) HT_ rfl ?_
      refine pQ 3 83 (bl_ 15 18) HT_ rfl ?_
      refine pQ 4 84 (bl_ 31 18) HT_ rfl ?_
      refine tP 5 85 (bl_ 63 18) ?_ HT_ HW_ rfl (.inl ⟨by rfl,?_⟩) hHeld ?_ ?_ ?_;rotate_left;(rintro w' ⟨s0,s1,s2⟩;go_simp;with_reducible rfl);rotate_left;(simp only [Act.put,sq_,i64_w,i32_w];rfl)
      refine pQ 6 86 (bl_ 127 18) HT_ rfl ?_
      refine pQ 7 87 (bl_ 255 18) HT_ rfl ?_
      refine pQ 8 88 (bl_ 511 18) HT_ rfl ?_
      refine uP 9 89 (bl_ 1023 18) ?_ HT_ rfl (.inr ⟨by rfl,rfl⟩) ?_ ?_;rotate_left;(simp only [Act.put,sq_,i64_w,i32_w];rfl)
      refine uP 10 90 (bl_ 2047 18) ?_ HT_ rfl (.inr ⟨by rfl,rfl⟩) ?_ ?_;rotate_left;(simp only [Act.put,sq_,i64_w,i32_w];rfl)
      refine uP 11 91 (bl_ 4095 18) ?_ HT_ rfl (.inr ⟨by rfl,rfl⟩) ?_ ?_;rotate_left;(simp only [Act.put,sq_,i64_w,i32_w];rfl)
      refine uP 12 92 (bl_ 8191 18) ?_ HT_ rfl (.inr ⟨by rfl,rfl⟩) ?_ ?_;rotate_left;(simp only [Act.put,sq_,i64_w,i32_w];rfl)
      refine uP 13 93 (bl_ 16383 18) ?_ HT_ rfl (.inr ⟨by rfl,rfl⟩) ?_ ?_;rotate_left;(simp only [Act.put,sq_,i64_w,i32_w];rfl)
      refine uP 14 94 (bl_ 32767 18) ?_ HT_ rfl (.inr ⟨by rfl,rfl⟩) ?_ ?_;rotate_left;(simp only [Act.put,sq_,i64_w,i32_w];rfl)
      refine uP 15 95 (bl_ 65535 18) ?_ HT_ rfl (.inr ⟨by rfl,rfl⟩) ?_ ?_;rotate_left;(simp only [Act.put,sq_,i64_w,i32_w];rfl)
      refine uP 16 96 (bl_ 131071 18) ?_ HT_ rfl (.inr ⟨by rfl,rfl⟩) ?_ ?_;rotate_left;(simp only [Act.put,sq_,i64_w,i32_w];rfl)
      refine pQ 17 97 (bl_ 262143 18) HT_ rfl ?_
      refine done_ (done_of HT_.out (by kernel_rfl)) ?_
      try go_wp2
      go_ret
      exact ⟨zE_,zb2 HB.out GE269.out GE272.out⟩
     rw [if_neg c45] at H
     have c45b0 : decide (((rd_T45 l0 (rd l1_2 x5_2)).f0) < 0) = false := deF c45
     clear c45
     have c52b0 := eq_true (odT zA_ : 0 ≤ x5_2)
     by_cases c53 : x5_2 ≤ (l1_2.length : Int)
     rotate_left
     ·rw [if_neg c53] at H
      exact absurd H (by simp)
     rw [if_pos c53] at H
     have c53b0 := eq_true c53
     have c53b1 : decide (x5_2 ≤ (l1_2.length : Int)) = true := deT c53
     clear c53
     replace H := obS H
     obtain ⟨t274,A540,H⟩ := H
     replace H : (if t274 ≥ 0 then (some false) else (impl_nodeOk.l0 k2 l0 (wrap64 (x5_2 + 2)) a1_0 a1_1 l1_2)) = some r := H
     have A54 := As_ A540
     clear A540
     by_cases c55 : t274 ≥ 0
     ·rw [if_pos c55] at H
      have c55b0 : decide (0 ≤ t274) = true := deT c55
      clear c55
      obtain rfl := Option.some.inj H
      obtain ⟨hcz56_0,hcz56_1,hcz56_2,hfz56_0,hfz56_1,hfz56_2⟩ := bk3 BK269.out
      have p270 : 0 ≤ (x5_2 : Int) := odT zA_
      have q270 : x5_2 < (l1_2.length : Int) := odT zA_
      obtain ⟨ad270,e270,hx270_0⟩ := Kd.at_int HR1_2.out x5_2 p270 q270
      cases e270
      replace hx270_0 := bwC HB.out hx270_0
      replace p270 := eq_true p270
      replace q270 := eq_true q270
      have p271 : 0 ≤ ((rd l1_2 x5_2) : Int) := odT zA_
      have q271 : (rd l1_2 x5_2) < (l0.length : Int) := odT zA_
      obtain ⟨ad271,A271_2,c271_2,e271,hx271_0,hx271_1,hx271_2,hl271_2,hi271_2⟩ := at_T45 HR0.out (rd l1_2 x5_2) p271 q271
      cases e271
      replace hx271_0 := bwC HB.out hx271_0
      replace hx271_1 := bwC HB.out hx271_1
      replace hx271_2 := bwC HB.out hx271_2
      have HR271_2 := As_ hi271_2
      have HC271_2 := As_ hl271_2
      clear hi271_2 hl271_2
      replace p271 := eq_true p271
      replace q271 := eq_true q271
      try go_wp2_with (first|((with_reducible refine gate_dst (N := 6) rfl ?_);(try (refine gate_guard (by rfl) ?_;dsimp only));refine box_event ?hg (N := 6) ?hd (cs := #[.int .i64 0,.int .i64 0,.slice none 0 0]) (t := 45) ?hr ?_;(case hd => rfl);(case hg => rfl);(case hr => go_simp <;> rfl);intro gb272 hg w57 hbox hb;have n0_ := As_ (zkb BK269.out hb);have n1_ := As_ (bwT (zb1 HB.out GE269.out) hb);have n2_ := As_ (hbox);have n3_ := As_ ((by rw [hg];exact (bwZ (zb1 HB.out GE269.out)) : w.heap.size ≤ gb272));have n4_ := As_ ((by rw [hg];exact (bwZ (zb1 HB.out GE269.out)) : w.heap.size ≤ gb272));have n5_ := As_ ((by rw [hg];exact Nat.ne_of_lt (zkl BK269.out) : gb269 ≠ gb272));have n6_ := As_ ((by rw [hg];exact Nat.ne_of_gt (zkl BK269.out) : gb272 ≠ gb269));clear BK269 HB;revert n0_ n1_ n2_ n3_ n4_ n5_ n6_;intro BK269 HB BK272 GW272 GE272 NB269_272 NB272_269;clear hb hbox hg;have hnb58 := NB272_269.out;have hnc58 := NB269_272.out;obtain ⟨hcz59_0,hcz59_1,hcz59_2,hfz59_0,hfz59_1,hfz59_2⟩ := bk3 BK272.out))
      have n0_ : Aside0 ((((w57.setCell ⟨gb272,0,none⟩ (.int .i64 ((rd_T45 l0 (rd l1_2 x5_2)).f0))).setCell ⟨gb272,1,none⟩ (.int .i64 ((rd_T45 l0 (rd l1_2 x5_2)).f1))).setCell ⟨gb272,2,none⟩ (.slice A271_2 ((rd_T45 l0 (rd l1_2 x5_2)).f2).length c271_2)).heap[gb269]? = some (.cells #[.int .i64 a1_0,.int .i64 a1_1,.slice (some ad270) l1_2.length c1_2] 45 (0,0))) := ⟨by (with_reducible repeat first|apply bkN|apply bkD|apply bkA);refine blk_far ?_ NB269_272.out _;(with_reducible repeat first|apply bkN|apply bkD|apply bkA);refine blk_far ?_ NB269_272.out _;(with_reducible repeat first|apply bkN|apply bkD|apply bkA);refine blk_far ?_ NB269_272.out _;(with_reducible repeat first|apply bkN|apply bkD|apply bkA);exact BK269.out⟩
      have n1_ : Aside0 ((((w57.setCell ⟨gb272,0,none⟩ (.int .i64 ((rd_T45 l0 (rd l1_2 x5_2)).f0))).setCell ⟨gb272,1,none⟩ (.int .i64 ((rd_T45 l0 (rd l1_2 x5_2)).f1))).setCell ⟨gb272,2,none⟩ (.slice A271_2 ((rd_T45 l0 (rd l1_2 x5_2)).f2).length c271_2)).heap[gb272]? = some (.cells #[.int .i64 ((rd_T45 l0 (rd l1_2 x5_2)).f0),.int .i64 ((rd_T45 l0 (rd l1_2 x5_2)).f1),.slice A271_2 ((rd_T45 l0 (rd l1_2 x5_2)).f2).length c271_2] 45 (0,0))) := ⟨by (with_reducible repeat first|apply bkN|apply bkD|apply bkA);refine blk_put (cs := #[.int .i64 ((rd_T45 l0 (rd l1_2 x5_2)).f0),.int .i64 ((rd_T45 l0 (rd l1_2 x5_2)).f1),.slice none 0 0]) ?_ 2 _ rfl;(with_reducible repeat first|apply bkN|apply bkD|apply bkA);refine blk_put (cs := #[.int .i64 ((rd_T45 l0 (rd l1_2 x5_2)).f0),.int .i64 0,.slice none 0 0]) ?_ 1 _ rfl;(with_reducible repeat first|apply bkN|apply bkD|apply bkA);refine blk_put (cs := #[.int .i64 0,.int .i64 0,.slice none 0 0]) ?_ 0 _ rfl;(with_reducible repeat first|apply bkN|apply bkD|apply bkA);exact BK272.out⟩
      have n2_ : Aside0 (Below w.heap.size w (((w57.setCell ⟨gb272,0,none⟩ (.int .i64 ((rd_T45 l0 (rd l1_2 x5_2)).f0))).setCell ⟨gb272,1,none⟩ (.int .i64 ((rd_T45 l0 (rd l1_2 x5_2)).f1))).setCell ⟨gb272,2,none⟩ (.slice A271_2 ((rd_T45 l0 (rd l1_2 x5_2)).f2).length c271_2))) := ⟨zb2 HB.out GE269.out GE272.out⟩
      generalize (((w57.setCell ⟨gb272,0,none⟩ (.int .i64 ((rd_T45 l0 (rd l1_2 x5_2)).f0))).setCell ⟨gb272,1,none⟩ (.int .i64 ((rd_T45 l0 (rd l1_2 x5_2)).f1))).setCell ⟨gb272,2,none⟩ (.slice A271_2 ((rd_T45 l0 (rd l1_2 x5_2)).f2).length c271_2)) = w60 at n0_ n1_ n2_ ⊢
      revert n0_ n1_ n2_;intro BK269 BK272 HB
      have n0_ := As_ (bkD BK269.out)
      have n1_ := As_ (bkD BK272.out)
      have n2_ := As_ (bwD HB.out)
      clear BK269 BK272 HB
      revert n0_ n1_ n2_;intro BK269 BK272 HB
      obtain ⟨i062,hi062,_,hsz62,_⟩ := info_parts info3
      obtain ⟨hcut62,hA62,hC62⟩ := print_take_of (P := Try.prog) (Value.int .i64) 0 37 3 .i64 Try.underlying37 hi062 hsz62 (some ad270) c1_2 l1_2 x5_2 (odT zA_) (odT zA_) HC1_2.out
      have HR273 := As_ (Kd.C_of_reads (h1 := fun _ => rfl) (hA62 _ (Kd.reads_of_C HR1_2.out)))
      have HC273 := As_ hC62
      clear hA62 hC62 hi062 hsz62
      refine start_ (n := 18) (S := fun w' => w'.cell? ⟨gb272,0,none⟩ = some (.int .i64 ((rd_T45 l0 (rd l1_2 x5_2)).f0)) ∧ w'.cell? ⟨gb272,1,none⟩ = some (.int .i64 ((rd_T45 l0 (rd l1_2 x5_2)).f1)) ∧ w'.cell? ⟨gb272,2,none⟩ = some (.slice A271_2 ((rd_T45 l0 (rd l1_2 x5_2)).f2).length c271_2) ∧ w'.cell? ⟨gb269,0,none⟩ = some (.int .i64 a1_0) ∧ w'.cell? ⟨gb269,1,none⟩ = some (.int .i64 a1_1) ∧ w'.cell? ⟨gb269,2,none⟩ = some (.slice (some ad270) l1_2.length c1_2)) (ds := []) (bl_ 0 18) (by kernel_rfl) rfl rfl ⟨(bkC BK272.out 0).trans rfl,(bkC BK272.out 1).trans rfl,(bkC BK272.out 2).trans rfl,(bkC BK269.out 0).trans rfl,(bkC BK269.out 1).trans rfl,(bkC BK269.out 2).trans rfl⟩ (fun hHeld => ?_);refine with_tabW impl_nodeOk.tab16 impl_nodeOk.bits16 (fun HT_ HW_ => ?_)
      generalize w60.drew = w61 at BK269 BK272 HB HR273 hHeld ⊢
      refine pQ 0 80 (bl_ 1 18) HT_ rfl ?_
      refine tP 1 81 (bl_ 3 18) ?_ HT_ HW_ rfl (.inl ⟨by rfl,?_⟩) hHeld ?_ ?_ ?_;rotate_left;(rintro w' ⟨s0,s1,s2,s3,s4,s5⟩;go_simp;with_reducible rfl);rotate_left;(simp only [Act.put,sq_,i64_w,i32_w];rfl)
      refine pQ 2 82 (bl_ 7 18) HT_ rfl ?_
      refine pQ 3 83 (bl_ 15 18) HT_ rfl ?_
      refine pQ 4 84 (bl_ 31 18) HT_ rfl ?_
      refine tP 5 85 (bl_ 63 18) ?_ HT_ HW_ rfl (.inl ⟨by rfl,?_⟩) hHeld ?_ ?_ ?_;rotate_left;(rintro w' ⟨s0,s1,s2,s3,s4,s5⟩;go_simp;with_reducible rfl);rotate_left;(simp only [Act.put,sq_,i64_w,i32_w];rfl)
      refine pQ 6 86 (bl_ 127 18) HT_ rfl ?_
      refine pQ 7 87 (bl_ 255 18) HT_ rfl ?_
      refine pQ 8 88 (bl_ 511 18) HT_ rfl ?_
      refine pQ 9 89 (bl_ 1023 18) HT_ rfl ?_
      refine pQ 10 90 (bl_ 2047 18) HT_ rfl ?_
      refine pQ 12 92 (bl_ 6143 18) HT_ rfl ?_
      refine tP 11 91 (bl_ 8191 18) ?_ HT_ HW_ rfl (.inl ⟨by rfl,?_⟩) hHeld ?_ ?_ ?_;rotate_left;(rintro w' ⟨s0,s1,s2,s3,s4,s5⟩;go_simp;with_reducible rfl);rotate_left;(simp only [Act.put,sq_,i64_w,i32_w];rfl)
      refine pQ 13 93 (bl_ 16383 18) HT_ rfl ?_
      refine tP 14 94 (bl_ 32767 18) ?_ HT_ HW_ rfl (.inl ⟨by rfl,?_⟩) hHeld ?_ ?_ ?_;rotate_left;(rintro w' ⟨s0,s1,s2,s3,s4,s5⟩;go_simp;with_reducible rfl);rotate_left;(simp only [Act.put,sq_,i64_w,i32_w];rfl)
      refine one_ (i := 15) (N := some 95) (bl_ 65535 18) rfl rfl (one_of HT_.out (by kernel_rfl)) (by decide) (fun K hK => ?_)
      refine goes_ Try.func94 (by kernel_rfl) rfl #[.slice (some ad271) l0.length c0,.slice (some ad270) (l1_2.take (x5_2 : Int).toNat).length c1_2,.agg #[.int .i64 ((rd_T45 l0 (rd l1_2 x5_2)).f0),.int .i64 ((rd_T45 l0 (rd l1_2 x5_2)).f1),.slice A271_2 ((rd_T45 l0 (rd l1_2 x5_2)).f2).length c271_2]] (by rfl) rfl rfl (by (try simp only [List.map_toArray,List.map_cons,List.map_nil]);first|done|(rw [show (l1_2.take (x5_2 : Int).toNat).length = x5_2.toNat from (by rw [List.length_take];have h_ : (x5_2 : Int) ≤ (l1_2.length : Int) := odT zA_;omega)] <;> rfl)|rfl|(simp only [List.length_drop,List.length_take];rfl)) ?_
      with_reducible refine (impl_findKey.calls k2 _ _ l0 _ _ (l1_2.take (x5_2 : Int).toNat) ((rd_T45 l0 (rd l1_2 x5_2)).f0) ((rd_T45 l0 (rd l1_2 x5_2)).f1) _ _ ((rd_T45 l0 (rd l1_2 x5_2)).f2) t274 _ ?side1 ?side2 ?side3 ?side4 ?side5 ?side6 A54.out).mono ?_
      (case side1 => exact zC_ (Kd.C_below HR0.out HB.out))
      (case side2 => exact HC0.out)
      (case side3 => exact zC_ (Kd.C_below HR273.out HB.out))
      (case side4 => exact HC273.out)
      (case side5 => exact zC_ (Kd.C_below HR271_2.out HB.out))
      (case side6 => exact HC271_2.out)
      rintro e w63 ⟨rfl,hb⟩
      refine ⟨_,rfl,?_⟩
      have n0_ := As_ (zkb BK269.out hb)
      have n1_ := As_ (zkb BK272.out hb)
      have n2_ := As_ (bwT (zb2 HB.out GE269.out GE272.out) hb)
      clear BK269 BK272 HB
      revert n0_ n1_ n2_;intro BK269 BK272 HB
      refine hK.out _ _ ⟨(bkC BK272.out 0).trans rfl,(bkC BK272.out 1).trans rfl,(bkC BK272.out 2).trans rfl,(bkC BK269.out 0).trans rfl,(bkC BK269.out 1).trans rfl,(bkC BK269.out 2).trans rfl⟩ (fun hHeld => ?_)
      clear hK K
      refine norm_ (a' := ?_) ?_ ?_
      rotate_left
      ·show Act.put _ (some 95) _ = _
       simp only [Act.put,sq_,i64_w,i32_w]
       rfl
      refine pQ 16 96 (bl_ 131071 18) HT_ rfl ?_
      refine pQ 17 97 (bl_ 262143 18) HT_ rfl ?_
      refine done_ (done_of HT_.out (by kernel_rfl)) ?_
      try go_wp2
      go_ret
      exact ⟨zE_,zb2 HB.out GE269.out GE272.out⟩
     rw [if_neg c55] at H
     have c55b0 : decide (0 ≤ t274) = false := deF c55
     clear c55
     have H' := As_ H
     clear H
     obtain ⟨hcz64_0,hcz64_1,hcz64_2,hfz64_0,hfz64_1,hfz64_2⟩ := bk3 BK269.out
     have p270 : 0 ≤ (x5_2 : Int) := odT zA_
     have q270 : x5_2 < (l1_2.length : Int) := odT zA_
     obtain ⟨ad270,e270,hx270_0⟩ := Kd.at_int HR1_2.out x5_2 p270 q270
     cases e270
     replace hx270_0 := bwC HB.out hx270_0
     replace p270 := eq_true p270
     replace q270 := eq_true q270
     have p271 : 0 ≤ ((rd l1_2 x5_2) : Int) := odT zA_
     have q271 : (rd l1_2 x5_2) < (l0.length : Int) := odT zA_
     obtain ⟨ad271,A271_2,c271_2,e271,hx271_0,hx271_1,hx271_2,hl271_2,hi271_2⟩ := at_T45 HR0.out (rd l1_2 x5_2) p271 q271
     cases e271
     replace hx271_0 := bwC HB.out hx271_0
     replace hx271_1 := bwC HB.out hx271_1
     replace hx271_2 := bwC HB.out hx271_2
     have HR271_2 := As_ hi271_2
     have HC271_2 := As_ hl271_2
     clear hi271_2 hl271_2
     replace p271 := eq_true p271
     replace q271 := eq_true q271
     try go_wp2_with (first|((with_reducible refine gate_dst (N := 6) rfl ?_);(try (refine gate_guard (by rfl) ?_;dsimp only));refine box_event ?hg (N := 6) ?hd (cs := #[.int .i64 0,.int .i64 0,.slice none 0 0]) (t := 45) ?hr ?_;(case hd => rfl);(case hg => rfl);(case hr => go_simp <;> rfl);intro gb272 hg w65 hbox hb;have n0_ := As_ (zkb BK269.out hb);have n1_ := As_ (bwT (zb1 HB.out GE269.out) hb);have n2_ := As_ (hbox);have n3_ := As_ ((by rw [hg];exact (bwZ (zb1 HB.out GE269.out)) : w.heap.size ≤ gb272));have n4_ := As_ ((by rw [hg];exact (bwZ (zb1 HB.out GE269.out)) : w.heap.size ≤ gb272));have n5_ := As_ ((by rw [hg];exact Nat.ne_of_lt (zkl BK269.out) : gb269 ≠ gb272));have n6_ := As_ ((by rw [hg];exact Nat.ne_of_gt (zkl BK269.out) : gb272 ≠ gb269));clear BK269 HB;revert n0_ n1_ n2_ n3_ n4_ n5_ n6_;intro BK269 HB BK272 GW272 GE272 NB269_272 NB272_269;clear hb hbox hg;have hnb66 := NB272_269.out;have hnc66 := NB269_272.out;obtain ⟨hcz67_0,hcz67_1,hcz67_2,hfz67_0,hfz67_1,hfz67_2⟩ := bk3 BK272.out))
     have n0_ : Aside0 ((((w65.setCell ⟨gb272,0,none⟩ (.int .i64 ((rd_T45 l0 (rd l1_2 x5_2)).f0))).setCell ⟨gb272,1,none⟩ (.int .i64 ((rd_T45 l0 (rd l1_2 x5_2)).f1))).setCell ⟨gb272,2,none⟩ (.slice A271_2 ((rd_T45 l0 (rd l1_2 x5_2)).f2).length c271_2)).heap[gb269]? = some (.cells #[.int .i64 a1_0,.int .i64 a1_1,.slice (some ad270) l1_2.length c1_2] 45 (0,0))) := ⟨by (with_reducible repeat first|apply bkN|apply bkD|apply bkA);refine blk_far ?_ NB269_272.out _;(with_reducible repeat first|apply bkN|apply bkD|apply bkA);refine blk_far ?_ NB269_272.out _;(with_reducible repeat first|apply bkN|apply bkD|apply bkA);refine blk_far ?_ NB269_272.out _;(with_reducible repeat first|apply bkN|apply bkD|apply bkA);exact BK269.out⟩
     have n1_ : Aside0 ((((w65.setCell ⟨gb272,0,none⟩ (.int .i64 ((rd_T45 l0 (rd l1_2 x5_2)).f0))).setCell ⟨gb272,1,none⟩ (.int .i64 ((rd_T45 l0 (rd l1_2 x5_2)).f1))).setCell ⟨gb272,2,none⟩ (.slice A271_2 ((rd_T45 l0 (rd l1_2 x5_2)).f2).length c271_2)).heap[gb272]? = some (.cells #[.int .i64 ((rd_T45 l0 (rd l1_2 x5_2)).f0),.int .i64 ((rd_T45 l0 (rd l1_2 x5_2)).f1),.slice A271_2 ((rd_T45 l0 (rd l1_2 x5_2)).f2).length c271_2] 45 (0,0))) := ⟨by (with_reducible repeat first|apply bkN|apply bkD|apply bkA);refine blk_put (cs := #[.int .i64 ((rd_T45 l0 (rd l1_2 x5_2)).f0),.int .i64 ((rd_T45 l0 (rd l1_2 x5_2)).f1),.slice none 0 0]) ?_ 2 _ rfl;(with_reducible repeat first|apply bkN|apply bkD|apply bkA);refine blk_put (cs := #[.int .i64 ((rd_T45 l0 (rd l1_2 x5_2)).f0),.int .i64 0,.slice none 0 0]) ?_ 1 _ rfl;(with_reducible repeat first|apply bkN|apply bkD|apply bkA);refine blk_put (cs := #[.int .i64 0,.int .i64 0,.slice none 0 0]) ?_ 0 _ rfl;(with_reducible repeat first|apply bkN|apply bkD|apply bkA);exact BK272.out⟩
     have n2_ : Aside0 (Below w.heap.size w (((w65.setCell ⟨gb272,0,none⟩ (.int .i64 ((rd_T45 l0 (rd l1_2 x5_2)).f0))).setCell ⟨gb272,1,none⟩ (.int .i64 ((rd_T45 l0 (rd l1_2 x5_2)).f1))).setCell ⟨gb272,2,none⟩ (.slice A271_2 ((rd_T45 l0 (rd l1_2 x5_2)).f2).length c271_2))) := ⟨zb2 HB.out GE269.out GE272.out⟩
     generalize (((w65.setCell ⟨gb272,0,none⟩ (.int .i64 ((rd_T45 l0 (rd l1_2 x5_2)).f0))).setCell ⟨gb272,1,none⟩ (.int .i64 ((rd_T45 l0 (rd l1_2 x5_2)).f1))).setCell ⟨gb272,2,none⟩ (.slice A271_2 ((rd_T45 l0 (rd l1_2 x5_2)).f2).length c271_2)) = w68 at n0_ n1_ n2_ ⊢
     revert n0_ n1_ n2_;intro BK269 BK272 HB
     have n0_ := As_ (bkD BK269.out)
     have n1_ := As_ (bkD BK272.out)
     have n2_ := As_ (bwD HB.out)
     clear BK269 BK272 HB
     revert n0_ n1_ n2_;intro BK269 BK272 HB
     obtain ⟨i070,hi070,_,hsz70,_⟩ := info_parts info3
     obtain ⟨hcut70,hA70,hC70⟩ := print_take_of (P := Try.prog) (Value.int .i64) 0 37 3 .i64 Try.underlying37 hi070 hsz70 (some ad270) c1_2 l1_2 x5_2 (odT zA_) (odT zA_) HC1_2.out
     have HR273 := As_ (Kd.C_of_reads (h1 := fun _ => rfl) (hA70 _ (Kd.reads_of_C HR1_2.out)))
     have HC273 := As_ hC70
     clear hA70 hC70 hi070 hsz70
     refine start_ (n := 18) (S := fun w' => w'.cell? ⟨gb272,0,none⟩ = some (.int .i64 ((rd_T45 l0 (rd l1_2 x5_2)).f0)) ∧ w'.cell? ⟨gb272,1,none⟩ = some (.int .i64 ((rd_T45 l0 (rd l1_2 x5_2)).f1)) ∧ w'.cell? ⟨gb272,2,none⟩ = some (.slice A271_2 ((rd_T45 l0 (rd l1_2 x5_2)).f2).length c271_2) ∧ w'.cell? ⟨gb269,0,none⟩ = some (.int .i64 a1_0) ∧ w'.cell? ⟨gb269,1,none⟩ = some (.int .i64 a1_1) ∧ w'.cell? ⟨gb269,2,none⟩ = some (.slice (some ad270) l1_2.length c1_2)) (ds := []) (bl_ 0 18) (by kernel_rfl) rfl rfl ⟨(bkC BK272.out 0).trans rfl,(bkC BK272.out 1).trans rfl,(bkC BK272.out 2).trans rfl,(bkC BK269.out 0).trans rfl,(bkC BK269.out 1).trans rfl,(bkC BK269.out 2).trans rfl⟩ (fun hHeld => ?_);refine with_tabW impl_nodeOk.tab16 impl_nodeOk.bits16 (fun HT_ HW_ => ?_)
     generalize w68.drew = w69 at BK269 BK272 HB HR273 hHeld ⊢
     refine pQ 0 80 (bl_ 1 18) HT_ rfl ?_
     refine tP 1 81 (bl_ 3 18) ?_ HT_ HW_ rfl (.inl ⟨by rfl,?_⟩) hHeld ?_ ?_ ?_;rotate_left;(rintro w' ⟨s0,s1,s2,s3,s4,s5⟩;go_simp;with_reducible rfl);rotate_left;(simp only [Act.put,sq_,i64_w,i32_w];rfl)
     refine pQ 2 82 (bl_ 7 18) HT_ rfl ?_
     refine pQ 3 83 (bl_ 15 18) HT_ rfl ?_
     refine pQ 4 84 (bl_ 31 18) HT_ rfl ?_
     refine tP 5 85 (bl_ 63 18) ?_ HT_ HW_ rfl (.inl ⟨by rfl,?_⟩) hHeld ?_ ?_ ?_;rotate_left;(rintro w' ⟨s0,s1,s2,s3,s4,s5⟩;go_simp;with_reducible rfl);rotate_left;(simp only [Act.put,sq_,i64_w,i32_w];rfl)
     refine pQ 6 86 (bl_ 127 18) HT_ rfl ?_
     refine pQ 7 87 (bl_ 255 18) HT_ rfl ?_
     refine pQ 8 88 (bl_ 511 18) HT_ rfl ?_
     refine pQ 9 89 (bl_ 1023 18) HT_ rfl ?_
     refine pQ 10 90 (bl_ 2047 18) HT_ rfl ?_
     refine pQ 12 92 (bl_ 6143 18) HT_ rfl ?_
     refine tP 11 91 (bl_ 8191 18) ?_ HT_ HW_ rfl (.inl ⟨by rfl,?_⟩) hHeld ?_ ?_ ?_;rotate_left;(rintro w' ⟨s0,s1,s2,s3,s4,s5⟩;go_simp;with_reducible rfl);rotate_left;(simp only [Act.put,sq_,i64_w,i32_w];rfl)
     refine pQ 13 93 (bl_ 16383 18) HT_ rfl ?_
     refine tP 14 94 (bl_ 32767 18) ?_ HT_ HW_ rfl (.inl ⟨by rfl,?_⟩) hHeld ?_ ?_ ?_;rotate_left;(rintro w' ⟨s0,s1,s2,s3,s4,s5⟩;go_simp;with_reducible rfl);rotate_left;(simp only [Act.put,sq_,i64_w,i32_w];rfl)
     refine one_ (i := 15) (N := some 95) (bl_ 65535 18) rfl rfl (one_of HT_.out (by kernel_rfl)) (by decide) (fun K hK => ?_)
     refine goes_ Try.func94 (by kernel_rfl) rfl #[.slice (some ad271) l0.length c0,.slice (some ad270) (l1_2.take (x5_2 : Int).toNat).length c1_2,.agg #[.int .i64 ((rd_T45 l0 (rd l1_2 x5_2)).f0),.int .i64 ((rd_T45 l0 (rd l1_2 x5_2)).f1),.slice A271_2 ((rd_T45 l0 (rd l1_2 x5_2)).f2).length c271_2]] (by rfl) rfl rfl (by (try simp only [List.map_toArray,List.map_cons,List.map_nil]);first|done|(rw [show (l1_2.take (x5_2 : Int).toNat).length = x5_2.toNat from (by rw [List.length_take];have h_ : (x5_2 : Int) ≤ (l1_2.length : Int) := odT zA_;omega)] <;> rfl)|rfl|(simp only [List.length_drop,List.length_take];rfl)) ?_
     with_reducible refine (impl_findKey.calls k2 _ _ l0 _ _ (l1_2.take (x5_2 : Int).toNat) ((rd_T45 l0 (rd l1_2 x5_2)).f0) ((rd_T45 l0 (rd l1_2 x5_2)).f1) _ _ ((rd_T45 l0 (rd l1_2 x5_2)).f2) t274 _ ?side1 ?side2 ?side3 ?side4 ?side5 ?side6 A54.out).mono ?_
     (case side1 => exact zC_ (Kd.C_below HR0.out HB.out))
     (case side2 => exact HC0.out)
     (case side3 => exact zC_ (Kd.C_below HR273.out HB.out))
     (case side4 => exact HC273.out)
     (case side5 => exact zC_ (Kd.C_below HR271_2.out HB.out))
     (case side6 => exact HC271_2.out)
     rintro e w71 ⟨rfl,hb⟩
     refine ⟨_,rfl,?_⟩
     have n0_ := As_ (zkb BK269.out hb)
     have n1_ := As_ (zkb BK272.out hb)
     have n2_ := As_ (bwT (zb2 HB.out GE269.out GE272.out) hb)
     clear BK269 BK272 HB
     revert n0_ n1_ n2_;intro BK269 BK272 HB
     refine hK.out _ _ ⟨(bkC BK272.out 0).trans rfl,(bkC BK272.out 1).trans rfl,(bkC BK272.out 2).trans rfl,(bkC BK269.out 0).trans rfl,(bkC BK269.out 1).trans rfl,(bkC BK269.out 2).trans rfl⟩ (fun hHeld => ?_)
     clear hK K
     refine norm_ (a' := ?_) ?_ ?_
     rotate_left
     ·show Act.put _ (some 95) _ = _
      simp only [Act.put,sq_,i64_w,i32_w]
      rfl
     refine pQ 16 96 (bl_ 131071 18) HT_ rfl ?_
     refine pQ 17 97 (bl_ 262143 18) HT_ rfl ?_
     refine done_ (done_of HT_.out (by kernel_rfl)) ?_
     try go_wp2
     go_roundg k2
     case measure => have := HJ20.out;have := HK2.out;omega
     case rel => exact ⟨(wrap64 (x5_2 + 2)),zT_,H',⟨by have := HJ20.out;have := HK2.out;omega⟩,⟨by (with_reducible repeat first|apply bkN|apply bkD|apply bkA);exact BK269.out⟩,⟨zb2 HB.out GE269.out GE272.out⟩⟩
/-! ### impl_ValidGraph_2: function 69 -/
def impl_ValidGraph_2.f (a0_0 : Int) (a0_1 : Int) (l0_2 : List Int) : Option (Bool) := some (a0_0 == 2)
set_option maxHeartbeats 8000000 in
set_option maxRecDepth 100000 in
theorem impl_ValidGraph_2.calls (a0_0 : Int) (a0_1 : Int) (A0_2 : Option Addr) (c0_2 : Nat) (l0_2 : List Int) (r : Bool) (w : World) (hr0_2 : Kd.C (Kd.int .i64) w A0_2 l0_2.length l0_2) (hc0_2 : l0_2.length ≤ c0_2) (h : impl_ValidGraph_2.f a0_0 a0_1 l0_2 = some r) :
    Calls Try.prog 69 #[.agg #[.int .i64 a0_0, .int .i64 a0_1, .slice A0_2 l0_2.length c0_2]] w fun e w' => e = .returned (.bool r) ∧ Below w.heap.size w w' := by
  have hu45 := Try.underlying45
  have HR0_2 := As_ hr0_2
  have HC0_2 := As_ hc0_2
  clear hr0_2 hc0_2
  have HB := As_ (Below.refl w.heap.size w)
  have H : (some (a0_0 == 2)) = some r := h
  clear h
  obtain rfl := Option.some.inj H
  go_enter Try.func69, Try.ntmps69
  go_wp2_with (first | ((with_reducible refine gate_dst (N := 1) rfl ?_); refine box_event ?hg (N := 1) ?hd (cs := #[.int .i64 a0_0, .int .i64 a0_1, .slice A0_2 l0_2.length c0_2]) (t := 45) ?hr ?_; (case hd => rfl); (case hg => rfl); (case hr => go_simp <;> rfl); intro gb275 hg w2 hbox hb; have n0_ := As_ (bwT (by repeat (first | (with_reducible first | exact HB.out | apply bwA | apply bwN | apply bwD) | exact HB.out)) hb); have n1_ := As_ (hbox); have n2_ := As_ ((by rw [hg]; exact (bwZ (by repeat (first | (with_reducible first | exact HB.out | apply bwA | apply bwN | apply bwD) | exact HB.out))) : w.heap.size ≤ gb275)); have n3_ := As_ ((by rw [hg]; exact (bwZ (by repeat (first | (with_reducible first | exact HB.out | apply bwA | apply bwN | apply bwD) | exact HB.out))) : w.heap.size ≤ gb275)); clear HB; have HB := n0_; have BK275 := n1_; have GW275 := n2_; have GE275 := n3_; clear n0_ n1_ n2_ n3_; clear hb hbox hg; have hcz3_0 : w2.cell? ⟨gb275, 0, none⟩ = some (.int .i64 a0_0) := (bkC BK275.out 0).trans rfl; have hcz3_1 : w2.cell? ⟨gb275, 1, none⟩ = some (.int .i64 a0_1) := (bkC BK275.out 1).trans rfl; have hcz3_2 : w2.cell? ⟨gb275, 2, none⟩ = some (.slice A0_2 l0_2.length c0_2) := (bkC BK275.out 2).trans rfl; have hfz3_0 := bkF BK275.out 0; have hfz3_1 := bkF BK275.out 1; have hfz3_2 := bkF BK275.out 2))
  go_ret
  exact ⟨by first | rfl | (simp [errW_none, errW_some] <;> rfl) | (simp [*, errW_none, errW_some] <;> rfl), by repeat (first | (with_reducible first | exact HB.out | apply bwA | apply bwN | apply bwD | refine bwS ?_ GE275.out) | exact HB.out)⟩

end Go.Proofs.Ytfhakhbmbnbneaa.Q
