-- Written by wip/tools/qprint.py (a program of this claim's author) by means of the kit's printer.
import Derived.Test.YtapaegcombfafaaQ0
import Derived.Test.YtapaegcombfafaaQ37
import Derived.Test.YtapaegcombfafaaQ52
import Derived.Test.YtapaegcombfafaaQ53
import Derived.Test.YtapaegcombfafaaQ56
import Derived.Test.YtapaegcombfafaaQ65
import Derived.Lib.SliceRun
namespace Go.Proofs.Ytapaegcombfafaa.Q
open Go.RowKit Go.Proofs.YtapaegcombfafaaW.PrintWords Go.Proofs.YtapaegcombfafaaW.PrintLast Go.Proofs.YtapaegcombfafaaW.PrintMore
attribute [local go_sem] max2_int min2_int max_two min_two max_three min_three max_four min_four   -- for this text's walks alone
set_option linter.unusedVariables false
set_option linter.unusedSimpArgs false

/-! ### spec_DrawClassesOf: function 26 -/
def spec_DrawClassesOf.f (k : Nat) (l0 : List Int) : Option ((List (S58)) × Int) := (spec_newReader.f l0).bind fun bt653 => ((spec_anyGraph.f k bt653.1 bt653.2).bind fun bt656 => (some (bt656.1,bt656.2.1)))
set_option maxRecDepth 100000 in
theorem spec_DrawClassesOf.mono : ∀ a0 k,LeO (spec_DrawClassesOf.f k a0) (spec_DrawClassesOf.f (k + 1) a0) := by
 intro a0 k
 unfold spec_DrawClassesOf.f
 repeat' first
   | (with_reducible exact spec_anyGraph.mono _ _ _)
   | (with_reducible exact LeO.refl _)
   | (with_reducible exact LeO.none _)
   | (with_reducible refine LeO.ite ?_ ?_)
   | (with_reducible refine LeO.bind ?_ (fun _ => ?_))
   | exact spec_anyGraph.mono _ _ _
   | exact LeO.none _
   | refine LeO.ite ?_ ?_
   | refine LeO.bind ?_ (fun _ => ?_)
set_option maxHeartbeats 8000000 in
set_option maxRecDepth 100000 in
theorem spec_DrawClassesOf.calls (k : Nat) (A0 : Option Addr) (c0 : Nat) (l0 : List Int) (r1 : List (S58)) (r2 : Int) (w : World) (hr0 : Kd.C (Kd.int .u8) w A0 l0.length l0) (hc0 : l0.length ≤ c0) (h : spec_DrawClassesOf.f k l0 = some (r1,r2)) :
  Calls Try.prog 26 #[.slice A0 l0.length c0] w fun e w' => ∃ v0_ : Value,e = .returned (.agg #[v0_,.int .i64 r2]) ∧ Kd.S k58 58 w' w.heap.size (fun _ => True) v0_ r1 ∧ Below w.heap.size w w' := by
 have hu25 := Try.underlying25
 have HR0 := As_ hr0
 have HC0 := As_ hc0
 clear hr0 hc0
 have HB := As_ (Below.refl w.heap.size w)
 have H : ((spec_newReader.f l0).bind fun bt653 => ((spec_anyGraph.f k bt653.1 bt653.2).bind fun bt656 => (some (bt656.1,bt656.2.1)))) = some (r1,r2) := h
 clear h
 replace H := obS H
 obtain ⟨⟨t653,t654⟩,A20,H⟩ := H
 replace H : ((spec_anyGraph.f k t653 t654).bind fun bt656 => (some (bt656.1,bt656.2.1))) = some (r1,r2) := H
 have A2 := As_ A20
 clear A20
 replace H := obS H
 obtain ⟨⟨t656,t659,t660⟩,A30,H⟩ := H
 replace H : (some (t656,t659)) = some (r1,r2) := H
 have A3 := As_ A30
 clear A30
 simp only [Option.some.injEq,Prod.mk.injEq] at H
 obtain ⟨rfl,rfl⟩ := H
 go_enter Try.func26,Try.ntmps26
 go_wp2_with (first|((with_reducible refine gate_dst (N := 2) rfl ?_);refine box_event ?hg (N := 2) ?hd (cs := #[.slice none 0 0,.int .i64 0]) (t := 25) ?hr ?_;(case hd => rfl);(case hg => rfl);(case hr => go_simp <;> rfl);intro gb652 hg w4 hbox hb;have n0_ := As_ (bwT (zb0 HB.out) hb);have n1_ := As_ (hbox);have n2_ := As_ ((by rw [hg];exact (bwZ (zb0 HB.out)) : w.heap.size ≤ gb652));have n3_ := As_ ((by rw [hg];exact (bwZ (zb0 HB.out)) : w.heap.size ≤ gb652));clear HB;revert n0_ n1_ n2_ n3_;intro HB BK652 GW652 GE652;clear hb hbox hg)|((with_reducible refine gate_callee (f := 40) rfl ?_);refine goesL_ (some 4) rfl rfl Try.func40 (by kernel_rfl) rfl #[.slice A0 l0.length c0] rfl zM_ ?_;(with_reducible refine (spec_newReader.calls _ _ l0 t653 t654 w _ ?side1 ?side2 ?side3 A2.out).mono ?_);(case side1 => exact zb1 HB.out GE652.out);(case side2 => exact HR0.out);(case side3 => exact HC0.out);rintro e w5 ⟨g655,rfl,hi,hb,hb2⟩;refine ⟨_,rfl,?_⟩;have n0_ := As_ (zkb BK652.out hb2);have n1_ := As_ (hb);have n2_ := As_ (hi);have n3_ := As_ (IsS74.ne_blk hi (zkb BK652.out hb2) (by decide));have n4_ := As_ (Ne.symm (IsS74.ne_blk hi (zkb BK652.out hb2) (by decide)));clear BK652 HB;revert n0_ n1_ n2_ n3_ n4_;intro BK652 HB HI655 NB655_652 NB652_655)|((with_reducible refine gate_callee (f := 52) rfl ?_);refine goesL_ (some 5) rfl rfl Try.func52 (by kernel_rfl) rfl #[.pointer (some ⟨g655,0,none⟩)] rfl zM_ ?_;(with_reducible refine (spec_anyGraph.calls k g655 t653 t654 t656 t659 t660 w _ ?side1 ?side2 A3.out).mono ?_);(case side1 => exact zi74_1 HI655.out NB655_652.out);(case side2 => exact zb2 HB.out (IsS74.ge HI655.out) GE652.out);rintro e w6 ⟨v657,rfl,ho0,hi,hb,hk⟩;refine ⟨_,rfl,?_⟩;have n0_ := As_ (KeepBut.blk hk (g' := gb652) (o := .cells #[.slice none 0 0,.int .i64 0] 25 (0,0)) (zk_ BK652.out) NB652_655.out (by simp));have n1_ := As_ (Kd.S_lower ho0 (bwZ (zb2 HB.out (IsS74.ge HI655.out) GE652.out)));have n2_ := As_ (hb);have n3_ := As_ (hi);clear BK652 HB HI655;revert n0_ n1_ n2_ n3_;intro BK652 HO658 HB HI655;obtain ⟨Ao7,co7,eo7⟩ := Kd.S_slice HO658.out;subst eo7;have hnb8 := NB652_655.out;have hnc8 := NB655_652.out;obtain ⟨hcz9_0,hcz9_1,hfz9_0,hfz9_1⟩ := bk2 BK652.out))
 refine bodyPost_ret (results_cell_row rfl _ _ gb652 25 #[.slice Ao7 t656.length co7,.int .i64 t659] (0,0) _ rfl (by (with_reducible repeat first|apply bkN|apply bkD|apply bkA);refine blk_put (cs := #[.slice Ao7 t656.length co7,.int .i64 0]) ?_ 1 _ rfl;(with_reducible repeat first|apply bkN|apply bkD|apply bkA);refine blk_put (cs := #[.slice none 0 0,.int .i64 0]) ?_ 0 _ rfl;(with_reducible repeat first|apply bkN|apply bkD|apply bkA);exact BK652.out) Try.underlying25 rfl (by kernel_rfl)) rfl ?_
 exact ⟨_,zE_,by (with_reducible repeat (first|apply Kd.S_alloc|apply Kd.S_drewN|apply Kd.S_drew));exact Kd.S_mono (Kd.S_far (p := ⟨gb652,1,none⟩) (Kd.S_far (p := ⟨gb652,0,none⟩) (Kd.S_types HO658.out BK652.out (by decide)) (fun _ hk => hk.2) (.slice Ao7 t656.length co7)) (fun _ hk => hk.2) (.int .i64 t659)) (fun _ hk => trivial),zb2 HB.out (IsS74.ge HI655.out) GE652.out⟩

/-! ### impl_Node_55: function 55 -/
def impl_Node_55.f (l0 : List (S58)) : Option ((List (S58))) := (some (([] : List (S58)) : List (S58))).bind fun y728 => (if y728.length + l0.length < 3518437208883 then (some (y728 ++ l0)) else (none))
set_option maxHeartbeats 8000000 in
set_option maxRecDepth 100000 in
theorem impl_Node_55.calls (P0_ : Nat → Prop) (A0 : Option Addr) (c0 : Nat) (l0 : List (S58)) (r : List (S58)) (w : World) (hs0 : Kd.V k58 58 w w.heap.size (fun k_ => P0_ k_) (.slice A0 l0.length c0) l0) (h : impl_Node_55.f l0 = some r) :
  Calls Try.prog 55 #[.slice A0 l0.length c0] w fun e w' => ∃ v0_ : Value,e = .returned (v0_) ∧ Kd.N k58 58 w' w.heap.size (fun k_ => (P0_ k_ ∨ w.heap.size ≤ k_)) v0_ r ∧ Below w.heap.size w w' := by
 have HO0 := As_ (show Kd.V k58 58 w w.heap.size (fun k_ => (P0_ k_ ∨ w.heap.size ≤ k_)) (.slice A0 l0.length c0) l0 from Kd.V_mono hs0 (fun k_ hk => .inl hk))
 have HB := As_ (Below.refl w.heap.size w)
 have H : ((some (([] : List (S58)) : List (S58))).bind fun y728 => (if y728.length + l0.length < 3518437208883 then (some (y728 ++ l0)) else (none))) = some r := h
 clear h
 obtain ⟨y728,hy728⟩ : ∃ y_ : List (S58),y_ = (([] : List (S58))) := ⟨_,rfl⟩
 replace H : (if y728.length + l0.length < 3518437208883 then (some (y728 ++ l0)) else (none)) = some r := zH_ H hy728
 have Ny728 := As_ hy728
 clear hy728
 by_cases c2 : y728.length + l0.length < 3518437208883
 rotate_left
 ·rw [if_neg c2] at H
  exact absurd H (by simp)
 rw [if_pos c2] at H
 have LMc2 := As_ c2
 clear c2
 obtain ⟨y731,hy731⟩ : ∃ y_ : List (S58),y_ = (y728 ++ l0) := ⟨_,rfl⟩
 replace H : (some y731) = some r := zH_ H hy731
 have Ny731 := As_ hy731
 clear hy731
 obtain rfl := Option.some.inj H
 rcases A0 with _|ad
 ·have hl : l0 = [] := by
   rcases Nat.eq_zero_or_pos l0.length with q|q
   ·exact List.length_eq_zero_iff.1 q
   ·obtain ⟨ad,e,_⟩ := (Kd.V_reads' HO0.out).2.2.2.2 q
    cases e
  subst hl
  have hy : y731 = [] := by rw [Ny731.out,Ny728.out];rfl
  have q4 := fun W : World => Go.Lib.run_eql_slice_nil (P := Try.prog) W 23 58 none 0 c0 0 0 Try.underlying23
  go_enter Try.func55,Try.ntmps55
  go_wp2
  go_ret
  exact ⟨_,rfl,by first|exact Kd.N_nil _ _ _ _ _|(rw [hy];exact Kd.N_nil _ _ _ _ _),HB.out⟩
 have q4 := fun W : World => Go.Lib.run_eql_slice_nil (P := Try.prog) W 23 58 (some ad) l0.length c0 0 0 Try.underlying23
 go_enter Try.func55,Try.ntmps55
 go_wp2_with (first|((with_reducible refine gate_dst (N := 5) rfl ?_);refine Kd.N_lit k58 _ 58 ?hg (N' := 5) ?hd (xs := ([] : List (S58))) (inner := []) (ok := (fun k_ => (P0_ k_ ∨ w.heap.size ≤ k_))) (okp := (fun k_ => (P0_ k_ ∨ w.heap.size ≤ k_))) ?hr ?hp (fun _ hk => hk) ((show ∀ k_,w.heap.size ≤ k_ → (fun k_ => (P0_ k_ ∨ w.heap.size ≤ k_)) k_ from fun k_ hk => (.inr (Nat.le_trans (bwZ (zb0 HB.out)) hk))) _ (Nat.le_refl _)) (Below.refl _ _) (Nat.le_refl _) (by simp) ?_;(case hd => rfl);(case hg => rfl);(case hr => go_simp <;> rfl);(case hp => exact (Reps.none _ _));intro v729 w3 ho4 hb hg_ hnew_;clear hg_ hnew_;(first|rw [← Ny728.out] at ho4|(simp only [Int.reduceToNat] at ho4;rw [← Ny728.out] at ho4));have n0_ := As_ (Kd.V_elder' (by (with_reducible repeat (first|apply Kd.V_alloc|apply Kd.V_drewN|apply Kd.V_drew));exact HO0.out) (Kd.N_base ho4) hb);have n1_ := As_ (Kd.N_lower ho4 (bwZ (zb0 HB.out)));have n2_ := As_ (bwT (zb0 HB.out) hb);clear HO0 HB;revert n0_ n1_ n2_;intro HO0 HO730 HB;clear hb ho4)|((with_reducible refine gate_builtin (b := .append) (xs := #[.tmp 5,.tmp 6]) rfl ?_);at_builtin;refine Kd.N_append_rows k58 (w0 := w) w.heap.size rfl (.tmp 5) (.tmp 6) 23 58 (.agg #[(.int .i64 0),(.int .i64 0),(.slice none 0 0)]) 40 rfl Try.underlying23 info58 rfl (by decide) (by omega) v729 y728 l0 _ _ _ (fun k_ => (P0_ k_ ∨ w.heap.size ≤ k_)) (fun k_ => ((fun k_ => (P0_ k_ ∨ w.heap.size ≤ k_))) k_ ∧ some k_ ≠ (v729 : Value).ownBlock) rfl rfl ?aO ?aR (fun _ hk => hk) ?aF ?aB ?aS ?aL ?_;(case aR => exact (by skip;exact Kd.V_F (Kd.V_mono (ok' := (fun k_ => ((fun k_ => (P0_ k_ ∨ w.heap.size ≤ k_))) k_ ∧ some k_ ≠ (v729 : Value).ownBlock)) (HO0.out) (fun k_ hk => ⟨hk.1,hk.2⟩))));(case aB => exact (zb0 HB.out));(case aF => exact (fun k_ hk => (.inr (Nat.le_trans (bwZ (zb0 HB.out)) hk))));(case aO => exact (zN_ HO730.out));(case aS => exact (bwZ (zb0 HB.out)));(case aL => have := LMc2.out;omega);intro v732 w5 ho hb hg hat;rw [← Ny731.out] at ho;have n0_ := As_ (Kd.V_afterv (ok := (fun k_ => (P0_ k_ ∨ w.heap.size ≤ k_))) (by (with_reducible repeat (first|apply Kd.V_alloc|apply Kd.V_drewN|apply Kd.V_drew));exact HO0.out) hg hat);have n1_ := As_ (hb);have n2_ := As_ (ho);clear HO0 HB HO730;revert n0_ n1_ n2_;intro HO0 HB HO733;clear ho hb hg hat))
 go_ret
 exact ⟨_,zE_,by (with_reducible repeat (first|apply Kd.N_alloc|apply Kd.N_drewN|apply Kd.N_drew));exact HO733.out,zb0 HB.out⟩

/-! ### impl_EqualDeep: function 29 -/
mutual
def impl_EqualDeep.j0 : Nat → Bool → List (S58) → Int → List (S58) → Int → Option (Bool)
 | 0,_,_,_,_,_ => none
 | k + 1,x18,x743000,x743001,x744000,x744001 => if x18 = true then (some false) else (impl_EqualDeep.l0 k (([] : List Int)) (x744000.length : Int) 0 x743000 x743001 x744000 x744001)
def impl_EqualDeep.l0 : Nat → List Int → Int → Int → List (S58) → Int → List (S58) → Int → Option (Bool)
 | 0,_,_,_,_,_,_,_ => none
 | k + 1,x5,x22,x23,x743000,x743001,x744000,x744001 => if x23 < x22 then (if x5.length < 17592186044416 then (impl_EqualDeep.l0 k (x5 ++ [wrap64 (x23 + (x743000.length : Int))]) x22 (wrap64 (x23 + 1)) x743000 x743001 x744000 x744001) else (none)) else ((impl_Node_55.f x743000).bind fun t752 => (impl_EqualDeep.l1 k x5 t752 x744000 (x744000.length : Int) 0 x743000 x743001 x744000 x744001))
def impl_EqualDeep.l1 : Nat → List Int → List (S58) → List (S58) → Int → Int → List (S58) → Int → List (S58) → Int → Option (Bool)
 | 0,_,_,_,_,_,_,_,_,_ => none
 | k + 1,x5,x7,x39,x40,x41,x743000,x743001,x744000,x744001 => if x41 < x40 then (if 0 ≤ x41 then (if x41 < (x39.length : Int) then ((impl_mapped.f k ((rd_T58 x39 x41).f0) ((rd_T58 x39 x41).f1) ((rd_T58 x39 x41).f2) x5).bind fun bt757 => (if x7.length < 3518437208883 then (impl_EqualDeep.l1 k x5 (x7 ++ [(⟨bt757.1,bt757.2.1,bt757.2.2⟩ : S58)]) x39 x40 (wrap64 (x41 + 1)) x743000 x743001 x744000 x744001) else (none))) else (none)) else (none)) else ((impl_classes.f k x7).bind fun t765 => (if 0 ≤ x743001 then (if x743001 < (t765.length : Int) then (if 0 ≤ (wrap64 (x744001 + (x743000.length : Int))) then (if (wrap64 (x744001 + (x743000.length : Int))) < (t765.length : Int) then (some ((rd t765 x743001) == (rd t765 (wrap64 (x744001 + (x743000.length : Int)))))) else (none)) else (none)) else (none)) else (none)))
end
def impl_EqualDeep.f (k : Nat) (l0_0 : List (S58)) (a0_1 : Int) (l1_0 : List (S58)) (a1_1 : Int) : Option (Bool) := (impl_ValidGraph.f k l0_0 a0_1).bind fun t744 => (if t744 = true then ((impl_ValidGraph.f k l1_0 a1_1).bind fun t745 => (impl_EqualDeep.j0 k (!t745) l0_0 a0_1 l1_0 a1_1)) else (impl_EqualDeep.j0 k true l0_0 a0_1 l1_0 a1_1))
set_option maxRecDepth 100000 in
theorem impl_EqualDeep.mono_l : ∀ k,(∀ y0 y1 y2 y3 y4,LeO (impl_EqualDeep.j0 k y0 y1 y2 y3 y4) (impl_EqualDeep.j0 (k + 1) y0 y1 y2 y3 y4)) ∧ (∀ y0 y1 y2 y3 y4 y5 y6,LeO (impl_EqualDeep.l0 k y0 y1 y2 y3 y4 y5 y6) (impl_EqualDeep.l0 (k + 1) y0 y1 y2 y3 y4 y5 y6)) ∧ (∀ y0 y1 y2 y3 y4 y5 y6 y7 y8,LeO (impl_EqualDeep.l1 k y0 y1 y2 y3 y4 y5 y6 y7 y8) (impl_EqualDeep.l1 (k + 1) y0 y1 y2 y3 y4 y5 y6 y7 y8))
 | 0 => ⟨fun _ _ _ _ _ r h => (by cases h),fun _ _ _ _ _ _ _ r h => (by cases h),fun _ _ _ _ _ _ _ _ _ r h => (by cases h)⟩
 | k + 1 => by
  obtain ⟨ih0,ih1,ih2⟩ := impl_EqualDeep.mono_l k
  refine ⟨?_,?_,?_⟩
  ·intro y0 y1 y2 y3 y4
   unfold impl_EqualDeep.j0
   repeat' first
   | (with_reducible exact ih0 _ _ _ _ _)
   | (with_reducible exact ih1 _ _ _ _ _ _ _)
   | (with_reducible exact ih2 _ _ _ _ _ _ _ _ _)
   | (with_reducible exact impl_ValidGraph.mono _ _ _)
   | (with_reducible exact impl_classes.mono _ _)
   | (with_reducible exact impl_mapped.mono _ _ _ _ _)
   | (with_reducible exact LeO.refl _)
   | (with_reducible exact LeO.none _)
   | (with_reducible refine LeO.ite ?_ ?_)
   | (with_reducible refine LeO.bind ?_ (fun _ => ?_))
   | exact ih0 _ _ _ _ _
   | exact ih1 _ _ _ _ _ _ _
   | exact ih2 _ _ _ _ _ _ _ _ _
   | exact impl_ValidGraph.mono _ _ _
   | exact impl_classes.mono _ _
   | exact impl_mapped.mono _ _ _ _ _
   | exact LeO.none _
   | refine LeO.ite ?_ ?_
   | refine LeO.bind ?_ (fun _ => ?_)
  ·intro y0 y1 y2 y3 y4 y5 y6
   unfold impl_EqualDeep.l0
   repeat' first
   | (with_reducible exact ih0 _ _ _ _ _)
   | (with_reducible exact ih1 _ _ _ _ _ _ _)
   | (with_reducible exact ih2 _ _ _ _ _ _ _ _ _)
   | (with_reducible exact impl_ValidGraph.mono _ _ _)
   | (with_reducible exact impl_classes.mono _ _)
   | (with_reducible exact impl_mapped.mono _ _ _ _ _)
   | (with_reducible exact LeO.refl _)
   | (with_reducible exact LeO.none _)
   | (with_reducible refine LeO.ite ?_ ?_)
   | (with_reducible refine LeO.bind ?_ (fun _ => ?_))
   | exact ih0 _ _ _ _ _
   | exact ih1 _ _ _ _ _ _ _
   | exact ih2 _ _ _ _ _ _ _ _ _
   | exact impl_ValidGraph.mono _ _ _
   | exact impl_classes.mono _ _
   | exact impl_mapped.mono _ _ _ _ _
   | exact LeO.none _
   | refine LeO.ite ?_ ?_
   | refine LeO.bind ?_ (fun _ => ?_)
  ·intro y0 y1 y2 y3 y4 y5 y6 y7 y8
   unfold impl_EqualDeep.l1
   repeat' first
   | (with_reducible exact ih0 _ _ _ _ _)
   | (with_reducible exact ih1 _ _ _ _ _ _ _)
   | (with_reducible exact ih2 _ _ _ _ _ _ _ _ _)
   | (with_reducible exact impl_ValidGraph.mono _ _ _)
   | (with_reducible exact impl_classes.mono _ _)
   | (with_reducible exact impl_mapped.mono _ _ _ _ _)
   | (with_reducible exact LeO.refl _)
   | (with_reducible exact LeO.none _)
   | (with_reducible refine LeO.ite ?_ ?_)
   | (with_reducible refine LeO.bind ?_ (fun _ => ?_))
   | exact ih0 _ _ _ _ _
   | exact ih1 _ _ _ _ _ _ _
   | exact ih2 _ _ _ _ _ _ _ _ _
   | exact impl_ValidGraph.mono _ _ _
   | exact impl_classes.mono _ _
   | exact impl_mapped.mono _ _ _ _ _
   | exact LeO.none _
   | refine LeO.ite ?_ ?_
   | refine LeO.bind ?_ (fun _ => ?_)
set_option maxRecDepth 100000 in
theorem impl_EqualDeep.mono : ∀ a0 a1 a2 a3 k,LeO (impl_EqualDeep.f k a0 a1 a2 a3) (impl_EqualDeep.f (k + 1) a0 a1 a2 a3) := by
 intro a0 a1 a2 a3 k
 obtain ⟨ih0,ih1,ih2⟩ := impl_EqualDeep.mono_l k
 unfold impl_EqualDeep.f
 repeat' first
   | (with_reducible exact ih0 _ _ _ _ _)
   | (with_reducible exact ih1 _ _ _ _ _ _ _)
   | (with_reducible exact ih2 _ _ _ _ _ _ _ _ _)
   | (with_reducible exact impl_ValidGraph.mono _ _ _)
   | (with_reducible exact impl_classes.mono _ _)
   | (with_reducible exact impl_mapped.mono _ _ _ _ _)
   | (with_reducible exact LeO.refl _)
   | (with_reducible exact LeO.none _)
   | (with_reducible refine LeO.ite ?_ ?_)
   | (with_reducible refine LeO.bind ?_ (fun _ => ?_))
   | exact ih0 _ _ _ _ _
   | exact ih1 _ _ _ _ _ _ _
   | exact ih2 _ _ _ _ _ _ _ _ _
   | exact impl_ValidGraph.mono _ _ _
   | exact impl_classes.mono _ _
   | exact impl_mapped.mono _ _ _ _ _
   | exact LeO.none _
   | refine LeO.ite ?_ ?_
   | refine LeO.bind ?_ (fun _ => ?_)
set_option maxHeartbeats 8000000 in
set_option maxRecDepth 100000 in
theorem impl_EqualDeep.calls (k : Nat) (A0_0 : Option Addr) (c0_0 : Nat) (l0_0 : List (S58)) (a0_1 : Int) (A1_0 : Option Addr) (c1_0 : Nat) (l1_0 : List (S58)) (a1_1 : Int) (r : Bool) (w : World) (hr0_0 : Kd.C k58 w A0_0 l0_0.length l0_0) (hc0_0 : l0_0.length ≤ c0_0) (hr1_0 : Kd.C k58 w A1_0 l1_0.length l1_0) (hc1_0 : l1_0.length ≤ c1_0) (h : impl_EqualDeep.f k l0_0 a0_1 l1_0 a1_1 = some r) :
  Calls Try.prog 29 #[.agg #[.slice A0_0 l0_0.length c0_0,.int .i64 a0_1],.agg #[.slice A1_0 l1_0.length c1_0,.int .i64 a1_1]] w fun e w' => e = .returned (.bool r) ∧ Below w.heap.size w w' := by
 have hu25 := Try.underlying25
 have hu58 := Try.underlying58
 have HR0_0 := As_ hr0_0
 have HC0_0 := As_ hc0_0
 clear hr0_0 hc0_0
 have HR1_0 := As_ hr1_0
 have HC1_0 := As_ hc1_0
 clear hr1_0 hc1_0
 have HB := As_ (Below.refl w.heap.size w)
 have H : ((impl_ValidGraph.f k l0_0 a0_1).bind fun t744 => (if t744 = true then ((impl_ValidGraph.f k l1_0 a1_1).bind fun t745 => (impl_EqualDeep.j0 k (!t745) l0_0 a0_1 l1_0 a1_1)) else (impl_EqualDeep.j0 k true l0_0 a0_1 l1_0 a1_1))) = some r := h
 clear h
 have HC3 := As_ H
 clear H
 go_enter Try.func29,Try.ntmps29
 go_upto_region 1 with (first|((with_reducible refine gate_dst (N := 2) rfl ?_);refine box_event ?hg (N := 2) ?hd (cs := #[.slice A0_0 l0_0.length c0_0,.int .i64 a0_1]) (t := 25) ?hr ?_;(case hd => rfl);(case hg => rfl);(case hr => go_simp <;> rfl);intro gb742 hg w4 hbox hb;have n0_ := As_ (bwT (zb0 HB.out) hb);have n1_ := As_ (hbox);have n2_ := As_ ((by rw [hg];exact (bwZ (zb0 HB.out)) : w.heap.size ≤ gb742));have n3_ := As_ ((by rw [hg];exact (bwZ (zb0 HB.out)) : w.heap.size ≤ gb742));clear HB;revert n0_ n1_ n2_ n3_;intro HB BK742 GW742 GE742;clear hb hbox hg)|((with_reducible refine gate_dst (N := 3) rfl ?_);refine box_event ?hg (N := 3) ?hd (cs := #[.slice A1_0 l1_0.length c1_0,.int .i64 a1_1]) (t := 25) ?hr ?_;(case hd => rfl);(case hg => rfl);(case hr => go_simp <;> rfl);intro gb743 hg w5 hbox hb;have n0_ := As_ (zkb BK742.out hb);have n1_ := As_ (bwT (zb1 HB.out GE742.out) hb);have n2_ := As_ (hbox);have n3_ := As_ ((by rw [hg];exact (bwZ (zb1 HB.out GE742.out)) : w.heap.size ≤ gb743));have n4_ := As_ ((by rw [hg];exact (bwZ (zb1 HB.out GE742.out)) : w.heap.size ≤ gb743));have n5_ := As_ ((by rw [hg];exact Nat.ne_of_lt (zkl BK742.out) : gb742 ≠ gb743));have n6_ := As_ ((by rw [hg];exact Nat.ne_of_gt (zkl BK742.out) : gb743 ≠ gb742));clear BK742 HB;revert n0_ n1_ n2_ n3_ n4_ n5_ n6_;intro BK742 HB BK743 GW743 GE743 NB742_743 NB743_742;clear hb hbox hg))
 repeat (go_quiet (first|((with_reducible refine gate_dst (N := 2) rfl ?_);refine box_event ?hg (N := 2) ?hd (cs := #[.slice A0_0 l0_0.length c0_0,.int .i64 a0_1]) (t := 25) ?hr ?_;(case hd => rfl);(case hg => rfl);(case hr => go_simp <;> rfl);intro gb742 hg w4 hbox hb;have n0_ := As_ (bwT (zb0 HB.out) hb);have n1_ := As_ (hbox);have n2_ := As_ ((by rw [hg];exact (bwZ (zb0 HB.out)) : w.heap.size ≤ gb742));have n3_ := As_ ((by rw [hg];exact (bwZ (zb0 HB.out)) : w.heap.size ≤ gb742));clear HB;revert n0_ n1_ n2_ n3_;intro HB BK742 GW742 GE742;clear hb hbox hg)|((with_reducible refine gate_dst (N := 3) rfl ?_);refine box_event ?hg (N := 3) ?hd (cs := #[.slice A1_0 l1_0.length c1_0,.int .i64 a1_1]) (t := 25) ?hr ?_;(case hd => rfl);(case hg => rfl);(case hr => go_simp <;> rfl);intro gb743 hg w5 hbox hb;have n0_ := As_ (zkb BK742.out hb);have n1_ := As_ (bwT (zb1 HB.out GE742.out) hb);have n2_ := As_ (hbox);have n3_ := As_ ((by rw [hg];exact (bwZ (zb1 HB.out GE742.out)) : w.heap.size ≤ gb743));have n4_ := As_ ((by rw [hg];exact (bwZ (zb1 HB.out GE742.out)) : w.heap.size ≤ gb743));have n5_ := As_ ((by rw [hg];exact Nat.ne_of_lt (zkl BK742.out) : gb742 ≠ gb743));have n6_ := As_ ((by rw [hg];exact Nat.ne_of_gt (zkl BK742.out) : gb743 ≠ gb742));clear BK742 HB;revert n0_ n1_ n2_ n3_ n4_ n5_ n6_;intro BK742 HB BK743 GW743 GE743 NB742_743 NB743_742;clear hb hbox hg));go_upto_region 1 with (first|((with_reducible refine gate_dst (N := 2) rfl ?_);refine box_event ?hg (N := 2) ?hd (cs := #[.slice A0_0 l0_0.length c0_0,.int .i64 a0_1]) (t := 25) ?hr ?_;(case hd => rfl);(case hg => rfl);(case hr => go_simp <;> rfl);intro gb742 hg w4 hbox hb;have n0_ := As_ (bwT (zb0 HB.out) hb);have n1_ := As_ (hbox);have n2_ := As_ ((by rw [hg];exact (bwZ (zb0 HB.out)) : w.heap.size ≤ gb742));have n3_ := As_ ((by rw [hg];exact (bwZ (zb0 HB.out)) : w.heap.size ≤ gb742));clear HB;revert n0_ n1_ n2_ n3_;intro HB BK742 GW742 GE742;clear hb hbox hg)|((with_reducible refine gate_dst (N := 3) rfl ?_);refine box_event ?hg (N := 3) ?hd (cs := #[.slice A1_0 l1_0.length c1_0,.int .i64 a1_1]) (t := 25) ?hr ?_;(case hd => rfl);(case hg => rfl);(case hr => go_simp <;> rfl);intro gb743 hg w5 hbox hb;have n0_ := As_ (zkb BK742.out hb);have n1_ := As_ (bwT (zb1 HB.out GE742.out) hb);have n2_ := As_ (hbox);have n3_ := As_ ((by rw [hg];exact (bwZ (zb1 HB.out GE742.out)) : w.heap.size ≤ gb743));have n4_ := As_ ((by rw [hg];exact (bwZ (zb1 HB.out GE742.out)) : w.heap.size ≤ gb743));have n5_ := As_ ((by rw [hg];exact Nat.ne_of_lt (zkl BK742.out) : gb742 ≠ gb743));have n6_ := As_ ((by rw [hg];exact Nat.ne_of_gt (zkl BK742.out) : gb743 ≠ gb742));clear BK742 HB;revert n0_ n1_ n2_ n3_ n4_ n5_ n6_;intro BK742 HB BK743 GW743 GE743 NB742_743 NB743_742;clear hb hbox hg)))
 (try simp only [Act.put,List.setIfInBounds_toArray,List.set_cons_zero,List.set_cons_succ])
 go_cut [18] (fun v18 wc => ∃ (kq : Nat) (x18_2 : Bool),v18 = .bool x18_2 ∧ Aside0 (impl_EqualDeep.j0 kq x18_2 l0_0 a0_1 l1_0 a1_1 = some r) ∧ Aside0 (kq ≤ k) ∧ Aside0 (wc.heap[gb742]? = some (.cells #[(.slice A0_0 l0_0.length c0_0),.int .i64 a0_1] 25 (0,0))) ∧ Aside0 (wc.heap[gb743]? = some (.cells #[(.slice A1_0 l1_0.length c1_0),.int .i64 a1_1] 25 (0,0))) ∧ Aside0 (Below w.heap.size w wc))
 case first =>
  have H := HC3.out
  clear HC3
  replace H := obS H
  obtain ⟨t744,A60,H⟩ := H
  replace H : (if t744 = true then ((impl_ValidGraph.f k l1_0 a1_1).bind fun t745 => (impl_EqualDeep.j0 k (!t745) l0_0 a0_1 l1_0 a1_1)) else (impl_EqualDeep.j0 k true l0_0 a0_1 l1_0 a1_1)) = some r := H
  have A6 := As_ A60
  clear A60
  by_cases c7 : t744 = true
  rotate_left
  ·replace c7 := Bool.eq_false_iff.mpr c7
   subst c7
   have H1 : (impl_EqualDeep.j0 k true l0_0 a0_1 l1_0 a1_1) = some r := by rw [if_neg (show ¬ (false = true) by decide)] at H;exact H
   clear H
   have H := H1
   clear H1
   have H' := As_ H
   clear H
   have hnb14 := NB742_743.out
   have hnc14 := NB743_742.out
   obtain ⟨hcz15_0,hcz15_1,hfz15_0,hfz15_1⟩ := bk2 BK742.out
   go_wp2_with (first|(go_at_call 37;(with_reducible refine (impl_ValidGraph.calls k _ _ l0_0 a0_1 false _ ?side1 ?side2 A6.out).mono ?_);(case side1 => exact zC_ (Kd.C_below HR0_0.out HB.out));(case side2 => exact HC0_0.out);rintro e w16 ⟨rfl,hb⟩;have n0_ := As_ (zkb BK742.out hb);have n1_ := As_ (zkb BK743.out hb);have n2_ := As_ (bwT (zb2 HB.out GE742.out GE743.out) hb);clear BK742 BK743 HB;revert n0_ n1_ n2_;intro BK742 BK743 HB))
   repeat (go_quiet (first|(go_at_call 37;(with_reducible refine (impl_ValidGraph.calls k _ _ l0_0 a0_1 false _ ?side1 ?side2 A6.out).mono ?_);(case side1 => exact zC_ (Kd.C_below HR0_0.out HB.out));(case side2 => exact HC0_0.out);rintro e w16 ⟨rfl,hb⟩;have n0_ := As_ (zkb BK742.out hb);have n1_ := As_ (zkb BK743.out hb);have n2_ := As_ (bwT (zb2 HB.out GE742.out GE743.out) hb);clear BK742 BK743 HB;revert n0_ n1_ n2_;intro BK742 BK743 HB));try go_wp2_with (first|(go_at_call 37;(with_reducible refine (impl_ValidGraph.calls k _ _ l0_0 a0_1 false _ ?side1 ?side2 A6.out).mono ?_);(case side1 => exact zC_ (Kd.C_below HR0_0.out HB.out));(case side2 => exact HC0_0.out);rintro e w16 ⟨rfl,hb⟩;have n0_ := As_ (zkb BK742.out hb);have n1_ := As_ (zkb BK743.out hb);have n2_ := As_ (bwT (zb2 HB.out GE742.out GE743.out) hb);clear BK742 BK743 HB;revert n0_ n1_ n2_;intro BK742 BK743 HB)))
   go_meet
   case rel => exact ⟨_,(true),zT_,H',⟨by first|omega|exact Nat.le_refl _⟩,⟨by (with_reducible repeat first|apply bkN|apply bkD|apply bkA);exact BK742.out⟩,⟨by (with_reducible repeat first|apply bkN|apply bkD|apply bkA);exact BK743.out⟩,⟨zb2 HB.out GE742.out GE743.out⟩⟩
  subst c7
  have H1 : ((impl_ValidGraph.f k l1_0 a1_1).bind fun t745 => (impl_EqualDeep.j0 k (!t745) l0_0 a0_1 l1_0 a1_1)) = some r := by rw [if_pos rfl] at H;exact H
  clear H
  have H := H1
  clear H1
  replace H := obS H
  obtain ⟨t745,A80,H⟩ := H
  replace H : (impl_EqualDeep.j0 k (!t745) l0_0 a0_1 l1_0 a1_1) = some r := H
  have A8 := As_ A80
  clear A80
  have H' := As_ H
  clear H
  have hnb9 := NB742_743.out
  have hnc9 := NB743_742.out
  obtain ⟨hcz10_0,hcz10_1,hfz10_0,hfz10_1⟩ := bk2 BK742.out
  go_wp2_with (first|(go_at_call 37;(with_reducible refine (impl_ValidGraph.calls k _ _ l0_0 a0_1 true _ ?side1 ?side2 A6.out).mono ?_);(case side1 => exact zC_ (Kd.C_below HR0_0.out HB.out));(case side2 => exact HC0_0.out);rintro e w11 ⟨rfl,hb⟩;have n0_ := As_ (zkb BK742.out hb);have n1_ := As_ (zkb BK743.out hb);have n2_ := As_ (bwT (zb2 HB.out GE742.out GE743.out) hb);clear BK742 BK743 HB;revert n0_ n1_ n2_;intro BK742 BK743 HB;obtain ⟨hcz12_0,hcz12_1,hfz12_0,hfz12_1⟩ := bk2 BK743.out)|(go_at_call 37;(with_reducible refine (impl_ValidGraph.calls k _ _ l1_0 a1_1 t745 _ ?side1 ?side2 A8.out).mono ?_);(case side1 => exact zC_ (Kd.C_below HR1_0.out HB.out));(case side2 => exact HC1_0.out);rintro e w13 ⟨rfl,hb⟩;have n0_ := As_ (zkb BK742.out hb);have n1_ := As_ (zkb BK743.out hb);have n2_ := As_ (bwT (zb2 HB.out GE742.out GE743.out) hb);clear BK742 BK743 HB;revert n0_ n1_ n2_;intro BK742 BK743 HB))
  repeat (go_quiet (first|(go_at_call 37;(with_reducible refine (impl_ValidGraph.calls k _ _ l0_0 a0_1 true _ ?side1 ?side2 A6.out).mono ?_);(case side1 => exact zC_ (Kd.C_below HR0_0.out HB.out));(case side2 => exact HC0_0.out);rintro e w11 ⟨rfl,hb⟩;have n0_ := As_ (zkb BK742.out hb);have n1_ := As_ (zkb BK743.out hb);have n2_ := As_ (bwT (zb2 HB.out GE742.out GE743.out) hb);clear BK742 BK743 HB;revert n0_ n1_ n2_;intro BK742 BK743 HB;obtain ⟨hcz12_0,hcz12_1,hfz12_0,hfz12_1⟩ := bk2 BK743.out)|(go_at_call 37;(with_reducible refine (impl_ValidGraph.calls k _ _ l1_0 a1_1 t745 _ ?side1 ?side2 A8.out).mono ?_);(case side1 => exact zC_ (Kd.C_below HR1_0.out HB.out));(case side2 => exact HC1_0.out);rintro e w13 ⟨rfl,hb⟩;have n0_ := As_ (zkb BK742.out hb);have n1_ := As_ (zkb BK743.out hb);have n2_ := As_ (bwT (zb2 HB.out GE742.out GE743.out) hb);clear BK742 BK743 HB;revert n0_ n1_ n2_;intro BK742 BK743 HB));try go_wp2_with (first|(go_at_call 37;(with_reducible refine (impl_ValidGraph.calls k _ _ l0_0 a0_1 true _ ?side1 ?side2 A6.out).mono ?_);(case side1 => exact zC_ (Kd.C_below HR0_0.out HB.out));(case side2 => exact HC0_0.out);rintro e w11 ⟨rfl,hb⟩;have n0_ := As_ (zkb BK742.out hb);have n1_ := As_ (zkb BK743.out hb);have n2_ := As_ (bwT (zb2 HB.out GE742.out GE743.out) hb);clear BK742 BK743 HB;revert n0_ n1_ n2_;intro BK742 BK743 HB;obtain ⟨hcz12_0,hcz12_1,hfz12_0,hfz12_1⟩ := bk2 BK743.out)|(go_at_call 37;(with_reducible refine (impl_ValidGraph.calls k _ _ l1_0 a1_1 t745 _ ?side1 ?side2 A8.out).mono ?_);(case side1 => exact zC_ (Kd.C_below HR1_0.out HB.out));(case side2 => exact HC1_0.out);rintro e w13 ⟨rfl,hb⟩;have n0_ := As_ (zkb BK742.out hb);have n1_ := As_ (zkb BK743.out hb);have n2_ := As_ (bwT (zb2 HB.out GE742.out GE743.out) hb);clear BK742 BK743 HB;revert n0_ n1_ n2_;intro BK742 BK743 HB)))
  go_meet
  case rel => exact ⟨_,(!t745),zT_,H',⟨by first|omega|exact Nat.le_refl _⟩,⟨by (with_reducible repeat first|apply bkN|apply bkD|apply bkA);exact BK742.out⟩,⟨by (with_reducible repeat first|apply bkN|apply bkD|apply bkA);exact BK743.out⟩,⟨zb2 HB.out GE742.out GE743.out⟩⟩
 case rest =>
  clear HC3
  obtain ⟨kq,x18_2,rfl,HA,HJ2,BK742,BK743,HB⟩ := hcut
  cases kq with
  | zero => exact absurd HA.out (fun h_ => (by cases h_))
  | succ kj2 =>
   have H := HA.out
   clear HA
   simp only [impl_EqualDeep.j0] at H
   by_cases c17 : x18_2 = true
   ·subst c17
    have H1 : (some false) = some r := by rw [if_pos rfl] at H;exact H
    clear H
    have H := H1
    clear H1
    obtain rfl := Option.some.inj H
    go_wp2
    repeat (go_quiet (fail);try go_wp2)
    go_ret
    exact ⟨zE_,zb2 HB.out GE742.out GE743.out⟩
   replace c17 := Bool.eq_false_iff.mpr c17
   subst c17
   have H1 : (impl_EqualDeep.l0 kj2 (([] : List Int)) (l1_0.length : Int) 0 l0_0 a0_1 l1_0 a1_1) = some r := by rw [if_neg (show ¬ (false = true) by decide)] at H;exact H
   clear H
   have H := H1
   clear H1
   obtain ⟨y746,hy746⟩ : ∃ y_ : List Int,y_ = (([] : List Int)) := ⟨_,rfl⟩
   replace H : (impl_EqualDeep.l0 kj2 y746 (l1_0.length : Int) 0 l0_0 a0_1 l1_0 a1_1) = some r := zH_ H hy746
   have Ny746 := As_ hy746
   clear hy746
   have H' := As_ H
   clear H
   go_wp2_with (first|((with_reducible refine gate_dst (N := 19) rfl ?_);refine Kd.R_lit (Kd.int .i64) _ 3 ?hg (N := 19) ?hd (xs := ([] : List Int)) (inner := []) (ok := fun _ => True) (okp := fun _ => True) ?hr ?hp (fun _ hk => hk) trivial (Below.refl _ _) (Nat.le_refl _) (by simp) ?_;(case hd => rfl);(case hg => rfl);(case hr => go_simp <;> rfl);(case hp => exact (Reps.none _ _));intro v747 w18 ho19 hb hg_ hnew_;clear hg_ hnew_;(first|rw [← Ny746.out] at ho19|(simp only [Int.reduceToNat] at ho19;rw [← Ny746.out] at ho19));have n0_ := As_ (Kd.R_lower ho19 (bwZ (zb2 HB.out GE742.out GE743.out)));have n1_ := As_ (zkb BK742.out hb);have n2_ := As_ (zkb BK743.out hb);have n3_ := As_ (bwT (zb2 HB.out GE742.out GE743.out) hb);clear BK742 BK743 HB;revert n0_ n1_ n2_ n3_;intro HO748 BK742 BK743 HB;clear hb ho19;have hnb20 := NB743_742.out;have hnc20 := NB742_743.out;obtain ⟨hcz21_0,hcz21_1,hfz21_0,hfz21_1⟩ := bk2 BK743.out))
   repeat (go_quiet (first|((with_reducible refine gate_dst (N := 19) rfl ?_);refine Kd.R_lit (Kd.int .i64) _ 3 ?hg (N := 19) ?hd (xs := ([] : List Int)) (inner := []) (ok := fun _ => True) (okp := fun _ => True) ?hr ?hp (fun _ hk => hk) trivial (Below.refl _ _) (Nat.le_refl _) (by simp) ?_;(case hd => rfl);(case hg => rfl);(case hr => go_simp <;> rfl);(case hp => exact (Reps.none _ _));intro v747 w18 ho19 hb hg_ hnew_;clear hg_ hnew_;(first|rw [← Ny746.out] at ho19|(simp only [Int.reduceToNat] at ho19;rw [← Ny746.out] at ho19));have n0_ := As_ (Kd.R_lower ho19 (bwZ (zb2 HB.out GE742.out GE743.out)));have n1_ := As_ (zkb BK742.out hb);have n2_ := As_ (zkb BK743.out hb);have n3_ := As_ (bwT (zb2 HB.out GE742.out GE743.out) hb);clear BK742 BK743 HB;revert n0_ n1_ n2_ n3_;intro HO748 BK742 BK743 HB;clear hb ho19;have hnb20 := NB743_742.out;have hnc20 := NB742_743.out;obtain ⟨hcz21_0,hcz21_1,hfz21_0,hfz21_1⟩ := bk2 BK743.out));try go_wp2_with (first|((with_reducible refine gate_dst (N := 19) rfl ?_);refine Kd.R_lit (Kd.int .i64) _ 3 ?hg (N := 19) ?hd (xs := ([] : List Int)) (inner := []) (ok := fun _ => True) (okp := fun _ => True) ?hr ?hp (fun _ hk => hk) trivial (Below.refl _ _) (Nat.le_refl _) (by simp) ?_;(case hd => rfl);(case hg => rfl);(case hr => go_simp <;> rfl);(case hp => exact (Reps.none _ _));intro v747 w18 ho19 hb hg_ hnew_;clear hg_ hnew_;(first|rw [← Ny746.out] at ho19|(simp only [Int.reduceToNat] at ho19;rw [← Ny746.out] at ho19));have n0_ := As_ (Kd.R_lower ho19 (bwZ (zb2 HB.out GE742.out GE743.out)));have n1_ := As_ (zkb BK742.out hb);have n2_ := As_ (zkb BK743.out hb);have n3_ := As_ (bwT (zb2 HB.out GE742.out GE743.out) hb);clear BK742 BK743 HB;revert n0_ n1_ n2_ n3_;intro HO748 BK742 BK743 HB;clear hb ho19;have hnb20 := NB743_742.out;have hnc20 := NB742_743.out;obtain ⟨hcz21_0,hcz21_1,hfz21_0,hfz21_1⟩ := bk2 BK743.out)))
   go_loopg [5,23] kj2 (fun kq v5 v23 w' => ∃ (x5_2 : List Int) (x23_2 : Int),v23 = .int .i64 x23_2 ∧ Aside0 (impl_EqualDeep.l0 kq x5_2 (l1_0.length : Int) x23_2 l0_0 a0_1 l1_0 a1_1 = some r) ∧ Aside0 (kq ≤ kj2) ∧ Aside0 (Kd.R (Kd.int .i64) 3 w' w.heap.size (fun _ => True) v5 x5_2) ∧ Aside0 (w'.heap[gb742]? = some (.cells #[(.slice A0_0 l0_0.length c0_0),.int .i64 a0_1] 25 (0,0))) ∧ Aside0 (w'.heap[gb743]? = some (.cells #[(.slice A1_0 l1_0.length c1_0),.int .i64 a1_1] 25 (0,0))) ∧ Aside0 (Below w.heap.size w w'))
   case atStart => exact ⟨(y746),(0),zT_,H',⟨Nat.le_refl _⟩,⟨by (with_reducible repeat (first|apply Kd.R_alloc|apply Kd.R_drewN|apply Kd.R_drew));exact HO748.out⟩,⟨by (with_reducible repeat first|apply bkN|apply bkD|apply bkA);exact BK742.out⟩,⟨by (with_reducible repeat first|apply bkN|apply bkD|apply bkA);exact BK743.out⟩,⟨zb2 HB.out GE742.out GE743.out⟩⟩
   case round =>
    clear H'
    obtain ⟨x5_2,x23_2,rfl,HA,HK2,HO_5,BK742,BK743,HB⟩ := hrel
    cases gk with
    | zero => exact absurd HA.out (fun h_ => (by cases h_))
    | succ k2 =>
     have H := HA.out
     clear HA
     simp only [impl_EqualDeep.l0] at H
     by_cases c22 : x23_2 < (l1_0.length : Int)
     ·rw [if_pos c22] at H
      have c22b0 : decide (x23_2 < (l1_0.length : Int)) = true := deT c22
      clear c22
      by_cases c23 : x5_2.length < 17592186044416
      rotate_left
      ·rw [if_neg c23] at H
       exact absurd H (by simp)
      rw [if_pos c23] at H
      have LMc23 := As_ c23
      clear c23
      obtain ⟨y749,hy749⟩ : ∃ y_ : List Int,y_ = (x5_2 ++ [wrap64 (x23_2 + (l0_0.length : Int))]) := ⟨_,rfl⟩
      replace H : (impl_EqualDeep.l0 k2 y749 (l1_0.length : Int) (wrap64 (x23_2 + 1)) l0_0 a0_1 l1_0 a1_1) = some r := zH_ H hy749
      have Ny749 := As_ hy749
      clear hy749
      have H' := As_ H
      clear H
      have hnb24 := NB742_743.out
      have hnc24 := NB743_742.out
      obtain ⟨hcz25_0,hcz25_1,hfz25_0,hfz25_1⟩ := bk2 BK742.out
      go_wp2_with (first|((with_reducible refine gate_builtin (b := .append) (xs := #[.tmp 26,.tmp 32]) rfl ?_);at_builtin;refine Kd.R_append (Kd.int .i64) (w0 := w) w.heap.size rfl (.tmp 26) (.tmp 32) 26 3 (.int .i64 0) 8 rfl Try.underlying26 info3 rfl (by decide) (by omega) u5 x5_2 (wrap64 (x23_2 + (l0_0.length : Int))) [.int .i64 (wrap64 (x23_2 + (l0_0.length : Int)))] (fun _ => True) (fun _ => False) rfl rfl ?aP (fun _ hk => hk.elim) ?aF ?aO ?aB ?aS ?aL ?_;(case aP => exact rfl);(case aB => exact (zb2 HB.out GE742.out GE743.out));(case aF => exact (fun _ _ => trivial));(case aO => exact (zR_ HO_5.out));(case aS => exact (bwZ (zb2 HB.out GE742.out GE743.out)));(case aL => have := LMc23.out;omega);intro v750 w26 ho hb hg hat;rw [← Ny749.out] at ho;have n0_ := As_ (blk_grown (g := gb742) (o := .cells #[.slice A0_0 l0_0.length c0_0,.int .i64 a0_1] 25 (0,0)) (zk_ BK742.out) hg (Kd.R_ne HO_5.out BK742.out (by decide)));have n1_ := As_ (blk_grown (g := gb743) (o := .cells #[.slice A1_0 l1_0.length c1_0,.int .i64 a1_1] 25 (0,0)) (zk_ BK743.out) hg (Kd.R_ne HO_5.out BK743.out (by decide)));have n2_ := As_ (hb);have n3_ := As_ (ho);clear BK742 BK743 HB HO_5;revert n0_ n1_ n2_ n3_;intro BK742 BK743 HB HO751;clear ho hb hg hat))
      repeat (go_quiet (first|((with_reducible refine gate_builtin (b := .append) (xs := #[.tmp 26,.tmp 32]) rfl ?_);at_builtin;refine Kd.R_append (Kd.int .i64) (w0 := w) w.heap.size rfl (.tmp 26) (.tmp 32) 26 3 (.int .i64 0) 8 rfl Try.underlying26 info3 rfl (by decide) (by omega) u5 x5_2 (wrap64 (x23_2 + (l0_0.length : Int))) [.int .i64 (wrap64 (x23_2 + (l0_0.length : Int)))] (fun _ => True) (fun _ => False) rfl rfl ?aP (fun _ hk => hk.elim) ?aF ?aO ?aB ?aS ?aL ?_;(case aP => exact rfl);(case aB => exact (zb2 HB.out GE742.out GE743.out));(case aF => exact (fun _ _ => trivial));(case aO => exact (zR_ HO_5.out));(case aS => exact (bwZ (zb2 HB.out GE742.out GE743.out)));(case aL => have := LMc23.out;omega);intro v750 w26 ho hb hg hat;rw [← Ny749.out] at ho;have n0_ := As_ (blk_grown (g := gb742) (o := .cells #[.slice A0_0 l0_0.length c0_0,.int .i64 a0_1] 25 (0,0)) (zk_ BK742.out) hg (Kd.R_ne HO_5.out BK742.out (by decide)));have n1_ := As_ (blk_grown (g := gb743) (o := .cells #[.slice A1_0 l1_0.length c1_0,.int .i64 a1_1] 25 (0,0)) (zk_ BK743.out) hg (Kd.R_ne HO_5.out BK743.out (by decide)));have n2_ := As_ (hb);have n3_ := As_ (ho);clear BK742 BK743 HB HO_5;revert n0_ n1_ n2_ n3_;intro BK742 BK743 HB HO751;clear ho hb hg hat));try go_wp2_with (first|((with_reducible refine gate_builtin (b := .append) (xs := #[.tmp 26,.tmp 32]) rfl ?_);at_builtin;refine Kd.R_append (Kd.int .i64) (w0 := w) w.heap.size rfl (.tmp 26) (.tmp 32) 26 3 (.int .i64 0) 8 rfl Try.underlying26 info3 rfl (by decide) (by omega) u5 x5_2 (wrap64 (x23_2 + (l0_0.length : Int))) [.int .i64 (wrap64 (x23_2 + (l0_0.length : Int)))] (fun _ => True) (fun _ => False) rfl rfl ?aP (fun _ hk => hk.elim) ?aF ?aO ?aB ?aS ?aL ?_;(case aP => exact rfl);(case aB => exact (zb2 HB.out GE742.out GE743.out));(case aF => exact (fun _ _ => trivial));(case aO => exact (zR_ HO_5.out));(case aS => exact (bwZ (zb2 HB.out GE742.out GE743.out)));(case aL => have := LMc23.out;omega);intro v750 w26 ho hb hg hat;rw [← Ny749.out] at ho;have n0_ := As_ (blk_grown (g := gb742) (o := .cells #[.slice A0_0 l0_0.length c0_0,.int .i64 a0_1] 25 (0,0)) (zk_ BK742.out) hg (Kd.R_ne HO_5.out BK742.out (by decide)));have n1_ := As_ (blk_grown (g := gb743) (o := .cells #[.slice A1_0 l1_0.length c1_0,.int .i64 a1_1] 25 (0,0)) (zk_ BK743.out) hg (Kd.R_ne HO_5.out BK743.out (by decide)));have n2_ := As_ (hb);have n3_ := As_ (ho);clear BK742 BK743 HB HO_5;revert n0_ n1_ n2_ n3_;intro BK742 BK743 HB HO751;clear ho hb hg hat)))
      go_roundg k2
      case measure => have := HJ2.out;have := HK2.out;omega
      case rel => exact ⟨(y749),(wrap64 (x23_2 + 1)),zT_,H',⟨by have := HJ2.out;have := HK2.out;omega⟩,⟨by (with_reducible repeat (first|apply Kd.R_alloc|apply Kd.R_drewN|apply Kd.R_drew));exact HO751.out⟩,⟨by (with_reducible repeat first|apply bkN|apply bkD|apply bkA);exact BK742.out⟩,⟨by (with_reducible repeat first|apply bkN|apply bkD|apply bkA);exact BK743.out⟩,⟨zb2 HB.out GE742.out GE743.out⟩⟩
     rw [if_neg c22] at H
     have c22b0 : decide (x23_2 < (l1_0.length : Int)) = false := deF c22
     clear c22
     replace H := obS H
     obtain ⟨t752,A270,H⟩ := H
     replace H : (impl_EqualDeep.l1 k2 x5_2 t752 l1_0 (l1_0.length : Int) 0 l0_0 a0_1 l1_0 a1_1) = some r := H
     have A27 := As_ A270
     clear A270
     have H' := As_ H
     clear H
     have hnb28 := NB742_743.out
     have hnc28 := NB743_742.out
     obtain ⟨hcz29_0,hcz29_1,hfz29_0,hfz29_1⟩ := bk2 BK742.out
     go_wp2_with (first|(go_at_call 55;(with_reducible refine (impl_Node_55.calls (fun k_ => k_ < w.heap.size) _ _ l0_0 t752 _ ?side1 A27.out).mono ?_);(case side1 => exact Kd.V_mk HC0_0.out (Kd.F_below (Kd.C_F k58_heap HR0_0.out) (zb2 HB.out GE742.out GE743.out)));rintro e w30 ⟨v753,rfl,ho0,hb⟩;have n0_ := As_ (Kd.R_below (zR_ HO_5.out) hb);have n1_ := As_ (Kd.N_lower (Kd.N_mono (ok' := fun k_ => some k_ ≠ (u5 : Value).ownBlock ∧ k_ ≠ gb742 ∧ k_ ≠ gb743) ho0 (fun k_ hk_ => ⟨Or.elim hk_ (fun hs_ => fun e_ => Nat.not_le.2 hs_ (Kd.R_base HO_5.out k_ e_.symm)) (fun hn_ => (Kd.fresh' (Kd.R_lt (zR_ HO_5.out)) k_ hn_)),Or.elim hk_ (fun hs_ => fun e_ => Nat.not_le.2 hs_ (by rw [e_];exact GW742.out)) (fun hn_ => (Kd.freshB (g := gb742) (o := .cells #[.slice A0_0 l0_0.length c0_0,.int .i64 a0_1] 25 (0,0)) (zk_ BK742.out) k_ hn_)),Or.elim hk_ (fun hs_ => fun e_ => Nat.not_le.2 hs_ (by rw [e_];exact GW743.out)) (fun hn_ => (Kd.freshB (g := gb743) (o := .cells #[.slice A1_0 l1_0.length c1_0,.int .i64 a1_1] 25 (0,0)) (zk_ BK743.out) k_ hn_))⟩)) (bwZ (zb2 HB.out GE742.out GE743.out)));have n2_ := As_ (zkb BK742.out hb);have n3_ := As_ (zkb BK743.out hb);have n4_ := As_ (bwT (zb2 HB.out GE742.out GE743.out) hb);clear HO_5 BK742 BK743 HB;revert n0_ n1_ n2_ n3_ n4_;intro HO_5 HO754 BK742 BK743 HB;obtain ⟨hcz31_0,hcz31_1,hfz31_0,hfz31_1⟩ := bk2 BK743.out))
     repeat (go_quiet (first|(go_at_call 55;(with_reducible refine (impl_Node_55.calls (fun k_ => k_ < w.heap.size) _ _ l0_0 t752 _ ?side1 A27.out).mono ?_);(case side1 => exact Kd.V_mk HC0_0.out (Kd.F_below (Kd.C_F k58_heap HR0_0.out) (zb2 HB.out GE742.out GE743.out)));rintro e w30 ⟨v753,rfl,ho0,hb⟩;have n0_ := As_ (Kd.R_below (zR_ HO_5.out) hb);have n1_ := As_ (Kd.N_lower (Kd.N_mono (ok' := fun k_ => some k_ ≠ (u5 : Value).ownBlock ∧ k_ ≠ gb742 ∧ k_ ≠ gb743) ho0 (fun k_ hk_ => ⟨Or.elim hk_ (fun hs_ => fun e_ => Nat.not_le.2 hs_ (Kd.R_base HO_5.out k_ e_.symm)) (fun hn_ => (Kd.fresh' (Kd.R_lt (zR_ HO_5.out)) k_ hn_)),Or.elim hk_ (fun hs_ => fun e_ => Nat.not_le.2 hs_ (by rw [e_];exact GW742.out)) (fun hn_ => (Kd.freshB (g := gb742) (o := .cells #[.slice A0_0 l0_0.length c0_0,.int .i64 a0_1] 25 (0,0)) (zk_ BK742.out) k_ hn_)),Or.elim hk_ (fun hs_ => fun e_ => Nat.not_le.2 hs_ (by rw [e_];exact GW743.out)) (fun hn_ => (Kd.freshB (g := gb743) (o := .cells #[.slice A1_0 l1_0.length c1_0,.int .i64 a1_1] 25 (0,0)) (zk_ BK743.out) k_ hn_))⟩)) (bwZ (zb2 HB.out GE742.out GE743.out)));have n2_ := As_ (zkb BK742.out hb);have n3_ := As_ (zkb BK743.out hb);have n4_ := As_ (bwT (zb2 HB.out GE742.out GE743.out) hb);clear HO_5 BK742 BK743 HB;revert n0_ n1_ n2_ n3_ n4_;intro HO_5 HO754 BK742 BK743 HB;obtain ⟨hcz31_0,hcz31_1,hfz31_0,hfz31_1⟩ := bk2 BK743.out));try go_wp2_with (first|(go_at_call 55;(with_reducible refine (impl_Node_55.calls (fun k_ => k_ < w.heap.size) _ _ l0_0 t752 _ ?side1 A27.out).mono ?_);(case side1 => exact Kd.V_mk HC0_0.out (Kd.F_below (Kd.C_F k58_heap HR0_0.out) (zb2 HB.out GE742.out GE743.out)));rintro e w30 ⟨v753,rfl,ho0,hb⟩;have n0_ := As_ (Kd.R_below (zR_ HO_5.out) hb);have n1_ := As_ (Kd.N_lower (Kd.N_mono (ok' := fun k_ => some k_ ≠ (u5 : Value).ownBlock ∧ k_ ≠ gb742 ∧ k_ ≠ gb743) ho0 (fun k_ hk_ => ⟨Or.elim hk_ (fun hs_ => fun e_ => Nat.not_le.2 hs_ (Kd.R_base HO_5.out k_ e_.symm)) (fun hn_ => (Kd.fresh' (Kd.R_lt (zR_ HO_5.out)) k_ hn_)),Or.elim hk_ (fun hs_ => fun e_ => Nat.not_le.2 hs_ (by rw [e_];exact GW742.out)) (fun hn_ => (Kd.freshB (g := gb742) (o := .cells #[.slice A0_0 l0_0.length c0_0,.int .i64 a0_1] 25 (0,0)) (zk_ BK742.out) k_ hn_)),Or.elim hk_ (fun hs_ => fun e_ => Nat.not_le.2 hs_ (by rw [e_];exact GW743.out)) (fun hn_ => (Kd.freshB (g := gb743) (o := .cells #[.slice A1_0 l1_0.length c1_0,.int .i64 a1_1] 25 (0,0)) (zk_ BK743.out) k_ hn_))⟩)) (bwZ (zb2 HB.out GE742.out GE743.out)));have n2_ := As_ (zkb BK742.out hb);have n3_ := As_ (zkb BK743.out hb);have n4_ := As_ (bwT (zb2 HB.out GE742.out GE743.out) hb);clear HO_5 BK742 BK743 HB;revert n0_ n1_ n2_ n3_ n4_;intro HO_5 HO754 BK742 BK743 HB;obtain ⟨hcz31_0,hcz31_1,hfz31_0,hfz31_1⟩ := bk2 BK743.out)))
     go_loopg [7,41] k2 (fun kq v7 v41 w' => ∃ (x7_3 : List (S58)) (x41_3 : Int),v41 = .int .i64 x41_3 ∧ Aside0 (impl_EqualDeep.l1 kq x5_2 x7_3 l1_0 (l1_0.length : Int) x41_3 l0_0 a0_1 l1_0 a1_1 = some r) ∧ Aside0 (kq ≤ k2) ∧ Aside0 (Kd.R (Kd.int .i64) 3 w' w.heap.size (fun _ => True) u5 x5_2) ∧ Aside0 (Kd.N k58 58 w' w.heap.size (fun k_ => some k_ ≠ (u5 : Value).ownBlock ∧ k_ ≠ gb742 ∧ k_ ≠ gb743) v7 x7_3) ∧ Aside0 (w'.heap[gb742]? = some (.cells #[(.slice A0_0 l0_0.length c0_0),.int .i64 a0_1] 25 (0,0))) ∧ Aside0 (w'.heap[gb743]? = some (.cells #[(.slice A1_0 l1_0.length c1_0),.int .i64 a1_1] 25 (0,0))) ∧ Aside0 (Below w.heap.size w w'))
     case atStart => exact ⟨(t752),(0),zT_,H',⟨Nat.le_refl _⟩,⟨by (with_reducible repeat (first|apply Kd.R_alloc|apply Kd.R_drewN|apply Kd.R_drew));exact HO_5.out⟩,⟨by (with_reducible repeat (first|apply Kd.N_alloc|apply Kd.N_drewN|apply Kd.N_drew));exact HO754.out⟩,⟨by (with_reducible repeat first|apply bkN|apply bkD|apply bkA);exact BK742.out⟩,⟨by (with_reducible repeat first|apply bkN|apply bkD|apply bkA);exact BK743.out⟩,⟨zb2 HB.out GE742.out GE743.out⟩⟩
     case round =>
      clear H'
      obtain ⟨x7_3,x41_3,rfl,HA,HK3,HO_5,HO_7,BK742,BK743,HB⟩ := hrel
      cases gk with
      | zero => exact absurd HA.out (fun h_ => (by cases h_))
      | succ k3 =>
       have H := HA.out
       clear HA
       simp only [impl_EqualDeep.l1] at H
       by_cases c32 : x41_3 < (l1_0.length : Int)
       rotate_left
       ·rw [if_neg c32] at H
        have c32b0 : decide (x41_3 < (l1_0.length : Int)) = false := deF c32
        clear c32
        replace H := obS H
        obtain ⟨t765,A450,H⟩ := H
        replace H : (if 0 ≤ a0_1 then (if a0_1 < (t765.length : Int) then (if 0 ≤ (wrap64 (a1_1 + (l0_0.length : Int))) then (if (wrap64 (a1_1 + (l0_0.length : Int))) < (t765.length : Int) then (some ((rd t765 a0_1) == (rd t765 (wrap64 (a1_1 + (l0_0.length : Int)))))) else (none)) else (none)) else (none)) else (none)) = some r := H
        have A45 := As_ A450
        clear A450
        by_cases c46 : 0 ≤ a0_1
        rotate_left
        ·rw [if_neg c46] at H
         exact absurd H (by simp)
        rw [if_pos c46] at H
        have c46b0 : decide (0 ≤ a0_1) = true := deT c46
        clear c46
        by_cases c47 : a0_1 < (t765.length : Int)
        rotate_left
        ·rw [if_neg c47] at H
         exact absurd H (by simp)
        rw [if_pos c47] at H
        have c47b0 : decide (a0_1 < (t765.length : Int)) = true := deT c47
        clear c47
        obtain ⟨ji48,hji48⟩ : ∃ j_ : Int,(wrap64 (a1_1 + (l0_0.length : Int))) = j_ := ⟨_,rfl⟩
        replace H : (if 0 ≤ (ji48) then (if (ji48) < (t765.length : Int) then (some ((rd t765 a0_1) == (rd t765 (ji48)))) else (none)) else (none)) = some r := by first|(rw [hji48] at H;exact H)|(simp only [hji48] at H ⊢;exact H)
        (try rw [hji48] at A45)
        have hji48w : (IntKind.i64.wrap (a1_1 + (l0_0.length : Int))) = ji48 := (i64_w _).trans hji48
        by_cases c49 : 0 ≤ (ji48)
        rotate_left
        ·rw [if_neg c49] at H
         exact absurd H (by simp)
        rw [if_pos c49] at H
        have c49b0 : decide (0 ≤ (ji48)) = true := deT c49
        clear c49
        by_cases c50 : (ji48) < (t765.length : Int)
        rotate_left
        ·rw [if_neg c50] at H
         exact absurd H (by simp)
        rw [if_pos c50] at H
        have c50b0 : decide ((ji48) < (t765.length : Int)) = true := deT c50
        clear c50
        obtain rfl := Option.some.inj H
        obtain ⟨Ao51,co51,eo51⟩ := Kd.N_slice HO_7.out
        subst eo51
        go_wp2_with (first|(go_at_call 53;(with_reducible refine (impl_classes.calls k3 _ _ x7_3 t765 _ ?side1 ?side2 A45.out).mono ?_);(case side1 => exact zC_ (Kd.N_reads' HO_7.out).2.2);(case side2 => exact (Kd.N_reads' HO_7.out).2.1);rintro e w52 ⟨v766,rfl,ho0,hb⟩;have n0_ := As_ (Kd.R_elder' (zR_ HO_5.out) (Kd.R_base ho0) hb);have n1_ := As_ (Kd.N_elder' (zN_ HO_7.out) (Kd.R_base ho0) hb);have n2_ := As_ (Kd.R_lower (Kd.R_new' ho0 (Kd.R_lt (zR_ HO_5.out))) (bwZ (zb2 HB.out GE742.out GE743.out)));have n3_ := As_ (zkb BK742.out hb);have n4_ := As_ (zkb BK743.out hb);have n5_ := As_ (bwT (zb2 HB.out GE742.out GE743.out) hb);clear HO_5 HO_7 BK742 BK743 HB;revert n0_ n1_ n2_ n3_ n4_ n5_;intro HO_5 HO_7 HO767 BK742 BK743 HB;have hnb53 := NB742_743.out;have hnc53 := NB743_742.out;obtain ⟨hcz54_0,hcz54_1,hfz54_0,hfz54_1⟩ := bk2 BK742.out;obtain ⟨Ao55,co55,eo55⟩ := Kd.R_slice HO767.out;subst eo55;have p768 : 0 ≤ (a0_1 : Int) := odT zA_;have q768 : a0_1 < (t765.length : Int) := odT zA_;obtain ⟨ad768,e768,hx768_0⟩ := Kd.at_int (Kd.R_reads' HO767.out).2.2 a0_1 p768 q768;cases e768;replace p768 := eq_true p768;replace q768 := eq_true q768;obtain ⟨hcz56_0,hcz56_1,hfz56_0,hfz56_1⟩ := bk2 BK743.out;have p769 : 0 ≤ ((ji48) : Int) := odT zA_;have q769 : (ji48) < (t765.length : Int) := odT zA_;obtain ⟨ad769,e769,hx769_0⟩ := Kd.at_int (Kd.R_reads' HO767.out).2.2 (ji48) p769 q769;obtain rfl : ad768 = ad769 := (by injection e769);replace p769 := eq_true p769;replace q769 := eq_true q769))
        repeat (go_quiet (first|(go_at_call 53;(with_reducible refine (impl_classes.calls k3 _ _ x7_3 t765 _ ?side1 ?side2 A45.out).mono ?_);(case side1 => exact zC_ (Kd.N_reads' HO_7.out).2.2);(case side2 => exact (Kd.N_reads' HO_7.out).2.1);rintro e w52 ⟨v766,rfl,ho0,hb⟩;have n0_ := As_ (Kd.R_elder' (zR_ HO_5.out) (Kd.R_base ho0) hb);have n1_ := As_ (Kd.N_elder' (zN_ HO_7.out) (Kd.R_base ho0) hb);have n2_ := As_ (Kd.R_lower (Kd.R_new' ho0 (Kd.R_lt (zR_ HO_5.out))) (bwZ (zb2 HB.out GE742.out GE743.out)));have n3_ := As_ (zkb BK742.out hb);have n4_ := As_ (zkb BK743.out hb);have n5_ := As_ (bwT (zb2 HB.out GE742.out GE743.out) hb);clear HO_5 HO_7 BK742 BK743 HB;revert n0_ n1_ n2_ n3_ n4_ n5_;intro HO_5 HO_7 HO767 BK742 BK743 HB;have hnb53 := NB742_743.out;have hnc53 := NB743_742.out;obtain ⟨hcz54_0,hcz54_1,hfz54_0,hfz54_1⟩ := bk2 BK742.out;obtain ⟨Ao55,co55,eo55⟩ := Kd.R_slice HO767.out;subst eo55;have p768 : 0 ≤ (a0_1 : Int) := odT zA_;have q768 : a0_1 < (t765.length : Int) := odT zA_;obtain ⟨ad768,e768,hx768_0⟩ := Kd.at_int (Kd.R_reads' HO767.out).2.2 a0_1 p768 q768;cases e768;replace p768 := eq_true p768;replace q768 := eq_true q768;obtain ⟨hcz56_0,hcz56_1,hfz56_0,hfz56_1⟩ := bk2 BK743.out;have p769 : 0 ≤ ((ji48) : Int) := odT zA_;have q769 : (ji48) < (t765.length : Int) := odT zA_;obtain ⟨ad769,e769,hx769_0⟩ := Kd.at_int (Kd.R_reads' HO767.out).2.2 (ji48) p769 q769;obtain rfl : ad768 = ad769 := (by injection e769);replace p769 := eq_true p769;replace q769 := eq_true q769));try go_wp2_with (first|(go_at_call 53;(with_reducible refine (impl_classes.calls k3 _ _ x7_3 t765 _ ?side1 ?side2 A45.out).mono ?_);(case side1 => exact zC_ (Kd.N_reads' HO_7.out).2.2);(case side2 => exact (Kd.N_reads' HO_7.out).2.1);rintro e w52 ⟨v766,rfl,ho0,hb⟩;have n0_ := As_ (Kd.R_elder' (zR_ HO_5.out) (Kd.R_base ho0) hb);have n1_ := As_ (Kd.N_elder' (zN_ HO_7.out) (Kd.R_base ho0) hb);have n2_ := As_ (Kd.R_lower (Kd.R_new' ho0 (Kd.R_lt (zR_ HO_5.out))) (bwZ (zb2 HB.out GE742.out GE743.out)));have n3_ := As_ (zkb BK742.out hb);have n4_ := As_ (zkb BK743.out hb);have n5_ := As_ (bwT (zb2 HB.out GE742.out GE743.out) hb);clear HO_5 HO_7 BK742 BK743 HB;revert n0_ n1_ n2_ n3_ n4_ n5_;intro HO_5 HO_7 HO767 BK742 BK743 HB;have hnb53 := NB742_743.out;have hnc53 := NB743_742.out;obtain ⟨hcz54_0,hcz54_1,hfz54_0,hfz54_1⟩ := bk2 BK742.out;obtain ⟨Ao55,co55,eo55⟩ := Kd.R_slice HO767.out;subst eo55;have p768 : 0 ≤ (a0_1 : Int) := odT zA_;have q768 : a0_1 < (t765.length : Int) := odT zA_;obtain ⟨ad768,e768,hx768_0⟩ := Kd.at_int (Kd.R_reads' HO767.out).2.2 a0_1 p768 q768;cases e768;replace p768 := eq_true p768;replace q768 := eq_true q768;obtain ⟨hcz56_0,hcz56_1,hfz56_0,hfz56_1⟩ := bk2 BK743.out;have p769 : 0 ≤ ((ji48) : Int) := odT zA_;have q769 : (ji48) < (t765.length : Int) := odT zA_;obtain ⟨ad769,e769,hx769_0⟩ := Kd.at_int (Kd.R_reads' HO767.out).2.2 (ji48) p769 q769;obtain rfl : ad768 = ad769 := (by injection e769);replace p769 := eq_true p769;replace q769 := eq_true q769)))
        go_ret
        exact ⟨by first|rfl|(simp [errW_none,errW_some] <;> rfl)|(simp only [← hji48];first|rfl|(simp [errW_none,errW_some] <;> rfl))|(simp [*,errW_none,errW_some] <;> rfl),zb2 HB.out GE742.out GE743.out⟩

       rw [if_pos c32] at H
       have c32b0 : decide (x41_3 < (l1_0.length : Int)) = true := deT c32
       clear c32
       by_cases c33 : 0 ≤ x41_3
       rotate_left
       ·rw [if_neg c33] at H
        exact absurd H (by simp)
       rw [if_pos c33] at H
       have c33b0 : decide (0 ≤ x41_3) = true := deT c33
       clear c33
       by_cases c34 : x41_3 < (l1_0.length : Int)
       rotate_left
       ·rw [if_neg c34] at H
        exact absurd H (by simp)
       rw [if_pos c34] at H
       have c34b0 : decide (x41_3 < (l1_0.length : Int)) = true := deT c34
       clear c34
       replace H := obS H
       obtain ⟨⟨t757,t758,t759⟩,A350,H⟩ := H
       replace H : (if x7_3.length < 3518437208883 then (impl_EqualDeep.l1 k3 x5_2 (x7_3 ++ [(⟨t757,t758,t759⟩ : S58)]) l1_0 (l1_0.length : Int) (wrap64 (x41_3 + 1)) l0_0 a0_1 l1_0 a1_1) else (none)) = some r := H
       have A35 := As_ A350
       clear A350
       by_cases c36 : x7_3.length < 3518437208883
       rotate_left
       ·rw [if_neg c36] at H
        exact absurd H (by simp)
       rw [if_pos c36] at H
       have LMc36 := As_ c36
       clear c36
       obtain ⟨y762,hy762⟩ : ∃ y_ : List (S58),y_ = (x7_3 ++ [(⟨t757,t758,t759⟩ : S58)]) := ⟨_,rfl⟩
       replace H : (impl_EqualDeep.l1 k3 x5_2 y762 l1_0 (l1_0.length : Int) (wrap64 (x41_3 + 1)) l0_0 a0_1 l1_0 a1_1) = some r := zH_ H hy762
       have Ny762 := As_ hy762
       clear hy762
       have H' := As_ H
       clear H
       have p755 : 0 ≤ (x41_3 : Int) := odT zA_
       have q755 : x41_3 < (l1_0.length : Int) := odT zA_
       obtain ⟨ad755,A755_2,c755_2,e755,hx755_0,hx755_1,hx755_2,hl755_2,hi755_2⟩ := at_T58 HR1_0.out x41_3 p755 q755
       cases e755
       replace hx755_0 := bwC HB.out hx755_0
       replace hx755_1 := bwC HB.out hx755_1
       replace hx755_2 := bwC HB.out hx755_2
       have HR755_2 := As_ hi755_2
       have HC755_2 := As_ hl755_2
       clear hi755_2 hl755_2
       replace p755 := eq_true p755
       replace q755 := eq_true q755
       go_wp2_with (first|((with_reducible refine gate_dst (N := 9) rfl ?_);refine box_event ?hg (N := 9) ?hd (cs := #[.int .i64 0,.int .i64 0,.slice none 0 0]) (t := 58) ?hr ?_;(case hd => rfl);(case hg => rfl);(case hr => go_simp <;> rfl);intro gb756 hg w37 hbox hb;have n0_ := As_ (Kd.R_below (zR_ HO_5.out) hb);have n1_ := As_ (Kd.N_below (Kd.N_elderB (zN_ HO_7.out) gb756 (Nat.le_of_eq hg.symm)) hb);have n2_ := As_ (zkb BK742.out hb);have n3_ := As_ (zkb BK743.out hb);have n4_ := As_ (bwT (zb2 HB.out GE742.out GE743.out) hb);have n5_ := As_ (hbox);have n6_ := As_ ((by rw [hg];exact (bwZ (zb2 HB.out GE742.out GE743.out)) : w.heap.size ≤ gb756));have n7_ := As_ ((by rw [hg];exact (bwZ (zb2 HB.out GE742.out GE743.out)) : w.heap.size ≤ gb756));have n8_ := As_ ((by rw [hg];exact Nat.ne_of_lt (zkl BK742.out) : gb742 ≠ gb756));have n9_ := As_ ((by rw [hg];exact Nat.ne_of_gt (zkl BK742.out) : gb756 ≠ gb742));have n10_ := As_ ((by rw [hg];exact Nat.ne_of_lt (zkl BK743.out) : gb743 ≠ gb756));have n11_ := As_ ((by rw [hg];exact Nat.ne_of_gt (zkl BK743.out) : gb756 ≠ gb743));clear HO_5 HO_7 BK742 BK743 HB;revert n0_ n1_ n2_ n3_ n4_ n5_ n6_ n7_ n8_ n9_ n10_ n11_;intro HO_5 HO_7 BK742 BK743 HB BK756 GW756 GE756 NB742_756 NB756_742 NB743_756 NB756_743;clear hb hbox hg;have hnb38 := NB756_742.out;have hnc38 := NB742_756.out;have hnb39 := NB756_743.out;have hnc39 := NB743_756.out;obtain ⟨hcz40_0,hcz40_1,hcz40_2,hfz40_0,hfz40_1,hfz40_2⟩ := bk3 BK756.out;obtain ⟨Ao41,co41,eo41⟩ := Kd.R_slice HO_5.out;subst eo41)|(go_at_call 56;(with_reducible refine (impl_mapped.calls k3 ((rd_T58 l1_0 x41_3).f0) ((rd_T58 l1_0 x41_3).f1) _ _ ((rd_T58 l1_0 x41_3).f2) _ _ x5_2 t757 t758 t759 _ ?side1 ?side2 ?side3 ?side4 A35.out).mono ?_);(case side1 => exact Kd.C_below HR755_2.out (zb3 HB.out GE742.out GE743.out GE756.out));(case side2 => exact HC755_2.out);(case side3 => refine (Kd.R_reads' (e := 3) (base := w.heap.size) (ok := fun k_ => True) (n := x5_2.length) (c := co41) ?_).2.2;exact (by (with_reducible repeat (first|apply Kd.R_alloc|apply Kd.R_drewN|apply Kd.R_drew));exact (Kd.R_mono (Kd.R_far (p := ⟨gb756,2,none⟩) (Kd.R_far (p := ⟨gb756,1,none⟩) (Kd.R_far (p := ⟨gb756,0,none⟩) (Kd.R_types HO_5.out BK756.out (by decide)) (fun _ hk => hk.2) (.int .i64 ((rd_T58 l1_0 x41_3).f0))) (fun _ hk => hk.2) (.int .i64 ((rd_T58 l1_0 x41_3).f1))) (fun _ hk => hk.2) (.slice A755_2 ((rd_T58 l1_0 x41_3).f2).length c755_2)) (fun _ h_ => h_.1))));(case side4 => exact (Kd.R_reads' HO_5.out).2.1);rintro e w42 ⟨v760,rfl,ho0,hb⟩;have n0_ := As_ (Kd.R_elder' (by (with_reducible repeat (first|apply Kd.R_alloc|apply Kd.R_drewN|apply Kd.R_drew));exact (Kd.R_mono (Kd.R_far (p := ⟨gb756,2,none⟩) (Kd.R_far (p := ⟨gb756,1,none⟩) (Kd.R_far (p := ⟨gb756,0,none⟩) (Kd.R_types HO_5.out BK756.out (by decide)) (fun _ hk => hk.2) (.int .i64 ((rd_T58 l1_0 x41_3).f0))) (fun _ hk => hk.2) (.int .i64 ((rd_T58 l1_0 x41_3).f1))) (fun _ hk => hk.2) (.slice A755_2 ((rd_T58 l1_0 x41_3).f2).length c755_2)) (fun _ h_ => h_.1))) (Kd.R_base ho0) hb);have n1_ := As_ (Kd.N_elder' (by (with_reducible repeat (first|apply Kd.N_alloc|apply Kd.N_drewN|apply Kd.N_drew));exact (Kd.N_mono (Kd.N_far (p := ⟨gb756,2,none⟩) (Kd.N_far (p := ⟨gb756,1,none⟩) (Kd.N_far (p := ⟨gb756,0,none⟩) (Kd.N_mono HO_7.out (fun k_ hk => (⟨hk,hk.2⟩ : _ ∧ k_ ≠ gb756))) (fun _ hk => hk.2) (.int .i64 ((rd_T58 l1_0 x41_3).f0))) (fun _ hk => hk.2) (.int .i64 ((rd_T58 l1_0 x41_3).f1))) (fun _ hk => hk.2) (.slice A755_2 ((rd_T58 l1_0 x41_3).f2).length c755_2)) (fun _ h_ => h_.1))) (Kd.R_base ho0) hb);have n2_ := As_ (Kd.R_lower (Kd.R_new' ho0 (Kd.R_lt (by (with_reducible repeat (first|apply Kd.R_alloc|apply Kd.R_drewN|apply Kd.R_drew));exact (Kd.R_mono (Kd.R_far (p := ⟨gb756,2,none⟩) (Kd.R_far (p := ⟨gb756,1,none⟩) (Kd.R_far (p := ⟨gb756,0,none⟩) (Kd.R_types HO_5.out BK756.out (by decide)) (fun _ hk => hk.2) (.int .i64 ((rd_T58 l1_0 x41_3).f0))) (fun _ hk => hk.2) (.int .i64 ((rd_T58 l1_0 x41_3).f1))) (fun _ hk => hk.2) (.slice A755_2 ((rd_T58 l1_0 x41_3).f2).length c755_2)) (fun _ h_ => h_.1))))) (bwZ (zb3 HB.out GE742.out GE743.out GE756.out)));have n3_ := As_ (blk_below (g := gb742) (o := .cells #[.slice A0_0 l0_0.length c0_0,.int .i64 a0_1] 25 (0,0)) (by (with_reducible repeat first|apply bkN|apply bkD|apply bkA);refine blk_far ?_ NB742_756.out _;(with_reducible repeat first|apply bkN|apply bkD|apply bkA);refine blk_far ?_ NB742_756.out _;(with_reducible repeat first|apply bkN|apply bkD|apply bkA);refine blk_far ?_ NB742_756.out _;(with_reducible repeat first|apply bkN|apply bkD|apply bkA);exact BK742.out) hb);have n4_ := As_ (blk_below (g := gb743) (o := .cells #[.slice (some ad755) l1_0.length c1_0,.int .i64 a1_1] 25 (0,0)) (by (with_reducible repeat first|apply bkN|apply bkD|apply bkA);refine blk_far ?_ NB743_756.out _;(with_reducible repeat first|apply bkN|apply bkD|apply bkA);refine blk_far ?_ NB743_756.out _;(with_reducible repeat first|apply bkN|apply bkD|apply bkA);refine blk_far ?_ NB743_756.out _;(with_reducible repeat first|apply bkN|apply bkD|apply bkA);exact BK743.out) hb);have n5_ := As_ (blk_below (g := gb756) (o := .cells #[.int .i64 ((rd_T58 l1_0 x41_3).f0),.int .i64 ((rd_T58 l1_0 x41_3).f1),.slice A755_2 ((rd_T58 l1_0 x41_3).f2).length c755_2] 58 (0,0)) (by (with_reducible repeat first|apply bkN|apply bkD|apply bkA);refine blk_put (cs := #[.int .i64 ((rd_T58 l1_0 x41_3).f0),.int .i64 ((rd_T58 l1_0 x41_3).f1),.slice none 0 0]) ?_ 2 _ rfl;(with_reducible repeat first|apply bkN|apply bkD|apply bkA);refine blk_put (cs := #[.int .i64 ((rd_T58 l1_0 x41_3).f0),.int .i64 0,.slice none 0 0]) ?_ 1 _ rfl;(with_reducible repeat first|apply bkN|apply bkD|apply bkA);refine blk_put (cs := #[.int .i64 0,.int .i64 0,.slice none 0 0]) ?_ 0 _ rfl;(with_reducible repeat first|apply bkN|apply bkD|apply bkA);exact BK756.out) hb);have n6_ := As_ (bwT (zb3 HB.out GE742.out GE743.out GE756.out) hb);clear HO_5 HO_7 BK742 BK743 BK756 HB;revert n0_ n1_ n2_ n3_ n4_ n5_ n6_;intro HO_5 HO_7 HO761 BK742 BK743 BK756 HB;obtain ⟨Ao44,co44,eo44⟩ := Kd.R_slice HO761.out;subst eo44)|((with_reducible refine gate_builtin (b := .append) (xs := #[.tmp 45,.tmp 49]) rfl ?_);at_builtin;refine Kd.N_append k58 (w0 := w) w.heap.size rfl (.tmp 45) (.tmp 49) 23 58 (.agg #[(.int .i64 0),(.int .i64 0),(.slice none 0 0)]) 40 rfl Try.underlying23 info58 rfl (by decide) (by omega) u7 x7_3 (⟨t757,t758,t759⟩ : S58) [.int .i64 t757,.int .i64 t758,.slice Ao44 t759.length co44] (fun k_ => some k_ ≠ (.slice Ao41 x5_2.length co41 : Value).ownBlock ∧ k_ ≠ gb742 ∧ k_ ≠ gb743 ∧ k_ ≠ gb756) (fun k_ => ((fun k_ => some k_ ≠ (.slice Ao41 x5_2.length co41 : Value).ownBlock ∧ k_ ≠ gb742 ∧ k_ ≠ gb743 ∧ k_ ≠ gb756)) k_ ∧ some k_ ≠ (u7 : Value).ownBlock) rfl rfl ?aP (fun _ hk => hk) ?aF ?aO ?aB ?aS ?aL ?_;(case aP => exact (k58_mkF _ _ (⟨t757,t758,t759⟩ : S58) (Kd.R_reads' (Kd.R_mono (ok' := (fun k_ => ((fun k_ => some k_ ≠ (.slice Ao41 x5_2.length co41 : Value).ownBlock ∧ k_ ≠ gb742 ∧ k_ ≠ gb743 ∧ k_ ≠ gb756)) k_ ∧ some k_ ≠ (u7 : Value).ownBlock)) (Kd.R_types (Kd.R_types (Kd.R_types (Kd.R_apart' (HO761.out) (Kd.N_typed HO_7.out) (by decide)) BK742.out (by decide)) BK743.out (by decide)) BK756.out (by decide)) (fun k_ hk => ⟨⟨hk.1.1.1.1.2,⟨hk.1.1.2,⟨hk.1.2,hk.2⟩⟩⟩,hk.1.1.1.2⟩))).2.1 (Kd.R_F (Kd.R_mono (ok' := (fun k_ => ((fun k_ => some k_ ≠ (.slice Ao41 x5_2.length co41 : Value).ownBlock ∧ k_ ≠ gb742 ∧ k_ ≠ gb743 ∧ k_ ≠ gb756)) k_ ∧ some k_ ≠ (u7 : Value).ownBlock)) (Kd.R_types (Kd.R_types (Kd.R_types (Kd.R_apart' (HO761.out) (Kd.N_typed HO_7.out) (by decide)) BK742.out (by decide)) BK743.out (by decide)) BK756.out (by decide)) (fun k_ hk => ⟨⟨hk.1.1.1.1.2,⟨hk.1.1.2,⟨hk.1.2,hk.2⟩⟩⟩,hk.1.1.1.2⟩)))));(case aB => exact (zb3 HB.out GE742.out GE743.out GE756.out));(case aF => exact (fun k_ hk => ⟨Kd.fresh' (Kd.R_lt (zR_ HO_5.out)) k_ hk,Kd.freshB (g := gb742) (o := .cells #[.slice A0_0 l0_0.length c0_0,.int .i64 a0_1] 25 (0,0)) (zk_ BK742.out) k_ hk,Kd.freshB (g := gb743) (o := .cells #[.slice (some ad755) l1_0.length c1_0,.int .i64 a1_1] 25 (0,0)) (zk_ BK743.out) k_ hk,Kd.freshB (g := gb756) (o := .cells #[.int .i64 ((rd_T58 l1_0 x41_3).f0),.int .i64 ((rd_T58 l1_0 x41_3).f1),.slice A755_2 ((rd_T58 l1_0 x41_3).f2).length c755_2] 58 (0,0)) (zk_ BK756.out) k_ hk⟩));(case aO => exact (by (with_reducible repeat (first|apply Kd.N_alloc|apply Kd.N_drewN|apply Kd.N_drew));exact Kd.N_mono HO_7.out (fun _ hk => ⟨hk.1.1.1,⟨hk.1.1.2.1,⟨hk.1.1.2.2,hk.1.2⟩⟩⟩)));(case aS => exact (bwZ (zb3 HB.out GE742.out GE743.out GE756.out)));(case aL => have := LMc36.out;omega);intro v763 w43 ho hb hg hat;rw [← Ny762.out] at ho;have n0_ := As_ (Kd.R_over' (zR_ HO_5.out) (Kd.N_typed (zN_ HO_7.out)) (by decide) hg);have n1_ := As_ (blk_grown (g := gb742) (o := .cells #[.slice A0_0 l0_0.length c0_0,.int .i64 a0_1] 25 (0,0)) (zk_ BK742.out) hg (Kd.N_ne HO_7.out BK742.out (by decide)));have n2_ := As_ (blk_grown (g := gb743) (o := .cells #[.slice (some ad755) l1_0.length c1_0,.int .i64 a1_1] 25 (0,0)) (zk_ BK743.out) hg (Kd.N_ne HO_7.out BK743.out (by decide)));have n3_ := As_ (blk_grown (g := gb756) (o := .cells #[.int .i64 ((rd_T58 l1_0 x41_3).f0),.int .i64 ((rd_T58 l1_0 x41_3).f1),.slice A755_2 ((rd_T58 l1_0 x41_3).f2).length c755_2] 58 (0,0)) (zk_ BK756.out) hg (Kd.N_away HO_7.out (fun _ hk => hk.1.2)));have n4_ := As_ (hb);have n5_ := As_ (ho);clear HO_5 BK742 BK743 BK756 HB HO_7 HO761;revert n0_ n1_ n2_ n3_ n4_ n5_;intro HO_5 BK742 BK743 BK756 HB HO764;clear ho hb hg hat))
       repeat (go_quiet (first|((with_reducible refine gate_dst (N := 9) rfl ?_);refine box_event ?hg (N := 9) ?hd (cs := #[.int .i64 0,.int .i64 0,.slice none 0 0]) (t := 58) ?hr ?_;(case hd => rfl);(case hg => rfl);(case hr => go_simp <;> rfl);intro gb756 hg w37 hbox hb;have n0_ := As_ (Kd.R_below (zR_ HO_5.out) hb);have n1_ := As_ (Kd.N_below (Kd.N_elderB (zN_ HO_7.out) gb756 (Nat.le_of_eq hg.symm)) hb);have n2_ := As_ (zkb BK742.out hb);have n3_ := As_ (zkb BK743.out hb);have n4_ := As_ (bwT (zb2 HB.out GE742.out GE743.out) hb);have n5_ := As_ (hbox);have n6_ := As_ ((by rw [hg];exact (bwZ (zb2 HB.out GE742.out GE743.out)) : w.heap.size ≤ gb756));have n7_ := As_ ((by rw [hg];exact (bwZ (zb2 HB.out GE742.out GE743.out)) : w.heap.size ≤ gb756));have n8_ := As_ ((by rw [hg];exact Nat.ne_of_lt (zkl BK742.out) : gb742 ≠ gb756));have n9_ := As_ ((by rw [hg];exact Nat.ne_of_gt (zkl BK742.out) : gb756 ≠ gb742));have n10_ := As_ ((by rw [hg];exact Nat.ne_of_lt (zkl BK743.out) : gb743 ≠ gb756));have n11_ := As_ ((by rw [hg];exact Nat.ne_of_gt (zkl BK743.out) : gb756 ≠ gb743));clear HO_5 HO_7 BK742 BK743 HB;revert n0_ n1_ n2_ n3_ n4_ n5_ n6_ n7_ n8_ n9_ n10_ n11_;intro HO_5 HO_7 BK742 BK743 HB BK756 GW756 GE756 NB742_756 NB756_742 NB743_756 NB756_743;clear hb hbox hg;have hnb38 := NB756_742.out;have hnc38 := NB742_756.out;have hnb39 := NB756_743.out;have hnc39 := NB743_756.out;obtain ⟨hcz40_0,hcz40_1,hcz40_2,hfz40_0,hfz40_1,hfz40_2⟩ := bk3 BK756.out;obtain ⟨Ao41,co41,eo41⟩ := Kd.R_slice HO_5.out;subst eo41)|(go_at_call 56;(with_reducible refine (impl_mapped.calls k3 ((rd_T58 l1_0 x41_3).f0) ((rd_T58 l1_0 x41_3).f1) _ _ ((rd_T58 l1_0 x41_3).f2) _ _ x5_2 t757 t758 t759 _ ?side1 ?side2 ?side3 ?side4 A35.out).mono ?_);(case side1 => exact Kd.C_below HR755_2.out (zb3 HB.out GE742.out GE743.out GE756.out));(case side2 => exact HC755_2.out);(case side3 => refine (Kd.R_reads' (e := 3) (base := w.heap.size) (ok := fun k_ => True) (n := x5_2.length) (c := co41) ?_).2.2;exact (by (with_reducible repeat (first|apply Kd.R_alloc|apply Kd.R_drewN|apply Kd.R_drew));exact (Kd.R_mono (Kd.R_far (p := ⟨gb756,2,none⟩) (Kd.R_far (p := ⟨gb756,1,none⟩) (Kd.R_far (p := ⟨gb756,0,none⟩) (Kd.R_types HO_5.out BK756.out (by decide)) (fun _ hk => hk.2) (.int .i64 ((rd_T58 l1_0 x41_3).f0))) (fun _ hk => hk.2) (.int .i64 ((rd_T58 l1_0 x41_3).f1))) (fun _ hk => hk.2) (.slice A755_2 ((rd_T58 l1_0 x41_3).f2).length c755_2)) (fun _ h_ => h_.1))));(case side4 => exact (Kd.R_reads' HO_5.out).2.1);rintro e w42 ⟨v760,rfl,ho0,hb⟩;have n0_ := As_ (Kd.R_elder' (by (with_reducible repeat (first|apply Kd.R_alloc|apply Kd.R_drewN|apply Kd.R_drew));exact (Kd.R_mono (Kd.R_far (p := ⟨gb756,2,none⟩) (Kd.R_far (p := ⟨gb756,1,none⟩) (Kd.R_far (p := ⟨gb756,0,none⟩) (Kd.R_types HO_5.out BK756.out (by decide)) (fun _ hk => hk.2) (.int .i64 ((rd_T58 l1_0 x41_3).f0))) (fun _ hk => hk.2) (.int .i64 ((rd_T58 l1_0 x41_3).f1))) (fun _ hk => hk.2) (.slice A755_2 ((rd_T58 l1_0 x41_3).f2).length c755_2)) (fun _ h_ => h_.1))) (Kd.R_base ho0) hb);have n1_ := As_ (Kd.N_elder' (by (with_reducible repeat (first|apply Kd.N_alloc|apply Kd.N_drewN|apply Kd.N_drew));exact (Kd.N_mono (Kd.N_far (p := ⟨gb756,2,none⟩) (Kd.N_far (p := ⟨gb756,1,none⟩) (Kd.N_far (p := ⟨gb756,0,none⟩) (Kd.N_mono HO_7.out (fun k_ hk => (⟨hk,hk.2⟩ : _ ∧ k_ ≠ gb756))) (fun _ hk => hk.2) (.int .i64 ((rd_T58 l1_0 x41_3).f0))) (fun _ hk => hk.2) (.int .i64 ((rd_T58 l1_0 x41_3).f1))) (fun _ hk => hk.2) (.slice A755_2 ((rd_T58 l1_0 x41_3).f2).length c755_2)) (fun _ h_ => h_.1))) (Kd.R_base ho0) hb);have n2_ := As_ (Kd.R_lower (Kd.R_new' ho0 (Kd.R_lt (by (with_reducible repeat (first|apply Kd.R_alloc|apply Kd.R_drewN|apply Kd.R_drew));exact (Kd.R_mono (Kd.R_far (p := ⟨gb756,2,none⟩) (Kd.R_far (p := ⟨gb756,1,none⟩) (Kd.R_far (p := ⟨gb756,0,none⟩) (Kd.R_types HO_5.out BK756.out (by decide)) (fun _ hk => hk.2) (.int .i64 ((rd_T58 l1_0 x41_3).f0))) (fun _ hk => hk.2) (.int .i64 ((rd_T58 l1_0 x41_3).f1))) (fun _ hk => hk.2) (.slice A755_2 ((rd_T58 l1_0 x41_3).f2).length c755_2)) (fun _ h_ => h_.1))))) (bwZ (zb3 HB.out GE742.out GE743.out GE756.out)));have n3_ := As_ (blk_below (g := gb742) (o := .cells #[.slice A0_0 l0_0.length c0_0,.int .i64 a0_1] 25 (0,0)) (by (with_reducible repeat first|apply bkN|apply bkD|apply bkA);refine blk_far ?_ NB742_756.out _;(with_reducible repeat first|apply bkN|apply bkD|apply bkA);refine blk_far ?_ NB742_756.out _;(with_reducible repeat first|apply bkN|apply bkD|apply bkA);refine blk_far ?_ NB742_756.out _;(with_reducible repeat first|apply bkN|apply bkD|apply bkA);exact BK742.out) hb);have n4_ := As_ (blk_below (g := gb743) (o := .cells #[.slice (some ad755) l1_0.length c1_0,.int .i64 a1_1] 25 (0,0)) (by (with_reducible repeat first|apply bkN|apply bkD|apply bkA);refine blk_far ?_ NB743_756.out _;(with_reducible repeat first|apply bkN|apply bkD|apply bkA);refine blk_far ?_ NB743_756.out _;(with_reducible repeat first|apply bkN|apply bkD|apply bkA);refine blk_far ?_ NB743_756.out _;(with_reducible repeat first|apply bkN|apply bkD|apply bkA);exact BK743.out) hb);have n5_ := As_ (blk_below (g := gb756) (o := .cells #[.int .i64 ((rd_T58 l1_0 x41_3).f0),.int .i64 ((rd_T58 l1_0 x41_3).f1),.slice A755_2 ((rd_T58 l1_0 x41_3).f2).length c755_2] 58 (0,0)) (by (with_reducible repeat first|apply bkN|apply bkD|apply bkA);refine blk_put (cs := #[.int .i64 ((rd_T58 l1_0 x41_3).f0),.int .i64 ((rd_T58 l1_0 x41_3).f1),.slice none 0 0]) ?_ 2 _ rfl;(with_reducible repeat first|apply bkN|apply bkD|apply bkA);refine blk_put (cs := #[.int .i64 ((rd_T58 l1_0 x41_3).f0),.int .i64 0,.slice none 0 0]) ?_ 1 _ rfl;(with_reducible repeat first|apply bkN|apply bkD|apply bkA);refine blk_put (cs := #[.int .i64 0,.int .i64 0,.slice none 0 0]) ?_ 0 _ rfl;(with_reducible repeat first|apply bkN|apply bkD|apply bkA);exact BK756.out) hb);have n6_ := As_ (bwT (zb3 HB.out GE742.out GE743.out GE756.out) hb);clear HO_5 HO_7 BK742 BK743 BK756 HB;revert n0_ n1_ n2_ n3_ n4_ n5_ n6_;intro HO_5 HO_7 HO761 BK742 BK743 BK756 HB;obtain ⟨Ao44,co44,eo44⟩ := Kd.R_slice HO761.out;subst eo44)|((with_reducible refine gate_builtin (b := .append) (xs := #[.tmp 45,.tmp 49]) rfl ?_);at_builtin;refine Kd.N_append k58 (w0 := w) w.heap.size rfl (.tmp 45) (.tmp 49) 23 58 (.agg #[(.int .i64 0),(.int .i64 0),(.slice none 0 0)]) 40 rfl Try.underlying23 info58 rfl (by decide) (by omega) u7 x7_3 (⟨t757,t758,t759⟩ : S58) [.int .i64 t757,.int .i64 t758,.slice Ao44 t759.length co44] (fun k_ => some k_ ≠ (.slice Ao41 x5_2.length co41 : Value).ownBlock ∧ k_ ≠ gb742 ∧ k_ ≠ gb743 ∧ k_ ≠ gb756) (fun k_ => ((fun k_ => some k_ ≠ (.slice Ao41 x5_2.length co41 : Value).ownBlock ∧ k_ ≠ gb742 ∧ k_ ≠ gb743 ∧ k_ ≠ gb756)) k_ ∧ some k_ ≠ (u7 : Value).ownBlock) rfl rfl ?aP (fun _ hk => hk) ?aF ?aO ?aB ?aS ?aL ?_;(case aP => exact (k58_mkF _ _ (⟨t757,t758,t759⟩ : S58) (Kd.R_reads' (Kd.R_mono (ok' := (fun k_ => ((fun k_ => some k_ ≠ (.slice Ao41 x5_2.length co41 : Value).ownBlock ∧ k_ ≠ gb742 ∧ k_ ≠ gb743 ∧ k_ ≠ gb756)) k_ ∧ some k_ ≠ (u7 : Value).ownBlock)) (Kd.R_types (Kd.R_types (Kd.R_types (Kd.R_apart' (HO761.out) (Kd.N_typed HO_7.out) (by decide)) BK742.out (by decide)) BK743.out (by decide)) BK756.out (by decide)) (fun k_ hk => ⟨⟨hk.1.1.1.1.2,⟨hk.1.1.2,⟨hk.1.2,hk.2⟩⟩⟩,hk.1.1.1.2⟩))).2.1 (Kd.R_F (Kd.R_mono (ok' := (fun k_ => ((fun k_ => some k_ ≠ (.slice Ao41 x5_2.length co41 : Value).ownBlock ∧ k_ ≠ gb742 ∧ k_ ≠ gb743 ∧ k_ ≠ gb756)) k_ ∧ some k_ ≠ (u7 : Value).ownBlock)) (Kd.R_types (Kd.R_types (Kd.R_types (Kd.R_apart' (HO761.out) (Kd.N_typed HO_7.out) (by decide)) BK742.out (by decide)) BK743.out (by decide)) BK756.out (by decide)) (fun k_ hk => ⟨⟨hk.1.1.1.1.2,⟨hk.1.1.2,⟨hk.1.2,hk.2⟩⟩⟩,hk.1.1.1.2⟩)))));(case aB => exact (zb3 HB.out GE742.out GE743.out GE756.out));(case aF => exact (fun k_ hk => ⟨Kd.fresh' (Kd.R_lt (zR_ HO_5.out)) k_ hk,Kd.freshB (g := gb742) (o := .cells #[.slice A0_0 l0_0.length c0_0,.int .i64 a0_1] 25 (0,0)) (zk_ BK742.out) k_ hk,Kd.freshB (g := gb743) (o := .cells #[.slice (some ad755) l1_0.length c1_0,.int .i64 a1_1] 25 (0,0)) (zk_ BK743.out) k_ hk,Kd.freshB (g := gb756) (o := .cells #[.int .i64 ((rd_T58 l1_0 x41_3).f0),.int .i64 ((rd_T58 l1_0 x41_3).f1),.slice A755_2 ((rd_T58 l1_0 x41_3).f2).length c755_2] 58 (0,0)) (zk_ BK756.out) k_ hk⟩));(case aO => exact (by (with_reducible repeat (first|apply Kd.N_alloc|apply Kd.N_drewN|apply Kd.N_drew));exact Kd.N_mono HO_7.out (fun _ hk => ⟨hk.1.1.1,⟨hk.1.1.2.1,⟨hk.1.1.2.2,hk.1.2⟩⟩⟩)));(case aS => exact (bwZ (zb3 HB.out GE742.out GE743.out GE756.out)));(case aL => have := LMc36.out;omega);intro v763 w43 ho hb hg hat;rw [← Ny762.out] at ho;have n0_ := As_ (Kd.R_over' (zR_ HO_5.out) (Kd.N_typed (zN_ HO_7.out)) (by decide) hg);have n1_ := As_ (blk_grown (g := gb742) (o := .cells #[.slice A0_0 l0_0.length c0_0,.int .i64 a0_1] 25 (0,0)) (zk_ BK742.out) hg (Kd.N_ne HO_7.out BK742.out (by decide)));have n2_ := As_ (blk_grown (g := gb743) (o := .cells #[.slice (some ad755) l1_0.length c1_0,.int .i64 a1_1] 25 (0,0)) (zk_ BK743.out) hg (Kd.N_ne HO_7.out BK743.out (by decide)));have n3_ := As_ (blk_grown (g := gb756) (o := .cells #[.int .i64 ((rd_T58 l1_0 x41_3).f0),.int .i64 ((rd_T58 l1_0 x41_3).f1),.slice A755_2 ((rd_T58 l1_0 x41_3).f2).length c755_2] 58 (0,0)) (zk_ BK756.out) hg (Kd.N_away HO_7.out (fun _ hk => hk.1.2)));have n4_ := As_ (hb);have n5_ := As_ (ho);clear HO_5 BK742 BK743 BK756 HB HO_7 HO761;revert n0_ n1_ n2_ n3_ n4_ n5_;intro HO_5 BK742 BK743 BK756 HB HO764;clear ho hb hg hat));try go_wp2_with (first|((with_reducible refine gate_dst (N := 9) rfl ?_);refine box_event ?hg (N := 9) ?hd (cs := #[.int .i64 0,.int .i64 0,.slice none 0 0]) (t := 58) ?hr ?_;(case hd => rfl);(case hg => rfl);(case hr => go_simp <;> rfl);intro gb756 hg w37 hbox hb;have n0_ := As_ (Kd.R_below (zR_ HO_5.out) hb);have n1_ := As_ (Kd.N_below (Kd.N_elderB (zN_ HO_7.out) gb756 (Nat.le_of_eq hg.symm)) hb);have n2_ := As_ (zkb BK742.out hb);have n3_ := As_ (zkb BK743.out hb);have n4_ := As_ (bwT (zb2 HB.out GE742.out GE743.out) hb);have n5_ := As_ (hbox);have n6_ := As_ ((by rw [hg];exact (bwZ (zb2 HB.out GE742.out GE743.out)) : w.heap.size ≤ gb756));have n7_ := As_ ((by rw [hg];exact (bwZ (zb2 HB.out GE742.out GE743.out)) : w.heap.size ≤ gb756));have n8_ := As_ ((by rw [hg];exact Nat.ne_of_lt (zkl BK742.out) : gb742 ≠ gb756));have n9_ := As_ ((by rw [hg];exact Nat.ne_of_gt (zkl BK742.out) : gb756 ≠ gb742));have n10_ := As_ ((by rw [hg];exact Nat.ne_of_lt (zkl BK743.out) : gb743 ≠ gb756));have n11_ := As_ ((by rw [hg];exact Nat.ne_of_gt (zkl BK743.out) : gb756 ≠ gb743));clear HO_5 HO_7 BK742 BK743 HB;revert n0_ n1_ n2_ n3_ n4_ n5_ n6_ n7_ n8_ n9_ n10_ n11_;intro HO_5 HO_7 BK742 BK743 HB BK756 GW756 GE756 NB742_756 NB756_742 NB743_756 NB756_743;clear hb hbox hg;have hnb38 := NB756_742.out;have hnc38 := NB742_756.out;have hnb39 := NB756_743.out;have hnc39 := NB743_756.out;obtain ⟨hcz40_0,hcz40_1,hcz40_2,hfz40_0,hfz40_1,hfz40_2⟩ := bk3 BK756.out;obtain ⟨Ao41,co41,eo41⟩ := Kd.R_slice HO_5.out;subst eo41)|(go_at_call 56;(with_reducible refine (impl_mapped.calls k3 ((rd_T58 l1_0 x41_3).f0) ((rd_T58 l1_0 x41_3).f1) _ _ ((rd_T58 l1_0 x41_3).f2) _ _ x5_2 t757 t758 t759 _ ?side1 ?side2 ?side3 ?side4 A35.out).mono ?_);(case side1 => exact Kd.C_below HR755_2.out (zb3 HB.out GE742.out GE743.out GE756.out));(case side2 => exact HC755_2.out);(case side3 => refine (Kd.R_reads' (e := 3) (base := w.heap.size) (ok := fun k_ => True) (n := x5_2.length) (c := co41) ?_).2.2;exact (by (with_reducible repeat (first|apply Kd.R_alloc|apply Kd.R_drewN|apply Kd.R_drew));exact (Kd.R_mono (Kd.R_far (p := ⟨gb756,2,none⟩) (Kd.R_far (p := ⟨gb756,1,none⟩) (Kd.R_far (p := ⟨gb756,0,none⟩) (Kd.R_types HO_5.out BK756.out (by decide)) (fun _ hk => hk.2) (.int .i64 ((rd_T58 l1_0 x41_3).f0))) (fun _ hk => hk.2) (.int .i64 ((rd_T58 l1_0 x41_3).f1))) (fun _ hk => hk.2) (.slice A755_2 ((rd_T58 l1_0 x41_3).f2).length c755_2)) (fun _ h_ => h_.1))));(case side4 => exact (Kd.R_reads' HO_5.out).2.1);rintro e w42 ⟨v760,rfl,ho0,hb⟩;have n0_ := As_ (Kd.R_elder' (by (with_reducible repeat (first|apply Kd.R_alloc|apply Kd.R_drewN|apply Kd.R_drew));exact (Kd.R_mono (Kd.R_far (p := ⟨gb756,2,none⟩) (Kd.R_far (p := ⟨gb756,1,none⟩) (Kd.R_far (p := ⟨gb756,0,none⟩) (Kd.R_types HO_5.out BK756.out (by decide)) (fun _ hk => hk.2) (.int .i64 ((rd_T58 l1_0 x41_3).f0))) (fun _ hk => hk.2) (.int .i64 ((rd_T58 l1_0 x41_3).f1))) (fun _ hk => hk.2) (.slice A755_2 ((rd_T58 l1_0 x41_3).f2).length c755_2)) (fun _ h_ => h_.1))) (Kd.R_base ho0) hb);have n1_ := As_ (Kd.N_elder' (by (with_reducible repeat (first|apply Kd.N_alloc|apply Kd.N_drewN|apply Kd.N_drew));exact (Kd.N_mono (Kd.N_far (p := ⟨gb756,2,none⟩) (Kd.N_far (p := ⟨gb756,1,none⟩) (Kd.N_far (p := ⟨gb756,0,none⟩) (Kd.N_mono HO_7.out (fun k_ hk => (⟨hk,hk.2⟩ : _ ∧ k_ ≠ gb756))) (fun _ hk => hk.2) (.int .i64 ((rd_T58 l1_0 x41_3).f0))) (fun _ hk => hk.2) (.int .i64 ((rd_T58 l1_0 x41_3).f1))) (fun _ hk => hk.2) (.slice A755_2 ((rd_T58 l1_0 x41_3).f2).length c755_2)) (fun _ h_ => h_.1))) (Kd.R_base ho0) hb);have n2_ := As_ (Kd.R_lower (Kd.R_new' ho0 (Kd.R_lt (by (with_reducible repeat (first|apply Kd.R_alloc|apply Kd.R_drewN|apply Kd.R_drew));exact (Kd.R_mono (Kd.R_far (p := ⟨gb756,2,none⟩) (Kd.R_far (p := ⟨gb756,1,none⟩) (Kd.R_far (p := ⟨gb756,0,none⟩) (Kd.R_types HO_5.out BK756.out (by decide)) (fun _ hk => hk.2) (.int .i64 ((rd_T58 l1_0 x41_3).f0))) (fun _ hk => hk.2) (.int .i64 ((rd_T58 l1_0 x41_3).f1))) (fun _ hk => hk.2) (.slice A755_2 ((rd_T58 l1_0 x41_3).f2).length c755_2)) (fun _ h_ => h_.1))))) (bwZ (zb3 HB.out GE742.out GE743.out GE756.out)));have n3_ := As_ (blk_below (g := gb742) (o := .cells #[.slice A0_0 l0_0.length c0_0,.int .i64 a0_1] 25 (0,0)) (by (with_reducible repeat first|apply bkN|apply bkD|apply bkA);refine blk_far ?_ NB742_756.out _;(with_reducible repeat first|apply bkN|apply bkD|apply bkA);refine blk_far ?_ NB742_756.out _;(with_reducible repeat first|apply bkN|apply bkD|apply bkA);refine blk_far ?_ NB742_756.out _;(with_reducible repeat first|apply bkN|apply bkD|apply bkA);exact BK742.out) hb);have n4_ := As_ (blk_below (g := gb743) (o := .cells #[.slice (some ad755) l1_0.length c1_0,.int .i64 a1_1] 25 (0,0)) (by (with_reducible repeat first|apply bkN|apply bkD|apply bkA);refine blk_far ?_ NB743_756.out _;(with_reducible repeat first|apply bkN|apply bkD|apply bkA);refine blk_far ?_ NB743_756.out _;(with_reducible repeat first|apply bkN|apply bkD|apply bkA);refine blk_far ?_ NB743_756.out _;(with_reducible repeat first|apply bkN|apply bkD|apply bkA);exact BK743.out) hb);have n5_ := As_ (blk_below (g := gb756) (o := .cells #[.int .i64 ((rd_T58 l1_0 x41_3).f0),.int .i64 ((rd_T58 l1_0 x41_3).f1),.slice A755_2 ((rd_T58 l1_0 x41_3).f2).length c755_2] 58 (0,0)) (by (with_reducible repeat first|apply bkN|apply bkD|apply bkA);refine blk_put (cs := #[.int .i64 ((rd_T58 l1_0 x41_3).f0),.int .i64 ((rd_T58 l1_0 x41_3).f1),.slice none 0 0]) ?_ 2 _ rfl;(with_reducible repeat first|apply bkN|apply bkD|apply bkA);refine blk_put (cs := #[.int .i64 ((rd_T58 l1_0 x41_3).f0),.int .i64 0,.slice none 0 0]) ?_ 1 _ rfl;(with_reducible repeat first|apply bkN|apply bkD|apply bkA);refine blk_put (cs := #[.int .i64 0,.int .i64 0,.slice none 0 0]) ?_ 0 _ rfl;(with_reducible repeat first|apply bkN|apply bkD|apply bkA);exact BK756.out) hb);have n6_ := As_ (bwT (zb3 HB.out GE742.out GE743.out GE756.out) hb);clear HO_5 HO_7 BK742 BK743 BK756 HB;revert n0_ n1_ n2_ n3_ n4_ n5_ n6_;intro HO_5 HO_7 HO761 BK742 BK743 BK756 HB;obtain ⟨Ao44,co44,eo44⟩ := Kd.R_slice HO761.out;subst eo44)|((with_reducible refine gate_builtin (b := .append) (xs := #[.tmp 45,.tmp 49]) rfl ?_);at_builtin;refine Kd.N_append k58 (w0 := w) w.heap.size rfl (.tmp 45) (.tmp 49) 23 58 (.agg #[(.int .i64 0),(.int .i64 0),(.slice none 0 0)]) 40 rfl Try.underlying23 info58 rfl (by decide) (by omega) u7 x7_3 (⟨t757,t758,t759⟩ : S58) [.int .i64 t757,.int .i64 t758,.slice Ao44 t759.length co44] (fun k_ => some k_ ≠ (.slice Ao41 x5_2.length co41 : Value).ownBlock ∧ k_ ≠ gb742 ∧ k_ ≠ gb743 ∧ k_ ≠ gb756) (fun k_ => ((fun k_ => some k_ ≠ (.slice Ao41 x5_2.length co41 : Value).ownBlock ∧ k_ ≠ gb742 ∧ k_ ≠ gb743 ∧ k_ ≠ gb756)) k_ ∧ some k_ ≠ (u7 : Value).ownBlock) rfl rfl ?aP (fun _ hk => hk) ?aF ?aO ?aB ?aS ?aL ?_;(case aP => exact (k58_mkF _ _ (⟨t757,t758,t759⟩ : S58) (Kd.R_reads' (Kd.R_mono (ok' := (fun k_ => ((fun k_ => some k_ ≠ (.slice Ao41 x5_2.length co41 : Value).ownBlock ∧ k_ ≠ gb742 ∧ k_ ≠ gb743 ∧ k_ ≠ gb756)) k_ ∧ some k_ ≠ (u7 : Value).ownBlock)) (Kd.R_types (Kd.R_types (Kd.R_types (Kd.R_apart' (HO761.out) (Kd.N_typed HO_7.out) (by decide)) BK742.out (by decide)) BK743.out (by decide)) BK756.out (by decide)) (fun k_ hk => ⟨⟨hk.1.1.1.1.2,⟨hk.1.1.2,⟨hk.1.2,hk.2⟩⟩⟩,hk.1.1.1.2⟩))).2.1 (Kd.R_F (Kd.R_mono (ok' := (fun k_ => ((fun k_ => some k_ ≠ (.slice Ao41 x5_2.length co41 : Value).ownBlock ∧ k_ ≠ gb742 ∧ k_ ≠ gb743 ∧ k_ ≠ gb756)) k_ ∧ some k_ ≠ (u7 : Value).ownBlock)) (Kd.R_types (Kd.R_types (Kd.R_types (Kd.R_apart' (HO761.out) (Kd.N_typed HO_7.out) (by decide)) BK742.out (by decide)) BK743.out (by decide)) BK756.out (by decide)) (fun k_ hk => ⟨⟨hk.1.1.1.1.2,⟨hk.1.1.2,⟨hk.1.2,hk.2⟩⟩⟩,hk.1.1.1.2⟩)))));(case aB => exact (zb3 HB.out GE742.out GE743.out GE756.out));(case aF => exact (fun k_ hk => ⟨Kd.fresh' (Kd.R_lt (zR_ HO_5.out)) k_ hk,Kd.freshB (g := gb742) (o := .cells #[.slice A0_0 l0_0.length c0_0,.int .i64 a0_1] 25 (0,0)) (zk_ BK742.out) k_ hk,Kd.freshB (g := gb743) (o := .cells #[.slice (some ad755) l1_0.length c1_0,.int .i64 a1_1] 25 (0,0)) (zk_ BK743.out) k_ hk,Kd.freshB (g := gb756) (o := .cells #[.int .i64 ((rd_T58 l1_0 x41_3).f0),.int .i64 ((rd_T58 l1_0 x41_3).f1),.slice A755_2 ((rd_T58 l1_0 x41_3).f2).length c755_2] 58 (0,0)) (zk_ BK756.out) k_ hk⟩));(case aO => exact (by (with_reducible repeat (first|apply Kd.N_alloc|apply Kd.N_drewN|apply Kd.N_drew));exact Kd.N_mono HO_7.out (fun _ hk => ⟨hk.1.1.1,⟨hk.1.1.2.1,⟨hk.1.1.2.2,hk.1.2⟩⟩⟩)));(case aS => exact (bwZ (zb3 HB.out GE742.out GE743.out GE756.out)));(case aL => have := LMc36.out;omega);intro v763 w43 ho hb hg hat;rw [← Ny762.out] at ho;have n0_ := As_ (Kd.R_over' (zR_ HO_5.out) (Kd.N_typed (zN_ HO_7.out)) (by decide) hg);have n1_ := As_ (blk_grown (g := gb742) (o := .cells #[.slice A0_0 l0_0.length c0_0,.int .i64 a0_1] 25 (0,0)) (zk_ BK742.out) hg (Kd.N_ne HO_7.out BK742.out (by decide)));have n2_ := As_ (blk_grown (g := gb743) (o := .cells #[.slice (some ad755) l1_0.length c1_0,.int .i64 a1_1] 25 (0,0)) (zk_ BK743.out) hg (Kd.N_ne HO_7.out BK743.out (by decide)));have n3_ := As_ (blk_grown (g := gb756) (o := .cells #[.int .i64 ((rd_T58 l1_0 x41_3).f0),.int .i64 ((rd_T58 l1_0 x41_3).f1),.slice A755_2 ((rd_T58 l1_0 x41_3).f2).length c755_2] 58 (0,0)) (zk_ BK756.out) hg (Kd.N_away HO_7.out (fun _ hk => hk.1.2)));have n4_ := As_ (hb);have n5_ := As_ (ho);clear HO_5 BK742 BK743 BK756 HB HO_7 HO761;revert n0_ n1_ n2_ n3_ n4_ n5_;intro HO_5 BK742 BK743 BK756 HB HO764;clear ho hb hg hat)))
       go_roundg k3
       case measure => have := HJ2.out;have := HK2.out;have := HK3.out;omega
       case rel => exact ⟨(y762),(wrap64 (x41_3 + 1)),zT_,H',⟨by have := HJ2.out;have := HK2.out;have := HK3.out;omega⟩,⟨by (with_reducible repeat (first|apply Kd.R_alloc|apply Kd.R_drewN|apply Kd.R_drew));exact Kd.R_mono HO_5.out (fun _ hk => trivial)⟩,⟨by (with_reducible repeat (first|apply Kd.N_alloc|apply Kd.N_drewN|apply Kd.N_drew));exact Kd.N_mono HO764.out (fun _ hk => ⟨hk.1,⟨hk.2.1,hk.2.2.1⟩⟩)⟩,⟨by (with_reducible repeat first|apply bkN|apply bkD|apply bkA);exact BK742.out⟩,⟨by (with_reducible repeat first|apply bkN|apply bkD|apply bkA);exact BK743.out⟩,⟨zb3 HB.out GE742.out GE743.out GE756.out⟩⟩
end Go.Proofs.Ytapaegcombfafaa.Q
