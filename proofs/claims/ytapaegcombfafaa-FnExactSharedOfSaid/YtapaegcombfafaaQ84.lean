-- Written by wip/tools/qprint.py (a program of this claim's author) by means of the kit's printer.
import Derived.Test.YtapaegcombfafaaQ0
import Derived.Test.YtapaegcombfafaaQ58
import Derived.Test.YtapaegcombfafaaQ82
namespace Go.Proofs.Ytapaegcombfafaa.Q
open Go.RowKit Go.Proofs.YtapaegcombfafaaW.PrintWords Go.Proofs.YtapaegcombfafaaW.PrintLast Go.Proofs.YtapaegcombfafaaW.PrintMore
attribute [local go_sem] max2_int min2_int max_two min_two max_three min_three max_four min_four   -- for this text's walks alone
set_option linter.unusedVariables false
set_option linter.unusedSimpArgs false

/-! ### spec_reach: function 84 -/
mutual
def spec_reach.l0 : Nat → Int → List Int → Int → List (S58) → Int → Option (List Int)
 | 0,_,_,_,_,_ => none
 | k + 1,x1,x2,x7,x395000,x395001 => if 0 ≤ x1 then (if x1 < (x395000.length : Int) then (if x7 < (((rd_T58 x395000 x1).f2).length : Int) then (if 0 ≤ x7 then ((spec_reach.f k x395000 x395001 (rd ((rd_T58 x395000 x1).f2) x7) x2).bind fun t405 => (spec_reach.l0 k x1 t405 (wrap64 (x7 + 1)) x395000 x395001)) else (none)) else (some x2)) else (none)) else (none)
def spec_reach.f : Nat → List (S58) → Int → Int → List Int → Option (List Int)
 | 0,_,_,_,_ => none
 | k + 1,l0_0,a0_1,a1,l2 => (spec_placeIn.f k l2 a1).bind fun t395 => (if t395 ≥ 0 then (some l2) else ((spec_copyInts.f l2).bind fun t396 => (if t396.length < 17592186044416 then (spec_reach.l0 k a1 (t396 ++ [a1]) 0 l0_0 a0_1) else (none))))
end
set_option maxRecDepth 100000 in
theorem spec_reach.mono_l : ∀ k,(∀ y0 y1 y2 y3,LeO (spec_reach.f k y0 y1 y2 y3) (spec_reach.f (k + 1) y0 y1 y2 y3)) ∧ (∀ y0 y1 y2 y3 y4,LeO (spec_reach.l0 k y0 y1 y2 y3 y4) (spec_reach.l0 (k + 1) y0 y1 y2 y3 y4))
 | 0 => ⟨fun _ _ _ _ r h => (by cases h),fun _ _ _ _ _ r h => (by cases h)⟩
 | k + 1 => by
  obtain ⟨ih0,ih1⟩ := spec_reach.mono_l k
  refine ⟨?_,?_⟩
  ·intro y0 y1 y2 y3
   unfold spec_reach.f
   repeat' first
   | (with_reducible exact ih0 _ _ _ _)
   | (with_reducible exact ih1 _ _ _ _ _)
   | (with_reducible exact spec_placeIn.mono _ _ _)
   | (with_reducible exact LeO.refl _)
   | (with_reducible exact LeO.none _)
   | (with_reducible refine LeO.ite ?_ ?_)
   | (with_reducible refine LeO.bind ?_ (fun _ => ?_))
   | exact ih0 _ _ _ _
   | exact ih1 _ _ _ _ _
   | exact spec_placeIn.mono _ _ _
   | exact LeO.none _
   | refine LeO.ite ?_ ?_
   | refine LeO.bind ?_ (fun _ => ?_)
  ·intro y0 y1 y2 y3 y4
   unfold spec_reach.l0
   repeat' first
   | (with_reducible exact ih0 _ _ _ _)
   | (with_reducible exact ih1 _ _ _ _ _)
   | (with_reducible exact spec_placeIn.mono _ _ _)
   | (with_reducible exact LeO.refl _)
   | (with_reducible exact LeO.none _)
   | (with_reducible refine LeO.ite ?_ ?_)
   | (with_reducible refine LeO.bind ?_ (fun _ => ?_))
   | exact ih0 _ _ _ _
   | exact ih1 _ _ _ _ _
   | exact spec_placeIn.mono _ _ _
   | exact LeO.none _
   | refine LeO.ite ?_ ?_
   | refine LeO.bind ?_ (fun _ => ?_)
set_option maxRecDepth 100000 in
theorem spec_reach.mono : ∀ a0 a1 a2 a3 k,LeO (spec_reach.f k a0 a1 a2 a3) (spec_reach.f (k + 1) a0 a1 a2 a3) := by
 intro a0 a1 a2 a3 k
 obtain ⟨ih0,ih1⟩ := spec_reach.mono_l k
 exact ih0 a0 a1 a2 a3
def spec_reach.T7 : Bool × List (List Nat × List Nat) := (true,[([],[]),([],[]),([1],[1]),([],[]),([2,3],[2,3]),([4],[4]),([5],[5]),([],[]),([6,7],[6,7]),([8],[8]),([],[]),([0,9,10],[0,9,10]),([11,11,0,1,2,3,4,5,6,7,8,9,10,11],[10,11])])
def spec_reach.B7 : List Nat := [0,0,2,0,14,30,62,0,254,510,0,2047,4095]
theorem spec_reach.tab7 : rtab .any (opsOf Try.f84 7) = spec_reach.T7 := by kernel_rfl
theorem spec_reach.bits7 : waitsOk spec_reach.T7.2 spec_reach.B7 = true := by kernel_rfl
set_option maxHeartbeats 8000000 in
set_option maxRecDepth 100000 in
theorem spec_reach.calls (k : Nat) : ∀ (A0_0 : Option Addr) (c0_0 : Nat) (l0_0 : List (S58)) (a0_1 : Int) (a1 : Int) (P2_ : Nat → Prop) (u9000_ : Value) (l2 : List Int) (r : List Int) (w0 w : World) (hB : Below w0.heap.size w0 w) (hr0_0 : ∀ W_,Kept w W_ (fun k_ => P2_ k_) → Kd.C k58 W_ A0_0 l0_0.length l0_0) (hc0_0 : l0_0.length ≤ c0_0) (ho2 : Kd.R (Kd.int .i64) 3 w w0.heap.size P2_ u9000_ l2) (h : spec_reach.f k l0_0 a0_1 a1 l2 = some r),
  Calls Try.prog 84 #[.agg #[.slice A0_0 l0_0.length c0_0,.int .i64 a0_1],.int .i64 a1,u9000_] w fun e w' => ∃ v0_ : Value,e = .returned (v0_) ∧ Kd.R (Kd.int .i64) 3 w' w0.heap.size (fun k_ => (P2_ k_ ∨ w.heap.size ≤ k_)) v0_ r ∧ Below w0.heap.size w0 w' ∧ Kept w w' (fun k_ => P2_ k_) := by
 induction k using Nat.strongRecOn with
 | _ k ih =>
 intro A0_0 c0_0 l0_0 a0_1 a1 P2_ u9000_ l2 r w0 w hB hr0_0 hc0_0 ho2 h
 cases k with
 | zero => exact absurd h (by simp [spec_reach.f])
 | succ k =>
 simp only [spec_reach.f] at h
 have hu25 := Try.underlying25
 have HR0_0 := As_ hr0_0
 have HC0_0 := As_ hc0_0
 clear hr0_0 hc0_0
 have HO2 := As_ (show Kd.R (Kd.int .i64) 3 w w0.heap.size (fun k_ => (P2_ k_ ∨ w.heap.size ≤ k_)) u9000_ l2 from Kd.R_mono ho2 (fun k_ hk => (.inl hk)))
 have HK := As_ (Kept.refl w (fun k_ => P2_ k_))
 have HW0 := As_ hB.size
 have HB := As_ hB
 clear hB
 have H : ((spec_placeIn.f k l2 a1).bind fun t395 => (if t395 ≥ 0 then (some l2) else ((spec_copyInts.f l2).bind fun t396 => (if t396.length < 17592186044416 then (spec_reach.l0 k a1 (t396 ++ [a1]) 0 l0_0 a0_1) else (none))))) = some r := h
 clear h
 replace H := obS H
 obtain ⟨t395,A40,H⟩ := H
 replace H : (if t395 ≥ 0 then (some l2) else ((spec_copyInts.f l2).bind fun t396 => (if t396.length < 17592186044416 then (spec_reach.l0 k a1 (t396 ++ [a1]) 0 l0_0 a0_1) else (none)))) = some r := H
 have A4 := As_ A40
 clear A40
 by_cases c5 : t395 ≥ 0
 ·rw [if_pos c5] at H
  have c5b0 : decide (0 ≤ t395) = true := deT c5
  clear c5
  obtain rfl := Option.some.inj H
  go_enter Try.func84,Try.ntmps84
  go_wp2_with (first|((with_reducible refine gate_dst (N := 3) rfl ?_);refine box_event ?hg (N := 3) ?hd (cs := #[.slice A0_0 l0_0.length c0_0,.int .i64 a0_1]) (t := 25) ?hr ?_;(case hd => rfl);(case hg => rfl);(case hr => go_simp <;> rfl);intro gb394 hg w6 hbox hb;have n0_ := As_ (Kd.R_below (by (with_reducible repeat (first|apply Kd.R_alloc|apply Kd.R_drewN|apply Kd.R_drew));exact HO2.out) hb);have n1_ := As_ (Kept.below (S := (fun k_ => P2_ k_)) (by repeat (first|(with_reducible first|exact HK.out|apply Kept.alloc|apply Kept.drewN|apply Kept.drew)|exact HK.out)) hb);have n2_ := As_ (bwT (by repeat (first|(with_reducible first|exact HB.out|apply bwA|apply bwN|apply bwD)|exact HB.out)) hb);have n3_ := As_ (hbox);have n4_ := As_ ((by rw [hg];exact (by first|exact HK.out.1|exact (show Kept w _ (fun k_ => P2_ k_) from by repeat (first|(with_reducible first|exact HK.out|apply Kept.alloc|apply Kept.drewN|apply Kept.drew)|exact HK.out)).1) : w.heap.size ≤ gb394));have n5_ := As_ ((by rw [hg];exact (bwZ (by repeat (first|(with_reducible first|exact HB.out|apply bwA|apply bwN|apply bwD)|exact HB.out))) : w0.heap.size ≤ gb394));clear HO2;clear HK;clear HB;have HO2 := n0_;have HK := n1_;have HB := n2_;have BK394 := n3_;have GW394 := n4_;have GE394 := n5_;clear n0_ n1_ n2_ n3_ n4_ n5_;clear hb hbox hg;obtain ⟨Ao7,co7,eo7⟩ := Kd.R_slice HO2.out;subst eo7)|((with_reducible refine gate_callee (f := 58) rfl ?_);refine goesL_ (some 10) rfl rfl Try.func58 (by kernel_rfl) rfl #[.slice Ao7 l2.length co7,.int .i64 a1] rfl (by (try simp only [List.map_toArray,List.map_cons,List.map_nil]);first|done|rfl|(simp only [List.length_drop,List.length_take];rfl)) ?_;(with_reducible refine (spec_placeIn.calls k _ _ l2 a1 t395 _ ?side1 ?side2 A4.out).mono ?_);(case side1 => repeat (first|exact (Kd.R_reads' HO2.out).2.2|(with_reducible refine Kd.C_alloc ?_ _)|(with_reducible refine Kd.C_drewN ?_ _)|(with_reducible refine Kd.C_drew ?_)));(case side2 => exact (Kd.R_reads' HO2.out).2.1);rintro e w' ⟨rfl,⟨nd,rfl⟩⟩;refine ⟨_,rfl,?_⟩))
  go_ret
  exact ⟨_,by first|rfl|(simp [errW_none,errW_some] <;> rfl)|(simp [*,errW_none,errW_some] <;> rfl),by (with_reducible repeat (first|apply Kd.R_alloc|apply Kd.R_drewN|apply Kd.R_drew));exact HO2.out,by repeat (first|(with_reducible first|exact HB.out|apply bwA|apply bwN|apply bwD|refine bwS ?_ GE394.out)|exact HB.out),by repeat (first|(with_reducible first|exact HK.out|apply Kept.alloc|apply Kept.drewN|apply Kept.drew|refine Kept.setCell ?_ (.inr GW394.out) _)|exact HK.out)⟩
 ·rw [if_neg c5] at H
  have c5b0 : decide (0 ≤ t395) = false := deF c5
  clear c5
  replace H := obS H
  obtain ⟨t396,A80,H⟩ := H
  replace H : (if t396.length < 17592186044416 then (spec_reach.l0 k a1 (t396 ++ [a1]) 0 l0_0 a0_1) else (none)) = some r := H
  have A8 := As_ A80
  clear A80
  by_cases c9 : t396.length < 17592186044416
  rotate_left
  ·rw [if_neg c9] at H
   exact absurd H (by simp)
  rw [if_pos c9] at H
  have LMc9 := As_ c9
  clear c9
  obtain ⟨y399,hy399⟩ : ∃ y_ : List Int,y_ = (t396 ++ [a1]) := ⟨_,rfl⟩
  replace H : (spec_reach.l0 k a1 y399 0 l0_0 a0_1) = some r := by first|(rw [hy399];with_reducible exact H)|(have H2_ := (Option.bind_some _ _).symm.trans H;rw [hy399];with_reducible exact H2_)|(have H2_ := (Option.bind_some _ _).symm.trans H;with_reducible exact H2_)|with_reducible exact H|(rw [hy399];exact H)|exact H
  have Ny399 := As_ hy399
  clear hy399
  have H' := As_ H
  clear H
  go_enter Try.func84,Try.ntmps84
  go_wp2_with (first|((with_reducible refine gate_dst (N := 3) rfl ?_);refine box_event ?hg (N := 3) ?hd (cs := #[.slice A0_0 l0_0.length c0_0,.int .i64 a0_1]) (t := 25) ?hr ?_;(case hd => rfl);(case hg => rfl);(case hr => go_simp <;> rfl);intro gb394 hg w10 hbox hb;have n0_ := As_ (Kd.R_below (by (with_reducible repeat (first|apply Kd.R_alloc|apply Kd.R_drewN|apply Kd.R_drew));exact HO2.out) hb);have n1_ := As_ (Kept.below (S := (fun k_ => P2_ k_)) (by repeat (first|(with_reducible first|exact HK.out|apply Kept.alloc|apply Kept.drewN|apply Kept.drew)|exact HK.out)) hb);have n2_ := As_ (bwT (by repeat (first|(with_reducible first|exact HB.out|apply bwA|apply bwN|apply bwD)|exact HB.out)) hb);have n3_ := As_ (hbox);have n4_ := As_ ((by rw [hg];exact (by first|exact HK.out.1|exact (show Kept w _ (fun k_ => P2_ k_) from by repeat (first|(with_reducible first|exact HK.out|apply Kept.alloc|apply Kept.drewN|apply Kept.drew)|exact HK.out)).1) : w.heap.size ≤ gb394));have n5_ := As_ ((by rw [hg];exact (bwZ (by repeat (first|(with_reducible first|exact HB.out|apply bwA|apply bwN|apply bwD)|exact HB.out))) : w0.heap.size ≤ gb394));clear HO2;clear HK;clear HB;have HO2 := n0_;have HK := n1_;have HB := n2_;have BK394 := n3_;have GW394 := n4_;have GE394 := n5_;clear n0_ n1_ n2_ n3_ n4_ n5_;clear hb hbox hg;obtain ⟨Ao11,co11,eo11⟩ := Kd.R_slice HO2.out;subst eo11)|((with_reducible refine gate_callee (f := 58) rfl ?_);refine goesL_ (some 10) rfl rfl Try.func58 (by kernel_rfl) rfl #[.slice Ao11 l2.length co11,.int .i64 a1] rfl (by (try simp only [List.map_toArray,List.map_cons,List.map_nil]);first|done|rfl|(simp only [List.length_drop,List.length_take];rfl)) ?_;(with_reducible refine (spec_placeIn.calls k _ _ l2 a1 t395 _ ?side1 ?side2 A4.out).mono ?_);(case side1 => repeat (first|exact (Kd.R_reads' HO2.out).2.2|(with_reducible refine Kd.C_alloc ?_ _)|(with_reducible refine Kd.C_drewN ?_ _)|(with_reducible refine Kd.C_drew ?_)));(case side2 => exact (Kd.R_reads' HO2.out).2.1);rintro e w' ⟨rfl,⟨nd,rfl⟩⟩;refine ⟨_,rfl,?_⟩)|((with_reducible refine gate_callee (f := 66) rfl ?_);refine goesL_ (some 14) rfl rfl Try.func66 (by kernel_rfl) rfl #[.slice Ao11 l2.length co11] rfl (by (try simp only [List.map_toArray,List.map_cons,List.map_nil]);first|done|rfl|(simp only [List.length_drop,List.length_take];rfl)) ?_;(with_reducible refine (spec_copyInts.calls _ _ l2 t396 _ ?side1 ?side2 A8.out).mono ?_);(case side1 => repeat (first|exact (Kd.R_reads' HO2.out).2.2|(with_reducible refine Kd.C_alloc ?_ _)|(with_reducible refine Kd.C_drewN ?_ _)|(with_reducible refine Kd.C_drew ?_)));(case side2 => exact (Kd.R_reads' HO2.out).2.1);rintro e w12 ⟨v397,rfl,ho0,hb⟩;refine ⟨_,rfl,?_⟩;have n0_ := As_ (Kd.R_elder' (by (with_reducible repeat (first|apply Kd.R_alloc|apply Kd.R_drewN|apply Kd.R_drew));exact HO2.out) (Kd.R_base ho0) hb);have n1_ := As_ (Kd.R_lower (Kd.R_new' (Kd.R_newM (M := fun k_ => (P2_ k_ ∨ w.heap.size ≤ k_)) ho0 (by first|exact HK.out.1|exact (show Kept w _ (fun k_ => P2_ k_) from by repeat (first|(with_reducible first|exact HK.out|apply Kept.alloc|apply Kept.drewN|apply Kept.drew|refine Kept.setCell ?_ (.inr GW394.out) _)|exact HK.out)).1) (fun k_ h_ => .inr h_)) (Kd.R_lt (by (with_reducible repeat (first|apply Kd.R_alloc|apply Kd.R_drewN|apply Kd.R_drew));exact HO2.out))) (bwZ (by repeat (first|(with_reducible first|exact HB.out|apply bwA|apply bwN|apply bwD|refine bwS ?_ GE394.out)|exact HB.out))));have n2_ := As_ (blk_below (g := gb394) (o := .cells #[.slice A0_0 l0_0.length c0_0,.int .i64 a0_1] 25 (0,0)) (by (with_reducible repeat (first|refine bkN ?_ _|refine bkD ?_|refine bkA ?_ _));exact BK394.out) hb);have n3_ := As_ (Kept.below (S := (fun k_ => P2_ k_)) (by repeat (first|(with_reducible first|exact HK.out|apply Kept.alloc|apply Kept.drewN|apply Kept.drew|refine Kept.setCell ?_ (.inr GW394.out) _)|exact HK.out)) hb);have n4_ := As_ (bwT (by repeat (first|(with_reducible first|exact HB.out|apply bwA|apply bwN|apply bwD|refine bwS ?_ GE394.out)|exact HB.out)) hb);clear HO2;clear BK394;clear HK;clear HB;have HO2 := n0_;have HO398 := n1_;have BK394 := n2_;have HK := n3_;have HB := n4_;clear n0_ n1_ n2_ n3_ n4_;(try clear hb);(try clear hb2);(try clear hk);(try clear hi);(try clear ho0))|((with_reducible refine gate_builtin (b := .append) (xs := #[.tmp 14,.tmp 16]) rfl ?_);at_builtin;refine Kd.R_append (Kd.int .i64) (w0 := w0) w0.heap.size rfl (.tmp 14) (.tmp 16) 26 3 (.int .i64 0) 8 rfl Try.underlying26 info3 rfl (by decide) (by omega) v397 t396 a1 [.int .i64 a1] (fun k_ => (P2_ k_ ∨ w.heap.size ≤ k_) ∧ some k_ ≠ (.slice Ao11 l2.length co11 : Value).ownBlock) (fun _ => False) rfl rfl ?aP (fun _ hk => hk.elim) ?aF ?aO ?aB ?aS ?aL ?_;(case aP => exact rfl);(case aB => exact (by repeat (first|(with_reducible first|exact HB.out|apply bwA|apply bwN|apply bwD|refine bwS ?_ GE394.out)|exact HB.out)));(case aF => exact (fun k_ hk => ⟨(.inr (Nat.le_trans (by first|exact HK.out.1|exact (show Kept w _ (fun k_ => P2_ k_) from by repeat (first|(with_reducible first|exact HK.out|apply Kept.alloc|apply Kept.drewN|apply Kept.drew|refine Kept.setCell ?_ (.inr GW394.out) _)|exact HK.out)).1) hk)),Kd.fresh' (Kd.R_lt (by (with_reducible repeat (first|apply Kd.R_alloc|apply Kd.R_drewN|apply Kd.R_drew));exact HO2.out)) k_ hk⟩));(case aO => exact (by (with_reducible repeat (first|apply Kd.R_alloc|apply Kd.R_drewN|apply Kd.R_drew));exact Kd.R_mono HO398.out (fun _ hk => ⟨hk.1.1,hk.2⟩)));(case aS => exact (bwZ (by repeat (first|(with_reducible first|exact HB.out|apply bwA|apply bwN|apply bwD|refine bwS ?_ GE394.out)|exact HB.out))));(case aL => have := LMc9.out;omega);intro v400 w13 ho hb hg hat;rw [← Ny399.out] at ho;have n0_ := As_ (Kd.R_after (ok := (fun k_ => (P2_ k_ ∨ w.heap.size ≤ k_))) (by (with_reducible repeat (first|apply Kd.R_alloc|apply Kd.R_drewN|apply Kd.R_drew));exact HO2.out) hg hat);have n1_ := As_ (blk_grown (g := gb394) (o := .cells #[.slice A0_0 l0_0.length c0_0,.int .i64 a0_1] 25 (0,0)) (by (with_reducible repeat (first|refine bkN ?_ _|refine bkD ?_|refine bkA ?_ _));exact BK394.out) hg (Kd.R_ne HO398.out BK394.out (by decide)));have n2_ := As_ (hb);have n3_ := As_ (Kept.of_grown (S := (fun k_ => P2_ k_)) hg (by repeat (first|(with_reducible first|exact HK.out|apply Kept.alloc|apply Kept.drewN|apply Kept.drew|refine Kept.setCell ?_ (.inr GW394.out) _)|exact HK.out)) (fun k_ e_ => (HO398.out.1 k_ e_).1.1));have n4_ := As_ (ho);clear HO2;clear BK394;clear HB;clear HK;clear HO398;have HO2 := n0_;have BK394 := n1_;have HB := n2_;have HK := n3_;have HO401 := n4_;clear n0_ n1_ n2_ n3_ n4_;clear ho hb hg hat))
  go_loopg [2,7] k (fun kq v2 v7 w' => ∃ (x2_1 : List Int) (x7_1 : Int),v7 = .int .i64 x7_1 ∧ Aside0 (spec_reach.l0 kq a1 x2_1 x7_1 l0_0 a0_1 = some r) ∧ Aside0 (kq ≤ k) ∧ Aside0 (Kd.R (Kd.int .i64) 3 w' w0.heap.size (fun k_ => (P2_ k_ ∨ w.heap.size ≤ k_)) v2 x2_1) ∧ Aside0 (w'.heap[gb394]? = some (.cells #[(.slice A0_0 l0_0.length c0_0),.int .i64 a0_1] 25 (0,0))) ∧ Aside0 (Kept w w' (fun k_ => P2_ k_)) ∧ Aside0 (Below w0.heap.size w0 w'))
  case atStart => exact ⟨(y399),(0),(by first|rfl|(simp;done)|(simp [*];done)),H',⟨Nat.le_refl _⟩,⟨by (with_reducible repeat (first|apply Kd.R_alloc|apply Kd.R_drewN|apply Kd.R_drew));exact Kd.R_mono HO401.out (fun _ hk => hk.1)⟩,⟨by (with_reducible repeat (first|refine bkN ?_ _|refine bkD ?_|refine bkA ?_ _));exact BK394.out⟩,⟨by repeat (first|(with_reducible first|exact HK.out|apply Kept.alloc|apply Kept.drewN|apply Kept.drew|refine Kept.setCell ?_ (.inr GW394.out) _)|exact HK.out)⟩,⟨by repeat (first|(with_reducible first|exact HB.out|apply bwA|apply bwN|apply bwD|refine bwS ?_ GE394.out)|exact HB.out)⟩⟩
  case round =>
   clear H'
   try clear p2
   try clear c5
   try clear c5b0
   try clear c6
   try clear c8
   try clear c9
   obtain ⟨x2_1,x7_1,rfl,HA,HK1,HO_2,BK394,HK,HB⟩ := hrel
   cases gk with
   | zero => exact absurd HA.out (fun h_ => (by cases h_))
   | succ k1 =>
    have H := HA.out
    clear HA
    simp only [spec_reach.l0] at H
    by_cases c14 : 0 ≤ a1
    rotate_left
    ·rw [if_neg c14] at H
     exact absurd H (by simp)
    rw [if_pos c14] at H
    have c14b0 : decide (0 ≤ a1) = true := deT c14
    clear c14
    by_cases c15 : a1 < (l0_0.length : Int)
    rotate_left
    ·rw [if_neg c15] at H
     exact absurd H (by simp)
    rw [if_pos c15] at H
    have c15b0 : decide (a1 < (l0_0.length : Int)) = true := deT c15
    clear c15
    by_cases c16 : x7_1 < (((rd_T58 l0_0 a1).f2).length : Int)
    ·rw [if_pos c16] at H
     have c16b0 : decide (x7_1 < (((rd_T58 l0_0 a1).f2).length : Int)) = true := deT c16
     clear c16
     by_cases c17 : 0 ≤ x7_1
     rotate_left
     ·rw [if_neg c17] at H
      exact absurd H (by simp)
     rw [if_pos c17] at H
     have c17b0 : decide (0 ≤ x7_1) = true := deT c17
     clear c17
     replace H := obS H
     obtain ⟨t405,A180,H⟩ := H
     replace H : (spec_reach.l0 k1 a1 t405 (wrap64 (x7_1 + 1)) l0_0 a0_1) = some r := H
     have A18 := As_ A180
     clear A180
     have H' := As_ H
     clear H
     have hcz19_0 : wr.cell? ⟨gb394,0,none⟩ = some (.slice A0_0 l0_0.length c0_0) := (bkC BK394.out 0).trans rfl
     have hcz19_1 : wr.cell? ⟨gb394,1,none⟩ = some (.int .i64 a0_1) := (bkC BK394.out 1).trans rfl
     have hfz19_0 := bkF BK394.out 0
     have hfz19_1 := bkF BK394.out 1
     have p402 : 0 ≤ (a1 : Int) := odT (by first|(with_reducible assumption)|assumption)
     have q402 : a1 < (l0_0.length : Int) := odT (by first|(with_reducible assumption)|assumption)
     obtain ⟨ad402,A402_2,c402_2,e402,hx402_0,hx402_1,hx402_2,hl402_2,hi402_2⟩ := at_T58 (Kd.C_kept_now HR0_0.out HK.out) a1 p402 q402
     cases e402
     have HR402_2 := As_ hi402_2
     have HC402_2 := As_ hl402_2
     clear hi402_2 hl402_2
     replace p402 := eq_true p402
     replace q402 := eq_true q402
     try go_wp2
     have n0_ := As_ (Kd.R_drew HO_2.out)
     have n1_ := As_ (bkD BK394.out)
     have n2_ := As_ (Kd.C_drew HR402_2.out)
     have n3_ := As_ (Kept.drew HK.out)
     have n4_ := As_ (bwD HB.out)
     clear HO_2
     clear BK394
     clear HR402_2
     clear HK
     clear HB
     have HO_2 := n0_
     have BK394 := n1_
     have HR402_2 := n2_
     have HK := n3_
     have HB := n4_
     clear n0_ n1_ n2_ n3_ n4_
     have p403 : 0 ≤ (a1 : Int) := odT (by first|(with_reducible assumption)|assumption)
     have q403 : a1 < (l0_0.length : Int) := odT (by first|(with_reducible assumption)|assumption)
     obtain ⟨ad403,A403_2,c403_2,e403,hx403_0,hx403_1,hx403_2,hl403_2,hi403_2⟩ := at_T58 (Kd.C_kept_now HR0_0.out HK.out) a1 p403 q403
     have hw403_2 := hx403_2
     have hw403_1 := hx403_1
     have hw403_0 := hx403_0
     obtain rfl : ad402 = ad403 := (by injection e403)
     have HR403_2 := As_ hi403_2
     have HC403_2 := As_ hl403_2
     clear hi403_2 hl403_2
     replace p403 := eq_true p403
     replace q403 := eq_true q403
     have p404 : 0 ≤ (x7_1 : Int) := odT (by first|(with_reducible assumption)|assumption)
     have q404 : x7_1 < (((rd_T58 l0_0 a1).f2).length : Int) := odT (by first|(with_reducible assumption)|assumption)
     obtain ⟨ad404,e404,hx404_0⟩ := Kd.at_int (by repeat (first|(with_reducible exact HR403_2.out)|(with_reducible refine Kd.C_alloc ?_ _)|(with_reducible refine Kd.C_drewN ?_ _)|(with_reducible refine Kd.C_drew ?_)|exact HR403_2.out)) x7_1 p404 q404
     cases e404
     replace p404 := eq_true p404
     replace q404 := eq_true q404
     obtain ⟨Ao21,co21,eo21⟩ := Kd.R_slice HO_2.out
     (first|subst eo21|(injection eo21 with f1_ f2_ f3_;have f4_ := f1_.symm;have f5_ := f3_.symm;clear f1_ f2_ f3_;subst f4_;subst f5_))
     refine start_ (n := 13) (S := fun w' => w'.cell? ⟨gb394,0,none⟩ = some (.slice (some ad402) l0_0.length c0_0) ∧ w'.cell? ⟨gb394,1,none⟩ = some (.int .i64 a0_1) ∧ w'.cell? (ad402.add ((a1).toNat * 3)) = some (.int .i64 ((rd_T58 l0_0 a1).f0)) ∧ w'.cell? ⟨(ad402.add ((a1).toNat * 3)).block,(ad402.add ((a1).toNat * 3)).off + 1,none⟩ = some (.int .i64 ((rd_T58 l0_0 a1).f1)) ∧ w'.cell? ⟨(ad402.add ((a1).toNat * 3)).block,(ad402.add ((a1).toNat * 3)).off + 2,none⟩ = some (.slice (some ad404) ((rd_T58 l0_0 a1).f2).length c403_2) ∧ w'.cell? (ad404.add (x7_1).toNat) = some (.int .i64 (rd ((rd_T58 l0_0 a1).f2) x7_1))) (ds := [11]) (bl_ 0 13) (by kernel_rfl) rfl rfl ⟨(bkC BK394.out 0).trans rfl,(bkC BK394.out 1).trans rfl,hx403_0,hx403_1,hx403_2,hx404_0⟩ (fun hHeld => ?_);refine with_tabW spec_reach.tab7 spec_reach.bits7 (fun HT_ HW_ => ?_)
     generalize wr.drew = w20 at HO_2 BK394 HR402_2 HK HB HR403_2 hx403_0 hx403_1 hx403_2 hx404_0 hHeld ⊢
     refine pP 1 30 (bl_ 2 13) ?_ HT_ rfl rfl (by kernel_rfl) (fun _ _ _ h => h) (.inl ⟨by rfl,?_⟩) ?_ ?_ ?_;rotate_left;(intro w';go_simp;with_reducible rfl);rotate_left;(simp only [Act.put,sq_,i64_w,i32_w];rfl)
     refine pP 3 32 (bl_ 10 13) ?_ HT_ rfl rfl (by kernel_rfl) (fun _ _ _ h => h) (.inl ⟨by rfl,?_⟩) ?_ ?_ ?_;rotate_left;(intro w';go_simp;with_reducible rfl);rotate_left;(simp only [Act.put,sq_,i64_w,i32_w];rfl)
     refine pP 7 36 (bl_ 138 13) ?_ HT_ rfl rfl (by kernel_rfl) (fun _ _ _ h => h) (.inl ⟨by rfl,?_⟩) ?_ ?_ ?_;rotate_left;(intro w';go_simp;with_reducible rfl);rotate_left;(simp only [Act.put,sq_,i64_w,i32_w];rfl)
     refine pP 10 39 (bl_ 1162 13) ?_ HT_ rfl rfl (by kernel_rfl) (fun _ _ _ h => h) (.inl ⟨by rfl,?_⟩) ?_ ?_ ?_;rotate_left;(intro w';go_simp;with_reducible rfl);rotate_left;(simp only [Act.put,sq_,i64_w,i32_w];rfl)
     refine tP 0 29 (bl_ 1163 13) ?_ HT_ HW_ rfl rfl (by kernel_rfl) (fun _ _ _ h => h) (.inl ⟨by rfl,?_⟩) hHeld ?_ ?_ ?_;rotate_left;(rintro w' ⟨s0,s1,s2,s3,s4,s5⟩;go_simp;with_reducible rfl);rotate_left;(simp only [Act.put,sq_,i64_w,i32_w];rfl)
     refine tP 2 31 (bl_ 1167 13) ?_ HT_ HW_ rfl rfl (by kernel_rfl) (fun _ _ _ h => h) (.inl ⟨by rfl,?_⟩) hHeld ?_ ?_ ?_;rotate_left;(rintro w' ⟨s0,s1,s2,s3,s4,s5⟩;go_simp;with_reducible rfl);rotate_left;(simp only [Act.put,sq_,i64_w,i32_w];rfl)
     refine pP 4 33 (bl_ 1183 13) ?_ HT_ rfl rfl (by kernel_rfl) (fun _ _ _ h => h) (.inl ⟨by rfl,?_⟩) ?_ ?_ ?_;rotate_left;(intro w';go_simp;with_reducible rfl);rotate_left;(simp only [Act.put,sq_,i64_w,i32_w];rfl)
     refine pP 5 34 (bl_ 1215 13) ?_ HT_ rfl rfl (by kernel_rfl) (fun _ _ _ h => h) (.inl ⟨by rfl,?_⟩) ?_ ?_ ?_;rotate_left;(intro w';go_simp;with_reducible rfl);rotate_left;(simp only [Act.put,sq_,i64_w,i32_w];rfl)
     refine tP 6 35 (bl_ 1279 13) ?_ HT_ HW_ rfl rfl (by kernel_rfl) (fun _ _ _ h => h) (.inl ⟨by rfl,?_⟩) hHeld ?_ ?_ ?_;rotate_left;(rintro w' ⟨s0,s1,s2,s3,s4,s5⟩;go_simp;with_reducible rfl);rotate_left;(simp only [Act.put,sq_,i64_w,i32_w];rfl)
     refine pP 8 37 (bl_ 1535 13) ?_ HT_ rfl rfl (by kernel_rfl) (fun _ _ _ h => h) (.inl ⟨by rfl,?_⟩) ?_ ?_ ?_;rotate_left;(intro w';go_simp;with_reducible rfl);rotate_left;(simp only [Act.put,sq_,i64_w,i32_w];rfl)
     refine tP 9 38 (bl_ 2047 13) ?_ HT_ HW_ rfl rfl (by kernel_rfl) (fun _ _ _ h => h) (.inl ⟨by rfl,?_⟩) hHeld ?_ ?_ ?_;rotate_left;(rintro w' ⟨s0,s1,s2,s3,s4,s5⟩;go_simp;with_reducible rfl);rotate_left;(simp only [Act.put,sq_,i64_w,i32_w];rfl)
     refine last_ (i := 11) (N := some 40) (bl_ 4095 13) rfl rfl (one_of HT_.out (by kernel_rfl)) (by decide) (fun K hK => ?_)
     refine goes_ Try.func84 (by kernel_rfl) rfl #[.agg #[.slice (some ad402) l0_0.length c0_0,.int .i64 a0_1],.int .i64 (rd ((rd_T58 l0_0 a1).f2) x7_1),.slice Ao21 x2_1.length co21] (by rfl) rfl rfl (by (try simp only [List.map_toArray,List.map_cons,List.map_nil]);first|done|rfl|(simp only [List.length_drop,List.length_take];rfl)) ?_
     with_reducible refine (ih k1 (by have := HK1.out;omega) _ _ l0_0 a0_1 (rd ((rd_T58 l0_0 a1).f2) x7_1) (fun k_ => some k_ = (.slice Ao21 x2_1.length co21 : Value).ownBlock) (.slice Ao21 x2_1.length co21) x2_1 t405 w0 _ ?side1 ?side2 ?side3 ?side4 A18.out).mono ?_
     (case side1 => repeat (first|(with_reducible first|exact HB.out|apply bwA|apply bwN|apply bwD|refine bwS ?_ GE394.out)|exact HB.out))
     (case side2 => exact Kd.C_kept_call HR0_0.out (by repeat (first|(with_reducible first|exact HK.out|apply Kept.alloc|apply Kept.drewN|apply Kept.drew|refine Kept.setCell ?_ (.inr GW394.out) _)|exact HK.out)) (fun k_ hs_ => (fun e_ => (HO_2.out.1 k_ e_.symm)) hs_))
     (case side3 => exact HC0_0.out)
     (case side4 => exact Kd.R_tight rfl HO_2.out)
     rintro e w22 ⟨v406,rfl,ho0,hb,hkp⟩
     refine ⟨_,rfl,?_⟩
     have n0_ := As_ (blk_kept (by (with_reducible repeat (first|refine bkN ?_ _|refine bkD ?_|refine bkA ?_ _));exact BK394.out) hkp (fun hs_ => (fun e_ => (Kd.R_ne HO_2.out BK394.out (by decide)) e_) hs_))
     have n1_ := As_ (Kd.R_mono (ok' := fun k_ => (P2_ k_ ∨ w.heap.size ≤ k_)) ho0 (fun k_ hk_ => Or.elim hk_ (fun hs_ => (HO_2.out.1 k_ (hs_).symm)) (fun hn_ => (.inr (Nat.le_trans (by first|exact HK.out.1|exact (show Kept w _ (fun k_ => P2_ k_) from by repeat (first|(with_reducible first|exact HK.out|apply Kept.alloc|apply Kept.drewN|apply Kept.drew|refine Kept.setCell ?_ (.inr GW394.out) _)|exact HK.out)).1) hn_)))))
     have n2_ := As_ (Kept.then_ (S := (fun k_ => P2_ k_)) (by repeat (first|(with_reducible first|exact HK.out|apply Kept.alloc|apply Kept.drewN|apply Kept.drew|refine Kept.setCell ?_ (.inr GW394.out) _)|exact HK.out)) hkp (fun k_ hs_ => (fun e_ => (HO_2.out.1 k_ e_.symm)) hs_))
     have n3_ := As_ (hb)
     clear BK394
     clear HK
     clear HB
     clear HO_2
     have BK394 := n0_
     have HO407 := n1_
     have HK := n2_
     have HB := n3_
     clear n0_ n1_ n2_ n3_
     (try clear hb)
     (try clear hkp)
     (try clear ho0)
     refine hK.out _ _ ?_
     clear hK K
     refine norm_ (a' := ?_) ?_ ?_
     rotate_left
     ·show Act.put _ (some 40) _ = _
      simp only [Act.put,sq_,i64_w,i32_w]
      rfl
     refine pP 12 2 (bl_ 8191 13) ?_ HT_ rfl rfl (by kernel_rfl) (fun _ _ _ h => h) (.inl ⟨by rfl,?_⟩) ?_ ?_ ?_;rotate_left;(intro w';go_simp;with_reducible rfl);rotate_left;(simp only [Act.put,sq_,i64_w,i32_w];rfl)
     refine done_ (done_of HT_.out (by kernel_rfl)) ?_
     try go_wp2
     go_roundg k1
     case measure => have := HK1.out;omega
     case rel => exact ⟨(t405),(wrap64 (x7_1 + 1)),(by first|rfl|(simp;done)|(simp [*];done)),H',⟨by have := HK1.out;omega⟩,⟨by (with_reducible repeat (first|apply Kd.R_alloc|apply Kd.R_drewN|apply Kd.R_drew));exact HO407.out⟩,⟨by (with_reducible repeat (first|refine bkN ?_ _|refine bkD ?_|refine bkA ?_ _));exact BK394.out⟩,⟨by repeat (first|(with_reducible first|exact HK.out|apply Kept.alloc|apply Kept.drewN|apply Kept.drew|refine Kept.setCell ?_ (.inr GW394.out) _)|exact HK.out)⟩,⟨by repeat (first|(with_reducible first|exact HB.out|apply bwA|apply bwN|apply bwD|refine bwS ?_ GE394.out)|exact HB.out)⟩⟩
    ·rw [if_neg c16] at H
     have c16b0 : decide (x7_1 < (((rd_T58 l0_0 a1).f2).length : Int)) = false := deF c16
     clear c16
     obtain rfl := Option.some.inj H
     have hcz23_0 : wr.cell? ⟨gb394,0,none⟩ = some (.slice A0_0 l0_0.length c0_0) := (bkC BK394.out 0).trans rfl
     have hcz23_1 : wr.cell? ⟨gb394,1,none⟩ = some (.int .i64 a0_1) := (bkC BK394.out 1).trans rfl
     have hfz23_0 := bkF BK394.out 0
     have hfz23_1 := bkF BK394.out 1
     have p402 : 0 ≤ (a1 : Int) := odT (by first|(with_reducible assumption)|assumption)
     have q402 : a1 < (l0_0.length : Int) := odT (by first|(with_reducible assumption)|assumption)
     obtain ⟨ad402,A402_2,c402_2,e402,hx402_0,hx402_1,hx402_2,hl402_2,hi402_2⟩ := at_T58 (Kd.C_kept_now HR0_0.out HK.out) a1 p402 q402
     cases e402
     have HR402_2 := As_ hi402_2
     have HC402_2 := As_ hl402_2
     clear hi402_2 hl402_2
     replace p402 := eq_true p402
     replace q402 := eq_true q402
     go_wp2
     go_ret
     exact ⟨_,by first|rfl|(simp [errW_none,errW_some] <;> rfl)|(simp [*,errW_none,errW_some] <;> rfl),by (with_reducible repeat (first|apply Kd.R_alloc|apply Kd.R_drewN|apply Kd.R_drew));exact HO_2.out,by repeat (first|(with_reducible first|exact HB.out|apply bwA|apply bwN|apply bwD|refine bwS ?_ GE394.out)|exact HB.out),by repeat (first|(with_reducible first|exact HK.out|apply Kept.alloc|apply Kept.drewN|apply Kept.drew|refine Kept.setCell ?_ (.inr GW394.out) _)|exact HK.out)⟩

/-! ### spec_uses: function 50 -/
mutual
def spec_uses.l0 : Nat → List Int → List Int → Int → List (S58) → Int → Option (List Int)
 | 0,_,_,_,_,_ => none
 | k + 1,x3,x4,x5,x409000,x409001 => if x5 < (x4.length : Int) then (spec_uses.l1 k x3 x4 x5 0 x409000 x409001) else (some x3)
def spec_uses.l1 : Nat → List Int → List Int → Int → Int → List (S58) → Int → Option (List Int)
 | 0,_,_,_,_,_,_ => none
 | k + 1,x3,x4,x5,x6,x409000,x409001 => if 0 ≤ x5 then (if x5 < (x4.length : Int) then (if 0 ≤ (rd x4 x5) then (if (rd x4 x5) < (x409000.length : Int) then (if x6 < (((rd_T58 x409000 (rd x4 x5)).f2).length : Int) then (if 0 ≤ x6 then (if 0 ≤ (rd ((rd_T58 x409000 (rd x4 x5)).f2) x6) then (if (rd ((rd_T58 x409000 (rd x4 x5)).f2) x6) < (x3.length : Int) then (spec_uses.l1 k (x3.set ((rd ((rd_T58 x409000 (rd x4 x5)).f2) x6) : Int).toNat (wrap64 ((rd x3 (rd ((rd_T58 x409000 (rd x4 x5)).f2) x6)) + 1))) x4 x5 (wrap64 (x6 + 1)) x409000 x409001) else (none)) else (none)) else (none)) else (spec_uses.l0 k x3 x4 (wrap64 (x5 + 1)) x409000 x409001)) else (none)) else (none)) else (none)) else (none)
end
def spec_uses.f (k : Nat) (l0_0 : List (S58)) (a0_1 : Int) : Option (List Int) := if 0 ≤ (l0_0.length : Int) then (if ((l0_0.length : Int) : Int).toNat ≤ 35184372088832 then ((some (List.replicate ((l0_0.length : Int) : Int).toNat 0 : List Int)).bind fun y409 => (if 0 ≤ a0_1 then (if a0_1 < (y409.length : Int) then ((spec_reach.f k l0_0 a0_1 a0_1 (([] : List Int))).bind fun t416 => (spec_uses.l0 k (y409.set (a0_1 : Int).toNat 1) t416 0 l0_0 a0_1)) else (none)) else (none))) else (none)) else (none)
set_option maxRecDepth 100000 in
theorem spec_uses.mono_l : ∀ k,(∀ y0 y1 y2 y3 y4,LeO (spec_uses.l0 k y0 y1 y2 y3 y4) (spec_uses.l0 (k + 1) y0 y1 y2 y3 y4)) ∧ (∀ y0 y1 y2 y3 y4 y5,LeO (spec_uses.l1 k y0 y1 y2 y3 y4 y5) (spec_uses.l1 (k + 1) y0 y1 y2 y3 y4 y5))
 | 0 => ⟨fun _ _ _ _ _ r h => (by cases h),fun _ _ _ _ _ _ r h => (by cases h)⟩
 | k + 1 => by
  obtain ⟨ih0,ih1⟩ := spec_uses.mono_l k
  refine ⟨?_,?_⟩
  ·intro y0 y1 y2 y3 y4
   unfold spec_uses.l0
   repeat' first
   | (with_reducible exact ih0 _ _ _ _ _)
   | (with_reducible exact ih1 _ _ _ _ _ _)
   | (with_reducible exact spec_reach.mono _ _ _ _ _)
   | (with_reducible exact LeO.refl _)
   | (with_reducible exact LeO.none _)
   | (with_reducible refine LeO.ite ?_ ?_)
   | (with_reducible refine LeO.bind ?_ (fun _ => ?_))
   | exact ih0 _ _ _ _ _
   | exact ih1 _ _ _ _ _ _
   | exact spec_reach.mono _ _ _ _ _
   | exact LeO.none _
   | refine LeO.ite ?_ ?_
   | refine LeO.bind ?_ (fun _ => ?_)
  ·intro y0 y1 y2 y3 y4 y5
   unfold spec_uses.l1
   repeat' first
   | (with_reducible exact ih0 _ _ _ _ _)
   | (with_reducible exact ih1 _ _ _ _ _ _)
   | (with_reducible exact spec_reach.mono _ _ _ _ _)
   | (with_reducible exact LeO.refl _)
   | (with_reducible exact LeO.none _)
   | (with_reducible refine LeO.ite ?_ ?_)
   | (with_reducible refine LeO.bind ?_ (fun _ => ?_))
   | exact ih0 _ _ _ _ _
   | exact ih1 _ _ _ _ _ _
   | exact spec_reach.mono _ _ _ _ _
   | exact LeO.none _
   | refine LeO.ite ?_ ?_
   | refine LeO.bind ?_ (fun _ => ?_)
set_option maxRecDepth 100000 in
theorem spec_uses.mono : ∀ a0 a1 k,LeO (spec_uses.f k a0 a1) (spec_uses.f (k + 1) a0 a1) := by
 intro a0 a1 k
 obtain ⟨ih0,ih1⟩ := spec_uses.mono_l k
 unfold spec_uses.f
 repeat' first
   | (with_reducible exact ih0 _ _ _ _ _)
   | (with_reducible exact ih1 _ _ _ _ _ _)
   | (with_reducible exact spec_reach.mono _ _ _ _ _)
   | (with_reducible exact LeO.refl _)
   | (with_reducible exact LeO.none _)
   | (with_reducible refine LeO.ite ?_ ?_)
   | (with_reducible refine LeO.bind ?_ (fun _ => ?_))
   | exact ih0 _ _ _ _ _
   | exact ih1 _ _ _ _ _ _
   | exact spec_reach.mono _ _ _ _ _
   | exact LeO.none _
   | refine LeO.ite ?_ ?_
   | refine LeO.bind ?_ (fun _ => ?_)
set_option maxHeartbeats 8000000 in
set_option maxRecDepth 100000 in
theorem spec_uses.calls (k : Nat) (A0_0 : Option Addr) (c0_0 : Nat) (l0_0 : List (S58)) (a0_1 : Int) (r : List Int) (w : World) (hr0_0 : Kd.C k58 w A0_0 l0_0.length l0_0) (hc0_0 : l0_0.length ≤ c0_0) (h : spec_uses.f k l0_0 a0_1 = some r) :
  Calls Try.prog 50 #[.agg #[.slice A0_0 l0_0.length c0_0,.int .i64 a0_1]] w fun e w' => ∃ v0_ : Value,e = .returned (v0_) ∧ Kd.R (Kd.int .i64) 3 w' w.heap.size (fun _ => True) v0_ r ∧ Below w.heap.size w w' := by
 have hu25 := Try.underlying25
 have HR0_0 := As_ hr0_0
 have HC0_0 := As_ hc0_0
 clear hr0_0 hc0_0
 have HB := As_ (Below.refl w.heap.size w)
 have H : (if 0 ≤ (l0_0.length : Int) then (if ((l0_0.length : Int) : Int).toNat ≤ 35184372088832 then ((some (List.replicate ((l0_0.length : Int) : Int).toNat 0 : List Int)).bind fun y409 => (if 0 ≤ a0_1 then (if a0_1 < (y409.length : Int) then ((spec_reach.f k l0_0 a0_1 a0_1 (([] : List Int))).bind fun t416 => (spec_uses.l0 k (y409.set (a0_1 : Int).toNat 1) t416 0 l0_0 a0_1)) else (none)) else (none))) else (none)) else (none)) = some r := h
 clear h
 by_cases c2 : 0 ≤ (l0_0.length : Int)
 rotate_left
 ·rw [if_neg c2] at H
  exact absurd H (by simp)
 rw [if_pos c2] at H
 have c2b0 := eq_true c2
 have c2b1 : decide (0 ≤ (l0_0.length : Int)) = true := deT c2
 clear c2
 by_cases c3 : ((l0_0.length : Int) : Int).toNat ≤ 35184372088832
 rotate_left
 ·rw [if_neg c3] at H
  exact absurd H (by simp)
 rw [if_pos c3] at H
 have c3b0 := eq_true c3
 have c3b1 : decide (((l0_0.length : Int) : Int).toNat ≤ 35184372088832) = true := deT c3
 clear c3
 obtain ⟨y409,hy409⟩ : ∃ y_ : List Int,y_ = (List.replicate ((l0_0.length : Int) : Int).toNat 0) := ⟨_,rfl⟩
 replace H : (if 0 ≤ a0_1 then (if a0_1 < (y409.length : Int) then ((spec_reach.f k l0_0 a0_1 a0_1 (([] : List Int))).bind fun t416 => (spec_uses.l0 k (y409.set (a0_1 : Int).toNat 1) t416 0 l0_0 a0_1)) else (none)) else (none)) = some r := by first|(rw [hy409];with_reducible exact H)|(have H2_ := (Option.bind_some _ _).symm.trans H;rw [hy409];with_reducible exact H2_)|(have H2_ := (Option.bind_some _ _).symm.trans H;with_reducible exact H2_)|with_reducible exact H|(rw [hy409];exact H)|exact H
 have Ny409 := As_ hy409
 clear hy409
 by_cases c4 : 0 ≤ a0_1
 rotate_left
 ·rw [if_neg c4] at H
  exact absurd H (by simp)
 rw [if_pos c4] at H
 have c4b0 : decide (0 ≤ a0_1) = true := deT c4
 clear c4
 by_cases c5 : a0_1 < (y409.length : Int)
 rotate_left
 ·rw [if_neg c5] at H
  exact absurd H (by simp)
 rw [if_pos c5] at H
 have c5b0 : decide (a0_1 < (y409.length : Int)) = true := deT c5
 clear c5
 obtain ⟨y412,hy412⟩ : ∃ y_ : List Int,y_ = (y409.set (a0_1 : Int).toNat 1) := ⟨_,rfl⟩
 replace H : ((spec_reach.f k l0_0 a0_1 a0_1 (([] : List Int))).bind fun t416 => (spec_uses.l0 k y412 t416 0 l0_0 a0_1)) = some r := by first|(rw [hy412];with_reducible exact H)|(have H2_ := (Option.bind_some _ _).symm.trans H;rw [hy412];with_reducible exact H2_)|(have H2_ := (Option.bind_some _ _).symm.trans H;with_reducible exact H2_)|with_reducible exact H|(rw [hy412];exact H)|exact H
 have Ny412 := As_ hy412
 clear hy412
 obtain ⟨y413,hy413⟩ : ∃ y_ : List Int,y_ = (([] : List Int)) := ⟨_,rfl⟩
 replace H : ((spec_reach.f k l0_0 a0_1 a0_1 y413).bind fun t416 => (spec_uses.l0 k y412 t416 0 l0_0 a0_1)) = some r := by first|(rw [hy413];with_reducible exact H)|(have H2_ := (Option.bind_some _ _).symm.trans H;rw [hy413];with_reducible exact H2_)|(have H2_ := (Option.bind_some _ _).symm.trans H;with_reducible exact H2_)|with_reducible exact H|(rw [hy413];exact H)|exact H
 have Ny413 := As_ hy413
 clear hy413
 replace H := obS H
 obtain ⟨t416,A70,H⟩ := H
 replace H : (spec_uses.l0 k y412 t416 0 l0_0 a0_1) = some r := H
 have A7 := As_ A70
 clear A70
 have H' := As_ H
 clear H
 go_enter Try.func50,Try.ntmps50
 go_wp2_with (first|((with_reducible refine gate_dst (N := 1) rfl ?_);refine box_event ?hg (N := 1) ?hd (cs := #[.slice A0_0 l0_0.length c0_0,.int .i64 a0_1]) (t := 25) ?hr ?_;(case hd => rfl);(case hg => rfl);(case hr => go_simp <;> rfl);intro gb408 hg w8 hbox hb;have n0_ := As_ (bwT (by repeat (first|(with_reducible first|exact HB.out|apply bwA|apply bwN|apply bwD)|exact HB.out)) hb);have n1_ := As_ (hbox);have n2_ := As_ ((by rw [hg];exact (bwZ (by repeat (first|(with_reducible first|exact HB.out|apply bwA|apply bwN|apply bwD)|exact HB.out))) : w.heap.size ≤ gb408));have n3_ := As_ ((by rw [hg];exact (bwZ (by repeat (first|(with_reducible first|exact HB.out|apply bwA|apply bwN|apply bwD)|exact HB.out))) : w.heap.size ≤ gb408));clear HB;have HB := n0_;have BK408 := n1_;have GW408 := n2_;have GE408 := n3_;clear n0_ n1_ n2_ n3_;clear hb hbox hg;have hcz9_0 : w8.cell? ⟨gb408,0,none⟩ = some (.slice A0_0 l0_0.length c0_0) := (bkC BK408.out 0).trans rfl;have hcz9_1 : w8.cell? ⟨gb408,1,none⟩ = some (.int .i64 a0_1) := (bkC BK408.out 1).trans rfl;have hfz9_0 := bkF BK408.out 0;have hfz9_1 := bkF BK408.out 1)|((with_reducible refine gate_dst (N := 11) rfl ?_);refine Kd.R_make (Kd.int .i64) _ 3 rfl (N := 11) rfl 26 _ _ rfl (l0_0.length : Int) rfl rfl Try.underlying26 (.int .i64 0) 8 info3 rfl (by decide) (by omega) 0 (ok := fun _ => True) (okp := fun _ => True) rfl (fun _ hk => hk) trivial (odT (by first|(with_reducible assumption)|assumption)) (Nat.le_trans (Nat.mul_le_mul_right _ (odT (by first|(with_reducible assumption)|assumption) : (l0_0.length : Int).toNat ≤ 35184372088832)) (by omega)) (Below.refl _ _) (Nat.le_refl _) ?_;intro v410 w10 ho11 hb hg_ hnew_;clear hg_ hnew_;(first|rw [← Ny409.out] at ho11|(simp only [Int.reduceToNat] at ho11;rw [← Ny409.out] at ho11));have n0_ := As_ (Kd.R_lower ho11 (bwZ (by repeat (first|(with_reducible first|exact HB.out|apply bwA|apply bwN|apply bwD|refine bwS ?_ GE408.out)|exact HB.out))));have n1_ := As_ (blk_below (g := gb408) (o := .cells #[.slice A0_0 l0_0.length c0_0,.int .i64 a0_1] 25 (0,0)) (by (with_reducible repeat (first|refine bkN ?_ _|refine bkD ?_|refine bkA ?_ _));exact BK408.out) hb);have n2_ := As_ (bwT (by repeat (first|(with_reducible first|exact HB.out|apply bwA|apply bwN|apply bwD|refine bwS ?_ GE408.out)|exact HB.out)) hb);clear BK408;clear HB;have HO411 := n0_;have BK408 := n1_;have HB := n2_;clear n0_ n1_ n2_;clear hb ho11;have hcz12_0 : w10.cell? ⟨gb408,0,none⟩ = some (.slice A0_0 l0_0.length c0_0) := (bkC BK408.out 0).trans rfl;have hcz12_1 : w10.cell? ⟨gb408,1,none⟩ = some (.int .i64 a0_1) := (bkC BK408.out 1).trans rfl;have hfz12_0 := bkF BK408.out 0;have hfz12_1 := bkF BK408.out 1;have p6 : 0 ≤ (a0_1 : Int) := odT (by first|(with_reducible assumption)|assumption);have q6 : (a0_1 : Int) < ((y409.length : Int) : Int) := odT (by first|(with_reducible assumption)|assumption);obtain ⟨go6,co6,eo6,gb6,gl6,cl6,HG6⟩ := Kd.R_form HO411.out (by omega);(first|cases eo6|(injection eo6 with ea_ en_ ec_;(first|subst ea_|(injection ea_ with ea_;subst ea_));subst ec_;clear en_));have GB6 := As_ gb6;have GG6 := As_ HG6;clear gb6 gl6 HG6;obtain ⟨hx6_0,hf6_0⟩ := Kd.R_celln 0 HO411.out (a0_1 : Int) p6 q6;replace p6 := eq_true p6;replace q6 := eq_true q6;obtain ⟨hy13_,hz13_⟩ := Kd.R_celln 0 HO411.out (a0_1 : Int) (odT (by first|(with_reducible assumption)|assumption)) (odT (by first|(with_reducible assumption)|assumption));have HP13 := Kd.R_putg HO411.out (a0_1 : Int) 1)|((with_reducible refine gate_store (t := 3) (p := 15) rfl ?_);(try (rw [drewN_self w10];generalize hq_ : World.drewN w10 _ = w10;have n0_ := As_ (Kd.R_at hq_ HO411.out);have n1_ := As_ (blk_at hq_ BK408.out);have n2_ := As_ (below_at hq_ HB.out);clear hq_ HO411 BK408 HB;have HO411 := n0_;have BK408 := n1_;have HB := n2_;clear n0_ n1_ n2_;(try (obtain ⟨hy13_,hz13_⟩ := Kd.R_celln 0 HO411.out (a0_1 : Int) (odT (by first|(with_reducible assumption)|assumption)) (odT (by first|(with_reducible assumption)|assumption))));(try (have HP13 := Kd.R_putg HO411.out (a0_1 : Int) 1))));refine store_event (t := 3) (p := 15) (v := ?vo_w14) (w1 := (w10.setCell ⟨go6,(a0_1 : Int).toNat,none⟩ (.int .i64 1))) ?hg ?ho ?hn ?hr ?_;(case ho => rfl);(case hg => rfl);(case hn => rfl);(case hr => go_simp <;> rfl);intro w14 hw;have hg : w10.grownBy w14 (some go6) := (by rw [hw];exact HP13.2);have hp_ : Kd.R (Kd.int .i64) 3 w14 w.heap.size (fun _ => True) (.slice (some ⟨go6,0,none⟩) y409.length co6) y412 := (by rw [hw,Ny412.out];exact HP13.1);clear HP13;have n0_ := As_ (blk_grown (g := gb408) (o := .cells #[.slice A0_0 l0_0.length c0_0,.int .i64 a0_1] 25 (0,0)) (by (with_reducible repeat (first|refine bkN ?_ _|refine bkD ?_|refine bkA ?_ _));exact BK408.out) hg (Kd.R_ne HO411.out BK408.out (by decide)));have n1_ := As_ (hp_);have n2_ := As_ ((by rw [hw];exact bwS (HB.out) GB6.out : Below w.heap.size w w14));clear BK408;clear HO411;clear HB;have BK408 := n0_;have HO411 := n1_;have HB := n2_;clear n0_ n1_ n2_;clear hg hw hp_;have hcz15_0 : w14.cell? ⟨gb408,0,none⟩ = some (.slice A0_0 l0_0.length c0_0) := (bkC BK408.out 0).trans rfl;have hcz15_1 : w14.cell? ⟨gb408,1,none⟩ = some (.int .i64 a0_1) := (bkC BK408.out 1).trans rfl;have hfz15_0 := bkF BK408.out 0;have hfz15_1 := bkF BK408.out 1)|((with_reducible refine gate_dst (N := 19) rfl ?_);refine Kd.R_lit (Kd.int .i64) _ 3 ?hg (N := 19) ?hd (xs := ([] : List Int)) (inner := []) (ok := fun _ => True) (okp := fun _ => True) ?hr ?hp (fun _ hk => hk) trivial (Below.refl _ _) (Nat.le_refl _) (by simp) ?_;(case hd => rfl);(case hg => rfl);(case hr => go_simp <;> rfl);(case hp => exact (Reps.none _ _));intro v414 w16 ho17 hb hg_ hnew_;clear hg_ hnew_;(first|rw [← Ny413.out] at ho17|(simp only [Int.reduceToNat] at ho17;rw [← Ny413.out] at ho17));have n0_ := As_ (Kd.R_elder' (by (with_reducible repeat (first|apply Kd.R_alloc|apply Kd.R_drewN|apply Kd.R_drew));exact HO411.out) (Kd.R_base ho17) hb);have n1_ := As_ (Kd.R_lower (Kd.R_new' ho17 (Kd.R_lt (by (with_reducible repeat (first|apply Kd.R_alloc|apply Kd.R_drewN|apply Kd.R_drew));exact HO411.out))) (bwZ (by repeat (first|(with_reducible first|exact HB.out|apply bwA|apply bwN|apply bwD|refine bwS ?_ GE408.out)|exact HB.out))));have n2_ := As_ (blk_below (g := gb408) (o := .cells #[.slice A0_0 l0_0.length c0_0,.int .i64 a0_1] 25 (0,0)) (by (with_reducible repeat (first|refine bkN ?_ _|refine bkD ?_|refine bkA ?_ _));exact BK408.out) hb);have n3_ := As_ (bwT (by repeat (first|(with_reducible first|exact HB.out|apply bwA|apply bwN|apply bwD|refine bwS ?_ GE408.out)|exact HB.out)) hb);clear HO411;clear BK408;clear HB;have HO411 := n0_;have HO415 := n1_;have BK408 := n2_;have HB := n3_;clear n0_ n1_ n2_ n3_;clear hb ho17;obtain ⟨Ao18,co18,eo18⟩ := Kd.R_slice HO415.out;subst eo18)|(go_at_call 84;(with_reducible refine (spec_reach.calls k _ _ l0_0 a0_1 a0_1 (fun k_ => some k_ = (.slice Ao18 y413.length co18 : Value).ownBlock) (.slice Ao18 y413.length co18) y413 t416 w _ ?side1 ?side2 ?side3 ?side4 A7.out).mono ?_);(case side1 => repeat (first|(with_reducible first|exact HB.out|apply bwA|apply bwN|apply bwD|refine bwS ?_ GE408.out)|exact HB.out));(case side2 => exact Kd.C_kept_came k58_heap HR0_0.out (by repeat (first|(with_reducible first|exact HB.out|apply bwA|apply bwN|apply bwD|refine bwS ?_ GE408.out)|exact HB.out)) (fun k_ hs_ => (fun e_ => Kd.R_base HO415.out k_ e_.symm) hs_));(case side3 => exact HC0_0.out);(case side4 => exact Kd.R_tight rfl HO415.out);rintro e w19 ⟨v417,rfl,ho0,hb,hkp⟩;have n0_ := As_ (blk_kept (by (with_reducible repeat (first|refine bkN ?_ _|refine bkD ?_|refine bkA ?_ _));exact BK408.out) hkp (fun hs_ => (fun e_ => (Kd.R_ne HO415.out BK408.out (by decide)) e_) hs_));have n1_ := As_ (Kd.R_mono (ok' := fun k_ => some k_ ≠ (v417 : Value).ownBlock) (Kd.R_keptB (HO411.out) hkp (fun k_ hk_ hs_ => (hk_.2) hs_)) (fun k_ hk_ => fun e_ => Or.elim (ho0.1 k_ e_.symm) (fun hs_ => hk_.2.1 hs_) (fun hn_ => Nat.not_le.2 hk_.2.2 hn_)));have n2_ := As_ (Kd.R_mono (ok' := fun k_ => some k_ ≠ (.slice (some ⟨go6,0,none⟩) y409.length co6 : Value).ownBlock) ho0 (fun k_ hk_ => Or.elim hk_ (fun hs_ => fun e_ => (((HO411.out).1 k_ e_.symm).2) hs_) (fun hn_ => (Kd.fresh' (Kd.R_lt (by (with_reducible repeat (first|apply Kd.R_alloc|apply Kd.R_drewN|apply Kd.R_drew));exact HO411.out)) k_ hn_))));have n3_ := As_ (hb);clear BK408;clear HO411;clear HB;clear HO415;have BK408 := n0_;have HO411 := n1_;have HO418 := n2_;have HB := n3_;clear n0_ n1_ n2_ n3_;(try clear hb);(try clear hkp);(try clear ho0)))
 repeat (go_quiet (first|((with_reducible refine gate_dst (N := 1) rfl ?_);refine box_event ?hg (N := 1) ?hd (cs := #[.slice A0_0 l0_0.length c0_0,.int .i64 a0_1]) (t := 25) ?hr ?_;(case hd => rfl);(case hg => rfl);(case hr => go_simp <;> rfl);intro gb408 hg w8 hbox hb;have n0_ := As_ (bwT (by repeat (first|(with_reducible first|exact HB.out|apply bwA|apply bwN|apply bwD)|exact HB.out)) hb);have n1_ := As_ (hbox);have n2_ := As_ ((by rw [hg];exact (bwZ (by repeat (first|(with_reducible first|exact HB.out|apply bwA|apply bwN|apply bwD)|exact HB.out))) : w.heap.size ≤ gb408));have n3_ := As_ ((by rw [hg];exact (bwZ (by repeat (first|(with_reducible first|exact HB.out|apply bwA|apply bwN|apply bwD)|exact HB.out))) : w.heap.size ≤ gb408));clear HB;have HB := n0_;have BK408 := n1_;have GW408 := n2_;have GE408 := n3_;clear n0_ n1_ n2_ n3_;clear hb hbox hg;have hcz9_0 : w8.cell? ⟨gb408,0,none⟩ = some (.slice A0_0 l0_0.length c0_0) := (bkC BK408.out 0).trans rfl;have hcz9_1 : w8.cell? ⟨gb408,1,none⟩ = some (.int .i64 a0_1) := (bkC BK408.out 1).trans rfl;have hfz9_0 := bkF BK408.out 0;have hfz9_1 := bkF BK408.out 1)|((with_reducible refine gate_dst (N := 11) rfl ?_);refine Kd.R_make (Kd.int .i64) _ 3 rfl (N := 11) rfl 26 _ _ rfl (l0_0.length : Int) rfl rfl Try.underlying26 (.int .i64 0) 8 info3 rfl (by decide) (by omega) 0 (ok := fun _ => True) (okp := fun _ => True) rfl (fun _ hk => hk) trivial (odT (by first|(with_reducible assumption)|assumption)) (Nat.le_trans (Nat.mul_le_mul_right _ (odT (by first|(with_reducible assumption)|assumption) : (l0_0.length : Int).toNat ≤ 35184372088832)) (by omega)) (Below.refl _ _) (Nat.le_refl _) ?_;intro v410 w10 ho11 hb hg_ hnew_;clear hg_ hnew_;(first|rw [← Ny409.out] at ho11|(simp only [Int.reduceToNat] at ho11;rw [← Ny409.out] at ho11));have n0_ := As_ (Kd.R_lower ho11 (bwZ (by repeat (first|(with_reducible first|exact HB.out|apply bwA|apply bwN|apply bwD|refine bwS ?_ GE408.out)|exact HB.out))));have n1_ := As_ (blk_below (g := gb408) (o := .cells #[.slice A0_0 l0_0.length c0_0,.int .i64 a0_1] 25 (0,0)) (by (with_reducible repeat (first|refine bkN ?_ _|refine bkD ?_|refine bkA ?_ _));exact BK408.out) hb);have n2_ := As_ (bwT (by repeat (first|(with_reducible first|exact HB.out|apply bwA|apply bwN|apply bwD|refine bwS ?_ GE408.out)|exact HB.out)) hb);clear BK408;clear HB;have HO411 := n0_;have BK408 := n1_;have HB := n2_;clear n0_ n1_ n2_;clear hb ho11;have hcz12_0 : w10.cell? ⟨gb408,0,none⟩ = some (.slice A0_0 l0_0.length c0_0) := (bkC BK408.out 0).trans rfl;have hcz12_1 : w10.cell? ⟨gb408,1,none⟩ = some (.int .i64 a0_1) := (bkC BK408.out 1).trans rfl;have hfz12_0 := bkF BK408.out 0;have hfz12_1 := bkF BK408.out 1;have p6 : 0 ≤ (a0_1 : Int) := odT (by first|(with_reducible assumption)|assumption);have q6 : (a0_1 : Int) < ((y409.length : Int) : Int) := odT (by first|(with_reducible assumption)|assumption);obtain ⟨go6,co6,eo6,gb6,gl6,cl6,HG6⟩ := Kd.R_form HO411.out (by omega);(first|cases eo6|(injection eo6 with ea_ en_ ec_;(first|subst ea_|(injection ea_ with ea_;subst ea_));subst ec_;clear en_));have GB6 := As_ gb6;have GG6 := As_ HG6;clear gb6 gl6 HG6;obtain ⟨hx6_0,hf6_0⟩ := Kd.R_celln 0 HO411.out (a0_1 : Int) p6 q6;replace p6 := eq_true p6;replace q6 := eq_true q6;obtain ⟨hy13_,hz13_⟩ := Kd.R_celln 0 HO411.out (a0_1 : Int) (odT (by first|(with_reducible assumption)|assumption)) (odT (by first|(with_reducible assumption)|assumption));have HP13 := Kd.R_putg HO411.out (a0_1 : Int) 1)|((with_reducible refine gate_store (t := 3) (p := 15) rfl ?_);(try (rw [drewN_self w10];generalize hq_ : World.drewN w10 _ = w10;have n0_ := As_ (Kd.R_at hq_ HO411.out);have n1_ := As_ (blk_at hq_ BK408.out);have n2_ := As_ (below_at hq_ HB.out);clear hq_ HO411 BK408 HB;have HO411 := n0_;have BK408 := n1_;have HB := n2_;clear n0_ n1_ n2_;(try (obtain ⟨hy13_,hz13_⟩ := Kd.R_celln 0 HO411.out (a0_1 : Int) (odT (by first|(with_reducible assumption)|assumption)) (odT (by first|(with_reducible assumption)|assumption))));(try (have HP13 := Kd.R_putg HO411.out (a0_1 : Int) 1))));refine store_event (t := 3) (p := 15) (v := ?vo_w14) (w1 := (w10.setCell ⟨go6,(a0_1 : Int).toNat,none⟩ (.int .i64 1))) ?hg ?ho ?hn ?hr ?_;(case ho => rfl);(case hg => rfl);(case hn => rfl);(case hr => go_simp <;> rfl);intro w14 hw;have hg : w10.grownBy w14 (some go6) := (by rw [hw];exact HP13.2);have hp_ : Kd.R (Kd.int .i64) 3 w14 w.heap.size (fun _ => True) (.slice (some ⟨go6,0,none⟩) y409.length co6) y412 := (by rw [hw,Ny412.out];exact HP13.1);clear HP13;have n0_ := As_ (blk_grown (g := gb408) (o := .cells #[.slice A0_0 l0_0.length c0_0,.int .i64 a0_1] 25 (0,0)) (by (with_reducible repeat (first|refine bkN ?_ _|refine bkD ?_|refine bkA ?_ _));exact BK408.out) hg (Kd.R_ne HO411.out BK408.out (by decide)));have n1_ := As_ (hp_);have n2_ := As_ ((by rw [hw];exact bwS (HB.out) GB6.out : Below w.heap.size w w14));clear BK408;clear HO411;clear HB;have BK408 := n0_;have HO411 := n1_;have HB := n2_;clear n0_ n1_ n2_;clear hg hw hp_;have hcz15_0 : w14.cell? ⟨gb408,0,none⟩ = some (.slice A0_0 l0_0.length c0_0) := (bkC BK408.out 0).trans rfl;have hcz15_1 : w14.cell? ⟨gb408,1,none⟩ = some (.int .i64 a0_1) := (bkC BK408.out 1).trans rfl;have hfz15_0 := bkF BK408.out 0;have hfz15_1 := bkF BK408.out 1)|((with_reducible refine gate_dst (N := 19) rfl ?_);refine Kd.R_lit (Kd.int .i64) _ 3 ?hg (N := 19) ?hd (xs := ([] : List Int)) (inner := []) (ok := fun _ => True) (okp := fun _ => True) ?hr ?hp (fun _ hk => hk) trivial (Below.refl _ _) (Nat.le_refl _) (by simp) ?_;(case hd => rfl);(case hg => rfl);(case hr => go_simp <;> rfl);(case hp => exact (Reps.none _ _));intro v414 w16 ho17 hb hg_ hnew_;clear hg_ hnew_;(first|rw [← Ny413.out] at ho17|(simp only [Int.reduceToNat] at ho17;rw [← Ny413.out] at ho17));have n0_ := As_ (Kd.R_elder' (by (with_reducible repeat (first|apply Kd.R_alloc|apply Kd.R_drewN|apply Kd.R_drew));exact HO411.out) (Kd.R_base ho17) hb);have n1_ := As_ (Kd.R_lower (Kd.R_new' ho17 (Kd.R_lt (by (with_reducible repeat (first|apply Kd.R_alloc|apply Kd.R_drewN|apply Kd.R_drew));exact HO411.out))) (bwZ (by repeat (first|(with_reducible first|exact HB.out|apply bwA|apply bwN|apply bwD|refine bwS ?_ GE408.out)|exact HB.out))));have n2_ := As_ (blk_below (g := gb408) (o := .cells #[.slice A0_0 l0_0.length c0_0,.int .i64 a0_1] 25 (0,0)) (by (with_reducible repeat (first|refine bkN ?_ _|refine bkD ?_|refine bkA ?_ _));exact BK408.out) hb);have n3_ := As_ (bwT (by repeat (first|(with_reducible first|exact HB.out|apply bwA|apply bwN|apply bwD|refine bwS ?_ GE408.out)|exact HB.out)) hb);clear HO411;clear BK408;clear HB;have HO411 := n0_;have HO415 := n1_;have BK408 := n2_;have HB := n3_;clear n0_ n1_ n2_ n3_;clear hb ho17;obtain ⟨Ao18,co18,eo18⟩ := Kd.R_slice HO415.out;subst eo18)|(go_at_call 84;(with_reducible refine (spec_reach.calls k _ _ l0_0 a0_1 a0_1 (fun k_ => some k_ = (.slice Ao18 y413.length co18 : Value).ownBlock) (.slice Ao18 y413.length co18) y413 t416 w _ ?side1 ?side2 ?side3 ?side4 A7.out).mono ?_);(case side1 => repeat (first|(with_reducible first|exact HB.out|apply bwA|apply bwN|apply bwD|refine bwS ?_ GE408.out)|exact HB.out));(case side2 => exact Kd.C_kept_came k58_heap HR0_0.out (by repeat (first|(with_reducible first|exact HB.out|apply bwA|apply bwN|apply bwD|refine bwS ?_ GE408.out)|exact HB.out)) (fun k_ hs_ => (fun e_ => Kd.R_base HO415.out k_ e_.symm) hs_));(case side3 => exact HC0_0.out);(case side4 => exact Kd.R_tight rfl HO415.out);rintro e w19 ⟨v417,rfl,ho0,hb,hkp⟩;have n0_ := As_ (blk_kept (by (with_reducible repeat (first|refine bkN ?_ _|refine bkD ?_|refine bkA ?_ _));exact BK408.out) hkp (fun hs_ => (fun e_ => (Kd.R_ne HO415.out BK408.out (by decide)) e_) hs_));have n1_ := As_ (Kd.R_mono (ok' := fun k_ => some k_ ≠ (v417 : Value).ownBlock) (Kd.R_keptB (HO411.out) hkp (fun k_ hk_ hs_ => (hk_.2) hs_)) (fun k_ hk_ => fun e_ => Or.elim (ho0.1 k_ e_.symm) (fun hs_ => hk_.2.1 hs_) (fun hn_ => Nat.not_le.2 hk_.2.2 hn_)));have n2_ := As_ (Kd.R_mono (ok' := fun k_ => some k_ ≠ (.slice (some ⟨go6,0,none⟩) y409.length co6 : Value).ownBlock) ho0 (fun k_ hk_ => Or.elim hk_ (fun hs_ => fun e_ => (((HO411.out).1 k_ e_.symm).2) hs_) (fun hn_ => (Kd.fresh' (Kd.R_lt (by (with_reducible repeat (first|apply Kd.R_alloc|apply Kd.R_drewN|apply Kd.R_drew));exact HO411.out)) k_ hn_))));have n3_ := As_ (hb);clear BK408;clear HO411;clear HB;clear HO415;have BK408 := n0_;have HO411 := n1_;have HO418 := n2_;have HB := n3_;clear n0_ n1_ n2_ n3_;(try clear hb);(try clear hkp);(try clear ho0)));try go_wp2_with (first|((with_reducible refine gate_dst (N := 1) rfl ?_);refine box_event ?hg (N := 1) ?hd (cs := #[.slice A0_0 l0_0.length c0_0,.int .i64 a0_1]) (t := 25) ?hr ?_;(case hd => rfl);(case hg => rfl);(case hr => go_simp <;> rfl);intro gb408 hg w8 hbox hb;have n0_ := As_ (bwT (by repeat (first|(with_reducible first|exact HB.out|apply bwA|apply bwN|apply bwD)|exact HB.out)) hb);have n1_ := As_ (hbox);have n2_ := As_ ((by rw [hg];exact (bwZ (by repeat (first|(with_reducible first|exact HB.out|apply bwA|apply bwN|apply bwD)|exact HB.out))) : w.heap.size ≤ gb408));have n3_ := As_ ((by rw [hg];exact (bwZ (by repeat (first|(with_reducible first|exact HB.out|apply bwA|apply bwN|apply bwD)|exact HB.out))) : w.heap.size ≤ gb408));clear HB;have HB := n0_;have BK408 := n1_;have GW408 := n2_;have GE408 := n3_;clear n0_ n1_ n2_ n3_;clear hb hbox hg;have hcz9_0 : w8.cell? ⟨gb408,0,none⟩ = some (.slice A0_0 l0_0.length c0_0) := (bkC BK408.out 0).trans rfl;have hcz9_1 : w8.cell? ⟨gb408,1,none⟩ = some (.int .i64 a0_1) := (bkC BK408.out 1).trans rfl;have hfz9_0 := bkF BK408.out 0;have hfz9_1 := bkF BK408.out 1)|((with_reducible refine gate_dst (N := 11) rfl ?_);refine Kd.R_make (Kd.int .i64) _ 3 rfl (N := 11) rfl 26 _ _ rfl (l0_0.length : Int) rfl rfl Try.underlying26 (.int .i64 0) 8 info3 rfl (by decide) (by omega) 0 (ok := fun _ => True) (okp := fun _ => True) rfl (fun _ hk => hk) trivial (odT (by first|(with_reducible assumption)|assumption)) (Nat.le_trans (Nat.mul_le_mul_right _ (odT (by first|(with_reducible assumption)|assumption) : (l0_0.length : Int).toNat ≤ 35184372088832)) (by omega)) (Below.refl _ _) (Nat.le_refl _) ?_;intro v410 w10 ho11 hb hg_ hnew_;clear hg_ hnew_;(first|rw [← Ny409.out] at ho11|(simp only [Int.reduceToNat] at ho11;rw [← Ny409.out] at ho11));have n0_ := As_ (Kd.R_lower ho11 (bwZ (by repeat (first|(with_reducible first|exact HB.out|apply bwA|apply bwN|apply bwD|refine bwS ?_ GE408.out)|exact HB.out))));have n1_ := As_ (blk_below (g := gb408) (o := .cells #[.slice A0_0 l0_0.length c0_0,.int .i64 a0_1] 25 (0,0)) (by (with_reducible repeat (first|refine bkN ?_ _|refine bkD ?_|refine bkA ?_ _));exact BK408.out) hb);have n2_ := As_ (bwT (by repeat (first|(with_reducible first|exact HB.out|apply bwA|apply bwN|apply bwD|refine bwS ?_ GE408.out)|exact HB.out)) hb);clear BK408;clear HB;have HO411 := n0_;have BK408 := n1_;have HB := n2_;clear n0_ n1_ n2_;clear hb ho11;have hcz12_0 : w10.cell? ⟨gb408,0,none⟩ = some (.slice A0_0 l0_0.length c0_0) := (bkC BK408.out 0).trans rfl;have hcz12_1 : w10.cell? ⟨gb408,1,none⟩ = some (.int .i64 a0_1) := (bkC BK408.out 1).trans rfl;have hfz12_0 := bkF BK408.out 0;have hfz12_1 := bkF BK408.out 1;have p6 : 0 ≤ (a0_1 : Int) := odT (by first|(with_reducible assumption)|assumption);have q6 : (a0_1 : Int) < ((y409.length : Int) : Int) := odT (by first|(with_reducible assumption)|assumption);obtain ⟨go6,co6,eo6,gb6,gl6,cl6,HG6⟩ := Kd.R_form HO411.out (by omega);(first|cases eo6|(injection eo6 with ea_ en_ ec_;(first|subst ea_|(injection ea_ with ea_;subst ea_));subst ec_;clear en_));have GB6 := As_ gb6;have GG6 := As_ HG6;clear gb6 gl6 HG6;obtain ⟨hx6_0,hf6_0⟩ := Kd.R_celln 0 HO411.out (a0_1 : Int) p6 q6;replace p6 := eq_true p6;replace q6 := eq_true q6;obtain ⟨hy13_,hz13_⟩ := Kd.R_celln 0 HO411.out (a0_1 : Int) (odT (by first|(with_reducible assumption)|assumption)) (odT (by first|(with_reducible assumption)|assumption));have HP13 := Kd.R_putg HO411.out (a0_1 : Int) 1)|((with_reducible refine gate_store (t := 3) (p := 15) rfl ?_);(try (rw [drewN_self w10];generalize hq_ : World.drewN w10 _ = w10;have n0_ := As_ (Kd.R_at hq_ HO411.out);have n1_ := As_ (blk_at hq_ BK408.out);have n2_ := As_ (below_at hq_ HB.out);clear hq_ HO411 BK408 HB;have HO411 := n0_;have BK408 := n1_;have HB := n2_;clear n0_ n1_ n2_;(try (obtain ⟨hy13_,hz13_⟩ := Kd.R_celln 0 HO411.out (a0_1 : Int) (odT (by first|(with_reducible assumption)|assumption)) (odT (by first|(with_reducible assumption)|assumption))));(try (have HP13 := Kd.R_putg HO411.out (a0_1 : Int) 1))));refine store_event (t := 3) (p := 15) (v := ?vo_w14) (w1 := (w10.setCell ⟨go6,(a0_1 : Int).toNat,none⟩ (.int .i64 1))) ?hg ?ho ?hn ?hr ?_;(case ho => rfl);(case hg => rfl);(case hn => rfl);(case hr => go_simp <;> rfl);intro w14 hw;have hg : w10.grownBy w14 (some go6) := (by rw [hw];exact HP13.2);have hp_ : Kd.R (Kd.int .i64) 3 w14 w.heap.size (fun _ => True) (.slice (some ⟨go6,0,none⟩) y409.length co6) y412 := (by rw [hw,Ny412.out];exact HP13.1);clear HP13;have n0_ := As_ (blk_grown (g := gb408) (o := .cells #[.slice A0_0 l0_0.length c0_0,.int .i64 a0_1] 25 (0,0)) (by (with_reducible repeat (first|refine bkN ?_ _|refine bkD ?_|refine bkA ?_ _));exact BK408.out) hg (Kd.R_ne HO411.out BK408.out (by decide)));have n1_ := As_ (hp_);have n2_ := As_ ((by rw [hw];exact bwS (HB.out) GB6.out : Below w.heap.size w w14));clear BK408;clear HO411;clear HB;have BK408 := n0_;have HO411 := n1_;have HB := n2_;clear n0_ n1_ n2_;clear hg hw hp_;have hcz15_0 : w14.cell? ⟨gb408,0,none⟩ = some (.slice A0_0 l0_0.length c0_0) := (bkC BK408.out 0).trans rfl;have hcz15_1 : w14.cell? ⟨gb408,1,none⟩ = some (.int .i64 a0_1) := (bkC BK408.out 1).trans rfl;have hfz15_0 := bkF BK408.out 0;have hfz15_1 := bkF BK408.out 1)|((with_reducible refine gate_dst (N := 19) rfl ?_);refine Kd.R_lit (Kd.int .i64) _ 3 ?hg (N := 19) ?hd (xs := ([] : List Int)) (inner := []) (ok := fun _ => True) (okp := fun _ => True) ?hr ?hp (fun _ hk => hk) trivial (Below.refl _ _) (Nat.le_refl _) (by simp) ?_;(case hd => rfl);(case hg => rfl);(case hr => go_simp <;> rfl);(case hp => exact (Reps.none _ _));intro v414 w16 ho17 hb hg_ hnew_;clear hg_ hnew_;(first|rw [← Ny413.out] at ho17|(simp only [Int.reduceToNat] at ho17;rw [← Ny413.out] at ho17));have n0_ := As_ (Kd.R_elder' (by (with_reducible repeat (first|apply Kd.R_alloc|apply Kd.R_drewN|apply Kd.R_drew));exact HO411.out) (Kd.R_base ho17) hb);have n1_ := As_ (Kd.R_lower (Kd.R_new' ho17 (Kd.R_lt (by (with_reducible repeat (first|apply Kd.R_alloc|apply Kd.R_drewN|apply Kd.R_drew));exact HO411.out))) (bwZ (by repeat (first|(with_reducible first|exact HB.out|apply bwA|apply bwN|apply bwD|refine bwS ?_ GE408.out)|exact HB.out))));have n2_ := As_ (blk_below (g := gb408) (o := .cells #[.slice A0_0 l0_0.length c0_0,.int .i64 a0_1] 25 (0,0)) (by (with_reducible repeat (first|refine bkN ?_ _|refine bkD ?_|refine bkA ?_ _));exact BK408.out) hb);have n3_ := As_ (bwT (by repeat (first|(with_reducible first|exact HB.out|apply bwA|apply bwN|apply bwD|refine bwS ?_ GE408.out)|exact HB.out)) hb);clear HO411;clear BK408;clear HB;have HO411 := n0_;have HO415 := n1_;have BK408 := n2_;have HB := n3_;clear n0_ n1_ n2_ n3_;clear hb ho17;obtain ⟨Ao18,co18,eo18⟩ := Kd.R_slice HO415.out;subst eo18)|(go_at_call 84;(with_reducible refine (spec_reach.calls k _ _ l0_0 a0_1 a0_1 (fun k_ => some k_ = (.slice Ao18 y413.length co18 : Value).ownBlock) (.slice Ao18 y413.length co18) y413 t416 w _ ?side1 ?side2 ?side3 ?side4 A7.out).mono ?_);(case side1 => repeat (first|(with_reducible first|exact HB.out|apply bwA|apply bwN|apply bwD|refine bwS ?_ GE408.out)|exact HB.out));(case side2 => exact Kd.C_kept_came k58_heap HR0_0.out (by repeat (first|(with_reducible first|exact HB.out|apply bwA|apply bwN|apply bwD|refine bwS ?_ GE408.out)|exact HB.out)) (fun k_ hs_ => (fun e_ => Kd.R_base HO415.out k_ e_.symm) hs_));(case side3 => exact HC0_0.out);(case side4 => exact Kd.R_tight rfl HO415.out);rintro e w19 ⟨v417,rfl,ho0,hb,hkp⟩;have n0_ := As_ (blk_kept (by (with_reducible repeat (first|refine bkN ?_ _|refine bkD ?_|refine bkA ?_ _));exact BK408.out) hkp (fun hs_ => (fun e_ => (Kd.R_ne HO415.out BK408.out (by decide)) e_) hs_));have n1_ := As_ (Kd.R_mono (ok' := fun k_ => some k_ ≠ (v417 : Value).ownBlock) (Kd.R_keptB (HO411.out) hkp (fun k_ hk_ hs_ => (hk_.2) hs_)) (fun k_ hk_ => fun e_ => Or.elim (ho0.1 k_ e_.symm) (fun hs_ => hk_.2.1 hs_) (fun hn_ => Nat.not_le.2 hk_.2.2 hn_)));have n2_ := As_ (Kd.R_mono (ok' := fun k_ => some k_ ≠ (.slice (some ⟨go6,0,none⟩) y409.length co6 : Value).ownBlock) ho0 (fun k_ hk_ => Or.elim hk_ (fun hs_ => fun e_ => (((HO411.out).1 k_ e_.symm).2) hs_) (fun hn_ => (Kd.fresh' (Kd.R_lt (by (with_reducible repeat (first|apply Kd.R_alloc|apply Kd.R_drewN|apply Kd.R_drew));exact HO411.out)) k_ hn_))));have n3_ := As_ (hb);clear BK408;clear HO411;clear HB;clear HO415;have BK408 := n0_;have HO411 := n1_;have HO418 := n2_;have HB := n3_;clear n0_ n1_ n2_ n3_;(try clear hb);(try clear hkp);(try clear ho0))))
 go_loopg [5] k (fun kq v5 w' => ∃ (x3_1 : List Int) (x5_1 : Int),v5 = .int .i64 x5_1 ∧ Aside0 (spec_uses.l0 kq x3_1 t416 x5_1 l0_0 a0_1 = some r) ∧ Aside0 (kq ≤ k) ∧ Aside0 (Kd.R (Kd.int .i64) 3 w' w.heap.size (fun k_ => some k_ ≠ (v417 : Value).ownBlock) (.slice (some ⟨go6,0,none⟩) y409.length co6) x3_1) ∧ Aside0 (Kd.R (Kd.int .i64) 3 w' w.heap.size (fun k_ => some k_ ≠ ((.slice (some ⟨go6,0,none⟩) y409.length co6) : Value).ownBlock) v417 t416) ∧ Aside0 (w'.heap[gb408]? = some (.cells #[(.slice A0_0 l0_0.length c0_0),.int .i64 a0_1] 25 (0,0))) ∧ Aside0 (Below w.heap.size w w'))
 case atStart => exact ⟨(y412),(0),(by first|rfl|(simp;done)|(simp [*];done)),H',⟨Nat.le_refl _⟩,⟨by (with_reducible repeat (first|apply Kd.R_alloc|apply Kd.R_drewN|apply Kd.R_drew));exact HO411.out⟩,⟨by (with_reducible repeat (first|apply Kd.R_alloc|apply Kd.R_drewN|apply Kd.R_drew));exact HO418.out⟩,⟨by (with_reducible repeat (first|refine bkN ?_ _|refine bkD ?_|refine bkA ?_ _));exact BK408.out⟩,⟨by repeat (first|(with_reducible first|exact HB.out|apply bwA|apply bwN|apply bwD|refine bwS ?_ GE408.out)|exact HB.out)⟩⟩
 case round =>
  clear H'
  try clear c2
  try clear c2b0
  try clear c2b1
  try clear p2
  try clear c3
  try clear c3b0
  try clear c3b1
  try clear c4
  try clear c4b0
  try clear c5
  try clear c5b0
  try clear p6
  try clear q6
  try clear hx6
  try clear hf6
  try clear hcz12_0
  try clear hcz12_1
  try clear hcz15_0
  try clear hcz15_1
  try clear hcz9_0
  try clear hcz9_1
  try clear hfz12_0
  try clear hfz12_1
  try clear hfz15_0
  try clear hfz15_1
  try clear hfz9_0
  try clear hfz9_1
  try clear hx6_0
  try clear p6
  try clear q6
  obtain ⟨x3_1,x5_1,rfl,HA,HK1,HO_3,HO_4,BK408,HB⟩ := hrel
  have hl3_1 := (Kd.R_reads' HO_3.out).1
  rw [hl3_1] at HO_3
  (try simp only [hl3_1])
  (try simp only [hl3_1] at BK408)
  (try simp only [hl3_1] at HO_4)
  cases gk with
  | zero => exact absurd HA.out (fun h_ => (by cases h_))
  | succ k1 =>
   have H := HA.out
   clear HA
   simp only [spec_uses.l0] at H
   by_cases c20 : x5_1 < (t416.length : Int)
   ·rw [if_pos c20] at H
    have c20b0 : decide (x5_1 < (t416.length : Int)) = true := deT c20
    clear c20
    have H' := As_ H
    clear H
    obtain ⟨Ao21,co21,eo21⟩ := Kd.R_slice HO_4.out
    subst eo21
    go_wp2
    repeat (go_quiet (fail);try go_wp2)
    go_loopg [6] k1 (fun kq v6 w' => ∃ (x3_2 : List Int) (x6_2 : Int),v6 = .int .i64 x6_2 ∧ Aside0 (spec_uses.l1 kq x3_2 t416 x5_1 x6_2 l0_0 a0_1 = some r) ∧ Aside0 (kq ≤ k1) ∧ Aside0 (Kd.R (Kd.int .i64) 3 w' w.heap.size (fun k_ => some k_ ≠ ((.slice Ao21 t416.length co21) : Value).ownBlock) (.slice (some ⟨go6,0,none⟩) x3_1.length co6) x3_2) ∧ Aside0 (Kd.R (Kd.int .i64) 3 w' w.heap.size (fun k_ => some k_ ≠ ((.slice (some ⟨go6,0,none⟩) x3_1.length co6) : Value).ownBlock) (.slice Ao21 t416.length co21) t416) ∧ Aside0 (w'.heap[gb408]? = some (.cells #[(.slice A0_0 l0_0.length c0_0),.int .i64 a0_1] 25 (0,0))) ∧ Aside0 (Below w.heap.size w w'))
    case atStart => exact ⟨(x3_1),(0),(by first|rfl|(simp;done)|(simp [*];done)),H',⟨Nat.le_refl _⟩,⟨by (try simp only [hl3_1]);(with_reducible repeat (first|apply Kd.R_alloc|apply Kd.R_drewN|apply Kd.R_drew));exact HO_3.out⟩,⟨by (try simp only [hl3_1]);(with_reducible repeat (first|apply Kd.R_alloc|apply Kd.R_drewN|apply Kd.R_drew));exact HO_4.out⟩,⟨by (try simp only [hl3_1]);(with_reducible repeat (first|refine bkN ?_ _|refine bkD ?_|refine bkA ?_ _));exact BK408.out⟩,⟨by repeat (first|(with_reducible first|exact HB.out|apply bwA|apply bwN|apply bwD|refine bwS ?_ GE408.out)|exact HB.out)⟩⟩
    case round =>
     clear H'
     try clear c2
     try clear c2b0
     try clear c2b1
     try clear p2
     try clear c3
     try clear c3b0
     try clear c3b1
     try clear c4
     try clear c4b0
     try clear c5
     try clear c5b0
     try clear p6
     try clear q6
     try clear hx6
     try clear hf6
     try clear c20
     try clear c20b0
     try clear hcz12_0
     try clear hcz12_1
     try clear hcz15_0
     try clear hcz15_1
     try clear hcz9_0
     try clear hcz9_1
     try clear hfz12_0
     try clear hfz12_1
     try clear hfz15_0
     try clear hfz15_1
     try clear hfz9_0
     try clear hfz9_1
     try clear hx6_0
     try clear p2
     try clear p6
     try clear q6
     obtain ⟨x3_2,x6_2,rfl,HA,HK2,HO_3,HO_4,BK408,HB⟩ := hrel
     have hl3_2 := (Kd.R_reads' HO_3.out).1
     rw [hl3_2] at HO_3
     (try simp only [hl3_2])
     (try simp only [hl3_2] at BK408)
     (try simp only [hl3_2] at HO_4)
     cases gk with
     | zero => exact absurd HA.out (fun h_ => (by cases h_))
     | succ k2 =>
      have H := HA.out
      clear HA
      simp only [spec_uses.l1] at H
      by_cases c22 : 0 ≤ x5_1
      rotate_left
      ·rw [if_neg c22] at H
       exact absurd H (by simp)
      rw [if_pos c22] at H
      have c22b0 : decide (0 ≤ x5_1) = true := deT c22
      clear c22
      by_cases c23 : x5_1 < (t416.length : Int)
      rotate_left
      ·rw [if_neg c23] at H
       exact absurd H (by simp)
      rw [if_pos c23] at H
      have c23b0 : decide (x5_1 < (t416.length : Int)) = true := deT c23
      clear c23
      by_cases c24 : 0 ≤ (rd t416 x5_1)
      rotate_left
      ·rw [if_neg c24] at H
       exact absurd H (by simp)
      rw [if_pos c24] at H
      have c24b0 : decide (0 ≤ (rd t416 x5_1)) = true := deT c24
      clear c24
      by_cases c25 : (rd t416 x5_1) < (l0_0.length : Int)
      rotate_left
      ·rw [if_neg c25] at H
       exact absurd H (by simp)
      rw [if_pos c25] at H
      have c25b0 : decide ((rd t416 x5_1) < (l0_0.length : Int)) = true := deT c25
      clear c25
      by_cases c26 : x6_2 < (((rd_T58 l0_0 (rd t416 x5_1)).f2).length : Int)
      ·rw [if_pos c26] at H
       have c26b0 : decide (x6_2 < (((rd_T58 l0_0 (rd t416 x5_1)).f2).length : Int)) = true := deT c26
       clear c26
       by_cases c27 : 0 ≤ x6_2
       rotate_left
       ·rw [if_neg c27] at H
        exact absurd H (by simp)
       rw [if_pos c27] at H
       have c27b0 : decide (0 ≤ x6_2) = true := deT c27
       clear c27
       by_cases c28 : 0 ≤ (rd ((rd_T58 l0_0 (rd t416 x5_1)).f2) x6_2)
       rotate_left
       ·rw [if_neg c28] at H
        exact absurd H (by simp)
       rw [if_pos c28] at H
       have c28b0 : decide (0 ≤ (rd ((rd_T58 l0_0 (rd t416 x5_1)).f2) x6_2)) = true := deT c28
       clear c28
       by_cases c29 : (rd ((rd_T58 l0_0 (rd t416 x5_1)).f2) x6_2) < (x3_2.length : Int)
       rotate_left
       ·rw [if_neg c29] at H
        exact absurd H (by simp)
       rw [if_pos c29] at H
       have c29b0 : decide ((rd ((rd_T58 l0_0 (rd t416 x5_1)).f2) x6_2) < (x3_2.length : Int)) = true := deT c29
       clear c29
       obtain ⟨y425,hy425⟩ : ∃ y_ : List Int,y_ = (x3_2.set ((rd ((rd_T58 l0_0 (rd t416 x5_1)).f2) x6_2) : Int).toNat (wrap64 ((rd x3_2 (rd ((rd_T58 l0_0 (rd t416 x5_1)).f2) x6_2)) + 1))) := ⟨_,rfl⟩
       replace H : (spec_uses.l1 k2 y425 t416 x5_1 (wrap64 (x6_2 + 1)) l0_0 a0_1) = some r := by first|(rw [hy425];with_reducible exact H)|(have H2_ := (Option.bind_some _ _).symm.trans H;rw [hy425];with_reducible exact H2_)|(have H2_ := (Option.bind_some _ _).symm.trans H;with_reducible exact H2_)|with_reducible exact H|(rw [hy425];exact H)|exact H
       have Ny425 := As_ hy425
       clear hy425
       have H' := As_ H
       clear H
       have hcz31_0 : wr.cell? ⟨gb408,0,none⟩ = some (.slice A0_0 l0_0.length c0_0) := (bkC BK408.out 0).trans rfl
       have hcz31_1 : wr.cell? ⟨gb408,1,none⟩ = some (.int .i64 a0_1) := (bkC BK408.out 1).trans rfl
       have hfz31_0 := bkF BK408.out 0
       have hfz31_1 := bkF BK408.out 1
       have p419 : 0 ≤ (x5_1 : Int) := odT (by first|(with_reducible assumption)|assumption)
       have q419 : x5_1 < (t416.length : Int) := odT (by first|(with_reducible assumption)|assumption)
       obtain ⟨ad419,e419,hx419_0⟩ := Kd.at_int (Kd.R_reads' HO_4.out).2.2 x5_1 p419 q419
       cases e419
       replace p419 := eq_true p419
       replace q419 := eq_true q419
       have p420 : 0 ≤ ((rd t416 x5_1) : Int) := odT (by first|(with_reducible assumption)|assumption)
       have q420 : (rd t416 x5_1) < (l0_0.length : Int) := odT (by first|(with_reducible assumption)|assumption)
       obtain ⟨ad420,A420_2,c420_2,e420,hx420_0,hx420_1,hx420_2,hl420_2,hi420_2⟩ := at_T58 HR0_0.out (rd t416 x5_1) p420 q420
       cases e420
       replace hx420_0 := (HB.out.cell (bwL w _ hx420_0)).trans hx420_0
       replace hx420_1 := (HB.out.cell (bwL w _ hx420_1)).trans hx420_1
       replace hx420_2 := (HB.out.cell (bwL w _ hx420_2)).trans hx420_2
       have HR420_2 := As_ hi420_2
       have HC420_2 := As_ hl420_2
       clear hi420_2 hl420_2
       replace p420 := eq_true p420
       replace q420 := eq_true q420
       have p421 : 0 ≤ (x5_1 : Int) := odT (by first|(with_reducible assumption)|assumption)
       have q421 : x5_1 < (t416.length : Int) := odT (by first|(with_reducible assumption)|assumption)
       obtain ⟨ad421,e421,hx421_0⟩ := Kd.at_int (Kd.R_reads' HO_4.out).2.2 x5_1 p421 q421
       obtain rfl : ad419 = ad421 := (by injection e421)
       replace p421 := eq_true p421
       replace q421 := eq_true q421
       have p422 : 0 ≤ ((rd t416 x5_1) : Int) := odT (by first|(with_reducible assumption)|assumption)
       have q422 : (rd t416 x5_1) < (l0_0.length : Int) := odT (by first|(with_reducible assumption)|assumption)
       obtain ⟨ad422,A422_2,c422_2,e422,hx422_0,hx422_1,hx422_2,hl422_2,hi422_2⟩ := at_T58 HR0_0.out (rd t416 x5_1) p422 q422
       obtain rfl : ad420 = ad422 := (by injection e422)
       replace hx422_0 := (HB.out.cell (bwL w _ hx422_0)).trans hx422_0
       replace hx422_1 := (HB.out.cell (bwL w _ hx422_1)).trans hx422_1
       replace hx422_2 := (HB.out.cell (bwL w _ hx422_2)).trans hx422_2
       have HR422_2 := As_ hi422_2
       have HC422_2 := As_ hl422_2
       clear hi422_2 hl422_2
       replace p422 := eq_true p422
       replace q422 := eq_true q422
       have ea_ := Option.some.inj (hx420_2.symm.trans hx422_2)
       injection ea_ with ea_ en_ ec_
       subst ea_
       subst ec_
       clear en_
       have p423 : 0 ≤ (x6_2 : Int) := odT (by first|(with_reducible assumption)|assumption)
       have q423 : x6_2 < (((rd_T58 l0_0 (rd t416 x5_1)).f2).length : Int) := odT (by first|(with_reducible assumption)|assumption)
       obtain ⟨ad423,e423,hx423_0⟩ := Kd.at_int HR422_2.out x6_2 p423 q423
       cases e423
       replace hx423_0 := (HB.out.cell (bwL w _ hx423_0)).trans hx423_0
       replace p423 := eq_true p423
       replace q423 := eq_true q423
       have p424 : 0 ≤ ((rd ((rd_T58 l0_0 (rd t416 x5_1)).f2) x6_2) : Int) := odT (by first|(with_reducible assumption)|assumption)
       have q424 : (rd ((rd_T58 l0_0 (rd t416 x5_1)).f2) x6_2) < (x3_2.length : Int) := odT (by first|(with_reducible assumption)|assumption)
       obtain ⟨ad424,e424,hx424_0⟩ := Kd.at_int (Kd.R_reads' HO_3.out).2.2 (rd ((rd_T58 l0_0 (rd t416 x5_1)).f2) x6_2) p424 q424
       obtain rfl : (⟨go6,0,none⟩ : Addr) = ad424 := (by injection e424)
       (first|simp only [add_plain] at hx424_0|simp only [add_at] at hx424_0|simp only [Addr.add,Nat.zero_add] at hx424_0|skip)
       replace p424 := eq_true p424
       replace q424 := eq_true q424
       have p30 : 0 ≤ ((rd ((rd_T58 l0_0 (rd t416 x5_1)).f2) x6_2) : Int) := odT (by first|(with_reducible assumption)|assumption)
       have q30 : ((rd ((rd_T58 l0_0 (rd t416 x5_1)).f2) x6_2) : Int) < ((x3_2.length : Int) : Int) := odT (by first|(with_reducible assumption)|assumption)
       obtain ⟨hx30_0,hf30_0⟩ := Kd.R_celln 0 HO_3.out ((rd ((rd_T58 l0_0 (rd t416 x5_1)).f2) x6_2) : Int) p30 q30
       replace p30 := eq_true p30
       replace q30 := eq_true q30
       have HP32 := Kd.R_putg HO_3.out ((rd ((rd_T58 l0_0 (rd t416 x5_1)).f2) x6_2) : Int) (wrap64 ((rd x3_2 (rd ((rd_T58 l0_0 (rd t416 x5_1)).f2) x6_2)) + 1))
       go_wp2_with (first|((with_reducible refine gate_store (t := 3) (p := 60) rfl ?_);(try (rw [drewN_self wr];generalize hq_ : World.drewN wr _ = wr;have n0_ := As_ (Kd.R_at hq_ HO_3.out);have n1_ := As_ (Kd.R_at hq_ HO_4.out);have n2_ := As_ (blk_at hq_ BK408.out);have n3_ := As_ (below_at hq_ HB.out);clear hq_ HO_3 HO_4 BK408 HB;have HO_3 := n0_;have HO_4 := n1_;have BK408 := n2_;have HB := n3_;clear n0_ n1_ n2_ n3_;(try (obtain ⟨hx30_0,hf30_0⟩ := Kd.R_celln 0 HO_3.out ((rd ((rd_T58 l0_0 (rd t416 x5_1)).f2) x6_2) : Int) (of_eq_true p30) (of_eq_true q30)));(try (have HP32 := Kd.R_putg HO_3.out ((rd ((rd_T58 l0_0 (rd t416 x5_1)).f2) x6_2) : Int) (wrap64 ((rd x3_2 (rd ((rd_T58 l0_0 (rd t416 x5_1)).f2) x6_2)) + 1))))));refine store_event (t := 3) (p := 60) (v := ?vo_w33) (w1 := (wr.setCell ⟨go6,((rd ((rd_T58 l0_0 (rd t416 x5_1)).f2) x6_2) : Int).toNat,none⟩ (.int .i64 (wrap64 ((rd x3_2 (rd ((rd_T58 l0_0 (rd t416 x5_1)).f2) x6_2)) + 1))))) ?hg ?ho ?hn ?hr ?_;(case ho => rfl);(case hg => rfl);(case hn => rfl);(case hr => go_simp <;> rfl);intro w33 hw;have hg : wr.grownBy w33 (some go6) := (by rw [hw];exact HP32.2);have hp_ : Kd.R (Kd.int .i64) 3 w33 w.heap.size (fun k_ => some k_ ≠ (.slice (some ad419) t416.length co21 : Value).ownBlock) (.slice (some ⟨go6,0,none⟩) x3_2.length co6) y425 := (by rw [hw,Ny425.out];exact HP32.1);clear HP32;have n0_ := As_ (hp_);have n1_ := As_ (Kd.R_after (v := (.slice (some ⟨go6,0,none⟩) x3_2.length co6)) (v1 := (.slice (some ⟨go6,0,none⟩) x3_2.length co6)) (ok := (fun _ => True)) (by (with_reducible repeat (first|apply Kd.R_alloc|apply Kd.R_drewN|apply Kd.R_drew));exact Kd.R_mono HO_4.out (fun _ hk => ⟨trivial,hk⟩)) hg (.inl rfl));have n2_ := As_ (blk_grown (g := gb408) (o := .cells #[.slice (some ad420) l0_0.length c0_0,.int .i64 a0_1] 25 (0,0)) (by (with_reducible repeat (first|refine bkN ?_ _|refine bkD ?_|refine bkA ?_ _));exact BK408.out) hg (Kd.R_ne HO_3.out BK408.out (by decide)));have n3_ := As_ ((by rw [hw];exact bwS (HB.out) GB6.out : Below w.heap.size w w33));clear HO_3;clear HO_4;clear BK408;clear HB;have HO_3 := n0_;have HO_4 := n1_;have BK408 := n2_;have HB := n3_;clear n0_ n1_ n2_ n3_;clear hg hw hp_))
       repeat (go_quiet (first|((with_reducible refine gate_store (t := 3) (p := 60) rfl ?_);(try (rw [drewN_self wr];generalize hq_ : World.drewN wr _ = wr;have n0_ := As_ (Kd.R_at hq_ HO_3.out);have n1_ := As_ (Kd.R_at hq_ HO_4.out);have n2_ := As_ (blk_at hq_ BK408.out);have n3_ := As_ (below_at hq_ HB.out);clear hq_ HO_3 HO_4 BK408 HB;have HO_3 := n0_;have HO_4 := n1_;have BK408 := n2_;have HB := n3_;clear n0_ n1_ n2_ n3_;(try (obtain ⟨hx30_0,hf30_0⟩ := Kd.R_celln 0 HO_3.out ((rd ((rd_T58 l0_0 (rd t416 x5_1)).f2) x6_2) : Int) (of_eq_true p30) (of_eq_true q30)));(try (have HP32 := Kd.R_putg HO_3.out ((rd ((rd_T58 l0_0 (rd t416 x5_1)).f2) x6_2) : Int) (wrap64 ((rd x3_2 (rd ((rd_T58 l0_0 (rd t416 x5_1)).f2) x6_2)) + 1))))));refine store_event (t := 3) (p := 60) (v := ?vo_w33) (w1 := (wr.setCell ⟨go6,((rd ((rd_T58 l0_0 (rd t416 x5_1)).f2) x6_2) : Int).toNat,none⟩ (.int .i64 (wrap64 ((rd x3_2 (rd ((rd_T58 l0_0 (rd t416 x5_1)).f2) x6_2)) + 1))))) ?hg ?ho ?hn ?hr ?_;(case ho => rfl);(case hg => rfl);(case hn => rfl);(case hr => go_simp <;> rfl);intro w33 hw;have hg : wr.grownBy w33 (some go6) := (by rw [hw];exact HP32.2);have hp_ : Kd.R (Kd.int .i64) 3 w33 w.heap.size (fun k_ => some k_ ≠ (.slice (some ad419) t416.length co21 : Value).ownBlock) (.slice (some ⟨go6,0,none⟩) x3_2.length co6) y425 := (by rw [hw,Ny425.out];exact HP32.1);clear HP32;have n0_ := As_ (hp_);have n1_ := As_ (Kd.R_after (v := (.slice (some ⟨go6,0,none⟩) x3_2.length co6)) (v1 := (.slice (some ⟨go6,0,none⟩) x3_2.length co6)) (ok := (fun _ => True)) (by (with_reducible repeat (first|apply Kd.R_alloc|apply Kd.R_drewN|apply Kd.R_drew));exact Kd.R_mono HO_4.out (fun _ hk => ⟨trivial,hk⟩)) hg (.inl rfl));have n2_ := As_ (blk_grown (g := gb408) (o := .cells #[.slice (some ad420) l0_0.length c0_0,.int .i64 a0_1] 25 (0,0)) (by (with_reducible repeat (first|refine bkN ?_ _|refine bkD ?_|refine bkA ?_ _));exact BK408.out) hg (Kd.R_ne HO_3.out BK408.out (by decide)));have n3_ := As_ ((by rw [hw];exact bwS (HB.out) GB6.out : Below w.heap.size w w33));clear HO_3;clear HO_4;clear BK408;clear HB;have HO_3 := n0_;have HO_4 := n1_;have BK408 := n2_;have HB := n3_;clear n0_ n1_ n2_ n3_;clear hg hw hp_));try go_wp2_with (first|((with_reducible refine gate_store (t := 3) (p := 60) rfl ?_);(try (rw [drewN_self wr];generalize hq_ : World.drewN wr _ = wr;have n0_ := As_ (Kd.R_at hq_ HO_3.out);have n1_ := As_ (Kd.R_at hq_ HO_4.out);have n2_ := As_ (blk_at hq_ BK408.out);have n3_ := As_ (below_at hq_ HB.out);clear hq_ HO_3 HO_4 BK408 HB;have HO_3 := n0_;have HO_4 := n1_;have BK408 := n2_;have HB := n3_;clear n0_ n1_ n2_ n3_;(try (obtain ⟨hx30_0,hf30_0⟩ := Kd.R_celln 0 HO_3.out ((rd ((rd_T58 l0_0 (rd t416 x5_1)).f2) x6_2) : Int) (of_eq_true p30) (of_eq_true q30)));(try (have HP32 := Kd.R_putg HO_3.out ((rd ((rd_T58 l0_0 (rd t416 x5_1)).f2) x6_2) : Int) (wrap64 ((rd x3_2 (rd ((rd_T58 l0_0 (rd t416 x5_1)).f2) x6_2)) + 1))))));refine store_event (t := 3) (p := 60) (v := ?vo_w33) (w1 := (wr.setCell ⟨go6,((rd ((rd_T58 l0_0 (rd t416 x5_1)).f2) x6_2) : Int).toNat,none⟩ (.int .i64 (wrap64 ((rd x3_2 (rd ((rd_T58 l0_0 (rd t416 x5_1)).f2) x6_2)) + 1))))) ?hg ?ho ?hn ?hr ?_;(case ho => rfl);(case hg => rfl);(case hn => rfl);(case hr => go_simp <;> rfl);intro w33 hw;have hg : wr.grownBy w33 (some go6) := (by rw [hw];exact HP32.2);have hp_ : Kd.R (Kd.int .i64) 3 w33 w.heap.size (fun k_ => some k_ ≠ (.slice (some ad419) t416.length co21 : Value).ownBlock) (.slice (some ⟨go6,0,none⟩) x3_2.length co6) y425 := (by rw [hw,Ny425.out];exact HP32.1);clear HP32;have n0_ := As_ (hp_);have n1_ := As_ (Kd.R_after (v := (.slice (some ⟨go6,0,none⟩) x3_2.length co6)) (v1 := (.slice (some ⟨go6,0,none⟩) x3_2.length co6)) (ok := (fun _ => True)) (by (with_reducible repeat (first|apply Kd.R_alloc|apply Kd.R_drewN|apply Kd.R_drew));exact Kd.R_mono HO_4.out (fun _ hk => ⟨trivial,hk⟩)) hg (.inl rfl));have n2_ := As_ (blk_grown (g := gb408) (o := .cells #[.slice (some ad420) l0_0.length c0_0,.int .i64 a0_1] 25 (0,0)) (by (with_reducible repeat (first|refine bkN ?_ _|refine bkD ?_|refine bkA ?_ _));exact BK408.out) hg (Kd.R_ne HO_3.out BK408.out (by decide)));have n3_ := As_ ((by rw [hw];exact bwS (HB.out) GB6.out : Below w.heap.size w w33));clear HO_3;clear HO_4;clear BK408;clear HB;have HO_3 := n0_;have HO_4 := n1_;have BK408 := n2_;have HB := n3_;clear n0_ n1_ n2_ n3_;clear hg hw hp_)))
       (try simp only [← hl3_2])
       go_roundg k2
       case measure => have := HK1.out;have := HK2.out;omega
       case rel => exact ⟨(y425),(wrap64 (x6_2 + 1)),(by first|rfl|(simp;done)|(simp [*];done)),H',⟨by have := HK1.out;have := HK2.out;omega⟩,⟨by (try simp only [hl3_1]);(try simp only [hl3_2]);(with_reducible repeat (first|apply Kd.R_alloc|apply Kd.R_drewN|apply Kd.R_drew));exact HO_3.out⟩,⟨by (try simp only [hl3_1]);(try simp only [hl3_2]);(with_reducible repeat (first|apply Kd.R_alloc|apply Kd.R_drewN|apply Kd.R_drew));exact Kd.R_mono HO_4.out (fun _ hk => hk.2)⟩,⟨by (try simp only [hl3_1]);(try simp only [hl3_2]);(with_reducible repeat (first|refine bkN ?_ _|refine bkD ?_|refine bkA ?_ _));exact BK408.out⟩,⟨by repeat (first|(with_reducible first|exact HB.out|apply bwA|apply bwN|apply bwD|refine bwS ?_ GE408.out)|exact HB.out)⟩⟩
      ·rw [if_neg c26] at H
       have c26b0 : decide (x6_2 < (((rd_T58 l0_0 (rd t416 x5_1)).f2).length : Int)) = false := deF c26
       clear c26
       have H' := As_ H
       clear H
       have hcz34_0 : wr.cell? ⟨gb408,0,none⟩ = some (.slice A0_0 l0_0.length c0_0) := (bkC BK408.out 0).trans rfl
       have hcz34_1 : wr.cell? ⟨gb408,1,none⟩ = some (.int .i64 a0_1) := (bkC BK408.out 1).trans rfl
       have hfz34_0 := bkF BK408.out 0
       have hfz34_1 := bkF BK408.out 1
       have p419 : 0 ≤ (x5_1 : Int) := odT (by first|(with_reducible assumption)|assumption)
       have q419 : x5_1 < (t416.length : Int) := odT (by first|(with_reducible assumption)|assumption)
       obtain ⟨ad419,e419,hx419_0⟩ := Kd.at_int (Kd.R_reads' HO_4.out).2.2 x5_1 p419 q419
       cases e419
       replace p419 := eq_true p419
       replace q419 := eq_true q419
       have p420 : 0 ≤ ((rd t416 x5_1) : Int) := odT (by first|(with_reducible assumption)|assumption)
       have q420 : (rd t416 x5_1) < (l0_0.length : Int) := odT (by first|(with_reducible assumption)|assumption)
       obtain ⟨ad420,A420_2,c420_2,e420,hx420_0,hx420_1,hx420_2,hl420_2,hi420_2⟩ := at_T58 HR0_0.out (rd t416 x5_1) p420 q420
       cases e420
       replace hx420_0 := (HB.out.cell (bwL w _ hx420_0)).trans hx420_0
       replace hx420_1 := (HB.out.cell (bwL w _ hx420_1)).trans hx420_1
       replace hx420_2 := (HB.out.cell (bwL w _ hx420_2)).trans hx420_2
       have HR420_2 := As_ hi420_2
       have HC420_2 := As_ hl420_2
       clear hi420_2 hl420_2
       replace p420 := eq_true p420
       replace q420 := eq_true q420
       go_wp2
       repeat (go_quiet (fail);try go_wp2)
       (try simp only [← hl3_1,← hl3_2])
       go_roundg k2
       case measure => have := HK1.out;have := HK2.out;omega
       case rel => exact ⟨(x3_2),(wrap64 (x5_1 + 1)),(by first|rfl|(simp;done)|(simp [*];done)),H',⟨by have := HK1.out;have := HK2.out;omega⟩,⟨by (try simp only [hl3_1]);(try simp only [hl3_2]);(with_reducible repeat (first|apply Kd.R_alloc|apply Kd.R_drewN|apply Kd.R_drew));exact HO_3.out⟩,⟨by (try simp only [hl3_1]);(try simp only [hl3_2]);(with_reducible repeat (first|apply Kd.R_alloc|apply Kd.R_drewN|apply Kd.R_drew));exact HO_4.out⟩,⟨by (try simp only [hl3_1]);(try simp only [hl3_2]);(with_reducible repeat (first|refine bkN ?_ _|refine bkD ?_|refine bkA ?_ _));exact BK408.out⟩,⟨by repeat (first|(with_reducible first|exact HB.out|apply bwA|apply bwN|apply bwD|refine bwS ?_ GE408.out)|exact HB.out)⟩⟩
   ·rw [if_neg c20] at H
    have c20b0 : decide (x5_1 < (t416.length : Int)) = false := deF c20
    clear c20
    obtain rfl := Option.some.inj H
    obtain ⟨Ao35,co35,eo35⟩ := Kd.R_slice HO_4.out
    subst eo35
    go_wp2
    repeat (go_quiet (fail);try go_wp2)
    go_ret
    exact ⟨_,by first|rfl|(simp [errW_none,errW_some] <;> rfl)|(simp [*,errW_none,errW_some] <;> rfl),by (with_reducible repeat (first|apply Kd.R_alloc|apply Kd.R_drewN|apply Kd.R_drew));exact Kd.R_mono HO_3.out (fun _ hk => trivial),by repeat (first|(with_reducible first|exact HB.out|apply bwA|apply bwN|apply bwD|refine bwS ?_ GE408.out)|exact HB.out)⟩

end Go.Proofs.Ytapaegcombfafaa.Q
