-- Written by wip/tools/qprint.py (a program of this claim's author) by means of the kit's printer.
import Derived.Test.YtapaegcombfafaaQ0
import Derived.Test.YtapaegcombfafaaQ41
import Derived.Test.YtapaegcombfafaaQ77
namespace Go.Proofs.Ytapaegcombfafaa.Q
open Go.RowKit Go.Proofs.YtapaegcombfafaaW.PrintWords Go.Proofs.YtapaegcombfafaaW.PrintLast Go.Proofs.YtapaegcombfafaaW.PrintMore
attribute [local go_sem] max2_int min2_int max_two min_two max_three min_three max_four min_four   -- for this text's walks alone
set_option linter.unusedVariables false
set_option linter.unusedSimpArgs false

/-! ### spec_codeMany: function 44 -/
def spec_codeMany.l0 : Nat → List Int → List Int → List Int → Int → List (S58) → Int → Option (List Int)
 | 0,_,_,_,_,_,_ => none
 | k + 1,x1,x5,x6,x7,x383000,x383001 => if x7 < (x1.length : Int) then (if 0 ≤ x7 then ((spec_code.f k x383000 x383001 (rd x1 x7) x5 x6).bind fun bt390 => (spec_codeMany.l0 k x1 bt390.1 bt390.2 (wrap64 (x7 + 1)) x383000 x383001)) else (none)) else (some x5)
def spec_codeMany.f (k : Nat) (l0_0 : List (S58)) (a0_1 : Int) (l1 : List Int) : Option (List Int) := spec_codeMany.l0 k l1 (([] : List Int)) (([] : List Int)) 0 l0_0 a0_1
set_option maxRecDepth 100000 in
theorem spec_codeMany.mono_l : ∀ k,(∀ y0 y1 y2 y3 y4 y5,LeO (spec_codeMany.l0 k y0 y1 y2 y3 y4 y5) (spec_codeMany.l0 (k + 1) y0 y1 y2 y3 y4 y5))
 | 0 => fun _ _ _ _ _ _ r h => (by cases h)
 | k + 1 => by
  have ih0 := spec_codeMany.mono_l k
  ·intro y0 y1 y2 y3 y4 y5
   unfold spec_codeMany.l0
   repeat' first
   | (with_reducible exact ih0 _ _ _ _ _ _)
   | (with_reducible exact spec_code.mono _ _ _ _ _ _)
   | (with_reducible exact LeO.refl _)
   | (with_reducible exact LeO.none _)
   | (with_reducible refine LeO.ite ?_ ?_)
   | (with_reducible refine LeO.bind ?_ (fun _ => ?_))
   | exact ih0 _ _ _ _ _ _
   | exact spec_code.mono _ _ _ _ _ _
   | exact LeO.none _
   | refine LeO.ite ?_ ?_
   | refine LeO.bind ?_ (fun _ => ?_)
set_option maxRecDepth 100000 in
theorem spec_codeMany.mono : ∀ a0 a1 a2 k,LeO (spec_codeMany.f k a0 a1 a2) (spec_codeMany.f (k + 1) a0 a1 a2) := by
 intro a0 a1 a2 k
 have ih0 := spec_codeMany.mono_l k
 unfold spec_codeMany.f
 repeat' first
   | (with_reducible exact ih0 _ _ _ _ _ _)
   | (with_reducible exact spec_code.mono _ _ _ _ _ _)
   | (with_reducible exact LeO.refl _)
   | (with_reducible exact LeO.none _)
   | (with_reducible refine LeO.ite ?_ ?_)
   | (with_reducible refine LeO.bind ?_ (fun _ => ?_))
   | exact ih0 _ _ _ _ _ _
   | exact spec_code.mono _ _ _ _ _ _
   | exact LeO.none _
   | refine LeO.ite ?_ ?_
   | refine LeO.bind ?_ (fun _ => ?_)
def spec_codeMany.T6 : Bool × List (List Nat × List Nat) := (true,[([],[]),([],[]),([],[]),([1,2],[1,2]),([3],[3]),([],[]),([],[]),([0,4,5,6],[0,4,5,6]),([7],[7]),([8],[8]),([8],[8]),([9,7,0,1,2,3,4,5,6,7,8,9],[5,9]),([10,11,0,1,2,3,4,5,6,7,8,9,10,11],[6,10])])
def spec_codeMany.B6 : List Nat := [0,0,0,6,14,0,0,127,255,511,511,1023,4095]
theorem spec_codeMany.tab6 : rtab .any (opsOf Try.f44 6) = spec_codeMany.T6 := by kernel_rfl
theorem spec_codeMany.bits6 : waitsOk spec_codeMany.T6.2 spec_codeMany.B6 = true := by kernel_rfl
set_option maxHeartbeats 8000000 in
set_option maxRecDepth 100000 in
theorem spec_codeMany.calls (k : Nat) (A0_0 : Option Addr) (c0_0 : Nat) (l0_0 : List (S58)) (a0_1 : Int) (A1 : Option Addr) (c1 : Nat) (l1 : List Int) (r : List Int) (w : World) (hr0_0 : Kd.C k58 w A0_0 l0_0.length l0_0) (hc0_0 : l0_0.length ≤ c0_0) (hr1 : Kd.C (Kd.int .i64) w A1 l1.length l1) (hc1 : l1.length ≤ c1) (h : spec_codeMany.f k l0_0 a0_1 l1 = some r) :
  Calls Try.prog 44 #[.agg #[.slice A0_0 l0_0.length c0_0,.int .i64 a0_1],.slice A1 l1.length c1] w fun e w' => ∃ v0_ : Value,e = .returned (v0_) ∧ Kd.R (Kd.int .i64) 3 w' w.heap.size (fun _ => True) v0_ r ∧ Below w.heap.size w w' := by
 have hu25 := Try.underlying25
 have HR0_0 := As_ hr0_0
 have HC0_0 := As_ hc0_0
 clear hr0_0 hc0_0
 have HR1 := As_ hr1
 have HC1 := As_ hc1
 clear hr1 hc1
 have HB := As_ (Below.refl w.heap.size w)
 have H : (spec_codeMany.l0 k l1 (([] : List Int)) (([] : List Int)) 0 l0_0 a0_1) = some r := h
 clear h
 obtain ⟨y383,hy383⟩ : ∃ y_ : List Int,y_ = (([] : List Int)) := ⟨_,rfl⟩
 replace H : (spec_codeMany.l0 k l1 y383 (([] : List Int)) 0 l0_0 a0_1) = some r := zH_ H hy383
 have Ny383 := As_ hy383
 clear hy383
 obtain ⟨y386,hy386⟩ : ∃ y_ : List Int,y_ = (([] : List Int)) := ⟨_,rfl⟩
 replace H : (spec_codeMany.l0 k l1 y383 y386 0 l0_0 a0_1) = some r := zH_ H hy386
 have Ny386 := As_ hy386
 clear hy386
 have H' := As_ H
 clear H
 go_enter Try.func44,Try.ntmps44
 go_wp2_with (first|((with_reducible refine gate_dst (N := 2) rfl ?_);refine box_event ?hg (N := 2) ?hd (cs := #[.slice A0_0 l0_0.length c0_0,.int .i64 a0_1]) (t := 25) ?hr ?_;(case hd => rfl);(case hg => rfl);(case hr => go_simp <;> rfl);intro gb382 hg w3 hbox hb;have n0_ := As_ (bwT (zb0 HB.out) hb);have n1_ := As_ (hbox);have n2_ := As_ ((by rw [hg];exact (bwZ (zb0 HB.out)) : w.heap.size ≤ gb382));have n3_ := As_ ((by rw [hg];exact (bwZ (zb0 HB.out)) : w.heap.size ≤ gb382));clear HB;revert n0_ n1_ n2_ n3_;intro HB BK382 GW382 GE382;clear hb hbox hg)|((with_reducible refine gate_dst (N := 8) rfl ?_);refine Kd.R_lit (Kd.int .i64) _ 3 ?hg (N := 8) ?hd (xs := ([] : List Int)) (inner := []) (ok := fun _ => True) (okp := fun _ => True) ?hr ?hp (fun _ hk => hk) trivial (Below.refl _ _) (Nat.le_refl _) (by simp) ?_;(case hd => rfl);(case hg => rfl);(case hr => go_simp <;> rfl);(case hp => exact (Reps.none _ _));intro v384 w4 ho5 hb hg_ hnew_;clear hg_ hnew_;(first|rw [← Ny383.out] at ho5|(simp only [Int.reduceToNat] at ho5;rw [← Ny383.out] at ho5));have n0_ := As_ (Kd.R_lower ho5 (bwZ (zb1 HB.out GE382.out)));have n1_ := As_ (zkb BK382.out hb);have n2_ := As_ (bwT (zb1 HB.out GE382.out) hb);clear BK382 HB;revert n0_ n1_ n2_;intro HO385 BK382 HB;clear hb ho5)|((with_reducible refine gate_dst (N := 9) rfl ?_);refine Kd.R_lit (Kd.int .i64) _ 3 ?hg (N := 9) ?hd (xs := ([] : List Int)) (inner := []) (ok := fun _ => True) (okp := fun _ => True) ?hr ?hp (fun _ hk => hk) trivial (Below.refl _ _) (Nat.le_refl _) (by simp) ?_;(case hd => rfl);(case hg => rfl);(case hr => go_simp <;> rfl);(case hp => exact (Reps.none _ _));intro v387 w6 ho7 hb hg_ hnew_;clear hg_ hnew_;(first|rw [← Ny386.out] at ho7|(simp only [Int.reduceToNat] at ho7;rw [← Ny386.out] at ho7));have n0_ := As_ (Kd.R_elder' (zR_ HO385.out) (Kd.R_base ho7) hb);have n1_ := As_ (Kd.R_lower (Kd.R_new' ho7 (Kd.R_lt (zR_ HO385.out))) (bwZ (zb1 HB.out GE382.out)));have n2_ := As_ (zkb BK382.out hb);have n3_ := As_ (bwT (zb1 HB.out GE382.out) hb);clear HO385 BK382 HB;revert n0_ n1_ n2_ n3_;intro HO385 HO388 BK382 HB;clear hb ho7))
 go_loopg [5,6,7] k (fun kq v5 v6 v7 w' => ∃ (x5_1 : List Int) (x6_1 : List Int) (x7_1 : Int),v7 = .int .i64 x7_1 ∧ Aside0 (spec_codeMany.l0 kq l1 x5_1 x6_1 x7_1 l0_0 a0_1 = some r) ∧ Aside0 (kq ≤ k) ∧ Aside0 (Kd.R (Kd.int .i64) 3 w' w.heap.size (fun _ => True) v5 x5_1) ∧ Aside0 (Kd.V (Kd.int .i64) 3 w' w.heap.size (fun k_ => some k_ ≠ (v5 : Value).ownBlock ∧ k_ ≠ gb382) v6 x6_1) ∧ Aside0 (w'.heap[gb382]? = some (.cells #[(.slice A0_0 l0_0.length c0_0),.int .i64 a0_1] 25 (0,0))) ∧ Aside0 (Below w.heap.size w w'))
 case atStart => exact ⟨(y383),(y386),(0),zT_,H',⟨Nat.le_refl _⟩,⟨by (with_reducible repeat (first|apply Kd.R_alloc|apply Kd.R_drewN|apply Kd.R_drew));exact Kd.R_mono HO385.out (fun _ hk => trivial)⟩,⟨Kd.R_V (by (with_reducible repeat (first|apply Kd.R_alloc|apply Kd.R_drewN|apply Kd.R_drew));exact Kd.R_mono (Kd.R_types HO388.out BK382.out (by decide)) (fun _ hk => ⟨hk.1.2,hk.2⟩))⟩,⟨by (with_reducible repeat first|apply bkN|apply bkD|apply bkA);exact BK382.out⟩,⟨zb1 HB.out GE382.out⟩⟩
 case round =>
  clear H'
  obtain ⟨x5_1,x6_1,x7_1,rfl,HA,HK1,HO_5,HO_6,BK382,HB⟩ := hrel
  cases gk with
  | zero => exact absurd HA.out (fun h_ => (by cases h_))
  | succ k1 =>
   have H := HA.out
   clear HA
   simp only [spec_codeMany.l0] at H
   by_cases c8 : x7_1 < (l1.length : Int)
   rotate_left
   ·rw [if_neg c8] at H
    have c8b0 : decide (x7_1 < (l1.length : Int)) = false := deF c8
    clear c8
    obtain rfl := Option.some.inj H
    go_wp2
    go_ret
    exact ⟨_,zE_,by (with_reducible repeat (first|apply Kd.R_alloc|apply Kd.R_drewN|apply Kd.R_drew));exact HO_5.out,zb1 HB.out GE382.out⟩

   rw [if_pos c8] at H
   have c8b0 : decide (x7_1 < (l1.length : Int)) = true := deT c8
   clear c8
   by_cases c9 : 0 ≤ x7_1
   rotate_left
   ·rw [if_neg c9] at H
    exact absurd H (by simp)
   rw [if_pos c9] at H
   have c9b0 : decide (0 ≤ x7_1) = true := deT c9
   clear c9
   replace H := obS H
   obtain ⟨⟨t390,t393⟩,A100,H⟩ := H
   replace H : (spec_codeMany.l0 k1 l1 t390 t393 (wrap64 (x7_1 + 1)) l0_0 a0_1) = some r := H
   have A10 := As_ A100
   clear A100
   have H' := As_ H
   clear H
   try go_wp2
   have n0_ := As_ (Kd.R_drew HO_5.out)
   have n1_ := As_ (Kd.V_drew HO_6.out)
   have n2_ := As_ (bkD BK382.out)
   have n3_ := As_ (bwD HB.out)
   clear HO_5 HO_6 BK382 HB
   revert n0_ n1_ n2_ n3_;intro HO_5 HO_6 BK382 HB
   have p389 : 0 ≤ (x7_1 : Int) := odT zA_
   have q389 : x7_1 < (l1.length : Int) := odT zA_
   obtain ⟨ad389,e389,hx389_0⟩ := Kd.at_int HR1.out x7_1 p389 q389
   have hw389_0 := hx389_0
   cases e389
   replace hx389_0 := bwC HB.out hx389_0
   replace p389 := eq_true p389
   replace q389 := eq_true q389
   obtain ⟨Ao12,co12,eo12⟩ := Kd.R_slice HO_5.out
   (first|subst eo12|(injection eo12 with f1_ f2_ f3_;have f4_ := f1_.symm;have f5_ := f3_.symm;clear f1_ f2_ f3_;subst f4_;subst f5_))
   obtain ⟨Ao13,co13,eo13⟩ := Kd.V_slice HO_6.out
   (first|subst eo13|(injection eo13 with f1_ f2_ f3_;have f4_ := f1_.symm;have f5_ := f3_.symm;clear f1_ f2_ f3_;subst f4_;subst f5_))
   refine start_ (n := 13) (S := fun w' => w'.cell? ⟨gb382,0,none⟩ = some (.slice A0_0 l0_0.length c0_0) ∧ w'.cell? ⟨gb382,1,none⟩ = some (.int .i64 a0_1) ∧ w'.cell? (ad389.add (x7_1).toNat) = some (.int .i64 (rd l1 x7_1))) (ds := []) (bl_ 0 13) (by kernel_rfl) rfl rfl ⟨(bkC BK382.out 0).trans rfl,(bkC BK382.out 1).trans rfl,((HB.out.cell (bwL w _ hw389_0)).trans hw389_0)⟩ (fun hHeld => ?_);refine with_tabW spec_codeMany.tab6 spec_codeMany.bits6 (fun HT_ HW_ => ?_)
   generalize wr.drew = w11 at HO_5 HO_6 BK382 HB hx389_0 hHeld ⊢
   refine pQ 1 18 (bl_ 2 13) HT_ rfl ?_
   refine pQ 2 19 (bl_ 6 13) HT_ rfl ?_
   refine pQ 3 20 (bl_ 14 13) HT_ rfl ?_
   refine pQ 5 22 (bl_ 46 13) HT_ rfl ?_
   refine pQ 6 23 (bl_ 110 13) HT_ rfl ?_
   refine tP 0 17 (bl_ 111 13) ?_ HT_ HW_ rfl (.inl ⟨by rfl,?_⟩) hHeld ?_ ?_ ?_;rotate_left;(rintro w' ⟨s0,s1,s2⟩;go_simp;with_reducible rfl);rotate_left;(simp only [Act.put,sq_,i64_w,i32_w];rfl)
   refine tP 4 21 (bl_ 127 13) ?_ HT_ HW_ rfl (.inl ⟨by rfl,?_⟩) hHeld ?_ ?_ ?_;rotate_left;(rintro w' ⟨s0,s1,s2⟩;go_simp;with_reducible rfl);rotate_left;(simp only [Act.put,sq_,i64_w,i32_w];rfl)
   refine one_ (i := 7) (N := some 24) (bl_ 255 13) rfl rfl (one_of HT_.out (by kernel_rfl)) (by decide) (fun K hK => ?_)
   refine goes_ Try.func77 (by kernel_rfl) rfl #[.agg #[.slice A0_0 l0_0.length c0_0,.int .i64 a0_1],.int .i64 (rd l1 x7_1),.slice Ao12 x5_1.length co12,.slice Ao13 x6_1.length co13] (by rfl) rfl rfl zM_ ?_
   with_reducible refine (spec_code.calls k1 _ _ l0_0 a0_1 (rd l1 x7_1) _ _ x5_1 (fun k_ => (some k_ ≠ (.slice Ao12 x5_1.length co12 : Value).ownBlock ∧ k_ ≠ gb382)) _ _ x6_1 t390 t393 _ ?side1 ?side2 ?side3 ?side4 ?side5 A10.out).mono ?_
   (case side1 => exact zC_ (Kd.C_below HR0_0.out HB.out))
   (case side2 => exact HC0_0.out)
   (case side3 => exact zC_ (Kd.R_reads' HO_5.out).2.2)
   (case side4 => exact (Kd.R_reads' HO_5.out).2.1)
   (case side5 => exact HO_6.out)
   rintro e w14 ⟨v391,v394,rfl,ho0,ho1,hb⟩
   refine ⟨_,rfl,?_⟩
   have n0_ := As_ (Kd.R_elder' (zR_ HO_5.out) (Kd.R_base ho0) hb)
   have n1_ := As_ (Kd.V_elder' (by (with_reducible repeat (first|apply Kd.V_alloc|apply Kd.V_drewN|apply Kd.V_drew));exact HO_6.out) (Kd.R_base ho0) hb)
   have n2_ := As_ (Kd.R_lower (Kd.R_new' (Kd.R_mono (ok' := fun k_ => True) ho0 (fun _ hk_ => trivial)) (Kd.R_lt (zR_ HO_5.out))) (bwZ (zb1 HB.out GE382.out)))
   have n3_ := As_ (Kd.V_lower (Kd.V_mono (ok' := fun k_ => some k_ ≠ (v391 : Value).ownBlock ∧ some k_ ≠ (.slice Ao12 x5_1.length co12 : Value).ownBlock ∧ k_ ≠ gb382) ho1 (fun k_ hk_ => ⟨hk_.2,Or.elim hk_.1 (fun hs_ => hs_.1) (fun hn_ => (Kd.fresh' (Kd.R_lt (zR_ HO_5.out)) k_ hn_)),Or.elim hk_.1 (fun hs_ => hs_.2) (fun hn_ => (Kd.freshB (g := gb382) (o := .cells #[.slice A0_0 l0_0.length c0_0,.int .i64 a0_1] 25 (0,0)) (zk_ BK382.out) k_ hn_))⟩)) (bwZ (zb1 HB.out GE382.out)))
   have n4_ := As_ (zkb BK382.out hb)
   have n5_ := As_ (bwT (zb1 HB.out GE382.out) hb)
   clear HO_5 HO_6 BK382 HB
   revert n0_ n1_ n2_ n3_ n4_ n5_;intro HO_5 HO_6 HO392 HO395 BK382 HB
   refine hK.out _ _ ⟨(bkC BK382.out 0).trans rfl,(bkC BK382.out 1).trans rfl,((HB.out.cell (bwL w _ hw389_0)).trans hw389_0)⟩ (fun hHeld => ?_)
   clear hK K
   refine norm_ (a' := ?_) ?_ ?_
   rotate_left
   ·show Act.put _ (some 24) _ = _
    simp only [Act.put,sq_,i64_w,i32_w]
    rfl
   refine pQ 8 16 (bl_ 511 13) HT_ rfl ?_
   refine pQ 9 25 (bl_ 1023 13) HT_ rfl ?_
   refine pQ 10 26 (bl_ 2047 13) HT_ rfl ?_
   refine pQ 11 5 (bl_ 4095 13) HT_ rfl ?_
   refine pQ 12 6 (bl_ 8191 13) HT_ rfl ?_
   refine done_ (done_of HT_.out (by kernel_rfl)) ?_
   try go_wp2
   go_roundg k1
   case measure => have := HK1.out;omega
   case rel => exact ⟨(t390),(t393),(wrap64 (x7_1 + 1)),zT_,H',⟨by have := HK1.out;omega⟩,⟨by (with_reducible repeat (first|apply Kd.R_alloc|apply Kd.R_drewN|apply Kd.R_drew));exact Kd.R_mono HO392.out (fun _ hk => trivial)⟩,⟨by (with_reducible repeat (first|apply Kd.V_alloc|apply Kd.V_drewN|apply Kd.V_drew));exact Kd.V_mono HO395.out (fun _ hk => ⟨hk.1,hk.2.2⟩)⟩,⟨by (with_reducible repeat first|apply bkN|apply bkD|apply bkA);exact BK382.out⟩,⟨zb1 HB.out GE382.out⟩⟩
/-! ### spec_CodeMany: function 14 -/
def spec_CodeMany.f (k : Nat) (l0_0 : List (S58)) (a0_1 : Int) (l1 : List Int) : Option (List Int) := (spec_validRoots.f k l0_0 a0_1 l1).bind fun t397 => (if t397 = true then ((spec_codeMany.f k l0_0 a0_1 l1).bind fun t398 => (some t398)) else (some ([] : List Int)))
set_option maxRecDepth 100000 in
theorem spec_CodeMany.mono : ∀ a0 a1 a2 k,LeO (spec_CodeMany.f k a0 a1 a2) (spec_CodeMany.f (k + 1) a0 a1 a2) := by
 intro a0 a1 a2 k
 unfold spec_CodeMany.f
 repeat' first
   | (with_reducible exact spec_codeMany.mono _ _ _ _)
   | (with_reducible exact spec_validRoots.mono _ _ _ _)
   | (with_reducible exact LeO.refl _)
   | (with_reducible exact LeO.none _)
   | (with_reducible refine LeO.ite ?_ ?_)
   | (with_reducible refine LeO.bind ?_ (fun _ => ?_))
   | exact spec_codeMany.mono _ _ _ _
   | exact spec_validRoots.mono _ _ _ _
   | exact LeO.none _
   | refine LeO.ite ?_ ?_
   | refine LeO.bind ?_ (fun _ => ?_)
set_option maxHeartbeats 8000000 in
set_option maxRecDepth 100000 in
theorem spec_CodeMany.calls (k : Nat) (A0_0 : Option Addr) (c0_0 : Nat) (l0_0 : List (S58)) (a0_1 : Int) (A1 : Option Addr) (c1 : Nat) (l1 : List Int) (r : List Int) (w : World) (hr0_0 : Kd.C k58 w A0_0 l0_0.length l0_0) (hc0_0 : l0_0.length ≤ c0_0) (hr1 : Kd.C (Kd.int .i64) w A1 l1.length l1) (hc1 : l1.length ≤ c1) (h : spec_CodeMany.f k l0_0 a0_1 l1 = some r) :
  Calls Try.prog 14 #[.agg #[.slice A0_0 l0_0.length c0_0,.int .i64 a0_1],.slice A1 l1.length c1] w fun e w' => ∃ v0_ : Value,e = .returned (v0_) ∧ Kd.R (Kd.int .i64) 3 w' w.heap.size (fun _ => True) v0_ r ∧ Below w.heap.size w w' := by
 have hu25 := Try.underlying25
 have HR0_0 := As_ hr0_0
 have HC0_0 := As_ hc0_0
 clear hr0_0 hc0_0
 have HR1 := As_ hr1
 have HC1 := As_ hc1
 clear hr1 hc1
 have HB := As_ (Below.refl w.heap.size w)
 have H : ((spec_validRoots.f k l0_0 a0_1 l1).bind fun t397 => (if t397 = true then ((spec_codeMany.f k l0_0 a0_1 l1).bind fun t398 => (some t398)) else (some ([] : List Int)))) = some r := h
 clear h
 replace H := obS H
 obtain ⟨t397,A30,H⟩ := H
 replace H : (if t397 = true then ((spec_codeMany.f k l0_0 a0_1 l1).bind fun t398 => (some t398)) else (some ([] : List Int))) = some r := H
 have A3 := As_ A30
 clear A30
 by_cases c4 : t397 = true
 rotate_left
 ·replace c4 := Bool.eq_false_iff.mpr c4
  subst c4
  have H1 : (some ([] : List Int)) = some r := by rw [if_neg (show ¬ (false = true) by decide)] at H;exact H
  clear H
  have H := H1
  clear H1
  obtain rfl := Option.some.inj H
  go_enter Try.func14,Try.ntmps14
  go_wp2_with (first|((with_reducible refine gate_dst (N := 2) rfl ?_);refine box_event ?hg (N := 2) ?hd (cs := #[.slice A0_0 l0_0.length c0_0,.int .i64 a0_1]) (t := 25) ?hr ?_;(case hd => rfl);(case hg => rfl);(case hr => go_simp <;> rfl);intro gb396 hg w11 hbox hb;have n0_ := As_ (bwT (zb0 HB.out) hb);have n1_ := As_ (hbox);have n2_ := As_ ((by rw [hg];exact (bwZ (zb0 HB.out)) : w.heap.size ≤ gb396));have n3_ := As_ ((by rw [hg];exact (bwZ (zb0 HB.out)) : w.heap.size ≤ gb396));clear HB;revert n0_ n1_ n2_ n3_;intro HB BK396 GW396 GE396;clear hb hbox hg;obtain ⟨hcz12_0,hcz12_1,hfz12_0,hfz12_1⟩ := bk2 BK396.out)|((with_reducible refine gate_callee (f := 43) rfl ?_);refine goesL_ (some 7) rfl rfl Try.func43 (by kernel_rfl) rfl #[.agg #[.slice A0_0 l0_0.length c0_0,.int .i64 a0_1],.slice A1 l1.length c1] rfl zM_ ?_;(with_reducible refine (spec_validRoots.calls k _ _ l0_0 a0_1 _ _ l1 false _ ?side1 ?side2 ?side3 ?side4 A3.out).mono ?_);(case side1 => exact zC_ (Kd.C_below HR0_0.out HB.out));(case side2 => exact HC0_0.out);(case side3 => exact zC_ (Kd.C_below HR1.out HB.out));(case side4 => exact HC1.out);rintro e w13 ⟨rfl,hb⟩;refine ⟨_,rfl,?_⟩;have n0_ := As_ (zkb BK396.out hb);have n1_ := As_ (bwT (zb1 HB.out GE396.out) hb);clear BK396 HB;revert n0_ n1_;intro BK396 HB))
  go_ret
  exact ⟨_,zE_,by first|exact Kd.R_nil _ _ _ _ _|exact Kd.N_nil _ _ _ _ _|exact Kd.V_nil _ _ _ _ _|exact Kd.Q_nil _ _ _ _ _|exact Kd.S_nil _ _ _ _ _,zb1 HB.out GE396.out⟩

 subst c4
 have H1 : ((spec_codeMany.f k l0_0 a0_1 l1).bind fun t398 => (some t398)) = some r := by rw [if_pos rfl] at H;exact H
 clear H
 have H := H1
 clear H1
 replace H := obS H
 obtain ⟨t398,A50,H⟩ := H
 replace H : (some t398) = some r := H
 have A5 := As_ A50
 clear A50
 obtain rfl := Option.some.inj H
 go_enter Try.func14,Try.ntmps14
 go_wp2_with (first|((with_reducible refine gate_dst (N := 2) rfl ?_);refine box_event ?hg (N := 2) ?hd (cs := #[.slice A0_0 l0_0.length c0_0,.int .i64 a0_1]) (t := 25) ?hr ?_;(case hd => rfl);(case hg => rfl);(case hr => go_simp <;> rfl);intro gb396 hg w6 hbox hb;have n0_ := As_ (bwT (zb0 HB.out) hb);have n1_ := As_ (hbox);have n2_ := As_ ((by rw [hg];exact (bwZ (zb0 HB.out)) : w.heap.size ≤ gb396));have n3_ := As_ ((by rw [hg];exact (bwZ (zb0 HB.out)) : w.heap.size ≤ gb396));clear HB;revert n0_ n1_ n2_ n3_;intro HB BK396 GW396 GE396;clear hb hbox hg;obtain ⟨hcz7_0,hcz7_1,hfz7_0,hfz7_1⟩ := bk2 BK396.out)|((with_reducible refine gate_callee (f := 43) rfl ?_);refine goesL_ (some 7) rfl rfl Try.func43 (by kernel_rfl) rfl #[.agg #[.slice A0_0 l0_0.length c0_0,.int .i64 a0_1],.slice A1 l1.length c1] rfl zM_ ?_;(with_reducible refine (spec_validRoots.calls k _ _ l0_0 a0_1 _ _ l1 true _ ?side1 ?side2 ?side3 ?side4 A3.out).mono ?_);(case side1 => exact zC_ (Kd.C_below HR0_0.out HB.out));(case side2 => exact HC0_0.out);(case side3 => exact zC_ (Kd.C_below HR1.out HB.out));(case side4 => exact HC1.out);rintro e w8 ⟨rfl,hb⟩;refine ⟨_,rfl,?_⟩;have n0_ := As_ (zkb BK396.out hb);have n1_ := As_ (bwT (zb1 HB.out GE396.out) hb);clear BK396 HB;revert n0_ n1_;intro BK396 HB;obtain ⟨hcz9_0,hcz9_1,hfz9_0,hfz9_1⟩ := bk2 BK396.out)|((with_reducible refine gate_callee (f := 44) rfl ?_);refine goesL_ (some 11) rfl rfl Try.func44 (by kernel_rfl) rfl #[.agg #[.slice A0_0 l0_0.length c0_0,.int .i64 a0_1],.slice A1 l1.length c1] rfl zM_ ?_;(with_reducible refine (spec_codeMany.calls k _ _ l0_0 a0_1 _ _ l1 t398 _ ?side1 ?side2 ?side3 ?side4 A5.out).mono ?_);(case side1 => exact zC_ (Kd.C_below HR0_0.out HB.out));(case side2 => exact HC0_0.out);(case side3 => exact zC_ (Kd.C_below HR1.out HB.out));(case side4 => exact HC1.out);rintro e w10 ⟨v399,rfl,ho0,hb⟩;refine ⟨_,rfl,?_⟩;have n0_ := As_ (Kd.R_lower ho0 (bwZ (zb1 HB.out GE396.out)));have n1_ := As_ (zkb BK396.out hb);have n2_ := As_ (bwT (zb1 HB.out GE396.out) hb);clear BK396 HB;revert n0_ n1_ n2_;intro HO400 BK396 HB))
 go_ret
 exact ⟨_,zE_,by (with_reducible repeat (first|apply Kd.R_alloc|apply Kd.R_drewN|apply Kd.R_drew));exact HO400.out,zb1 HB.out GE396.out⟩
end Go.Proofs.Ytapaegcombfafaa.Q
