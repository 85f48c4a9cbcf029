-- Written by wip/tools/qprint.py (a program of this claim's author) by means of the kit's printer.
import Derived.Test.YtbokjhdhpmmpfaaQ0
import Derived.Test.YtbokjhdhpmmpfaaQ105
namespace Go.Proofs.Ytbokjhdhpmmpfaa.Q
open Go.RowKit Go.Proofs.YtbokjhdhpmmpfaaW.PrintWords Go.Proofs.YtbokjhdhpmmpfaaW.PrintLast Go.Proofs.YtbokjhdhpmmpfaaW.PrintMore
attribute [local go_sem] max2_int min2_int max_two min_two max_three min_three max_four min_four   -- for this text's walks alone
set_option linter.unusedVariables false
set_option linter.unusedSimpArgs false

/-! ### spec_copyShapes: function 108 -/
def spec_copyShapes.f (b2 : List Int) (a7 : List Bool) (a9 : List Int) (a8 : List Int) (b4 : Bool) : Option (List Int × List Bool × List Int × List Int × Bool) := (spec_copyInts.f b2).bind fun b7 => ((some (([] : List Bool) : List Bool)).bind fun b5 => (if b5.length + a7.length < 140737488355328 then ((spec_copyInts.f a9).bind fun b8 => ((spec_copyInts.f a8).bind fun b6 => (some (b7,(b5 ++ a7),b8,b6,b4)))) else (none)))
def spec_copyShapes.T1 : Bool × List (List Nat × List Nat) := (true,[([],[]),([0],[0]),([1],[1]),([],[]),([],[]),([4],[4]),([3,5,2],[3,5]),([],[]),([7],[7]),([8,6],[8]),([],[]),([10],[10]),([11,9],[11]),([],[]),([13],[13]),([2,6,9,12,14],[2,6,9,12,14]),([15,12,0,1,2,3,4,5,6,7,8,9,10,11,12,13,14,15],[15])])
def spec_copyShapes.B1 : List Nat := [0,1,3,0,0,16,63,0,128,511,0,1024,4095,0,8192,32767,65535]
theorem spec_copyShapes.tab1 : rtab .any (opsOf Try.f108 1) = spec_copyShapes.T1 := by kernel_rfl
theorem spec_copyShapes.bits1 : waitsOk spec_copyShapes.T1.2 spec_copyShapes.B1 = true := by kernel_rfl
set_option maxHeartbeats 8000000 in
set_option maxRecDepth 100000 in
theorem spec_copyShapes.calls (A0_0 : Option Addr) (c0_0 : Nat) (b2 : List Int) (A0_1 : Option Addr) (c0_1 : Nat) (a7 : List Bool) (A0_2 : Option Addr) (c0_2 : Nat) (a9 : List Int) (A0_3 : Option Addr) (c0_3 : Nat) (a8 : List Int) (b4 : Bool) (r1 : List Int) (r2 : List Bool) (r3 : List Int) (r4 : List Int) (r5 : Bool) (w : World) (hr0_0 : Kd.C (Kd.int .i64) w A0_0 b2.length b2) (hc0_0 : b2.length ≤ c0_0) (hr0_1 : Kd.C Kd.bool w A0_1 a7.length a7) (hc0_1 : a7.length ≤ c0_1) (hr0_2 : Kd.C (Kd.int .i64) w A0_2 a9.length a9) (hc0_2 : a9.length ≤ c0_2) (hr0_3 : Kd.C (Kd.int .i64) w A0_3 a8.length a8) (hc0_3 : a8.length ≤ c0_3) (h : spec_copyShapes.f b2 a7 a9 a8 b4 = some (r1,r2,r3,r4,r5)) :
  Calls Try.prog 108 #[.agg #[.slice A0_0 b2.length c0_0,.slice A0_1 a7.length c0_1,.slice A0_2 a9.length c0_2,.slice A0_3 a8.length c0_3,.bool b4]] w fun e w' => ∃ v0_ v1_ v2_ v3_ : Value,e = .returned (.agg #[v0_,v1_,v2_,v3_,.bool r5]) ∧ Kd.R (Kd.int .i64) 3 w' w.heap.size (fun k_ => some k_ ≠ (v2_ : Value).ownBlock ∧ some k_ ≠ (v3_ : Value).ownBlock) v0_ r1 ∧ Kd.R Kd.bool 4 w' w.heap.size (fun _ => True) v1_ r2 ∧ Kd.R (Kd.int .i64) 3 w' w.heap.size (fun k_ => some k_ ≠ (v0_ : Value).ownBlock ∧ some k_ ≠ (v3_ : Value).ownBlock) v2_ r3 ∧ Kd.R (Kd.int .i64) 3 w' w.heap.size (fun k_ => some k_ ≠ (v0_ : Value).ownBlock ∧ some k_ ≠ (v2_ : Value).ownBlock) v3_ r4 ∧ Below w.heap.size w w' := by
 have hu120 := Try.underlying120
 have HR0_0 := As_ hr0_0
 have HC0_0 := As_ hc0_0
 clear hr0_0 hc0_0
 have HR0_1 := As_ hr0_1
 have HC0_1 := As_ hc0_1
 clear hr0_1 hc0_1
 have HR0_2 := As_ hr0_2
 have HC0_2 := As_ hc0_2
 clear hr0_2 hc0_2
 have HR0_3 := As_ hr0_3
 have HC0_3 := As_ hc0_3
 clear hr0_3 hc0_3
 have HB := As_ (Below.refl w.heap.size w)
 have H : ((spec_copyInts.f b2).bind fun b7 => ((some (([] : List Bool) : List Bool)).bind fun b5 => (if b5.length + a7.length < 140737488355328 then ((spec_copyInts.f a9).bind fun b8 => ((spec_copyInts.f a8).bind fun b6 => (some (b7,(b5 ++ a7),b8,b6,b4)))) else (none)))) = some (r1,r2,r3,r4,r5) := h
 clear h
 replace H := obS H
 obtain ⟨b7,A20,H⟩ := H
 replace H : ((some (([] : List Bool) : List Bool)).bind fun b5 => (if b5.length + a7.length < 140737488355328 then ((spec_copyInts.f a9).bind fun b8 => ((spec_copyInts.f a8).bind fun b6 => (some (b7,(b5 ++ a7),b8,b6,b4)))) else (none))) = some (r1,r2,r3,r4,r5) := H
 have A2 := As_ A20
 clear A20
 obtain ⟨b5,d2⟩ : ∃ y_ : List Bool,y_ = (([] : List Bool)) := ⟨_,rfl⟩
 replace H : (if b5.length + a7.length < 140737488355328 then ((spec_copyInts.f a9).bind fun b8 => ((spec_copyInts.f a8).bind fun b6 => (some (b7,(b5 ++ a7),b8,b6,b4)))) else (none)) = some (r1,r2,r3,r4,r5) := zH_ H d2
 have d1 := As_ d2
 clear d2
 by_cases c3 : b5.length + a7.length < 140737488355328
 rotate_left
 ·rw [if_neg c3] at H
  exact absurd H (by simp)
 rw [if_pos c3] at H
 have e7 := As_ c3
 clear c3
 obtain ⟨d4,d3⟩ : ∃ y_ : List Bool,y_ = (b5 ++ a7) := ⟨_,rfl⟩
 replace H : ((spec_copyInts.f a9).bind fun b8 => ((spec_copyInts.f a8).bind fun b6 => (some (b7,d4,b8,b6,b4)))) = some (r1,r2,r3,r4,r5) := zH_ H d3
 have d6 := As_ d3
 clear d3
 replace H := obS H
 obtain ⟨b8,A40,H⟩ := H
 replace H : ((spec_copyInts.f a8).bind fun b6 => (some (b7,d4,b8,b6,b4))) = some (r1,r2,r3,r4,r5) := H
 have A4 := As_ A40
 clear A40
 replace H := obS H
 obtain ⟨b6,A50,H⟩ := H
 replace H : (some (b7,d4,b8,b6,b4)) = some (r1,r2,r3,r4,r5) := H
 have A5 := As_ A50
 clear A50
 simp only [Option.some.injEq,Prod.mk.injEq] at H
 obtain ⟨rfl,rfl,rfl,rfl,rfl⟩ := H
 go_enter Try.func108,Try.ntmps108
 try go_wp2_with (first|((with_reducible refine gate_dst (N := 1) rfl ?_);refine box_event ?hg (N := 1) ?hd (cs := #[.slice A0_0 b2.length c0_0,.slice A0_1 a7.length c0_1,.slice A0_2 a9.length c0_2,.slice A0_3 a8.length c0_3,.bool b4]) (t := 120) ?hr ?_;(case hd => rfl);(case hg => rfl);(case hr => go_simp <;> rfl);intro a3 hg w6 hbox hb;have n0_ := As_ (bwT (zb0 HB.out) hb);have n1_ := As_ (hbox);have n2_ := As_ ((by rw [hg];exact (bwZ (zb0 HB.out)) : w.heap.size ≤ a3));have n3_ := As_ ((by rw [hg];exact (bwZ (zb0 HB.out)) : w.heap.size ≤ a3));clear HB;revert n0_ n1_ n2_ n3_;intro HB a0 e8 a4;clear hb hbox hg)|((with_reducible refine gate_dst (N := 2) rfl ?_);refine box_event ?hg (N := 2) ?hd (cs := #[.slice none 0 0,.slice none 0 0,.slice none 0 0,.slice none 0 0,.bool false]) (t := 120) ?hr ?_;(case hd => rfl);(case hg => rfl);(case hr => go_simp <;> rfl);intro b0 hg w7 hbox hb;have n0_ := As_ (zkb a0.out hb);have n1_ := As_ (bwT (zb1 HB.out a4.out) hb);have n2_ := As_ (hbox);have n3_ := As_ ((by rw [hg];exact (bwZ (zb1 HB.out a4.out)) : w.heap.size ≤ b0));have n4_ := As_ ((by rw [hg];exact (bwZ (zb1 HB.out a4.out)) : w.heap.size ≤ b0));have n5_ := As_ ((by rw [hg];exact Nat.ne_of_lt (zkl a0.out) : a3 ≠ b0));have n6_ := As_ ((by rw [hg];exact Nat.ne_of_gt (zkl a0.out) : b0 ≠ a3));clear a0 HB;revert n0_ n1_ n2_ n3_ n4_ n5_ n6_;intro a0 HB a1 e9 a6 a2 b1;clear hb hbox hg))
 have n0_ := As_ (bkD a0.out)
 have n1_ := As_ (bkD a1.out)
 have n2_ := As_ (bwD HB.out)
 clear a0 a1 HB
 revert n0_ n1_ n2_;intro a0 a1 HB
 refine start_ (n := 17) (S := fun w' => w'.cell? ⟨a3,0,none⟩ = some (.slice A0_0 b2.length c0_0) ∧ w'.cell? ⟨a3,1,none⟩ = some (.slice A0_1 a7.length c0_1) ∧ w'.cell? ⟨a3,2,none⟩ = some (.slice A0_2 a9.length c0_2) ∧ w'.cell? ⟨a3,3,none⟩ = some (.slice A0_3 a8.length c0_3) ∧ w'.cell? ⟨a3,4,none⟩ = some (.bool b4)) (ds := []) (bl_ 0 17) (by kernel_rfl) rfl rfl ⟨(bkC a0.out 0).trans rfl,(bkC a0.out 1).trans rfl,(bkC a0.out 2).trans rfl,(bkC a0.out 3).trans rfl,(bkC a0.out 4).trans rfl⟩ (fun hHeld => ?_);refine with_tabW spec_copyShapes.tab1 spec_copyShapes.bits1 (fun HT_ HW_ => ?_)
 generalize w7.drew = w8 at a0 a1 HB hHeld ⊢
 refine pQ 0 3 (bl_ 1 17) HT_ rfl ?_
 refine pQ 4 7 (bl_ 17 17) HT_ rfl ?_
 refine pQ 7 10 (bl_ 145 17) HT_ rfl ?_
 refine pQ 10 13 (bl_ 1169 17) HT_ rfl ?_
 refine pQ 13 16 (bl_ 9361 17) HT_ rfl ?_
 refine tP 1 4 (bl_ 9363 17) ?_ HT_ HW_ rfl (.inl ⟨by rfl,?_⟩) hHeld ?_ ?_ ?_;rotate_left;(rintro w' ⟨s0,s1,s2,s3,s4⟩;go_simp;with_reducible rfl);rotate_left;(simp only [Act.put,sq_];rfl)
 refine tP 5 8 (bl_ 9395 17) ?_ HT_ HW_ rfl (.inl ⟨by rfl,?_⟩) hHeld ?_ ?_ ?_;rotate_left;(rintro w' ⟨s0,s1,s2,s3,s4⟩;go_simp;with_reducible rfl);rotate_left;(simp only [Act.put,sq_];rfl)
 refine tP 8 11 (bl_ 9651 17) ?_ HT_ HW_ rfl (.inl ⟨by rfl,?_⟩) hHeld ?_ ?_ ?_;rotate_left;(rintro w' ⟨s0,s1,s2,s3,s4⟩;go_simp;with_reducible rfl);rotate_left;(simp only [Act.put,sq_];rfl)
 refine tP 11 14 (bl_ 11699 17) ?_ HT_ HW_ rfl (.inl ⟨by rfl,?_⟩) hHeld ?_ ?_ ?_;rotate_left;(rintro w' ⟨s0,s1,s2,s3,s4⟩;go_simp;with_reducible rfl);rotate_left;(simp only [Act.put,sq_];rfl)
 refine tP 14 17 (bl_ 28083 17) ?_ HT_ HW_ rfl (.inl ⟨by rfl,?_⟩) hHeld ?_ ?_ ?_;rotate_left;(rintro w' ⟨s0,s1,s2,s3,s4⟩;go_simp;with_reducible rfl);rotate_left;(simp only [Act.put,sq_];rfl)
 refine join_ (σ := Value × Value) 5 (bl_ 28095 17) (fun s_ => [(5,s_.1),(6,s_.2)]) (fun s_ w' => (w'.cell? ⟨a3,0,none⟩ = some (.slice A0_0 b2.length c0_0) ∧ w'.cell? ⟨a3,1,none⟩ = some (.slice A0_1 a7.length c0_1) ∧ w'.cell? ⟨a3,2,none⟩ = some (.slice A0_2 a9.length c0_2) ∧ w'.cell? ⟨a3,3,none⟩ = some (.slice A0_3 a8.length c0_3) ∧ w'.cell? ⟨a3,4,none⟩ = some (.bool b4)) ∧ (Kd.R (Kd.int .i64) 3 w' w.heap.size (fun _ => True) s_.1 b7) ∧ (Kd.R Kd.bool 4 w' w.heap.size (fun _ => True) s_.2 b5) ∧ (w'.heap[a3]? = some (.cells #[.slice A0_0 b2.length c0_0,.slice A0_1 a7.length c0_1,.slice A0_2 a9.length c0_2,.slice A0_3 a8.length c0_3,.bool b4] 120 (0,0))) ∧ (w'.heap[b0]? = some (.cells #[.slice none 0 0,.slice none 0 0,.slice none 0 0,.slice none 0 0,.bool false] 120 (0,0))) ∧ (Below w.heap.size w w')) ?_ ?_
 rotate_left
 ·intro hCont
  refine two_ (i := 2) (j := 3) (Ni := some 5) (Nj := some 6) (bl_ 28087 17) (bl_ 28091 17) rfl rfl rfl rfl (two_of HT_.out (by kernel_rfl)) (by decide) (by decide) (fun K hK => ?_) (fun K hK => ?_)
  ·skip
   refine goes_ Try.func121 (by kernel_rfl) rfl #[.slice A0_0 b2.length c0_0] (by rfl) rfl rfl zM_ ?_
   with_reducible refine (spec_copyInts.calls _ _ b2 b7 _ ?side1 ?side2 A2.out).mono ?_
   (case side1 => exact zC_ (Kd.C_below HR0_0.out HB.out))
   (case side2 => exact HC0_0.out)
   rintro e w9 ⟨v809,rfl,ho0,hb⟩
   refine ⟨_,rfl,?_⟩
   have n0_ := As_ (Kd.R_lower ho0 (bwZ (zb2 HB.out a4.out a6.out)))
   have n1_ := As_ (zkb a0.out hb)
   have n2_ := As_ (zkb a1.out hb)
   have n3_ := As_ (bwT (zb2 HB.out a4.out a6.out) hb)
   clear a0 a1 HB
   revert n0_ n1_ n2_ n3_;intro a5 a0 a1 HB
   refine hK.out _ _ ⟨(bkC a0.out 0).trans rfl,(bkC a0.out 1).trans rfl,(bkC a0.out 2).trans rfl,(bkC a0.out 3).trans rfl,(bkC a0.out 4).trans rfl⟩ (fun hHeld => ?_)
   clear hK K
   refine norm_ (a' := ?_) ?_ ?_
   rotate_left
   ·show Act.put _ (some 5) _ = _
    simp only [Act.put,sq_]
    rfl
   refine one_ (i := 3) (N := some 6) (bl_ 28095 17) rfl rfl (one_of HT_.out (by kernel_rfl)) (by decide) (fun K hK => ?_)
   refine Kd.R_lit_step Kd.bool _ 4 ?hg (N := 6) ?hd (xs := ([] : List Bool)) (inner := []) (ok := fun _ => True) (okp := fun _ => True) ?hr ?hp (fun _ hk => hk) trivial (Below.refl _ _) (Nat.le_refl _) (by simp) ?_;(case hd => rfl);(case hg => rfl);(case hr => go_simp <;> rfl);(case hp => exact (Reps.none _ _))
   intro v812 w10 ho11 hb hg_ hnew_
   clear hg_ hnew_
   (first|rw [← d1.out] at ho11|(simp only [Int.reduceToNat] at ho11;rw [← d1.out] at ho11))
   have n0_ := As_ (Kd.R_below (zR_ a5.out) hb)
   have n1_ := As_ (Kd.R_lower ho11 (bwZ (zb2 HB.out a4.out a6.out)))
   have n2_ := As_ (zkb a0.out hb)
   have n3_ := As_ (zkb a1.out hb)
   have n4_ := As_ (bwT (zb2 HB.out a4.out a6.out) hb)
   clear a5 a0 a1 HB
   revert n0_ n1_ n2_ n3_ n4_;intro a5 b3 a0 a1 HB
   clear hb ho11
   refine hK.out _ _ ⟨(bkC a0.out 0).trans rfl,(bkC a0.out 1).trans rfl,(bkC a0.out 2).trans rfl,(bkC a0.out 3).trans rfl,(bkC a0.out 4).trans rfl⟩ (fun hHeld => ?_)
   clear hK K
   refine norm_ (a' := ?_) ?_ ?_
   rotate_left
   ·show Act.put _ (some 6) _ = _
    simp only [Act.put,sq_]
    rfl
   exact norm_ (by simp only [putAll,Act.put,List.setIfInBounds_toArray,List.set_cons_zero,List.set_cons_succ]) (hCont (v809,v812) _ ⟨hHeld,(zR_ a5.out),(zR_ b3.out),(zk_ a0.out),(zk_ a1.out),(zb2 HB.out a4.out a6.out)⟩)
  ·skip
   refine Kd.R_lit_step Kd.bool _ 4 ?hg (N := 6) ?hd (xs := ([] : List Bool)) (inner := []) (ok := fun _ => True) (okp := fun _ => True) ?hr ?hp (fun _ hk => hk) trivial (Below.refl _ _) (Nat.le_refl _) (by simp) ?_;(case hd => rfl);(case hg => rfl);(case hr => go_simp <;> rfl);(case hp => exact (Reps.none _ _))
   intro v812 w9 ho10 hb hg_ hnew_
   clear hg_ hnew_
   (first|rw [← d1.out] at ho10|(simp only [Int.reduceToNat] at ho10;rw [← d1.out] at ho10))
   have n0_ := As_ (Kd.R_lower ho10 (bwZ (zb2 HB.out a4.out a6.out)))
   have n1_ := As_ (zkb a0.out hb)
   have n2_ := As_ (zkb a1.out hb)
   have n3_ := As_ (bwT (zb2 HB.out a4.out a6.out) hb)
   clear a0 a1 HB
   revert n0_ n1_ n2_ n3_;intro b3 a0 a1 HB
   clear hb ho10
   refine hK.out _ _ ⟨(bkC a0.out 0).trans rfl,(bkC a0.out 1).trans rfl,(bkC a0.out 2).trans rfl,(bkC a0.out 3).trans rfl,(bkC a0.out 4).trans rfl⟩ (fun hHeld => ?_)
   clear hK K
   refine norm_ (a' := ?_) ?_ ?_
   rotate_left
   ·show Act.put _ (some 6) _ = _
    simp only [Act.put,sq_]
    rfl
   refine one_ (i := 2) (N := some 5) (bl_ 28095 17) rfl rfl (one_of HT_.out (by kernel_rfl)) (by decide) (fun K hK => ?_)
   refine goes_ Try.func121 (by kernel_rfl) rfl #[.slice A0_0 b2.length c0_0] (by rfl) rfl rfl zM_ ?_
   with_reducible refine (spec_copyInts.calls _ _ b2 b7 _ ?side1 ?side2 A2.out).mono ?_
   (case side1 => exact zC_ (Kd.C_below HR0_0.out HB.out))
   (case side2 => exact HC0_0.out)
   rintro e w11 ⟨v809,rfl,ho0,hb⟩
   refine ⟨_,rfl,?_⟩
   have n0_ := As_ (Kd.R_below (zR_ b3.out) hb)
   have n1_ := As_ (Kd.R_lower ho0 (bwZ (zb2 HB.out a4.out a6.out)))
   have n2_ := As_ (zkb a0.out hb)
   have n3_ := As_ (zkb a1.out hb)
   have n4_ := As_ (bwT (zb2 HB.out a4.out a6.out) hb)
   clear b3 a0 a1 HB
   revert n0_ n1_ n2_ n3_ n4_;intro b3 a5 a0 a1 HB
   refine hK.out _ _ ⟨(bkC a0.out 0).trans rfl,(bkC a0.out 1).trans rfl,(bkC a0.out 2).trans rfl,(bkC a0.out 3).trans rfl,(bkC a0.out 4).trans rfl⟩ (fun hHeld => ?_)
   clear hK K
   refine norm_ (a' := ?_) ?_ ?_
   rotate_left
   ·show Act.put _ (some 5) _ = _
    simp only [Act.put,sq_]
    rfl
   exact norm_ (by simp only [putAll,Act.put,List.setIfInBounds_toArray,List.set_cons_zero,List.set_cons_succ]) (hCont (v809,v812) _ ⟨hHeld,(zR_ a5.out),(zR_ b3.out),(zk_ a0.out),(zk_ a1.out),(zb2 HB.out a4.out a6.out)⟩)
 rintro ⟨v809,v812⟩ w12 ⟨hS_,h0_,h1_,h2_,h3_,h4_⟩
 have n0_ : Aside0 (Kd.R (Kd.int .i64) 3 w12 w.heap.size (fun _ => True) v809 b7) := ⟨h0_⟩
 have n1_ : Aside0 (Kd.R Kd.bool 4 w12 w.heap.size (fun _ => True) v812 b5) := ⟨h1_⟩
 have n2_ : Aside0 (w12.heap[a3]? = some (.cells #[.slice A0_0 b2.length c0_0,.slice A0_1 a7.length c0_1,.slice A0_2 a9.length c0_2,.slice A0_3 a8.length c0_3,.bool b4] 120 (0,0))) := ⟨h2_⟩
 have n3_ : Aside0 (w12.heap[b0]? = some (.cells #[.slice none 0 0,.slice none 0 0,.slice none 0 0,.slice none 0 0,.bool false] 120 (0,0))) := ⟨h3_⟩
 have n4_ : Aside0 (Below w.heap.size w w12) := ⟨h4_⟩
 clear a0 a1 HB h0_ h1_ h2_ h3_ h4_
 revert n0_ n1_ n2_ n3_ n4_;intro a5 b3 a0 a1 HB
 have hHeld : w12.cell? ⟨a3,0,none⟩ = some (.slice A0_0 b2.length c0_0) ∧ w12.cell? ⟨a3,1,none⟩ = some (.slice A0_1 a7.length c0_1) ∧ w12.cell? ⟨a3,2,none⟩ = some (.slice A0_2 a9.length c0_2) ∧ w12.cell? ⟨a3,3,none⟩ = some (.slice A0_3 a8.length c0_3) ∧ w12.cell? ⟨a3,4,none⟩ = some (.bool b4) := hS_
 refine norm_ (a' := ?_) ?_ ?_
 rotate_left
 ·simp only [putAll,Act.put,List.setIfInBounds_toArray,List.set_cons_zero,List.set_cons_succ]
  rfl
 refine one_ (i := 6) (N := some 9) (bl_ 28159 17) rfl rfl (one_of HT_.out (by kernel_rfl)) (by decide) (fun K hK => ?_)
 refine Kd.R_append_rows_step Kd.bool (w0 := w) w.heap.size (by rfl) (.tmp 6) (.tmp 8) 118 4 (.bool false) 1 rfl Try.underlying118 info4 rfl (by decide) (by omega) v812 b5 a7 _ _ _ (fun _ => True) (fun _ => False) rfl rfl ?aO ?aR (fun _ _ h => h) (fun _ h => h.elim) ?aF ?aB ?aS ?aL ?_
 (case aR => exact zC_ (Kd.C_below HR0_1.out HB.out))
 (case aB => exact (zb2 HB.out a4.out a6.out))
 (case aF => exact (fun _ _ => trivial))
 (case aO => exact (zR_ b3.out))
 (case aS => exact (bwZ (zb2 HB.out a4.out a6.out)))
 (case aL => have := e7.out;omega)
 intro v815 w13 ho hb hg hat
 rw [← d6.out] at ho
 have n0_ := As_ (blk_grown (g := a3) (o := .cells #[.slice A0_0 b2.length c0_0,.slice A0_1 a7.length c0_1,.slice A0_2 a9.length c0_2,.slice A0_3 a8.length c0_3,.bool b4] 120 (0,0)) (zk_ a0.out) hg (rne b3.out a0.out))
 have n1_ := As_ (blk_grown (g := b0) (o := .cells #[.slice none 0 0,.slice none 0 0,.slice none 0 0,.slice none 0 0,.bool false] 120 (0,0)) (zk_ a1.out) hg (rne b3.out a1.out))
 have n2_ := As_ (Kd.R_over' (zR_ a5.out) (Kd.R_typed (zR_ b3.out)) (by decide) hg)
 have n3_ := As_ (hb)
 have n4_ := As_ (ho)
 clear a0 a1 a5 HB b3
 revert n0_ n1_ n2_ n3_ n4_;intro a0 a1 a5 HB b9
 clear ho hb hg hat
 refine hK.out _ _ ⟨(bkC a0.out 0).trans rfl,(bkC a0.out 1).trans rfl,(bkC a0.out 2).trans rfl,(bkC a0.out 3).trans rfl,(bkC a0.out 4).trans rfl⟩ (fun hHeld => ?_)
 clear hK K
 refine norm_ (a' := ?_) ?_ ?_
 rotate_left
 ·show Act.put _ (some 9) _ = _
  simp only [Act.put,sq_]
  rfl
 refine one_ (i := 9) (N := some 12) (bl_ 28671 17) rfl rfl (one_of HT_.out (by kernel_rfl)) (by decide) (fun K hK => ?_)
 refine goes_ Try.func121 (by kernel_rfl) rfl #[.slice A0_2 a9.length c0_2] (by rfl) rfl rfl zM_ ?_
 with_reducible refine (spec_copyInts.calls _ _ a9 b8 _ ?side1 ?side2 A4.out).mono ?_
 (case side1 => exact zC_ (Kd.C_below HR0_2.out HB.out))
 (case side2 => exact HC0_2.out)
 rintro e w14 ⟨v818,rfl,ho0,hb⟩
 refine ⟨_,rfl,?_⟩
 have n0_ := As_ (Kd.R_elder' (zR_ a5.out) (Kd.R_base ho0) hb)
 have n1_ := As_ (Kd.R_below (zR_ b9.out) hb)
 have n2_ := As_ (Kd.R_lower (Kd.R_new' ho0 (Kd.R_lt (zR_ a5.out))) (bwZ (zb2 HB.out a4.out a6.out)))
 have n3_ := As_ (zkb a0.out hb)
 have n4_ := As_ (zkb a1.out hb)
 have n5_ := As_ (bwT (zb2 HB.out a4.out a6.out) hb)
 clear a5 b9 a0 a1 HB
 revert n0_ n1_ n2_ n3_ n4_ n5_;intro a5 b9 d0 a0 a1 HB
 refine hK.out _ _ ⟨(bkC a0.out 0).trans rfl,(bkC a0.out 1).trans rfl,(bkC a0.out 2).trans rfl,(bkC a0.out 3).trans rfl,(bkC a0.out 4).trans rfl⟩ (fun hHeld => ?_)
 clear hK K
 refine norm_ (a' := ?_) ?_ ?_
 rotate_left
 ·show Act.put _ (some 12) _ = _
  simp only [Act.put,sq_]
  rfl
 refine one_ (i := 12) (N := some 15) (bl_ 32767 17) rfl rfl (one_of HT_.out (by kernel_rfl)) (by decide) (fun K hK => ?_)
 refine goes_ Try.func121 (by kernel_rfl) rfl #[.slice A0_3 a8.length c0_3] (by rfl) rfl rfl zM_ ?_
 with_reducible refine (spec_copyInts.calls _ _ a8 b6 _ ?side1 ?side2 A5.out).mono ?_
 (case side1 => exact zC_ (Kd.C_below HR0_3.out HB.out))
 (case side2 => exact HC0_3.out)
 rintro e w15 ⟨v821,rfl,ho0,hb⟩
 refine ⟨_,rfl,?_⟩
 have n0_ := As_ (Kd.R_elder' (zR_ a5.out) (Kd.R_base ho0) hb)
 have n1_ := As_ (Kd.R_below (zR_ b9.out) hb)
 have n2_ := As_ (Kd.R_elder' (zR_ d0.out) (Kd.R_base ho0) hb)
 have n3_ := As_ (Kd.R_lower (Kd.R_new' (Kd.R_new' ho0 (Kd.R_lt (zR_ a5.out))) (Kd.R_lt (zR_ d0.out))) (bwZ (zb2 HB.out a4.out a6.out)))
 have n4_ := As_ (zkb a0.out hb)
 have n5_ := As_ (zkb a1.out hb)
 have n6_ := As_ (bwT (zb2 HB.out a4.out a6.out) hb)
 clear a5 b9 d0 a0 a1 HB
 revert n0_ n1_ n2_ n3_ n4_ n5_ n6_;intro a5 b9 d0 d5 a0 a1 HB
 obtain ⟨Ao16,co16,eo16⟩ := Kd.R_slice d5.out
 (first|subst eo16|(injection eo16 with f1_ f2_ f3_;have f4_ := f1_.symm;have f5_ := f3_.symm;clear f1_ f2_ f3_;subst f4_;subst f5_))
 obtain ⟨Ao17,co17,eo17⟩ := Kd.R_slice d0.out
 (first|subst eo17|(injection eo17 with f1_ f2_ f3_;have f4_ := f1_.symm;have f5_ := f3_.symm;clear f1_ f2_ f3_;subst f4_;subst f5_))
 obtain ⟨Ao18,co18,eo18⟩ := Kd.R_slice b9.out
 (first|subst eo18|(injection eo18 with f1_ f2_ f3_;have f4_ := f1_.symm;have f5_ := f3_.symm;clear f1_ f2_ f3_;subst f4_;subst f5_))
 obtain ⟨Ao19,co19,eo19⟩ := Kd.R_slice a5.out
 (first|subst eo19|(injection eo19 with f1_ f2_ f3_;have f4_ := f1_.symm;have f5_ := f3_.symm;clear f1_ f2_ f3_;subst f4_;subst f5_))
 refine hK.out _ _ ⟨(bkC a0.out 0).trans rfl,(bkC a0.out 1).trans rfl,(bkC a0.out 2).trans rfl,(bkC a0.out 3).trans rfl,(bkC a0.out 4).trans rfl⟩ (fun hHeld => ?_)
 clear hK K
 refine norm_ (a' := ?_) ?_ ?_
 rotate_left
 ·show Act.put _ (some 15) _ = _
  simp only [Act.put,sq_]
  rfl
 refine pQ 15 18 (bl_ 65535 17) HT_ rfl ?_
 refine one_ (i := 16) (N := none) (bl_ 131071 17) rfl rfl (one_of HT_.out (by kernel_rfl)) (by decide) (fun K hK => ?_)
 have g9 : w15.cell? ⟨b0,0,none⟩ = some (.slice none 0 0) := (bkC a1.out 0).trans rfl
 have g4 := bkF a1.out 0
 have d7 := a2.out
 have d8 := b1.out
 have i1 : w15.cell? ⟨b0,1,none⟩ = some (.slice none 0 0) := (bkC a1.out 1).trans rfl
 have g5 := bkF a1.out 1
 have d9 := a2.out
 have e0 := b1.out
 have i2 : w15.cell? ⟨b0,2,none⟩ = some (.slice none 0 0) := (bkC a1.out 2).trans rfl
 have g6 := bkF a1.out 2
 have e1 := a2.out
 have e2 := b1.out
 have i3 : w15.cell? ⟨b0,3,none⟩ = some (.slice none 0 0) := (bkC a1.out 3).trans rfl
 have g7 := bkF a1.out 3
 have e3 := a2.out
 have e4 := b1.out
 have i4 : w15.cell? ⟨b0,4,none⟩ = some (.bool false) := (bkC a1.out 4).trans rfl
 have g8 := bkF a1.out 4
 have e5 := a2.out
 have e6 := b1.out
 refine skip_ (w1 := ?_) (by rfl) rfl ?_ ?_
 rotate_left
 ·go_simp
  rfl
 refine hK.out _ _ ⟨(c5 a2.out (hHeld.1)),(c5 a2.out (hHeld.2.1)),(c5 a2.out (hHeld.2.2.1)),(c5 a2.out (hHeld.2.2.2.1)),(c5 a2.out (hHeld.2.2.2.2))⟩ (fun hHeld => ?_)
 clear hK K
 refine done_ (done_of HT_.out (by kernel_rfl)) ?_
 try go_wp2
 refine bodyPost_ret (results_cell_row rfl _ _ b0 120 #[.slice Ao19 b7.length co19,.slice Ao18 d4.length co18,.slice Ao17 b8.length co17,.slice Ao16 b6.length co16,.bool b4] (0,0) _ rfl (p5 a1.out) Try.underlying120 rfl (by kernel_rfl)) rfl ?_
 exact ⟨_,_,_,_,zE_,by exact Kd.R_mono (rX5 a5.out a1.out) (fun _ hk => ⟨hk.1.1.2,hk.1.2⟩),by exact Kd.R_mono (rX5 b9.out a1.out) (fun _ hk => trivial),by exact Kd.R_mono (rX5 d0.out a1.out) (fun _ hk => ⟨hk.1.1.2,hk.1.2⟩),by exact Kd.R_mono (rX5 d5.out a1.out) (fun _ hk => ⟨hk.1.1.2,hk.1.2⟩),zb2 HB.out a4.out a6.out⟩

end Go.Proofs.Ytbokjhdhpmmpfaa.Q
