import Derived.Test.YtapaegcombfafaaQ0
import Derived.Test.YtapaegcombfafaaQ15
import Derived.Test.YtapaegcombfafaaQ36
import Derived.Test.YtapaegcombfafaaQ37
namespace Go.Proofs.Ytapaegcombfafaa.Q
open Go.RowKit Go.Proofs.YtapaegcombfafaaW.PrintWords Go.Proofs.YtapaegcombfafaaW.PrintLast Go.Proofs.YtapaegcombfafaaW.PrintMore
attribute [local go_sem] max2_int min2_int max_two min_two max_three min_three max_four min_four
set_option linter.unusedVariables false
set_option linter.unusedSimpArgs false
def impl_SameGraph.f (k:Nat) (l0_0:List (S58)) (a0_1:Int) (l1_0:List (S58)) (a1_1:Int):Option (Bool):=(impl_ValidGraph.f k l0_0 a0_1).bind fun t1101=>(if t1101=true then ((impl_ValidGraph.f k l1_0 a1_1).bind fun t1102=>(if t1102=true then ((impl_CodeOf.f k l0_0 a0_1).bind fun t1103=>((impl_CodeOf.f k l1_0 a1_1).bind fun t1106=>((slices_Equal_int_int.f k t1103 t1106).bind fun t1109=>(some t1109)))) else (some false))) else (some false))
set_option maxRecDepth 100000 in
theorem impl_SameGraph.mono:∀ a0 a1 a2 a3 k,LeO (impl_SameGraph.f k a0 a1 a2 a3) (impl_SameGraph.f (k+1) a0 a1 a2 a3):=by
 intro a0 a1 a2 a3 k
 unfold impl_SameGraph.f
 repeat' first
   | (with_reducible exact impl_CodeOf.mono _ _ _)
   | (with_reducible exact impl_ValidGraph.mono _ _ _)
   | (with_reducible exact slices_Equal_int_int.mono _ _ _)
   | (with_reducible exact LeO.refl _)
   | (with_reducible exact LeO.none _)
   | (with_reducible refine LeO.ite ?_ ?_)
   | (with_reducible refine LeO.bind ?_ (fun _=>?_))
   | exact impl_CodeOf.mono _ _ _
   | exact impl_ValidGraph.mono _ _ _
   | exact slices_Equal_int_int.mono _ _ _
   | exact LeO.none _
   | refine LeO.ite ?_ ?_
   | refine LeO.bind ?_ (fun _=>?_)
def impl_SameGraph.T1:Bool × List (List Nat × List Nat):=(true,[([],[]),([0],[0]),([1,1],[1]),([2],[2]),([3,2,2],[2,3]),([2,4],[2,4]),([5,4],[5]),([6],[6]),([7,6,6],[6,7]),([6],[6]),([9,8,6],[6,9]),([8,10,10,6],[6,8,10]),([6,11],[6,11]),([12,11,0,1,2,3,4,5,6,7,8,9,10,11,12],[12])])
def impl_SameGraph.B1:List Nat:=[0,1,3,7,15,31,63,127,255,127,1023,2047,4095,8191]
theorem impl_SameGraph.tab1:rtab .any (opsOf Try.f38 1)=impl_SameGraph.T1:=by kernel_rfl
theorem impl_SameGraph.bits1:waitsOk impl_SameGraph.T1.2 impl_SameGraph.B1=true:=by kernel_rfl
set_option maxHeartbeats 8000000 in
set_option maxRecDepth 100000 in
theorem impl_SameGraph.calls (k:Nat) (A0_0:Option Addr) (c0_0:Nat) (l0_0:List (S58)) (a0_1:Int) (A1_0:Option Addr) (c1_0:Nat) (l1_0:List (S58)) (a1_1:Int) (r:Bool) (w:World) (hr0_0:Kd.C k58 w A0_0 l0_0.length l0_0) (hc0_0:l0_0.length≤c0_0) (hr1_0:Kd.C k58 w A1_0 l1_0.length l1_0) (hc1_0:l1_0.length≤c1_0) (h:impl_SameGraph.f k l0_0 a0_1 l1_0 a1_1=some r) :
  Calls Try.prog 38 #[.agg #[.slice A0_0 l0_0.length c0_0,.int .i64 a0_1],.agg #[.slice A1_0 l1_0.length c1_0,.int .i64 a1_1]] w fun e w'=>e=.returned (.bool r)∧Below w.heap.size w w':=by
 have hu25:=Try.underlying25
 have HR0_0:=As_ hr0_0
 have HC0_0:=As_ hc0_0
 clear hr0_0 hc0_0
 have HR1_0:=As_ hr1_0
 have HC1_0:=As_ hc1_0
 clear hr1_0 hc1_0
 have HB:=As_ (Below.refl w.heap.size w)
 have H:((impl_ValidGraph.f k l0_0 a0_1).bind fun t1101=>(if t1101=true then ((impl_ValidGraph.f k l1_0 a1_1).bind fun t1102=>(if t1102=true then ((impl_CodeOf.f k l0_0 a0_1).bind fun t1103=>((impl_CodeOf.f k l1_0 a1_1).bind fun t1106=>((slices_Equal_int_int.f k t1103 t1106).bind fun t1109=>(some t1109)))) else (some false))) else (some false)))=some r:=h
 clear h
 replace H:=obS H
 obtain ⟨t1101,A30,H⟩:=H
 replace H:(if t1101=true then ((impl_ValidGraph.f k l1_0 a1_1).bind fun t1102=>(if t1102=true then ((impl_CodeOf.f k l0_0 a0_1).bind fun t1103=>((impl_CodeOf.f k l1_0 a1_1).bind fun t1106=>((slices_Equal_int_int.f k t1103 t1106).bind fun t1109=>(some t1109)))) else (some false))) else (some false))=some r:=H
 have A3:=As_ A30
 clear A30
 by_cases c4:t1101=true
 rotate_left
 ·replace c4:=Bool.eq_false_iff.mpr c4
  subst c4
  have H1:(some false)=some r:=by rw [if_neg (show ¬ (false=true) by decide)] at H;exact H
  clear H
  have H:=H1
  clear H1
  obtain rfl:=Option.some.inj H
  go_enter Try.func38,Try.ntmps38
  try go_wp2_with (first|((with_reducible refine gate_dst (N:=2) rfl ?_);refine box_event ?hg (N:=2) ?hd (cs:=#[.slice A0_0 l0_0.length c0_0,.int .i64 a0_1]) (t:=25) ?hr ?_;(case hd=>rfl);(case hg=>rfl);(case hr=>go_simp <;> rfl);intro gb1099 hg w24 hbox hb;have n0_:=As_ (bwT (zb0 HB.out) hb);have n1_:=As_ (hbox);have n2_:=As_ ((by rw [hg];exact (bwZ (zb0 HB.out)):w.heap.size≤gb1099));have n3_:=As_ ((by rw [hg];exact (bwZ (zb0 HB.out)):w.heap.size≤gb1099));clear HB;revert n0_ n1_ n2_ n3_;intro HB BK1099 GW1099 GE1099;clear hb hbox hg)|((with_reducible refine gate_dst (N:=3) rfl ?_);refine box_event ?hg (N:=3) ?hd (cs:=#[.slice A1_0 l1_0.length c1_0,.int .i64 a1_1]) (t:=25) ?hr ?_;(case hd=>rfl);(case hg=>rfl);(case hr=>go_simp <;> rfl);intro gb1100 hg w25 hbox hb;have n0_:=As_ (zkb BK1099.out hb);have n1_:=As_ (bwT (zb1 HB.out GE1099.out) hb);have n2_:=As_ (hbox);have n3_:=As_ ((by rw [hg];exact (bwZ (zb1 HB.out GE1099.out)):w.heap.size≤gb1100));have n4_:=As_ ((by rw [hg];exact (bwZ (zb1 HB.out GE1099.out)):w.heap.size≤gb1100));have n5_:=As_ ((by rw [hg];exact Nat.ne_of_lt (zkl BK1099.out):gb1099≠gb1100));have n6_:=As_ ((by rw [hg];exact Nat.ne_of_gt (zkl BK1099.out):gb1100≠gb1099));clear BK1099 HB;revert n0_ n1_ n2_ n3_ n4_ n5_ n6_;intro BK1099 HB BK1100 GW1100 GE1100 NB1099_1100 NB1100_1099;clear hb hbox hg))
  have n0_:=As_ (bkD BK1099.out)
  have n1_:=As_ (bkD BK1100.out)
  have n2_:=As_ (bwD HB.out)
  clear BK1099 BK1100 HB
  revert n0_ n1_ n2_;intro BK1099 BK1100 HB
  refine start_ (n:=14) (S:=fun w'=>w'.cell? ⟨gb1099,0,none⟩=some (.slice A0_0 l0_0.length c0_0)∧w'.cell? ⟨gb1099,1,none⟩=some (.int .i64 a0_1)) (ds:=[]) (bl_ 0 14) (by kernel_rfl) rfl rfl ⟨(bkC BK1099.out 0).trans rfl,(bkC BK1099.out 1).trans rfl⟩ (fun hHeld=>?_);refine with_tabW impl_SameGraph.tab1 impl_SameGraph.bits1 (fun HT_ HW_=>?_)
  generalize w25.drew=w26 at BK1099 BK1100 HB hHeld ⊢
  refine tP 0 5 (bl_ 1 14) ?_ HT_ HW_ rfl (.inl ⟨by rfl,?_⟩) hHeld ?_ ?_ ?_;rotate_left;(rintro w' ⟨s0,s1⟩;go_simp;with_reducible rfl);rotate_left;(simp only [Act.put,sq_];rfl)
  refine one_ (i:=1) (N:=some 6) (bl_ 3 14) rfl rfl (one_of HT_.out (by kernel_rfl)) (by decide) (fun K hK=>?_)
  refine goes_ Try.func37 (by kernel_rfl) rfl #[.agg #[.slice A0_0 l0_0.length c0_0,.int .i64 a0_1]] (by rfl) rfl rfl zM_ ?_
  with_reducible refine (impl_ValidGraph.calls k _ _ l0_0 a0_1 false _ ?side1 ?side2 A3.out).mono ?_
  (case side1=>exact zC_ (Kd.C_below HR0_0.out HB.out))
  (case side2=>exact HC0_0.out)
  rintro e w27 ⟨rfl,hb⟩
  refine ⟨_,rfl,?_⟩
  have n0_:=As_ (zkb BK1099.out hb)
  have n1_:=As_ (zkb BK1100.out hb)
  have n2_:=As_ (bwT (zb2 HB.out GE1099.out GE1100.out) hb)
  clear BK1099 BK1100 HB
  revert n0_ n1_ n2_;intro BK1099 BK1100 HB
  refine hK.out _ _ ⟨(bkC BK1099.out 0).trans rfl,(bkC BK1099.out 1).trans rfl⟩ (fun hHeld=>?_)
  clear hK K
  refine norm_ (a':=?_) ?_ ?_
  rotate_left
  ·show Act.put _ (some 6) _=_
   simp only [Act.put,sq_]
   rfl
  refine pQ 2 7 (bl_ 7 14) HT_ rfl ?_
  refine uP 3 8 (bl_ 15 14) ?_ HT_ rfl (.inr ⟨by rfl,rfl⟩) ?_ ?_;rotate_left;(simp only [Act.put,sq_];rfl)
  refine uP 4 9 (bl_ 31 14) ?_ HT_ rfl (.inr ⟨by rfl,rfl⟩) ?_ ?_;rotate_left;(simp only [Act.put,sq_];rfl)
  refine pQ 5 10 (bl_ 63 14) HT_ rfl ?_
  refine pQ 6 11 (bl_ 127 14) HT_ rfl ?_
  refine uP 7 12 (bl_ 255 14) ?_ HT_ rfl (.inr ⟨by rfl,rfl⟩) ?_ ?_;rotate_left;(simp only [Act.put,sq_];rfl)
  refine uP 8 13 (bl_ 511 14) ?_ HT_ rfl (.inr ⟨by rfl,rfl⟩) ?_ ?_;rotate_left;(simp only [Act.put,sq_];rfl)
  refine uP 9 14 (bl_ 1023 14) ?_ HT_ rfl (.inr ⟨by rfl,rfl⟩) ?_ ?_;rotate_left;(simp only [Act.put,sq_];rfl)
  refine uP 10 15 (bl_ 2047 14) ?_ HT_ rfl (.inr ⟨by rfl,rfl⟩) ?_ ?_;rotate_left;(simp only [Act.put,sq_];rfl)
  refine uP 11 16 (bl_ 4095 14) ?_ HT_ rfl (.inr ⟨by rfl,rfl⟩) ?_ ?_;rotate_left;(simp only [Act.put,sq_];rfl)
  refine pQ 12 17 (bl_ 8191 14) HT_ rfl ?_
  refine pQ 13 4 (bl_ 16383 14) HT_ rfl ?_
  refine done_ (done_of HT_.out (by kernel_rfl)) ?_
  try go_wp2
  go_ret
  exact ⟨zE_,zb2 HB.out GE1099.out GE1100.out⟩
 subst c4
 have H1:((impl_ValidGraph.f k l1_0 a1_1).bind fun t1102=>(if t1102=true then ((impl_CodeOf.f k l0_0 a0_1).bind fun t1103=>((impl_CodeOf.f k l1_0 a1_1).bind fun t1106=>((slices_Equal_int_int.f k t1103 t1106).bind fun t1109=>(some t1109)))) else (some false)))=some r:=by rw [if_pos rfl] at H;exact H
 clear H
 have H:=H1
 clear H1
 replace H:=obS H
 obtain ⟨t1102,A50,H⟩:=H
 replace H:(if t1102=true then ((impl_CodeOf.f k l0_0 a0_1).bind fun t1103=>((impl_CodeOf.f k l1_0 a1_1).bind fun t1106=>((slices_Equal_int_int.f k t1103 t1106).bind fun t1109=>(some t1109)))) else (some false))=some r:=H
 have A5:=As_ A50
 clear A50
 by_cases c6:t1102=true
 rotate_left
 ·replace c6:=Bool.eq_false_iff.mpr c6
  subst c6
  have H1:(some false)=some r:=by rw [if_neg (show ¬ (false=true) by decide)] at H;exact H
  clear H
  have H:=H1
  clear H1
  obtain rfl:=Option.some.inj H
  go_enter Try.func38,Try.ntmps38
  try go_wp2_with (first|((with_reducible refine gate_dst (N:=2) rfl ?_);refine box_event ?hg (N:=2) ?hd (cs:=#[.slice A0_0 l0_0.length c0_0,.int .i64 a0_1]) (t:=25) ?hr ?_;(case hd=>rfl);(case hg=>rfl);(case hr=>go_simp <;> rfl);intro gb1099 hg w19 hbox hb;have n0_:=As_ (bwT (zb0 HB.out) hb);have n1_:=As_ (hbox);have n2_:=As_ ((by rw [hg];exact (bwZ (zb0 HB.out)):w.heap.size≤gb1099));have n3_:=As_ ((by rw [hg];exact (bwZ (zb0 HB.out)):w.heap.size≤gb1099));clear HB;revert n0_ n1_ n2_ n3_;intro HB BK1099 GW1099 GE1099;clear hb hbox hg)|((with_reducible refine gate_dst (N:=3) rfl ?_);refine box_event ?hg (N:=3) ?hd (cs:=#[.slice A1_0 l1_0.length c1_0,.int .i64 a1_1]) (t:=25) ?hr ?_;(case hd=>rfl);(case hg=>rfl);(case hr=>go_simp <;> rfl);intro gb1100 hg w20 hbox hb;have n0_:=As_ (zkb BK1099.out hb);have n1_:=As_ (bwT (zb1 HB.out GE1099.out) hb);have n2_:=As_ (hbox);have n3_:=As_ ((by rw [hg];exact (bwZ (zb1 HB.out GE1099.out)):w.heap.size≤gb1100));have n4_:=As_ ((by rw [hg];exact (bwZ (zb1 HB.out GE1099.out)):w.heap.size≤gb1100));have n5_:=As_ ((by rw [hg];exact Nat.ne_of_lt (zkl BK1099.out):gb1099≠gb1100));have n6_:=As_ ((by rw [hg];exact Nat.ne_of_gt (zkl BK1099.out):gb1100≠gb1099));clear BK1099 HB;revert n0_ n1_ n2_ n3_ n4_ n5_ n6_;intro BK1099 HB BK1100 GW1100 GE1100 NB1099_1100 NB1100_1099;clear hb hbox hg))
  have n0_:=As_ (bkD BK1099.out)
  have n1_:=As_ (bkD BK1100.out)
  have n2_:=As_ (bwD HB.out)
  clear BK1099 BK1100 HB
  revert n0_ n1_ n2_;intro BK1099 BK1100 HB
  refine start_ (n:=14) (S:=fun w'=>w'.cell? ⟨gb1099,0,none⟩=some (.slice A0_0 l0_0.length c0_0)∧w'.cell? ⟨gb1099,1,none⟩=some (.int .i64 a0_1)∧w'.cell? ⟨gb1100,0,none⟩=some (.slice A1_0 l1_0.length c1_0)∧w'.cell? ⟨gb1100,1,none⟩=some (.int .i64 a1_1)) (ds:=[]) (bl_ 0 14) (by kernel_rfl) rfl rfl ⟨(bkC BK1099.out 0).trans rfl,(bkC BK1099.out 1).trans rfl,(bkC BK1100.out 0).trans rfl,(bkC BK1100.out 1).trans rfl⟩ (fun hHeld=>?_);refine with_tabW impl_SameGraph.tab1 impl_SameGraph.bits1 (fun HT_ HW_=>?_)
  generalize w20.drew=w21 at BK1099 BK1100 HB hHeld ⊢
  refine tP 0 5 (bl_ 1 14) ?_ HT_ HW_ rfl (.inl ⟨by rfl,?_⟩) hHeld ?_ ?_ ?_;rotate_left;(rintro w' ⟨s0,s1,s2,s3⟩;go_simp;with_reducible rfl);rotate_left;(simp only [Act.put,sq_];rfl)
  refine one_ (i:=1) (N:=some 6) (bl_ 3 14) rfl rfl (one_of HT_.out (by kernel_rfl)) (by decide) (fun K hK=>?_)
  refine goes_ Try.func37 (by kernel_rfl) rfl #[.agg #[.slice A0_0 l0_0.length c0_0,.int .i64 a0_1]] (by rfl) rfl rfl zM_ ?_
  with_reducible refine (impl_ValidGraph.calls k _ _ l0_0 a0_1 true _ ?side1 ?side2 A3.out).mono ?_
  (case side1=>exact zC_ (Kd.C_below HR0_0.out HB.out))
  (case side2=>exact HC0_0.out)
  rintro e w22 ⟨rfl,hb⟩
  refine ⟨_,rfl,?_⟩
  have n0_:=As_ (zkb BK1099.out hb)
  have n1_:=As_ (zkb BK1100.out hb)
  have n2_:=As_ (bwT (zb2 HB.out GE1099.out GE1100.out) hb)
  clear BK1099 BK1100 HB
  revert n0_ n1_ n2_;intro BK1099 BK1100 HB
  refine hK.out _ _ ⟨(bkC BK1099.out 0).trans rfl,(bkC BK1099.out 1).trans rfl,(bkC BK1100.out 0).trans rfl,(bkC BK1100.out 1).trans rfl⟩ (fun hHeld=>?_)
  clear hK K
  refine norm_ (a':=?_) ?_ ?_
  rotate_left
  ·show Act.put _ (some 6) _=_
   simp only [Act.put,sq_]
   rfl
  refine pQ 2 7 (bl_ 7 14) HT_ rfl ?_
  refine tP 3 8 (bl_ 15 14) ?_ HT_ HW_ rfl (.inl ⟨by rfl,?_⟩) hHeld ?_ ?_ ?_;rotate_left;(rintro w' ⟨s0,s1,s2,s3⟩;go_simp;with_reducible rfl);rotate_left;(simp only [Act.put,sq_];rfl)
  refine one_ (i:=4) (N:=some 9) (bl_ 31 14) rfl rfl (one_of HT_.out (by kernel_rfl)) (by decide) (fun K hK=>?_)
  refine goes_ Try.func37 (by kernel_rfl) rfl #[.agg #[.slice A1_0 l1_0.length c1_0,.int .i64 a1_1]] (by rfl) rfl rfl zM_ ?_
  with_reducible refine (impl_ValidGraph.calls k _ _ l1_0 a1_1 false _ ?side1 ?side2 A5.out).mono ?_
  (case side1=>exact zC_ (Kd.C_below HR1_0.out HB.out))
  (case side2=>exact HC1_0.out)
  rintro e w23 ⟨rfl,hb⟩
  refine ⟨_,rfl,?_⟩
  have n0_:=As_ (zkb BK1099.out hb)
  have n1_:=As_ (zkb BK1100.out hb)
  have n2_:=As_ (bwT (zb2 HB.out GE1099.out GE1100.out) hb)
  clear BK1099 BK1100 HB
  revert n0_ n1_ n2_;intro BK1099 BK1100 HB
  refine hK.out _ _ ⟨(bkC BK1099.out 0).trans rfl,(bkC BK1099.out 1).trans rfl,(bkC BK1100.out 0).trans rfl,(bkC BK1100.out 1).trans rfl⟩ (fun hHeld=>?_)
  clear hK K
  refine norm_ (a':=?_) ?_ ?_
  rotate_left
  ·show Act.put _ (some 9) _=_
   simp only [Act.put,sq_]
   rfl
  refine pQ 5 10 (bl_ 63 14) HT_ rfl ?_
  refine pQ 6 11 (bl_ 127 14) HT_ rfl ?_
  refine uP 7 12 (bl_ 255 14) ?_ HT_ rfl (.inr ⟨by rfl,rfl⟩) ?_ ?_;rotate_left;(simp only [Act.put,sq_];rfl)
  refine uP 8 13 (bl_ 511 14) ?_ HT_ rfl (.inr ⟨by rfl,rfl⟩) ?_ ?_;rotate_left;(simp only [Act.put,sq_];rfl)
  refine uP 9 14 (bl_ 1023 14) ?_ HT_ rfl (.inr ⟨by rfl,rfl⟩) ?_ ?_;rotate_left;(simp only [Act.put,sq_];rfl)
  refine uP 10 15 (bl_ 2047 14) ?_ HT_ rfl (.inr ⟨by rfl,rfl⟩) ?_ ?_;rotate_left;(simp only [Act.put,sq_];rfl)
  refine uP 11 16 (bl_ 4095 14) ?_ HT_ rfl (.inr ⟨by rfl,rfl⟩) ?_ ?_;rotate_left;(simp only [Act.put,sq_];rfl)
  refine pQ 12 17 (bl_ 8191 14) HT_ rfl ?_
  refine pQ 13 4 (bl_ 16383 14) HT_ rfl ?_
  refine done_ (done_of HT_.out (by kernel_rfl)) ?_
  try go_wp2
  go_ret
  exact ⟨zE_,zb2 HB.out GE1099.out GE1100.out⟩
 subst c6
 have H1:((impl_CodeOf.f k l0_0 a0_1).bind fun t1103=>((impl_CodeOf.f k l1_0 a1_1).bind fun t1106=>((slices_Equal_int_int.f k t1103 t1106).bind fun t1109=>(some t1109))))=some r:=by rw [if_pos rfl] at H;exact H
 clear H
 have H:=H1
 clear H1
 replace H:=obS H
 obtain ⟨t1103,A70,H⟩:=H
 replace H:((impl_CodeOf.f k l1_0 a1_1).bind fun t1106=>((slices_Equal_int_int.f k t1103 t1106).bind fun t1109=>(some t1109)))=some r:=H
 have A7:=As_ A70
 clear A70
 replace H:=obS H
 obtain ⟨t1106,A80,H⟩:=H
 replace H:((slices_Equal_int_int.f k t1103 t1106).bind fun t1109=>(some t1109))=some r:=H
 have A8:=As_ A80
 clear A80
 replace H:=obS H
 obtain ⟨t1109,A90,H⟩:=H
 replace H:(some t1109)=some r:=H
 have A9:=As_ A90
 clear A90
 obtain rfl:=Option.some.inj H
 go_enter Try.func38,Try.ntmps38
 try go_wp2_with (first|((with_reducible refine gate_dst (N:=2) rfl ?_);refine box_event ?hg (N:=2) ?hd (cs:=#[.slice A0_0 l0_0.length c0_0,.int .i64 a0_1]) (t:=25) ?hr ?_;(case hd=>rfl);(case hg=>rfl);(case hr=>go_simp <;> rfl);intro gb1099 hg w10 hbox hb;have n0_:=As_ (bwT (zb0 HB.out) hb);have n1_:=As_ (hbox);have n2_:=As_ ((by rw [hg];exact (bwZ (zb0 HB.out)):w.heap.size≤gb1099));have n3_:=As_ ((by rw [hg];exact (bwZ (zb0 HB.out)):w.heap.size≤gb1099));clear HB;revert n0_ n1_ n2_ n3_;intro HB BK1099 GW1099 GE1099;clear hb hbox hg)|((with_reducible refine gate_dst (N:=3) rfl ?_);refine box_event ?hg (N:=3) ?hd (cs:=#[.slice A1_0 l1_0.length c1_0,.int .i64 a1_1]) (t:=25) ?hr ?_;(case hd=>rfl);(case hg=>rfl);(case hr=>go_simp <;> rfl);intro gb1100 hg w11 hbox hb;have n0_:=As_ (zkb BK1099.out hb);have n1_:=As_ (bwT (zb1 HB.out GE1099.out) hb);have n2_:=As_ (hbox);have n3_:=As_ ((by rw [hg];exact (bwZ (zb1 HB.out GE1099.out)):w.heap.size≤gb1100));have n4_:=As_ ((by rw [hg];exact (bwZ (zb1 HB.out GE1099.out)):w.heap.size≤gb1100));have n5_:=As_ ((by rw [hg];exact Nat.ne_of_lt (zkl BK1099.out):gb1099≠gb1100));have n6_:=As_ ((by rw [hg];exact Nat.ne_of_gt (zkl BK1099.out):gb1100≠gb1099));clear BK1099 HB;revert n0_ n1_ n2_ n3_ n4_ n5_ n6_;intro BK1099 HB BK1100 GW1100 GE1100 NB1099_1100 NB1100_1099;clear hb hbox hg))
 have n0_:=As_ (bkD BK1099.out)
 have n1_:=As_ (bkD BK1100.out)
 have n2_:=As_ (bwD HB.out)
 clear BK1099 BK1100 HB
 revert n0_ n1_ n2_;intro BK1099 BK1100 HB
 refine start_ (n:=14) (S:=fun w'=>w'.cell? ⟨gb1099,0,none⟩=some (.slice A0_0 l0_0.length c0_0)∧w'.cell? ⟨gb1099,1,none⟩=some (.int .i64 a0_1)∧w'.cell? ⟨gb1100,0,none⟩=some (.slice A1_0 l1_0.length c1_0)∧w'.cell? ⟨gb1100,1,none⟩=some (.int .i64 a1_1)) (ds:=[]) (bl_ 0 14) (by kernel_rfl) rfl rfl ⟨(bkC BK1099.out 0).trans rfl,(bkC BK1099.out 1).trans rfl,(bkC BK1100.out 0).trans rfl,(bkC BK1100.out 1).trans rfl⟩ (fun hHeld=>?_);refine with_tabW impl_SameGraph.tab1 impl_SameGraph.bits1 (fun HT_ HW_=>?_)
 generalize w11.drew=w12 at BK1099 BK1100 HB hHeld ⊢
 refine tP 0 5 (bl_ 1 14) ?_ HT_ HW_ rfl (.inl ⟨by rfl,?_⟩) hHeld ?_ ?_ ?_;rotate_left;(rintro w' ⟨s0,s1,s2,s3⟩;go_simp;with_reducible rfl);rotate_left;(simp only [Act.put,sq_];rfl)
 refine one_ (i:=1) (N:=some 6) (bl_ 3 14) rfl rfl (one_of HT_.out (by kernel_rfl)) (by decide) (fun K hK=>?_)
 refine goes_ Try.func37 (by kernel_rfl) rfl #[.agg #[.slice A0_0 l0_0.length c0_0,.int .i64 a0_1]] (by rfl) rfl rfl zM_ ?_
 with_reducible refine (impl_ValidGraph.calls k _ _ l0_0 a0_1 true _ ?side1 ?side2 A3.out).mono ?_
 (case side1=>exact zC_ (Kd.C_below HR0_0.out HB.out))
 (case side2=>exact HC0_0.out)
 rintro e w13 ⟨rfl,hb⟩
 refine ⟨_,rfl,?_⟩
 have n0_:=As_ (zkb BK1099.out hb)
 have n1_:=As_ (zkb BK1100.out hb)
 have n2_:=As_ (bwT (zb2 HB.out GE1099.out GE1100.out) hb)
 clear BK1099 BK1100 HB
 revert n0_ n1_ n2_;intro BK1099 BK1100 HB
 refine hK.out _ _ ⟨(bkC BK1099.out 0).trans rfl,(bkC BK1099.out 1).trans rfl,(bkC BK1100.out 0).trans rfl,(bkC BK1100.out 1).trans rfl⟩ (fun hHeld=>?_)
 clear hK K
 refine norm_ (a':=?_) ?_ ?_
 rotate_left
 ·show Act.put _ (some 6) _=_
  simp only [Act.put,sq_]
  rfl
 refine pQ 2 7 (bl_ 7 14) HT_ rfl ?_
 refine tP 3 8 (bl_ 15 14) ?_ HT_ HW_ rfl (.inl ⟨by rfl,?_⟩) hHeld ?_ ?_ ?_;rotate_left;(rintro w' ⟨s0,s1,s2,s3⟩;go_simp;with_reducible rfl);rotate_left;(simp only [Act.put,sq_];rfl)
 refine one_ (i:=4) (N:=some 9) (bl_ 31 14) rfl rfl (one_of HT_.out (by kernel_rfl)) (by decide) (fun K hK=>?_)
 refine goes_ Try.func37 (by kernel_rfl) rfl #[.agg #[.slice A1_0 l1_0.length c1_0,.int .i64 a1_1]] (by rfl) rfl rfl zM_ ?_
 with_reducible refine (impl_ValidGraph.calls k _ _ l1_0 a1_1 true _ ?side1 ?side2 A5.out).mono ?_
 (case side1=>exact zC_ (Kd.C_below HR1_0.out HB.out))
 (case side2=>exact HC1_0.out)
 rintro e w14 ⟨rfl,hb⟩
 refine ⟨_,rfl,?_⟩
 have n0_:=As_ (zkb BK1099.out hb)
 have n1_:=As_ (zkb BK1100.out hb)
 have n2_:=As_ (bwT (zb2 HB.out GE1099.out GE1100.out) hb)
 clear BK1099 BK1100 HB
 revert n0_ n1_ n2_;intro BK1099 BK1100 HB
 refine hK.out _ _ ⟨(bkC BK1099.out 0).trans rfl,(bkC BK1099.out 1).trans rfl,(bkC BK1100.out 0).trans rfl,(bkC BK1100.out 1).trans rfl⟩ (fun hHeld=>?_)
 clear hK K
 refine norm_ (a':=?_) ?_ ?_
 rotate_left
 ·show Act.put _ (some 9) _=_
  simp only [Act.put,sq_]
  rfl
 refine pQ 5 10 (bl_ 63 14) HT_ rfl ?_
 refine pQ 6 11 (bl_ 127 14) HT_ rfl ?_
 refine tP 7 12 (bl_ 255 14) ?_ HT_ HW_ rfl (.inl ⟨by rfl,?_⟩) hHeld ?_ ?_ ?_;rotate_left;(rintro w' ⟨s0,s1,s2,s3⟩;go_simp;with_reducible rfl);rotate_left;(simp only [Act.put,sq_];rfl)
 refine tP 9 14 (bl_ 767 14) ?_ HT_ HW_ rfl (.inl ⟨by rfl,?_⟩) hHeld ?_ ?_ ?_;rotate_left;(rintro w' ⟨s0,s1,s2,s3⟩;go_simp;with_reducible rfl);rotate_left;(simp only [Act.put,sq_];rfl)
 refine one_ (i:=8) (N:=some 13) (bl_ 1023 14) rfl rfl (one_of HT_.out (by kernel_rfl)) (by decide) (fun K hK=>?_)
 refine goes_ Try.func15 (by kernel_rfl) rfl #[.agg #[.slice A0_0 l0_0.length c0_0,.int .i64 a0_1]] (by rfl) rfl rfl zM_ ?_
 with_reducible refine (impl_CodeOf.calls k _ _ l0_0 a0_1 t1103 _ ?side1 ?side2 A7.out).mono ?_
 (case side1=>exact zC_ (Kd.C_below HR0_0.out HB.out))
 (case side2=>exact HC0_0.out)
 rintro e w15 ⟨v1104,rfl,ho0,hb⟩
 refine ⟨_,rfl,?_⟩
 have n0_:=As_ (Kd.R_lower ho0 (bwZ (zb2 HB.out GE1099.out GE1100.out)))
 have n1_:=As_ (zkb BK1099.out hb)
 have n2_:=As_ (zkb BK1100.out hb)
 have n3_:=As_ (bwT (zb2 HB.out GE1099.out GE1100.out) hb)
 clear BK1099 BK1100 HB
 revert n0_ n1_ n2_ n3_;intro HO1105 BK1099 BK1100 HB
 refine hK.out _ _ ⟨(bkC BK1099.out 0).trans rfl,(bkC BK1099.out 1).trans rfl,(bkC BK1100.out 0).trans rfl,(bkC BK1100.out 1).trans rfl⟩ (fun hHeld=>?_)
 clear hK K
 refine norm_ (a':=?_) ?_ ?_
 rotate_left
 ·show Act.put _ (some 13) _=_
  simp only [Act.put,sq_]
  rfl
 refine one_ (i:=10) (N:=some 15) (bl_ 2047 14) rfl rfl (one_of HT_.out (by kernel_rfl)) (by decide) (fun K hK=>?_)
 refine goes_ Try.func15 (by kernel_rfl) rfl #[.agg #[.slice A1_0 l1_0.length c1_0,.int .i64 a1_1]] (by rfl) rfl rfl zM_ ?_
 with_reducible refine (impl_CodeOf.calls k _ _ l1_0 a1_1 t1106 _ ?side1 ?side2 A8.out).mono ?_
 (case side1=>exact zC_ (Kd.C_below HR1_0.out HB.out))
 (case side2=>exact HC1_0.out)
 rintro e w16 ⟨v1107,rfl,ho0,hb⟩
 refine ⟨_,rfl,?_⟩
 have n0_:=As_ (Kd.R_elder' (zR_ HO1105.out) (Kd.R_base ho0) hb)
 have n1_:=As_ (Kd.R_lower (Kd.R_new' ho0 (Kd.R_lt (zR_ HO1105.out))) (bwZ (zb2 HB.out GE1099.out GE1100.out)))
 have n2_:=As_ (zkb BK1099.out hb)
 have n3_:=As_ (zkb BK1100.out hb)
 have n4_:=As_ (bwT (zb2 HB.out GE1099.out GE1100.out) hb)
 clear HO1105 BK1099 BK1100 HB
 revert n0_ n1_ n2_ n3_ n4_;intro HO1105 HO1108 BK1099 BK1100 HB
 obtain ⟨Ao17,co17,eo17⟩:=Kd.R_slice HO1105.out
 (first|subst eo17|(injection eo17 with f1_ f2_ f3_;have f4_:=f1_.symm;have f5_:=f3_.symm;clear f1_ f2_ f3_;subst f4_;subst f5_))
 obtain ⟨Ao18,co18,eo18⟩:=Kd.R_slice HO1108.out
 (first|subst eo18|(injection eo18 with f1_ f2_ f3_;have f4_:=f1_.symm;have f5_:=f3_.symm;clear f1_ f2_ f3_;subst f4_;subst f5_))
 refine hK.out _ _ ⟨(bkC BK1099.out 0).trans rfl,(bkC BK1099.out 1).trans rfl,(bkC BK1100.out 0).trans rfl,(bkC BK1100.out 1).trans rfl⟩ (fun hHeld=>?_)
 clear hK K
 refine norm_ (a':=?_) ?_ ?_
 rotate_left
 ·show Act.put _ (some 15) _=_
  simp only [Act.put,sq_]
  rfl
 refine one_ (i:=11) (N:=some 16) (bl_ 4095 14) rfl rfl (one_of HT_.out (by kernel_rfl)) (by decide) (fun K hK=>?_)
 refine goes_ Try.func74 (by kernel_rfl) rfl #[.slice Ao17 t1103.length co17,.slice Ao18 t1106.length co18] (by rfl) rfl rfl zM_ ?_
 with_reducible refine (slices_Equal_int_int.calls k _ _ t1103 _ _ t1106 t1109 _ ?side1 ?side2 ?side3 ?side4 A9.out).mono ?_
 (case side1=>exact zC_ (Kd.R_reads' HO1105.out).2.2)
 (case side2=>exact (Kd.R_reads' HO1105.out).2.1)
 (case side3=>exact zC_ (Kd.R_reads' HO1108.out).2.2)
 (case side4=>exact (Kd.R_reads' HO1108.out).2.1)
 rintro e w' ⟨rfl,⟨nd,rfl⟩⟩
 refine ⟨_,rfl,?_⟩
 refine hK.out _ _ ⟨(bkC BK1099.out 0).trans rfl,(bkC BK1099.out 1).trans rfl,(bkC BK1100.out 0).trans rfl,(bkC BK1100.out 1).trans rfl⟩ (fun hHeld=>?_)
 clear hK K
 refine norm_ (a':=?_) ?_ ?_
 rotate_left
 ·show Act.put _ (some 16) _=_
  simp only [Act.put,sq_]
  rfl
 refine pQ 12 17 (bl_ 8191 14) HT_ rfl ?_
 refine pQ 13 4 (bl_ 16383 14) HT_ rfl ?_
 refine done_ (done_of HT_.out (by kernel_rfl)) ?_
 try go_wp2
 go_ret
 exact ⟨zE_,zb2 HB.out GE1099.out GE1100.out⟩
end Go.Proofs.Ytapaegcombfafaa.Q
