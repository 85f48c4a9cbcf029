import Derived.Test.YtfhakhbmbnbneaaQ0
import Derived.Test.YtfhakhbmbnbneaaQ62
namespace Go.Proofs.Ytfhakhbmbnbneaa.Q
open Go.RowKit Go.Proofs.YtfhakhbmbnbneaaW.PrintWords Go.Proofs.YtfhakhbmbnbneaaW.PrintLast Go.Proofs.YtfhakhbmbnbneaaW.PrintMore
attribute [local go_sem] max2_int min2_int max_two min_two max_three min_three max_four min_four
set_option linter.unusedVariables false
set_option linter.unusedSimpArgs false
def laws_equalGraph.f (k:Nat) (l0_0:List (S45)) (a0_1:Int) (l1_0:List (S45)) (a1_1:Int):Option (Bool):=if a0_1=a1_1 then ((laws_equalNodes.f k l0_0 l1_0).bind fun t657=>(some t657)) else (some false)
set_option maxRecDepth 100000 in
theorem laws_equalGraph.mono:∀ a0 a1 a2 a3 k,LeO (laws_equalGraph.f k a0 a1 a2 a3) (laws_equalGraph.f (k+1) a0 a1 a2 a3):=by
 intro a0 a1 a2 a3 k
 unfold laws_equalGraph.f
 repeat' first
   | (with_reducible exact laws_equalNodes.mono _ _ _)
   | (with_reducible exact LeO.refl _)
   | (with_reducible exact LeO.none _)
   | (with_reducible refine LeO.ite ?_ ?_)
   | (with_reducible refine LeO.bind ?_ (fun _=>?_))
   | exact laws_equalNodes.mono _ _ _
   | exact LeO.none _
   | refine LeO.ite ?_ ?_
   | refine LeO.bind ?_ (fun _=>?_)
set_option maxHeartbeats 8000000 in
set_option maxRecDepth 100000 in
theorem laws_equalGraph.calls (k:Nat) (A0_0:Option Addr) (c0_0:Nat) (l0_0:List (S45)) (a0_1:Int) (A1_0:Option Addr) (c1_0:Nat) (l1_0:List (S45)) (a1_1:Int) (r:Bool) (w:World) (hr0_0:Kd.C k45 w A0_0 l0_0.length l0_0) (hc0_0:l0_0.length≤c0_0) (hr1_0:Kd.C k45 w A1_0 l1_0.length l1_0) (hc1_0:l1_0.length≤c1_0) (h:laws_equalGraph.f k l0_0 a0_1 l1_0 a1_1=some r) :
  Calls Try.prog 25 #[.agg #[.slice A0_0 l0_0.length c0_0,.int .i64 a0_1],.agg #[.slice A1_0 l1_0.length c1_0,.int .i64 a1_1]] w fun e w'=>e=.returned (.bool r)∧Below w.heap.size w w':=by
 have hu29:=Try.underlying29
 have HR0_0:=As_ hr0_0
 have HC0_0:=As_ hc0_0
 clear hr0_0 hc0_0
 have HR1_0:=As_ hr1_0
 have HC1_0:=As_ hc1_0
 clear hr1_0 hc1_0
 have HB:=As_ (Below.refl w.heap.size w)
 have H:(if a0_1=a1_1 then ((laws_equalNodes.f k l0_0 l1_0).bind fun t657=>(some t657)) else (some false))=some r:=h
 clear h
 by_cases c3:a0_1=a1_1
 rotate_left
 ·rw [if_neg c3] at H
  have c3b0:(a0_1 == a1_1)=false:=beq_eq_false_iff_ne.mpr c3
  have c3b1:(a0_1 != a1_1)=true:=bne_iff_ne.mpr c3
  obtain rfl:=Option.some.inj H
  go_enter Try.func25,Try.ntmps25
  go_wp2_with (first|((with_reducible refine gate_dst (N:=2) rfl ?_);refine box_event ?hg (N:=2) ?hd (cs:=#[.slice A0_0 l0_0.length c0_0,.int .i64 a0_1]) (t:=29) ?hr ?_;(case hd=>rfl);(case hg=>rfl);(case hr=>go_simp <;> rfl);intro gb655 hg w11 hbox hb;have n0_:=As_ (bwT (zb0 HB.out) hb);have n1_:=As_ (hbox);have n2_:=As_ ((by rw [hg];exact (bwZ (zb0 HB.out)):w.heap.size≤gb655));have n3_:=As_ ((by rw [hg];exact (bwZ (zb0 HB.out)):w.heap.size≤gb655));clear HB;revert n0_ n1_ n2_ n3_;intro HB BK655 GW655 GE655;clear hb hbox hg)|((with_reducible refine gate_dst (N:=3) rfl ?_);refine box_event ?hg (N:=3) ?hd (cs:=#[.slice A1_0 l1_0.length c1_0,.int .i64 a1_1]) (t:=29) ?hr ?_;(case hd=>rfl);(case hg=>rfl);(case hr=>go_simp <;> rfl);intro gb656 hg w12 hbox hb;have n0_:=As_ (zkb BK655.out hb);have n1_:=As_ (bwT (zb1 HB.out GE655.out) hb);have n2_:=As_ (hbox);have n3_:=As_ ((by rw [hg];exact (bwZ (zb1 HB.out GE655.out)):w.heap.size≤gb656));have n4_:=As_ ((by rw [hg];exact (bwZ (zb1 HB.out GE655.out)):w.heap.size≤gb656));have n5_:=As_ ((by rw [hg];exact Nat.ne_of_lt (zkl BK655.out):gb655≠gb656));have n6_:=As_ ((by rw [hg];exact Nat.ne_of_gt (zkl BK655.out):gb656≠gb655));clear BK655 HB;revert n0_ n1_ n2_ n3_ n4_ n5_ n6_;intro BK655 HB BK656 GW656 GE656 NB655_656 NB656_655;clear hb hbox hg;have hnb13:=NB655_656.out;have hnc13:=NB656_655.out;obtain ⟨hcz14_0,hcz14_1,hfz14_0,hfz14_1⟩:=bk2 BK655.out;obtain ⟨hcz15_0,hcz15_1,hfz15_0,hfz15_1⟩:=bk2 BK656.out))
  go_ret
  exact ⟨zE_,zb2 HB.out GE655.out GE656.out⟩
 rw [if_pos c3] at H
 have c3b0:(a0_1 == a1_1)=true:=beq_iff_eq.mpr c3
 have c3b1:(a0_1 != a1_1)=false:=bne_eq_false_iff_eq.mpr c3
 clear c3
 replace H:=obS H
 obtain ⟨t657,A40,H⟩:=H
 replace H:(some t657)=some r:=H
 have A4:=As_ A40
 clear A40
 obtain rfl:=Option.some.inj H
 go_enter Try.func25,Try.ntmps25
 go_wp2_with (first|((with_reducible refine gate_dst (N:=2) rfl ?_);refine box_event ?hg (N:=2) ?hd (cs:=#[.slice A0_0 l0_0.length c0_0,.int .i64 a0_1]) (t:=29) ?hr ?_;(case hd=>rfl);(case hg=>rfl);(case hr=>go_simp <;> rfl);intro gb655 hg w5 hbox hb;have n0_:=As_ (bwT (zb0 HB.out) hb);have n1_:=As_ (hbox);have n2_:=As_ ((by rw [hg];exact (bwZ (zb0 HB.out)):w.heap.size≤gb655));have n3_:=As_ ((by rw [hg];exact (bwZ (zb0 HB.out)):w.heap.size≤gb655));clear HB;revert n0_ n1_ n2_ n3_;intro HB BK655 GW655 GE655;clear hb hbox hg)|((with_reducible refine gate_dst (N:=3) rfl ?_);refine box_event ?hg (N:=3) ?hd (cs:=#[.slice A1_0 l1_0.length c1_0,.int .i64 a1_1]) (t:=29) ?hr ?_;(case hd=>rfl);(case hg=>rfl);(case hr=>go_simp <;> rfl);intro gb656 hg w6 hbox hb;have n0_:=As_ (zkb BK655.out hb);have n1_:=As_ (bwT (zb1 HB.out GE655.out) hb);have n2_:=As_ (hbox);have n3_:=As_ ((by rw [hg];exact (bwZ (zb1 HB.out GE655.out)):w.heap.size≤gb656));have n4_:=As_ ((by rw [hg];exact (bwZ (zb1 HB.out GE655.out)):w.heap.size≤gb656));have n5_:=As_ ((by rw [hg];exact Nat.ne_of_lt (zkl BK655.out):gb655≠gb656));have n6_:=As_ ((by rw [hg];exact Nat.ne_of_gt (zkl BK655.out):gb656≠gb655));clear BK655 HB;revert n0_ n1_ n2_ n3_ n4_ n5_ n6_;intro BK655 HB BK656 GW656 GE656 NB655_656 NB656_655;clear hb hbox hg;have hnb7:=NB655_656.out;have hnc7:=NB656_655.out;obtain ⟨hcz8_0,hcz8_1,hfz8_0,hfz8_1⟩:=bk2 BK655.out;obtain ⟨hcz9_0,hcz9_1,hfz9_0,hfz9_1⟩:=bk2 BK656.out)|(go_at_call 62;(with_reducible refine (laws_equalNodes.calls k _ _ l0_0 _ _ l1_0 t657 _ ?side1 ?side2 ?side3 ?side4 A4.out).mono ?_);(case side1=>exact zC_ (Kd.C_below HR0_0.out HB.out));(case side2=>exact HC0_0.out);(case side3=>exact zC_ (Kd.C_below HR1_0.out HB.out));(case side4=>exact HC1_0.out);rintro e w10 ⟨rfl,hb⟩;have n0_:=As_ (zkb BK655.out hb);have n1_:=As_ (zkb BK656.out hb);have n2_:=As_ (bwT (zb2 HB.out GE655.out GE656.out) hb);clear BK655 BK656 HB;revert n0_ n1_ n2_;intro BK655 BK656 HB))
 go_ret
 exact ⟨zE_,zb2 HB.out GE655.out GE656.out⟩
end Go.Proofs.Ytfhakhbmbnbneaa.Q
