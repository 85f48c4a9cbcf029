import Derived.Test.YtapaegcombfafaaQ0
import Derived.Test.YtapaegcombfafaaQ37
import Derived.Test.YtapaegcombfafaaQ42
namespace Go.Proofs.Ytapaegcombfafaa.Q
open Go.RowKit Go.Proofs.YtapaegcombfafaaW.PrintWords Go.Proofs.YtapaegcombfafaaW.PrintLast Go.Proofs.YtapaegcombfafaaW.PrintMore
attribute [local go_sem] max2_int min2_int max_two min_two max_three min_three max_four min_four
set_option linter.unusedVariables false
set_option linter.unusedSimpArgs false
def impl_CodeOf.f (k:Nat) (l0_0:List (S58)) (a0_1:Int):Option (List Int):=(impl_ValidGraph.f k l0_0 a0_1).bind fun t402=>(if t402=true then ((impl_codesOf.f k l0_0 (([a0_1]:List Int))).bind fun t406=>(some t406)) else (some ([]:List Int)))
set_option maxRecDepth 100000 in
theorem impl_CodeOf.mono:∀ a0 a1 k,LeO (impl_CodeOf.f k a0 a1) (impl_CodeOf.f (k+1) a0 a1):=by
 intro a0 a1 k
 unfold impl_CodeOf.f
 repeat' first
   | (with_reducible exact impl_ValidGraph.mono _ _ _)
   | (with_reducible exact impl_codesOf.mono _ _ _)
   | (with_reducible exact LeO.refl _)
   | (with_reducible exact LeO.none _)
   | (with_reducible refine LeO.ite ?_ ?_)
   | (with_reducible refine LeO.bind ?_ (fun _=>?_))
   | exact impl_ValidGraph.mono _ _ _
   | exact impl_codesOf.mono _ _ _
   | exact LeO.none _
   | refine LeO.ite ?_ ?_
   | refine LeO.bind ?_ (fun _=>?_)
set_option maxHeartbeats 8000000 in
set_option maxRecDepth 100000 in
theorem impl_CodeOf.calls (k:Nat) (A0_0:Option Addr) (c0_0:Nat) (l0_0:List (S58)) (a0_1:Int) (r:List Int) (w:World) (hr0_0:Kd.C k58 w A0_0 l0_0.length l0_0) (hc0_0:l0_0.length≤c0_0) (h:impl_CodeOf.f k l0_0 a0_1=some r) :
  Calls Try.prog 15 #[.agg #[.slice A0_0 l0_0.length c0_0,.int .i64 a0_1]] w fun e w'=>∃ v0_:Value,e=.returned (v0_)∧Kd.R (Kd.int .i64) 3 w' w.heap.size (fun _=>True) v0_ r∧Below w.heap.size w w':=by
 have hu25:=Try.underlying25
 have HR0_0:=As_ hr0_0
 have HC0_0:=As_ hc0_0
 clear hr0_0 hc0_0
 have HB:=As_ (Below.refl w.heap.size w)
 have H:((impl_ValidGraph.f k l0_0 a0_1).bind fun t402=>(if t402=true then ((impl_codesOf.f k l0_0 (([a0_1]:List Int))).bind fun t406=>(some t406)) else (some ([]:List Int))))=some r:=h
 clear h
 replace H:=obS H
 obtain ⟨t402,A20,H⟩:=H
 replace H:(if t402=true then ((impl_codesOf.f k l0_0 (([a0_1]:List Int))).bind fun t406=>(some t406)) else (some ([]:List Int)))=some r:=H
 have A2:=As_ A20
 clear A20
 by_cases c3:t402=true
 rotate_left
 ·replace c3:=Bool.eq_false_iff.mpr c3
  subst c3
  have H1:(some ([]:List Int))=some r:=by rw [if_neg (show ¬ (false=true) by decide)] at H;exact H
  clear H
  have H:=H1
  clear H1
  obtain rfl:=Option.some.inj H
  go_enter Try.func15,Try.ntmps15
  go_wp2_with (first|((with_reducible refine gate_dst (N:=1) rfl ?_);refine box_event ?hg (N:=1) ?hd (cs:=#[.slice A0_0 l0_0.length c0_0,.int .i64 a0_1]) (t:=25) ?hr ?_;(case hd=>rfl);(case hg=>rfl);(case hr=>go_simp <;> rfl);intro gb401 hg w13 hbox hb;have n0_:=As_ (bwT (zb0 HB.out) hb);have n1_:=As_ (hbox);have n2_:=As_ ((by rw [hg];exact (bwZ (zb0 HB.out)):w.heap.size≤gb401));have n3_:=As_ ((by rw [hg];exact (bwZ (zb0 HB.out)):w.heap.size≤gb401));clear HB;revert n0_ n1_ n2_ n3_;intro HB BK401 GW401 GE401;clear hb hbox hg;obtain ⟨hcz14_0,hcz14_1,hfz14_0,hfz14_1⟩:=bk2 BK401.out)|((with_reducible refine gate_callee (f:=37) rfl ?_);refine goesL_ (some 4) rfl rfl Try.func37 (by kernel_rfl) rfl #[.agg #[.slice A0_0 l0_0.length c0_0,.int .i64 a0_1]] rfl zM_ ?_;(with_reducible refine (impl_ValidGraph.calls k _ _ l0_0 a0_1 false _ ?side1 ?side2 A2.out).mono ?_);(case side1=>exact zC_ (Kd.C_below HR0_0.out HB.out));(case side2=>exact HC0_0.out);rintro e w15 ⟨rfl,hb⟩;refine ⟨_,rfl,?_⟩;have n0_:=As_ (zkb BK401.out hb);have n1_:=As_ (bwT (zb1 HB.out GE401.out) hb);clear BK401 HB;revert n0_ n1_;intro BK401 HB))
  go_ret
  exact ⟨_,zE_,by first|exact Kd.R_nil _ _ _ _ _|exact Kd.N_nil _ _ _ _ _|exact Kd.V_nil _ _ _ _ _|exact Kd.Q_nil _ _ _ _ _|exact Kd.S_nil _ _ _ _ _,zb1 HB.out GE401.out⟩
 subst c3
 have H1:((impl_codesOf.f k l0_0 (([a0_1]:List Int))).bind fun t406=>(some t406))=some r:=by rw [if_pos rfl] at H;exact H
 clear H
 have H:=H1
 clear H1
 obtain ⟨y403,hy403⟩:∃ y_:List Int,y_=(([a0_1]:List Int)):=⟨_,rfl⟩
 replace H:((impl_codesOf.f k l0_0 y403).bind fun t406=>(some t406))=some r:=zH_ H hy403
 have Ny403:=As_ hy403
 clear hy403
 replace H:=obS H
 obtain ⟨t406,A40,H⟩:=H
 replace H:(some t406)=some r:=H
 have A4:=As_ A40
 clear A40
 obtain rfl:=Option.some.inj H
 go_enter Try.func15,Try.ntmps15
 go_wp2_with (first|((with_reducible refine gate_dst (N:=1) rfl ?_);refine box_event ?hg (N:=1) ?hd (cs:=#[.slice A0_0 l0_0.length c0_0,.int .i64 a0_1]) (t:=25) ?hr ?_;(case hd=>rfl);(case hg=>rfl);(case hr=>go_simp <;> rfl);intro gb401 hg w5 hbox hb;have n0_:=As_ (bwT (zb0 HB.out) hb);have n1_:=As_ (hbox);have n2_:=As_ ((by rw [hg];exact (bwZ (zb0 HB.out)):w.heap.size≤gb401));have n3_:=As_ ((by rw [hg];exact (bwZ (zb0 HB.out)):w.heap.size≤gb401));clear HB;revert n0_ n1_ n2_ n3_;intro HB BK401 GW401 GE401;clear hb hbox hg;obtain ⟨hcz6_0,hcz6_1,hfz6_0,hfz6_1⟩:=bk2 BK401.out)|((with_reducible refine gate_callee (f:=37) rfl ?_);refine goesL_ (some 4) rfl rfl Try.func37 (by kernel_rfl) rfl #[.agg #[.slice A0_0 l0_0.length c0_0,.int .i64 a0_1]] rfl zM_ ?_;(with_reducible refine (impl_ValidGraph.calls k _ _ l0_0 a0_1 true _ ?side1 ?side2 A2.out).mono ?_);(case side1=>exact zC_ (Kd.C_below HR0_0.out HB.out));(case side2=>exact HC0_0.out);rintro e w7 ⟨rfl,hb⟩;refine ⟨_,rfl,?_⟩;have n0_:=As_ (zkb BK401.out hb);have n1_:=As_ (bwT (zb1 HB.out GE401.out) hb);clear BK401 HB;revert n0_ n1_;intro BK401 HB;obtain ⟨hcz8_0,hcz8_1,hfz8_0,hfz8_1⟩:=bk2 BK401.out)|((with_reducible refine gate_dst (N:=10) rfl ?_);refine Kd.R_lit (Kd.int .i64) _ 3 ?hg (N:=10) ?hd (xs:=([a0_1]:List Int)) (inner:=[.int .i64 a0_1]) (ok:=fun _=>True) (okp:=fun _=>True) ?hr ?hp (fun _ hk=>hk) trivial (Below.refl _ _) (Nat.le_refl _) (by simp) ?_;(case hd=>rfl);(case hg=>rfl);(case hr=>go_simp <;> rfl);(case hp=>exact (Reps.one (show Kd.M (Kd.int .i64) _ _ _ a0_1 [.int .i64 a0_1] from rfl) (Reps.none _ _)));intro v404 w9 ho10 hb hg_ hnew_;clear hg_ hnew_;(first|rw [← Ny403.out] at ho10|(simp only [Int.reduceToNat] at ho10;rw [← Ny403.out] at ho10));have n0_:=As_ (Kd.R_lower ho10 (bwZ (zb1 HB.out GE401.out)));have n1_:=As_ (zkb BK401.out hb);have n2_:=As_ (bwT (zb1 HB.out GE401.out) hb);clear BK401 HB;revert n0_ n1_ n2_;intro HO405 BK401 HB;clear hb ho10;obtain ⟨Ao11,co11,eo11⟩:=Kd.R_slice HO405.out;subst eo11)|((with_reducible refine gate_callee (f:=42) rfl ?_);refine goesL_ (some 11) rfl rfl Try.func42 (by kernel_rfl) rfl #[.slice A0_0 l0_0.length c0_0,.slice Ao11 y403.length co11] rfl zM_ ?_;(with_reducible refine (impl_codesOf.calls k _ _ l0_0 _ _ y403 t406 _ ?side1 ?side2 ?side3 ?side4 A4.out).mono ?_);(case side1=>exact zC_ (Kd.C_below HR0_0.out HB.out));(case side2=>exact HC0_0.out);(case side3=>exact zC_ (Kd.R_reads' HO405.out).2.2);(case side4=>exact (Kd.R_reads' HO405.out).2.1);rintro e w12 ⟨v407,rfl,ho0,hb⟩;refine ⟨_,rfl,?_⟩;have n0_:=As_ (Kd.R_elder' (zR_ HO405.out) (Kd.R_base ho0) hb);have n1_:=As_ (Kd.R_lower (Kd.R_new' ho0 (Kd.R_lt (zR_ HO405.out))) (bwZ (zb1 HB.out GE401.out)));have n2_:=As_ (zkb BK401.out hb);have n3_:=As_ (bwT (zb1 HB.out GE401.out) hb);clear HO405 BK401 HB;revert n0_ n1_ n2_ n3_;intro HO405 HO408 BK401 HB))
 go_ret
 exact ⟨_,zE_,by (with_reducible repeat (first|apply Kd.R_alloc|apply Kd.R_drewN|apply Kd.R_drew));exact Kd.R_mono HO408.out (fun _ hk=>trivial),zb1 HB.out GE401.out⟩
end Go.Proofs.Ytapaegcombfafaa.Q
