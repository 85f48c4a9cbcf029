import Derived.Test.YtfhakhbmbnbneaaQ0
import Derived.Test.YtfhakhbmbnbneaaQ60
import Derived.Test.YtfhakhbmbnbneaaQ90
namespace Go.Proofs.Ytfhakhbmbnbneaa.Q
open Go.RowKit Go.Proofs.YtfhakhbmbnbneaaW.PrintWords Go.Proofs.YtfhakhbmbnbneaaW.PrintLast Go.Proofs.YtfhakhbmbnbneaaW.PrintMore
attribute [local go_sem] max2_int min2_int max_two min_two max_three min_three max_four min_four
set_option linter.unusedVariables false
set_option linter.unusedSimpArgs false
def spec_DrawPrunedGraph.f (k:Nat) (l0:List Int):Option ((List (S45)) × Int):=(spec_newReader.f l0).bind fun bt638=>((spec_anyGraph.f k bt638.1 bt638.2).bind fun bt641=>(some (bt641.1,bt641.2.1)))
set_option maxRecDepth 100000 in
theorem spec_DrawPrunedGraph.mono:∀ a0 k,LeO (spec_DrawPrunedGraph.f k a0) (spec_DrawPrunedGraph.f (k+1) a0):=by
 intro a0 k
 unfold spec_DrawPrunedGraph.f
 repeat' first
   | (with_reducible exact spec_anyGraph.mono _ _ _)
   | (with_reducible exact LeO.refl _)
   | (with_reducible exact LeO.none _)
   | (with_reducible refine LeO.ite ?_ ?_)
   | (with_reducible refine LeO.bind ?_ (fun _=>?_))
   | exact spec_anyGraph.mono _ _ _
   | exact LeO.none _
   | refine LeO.ite ?_ ?_
   | refine LeO.bind ?_ (fun _=>?_)
set_option maxHeartbeats 8000000 in
set_option maxRecDepth 100000 in
theorem spec_DrawPrunedGraph.calls (k:Nat) (A0:Option Addr) (c0:Nat) (l0:List Int) (r1:List (S45)) (r2:Int) (w:World) (hr0:Kd.C (Kd.int .u8) w A0 l0.length l0) (hc0:l0.length≤c0) (h:spec_DrawPrunedGraph.f k l0=some (r1,r2)) :
  Calls Try.prog 24 #[.slice A0 l0.length c0] w fun e w'=>∃ v0_:Value,e=.returned (.agg #[v0_,.int .i64 r2])∧Kd.S k45 45 w' w.heap.size (fun _=>True) v0_ r1∧Below w.heap.size w w':=by
 have hu29:=Try.underlying29
 have HR0:=As_ hr0
 have HC0:=As_ hc0
 clear hr0 hc0
 have HB:=As_ (Below.refl w.heap.size w)
 have H:((spec_newReader.f l0).bind fun bt638=>((spec_anyGraph.f k bt638.1 bt638.2).bind fun bt641=>(some (bt641.1,bt641.2.1))))=some (r1,r2):=h
 clear h
 replace H:=obS H
 obtain ⟨⟨t638,t639⟩,A20,H⟩:=H
 replace H:((spec_anyGraph.f k t638 t639).bind fun bt641=>(some (bt641.1,bt641.2.1)))=some (r1,r2):=H
 have A2:=As_ A20
 clear A20
 replace H:=obS H
 obtain ⟨⟨t641,t644,t645⟩,A30,H⟩:=H
 replace H:(some (t641,t644))=some (r1,r2):=H
 have A3:=As_ A30
 clear A30
 simp only [Option.some.injEq,Prod.mk.injEq] at H
 obtain ⟨rfl,rfl⟩:=H
 go_enter Try.func24,Try.ntmps24
 go_wp2_with (first|((with_reducible refine gate_dst (N:=2) rfl ?_);refine box_event ?hg (N:=2) ?hd (cs:=#[.slice none 0 0,.int .i64 0]) (t:=29) ?hr ?_;(case hd=>rfl);(case hg=>rfl);(case hr=>go_simp <;> rfl);intro gb637 hg w4 hbox hb;have n0_:=As_ (bwT (zb0 HB.out) hb);have n1_:=As_ (hbox);have n2_:=As_ ((by rw [hg];exact (bwZ (zb0 HB.out)):w.heap.size≤gb637));have n3_:=As_ ((by rw [hg];exact (bwZ (zb0 HB.out)):w.heap.size≤gb637));clear HB;revert n0_ n1_ n2_ n3_;intro HB BK637 GW637 GE637;clear hb hbox hg)|((with_reducible refine gate_callee (f:=61) rfl ?_);refine goesL_ (some 4) rfl rfl Try.func61 (by kernel_rfl) rfl #[.slice A0 l0.length c0] rfl zM_ ?_;(with_reducible refine (spec_newReader.calls _ _ l0 t638 t639 w _ ?side1 ?side2 ?side3 A2.out).mono ?_);(case side1=>exact zb1 HB.out GE637.out);(case side2=>exact HR0.out);(case side3=>exact HC0.out);rintro e w5 ⟨g640,rfl,hi,hb,hb2⟩;refine ⟨_,rfl,?_⟩;have n0_:=As_ (zkb BK637.out hb2);have n1_:=As_ (hb);have n2_:=As_ (hi);have n3_:=As_ (IsS85.ne_blk hi (zkb BK637.out hb2) (by decide));have n4_:=As_ (Ne.symm (IsS85.ne_blk hi (zkb BK637.out hb2) (by decide)));clear BK637 HB;revert n0_ n1_ n2_ n3_ n4_;intro BK637 HB HI640 NB640_637 NB637_640)|((with_reducible refine gate_callee (f:=60) rfl ?_);refine goesL_ (some 5) rfl rfl Try.func60 (by kernel_rfl) rfl #[.pointer (some ⟨g640,0,none⟩)] rfl zM_ ?_;(with_reducible refine (spec_anyGraph.calls k g640 t638 t639 t641 t644 t645 w _ ?side1 ?side2 A3.out).mono ?_);(case side1=>exact zi85_1 HI640.out NB640_637.out);(case side2=>exact zb2 HB.out (IsS85.ge HI640.out) GE637.out);rintro e w6 ⟨v642,rfl,ho0,hi,hb,hk⟩;refine ⟨_,rfl,?_⟩;have n0_:=As_ (KeepBut.blk hk (g':=gb637) (o:=.cells #[.slice none 0 0,.int .i64 0] 29 (0,0)) (zk_ BK637.out) NB637_640.out (by simp));have n1_:=As_ (Kd.S_lower ho0 (bwZ (zb2 HB.out (IsS85.ge HI640.out) GE637.out)));have n2_:=As_ (hb);have n3_:=As_ (hi);clear BK637 HB HI640;revert n0_ n1_ n2_ n3_;intro BK637 HO643 HB HI640;obtain ⟨Ao7,co7,eo7⟩:=Kd.S_slice HO643.out;subst eo7;have hnb8:=NB637_640.out;have hnc8:=NB640_637.out;obtain ⟨hcz9_0,hcz9_1,hfz9_0,hfz9_1⟩:=bk2 BK637.out))
 refine bodyPost_ret (results_cell_row rfl _ _ gb637 29 #[.slice Ao7 t641.length co7,.int .i64 t644] (0,0) _ rfl (by (with_reducible repeat first|apply bkN|apply bkD|apply bkA);refine blk_put (cs:=#[.slice Ao7 t641.length co7,.int .i64 0]) ?_ 1 _ rfl;(with_reducible repeat first|apply bkN|apply bkD|apply bkA);refine blk_put (cs:=#[.slice none 0 0,.int .i64 0]) ?_ 0 _ rfl;(with_reducible repeat first|apply bkN|apply bkD|apply bkA);exact BK637.out) Try.underlying29 rfl (by kernel_rfl)) rfl ?_
 exact ⟨_,zE_,by (with_reducible repeat (first|apply Kd.S_alloc|apply Kd.S_drewN|apply Kd.S_drew));exact Kd.S_mono (Kd.S_far (p:=⟨gb637,1,none⟩) (Kd.S_far (p:=⟨gb637,0,none⟩) (Kd.S_types HO643.out BK637.out (by decide)) (fun _ hk=>hk.2) (.slice Ao7 t641.length co7)) (fun _ hk=>hk.2) (.int .i64 t644)) (fun _ hk=>trivial),zb2 HB.out (IsS85.ge HI640.out) GE637.out⟩
end Go.Proofs.Ytfhakhbmbnbneaa.Q
