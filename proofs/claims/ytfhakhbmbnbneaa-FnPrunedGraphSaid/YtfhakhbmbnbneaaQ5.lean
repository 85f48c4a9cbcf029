import Derived.Test.YtfhakhbmbnbneaaQ0
import Derived.Test.YtfhakhbmbnbneaaQ24
import Derived.Test.YtfhakhbmbnbneaaQ25
import Derived.Test.YtfhakhbmbnbneaaQ26
import Derived.Test.YtfhakhbmbnbneaaQ27
import Derived.Test.YtfhakhbmbnbneaaQ56
import Derived.Test.YtfhakhbmbnbneaaQ57
namespace Go.Proofs.Ytfhakhbmbnbneaa.Q
open Go.RowKit Go.Proofs.YtfhakhbmbnbneaaW.PrintWords Go.Proofs.YtfhakhbmbnbneaaW.PrintLast Go.Proofs.YtfhakhbmbnbneaaW.PrintMore
attribute [local go_sem] max2_int min2_int max_two min_two max_three min_three max_four min_four
set_option linter.unusedVariables false
set_option linter.unusedSimpArgs false
mutual
def laws_FnPrunedGraph.j0:Nat→Bool→List (S45)→Int→List (S45)→Int→Option (Bool)
 | 0,_,_,_,_,_=>none
 | k+1,x24,x689000,x689001,x694000,x694001=>if x24=true then ((spec_PrunedGraph.f k x689000 x689001).bind fun bt699=>((laws_equalGraph.f k x694000 x694001 bt699.1 bt699.2).bind fun t703=>(some t703))) else ((impl_ReachOf.f k x694000 x694001).bind fun t704=>(laws_FnPrunedGraph.l0 k t704 0 x689000 x689001 x694000 x694001))
def laws_FnPrunedGraph.l0:Nat→List Int→Int→List (S45)→Int→List (S45)→Int→Option (Bool)
 | 0,_,_,_,_,_,_=>none
 | k+1,x5,x6,x689000,x689001,x694000,x694001=>if x6<(x5.length:Int) then (if 0≤x6 then (if (rd x5 x6)=x6 then (laws_FnPrunedGraph.l0 k x5 (wrap64 (x6+1)) x689000 x689001 x694000 x694001) else (some false)) else (none)) else ((impl_SameGraph.f k x694000 x694001 x689000 x689001).bind fun t708=>(if t708=true then (if (x5.length:Int)=(x694000.length:Int) then ((impl_PrunedGraph.f k x694000 x694001).bind fun bt709=>((laws_equalGraph.f k bt709.1 bt709.2 x694000 x694001).bind fun t713=>(if t713=true then ((impl_ReachOf.f k x689000 x689001).bind fun t714=>(some ((x694000.length:Int) == (t714.length:Int)))) else (some false)))) else (some false)) else (some false)))
end
def laws_FnPrunedGraph.f (k:Nat) (l0:List Int):Option (Bool):=if (l0.length:Int)>1048576 then (some true) else ((spec_DrawPrunedGraph.f k l0).bind fun bt684=>((impl_PrunedGraph.f k bt684.1 bt684.2).bind fun bt689=>((spec_PrunedGraph.f k bt684.1 bt684.2).bind fun bt694=>((laws_equalGraph.f k bt689.1 bt689.2 bt694.1 bt694.2).bind fun t698=>(if t698=true then (laws_FnPrunedGraph.j0 k ((bt689.1.length:Int) == 0) bt684.1 bt684.2 bt689.1 bt689.2) else (laws_FnPrunedGraph.j0 k true bt684.1 bt684.2 bt689.1 bt689.2))))))
set_option maxRecDepth 100000 in
theorem laws_FnPrunedGraph.mono_l:∀ k,(∀ y0 y1 y2 y3 y4,LeO (laws_FnPrunedGraph.j0 k y0 y1 y2 y3 y4) (laws_FnPrunedGraph.j0 (k+1) y0 y1 y2 y3 y4))∧(∀ y0 y1 y2 y3 y4 y5,LeO (laws_FnPrunedGraph.l0 k y0 y1 y2 y3 y4 y5) (laws_FnPrunedGraph.l0 (k+1) y0 y1 y2 y3 y4 y5))
 | 0=>⟨fun _ _ _ _ _ r h=>(by cases h),fun _ _ _ _ _ _ r h=>(by cases h)⟩
 | k+1=>by
  obtain ⟨ih0,ih1⟩:=laws_FnPrunedGraph.mono_l k
  refine ⟨?_,?_⟩
  ·intro y0 y1 y2 y3 y4
   unfold laws_FnPrunedGraph.j0
   repeat' first
   | (with_reducible exact ih0 _ _ _ _ _)
   | (with_reducible exact ih1 _ _ _ _ _ _)
   | (with_reducible exact impl_PrunedGraph.mono _ _ _)
   | (with_reducible exact impl_ReachOf.mono _ _ _)
   | (with_reducible exact impl_SameGraph.mono _ _ _ _ _)
   | (with_reducible exact laws_equalGraph.mono _ _ _ _ _)
   | (with_reducible exact spec_DrawPrunedGraph.mono _ _)
   | (with_reducible exact spec_PrunedGraph.mono _ _ _)
   | (with_reducible exact LeO.refl _)
   | (with_reducible exact LeO.none _)
   | (with_reducible refine LeO.ite ?_ ?_)
   | (with_reducible refine LeO.bind ?_ (fun _=>?_))
   | exact ih0 _ _ _ _ _
   | exact ih1 _ _ _ _ _ _
   | exact impl_PrunedGraph.mono _ _ _
   | exact impl_ReachOf.mono _ _ _
   | exact impl_SameGraph.mono _ _ _ _ _
   | exact laws_equalGraph.mono _ _ _ _ _
   | exact spec_DrawPrunedGraph.mono _ _
   | exact spec_PrunedGraph.mono _ _ _
   | exact LeO.none _
   | refine LeO.ite ?_ ?_
   | refine LeO.bind ?_ (fun _=>?_)
  ·intro y0 y1 y2 y3 y4 y5
   unfold laws_FnPrunedGraph.l0
   repeat' first
   | (with_reducible exact ih0 _ _ _ _ _)
   | (with_reducible exact ih1 _ _ _ _ _ _)
   | (with_reducible exact impl_PrunedGraph.mono _ _ _)
   | (with_reducible exact impl_ReachOf.mono _ _ _)
   | (with_reducible exact impl_SameGraph.mono _ _ _ _ _)
   | (with_reducible exact laws_equalGraph.mono _ _ _ _ _)
   | (with_reducible exact spec_DrawPrunedGraph.mono _ _)
   | (with_reducible exact spec_PrunedGraph.mono _ _ _)
   | (with_reducible exact LeO.refl _)
   | (with_reducible exact LeO.none _)
   | (with_reducible refine LeO.ite ?_ ?_)
   | (with_reducible refine LeO.bind ?_ (fun _=>?_))
   | exact ih0 _ _ _ _ _
   | exact ih1 _ _ _ _ _ _
   | exact impl_PrunedGraph.mono _ _ _
   | exact impl_ReachOf.mono _ _ _
   | exact impl_SameGraph.mono _ _ _ _ _
   | exact laws_equalGraph.mono _ _ _ _ _
   | exact spec_DrawPrunedGraph.mono _ _
   | exact spec_PrunedGraph.mono _ _ _
   | exact LeO.none _
   | refine LeO.ite ?_ ?_
   | refine LeO.bind ?_ (fun _=>?_)
set_option maxRecDepth 100000 in
theorem laws_FnPrunedGraph.mono:∀ a0 k,LeO (laws_FnPrunedGraph.f k a0) (laws_FnPrunedGraph.f (k+1) a0):=by
 intro a0 k
 obtain ⟨ih0,ih1⟩:=laws_FnPrunedGraph.mono_l k
 unfold laws_FnPrunedGraph.f
 repeat' first
   | (with_reducible exact ih0 _ _ _ _ _)
   | (with_reducible exact ih1 _ _ _ _ _ _)
   | (with_reducible exact impl_PrunedGraph.mono _ _ _)
   | (with_reducible exact impl_ReachOf.mono _ _ _)
   | (with_reducible exact impl_SameGraph.mono _ _ _ _ _)
   | (with_reducible exact laws_equalGraph.mono _ _ _ _ _)
   | (with_reducible exact spec_DrawPrunedGraph.mono _ _)
   | (with_reducible exact spec_PrunedGraph.mono _ _ _)
   | (with_reducible exact LeO.refl _)
   | (with_reducible exact LeO.none _)
   | (with_reducible refine LeO.ite ?_ ?_)
   | (with_reducible refine LeO.bind ?_ (fun _=>?_))
   | exact ih0 _ _ _ _ _
   | exact ih1 _ _ _ _ _ _
   | exact impl_PrunedGraph.mono _ _ _
   | exact impl_ReachOf.mono _ _ _
   | exact impl_SameGraph.mono _ _ _ _ _
   | exact laws_equalGraph.mono _ _ _ _ _
   | exact spec_DrawPrunedGraph.mono _ _
   | exact spec_PrunedGraph.mono _ _ _
   | exact LeO.none _
   | refine LeO.ite ?_ ?_
   | refine LeO.bind ?_ (fun _=>?_)
def laws_FnPrunedGraph.T5:Bool × List (List Nat × List Nat):=(true,[([],[]),([],[]),([1],[1]),([0,2,2],[0,2]),([3],[3]),([4,3],[4]),([5],[5]),([6,5],[5,6]),([7,5],[5,7]),([8,5],[5,8]),([5,9],[5,9])])
def laws_FnPrunedGraph.B5:List Nat:=[0,0,2,7,15,31,63,127,255,511,1023]
theorem laws_FnPrunedGraph.tab5:rtab .any (opsOf Try.f5 5)=laws_FnPrunedGraph.T5:=by kernel_rfl
theorem laws_FnPrunedGraph.bits5:waitsOk laws_FnPrunedGraph.T5.2 laws_FnPrunedGraph.B5=true:=by kernel_rfl
def laws_FnPrunedGraph.T13:Bool × List (List Nat × List Nat):=(true,[([],[]),([],[]),([0,1],[0,1]),([2,2],[2]),([3],[3]),([4,3],[3,4]),([3],[3]),([6,3],[3,6]),([7,3],[3,7]),([5,8,3],[3,5,8]),([3,9],[3,9]),([10,3],[10]),([11],[11]),([12,11,11],[11,12]),([11],[11]),([13,14,13,11],[11,13,14]),([11,15],[11,15]),([16,15],[16]),([17],[17]),([18,17],[17,18]),([19,17],[17,19]),([17],[17]),([21,17,17],[17,21]),([22,17],[17,22]),([20,23,17],[17,20,23]),([17,24],[17,24]),([25,22,0,1,2,3,4,5,6,7,8,9,10,11,12,13,14,15,16,17,18,19,20,21,22,23,24,25],[25])])
def laws_FnPrunedGraph.B13:List Nat:=[0,0,3,7,15,31,15,79,207,511,1023,2047,4095,8191,4095,32767,65535,131071,262143,524287,1048575,262143,2359295,6553599,16777215,33554431,67108863]
theorem laws_FnPrunedGraph.tab13:rtab .any (opsOf Try.f5 13)=laws_FnPrunedGraph.T13:=by kernel_rfl
theorem laws_FnPrunedGraph.bits13:waitsOk laws_FnPrunedGraph.T13.2 laws_FnPrunedGraph.B13=true:=by kernel_rfl
set_option maxHeartbeats 8000000 in
set_option maxRecDepth 100000 in
theorem laws_FnPrunedGraph.calls (k:Nat) (A0:Option Addr) (c0:Nat) (l0:List Int) (r:Bool) (w:World) (hr0:Kd.C (Kd.int .u8) w A0 l0.length l0) (hc0:l0.length≤c0) (h:laws_FnPrunedGraph.f k l0=some r) :
  Calls Try.prog 5 #[.slice A0 l0.length c0] w fun e w'=>e=.returned (.bool r)∧Below w.heap.size w w':=by
 have hu29:=Try.underlying29
 have HR0:=As_ hr0
 have HC0:=As_ hc0
 clear hr0 hc0
 have HB:=As_ (Below.refl w.heap.size w)
 have H:(if (l0.length:Int)>1048576 then (some true) else ((spec_DrawPrunedGraph.f k l0).bind fun bt684=>((impl_PrunedGraph.f k bt684.1 bt684.2).bind fun bt689=>((spec_PrunedGraph.f k bt684.1 bt684.2).bind fun bt694=>((laws_equalGraph.f k bt689.1 bt689.2 bt694.1 bt694.2).bind fun t698=>(if t698=true then (laws_FnPrunedGraph.j0 k ((bt689.1.length:Int) == 0) bt684.1 bt684.2 bt689.1 bt689.2) else (laws_FnPrunedGraph.j0 k true bt684.1 bt684.2 bt689.1 bt689.2)))))))=some r:=h
 clear h
 by_cases c2:(l0.length:Int)>1048576
 ·rw [if_pos c2] at H
  have c2b0:decide (1048576<(l0.length:Int))=true:=deT c2
  have c2b1:decide (1048576<l0.length)=true:=deT (by omega)
  clear c2
  obtain rfl:=Option.some.inj H
  go_enter Try.func5,Try.ntmps5
  go_wp2
  go_ret
  exact ⟨zE_,zb0 HB.out⟩
 rw [if_neg c2] at H
 have c2b0:decide (1048576<(l0.length:Int))=false:=deF c2
 have c2b1:decide (1048576<l0.length)=false:=deF (by omega)
 clear c2
 replace H:=obS H
 obtain ⟨⟨t684,t687⟩,A30,H⟩:=H
 replace H:((impl_PrunedGraph.f k t684 t687).bind fun bt689=>((spec_PrunedGraph.f k t684 t687).bind fun bt694=>((laws_equalGraph.f k bt689.1 bt689.2 bt694.1 bt694.2).bind fun t698=>(if t698=true then (laws_FnPrunedGraph.j0 k ((bt689.1.length:Int) == 0) t684 t687 bt689.1 bt689.2) else (laws_FnPrunedGraph.j0 k true t684 t687 bt689.1 bt689.2)))))=some r:=H
 have A3:=As_ A30
 clear A30
 replace H:=obS H
 obtain ⟨⟨t689,t692⟩,A40,H⟩:=H
 replace H:((spec_PrunedGraph.f k t684 t687).bind fun bt694=>((laws_equalGraph.f k t689 t692 bt694.1 bt694.2).bind fun t698=>(if t698=true then (laws_FnPrunedGraph.j0 k ((t689.length:Int) == 0) t684 t687 t689 t692) else (laws_FnPrunedGraph.j0 k true t684 t687 t689 t692))))=some r:=H
 have A4:=As_ A40
 clear A40
 have HC5:=As_ H
 clear H
 go_enter Try.func5,Try.ntmps5
 go_upto_region 5 with (first|((with_reducible refine gate_callee (f:=24) rfl ?_);refine goesL_ (some 11) rfl rfl Try.func24 (by kernel_rfl) rfl #[.slice A0 l0.length c0] rfl zM_ ?_;(with_reducible refine (spec_DrawPrunedGraph.calls k _ _ l0 t684 t687 _ ?side1 ?side2 A3.out).mono ?_);(case side1=>repeat (first|exact HR0.out|(with_reducible refine Kd.C_alloc ?_ _)|(with_reducible refine Kd.C_drewN ?_ _)|(with_reducible refine Kd.C_drew ?_)));(case side2=>exact HC0.out);rintro e w6 ⟨v685,rfl,ho0,hb⟩;refine ⟨_,rfl,?_⟩;have n0_:=As_ (Kd.S_lower ho0 (bwZ (zb0 HB.out)));have n1_:=As_ (bwT (zb0 HB.out) hb);clear HB;revert n0_ n1_;intro HO686 HB)|((with_reducible refine gate_dst (N:=3) rfl ?_);(try (refine gate_guard (by rfl) ?_;dsimp only));refine box_event ?hg (N:=3) ?hd (cs:=#[.slice none 0 0,.int .i64 0]) (t:=29) ?hr ?_;(case hd=>rfl);(case hg=>rfl);(case hr=>go_simp <;> rfl);intro gb688 hg w7 hbox hb;have n0_:=As_ (Kd.S_below (zS_ HO686.out) hb);have n1_:=As_ (bwT (zb0 HB.out) hb);have n2_:=As_ (hbox);have n3_:=As_ ((by rw [hg];exact (bwZ (zb0 HB.out)):w.heap.size≤gb688));have n4_:=As_ ((by rw [hg];exact (bwZ (zb0 HB.out)):w.heap.size≤gb688));clear HO686 HB;revert n0_ n1_ n2_ n3_ n4_;intro HO686 HB BK688 GW688 GE688;clear hb hbox hg;obtain ⟨Ao8,co8,eo8⟩:=Kd.S_slice HO686.out;subst eo8;obtain ⟨hcz9_0,hcz9_1,hfz9_0,hfz9_1⟩:=bk2 BK688.out)|((with_reducible refine gate_callee (f:=21) rfl ?_);refine goesL_ (some 13) rfl rfl Try.func21 (by kernel_rfl) rfl #[.agg #[.slice Ao8 t684.length co8,.int .i64 t687]] rfl zM_ ?_;(with_reducible refine (impl_PrunedGraph.calls k _ _ t684 t687 t689 t692 _ ?side1 ?side2 A4.out).mono ?_);(case side1=>refine (Kd.S_reads' (e:=45) (base:=w.heap.size) (ok:=fun k_=>True) (n:=t684.length) (c:=co8) ?_).2.2;exact (by (with_reducible repeat (first|apply Kd.S_alloc|apply Kd.S_drewN|apply Kd.S_drew));exact (Kd.S_mono (Kd.S_far (p:=⟨gb688,1,none⟩) (Kd.S_far (p:=⟨gb688,0,none⟩) (Kd.S_types HO686.out BK688.out (by decide)) (fun _ hk=>hk.2) (.slice Ao8 t684.length co8)) (fun _ hk=>hk.2) (.int .i64 t687)) (fun _ h_=>h_.1))));(case side2=>exact (Kd.S_reads' HO686.out).2.1);rintro e w10 ⟨v690,rfl,ho0,hb⟩;refine ⟨_,rfl,?_⟩;have n0_:=As_ (Kd.S_elder' (by (with_reducible repeat (first|apply Kd.S_alloc|apply Kd.S_drewN|apply Kd.S_drew));exact (Kd.S_mono (Kd.S_far (p:=⟨gb688,1,none⟩) (Kd.S_far (p:=⟨gb688,0,none⟩) (Kd.S_types HO686.out BK688.out (by decide)) (fun _ hk=>hk.2) (.slice Ao8 t684.length co8)) (fun _ hk=>hk.2) (.int .i64 t687)) (fun _ h_=>h_.1))) (Kd.S_base ho0) hb);have n1_:=As_ (Kd.S_lower (Kd.S_new' ho0 (Kd.S_lt (by (with_reducible repeat (first|apply Kd.S_alloc|apply Kd.S_drewN|apply Kd.S_drew));exact (Kd.S_mono (Kd.S_far (p:=⟨gb688,1,none⟩) (Kd.S_far (p:=⟨gb688,0,none⟩) (Kd.S_types HO686.out BK688.out (by decide)) (fun _ hk=>hk.2) (.slice Ao8 t684.length co8)) (fun _ hk=>hk.2) (.int .i64 t687)) (fun _ h_=>h_.1))))) (bwZ (zb1 HB.out GE688.out)));have n2_:=As_ (blk_below (g:=gb688) (o:=.cells #[.slice Ao8 t684.length co8,.int .i64 t687] 29 (0,0)) (by (with_reducible repeat first|apply bkN|apply bkD|apply bkA);refine blk_put (cs:=#[.slice Ao8 t684.length co8,.int .i64 0]) ?_ 1 _ rfl;(with_reducible repeat first|apply bkN|apply bkD|apply bkA);refine blk_put (cs:=#[.slice none 0 0,.int .i64 0]) ?_ 0 _ rfl;(with_reducible repeat first|apply bkN|apply bkD|apply bkA);exact BK688.out) hb);have n3_:=As_ (bwT (zb1 HB.out GE688.out) hb);clear HO686 BK688 HB;revert n0_ n1_ n2_ n3_;intro HO686 HO691 BK688 HB)|((with_reducible refine gate_dst (N:=4) rfl ?_);(try (refine gate_guard (by rfl) ?_;dsimp only));refine box_event ?hg (N:=4) ?hd (cs:=#[.slice none 0 0,.int .i64 0]) (t:=29) ?hr ?_;(case hd=>rfl);(case hg=>rfl);(case hr=>go_simp <;> rfl);intro gb693 hg w11 hbox hb;have n0_:=As_ (Kd.S_below (zS_ HO686.out) hb);have n1_:=As_ (Kd.S_below (zS_ HO691.out) hb);have n2_:=As_ (zkb BK688.out hb);have n3_:=As_ (bwT (zb1 HB.out GE688.out) hb);have n4_:=As_ (hbox);have n5_:=As_ ((by rw [hg];exact (bwZ (zb1 HB.out GE688.out)):w.heap.size≤gb693));have n6_:=As_ ((by rw [hg];exact (bwZ (zb1 HB.out GE688.out)):w.heap.size≤gb693));have n7_:=As_ ((by rw [hg];exact Nat.ne_of_lt (zkl BK688.out):gb688≠gb693));have n8_:=As_ ((by rw [hg];exact Nat.ne_of_gt (zkl BK688.out):gb693≠gb688));clear HO686 HO691 BK688 HB;revert n0_ n1_ n2_ n3_ n4_ n5_ n6_ n7_ n8_;intro HO686 HO691 BK688 HB BK693 GW693 GE693 NB688_693 NB693_688;clear hb hbox hg;obtain ⟨Ao12,co12,eo12⟩:=Kd.S_slice HO691.out;subst eo12;have hnb13:=NB693_688.out;have hnc13:=NB688_693.out;obtain ⟨hcz14_0,hcz14_1,hfz14_0,hfz14_1⟩:=bk2 BK693.out))
 (try simp only [Act.put,List.setIfInBounds_toArray,List.set_cons_zero,List.set_cons_succ])
 go_cut [24] (fun v24 wc=>∃ (kq:Nat) (x24_4:Bool),v24=.bool x24_4∧Aside0 (laws_FnPrunedGraph.j0 kq x24_4 t684 t687 t689 t692=some r)∧Aside0 (kq≤k)∧Aside0 (Kd.S k45 45 wc w.heap.size (fun k_=>some k_≠((.slice Ao12 t689.length co12):Value).ownBlock) (.slice Ao8 t684.length co8) t684)∧Aside0 (Kd.S k45 45 wc w.heap.size (fun k_=>some k_≠((.slice Ao8 t684.length co8):Value).ownBlock) (.slice Ao12 t689.length co12) t689)∧Aside0 (wc.heap[gb688]?=some (.cells #[(.slice Ao8 t684.length co8),.int .i64 t687] 29 (0,0)))∧Aside0 (wc.heap[gb693]?=some (.cells #[(.slice Ao12 t689.length co12),.int .i64 t692] 29 (0,0)))∧Aside0 (Below w.heap.size w wc))
 case first=>
  have H:=HC5.out
  clear HC5
  replace H:=obS H
  obtain ⟨⟨t694,t697⟩,A150,H⟩:=H
  replace H:((laws_equalGraph.f k t689 t692 t694 t697).bind fun t698=>(if t698=true then (laws_FnPrunedGraph.j0 k ((t689.length:Int) == 0) t684 t687 t689 t692) else (laws_FnPrunedGraph.j0 k true t684 t687 t689 t692)))=some r:=H
  have A15:=As_ A150
  clear A150
  replace H:=obS H
  obtain ⟨t698,A160,H⟩:=H
  replace H:(if t698=true then (laws_FnPrunedGraph.j0 k ((t689.length:Int) == 0) t684 t687 t689 t692) else (laws_FnPrunedGraph.j0 k true t684 t687 t689 t692))=some r:=H
  have A16:=As_ A160
  clear A160
  by_cases c17:t698=true
  ·subst c17
   have H1:(laws_FnPrunedGraph.j0 k ((t689.length:Int) == 0) t684 t687 t689 t692)=some r:=by rw [if_pos rfl] at H;exact H
   clear H
   have H:=H1
   clear H1
   have H':=As_ H
   clear H
   try go_wp2
   have n0_:Aside0 (Kd.S k45 45 ((w11.setCell ⟨gb693,0,none⟩ (.slice Ao12 t689.length co12)).setCell ⟨gb693,1,none⟩ (.int .i64 t692)) w.heap.size (fun k_=>some k_≠(.slice Ao12 t689.length co12:Value).ownBlock) (.slice Ao8 t684.length co8) t684):=⟨by (with_reducible repeat (first|apply Kd.S_alloc|apply Kd.S_drewN|apply Kd.S_drew));exact Kd.S_mono (Kd.S_far (p:=⟨gb693,1,none⟩) (Kd.S_far (p:=⟨gb693,0,none⟩) (Kd.S_types HO686.out BK693.out (by decide)) (fun _ hk=>hk.2) (.slice Ao12 t689.length co12)) (fun _ hk=>hk.2) (.int .i64 t692)) (fun _ hk=>hk.1.2)⟩
   have n1_:Aside0 (Kd.S k45 45 ((w11.setCell ⟨gb693,0,none⟩ (.slice Ao12 t689.length co12)).setCell ⟨gb693,1,none⟩ (.int .i64 t692)) w.heap.size (fun k_=>some k_≠(.slice Ao8 t684.length co8:Value).ownBlock) (.slice Ao12 t689.length co12) t689):=⟨by (with_reducible repeat (first|apply Kd.S_alloc|apply Kd.S_drewN|apply Kd.S_drew));exact Kd.S_mono (Kd.S_far (p:=⟨gb693,1,none⟩) (Kd.S_far (p:=⟨gb693,0,none⟩) (Kd.S_types HO691.out BK693.out (by decide)) (fun _ hk=>hk.2) (.slice Ao12 t689.length co12)) (fun _ hk=>hk.2) (.int .i64 t692)) (fun _ hk=>hk.1.2)⟩
   have n2_:Aside0 (((w11.setCell ⟨gb693,0,none⟩ (.slice Ao12 t689.length co12)).setCell ⟨gb693,1,none⟩ (.int .i64 t692)).heap[gb688]?=some (.cells #[.slice Ao8 t684.length co8,.int .i64 t687] 29 (0,0))):=⟨by (with_reducible repeat first|apply bkN|apply bkD|apply bkA);refine blk_far ?_ NB688_693.out _;(with_reducible repeat first|apply bkN|apply bkD|apply bkA);refine blk_far ?_ NB688_693.out _;(with_reducible repeat first|apply bkN|apply bkD|apply bkA);exact BK688.out⟩
   have n3_:Aside0 (((w11.setCell ⟨gb693,0,none⟩ (.slice Ao12 t689.length co12)).setCell ⟨gb693,1,none⟩ (.int .i64 t692)).heap[gb693]?=some (.cells #[.slice Ao12 t689.length co12,.int .i64 t692] 29 (0,0))):=⟨by (with_reducible repeat first|apply bkN|apply bkD|apply bkA);refine blk_put (cs:=#[.slice Ao12 t689.length co12,.int .i64 0]) ?_ 1 _ rfl;(with_reducible repeat first|apply bkN|apply bkD|apply bkA);refine blk_put (cs:=#[.slice none 0 0,.int .i64 0]) ?_ 0 _ rfl;(with_reducible repeat first|apply bkN|apply bkD|apply bkA);exact BK693.out⟩
   have n4_:Aside0 (Below w.heap.size w ((w11.setCell ⟨gb693,0,none⟩ (.slice Ao12 t689.length co12)).setCell ⟨gb693,1,none⟩ (.int .i64 t692))):=⟨zb2 HB.out GE688.out GE693.out⟩
   generalize ((w11.setCell ⟨gb693,0,none⟩ (.slice Ao12 t689.length co12)).setCell ⟨gb693,1,none⟩ (.int .i64 t692))=w18 at n0_ n1_ n2_ n3_ n4_ ⊢
   revert n0_ n1_ n2_ n3_ n4_;intro HO686 HO691 BK688 BK693 HB
   have n0_:=As_ (Kd.S_drew HO686.out)
   have n1_:=As_ (Kd.S_drew HO691.out)
   have n2_:=As_ (bkD BK688.out)
   have n3_:=As_ (bkD BK693.out)
   have n4_:=As_ (bwD HB.out)
   clear HO686 HO691 BK688 BK693 HB
   revert n0_ n1_ n2_ n3_ n4_;intro HO686 HO691 BK688 BK693 HB
   refine start_ (n:=11) (S:=fun w'=>w'.cell? ⟨gb693,0,none⟩=some (.slice Ao12 t689.length co12)∧w'.cell? ⟨gb693,1,none⟩=some (.int .i64 t692)∧w'.cell? ⟨gb688,0,none⟩=some (.slice Ao8 t684.length co8)∧w'.cell? ⟨gb688,1,none⟩=some (.int .i64 t687)) (ds:=[]) (bl_ 0 11) (by kernel_rfl) rfl rfl ⟨(bkC BK693.out 0).trans rfl,(bkC BK693.out 1).trans rfl,(bkC BK688.out 0).trans rfl,(bkC BK688.out 1).trans rfl⟩ (fun hHeld=>?_);refine with_tabW laws_FnPrunedGraph.tab5 laws_FnPrunedGraph.bits5 (fun HT_ HW_=>?_)
   generalize w18.drew=w19 at HO686 HO691 BK688 BK693 HB hHeld ⊢
   refine tP 0 14 (bl_ 1 11) ?_ HT_ HW_ rfl (.inl ⟨by rfl,?_⟩) hHeld ?_ ?_ ?_;rotate_left;(rintro w' ⟨s0,s1,s2,s3⟩;go_simp;with_reducible rfl);rotate_left;(simp only [Act.put,sq_,i64_w,i32_w];rfl)
   refine tP 1 15 (bl_ 3 11) ?_ HT_ HW_ rfl (.inl ⟨by rfl,?_⟩) hHeld ?_ ?_ ?_;rotate_left;(rintro w' ⟨s0,s1,s2,s3⟩;go_simp;with_reducible rfl);rotate_left;(simp only [Act.put,sq_,i64_w,i32_w];rfl)
   refine one_ (i:=2) (N:=some 16) (bl_ 7 11) rfl rfl (one_of HT_.out (by kernel_rfl)) (by decide) (fun K hK=>?_)
   refine goes_ Try.func20 (by kernel_rfl) rfl #[.agg #[.slice Ao8 t684.length co8,.int .i64 t687]] (by rfl) rfl rfl zM_ ?_
   with_reducible refine (spec_PrunedGraph.calls k _ _ t684 t687 t694 t697 _ ?side1 ?side2 A15.out).mono ?_
   (case side1=>exact zC_ (Kd.S_reads' HO686.out).2.2)
   (case side2=>exact (Kd.S_reads' HO686.out).2.1)
   rintro e w20 ⟨v695,rfl,ho0,hb⟩
   refine ⟨_,rfl,?_⟩
   have n0_:=As_ (Kd.S_elder' (zS_ HO686.out) (Kd.S_base ho0) hb)
   have n1_:=As_ (Kd.S_elder' (zS_ HO691.out) (Kd.S_base ho0) hb)
   have n2_:=As_ (Kd.S_lower (Kd.S_new' (Kd.S_new' ho0 (Kd.S_lt (zS_ HO686.out))) (Kd.S_lt (zS_ HO691.out))) (bwZ (zb2 HB.out GE688.out GE693.out)))
   have n3_:=As_ (zkb BK688.out hb)
   have n4_:=As_ (zkb BK693.out hb)
   have n5_:=As_ (bwT (zb2 HB.out GE688.out GE693.out) hb)
   clear HO686 HO691 BK688 BK693 HB
   revert n0_ n1_ n2_ n3_ n4_ n5_;intro HO686 HO691 HO696 BK688 BK693 HB
   obtain ⟨Ao21,co21,eo21⟩:=Kd.S_slice HO696.out
   (first|subst eo21|(injection eo21 with f1_ f2_ f3_;have f4_:=f1_.symm;have f5_:=f3_.symm;clear f1_ f2_ f3_;subst f4_;subst f5_))
   refine hK.out _ _ ⟨(bkC BK693.out 0).trans rfl,(bkC BK693.out 1).trans rfl,(bkC BK688.out 0).trans rfl,(bkC BK688.out 1).trans rfl⟩ (fun hHeld=>?_)
   clear hK K
   refine norm_ (a':=?_) ?_ ?_
   rotate_left
   ·show Act.put _ (some 16) _=_
    simp only [Act.put,sq_,i64_w,i32_w]
    rfl
   refine one_ (i:=3) (N:=some 17) (bl_ 15 11) rfl rfl (one_of HT_.out (by kernel_rfl)) (by decide) (fun K hK=>?_)
   refine goes_ Try.func25 (by kernel_rfl) rfl #[.agg #[.slice Ao12 t689.length co12,.int .i64 t692],.agg #[.slice Ao21 t694.length co21,.int .i64 t697]] (by rfl) rfl rfl zM_ ?_
   with_reducible refine (laws_equalGraph.calls k _ _ t689 t692 _ _ t694 t697 true _ ?side1 ?side2 ?side3 ?side4 A16.out).mono ?_
   (case side1=>exact zC_ (Kd.S_reads' HO691.out).2.2)
   (case side2=>exact (Kd.S_reads' HO691.out).2.1)
   (case side3=>exact zC_ (Kd.S_reads' HO696.out).2.2)
   (case side4=>exact (Kd.S_reads' HO696.out).2.1)
   rintro e w22 ⟨rfl,hb⟩
   refine ⟨_,rfl,?_⟩
   have n0_:=As_ (Kd.S_below (zS_ HO686.out) hb)
   have n1_:=As_ (Kd.S_below (zS_ HO691.out) hb)
   have n2_:=As_ (Kd.S_below (zS_ HO696.out) hb)
   have n3_:=As_ (zkb BK688.out hb)
   have n4_:=As_ (zkb BK693.out hb)
   have n5_:=As_ (bwT (zb2 HB.out GE688.out GE693.out) hb)
   clear HO686 HO691 HO696 BK688 BK693 HB
   revert n0_ n1_ n2_ n3_ n4_ n5_;intro HO686 HO691 HO696 BK688 BK693 HB
   refine hK.out _ _ ⟨(bkC BK693.out 0).trans rfl,(bkC BK693.out 1).trans rfl,(bkC BK688.out 0).trans rfl,(bkC BK688.out 1).trans rfl⟩ (fun hHeld=>?_)
   clear hK K
   refine norm_ (a':=?_) ?_ ?_
   rotate_left
   ·show Act.put _ (some 17) _=_
    simp only [Act.put,sq_,i64_w,i32_w]
    rfl
   refine pQ 4 18 (bl_ 31 11) HT_ rfl ?_
   refine pQ 5 19 (bl_ 63 11) HT_ rfl ?_
   refine pQ 6 20 (bl_ 127 11) HT_ rfl ?_
   refine tP 7 21 (bl_ 255 11) ?_ HT_ HW_ rfl (.inl ⟨by rfl,?_⟩) hHeld ?_ ?_ ?_;rotate_left;(rintro w' ⟨s0,s1,s2,s3⟩;go_simp;with_reducible rfl);rotate_left;(simp only [Act.put,sq_,i64_w,i32_w];rfl)
   refine pQ 8 22 (bl_ 511 11) HT_ rfl ?_
   refine pQ 9 23 (bl_ 1023 11) HT_ rfl ?_
   refine pQ 10 24 (bl_ 2047 11) HT_ rfl ?_
   refine done_ (done_of HT_.out (by kernel_rfl)) ?_
   try go_wp2
   go_meet
   case rel=>exact ⟨_,(((t689.length:Int) == 0)),zT_,H',⟨by first|omega|exact Nat.le_refl _⟩,⟨by (with_reducible repeat (first|apply Kd.S_alloc|apply Kd.S_drewN|apply Kd.S_drew));exact Kd.S_mono HO686.out (fun _ hk=>hk.1)⟩,⟨by (with_reducible repeat (first|apply Kd.S_alloc|apply Kd.S_drewN|apply Kd.S_drew));exact Kd.S_mono HO691.out (fun _ hk=>hk.1)⟩,⟨by (with_reducible repeat first|apply bkN|apply bkD|apply bkA);exact BK688.out⟩,⟨by (with_reducible repeat first|apply bkN|apply bkD|apply bkA);exact BK693.out⟩,⟨zb2 HB.out GE688.out GE693.out⟩⟩
  replace c17:=Bool.eq_false_iff.mpr c17
  subst c17
  have H1:(laws_FnPrunedGraph.j0 k true t684 t687 t689 t692)=some r:=by rw [if_neg (show ¬ (false=true) by decide)] at H;exact H
  clear H
  have H:=H1
  clear H1
  have H':=As_ H
  clear H
  try go_wp2
  have n0_:Aside0 (Kd.S k45 45 ((w11.setCell ⟨gb693,0,none⟩ (.slice Ao12 t689.length co12)).setCell ⟨gb693,1,none⟩ (.int .i64 t692)) w.heap.size (fun k_=>some k_≠(.slice Ao12 t689.length co12:Value).ownBlock) (.slice Ao8 t684.length co8) t684):=⟨by (with_reducible repeat (first|apply Kd.S_alloc|apply Kd.S_drewN|apply Kd.S_drew));exact Kd.S_mono (Kd.S_far (p:=⟨gb693,1,none⟩) (Kd.S_far (p:=⟨gb693,0,none⟩) (Kd.S_types HO686.out BK693.out (by decide)) (fun _ hk=>hk.2) (.slice Ao12 t689.length co12)) (fun _ hk=>hk.2) (.int .i64 t692)) (fun _ hk=>hk.1.2)⟩
  have n1_:Aside0 (Kd.S k45 45 ((w11.setCell ⟨gb693,0,none⟩ (.slice Ao12 t689.length co12)).setCell ⟨gb693,1,none⟩ (.int .i64 t692)) w.heap.size (fun k_=>some k_≠(.slice Ao8 t684.length co8:Value).ownBlock) (.slice Ao12 t689.length co12) t689):=⟨by (with_reducible repeat (first|apply Kd.S_alloc|apply Kd.S_drewN|apply Kd.S_drew));exact Kd.S_mono (Kd.S_far (p:=⟨gb693,1,none⟩) (Kd.S_far (p:=⟨gb693,0,none⟩) (Kd.S_types HO691.out BK693.out (by decide)) (fun _ hk=>hk.2) (.slice Ao12 t689.length co12)) (fun _ hk=>hk.2) (.int .i64 t692)) (fun _ hk=>hk.1.2)⟩
  have n2_:Aside0 (((w11.setCell ⟨gb693,0,none⟩ (.slice Ao12 t689.length co12)).setCell ⟨gb693,1,none⟩ (.int .i64 t692)).heap[gb688]?=some (.cells #[.slice Ao8 t684.length co8,.int .i64 t687] 29 (0,0))):=⟨by (with_reducible repeat first|apply bkN|apply bkD|apply bkA);refine blk_far ?_ NB688_693.out _;(with_reducible repeat first|apply bkN|apply bkD|apply bkA);refine blk_far ?_ NB688_693.out _;(with_reducible repeat first|apply bkN|apply bkD|apply bkA);exact BK688.out⟩
  have n3_:Aside0 (((w11.setCell ⟨gb693,0,none⟩ (.slice Ao12 t689.length co12)).setCell ⟨gb693,1,none⟩ (.int .i64 t692)).heap[gb693]?=some (.cells #[.slice Ao12 t689.length co12,.int .i64 t692] 29 (0,0))):=⟨by (with_reducible repeat first|apply bkN|apply bkD|apply bkA);refine blk_put (cs:=#[.slice Ao12 t689.length co12,.int .i64 0]) ?_ 1 _ rfl;(with_reducible repeat first|apply bkN|apply bkD|apply bkA);refine blk_put (cs:=#[.slice none 0 0,.int .i64 0]) ?_ 0 _ rfl;(with_reducible repeat first|apply bkN|apply bkD|apply bkA);exact BK693.out⟩
  have n4_:Aside0 (Below w.heap.size w ((w11.setCell ⟨gb693,0,none⟩ (.slice Ao12 t689.length co12)).setCell ⟨gb693,1,none⟩ (.int .i64 t692))):=⟨zb2 HB.out GE688.out GE693.out⟩
  generalize ((w11.setCell ⟨gb693,0,none⟩ (.slice Ao12 t689.length co12)).setCell ⟨gb693,1,none⟩ (.int .i64 t692))=w23 at n0_ n1_ n2_ n3_ n4_ ⊢
  revert n0_ n1_ n2_ n3_ n4_;intro HO686 HO691 BK688 BK693 HB
  have n0_:=As_ (Kd.S_drew HO686.out)
  have n1_:=As_ (Kd.S_drew HO691.out)
  have n2_:=As_ (bkD BK688.out)
  have n3_:=As_ (bkD BK693.out)
  have n4_:=As_ (bwD HB.out)
  clear HO686 HO691 BK688 BK693 HB
  revert n0_ n1_ n2_ n3_ n4_;intro HO686 HO691 BK688 BK693 HB
  refine start_ (n:=11) (S:=fun w'=>w'.cell? ⟨gb693,0,none⟩=some (.slice Ao12 t689.length co12)∧w'.cell? ⟨gb693,1,none⟩=some (.int .i64 t692)∧w'.cell? ⟨gb688,0,none⟩=some (.slice Ao8 t684.length co8)∧w'.cell? ⟨gb688,1,none⟩=some (.int .i64 t687)) (ds:=[]) (bl_ 0 11) (by kernel_rfl) rfl rfl ⟨(bkC BK693.out 0).trans rfl,(bkC BK693.out 1).trans rfl,(bkC BK688.out 0).trans rfl,(bkC BK688.out 1).trans rfl⟩ (fun hHeld=>?_);refine with_tabW laws_FnPrunedGraph.tab5 laws_FnPrunedGraph.bits5 (fun HT_ HW_=>?_)
  generalize w23.drew=w24 at HO686 HO691 BK688 BK693 HB hHeld ⊢
  refine tP 0 14 (bl_ 1 11) ?_ HT_ HW_ rfl (.inl ⟨by rfl,?_⟩) hHeld ?_ ?_ ?_;rotate_left;(rintro w' ⟨s0,s1,s2,s3⟩;go_simp;with_reducible rfl);rotate_left;(simp only [Act.put,sq_,i64_w,i32_w];rfl)
  refine tP 1 15 (bl_ 3 11) ?_ HT_ HW_ rfl (.inl ⟨by rfl,?_⟩) hHeld ?_ ?_ ?_;rotate_left;(rintro w' ⟨s0,s1,s2,s3⟩;go_simp;with_reducible rfl);rotate_left;(simp only [Act.put,sq_,i64_w,i32_w];rfl)
  refine one_ (i:=2) (N:=some 16) (bl_ 7 11) rfl rfl (one_of HT_.out (by kernel_rfl)) (by decide) (fun K hK=>?_)
  refine goes_ Try.func20 (by kernel_rfl) rfl #[.agg #[.slice Ao8 t684.length co8,.int .i64 t687]] (by rfl) rfl rfl zM_ ?_
  with_reducible refine (spec_PrunedGraph.calls k _ _ t684 t687 t694 t697 _ ?side1 ?side2 A15.out).mono ?_
  (case side1=>exact zC_ (Kd.S_reads' HO686.out).2.2)
  (case side2=>exact (Kd.S_reads' HO686.out).2.1)
  rintro e w25 ⟨v695,rfl,ho0,hb⟩
  refine ⟨_,rfl,?_⟩
  have n0_:=As_ (Kd.S_elder' (zS_ HO686.out) (Kd.S_base ho0) hb)
  have n1_:=As_ (Kd.S_elder' (zS_ HO691.out) (Kd.S_base ho0) hb)
  have n2_:=As_ (Kd.S_lower (Kd.S_new' (Kd.S_new' ho0 (Kd.S_lt (zS_ HO686.out))) (Kd.S_lt (zS_ HO691.out))) (bwZ (zb2 HB.out GE688.out GE693.out)))
  have n3_:=As_ (zkb BK688.out hb)
  have n4_:=As_ (zkb BK693.out hb)
  have n5_:=As_ (bwT (zb2 HB.out GE688.out GE693.out) hb)
  clear HO686 HO691 BK688 BK693 HB
  revert n0_ n1_ n2_ n3_ n4_ n5_;intro HO686 HO691 HO696 BK688 BK693 HB
  obtain ⟨Ao26,co26,eo26⟩:=Kd.S_slice HO696.out
  (first|subst eo26|(injection eo26 with f1_ f2_ f3_;have f4_:=f1_.symm;have f5_:=f3_.symm;clear f1_ f2_ f3_;subst f4_;subst f5_))
  refine hK.out _ _ ⟨(bkC BK693.out 0).trans rfl,(bkC BK693.out 1).trans rfl,(bkC BK688.out 0).trans rfl,(bkC BK688.out 1).trans rfl⟩ (fun hHeld=>?_)
  clear hK K
  refine norm_ (a':=?_) ?_ ?_
  rotate_left
  ·show Act.put _ (some 16) _=_
   simp only [Act.put,sq_,i64_w,i32_w]
   rfl
  refine one_ (i:=3) (N:=some 17) (bl_ 15 11) rfl rfl (one_of HT_.out (by kernel_rfl)) (by decide) (fun K hK=>?_)
  refine goes_ Try.func25 (by kernel_rfl) rfl #[.agg #[.slice Ao12 t689.length co12,.int .i64 t692],.agg #[.slice Ao26 t694.length co26,.int .i64 t697]] (by rfl) rfl rfl zM_ ?_
  with_reducible refine (laws_equalGraph.calls k _ _ t689 t692 _ _ t694 t697 false _ ?side1 ?side2 ?side3 ?side4 A16.out).mono ?_
  (case side1=>exact zC_ (Kd.S_reads' HO691.out).2.2)
  (case side2=>exact (Kd.S_reads' HO691.out).2.1)
  (case side3=>exact zC_ (Kd.S_reads' HO696.out).2.2)
  (case side4=>exact (Kd.S_reads' HO696.out).2.1)
  rintro e w27 ⟨rfl,hb⟩
  refine ⟨_,rfl,?_⟩
  have n0_:=As_ (Kd.S_below (zS_ HO686.out) hb)
  have n1_:=As_ (Kd.S_below (zS_ HO691.out) hb)
  have n2_:=As_ (Kd.S_below (zS_ HO696.out) hb)
  have n3_:=As_ (zkb BK688.out hb)
  have n4_:=As_ (zkb BK693.out hb)
  have n5_:=As_ (bwT (zb2 HB.out GE688.out GE693.out) hb)
  clear HO686 HO691 HO696 BK688 BK693 HB
  revert n0_ n1_ n2_ n3_ n4_ n5_;intro HO686 HO691 HO696 BK688 BK693 HB
  refine hK.out _ _ ⟨(bkC BK693.out 0).trans rfl,(bkC BK693.out 1).trans rfl,(bkC BK688.out 0).trans rfl,(bkC BK688.out 1).trans rfl⟩ (fun hHeld=>?_)
  clear hK K
  refine norm_ (a':=?_) ?_ ?_
  rotate_left
  ·show Act.put _ (some 17) _=_
   simp only [Act.put,sq_,i64_w,i32_w]
   rfl
  refine pQ 4 18 (bl_ 31 11) HT_ rfl ?_
  refine pQ 5 19 (bl_ 63 11) HT_ rfl ?_
  refine uP 6 20 (bl_ 127 11) ?_ HT_ rfl (.inr ⟨by rfl,rfl⟩) ?_ ?_;rotate_left;(simp only [Act.put,sq_,i64_w,i32_w];rfl)
  refine uP 7 21 (bl_ 255 11) ?_ HT_ rfl (.inr ⟨by rfl,rfl⟩) ?_ ?_;rotate_left;(simp only [Act.put,sq_,i64_w,i32_w];rfl)
  refine uP 8 22 (bl_ 511 11) ?_ HT_ rfl (.inr ⟨by rfl,rfl⟩) ?_ ?_;rotate_left;(simp only [Act.put,sq_,i64_w,i32_w];rfl)
  refine uP 9 23 (bl_ 1023 11) ?_ HT_ rfl (.inr ⟨by rfl,rfl⟩) ?_ ?_;rotate_left;(simp only [Act.put,sq_,i64_w,i32_w];rfl)
  refine pQ 10 24 (bl_ 2047 11) HT_ rfl ?_
  refine done_ (done_of HT_.out (by kernel_rfl)) ?_
  try go_wp2
  go_meet
  case rel=>exact ⟨_,(true),zT_,H',⟨by first|omega|exact Nat.le_refl _⟩,⟨by (with_reducible repeat (first|apply Kd.S_alloc|apply Kd.S_drewN|apply Kd.S_drew));exact Kd.S_mono HO686.out (fun _ hk=>hk.1)⟩,⟨by (with_reducible repeat (first|apply Kd.S_alloc|apply Kd.S_drewN|apply Kd.S_drew));exact Kd.S_mono HO691.out (fun _ hk=>hk.1)⟩,⟨by (with_reducible repeat first|apply bkN|apply bkD|apply bkA);exact BK688.out⟩,⟨by (with_reducible repeat first|apply bkN|apply bkD|apply bkA);exact BK693.out⟩,⟨zb2 HB.out GE688.out GE693.out⟩⟩
 case rest=>
  clear HC5
  obtain ⟨kq,x24_4,rfl,HA,HJ4,HO_689000,HO_694000,BK688,BK693,HB⟩:=hcut
  cases kq with
  | zero=>exact absurd HA.out (fun h_=>(by cases h_))
  | succ kj4=>
   have H:=HA.out
   clear HA
   simp only [laws_FnPrunedGraph.j0] at H
   by_cases c28:x24_4=true
   ·subst c28
    have H1:((spec_PrunedGraph.f kj4 t684 t687).bind fun bt699=>((laws_equalGraph.f kj4 t689 t692 bt699.1 bt699.2).bind fun t703=>(some t703)))=some r:=by rw [if_pos rfl] at H;exact H
    clear H
    have H:=H1
    clear H1
    replace H:=obS H
    obtain ⟨⟨t699,t702⟩,A290,H⟩:=H
    replace H:((laws_equalGraph.f kj4 t689 t692 t699 t702).bind fun t703=>(some t703))=some r:=H
    have A29:=As_ A290
    clear A290
    replace H:=obS H
    obtain ⟨t703,A300,H⟩:=H
    replace H:(some t703)=some r:=H
    have A30:=As_ A300
    clear A300
    obtain rfl:=Option.some.inj H
    try go_wp2
    have n0_:=As_ (Kd.S_drew HO_689000.out)
    have n1_:=As_ (Kd.S_drew HO_694000.out)
    have n2_:=As_ (bkD BK688.out)
    have n3_:=As_ (bkD BK693.out)
    have n4_:=As_ (bwD HB.out)
    clear HO_689000 HO_694000 BK688 BK693 HB
    revert n0_ n1_ n2_ n3_ n4_;intro HO_689000 HO_694000 BK688 BK693 HB
    refine start_ (n:=5) (S:=fun w'=>w'.cell? ⟨gb693,0,none⟩=some (.slice Ao12 t689.length co12)∧w'.cell? ⟨gb693,1,none⟩=some (.int .i64 t692)∧w'.cell? ⟨gb688,0,none⟩=some (.slice Ao8 t684.length co8)∧w'.cell? ⟨gb688,1,none⟩=some (.int .i64 t687)) (ds:=[]) (bl_ 0 5) (by kernel_rfl) rfl rfl ⟨(bkC BK693.out 0).trans rfl,(bkC BK693.out 1).trans rfl,(bkC BK688.out 0).trans rfl,(bkC BK688.out 1).trans rfl⟩ (fun hHeld=>?_)
    generalize wc.drew=w31 at HO_689000 HO_694000 BK688 BK693 HB hHeld ⊢
    refine take_ (i:=0) (N:=some 25) (v:=?_) (a':=?_) (bl_ 1 5) rfl rfl (by kernel_rfl) (fun _ _ _ h=>h) (Or.inl ⟨by rfl,?_⟩) hHeld ?_ ?_;rotate_left;(rintro w' ⟨s0,s1,s2,s3⟩;go_simp;with_reducible rfl);rotate_left;(simp only [Act.put,sq_,i64_w,i32_w];rfl)
    refine take_ (i:=1) (N:=some 26) (v:=?_) (a':=?_) (bl_ 3 5) rfl rfl (by kernel_rfl) (fun _ _ _ h=>h) (Or.inl ⟨by rfl,?_⟩) hHeld ?_ ?_;rotate_left;(rintro w' ⟨s0,s1,s2,s3⟩;go_simp;with_reducible rfl);rotate_left;(simp only [Act.put,sq_,i64_w,i32_w];rfl)
    refine one_ (i:=2) (N:=some 27) (bl_ 7 5) rfl rfl (by kernel_rfl) (by decide) (fun K hK=>?_)
    refine goes_ Try.func20 (by kernel_rfl) rfl #[.agg #[.slice Ao8 t684.length co8,.int .i64 t687]] (by rfl) rfl rfl zM_ ?_
    with_reducible refine (spec_PrunedGraph.calls kj4 _ _ t684 t687 t699 t702 _ ?side1 ?side2 A29.out).mono ?_
    (case side1=>exact zC_ (Kd.S_reads' HO_689000.out).2.2)
    (case side2=>exact (Kd.S_reads' HO_689000.out).2.1)
    rintro e w32 ⟨v700,rfl,ho0,hb⟩
    refine ⟨_,rfl,?_⟩
    have n0_:=As_ (Kd.S_elder' (zS_ HO_689000.out) (Kd.S_base ho0) hb)
    have n1_:=As_ (Kd.S_elder' (zS_ HO_694000.out) (Kd.S_base ho0) hb)
    have n2_:=As_ (Kd.S_lower (Kd.S_new' (Kd.S_new' ho0 (Kd.S_lt (zS_ HO_689000.out))) (Kd.S_lt (zS_ HO_694000.out))) (bwZ (zb2 HB.out GE688.out GE693.out)))
    have n3_:=As_ (zkb BK688.out hb)
    have n4_:=As_ (zkb BK693.out hb)
    have n5_:=As_ (bwT (zb2 HB.out GE688.out GE693.out) hb)
    clear HO_689000 HO_694000 BK688 BK693 HB
    revert n0_ n1_ n2_ n3_ n4_ n5_;intro HO_689000 HO_694000 HO701 BK688 BK693 HB
    obtain ⟨Ao33,co33,eo33⟩:=Kd.S_slice HO701.out
    (first|subst eo33|(injection eo33 with f1_ f2_ f3_;have f4_:=f1_.symm;have f5_:=f3_.symm;clear f1_ f2_ f3_;subst f4_;subst f5_))
    refine hK.out _ _ ⟨(bkC BK693.out 0).trans rfl,(bkC BK693.out 1).trans rfl,(bkC BK688.out 0).trans rfl,(bkC BK688.out 1).trans rfl⟩ (fun hHeld=>?_)
    clear hK K
    refine norm_ (a':=?_) ?_ ?_
    rotate_left
    ·show Act.put _ (some 27) _=_
     simp only [Act.put,sq_,i64_w,i32_w]
     rfl
    refine one_ (i:=3) (N:=some 28) (bl_ 15 5) rfl rfl (by kernel_rfl) (by decide) (fun K hK=>?_)
    refine goes_ Try.func25 (by kernel_rfl) rfl #[.agg #[.slice Ao12 t689.length co12,.int .i64 t692],.agg #[.slice Ao33 t699.length co33,.int .i64 t702]] (by rfl) rfl rfl zM_ ?_
    with_reducible refine (laws_equalGraph.calls kj4 _ _ t689 t692 _ _ t699 t702 t703 _ ?side1 ?side2 ?side3 ?side4 A30.out).mono ?_
    (case side1=>exact zC_ (Kd.S_reads' HO_694000.out).2.2)
    (case side2=>exact (Kd.S_reads' HO_694000.out).2.1)
    (case side3=>exact zC_ (Kd.S_reads' HO701.out).2.2)
    (case side4=>exact (Kd.S_reads' HO701.out).2.1)
    rintro e w34 ⟨rfl,hb⟩
    refine ⟨_,rfl,?_⟩
    have n0_:=As_ (Kd.S_below (zS_ HO_689000.out) hb)
    have n1_:=As_ (Kd.S_below (zS_ HO_694000.out) hb)
    have n2_:=As_ (Kd.S_below (zS_ HO701.out) hb)
    have n3_:=As_ (zkb BK688.out hb)
    have n4_:=As_ (zkb BK693.out hb)
    have n5_:=As_ (bwT (zb2 HB.out GE688.out GE693.out) hb)
    clear HO_689000 HO_694000 HO701 BK688 BK693 HB
    revert n0_ n1_ n2_ n3_ n4_ n5_;intro HO_689000 HO_694000 HO701 BK688 BK693 HB
    refine hK.out _ _ ⟨(bkC BK693.out 0).trans rfl,(bkC BK693.out 1).trans rfl,(bkC BK688.out 0).trans rfl,(bkC BK688.out 1).trans rfl⟩ (fun hHeld=>?_)
    clear hK K
    refine norm_ (a':=?_) ?_ ?_
    rotate_left
    ·show Act.put _ (some 28) _=_
     simp only [Act.put,sq_,i64_w,i32_w]
     rfl
    refine pure_ (i:=4) (N:=some 2) (v:=?_) (a':=?_) (bl_ 31 5) rfl rfl (by kernel_rfl) (fun _ _ _ h=>h) (Or.inl ⟨by rfl,?_⟩) ?_ ?_;rotate_left;(intro w';go_simp;with_reducible rfl);rotate_left;(simp only [Act.put,sq_,i64_w,i32_w];rfl)
    refine done_ (by kernel_rfl) ?_
    try go_wp2
    go_ret
    exact ⟨zE_,zb2 HB.out GE688.out GE693.out⟩
   replace c28:=Bool.eq_false_iff.mpr c28
   subst c28
   have H1:((impl_ReachOf.f kj4 t689 t692).bind fun t704=>(laws_FnPrunedGraph.l0 kj4 t704 0 t684 t687 t689 t692))=some r:=by rw [if_neg (show ¬ (false=true) by decide)] at H;exact H
   clear H
   have H:=H1
   clear H1
   replace H:=obS H
   obtain ⟨t704,A350,H⟩:=H
   replace H:(laws_FnPrunedGraph.l0 kj4 t704 0 t684 t687 t689 t692)=some r:=H
   have A35:=As_ A350
   clear A350
   have H':=As_ H
   clear H
   have hnb36:=NB693_688.out
   have hnc36:=NB688_693.out
   obtain ⟨hcz37_0,hcz37_1,hfz37_0,hfz37_1⟩:=bk2 BK693.out
   go_wp2_with (first|((with_reducible refine gate_callee (f:=26) rfl ?_);refine goesL_ (some 30) rfl rfl Try.func26 (by kernel_rfl) rfl #[.agg #[.slice Ao12 t689.length co12,.int .i64 t692]] rfl zM_ ?_;(with_reducible refine (impl_ReachOf.calls kj4 _ _ t689 t692 t704 _ ?side1 ?side2 A35.out).mono ?_);(case side1=>exact zC_ (Kd.S_reads' HO_694000.out).2.2);(case side2=>exact (Kd.S_reads' HO_694000.out).2.1);rintro e w38 ⟨v705,rfl,ho0,hb⟩;refine ⟨_,rfl,?_⟩;have n0_:=As_ (Kd.S_elder' (zS_ HO_689000.out) (Kd.R_base ho0) hb);have n1_:=As_ (Kd.S_elder' (zS_ HO_694000.out) (Kd.R_base ho0) hb);have n2_:=As_ (Kd.R_lower ho0 (bwZ (zb2 HB.out GE688.out GE693.out)));have n3_:=As_ (zkb BK688.out hb);have n4_:=As_ (zkb BK693.out hb);have n5_:=As_ (bwT (zb2 HB.out GE688.out GE693.out) hb);clear HO_689000 HO_694000 BK688 BK693 HB;revert n0_ n1_ n2_ n3_ n4_ n5_;intro HO_689000 HO_694000 HO706 BK688 BK693 HB))
   go_loopg [6] kj4 (fun kq v6 w'=>∃ (x6_2:Int),v6=.int .i64 x6_2∧Aside0 (laws_FnPrunedGraph.l0 kq t704 x6_2 t684 t687 t689 t692=some r)∧Aside0 (kq≤kj4)∧Aside0 (Kd.R (Kd.int .i64) 3 w' w.heap.size (fun _=>True) v705 t704)∧Aside0 (Kd.S k45 45 w' w.heap.size (fun k_=>some k_≠(v705:Value).ownBlock∧some k_≠((.slice Ao12 t689.length co12):Value).ownBlock) (.slice Ao8 t684.length co8) t684)∧Aside0 (Kd.S k45 45 w' w.heap.size (fun k_=>some k_≠(v705:Value).ownBlock∧some k_≠((.slice Ao8 t684.length co8):Value).ownBlock) (.slice Ao12 t689.length co12) t689)∧Aside0 (w'.heap[gb688]?=some (.cells #[(.slice Ao8 t684.length co8),.int .i64 t687] 29 (0,0)))∧Aside0 (w'.heap[gb693]?=some (.cells #[(.slice Ao12 t689.length co12),.int .i64 t692] 29 (0,0)))∧Aside0 (Below w.heap.size w w'))
   case atStart=>exact ⟨(0),zT_,H',⟨Nat.le_refl _⟩,⟨by (with_reducible repeat (first|apply Kd.R_alloc|apply Kd.R_drewN|apply Kd.R_drew));exact HO706.out⟩,⟨by (with_reducible repeat (first|apply Kd.S_alloc|apply Kd.S_drewN|apply Kd.S_drew));exact Kd.S_mono HO_689000.out (fun _ hk=>⟨hk.2,hk.1⟩)⟩,⟨by (with_reducible repeat (first|apply Kd.S_alloc|apply Kd.S_drewN|apply Kd.S_drew));exact Kd.S_mono HO_694000.out (fun _ hk=>⟨hk.2,hk.1⟩)⟩,⟨by (with_reducible repeat first|apply bkN|apply bkD|apply bkA);exact BK688.out⟩,⟨by (with_reducible repeat first|apply bkN|apply bkD|apply bkA);exact BK693.out⟩,⟨zb2 HB.out GE688.out GE693.out⟩⟩
   case round=>
    clear H'
    obtain ⟨x6_2,rfl,HA,HK2,HO_5,HO_689000,HO_694000,BK688,BK693,HB⟩:=hrel
    cases gk with
    | zero=>exact absurd HA.out (fun h_=>(by cases h_))
    | succ k2=>
     have H:=HA.out
     clear HA
     simp only [laws_FnPrunedGraph.l0] at H
     by_cases c39:x6_2<(t704.length:Int)
     ·rw [if_pos c39] at H
      have c39b0:decide (x6_2<(t704.length:Int))=true:=deT c39
      clear c39
      by_cases c40:0≤x6_2
      rotate_left
      ·rw [if_neg c40] at H
       exact absurd H (by simp)
      rw [if_pos c40] at H
      have c40b0:decide (0≤x6_2)=true:=deT c40
      clear c40
      by_cases c41:(rd t704 x6_2)=x6_2
      rotate_left
      ·rw [if_neg c41] at H
       have c41b0:((rd t704 x6_2) == x6_2)=false:=beq_eq_false_iff_ne.mpr c41
       have c41b1:((rd t704 x6_2) != x6_2)=true:=bne_iff_ne.mpr c41
       obtain rfl:=Option.some.inj H
       obtain ⟨Ao43,co43,eo43⟩:=Kd.R_slice HO_5.out
       subst eo43
       have p707:0≤(x6_2:Int):=odT zA_
       have q707:x6_2<(t704.length:Int):=odT zA_
       obtain ⟨ad707,e707,hx707_0⟩:=Kd.at_int (Kd.R_reads' HO_5.out).2.2 x6_2 p707 q707
       cases e707
       replace p707:=eq_true p707
       replace q707:=eq_true q707
       go_wp2
       go_ret
       exact ⟨zE_,zb2 HB.out GE688.out GE693.out⟩
      rw [if_pos c41] at H
      have c41b0:((rd t704 x6_2) == x6_2)=true:=beq_iff_eq.mpr c41
      have c41b1:((rd t704 x6_2) != x6_2)=false:=bne_eq_false_iff_eq.mpr c41
      clear c41
      have H':=As_ H
      clear H
      obtain ⟨Ao42,co42,eo42⟩:=Kd.R_slice HO_5.out
      subst eo42
      have p707:0≤(x6_2:Int):=odT zA_
      have q707:x6_2<(t704.length:Int):=odT zA_
      obtain ⟨ad707,e707,hx707_0⟩:=Kd.at_int (Kd.R_reads' HO_5.out).2.2 x6_2 p707 q707
      cases e707
      replace p707:=eq_true p707
      replace q707:=eq_true q707
      go_wp2
      go_roundg k2
      case measure=>have:=HJ4.out;have:=HK2.out;omega
      case rel=>exact ⟨(wrap64 (x6_2+1)),zT_,H',⟨by have:=HJ4.out;have:=HK2.out;omega⟩,⟨by (with_reducible repeat (first|apply Kd.R_alloc|apply Kd.R_drewN|apply Kd.R_drew));exact HO_5.out⟩,⟨by (with_reducible repeat (first|apply Kd.S_alloc|apply Kd.S_drewN|apply Kd.S_drew));exact HO_689000.out⟩,⟨by (with_reducible repeat (first|apply Kd.S_alloc|apply Kd.S_drewN|apply Kd.S_drew));exact HO_694000.out⟩,⟨by (with_reducible repeat first|apply bkN|apply bkD|apply bkA);exact BK688.out⟩,⟨by (with_reducible repeat first|apply bkN|apply bkD|apply bkA);exact BK693.out⟩,⟨zb2 HB.out GE688.out GE693.out⟩⟩
     rw [if_neg c39] at H
     have c39b0:decide (x6_2<(t704.length:Int))=false:=deF c39
     clear c39
     replace H:=obS H
     obtain ⟨t708,A440,H⟩:=H
     replace H:(if t708=true then (if (t704.length:Int)=(t689.length:Int) then ((impl_PrunedGraph.f k2 t689 t692).bind fun bt709=>((laws_equalGraph.f k2 bt709.1 bt709.2 t689 t692).bind fun t713=>(if t713=true then ((impl_ReachOf.f k2 t684 t687).bind fun t714=>(some ((t689.length:Int) == (t714.length:Int)))) else (some false)))) else (some false)) else (some false))=some r:=H
     have A44:=As_ A440
     clear A440
     by_cases c45:t708=true
     rotate_left
     ·replace c45:=Bool.eq_false_iff.mpr c45
      subst c45
      have H1:(some false)=some r:=by rw [if_neg (show ¬ (false=true) by decide)] at H;exact H
      clear H
      have H:=H1
      clear H1
      obtain rfl:=Option.some.inj H
      obtain ⟨Ao68,co68,eo68⟩:=Kd.R_slice HO_5.out
      subst eo68
      try go_wp2
      have n0_:=As_ (Kd.R_drew HO_5.out)
      have n1_:=As_ (Kd.S_drew HO_689000.out)
      have n2_:=As_ (Kd.S_drew HO_694000.out)
      have n3_:=As_ (bkD BK688.out)
      have n4_:=As_ (bkD BK693.out)
      have n5_:=As_ (bwD HB.out)
      clear HO_5 HO_689000 HO_694000 BK688 BK693 HB
      revert n0_ n1_ n2_ n3_ n4_ n5_;intro HO_5 HO_689000 HO_694000 BK688 BK693 HB
      refine start_ (n:=27) (S:=fun w'=>w'.cell? ⟨gb693,0,none⟩=some (.slice Ao12 t689.length co12)∧w'.cell? ⟨gb693,1,none⟩=some (.int .i64 t692)∧w'.cell? ⟨gb688,0,none⟩=some (.slice Ao8 t684.length co8)∧w'.cell? ⟨gb688,1,none⟩=some (.int .i64 t687)) (ds:=[]) (bl_ 0 27) (by kernel_rfl) rfl rfl ⟨(bkC BK693.out 0).trans rfl,(bkC BK693.out 1).trans rfl,(bkC BK688.out 0).trans rfl,(bkC BK688.out 1).trans rfl⟩ (fun hHeld=>?_);refine with_tabW laws_FnPrunedGraph.tab13 laws_FnPrunedGraph.bits13 (fun HT_ HW_=>?_)
      generalize wr.drew=w69 at HO_5 HO_689000 HO_694000 BK688 BK693 HB hHeld ⊢
      refine tP 0 43 (bl_ 1 27) ?_ HT_ HW_ rfl (.inl ⟨by rfl,?_⟩) hHeld ?_ ?_ ?_;rotate_left;(rintro w' ⟨s0,s1,s2,s3⟩;go_simp;with_reducible rfl);rotate_left;(simp only [Act.put,sq_,i64_w,i32_w];rfl)
      refine tP 1 44 (bl_ 3 27) ?_ HT_ HW_ rfl (.inl ⟨by rfl,?_⟩) hHeld ?_ ?_ ?_;rotate_left;(rintro w' ⟨s0,s1,s2,s3⟩;go_simp;with_reducible rfl);rotate_left;(simp only [Act.put,sq_,i64_w,i32_w];rfl)
      refine one_ (i:=2) (N:=some 45) (bl_ 7 27) rfl rfl (one_of HT_.out (by kernel_rfl)) (by decide) (fun K hK=>?_)
      refine goes_ Try.func27 (by kernel_rfl) rfl #[.agg #[.slice Ao12 t689.length co12,.int .i64 t692],.agg #[.slice Ao8 t684.length co8,.int .i64 t687]] (by rfl) rfl rfl zM_ ?_
      with_reducible refine (impl_SameGraph.calls k2 _ _ t689 t692 _ _ t684 t687 false _ ?side1 ?side2 ?side3 ?side4 A44.out).mono ?_
      (case side1=>exact zC_ (Kd.S_reads' HO_694000.out).2.2)
      (case side2=>exact (Kd.S_reads' HO_694000.out).2.1)
      (case side3=>exact zC_ (Kd.S_reads' HO_689000.out).2.2)
      (case side4=>exact (Kd.S_reads' HO_689000.out).2.1)
      rintro e w70 ⟨rfl,hb⟩
      refine ⟨_,rfl,?_⟩
      have n0_:=As_ (Kd.R_below (zR_ HO_5.out) hb)
      have n1_:=As_ (Kd.S_below (zS_ HO_689000.out) hb)
      have n2_:=As_ (Kd.S_below (zS_ HO_694000.out) hb)
      have n3_:=As_ (zkb BK688.out hb)
      have n4_:=As_ (zkb BK693.out hb)
      have n5_:=As_ (bwT (zb2 HB.out GE688.out GE693.out) hb)
      clear HO_5 HO_689000 HO_694000 BK688 BK693 HB
      revert n0_ n1_ n2_ n3_ n4_ n5_;intro HO_5 HO_689000 HO_694000 BK688 BK693 HB
      refine hK.out _ _ ⟨(bkC BK693.out 0).trans rfl,(bkC BK693.out 1).trans rfl,(bkC BK688.out 0).trans rfl,(bkC BK688.out 1).trans rfl⟩ (fun hHeld=>?_)
      clear hK K
      refine norm_ (a':=?_) ?_ ?_
      rotate_left
      ·show Act.put _ (some 45) _=_
       simp only [Act.put,sq_,i64_w,i32_w]
       rfl
      refine pQ 3 46 (bl_ 15 27) HT_ rfl ?_
      refine uP 4 47 (bl_ 31 27) ?_ HT_ rfl (.inr ⟨by rfl,rfl⟩) ?_ ?_;rotate_left;(simp only [Act.put,sq_,i64_w,i32_w];rfl)
      refine uP 5 48 (bl_ 63 27) ?_ HT_ rfl (.inr ⟨by rfl,rfl⟩) ?_ ?_;rotate_left;(simp only [Act.put,sq_,i64_w,i32_w];rfl)
      refine uP 6 49 (bl_ 127 27) ?_ HT_ rfl (.inr ⟨by rfl,rfl⟩) ?_ ?_;rotate_left;(simp only [Act.put,sq_,i64_w,i32_w];rfl)
      refine uP 7 50 (bl_ 255 27) ?_ HT_ rfl (.inr ⟨by rfl,rfl⟩) ?_ ?_;rotate_left;(simp only [Act.put,sq_,i64_w,i32_w];rfl)
      refine uP 8 51 (bl_ 511 27) ?_ HT_ rfl (.inr ⟨by rfl,rfl⟩) ?_ ?_;rotate_left;(simp only [Act.put,sq_,i64_w,i32_w];rfl)
      refine uP 9 52 (bl_ 1023 27) ?_ HT_ rfl (.inr ⟨by rfl,rfl⟩) ?_ ?_;rotate_left;(simp only [Act.put,sq_,i64_w,i32_w];rfl)
      refine pQ 10 53 (bl_ 2047 27) HT_ rfl ?_
      refine pQ 11 54 (bl_ 4095 27) HT_ rfl ?_
      refine uP 12 55 (bl_ 8191 27) ?_ HT_ rfl (.inr ⟨by rfl,rfl⟩) ?_ ?_;rotate_left;(simp only [Act.put,sq_,i64_w,i32_w];rfl)
      refine uP 13 56 (bl_ 16383 27) ?_ HT_ rfl (.inr ⟨by rfl,rfl⟩) ?_ ?_;rotate_left;(simp only [Act.put,sq_,i64_w,i32_w];rfl)
      refine uP 14 57 (bl_ 32767 27) ?_ HT_ rfl (.inr ⟨by rfl,rfl⟩) ?_ ?_;rotate_left;(simp only [Act.put,sq_,i64_w,i32_w];rfl)
      refine uP 15 58 (bl_ 65535 27) ?_ HT_ rfl (.inr ⟨by rfl,rfl⟩) ?_ ?_;rotate_left;(simp only [Act.put,sq_,i64_w,i32_w];rfl)
      refine pQ 16 59 (bl_ 131071 27) HT_ rfl ?_
      refine pQ 17 60 (bl_ 262143 27) HT_ rfl ?_
      refine uP 18 61 (bl_ 524287 27) ?_ HT_ rfl (.inr ⟨by rfl,rfl⟩) ?_ ?_;rotate_left;(simp only [Act.put,sq_,i64_w,i32_w];rfl)
      refine uP 19 62 (bl_ 1048575 27) ?_ HT_ rfl (.inr ⟨by rfl,rfl⟩) ?_ ?_;rotate_left;(simp only [Act.put,sq_,i64_w,i32_w];rfl)
      refine uP 20 63 (bl_ 2097151 27) ?_ HT_ rfl (.inr ⟨by rfl,rfl⟩) ?_ ?_;rotate_left;(simp only [Act.put,sq_,i64_w,i32_w];rfl)
      refine uP 21 64 (bl_ 4194303 27) ?_ HT_ rfl (.inr ⟨by rfl,rfl⟩) ?_ ?_;rotate_left;(simp only [Act.put,sq_,i64_w,i32_w];rfl)
      refine uP 22 65 (bl_ 8388607 27) ?_ HT_ rfl (.inr ⟨by rfl,rfl⟩) ?_ ?_;rotate_left;(simp only [Act.put,sq_,i64_w,i32_w];rfl)
      refine uP 23 66 (bl_ 16777215 27) ?_ HT_ rfl (.inr ⟨by rfl,rfl⟩) ?_ ?_;rotate_left;(simp only [Act.put,sq_,i64_w,i32_w];rfl)
      refine uP 24 67 (bl_ 33554431 27) ?_ HT_ rfl (.inr ⟨by rfl,rfl⟩) ?_ ?_;rotate_left;(simp only [Act.put,sq_,i64_w,i32_w];rfl)
      refine pQ 25 68 (bl_ 67108863 27) HT_ rfl ?_
      refine pQ 26 2 (bl_ 134217727 27) HT_ rfl ?_
      refine done_ (done_of HT_.out (by kernel_rfl)) ?_
      try go_wp2
      go_ret
      exact ⟨zE_,zb2 HB.out GE688.out GE693.out⟩
     subst c45
     have H1:(if (t704.length:Int)=(t689.length:Int) then ((impl_PrunedGraph.f k2 t689 t692).bind fun bt709=>((laws_equalGraph.f k2 bt709.1 bt709.2 t689 t692).bind fun t713=>(if t713=true then ((impl_ReachOf.f k2 t684 t687).bind fun t714=>(some ((t689.length:Int) == (t714.length:Int)))) else (some false)))) else (some false))=some r:=by rw [if_pos rfl] at H;exact H
     clear H
     have H:=H1
     clear H1
     by_cases c46:(t704.length:Int)=(t689.length:Int)
     rotate_left
     ·rw [if_neg c46] at H
      have c46b0:((t704.length:Int) == (t689.length:Int))=false:=beq_eq_false_iff_ne.mpr c46
      have c46b1:((t704.length:Int) != (t689.length:Int))=true:=bne_iff_ne.mpr c46
      have c46b2:(t704.length == t689.length)=false:=by first|simpa using c46|(simp at c46 ⊢;omega)
      obtain rfl:=Option.some.inj H
      obtain ⟨Ao65,co65,eo65⟩:=Kd.R_slice HO_5.out
      subst eo65
      try go_wp2
      have n0_:=As_ (Kd.R_drew HO_5.out)
      have n1_:=As_ (Kd.S_drew HO_689000.out)
      have n2_:=As_ (Kd.S_drew HO_694000.out)
      have n3_:=As_ (bkD BK688.out)
      have n4_:=As_ (bkD BK693.out)
      have n5_:=As_ (bwD HB.out)
      clear HO_5 HO_689000 HO_694000 BK688 BK693 HB
      revert n0_ n1_ n2_ n3_ n4_ n5_;intro HO_5 HO_689000 HO_694000 BK688 BK693 HB
      refine start_ (n:=27) (S:=fun w'=>w'.cell? ⟨gb693,0,none⟩=some (.slice Ao12 t689.length co12)∧w'.cell? ⟨gb693,1,none⟩=some (.int .i64 t692)∧w'.cell? ⟨gb688,0,none⟩=some (.slice Ao8 t684.length co8)∧w'.cell? ⟨gb688,1,none⟩=some (.int .i64 t687)) (ds:=[]) (bl_ 0 27) (by kernel_rfl) rfl rfl ⟨(bkC BK693.out 0).trans rfl,(bkC BK693.out 1).trans rfl,(bkC BK688.out 0).trans rfl,(bkC BK688.out 1).trans rfl⟩ (fun hHeld=>?_);refine with_tabW laws_FnPrunedGraph.tab13 laws_FnPrunedGraph.bits13 (fun HT_ HW_=>?_)
      generalize wr.drew=w66 at HO_5 HO_689000 HO_694000 BK688 BK693 HB hHeld ⊢
      refine tP 0 43 (bl_ 1 27) ?_ HT_ HW_ rfl (.inl ⟨by rfl,?_⟩) hHeld ?_ ?_ ?_;rotate_left;(rintro w' ⟨s0,s1,s2,s3⟩;go_simp;with_reducible rfl);rotate_left;(simp only [Act.put,sq_,i64_w,i32_w];rfl)
      refine tP 1 44 (bl_ 3 27) ?_ HT_ HW_ rfl (.inl ⟨by rfl,?_⟩) hHeld ?_ ?_ ?_;rotate_left;(rintro w' ⟨s0,s1,s2,s3⟩;go_simp;with_reducible rfl);rotate_left;(simp only [Act.put,sq_,i64_w,i32_w];rfl)
      refine one_ (i:=2) (N:=some 45) (bl_ 7 27) rfl rfl (one_of HT_.out (by kernel_rfl)) (by decide) (fun K hK=>?_)
      refine goes_ Try.func27 (by kernel_rfl) rfl #[.agg #[.slice Ao12 t689.length co12,.int .i64 t692],.agg #[.slice Ao8 t684.length co8,.int .i64 t687]] (by rfl) rfl rfl zM_ ?_
      with_reducible refine (impl_SameGraph.calls k2 _ _ t689 t692 _ _ t684 t687 true _ ?side1 ?side2 ?side3 ?side4 A44.out).mono ?_
      (case side1=>exact zC_ (Kd.S_reads' HO_694000.out).2.2)
      (case side2=>exact (Kd.S_reads' HO_694000.out).2.1)
      (case side3=>exact zC_ (Kd.S_reads' HO_689000.out).2.2)
      (case side4=>exact (Kd.S_reads' HO_689000.out).2.1)
      rintro e w67 ⟨rfl,hb⟩
      refine ⟨_,rfl,?_⟩
      have n0_:=As_ (Kd.R_below (zR_ HO_5.out) hb)
      have n1_:=As_ (Kd.S_below (zS_ HO_689000.out) hb)
      have n2_:=As_ (Kd.S_below (zS_ HO_694000.out) hb)
      have n3_:=As_ (zkb BK688.out hb)
      have n4_:=As_ (zkb BK693.out hb)
      have n5_:=As_ (bwT (zb2 HB.out GE688.out GE693.out) hb)
      clear HO_5 HO_689000 HO_694000 BK688 BK693 HB
      revert n0_ n1_ n2_ n3_ n4_ n5_;intro HO_5 HO_689000 HO_694000 BK688 BK693 HB
      refine hK.out _ _ ⟨(bkC BK693.out 0).trans rfl,(bkC BK693.out 1).trans rfl,(bkC BK688.out 0).trans rfl,(bkC BK688.out 1).trans rfl⟩ (fun hHeld=>?_)
      clear hK K
      refine norm_ (a':=?_) ?_ ?_
      rotate_left
      ·show Act.put _ (some 45) _=_
       simp only [Act.put,sq_,i64_w,i32_w]
       rfl
      refine pQ 3 46 (bl_ 15 27) HT_ rfl ?_
      refine pQ 4 47 (bl_ 31 27) HT_ rfl ?_
      refine pQ 5 48 (bl_ 63 27) HT_ rfl ?_
      refine pQ 6 49 (bl_ 127 27) HT_ rfl ?_
      refine tP 7 50 (bl_ 255 27) ?_ HT_ HW_ rfl (.inl ⟨by rfl,?_⟩) hHeld ?_ ?_ ?_;rotate_left;(rintro w' ⟨s0,s1,s2,s3⟩;go_simp;with_reducible rfl);rotate_left;(simp only [Act.put,sq_,i64_w,i32_w];rfl)
      refine pQ 8 51 (bl_ 511 27) HT_ rfl ?_
      refine pQ 9 52 (bl_ 1023 27) HT_ rfl ?_
      refine pQ 10 53 (bl_ 2047 27) HT_ rfl ?_
      refine pQ 11 54 (bl_ 4095 27) HT_ rfl ?_
      refine uP 12 55 (bl_ 8191 27) ?_ HT_ rfl (.inr ⟨by rfl,rfl⟩) ?_ ?_;rotate_left;(simp only [Act.put,sq_,i64_w,i32_w];rfl)
      refine uP 13 56 (bl_ 16383 27) ?_ HT_ rfl (.inr ⟨by rfl,rfl⟩) ?_ ?_;rotate_left;(simp only [Act.put,sq_,i64_w,i32_w];rfl)
      refine uP 14 57 (bl_ 32767 27) ?_ HT_ rfl (.inr ⟨by rfl,rfl⟩) ?_ ?_;rotate_left;(simp only [Act.put,sq_,i64_w,i32_w];rfl)
      refine uP 15 58 (bl_ 65535 27) ?_ HT_ rfl (.inr ⟨by rfl,rfl⟩) ?_ ?_;rotate_left;(simp only [Act.put,sq_,i64_w,i32_w];rfl)
      refine pQ 16 59 (bl_ 131071 27) HT_ rfl ?_
      refine pQ 17 60 (bl_ 262143 27) HT_ rfl ?_
      refine uP 18 61 (bl_ 524287 27) ?_ HT_ rfl (.inr ⟨by rfl,rfl⟩) ?_ ?_;rotate_left;(simp only [Act.put,sq_,i64_w,i32_w];rfl)
      refine uP 19 62 (bl_ 1048575 27) ?_ HT_ rfl (.inr ⟨by rfl,rfl⟩) ?_ ?_;rotate_left;(simp only [Act.put,sq_,i64_w,i32_w];rfl)
      refine uP 20 63 (bl_ 2097151 27) ?_ HT_ rfl (.inr ⟨by rfl,rfl⟩) ?_ ?_;rotate_left;(simp only [Act.put,sq_,i64_w,i32_w];rfl)
      refine uP 21 64 (bl_ 4194303 27) ?_ HT_ rfl (.inr ⟨by rfl,rfl⟩) ?_ ?_;rotate_left;(simp only [Act.put,sq_,i64_w,i32_w];rfl)
      refine uP 22 65 (bl_ 8388607 27) ?_ HT_ rfl (.inr ⟨by rfl,rfl⟩) ?_ ?_;rotate_left;(simp only [Act.put,sq_,i64_w,i32_w];rfl)
      refine uP 23 66 (bl_ 16777215 27) ?_ HT_ rfl (.inr ⟨by rfl,rfl⟩) ?_ ?_;rotate_left;(simp only [Act.put,sq_,i64_w,i32_w];rfl)
      refine uP 24 67 (bl_ 33554431 27) ?_ HT_ rfl (.inr ⟨by rfl,rfl⟩) ?_ ?_;rotate_left;(simp only [Act.put,sq_,i64_w,i32_w];rfl)
      refine pQ 25 68 (bl_ 67108863 27) HT_ rfl ?_
      refine pQ 26 2 (bl_ 134217727 27) HT_ rfl ?_
      refine done_ (done_of HT_.out (by kernel_rfl)) ?_
      try go_wp2
      go_ret
      exact ⟨zE_,zb2 HB.out GE688.out GE693.out⟩
     rw [if_pos c46] at H
     have c46b0:((t704.length:Int) == (t689.length:Int))=true:=beq_iff_eq.mpr c46
     have c46b1:((t704.length:Int) != (t689.length:Int))=false:=bne_eq_false_iff_eq.mpr c46
     have c46b2:(t704.length == t689.length)=true:=by first|simpa using c46|(simp at c46 ⊢;omega)
     clear c46
     replace H:=obS H
     obtain ⟨⟨t709,t712⟩,A470,H⟩:=H
     replace H:((laws_equalGraph.f k2 t709 t712 t689 t692).bind fun t713=>(if t713=true then ((impl_ReachOf.f k2 t684 t687).bind fun t714=>(some ((t689.length:Int) == (t714.length:Int)))) else (some false)))=some r:=H
     have A47:=As_ A470
     clear A470
     replace H:=obS H
     obtain ⟨t713,A480,H⟩:=H
     replace H:(if t713=true then ((impl_ReachOf.f k2 t684 t687).bind fun t714=>(some ((t689.length:Int) == (t714.length:Int)))) else (some false))=some r:=H
     have A48:=As_ A480
     clear A480
     by_cases c49:t713=true
     rotate_left
     ·replace c49:=Bool.eq_false_iff.mpr c49
      subst c49
      have H1:(some false)=some r:=by rw [if_neg (show ¬ (false=true) by decide)] at H;exact H
      clear H
      have H:=H1
      clear H1
      obtain rfl:=Option.some.inj H
      obtain ⟨Ao59,co59,eo59⟩:=Kd.R_slice HO_5.out
      subst eo59
      try go_wp2
      have n0_:=As_ (Kd.R_drew HO_5.out)
      have n1_:=As_ (Kd.S_drew HO_689000.out)
      have n2_:=As_ (Kd.S_drew HO_694000.out)
      have n3_:=As_ (bkD BK688.out)
      have n4_:=As_ (bkD BK693.out)
      have n5_:=As_ (bwD HB.out)
      clear HO_5 HO_689000 HO_694000 BK688 BK693 HB
      revert n0_ n1_ n2_ n3_ n4_ n5_;intro HO_5 HO_689000 HO_694000 BK688 BK693 HB
      refine start_ (n:=27) (S:=fun w'=>w'.cell? ⟨gb693,0,none⟩=some (.slice Ao12 t689.length co12)∧w'.cell? ⟨gb693,1,none⟩=some (.int .i64 t692)∧w'.cell? ⟨gb688,0,none⟩=some (.slice Ao8 t684.length co8)∧w'.cell? ⟨gb688,1,none⟩=some (.int .i64 t687)) (ds:=[]) (bl_ 0 27) (by kernel_rfl) rfl rfl ⟨(bkC BK693.out 0).trans rfl,(bkC BK693.out 1).trans rfl,(bkC BK688.out 0).trans rfl,(bkC BK688.out 1).trans rfl⟩ (fun hHeld=>?_);refine with_tabW laws_FnPrunedGraph.tab13 laws_FnPrunedGraph.bits13 (fun HT_ HW_=>?_)
      generalize wr.drew=w60 at HO_5 HO_689000 HO_694000 BK688 BK693 HB hHeld ⊢
      refine tP 0 43 (bl_ 1 27) ?_ HT_ HW_ rfl (.inl ⟨by rfl,?_⟩) hHeld ?_ ?_ ?_;rotate_left;(rintro w' ⟨s0,s1,s2,s3⟩;go_simp;with_reducible rfl);rotate_left;(simp only [Act.put,sq_,i64_w,i32_w];rfl)
      refine tP 1 44 (bl_ 3 27) ?_ HT_ HW_ rfl (.inl ⟨by rfl,?_⟩) hHeld ?_ ?_ ?_;rotate_left;(rintro w' ⟨s0,s1,s2,s3⟩;go_simp;with_reducible rfl);rotate_left;(simp only [Act.put,sq_,i64_w,i32_w];rfl)
      refine one_ (i:=2) (N:=some 45) (bl_ 7 27) rfl rfl (one_of HT_.out (by kernel_rfl)) (by decide) (fun K hK=>?_)
      refine goes_ Try.func27 (by kernel_rfl) rfl #[.agg #[.slice Ao12 t689.length co12,.int .i64 t692],.agg #[.slice Ao8 t684.length co8,.int .i64 t687]] (by rfl) rfl rfl zM_ ?_
      with_reducible refine (impl_SameGraph.calls k2 _ _ t689 t692 _ _ t684 t687 true _ ?side1 ?side2 ?side3 ?side4 A44.out).mono ?_
      (case side1=>exact zC_ (Kd.S_reads' HO_694000.out).2.2)
      (case side2=>exact (Kd.S_reads' HO_694000.out).2.1)
      (case side3=>exact zC_ (Kd.S_reads' HO_689000.out).2.2)
      (case side4=>exact (Kd.S_reads' HO_689000.out).2.1)
      rintro e w61 ⟨rfl,hb⟩
      refine ⟨_,rfl,?_⟩
      have n0_:=As_ (Kd.R_below (zR_ HO_5.out) hb)
      have n1_:=As_ (Kd.S_below (zS_ HO_689000.out) hb)
      have n2_:=As_ (Kd.S_below (zS_ HO_694000.out) hb)
      have n3_:=As_ (zkb BK688.out hb)
      have n4_:=As_ (zkb BK693.out hb)
      have n5_:=As_ (bwT (zb2 HB.out GE688.out GE693.out) hb)
      clear HO_5 HO_689000 HO_694000 BK688 BK693 HB
      revert n0_ n1_ n2_ n3_ n4_ n5_;intro HO_5 HO_689000 HO_694000 BK688 BK693 HB
      refine hK.out _ _ ⟨(bkC BK693.out 0).trans rfl,(bkC BK693.out 1).trans rfl,(bkC BK688.out 0).trans rfl,(bkC BK688.out 1).trans rfl⟩ (fun hHeld=>?_)
      clear hK K
      refine norm_ (a':=?_) ?_ ?_
      rotate_left
      ·show Act.put _ (some 45) _=_
       simp only [Act.put,sq_,i64_w,i32_w]
       rfl
      refine pQ 3 46 (bl_ 15 27) HT_ rfl ?_
      refine pQ 4 47 (bl_ 31 27) HT_ rfl ?_
      refine pQ 5 48 (bl_ 63 27) HT_ rfl ?_
      refine pQ 6 49 (bl_ 127 27) HT_ rfl ?_
      refine tP 7 50 (bl_ 255 27) ?_ HT_ HW_ rfl (.inl ⟨by rfl,?_⟩) hHeld ?_ ?_ ?_;rotate_left;(rintro w' ⟨s0,s1,s2,s3⟩;go_simp;with_reducible rfl);rotate_left;(simp only [Act.put,sq_,i64_w,i32_w];rfl)
      refine pQ 8 51 (bl_ 511 27) HT_ rfl ?_
      refine pQ 9 52 (bl_ 1023 27) HT_ rfl ?_
      refine pQ 10 53 (bl_ 2047 27) HT_ rfl ?_
      refine pQ 11 54 (bl_ 4095 27) HT_ rfl ?_
      refine tP 12 55 (bl_ 8191 27) ?_ HT_ HW_ rfl (.inl ⟨by rfl,?_⟩) hHeld ?_ ?_ ?_;rotate_left;(rintro w' ⟨s0,s1,s2,s3⟩;go_simp;with_reducible rfl);rotate_left;(simp only [Act.put,sq_,i64_w,i32_w];rfl)
      refine tP 14 57 (bl_ 24575 27) ?_ HT_ HW_ rfl (.inl ⟨by rfl,?_⟩) hHeld ?_ ?_ ?_;rotate_left;(rintro w' ⟨s0,s1,s2,s3⟩;go_simp;with_reducible rfl);rotate_left;(simp only [Act.put,sq_,i64_w,i32_w];rfl)
      refine one_ (i:=13) (N:=some 56) (bl_ 32767 27) rfl rfl (one_of HT_.out (by kernel_rfl)) (by decide) (fun K hK=>?_)
      refine goes_ Try.func21 (by kernel_rfl) rfl #[.agg #[.slice Ao12 t689.length co12,.int .i64 t692]] (by rfl) rfl rfl zM_ ?_
      with_reducible refine (impl_PrunedGraph.calls k2 _ _ t689 t692 t709 t712 _ ?side1 ?side2 A47.out).mono ?_
      (case side1=>exact zC_ (Kd.S_reads' HO_694000.out).2.2)
      (case side2=>exact (Kd.S_reads' HO_694000.out).2.1)
      rintro e w62 ⟨v710,rfl,ho0,hb⟩
      refine ⟨_,rfl,?_⟩
      have n0_:=As_ (Kd.R_below (zR_ HO_5.out) hb)
      have n1_:=As_ (Kd.S_elder' (zS_ HO_689000.out) (Kd.S_base ho0) hb)
      have n2_:=As_ (Kd.S_elder' (zS_ HO_694000.out) (Kd.S_base ho0) hb)
      have n3_:=As_ (Kd.S_lower (Kd.S_new' (Kd.S_new' (Kd.S_new' ho0 (Kd.R_lt (zR_ HO_5.out))) (Kd.S_lt (zS_ HO_689000.out))) (Kd.S_lt (zS_ HO_694000.out))) (bwZ (zb2 HB.out GE688.out GE693.out)))
      have n4_:=As_ (zkb BK688.out hb)
      have n5_:=As_ (zkb BK693.out hb)
      have n6_:=As_ (bwT (zb2 HB.out GE688.out GE693.out) hb)
      clear HO_5 HO_689000 HO_694000 BK688 BK693 HB
      revert n0_ n1_ n2_ n3_ n4_ n5_ n6_;intro HO_5 HO_689000 HO_694000 HO711 BK688 BK693 HB
      obtain ⟨Ao63,co63,eo63⟩:=Kd.S_slice HO711.out
      (first|subst eo63|(injection eo63 with f1_ f2_ f3_;have f4_:=f1_.symm;have f5_:=f3_.symm;clear f1_ f2_ f3_;subst f4_;subst f5_))
      refine hK.out _ _ ⟨(bkC BK693.out 0).trans rfl,(bkC BK693.out 1).trans rfl,(bkC BK688.out 0).trans rfl,(bkC BK688.out 1).trans rfl⟩ (fun hHeld=>?_)
      clear hK K
      refine norm_ (a':=?_) ?_ ?_
      rotate_left
      ·show Act.put _ (some 56) _=_
       simp only [Act.put,sq_,i64_w,i32_w]
       rfl
      refine one_ (i:=15) (N:=some 58) (bl_ 65535 27) rfl rfl (one_of HT_.out (by kernel_rfl)) (by decide) (fun K hK=>?_)
      refine goes_ Try.func25 (by kernel_rfl) rfl #[.agg #[.slice Ao63 t709.length co63,.int .i64 t712],.agg #[.slice Ao12 t689.length co12,.int .i64 t692]] (by rfl) rfl rfl zM_ ?_
      with_reducible refine (laws_equalGraph.calls k2 _ _ t709 t712 _ _ t689 t692 false _ ?side1 ?side2 ?side3 ?side4 A48.out).mono ?_
      (case side1=>exact zC_ (Kd.S_reads' HO711.out).2.2)
      (case side2=>exact (Kd.S_reads' HO711.out).2.1)
      (case side3=>exact zC_ (Kd.S_reads' HO_694000.out).2.2)
      (case side4=>exact (Kd.S_reads' HO_694000.out).2.1)
      rintro e w64 ⟨rfl,hb⟩
      refine ⟨_,rfl,?_⟩
      have n0_:=As_ (Kd.R_below (zR_ HO_5.out) hb)
      have n1_:=As_ (Kd.S_below (zS_ HO_689000.out) hb)
      have n2_:=As_ (Kd.S_below (zS_ HO_694000.out) hb)
      have n3_:=As_ (Kd.S_below (zS_ HO711.out) hb)
      have n4_:=As_ (zkb BK688.out hb)
      have n5_:=As_ (zkb BK693.out hb)
      have n6_:=As_ (bwT (zb2 HB.out GE688.out GE693.out) hb)
      clear HO_5 HO_689000 HO_694000 HO711 BK688 BK693 HB
      revert n0_ n1_ n2_ n3_ n4_ n5_ n6_;intro HO_5 HO_689000 HO_694000 HO711 BK688 BK693 HB
      refine hK.out _ _ ⟨(bkC BK693.out 0).trans rfl,(bkC BK693.out 1).trans rfl,(bkC BK688.out 0).trans rfl,(bkC BK688.out 1).trans rfl⟩ (fun hHeld=>?_)
      clear hK K
      refine norm_ (a':=?_) ?_ ?_
      rotate_left
      ·show Act.put _ (some 58) _=_
       simp only [Act.put,sq_,i64_w,i32_w]
       rfl
      refine pQ 16 59 (bl_ 131071 27) HT_ rfl ?_
      refine pQ 17 60 (bl_ 262143 27) HT_ rfl ?_
      refine uP 18 61 (bl_ 524287 27) ?_ HT_ rfl (.inr ⟨by rfl,rfl⟩) ?_ ?_;rotate_left;(simp only [Act.put,sq_,i64_w,i32_w];rfl)
      refine uP 19 62 (bl_ 1048575 27) ?_ HT_ rfl (.inr ⟨by rfl,rfl⟩) ?_ ?_;rotate_left;(simp only [Act.put,sq_,i64_w,i32_w];rfl)
      refine uP 20 63 (bl_ 2097151 27) ?_ HT_ rfl (.inr ⟨by rfl,rfl⟩) ?_ ?_;rotate_left;(simp only [Act.put,sq_,i64_w,i32_w];rfl)
      refine uP 21 64 (bl_ 4194303 27) ?_ HT_ rfl (.inr ⟨by rfl,rfl⟩) ?_ ?_;rotate_left;(simp only [Act.put,sq_,i64_w,i32_w];rfl)
      refine uP 22 65 (bl_ 8388607 27) ?_ HT_ rfl (.inr ⟨by rfl,rfl⟩) ?_ ?_;rotate_left;(simp only [Act.put,sq_,i64_w,i32_w];rfl)
      refine uP 23 66 (bl_ 16777215 27) ?_ HT_ rfl (.inr ⟨by rfl,rfl⟩) ?_ ?_;rotate_left;(simp only [Act.put,sq_,i64_w,i32_w];rfl)
      refine uP 24 67 (bl_ 33554431 27) ?_ HT_ rfl (.inr ⟨by rfl,rfl⟩) ?_ ?_;rotate_left;(simp only [Act.put,sq_,i64_w,i32_w];rfl)
      refine pQ 25 68 (bl_ 67108863 27) HT_ rfl ?_
      refine pQ 26 2 (bl_ 134217727 27) HT_ rfl ?_
      refine done_ (done_of HT_.out (by kernel_rfl)) ?_
      try go_wp2
      go_ret
      exact ⟨zE_,zb2 HB.out GE688.out GE693.out⟩
     subst c49
     have H1:((impl_ReachOf.f k2 t684 t687).bind fun t714=>(some ((t689.length:Int) == (t714.length:Int))))=some r:=by rw [if_pos rfl] at H;exact H
     clear H
     have H:=H1
     clear H1
     replace H:=obS H
     obtain ⟨t714,A500,H⟩:=H
     replace H:(some ((t689.length:Int) == (t714.length:Int)))=some r:=H
     have A50:=As_ A500
     clear A500
     obtain rfl:=Option.some.inj H
     obtain ⟨Ao51,co51,eo51⟩:=Kd.R_slice HO_5.out
     subst eo51
     try go_wp2
     have n0_:=As_ (Kd.R_drew HO_5.out)
     have n1_:=As_ (Kd.S_drew HO_689000.out)
     have n2_:=As_ (Kd.S_drew HO_694000.out)
     have n3_:=As_ (bkD BK688.out)
     have n4_:=As_ (bkD BK693.out)
     have n5_:=As_ (bwD HB.out)
     clear HO_5 HO_689000 HO_694000 BK688 BK693 HB
     revert n0_ n1_ n2_ n3_ n4_ n5_;intro HO_5 HO_689000 HO_694000 BK688 BK693 HB
     refine start_ (n:=27) (S:=fun w'=>w'.cell? ⟨gb693,0,none⟩=some (.slice Ao12 t689.length co12)∧w'.cell? ⟨gb693,1,none⟩=some (.int .i64 t692)∧w'.cell? ⟨gb688,0,none⟩=some (.slice Ao8 t684.length co8)∧w'.cell? ⟨gb688,1,none⟩=some (.int .i64 t687)) (ds:=[]) (bl_ 0 27) (by kernel_rfl) rfl rfl ⟨(bkC BK693.out 0).trans rfl,(bkC BK693.out 1).trans rfl,(bkC BK688.out 0).trans rfl,(bkC BK688.out 1).trans rfl⟩ (fun hHeld=>?_);refine with_tabW laws_FnPrunedGraph.tab13 laws_FnPrunedGraph.bits13 (fun HT_ HW_=>?_)
     generalize wr.drew=w52 at HO_5 HO_689000 HO_694000 BK688 BK693 HB hHeld ⊢
     refine tP 0 43 (bl_ 1 27) ?_ HT_ HW_ rfl (.inl ⟨by rfl,?_⟩) hHeld ?_ ?_ ?_;rotate_left;(rintro w' ⟨s0,s1,s2,s3⟩;go_simp;with_reducible rfl);rotate_left;(simp only [Act.put,sq_,i64_w,i32_w];rfl)
     refine tP 1 44 (bl_ 3 27) ?_ HT_ HW_ rfl (.inl ⟨by rfl,?_⟩) hHeld ?_ ?_ ?_;rotate_left;(rintro w' ⟨s0,s1,s2,s3⟩;go_simp;with_reducible rfl);rotate_left;(simp only [Act.put,sq_,i64_w,i32_w];rfl)
     refine one_ (i:=2) (N:=some 45) (bl_ 7 27) rfl rfl (one_of HT_.out (by kernel_rfl)) (by decide) (fun K hK=>?_)
     refine goes_ Try.func27 (by kernel_rfl) rfl #[.agg #[.slice Ao12 t689.length co12,.int .i64 t692],.agg #[.slice Ao8 t684.length co8,.int .i64 t687]] (by rfl) rfl rfl zM_ ?_
     with_reducible refine (impl_SameGraph.calls k2 _ _ t689 t692 _ _ t684 t687 true _ ?side1 ?side2 ?side3 ?side4 A44.out).mono ?_
     (case side1=>exact zC_ (Kd.S_reads' HO_694000.out).2.2)
     (case side2=>exact (Kd.S_reads' HO_694000.out).2.1)
     (case side3=>exact zC_ (Kd.S_reads' HO_689000.out).2.2)
     (case side4=>exact (Kd.S_reads' HO_689000.out).2.1)
     rintro e w53 ⟨rfl,hb⟩
     refine ⟨_,rfl,?_⟩
     have n0_:=As_ (Kd.R_below (zR_ HO_5.out) hb)
     have n1_:=As_ (Kd.S_below (zS_ HO_689000.out) hb)
     have n2_:=As_ (Kd.S_below (zS_ HO_694000.out) hb)
     have n3_:=As_ (zkb BK688.out hb)
     have n4_:=As_ (zkb BK693.out hb)
     have n5_:=As_ (bwT (zb2 HB.out GE688.out GE693.out) hb)
     clear HO_5 HO_689000 HO_694000 BK688 BK693 HB
     revert n0_ n1_ n2_ n3_ n4_ n5_;intro HO_5 HO_689000 HO_694000 BK688 BK693 HB
     refine hK.out _ _ ⟨(bkC BK693.out 0).trans rfl,(bkC BK693.out 1).trans rfl,(bkC BK688.out 0).trans rfl,(bkC BK688.out 1).trans rfl⟩ (fun hHeld=>?_)
     clear hK K
     refine norm_ (a':=?_) ?_ ?_
     rotate_left
     ·show Act.put _ (some 45) _=_
      simp only [Act.put,sq_,i64_w,i32_w]
      rfl
     refine pQ 3 46 (bl_ 15 27) HT_ rfl ?_
     refine pQ 4 47 (bl_ 31 27) HT_ rfl ?_
     refine pQ 5 48 (bl_ 63 27) HT_ rfl ?_
     refine pQ 6 49 (bl_ 127 27) HT_ rfl ?_
     refine tP 7 50 (bl_ 255 27) ?_ HT_ HW_ rfl (.inl ⟨by rfl,?_⟩) hHeld ?_ ?_ ?_;rotate_left;(rintro w' ⟨s0,s1,s2,s3⟩;go_simp;with_reducible rfl);rotate_left;(simp only [Act.put,sq_,i64_w,i32_w];rfl)
     refine pQ 8 51 (bl_ 511 27) HT_ rfl ?_
     refine pQ 9 52 (bl_ 1023 27) HT_ rfl ?_
     refine pQ 10 53 (bl_ 2047 27) HT_ rfl ?_
     refine pQ 11 54 (bl_ 4095 27) HT_ rfl ?_
     refine tP 12 55 (bl_ 8191 27) ?_ HT_ HW_ rfl (.inl ⟨by rfl,?_⟩) hHeld ?_ ?_ ?_;rotate_left;(rintro w' ⟨s0,s1,s2,s3⟩;go_simp;with_reducible rfl);rotate_left;(simp only [Act.put,sq_,i64_w,i32_w];rfl)
     refine tP 14 57 (bl_ 24575 27) ?_ HT_ HW_ rfl (.inl ⟨by rfl,?_⟩) hHeld ?_ ?_ ?_;rotate_left;(rintro w' ⟨s0,s1,s2,s3⟩;go_simp;with_reducible rfl);rotate_left;(simp only [Act.put,sq_,i64_w,i32_w];rfl)
     refine one_ (i:=13) (N:=some 56) (bl_ 32767 27) rfl rfl (one_of HT_.out (by kernel_rfl)) (by decide) (fun K hK=>?_)
     refine goes_ Try.func21 (by kernel_rfl) rfl #[.agg #[.slice Ao12 t689.length co12,.int .i64 t692]] (by rfl) rfl rfl zM_ ?_
     with_reducible refine (impl_PrunedGraph.calls k2 _ _ t689 t692 t709 t712 _ ?side1 ?side2 A47.out).mono ?_
     (case side1=>exact zC_ (Kd.S_reads' HO_694000.out).2.2)
     (case side2=>exact (Kd.S_reads' HO_694000.out).2.1)
     rintro e w54 ⟨v710,rfl,ho0,hb⟩
     refine ⟨_,rfl,?_⟩
     have n0_:=As_ (Kd.R_below (zR_ HO_5.out) hb)
     have n1_:=As_ (Kd.S_elder' (zS_ HO_689000.out) (Kd.S_base ho0) hb)
     have n2_:=As_ (Kd.S_elder' (zS_ HO_694000.out) (Kd.S_base ho0) hb)
     have n3_:=As_ (Kd.S_lower (Kd.S_new' (Kd.S_new' (Kd.S_new' ho0 (Kd.R_lt (zR_ HO_5.out))) (Kd.S_lt (zS_ HO_689000.out))) (Kd.S_lt (zS_ HO_694000.out))) (bwZ (zb2 HB.out GE688.out GE693.out)))
     have n4_:=As_ (zkb BK688.out hb)
     have n5_:=As_ (zkb BK693.out hb)
     have n6_:=As_ (bwT (zb2 HB.out GE688.out GE693.out) hb)
     clear HO_5 HO_689000 HO_694000 BK688 BK693 HB
     revert n0_ n1_ n2_ n3_ n4_ n5_ n6_;intro HO_5 HO_689000 HO_694000 HO711 BK688 BK693 HB
     obtain ⟨Ao55,co55,eo55⟩:=Kd.S_slice HO711.out
     (first|subst eo55|(injection eo55 with f1_ f2_ f3_;have f4_:=f1_.symm;have f5_:=f3_.symm;clear f1_ f2_ f3_;subst f4_;subst f5_))
     refine hK.out _ _ ⟨(bkC BK693.out 0).trans rfl,(bkC BK693.out 1).trans rfl,(bkC BK688.out 0).trans rfl,(bkC BK688.out 1).trans rfl⟩ (fun hHeld=>?_)
     clear hK K
     refine norm_ (a':=?_) ?_ ?_
     rotate_left
     ·show Act.put _ (some 56) _=_
      simp only [Act.put,sq_,i64_w,i32_w]
      rfl
     refine one_ (i:=15) (N:=some 58) (bl_ 65535 27) rfl rfl (one_of HT_.out (by kernel_rfl)) (by decide) (fun K hK=>?_)
     refine goes_ Try.func25 (by kernel_rfl) rfl #[.agg #[.slice Ao55 t709.length co55,.int .i64 t712],.agg #[.slice Ao12 t689.length co12,.int .i64 t692]] (by rfl) rfl rfl zM_ ?_
     with_reducible refine (laws_equalGraph.calls k2 _ _ t709 t712 _ _ t689 t692 true _ ?side1 ?side2 ?side3 ?side4 A48.out).mono ?_
     (case side1=>exact zC_ (Kd.S_reads' HO711.out).2.2)
     (case side2=>exact (Kd.S_reads' HO711.out).2.1)
     (case side3=>exact zC_ (Kd.S_reads' HO_694000.out).2.2)
     (case side4=>exact (Kd.S_reads' HO_694000.out).2.1)
     rintro e w56 ⟨rfl,hb⟩
     refine ⟨_,rfl,?_⟩
     have n0_:=As_ (Kd.R_below (zR_ HO_5.out) hb)
     have n1_:=As_ (Kd.S_below (zS_ HO_689000.out) hb)
     have n2_:=As_ (Kd.S_below (zS_ HO_694000.out) hb)
     have n3_:=As_ (Kd.S_below (zS_ HO711.out) hb)
     have n4_:=As_ (zkb BK688.out hb)
     have n5_:=As_ (zkb BK693.out hb)
     have n6_:=As_ (bwT (zb2 HB.out GE688.out GE693.out) hb)
     clear HO_5 HO_689000 HO_694000 HO711 BK688 BK693 HB
     revert n0_ n1_ n2_ n3_ n4_ n5_ n6_;intro HO_5 HO_689000 HO_694000 HO711 BK688 BK693 HB
     refine hK.out _ _ ⟨(bkC BK693.out 0).trans rfl,(bkC BK693.out 1).trans rfl,(bkC BK688.out 0).trans rfl,(bkC BK688.out 1).trans rfl⟩ (fun hHeld=>?_)
     clear hK K
     refine norm_ (a':=?_) ?_ ?_
     rotate_left
     ·show Act.put _ (some 58) _=_
      simp only [Act.put,sq_,i64_w,i32_w]
      rfl
     refine pQ 16 59 (bl_ 131071 27) HT_ rfl ?_
     refine pQ 17 60 (bl_ 262143 27) HT_ rfl ?_
     refine pQ 18 61 (bl_ 524287 27) HT_ rfl ?_
     refine tP 19 62 (bl_ 1048575 27) ?_ HT_ HW_ rfl (.inl ⟨by rfl,?_⟩) hHeld ?_ ?_ ?_;rotate_left;(rintro w' ⟨s0,s1,s2,s3⟩;go_simp;with_reducible rfl);rotate_left;(simp only [Act.put,sq_,i64_w,i32_w];rfl)
     refine pQ 20 63 (bl_ 2097151 27) HT_ rfl ?_
     refine tP 21 64 (bl_ 4194303 27) ?_ HT_ HW_ rfl (.inl ⟨by rfl,?_⟩) hHeld ?_ ?_ ?_;rotate_left;(rintro w' ⟨s0,s1,s2,s3⟩;go_simp;with_reducible rfl);rotate_left;(simp only [Act.put,sq_,i64_w,i32_w];rfl)
     refine one_ (i:=22) (N:=some 65) (bl_ 8388607 27) rfl rfl (one_of HT_.out (by kernel_rfl)) (by decide) (fun K hK=>?_)
     refine goes_ Try.func26 (by kernel_rfl) rfl #[.agg #[.slice Ao8 t684.length co8,.int .i64 t687]] (by rfl) rfl rfl zM_ ?_
     with_reducible refine (impl_ReachOf.calls k2 _ _ t684 t687 t714 _ ?side1 ?side2 A50.out).mono ?_
     (case side1=>exact zC_ (Kd.S_reads' HO_689000.out).2.2)
     (case side2=>exact (Kd.S_reads' HO_689000.out).2.1)
     rintro e w57 ⟨v715,rfl,ho0,hb⟩
     refine ⟨_,rfl,?_⟩
     have n0_:=As_ (Kd.R_elder' (zR_ HO_5.out) (Kd.R_base ho0) hb)
     have n1_:=As_ (Kd.S_elder' (zS_ HO_689000.out) (Kd.R_base ho0) hb)
     have n2_:=As_ (Kd.S_elder' (zS_ HO_694000.out) (Kd.R_base ho0) hb)
     have n3_:=As_ (Kd.S_elder' (zS_ HO711.out) (Kd.R_base ho0) hb)
     have n4_:=As_ (Kd.R_lower (Kd.R_new' ho0 (Kd.R_lt (zR_ HO_5.out))) (bwZ (zb2 HB.out GE688.out GE693.out)))
     have n5_:=As_ (zkb BK688.out hb)
     have n6_:=As_ (zkb BK693.out hb)
     have n7_:=As_ (bwT (zb2 HB.out GE688.out GE693.out) hb)
     clear HO_5 HO_689000 HO_694000 HO711 BK688 BK693 HB
     revert n0_ n1_ n2_ n3_ n4_ n5_ n6_ n7_;intro HO_5 HO_689000 HO_694000 HO711 HO716 BK688 BK693 HB
     obtain ⟨Ao58,co58,eo58⟩:=Kd.R_slice HO716.out
     (first|subst eo58|(injection eo58 with f1_ f2_ f3_;have f4_:=f1_.symm;have f5_:=f3_.symm;clear f1_ f2_ f3_;subst f4_;subst f5_))
     refine hK.out _ _ ⟨(bkC BK693.out 0).trans rfl,(bkC BK693.out 1).trans rfl,(bkC BK688.out 0).trans rfl,(bkC BK688.out 1).trans rfl⟩ (fun hHeld=>?_)
     clear hK K
     refine norm_ (a':=?_) ?_ ?_
     rotate_left
     ·show Act.put _ (some 65) _=_
      simp only [Act.put,sq_,i64_w,i32_w]
      rfl
     refine pQ 23 66 (bl_ 16777215 27) HT_ rfl ?_
     refine pQ 24 67 (bl_ 33554431 27) HT_ rfl ?_
     refine pQ 25 68 (bl_ 67108863 27) HT_ rfl ?_
     refine pQ 26 2 (bl_ 134217727 27) HT_ rfl ?_
     refine done_ (done_of HT_.out (by kernel_rfl)) ?_
     try go_wp2
     go_ret
     exact ⟨zE_,zb2 HB.out GE688.out GE693.out⟩
def laws_FnPrunedGraph.Pure:Prop:=∀ (l0:List Int),l0.length≤maxLen→l0.length * 1≤140737488351232→(∀ x∈l0,(Lit.int .u8 x).wf=true)→∃ k,laws_FnPrunedGraph.f k l0=some true
theorem laws_FnPrunedGraph.walk (P:laws_FnPrunedGraph.Pure) (a0:Option Addr) (len0 cap0:Nat) (z0:List Int) (w:World) (w0:(a0=none∧len0=0∧cap0=0∧z0=[])∨∃ x,a0=some x∧len0≤cap0∧cap0≤maxLen∧z0.length=cap0∧(∀ i,i<z0.length→w.cell? (x.add i)=some (.int .u8 (z0.getD i 0)))∧∀ n∈z0,(Lit.int .u8 n).wf=true) (y0:len0 * 1≤140737488351232) :
  Calls Try.prog 5 #[.slice a0 len0 cap0] w fun e w'=>e=.returned (.bool true)∧Below w.heap.size w w':=by
 obtain ⟨l0,rfl,hr0,hm0,hw0,hc0⟩:=ReadsInt.ofRowC w0
 obtain ⟨k,h⟩:=P l0 hm0 y0 hw0
 refine (laws_FnPrunedGraph.calls k _ _ l0 true w (Kd.C_of_reads (d:=(0:Int)) (h1:=fun _=>rfl) hr0) hc0 h).mono ?_
 rintro e w' ⟨rfl,hd⟩
 exact ⟨rfl,hd⟩
end Go.Proofs.Ytfhakhbmbnbneaa.Q
