import Derived.Test.YtapaegcombfafaaQ0
import Derived.Test.YtapaegcombfafaaQ30
import Derived.Test.YtapaegcombfafaaQ31
import Derived.Test.YtapaegcombfafaaQ35
import Derived.Test.YtapaegcombfafaaQ36
import Derived.Test.YtapaegcombfafaaQ37
import Derived.Test.YtapaegcombfafaaQ38
namespace Go.Proofs.Ytapaegcombfafaa.Q
open Go.RowKit Go.Proofs.YtapaegcombfafaaW.PrintWords Go.Proofs.YtapaegcombfafaaW.PrintLast Go.Proofs.YtapaegcombfafaaW.PrintMore
attribute [local go_sem] max2_int min2_int max_two min_two max_three min_three max_four min_four
set_option linter.unusedVariables false
set_option linter.unusedSimpArgs false
mutual
def laws_FnRenumberGraph.j0:Nat→List Int→Bool→List (S58)→Int→List (S58)→Int→Option (Bool)
 | 0,_,_,_,_,_,_=>none
 | k+1,x4,x30,x1118000,x1118001,x1123000,x1123001=>if x30=true then ((spec_RenumberGraph.f k x1118000 x1118001 x4).bind fun bt1128=>((laws_equalGraph.f k x1123000 x1123001 bt1128.1 bt1128.2).bind fun t1132=>(some t1132))) else (if 0≤(x4.length:Int) then (if ((x4.length:Int):Int).toNat≤35184372088832 then (laws_FnRenumberGraph.l0 k x4 (List.replicate ((x4.length:Int):Int).toNat 0) 0 x1118000 x1118001 x1123000 x1123001) else (none)) else (none))
def laws_FnRenumberGraph.l0:Nat→List Int→List Int→Int→List (S58)→Int→List (S58)→Int→Option (Bool)
 | 0,_,_,_,_,_,_,_=>none
 | k+1,x4,x6,x7,x1118000,x1118001,x1123000,x1123001=>if x7<(x4.length:Int) then (if 0≤x7 then (if 0≤(rd x4 x7) then (if (rd x4 x7)<(x6.length:Int) then (laws_FnRenumberGraph.l0 k x4 (x6.set ((rd x4 x7):Int).toNat x7) (wrap64 (x7+1)) x1118000 x1118001 x1123000 x1123001) else (none)) else (none)) else (none)) else ((impl_ValidGraph.f k x1123000 x1123001).bind fun t1138=>(if t1138=true then ((impl_SameGraph.f k x1123000 x1123001 x1118000 x1118001).bind fun t1139=>(if t1139=true then ((impl_RenumberGraph.f k x1123000 x1123001 x6).bind fun bt1140=>((laws_equalGraph.f k bt1140.1 bt1140.2 x1118000 x1118001).bind fun t1144=>(some t1144))) else (some false))) else (some false)))
end
def laws_FnRenumberGraph.f (k:Nat) (l0:List Int):Option (Bool):=if (l0.length:Int)>1048576 then (some true) else ((spec_DrawRenumberGraph.f k l0).bind fun bt1110=>((impl_RenumberGraph.f k bt1110.1 bt1110.2.1 bt1110.2.2).bind fun bt1118=>((spec_RenumberGraph.f k bt1110.1 bt1110.2.1 bt1110.2.2).bind fun bt1123=>((laws_equalGraph.f k bt1118.1 bt1118.2 bt1123.1 bt1123.2).bind fun t1127=>(if t1127=true then (laws_FnRenumberGraph.j0 k bt1110.2.2 ((bt1118.1.length:Int) == 0) bt1110.1 bt1110.2.1 bt1118.1 bt1118.2) else (laws_FnRenumberGraph.j0 k bt1110.2.2 true bt1110.1 bt1110.2.1 bt1118.1 bt1118.2))))))
set_option maxRecDepth 100000 in
theorem laws_FnRenumberGraph.mono_l:∀ k,(∀ y0 y1 y2 y3 y4 y5,LeO (laws_FnRenumberGraph.j0 k y0 y1 y2 y3 y4 y5) (laws_FnRenumberGraph.j0 (k+1) y0 y1 y2 y3 y4 y5))∧(∀ y0 y1 y2 y3 y4 y5 y6,LeO (laws_FnRenumberGraph.l0 k y0 y1 y2 y3 y4 y5 y6) (laws_FnRenumberGraph.l0 (k+1) y0 y1 y2 y3 y4 y5 y6))
 | 0=>⟨fun _ _ _ _ _ _ r h=>(by cases h),fun _ _ _ _ _ _ _ r h=>(by cases h)⟩
 | k+1=>by
  obtain ⟨ih0,ih1⟩:=laws_FnRenumberGraph.mono_l k
  refine ⟨?_,?_⟩
  ·intro y0 y1 y2 y3 y4 y5
   unfold laws_FnRenumberGraph.j0
   repeat' first
   | (with_reducible exact ih0 _ _ _ _ _ _)
   | (with_reducible exact ih1 _ _ _ _ _ _ _)
   | (with_reducible exact impl_RenumberGraph.mono _ _ _ _)
   | (with_reducible exact impl_SameGraph.mono _ _ _ _ _)
   | (with_reducible exact impl_ValidGraph.mono _ _ _)
   | (with_reducible exact laws_equalGraph.mono _ _ _ _ _)
   | (with_reducible exact spec_DrawRenumberGraph.mono _ _)
   | (with_reducible exact spec_RenumberGraph.mono _ _ _ _)
   | (with_reducible exact LeO.refl _)
   | (with_reducible exact LeO.none _)
   | (with_reducible refine LeO.ite ?_ ?_)
   | (with_reducible refine LeO.bind ?_ (fun _=>?_))
   | exact ih0 _ _ _ _ _ _
   | exact ih1 _ _ _ _ _ _ _
   | exact impl_RenumberGraph.mono _ _ _ _
   | exact impl_SameGraph.mono _ _ _ _ _
   | exact impl_ValidGraph.mono _ _ _
   | exact laws_equalGraph.mono _ _ _ _ _
   | exact spec_DrawRenumberGraph.mono _ _
   | exact spec_RenumberGraph.mono _ _ _ _
   | exact LeO.none _
   | refine LeO.ite ?_ ?_
   | refine LeO.bind ?_ (fun _=>?_)
  ·intro y0 y1 y2 y3 y4 y5 y6
   unfold laws_FnRenumberGraph.l0
   repeat' first
   | (with_reducible exact ih0 _ _ _ _ _ _)
   | (with_reducible exact ih1 _ _ _ _ _ _ _)
   | (with_reducible exact impl_RenumberGraph.mono _ _ _ _)
   | (with_reducible exact impl_SameGraph.mono _ _ _ _ _)
   | (with_reducible exact impl_ValidGraph.mono _ _ _)
   | (with_reducible exact laws_equalGraph.mono _ _ _ _ _)
   | (with_reducible exact spec_DrawRenumberGraph.mono _ _)
   | (with_reducible exact spec_RenumberGraph.mono _ _ _ _)
   | (with_reducible exact LeO.refl _)
   | (with_reducible exact LeO.none _)
   | (with_reducible refine LeO.ite ?_ ?_)
   | (with_reducible refine LeO.bind ?_ (fun _=>?_))
   | exact ih0 _ _ _ _ _ _
   | exact ih1 _ _ _ _ _ _ _
   | exact impl_RenumberGraph.mono _ _ _ _
   | exact impl_SameGraph.mono _ _ _ _ _
   | exact impl_ValidGraph.mono _ _ _
   | exact laws_equalGraph.mono _ _ _ _ _
   | exact spec_DrawRenumberGraph.mono _ _
   | exact spec_RenumberGraph.mono _ _ _ _
   | exact LeO.none _
   | refine LeO.ite ?_ ?_
   | refine LeO.bind ?_ (fun _=>?_)
set_option maxRecDepth 100000 in
theorem laws_FnRenumberGraph.mono:∀ a0 k,LeO (laws_FnRenumberGraph.f k a0) (laws_FnRenumberGraph.f (k+1) a0):=by
 intro a0 k
 obtain ⟨ih0,ih1⟩:=laws_FnRenumberGraph.mono_l k
 unfold laws_FnRenumberGraph.f
 repeat' first
   | (with_reducible exact ih0 _ _ _ _ _ _)
   | (with_reducible exact ih1 _ _ _ _ _ _ _)
   | (with_reducible exact impl_RenumberGraph.mono _ _ _ _)
   | (with_reducible exact impl_SameGraph.mono _ _ _ _ _)
   | (with_reducible exact impl_ValidGraph.mono _ _ _)
   | (with_reducible exact laws_equalGraph.mono _ _ _ _ _)
   | (with_reducible exact spec_DrawRenumberGraph.mono _ _)
   | (with_reducible exact spec_RenumberGraph.mono _ _ _ _)
   | (with_reducible exact LeO.refl _)
   | (with_reducible exact LeO.none _)
   | (with_reducible refine LeO.ite ?_ ?_)
   | (with_reducible refine LeO.bind ?_ (fun _=>?_))
   | exact ih0 _ _ _ _ _ _
   | exact ih1 _ _ _ _ _ _ _
   | exact impl_RenumberGraph.mono _ _ _ _
   | exact impl_SameGraph.mono _ _ _ _ _
   | exact impl_ValidGraph.mono _ _ _
   | exact laws_equalGraph.mono _ _ _ _ _
   | exact spec_DrawRenumberGraph.mono _ _
   | exact spec_RenumberGraph.mono _ _ _ _
   | exact LeO.none _
   | refine LeO.ite ?_ ?_
   | refine LeO.bind ?_ (fun _=>?_)
def laws_FnRenumberGraph.T5:Bool × List (List Nat × List Nat):=(true,[([],[]),([],[]),([],[]),([1,2],[1,2]),([0,3,3],[0,3]),([4],[4]),([5,4],[5]),([6],[6]),([7,6],[6,7]),([8,6],[6,8]),([9,6],[6,9]),([6,10],[6,10])])
def laws_FnRenumberGraph.B5:List Nat:=[0,0,0,6,15,31,63,127,255,511,1023,2047]
theorem laws_FnRenumberGraph.tab5:rtab .any (opsOf Try.f10 5)=laws_FnRenumberGraph.T5:=by kernel_rfl
theorem laws_FnRenumberGraph.bits5:waitsOk laws_FnRenumberGraph.T5.2 laws_FnRenumberGraph.B5=true:=by kernel_rfl
def laws_FnRenumberGraph.T12:Bool × List (List Nat × List Nat):=(true,[([],[]),([0],[0]),([1,1],[1]),([2],[2]),([2],[2]),([3,4,2,2],[2,3,4]),([2,5],[2,5]),([6,5],[6]),([7],[7]),([7],[7]),([8,9,7,7],[7,8,9]),([7],[7]),([10,11,10,7],[7,10,11]),([7,12],[7,12]),([13,12,0,1,2,3,4,5,6,7,8,9,10,11,12,13],[13])])
def laws_FnRenumberGraph.B12:List Nat:=[0,1,3,7,7,31,63,127,255,255,1023,255,4095,8191,16383]
theorem laws_FnRenumberGraph.tab12:rtab .any (opsOf Try.f10 12)=laws_FnRenumberGraph.T12:=by kernel_rfl
theorem laws_FnRenumberGraph.bits12:waitsOk laws_FnRenumberGraph.T12.2 laws_FnRenumberGraph.B12=true:=by kernel_rfl
set_option maxHeartbeats 8000000 in
set_option maxRecDepth 100000 in
theorem laws_FnRenumberGraph.calls (k:Nat) (A0:Option Addr) (c0:Nat) (l0:List Int) (r:Bool) (w:World) (hr0:Kd.C (Kd.int .u8) w A0 l0.length l0) (hc0:l0.length≤c0) (h:laws_FnRenumberGraph.f k l0=some r) :
  Calls Try.prog 10 #[.slice A0 l0.length c0] w fun e w'=>e=.returned (.bool r)∧Below w.heap.size w w':=by
 have hu25:=Try.underlying25
 have HR0:=As_ hr0
 have HC0:=As_ hc0
 clear hr0 hc0
 have HB:=As_ (Below.refl w.heap.size w)
 have H:(if (l0.length:Int)>1048576 then (some true) else ((spec_DrawRenumberGraph.f k l0).bind fun bt1110=>((impl_RenumberGraph.f k bt1110.1 bt1110.2.1 bt1110.2.2).bind fun bt1118=>((spec_RenumberGraph.f k bt1110.1 bt1110.2.1 bt1110.2.2).bind fun bt1123=>((laws_equalGraph.f k bt1118.1 bt1118.2 bt1123.1 bt1123.2).bind fun t1127=>(if t1127=true then (laws_FnRenumberGraph.j0 k bt1110.2.2 ((bt1118.1.length:Int) == 0) bt1110.1 bt1110.2.1 bt1118.1 bt1118.2) else (laws_FnRenumberGraph.j0 k bt1110.2.2 true bt1110.1 bt1110.2.1 bt1118.1 bt1118.2)))))))=some r:=h
 clear h
 by_cases c2:(l0.length:Int)>1048576
 ·rw [if_pos c2] at H
  have c2b0:decide (1048576<(l0.length:Int))=true:=deT c2
  have c2b1:decide (1048576<l0.length)=true:=deT (by omega)
  clear c2
  obtain rfl:=Option.some.inj H
  go_enter Try.func10,Try.ntmps10
  go_wp2
  go_ret
  exact ⟨zE_,zb0 HB.out⟩
 rw [if_neg c2] at H
 have c2b0:decide (1048576<(l0.length:Int))=false:=deF c2
 have c2b1:decide (1048576<l0.length)=false:=deF (by omega)
 clear c2
 replace H:=obS H
 obtain ⟨⟨t1110,t1113,t1114⟩,A30,H⟩:=H
 replace H:((impl_RenumberGraph.f k t1110 t1113 t1114).bind fun bt1118=>((spec_RenumberGraph.f k t1110 t1113 t1114).bind fun bt1123=>((laws_equalGraph.f k bt1118.1 bt1118.2 bt1123.1 bt1123.2).bind fun t1127=>(if t1127=true then (laws_FnRenumberGraph.j0 k t1114 ((bt1118.1.length:Int) == 0) t1110 t1113 bt1118.1 bt1118.2) else (laws_FnRenumberGraph.j0 k t1114 true t1110 t1113 bt1118.1 bt1118.2)))))=some r:=H
 have A3:=As_ A30
 clear A30
 replace H:=obS H
 obtain ⟨⟨t1118,t1121⟩,A40,H⟩:=H
 replace H:((spec_RenumberGraph.f k t1110 t1113 t1114).bind fun bt1123=>((laws_equalGraph.f k t1118 t1121 bt1123.1 bt1123.2).bind fun t1127=>(if t1127=true then (laws_FnRenumberGraph.j0 k t1114 ((t1118.length:Int) == 0) t1110 t1113 t1118 t1121) else (laws_FnRenumberGraph.j0 k t1114 true t1110 t1113 t1118 t1121))))=some r:=H
 have A4:=As_ A40
 clear A40
 have HC5:=As_ H
 clear H
 go_enter Try.func10,Try.ntmps10
 go_upto_region 5 with (first|((with_reducible refine gate_callee (f:=35) rfl ?_);refine goesL_ (some 13) rfl rfl Try.func35 (by kernel_rfl) rfl #[.slice A0 l0.length c0] rfl zM_ ?_;(with_reducible refine (spec_DrawRenumberGraph.calls k _ _ l0 t1110 t1113 t1114 _ ?side1 ?side2 A3.out).mono ?_);(case side1=>repeat (first|exact HR0.out|(with_reducible refine Kd.C_alloc ?_ _)|(with_reducible refine Kd.C_drewN ?_ _)|(with_reducible refine Kd.C_drew ?_)));(case side2=>exact HC0.out);rintro e w6 ⟨v1111,v1115,rfl,ho0,ho1,hb⟩;refine ⟨_,rfl,?_⟩;have n0_:=As_ (Kd.S_lower ho0 (bwZ (zb0 HB.out)));have n1_:=As_ (Kd.R_lower ho1 (bwZ (zb0 HB.out)));have n2_:=As_ (bwT (zb0 HB.out) hb);clear HB;revert n0_ n1_ n2_;intro HO1112 HO1116 HB)|((with_reducible refine gate_dst (N:=3) rfl ?_);(try (refine gate_guard (by rfl) ?_;dsimp only));refine box_event ?hg (N:=3) ?hd (cs:=#[.slice none 0 0,.int .i64 0]) (t:=25) ?hr ?_;(case hd=>rfl);(case hg=>rfl);(case hr=>go_simp <;> rfl);intro gb1117 hg w7 hbox hb;have n0_:=As_ (Kd.S_below (zS_ HO1112.out) hb);have n1_:=As_ (Kd.R_below (zR_ HO1116.out) hb);have n2_:=As_ (bwT (zb0 HB.out) hb);have n3_:=As_ (hbox);have n4_:=As_ ((by rw [hg];exact (bwZ (zb0 HB.out)):w.heap.size≤gb1117));have n5_:=As_ ((by rw [hg];exact (bwZ (zb0 HB.out)):w.heap.size≤gb1117));clear HO1112 HO1116 HB;revert n0_ n1_ n2_ n3_ n4_ n5_;intro HO1112 HO1116 HB BK1117 GW1117 GE1117;clear hb hbox hg;obtain ⟨Ao8,co8,eo8⟩:=Kd.S_slice HO1112.out;subst eo8;obtain ⟨hcz9_0,hcz9_1,hfz9_0,hfz9_1⟩:=bk2 BK1117.out;obtain ⟨Ao10,co10,eo10⟩:=Kd.R_slice HO1116.out;subst eo10)|((with_reducible refine gate_callee (f:=31) rfl ?_);refine goesL_ (some 18) rfl rfl Try.func31 (by kernel_rfl) rfl #[.agg #[.slice Ao8 t1110.length co8,.int .i64 t1113],.slice Ao10 t1114.length co10] rfl zM_ ?_;(with_reducible refine (impl_RenumberGraph.calls k _ _ t1110 t1113 _ _ t1114 t1118 t1121 _ ?side1 ?side2 ?side3 ?side4 A4.out).mono ?_);(case side1=>refine (Kd.S_reads' (e:=58) (base:=w.heap.size) (ok:=fun k_=>some k_≠(.slice Ao10 t1114.length co10:Value).ownBlock) (n:=t1110.length) (c:=co8) ?_).2.2;exact (by (with_reducible repeat (first|apply Kd.S_alloc|apply Kd.S_drewN|apply Kd.S_drew));exact (Kd.S_mono (Kd.S_far (p:=⟨gb1117,1,none⟩) (Kd.S_far (p:=⟨gb1117,0,none⟩) (Kd.S_types HO1112.out BK1117.out (by decide)) (fun _ hk=>hk.2) (.slice Ao8 t1110.length co8)) (fun _ hk=>hk.2) (.int .i64 t1113)) (fun _ h_=>h_.1))));(case side2=>exact (Kd.S_reads' HO1112.out).2.1);(case side3=>refine (Kd.R_reads' (e:=3) (base:=w.heap.size) (ok:=fun k_=>True) (n:=t1114.length) (c:=co10) ?_).2.2;exact (by (with_reducible repeat (first|apply Kd.R_alloc|apply Kd.R_drewN|apply Kd.R_drew));exact (Kd.R_mono (Kd.R_far (p:=⟨gb1117,1,none⟩) (Kd.R_far (p:=⟨gb1117,0,none⟩) (Kd.R_types HO1116.out BK1117.out (by decide)) (fun _ hk=>hk.2) (.slice Ao8 t1110.length co8)) (fun _ hk=>hk.2) (.int .i64 t1113)) (fun _ h_=>h_.1))));(case side4=>exact (Kd.R_reads' HO1116.out).2.1);rintro e w11 ⟨v1119,rfl,ho0,hb⟩;refine ⟨_,rfl,?_⟩;have n0_:=As_ (Kd.S_elder' (by (with_reducible repeat (first|apply Kd.S_alloc|apply Kd.S_drewN|apply Kd.S_drew));exact (Kd.S_mono (Kd.S_far (p:=⟨gb1117,1,none⟩) (Kd.S_far (p:=⟨gb1117,0,none⟩) (Kd.S_types HO1112.out BK1117.out (by decide)) (fun _ hk=>hk.2) (.slice Ao8 t1110.length co8)) (fun _ hk=>hk.2) (.int .i64 t1113)) (fun _ h_=>h_.1))) (Kd.S_base ho0) hb);have n1_:=As_ (Kd.R_below (by (with_reducible repeat (first|apply Kd.R_alloc|apply Kd.R_drewN|apply Kd.R_drew));exact (Kd.R_mono (Kd.R_far (p:=⟨gb1117,1,none⟩) (Kd.R_far (p:=⟨gb1117,0,none⟩) (Kd.R_types HO1116.out BK1117.out (by decide)) (fun _ hk=>hk.2) (.slice Ao8 t1110.length co8)) (fun _ hk=>hk.2) (.int .i64 t1113)) (fun _ h_=>h_.1))) hb);have n2_:=As_ (Kd.S_lower (Kd.S_new' (Kd.S_new' ho0 (Kd.S_lt (by (with_reducible repeat (first|apply Kd.S_alloc|apply Kd.S_drewN|apply Kd.S_drew));exact (Kd.S_mono (Kd.S_far (p:=⟨gb1117,1,none⟩) (Kd.S_far (p:=⟨gb1117,0,none⟩) (Kd.S_types HO1112.out BK1117.out (by decide)) (fun _ hk=>hk.2) (.slice Ao8 t1110.length co8)) (fun _ hk=>hk.2) (.int .i64 t1113)) (fun _ h_=>h_.1))))) (Kd.R_lt (by (with_reducible repeat (first|apply Kd.R_alloc|apply Kd.R_drewN|apply Kd.R_drew));exact (Kd.R_mono (Kd.R_far (p:=⟨gb1117,1,none⟩) (Kd.R_far (p:=⟨gb1117,0,none⟩) (Kd.R_types HO1116.out BK1117.out (by decide)) (fun _ hk=>hk.2) (.slice Ao8 t1110.length co8)) (fun _ hk=>hk.2) (.int .i64 t1113)) (fun _ h_=>h_.1))))) (bwZ (zb1 HB.out GE1117.out)));have n3_:=As_ (blk_below (g:=gb1117) (o:=.cells #[.slice Ao8 t1110.length co8,.int .i64 t1113] 25 (0,0)) (by (with_reducible repeat first|apply bkN|apply bkD|apply bkA);refine blk_put (cs:=#[.slice Ao8 t1110.length co8,.int .i64 0]) ?_ 1 _ rfl;(with_reducible repeat first|apply bkN|apply bkD|apply bkA);refine blk_put (cs:=#[.slice none 0 0,.int .i64 0]) ?_ 0 _ rfl;(with_reducible repeat first|apply bkN|apply bkD|apply bkA);exact BK1117.out) hb);have n4_:=As_ (bwT (zb1 HB.out GE1117.out) hb);clear HO1112 HO1116 BK1117 HB;revert n0_ n1_ n2_ n3_ n4_;intro HO1112 HO1116 HO1120 BK1117 HB)|((with_reducible refine gate_dst (N:=5) rfl ?_);(try (refine gate_guard (by rfl) ?_;dsimp only));refine box_event ?hg (N:=5) ?hd (cs:=#[.slice none 0 0,.int .i64 0]) (t:=25) ?hr ?_;(case hd=>rfl);(case hg=>rfl);(case hr=>go_simp <;> rfl);intro gb1122 hg w12 hbox hb;have n0_:=As_ (Kd.S_below (zS_ HO1112.out) hb);have n1_:=As_ (Kd.R_below (zR_ HO1116.out) hb);have n2_:=As_ (Kd.S_below (zS_ HO1120.out) hb);have n3_:=As_ (zkb BK1117.out hb);have n4_:=As_ (bwT (zb1 HB.out GE1117.out) hb);have n5_:=As_ (hbox);have n6_:=As_ ((by rw [hg];exact (bwZ (zb1 HB.out GE1117.out)):w.heap.size≤gb1122));have n7_:=As_ ((by rw [hg];exact (bwZ (zb1 HB.out GE1117.out)):w.heap.size≤gb1122));have n8_:=As_ ((by rw [hg];exact Nat.ne_of_lt (zkl BK1117.out):gb1117≠gb1122));have n9_:=As_ ((by rw [hg];exact Nat.ne_of_gt (zkl BK1117.out):gb1122≠gb1117));clear HO1112 HO1116 HO1120 BK1117 HB;revert n0_ n1_ n2_ n3_ n4_ n5_ n6_ n7_ n8_ n9_;intro HO1112 HO1116 HO1120 BK1117 HB BK1122 GW1122 GE1122 NB1117_1122 NB1122_1117;clear hb hbox hg;obtain ⟨Ao13,co13,eo13⟩:=Kd.S_slice HO1120.out;subst eo13;have hnb14:=NB1122_1117.out;have hnc14:=NB1117_1122.out;obtain ⟨hcz15_0,hcz15_1,hfz15_0,hfz15_1⟩:=bk2 BK1122.out))
 (try simp only [Act.put,List.setIfInBounds_toArray,List.set_cons_zero,List.set_cons_succ])
 go_cut [30] (fun v30 wc=>∃ (kq:Nat) (x30_4:Bool),v30=.bool x30_4∧Aside0 (laws_FnRenumberGraph.j0 kq t1114 x30_4 t1110 t1113 t1118 t1121=some r)∧Aside0 (kq≤k)∧Aside0 (Kd.R (Kd.int .i64) 3 wc w.heap.size (fun _=>True) (.slice Ao10 t1114.length co10) t1114)∧Aside0 (Kd.S k58 58 wc w.heap.size (fun k_=>some k_≠((.slice Ao10 t1114.length co10):Value).ownBlock∧some k_≠((.slice Ao13 t1118.length co13):Value).ownBlock) (.slice Ao8 t1110.length co8) t1110)∧Aside0 (Kd.S k58 58 wc w.heap.size (fun k_=>some k_≠((.slice Ao10 t1114.length co10):Value).ownBlock∧some k_≠((.slice Ao8 t1110.length co8):Value).ownBlock) (.slice Ao13 t1118.length co13) t1118)∧Aside0 (wc.heap[gb1117]?=some (.cells #[(.slice Ao8 t1110.length co8),.int .i64 t1113] 25 (0,0)))∧Aside0 (wc.heap[gb1122]?=some (.cells #[(.slice Ao13 t1118.length co13),.int .i64 t1121] 25 (0,0)))∧Aside0 (Below w.heap.size w wc))
 case first=>
  have H:=HC5.out
  clear HC5
  replace H:=obS H
  obtain ⟨⟨t1123,t1126⟩,A160,H⟩:=H
  replace H:((laws_equalGraph.f k t1118 t1121 t1123 t1126).bind fun t1127=>(if t1127=true then (laws_FnRenumberGraph.j0 k t1114 ((t1118.length:Int) == 0) t1110 t1113 t1118 t1121) else (laws_FnRenumberGraph.j0 k t1114 true t1110 t1113 t1118 t1121)))=some r:=H
  have A16:=As_ A160
  clear A160
  replace H:=obS H
  obtain ⟨t1127,A170,H⟩:=H
  replace H:(if t1127=true then (laws_FnRenumberGraph.j0 k t1114 ((t1118.length:Int) == 0) t1110 t1113 t1118 t1121) else (laws_FnRenumberGraph.j0 k t1114 true t1110 t1113 t1118 t1121))=some r:=H
  have A17:=As_ A170
  clear A170
  by_cases c18:t1127=true
  ·subst c18
   have H1:(laws_FnRenumberGraph.j0 k t1114 ((t1118.length:Int) == 0) t1110 t1113 t1118 t1121)=some r:=by rw [if_pos rfl] at H;exact H
   clear H
   have H:=H1
   clear H1
   have H':=As_ H
   clear H
   try go_wp2
   have n0_:Aside0 (Kd.S k58 58 ((w12.setCell ⟨gb1122,0,none⟩ (.slice Ao13 t1118.length co13)).setCell ⟨gb1122,1,none⟩ (.int .i64 t1121)) w.heap.size (fun k_=>some k_≠(.slice Ao10 t1114.length co10:Value).ownBlock∧some k_≠(.slice Ao13 t1118.length co13:Value).ownBlock) (.slice Ao8 t1110.length co8) t1110):=⟨by (with_reducible repeat (first|apply Kd.S_alloc|apply Kd.S_drewN|apply Kd.S_drew));exact Kd.S_mono (Kd.S_far (p:=⟨gb1122,1,none⟩) (Kd.S_far (p:=⟨gb1122,0,none⟩) (Kd.S_types HO1112.out BK1122.out (by decide)) (fun _ hk=>hk.2) (.slice Ao13 t1118.length co13)) (fun _ hk=>hk.2) (.int .i64 t1121)) (fun _ hk=>⟨hk.1.1,hk.1.2⟩)⟩
   have n1_:Aside0 (Kd.R (Kd.int .i64) 3 ((w12.setCell ⟨gb1122,0,none⟩ (.slice Ao13 t1118.length co13)).setCell ⟨gb1122,1,none⟩ (.int .i64 t1121)) w.heap.size (fun _=>True) (.slice Ao10 t1114.length co10) t1114):=⟨by (with_reducible repeat (first|apply Kd.R_alloc|apply Kd.R_drewN|apply Kd.R_drew));exact Kd.R_mono (Kd.R_far (p:=⟨gb1122,1,none⟩) (Kd.R_far (p:=⟨gb1122,0,none⟩) (Kd.R_types HO1116.out BK1122.out (by decide)) (fun _ hk=>hk.2) (.slice Ao13 t1118.length co13)) (fun _ hk=>hk.2) (.int .i64 t1121)) (fun _ hk=>trivial)⟩
   have n2_:Aside0 (Kd.S k58 58 ((w12.setCell ⟨gb1122,0,none⟩ (.slice Ao13 t1118.length co13)).setCell ⟨gb1122,1,none⟩ (.int .i64 t1121)) w.heap.size (fun k_=>some k_≠(.slice Ao8 t1110.length co8:Value).ownBlock∧some k_≠(.slice Ao10 t1114.length co10:Value).ownBlock) (.slice Ao13 t1118.length co13) t1118):=⟨by (with_reducible repeat (first|apply Kd.S_alloc|apply Kd.S_drewN|apply Kd.S_drew));exact Kd.S_mono (Kd.S_far (p:=⟨gb1122,1,none⟩) (Kd.S_far (p:=⟨gb1122,0,none⟩) (Kd.S_types HO1120.out BK1122.out (by decide)) (fun _ hk=>hk.2) (.slice Ao13 t1118.length co13)) (fun _ hk=>hk.2) (.int .i64 t1121)) (fun _ hk=>⟨hk.1.1.2,hk.1.2⟩)⟩
   have n3_:Aside0 (((w12.setCell ⟨gb1122,0,none⟩ (.slice Ao13 t1118.length co13)).setCell ⟨gb1122,1,none⟩ (.int .i64 t1121)).heap[gb1117]?=some (.cells #[.slice Ao8 t1110.length co8,.int .i64 t1113] 25 (0,0))):=⟨by (with_reducible repeat first|apply bkN|apply bkD|apply bkA);refine blk_far ?_ NB1117_1122.out _;(with_reducible repeat first|apply bkN|apply bkD|apply bkA);refine blk_far ?_ NB1117_1122.out _;(with_reducible repeat first|apply bkN|apply bkD|apply bkA);exact BK1117.out⟩
   have n4_:Aside0 (((w12.setCell ⟨gb1122,0,none⟩ (.slice Ao13 t1118.length co13)).setCell ⟨gb1122,1,none⟩ (.int .i64 t1121)).heap[gb1122]?=some (.cells #[.slice Ao13 t1118.length co13,.int .i64 t1121] 25 (0,0))):=⟨by (with_reducible repeat first|apply bkN|apply bkD|apply bkA);refine blk_put (cs:=#[.slice Ao13 t1118.length co13,.int .i64 0]) ?_ 1 _ rfl;(with_reducible repeat first|apply bkN|apply bkD|apply bkA);refine blk_put (cs:=#[.slice none 0 0,.int .i64 0]) ?_ 0 _ rfl;(with_reducible repeat first|apply bkN|apply bkD|apply bkA);exact BK1122.out⟩
   have n5_:Aside0 (Below w.heap.size w ((w12.setCell ⟨gb1122,0,none⟩ (.slice Ao13 t1118.length co13)).setCell ⟨gb1122,1,none⟩ (.int .i64 t1121))):=⟨zb2 HB.out GE1117.out GE1122.out⟩
   generalize ((w12.setCell ⟨gb1122,0,none⟩ (.slice Ao13 t1118.length co13)).setCell ⟨gb1122,1,none⟩ (.int .i64 t1121))=w19 at n0_ n1_ n2_ n3_ n4_ n5_ ⊢
   revert n0_ n1_ n2_ n3_ n4_ n5_;intro HO1112 HO1116 HO1120 BK1117 BK1122 HB
   have n0_:=As_ (Kd.S_drew HO1112.out)
   have n1_:=As_ (Kd.R_drew HO1116.out)
   have n2_:=As_ (Kd.S_drew HO1120.out)
   have n3_:=As_ (bkD BK1117.out)
   have n4_:=As_ (bkD BK1122.out)
   have n5_:=As_ (bwD HB.out)
   clear HO1112 HO1116 HO1120 BK1117 BK1122 HB
   revert n0_ n1_ n2_ n3_ n4_ n5_;intro HO1112 HO1116 HO1120 BK1117 BK1122 HB
   refine start_ (n:=12) (S:=fun w'=>w'.cell? ⟨gb1122,0,none⟩=some (.slice Ao13 t1118.length co13)∧w'.cell? ⟨gb1122,1,none⟩=some (.int .i64 t1121)∧w'.cell? ⟨gb1117,0,none⟩=some (.slice Ao8 t1110.length co8)∧w'.cell? ⟨gb1117,1,none⟩=some (.int .i64 t1113)) (ds:=[]) (bl_ 0 12) (by kernel_rfl) rfl rfl ⟨(bkC BK1122.out 0).trans rfl,(bkC BK1122.out 1).trans rfl,(bkC BK1117.out 0).trans rfl,(bkC BK1117.out 1).trans rfl⟩ (fun hHeld=>?_);refine with_tabW laws_FnRenumberGraph.tab5 laws_FnRenumberGraph.bits5 (fun HT_ HW_=>?_)
   generalize w19.drew=w20 at HO1112 HO1116 HO1120 BK1117 BK1122 HB hHeld ⊢
   refine pQ 2 21 (bl_ 4 12) HT_ rfl ?_
   refine tP 0 19 (bl_ 5 12) ?_ HT_ HW_ rfl (.inl ⟨by rfl,?_⟩) hHeld ?_ ?_ ?_;rotate_left;(rintro w' ⟨s0,s1,s2,s3⟩;go_simp;with_reducible rfl);rotate_left;(simp only [Act.put,sq_,i64_w,i32_w];rfl)
   refine tP 1 20 (bl_ 7 12) ?_ HT_ HW_ rfl (.inl ⟨by rfl,?_⟩) hHeld ?_ ?_ ?_;rotate_left;(rintro w' ⟨s0,s1,s2,s3⟩;go_simp;with_reducible rfl);rotate_left;(simp only [Act.put,sq_,i64_w,i32_w];rfl)
   refine one_ (i:=3) (N:=some 22) (bl_ 15 12) rfl rfl (one_of HT_.out (by kernel_rfl)) (by decide) (fun K hK=>?_)
   refine goes_ Try.func30 (by kernel_rfl) rfl #[.agg #[.slice Ao8 t1110.length co8,.int .i64 t1113],.slice Ao10 t1114.length co10] (by rfl) rfl rfl zM_ ?_
   with_reducible refine (spec_RenumberGraph.calls k _ _ t1110 t1113 _ _ t1114 t1123 t1126 _ ?side1 ?side2 ?side3 ?side4 A16.out).mono ?_
   (case side1=>exact zC_ (Kd.S_reads' HO1112.out).2.2)
   (case side2=>exact (Kd.S_reads' HO1112.out).2.1)
   (case side3=>exact zC_ (Kd.R_reads' HO1116.out).2.2)
   (case side4=>exact (Kd.R_reads' HO1116.out).2.1)
   rintro e w21 ⟨v1124,rfl,ho0,hb⟩
   refine ⟨_,rfl,?_⟩
   have n0_:=As_ (Kd.S_elder' (zS_ HO1112.out) (Kd.S_base ho0) hb)
   have n1_:=As_ (Kd.R_below (zR_ HO1116.out) hb)
   have n2_:=As_ (Kd.S_elder' (zS_ HO1120.out) (Kd.S_base ho0) hb)
   have n3_:=As_ (Kd.S_lower (Kd.S_new' (Kd.S_new' (Kd.S_new' ho0 (Kd.S_lt (zS_ HO1112.out))) (Kd.R_lt (zR_ HO1116.out))) (Kd.S_lt (zS_ HO1120.out))) (bwZ (zb2 HB.out GE1117.out GE1122.out)))
   have n4_:=As_ (zkb BK1117.out hb)
   have n5_:=As_ (zkb BK1122.out hb)
   have n6_:=As_ (bwT (zb2 HB.out GE1117.out GE1122.out) hb)
   clear HO1112 HO1116 HO1120 BK1117 BK1122 HB
   revert n0_ n1_ n2_ n3_ n4_ n5_ n6_;intro HO1112 HO1116 HO1120 HO1125 BK1117 BK1122 HB
   obtain ⟨Ao22,co22,eo22⟩:=Kd.S_slice HO1125.out
   (first|subst eo22|(injection eo22 with f1_ f2_ f3_;have f4_:=f1_.symm;have f5_:=f3_.symm;clear f1_ f2_ f3_;subst f4_;subst f5_))
   refine hK.out _ _ ⟨(bkC BK1122.out 0).trans rfl,(bkC BK1122.out 1).trans rfl,(bkC BK1117.out 0).trans rfl,(bkC BK1117.out 1).trans rfl⟩ (fun hHeld=>?_)
   clear hK K
   refine norm_ (a':=?_) ?_ ?_
   rotate_left
   ·show Act.put _ (some 22) _=_
    simp only [Act.put,sq_,i64_w,i32_w]
    rfl
   refine one_ (i:=4) (N:=some 23) (bl_ 31 12) rfl rfl (one_of HT_.out (by kernel_rfl)) (by decide) (fun K hK=>?_)
   refine goes_ Try.func36 (by kernel_rfl) rfl #[.agg #[.slice Ao13 t1118.length co13,.int .i64 t1121],.agg #[.slice Ao22 t1123.length co22,.int .i64 t1126]] (by rfl) rfl rfl zM_ ?_
   with_reducible refine (laws_equalGraph.calls k _ _ t1118 t1121 _ _ t1123 t1126 true _ ?side1 ?side2 ?side3 ?side4 A17.out).mono ?_
   (case side1=>exact zC_ (Kd.S_reads' HO1120.out).2.2)
   (case side2=>exact (Kd.S_reads' HO1120.out).2.1)
   (case side3=>exact zC_ (Kd.S_reads' HO1125.out).2.2)
   (case side4=>exact (Kd.S_reads' HO1125.out).2.1)
   rintro e w23 ⟨rfl,hb⟩
   refine ⟨_,rfl,?_⟩
   have n0_:=As_ (Kd.S_below (zS_ HO1112.out) hb)
   have n1_:=As_ (Kd.R_below (zR_ HO1116.out) hb)
   have n2_:=As_ (Kd.S_below (zS_ HO1120.out) hb)
   have n3_:=As_ (Kd.S_below (zS_ HO1125.out) hb)
   have n4_:=As_ (zkb BK1117.out hb)
   have n5_:=As_ (zkb BK1122.out hb)
   have n6_:=As_ (bwT (zb2 HB.out GE1117.out GE1122.out) hb)
   clear HO1112 HO1116 HO1120 HO1125 BK1117 BK1122 HB
   revert n0_ n1_ n2_ n3_ n4_ n5_ n6_;intro HO1112 HO1116 HO1120 HO1125 BK1117 BK1122 HB
   refine hK.out _ _ ⟨(bkC BK1122.out 0).trans rfl,(bkC BK1122.out 1).trans rfl,(bkC BK1117.out 0).trans rfl,(bkC BK1117.out 1).trans rfl⟩ (fun hHeld=>?_)
   clear hK K
   refine norm_ (a':=?_) ?_ ?_
   rotate_left
   ·show Act.put _ (some 23) _=_
    simp only [Act.put,sq_,i64_w,i32_w]
    rfl
   refine pQ 5 24 (bl_ 63 12) HT_ rfl ?_
   refine pQ 6 25 (bl_ 127 12) HT_ rfl ?_
   refine pQ 7 26 (bl_ 255 12) HT_ rfl ?_
   refine tP 8 27 (bl_ 511 12) ?_ HT_ HW_ rfl (.inl ⟨by rfl,?_⟩) hHeld ?_ ?_ ?_;rotate_left;(rintro w' ⟨s0,s1,s2,s3⟩;go_simp;with_reducible rfl);rotate_left;(simp only [Act.put,sq_,i64_w,i32_w];rfl)
   refine pQ 9 28 (bl_ 1023 12) HT_ rfl ?_
   refine pQ 10 29 (bl_ 2047 12) HT_ rfl ?_
   refine pQ 11 30 (bl_ 4095 12) HT_ rfl ?_
   refine done_ (done_of HT_.out (by kernel_rfl)) ?_
   try go_wp2
   go_meet
   case rel=>exact ⟨_,(((t1118.length:Int) == 0)),zT_,H',⟨by first|omega|exact Nat.le_refl _⟩,⟨by (with_reducible repeat (first|apply Kd.R_alloc|apply Kd.R_drewN|apply Kd.R_drew));exact HO1116.out⟩,⟨by (with_reducible repeat (first|apply Kd.S_alloc|apply Kd.S_drewN|apply Kd.S_drew));exact Kd.S_mono HO1112.out (fun _ hk=>⟨hk.1.1,hk.1.2⟩)⟩,⟨by (with_reducible repeat (first|apply Kd.S_alloc|apply Kd.S_drewN|apply Kd.S_drew));exact Kd.S_mono HO1120.out (fun _ hk=>⟨hk.1.2,hk.1.1⟩)⟩,⟨by (with_reducible repeat first|apply bkN|apply bkD|apply bkA);exact BK1117.out⟩,⟨by (with_reducible repeat first|apply bkN|apply bkD|apply bkA);exact BK1122.out⟩,⟨zb2 HB.out GE1117.out GE1122.out⟩⟩
  replace c18:=Bool.eq_false_iff.mpr c18
  subst c18
  have H1:(laws_FnRenumberGraph.j0 k t1114 true t1110 t1113 t1118 t1121)=some r:=by rw [if_neg (show ¬ (false=true) by decide)] at H;exact H
  clear H
  have H:=H1
  clear H1
  have H':=As_ H
  clear H
  try go_wp2
  have n0_:Aside0 (Kd.S k58 58 ((w12.setCell ⟨gb1122,0,none⟩ (.slice Ao13 t1118.length co13)).setCell ⟨gb1122,1,none⟩ (.int .i64 t1121)) w.heap.size (fun k_=>some k_≠(.slice Ao10 t1114.length co10:Value).ownBlock∧some k_≠(.slice Ao13 t1118.length co13:Value).ownBlock) (.slice Ao8 t1110.length co8) t1110):=⟨by (with_reducible repeat (first|apply Kd.S_alloc|apply Kd.S_drewN|apply Kd.S_drew));exact Kd.S_mono (Kd.S_far (p:=⟨gb1122,1,none⟩) (Kd.S_far (p:=⟨gb1122,0,none⟩) (Kd.S_types HO1112.out BK1122.out (by decide)) (fun _ hk=>hk.2) (.slice Ao13 t1118.length co13)) (fun _ hk=>hk.2) (.int .i64 t1121)) (fun _ hk=>⟨hk.1.1,hk.1.2⟩)⟩
  have n1_:Aside0 (Kd.R (Kd.int .i64) 3 ((w12.setCell ⟨gb1122,0,none⟩ (.slice Ao13 t1118.length co13)).setCell ⟨gb1122,1,none⟩ (.int .i64 t1121)) w.heap.size (fun _=>True) (.slice Ao10 t1114.length co10) t1114):=⟨by (with_reducible repeat (first|apply Kd.R_alloc|apply Kd.R_drewN|apply Kd.R_drew));exact Kd.R_mono (Kd.R_far (p:=⟨gb1122,1,none⟩) (Kd.R_far (p:=⟨gb1122,0,none⟩) (Kd.R_types HO1116.out BK1122.out (by decide)) (fun _ hk=>hk.2) (.slice Ao13 t1118.length co13)) (fun _ hk=>hk.2) (.int .i64 t1121)) (fun _ hk=>trivial)⟩
  have n2_:Aside0 (Kd.S k58 58 ((w12.setCell ⟨gb1122,0,none⟩ (.slice Ao13 t1118.length co13)).setCell ⟨gb1122,1,none⟩ (.int .i64 t1121)) w.heap.size (fun k_=>some k_≠(.slice Ao8 t1110.length co8:Value).ownBlock∧some k_≠(.slice Ao10 t1114.length co10:Value).ownBlock) (.slice Ao13 t1118.length co13) t1118):=⟨by (with_reducible repeat (first|apply Kd.S_alloc|apply Kd.S_drewN|apply Kd.S_drew));exact Kd.S_mono (Kd.S_far (p:=⟨gb1122,1,none⟩) (Kd.S_far (p:=⟨gb1122,0,none⟩) (Kd.S_types HO1120.out BK1122.out (by decide)) (fun _ hk=>hk.2) (.slice Ao13 t1118.length co13)) (fun _ hk=>hk.2) (.int .i64 t1121)) (fun _ hk=>⟨hk.1.1.2,hk.1.2⟩)⟩
  have n3_:Aside0 (((w12.setCell ⟨gb1122,0,none⟩ (.slice Ao13 t1118.length co13)).setCell ⟨gb1122,1,none⟩ (.int .i64 t1121)).heap[gb1117]?=some (.cells #[.slice Ao8 t1110.length co8,.int .i64 t1113] 25 (0,0))):=⟨by (with_reducible repeat first|apply bkN|apply bkD|apply bkA);refine blk_far ?_ NB1117_1122.out _;(with_reducible repeat first|apply bkN|apply bkD|apply bkA);refine blk_far ?_ NB1117_1122.out _;(with_reducible repeat first|apply bkN|apply bkD|apply bkA);exact BK1117.out⟩
  have n4_:Aside0 (((w12.setCell ⟨gb1122,0,none⟩ (.slice Ao13 t1118.length co13)).setCell ⟨gb1122,1,none⟩ (.int .i64 t1121)).heap[gb1122]?=some (.cells #[.slice Ao13 t1118.length co13,.int .i64 t1121] 25 (0,0))):=⟨by (with_reducible repeat first|apply bkN|apply bkD|apply bkA);refine blk_put (cs:=#[.slice Ao13 t1118.length co13,.int .i64 0]) ?_ 1 _ rfl;(with_reducible repeat first|apply bkN|apply bkD|apply bkA);refine blk_put (cs:=#[.slice none 0 0,.int .i64 0]) ?_ 0 _ rfl;(with_reducible repeat first|apply bkN|apply bkD|apply bkA);exact BK1122.out⟩
  have n5_:Aside0 (Below w.heap.size w ((w12.setCell ⟨gb1122,0,none⟩ (.slice Ao13 t1118.length co13)).setCell ⟨gb1122,1,none⟩ (.int .i64 t1121))):=⟨zb2 HB.out GE1117.out GE1122.out⟩
  generalize ((w12.setCell ⟨gb1122,0,none⟩ (.slice Ao13 t1118.length co13)).setCell ⟨gb1122,1,none⟩ (.int .i64 t1121))=w24 at n0_ n1_ n2_ n3_ n4_ n5_ ⊢
  revert n0_ n1_ n2_ n3_ n4_ n5_;intro HO1112 HO1116 HO1120 BK1117 BK1122 HB
  have n0_:=As_ (Kd.S_drew HO1112.out)
  have n1_:=As_ (Kd.R_drew HO1116.out)
  have n2_:=As_ (Kd.S_drew HO1120.out)
  have n3_:=As_ (bkD BK1117.out)
  have n4_:=As_ (bkD BK1122.out)
  have n5_:=As_ (bwD HB.out)
  clear HO1112 HO1116 HO1120 BK1117 BK1122 HB
  revert n0_ n1_ n2_ n3_ n4_ n5_;intro HO1112 HO1116 HO1120 BK1117 BK1122 HB
  refine start_ (n:=12) (S:=fun w'=>w'.cell? ⟨gb1122,0,none⟩=some (.slice Ao13 t1118.length co13)∧w'.cell? ⟨gb1122,1,none⟩=some (.int .i64 t1121)∧w'.cell? ⟨gb1117,0,none⟩=some (.slice Ao8 t1110.length co8)∧w'.cell? ⟨gb1117,1,none⟩=some (.int .i64 t1113)) (ds:=[]) (bl_ 0 12) (by kernel_rfl) rfl rfl ⟨(bkC BK1122.out 0).trans rfl,(bkC BK1122.out 1).trans rfl,(bkC BK1117.out 0).trans rfl,(bkC BK1117.out 1).trans rfl⟩ (fun hHeld=>?_);refine with_tabW laws_FnRenumberGraph.tab5 laws_FnRenumberGraph.bits5 (fun HT_ HW_=>?_)
  generalize w24.drew=w25 at HO1112 HO1116 HO1120 BK1117 BK1122 HB hHeld ⊢
  refine pQ 2 21 (bl_ 4 12) HT_ rfl ?_
  refine tP 0 19 (bl_ 5 12) ?_ HT_ HW_ rfl (.inl ⟨by rfl,?_⟩) hHeld ?_ ?_ ?_;rotate_left;(rintro w' ⟨s0,s1,s2,s3⟩;go_simp;with_reducible rfl);rotate_left;(simp only [Act.put,sq_,i64_w,i32_w];rfl)
  refine tP 1 20 (bl_ 7 12) ?_ HT_ HW_ rfl (.inl ⟨by rfl,?_⟩) hHeld ?_ ?_ ?_;rotate_left;(rintro w' ⟨s0,s1,s2,s3⟩;go_simp;with_reducible rfl);rotate_left;(simp only [Act.put,sq_,i64_w,i32_w];rfl)
  refine one_ (i:=3) (N:=some 22) (bl_ 15 12) rfl rfl (one_of HT_.out (by kernel_rfl)) (by decide) (fun K hK=>?_)
  refine goes_ Try.func30 (by kernel_rfl) rfl #[.agg #[.slice Ao8 t1110.length co8,.int .i64 t1113],.slice Ao10 t1114.length co10] (by rfl) rfl rfl zM_ ?_
  with_reducible refine (spec_RenumberGraph.calls k _ _ t1110 t1113 _ _ t1114 t1123 t1126 _ ?side1 ?side2 ?side3 ?side4 A16.out).mono ?_
  (case side1=>exact zC_ (Kd.S_reads' HO1112.out).2.2)
  (case side2=>exact (Kd.S_reads' HO1112.out).2.1)
  (case side3=>exact zC_ (Kd.R_reads' HO1116.out).2.2)
  (case side4=>exact (Kd.R_reads' HO1116.out).2.1)
  rintro e w26 ⟨v1124,rfl,ho0,hb⟩
  refine ⟨_,rfl,?_⟩
  have n0_:=As_ (Kd.S_elder' (zS_ HO1112.out) (Kd.S_base ho0) hb)
  have n1_:=As_ (Kd.R_below (zR_ HO1116.out) hb)
  have n2_:=As_ (Kd.S_elder' (zS_ HO1120.out) (Kd.S_base ho0) hb)
  have n3_:=As_ (Kd.S_lower (Kd.S_new' (Kd.S_new' (Kd.S_new' ho0 (Kd.S_lt (zS_ HO1112.out))) (Kd.R_lt (zR_ HO1116.out))) (Kd.S_lt (zS_ HO1120.out))) (bwZ (zb2 HB.out GE1117.out GE1122.out)))
  have n4_:=As_ (zkb BK1117.out hb)
  have n5_:=As_ (zkb BK1122.out hb)
  have n6_:=As_ (bwT (zb2 HB.out GE1117.out GE1122.out) hb)
  clear HO1112 HO1116 HO1120 BK1117 BK1122 HB
  revert n0_ n1_ n2_ n3_ n4_ n5_ n6_;intro HO1112 HO1116 HO1120 HO1125 BK1117 BK1122 HB
  obtain ⟨Ao27,co27,eo27⟩:=Kd.S_slice HO1125.out
  (first|subst eo27|(injection eo27 with f1_ f2_ f3_;have f4_:=f1_.symm;have f5_:=f3_.symm;clear f1_ f2_ f3_;subst f4_;subst f5_))
  refine hK.out _ _ ⟨(bkC BK1122.out 0).trans rfl,(bkC BK1122.out 1).trans rfl,(bkC BK1117.out 0).trans rfl,(bkC BK1117.out 1).trans rfl⟩ (fun hHeld=>?_)
  clear hK K
  refine norm_ (a':=?_) ?_ ?_
  rotate_left
  ·show Act.put _ (some 22) _=_
   simp only [Act.put,sq_,i64_w,i32_w]
   rfl
  refine one_ (i:=4) (N:=some 23) (bl_ 31 12) rfl rfl (one_of HT_.out (by kernel_rfl)) (by decide) (fun K hK=>?_)
  refine goes_ Try.func36 (by kernel_rfl) rfl #[.agg #[.slice Ao13 t1118.length co13,.int .i64 t1121],.agg #[.slice Ao27 t1123.length co27,.int .i64 t1126]] (by rfl) rfl rfl zM_ ?_
  with_reducible refine (laws_equalGraph.calls k _ _ t1118 t1121 _ _ t1123 t1126 false _ ?side1 ?side2 ?side3 ?side4 A17.out).mono ?_
  (case side1=>exact zC_ (Kd.S_reads' HO1120.out).2.2)
  (case side2=>exact (Kd.S_reads' HO1120.out).2.1)
  (case side3=>exact zC_ (Kd.S_reads' HO1125.out).2.2)
  (case side4=>exact (Kd.S_reads' HO1125.out).2.1)
  rintro e w28 ⟨rfl,hb⟩
  refine ⟨_,rfl,?_⟩
  have n0_:=As_ (Kd.S_below (zS_ HO1112.out) hb)
  have n1_:=As_ (Kd.R_below (zR_ HO1116.out) hb)
  have n2_:=As_ (Kd.S_below (zS_ HO1120.out) hb)
  have n3_:=As_ (Kd.S_below (zS_ HO1125.out) hb)
  have n4_:=As_ (zkb BK1117.out hb)
  have n5_:=As_ (zkb BK1122.out hb)
  have n6_:=As_ (bwT (zb2 HB.out GE1117.out GE1122.out) hb)
  clear HO1112 HO1116 HO1120 HO1125 BK1117 BK1122 HB
  revert n0_ n1_ n2_ n3_ n4_ n5_ n6_;intro HO1112 HO1116 HO1120 HO1125 BK1117 BK1122 HB
  refine hK.out _ _ ⟨(bkC BK1122.out 0).trans rfl,(bkC BK1122.out 1).trans rfl,(bkC BK1117.out 0).trans rfl,(bkC BK1117.out 1).trans rfl⟩ (fun hHeld=>?_)
  clear hK K
  refine norm_ (a':=?_) ?_ ?_
  rotate_left
  ·show Act.put _ (some 23) _=_
   simp only [Act.put,sq_,i64_w,i32_w]
   rfl
  refine pQ 5 24 (bl_ 63 12) HT_ rfl ?_
  refine pQ 6 25 (bl_ 127 12) HT_ rfl ?_
  refine uP 7 26 (bl_ 255 12) ?_ HT_ rfl (.inr ⟨by rfl,rfl⟩) ?_ ?_;rotate_left;(simp only [Act.put,sq_,i64_w,i32_w];rfl)
  refine uP 8 27 (bl_ 511 12) ?_ HT_ rfl (.inr ⟨by rfl,rfl⟩) ?_ ?_;rotate_left;(simp only [Act.put,sq_,i64_w,i32_w];rfl)
  refine uP 9 28 (bl_ 1023 12) ?_ HT_ rfl (.inr ⟨by rfl,rfl⟩) ?_ ?_;rotate_left;(simp only [Act.put,sq_,i64_w,i32_w];rfl)
  refine uP 10 29 (bl_ 2047 12) ?_ HT_ rfl (.inr ⟨by rfl,rfl⟩) ?_ ?_;rotate_left;(simp only [Act.put,sq_,i64_w,i32_w];rfl)
  refine pQ 11 30 (bl_ 4095 12) HT_ rfl ?_
  refine done_ (done_of HT_.out (by kernel_rfl)) ?_
  try go_wp2
  go_meet
  case rel=>exact ⟨_,(true),zT_,H',⟨by first|omega|exact Nat.le_refl _⟩,⟨by (with_reducible repeat (first|apply Kd.R_alloc|apply Kd.R_drewN|apply Kd.R_drew));exact HO1116.out⟩,⟨by (with_reducible repeat (first|apply Kd.S_alloc|apply Kd.S_drewN|apply Kd.S_drew));exact Kd.S_mono HO1112.out (fun _ hk=>⟨hk.1.1,hk.1.2⟩)⟩,⟨by (with_reducible repeat (first|apply Kd.S_alloc|apply Kd.S_drewN|apply Kd.S_drew));exact Kd.S_mono HO1120.out (fun _ hk=>⟨hk.1.2,hk.1.1⟩)⟩,⟨by (with_reducible repeat first|apply bkN|apply bkD|apply bkA);exact BK1117.out⟩,⟨by (with_reducible repeat first|apply bkN|apply bkD|apply bkA);exact BK1122.out⟩,⟨zb2 HB.out GE1117.out GE1122.out⟩⟩
 case rest=>
  clear HC5
  obtain ⟨kq,x30_4,rfl,HA,HJ4,HO_4,HO_1118000,HO_1123000,BK1117,BK1122,HB⟩:=hcut
  cases kq with
  | zero=>exact absurd HA.out (fun h_=>(by cases h_))
  | succ kj4=>
   have H:=HA.out
   clear HA
   simp only [laws_FnRenumberGraph.j0] at H
   by_cases c29:x30_4=true
   ·subst c29
    have H1:((spec_RenumberGraph.f kj4 t1110 t1113 t1114).bind fun bt1128=>((laws_equalGraph.f kj4 t1118 t1121 bt1128.1 bt1128.2).bind fun t1132=>(some t1132)))=some r:=by rw [if_pos rfl] at H;exact H
    clear H
    have H:=H1
    clear H1
    replace H:=obS H
    obtain ⟨⟨t1128,t1131⟩,A300,H⟩:=H
    replace H:((laws_equalGraph.f kj4 t1118 t1121 t1128 t1131).bind fun t1132=>(some t1132))=some r:=H
    have A30:=As_ A300
    clear A300
    replace H:=obS H
    obtain ⟨t1132,A310,H⟩:=H
    replace H:(some t1132)=some r:=H
    have A31:=As_ A310
    clear A310
    obtain rfl:=Option.some.inj H
    try go_wp2
    have n0_:=As_ (Kd.R_drew HO_4.out)
    have n1_:=As_ (Kd.S_drew HO_1118000.out)
    have n2_:=As_ (Kd.S_drew HO_1123000.out)
    have n3_:=As_ (bkD BK1117.out)
    have n4_:=As_ (bkD BK1122.out)
    have n5_:=As_ (bwD HB.out)
    clear HO_4 HO_1118000 HO_1123000 BK1117 BK1122 HB
    revert n0_ n1_ n2_ n3_ n4_ n5_;intro HO_4 HO_1118000 HO_1123000 BK1117 BK1122 HB
    refine start_ (n:=6) (S:=fun w'=>w'.cell? ⟨gb1122,0,none⟩=some (.slice Ao13 t1118.length co13)∧w'.cell? ⟨gb1122,1,none⟩=some (.int .i64 t1121)∧w'.cell? ⟨gb1117,0,none⟩=some (.slice Ao8 t1110.length co8)∧w'.cell? ⟨gb1117,1,none⟩=some (.int .i64 t1113)) (ds:=[]) (bl_ 0 6) (by kernel_rfl) rfl rfl ⟨(bkC BK1122.out 0).trans rfl,(bkC BK1122.out 1).trans rfl,(bkC BK1117.out 0).trans rfl,(bkC BK1117.out 1).trans rfl⟩ (fun hHeld=>?_)
    generalize wc.drew=w32 at HO_4 HO_1118000 HO_1123000 BK1117 BK1122 HB hHeld ⊢
    refine pure_ (i:=2) (N:=some 33) (v:=?_) (a':=?_) (bl_ 4 6) rfl rfl (by kernel_rfl) (fun _ _ _ h=>h) (Or.inl ⟨by rfl,?_⟩) ?_ ?_;rotate_left;(intro w';go_simp;with_reducible rfl);rotate_left;(simp only [Act.put,sq_,i64_w,i32_w];rfl)
    refine take_ (i:=0) (N:=some 31) (v:=?_) (a':=?_) (bl_ 5 6) rfl rfl (by kernel_rfl) (fun _ _ _ h=>h) (Or.inl ⟨by rfl,?_⟩) hHeld ?_ ?_;rotate_left;(rintro w' ⟨s0,s1,s2,s3⟩;go_simp;with_reducible rfl);rotate_left;(simp only [Act.put,sq_,i64_w,i32_w];rfl)
    refine take_ (i:=1) (N:=some 32) (v:=?_) (a':=?_) (bl_ 7 6) rfl rfl (by kernel_rfl) (fun _ _ _ h=>h) (Or.inl ⟨by rfl,?_⟩) hHeld ?_ ?_;rotate_left;(rintro w' ⟨s0,s1,s2,s3⟩;go_simp;with_reducible rfl);rotate_left;(simp only [Act.put,sq_,i64_w,i32_w];rfl)
    refine one_ (i:=3) (N:=some 34) (bl_ 15 6) rfl rfl (by kernel_rfl) (by decide) (fun K hK=>?_)
    refine goes_ Try.func30 (by kernel_rfl) rfl #[.agg #[.slice Ao8 t1110.length co8,.int .i64 t1113],.slice Ao10 t1114.length co10] (by rfl) rfl rfl zM_ ?_
    with_reducible refine (spec_RenumberGraph.calls kj4 _ _ t1110 t1113 _ _ t1114 t1128 t1131 _ ?side1 ?side2 ?side3 ?side4 A30.out).mono ?_
    (case side1=>exact zC_ (Kd.S_reads' HO_1118000.out).2.2)
    (case side2=>exact (Kd.S_reads' HO_1118000.out).2.1)
    (case side3=>exact zC_ (Kd.R_reads' HO_4.out).2.2)
    (case side4=>exact (Kd.R_reads' HO_4.out).2.1)
    rintro e w33 ⟨v1129,rfl,ho0,hb⟩
    refine ⟨_,rfl,?_⟩
    have n0_:=As_ (Kd.R_below (zR_ HO_4.out) hb)
    have n1_:=As_ (Kd.S_elder' (zS_ HO_1118000.out) (Kd.S_base ho0) hb)
    have n2_:=As_ (Kd.S_elder' (zS_ HO_1123000.out) (Kd.S_base ho0) hb)
    have n3_:=As_ (Kd.S_lower (Kd.S_new' (Kd.S_new' (Kd.S_new' ho0 (Kd.R_lt (zR_ HO_4.out))) (Kd.S_lt (zS_ HO_1118000.out))) (Kd.S_lt (zS_ HO_1123000.out))) (bwZ (zb2 HB.out GE1117.out GE1122.out)))
    have n4_:=As_ (zkb BK1117.out hb)
    have n5_:=As_ (zkb BK1122.out hb)
    have n6_:=As_ (bwT (zb2 HB.out GE1117.out GE1122.out) hb)
    clear HO_4 HO_1118000 HO_1123000 BK1117 BK1122 HB
    revert n0_ n1_ n2_ n3_ n4_ n5_ n6_;intro HO_4 HO_1118000 HO_1123000 HO1130 BK1117 BK1122 HB
    obtain ⟨Ao34,co34,eo34⟩:=Kd.S_slice HO1130.out
    (first|subst eo34|(injection eo34 with f1_ f2_ f3_;have f4_:=f1_.symm;have f5_:=f3_.symm;clear f1_ f2_ f3_;subst f4_;subst f5_))
    refine hK.out _ _ ⟨(bkC BK1122.out 0).trans rfl,(bkC BK1122.out 1).trans rfl,(bkC BK1117.out 0).trans rfl,(bkC BK1117.out 1).trans rfl⟩ (fun hHeld=>?_)
    clear hK K
    refine norm_ (a':=?_) ?_ ?_
    rotate_left
    ·show Act.put _ (some 34) _=_
     simp only [Act.put,sq_,i64_w,i32_w]
     rfl
    refine one_ (i:=4) (N:=some 35) (bl_ 31 6) rfl rfl (by kernel_rfl) (by decide) (fun K hK=>?_)
    refine goes_ Try.func36 (by kernel_rfl) rfl #[.agg #[.slice Ao13 t1118.length co13,.int .i64 t1121],.agg #[.slice Ao34 t1128.length co34,.int .i64 t1131]] (by rfl) rfl rfl zM_ ?_
    with_reducible refine (laws_equalGraph.calls kj4 _ _ t1118 t1121 _ _ t1128 t1131 t1132 _ ?side1 ?side2 ?side3 ?side4 A31.out).mono ?_
    (case side1=>exact zC_ (Kd.S_reads' HO_1123000.out).2.2)
    (case side2=>exact (Kd.S_reads' HO_1123000.out).2.1)
    (case side3=>exact zC_ (Kd.S_reads' HO1130.out).2.2)
    (case side4=>exact (Kd.S_reads' HO1130.out).2.1)
    rintro e w35 ⟨rfl,hb⟩
    refine ⟨_,rfl,?_⟩
    have n0_:=As_ (Kd.R_below (zR_ HO_4.out) hb)
    have n1_:=As_ (Kd.S_below (zS_ HO_1118000.out) hb)
    have n2_:=As_ (Kd.S_below (zS_ HO_1123000.out) hb)
    have n3_:=As_ (Kd.S_below (zS_ HO1130.out) hb)
    have n4_:=As_ (zkb BK1117.out hb)
    have n5_:=As_ (zkb BK1122.out hb)
    have n6_:=As_ (bwT (zb2 HB.out GE1117.out GE1122.out) hb)
    clear HO_4 HO_1118000 HO_1123000 HO1130 BK1117 BK1122 HB
    revert n0_ n1_ n2_ n3_ n4_ n5_ n6_;intro HO_4 HO_1118000 HO_1123000 HO1130 BK1117 BK1122 HB
    refine hK.out _ _ ⟨(bkC BK1122.out 0).trans rfl,(bkC BK1122.out 1).trans rfl,(bkC BK1117.out 0).trans rfl,(bkC BK1117.out 1).trans rfl⟩ (fun hHeld=>?_)
    clear hK K
    refine norm_ (a':=?_) ?_ ?_
    rotate_left
    ·show Act.put _ (some 35) _=_
     simp only [Act.put,sq_,i64_w,i32_w]
     rfl
    refine pure_ (i:=5) (N:=some 2) (v:=?_) (a':=?_) (bl_ 63 6) rfl rfl (by kernel_rfl) (fun _ _ _ h=>h) (Or.inl ⟨by rfl,?_⟩) ?_ ?_;rotate_left;(intro w';go_simp;with_reducible rfl);rotate_left;(simp only [Act.put,sq_,i64_w,i32_w];rfl)
    refine done_ (by kernel_rfl) ?_
    try go_wp2
    go_ret
    exact ⟨zE_,zb2 HB.out GE1117.out GE1122.out⟩
   replace c29:=Bool.eq_false_iff.mpr c29
   subst c29
   have H1:(if 0≤(t1114.length:Int) then (if ((t1114.length:Int):Int).toNat≤35184372088832 then (laws_FnRenumberGraph.l0 kj4 t1114 (List.replicate ((t1114.length:Int):Int).toNat 0) 0 t1110 t1113 t1118 t1121) else (none)) else (none))=some r:=by rw [if_neg (show ¬ (false=true) by decide)] at H;exact H
   clear H
   have H:=H1
   clear H1
   by_cases c36:0≤(t1114.length:Int)
   rotate_left
   ·rw [if_neg c36] at H
    exact absurd H (by simp)
   rw [if_pos c36] at H
   have c36b0:=eq_true c36
   have c36b1:decide (0≤(t1114.length:Int))=true:=deT c36
   clear c36
   by_cases c37:((t1114.length:Int):Int).toNat≤35184372088832
   rotate_left
   ·rw [if_neg c37] at H
    exact absurd H (by simp)
   rw [if_pos c37] at H
   have c37b0:=eq_true c37
   have c37b1:decide (((t1114.length:Int):Int).toNat≤35184372088832)=true:=deT c37
   clear c37
   obtain ⟨y1133,hy1133⟩:∃ y_:List Int,y_=(List.replicate ((t1114.length:Int):Int).toNat 0):=⟨_,rfl⟩
   replace H:(laws_FnRenumberGraph.l0 kj4 t1114 y1133 0 t1110 t1113 t1118 t1121)=some r:=zH_ H hy1133
   have Ny1133:=As_ hy1133
   clear hy1133
   have H':=As_ H
   clear H
   go_wp2_with (first|((with_reducible refine gate_dst (N:=38) rfl ?_);(try (refine gate_guard (by rfl) ?_;dsimp only));refine Kd.R_make (Kd.int .i64) _ 3 rfl (N:=38) rfl 26 _ _ rfl (t1114.length:Int) rfl rfl Try.underlying26 (.int .i64 0) 8 info3 rfl (by decide) (by omega) 0 (ok:=fun _=>True) (okp:=fun _=>True) rfl (fun _ hk=>hk) trivial (odT zA_) (Nat.le_trans (Nat.mul_le_mul_right _ (odT zA_:(t1114.length:Int).toNat≤35184372088832)) (by omega)) (Below.refl _ _) (Nat.le_refl _) ?_;intro v1134 w38 ho39 hb hg_ hnew_;clear hg_ hnew_;(first|rw [← Ny1133.out] at ho39|(simp only [Int.reduceToNat] at ho39;rw [← Ny1133.out] at ho39));have n0_:=As_ (Kd.R_elder' (zR_ HO_4.out) (Kd.R_base ho39) hb);have n1_:=As_ (Kd.S_elder' (zS_ HO_1118000.out) (Kd.R_base ho39) hb);have n2_:=As_ (Kd.S_elder' (zS_ HO_1123000.out) (Kd.R_base ho39) hb);have n3_:=As_ (Kd.R_lower (Kd.R_new' ho39 (Kd.R_lt (zR_ HO_4.out))) (bwZ (zb2 HB.out GE1117.out GE1122.out)));have n4_:=As_ (zkb BK1117.out hb);have n5_:=As_ (zkb BK1122.out hb);have n6_:=As_ (bwT (zb2 HB.out GE1117.out GE1122.out) hb);clear HO_4 HO_1118000 HO_1123000 BK1117 BK1122 HB;revert n0_ n1_ n2_ n3_ n4_ n5_ n6_;intro HO_4 HO_1118000 HO_1123000 HO1135 BK1117 BK1122 HB;clear hb ho39))
   go_loopg [7] kj4 (fun kq v7 w'=>∃ (x6_2:List Int) (x7_2:Int),v7=.int .i64 x7_2∧Aside0 (laws_FnRenumberGraph.l0 kq t1114 x6_2 x7_2 t1110 t1113 t1118 t1121=some r)∧Aside0 (kq≤kj4)∧Aside0 (Kd.R (Kd.int .i64) 3 w' w.heap.size (fun k_=>some k_≠(v1134:Value).ownBlock) (.slice Ao10 t1114.length co10) t1114)∧Aside0 (Kd.R (Kd.int .i64) 3 w' w.heap.size (fun k_=>some k_≠((.slice Ao10 t1114.length co10):Value).ownBlock) v1134 x6_2)∧Aside0 (Kd.S k58 58 w' w.heap.size (fun k_=>some k_≠((.slice Ao10 t1114.length co10):Value).ownBlock∧some k_≠(v1134:Value).ownBlock∧some k_≠((.slice Ao13 t1118.length co13):Value).ownBlock) (.slice Ao8 t1110.length co8) t1110)∧Aside0 (Kd.S k58 58 w' w.heap.size (fun k_=>some k_≠((.slice Ao10 t1114.length co10):Value).ownBlock∧some k_≠(v1134:Value).ownBlock∧some k_≠((.slice Ao8 t1110.length co8):Value).ownBlock) (.slice Ao13 t1118.length co13) t1118)∧Aside0 (w'.heap[gb1117]?=some (.cells #[(.slice Ao8 t1110.length co8),.int .i64 t1113] 25 (0,0)))∧Aside0 (w'.heap[gb1122]?=some (.cells #[(.slice Ao13 t1118.length co13),.int .i64 t1121] 25 (0,0)))∧Aside0 (Below w.heap.size w w'))
   case atStart=>exact ⟨(y1133),(0),zT_,H',⟨Nat.le_refl _⟩,⟨by (with_reducible repeat (first|apply Kd.R_alloc|apply Kd.R_drewN|apply Kd.R_drew));exact Kd.R_mono HO_4.out (fun _ hk=>hk.2)⟩,⟨by (with_reducible repeat (first|apply Kd.R_alloc|apply Kd.R_drewN|apply Kd.R_drew));exact Kd.R_mono HO1135.out (fun _ hk=>hk.2)⟩,⟨by (with_reducible repeat (first|apply Kd.S_alloc|apply Kd.S_drewN|apply Kd.S_drew));exact Kd.S_mono HO_1118000.out (fun _ hk=>⟨hk.1.1,⟨hk.2,hk.1.2⟩⟩)⟩,⟨by (with_reducible repeat (first|apply Kd.S_alloc|apply Kd.S_drewN|apply Kd.S_drew));exact Kd.S_mono HO_1123000.out (fun _ hk=>⟨hk.1.1,⟨hk.2,hk.1.2⟩⟩)⟩,⟨by (with_reducible repeat first|apply bkN|apply bkD|apply bkA);exact BK1117.out⟩,⟨by (with_reducible repeat first|apply bkN|apply bkD|apply bkA);exact BK1122.out⟩,⟨zb2 HB.out GE1117.out GE1122.out⟩⟩
   case round=>
    clear H'
    obtain ⟨x6_2,x7_2,rfl,HA,HK2,HO_4,HO_6,HO_1118000,HO_1123000,BK1117,BK1122,HB⟩:=hrel
    cases gk with
    | zero=>exact absurd HA.out (fun h_=>(by cases h_))
    | succ k2=>
     have H:=HA.out
     clear HA
     simp only [laws_FnRenumberGraph.l0] at H
     by_cases c40:x7_2<(t1114.length:Int)
     ·rw [if_pos c40] at H
      have c40b0:decide (x7_2<(t1114.length:Int))=true:=deT c40
      clear c40
      by_cases c41:0≤x7_2
      rotate_left
      ·rw [if_neg c41] at H
       exact absurd H (by simp)
      rw [if_pos c41] at H
      have c41b0:decide (0≤x7_2)=true:=deT c41
      clear c41
      by_cases c42:0≤(rd t1114 x7_2)
      rotate_left
      ·rw [if_neg c42] at H
       exact absurd H (by simp)
      rw [if_pos c42] at H
      have c42b0:decide (0≤(rd t1114 x7_2))=true:=deT c42
      clear c42
      by_cases c43:(rd t1114 x7_2)<(x6_2.length:Int)
      rotate_left
      ·rw [if_neg c43] at H
       exact absurd H (by simp)
      rw [if_pos c43] at H
      have c43b0:decide ((rd t1114 x7_2)<(x6_2.length:Int))=true:=deT c43
      clear c43
      obtain ⟨y1137,hy1137⟩:∃ y_:List Int,y_=(x6_2.set ((rd t1114 x7_2):Int).toNat x7_2):=⟨_,rfl⟩
      replace H:(laws_FnRenumberGraph.l0 k2 t1114 y1137 (wrap64 (x7_2+1)) t1110 t1113 t1118 t1121)=some r:=zH_ H hy1137
      have Ny1137:=As_ hy1137
      clear hy1137
      have H':=As_ H
      clear H
      have p1136:0≤(x7_2:Int):=odT zA_
      have q1136:x7_2<(t1114.length:Int):=odT zA_
      obtain ⟨ad1136,e1136,hx1136_0⟩:=Kd.at_int (Kd.R_reads' HO_4.out).2.2 x7_2 p1136 q1136
      cases e1136
      replace p1136:=eq_true p1136
      replace q1136:=eq_true q1136
      have p44:0≤((rd t1114 x7_2):Int):=odT zA_
      have q44:((rd t1114 x7_2):Int)<((x6_2.length:Int):Int):=odT zA_
      obtain ⟨go44,co44,eo44,gb44,gl44,cl44,HG44⟩:=Kd.R_form HO_6.out (by omega)
      (first|cases eo44|(injection eo44 with ea_ en_ ec_;(first|subst ea_|(injection ea_ with ea_;subst ea_));subst ec_;clear en_))
      have GB44:=As_ gb44
      have GG44:=As_ HG44
      clear gb44 gl44 HG44
      obtain ⟨hx44_0,hf44_0⟩:=Kd.R_celln 0 HO_6.out ((rd t1114 x7_2):Int) p44 q44
      replace p44:=eq_true p44
      replace q44:=eq_true q44
      have HP45:=Kd.R_putg HO_6.out ((rd t1114 x7_2):Int) x7_2
      go_wp2_with (first|((with_reducible refine gate_store (t:=3) (p:=51) rfl ?_);refine store_event (t:=3) (p:=51) (v:=?vo_w46) (w1:=(wr.setCell ⟨go44,((rd t1114 x7_2):Int).toNat,none⟩ (.int .i64 x7_2))) ?hg ?ho ?hn ?hr ?_;(case ho=>rfl);(case hg=>rfl);(case hn=>rfl);(case hr=>go_simp <;> rfl);intro w46 hw;have hg:wr.grownBy w46 (some go44):=(by rw [hw];exact HP45.2);have hp_:Kd.R (Kd.int .i64) 3 w46 w.heap.size (fun k_=>some k_≠(.slice (some ad1136) t1114.length co10:Value).ownBlock) (.slice (some ⟨go44,0,none⟩) x6_2.length co44) y1137:=(by rw [hw,Ny1137.out];exact HP45.1);clear HP45;have n0_:=As_ (Kd.R_after (v:=(.slice (some ⟨go44,0,none⟩) x6_2.length co44)) (v1:=(.slice (some ⟨go44,0,none⟩) x6_2.length co44)) (ok:=(fun _=>True)) (by (with_reducible repeat (first|apply Kd.R_alloc|apply Kd.R_drewN|apply Kd.R_drew));exact Kd.R_mono HO_4.out (fun _ hk=>⟨trivial,hk⟩)) hg (.inl rfl));have n1_:=As_ (hp_);have n2_:=As_ (Kd.S_after (v:=(.slice (some ⟨go44,0,none⟩) x6_2.length co44)) (v1:=(.slice (some ⟨go44,0,none⟩) x6_2.length co44)) (ok:=(fun k_=>some k_≠(.slice (some ad1136) t1114.length co10:Value).ownBlock∧some k_≠(.slice Ao13 t1118.length co13:Value).ownBlock)) (by (with_reducible repeat (first|apply Kd.S_alloc|apply Kd.S_drewN|apply Kd.S_drew));exact Kd.S_mono HO_1118000.out (fun _ hk=>⟨⟨hk.1,hk.2.2⟩,hk.2.1⟩)) hg (.inl rfl));have n3_:=As_ (Kd.S_after (v:=(.slice (some ⟨go44,0,none⟩) x6_2.length co44)) (v1:=(.slice (some ⟨go44,0,none⟩) x6_2.length co44)) (ok:=(fun k_=>some k_≠(.slice (some ad1136) t1114.length co10:Value).ownBlock∧some k_≠(.slice Ao8 t1110.length co8:Value).ownBlock)) (by (with_reducible repeat (first|apply Kd.S_alloc|apply Kd.S_drewN|apply Kd.S_drew));exact Kd.S_mono HO_1123000.out (fun _ hk=>⟨⟨hk.1,hk.2.2⟩,hk.2.1⟩)) hg (.inl rfl));have n4_:=As_ (blk_grown (g:=gb1117) (o:=.cells #[.slice Ao8 t1110.length co8,.int .i64 t1113] 25 (0,0)) (zk_ BK1117.out) hg (Kd.R_ne HO_6.out BK1117.out (by decide)));have n5_:=As_ (blk_grown (g:=gb1122) (o:=.cells #[.slice Ao13 t1118.length co13,.int .i64 t1121] 25 (0,0)) (zk_ BK1122.out) hg (Kd.R_ne HO_6.out BK1122.out (by decide)));have n6_:=As_ ((by rw [hw];exact bwS (HB.out) GB44.out:Below w.heap.size w w46));clear HO_4 HO_6 HO_1118000 HO_1123000 BK1117 BK1122 HB;revert n0_ n1_ n2_ n3_ n4_ n5_ n6_;intro HO_4 HO_6 HO_1118000 HO_1123000 BK1117 BK1122 HB;clear hg hw hp_))
      go_roundg k2
      case measure=>have:=HJ4.out;have:=HK2.out;omega
      case rel=>exact ⟨(y1137),(wrap64 (x7_2+1)),zT_,H',⟨by have:=HJ4.out;have:=HK2.out;omega⟩,⟨by (with_reducible repeat (first|apply Kd.R_alloc|apply Kd.R_drewN|apply Kd.R_drew));exact Kd.R_mono HO_4.out (fun _ hk=>hk.2)⟩,⟨by (with_reducible repeat (first|apply Kd.R_alloc|apply Kd.R_drewN|apply Kd.R_drew));exact HO_6.out⟩,⟨by (with_reducible repeat (first|apply Kd.S_alloc|apply Kd.S_drewN|apply Kd.S_drew));exact Kd.S_mono HO_1118000.out (fun _ hk=>⟨hk.1.1,⟨hk.2,hk.1.2⟩⟩)⟩,⟨by (with_reducible repeat (first|apply Kd.S_alloc|apply Kd.S_drewN|apply Kd.S_drew));exact Kd.S_mono HO_1123000.out (fun _ hk=>⟨hk.1.1,⟨hk.2,hk.1.2⟩⟩)⟩,⟨by (with_reducible repeat first|apply bkN|apply bkD|apply bkA);exact BK1117.out⟩,⟨by (with_reducible repeat first|apply bkN|apply bkD|apply bkA);exact BK1122.out⟩,⟨zb2 HB.out GE1117.out GE1122.out⟩⟩
     rw [if_neg c40] at H
     have c40b0:decide (x7_2<(t1114.length:Int))=false:=deF c40
     clear c40
     replace H:=obS H
     obtain ⟨t1138,A470,H⟩:=H
     replace H:(if t1138=true then ((impl_SameGraph.f k2 t1118 t1121 t1110 t1113).bind fun t1139=>(if t1139=true then ((impl_RenumberGraph.f k2 t1118 t1121 x6_2).bind fun bt1140=>((laws_equalGraph.f k2 bt1140.1 bt1140.2 t1110 t1113).bind fun t1144=>(some t1144))) else (some false))) else (some false))=some r:=H
     have A47:=As_ A470
     clear A470
     by_cases c48:t1138=true
     rotate_left
     ·replace c48:=Bool.eq_false_iff.mpr c48
      subst c48
      have H1:(some false)=some r:=by rw [if_neg (show ¬ (false=true) by decide)] at H;exact H
      clear H
      have H:=H1
      clear H1
      obtain rfl:=Option.some.inj H
      try go_wp2
      have n0_:=As_ (Kd.R_drew HO_4.out)
      have n1_:=As_ (Kd.R_drew HO_6.out)
      have n2_:=As_ (Kd.S_drew HO_1118000.out)
      have n3_:=As_ (Kd.S_drew HO_1123000.out)
      have n4_:=As_ (bkD BK1117.out)
      have n5_:=As_ (bkD BK1122.out)
      have n6_:=As_ (bwD HB.out)
      clear HO_4 HO_6 HO_1118000 HO_1123000 BK1117 BK1122 HB
      revert n0_ n1_ n2_ n3_ n4_ n5_ n6_;intro HO_4 HO_6 HO_1118000 HO_1123000 BK1117 BK1122 HB
      refine start_ (n:=15) (S:=fun w'=>w'.cell? ⟨gb1122,0,none⟩=some (.slice Ao13 t1118.length co13)∧w'.cell? ⟨gb1122,1,none⟩=some (.int .i64 t1121)) (ds:=[]) (bl_ 0 15) (by kernel_rfl) rfl rfl ⟨(bkC BK1122.out 0).trans rfl,(bkC BK1122.out 1).trans rfl⟩ (fun hHeld=>?_);refine with_tabW laws_FnRenumberGraph.tab12 laws_FnRenumberGraph.bits12 (fun HT_ HW_=>?_)
      generalize wr.drew=w63 at HO_4 HO_6 HO_1118000 HO_1123000 BK1117 BK1122 HB hHeld ⊢
      refine tP 0 52 (bl_ 1 15) ?_ HT_ HW_ rfl (.inl ⟨by rfl,?_⟩) hHeld ?_ ?_ ?_;rotate_left;(rintro w' ⟨s0,s1⟩;go_simp;with_reducible rfl);rotate_left;(simp only [Act.put,sq_,i64_w,i32_w];rfl)
      refine one_ (i:=1) (N:=some 53) (bl_ 3 15) rfl rfl (one_of HT_.out (by kernel_rfl)) (by decide) (fun K hK=>?_)
      refine goes_ Try.func37 (by kernel_rfl) rfl #[.agg #[.slice Ao13 t1118.length co13,.int .i64 t1121]] (by rfl) rfl rfl zM_ ?_
      with_reducible refine (impl_ValidGraph.calls k2 _ _ t1118 t1121 false _ ?side1 ?side2 A47.out).mono ?_
      (case side1=>exact zC_ (Kd.S_reads' HO_1123000.out).2.2)
      (case side2=>exact (Kd.S_reads' HO_1123000.out).2.1)
      rintro e w64 ⟨rfl,hb⟩
      refine ⟨_,rfl,?_⟩
      have n0_:=As_ (Kd.R_below (zR_ HO_4.out) hb)
      have n1_:=As_ (Kd.R_below (zR_ HO_6.out) hb)
      have n2_:=As_ (Kd.S_below (zS_ HO_1118000.out) hb)
      have n3_:=As_ (Kd.S_below (zS_ HO_1123000.out) hb)
      have n4_:=As_ (zkb BK1117.out hb)
      have n5_:=As_ (zkb BK1122.out hb)
      have n6_:=As_ (bwT (zb2 HB.out GE1117.out GE1122.out) hb)
      clear HO_4 HO_6 HO_1118000 HO_1123000 BK1117 BK1122 HB
      revert n0_ n1_ n2_ n3_ n4_ n5_ n6_;intro HO_4 HO_6 HO_1118000 HO_1123000 BK1117 BK1122 HB
      refine hK.out _ _ ⟨(bkC BK1122.out 0).trans rfl,(bkC BK1122.out 1).trans rfl⟩ (fun hHeld=>?_)
      clear hK K
      refine norm_ (a':=?_) ?_ ?_
      rotate_left
      ·show Act.put _ (some 53) _=_
       simp only [Act.put,sq_,i64_w,i32_w]
       rfl
      refine pQ 2 54 (bl_ 7 15) HT_ rfl ?_
      refine uP 3 55 (bl_ 15 15) ?_ HT_ rfl (.inr ⟨by rfl,rfl⟩) ?_ ?_;rotate_left;(simp only [Act.put,sq_,i64_w,i32_w];rfl)
      refine uP 4 56 (bl_ 31 15) ?_ HT_ rfl (.inr ⟨by rfl,rfl⟩) ?_ ?_;rotate_left;(simp only [Act.put,sq_,i64_w,i32_w];rfl)
      refine uP 5 57 (bl_ 63 15) ?_ HT_ rfl (.inr ⟨by rfl,rfl⟩) ?_ ?_;rotate_left;(simp only [Act.put,sq_,i64_w,i32_w];rfl)
      refine pQ 6 58 (bl_ 127 15) HT_ rfl ?_
      refine pQ 7 59 (bl_ 255 15) HT_ rfl ?_
      refine uP 8 60 (bl_ 511 15) ?_ HT_ rfl (.inr ⟨by rfl,rfl⟩) ?_ ?_;rotate_left;(simp only [Act.put,sq_,i64_w,i32_w];rfl)
      refine uP 9 61 (bl_ 1023 15) ?_ HT_ rfl (.inr ⟨by rfl,rfl⟩) ?_ ?_;rotate_left;(simp only [Act.put,sq_,i64_w,i32_w];rfl)
      refine uP 10 62 (bl_ 2047 15) ?_ HT_ rfl (.inr ⟨by rfl,rfl⟩) ?_ ?_;rotate_left;(simp only [Act.put,sq_,i64_w,i32_w];rfl)
      refine uP 11 63 (bl_ 4095 15) ?_ HT_ rfl (.inr ⟨by rfl,rfl⟩) ?_ ?_;rotate_left;(simp only [Act.put,sq_,i64_w,i32_w];rfl)
      refine uP 12 64 (bl_ 8191 15) ?_ HT_ rfl (.inr ⟨by rfl,rfl⟩) ?_ ?_;rotate_left;(simp only [Act.put,sq_,i64_w,i32_w];rfl)
      refine pQ 13 65 (bl_ 16383 15) HT_ rfl ?_
      refine pQ 14 2 (bl_ 32767 15) HT_ rfl ?_
      refine done_ (done_of HT_.out (by kernel_rfl)) ?_
      try go_wp2
      go_ret
      exact ⟨zE_,zb2 HB.out GE1117.out GE1122.out⟩
     subst c48
     have H1:((impl_SameGraph.f k2 t1118 t1121 t1110 t1113).bind fun t1139=>(if t1139=true then ((impl_RenumberGraph.f k2 t1118 t1121 x6_2).bind fun bt1140=>((laws_equalGraph.f k2 bt1140.1 bt1140.2 t1110 t1113).bind fun t1144=>(some t1144))) else (some false)))=some r:=by rw [if_pos rfl] at H;exact H
     clear H
     have H:=H1
     clear H1
     replace H:=obS H
     obtain ⟨t1139,A490,H⟩:=H
     replace H:(if t1139=true then ((impl_RenumberGraph.f k2 t1118 t1121 x6_2).bind fun bt1140=>((laws_equalGraph.f k2 bt1140.1 bt1140.2 t1110 t1113).bind fun t1144=>(some t1144))) else (some false))=some r:=H
     have A49:=As_ A490
     clear A490
     by_cases c50:t1139=true
     rotate_left
     ·replace c50:=Bool.eq_false_iff.mpr c50
      subst c50
      have H1:(some false)=some r:=by rw [if_neg (show ¬ (false=true) by decide)] at H;exact H
      clear H
      have H:=H1
      clear H1
      obtain rfl:=Option.some.inj H
      try go_wp2
      have n0_:=As_ (Kd.R_drew HO_4.out)
      have n1_:=As_ (Kd.R_drew HO_6.out)
      have n2_:=As_ (Kd.S_drew HO_1118000.out)
      have n3_:=As_ (Kd.S_drew HO_1123000.out)
      have n4_:=As_ (bkD BK1117.out)
      have n5_:=As_ (bkD BK1122.out)
      have n6_:=As_ (bwD HB.out)
      clear HO_4 HO_6 HO_1118000 HO_1123000 BK1117 BK1122 HB
      revert n0_ n1_ n2_ n3_ n4_ n5_ n6_;intro HO_4 HO_6 HO_1118000 HO_1123000 BK1117 BK1122 HB
      refine start_ (n:=15) (S:=fun w'=>w'.cell? ⟨gb1122,0,none⟩=some (.slice Ao13 t1118.length co13)∧w'.cell? ⟨gb1122,1,none⟩=some (.int .i64 t1121)∧w'.cell? ⟨gb1117,0,none⟩=some (.slice Ao8 t1110.length co8)∧w'.cell? ⟨gb1117,1,none⟩=some (.int .i64 t1113)) (ds:=[]) (bl_ 0 15) (by kernel_rfl) rfl rfl ⟨(bkC BK1122.out 0).trans rfl,(bkC BK1122.out 1).trans rfl,(bkC BK1117.out 0).trans rfl,(bkC BK1117.out 1).trans rfl⟩ (fun hHeld=>?_);refine with_tabW laws_FnRenumberGraph.tab12 laws_FnRenumberGraph.bits12 (fun HT_ HW_=>?_)
      generalize wr.drew=w60 at HO_4 HO_6 HO_1118000 HO_1123000 BK1117 BK1122 HB hHeld ⊢
      refine tP 0 52 (bl_ 1 15) ?_ HT_ HW_ rfl (.inl ⟨by rfl,?_⟩) hHeld ?_ ?_ ?_;rotate_left;(rintro w' ⟨s0,s1,s2,s3⟩;go_simp;with_reducible rfl);rotate_left;(simp only [Act.put,sq_,i64_w,i32_w];rfl)
      refine one_ (i:=1) (N:=some 53) (bl_ 3 15) rfl rfl (one_of HT_.out (by kernel_rfl)) (by decide) (fun K hK=>?_)
      refine goes_ Try.func37 (by kernel_rfl) rfl #[.agg #[.slice Ao13 t1118.length co13,.int .i64 t1121]] (by rfl) rfl rfl zM_ ?_
      with_reducible refine (impl_ValidGraph.calls k2 _ _ t1118 t1121 true _ ?side1 ?side2 A47.out).mono ?_
      (case side1=>exact zC_ (Kd.S_reads' HO_1123000.out).2.2)
      (case side2=>exact (Kd.S_reads' HO_1123000.out).2.1)
      rintro e w61 ⟨rfl,hb⟩
      refine ⟨_,rfl,?_⟩
      have n0_:=As_ (Kd.R_below (zR_ HO_4.out) hb)
      have n1_:=As_ (Kd.R_below (zR_ HO_6.out) hb)
      have n2_:=As_ (Kd.S_below (zS_ HO_1118000.out) hb)
      have n3_:=As_ (Kd.S_below (zS_ HO_1123000.out) hb)
      have n4_:=As_ (zkb BK1117.out hb)
      have n5_:=As_ (zkb BK1122.out hb)
      have n6_:=As_ (bwT (zb2 HB.out GE1117.out GE1122.out) hb)
      clear HO_4 HO_6 HO_1118000 HO_1123000 BK1117 BK1122 HB
      revert n0_ n1_ n2_ n3_ n4_ n5_ n6_;intro HO_4 HO_6 HO_1118000 HO_1123000 BK1117 BK1122 HB
      refine hK.out _ _ ⟨(bkC BK1122.out 0).trans rfl,(bkC BK1122.out 1).trans rfl,(bkC BK1117.out 0).trans rfl,(bkC BK1117.out 1).trans rfl⟩ (fun hHeld=>?_)
      clear hK K
      refine norm_ (a':=?_) ?_ ?_
      rotate_left
      ·show Act.put _ (some 53) _=_
       simp only [Act.put,sq_,i64_w,i32_w]
       rfl
      refine pQ 2 54 (bl_ 7 15) HT_ rfl ?_
      refine tP 3 55 (bl_ 15 15) ?_ HT_ HW_ rfl (.inl ⟨by rfl,?_⟩) hHeld ?_ ?_ ?_;rotate_left;(rintro w' ⟨s0,s1,s2,s3⟩;go_simp;with_reducible rfl);rotate_left;(simp only [Act.put,sq_,i64_w,i32_w];rfl)
      refine tP 4 56 (bl_ 31 15) ?_ HT_ HW_ rfl (.inl ⟨by rfl,?_⟩) hHeld ?_ ?_ ?_;rotate_left;(rintro w' ⟨s0,s1,s2,s3⟩;go_simp;with_reducible rfl);rotate_left;(simp only [Act.put,sq_,i64_w,i32_w];rfl)
      refine one_ (i:=5) (N:=some 57) (bl_ 63 15) rfl rfl (one_of HT_.out (by kernel_rfl)) (by decide) (fun K hK=>?_)
      refine goes_ Try.func38 (by kernel_rfl) rfl #[.agg #[.slice Ao13 t1118.length co13,.int .i64 t1121],.agg #[.slice Ao8 t1110.length co8,.int .i64 t1113]] (by rfl) rfl rfl zM_ ?_
      with_reducible refine (impl_SameGraph.calls k2 _ _ t1118 t1121 _ _ t1110 t1113 false _ ?side1 ?side2 ?side3 ?side4 A49.out).mono ?_
      (case side1=>exact zC_ (Kd.S_reads' HO_1123000.out).2.2)
      (case side2=>exact (Kd.S_reads' HO_1123000.out).2.1)
      (case side3=>exact zC_ (Kd.S_reads' HO_1118000.out).2.2)
      (case side4=>exact (Kd.S_reads' HO_1118000.out).2.1)
      rintro e w62 ⟨rfl,hb⟩
      refine ⟨_,rfl,?_⟩
      have n0_:=As_ (Kd.R_below (zR_ HO_4.out) hb)
      have n1_:=As_ (Kd.R_below (zR_ HO_6.out) hb)
      have n2_:=As_ (Kd.S_below (zS_ HO_1118000.out) hb)
      have n3_:=As_ (Kd.S_below (zS_ HO_1123000.out) hb)
      have n4_:=As_ (zkb BK1117.out hb)
      have n5_:=As_ (zkb BK1122.out hb)
      have n6_:=As_ (bwT (zb2 HB.out GE1117.out GE1122.out) hb)
      clear HO_4 HO_6 HO_1118000 HO_1123000 BK1117 BK1122 HB
      revert n0_ n1_ n2_ n3_ n4_ n5_ n6_;intro HO_4 HO_6 HO_1118000 HO_1123000 BK1117 BK1122 HB
      refine hK.out _ _ ⟨(bkC BK1122.out 0).trans rfl,(bkC BK1122.out 1).trans rfl,(bkC BK1117.out 0).trans rfl,(bkC BK1117.out 1).trans rfl⟩ (fun hHeld=>?_)
      clear hK K
      refine norm_ (a':=?_) ?_ ?_
      rotate_left
      ·show Act.put _ (some 57) _=_
       simp only [Act.put,sq_,i64_w,i32_w]
       rfl
      refine pQ 6 58 (bl_ 127 15) HT_ rfl ?_
      refine pQ 7 59 (bl_ 255 15) HT_ rfl ?_
      refine uP 8 60 (bl_ 511 15) ?_ HT_ rfl (.inr ⟨by rfl,rfl⟩) ?_ ?_;rotate_left;(simp only [Act.put,sq_,i64_w,i32_w];rfl)
      refine uP 9 61 (bl_ 1023 15) ?_ HT_ rfl (.inr ⟨by rfl,rfl⟩) ?_ ?_;rotate_left;(simp only [Act.put,sq_,i64_w,i32_w];rfl)
      refine uP 10 62 (bl_ 2047 15) ?_ HT_ rfl (.inr ⟨by rfl,rfl⟩) ?_ ?_;rotate_left;(simp only [Act.put,sq_,i64_w,i32_w];rfl)
      refine uP 11 63 (bl_ 4095 15) ?_ HT_ rfl (.inr ⟨by rfl,rfl⟩) ?_ ?_;rotate_left;(simp only [Act.put,sq_,i64_w,i32_w];rfl)
      refine uP 12 64 (bl_ 8191 15) ?_ HT_ rfl (.inr ⟨by rfl,rfl⟩) ?_ ?_;rotate_left;(simp only [Act.put,sq_,i64_w,i32_w];rfl)
      refine pQ 13 65 (bl_ 16383 15) HT_ rfl ?_
      refine pQ 14 2 (bl_ 32767 15) HT_ rfl ?_
      refine done_ (done_of HT_.out (by kernel_rfl)) ?_
      try go_wp2
      go_ret
      exact ⟨zE_,zb2 HB.out GE1117.out GE1122.out⟩
     subst c50
     have H1:((impl_RenumberGraph.f k2 t1118 t1121 x6_2).bind fun bt1140=>((laws_equalGraph.f k2 bt1140.1 bt1140.2 t1110 t1113).bind fun t1144=>(some t1144)))=some r:=by rw [if_pos rfl] at H;exact H
     clear H
     have H:=H1
     clear H1
     replace H:=obS H
     obtain ⟨⟨t1140,t1143⟩,A510,H⟩:=H
     replace H:((laws_equalGraph.f k2 t1140 t1143 t1110 t1113).bind fun t1144=>(some t1144))=some r:=H
     have A51:=As_ A510
     clear A510
     replace H:=obS H
     obtain ⟨t1144,A520,H⟩:=H
     replace H:(some t1144)=some r:=H
     have A52:=As_ A520
     clear A520
     obtain rfl:=Option.some.inj H
     try go_wp2
     have n0_:=As_ (Kd.R_drew HO_4.out)
     have n1_:=As_ (Kd.R_drew HO_6.out)
     have n2_:=As_ (Kd.S_drew HO_1118000.out)
     have n3_:=As_ (Kd.S_drew HO_1123000.out)
     have n4_:=As_ (bkD BK1117.out)
     have n5_:=As_ (bkD BK1122.out)
     have n6_:=As_ (bwD HB.out)
     clear HO_4 HO_6 HO_1118000 HO_1123000 BK1117 BK1122 HB
     revert n0_ n1_ n2_ n3_ n4_ n5_ n6_;intro HO_4 HO_6 HO_1118000 HO_1123000 BK1117 BK1122 HB
     refine start_ (n:=15) (S:=fun w'=>w'.cell? ⟨gb1122,0,none⟩=some (.slice Ao13 t1118.length co13)∧w'.cell? ⟨gb1122,1,none⟩=some (.int .i64 t1121)∧w'.cell? ⟨gb1117,0,none⟩=some (.slice Ao8 t1110.length co8)∧w'.cell? ⟨gb1117,1,none⟩=some (.int .i64 t1113)) (ds:=[]) (bl_ 0 15) (by kernel_rfl) rfl rfl ⟨(bkC BK1122.out 0).trans rfl,(bkC BK1122.out 1).trans rfl,(bkC BK1117.out 0).trans rfl,(bkC BK1117.out 1).trans rfl⟩ (fun hHeld=>?_);refine with_tabW laws_FnRenumberGraph.tab12 laws_FnRenumberGraph.bits12 (fun HT_ HW_=>?_)
     generalize wr.drew=w53 at HO_4 HO_6 HO_1118000 HO_1123000 BK1117 BK1122 HB hHeld ⊢
     refine tP 0 52 (bl_ 1 15) ?_ HT_ HW_ rfl (.inl ⟨by rfl,?_⟩) hHeld ?_ ?_ ?_;rotate_left;(rintro w' ⟨s0,s1,s2,s3⟩;go_simp;with_reducible rfl);rotate_left;(simp only [Act.put,sq_,i64_w,i32_w];rfl)
     refine one_ (i:=1) (N:=some 53) (bl_ 3 15) rfl rfl (one_of HT_.out (by kernel_rfl)) (by decide) (fun K hK=>?_)
     refine goes_ Try.func37 (by kernel_rfl) rfl #[.agg #[.slice Ao13 t1118.length co13,.int .i64 t1121]] (by rfl) rfl rfl zM_ ?_
     with_reducible refine (impl_ValidGraph.calls k2 _ _ t1118 t1121 true _ ?side1 ?side2 A47.out).mono ?_
     (case side1=>exact zC_ (Kd.S_reads' HO_1123000.out).2.2)
     (case side2=>exact (Kd.S_reads' HO_1123000.out).2.1)
     rintro e w54 ⟨rfl,hb⟩
     refine ⟨_,rfl,?_⟩
     have n0_:=As_ (Kd.R_below (zR_ HO_4.out) hb)
     have n1_:=As_ (Kd.R_below (zR_ HO_6.out) hb)
     have n2_:=As_ (Kd.S_below (zS_ HO_1118000.out) hb)
     have n3_:=As_ (Kd.S_below (zS_ HO_1123000.out) hb)
     have n4_:=As_ (zkb BK1117.out hb)
     have n5_:=As_ (zkb BK1122.out hb)
     have n6_:=As_ (bwT (zb2 HB.out GE1117.out GE1122.out) hb)
     clear HO_4 HO_6 HO_1118000 HO_1123000 BK1117 BK1122 HB
     revert n0_ n1_ n2_ n3_ n4_ n5_ n6_;intro HO_4 HO_6 HO_1118000 HO_1123000 BK1117 BK1122 HB
     refine hK.out _ _ ⟨(bkC BK1122.out 0).trans rfl,(bkC BK1122.out 1).trans rfl,(bkC BK1117.out 0).trans rfl,(bkC BK1117.out 1).trans rfl⟩ (fun hHeld=>?_)
     clear hK K
     refine norm_ (a':=?_) ?_ ?_
     rotate_left
     ·show Act.put _ (some 53) _=_
      simp only [Act.put,sq_,i64_w,i32_w]
      rfl
     refine pQ 2 54 (bl_ 7 15) HT_ rfl ?_
     refine tP 3 55 (bl_ 15 15) ?_ HT_ HW_ rfl (.inl ⟨by rfl,?_⟩) hHeld ?_ ?_ ?_;rotate_left;(rintro w' ⟨s0,s1,s2,s3⟩;go_simp;with_reducible rfl);rotate_left;(simp only [Act.put,sq_,i64_w,i32_w];rfl)
     refine tP 4 56 (bl_ 31 15) ?_ HT_ HW_ rfl (.inl ⟨by rfl,?_⟩) hHeld ?_ ?_ ?_;rotate_left;(rintro w' ⟨s0,s1,s2,s3⟩;go_simp;with_reducible rfl);rotate_left;(simp only [Act.put,sq_,i64_w,i32_w];rfl)
     refine one_ (i:=5) (N:=some 57) (bl_ 63 15) rfl rfl (one_of HT_.out (by kernel_rfl)) (by decide) (fun K hK=>?_)
     refine goes_ Try.func38 (by kernel_rfl) rfl #[.agg #[.slice Ao13 t1118.length co13,.int .i64 t1121],.agg #[.slice Ao8 t1110.length co8,.int .i64 t1113]] (by rfl) rfl rfl zM_ ?_
     with_reducible refine (impl_SameGraph.calls k2 _ _ t1118 t1121 _ _ t1110 t1113 true _ ?side1 ?side2 ?side3 ?side4 A49.out).mono ?_
     (case side1=>exact zC_ (Kd.S_reads' HO_1123000.out).2.2)
     (case side2=>exact (Kd.S_reads' HO_1123000.out).2.1)
     (case side3=>exact zC_ (Kd.S_reads' HO_1118000.out).2.2)
     (case side4=>exact (Kd.S_reads' HO_1118000.out).2.1)
     rintro e w55 ⟨rfl,hb⟩
     refine ⟨_,rfl,?_⟩
     have n0_:=As_ (Kd.R_below (zR_ HO_4.out) hb)
     have n1_:=As_ (Kd.R_below (zR_ HO_6.out) hb)
     have n2_:=As_ (Kd.S_below (zS_ HO_1118000.out) hb)
     have n3_:=As_ (Kd.S_below (zS_ HO_1123000.out) hb)
     have n4_:=As_ (zkb BK1117.out hb)
     have n5_:=As_ (zkb BK1122.out hb)
     have n6_:=As_ (bwT (zb2 HB.out GE1117.out GE1122.out) hb)
     clear HO_4 HO_6 HO_1118000 HO_1123000 BK1117 BK1122 HB
     revert n0_ n1_ n2_ n3_ n4_ n5_ n6_;intro HO_4 HO_6 HO_1118000 HO_1123000 BK1117 BK1122 HB
     obtain ⟨Ao56,co56,eo56⟩:=Kd.R_slice HO_6.out
     (first|subst eo56|(injection eo56 with f1_ f2_ f3_;have f4_:=f1_.symm;have f5_:=f3_.symm;clear f1_ f2_ f3_;subst f4_;subst f5_))
     refine hK.out _ _ ⟨(bkC BK1122.out 0).trans rfl,(bkC BK1122.out 1).trans rfl,(bkC BK1117.out 0).trans rfl,(bkC BK1117.out 1).trans rfl⟩ (fun hHeld=>?_)
     clear hK K
     refine norm_ (a':=?_) ?_ ?_
     rotate_left
     ·show Act.put _ (some 57) _=_
      simp only [Act.put,sq_,i64_w,i32_w]
      rfl
     refine pQ 6 58 (bl_ 127 15) HT_ rfl ?_
     refine pQ 7 59 (bl_ 255 15) HT_ rfl ?_
     refine pQ 9 61 (bl_ 767 15) HT_ rfl ?_
     refine tP 8 60 (bl_ 1023 15) ?_ HT_ HW_ rfl (.inl ⟨by rfl,?_⟩) hHeld ?_ ?_ ?_;rotate_left;(rintro w' ⟨s0,s1,s2,s3⟩;go_simp;with_reducible rfl);rotate_left;(simp only [Act.put,sq_,i64_w,i32_w];rfl)
     refine tP 11 63 (bl_ 3071 15) ?_ HT_ HW_ rfl (.inl ⟨by rfl,?_⟩) hHeld ?_ ?_ ?_;rotate_left;(rintro w' ⟨s0,s1,s2,s3⟩;go_simp;with_reducible rfl);rotate_left;(simp only [Act.put,sq_,i64_w,i32_w];rfl)
     refine one_ (i:=10) (N:=some 62) (bl_ 4095 15) rfl rfl (one_of HT_.out (by kernel_rfl)) (by decide) (fun K hK=>?_)
     refine goes_ Try.func31 (by kernel_rfl) rfl #[.agg #[.slice Ao13 t1118.length co13,.int .i64 t1121],.slice Ao56 x6_2.length co56] (by rfl) rfl rfl zM_ ?_
     with_reducible refine (impl_RenumberGraph.calls k2 _ _ t1118 t1121 _ _ x6_2 t1140 t1143 _ ?side1 ?side2 ?side3 ?side4 A51.out).mono ?_
     (case side1=>exact zC_ (Kd.S_reads' HO_1123000.out).2.2)
     (case side2=>exact (Kd.S_reads' HO_1123000.out).2.1)
     (case side3=>exact zC_ (Kd.R_reads' HO_6.out).2.2)
     (case side4=>exact (Kd.R_reads' HO_6.out).2.1)
     rintro e w57 ⟨v1141,rfl,ho0,hb⟩
     refine ⟨_,rfl,?_⟩
     have n0_:=As_ (Kd.R_below (zR_ HO_4.out) hb)
     have n1_:=As_ (Kd.R_below (zR_ HO_6.out) hb)
     have n2_:=As_ (Kd.S_elder' (zS_ HO_1118000.out) (Kd.S_base ho0) hb)
     have n3_:=As_ (Kd.S_elder' (zS_ HO_1123000.out) (Kd.S_base ho0) hb)
     have n4_:=As_ (Kd.S_lower (Kd.S_new' (Kd.S_new' (Kd.S_new' (Kd.S_new' ho0 (Kd.R_lt (zR_ HO_4.out))) (Kd.R_lt (zR_ HO_6.out))) (Kd.S_lt (zS_ HO_1118000.out))) (Kd.S_lt (zS_ HO_1123000.out))) (bwZ (zb2 HB.out GE1117.out GE1122.out)))
     have n5_:=As_ (zkb BK1117.out hb)
     have n6_:=As_ (zkb BK1122.out hb)
     have n7_:=As_ (bwT (zb2 HB.out GE1117.out GE1122.out) hb)
     clear HO_4 HO_6 HO_1118000 HO_1123000 BK1117 BK1122 HB
     revert n0_ n1_ n2_ n3_ n4_ n5_ n6_ n7_;intro HO_4 HO_6 HO_1118000 HO_1123000 HO1142 BK1117 BK1122 HB
     obtain ⟨Ao58,co58,eo58⟩:=Kd.S_slice HO1142.out
     (first|subst eo58|(injection eo58 with f1_ f2_ f3_;have f4_:=f1_.symm;have f5_:=f3_.symm;clear f1_ f2_ f3_;subst f4_;subst f5_))
     refine hK.out _ _ ⟨(bkC BK1122.out 0).trans rfl,(bkC BK1122.out 1).trans rfl,(bkC BK1117.out 0).trans rfl,(bkC BK1117.out 1).trans rfl⟩ (fun hHeld=>?_)
     clear hK K
     refine norm_ (a':=?_) ?_ ?_
     rotate_left
     ·show Act.put _ (some 62) _=_
      simp only [Act.put,sq_,i64_w,i32_w]
      rfl
     refine one_ (i:=12) (N:=some 64) (bl_ 8191 15) rfl rfl (one_of HT_.out (by kernel_rfl)) (by decide) (fun K hK=>?_)
     refine goes_ Try.func36 (by kernel_rfl) rfl #[.agg #[.slice Ao58 t1140.length co58,.int .i64 t1143],.agg #[.slice Ao8 t1110.length co8,.int .i64 t1113]] (by rfl) rfl rfl zM_ ?_
     with_reducible refine (laws_equalGraph.calls k2 _ _ t1140 t1143 _ _ t1110 t1113 t1144 _ ?side1 ?side2 ?side3 ?side4 A52.out).mono ?_
     (case side1=>exact zC_ (Kd.S_reads' HO1142.out).2.2)
     (case side2=>exact (Kd.S_reads' HO1142.out).2.1)
     (case side3=>exact zC_ (Kd.S_reads' HO_1118000.out).2.2)
     (case side4=>exact (Kd.S_reads' HO_1118000.out).2.1)
     rintro e w59 ⟨rfl,hb⟩
     refine ⟨_,rfl,?_⟩
     have n0_:=As_ (Kd.R_below (zR_ HO_4.out) hb)
     have n1_:=As_ (Kd.R_below (zR_ HO_6.out) hb)
     have n2_:=As_ (Kd.S_below (zS_ HO_1118000.out) hb)
     have n3_:=As_ (Kd.S_below (zS_ HO_1123000.out) hb)
     have n4_:=As_ (Kd.S_below (zS_ HO1142.out) hb)
     have n5_:=As_ (zkb BK1117.out hb)
     have n6_:=As_ (zkb BK1122.out hb)
     have n7_:=As_ (bwT (zb2 HB.out GE1117.out GE1122.out) hb)
     clear HO_4 HO_6 HO_1118000 HO_1123000 HO1142 BK1117 BK1122 HB
     revert n0_ n1_ n2_ n3_ n4_ n5_ n6_ n7_;intro HO_4 HO_6 HO_1118000 HO_1123000 HO1142 BK1117 BK1122 HB
     refine hK.out _ _ ⟨(bkC BK1122.out 0).trans rfl,(bkC BK1122.out 1).trans rfl,(bkC BK1117.out 0).trans rfl,(bkC BK1117.out 1).trans rfl⟩ (fun hHeld=>?_)
     clear hK K
     refine norm_ (a':=?_) ?_ ?_
     rotate_left
     ·show Act.put _ (some 64) _=_
      simp only [Act.put,sq_,i64_w,i32_w]
      rfl
     refine pQ 13 65 (bl_ 16383 15) HT_ rfl ?_
     refine pQ 14 2 (bl_ 32767 15) HT_ rfl ?_
     refine done_ (done_of HT_.out (by kernel_rfl)) ?_
     try go_wp2
     go_ret
     exact ⟨zE_,zb2 HB.out GE1117.out GE1122.out⟩
def laws_FnRenumberGraph.Pure:Prop:=∀ (l0:List Int),l0.length≤maxLen→l0.length * 1≤140737488351232→(∀ x∈l0,(Lit.int .u8 x).wf=true)→∃ k,laws_FnRenumberGraph.f k l0=some true
theorem laws_FnRenumberGraph.walk (P:laws_FnRenumberGraph.Pure) (a0:Option Addr) (len0 cap0:Nat) (z0:List Int) (w:World) (w0:(a0=none∧len0=0∧cap0=0∧z0=[])∨∃ x,a0=some x∧len0≤cap0∧cap0≤maxLen∧z0.length=cap0∧(∀ i,i<z0.length→w.cell? (x.add i)=some (.int .u8 (z0.getD i 0)))∧∀ n∈z0,(Lit.int .u8 n).wf=true) (y0:len0 * 1≤140737488351232) :
  Calls Try.prog 10 #[.slice a0 len0 cap0] w fun e w'=>e=.returned (.bool true)∧Below w.heap.size w w':=by
 obtain ⟨l0,rfl,hr0,hm0,hw0,hc0⟩:=ReadsInt.ofRowC w0
 obtain ⟨k,h⟩:=P l0 hm0 y0 hw0
 refine (laws_FnRenumberGraph.calls k _ _ l0 true w (Kd.C_of_reads (d:=(0:Int)) (h1:=fun _=>rfl) hr0) hc0 h).mono ?_
 rintro e w' ⟨rfl,hd⟩
 exact ⟨rfl,hd⟩
end Go.Proofs.Ytapaegcombfafaa.Q
