import Derived.Test.YtapaegcombfafaaQ0
import Derived.Test.YtapaegcombfafaaQ52
import Derived.Test.YtapaegcombfafaaQ65
import Derived.Test.YtapaegcombfafaaQ82
namespace Go.Proofs.Ytapaegcombfafaa.Q
open Go.RowKit Go.Proofs.YtapaegcombfafaaW.PrintWords Go.Proofs.YtapaegcombfafaaW.PrintLast Go.Proofs.YtapaegcombfafaaW.PrintMore
attribute [local go_sem] max2_int min2_int max_two min_two max_three min_three max_four min_four
set_option linter.unusedVariables false
set_option linter.unusedSimpArgs false
def spec_DrawRenumberGraph.l0:Nat→List Int→Int→List Int→Int→List (S58)→Int→Option ((List (S58)) × Int × List Int)
 | 0,_,_,_,_,_,_=>none
 | k+1,x6,x7,x1051000,x1051001,x1057000,x1057001=>if x7<(x1057000.length:Int) then ((spec_reader_pick.f k x1051000 x1051001 (wrap64 ((x6.length:Int)+1))).bind fun bt1060=>(if 0≤bt1060.1 then (if bt1060.1≤(x6.length:Int) then ((spec_copyInts.f (x6.drop (bt1060.1:Int).toNat)).bind fun t1066=>((some (x6.take (bt1060.1:Int).toNat:List Int)).bind fun y1069=>(if y1069.length<17592186044416 then ((some (y1069++[x7]:List Int)).bind fun y1072=>(if y1072.length+t1066.length<17592186044416 then (spec_DrawRenumberGraph.l0 k (y1072++t1066) (wrap64 (x7+1)) x1051000 bt1060.2 x1057000 x1057001) else (none))) else (none)))) else (none)) else (none))) else ((spec_reader_pick.f k x1051000 x1051001 12).bind fun bt1078=>(if bt1078.1=0 then (if 0≤(wrap64 ((x6.length:Int) - 1)) then (if (wrap64 ((x6.length:Int) - 1))<(x6.length:Int) then ((spec_reader_one.f k x1051000 bt1078.2 (([(-1),(x1057000.length:Int),rd x6 (wrap64 ((x6.length:Int) - 1))]:List Int))).bind fun bt1084=>(if 0<(x6.length:Int) then (some (x1057000,x1057001,(x6.set (0:Int).toNat bt1084.1))) else (none))) else (none)) else (none)) else (some (x1057000,x1057001,x6))))
def spec_DrawRenumberGraph.f (k:Nat) (l0:List Int):Option ((List (S58)) × Int × List Int):=(spec_newReader.f l0).bind fun bt1048=>((spec_anyGraph.f k bt1048.1 bt1048.2).bind fun bt1051=>(spec_DrawRenumberGraph.l0 k (([]:List Int)) 0 bt1048.1 bt1051.2.2 bt1051.1 bt1051.2.1))
set_option maxRecDepth 100000 in
theorem spec_DrawRenumberGraph.mono_l:∀ k,(∀ y0 y1 y2 y3 y4 y5,LeO (spec_DrawRenumberGraph.l0 k y0 y1 y2 y3 y4 y5) (spec_DrawRenumberGraph.l0 (k+1) y0 y1 y2 y3 y4 y5))
 | 0=>fun _ _ _ _ _ _ r h=>(by cases h)
 | k+1=>by
  have ih0:=spec_DrawRenumberGraph.mono_l k
  ·intro y0 y1 y2 y3 y4 y5
   unfold spec_DrawRenumberGraph.l0
   repeat' first
   | (with_reducible exact ih0 _ _ _ _ _ _)
   | (with_reducible exact spec_anyGraph.mono _ _ _)
   | (with_reducible exact spec_reader_one.mono _ _ _ _)
   | (with_reducible exact spec_reader_pick.mono _ _ _ _)
   | (with_reducible exact LeO.refl _)
   | (with_reducible exact LeO.none _)
   | (with_reducible refine LeO.ite ?_ ?_)
   | (with_reducible refine LeO.bind ?_ (fun _=>?_))
   | exact ih0 _ _ _ _ _ _
   | exact spec_anyGraph.mono _ _ _
   | exact spec_reader_one.mono _ _ _ _
   | exact spec_reader_pick.mono _ _ _ _
   | exact LeO.none _
   | refine LeO.ite ?_ ?_
   | refine LeO.bind ?_ (fun _=>?_)
set_option maxRecDepth 100000 in
theorem spec_DrawRenumberGraph.mono:∀ a0 k,LeO (spec_DrawRenumberGraph.f k a0) (spec_DrawRenumberGraph.f (k+1) a0):=by
 intro a0 k
 have ih0:=spec_DrawRenumberGraph.mono_l k
 unfold spec_DrawRenumberGraph.f
 repeat' first
   | (with_reducible exact ih0 _ _ _ _ _ _)
   | (with_reducible exact spec_anyGraph.mono _ _ _)
   | (with_reducible exact spec_reader_one.mono _ _ _ _)
   | (with_reducible exact spec_reader_pick.mono _ _ _ _)
   | (with_reducible exact LeO.refl _)
   | (with_reducible exact LeO.none _)
   | (with_reducible refine LeO.ite ?_ ?_)
   | (with_reducible refine LeO.bind ?_ (fun _=>?_))
   | exact ih0 _ _ _ _ _ _
   | exact spec_anyGraph.mono _ _ _
   | exact spec_reader_one.mono _ _ _ _
   | exact spec_reader_pick.mono _ _ _ _
   | exact LeO.none _
   | refine LeO.ite ?_ ?_
   | refine LeO.bind ?_ (fun _=>?_)
def spec_DrawRenumberGraph.T11:Bool × List (List Nat × List Nat):=(true,[([],[]),([],[]),([],[]),([2],[2]),([3],[3]),([],[]),([],[]),([6],[6]),([7],[7]),([5,8],[5,8]),([9],[9]),([4,10],[4,10]),([1,11],[1,11]),([0,0,1,2,3,4,5,6,7,8,9,10,11,12],[0]),([13,12,12,0,1,2,3,4,5,6,7,8,9,10,11,12],[12,13])])
def spec_DrawRenumberGraph.B11:List Nat:=[0,0,0,4,12,0,0,64,192,480,992,2044,4094,8191,16383]
theorem spec_DrawRenumberGraph.tab11:rtab .any (opsOf Try.f35 11)=spec_DrawRenumberGraph.T11:=by kernel_rfl
theorem spec_DrawRenumberGraph.bits11:waitsOk spec_DrawRenumberGraph.T11.2 spec_DrawRenumberGraph.B11=true:=by kernel_rfl
theorem own_len (A:Option Addr) (n m c:Nat):(Value.slice A n c).ownBlock=(Value.slice A m c).ownBlock:=by cases A <;> rfl
set_option maxHeartbeats 8000000 in
set_option maxRecDepth 100000 in
theorem spec_DrawRenumberGraph.calls (k:Nat) (A0:Option Addr) (c0:Nat) (l0:List Int) (r1:List (S58)) (r2:Int) (r3:List Int) (w:World) (hr0:Kd.C (Kd.int .u8) w A0 l0.length l0) (hc0:l0.length≤c0) (h:spec_DrawRenumberGraph.f k l0=some (r1,r2,r3)) :
  Calls Try.prog 35 #[.slice A0 l0.length c0] w fun e w'=>∃ v0_ v2_:Value,e=.returned (.tuple #[.agg #[v0_,.int .i64 r2],v2_])∧Kd.S k58 58 w' w.heap.size (fun k_=>some k_≠(v2_:Value).ownBlock) v0_ r1∧Kd.R (Kd.int .i64) 3 w' w.heap.size (fun _=>True) v2_ r3∧Below w.heap.size w w':=by
 have hu25:=Try.underlying25
 have HR0:=As_ hr0
 have HC0:=As_ hc0
 clear hr0 hc0
 have HB:=As_ (Below.refl w.heap.size w)
 have H:((spec_newReader.f l0).bind fun bt1048=>((spec_anyGraph.f k bt1048.1 bt1048.2).bind fun bt1051=>(spec_DrawRenumberGraph.l0 k (([]:List Int)) 0 bt1048.1 bt1051.2.2 bt1051.1 bt1051.2.1)))=some (r1,r2,r3):=h
 clear h
 replace H:=obS H
 obtain ⟨⟨t1048,t1049⟩,A20,H⟩:=H
 replace H:((spec_anyGraph.f k t1048 t1049).bind fun bt1051=>(spec_DrawRenumberGraph.l0 k (([]:List Int)) 0 t1048 bt1051.2.2 bt1051.1 bt1051.2.1))=some (r1,r2,r3):=H
 have A2:=As_ A20
 clear A20
 replace H:=obS H
 obtain ⟨⟨t1051,t1054,t1055⟩,A30,H⟩:=H
 replace H:(spec_DrawRenumberGraph.l0 k (([]:List Int)) 0 t1048 t1055 t1051 t1054)=some (r1,r2,r3):=H
 have A3:=As_ A30
 clear A30
 obtain ⟨y1057,hy1057⟩:∃ y_:List Int,y_=(([]:List Int)):=⟨_,rfl⟩
 replace H:(spec_DrawRenumberGraph.l0 k y1057 0 t1048 t1055 t1051 t1054)=some (r1,r2,r3):=zH_ H hy1057
 have Ny1057:=As_ hy1057
 clear hy1057
 have H':=As_ H
 clear H
 go_enter Try.func35,Try.ntmps35
 go_wp2_with (first|((with_reducible refine gate_dst (N:=2) rfl ?_);refine box_event ?hg (N:=2) ?hd (cs:=#[.slice none 0 0,.int .i64 0]) (t:=25) ?hr ?_;(case hd=>rfl);(case hg=>rfl);(case hr=>go_simp <;> rfl);intro gb1047 hg w4 hbox hb;have n0_:=As_ (bwT (zb0 HB.out) hb);have n1_:=As_ (hbox);have n2_:=As_ ((by rw [hg];exact (bwZ (zb0 HB.out)):w.heap.size≤gb1047));have n3_:=As_ ((by rw [hg];exact (bwZ (zb0 HB.out)):w.heap.size≤gb1047));clear HB;revert n0_ n1_ n2_ n3_;intro HB BK1047 GW1047 GE1047;clear hb hbox hg)|((with_reducible refine gate_callee (f:=40) rfl ?_);refine goesL_ (some 11) rfl rfl Try.func40 (by kernel_rfl) rfl #[.slice A0 l0.length c0] rfl zM_ ?_;(with_reducible refine (spec_newReader.calls _ _ l0 t1048 t1049 w _ ?side1 ?side2 ?side3 A2.out).mono ?_);(case side1=>exact zb1 HB.out GE1047.out);(case side2=>exact HR0.out);(case side3=>exact HC0.out);rintro e w5 ⟨g1050,rfl,hi,hb,hb2⟩;refine ⟨_,rfl,?_⟩;have n0_:=As_ (zkb BK1047.out hb2);have n1_:=As_ (hb);have n2_:=As_ (hi);have n3_:=As_ (IsS74.ne_blk hi (zkb BK1047.out hb2) (by decide));have n4_:=As_ (Ne.symm (IsS74.ne_blk hi (zkb BK1047.out hb2) (by decide)));clear BK1047 HB;revert n0_ n1_ n2_ n3_ n4_;intro BK1047 HB HI1050 NB1050_1047 NB1047_1050)|((with_reducible refine gate_callee (f:=52) rfl ?_);refine goesL_ (some 13) rfl rfl Try.func52 (by kernel_rfl) rfl #[.pointer (some ⟨g1050,0,none⟩)] rfl zM_ ?_;(with_reducible refine (spec_anyGraph.calls k g1050 t1048 t1049 t1051 t1054 t1055 w _ ?side1 ?side2 A3.out).mono ?_);(case side1=>exact zi74_1 HI1050.out NB1050_1047.out);(case side2=>exact zb2 HB.out (IsS74.ge HI1050.out) GE1047.out);rintro e w6 ⟨v1052,rfl,ho0,hi,hb,hk⟩;refine ⟨_,rfl,?_⟩;have n0_:=As_ (KeepBut.blk hk (g':=gb1047) (o:=.cells #[.slice none 0 0,.int .i64 0] 25 (0,0)) (zk_ BK1047.out) NB1047_1050.out (by simp));have n1_:=As_ (Kd.S_lower ho0 (bwZ (zb2 HB.out (IsS74.ge HI1050.out) GE1047.out)));have n2_:=As_ (hb);have n3_:=As_ (hi);clear BK1047 HB HI1050;revert n0_ n1_ n2_ n3_;intro BK1047 HO1053 HB HI1050)|((with_reducible refine gate_dst (N:=5) rfl ?_);refine box_event ?hg (N:=5) ?hd (cs:=#[.slice none 0 0,.int .i64 0]) (t:=25) ?hr ?_;(case hd=>rfl);(case hg=>rfl);(case hr=>go_simp <;> rfl);intro gb1056 hg w7 hbox hb;have n0_:=As_ (Kd.S_below (zS_ HO1053.out) hb);have n1_:=As_ (zkb BK1047.out hb);have n2_:=As_ (IsS74.below (zi74_1 HI1050.out NB1050_1047.out) hb);have n3_:=As_ (bwT (zb2 HB.out (IsS74.ge HI1050.out) GE1047.out) hb);have n4_:=As_ (hbox);have n5_:=As_ ((by rw [hg];exact (bwZ (zb2 HB.out (IsS74.ge HI1050.out) GE1047.out)):w.heap.size≤gb1056));have n6_:=As_ ((by rw [hg];exact (bwZ (zb2 HB.out (IsS74.ge HI1050.out) GE1047.out)):w.heap.size≤gb1056));have n7_:=As_ ((by rw [hg];exact Nat.ne_of_lt (zkl BK1047.out):gb1047≠gb1056));have n8_:=As_ ((by rw [hg];exact Nat.ne_of_gt (zkl BK1047.out):gb1056≠gb1047));have n9_:=As_ ((by rw [hg];exact Nat.ne_of_lt (IsS74.lt (show IsS74 w _ g1050 t1048 t1055 from zi74_1 HI1050.out NB1050_1047.out)):g1050≠gb1056));have n10_:=As_ ((by rw [hg];exact Nat.ne_of_gt (IsS74.lt (show IsS74 w _ g1050 t1048 t1055 from zi74_1 HI1050.out NB1050_1047.out)):gb1056≠g1050));clear HO1053 BK1047 HI1050 HB;revert n0_ n1_ n2_ n3_ n4_ n5_ n6_ n7_ n8_ n9_ n10_;intro HO1053 BK1047 HI1050 HB BK1056 GW1056 GE1056 NB1047_1056 NB1056_1047 NB1050_1056 NB1056_1050;clear hb hbox hg;obtain ⟨Ao8,co8,eo8⟩:=Kd.S_slice HO1053.out;subst eo8;have hnb9:=NB1056_1047.out;have hnc9:=NB1047_1056.out;have hnb10:=NB1056_1050.out;have hnc10:=NB1050_1056.out;obtain ⟨hcz11_0,hcz11_1,hfz11_0,hfz11_1⟩:=bk2 BK1056.out)|((with_reducible refine gate_dst (N:=14) rfl ?_);refine Kd.R_lit (Kd.int .i64) _ 3 ?hg (N:=14) ?hd (xs:=([]:List Int)) (inner:=[]) (ok:=fun _=>True) (okp:=fun _=>True) ?hr ?hp (fun _ hk=>hk) trivial (Below.refl _ _) (Nat.le_refl _) (by simp) ?_;(case hd=>rfl);(case hg=>rfl);(case hr=>go_simp <;> rfl);(case hp=>exact (Reps.none _ _));intro v1058 w12 ho13 hb hg_ hnew_;clear hg_ hnew_;(first|rw [← Ny1057.out] at ho13|(simp only [Int.reduceToNat] at ho13;rw [← Ny1057.out] at ho13));have n0_:=As_ (Kd.S_elder' (by (with_reducible repeat (first|apply Kd.S_alloc|apply Kd.S_drewN|apply Kd.S_drew));exact (Kd.S_mono (Kd.S_far (p:=⟨gb1056,1,none⟩) (Kd.S_far (p:=⟨gb1056,0,none⟩) (Kd.S_types HO1053.out BK1056.out (by decide)) (fun _ hk=>hk.2) (.slice Ao8 t1051.length co8)) (fun _ hk=>hk.2) (.int .i64 t1054)) (fun _ h_=>h_.1))) (Kd.R_base ho13) hb);have n1_:=As_ (Kd.R_lower ho13 (bwZ (zb3 HB.out (IsS74.ge HI1050.out) GE1047.out GE1056.out)));have n2_:=As_ (blk_below (g:=gb1047) (o:=.cells #[.slice none 0 0,.int .i64 0] 25 (0,0)) (by (with_reducible repeat first|apply bkN|apply bkD|apply bkA);refine blk_far ?_ NB1047_1056.out _;(with_reducible repeat first|apply bkN|apply bkD|apply bkA);refine blk_far ?_ NB1047_1056.out _;(with_reducible repeat first|apply bkN|apply bkD|apply bkA);exact BK1047.out) hb);have n3_:=As_ (IsS74.below (show IsS74 w ((w7.setCell ⟨gb1056,0,none⟩ (.slice Ao8 t1051.length co8)).setCell ⟨gb1056,1,none⟩ (.int .i64 t1054)) g1050 t1048 t1055 from zi74_2 HI1050.out NB1050_1047.out NB1050_1056.out) hb);have n4_:=As_ (blk_below (g:=gb1056) (o:=.cells #[.slice Ao8 t1051.length co8,.int .i64 t1054] 25 (0,0)) (by (with_reducible repeat first|apply bkN|apply bkD|apply bkA);refine blk_put (cs:=#[.slice Ao8 t1051.length co8,.int .i64 0]) ?_ 1 _ rfl;(with_reducible repeat first|apply bkN|apply bkD|apply bkA);refine blk_put (cs:=#[.slice none 0 0,.int .i64 0]) ?_ 0 _ rfl;(with_reducible repeat first|apply bkN|apply bkD|apply bkA);exact BK1056.out) hb);have n5_:=As_ (bwT (zb3 HB.out (IsS74.ge HI1050.out) GE1047.out GE1056.out) hb);clear HO1053 BK1047 HI1050 BK1056 HB;revert n0_ n1_ n2_ n3_ n4_ n5_;intro HO1053 HO1059 BK1047 HI1050 BK1056 HB;clear hb ho13))
 go_loopg [6,7] k (fun kq v6 v7 w'=>∃ (x6_1:List Int) (x7_1:Int) (x1051001_1:Int),v7=.int .i64 x7_1∧Aside0 (spec_DrawRenumberGraph.l0 kq x6_1 x7_1 t1048 x1051001_1 t1051 t1054=some (r1,r2,r3))∧Aside0 (kq≤k)∧Aside0 (Kd.R (Kd.int .i64) 3 w' w.heap.size (fun _=>True) v6 x6_1)∧Aside0 (Kd.S k58 58 w' w.heap.size (fun k_=>some k_≠(v6:Value).ownBlock) (.slice Ao8 t1051.length co8) t1051)∧Aside0 (w'.heap[gb1047]?=some (.cells #[(.slice none 0 0),.int .i64 0] 25 (0,0)))∧Aside0 (w'.heap[gb1056]?=some (.cells #[(.slice Ao8 t1051.length co8),.int .i64 t1054] 25 (0,0)))∧Aside0 (IsS74 w w' g1050 t1048 x1051001_1)∧Aside0 (Below w.heap.size w w'))
 case atStart=>exact ⟨(y1057),(0),(t1055),zT_,H',⟨Nat.le_refl _⟩,⟨by (with_reducible repeat (first|apply Kd.R_alloc|apply Kd.R_drewN|apply Kd.R_drew));exact HO1059.out⟩,⟨by (with_reducible repeat (first|apply Kd.S_alloc|apply Kd.S_drewN|apply Kd.S_drew));exact Kd.S_mono HO1053.out (fun _ hk=>hk.2)⟩,⟨by (with_reducible repeat first|apply bkN|apply bkD|apply bkA);exact BK1047.out⟩,⟨by (with_reducible repeat first|apply bkN|apply bkD|apply bkA);exact BK1056.out⟩,⟨zi74_2 HI1050.out NB1050_1047.out NB1050_1056.out⟩,⟨zb3 HB.out (IsS74.ge HI1050.out) GE1047.out GE1056.out⟩⟩
 case round=>
  clear H'
  obtain ⟨x6_1,x7_1,x1051001_1,rfl,HA,HK1,HO_6,HO_1057000,BK1047,BK1056,HI1050,HB⟩:=hrel
  cases gk with
  | zero=>exact absurd HA.out (fun h_=>(by cases h_))
  | succ k1=>
   have H:=HA.out
   clear HA
   simp only [spec_DrawRenumberGraph.l0] at H
   by_cases c14:x7_1<(t1051.length:Int)
   ·rw [if_pos c14] at H
    have c14b0:decide (x7_1<(t1051.length:Int))=true:=deT c14
    clear c14
    replace H:=obS H
    obtain ⟨⟨t1060,t1061⟩,A150,H⟩:=H
    replace H:(if 0≤t1060 then (if t1060≤(x6_1.length:Int) then ((spec_copyInts.f (x6_1.drop (t1060:Int).toNat)).bind fun t1066=>((some (x6_1.take (t1060:Int).toNat:List Int)).bind fun y1069=>(if y1069.length<17592186044416 then ((some (y1069++[x7_1]:List Int)).bind fun y1072=>(if y1072.length+t1066.length<17592186044416 then (spec_DrawRenumberGraph.l0 k1 (y1072++t1066) (wrap64 (x7_1+1)) t1048 t1061 t1051 t1054) else (none))) else (none)))) else (none)) else (none))=some (r1,r2,r3):=H
    have A15:=As_ A150
    clear A150
    by_cases c16:0≤t1060
    rotate_left
    ·rw [if_neg c16] at H
     exact absurd H (by simp)
    rw [if_pos c16] at H
    have c16b0:=eq_true c16
    have c16b1:decide (0≤t1060)=true:=deT c16
    clear c16
    by_cases c17:t1060≤(x6_1.length:Int)
    rotate_left
    ·rw [if_neg c17] at H
     exact absurd H (by simp)
    rw [if_pos c17] at H
    have c17b0:=eq_true c17
    have c17b1:decide (t1060≤(x6_1.length:Int))=true:=deT c17
    clear c17
    obtain ⟨y1062,hy1062⟩:∃ y_:List Int,y_=(x6_1.drop (t1060:Int).toNat):=⟨_,rfl⟩
    replace H:((spec_copyInts.f y1062).bind fun t1066=>((some (x6_1.take (t1060:Int).toNat:List Int)).bind fun y1069=>(if y1069.length<17592186044416 then ((some (y1069++[x7_1]:List Int)).bind fun y1072=>(if y1072.length+t1066.length<17592186044416 then (spec_DrawRenumberGraph.l0 k1 (y1072++t1066) (wrap64 (x7_1+1)) t1048 t1061 t1051 t1054) else (none))) else (none))))=some (r1,r2,r3):=zH_ H hy1062
    have Ny1062:=As_ hy1062
    clear hy1062
    replace H:=obS H
    obtain ⟨t1066,A180,H⟩:=H
    replace H:((some (x6_1.take (t1060:Int).toNat:List Int)).bind fun y1069=>(if y1069.length<17592186044416 then ((some (y1069++[x7_1]:List Int)).bind fun y1072=>(if y1072.length+t1066.length<17592186044416 then (spec_DrawRenumberGraph.l0 k1 (y1072++t1066) (wrap64 (x7_1+1)) t1048 t1061 t1051 t1054) else (none))) else (none)))=some (r1,r2,r3):=H
    have A18:=As_ A180
    clear A180
    have c19b0:=eq_true (odT zA_:t1060≤(x6_1.length:Int))
    obtain ⟨y1069,hy1069⟩:∃ y_:List Int,y_=(x6_1.take (t1060:Int).toNat):=⟨_,rfl⟩
    replace H:(if y1069.length<17592186044416 then ((some (y1069++[x7_1]:List Int)).bind fun y1072=>(if y1072.length+t1066.length<17592186044416 then (spec_DrawRenumberGraph.l0 k1 (y1072++t1066) (wrap64 (x7_1+1)) t1048 t1061 t1051 t1054) else (none))) else (none))=some (r1,r2,r3):=zH_ H hy1069
    have Ny1069:=As_ hy1069
    clear hy1069
    by_cases c20:y1069.length<17592186044416
    rotate_left
    ·rw [if_neg c20] at H
     exact absurd H (by simp)
    rw [if_pos c20] at H
    have LMc20:=As_ c20
    clear c20
    obtain ⟨y1072,hy1072⟩:∃ y_:List Int,y_=(y1069++[x7_1]):=⟨_,rfl⟩
    replace H:(if y1072.length+t1066.length<17592186044416 then (spec_DrawRenumberGraph.l0 k1 (y1072++t1066) (wrap64 (x7_1+1)) t1048 t1061 t1051 t1054) else (none))=some (r1,r2,r3):=zH_ H hy1072
    have Ny1072:=As_ hy1072
    clear hy1072
    by_cases c21:y1072.length+t1066.length<17592186044416
    rotate_left
    ·rw [if_neg c21] at H
     exact absurd H (by simp)
    rw [if_pos c21] at H
    have LMc21:=As_ c21
    clear c21
    obtain ⟨y1075,hy1075⟩:∃ y_:List Int,y_=(y1072++t1066):=⟨_,rfl⟩
    replace H:(spec_DrawRenumberGraph.l0 k1 y1075 (wrap64 (x7_1+1)) t1048 t1061 t1051 t1054)=some (r1,r2,r3):=zH_ H hy1075
    have Ny1075:=As_ hy1075
    clear hy1075
    have H':=As_ H
    clear H
    have hnb22:=NB1056_1047.out
    have hnc22:=NB1047_1056.out
    have hnb23:=NB1056_1050.out
    have hnc23:=NB1050_1056.out
    obtain ⟨hcz24_0,hcz24_1,hfz24_0,hfz24_1⟩:=bk2 BK1056.out
    obtain ⟨Ao25,co25,eo25⟩:=Kd.R_slice HO_6.out
    subst eo25
    go_wp2_with (first|((with_reducible refine gate_callee (f:=65) rfl ?_);refine goesL_ (some 26) rfl rfl Try.func65 (by kernel_rfl) rfl #[.pointer (some ⟨g1050,0,none⟩),.int .i64 (wrap64 ((x6_1.length:Int)+1))] rfl zM_ ?_;(with_reducible refine (spec_reader_pick.calls k1 g1050 t1048 x1051001_1 (wrap64 ((x6_1.length:Int)+1)) t1060 t1061 w _ ?side1 ?side2 A15.out).mono ?_);(case side1=>exact zi74_2 HI1050.out NB1050_1047.out NB1050_1056.out);(case side2=>exact zb3 HB.out (IsS74.ge HI1050.out) GE1047.out GE1056.out);rintro e w26 ⟨rfl,hi,hb,hk⟩;refine ⟨_,rfl,?_⟩;have n0_:=As_ (Kd.R_mono (Kd.R_keep (IsS74.apart (show IsS74 w _ g1050 t1048 x1051001_1 from zi74_2 HI1050.out NB1050_1047.out NB1050_1056.out) (zR_ HO_6.out) (by decide)) hk (fun _ h=>h.2)) (fun _ h=>h.1));have n1_:=As_ (Kd.S_mono (Kd.S_keep (IsS74.apartS (show IsS74 w _ g1050 t1048 x1051001_1 from zi74_2 HI1050.out NB1050_1047.out NB1050_1056.out) (zS_ HO_1057000.out) (by decide)) hk (fun _ h=>h.2)) (fun _ h=>h.1));have n2_:=As_ (KeepBut.blk hk (g':=gb1047) (o:=.cells #[.slice none 0 0,.int .i64 0] 25 (0,0)) (zk_ BK1047.out) NB1047_1050.out (by simp));have n3_:=As_ (KeepBut.blk hk (g':=gb1056) (o:=.cells #[.slice Ao8 t1051.length co8,.int .i64 t1054] 25 (0,0)) (zk_ BK1056.out) NB1056_1050.out (by simp));have n4_:=As_ (hb);have n5_:=As_ (hi);clear HO_6 HO_1057000 BK1047 BK1056 HB HI1050;revert n0_ n1_ n2_ n3_ n4_ n5_;intro HO_6 HO_1057000 BK1047 BK1056 HB HI1050;have q27:(t1060:Int)≤((x6_1.length:Int):Int):=odT zA_;obtain ⟨i027,hi027,_,hsz27,_⟩:=info_parts info3;have hroom27:x6_1.length≤co25:=(Kd.R_reads' HO_6.out).2.1;have hC27:Kd.C (Kd.int .i64) _ Ao25 x6_1.length x6_1:=(Kd.R_reads' HO_6.out).2.2;have q027:(0:Int)≤(t1060:Int):=odT zA_;have hcut27:=cut_from (P:=Try.prog) 26 3 .i64 Try.underlying26 hi027 1 hsz27 Ao25 x6_1.length co25 t1060 q027 q27;have hr27:=Kd.C_drop (m:=(t1060:Int).toNat) (c:=co25) hC27 (by omega) hroom27;obtain ⟨A27,hA27⟩:∃ A1,A1=(if co25=(t1060:Int).toNat then Ao25 else (Ao25:Option Addr).map (·.add ((t1060:Int).toNat * 1))):=⟨_,rfl⟩;obtain ⟨c27,hc27⟩:∃ c1,c1=co25 - (t1060:Int).toNat:=⟨_,rfl⟩;have hy27:y1062.length=x6_1.length - (t1060:Int).toNat:=(by rw [Ny1062.out,List.length_drop] <;> omega);rw [show (x6_1).drop (t1060:Int).toNat=y1062 from Ny1062.out.symm] at hr27;replace hr27:Kd.C (Kd.int .i64) _ A27 y1062.length y1062:=(by rw [hA27];exact hr27);rw [← hy27,← hA27,← hc27] at hcut27;have HR1065:=As_ hr27;have HC1065:=As_ (show y1062.length≤c27 from by rw [hy27,hc27];exact Nat.sub_le_sub_right hroom27 _);clear hr27 hC27 hroom27 hi027 hsz27 hc27;have KY27:=As_ hy27;have KA27:=As_ hA27;clear hy27 hA27;have KL27:=As_ (show (t1060:Int).toNat≤x6_1.length from by omega);replace q27:=eq_true q27)|((with_reducible refine gate_callee (f:=66) rfl ?_);refine goesL_ (some 30) rfl rfl Try.func66 (by kernel_rfl) rfl #[.slice A27 y1062.length c27] rfl zM_ ?_;(with_reducible refine (spec_copyInts.calls _ _ y1062 t1066 _ ?side1 ?side2 A18.out).mono ?_);(case side1=>repeat (first|exact (by repeat (first|(with_reducible exact HR1065.out)|(with_reducible refine Kd.C_alloc ?_ _)|(with_reducible refine Kd.C_drewN ?_ _)|(with_reducible refine Kd.C_drew ?_)|exact HR1065.out))|(with_reducible refine Kd.C_alloc ?_ _)|(with_reducible refine Kd.C_drewN ?_ _)|(with_reducible refine Kd.C_drew ?_)));(case side2=>exact HC1065.out);rintro e w28 ⟨v1067,rfl,ho0,hb⟩;refine ⟨_,rfl,?_⟩;have n0_:=As_ (Kd.R_elder' (zR_ HO_6.out) (Kd.R_base ho0) hb);have n1_:=As_ (Kd.S_elder' (zS_ HO_1057000.out) (Kd.R_base ho0) hb);have n2_:=As_ (Kd.R_lower (Kd.R_new' ho0 (Kd.R_lt (zR_ HO_6.out))) (bwZ (zb3 HB.out (IsS74.ge HI1050.out) GE1047.out GE1056.out)));have n3_:=As_ (zkb BK1047.out hb);have n4_:=As_ (zkb BK1056.out hb);have n5_:=As_ (IsS74.below (zi74_2 HI1050.out NB1050_1047.out NB1050_1056.out) hb);have n6_:=As_ (Kd.C_below (by repeat (first|(with_reducible exact HR1065.out)|(with_reducible refine Kd.C_alloc ?_ _)|(with_reducible refine Kd.C_drewN ?_ _)|(with_reducible refine Kd.C_drew ?_)|exact HR1065.out)) hb);have n7_:=As_ (bwT (zb3 HB.out (IsS74.ge HI1050.out) GE1047.out GE1056.out) hb);clear HO_6 HO_1057000 BK1047 BK1056 HI1050 HR1065 HB;revert n0_ n1_ n2_ n3_ n4_ n5_ n6_ n7_;intro HO_6 HO_1057000 HO1068 BK1047 BK1056 HI1050 HR1065 HB;have q29:(t1060:Int)≤((x6_1.length:Int):Int):=odT zA_;obtain ⟨i029,hi029,_,hsz29,_⟩:=info_parts info3;have hcut29:=cut_to (P:=Try.prog) 26 3 .i64 Try.underlying26 hi029 Ao25 x6_1.length co25 t1060 (odT zA_) q29 (Kd.R_reads' HO_6.out).2.1;have hr29:=Kd.R_take (m:=(t1060:Int).toNat) HO_6.out (by omega);have hy29:y1069.length=(t1060:Int).toNat:=(by rw [Ny1069.out,List.length_take];omega);rw [← Ny1069.out] at hr29;rw [← hy29] at hr29 hcut29;clear hy29 hi029 hsz29 HO_6;have HO1071:=As_ hr29;clear hr29;replace q29:=eq_true q29)|((with_reducible refine gate_builtin (b:=.append) (xs:=#[.tmp 33,.tmp 35]) rfl ?_);at_builtin;refine Kd.R_append (Kd.int .i64) (w0:=w) w.heap.size rfl (.tmp 33) (.tmp 35) 26 3 (.int .i64 0) 8 rfl Try.underlying26 info3 rfl (by decide) (by omega) (.slice Ao25 y1069.length co25) y1069 x7_1 [.int .i64 x7_1] (fun k_=>some k_≠(v1067:Value).ownBlock) (fun _=>False) rfl rfl ?aP (fun _ hk=>hk.elim) ?aF ?aO ?aB ?aS ?aL ?_;(case aP=>exact rfl);(case aB=>exact (zb3 HB.out (IsS74.ge HI1050.out) GE1047.out GE1056.out));(case aF=>exact (fun k_ hk=>Kd.fresh' (Kd.R_lt (zR_ HO1068.out)) k_ hk));(case aO=>exact (by (with_reducible repeat (first|apply Kd.R_alloc|apply Kd.R_drewN|apply Kd.R_drew));exact Kd.R_mono HO1071.out (fun _ hk=>hk.2)));(case aS=>exact (bwZ (zb3 HB.out (IsS74.ge HI1050.out) GE1047.out GE1056.out)));(case aL=>have:=LMc20.out;omega);intro v1073 w30 ho hb hg hat;rw [← Ny1072.out] at ho;have n0_:=As_ (Kd.S_after (ok:=(fun k_=>some k_≠(v1067:Value).ownBlock)) (by (with_reducible repeat (first|apply Kd.S_alloc|apply Kd.S_drewN|apply Kd.S_drew));exact Kd.S_mono HO_1057000.out (fun _ hk=>⟨hk.2,fun e_=>hk.1 (e_.trans (own_len _ _ _ _))⟩)) hg hat);have n1_:=As_ (blk_grown (g:=gb1047) (o:=.cells #[.slice none 0 0,.int .i64 0] 25 (0,0)) (zk_ BK1047.out) hg (Kd.R_ne HO1071.out BK1047.out (by decide)));have n2_:=As_ (blk_grown (g:=gb1056) (o:=.cells #[.slice Ao8 t1051.length co8,.int .i64 t1054] 25 (0,0)) (zk_ BK1056.out) hg (Kd.R_ne HO1071.out BK1056.out (by decide)));have n3_:=As_ (IsS74.grown (zi74_2 HI1050.out NB1050_1047.out NB1050_1056.out) hg (IsS74.own_ne HI1050.out HO1071.out (by decide)));have n4_:=As_ (Kd.R_after (ok:=(fun _=>True)) (zR_ (Kd.R_mono (ok':=fun k=>True∧some k≠(Value.slice Ao25 y1069.length co25:Value).ownBlock) HO1068.out (fun _ h_=>⟨h_.1,fun e_=>h_.2 (e_.trans (own_len _ _ _ _))⟩))) hg hat);have n5_:=As_ (hb);have n6_:=As_ (ho);clear HO_1057000 BK1047 BK1056 HI1050 HO1068 HB HO1071;revert n0_ n1_ n2_ n3_ n4_ n5_ n6_;intro HO_1057000 BK1047 BK1056 HI1050 HO1068 HB HO1074;clear ho hb hg hat;obtain ⟨Ao32,co32,eo32⟩:=Kd.R_slice HO1068.out;subst eo32)|((with_reducible refine gate_builtin (b:=.append) (xs:=#[.tmp 36,.tmp 37]) rfl ?_);at_builtin;refine Kd.R_append_rows (Kd.int .i64) (w0:=w) w.heap.size rfl (.tmp 36) (.tmp 37) 26 3 (.int .i64 0) 8 rfl Try.underlying26 info3 rfl (by decide) (by omega) v1073 y1072 t1066 _ _ _ (fun k_=>some k_≠(.slice Ao32 t1066.length co32:Value).ownBlock) (fun _=>False) rfl rfl ?aO ?aR (fun _ _ h=>h) (fun _ h=>h.elim) ?aF ?aB ?aS ?aL ?_;(case aR=>exact zC_ (Kd.R_reads' HO1068.out).2.2);(case aB=>exact (zb3 HB.out (IsS74.ge HI1050.out) GE1047.out GE1056.out));(case aF=>exact (fun k_ hk=>Kd.fresh' (Kd.R_lt (zR_ HO1068.out)) k_ hk));(case aO=>exact (zR_ HO1074.out));(case aS=>exact (bwZ (zb3 HB.out (IsS74.ge HI1050.out) GE1047.out GE1056.out)));(case aL=>have:=LMc21.out;omega);intro v1076 w31 ho hb hg hat;rw [← Ny1075.out] at ho;have n0_:=As_ (Kd.S_after (ok:=(fun k_=>some k_≠(.slice Ao32 t1066.length co32:Value).ownBlock)) (zS_ HO_1057000.out) hg hat);have n1_:=As_ (blk_grown (g:=gb1047) (o:=.cells #[.slice none 0 0,.int .i64 0] 25 (0,0)) (zk_ BK1047.out) hg (Kd.R_ne HO1074.out BK1047.out (by decide)));have n2_:=As_ (blk_grown (g:=gb1056) (o:=.cells #[.slice Ao8 t1051.length co8,.int .i64 t1054] 25 (0,0)) (zk_ BK1056.out) hg (Kd.R_ne HO1074.out BK1056.out (by decide)));have n3_:=As_ (IsS74.grown (zi74_2 HI1050.out NB1050_1047.out NB1050_1056.out) hg (IsS74.own_ne HI1050.out HO1074.out (by decide)));have n4_:=As_ (Kd.R_after (ok:=(fun _=>True)) (zR_ HO1068.out) hg hat);have n5_:=As_ (hb);have n6_:=As_ (ho);clear HO_1057000 BK1047 BK1056 HI1050 HO1068 HB HO1074;revert n0_ n1_ n2_ n3_ n4_ n5_ n6_;intro HO_1057000 BK1047 BK1056 HI1050 HO1068 HB HO1077;clear ho hb hg hat))
    go_roundg k1
    case measure=>have:=HK1.out;omega
    case rel=>exact ⟨(y1075),(wrap64 (x7_1+1)),(t1061),zT_,H',⟨by have:=HK1.out;omega⟩,⟨by (with_reducible repeat (first|apply Kd.R_alloc|apply Kd.R_drewN|apply Kd.R_drew));exact Kd.R_mono HO1077.out (fun _ hk=>trivial)⟩,⟨by (with_reducible repeat (first|apply Kd.S_alloc|apply Kd.S_drewN|apply Kd.S_drew));exact Kd.S_mono HO_1057000.out (fun _ hk=>hk.2)⟩,⟨by (with_reducible repeat first|apply bkN|apply bkD|apply bkA);exact BK1047.out⟩,⟨by (with_reducible repeat first|apply bkN|apply bkD|apply bkA);exact BK1056.out⟩,⟨zi74_2 HI1050.out NB1050_1047.out NB1050_1056.out⟩,⟨zb3 HB.out (IsS74.ge HI1050.out) GE1047.out GE1056.out⟩⟩
   rw [if_neg c14] at H
   have c14b0:decide (x7_1<(t1051.length:Int))=false:=deF c14
   clear c14
   replace H:=obS H
   obtain ⟨⟨t1078,t1079⟩,A330,H⟩:=H
   replace H:(if t1078=0 then (if 0≤(wrap64 ((x6_1.length:Int) - 1)) then (if (wrap64 ((x6_1.length:Int) - 1))<(x6_1.length:Int) then ((spec_reader_one.f k1 t1048 t1079 (([(-1),(t1051.length:Int),rd x6_1 (wrap64 ((x6_1.length:Int) - 1))]:List Int))).bind fun bt1084=>(if 0<(x6_1.length:Int) then (some (t1051,t1054,(x6_1.set (0:Int).toNat bt1084.1))) else (none))) else (none)) else (none)) else (some (t1051,t1054,x6_1)))=some (r1,r2,r3):=H
   have A33:=As_ A330
   clear A330
   by_cases c34:t1078=0
   rotate_left
   ·rw [if_neg c34] at H
    have c34b0:(t1078 == 0)=false:=beq_eq_false_iff_ne.mpr c34
    have c34b1:(t1078 != 0)=true:=bne_iff_ne.mpr c34
    simp only [Option.some.injEq,Prod.mk.injEq] at H
    obtain ⟨rfl,rfl,rfl⟩:=H
    have hnb56:=NB1056_1047.out
    have hnc56:=NB1047_1056.out
    have hnb57:=NB1056_1050.out
    have hnc57:=NB1050_1056.out
    obtain ⟨hcz58_0,hcz58_1,hfz58_0,hfz58_1⟩:=bk2 BK1056.out
    go_wp2_with (first|((with_reducible refine gate_callee (f:=65) rfl ?_);refine goesL_ (some 40) rfl rfl Try.func65 (by kernel_rfl) rfl #[.pointer (some ⟨g1050,0,none⟩),.int .i64 12] rfl zM_ ?_;(with_reducible refine (spec_reader_pick.calls k1 g1050 t1048 x1051001_1 12 t1078 t1079 w _ ?side1 ?side2 A33.out).mono ?_);(case side1=>exact zi74_2 HI1050.out NB1050_1047.out NB1050_1056.out);(case side2=>exact zb3 HB.out (IsS74.ge HI1050.out) GE1047.out GE1056.out);rintro e w59 ⟨rfl,hi,hb,hk⟩;refine ⟨_,rfl,?_⟩;have n0_:=As_ (Kd.R_mono (Kd.R_keep (IsS74.apart (show IsS74 w _ g1050 t1048 x1051001_1 from zi74_2 HI1050.out NB1050_1047.out NB1050_1056.out) (zR_ HO_6.out) (by decide)) hk (fun _ h=>h.2)) (fun _ h=>h.1));have n1_:=As_ (Kd.S_mono (Kd.S_keep (IsS74.apartS (show IsS74 w _ g1050 t1048 x1051001_1 from zi74_2 HI1050.out NB1050_1047.out NB1050_1056.out) (zS_ HO_1057000.out) (by decide)) hk (fun _ h=>h.2)) (fun _ h=>h.1));have n2_:=As_ (KeepBut.blk hk (g':=gb1047) (o:=.cells #[.slice none 0 0,.int .i64 0] 25 (0,0)) (zk_ BK1047.out) NB1047_1050.out (by simp));have n3_:=As_ (KeepBut.blk hk (g':=gb1056) (o:=.cells #[.slice Ao8 t1051.length co8,.int .i64 t1054] 25 (0,0)) (zk_ BK1056.out) NB1056_1050.out (by simp));have n4_:=As_ (hb);have n5_:=As_ (hi);clear HO_6 HO_1057000 BK1047 BK1056 HB HI1050;revert n0_ n1_ n2_ n3_ n4_ n5_;intro HO_6 HO_1057000 BK1047 BK1056 HB HI1050;obtain ⟨hcz60_0,hcz60_1,hfz60_0,hfz60_1⟩:=bk2 BK1056.out;have hnb61:=NB1047_1050.out;have hnc61:=NB1050_1047.out;obtain ⟨hcz62_0,hcz62_1,hfz62_0,hfz62_1⟩:=bk2 BK1047.out))
    refine bodyPost_ret (results_ct rfl _ _ gb1047 25 #[.slice Ao8 t1051.length co8,.int .i64 t1054] (0,0) _ rfl (by (with_reducible repeat first|apply bkN|apply bkD|apply bkA);refine blk_put (cs:=#[.slice Ao8 t1051.length co8,.int .i64 0]) ?_ 1 _ rfl;(with_reducible repeat first|apply bkN|apply bkD|apply bkA);refine blk_put (cs:=#[.slice none 0 0,.int .i64 0]) ?_ 0 _ rfl;(with_reducible repeat first|apply bkN|apply bkD|apply bkA);exact BK1047.out) Try.underlying25 rfl (by kernel_rfl)) rfl ?_
    exact ⟨_,_,zE_,by (with_reducible repeat (first|apply Kd.S_alloc|apply Kd.S_drewN|apply Kd.S_drew));exact Kd.S_mono (Kd.S_far (p:=⟨gb1047,1,none⟩) (Kd.S_far (p:=⟨gb1047,0,none⟩) (Kd.S_types HO_1057000.out BK1047.out (by decide)) (fun _ hk=>hk.2) (.slice Ao8 t1051.length co8)) (fun _ hk=>hk.2) (.int .i64 t1054)) (fun _ hk=>hk.1),by (with_reducible repeat (first|apply Kd.R_alloc|apply Kd.R_drewN|apply Kd.R_drew));exact Kd.R_mono (Kd.R_far (p:=⟨gb1047,1,none⟩) (Kd.R_far (p:=⟨gb1047,0,none⟩) (Kd.R_types HO_6.out BK1047.out (by decide)) (fun _ hk=>hk.2) (.slice Ao8 t1051.length co8)) (fun _ hk=>hk.2) (.int .i64 t1054)) (fun _ hk=>trivial),zb3 HB.out (IsS74.ge HI1050.out) GE1047.out GE1056.out⟩
   rw [if_pos c34] at H
   have c34b0:(t1078 == 0)=true:=beq_iff_eq.mpr c34
   have c34b1:(t1078 != 0)=false:=bne_eq_false_iff_eq.mpr c34
   clear c34
   obtain ⟨ji35,hji35⟩:∃ j_:Int,(wrap64 ((x6_1.length:Int) - 1))=j_:=⟨_,rfl⟩
   replace H:(if 0≤(ji35) then (if (ji35)<(x6_1.length:Int) then ((spec_reader_one.f k1 t1048 t1079 (([(-1),(t1051.length:Int),rd x6_1 (ji35)]:List Int))).bind fun bt1084=>(if 0<(x6_1.length:Int) then (some (t1051,t1054,(x6_1.set (0:Int).toNat bt1084.1))) else (none))) else (none)) else (none))=some (r1,r2,r3):=by first|(rw [hji35] at H;exact H)|(simp only [hji35] at H ⊢;exact H)
   (try rw [hji35] at A33)
   have hji35w:(IntKind.i64.wrap ((x6_1.length:Int) - 1))=ji35:=(i64_w _).trans hji35
   by_cases c36:0≤(ji35)
   rotate_left
   ·rw [if_neg c36] at H
    exact absurd H (by simp)
   rw [if_pos c36] at H
   have c36b0:decide (0≤(ji35))=true:=deT c36
   clear c36
   by_cases c37:(ji35)<(x6_1.length:Int)
   rotate_left
   ·rw [if_neg c37] at H
    exact absurd H (by simp)
   rw [if_pos c37] at H
   have c37b0:decide ((ji35)<(x6_1.length:Int))=true:=deT c37
   clear c37
   obtain ⟨y1081,hy1081⟩:∃ y_:List Int,y_=(([(-1),(t1051.length:Int),rd x6_1 (ji35)]:List Int)):=⟨_,rfl⟩
   replace H:((spec_reader_one.f k1 t1048 t1079 y1081).bind fun bt1084=>(if 0<(x6_1.length:Int) then (some (t1051,t1054,(x6_1.set (0:Int).toNat bt1084.1))) else (none)))=some (r1,r2,r3):=zH_ H hy1081
   have Ny1081:=As_ hy1081
   clear hy1081
   replace H:=obS H
   obtain ⟨⟨t1084,t1085⟩,A380,H⟩:=H
   replace H:(if 0<(x6_1.length:Int) then (some (t1051,t1054,(x6_1.set (0:Int).toNat t1084))) else (none))=some (r1,r2,r3):=H
   have A38:=As_ A380
   clear A380
   by_cases c39:0<(x6_1.length:Int)
   rotate_left
   ·rw [if_neg c39] at H
    exact absurd H (by simp)
   rw [if_pos c39] at H
   have c39b0:decide (0<(x6_1.length:Int))=true:=deT c39
   have c39b1:decide (0<x6_1.length)=true:=deT (by omega)
   clear c39
   obtain ⟨y1086,hy1086⟩:∃ y_:List Int,y_=(x6_1.set (0:Int).toNat t1084):=⟨_,rfl⟩
   replace H:(some (t1051,t1054,y1086))=some (r1,r2,r3):=zH_ H hy1086
   have Ny1086:=As_ hy1086
   clear hy1086
   simp only [Option.some.injEq,Prod.mk.injEq] at H
   obtain ⟨rfl,rfl,rfl⟩:=H
   have hnb41:=NB1056_1047.out
   have hnc41:=NB1047_1056.out
   have hnb42:=NB1056_1050.out
   have hnc42:=NB1050_1056.out
   obtain ⟨hcz43_0,hcz43_1,hfz43_0,hfz43_1⟩:=bk2 BK1056.out
   try go_wp2_with (first|((with_reducible refine gate_callee (f:=65) rfl ?_);refine goesL_ (some 40) rfl rfl Try.func65 (by kernel_rfl) rfl #[.pointer (some ⟨g1050,0,none⟩),.int .i64 12] rfl zM_ ?_;(with_reducible refine (spec_reader_pick.calls k1 g1050 t1048 x1051001_1 12 t1078 t1079 w _ ?side1 ?side2 A33.out).mono ?_);(case side1=>exact zi74_2 HI1050.out NB1050_1047.out NB1050_1056.out);(case side2=>exact zb3 HB.out (IsS74.ge HI1050.out) GE1047.out GE1056.out);rintro e w44 ⟨rfl,hi,hb,hk⟩;refine ⟨_,rfl,?_⟩;have n0_:=As_ (Kd.R_mono (Kd.R_keep (IsS74.apart (show IsS74 w _ g1050 t1048 x1051001_1 from zi74_2 HI1050.out NB1050_1047.out NB1050_1056.out) (zR_ HO_6.out) (by decide)) hk (fun _ h=>h.2)) (fun _ h=>h.1));have n1_:=As_ (Kd.S_mono (Kd.S_keep (IsS74.apartS (show IsS74 w _ g1050 t1048 x1051001_1 from zi74_2 HI1050.out NB1050_1047.out NB1050_1056.out) (zS_ HO_1057000.out) (by decide)) hk (fun _ h=>h.2)) (fun _ h=>h.1));have n2_:=As_ (KeepBut.blk hk (g':=gb1047) (o:=.cells #[.slice none 0 0,.int .i64 0] 25 (0,0)) (zk_ BK1047.out) NB1047_1050.out (by simp));have n3_:=As_ (KeepBut.blk hk (g':=gb1056) (o:=.cells #[.slice Ao8 t1051.length co8,.int .i64 t1054] 25 (0,0)) (zk_ BK1056.out) NB1056_1050.out (by simp));have n4_:=As_ (hb);have n5_:=As_ (hi);clear HO_6 HO_1057000 BK1047 BK1056 HB HI1050;revert n0_ n1_ n2_ n3_ n4_ n5_;intro HO_6 HO_1057000 BK1047 BK1056 HB HI1050))
   have n0_:=As_ (Kd.R_drew HO_6.out)
   have n1_:=As_ (Kd.S_drew HO_1057000.out)
   have n2_:=As_ (bkD BK1047.out)
   have n3_:=As_ (bkD BK1056.out)
   have n4_:=As_ (IsS74.drew HI1050.out)
   have n5_:=As_ (bwD HB.out)
   clear HO_6 HO_1057000 BK1047 BK1056 HI1050 HB
   revert n0_ n1_ n2_ n3_ n4_ n5_;intro HO_6 HO_1057000 BK1047 BK1056 HI1050 HB
   obtain ⟨Ao46,co46,eo46⟩:=Kd.R_slice HO_6.out
   (first|subst eo46|(injection eo46 with f1_ f2_ f3_;have f4_:=f1_.symm;have f5_:=f3_.symm;clear f1_ f2_ f3_;subst f4_;subst f5_))
   have p1080:0≤((ji35):Int):=odT zA_
   have q1080:(ji35)<(x6_1.length:Int):=odT zA_
   obtain ⟨ad1080,e1080,hx1080_0⟩:=Kd.at_int (Kd.R_reads' HO_6.out).2.2 (ji35) p1080 q1080
   cases e1080
   replace p1080:=eq_true p1080
   replace q1080:=eq_true q1080
   refine start_ (n:=15) (S:=fun w'=>w'.cell? ⟨gb1056,0,none⟩=some (.slice Ao8 t1051.length co8)∧w'.cell? ⟨gb1056,1,none⟩=some (.int .i64 t1054)∧w'.cell? (ad1080.add ((ji35)).toNat)=some (.int .i64 (rd x6_1 (ji35)))) (ds:=[14]) (bl_ 0 15) (by kernel_rfl) rfl rfl ⟨(bkC BK1056.out 0).trans rfl,(bkC BK1056.out 1).trans rfl,hx1080_0⟩ (fun hHeld=>?_);refine with_tabW spec_DrawRenumberGraph.tab11 spec_DrawRenumberGraph.bits11 (fun HT_ HW_=>?_)
   generalize w44.drew=w45 at HO_6 HO_1057000 BK1047 BK1056 HI1050 HB hx1080_0 hHeld ⊢
   refine pQ 0 42 (bl_ 1 15) HT_ rfl ?_
   refine pQ 1 43 (bl_ 3 15) HT_ rfl ?_
   refine pQ 2 44 (bl_ 7 15) HT_ rfl ?_
   refine pQ 5 47 (bl_ 39 15) HT_ rfl ?_
   refine pQ 6 48 (bl_ 103 15) HT_ rfl ?_
   refine pQ 7 49 (bl_ 231 15) HT_ rfl ?_
   refine pQ 8 50 (bl_ 487 15) HT_ rfl ?_
   refine pQ 9 51 (bl_ 999 15) HT_ rfl ?_
   refine tP 3 45 (bl_ 1007 15) ?_ HT_ HW_ rfl (.inl ⟨by rfl,?_⟩) hHeld ?_ ?_ ?_;rotate_left;(rintro w' ⟨s0,s1,s2⟩;go_simp;with_reducible rfl);rotate_left;(simp only [Act.put,sq_,i64_w,i32_w];rfl)
   refine pQ 4 46 (bl_ 1023 15) HT_ rfl ?_
   refine tP 10 52 (bl_ 2047 15) ?_ HT_ HW_ rfl (.inl ⟨by rfl,?_⟩) hHeld ?_ ?_ ?_;rotate_left;(rintro w' ⟨s0,s1,s2⟩;go_simp;with_reducible rfl);rotate_left;(simp only [Act.put,sq_,i64_w,i32_w];rfl)
   refine one_ (i:=11) (N:=some 53) (bl_ 4095 15) rfl rfl (one_of HT_.out (by kernel_rfl)) (by decide) (fun K hK=>?_)
   refine Kd.R_lit_step (Kd.int .i64) _ 3 ?hg (N:=53) ?hd (xs:=([(-1),(t1051.length:Int),rd x6_1 (ji35)]:List Int)) (inner:=[.int .i64 (-1),.int .i64 (t1051.length:Int),.int .i64 (rd x6_1 (ji35))]) (ok:=fun _=>True) (okp:=fun _=>True) ?hr ?hp (fun _ hk=>hk) trivial (Below.refl _ _) (Nat.le_refl _) (by simp) ?_;(case hd=>rfl);(case hg=>rfl);(case hr=>go_simp <;> rfl);(case hp=>exact (Reps.one (show Kd.M (Kd.int .i64) _ _ _ (-1) [.int .i64 (-1)] from rfl) (Reps.one (show Kd.M (Kd.int .i64) _ _ _ (t1051.length:Int) [.int .i64 (t1051.length:Int)] from rfl) (Reps.one (show Kd.M (Kd.int .i64) _ _ _ (rd x6_1 (ji35)) [.int .i64 (rd x6_1 (ji35))] from rfl) (Reps.none _ _)))))
   intro v1082 w47 ho48 hb hg_ hnew_
   have HS2_:=(hb.cell (bwL _ _ (hHeld.2.2))).trans (hHeld.2.2)
   clear hg_ hnew_
   (first|rw [← Ny1081.out] at ho48|(simp only [Int.reduceToNat] at ho48;rw [← Ny1081.out] at ho48))
   have n0_:=As_ (Kd.R_elder' (zR_ HO_6.out) (Kd.R_base ho48) hb)
   have n1_:=As_ (Kd.S_elder' (zS_ HO_1057000.out) (Kd.R_base ho48) hb)
   have n2_:=As_ (Kd.R_lower (Kd.R_new' ho48 (Kd.R_lt (zR_ HO_6.out))) (bwZ (zb3 HB.out (IsS74.ge HI1050.out) GE1047.out GE1056.out)))
   have n3_:=As_ (zkb BK1047.out hb)
   have n4_:=As_ (zkb BK1056.out hb)
   have n5_:=As_ (IsS74.below (zi74_2 HI1050.out NB1050_1047.out NB1050_1056.out) hb)
   have n6_:=As_ (bwT (zb3 HB.out (IsS74.ge HI1050.out) GE1047.out GE1056.out) hb)
   clear HO_6 HO_1057000 BK1047 BK1056 HI1050 HB
   revert n0_ n1_ n2_ n3_ n4_ n5_ n6_;intro HO_6 HO_1057000 HO1083 BK1047 BK1056 HI1050 HB
   clear hb ho48
   obtain ⟨Ao49,co49,eo49⟩:=Kd.R_slice HO1083.out
   (first|subst eo49|(injection eo49 with f1_ f2_ f3_;have f4_:=f1_.symm;have f5_:=f3_.symm;clear f1_ f2_ f3_;subst f4_;subst f5_))
   refine hK.out _ _ ⟨(bkC BK1056.out 0).trans rfl,(bkC BK1056.out 1).trans rfl,HS2_⟩ (fun hHeld=>?_)
   clear hK K
   refine norm_ (a':=?_) ?_ ?_
   rotate_left
   ·show Act.put _ (some 53) _=_
    simp only [Act.put,sq_,i64_w,i32_w]
    rfl
   refine one_ (i:=12) (N:=some 54) (bl_ 8191 15) rfl rfl (one_of HT_.out (by kernel_rfl)) (by decide) (fun K hK=>?_)
   refine goes_ Try.func67 (by kernel_rfl) rfl #[.pointer (some ⟨g1050,0,none⟩),.slice Ao49 y1081.length co49] (by rfl) rfl rfl zM_ ?_
   with_reducible refine (spec_reader_one.calls k1 g1050 t1048 t1079 _ _ y1081 t1084 t1085 w _ ?side1 ?side2 ?side3 ?side4 ?side5 A38.out).mono ?_
   (case side1=>exact zi74_2 HI1050.out NB1050_1047.out NB1050_1056.out)
   (case side2=>exact zb3 HB.out (IsS74.ge HI1050.out) GE1047.out GE1056.out)
   (case side3=>exact zC_ (Kd.R_reads' HO1083.out).2.2)
   (case side4=>exact (Kd.R_reads' HO1083.out).2.1)
   (case side5=>exact far_slice (IsS74.own_ne HI1050.out HO1083.out (by decide)))
   rintro e w50 ⟨rfl,hi,hb,hk⟩
   have HS2_:=keep_cell hk (hHeld.2.2) (by first|(rw [add_block];exact Kd.own_blk (IsS74.own_ne HI1050.out HO_6.out (by decide)))|(show (Addr.add _ _).block≠_;rw [add_block];exact Kd.own_blk (IsS74.own_ne HI1050.out HO_6.out (by decide)))|exact Kd.own_blk (IsS74.own_ne HI1050.out HO_6.out (by decide)))
   refine ⟨_,rfl,?_⟩
   have n0_:=As_ (Kd.R_mono (Kd.R_keep (IsS74.apart (show IsS74 w _ g1050 t1048 t1079 from zi74_2 HI1050.out NB1050_1047.out NB1050_1056.out) (zR_ HO_6.out) (by decide)) hk (fun _ h=>h.2)) (fun _ h=>h.1))
   have n1_:=As_ (Kd.S_mono (Kd.S_keep (IsS74.apartS (show IsS74 w _ g1050 t1048 t1079 from zi74_2 HI1050.out NB1050_1047.out NB1050_1056.out) (zS_ HO_1057000.out) (by decide)) hk (fun _ h=>h.2)) (fun _ h=>h.1))
   have n2_:=As_ (KeepBut.blk hk (g':=gb1047) (o:=.cells #[.slice none 0 0,.int .i64 0] 25 (0,0)) (zk_ BK1047.out) NB1047_1050.out (by simp))
   have n3_:=As_ (KeepBut.blk hk (g':=gb1056) (o:=.cells #[.slice Ao8 t1051.length co8,.int .i64 t1054] 25 (0,0)) (zk_ BK1056.out) NB1056_1050.out (by simp))
   have n4_:=As_ (Kd.R_mono (Kd.R_keep (IsS74.apart (show IsS74 w _ g1050 t1048 t1079 from zi74_2 HI1050.out NB1050_1047.out NB1050_1056.out) (zR_ HO1083.out) (by decide)) hk (fun _ h=>h.2)) (fun _ h=>h.1))
   have n5_:=As_ (hb)
   have n6_:=As_ (hi)
   clear HO_6 HO_1057000 BK1047 BK1056 HO1083 HB HI1050
   revert n0_ n1_ n2_ n3_ n4_ n5_ n6_;intro HO_6 HO_1057000 BK1047 BK1056 HO1083 HB HI1050
   have p40:0≤(0:Int):=(by omega)
   have q40:(0:Int)<((x6_1.length:Int):Int):=odT zA_
   have qi40:(0<x6_1.length)=True:=eq_true (by omega)
   obtain ⟨go40,co40,eo40,gb40,gl40,cl40,HG40⟩:=Kd.R_form HO_6.out (by omega)
   (first|cases eo40|(injection eo40 with ea_ en_ ec_;(first|subst ea_|(injection ea_ with ea_;subst ea_));subst ec_;clear en_))
   have GB40:=As_ gb40
   have GG40:=As_ HG40
   clear gb40 gl40 HG40
   (first|simp only [add_plain] at hx1080_0|skip)
   obtain ⟨hx40_0,hf40_0⟩:=Kd.R_celln 0 HO_6.out (0:Int) p40 q40
   (try rw [show ((0:Int)).toNat=0 from rfl] at hx40_0)
   (try simp only [Nat.reduceMul,Nat.zero_mul,Nat.zero_add,Nat.reduceAdd] at hx40_0)
   (try rw [show ((0:Int)).toNat=0 from rfl] at hf40_0)
   (try simp only [Nat.reduceMul,Nat.zero_mul,Nat.zero_add,Nat.reduceAdd] at hf40_0)
   replace p40:=eq_true p40
   replace q40:=eq_true q40
   have HN1050_go40:=As_ (show g1050≠go40 from by have h_:=IsS74.own_ne HI1050.out HO_6.out (by decide);intro e_;exact h_ (by rw [e_];rfl))
   have HP51:=Kd.R_putn HO_6.out (0:Int) t1084
   rw [← Ny1086.out] at HP51
   have HQ51:=As_ HP51
   clear HP51
   refine hK.out _ _ ⟨(bkC BK1056.out 0).trans rfl,(bkC BK1056.out 1).trans rfl,HS2_⟩ (fun hHeld=>?_)
   clear hK K
   refine norm_ (a':=?_) ?_ ?_
   rotate_left
   ·show Act.put _ (some 54) _=_
    simp only [Act.put,sq_,i64_w,i32_w]
    rfl
   refine pQ 13 55 (bl_ 16383 15) HT_ rfl ?_
   refine last_ (i:=14) (N:=none) (bl_ 32767 15) rfl rfl (one_of HT_.out (by kernel_rfl)) (by decide) (fun K hK=>?_)
   refine skip_ (w1:=?_) (by rfl) rfl ?_ ?_
   rotate_left
   ·go_simp
    rfl
   refine hK.out _ _ ?_
   clear hK K
   refine done_ (done_of HT_.out (by kernel_rfl)) ?_
   have n0_:Aside0 (Kd.R (Kd.int .i64) 3 (w50.setCell ⟨go40,0,none⟩ (.int .i64 t1084)) w.heap.size (fun k_=>some k_≠(.slice Ao49 y1081.length co49:Value).ownBlock) (.slice (some ⟨go40,0,none⟩) x6_1.length co46) y1086):=⟨by (with_reducible repeat (first|apply Kd.R_alloc|apply Kd.R_drewN|apply Kd.R_drew));exact Kd.R_mono HQ51.out (fun _ hk=>hk.2)⟩
   have n1_:Aside0 (Kd.S k58 58 (w50.setCell ⟨go40,0,none⟩ (.int .i64 t1084)) w.heap.size (fun k_=>some k_≠(.slice (some ⟨go40,0,none⟩) x6_1.length co46:Value).ownBlock∧some k_≠(.slice Ao49 y1081.length co49:Value).ownBlock) (.slice Ao8 t1051.length co8) t1051):=⟨by (with_reducible repeat (first|apply Kd.S_alloc|apply Kd.S_drewN|apply Kd.S_drew));exact Kd.S_mono (Kd.S_far (p:=⟨go40,0,none⟩) (Kd.S_mono HO_1057000.out (fun k_ hk=>(⟨hk,fun e_=>hk.1 (by rw [e_];rfl)⟩:_∧k_≠go40))) (fun _ hk=>hk.2) (.int .i64 t1084)) (fun _ hk=>⟨hk.1.1,hk.1.2⟩)⟩
   have n2_:Aside0 (Kd.R (Kd.int .i64) 3 (w50.setCell ⟨go40,0,none⟩ (.int .i64 t1084)) w.heap.size (fun k_=>some k_≠(.slice (some ⟨go40,0,none⟩) x6_1.length co46:Value).ownBlock) (.slice Ao49 y1081.length co49) y1081):=⟨by (with_reducible repeat (first|apply Kd.R_alloc|apply Kd.R_drewN|apply Kd.R_drew));exact Kd.R_mono (Kd.R_far (p:=⟨go40,0,none⟩) (Kd.R_mono HO1083.out (fun k_ hk=>(⟨hk,fun e_=>hk.2 (by rw [e_];rfl)⟩:_∧k_≠go40))) (fun _ hk=>hk.2) (.int .i64 t1084)) (fun _ hk=>hk.1.2)⟩
   have n3_:Aside0 ((w50.setCell ⟨go40,0,none⟩ (.int .i64 t1084)).heap[gb1047]?=some (.cells #[.slice none 0 0,.int .i64 0] 25 (0,0))):=⟨by (with_reducible repeat first|apply bkN|apply bkD|apply bkA);refine blk_far ?_ (by have h_:=Kd.R_ne HO_6.out BK1047.out (by decide);intro e_;exact h_ (by rw [e_];rfl)) _;(with_reducible repeat first|apply bkN|apply bkD|apply bkA);exact BK1047.out⟩
   have n4_:Aside0 ((w50.setCell ⟨go40,0,none⟩ (.int .i64 t1084)).heap[gb1056]?=some (.cells #[.slice Ao8 t1051.length co8,.int .i64 t1054] 25 (0,0))):=⟨by (with_reducible repeat first|apply bkN|apply bkD|apply bkA);refine blk_far ?_ (by have h_:=Kd.R_ne HO_6.out BK1056.out (by decide);intro e_;exact h_ (by rw [e_];rfl)) _;(with_reducible repeat first|apply bkN|apply bkD|apply bkA);exact BK1056.out⟩
   have n5_:Aside0 (IsS74 w (w50.setCell ⟨go40,0,none⟩ (.int .i64 t1084)) g1050 t1048 t1085):=⟨zi74_3 HI1050.out HN1050_go40.out NB1050_1047.out NB1050_1056.out⟩
   have n6_:Aside0 (Below w.heap.size w (w50.setCell ⟨go40,0,none⟩ (.int .i64 t1084))):=⟨zb4 HB.out GB40.out (IsS74.ge HI1050.out) GE1047.out GE1056.out⟩
   generalize (w50.setCell ⟨go40,0,none⟩ (.int .i64 t1084))=w52 at n0_ n1_ n2_ n3_ n4_ n5_ n6_ ⊢
   revert n0_ n1_ n2_ n3_ n4_ n5_ n6_;intro HO_6 HO_1057000 HO1083 BK1047 BK1056 HI1050 HB
   obtain ⟨hcz53_0,hcz53_1,hfz53_0,hfz53_1⟩:=bk2 BK1056.out
   have hnb54:=NB1047_1050.out
   have hnc54:=NB1050_1047.out
   obtain ⟨hcz55_0,hcz55_1,hfz55_0,hfz55_1⟩:=bk2 BK1047.out
   try go_wp2
   refine bodyPost_ret (results_ct rfl _ _ gb1047 25 #[.slice Ao8 t1051.length co8,.int .i64 t1054] (0,0) _ rfl (by (with_reducible repeat first|apply bkN|apply bkD|apply bkA);refine blk_put (cs:=#[.slice Ao8 t1051.length co8,.int .i64 0]) ?_ 1 _ rfl;(with_reducible repeat first|apply bkN|apply bkD|apply bkA);refine blk_put (cs:=#[.slice none 0 0,.int .i64 0]) ?_ 0 _ rfl;(with_reducible repeat first|apply bkN|apply bkD|apply bkA);exact BK1047.out) Try.underlying25 rfl (by kernel_rfl)) rfl ?_
   exact ⟨_,_,by first|rfl|(simp [errW_none,errW_some] <;> rfl)|(simp only [← hji35];first|rfl|(simp [errW_none,errW_some] <;> rfl))|(simp [*,errW_none,errW_some] <;> rfl),by (with_reducible repeat (first|apply Kd.S_alloc|apply Kd.S_drewN|apply Kd.S_drew));exact Kd.S_mono (Kd.S_far (p:=⟨gb1047,1,none⟩) (Kd.S_far (p:=⟨gb1047,0,none⟩) (Kd.S_types HO_1057000.out BK1047.out (by decide)) (fun _ hk=>hk.2) (.slice Ao8 t1051.length co8)) (fun _ hk=>hk.2) (.int .i64 t1054)) (fun _ hk=>hk.1.1),by (with_reducible repeat (first|apply Kd.R_alloc|apply Kd.R_drewN|apply Kd.R_drew));exact Kd.R_mono (Kd.R_far (p:=⟨gb1047,1,none⟩) (Kd.R_far (p:=⟨gb1047,0,none⟩) (Kd.R_types HO_6.out BK1047.out (by decide)) (fun _ hk=>hk.2) (.slice Ao8 t1051.length co8)) (fun _ hk=>hk.2) (.int .i64 t1054)) (fun _ hk=>trivial),zb3 HB.out (IsS74.ge HI1050.out) GE1047.out GE1056.out⟩
end Go.Proofs.Ytapaegcombfafaa.Q
