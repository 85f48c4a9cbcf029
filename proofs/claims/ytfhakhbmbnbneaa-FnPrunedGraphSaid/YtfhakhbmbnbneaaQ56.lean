import Derived.Test.YtfhakhbmbnbneaaQ0
import Derived.Test.YtfhakhbmbnbneaaQ48
import Derived.Test.YtfhakhbmbnbneaaQ73
import Derived.Test.YtfhakhbmbnbneaaQ81
namespace Go.Proofs.Ytfhakhbmbnbneaa.Q
open Go.RowKit Go.Proofs.YtfhakhbmbnbneaaW.PrintWords Go.Proofs.YtfhakhbmbnbneaaW.PrintLast Go.Proofs.YtfhakhbmbnbneaaW.PrintMore
attribute [local go_sem] max2_int min2_int max_two min_two max_three min_three max_four min_four
set_option linter.unusedVariables false
set_option linter.unusedSimpArgs false
mutual
def spec_pruned.l0:Nat→List Int→Int→List (S45)→Int→List (S45)→Int→Option ((List (S45)) × Int)
 | 0,_,_,_,_,_,_=>none
 | k+1,x3,x5,x416000,x416001,x424000,x424001=>if x5<(x3.length:Int) then (if 0≤x5 then (if 0≤(rd x3 x5) then (if (rd x3 x5)<(x416000.length:Int) then (spec_pruned.l1 k x3 x5 0 x416000 x416001 x424000 x424001 ((rd_T45 x416000 (rd x3 x5)).f0) ((rd_T45 x416000 (rd x3 x5)).f1) ((rd_T45 x416000 (rd x3 x5)).f2) ((rd_T45 x416000 (rd x3 x5)).f0) ((rd_T45 x416000 (rd x3 x5)).f1) ([]:List Int)) else (none)) else (none)) else (none)) else (some (x424000,x424001))
def spec_pruned.l1:Nat→List Int→Int→Int→List (S45)→Int→List (S45)→Int→Int→Int→List Int→Int→Int→List Int→Option ((List (S45)) × Int)
 | 0,_,_,_,_,_,_,_,_,_,_,_,_,_=>none
 | k+1,x3,x5,x8,x416000,x416001,x424000,x424001,x427000,x427001,x427002,x428000,x428001,x428002=>if x8<(x427002.length:Int) then (if 0≤x8 then ((spec_placeIn.f k x3 (rd x427002 x8)).bind fun t429=>(if x428002.length<17592186044416 then (spec_pruned.l1 k x3 x5 (wrap64 (x8+1)) x416000 x416001 x424000 x424001 x427000 x427001 x427002 x428000 x428001 (x428002++[t429])) else (none))) else (none)) else (if x424000.length<3518437208883 then (spec_pruned.l0 k x3 (wrap64 (x5+1)) x416000 x416001 (x424000++[(⟨x428000,x428001,x428002⟩:S45)]) x424001) else (none))
end
def spec_pruned.f (k:Nat) (l0_0:List (S45)) (a0_1:Int):Option ((List (S45)) × Int):=(spec_reach.f k l0_0 a0_1 a0_1 (([]:List Int))).bind fun t420=>(spec_pruned.l0 k t420 0 l0_0 a0_1 ([]:List (S45)) 0)
set_option maxRecDepth 100000 in
theorem spec_pruned.mono_l:∀ k,(∀ y0 y1 y2 y3 y4 y5,LeO (spec_pruned.l0 k y0 y1 y2 y3 y4 y5) (spec_pruned.l0 (k+1) y0 y1 y2 y3 y4 y5))∧(∀ y0 y1 y2 y3 y4 y5 y6 y7 y8 y9 y10 y11 y12,LeO (spec_pruned.l1 k y0 y1 y2 y3 y4 y5 y6 y7 y8 y9 y10 y11 y12) (spec_pruned.l1 (k+1) y0 y1 y2 y3 y4 y5 y6 y7 y8 y9 y10 y11 y12))
 | 0=>⟨fun _ _ _ _ _ _ r h=>(by cases h),fun _ _ _ _ _ _ _ _ _ _ _ _ _ r h=>(by cases h)⟩
 | k+1=>by
  obtain ⟨ih0,ih1⟩:=spec_pruned.mono_l k
  refine ⟨?_,?_⟩
  ·intro y0 y1 y2 y3 y4 y5
   unfold spec_pruned.l0
   repeat' first
   | (with_reducible exact ih0 _ _ _ _ _ _)
   | (with_reducible exact ih1 _ _ _ _ _ _ _ _ _ _ _ _ _)
   | (with_reducible exact spec_placeIn.mono _ _ _)
   | (with_reducible exact spec_reach.mono _ _ _ _ _)
   | (with_reducible exact LeO.refl _)
   | (with_reducible exact LeO.none _)
   | (with_reducible refine LeO.ite ?_ ?_)
   | (with_reducible refine LeO.bind ?_ (fun _=>?_))
   | exact ih0 _ _ _ _ _ _
   | exact ih1 _ _ _ _ _ _ _ _ _ _ _ _ _
   | exact spec_placeIn.mono _ _ _
   | exact spec_reach.mono _ _ _ _ _
   | exact LeO.none _
   | refine LeO.ite ?_ ?_
   | refine LeO.bind ?_ (fun _=>?_)
  ·intro y0 y1 y2 y3 y4 y5 y6 y7 y8 y9 y10 y11 y12
   unfold spec_pruned.l1
   repeat' first
   | (with_reducible exact ih0 _ _ _ _ _ _)
   | (with_reducible exact ih1 _ _ _ _ _ _ _ _ _ _ _ _ _)
   | (with_reducible exact spec_placeIn.mono _ _ _)
   | (with_reducible exact spec_reach.mono _ _ _ _ _)
   | (with_reducible exact LeO.refl _)
   | (with_reducible exact LeO.none _)
   | (with_reducible refine LeO.ite ?_ ?_)
   | (with_reducible refine LeO.bind ?_ (fun _=>?_))
   | exact ih0 _ _ _ _ _ _
   | exact ih1 _ _ _ _ _ _ _ _ _ _ _ _ _
   | exact spec_placeIn.mono _ _ _
   | exact spec_reach.mono _ _ _ _ _
   | exact LeO.none _
   | refine LeO.ite ?_ ?_
   | refine LeO.bind ?_ (fun _=>?_)
set_option maxRecDepth 100000 in
theorem spec_pruned.mono:∀ a0 a1 k,LeO (spec_pruned.f k a0 a1) (spec_pruned.f (k+1) a0 a1):=by
 intro a0 a1 k
 obtain ⟨ih0,ih1⟩:=spec_pruned.mono_l k
 unfold spec_pruned.f
 repeat' first
   | (with_reducible exact ih0 _ _ _ _ _ _)
   | (with_reducible exact ih1 _ _ _ _ _ _ _ _ _ _ _ _ _)
   | (with_reducible exact spec_placeIn.mono _ _ _)
   | (with_reducible exact spec_reach.mono _ _ _ _ _)
   | (with_reducible exact LeO.refl _)
   | (with_reducible exact LeO.none _)
   | (with_reducible refine LeO.ite ?_ ?_)
   | (with_reducible refine LeO.bind ?_ (fun _=>?_))
   | exact ih0 _ _ _ _ _ _
   | exact ih1 _ _ _ _ _ _ _ _ _ _ _ _ _
   | exact spec_placeIn.mono _ _ _
   | exact spec_reach.mono _ _ _ _ _
   | exact LeO.none _
   | refine LeO.ite ?_ ?_
   | refine LeO.bind ?_ (fun _=>?_)
def spec_pruned.T6:Bool × List (List Nat × List Nat):=(true,[([],[]),([0],[0]),([],[]),([],[]),([2,3],[2,3]),([4],[4]),([1,5],[1,5]),([6],[6]),([],[]),([8,7,0,1,2,3,4,5,6,7,8],[7,8])])
def spec_pruned.B6:List Nat:=[0,1,0,0,12,28,63,127,0,511]
theorem spec_pruned.tab6:rtab .any (opsOf Try.f56 6)=spec_pruned.T6:=by kernel_rfl
theorem spec_pruned.bits6:waitsOk spec_pruned.T6.2 spec_pruned.B6=true:=by kernel_rfl
def spec_pruned.T11:Bool × List (List Nat × List Nat):=(true,[([],[]),([0],[0]),([],[]),([],[]),([3],[3]),([],[]),([4,5],[4,5]),([6],[6]),([2,7],[2,7]),([8],[8]),([1,9,8],[1,9]),([0,1,2,3,4,5,6,7,8,9,10],[]),([11,10,10,0,1,2,3,4,5,6,7,8,9,10],[10,11])])
def spec_pruned.B11:List Nat:=[0,1,0,0,8,0,56,120,252,508,1023,2047,4095]
theorem spec_pruned.tab11:rtab .any (opsOf Try.f56 11)=spec_pruned.T11:=by kernel_rfl
theorem spec_pruned.bits11:waitsOk spec_pruned.T11.2 spec_pruned.B11=true:=by kernel_rfl
set_option maxHeartbeats 8000000 in
set_option maxRecDepth 100000 in
theorem spec_pruned.calls (k:Nat) (A0_0:Option Addr) (c0_0:Nat) (l0_0:List (S45)) (a0_1:Int) (r1:List (S45)) (r2:Int) (w:World) (hr0_0:Kd.C k45 w A0_0 l0_0.length l0_0) (hc0_0:l0_0.length≤c0_0) (h:spec_pruned.f k l0_0 a0_1=some (r1,r2)) :
  Calls Try.prog 56 #[.agg #[.slice A0_0 l0_0.length c0_0,.int .i64 a0_1]] w fun e w'=>∃ v0_:Value,e=.returned (.agg #[v0_,.int .i64 r2])∧Kd.S k45 45 w' w.heap.size (fun _=>True) v0_ r1∧Below w.heap.size w w':=by
 have hu29:=Try.underlying29
 have hu45:=Try.underlying45
 have HR0_0:=As_ hr0_0
 have HC0_0:=As_ hc0_0
 clear hr0_0 hc0_0
 have HB:=As_ (Below.refl w.heap.size w)
 have H:((spec_reach.f k l0_0 a0_1 a0_1 (([]:List Int))).bind fun t420=>(spec_pruned.l0 k t420 0 l0_0 a0_1 ([]:List (S45)) 0))=some (r1,r2):=h
 clear h
 obtain ⟨y417,hy417⟩:∃ y_:List Int,y_=(([]:List Int)):=⟨_,rfl⟩
 replace H:((spec_reach.f k l0_0 a0_1 a0_1 y417).bind fun t420=>(spec_pruned.l0 k t420 0 l0_0 a0_1 ([]:List (S45)) 0))=some (r1,r2):=zH_ H hy417
 have Ny417:=As_ hy417
 clear hy417
 replace H:=obS H
 obtain ⟨t420,A20,H⟩:=H
 replace H:(spec_pruned.l0 k t420 0 l0_0 a0_1 ([]:List (S45)) 0)=some (r1,r2):=H
 have A2:=As_ A20
 clear A20
 have H':=As_ H
 clear H
 go_enter Try.func56,Try.ntmps56
 go_wp2_with (first|((with_reducible refine gate_dst (N:=1) rfl ?_);refine box_event ?hg (N:=1) ?hd (cs:=#[.slice A0_0 l0_0.length c0_0,.int .i64 a0_1]) (t:=29) ?hr ?_;(case hd=>rfl);(case hg=>rfl);(case hr=>go_simp <;> rfl);intro gb415 hg w3 hbox hb;have n0_:=As_ (bwT (zb0 HB.out) hb);have n1_:=As_ (hbox);have n2_:=As_ ((by rw [hg];exact (bwZ (zb0 HB.out)):w.heap.size≤gb415));have n3_:=As_ ((by rw [hg];exact (bwZ (zb0 HB.out)):w.heap.size≤gb415));clear HB;revert n0_ n1_ n2_ n3_;intro HB BK415 GW415 GE415;clear hb hbox hg)|((with_reducible refine gate_dst (N:=2) rfl ?_);refine box_event ?hg (N:=2) ?hd (cs:=#[.slice none 0 0,.int .i64 0]) (t:=29) ?hr ?_;(case hd=>rfl);(case hg=>rfl);(case hr=>go_simp <;> rfl);intro gb416 hg w4 hbox hb;have n0_:=As_ (zkb BK415.out hb);have n1_:=As_ (bwT (zb1 HB.out GE415.out) hb);have n2_:=As_ (hbox);have n3_:=As_ ((by rw [hg];exact (bwZ (zb1 HB.out GE415.out)):w.heap.size≤gb416));have n4_:=As_ ((by rw [hg];exact (bwZ (zb1 HB.out GE415.out)):w.heap.size≤gb416));have n5_:=As_ ((by rw [hg];exact Nat.ne_of_lt (zkl BK415.out):gb415≠gb416));have n6_:=As_ ((by rw [hg];exact Nat.ne_of_gt (zkl BK415.out):gb416≠gb415));clear BK415 HB;revert n0_ n1_ n2_ n3_ n4_ n5_ n6_;intro BK415 HB BK416 GW416 GE416 NB415_416 NB416_415;clear hb hbox hg;have hnb5:=NB415_416.out;have hnc5:=NB416_415.out;obtain ⟨hcz6_0,hcz6_1,hfz6_0,hfz6_1⟩:=bk2 BK415.out)|((with_reducible refine gate_dst (N:=12) rfl ?_);refine Kd.R_lit (Kd.int .i64) _ 3 ?hg (N:=12) ?hd (xs:=([]:List Int)) (inner:=[]) (ok:=fun _=>True) (okp:=fun _=>True) ?hr ?hp (fun _ hk=>hk) trivial (Below.refl _ _) (Nat.le_refl _) (by simp) ?_;(case hd=>rfl);(case hg=>rfl);(case hr=>go_simp <;> rfl);(case hp=>exact (Reps.none _ _));intro v418 w7 ho8 hb hg_ hnew_;clear hg_ hnew_;(first|rw [← Ny417.out] at ho8|(simp only [Int.reduceToNat] at ho8;rw [← Ny417.out] at ho8));have n0_:=As_ (Kd.R_lower ho8 (bwZ (zb2 HB.out GE415.out GE416.out)));have n1_:=As_ (zkb BK415.out hb);have n2_:=As_ (zkb BK416.out hb);have n3_:=As_ (bwT (zb2 HB.out GE415.out GE416.out) hb);clear BK415 BK416 HB;revert n0_ n1_ n2_ n3_;intro HO419 BK415 BK416 HB;clear hb ho8;obtain ⟨Ao9,co9,eo9⟩:=Kd.R_slice HO419.out;subst eo9)|((with_reducible refine gate_callee (f:=73) rfl ?_);refine goesL_ (some 13) rfl rfl Try.func73 (by kernel_rfl) rfl #[.agg #[.slice A0_0 l0_0.length c0_0,.int .i64 a0_1],.int .i64 a0_1,.slice Ao9 y417.length co9] rfl zM_ ?_;(with_reducible refine (spec_reach.calls k _ _ l0_0 a0_1 a0_1 (fun k_=>some k_=(.slice Ao9 y417.length co9:Value).ownBlock) (.slice Ao9 y417.length co9) y417 t420 w _ ?side1 ?side2 ?side3 ?side4 A2.out).mono ?_);(case side1=>exact zb2 HB.out GE415.out GE416.out);(case side2=>exact Kd.C_kept_came k45_heap HR0_0.out (zb2 HB.out GE415.out GE416.out) (fun k_ hs_=>(fun e_=>Kd.R_base HO419.out k_ e_.symm) hs_));(case side3=>exact HC0_0.out);(case side4=>exact Kd.R_tight rfl HO419.out);rintro e w10 ⟨v421,rfl,ho0,hb,hkp⟩;refine ⟨_,rfl,?_⟩;have n0_:=As_ (blk_kept (zk_ BK415.out) hkp (fun hs_=>(fun e_=>(Kd.R_ne HO419.out BK415.out (by decide)) e_) hs_));have n1_:=As_ (blk_kept (zk_ BK416.out) hkp (fun hs_=>(fun e_=>(Kd.R_ne HO419.out BK416.out (by decide)) e_) hs_));have n2_:=As_ (Kd.R_mono (ok':=fun k_=>True) ho0 (fun k_ hk_=>trivial));have n3_:=As_ (hb);clear BK415 BK416 HB HO419;revert n0_ n1_ n2_ n3_;intro BK415 BK416 HO422 HB)|((with_reducible refine gate_dst (N:=4) rfl ?_);refine box_event ?hg (N:=4) ?hd (cs:=#[.slice none 0 0,.int .i64 0]) (t:=29) ?hr ?_;(case hd=>rfl);(case hg=>rfl);(case hr=>go_simp <;> rfl);intro gb423 hg w11 hbox hb;have n0_:=As_ (Kd.R_below (zR_ HO422.out) hb);have n1_:=As_ (zkb BK415.out hb);have n2_:=As_ (zkb BK416.out hb);have n3_:=As_ (bwT (zb2 HB.out GE415.out GE416.out) hb);have n4_:=As_ (hbox);have n5_:=As_ ((by rw [hg];exact (bwZ (zb2 HB.out GE415.out GE416.out)):w.heap.size≤gb423));have n6_:=As_ ((by rw [hg];exact (bwZ (zb2 HB.out GE415.out GE416.out)):w.heap.size≤gb423));have n7_:=As_ ((by rw [hg];exact Nat.ne_of_lt (zkl BK415.out):gb415≠gb423));have n8_:=As_ ((by rw [hg];exact Nat.ne_of_gt (zkl BK415.out):gb423≠gb415));have n9_:=As_ ((by rw [hg];exact Nat.ne_of_lt (zkl BK416.out):gb416≠gb423));have n10_:=As_ ((by rw [hg];exact Nat.ne_of_gt (zkl BK416.out):gb423≠gb416));clear HO422 BK415 BK416 HB;revert n0_ n1_ n2_ n3_ n4_ n5_ n6_ n7_ n8_ n9_ n10_;intro HO422 BK415 BK416 HB BK423 GW423 GE423 NB415_423 NB423_415 NB416_423 NB423_416;clear hb hbox hg;have hnb12:=NB423_415.out;have hnc12:=NB415_423.out;have hnb13:=NB423_416.out;have hnc13:=NB416_423.out;obtain ⟨hcz14_0,hcz14_1,hfz14_0,hfz14_1⟩:=bk2 BK423.out))
 go_loopg [5] k (fun kq v5 w'=>∃ (x5_1:Int) (x424000_1:List (S45)) (u424000:Value),v5=.int .i64 x5_1∧Aside0 (spec_pruned.l0 kq t420 x5_1 l0_0 a0_1 x424000_1 0=some (r1,r2))∧Aside0 (kq≤k)∧Aside0 (Kd.R (Kd.int .i64) 3 w' w.heap.size (fun _=>True) v421 t420)∧Aside0 (Kd.S k45 45 w' w.heap.size (fun k_=>some k_≠(v421:Value).ownBlock) u424000 x424000_1)∧Aside0 (w'.heap[gb415]?=some (.cells #[(.slice A0_0 l0_0.length c0_0),.int .i64 a0_1] 29 (0,0)))∧Aside0 (w'.heap[gb416]?=some (.cells #[(.slice none 0 0),.int .i64 0] 29 (0,0)))∧Aside0 (w'.heap[gb423]?=some (.cells #[u424000,.int .i64 0] 29 (0,0)))∧Aside0 (Below w.heap.size w w'))
 case atStart=>exact ⟨(0),(([]:List (S45))),(.slice none 0 0),zT_,H',⟨Nat.le_refl _⟩,⟨by (with_reducible repeat (first|apply Kd.R_alloc|apply Kd.R_drewN|apply Kd.R_drew));exact Kd.R_mono (Kd.R_far (p:=⟨gb423,1,none⟩) (Kd.R_far (p:=⟨gb423,0,none⟩) (Kd.R_types HO422.out BK423.out (by decide)) (fun _ hk=>hk.2) (.slice none 0 0)) (fun _ hk=>hk.2) (.int .i64 0)) (fun _ hk=>trivial)⟩,⟨by first|exact Kd.S_nil _ _ _ _ _|exact Kd.N_nil _ _ _ _ _|exact Kd.V_nil _ _ _ _ _|exact Kd.Q_nil _ _ _ _ _|exact Kd.R_nil _ _ _ _ _⟩,⟨by (with_reducible repeat first|apply bkN|apply bkD|apply bkA);refine blk_far ?_ NB415_423.out _;(with_reducible repeat first|apply bkN|apply bkD|apply bkA);refine blk_far ?_ NB415_423.out _;(with_reducible repeat first|apply bkN|apply bkD|apply bkA);exact BK415.out⟩,⟨by (with_reducible repeat first|apply bkN|apply bkD|apply bkA);refine blk_far ?_ NB416_423.out _;(with_reducible repeat first|apply bkN|apply bkD|apply bkA);refine blk_far ?_ NB416_423.out _;(with_reducible repeat first|apply bkN|apply bkD|apply bkA);exact BK416.out⟩,⟨by (with_reducible repeat first|apply bkN|apply bkD|apply bkA);refine blk_put (cs:=#[.slice none 0 0,.int .i64 0]) ?_ 1 _ rfl;(with_reducible repeat first|apply bkN|apply bkD|apply bkA);refine blk_put (cs:=#[.slice none 0 0,.int .i64 0]) ?_ 0 _ rfl;(with_reducible repeat first|apply bkN|apply bkD|apply bkA);exact BK423.out⟩,⟨zb3 HB.out GE415.out GE416.out GE423.out⟩⟩
 case round=>
  clear H'
  obtain ⟨x5_1,x424000_1,u424000,rfl,HA,HK1,HO_3,HO_424000,BK415,BK416,BK423,HB⟩:=hrel
  cases gk with
  | zero=>exact absurd HA.out (fun h_=>(by cases h_))
  | succ k1=>
   have H:=HA.out
   clear HA
   simp only [spec_pruned.l0] at H
   by_cases c15:x5_1<(t420.length:Int)
   rotate_left
   ·rw [if_neg c15] at H
    have c15b0:decide (x5_1<(t420.length:Int))=false:=deF c15
    clear c15
    simp only [Option.some.injEq,Prod.mk.injEq] at H
    obtain ⟨rfl,rfl⟩:=H
    obtain ⟨Ao65,co65,eo65⟩:=Kd.R_slice HO_3.out
    subst eo65
    have hnb66:=NB423_415.out
    have hnc66:=NB415_423.out
    have hnb67:=NB423_416.out
    have hnc67:=NB416_423.out
    obtain ⟨hcz68_0,hcz68_1,hfz68_0,hfz68_1⟩:=bk2 BK423.out
    obtain ⟨Ao69,co69,eo69⟩:=Kd.S_slice HO_424000.out
    subst eo69
    have hnb70:=NB416_415.out
    have hnc70:=NB415_416.out
    obtain ⟨hcz71_0,hcz71_1,hfz71_0,hfz71_1⟩:=bk2 BK416.out
    go_wp2
    refine bodyPost_ret (results_cell_row rfl _ _ gb416 29 #[.slice Ao69 x424000_1.length co69,.int .i64 0] (0,0) _ rfl (by (with_reducible repeat first|apply bkN|apply bkD|apply bkA);refine blk_put (cs:=#[.slice Ao69 x424000_1.length co69,.int .i64 0]) ?_ 1 _ rfl;(with_reducible repeat first|apply bkN|apply bkD|apply bkA);refine blk_put (cs:=#[.slice none 0 0,.int .i64 0]) ?_ 0 _ rfl;(with_reducible repeat first|apply bkN|apply bkD|apply bkA);exact BK416.out) Try.underlying29 rfl (by kernel_rfl)) rfl ?_
    exact ⟨_,zE_,by (with_reducible repeat (first|apply Kd.S_alloc|apply Kd.S_drewN|apply Kd.S_drew));exact Kd.S_mono (Kd.S_far (p:=⟨gb416,1,none⟩) (Kd.S_far (p:=⟨gb416,0,none⟩) (Kd.S_types HO_424000.out BK416.out (by decide)) (fun _ hk=>hk.2) (.slice Ao69 x424000_1.length co69)) (fun _ hk=>hk.2) (.int .i64 0)) (fun _ hk=>trivial),zb3 HB.out GE415.out GE416.out GE423.out⟩
   rw [if_pos c15] at H
   have c15b0:decide (x5_1<(t420.length:Int))=true:=deT c15
   clear c15
   by_cases c16:0≤x5_1
   rotate_left
   ·rw [if_neg c16] at H
    exact absurd H (by simp)
   rw [if_pos c16] at H
   have c16b0:decide (0≤x5_1)=true:=deT c16
   clear c16
   by_cases c17:0≤(rd t420 x5_1)
   rotate_left
   ·rw [if_neg c17] at H
    exact absurd H (by simp)
   rw [if_pos c17] at H
   have c17b0:decide (0≤(rd t420 x5_1))=true:=deT c17
   clear c17
   by_cases c18:(rd t420 x5_1)<(l0_0.length:Int)
   rotate_left
   ·rw [if_neg c18] at H
    exact absurd H (by simp)
   rw [if_pos c18] at H
   have c18b0:decide ((rd t420 x5_1)<(l0_0.length:Int))=true:=deT c18
   clear c18
   have H':=As_ H
   clear H
   obtain ⟨Ao19,co19,eo19⟩:=Kd.R_slice HO_3.out
   subst eo19
   try go_wp2
   have n0_:=As_ (Kd.R_drew HO_3.out)
   have n1_:=As_ (Kd.S_drew HO_424000.out)
   have n2_:=As_ (bkD BK415.out)
   have n3_:=As_ (bkD BK416.out)
   have n4_:=As_ (bkD BK423.out)
   have n5_:=As_ (bwD HB.out)
   clear HO_3 HO_424000 BK415 BK416 BK423 HB
   revert n0_ n1_ n2_ n3_ n4_ n5_;intro HO_3 HO_424000 BK415 BK416 BK423 HB
   have p424:0≤(x5_1:Int):=odT zA_
   have q424:x5_1<(t420.length:Int):=odT zA_
   obtain ⟨ad424,e424,hx424_0⟩:=Kd.at_int (Kd.R_reads' HO_3.out).2.2 x5_1 p424 q424
   cases e424
   replace p424:=eq_true p424
   replace q424:=eq_true q424
   have p425:0≤((rd t420 x5_1):Int):=odT zA_
   have q425:(rd t420 x5_1)<(l0_0.length:Int):=odT zA_
   obtain ⟨ad425,A425_2,c425_2,e425,hx425_0,hx425_1,hx425_2,hl425_2,hi425_2⟩:=at_T45 HR0_0.out (rd t420 x5_1) p425 q425
   have hw425_2:=hx425_2
   have hw425_1:=hx425_1
   have hw425_0:=hx425_0
   cases e425
   replace hx425_0:=bwC HB.out hx425_0
   replace hx425_1:=bwC HB.out hx425_1
   replace hx425_2:=bwC HB.out hx425_2
   have HR425_2:=As_ hi425_2
   have HC425_2:=As_ hl425_2
   clear hi425_2 hl425_2
   replace p425:=eq_true p425
   replace q425:=eq_true q425
   refine start_ (n:=10) (S:=fun w'=>w'.cell? ⟨gb415,0,none⟩=some (.slice (some ad425) l0_0.length c0_0)∧w'.cell? ⟨gb415,1,none⟩=some (.int .i64 a0_1)∧w'.cell? (ad424.add (x5_1).toNat)=some (.int .i64 (rd t420 x5_1))∧w'.cell? (ad425.add (((rd t420 x5_1)).toNat * 3))=some (.int .i64 ((rd_T45 l0_0 (rd t420 x5_1)).f0))∧w'.cell? ⟨(ad425.add (((rd t420 x5_1)).toNat * 3)).block,(ad425.add (((rd t420 x5_1)).toNat * 3)).off+1,none⟩=some (.int .i64 ((rd_T45 l0_0 (rd t420 x5_1)).f1))∧w'.cell? ⟨(ad425.add (((rd t420 x5_1)).toNat * 3)).block,(ad425.add (((rd t420 x5_1)).toNat * 3)).off+2,none⟩=some (.slice A425_2 ((rd_T45 l0_0 (rd t420 x5_1)).f2).length c425_2)) (ds:=[]) (bl_ 0 10) (by kernel_rfl) rfl rfl ⟨(bkC BK415.out 0).trans rfl,(bkC BK415.out 1).trans rfl,hx424_0,((HB.out.cell (bwL w _ hw425_0)).trans hw425_0),((HB.out.cell (bwL w _ hw425_1)).trans hw425_1),((HB.out.cell (bwL w _ hw425_2)).trans hw425_2)⟩ (fun hHeld=>?_);refine with_tabW spec_pruned.tab6 spec_pruned.bits6 (fun HT_ HW_=>?_)
   generalize wr.drew=w20 at HO_3 HO_424000 BK415 BK416 BK423 HB HR425_2 hx424_0 hx425_0 hx425_1 hx425_2 hHeld ⊢
   refine pQ 0 21 (bl_ 1 10) HT_ rfl ?_
   refine pQ 2 23 (bl_ 5 10) HT_ rfl ?_
   refine pQ 3 24 (bl_ 13 10) HT_ rfl ?_
   refine pQ 4 25 (bl_ 29 10) HT_ rfl ?_
   refine tP 1 22 (bl_ 31 10) ?_ HT_ HW_ rfl (.inl ⟨by rfl,?_⟩) hHeld ?_ ?_ ?_;rotate_left;(rintro w' ⟨s0,s1,s2,s3,s4,s5⟩;go_simp;with_reducible rfl);rotate_left;(simp only [Act.put,sq_,i64_w,i32_w];rfl)
   refine tP 5 26 (bl_ 63 10) ?_ HT_ HW_ rfl (.inl ⟨by rfl,?_⟩) hHeld ?_ ?_ ?_;rotate_left;(rintro w' ⟨s0,s1,s2,s3,s4,s5⟩;go_simp;with_reducible rfl);rotate_left;(simp only [Act.put,sq_,i64_w,i32_w];rfl)
   refine pQ 6 27 (bl_ 127 10) HT_ rfl ?_
   refine tP 7 28 (bl_ 255 10) ?_ HT_ HW_ rfl (.inl ⟨by rfl,?_⟩) hHeld ?_ ?_ ?_;rotate_left;(rintro w' ⟨s0,s1,s2,s3,s4,s5⟩;go_simp;with_reducible rfl);rotate_left;(simp only [Act.put,sq_,i64_w,i32_w];rfl)
   refine one_ (i:=8) (N:=some 6) (bl_ 511 10) rfl rfl (one_of HT_.out (by kernel_rfl)) (by decide) (fun K hK=>?_)
   refine box_step ?hg (N:=6) ?hd (cs:=#[.int .i64 0,.int .i64 0,.slice none 0 0]) (t:=45) ?hr ?_;(case hd=>rfl);(case hg=>rfl);(case hr=>go_simp <;> rfl)
   intro gb426 hg w21 hbox hb
   have HS2_:=(hb.cell (bwL _ _ (hHeld.2.2.1))).trans (hHeld.2.2.1)
   have n0_:=As_ (Kd.R_below (zR_ HO_3.out) hb)
   have n1_:=As_ (Kd.S_below (Kd.S_elderB (zS_ HO_424000.out) gb426 (Nat.le_of_eq hg.symm)) hb)
   have n2_:=As_ (zkb BK415.out hb)
   have n3_:=As_ (zkb BK416.out hb)
   have n4_:=As_ (zkb BK423.out hb)
   have n5_:=As_ (bwT (zb3 HB.out GE415.out GE416.out GE423.out) hb)
   have n6_:=As_ (hbox)
   have n7_:=As_ ((by rw [hg];exact (bwZ (zb3 HB.out GE415.out GE416.out GE423.out)):w.heap.size≤gb426))
   have n8_:=As_ ((by rw [hg];exact (bwZ (zb3 HB.out GE415.out GE416.out GE423.out)):w.heap.size≤gb426))
   have n9_:=As_ ((by rw [hg];exact Nat.ne_of_lt (zkl BK415.out):gb415≠gb426))
   have n10_:=As_ ((by rw [hg];exact Nat.ne_of_gt (zkl BK415.out):gb426≠gb415))
   have n11_:=As_ ((by rw [hg];exact Nat.ne_of_lt (zkl BK416.out):gb416≠gb426))
   have n12_:=As_ ((by rw [hg];exact Nat.ne_of_gt (zkl BK416.out):gb426≠gb416))
   have n13_:=As_ ((by rw [hg];exact Nat.ne_of_lt (zkl BK423.out):gb423≠gb426))
   have n14_:=As_ ((by rw [hg];exact Nat.ne_of_gt (zkl BK423.out):gb426≠gb423))
   clear HO_3 HO_424000 BK415 BK416 BK423 HB
   revert n0_ n1_ n2_ n3_ n4_ n5_ n6_ n7_ n8_ n9_ n10_ n11_ n12_ n13_ n14_;intro HO_3 HO_424000 BK415 BK416 BK423 HB BK426 GW426 GE426 NB415_426 NB426_415 NB416_426 NB426_416 NB423_426 NB426_423
   clear hb hbox hg
   refine hK.out _ _ ⟨(bkC BK415.out 0).trans rfl,(bkC BK415.out 1).trans rfl,HS2_,((HB.out.cell (bwL w _ hw425_0)).trans hw425_0),((HB.out.cell (bwL w _ hw425_1)).trans hw425_1),((HB.out.cell (bwL w _ hw425_2)).trans hw425_2)⟩ (fun hHeld=>?_)
   clear hK K
   refine norm_ (a':=?_) ?_ ?_
   rotate_left
   ·show Act.put _ (some 6) _=_
    simp only [Act.put,sq_,i64_w,i32_w]
    rfl
   refine one_ (i:=9) (N:=none) (bl_ 1023 10) rfl rfl (one_of HT_.out (by kernel_rfl)) (by decide) (fun K hK=>?_)
   have hs22:w21.cell? ⟨gb426,0,none⟩=some (.int .i64 0):=(bkC BK426.out 0).trans rfl
   have hfs22:=bkF BK426.out 0
   have hns22_0:=NB415_426.out
   have hns22_1:=NB416_426.out
   have hns22_2:=NB423_426.out
   have hms22_0:=NB426_415.out
   have hms22_1:=NB426_416.out
   have hms22_2:=NB426_423.out
   have hs23:w21.cell? ⟨gb426,1,none⟩=some (.int .i64 0):=(bkC BK426.out 1).trans rfl
   have hfs23:=bkF BK426.out 1
   have hns23_0:=NB415_426.out
   have hns23_1:=NB416_426.out
   have hns23_2:=NB423_426.out
   have hms23_0:=NB426_415.out
   have hms23_1:=NB426_416.out
   have hms23_2:=NB426_423.out
   have hs24:w21.cell? ⟨gb426,2,none⟩=some (.slice none 0 0):=(bkC BK426.out 2).trans rfl
   have hfs24:=bkF BK426.out 2
   have hns24_0:=NB415_426.out
   have hns24_1:=NB416_426.out
   have hns24_2:=NB423_426.out
   have hms24_0:=NB426_415.out
   have hms24_1:=NB426_416.out
   have hms24_2:=NB426_423.out
   refine skip_ (w1:=?_) (by rfl) rfl ?_ ?_
   rotate_left
   ·go_simp
    rfl
   refine hK.out _ _ ⟨((cell_far (p:=⟨gb426,_,none⟩) NB415_426.out _).trans (((cell_far (p:=⟨gb426,_,none⟩) NB415_426.out _).trans (((cell_far (p:=⟨gb426,_,none⟩) NB415_426.out _).trans (hHeld.1)))))),((cell_far (p:=⟨gb426,_,none⟩) NB415_426.out _).trans (((cell_far (p:=⟨gb426,_,none⟩) NB415_426.out _).trans (((cell_far (p:=⟨gb426,_,none⟩) NB415_426.out _).trans (hHeld.2.1)))))),((cell_far (p:=⟨gb426,_,none⟩) (by first|exact Kd.own_blk (Kd.R_ne HO_3.out BK426.out (by decide))|(rw [add_block];exact Kd.own_blk (Kd.R_ne HO_3.out BK426.out (by decide)))|(show (Addr.add _ _).block≠_;rw [add_block];exact Kd.own_blk (Kd.R_ne HO_3.out BK426.out (by decide)))|(dsimp only;exact Kd.own_blk (Kd.R_ne HO_3.out BK426.out (by decide)))) _).trans (((cell_far (p:=⟨gb426,_,none⟩) (by first|exact Kd.own_blk (Kd.R_ne HO_3.out BK426.out (by decide))|(rw [add_block];exact Kd.own_blk (Kd.R_ne HO_3.out BK426.out (by decide)))|(show (Addr.add _ _).block≠_;rw [add_block];exact Kd.own_blk (Kd.R_ne HO_3.out BK426.out (by decide)))|(dsimp only;exact Kd.own_blk (Kd.R_ne HO_3.out BK426.out (by decide)))) _).trans (((cell_far (p:=⟨gb426,_,none⟩) (by first|exact Kd.own_blk (Kd.R_ne HO_3.out BK426.out (by decide))|(rw [add_block];exact Kd.own_blk (Kd.R_ne HO_3.out BK426.out (by decide)))|(show (Addr.add _ _).block≠_;rw [add_block];exact Kd.own_blk (Kd.R_ne HO_3.out BK426.out (by decide)))|(dsimp only;exact Kd.own_blk (Kd.R_ne HO_3.out BK426.out (by decide)))) _).trans (hHeld.2.2.1)))))),((cell_far (p:=⟨gb426,_,none⟩) (by first|exact Nat.ne_of_lt (Nat.lt_of_lt_of_le (by have:=bwL _ _ hw425_0;first|rwa [add_block] at this|exact this) GW426.out)|(rw [add_block];exact Nat.ne_of_lt (Nat.lt_of_lt_of_le (by have:=bwL _ _ hw425_0;first|rwa [add_block] at this|exact this) GW426.out))|(show (Addr.add _ _).block≠_;rw [add_block];exact Nat.ne_of_lt (Nat.lt_of_lt_of_le (by have:=bwL _ _ hw425_0;first|rwa [add_block] at this|exact this) GW426.out))|(dsimp only;exact Nat.ne_of_lt (Nat.lt_of_lt_of_le (by have:=bwL _ _ hw425_0;first|rwa [add_block] at this|exact this) GW426.out))) _).trans (((cell_far (p:=⟨gb426,_,none⟩) (by first|exact Nat.ne_of_lt (Nat.lt_of_lt_of_le (by have:=bwL _ _ hw425_0;first|rwa [add_block] at this|exact this) GW426.out)|(rw [add_block];exact Nat.ne_of_lt (Nat.lt_of_lt_of_le (by have:=bwL _ _ hw425_0;first|rwa [add_block] at this|exact this) GW426.out))|(show (Addr.add _ _).block≠_;rw [add_block];exact Nat.ne_of_lt (Nat.lt_of_lt_of_le (by have:=bwL _ _ hw425_0;first|rwa [add_block] at this|exact this) GW426.out))|(dsimp only;exact Nat.ne_of_lt (Nat.lt_of_lt_of_le (by have:=bwL _ _ hw425_0;first|rwa [add_block] at this|exact this) GW426.out))) _).trans (((cell_far (p:=⟨gb426,_,none⟩) (by first|exact Nat.ne_of_lt (Nat.lt_of_lt_of_le (by have:=bwL _ _ hw425_0;first|rwa [add_block] at this|exact this) GW426.out)|(rw [add_block];exact Nat.ne_of_lt (Nat.lt_of_lt_of_le (by have:=bwL _ _ hw425_0;first|rwa [add_block] at this|exact this) GW426.out))|(show (Addr.add _ _).block≠_;rw [add_block];exact Nat.ne_of_lt (Nat.lt_of_lt_of_le (by have:=bwL _ _ hw425_0;first|rwa [add_block] at this|exact this) GW426.out))|(dsimp only;exact Nat.ne_of_lt (Nat.lt_of_lt_of_le (by have:=bwL _ _ hw425_0;first|rwa [add_block] at this|exact this) GW426.out))) _).trans (hHeld.2.2.2.1)))))),((cell_far (p:=⟨gb426,_,none⟩) (by first|exact Nat.ne_of_lt (Nat.lt_of_lt_of_le (by have:=bwL _ _ hw425_1;first|rwa [add_block] at this|exact this) GW426.out)|(rw [add_block];exact Nat.ne_of_lt (Nat.lt_of_lt_of_le (by have:=bwL _ _ hw425_1;first|rwa [add_block] at this|exact this) GW426.out))|(show (Addr.add _ _).block≠_;rw [add_block];exact Nat.ne_of_lt (Nat.lt_of_lt_of_le (by have:=bwL _ _ hw425_1;first|rwa [add_block] at this|exact this) GW426.out))|(dsimp only;exact Nat.ne_of_lt (Nat.lt_of_lt_of_le (by have:=bwL _ _ hw425_1;first|rwa [add_block] at this|exact this) GW426.out))) _).trans (((cell_far (p:=⟨gb426,_,none⟩) (by first|exact Nat.ne_of_lt (Nat.lt_of_lt_of_le (by have:=bwL _ _ hw425_1;first|rwa [add_block] at this|exact this) GW426.out)|(rw [add_block];exact Nat.ne_of_lt (Nat.lt_of_lt_of_le (by have:=bwL _ _ hw425_1;first|rwa [add_block] at this|exact this) GW426.out))|(show (Addr.add _ _).block≠_;rw [add_block];exact Nat.ne_of_lt (Nat.lt_of_lt_of_le (by have:=bwL _ _ hw425_1;first|rwa [add_block] at this|exact this) GW426.out))|(dsimp only;exact Nat.ne_of_lt (Nat.lt_of_lt_of_le (by have:=bwL _ _ hw425_1;first|rwa [add_block] at this|exact this) GW426.out))) _).trans (((cell_far (p:=⟨gb426,_,none⟩) (by first|exact Nat.ne_of_lt (Nat.lt_of_lt_of_le (by have:=bwL _ _ hw425_1;first|rwa [add_block] at this|exact this) GW426.out)|(rw [add_block];exact Nat.ne_of_lt (Nat.lt_of_lt_of_le (by have:=bwL _ _ hw425_1;first|rwa [add_block] at this|exact this) GW426.out))|(show (Addr.add _ _).block≠_;rw [add_block];exact Nat.ne_of_lt (Nat.lt_of_lt_of_le (by have:=bwL _ _ hw425_1;first|rwa [add_block] at this|exact this) GW426.out))|(dsimp only;exact Nat.ne_of_lt (Nat.lt_of_lt_of_le (by have:=bwL _ _ hw425_1;first|rwa [add_block] at this|exact this) GW426.out))) _).trans (hHeld.2.2.2.2.1)))))),((cell_far (p:=⟨gb426,_,none⟩) (by first|exact Nat.ne_of_lt (Nat.lt_of_lt_of_le (by have:=bwL _ _ hw425_2;first|rwa [add_block] at this|exact this) GW426.out)|(rw [add_block];exact Nat.ne_of_lt (Nat.lt_of_lt_of_le (by have:=bwL _ _ hw425_2;first|rwa [add_block] at this|exact this) GW426.out))|(show (Addr.add _ _).block≠_;rw [add_block];exact Nat.ne_of_lt (Nat.lt_of_lt_of_le (by have:=bwL _ _ hw425_2;first|rwa [add_block] at this|exact this) GW426.out))|(dsimp only;exact Nat.ne_of_lt (Nat.lt_of_lt_of_le (by have:=bwL _ _ hw425_2;first|rwa [add_block] at this|exact this) GW426.out))) _).trans (((cell_far (p:=⟨gb426,_,none⟩) (by first|exact Nat.ne_of_lt (Nat.lt_of_lt_of_le (by have:=bwL _ _ hw425_2;first|rwa [add_block] at this|exact this) GW426.out)|(rw [add_block];exact Nat.ne_of_lt (Nat.lt_of_lt_of_le (by have:=bwL _ _ hw425_2;first|rwa [add_block] at this|exact this) GW426.out))|(show (Addr.add _ _).block≠_;rw [add_block];exact Nat.ne_of_lt (Nat.lt_of_lt_of_le (by have:=bwL _ _ hw425_2;first|rwa [add_block] at this|exact this) GW426.out))|(dsimp only;exact Nat.ne_of_lt (Nat.lt_of_lt_of_le (by have:=bwL _ _ hw425_2;first|rwa [add_block] at this|exact this) GW426.out))) _).trans (((cell_far (p:=⟨gb426,_,none⟩) (by first|exact Nat.ne_of_lt (Nat.lt_of_lt_of_le (by have:=bwL _ _ hw425_2;first|rwa [add_block] at this|exact this) GW426.out)|(rw [add_block];exact Nat.ne_of_lt (Nat.lt_of_lt_of_le (by have:=bwL _ _ hw425_2;first|rwa [add_block] at this|exact this) GW426.out))|(show (Addr.add _ _).block≠_;rw [add_block];exact Nat.ne_of_lt (Nat.lt_of_lt_of_le (by have:=bwL _ _ hw425_2;first|rwa [add_block] at this|exact this) GW426.out))|(dsimp only;exact Nat.ne_of_lt (Nat.lt_of_lt_of_le (by have:=bwL _ _ hw425_2;first|rwa [add_block] at this|exact this) GW426.out))) _).trans (hHeld.2.2.2.2.2))))))⟩ (fun hHeld=>?_)
   clear hK K
   refine done_ (done_of HT_.out (by kernel_rfl)) ?_
   have hnb25:=NB426_415.out
   have hnc25:=NB415_426.out
   have hnb26:=NB426_416.out
   have hnc26:=NB416_426.out
   have hnb27:=NB426_423.out
   have hnc27:=NB423_426.out
   obtain ⟨hcz28_0,hcz28_1,hcz28_2,hfz28_0,hfz28_1,hfz28_2⟩:=bk3 BK426.out
   try go_wp2_with (first|((with_reducible refine gate_dst (N:=7) rfl ?_);refine box_event ?hg (N:=7) ?hd (cs:=#[.int .i64 0,.int .i64 0,.slice none 0 0]) (t:=45) ?hr ?_;(case hd=>rfl);(case hg=>rfl);(case hr=>go_simp <;> rfl);intro gb427 hg w29 hbox hb;have n0_:=As_ (Kd.R_below (by (with_reducible repeat (first|apply Kd.R_alloc|apply Kd.R_drewN|apply Kd.R_drew));exact (Kd.R_mono (Kd.R_far (p:=⟨gb426,2,none⟩) (Kd.R_far (p:=⟨gb426,1,none⟩) (Kd.R_far (p:=⟨gb426,0,none⟩) (Kd.R_types HO_3.out BK426.out (by decide)) (fun _ hk=>hk.2) (.int .i64 ((rd_T45 l0_0 (rd t420 x5_1)).f0))) (fun _ hk=>hk.2) (.int .i64 ((rd_T45 l0_0 (rd t420 x5_1)).f1))) (fun _ hk=>hk.2) (.slice A425_2 ((rd_T45 l0_0 (rd t420 x5_1)).f2).length c425_2)) (fun _ h_=>h_.1))) hb);have n1_:=As_ (Kd.S_below (Kd.S_elderB (by (with_reducible repeat (first|apply Kd.S_alloc|apply Kd.S_drewN|apply Kd.S_drew));exact (Kd.S_mono (Kd.S_far (p:=⟨gb426,2,none⟩) (Kd.S_far (p:=⟨gb426,1,none⟩) (Kd.S_far (p:=⟨gb426,0,none⟩) (Kd.S_mono HO_424000.out (fun k_ hk=>(⟨hk,hk.2⟩:_∧k_≠gb426))) (fun _ hk=>hk.2) (.int .i64 ((rd_T45 l0_0 (rd t420 x5_1)).f0))) (fun _ hk=>hk.2) (.int .i64 ((rd_T45 l0_0 (rd t420 x5_1)).f1))) (fun _ hk=>hk.2) (.slice A425_2 ((rd_T45 l0_0 (rd t420 x5_1)).f2).length c425_2)) (fun _ h_=>h_.1))) gb427 (Nat.le_of_eq hg.symm)) hb);have n2_:=As_ (blk_below (g:=gb415) (o:=.cells #[.slice (some ad425) l0_0.length c0_0,.int .i64 a0_1] 29 (0,0)) (by (with_reducible repeat first|apply bkN|apply bkD|apply bkA);refine blk_far ?_ NB415_426.out _;(with_reducible repeat first|apply bkN|apply bkD|apply bkA);refine blk_far ?_ NB415_426.out _;(with_reducible repeat first|apply bkN|apply bkD|apply bkA);refine blk_far ?_ NB415_426.out _;(with_reducible repeat first|apply bkN|apply bkD|apply bkA);exact BK415.out) hb);have n3_:=As_ (blk_below (g:=gb416) (o:=.cells #[.slice none 0 0,.int .i64 0] 29 (0,0)) (by (with_reducible repeat first|apply bkN|apply bkD|apply bkA);refine blk_far ?_ NB416_426.out _;(with_reducible repeat first|apply bkN|apply bkD|apply bkA);refine blk_far ?_ NB416_426.out _;(with_reducible repeat first|apply bkN|apply bkD|apply bkA);refine blk_far ?_ NB416_426.out _;(with_reducible repeat first|apply bkN|apply bkD|apply bkA);exact BK416.out) hb);have n4_:=As_ (blk_below (g:=gb423) (o:=.cells #[u424000,.int .i64 0] 29 (0,0)) (by (with_reducible repeat first|apply bkN|apply bkD|apply bkA);refine blk_far ?_ NB423_426.out _;(with_reducible repeat first|apply bkN|apply bkD|apply bkA);refine blk_far ?_ NB423_426.out _;(with_reducible repeat first|apply bkN|apply bkD|apply bkA);refine blk_far ?_ NB423_426.out _;(with_reducible repeat first|apply bkN|apply bkD|apply bkA);exact BK423.out) hb);have n5_:=As_ (blk_below (g:=gb426) (o:=.cells #[.int .i64 ((rd_T45 l0_0 (rd t420 x5_1)).f0),.int .i64 ((rd_T45 l0_0 (rd t420 x5_1)).f1),.slice A425_2 ((rd_T45 l0_0 (rd t420 x5_1)).f2).length c425_2] 45 (0,0)) (by (with_reducible repeat first|apply bkN|apply bkD|apply bkA);refine blk_put (cs:=#[.int .i64 ((rd_T45 l0_0 (rd t420 x5_1)).f0),.int .i64 ((rd_T45 l0_0 (rd t420 x5_1)).f1),.slice none 0 0]) ?_ 2 _ rfl;(with_reducible repeat first|apply bkN|apply bkD|apply bkA);refine blk_put (cs:=#[.int .i64 ((rd_T45 l0_0 (rd t420 x5_1)).f0),.int .i64 0,.slice none 0 0]) ?_ 1 _ rfl;(with_reducible repeat first|apply bkN|apply bkD|apply bkA);refine blk_put (cs:=#[.int .i64 0,.int .i64 0,.slice none 0 0]) ?_ 0 _ rfl;(with_reducible repeat first|apply bkN|apply bkD|apply bkA);exact BK426.out) hb);have n6_:=As_ (bwT (zb4 HB.out GE415.out GE416.out GE423.out GE426.out) hb);have n7_:=As_ (hbox);have n8_:=As_ ((by rw [hg];exact (bwZ (zb4 HB.out GE415.out GE416.out GE423.out GE426.out)):w.heap.size≤gb427));have n9_:=As_ ((by rw [hg];exact (bwZ (zb4 HB.out GE415.out GE416.out GE423.out GE426.out)):w.heap.size≤gb427));have n10_:=As_ ((by rw [hg];exact Nat.ne_of_lt (blk_lt (g:=gb415) (o:=.cells #[.slice (some ad425) l0_0.length c0_0,.int .i64 a0_1] 29 (0,0)) (by (with_reducible repeat first|apply bkN|apply bkD|apply bkA);refine blk_far ?_ NB415_426.out _;(with_reducible repeat first|apply bkN|apply bkD|apply bkA);refine blk_far ?_ NB415_426.out _;(with_reducible repeat first|apply bkN|apply bkD|apply bkA);refine blk_far ?_ NB415_426.out _;(with_reducible repeat first|apply bkN|apply bkD|apply bkA);exact BK415.out)):gb415≠gb427));have n11_:=As_ ((by rw [hg];exact Nat.ne_of_gt (blk_lt (g:=gb415) (o:=.cells #[.slice (some ad425) l0_0.length c0_0,.int .i64 a0_1] 29 (0,0)) (by (with_reducible repeat first|apply bkN|apply bkD|apply bkA);refine blk_far ?_ NB415_426.out _;(with_reducible repeat first|apply bkN|apply bkD|apply bkA);refine blk_far ?_ NB415_426.out _;(with_reducible repeat first|apply bkN|apply bkD|apply bkA);refine blk_far ?_ NB415_426.out _;(with_reducible repeat first|apply bkN|apply bkD|apply bkA);exact BK415.out)):gb427≠gb415));have n12_:=As_ ((by rw [hg];exact Nat.ne_of_lt (blk_lt (g:=gb416) (o:=.cells #[.slice none 0 0,.int .i64 0] 29 (0,0)) (by (with_reducible repeat first|apply bkN|apply bkD|apply bkA);refine blk_far ?_ NB416_426.out _;(with_reducible repeat first|apply bkN|apply bkD|apply bkA);refine blk_far ?_ NB416_426.out _;(with_reducible repeat first|apply bkN|apply bkD|apply bkA);refine blk_far ?_ NB416_426.out _;(with_reducible repeat first|apply bkN|apply bkD|apply bkA);exact BK416.out)):gb416≠gb427));have n13_:=As_ ((by rw [hg];exact Nat.ne_of_gt (blk_lt (g:=gb416) (o:=.cells #[.slice none 0 0,.int .i64 0] 29 (0,0)) (by (with_reducible repeat first|apply bkN|apply bkD|apply bkA);refine blk_far ?_ NB416_426.out _;(with_reducible repeat first|apply bkN|apply bkD|apply bkA);refine blk_far ?_ NB416_426.out _;(with_reducible repeat first|apply bkN|apply bkD|apply bkA);refine blk_far ?_ NB416_426.out _;(with_reducible repeat first|apply bkN|apply bkD|apply bkA);exact BK416.out)):gb427≠gb416));have n14_:=As_ ((by rw [hg];exact Nat.ne_of_lt (blk_lt (g:=gb423) (o:=.cells #[u424000,.int .i64 0] 29 (0,0)) (by (with_reducible repeat first|apply bkN|apply bkD|apply bkA);refine blk_far ?_ NB423_426.out _;(with_reducible repeat first|apply bkN|apply bkD|apply bkA);refine blk_far ?_ NB423_426.out _;(with_reducible repeat first|apply bkN|apply bkD|apply bkA);refine blk_far ?_ NB423_426.out _;(with_reducible repeat first|apply bkN|apply bkD|apply bkA);exact BK423.out)):gb423≠gb427));have n15_:=As_ ((by rw [hg];exact Nat.ne_of_gt (blk_lt (g:=gb423) (o:=.cells #[u424000,.int .i64 0] 29 (0,0)) (by (with_reducible repeat first|apply bkN|apply bkD|apply bkA);refine blk_far ?_ NB423_426.out _;(with_reducible repeat first|apply bkN|apply bkD|apply bkA);refine blk_far ?_ NB423_426.out _;(with_reducible repeat first|apply bkN|apply bkD|apply bkA);refine blk_far ?_ NB423_426.out _;(with_reducible repeat first|apply bkN|apply bkD|apply bkA);exact BK423.out)):gb427≠gb423));have n16_:=As_ ((by rw [hg];exact Nat.ne_of_lt (blk_lt (g:=gb426) (o:=.cells #[.int .i64 ((rd_T45 l0_0 (rd t420 x5_1)).f0),.int .i64 ((rd_T45 l0_0 (rd t420 x5_1)).f1),.slice A425_2 ((rd_T45 l0_0 (rd t420 x5_1)).f2).length c425_2] 45 (0,0)) (by (with_reducible repeat first|apply bkN|apply bkD|apply bkA);refine blk_put (cs:=#[.int .i64 ((rd_T45 l0_0 (rd t420 x5_1)).f0),.int .i64 ((rd_T45 l0_0 (rd t420 x5_1)).f1),.slice none 0 0]) ?_ 2 _ rfl;(with_reducible repeat first|apply bkN|apply bkD|apply bkA);refine blk_put (cs:=#[.int .i64 ((rd_T45 l0_0 (rd t420 x5_1)).f0),.int .i64 0,.slice none 0 0]) ?_ 1 _ rfl;(with_reducible repeat first|apply bkN|apply bkD|apply bkA);refine blk_put (cs:=#[.int .i64 0,.int .i64 0,.slice none 0 0]) ?_ 0 _ rfl;(with_reducible repeat first|apply bkN|apply bkD|apply bkA);exact BK426.out)):gb426≠gb427));have n17_:=As_ ((by rw [hg];exact Nat.ne_of_gt (blk_lt (g:=gb426) (o:=.cells #[.int .i64 ((rd_T45 l0_0 (rd t420 x5_1)).f0),.int .i64 ((rd_T45 l0_0 (rd t420 x5_1)).f1),.slice A425_2 ((rd_T45 l0_0 (rd t420 x5_1)).f2).length c425_2] 45 (0,0)) (by (with_reducible repeat first|apply bkN|apply bkD|apply bkA);refine blk_put (cs:=#[.int .i64 ((rd_T45 l0_0 (rd t420 x5_1)).f0),.int .i64 ((rd_T45 l0_0 (rd t420 x5_1)).f1),.slice none 0 0]) ?_ 2 _ rfl;(with_reducible repeat first|apply bkN|apply bkD|apply bkA);refine blk_put (cs:=#[.int .i64 ((rd_T45 l0_0 (rd t420 x5_1)).f0),.int .i64 0,.slice none 0 0]) ?_ 1 _ rfl;(with_reducible repeat first|apply bkN|apply bkD|apply bkA);refine blk_put (cs:=#[.int .i64 0,.int .i64 0,.slice none 0 0]) ?_ 0 _ rfl;(with_reducible repeat first|apply bkN|apply bkD|apply bkA);exact BK426.out)):gb427≠gb426));clear HO_3 HO_424000 BK415 BK416 BK423 BK426 HB;revert n0_ n1_ n2_ n3_ n4_ n5_ n6_ n7_ n8_ n9_ n10_ n11_ n12_ n13_ n14_ n15_ n16_ n17_;intro HO_3 HO_424000 BK415 BK416 BK423 BK426 HB BK427 GW427 GE427 NB415_427 NB427_415 NB416_427 NB427_416 NB423_427 NB427_423 NB426_427 NB427_426;clear hb hbox hg;have hnb30:=NB427_415.out;have hnc30:=NB415_427.out;have hnb31:=NB427_416.out;have hnc31:=NB416_427.out;have hnb32:=NB427_423.out;have hnc32:=NB423_427.out;have hnb33:=NB427_426.out;have hnc33:=NB426_427.out;obtain ⟨hcz34_0,hcz34_1,hcz34_2,hfz34_0,hfz34_1,hfz34_2⟩:=bk3 BK427.out))
   go_loopg [8] k1 (fun kq v8 w'=>∃ (x8_2:Int) (x428002_2:List Int) (u428002:Value),v8=.int .i64 x8_2∧Aside0 (spec_pruned.l1 kq t420 x5_1 x8_2 l0_0 a0_1 x424000_1 0 ((rd_T45 l0_0 (rd t420 x5_1)).f0) ((rd_T45 l0_0 (rd t420 x5_1)).f1) ((rd_T45 l0_0 (rd t420 x5_1)).f2) ((rd_T45 l0_0 (rd t420 x5_1)).f0) ((rd_T45 l0_0 (rd t420 x5_1)).f1) x428002_2=some (r1,r2))∧Aside0 (kq≤k1)∧Aside0 (Kd.R (Kd.int .i64) 3 w' w.heap.size (fun k_=>some k_≠(u428002:Value).ownBlock) (.slice (some ad424) t420.length co19) t420)∧Aside0 (Kd.S k45 45 w' w.heap.size (fun k_=>some k_≠((.slice (some ad424) t420.length co19):Value).ownBlock∧some k_≠(u428002:Value).ownBlock∧k_≠gb426∧k_≠gb427) u424000 x424000_1)∧Aside0 (Kd.R (Kd.int .i64) 3 w' w.heap.size (fun k_=>some k_≠((.slice (some ad424) t420.length co19):Value).ownBlock) u428002 x428002_2)∧Aside0 (w'.heap[gb415]?=some (.cells #[(.slice (some ad425) l0_0.length c0_0),.int .i64 a0_1] 29 (0,0)))∧Aside0 (w'.heap[gb416]?=some (.cells #[(.slice none 0 0),.int .i64 0] 29 (0,0)))∧Aside0 (w'.heap[gb423]?=some (.cells #[u424000,.int .i64 0] 29 (0,0)))∧Aside0 (w'.heap[gb426]?=some (.cells #[.int .i64 ((rd_T45 l0_0 (rd t420 x5_1)).f0),.int .i64 ((rd_T45 l0_0 (rd t420 x5_1)).f1),(.slice A425_2 ((rd_T45 l0_0 (rd t420 x5_1)).f2).length c425_2)] 45 (0,0)))∧Aside0 (w'.heap[gb427]?=some (.cells #[.int .i64 ((rd_T45 l0_0 (rd t420 x5_1)).f0),.int .i64 ((rd_T45 l0_0 (rd t420 x5_1)).f1),u428002] 45 (0,0)))∧Aside0 (Below w.heap.size w w'))
   case atStart=>exact ⟨(0),(([]:List Int)),(.slice none 0 0),zT_,H',⟨Nat.le_refl _⟩,⟨by (with_reducible repeat (first|apply Kd.R_alloc|apply Kd.R_drewN|apply Kd.R_drew));exact Kd.R_mono (Kd.R_far (p:=⟨gb427,2,none⟩) (Kd.R_far (p:=⟨gb427,1,none⟩) (Kd.R_far (p:=⟨gb427,0,none⟩) (Kd.R_types HO_3.out BK427.out (by decide)) (fun _ hk=>hk.2) (.int .i64 ((rd_T45 l0_0 (rd t420 x5_1)).f0))) (fun _ hk=>hk.2) (.int .i64 ((rd_T45 l0_0 (rd t420 x5_1)).f1))) (fun _ hk=>hk.2) (.slice none 0 0)) (fun _ hk=>(by simp [Value.ownBlock]))⟩,⟨by (with_reducible repeat (first|apply Kd.S_alloc|apply Kd.S_drewN|apply Kd.S_drew));exact Kd.S_mono (Kd.S_far (p:=⟨gb427,2,none⟩) (Kd.S_far (p:=⟨gb427,1,none⟩) (Kd.S_far (p:=⟨gb427,0,none⟩) (Kd.S_mono HO_424000.out (fun k_ hk=>(⟨hk,hk.2⟩:_∧k_≠gb427))) (fun _ hk=>hk.2) (.int .i64 ((rd_T45 l0_0 (rd t420 x5_1)).f0))) (fun _ hk=>hk.2) (.int .i64 ((rd_T45 l0_0 (rd t420 x5_1)).f1))) (fun _ hk=>hk.2) (.slice none 0 0)) (fun _ hk=>⟨hk.1.1.1,⟨(by simp [Value.ownBlock]),⟨hk.1.1.2,hk.1.2⟩⟩⟩)⟩,⟨by first|exact Kd.R_nil _ _ _ _ _|exact Kd.N_nil _ _ _ _ _|exact Kd.V_nil _ _ _ _ _|exact Kd.Q_nil _ _ _ _ _|exact Kd.S_nil _ _ _ _ _⟩,⟨by (with_reducible repeat first|apply bkN|apply bkD|apply bkA);refine blk_far ?_ NB415_427.out _;(with_reducible repeat first|apply bkN|apply bkD|apply bkA);refine blk_far ?_ NB415_427.out _;(with_reducible repeat first|apply bkN|apply bkD|apply bkA);refine blk_far ?_ NB415_427.out _;(with_reducible repeat first|apply bkN|apply bkD|apply bkA);exact BK415.out⟩,⟨by (with_reducible repeat first|apply bkN|apply bkD|apply bkA);refine blk_far ?_ NB416_427.out _;(with_reducible repeat first|apply bkN|apply bkD|apply bkA);refine blk_far ?_ NB416_427.out _;(with_reducible repeat first|apply bkN|apply bkD|apply bkA);refine blk_far ?_ NB416_427.out _;(with_reducible repeat first|apply bkN|apply bkD|apply bkA);exact BK416.out⟩,⟨by (with_reducible repeat first|apply bkN|apply bkD|apply bkA);refine blk_far ?_ NB423_427.out _;(with_reducible repeat first|apply bkN|apply bkD|apply bkA);refine blk_far ?_ NB423_427.out _;(with_reducible repeat first|apply bkN|apply bkD|apply bkA);refine blk_far ?_ NB423_427.out _;(with_reducible repeat first|apply bkN|apply bkD|apply bkA);exact BK423.out⟩,⟨by (with_reducible repeat first|apply bkN|apply bkD|apply bkA);refine blk_far ?_ NB426_427.out _;(with_reducible repeat first|apply bkN|apply bkD|apply bkA);refine blk_far ?_ NB426_427.out _;(with_reducible repeat first|apply bkN|apply bkD|apply bkA);refine blk_far ?_ NB426_427.out _;(with_reducible repeat first|apply bkN|apply bkD|apply bkA);exact BK426.out⟩,⟨by (with_reducible repeat first|apply bkN|apply bkD|apply bkA);refine blk_put (cs:=#[.int .i64 ((rd_T45 l0_0 (rd t420 x5_1)).f0),.int .i64 ((rd_T45 l0_0 (rd t420 x5_1)).f1),.slice none 0 0]) ?_ 2 _ rfl;(with_reducible repeat first|apply bkN|apply bkD|apply bkA);refine blk_put (cs:=#[.int .i64 ((rd_T45 l0_0 (rd t420 x5_1)).f0),.int .i64 0,.slice none 0 0]) ?_ 1 _ rfl;(with_reducible repeat first|apply bkN|apply bkD|apply bkA);refine blk_put (cs:=#[.int .i64 0,.int .i64 0,.slice none 0 0]) ?_ 0 _ rfl;(with_reducible repeat first|apply bkN|apply bkD|apply bkA);exact BK427.out⟩,⟨zb5 HB.out GE415.out GE416.out GE423.out GE426.out GE427.out⟩⟩
   case round=>
    clear H'
    obtain ⟨x8_2,x428002_2,u428002,rfl,HA,HK2,HO_3,HO_424000,HO_428002,BK415,BK416,BK423,BK426,BK427,HB⟩:=hrel
    cases gk with
    | zero=>exact absurd HA.out (fun h_=>(by cases h_))
    | succ k2=>
     have H:=HA.out
     clear HA
     simp only [spec_pruned.l1] at H
     by_cases c35:x8_2<(((rd_T45 l0_0 (rd t420 x5_1)).f2).length:Int)
     rotate_left
     ·rw [if_neg c35] at H
      have c35b0:decide (x8_2<(((rd_T45 l0_0 (rd t420 x5_1)).f2).length:Int))=false:=deF c35
      clear c35
      by_cases c48:x424000_1.length<3518437208883
      rotate_left
      ·rw [if_neg c48] at H
       exact absurd H (by simp)
      rw [if_pos c48] at H
      have LMc48:=As_ c48
      clear c48
      obtain ⟨y433,hy433⟩:∃ y_:List (S45),y_=(x424000_1++[(⟨((rd_T45 l0_0 (rd t420 x5_1)).f0),((rd_T45 l0_0 (rd t420 x5_1)).f1),x428002_2⟩:S45)]):=⟨_,rfl⟩
      replace H:(spec_pruned.l0 k2 t420 (wrap64 (x5_1+1)) l0_0 a0_1 y433 0)=some (r1,r2):=zH_ H hy433
      have Ny433:=As_ hy433
      clear hy433
      have H':=As_ H
      clear H
      have hnb49:=NB426_415.out
      have hnc49:=NB415_426.out
      have hnb50:=NB426_416.out
      have hnc50:=NB416_426.out
      have hnb51:=NB426_423.out
      have hnc51:=NB423_426.out
      have hnb52:=NB426_427.out
      have hnc52:=NB427_426.out
      obtain ⟨hcz53_0,hcz53_1,hcz53_2,hfz53_0,hfz53_1,hfz53_2⟩:=bk3 BK426.out
      have hnb54:=NB423_415.out
      have hnc54:=NB415_423.out
      have hnb55:=NB423_416.out
      have hnc55:=NB416_423.out
      have hnb56:=NB423_427.out
      have hnc56:=NB427_423.out
      obtain ⟨hcz57_0,hcz57_1,hfz57_0,hfz57_1⟩:=bk2 BK423.out
      have hnb58:=NB427_415.out
      have hnc58:=NB415_427.out
      have hnb59:=NB427_416.out
      have hnc59:=NB416_427.out
      obtain ⟨hcz60_0,hcz60_1,hcz60_2,hfz60_0,hfz60_1,hfz60_2⟩:=bk3 BK427.out
      obtain ⟨Ao62,co62,eo62⟩:=Kd.R_slice HO_428002.out
      subst eo62
      go_wp2_with (first|((with_reducible refine gate_builtin (b:=.append) (xs:=#[.tmp 54,.tmp 56]) rfl ?_);at_builtin;refine Kd.S_append k45 (w0:=w) w.heap.size rfl (.tmp 54) (.tmp 56) 27 45 (.agg #[(.int .i64 0),(.int .i64 0),(.slice none 0 0)]) 40 rfl Try.underlying27 info45 rfl (by decide) (by omega) u424000 x424000_1 (⟨((rd_T45 l0_0 (rd t420 x5_1)).f0),((rd_T45 l0_0 (rd t420 x5_1)).f1),x428002_2⟩:S45) [.int .i64 ((rd_T45 l0_0 (rd t420 x5_1)).f0),.int .i64 ((rd_T45 l0_0 (rd t420 x5_1)).f1),.slice Ao62 x428002_2.length co62] (fun k_=>some k_≠(.slice (some ad424) t420.length co19:Value).ownBlock∧k_≠gb426∧k_≠gb427) (fun k_=>some k_=(.slice Ao62 x428002_2.length co62:Value).ownBlock) rfl rfl ?aP (fun k_ hk_=>((Kd.R_mono (ok':=fun k_=>((fun k_=>some k_≠(.slice (some ad424) t420.length co19:Value).ownBlock∧k_≠gb426∧k_≠gb427)) k_∧some k_≠(u424000:Value).ownBlock) (Kd.R_types (Kd.R_types (Kd.R_apart' (HO_428002.out) (Kd.S_typed HO_424000.out) (by decide)) BK426.out (by decide)) BK427.out (by decide)) (fun k_ hk=>⟨⟨hk.1.1.1,⟨hk.1.2,hk.2⟩⟩,hk.1.1.2⟩))).1 k_ hk_.symm) ?aF ?aO ?aB ?aS ?aL ?_;(case aP=>exact k45_mkM _ _ _ (⟨((rd_T45 l0_0 (rd t420 x5_1)).f0),((rd_T45 l0_0 (rd t420 x5_1)).f1),x428002_2⟩:S45) (Kd.R_mono (Kd.R_tight rfl (Kd.R_mono (ok':=fun k_=>((fun k_=>some k_≠(.slice (some ad424) t420.length co19:Value).ownBlock∧k_≠gb426∧k_≠gb427)) k_∧some k_≠(u424000:Value).ownBlock) (Kd.R_types (Kd.R_types (Kd.R_apart' (HO_428002.out) (Kd.S_typed HO_424000.out) (by decide)) BK426.out (by decide)) BK427.out (by decide)) (fun k_ hk=>⟨⟨hk.1.1.1,⟨hk.1.2,hk.2⟩⟩,hk.1.1.2⟩))) (fun _ h_=>h_)));(case aB=>exact (zb5 HB.out GE415.out GE416.out GE423.out GE426.out GE427.out));(case aF=>exact (fun k_ hk=>⟨Kd.fresh' (Kd.R_lt (zR_ HO_3.out)) k_ hk,Kd.freshB (g:=gb426) (o:=.cells #[.int .i64 ((rd_T45 l0_0 (rd t420 x5_1)).f0),.int .i64 ((rd_T45 l0_0 (rd t420 x5_1)).f1),.slice A425_2 ((rd_T45 l0_0 (rd t420 x5_1)).f2).length c425_2] 45 (0,0)) (zk_ BK426.out) k_ hk,Kd.freshB (g:=gb427) (o:=.cells #[.int .i64 ((rd_T45 l0_0 (rd t420 x5_1)).f0),.int .i64 ((rd_T45 l0_0 (rd t420 x5_1)).f1),.slice Ao62 x428002_2.length co62] 45 (0,0)) (zk_ BK427.out) k_ hk⟩));(case aO=>exact (by (with_reducible repeat (first|apply Kd.S_alloc|apply Kd.S_drewN|apply Kd.S_drew));exact Kd.S_mono HO_424000.out (fun k_ hk=>⟨⟨hk.1,⟨hk.2.2.1,hk.2.2.2⟩⟩,fun e_=>hk.2.1 e_⟩)));(case aS=>exact (bwZ (zb5 HB.out GE415.out GE416.out GE423.out GE426.out GE427.out)));(case aL=>have:=LMc48.out;omega);intro v434 w61 ho hb hg hat;rw [← Ny433.out] at ho;have n0_:=As_ (Kd.R_over' (zR_ HO_3.out) (Kd.S_typed (zS_ HO_424000.out)) (by decide) hg);have n1_:=As_ (blk_grown (g:=gb415) (o:=.cells #[.slice (some ad425) l0_0.length c0_0,.int .i64 a0_1] 29 (0,0)) (zk_ BK415.out) hg (Kd.S_ne HO_424000.out BK415.out (by decide)));have n2_:=As_ (blk_grown (g:=gb416) (o:=.cells #[.slice none 0 0,.int .i64 0] 29 (0,0)) (zk_ BK416.out) hg (Kd.S_ne HO_424000.out BK416.out (by decide)));have n3_:=As_ (blk_grown (g:=gb423) (o:=.cells #[u424000,.int .i64 0] 29 (0,0)) (zk_ BK423.out) hg (Kd.S_ne HO_424000.out BK423.out (by decide)));have n4_:=As_ (blk_grown (g:=gb426) (o:=.cells #[.int .i64 ((rd_T45 l0_0 (rd t420 x5_1)).f0),.int .i64 ((rd_T45 l0_0 (rd t420 x5_1)).f1),.slice A425_2 ((rd_T45 l0_0 (rd t420 x5_1)).f2).length c425_2] 45 (0,0)) (zk_ BK426.out) hg (Kd.S_away HO_424000.out (fun _ hk=>hk.2.2.1)));have n5_:=As_ (blk_grown (g:=gb427) (o:=.cells #[.int .i64 ((rd_T45 l0_0 (rd t420 x5_1)).f0),.int .i64 ((rd_T45 l0_0 (rd t420 x5_1)).f1),.slice Ao62 x428002_2.length co62] 45 (0,0)) (zk_ BK427.out) hg (Kd.S_away HO_424000.out (fun _ hk=>hk.2.2.2)));have n6_:=As_ (hb);have n7_:=As_ (ho);clear HO_3 BK415 BK416 BK423 BK426 BK427 HB HO_424000 HO_428002;revert n0_ n1_ n2_ n3_ n4_ n5_ n6_ n7_;intro HO_3 BK415 BK416 BK423 BK426 BK427 HB HO435;clear ho hb hg hat;obtain ⟨Ao63,co63,eo63⟩:=Kd.S_slice HO435.out;subst eo63;obtain ⟨hcz64_0,hcz64_1,hfz64_0,hfz64_1⟩:=bk2 BK423.out))
      go_roundg k2
      case measure=>have:=HK1.out;have:=HK2.out;omega
      case rel=>exact ⟨(wrap64 (x5_1+1)),(y433),(.slice Ao63 y433.length co63),zT_,H',⟨by have:=HK1.out;have:=HK2.out;omega⟩,⟨by (with_reducible repeat (first|apply Kd.R_alloc|apply Kd.R_drewN|apply Kd.R_drew));exact Kd.R_mono (Kd.R_far (p:=⟨gb423,0,none⟩) (Kd.R_types HO_3.out BK423.out (by decide)) (fun _ hk=>hk.2) (.slice Ao63 y433.length co63)) (fun _ hk=>trivial)⟩,⟨by (with_reducible repeat (first|apply Kd.S_alloc|apply Kd.S_drewN|apply Kd.S_drew));exact Kd.S_mono (Kd.S_far (p:=⟨gb423,0,none⟩) (Kd.S_types HO435.out BK423.out (by decide)) (fun _ hk=>hk.2) (.slice Ao63 y433.length co63)) (fun _ hk=>hk.1.1)⟩,⟨by (with_reducible repeat first|apply bkN|apply bkD|apply bkA);refine blk_far ?_ NB415_423.out _;(with_reducible repeat first|apply bkN|apply bkD|apply bkA);exact BK415.out⟩,⟨by (with_reducible repeat first|apply bkN|apply bkD|apply bkA);refine blk_far ?_ NB416_423.out _;(with_reducible repeat first|apply bkN|apply bkD|apply bkA);exact BK416.out⟩,⟨by (with_reducible repeat first|apply bkN|apply bkD|apply bkA);refine blk_put (cs:=#[u424000,.int .i64 0]) ?_ 0 _ rfl;(with_reducible repeat first|apply bkN|apply bkD|apply bkA);exact BK423.out⟩,⟨zb5 HB.out GE415.out GE416.out GE423.out GE426.out GE427.out⟩⟩
     rw [if_pos c35] at H
     have c35b0:decide (x8_2<(((rd_T45 l0_0 (rd t420 x5_1)).f2).length:Int))=true:=deT c35
     clear c35
     by_cases c36:0≤x8_2
     rotate_left
     ·rw [if_neg c36] at H
      exact absurd H (by simp)
     rw [if_pos c36] at H
     have c36b0:decide (0≤x8_2)=true:=deT c36
     clear c36
     replace H:=obS H
     obtain ⟨t429,A370,H⟩:=H
     replace H:(if x428002_2.length<17592186044416 then (spec_pruned.l1 k2 t420 x5_1 (wrap64 (x8_2+1)) l0_0 a0_1 x424000_1 0 ((rd_T45 l0_0 (rd t420 x5_1)).f0) ((rd_T45 l0_0 (rd t420 x5_1)).f1) ((rd_T45 l0_0 (rd t420 x5_1)).f2) ((rd_T45 l0_0 (rd t420 x5_1)).f0) ((rd_T45 l0_0 (rd t420 x5_1)).f1) (x428002_2++[t429])) else (none))=some (r1,r2):=H
     have A37:=As_ A370
     clear A370
     by_cases c38:x428002_2.length<17592186044416
     rotate_left
     ·rw [if_neg c38] at H
      exact absurd H (by simp)
     rw [if_pos c38] at H
     have LMc38:=As_ c38
     clear c38
     obtain ⟨y430,hy430⟩:∃ y_:List Int,y_=(x428002_2++[t429]):=⟨_,rfl⟩
     replace H:(spec_pruned.l1 k2 t420 x5_1 (wrap64 (x8_2+1)) l0_0 a0_1 x424000_1 0 ((rd_T45 l0_0 (rd t420 x5_1)).f0) ((rd_T45 l0_0 (rd t420 x5_1)).f1) ((rd_T45 l0_0 (rd t420 x5_1)).f2) ((rd_T45 l0_0 (rd t420 x5_1)).f0) ((rd_T45 l0_0 (rd t420 x5_1)).f1) y430)=some (r1,r2):=zH_ H hy430
     have Ny430:=As_ hy430
     clear hy430
     have H':=As_ H
     clear H
     have hnb39:=NB426_415.out
     have hnc39:=NB415_426.out
     have hnb40:=NB426_416.out
     have hnc40:=NB416_426.out
     have hnb41:=NB426_423.out
     have hnc41:=NB423_426.out
     have hnb42:=NB426_427.out
     have hnc42:=NB427_426.out
     obtain ⟨hcz43_0,hcz43_1,hcz43_2,hfz43_0,hfz43_1,hfz43_2⟩:=bk3 BK426.out
     try go_wp2
     have n0_:=As_ (Kd.R_drew HO_3.out)
     have n1_:=As_ (Kd.S_drew HO_424000.out)
     have n2_:=As_ (Kd.R_drew HO_428002.out)
     have n3_:=As_ (bkD BK415.out)
     have n4_:=As_ (bkD BK416.out)
     have n5_:=As_ (bkD BK423.out)
     have n6_:=As_ (bkD BK426.out)
     have n7_:=As_ (bkD BK427.out)
     have n8_:=As_ (bwD HB.out)
     clear HO_3 HO_424000 HO_428002 BK415 BK416 BK423 BK426 BK427 HB
     revert n0_ n1_ n2_ n3_ n4_ n5_ n6_ n7_ n8_;intro HO_3 HO_424000 HO_428002 BK415 BK416 BK423 BK426 BK427 HB
     have p428:0≤(x8_2:Int):=odT zA_
     have q428:x8_2<(((rd_T45 l0_0 (rd t420 x5_1)).f2).length:Int):=odT zA_
     obtain ⟨ad428,e428,hx428_0⟩:=Kd.at_int HR425_2.out x8_2 p428 q428
     have hw428_0:=hx428_0
     cases e428
     replace hx428_0:=bwC HB.out hx428_0
     replace p428:=eq_true p428
     replace q428:=eq_true q428
     refine start_ (n:=13) (S:=fun w'=>w'.cell? ⟨gb427,0,none⟩=some (.int .i64 ((rd_T45 l0_0 (rd t420 x5_1)).f0))∧w'.cell? ⟨gb427,1,none⟩=some (.int .i64 ((rd_T45 l0_0 (rd t420 x5_1)).f1))∧w'.cell? ⟨gb427,2,none⟩=some (u428002)∧w'.cell? ⟨gb426,0,none⟩=some (.int .i64 ((rd_T45 l0_0 (rd t420 x5_1)).f0))∧w'.cell? ⟨gb426,1,none⟩=some (.int .i64 ((rd_T45 l0_0 (rd t420 x5_1)).f1))∧w'.cell? ⟨gb426,2,none⟩=some (.slice (some ad428) ((rd_T45 l0_0 (rd t420 x5_1)).f2).length c425_2)∧w'.cell? (ad428.add (x8_2).toNat)=some (.int .i64 (rd ((rd_T45 l0_0 (rd t420 x5_1)).f2) x8_2))) (ds:=[12]) (bl_ 0 13) (by kernel_rfl) rfl rfl ⟨(bkC BK427.out 0).trans rfl,(bkC BK427.out 1).trans rfl,(bkC BK427.out 2).trans rfl,(bkC BK426.out 0).trans rfl,(bkC BK426.out 1).trans rfl,(bkC BK426.out 2).trans rfl,((HB.out.cell (bwL w _ hw428_0)).trans hw428_0)⟩ (fun hHeld=>?_);refine with_tabW spec_pruned.tab11 spec_pruned.bits11 (fun HT_ HW_=>?_)
     generalize wr.drew=w44 at HO_3 HO_424000 HO_428002 BK415 BK416 BK423 BK426 BK427 HB hx428_0 hHeld ⊢
     refine pQ 0 41 (bl_ 1 13) HT_ rfl ?_
     refine pQ 2 43 (bl_ 5 13) HT_ rfl ?_
     refine pQ 3 44 (bl_ 13 13) HT_ rfl ?_
     refine pQ 5 46 (bl_ 45 13) HT_ rfl ?_
     refine tP 1 42 (bl_ 47 13) ?_ HT_ HW_ rfl (.inl ⟨by rfl,?_⟩) hHeld ?_ ?_ ?_;rotate_left;(rintro w' ⟨s0,s1,s2,s3,s4,s5,s6⟩;go_simp;with_reducible rfl);rotate_left;(simp only [Act.put,sq_,i64_w,i32_w];rfl)
     refine tP 4 45 (bl_ 63 13) ?_ HT_ HW_ rfl (.inl ⟨by rfl,?_⟩) hHeld ?_ ?_ ?_;rotate_left;(rintro w' ⟨s0,s1,s2,s3,s4,s5,s6⟩;go_simp;with_reducible rfl);rotate_left;(simp only [Act.put,sq_,i64_w,i32_w];rfl)
     refine pQ 6 47 (bl_ 127 13) HT_ rfl ?_
     refine tP 7 48 (bl_ 255 13) ?_ HT_ HW_ rfl (.inl ⟨by rfl,?_⟩) hHeld ?_ ?_ ?_;rotate_left;(rintro w' ⟨s0,s1,s2,s3,s4,s5,s6⟩;go_simp;with_reducible rfl);rotate_left;(simp only [Act.put,sq_,i64_w,i32_w];rfl)
     refine one_ (i:=8) (N:=some 49) (bl_ 511 13) rfl rfl (one_of HT_.out (by kernel_rfl)) (by decide) (fun K hK=>?_)
     refine goes_ Try.func82 (by kernel_rfl) rfl #[.slice (some ad424) t420.length co19,.int .i64 (rd ((rd_T45 l0_0 (rd t420 x5_1)).f2) x8_2)] (by rfl) rfl rfl zM_ ?_
     with_reducible refine (spec_placeIn.calls k2 _ _ t420 (rd ((rd_T45 l0_0 (rd t420 x5_1)).f2) x8_2) t429 _ ?side1 ?side2 A37.out).mono ?_
     (case side1=>exact zC_ (Kd.R_reads' HO_3.out).2.2)
     (case side2=>exact (Kd.R_reads' HO_3.out).2.1)
     rintro e w' ⟨rfl,⟨nd,rfl⟩⟩
     refine ⟨_,rfl,?_⟩
     refine hK.out _ _ ⟨(bkC BK427.out 0).trans rfl,(bkC BK427.out 1).trans rfl,(bkC BK427.out 2).trans rfl,(bkC BK426.out 0).trans rfl,(bkC BK426.out 1).trans rfl,(bkC BK426.out 2).trans rfl,((HB.out.cell (bwL w _ hw428_0)).trans hw428_0)⟩ (fun hHeld=>?_)
     clear hK K
     refine norm_ (a':=?_) ?_ ?_
     rotate_left
     ·show Act.put _ (some 49) _=_
      simp only [Act.put,sq_,i64_w,i32_w]
      rfl
     refine one_ (i:=9) (N:=some 50) (bl_ 1023 13) rfl rfl (one_of HT_.out (by kernel_rfl)) (by decide) (fun K hK=>?_)
     refine value_ (w1:=?_) (v:=?_) (by rfl) rfl ?_ ?_
     rotate_left 2
     ·go_simp
      constructor
      ·rfl
      ·rfl
     refine hK.out _ _ ⟨(bkC (bkA BK427.out _) 0).trans rfl,(bkC (bkA BK427.out _) 1).trans rfl,(bkC (bkA BK427.out _) 2).trans rfl,(bkC (bkA BK426.out _) 0).trans rfl,(bkC (bkA BK426.out _) 1).trans rfl,(bkC (bkA BK426.out _) 2).trans rfl,(World.cell?_alloc_lt _ _ _ (bwL _ _ (((HB.out.cell (bwL w _ hw428_0)).trans hw428_0)))).trans (((HB.out.cell (bwL w _ hw428_0)).trans hw428_0))⟩ (fun hHeld=>?_)
     clear hK K
     refine norm_ (a':=?_) ?_ ?_
     rotate_left
     ·show Act.put _ (some 50) _=_
      simp only [Act.put,sq_,i64_w,i32_w]
      rfl
     refine one_ (i:=10) (N:=some 51) (bl_ 2047 13) rfl rfl (one_of HT_.out (by kernel_rfl)) (by decide) (fun K hK=>?_)
     refine Kd.R_append_step (Kd.int .i64) (w0:=w) w.heap.size (by rfl) (.tmp 42) (.tmp 50) 37 3 (.int .i64 0) 8 rfl Try.underlying37 info3 rfl (by decide) (by omega) u428002 x428002_2 t429 [.int .i64 t429] (fun k_=>some k_≠(.slice (some ad424) t420.length co19:Value).ownBlock) (fun _=>False) rfl rfl ?aP (fun _ hk=>hk.elim) ?aF ?aO ?aB ?aS ?aL ?_
     (case aP=>exact rfl)
     (case aB=>exact (zb5 HB.out GE415.out GE416.out GE423.out GE426.out GE427.out))
     (case aF=>exact (fun k_ hk=>Kd.fresh' (Kd.R_lt (zR_ HO_3.out)) k_ hk))
     (case aO=>exact (zR_ HO_428002.out))
     (case aS=>exact (bwZ (zb5 HB.out GE415.out GE416.out GE423.out GE426.out GE427.out)))
     (case aL=>have:=LMc38.out;omega)
     intro v431 w45 ho hb hg hat
     rw [← Ny430.out] at ho
     have n0_:=As_ (Kd.R_after (ok:=(fun _=>True)) (by (with_reducible repeat (first|apply Kd.R_alloc|apply Kd.R_drewN|apply Kd.R_drew));exact Kd.R_mono HO_3.out (fun _ hk=>⟨trivial,hk⟩)) hg hat)
     have n1_:=As_ (Kd.S_after (ok:=(fun k_=>some k_≠(.slice (some ad424) t420.length co19:Value).ownBlock∧k_≠gb426∧k_≠gb427)) (by (with_reducible repeat (first|apply Kd.S_alloc|apply Kd.S_drewN|apply Kd.S_drew));exact Kd.S_mono HO_424000.out (fun _ hk=>⟨⟨hk.1,⟨hk.2.2.1,hk.2.2.2⟩⟩,hk.2.1⟩)) hg hat)
     have n2_:=As_ (blk_grown (g:=gb415) (o:=.cells #[.slice (some ad425) l0_0.length c0_0,.int .i64 a0_1] 29 (0,0)) (zk_ BK415.out) hg (Kd.R_ne HO_428002.out BK415.out (by decide)))
     have n3_:=As_ (blk_grown (g:=gb416) (o:=.cells #[.slice none 0 0,.int .i64 0] 29 (0,0)) (zk_ BK416.out) hg (Kd.R_ne HO_428002.out BK416.out (by decide)))
     have n4_:=As_ (blk_grown (g:=gb423) (o:=.cells #[u424000,.int .i64 0] 29 (0,0)) (zk_ BK423.out) hg (Kd.R_ne HO_428002.out BK423.out (by decide)))
     have n5_:=As_ (blk_grown (g:=gb426) (o:=.cells #[.int .i64 ((rd_T45 l0_0 (rd t420 x5_1)).f0),.int .i64 ((rd_T45 l0_0 (rd t420 x5_1)).f1),.slice (some ad428) ((rd_T45 l0_0 (rd t420 x5_1)).f2).length c425_2] 45 (0,0)) (zk_ BK426.out) hg (Kd.R_ne HO_428002.out BK426.out (by decide)))
     have n6_:=As_ (blk_grown (g:=gb427) (o:=.cells #[.int .i64 ((rd_T45 l0_0 (rd t420 x5_1)).f0),.int .i64 ((rd_T45 l0_0 (rd t420 x5_1)).f1),u428002] 45 (0,0)) (zk_ BK427.out) hg (Kd.R_ne HO_428002.out BK427.out (by decide)))
     have n7_:=As_ (hb)
     have n8_:=As_ (ho)
     clear HO_3 HO_424000 BK415 BK416 BK423 BK426 BK427 HB HO_428002
     revert n0_ n1_ n2_ n3_ n4_ n5_ n6_ n7_ n8_;intro HO_3 HO_424000 BK415 BK416 BK423 BK426 BK427 HB HO432
     clear ho hb hg hat
     obtain ⟨Ao46,co46,eo46⟩:=Kd.R_slice HO432.out
     (first|subst eo46|(injection eo46 with f1_ f2_ f3_;have f4_:=f1_.symm;have f5_:=f3_.symm;clear f1_ f2_ f3_;subst f4_;subst f5_))
     refine hK.out _ _ ⟨(bkC BK427.out 0).trans rfl,(bkC BK427.out 1).trans rfl,(bkC BK427.out 2).trans rfl,(bkC BK426.out 0).trans rfl,(bkC BK426.out 1).trans rfl,(bkC BK426.out 2).trans rfl,((HB.out.cell (bwL w _ hw428_0)).trans hw428_0)⟩ (fun hHeld=>?_)
     clear hK K
     refine norm_ (a':=?_) ?_ ?_
     rotate_left
     ·show Act.put _ (some 51) _=_
      simp only [Act.put,sq_,i64_w,i32_w]
      rfl
     refine pQ 11 52 (bl_ 4095 13) HT_ rfl ?_
     refine last_ (i:=12) (N:=none) (bl_ 8191 13) rfl rfl (one_of HT_.out (by kernel_rfl)) (by decide) (fun K hK=>?_)
     have hs47:w45.cell? ⟨gb427,2,none⟩=some (u428002):=(bkC BK427.out 2).trans rfl
     have hfs47:=bkF BK427.out 2
     have hns47_0:=NB415_427.out
     have hns47_1:=NB416_427.out
     have hns47_2:=NB423_427.out
     have hns47_3:=NB426_427.out
     have hms47_0:=NB427_415.out
     have hms47_1:=NB427_416.out
     have hms47_2:=NB427_423.out
     have hms47_3:=NB427_426.out
     refine skip_ (w1:=?_) (by rfl) rfl ?_ ?_
     rotate_left
     ·go_simp
      rfl
     refine hK.out _ _ ?_
     clear hK K
     refine done_ (done_of HT_.out (by kernel_rfl)) ?_
     try go_wp2
     go_roundg k2
     case measure=>have:=HK1.out;have:=HK2.out;omega
     case rel=>exact ⟨(wrap64 (x8_2+1)),(y430),(.slice Ao46 y430.length co46),zT_,H',⟨by have:=HK1.out;have:=HK2.out;omega⟩,⟨by (with_reducible repeat (first|apply Kd.R_alloc|apply Kd.R_drewN|apply Kd.R_drew));exact Kd.R_mono (Kd.R_far (p:=⟨gb427,2,none⟩) (Kd.R_types HO_3.out BK427.out (by decide)) (fun _ hk=>hk.2) (.slice Ao46 y430.length co46)) (fun _ hk=>hk.1.2)⟩,⟨by (with_reducible repeat (first|apply Kd.S_alloc|apply Kd.S_drewN|apply Kd.S_drew));exact Kd.S_mono (Kd.S_far (p:=⟨gb427,2,none⟩) (Kd.S_mono HO_424000.out (fun k_ hk=>(⟨hk,hk.1.2.2⟩:_∧k_≠gb427))) (fun _ hk=>hk.2) (.slice Ao46 y430.length co46)) (fun _ hk=>⟨hk.1.1.1,⟨hk.1.2,⟨hk.1.1.2.1,hk.1.1.2.2⟩⟩⟩)⟩,⟨by (with_reducible repeat (first|apply Kd.R_alloc|apply Kd.R_drewN|apply Kd.R_drew));exact Kd.R_mono (Kd.R_far (p:=⟨gb427,2,none⟩) (Kd.R_types HO432.out BK427.out (by decide)) (fun _ hk=>hk.2) (.slice Ao46 y430.length co46)) (fun _ hk=>hk.1)⟩,⟨by (with_reducible repeat first|apply bkN|apply bkD|apply bkA);refine blk_far ?_ NB415_427.out _;(with_reducible repeat first|apply bkN|apply bkD|apply bkA);exact BK415.out⟩,⟨by (with_reducible repeat first|apply bkN|apply bkD|apply bkA);refine blk_far ?_ NB416_427.out _;(with_reducible repeat first|apply bkN|apply bkD|apply bkA);exact BK416.out⟩,⟨by (with_reducible repeat first|apply bkN|apply bkD|apply bkA);refine blk_far ?_ NB423_427.out _;(with_reducible repeat first|apply bkN|apply bkD|apply bkA);exact BK423.out⟩,⟨by (with_reducible repeat first|apply bkN|apply bkD|apply bkA);refine blk_far ?_ NB426_427.out _;(with_reducible repeat first|apply bkN|apply bkD|apply bkA);exact BK426.out⟩,⟨by (with_reducible repeat first|apply bkN|apply bkD|apply bkA);refine blk_put (cs:=#[.int .i64 ((rd_T45 l0_0 (rd t420 x5_1)).f0),.int .i64 ((rd_T45 l0_0 (rd t420 x5_1)).f1),u428002]) ?_ 2 _ rfl;(with_reducible repeat first|apply bkN|apply bkD|apply bkA);exact BK427.out⟩,⟨zb5 HB.out GE415.out GE416.out GE423.out GE426.out GE427.out⟩⟩
def spec_PrunedGraph.f (k:Nat) (l0_0:List (S45)) (a0_1:Int):Option ((List (S45)) × Int):=(spec_validGraph.f k l0_0 a0_1).bind fun t438=>(if t438=true then ((spec_pruned.f k l0_0 a0_1).bind fun bt439=>(some (bt439.1,bt439.2))) else (some (([]:List (S45)),0)))
set_option maxRecDepth 100000 in
theorem spec_PrunedGraph.mono:∀ a0 a1 k,LeO (spec_PrunedGraph.f k a0 a1) (spec_PrunedGraph.f (k+1) a0 a1):=by
 intro a0 a1 k
 unfold spec_PrunedGraph.f
 repeat' first
   | (with_reducible exact spec_pruned.mono _ _ _)
   | (with_reducible exact spec_validGraph.mono _ _ _)
   | (with_reducible exact LeO.refl _)
   | (with_reducible exact LeO.none _)
   | (with_reducible refine LeO.ite ?_ ?_)
   | (with_reducible refine LeO.bind ?_ (fun _=>?_))
   | exact spec_pruned.mono _ _ _
   | exact spec_validGraph.mono _ _ _
   | exact LeO.none _
   | refine LeO.ite ?_ ?_
   | refine LeO.bind ?_ (fun _=>?_)
set_option maxHeartbeats 8000000 in
set_option maxRecDepth 100000 in
theorem spec_PrunedGraph.calls (k:Nat) (A0_0:Option Addr) (c0_0:Nat) (l0_0:List (S45)) (a0_1:Int) (r1:List (S45)) (r2:Int) (w:World) (hr0_0:Kd.C k45 w A0_0 l0_0.length l0_0) (hc0_0:l0_0.length≤c0_0) (h:spec_PrunedGraph.f k l0_0 a0_1=some (r1,r2)) :
  Calls Try.prog 20 #[.agg #[.slice A0_0 l0_0.length c0_0,.int .i64 a0_1]] w fun e w'=>∃ v0_:Value,e=.returned (.agg #[v0_,.int .i64 r2])∧Kd.S k45 45 w' w.heap.size (fun _=>True) v0_ r1∧Below w.heap.size w w':=by
 have hu29:=Try.underlying29
 have HR0_0:=As_ hr0_0
 have HC0_0:=As_ hc0_0
 clear hr0_0 hc0_0
 have HB:=As_ (Below.refl w.heap.size w)
 have H:((spec_validGraph.f k l0_0 a0_1).bind fun t438=>(if t438=true then ((spec_pruned.f k l0_0 a0_1).bind fun bt439=>(some (bt439.1,bt439.2))) else (some (([]:List (S45)),0))))=some (r1,r2):=h
 clear h
 replace H:=obS H
 obtain ⟨t438,A20,H⟩:=H
 replace H:(if t438=true then ((spec_pruned.f k l0_0 a0_1).bind fun bt439=>(some (bt439.1,bt439.2))) else (some (([]:List (S45)),0)))=some (r1,r2):=H
 have A2:=As_ A20
 clear A20
 by_cases c3:t438=true
 rotate_left
 ·replace c3:=Bool.eq_false_iff.mpr c3
  subst c3
  have H1:(some (([]:List (S45)),0))=some (r1,r2):=by rw [if_neg (show ¬ (false=true) by decide)] at H;exact H
  clear H
  have H:=H1
  clear H1
  simp only [Option.some.injEq,Prod.mk.injEq] at H
  obtain ⟨rfl,rfl⟩:=H
  go_enter Try.func20,Try.ntmps20
  go_wp2_with (first|((with_reducible refine gate_dst (N:=1) rfl ?_);refine box_event ?hg (N:=1) ?hd (cs:=#[.slice A0_0 l0_0.length c0_0,.int .i64 a0_1]) (t:=29) ?hr ?_;(case hd=>rfl);(case hg=>rfl);(case hr=>go_simp <;> rfl);intro gb436 hg w14 hbox hb;have n0_:=As_ (bwT (zb0 HB.out) hb);have n1_:=As_ (hbox);have n2_:=As_ ((by rw [hg];exact (bwZ (zb0 HB.out)):w.heap.size≤gb436));have n3_:=As_ ((by rw [hg];exact (bwZ (zb0 HB.out)):w.heap.size≤gb436));clear HB;revert n0_ n1_ n2_ n3_;intro HB BK436 GW436 GE436;clear hb hbox hg)|((with_reducible refine gate_dst (N:=2) rfl ?_);refine box_event ?hg (N:=2) ?hd (cs:=#[.slice none 0 0,.int .i64 0]) (t:=29) ?hr ?_;(case hd=>rfl);(case hg=>rfl);(case hr=>go_simp <;> rfl);intro gb437 hg w15 hbox hb;have n0_:=As_ (zkb BK436.out hb);have n1_:=As_ (bwT (zb1 HB.out GE436.out) hb);have n2_:=As_ (hbox);have n3_:=As_ ((by rw [hg];exact (bwZ (zb1 HB.out GE436.out)):w.heap.size≤gb437));have n4_:=As_ ((by rw [hg];exact (bwZ (zb1 HB.out GE436.out)):w.heap.size≤gb437));have n5_:=As_ ((by rw [hg];exact Nat.ne_of_lt (zkl BK436.out):gb436≠gb437));have n6_:=As_ ((by rw [hg];exact Nat.ne_of_gt (zkl BK436.out):gb437≠gb436));clear BK436 HB;revert n0_ n1_ n2_ n3_ n4_ n5_ n6_;intro BK436 HB BK437 GW437 GE437 NB436_437 NB437_436;clear hb hbox hg;have hnb16:=NB436_437.out;have hnc16:=NB437_436.out;obtain ⟨hcz17_0,hcz17_1,hfz17_0,hfz17_1⟩:=bk2 BK436.out)|((with_reducible refine gate_callee (f:=48) rfl ?_);refine goesL_ (some 4) rfl rfl Try.func48 (by kernel_rfl) rfl #[.agg #[.slice A0_0 l0_0.length c0_0,.int .i64 a0_1]] rfl zM_ ?_;(with_reducible refine (spec_validGraph.calls k _ _ l0_0 a0_1 false _ ?side1 ?side2 A2.out).mono ?_);(case side1=>exact zC_ (Kd.C_below HR0_0.out HB.out));(case side2=>exact HC0_0.out);rintro e w18 ⟨rfl,hb⟩;refine ⟨_,rfl,?_⟩;have n0_:=As_ (zkb BK436.out hb);have n1_:=As_ (zkb BK437.out hb);have n2_:=As_ (bwT (zb2 HB.out GE436.out GE437.out) hb);clear BK436 BK437 HB;revert n0_ n1_ n2_;intro BK436 BK437 HB;obtain ⟨hcz19_0,hcz19_1,hfz19_0,hfz19_1⟩:=bk2 BK437.out))
  refine bodyPost_ret (results_cell_row rfl _ _ gb437 29 #[.slice none 0 0,.int .i64 0] (0,0) _ rfl (by (with_reducible repeat first|apply bkN|apply bkD|apply bkA);refine blk_put (cs:=#[.slice none 0 0,.int .i64 0]) ?_ 1 _ rfl;(with_reducible repeat first|apply bkN|apply bkD|apply bkA);refine blk_put (cs:=#[.slice none 0 0,.int .i64 0]) ?_ 0 _ rfl;(with_reducible repeat first|apply bkN|apply bkD|apply bkA);exact BK437.out) Try.underlying29 rfl (by kernel_rfl)) rfl ?_
  exact ⟨_,zE_,by first|exact Kd.S_nil _ _ _ _ _|exact Kd.N_nil _ _ _ _ _|exact Kd.V_nil _ _ _ _ _|exact Kd.Q_nil _ _ _ _ _|exact Kd.R_nil _ _ _ _ _,zb2 HB.out GE436.out GE437.out⟩
 subst c3
 have H1:((spec_pruned.f k l0_0 a0_1).bind fun bt439=>(some (bt439.1,bt439.2)))=some (r1,r2):=by rw [if_pos rfl] at H;exact H
 clear H
 have H:=H1
 clear H1
 replace H:=obS H
 obtain ⟨⟨t439,t442⟩,A40,H⟩:=H
 replace H:(some (t439,t442))=some (r1,r2):=H
 have A4:=As_ A40
 clear A40
 simp only [Option.some.injEq,Prod.mk.injEq] at H
 obtain ⟨rfl,rfl⟩:=H
 go_enter Try.func20,Try.ntmps20
 go_wp2_with (first|((with_reducible refine gate_dst (N:=1) rfl ?_);refine box_event ?hg (N:=1) ?hd (cs:=#[.slice A0_0 l0_0.length c0_0,.int .i64 a0_1]) (t:=29) ?hr ?_;(case hd=>rfl);(case hg=>rfl);(case hr=>go_simp <;> rfl);intro gb436 hg w5 hbox hb;have n0_:=As_ (bwT (zb0 HB.out) hb);have n1_:=As_ (hbox);have n2_:=As_ ((by rw [hg];exact (bwZ (zb0 HB.out)):w.heap.size≤gb436));have n3_:=As_ ((by rw [hg];exact (bwZ (zb0 HB.out)):w.heap.size≤gb436));clear HB;revert n0_ n1_ n2_ n3_;intro HB BK436 GW436 GE436;clear hb hbox hg)|((with_reducible refine gate_dst (N:=2) rfl ?_);refine box_event ?hg (N:=2) ?hd (cs:=#[.slice none 0 0,.int .i64 0]) (t:=29) ?hr ?_;(case hd=>rfl);(case hg=>rfl);(case hr=>go_simp <;> rfl);intro gb437 hg w6 hbox hb;have n0_:=As_ (zkb BK436.out hb);have n1_:=As_ (bwT (zb1 HB.out GE436.out) hb);have n2_:=As_ (hbox);have n3_:=As_ ((by rw [hg];exact (bwZ (zb1 HB.out GE436.out)):w.heap.size≤gb437));have n4_:=As_ ((by rw [hg];exact (bwZ (zb1 HB.out GE436.out)):w.heap.size≤gb437));have n5_:=As_ ((by rw [hg];exact Nat.ne_of_lt (zkl BK436.out):gb436≠gb437));have n6_:=As_ ((by rw [hg];exact Nat.ne_of_gt (zkl BK436.out):gb437≠gb436));clear BK436 HB;revert n0_ n1_ n2_ n3_ n4_ n5_ n6_;intro BK436 HB BK437 GW437 GE437 NB436_437 NB437_436;clear hb hbox hg;have hnb7:=NB436_437.out;have hnc7:=NB437_436.out;obtain ⟨hcz8_0,hcz8_1,hfz8_0,hfz8_1⟩:=bk2 BK436.out)|((with_reducible refine gate_callee (f:=48) rfl ?_);refine goesL_ (some 4) rfl rfl Try.func48 (by kernel_rfl) rfl #[.agg #[.slice A0_0 l0_0.length c0_0,.int .i64 a0_1]] rfl zM_ ?_;(with_reducible refine (spec_validGraph.calls k _ _ l0_0 a0_1 true _ ?side1 ?side2 A2.out).mono ?_);(case side1=>exact zC_ (Kd.C_below HR0_0.out HB.out));(case side2=>exact HC0_0.out);rintro e w9 ⟨rfl,hb⟩;refine ⟨_,rfl,?_⟩;have n0_:=As_ (zkb BK436.out hb);have n1_:=As_ (zkb BK437.out hb);have n2_:=As_ (bwT (zb2 HB.out GE436.out GE437.out) hb);clear BK436 BK437 HB;revert n0_ n1_ n2_;intro BK436 BK437 HB;obtain ⟨hcz10_0,hcz10_1,hfz10_0,hfz10_1⟩:=bk2 BK436.out)|((with_reducible refine gate_callee (f:=56) rfl ?_);refine goesL_ (some 8) rfl rfl Try.func56 (by kernel_rfl) rfl #[.agg #[.slice A0_0 l0_0.length c0_0,.int .i64 a0_1]] rfl zM_ ?_;(with_reducible refine (spec_pruned.calls k _ _ l0_0 a0_1 t439 t442 _ ?side1 ?side2 A4.out).mono ?_);(case side1=>exact zC_ (Kd.C_below HR0_0.out HB.out));(case side2=>exact HC0_0.out);rintro e w11 ⟨v440,rfl,ho0,hb⟩;refine ⟨_,rfl,?_⟩;have n0_:=As_ (Kd.S_lower ho0 (bwZ (zb2 HB.out GE436.out GE437.out)));have n1_:=As_ (zkb BK436.out hb);have n2_:=As_ (zkb BK437.out hb);have n3_:=As_ (bwT (zb2 HB.out GE436.out GE437.out) hb);clear BK436 BK437 HB;revert n0_ n1_ n2_ n3_;intro HO441 BK436 BK437 HB;obtain ⟨Ao12,co12,eo12⟩:=Kd.S_slice HO441.out;subst eo12;obtain ⟨hcz13_0,hcz13_1,hfz13_0,hfz13_1⟩:=bk2 BK437.out))
 refine bodyPost_ret (results_cell_row rfl _ _ gb437 29 #[.slice Ao12 t439.length co12,.int .i64 t442] (0,0) _ rfl (by (with_reducible repeat first|apply bkN|apply bkD|apply bkA);refine blk_put (cs:=#[.slice Ao12 t439.length co12,.int .i64 0]) ?_ 1 _ rfl;(with_reducible repeat first|apply bkN|apply bkD|apply bkA);refine blk_put (cs:=#[.slice none 0 0,.int .i64 0]) ?_ 0 _ rfl;(with_reducible repeat first|apply bkN|apply bkD|apply bkA);exact BK437.out) Try.underlying29 rfl (by kernel_rfl)) rfl ?_
 exact ⟨_,zE_,by (with_reducible repeat (first|apply Kd.S_alloc|apply Kd.S_drewN|apply Kd.S_drew));exact Kd.S_mono (Kd.S_far (p:=⟨gb437,1,none⟩) (Kd.S_far (p:=⟨gb437,0,none⟩) (Kd.S_types HO441.out BK437.out (by decide)) (fun _ hk=>hk.2) (.slice Ao12 t439.length co12)) (fun _ hk=>hk.2) (.int .i64 t442)) (fun _ hk=>trivial),zb2 HB.out GE436.out GE437.out⟩
end Go.Proofs.Ytfhakhbmbnbneaa.Q
