import Derived.Test.YtfhakhbmbnbneaaQ0
import Derived.Test.YtfhakhbmbnbneaaQ81
namespace Go.Proofs.Ytfhakhbmbnbneaa.Q
open Go.RowKit Go.Proofs.YtfhakhbmbnbneaaW.PrintWords Go.Proofs.YtfhakhbmbnbneaaW.PrintLast Go.Proofs.YtfhakhbmbnbneaaW.PrintMore
attribute [local go_sem] max2_int min2_int max_two min_two max_three min_three max_four min_four
set_option linter.unusedVariables false
set_option linter.unusedSimpArgs false
mutual
def spec_reach.l0:Nat→Int→List Int→Int→List (S45)→Int→Option (List Int)
 | 0,_,_,_,_,_=>none
 | k+1,x1,x2,x7,x402000,x402001=>if 0≤x1 then (if x1<(x402000.length:Int) then (if x7<(((rd_T45 x402000 x1).f2).length:Int) then (if 0≤x7 then ((spec_reach.f k x402000 x402001 (rd ((rd_T45 x402000 x1).f2) x7) x2).bind fun t412=>(spec_reach.l0 k x1 t412 (wrap64 (x7+1)) x402000 x402001)) else (none)) else (some x2)) else (none)) else (none)
def spec_reach.f:Nat→List (S45)→Int→Int→List Int→Option (List Int)
 | 0,_,_,_,_=>none
 | k+1,l0_0,a0_1,a1,l2=>(spec_placeIn.f k l2 a1).bind fun t402=>(if t402≥0 then (some l2) else ((spec_copyInts.f l2).bind fun t403=>(if t403.length<17592186044416 then (spec_reach.l0 k a1 (t403++[a1]) 0 l0_0 a0_1) else (none))))
end
set_option maxRecDepth 100000 in
theorem spec_reach.mono_l:∀ k,(∀ y0 y1 y2 y3,LeO (spec_reach.f k y0 y1 y2 y3) (spec_reach.f (k+1) y0 y1 y2 y3))∧(∀ y0 y1 y2 y3 y4,LeO (spec_reach.l0 k y0 y1 y2 y3 y4) (spec_reach.l0 (k+1) y0 y1 y2 y3 y4))
 | 0=>⟨fun _ _ _ _ r h=>(by cases h),fun _ _ _ _ _ r h=>(by cases h)⟩
 | k+1=>by
  obtain ⟨ih0,ih1⟩:=spec_reach.mono_l k
  refine ⟨?_,?_⟩
  ·intro y0 y1 y2 y3
   unfold spec_reach.f
   repeat' first
   | (with_reducible exact ih0 _ _ _ _)
   | (with_reducible exact ih1 _ _ _ _ _)
   | (with_reducible exact spec_placeIn.mono _ _ _)
   | (with_reducible exact LeO.refl _)
   | (with_reducible exact LeO.none _)
   | (with_reducible refine LeO.ite ?_ ?_)
   | (with_reducible refine LeO.bind ?_ (fun _=>?_))
   | exact ih0 _ _ _ _
   | exact ih1 _ _ _ _ _
   | exact spec_placeIn.mono _ _ _
   | exact LeO.none _
   | refine LeO.ite ?_ ?_
   | refine LeO.bind ?_ (fun _=>?_)
  ·intro y0 y1 y2 y3 y4
   unfold spec_reach.l0
   repeat' first
   | (with_reducible exact ih0 _ _ _ _)
   | (with_reducible exact ih1 _ _ _ _ _)
   | (with_reducible exact spec_placeIn.mono _ _ _)
   | (with_reducible exact LeO.refl _)
   | (with_reducible exact LeO.none _)
   | (with_reducible refine LeO.ite ?_ ?_)
   | (with_reducible refine LeO.bind ?_ (fun _=>?_))
   | exact ih0 _ _ _ _
   | exact ih1 _ _ _ _ _
   | exact spec_placeIn.mono _ _ _
   | exact LeO.none _
   | refine LeO.ite ?_ ?_
   | refine LeO.bind ?_ (fun _=>?_)
set_option maxRecDepth 100000 in
theorem spec_reach.mono:∀ a0 a1 a2 a3 k,LeO (spec_reach.f k a0 a1 a2 a3) (spec_reach.f (k+1) a0 a1 a2 a3):=by
 intro a0 a1 a2 a3 k
 obtain ⟨ih0,ih1⟩:=spec_reach.mono_l k
 exact ih0 a0 a1 a2 a3
def spec_reach.T7:Bool × List (List Nat × List Nat):=(true,[([],[]),([],[]),([1],[1]),([],[]),([2,3],[2,3]),([4],[4]),([5],[5]),([],[]),([6,7],[6,7]),([8],[8]),([],[]),([0,9,10],[0,9,10]),([11,11,0,1,2,3,4,5,6,7,8,9,10,11],[10,11])])
def spec_reach.B7:List Nat:=[0,0,2,0,14,30,62,0,254,510,0,2047,4095]
theorem spec_reach.tab7:rtab .any (opsOf Try.f73 7)=spec_reach.T7:=by kernel_rfl
theorem spec_reach.bits7:waitsOk spec_reach.T7.2 spec_reach.B7=true:=by kernel_rfl
set_option maxHeartbeats 8000000 in
set_option maxRecDepth 100000 in
theorem spec_reach.calls (k:Nat):∀ (A0_0:Option Addr) (c0_0:Nat) (l0_0:List (S45)) (a0_1:Int) (a1:Int) (P2_:Nat→Prop) (u9000_:Value) (l2:List Int) (r:List Int) (w0 w:World) (hB:Below w0.heap.size w0 w) (hr0_0:∀ W_,Kept w W_ (fun k_=>P2_ k_)→Kd.C k45 W_ A0_0 l0_0.length l0_0) (hc0_0:l0_0.length≤c0_0) (ho2:Kd.R (Kd.int .i64) 3 w w0.heap.size P2_ u9000_ l2) (h:spec_reach.f k l0_0 a0_1 a1 l2=some r),
  Calls Try.prog 73 #[.agg #[.slice A0_0 l0_0.length c0_0,.int .i64 a0_1],.int .i64 a1,u9000_] w fun e w'=>∃ v0_:Value,e=.returned (v0_)∧Kd.R (Kd.int .i64) 3 w' w0.heap.size (fun k_=>(P2_ k_∨w.heap.size≤k_)) v0_ r∧Below w0.heap.size w0 w'∧Kept w w' (fun k_=>P2_ k_):=by
 induction k using Nat.strongRecOn with
 | _ k ih=>
 intro A0_0 c0_0 l0_0 a0_1 a1 P2_ u9000_ l2 r w0 w hB hr0_0 hc0_0 ho2 h
 cases k with
 | zero=>exact absurd h (by simp [spec_reach.f])
 | succ k=>
 simp only [spec_reach.f] at h
 have hu29:=Try.underlying29
 have HR0_0:=As_ hr0_0
 have HC0_0:=As_ hc0_0
 clear hr0_0 hc0_0
 have HO2:=As_ (show Kd.R (Kd.int .i64) 3 w w0.heap.size (fun k_=>(P2_ k_∨w.heap.size≤k_)) u9000_ l2 from Kd.R_mono ho2 (fun k_ hk=>(.inl hk)))
 have HK:=As_ (Kept.refl w (fun k_=>P2_ k_))
 have HW0:=As_ hB.size
 have HB:=As_ hB
 clear hB
 have H:((spec_placeIn.f k l2 a1).bind fun t402=>(if t402≥0 then (some l2) else ((spec_copyInts.f l2).bind fun t403=>(if t403.length<17592186044416 then (spec_reach.l0 k a1 (t403++[a1]) 0 l0_0 a0_1) else (none)))))=some r:=h
 clear h
 replace H:=obS H
 obtain ⟨t402,A40,H⟩:=H
 replace H:(if t402≥0 then (some l2) else ((spec_copyInts.f l2).bind fun t403=>(if t403.length<17592186044416 then (spec_reach.l0 k a1 (t403++[a1]) 0 l0_0 a0_1) else (none))))=some r:=H
 have A4:=As_ A40
 clear A40
 by_cases c5:t402≥0
 ·rw [if_pos c5] at H
  have c5b0:decide (0≤t402)=true:=deT c5
  clear c5
  obtain rfl:=Option.some.inj H
  go_enter Try.func73,Try.ntmps73
  go_wp2_with (first|((with_reducible refine gate_dst (N:=3) rfl ?_);refine box_event ?hg (N:=3) ?hd (cs:=#[.slice A0_0 l0_0.length c0_0,.int .i64 a0_1]) (t:=29) ?hr ?_;(case hd=>rfl);(case hg=>rfl);(case hr=>go_simp <;> rfl);intro gb401 hg w6 hbox hb;have n0_:=As_ (Kd.R_below (zR_ HO2.out) hb);have n1_:=As_ (Kept.below (S:=(fun k_=>P2_ k_)) (zq0 HK.out) hb);have n2_:=As_ (bwT (zb0 HB.out) hb);have n3_:=As_ (hbox);have n4_:=As_ ((by rw [hg];exact (by first|exact HK.out.1|exact (show Kept w _ (fun k_=>P2_ k_) from zq0 HK.out).1):w.heap.size≤gb401));have n5_:=As_ ((by rw [hg];exact (bwZ (zb0 HB.out)):w0.heap.size≤gb401));clear HO2 HK HB;revert n0_ n1_ n2_ n3_ n4_ n5_;intro HO2 HK HB BK401 GW401 GE401;clear hb hbox hg;obtain ⟨Ao7,co7,eo7⟩:=Kd.R_slice HO2.out;subst eo7)|((with_reducible refine gate_callee (f:=82) rfl ?_);refine goesL_ (some 10) rfl rfl Try.func82 (by kernel_rfl) rfl #[.slice Ao7 l2.length co7,.int .i64 a1] rfl zM_ ?_;(with_reducible refine (spec_placeIn.calls k _ _ l2 a1 t402 _ ?side1 ?side2 A4.out).mono ?_);(case side1=>exact zC_ (Kd.R_reads' HO2.out).2.2);(case side2=>exact (Kd.R_reads' HO2.out).2.1);rintro e w' ⟨rfl,⟨nd,rfl⟩⟩;refine ⟨_,rfl,?_⟩))
  go_ret
  exact ⟨_,zE_,by (with_reducible repeat (first|apply Kd.R_alloc|apply Kd.R_drewN|apply Kd.R_drew));exact HO2.out,zb1 HB.out GE401.out,zq1 HK.out GW401.out⟩
 rw [if_neg c5] at H
 have c5b0:decide (0≤t402)=false:=deF c5
 clear c5
 replace H:=obS H
 obtain ⟨t403,A80,H⟩:=H
 replace H:(if t403.length<17592186044416 then (spec_reach.l0 k a1 (t403++[a1]) 0 l0_0 a0_1) else (none))=some r:=H
 have A8:=As_ A80
 clear A80
 by_cases c9:t403.length<17592186044416
 rotate_left
 ·rw [if_neg c9] at H
  exact absurd H (by simp)
 rw [if_pos c9] at H
 have LMc9:=As_ c9
 clear c9
 obtain ⟨y406,hy406⟩:∃ y_:List Int,y_=(t403++[a1]):=⟨_,rfl⟩
 replace H:(spec_reach.l0 k a1 y406 0 l0_0 a0_1)=some r:=zH_ H hy406
 have Ny406:=As_ hy406
 clear hy406
 have H':=As_ H
 clear H
 go_enter Try.func73,Try.ntmps73
 go_wp2_with (first|((with_reducible refine gate_dst (N:=3) rfl ?_);refine box_event ?hg (N:=3) ?hd (cs:=#[.slice A0_0 l0_0.length c0_0,.int .i64 a0_1]) (t:=29) ?hr ?_;(case hd=>rfl);(case hg=>rfl);(case hr=>go_simp <;> rfl);intro gb401 hg w10 hbox hb;have n0_:=As_ (Kd.R_below (zR_ HO2.out) hb);have n1_:=As_ (Kept.below (S:=(fun k_=>P2_ k_)) (zq0 HK.out) hb);have n2_:=As_ (bwT (zb0 HB.out) hb);have n3_:=As_ (hbox);have n4_:=As_ ((by rw [hg];exact (by first|exact HK.out.1|exact (show Kept w _ (fun k_=>P2_ k_) from zq0 HK.out).1):w.heap.size≤gb401));have n5_:=As_ ((by rw [hg];exact (bwZ (zb0 HB.out)):w0.heap.size≤gb401));clear HO2 HK HB;revert n0_ n1_ n2_ n3_ n4_ n5_;intro HO2 HK HB BK401 GW401 GE401;clear hb hbox hg;obtain ⟨Ao11,co11,eo11⟩:=Kd.R_slice HO2.out;subst eo11)|((with_reducible refine gate_callee (f:=82) rfl ?_);refine goesL_ (some 10) rfl rfl Try.func82 (by kernel_rfl) rfl #[.slice Ao11 l2.length co11,.int .i64 a1] rfl zM_ ?_;(with_reducible refine (spec_placeIn.calls k _ _ l2 a1 t402 _ ?side1 ?side2 A4.out).mono ?_);(case side1=>exact zC_ (Kd.R_reads' HO2.out).2.2);(case side2=>exact (Kd.R_reads' HO2.out).2.1);rintro e w' ⟨rfl,⟨nd,rfl⟩⟩;refine ⟨_,rfl,?_⟩)|((with_reducible refine gate_callee (f:=78) rfl ?_);refine goesL_ (some 14) rfl rfl Try.func78 (by kernel_rfl) rfl #[.slice Ao11 l2.length co11] rfl zM_ ?_;(with_reducible refine (spec_copyInts.calls _ _ l2 t403 _ ?side1 ?side2 A8.out).mono ?_);(case side1=>exact zC_ (Kd.R_reads' HO2.out).2.2);(case side2=>exact (Kd.R_reads' HO2.out).2.1);rintro e w12 ⟨v404,rfl,ho0,hb⟩;refine ⟨_,rfl,?_⟩;have n0_:=As_ (Kd.R_elder' (zR_ HO2.out) (Kd.R_base ho0) hb);have n1_:=As_ (Kd.R_lower (Kd.R_new' (Kd.R_newM (M:=fun k_=>(P2_ k_∨w.heap.size≤k_)) ho0 (by first|exact HK.out.1|exact (show Kept w _ (fun k_=>P2_ k_) from zq1 HK.out GW401.out).1) (fun k_ h_=>.inr h_)) (Kd.R_lt (zR_ HO2.out))) (bwZ (zb1 HB.out GE401.out)));have n2_:=As_ (zkb BK401.out hb);have n3_:=As_ (Kept.below (S:=(fun k_=>P2_ k_)) (zq1 HK.out GW401.out) hb);have n4_:=As_ (bwT (zb1 HB.out GE401.out) hb);clear HO2 BK401 HK HB;revert n0_ n1_ n2_ n3_ n4_;intro HO2 HO405 BK401 HK HB)|((with_reducible refine gate_builtin (b:=.append) (xs:=#[.tmp 14,.tmp 16]) rfl ?_);at_builtin;refine Kd.R_append (Kd.int .i64) (w0:=w0) w0.heap.size rfl (.tmp 14) (.tmp 16) 37 3 (.int .i64 0) 8 rfl Try.underlying37 info3 rfl (by decide) (by omega) v404 t403 a1 [.int .i64 a1] (fun k_=>(P2_ k_∨w.heap.size≤k_)∧some k_≠(.slice Ao11 l2.length co11:Value).ownBlock) (fun _=>False) rfl rfl ?aP (fun _ hk=>hk.elim) ?aF ?aO ?aB ?aS ?aL ?_;(case aP=>exact rfl);(case aB=>exact (zb1 HB.out GE401.out));(case aF=>exact (fun k_ hk=>⟨(.inr (Nat.le_trans (by first|exact HK.out.1|exact (show Kept w _ (fun k_=>P2_ k_) from zq1 HK.out GW401.out).1) hk)),Kd.fresh' (Kd.R_lt (zR_ HO2.out)) k_ hk⟩));(case aO=>exact (by (with_reducible repeat (first|apply Kd.R_alloc|apply Kd.R_drewN|apply Kd.R_drew));exact Kd.R_mono HO405.out (fun _ hk=>⟨hk.1.1,hk.2⟩)));(case aS=>exact (bwZ (zb1 HB.out GE401.out)));(case aL=>have:=LMc9.out;omega);intro v407 w13 ho hb hg hat;rw [← Ny406.out] at ho;have n0_:=As_ (Kd.R_after (ok:=(fun k_=>(P2_ k_∨w.heap.size≤k_))) (zR_ HO2.out) hg hat);have n1_:=As_ (blk_grown (g:=gb401) (o:=.cells #[.slice A0_0 l0_0.length c0_0,.int .i64 a0_1] 29 (0,0)) (zk_ BK401.out) hg (Kd.R_ne HO405.out BK401.out (by decide)));have n2_:=As_ (hb);have n3_:=As_ (Kept.of_grown (S:=(fun k_=>P2_ k_)) hg (zq1 HK.out GW401.out) (fun k_ e_=>(HO405.out.1 k_ e_).1.1));have n4_:=As_ (ho);clear HO2 BK401 HB HK HO405;revert n0_ n1_ n2_ n3_ n4_;intro HO2 BK401 HB HK HO408;clear ho hb hg hat))
 go_loopg [2,7] k (fun kq v2 v7 w'=>∃ (x2_1:List Int) (x7_1:Int),v7=.int .i64 x7_1∧Aside0 (spec_reach.l0 kq a1 x2_1 x7_1 l0_0 a0_1=some r)∧Aside0 (kq≤k)∧Aside0 (Kd.R (Kd.int .i64) 3 w' w0.heap.size (fun k_=>(P2_ k_∨w.heap.size≤k_)) v2 x2_1)∧Aside0 (w'.heap[gb401]?=some (.cells #[(.slice A0_0 l0_0.length c0_0),.int .i64 a0_1] 29 (0,0)))∧Aside0 (Kept w w' (fun k_=>P2_ k_))∧Aside0 (Below w0.heap.size w0 w'))
 case atStart=>exact ⟨(y406),(0),zT_,H',⟨Nat.le_refl _⟩,⟨by (with_reducible repeat (first|apply Kd.R_alloc|apply Kd.R_drewN|apply Kd.R_drew));exact Kd.R_mono HO408.out (fun _ hk=>hk.1)⟩,⟨by (with_reducible repeat first|apply bkN|apply bkD|apply bkA);exact BK401.out⟩,⟨zq1 HK.out GW401.out⟩,⟨zb1 HB.out GE401.out⟩⟩
 case round=>
  clear H'
  obtain ⟨x2_1,x7_1,rfl,HA,HK1,HO_2,BK401,HK,HB⟩:=hrel
  cases gk with
  | zero=>exact absurd HA.out (fun h_=>(by cases h_))
  | succ k1=>
   have H:=HA.out
   clear HA
   simp only [spec_reach.l0] at H
   by_cases c14:0≤a1
   rotate_left
   ·rw [if_neg c14] at H
    exact absurd H (by simp)
   rw [if_pos c14] at H
   have c14b0:decide (0≤a1)=true:=deT c14
   clear c14
   by_cases c15:a1<(l0_0.length:Int)
   rotate_left
   ·rw [if_neg c15] at H
    exact absurd H (by simp)
   rw [if_pos c15] at H
   have c15b0:decide (a1<(l0_0.length:Int))=true:=deT c15
   clear c15
   by_cases c16:x7_1<(((rd_T45 l0_0 a1).f2).length:Int)
   rotate_left
   ·rw [if_neg c16] at H
    have c16b0:decide (x7_1<(((rd_T45 l0_0 a1).f2).length:Int))=false:=deF c16
    clear c16
    obtain rfl:=Option.some.inj H
    obtain ⟨hcz23_0,hcz23_1,hfz23_0,hfz23_1⟩:=bk2 BK401.out
    have p409:0≤(a1:Int):=odT zA_
    have q409:a1<(l0_0.length:Int):=odT zA_
    obtain ⟨ad409,A409_2,c409_2,e409,hx409_0,hx409_1,hx409_2,hl409_2,hi409_2⟩:=at_T45 (Kd.C_kept_now HR0_0.out HK.out) a1 p409 q409
    cases e409
    have HR409_2:=As_ hi409_2
    have HC409_2:=As_ hl409_2
    clear hi409_2 hl409_2
    replace p409:=eq_true p409
    replace q409:=eq_true q409
    go_wp2
    go_ret
    exact ⟨_,zE_,by (with_reducible repeat (first|apply Kd.R_alloc|apply Kd.R_drewN|apply Kd.R_drew));exact HO_2.out,zb1 HB.out GE401.out,zq1 HK.out GW401.out⟩
   rw [if_pos c16] at H
   have c16b0:decide (x7_1<(((rd_T45 l0_0 a1).f2).length:Int))=true:=deT c16
   clear c16
   by_cases c17:0≤x7_1
   rotate_left
   ·rw [if_neg c17] at H
    exact absurd H (by simp)
   rw [if_pos c17] at H
   have c17b0:decide (0≤x7_1)=true:=deT c17
   clear c17
   replace H:=obS H
   obtain ⟨t412,A180,H⟩:=H
   replace H:(spec_reach.l0 k1 a1 t412 (wrap64 (x7_1+1)) l0_0 a0_1)=some r:=H
   have A18:=As_ A180
   clear A180
   have H':=As_ H
   clear H
   obtain ⟨hcz19_0,hcz19_1,hfz19_0,hfz19_1⟩:=bk2 BK401.out
   have p409:0≤(a1:Int):=odT zA_
   have q409:a1<(l0_0.length:Int):=odT zA_
   obtain ⟨ad409,A409_2,c409_2,e409,hx409_0,hx409_1,hx409_2,hl409_2,hi409_2⟩:=at_T45 (Kd.C_kept_now HR0_0.out HK.out) a1 p409 q409
   cases e409
   have HR409_2:=As_ hi409_2
   have HC409_2:=As_ hl409_2
   clear hi409_2 hl409_2
   replace p409:=eq_true p409
   replace q409:=eq_true q409
   try go_wp2
   have n0_:=As_ (Kd.R_drew HO_2.out)
   have n1_:=As_ (bkD BK401.out)
   have n2_:=As_ (Kd.C_drew HR409_2.out)
   have n3_:=As_ (Kept.drew HK.out)
   have n4_:=As_ (bwD HB.out)
   clear HO_2 BK401 HR409_2 HK HB
   revert n0_ n1_ n2_ n3_ n4_;intro HO_2 BK401 HR409_2 HK HB
   have p410:0≤(a1:Int):=odT zA_
   have q410:a1<(l0_0.length:Int):=odT zA_
   obtain ⟨ad410,A410_2,c410_2,e410,hx410_0,hx410_1,hx410_2,hl410_2,hi410_2⟩:=at_T45 (Kd.C_kept_now HR0_0.out HK.out) a1 p410 q410
   have hw410_2:=hx410_2
   have hw410_1:=hx410_1
   have hw410_0:=hx410_0
   obtain rfl:ad409=ad410:=(by injection e410)
   have HR410_2:=As_ hi410_2
   have HC410_2:=As_ hl410_2
   clear hi410_2 hl410_2
   replace p410:=eq_true p410
   replace q410:=eq_true q410
   have p411:0≤(x7_1:Int):=odT zA_
   have q411:x7_1<(((rd_T45 l0_0 a1).f2).length:Int):=odT zA_
   obtain ⟨ad411,e411,hx411_0⟩:=Kd.at_int (by repeat (first|(with_reducible exact HR410_2.out)|(with_reducible refine Kd.C_alloc ?_ _)|(with_reducible refine Kd.C_drewN ?_ _)|(with_reducible refine Kd.C_drew ?_)|exact HR410_2.out)) x7_1 p411 q411
   cases e411
   replace p411:=eq_true p411
   replace q411:=eq_true q411
   obtain ⟨Ao21,co21,eo21⟩:=Kd.R_slice HO_2.out
   (first|subst eo21|(injection eo21 with f1_ f2_ f3_;have f4_:=f1_.symm;have f5_:=f3_.symm;clear f1_ f2_ f3_;subst f4_;subst f5_))
   refine start_ (n:=13) (S:=fun w'=>w'.cell? ⟨gb401,0,none⟩=some (.slice (some ad409) l0_0.length c0_0)∧w'.cell? ⟨gb401,1,none⟩=some (.int .i64 a0_1)∧w'.cell? (ad409.add ((a1).toNat * 3))=some (.int .i64 ((rd_T45 l0_0 a1).f0))∧w'.cell? ⟨(ad409.add ((a1).toNat * 3)).block,(ad409.add ((a1).toNat * 3)).off+1,none⟩=some (.int .i64 ((rd_T45 l0_0 a1).f1))∧w'.cell? ⟨(ad409.add ((a1).toNat * 3)).block,(ad409.add ((a1).toNat * 3)).off+2,none⟩=some (.slice (some ad411) ((rd_T45 l0_0 a1).f2).length c410_2)∧w'.cell? (ad411.add (x7_1).toNat)=some (.int .i64 (rd ((rd_T45 l0_0 a1).f2) x7_1))) (ds:=[11]) (bl_ 0 13) (by kernel_rfl) rfl rfl ⟨(bkC BK401.out 0).trans rfl,(bkC BK401.out 1).trans rfl,hx410_0,hx410_1,hx410_2,hx411_0⟩ (fun hHeld=>?_);refine with_tabW spec_reach.tab7 spec_reach.bits7 (fun HT_ HW_=>?_)
   generalize wr.drew=w20 at HO_2 BK401 HR409_2 HK HB HR410_2 hx410_0 hx410_1 hx410_2 hx411_0 hHeld ⊢
   refine pQ 1 30 (bl_ 2 13) HT_ rfl ?_
   refine pQ 3 32 (bl_ 10 13) HT_ rfl ?_
   refine pQ 7 36 (bl_ 138 13) HT_ rfl ?_
   refine pQ 10 39 (bl_ 1162 13) HT_ rfl ?_
   refine tP 0 29 (bl_ 1163 13) ?_ HT_ HW_ rfl (.inl ⟨by rfl,?_⟩) hHeld ?_ ?_ ?_;rotate_left;(rintro w' ⟨s0,s1,s2,s3,s4,s5⟩;go_simp;with_reducible rfl);rotate_left;(simp only [Act.put,sq_,i64_w,i32_w];rfl)
   refine tP 2 31 (bl_ 1167 13) ?_ HT_ HW_ rfl (.inl ⟨by rfl,?_⟩) hHeld ?_ ?_ ?_;rotate_left;(rintro w' ⟨s0,s1,s2,s3,s4,s5⟩;go_simp;with_reducible rfl);rotate_left;(simp only [Act.put,sq_,i64_w,i32_w];rfl)
   refine pQ 4 33 (bl_ 1183 13) HT_ rfl ?_
   refine pQ 5 34 (bl_ 1215 13) HT_ rfl ?_
   refine tP 6 35 (bl_ 1279 13) ?_ HT_ HW_ rfl (.inl ⟨by rfl,?_⟩) hHeld ?_ ?_ ?_;rotate_left;(rintro w' ⟨s0,s1,s2,s3,s4,s5⟩;go_simp;with_reducible rfl);rotate_left;(simp only [Act.put,sq_,i64_w,i32_w];rfl)
   refine pQ 8 37 (bl_ 1535 13) HT_ rfl ?_
   refine tP 9 38 (bl_ 2047 13) ?_ HT_ HW_ rfl (.inl ⟨by rfl,?_⟩) hHeld ?_ ?_ ?_;rotate_left;(rintro w' ⟨s0,s1,s2,s3,s4,s5⟩;go_simp;with_reducible rfl);rotate_left;(simp only [Act.put,sq_,i64_w,i32_w];rfl)
   refine last_ (i:=11) (N:=some 40) (bl_ 4095 13) rfl rfl (one_of HT_.out (by kernel_rfl)) (by decide) (fun K hK=>?_)
   refine goes_ Try.func73 (by kernel_rfl) rfl #[.agg #[.slice (some ad409) l0_0.length c0_0,.int .i64 a0_1],.int .i64 (rd ((rd_T45 l0_0 a1).f2) x7_1),.slice Ao21 x2_1.length co21] (by rfl) rfl rfl zM_ ?_
   with_reducible refine (ih k1 (by have:=HK1.out;omega) _ _ l0_0 a0_1 (rd ((rd_T45 l0_0 a1).f2) x7_1) (fun k_=>some k_=(.slice Ao21 x2_1.length co21:Value).ownBlock) (.slice Ao21 x2_1.length co21) x2_1 t412 w0 _ ?side1 ?side2 ?side3 ?side4 A18.out).mono ?_
   (case side1=>exact zb1 HB.out GE401.out)
   (case side2=>exact Kd.C_kept_call HR0_0.out (zq1 HK.out GW401.out) (fun k_ hs_=>(fun e_=>(HO_2.out.1 k_ e_.symm)) hs_))
   (case side3=>exact HC0_0.out)
   (case side4=>exact Kd.R_tight rfl HO_2.out)
   rintro e w22 ⟨v413,rfl,ho0,hb,hkp⟩
   refine ⟨_,rfl,?_⟩
   have n0_:=As_ (blk_kept (zk_ BK401.out) hkp (fun hs_=>(fun e_=>(Kd.R_ne HO_2.out BK401.out (by decide)) e_) hs_))
   have n1_:=As_ (Kd.R_mono (ok':=fun k_=>(P2_ k_∨w.heap.size≤k_)) ho0 (fun k_ hk_=>Or.elim hk_ (fun hs_=>(HO_2.out.1 k_ (hs_).symm)) (fun hn_=>(.inr (Nat.le_trans (by first|exact HK.out.1|exact (show Kept w _ (fun k_=>P2_ k_) from zq1 HK.out GW401.out).1) hn_)))))
   have n2_:=As_ (Kept.then_ (S:=(fun k_=>P2_ k_)) (zq1 HK.out GW401.out) hkp (fun k_ hs_=>(fun e_=>(HO_2.out.1 k_ e_.symm)) hs_))
   have n3_:=As_ (hb)
   clear BK401 HK HB HO_2
   revert n0_ n1_ n2_ n3_;intro BK401 HO414 HK HB
   refine hK.out _ _ ?_
   clear hK K
   refine norm_ (a':=?_) ?_ ?_
   rotate_left
   ·show Act.put _ (some 40) _=_
    simp only [Act.put,sq_,i64_w,i32_w]
    rfl
   refine pQ 12 2 (bl_ 8191 13) HT_ rfl ?_
   refine done_ (done_of HT_.out (by kernel_rfl)) ?_
   try go_wp2
   go_roundg k1
   case measure=>have:=HK1.out;omega
   case rel=>exact ⟨(t412),(wrap64 (x7_1+1)),zT_,H',⟨by have:=HK1.out;omega⟩,⟨by (with_reducible repeat (first|apply Kd.R_alloc|apply Kd.R_drewN|apply Kd.R_drew));exact HO414.out⟩,⟨by (with_reducible repeat first|apply bkN|apply bkD|apply bkA);exact BK401.out⟩,⟨zq1 HK.out GW401.out⟩,⟨zb1 HB.out GE401.out⟩⟩
end Go.Proofs.Ytfhakhbmbnbneaa.Q
