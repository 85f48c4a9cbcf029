import Derived.Test.YtfhakhbmbnbneaaQ0
namespace Go.Proofs.Ytfhakhbmbnbneaa.Q
open Go.RowKit Go.Proofs.YtfhakhbmbnbneaaW.PrintWords Go.Proofs.YtfhakhbmbnbneaaW.PrintLast Go.Proofs.YtfhakhbmbnbneaaW.PrintMore
attribute [local go_sem] max2_int min2_int max_two min_two max_three min_three max_four min_four
set_option linter.unusedVariables false
set_option linter.unusedSimpArgs false
def impl_mapped.l0:Nat→List Int→List Int→Int→Int→Int→Int→List Int→Option (Int × Int × List Int)
 | 0,_,_,_,_,_,_,_=>none
 | k+1,x1,x14,x15,x16,x294000,x294001,x294002=>if x16<x15 then (if 0≤x16 then (if x16<(x14.length:Int) then (if 0≤(rd x14 x16) then (if (rd x14 x16)<(x1.length:Int) then (if x294002.length<17592186044416 then (impl_mapped.l0 k x1 x14 x15 (wrap64 (x16+1)) x294000 x294001 (x294002++[rd x1 (rd x14 x16)])) else (none)) else (none)) else (none)) else (none)) else (none)) else (some (x294000,x294001,x294002))
def impl_mapped.f (k:Nat) (a0_0:Int) (a0_1:Int) (l0_2:List Int) (l1:List Int):Option (Int × Int × List Int):=impl_mapped.l0 k l1 l0_2 (l0_2.length:Int) 0 a0_0 a0_1 ([]:List Int)
set_option maxRecDepth 100000 in
theorem impl_mapped.mono_l:∀ k,(∀ y0 y1 y2 y3 y4 y5 y6,LeO (impl_mapped.l0 k y0 y1 y2 y3 y4 y5 y6) (impl_mapped.l0 (k+1) y0 y1 y2 y3 y4 y5 y6))
 | 0=>fun _ _ _ _ _ _ _ r h=>(by cases h)
 | k+1=>by
  have ih0:=impl_mapped.mono_l k
  ·intro y0 y1 y2 y3 y4 y5 y6
   unfold impl_mapped.l0
   repeat' first
   | (with_reducible exact ih0 _ _ _ _ _ _ _)
   | (with_reducible exact LeO.refl _)
   | (with_reducible exact LeO.none _)
   | (with_reducible refine LeO.ite ?_ ?_)
   | (with_reducible refine LeO.bind ?_ (fun _=>?_))
   | exact ih0 _ _ _ _ _ _ _
   | exact LeO.none _
   | refine LeO.ite ?_ ?_
   | refine LeO.bind ?_ (fun _=>?_)
set_option maxRecDepth 100000 in
theorem impl_mapped.mono:∀ a0 a1 a2 a3 k,LeO (impl_mapped.f k a0 a1 a2 a3) (impl_mapped.f (k+1) a0 a1 a2 a3):=by
 intro a0 a1 a2 a3 k
 have ih0:=impl_mapped.mono_l k
 unfold impl_mapped.f
 repeat' first
   | (with_reducible exact ih0 _ _ _ _ _ _ _)
   | (with_reducible exact LeO.refl _)
   | (with_reducible exact LeO.none _)
   | (with_reducible refine LeO.ite ?_ ?_)
   | (with_reducible refine LeO.bind ?_ (fun _=>?_))
   | exact ih0 _ _ _ _ _ _ _
   | exact LeO.none _
   | refine LeO.ite ?_ ?_
   | refine LeO.bind ?_ (fun _=>?_)
def impl_mapped.T5:Bool × List (List Nat × List Nat):=(true,[([],[]),([0],[0]),([],[]),([],[]),([2,3],[2,3]),([4],[4]),([5],[5]),([1,6],[1,6]),([0,1,2,3,4,5,6,7],[]),([8,7,7,0,1,2,3,4,5,6,7],[7,8])])
def impl_mapped.B5:List Nat:=[0,1,0,0,12,28,60,127,255,511]
theorem impl_mapped.tab5:rtab .any (opsOf Try.f53 5)=impl_mapped.T5:=by kernel_rfl
theorem impl_mapped.bits5:waitsOk impl_mapped.T5.2 impl_mapped.B5=true:=by kernel_rfl
set_option maxHeartbeats 8000000 in
set_option maxRecDepth 100000 in
theorem impl_mapped.calls (k:Nat) (a0_0:Int) (a0_1:Int) (A0_2:Option Addr) (c0_2:Nat) (l0_2:List Int) (A1:Option Addr) (c1:Nat) (l1:List Int) (r1:Int) (r2:Int) (r3:List Int) (w:World) (hr0_2:Kd.C (Kd.int .i64) w A0_2 l0_2.length l0_2) (hc0_2:l0_2.length≤c0_2) (hr1:Kd.C (Kd.int .i64) w A1 l1.length l1) (hc1:l1.length≤c1) (h:impl_mapped.f k a0_0 a0_1 l0_2 l1=some (r1,r2,r3)) :
  Calls Try.prog 53 #[.agg #[.int .i64 a0_0,.int .i64 a0_1,.slice A0_2 l0_2.length c0_2],.slice A1 l1.length c1] w fun e w'=>∃ v2_:Value,e=.returned (.agg #[.int .i64 r1,.int .i64 r2,v2_])∧Kd.R (Kd.int .i64) 3 w' w.heap.size (fun _=>True) v2_ r3∧Below w.heap.size w w':=by
 have hu45:=Try.underlying45
 have HR0_2:=As_ hr0_2
 have HC0_2:=As_ hc0_2
 clear hr0_2 hc0_2
 have HR1:=As_ hr1
 have HC1:=As_ hc1
 clear hr1 hc1
 have HB:=As_ (Below.refl w.heap.size w)
 have H:(impl_mapped.l0 k l1 l0_2 (l0_2.length:Int) 0 a0_0 a0_1 ([]:List Int))=some (r1,r2,r3):=h
 clear h
 have H':=As_ H
 clear H
 go_enter Try.func53,Try.ntmps53
 go_wp2_with (first|((with_reducible refine gate_dst (N:=2) rfl ?_);refine box_event ?hg (N:=2) ?hd (cs:=#[.int .i64 a0_0,.int .i64 a0_1,.slice A0_2 l0_2.length c0_2]) (t:=45) ?hr ?_;(case hd=>rfl);(case hg=>rfl);(case hr=>go_simp <;> rfl);intro gb291 hg w3 hbox hb;have n0_:=As_ (bwT (zb0 HB.out) hb);have n1_:=As_ (hbox);have n2_:=As_ ((by rw [hg];exact (bwZ (zb0 HB.out)):w.heap.size≤gb291));have n3_:=As_ ((by rw [hg];exact (bwZ (zb0 HB.out)):w.heap.size≤gb291));clear HB;revert n0_ n1_ n2_ n3_;intro HB BK291 GW291 GE291;clear hb hbox hg)|((with_reducible refine gate_dst (N:=4) rfl ?_);refine box_event ?hg (N:=4) ?hd (cs:=#[.int .i64 0,.int .i64 0,.slice none 0 0]) (t:=45) ?hr ?_;(case hd=>rfl);(case hg=>rfl);(case hr=>go_simp <;> rfl);intro gb292 hg w4 hbox hb;have n0_:=As_ (zkb BK291.out hb);have n1_:=As_ (bwT (zb1 HB.out GE291.out) hb);have n2_:=As_ (hbox);have n3_:=As_ ((by rw [hg];exact (bwZ (zb1 HB.out GE291.out)):w.heap.size≤gb292));have n4_:=As_ ((by rw [hg];exact (bwZ (zb1 HB.out GE291.out)):w.heap.size≤gb292));have n5_:=As_ ((by rw [hg];exact Nat.ne_of_lt (zkl BK291.out):gb291≠gb292));have n6_:=As_ ((by rw [hg];exact Nat.ne_of_gt (zkl BK291.out):gb292≠gb291));clear BK291 HB;revert n0_ n1_ n2_ n3_ n4_ n5_ n6_;intro BK291 HB BK292 GW292 GE292 NB291_292 NB292_291;clear hb hbox hg;have hnb5:=NB291_292.out;have hnc5:=NB292_291.out;obtain ⟨hcz6_0,hcz6_1,hcz6_2,hfz6_0,hfz6_1,hfz6_2⟩:=bk3 BK291.out)|((with_reducible refine gate_dst (N:=5) rfl ?_);refine box_event ?hg (N:=5) ?hd (cs:=#[.int .i64 0,.int .i64 0,.slice none 0 0]) (t:=45) ?hr ?_;(case hd=>rfl);(case hg=>rfl);(case hr=>go_simp <;> rfl);intro gb293 hg w7 hbox hb;have n0_:=As_ (zkb BK291.out hb);have n1_:=As_ (zkb BK292.out hb);have n2_:=As_ (bwT (zb2 HB.out GE291.out GE292.out) hb);have n3_:=As_ (hbox);have n4_:=As_ ((by rw [hg];exact (bwZ (zb2 HB.out GE291.out GE292.out)):w.heap.size≤gb293));have n5_:=As_ ((by rw [hg];exact (bwZ (zb2 HB.out GE291.out GE292.out)):w.heap.size≤gb293));have n6_:=As_ ((by rw [hg];exact Nat.ne_of_lt (zkl BK291.out):gb291≠gb293));have n7_:=As_ ((by rw [hg];exact Nat.ne_of_gt (zkl BK291.out):gb293≠gb291));have n8_:=As_ ((by rw [hg];exact Nat.ne_of_lt (zkl BK292.out):gb292≠gb293));have n9_:=As_ ((by rw [hg];exact Nat.ne_of_gt (zkl BK292.out):gb293≠gb292));clear BK291 BK292 HB;revert n0_ n1_ n2_ n3_ n4_ n5_ n6_ n7_ n8_ n9_;intro BK291 BK292 HB BK293 GW293 GE293 NB291_293 NB293_291 NB292_293 NB293_292;clear hb hbox hg;have hnb8:=NB293_291.out;have hnc8:=NB291_293.out;have hnb9:=NB293_292.out;have hnc9:=NB292_293.out;obtain ⟨hcz10_0,hcz10_1,hcz10_2,hfz10_0,hfz10_1,hfz10_2⟩:=bk3 BK293.out;obtain ⟨hcz11_0,hcz11_1,hcz11_2,hfz11_0,hfz11_1,hfz11_2⟩:=bk3 BK291.out))
 go_loopg [16] k (fun kq v16 w'=>∃ (x16_1:Int) (x294002_1:List Int) (u294002:Value),v16=.int .i64 x16_1∧Aside0 (impl_mapped.l0 kq l1 l0_2 (l0_2.length:Int) x16_1 a0_0 a0_1 x294002_1=some (r1,r2,r3))∧Aside0 (kq≤k)∧Aside0 (Kd.R (Kd.int .i64) 3 w' w.heap.size (fun _=>True) u294002 x294002_1)∧Aside0 (w'.heap[gb291]?=some (.cells #[.int .i64 a0_0,.int .i64 a0_1,(.slice A0_2 l0_2.length c0_2)] 45 (0,0)))∧Aside0 (w'.heap[gb292]?=some (.cells #[.int .i64 0,.int .i64 0,(.slice none 0 0)] 45 (0,0)))∧Aside0 (w'.heap[gb293]?=some (.cells #[.int .i64 a0_0,.int .i64 a0_1,u294002] 45 (0,0)))∧Aside0 (Below w.heap.size w w'))
 case atStart=>exact ⟨(0),(([]:List Int)),(.slice none 0 0),zT_,H',⟨Nat.le_refl _⟩,⟨by first|exact Kd.R_nil _ _ _ _ _|exact Kd.N_nil _ _ _ _ _|exact Kd.V_nil _ _ _ _ _|exact Kd.Q_nil _ _ _ _ _|exact Kd.S_nil _ _ _ _ _⟩,⟨by (with_reducible repeat first|apply bkN|apply bkD|apply bkA);refine blk_far ?_ NB291_293.out _;(with_reducible repeat first|apply bkN|apply bkD|apply bkA);refine blk_far ?_ NB291_293.out _;(with_reducible repeat first|apply bkN|apply bkD|apply bkA);refine blk_far ?_ NB291_293.out _;(with_reducible repeat first|apply bkN|apply bkD|apply bkA);exact BK291.out⟩,⟨by (with_reducible repeat first|apply bkN|apply bkD|apply bkA);refine blk_far ?_ NB292_293.out _;(with_reducible repeat first|apply bkN|apply bkD|apply bkA);refine blk_far ?_ NB292_293.out _;(with_reducible repeat first|apply bkN|apply bkD|apply bkA);refine blk_far ?_ NB292_293.out _;(with_reducible repeat first|apply bkN|apply bkD|apply bkA);exact BK292.out⟩,⟨by (with_reducible repeat first|apply bkN|apply bkD|apply bkA);refine blk_put (cs:=#[.int .i64 a0_0,.int .i64 a0_1,.slice none 0 0]) ?_ 2 _ rfl;(with_reducible repeat first|apply bkN|apply bkD|apply bkA);refine blk_put (cs:=#[.int .i64 a0_0,.int .i64 0,.slice none 0 0]) ?_ 1 _ rfl;(with_reducible repeat first|apply bkN|apply bkD|apply bkA);refine blk_put (cs:=#[.int .i64 0,.int .i64 0,.slice none 0 0]) ?_ 0 _ rfl;(with_reducible repeat first|apply bkN|apply bkD|apply bkA);exact BK293.out⟩,⟨zb3 HB.out GE291.out GE292.out GE293.out⟩⟩
 case round=>
  clear H'
  obtain ⟨x16_1,x294002_1,u294002,rfl,HA,HK1,HO_294002,BK291,BK292,BK293,HB⟩:=hrel
  cases gk with
  | zero=>exact absurd HA.out (fun h_=>(by cases h_))
  | succ k1=>
   have H:=HA.out
   clear HA
   simp only [impl_mapped.l0] at H
   by_cases c12:x16_1<(l0_2.length:Int)
   rotate_left
   ·rw [if_neg c12] at H
    have c12b0:decide (x16_1<(l0_2.length:Int))=false:=deF c12
    clear c12
    simp only [Option.some.injEq,Prod.mk.injEq] at H
    obtain ⟨rfl,rfl,rfl⟩:=H
    have hnb22:=NB293_291.out
    have hnc22:=NB291_293.out
    have hnb23:=NB293_292.out
    have hnc23:=NB292_293.out
    obtain ⟨hcz24_0,hcz24_1,hcz24_2,hfz24_0,hfz24_1,hfz24_2⟩:=bk3 BK293.out
    have hnb25:=NB292_291.out
    have hnc25:=NB291_292.out
    obtain ⟨hcz26_0,hcz26_1,hcz26_2,hfz26_0,hfz26_1,hfz26_2⟩:=bk3 BK292.out
    obtain ⟨Ao27,co27,eo27⟩:=Kd.R_slice HO_294002.out
    subst eo27
    go_wp2
    refine bodyPost_ret (results_cell_row rfl _ _ gb292 45 #[.int .i64 a0_0,.int .i64 a0_1,.slice Ao27 x294002_1.length co27] (0,0) _ rfl (by (with_reducible repeat first|apply bkN|apply bkD|apply bkA);refine blk_put (cs:=#[.int .i64 a0_0,.int .i64 a0_1,.slice none 0 0]) ?_ 2 _ rfl;(with_reducible repeat first|apply bkN|apply bkD|apply bkA);refine blk_put (cs:=#[.int .i64 a0_0,.int .i64 0,.slice none 0 0]) ?_ 1 _ rfl;(with_reducible repeat first|apply bkN|apply bkD|apply bkA);refine blk_put (cs:=#[.int .i64 0,.int .i64 0,.slice none 0 0]) ?_ 0 _ rfl;(with_reducible repeat first|apply bkN|apply bkD|apply bkA);exact BK292.out) Try.underlying45 rfl (by kernel_rfl)) rfl ?_
    exact ⟨_,zE_,by (with_reducible repeat (first|apply Kd.R_alloc|apply Kd.R_drewN|apply Kd.R_drew));exact Kd.R_mono (Kd.R_far (p:=⟨gb292,2,none⟩) (Kd.R_far (p:=⟨gb292,1,none⟩) (Kd.R_far (p:=⟨gb292,0,none⟩) (Kd.R_types HO_294002.out BK292.out (by decide)) (fun _ hk=>hk.2) (.int .i64 a0_0)) (fun _ hk=>hk.2) (.int .i64 a0_1)) (fun _ hk=>hk.2) (.slice Ao27 x294002_1.length co27)) (fun _ hk=>trivial),zb3 HB.out GE291.out GE292.out GE293.out⟩
   rw [if_pos c12] at H
   have c12b0:decide (x16_1<(l0_2.length:Int))=true:=deT c12
   clear c12
   by_cases c13:0≤x16_1
   rotate_left
   ·rw [if_neg c13] at H
    exact absurd H (by simp)
   rw [if_pos c13] at H
   have c13b0:decide (0≤x16_1)=true:=deT c13
   clear c13
   by_cases c14:x16_1<(l0_2.length:Int)
   rotate_left
   ·rw [if_neg c14] at H
    exact absurd H (by simp)
   rw [if_pos c14] at H
   have c14b0:decide (x16_1<(l0_2.length:Int))=true:=deT c14
   clear c14
   by_cases c15:0≤(rd l0_2 x16_1)
   rotate_left
   ·rw [if_neg c15] at H
    exact absurd H (by simp)
   rw [if_pos c15] at H
   have c15b0:decide (0≤(rd l0_2 x16_1))=true:=deT c15
   clear c15
   by_cases c16:(rd l0_2 x16_1)<(l1.length:Int)
   rotate_left
   ·rw [if_neg c16] at H
    exact absurd H (by simp)
   rw [if_pos c16] at H
   have c16b0:decide ((rd l0_2 x16_1)<(l1.length:Int))=true:=deT c16
   clear c16
   by_cases c17:x294002_1.length<17592186044416
   rotate_left
   ·rw [if_neg c17] at H
    exact absurd H (by simp)
   rw [if_pos c17] at H
   have LMc17:=As_ c17
   clear c17
   obtain ⟨y296,hy296⟩:∃ y_:List Int,y_=(x294002_1++[rd l1 (rd l0_2 x16_1)]):=⟨_,rfl⟩
   replace H:(impl_mapped.l0 k1 l1 l0_2 (l0_2.length:Int) (wrap64 (x16_1+1)) a0_0 a0_1 y296)=some (r1,r2,r3):=zH_ H hy296
   have Ny296:=As_ hy296
   clear hy296
   have H':=As_ H
   clear H
   have p294:0≤(x16_1:Int):=odT zA_
   have q294:x16_1<(l0_2.length:Int):=odT zA_
   obtain ⟨ad294,e294,hx294_0⟩:=Kd.at_int HR0_2.out x16_1 p294 q294
   cases e294
   replace hx294_0:=bwC HB.out hx294_0
   replace p294:=eq_true p294
   replace q294:=eq_true q294
   try go_wp2
   have n0_:=As_ (Kd.R_drew HO_294002.out)
   have n1_:=As_ (bkD BK291.out)
   have n2_:=As_ (bkD BK292.out)
   have n3_:=As_ (bkD BK293.out)
   have n4_:=As_ (bwD HB.out)
   clear HO_294002 BK291 BK292 BK293 HB
   revert n0_ n1_ n2_ n3_ n4_;intro HO_294002 BK291 BK292 BK293 HB
   have p295:0≤((rd l0_2 x16_1):Int):=odT zA_
   have q295:(rd l0_2 x16_1)<(l1.length:Int):=odT zA_
   obtain ⟨ad295,e295,hx295_0⟩:=Kd.at_int HR1.out (rd l0_2 x16_1) p295 q295
   have hw295_0:=hx295_0
   cases e295
   replace hx295_0:=bwC HB.out hx295_0
   replace p295:=eq_true p295
   replace q295:=eq_true q295
   refine start_ (n:=10) (S:=fun w'=>w'.cell? ⟨gb293,0,none⟩=some (.int .i64 a0_0)∧w'.cell? ⟨gb293,1,none⟩=some (.int .i64 a0_1)∧w'.cell? ⟨gb293,2,none⟩=some (u294002)∧w'.cell? (ad295.add ((rd l0_2 x16_1)).toNat)=some (.int .i64 (rd l1 (rd l0_2 x16_1)))) (ds:=[9]) (bl_ 0 10) (by kernel_rfl) rfl rfl ⟨(bkC BK293.out 0).trans rfl,(bkC BK293.out 1).trans rfl,(bkC BK293.out 2).trans rfl,((HB.out.cell (bwL w _ hw295_0)).trans hw295_0)⟩ (fun hHeld=>?_);refine with_tabW impl_mapped.tab5 impl_mapped.bits5 (fun HT_ HW_=>?_)
   generalize wr.drew=w18 at HO_294002 BK291 BK292 BK293 HB hx295_0 hHeld ⊢
   refine pQ 0 20 (bl_ 1 10) HT_ rfl ?_
   refine pQ 2 22 (bl_ 5 10) HT_ rfl ?_
   refine pQ 3 23 (bl_ 13 10) HT_ rfl ?_
   refine pQ 4 24 (bl_ 29 10) HT_ rfl ?_
   refine tP 1 21 (bl_ 31 10) ?_ HT_ HW_ rfl (.inl ⟨by rfl,?_⟩) hHeld ?_ ?_ ?_;rotate_left;(rintro w' ⟨s0,s1,s2,s3⟩;go_simp;with_reducible rfl);rotate_left;(simp only [Act.put,sq_,i64_w,i32_w];rfl)
   refine tP 5 25 (bl_ 63 10) ?_ HT_ HW_ rfl (.inl ⟨by rfl,?_⟩) hHeld ?_ ?_ ?_;rotate_left;(rintro w' ⟨s0,s1,s2,s3⟩;go_simp;with_reducible rfl);rotate_left;(simp only [Act.put,sq_,i64_w,i32_w];rfl)
   refine one_ (i:=6) (N:=some 26) (bl_ 127 10) rfl rfl (one_of HT_.out (by kernel_rfl)) (by decide) (fun K hK=>?_)
   refine value_ (w1:=?_) (v:=?_) (by rfl) rfl ?_ ?_
   rotate_left 2
   ·go_simp
    constructor
    ·rfl
    ·rfl
   refine hK.out _ _ ⟨(bkC (bkA BK293.out _) 0).trans rfl,(bkC (bkA BK293.out _) 1).trans rfl,(bkC (bkA BK293.out _) 2).trans rfl,(World.cell?_alloc_lt _ _ _ (bwL _ _ (((HB.out.cell (bwL w _ hw295_0)).trans hw295_0)))).trans (((HB.out.cell (bwL w _ hw295_0)).trans hw295_0))⟩ (fun hHeld=>?_)
   clear hK K
   refine norm_ (a':=?_) ?_ ?_
   rotate_left
   ·show Act.put _ (some 26) _=_
    simp only [Act.put,sq_,i64_w,i32_w]
    rfl
   refine one_ (i:=7) (N:=some 27) (bl_ 255 10) rfl rfl (one_of HT_.out (by kernel_rfl)) (by decide) (fun K hK=>?_)
   refine Kd.R_append_step (Kd.int .i64) (w0:=w) w.heap.size (by rfl) (.tmp 21) (.tmp 26) 37 3 (.int .i64 0) 8 rfl Try.underlying37 info3 rfl (by decide) (by omega) u294002 x294002_1 (rd l1 (rd l0_2 x16_1)) [.int .i64 (rd l1 (rd l0_2 x16_1))] (fun _=>True) (fun _=>False) rfl rfl ?aP (fun _ hk=>hk.elim) ?aF ?aO ?aB ?aS ?aL ?_
   (case aP=>exact rfl)
   (case aB=>exact (zb3 HB.out GE291.out GE292.out GE293.out))
   (case aF=>exact (fun _ _=>trivial))
   (case aO=>exact (zR_ HO_294002.out))
   (case aS=>exact (bwZ (zb3 HB.out GE291.out GE292.out GE293.out)))
   (case aL=>have:=LMc17.out;omega)
   intro v297 w19 ho hb hg hat
   rw [← Ny296.out] at ho
   have n0_:=As_ (blk_grown (g:=gb291) (o:=.cells #[.int .i64 a0_0,.int .i64 a0_1,.slice (some ad294) l0_2.length c0_2] 45 (0,0)) (zk_ BK291.out) hg (Kd.R_ne HO_294002.out BK291.out (by decide)))
   have n1_:=As_ (blk_grown (g:=gb292) (o:=.cells #[.int .i64 0,.int .i64 0,.slice none 0 0] 45 (0,0)) (zk_ BK292.out) hg (Kd.R_ne HO_294002.out BK292.out (by decide)))
   have n2_:=As_ (blk_grown (g:=gb293) (o:=.cells #[.int .i64 a0_0,.int .i64 a0_1,u294002] 45 (0,0)) (zk_ BK293.out) hg (Kd.R_ne HO_294002.out BK293.out (by decide)))
   have n3_:=As_ (hb)
   have n4_:=As_ (ho)
   clear BK291 BK292 BK293 HB HO_294002
   revert n0_ n1_ n2_ n3_ n4_;intro BK291 BK292 BK293 HB HO298
   clear ho hb hg hat
   obtain ⟨Ao20,co20,eo20⟩:=Kd.R_slice HO298.out
   (first|subst eo20|(injection eo20 with f1_ f2_ f3_;have f4_:=f1_.symm;have f5_:=f3_.symm;clear f1_ f2_ f3_;subst f4_;subst f5_))
   refine hK.out _ _ ⟨(bkC BK293.out 0).trans rfl,(bkC BK293.out 1).trans rfl,(bkC BK293.out 2).trans rfl,((HB.out.cell (bwL w _ hw295_0)).trans hw295_0)⟩ (fun hHeld=>?_)
   clear hK K
   refine norm_ (a':=?_) ?_ ?_
   rotate_left
   ·show Act.put _ (some 27) _=_
    simp only [Act.put,sq_,i64_w,i32_w]
    rfl
   refine pQ 8 28 (bl_ 511 10) HT_ rfl ?_
   refine last_ (i:=9) (N:=none) (bl_ 1023 10) rfl rfl (one_of HT_.out (by kernel_rfl)) (by decide) (fun K hK=>?_)
   have hs21:w19.cell? ⟨gb293,2,none⟩=some (u294002):=(bkC BK293.out 2).trans rfl
   have hfs21:=bkF BK293.out 2
   have hns21_0:=NB291_293.out
   have hns21_1:=NB292_293.out
   have hms21_0:=NB293_291.out
   have hms21_1:=NB293_292.out
   refine skip_ (w1:=?_) (by rfl) rfl ?_ ?_
   rotate_left
   ·go_simp
    rfl
   refine hK.out _ _ ?_
   clear hK K
   refine done_ (done_of HT_.out (by kernel_rfl)) ?_
   try go_wp2
   go_roundg k1
   case measure=>have:=HK1.out;omega
   case rel=>exact ⟨(wrap64 (x16_1+1)),(y296),(.slice Ao20 y296.length co20),zT_,H',⟨by have:=HK1.out;omega⟩,⟨by (with_reducible repeat (first|apply Kd.R_alloc|apply Kd.R_drewN|apply Kd.R_drew));exact Kd.R_mono (Kd.R_far (p:=⟨gb293,2,none⟩) (Kd.R_types HO298.out BK293.out (by decide)) (fun _ hk=>hk.2) (.slice Ao20 y296.length co20)) (fun _ hk=>trivial)⟩,⟨by (with_reducible repeat first|apply bkN|apply bkD|apply bkA);refine blk_far ?_ NB291_293.out _;(with_reducible repeat first|apply bkN|apply bkD|apply bkA);exact BK291.out⟩,⟨by (with_reducible repeat first|apply bkN|apply bkD|apply bkA);refine blk_far ?_ NB292_293.out _;(with_reducible repeat first|apply bkN|apply bkD|apply bkA);exact BK292.out⟩,⟨by (with_reducible repeat first|apply bkN|apply bkD|apply bkA);refine blk_put (cs:=#[.int .i64 a0_0,.int .i64 a0_1,u294002]) ?_ 2 _ rfl;(with_reducible repeat first|apply bkN|apply bkD|apply bkA);exact BK293.out⟩,⟨zb3 HB.out GE291.out GE292.out GE293.out⟩⟩
end Go.Proofs.Ytfhakhbmbnbneaa.Q
