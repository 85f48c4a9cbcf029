import Derived.Test.YtapaegcombfafaaQ0
namespace Go.Proofs.Ytapaegcombfafaa.Q
open Go.RowKit Go.Proofs.YtapaegcombfafaaW.PrintWords Go.Proofs.YtapaegcombfafaaW.PrintLast Go.Proofs.YtapaegcombfafaaW.PrintMore
attribute [local go_sem] max2_int min2_int max_two min_two max_three min_three max_four min_four
set_option linter.unusedVariables false
set_option linter.unusedSimpArgs false
def impl_mapped.l0:Nat→List Int→List Int→Int→Int→Int→Int→List Int→Option (Int × Int × List Int)
 | 0,_,_,_,_,_,_,_=>none
 | k+1,x1,x14,x15,x16,x737000,x737001,x737002=>if x16<x15 then (if 0≤x16 then (if x16<(x14.length:Int) then (if 0≤(rd x14 x16) then (if (rd x14 x16)<(x1.length:Int) then (if x737002.length<17592186044416 then (impl_mapped.l0 k x1 x14 x15 (wrap64 (x16+1)) x737000 x737001 (x737002++[rd x1 (rd x14 x16)])) else (none)) else (none)) else (none)) else (none)) else (none)) else (some (x737000,x737001,x737002))
def impl_mapped.f (k:Nat) (a0_0:Int) (a0_1:Int) (l0_2:List Int) (l1:List Int):Option (Int × Int × List Int):=impl_mapped.l0 k l1 l0_2 (l0_2.length:Int) 0 a0_0 a0_1 ([]:List Int)
set_option maxRecDepth 100000 in
theorem impl_mapped.mono_l:∀ k,(∀ y0 y1 y2 y3 y4 y5 y6,LeO (impl_mapped.l0 k y0 y1 y2 y3 y4 y5 y6) (impl_mapped.l0 (k+1) y0 y1 y2 y3 y4 y5 y6))
 | 0=>fun _ _ _ _ _ _ _ r h=>(by cases h)
 | k+1=>by
  have ih0:=impl_mapped.mono_l k
  ·intro y0 y1 y2 y3 y4 y5 y6
   unfold impl_mapped.l0
   repeat' first
   | (with_reducible exact ih0 _ _ _ _ _ _ _)
   | (with_reducible exact LeO.refl _)
   | (with_reducible exact LeO.none _)
   | (with_reducible refine LeO.ite ?_ ?_)
   | (with_reducible refine LeO.bind ?_ (fun _=>?_))
   | exact ih0 _ _ _ _ _ _ _
   | exact LeO.none _
   | refine LeO.ite ?_ ?_
   | refine LeO.bind ?_ (fun _=>?_)
set_option maxRecDepth 100000 in
theorem impl_mapped.mono:∀ a0 a1 a2 a3 k,LeO (impl_mapped.f k a0 a1 a2 a3) (impl_mapped.f (k+1) a0 a1 a2 a3):=by
 intro a0 a1 a2 a3 k
 have ih0:=impl_mapped.mono_l k
 unfold impl_mapped.f
 repeat' first
   | (with_reducible exact ih0 _ _ _ _ _ _ _)
   | (with_reducible exact LeO.refl _)
   | (with_reducible exact LeO.none _)
   | (with_reducible refine LeO.ite ?_ ?_)
   | (with_reducible refine LeO.bind ?_ (fun _=>?_))
   | exact ih0 _ _ _ _ _ _ _
   | exact LeO.none _
   | refine LeO.ite ?_ ?_
   | refine LeO.bind ?_ (fun _=>?_)
def impl_mapped.T5:Bool × List (List Nat × List Nat):=(true,[([],[]),([0],[0]),([],[]),([],[]),([2,3],[2,3]),([4],[4]),([5],[5]),([1,6],[1,6]),([0,1,2,3,4,5,6,7],[]),([8,7,7,0,1,2,3,4,5,6,7],[7,8])])
def impl_mapped.B5:List Nat:=[0,1,0,0,12,28,60,127,255,511]
theorem impl_mapped.tab5:rtab .any (opsOf Try.f56 5)=impl_mapped.T5:=by kernel_rfl
theorem impl_mapped.bits5:waitsOk impl_mapped.T5.2 impl_mapped.B5=true:=by kernel_rfl
set_option maxHeartbeats 8000000 in
set_option maxRecDepth 100000 in
theorem impl_mapped.calls (k:Nat) (a0_0:Int) (a0_1:Int) (A0_2:Option Addr) (c0_2:Nat) (l0_2:List Int) (A1:Option Addr) (c1:Nat) (l1:List Int) (r1:Int) (r2:Int) (r3:List Int) (w:World) (hr0_2:Kd.C (Kd.int .i64) w A0_2 l0_2.length l0_2) (hc0_2:l0_2.length≤c0_2) (hr1:Kd.C (Kd.int .i64) w A1 l1.length l1) (hc1:l1.length≤c1) (h:impl_mapped.f k a0_0 a0_1 l0_2 l1=some (r1,r2,r3)) :
  Calls Try.prog 56 #[.agg #[.int .i64 a0_0,.int .i64 a0_1,.slice A0_2 l0_2.length c0_2],.slice A1 l1.length c1] w fun e w'=>∃ v2_:Value,e=.returned (.agg #[.int .i64 r1,.int .i64 r2,v2_])∧Kd.R (Kd.int .i64) 3 w' w.heap.size (fun _=>True) v2_ r3∧Below w.heap.size w w':=by
 have hu58:=Try.underlying58
 have HR0_2:=As_ hr0_2
 have HC0_2:=As_ hc0_2
 clear hr0_2 hc0_2
 have HR1:=As_ hr1
 have HC1:=As_ hc1
 clear hr1 hc1
 have HB:=As_ (Below.refl w.heap.size w)
 have H:(impl_mapped.l0 k l1 l0_2 (l0_2.length:Int) 0 a0_0 a0_1 ([]:List Int))=some (r1,r2,r3):=h
 clear h
 have H':=As_ H
 clear H
 go_enter Try.func56,Try.ntmps56
 go_wp2_with (first|((with_reducible refine gate_dst (N:=2) rfl ?_);refine box_event ?hg (N:=2) ?hd (cs:=#[.int .i64 a0_0,.int .i64 a0_1,.slice A0_2 l0_2.length c0_2]) (t:=58) ?hr ?_;(case hd=>rfl);(case hg=>rfl);(case hr=>go_simp <;> rfl);intro gb734 hg w3 hbox hb;have n0_:=As_ (bwT (zb0 HB.out) hb);have n1_:=As_ (hbox);have n2_:=As_ ((by rw [hg];exact (bwZ (zb0 HB.out)):w.heap.size≤gb734));have n3_:=As_ ((by rw [hg];exact (bwZ (zb0 HB.out)):w.heap.size≤gb734));clear HB;revert n0_ n1_ n2_ n3_;intro HB BK734 GW734 GE734;clear hb hbox hg)|((with_reducible refine gate_dst (N:=4) rfl ?_);refine box_event ?hg (N:=4) ?hd (cs:=#[.int .i64 0,.int .i64 0,.slice none 0 0]) (t:=58) ?hr ?_;(case hd=>rfl);(case hg=>rfl);(case hr=>go_simp <;> rfl);intro gb735 hg w4 hbox hb;have n0_:=As_ (zkb BK734.out hb);have n1_:=As_ (bwT (zb1 HB.out GE734.out) hb);have n2_:=As_ (hbox);have n3_:=As_ ((by rw [hg];exact (bwZ (zb1 HB.out GE734.out)):w.heap.size≤gb735));have n4_:=As_ ((by rw [hg];exact (bwZ (zb1 HB.out GE734.out)):w.heap.size≤gb735));have n5_:=As_ ((by rw [hg];exact Nat.ne_of_lt (zkl BK734.out):gb734≠gb735));have n6_:=As_ ((by rw [hg];exact Nat.ne_of_gt (zkl BK734.out):gb735≠gb734));clear BK734 HB;revert n0_ n1_ n2_ n3_ n4_ n5_ n6_;intro BK734 HB BK735 GW735 GE735 NB734_735 NB735_734;clear hb hbox hg;have hnb5:=NB734_735.out;have hnc5:=NB735_734.out;obtain ⟨hcz6_0,hcz6_1,hcz6_2,hfz6_0,hfz6_1,hfz6_2⟩:=bk3 BK734.out)|((with_reducible refine gate_dst (N:=5) rfl ?_);refine box_event ?hg (N:=5) ?hd (cs:=#[.int .i64 0,.int .i64 0,.slice none 0 0]) (t:=58) ?hr ?_;(case hd=>rfl);(case hg=>rfl);(case hr=>go_simp <;> rfl);intro gb736 hg w7 hbox hb;have n0_:=As_ (zkb BK734.out hb);have n1_:=As_ (zkb BK735.out hb);have n2_:=As_ (bwT (zb2 HB.out GE734.out GE735.out) hb);have n3_:=As_ (hbox);have n4_:=As_ ((by rw [hg];exact (bwZ (zb2 HB.out GE734.out GE735.out)):w.heap.size≤gb736));have n5_:=As_ ((by rw [hg];exact (bwZ (zb2 HB.out GE734.out GE735.out)):w.heap.size≤gb736));have n6_:=As_ ((by rw [hg];exact Nat.ne_of_lt (zkl BK734.out):gb734≠gb736));have n7_:=As_ ((by rw [hg];exact Nat.ne_of_gt (zkl BK734.out):gb736≠gb734));have n8_:=As_ ((by rw [hg];exact Nat.ne_of_lt (zkl BK735.out):gb735≠gb736));have n9_:=As_ ((by rw [hg];exact Nat.ne_of_gt (zkl BK735.out):gb736≠gb735));clear BK734 BK735 HB;revert n0_ n1_ n2_ n3_ n4_ n5_ n6_ n7_ n8_ n9_;intro BK734 BK735 HB BK736 GW736 GE736 NB734_736 NB736_734 NB735_736 NB736_735;clear hb hbox hg;have hnb8:=NB736_734.out;have hnc8:=NB734_736.out;have hnb9:=NB736_735.out;have hnc9:=NB735_736.out;obtain ⟨hcz10_0,hcz10_1,hcz10_2,hfz10_0,hfz10_1,hfz10_2⟩:=bk3 BK736.out;obtain ⟨hcz11_0,hcz11_1,hcz11_2,hfz11_0,hfz11_1,hfz11_2⟩:=bk3 BK734.out))
 go_loopg [16] k (fun kq v16 w'=>∃ (x16_1:Int) (x737002_1:List Int) (u737002:Value),v16=.int .i64 x16_1∧Aside0 (impl_mapped.l0 kq l1 l0_2 (l0_2.length:Int) x16_1 a0_0 a0_1 x737002_1=some (r1,r2,r3))∧Aside0 (kq≤k)∧Aside0 (Kd.R (Kd.int .i64) 3 w' w.heap.size (fun _=>True) u737002 x737002_1)∧Aside0 (w'.heap[gb734]?=some (.cells #[.int .i64 a0_0,.int .i64 a0_1,(.slice A0_2 l0_2.length c0_2)] 58 (0,0)))∧Aside0 (w'.heap[gb735]?=some (.cells #[.int .i64 0,.int .i64 0,(.slice none 0 0)] 58 (0,0)))∧Aside0 (w'.heap[gb736]?=some (.cells #[.int .i64 a0_0,.int .i64 a0_1,u737002] 58 (0,0)))∧Aside0 (Below w.heap.size w w'))
 case atStart=>exact ⟨(0),(([]:List Int)),(.slice none 0 0),zT_,H',⟨Nat.le_refl _⟩,⟨by first|exact Kd.R_nil _ _ _ _ _|exact Kd.N_nil _ _ _ _ _|exact Kd.V_nil _ _ _ _ _|exact Kd.Q_nil _ _ _ _ _|exact Kd.S_nil _ _ _ _ _⟩,⟨by (with_reducible repeat first|apply bkN|apply bkD|apply bkA);refine blk_far ?_ NB734_736.out _;(with_reducible repeat first|apply bkN|apply bkD|apply bkA);refine blk_far ?_ NB734_736.out _;(with_reducible repeat first|apply bkN|apply bkD|apply bkA);refine blk_far ?_ NB734_736.out _;(with_reducible repeat first|apply bkN|apply bkD|apply bkA);exact BK734.out⟩,⟨by (with_reducible repeat first|apply bkN|apply bkD|apply bkA);refine blk_far ?_ NB735_736.out _;(with_reducible repeat first|apply bkN|apply bkD|apply bkA);refine blk_far ?_ NB735_736.out _;(with_reducible repeat first|apply bkN|apply bkD|apply bkA);refine blk_far ?_ NB735_736.out _;(with_reducible repeat first|apply bkN|apply bkD|apply bkA);exact BK735.out⟩,⟨by (with_reducible repeat first|apply bkN|apply bkD|apply bkA);refine blk_put (cs:=#[.int .i64 a0_0,.int .i64 a0_1,.slice none 0 0]) ?_ 2 _ rfl;(with_reducible repeat first|apply bkN|apply bkD|apply bkA);refine blk_put (cs:=#[.int .i64 a0_0,.int .i64 0,.slice none 0 0]) ?_ 1 _ rfl;(with_reducible repeat first|apply bkN|apply bkD|apply bkA);refine blk_put (cs:=#[.int .i64 0,.int .i64 0,.slice none 0 0]) ?_ 0 _ rfl;(with_reducible repeat first|apply bkN|apply bkD|apply bkA);exact BK736.out⟩,⟨zb3 HB.out GE734.out GE735.out GE736.out⟩⟩
 case round=>
  clear H'
  obtain ⟨x16_1,x737002_1,u737002,rfl,HA,HK1,HO_737002,BK734,BK735,BK736,HB⟩:=hrel
  cases gk with
  | zero=>exact absurd HA.out (fun h_=>(by cases h_))
  | succ k1=>
   have H:=HA.out
   clear HA
   simp only [impl_mapped.l0] at H
   by_cases c12:x16_1<(l0_2.length:Int)
   rotate_left
   ·rw [if_neg c12] at H
    have c12b0:decide (x16_1<(l0_2.length:Int))=false:=deF c12
    clear c12
    simp only [Option.some.injEq,Prod.mk.injEq] at H
    obtain ⟨rfl,rfl,rfl⟩:=H
    have hnb22:=NB736_734.out
    have hnc22:=NB734_736.out
    have hnb23:=NB736_735.out
    have hnc23:=NB735_736.out
    obtain ⟨hcz24_0,hcz24_1,hcz24_2,hfz24_0,hfz24_1,hfz24_2⟩:=bk3 BK736.out
    have hnb25:=NB735_734.out
    have hnc25:=NB734_735.out
    obtain ⟨hcz26_0,hcz26_1,hcz26_2,hfz26_0,hfz26_1,hfz26_2⟩:=bk3 BK735.out
    obtain ⟨Ao27,co27,eo27⟩:=Kd.R_slice HO_737002.out
    subst eo27
    go_wp2
    refine bodyPost_ret (results_cell_row rfl _ _ gb735 58 #[.int .i64 a0_0,.int .i64 a0_1,.slice Ao27 x737002_1.length co27] (0,0) _ rfl (by (with_reducible repeat first|apply bkN|apply bkD|apply bkA);refine blk_put (cs:=#[.int .i64 a0_0,.int .i64 a0_1,.slice none 0 0]) ?_ 2 _ rfl;(with_reducible repeat first|apply bkN|apply bkD|apply bkA);refine blk_put (cs:=#[.int .i64 a0_0,.int .i64 0,.slice none 0 0]) ?_ 1 _ rfl;(with_reducible repeat first|apply bkN|apply bkD|apply bkA);refine blk_put (cs:=#[.int .i64 0,.int .i64 0,.slice none 0 0]) ?_ 0 _ rfl;(with_reducible repeat first|apply bkN|apply bkD|apply bkA);exact BK735.out) Try.underlying58 rfl (by kernel_rfl)) rfl ?_
    exact ⟨_,zE_,by (with_reducible repeat (first|apply Kd.R_alloc|apply Kd.R_drewN|apply Kd.R_drew));exact Kd.R_mono (Kd.R_far (p:=⟨gb735,2,none⟩) (Kd.R_far (p:=⟨gb735,1,none⟩) (Kd.R_far (p:=⟨gb735,0,none⟩) (Kd.R_types HO_737002.out BK735.out (by decide)) (fun _ hk=>hk.2) (.int .i64 a0_0)) (fun _ hk=>hk.2) (.int .i64 a0_1)) (fun _ hk=>hk.2) (.slice Ao27 x737002_1.length co27)) (fun _ hk=>trivial),zb3 HB.out GE734.out GE735.out GE736.out⟩
   rw [if_pos c12] at H
   have c12b0:decide (x16_1<(l0_2.length:Int))=true:=deT c12
   clear c12
   by_cases c13:0≤x16_1
   rotate_left
   ·rw [if_neg c13] at H
    exact absurd H (by simp)
   rw [if_pos c13] at H
   have c13b0:decide (0≤x16_1)=true:=deT c13
   clear c13
   by_cases c14:x16_1<(l0_2.length:Int)
   rotate_left
   ·rw [if_neg c14] at H
    exact absurd H (by simp)
   rw [if_pos c14] at H
   have c14b0:decide (x16_1<(l0_2.length:Int))=true:=deT c14
   clear c14
   by_cases c15:0≤(rd l0_2 x16_1)
   rotate_left
   ·rw [if_neg c15] at H
    exact absurd H (by simp)
   rw [if_pos c15] at H
   have c15b0:decide (0≤(rd l0_2 x16_1))=true:=deT c15
   clear c15
   by_cases c16:(rd l0_2 x16_1)<(l1.length:Int)
   rotate_left
   ·rw [if_neg c16] at H
    exact absurd H (by simp)
   rw [if_pos c16] at H
   have c16b0:decide ((rd l0_2 x16_1)<(l1.length:Int))=true:=deT c16
   clear c16
   by_cases c17:x737002_1.length<17592186044416
   rotate_left
   ·rw [if_neg c17] at H
    exact absurd H (by simp)
   rw [if_pos c17] at H
   have LMc17:=As_ c17
   clear c17
   obtain ⟨y739,hy739⟩:∃ y_:List Int,y_=(x737002_1++[rd l1 (rd l0_2 x16_1)]):=⟨_,rfl⟩
   replace H:(impl_mapped.l0 k1 l1 l0_2 (l0_2.length:Int) (wrap64 (x16_1+1)) a0_0 a0_1 y739)=some (r1,r2,r3):=zH_ H hy739
   have Ny739:=As_ hy739
   clear hy739
   have H':=As_ H
   clear H
   have p737:0≤(x16_1:Int):=odT zA_
   have q737:x16_1<(l0_2.length:Int):=odT zA_
   obtain ⟨ad737,e737,hx737_0⟩:=Kd.at_int HR0_2.out x16_1 p737 q737
   cases e737
   replace hx737_0:=bwC HB.out hx737_0
   replace p737:=eq_true p737
   replace q737:=eq_true q737
   try go_wp2
   have n0_:=As_ (Kd.R_drew HO_737002.out)
   have n1_:=As_ (bkD BK734.out)
   have n2_:=As_ (bkD BK735.out)
   have n3_:=As_ (bkD BK736.out)
   have n4_:=As_ (bwD HB.out)
   clear HO_737002 BK734 BK735 BK736 HB
   revert n0_ n1_ n2_ n3_ n4_;intro HO_737002 BK734 BK735 BK736 HB
   have p738:0≤((rd l0_2 x16_1):Int):=odT zA_
   have q738:(rd l0_2 x16_1)<(l1.length:Int):=odT zA_
   obtain ⟨ad738,e738,hx738_0⟩:=Kd.at_int HR1.out (rd l0_2 x16_1) p738 q738
   have hw738_0:=hx738_0
   cases e738
   replace hx738_0:=bwC HB.out hx738_0
   replace p738:=eq_true p738
   replace q738:=eq_true q738
   refine start_ (n:=10) (S:=fun w'=>w'.cell? ⟨gb736,0,none⟩=some (.int .i64 a0_0)∧w'.cell? ⟨gb736,1,none⟩=some (.int .i64 a0_1)∧w'.cell? ⟨gb736,2,none⟩=some (u737002)∧w'.cell? (ad738.add ((rd l0_2 x16_1)).toNat)=some (.int .i64 (rd l1 (rd l0_2 x16_1)))) (ds:=[9]) (bl_ 0 10) (by kernel_rfl) rfl rfl ⟨(bkC BK736.out 0).trans rfl,(bkC BK736.out 1).trans rfl,(bkC BK736.out 2).trans rfl,((HB.out.cell (bwL w _ hw738_0)).trans hw738_0)⟩ (fun hHeld=>?_);refine with_tabW impl_mapped.tab5 impl_mapped.bits5 (fun HT_ HW_=>?_)
   generalize wr.drew=w18 at HO_737002 BK734 BK735 BK736 HB hx738_0 hHeld ⊢
   refine pQ 0 20 (bl_ 1 10) HT_ rfl ?_
   refine pQ 2 22 (bl_ 5 10) HT_ rfl ?_
   refine pQ 3 23 (bl_ 13 10) HT_ rfl ?_
   refine pQ 4 24 (bl_ 29 10) HT_ rfl ?_
   refine tP 1 21 (bl_ 31 10) ?_ HT_ HW_ rfl (.inl ⟨by rfl,?_⟩) hHeld ?_ ?_ ?_;rotate_left;(rintro w' ⟨s0,s1,s2,s3⟩;go_simp;with_reducible rfl);rotate_left;(simp only [Act.put,sq_,i64_w,i32_w];rfl)
   refine tP 5 25 (bl_ 63 10) ?_ HT_ HW_ rfl (.inl ⟨by rfl,?_⟩) hHeld ?_ ?_ ?_;rotate_left;(rintro w' ⟨s0,s1,s2,s3⟩;go_simp;with_reducible rfl);rotate_left;(simp only [Act.put,sq_,i64_w,i32_w];rfl)
   refine one_ (i:=6) (N:=some 26) (bl_ 127 10) rfl rfl (one_of HT_.out (by kernel_rfl)) (by decide) (fun K hK=>?_)
   refine value_ (w1:=?_) (v:=?_) (by rfl) rfl ?_ ?_
   rotate_left 2
   ·go_simp
    constructor
    ·rfl
    ·rfl
   refine hK.out _ _ ⟨(bkC (bkA BK736.out _) 0).trans rfl,(bkC (bkA BK736.out _) 1).trans rfl,(bkC (bkA BK736.out _) 2).trans rfl,(World.cell?_alloc_lt _ _ _ (bwL _ _ (((HB.out.cell (bwL w _ hw738_0)).trans hw738_0)))).trans (((HB.out.cell (bwL w _ hw738_0)).trans hw738_0))⟩ (fun hHeld=>?_)
   clear hK K
   refine norm_ (a':=?_) ?_ ?_
   rotate_left
   ·show Act.put _ (some 26) _=_
    simp only [Act.put,sq_,i64_w,i32_w]
    rfl
   refine one_ (i:=7) (N:=some 27) (bl_ 255 10) rfl rfl (one_of HT_.out (by kernel_rfl)) (by decide) (fun K hK=>?_)
   refine Kd.R_append_step (Kd.int .i64) (w0:=w) w.heap.size (by rfl) (.tmp 21) (.tmp 26) 26 3 (.int .i64 0) 8 rfl Try.underlying26 info3 rfl (by decide) (by omega) u737002 x737002_1 (rd l1 (rd l0_2 x16_1)) [.int .i64 (rd l1 (rd l0_2 x16_1))] (fun _=>True) (fun _=>False) rfl rfl ?aP (fun _ hk=>hk.elim) ?aF ?aO ?aB ?aS ?aL ?_
   (case aP=>exact rfl)
   (case aB=>exact (zb3 HB.out GE734.out GE735.out GE736.out))
   (case aF=>exact (fun _ _=>trivial))
   (case aO=>exact (zR_ HO_737002.out))
   (case aS=>exact (bwZ (zb3 HB.out GE734.out GE735.out GE736.out)))
   (case aL=>have:=LMc17.out;omega)
   intro v740 w19 ho hb hg hat
   rw [← Ny739.out] at ho
   have n0_:=As_ (blk_grown (g:=gb734) (o:=.cells #[.int .i64 a0_0,.int .i64 a0_1,.slice (some ad737) l0_2.length c0_2] 58 (0,0)) (zk_ BK734.out) hg (Kd.R_ne HO_737002.out BK734.out (by decide)))
   have n1_:=As_ (blk_grown (g:=gb735) (o:=.cells #[.int .i64 0,.int .i64 0,.slice none 0 0] 58 (0,0)) (zk_ BK735.out) hg (Kd.R_ne HO_737002.out BK735.out (by decide)))
   have n2_:=As_ (blk_grown (g:=gb736) (o:=.cells #[.int .i64 a0_0,.int .i64 a0_1,u737002] 58 (0,0)) (zk_ BK736.out) hg (Kd.R_ne HO_737002.out BK736.out (by decide)))
   have n3_:=As_ (hb)
   have n4_:=As_ (ho)
   clear BK734 BK735 BK736 HB HO_737002
   revert n0_ n1_ n2_ n3_ n4_;intro BK734 BK735 BK736 HB HO741
   clear ho hb hg hat
   obtain ⟨Ao20,co20,eo20⟩:=Kd.R_slice HO741.out
   (first|subst eo20|(injection eo20 with f1_ f2_ f3_;have f4_:=f1_.symm;have f5_:=f3_.symm;clear f1_ f2_ f3_;subst f4_;subst f5_))
   refine hK.out _ _ ⟨(bkC BK736.out 0).trans rfl,(bkC BK736.out 1).trans rfl,(bkC BK736.out 2).trans rfl,((HB.out.cell (bwL w _ hw738_0)).trans hw738_0)⟩ (fun hHeld=>?_)
   clear hK K
   refine norm_ (a':=?_) ?_ ?_
   rotate_left
   ·show Act.put _ (some 27) _=_
    simp only [Act.put,sq_,i64_w,i32_w]
    rfl
   refine pQ 8 28 (bl_ 511 10) HT_ rfl ?_
   refine last_ (i:=9) (N:=none) (bl_ 1023 10) rfl rfl (one_of HT_.out (by kernel_rfl)) (by decide) (fun K hK=>?_)
   have hs21:w19.cell? ⟨gb736,2,none⟩=some (u737002):=(bkC BK736.out 2).trans rfl
   have hfs21:=bkF BK736.out 2
   have hns21_0:=NB734_736.out
   have hns21_1:=NB735_736.out
   have hms21_0:=NB736_734.out
   have hms21_1:=NB736_735.out
   refine skip_ (w1:=?_) (by rfl) rfl ?_ ?_
   rotate_left
   ·go_simp
    rfl
   refine hK.out _ _ ?_
   clear hK K
   refine done_ (done_of HT_.out (by kernel_rfl)) ?_
   try go_wp2
   go_roundg k1
   case measure=>have:=HK1.out;omega
   case rel=>exact ⟨(wrap64 (x16_1+1)),(y739),(.slice Ao20 y739.length co20),zT_,H',⟨by have:=HK1.out;omega⟩,⟨by (with_reducible repeat (first|apply Kd.R_alloc|apply Kd.R_drewN|apply Kd.R_drew));exact Kd.R_mono (Kd.R_far (p:=⟨gb736,2,none⟩) (Kd.R_types HO741.out BK736.out (by decide)) (fun _ hk=>hk.2) (.slice Ao20 y739.length co20)) (fun _ hk=>trivial)⟩,⟨by (with_reducible repeat first|apply bkN|apply bkD|apply bkA);refine blk_far ?_ NB734_736.out _;(with_reducible repeat first|apply bkN|apply bkD|apply bkA);exact BK734.out⟩,⟨by (with_reducible repeat first|apply bkN|apply bkD|apply bkA);refine blk_far ?_ NB735_736.out _;(with_reducible repeat first|apply bkN|apply bkD|apply bkA);exact BK735.out⟩,⟨by (with_reducible repeat first|apply bkN|apply bkD|apply bkA);refine blk_put (cs:=#[.int .i64 a0_0,.int .i64 a0_1,u737002]) ?_ 2 _ rfl;(with_reducible repeat first|apply bkN|apply bkD|apply bkA);exact BK736.out⟩,⟨zb3 HB.out GE734.out GE735.out GE736.out⟩⟩
end Go.Proofs.Ytapaegcombfafaa.Q
