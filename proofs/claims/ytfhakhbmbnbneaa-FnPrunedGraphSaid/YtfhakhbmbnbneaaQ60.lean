import Derived.Test.YtfhakhbmbnbneaaQ0
import Derived.Test.YtfhakhbmbnbneaaQ89
import Derived.Test.YtfhakhbmbnbneaaQ90
namespace Go.Proofs.Ytfhakhbmbnbneaa.Q
open Go.RowKit Go.Proofs.YtfhakhbmbnbneaaW.PrintWords Go.Proofs.YtfhakhbmbnbneaaW.PrintLast Go.Proofs.YtfhakhbmbnbneaaW.PrintMore
attribute [local go_sem] max2_int min2_int max_two min_two max_three min_three max_four min_four
set_option linter.unusedVariables false
set_option linter.unusedSimpArgs false
def spec_anyGraph.f (k:Nat) (s0_0:List Int) (s0_1:Int):Option ((List (S45)) × Int × Int):=(spec_someGraph.f k s0_0 s0_1).bind fun bt599=>((spec_reader_pick.f k s0_0 bt599.2.2 (bt599.1.length:Int)).bind fun bt605=>((spec_reader_pick.f k s0_0 bt605.2 20).bind fun bt607=>(if bt607.1=0 then (if 0≤bt605.1 then (if bt605.1<(bt599.1.length:Int) then ((spec_reader_one.f k s0_0 bt607.2 (([(-1),(bt599.1.length:Int)]:List Int))).bind fun bt613=>(if ((rd_T45 bt599.1 bt605.1).f2).length<17592186044416 then (some ((bt599.1.set (bt605.1:Int).toNat (⟨(rd_T45 bt599.1 bt605.1).f0,(rd_T45 bt599.1 bt605.1).f1,(((rd_T45 bt599.1 bt605.1).f2)++[bt613.1])⟩:S45)),bt599.2.1,bt613.2)) else (none))) else (none)) else (none)) else (if bt607.1=1 then ((spec_reader_one.f k s0_0 bt607.2 (([(-1),6,4]:List Int))).bind fun bt622=>(if 0≤bt605.1 then (if bt605.1<(bt599.1.length:Int) then (some ((bt599.1.set (bt605.1:Int).toNat (⟨bt622.1,(rd_T45 bt599.1 bt605.1).f1,(rd_T45 bt599.1 bt605.1).f2⟩:S45)),bt599.2.1,bt622.2)) else (none)) else (none))) else (if bt607.1=2 then (if 0≤bt605.1 then (if bt605.1<(bt599.1.length:Int) then (some ((bt599.1.set (bt605.1:Int).toNat (⟨2,0,(([bt605.1]:List Int))⟩:S45)),bt599.2.1,bt607.2)) else (none)) else (none)) else (if bt607.1=3 then ((spec_reader_one.f k s0_0 bt607.2 (([(-1),(bt599.1.length:Int)]:List Int))).bind fun bt632=>(some (bt599.1,bt632.1,bt632.2))) else (some (bt599.1,bt599.2.1,bt607.2))))))))
set_option maxRecDepth 100000 in
theorem spec_anyGraph.mono:∀ a0 a1 k,LeO (spec_anyGraph.f k a0 a1) (spec_anyGraph.f (k+1) a0 a1):=by
 intro a0 a1 k
 unfold spec_anyGraph.f
 repeat' first
   | (with_reducible exact spec_reader_one.mono _ _ _ _)
   | (with_reducible exact spec_reader_pick.mono _ _ _ _)
   | (with_reducible exact spec_someGraph.mono _ _ _)
   | (with_reducible exact LeO.refl _)
   | (with_reducible exact LeO.none _)
   | (with_reducible refine LeO.ite ?_ ?_)
   | (with_reducible refine LeO.bind ?_ (fun _=>?_))
   | exact spec_reader_one.mono _ _ _ _
   | exact spec_reader_pick.mono _ _ _ _
   | exact spec_someGraph.mono _ _ _
   | exact LeO.none _
   | refine LeO.ite ?_ ?_
   | refine LeO.bind ?_ (fun _=>?_)
def spec_anyGraph.T5:Bool × List (List Nat × List Nat):=(true,[([],[]),([0],[0]),([],[]),([],[]),([3],[3]),([],[]),([4,5],[4,5]),([6],[6]),([7],[7]),([],[]),([],[]),([10],[10]),([11],[11]),([12],[12]),([9,13],[9,13]),([14],[14]),([8,15,14],[8,15]),([1,2,0,1,2,3,4,5,6,7,8,9,10,11,12,13,14,15,16],[1,2]),([17,0,1,2,3,4,5,6,7,8,9,10,11,12,13,14,15,16],[17]),([18,16,16,0,1,2,3,4,5,6,7,8,9,10,11,12,13,14,15,16],[16,18])])
def spec_anyGraph.B5:List Nat:=[0,1,0,0,8,0,56,120,248,0,0,1024,3072,7168,15872,32256,65528,131071,262143,524287]
theorem spec_anyGraph.tab5:rtab .any (opsOf Try.f60 5)=spec_anyGraph.T5:=by kernel_rfl
theorem spec_anyGraph.bits5:waitsOk spec_anyGraph.T5.2 spec_anyGraph.B5=true:=by kernel_rfl
def spec_anyGraph.T7:Bool × List (List Nat × List Nat):=(true,[([],[]),([0],[0]),([],[]),([],[]),([],[]),([3,4],[3,4]),([1,2,0,1,2,3,4,5],[1,2]),([6,0,1,2,3,4,5],[6]),([7,5,5,0,1,2,3,4,5],[5,7])])
def spec_anyGraph.B7:List Nat:=[0,1,0,0,0,24,63,127,255]
theorem spec_anyGraph.tab7:rtab .any (opsOf Try.f60 7)=spec_anyGraph.T7:=by kernel_rfl
theorem spec_anyGraph.bits7:waitsOk spec_anyGraph.T7.2 spec_anyGraph.B7=true:=by kernel_rfl
set_option maxHeartbeats 8000000 in
set_option maxRecDepth 100000 in
theorem spec_anyGraph.calls (k:Nat) (g:Nat) (s0_0:List Int) (s0_1:Int) (r1:List (S45)) (r2:Int) (r3:Int) (w0 w:World) (hI:IsS85 w0 w g s0_0 s0_1) (hB:Below w0.heap.size w0 w) (h:spec_anyGraph.f k s0_0 s0_1=some (r1,r2,r3)) :
  Calls Try.prog 60 #[.pointer (some ⟨g,0,none⟩)] w fun e w'=>∃ v0_:Value,e=.returned (.agg #[v0_,.int .i64 r2])∧Kd.S k45 45 w' w.heap.size (fun _=>True) v0_ r1∧IsS85 w0 w' g s0_0 r3∧Below w0.heap.size w0 w'∧KeepBut w w' g none:=by
 have hu29:=Try.underlying29
 have hu45:=Try.underlying45
 have HI0:=As_ hI
 have HK:=As_ (KeepBut.refl w g none)
 have HL:=As_ hB.size
 clear hI
 have HW0:=As_ hB.size
 have HB:=As_ hB
 clear hB
 have H:((spec_someGraph.f k s0_0 s0_1).bind fun bt599=>((spec_reader_pick.f k s0_0 bt599.2.2 (bt599.1.length:Int)).bind fun bt605=>((spec_reader_pick.f k s0_0 bt605.2 20).bind fun bt607=>(if bt607.1=0 then (if 0≤bt605.1 then (if bt605.1<(bt599.1.length:Int) then ((spec_reader_one.f k s0_0 bt607.2 (([(-1),(bt599.1.length:Int)]:List Int))).bind fun bt613=>(if ((rd_T45 bt599.1 bt605.1).f2).length<17592186044416 then (some ((bt599.1.set (bt605.1:Int).toNat (⟨(rd_T45 bt599.1 bt605.1).f0,(rd_T45 bt599.1 bt605.1).f1,(((rd_T45 bt599.1 bt605.1).f2)++[bt613.1])⟩:S45)),bt599.2.1,bt613.2)) else (none))) else (none)) else (none)) else (if bt607.1=1 then ((spec_reader_one.f k s0_0 bt607.2 (([(-1),6,4]:List Int))).bind fun bt622=>(if 0≤bt605.1 then (if bt605.1<(bt599.1.length:Int) then (some ((bt599.1.set (bt605.1:Int).toNat (⟨bt622.1,(rd_T45 bt599.1 bt605.1).f1,(rd_T45 bt599.1 bt605.1).f2⟩:S45)),bt599.2.1,bt622.2)) else (none)) else (none))) else (if bt607.1=2 then (if 0≤bt605.1 then (if bt605.1<(bt599.1.length:Int) then (some ((bt599.1.set (bt605.1:Int).toNat (⟨2,0,(([bt605.1]:List Int))⟩:S45)),bt599.2.1,bt607.2)) else (none)) else (none)) else (if bt607.1=3 then ((spec_reader_one.f k s0_0 bt607.2 (([(-1),(bt599.1.length:Int)]:List Int))).bind fun bt632=>(some (bt599.1,bt632.1,bt632.2))) else (some (bt599.1,bt599.2.1,bt607.2)))))))))=some (r1,r2,r3):=h
 clear h
 replace H:=obS H
 obtain ⟨⟨t599,t602,t603⟩,A20,H⟩:=H
 replace H:((spec_reader_pick.f k s0_0 t603 (t599.length:Int)).bind fun bt605=>((spec_reader_pick.f k s0_0 bt605.2 20).bind fun bt607=>(if bt607.1=0 then (if 0≤bt605.1 then (if bt605.1<(t599.length:Int) then ((spec_reader_one.f k s0_0 bt607.2 (([(-1),(t599.length:Int)]:List Int))).bind fun bt613=>(if ((rd_T45 t599 bt605.1).f2).length<17592186044416 then (some ((t599.set (bt605.1:Int).toNat (⟨(rd_T45 t599 bt605.1).f0,(rd_T45 t599 bt605.1).f1,(((rd_T45 t599 bt605.1).f2)++[bt613.1])⟩:S45)),t602,bt613.2)) else (none))) else (none)) else (none)) else (if bt607.1=1 then ((spec_reader_one.f k s0_0 bt607.2 (([(-1),6,4]:List Int))).bind fun bt622=>(if 0≤bt605.1 then (if bt605.1<(t599.length:Int) then (some ((t599.set (bt605.1:Int).toNat (⟨bt622.1,(rd_T45 t599 bt605.1).f1,(rd_T45 t599 bt605.1).f2⟩:S45)),t602,bt622.2)) else (none)) else (none))) else (if bt607.1=2 then (if 0≤bt605.1 then (if bt605.1<(t599.length:Int) then (some ((t599.set (bt605.1:Int).toNat (⟨2,0,(([bt605.1]:List Int))⟩:S45)),t602,bt607.2)) else (none)) else (none)) else (if bt607.1=3 then ((spec_reader_one.f k s0_0 bt607.2 (([(-1),(t599.length:Int)]:List Int))).bind fun bt632=>(some (t599,bt632.1,bt632.2))) else (some (t599,t602,bt607.2))))))))=some (r1,r2,r3):=H
 have A2:=As_ A20
 clear A20
 replace H:=obS H
 obtain ⟨⟨t605,t606⟩,A30,H⟩:=H
 replace H:((spec_reader_pick.f k s0_0 t606 20).bind fun bt607=>(if bt607.1=0 then (if 0≤t605 then (if t605<(t599.length:Int) then ((spec_reader_one.f k s0_0 bt607.2 (([(-1),(t599.length:Int)]:List Int))).bind fun bt613=>(if ((rd_T45 t599 t605).f2).length<17592186044416 then (some ((t599.set (t605:Int).toNat (⟨(rd_T45 t599 t605).f0,(rd_T45 t599 t605).f1,(((rd_T45 t599 t605).f2)++[bt613.1])⟩:S45)),t602,bt613.2)) else (none))) else (none)) else (none)) else (if bt607.1=1 then ((spec_reader_one.f k s0_0 bt607.2 (([(-1),6,4]:List Int))).bind fun bt622=>(if 0≤t605 then (if t605<(t599.length:Int) then (some ((t599.set (t605:Int).toNat (⟨bt622.1,(rd_T45 t599 t605).f1,(rd_T45 t599 t605).f2⟩:S45)),t602,bt622.2)) else (none)) else (none))) else (if bt607.1=2 then (if 0≤t605 then (if t605<(t599.length:Int) then (some ((t599.set (t605:Int).toNat (⟨2,0,(([t605]:List Int))⟩:S45)),t602,bt607.2)) else (none)) else (none)) else (if bt607.1=3 then ((spec_reader_one.f k s0_0 bt607.2 (([(-1),(t599.length:Int)]:List Int))).bind fun bt632=>(some (t599,bt632.1,bt632.2))) else (some (t599,t602,bt607.2)))))))=some (r1,r2,r3):=H
 have A3:=As_ A30
 clear A30
 replace H:=obS H
 obtain ⟨⟨t607,t608⟩,A40,H⟩:=H
 replace H:(if t607=0 then (if 0≤t605 then (if t605<(t599.length:Int) then ((spec_reader_one.f k s0_0 t608 (([(-1),(t599.length:Int)]:List Int))).bind fun bt613=>(if ((rd_T45 t599 t605).f2).length<17592186044416 then (some ((t599.set (t605:Int).toNat (⟨(rd_T45 t599 t605).f0,(rd_T45 t599 t605).f1,(((rd_T45 t599 t605).f2)++[bt613.1])⟩:S45)),t602,bt613.2)) else (none))) else (none)) else (none)) else (if t607=1 then ((spec_reader_one.f k s0_0 t608 (([(-1),6,4]:List Int))).bind fun bt622=>(if 0≤t605 then (if t605<(t599.length:Int) then (some ((t599.set (t605:Int).toNat (⟨bt622.1,(rd_T45 t599 t605).f1,(rd_T45 t599 t605).f2⟩:S45)),t602,bt622.2)) else (none)) else (none))) else (if t607=2 then (if 0≤t605 then (if t605<(t599.length:Int) then (some ((t599.set (t605:Int).toNat (⟨2,0,(([t605]:List Int))⟩:S45)),t602,t608)) else (none)) else (none)) else (if t607=3 then ((spec_reader_one.f k s0_0 t608 (([(-1),(t599.length:Int)]:List Int))).bind fun bt632=>(some (t599,bt632.1,bt632.2))) else (some (t599,t602,t608))))))=some (r1,r2,r3):=H
 have A4:=As_ A40
 clear A40
 by_cases c5:t607=0
 rotate_left
 ·rw [if_neg c5] at H
  have c5b0:(t607 == 0)=false:=beq_eq_false_iff_ne.mpr c5
  have c5b1:(t607 != 0)=true:=bne_iff_ne.mpr c5
  by_cases c34:t607=1
  rotate_left
  ·rw [if_neg c34] at H
   have c34b0:(t607 == 1)=false:=beq_eq_false_iff_ne.mpr c34
   have c34b1:(t607 != 1)=true:=bne_iff_ne.mpr c34
   by_cases c58:t607=2
   ·rw [if_pos c58] at H
    have c58b0:(t607 == 2)=true:=beq_iff_eq.mpr c58
    have c58b1:(t607 != 2)=false:=bne_eq_false_iff_eq.mpr c58
    clear c58
    obtain ⟨y625,hy625⟩:∃ y_:List Int,y_=(([t605]:List Int)):=⟨_,rfl⟩
    replace H:(if 0≤t605 then (if t605<(t599.length:Int) then (some ((t599.set (t605:Int).toNat (⟨2,0,y625⟩:S45)),t602,t608)) else (none)) else (none))=some (r1,r2,r3):=zH_ H hy625
    have Ny625:=As_ hy625
    clear hy625
    by_cases c59:0≤t605
    rotate_left
    ·rw [if_neg c59] at H
     exact absurd H (by simp)
    rw [if_pos c59] at H
    have c59b0:decide (0≤t605)=true:=deT c59
    clear c59
    by_cases c60:t605<(t599.length:Int)
    rotate_left
    ·rw [if_neg c60] at H
     exact absurd H (by simp)
    rw [if_pos c60] at H
    have c60b0:decide (t605<(t599.length:Int))=true:=deT c60
    clear c60
    obtain ⟨y628,hy628⟩:∃ y_:List (S45),y_=(t599.set (t605:Int).toNat (⟨2,0,y625⟩:S45)):=⟨_,rfl⟩
    replace H:(some (y628,t602,t608))=some (r1,r2,r3):=zH_ H hy628
    have Ny628:=As_ hy628
    clear hy628
    simp only [Option.some.injEq,Prod.mk.injEq] at H
    obtain ⟨rfl,rfl,rfl⟩:=H
    go_enter Try.func60,Try.ntmps60
    go_wp2_with (first|((with_reducible refine gate_dst (N:=2) rfl ?_);refine box_event ?hg (N:=2) ?hd (cs:=#[.slice none 0 0,.int .i64 0]) (t:=29) ?hr ?_;(case hd=>rfl);(case hg=>rfl);(case hr=>go_simp <;> rfl);intro gb598 hg w62 hbox hb;have n0_:=As_ (IsS85.below (zi85_0 HI0.out) hb);have n1_:=As_ (KeepBut.trans (zkp0 HK.out) (KeepBut.of_below hb g none) (.inl rfl));have n2_:=As_ (bwT (zb1 HB.out (IsS85.ge HI0.out)) hb);have n3_:=As_ (hbox);have n4_:=As_ ((by rw [hg];exact (keep_size (w:=w) (g:=g) (row:=none) (zkp0 HK.out)):w.heap.size≤gb598));have n5_:=As_ ((Nat.le_trans HW0.out (by rw [hg];exact (keep_size (w:=w) (g:=g) (row:=none) (zkp0 HK.out)):w.heap.size≤gb598):w0.heap.size≤gb598));have n6_:=As_ ((by rw [hg];exact Nat.ne_of_lt (IsS85.lt (show IsS85 w0 _ g s0_0 s0_1 from zi85_0 HI0.out)):g≠gb598));have n7_:=As_ ((by rw [hg];exact Nat.ne_of_gt (IsS85.lt (show IsS85 w0 _ g s0_0 s0_1 from zi85_0 HI0.out)):gb598≠g));clear HI0 HK HB;revert n0_ n1_ n2_ n3_ n4_ n5_ n6_ n7_;intro HI0 HK HB BK598 GW598 GE598 NB0_598 NB598_0;clear hb hbox hg)|((with_reducible refine gate_callee (f:=89) rfl ?_);refine goesL_ (some 6) rfl rfl Try.func89 (by kernel_rfl) rfl #[.pointer (some ⟨g,0,none⟩)] rfl zM_ ?_;(with_reducible refine (spec_someGraph.calls k g s0_0 s0_1 t599 t602 t603 w0 _ ?side1 ?side2 A2.out).mono ?_);(case side1=>exact zi85_1 HI0.out NB0_598.out);(case side2=>exact zb2 HB.out (IsS85.ge HI0.out) GE598.out);rintro e w63 ⟨v600,rfl,ho0,hi,hb,hk⟩;refine ⟨_,rfl,?_⟩;have n0_:=As_ (KeepBut.blk hk (g':=gb598) (o:=.cells #[.slice none 0 0,.int .i64 0] 29 (0,0)) (zk_ BK598.out) NB598_0.out (by simp));have n1_:=As_ (Kd.S_lower ho0 (keep_size (w:=w) (g:=g) (row:=none) (zkp1 HK.out GW598.out)));have n2_:=As_ (KeepBut.trans (zkp1 HK.out GW598.out) hk (.inl rfl));have n3_:=As_ (hb);have n4_:=As_ (hi);clear BK598 HK HB HI0;revert n0_ n1_ n2_ n3_ n4_;intro BK598 HO601 HK HB HI0)|((with_reducible refine gate_dst (N:=3) rfl ?_);refine box_event ?hg (N:=3) ?hd (cs:=#[.slice none 0 0,.int .i64 0]) (t:=29) ?hr ?_;(case hd=>rfl);(case hg=>rfl);(case hr=>go_simp <;> rfl);intro gb604 hg w64 hbox hb;have n0_:=As_ (Kd.S_below (zS_ HO601.out) hb);have n1_:=As_ (IsS85.below (zi85_1 HI0.out NB0_598.out) hb);have n2_:=As_ (zkb BK598.out hb);have n3_:=As_ (KeepBut.trans (zkp1 HK.out GW598.out) (KeepBut.of_below hb g none) (.inl rfl));have n4_:=As_ (bwT (zb2 HB.out (IsS85.ge HI0.out) GE598.out) hb);have n5_:=As_ (hbox);have n6_:=As_ ((by rw [hg];exact (keep_size (w:=w) (g:=g) (row:=none) (zkp1 HK.out GW598.out)):w.heap.size≤gb604));have n7_:=As_ ((Nat.le_trans HW0.out (by rw [hg];exact (keep_size (w:=w) (g:=g) (row:=none) (zkp1 HK.out GW598.out)):w.heap.size≤gb604):w0.heap.size≤gb604));have n8_:=As_ ((by rw [hg];exact Nat.ne_of_lt (zkl BK598.out):gb598≠gb604));have n9_:=As_ ((by rw [hg];exact Nat.ne_of_gt (zkl BK598.out):gb604≠gb598));have n10_:=As_ ((by rw [hg];exact Nat.ne_of_lt (IsS85.lt (show IsS85 w0 _ g s0_0 t603 from zi85_1 HI0.out NB0_598.out)):g≠gb604));have n11_:=As_ ((by rw [hg];exact Nat.ne_of_gt (IsS85.lt (show IsS85 w0 _ g s0_0 t603 from zi85_1 HI0.out NB0_598.out)):gb604≠g));clear HO601 HI0 BK598 HK HB;revert n0_ n1_ n2_ n3_ n4_ n5_ n6_ n7_ n8_ n9_ n10_ n11_;intro HO601 HI0 BK598 HK HB BK604 GW604 GE604 NB598_604 NB604_598 NB0_604 NB604_0;clear hb hbox hg;obtain ⟨Ao65,co65,eo65⟩:=Kd.S_slice HO601.out;subst eo65;have hnb66:=NB604_598.out;have hnc66:=NB598_604.out;have hnb67:=NB604_0.out;have hnc67:=NB0_604.out;obtain ⟨hcz68_0,hcz68_1,hfz68_0,hfz68_1⟩:=bk2 BK604.out)|((with_reducible refine gate_callee (f:=90) rfl ?_);refine goesL_ (some 11) rfl rfl Try.func90 (by kernel_rfl) rfl #[.pointer (some ⟨g,0,none⟩),.int .i64 (t599.length:Int)] rfl zM_ ?_;(with_reducible refine (spec_reader_pick.calls k g s0_0 t603 (t599.length:Int) t605 t606 w0 _ ?side1 ?side2 A3.out).mono ?_);(case side1=>exact zi85_2 HI0.out NB0_598.out NB0_604.out);(case side2=>exact zb3 HB.out (IsS85.ge HI0.out) GE598.out GE604.out);rintro e w69 ⟨rfl,hi,hb,hk⟩;refine ⟨_,rfl,?_⟩;have n0_:=As_ (KeepBut.blk hk (g':=gb598) (o:=.cells #[.slice none 0 0,.int .i64 0] 29 (0,0)) (by (with_reducible repeat first|apply bkN|apply bkD|apply bkA);refine blk_far ?_ NB598_604.out _;(with_reducible repeat first|apply bkN|apply bkD|apply bkA);refine blk_far ?_ NB598_604.out _;(with_reducible repeat first|apply bkN|apply bkD|apply bkA);exact BK598.out) NB598_0.out (by simp));have n1_:=As_ (Kd.S_mono (Kd.S_keep (IsS85.apartS (show IsS85 w0 _ g s0_0 t603 from zi85_2 HI0.out NB0_598.out NB0_604.out) (by (with_reducible repeat (first|apply Kd.S_alloc|apply Kd.S_drewN|apply Kd.S_drew));exact (Kd.S_mono (Kd.S_far (p:=⟨gb604,1,none⟩) (Kd.S_far (p:=⟨gb604,0,none⟩) (Kd.S_types HO601.out BK604.out (by decide)) (fun _ hk=>hk.2) (.slice Ao65 t599.length co65)) (fun _ hk=>hk.2) (.int .i64 t602)) (fun _ h_=>h_.1))) (by decide)) hk (fun _ h=>h.2)) (fun _ h=>h.1));have n2_:=As_ (KeepBut.blk hk (g':=gb604) (o:=.cells #[.slice Ao65 t599.length co65,.int .i64 t602] 29 (0,0)) (by (with_reducible repeat first|apply bkN|apply bkD|apply bkA);refine blk_put (cs:=#[.slice Ao65 t599.length co65,.int .i64 0]) ?_ 1 _ rfl;(with_reducible repeat first|apply bkN|apply bkD|apply bkA);refine blk_put (cs:=#[.slice none 0 0,.int .i64 0]) ?_ 0 _ rfl;(with_reducible repeat first|apply bkN|apply bkD|apply bkA);exact BK604.out) NB604_0.out (by simp));have n3_:=As_ (KeepBut.trans (zkp2 HK.out GW598.out GW604.out) hk (.inl rfl));have n4_:=As_ (hb);have n5_:=As_ (hi);clear BK598 HO601 BK604 HK HB HI0;revert n0_ n1_ n2_ n3_ n4_ n5_;intro BK598 HO601 BK604 HK HB HI0)|((with_reducible refine gate_callee (f:=90) rfl ?_);refine goesL_ (some 13) rfl rfl Try.func90 (by kernel_rfl) rfl #[.pointer (some ⟨g,0,none⟩),.int .i64 20] rfl zM_ ?_;(with_reducible refine (spec_reader_pick.calls k g s0_0 t606 20 t607 t608 w0 _ ?side1 ?side2 A4.out).mono ?_);(case side1=>exact zi85_2 HI0.out NB0_598.out NB0_604.out);(case side2=>exact zb3 HB.out (IsS85.ge HI0.out) GE598.out GE604.out);rintro e w70 ⟨rfl,hi,hb,hk⟩;refine ⟨_,rfl,?_⟩;have n0_:=As_ (KeepBut.blk hk (g':=gb598) (o:=.cells #[.slice none 0 0,.int .i64 0] 29 (0,0)) (zk_ BK598.out) NB598_0.out (by simp));have n1_:=As_ (Kd.S_mono (Kd.S_keep (IsS85.apartS (show IsS85 w0 _ g s0_0 t606 from zi85_2 HI0.out NB0_598.out NB0_604.out) (zS_ HO601.out) (by decide)) hk (fun _ h=>h.2)) (fun _ h=>h.1));have n2_:=As_ (KeepBut.blk hk (g':=gb604) (o:=.cells #[.slice Ao65 t599.length co65,.int .i64 t602] 29 (0,0)) (zk_ BK604.out) NB604_0.out (by simp));have n3_:=As_ (KeepBut.trans (zkp2 HK.out GW598.out GW604.out) hk (.inl rfl));have n4_:=As_ (hb);have n5_:=As_ (hi);clear BK598 HO601 BK604 HK HB HI0;revert n0_ n1_ n2_ n3_ n4_ n5_;intro BK598 HO601 BK604 HK HB HI0;obtain ⟨hcz71_0,hcz71_1,hfz71_0,hfz71_1⟩:=bk2 BK604.out)|((with_reducible refine gate_dst (N:=51) rfl ?_);refine Kd.R_lit (Kd.int .i64) _ 3 ?hg (N:=51) ?hd (xs:=([t605]:List Int)) (inner:=[.int .i64 t605]) (ok:=fun _=>True) (okp:=fun _=>True) ?hr ?hp (fun _ hk=>hk) trivial (Below.refl _ _) (Nat.le_refl _) (by simp) ?_;(case hd=>rfl);(case hg=>rfl);(case hr=>go_simp <;> rfl);(case hp=>exact (Reps.one (show Kd.M (Kd.int .i64) _ _ _ t605 [.int .i64 t605] from rfl) (Reps.none _ _)));intro v626 w72 ho73 hb hg_ hnew_;clear hg_ hnew_;(first|rw [← Ny625.out] at ho73|(simp only [Int.reduceToNat] at ho73;rw [← Ny625.out] at ho73));have n0_:=As_ (Kd.S_elder' (zS_ HO601.out) (Kd.R_base ho73) hb);have n1_:=As_ (Kd.R_lower ho73 (keep_size (w:=w) (g:=g) (row:=none) (zkp2 HK.out GW598.out GW604.out)));have n2_:=As_ (IsS85.below (zi85_2 HI0.out NB0_598.out NB0_604.out) hb);have n3_:=As_ (zkb BK598.out hb);have n4_:=As_ (zkb BK604.out hb);have n5_:=As_ (KeepBut.trans (zkp2 HK.out GW598.out GW604.out) (KeepBut.of_below hb g none) (.inl rfl));have n6_:=As_ (bwT (zb3 HB.out (IsS85.ge HI0.out) GE598.out GE604.out) hb);clear HO601 HI0 BK598 BK604 HK HB;revert n0_ n1_ n2_ n3_ n4_ n5_ n6_;intro HO601 HO627 HI0 BK598 BK604 HK HB;clear hb ho73;obtain ⟨Ao74,co74,eo74⟩:=Kd.R_slice HO627.out;subst eo74;have p61:0≤(t605:Int):=odT zA_;have q61:(t605:Int)<((t599.length:Int):Int):=odT zA_;obtain ⟨go61,co61,eo61,gb61,gl61,cl61,HG61⟩:=Kd.S_form HO601.out (by omega);(first|cases eo61|(injection eo61 with ea_ en_ ec_;(first|subst ea_|(injection ea_ with ea_;subst ea_));subst ec_;clear en_));have GB61:=As_ gb61;have GG61:=As_ HG61;clear gb61 gl61 HG61;obtain ⟨_,ce61,hcl61,hM61,hcc61,hfr61,_,_⟩:=Kd.S_elem HO601.out z45 (t605:Int) p61 q61;obtain ⟨ve61_2,rfl,ge61_2⟩:=k45_openM hM61;have hx61_0:w72.cell? ⟨go61,(t605:Int).toNat * 3,none⟩=some (.int .i64 ((rd_T45 t599 t605).f0)):=hcc61 0 _ rfl;have hx61_1:w72.cell? ⟨go61,(t605:Int).toNat * 3+1,none⟩=some (.int .i64 ((rd_T45 t599 t605).f1)):=hcc61 1 _ rfl;have hx61_2:w72.cell? ⟨go61,(t605:Int).toNat * 3+2,none⟩=some (ve61_2):=hcc61 2 _ rfl;have hf61_0:w72.frozen? ⟨go61,(t605:Int).toNat * 3,none⟩=false:=hfr61 0;have hf61_1:w72.frozen? ⟨go61,(t605:Int).toNat * 3+1,none⟩=false:=hfr61 1;have hf61_2:w72.frozen? ⟨go61,(t605:Int).toNat * 3+2,none⟩=false:=hfr61 2;clear hcl61 hcc61 hfr61 hM61;replace p61:=eq_true p61;replace q61:=eq_true q61;have n_:=As_ (Kd.S_mono (ok':=(fun k_=>some k_≠(.slice Ao74 y625.length co74:Value).ownBlock)) HO601.out (fun k_ hk=>hk.2));clear HO601;have HO601:=n_;clear n_;have HX75:=As_ (show Kd.S k45 45 w72 w.heap.size (fun k_=>((fun _=>True)) k_∧¬ ((fun k_=>some k_=(.slice Ao74 y625.length co74:Value).ownBlock)) k_) (.slice (some ⟨go61,0,none⟩) t599.length co65) t599 from (by (with_reducible repeat (first|apply Kd.S_alloc|apply Kd.S_drewN|apply Kd.S_drew));exact Kd.S_mono HO601.out (fun k_ hk=>⟨trivial,fun e_=>hk e_⟩)));obtain ⟨oki75,ce75,hcl75,hM75,hcc75,hfr75,hoki75,hH75⟩:=Kd.S_elem HX75.out z45 (t605:Int) (odT zA_) (by have h_:(t605:Int)<((t599.length:Int):Int):=odT zA_;first|exact h_|(have e_:=(Kd.S_reads' HO601.out).1;omega)|simpa using h_);obtain ⟨ve75_2,rfl,ge75_2⟩:=k45_openM hM75;have HP75:=Kd.S_seg hH75 (odT zA_) (by have h_:(t605:Int)<((t599.length:Int):Int):=odT zA_;first|exact h_|(have e_:=(Kd.S_reads' HO601.out).1;omega)|simpa using h_) (seg:=[.int .i64 2,.int .i64 0,.slice Ao74 y625.length co74]) (j:=0) (show 3≤3 from by decide) (x':=(⟨2,0,y625⟩:S45)) (k45_mkM _ _ _ (⟨2,0,y625⟩:S45) (Kd.R_mono (Kd.R_tight rfl (Kd.R_mono (ok':=fun k_=>((fun _=>True)) k_∧k_≠go61) (Kd.R_apart' (HO627.out) (Kd.S_typed HO601.out) (by decide)) (fun k_ hk=>⟨trivial,fun e_=>(hk.2) (by rw [e_];rfl)⟩))) (fun _ h_=>Or.inr (h_)))) (fun _ hk=>hk) (fun k_ hk_=>((Kd.R_mono (ok':=fun k_=>((fun _=>True)) k_∧k_≠go61) (Kd.R_apart' (HO627.out) (Kd.S_typed HO601.out) (by decide)) (fun k_ hk=>⟨trivial,fun e_=>(hk.2) (by rw [e_];rfl)⟩))).1 k_ hk_.symm);have hx75_0:=hcc75 0 _ rfl;(try simp only [show (k45).sz=3 from rfl,Nat.mul_one,Nat.add_zero] at hx75_0);have hf75_0:=hfr75 0;(try simp only [show (k45).sz=3 from rfl,Nat.mul_one,Nat.add_zero] at hf75_0);have hx75_1:=hcc75 1 _ rfl;(try simp only [show (k45).sz=3 from rfl,Nat.mul_one,Nat.add_zero] at hx75_1);have hf75_1:=hfr75 1;(try simp only [show (k45).sz=3 from rfl,Nat.mul_one,Nat.add_zero] at hf75_1);have hx75_2:=hcc75 2 _ rfl;(try simp only [show (k45).sz=3 from rfl,Nat.mul_one,Nat.add_zero] at hx75_2);have hf75_2:=hfr75 2;(try simp only [show (k45).sz=3 from rfl,Nat.mul_one,Nat.add_zero] at hf75_2);clear hcl75 hcc75 hfr75 hM75 hoki75 hH75)|((with_reducible refine gate_store (t:=45) (p:=53) rfl ?_);refine store_event (t:=45) (p:=53) (v:=?vo_w76) (w1:=(((w72.setCell ⟨go61,(t605:Int).toNat * 3,none⟩ (.int .i64 2)).setCell ⟨go61,(t605:Int).toNat * 3+1,none⟩ (.int .i64 0)).setCell ⟨go61,(t605:Int).toNat * 3+2,none⟩ (.slice Ao74 y625.length co74))) ?hg ?ho ?hn ?hr ?_;(case ho=>rfl);(case hg=>rfl);(case hn=>rfl);(case hr=>go_simp <;> rfl);intro w76 hw;have hg:w72.grownBy w76 (some go61):=(by rw [hw];exact HP75.2);have hp_:Kd.S k45 45 w76 w.heap.size (fun _=>True) (.slice (some ⟨go61,0,none⟩) t599.length co65) y628:=(by rw [hw,Ny628.out];exact HP75.1);clear HP75;have n0_:=As_ (IsS85.grown (zi85_2 HI0.out NB0_598.out NB0_604.out) hg (IsS85.own_neS HI0.out HO601.out (by decide)));have n1_:=As_ (blk_grown (g:=gb598) (o:=.cells #[.slice none 0 0,.int .i64 0] 29 (0,0)) (zk_ BK598.out) hg (Kd.S_ne HO601.out BK598.out (by decide)));have n2_:=As_ (hp_);have n3_:=As_ (blk_grown (g:=gb604) (o:=.cells #[.slice (some ⟨go61,0,none⟩) t599.length co65,.int .i64 t602] 29 (0,0)) (zk_ BK604.out) hg (Kd.S_ne HO601.out BK604.out (by decide)));have n4_:=As_ ((by rw [hw];exact bwS (bwS (bwS (HB.out) (Nat.le_trans HL.out GB61.out)) (Nat.le_trans HL.out GB61.out)) (Nat.le_trans HL.out GB61.out):Below w0.heap.size w0 w76));have n5_:=As_ (KeepBut.trans (zkp2 HK.out GW598.out GW604.out) (KeepBut.of_grown hg g) (Kd.S_base2 HO601.out));clear HI0 BK598 HO601 BK604 HB HK HO627;revert n0_ n1_ n2_ n3_ n4_ n5_;intro HI0 BK598 HO601 BK604 HB HK;clear hg hw hp_;obtain ⟨hcz77_0,hcz77_1,hfz77_0,hfz77_1⟩:=bk2 BK604.out;have hnb78:=NB598_0.out;have hnc78:=NB0_598.out;obtain ⟨hcz79_0,hcz79_1,hfz79_0,hfz79_1⟩:=bk2 BK598.out))
    refine bodyPost_ret (results_cell_row rfl _ _ gb598 29 #[.slice (some ⟨go61,0,none⟩) t599.length co65,.int .i64 t602] (0,0) _ rfl (by (with_reducible repeat first|apply bkN|apply bkD|apply bkA);refine blk_put (cs:=#[.slice (some ⟨go61,0,none⟩) t599.length co65,.int .i64 0]) ?_ 1 _ rfl;(with_reducible repeat first|apply bkN|apply bkD|apply bkA);refine blk_put (cs:=#[.slice none 0 0,.int .i64 0]) ?_ 0 _ rfl;(with_reducible repeat first|apply bkN|apply bkD|apply bkA);exact BK598.out) Try.underlying29 rfl (by kernel_rfl)) rfl ?_
    exact ⟨_,zE_,by (with_reducible repeat (first|apply Kd.S_alloc|apply Kd.S_drewN|apply Kd.S_drew));exact Kd.S_mono (Kd.S_far (p:=⟨gb598,1,none⟩) (Kd.S_far (p:=⟨gb598,0,none⟩) (Kd.S_types HO601.out BK598.out (by decide)) (fun _ hk=>hk.2) (.slice (some ⟨go61,0,none⟩) t599.length co65)) (fun _ hk=>hk.2) (.int .i64 t602)) (fun _ hk=>trivial),zi85_2 HI0.out NB0_598.out NB0_604.out,zb3 HB.out (IsS85.ge HI0.out) GE598.out GE604.out,zkp2 HK.out GW598.out GW604.out⟩
   rw [if_neg c58] at H
   have c58b0:(t607 == 2)=false:=beq_eq_false_iff_ne.mpr c58
   have c58b1:(t607 != 2)=true:=bne_iff_ne.mpr c58
   by_cases c80:t607=3
   rotate_left
   ·rw [if_neg c80] at H
    have c80b0:(t607 == 3)=false:=beq_eq_false_iff_ne.mpr c80
    have c80b1:(t607 != 3)=true:=bne_iff_ne.mpr c80
    simp only [Option.some.injEq,Prod.mk.injEq] at H
    obtain ⟨rfl,rfl,rfl⟩:=H
    go_enter Try.func60,Try.ntmps60
    go_wp2_with (first|((with_reducible refine gate_dst (N:=2) rfl ?_);refine box_event ?hg (N:=2) ?hd (cs:=#[.slice none 0 0,.int .i64 0]) (t:=29) ?hr ?_;(case hd=>rfl);(case hg=>rfl);(case hr=>go_simp <;> rfl);intro gb598 hg w99 hbox hb;have n0_:=As_ (IsS85.below (zi85_0 HI0.out) hb);have n1_:=As_ (KeepBut.trans (zkp0 HK.out) (KeepBut.of_below hb g none) (.inl rfl));have n2_:=As_ (bwT (zb1 HB.out (IsS85.ge HI0.out)) hb);have n3_:=As_ (hbox);have n4_:=As_ ((by rw [hg];exact (keep_size (w:=w) (g:=g) (row:=none) (zkp0 HK.out)):w.heap.size≤gb598));have n5_:=As_ ((Nat.le_trans HW0.out (by rw [hg];exact (keep_size (w:=w) (g:=g) (row:=none) (zkp0 HK.out)):w.heap.size≤gb598):w0.heap.size≤gb598));have n6_:=As_ ((by rw [hg];exact Nat.ne_of_lt (IsS85.lt (show IsS85 w0 _ g s0_0 s0_1 from zi85_0 HI0.out)):g≠gb598));have n7_:=As_ ((by rw [hg];exact Nat.ne_of_gt (IsS85.lt (show IsS85 w0 _ g s0_0 s0_1 from zi85_0 HI0.out)):gb598≠g));clear HI0 HK HB;revert n0_ n1_ n2_ n3_ n4_ n5_ n6_ n7_;intro HI0 HK HB BK598 GW598 GE598 NB0_598 NB598_0;clear hb hbox hg)|((with_reducible refine gate_callee (f:=89) rfl ?_);refine goesL_ (some 6) rfl rfl Try.func89 (by kernel_rfl) rfl #[.pointer (some ⟨g,0,none⟩)] rfl zM_ ?_;(with_reducible refine (spec_someGraph.calls k g s0_0 s0_1 t599 t602 t603 w0 _ ?side1 ?side2 A2.out).mono ?_);(case side1=>exact zi85_1 HI0.out NB0_598.out);(case side2=>exact zb2 HB.out (IsS85.ge HI0.out) GE598.out);rintro e w100 ⟨v600,rfl,ho0,hi,hb,hk⟩;refine ⟨_,rfl,?_⟩;have n0_:=As_ (KeepBut.blk hk (g':=gb598) (o:=.cells #[.slice none 0 0,.int .i64 0] 29 (0,0)) (zk_ BK598.out) NB598_0.out (by simp));have n1_:=As_ (Kd.S_lower ho0 (keep_size (w:=w) (g:=g) (row:=none) (zkp1 HK.out GW598.out)));have n2_:=As_ (KeepBut.trans (zkp1 HK.out GW598.out) hk (.inl rfl));have n3_:=As_ (hb);have n4_:=As_ (hi);clear BK598 HK HB HI0;revert n0_ n1_ n2_ n3_ n4_;intro BK598 HO601 HK HB HI0)|((with_reducible refine gate_dst (N:=3) rfl ?_);refine box_event ?hg (N:=3) ?hd (cs:=#[.slice none 0 0,.int .i64 0]) (t:=29) ?hr ?_;(case hd=>rfl);(case hg=>rfl);(case hr=>go_simp <;> rfl);intro gb604 hg w101 hbox hb;have n0_:=As_ (Kd.S_below (zS_ HO601.out) hb);have n1_:=As_ (IsS85.below (zi85_1 HI0.out NB0_598.out) hb);have n2_:=As_ (zkb BK598.out hb);have n3_:=As_ (KeepBut.trans (zkp1 HK.out GW598.out) (KeepBut.of_below hb g none) (.inl rfl));have n4_:=As_ (bwT (zb2 HB.out (IsS85.ge HI0.out) GE598.out) hb);have n5_:=As_ (hbox);have n6_:=As_ ((by rw [hg];exact (keep_size (w:=w) (g:=g) (row:=none) (zkp1 HK.out GW598.out)):w.heap.size≤gb604));have n7_:=As_ ((Nat.le_trans HW0.out (by rw [hg];exact (keep_size (w:=w) (g:=g) (row:=none) (zkp1 HK.out GW598.out)):w.heap.size≤gb604):w0.heap.size≤gb604));have n8_:=As_ ((by rw [hg];exact Nat.ne_of_lt (zkl BK598.out):gb598≠gb604));have n9_:=As_ ((by rw [hg];exact Nat.ne_of_gt (zkl BK598.out):gb604≠gb598));have n10_:=As_ ((by rw [hg];exact Nat.ne_of_lt (IsS85.lt (show IsS85 w0 _ g s0_0 t603 from zi85_1 HI0.out NB0_598.out)):g≠gb604));have n11_:=As_ ((by rw [hg];exact Nat.ne_of_gt (IsS85.lt (show IsS85 w0 _ g s0_0 t603 from zi85_1 HI0.out NB0_598.out)):gb604≠g));clear HO601 HI0 BK598 HK HB;revert n0_ n1_ n2_ n3_ n4_ n5_ n6_ n7_ n8_ n9_ n10_ n11_;intro HO601 HI0 BK598 HK HB BK604 GW604 GE604 NB598_604 NB604_598 NB0_604 NB604_0;clear hb hbox hg;obtain ⟨Ao102,co102,eo102⟩:=Kd.S_slice HO601.out;subst eo102;have hnb103:=NB604_598.out;have hnc103:=NB598_604.out;have hnb104:=NB604_0.out;have hnc104:=NB0_604.out;obtain ⟨hcz105_0,hcz105_1,hfz105_0,hfz105_1⟩:=bk2 BK604.out)|((with_reducible refine gate_callee (f:=90) rfl ?_);refine goesL_ (some 11) rfl rfl Try.func90 (by kernel_rfl) rfl #[.pointer (some ⟨g,0,none⟩),.int .i64 (t599.length:Int)] rfl zM_ ?_;(with_reducible refine (spec_reader_pick.calls k g s0_0 t603 (t599.length:Int) t605 t606 w0 _ ?side1 ?side2 A3.out).mono ?_);(case side1=>exact zi85_2 HI0.out NB0_598.out NB0_604.out);(case side2=>exact zb3 HB.out (IsS85.ge HI0.out) GE598.out GE604.out);rintro e w106 ⟨rfl,hi,hb,hk⟩;refine ⟨_,rfl,?_⟩;have n0_:=As_ (KeepBut.blk hk (g':=gb598) (o:=.cells #[.slice none 0 0,.int .i64 0] 29 (0,0)) (by (with_reducible repeat first|apply bkN|apply bkD|apply bkA);refine blk_far ?_ NB598_604.out _;(with_reducible repeat first|apply bkN|apply bkD|apply bkA);refine blk_far ?_ NB598_604.out _;(with_reducible repeat first|apply bkN|apply bkD|apply bkA);exact BK598.out) NB598_0.out (by simp));have n1_:=As_ (Kd.S_mono (Kd.S_keep (IsS85.apartS (show IsS85 w0 _ g s0_0 t603 from zi85_2 HI0.out NB0_598.out NB0_604.out) (by (with_reducible repeat (first|apply Kd.S_alloc|apply Kd.S_drewN|apply Kd.S_drew));exact (Kd.S_mono (Kd.S_far (p:=⟨gb604,1,none⟩) (Kd.S_far (p:=⟨gb604,0,none⟩) (Kd.S_types HO601.out BK604.out (by decide)) (fun _ hk=>hk.2) (.slice Ao102 t599.length co102)) (fun _ hk=>hk.2) (.int .i64 t602)) (fun _ h_=>h_.1))) (by decide)) hk (fun _ h=>h.2)) (fun _ h=>h.1));have n2_:=As_ (KeepBut.blk hk (g':=gb604) (o:=.cells #[.slice Ao102 t599.length co102,.int .i64 t602] 29 (0,0)) (by (with_reducible repeat first|apply bkN|apply bkD|apply bkA);refine blk_put (cs:=#[.slice Ao102 t599.length co102,.int .i64 0]) ?_ 1 _ rfl;(with_reducible repeat first|apply bkN|apply bkD|apply bkA);refine blk_put (cs:=#[.slice none 0 0,.int .i64 0]) ?_ 0 _ rfl;(with_reducible repeat first|apply bkN|apply bkD|apply bkA);exact BK604.out) NB604_0.out (by simp));have n3_:=As_ (KeepBut.trans (zkp2 HK.out GW598.out GW604.out) hk (.inl rfl));have n4_:=As_ (hb);have n5_:=As_ (hi);clear BK598 HO601 BK604 HK HB HI0;revert n0_ n1_ n2_ n3_ n4_ n5_;intro BK598 HO601 BK604 HK HB HI0)|((with_reducible refine gate_callee (f:=90) rfl ?_);refine goesL_ (some 13) rfl rfl Try.func90 (by kernel_rfl) rfl #[.pointer (some ⟨g,0,none⟩),.int .i64 20] rfl zM_ ?_;(with_reducible refine (spec_reader_pick.calls k g s0_0 t606 20 t607 t608 w0 _ ?side1 ?side2 A4.out).mono ?_);(case side1=>exact zi85_2 HI0.out NB0_598.out NB0_604.out);(case side2=>exact zb3 HB.out (IsS85.ge HI0.out) GE598.out GE604.out);rintro e w107 ⟨rfl,hi,hb,hk⟩;refine ⟨_,rfl,?_⟩;have n0_:=As_ (KeepBut.blk hk (g':=gb598) (o:=.cells #[.slice none 0 0,.int .i64 0] 29 (0,0)) (zk_ BK598.out) NB598_0.out (by simp));have n1_:=As_ (Kd.S_mono (Kd.S_keep (IsS85.apartS (show IsS85 w0 _ g s0_0 t606 from zi85_2 HI0.out NB0_598.out NB0_604.out) (zS_ HO601.out) (by decide)) hk (fun _ h=>h.2)) (fun _ h=>h.1));have n2_:=As_ (KeepBut.blk hk (g':=gb604) (o:=.cells #[.slice Ao102 t599.length co102,.int .i64 t602] 29 (0,0)) (zk_ BK604.out) NB604_0.out (by simp));have n3_:=As_ (KeepBut.trans (zkp2 HK.out GW598.out GW604.out) hk (.inl rfl));have n4_:=As_ (hb);have n5_:=As_ (hi);clear BK598 HO601 BK604 HK HB HI0;revert n0_ n1_ n2_ n3_ n4_ n5_;intro BK598 HO601 BK604 HK HB HI0;obtain ⟨hcz108_0,hcz108_1,hfz108_0,hfz108_1⟩:=bk2 BK604.out;have hnb109:=NB598_0.out;have hnc109:=NB0_598.out;obtain ⟨hcz110_0,hcz110_1,hfz110_0,hfz110_1⟩:=bk2 BK598.out))
    refine bodyPost_ret (results_cell_row rfl _ _ gb598 29 #[.slice Ao102 t599.length co102,.int .i64 t602] (0,0) _ rfl (by (with_reducible repeat first|apply bkN|apply bkD|apply bkA);refine blk_put (cs:=#[.slice Ao102 t599.length co102,.int .i64 0]) ?_ 1 _ rfl;(with_reducible repeat first|apply bkN|apply bkD|apply bkA);refine blk_put (cs:=#[.slice none 0 0,.int .i64 0]) ?_ 0 _ rfl;(with_reducible repeat first|apply bkN|apply bkD|apply bkA);exact BK598.out) Try.underlying29 rfl (by kernel_rfl)) rfl ?_
    exact ⟨_,zE_,by (with_reducible repeat (first|apply Kd.S_alloc|apply Kd.S_drewN|apply Kd.S_drew));exact Kd.S_mono (Kd.S_far (p:=⟨gb598,1,none⟩) (Kd.S_far (p:=⟨gb598,0,none⟩) (Kd.S_types HO601.out BK598.out (by decide)) (fun _ hk=>hk.2) (.slice Ao102 t599.length co102)) (fun _ hk=>hk.2) (.int .i64 t602)) (fun _ hk=>trivial),zi85_2 HI0.out NB0_598.out NB0_604.out,zb3 HB.out (IsS85.ge HI0.out) GE598.out GE604.out,zkp2 HK.out GW598.out GW604.out⟩
   rw [if_pos c80] at H
   have c80b0:(t607 == 3)=true:=beq_iff_eq.mpr c80
   have c80b1:(t607 != 3)=false:=bne_eq_false_iff_eq.mpr c80
   clear c80
   obtain ⟨y629,hy629⟩:∃ y_:List Int,y_=(([(-1),(t599.length:Int)]:List Int)):=⟨_,rfl⟩
   replace H:((spec_reader_one.f k s0_0 t608 y629).bind fun bt632=>(some (t599,bt632.1,bt632.2)))=some (r1,r2,r3):=zH_ H hy629
   have Ny629:=As_ hy629
   clear hy629
   replace H:=obS H
   obtain ⟨⟨t632,t633⟩,A810,H⟩:=H
   replace H:(some (t599,t632,t633))=some (r1,r2,r3):=H
   have A81:=As_ A810
   clear A810
   simp only [Option.some.injEq,Prod.mk.injEq] at H
   obtain ⟨rfl,rfl,rfl⟩:=H
   go_enter Try.func60,Try.ntmps60
   go_wp2_with (first|((with_reducible refine gate_dst (N:=2) rfl ?_);refine box_event ?hg (N:=2) ?hd (cs:=#[.slice none 0 0,.int .i64 0]) (t:=29) ?hr ?_;(case hd=>rfl);(case hg=>rfl);(case hr=>go_simp <;> rfl);intro gb598 hg w82 hbox hb;have n0_:=As_ (IsS85.below (zi85_0 HI0.out) hb);have n1_:=As_ (KeepBut.trans (zkp0 HK.out) (KeepBut.of_below hb g none) (.inl rfl));have n2_:=As_ (bwT (zb1 HB.out (IsS85.ge HI0.out)) hb);have n3_:=As_ (hbox);have n4_:=As_ ((by rw [hg];exact (keep_size (w:=w) (g:=g) (row:=none) (zkp0 HK.out)):w.heap.size≤gb598));have n5_:=As_ ((Nat.le_trans HW0.out (by rw [hg];exact (keep_size (w:=w) (g:=g) (row:=none) (zkp0 HK.out)):w.heap.size≤gb598):w0.heap.size≤gb598));have n6_:=As_ ((by rw [hg];exact Nat.ne_of_lt (IsS85.lt (show IsS85 w0 _ g s0_0 s0_1 from zi85_0 HI0.out)):g≠gb598));have n7_:=As_ ((by rw [hg];exact Nat.ne_of_gt (IsS85.lt (show IsS85 w0 _ g s0_0 s0_1 from zi85_0 HI0.out)):gb598≠g));clear HI0 HK HB;revert n0_ n1_ n2_ n3_ n4_ n5_ n6_ n7_;intro HI0 HK HB BK598 GW598 GE598 NB0_598 NB598_0;clear hb hbox hg)|((with_reducible refine gate_callee (f:=89) rfl ?_);refine goesL_ (some 6) rfl rfl Try.func89 (by kernel_rfl) rfl #[.pointer (some ⟨g,0,none⟩)] rfl zM_ ?_;(with_reducible refine (spec_someGraph.calls k g s0_0 s0_1 t599 t602 t603 w0 _ ?side1 ?side2 A2.out).mono ?_);(case side1=>exact zi85_1 HI0.out NB0_598.out);(case side2=>exact zb2 HB.out (IsS85.ge HI0.out) GE598.out);rintro e w83 ⟨v600,rfl,ho0,hi,hb,hk⟩;refine ⟨_,rfl,?_⟩;have n0_:=As_ (KeepBut.blk hk (g':=gb598) (o:=.cells #[.slice none 0 0,.int .i64 0] 29 (0,0)) (zk_ BK598.out) NB598_0.out (by simp));have n1_:=As_ (Kd.S_lower ho0 (keep_size (w:=w) (g:=g) (row:=none) (zkp1 HK.out GW598.out)));have n2_:=As_ (KeepBut.trans (zkp1 HK.out GW598.out) hk (.inl rfl));have n3_:=As_ (hb);have n4_:=As_ (hi);clear BK598 HK HB HI0;revert n0_ n1_ n2_ n3_ n4_;intro BK598 HO601 HK HB HI0)|((with_reducible refine gate_dst (N:=3) rfl ?_);refine box_event ?hg (N:=3) ?hd (cs:=#[.slice none 0 0,.int .i64 0]) (t:=29) ?hr ?_;(case hd=>rfl);(case hg=>rfl);(case hr=>go_simp <;> rfl);intro gb604 hg w84 hbox hb;have n0_:=As_ (Kd.S_below (zS_ HO601.out) hb);have n1_:=As_ (IsS85.below (zi85_1 HI0.out NB0_598.out) hb);have n2_:=As_ (zkb BK598.out hb);have n3_:=As_ (KeepBut.trans (zkp1 HK.out GW598.out) (KeepBut.of_below hb g none) (.inl rfl));have n4_:=As_ (bwT (zb2 HB.out (IsS85.ge HI0.out) GE598.out) hb);have n5_:=As_ (hbox);have n6_:=As_ ((by rw [hg];exact (keep_size (w:=w) (g:=g) (row:=none) (zkp1 HK.out GW598.out)):w.heap.size≤gb604));have n7_:=As_ ((Nat.le_trans HW0.out (by rw [hg];exact (keep_size (w:=w) (g:=g) (row:=none) (zkp1 HK.out GW598.out)):w.heap.size≤gb604):w0.heap.size≤gb604));have n8_:=As_ ((by rw [hg];exact Nat.ne_of_lt (zkl BK598.out):gb598≠gb604));have n9_:=As_ ((by rw [hg];exact Nat.ne_of_gt (zkl BK598.out):gb604≠gb598));have n10_:=As_ ((by rw [hg];exact Nat.ne_of_lt (IsS85.lt (show IsS85 w0 _ g s0_0 t603 from zi85_1 HI0.out NB0_598.out)):g≠gb604));have n11_:=As_ ((by rw [hg];exact Nat.ne_of_gt (IsS85.lt (show IsS85 w0 _ g s0_0 t603 from zi85_1 HI0.out NB0_598.out)):gb604≠g));clear HO601 HI0 BK598 HK HB;revert n0_ n1_ n2_ n3_ n4_ n5_ n6_ n7_ n8_ n9_ n10_ n11_;intro HO601 HI0 BK598 HK HB BK604 GW604 GE604 NB598_604 NB604_598 NB0_604 NB604_0;clear hb hbox hg;obtain ⟨Ao85,co85,eo85⟩:=Kd.S_slice HO601.out;subst eo85;have hnb86:=NB604_598.out;have hnc86:=NB598_604.out;have hnb87:=NB604_0.out;have hnc87:=NB0_604.out;obtain ⟨hcz88_0,hcz88_1,hfz88_0,hfz88_1⟩:=bk2 BK604.out)|((with_reducible refine gate_callee (f:=90) rfl ?_);refine goesL_ (some 11) rfl rfl Try.func90 (by kernel_rfl) rfl #[.pointer (some ⟨g,0,none⟩),.int .i64 (t599.length:Int)] rfl zM_ ?_;(with_reducible refine (spec_reader_pick.calls k g s0_0 t603 (t599.length:Int) t605 t606 w0 _ ?side1 ?side2 A3.out).mono ?_);(case side1=>exact zi85_2 HI0.out NB0_598.out NB0_604.out);(case side2=>exact zb3 HB.out (IsS85.ge HI0.out) GE598.out GE604.out);rintro e w89 ⟨rfl,hi,hb,hk⟩;refine ⟨_,rfl,?_⟩;have n0_:=As_ (KeepBut.blk hk (g':=gb598) (o:=.cells #[.slice none 0 0,.int .i64 0] 29 (0,0)) (by (with_reducible repeat first|apply bkN|apply bkD|apply bkA);refine blk_far ?_ NB598_604.out _;(with_reducible repeat first|apply bkN|apply bkD|apply bkA);refine blk_far ?_ NB598_604.out _;(with_reducible repeat first|apply bkN|apply bkD|apply bkA);exact BK598.out) NB598_0.out (by simp));have n1_:=As_ (Kd.S_mono (Kd.S_keep (IsS85.apartS (show IsS85 w0 _ g s0_0 t603 from zi85_2 HI0.out NB0_598.out NB0_604.out) (by (with_reducible repeat (first|apply Kd.S_alloc|apply Kd.S_drewN|apply Kd.S_drew));exact (Kd.S_mono (Kd.S_far (p:=⟨gb604,1,none⟩) (Kd.S_far (p:=⟨gb604,0,none⟩) (Kd.S_types HO601.out BK604.out (by decide)) (fun _ hk=>hk.2) (.slice Ao85 t599.length co85)) (fun _ hk=>hk.2) (.int .i64 t602)) (fun _ h_=>h_.1))) (by decide)) hk (fun _ h=>h.2)) (fun _ h=>h.1));have n2_:=As_ (KeepBut.blk hk (g':=gb604) (o:=.cells #[.slice Ao85 t599.length co85,.int .i64 t602] 29 (0,0)) (by (with_reducible repeat first|apply bkN|apply bkD|apply bkA);refine blk_put (cs:=#[.slice Ao85 t599.length co85,.int .i64 0]) ?_ 1 _ rfl;(with_reducible repeat first|apply bkN|apply bkD|apply bkA);refine blk_put (cs:=#[.slice none 0 0,.int .i64 0]) ?_ 0 _ rfl;(with_reducible repeat first|apply bkN|apply bkD|apply bkA);exact BK604.out) NB604_0.out (by simp));have n3_:=As_ (KeepBut.trans (zkp2 HK.out GW598.out GW604.out) hk (.inl rfl));have n4_:=As_ (hb);have n5_:=As_ (hi);clear BK598 HO601 BK604 HK HB HI0;revert n0_ n1_ n2_ n3_ n4_ n5_;intro BK598 HO601 BK604 HK HB HI0)|((with_reducible refine gate_callee (f:=90) rfl ?_);refine goesL_ (some 13) rfl rfl Try.func90 (by kernel_rfl) rfl #[.pointer (some ⟨g,0,none⟩),.int .i64 20] rfl zM_ ?_;(with_reducible refine (spec_reader_pick.calls k g s0_0 t606 20 t607 t608 w0 _ ?side1 ?side2 A4.out).mono ?_);(case side1=>exact zi85_2 HI0.out NB0_598.out NB0_604.out);(case side2=>exact zb3 HB.out (IsS85.ge HI0.out) GE598.out GE604.out);rintro e w90 ⟨rfl,hi,hb,hk⟩;refine ⟨_,rfl,?_⟩;have n0_:=As_ (KeepBut.blk hk (g':=gb598) (o:=.cells #[.slice none 0 0,.int .i64 0] 29 (0,0)) (zk_ BK598.out) NB598_0.out (by simp));have n1_:=As_ (Kd.S_mono (Kd.S_keep (IsS85.apartS (show IsS85 w0 _ g s0_0 t606 from zi85_2 HI0.out NB0_598.out NB0_604.out) (zS_ HO601.out) (by decide)) hk (fun _ h=>h.2)) (fun _ h=>h.1));have n2_:=As_ (KeepBut.blk hk (g':=gb604) (o:=.cells #[.slice Ao85 t599.length co85,.int .i64 t602] 29 (0,0)) (zk_ BK604.out) NB604_0.out (by simp));have n3_:=As_ (KeepBut.trans (zkp2 HK.out GW598.out GW604.out) hk (.inl rfl));have n4_:=As_ (hb);have n5_:=As_ (hi);clear BK598 HO601 BK604 HK HB HI0;revert n0_ n1_ n2_ n3_ n4_ n5_;intro BK598 HO601 BK604 HK HB HI0;obtain ⟨hcz91_0,hcz91_1,hfz91_0,hfz91_1⟩:=bk2 BK604.out)|((with_reducible refine gate_dst (N:=60) rfl ?_);refine Kd.R_lit (Kd.int .i64) _ 3 ?hg (N:=60) ?hd (xs:=([(-1),(t599.length:Int)]:List Int)) (inner:=[.int .i64 (-1),.int .i64 (t599.length:Int)]) (ok:=fun _=>True) (okp:=fun _=>True) ?hr ?hp (fun _ hk=>hk) trivial (Below.refl _ _) (Nat.le_refl _) (by simp) ?_;(case hd=>rfl);(case hg=>rfl);(case hr=>go_simp <;> rfl);(case hp=>exact (Reps.one (show Kd.M (Kd.int .i64) _ _ _ (-1) [.int .i64 (-1)] from rfl) (Reps.one (show Kd.M (Kd.int .i64) _ _ _ (t599.length:Int) [.int .i64 (t599.length:Int)] from rfl) (Reps.none _ _))));intro v630 w92 ho93 hb hg_ hnew_;clear hg_ hnew_;(first|rw [← Ny629.out] at ho93|(simp only [Int.reduceToNat] at ho93;rw [← Ny629.out] at ho93));have n0_:=As_ (Kd.S_elder' (zS_ HO601.out) (Kd.R_base ho93) hb);have n1_:=As_ (Kd.R_lower ho93 (keep_size (w:=w) (g:=g) (row:=none) (zkp2 HK.out GW598.out GW604.out)));have n2_:=As_ (IsS85.below (zi85_2 HI0.out NB0_598.out NB0_604.out) hb);have n3_:=As_ (zkb BK598.out hb);have n4_:=As_ (zkb BK604.out hb);have n5_:=As_ (KeepBut.trans (zkp2 HK.out GW598.out GW604.out) (KeepBut.of_below hb g none) (.inl rfl));have n6_:=As_ (bwT (zb3 HB.out (IsS85.ge HI0.out) GE598.out GE604.out) hb);clear HO601 HI0 BK598 BK604 HK HB;revert n0_ n1_ n2_ n3_ n4_ n5_ n6_;intro HO601 HO631 HI0 BK598 BK604 HK HB;clear hb ho93;obtain ⟨Ao94,co94,eo94⟩:=Kd.R_slice HO631.out;subst eo94)|((with_reducible refine gate_callee (f:=91) rfl ?_);refine goesL_ (some 61) rfl rfl Try.func91 (by kernel_rfl) rfl #[.pointer (some ⟨g,0,none⟩),.slice Ao94 y629.length co94] rfl zM_ ?_;(with_reducible refine (spec_reader_one.calls k g s0_0 t608 _ _ y629 t632 t633 w0 _ ?side1 ?side2 ?side3 ?side4 ?side5 A81.out).mono ?_);(case side1=>exact zi85_2 HI0.out NB0_598.out NB0_604.out);(case side2=>exact zb3 HB.out (IsS85.ge HI0.out) GE598.out GE604.out);(case side3=>exact zC_ (Kd.R_reads' HO631.out).2.2);(case side4=>exact (Kd.R_reads' HO631.out).2.1);(case side5=>exact far_slice (IsS85.own_ne HI0.out HO631.out (by decide)));rintro e w95 ⟨rfl,hi,hb,hk⟩;refine ⟨_,rfl,?_⟩;have n0_:=As_ (KeepBut.blk hk (g':=gb598) (o:=.cells #[.slice none 0 0,.int .i64 0] 29 (0,0)) (zk_ BK598.out) NB598_0.out (by simp));have n1_:=As_ (Kd.S_mono (Kd.S_keep (IsS85.apartS (show IsS85 w0 _ g s0_0 t608 from zi85_2 HI0.out NB0_598.out NB0_604.out) (zS_ HO601.out) (by decide)) hk (fun _ h=>h.2)) (fun _ h=>h.1));have n2_:=As_ (KeepBut.blk hk (g':=gb604) (o:=.cells #[.slice Ao85 t599.length co85,.int .i64 t602] 29 (0,0)) (zk_ BK604.out) NB604_0.out (by simp));have n3_:=As_ (Kd.R_mono (Kd.R_keep (IsS85.apart (show IsS85 w0 _ g s0_0 t608 from zi85_2 HI0.out NB0_598.out NB0_604.out) (zR_ HO631.out) (by decide)) hk (fun _ h=>h.2)) (fun _ h=>h.1));have n4_:=As_ (KeepBut.trans (zkp2 HK.out GW598.out GW604.out) hk (.inl rfl));have n5_:=As_ (hb);have n6_:=As_ (hi);clear BK598 HO601 BK604 HO631 HK HB HI0;revert n0_ n1_ n2_ n3_ n4_ n5_ n6_;intro BK598 HO601 BK604 HO631 HK HB HI0;obtain ⟨hcz96_0,hcz96_1,hfz96_0,hfz96_1⟩:=bk2 BK604.out;have hnb97:=NB598_0.out;have hnc97:=NB0_598.out;obtain ⟨hcz98_0,hcz98_1,hfz98_0,hfz98_1⟩:=bk2 BK598.out))
   refine bodyPost_ret (results_cell_row rfl _ _ gb598 29 #[.slice Ao85 t599.length co85,.int .i64 t632] (0,0) _ rfl (by (with_reducible repeat first|apply bkN|apply bkD|apply bkA);refine blk_put (cs:=#[.slice Ao85 t599.length co85,.int .i64 0]) ?_ 1 _ rfl;(with_reducible repeat first|apply bkN|apply bkD|apply bkA);refine blk_put (cs:=#[.slice none 0 0,.int .i64 0]) ?_ 0 _ rfl;(with_reducible repeat first|apply bkN|apply bkD|apply bkA);refine blk_far ?_ NB598_604.out _;(with_reducible repeat first|apply bkN|apply bkD|apply bkA);exact BK598.out) Try.underlying29 rfl (by kernel_rfl)) rfl ?_
   exact ⟨_,zE_,by (with_reducible repeat (first|apply Kd.S_alloc|apply Kd.S_drewN|apply Kd.S_drew));exact Kd.S_mono (Kd.S_far (p:=⟨gb598,1,none⟩) (Kd.S_far (p:=⟨gb598,0,none⟩) (Kd.S_far (p:=⟨gb604,1,none⟩) (Kd.S_types (Kd.S_types HO601.out BK604.out (by decide)) BK598.out (by decide)) (fun _ hk=>hk.1.2) (.int .i64 t632)) (fun _ hk=>hk.2) (.slice Ao85 t599.length co85)) (fun _ hk=>hk.2) (.int .i64 t632)) (fun _ hk=>trivial),zi85_2 HI0.out NB0_598.out NB0_604.out,zb3 HB.out (IsS85.ge HI0.out) GE598.out GE604.out,zkp2 HK.out GW598.out GW604.out⟩
  rw [if_pos c34] at H
  have c34b0:(t607 == 1)=true:=beq_iff_eq.mpr c34
  have c34b1:(t607 != 1)=false:=bne_eq_false_iff_eq.mpr c34
  clear c34
  obtain ⟨y619,hy619⟩:∃ y_:List Int,y_=(([(-1),6,4]:List Int)):=⟨_,rfl⟩
  replace H:((spec_reader_one.f k s0_0 t608 y619).bind fun bt622=>(if 0≤t605 then (if t605<(t599.length:Int) then (some ((t599.set (t605:Int).toNat (⟨bt622.1,(rd_T45 t599 t605).f1,(rd_T45 t599 t605).f2⟩:S45)),t602,bt622.2)) else (none)) else (none)))=some (r1,r2,r3):=zH_ H hy619
  have Ny619:=As_ hy619
  clear hy619
  replace H:=obS H
  obtain ⟨⟨t622,t623⟩,A350,H⟩:=H
  replace H:(if 0≤t605 then (if t605<(t599.length:Int) then (some ((t599.set (t605:Int).toNat (⟨t622,(rd_T45 t599 t605).f1,(rd_T45 t599 t605).f2⟩:S45)),t602,t623)) else (none)) else (none))=some (r1,r2,r3):=H
  have A35:=As_ A350
  clear A350
  by_cases c36:0≤t605
  rotate_left
  ·rw [if_neg c36] at H
   exact absurd H (by simp)
  rw [if_pos c36] at H
  have c36b0:decide (0≤t605)=true:=deT c36
  clear c36
  by_cases c37:t605<(t599.length:Int)
  rotate_left
  ·rw [if_neg c37] at H
   exact absurd H (by simp)
  rw [if_pos c37] at H
  have c37b0:decide (t605<(t599.length:Int))=true:=deT c37
  clear c37
  obtain ⟨y624,hy624⟩:∃ y_:List (S45),y_=(t599.set (t605:Int).toNat (⟨t622,(rd_T45 t599 t605).f1,(rd_T45 t599 t605).f2⟩:S45)):=⟨_,rfl⟩
  replace H:(some (y624,t602,t623))=some (r1,r2,r3):=zH_ H hy624
  have Ny624:=As_ hy624
  clear hy624
  simp only [Option.some.injEq,Prod.mk.injEq] at H
  obtain ⟨rfl,rfl,rfl⟩:=H
  go_enter Try.func60,Try.ntmps60
  try go_wp2_with (first|((with_reducible refine gate_dst (N:=2) rfl ?_);refine box_event ?hg (N:=2) ?hd (cs:=#[.slice none 0 0,.int .i64 0]) (t:=29) ?hr ?_;(case hd=>rfl);(case hg=>rfl);(case hr=>go_simp <;> rfl);intro gb598 hg w39 hbox hb;have n0_:=As_ (IsS85.below (zi85_0 HI0.out) hb);have n1_:=As_ (KeepBut.trans (zkp0 HK.out) (KeepBut.of_below hb g none) (.inl rfl));have n2_:=As_ (bwT (zb1 HB.out (IsS85.ge HI0.out)) hb);have n3_:=As_ (hbox);have n4_:=As_ ((by rw [hg];exact (keep_size (w:=w) (g:=g) (row:=none) (zkp0 HK.out)):w.heap.size≤gb598));have n5_:=As_ ((Nat.le_trans HW0.out (by rw [hg];exact (keep_size (w:=w) (g:=g) (row:=none) (zkp0 HK.out)):w.heap.size≤gb598):w0.heap.size≤gb598));have n6_:=As_ ((by rw [hg];exact Nat.ne_of_lt (IsS85.lt (show IsS85 w0 _ g s0_0 s0_1 from zi85_0 HI0.out)):g≠gb598));have n7_:=As_ ((by rw [hg];exact Nat.ne_of_gt (IsS85.lt (show IsS85 w0 _ g s0_0 s0_1 from zi85_0 HI0.out)):gb598≠g));clear HI0 HK HB;revert n0_ n1_ n2_ n3_ n4_ n5_ n6_ n7_;intro HI0 HK HB BK598 GW598 GE598 NB0_598 NB598_0;clear hb hbox hg)|((with_reducible refine gate_callee (f:=89) rfl ?_);refine goesL_ (some 6) rfl rfl Try.func89 (by kernel_rfl) rfl #[.pointer (some ⟨g,0,none⟩)] rfl zM_ ?_;(with_reducible refine (spec_someGraph.calls k g s0_0 s0_1 t599 t602 t603 w0 _ ?side1 ?side2 A2.out).mono ?_);(case side1=>exact zi85_1 HI0.out NB0_598.out);(case side2=>exact zb2 HB.out (IsS85.ge HI0.out) GE598.out);rintro e w40 ⟨v600,rfl,ho0,hi,hb,hk⟩;refine ⟨_,rfl,?_⟩;have n0_:=As_ (KeepBut.blk hk (g':=gb598) (o:=.cells #[.slice none 0 0,.int .i64 0] 29 (0,0)) (zk_ BK598.out) NB598_0.out (by simp));have n1_:=As_ (Kd.S_lower ho0 (keep_size (w:=w) (g:=g) (row:=none) (zkp1 HK.out GW598.out)));have n2_:=As_ (KeepBut.trans (zkp1 HK.out GW598.out) hk (.inl rfl));have n3_:=As_ (hb);have n4_:=As_ (hi);clear BK598 HK HB HI0;revert n0_ n1_ n2_ n3_ n4_;intro BK598 HO601 HK HB HI0)|((with_reducible refine gate_dst (N:=3) rfl ?_);refine box_event ?hg (N:=3) ?hd (cs:=#[.slice none 0 0,.int .i64 0]) (t:=29) ?hr ?_;(case hd=>rfl);(case hg=>rfl);(case hr=>go_simp <;> rfl);intro gb604 hg w41 hbox hb;have n0_:=As_ (Kd.S_below (zS_ HO601.out) hb);have n1_:=As_ (IsS85.below (zi85_1 HI0.out NB0_598.out) hb);have n2_:=As_ (zkb BK598.out hb);have n3_:=As_ (KeepBut.trans (zkp1 HK.out GW598.out) (KeepBut.of_below hb g none) (.inl rfl));have n4_:=As_ (bwT (zb2 HB.out (IsS85.ge HI0.out) GE598.out) hb);have n5_:=As_ (hbox);have n6_:=As_ ((by rw [hg];exact (keep_size (w:=w) (g:=g) (row:=none) (zkp1 HK.out GW598.out)):w.heap.size≤gb604));have n7_:=As_ ((Nat.le_trans HW0.out (by rw [hg];exact (keep_size (w:=w) (g:=g) (row:=none) (zkp1 HK.out GW598.out)):w.heap.size≤gb604):w0.heap.size≤gb604));have n8_:=As_ ((by rw [hg];exact Nat.ne_of_lt (zkl BK598.out):gb598≠gb604));have n9_:=As_ ((by rw [hg];exact Nat.ne_of_gt (zkl BK598.out):gb604≠gb598));have n10_:=As_ ((by rw [hg];exact Nat.ne_of_lt (IsS85.lt (show IsS85 w0 _ g s0_0 t603 from zi85_1 HI0.out NB0_598.out)):g≠gb604));have n11_:=As_ ((by rw [hg];exact Nat.ne_of_gt (IsS85.lt (show IsS85 w0 _ g s0_0 t603 from zi85_1 HI0.out NB0_598.out)):gb604≠g));clear HO601 HI0 BK598 HK HB;revert n0_ n1_ n2_ n3_ n4_ n5_ n6_ n7_ n8_ n9_ n10_ n11_;intro HO601 HI0 BK598 HK HB BK604 GW604 GE604 NB598_604 NB604_598 NB0_604 NB604_0;clear hb hbox hg;obtain ⟨Ao42,co42,eo42⟩:=Kd.S_slice HO601.out;subst eo42;have hnb43:=NB604_598.out;have hnc43:=NB598_604.out;have hnb44:=NB604_0.out;have hnc44:=NB0_604.out;obtain ⟨hcz45_0,hcz45_1,hfz45_0,hfz45_1⟩:=bk2 BK604.out)|((with_reducible refine gate_callee (f:=90) rfl ?_);refine goesL_ (some 11) rfl rfl Try.func90 (by kernel_rfl) rfl #[.pointer (some ⟨g,0,none⟩),.int .i64 (t599.length:Int)] rfl zM_ ?_;(with_reducible refine (spec_reader_pick.calls k g s0_0 t603 (t599.length:Int) t605 t606 w0 _ ?side1 ?side2 A3.out).mono ?_);(case side1=>exact zi85_2 HI0.out NB0_598.out NB0_604.out);(case side2=>exact zb3 HB.out (IsS85.ge HI0.out) GE598.out GE604.out);rintro e w46 ⟨rfl,hi,hb,hk⟩;refine ⟨_,rfl,?_⟩;have n0_:=As_ (KeepBut.blk hk (g':=gb598) (o:=.cells #[.slice none 0 0,.int .i64 0] 29 (0,0)) (by (with_reducible repeat first|apply bkN|apply bkD|apply bkA);refine blk_far ?_ NB598_604.out _;(with_reducible repeat first|apply bkN|apply bkD|apply bkA);refine blk_far ?_ NB598_604.out _;(with_reducible repeat first|apply bkN|apply bkD|apply bkA);exact BK598.out) NB598_0.out (by simp));have n1_:=As_ (Kd.S_mono (Kd.S_keep (IsS85.apartS (show IsS85 w0 _ g s0_0 t603 from zi85_2 HI0.out NB0_598.out NB0_604.out) (by (with_reducible repeat (first|apply Kd.S_alloc|apply Kd.S_drewN|apply Kd.S_drew));exact (Kd.S_mono (Kd.S_far (p:=⟨gb604,1,none⟩) (Kd.S_far (p:=⟨gb604,0,none⟩) (Kd.S_types HO601.out BK604.out (by decide)) (fun _ hk=>hk.2) (.slice Ao42 t599.length co42)) (fun _ hk=>hk.2) (.int .i64 t602)) (fun _ h_=>h_.1))) (by decide)) hk (fun _ h=>h.2)) (fun _ h=>h.1));have n2_:=As_ (KeepBut.blk hk (g':=gb604) (o:=.cells #[.slice Ao42 t599.length co42,.int .i64 t602] 29 (0,0)) (by (with_reducible repeat first|apply bkN|apply bkD|apply bkA);refine blk_put (cs:=#[.slice Ao42 t599.length co42,.int .i64 0]) ?_ 1 _ rfl;(with_reducible repeat first|apply bkN|apply bkD|apply bkA);refine blk_put (cs:=#[.slice none 0 0,.int .i64 0]) ?_ 0 _ rfl;(with_reducible repeat first|apply bkN|apply bkD|apply bkA);exact BK604.out) NB604_0.out (by simp));have n3_:=As_ (KeepBut.trans (zkp2 HK.out GW598.out GW604.out) hk (.inl rfl));have n4_:=As_ (hb);have n5_:=As_ (hi);clear BK598 HO601 BK604 HK HB HI0;revert n0_ n1_ n2_ n3_ n4_ n5_;intro BK598 HO601 BK604 HK HB HI0)|((with_reducible refine gate_callee (f:=90) rfl ?_);refine goesL_ (some 13) rfl rfl Try.func90 (by kernel_rfl) rfl #[.pointer (some ⟨g,0,none⟩),.int .i64 20] rfl zM_ ?_;(with_reducible refine (spec_reader_pick.calls k g s0_0 t606 20 t607 t608 w0 _ ?side1 ?side2 A4.out).mono ?_);(case side1=>exact zi85_2 HI0.out NB0_598.out NB0_604.out);(case side2=>exact zb3 HB.out (IsS85.ge HI0.out) GE598.out GE604.out);rintro e w47 ⟨rfl,hi,hb,hk⟩;refine ⟨_,rfl,?_⟩;have n0_:=As_ (KeepBut.blk hk (g':=gb598) (o:=.cells #[.slice none 0 0,.int .i64 0] 29 (0,0)) (zk_ BK598.out) NB598_0.out (by simp));have n1_:=As_ (Kd.S_mono (Kd.S_keep (IsS85.apartS (show IsS85 w0 _ g s0_0 t606 from zi85_2 HI0.out NB0_598.out NB0_604.out) (zS_ HO601.out) (by decide)) hk (fun _ h=>h.2)) (fun _ h=>h.1));have n2_:=As_ (KeepBut.blk hk (g':=gb604) (o:=.cells #[.slice Ao42 t599.length co42,.int .i64 t602] 29 (0,0)) (zk_ BK604.out) NB604_0.out (by simp));have n3_:=As_ (KeepBut.trans (zkp2 HK.out GW598.out GW604.out) hk (.inl rfl));have n4_:=As_ (hb);have n5_:=As_ (hi);clear BK598 HO601 BK604 HK HB HI0;revert n0_ n1_ n2_ n3_ n4_ n5_;intro BK598 HO601 BK604 HK HB HI0))
  have n0_:=As_ (Kd.S_drew HO601.out)
  have n1_:=As_ (bkD BK598.out)
  have n2_:=As_ (bkD BK604.out)
  have n3_:=As_ (IsS85.drew HI0.out)
  have n4_:=As_ (keep_drew HK.out)
  have n5_:=As_ (bwD HB.out)
  clear HO601 BK598 BK604 HI0 HK HB
  revert n0_ n1_ n2_ n3_ n4_ n5_;intro HO601 BK598 BK604 HI0 HK HB
  refine start_ (n:=9) (S:=fun w'=>w'.cell? ⟨gb604,0,none⟩=some (.slice Ao42 t599.length co42)∧w'.cell? ⟨gb604,1,none⟩=some (.int .i64 t602)) (ds:=[8]) (bl_ 0 9) (by kernel_rfl) rfl rfl ⟨(bkC BK604.out 0).trans rfl,(bkC BK604.out 1).trans rfl⟩ (fun hHeld=>?_);refine with_tabW spec_anyGraph.tab7 spec_anyGraph.bits7 (fun HT_ HW_=>?_)
  generalize w47.drew=w48 at HO601 BK598 BK604 HI0 HK HB hHeld ⊢
  refine pQ 0 37 (bl_ 1 9) HT_ rfl ?_
  refine pQ 2 39 (bl_ 5 9) HT_ rfl ?_
  refine pQ 3 40 (bl_ 13 9) HT_ rfl ?_
  refine tP 1 38 (bl_ 15 9) ?_ HT_ HW_ rfl (.inl ⟨by rfl,?_⟩) hHeld ?_ ?_ ?_;rotate_left;(rintro w' ⟨s0,s1⟩;go_simp;with_reducible rfl);rotate_left;(simp only [Act.put,sq_];rfl)
  refine one_ (i:=4) (N:=some 41) (bl_ 31 9) rfl rfl (one_of HT_.out (by kernel_rfl)) (by decide) (fun K hK=>?_)
  refine Kd.R_lit_step (Kd.int .i64) _ 3 ?hg (N:=41) ?hd (xs:=([(-1),6,4]:List Int)) (inner:=[.int .i64 (-1),.int .i64 6,.int .i64 4]) (ok:=fun _=>True) (okp:=fun _=>True) ?hr ?hp (fun _ hk=>hk) trivial (Below.refl _ _) (Nat.le_refl _) (by simp) ?_;(case hd=>rfl);(case hg=>rfl);(case hr=>go_simp <;> rfl);(case hp=>exact (Reps.one (show Kd.M (Kd.int .i64) _ _ _ (-1) [.int .i64 (-1)] from rfl) (Reps.one (show Kd.M (Kd.int .i64) _ _ _ 6 [.int .i64 6] from rfl) (Reps.one (show Kd.M (Kd.int .i64) _ _ _ 4 [.int .i64 4] from rfl) (Reps.none _ _)))))
  intro v620 w49 ho50 hb hg_ hnew_
  clear hg_ hnew_
  (first|rw [← Ny619.out] at ho50|(simp only [Int.reduceToNat] at ho50;rw [← Ny619.out] at ho50))
  have n0_:=As_ (Kd.S_elder' (zS_ HO601.out) (Kd.R_base ho50) hb)
  have n1_:=As_ (Kd.R_lower ho50 (keep_size (w:=w) (g:=g) (row:=none) (zkp2 HK.out GW598.out GW604.out)))
  have n2_:=As_ (IsS85.below (zi85_2 HI0.out NB0_598.out NB0_604.out) hb)
  have n3_:=As_ (zkb BK598.out hb)
  have n4_:=As_ (zkb BK604.out hb)
  have n5_:=As_ (KeepBut.trans (zkp2 HK.out GW598.out GW604.out) (KeepBut.of_below hb g none) (.inl rfl))
  have n6_:=As_ (bwT (zb3 HB.out (IsS85.ge HI0.out) GE598.out GE604.out) hb)
  clear HO601 HI0 BK598 BK604 HK HB
  revert n0_ n1_ n2_ n3_ n4_ n5_ n6_;intro HO601 HO621 HI0 BK598 BK604 HK HB
  clear hb ho50
  obtain ⟨Ao51,co51,eo51⟩:=Kd.R_slice HO621.out
  (first|subst eo51|(injection eo51 with f1_ f2_ f3_;have f4_:=f1_.symm;have f5_:=f3_.symm;clear f1_ f2_ f3_;subst f4_;subst f5_))
  refine hK.out _ _ ⟨(bkC BK604.out 0).trans rfl,(bkC BK604.out 1).trans rfl⟩ (fun hHeld=>?_)
  clear hK K
  refine norm_ (a':=?_) ?_ ?_
  rotate_left
  ·show Act.put _ (some 41) _=_
   simp only [Act.put,sq_]
   rfl
  refine one_ (i:=5) (N:=some 42) (bl_ 63 9) rfl rfl (one_of HT_.out (by kernel_rfl)) (by decide) (fun K hK=>?_)
  refine goes_ Try.func91 (by kernel_rfl) rfl #[.pointer (some ⟨g,0,none⟩),.slice Ao51 y619.length co51] (by rfl) rfl rfl zM_ ?_
  with_reducible refine (spec_reader_one.calls k g s0_0 t608 _ _ y619 t622 t623 w0 _ ?side1 ?side2 ?side3 ?side4 ?side5 A35.out).mono ?_
  (case side1=>exact zi85_2 HI0.out NB0_598.out NB0_604.out)
  (case side2=>exact zb3 HB.out (IsS85.ge HI0.out) GE598.out GE604.out)
  (case side3=>exact zC_ (Kd.R_reads' HO621.out).2.2)
  (case side4=>exact (Kd.R_reads' HO621.out).2.1)
  (case side5=>exact far_slice (IsS85.own_ne HI0.out HO621.out (by decide)))
  rintro e w52 ⟨rfl,hi,hb,hk⟩
  refine ⟨_,rfl,?_⟩
  have n0_:=As_ (KeepBut.blk hk (g':=gb598) (o:=.cells #[.slice none 0 0,.int .i64 0] 29 (0,0)) (zk_ BK598.out) NB598_0.out (by simp))
  have n1_:=As_ (Kd.S_mono (Kd.S_keep (IsS85.apartS (show IsS85 w0 _ g s0_0 t608 from zi85_2 HI0.out NB0_598.out NB0_604.out) (zS_ HO601.out) (by decide)) hk (fun _ h=>h.2)) (fun _ h=>h.1))
  have n2_:=As_ (KeepBut.blk hk (g':=gb604) (o:=.cells #[.slice Ao42 t599.length co42,.int .i64 t602] 29 (0,0)) (zk_ BK604.out) NB604_0.out (by simp))
  have n3_:=As_ (Kd.R_mono (Kd.R_keep (IsS85.apart (show IsS85 w0 _ g s0_0 t608 from zi85_2 HI0.out NB0_598.out NB0_604.out) (zR_ HO621.out) (by decide)) hk (fun _ h=>h.2)) (fun _ h=>h.1))
  have n4_:=As_ (KeepBut.trans (zkp2 HK.out GW598.out GW604.out) hk (.inl rfl))
  have n5_:=As_ (hb)
  have n6_:=As_ (hi)
  clear BK598 HO601 BK604 HO621 HK HB HI0
  revert n0_ n1_ n2_ n3_ n4_ n5_ n6_;intro BK598 HO601 BK604 HO621 HK HB HI0
  have p38:0≤(t605:Int):=odT zA_
  have q38:(t605:Int)<((t599.length:Int):Int):=odT zA_
  obtain ⟨go38,co38,eo38,gb38,gl38,cl38,HG38⟩:=Kd.S_form HO601.out (by omega)
  (first|cases eo38|(injection eo38 with ea_ en_ ec_;(first|subst ea_|(injection ea_ with ea_;subst ea_));subst ec_;clear en_))
  have GB38:=As_ gb38
  have GG38:=As_ HG38
  clear gb38 gl38 HG38
  obtain ⟨_,ce38,hcl38,hM38,hcc38,hfr38,_,_⟩:=Kd.S_elem HO601.out z45 (t605:Int) p38 q38
  obtain ⟨ve38_2,rfl,ge38_2⟩:=k45_openM hM38
  have hx38_0:World.cell? _ ⟨go38,(t605:Int).toNat * 3,none⟩=some (.int .i64 ((rd_T45 t599 t605).f0)):=hcc38 0 _ rfl
  have hx38_1:World.cell? _ ⟨go38,(t605:Int).toNat * 3+1,none⟩=some (.int .i64 ((rd_T45 t599 t605).f1)):=hcc38 1 _ rfl
  have hx38_2:World.cell? _ ⟨go38,(t605:Int).toNat * 3+2,none⟩=some (ve38_2):=hcc38 2 _ rfl
  have hf38_0:World.frozen? _ ⟨go38,(t605:Int).toNat * 3,none⟩=false:=hfr38 0
  have hf38_1:World.frozen? _ ⟨go38,(t605:Int).toNat * 3+1,none⟩=false:=hfr38 1
  have hf38_2:World.frozen? _ ⟨go38,(t605:Int).toNat * 3+2,none⟩=false:=hfr38 2
  clear hcl38 hcc38 hfr38 hM38
  replace p38:=eq_true p38
  replace q38:=eq_true q38
  have HN0_go38:=As_ (show g≠go38 from by have h_:=IsS85.own_neS HI0.out HO601.out (by decide);intro e_;exact h_ (by rw [e_];rfl))
  have HX53:=As_ (show Kd.S k45 45 _ w.heap.size (fun k_=>((fun k_=>some k_≠(.slice Ao51 y619.length co51:Value).ownBlock)) k_∧¬ (fun _=>False) k_) (.slice (some ⟨go38,0,none⟩) t599.length co42) t599 from (Kd.S_mono HO601.out (fun k_ hk=>⟨hk.2,fun e_=>e_⟩)))
  obtain ⟨oki53,ce53,hcl53,hM53,hcc53,hfr53,hoki53,hH53⟩:=Kd.S_elem HX53.out z45 (t605:Int) (odT zA_) (by have h_:(t605:Int)<((t599.length:Int):Int):=odT zA_;first|exact h_|(have e_:=(Kd.S_reads' HO601.out).1;omega)|simpa using h_)
  obtain ⟨ve53_2,rfl,ge53_2⟩:=k45_openM hM53
  have HP53:=(Kd.S_seg hH53 (odT zA_) (by have h_:(t605:Int)<((t599.length:Int):Int):=odT zA_;first|exact h_|(have e_:=(Kd.S_reads' HO601.out).1;omega)|simpa using h_) (seg:=[.int .i64 t622]) (j:=0) (show 1≤3 from by decide) (x':=(⟨t622,(rd_T45 t599 t605).f1,(rd_T45 t599 t605).f2⟩:S45)) (k45_mkM _ _ _ (⟨t622,(rd_T45 t599 t605).f1,(rd_T45 t599 t605).f2⟩:S45) ge53_2) (fun _ hk=>Or.inl hk) (fun _ hk=>hk.elim)).1
  rw [← Ny624.out] at HP53
  have HQ53:=As_ HP53
  clear hcl53 hcc53 hfr53 hM53 HP53
  refine hK.out _ _ ⟨(bkC BK604.out 0).trans rfl,(bkC BK604.out 1).trans rfl⟩ (fun hHeld=>?_)
  clear hK K
  refine norm_ (a':=?_) ?_ ?_
  rotate_left
  ·show Act.put _ (some 42) _=_
   simp only [Act.put,sq_]
   rfl
  refine pQ 6 43 (bl_ 127 9) HT_ rfl ?_
  refine pQ 7 44 (bl_ 255 9) HT_ rfl ?_
  refine last_ (i:=8) (N:=none) (bl_ 511 9) rfl rfl (one_of HT_.out (by kernel_rfl)) (by decide) (fun K hK=>?_)
  refine skip_ (w1:=?_) (by rfl) rfl ?_ ?_
  rotate_left
  ·go_simp
   rfl
  refine hK.out _ _ ?_
  clear hK K
  refine done_ (done_of HT_.out (by kernel_rfl)) ?_
  have n0_:Aside0 (Kd.S k45 45 (w52.setCell ⟨go38,(t605:Int).toNat * 3,none⟩ (.int .i64 t622)) w.heap.size (fun k_=>some k_≠(.slice Ao51 y619.length co51:Value).ownBlock) (.slice (some ⟨go38,0,none⟩) t599.length co42) y624):=⟨by (with_reducible repeat (first|apply Kd.S_alloc|apply Kd.S_drewN|apply Kd.S_drew));exact HQ53.out⟩
  have n1_:Aside0 (Kd.R (Kd.int .i64) 3 (w52.setCell ⟨go38,(t605:Int).toNat * 3,none⟩ (.int .i64 t622)) w.heap.size (fun _=>True) (.slice Ao51 y619.length co51) y619):=⟨by (with_reducible repeat (first|apply Kd.R_alloc|apply Kd.R_drewN|apply Kd.R_drew));exact Kd.R_mono (Kd.R_far (p:=⟨go38,(t605:Int).toNat * 3,none⟩) (Kd.R_types HO621.out GG38.out (by decide)) (fun _ hk=>hk.2) (.int .i64 t622)) (fun _ hk=>trivial)⟩
  have n2_:Aside0 ((w52.setCell ⟨go38,(t605:Int).toNat * 3,none⟩ (.int .i64 t622)).heap[gb598]?=some (.cells #[.slice none 0 0,.int .i64 0] 29 (0,0))):=⟨by (with_reducible repeat first|apply bkN|apply bkD|apply bkA);refine blk_far ?_ (by have h_:=Kd.S_ne HO601.out BK598.out (by decide);intro e_;exact h_ (by rw [e_];rfl)) _;(with_reducible repeat first|apply bkN|apply bkD|apply bkA);exact BK598.out⟩
  have n3_:Aside0 ((w52.setCell ⟨go38,(t605:Int).toNat * 3,none⟩ (.int .i64 t622)).heap[gb604]?=some (.cells #[.slice (some ⟨go38,0,none⟩) t599.length co42,.int .i64 t602] 29 (0,0))):=⟨by (with_reducible repeat first|apply bkN|apply bkD|apply bkA);refine blk_far ?_ (by have h_:=Kd.S_ne HO601.out BK604.out (by decide);intro e_;exact h_ (by rw [e_];rfl)) _;(with_reducible repeat first|apply bkN|apply bkD|apply bkA);exact BK604.out⟩
  have n4_:Aside0 (IsS85 w0 (w52.setCell ⟨go38,(t605:Int).toNat * 3,none⟩ (.int .i64 t622)) g s0_0 t623):=⟨zi85_3 HI0.out HN0_go38.out NB0_598.out NB0_604.out⟩
  have n5_:Aside0 (KeepBut w (w52.setCell ⟨go38,(t605:Int).toNat * 3,none⟩ (.int .i64 t622)) g none):=⟨zkp3 HK.out GB38.out GW598.out GW604.out⟩
  have n6_:Aside0 (Below w0.heap.size w0 (w52.setCell ⟨go38,(t605:Int).toNat * 3,none⟩ (.int .i64 t622))):=⟨by repeat (first|(with_reducible first|exact HB.out|apply bwA|apply bwN|apply bwD|refine bwS ?_ (Nat.le_trans HL.out GB38.out)|refine bwS ?_ (IsS85.ge HI0.out)|refine bwS ?_ GE598.out|refine bwS ?_ GE604.out)|exact HB.out)⟩
  generalize (w52.setCell ⟨go38,(t605:Int).toNat * 3,none⟩ (.int .i64 t622))=w54 at n0_ n1_ n2_ n3_ n4_ n5_ n6_ ⊢
  revert n0_ n1_ n2_ n3_ n4_ n5_ n6_;intro HO601 HO621 BK598 BK604 HI0 HK HB
  obtain ⟨hcz55_0,hcz55_1,hfz55_0,hfz55_1⟩:=bk2 BK604.out
  have hnb56:=NB598_0.out
  have hnc56:=NB0_598.out
  obtain ⟨hcz57_0,hcz57_1,hfz57_0,hfz57_1⟩:=bk2 BK598.out
  try go_wp2
  refine bodyPost_ret (results_cell_row rfl _ _ gb598 29 #[.slice (some ⟨go38,0,none⟩) t599.length co42,.int .i64 t602] (0,0) _ rfl (by (with_reducible repeat first|apply bkN|apply bkD|apply bkA);refine blk_put (cs:=#[.slice (some ⟨go38,0,none⟩) t599.length co42,.int .i64 0]) ?_ 1 _ rfl;(with_reducible repeat first|apply bkN|apply bkD|apply bkA);refine blk_put (cs:=#[.slice none 0 0,.int .i64 0]) ?_ 0 _ rfl;(with_reducible repeat first|apply bkN|apply bkD|apply bkA);exact BK598.out) Try.underlying29 rfl (by kernel_rfl)) rfl ?_
  exact ⟨_,zE_,by (with_reducible repeat (first|apply Kd.S_alloc|apply Kd.S_drewN|apply Kd.S_drew));exact Kd.S_mono (Kd.S_far (p:=⟨gb598,1,none⟩) (Kd.S_far (p:=⟨gb598,0,none⟩) (Kd.S_types HO601.out BK598.out (by decide)) (fun _ hk=>hk.2) (.slice (some ⟨go38,0,none⟩) t599.length co42)) (fun _ hk=>hk.2) (.int .i64 t602)) (fun _ hk=>trivial),zi85_2 HI0.out NB0_598.out NB0_604.out,zb3 HB.out (IsS85.ge HI0.out) GE598.out GE604.out,zkp2 HK.out GW598.out GW604.out⟩
 rw [if_pos c5] at H
 have c5b0:(t607 == 0)=true:=beq_iff_eq.mpr c5
 have c5b1:(t607 != 0)=false:=bne_eq_false_iff_eq.mpr c5
 clear c5
 by_cases c6:0≤t605
 rotate_left
 ·rw [if_neg c6] at H
  exact absurd H (by simp)
 rw [if_pos c6] at H
 have c6b0:decide (0≤t605)=true:=deT c6
 clear c6
 by_cases c7:t605<(t599.length:Int)
 rotate_left
 ·rw [if_neg c7] at H
  exact absurd H (by simp)
 rw [if_pos c7] at H
 have c7b0:decide (t605<(t599.length:Int))=true:=deT c7
 clear c7
 obtain ⟨y610,hy610⟩:∃ y_:List Int,y_=(([(-1),(t599.length:Int)]:List Int)):=⟨_,rfl⟩
 replace H:((spec_reader_one.f k s0_0 t608 y610).bind fun bt613=>(if ((rd_T45 t599 t605).f2).length<17592186044416 then (some ((t599.set (t605:Int).toNat (⟨(rd_T45 t599 t605).f0,(rd_T45 t599 t605).f1,(((rd_T45 t599 t605).f2)++[bt613.1])⟩:S45)),t602,bt613.2)) else (none)))=some (r1,r2,r3):=zH_ H hy610
 have Ny610:=As_ hy610
 clear hy610
 replace H:=obS H
 obtain ⟨⟨t613,t614⟩,A80,H⟩:=H
 replace H:(if ((rd_T45 t599 t605).f2).length<17592186044416 then (some ((t599.set (t605:Int).toNat (⟨(rd_T45 t599 t605).f0,(rd_T45 t599 t605).f1,(((rd_T45 t599 t605).f2)++[t613])⟩:S45)),t602,t614)) else (none))=some (r1,r2,r3):=H
 have A8:=As_ A80
 clear A80
 by_cases c9:((rd_T45 t599 t605).f2).length<17592186044416
 rotate_left
 ·rw [if_neg c9] at H
  exact absurd H (by simp)
 rw [if_pos c9] at H
 have LMc9:=As_ c9
 clear c9
 obtain ⟨y615,hy615⟩:∃ y_:List Int,y_=(((rd_T45 t599 t605).f2)++[t613]):=⟨_,rfl⟩
 replace H:(some ((t599.set (t605:Int).toNat (⟨(rd_T45 t599 t605).f0,(rd_T45 t599 t605).f1,y615⟩:S45)),t602,t614))=some (r1,r2,r3):=zH_ H hy615
 have Ny615:=As_ hy615
 clear hy615
 obtain ⟨y618,hy618⟩:∃ y_:List (S45),y_=(t599.set (t605:Int).toNat (⟨(rd_T45 t599 t605).f0,(rd_T45 t599 t605).f1,y615⟩:S45)):=⟨_,rfl⟩
 replace H:(some (y618,t602,t614))=some (r1,r2,r3):=zH_ H hy618
 have Ny618:=As_ hy618
 clear hy618
 simp only [Option.some.injEq,Prod.mk.injEq] at H
 obtain ⟨rfl,rfl,rfl⟩:=H
 go_enter Try.func60,Try.ntmps60
 try go_wp2_with (first|((with_reducible refine gate_dst (N:=2) rfl ?_);refine box_event ?hg (N:=2) ?hd (cs:=#[.slice none 0 0,.int .i64 0]) (t:=29) ?hr ?_;(case hd=>rfl);(case hg=>rfl);(case hr=>go_simp <;> rfl);intro gb598 hg w11 hbox hb;have n0_:=As_ (IsS85.below (zi85_0 HI0.out) hb);have n1_:=As_ (KeepBut.trans (zkp0 HK.out) (KeepBut.of_below hb g none) (.inl rfl));have n2_:=As_ (bwT (zb1 HB.out (IsS85.ge HI0.out)) hb);have n3_:=As_ (hbox);have n4_:=As_ ((by rw [hg];exact (keep_size (w:=w) (g:=g) (row:=none) (zkp0 HK.out)):w.heap.size≤gb598));have n5_:=As_ ((Nat.le_trans HW0.out (by rw [hg];exact (keep_size (w:=w) (g:=g) (row:=none) (zkp0 HK.out)):w.heap.size≤gb598):w0.heap.size≤gb598));have n6_:=As_ ((by rw [hg];exact Nat.ne_of_lt (IsS85.lt (show IsS85 w0 _ g s0_0 s0_1 from zi85_0 HI0.out)):g≠gb598));have n7_:=As_ ((by rw [hg];exact Nat.ne_of_gt (IsS85.lt (show IsS85 w0 _ g s0_0 s0_1 from zi85_0 HI0.out)):gb598≠g));clear HI0 HK HB;revert n0_ n1_ n2_ n3_ n4_ n5_ n6_ n7_;intro HI0 HK HB BK598 GW598 GE598 NB0_598 NB598_0;clear hb hbox hg)|((with_reducible refine gate_callee (f:=89) rfl ?_);refine goesL_ (some 6) rfl rfl Try.func89 (by kernel_rfl) rfl #[.pointer (some ⟨g,0,none⟩)] rfl zM_ ?_;(with_reducible refine (spec_someGraph.calls k g s0_0 s0_1 t599 t602 t603 w0 _ ?side1 ?side2 A2.out).mono ?_);(case side1=>exact zi85_1 HI0.out NB0_598.out);(case side2=>exact zb2 HB.out (IsS85.ge HI0.out) GE598.out);rintro e w12 ⟨v600,rfl,ho0,hi,hb,hk⟩;refine ⟨_,rfl,?_⟩;have n0_:=As_ (KeepBut.blk hk (g':=gb598) (o:=.cells #[.slice none 0 0,.int .i64 0] 29 (0,0)) (zk_ BK598.out) NB598_0.out (by simp));have n1_:=As_ (Kd.S_lower ho0 (keep_size (w:=w) (g:=g) (row:=none) (zkp1 HK.out GW598.out)));have n2_:=As_ (KeepBut.trans (zkp1 HK.out GW598.out) hk (.inl rfl));have n3_:=As_ (hb);have n4_:=As_ (hi);clear BK598 HK HB HI0;revert n0_ n1_ n2_ n3_ n4_;intro BK598 HO601 HK HB HI0)|((with_reducible refine gate_dst (N:=3) rfl ?_);refine box_event ?hg (N:=3) ?hd (cs:=#[.slice none 0 0,.int .i64 0]) (t:=29) ?hr ?_;(case hd=>rfl);(case hg=>rfl);(case hr=>go_simp <;> rfl);intro gb604 hg w13 hbox hb;have n0_:=As_ (Kd.S_below (zS_ HO601.out) hb);have n1_:=As_ (IsS85.below (zi85_1 HI0.out NB0_598.out) hb);have n2_:=As_ (zkb BK598.out hb);have n3_:=As_ (KeepBut.trans (zkp1 HK.out GW598.out) (KeepBut.of_below hb g none) (.inl rfl));have n4_:=As_ (bwT (zb2 HB.out (IsS85.ge HI0.out) GE598.out) hb);have n5_:=As_ (hbox);have n6_:=As_ ((by rw [hg];exact (keep_size (w:=w) (g:=g) (row:=none) (zkp1 HK.out GW598.out)):w.heap.size≤gb604));have n7_:=As_ ((Nat.le_trans HW0.out (by rw [hg];exact (keep_size (w:=w) (g:=g) (row:=none) (zkp1 HK.out GW598.out)):w.heap.size≤gb604):w0.heap.size≤gb604));have n8_:=As_ ((by rw [hg];exact Nat.ne_of_lt (zkl BK598.out):gb598≠gb604));have n9_:=As_ ((by rw [hg];exact Nat.ne_of_gt (zkl BK598.out):gb604≠gb598));have n10_:=As_ ((by rw [hg];exact Nat.ne_of_lt (IsS85.lt (show IsS85 w0 _ g s0_0 t603 from zi85_1 HI0.out NB0_598.out)):g≠gb604));have n11_:=As_ ((by rw [hg];exact Nat.ne_of_gt (IsS85.lt (show IsS85 w0 _ g s0_0 t603 from zi85_1 HI0.out NB0_598.out)):gb604≠g));clear HO601 HI0 BK598 HK HB;revert n0_ n1_ n2_ n3_ n4_ n5_ n6_ n7_ n8_ n9_ n10_ n11_;intro HO601 HI0 BK598 HK HB BK604 GW604 GE604 NB598_604 NB604_598 NB0_604 NB604_0;clear hb hbox hg;obtain ⟨Ao14,co14,eo14⟩:=Kd.S_slice HO601.out;subst eo14;have hnb15:=NB604_598.out;have hnc15:=NB598_604.out;have hnb16:=NB604_0.out;have hnc16:=NB0_604.out;obtain ⟨hcz17_0,hcz17_1,hfz17_0,hfz17_1⟩:=bk2 BK604.out)|((with_reducible refine gate_callee (f:=90) rfl ?_);refine goesL_ (some 11) rfl rfl Try.func90 (by kernel_rfl) rfl #[.pointer (some ⟨g,0,none⟩),.int .i64 (t599.length:Int)] rfl zM_ ?_;(with_reducible refine (spec_reader_pick.calls k g s0_0 t603 (t599.length:Int) t605 t606 w0 _ ?side1 ?side2 A3.out).mono ?_);(case side1=>exact zi85_2 HI0.out NB0_598.out NB0_604.out);(case side2=>exact zb3 HB.out (IsS85.ge HI0.out) GE598.out GE604.out);rintro e w18 ⟨rfl,hi,hb,hk⟩;refine ⟨_,rfl,?_⟩;have n0_:=As_ (KeepBut.blk hk (g':=gb598) (o:=.cells #[.slice none 0 0,.int .i64 0] 29 (0,0)) (by (with_reducible repeat first|apply bkN|apply bkD|apply bkA);refine blk_far ?_ NB598_604.out _;(with_reducible repeat first|apply bkN|apply bkD|apply bkA);refine blk_far ?_ NB598_604.out _;(with_reducible repeat first|apply bkN|apply bkD|apply bkA);exact BK598.out) NB598_0.out (by simp));have n1_:=As_ (Kd.S_mono (Kd.S_keep (IsS85.apartS (show IsS85 w0 _ g s0_0 t603 from zi85_2 HI0.out NB0_598.out NB0_604.out) (by (with_reducible repeat (first|apply Kd.S_alloc|apply Kd.S_drewN|apply Kd.S_drew));exact (Kd.S_mono (Kd.S_far (p:=⟨gb604,1,none⟩) (Kd.S_far (p:=⟨gb604,0,none⟩) (Kd.S_types HO601.out BK604.out (by decide)) (fun _ hk=>hk.2) (.slice Ao14 t599.length co14)) (fun _ hk=>hk.2) (.int .i64 t602)) (fun _ h_=>h_.1))) (by decide)) hk (fun _ h=>h.2)) (fun _ h=>h.1));have n2_:=As_ (KeepBut.blk hk (g':=gb604) (o:=.cells #[.slice Ao14 t599.length co14,.int .i64 t602] 29 (0,0)) (by (with_reducible repeat first|apply bkN|apply bkD|apply bkA);refine blk_put (cs:=#[.slice Ao14 t599.length co14,.int .i64 0]) ?_ 1 _ rfl;(with_reducible repeat first|apply bkN|apply bkD|apply bkA);refine blk_put (cs:=#[.slice none 0 0,.int .i64 0]) ?_ 0 _ rfl;(with_reducible repeat first|apply bkN|apply bkD|apply bkA);exact BK604.out) NB604_0.out (by simp));have n3_:=As_ (KeepBut.trans (zkp2 HK.out GW598.out GW604.out) hk (.inl rfl));have n4_:=As_ (hb);have n5_:=As_ (hi);clear BK598 HO601 BK604 HK HB HI0;revert n0_ n1_ n2_ n3_ n4_ n5_;intro BK598 HO601 BK604 HK HB HI0)|((with_reducible refine gate_callee (f:=90) rfl ?_);refine goesL_ (some 13) rfl rfl Try.func90 (by kernel_rfl) rfl #[.pointer (some ⟨g,0,none⟩),.int .i64 20] rfl zM_ ?_;(with_reducible refine (spec_reader_pick.calls k g s0_0 t606 20 t607 t608 w0 _ ?side1 ?side2 A4.out).mono ?_);(case side1=>exact zi85_2 HI0.out NB0_598.out NB0_604.out);(case side2=>exact zb3 HB.out (IsS85.ge HI0.out) GE598.out GE604.out);rintro e w19 ⟨rfl,hi,hb,hk⟩;refine ⟨_,rfl,?_⟩;have n0_:=As_ (KeepBut.blk hk (g':=gb598) (o:=.cells #[.slice none 0 0,.int .i64 0] 29 (0,0)) (zk_ BK598.out) NB598_0.out (by simp));have n1_:=As_ (Kd.S_mono (Kd.S_keep (IsS85.apartS (show IsS85 w0 _ g s0_0 t606 from zi85_2 HI0.out NB0_598.out NB0_604.out) (zS_ HO601.out) (by decide)) hk (fun _ h=>h.2)) (fun _ h=>h.1));have n2_:=As_ (KeepBut.blk hk (g':=gb604) (o:=.cells #[.slice Ao14 t599.length co14,.int .i64 t602] 29 (0,0)) (zk_ BK604.out) NB604_0.out (by simp));have n3_:=As_ (KeepBut.trans (zkp2 HK.out GW598.out GW604.out) hk (.inl rfl));have n4_:=As_ (hb);have n5_:=As_ (hi);clear BK598 HO601 BK604 HK HB HI0;revert n0_ n1_ n2_ n3_ n4_ n5_;intro BK598 HO601 BK604 HK HB HI0))
 have n0_:=As_ (Kd.S_drew HO601.out)
 have n1_:=As_ (bkD BK598.out)
 have n2_:=As_ (bkD BK604.out)
 have n3_:=As_ (IsS85.drew HI0.out)
 have n4_:=As_ (keep_drew HK.out)
 have n5_:=As_ (bwD HB.out)
 clear HO601 BK598 BK604 HI0 HK HB
 revert n0_ n1_ n2_ n3_ n4_ n5_;intro HO601 BK598 BK604 HI0 HK HB
 have p609:0≤(t605:Int):=odT zA_
 have q609:t605<(t599.length:Int):=odT zA_
 obtain ⟨ad609,A609_2,c609_2,e609,hx609_0,hx609_1,hx609_2,hl609_2,hi609_2⟩:=at_T45 (Kd.S_reads' HO601.out).2.2 t605 p609 q609
 cases e609
 obtain ⟨ce609,hce609,hMe609,hcc609⟩:=Kd.S_get HO601.out z45 t605 p609 (by first|exact q609|exact odT zA_|(have e_:=(Kd.S_reads' HO601.out).1;omega))
 obtain ⟨ve609_2,rfl,ge609_2⟩:=k45_openM hMe609
 have hv609_2:=hcc609 2 _ rfl
 rw [add_field _ _ 2 (by omega)] at hv609_2
 replace hv609_2:=Option.some.inj (hv609_2.symm.trans hx609_2)
 rw [hv609_2] at ge609_2
 have HL609_2:=As_ (show Kd.R (Kd.int .i64) 3 _ _ _ _ ((rd_T45 t599 t605).f2) from ge609_2)
 clear hv609_2 ge609_2
 have HX609_2:=As_ hx609_2
 clear hcc609 hce609
 have HR609_2:=As_ hi609_2
 have HC609_2:=As_ hl609_2
 clear hi609_2 hl609_2
 replace p609:=eq_true p609
 replace q609:=eq_true q609
 refine start_ (n:=20) (S:=fun w'=>w'.cell? ⟨gb604,0,none⟩=some (.slice (some ad609) t599.length co14)∧w'.cell? ⟨gb604,1,none⟩=some (.int .i64 t602)∧w'.cell? (ad609.add ((t605).toNat * 3))=some (.int .i64 ((rd_T45 t599 t605).f0))∧w'.cell? ⟨(ad609.add ((t605).toNat * 3)).block,(ad609.add ((t605).toNat * 3)).off+1,none⟩=some (.int .i64 ((rd_T45 t599 t605).f1))∧w'.cell? ⟨(ad609.add ((t605).toNat * 3)).block,(ad609.add ((t605).toNat * 3)).off+2,none⟩=some (.slice A609_2 ((rd_T45 t599 t605).f2).length c609_2)) (ds:=[19]) (bl_ 0 20) (by kernel_rfl) rfl rfl ⟨(bkC BK604.out 0).trans rfl,(bkC BK604.out 1).trans rfl,hx609_0,hx609_1,hx609_2⟩ (fun hHeld=>?_);refine with_tabW spec_anyGraph.tab5 spec_anyGraph.bits5 (fun HT_ HW_=>?_)
 generalize w19.drew=w20 at HO601 BK598 BK604 HI0 HK HB HL609_2 HR609_2 HX609_2 hx609_0 hx609_1 hx609_2 hHeld ⊢
 refine pQ 0 16 (bl_ 1 20) HT_ rfl ?_
 refine pQ 2 18 (bl_ 5 20) HT_ rfl ?_
 refine pQ 3 19 (bl_ 13 20) HT_ rfl ?_
 refine pQ 5 21 (bl_ 45 20) HT_ rfl ?_
 refine pQ 9 25 (bl_ 557 20) HT_ rfl ?_
 refine pQ 10 26 (bl_ 1581 20) HT_ rfl ?_
 refine tP 1 17 (bl_ 1583 20) ?_ HT_ HW_ rfl (.inl ⟨by rfl,?_⟩) hHeld ?_ ?_ ?_;rotate_left;(rintro w' ⟨s0,s1,s2,s3,s4⟩;go_simp;with_reducible rfl);rotate_left;(simp only [Act.put,sq_];rfl)
 refine tP 4 20 (bl_ 1599 20) ?_ HT_ HW_ rfl (.inl ⟨by rfl,?_⟩) hHeld ?_ ?_ ?_;rotate_left;(rintro w' ⟨s0,s1,s2,s3,s4⟩;go_simp;with_reducible rfl);rotate_left;(simp only [Act.put,sq_];rfl)
 refine pQ 6 22 (bl_ 1663 20) HT_ rfl ?_
 refine pQ 7 23 (bl_ 1791 20) HT_ rfl ?_
 refine tP 8 24 (bl_ 2047 20) ?_ HT_ HW_ rfl (.inl ⟨by rfl,?_⟩) hHeld ?_ ?_ ?_;rotate_left;(rintro w' ⟨s0,s1,s2,s3,s4⟩;go_simp;with_reducible rfl);rotate_left;(simp only [Act.put,sq_];rfl)
 refine tP 11 27 (bl_ 4095 20) ?_ HT_ HW_ rfl (.inl ⟨by rfl,?_⟩) hHeld ?_ ?_ ?_;rotate_left;(rintro w' ⟨s0,s1,s2,s3,s4⟩;go_simp;with_reducible rfl);rotate_left;(simp only [Act.put,sq_];rfl)
 refine pQ 12 28 (bl_ 8191 20) HT_ rfl ?_
 refine one_ (i:=13) (N:=some 29) (bl_ 16383 20) rfl rfl (one_of HT_.out (by kernel_rfl)) (by decide) (fun K hK=>?_)
 refine Kd.R_lit_step (Kd.int .i64) _ 3 ?hg (N:=29) ?hd (xs:=([(-1),(t599.length:Int)]:List Int)) (inner:=[.int .i64 (-1),.int .i64 (t599.length:Int)]) (ok:=fun _=>True) (okp:=fun _=>True) ?hr ?hp (fun _ hk=>hk) trivial (Below.refl _ _) (Nat.le_refl _) (by simp) ?_;(case hd=>rfl);(case hg=>rfl);(case hr=>go_simp <;> rfl);(case hp=>exact (Reps.one (show Kd.M (Kd.int .i64) _ _ _ (-1) [.int .i64 (-1)] from rfl) (Reps.one (show Kd.M (Kd.int .i64) _ _ _ (t599.length:Int) [.int .i64 (t599.length:Int)] from rfl) (Reps.none _ _))))
 intro v611 w21 ho22 hb hg_ hnew_
 have HS2_:=(hb.cell (bwL _ _ (hHeld.2.2.1))).trans (hHeld.2.2.1)
 have HS3_:=(hb.cell (bwL _ _ (hHeld.2.2.2.1))).trans (hHeld.2.2.2.1)
 have HS4_:=(hb.cell (bwL _ _ (hHeld.2.2.2.2))).trans (hHeld.2.2.2.2)
 clear hg_ hnew_
 (first|rw [← Ny610.out] at ho22|(simp only [Int.reduceToNat] at ho22;rw [← Ny610.out] at ho22))
 have n0_:=As_ (Kd.S_elder' (zS_ HO601.out) (Kd.R_base ho22) hb)
 have n1_:=As_ (Kd.R_elder' (zR_ HL609_2.out) (Kd.R_base ho22) hb)
 have n2_:=As_ (Kd.R_lower (Kd.R_new' ho22 (Kd.R_lt (zR_ HL609_2.out))) (keep_size (w:=w) (g:=g) (row:=none) (zkp2 HK.out GW598.out GW604.out)))
 have n3_:=As_ (IsS85.below (zi85_2 HI0.out NB0_598.out NB0_604.out) hb)
 have n4_:=As_ (zkb BK598.out hb)
 have n5_:=As_ (zkb BK604.out hb)
 have n6_:=As_ (Kd.C_below (by repeat (first|(with_reducible exact HR609_2.out)|(with_reducible refine Kd.C_alloc ?_ _)|(with_reducible refine Kd.C_drewN ?_ _)|(with_reducible refine Kd.C_drew ?_)|exact HR609_2.out)) hb)
 have n7_:=As_ (pw_cell_below hb HX609_2.out)
 have n8_:=As_ (KeepBut.trans (zkp2 HK.out GW598.out GW604.out) (KeepBut.of_below hb g none) (.inl rfl))
 have n9_:=As_ (bwT (zb3 HB.out (IsS85.ge HI0.out) GE598.out GE604.out) hb)
 clear HO601 HL609_2 HI0 BK598 BK604 HR609_2 HX609_2 HK HB
 revert n0_ n1_ n2_ n3_ n4_ n5_ n6_ n7_ n8_ n9_;intro HO601 HL609_2 HO612 HI0 BK598 BK604 HR609_2 HX609_2 HK HB
 clear hb ho22
 obtain ⟨Ao23,co23,eo23⟩:=Kd.R_slice HO612.out
 (first|subst eo23|(injection eo23 with f1_ f2_ f3_;have f4_:=f1_.symm;have f5_:=f3_.symm;clear f1_ f2_ f3_;subst f4_;subst f5_))
 refine hK.out _ _ ⟨(bkC BK604.out 0).trans rfl,(bkC BK604.out 1).trans rfl,HS2_,HS3_,HS4_⟩ (fun hHeld=>?_)
 clear hK K
 refine norm_ (a':=?_) ?_ ?_
 rotate_left
 ·show Act.put _ (some 29) _=_
  simp only [Act.put,sq_]
  rfl
 refine one_ (i:=14) (N:=some 30) (bl_ 32767 20) rfl rfl (one_of HT_.out (by kernel_rfl)) (by decide) (fun K hK=>?_)
 refine goes_ Try.func91 (by kernel_rfl) rfl #[.pointer (some ⟨g,0,none⟩),.slice Ao23 y610.length co23] (by rfl) rfl rfl zM_ ?_
 with_reducible refine (spec_reader_one.calls k g s0_0 t608 _ _ y610 t613 t614 w0 _ ?side1 ?side2 ?side3 ?side4 ?side5 A8.out).mono ?_
 (case side1=>exact zi85_2 HI0.out NB0_598.out NB0_604.out)
 (case side2=>exact zb3 HB.out (IsS85.ge HI0.out) GE598.out GE604.out)
 (case side3=>exact zC_ (Kd.R_reads' HO612.out).2.2)
 (case side4=>exact (Kd.R_reads' HO612.out).2.1)
 (case side5=>exact far_slice (IsS85.own_ne HI0.out HO612.out (by decide)))
 rintro e w24 ⟨rfl,hi,hb,hk⟩
 have HS2_:=keep_cell hk (hHeld.2.2.1) (by first|(rw [add_block];exact Kd.own_blk (IsS85.own_neS HI0.out HO601.out (by decide)))|(show (Addr.add _ _).block≠_;rw [add_block];exact Kd.own_blk (IsS85.own_neS HI0.out HO601.out (by decide)))|exact Kd.own_blk (IsS85.own_neS HI0.out HO601.out (by decide)))
 have HS3_:=keep_cell hk (hHeld.2.2.2.1) (by first|(rw [add_block];exact Kd.own_blk (IsS85.own_neS HI0.out HO601.out (by decide)))|(show (Addr.add _ _).block≠_;rw [add_block];exact Kd.own_blk (IsS85.own_neS HI0.out HO601.out (by decide)))|exact Kd.own_blk (IsS85.own_neS HI0.out HO601.out (by decide)))
 have HS4_:=keep_cell hk (hHeld.2.2.2.2) (by first|(rw [add_block];exact Kd.own_blk (IsS85.own_neS HI0.out HO601.out (by decide)))|(show (Addr.add _ _).block≠_;rw [add_block];exact Kd.own_blk (IsS85.own_neS HI0.out HO601.out (by decide)))|exact Kd.own_blk (IsS85.own_neS HI0.out HO601.out (by decide)))
 refine ⟨_,rfl,?_⟩
 have n0_:=As_ (KeepBut.blk hk (g':=gb598) (o:=.cells #[.slice none 0 0,.int .i64 0] 29 (0,0)) (zk_ BK598.out) NB598_0.out (by simp))
 have n1_:=As_ (Kd.S_mono (Kd.S_keep (IsS85.apartS (show IsS85 w0 _ g s0_0 t608 from zi85_2 HI0.out NB0_598.out NB0_604.out) (zS_ HO601.out) (by decide)) hk (fun _ h=>h.2)) (fun _ h=>h.1))
 have n2_:=As_ (KeepBut.blk hk (g':=gb604) (o:=.cells #[.slice (some ad609) t599.length co14,.int .i64 t602] 29 (0,0)) (zk_ BK604.out) NB604_0.out (by simp))
 have n3_:=As_ (Kd.R_mono (Kd.R_keep (IsS85.apart (show IsS85 w0 _ g s0_0 t608 from zi85_2 HI0.out NB0_598.out NB0_604.out) (zR_ HL609_2.out) (by decide)) hk (fun _ h=>h.2)) (fun _ h=>h.1))
 have n4_:=As_ (keep_cell hk HX609_2.out (by first|(rw [add_block];exact Kd.own_blk (IsS85.own_neS HI0.out HO601.out (by decide)))|(show (Addr.add _ _).block≠_;rw [add_block];exact Kd.own_blk (IsS85.own_neS HI0.out HO601.out (by decide)))|exact Kd.own_blk (IsS85.own_neS HI0.out HO601.out (by decide))|(dsimp only;exact Kd.own_blk (IsS85.own_neS HI0.out HO601.out (by decide)))))
 have n5_:=As_ (Kd.R_mono (Kd.R_keep (IsS85.apart (show IsS85 w0 _ g s0_0 t608 from zi85_2 HI0.out NB0_598.out NB0_604.out) (zR_ HO612.out) (by decide)) hk (fun _ h=>h.2)) (fun _ h=>h.1))
 have n6_:=As_ (KeepBut.trans (zkp2 HK.out GW598.out GW604.out) hk (.inl rfl))
 have n7_:=As_ (hb)
 have n8_:=As_ (hi)
 clear BK598 HO601 BK604 HL609_2 HX609_2 HO612 HK HB HI0
 revert n0_ n1_ n2_ n3_ n4_ n5_ n6_ n7_ n8_;intro BK598 HO601 BK604 HL609_2 HX609_2 HO612 HK HB HI0
 have n_:=As_ (Kd.S_mono (ok':=(fun k_=>some k_≠(.slice Ao23 y610.length co23:Value).ownBlock)) HO601.out (fun k_ hk=>hk.2))
 clear HO601
 have HO601:=n_
 clear n_
 obtain ⟨go25,co25,eo25,gb25,gl25,cl25,HG25⟩:=Kd.S_form HO601.out (by have h_:(t605:Int)<((t599.length:Int):Int):=odT zA_;have h2_:0≤(t605:Int):=(odT zA_);omega)
 (first|cases eo25|(injection eo25 with ea_ en_ ec_;(first|subst ea_|(injection ea_ with ea_;subst ea_));subst ec_;clear en_))
 have GB25:=As_ gb25
 have GG25:=As_ HG25
 clear gb25 gl25 HG25
 (first|simp only [add_plain] at hx609_0|skip)
 (first|simp only [add_plain] at hx609_1|skip)
 (first|simp only [add_plain] at hx609_2|skip)
 obtain ⟨oki25,ce25,hcl25,hM25,hcc25,_,_,hH25⟩:=Kd.S_elem HO601.out z45 (t605:Int) (odT zA_) (by have h_:(t605:Int)<((t599.length:Int):Int):=odT zA_;first|exact h_|(have e_:=(Kd.S_reads' HO601.out).1;omega)|simpa using h_)
 obtain ⟨ve25_2,rfl,ge25_2⟩:=k45_openM hM25
 have hv25:=hcc25 2 _ rfl
 have hX25:=HX609_2.out
 (try simp only [add_plain] at hX25)
 (try simp only [Nat.add_zero] at hv25)
 replace hv25:=Option.some.inj (hv25.symm.trans hX25)
 subst hv25
 clear hX25 hcc25 hcl25
 have UU25:=As_ (show Kd.R (Kd.int .i64) 3 _ w.heap.size oki25 (.slice A609_2 ((rd_T45 t599 t605).f2).length c609_2) ((rd_T45 t599 t605).f2) from ge25_2)
 have HH25:=As_ hH25
 have HN25:=As_ (Kd.S_reads' HO601.out).1
 clear hH25 ge25_2
 refine hK.out _ _ ⟨(bkC BK604.out 0).trans rfl,(bkC BK604.out 1).trans rfl,HS2_,HS3_,HS4_⟩ (fun hHeld=>?_)
 clear hK K
 refine norm_ (a':=?_) ?_ ?_
 rotate_left
 ·show Act.put _ (some 30) _=_
  simp only [Act.put,sq_]
  rfl
 refine one_ (i:=15) (N:=some 31) (bl_ 65535 20) rfl rfl (one_of HT_.out (by kernel_rfl)) (by decide) (fun K hK=>?_)
 refine value_ (w1:=?_) (v:=?_) (by rfl) rfl ?_ ?_
 rotate_left 2
 ·go_simp
  constructor
  ·rfl
  ·rfl
 refine hK.out _ _ ⟨(bkC (bkA BK604.out _) 0).trans rfl,(bkC (bkA BK604.out _) 1).trans rfl,(World.cell?_alloc_lt _ _ _ (bwL _ _ (hHeld.2.2.1))).trans (hHeld.2.2.1),(World.cell?_alloc_lt _ _ _ (bwL _ _ (hHeld.2.2.2.1))).trans (hHeld.2.2.2.1),(World.cell?_alloc_lt _ _ _ (bwL _ _ (hHeld.2.2.2.2))).trans (hHeld.2.2.2.2)⟩ (fun hHeld=>?_)
 clear hK K
 refine norm_ (a':=?_) ?_ ?_
 rotate_left
 ·show Act.put _ (some 31) _=_
  simp only [Act.put,sq_]
  rfl
 refine one_ (i:=16) (N:=some 32) (bl_ 131071 20) rfl rfl (one_of HT_.out (by kernel_rfl)) (by decide) (fun K hK=>?_)
 refine Kd.R_append_step (Kd.int .i64) w.heap.size (by rfl) (.tmp 24) (.tmp 31) 37 3 (.int .i64 0) 8 rfl Try.underlying37 info3 rfl (by decide) (by omega) (.slice A609_2 ((rd_T45 t599 t605).f2).length c609_2) ((rd_T45 t599 t605).f2) t613 [.int .i64 t613] (fun k_=>oki25 k_∨((fun k_=>some k_≠(.slice Ao23 y610.length co23:Value).ownBlock)) k_∧w24.heap.size≤k_) (fun _=>False) rfl rfl ?aP (fun _ hk=>hk.elim) ?aF ?aO (Below.refl _ _) ?aS ?aL ?_
 (case aP=>exact rfl)
 (case aF=>exact (fun k_ hk=>.inr ⟨Kd.fresh' (Kd.R_lt (zR_ HO612.out)) k_ hk,hk⟩))
 (case aO=>exact (by (with_reducible repeat (first|apply Kd.R_alloc|apply Kd.R_drewN|apply Kd.R_drew));exact Kd.R_mono UU25.out (fun _ hk=>.inl hk)))
 (case aS=>exact (keep_size (w:=w) (g:=g) (row:=none) (zkp2 HK.out GW598.out GW604.out)))
 (case aL=>have:=LMc9.out;omega)
 intro v616 w26 ho hb hg hat
 (first|have HS2_:=cell_grown hg (hHeld.2.2.1) (by first|(rw [add_block];exact (fun e_=>((HL609_2.out.1 _ e_.symm).1.2) rfl))|(show some (Addr.add _ _).block≠_;rw [add_block];exact (fun e_=>((HL609_2.out.1 _ e_.symm).1.2) rfl))|exact (fun e_=>((HL609_2.out.1 _ e_.symm).1.2) rfl))|have HS2_:=cell_grown hg (cell_unalloc (hHeld.2.2.1) (by first|(rw [add_block];exact Kd.S_lt HO601.out _ rfl)|(show (Addr.add _ _).block<_;rw [add_block];exact Kd.S_lt HO601.out _ rfl)|exact Kd.S_lt HO601.out _ rfl)) (by first|(rw [add_block];exact (fun e_=>((HL609_2.out.1 _ e_.symm).1.2) rfl))|(show some (Addr.add _ _).block≠_;rw [add_block];exact (fun e_=>((HL609_2.out.1 _ e_.symm).1.2) rfl))|exact (fun e_=>((HL609_2.out.1 _ e_.symm).1.2) rfl)))
 (first|have HS3_:=cell_grown hg (hHeld.2.2.2.1) (by first|(rw [add_block];exact (fun e_=>((HL609_2.out.1 _ e_.symm).1.2) rfl))|(show some (Addr.add _ _).block≠_;rw [add_block];exact (fun e_=>((HL609_2.out.1 _ e_.symm).1.2) rfl))|exact (fun e_=>((HL609_2.out.1 _ e_.symm).1.2) rfl))|have HS3_:=cell_grown hg (cell_unalloc (hHeld.2.2.2.1) (by first|(rw [add_block];exact Kd.S_lt HO601.out _ rfl)|(show (Addr.add _ _).block<_;rw [add_block];exact Kd.S_lt HO601.out _ rfl)|exact Kd.S_lt HO601.out _ rfl)) (by first|(rw [add_block];exact (fun e_=>((HL609_2.out.1 _ e_.symm).1.2) rfl))|(show some (Addr.add _ _).block≠_;rw [add_block];exact (fun e_=>((HL609_2.out.1 _ e_.symm).1.2) rfl))|exact (fun e_=>((HL609_2.out.1 _ e_.symm).1.2) rfl)))
 (first|have HS4_:=cell_grown hg (hHeld.2.2.2.2) (by first|(rw [add_block];exact (fun e_=>((HL609_2.out.1 _ e_.symm).1.2) rfl))|(show some (Addr.add _ _).block≠_;rw [add_block];exact (fun e_=>((HL609_2.out.1 _ e_.symm).1.2) rfl))|exact (fun e_=>((HL609_2.out.1 _ e_.symm).1.2) rfl))|have HS4_:=cell_grown hg (cell_unalloc (hHeld.2.2.2.2) (by first|(rw [add_block];exact Kd.S_lt HO601.out _ rfl)|(show (Addr.add _ _).block<_;rw [add_block];exact Kd.S_lt HO601.out _ rfl)|exact Kd.S_lt HO601.out _ rfl)) (by first|(rw [add_block];exact (fun e_=>((HL609_2.out.1 _ e_.symm).1.2) rfl))|(show some (Addr.add _ _).block≠_;rw [add_block];exact (fun e_=>((HL609_2.out.1 _ e_.symm).1.2) rfl))|exact (fun e_=>((HL609_2.out.1 _ e_.symm).1.2) rfl)))
 rw [← Ny615.out] at ho
 have n0_:=As_ (IsS85.grown (zi85_2 HI0.out NB0_598.out NB0_604.out) hg (IsS85.own_ne HI0.out HL609_2.out (by decide)))
 have n1_:=As_ (blk_grown (g:=gb598) (o:=.cells #[.slice none 0 0,.int .i64 0] 29 (0,0)) (zk_ BK598.out) hg (Kd.R_ne HL609_2.out BK598.out (by decide)))
 have n2_:=As_ (blk_grown (g:=gb604) (o:=.cells #[.slice (some ⟨go25,0,none⟩) t599.length co14,.int .i64 t602] 29 (0,0)) (zk_ BK604.out) hg (Kd.R_ne HL609_2.out BK604.out (by decide)))
 have n3_:=As_ (Kd.R_grown2 (zR_ HO612.out) rfl hg (fun k_ e_=>(HL609_2.out.1 k_ e_).2))
 have n4_:=As_ (below_weaken (zb3 HB.out (IsS85.ge HI0.out) GE598.out GE604.out) HL.out hb)
 have n5_:=As_ (KeepBut.trans (zkp2 HK.out GW598.out GW604.out) (KeepBut.of_grown hg g) (Kd.R_base2 HL609_2.out))
 have n6_:=As_ (Kd.H_grown (Kd.H_widen (by repeat (first|exact HH25.out|refine Kd.H_alloc ?_ _|refine Kd.H_drewN ?_ _|refine Kd.H_drew ?_))) hg (fun k_ e_=>.inl (UU25.out.1 k_ e_)))
 have n7_:=As_ (ho)
 clear HI0 BK598 BK604 HO612 HB HK HH25 HO601 UU25 HL609_2
 revert n0_ n1_ n2_ n3_ n4_ n5_ n6_ n7_;intro HI0 BK598 BK604 HO612 HB HK HH25 HO617
 clear ho hb hg hat
 have p10:0≤(t605:Int):=odT zA_
 have q10:(t605:Int)<((t599.length:Int):Int):=odT zA_
 replace p10:=eq_true p10
 replace q10:=eq_true q10
 obtain ⟨Ao29,co29,eo29⟩:=Kd.R_slice HO617.out
 (first|subst eo29|(injection eo29 with f1_ f2_ f3_;have f4_:=f1_.symm;have f5_:=f3_.symm;clear f1_ f2_ f3_;subst f4_;subst f5_))
 obtain ⟨_,_,hraw27,_,_,hcc27,_⟩:=Kd.H_raw HH25.out (odT zA_) (by have h_:(t605:Int)<((t599.length:Int):Int):=odT zA_;first|exact h_|(have e_:=(HN25.out);omega)|simpa using h_)
 obtain ⟨_,hfr27⟩:=Kd.H_at HH25.out (odT zA_) (by have h_:(t605:Int)<((t599.length:Int):Int):=odT zA_;first|exact h_|(have e_:=(HN25.out);omega)|simpa using h_)
 have hx27_0:=hcc27 2 _ rfl
 have hf27_0:=hfr27 2
 (try rw [show (k45).sz=3 from rfl] at hx27_0)
 (try rw [show (k45).sz=3 from rfl] at hf27_0)
 have HP27:=Kd.S_seg0 HH25.out (odT zA_) (by have h_:(t605:Int)<((t599.length:Int):Int):=odT zA_;first|exact h_|(have e_:=(HN25.out);omega)|simpa using h_) (seg:=[.slice Ao29 y615.length co29]) (j:=2) (show 3≤3 from by decide) (x':=(⟨(rd_T45 t599 t605).f0,(rd_T45 t599 t605).f1,y615⟩:S45)) (k45_mkM _ _ _ (⟨(rd_T45 t599 t605).f0,(rd_T45 t599 t605).f1,y615⟩:S45) HO617.out) (fun _ hk=>hk)
 clear hcc27 hfr27
 have HN0_go25:=As_ (show g≠go25 from by have h_:=IsS85.own_ne HI0.out hraw27 (by decide);intro e_;exact h_ (by rw [e_];rfl))
 have HNB598_go25:=As_ (show gb598≠go25 from by have h_:=Kd.R_ne hraw27 BK598.out (by decide);intro e_;exact h_ (by rw [e_];rfl))
 have HNB604_go25:=As_ (show gb604≠go25 from by have h_:=Kd.R_ne hraw27 BK604.out (by decide);intro e_;exact h_ (by rw [e_];rfl))
 have HS27:=HP27.1
 rw [← Ny618.out] at HS27
 have HQ27:=As_ HS27
 obtain ⟨_,hgg27⟩:=Kd.R_typed hraw27 go25 rfl
 have GG27_:=As_ hgg27
 clear HP27 HS27 hgg27
 refine hK.out _ _ ⟨(bkC BK604.out 0).trans rfl,(bkC BK604.out 1).trans rfl,HS2_,HS3_,HS4_⟩ (fun hHeld=>?_)
 clear hK K
 refine norm_ (a':=?_) ?_ ?_
 rotate_left
 ·show Act.put _ (some 32) _=_
  simp only [Act.put,sq_]
  rfl
 refine pQ 17 33 (bl_ 262143 20) HT_ rfl ?_
 refine pQ 18 34 (bl_ 524287 20) HT_ rfl ?_
 refine last_ (i:=19) (N:=none) (bl_ 1048575 20) rfl rfl (one_of HT_.out (by kernel_rfl)) (by decide) (fun K hK=>?_)
 refine skip_ (w1:=?_) (by rfl) rfl ?_ ?_
 rotate_left
 ·go_simp
  rfl
 refine hK.out _ _ ?_
 clear hK K
 refine done_ (done_of HT_.out (by kernel_rfl)) ?_
 have n0_:Aside0 (Kd.R (Kd.int .i64) 3 (w26.setCell ⟨go25,(t605:Int).toNat * 3+2,none⟩ (.slice Ao29 y615.length co29)) w.heap.size (fun _=>True) (.slice Ao23 y610.length co23) y610):=⟨by (with_reducible repeat (first|apply Kd.R_alloc|apply Kd.R_drewN|apply Kd.R_drew));exact Kd.R_mono (Kd.R_far (p:=⟨go25,(t605:Int).toNat * 3+2,none⟩) (Kd.R_types HO612.out GG27_.out (by decide)) (fun _ hk=>hk.2) (.slice Ao29 y615.length co29)) (fun _ hk=>trivial)⟩
 have n1_:Aside0 (Kd.S k45 45 (w26.setCell ⟨go25,(t605:Int).toNat * 3+2,none⟩ (.slice Ao29 y615.length co29)) w.heap.size (fun k_=>some k_≠(.slice Ao23 y610.length co23:Value).ownBlock) (.slice (some ⟨go25,0,none⟩) t599.length co14) y618):=⟨by (with_reducible repeat (first|apply Kd.S_alloc|apply Kd.S_drewN|apply Kd.S_drew));exact HQ27.out⟩
 have n2_:Aside0 ((w26.setCell ⟨go25,(t605:Int).toNat * 3+2,none⟩ (.slice Ao29 y615.length co29)).heap[gb598]?=some (.cells #[.slice none 0 0,.int .i64 0] 29 (0,0))):=⟨by (with_reducible repeat first|apply bkN|apply bkD|apply bkA);refine blk_far ?_ HNB598_go25.out _;(with_reducible repeat first|apply bkN|apply bkD|apply bkA);exact BK598.out⟩
 have n3_:Aside0 ((w26.setCell ⟨go25,(t605:Int).toNat * 3+2,none⟩ (.slice Ao29 y615.length co29)).heap[gb604]?=some (.cells #[.slice (some ⟨go25,0,none⟩) t599.length co14,.int .i64 t602] 29 (0,0))):=⟨by (with_reducible repeat first|apply bkN|apply bkD|apply bkA);refine blk_far ?_ HNB604_go25.out _;(with_reducible repeat first|apply bkN|apply bkD|apply bkA);exact BK604.out⟩
 have n4_:Aside0 (IsS85 w0 (w26.setCell ⟨go25,(t605:Int).toNat * 3+2,none⟩ (.slice Ao29 y615.length co29)) g s0_0 t614):=⟨zi85_3 HI0.out HN0_go25.out NB0_598.out NB0_604.out⟩
 have n5_:Aside0 (KeepBut w (w26.setCell ⟨go25,(t605:Int).toNat * 3+2,none⟩ (.slice Ao29 y615.length co29)) g none):=⟨zkp3 HK.out GB25.out GW598.out GW604.out⟩
 have n6_:Aside0 (Below w0.heap.size w0 (w26.setCell ⟨go25,(t605:Int).toNat * 3+2,none⟩ (.slice Ao29 y615.length co29))):=⟨by repeat (first|(with_reducible first|exact HB.out|apply bwA|apply bwN|apply bwD|refine bwS ?_ (Nat.le_trans HL.out GB25.out)|refine bwS ?_ (IsS85.ge HI0.out)|refine bwS ?_ GE598.out|refine bwS ?_ GE604.out)|exact HB.out)⟩
 generalize (w26.setCell ⟨go25,(t605:Int).toNat * 3+2,none⟩ (.slice Ao29 y615.length co29))=w30 at n0_ n1_ n2_ n3_ n4_ n5_ n6_ ⊢
 revert n0_ n1_ n2_ n3_ n4_ n5_ n6_;intro HO612 HO601 BK598 BK604 HI0 HK HB
 obtain ⟨hcz31_0,hcz31_1,hfz31_0,hfz31_1⟩:=bk2 BK604.out
 have hnb32:=NB598_0.out
 have hnc32:=NB0_598.out
 obtain ⟨hcz33_0,hcz33_1,hfz33_0,hfz33_1⟩:=bk2 BK598.out
 try go_wp2
 refine bodyPost_ret (results_cell_row rfl _ _ gb598 29 #[.slice (some ⟨go25,0,none⟩) t599.length co14,.int .i64 t602] (0,0) _ rfl (by (with_reducible repeat first|apply bkN|apply bkD|apply bkA);refine blk_put (cs:=#[.slice (some ⟨go25,0,none⟩) t599.length co14,.int .i64 0]) ?_ 1 _ rfl;(with_reducible repeat first|apply bkN|apply bkD|apply bkA);refine blk_put (cs:=#[.slice none 0 0,.int .i64 0]) ?_ 0 _ rfl;(with_reducible repeat first|apply bkN|apply bkD|apply bkA);exact BK598.out) Try.underlying29 rfl (by kernel_rfl)) rfl ?_
 exact ⟨_,zE_,by (with_reducible repeat (first|apply Kd.S_alloc|apply Kd.S_drewN|apply Kd.S_drew));exact Kd.S_mono (Kd.S_far (p:=⟨gb598,1,none⟩) (Kd.S_far (p:=⟨gb598,0,none⟩) (Kd.S_types HO601.out BK598.out (by decide)) (fun _ hk=>hk.2) (.slice (some ⟨go25,0,none⟩) t599.length co14)) (fun _ hk=>hk.2) (.int .i64 t602)) (fun _ hk=>trivial),zi85_2 HI0.out NB0_598.out NB0_604.out,zb3 HB.out (IsS85.ge HI0.out) GE598.out GE604.out,zkp2 HK.out GW598.out GW604.out⟩
def spec_newReader.f (l0:List Int):Option (List Int × Int):=if (l0.length:Int)>2000 then (if 2000≤(l0.length:Int) then (some (l0.take 2000,0)) else (none)) else (some (l0,0))
set_option maxHeartbeats 8000000 in
set_option maxRecDepth 100000 in
theorem spec_newReader.calls (A0:Option Addr) (c0:Nat) (l0:List Int) (r1:List Int) (r2:Int) (w0 w:World) (hB:Below w0.heap.size w0 w) (hr0:Kd.C (Kd.int .u8) w0 A0 l0.length l0) (hc0:l0.length≤c0) (h:spec_newReader.f l0=some (r1,r2)) :
  Calls Try.prog 61 #[.slice A0 l0.length c0] w fun e w'=>∃ g_:Nat,e=.returned (.pointer (some ⟨g_,0,none⟩))∧IsS85 w0 w' g_ r1 r2∧Below w0.heap.size w0 w'∧Below w.heap.size w w':=by
 have hu85:=Try.underlying85
 have HR0:=As_ hr0
 have HC0:=As_ hc0
 clear hr0 hc0
 have HBW:=As_ (Below.refl w.heap.size w)
 have HW0:=As_ hB.size
 have HB:=As_ hB
 clear hB
 have H:(if (l0.length:Int)>2000 then (if 2000≤(l0.length:Int) then (some (l0.take 2000,0)) else (none)) else (some (l0,0)))=some (r1,r2):=h
 clear h
 by_cases c2:(l0.length:Int)>2000
 rotate_left
 ·rw [if_neg c2] at H
  have c2b0:decide (2000<(l0.length:Int))=false:=deF c2
  have c2b1:decide (2000<l0.length)=false:=deF (by omega)
  clear c2
  simp only [Option.some.injEq,Prod.mk.injEq] at H
  obtain ⟨rfl,rfl⟩:=H
  go_enter Try.func61,Try.ntmps61
  go_wp2_with (first|((with_reducible refine gate_dst (N:=10) rfl ?_);refine box_event ?hg (N:=10) ?hd (cs:=#[.slice A0 l0.length c0,.int .i64 0]) (t:=85) ?hr ?_;(case hd=>rfl);(case hg=>rfl);(case hr=>go_simp <;> rfl);intro gb636 hg w6 hbox hb;have n0_:=As_ (bwT HBW.out hb);have n1_:=As_ (bwT (zb0 HB.out) hb);have n2_:=As_ (hbox);have n3_:=As_ ((by rw [hg];exact (bwZ (zb0 HBW.out)):w.heap.size≤gb636));have n4_:=As_ ((Nat.le_trans HW0.out (by rw [hg];exact (bwZ (zb0 HBW.out)):w.heap.size≤gb636):w0.heap.size≤gb636));clear HBW HB;revert n0_ n1_ n2_ n3_ n4_;intro HBW HB BK636 GW636 GE636;clear hb hbox hg))
  go_ret
  exact ⟨_,rfl,(show IsS85 w0 _ gb636 l0 0 from ⟨_,_,by (with_reducible repeat first|apply bkN|apply bkD|apply bkA);exact BK636.out,GE636.out,HR0.out⟩),zb1 HB.out GE636.out,zb1 HBW.out GW636.out⟩
 rw [if_pos c2] at H
 have c2b0:decide (2000<(l0.length:Int))=true:=deT c2
 have c2b1:decide (2000<l0.length)=true:=deT (by omega)
 clear c2
 by_cases c3:2000≤(l0.length:Int)
 rotate_left
 ·rw [if_neg c3] at H
  exact absurd H (by simp)
 rw [if_pos c3] at H
 have c3b0:=eq_true c3
 have c3b1:decide (2000≤(l0.length:Int))=true:=deT c3
 clear c3
 simp only [Option.some.injEq,Prod.mk.injEq] at H
 obtain ⟨rfl,rfl⟩:=H
 obtain ⟨i04,hi04,_,hsz4,_⟩:=info_parts info5
 obtain ⟨hcut4,hA4,hC4⟩:=print_take_of (P:=Try.prog) (Value.int .u8) 0 35 5 .i64 Try.underlying35 hi04 hsz4 A0 c0 l0 2000 (by omega) (odT zA_) HC0.out
 have HR634:=As_ (Kd.C_of_reads (h1:=fun _=>rfl) (hA4 _ (Kd.reads_of_C HR0.out)))
 have HC634:=As_ hC4
 clear hA4 hC4 hi04 hsz4
 go_enter Try.func61,Try.ntmps61
 go_wp2_with (first|((with_reducible refine gate_dst (N:=10) rfl ?_);refine box_event ?hg (N:=10) ?hd (cs:=#[.slice A0 (l0.take 2000).length c0,.int .i64 0]) (t:=85) ?hr ?_;(case hd=>rfl);(case hg=>rfl);(case hr=>go_simp <;> rfl);intro gb635 hg w5 hbox hb;have n0_:=As_ (bwT HBW.out hb);have n1_:=As_ (bwT (zb0 HB.out) hb);have n2_:=As_ (hbox);have n3_:=As_ ((by rw [hg];exact (bwZ (zb0 HBW.out)):w.heap.size≤gb635));have n4_:=As_ ((Nat.le_trans HW0.out (by rw [hg];exact (bwZ (zb0 HBW.out)):w.heap.size≤gb635):w0.heap.size≤gb635));clear HBW HB;revert n0_ n1_ n2_ n3_ n4_;intro HBW HB BK635 GW635 GE635;clear hb hbox hg))
 go_ret
 exact ⟨_,rfl,(show IsS85 w0 _ gb635 (l0.take 2000) 0 from ⟨_,_,by (with_reducible repeat first|apply bkN|apply bkD|apply bkA);exact BK635.out,GE635.out,HR634.out⟩),zb1 HB.out GE635.out,zb1 HBW.out GW635.out⟩
end Go.Proofs.Ytfhakhbmbnbneaa.Q
