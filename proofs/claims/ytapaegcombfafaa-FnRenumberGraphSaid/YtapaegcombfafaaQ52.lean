import Derived.Test.YtapaegcombfafaaQ0
import Derived.Test.YtapaegcombfafaaQ65
import Derived.Test.YtapaegcombfafaaQ86
namespace Go.Proofs.Ytapaegcombfafaa.Q
open Go.RowKit Go.Proofs.YtapaegcombfafaaW.PrintWords Go.Proofs.YtapaegcombfafaaW.PrintLast Go.Proofs.YtapaegcombfafaaW.PrintMore
attribute [local go_sem] max2_int min2_int max_two min_two max_three min_three max_four min_four
set_option linter.unusedVariables false
set_option linter.unusedSimpArgs false
def spec_anyGraph.f (k:Nat) (s0_0:List Int) (s0_1:Int):Option ((List (S58)) × Int × Int):=(spec_someGraph.f k s0_0 s0_1).bind fun bt239=>((spec_reader_pick.f k s0_0 bt239.2.2 (bt239.1.length:Int)).bind fun bt245=>((spec_reader_pick.f k s0_0 bt245.2 20).bind fun bt247=>(if bt247.1=0 then (if 0≤bt245.1 then (if bt245.1<(bt239.1.length:Int) then ((spec_reader_one.f k s0_0 bt247.2 (([(-1),(bt239.1.length:Int)]:List Int))).bind fun bt253=>(if ((rd_T58 bt239.1 bt245.1).f2).length<17592186044416 then (some ((bt239.1.set (bt245.1:Int).toNat (⟨(rd_T58 bt239.1 bt245.1).f0,(rd_T58 bt239.1 bt245.1).f1,(((rd_T58 bt239.1 bt245.1).f2)++[bt253.1])⟩:S58)),bt239.2.1,bt253.2)) else (none))) else (none)) else (none)) else (if bt247.1=1 then ((spec_reader_one.f k s0_0 bt247.2 (([(-1),6,4]:List Int))).bind fun bt262=>(if 0≤bt245.1 then (if bt245.1<(bt239.1.length:Int) then (some ((bt239.1.set (bt245.1:Int).toNat (⟨bt262.1,(rd_T58 bt239.1 bt245.1).f1,(rd_T58 bt239.1 bt245.1).f2⟩:S58)),bt239.2.1,bt262.2)) else (none)) else (none))) else (if bt247.1=2 then (if 0≤bt245.1 then (if bt245.1<(bt239.1.length:Int) then (some ((bt239.1.set (bt245.1:Int).toNat (⟨2,0,(([bt245.1]:List Int))⟩:S58)),bt239.2.1,bt247.2)) else (none)) else (none)) else (if bt247.1=3 then ((spec_reader_one.f k s0_0 bt247.2 (([(-1),(bt239.1.length:Int)]:List Int))).bind fun bt272=>(some (bt239.1,bt272.1,bt272.2))) else (some (bt239.1,bt239.2.1,bt247.2))))))))
set_option maxRecDepth 100000 in
theorem spec_anyGraph.mono:∀ a0 a1 k,LeO (spec_anyGraph.f k a0 a1) (spec_anyGraph.f (k+1) a0 a1):=by
 intro a0 a1 k
 unfold spec_anyGraph.f
 repeat' first
   | (with_reducible exact spec_reader_one.mono _ _ _ _)
   | (with_reducible exact spec_reader_pick.mono _ _ _ _)
   | (with_reducible exact spec_someGraph.mono _ _ _)
   | (with_reducible exact LeO.refl _)
   | (with_reducible exact LeO.none _)
   | (with_reducible refine LeO.ite ?_ ?_)
   | (with_reducible refine LeO.bind ?_ (fun _=>?_))
   | exact spec_reader_one.mono _ _ _ _
   | exact spec_reader_pick.mono _ _ _ _
   | exact spec_someGraph.mono _ _ _
   | exact LeO.none _
   | refine LeO.ite ?_ ?_
   | refine LeO.bind ?_ (fun _=>?_)
def spec_anyGraph.T5:Bool × List (List Nat × List Nat):=(true,[([],[]),([0],[0]),([],[]),([],[]),([3],[3]),([],[]),([4,5],[4,5]),([6],[6]),([7],[7]),([],[]),([],[]),([10],[10]),([11],[11]),([12],[12]),([9,13],[9,13]),([14],[14]),([8,15,14],[8,15]),([1,2,0,1,2,3,4,5,6,7,8,9,10,11,12,13,14,15,16],[1,2]),([17,0,1,2,3,4,5,6,7,8,9,10,11,12,13,14,15,16],[17]),([18,16,16,0,1,2,3,4,5,6,7,8,9,10,11,12,13,14,15,16],[16,18])])
def spec_anyGraph.B5:List Nat:=[0,1,0,0,8,0,56,120,248,0,0,1024,3072,7168,15872,32256,65528,131071,262143,524287]
theorem spec_anyGraph.tab5:rtab .any (opsOf Try.f52 5)=spec_anyGraph.T5:=by kernel_rfl
theorem spec_anyGraph.bits5:waitsOk spec_anyGraph.T5.2 spec_anyGraph.B5=true:=by kernel_rfl
def spec_anyGraph.T7:Bool × List (List Nat × List Nat):=(true,[([],[]),([0],[0]),([],[]),([],[]),([],[]),([3,4],[3,4]),([1,2,0,1,2,3,4,5],[1,2]),([6,0,1,2,3,4,5],[6]),([7,5,5,0,1,2,3,4,5],[5,7])])
def spec_anyGraph.B7:List Nat:=[0,1,0,0,0,24,63,127,255]
theorem spec_anyGraph.tab7:rtab .any (opsOf Try.f52 7)=spec_anyGraph.T7:=by kernel_rfl
theorem spec_anyGraph.bits7:waitsOk spec_anyGraph.T7.2 spec_anyGraph.B7=true:=by kernel_rfl
set_option maxHeartbeats 8000000 in
set_option maxRecDepth 100000 in
theorem spec_anyGraph.calls (k:Nat) (g:Nat) (s0_0:List Int) (s0_1:Int) (r1:List (S58)) (r2:Int) (r3:Int) (w0 w:World) (hI:IsS74 w0 w g s0_0 s0_1) (hB:Below w0.heap.size w0 w) (h:spec_anyGraph.f k s0_0 s0_1=some (r1,r2,r3)) :
  Calls Try.prog 52 #[.pointer (some ⟨g,0,none⟩)] w fun e w'=>∃ v0_:Value,e=.returned (.agg #[v0_,.int .i64 r2])∧Kd.S k58 58 w' w.heap.size (fun _=>True) v0_ r1∧IsS74 w0 w' g s0_0 r3∧Below w0.heap.size w0 w'∧KeepBut w w' g none:=by
 have hu25:=Try.underlying25
 have hu58:=Try.underlying58
 have HI0:=As_ hI
 have HK:=As_ (KeepBut.refl w g none)
 have HL:=As_ hB.size
 clear hI
 have HW0:=As_ hB.size
 have HB:=As_ hB
 clear hB
 have H:((spec_someGraph.f k s0_0 s0_1).bind fun bt239=>((spec_reader_pick.f k s0_0 bt239.2.2 (bt239.1.length:Int)).bind fun bt245=>((spec_reader_pick.f k s0_0 bt245.2 20).bind fun bt247=>(if bt247.1=0 then (if 0≤bt245.1 then (if bt245.1<(bt239.1.length:Int) then ((spec_reader_one.f k s0_0 bt247.2 (([(-1),(bt239.1.length:Int)]:List Int))).bind fun bt253=>(if ((rd_T58 bt239.1 bt245.1).f2).length<17592186044416 then (some ((bt239.1.set (bt245.1:Int).toNat (⟨(rd_T58 bt239.1 bt245.1).f0,(rd_T58 bt239.1 bt245.1).f1,(((rd_T58 bt239.1 bt245.1).f2)++[bt253.1])⟩:S58)),bt239.2.1,bt253.2)) else (none))) else (none)) else (none)) else (if bt247.1=1 then ((spec_reader_one.f k s0_0 bt247.2 (([(-1),6,4]:List Int))).bind fun bt262=>(if 0≤bt245.1 then (if bt245.1<(bt239.1.length:Int) then (some ((bt239.1.set (bt245.1:Int).toNat (⟨bt262.1,(rd_T58 bt239.1 bt245.1).f1,(rd_T58 bt239.1 bt245.1).f2⟩:S58)),bt239.2.1,bt262.2)) else (none)) else (none))) else (if bt247.1=2 then (if 0≤bt245.1 then (if bt245.1<(bt239.1.length:Int) then (some ((bt239.1.set (bt245.1:Int).toNat (⟨2,0,(([bt245.1]:List Int))⟩:S58)),bt239.2.1,bt247.2)) else (none)) else (none)) else (if bt247.1=3 then ((spec_reader_one.f k s0_0 bt247.2 (([(-1),(bt239.1.length:Int)]:List Int))).bind fun bt272=>(some (bt239.1,bt272.1,bt272.2))) else (some (bt239.1,bt239.2.1,bt247.2)))))))))=some (r1,r2,r3):=h
 clear h
 replace H:=obS H
 obtain ⟨⟨t239,t242,t243⟩,A20,H⟩:=H
 replace H:((spec_reader_pick.f k s0_0 t243 (t239.length:Int)).bind fun bt245=>((spec_reader_pick.f k s0_0 bt245.2 20).bind fun bt247=>(if bt247.1=0 then (if 0≤bt245.1 then (if bt245.1<(t239.length:Int) then ((spec_reader_one.f k s0_0 bt247.2 (([(-1),(t239.length:Int)]:List Int))).bind fun bt253=>(if ((rd_T58 t239 bt245.1).f2).length<17592186044416 then (some ((t239.set (bt245.1:Int).toNat (⟨(rd_T58 t239 bt245.1).f0,(rd_T58 t239 bt245.1).f1,(((rd_T58 t239 bt245.1).f2)++[bt253.1])⟩:S58)),t242,bt253.2)) else (none))) else (none)) else (none)) else (if bt247.1=1 then ((spec_reader_one.f k s0_0 bt247.2 (([(-1),6,4]:List Int))).bind fun bt262=>(if 0≤bt245.1 then (if bt245.1<(t239.length:Int) then (some ((t239.set (bt245.1:Int).toNat (⟨bt262.1,(rd_T58 t239 bt245.1).f1,(rd_T58 t239 bt245.1).f2⟩:S58)),t242,bt262.2)) else (none)) else (none))) else (if bt247.1=2 then (if 0≤bt245.1 then (if bt245.1<(t239.length:Int) then (some ((t239.set (bt245.1:Int).toNat (⟨2,0,(([bt245.1]:List Int))⟩:S58)),t242,bt247.2)) else (none)) else (none)) else (if bt247.1=3 then ((spec_reader_one.f k s0_0 bt247.2 (([(-1),(t239.length:Int)]:List Int))).bind fun bt272=>(some (t239,bt272.1,bt272.2))) else (some (t239,t242,bt247.2))))))))=some (r1,r2,r3):=H
 have A2:=As_ A20
 clear A20
 replace H:=obS H
 obtain ⟨⟨t245,t246⟩,A30,H⟩:=H
 replace H:((spec_reader_pick.f k s0_0 t246 20).bind fun bt247=>(if bt247.1=0 then (if 0≤t245 then (if t245<(t239.length:Int) then ((spec_reader_one.f k s0_0 bt247.2 (([(-1),(t239.length:Int)]:List Int))).bind fun bt253=>(if ((rd_T58 t239 t245).f2).length<17592186044416 then (some ((t239.set (t245:Int).toNat (⟨(rd_T58 t239 t245).f0,(rd_T58 t239 t245).f1,(((rd_T58 t239 t245).f2)++[bt253.1])⟩:S58)),t242,bt253.2)) else (none))) else (none)) else (none)) else (if bt247.1=1 then ((spec_reader_one.f k s0_0 bt247.2 (([(-1),6,4]:List Int))).bind fun bt262=>(if 0≤t245 then (if t245<(t239.length:Int) then (some ((t239.set (t245:Int).toNat (⟨bt262.1,(rd_T58 t239 t245).f1,(rd_T58 t239 t245).f2⟩:S58)),t242,bt262.2)) else (none)) else (none))) else (if bt247.1=2 then (if 0≤t245 then (if t245<(t239.length:Int) then (some ((t239.set (t245:Int).toNat (⟨2,0,(([t245]:List Int))⟩:S58)),t242,bt247.2)) else (none)) else (none)) else (if bt247.1=3 then ((spec_reader_one.f k s0_0 bt247.2 (([(-1),(t239.length:Int)]:List Int))).bind fun bt272=>(some (t239,bt272.1,bt272.2))) else (some (t239,t242,bt247.2)))))))=some (r1,r2,r3):=H
 have A3:=As_ A30
 clear A30
 replace H:=obS H
 obtain ⟨⟨t247,t248⟩,A40,H⟩:=H
 replace H:(if t247=0 then (if 0≤t245 then (if t245<(t239.length:Int) then ((spec_reader_one.f k s0_0 t248 (([(-1),(t239.length:Int)]:List Int))).bind fun bt253=>(if ((rd_T58 t239 t245).f2).length<17592186044416 then (some ((t239.set (t245:Int).toNat (⟨(rd_T58 t239 t245).f0,(rd_T58 t239 t245).f1,(((rd_T58 t239 t245).f2)++[bt253.1])⟩:S58)),t242,bt253.2)) else (none))) else (none)) else (none)) else (if t247=1 then ((spec_reader_one.f k s0_0 t248 (([(-1),6,4]:List Int))).bind fun bt262=>(if 0≤t245 then (if t245<(t239.length:Int) then (some ((t239.set (t245:Int).toNat (⟨bt262.1,(rd_T58 t239 t245).f1,(rd_T58 t239 t245).f2⟩:S58)),t242,bt262.2)) else (none)) else (none))) else (if t247=2 then (if 0≤t245 then (if t245<(t239.length:Int) then (some ((t239.set (t245:Int).toNat (⟨2,0,(([t245]:List Int))⟩:S58)),t242,t248)) else (none)) else (none)) else (if t247=3 then ((spec_reader_one.f k s0_0 t248 (([(-1),(t239.length:Int)]:List Int))).bind fun bt272=>(some (t239,bt272.1,bt272.2))) else (some (t239,t242,t248))))))=some (r1,r2,r3):=H
 have A4:=As_ A40
 clear A40
 by_cases c5:t247=0
 rotate_left
 ·rw [if_neg c5] at H
  have c5b0:(t247 == 0)=false:=beq_eq_false_iff_ne.mpr c5
  have c5b1:(t247 != 0)=true:=bne_iff_ne.mpr c5
  by_cases c34:t247=1
  rotate_left
  ·rw [if_neg c34] at H
   have c34b0:(t247 == 1)=false:=beq_eq_false_iff_ne.mpr c34
   have c34b1:(t247 != 1)=true:=bne_iff_ne.mpr c34
   by_cases c58:t247=2
   ·rw [if_pos c58] at H
    have c58b0:(t247 == 2)=true:=beq_iff_eq.mpr c58
    have c58b1:(t247 != 2)=false:=bne_eq_false_iff_eq.mpr c58
    clear c58
    obtain ⟨y265,hy265⟩:∃ y_:List Int,y_=(([t245]:List Int)):=⟨_,rfl⟩
    replace H:(if 0≤t245 then (if t245<(t239.length:Int) then (some ((t239.set (t245:Int).toNat (⟨2,0,y265⟩:S58)),t242,t248)) else (none)) else (none))=some (r1,r2,r3):=zH_ H hy265
    have Ny265:=As_ hy265
    clear hy265
    by_cases c59:0≤t245
    rotate_left
    ·rw [if_neg c59] at H
     exact absurd H (by simp)
    rw [if_pos c59] at H
    have c59b0:decide (0≤t245)=true:=deT c59
    clear c59
    by_cases c60:t245<(t239.length:Int)
    rotate_left
    ·rw [if_neg c60] at H
     exact absurd H (by simp)
    rw [if_pos c60] at H
    have c60b0:decide (t245<(t239.length:Int))=true:=deT c60
    clear c60
    obtain ⟨y268,hy268⟩:∃ y_:List (S58),y_=(t239.set (t245:Int).toNat (⟨2,0,y265⟩:S58)):=⟨_,rfl⟩
    replace H:(some (y268,t242,t248))=some (r1,r2,r3):=zH_ H hy268
    have Ny268:=As_ hy268
    clear hy268
    simp only [Option.some.injEq,Prod.mk.injEq] at H
    obtain ⟨rfl,rfl,rfl⟩:=H
    go_enter Try.func52,Try.ntmps52
    go_wp2_with (first|((with_reducible refine gate_dst (N:=2) rfl ?_);refine box_event ?hg (N:=2) ?hd (cs:=#[.slice none 0 0,.int .i64 0]) (t:=25) ?hr ?_;(case hd=>rfl);(case hg=>rfl);(case hr=>go_simp <;> rfl);intro gb238 hg w62 hbox hb;have n0_:=As_ (IsS74.below (zi74_0 HI0.out) hb);have n1_:=As_ (KeepBut.trans (zkp0 HK.out) (KeepBut.of_below hb g none) (.inl rfl));have n2_:=As_ (bwT (zb1 HB.out (IsS74.ge HI0.out)) hb);have n3_:=As_ (hbox);have n4_:=As_ ((by rw [hg];exact (keep_size (w:=w) (g:=g) (row:=none) (zkp0 HK.out)):w.heap.size≤gb238));have n5_:=As_ ((Nat.le_trans HW0.out (by rw [hg];exact (keep_size (w:=w) (g:=g) (row:=none) (zkp0 HK.out)):w.heap.size≤gb238):w0.heap.size≤gb238));have n6_:=As_ ((by rw [hg];exact Nat.ne_of_lt (IsS74.lt (show IsS74 w0 _ g s0_0 s0_1 from zi74_0 HI0.out)):g≠gb238));have n7_:=As_ ((by rw [hg];exact Nat.ne_of_gt (IsS74.lt (show IsS74 w0 _ g s0_0 s0_1 from zi74_0 HI0.out)):gb238≠g));clear HI0 HK HB;revert n0_ n1_ n2_ n3_ n4_ n5_ n6_ n7_;intro HI0 HK HB BK238 GW238 GE238 NB0_238 NB238_0;clear hb hbox hg)|((with_reducible refine gate_callee (f:=86) rfl ?_);refine goesL_ (some 6) rfl rfl Try.func86 (by kernel_rfl) rfl #[.pointer (some ⟨g,0,none⟩)] rfl zM_ ?_;(with_reducible refine (spec_someGraph.calls k g s0_0 s0_1 t239 t242 t243 w0 _ ?side1 ?side2 A2.out).mono ?_);(case side1=>exact zi74_1 HI0.out NB0_238.out);(case side2=>exact zb2 HB.out (IsS74.ge HI0.out) GE238.out);rintro e w63 ⟨v240,rfl,ho0,hi,hb,hk⟩;refine ⟨_,rfl,?_⟩;have n0_:=As_ (KeepBut.blk hk (g':=gb238) (o:=.cells #[.slice none 0 0,.int .i64 0] 25 (0,0)) (zk_ BK238.out) NB238_0.out (by simp));have n1_:=As_ (Kd.S_lower ho0 (keep_size (w:=w) (g:=g) (row:=none) (zkp1 HK.out GW238.out)));have n2_:=As_ (KeepBut.trans (zkp1 HK.out GW238.out) hk (.inl rfl));have n3_:=As_ (hb);have n4_:=As_ (hi);clear BK238 HK HB HI0;revert n0_ n1_ n2_ n3_ n4_;intro BK238 HO241 HK HB HI0)|((with_reducible refine gate_dst (N:=3) rfl ?_);refine box_event ?hg (N:=3) ?hd (cs:=#[.slice none 0 0,.int .i64 0]) (t:=25) ?hr ?_;(case hd=>rfl);(case hg=>rfl);(case hr=>go_simp <;> rfl);intro gb244 hg w64 hbox hb;have n0_:=As_ (Kd.S_below (zS_ HO241.out) hb);have n1_:=As_ (IsS74.below (zi74_1 HI0.out NB0_238.out) hb);have n2_:=As_ (zkb BK238.out hb);have n3_:=As_ (KeepBut.trans (zkp1 HK.out GW238.out) (KeepBut.of_below hb g none) (.inl rfl));have n4_:=As_ (bwT (zb2 HB.out (IsS74.ge HI0.out) GE238.out) hb);have n5_:=As_ (hbox);have n6_:=As_ ((by rw [hg];exact (keep_size (w:=w) (g:=g) (row:=none) (zkp1 HK.out GW238.out)):w.heap.size≤gb244));have n7_:=As_ ((Nat.le_trans HW0.out (by rw [hg];exact (keep_size (w:=w) (g:=g) (row:=none) (zkp1 HK.out GW238.out)):w.heap.size≤gb244):w0.heap.size≤gb244));have n8_:=As_ ((by rw [hg];exact Nat.ne_of_lt (zkl BK238.out):gb238≠gb244));have n9_:=As_ ((by rw [hg];exact Nat.ne_of_gt (zkl BK238.out):gb244≠gb238));have n10_:=As_ ((by rw [hg];exact Nat.ne_of_lt (IsS74.lt (show IsS74 w0 _ g s0_0 t243 from zi74_1 HI0.out NB0_238.out)):g≠gb244));have n11_:=As_ ((by rw [hg];exact Nat.ne_of_gt (IsS74.lt (show IsS74 w0 _ g s0_0 t243 from zi74_1 HI0.out NB0_238.out)):gb244≠g));clear HO241 HI0 BK238 HK HB;revert n0_ n1_ n2_ n3_ n4_ n5_ n6_ n7_ n8_ n9_ n10_ n11_;intro HO241 HI0 BK238 HK HB BK244 GW244 GE244 NB238_244 NB244_238 NB0_244 NB244_0;clear hb hbox hg;obtain ⟨Ao65,co65,eo65⟩:=Kd.S_slice HO241.out;subst eo65;have hnb66:=NB244_238.out;have hnc66:=NB238_244.out;have hnb67:=NB244_0.out;have hnc67:=NB0_244.out;obtain ⟨hcz68_0,hcz68_1,hfz68_0,hfz68_1⟩:=bk2 BK244.out)|((with_reducible refine gate_callee (f:=65) rfl ?_);refine goesL_ (some 11) rfl rfl Try.func65 (by kernel_rfl) rfl #[.pointer (some ⟨g,0,none⟩),.int .i64 (t239.length:Int)] rfl zM_ ?_;(with_reducible refine (spec_reader_pick.calls k g s0_0 t243 (t239.length:Int) t245 t246 w0 _ ?side1 ?side2 A3.out).mono ?_);(case side1=>exact zi74_2 HI0.out NB0_238.out NB0_244.out);(case side2=>exact zb3 HB.out (IsS74.ge HI0.out) GE238.out GE244.out);rintro e w69 ⟨rfl,hi,hb,hk⟩;refine ⟨_,rfl,?_⟩;have n0_:=As_ (KeepBut.blk hk (g':=gb238) (o:=.cells #[.slice none 0 0,.int .i64 0] 25 (0,0)) (by (with_reducible repeat first|apply bkN|apply bkD|apply bkA);refine blk_far ?_ NB238_244.out _;(with_reducible repeat first|apply bkN|apply bkD|apply bkA);refine blk_far ?_ NB238_244.out _;(with_reducible repeat first|apply bkN|apply bkD|apply bkA);exact BK238.out) NB238_0.out (by simp));have n1_:=As_ (Kd.S_mono (Kd.S_keep (IsS74.apartS (show IsS74 w0 _ g s0_0 t243 from zi74_2 HI0.out NB0_238.out NB0_244.out) (by (with_reducible repeat (first|apply Kd.S_alloc|apply Kd.S_drewN|apply Kd.S_drew));exact (Kd.S_mono (Kd.S_far (p:=⟨gb244,1,none⟩) (Kd.S_far (p:=⟨gb244,0,none⟩) (Kd.S_types HO241.out BK244.out (by decide)) (fun _ hk=>hk.2) (.slice Ao65 t239.length co65)) (fun _ hk=>hk.2) (.int .i64 t242)) (fun _ h_=>h_.1))) (by decide)) hk (fun _ h=>h.2)) (fun _ h=>h.1));have n2_:=As_ (KeepBut.blk hk (g':=gb244) (o:=.cells #[.slice Ao65 t239.length co65,.int .i64 t242] 25 (0,0)) (by (with_reducible repeat first|apply bkN|apply bkD|apply bkA);refine blk_put (cs:=#[.slice Ao65 t239.length co65,.int .i64 0]) ?_ 1 _ rfl;(with_reducible repeat first|apply bkN|apply bkD|apply bkA);refine blk_put (cs:=#[.slice none 0 0,.int .i64 0]) ?_ 0 _ rfl;(with_reducible repeat first|apply bkN|apply bkD|apply bkA);exact BK244.out) NB244_0.out (by simp));have n3_:=As_ (KeepBut.trans (zkp2 HK.out GW238.out GW244.out) hk (.inl rfl));have n4_:=As_ (hb);have n5_:=As_ (hi);clear BK238 HO241 BK244 HK HB HI0;revert n0_ n1_ n2_ n3_ n4_ n5_;intro BK238 HO241 BK244 HK HB HI0)|((with_reducible refine gate_callee (f:=65) rfl ?_);refine goesL_ (some 13) rfl rfl Try.func65 (by kernel_rfl) rfl #[.pointer (some ⟨g,0,none⟩),.int .i64 20] rfl zM_ ?_;(with_reducible refine (spec_reader_pick.calls k g s0_0 t246 20 t247 t248 w0 _ ?side1 ?side2 A4.out).mono ?_);(case side1=>exact zi74_2 HI0.out NB0_238.out NB0_244.out);(case side2=>exact zb3 HB.out (IsS74.ge HI0.out) GE238.out GE244.out);rintro e w70 ⟨rfl,hi,hb,hk⟩;refine ⟨_,rfl,?_⟩;have n0_:=As_ (KeepBut.blk hk (g':=gb238) (o:=.cells #[.slice none 0 0,.int .i64 0] 25 (0,0)) (zk_ BK238.out) NB238_0.out (by simp));have n1_:=As_ (Kd.S_mono (Kd.S_keep (IsS74.apartS (show IsS74 w0 _ g s0_0 t246 from zi74_2 HI0.out NB0_238.out NB0_244.out) (zS_ HO241.out) (by decide)) hk (fun _ h=>h.2)) (fun _ h=>h.1));have n2_:=As_ (KeepBut.blk hk (g':=gb244) (o:=.cells #[.slice Ao65 t239.length co65,.int .i64 t242] 25 (0,0)) (zk_ BK244.out) NB244_0.out (by simp));have n3_:=As_ (KeepBut.trans (zkp2 HK.out GW238.out GW244.out) hk (.inl rfl));have n4_:=As_ (hb);have n5_:=As_ (hi);clear BK238 HO241 BK244 HK HB HI0;revert n0_ n1_ n2_ n3_ n4_ n5_;intro BK238 HO241 BK244 HK HB HI0;obtain ⟨hcz71_0,hcz71_1,hfz71_0,hfz71_1⟩:=bk2 BK244.out)|((with_reducible refine gate_dst (N:=51) rfl ?_);refine Kd.R_lit (Kd.int .i64) _ 3 ?hg (N:=51) ?hd (xs:=([t245]:List Int)) (inner:=[.int .i64 t245]) (ok:=fun _=>True) (okp:=fun _=>True) ?hr ?hp (fun _ hk=>hk) trivial (Below.refl _ _) (Nat.le_refl _) (by simp) ?_;(case hd=>rfl);(case hg=>rfl);(case hr=>go_simp <;> rfl);(case hp=>exact (Reps.one (show Kd.M (Kd.int .i64) _ _ _ t245 [.int .i64 t245] from rfl) (Reps.none _ _)));intro v266 w72 ho73 hb hg_ hnew_;clear hg_ hnew_;(first|rw [← Ny265.out] at ho73|(simp only [Int.reduceToNat] at ho73;rw [← Ny265.out] at ho73));have n0_:=As_ (Kd.S_elder' (zS_ HO241.out) (Kd.R_base ho73) hb);have n1_:=As_ (Kd.R_lower ho73 (keep_size (w:=w) (g:=g) (row:=none) (zkp2 HK.out GW238.out GW244.out)));have n2_:=As_ (IsS74.below (zi74_2 HI0.out NB0_238.out NB0_244.out) hb);have n3_:=As_ (zkb BK238.out hb);have n4_:=As_ (zkb BK244.out hb);have n5_:=As_ (KeepBut.trans (zkp2 HK.out GW238.out GW244.out) (KeepBut.of_below hb g none) (.inl rfl));have n6_:=As_ (bwT (zb3 HB.out (IsS74.ge HI0.out) GE238.out GE244.out) hb);clear HO241 HI0 BK238 BK244 HK HB;revert n0_ n1_ n2_ n3_ n4_ n5_ n6_;intro HO241 HO267 HI0 BK238 BK244 HK HB;clear hb ho73;obtain ⟨Ao74,co74,eo74⟩:=Kd.R_slice HO267.out;subst eo74;have p61:0≤(t245:Int):=odT zA_;have q61:(t245:Int)<((t239.length:Int):Int):=odT zA_;obtain ⟨go61,co61,eo61,gb61,gl61,cl61,HG61⟩:=Kd.S_form HO241.out (by omega);(first|cases eo61|(injection eo61 with ea_ en_ ec_;(first|subst ea_|(injection ea_ with ea_;subst ea_));subst ec_;clear en_));have GB61:=As_ gb61;have GG61:=As_ HG61;clear gb61 gl61 HG61;obtain ⟨_,ce61,hcl61,hM61,hcc61,hfr61,_,_⟩:=Kd.S_elem HO241.out z58 (t245:Int) p61 q61;obtain ⟨ve61_2,rfl,ge61_2⟩:=k58_openM hM61;have hx61_0:w72.cell? ⟨go61,(t245:Int).toNat * 3,none⟩=some (.int .i64 ((rd_T58 t239 t245).f0)):=hcc61 0 _ rfl;have hx61_1:w72.cell? ⟨go61,(t245:Int).toNat * 3+1,none⟩=some (.int .i64 ((rd_T58 t239 t245).f1)):=hcc61 1 _ rfl;have hx61_2:w72.cell? ⟨go61,(t245:Int).toNat * 3+2,none⟩=some (ve61_2):=hcc61 2 _ rfl;have hf61_0:w72.frozen? ⟨go61,(t245:Int).toNat * 3,none⟩=false:=hfr61 0;have hf61_1:w72.frozen? ⟨go61,(t245:Int).toNat * 3+1,none⟩=false:=hfr61 1;have hf61_2:w72.frozen? ⟨go61,(t245:Int).toNat * 3+2,none⟩=false:=hfr61 2;clear hcl61 hcc61 hfr61 hM61;replace p61:=eq_true p61;replace q61:=eq_true q61;have n_:=As_ (Kd.S_mono (ok':=(fun k_=>some k_≠(.slice Ao74 y265.length co74:Value).ownBlock)) HO241.out (fun k_ hk=>hk.2));clear HO241;have HO241:=n_;clear n_;have HX75:=As_ (show Kd.S k58 58 w72 w.heap.size (fun k_=>((fun _=>True)) k_∧¬ ((fun k_=>some k_=(.slice Ao74 y265.length co74:Value).ownBlock)) k_) (.slice (some ⟨go61,0,none⟩) t239.length co65) t239 from (by (with_reducible repeat (first|apply Kd.S_alloc|apply Kd.S_drewN|apply Kd.S_drew));exact Kd.S_mono HO241.out (fun k_ hk=>⟨trivial,fun e_=>hk e_⟩)));obtain ⟨oki75,ce75,hcl75,hM75,hcc75,hfr75,hoki75,hH75⟩:=Kd.S_elem HX75.out z58 (t245:Int) (odT zA_) (by have h_:(t245:Int)<((t239.length:Int):Int):=odT zA_;first|exact h_|(have e_:=(Kd.S_reads' HO241.out).1;omega)|simpa using h_);obtain ⟨ve75_2,rfl,ge75_2⟩:=k58_openM hM75;have HP75:=Kd.S_seg hH75 (odT zA_) (by have h_:(t245:Int)<((t239.length:Int):Int):=odT zA_;first|exact h_|(have e_:=(Kd.S_reads' HO241.out).1;omega)|simpa using h_) (seg:=[.int .i64 2,.int .i64 0,.slice Ao74 y265.length co74]) (j:=0) (show 3≤3 from by decide) (x':=(⟨2,0,y265⟩:S58)) (k58_mkM _ _ _ (⟨2,0,y265⟩:S58) (Kd.R_mono (Kd.R_tight rfl (Kd.R_mono (ok':=fun k_=>((fun _=>True)) k_∧k_≠go61) (Kd.R_apart' (HO267.out) (Kd.S_typed HO241.out) (by decide)) (fun k_ hk=>⟨trivial,fun e_=>(hk.2) (by rw [e_];rfl)⟩))) (fun _ h_=>Or.inr (h_)))) (fun _ hk=>hk) (fun k_ hk_=>((Kd.R_mono (ok':=fun k_=>((fun _=>True)) k_∧k_≠go61) (Kd.R_apart' (HO267.out) (Kd.S_typed HO241.out) (by decide)) (fun k_ hk=>⟨trivial,fun e_=>(hk.2) (by rw [e_];rfl)⟩))).1 k_ hk_.symm);have hx75_0:=hcc75 0 _ rfl;(try simp only [show (k58).sz=3 from rfl,Nat.mul_one,Nat.add_zero] at hx75_0);have hf75_0:=hfr75 0;(try simp only [show (k58).sz=3 from rfl,Nat.mul_one,Nat.add_zero] at hf75_0);have hx75_1:=hcc75 1 _ rfl;(try simp only [show (k58).sz=3 from rfl,Nat.mul_one,Nat.add_zero] at hx75_1);have hf75_1:=hfr75 1;(try simp only [show (k58).sz=3 from rfl,Nat.mul_one,Nat.add_zero] at hf75_1);have hx75_2:=hcc75 2 _ rfl;(try simp only [show (k58).sz=3 from rfl,Nat.mul_one,Nat.add_zero] at hx75_2);have hf75_2:=hfr75 2;(try simp only [show (k58).sz=3 from rfl,Nat.mul_one,Nat.add_zero] at hf75_2);clear hcl75 hcc75 hfr75 hM75 hoki75 hH75)|((with_reducible refine gate_store (t:=58) (p:=53) rfl ?_);refine store_event (t:=58) (p:=53) (v:=?vo_w76) (w1:=(((w72.setCell ⟨go61,(t245:Int).toNat * 3,none⟩ (.int .i64 2)).setCell ⟨go61,(t245:Int).toNat * 3+1,none⟩ (.int .i64 0)).setCell ⟨go61,(t245:Int).toNat * 3+2,none⟩ (.slice Ao74 y265.length co74))) ?hg ?ho ?hn ?hr ?_;(case ho=>rfl);(case hg=>rfl);(case hn=>rfl);(case hr=>go_simp <;> rfl);intro w76 hw;have hg:w72.grownBy w76 (some go61):=(by rw [hw];exact HP75.2);have hp_:Kd.S k58 58 w76 w.heap.size (fun _=>True) (.slice (some ⟨go61,0,none⟩) t239.length co65) y268:=(by rw [hw,Ny268.out];exact HP75.1);clear HP75;have n0_:=As_ (IsS74.grown (zi74_2 HI0.out NB0_238.out NB0_244.out) hg (IsS74.own_neS HI0.out HO241.out (by decide)));have n1_:=As_ (blk_grown (g:=gb238) (o:=.cells #[.slice none 0 0,.int .i64 0] 25 (0,0)) (zk_ BK238.out) hg (Kd.S_ne HO241.out BK238.out (by decide)));have n2_:=As_ (hp_);have n3_:=As_ (blk_grown (g:=gb244) (o:=.cells #[.slice (some ⟨go61,0,none⟩) t239.length co65,.int .i64 t242] 25 (0,0)) (zk_ BK244.out) hg (Kd.S_ne HO241.out BK244.out (by decide)));have n4_:=As_ ((by rw [hw];exact bwS (bwS (bwS (HB.out) (Nat.le_trans HL.out GB61.out)) (Nat.le_trans HL.out GB61.out)) (Nat.le_trans HL.out GB61.out):Below w0.heap.size w0 w76));have n5_:=As_ (KeepBut.trans (zkp2 HK.out GW238.out GW244.out) (KeepBut.of_grown hg g) (Kd.S_base2 HO241.out));clear HI0 BK238 HO241 BK244 HB HK HO267;revert n0_ n1_ n2_ n3_ n4_ n5_;intro HI0 BK238 HO241 BK244 HB HK;clear hg hw hp_;obtain ⟨hcz77_0,hcz77_1,hfz77_0,hfz77_1⟩:=bk2 BK244.out;have hnb78:=NB238_0.out;have hnc78:=NB0_238.out;obtain ⟨hcz79_0,hcz79_1,hfz79_0,hfz79_1⟩:=bk2 BK238.out))
    refine bodyPost_ret (results_cell_row rfl _ _ gb238 25 #[.slice (some ⟨go61,0,none⟩) t239.length co65,.int .i64 t242] (0,0) _ rfl (by (with_reducible repeat first|apply bkN|apply bkD|apply bkA);refine blk_put (cs:=#[.slice (some ⟨go61,0,none⟩) t239.length co65,.int .i64 0]) ?_ 1 _ rfl;(with_reducible repeat first|apply bkN|apply bkD|apply bkA);refine blk_put (cs:=#[.slice none 0 0,.int .i64 0]) ?_ 0 _ rfl;(with_reducible repeat first|apply bkN|apply bkD|apply bkA);exact BK238.out) Try.underlying25 rfl (by kernel_rfl)) rfl ?_
    exact ⟨_,zE_,by (with_reducible repeat (first|apply Kd.S_alloc|apply Kd.S_drewN|apply Kd.S_drew));exact Kd.S_mono (Kd.S_far (p:=⟨gb238,1,none⟩) (Kd.S_far (p:=⟨gb238,0,none⟩) (Kd.S_types HO241.out BK238.out (by decide)) (fun _ hk=>hk.2) (.slice (some ⟨go61,0,none⟩) t239.length co65)) (fun _ hk=>hk.2) (.int .i64 t242)) (fun _ hk=>trivial),zi74_2 HI0.out NB0_238.out NB0_244.out,zb3 HB.out (IsS74.ge HI0.out) GE238.out GE244.out,zkp2 HK.out GW238.out GW244.out⟩
   rw [if_neg c58] at H
   have c58b0:(t247 == 2)=false:=beq_eq_false_iff_ne.mpr c58
   have c58b1:(t247 != 2)=true:=bne_iff_ne.mpr c58
   by_cases c80:t247=3
   rotate_left
   ·rw [if_neg c80] at H
    have c80b0:(t247 == 3)=false:=beq_eq_false_iff_ne.mpr c80
    have c80b1:(t247 != 3)=true:=bne_iff_ne.mpr c80
    simp only [Option.some.injEq,Prod.mk.injEq] at H
    obtain ⟨rfl,rfl,rfl⟩:=H
    go_enter Try.func52,Try.ntmps52
    go_wp2_with (first|((with_reducible refine gate_dst (N:=2) rfl ?_);refine box_event ?hg (N:=2) ?hd (cs:=#[.slice none 0 0,.int .i64 0]) (t:=25) ?hr ?_;(case hd=>rfl);(case hg=>rfl);(case hr=>go_simp <;> rfl);intro gb238 hg w99 hbox hb;have n0_:=As_ (IsS74.below (zi74_0 HI0.out) hb);have n1_:=As_ (KeepBut.trans (zkp0 HK.out) (KeepBut.of_below hb g none) (.inl rfl));have n2_:=As_ (bwT (zb1 HB.out (IsS74.ge HI0.out)) hb);have n3_:=As_ (hbox);have n4_:=As_ ((by rw [hg];exact (keep_size (w:=w) (g:=g) (row:=none) (zkp0 HK.out)):w.heap.size≤gb238));have n5_:=As_ ((Nat.le_trans HW0.out (by rw [hg];exact (keep_size (w:=w) (g:=g) (row:=none) (zkp0 HK.out)):w.heap.size≤gb238):w0.heap.size≤gb238));have n6_:=As_ ((by rw [hg];exact Nat.ne_of_lt (IsS74.lt (show IsS74 w0 _ g s0_0 s0_1 from zi74_0 HI0.out)):g≠gb238));have n7_:=As_ ((by rw [hg];exact Nat.ne_of_gt (IsS74.lt (show IsS74 w0 _ g s0_0 s0_1 from zi74_0 HI0.out)):gb238≠g));clear HI0 HK HB;revert n0_ n1_ n2_ n3_ n4_ n5_ n6_ n7_;intro HI0 HK HB BK238 GW238 GE238 NB0_238 NB238_0;clear hb hbox hg)|((with_reducible refine gate_callee (f:=86) rfl ?_);refine goesL_ (some 6) rfl rfl Try.func86 (by kernel_rfl) rfl #[.pointer (some ⟨g,0,none⟩)] rfl zM_ ?_;(with_reducible refine (spec_someGraph.calls k g s0_0 s0_1 t239 t242 t243 w0 _ ?side1 ?side2 A2.out).mono ?_);(case side1=>exact zi74_1 HI0.out NB0_238.out);(case side2=>exact zb2 HB.out (IsS74.ge HI0.out) GE238.out);rintro e w100 ⟨v240,rfl,ho0,hi,hb,hk⟩;refine ⟨_,rfl,?_⟩;have n0_:=As_ (KeepBut.blk hk (g':=gb238) (o:=.cells #[.slice none 0 0,.int .i64 0] 25 (0,0)) (zk_ BK238.out) NB238_0.out (by simp));have n1_:=As_ (Kd.S_lower ho0 (keep_size (w:=w) (g:=g) (row:=none) (zkp1 HK.out GW238.out)));have n2_:=As_ (KeepBut.trans (zkp1 HK.out GW238.out) hk (.inl rfl));have n3_:=As_ (hb);have n4_:=As_ (hi);clear BK238 HK HB HI0;revert n0_ n1_ n2_ n3_ n4_;intro BK238 HO241 HK HB HI0)|((with_reducible refine gate_dst (N:=3) rfl ?_);refine box_event ?hg (N:=3) ?hd (cs:=#[.slice none 0 0,.int .i64 0]) (t:=25) ?hr ?_;(case hd=>rfl);(case hg=>rfl);(case hr=>go_simp <;> rfl);intro gb244 hg w101 hbox hb;have n0_:=As_ (Kd.S_below (zS_ HO241.out) hb);have n1_:=As_ (IsS74.below (zi74_1 HI0.out NB0_238.out) hb);have n2_:=As_ (zkb BK238.out hb);have n3_:=As_ (KeepBut.trans (zkp1 HK.out GW238.out) (KeepBut.of_below hb g none) (.inl rfl));have n4_:=As_ (bwT (zb2 HB.out (IsS74.ge HI0.out) GE238.out) hb);have n5_:=As_ (hbox);have n6_:=As_ ((by rw [hg];exact (keep_size (w:=w) (g:=g) (row:=none) (zkp1 HK.out GW238.out)):w.heap.size≤gb244));have n7_:=As_ ((Nat.le_trans HW0.out (by rw [hg];exact (keep_size (w:=w) (g:=g) (row:=none) (zkp1 HK.out GW238.out)):w.heap.size≤gb244):w0.heap.size≤gb244));have n8_:=As_ ((by rw [hg];exact Nat.ne_of_lt (zkl BK238.out):gb238≠gb244));have n9_:=As_ ((by rw [hg];exact Nat.ne_of_gt (zkl BK238.out):gb244≠gb238));have n10_:=As_ ((by rw [hg];exact Nat.ne_of_lt (IsS74.lt (show IsS74 w0 _ g s0_0 t243 from zi74_1 HI0.out NB0_238.out)):g≠gb244));have n11_:=As_ ((by rw [hg];exact Nat.ne_of_gt (IsS74.lt (show IsS74 w0 _ g s0_0 t243 from zi74_1 HI0.out NB0_238.out)):gb244≠g));clear HO241 HI0 BK238 HK HB;revert n0_ n1_ n2_ n3_ n4_ n5_ n6_ n7_ n8_ n9_ n10_ n11_;intro HO241 HI0 BK238 HK HB BK244 GW244 GE244 NB238_244 NB244_238 NB0_244 NB244_0;clear hb hbox hg;obtain ⟨Ao102,co102,eo102⟩:=Kd.S_slice HO241.out;subst eo102;have hnb103:=NB244_238.out;have hnc103:=NB238_244.out;have hnb104:=NB244_0.out;have hnc104:=NB0_244.out;obtain ⟨hcz105_0,hcz105_1,hfz105_0,hfz105_1⟩:=bk2 BK244.out)|((with_reducible refine gate_callee (f:=65) rfl ?_);refine goesL_ (some 11) rfl rfl Try.func65 (by kernel_rfl) rfl #[.pointer (some ⟨g,0,none⟩),.int .i64 (t239.length:Int)] rfl zM_ ?_;(with_reducible refine (spec_reader_pick.calls k g s0_0 t243 (t239.length:Int) t245 t246 w0 _ ?side1 ?side2 A3.out).mono ?_);(case side1=>exact zi74_2 HI0.out NB0_238.out NB0_244.out);(case side2=>exact zb3 HB.out (IsS74.ge HI0.out) GE238.out GE244.out);rintro e w106 ⟨rfl,hi,hb,hk⟩;refine ⟨_,rfl,?_⟩;have n0_:=As_ (KeepBut.blk hk (g':=gb238) (o:=.cells #[.slice none 0 0,.int .i64 0] 25 (0,0)) (by (with_reducible repeat first|apply bkN|apply bkD|apply bkA);refine blk_far ?_ NB238_244.out _;(with_reducible repeat first|apply bkN|apply bkD|apply bkA);refine blk_far ?_ NB238_244.out _;(with_reducible repeat first|apply bkN|apply bkD|apply bkA);exact BK238.out) NB238_0.out (by simp));have n1_:=As_ (Kd.S_mono (Kd.S_keep (IsS74.apartS (show IsS74 w0 _ g s0_0 t243 from zi74_2 HI0.out NB0_238.out NB0_244.out) (by (with_reducible repeat (first|apply Kd.S_alloc|apply Kd.S_drewN|apply Kd.S_drew));exact (Kd.S_mono (Kd.S_far (p:=⟨gb244,1,none⟩) (Kd.S_far (p:=⟨gb244,0,none⟩) (Kd.S_types HO241.out BK244.out (by decide)) (fun _ hk=>hk.2) (.slice Ao102 t239.length co102)) (fun _ hk=>hk.2) (.int .i64 t242)) (fun _ h_=>h_.1))) (by decide)) hk (fun _ h=>h.2)) (fun _ h=>h.1));have n2_:=As_ (KeepBut.blk hk (g':=gb244) (o:=.cells #[.slice Ao102 t239.length co102,.int .i64 t242] 25 (0,0)) (by (with_reducible repeat first|apply bkN|apply bkD|apply bkA);refine blk_put (cs:=#[.slice Ao102 t239.length co102,.int .i64 0]) ?_ 1 _ rfl;(with_reducible repeat first|apply bkN|apply bkD|apply bkA);refine blk_put (cs:=#[.slice none 0 0,.int .i64 0]) ?_ 0 _ rfl;(with_reducible repeat first|apply bkN|apply bkD|apply bkA);exact BK244.out) NB244_0.out (by simp));have n3_:=As_ (KeepBut.trans (zkp2 HK.out GW238.out GW244.out) hk (.inl rfl));have n4_:=As_ (hb);have n5_:=As_ (hi);clear BK238 HO241 BK244 HK HB HI0;revert n0_ n1_ n2_ n3_ n4_ n5_;intro BK238 HO241 BK244 HK HB HI0)|((with_reducible refine gate_callee (f:=65) rfl ?_);refine goesL_ (some 13) rfl rfl Try.func65 (by kernel_rfl) rfl #[.pointer (some ⟨g,0,none⟩),.int .i64 20] rfl zM_ ?_;(with_reducible refine (spec_reader_pick.calls k g s0_0 t246 20 t247 t248 w0 _ ?side1 ?side2 A4.out).mono ?_);(case side1=>exact zi74_2 HI0.out NB0_238.out NB0_244.out);(case side2=>exact zb3 HB.out (IsS74.ge HI0.out) GE238.out GE244.out);rintro e w107 ⟨rfl,hi,hb,hk⟩;refine ⟨_,rfl,?_⟩;have n0_:=As_ (KeepBut.blk hk (g':=gb238) (o:=.cells #[.slice none 0 0,.int .i64 0] 25 (0,0)) (zk_ BK238.out) NB238_0.out (by simp));have n1_:=As_ (Kd.S_mono (Kd.S_keep (IsS74.apartS (show IsS74 w0 _ g s0_0 t246 from zi74_2 HI0.out NB0_238.out NB0_244.out) (zS_ HO241.out) (by decide)) hk (fun _ h=>h.2)) (fun _ h=>h.1));have n2_:=As_ (KeepBut.blk hk (g':=gb244) (o:=.cells #[.slice Ao102 t239.length co102,.int .i64 t242] 25 (0,0)) (zk_ BK244.out) NB244_0.out (by simp));have n3_:=As_ (KeepBut.trans (zkp2 HK.out GW238.out GW244.out) hk (.inl rfl));have n4_:=As_ (hb);have n5_:=As_ (hi);clear BK238 HO241 BK244 HK HB HI0;revert n0_ n1_ n2_ n3_ n4_ n5_;intro BK238 HO241 BK244 HK HB HI0;obtain ⟨hcz108_0,hcz108_1,hfz108_0,hfz108_1⟩:=bk2 BK244.out;have hnb109:=NB238_0.out;have hnc109:=NB0_238.out;obtain ⟨hcz110_0,hcz110_1,hfz110_0,hfz110_1⟩:=bk2 BK238.out))
    refine bodyPost_ret (results_cell_row rfl _ _ gb238 25 #[.slice Ao102 t239.length co102,.int .i64 t242] (0,0) _ rfl (by (with_reducible repeat first|apply bkN|apply bkD|apply bkA);refine blk_put (cs:=#[.slice Ao102 t239.length co102,.int .i64 0]) ?_ 1 _ rfl;(with_reducible repeat first|apply bkN|apply bkD|apply bkA);refine blk_put (cs:=#[.slice none 0 0,.int .i64 0]) ?_ 0 _ rfl;(with_reducible repeat first|apply bkN|apply bkD|apply bkA);exact BK238.out) Try.underlying25 rfl (by kernel_rfl)) rfl ?_
    exact ⟨_,zE_,by (with_reducible repeat (first|apply Kd.S_alloc|apply Kd.S_drewN|apply Kd.S_drew));exact Kd.S_mono (Kd.S_far (p:=⟨gb238,1,none⟩) (Kd.S_far (p:=⟨gb238,0,none⟩) (Kd.S_types HO241.out BK238.out (by decide)) (fun _ hk=>hk.2) (.slice Ao102 t239.length co102)) (fun _ hk=>hk.2) (.int .i64 t242)) (fun _ hk=>trivial),zi74_2 HI0.out NB0_238.out NB0_244.out,zb3 HB.out (IsS74.ge HI0.out) GE238.out GE244.out,zkp2 HK.out GW238.out GW244.out⟩
   rw [if_pos c80] at H
   have c80b0:(t247 == 3)=true:=beq_iff_eq.mpr c80
   have c80b1:(t247 != 3)=false:=bne_eq_false_iff_eq.mpr c80
   clear c80
   obtain ⟨y269,hy269⟩:∃ y_:List Int,y_=(([(-1),(t239.length:Int)]:List Int)):=⟨_,rfl⟩
   replace H:((spec_reader_one.f k s0_0 t248 y269).bind fun bt272=>(some (t239,bt272.1,bt272.2)))=some (r1,r2,r3):=zH_ H hy269
   have Ny269:=As_ hy269
   clear hy269
   replace H:=obS H
   obtain ⟨⟨t272,t273⟩,A810,H⟩:=H
   replace H:(some (t239,t272,t273))=some (r1,r2,r3):=H
   have A81:=As_ A810
   clear A810
   simp only [Option.some.injEq,Prod.mk.injEq] at H
   obtain ⟨rfl,rfl,rfl⟩:=H
   go_enter Try.func52,Try.ntmps52
   go_wp2_with (first|((with_reducible refine gate_dst (N:=2) rfl ?_);refine box_event ?hg (N:=2) ?hd (cs:=#[.slice none 0 0,.int .i64 0]) (t:=25) ?hr ?_;(case hd=>rfl);(case hg=>rfl);(case hr=>go_simp <;> rfl);intro gb238 hg w82 hbox hb;have n0_:=As_ (IsS74.below (zi74_0 HI0.out) hb);have n1_:=As_ (KeepBut.trans (zkp0 HK.out) (KeepBut.of_below hb g none) (.inl rfl));have n2_:=As_ (bwT (zb1 HB.out (IsS74.ge HI0.out)) hb);have n3_:=As_ (hbox);have n4_:=As_ ((by rw [hg];exact (keep_size (w:=w) (g:=g) (row:=none) (zkp0 HK.out)):w.heap.size≤gb238));have n5_:=As_ ((Nat.le_trans HW0.out (by rw [hg];exact (keep_size (w:=w) (g:=g) (row:=none) (zkp0 HK.out)):w.heap.size≤gb238):w0.heap.size≤gb238));have n6_:=As_ ((by rw [hg];exact Nat.ne_of_lt (IsS74.lt (show IsS74 w0 _ g s0_0 s0_1 from zi74_0 HI0.out)):g≠gb238));have n7_:=As_ ((by rw [hg];exact Nat.ne_of_gt (IsS74.lt (show IsS74 w0 _ g s0_0 s0_1 from zi74_0 HI0.out)):gb238≠g));clear HI0 HK HB;revert n0_ n1_ n2_ n3_ n4_ n5_ n6_ n7_;intro HI0 HK HB BK238 GW238 GE238 NB0_238 NB238_0;clear hb hbox hg)|((with_reducible refine gate_callee (f:=86) rfl ?_);refine goesL_ (some 6) rfl rfl Try.func86 (by kernel_rfl) rfl #[.pointer (some ⟨g,0,none⟩)] rfl zM_ ?_;(with_reducible refine (spec_someGraph.calls k g s0_0 s0_1 t239 t242 t243 w0 _ ?side1 ?side2 A2.out).mono ?_);(case side1=>exact zi74_1 HI0.out NB0_238.out);(case side2=>exact zb2 HB.out (IsS74.ge HI0.out) GE238.out);rintro e w83 ⟨v240,rfl,ho0,hi,hb,hk⟩;refine ⟨_,rfl,?_⟩;have n0_:=As_ (KeepBut.blk hk (g':=gb238) (o:=.cells #[.slice none 0 0,.int .i64 0] 25 (0,0)) (zk_ BK238.out) NB238_0.out (by simp));have n1_:=As_ (Kd.S_lower ho0 (keep_size (w:=w) (g:=g) (row:=none) (zkp1 HK.out GW238.out)));have n2_:=As_ (KeepBut.trans (zkp1 HK.out GW238.out) hk (.inl rfl));have n3_:=As_ (hb);have n4_:=As_ (hi);clear BK238 HK HB HI0;revert n0_ n1_ n2_ n3_ n4_;intro BK238 HO241 HK HB HI0)|((with_reducible refine gate_dst (N:=3) rfl ?_);refine box_event ?hg (N:=3) ?hd (cs:=#[.slice none 0 0,.int .i64 0]) (t:=25) ?hr ?_;(case hd=>rfl);(case hg=>rfl);(case hr=>go_simp <;> rfl);intro gb244 hg w84 hbox hb;have n0_:=As_ (Kd.S_below (zS_ HO241.out) hb);have n1_:=As_ (IsS74.below (zi74_1 HI0.out NB0_238.out) hb);have n2_:=As_ (zkb BK238.out hb);have n3_:=As_ (KeepBut.trans (zkp1 HK.out GW238.out) (KeepBut.of_below hb g none) (.inl rfl));have n4_:=As_ (bwT (zb2 HB.out (IsS74.ge HI0.out) GE238.out) hb);have n5_:=As_ (hbox);have n6_:=As_ ((by rw [hg];exact (keep_size (w:=w) (g:=g) (row:=none) (zkp1 HK.out GW238.out)):w.heap.size≤gb244));have n7_:=As_ ((Nat.le_trans HW0.out (by rw [hg];exact (keep_size (w:=w) (g:=g) (row:=none) (zkp1 HK.out GW238.out)):w.heap.size≤gb244):w0.heap.size≤gb244));have n8_:=As_ ((by rw [hg];exact Nat.ne_of_lt (zkl BK238.out):gb238≠gb244));have n9_:=As_ ((by rw [hg];exact Nat.ne_of_gt (zkl BK238.out):gb244≠gb238));have n10_:=As_ ((by rw [hg];exact Nat.ne_of_lt (IsS74.lt (show IsS74 w0 _ g s0_0 t243 from zi74_1 HI0.out NB0_238.out)):g≠gb244));have n11_:=As_ ((by rw [hg];exact Nat.ne_of_gt (IsS74.lt (show IsS74 w0 _ g s0_0 t243 from zi74_1 HI0.out NB0_238.out)):gb244≠g));clear HO241 HI0 BK238 HK HB;revert n0_ n1_ n2_ n3_ n4_ n5_ n6_ n7_ n8_ n9_ n10_ n11_;intro HO241 HI0 BK238 HK HB BK244 GW244 GE244 NB238_244 NB244_238 NB0_244 NB244_0;clear hb hbox hg;obtain ⟨Ao85,co85,eo85⟩:=Kd.S_slice HO241.out;subst eo85;have hnb86:=NB244_238.out;have hnc86:=NB238_244.out;have hnb87:=NB244_0.out;have hnc87:=NB0_244.out;obtain ⟨hcz88_0,hcz88_1,hfz88_0,hfz88_1⟩:=bk2 BK244.out)|((with_reducible refine gate_callee (f:=65) rfl ?_);refine goesL_ (some 11) rfl rfl Try.func65 (by kernel_rfl) rfl #[.pointer (some ⟨g,0,none⟩),.int .i64 (t239.length:Int)] rfl zM_ ?_;(with_reducible refine (spec_reader_pick.calls k g s0_0 t243 (t239.length:Int) t245 t246 w0 _ ?side1 ?side2 A3.out).mono ?_);(case side1=>exact zi74_2 HI0.out NB0_238.out NB0_244.out);(case side2=>exact zb3 HB.out (IsS74.ge HI0.out) GE238.out GE244.out);rintro e w89 ⟨rfl,hi,hb,hk⟩;refine ⟨_,rfl,?_⟩;have n0_:=As_ (KeepBut.blk hk (g':=gb238) (o:=.cells #[.slice none 0 0,.int .i64 0] 25 (0,0)) (by (with_reducible repeat first|apply bkN|apply bkD|apply bkA);refine blk_far ?_ NB238_244.out _;(with_reducible repeat first|apply bkN|apply bkD|apply bkA);refine blk_far ?_ NB238_244.out _;(with_reducible repeat first|apply bkN|apply bkD|apply bkA);exact BK238.out) NB238_0.out (by simp));have n1_:=As_ (Kd.S_mono (Kd.S_keep (IsS74.apartS (show IsS74 w0 _ g s0_0 t243 from zi74_2 HI0.out NB0_238.out NB0_244.out) (by (with_reducible repeat (first|apply Kd.S_alloc|apply Kd.S_drewN|apply Kd.S_drew));exact (Kd.S_mono (Kd.S_far (p:=⟨gb244,1,none⟩) (Kd.S_far (p:=⟨gb244,0,none⟩) (Kd.S_types HO241.out BK244.out (by decide)) (fun _ hk=>hk.2) (.slice Ao85 t239.length co85)) (fun _ hk=>hk.2) (.int .i64 t242)) (fun _ h_=>h_.1))) (by decide)) hk (fun _ h=>h.2)) (fun _ h=>h.1));have n2_:=As_ (KeepBut.blk hk (g':=gb244) (o:=.cells #[.slice Ao85 t239.length co85,.int .i64 t242] 25 (0,0)) (by (with_reducible repeat first|apply bkN|apply bkD|apply bkA);refine blk_put (cs:=#[.slice Ao85 t239.length co85,.int .i64 0]) ?_ 1 _ rfl;(with_reducible repeat first|apply bkN|apply bkD|apply bkA);refine blk_put (cs:=#[.slice none 0 0,.int .i64 0]) ?_ 0 _ rfl;(with_reducible repeat first|apply bkN|apply bkD|apply bkA);exact BK244.out) NB244_0.out (by simp));have n3_:=As_ (KeepBut.trans (zkp2 HK.out GW238.out GW244.out) hk (.inl rfl));have n4_:=As_ (hb);have n5_:=As_ (hi);clear BK238 HO241 BK244 HK HB HI0;revert n0_ n1_ n2_ n3_ n4_ n5_;intro BK238 HO241 BK244 HK HB HI0)|((with_reducible refine gate_callee (f:=65) rfl ?_);refine goesL_ (some 13) rfl rfl Try.func65 (by kernel_rfl) rfl #[.pointer (some ⟨g,0,none⟩),.int .i64 20] rfl zM_ ?_;(with_reducible refine (spec_reader_pick.calls k g s0_0 t246 20 t247 t248 w0 _ ?side1 ?side2 A4.out).mono ?_);(case side1=>exact zi74_2 HI0.out NB0_238.out NB0_244.out);(case side2=>exact zb3 HB.out (IsS74.ge HI0.out) GE238.out GE244.out);rintro e w90 ⟨rfl,hi,hb,hk⟩;refine ⟨_,rfl,?_⟩;have n0_:=As_ (KeepBut.blk hk (g':=gb238) (o:=.cells #[.slice none 0 0,.int .i64 0] 25 (0,0)) (zk_ BK238.out) NB238_0.out (by simp));have n1_:=As_ (Kd.S_mono (Kd.S_keep (IsS74.apartS (show IsS74 w0 _ g s0_0 t246 from zi74_2 HI0.out NB0_238.out NB0_244.out) (zS_ HO241.out) (by decide)) hk (fun _ h=>h.2)) (fun _ h=>h.1));have n2_:=As_ (KeepBut.blk hk (g':=gb244) (o:=.cells #[.slice Ao85 t239.length co85,.int .i64 t242] 25 (0,0)) (zk_ BK244.out) NB244_0.out (by simp));have n3_:=As_ (KeepBut.trans (zkp2 HK.out GW238.out GW244.out) hk (.inl rfl));have n4_:=As_ (hb);have n5_:=As_ (hi);clear BK238 HO241 BK244 HK HB HI0;revert n0_ n1_ n2_ n3_ n4_ n5_;intro BK238 HO241 BK244 HK HB HI0;obtain ⟨hcz91_0,hcz91_1,hfz91_0,hfz91_1⟩:=bk2 BK244.out)|((with_reducible refine gate_dst (N:=60) rfl ?_);refine Kd.R_lit (Kd.int .i64) _ 3 ?hg (N:=60) ?hd (xs:=([(-1),(t239.length:Int)]:List Int)) (inner:=[.int .i64 (-1),.int .i64 (t239.length:Int)]) (ok:=fun _=>True) (okp:=fun _=>True) ?hr ?hp (fun _ hk=>hk) trivial (Below.refl _ _) (Nat.le_refl _) (by simp) ?_;(case hd=>rfl);(case hg=>rfl);(case hr=>go_simp <;> rfl);(case hp=>exact (Reps.one (show Kd.M (Kd.int .i64) _ _ _ (-1) [.int .i64 (-1)] from rfl) (Reps.one (show Kd.M (Kd.int .i64) _ _ _ (t239.length:Int) [.int .i64 (t239.length:Int)] from rfl) (Reps.none _ _))));intro v270 w92 ho93 hb hg_ hnew_;clear hg_ hnew_;(first|rw [← Ny269.out] at ho93|(simp only [Int.reduceToNat] at ho93;rw [← Ny269.out] at ho93));have n0_:=As_ (Kd.S_elder' (zS_ HO241.out) (Kd.R_base ho93) hb);have n1_:=As_ (Kd.R_lower ho93 (keep_size (w:=w) (g:=g) (row:=none) (zkp2 HK.out GW238.out GW244.out)));have n2_:=As_ (IsS74.below (zi74_2 HI0.out NB0_238.out NB0_244.out) hb);have n3_:=As_ (zkb BK238.out hb);have n4_:=As_ (zkb BK244.out hb);have n5_:=As_ (KeepBut.trans (zkp2 HK.out GW238.out GW244.out) (KeepBut.of_below hb g none) (.inl rfl));have n6_:=As_ (bwT (zb3 HB.out (IsS74.ge HI0.out) GE238.out GE244.out) hb);clear HO241 HI0 BK238 BK244 HK HB;revert n0_ n1_ n2_ n3_ n4_ n5_ n6_;intro HO241 HO271 HI0 BK238 BK244 HK HB;clear hb ho93;obtain ⟨Ao94,co94,eo94⟩:=Kd.R_slice HO271.out;subst eo94)|((with_reducible refine gate_callee (f:=67) rfl ?_);refine goesL_ (some 61) rfl rfl Try.func67 (by kernel_rfl) rfl #[.pointer (some ⟨g,0,none⟩),.slice Ao94 y269.length co94] rfl zM_ ?_;(with_reducible refine (spec_reader_one.calls k g s0_0 t248 _ _ y269 t272 t273 w0 _ ?side1 ?side2 ?side3 ?side4 ?side5 A81.out).mono ?_);(case side1=>exact zi74_2 HI0.out NB0_238.out NB0_244.out);(case side2=>exact zb3 HB.out (IsS74.ge HI0.out) GE238.out GE244.out);(case side3=>exact zC_ (Kd.R_reads' HO271.out).2.2);(case side4=>exact (Kd.R_reads' HO271.out).2.1);(case side5=>exact far_slice (IsS74.own_ne HI0.out HO271.out (by decide)));rintro e w95 ⟨rfl,hi,hb,hk⟩;refine ⟨_,rfl,?_⟩;have n0_:=As_ (KeepBut.blk hk (g':=gb238) (o:=.cells #[.slice none 0 0,.int .i64 0] 25 (0,0)) (zk_ BK238.out) NB238_0.out (by simp));have n1_:=As_ (Kd.S_mono (Kd.S_keep (IsS74.apartS (show IsS74 w0 _ g s0_0 t248 from zi74_2 HI0.out NB0_238.out NB0_244.out) (zS_ HO241.out) (by decide)) hk (fun _ h=>h.2)) (fun _ h=>h.1));have n2_:=As_ (KeepBut.blk hk (g':=gb244) (o:=.cells #[.slice Ao85 t239.length co85,.int .i64 t242] 25 (0,0)) (zk_ BK244.out) NB244_0.out (by simp));have n3_:=As_ (Kd.R_mono (Kd.R_keep (IsS74.apart (show IsS74 w0 _ g s0_0 t248 from zi74_2 HI0.out NB0_238.out NB0_244.out) (zR_ HO271.out) (by decide)) hk (fun _ h=>h.2)) (fun _ h=>h.1));have n4_:=As_ (KeepBut.trans (zkp2 HK.out GW238.out GW244.out) hk (.inl rfl));have n5_:=As_ (hb);have n6_:=As_ (hi);clear BK238 HO241 BK244 HO271 HK HB HI0;revert n0_ n1_ n2_ n3_ n4_ n5_ n6_;intro BK238 HO241 BK244 HO271 HK HB HI0;obtain ⟨hcz96_0,hcz96_1,hfz96_0,hfz96_1⟩:=bk2 BK244.out;have hnb97:=NB238_0.out;have hnc97:=NB0_238.out;obtain ⟨hcz98_0,hcz98_1,hfz98_0,hfz98_1⟩:=bk2 BK238.out))
   refine bodyPost_ret (results_cell_row rfl _ _ gb238 25 #[.slice Ao85 t239.length co85,.int .i64 t272] (0,0) _ rfl (by (with_reducible repeat first|apply bkN|apply bkD|apply bkA);refine blk_put (cs:=#[.slice Ao85 t239.length co85,.int .i64 0]) ?_ 1 _ rfl;(with_reducible repeat first|apply bkN|apply bkD|apply bkA);refine blk_put (cs:=#[.slice none 0 0,.int .i64 0]) ?_ 0 _ rfl;(with_reducible repeat first|apply bkN|apply bkD|apply bkA);refine blk_far ?_ NB238_244.out _;(with_reducible repeat first|apply bkN|apply bkD|apply bkA);exact BK238.out) Try.underlying25 rfl (by kernel_rfl)) rfl ?_
   exact ⟨_,zE_,by (with_reducible repeat (first|apply Kd.S_alloc|apply Kd.S_drewN|apply Kd.S_drew));exact Kd.S_mono (Kd.S_far (p:=⟨gb238,1,none⟩) (Kd.S_far (p:=⟨gb238,0,none⟩) (Kd.S_far (p:=⟨gb244,1,none⟩) (Kd.S_types (Kd.S_types HO241.out BK244.out (by decide)) BK238.out (by decide)) (fun _ hk=>hk.1.2) (.int .i64 t272)) (fun _ hk=>hk.2) (.slice Ao85 t239.length co85)) (fun _ hk=>hk.2) (.int .i64 t272)) (fun _ hk=>trivial),zi74_2 HI0.out NB0_238.out NB0_244.out,zb3 HB.out (IsS74.ge HI0.out) GE238.out GE244.out,zkp2 HK.out GW238.out GW244.out⟩
  rw [if_pos c34] at H
  have c34b0:(t247 == 1)=true:=beq_iff_eq.mpr c34
  have c34b1:(t247 != 1)=false:=bne_eq_false_iff_eq.mpr c34
  clear c34
  obtain ⟨y259,hy259⟩:∃ y_:List Int,y_=(([(-1),6,4]:List Int)):=⟨_,rfl⟩
  replace H:((spec_reader_one.f k s0_0 t248 y259).bind fun bt262=>(if 0≤t245 then (if t245<(t239.length:Int) then (some ((t239.set (t245:Int).toNat (⟨bt262.1,(rd_T58 t239 t245).f1,(rd_T58 t239 t245).f2⟩:S58)),t242,bt262.2)) else (none)) else (none)))=some (r1,r2,r3):=zH_ H hy259
  have Ny259:=As_ hy259
  clear hy259
  replace H:=obS H
  obtain ⟨⟨t262,t263⟩,A350,H⟩:=H
  replace H:(if 0≤t245 then (if t245<(t239.length:Int) then (some ((t239.set (t245:Int).toNat (⟨t262,(rd_T58 t239 t245).f1,(rd_T58 t239 t245).f2⟩:S58)),t242,t263)) else (none)) else (none))=some (r1,r2,r3):=H
  have A35:=As_ A350
  clear A350
  by_cases c36:0≤t245
  rotate_left
  ·rw [if_neg c36] at H
   exact absurd H (by simp)
  rw [if_pos c36] at H
  have c36b0:decide (0≤t245)=true:=deT c36
  clear c36
  by_cases c37:t245<(t239.length:Int)
  rotate_left
  ·rw [if_neg c37] at H
   exact absurd H (by simp)
  rw [if_pos c37] at H
  have c37b0:decide (t245<(t239.length:Int))=true:=deT c37
  clear c37
  obtain ⟨y264,hy264⟩:∃ y_:List (S58),y_=(t239.set (t245:Int).toNat (⟨t262,(rd_T58 t239 t245).f1,(rd_T58 t239 t245).f2⟩:S58)):=⟨_,rfl⟩
  replace H:(some (y264,t242,t263))=some (r1,r2,r3):=zH_ H hy264
  have Ny264:=As_ hy264
  clear hy264
  simp only [Option.some.injEq,Prod.mk.injEq] at H
  obtain ⟨rfl,rfl,rfl⟩:=H
  go_enter Try.func52,Try.ntmps52
  try go_wp2_with (first|((with_reducible refine gate_dst (N:=2) rfl ?_);refine box_event ?hg (N:=2) ?hd (cs:=#[.slice none 0 0,.int .i64 0]) (t:=25) ?hr ?_;(case hd=>rfl);(case hg=>rfl);(case hr=>go_simp <;> rfl);intro gb238 hg w39 hbox hb;have n0_:=As_ (IsS74.below (zi74_0 HI0.out) hb);have n1_:=As_ (KeepBut.trans (zkp0 HK.out) (KeepBut.of_below hb g none) (.inl rfl));have n2_:=As_ (bwT (zb1 HB.out (IsS74.ge HI0.out)) hb);have n3_:=As_ (hbox);have n4_:=As_ ((by rw [hg];exact (keep_size (w:=w) (g:=g) (row:=none) (zkp0 HK.out)):w.heap.size≤gb238));have n5_:=As_ ((Nat.le_trans HW0.out (by rw [hg];exact (keep_size (w:=w) (g:=g) (row:=none) (zkp0 HK.out)):w.heap.size≤gb238):w0.heap.size≤gb238));have n6_:=As_ ((by rw [hg];exact Nat.ne_of_lt (IsS74.lt (show IsS74 w0 _ g s0_0 s0_1 from zi74_0 HI0.out)):g≠gb238));have n7_:=As_ ((by rw [hg];exact Nat.ne_of_gt (IsS74.lt (show IsS74 w0 _ g s0_0 s0_1 from zi74_0 HI0.out)):gb238≠g));clear HI0 HK HB;revert n0_ n1_ n2_ n3_ n4_ n5_ n6_ n7_;intro HI0 HK HB BK238 GW238 GE238 NB0_238 NB238_0;clear hb hbox hg)|((with_reducible refine gate_callee (f:=86) rfl ?_);refine goesL_ (some 6) rfl rfl Try.func86 (by kernel_rfl) rfl #[.pointer (some ⟨g,0,none⟩)] rfl zM_ ?_;(with_reducible refine (spec_someGraph.calls k g s0_0 s0_1 t239 t242 t243 w0 _ ?side1 ?side2 A2.out).mono ?_);(case side1=>exact zi74_1 HI0.out NB0_238.out);(case side2=>exact zb2 HB.out (IsS74.ge HI0.out) GE238.out);rintro e w40 ⟨v240,rfl,ho0,hi,hb,hk⟩;refine ⟨_,rfl,?_⟩;have n0_:=As_ (KeepBut.blk hk (g':=gb238) (o:=.cells #[.slice none 0 0,.int .i64 0] 25 (0,0)) (zk_ BK238.out) NB238_0.out (by simp));have n1_:=As_ (Kd.S_lower ho0 (keep_size (w:=w) (g:=g) (row:=none) (zkp1 HK.out GW238.out)));have n2_:=As_ (KeepBut.trans (zkp1 HK.out GW238.out) hk (.inl rfl));have n3_:=As_ (hb);have n4_:=As_ (hi);clear BK238 HK HB HI0;revert n0_ n1_ n2_ n3_ n4_;intro BK238 HO241 HK HB HI0)|((with_reducible refine gate_dst (N:=3) rfl ?_);refine box_event ?hg (N:=3) ?hd (cs:=#[.slice none 0 0,.int .i64 0]) (t:=25) ?hr ?_;(case hd=>rfl);(case hg=>rfl);(case hr=>go_simp <;> rfl);intro gb244 hg w41 hbox hb;have n0_:=As_ (Kd.S_below (zS_ HO241.out) hb);have n1_:=As_ (IsS74.below (zi74_1 HI0.out NB0_238.out) hb);have n2_:=As_ (zkb BK238.out hb);have n3_:=As_ (KeepBut.trans (zkp1 HK.out GW238.out) (KeepBut.of_below hb g none) (.inl rfl));have n4_:=As_ (bwT (zb2 HB.out (IsS74.ge HI0.out) GE238.out) hb);have n5_:=As_ (hbox);have n6_:=As_ ((by rw [hg];exact (keep_size (w:=w) (g:=g) (row:=none) (zkp1 HK.out GW238.out)):w.heap.size≤gb244));have n7_:=As_ ((Nat.le_trans HW0.out (by rw [hg];exact (keep_size (w:=w) (g:=g) (row:=none) (zkp1 HK.out GW238.out)):w.heap.size≤gb244):w0.heap.size≤gb244));have n8_:=As_ ((by rw [hg];exact Nat.ne_of_lt (zkl BK238.out):gb238≠gb244));have n9_:=As_ ((by rw [hg];exact Nat.ne_of_gt (zkl BK238.out):gb244≠gb238));have n10_:=As_ ((by rw [hg];exact Nat.ne_of_lt (IsS74.lt (show IsS74 w0 _ g s0_0 t243 from zi74_1 HI0.out NB0_238.out)):g≠gb244));have n11_:=As_ ((by rw [hg];exact Nat.ne_of_gt (IsS74.lt (show IsS74 w0 _ g s0_0 t243 from zi74_1 HI0.out NB0_238.out)):gb244≠g));clear HO241 HI0 BK238 HK HB;revert n0_ n1_ n2_ n3_ n4_ n5_ n6_ n7_ n8_ n9_ n10_ n11_;intro HO241 HI0 BK238 HK HB BK244 GW244 GE244 NB238_244 NB244_238 NB0_244 NB244_0;clear hb hbox hg;obtain ⟨Ao42,co42,eo42⟩:=Kd.S_slice HO241.out;subst eo42;have hnb43:=NB244_238.out;have hnc43:=NB238_244.out;have hnb44:=NB244_0.out;have hnc44:=NB0_244.out;obtain ⟨hcz45_0,hcz45_1,hfz45_0,hfz45_1⟩:=bk2 BK244.out)|((with_reducible refine gate_callee (f:=65) rfl ?_);refine goesL_ (some 11) rfl rfl Try.func65 (by kernel_rfl) rfl #[.pointer (some ⟨g,0,none⟩),.int .i64 (t239.length:Int)] rfl zM_ ?_;(with_reducible refine (spec_reader_pick.calls k g s0_0 t243 (t239.length:Int) t245 t246 w0 _ ?side1 ?side2 A3.out).mono ?_);(case side1=>exact zi74_2 HI0.out NB0_238.out NB0_244.out);(case side2=>exact zb3 HB.out (IsS74.ge HI0.out) GE238.out GE244.out);rintro e w46 ⟨rfl,hi,hb,hk⟩;refine ⟨_,rfl,?_⟩;have n0_:=As_ (KeepBut.blk hk (g':=gb238) (o:=.cells #[.slice none 0 0,.int .i64 0] 25 (0,0)) (by (with_reducible repeat first|apply bkN|apply bkD|apply bkA);refine blk_far ?_ NB238_244.out _;(with_reducible repeat first|apply bkN|apply bkD|apply bkA);refine blk_far ?_ NB238_244.out _;(with_reducible repeat first|apply bkN|apply bkD|apply bkA);exact BK238.out) NB238_0.out (by simp));have n1_:=As_ (Kd.S_mono (Kd.S_keep (IsS74.apartS (show IsS74 w0 _ g s0_0 t243 from zi74_2 HI0.out NB0_238.out NB0_244.out) (by (with_reducible repeat (first|apply Kd.S_alloc|apply Kd.S_drewN|apply Kd.S_drew));exact (Kd.S_mono (Kd.S_far (p:=⟨gb244,1,none⟩) (Kd.S_far (p:=⟨gb244,0,none⟩) (Kd.S_types HO241.out BK244.out (by decide)) (fun _ hk=>hk.2) (.slice Ao42 t239.length co42)) (fun _ hk=>hk.2) (.int .i64 t242)) (fun _ h_=>h_.1))) (by decide)) hk (fun _ h=>h.2)) (fun _ h=>h.1));have n2_:=As_ (KeepBut.blk hk (g':=gb244) (o:=.cells #[.slice Ao42 t239.length co42,.int .i64 t242] 25 (0,0)) (by (with_reducible repeat first|apply bkN|apply bkD|apply bkA);refine blk_put (cs:=#[.slice Ao42 t239.length co42,.int .i64 0]) ?_ 1 _ rfl;(with_reducible repeat first|apply bkN|apply bkD|apply bkA);refine blk_put (cs:=#[.slice none 0 0,.int .i64 0]) ?_ 0 _ rfl;(with_reducible repeat first|apply bkN|apply bkD|apply bkA);exact BK244.out) NB244_0.out (by simp));have n3_:=As_ (KeepBut.trans (zkp2 HK.out GW238.out GW244.out) hk (.inl rfl));have n4_:=As_ (hb);have n5_:=As_ (hi);clear BK238 HO241 BK244 HK HB HI0;revert n0_ n1_ n2_ n3_ n4_ n5_;intro BK238 HO241 BK244 HK HB HI0)|((with_reducible refine gate_callee (f:=65) rfl ?_);refine goesL_ (some 13) rfl rfl Try.func65 (by kernel_rfl) rfl #[.pointer (some ⟨g,0,none⟩),.int .i64 20] rfl zM_ ?_;(with_reducible refine (spec_reader_pick.calls k g s0_0 t246 20 t247 t248 w0 _ ?side1 ?side2 A4.out).mono ?_);(case side1=>exact zi74_2 HI0.out NB0_238.out NB0_244.out);(case side2=>exact zb3 HB.out (IsS74.ge HI0.out) GE238.out GE244.out);rintro e w47 ⟨rfl,hi,hb,hk⟩;refine ⟨_,rfl,?_⟩;have n0_:=As_ (KeepBut.blk hk (g':=gb238) (o:=.cells #[.slice none 0 0,.int .i64 0] 25 (0,0)) (zk_ BK238.out) NB238_0.out (by simp));have n1_:=As_ (Kd.S_mono (Kd.S_keep (IsS74.apartS (show IsS74 w0 _ g s0_0 t246 from zi74_2 HI0.out NB0_238.out NB0_244.out) (zS_ HO241.out) (by decide)) hk (fun _ h=>h.2)) (fun _ h=>h.1));have n2_:=As_ (KeepBut.blk hk (g':=gb244) (o:=.cells #[.slice Ao42 t239.length co42,.int .i64 t242] 25 (0,0)) (zk_ BK244.out) NB244_0.out (by simp));have n3_:=As_ (KeepBut.trans (zkp2 HK.out GW238.out GW244.out) hk (.inl rfl));have n4_:=As_ (hb);have n5_:=As_ (hi);clear BK238 HO241 BK244 HK HB HI0;revert n0_ n1_ n2_ n3_ n4_ n5_;intro BK238 HO241 BK244 HK HB HI0))
  have n0_:=As_ (Kd.S_drew HO241.out)
  have n1_:=As_ (bkD BK238.out)
  have n2_:=As_ (bkD BK244.out)
  have n3_:=As_ (IsS74.drew HI0.out)
  have n4_:=As_ (keep_drew HK.out)
  have n5_:=As_ (bwD HB.out)
  clear HO241 BK238 BK244 HI0 HK HB
  revert n0_ n1_ n2_ n3_ n4_ n5_;intro HO241 BK238 BK244 HI0 HK HB
  refine start_ (n:=9) (S:=fun w'=>w'.cell? ⟨gb244,0,none⟩=some (.slice Ao42 t239.length co42)∧w'.cell? ⟨gb244,1,none⟩=some (.int .i64 t242)) (ds:=[8]) (bl_ 0 9) (by kernel_rfl) rfl rfl ⟨(bkC BK244.out 0).trans rfl,(bkC BK244.out 1).trans rfl⟩ (fun hHeld=>?_);refine with_tabW spec_anyGraph.tab7 spec_anyGraph.bits7 (fun HT_ HW_=>?_)
  generalize w47.drew=w48 at HO241 BK238 BK244 HI0 HK HB hHeld ⊢
  refine pQ 0 37 (bl_ 1 9) HT_ rfl ?_
  refine pQ 2 39 (bl_ 5 9) HT_ rfl ?_
  refine pQ 3 40 (bl_ 13 9) HT_ rfl ?_
  refine tP 1 38 (bl_ 15 9) ?_ HT_ HW_ rfl (.inl ⟨by rfl,?_⟩) hHeld ?_ ?_ ?_;rotate_left;(rintro w' ⟨s0,s1⟩;go_simp;with_reducible rfl);rotate_left;(simp only [Act.put,sq_];rfl)
  refine one_ (i:=4) (N:=some 41) (bl_ 31 9) rfl rfl (one_of HT_.out (by kernel_rfl)) (by decide) (fun K hK=>?_)
  refine Kd.R_lit_step (Kd.int .i64) _ 3 ?hg (N:=41) ?hd (xs:=([(-1),6,4]:List Int)) (inner:=[.int .i64 (-1),.int .i64 6,.int .i64 4]) (ok:=fun _=>True) (okp:=fun _=>True) ?hr ?hp (fun _ hk=>hk) trivial (Below.refl _ _) (Nat.le_refl _) (by simp) ?_;(case hd=>rfl);(case hg=>rfl);(case hr=>go_simp <;> rfl);(case hp=>exact (Reps.one (show Kd.M (Kd.int .i64) _ _ _ (-1) [.int .i64 (-1)] from rfl) (Reps.one (show Kd.M (Kd.int .i64) _ _ _ 6 [.int .i64 6] from rfl) (Reps.one (show Kd.M (Kd.int .i64) _ _ _ 4 [.int .i64 4] from rfl) (Reps.none _ _)))))
  intro v260 w49 ho50 hb hg_ hnew_
  clear hg_ hnew_
  (first|rw [← Ny259.out] at ho50|(simp only [Int.reduceToNat] at ho50;rw [← Ny259.out] at ho50))
  have n0_:=As_ (Kd.S_elder' (zS_ HO241.out) (Kd.R_base ho50) hb)
  have n1_:=As_ (Kd.R_lower ho50 (keep_size (w:=w) (g:=g) (row:=none) (zkp2 HK.out GW238.out GW244.out)))
  have n2_:=As_ (IsS74.below (zi74_2 HI0.out NB0_238.out NB0_244.out) hb)
  have n3_:=As_ (zkb BK238.out hb)
  have n4_:=As_ (zkb BK244.out hb)
  have n5_:=As_ (KeepBut.trans (zkp2 HK.out GW238.out GW244.out) (KeepBut.of_below hb g none) (.inl rfl))
  have n6_:=As_ (bwT (zb3 HB.out (IsS74.ge HI0.out) GE238.out GE244.out) hb)
  clear HO241 HI0 BK238 BK244 HK HB
  revert n0_ n1_ n2_ n3_ n4_ n5_ n6_;intro HO241 HO261 HI0 BK238 BK244 HK HB
  clear hb ho50
  obtain ⟨Ao51,co51,eo51⟩:=Kd.R_slice HO261.out
  (first|subst eo51|(injection eo51 with f1_ f2_ f3_;have f4_:=f1_.symm;have f5_:=f3_.symm;clear f1_ f2_ f3_;subst f4_;subst f5_))
  refine hK.out _ _ ⟨(bkC BK244.out 0).trans rfl,(bkC BK244.out 1).trans rfl⟩ (fun hHeld=>?_)
  clear hK K
  refine norm_ (a':=?_) ?_ ?_
  rotate_left
  ·show Act.put _ (some 41) _=_
   simp only [Act.put,sq_]
   rfl
  refine one_ (i:=5) (N:=some 42) (bl_ 63 9) rfl rfl (one_of HT_.out (by kernel_rfl)) (by decide) (fun K hK=>?_)
  refine goes_ Try.func67 (by kernel_rfl) rfl #[.pointer (some ⟨g,0,none⟩),.slice Ao51 y259.length co51] (by rfl) rfl rfl zM_ ?_
  with_reducible refine (spec_reader_one.calls k g s0_0 t248 _ _ y259 t262 t263 w0 _ ?side1 ?side2 ?side3 ?side4 ?side5 A35.out).mono ?_
  (case side1=>exact zi74_2 HI0.out NB0_238.out NB0_244.out)
  (case side2=>exact zb3 HB.out (IsS74.ge HI0.out) GE238.out GE244.out)
  (case side3=>exact zC_ (Kd.R_reads' HO261.out).2.2)
  (case side4=>exact (Kd.R_reads' HO261.out).2.1)
  (case side5=>exact far_slice (IsS74.own_ne HI0.out HO261.out (by decide)))
  rintro e w52 ⟨rfl,hi,hb,hk⟩
  refine ⟨_,rfl,?_⟩
  have n0_:=As_ (KeepBut.blk hk (g':=gb238) (o:=.cells #[.slice none 0 0,.int .i64 0] 25 (0,0)) (zk_ BK238.out) NB238_0.out (by simp))
  have n1_:=As_ (Kd.S_mono (Kd.S_keep (IsS74.apartS (show IsS74 w0 _ g s0_0 t248 from zi74_2 HI0.out NB0_238.out NB0_244.out) (zS_ HO241.out) (by decide)) hk (fun _ h=>h.2)) (fun _ h=>h.1))
  have n2_:=As_ (KeepBut.blk hk (g':=gb244) (o:=.cells #[.slice Ao42 t239.length co42,.int .i64 t242] 25 (0,0)) (zk_ BK244.out) NB244_0.out (by simp))
  have n3_:=As_ (Kd.R_mono (Kd.R_keep (IsS74.apart (show IsS74 w0 _ g s0_0 t248 from zi74_2 HI0.out NB0_238.out NB0_244.out) (zR_ HO261.out) (by decide)) hk (fun _ h=>h.2)) (fun _ h=>h.1))
  have n4_:=As_ (KeepBut.trans (zkp2 HK.out GW238.out GW244.out) hk (.inl rfl))
  have n5_:=As_ (hb)
  have n6_:=As_ (hi)
  clear BK238 HO241 BK244 HO261 HK HB HI0
  revert n0_ n1_ n2_ n3_ n4_ n5_ n6_;intro BK238 HO241 BK244 HO261 HK HB HI0
  have p38:0≤(t245:Int):=odT zA_
  have q38:(t245:Int)<((t239.length:Int):Int):=odT zA_
  obtain ⟨go38,co38,eo38,gb38,gl38,cl38,HG38⟩:=Kd.S_form HO241.out (by omega)
  (first|cases eo38|(injection eo38 with ea_ en_ ec_;(first|subst ea_|(injection ea_ with ea_;subst ea_));subst ec_;clear en_))
  have GB38:=As_ gb38
  have GG38:=As_ HG38
  clear gb38 gl38 HG38
  obtain ⟨_,ce38,hcl38,hM38,hcc38,hfr38,_,_⟩:=Kd.S_elem HO241.out z58 (t245:Int) p38 q38
  obtain ⟨ve38_2,rfl,ge38_2⟩:=k58_openM hM38
  have hx38_0:World.cell? _ ⟨go38,(t245:Int).toNat * 3,none⟩=some (.int .i64 ((rd_T58 t239 t245).f0)):=hcc38 0 _ rfl
  have hx38_1:World.cell? _ ⟨go38,(t245:Int).toNat * 3+1,none⟩=some (.int .i64 ((rd_T58 t239 t245).f1)):=hcc38 1 _ rfl
  have hx38_2:World.cell? _ ⟨go38,(t245:Int).toNat * 3+2,none⟩=some (ve38_2):=hcc38 2 _ rfl
  have hf38_0:World.frozen? _ ⟨go38,(t245:Int).toNat * 3,none⟩=false:=hfr38 0
  have hf38_1:World.frozen? _ ⟨go38,(t245:Int).toNat * 3+1,none⟩=false:=hfr38 1
  have hf38_2:World.frozen? _ ⟨go38,(t245:Int).toNat * 3+2,none⟩=false:=hfr38 2
  clear hcl38 hcc38 hfr38 hM38
  replace p38:=eq_true p38
  replace q38:=eq_true q38
  have HN0_go38:=As_ (show g≠go38 from by have h_:=IsS74.own_neS HI0.out HO241.out (by decide);intro e_;exact h_ (by rw [e_];rfl))
  have HX53:=As_ (show Kd.S k58 58 _ w.heap.size (fun k_=>((fun k_=>some k_≠(.slice Ao51 y259.length co51:Value).ownBlock)) k_∧¬ (fun _=>False) k_) (.slice (some ⟨go38,0,none⟩) t239.length co42) t239 from (Kd.S_mono HO241.out (fun k_ hk=>⟨hk.2,fun e_=>e_⟩)))
  obtain ⟨oki53,ce53,hcl53,hM53,hcc53,hfr53,hoki53,hH53⟩:=Kd.S_elem HX53.out z58 (t245:Int) (odT zA_) (by have h_:(t245:Int)<((t239.length:Int):Int):=odT zA_;first|exact h_|(have e_:=(Kd.S_reads' HO241.out).1;omega)|simpa using h_)
  obtain ⟨ve53_2,rfl,ge53_2⟩:=k58_openM hM53
  have HP53:=(Kd.S_seg hH53 (odT zA_) (by have h_:(t245:Int)<((t239.length:Int):Int):=odT zA_;first|exact h_|(have e_:=(Kd.S_reads' HO241.out).1;omega)|simpa using h_) (seg:=[.int .i64 t262]) (j:=0) (show 1≤3 from by decide) (x':=(⟨t262,(rd_T58 t239 t245).f1,(rd_T58 t239 t245).f2⟩:S58)) (k58_mkM _ _ _ (⟨t262,(rd_T58 t239 t245).f1,(rd_T58 t239 t245).f2⟩:S58) ge53_2) (fun _ hk=>Or.inl hk) (fun _ hk=>hk.elim)).1
  rw [← Ny264.out] at HP53
  have HQ53:=As_ HP53
  clear hcl53 hcc53 hfr53 hM53 HP53
  refine hK.out _ _ ⟨(bkC BK244.out 0).trans rfl,(bkC BK244.out 1).trans rfl⟩ (fun hHeld=>?_)
  clear hK K
  refine norm_ (a':=?_) ?_ ?_
  rotate_left
  ·show Act.put _ (some 42) _=_
   simp only [Act.put,sq_]
   rfl
  refine pQ 6 43 (bl_ 127 9) HT_ rfl ?_
  refine pQ 7 44 (bl_ 255 9) HT_ rfl ?_
  refine last_ (i:=8) (N:=none) (bl_ 511 9) rfl rfl (one_of HT_.out (by kernel_rfl)) (by decide) (fun K hK=>?_)
  refine skip_ (w1:=?_) (by rfl) rfl ?_ ?_
  rotate_left
  ·go_simp
   rfl
  refine hK.out _ _ ?_
  clear hK K
  refine done_ (done_of HT_.out (by kernel_rfl)) ?_
  have n0_:Aside0 (Kd.S k58 58 (w52.setCell ⟨go38,(t245:Int).toNat * 3,none⟩ (.int .i64 t262)) w.heap.size (fun k_=>some k_≠(.slice Ao51 y259.length co51:Value).ownBlock) (.slice (some ⟨go38,0,none⟩) t239.length co42) y264):=⟨by (with_reducible repeat (first|apply Kd.S_alloc|apply Kd.S_drewN|apply Kd.S_drew));exact HQ53.out⟩
  have n1_:Aside0 (Kd.R (Kd.int .i64) 3 (w52.setCell ⟨go38,(t245:Int).toNat * 3,none⟩ (.int .i64 t262)) w.heap.size (fun _=>True) (.slice Ao51 y259.length co51) y259):=⟨by (with_reducible repeat (first|apply Kd.R_alloc|apply Kd.R_drewN|apply Kd.R_drew));exact Kd.R_mono (Kd.R_far (p:=⟨go38,(t245:Int).toNat * 3,none⟩) (Kd.R_types HO261.out GG38.out (by decide)) (fun _ hk=>hk.2) (.int .i64 t262)) (fun _ hk=>trivial)⟩
  have n2_:Aside0 ((w52.setCell ⟨go38,(t245:Int).toNat * 3,none⟩ (.int .i64 t262)).heap[gb238]?=some (.cells #[.slice none 0 0,.int .i64 0] 25 (0,0))):=⟨by (with_reducible repeat first|apply bkN|apply bkD|apply bkA);refine blk_far ?_ (by have h_:=Kd.S_ne HO241.out BK238.out (by decide);intro e_;exact h_ (by rw [e_];rfl)) _;(with_reducible repeat first|apply bkN|apply bkD|apply bkA);exact BK238.out⟩
  have n3_:Aside0 ((w52.setCell ⟨go38,(t245:Int).toNat * 3,none⟩ (.int .i64 t262)).heap[gb244]?=some (.cells #[.slice (some ⟨go38,0,none⟩) t239.length co42,.int .i64 t242] 25 (0,0))):=⟨by (with_reducible repeat first|apply bkN|apply bkD|apply bkA);refine blk_far ?_ (by have h_:=Kd.S_ne HO241.out BK244.out (by decide);intro e_;exact h_ (by rw [e_];rfl)) _;(with_reducible repeat first|apply bkN|apply bkD|apply bkA);exact BK244.out⟩
  have n4_:Aside0 (IsS74 w0 (w52.setCell ⟨go38,(t245:Int).toNat * 3,none⟩ (.int .i64 t262)) g s0_0 t263):=⟨zi74_3 HI0.out HN0_go38.out NB0_238.out NB0_244.out⟩
  have n5_:Aside0 (KeepBut w (w52.setCell ⟨go38,(t245:Int).toNat * 3,none⟩ (.int .i64 t262)) g none):=⟨zkp3 HK.out GB38.out GW238.out GW244.out⟩
  have n6_:Aside0 (Below w0.heap.size w0 (w52.setCell ⟨go38,(t245:Int).toNat * 3,none⟩ (.int .i64 t262))):=⟨by repeat (first|(with_reducible first|exact HB.out|apply bwA|apply bwN|apply bwD|refine bwS ?_ (Nat.le_trans HL.out GB38.out)|refine bwS ?_ (IsS74.ge HI0.out)|refine bwS ?_ GE238.out|refine bwS ?_ GE244.out)|exact HB.out)⟩
  generalize (w52.setCell ⟨go38,(t245:Int).toNat * 3,none⟩ (.int .i64 t262))=w54 at n0_ n1_ n2_ n3_ n4_ n5_ n6_ ⊢
  revert n0_ n1_ n2_ n3_ n4_ n5_ n6_;intro HO241 HO261 BK238 BK244 HI0 HK HB
  obtain ⟨hcz55_0,hcz55_1,hfz55_0,hfz55_1⟩:=bk2 BK244.out
  have hnb56:=NB238_0.out
  have hnc56:=NB0_238.out
  obtain ⟨hcz57_0,hcz57_1,hfz57_0,hfz57_1⟩:=bk2 BK238.out
  try go_wp2
  refine bodyPost_ret (results_cell_row rfl _ _ gb238 25 #[.slice (some ⟨go38,0,none⟩) t239.length co42,.int .i64 t242] (0,0) _ rfl (by (with_reducible repeat first|apply bkN|apply bkD|apply bkA);refine blk_put (cs:=#[.slice (some ⟨go38,0,none⟩) t239.length co42,.int .i64 0]) ?_ 1 _ rfl;(with_reducible repeat first|apply bkN|apply bkD|apply bkA);refine blk_put (cs:=#[.slice none 0 0,.int .i64 0]) ?_ 0 _ rfl;(with_reducible repeat first|apply bkN|apply bkD|apply bkA);exact BK238.out) Try.underlying25 rfl (by kernel_rfl)) rfl ?_
  exact ⟨_,zE_,by (with_reducible repeat (first|apply Kd.S_alloc|apply Kd.S_drewN|apply Kd.S_drew));exact Kd.S_mono (Kd.S_far (p:=⟨gb238,1,none⟩) (Kd.S_far (p:=⟨gb238,0,none⟩) (Kd.S_types HO241.out BK238.out (by decide)) (fun _ hk=>hk.2) (.slice (some ⟨go38,0,none⟩) t239.length co42)) (fun _ hk=>hk.2) (.int .i64 t242)) (fun _ hk=>trivial),zi74_2 HI0.out NB0_238.out NB0_244.out,zb3 HB.out (IsS74.ge HI0.out) GE238.out GE244.out,zkp2 HK.out GW238.out GW244.out⟩
 rw [if_pos c5] at H
 have c5b0:(t247 == 0)=true:=beq_iff_eq.mpr c5
 have c5b1:(t247 != 0)=false:=bne_eq_false_iff_eq.mpr c5
 clear c5
 by_cases c6:0≤t245
 rotate_left
 ·rw [if_neg c6] at H
  exact absurd H (by simp)
 rw [if_pos c6] at H
 have c6b0:decide (0≤t245)=true:=deT c6
 clear c6
 by_cases c7:t245<(t239.length:Int)
 rotate_left
 ·rw [if_neg c7] at H
  exact absurd H (by simp)
 rw [if_pos c7] at H
 have c7b0:decide (t245<(t239.length:Int))=true:=deT c7
 clear c7
 obtain ⟨y250,hy250⟩:∃ y_:List Int,y_=(([(-1),(t239.length:Int)]:List Int)):=⟨_,rfl⟩
 replace H:((spec_reader_one.f k s0_0 t248 y250).bind fun bt253=>(if ((rd_T58 t239 t245).f2).length<17592186044416 then (some ((t239.set (t245:Int).toNat (⟨(rd_T58 t239 t245).f0,(rd_T58 t239 t245).f1,(((rd_T58 t239 t245).f2)++[bt253.1])⟩:S58)),t242,bt253.2)) else (none)))=some (r1,r2,r3):=zH_ H hy250
 have Ny250:=As_ hy250
 clear hy250
 replace H:=obS H
 obtain ⟨⟨t253,t254⟩,A80,H⟩:=H
 replace H:(if ((rd_T58 t239 t245).f2).length<17592186044416 then (some ((t239.set (t245:Int).toNat (⟨(rd_T58 t239 t245).f0,(rd_T58 t239 t245).f1,(((rd_T58 t239 t245).f2)++[t253])⟩:S58)),t242,t254)) else (none))=some (r1,r2,r3):=H
 have A8:=As_ A80
 clear A80
 by_cases c9:((rd_T58 t239 t245).f2).length<17592186044416
 rotate_left
 ·rw [if_neg c9] at H
  exact absurd H (by simp)
 rw [if_pos c9] at H
 have LMc9:=As_ c9
 clear c9
 obtain ⟨y255,hy255⟩:∃ y_:List Int,y_=(((rd_T58 t239 t245).f2)++[t253]):=⟨_,rfl⟩
 replace H:(some ((t239.set (t245:Int).toNat (⟨(rd_T58 t239 t245).f0,(rd_T58 t239 t245).f1,y255⟩:S58)),t242,t254))=some (r1,r2,r3):=zH_ H hy255
 have Ny255:=As_ hy255
 clear hy255
 obtain ⟨y258,hy258⟩:∃ y_:List (S58),y_=(t239.set (t245:Int).toNat (⟨(rd_T58 t239 t245).f0,(rd_T58 t239 t245).f1,y255⟩:S58)):=⟨_,rfl⟩
 replace H:(some (y258,t242,t254))=some (r1,r2,r3):=zH_ H hy258
 have Ny258:=As_ hy258
 clear hy258
 simp only [Option.some.injEq,Prod.mk.injEq] at H
 obtain ⟨rfl,rfl,rfl⟩:=H
 go_enter Try.func52,Try.ntmps52
 try go_wp2_with (first|((with_reducible refine gate_dst (N:=2) rfl ?_);refine box_event ?hg (N:=2) ?hd (cs:=#[.slice none 0 0,.int .i64 0]) (t:=25) ?hr ?_;(case hd=>rfl);(case hg=>rfl);(case hr=>go_simp <;> rfl);intro gb238 hg w11 hbox hb;have n0_:=As_ (IsS74.below (zi74_0 HI0.out) hb);have n1_:=As_ (KeepBut.trans (zkp0 HK.out) (KeepBut.of_below hb g none) (.inl rfl));have n2_:=As_ (bwT (zb1 HB.out (IsS74.ge HI0.out)) hb);have n3_:=As_ (hbox);have n4_:=As_ ((by rw [hg];exact (keep_size (w:=w) (g:=g) (row:=none) (zkp0 HK.out)):w.heap.size≤gb238));have n5_:=As_ ((Nat.le_trans HW0.out (by rw [hg];exact (keep_size (w:=w) (g:=g) (row:=none) (zkp0 HK.out)):w.heap.size≤gb238):w0.heap.size≤gb238));have n6_:=As_ ((by rw [hg];exact Nat.ne_of_lt (IsS74.lt (show IsS74 w0 _ g s0_0 s0_1 from zi74_0 HI0.out)):g≠gb238));have n7_:=As_ ((by rw [hg];exact Nat.ne_of_gt (IsS74.lt (show IsS74 w0 _ g s0_0 s0_1 from zi74_0 HI0.out)):gb238≠g));clear HI0 HK HB;revert n0_ n1_ n2_ n3_ n4_ n5_ n6_ n7_;intro HI0 HK HB BK238 GW238 GE238 NB0_238 NB238_0;clear hb hbox hg)|((with_reducible refine gate_callee (f:=86) rfl ?_);refine goesL_ (some 6) rfl rfl Try.func86 (by kernel_rfl) rfl #[.pointer (some ⟨g,0,none⟩)] rfl zM_ ?_;(with_reducible refine (spec_someGraph.calls k g s0_0 s0_1 t239 t242 t243 w0 _ ?side1 ?side2 A2.out).mono ?_);(case side1=>exact zi74_1 HI0.out NB0_238.out);(case side2=>exact zb2 HB.out (IsS74.ge HI0.out) GE238.out);rintro e w12 ⟨v240,rfl,ho0,hi,hb,hk⟩;refine ⟨_,rfl,?_⟩;have n0_:=As_ (KeepBut.blk hk (g':=gb238) (o:=.cells #[.slice none 0 0,.int .i64 0] 25 (0,0)) (zk_ BK238.out) NB238_0.out (by simp));have n1_:=As_ (Kd.S_lower ho0 (keep_size (w:=w) (g:=g) (row:=none) (zkp1 HK.out GW238.out)));have n2_:=As_ (KeepBut.trans (zkp1 HK.out GW238.out) hk (.inl rfl));have n3_:=As_ (hb);have n4_:=As_ (hi);clear BK238 HK HB HI0;revert n0_ n1_ n2_ n3_ n4_;intro BK238 HO241 HK HB HI0)|((with_reducible refine gate_dst (N:=3) rfl ?_);refine box_event ?hg (N:=3) ?hd (cs:=#[.slice none 0 0,.int .i64 0]) (t:=25) ?hr ?_;(case hd=>rfl);(case hg=>rfl);(case hr=>go_simp <;> rfl);intro gb244 hg w13 hbox hb;have n0_:=As_ (Kd.S_below (zS_ HO241.out) hb);have n1_:=As_ (IsS74.below (zi74_1 HI0.out NB0_238.out) hb);have n2_:=As_ (zkb BK238.out hb);have n3_:=As_ (KeepBut.trans (zkp1 HK.out GW238.out) (KeepBut.of_below hb g none) (.inl rfl));have n4_:=As_ (bwT (zb2 HB.out (IsS74.ge HI0.out) GE238.out) hb);have n5_:=As_ (hbox);have n6_:=As_ ((by rw [hg];exact (keep_size (w:=w) (g:=g) (row:=none) (zkp1 HK.out GW238.out)):w.heap.size≤gb244));have n7_:=As_ ((Nat.le_trans HW0.out (by rw [hg];exact (keep_size (w:=w) (g:=g) (row:=none) (zkp1 HK.out GW238.out)):w.heap.size≤gb244):w0.heap.size≤gb244));have n8_:=As_ ((by rw [hg];exact Nat.ne_of_lt (zkl BK238.out):gb238≠gb244));have n9_:=As_ ((by rw [hg];exact Nat.ne_of_gt (zkl BK238.out):gb244≠gb238));have n10_:=As_ ((by rw [hg];exact Nat.ne_of_lt (IsS74.lt (show IsS74 w0 _ g s0_0 t243 from zi74_1 HI0.out NB0_238.out)):g≠gb244));have n11_:=As_ ((by rw [hg];exact Nat.ne_of_gt (IsS74.lt (show IsS74 w0 _ g s0_0 t243 from zi74_1 HI0.out NB0_238.out)):gb244≠g));clear HO241 HI0 BK238 HK HB;revert n0_ n1_ n2_ n3_ n4_ n5_ n6_ n7_ n8_ n9_ n10_ n11_;intro HO241 HI0 BK238 HK HB BK244 GW244 GE244 NB238_244 NB244_238 NB0_244 NB244_0;clear hb hbox hg;obtain ⟨Ao14,co14,eo14⟩:=Kd.S_slice HO241.out;subst eo14;have hnb15:=NB244_238.out;have hnc15:=NB238_244.out;have hnb16:=NB244_0.out;have hnc16:=NB0_244.out;obtain ⟨hcz17_0,hcz17_1,hfz17_0,hfz17_1⟩:=bk2 BK244.out)|((with_reducible refine gate_callee (f:=65) rfl ?_);refine goesL_ (some 11) rfl rfl Try.func65 (by kernel_rfl) rfl #[.pointer (some ⟨g,0,none⟩),.int .i64 (t239.length:Int)] rfl zM_ ?_;(with_reducible refine (spec_reader_pick.calls k g s0_0 t243 (t239.length:Int) t245 t246 w0 _ ?side1 ?side2 A3.out).mono ?_);(case side1=>exact zi74_2 HI0.out NB0_238.out NB0_244.out);(case side2=>exact zb3 HB.out (IsS74.ge HI0.out) GE238.out GE244.out);rintro e w18 ⟨rfl,hi,hb,hk⟩;refine ⟨_,rfl,?_⟩;have n0_:=As_ (KeepBut.blk hk (g':=gb238) (o:=.cells #[.slice none 0 0,.int .i64 0] 25 (0,0)) (by (with_reducible repeat first|apply bkN|apply bkD|apply bkA);refine blk_far ?_ NB238_244.out _;(with_reducible repeat first|apply bkN|apply bkD|apply bkA);refine blk_far ?_ NB238_244.out _;(with_reducible repeat first|apply bkN|apply bkD|apply bkA);exact BK238.out) NB238_0.out (by simp));have n1_:=As_ (Kd.S_mono (Kd.S_keep (IsS74.apartS (show IsS74 w0 _ g s0_0 t243 from zi74_2 HI0.out NB0_238.out NB0_244.out) (by (with_reducible repeat (first|apply Kd.S_alloc|apply Kd.S_drewN|apply Kd.S_drew));exact (Kd.S_mono (Kd.S_far (p:=⟨gb244,1,none⟩) (Kd.S_far (p:=⟨gb244,0,none⟩) (Kd.S_types HO241.out BK244.out (by decide)) (fun _ hk=>hk.2) (.slice Ao14 t239.length co14)) (fun _ hk=>hk.2) (.int .i64 t242)) (fun _ h_=>h_.1))) (by decide)) hk (fun _ h=>h.2)) (fun _ h=>h.1));have n2_:=As_ (KeepBut.blk hk (g':=gb244) (o:=.cells #[.slice Ao14 t239.length co14,.int .i64 t242] 25 (0,0)) (by (with_reducible repeat first|apply bkN|apply bkD|apply bkA);refine blk_put (cs:=#[.slice Ao14 t239.length co14,.int .i64 0]) ?_ 1 _ rfl;(with_reducible repeat first|apply bkN|apply bkD|apply bkA);refine blk_put (cs:=#[.slice none 0 0,.int .i64 0]) ?_ 0 _ rfl;(with_reducible repeat first|apply bkN|apply bkD|apply bkA);exact BK244.out) NB244_0.out (by simp));have n3_:=As_ (KeepBut.trans (zkp2 HK.out GW238.out GW244.out) hk (.inl rfl));have n4_:=As_ (hb);have n5_:=As_ (hi);clear BK238 HO241 BK244 HK HB HI0;revert n0_ n1_ n2_ n3_ n4_ n5_;intro BK238 HO241 BK244 HK HB HI0)|((with_reducible refine gate_callee (f:=65) rfl ?_);refine goesL_ (some 13) rfl rfl Try.func65 (by kernel_rfl) rfl #[.pointer (some ⟨g,0,none⟩),.int .i64 20] rfl zM_ ?_;(with_reducible refine (spec_reader_pick.calls k g s0_0 t246 20 t247 t248 w0 _ ?side1 ?side2 A4.out).mono ?_);(case side1=>exact zi74_2 HI0.out NB0_238.out NB0_244.out);(case side2=>exact zb3 HB.out (IsS74.ge HI0.out) GE238.out GE244.out);rintro e w19 ⟨rfl,hi,hb,hk⟩;refine ⟨_,rfl,?_⟩;have n0_:=As_ (KeepBut.blk hk (g':=gb238) (o:=.cells #[.slice none 0 0,.int .i64 0] 25 (0,0)) (zk_ BK238.out) NB238_0.out (by simp));have n1_:=As_ (Kd.S_mono (Kd.S_keep (IsS74.apartS (show IsS74 w0 _ g s0_0 t246 from zi74_2 HI0.out NB0_238.out NB0_244.out) (zS_ HO241.out) (by decide)) hk (fun _ h=>h.2)) (fun _ h=>h.1));have n2_:=As_ (KeepBut.blk hk (g':=gb244) (o:=.cells #[.slice Ao14 t239.length co14,.int .i64 t242] 25 (0,0)) (zk_ BK244.out) NB244_0.out (by simp));have n3_:=As_ (KeepBut.trans (zkp2 HK.out GW238.out GW244.out) hk (.inl rfl));have n4_:=As_ (hb);have n5_:=As_ (hi);clear BK238 HO241 BK244 HK HB HI0;revert n0_ n1_ n2_ n3_ n4_ n5_;intro BK238 HO241 BK244 HK HB HI0))
 have n0_:=As_ (Kd.S_drew HO241.out)
 have n1_:=As_ (bkD BK238.out)
 have n2_:=As_ (bkD BK244.out)
 have n3_:=As_ (IsS74.drew HI0.out)
 have n4_:=As_ (keep_drew HK.out)
 have n5_:=As_ (bwD HB.out)
 clear HO241 BK238 BK244 HI0 HK HB
 revert n0_ n1_ n2_ n3_ n4_ n5_;intro HO241 BK238 BK244 HI0 HK HB
 have p249:0≤(t245:Int):=odT zA_
 have q249:t245<(t239.length:Int):=odT zA_
 obtain ⟨ad249,A249_2,c249_2,e249,hx249_0,hx249_1,hx249_2,hl249_2,hi249_2⟩:=at_T58 (Kd.S_reads' HO241.out).2.2 t245 p249 q249
 cases e249
 obtain ⟨ce249,hce249,hMe249,hcc249⟩:=Kd.S_get HO241.out z58 t245 p249 (by first|exact q249|exact odT zA_|(have e_:=(Kd.S_reads' HO241.out).1;omega))
 obtain ⟨ve249_2,rfl,ge249_2⟩:=k58_openM hMe249
 have hv249_2:=hcc249 2 _ rfl
 rw [add_field _ _ 2 (by omega)] at hv249_2
 replace hv249_2:=Option.some.inj (hv249_2.symm.trans hx249_2)
 rw [hv249_2] at ge249_2
 have HL249_2:=As_ (show Kd.R (Kd.int .i64) 3 _ _ _ _ ((rd_T58 t239 t245).f2) from ge249_2)
 clear hv249_2 ge249_2
 have HX249_2:=As_ hx249_2
 clear hcc249 hce249
 have HR249_2:=As_ hi249_2
 have HC249_2:=As_ hl249_2
 clear hi249_2 hl249_2
 replace p249:=eq_true p249
 replace q249:=eq_true q249
 refine start_ (n:=20) (S:=fun w'=>w'.cell? ⟨gb244,0,none⟩=some (.slice (some ad249) t239.length co14)∧w'.cell? ⟨gb244,1,none⟩=some (.int .i64 t242)∧w'.cell? (ad249.add ((t245).toNat * 3))=some (.int .i64 ((rd_T58 t239 t245).f0))∧w'.cell? ⟨(ad249.add ((t245).toNat * 3)).block,(ad249.add ((t245).toNat * 3)).off+1,none⟩=some (.int .i64 ((rd_T58 t239 t245).f1))∧w'.cell? ⟨(ad249.add ((t245).toNat * 3)).block,(ad249.add ((t245).toNat * 3)).off+2,none⟩=some (.slice A249_2 ((rd_T58 t239 t245).f2).length c249_2)) (ds:=[19]) (bl_ 0 20) (by kernel_rfl) rfl rfl ⟨(bkC BK244.out 0).trans rfl,(bkC BK244.out 1).trans rfl,hx249_0,hx249_1,hx249_2⟩ (fun hHeld=>?_);refine with_tabW spec_anyGraph.tab5 spec_anyGraph.bits5 (fun HT_ HW_=>?_)
 generalize w19.drew=w20 at HO241 BK238 BK244 HI0 HK HB HL249_2 HR249_2 HX249_2 hx249_0 hx249_1 hx249_2 hHeld ⊢
 refine pQ 0 16 (bl_ 1 20) HT_ rfl ?_
 refine pQ 2 18 (bl_ 5 20) HT_ rfl ?_
 refine pQ 3 19 (bl_ 13 20) HT_ rfl ?_
 refine pQ 5 21 (bl_ 45 20) HT_ rfl ?_
 refine pQ 9 25 (bl_ 557 20) HT_ rfl ?_
 refine pQ 10 26 (bl_ 1581 20) HT_ rfl ?_
 refine tP 1 17 (bl_ 1583 20) ?_ HT_ HW_ rfl (.inl ⟨by rfl,?_⟩) hHeld ?_ ?_ ?_;rotate_left;(rintro w' ⟨s0,s1,s2,s3,s4⟩;go_simp;with_reducible rfl);rotate_left;(simp only [Act.put,sq_];rfl)
 refine tP 4 20 (bl_ 1599 20) ?_ HT_ HW_ rfl (.inl ⟨by rfl,?_⟩) hHeld ?_ ?_ ?_;rotate_left;(rintro w' ⟨s0,s1,s2,s3,s4⟩;go_simp;with_reducible rfl);rotate_left;(simp only [Act.put,sq_];rfl)
 refine pQ 6 22 (bl_ 1663 20) HT_ rfl ?_
 refine pQ 7 23 (bl_ 1791 20) HT_ rfl ?_
 refine tP 8 24 (bl_ 2047 20) ?_ HT_ HW_ rfl (.inl ⟨by rfl,?_⟩) hHeld ?_ ?_ ?_;rotate_left;(rintro w' ⟨s0,s1,s2,s3,s4⟩;go_simp;with_reducible rfl);rotate_left;(simp only [Act.put,sq_];rfl)
 refine tP 11 27 (bl_ 4095 20) ?_ HT_ HW_ rfl (.inl ⟨by rfl,?_⟩) hHeld ?_ ?_ ?_;rotate_left;(rintro w' ⟨s0,s1,s2,s3,s4⟩;go_simp;with_reducible rfl);rotate_left;(simp only [Act.put,sq_];rfl)
 refine pQ 12 28 (bl_ 8191 20) HT_ rfl ?_
 refine one_ (i:=13) (N:=some 29) (bl_ 16383 20) rfl rfl (one_of HT_.out (by kernel_rfl)) (by decide) (fun K hK=>?_)
 refine Kd.R_lit_step (Kd.int .i64) _ 3 ?hg (N:=29) ?hd (xs:=([(-1),(t239.length:Int)]:List Int)) (inner:=[.int .i64 (-1),.int .i64 (t239.length:Int)]) (ok:=fun _=>True) (okp:=fun _=>True) ?hr ?hp (fun _ hk=>hk) trivial (Below.refl _ _) (Nat.le_refl _) (by simp) ?_;(case hd=>rfl);(case hg=>rfl);(case hr=>go_simp <;> rfl);(case hp=>exact (Reps.one (show Kd.M (Kd.int .i64) _ _ _ (-1) [.int .i64 (-1)] from rfl) (Reps.one (show Kd.M (Kd.int .i64) _ _ _ (t239.length:Int) [.int .i64 (t239.length:Int)] from rfl) (Reps.none _ _))))
 intro v251 w21 ho22 hb hg_ hnew_
 have HS2_:=(hb.cell (bwL _ _ (hHeld.2.2.1))).trans (hHeld.2.2.1)
 have HS3_:=(hb.cell (bwL _ _ (hHeld.2.2.2.1))).trans (hHeld.2.2.2.1)
 have HS4_:=(hb.cell (bwL _ _ (hHeld.2.2.2.2))).trans (hHeld.2.2.2.2)
 clear hg_ hnew_
 (first|rw [← Ny250.out] at ho22|(simp only [Int.reduceToNat] at ho22;rw [← Ny250.out] at ho22))
 have n0_:=As_ (Kd.S_elder' (zS_ HO241.out) (Kd.R_base ho22) hb)
 have n1_:=As_ (Kd.R_elder' (zR_ HL249_2.out) (Kd.R_base ho22) hb)
 have n2_:=As_ (Kd.R_lower (Kd.R_new' ho22 (Kd.R_lt (zR_ HL249_2.out))) (keep_size (w:=w) (g:=g) (row:=none) (zkp2 HK.out GW238.out GW244.out)))
 have n3_:=As_ (IsS74.below (zi74_2 HI0.out NB0_238.out NB0_244.out) hb)
 have n4_:=As_ (zkb BK238.out hb)
 have n5_:=As_ (zkb BK244.out hb)
 have n6_:=As_ (Kd.C_below (by repeat (first|(with_reducible exact HR249_2.out)|(with_reducible refine Kd.C_alloc ?_ _)|(with_reducible refine Kd.C_drewN ?_ _)|(with_reducible refine Kd.C_drew ?_)|exact HR249_2.out)) hb)
 have n7_:=As_ (pw_cell_below hb HX249_2.out)
 have n8_:=As_ (KeepBut.trans (zkp2 HK.out GW238.out GW244.out) (KeepBut.of_below hb g none) (.inl rfl))
 have n9_:=As_ (bwT (zb3 HB.out (IsS74.ge HI0.out) GE238.out GE244.out) hb)
 clear HO241 HL249_2 HI0 BK238 BK244 HR249_2 HX249_2 HK HB
 revert n0_ n1_ n2_ n3_ n4_ n5_ n6_ n7_ n8_ n9_;intro HO241 HL249_2 HO252 HI0 BK238 BK244 HR249_2 HX249_2 HK HB
 clear hb ho22
 obtain ⟨Ao23,co23,eo23⟩:=Kd.R_slice HO252.out
 (first|subst eo23|(injection eo23 with f1_ f2_ f3_;have f4_:=f1_.symm;have f5_:=f3_.symm;clear f1_ f2_ f3_;subst f4_;subst f5_))
 refine hK.out _ _ ⟨(bkC BK244.out 0).trans rfl,(bkC BK244.out 1).trans rfl,HS2_,HS3_,HS4_⟩ (fun hHeld=>?_)
 clear hK K
 refine norm_ (a':=?_) ?_ ?_
 rotate_left
 ·show Act.put _ (some 29) _=_
  simp only [Act.put,sq_]
  rfl
 refine one_ (i:=14) (N:=some 30) (bl_ 32767 20) rfl rfl (one_of HT_.out (by kernel_rfl)) (by decide) (fun K hK=>?_)
 refine goes_ Try.func67 (by kernel_rfl) rfl #[.pointer (some ⟨g,0,none⟩),.slice Ao23 y250.length co23] (by rfl) rfl rfl zM_ ?_
 with_reducible refine (spec_reader_one.calls k g s0_0 t248 _ _ y250 t253 t254 w0 _ ?side1 ?side2 ?side3 ?side4 ?side5 A8.out).mono ?_
 (case side1=>exact zi74_2 HI0.out NB0_238.out NB0_244.out)
 (case side2=>exact zb3 HB.out (IsS74.ge HI0.out) GE238.out GE244.out)
 (case side3=>exact zC_ (Kd.R_reads' HO252.out).2.2)
 (case side4=>exact (Kd.R_reads' HO252.out).2.1)
 (case side5=>exact far_slice (IsS74.own_ne HI0.out HO252.out (by decide)))
 rintro e w24 ⟨rfl,hi,hb,hk⟩
 have HS2_:=keep_cell hk (hHeld.2.2.1) (by first|(rw [add_block];exact Kd.own_blk (IsS74.own_neS HI0.out HO241.out (by decide)))|(show (Addr.add _ _).block≠_;rw [add_block];exact Kd.own_blk (IsS74.own_neS HI0.out HO241.out (by decide)))|exact Kd.own_blk (IsS74.own_neS HI0.out HO241.out (by decide)))
 have HS3_:=keep_cell hk (hHeld.2.2.2.1) (by first|(rw [add_block];exact Kd.own_blk (IsS74.own_neS HI0.out HO241.out (by decide)))|(show (Addr.add _ _).block≠_;rw [add_block];exact Kd.own_blk (IsS74.own_neS HI0.out HO241.out (by decide)))|exact Kd.own_blk (IsS74.own_neS HI0.out HO241.out (by decide)))
 have HS4_:=keep_cell hk (hHeld.2.2.2.2) (by first|(rw [add_block];exact Kd.own_blk (IsS74.own_neS HI0.out HO241.out (by decide)))|(show (Addr.add _ _).block≠_;rw [add_block];exact Kd.own_blk (IsS74.own_neS HI0.out HO241.out (by decide)))|exact Kd.own_blk (IsS74.own_neS HI0.out HO241.out (by decide)))
 refine ⟨_,rfl,?_⟩
 have n0_:=As_ (KeepBut.blk hk (g':=gb238) (o:=.cells #[.slice none 0 0,.int .i64 0] 25 (0,0)) (zk_ BK238.out) NB238_0.out (by simp))
 have n1_:=As_ (Kd.S_mono (Kd.S_keep (IsS74.apartS (show IsS74 w0 _ g s0_0 t248 from zi74_2 HI0.out NB0_238.out NB0_244.out) (zS_ HO241.out) (by decide)) hk (fun _ h=>h.2)) (fun _ h=>h.1))
 have n2_:=As_ (KeepBut.blk hk (g':=gb244) (o:=.cells #[.slice (some ad249) t239.length co14,.int .i64 t242] 25 (0,0)) (zk_ BK244.out) NB244_0.out (by simp))
 have n3_:=As_ (Kd.R_mono (Kd.R_keep (IsS74.apart (show IsS74 w0 _ g s0_0 t248 from zi74_2 HI0.out NB0_238.out NB0_244.out) (zR_ HL249_2.out) (by decide)) hk (fun _ h=>h.2)) (fun _ h=>h.1))
 have n4_:=As_ (keep_cell hk HX249_2.out (by first|(rw [add_block];exact Kd.own_blk (IsS74.own_neS HI0.out HO241.out (by decide)))|(show (Addr.add _ _).block≠_;rw [add_block];exact Kd.own_blk (IsS74.own_neS HI0.out HO241.out (by decide)))|exact Kd.own_blk (IsS74.own_neS HI0.out HO241.out (by decide))|(dsimp only;exact Kd.own_blk (IsS74.own_neS HI0.out HO241.out (by decide)))))
 have n5_:=As_ (Kd.R_mono (Kd.R_keep (IsS74.apart (show IsS74 w0 _ g s0_0 t248 from zi74_2 HI0.out NB0_238.out NB0_244.out) (zR_ HO252.out) (by decide)) hk (fun _ h=>h.2)) (fun _ h=>h.1))
 have n6_:=As_ (KeepBut.trans (zkp2 HK.out GW238.out GW244.out) hk (.inl rfl))
 have n7_:=As_ (hb)
 have n8_:=As_ (hi)
 clear BK238 HO241 BK244 HL249_2 HX249_2 HO252 HK HB HI0
 revert n0_ n1_ n2_ n3_ n4_ n5_ n6_ n7_ n8_;intro BK238 HO241 BK244 HL249_2 HX249_2 HO252 HK HB HI0
 have n_:=As_ (Kd.S_mono (ok':=(fun k_=>some k_≠(.slice Ao23 y250.length co23:Value).ownBlock)) HO241.out (fun k_ hk=>hk.2))
 clear HO241
 have HO241:=n_
 clear n_
 obtain ⟨go25,co25,eo25,gb25,gl25,cl25,HG25⟩:=Kd.S_form HO241.out (by have h_:(t245:Int)<((t239.length:Int):Int):=odT zA_;have h2_:0≤(t245:Int):=(odT zA_);omega)
 (first|cases eo25|(injection eo25 with ea_ en_ ec_;(first|subst ea_|(injection ea_ with ea_;subst ea_));subst ec_;clear en_))
 have GB25:=As_ gb25
 have GG25:=As_ HG25
 clear gb25 gl25 HG25
 (first|simp only [add_plain] at hx249_0|skip)
 (first|simp only [add_plain] at hx249_1|skip)
 (first|simp only [add_plain] at hx249_2|skip)
 obtain ⟨oki25,ce25,hcl25,hM25,hcc25,_,_,hH25⟩:=Kd.S_elem HO241.out z58 (t245:Int) (odT zA_) (by have h_:(t245:Int)<((t239.length:Int):Int):=odT zA_;first|exact h_|(have e_:=(Kd.S_reads' HO241.out).1;omega)|simpa using h_)
 obtain ⟨ve25_2,rfl,ge25_2⟩:=k58_openM hM25
 have hv25:=hcc25 2 _ rfl
 have hX25:=HX249_2.out
 (try simp only [add_plain] at hX25)
 (try simp only [Nat.add_zero] at hv25)
 replace hv25:=Option.some.inj (hv25.symm.trans hX25)
 subst hv25
 clear hX25 hcc25 hcl25
 have UU25:=As_ (show Kd.R (Kd.int .i64) 3 _ w.heap.size oki25 (.slice A249_2 ((rd_T58 t239 t245).f2).length c249_2) ((rd_T58 t239 t245).f2) from ge25_2)
 have HH25:=As_ hH25
 have HN25:=As_ (Kd.S_reads' HO241.out).1
 clear hH25 ge25_2
 refine hK.out _ _ ⟨(bkC BK244.out 0).trans rfl,(bkC BK244.out 1).trans rfl,HS2_,HS3_,HS4_⟩ (fun hHeld=>?_)
 clear hK K
 refine norm_ (a':=?_) ?_ ?_
 rotate_left
 ·show Act.put _ (some 30) _=_
  simp only [Act.put,sq_]
  rfl
 refine one_ (i:=15) (N:=some 31) (bl_ 65535 20) rfl rfl (one_of HT_.out (by kernel_rfl)) (by decide) (fun K hK=>?_)
 refine value_ (w1:=?_) (v:=?_) (by rfl) rfl ?_ ?_
 rotate_left 2
 ·go_simp
  constructor
  ·rfl
  ·rfl
 refine hK.out _ _ ⟨(bkC (bkA BK244.out _) 0).trans rfl,(bkC (bkA BK244.out _) 1).trans rfl,(World.cell?_alloc_lt _ _ _ (bwL _ _ (hHeld.2.2.1))).trans (hHeld.2.2.1),(World.cell?_alloc_lt _ _ _ (bwL _ _ (hHeld.2.2.2.1))).trans (hHeld.2.2.2.1),(World.cell?_alloc_lt _ _ _ (bwL _ _ (hHeld.2.2.2.2))).trans (hHeld.2.2.2.2)⟩ (fun hHeld=>?_)
 clear hK K
 refine norm_ (a':=?_) ?_ ?_
 rotate_left
 ·show Act.put _ (some 31) _=_
  simp only [Act.put,sq_]
  rfl
 refine one_ (i:=16) (N:=some 32) (bl_ 131071 20) rfl rfl (one_of HT_.out (by kernel_rfl)) (by decide) (fun K hK=>?_)
 refine Kd.R_append_step (Kd.int .i64) w.heap.size (by rfl) (.tmp 24) (.tmp 31) 26 3 (.int .i64 0) 8 rfl Try.underlying26 info3 rfl (by decide) (by omega) (.slice A249_2 ((rd_T58 t239 t245).f2).length c249_2) ((rd_T58 t239 t245).f2) t253 [.int .i64 t253] (fun k_=>oki25 k_∨((fun k_=>some k_≠(.slice Ao23 y250.length co23:Value).ownBlock)) k_∧w24.heap.size≤k_) (fun _=>False) rfl rfl ?aP (fun _ hk=>hk.elim) ?aF ?aO (Below.refl _ _) ?aS ?aL ?_
 (case aP=>exact rfl)
 (case aF=>exact (fun k_ hk=>.inr ⟨Kd.fresh' (Kd.R_lt (zR_ HO252.out)) k_ hk,hk⟩))
 (case aO=>exact (by (with_reducible repeat (first|apply Kd.R_alloc|apply Kd.R_drewN|apply Kd.R_drew));exact Kd.R_mono UU25.out (fun _ hk=>.inl hk)))
 (case aS=>exact (keep_size (w:=w) (g:=g) (row:=none) (zkp2 HK.out GW238.out GW244.out)))
 (case aL=>have:=LMc9.out;omega)
 intro v256 w26 ho hb hg hat
 (first|have HS2_:=cell_grown hg (hHeld.2.2.1) (by first|(rw [add_block];exact (fun e_=>((HL249_2.out.1 _ e_.symm).1.2) rfl))|(show some (Addr.add _ _).block≠_;rw [add_block];exact (fun e_=>((HL249_2.out.1 _ e_.symm).1.2) rfl))|exact (fun e_=>((HL249_2.out.1 _ e_.symm).1.2) rfl))|have HS2_:=cell_grown hg (cell_unalloc (hHeld.2.2.1) (by first|(rw [add_block];exact Kd.S_lt HO241.out _ rfl)|(show (Addr.add _ _).block<_;rw [add_block];exact Kd.S_lt HO241.out _ rfl)|exact Kd.S_lt HO241.out _ rfl)) (by first|(rw [add_block];exact (fun e_=>((HL249_2.out.1 _ e_.symm).1.2) rfl))|(show some (Addr.add _ _).block≠_;rw [add_block];exact (fun e_=>((HL249_2.out.1 _ e_.symm).1.2) rfl))|exact (fun e_=>((HL249_2.out.1 _ e_.symm).1.2) rfl)))
 (first|have HS3_:=cell_grown hg (hHeld.2.2.2.1) (by first|(rw [add_block];exact (fun e_=>((HL249_2.out.1 _ e_.symm).1.2) rfl))|(show some (Addr.add _ _).block≠_;rw [add_block];exact (fun e_=>((HL249_2.out.1 _ e_.symm).1.2) rfl))|exact (fun e_=>((HL249_2.out.1 _ e_.symm).1.2) rfl))|have HS3_:=cell_grown hg (cell_unalloc (hHeld.2.2.2.1) (by first|(rw [add_block];exact Kd.S_lt HO241.out _ rfl)|(show (Addr.add _ _).block<_;rw [add_block];exact Kd.S_lt HO241.out _ rfl)|exact Kd.S_lt HO241.out _ rfl)) (by first|(rw [add_block];exact (fun e_=>((HL249_2.out.1 _ e_.symm).1.2) rfl))|(show some (Addr.add _ _).block≠_;rw [add_block];exact (fun e_=>((HL249_2.out.1 _ e_.symm).1.2) rfl))|exact (fun e_=>((HL249_2.out.1 _ e_.symm).1.2) rfl)))
 (first|have HS4_:=cell_grown hg (hHeld.2.2.2.2) (by first|(rw [add_block];exact (fun e_=>((HL249_2.out.1 _ e_.symm).1.2) rfl))|(show some (Addr.add _ _).block≠_;rw [add_block];exact (fun e_=>((HL249_2.out.1 _ e_.symm).1.2) rfl))|exact (fun e_=>((HL249_2.out.1 _ e_.symm).1.2) rfl))|have HS4_:=cell_grown hg (cell_unalloc (hHeld.2.2.2.2) (by first|(rw [add_block];exact Kd.S_lt HO241.out _ rfl)|(show (Addr.add _ _).block<_;rw [add_block];exact Kd.S_lt HO241.out _ rfl)|exact Kd.S_lt HO241.out _ rfl)) (by first|(rw [add_block];exact (fun e_=>((HL249_2.out.1 _ e_.symm).1.2) rfl))|(show some (Addr.add _ _).block≠_;rw [add_block];exact (fun e_=>((HL249_2.out.1 _ e_.symm).1.2) rfl))|exact (fun e_=>((HL249_2.out.1 _ e_.symm).1.2) rfl)))
 rw [← Ny255.out] at ho
 have n0_:=As_ (IsS74.grown (zi74_2 HI0.out NB0_238.out NB0_244.out) hg (IsS74.own_ne HI0.out HL249_2.out (by decide)))
 have n1_:=As_ (blk_grown (g:=gb238) (o:=.cells #[.slice none 0 0,.int .i64 0] 25 (0,0)) (zk_ BK238.out) hg (Kd.R_ne HL249_2.out BK238.out (by decide)))
 have n2_:=As_ (blk_grown (g:=gb244) (o:=.cells #[.slice (some ⟨go25,0,none⟩) t239.length co14,.int .i64 t242] 25 (0,0)) (zk_ BK244.out) hg (Kd.R_ne HL249_2.out BK244.out (by decide)))
 have n3_:=As_ (Kd.R_grown2 (zR_ HO252.out) rfl hg (fun k_ e_=>(HL249_2.out.1 k_ e_).2))
 have n4_:=As_ (below_weaken (zb3 HB.out (IsS74.ge HI0.out) GE238.out GE244.out) HL.out hb)
 have n5_:=As_ (KeepBut.trans (zkp2 HK.out GW238.out GW244.out) (KeepBut.of_grown hg g) (Kd.R_base2 HL249_2.out))
 have n6_:=As_ (Kd.H_grown (Kd.H_widen (by repeat (first|exact HH25.out|refine Kd.H_alloc ?_ _|refine Kd.H_drewN ?_ _|refine Kd.H_drew ?_))) hg (fun k_ e_=>.inl (UU25.out.1 k_ e_)))
 have n7_:=As_ (ho)
 clear HI0 BK238 BK244 HO252 HB HK HH25 HO241 UU25 HL249_2
 revert n0_ n1_ n2_ n3_ n4_ n5_ n6_ n7_;intro HI0 BK238 BK244 HO252 HB HK HH25 HO257
 clear ho hb hg hat
 have p10:0≤(t245:Int):=odT zA_
 have q10:(t245:Int)<((t239.length:Int):Int):=odT zA_
 replace p10:=eq_true p10
 replace q10:=eq_true q10
 obtain ⟨Ao29,co29,eo29⟩:=Kd.R_slice HO257.out
 (first|subst eo29|(injection eo29 with f1_ f2_ f3_;have f4_:=f1_.symm;have f5_:=f3_.symm;clear f1_ f2_ f3_;subst f4_;subst f5_))
 obtain ⟨_,_,hraw27,_,_,hcc27,_⟩:=Kd.H_raw HH25.out (odT zA_) (by have h_:(t245:Int)<((t239.length:Int):Int):=odT zA_;first|exact h_|(have e_:=(HN25.out);omega)|simpa using h_)
 obtain ⟨_,hfr27⟩:=Kd.H_at HH25.out (odT zA_) (by have h_:(t245:Int)<((t239.length:Int):Int):=odT zA_;first|exact h_|(have e_:=(HN25.out);omega)|simpa using h_)
 have hx27_0:=hcc27 2 _ rfl
 have hf27_0:=hfr27 2
 (try rw [show (k58).sz=3 from rfl] at hx27_0)
 (try rw [show (k58).sz=3 from rfl] at hf27_0)
 have HP27:=Kd.S_seg0 HH25.out (odT zA_) (by have h_:(t245:Int)<((t239.length:Int):Int):=odT zA_;first|exact h_|(have e_:=(HN25.out);omega)|simpa using h_) (seg:=[.slice Ao29 y255.length co29]) (j:=2) (show 3≤3 from by decide) (x':=(⟨(rd_T58 t239 t245).f0,(rd_T58 t239 t245).f1,y255⟩:S58)) (k58_mkM _ _ _ (⟨(rd_T58 t239 t245).f0,(rd_T58 t239 t245).f1,y255⟩:S58) HO257.out) (fun _ hk=>hk)
 clear hcc27 hfr27
 have HN0_go25:=As_ (show g≠go25 from by have h_:=IsS74.own_ne HI0.out hraw27 (by decide);intro e_;exact h_ (by rw [e_];rfl))
 have HNB238_go25:=As_ (show gb238≠go25 from by have h_:=Kd.R_ne hraw27 BK238.out (by decide);intro e_;exact h_ (by rw [e_];rfl))
 have HNB244_go25:=As_ (show gb244≠go25 from by have h_:=Kd.R_ne hraw27 BK244.out (by decide);intro e_;exact h_ (by rw [e_];rfl))
 have HS27:=HP27.1
 rw [← Ny258.out] at HS27
 have HQ27:=As_ HS27
 obtain ⟨_,hgg27⟩:=Kd.R_typed hraw27 go25 rfl
 have GG27_:=As_ hgg27
 clear HP27 HS27 hgg27
 refine hK.out _ _ ⟨(bkC BK244.out 0).trans rfl,(bkC BK244.out 1).trans rfl,HS2_,HS3_,HS4_⟩ (fun hHeld=>?_)
 clear hK K
 refine norm_ (a':=?_) ?_ ?_
 rotate_left
 ·show Act.put _ (some 32) _=_
  simp only [Act.put,sq_]
  rfl
 refine pQ 17 33 (bl_ 262143 20) HT_ rfl ?_
 refine pQ 18 34 (bl_ 524287 20) HT_ rfl ?_
 refine last_ (i:=19) (N:=none) (bl_ 1048575 20) rfl rfl (one_of HT_.out (by kernel_rfl)) (by decide) (fun K hK=>?_)
 refine skip_ (w1:=?_) (by rfl) rfl ?_ ?_
 rotate_left
 ·go_simp
  rfl
 refine hK.out _ _ ?_
 clear hK K
 refine done_ (done_of HT_.out (by kernel_rfl)) ?_
 have n0_:Aside0 (Kd.R (Kd.int .i64) 3 (w26.setCell ⟨go25,(t245:Int).toNat * 3+2,none⟩ (.slice Ao29 y255.length co29)) w.heap.size (fun _=>True) (.slice Ao23 y250.length co23) y250):=⟨by (with_reducible repeat (first|apply Kd.R_alloc|apply Kd.R_drewN|apply Kd.R_drew));exact Kd.R_mono (Kd.R_far (p:=⟨go25,(t245:Int).toNat * 3+2,none⟩) (Kd.R_types HO252.out GG27_.out (by decide)) (fun _ hk=>hk.2) (.slice Ao29 y255.length co29)) (fun _ hk=>trivial)⟩
 have n1_:Aside0 (Kd.S k58 58 (w26.setCell ⟨go25,(t245:Int).toNat * 3+2,none⟩ (.slice Ao29 y255.length co29)) w.heap.size (fun k_=>some k_≠(.slice Ao23 y250.length co23:Value).ownBlock) (.slice (some ⟨go25,0,none⟩) t239.length co14) y258):=⟨by (with_reducible repeat (first|apply Kd.S_alloc|apply Kd.S_drewN|apply Kd.S_drew));exact HQ27.out⟩
 have n2_:Aside0 ((w26.setCell ⟨go25,(t245:Int).toNat * 3+2,none⟩ (.slice Ao29 y255.length co29)).heap[gb238]?=some (.cells #[.slice none 0 0,.int .i64 0] 25 (0,0))):=⟨by (with_reducible repeat first|apply bkN|apply bkD|apply bkA);refine blk_far ?_ HNB238_go25.out _;(with_reducible repeat first|apply bkN|apply bkD|apply bkA);exact BK238.out⟩
 have n3_:Aside0 ((w26.setCell ⟨go25,(t245:Int).toNat * 3+2,none⟩ (.slice Ao29 y255.length co29)).heap[gb244]?=some (.cells #[.slice (some ⟨go25,0,none⟩) t239.length co14,.int .i64 t242] 25 (0,0))):=⟨by (with_reducible repeat first|apply bkN|apply bkD|apply bkA);refine blk_far ?_ HNB244_go25.out _;(with_reducible repeat first|apply bkN|apply bkD|apply bkA);exact BK244.out⟩
 have n4_:Aside0 (IsS74 w0 (w26.setCell ⟨go25,(t245:Int).toNat * 3+2,none⟩ (.slice Ao29 y255.length co29)) g s0_0 t254):=⟨zi74_3 HI0.out HN0_go25.out NB0_238.out NB0_244.out⟩
 have n5_:Aside0 (KeepBut w (w26.setCell ⟨go25,(t245:Int).toNat * 3+2,none⟩ (.slice Ao29 y255.length co29)) g none):=⟨zkp3 HK.out GB25.out GW238.out GW244.out⟩
 have n6_:Aside0 (Below w0.heap.size w0 (w26.setCell ⟨go25,(t245:Int).toNat * 3+2,none⟩ (.slice Ao29 y255.length co29))):=⟨by repeat (first|(with_reducible first|exact HB.out|apply bwA|apply bwN|apply bwD|refine bwS ?_ (Nat.le_trans HL.out GB25.out)|refine bwS ?_ (IsS74.ge HI0.out)|refine bwS ?_ GE238.out|refine bwS ?_ GE244.out)|exact HB.out)⟩
 generalize (w26.setCell ⟨go25,(t245:Int).toNat * 3+2,none⟩ (.slice Ao29 y255.length co29))=w30 at n0_ n1_ n2_ n3_ n4_ n5_ n6_ ⊢
 revert n0_ n1_ n2_ n3_ n4_ n5_ n6_;intro HO252 HO241 BK238 BK244 HI0 HK HB
 obtain ⟨hcz31_0,hcz31_1,hfz31_0,hfz31_1⟩:=bk2 BK244.out
 have hnb32:=NB238_0.out
 have hnc32:=NB0_238.out
 obtain ⟨hcz33_0,hcz33_1,hfz33_0,hfz33_1⟩:=bk2 BK238.out
 try go_wp2
 refine bodyPost_ret (results_cell_row rfl _ _ gb238 25 #[.slice (some ⟨go25,0,none⟩) t239.length co14,.int .i64 t242] (0,0) _ rfl (by (with_reducible repeat first|apply bkN|apply bkD|apply bkA);refine blk_put (cs:=#[.slice (some ⟨go25,0,none⟩) t239.length co14,.int .i64 0]) ?_ 1 _ rfl;(with_reducible repeat first|apply bkN|apply bkD|apply bkA);refine blk_put (cs:=#[.slice none 0 0,.int .i64 0]) ?_ 0 _ rfl;(with_reducible repeat first|apply bkN|apply bkD|apply bkA);exact BK238.out) Try.underlying25 rfl (by kernel_rfl)) rfl ?_
 exact ⟨_,zE_,by (with_reducible repeat (first|apply Kd.S_alloc|apply Kd.S_drewN|apply Kd.S_drew));exact Kd.S_mono (Kd.S_far (p:=⟨gb238,1,none⟩) (Kd.S_far (p:=⟨gb238,0,none⟩) (Kd.S_types HO241.out BK238.out (by decide)) (fun _ hk=>hk.2) (.slice (some ⟨go25,0,none⟩) t239.length co14)) (fun _ hk=>hk.2) (.int .i64 t242)) (fun _ hk=>trivial),zi74_2 HI0.out NB0_238.out NB0_244.out,zb3 HB.out (IsS74.ge HI0.out) GE238.out GE244.out,zkp2 HK.out GW238.out GW244.out⟩
def spec_newReader.f (l0:List Int):Option (List Int × Int):=if (l0.length:Int)>2000 then (if 2000≤(l0.length:Int) then (some (l0.take 2000,0)) else (none)) else (some (l0,0))
set_option maxHeartbeats 8000000 in
set_option maxRecDepth 100000 in
theorem spec_newReader.calls (A0:Option Addr) (c0:Nat) (l0:List Int) (r1:List Int) (r2:Int) (w0 w:World) (hB:Below w0.heap.size w0 w) (hr0:Kd.C (Kd.int .u8) w0 A0 l0.length l0) (hc0:l0.length≤c0) (h:spec_newReader.f l0=some (r1,r2)) :
  Calls Try.prog 40 #[.slice A0 l0.length c0] w fun e w'=>∃ g_:Nat,e=.returned (.pointer (some ⟨g_,0,none⟩))∧IsS74 w0 w' g_ r1 r2∧Below w0.heap.size w0 w'∧Below w.heap.size w w':=by
 have hu74:=Try.underlying74
 have HR0:=As_ hr0
 have HC0:=As_ hc0
 clear hr0 hc0
 have HBW:=As_ (Below.refl w.heap.size w)
 have HW0:=As_ hB.size
 have HB:=As_ hB
 clear hB
 have H:(if (l0.length:Int)>2000 then (if 2000≤(l0.length:Int) then (some (l0.take 2000,0)) else (none)) else (some (l0,0)))=some (r1,r2):=h
 clear h
 by_cases c2:(l0.length:Int)>2000
 rotate_left
 ·rw [if_neg c2] at H
  have c2b0:decide (2000<(l0.length:Int))=false:=deF c2
  have c2b1:decide (2000<l0.length)=false:=deF (by omega)
  clear c2
  simp only [Option.some.injEq,Prod.mk.injEq] at H
  obtain ⟨rfl,rfl⟩:=H
  go_enter Try.func40,Try.ntmps40
  go_wp2_with (first|((with_reducible refine gate_dst (N:=10) rfl ?_);refine box_event ?hg (N:=10) ?hd (cs:=#[.slice A0 l0.length c0,.int .i64 0]) (t:=74) ?hr ?_;(case hd=>rfl);(case hg=>rfl);(case hr=>go_simp <;> rfl);intro gb304 hg w6 hbox hb;have n0_:=As_ (bwT HBW.out hb);have n1_:=As_ (bwT (zb0 HB.out) hb);have n2_:=As_ (hbox);have n3_:=As_ ((by rw [hg];exact (bwZ (zb0 HBW.out)):w.heap.size≤gb304));have n4_:=As_ ((Nat.le_trans HW0.out (by rw [hg];exact (bwZ (zb0 HBW.out)):w.heap.size≤gb304):w0.heap.size≤gb304));clear HBW HB;revert n0_ n1_ n2_ n3_ n4_;intro HBW HB BK304 GW304 GE304;clear hb hbox hg))
  go_ret
  exact ⟨_,rfl,(show IsS74 w0 _ gb304 l0 0 from ⟨_,_,by (with_reducible repeat first|apply bkN|apply bkD|apply bkA);exact BK304.out,GE304.out,HR0.out⟩),zb1 HB.out GE304.out,zb1 HBW.out GW304.out⟩
 rw [if_pos c2] at H
 have c2b0:decide (2000<(l0.length:Int))=true:=deT c2
 have c2b1:decide (2000<l0.length)=true:=deT (by omega)
 clear c2
 by_cases c3:2000≤(l0.length:Int)
 rotate_left
 ·rw [if_neg c3] at H
  exact absurd H (by simp)
 rw [if_pos c3] at H
 have c3b0:=eq_true c3
 have c3b1:decide (2000≤(l0.length:Int))=true:=deT c3
 clear c3
 simp only [Option.some.injEq,Prod.mk.injEq] at H
 obtain ⟨rfl,rfl⟩:=H
 obtain ⟨i04,hi04,_,hsz4,_⟩:=info_parts info5
 obtain ⟨hcut4,hA4,hC4⟩:=print_take_of (P:=Try.prog) (Value.int .u8) 0 22 5 .i64 Try.underlying22 hi04 hsz4 A0 c0 l0 2000 (by omega) (odT zA_) HC0.out
 have HR302:=As_ (Kd.C_of_reads (h1:=fun _=>rfl) (hA4 _ (Kd.reads_of_C HR0.out)))
 have HC302:=As_ hC4
 clear hA4 hC4 hi04 hsz4
 go_enter Try.func40,Try.ntmps40
 go_wp2_with (first|((with_reducible refine gate_dst (N:=10) rfl ?_);refine box_event ?hg (N:=10) ?hd (cs:=#[.slice A0 (l0.take 2000).length c0,.int .i64 0]) (t:=74) ?hr ?_;(case hd=>rfl);(case hg=>rfl);(case hr=>go_simp <;> rfl);intro gb303 hg w5 hbox hb;have n0_:=As_ (bwT HBW.out hb);have n1_:=As_ (bwT (zb0 HB.out) hb);have n2_:=As_ (hbox);have n3_:=As_ ((by rw [hg];exact (bwZ (zb0 HBW.out)):w.heap.size≤gb303));have n4_:=As_ ((Nat.le_trans HW0.out (by rw [hg];exact (bwZ (zb0 HBW.out)):w.heap.size≤gb303):w0.heap.size≤gb303));clear HBW HB;revert n0_ n1_ n2_ n3_ n4_;intro HBW HB BK303 GW303 GE303;clear hb hbox hg))
 go_ret
 exact ⟨_,rfl,(show IsS74 w0 _ gb303 (l0.take 2000) 0 from ⟨_,_,by (with_reducible repeat first|apply bkN|apply bkD|apply bkA);exact BK303.out,GE303.out,HR302.out⟩),zb1 HB.out GE303.out,zb1 HBW.out GW303.out⟩
end Go.Proofs.Ytapaegcombfafaa.Q
