import Derived.Test.YtapaegcombfafaaQ0
import Derived.Test.YtapaegcombfafaaQ65
import Derived.Test.YtapaegcombfafaaQ97
namespace Go.Proofs.Ytapaegcombfafaa.Q
open Go.RowKit Go.Proofs.YtapaegcombfafaaW.PrintWords Go.Proofs.YtapaegcombfafaaW.PrintLast Go.Proofs.YtapaegcombfafaaW.PrintMore
attribute [local go_sem] max2_int min2_int max_two min_two max_three min_three max_four min_four
set_option linter.unusedVariables false
set_option linter.unusedSimpArgs false
mutual
def spec_someGraph.l0:Nat→Int→List Int→Int→List (S58)→Int→Option ((List (S58)) × Int × Int)
 | 0,_,_,_,_,_=>none
 | k+1,x4,x1000,x1001,x215000,x215001=>if x4>0 then ((spec_someNode.f k x1000 x1001).bind fun bt220=>(if x215000.length<3518437208883 then (spec_someGraph.l0 k (wrap64 (x4 - 1)) x1000 bt220.2.2.2 (x215000++[(⟨bt220.1,bt220.2.1,bt220.2.2.1⟩:S58)]) x215001) else (none))) else (spec_someGraph.l1 k 0 x1000 x1001 x215000 (wrap64 ((x215000.length:Int) - 1)))
def spec_someGraph.l1:Nat→Int→List Int→Int→List (S58)→Int→Option ((List (S58)) × Int × Int)
 | 0,_,_,_,_,_=>none
 | k+1,x5,x1000,x1001,x215000,x215001=>if x5<(x215000.length:Int) then ((spec_addKids.f k x1000 x1001 x215000 x215001 x5).bind fun bt229=>(spec_someGraph.l1 k (wrap64 (x5+1)) x1000 bt229.2.2 bt229.1 bt229.2.1)) else ((spec_reader_pick.f k x1000 x1001 3).bind fun bt234=>(if bt234.1=0 then ((spec_reader_pick.f k x1000 bt234.2 (x215000.length:Int)).bind fun bt236=>(some (x215000,bt236.1,bt236.2))) else (some (x215000,x215001,bt234.2))))
end
def spec_someGraph.f (k:Nat) (s0_0:List Int) (s0_1:Int):Option ((List (S58)) × Int × Int):=(spec_reader_one.f k s0_0 s0_1 (([5,6,4,7,3,8,1,2,10]:List Int))).bind fun bt218=>(spec_someGraph.l0 k bt218.1 s0_0 bt218.2 ([]:List (S58)) 0)
set_option maxRecDepth 100000 in
theorem spec_someGraph.mono_l:∀ k,(∀ y0 y1 y2 y3 y4,LeO (spec_someGraph.l0 k y0 y1 y2 y3 y4) (spec_someGraph.l0 (k+1) y0 y1 y2 y3 y4))∧(∀ y0 y1 y2 y3 y4,LeO (spec_someGraph.l1 k y0 y1 y2 y3 y4) (spec_someGraph.l1 (k+1) y0 y1 y2 y3 y4))
 | 0=>⟨fun _ _ _ _ _ r h=>(by cases h),fun _ _ _ _ _ r h=>(by cases h)⟩
 | k+1=>by
  obtain ⟨ih0,ih1⟩:=spec_someGraph.mono_l k
  refine ⟨?_,?_⟩
  ·intro y0 y1 y2 y3 y4
   unfold spec_someGraph.l0
   repeat' first
   | (with_reducible exact ih0 _ _ _ _ _)
   | (with_reducible exact ih1 _ _ _ _ _)
   | (with_reducible exact spec_addKids.mono _ _ _ _ _ _)
   | (with_reducible exact spec_reader_one.mono _ _ _ _)
   | (with_reducible exact spec_reader_pick.mono _ _ _ _)
   | (with_reducible exact spec_someNode.mono _ _ _)
   | (with_reducible exact LeO.refl _)
   | (with_reducible exact LeO.none _)
   | (with_reducible refine LeO.ite ?_ ?_)
   | (with_reducible refine LeO.bind ?_ (fun _=>?_))
   | exact ih0 _ _ _ _ _
   | exact ih1 _ _ _ _ _
   | exact spec_addKids.mono _ _ _ _ _ _
   | exact spec_reader_one.mono _ _ _ _
   | exact spec_reader_pick.mono _ _ _ _
   | exact spec_someNode.mono _ _ _
   | exact LeO.none _
   | refine LeO.ite ?_ ?_
   | refine LeO.bind ?_ (fun _=>?_)
  ·intro y0 y1 y2 y3 y4
   unfold spec_someGraph.l1
   repeat' first
   | (with_reducible exact ih0 _ _ _ _ _)
   | (with_reducible exact ih1 _ _ _ _ _)
   | (with_reducible exact spec_addKids.mono _ _ _ _ _ _)
   | (with_reducible exact spec_reader_one.mono _ _ _ _)
   | (with_reducible exact spec_reader_pick.mono _ _ _ _)
   | (with_reducible exact spec_someNode.mono _ _ _)
   | (with_reducible exact LeO.refl _)
   | (with_reducible exact LeO.none _)
   | (with_reducible refine LeO.ite ?_ ?_)
   | (with_reducible refine LeO.bind ?_ (fun _=>?_))
   | exact ih0 _ _ _ _ _
   | exact ih1 _ _ _ _ _
   | exact spec_addKids.mono _ _ _ _ _ _
   | exact spec_reader_one.mono _ _ _ _
   | exact spec_reader_pick.mono _ _ _ _
   | exact spec_someNode.mono _ _ _
   | exact LeO.none _
   | refine LeO.ite ?_ ?_
   | refine LeO.bind ?_ (fun _=>?_)
set_option maxRecDepth 100000 in
theorem spec_someGraph.mono:∀ a0 a1 k,LeO (spec_someGraph.f k a0 a1) (spec_someGraph.f (k+1) a0 a1):=by
 intro a0 a1 k
 obtain ⟨ih0,ih1⟩:=spec_someGraph.mono_l k
 unfold spec_someGraph.f
 repeat' first
   | (with_reducible exact ih0 _ _ _ _ _)
   | (with_reducible exact ih1 _ _ _ _ _)
   | (with_reducible exact spec_addKids.mono _ _ _ _ _ _)
   | (with_reducible exact spec_reader_one.mono _ _ _ _)
   | (with_reducible exact spec_reader_pick.mono _ _ _ _)
   | (with_reducible exact spec_someNode.mono _ _ _)
   | (with_reducible exact LeO.refl _)
   | (with_reducible exact LeO.none _)
   | (with_reducible refine LeO.ite ?_ ?_)
   | (with_reducible refine LeO.bind ?_ (fun _=>?_))
   | exact ih0 _ _ _ _ _
   | exact ih1 _ _ _ _ _
   | exact spec_addKids.mono _ _ _ _ _ _
   | exact spec_reader_one.mono _ _ _ _
   | exact spec_reader_pick.mono _ _ _ _
   | exact spec_someNode.mono _ _ _
   | exact LeO.none _
   | refine LeO.ite ?_ ?_
   | refine LeO.bind ?_ (fun _=>?_)
def spec_someGraph.T5:Bool × List (List Nat × List Nat):=(true,[([],[]),([0],[0]),([],[]),([2],[2]),([3],[3]),([1,4,3],[1,4]),([0,1,2,3,4,5],[]),([6,5,5,0,1,2,3,4,5],[5,6])])
def spec_someGraph.B5:List Nat:=[0,1,0,4,12,31,63,127]
theorem spec_someGraph.tab5:rtab .any (opsOf Try.f86 5)=spec_someGraph.T5:=by kernel_rfl
theorem spec_someGraph.bits5:waitsOk spec_someGraph.T5.2 spec_someGraph.B5=true:=by kernel_rfl
set_option maxHeartbeats 8000000 in
set_option maxRecDepth 100000 in
theorem spec_someGraph.calls (k:Nat) (g:Nat) (s0_0:List Int) (s0_1:Int) (r1:List (S58)) (r2:Int) (r3:Int) (w0 w:World) (hI:IsS74 w0 w g s0_0 s0_1) (hB:Below w0.heap.size w0 w) (h:spec_someGraph.f k s0_0 s0_1=some (r1,r2,r3)) :
  Calls Try.prog 86 #[.pointer (some ⟨g,0,none⟩)] w fun e w'=>∃ v0_:Value,e=.returned (.agg #[v0_,.int .i64 r2])∧Kd.S k58 58 w' w.heap.size (fun _=>True) v0_ r1∧IsS74 w0 w' g s0_0 r3∧Below w0.heap.size w0 w'∧KeepBut w w' g none:=by
 have hu25:=Try.underlying25
 have HI0:=As_ hI
 have HK:=As_ (KeepBut.refl w g none)
 have HL:=As_ hB.size
 clear hI
 have HW0:=As_ hB.size
 have HB:=As_ hB
 clear hB
 have H:((spec_reader_one.f k s0_0 s0_1 (([5,6,4,7,3,8,1,2,10]:List Int))).bind fun bt218=>(spec_someGraph.l0 k bt218.1 s0_0 bt218.2 ([]:List (S58)) 0))=some (r1,r2,r3):=h
 clear h
 obtain ⟨y215,hy215⟩:∃ y_:List Int,y_=(([5,6,4,7,3,8,1,2,10]:List Int)):=⟨_,rfl⟩
 replace H:((spec_reader_one.f k s0_0 s0_1 y215).bind fun bt218=>(spec_someGraph.l0 k bt218.1 s0_0 bt218.2 ([]:List (S58)) 0))=some (r1,r2,r3):=zH_ H hy215
 have Ny215:=As_ hy215
 clear hy215
 replace H:=obS H
 obtain ⟨⟨t218,t219⟩,A20,H⟩:=H
 replace H:(spec_someGraph.l0 k t218 s0_0 t219 ([]:List (S58)) 0)=some (r1,r2,r3):=H
 have A2:=As_ A20
 clear A20
 have H':=As_ H
 clear H
 go_enter Try.func86,Try.ntmps86
 go_wp2_with (first|((with_reducible refine gate_dst (N:=2) rfl ?_);refine box_event ?hg (N:=2) ?hd (cs:=#[.slice none 0 0,.int .i64 0]) (t:=25) ?hr ?_;(case hd=>rfl);(case hg=>rfl);(case hr=>go_simp <;> rfl);intro gb213 hg w3 hbox hb;have n0_:=As_ (IsS74.below (zi74_0 HI0.out) hb);have n1_:=As_ (KeepBut.trans (zkp0 HK.out) (KeepBut.of_below hb g none) (.inl rfl));have n2_:=As_ (bwT (zb1 HB.out (IsS74.ge HI0.out)) hb);have n3_:=As_ (hbox);have n4_:=As_ ((by rw [hg];exact (keep_size (w:=w) (g:=g) (row:=none) (zkp0 HK.out)):w.heap.size≤gb213));have n5_:=As_ ((Nat.le_trans HW0.out (by rw [hg];exact (keep_size (w:=w) (g:=g) (row:=none) (zkp0 HK.out)):w.heap.size≤gb213):w0.heap.size≤gb213));have n6_:=As_ ((by rw [hg];exact Nat.ne_of_lt (IsS74.lt (show IsS74 w0 _ g s0_0 s0_1 from zi74_0 HI0.out)):g≠gb213));have n7_:=As_ ((by rw [hg];exact Nat.ne_of_gt (IsS74.lt (show IsS74 w0 _ g s0_0 s0_1 from zi74_0 HI0.out)):gb213≠g));clear HI0 HK HB;revert n0_ n1_ n2_ n3_ n4_ n5_ n6_ n7_;intro HI0 HK HB BK213 GW213 GE213 NB0_213 NB213_0;clear hb hbox hg)|((with_reducible refine gate_dst (N:=3) rfl ?_);refine box_event ?hg (N:=3) ?hd (cs:=#[.slice none 0 0,.int .i64 0]) (t:=25) ?hr ?_;(case hd=>rfl);(case hg=>rfl);(case hr=>go_simp <;> rfl);intro gb214 hg w4 hbox hb;have n0_:=As_ (IsS74.below (zi74_1 HI0.out NB0_213.out) hb);have n1_:=As_ (zkb BK213.out hb);have n2_:=As_ (KeepBut.trans (zkp1 HK.out GW213.out) (KeepBut.of_below hb g none) (.inl rfl));have n3_:=As_ (bwT (zb2 HB.out (IsS74.ge HI0.out) GE213.out) hb);have n4_:=As_ (hbox);have n5_:=As_ ((by rw [hg];exact (keep_size (w:=w) (g:=g) (row:=none) (zkp1 HK.out GW213.out)):w.heap.size≤gb214));have n6_:=As_ ((Nat.le_trans HW0.out (by rw [hg];exact (keep_size (w:=w) (g:=g) (row:=none) (zkp1 HK.out GW213.out)):w.heap.size≤gb214):w0.heap.size≤gb214));have n7_:=As_ ((by rw [hg];exact Nat.ne_of_lt (zkl BK213.out):gb213≠gb214));have n8_:=As_ ((by rw [hg];exact Nat.ne_of_gt (zkl BK213.out):gb214≠gb213));have n9_:=As_ ((by rw [hg];exact Nat.ne_of_lt (IsS74.lt (show IsS74 w0 _ g s0_0 s0_1 from zi74_1 HI0.out NB0_213.out)):g≠gb214));have n10_:=As_ ((by rw [hg];exact Nat.ne_of_gt (IsS74.lt (show IsS74 w0 _ g s0_0 s0_1 from zi74_1 HI0.out NB0_213.out)):gb214≠g));clear HI0 BK213 HK HB;revert n0_ n1_ n2_ n3_ n4_ n5_ n6_ n7_ n8_ n9_ n10_;intro HI0 BK213 HK HB BK214 GW214 GE214 NB213_214 NB214_213 NB0_214 NB214_0;clear hb hbox hg;have hnb5:=NB214_213.out;have hnc5:=NB213_214.out;have hnb6:=NB214_0.out;have hnc6:=NB0_214.out;obtain ⟨hcz7_0,hcz7_1,hfz7_0,hfz7_1⟩:=bk2 BK214.out)|((with_reducible refine gate_dst (N:=8) rfl ?_);refine Kd.R_lit (Kd.int .i64) _ 3 ?hg (N:=8) ?hd (xs:=([5,6,4,7,3,8,1,2,10]:List Int)) (inner:=[.int .i64 5,.int .i64 6,.int .i64 4,.int .i64 7,.int .i64 3,.int .i64 8,.int .i64 1,.int .i64 2,.int .i64 10]) (ok:=fun _=>True) (okp:=fun _=>True) ?hr ?hp (fun _ hk=>hk) trivial (Below.refl _ _) (Nat.le_refl _) (by simp) ?_;(case hd=>rfl);(case hg=>rfl);(case hr=>go_simp <;> rfl);(case hp=>exact (Reps.one (show Kd.M (Kd.int .i64) _ _ _ 5 [.int .i64 5] from rfl) (Reps.one (show Kd.M (Kd.int .i64) _ _ _ 6 [.int .i64 6] from rfl) (Reps.one (show Kd.M (Kd.int .i64) _ _ _ 4 [.int .i64 4] from rfl) (Reps.one (show Kd.M (Kd.int .i64) _ _ _ 7 [.int .i64 7] from rfl) (Reps.one (show Kd.M (Kd.int .i64) _ _ _ 3 [.int .i64 3] from rfl) (Reps.one (show Kd.M (Kd.int .i64) _ _ _ 8 [.int .i64 8] from rfl) (Reps.one (show Kd.M (Kd.int .i64) _ _ _ 1 [.int .i64 1] from rfl) (Reps.one (show Kd.M (Kd.int .i64) _ _ _ 2 [.int .i64 2] from rfl) (Reps.one (show Kd.M (Kd.int .i64) _ _ _ 10 [.int .i64 10] from rfl) (Reps.none _ _)))))))))));intro v216 w8 ho9 hb hg_ hnew_;clear hg_ hnew_;(first|rw [← Ny215.out] at ho9|(simp only [Int.reduceToNat] at ho9;rw [← Ny215.out] at ho9));have n0_:=As_ (Kd.R_lower ho9 (keep_size (w:=w) (g:=g) (row:=none) (zkp2 HK.out GW213.out GW214.out)));have n1_:=As_ (IsS74.below (show IsS74 w0 ((w4.setCell ⟨gb214,0,none⟩ (.slice none 0 0)).setCell ⟨gb214,1,none⟩ (.int .i64 0)) g s0_0 s0_1 from zi74_2 HI0.out NB0_213.out NB0_214.out) hb);have n2_:=As_ (blk_below (g:=gb213) (o:=.cells #[.slice none 0 0,.int .i64 0] 25 (0,0)) (by (with_reducible repeat first|apply bkN|apply bkD|apply bkA);refine blk_far ?_ NB213_214.out _;(with_reducible repeat first|apply bkN|apply bkD|apply bkA);refine blk_far ?_ NB213_214.out _;(with_reducible repeat first|apply bkN|apply bkD|apply bkA);exact BK213.out) hb);have n3_:=As_ (blk_below (g:=gb214) (o:=.cells #[.slice none 0 0,.int .i64 0] 25 (0,0)) (by (with_reducible repeat first|apply bkN|apply bkD|apply bkA);refine blk_put (cs:=#[.slice none 0 0,.int .i64 0]) ?_ 1 _ rfl;(with_reducible repeat first|apply bkN|apply bkD|apply bkA);refine blk_put (cs:=#[.slice none 0 0,.int .i64 0]) ?_ 0 _ rfl;(with_reducible repeat first|apply bkN|apply bkD|apply bkA);exact BK214.out) hb);have n4_:=As_ (KeepBut.trans (zkp2 HK.out GW213.out GW214.out) (KeepBut.of_below hb g none) (.inl rfl));have n5_:=As_ (bwT (zb3 HB.out (IsS74.ge HI0.out) GE213.out GE214.out) hb);clear HI0 BK213 BK214 HK HB;revert n0_ n1_ n2_ n3_ n4_ n5_;intro HO217 HI0 BK213 BK214 HK HB;clear hb ho9;obtain ⟨Ao10,co10,eo10⟩:=Kd.R_slice HO217.out;subst eo10)|((with_reducible refine gate_callee (f:=67) rfl ?_);refine goesL_ (some 9) rfl rfl Try.func67 (by kernel_rfl) rfl #[.pointer (some ⟨g,0,none⟩),.slice Ao10 y215.length co10] rfl zM_ ?_;(with_reducible refine (spec_reader_one.calls k g s0_0 s0_1 _ _ y215 t218 t219 w0 _ ?side1 ?side2 ?side3 ?side4 ?side5 A2.out).mono ?_);(case side1=>exact zi74_2 HI0.out NB0_213.out NB0_214.out);(case side2=>exact zb3 HB.out (IsS74.ge HI0.out) GE213.out GE214.out);(case side3=>exact zC_ (Kd.R_reads' HO217.out).2.2);(case side4=>exact (Kd.R_reads' HO217.out).2.1);(case side5=>exact far_slice (IsS74.own_ne HI0.out HO217.out (by decide)));rintro e w11 ⟨rfl,hi,hb,hk⟩;refine ⟨_,rfl,?_⟩;have n0_:=As_ (KeepBut.blk hk (g':=gb213) (o:=.cells #[.slice none 0 0,.int .i64 0] 25 (0,0)) (zk_ BK213.out) NB213_0.out (by simp));have n1_:=As_ (KeepBut.blk hk (g':=gb214) (o:=.cells #[.slice none 0 0,.int .i64 0] 25 (0,0)) (zk_ BK214.out) NB214_0.out (by simp));have n2_:=As_ (Kd.R_mono (Kd.R_keep (IsS74.apart (show IsS74 w0 _ g s0_0 s0_1 from zi74_2 HI0.out NB0_213.out NB0_214.out) (zR_ HO217.out) (by decide)) hk (fun _ h=>h.2)) (fun _ h=>h.1));have n3_:=As_ (KeepBut.trans (zkp2 HK.out GW213.out GW214.out) hk (.inl rfl));have n4_:=As_ (hb);have n5_:=As_ (hi);clear BK213 BK214 HO217 HK HB HI0;revert n0_ n1_ n2_ n3_ n4_ n5_;intro BK213 BK214 HO217 HK HB HI0))
 go_loopg [4] k (fun kq v4 w'=>∃ (x4_1:Int) (x1001_1:Int) (x215000_1:List (S58)) (u215000:Value),v4=.int .i64 x4_1∧Aside0 (spec_someGraph.l0 kq x4_1 s0_0 x1001_1 x215000_1 0=some (r1,r2,r3))∧Aside0 (kq≤k)∧Aside0 (Kd.S kzN 58 w' w.heap.size (fun _=>True) u215000 x215000_1)∧Aside0 (w'.heap[gb213]?=some (.cells #[(.slice none 0 0),.int .i64 0] 25 (0,0)))∧Aside0 (w'.heap[gb214]?=some (.cells #[u215000,.int .i64 0] 25 (0,0)))∧Aside0 (IsS74 w0 w' g s0_0 x1001_1)∧Aside0 (KeepBut w w' g none)∧Aside0 (Below w0.heap.size w0 w'))
 case atStart=>exact ⟨(t218),(t219),(([]:List (S58))),(.slice none 0 0),zT_,H',⟨Nat.le_refl _⟩,⟨by first|exact Kd.S_nil _ _ _ _ _|exact Kd.N_nil _ _ _ _ _|exact Kd.V_nil _ _ _ _ _|exact Kd.Q_nil _ _ _ _ _|exact Kd.R_nil _ _ _ _ _⟩,⟨by (with_reducible repeat first|apply bkN|apply bkD|apply bkA);exact BK213.out⟩,⟨by (with_reducible repeat first|apply bkN|apply bkD|apply bkA);exact BK214.out⟩,⟨zi74_2 HI0.out NB0_213.out NB0_214.out⟩,⟨zkp2 HK.out GW213.out GW214.out⟩,⟨zb3 HB.out (IsS74.ge HI0.out) GE213.out GE214.out⟩⟩
 case round=>
  clear H'
  obtain ⟨x4_1,x1001_1,x215000_1,u215000,rfl,HA,HK1,HO_215000,BK213,BK214,HI0,HK,HB⟩:=hrel
  cases gk with
  | zero=>exact absurd HA.out (fun h_=>(by cases h_))
  | succ k1=>
   have H:=HA.out
   clear HA
   simp only [spec_someGraph.l0] at H
   by_cases c12:x4_1>0
   rotate_left
   ·rw [if_neg c12] at H
    have c12b0:decide (0<x4_1)=false:=deF c12
    clear c12
    have H':=As_ H
    clear H
    have hnb21:=NB214_213.out
    have hnc21:=NB213_214.out
    have hnb22:=NB214_0.out
    have hnc22:=NB0_214.out
    obtain ⟨hcz23_0,hcz23_1,hfz23_0,hfz23_1⟩:=bk2 BK214.out
    obtain ⟨Ao24,co24,eo24⟩:=Kd.S_slice HO_215000.out
    subst eo24
    go_wp2
    go_loopg [5] k1 (fun kq v5 w'=>∃ (x5_2:Int) (x1001_2:Int) (x215000_2:List (S58)) (x215001_2:Int) (u215000:Value),v5=.int .i64 x5_2∧Aside0 (spec_someGraph.l1 kq x5_2 s0_0 x1001_2 x215000_2 x215001_2=some (r1,r2,r3))∧Aside0 (kq≤k1)∧Aside0 (Kd.S kzN 58 w' w.heap.size (fun _=>True) u215000 x215000_2)∧Aside0 (w'.heap[gb213]?=some (.cells #[(.slice none 0 0),.int .i64 0] 25 (0,0)))∧Aside0 (w'.heap[gb214]?=some (.cells #[u215000,.int .i64 x215001_2] 25 (0,0)))∧Aside0 (IsS74 w0 w' g s0_0 x1001_2)∧Aside0 (KeepBut w w' g none)∧Aside0 (Below w0.heap.size w0 w'))
    case atStart=>exact ⟨(0),(x1001_1),(x215000_1),(wrap64 ((x215000_1.length:Int) - 1)),(.slice Ao24 x215000_1.length co24),zT_,H',⟨Nat.le_refl _⟩,⟨by (with_reducible repeat (first|apply Kd.S_alloc|apply Kd.S_drewN|apply Kd.S_drew));exact Kd.S_mono (Kd.S_far (p:=⟨gb214,1,none⟩) (Kd.S_types HO_215000.out BK214.out (by decide)) (fun _ hk=>hk.2) (.int .i64 (wrap64 ((x215000_1.length:Int) - 1)))) (fun _ hk=>trivial)⟩,⟨by (with_reducible repeat first|apply bkN|apply bkD|apply bkA);refine blk_far ?_ NB213_214.out _;(with_reducible repeat first|apply bkN|apply bkD|apply bkA);exact BK213.out⟩,⟨by (with_reducible repeat first|apply bkN|apply bkD|apply bkA);refine blk_put (cs:=#[.slice Ao24 x215000_1.length co24,.int .i64 0]) ?_ 1 _ rfl;(with_reducible repeat first|apply bkN|apply bkD|apply bkA);exact BK214.out⟩,⟨zi74_2 HI0.out NB0_213.out NB0_214.out⟩,⟨zkp2 HK.out GW213.out GW214.out⟩,⟨zb3 HB.out (IsS74.ge HI0.out) GE213.out GE214.out⟩⟩
    case round=>
     clear H'
     obtain ⟨x5_2,x1001_2,x215000_2,x215001_2,u215000,rfl,HA,HK2,HO_215000,BK213,BK214,HI0,HK,HB⟩:=hrel
     cases gk with
     | zero=>exact absurd HA.out (fun h_=>(by cases h_))
     | succ k2=>
      have H:=HA.out
      clear HA
      simp only [spec_someGraph.l1] at H
      by_cases c25:x5_2<(x215000_2.length:Int)
      ·rw [if_pos c25] at H
       have c25b0:decide (x5_2<(x215000_2.length:Int))=true:=deT c25
       clear c25
       replace H:=obS H
       obtain ⟨⟨t229,t232,t233⟩,A260,H⟩:=H
       replace H:(spec_someGraph.l1 k2 (wrap64 (x5_2+1)) s0_0 t233 t229 t232)=some (r1,r2,r3):=H
       have A26:=As_ A260
       clear A260
       have H':=As_ H
       clear H
       have hnb27:=NB214_213.out
       have hnc27:=NB213_214.out
       have hnb28:=NB214_0.out
       have hnc28:=NB0_214.out
       obtain ⟨hcz29_0,hcz29_1,hfz29_0,hfz29_1⟩:=bk2 BK214.out
       obtain ⟨Ao30,co30,eo30⟩:=Kd.S_slice HO_215000.out
       subst eo30
       go_wp2_with (first|(obtain ⟨Pm_,hS_,hPa_,hPt_⟩:=kzN_lend HO_215000.out;(with_reducible refine gate_callee (f:=97) rfl ?_);refine goesL_ (some 36) rfl rfl Try.func97 (by kernel_rfl) rfl #[.pointer (some ⟨g,0,none⟩),.agg #[.slice Ao30 x215000_2.length co30,.int .i64 x215001_2],.int .i64 x5_2] rfl zM_ ?_;(with_reducible refine (spec_addKids.calls k2 g s0_0 x1001_2 Pm_ (.slice Ao30 x215000_2.length co30) x215000_2 x215001_2 x5_2 t229 t232 t233 w0 _ ?side1 ?side2 ?side3 A26.out).mono ?_);(case side1=>exact zi74_2 HI0.out NB0_213.out NB0_214.out);(case side2=>exact zb3 HB.out (IsS74.ge HI0.out) GE213.out GE214.out);(case side3=>exact Kd.S_lower hS_ HL.out);rintro e w31 ⟨v230,rfl,ho0,hi,hb,hkp⟩;refine ⟨_,rfl,?_⟩;have n0_:=As_ (blk_kept (zk_ BK213.out) hkp (fun hs_=>Or.elim hs_ (hPt_ _ _ _ BK213.out (by decide)) (fun e_=>NB213_0.out e_)));have n1_:=As_ (blk_kept (zk_ BK214.out) hkp (fun hs_=>Or.elim hs_ (hPt_ _ _ _ BK214.out (by decide)) (fun e_=>NB214_0.out e_)));have n2_:=As_ (hi);have n3_:=As_ (Kd.S_mono (ok':=fun k_=>True) (kzN_raise ho0 (fun k_ hk_=>Or.elim hk_ (fun h_=>hPa_ k_ h_) (fun hn_=>Nat.le_trans (keep_size (w:=w) (g:=g) (row:=none) (zkp2 HK.out GW213.out GW214.out)) hn_))) (fun k_ hk_=>trivial));have n4_:=As_ (Kept.keepG (zkp2 HK.out GW213.out GW214.out) hkp (fun k_ hs_=>Or.elim hs_ (fun h_=>.inr (hPa_ k_ h_)) (fun e_=>.inl e_)));have n5_:=As_ (hb);clear BK213 BK214 HI0 HK HB HO_215000;revert n0_ n1_ n2_ n3_ n4_ n5_;intro BK213 BK214 HI0 HO231 HK HB;obtain ⟨Ao32,co32,eo32⟩:=Kd.S_slice HO231.out;subst eo32;obtain ⟨hcz33_0,hcz33_1,hfz33_0,hfz33_1⟩:=bk2 BK214.out))
       go_roundg k2
       case measure=>have:=HK1.out;have:=HK2.out;omega
       case rel=>exact ⟨(wrap64 (x5_2+1)),(t233),(t229),(t232),(.slice Ao32 t229.length co32),zT_,H',⟨by have:=HK1.out;have:=HK2.out;omega⟩,⟨by (with_reducible repeat (first|apply Kd.S_alloc|apply Kd.S_drewN|apply Kd.S_drew));exact Kd.S_mono (Kd.S_far (p:=⟨gb214,1,none⟩) (Kd.S_far (p:=⟨gb214,0,none⟩) (Kd.S_types HO231.out BK214.out (by decide)) (fun _ hk=>hk.2) (.slice Ao32 t229.length co32)) (fun _ hk=>hk.2) (.int .i64 t232)) (fun _ hk=>trivial)⟩,⟨by (with_reducible repeat first|apply bkN|apply bkD|apply bkA);refine blk_far ?_ NB213_214.out _;(with_reducible repeat first|apply bkN|apply bkD|apply bkA);refine blk_far ?_ NB213_214.out _;(with_reducible repeat first|apply bkN|apply bkD|apply bkA);exact BK213.out⟩,⟨by (with_reducible repeat first|apply bkN|apply bkD|apply bkA);refine blk_put (cs:=#[.slice Ao32 t229.length co32,.int .i64 x215001_2]) ?_ 1 _ rfl;(with_reducible repeat first|apply bkN|apply bkD|apply bkA);refine blk_put (cs:=#[.slice Ao30 x215000_2.length co30,.int .i64 x215001_2]) ?_ 0 _ rfl;(with_reducible repeat first|apply bkN|apply bkD|apply bkA);exact BK214.out⟩,⟨zi74_2 HI0.out NB0_213.out NB0_214.out⟩,⟨zkp2 HK.out GW213.out GW214.out⟩,⟨zb3 HB.out (IsS74.ge HI0.out) GE213.out GE214.out⟩⟩
      rw [if_neg c25] at H
      have c25b0:decide (x5_2<(x215000_2.length:Int))=false:=deF c25
      clear c25
      replace H:=obS H
      obtain ⟨⟨t234,t235⟩,A340,H⟩:=H
      replace H:(if t234=0 then ((spec_reader_pick.f k2 s0_0 t235 (x215000_2.length:Int)).bind fun bt236=>(some (x215000_2,bt236.1,bt236.2))) else (some (x215000_2,x215001_2,t235)))=some (r1,r2,r3):=H
      have A34:=As_ A340
      clear A340
      by_cases c35:t234=0
      rotate_left
      ·rw [if_neg c35] at H
       have c35b0:(t234 == 0)=false:=beq_eq_false_iff_ne.mpr c35
       have c35b1:(t234 != 0)=true:=bne_iff_ne.mpr c35
       simp only [Option.some.injEq,Prod.mk.injEq] at H
       obtain ⟨rfl,rfl,rfl⟩:=H
       have hnb47:=NB214_213.out
       have hnc47:=NB213_214.out
       have hnb48:=NB214_0.out
       have hnc48:=NB0_214.out
       obtain ⟨hcz49_0,hcz49_1,hfz49_0,hfz49_1⟩:=bk2 BK214.out
       obtain ⟨Ao50,co50,eo50⟩:=Kd.S_slice HO_215000.out
       subst eo50
       go_wp2_with (first|((with_reducible refine gate_callee (f:=65) rfl ?_);refine goesL_ (some 38) rfl rfl Try.func65 (by kernel_rfl) rfl #[.pointer (some ⟨g,0,none⟩),.int .i64 3] rfl zM_ ?_;(with_reducible refine (spec_reader_pick.calls k2 g s0_0 x1001_2 3 t234 t235 w0 _ ?side1 ?side2 A34.out).mono ?_);(case side1=>exact zi74_2 HI0.out NB0_213.out NB0_214.out);(case side2=>exact zb3 HB.out (IsS74.ge HI0.out) GE213.out GE214.out);rintro e w51 ⟨rfl,hi,hb,hk⟩;refine ⟨_,rfl,?_⟩;have n0_:=As_ (Kd.S_mono (Kd.S_keep (IsS74.apartS (show IsS74 w0 _ g s0_0 x1001_2 from zi74_2 HI0.out NB0_213.out NB0_214.out) (zS_ HO_215000.out) (by decide)) hk (fun _ h=>h.2)) (fun _ h=>h.1));have n1_:=As_ (KeepBut.blk hk (g':=gb213) (o:=.cells #[.slice none 0 0,.int .i64 0] 25 (0,0)) (zk_ BK213.out) NB213_0.out (by simp));have n2_:=As_ (KeepBut.blk hk (g':=gb214) (o:=.cells #[.slice Ao50 x215000_2.length co50,.int .i64 x215001_2] 25 (0,0)) (zk_ BK214.out) NB214_0.out (by simp));have n3_:=As_ (KeepBut.trans (zkp2 HK.out GW213.out GW214.out) hk (.inl rfl));have n4_:=As_ (hb);have n5_:=As_ (hi);clear HO_215000 BK213 BK214 HK HB HI0;revert n0_ n1_ n2_ n3_ n4_ n5_;intro HO_215000 BK213 BK214 HK HB HI0;obtain ⟨hcz52_0,hcz52_1,hfz52_0,hfz52_1⟩:=bk2 BK214.out;have hnb53:=NB213_0.out;have hnc53:=NB0_213.out;obtain ⟨hcz54_0,hcz54_1,hfz54_0,hfz54_1⟩:=bk2 BK213.out))
       refine bodyPost_ret (results_cell_row rfl _ _ gb213 25 #[.slice Ao50 x215000_2.length co50,.int .i64 x215001_2] (0,0) _ rfl (by (with_reducible repeat first|apply bkN|apply bkD|apply bkA);refine blk_put (cs:=#[.slice Ao50 x215000_2.length co50,.int .i64 0]) ?_ 1 _ rfl;(with_reducible repeat first|apply bkN|apply bkD|apply bkA);refine blk_put (cs:=#[.slice none 0 0,.int .i64 0]) ?_ 0 _ rfl;(with_reducible repeat first|apply bkN|apply bkD|apply bkA);exact BK213.out) Try.underlying25 rfl (by kernel_rfl)) rfl ?_
       exact ⟨_,zE_,by refine kzN_S ?_;(with_reducible repeat (first|apply Kd.S_alloc|apply Kd.S_drewN|apply Kd.S_drew));exact Kd.S_mono (Kd.S_far (p:=⟨gb213,1,none⟩) (Kd.S_far (p:=⟨gb213,0,none⟩) (Kd.S_types HO_215000.out BK213.out (by decide)) (fun _ hk=>hk.2) (.slice Ao50 x215000_2.length co50)) (fun _ hk=>hk.2) (.int .i64 x215001_2)) (fun _ hk=>trivial),zi74_2 HI0.out NB0_213.out NB0_214.out,zb3 HB.out (IsS74.ge HI0.out) GE213.out GE214.out,zkp2 HK.out GW213.out GW214.out⟩
      rw [if_pos c35] at H
      have c35b0:(t234 == 0)=true:=beq_iff_eq.mpr c35
      have c35b1:(t234 != 0)=false:=bne_eq_false_iff_eq.mpr c35
      clear c35
      replace H:=obS H
      obtain ⟨⟨t236,t237⟩,A360,H⟩:=H
      replace H:(some (x215000_2,t236,t237))=some (r1,r2,r3):=H
      have A36:=As_ A360
      clear A360
      simp only [Option.some.injEq,Prod.mk.injEq] at H
      obtain ⟨rfl,rfl,rfl⟩:=H
      have hnb37:=NB214_213.out
      have hnc37:=NB213_214.out
      have hnb38:=NB214_0.out
      have hnc38:=NB0_214.out
      obtain ⟨hcz39_0,hcz39_1,hfz39_0,hfz39_1⟩:=bk2 BK214.out
      obtain ⟨Ao40,co40,eo40⟩:=Kd.S_slice HO_215000.out
      subst eo40
      go_wp2_with (first|((with_reducible refine gate_callee (f:=65) rfl ?_);refine goesL_ (some 38) rfl rfl Try.func65 (by kernel_rfl) rfl #[.pointer (some ⟨g,0,none⟩),.int .i64 3] rfl zM_ ?_;(with_reducible refine (spec_reader_pick.calls k2 g s0_0 x1001_2 3 t234 t235 w0 _ ?side1 ?side2 A34.out).mono ?_);(case side1=>exact zi74_2 HI0.out NB0_213.out NB0_214.out);(case side2=>exact zb3 HB.out (IsS74.ge HI0.out) GE213.out GE214.out);rintro e w41 ⟨rfl,hi,hb,hk⟩;refine ⟨_,rfl,?_⟩;have n0_:=As_ (Kd.S_mono (Kd.S_keep (IsS74.apartS (show IsS74 w0 _ g s0_0 x1001_2 from zi74_2 HI0.out NB0_213.out NB0_214.out) (zS_ HO_215000.out) (by decide)) hk (fun _ h=>h.2)) (fun _ h=>h.1));have n1_:=As_ (KeepBut.blk hk (g':=gb213) (o:=.cells #[.slice none 0 0,.int .i64 0] 25 (0,0)) (zk_ BK213.out) NB213_0.out (by simp));have n2_:=As_ (KeepBut.blk hk (g':=gb214) (o:=.cells #[.slice Ao40 x215000_2.length co40,.int .i64 x215001_2] 25 (0,0)) (zk_ BK214.out) NB214_0.out (by simp));have n3_:=As_ (KeepBut.trans (zkp2 HK.out GW213.out GW214.out) hk (.inl rfl));have n4_:=As_ (hb);have n5_:=As_ (hi);clear HO_215000 BK213 BK214 HK HB HI0;revert n0_ n1_ n2_ n3_ n4_ n5_;intro HO_215000 BK213 BK214 HK HB HI0;obtain ⟨hcz42_0,hcz42_1,hfz42_0,hfz42_1⟩:=bk2 BK214.out)|((with_reducible refine gate_callee (f:=65) rfl ?_);refine goesL_ (some 44) rfl rfl Try.func65 (by kernel_rfl) rfl #[.pointer (some ⟨g,0,none⟩),.int .i64 (x215000_2.length:Int)] rfl zM_ ?_;(with_reducible refine (spec_reader_pick.calls k2 g s0_0 t235 (x215000_2.length:Int) t236 t237 w0 _ ?side1 ?side2 A36.out).mono ?_);(case side1=>exact zi74_2 HI0.out NB0_213.out NB0_214.out);(case side2=>exact zb3 HB.out (IsS74.ge HI0.out) GE213.out GE214.out);rintro e w43 ⟨rfl,hi,hb,hk⟩;refine ⟨_,rfl,?_⟩;have n0_:=As_ (Kd.S_mono (Kd.S_keep (IsS74.apartS (show IsS74 w0 _ g s0_0 t235 from zi74_2 HI0.out NB0_213.out NB0_214.out) (zS_ HO_215000.out) (by decide)) hk (fun _ h=>h.2)) (fun _ h=>h.1));have n1_:=As_ (KeepBut.blk hk (g':=gb213) (o:=.cells #[.slice none 0 0,.int .i64 0] 25 (0,0)) (zk_ BK213.out) NB213_0.out (by simp));have n2_:=As_ (KeepBut.blk hk (g':=gb214) (o:=.cells #[.slice Ao40 x215000_2.length co40,.int .i64 x215001_2] 25 (0,0)) (zk_ BK214.out) NB214_0.out (by simp));have n3_:=As_ (KeepBut.trans (zkp2 HK.out GW213.out GW214.out) hk (.inl rfl));have n4_:=As_ (hb);have n5_:=As_ (hi);clear HO_215000 BK213 BK214 HK HB HI0;revert n0_ n1_ n2_ n3_ n4_ n5_;intro HO_215000 BK213 BK214 HK HB HI0;obtain ⟨hcz44_0,hcz44_1,hfz44_0,hfz44_1⟩:=bk2 BK214.out;have hnb45:=NB213_0.out;have hnc45:=NB0_213.out;obtain ⟨hcz46_0,hcz46_1,hfz46_0,hfz46_1⟩:=bk2 BK213.out))
      refine bodyPost_ret (results_cell_row rfl _ _ gb213 25 #[.slice Ao40 x215000_2.length co40,.int .i64 t236] (0,0) _ rfl (by (with_reducible repeat first|apply bkN|apply bkD|apply bkA);refine blk_put (cs:=#[.slice Ao40 x215000_2.length co40,.int .i64 0]) ?_ 1 _ rfl;(with_reducible repeat first|apply bkN|apply bkD|apply bkA);refine blk_put (cs:=#[.slice none 0 0,.int .i64 0]) ?_ 0 _ rfl;(with_reducible repeat first|apply bkN|apply bkD|apply bkA);refine blk_far ?_ NB213_214.out _;(with_reducible repeat first|apply bkN|apply bkD|apply bkA);exact BK213.out) Try.underlying25 rfl (by kernel_rfl)) rfl ?_
      exact ⟨_,zE_,by refine kzN_S ?_;(with_reducible repeat (first|apply Kd.S_alloc|apply Kd.S_drewN|apply Kd.S_drew));exact Kd.S_mono (Kd.S_far (p:=⟨gb213,1,none⟩) (Kd.S_far (p:=⟨gb213,0,none⟩) (Kd.S_far (p:=⟨gb214,1,none⟩) (Kd.S_types (Kd.S_types HO_215000.out BK214.out (by decide)) BK213.out (by decide)) (fun _ hk=>hk.1.2) (.int .i64 t236)) (fun _ hk=>hk.2) (.slice Ao40 x215000_2.length co40)) (fun _ hk=>hk.2) (.int .i64 t236)) (fun _ hk=>trivial),zi74_2 HI0.out NB0_213.out NB0_214.out,zb3 HB.out (IsS74.ge HI0.out) GE213.out GE214.out,zkp2 HK.out GW213.out GW214.out⟩
   rw [if_pos c12] at H
   have c12b0:decide (0<x4_1)=true:=deT c12
   clear c12
   replace H:=obS H
   obtain ⟨⟨t220,t221,t222,t225⟩,A130,H⟩:=H
   replace H:(if x215000_1.length<3518437208883 then (spec_someGraph.l0 k1 (wrap64 (x4_1 - 1)) s0_0 t225 (x215000_1++[(⟨t220,t221,t222⟩:S58)]) 0) else (none))=some (r1,r2,r3):=H
   have A13:=As_ A130
   clear A130
   by_cases c14:x215000_1.length<3518437208883
   rotate_left
   ·rw [if_neg c14] at H
    exact absurd H (by simp)
   rw [if_pos c14] at H
   have LMc14:=As_ c14
   clear c14
   obtain ⟨y226,hy226⟩:∃ y_:List (S58),y_=(x215000_1++[(⟨t220,t221,t222⟩:S58)]):=⟨_,rfl⟩
   replace H:(spec_someGraph.l0 k1 (wrap64 (x4_1 - 1)) s0_0 t225 y226 0)=some (r1,r2,r3):=zH_ H hy226
   have Ny226:=As_ hy226
   clear hy226
   have H':=As_ H
   clear H
   try go_wp2
   have n0_:=As_ (Kd.S_drew HO_215000.out)
   have n1_:=As_ (bkD BK213.out)
   have n2_:=As_ (bkD BK214.out)
   have n3_:=As_ (IsS74.drew HI0.out)
   have n4_:=As_ (keep_drew HK.out)
   have n5_:=As_ (bwD HB.out)
   clear HO_215000 BK213 BK214 HI0 HK HB
   revert n0_ n1_ n2_ n3_ n4_ n5_;intro HO_215000 BK213 BK214 HI0 HK HB
   refine start_ (n:=8) (S:=fun w'=>w'.cell? ⟨gb214,0,none⟩=some (u215000)∧w'.cell? ⟨gb214,1,none⟩=some (.int .i64 0)) (ds:=[7]) (bl_ 0 8) (by kernel_rfl) rfl rfl ⟨(bkC BK214.out 0).trans rfl,(bkC BK214.out 1).trans rfl⟩ (fun hHeld=>?_);refine with_tabW spec_someGraph.tab5 spec_someGraph.bits5 (fun HT_ HW_=>?_)
   generalize wr.drew=w15 at HO_215000 BK213 BK214 HI0 HK HB hHeld ⊢
   refine pQ 0 14 (bl_ 1 8) HT_ rfl ?_
   refine pQ 2 16 (bl_ 5 8) HT_ rfl ?_
   refine tP 1 15 (bl_ 7 8) ?_ HT_ HW_ rfl (.inl ⟨by rfl,?_⟩) hHeld ?_ ?_ ?_;rotate_left;(rintro w' ⟨s0,s1⟩;go_simp;with_reducible rfl);rotate_left;(simp only [Act.put,sq_,i64_w,i32_w];rfl)
   refine one_ (i:=3) (N:=some 17) (bl_ 15 8) rfl rfl (one_of HT_.out (by kernel_rfl)) (by decide) (fun K hK=>?_)
   refine goes_ Try.func96 (by kernel_rfl) rfl #[.pointer (some ⟨g,0,none⟩)] (by rfl) rfl rfl zM_ ?_
   with_reducible refine (spec_someNode.calls k1 g s0_0 x1001_1 t220 t221 t222 t225 w0 _ ?side1 ?side2 A13.out).mono ?_
   (case side1=>exact zi74_2 HI0.out NB0_213.out NB0_214.out)
   (case side2=>exact zb3 HB.out (IsS74.ge HI0.out) GE213.out GE214.out)
   rintro e w16 ⟨v223,hn_,rfl,ho0,hi,hb,hk⟩
   have HN_:=As_ hn_
   clear hn_
   refine ⟨_,rfl,?_⟩
   have n0_:=As_ (Kd.S_mono (Kd.S_told (Kd.S_oldK (IsS74.apartS (show IsS74 w0 _ g s0_0 x1001_1 from zi74_2 HI0.out NB0_213.out NB0_214.out) (zS_ HO_215000.out) (by decide)) hk) (Kd.R_base ho0)) (fun _ h_=>h_.1))
   have n1_:=As_ (KeepBut.blk hk (g':=gb213) (o:=.cells #[.slice none 0 0,.int .i64 0] 25 (0,0)) (zk_ BK213.out) NB213_0.out (by simp))
   have n2_:=As_ (KeepBut.blk hk (g':=gb214) (o:=.cells #[u215000,.int .i64 0] 25 (0,0)) (zk_ BK214.out) NB214_0.out (by simp))
   have n3_:=As_ (Kd.R_lower ho0 (keep_size (w:=w) (g:=g) (row:=none) (zkp2 HK.out GW213.out GW214.out)))
   have n4_:=As_ (KeepBut.trans (zkp2 HK.out GW213.out GW214.out) hk (.inl rfl))
   have n5_:=As_ (hb)
   have n6_:=As_ (hi)
   clear HO_215000 BK213 BK214 HK HB HI0
   revert n0_ n1_ n2_ n3_ n4_ n5_ n6_;intro HO_215000 BK213 BK214 HO224 HK HB HI0
   obtain ⟨Ao18,co18,eo18⟩:=Kd.R_slice HO224.out
   (first|subst eo18|(injection eo18 with f1_ f2_ f3_;have f4_:=f1_.symm;have f5_:=f3_.symm;clear f1_ f2_ f3_;subst f4_;subst f5_))
   refine hK.out _ _ ⟨(bkC BK214.out 0).trans rfl,(bkC BK214.out 1).trans rfl⟩ (fun hHeld=>?_)
   clear hK K
   refine norm_ (a':=?_) ?_ ?_
   rotate_left
   ·show Act.put _ (some 17) _=_
    simp only [Act.put,sq_,i64_w,i32_w]
    rfl
   refine one_ (i:=4) (N:=some 18) (bl_ 31 8) rfl rfl (one_of HT_.out (by kernel_rfl)) (by decide) (fun K hK=>?_)
   refine value_ (w1:=?_) (v:=?_) (by rfl) rfl ?_ ?_
   rotate_left 2
   ·go_simp
    constructor
    ·rfl
    ·rfl
   refine hK.out _ _ ⟨(bkC (bkA BK214.out _) 0).trans rfl,(bkC (bkA BK214.out _) 1).trans rfl⟩ (fun hHeld=>?_)
   clear hK K
   refine norm_ (a':=?_) ?_ ?_
   rotate_left
   ·show Act.put _ (some 18) _=_
    simp only [Act.put,sq_,i64_w,i32_w]
    rfl
   refine one_ (i:=5) (N:=some 19) (bl_ 63 8) rfl rfl (one_of HT_.out (by kernel_rfl)) (by decide) (fun K hK=>?_)
   refine Kd.S_append_step kzN w.heap.size (by rfl) (.tmp 15) (.tmp 18) 23 58 (.agg #[(.int .i64 0),(.int .i64 0),(.slice none 0 0)]) 40 rfl Try.underlying23 info58 rfl (by decide) (by omega) u215000 x215000_1 (⟨t220,t221,t222⟩:S58) [.int .i64 t220,.int .i64 t221,.slice Ao18 t222.length co18] (fun _=>True) (fun k_=>some k_=(.slice Ao18 t222.length co18:Value).ownBlock) rfl rfl ?aP (fun k_ hk_=>((Kd.R_mono (ok':=fun k_=>((fun _=>True)) k_∧some k_≠(u215000:Value).ownBlock) (Kd.R_apart' (HO224.out) (Kd.S_typed HO_215000.out) (by decide)) (fun k_ hk=>⟨trivial,hk.2⟩))).1 k_ hk_.symm) ?aF ?aO (Below.refl _ _) ?aS ?aL ?_
   (case aP=>exact kzN_mkM _ _ _ (⟨t220,t221,t222⟩:S58) (Kd.R_mono (Kd.R_tight rfl (Kd.R_mono (ok':=fun k_=>((fun _=>True)) k_∧some k_≠(u215000:Value).ownBlock) (Kd.R_apart' (HO224.out) (Kd.S_typed HO_215000.out) (by decide)) (fun k_ hk=>⟨trivial,hk.2⟩))) (fun _ h_=>h_)) (fun _=>HN_.out))
   (case aF=>exact (fun _ _=>trivial))
   (case aO=>exact (by (with_reducible repeat (first|apply Kd.S_alloc|apply Kd.S_drewN|apply Kd.S_drew));exact Kd.S_mono HO_215000.out (fun k_ hk=>⟨trivial,fun e_=>hk.2 e_⟩)))
   (case aS=>exact (keep_size (w:=w) (g:=g) (row:=none) (zkp2 HK.out GW213.out GW214.out)))
   (case aL=>have:=LMc14.out;omega)
   intro v227 w17 ho hb hg hat
   rw [← Ny226.out] at ho
   have n0_:=As_ (blk_grown (g:=gb213) (o:=.cells #[.slice none 0 0,.int .i64 0] 25 (0,0)) (zk_ BK213.out) hg (Kd.S_ne HO_215000.out BK213.out (by decide)))
   have n1_:=As_ (blk_grown (g:=gb214) (o:=.cells #[u215000,.int .i64 0] 25 (0,0)) (zk_ BK214.out) hg (Kd.S_ne HO_215000.out BK214.out (by decide)))
   have n2_:=As_ (IsS74.grown (zi74_2 HI0.out NB0_213.out NB0_214.out) hg (IsS74.own_neS HI0.out HO_215000.out (by decide)))
   have n3_:=As_ (below_weaken (zb3 HB.out (IsS74.ge HI0.out) GE213.out GE214.out) HL.out hb)
   have n4_:=As_ (KeepBut.trans (zkp2 HK.out GW213.out GW214.out) (KeepBut.of_grown hg g) (Kd.S_base2 HO_215000.out))
   have n5_:=As_ (ho)
   clear BK213 BK214 HI0 HB HK HO_215000 HO224
   revert n0_ n1_ n2_ n3_ n4_ n5_;intro BK213 BK214 HI0 HB HK HO228
   clear ho hb hg hat
   obtain ⟨Ao19,co19,eo19⟩:=Kd.S_slice HO228.out
   (first|subst eo19|(injection eo19 with f1_ f2_ f3_;have f4_:=f1_.symm;have f5_:=f3_.symm;clear f1_ f2_ f3_;subst f4_;subst f5_))
   refine hK.out _ _ ⟨(bkC BK214.out 0).trans rfl,(bkC BK214.out 1).trans rfl⟩ (fun hHeld=>?_)
   clear hK K
   refine norm_ (a':=?_) ?_ ?_
   rotate_left
   ·show Act.put _ (some 19) _=_
    simp only [Act.put,sq_,i64_w,i32_w]
    rfl
   refine pQ 6 20 (bl_ 127 8) HT_ rfl ?_
   refine last_ (i:=7) (N:=none) (bl_ 255 8) rfl rfl (one_of HT_.out (by kernel_rfl)) (by decide) (fun K hK=>?_)
   have hs20:w17.cell? ⟨gb214,0,none⟩=some (u215000):=(bkC BK214.out 0).trans rfl
   have hfs20:=bkF BK214.out 0
   have hns20_0:=NB213_214.out
   have hms20_0:=NB214_213.out
   refine skip_ (w1:=?_) (by rfl) rfl ?_ ?_
   rotate_left
   ·go_simp
    rfl
   refine hK.out _ _ ?_
   clear hK K
   refine done_ (done_of HT_.out (by kernel_rfl)) ?_
   try go_wp2
   go_roundg k1
   case measure=>have:=HK1.out;omega
   case rel=>exact ⟨(wrap64 (x4_1 - 1)),(t225),(y226),(.slice Ao19 y226.length co19),zT_,H',⟨by have:=HK1.out;omega⟩,⟨by (with_reducible repeat (first|apply Kd.S_alloc|apply Kd.S_drewN|apply Kd.S_drew));exact Kd.S_mono (Kd.S_far (p:=⟨gb214,0,none⟩) (Kd.S_types HO228.out BK214.out (by decide)) (fun _ hk=>hk.2) (.slice Ao19 y226.length co19)) (fun _ hk=>trivial)⟩,⟨by (with_reducible repeat first|apply bkN|apply bkD|apply bkA);refine blk_far ?_ NB213_214.out _;(with_reducible repeat first|apply bkN|apply bkD|apply bkA);exact BK213.out⟩,⟨by (with_reducible repeat first|apply bkN|apply bkD|apply bkA);refine blk_put (cs:=#[u215000,.int .i64 0]) ?_ 0 _ rfl;(with_reducible repeat first|apply bkN|apply bkD|apply bkA);exact BK214.out⟩,⟨zi74_2 HI0.out NB0_213.out NB0_214.out⟩,⟨zkp2 HK.out GW213.out GW214.out⟩,⟨zb3 HB.out (IsS74.ge HI0.out) GE213.out GE214.out⟩⟩
end Go.Proofs.Ytapaegcombfafaa.Q
