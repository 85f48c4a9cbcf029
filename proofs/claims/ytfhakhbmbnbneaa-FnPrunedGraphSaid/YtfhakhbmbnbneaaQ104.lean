import Derived.Test.YtfhakhbmbnbneaaQ0
import Derived.Test.YtfhakhbmbnbneaaQ48
import Derived.Test.YtfhakhbmbnbneaaQ70
import Derived.Test.YtfhakhbmbnbneaaQ90
namespace Go.Proofs.Ytfhakhbmbnbneaa.Q
open Go.RowKit Go.Proofs.YtfhakhbmbnbneaaW.PrintWords Go.Proofs.YtfhakhbmbnbneaaW.PrintLast Go.Proofs.YtfhakhbmbnbneaaW.PrintMore
attribute [local go_sem] max2_int min2_int max_two min_two max_three min_three max_four min_four
set_option linter.unusedVariables false
set_option linter.unusedSimpArgs false
mutual
def spec_addKids.l0:Nat→Int→Int→List Int→Int→List (S45)→Int→Int→Int→List Int→Option ((List (S45)) × Int × Int)
 | 0,_,_,_,_,_,_,_,_,_=>none
 | k+1,x2,x8,x1000,x1001,x542000,x542001,x545000,x545001,x545002=>if x8>0 then ((spec_reader_pick.f k x1000 x1001 (x542000.length:Int)).bind fun bt555=>(if x545000=2 then (spec_addKids.j1 k x2 x8 bt555.1 x545000 (x545000 == 2) x1000 bt555.2 x542000 x542001 x545000 x545001 x545002) else (spec_addKids.j1 k x2 x8 bt555.1 x545000 (x545000 == 3) x1000 bt555.2 x542000 x542001 x545000 x545001 x545002))) else (if 0≤x2 then (if x2<(x542000.length:Int) then ((some (x542000.set (x2:Int).toNat (⟨x545000,x545001,x545002⟩:S45):List (S45))).bind fun y552=>((spec_validGraph.f k y552 x542001).bind fun t553=>(if t553=true then (some (y552,x542001,x1001)) else (some ((y552.set (x2:Int).toNat (⟨(rd_T45 x542000 x2).f0,(rd_T45 x542000 x2).f1,([]:List Int)⟩:S45)),x542001,x1001))))) else (none)) else (none))
def spec_addKids.j1:Nat→Int→Int→Int→Int→Bool→List Int→Int→List (S45)→Int→Int→Int→List Int→Option ((List (S45)) × Int × Int)
 | 0,_,_,_,_,_,_,_,_,_,_,_,_=>none
 | k+1,x2,x8,x9,x29,x30,x1000,x1001,x542000,x542001,x545000,x545001,x545002=>if x30=true then (if x545002.length<17592186044416 then (spec_addKids.l0 k x2 (wrap64 (x8 - 1)) x1000 x1001 x542000 x542001 x545000 x545001 (x545002++[x9])) else (none)) else (if x29=5 then (spec_addKids.l0 k x2 (wrap64 (x8 - 1)) x1000 x1001 x542000 x542001 x545000 x545001 (([x9]:List Int))) else (if x29=4 then (if (x545002.length:Int)<6 then (if 0≤x9 then (if x9<(x542000.length:Int) then ((spec_isKey.f ((rd_T45 x542000 x9).f0) ((rd_T45 x542000 x9).f1) ((rd_T45 x542000 x9).f2)).bind fun t564=>(if t564=true then ((spec_reader_pick.f k x1000 x1001 (x542000.length:Int)).bind fun bt565=>((some (([x9,bt565.1]:List Int):List Int)).bind fun y567=>(if x545002.length+y567.length<17592186044416 then (spec_addKids.l0 k x2 (wrap64 (x8 - 1)) x1000 bt565.2 x542000 x542001 x545000 x545001 (x545002++y567)) else (none)))) else (spec_addKids.l0 k x2 (wrap64 (x8 - 1)) x1000 x1001 x542000 x542001 x545000 x545001 x545002))) else (none)) else (none)) else (spec_addKids.l0 k x2 (wrap64 (x8 - 1)) x1000 x1001 x542000 x542001 x545000 x545001 x545002)) else (spec_addKids.l0 k x2 (wrap64 (x8 - 1)) x1000 x1001 x542000 x542001 x545000 x545001 x545002)))
end
def spec_addKids.f0 (k:Nat) (s0_0:List Int) (s0_1:Int) (l1_0:List (S45)) (a1_1:Int) (a2:Int):Option ((List (S45)) × Int × Int):=if 0≤a2 then (if a2<(l1_0.length:Int) then ((spec_reader_one.f k s0_0 s0_1 (([2,1,3,0,4]:List Int))).bind fun bt548=>(spec_addKids.l0 k a2 bt548.1 s0_0 bt548.2 l1_0 a1_1 ((rd_T45 l1_0 a2).f0) ((rd_T45 l1_0 a2).f1) ([]:List Int))) else (none)) else (none)
set_option maxRecDepth 100000 in
theorem spec_addKids.mono_l:∀ k,(∀ y0 y1 y2 y3 y4 y5 y6 y7 y8,LeO (spec_addKids.l0 k y0 y1 y2 y3 y4 y5 y6 y7 y8) (spec_addKids.l0 (k+1) y0 y1 y2 y3 y4 y5 y6 y7 y8))∧(∀ y0 y1 y2 y3 y4 y5 y6 y7 y8 y9 y10 y11,LeO (spec_addKids.j1 k y0 y1 y2 y3 y4 y5 y6 y7 y8 y9 y10 y11) (spec_addKids.j1 (k+1) y0 y1 y2 y3 y4 y5 y6 y7 y8 y9 y10 y11))
 | 0=>⟨fun _ _ _ _ _ _ _ _ _ r h=>(by cases h),fun _ _ _ _ _ _ _ _ _ _ _ _ r h=>(by cases h)⟩
 | k+1=>by
  obtain ⟨ih0,ih1⟩:=spec_addKids.mono_l k
  refine ⟨?_,?_⟩
  ·intro y0 y1 y2 y3 y4 y5 y6 y7 y8
   unfold spec_addKids.l0
   repeat' first
   | (with_reducible exact ih0 _ _ _ _ _ _ _ _ _)
   | (with_reducible exact ih1 _ _ _ _ _ _ _ _ _ _ _ _)
   | (with_reducible exact spec_reader_one.mono _ _ _ _)
   | (with_reducible exact spec_reader_pick.mono _ _ _ _)
   | (with_reducible exact spec_validGraph.mono _ _ _)
   | (with_reducible exact LeO.refl _)
   | (with_reducible exact LeO.none _)
   | (with_reducible refine LeO.ite ?_ ?_)
   | (with_reducible refine LeO.bind ?_ (fun _=>?_))
   | exact ih0 _ _ _ _ _ _ _ _ _
   | exact ih1 _ _ _ _ _ _ _ _ _ _ _ _
   | exact spec_reader_one.mono _ _ _ _
   | exact spec_reader_pick.mono _ _ _ _
   | exact spec_validGraph.mono _ _ _
   | exact LeO.none _
   | refine LeO.ite ?_ ?_
   | refine LeO.bind ?_ (fun _=>?_)
  ·intro y0 y1 y2 y3 y4 y5 y6 y7 y8 y9 y10 y11
   unfold spec_addKids.j1
   repeat' first
   | (with_reducible exact ih0 _ _ _ _ _ _ _ _ _)
   | (with_reducible exact ih1 _ _ _ _ _ _ _ _ _ _ _ _)
   | (with_reducible exact spec_reader_one.mono _ _ _ _)
   | (with_reducible exact spec_reader_pick.mono _ _ _ _)
   | (with_reducible exact spec_validGraph.mono _ _ _)
   | (with_reducible exact LeO.refl _)
   | (with_reducible exact LeO.none _)
   | (with_reducible refine LeO.ite ?_ ?_)
   | (with_reducible refine LeO.bind ?_ (fun _=>?_))
   | exact ih0 _ _ _ _ _ _ _ _ _
   | exact ih1 _ _ _ _ _ _ _ _ _ _ _ _
   | exact spec_reader_one.mono _ _ _ _
   | exact spec_reader_pick.mono _ _ _ _
   | exact spec_validGraph.mono _ _ _
   | exact LeO.none _
   | refine LeO.ite ?_ ?_
   | refine LeO.bind ?_ (fun _=>?_)
theorem spec_addKids.mono0:∀ a0 a1 a2 a3 a4 k,LeO (spec_addKids.f0 k a0 a1 a2 a3 a4) (spec_addKids.f0 (k+1) a0 a1 a2 a3 a4):=by
 intro a0 a1 a2 a3 a4 k
 obtain ⟨ih0,ih1⟩:=spec_addKids.mono_l k
 unfold spec_addKids.f0
 repeat' first
   | (with_reducible exact ih0 _ _ _ _ _ _ _ _ _)
   | (with_reducible exact ih1 _ _ _ _ _ _ _ _ _ _ _ _)
   | (with_reducible exact spec_reader_one.mono _ _ _ _)
   | (with_reducible exact spec_reader_pick.mono _ _ _ _)
   | (with_reducible exact spec_validGraph.mono _ _ _)
   | (with_reducible exact LeO.refl _)
   | (with_reducible exact LeO.none _)
   | (with_reducible refine LeO.ite ?_ ?_)
   | (with_reducible refine LeO.bind ?_ (fun _=>?_))
   | exact ih0 _ _ _ _ _ _ _ _ _
   | exact ih1 _ _ _ _ _ _ _ _ _ _ _ _
   | exact spec_reader_one.mono _ _ _ _
   | exact spec_reader_pick.mono _ _ _ _
   | exact spec_validGraph.mono _ _ _
   | exact LeO.none _
   | refine LeO.ite ?_ ?_
   | refine LeO.bind ?_ (fun _=>?_)
def spec_addKids.T14:Bool × List (List Nat × List Nat):=(true,[([],[]),([0],[0]),([],[]),([],[]),([],[]),([4],[4]),([5],[5]),([3,6],[3,6]),([2,7],[2,7]),([1,8,7],[1,8]),([0,1,2,3,4,5,6,7,8,9],[]),([10,9,9,0,1,2,3,4,5,6,7,8,9],[9,10])])
def spec_addKids.B14:List Nat:=[0,1,0,0,0,16,48,120,252,511,1023,2047]
theorem spec_addKids.tab14:rtab .any (opsOf Try.f104 14)=spec_addKids.T14:=by kernel_rfl
theorem spec_addKids.bits14:waitsOk spec_addKids.T14.2 spec_addKids.B14=true:=by kernel_rfl
def kzN:Kd S45 where
 sz:=k45.sz
 E:=k45.E
 K:=fun w x cs=>k45.K w x cs∧(x.f2=[]→cs[2]?=some (.slice none 0 0))
 M:=fun w base ok x cs=>k45.M w base ok x cs∧(x.f2=[]→cs[2]?=some (.slice none 0 0))
 K_len:=fun h=>k45.K_len h.1
 K_one:=fun h=>k45.K_one h.1
 K_below:=fun hb h=>⟨k45.K_below hb h.1,h.2⟩
 K_of_M:=fun h=>⟨k45.K_of_M h.1,h.2⟩
 M_mono:=fun hok h=>⟨k45.M_mono hok h.1,h.2⟩
 M_bound:=fun h=>⟨k45.M_bound h.1,h.2⟩
 M_move:=fun hm h=>⟨k45.M_move hm h.1,h.2⟩
 M_lower:=fun hb h=>⟨k45.M_lower hb h.1,h.2⟩
theorem kzN_C {w:World} {A:Option Addr} {n:Nat} {xs:List S45} (h:Kd.C kzN w A n xs):Kd.C k45 w A n xs:=ReadsRow.imp_ h (Below.refl _ _) (fun _ _ hp=>hp.1)
theorem kzN_S {e base:Nat} {ok:Nat→Prop} {w:World} {v:Value} {xs:List S45} (h:Kd.S kzN e w base ok v xs):Kd.S k45 e w base ok v xs:=by
 obtain ⟨f,h0,inner,ho,hr⟩:=h
 exact ⟨f,h0,inner,ho,hr.imp_ (fun _ _ hp=>hp.1)⟩
theorem kzN_mkM (w:World) (base:Nat) (ok:Nat→Prop) (x:S45) {v2:Value} (g2:(Kd.int .i64).R 3 w base ok v2 x.f2) (hz:x.f2=[]→v2=.slice none 0 0):kzN.M w base ok x [.int .i64 x.f0,.int .i64 x.f1,v2]:=⟨k45_mkM w base ok x g2,fun e=>by rw [hz e];rfl⟩
theorem kzN_cell {W:World} {e base:Nat} {ok:Nat→Prop} {ad:Addr} {n cap:Nat} {xs:List S45} (h:Kd.S kzN e W base ok (.slice (some ad) n cap) xs) (i:Int) (h0:0≤i) (h1:i<n) (hz:(rd_T45 xs i).f2=[]):W.cell? (ad.add (i.toNat * 3+2))=some (.slice none 0 0):=by
 obtain ⟨c,hc,hM,hcc⟩:=Kd.S_get h z45 i h0 h1
 exact hcc 2 _ (hM.2 hz)
theorem kzN_raise {e b b':Nat} {ok:Nat→Prop} {W:World} {v:Value} {xs:List S45} (h:Kd.S kzN e W b ok v xs) (hb:∀ k,ok k→b'≤k):Kd.S kzN e W b' ok v xs:=by
 obtain ⟨f,h0,inner,ho,hr⟩:=h
 refine ⟨f,h0,inner,Kd.own_raise ho (fun k hk=>hb k (h0 k hk)),hr.imp_ (fun p cs hp=>?_)⟩
 obtain ⟨v2,hcs,hR⟩:=k45_openM hp.1
 refine ⟨?_,hp.2⟩
 rw [hcs]
 exact k45_mkM _ _ _ _ (Kd.R_raise (d:=Kd.int .i64) (b:=b) (b':=b') (fun _ _ _ _ h_=>h_) hR (fun k hk=>hb k (hR.1 k hk).1.1))
theorem kzN_lend {W:World} {base:Nat} {ok:Nat→Prop} {v:Value} {xs:List S45} (h:Kd.S kzN 45 W base ok v xs):∃ P:Nat→Prop,Kd.S kzN 45 W base P v xs∧(∀ k,P k→base≤k)∧∀ g t cells,W.heap[g]?=some (.cells cells t (0,0))→(∀ q,q∈45 :: kzN.E→q≠t)→¬ P g:=
 ⟨_,Kd.S_bound h,fun k hk=>hk.2.1,fun g t cells hg ht hP=>by
  obtain ⟨q,hq,cs,hc⟩:=hP.2.2.2
  rw [hg] at hc
  injection hc with hc
  injection hc with _ h2
  exact ht q hq h2.symm⟩
set_option maxHeartbeats 8000000 in
set_option maxRecDepth 100000 in
theorem spec_addKids.calls0 (k:Nat) (g:Nat) (s0_0:List Int) (s0_1:Int) (P1_0_:Nat→Prop) (u9000_:Value) (l1_0:List (S45)) (a1_1:Int) (a2:Int) (r1:List (S45)) (r2:Int) (r3:Int) (w0 w:World) (hI:IsS85 w0 w g s0_0 s0_1) (hB:Below w0.heap.size w0 w) (ho1_0:Kd.S kzN 45 w w0.heap.size P1_0_ u9000_ l1_0) (hz:(rd_T45 l1_0 a2).f2=[]) (h:spec_addKids.f0 k s0_0 s0_1 l1_0 a1_1 a2=some (r1,r2,r3)) :
  Calls Try.prog 104 #[.pointer (some ⟨g,0,none⟩),.agg #[u9000_,.int .i64 a1_1],.int .i64 a2] w fun e w'=>∃ v0_:Value,e=.returned (.agg #[v0_,.int .i64 r2])∧Kd.S kzN 45 w' w0.heap.size (fun k_=>(P1_0_ k_∨w.heap.size≤k_)) v0_ r1∧IsS85 w0 w' g s0_0 r3∧Below w0.heap.size w0 w'∧Kept w w' (fun k_=>(P1_0_ k_)∨k_=g):=by
 have hu29:=Try.underlying29
 have hu45:=Try.underlying45
 have HO1_0:=As_ (show Kd.S kzN 45 w w0.heap.size (fun k_=>(P1_0_ k_∨w.heap.size≤k_)) u9000_ l1_0 from Kd.S_mono ho1_0 (fun k_ hk=>(.inl hk)))
 have HI0:=As_ hI
 have HL:=As_ hB.size
 clear hI
 have HK:=As_ (Kept.refl w (fun k_=>(P1_0_ k_)∨k_=g))
 have HW0:=As_ hB.size
 have HB:=As_ hB
 clear hB
 have H:(if 0≤a2 then (if a2<(l1_0.length:Int) then ((spec_reader_one.f k s0_0 s0_1 (([2,1,3,0,4]:List Int))).bind fun bt548=>(spec_addKids.l0 k a2 bt548.1 s0_0 bt548.2 l1_0 a1_1 ((rd_T45 l1_0 a2).f0) ((rd_T45 l1_0 a2).f1) ([]:List Int))) else (none)) else (none))=some (r1,r2,r3):=h
 clear h
 by_cases c4:0≤a2
 rotate_left
 ·rw [if_neg c4] at H
  exact absurd H (by simp)
 rw [if_pos c4] at H
 have c4b0:decide (0≤a2)=true:=deT c4
 clear c4
 by_cases c5:a2<(l1_0.length:Int)
 rotate_left
 ·rw [if_neg c5] at H
  exact absurd H (by simp)
 rw [if_pos c5] at H
 have c5b0:decide (a2<(l1_0.length:Int))=true:=deT c5
 clear c5
 obtain ⟨y545,hy545⟩:∃ y_:List Int,y_=(([2,1,3,0,4]:List Int)):=⟨_,rfl⟩
 replace H:((spec_reader_one.f k s0_0 s0_1 y545).bind fun bt548=>(spec_addKids.l0 k a2 bt548.1 s0_0 bt548.2 l1_0 a1_1 ((rd_T45 l1_0 a2).f0) ((rd_T45 l1_0 a2).f1) ([]:List Int)))=some (r1,r2,r3):=zH_ H hy545
 have Ny545:=As_ hy545
 clear hy545
 replace H:=obS H
 obtain ⟨⟨t548,t549⟩,A60,H⟩:=H
 replace H:(spec_addKids.l0 k a2 t548 s0_0 t549 l1_0 a1_1 ((rd_T45 l1_0 a2).f0) ((rd_T45 l1_0 a2).f1) ([]:List Int))=some (r1,r2,r3):=H
 have A6:=As_ A60
 clear A60
 have H':=As_ H
 clear H
 obtain ⟨Ao7,co7,eo7⟩:=Kd.S_slice HO1_0.out
 subst eo7
 go_enter Try.func104,Try.ntmps104
 go_wp2_with (first|((with_reducible refine gate_dst (N:=4) rfl ?_);refine box_event ?hg (N:=4) ?hd (cs:=#[.slice Ao7 l1_0.length co7,.int .i64 a1_1]) (t:=29) ?hr ?_;(case hd=>rfl);(case hg=>rfl);(case hr=>go_simp <;> rfl);intro gb541 hg w8 hbox hb;have n0_:=As_ (Kd.S_below (zS_ HO1_0.out) hb);have n1_:=As_ (IsS85.below (zi85_0 HI0.out) hb);have n2_:=As_ (Kept.below (S:=(fun k_=>(P1_0_ k_)∨k_=g)) (zq0 HK.out) hb);have n3_:=As_ (bwT (zb1 HB.out (IsS85.ge HI0.out)) hb);have n4_:=As_ (hbox);have n5_:=As_ ((by rw [hg];exact (by first|exact HK.out.1|exact (show Kept w _ (fun k_=>(P1_0_ k_)∨k_=g) from zq0 HK.out).1):w.heap.size≤gb541));have n6_:=As_ ((by rw [hg];exact (bwZ (zb1 HB.out (IsS85.ge HI0.out))):w0.heap.size≤gb541));have n7_:=As_ ((by rw [hg];exact Nat.ne_of_lt (IsS85.lt (show IsS85 w0 _ g s0_0 s0_1 from zi85_0 HI0.out)):g≠gb541));have n8_:=As_ ((by rw [hg];exact Nat.ne_of_gt (IsS85.lt (show IsS85 w0 _ g s0_0 s0_1 from zi85_0 HI0.out)):gb541≠g));clear HO1_0 HI0 HK HB;revert n0_ n1_ n2_ n3_ n4_ n5_ n6_ n7_ n8_;intro HO1_0 HI0 HK HB BK541 GW541 GE541 NB0_541 NB541_0;clear hb hbox hg)|((with_reducible refine gate_dst (N:=6) rfl ?_);refine box_event ?hg (N:=6) ?hd (cs:=#[.slice none 0 0,.int .i64 0]) (t:=29) ?hr ?_;(case hd=>rfl);(case hg=>rfl);(case hr=>go_simp <;> rfl);intro gb542 hg w9 hbox hb;have n0_:=As_ (Kd.S_below (zS_ HO1_0.out) hb);have n1_:=As_ (IsS85.below (zi85_1 HI0.out NB0_541.out) hb);have n2_:=As_ (zkb BK541.out hb);have n3_:=As_ (Kept.below (S:=(fun k_=>(P1_0_ k_)∨k_=g)) (zq1 HK.out GW541.out) hb);have n4_:=As_ (bwT (zb2 HB.out (IsS85.ge HI0.out) GE541.out) hb);have n5_:=As_ (hbox);have n6_:=As_ ((by rw [hg];exact (by first|exact HK.out.1|exact (show Kept w _ (fun k_=>(P1_0_ k_)∨k_=g) from zq1 HK.out GW541.out).1):w.heap.size≤gb542));have n7_:=As_ ((by rw [hg];exact (bwZ (zb2 HB.out (IsS85.ge HI0.out) GE541.out)):w0.heap.size≤gb542));have n8_:=As_ ((by rw [hg];exact Nat.ne_of_lt (zkl BK541.out):gb541≠gb542));have n9_:=As_ ((by rw [hg];exact Nat.ne_of_gt (zkl BK541.out):gb542≠gb541));have n10_:=As_ ((by rw [hg];exact Nat.ne_of_lt (IsS85.lt (show IsS85 w0 _ g s0_0 s0_1 from zi85_1 HI0.out NB0_541.out)):g≠gb542));have n11_:=As_ ((by rw [hg];exact Nat.ne_of_gt (IsS85.lt (show IsS85 w0 _ g s0_0 s0_1 from zi85_1 HI0.out NB0_541.out)):gb542≠g));clear HO1_0 HI0 BK541 HK HB;revert n0_ n1_ n2_ n3_ n4_ n5_ n6_ n7_ n8_ n9_ n10_ n11_;intro HO1_0 HI0 BK541 HK HB BK542 GW542 GE542 NB541_542 NB542_541 NB0_542 NB542_0;clear hb hbox hg;have hnb10:=NB541_542.out;have hnc10:=NB542_541.out;have hnb11:=NB541_0.out;have hnc11:=NB0_541.out;obtain ⟨hcz12_0,hcz12_1,hfz12_0,hfz12_1⟩:=bk2 BK541.out;have p543:0≤(a2:Int):=odT zA_;have q543:a2<(l1_0.length:Int):=odT zA_;obtain ⟨ad543,A543_2,c543_2,e543,hx543_0,hx543_1,hx543_2,hl543_2,hi543_2⟩:=at_T45 (kzN_C (Kd.S_reads' HO1_0.out).2.2) a2 p543 q543;cases e543;obtain ⟨ce543,hce543,hMe543,hcc543⟩:=Kd.S_get HO1_0.out z45 a2 p543 (by first|exact q543|exact odT zA_|(have e_:=(Kd.S_reads' HO1_0.out).1;omega));obtain ⟨ve543_2,rfl,ge543_2⟩:=k45_openM hMe543.1;have hv543_2:=hcc543 2 _ rfl;rw [add_field _ _ 2 (by omega)] at hv543_2;replace hv543_2:=Option.some.inj (hv543_2.symm.trans hx543_2);rw [hv543_2] at ge543_2;have HL543_2:=As_ (show Kd.R (Kd.int .i64) 3 _ _ _ _ ((rd_T45 l1_0 a2).f2) from ge543_2);have hz543:=kzN_cell HO1_0.out a2 p543 (by first|exact q543|exact odT zA_|(have e_:=(Kd.S_reads' HO1_0.out).1;omega)) hz;rw [add_field _ _ 2 (by omega)] at hz543;replace hx543_2:=hz543;clear hz543 hv543_2 ge543_2 hcc543 hce543;have HR543_2:=As_ hi543_2;have HC543_2:=As_ hl543_2;clear hi543_2 hl543_2;replace p543:=eq_true p543;replace q543:=eq_true q543)|((with_reducible refine gate_dst (N:=7) rfl ?_);refine box_event ?hg (N:=7) ?hd (cs:=#[.int .i64 0,.int .i64 0,.slice none 0 0]) (t:=45) ?hr ?_;(case hd=>rfl);(case hg=>rfl);(case hr=>go_simp <;> rfl);intro gb544 hg w13 hbox hb;have n0_:=As_ (Kd.S_below (Kd.S_elderB (zS_ HO1_0.out) gb544 (Nat.le_of_eq hg.symm)) hb);have n1_:=As_ (Kd.R_below (zR_ HL543_2.out) hb);have n2_:=As_ (IsS85.below (zi85_2 HI0.out NB0_541.out NB0_542.out) hb);have n3_:=As_ (zkb BK541.out hb);have n4_:=As_ (zkb BK542.out hb);have n5_:=As_ (Kd.C_below (by repeat (first|(with_reducible exact HR543_2.out)|(with_reducible refine Kd.C_alloc ?_ _)|(with_reducible refine Kd.C_drewN ?_ _)|(with_reducible refine Kd.C_drew ?_)|exact HR543_2.out)) hb);have n6_:=As_ (Kept.below (S:=(fun k_=>(P1_0_ k_)∨k_=g)) (zq2 HK.out GW541.out GW542.out) hb);have n7_:=As_ (bwT (zb3 HB.out (IsS85.ge HI0.out) GE541.out GE542.out) hb);have n8_:=As_ (hbox);have n9_:=As_ ((by rw [hg];exact (by first|exact HK.out.1|exact (show Kept w _ (fun k_=>(P1_0_ k_)∨k_=g) from zq2 HK.out GW541.out GW542.out).1):w.heap.size≤gb544));have n10_:=As_ ((by rw [hg];exact (bwZ (zb3 HB.out (IsS85.ge HI0.out) GE541.out GE542.out)):w0.heap.size≤gb544));have n11_:=As_ ((by rw [hg];exact Nat.ne_of_lt (zkl BK541.out):gb541≠gb544));have n12_:=As_ ((by rw [hg];exact Nat.ne_of_gt (zkl BK541.out):gb544≠gb541));have n13_:=As_ ((by rw [hg];exact Nat.ne_of_lt (zkl BK542.out):gb542≠gb544));have n14_:=As_ ((by rw [hg];exact Nat.ne_of_gt (zkl BK542.out):gb544≠gb542));have n15_:=As_ ((by rw [hg];exact Nat.ne_of_lt (IsS85.lt (show IsS85 w0 _ g s0_0 s0_1 from zi85_2 HI0.out NB0_541.out NB0_542.out)):g≠gb544));have n16_:=As_ ((by rw [hg];exact Nat.ne_of_gt (IsS85.lt (show IsS85 w0 _ g s0_0 s0_1 from zi85_2 HI0.out NB0_541.out NB0_542.out)):gb544≠g));clear HO1_0 HL543_2 HI0 BK541 BK542 HR543_2 HK HB;revert n0_ n1_ n2_ n3_ n4_ n5_ n6_ n7_ n8_ n9_ n10_ n11_ n12_ n13_ n14_ n15_ n16_;intro HO1_0 HL543_2 HI0 BK541 BK542 HR543_2 HK HB BK544 GW544 GE544 NB541_544 NB544_541 NB542_544 NB544_542 NB0_544 NB544_0;clear hb hbox hg;have hnb14:=NB544_541.out;have hnc14:=NB541_544.out;have hnb15:=NB544_542.out;have hnc15:=NB542_544.out;have hnb16:=NB544_0.out;have hnc16:=NB0_544.out;obtain ⟨hcz17_0,hcz17_1,hcz17_2,hfz17_0,hfz17_1,hfz17_2⟩:=bk3 BK544.out)|((with_reducible refine gate_dst (N:=17) rfl ?_);refine Kd.R_lit (Kd.int .i64) _ 3 ?hg (N:=17) ?hd (xs:=([2,1,3,0,4]:List Int)) (inner:=[.int .i64 2,.int .i64 1,.int .i64 3,.int .i64 0,.int .i64 4]) (ok:=fun _=>True) (okp:=fun _=>True) ?hr ?hp (fun _ hk=>hk) trivial (Below.refl _ _) (Nat.le_refl _) (by simp) ?_;(case hd=>rfl);(case hg=>rfl);(case hr=>go_simp <;> rfl);(case hp=>exact (Reps.one (show Kd.M (Kd.int .i64) _ _ _ 2 [.int .i64 2] from rfl) (Reps.one (show Kd.M (Kd.int .i64) _ _ _ 1 [.int .i64 1] from rfl) (Reps.one (show Kd.M (Kd.int .i64) _ _ _ 3 [.int .i64 3] from rfl) (Reps.one (show Kd.M (Kd.int .i64) _ _ _ 0 [.int .i64 0] from rfl) (Reps.one (show Kd.M (Kd.int .i64) _ _ _ 4 [.int .i64 4] from rfl) (Reps.none _ _)))))));intro v546 w18 ho19 hb hg_ hnew_;clear hg_ hnew_;(first|rw [← Ny545.out] at ho19|(simp only [Int.reduceToNat] at ho19;rw [← Ny545.out] at ho19));have n0_:=As_ (Kd.S_elder' (by (with_reducible repeat (first|apply Kd.S_alloc|apply Kd.S_drewN|apply Kd.S_drew));exact (Kd.S_mono (Kd.S_far (p:=⟨gb544,2,none⟩) (Kd.S_far (p:=⟨gb544,1,none⟩) (Kd.S_far (p:=⟨gb544,0,none⟩) (Kd.S_mono HO1_0.out (fun k_ hk=>(⟨hk,hk.2⟩:_∧k_≠gb544))) (fun _ hk=>hk.2) (.int .i64 ((rd_T45 l1_0 a2).f0))) (fun _ hk=>hk.2) (.int .i64 ((rd_T45 l1_0 a2).f1))) (fun _ hk=>hk.2) (.slice none 0 0)) (fun _ h_=>h_.1))) (Kd.R_base ho19) hb);have n1_:=As_ (Kd.R_elder' (by (with_reducible repeat (first|apply Kd.R_alloc|apply Kd.R_drewN|apply Kd.R_drew));exact (Kd.R_mono (Kd.R_far (p:=⟨gb544,2,none⟩) (Kd.R_far (p:=⟨gb544,1,none⟩) (Kd.R_far (p:=⟨gb544,0,none⟩) (Kd.R_types HL543_2.out BK544.out (by decide)) (fun _ hk=>hk.2) (.int .i64 ((rd_T45 l1_0 a2).f0))) (fun _ hk=>hk.2) (.int .i64 ((rd_T45 l1_0 a2).f1))) (fun _ hk=>hk.2) (.slice none 0 0)) (fun _ h_=>h_.1))) (Kd.R_base ho19) hb);have n2_:=As_ (Kd.R_lower (Kd.R_new' (Kd.R_newM (M:=fun k_=>(P1_0_ k_∨w.heap.size≤k_)) ho19 (show Kept w _ (fun k_=>(P1_0_ k_)∨k_=g) from zq3 HK.out GW541.out GW542.out GW544.out).1 (fun k_ h_=>.inr h_)) (Kd.R_lt (by (with_reducible repeat (first|apply Kd.R_alloc|apply Kd.R_drewN|apply Kd.R_drew));exact (Kd.R_mono (Kd.R_far (p:=⟨gb544,2,none⟩) (Kd.R_far (p:=⟨gb544,1,none⟩) (Kd.R_far (p:=⟨gb544,0,none⟩) (Kd.R_types HL543_2.out BK544.out (by decide)) (fun _ hk=>hk.2) (.int .i64 ((rd_T45 l1_0 a2).f0))) (fun _ hk=>hk.2) (.int .i64 ((rd_T45 l1_0 a2).f1))) (fun _ hk=>hk.2) (.slice none 0 0)) (fun _ h_=>h_.1))))) (bwZ (zb4 HB.out (IsS85.ge HI0.out) GE541.out GE542.out GE544.out)));have n3_:=As_ (IsS85.below (show IsS85 w0 (((w13.setCell ⟨gb544,0,none⟩ (.int .i64 ((rd_T45 l1_0 a2).f0))).setCell ⟨gb544,1,none⟩ (.int .i64 ((rd_T45 l1_0 a2).f1))).setCell ⟨gb544,2,none⟩ (.slice none 0 0)) g s0_0 s0_1 from zi85_3 HI0.out NB0_541.out NB0_542.out NB0_544.out) hb);have n4_:=As_ (blk_below (g:=gb541) (o:=.cells #[.slice (some ad543) l1_0.length co7,.int .i64 a1_1] 29 (0,0)) (by (with_reducible repeat first|apply bkN|apply bkD|apply bkA);refine blk_far ?_ NB541_544.out _;(with_reducible repeat first|apply bkN|apply bkD|apply bkA);refine blk_far ?_ NB541_544.out _;(with_reducible repeat first|apply bkN|apply bkD|apply bkA);refine blk_far ?_ NB541_544.out _;(with_reducible repeat first|apply bkN|apply bkD|apply bkA);exact BK541.out) hb);have n5_:=As_ (blk_below (g:=gb542) (o:=.cells #[.slice none 0 0,.int .i64 0] 29 (0,0)) (by (with_reducible repeat first|apply bkN|apply bkD|apply bkA);refine blk_far ?_ NB542_544.out _;(with_reducible repeat first|apply bkN|apply bkD|apply bkA);refine blk_far ?_ NB542_544.out _;(with_reducible repeat first|apply bkN|apply bkD|apply bkA);refine blk_far ?_ NB542_544.out _;(with_reducible repeat first|apply bkN|apply bkD|apply bkA);exact BK542.out) hb);have n6_:=As_ (Kd.C_below ((Kd.R_reads' (by (with_reducible repeat (first|apply Kd.R_alloc|apply Kd.R_drewN|apply Kd.R_drew));exact (Kd.R_mono (Kd.R_far (p:=⟨gb544,2,none⟩) (Kd.R_far (p:=⟨gb544,1,none⟩) (Kd.R_far (p:=⟨gb544,0,none⟩) (Kd.R_types HL543_2.out BK544.out (by decide)) (fun _ hk=>hk.2) (.int .i64 ((rd_T45 l1_0 a2).f0))) (fun _ hk=>hk.2) (.int .i64 ((rd_T45 l1_0 a2).f1))) (fun _ hk=>hk.2) (.slice none 0 0)) (fun _ h_=>h_.1)))).2.2) hb);have n7_:=As_ (blk_below (g:=gb544) (o:=.cells #[.int .i64 ((rd_T45 l1_0 a2).f0),.int .i64 ((rd_T45 l1_0 a2).f1),.slice none 0 0] 45 (0,0)) (by (with_reducible repeat first|apply bkN|apply bkD|apply bkA);refine blk_put (cs:=#[.int .i64 ((rd_T45 l1_0 a2).f0),.int .i64 ((rd_T45 l1_0 a2).f1),.slice none 0 0]) ?_ 2 _ rfl;(with_reducible repeat first|apply bkN|apply bkD|apply bkA);refine blk_put (cs:=#[.int .i64 ((rd_T45 l1_0 a2).f0),.int .i64 0,.slice none 0 0]) ?_ 1 _ rfl;(with_reducible repeat first|apply bkN|apply bkD|apply bkA);refine blk_put (cs:=#[.int .i64 0,.int .i64 0,.slice none 0 0]) ?_ 0 _ rfl;(with_reducible repeat first|apply bkN|apply bkD|apply bkA);exact BK544.out) hb);have n8_:=As_ (Kept.below (S:=(fun k_=>(P1_0_ k_)∨k_=g)) (zq3 HK.out GW541.out GW542.out GW544.out) hb);have n9_:=As_ (bwT (zb4 HB.out (IsS85.ge HI0.out) GE541.out GE542.out GE544.out) hb);clear HO1_0 HL543_2 HI0 BK541 BK542 HR543_2 BK544 HK HB;revert n0_ n1_ n2_ n3_ n4_ n5_ n6_ n7_ n8_ n9_;intro HO1_0 HL543_2 HO547 HI0 BK541 BK542 HR543_2 BK544 HK HB;clear hb ho19;obtain ⟨Ao20,co20,eo20⟩:=Kd.R_slice HO547.out;subst eo20)|((with_reducible refine gate_callee (f:=91) rfl ?_);refine goesL_ (some 18) rfl rfl Try.func91 (by kernel_rfl) rfl #[.pointer (some ⟨g,0,none⟩),.slice Ao20 y545.length co20] rfl zM_ ?_;(with_reducible refine (spec_reader_one.calls k g s0_0 s0_1 _ _ y545 t548 t549 w0 _ ?side1 ?side2 ?side3 ?side4 ?side5 A6.out).mono ?_);(case side1=>exact zi85_3 HI0.out NB0_541.out NB0_542.out NB0_544.out);(case side2=>exact zb4 HB.out (IsS85.ge HI0.out) GE541.out GE542.out GE544.out);(case side3=>exact zC_ (Kd.R_reads' HO547.out).2.2);(case side4=>exact (Kd.R_reads' HO547.out).2.1);(case side5=>exact far_slice (IsS85.own_ne HI0.out HO547.out (by decide)));rintro e w21 ⟨rfl,hi,hb,hk⟩;refine ⟨_,rfl,?_⟩;have n0_:=As_ (Kd.S_mono (Kd.S_keep (IsS85.apartS (show IsS85 w0 _ g s0_0 s0_1 from zi85_3 HI0.out NB0_541.out NB0_542.out NB0_544.out) (zS_ HO1_0.out) (by decide)) hk (fun _ h=>h.2)) (fun _ h=>h.1));have n1_:=As_ (KeepBut.blk hk (g':=gb541) (o:=.cells #[.slice (some ad543) l1_0.length co7,.int .i64 a1_1] 29 (0,0)) (zk_ BK541.out) NB541_0.out (by simp));have n2_:=As_ (KeepBut.blk hk (g':=gb542) (o:=.cells #[.slice none 0 0,.int .i64 0] 29 (0,0)) (zk_ BK542.out) NB542_0.out (by simp));have n3_:=As_ (Kd.R_mono (Kd.R_keep (IsS85.apart (show IsS85 w0 _ g s0_0 s0_1 from zi85_3 HI0.out NB0_541.out NB0_542.out NB0_544.out) (zR_ HL543_2.out) (by decide)) hk (fun _ h=>h.2)) (fun _ h=>h.1));have n4_:=As_ (KeepBut.blk hk (g':=gb544) (o:=.cells #[.int .i64 ((rd_T45 l1_0 a2).f0),.int .i64 ((rd_T45 l1_0 a2).f1),.slice none 0 0] 45 (0,0)) (zk_ BK544.out) NB544_0.out (by simp));have n5_:=As_ (Kd.R_mono (Kd.R_keep (IsS85.apart (show IsS85 w0 _ g s0_0 s0_1 from zi85_3 HI0.out NB0_541.out NB0_542.out NB0_544.out) (zR_ HO547.out) (by decide)) hk (fun _ h=>h.2)) (fun _ h=>h.1));have n6_:=As_ (Kept.of_keep (S:=(fun k_=>(P1_0_ k_)∨k_=g)) (zq3 HK.out GW541.out GW542.out GW544.out) hk (.inl (.inr rfl)));have n7_:=As_ (hb);have n8_:=As_ (hi);clear HO1_0 BK541 BK542 HL543_2 BK544 HO547 HK HB HI0;revert n0_ n1_ n2_ n3_ n4_ n5_ n6_ n7_ n8_;intro HO1_0 BK541 BK542 HL543_2 BK544 HO547 HK HB HI0))
 go_loopg [8] k (fun kq v8 w'=>∃ (x8_1:Int) (x1001_1:Int) (x545002_1:List Int) (u545002:Value),v8=.int .i64 x8_1∧Aside0 (spec_addKids.l0 kq a2 x8_1 s0_0 x1001_1 l1_0 a1_1 ((rd_T45 l1_0 a2).f0) ((rd_T45 l1_0 a2).f1) x545002_1=some (r1,r2,r3))∧Aside0 (x545002_1=[]→u545002=.slice none 0 0)∧Aside0 (kq≤k)∧Aside0 (Kd.S kzN 45 w' w0.heap.size (fun k_=>(P1_0_ k_∨w.heap.size≤k_)∧some k_≠(u545002:Value).ownBlock∧k_≠gb544) (.slice (some ad543) l1_0.length co7) l1_0)∧Aside0 (Kd.R (Kd.int .i64) 3 w' w0.heap.size (fun k_=>(P1_0_ k_∨w.heap.size≤k_)) u545002 x545002_1)∧Aside0 (w'.heap[gb541]?=some (.cells #[(.slice (some ad543) l1_0.length co7),.int .i64 a1_1] 29 (0,0)))∧Aside0 (w'.heap[gb542]?=some (.cells #[(.slice none 0 0),.int .i64 0] 29 (0,0)))∧Aside0 (w'.heap[gb544]?=some (.cells #[.int .i64 ((rd_T45 l1_0 a2).f0),.int .i64 ((rd_T45 l1_0 a2).f1),u545002] 45 (0,0)))∧Aside0 (IsS85 w0 w' g s0_0 x1001_1)∧Aside0 (Kept w w' (fun k_=>(P1_0_ k_)∨k_=g))∧Aside0 (Below w0.heap.size w0 w'))
 case atStart=>exact ⟨(t548),(t549),(([]:List Int)),(.slice none 0 0),zT_,H',⟨fun _=>rfl⟩,⟨Nat.le_refl _⟩,⟨by (with_reducible repeat (first|apply Kd.S_alloc|apply Kd.S_drewN|apply Kd.S_drew));exact Kd.S_mono HO1_0.out (fun _ hk=>⟨hk.1.1,⟨(by simp [Value.ownBlock]),hk.1.2⟩⟩)⟩,⟨by first|exact Kd.R_nil _ _ _ _ _|exact Kd.N_nil _ _ _ _ _|exact Kd.V_nil _ _ _ _ _|exact Kd.Q_nil _ _ _ _ _|exact Kd.S_nil _ _ _ _ _⟩,⟨by (with_reducible repeat first|apply bkN|apply bkD|apply bkA);exact BK541.out⟩,⟨by (with_reducible repeat first|apply bkN|apply bkD|apply bkA);exact BK542.out⟩,⟨by (with_reducible repeat first|apply bkN|apply bkD|apply bkA);exact BK544.out⟩,⟨zi85_3 HI0.out NB0_541.out NB0_542.out NB0_544.out⟩,⟨zq3 HK.out GW541.out GW542.out GW544.out⟩,⟨zb4 HB.out (IsS85.ge HI0.out) GE541.out GE542.out GE544.out⟩⟩
 case round=>
  clear H'
  obtain ⟨x8_1,x1001_1,x545002_1,u545002,rfl,HA,HZn,HK1,HO_542000,HO_545002,BK541,BK542,BK544,HI0,HK,HB⟩:=hrel
  cases gk with
  | zero=>exact absurd HA.out (fun h_=>(by cases h_))
  | succ k1=>
   have H:=HA.out
   clear HA
   simp only [spec_addKids.l0] at H
   by_cases c22:x8_1>0
   rotate_left
   ·rw [if_neg c22] at H
    have c22b0:decide (0<x8_1)=false:=deF c22
    clear c22
    by_cases c90:0≤a2
    rotate_left
    ·rw [if_neg c90] at H
     exact absurd H (by simp)
    rw [if_pos c90] at H
    have c90b0:decide (0≤a2)=true:=deT c90
    clear c90
    by_cases c91:a2<(l1_0.length:Int)
    rotate_left
    ·rw [if_neg c91] at H
     exact absurd H (by simp)
    rw [if_pos c91] at H
    have c91b0:decide (a2<(l1_0.length:Int))=true:=deT c91
    clear c91
    obtain ⟨y552,hy552⟩:∃ y_:List (S45),y_=(l1_0.set (a2:Int).toNat (⟨((rd_T45 l1_0 a2).f0),((rd_T45 l1_0 a2).f1),x545002_1⟩:S45)):=⟨_,rfl⟩
    replace H:((spec_validGraph.f k1 y552 a1_1).bind fun t553=>(if t553=true then (some (y552,a1_1,x1001_1)) else (some ((y552.set (a2:Int).toNat (⟨(rd_T45 l1_0 a2).f0,(rd_T45 l1_0 a2).f1,([]:List Int)⟩:S45)),a1_1,x1001_1))))=some (r1,r2,r3):=zH_ H hy552
    have Ny552:=As_ hy552
    clear hy552
    replace H:=obS H
    obtain ⟨t553,A930,H⟩:=H
    replace H:(if t553=true then (some (y552,a1_1,x1001_1)) else (some ((y552.set (a2:Int).toNat (⟨(rd_T45 l1_0 a2).f0,(rd_T45 l1_0 a2).f1,([]:List Int)⟩:S45)),a1_1,x1001_1)))=some (r1,r2,r3):=H
    have A93:=As_ A930
    clear A930
    by_cases c94:t553=true
    ·subst c94
     have H1:(some (y552,a1_1,x1001_1))=some (r1,r2,r3):=by rw [if_pos rfl] at H;exact H
     clear H
     have H:=H1
     clear H1
     simp only [Option.some.injEq,Prod.mk.injEq] at H
     obtain ⟨rfl,rfl,rfl⟩:=H
     have hnb95:=NB541_542.out
     have hnc95:=NB542_541.out
     have hnb96:=NB541_544.out
     have hnc96:=NB544_541.out
     have hnb97:=NB541_0.out
     have hnc97:=NB0_541.out
     obtain ⟨hcz98_0,hcz98_1,hfz98_0,hfz98_1⟩:=bk2 BK541.out
     obtain ⟨Au_,cu_,eu_⟩:=Kd.R_slice HO_545002.out
     subst eu_
     have p550:0≤(a2:Int):=odT zA_
     have q550:a2<(l1_0.length:Int):=odT zA_
     obtain ⟨ad550,A550_2,c550_2,e550,hx550_0,hx550_1,hx550_2,hl550_2,hi550_2⟩:=at_T45 (kzN_C (Kd.S_reads' HO_542000.out).2.2) a2 p550 q550
     obtain rfl:ad543=ad550:=(by injection e550)
     obtain ⟨ce550,hce550,hMe550,hcc550⟩:=Kd.S_get HO_542000.out z45 a2 p550 (by first|exact q550|exact odT zA_|(have e_:=(Kd.S_reads' HO_542000.out).1;omega))
     obtain ⟨ve550_2,rfl,ge550_2⟩:=k45_openM hMe550.1
     have hv550_2:=hcc550 2 _ rfl
     rw [add_field _ _ 2 (by omega)] at hv550_2
     replace hv550_2:=Option.some.inj (hv550_2.symm.trans hx550_2)
     rw [hv550_2] at ge550_2
     have HL550_2:=As_ (show Kd.R (Kd.int .i64) 3 _ _ _ _ ((rd_T45 l1_0 a2).f2) from ge550_2)
     have hz550:=kzN_cell HO_542000.out a2 p550 (by first|exact q550|exact odT zA_|(have e_:=(Kd.S_reads' HO_542000.out).1;omega)) hz
     rw [add_field _ _ 2 (by omega)] at hz550
     replace hx550_2:=hz550
     clear hz550 hv550_2 ge550_2 hcc550 hce550
     have HR550_2:=As_ hi550_2
     have HC550_2:=As_ hl550_2
     clear hi550_2 hl550_2
     replace p550:=eq_true p550
     replace q550:=eq_true q550
     go_wp2_with (first|((with_reducible refine gate_dst (N:=10) rfl ?_);refine box_event ?hg (N:=10) ?hd (cs:=#[.int .i64 0,.int .i64 0,.slice none 0 0]) (t:=45) ?hr ?_;(case hd=>rfl);(case hg=>rfl);(case hr=>go_simp <;> rfl);intro gb551 hg w99 hbox hb;have n0_:=As_ (Kd.S_below (Kd.S_elderB (zS_ HO_542000.out) gb551 (Nat.le_of_eq hg.symm)) hb);have n1_:=As_ (Kd.R_below (zR_ HO_545002.out) hb);have n2_:=As_ (Kd.R_below (zR_ HL550_2.out) hb);have n3_:=As_ (zkb BK541.out hb);have n4_:=As_ (zkb BK542.out hb);have n5_:=As_ (zkb BK544.out hb);have n6_:=As_ (IsS85.below (zi85_3 HI0.out NB0_541.out NB0_542.out NB0_544.out) hb);have n7_:=As_ (Kd.C_below (by repeat (first|(with_reducible exact HR550_2.out)|(with_reducible refine Kd.C_alloc ?_ _)|(with_reducible refine Kd.C_drewN ?_ _)|(with_reducible refine Kd.C_drew ?_)|exact HR550_2.out)) hb);have n8_:=As_ (Kept.below (S:=(fun k_=>(P1_0_ k_)∨k_=g)) (zq3 HK.out GW541.out GW542.out GW544.out) hb);have n9_:=As_ (bwT (zb4 HB.out (IsS85.ge HI0.out) GE541.out GE542.out GE544.out) hb);have n10_:=As_ (hbox);have n11_:=As_ ((by rw [hg];exact (by first|exact HK.out.1|exact (show Kept w _ (fun k_=>(P1_0_ k_)∨k_=g) from zq3 HK.out GW541.out GW542.out GW544.out).1):w.heap.size≤gb551));have n12_:=As_ ((by rw [hg];exact (bwZ (zb4 HB.out (IsS85.ge HI0.out) GE541.out GE542.out GE544.out)):w0.heap.size≤gb551));have n13_:=As_ ((by rw [hg];exact Nat.ne_of_lt (zkl BK541.out):gb541≠gb551));have n14_:=As_ ((by rw [hg];exact Nat.ne_of_gt (zkl BK541.out):gb551≠gb541));have n15_:=As_ ((by rw [hg];exact Nat.ne_of_lt (zkl BK542.out):gb542≠gb551));have n16_:=As_ ((by rw [hg];exact Nat.ne_of_gt (zkl BK542.out):gb551≠gb542));have n17_:=As_ ((by rw [hg];exact Nat.ne_of_lt (zkl BK544.out):gb544≠gb551));have n18_:=As_ ((by rw [hg];exact Nat.ne_of_gt (zkl BK544.out):gb551≠gb544));have n19_:=As_ ((by rw [hg];exact Nat.ne_of_lt (IsS85.lt (show IsS85 w0 _ g s0_0 x1001_1 from zi85_3 HI0.out NB0_541.out NB0_542.out NB0_544.out)):g≠gb551));have n20_:=As_ ((by rw [hg];exact Nat.ne_of_gt (IsS85.lt (show IsS85 w0 _ g s0_0 x1001_1 from zi85_3 HI0.out NB0_541.out NB0_542.out NB0_544.out)):gb551≠g));clear HO_542000 HO_545002 HL550_2 BK541 BK542 BK544 HI0 HR550_2 HK HB;revert n0_ n1_ n2_ n3_ n4_ n5_ n6_ n7_ n8_ n9_ n10_ n11_ n12_ n13_ n14_ n15_ n16_ n17_ n18_ n19_ n20_;intro HO_542000 HO_545002 HL550_2 BK541 BK542 BK544 HI0 HR550_2 HK HB BK551 GW551 GE551 NB541_551 NB551_541 NB542_551 NB551_542 NB544_551 NB551_544 NB0_551 NB551_0;clear hb hbox hg;have hnb100:=NB551_541.out;have hnc100:=NB541_551.out;have hnb101:=NB551_542.out;have hnc101:=NB542_551.out;have hnb102:=NB551_544.out;have hnc102:=NB544_551.out;have hnb103:=NB551_0.out;have hnc103:=NB0_551.out;obtain ⟨hcz104_0,hcz104_1,hcz104_2,hfz104_0,hfz104_1,hfz104_2⟩:=bk3 BK551.out)|((with_reducible refine gate_store (t:=45) (p:=10) rfl ?_);refine store_event (t:=45) (p:=10) (v:=?vo_w105) (w1:=(((w99.setCell ⟨gb551,0,none⟩ (.int .i64 ((rd_T45 l1_0 a2).f0))).setCell ⟨gb551,1,none⟩ (.int .i64 ((rd_T45 l1_0 a2).f1))).setCell ⟨gb551,2,none⟩ (.slice none 0 0))) ?hg ?ho ?hn ?hr ?_;(case ho=>rfl);(case hg=>rfl);(case hn=>rfl);(case hr=>go_simp <;> rfl);intro w105 hw;have n0_:Aside0 (Kd.S kzN 45 w105 w0.heap.size (fun k_=>(P1_0_ k_∨w.heap.size≤k_)∧some k_≠((.slice Au_ x545002_1.length cu_):Value).ownBlock∧k_≠gb544∧k_≠gb551) (.slice (some ad543) l1_0.length co7) l1_0):=⟨(by rw [hw];exact (by (with_reducible repeat (first|apply Kd.S_alloc|apply Kd.S_drewN|apply Kd.S_drew));exact Kd.S_mono (Kd.S_far (p:=⟨gb551,2,none⟩) (Kd.S_far (p:=⟨gb551,1,none⟩) (Kd.S_far (p:=⟨gb551,0,none⟩) (Kd.S_mono HO_542000.out (fun k_ hk=>(⟨hk,hk.2⟩:_∧k_≠gb551))) (fun _ hk=>hk.2) (.int .i64 ((rd_T45 l1_0 a2).f0))) (fun _ hk=>hk.2) (.int .i64 ((rd_T45 l1_0 a2).f1))) (fun _ hk=>hk.2) (.slice none 0 0)) (fun _ hk=>⟨hk.1.1.1,⟨hk.1.1.2.1,⟨hk.1.1.2.2,hk.1.2⟩⟩⟩)))⟩;have n1_:Aside0 (Kd.R (Kd.int .i64) 3 w105 w0.heap.size (fun k_=>(P1_0_ k_∨w.heap.size≤k_)) (.slice Au_ x545002_1.length cu_) x545002_1):=⟨(by rw [hw];exact (by (with_reducible repeat (first|apply Kd.R_alloc|apply Kd.R_drewN|apply Kd.R_drew));exact Kd.R_mono (Kd.R_far (p:=⟨gb551,2,none⟩) (Kd.R_far (p:=⟨gb551,1,none⟩) (Kd.R_far (p:=⟨gb551,0,none⟩) (Kd.R_types HO_545002.out BK551.out (by decide)) (fun _ hk=>hk.2) (.int .i64 ((rd_T45 l1_0 a2).f0))) (fun _ hk=>hk.2) (.int .i64 ((rd_T45 l1_0 a2).f1))) (fun _ hk=>hk.2) (.slice none 0 0)) (fun _ hk=>hk.1)))⟩;have n2_:Aside0 (Kd.R (Kd.int .i64) 3 w105 w0.heap.size (fun k_=>(P1_0_ k_∨w.heap.size≤k_)∧some k_≠(.slice (some ad543) l1_0.length co7:Value).ownBlock∧some k_≠((.slice Au_ x545002_1.length cu_):Value).ownBlock∧k_≠gb544) (.slice A550_2 ((rd_T45 l1_0 a2).f2).length c550_2) ((rd_T45 l1_0 a2).f2)):=⟨(by rw [hw];exact (by (with_reducible repeat (first|apply Kd.R_alloc|apply Kd.R_drewN|apply Kd.R_drew));exact Kd.R_mono (Kd.R_far (p:=⟨gb551,2,none⟩) (Kd.R_far (p:=⟨gb551,1,none⟩) (Kd.R_far (p:=⟨gb551,0,none⟩) (Kd.R_types HL550_2.out BK551.out (by decide)) (fun _ hk=>hk.2) (.int .i64 ((rd_T45 l1_0 a2).f0))) (fun _ hk=>hk.2) (.int .i64 ((rd_T45 l1_0 a2).f1))) (fun _ hk=>hk.2) (.slice none 0 0)) (fun _ hk=>⟨hk.1.1.1,⟨hk.1.2,⟨hk.1.1.2.1,hk.1.1.2.2⟩⟩⟩)))⟩;have n3_:Aside0 (w105.heap[gb541]?=some (.cells #[.slice (some ad543) l1_0.length co7,.int .i64 a1_1] 29 (0,0))):=⟨(by rw [hw];exact (by (with_reducible repeat first|apply bkN|apply bkD|apply bkA);refine blk_far ?_ NB541_551.out _;(with_reducible repeat first|apply bkN|apply bkD|apply bkA);refine blk_far ?_ NB541_551.out _;(with_reducible repeat first|apply bkN|apply bkD|apply bkA);refine blk_far ?_ NB541_551.out _;(with_reducible repeat first|apply bkN|apply bkD|apply bkA);exact BK541.out))⟩;have n4_:Aside0 (w105.heap[gb542]?=some (.cells #[.slice none 0 0,.int .i64 0] 29 (0,0))):=⟨(by rw [hw];exact (by (with_reducible repeat first|apply bkN|apply bkD|apply bkA);refine blk_far ?_ NB542_551.out _;(with_reducible repeat first|apply bkN|apply bkD|apply bkA);refine blk_far ?_ NB542_551.out _;(with_reducible repeat first|apply bkN|apply bkD|apply bkA);refine blk_far ?_ NB542_551.out _;(with_reducible repeat first|apply bkN|apply bkD|apply bkA);exact BK542.out))⟩;have n5_:Aside0 (w105.heap[gb544]?=some (.cells #[.int .i64 ((rd_T45 l1_0 a2).f0),.int .i64 ((rd_T45 l1_0 a2).f1),(.slice Au_ x545002_1.length cu_)] 45 (0,0))):=⟨(by rw [hw];exact (by (with_reducible repeat first|apply bkN|apply bkD|apply bkA);refine blk_far ?_ NB544_551.out _;(with_reducible repeat first|apply bkN|apply bkD|apply bkA);refine blk_far ?_ NB544_551.out _;(with_reducible repeat first|apply bkN|apply bkD|apply bkA);refine blk_far ?_ NB544_551.out _;(with_reducible repeat first|apply bkN|apply bkD|apply bkA);exact BK544.out))⟩;have n6_:Aside0 (w105.heap[gb551]?=some (.cells #[.int .i64 ((rd_T45 l1_0 a2).f0),.int .i64 ((rd_T45 l1_0 a2).f1),.slice none 0 0] 45 (0,0))):=⟨(by rw [hw];exact (by (with_reducible repeat first|apply bkN|apply bkD|apply bkA);refine blk_put (cs:=#[.int .i64 ((rd_T45 l1_0 a2).f0),.int .i64 ((rd_T45 l1_0 a2).f1),.slice none 0 0]) ?_ 2 _ rfl;(with_reducible repeat first|apply bkN|apply bkD|apply bkA);refine blk_put (cs:=#[.int .i64 ((rd_T45 l1_0 a2).f0),.int .i64 0,.slice none 0 0]) ?_ 1 _ rfl;(with_reducible repeat first|apply bkN|apply bkD|apply bkA);refine blk_put (cs:=#[.int .i64 0,.int .i64 0,.slice none 0 0]) ?_ 0 _ rfl;(with_reducible repeat first|apply bkN|apply bkD|apply bkA);exact BK551.out))⟩;have n7_:Aside0 (IsS85 w0 w105 g s0_0 x1001_1):=⟨(by rw [hw];exact (zi85_4 HI0.out NB0_541.out NB0_542.out NB0_544.out NB0_551.out))⟩;have n8_:Aside0 (Kept w w105 (fun k_=>(P1_0_ k_)∨k_=g)):=⟨(by rw [hw];exact (zq4 HK.out GW541.out GW542.out GW544.out GW551.out))⟩;have n9_:Aside0 (Below w0.heap.size w0 w105):=⟨(by rw [hw];exact (zb5 HB.out (IsS85.ge HI0.out) GE541.out GE542.out GE544.out GE551.out))⟩;clear hw HO_542000 HO_545002 HL550_2 BK541 BK542 BK544 BK551 HI0 HK HB;revert n0_ n1_ n2_ n3_ n4_ n5_ n6_ n7_ n8_ n9_;intro HO_542000 HO_545002 HL550_2 BK541 BK542 BK544 BK551 HI0 HK HB;obtain ⟨hcz106_0,hcz106_1,hfz106_0,hfz106_1⟩:=bk2 BK541.out;have hnb107:=NB544_542.out;have hnc107:=NB542_544.out;have hnb108:=NB544_0.out;have hnc108:=NB0_544.out;obtain ⟨hcz109_0,hcz109_1,hcz109_2,hfz109_0,hfz109_1,hfz109_2⟩:=bk3 BK544.out;have p92:0≤(a2:Int):=odT zA_;have q92:(a2:Int)<((l1_0.length:Int):Int):=odT zA_;obtain ⟨go92,co92,eo92,gb92,gl92,cl92,HG92⟩:=Kd.S_form HO_542000.out (by omega);(first|cases eo92|(injection eo92 with ea_ en_ ec_;(first|subst ea_|(injection ea_ with ea_;subst ea_));subst ec_;clear en_));have GB92:=As_ gb92;have GG92:=As_ HG92;clear gb92 gl92 HG92;have HMgo92:=As_ (show (P1_0_ go92∨w.heap.size≤go92) from ((Kd.S_R HO_542000.out).1 _ rfl).1);(first|simp only [add_plain] at hx543_0|skip);(first|simp only [add_plain] at hx543_1|skip);(first|simp only [add_plain] at hx543_2|skip);(first|simp only [add_plain] at hx563_0|skip);(first|simp only [add_plain] at hx563_1|skip);(first|simp only [add_plain] at hx563_2|skip);(first|simp only [add_plain] at hx550_0|skip);(first|simp only [add_plain] at hx550_1|skip);(first|simp only [add_plain] at hx550_2|skip);obtain ⟨_,ce92,hcl92,hM92,hcc92,hfr92,_,_⟩:=Kd.S_elem HO_542000.out z45 (a2:Int) p92 q92;obtain ⟨ve92_2,rfl,ge92_2⟩:=k45_openM hM92.1;have hx92_0:w105.cell? ⟨go92,(a2:Int).toNat * 3,none⟩=some (.int .i64 ((rd_T45 l1_0 a2).f0)):=hcc92 0 _ rfl;have hx92_1:w105.cell? ⟨go92,(a2:Int).toNat * 3+1,none⟩=some (.int .i64 ((rd_T45 l1_0 a2).f1)):=hcc92 1 _ rfl;have hx92_2:w105.cell? ⟨go92,(a2:Int).toNat * 3+2,none⟩=some (ve92_2):=hcc92 2 _ rfl;have hf92_0:w105.frozen? ⟨go92,(a2:Int).toNat * 3,none⟩=false:=hfr92 0;have hf92_1:w105.frozen? ⟨go92,(a2:Int).toNat * 3+1,none⟩=false:=hfr92 1;have hf92_2:w105.frozen? ⟨go92,(a2:Int).toNat * 3+2,none⟩=false:=hfr92 2;clear hcl92 hcc92 hfr92 hM92;replace p92:=eq_true p92;replace q92:=eq_true q92;have HX110:=As_ (show Kd.S kzN 45 w105 w0.heap.size (fun k_=>((fun k_=>(P1_0_ k_∨w.heap.size≤k_)∧k_≠gb544∧k_≠gb551)) k_∧¬ ((fun k_=>some k_=((.slice Au_ x545002_1.length cu_):Value).ownBlock)) k_) (.slice (some ⟨go92,0,none⟩) l1_0.length co7) l1_0 from (by (with_reducible repeat (first|apply Kd.S_alloc|apply Kd.S_drewN|apply Kd.S_drew));exact Kd.S_mono HO_542000.out (fun k_ hk=>⟨⟨hk.1,⟨hk.2.2.1,hk.2.2.2⟩⟩,fun e_=>hk.2.1 e_⟩)));obtain ⟨oki110,ce110,hcl110,hM110,hcc110,hfr110,hoki110,hH110⟩:=Kd.S_elem HX110.out z45 (a2:Int) (odT zA_) (by have h_:(a2:Int)<((l1_0.length:Int):Int):=odT zA_;first|exact h_|(have e_:=(Kd.S_reads' HO_542000.out).1;omega)|simpa using h_);obtain ⟨ve110_2,rfl,ge110_2⟩:=k45_openM hM110.1;have HP110:=Kd.S_seg hH110 (odT zA_) (by have h_:(a2:Int)<((l1_0.length:Int):Int):=odT zA_;first|exact h_|(have e_:=(Kd.S_reads' HO_542000.out).1;omega)|simpa using h_) (seg:=[.int .i64 ((rd_T45 l1_0 a2).f0),.int .i64 ((rd_T45 l1_0 a2).f1),(.slice Au_ x545002_1.length cu_)]) (j:=0) (show 3≤3 from by decide) (x':=(⟨((rd_T45 l1_0 a2).f0),((rd_T45 l1_0 a2).f1),x545002_1⟩:S45)) (kzN_mkM _ _ _ (⟨((rd_T45 l1_0 a2).f0),((rd_T45 l1_0 a2).f1),x545002_1⟩:S45) (Kd.R_mono (Kd.R_tight rfl (Kd.R_mono (ok':=fun k_=>((fun k_=>(P1_0_ k_∨w.heap.size≤k_)∧k_≠gb544∧k_≠gb551)) k_∧k_≠go92) (Kd.R_types (Kd.R_types (Kd.R_apart' (HO_545002.out) (Kd.S_typed HO_542000.out) (by decide)) BK544.out (by decide)) BK551.out (by decide)) (fun k_ hk=>⟨⟨hk.1.1.1,⟨hk.1.2,hk.2⟩⟩,fun e_=>(hk.1.1.2) (by rw [e_];rfl)⟩))) (fun _ h_=>Or.inr (h_))) HZn.out) (fun _ hk=>hk) (fun k_ hk_=>((Kd.R_mono (ok':=fun k_=>((fun k_=>(P1_0_ k_∨w.heap.size≤k_)∧k_≠gb544∧k_≠gb551)) k_∧k_≠go92) (Kd.R_types (Kd.R_types (Kd.R_apart' (HO_545002.out) (Kd.S_typed HO_542000.out) (by decide)) BK544.out (by decide)) BK551.out (by decide)) (fun k_ hk=>⟨⟨hk.1.1.1,⟨hk.1.2,hk.2⟩⟩,fun e_=>(hk.1.1.2) (by rw [e_];rfl)⟩))).1 k_ hk_.symm);have hx110_0:=hcc110 0 _ rfl;(try simp only [show (kzN).sz=3 from rfl,Nat.mul_one,Nat.add_zero] at hx110_0);have hf110_0:=hfr110 0;(try simp only [show (kzN).sz=3 from rfl,Nat.mul_one,Nat.add_zero] at hf110_0);have hx110_1:=hcc110 1 _ rfl;(try simp only [show (kzN).sz=3 from rfl,Nat.mul_one,Nat.add_zero] at hx110_1);have hf110_1:=hfr110 1;(try simp only [show (kzN).sz=3 from rfl,Nat.mul_one,Nat.add_zero] at hf110_1);have hx110_2:=hcc110 2 _ rfl;(try simp only [show (kzN).sz=3 from rfl,Nat.mul_one,Nat.add_zero] at hx110_2);have hf110_2:=hfr110 2;(try simp only [show (kzN).sz=3 from rfl,Nat.mul_one,Nat.add_zero] at hf110_2);clear hcl110 hcc110 hfr110 hM110 hoki110 hH110)|((with_reducible refine gate_store (t:=45) (p:=78) rfl ?_);refine store_event (t:=45) (p:=78) (v:=?vo_w111) (w1:=(((w105.setCell ⟨go92,(a2:Int).toNat * 3,none⟩ (.int .i64 ((rd_T45 l1_0 a2).f0))).setCell ⟨go92,(a2:Int).toNat * 3+1,none⟩ (.int .i64 ((rd_T45 l1_0 a2).f1))).setCell ⟨go92,(a2:Int).toNat * 3+2,none⟩ ((.slice Au_ x545002_1.length cu_)))) ?hg ?ho ?hn ?hr ?_;(case ho=>rfl);(case hg=>rfl);(case hn=>rfl);(case hr=>go_simp <;> rfl);intro w111 hw;have hg:w105.grownBy w111 (some go92):=(by rw [hw];exact HP110.2);have hp_:Kd.S kzN 45 w111 w0.heap.size (fun k_=>(P1_0_ k_∨w.heap.size≤k_)∧k_≠gb544∧k_≠gb551) (.slice (some ⟨go92,0,none⟩) l1_0.length co7) y552:=(by rw [hw,Ny552.out];exact HP110.1);clear HP110;have n0_:=As_ (hp_);have n1_:=As_ (blk_grown (g:=gb541) (o:=.cells #[.slice (some ⟨go92,0,none⟩) l1_0.length co7,.int .i64 a1_1] 29 (0,0)) (zk_ BK541.out) hg (Kd.S_ne HO_542000.out BK541.out (by decide)));have n2_:=As_ (blk_grown (g:=gb542) (o:=.cells #[.slice none 0 0,.int .i64 0] 29 (0,0)) (zk_ BK542.out) hg (Kd.S_ne HO_542000.out BK542.out (by decide)));have n3_:=As_ (blk_grown (g:=gb544) (o:=.cells #[.int .i64 ((rd_T45 l1_0 a2).f0),.int .i64 ((rd_T45 l1_0 a2).f1),(.slice Au_ x545002_1.length cu_)] 45 (0,0)) (zk_ BK544.out) hg (Kd.S_away HO_542000.out (fun _ hk=>hk.2.2.1)));have n4_:=As_ (IsS85.grown (zi85_4 HI0.out NB0_541.out NB0_542.out NB0_544.out NB0_551.out) hg (IsS85.own_neS HI0.out HO_542000.out (by decide)));have n5_:=As_ (Kd.R_after (v:=(.slice (some ⟨go92,0,none⟩) l1_0.length co7)) (v1:=(.slice (some ⟨go92,0,none⟩) l1_0.length co7)) (ok:=(fun k_=>(P1_0_ k_∨w.heap.size≤k_)∧some k_≠((.slice Au_ x545002_1.length cu_):Value).ownBlock∧k_≠gb544)) (by (with_reducible repeat (first|apply Kd.R_alloc|apply Kd.R_drewN|apply Kd.R_drew));exact Kd.R_mono HL550_2.out (fun _ hk=>⟨⟨hk.1,⟨hk.2.2.1,hk.2.2.2⟩⟩,hk.2.1⟩)) hg (.inl rfl));have n6_:=As_ (blk_grown (g:=gb551) (o:=.cells #[.int .i64 ((rd_T45 l1_0 a2).f0),.int .i64 ((rd_T45 l1_0 a2).f1),.slice none 0 0] 45 (0,0)) (zk_ BK551.out) hg (Kd.S_away HO_542000.out (fun _ hk=>hk.2.2.2)));have n7_:=As_ ((by rw [hw];exact bwS (bwS (bwS (HB.out) GB92.out) GB92.out) GB92.out:Below w0.heap.size w0 w111));have n8_:=As_ (Kept.of_grown (S:=(fun k_=>(P1_0_ k_)∨k_=g)) hg (zq4 HK.out GW541.out GW542.out GW544.out GW551.out) (fun k_ e_=>Or.imp_left Or.inl (((Kd.S_R HO_542000.out).1 k_ e_).1)));clear HO_542000 BK541 BK542 BK544 HI0 HL550_2 BK551 HB HK HO_545002;revert n0_ n1_ n2_ n3_ n4_ n5_ n6_ n7_ n8_;intro HO_542000 BK541 BK542 BK544 HI0 HL550_2 BK551 HB HK;clear hg hw hp_;obtain ⟨hcz112_0,hcz112_1,hfz112_0,hfz112_1⟩:=bk2 BK541.out)|((with_reducible refine gate_callee (f:=48) rfl ?_);refine goesL_ (some 80) rfl rfl Try.func48 (by kernel_rfl) rfl #[.agg #[.slice (some ⟨go92,0,none⟩) y552.length co7,.int .i64 a1_1]] rfl (by (try simp only [List.map_toArray,List.map_cons,List.map_nil]);first|done|(rw [show y552.length=l1_0.length from (Kd.S_reads' HO_542000.out).1.symm] <;> rfl)|rfl|(simp only [List.length_drop,List.length_take];rfl)) ?_;(with_reducible refine (spec_validGraph.calls k1 _ _ y552 a1_1 true _ ?side1 ?side2 A93.out).mono ?_);(case side1=>repeat (first|exact (kzN_C (Kd.S_reads' HO_542000.out).2.2)|(with_reducible refine Kd.C_alloc ?_ _)|(with_reducible refine Kd.C_drewN ?_ _)|(with_reducible refine Kd.C_drew ?_)));(case side2=>rw [show y552.length=l1_0.length from (Kd.S_reads' HO_542000.out).1.symm];exact (Kd.S_reads' HO_542000.out).2.1);rintro e w113 ⟨rfl,hb⟩;refine ⟨_,rfl,?_⟩;have n0_:=As_ (Kd.S_below (zS_ HO_542000.out) hb);have n1_:=As_ (Kd.R_below (zR_ HL550_2.out) hb);have n2_:=As_ (zkb BK541.out hb);have n3_:=As_ (zkb BK542.out hb);have n4_:=As_ (zkb BK544.out hb);have n5_:=As_ (IsS85.below (zi85_4 HI0.out NB0_541.out NB0_542.out NB0_544.out NB0_551.out) hb);have n6_:=As_ (zkb BK551.out hb);have n7_:=As_ (Kept.below (S:=(fun k_=>(P1_0_ k_)∨k_=g)) (zq4 HK.out GW541.out GW542.out GW544.out GW551.out) hb);have n8_:=As_ (bwT (zb5 HB.out (IsS85.ge HI0.out) GE541.out GE542.out GE544.out GE551.out) hb);clear HO_542000 HL550_2 BK541 BK542 BK544 HI0 BK551 HK HB;revert n0_ n1_ n2_ n3_ n4_ n5_ n6_ n7_ n8_;intro HO_542000 HL550_2 BK541 BK542 BK544 HI0 BK551 HK HB;obtain ⟨hcz114_0,hcz114_1,hfz114_0,hfz114_1⟩:=bk2 BK541.out;have hnb115:=NB542_0.out;have hnc115:=NB0_542.out;obtain ⟨hcz116_0,hcz116_1,hfz116_0,hfz116_1⟩:=bk2 BK542.out))
     refine bodyPost_ret (results_cell_row rfl _ _ gb542 29 #[.slice (some ⟨go92,0,none⟩) l1_0.length co7,.int .i64 a1_1] (0,0) _ rfl (by (with_reducible repeat first|apply bkN|apply bkD|apply bkA);refine blk_put (cs:=#[.slice (some ⟨go92,0,none⟩) l1_0.length co7,.int .i64 0]) ?_ 1 _ rfl;(with_reducible repeat first|apply bkN|apply bkD|apply bkA);refine blk_put (cs:=#[.slice none 0 0,.int .i64 0]) ?_ 0 _ rfl;(with_reducible repeat first|apply bkN|apply bkD|apply bkA);exact BK542.out) Try.underlying29 rfl (by kernel_rfl)) rfl ?_
     exact ⟨_,zE_,by (with_reducible repeat (first|apply Kd.S_alloc|apply Kd.S_drewN|apply Kd.S_drew));exact Kd.S_mono (Kd.S_far (p:=⟨gb542,1,none⟩) (Kd.S_far (p:=⟨gb542,0,none⟩) (Kd.S_types HO_542000.out BK542.out (by decide)) (fun _ hk=>hk.2) (.slice (some ⟨go92,0,none⟩) l1_0.length co7)) (fun _ hk=>hk.2) (.int .i64 a1_1)) (fun _ hk=>hk.1.1),zi85_4 HI0.out NB0_541.out NB0_542.out NB0_544.out NB0_551.out,zb5 HB.out (IsS85.ge HI0.out) GE541.out GE542.out GE544.out GE551.out,zq4 HK.out GW541.out GW542.out GW544.out GW551.out⟩
    replace c94:=Bool.eq_false_iff.mpr c94
    subst c94
    have H1:(some ((y552.set (a2:Int).toNat (⟨(rd_T45 l1_0 a2).f0,(rd_T45 l1_0 a2).f1,([]:List Int)⟩:S45)),a1_1,x1001_1))=some (r1,r2,r3):=by rw [if_neg (show ¬ (false=true) by decide)] at H;exact H
    clear H
    have H:=H1
    clear H1
    obtain ⟨y554,hy554⟩:∃ y_:List (S45),y_=(y552.set (a2:Int).toNat (⟨(rd_T45 l1_0 a2).f0,(rd_T45 l1_0 a2).f1,([]:List Int)⟩:S45)):=⟨_,rfl⟩
    replace H:(some (y554,a1_1,x1001_1))=some (r1,r2,r3):=zH_ H hy554
    have Ny554:=As_ hy554
    clear hy554
    simp only [Option.some.injEq,Prod.mk.injEq] at H
    obtain ⟨rfl,rfl,rfl⟩:=H
    have hnb118:=NB541_542.out
    have hnc118:=NB542_541.out
    have hnb119:=NB541_544.out
    have hnc119:=NB544_541.out
    have hnb120:=NB541_0.out
    have hnc120:=NB0_541.out
    obtain ⟨hcz121_0,hcz121_1,hfz121_0,hfz121_1⟩:=bk2 BK541.out
    obtain ⟨Au_,cu_,eu_⟩:=Kd.R_slice HO_545002.out
    subst eu_
    have p550:0≤(a2:Int):=odT zA_
    have q550:a2<(l1_0.length:Int):=odT zA_
    obtain ⟨ad550,A550_2,c550_2,e550,hx550_0,hx550_1,hx550_2,hl550_2,hi550_2⟩:=at_T45 (kzN_C (Kd.S_reads' HO_542000.out).2.2) a2 p550 q550
    obtain rfl:ad543=ad550:=(by injection e550)
    obtain ⟨ce550,hce550,hMe550,hcc550⟩:=Kd.S_get HO_542000.out z45 a2 p550 (by first|exact q550|exact odT zA_|(have e_:=(Kd.S_reads' HO_542000.out).1;omega))
    obtain ⟨ve550_2,rfl,ge550_2⟩:=k45_openM hMe550.1
    have hv550_2:=hcc550 2 _ rfl
    rw [add_field _ _ 2 (by omega)] at hv550_2
    replace hv550_2:=Option.some.inj (hv550_2.symm.trans hx550_2)
    rw [hv550_2] at ge550_2
    have HL550_2:=As_ (show Kd.R (Kd.int .i64) 3 _ _ _ _ ((rd_T45 l1_0 a2).f2) from ge550_2)
    have hz550:=kzN_cell HO_542000.out a2 p550 (by first|exact q550|exact odT zA_|(have e_:=(Kd.S_reads' HO_542000.out).1;omega)) hz
    rw [add_field _ _ 2 (by omega)] at hz550
    replace hx550_2:=hz550
    clear hz550 hv550_2 ge550_2 hcc550 hce550
    have HR550_2:=As_ hi550_2
    have HC550_2:=As_ hl550_2
    clear hi550_2 hl550_2
    replace p550:=eq_true p550
    replace q550:=eq_true q550
    go_wp2_with (first|((with_reducible refine gate_dst (N:=10) rfl ?_);refine box_event ?hg (N:=10) ?hd (cs:=#[.int .i64 0,.int .i64 0,.slice none 0 0]) (t:=45) ?hr ?_;(case hd=>rfl);(case hg=>rfl);(case hr=>go_simp <;> rfl);intro gb551 hg w122 hbox hb;have n0_:=As_ (Kd.S_below (Kd.S_elderB (zS_ HO_542000.out) gb551 (Nat.le_of_eq hg.symm)) hb);have n1_:=As_ (Kd.R_below (zR_ HO_545002.out) hb);have n2_:=As_ (Kd.R_below (zR_ HL550_2.out) hb);have n3_:=As_ (zkb BK541.out hb);have n4_:=As_ (zkb BK542.out hb);have n5_:=As_ (zkb BK544.out hb);have n6_:=As_ (IsS85.below (zi85_3 HI0.out NB0_541.out NB0_542.out NB0_544.out) hb);have n7_:=As_ (Kd.C_below (by repeat (first|(with_reducible exact HR550_2.out)|(with_reducible refine Kd.C_alloc ?_ _)|(with_reducible refine Kd.C_drewN ?_ _)|(with_reducible refine Kd.C_drew ?_)|exact HR550_2.out)) hb);have n8_:=As_ (Kept.below (S:=(fun k_=>(P1_0_ k_)∨k_=g)) (zq3 HK.out GW541.out GW542.out GW544.out) hb);have n9_:=As_ (bwT (zb4 HB.out (IsS85.ge HI0.out) GE541.out GE542.out GE544.out) hb);have n10_:=As_ (hbox);have n11_:=As_ ((by rw [hg];exact (by first|exact HK.out.1|exact (show Kept w _ (fun k_=>(P1_0_ k_)∨k_=g) from zq3 HK.out GW541.out GW542.out GW544.out).1):w.heap.size≤gb551));have n12_:=As_ ((by rw [hg];exact (bwZ (zb4 HB.out (IsS85.ge HI0.out) GE541.out GE542.out GE544.out)):w0.heap.size≤gb551));have n13_:=As_ ((by rw [hg];exact Nat.ne_of_lt (zkl BK541.out):gb541≠gb551));have n14_:=As_ ((by rw [hg];exact Nat.ne_of_gt (zkl BK541.out):gb551≠gb541));have n15_:=As_ ((by rw [hg];exact Nat.ne_of_lt (zkl BK542.out):gb542≠gb551));have n16_:=As_ ((by rw [hg];exact Nat.ne_of_gt (zkl BK542.out):gb551≠gb542));have n17_:=As_ ((by rw [hg];exact Nat.ne_of_lt (zkl BK544.out):gb544≠gb551));have n18_:=As_ ((by rw [hg];exact Nat.ne_of_gt (zkl BK544.out):gb551≠gb544));have n19_:=As_ ((by rw [hg];exact Nat.ne_of_lt (IsS85.lt (show IsS85 w0 _ g s0_0 x1001_1 from zi85_3 HI0.out NB0_541.out NB0_542.out NB0_544.out)):g≠gb551));have n20_:=As_ ((by rw [hg];exact Nat.ne_of_gt (IsS85.lt (show IsS85 w0 _ g s0_0 x1001_1 from zi85_3 HI0.out NB0_541.out NB0_542.out NB0_544.out)):gb551≠g));clear HO_542000 HO_545002 HL550_2 BK541 BK542 BK544 HI0 HR550_2 HK HB;revert n0_ n1_ n2_ n3_ n4_ n5_ n6_ n7_ n8_ n9_ n10_ n11_ n12_ n13_ n14_ n15_ n16_ n17_ n18_ n19_ n20_;intro HO_542000 HO_545002 HL550_2 BK541 BK542 BK544 HI0 HR550_2 HK HB BK551 GW551 GE551 NB541_551 NB551_541 NB542_551 NB551_542 NB544_551 NB551_544 NB0_551 NB551_0;clear hb hbox hg;have hnb123:=NB551_541.out;have hnc123:=NB541_551.out;have hnb124:=NB551_542.out;have hnc124:=NB542_551.out;have hnb125:=NB551_544.out;have hnc125:=NB544_551.out;have hnb126:=NB551_0.out;have hnc126:=NB0_551.out;obtain ⟨hcz127_0,hcz127_1,hcz127_2,hfz127_0,hfz127_1,hfz127_2⟩:=bk3 BK551.out)|((with_reducible refine gate_store (t:=45) (p:=10) rfl ?_);refine store_event (t:=45) (p:=10) (v:=?vo_w128) (w1:=(((w122.setCell ⟨gb551,0,none⟩ (.int .i64 ((rd_T45 l1_0 a2).f0))).setCell ⟨gb551,1,none⟩ (.int .i64 ((rd_T45 l1_0 a2).f1))).setCell ⟨gb551,2,none⟩ (.slice none 0 0))) ?hg ?ho ?hn ?hr ?_;(case ho=>rfl);(case hg=>rfl);(case hn=>rfl);(case hr=>go_simp <;> rfl);intro w128 hw;have n0_:Aside0 (Kd.S kzN 45 w128 w0.heap.size (fun k_=>(P1_0_ k_∨w.heap.size≤k_)∧some k_≠((.slice Au_ x545002_1.length cu_):Value).ownBlock∧k_≠gb544∧k_≠gb551) (.slice (some ad543) l1_0.length co7) l1_0):=⟨(by rw [hw];exact (by (with_reducible repeat (first|apply Kd.S_alloc|apply Kd.S_drewN|apply Kd.S_drew));exact Kd.S_mono (Kd.S_far (p:=⟨gb551,2,none⟩) (Kd.S_far (p:=⟨gb551,1,none⟩) (Kd.S_far (p:=⟨gb551,0,none⟩) (Kd.S_mono HO_542000.out (fun k_ hk=>(⟨hk,hk.2⟩:_∧k_≠gb551))) (fun _ hk=>hk.2) (.int .i64 ((rd_T45 l1_0 a2).f0))) (fun _ hk=>hk.2) (.int .i64 ((rd_T45 l1_0 a2).f1))) (fun _ hk=>hk.2) (.slice none 0 0)) (fun _ hk=>⟨hk.1.1.1,⟨hk.1.1.2.1,⟨hk.1.1.2.2,hk.1.2⟩⟩⟩)))⟩;have n1_:Aside0 (Kd.R (Kd.int .i64) 3 w128 w0.heap.size (fun k_=>(P1_0_ k_∨w.heap.size≤k_)) (.slice Au_ x545002_1.length cu_) x545002_1):=⟨(by rw [hw];exact (by (with_reducible repeat (first|apply Kd.R_alloc|apply Kd.R_drewN|apply Kd.R_drew));exact Kd.R_mono (Kd.R_far (p:=⟨gb551,2,none⟩) (Kd.R_far (p:=⟨gb551,1,none⟩) (Kd.R_far (p:=⟨gb551,0,none⟩) (Kd.R_types HO_545002.out BK551.out (by decide)) (fun _ hk=>hk.2) (.int .i64 ((rd_T45 l1_0 a2).f0))) (fun _ hk=>hk.2) (.int .i64 ((rd_T45 l1_0 a2).f1))) (fun _ hk=>hk.2) (.slice none 0 0)) (fun _ hk=>hk.1)))⟩;have n2_:Aside0 (Kd.R (Kd.int .i64) 3 w128 w0.heap.size (fun k_=>(P1_0_ k_∨w.heap.size≤k_)∧some k_≠(.slice (some ad543) l1_0.length co7:Value).ownBlock∧some k_≠((.slice Au_ x545002_1.length cu_):Value).ownBlock∧k_≠gb544) (.slice A550_2 ((rd_T45 l1_0 a2).f2).length c550_2) ((rd_T45 l1_0 a2).f2)):=⟨(by rw [hw];exact (by (with_reducible repeat (first|apply Kd.R_alloc|apply Kd.R_drewN|apply Kd.R_drew));exact Kd.R_mono (Kd.R_far (p:=⟨gb551,2,none⟩) (Kd.R_far (p:=⟨gb551,1,none⟩) (Kd.R_far (p:=⟨gb551,0,none⟩) (Kd.R_types HL550_2.out BK551.out (by decide)) (fun _ hk=>hk.2) (.int .i64 ((rd_T45 l1_0 a2).f0))) (fun _ hk=>hk.2) (.int .i64 ((rd_T45 l1_0 a2).f1))) (fun _ hk=>hk.2) (.slice none 0 0)) (fun _ hk=>⟨hk.1.1.1,⟨hk.1.2,⟨hk.1.1.2.1,hk.1.1.2.2⟩⟩⟩)))⟩;have n3_:Aside0 (w128.heap[gb541]?=some (.cells #[.slice (some ad543) l1_0.length co7,.int .i64 a1_1] 29 (0,0))):=⟨(by rw [hw];exact (by (with_reducible repeat first|apply bkN|apply bkD|apply bkA);refine blk_far ?_ NB541_551.out _;(with_reducible repeat first|apply bkN|apply bkD|apply bkA);refine blk_far ?_ NB541_551.out _;(with_reducible repeat first|apply bkN|apply bkD|apply bkA);refine blk_far ?_ NB541_551.out _;(with_reducible repeat first|apply bkN|apply bkD|apply bkA);exact BK541.out))⟩;have n4_:Aside0 (w128.heap[gb542]?=some (.cells #[.slice none 0 0,.int .i64 0] 29 (0,0))):=⟨(by rw [hw];exact (by (with_reducible repeat first|apply bkN|apply bkD|apply bkA);refine blk_far ?_ NB542_551.out _;(with_reducible repeat first|apply bkN|apply bkD|apply bkA);refine blk_far ?_ NB542_551.out _;(with_reducible repeat first|apply bkN|apply bkD|apply bkA);refine blk_far ?_ NB542_551.out _;(with_reducible repeat first|apply bkN|apply bkD|apply bkA);exact BK542.out))⟩;have n5_:Aside0 (w128.heap[gb544]?=some (.cells #[.int .i64 ((rd_T45 l1_0 a2).f0),.int .i64 ((rd_T45 l1_0 a2).f1),(.slice Au_ x545002_1.length cu_)] 45 (0,0))):=⟨(by rw [hw];exact (by (with_reducible repeat first|apply bkN|apply bkD|apply bkA);refine blk_far ?_ NB544_551.out _;(with_reducible repeat first|apply bkN|apply bkD|apply bkA);refine blk_far ?_ NB544_551.out _;(with_reducible repeat first|apply bkN|apply bkD|apply bkA);refine blk_far ?_ NB544_551.out _;(with_reducible repeat first|apply bkN|apply bkD|apply bkA);exact BK544.out))⟩;have n6_:Aside0 (w128.heap[gb551]?=some (.cells #[.int .i64 ((rd_T45 l1_0 a2).f0),.int .i64 ((rd_T45 l1_0 a2).f1),.slice none 0 0] 45 (0,0))):=⟨(by rw [hw];exact (by (with_reducible repeat first|apply bkN|apply bkD|apply bkA);refine blk_put (cs:=#[.int .i64 ((rd_T45 l1_0 a2).f0),.int .i64 ((rd_T45 l1_0 a2).f1),.slice none 0 0]) ?_ 2 _ rfl;(with_reducible repeat first|apply bkN|apply bkD|apply bkA);refine blk_put (cs:=#[.int .i64 ((rd_T45 l1_0 a2).f0),.int .i64 0,.slice none 0 0]) ?_ 1 _ rfl;(with_reducible repeat first|apply bkN|apply bkD|apply bkA);refine blk_put (cs:=#[.int .i64 0,.int .i64 0,.slice none 0 0]) ?_ 0 _ rfl;(with_reducible repeat first|apply bkN|apply bkD|apply bkA);exact BK551.out))⟩;have n7_:Aside0 (IsS85 w0 w128 g s0_0 x1001_1):=⟨(by rw [hw];exact (zi85_4 HI0.out NB0_541.out NB0_542.out NB0_544.out NB0_551.out))⟩;have n8_:Aside0 (Kept w w128 (fun k_=>(P1_0_ k_)∨k_=g)):=⟨(by rw [hw];exact (zq4 HK.out GW541.out GW542.out GW544.out GW551.out))⟩;have n9_:Aside0 (Below w0.heap.size w0 w128):=⟨(by rw [hw];exact (zb5 HB.out (IsS85.ge HI0.out) GE541.out GE542.out GE544.out GE551.out))⟩;clear hw HO_542000 HO_545002 HL550_2 BK541 BK542 BK544 BK551 HI0 HK HB;revert n0_ n1_ n2_ n3_ n4_ n5_ n6_ n7_ n8_ n9_;intro HO_542000 HO_545002 HL550_2 BK541 BK542 BK544 BK551 HI0 HK HB;obtain ⟨hcz129_0,hcz129_1,hfz129_0,hfz129_1⟩:=bk2 BK541.out;have hnb130:=NB544_542.out;have hnc130:=NB542_544.out;have hnb131:=NB544_0.out;have hnc131:=NB0_544.out;obtain ⟨hcz132_0,hcz132_1,hcz132_2,hfz132_0,hfz132_1,hfz132_2⟩:=bk3 BK544.out;have p92:0≤(a2:Int):=odT zA_;have q92:(a2:Int)<((l1_0.length:Int):Int):=odT zA_;obtain ⟨go92,co92,eo92,gb92,gl92,cl92,HG92⟩:=Kd.S_form HO_542000.out (by omega);(first|cases eo92|(injection eo92 with ea_ en_ ec_;(first|subst ea_|(injection ea_ with ea_;subst ea_));subst ec_;clear en_));have GB92:=As_ gb92;have GG92:=As_ HG92;clear gb92 gl92 HG92;have HMgo92:=As_ (show (P1_0_ go92∨w.heap.size≤go92) from ((Kd.S_R HO_542000.out).1 _ rfl).1);(first|simp only [add_plain] at hx550_0|skip);(first|simp only [add_plain] at hx550_1|skip);(first|simp only [add_plain] at hx550_2|skip);obtain ⟨_,ce92,hcl92,hM92,hcc92,hfr92,_,_⟩:=Kd.S_elem HO_542000.out z45 (a2:Int) p92 q92;obtain ⟨ve92_2,rfl,ge92_2⟩:=k45_openM hM92.1;have hx92_0:w128.cell? ⟨go92,(a2:Int).toNat * 3,none⟩=some (.int .i64 ((rd_T45 l1_0 a2).f0)):=hcc92 0 _ rfl;have hx92_1:w128.cell? ⟨go92,(a2:Int).toNat * 3+1,none⟩=some (.int .i64 ((rd_T45 l1_0 a2).f1)):=hcc92 1 _ rfl;have hx92_2:w128.cell? ⟨go92,(a2:Int).toNat * 3+2,none⟩=some (ve92_2):=hcc92 2 _ rfl;have hf92_0:w128.frozen? ⟨go92,(a2:Int).toNat * 3,none⟩=false:=hfr92 0;have hf92_1:w128.frozen? ⟨go92,(a2:Int).toNat * 3+1,none⟩=false:=hfr92 1;have hf92_2:w128.frozen? ⟨go92,(a2:Int).toNat * 3+2,none⟩=false:=hfr92 2;clear hcl92 hcc92 hfr92 hM92;replace p92:=eq_true p92;replace q92:=eq_true q92;have HX133:=As_ (show Kd.S kzN 45 w128 w0.heap.size (fun k_=>((fun k_=>(P1_0_ k_∨w.heap.size≤k_)∧k_≠gb544∧k_≠gb551)) k_∧¬ ((fun k_=>some k_=((.slice Au_ x545002_1.length cu_):Value).ownBlock)) k_) (.slice (some ⟨go92,0,none⟩) l1_0.length co7) l1_0 from (by (with_reducible repeat (first|apply Kd.S_alloc|apply Kd.S_drewN|apply Kd.S_drew));exact Kd.S_mono HO_542000.out (fun k_ hk=>⟨⟨hk.1,⟨hk.2.2.1,hk.2.2.2⟩⟩,fun e_=>hk.2.1 e_⟩)));obtain ⟨oki133,ce133,hcl133,hM133,hcc133,hfr133,hoki133,hH133⟩:=Kd.S_elem HX133.out z45 (a2:Int) (odT zA_) (by have h_:(a2:Int)<((l1_0.length:Int):Int):=odT zA_;first|exact h_|(have e_:=(Kd.S_reads' HO_542000.out).1;omega)|simpa using h_);obtain ⟨ve133_2,rfl,ge133_2⟩:=k45_openM hM133.1;have HP133:=Kd.S_seg hH133 (odT zA_) (by have h_:(a2:Int)<((l1_0.length:Int):Int):=odT zA_;first|exact h_|(have e_:=(Kd.S_reads' HO_542000.out).1;omega)|simpa using h_) (seg:=[.int .i64 ((rd_T45 l1_0 a2).f0),.int .i64 ((rd_T45 l1_0 a2).f1),(.slice Au_ x545002_1.length cu_)]) (j:=0) (show 3≤3 from by decide) (x':=(⟨((rd_T45 l1_0 a2).f0),((rd_T45 l1_0 a2).f1),x545002_1⟩:S45)) (kzN_mkM _ _ _ (⟨((rd_T45 l1_0 a2).f0),((rd_T45 l1_0 a2).f1),x545002_1⟩:S45) (Kd.R_mono (Kd.R_tight rfl (Kd.R_mono (ok':=fun k_=>((fun k_=>(P1_0_ k_∨w.heap.size≤k_)∧k_≠gb544∧k_≠gb551)) k_∧k_≠go92) (Kd.R_types (Kd.R_types (Kd.R_apart' (HO_545002.out) (Kd.S_typed HO_542000.out) (by decide)) BK544.out (by decide)) BK551.out (by decide)) (fun k_ hk=>⟨⟨hk.1.1.1,⟨hk.1.2,hk.2⟩⟩,fun e_=>(hk.1.1.2) (by rw [e_];rfl)⟩))) (fun _ h_=>Or.inr (h_))) HZn.out) (fun _ hk=>hk) (fun k_ hk_=>((Kd.R_mono (ok':=fun k_=>((fun k_=>(P1_0_ k_∨w.heap.size≤k_)∧k_≠gb544∧k_≠gb551)) k_∧k_≠go92) (Kd.R_types (Kd.R_types (Kd.R_apart' (HO_545002.out) (Kd.S_typed HO_542000.out) (by decide)) BK544.out (by decide)) BK551.out (by decide)) (fun k_ hk=>⟨⟨hk.1.1.1,⟨hk.1.2,hk.2⟩⟩,fun e_=>(hk.1.1.2) (by rw [e_];rfl)⟩))).1 k_ hk_.symm);have hx133_0:=hcc133 0 _ rfl;(try simp only [show (kzN).sz=3 from rfl,Nat.mul_one,Nat.add_zero] at hx133_0);have hf133_0:=hfr133 0;(try simp only [show (kzN).sz=3 from rfl,Nat.mul_one,Nat.add_zero] at hf133_0);have hx133_1:=hcc133 1 _ rfl;(try simp only [show (kzN).sz=3 from rfl,Nat.mul_one,Nat.add_zero] at hx133_1);have hf133_1:=hfr133 1;(try simp only [show (kzN).sz=3 from rfl,Nat.mul_one,Nat.add_zero] at hf133_1);have hx133_2:=hcc133 2 _ rfl;(try simp only [show (kzN).sz=3 from rfl,Nat.mul_one,Nat.add_zero] at hx133_2);have hf133_2:=hfr133 2;(try simp only [show (kzN).sz=3 from rfl,Nat.mul_one,Nat.add_zero] at hf133_2);clear hcl133 hcc133 hfr133 hM133 hoki133 hH133)|((with_reducible refine gate_store (t:=45) (p:=78) rfl ?_);refine store_event (t:=45) (p:=78) (v:=?vo_w134) (w1:=(((w128.setCell ⟨go92,(a2:Int).toNat * 3,none⟩ (.int .i64 ((rd_T45 l1_0 a2).f0))).setCell ⟨go92,(a2:Int).toNat * 3+1,none⟩ (.int .i64 ((rd_T45 l1_0 a2).f1))).setCell ⟨go92,(a2:Int).toNat * 3+2,none⟩ ((.slice Au_ x545002_1.length cu_)))) ?hg ?ho ?hn ?hr ?_;(case ho=>rfl);(case hg=>rfl);(case hn=>rfl);(case hr=>go_simp <;> rfl);intro w134 hw;have hg:w128.grownBy w134 (some go92):=(by rw [hw];exact HP133.2);have hp_:Kd.S kzN 45 w134 w0.heap.size (fun k_=>(P1_0_ k_∨w.heap.size≤k_)∧k_≠gb544∧k_≠gb551) (.slice (some ⟨go92,0,none⟩) l1_0.length co7) y552:=(by rw [hw,Ny552.out];exact HP133.1);clear HP133;have n0_:=As_ (hp_);have n1_:=As_ (blk_grown (g:=gb541) (o:=.cells #[.slice (some ⟨go92,0,none⟩) l1_0.length co7,.int .i64 a1_1] 29 (0,0)) (zk_ BK541.out) hg (Kd.S_ne HO_542000.out BK541.out (by decide)));have n2_:=As_ (blk_grown (g:=gb542) (o:=.cells #[.slice none 0 0,.int .i64 0] 29 (0,0)) (zk_ BK542.out) hg (Kd.S_ne HO_542000.out BK542.out (by decide)));have n3_:=As_ (blk_grown (g:=gb544) (o:=.cells #[.int .i64 ((rd_T45 l1_0 a2).f0),.int .i64 ((rd_T45 l1_0 a2).f1),(.slice Au_ x545002_1.length cu_)] 45 (0,0)) (zk_ BK544.out) hg (Kd.S_away HO_542000.out (fun _ hk=>hk.2.2.1)));have n4_:=As_ (IsS85.grown (zi85_4 HI0.out NB0_541.out NB0_542.out NB0_544.out NB0_551.out) hg (IsS85.own_neS HI0.out HO_542000.out (by decide)));have n5_:=As_ (Kd.R_after (v:=(.slice (some ⟨go92,0,none⟩) l1_0.length co7)) (v1:=(.slice (some ⟨go92,0,none⟩) l1_0.length co7)) (ok:=(fun k_=>(P1_0_ k_∨w.heap.size≤k_)∧some k_≠((.slice Au_ x545002_1.length cu_):Value).ownBlock∧k_≠gb544)) (by (with_reducible repeat (first|apply Kd.R_alloc|apply Kd.R_drewN|apply Kd.R_drew));exact Kd.R_mono HL550_2.out (fun _ hk=>⟨⟨hk.1,⟨hk.2.2.1,hk.2.2.2⟩⟩,hk.2.1⟩)) hg (.inl rfl));have n6_:=As_ (blk_grown (g:=gb551) (o:=.cells #[.int .i64 ((rd_T45 l1_0 a2).f0),.int .i64 ((rd_T45 l1_0 a2).f1),.slice none 0 0] 45 (0,0)) (zk_ BK551.out) hg (Kd.S_away HO_542000.out (fun _ hk=>hk.2.2.2)));have n7_:=As_ ((by rw [hw];exact bwS (bwS (bwS (HB.out) GB92.out) GB92.out) GB92.out:Below w0.heap.size w0 w134));have n8_:=As_ (Kept.of_grown (S:=(fun k_=>(P1_0_ k_)∨k_=g)) hg (zq4 HK.out GW541.out GW542.out GW544.out GW551.out) (fun k_ e_=>Or.imp_left Or.inl (((Kd.S_R HO_542000.out).1 k_ e_).1)));clear HO_542000 BK541 BK542 BK544 HI0 HL550_2 BK551 HB HK HO_545002;revert n0_ n1_ n2_ n3_ n4_ n5_ n6_ n7_ n8_;intro HO_542000 BK541 BK542 BK544 HI0 HL550_2 BK551 HB HK;clear hg hw hp_;obtain ⟨hcz135_0,hcz135_1,hfz135_0,hfz135_1⟩:=bk2 BK541.out)|((with_reducible refine gate_callee (f:=48) rfl ?_);refine goesL_ (some 80) rfl rfl Try.func48 (by kernel_rfl) rfl #[.agg #[.slice (some ⟨go92,0,none⟩) y552.length co7,.int .i64 a1_1]] rfl (by (try simp only [List.map_toArray,List.map_cons,List.map_nil]);first|done|(rw [show y552.length=l1_0.length from (Kd.S_reads' HO_542000.out).1.symm] <;> rfl)|rfl|(simp only [List.length_drop,List.length_take];rfl)) ?_;(with_reducible refine (spec_validGraph.calls k1 _ _ y552 a1_1 false _ ?side1 ?side2 A93.out).mono ?_);(case side1=>repeat (first|exact (kzN_C (Kd.S_reads' HO_542000.out).2.2)|(with_reducible refine Kd.C_alloc ?_ _)|(with_reducible refine Kd.C_drewN ?_ _)|(with_reducible refine Kd.C_drew ?_)));(case side2=>rw [show y552.length=l1_0.length from (Kd.S_reads' HO_542000.out).1.symm];exact (Kd.S_reads' HO_542000.out).2.1);rintro e w136 ⟨rfl,hb⟩;refine ⟨_,rfl,?_⟩;have n0_:=As_ (Kd.S_below (zS_ HO_542000.out) hb);have n1_:=As_ (Kd.R_below (zR_ HL550_2.out) hb);have n2_:=As_ (zkb BK541.out hb);have n3_:=As_ (zkb BK542.out hb);have n4_:=As_ (zkb BK544.out hb);have n5_:=As_ (IsS85.below (zi85_4 HI0.out NB0_541.out NB0_542.out NB0_544.out NB0_551.out) hb);have n6_:=As_ (zkb BK551.out hb);have n7_:=As_ (Kept.below (S:=(fun k_=>(P1_0_ k_)∨k_=g)) (zq4 HK.out GW541.out GW542.out GW544.out GW551.out) hb);have n8_:=As_ (bwT (zb5 HB.out (IsS85.ge HI0.out) GE541.out GE542.out GE544.out GE551.out) hb);clear HO_542000 HL550_2 BK541 BK542 BK544 HI0 BK551 HK HB;revert n0_ n1_ n2_ n3_ n4_ n5_ n6_ n7_ n8_;intro HO_542000 HL550_2 BK541 BK542 BK544 HI0 BK551 HK HB;obtain ⟨hcz137_0,hcz137_1,hfz137_0,hfz137_1⟩:=bk2 BK541.out;obtain ⟨hcz138_0,hcz138_1,hcz138_2,hfz138_0,hfz138_1,hfz138_2⟩:=bk3 BK551.out;have p117:0≤(a2:Int):=odT zA_;have q117:(a2:Int)<((l1_0.length:Int):Int):=odT zA_;obtain ⟨_,ce117,hcl117,hM117,hcc117,hfr117,_,_⟩:=Kd.S_elem HO_542000.out z45 (a2:Int) p117 q117;obtain ⟨ve117_2,rfl,ge117_2⟩:=k45_openM hM117.1;have hx117_0:w136.cell? ⟨go92,(a2:Int).toNat * 3,none⟩=some (.int .i64 ((rd_T45 y552 a2).f0)):=hcc117 0 _ rfl;have hx117_1:w136.cell? ⟨go92,(a2:Int).toNat * 3+1,none⟩=some (.int .i64 ((rd_T45 y552 a2).f1)):=hcc117 1 _ rfl;have hx117_2:w136.cell? ⟨go92,(a2:Int).toNat * 3+2,none⟩=some (ve117_2):=hcc117 2 _ rfl;have hf117_0:w136.frozen? ⟨go92,(a2:Int).toNat * 3,none⟩=false:=hfr117 0;have hf117_1:w136.frozen? ⟨go92,(a2:Int).toNat * 3+1,none⟩=false:=hfr117 1;have hf117_2:w136.frozen? ⟨go92,(a2:Int).toNat * 3+2,none⟩=false:=hfr117 2;clear hcl117 hcc117 hfr117 hM117;replace p117:=eq_true p117;replace q117:=eq_true q117;have HX139:=As_ (show Kd.S kzN 45 w136 w0.heap.size (fun k_=>((fun k_=>(P1_0_ k_∨w.heap.size≤k_)∧k_≠gb544∧k_≠gb551)) k_∧¬ ((fun _=>False)) k_) (.slice (some ⟨go92,0,none⟩) l1_0.length co7) y552 from (by (with_reducible repeat (first|apply Kd.S_alloc|apply Kd.S_drewN|apply Kd.S_drew));exact Kd.S_mono HO_542000.out (fun k_ hk=>⟨⟨hk.1,⟨hk.2.1,hk.2.2⟩⟩,fun e_=>e_⟩)));obtain ⟨oki139,ce139,hcl139,hM139,hcc139,hfr139,hoki139,hH139⟩:=Kd.S_elem HX139.out z45 (a2:Int) (odT zA_) (by have h_:(a2:Int)<((l1_0.length:Int):Int):=odT zA_;first|exact h_|(have e_:=(Kd.S_reads' HO_542000.out).1;omega)|simpa using h_);obtain ⟨ve139_2,rfl,ge139_2⟩:=k45_openM hM139.1;have HP139:=Kd.S_seg hH139 (odT zA_) (by have h_:(a2:Int)<((l1_0.length:Int):Int):=odT zA_;first|exact h_|(have e_:=(Kd.S_reads' HO_542000.out).1;omega)|simpa using h_) (seg:=[.int .i64 ((rd_T45 l1_0 a2).f0),.int .i64 ((rd_T45 l1_0 a2).f1),.slice none 0 0]) (j:=0) (show 3≤3 from by decide) (x':=(⟨(rd_T45 l1_0 a2).f0,(rd_T45 l1_0 a2).f1,([]:List Int)⟩:S45)) (kzN_mkM _ _ _ (⟨(rd_T45 l1_0 a2).f0,(rd_T45 l1_0 a2).f1,([]:List Int)⟩:S45) (Kd.R_nil _ _ _ _ _) (fun _=>rfl)) (fun _ hk=>hk) (fun k_ hk_=>hk_.elim);have hx139_0:=hcc139 0 _ rfl;(try simp only [show (kzN).sz=3 from rfl,Nat.mul_one,Nat.add_zero] at hx139_0);have hf139_0:=hfr139 0;(try simp only [show (kzN).sz=3 from rfl,Nat.mul_one,Nat.add_zero] at hf139_0);have hx139_1:=hcc139 1 _ rfl;(try simp only [show (kzN).sz=3 from rfl,Nat.mul_one,Nat.add_zero] at hx139_1);have hf139_1:=hfr139 1;(try simp only [show (kzN).sz=3 from rfl,Nat.mul_one,Nat.add_zero] at hf139_1);have hx139_2:=hcc139 2 _ rfl;(try simp only [show (kzN).sz=3 from rfl,Nat.mul_one,Nat.add_zero] at hx139_2);have hf139_2:=hfr139 2;(try simp only [show (kzN).sz=3 from rfl,Nat.mul_one,Nat.add_zero] at hf139_2);clear hcl139 hcc139 hfr139 hM139 hoki139 hH139)|((with_reducible refine gate_store (t:=45) (p:=86) rfl ?_);refine store_event (t:=45) (p:=86) (v:=?vo_w140) (w1:=(((w136.setCell ⟨go92,(a2:Int).toNat * 3,none⟩ (.int .i64 ((rd_T45 l1_0 a2).f0))).setCell ⟨go92,(a2:Int).toNat * 3+1,none⟩ (.int .i64 ((rd_T45 l1_0 a2).f1))).setCell ⟨go92,(a2:Int).toNat * 3+2,none⟩ (.slice none 0 0))) ?hg ?ho ?hn ?hr ?_;(case ho=>rfl);(case hg=>rfl);(case hn=>rfl);(case hr=>go_simp <;> rfl);intro w140 hw;have hg:w136.grownBy w140 (some go92):=(by rw [hw];exact HP139.2);have hp_:Kd.S kzN 45 w140 w0.heap.size (fun k_=>(P1_0_ k_∨w.heap.size≤k_)∧k_≠gb544∧k_≠gb551) (.slice (some ⟨go92,0,none⟩) l1_0.length co7) y554:=(by rw [hw,Ny554.out];exact HP139.1);clear HP139;have n0_:=As_ (hp_);have n1_:=As_ (blk_grown (g:=gb541) (o:=.cells #[.slice (some ⟨go92,0,none⟩) l1_0.length co7,.int .i64 a1_1] 29 (0,0)) (zk_ BK541.out) hg (Kd.S_ne HO_542000.out BK541.out (by decide)));have n2_:=As_ (blk_grown (g:=gb542) (o:=.cells #[.slice none 0 0,.int .i64 0] 29 (0,0)) (zk_ BK542.out) hg (Kd.S_ne HO_542000.out BK542.out (by decide)));have n3_:=As_ (blk_grown (g:=gb544) (o:=.cells #[.int .i64 ((rd_T45 l1_0 a2).f0),.int .i64 ((rd_T45 l1_0 a2).f1),(.slice Au_ x545002_1.length cu_)] 45 (0,0)) (zk_ BK544.out) hg (Kd.S_away HO_542000.out (fun _ hk=>hk.2.1)));have n4_:=As_ (IsS85.grown (zi85_4 HI0.out NB0_541.out NB0_542.out NB0_544.out NB0_551.out) hg (IsS85.own_neS HI0.out HO_542000.out (by decide)));have n5_:=As_ (Kd.R_after (v:=(.slice (some ⟨go92,0,none⟩) l1_0.length co7)) (v1:=(.slice (some ⟨go92,0,none⟩) l1_0.length co7)) (ok:=(fun k_=>(P1_0_ k_∨w.heap.size≤k_)∧k_≠gb544)) (by (with_reducible repeat (first|apply Kd.R_alloc|apply Kd.R_drewN|apply Kd.R_drew));exact Kd.R_mono HL550_2.out (fun _ hk=>⟨⟨hk.1.1,hk.1.2.2⟩,hk.2⟩)) hg (.inl rfl));have n6_:=As_ (blk_grown (g:=gb551) (o:=.cells #[.int .i64 ((rd_T45 l1_0 a2).f0),.int .i64 ((rd_T45 l1_0 a2).f1),.slice none 0 0] 45 (0,0)) (zk_ BK551.out) hg (Kd.S_away HO_542000.out (fun _ hk=>hk.2.2)));have n7_:=As_ ((by rw [hw];exact bwS (bwS (bwS (HB.out) GB92.out) GB92.out) GB92.out:Below w0.heap.size w0 w140));have n8_:=As_ (Kept.of_grown (S:=(fun k_=>(P1_0_ k_)∨k_=g)) hg (zq4 HK.out GW541.out GW542.out GW544.out GW551.out) (fun k_ e_=>Or.imp_left Or.inl (((Kd.S_R HO_542000.out).1 k_ e_).1)));clear HO_542000 BK541 BK542 BK544 HI0 HL550_2 BK551 HB HK;revert n0_ n1_ n2_ n3_ n4_ n5_ n6_ n7_ n8_;intro HO_542000 BK541 BK542 BK544 HI0 HL550_2 BK551 HB HK;clear hg hw hp_;obtain ⟨hcz141_0,hcz141_1,hfz141_0,hfz141_1⟩:=bk2 BK541.out;have hnb142:=NB542_0.out;have hnc142:=NB0_542.out;obtain ⟨hcz143_0,hcz143_1,hfz143_0,hfz143_1⟩:=bk2 BK542.out))
    refine bodyPost_ret (results_cell_row rfl _ _ gb542 29 #[.slice (some ⟨go92,0,none⟩) l1_0.length co7,.int .i64 a1_1] (0,0) _ rfl (by (with_reducible repeat first|apply bkN|apply bkD|apply bkA);refine blk_put (cs:=#[.slice (some ⟨go92,0,none⟩) l1_0.length co7,.int .i64 0]) ?_ 1 _ rfl;(with_reducible repeat first|apply bkN|apply bkD|apply bkA);refine blk_put (cs:=#[.slice none 0 0,.int .i64 0]) ?_ 0 _ rfl;(with_reducible repeat first|apply bkN|apply bkD|apply bkA);exact BK542.out) Try.underlying29 rfl (by kernel_rfl)) rfl ?_
    exact ⟨_,zE_,by (with_reducible repeat (first|apply Kd.S_alloc|apply Kd.S_drewN|apply Kd.S_drew));exact Kd.S_mono (Kd.S_far (p:=⟨gb542,1,none⟩) (Kd.S_far (p:=⟨gb542,0,none⟩) (Kd.S_types HO_542000.out BK542.out (by decide)) (fun _ hk=>hk.2) (.slice (some ⟨go92,0,none⟩) l1_0.length co7)) (fun _ hk=>hk.2) (.int .i64 a1_1)) (fun _ hk=>hk.1.1),zi85_4 HI0.out NB0_541.out NB0_542.out NB0_544.out NB0_551.out,zb5 HB.out (IsS85.ge HI0.out) GE541.out GE542.out GE544.out GE551.out,zq4 HK.out GW541.out GW542.out GW544.out GW551.out⟩
   rw [if_pos c22] at H
   have c22b0:decide (0<x8_1)=true:=deT c22
   clear c22
   replace H:=obS H
   obtain ⟨⟨t555,t556⟩,A230,H⟩:=H
   replace H:(if ((rd_T45 l1_0 a2).f0)=2 then (spec_addKids.j1 k1 a2 x8_1 t555 ((rd_T45 l1_0 a2).f0) (((rd_T45 l1_0 a2).f0) == 2) s0_0 t556 l1_0 a1_1 ((rd_T45 l1_0 a2).f0) ((rd_T45 l1_0 a2).f1) x545002_1) else (spec_addKids.j1 k1 a2 x8_1 t555 ((rd_T45 l1_0 a2).f0) (((rd_T45 l1_0 a2).f0) == 3) s0_0 t556 l1_0 a1_1 ((rd_T45 l1_0 a2).f0) ((rd_T45 l1_0 a2).f1) x545002_1))=some (r1,r2,r3):=H
   have A23:=As_ A230
   clear A230
   have HC24:=As_ H
   clear H
   have hnb25:=NB541_542.out
   have hnc25:=NB542_541.out
   have hnb26:=NB541_544.out
   have hnc26:=NB544_541.out
   have hnb27:=NB541_0.out
   have hnc27:=NB0_541.out
   obtain ⟨hcz28_0,hcz28_1,hfz28_0,hfz28_1⟩:=bk2 BK541.out
   go_upto_if 30 with (first|((with_reducible refine gate_callee (f:=90) rfl ?_);refine goesL_ (some 27) rfl rfl Try.func90 (by kernel_rfl) rfl #[.pointer (some ⟨g,0,none⟩),.int .i64 (l1_0.length:Int)] rfl zM_ ?_;(with_reducible refine (spec_reader_pick.calls k1 g s0_0 x1001_1 (l1_0.length:Int) t555 t556 w0 _ ?side1 ?side2 A23.out).mono ?_);(case side1=>exact zi85_3 HI0.out NB0_541.out NB0_542.out NB0_544.out);(case side2=>exact zb4 HB.out (IsS85.ge HI0.out) GE541.out GE542.out GE544.out);rintro e w29 ⟨rfl,hi,hb,hk⟩;refine ⟨_,rfl,?_⟩;have n0_:=As_ (Kd.S_mono (Kd.S_keep (IsS85.apartS (show IsS85 w0 _ g s0_0 x1001_1 from zi85_3 HI0.out NB0_541.out NB0_542.out NB0_544.out) (zS_ HO_542000.out) (by decide)) hk (fun _ h=>h.2)) (fun _ h=>h.1));have n1_:=As_ (Kd.R_mono (Kd.R_keep (IsS85.apart (show IsS85 w0 _ g s0_0 x1001_1 from zi85_3 HI0.out NB0_541.out NB0_542.out NB0_544.out) (zR_ HO_545002.out) (by decide)) hk (fun _ h=>h.2)) (fun _ h=>h.1));have n2_:=As_ (KeepBut.blk hk (g':=gb541) (o:=.cells #[.slice (some ad543) l1_0.length co7,.int .i64 a1_1] 29 (0,0)) (zk_ BK541.out) NB541_0.out (by simp));have n3_:=As_ (KeepBut.blk hk (g':=gb542) (o:=.cells #[.slice none 0 0,.int .i64 0] 29 (0,0)) (zk_ BK542.out) NB542_0.out (by simp));have n4_:=As_ (KeepBut.blk hk (g':=gb544) (o:=.cells #[.int .i64 ((rd_T45 l1_0 a2).f0),.int .i64 ((rd_T45 l1_0 a2).f1),u545002] 45 (0,0)) (zk_ BK544.out) NB544_0.out (by simp));have n5_:=As_ (Kept.of_keep (S:=(fun k_=>(P1_0_ k_)∨k_=g)) (zq3 HK.out GW541.out GW542.out GW544.out) hk (.inl (.inr rfl)));have n6_:=As_ (hb);have n7_:=As_ (hi);clear HO_542000 HO_545002 BK541 BK542 BK544 HK HB HI0;revert n0_ n1_ n2_ n3_ n4_ n5_ n6_ n7_;intro HO_542000 HO_545002 BK541 BK542 BK544 HK HB HI0;have hnb30:=NB544_542.out;have hnc30:=NB542_544.out;have hnb31:=NB544_0.out;have hnc31:=NB0_544.out;obtain ⟨hcz32_0,hcz32_1,hcz32_2,hfz32_0,hfz32_1,hfz32_2⟩:=bk3 BK544.out))
   (try simp only [Act.put,List.setIfInBounds_toArray,List.set_cons_zero,List.set_cons_succ])
   go_cut [30] (fun v30 wc=>∃ (kq:Nat) (x30_23:Bool),v30=.bool x30_23∧Aside0 (spec_addKids.j1 kq a2 x8_1 t555 ((rd_T45 l1_0 a2).f0) x30_23 s0_0 t556 l1_0 a1_1 ((rd_T45 l1_0 a2).f0) ((rd_T45 l1_0 a2).f1) x545002_1=some (r1,r2,r3))∧Aside0 (kq≤k1)∧Aside0 (Kd.S kzN 45 wc w0.heap.size (fun k_=>(P1_0_ k_∨w.heap.size≤k_)∧some k_≠(u545002:Value).ownBlock∧k_≠gb544) (.slice (some ad543) l1_0.length co7) l1_0)∧Aside0 (Kd.R (Kd.int .i64) 3 wc w0.heap.size (fun k_=>(P1_0_ k_∨w.heap.size≤k_)) u545002 x545002_1)∧Aside0 (wc.heap[gb541]?=some (.cells #[(.slice (some ad543) l1_0.length co7),.int .i64 a1_1] 29 (0,0)))∧Aside0 (wc.heap[gb542]?=some (.cells #[(.slice none 0 0),.int .i64 0] 29 (0,0)))∧Aside0 (wc.heap[gb544]?=some (.cells #[.int .i64 ((rd_T45 l1_0 a2).f0),.int .i64 ((rd_T45 l1_0 a2).f1),u545002] 45 (0,0)))∧Aside0 (IsS85 w0 wc g s0_0 t556)∧Aside0 (Kept w wc (fun k_=>(P1_0_ k_)∨k_=g))∧Aside0 (Below w0.heap.size w0 wc))
   case first=>
    have H:=HC24.out
    clear HC24
    by_cases c33:((rd_T45 l1_0 a2).f0)=2
    rotate_left
    ·rw [if_neg c33] at H
     have c33b0:(((rd_T45 l1_0 a2).f0) == 2)=false:=beq_eq_false_iff_ne.mpr c33
     have c33b1:(((rd_T45 l1_0 a2).f0) != 2)=true:=bne_iff_ne.mpr c33
     (first|rw [c33b0]|(simp only [i64_w,i32_w];rw [c33b0])|skip)
     have H':=As_ H
     clear H
     go_wp2
     go_meet
     case rel=>exact ⟨_,((((rd_T45 l1_0 a2).f0) == 3)),zT_,H',⟨by have:=HK1.out;first|omega|exact Nat.le_refl _⟩,⟨by (with_reducible repeat (first|apply Kd.S_alloc|apply Kd.S_drewN|apply Kd.S_drew));exact HO_542000.out⟩,⟨by (with_reducible repeat (first|apply Kd.R_alloc|apply Kd.R_drewN|apply Kd.R_drew));exact HO_545002.out⟩,⟨by (with_reducible repeat first|apply bkN|apply bkD|apply bkA);exact BK541.out⟩,⟨by (with_reducible repeat first|apply bkN|apply bkD|apply bkA);exact BK542.out⟩,⟨by (with_reducible repeat first|apply bkN|apply bkD|apply bkA);exact BK544.out⟩,⟨zi85_3 HI0.out NB0_541.out NB0_542.out NB0_544.out⟩,⟨zq3 HK.out GW541.out GW542.out GW544.out⟩,⟨zb4 HB.out (IsS85.ge HI0.out) GE541.out GE542.out GE544.out⟩⟩
    rw [if_pos c33] at H
    have c33b0:(((rd_T45 l1_0 a2).f0) == 2)=true:=beq_iff_eq.mpr c33
    have c33b1:(((rd_T45 l1_0 a2).f0) != 2)=false:=bne_eq_false_iff_eq.mpr c33
    clear c33
    (first|rw [c33b0]|(simp only [i64_w,i32_w];rw [c33b0])|skip)
    have H':=As_ H
    clear H
    go_wp2
    go_meet
    case rel=>exact ⟨_,((((rd_T45 l1_0 a2).f0) == 2)),zT_,H',⟨by have:=HK1.out;first|omega|exact Nat.le_refl _⟩,⟨by (with_reducible repeat (first|apply Kd.S_alloc|apply Kd.S_drewN|apply Kd.S_drew));exact HO_542000.out⟩,⟨by (with_reducible repeat (first|apply Kd.R_alloc|apply Kd.R_drewN|apply Kd.R_drew));exact HO_545002.out⟩,⟨by (with_reducible repeat first|apply bkN|apply bkD|apply bkA);exact BK541.out⟩,⟨by (with_reducible repeat first|apply bkN|apply bkD|apply bkA);exact BK542.out⟩,⟨by (with_reducible repeat first|apply bkN|apply bkD|apply bkA);exact BK544.out⟩,⟨zi85_3 HI0.out NB0_541.out NB0_542.out NB0_544.out⟩,⟨zq3 HK.out GW541.out GW542.out GW544.out⟩,⟨zb4 HB.out (IsS85.ge HI0.out) GE541.out GE542.out GE544.out⟩⟩
   case rest=>
    clear HC24
    obtain ⟨kq,x30_23,rfl,HA,HJ23,HO_542000,HO_545002,BK541,BK542,BK544,HI0,HK,HB⟩:=hcut
    cases kq with
    | zero=>exact absurd HA.out (fun h_=>(by cases h_))
    | succ kj23=>
     have H:=HA.out
     clear HA
     simp only [spec_addKids.j1] at H
     by_cases c34:x30_23=true
     ·subst c34
      have H1:(if x545002_1.length<17592186044416 then (spec_addKids.l0 kj23 a2 (wrap64 (x8_1 - 1)) s0_0 t556 l1_0 a1_1 ((rd_T45 l1_0 a2).f0) ((rd_T45 l1_0 a2).f1) (x545002_1++[t555])) else (none))=some (r1,r2,r3):=by rw [if_pos rfl] at H;exact H
      clear H
      have H:=H1
      clear H1
      by_cases c35:x545002_1.length<17592186044416
      rotate_left
      ·rw [if_neg c35] at H
       exact absurd H (by simp)
      rw [if_pos c35] at H
      have LMc35:=As_ c35
      clear c35
      obtain ⟨y557,hy557⟩:∃ y_:List Int,y_=(x545002_1++[t555]):=⟨_,rfl⟩
      replace H:(spec_addKids.l0 kj23 a2 (wrap64 (x8_1 - 1)) s0_0 t556 l1_0 a1_1 ((rd_T45 l1_0 a2).f0) ((rd_T45 l1_0 a2).f1) y557)=some (r1,r2,r3):=zH_ H hy557
      have Ny557:=As_ hy557
      clear hy557
      have H':=As_ H
      clear H
      have hnb36:=NB544_541.out
      have hnc36:=NB541_544.out
      have hnb37:=NB544_542.out
      have hnc37:=NB542_544.out
      have hnb38:=NB544_0.out
      have hnc38:=NB0_544.out
      obtain ⟨hcz39_0,hcz39_1,hcz39_2,hfz39_0,hfz39_1,hfz39_2⟩:=bk3 BK544.out
      go_wp2_with (first|((with_reducible refine gate_builtin (b:=.append) (xs:=#[.tmp 34,.tmp 36]) rfl ?_);at_builtin;refine Kd.R_append (Kd.int .i64) (w0:=w0) w0.heap.size rfl (.tmp 34) (.tmp 36) 37 3 (.int .i64 0) 8 rfl Try.underlying37 info3 rfl (by decide) (by omega) u545002 x545002_1 t555 [.int .i64 t555] (fun k_=>(P1_0_ k_∨w.heap.size≤k_)) (fun _=>False) rfl rfl ?aP (fun _ hk=>hk.elim) ?aF ?aO ?aB ?aS ?aL ?_;(case aP=>exact rfl);(case aB=>exact (zb4 HB.out (IsS85.ge HI0.out) GE541.out GE542.out GE544.out));(case aF=>exact (fun k_ hk=>(.inr (Nat.le_trans (by first|exact HK.out.1|exact (show Kept w _ (fun k_=>(P1_0_ k_)∨k_=g) from zq3 HK.out GW541.out GW542.out GW544.out).1) hk))));(case aO=>exact (zR_ HO_545002.out));(case aS=>exact (bwZ (zb4 HB.out (IsS85.ge HI0.out) GE541.out GE542.out GE544.out)));(case aL=>have:=LMc35.out;omega);intro v558 w40 ho hb hg hat;rw [← Ny557.out] at ho;have n0_:=As_ (Kd.S_after (ok:=(fun k_=>(P1_0_ k_∨w.heap.size≤k_)∧k_≠gb544)) (by (with_reducible repeat (first|apply Kd.S_alloc|apply Kd.S_drewN|apply Kd.S_drew));exact Kd.S_mono HO_542000.out (fun _ hk=>⟨⟨hk.1,hk.2.2⟩,hk.2.1⟩)) hg hat);have n1_:=As_ (blk_grown (g:=gb541) (o:=.cells #[.slice (some ad543) l1_0.length co7,.int .i64 a1_1] 29 (0,0)) (zk_ BK541.out) hg (Kd.R_ne HO_545002.out BK541.out (by decide)));have n2_:=As_ (blk_grown (g:=gb542) (o:=.cells #[.slice none 0 0,.int .i64 0] 29 (0,0)) (zk_ BK542.out) hg (Kd.R_ne HO_545002.out BK542.out (by decide)));have n3_:=As_ (blk_grown (g:=gb544) (o:=.cells #[.int .i64 ((rd_T45 l1_0 a2).f0),.int .i64 ((rd_T45 l1_0 a2).f1),u545002] 45 (0,0)) (zk_ BK544.out) hg (Kd.R_ne HO_545002.out BK544.out (by decide)));have n4_:=As_ (IsS85.grown (zi85_3 HI0.out NB0_541.out NB0_542.out NB0_544.out) hg (IsS85.own_ne HI0.out HO_545002.out (by decide)));have n5_:=As_ (hb);have n6_:=As_ (Kept.of_grown (S:=(fun k_=>(P1_0_ k_)∨k_=g)) hg (zq3 HK.out GW541.out GW542.out GW544.out) (fun k_ e_=>Or.imp_left Or.inl ((HO_545002.out.1 k_ e_))));have n7_:=As_ (ho);clear HO_542000 BK541 BK542 BK544 HI0 HB HK HO_545002;revert n0_ n1_ n2_ n3_ n4_ n5_ n6_ n7_;intro HO_542000 BK541 BK542 BK544 HI0 HB HK HO559;clear ho hb hg hat;obtain ⟨Ao41,co41,eo41⟩:=Kd.R_slice HO559.out;subst eo41;obtain ⟨hcz42_0,hcz42_1,hcz42_2,hfz42_0,hfz42_1,hfz42_2⟩:=bk3 BK544.out))
      go_roundg kj23
      case measure=>have:=HK1.out;have:=HJ23.out;omega
      case rel=>exact ⟨(wrap64 (x8_1 - 1)),(t556),(y557),(.slice Ao41 y557.length co41),zT_,H',⟨fun e_=>absurd e_ (by rw [Ny557.out];first|(simp;done)|(rw [Ny545.out];simp;done))⟩,⟨by have:=HK1.out;have:=HJ23.out;omega⟩,⟨by (with_reducible repeat (first|apply Kd.S_alloc|apply Kd.S_drewN|apply Kd.S_drew));exact Kd.S_mono (Kd.S_far (p:=⟨gb544,2,none⟩) (Kd.S_mono HO_542000.out (fun k_ hk=>(⟨hk,hk.1.2⟩:_∧k_≠gb544))) (fun _ hk=>hk.2) (.slice Ao41 y557.length co41)) (fun _ hk=>⟨hk.1.1.1,⟨hk.1.2,hk.1.1.2⟩⟩)⟩,⟨by (with_reducible repeat (first|apply Kd.R_alloc|apply Kd.R_drewN|apply Kd.R_drew));exact Kd.R_mono (Kd.R_far (p:=⟨gb544,2,none⟩) (Kd.R_types HO559.out BK544.out (by decide)) (fun _ hk=>hk.2) (.slice Ao41 y557.length co41)) (fun _ hk=>hk.1)⟩,⟨by (with_reducible repeat first|apply bkN|apply bkD|apply bkA);refine blk_far ?_ NB541_544.out _;(with_reducible repeat first|apply bkN|apply bkD|apply bkA);exact BK541.out⟩,⟨by (with_reducible repeat first|apply bkN|apply bkD|apply bkA);refine blk_far ?_ NB542_544.out _;(with_reducible repeat first|apply bkN|apply bkD|apply bkA);exact BK542.out⟩,⟨by (with_reducible repeat first|apply bkN|apply bkD|apply bkA);refine blk_put (cs:=#[.int .i64 ((rd_T45 l1_0 a2).f0),.int .i64 ((rd_T45 l1_0 a2).f1),u545002]) ?_ 2 _ rfl;(with_reducible repeat first|apply bkN|apply bkD|apply bkA);exact BK544.out⟩,⟨zi85_3 HI0.out NB0_541.out NB0_542.out NB0_544.out⟩,⟨zq3 HK.out GW541.out GW542.out GW544.out⟩,⟨zb4 HB.out (IsS85.ge HI0.out) GE541.out GE542.out GE544.out⟩⟩
     replace c34:=Bool.eq_false_iff.mpr c34
     subst c34
     have H1:(if ((rd_T45 l1_0 a2).f0)=5 then (spec_addKids.l0 kj23 a2 (wrap64 (x8_1 - 1)) s0_0 t556 l1_0 a1_1 ((rd_T45 l1_0 a2).f0) ((rd_T45 l1_0 a2).f1) (([t555]:List Int))) else (if ((rd_T45 l1_0 a2).f0)=4 then (if (x545002_1.length:Int)<6 then (if 0≤t555 then (if t555<(l1_0.length:Int) then ((spec_isKey.f ((rd_T45 l1_0 t555).f0) ((rd_T45 l1_0 t555).f1) ((rd_T45 l1_0 t555).f2)).bind fun t564=>(if t564=true then ((spec_reader_pick.f kj23 s0_0 t556 (l1_0.length:Int)).bind fun bt565=>((some (([t555,bt565.1]:List Int):List Int)).bind fun y567=>(if x545002_1.length+y567.length<17592186044416 then (spec_addKids.l0 kj23 a2 (wrap64 (x8_1 - 1)) s0_0 bt565.2 l1_0 a1_1 ((rd_T45 l1_0 a2).f0) ((rd_T45 l1_0 a2).f1) (x545002_1++y567)) else (none)))) else (spec_addKids.l0 kj23 a2 (wrap64 (x8_1 - 1)) s0_0 t556 l1_0 a1_1 ((rd_T45 l1_0 a2).f0) ((rd_T45 l1_0 a2).f1) x545002_1))) else (none)) else (none)) else (spec_addKids.l0 kj23 a2 (wrap64 (x8_1 - 1)) s0_0 t556 l1_0 a1_1 ((rd_T45 l1_0 a2).f0) ((rd_T45 l1_0 a2).f1) x545002_1)) else (spec_addKids.l0 kj23 a2 (wrap64 (x8_1 - 1)) s0_0 t556 l1_0 a1_1 ((rd_T45 l1_0 a2).f0) ((rd_T45 l1_0 a2).f1) x545002_1)))=some (r1,r2,r3):=by rw [if_neg (show ¬ (false=true) by decide)] at H;exact H
     clear H
     have H:=H1
     clear H1
     by_cases c43:((rd_T45 l1_0 a2).f0)=5
     ·rw [if_pos c43] at H
      have c43b0:(((rd_T45 l1_0 a2).f0) == 5)=true:=beq_iff_eq.mpr c43
      have c43b1:(((rd_T45 l1_0 a2).f0) != 5)=false:=bne_eq_false_iff_eq.mpr c43
      clear c43
      obtain ⟨y560,hy560⟩:∃ y_:List Int,y_=(([t555]:List Int)):=⟨_,rfl⟩
      replace H:(spec_addKids.l0 kj23 a2 (wrap64 (x8_1 - 1)) s0_0 t556 l1_0 a1_1 ((rd_T45 l1_0 a2).f0) ((rd_T45 l1_0 a2).f1) y560)=some (r1,r2,r3):=zH_ H hy560
      have Ny560:=As_ hy560
      clear hy560
      have H':=As_ H
      clear H
      go_wp2_with (first|((with_reducible refine gate_dst (N:=42) rfl ?_);refine Kd.R_lit (Kd.int .i64) _ 3 ?hg (N:=42) ?hd (xs:=([t555]:List Int)) (inner:=[.int .i64 t555]) (ok:=fun _=>True) (okp:=fun _=>True) ?hr ?hp (fun _ hk=>hk) trivial (Below.refl _ _) (Nat.le_refl _) (by simp) ?_;(case hd=>rfl);(case hg=>rfl);(case hr=>go_simp <;> rfl);(case hp=>exact (Reps.one (show Kd.M (Kd.int .i64) _ _ _ t555 [.int .i64 t555] from rfl) (Reps.none _ _)));intro v561 w44 ho45 hb hg_ hnew_;clear hg_ hnew_;(first|rw [← Ny560.out] at ho45|(simp only [Int.reduceToNat] at ho45;rw [← Ny560.out] at ho45));have n0_:=As_ (Kd.S_elder' (zS_ HO_542000.out) (Kd.R_base ho45) hb);have n1_:=As_ (Kd.R_elder' (zR_ HO_545002.out) (Kd.R_base ho45) hb);have n2_:=As_ (Kd.R_lower (Kd.R_new' (Kd.R_newM (M:=fun k_=>(P1_0_ k_∨w.heap.size≤k_)) ho45 (by first|exact HK.out.1|exact (show Kept w _ (fun k_=>(P1_0_ k_)∨k_=g) from zq3 HK.out GW541.out GW542.out GW544.out).1) (fun k_ h_=>.inr h_)) (Kd.R_lt (zR_ HO_545002.out))) (bwZ (zb4 HB.out (IsS85.ge HI0.out) GE541.out GE542.out GE544.out)));have n3_:=As_ (zkb BK541.out hb);have n4_:=As_ (zkb BK542.out hb);have n5_:=As_ (zkb BK544.out hb);have n6_:=As_ (IsS85.below (zi85_3 HI0.out NB0_541.out NB0_542.out NB0_544.out) hb);have n7_:=As_ (Kept.below (S:=(fun k_=>(P1_0_ k_)∨k_=g)) (zq3 HK.out GW541.out GW542.out GW544.out) hb);have n8_:=As_ (bwT (zb4 HB.out (IsS85.ge HI0.out) GE541.out GE542.out GE544.out) hb);clear HO_542000 HO_545002 BK541 BK542 BK544 HI0 HK HB;revert n0_ n1_ n2_ n3_ n4_ n5_ n6_ n7_ n8_;intro HO_542000 HO_545002 HO562 BK541 BK542 BK544 HI0 HK HB;clear hb ho45;obtain ⟨Ao46,co46,eo46⟩:=Kd.R_slice HO562.out;subst eo46;have hnb47:=NB544_541.out;have hnc47:=NB541_544.out;have hnb48:=NB544_542.out;have hnc48:=NB542_544.out;have hnb49:=NB544_0.out;have hnc49:=NB0_544.out;obtain ⟨hcz50_0,hcz50_1,hcz50_2,hfz50_0,hfz50_1,hfz50_2⟩:=bk3 BK544.out))
      go_roundg kj23
      case measure=>have:=HK1.out;have:=HJ23.out;omega
      case rel=>exact ⟨(wrap64 (x8_1 - 1)),(t556),(y560),(.slice Ao46 y560.length co46),zT_,H',⟨fun e_=>absurd e_ (by rw [Ny560.out];first|(simp;done)|(rw [Ny545.out];simp;done)|(rw [Ny557.out];simp;done))⟩,⟨by have:=HK1.out;have:=HJ23.out;omega⟩,⟨by (with_reducible repeat (first|apply Kd.S_alloc|apply Kd.S_drewN|apply Kd.S_drew));exact Kd.S_mono (Kd.S_far (p:=⟨gb544,2,none⟩) (Kd.S_mono HO_542000.out (fun k_ hk=>(⟨hk,hk.1.2.2⟩:_∧k_≠gb544))) (fun _ hk=>hk.2) (.slice Ao46 y560.length co46)) (fun _ hk=>⟨hk.1.1.1,⟨hk.1.2,hk.1.1.2.2⟩⟩)⟩,⟨by (with_reducible repeat (first|apply Kd.R_alloc|apply Kd.R_drewN|apply Kd.R_drew));exact Kd.R_mono (Kd.R_far (p:=⟨gb544,2,none⟩) (Kd.R_types HO562.out BK544.out (by decide)) (fun _ hk=>hk.2) (.slice Ao46 y560.length co46)) (fun _ hk=>hk.1.1.1)⟩,⟨by (with_reducible repeat first|apply bkN|apply bkD|apply bkA);refine blk_far ?_ NB541_544.out _;(with_reducible repeat first|apply bkN|apply bkD|apply bkA);exact BK541.out⟩,⟨by (with_reducible repeat first|apply bkN|apply bkD|apply bkA);refine blk_far ?_ NB542_544.out _;(with_reducible repeat first|apply bkN|apply bkD|apply bkA);exact BK542.out⟩,⟨by (with_reducible repeat first|apply bkN|apply bkD|apply bkA);refine blk_put (cs:=#[.int .i64 ((rd_T45 l1_0 a2).f0),.int .i64 ((rd_T45 l1_0 a2).f1),u545002]) ?_ 2 _ rfl;(with_reducible repeat first|apply bkN|apply bkD|apply bkA);exact BK544.out⟩,⟨zi85_3 HI0.out NB0_541.out NB0_542.out NB0_544.out⟩,⟨zq3 HK.out GW541.out GW542.out GW544.out⟩,⟨zb4 HB.out (IsS85.ge HI0.out) GE541.out GE542.out GE544.out⟩⟩
     rw [if_neg c43] at H
     have c43b0:(((rd_T45 l1_0 a2).f0) == 5)=false:=beq_eq_false_iff_ne.mpr c43
     have c43b1:(((rd_T45 l1_0 a2).f0) != 5)=true:=bne_iff_ne.mpr c43
     by_cases c51:((rd_T45 l1_0 a2).f0)=4
     rotate_left
     ·rw [if_neg c51] at H
      have c51b0:(((rd_T45 l1_0 a2).f0) == 4)=false:=beq_eq_false_iff_ne.mpr c51
      have c51b1:(((rd_T45 l1_0 a2).f0) != 4)=true:=bne_iff_ne.mpr c51
      have H':=As_ H
      clear H
      go_wp2
      go_roundg kj23
      case measure=>have:=HK1.out;have:=HJ23.out;omega
      case rel=>exact ⟨(wrap64 (x8_1 - 1)),(t556),(x545002_1),(u545002),zT_,H',⟨HZn.out⟩,⟨by have:=HK1.out;have:=HJ23.out;omega⟩,⟨by (with_reducible repeat (first|apply Kd.S_alloc|apply Kd.S_drewN|apply Kd.S_drew));exact HO_542000.out⟩,⟨by (with_reducible repeat (first|apply Kd.R_alloc|apply Kd.R_drewN|apply Kd.R_drew));exact HO_545002.out⟩,⟨by (with_reducible repeat first|apply bkN|apply bkD|apply bkA);exact BK541.out⟩,⟨by (with_reducible repeat first|apply bkN|apply bkD|apply bkA);exact BK542.out⟩,⟨by (with_reducible repeat first|apply bkN|apply bkD|apply bkA);exact BK544.out⟩,⟨zi85_3 HI0.out NB0_541.out NB0_542.out NB0_544.out⟩,⟨zq3 HK.out GW541.out GW542.out GW544.out⟩,⟨zb4 HB.out (IsS85.ge HI0.out) GE541.out GE542.out GE544.out⟩⟩
     rw [if_pos c51] at H
     have c51b0:(((rd_T45 l1_0 a2).f0) == 4)=true:=beq_iff_eq.mpr c51
     have c51b1:(((rd_T45 l1_0 a2).f0) != 4)=false:=bne_eq_false_iff_eq.mpr c51
     clear c51
     by_cases c52:(x545002_1.length:Int)<6
     rotate_left
     ·rw [if_neg c52] at H
      have c52b0:decide ((x545002_1.length:Int)<6)=false:=deF c52
      have c52b1:decide (x545002_1.length<6)=false:=deF (by omega)
      clear c52
      have H':=As_ H
      clear H
      have hnb85:=NB544_541.out
      have hnc85:=NB541_544.out
      have hnb86:=NB544_542.out
      have hnc86:=NB542_544.out
      have hnb87:=NB544_0.out
      have hnc87:=NB0_544.out
      obtain ⟨hcz88_0,hcz88_1,hcz88_2,hfz88_0,hfz88_1,hfz88_2⟩:=bk3 BK544.out
      obtain ⟨Ao89,co89,eo89⟩:=Kd.R_slice HO_545002.out
      subst eo89
      go_wp2
      go_roundg kj23
      case measure=>have:=HK1.out;have:=HJ23.out;omega
      case rel=>exact ⟨(wrap64 (x8_1 - 1)),(t556),(x545002_1),(.slice Ao89 x545002_1.length co89),zT_,H',⟨HZn.out⟩,⟨by have:=HK1.out;have:=HJ23.out;omega⟩,⟨by (with_reducible repeat (first|apply Kd.S_alloc|apply Kd.S_drewN|apply Kd.S_drew));exact HO_542000.out⟩,⟨by (with_reducible repeat (first|apply Kd.R_alloc|apply Kd.R_drewN|apply Kd.R_drew));exact HO_545002.out⟩,⟨by (with_reducible repeat first|apply bkN|apply bkD|apply bkA);exact BK541.out⟩,⟨by (with_reducible repeat first|apply bkN|apply bkD|apply bkA);exact BK542.out⟩,⟨by (with_reducible repeat first|apply bkN|apply bkD|apply bkA);exact BK544.out⟩,⟨zi85_3 HI0.out NB0_541.out NB0_542.out NB0_544.out⟩,⟨zq3 HK.out GW541.out GW542.out GW544.out⟩,⟨zb4 HB.out (IsS85.ge HI0.out) GE541.out GE542.out GE544.out⟩⟩
     rw [if_pos c52] at H
     have c52b0:decide ((x545002_1.length:Int)<6)=true:=deT c52
     have c52b1:decide (x545002_1.length<6)=true:=deT (by omega)
     clear c52
     by_cases c53:0≤t555
     rotate_left
     ·rw [if_neg c53] at H
      exact absurd H (by simp)
     rw [if_pos c53] at H
     have c53b0:decide (0≤t555)=true:=deT c53
     clear c53
     by_cases c54:t555<(l1_0.length:Int)
     rotate_left
     ·rw [if_neg c54] at H
      exact absurd H (by simp)
     rw [if_pos c54] at H
     have c54b0:decide (t555<(l1_0.length:Int))=true:=deT c54
     clear c54
     replace H:=obS H
     obtain ⟨t564,A550,H⟩:=H
     replace H:(if t564=true then ((spec_reader_pick.f kj23 s0_0 t556 (l1_0.length:Int)).bind fun bt565=>((some (([t555,bt565.1]:List Int):List Int)).bind fun y567=>(if x545002_1.length+y567.length<17592186044416 then (spec_addKids.l0 kj23 a2 (wrap64 (x8_1 - 1)) s0_0 bt565.2 l1_0 a1_1 ((rd_T45 l1_0 a2).f0) ((rd_T45 l1_0 a2).f1) (x545002_1++y567)) else (none)))) else (spec_addKids.l0 kj23 a2 (wrap64 (x8_1 - 1)) s0_0 t556 l1_0 a1_1 ((rd_T45 l1_0 a2).f0) ((rd_T45 l1_0 a2).f1) x545002_1))=some (r1,r2,r3):=H
     have A55:=As_ A550
     clear A550
     by_cases c56:t564=true
     rotate_left
     ·replace c56:=Bool.eq_false_iff.mpr c56
      subst c56
      have H1:(spec_addKids.l0 kj23 a2 (wrap64 (x8_1 - 1)) s0_0 t556 l1_0 a1_1 ((rd_T45 l1_0 a2).f0) ((rd_T45 l1_0 a2).f1) x545002_1)=some (r1,r2,r3):=by rw [if_neg (show ¬ (false=true) by decide)] at H;exact H
      clear H
      have H:=H1
      clear H1
      have H':=As_ H
      clear H
      have hnb76:=NB544_541.out
      have hnc76:=NB541_544.out
      have hnb77:=NB544_542.out
      have hnc77:=NB542_544.out
      have hnb78:=NB544_0.out
      have hnc78:=NB0_544.out
      obtain ⟨hcz79_0,hcz79_1,hcz79_2,hfz79_0,hfz79_1,hfz79_2⟩:=bk3 BK544.out
      obtain ⟨Ao80,co80,eo80⟩:=Kd.R_slice HO_545002.out
      subst eo80
      have hnb81:=NB541_542.out
      have hnc81:=NB542_541.out
      have hnb82:=NB541_0.out
      have hnc82:=NB0_541.out
      obtain ⟨hcz83_0,hcz83_1,hfz83_0,hfz83_1⟩:=bk2 BK541.out
      have p563:0≤(t555:Int):=odT zA_
      have q563:t555<(l1_0.length:Int):=odT zA_
      obtain ⟨ad563,A563_2,c563_2,e563,hx563_0,hx563_1,hx563_2,hl563_2,hi563_2⟩:=at_T45 (kzN_C (Kd.S_reads' HO_542000.out).2.2) t555 p563 q563
      obtain rfl:ad543=ad563:=(by injection e563)
      obtain ⟨ce563,hce563,hMe563,hcc563⟩:=Kd.S_get HO_542000.out z45 t555 p563 (by first|exact q563|exact odT zA_|(have e_:=(Kd.S_reads' HO_542000.out).1;omega))
      obtain ⟨ve563_2,rfl,ge563_2⟩:=k45_openM hMe563.1
      have hv563_2:=hcc563 2 _ rfl
      rw [add_field _ _ 2 (by omega)] at hv563_2
      replace hv563_2:=Option.some.inj (hv563_2.symm.trans hx563_2)
      rw [hv563_2] at ge563_2
      have HL563_2:=As_ (show Kd.R (Kd.int .i64) 3 _ _ _ _ ((rd_T45 l1_0 t555).f2) from ge563_2)
      clear hv563_2 ge563_2 hcc563 hce563
      have HR563_2:=As_ hi563_2
      have HC563_2:=As_ hl563_2
      clear hi563_2 hl563_2
      replace p563:=eq_true p563
      replace q563:=eq_true q563
      go_wp2_with (first|(go_at_call 105;(with_reducible refine (spec_isKey.calls ((rd_T45 l1_0 t555).f0) ((rd_T45 l1_0 t555).f1) _ _ ((rd_T45 l1_0 t555).f2) false _ ?side1 ?side2 A55.out).mono ?_);(case side1=>repeat (first|exact (by repeat (first|(with_reducible exact HR563_2.out)|(with_reducible refine Kd.C_alloc ?_ _)|(with_reducible refine Kd.C_drewN ?_ _)|(with_reducible refine Kd.C_drew ?_)|exact HR563_2.out))|(with_reducible refine Kd.C_alloc ?_ _)|(with_reducible refine Kd.C_drewN ?_ _)|(with_reducible refine Kd.C_drew ?_)));(case side2=>exact HC563_2.out);rintro e w84 ⟨rfl,hb⟩;have n0_:=As_ (Kd.S_below (zS_ HO_542000.out) hb);have n1_:=As_ (Kd.R_below (zR_ HO_545002.out) hb);have n2_:=As_ (Kd.R_below (zR_ HL563_2.out) hb);have n3_:=As_ (zkb BK541.out hb);have n4_:=As_ (zkb BK542.out hb);have n5_:=As_ (zkb BK544.out hb);have n6_:=As_ (IsS85.below (zi85_3 HI0.out NB0_541.out NB0_542.out NB0_544.out) hb);have n7_:=As_ (Kd.C_below (by repeat (first|(with_reducible exact HR563_2.out)|(with_reducible refine Kd.C_alloc ?_ _)|(with_reducible refine Kd.C_drewN ?_ _)|(with_reducible refine Kd.C_drew ?_)|exact HR563_2.out)) hb);have n8_:=As_ (Kept.below (S:=(fun k_=>(P1_0_ k_)∨k_=g)) (zq3 HK.out GW541.out GW542.out GW544.out) hb);have n9_:=As_ (bwT (zb4 HB.out (IsS85.ge HI0.out) GE541.out GE542.out GE544.out) hb);clear HO_542000 HO_545002 HL563_2 BK541 BK542 BK544 HI0 HR563_2 HK HB;revert n0_ n1_ n2_ n3_ n4_ n5_ n6_ n7_ n8_ n9_;intro HO_542000 HO_545002 HL563_2 BK541 BK542 BK544 HI0 HR563_2 HK HB))
      go_roundg kj23
      case measure=>have:=HK1.out;have:=HJ23.out;omega
      case rel=>exact ⟨(wrap64 (x8_1 - 1)),(t556),(x545002_1),(.slice Ao80 x545002_1.length co80),zT_,H',⟨HZn.out⟩,⟨by have:=HK1.out;have:=HJ23.out;omega⟩,⟨by (with_reducible repeat (first|apply Kd.S_alloc|apply Kd.S_drewN|apply Kd.S_drew));exact HO_542000.out⟩,⟨by (with_reducible repeat (first|apply Kd.R_alloc|apply Kd.R_drewN|apply Kd.R_drew));exact HO_545002.out⟩,⟨by (with_reducible repeat first|apply bkN|apply bkD|apply bkA);exact BK541.out⟩,⟨by (with_reducible repeat first|apply bkN|apply bkD|apply bkA);exact BK542.out⟩,⟨by (with_reducible repeat first|apply bkN|apply bkD|apply bkA);exact BK544.out⟩,⟨zi85_3 HI0.out NB0_541.out NB0_542.out NB0_544.out⟩,⟨zq3 HK.out GW541.out GW542.out GW544.out⟩,⟨zb4 HB.out (IsS85.ge HI0.out) GE541.out GE542.out GE544.out⟩⟩
     subst c56
     have H1:((spec_reader_pick.f kj23 s0_0 t556 (l1_0.length:Int)).bind fun bt565=>((some (([t555,bt565.1]:List Int):List Int)).bind fun y567=>(if x545002_1.length+y567.length<17592186044416 then (spec_addKids.l0 kj23 a2 (wrap64 (x8_1 - 1)) s0_0 bt565.2 l1_0 a1_1 ((rd_T45 l1_0 a2).f0) ((rd_T45 l1_0 a2).f1) (x545002_1++y567)) else (none))))=some (r1,r2,r3):=by rw [if_pos rfl] at H;exact H
     clear H
     have H:=H1
     clear H1
     replace H:=obS H
     obtain ⟨⟨t565,t566⟩,A570,H⟩:=H
     replace H:((some (([t555,t565]:List Int):List Int)).bind fun y567=>(if x545002_1.length+y567.length<17592186044416 then (spec_addKids.l0 kj23 a2 (wrap64 (x8_1 - 1)) s0_0 t566 l1_0 a1_1 ((rd_T45 l1_0 a2).f0) ((rd_T45 l1_0 a2).f1) (x545002_1++y567)) else (none)))=some (r1,r2,r3):=H
     have A57:=As_ A570
     clear A570
     obtain ⟨y567,hy567⟩:∃ y_:List Int,y_=(([t555,t565]:List Int)):=⟨_,rfl⟩
     replace H:(if x545002_1.length+y567.length<17592186044416 then (spec_addKids.l0 kj23 a2 (wrap64 (x8_1 - 1)) s0_0 t566 l1_0 a1_1 ((rd_T45 l1_0 a2).f0) ((rd_T45 l1_0 a2).f1) (x545002_1++y567)) else (none))=some (r1,r2,r3):=zH_ H hy567
     have Ny567:=As_ hy567
     clear hy567
     by_cases c58:x545002_1.length+y567.length<17592186044416
     rotate_left
     ·rw [if_neg c58] at H
      exact absurd H (by simp)
     rw [if_pos c58] at H
     have LMc58:=As_ c58
     clear c58
     obtain ⟨y570,hy570⟩:∃ y_:List Int,y_=(x545002_1++y567):=⟨_,rfl⟩
     replace H:(spec_addKids.l0 kj23 a2 (wrap64 (x8_1 - 1)) s0_0 t566 l1_0 a1_1 ((rd_T45 l1_0 a2).f0) ((rd_T45 l1_0 a2).f1) y570)=some (r1,r2,r3):=zH_ H hy570
     have Ny570:=As_ hy570
     clear hy570
     have H':=As_ H
     clear H
     have hnb59:=NB544_541.out
     have hnc59:=NB541_544.out
     have hnb60:=NB544_542.out
     have hnc60:=NB542_544.out
     have hnb61:=NB544_0.out
     have hnc61:=NB0_544.out
     obtain ⟨hcz62_0,hcz62_1,hcz62_2,hfz62_0,hfz62_1,hfz62_2⟩:=bk3 BK544.out
     obtain ⟨Ao63,co63,eo63⟩:=Kd.R_slice HO_545002.out
     subst eo63
     have hnb64:=NB541_542.out
     have hnc64:=NB542_541.out
     have hnb65:=NB541_0.out
     have hnc65:=NB0_541.out
     obtain ⟨hcz66_0,hcz66_1,hfz66_0,hfz66_1⟩:=bk2 BK541.out
     have p563:0≤(t555:Int):=odT zA_
     have q563:t555<(l1_0.length:Int):=odT zA_
     obtain ⟨ad563,A563_2,c563_2,e563,hx563_0,hx563_1,hx563_2,hl563_2,hi563_2⟩:=at_T45 (kzN_C (Kd.S_reads' HO_542000.out).2.2) t555 p563 q563
     obtain rfl:ad543=ad563:=(by injection e563)
     obtain ⟨ce563,hce563,hMe563,hcc563⟩:=Kd.S_get HO_542000.out z45 t555 p563 (by first|exact q563|exact odT zA_|(have e_:=(Kd.S_reads' HO_542000.out).1;omega))
     obtain ⟨ve563_2,rfl,ge563_2⟩:=k45_openM hMe563.1
     have hv563_2:=hcc563 2 _ rfl
     rw [add_field _ _ 2 (by omega)] at hv563_2
     replace hv563_2:=Option.some.inj (hv563_2.symm.trans hx563_2)
     rw [hv563_2] at ge563_2
     have HL563_2:=As_ (show Kd.R (Kd.int .i64) 3 _ _ _ _ ((rd_T45 l1_0 t555).f2) from ge563_2)
     clear hv563_2 ge563_2 hcc563 hce563
     have HR563_2:=As_ hi563_2
     have HC563_2:=As_ hl563_2
     clear hi563_2 hl563_2
     replace p563:=eq_true p563
     replace q563:=eq_true q563
     try go_wp2_with (first|(go_at_call 105;(with_reducible refine (spec_isKey.calls ((rd_T45 l1_0 t555).f0) ((rd_T45 l1_0 t555).f1) _ _ ((rd_T45 l1_0 t555).f2) true _ ?side1 ?side2 A55.out).mono ?_);(case side1=>repeat (first|exact (by repeat (first|(with_reducible exact HR563_2.out)|(with_reducible refine Kd.C_alloc ?_ _)|(with_reducible refine Kd.C_drewN ?_ _)|(with_reducible refine Kd.C_drew ?_)|exact HR563_2.out))|(with_reducible refine Kd.C_alloc ?_ _)|(with_reducible refine Kd.C_drewN ?_ _)|(with_reducible refine Kd.C_drew ?_)));(case side2=>exact HC563_2.out);rintro e w67 ⟨rfl,hb⟩;have n0_:=As_ (Kd.S_below (zS_ HO_542000.out) hb);have n1_:=As_ (Kd.R_below (zR_ HO_545002.out) hb);have n2_:=As_ (Kd.R_below (zR_ HL563_2.out) hb);have n3_:=As_ (zkb BK541.out hb);have n4_:=As_ (zkb BK542.out hb);have n5_:=As_ (zkb BK544.out hb);have n6_:=As_ (IsS85.below (zi85_3 HI0.out NB0_541.out NB0_542.out NB0_544.out) hb);have n7_:=As_ (Kd.C_below (by repeat (first|(with_reducible exact HR563_2.out)|(with_reducible refine Kd.C_alloc ?_ _)|(with_reducible refine Kd.C_drewN ?_ _)|(with_reducible refine Kd.C_drew ?_)|exact HR563_2.out)) hb);have n8_:=As_ (Kept.below (S:=(fun k_=>(P1_0_ k_)∨k_=g)) (zq3 HK.out GW541.out GW542.out GW544.out) hb);have n9_:=As_ (bwT (zb4 HB.out (IsS85.ge HI0.out) GE541.out GE542.out GE544.out) hb);clear HO_542000 HO_545002 HL563_2 BK541 BK542 BK544 HI0 HR563_2 HK HB;revert n0_ n1_ n2_ n3_ n4_ n5_ n6_ n7_ n8_ n9_;intro HO_542000 HO_545002 HL563_2 BK541 BK542 BK544 HI0 HR563_2 HK HB))
     have n0_:=As_ (Kd.S_drew HO_542000.out)
     have n1_:=As_ (Kd.R_drew HO_545002.out)
     have n2_:=As_ (Kd.R_drew HL563_2.out)
     have n3_:=As_ (bkD BK541.out)
     have n4_:=As_ (bkD BK542.out)
     have n5_:=As_ (bkD BK544.out)
     have n6_:=As_ (Kd.C_drew HR563_2.out)
     have n7_:=As_ (IsS85.drew HI0.out)
     have n8_:=As_ (Kept.drew HK.out)
     have n9_:=As_ (bwD HB.out)
     clear HO_542000 HO_545002 HL563_2 BK541 BK542 BK544 HR563_2 HI0 HK HB
     revert n0_ n1_ n2_ n3_ n4_ n5_ n6_ n7_ n8_ n9_;intro HO_542000 HO_545002 HL563_2 BK541 BK542 BK544 HR563_2 HI0 HK HB
     refine start_ (n:=12) (S:=fun w'=>w'.cell? ⟨gb544,0,none⟩=some (.int .i64 ((rd_T45 l1_0 a2).f0))∧w'.cell? ⟨gb544,1,none⟩=some (.int .i64 ((rd_T45 l1_0 a2).f1))∧w'.cell? ⟨gb544,2,none⟩=some (.slice Ao63 x545002_1.length co63)∧w'.cell? ⟨gb541,0,none⟩=some (.slice (some ad543) l1_0.length co7)∧w'.cell? ⟨gb541,1,none⟩=some (.int .i64 a1_1)) (ds:=[11]) (bl_ 0 12) (by kernel_rfl) rfl rfl ⟨(bkC BK544.out 0).trans rfl,(bkC BK544.out 1).trans rfl,(bkC BK544.out 2).trans rfl,(bkC BK541.out 0).trans rfl,(bkC BK541.out 1).trans rfl⟩ (fun hHeld=>?_);refine with_tabW spec_addKids.tab14 spec_addKids.bits14 (fun HT_ HW_=>?_)
     generalize w67.drew=w68 at HO_542000 HO_545002 HL563_2 BK541 BK542 BK544 HR563_2 HI0 HK HB hHeld ⊢
     refine pQ 0 58 (bl_ 1 12) HT_ rfl ?_
     refine pQ 2 60 (bl_ 5 12) HT_ rfl ?_
     refine pQ 3 61 (bl_ 13 12) HT_ rfl ?_
     refine pQ 4 62 (bl_ 29 12) HT_ rfl ?_
     refine tP 1 59 (bl_ 31 12) ?_ HT_ HW_ rfl (.inl ⟨by rfl,?_⟩) hHeld ?_ ?_ ?_;rotate_left;(rintro w' ⟨s0,s1,s2,s3,s4⟩;go_simp;with_reducible rfl);rotate_left;(simp only [Act.put,sq_,i64_w,i32_w];rfl)
     refine tP 5 63 (bl_ 63 12) ?_ HT_ HW_ rfl (.inl ⟨by rfl,?_⟩) hHeld ?_ ?_ ?_;rotate_left;(rintro w' ⟨s0,s1,s2,s3,s4⟩;go_simp;with_reducible rfl);rotate_left;(simp only [Act.put,sq_,i64_w,i32_w];rfl)
     refine pQ 6 64 (bl_ 127 12) HT_ rfl ?_
     refine one_ (i:=7) (N:=some 65) (bl_ 255 12) rfl rfl (one_of HT_.out (by kernel_rfl)) (by decide) (fun K hK=>?_)
     refine goes_ Try.func90 (by kernel_rfl) rfl #[.pointer (some ⟨g,0,none⟩),.int .i64 (l1_0.length:Int)] (by rfl) rfl rfl zM_ ?_
     with_reducible refine (spec_reader_pick.calls kj23 g s0_0 t556 (l1_0.length:Int) t565 t566 w0 _ ?side1 ?side2 A57.out).mono ?_
     (case side1=>exact zi85_3 HI0.out NB0_541.out NB0_542.out NB0_544.out)
     (case side2=>exact zb4 HB.out (IsS85.ge HI0.out) GE541.out GE542.out GE544.out)
     rintro e w69 ⟨rfl,hi,hb,hk⟩
     refine ⟨_,rfl,?_⟩
     have n0_:=As_ (Kd.S_mono (Kd.S_keep (IsS85.apartS (show IsS85 w0 _ g s0_0 t556 from zi85_3 HI0.out NB0_541.out NB0_542.out NB0_544.out) (zS_ HO_542000.out) (by decide)) hk (fun _ h=>h.2)) (fun _ h=>h.1))
     have n1_:=As_ (Kd.R_mono (Kd.R_keep (IsS85.apart (show IsS85 w0 _ g s0_0 t556 from zi85_3 HI0.out NB0_541.out NB0_542.out NB0_544.out) (zR_ HO_545002.out) (by decide)) hk (fun _ h=>h.2)) (fun _ h=>h.1))
     have n2_:=As_ (KeepBut.blk hk (g':=gb541) (o:=.cells #[.slice (some ad543) l1_0.length co7,.int .i64 a1_1] 29 (0,0)) (zk_ BK541.out) NB541_0.out (by simp))
     have n3_:=As_ (KeepBut.blk hk (g':=gb542) (o:=.cells #[.slice none 0 0,.int .i64 0] 29 (0,0)) (zk_ BK542.out) NB542_0.out (by simp))
     have n4_:=As_ (KeepBut.blk hk (g':=gb544) (o:=.cells #[.int .i64 ((rd_T45 l1_0 a2).f0),.int .i64 ((rd_T45 l1_0 a2).f1),.slice Ao63 x545002_1.length co63] 45 (0,0)) (zk_ BK544.out) NB544_0.out (by simp))
     have n5_:=As_ (Kd.R_mono (Kd.R_keep (IsS85.apart (show IsS85 w0 _ g s0_0 t556 from zi85_3 HI0.out NB0_541.out NB0_542.out NB0_544.out) (zR_ HL563_2.out) (by decide)) hk (fun _ h=>h.2)) (fun _ h=>h.1))
     have n6_:=As_ (Kept.of_keep (S:=(fun k_=>(P1_0_ k_)∨k_=g)) (zq3 HK.out GW541.out GW542.out GW544.out) hk (.inl (.inr rfl)))
     have n7_:=As_ (hb)
     have n8_:=As_ (hi)
     clear HO_542000 HO_545002 BK541 BK542 BK544 HL563_2 HK HB HI0
     revert n0_ n1_ n2_ n3_ n4_ n5_ n6_ n7_ n8_;intro HO_542000 HO_545002 BK541 BK542 BK544 HL563_2 HK HB HI0
     refine hK.out _ _ ⟨(bkC BK544.out 0).trans rfl,(bkC BK544.out 1).trans rfl,(bkC BK544.out 2).trans rfl,(bkC BK541.out 0).trans rfl,(bkC BK541.out 1).trans rfl⟩ (fun hHeld=>?_)
     clear hK K
     refine norm_ (a':=?_) ?_ ?_
     rotate_left
     ·show Act.put _ (some 65) _=_
      simp only [Act.put,sq_,i64_w,i32_w]
      rfl
     refine one_ (i:=8) (N:=some 66) (bl_ 511 12) rfl rfl (one_of HT_.out (by kernel_rfl)) (by decide) (fun K hK=>?_)
     refine Kd.R_lit_step (Kd.int .i64) _ 3 ?hg (N:=66) ?hd (xs:=([t555,t565]:List Int)) (inner:=[.int .i64 t555,.int .i64 t565]) (ok:=fun _=>True) (okp:=fun _=>True) ?hr ?hp (fun _ hk=>hk) trivial (Below.refl _ _) (Nat.le_refl _) (by simp) ?_;(case hd=>rfl);(case hg=>rfl);(case hr=>go_simp <;> rfl);(case hp=>exact (Reps.one (show Kd.M (Kd.int .i64) _ _ _ t555 [.int .i64 t555] from rfl) (Reps.one (show Kd.M (Kd.int .i64) _ _ _ t565 [.int .i64 t565] from rfl) (Reps.none _ _))))
     intro v568 w70 ho71 hb hg_ hnew_
     clear hg_ hnew_
     (first|rw [← Ny567.out] at ho71|(simp only [Int.reduceToNat] at ho71;rw [← Ny567.out] at ho71))
     have n0_:=As_ (Kd.S_elder' (zS_ HO_542000.out) (Kd.R_base ho71) hb)
     have n1_:=As_ (Kd.R_elder' (zR_ HO_545002.out) (Kd.R_base ho71) hb)
     have n2_:=As_ (Kd.R_elder' (zR_ HL563_2.out) (Kd.R_base ho71) hb)
     have n3_:=As_ (Kd.R_lower (Kd.R_new' (Kd.R_new' (Kd.R_newM (M:=fun k_=>(P1_0_ k_∨w.heap.size≤k_)) ho71 (by first|exact HK.out.1|exact (show Kept w _ (fun k_=>(P1_0_ k_)∨k_=g) from zq3 HK.out GW541.out GW542.out GW544.out).1) (fun k_ h_=>.inr h_)) (Kd.R_lt (zR_ HO_545002.out))) (Kd.R_lt (zR_ HL563_2.out))) (bwZ (zb4 HB.out (IsS85.ge HI0.out) GE541.out GE542.out GE544.out)))
     have n4_:=As_ (zkb BK541.out hb)
     have n5_:=As_ (zkb BK542.out hb)
     have n6_:=As_ (zkb BK544.out hb)
     have n7_:=As_ (IsS85.below (zi85_3 HI0.out NB0_541.out NB0_542.out NB0_544.out) hb)
     have n8_:=As_ (Kept.below (S:=(fun k_=>(P1_0_ k_)∨k_=g)) (zq3 HK.out GW541.out GW542.out GW544.out) hb)
     have n9_:=As_ (bwT (zb4 HB.out (IsS85.ge HI0.out) GE541.out GE542.out GE544.out) hb)
     clear HO_542000 HO_545002 HL563_2 BK541 BK542 BK544 HI0 HK HB
     revert n0_ n1_ n2_ n3_ n4_ n5_ n6_ n7_ n8_ n9_;intro HO_542000 HO_545002 HL563_2 HO569 BK541 BK542 BK544 HI0 HK HB
     clear hb ho71
     obtain ⟨Ao73,co73,eo73⟩:=Kd.R_slice HO569.out
     (first|subst eo73|(injection eo73 with f1_ f2_ f3_;have f4_:=f1_.symm;have f5_:=f3_.symm;clear f1_ f2_ f3_;subst f4_;subst f5_))
     refine hK.out _ _ ⟨(bkC BK544.out 0).trans rfl,(bkC BK544.out 1).trans rfl,(bkC BK544.out 2).trans rfl,(bkC BK541.out 0).trans rfl,(bkC BK541.out 1).trans rfl⟩ (fun hHeld=>?_)
     clear hK K
     refine norm_ (a':=?_) ?_ ?_
     rotate_left
     ·show Act.put _ (some 66) _=_
      simp only [Act.put,sq_,i64_w,i32_w]
      rfl
     refine one_ (i:=9) (N:=some 67) (bl_ 1023 12) rfl rfl (one_of HT_.out (by kernel_rfl)) (by decide) (fun K hK=>?_)
     refine Kd.R_append_rows_step (Kd.int .i64) (w0:=w0) w0.heap.size (by rfl) (.tmp 59) (.tmp 66) 37 3 (.int .i64 0) 8 rfl Try.underlying37 info3 rfl (by decide) (by omega) (.slice Ao63 x545002_1.length co63) x545002_1 y567 _ _ _ (fun k_=>(P1_0_ k_∨w.heap.size≤k_)∧some k_≠(.slice Ao73 y567.length co73:Value).ownBlock) (fun _=>False) rfl rfl ?aO ?aR (fun _ _ h=>h) (fun _ h=>h.elim) ?aF ?aB ?aS ?aL ?_
     (case aR=>exact zC_ (Kd.R_reads' HO569.out).2.2)
     (case aB=>exact (zb4 HB.out (IsS85.ge HI0.out) GE541.out GE542.out GE544.out))
     (case aF=>exact (fun k_ hk=>⟨(.inr (Nat.le_trans (by first|exact HK.out.1|exact (show Kept w _ (fun k_=>(P1_0_ k_)∨k_=g) from zq3 HK.out GW541.out GW542.out GW544.out).1) hk)),Kd.fresh' (Kd.R_lt (zR_ HO569.out)) k_ hk⟩))
     (case aO=>exact (zR_ HO_545002.out))
     (case aS=>exact (bwZ (zb4 HB.out (IsS85.ge HI0.out) GE541.out GE542.out GE544.out)))
     (case aL=>have:=LMc58.out;omega)
     intro v571 w72 ho hb hg hat
     rw [← Ny570.out] at ho
     have n0_:=As_ (Kd.S_after (ok:=(fun k_=>(P1_0_ k_∨w.heap.size≤k_)∧some k_≠(.slice Ao73 y567.length co73:Value).ownBlock∧k_≠gb544)) (by (with_reducible repeat (first|apply Kd.S_alloc|apply Kd.S_drewN|apply Kd.S_drew));exact Kd.S_mono HO_542000.out (fun _ hk=>⟨⟨hk.1.1,⟨hk.2,hk.1.2.2⟩⟩,hk.1.2.1⟩)) hg hat)
     have n1_:=As_ (blk_grown (g:=gb541) (o:=.cells #[.slice (some ad543) l1_0.length co7,.int .i64 a1_1] 29 (0,0)) (zk_ BK541.out) hg (Kd.R_ne HO_545002.out BK541.out (by decide)))
     have n2_:=As_ (blk_grown (g:=gb542) (o:=.cells #[.slice none 0 0,.int .i64 0] 29 (0,0)) (zk_ BK542.out) hg (Kd.R_ne HO_545002.out BK542.out (by decide)))
     have n3_:=As_ (blk_grown (g:=gb544) (o:=.cells #[.int .i64 ((rd_T45 l1_0 a2).f0),.int .i64 ((rd_T45 l1_0 a2).f1),.slice Ao63 x545002_1.length co63] 45 (0,0)) (zk_ BK544.out) hg (Kd.R_ne HO_545002.out BK544.out (by decide)))
     have n4_:=As_ (IsS85.grown (zi85_3 HI0.out NB0_541.out NB0_542.out NB0_544.out) hg (IsS85.own_ne HI0.out HO_545002.out (by decide)))
     have n5_:=As_ (Kd.R_after (ok:=(fun k_=>(P1_0_ k_∨w.heap.size≤k_)∧some k_≠(.slice (some ad543) l1_0.length co7:Value).ownBlock∧some k_≠(.slice Ao73 y567.length co73:Value).ownBlock∧k_≠gb544)) (by (with_reducible repeat (first|apply Kd.R_alloc|apply Kd.R_drewN|apply Kd.R_drew));exact Kd.R_mono HL563_2.out (fun _ hk=>⟨⟨hk.1.1.1,⟨hk.1.2,⟨hk.2,hk.1.1.2.2⟩⟩⟩,hk.1.1.2.1⟩)) hg hat)
     have n6_:=As_ (Kd.R_after (ok:=(fun k_=>(P1_0_ k_∨w.heap.size≤k_)∧some k_≠(.slice A563_2 ((rd_T45 l1_0 t555).f2).length c563_2:Value).ownBlock)) (by (with_reducible repeat (first|apply Kd.R_alloc|apply Kd.R_drewN|apply Kd.R_drew));exact Kd.R_mono HO569.out (fun _ hk=>⟨⟨hk.1.1.1,hk.2⟩,hk.1.2⟩)) hg hat)
     have n7_:=As_ (hb)
     have n8_:=As_ (Kept.of_grown (S:=(fun k_=>(P1_0_ k_)∨k_=g)) hg (zq3 HK.out GW541.out GW542.out GW544.out) (fun k_ e_=>Or.imp_left Or.inl ((HO_545002.out.1 k_ e_).1)))
     have n9_:=As_ (ho)
     clear HO_542000 BK541 BK542 BK544 HI0 HL563_2 HO569 HB HK HO_545002
     revert n0_ n1_ n2_ n3_ n4_ n5_ n6_ n7_ n8_ n9_;intro HO_542000 BK541 BK542 BK544 HI0 HL563_2 HO569 HB HK HO572
     clear ho hb hg hat
     obtain ⟨Ao74,co74,eo74⟩:=Kd.R_slice HO572.out
     (first|subst eo74|(injection eo74 with f1_ f2_ f3_;have f4_:=f1_.symm;have f5_:=f3_.symm;clear f1_ f2_ f3_;subst f4_;subst f5_))
     refine hK.out _ _ ⟨(bkC BK544.out 0).trans rfl,(bkC BK544.out 1).trans rfl,(bkC BK544.out 2).trans rfl,(bkC BK541.out 0).trans rfl,(bkC BK541.out 1).trans rfl⟩ (fun hHeld=>?_)
     clear hK K
     refine norm_ (a':=?_) ?_ ?_
     rotate_left
     ·show Act.put _ (some 67) _=_
      simp only [Act.put,sq_,i64_w,i32_w]
      rfl
     refine pQ 10 68 (bl_ 2047 12) HT_ rfl ?_
     refine last_ (i:=11) (N:=none) (bl_ 4095 12) rfl rfl (one_of HT_.out (by kernel_rfl)) (by decide) (fun K hK=>?_)
     have hs75:w72.cell? ⟨gb544,2,none⟩=some (.slice Ao63 x545002_1.length co63):=(bkC BK544.out 2).trans rfl
     have hfs75:=bkF BK544.out 2
     have hns75_0:=NB541_544.out
     have hns75_1:=NB542_544.out
     have hms75_0:=NB544_541.out
     have hms75_1:=NB544_542.out
     refine skip_ (w1:=?_) (by rfl) rfl ?_ ?_
     rotate_left
     ·go_simp
      rfl
     refine hK.out _ _ ?_
     clear hK K
     refine done_ (done_of HT_.out (by kernel_rfl)) ?_
     try go_wp2
     go_roundg kj23
     case measure=>have:=HK1.out;have:=HJ23.out;omega
     case rel=>exact ⟨(wrap64 (x8_1 - 1)),(t566),(y570),(.slice Ao74 y570.length co74),zT_,H',⟨fun e_=>absurd e_ (by rw [Ny570.out];first|(simp;done)|(rw [Ny545.out];simp;done)|(rw [Ny557.out];simp;done)|(rw [Ny560.out];simp;done)|(rw [Ny567.out];simp;done))⟩,⟨by have:=HK1.out;have:=HJ23.out;omega⟩,⟨by (with_reducible repeat (first|apply Kd.S_alloc|apply Kd.S_drewN|apply Kd.S_drew));exact Kd.S_mono (Kd.S_far (p:=⟨gb544,2,none⟩) (Kd.S_mono HO_542000.out (fun k_ hk=>(⟨hk,hk.1.2.2⟩:_∧k_≠gb544))) (fun _ hk=>hk.2) (.slice Ao74 y570.length co74)) (fun _ hk=>⟨hk.1.1.1,⟨hk.1.2,hk.1.1.2.2⟩⟩)⟩,⟨by (with_reducible repeat (first|apply Kd.R_alloc|apply Kd.R_drewN|apply Kd.R_drew));exact Kd.R_mono (Kd.R_far (p:=⟨gb544,2,none⟩) (Kd.R_types HO572.out BK544.out (by decide)) (fun _ hk=>hk.2) (.slice Ao74 y570.length co74)) (fun _ hk=>hk.1.1)⟩,⟨by (with_reducible repeat first|apply bkN|apply bkD|apply bkA);refine blk_far ?_ NB541_544.out _;(with_reducible repeat first|apply bkN|apply bkD|apply bkA);exact BK541.out⟩,⟨by (with_reducible repeat first|apply bkN|apply bkD|apply bkA);refine blk_far ?_ NB542_544.out _;(with_reducible repeat first|apply bkN|apply bkD|apply bkA);exact BK542.out⟩,⟨by (with_reducible repeat first|apply bkN|apply bkD|apply bkA);refine blk_put (cs:=#[.int .i64 ((rd_T45 l1_0 a2).f0),.int .i64 ((rd_T45 l1_0 a2).f1),.slice Ao63 x545002_1.length co63]) ?_ 2 _ rfl;(with_reducible repeat first|apply bkN|apply bkD|apply bkA);exact BK544.out⟩,⟨zi85_3 HI0.out NB0_541.out NB0_542.out NB0_544.out⟩,⟨zq3 HK.out GW541.out GW542.out GW544.out⟩,⟨zb4 HB.out (IsS85.ge HI0.out) GE541.out GE542.out GE544.out⟩⟩
def spec_addKids.f (k:Nat) (s0_0:List Int) (s0_1:Int) (l1_0:List S45) (a1_1:Int) (a2:Int):Option ((List S45) × Int × Int):=if (rd_T45 l1_0 a2).f2=[] then spec_addKids.f0 k s0_0 s0_1 l1_0 a1_1 a2 else none
set_option maxRecDepth 100000 in
theorem spec_addKids.mono:∀ a0 a1 a2 a3 a4 k,LeO (spec_addKids.f k a0 a1 a2 a3 a4) (spec_addKids.f (k+1) a0 a1 a2 a3 a4):=by
 intro a0 a1 a2 a3 a4 k
 unfold spec_addKids.f
 split
 ·exact spec_addKids.mono0 a0 a1 a2 a3 a4 k
 ·intro r h
  cases h
theorem spec_addKids.calls (k:Nat) (g:Nat) (s0_0:List Int) (s0_1:Int) (P1_0_:Nat→Prop) (u9000_:Value) (l1_0:List (S45)) (a1_1:Int) (a2:Int) (r1:List (S45)) (r2:Int) (r3:Int) (w0 w:World) (hI:IsS85 w0 w g s0_0 s0_1) (hB:Below w0.heap.size w0 w) (ho1_0:Kd.S kzN 45 w w0.heap.size P1_0_ u9000_ l1_0) (h:spec_addKids.f k s0_0 s0_1 l1_0 a1_1 a2=some (r1,r2,r3)) :
  Calls Try.prog 104 #[.pointer (some ⟨g,0,none⟩),.agg #[u9000_,.int .i64 a1_1],.int .i64 a2] w fun e w'=>∃ v0_:Value,e=.returned (.agg #[v0_,.int .i64 r2])∧Kd.S kzN 45 w' w0.heap.size (fun k_=>(P1_0_ k_∨w.heap.size≤k_)) v0_ r1∧IsS85 w0 w' g s0_0 r3∧Below w0.heap.size w0 w'∧Kept w w' (fun k_=>(P1_0_ k_)∨k_=g):=by
 unfold spec_addKids.f at h
 by_cases hz:(rd_T45 l1_0 a2).f2=[]
 ·rw [if_pos hz] at h
  exact spec_addKids.calls0 k g s0_0 s0_1 P1_0_ u9000_ l1_0 a1_1 a2 r1 r2 r3 w0 w hI hB ho1_0 hz h
 rw [if_neg hz] at h
 cases h
end Go.Proofs.Ytfhakhbmbnbneaa.Q
