import Derived.Test.YtapaegcombfafaaQ0
import Derived.Test.YtapaegcombfafaaQ49
import Derived.Test.YtapaegcombfafaaQ58
import Derived.Test.YtapaegcombfafaaQ65
namespace Go.Proofs.Ytapaegcombfafaa.Q
open Go.RowKit Go.Proofs.YtapaegcombfafaaW.PrintWords Go.Proofs.YtapaegcombfafaaW.PrintLast Go.Proofs.YtapaegcombfafaaW.PrintMore
attribute [local go_sem] max2_int min2_int max_two min_two max_three min_three max_four min_four
set_option linter.unusedVariables false
set_option linter.unusedSimpArgs false
mutual
def spec_addKids.l0:Nat→Int→Int→List Int→Int→List (S58)→Int→Int→Int→List Int→Option ((List (S58)) × Int × Int)
 | 0,_,_,_,_,_,_,_,_,_=>none
 | k+1,x2,x8,x1000,x1001,x182000,x182001,x185000,x185001,x185002=>if x8>0 then ((spec_reader_pick.f k x1000 x1001 (x182000.length:Int)).bind fun bt195=>(if x185000=2 then (spec_addKids.j1 k x2 x8 bt195.1 x185000 (x185000 == 2) x1000 bt195.2 x182000 x182001 x185000 x185001 x185002) else (spec_addKids.j1 k x2 x8 bt195.1 x185000 (x185000 == 3) x1000 bt195.2 x182000 x182001 x185000 x185001 x185002))) else (if 0≤x2 then (if x2<(x182000.length:Int) then ((some (x182000.set (x2:Int).toNat (⟨x185000,x185001,x185002⟩:S58):List (S58))).bind fun y192=>((spec_validGraph.f k y192 x182001).bind fun t193=>(if t193=true then (some (y192,x182001,x1001)) else (some ((y192.set (x2:Int).toNat (⟨(rd_T58 x182000 x2).f0,(rd_T58 x182000 x2).f1,([]:List Int)⟩:S58)),x182001,x1001))))) else (none)) else (none))
def spec_addKids.j1:Nat→Int→Int→Int→Int→Bool→List Int→Int→List (S58)→Int→Int→Int→List Int→Option ((List (S58)) × Int × Int)
 | 0,_,_,_,_,_,_,_,_,_,_,_,_=>none
 | k+1,x2,x8,x9,x29,x30,x1000,x1001,x182000,x182001,x185000,x185001,x185002=>if x30=true then (if x185002.length<17592186044416 then (spec_addKids.l0 k x2 (wrap64 (x8 - 1)) x1000 x1001 x182000 x182001 x185000 x185001 (x185002++[x9])) else (none)) else (if x29=5 then (spec_addKids.l0 k x2 (wrap64 (x8 - 1)) x1000 x1001 x182000 x182001 x185000 x185001 (([x9]:List Int))) else (if x29=4 then (if (x185002.length:Int)<6 then (if 0≤x9 then (if x9<(x182000.length:Int) then ((spec_isKey.f ((rd_T58 x182000 x9).f0) ((rd_T58 x182000 x9).f1) ((rd_T58 x182000 x9).f2)).bind fun t204=>(if t204=true then ((spec_reader_pick.f k x1000 x1001 (x182000.length:Int)).bind fun bt205=>((some (([x9,bt205.1]:List Int):List Int)).bind fun y207=>(if x185002.length+y207.length<17592186044416 then (spec_addKids.l0 k x2 (wrap64 (x8 - 1)) x1000 bt205.2 x182000 x182001 x185000 x185001 (x185002++y207)) else (none)))) else (spec_addKids.l0 k x2 (wrap64 (x8 - 1)) x1000 x1001 x182000 x182001 x185000 x185001 x185002))) else (none)) else (none)) else (spec_addKids.l0 k x2 (wrap64 (x8 - 1)) x1000 x1001 x182000 x182001 x185000 x185001 x185002)) else (spec_addKids.l0 k x2 (wrap64 (x8 - 1)) x1000 x1001 x182000 x182001 x185000 x185001 x185002)))
end
def spec_addKids.f0 (k:Nat) (s0_0:List Int) (s0_1:Int) (l1_0:List (S58)) (a1_1:Int) (a2:Int):Option ((List (S58)) × Int × Int):=if 0≤a2 then (if a2<(l1_0.length:Int) then ((spec_reader_one.f k s0_0 s0_1 (([2,1,3,0,4]:List Int))).bind fun bt188=>(spec_addKids.l0 k a2 bt188.1 s0_0 bt188.2 l1_0 a1_1 ((rd_T58 l1_0 a2).f0) ((rd_T58 l1_0 a2).f1) ([]:List Int))) else (none)) else (none)
set_option maxRecDepth 100000 in
theorem spec_addKids.mono_l:∀ k,(∀ y0 y1 y2 y3 y4 y5 y6 y7 y8,LeO (spec_addKids.l0 k y0 y1 y2 y3 y4 y5 y6 y7 y8) (spec_addKids.l0 (k+1) y0 y1 y2 y3 y4 y5 y6 y7 y8))∧(∀ y0 y1 y2 y3 y4 y5 y6 y7 y8 y9 y10 y11,LeO (spec_addKids.j1 k y0 y1 y2 y3 y4 y5 y6 y7 y8 y9 y10 y11) (spec_addKids.j1 (k+1) y0 y1 y2 y3 y4 y5 y6 y7 y8 y9 y10 y11))
 | 0=>⟨fun _ _ _ _ _ _ _ _ _ r h=>(by cases h),fun _ _ _ _ _ _ _ _ _ _ _ _ r h=>(by cases h)⟩
 | k+1=>by
  obtain ⟨ih0,ih1⟩:=spec_addKids.mono_l k
  refine ⟨?_,?_⟩
  ·intro y0 y1 y2 y3 y4 y5 y6 y7 y8
   unfold spec_addKids.l0
   repeat' first
   | (with_reducible exact ih0 _ _ _ _ _ _ _ _ _)
   | (with_reducible exact ih1 _ _ _ _ _ _ _ _ _ _ _ _)
   | (with_reducible exact spec_reader_one.mono _ _ _ _)
   | (with_reducible exact spec_reader_pick.mono _ _ _ _)
   | (with_reducible exact spec_validGraph.mono _ _ _)
   | (with_reducible exact LeO.refl _)
   | (with_reducible exact LeO.none _)
   | (with_reducible refine LeO.ite ?_ ?_)
   | (with_reducible refine LeO.bind ?_ (fun _=>?_))
   | exact ih0 _ _ _ _ _ _ _ _ _
   | exact ih1 _ _ _ _ _ _ _ _ _ _ _ _
   | exact spec_reader_one.mono _ _ _ _
   | exact spec_reader_pick.mono _ _ _ _
   | exact spec_validGraph.mono _ _ _
   | exact LeO.none _
   | refine LeO.ite ?_ ?_
   | refine LeO.bind ?_ (fun _=>?_)
  ·intro y0 y1 y2 y3 y4 y5 y6 y7 y8 y9 y10 y11
   unfold spec_addKids.j1
   repeat' first
   | (with_reducible exact ih0 _ _ _ _ _ _ _ _ _)
   | (with_reducible exact ih1 _ _ _ _ _ _ _ _ _ _ _ _)
   | (with_reducible exact spec_reader_one.mono _ _ _ _)
   | (with_reducible exact spec_reader_pick.mono _ _ _ _)
   | (with_reducible exact spec_validGraph.mono _ _ _)
   | (with_reducible exact LeO.refl _)
   | (with_reducible exact LeO.none _)
   | (with_reducible refine LeO.ite ?_ ?_)
   | (with_reducible refine LeO.bind ?_ (fun _=>?_))
   | exact ih0 _ _ _ _ _ _ _ _ _
   | exact ih1 _ _ _ _ _ _ _ _ _ _ _ _
   | exact spec_reader_one.mono _ _ _ _
   | exact spec_reader_pick.mono _ _ _ _
   | exact spec_validGraph.mono _ _ _
   | exact LeO.none _
   | refine LeO.ite ?_ ?_
   | refine LeO.bind ?_ (fun _=>?_)
theorem spec_addKids.mono0:∀ a0 a1 a2 a3 a4 k,LeO (spec_addKids.f0 k a0 a1 a2 a3 a4) (spec_addKids.f0 (k+1) a0 a1 a2 a3 a4):=by
 intro a0 a1 a2 a3 a4 k
 obtain ⟨ih0,ih1⟩:=spec_addKids.mono_l k
 unfold spec_addKids.f0
 repeat' first
   | (with_reducible exact ih0 _ _ _ _ _ _ _ _ _)
   | (with_reducible exact ih1 _ _ _ _ _ _ _ _ _ _ _ _)
   | (with_reducible exact spec_reader_one.mono _ _ _ _)
   | (with_reducible exact spec_reader_pick.mono _ _ _ _)
   | (with_reducible exact spec_validGraph.mono _ _ _)
   | (with_reducible exact LeO.refl _)
   | (with_reducible exact LeO.none _)
   | (with_reducible refine LeO.ite ?_ ?_)
   | (with_reducible refine LeO.bind ?_ (fun _=>?_))
   | exact ih0 _ _ _ _ _ _ _ _ _
   | exact ih1 _ _ _ _ _ _ _ _ _ _ _ _
   | exact spec_reader_one.mono _ _ _ _
   | exact spec_reader_pick.mono _ _ _ _
   | exact spec_validGraph.mono _ _ _
   | exact LeO.none _
   | refine LeO.ite ?_ ?_
   | refine LeO.bind ?_ (fun _=>?_)
def spec_addKids.T14:Bool × List (List Nat × List Nat):=(true,[([],[]),([0],[0]),([],[]),([],[]),([],[]),([4],[4]),([5],[5]),([3,6],[3,6]),([2,7],[2,7]),([1,8,7],[1,8]),([0,1,2,3,4,5,6,7,8,9],[]),([10,9,9,0,1,2,3,4,5,6,7,8,9],[9,10])])
def spec_addKids.B14:List Nat:=[0,1,0,0,0,16,48,120,252,511,1023,2047]
theorem spec_addKids.tab14:rtab .any (opsOf Try.f97 14)=spec_addKids.T14:=by kernel_rfl
theorem spec_addKids.bits14:waitsOk spec_addKids.T14.2 spec_addKids.B14=true:=by kernel_rfl
def kzN:Kd S58 where
 sz:=k58.sz
 E:=k58.E
 K:=fun w x cs=>k58.K w x cs∧(x.f2=[]→cs[2]?=some (.slice none 0 0))
 M:=fun w base ok x cs=>k58.M w base ok x cs∧(x.f2=[]→cs[2]?=some (.slice none 0 0))
 K_len:=fun h=>k58.K_len h.1
 K_one:=fun h=>k58.K_one h.1
 K_below:=fun hb h=>⟨k58.K_below hb h.1,h.2⟩
 K_of_M:=fun h=>⟨k58.K_of_M h.1,h.2⟩
 M_mono:=fun hok h=>⟨k58.M_mono hok h.1,h.2⟩
 M_bound:=fun h=>⟨k58.M_bound h.1,h.2⟩
 M_move:=fun hm h=>⟨k58.M_move hm h.1,h.2⟩
 M_lower:=fun hb h=>⟨k58.M_lower hb h.1,h.2⟩
theorem kzN_C {w:World} {A:Option Addr} {n:Nat} {xs:List S58} (h:Kd.C kzN w A n xs):Kd.C k58 w A n xs:=ReadsRow.imp_ h (Below.refl _ _) (fun _ _ hp=>hp.1)
theorem kzN_S {e base:Nat} {ok:Nat→Prop} {w:World} {v:Value} {xs:List S58} (h:Kd.S kzN e w base ok v xs):Kd.S k58 e w base ok v xs:=by
 obtain ⟨f,h0,inner,ho,hr⟩:=h
 exact ⟨f,h0,inner,ho,hr.imp_ (fun _ _ hp=>hp.1)⟩
theorem kzN_mkM (w:World) (base:Nat) (ok:Nat→Prop) (x:S58) {v2:Value} (g2:(Kd.int .i64).R 3 w base ok v2 x.f2) (hz:x.f2=[]→v2=.slice none 0 0):kzN.M w base ok x [.int .i64 x.f0,.int .i64 x.f1,v2]:=⟨k58_mkM w base ok x g2,fun e=>by rw [hz e];rfl⟩
theorem kzN_cell {W:World} {e base:Nat} {ok:Nat→Prop} {ad:Addr} {n cap:Nat} {xs:List S58} (h:Kd.S kzN e W base ok (.slice (some ad) n cap) xs) (i:Int) (h0:0≤i) (h1:i<n) (hz:(rd_T58 xs i).f2=[]):W.cell? (ad.add (i.toNat * 3+2))=some (.slice none 0 0):=by
 obtain ⟨c,hc,hM,hcc⟩:=Kd.S_get h z58 i h0 h1
 exact hcc 2 _ (hM.2 hz)
theorem kzN_raise {e b b':Nat} {ok:Nat→Prop} {W:World} {v:Value} {xs:List S58} (h:Kd.S kzN e W b ok v xs) (hb:∀ k,ok k→b'≤k):Kd.S kzN e W b' ok v xs:=by
 obtain ⟨f,h0,inner,ho,hr⟩:=h
 refine ⟨f,h0,inner,Kd.own_raise ho (fun k hk=>hb k (h0 k hk)),hr.imp_ (fun p cs hp=>?_)⟩
 obtain ⟨v2,hcs,hR⟩:=k58_openM hp.1
 refine ⟨?_,hp.2⟩
 rw [hcs]
 exact k58_mkM _ _ _ _ (Kd.R_raise (d:=Kd.int .i64) (b:=b) (b':=b') (fun _ _ _ _ h_=>h_) hR (fun k hk=>hb k (hR.1 k hk).1.1))
theorem kzN_lend {W:World} {base:Nat} {ok:Nat→Prop} {v:Value} {xs:List S58} (h:Kd.S kzN 58 W base ok v xs):∃ P:Nat→Prop,Kd.S kzN 58 W base P v xs∧(∀ k,P k→base≤k)∧∀ g t cells,W.heap[g]?=some (.cells cells t (0,0))→(∀ q,q∈58 :: kzN.E→q≠t)→¬ P g:=
 ⟨_,Kd.S_bound h,fun k hk=>hk.2.1,fun g t cells hg ht hP=>by
  obtain ⟨q,hq,cs,hc⟩:=hP.2.2.2
  rw [hg] at hc
  injection hc with hc
  injection hc with _ h2
  exact ht q hq h2.symm⟩
set_option maxHeartbeats 8000000 in
set_option maxRecDepth 100000 in
theorem spec_addKids.calls0 (k:Nat) (g:Nat) (s0_0:List Int) (s0_1:Int) (P1_0_:Nat→Prop) (u9000_:Value) (l1_0:List (S58)) (a1_1:Int) (a2:Int) (r1:List (S58)) (r2:Int) (r3:Int) (w0 w:World) (hI:IsS74 w0 w g s0_0 s0_1) (hB:Below w0.heap.size w0 w) (ho1_0:Kd.S kzN 58 w w0.heap.size P1_0_ u9000_ l1_0) (hz:(rd_T58 l1_0 a2).f2=[]) (h:spec_addKids.f0 k s0_0 s0_1 l1_0 a1_1 a2=some (r1,r2,r3)) :
  Calls Try.prog 97 #[.pointer (some ⟨g,0,none⟩),.agg #[u9000_,.int .i64 a1_1],.int .i64 a2] w fun e w'=>∃ v0_:Value,e=.returned (.agg #[v0_,.int .i64 r2])∧Kd.S kzN 58 w' w0.heap.size (fun k_=>(P1_0_ k_∨w.heap.size≤k_)) v0_ r1∧IsS74 w0 w' g s0_0 r3∧Below w0.heap.size w0 w'∧Kept w w' (fun k_=>(P1_0_ k_)∨k_=g):=by
 have hu25:=Try.underlying25
 have hu58:=Try.underlying58
 have HO1_0:=As_ (show Kd.S kzN 58 w w0.heap.size (fun k_=>(P1_0_ k_∨w.heap.size≤k_)) u9000_ l1_0 from Kd.S_mono ho1_0 (fun k_ hk=>(.inl hk)))
 have HI0:=As_ hI
 have HL:=As_ hB.size
 clear hI
 have HK:=As_ (Kept.refl w (fun k_=>(P1_0_ k_)∨k_=g))
 have HW0:=As_ hB.size
 have HB:=As_ hB
 clear hB
 have H:(if 0≤a2 then (if a2<(l1_0.length:Int) then ((spec_reader_one.f k s0_0 s0_1 (([2,1,3,0,4]:List Int))).bind fun bt188=>(spec_addKids.l0 k a2 bt188.1 s0_0 bt188.2 l1_0 a1_1 ((rd_T58 l1_0 a2).f0) ((rd_T58 l1_0 a2).f1) ([]:List Int))) else (none)) else (none))=some (r1,r2,r3):=h
 clear h
 by_cases c4:0≤a2
 rotate_left
 ·rw [if_neg c4] at H
  exact absurd H (by simp)
 rw [if_pos c4] at H
 have c4b0:decide (0≤a2)=true:=deT c4
 clear c4
 by_cases c5:a2<(l1_0.length:Int)
 rotate_left
 ·rw [if_neg c5] at H
  exact absurd H (by simp)
 rw [if_pos c5] at H
 have c5b0:decide (a2<(l1_0.length:Int))=true:=deT c5
 clear c5
 obtain ⟨y185,hy185⟩:∃ y_:List Int,y_=(([2,1,3,0,4]:List Int)):=⟨_,rfl⟩
 replace H:((spec_reader_one.f k s0_0 s0_1 y185).bind fun bt188=>(spec_addKids.l0 k a2 bt188.1 s0_0 bt188.2 l1_0 a1_1 ((rd_T58 l1_0 a2).f0) ((rd_T58 l1_0 a2).f1) ([]:List Int)))=some (r1,r2,r3):=zH_ H hy185
 have Ny185:=As_ hy185
 clear hy185
 replace H:=obS H
 obtain ⟨⟨t188,t189⟩,A60,H⟩:=H
 replace H:(spec_addKids.l0 k a2 t188 s0_0 t189 l1_0 a1_1 ((rd_T58 l1_0 a2).f0) ((rd_T58 l1_0 a2).f1) ([]:List Int))=some (r1,r2,r3):=H
 have A6:=As_ A60
 clear A60
 have H':=As_ H
 clear H
 obtain ⟨Ao7,co7,eo7⟩:=Kd.S_slice HO1_0.out
 subst eo7
 go_enter Try.func97,Try.ntmps97
 go_wp2_with (first|((with_reducible refine gate_dst (N:=4) rfl ?_);refine box_event ?hg (N:=4) ?hd (cs:=#[.slice Ao7 l1_0.length co7,.int .i64 a1_1]) (t:=25) ?hr ?_;(case hd=>rfl);(case hg=>rfl);(case hr=>go_simp <;> rfl);intro gb181 hg w8 hbox hb;have n0_:=As_ (Kd.S_below (zS_ HO1_0.out) hb);have n1_:=As_ (IsS74.below (zi74_0 HI0.out) hb);have n2_:=As_ (Kept.below (S:=(fun k_=>(P1_0_ k_)∨k_=g)) (zq0 HK.out) hb);have n3_:=As_ (bwT (zb1 HB.out (IsS74.ge HI0.out)) hb);have n4_:=As_ (hbox);have n5_:=As_ ((by rw [hg];exact (by first|exact HK.out.1|exact (show Kept w _ (fun k_=>(P1_0_ k_)∨k_=g) from zq0 HK.out).1):w.heap.size≤gb181));have n6_:=As_ ((by rw [hg];exact (bwZ (zb1 HB.out (IsS74.ge HI0.out))):w0.heap.size≤gb181));have n7_:=As_ ((by rw [hg];exact Nat.ne_of_lt (IsS74.lt (show IsS74 w0 _ g s0_0 s0_1 from zi74_0 HI0.out)):g≠gb181));have n8_:=As_ ((by rw [hg];exact Nat.ne_of_gt (IsS74.lt (show IsS74 w0 _ g s0_0 s0_1 from zi74_0 HI0.out)):gb181≠g));clear HO1_0 HI0 HK HB;revert n0_ n1_ n2_ n3_ n4_ n5_ n6_ n7_ n8_;intro HO1_0 HI0 HK HB BK181 GW181 GE181 NB0_181 NB181_0;clear hb hbox hg)|((with_reducible refine gate_dst (N:=6) rfl ?_);refine box_event ?hg (N:=6) ?hd (cs:=#[.slice none 0 0,.int .i64 0]) (t:=25) ?hr ?_;(case hd=>rfl);(case hg=>rfl);(case hr=>go_simp <;> rfl);intro gb182 hg w9 hbox hb;have n0_:=As_ (Kd.S_below (zS_ HO1_0.out) hb);have n1_:=As_ (IsS74.below (zi74_1 HI0.out NB0_181.out) hb);have n2_:=As_ (zkb BK181.out hb);have n3_:=As_ (Kept.below (S:=(fun k_=>(P1_0_ k_)∨k_=g)) (zq1 HK.out GW181.out) hb);have n4_:=As_ (bwT (zb2 HB.out (IsS74.ge HI0.out) GE181.out) hb);have n5_:=As_ (hbox);have n6_:=As_ ((by rw [hg];exact (by first|exact HK.out.1|exact (show Kept w _ (fun k_=>(P1_0_ k_)∨k_=g) from zq1 HK.out GW181.out).1):w.heap.size≤gb182));have n7_:=As_ ((by rw [hg];exact (bwZ (zb2 HB.out (IsS74.ge HI0.out) GE181.out)):w0.heap.size≤gb182));have n8_:=As_ ((by rw [hg];exact Nat.ne_of_lt (zkl BK181.out):gb181≠gb182));have n9_:=As_ ((by rw [hg];exact Nat.ne_of_gt (zkl BK181.out):gb182≠gb181));have n10_:=As_ ((by rw [hg];exact Nat.ne_of_lt (IsS74.lt (show IsS74 w0 _ g s0_0 s0_1 from zi74_1 HI0.out NB0_181.out)):g≠gb182));have n11_:=As_ ((by rw [hg];exact Nat.ne_of_gt (IsS74.lt (show IsS74 w0 _ g s0_0 s0_1 from zi74_1 HI0.out NB0_181.out)):gb182≠g));clear HO1_0 HI0 BK181 HK HB;revert n0_ n1_ n2_ n3_ n4_ n5_ n6_ n7_ n8_ n9_ n10_ n11_;intro HO1_0 HI0 BK181 HK HB BK182 GW182 GE182 NB181_182 NB182_181 NB0_182 NB182_0;clear hb hbox hg;have hnb10:=NB181_182.out;have hnc10:=NB182_181.out;have hnb11:=NB181_0.out;have hnc11:=NB0_181.out;obtain ⟨hcz12_0,hcz12_1,hfz12_0,hfz12_1⟩:=bk2 BK181.out;have p183:0≤(a2:Int):=odT zA_;have q183:a2<(l1_0.length:Int):=odT zA_;obtain ⟨ad183,A183_2,c183_2,e183,hx183_0,hx183_1,hx183_2,hl183_2,hi183_2⟩:=at_T58 (kzN_C (Kd.S_reads' HO1_0.out).2.2) a2 p183 q183;cases e183;obtain ⟨ce183,hce183,hMe183,hcc183⟩:=Kd.S_get HO1_0.out z58 a2 p183 (by first|exact q183|exact odT zA_|(have e_:=(Kd.S_reads' HO1_0.out).1;omega));obtain ⟨ve183_2,rfl,ge183_2⟩:=k58_openM hMe183.1;have hv183_2:=hcc183 2 _ rfl;rw [add_field _ _ 2 (by omega)] at hv183_2;replace hv183_2:=Option.some.inj (hv183_2.symm.trans hx183_2);rw [hv183_2] at ge183_2;have HL183_2:=As_ (show Kd.R (Kd.int .i64) 3 _ _ _ _ ((rd_T58 l1_0 a2).f2) from ge183_2);have hz183:=kzN_cell HO1_0.out a2 p183 (by first|exact q183|exact odT zA_|(have e_:=(Kd.S_reads' HO1_0.out).1;omega)) hz;rw [add_field _ _ 2 (by omega)] at hz183;replace hx183_2:=hz183;clear hz183 hv183_2 ge183_2 hcc183 hce183;have HR183_2:=As_ hi183_2;have HC183_2:=As_ hl183_2;clear hi183_2 hl183_2;replace p183:=eq_true p183;replace q183:=eq_true q183)|((with_reducible refine gate_dst (N:=7) rfl ?_);refine box_event ?hg (N:=7) ?hd (cs:=#[.int .i64 0,.int .i64 0,.slice none 0 0]) (t:=58) ?hr ?_;(case hd=>rfl);(case hg=>rfl);(case hr=>go_simp <;> rfl);intro gb184 hg w13 hbox hb;have n0_:=As_ (Kd.S_below (Kd.S_elderB (zS_ HO1_0.out) gb184 (Nat.le_of_eq hg.symm)) hb);have n1_:=As_ (Kd.R_below (zR_ HL183_2.out) hb);have n2_:=As_ (IsS74.below (zi74_2 HI0.out NB0_181.out NB0_182.out) hb);have n3_:=As_ (zkb BK181.out hb);have n4_:=As_ (zkb BK182.out hb);have n5_:=As_ (Kd.C_below (by repeat (first|(with_reducible exact HR183_2.out)|(with_reducible refine Kd.C_alloc ?_ _)|(with_reducible refine Kd.C_drewN ?_ _)|(with_reducible refine Kd.C_drew ?_)|exact HR183_2.out)) hb);have n6_:=As_ (Kept.below (S:=(fun k_=>(P1_0_ k_)∨k_=g)) (zq2 HK.out GW181.out GW182.out) hb);have n7_:=As_ (bwT (zb3 HB.out (IsS74.ge HI0.out) GE181.out GE182.out) hb);have n8_:=As_ (hbox);have n9_:=As_ ((by rw [hg];exact (by first|exact HK.out.1|exact (show Kept w _ (fun k_=>(P1_0_ k_)∨k_=g) from zq2 HK.out GW181.out GW182.out).1):w.heap.size≤gb184));have n10_:=As_ ((by rw [hg];exact (bwZ (zb3 HB.out (IsS74.ge HI0.out) GE181.out GE182.out)):w0.heap.size≤gb184));have n11_:=As_ ((by rw [hg];exact Nat.ne_of_lt (zkl BK181.out):gb181≠gb184));have n12_:=As_ ((by rw [hg];exact Nat.ne_of_gt (zkl BK181.out):gb184≠gb181));have n13_:=As_ ((by rw [hg];exact Nat.ne_of_lt (zkl BK182.out):gb182≠gb184));have n14_:=As_ ((by rw [hg];exact Nat.ne_of_gt (zkl BK182.out):gb184≠gb182));have n15_:=As_ ((by rw [hg];exact Nat.ne_of_lt (IsS74.lt (show IsS74 w0 _ g s0_0 s0_1 from zi74_2 HI0.out NB0_181.out NB0_182.out)):g≠gb184));have n16_:=As_ ((by rw [hg];exact Nat.ne_of_gt (IsS74.lt (show IsS74 w0 _ g s0_0 s0_1 from zi74_2 HI0.out NB0_181.out NB0_182.out)):gb184≠g));clear HO1_0 HL183_2 HI0 BK181 BK182 HR183_2 HK HB;revert n0_ n1_ n2_ n3_ n4_ n5_ n6_ n7_ n8_ n9_ n10_ n11_ n12_ n13_ n14_ n15_ n16_;intro HO1_0 HL183_2 HI0 BK181 BK182 HR183_2 HK HB BK184 GW184 GE184 NB181_184 NB184_181 NB182_184 NB184_182 NB0_184 NB184_0;clear hb hbox hg;have hnb14:=NB184_181.out;have hnc14:=NB181_184.out;have hnb15:=NB184_182.out;have hnc15:=NB182_184.out;have hnb16:=NB184_0.out;have hnc16:=NB0_184.out;obtain ⟨hcz17_0,hcz17_1,hcz17_2,hfz17_0,hfz17_1,hfz17_2⟩:=bk3 BK184.out)|((with_reducible refine gate_dst (N:=17) rfl ?_);refine Kd.R_lit (Kd.int .i64) _ 3 ?hg (N:=17) ?hd (xs:=([2,1,3,0,4]:List Int)) (inner:=[.int .i64 2,.int .i64 1,.int .i64 3,.int .i64 0,.int .i64 4]) (ok:=fun _=>True) (okp:=fun _=>True) ?hr ?hp (fun _ hk=>hk) trivial (Below.refl _ _) (Nat.le_refl _) (by simp) ?_;(case hd=>rfl);(case hg=>rfl);(case hr=>go_simp <;> rfl);(case hp=>exact (Reps.one (show Kd.M (Kd.int .i64) _ _ _ 2 [.int .i64 2] from rfl) (Reps.one (show Kd.M (Kd.int .i64) _ _ _ 1 [.int .i64 1] from rfl) (Reps.one (show Kd.M (Kd.int .i64) _ _ _ 3 [.int .i64 3] from rfl) (Reps.one (show Kd.M (Kd.int .i64) _ _ _ 0 [.int .i64 0] from rfl) (Reps.one (show Kd.M (Kd.int .i64) _ _ _ 4 [.int .i64 4] from rfl) (Reps.none _ _)))))));intro v186 w18 ho19 hb hg_ hnew_;clear hg_ hnew_;(first|rw [← Ny185.out] at ho19|(simp only [Int.reduceToNat] at ho19;rw [← Ny185.out] at ho19));have n0_:=As_ (Kd.S_elder' (by (with_reducible repeat (first|apply Kd.S_alloc|apply Kd.S_drewN|apply Kd.S_drew));exact (Kd.S_mono (Kd.S_far (p:=⟨gb184,2,none⟩) (Kd.S_far (p:=⟨gb184,1,none⟩) (Kd.S_far (p:=⟨gb184,0,none⟩) (Kd.S_mono HO1_0.out (fun k_ hk=>(⟨hk,hk.2⟩:_∧k_≠gb184))) (fun _ hk=>hk.2) (.int .i64 ((rd_T58 l1_0 a2).f0))) (fun _ hk=>hk.2) (.int .i64 ((rd_T58 l1_0 a2).f1))) (fun _ hk=>hk.2) (.slice none 0 0)) (fun _ h_=>h_.1))) (Kd.R_base ho19) hb);have n1_:=As_ (Kd.R_elder' (by (with_reducible repeat (first|apply Kd.R_alloc|apply Kd.R_drewN|apply Kd.R_drew));exact (Kd.R_mono (Kd.R_far (p:=⟨gb184,2,none⟩) (Kd.R_far (p:=⟨gb184,1,none⟩) (Kd.R_far (p:=⟨gb184,0,none⟩) (Kd.R_types HL183_2.out BK184.out (by decide)) (fun _ hk=>hk.2) (.int .i64 ((rd_T58 l1_0 a2).f0))) (fun _ hk=>hk.2) (.int .i64 ((rd_T58 l1_0 a2).f1))) (fun _ hk=>hk.2) (.slice none 0 0)) (fun _ h_=>h_.1))) (Kd.R_base ho19) hb);have n2_:=As_ (Kd.R_lower (Kd.R_new' (Kd.R_newM (M:=fun k_=>(P1_0_ k_∨w.heap.size≤k_)) ho19 (show Kept w _ (fun k_=>(P1_0_ k_)∨k_=g) from zq3 HK.out GW181.out GW182.out GW184.out).1 (fun k_ h_=>.inr h_)) (Kd.R_lt (by (with_reducible repeat (first|apply Kd.R_alloc|apply Kd.R_drewN|apply Kd.R_drew));exact (Kd.R_mono (Kd.R_far (p:=⟨gb184,2,none⟩) (Kd.R_far (p:=⟨gb184,1,none⟩) (Kd.R_far (p:=⟨gb184,0,none⟩) (Kd.R_types HL183_2.out BK184.out (by decide)) (fun _ hk=>hk.2) (.int .i64 ((rd_T58 l1_0 a2).f0))) (fun _ hk=>hk.2) (.int .i64 ((rd_T58 l1_0 a2).f1))) (fun _ hk=>hk.2) (.slice none 0 0)) (fun _ h_=>h_.1))))) (bwZ (zb4 HB.out (IsS74.ge HI0.out) GE181.out GE182.out GE184.out)));have n3_:=As_ (IsS74.below (show IsS74 w0 (((w13.setCell ⟨gb184,0,none⟩ (.int .i64 ((rd_T58 l1_0 a2).f0))).setCell ⟨gb184,1,none⟩ (.int .i64 ((rd_T58 l1_0 a2).f1))).setCell ⟨gb184,2,none⟩ (.slice none 0 0)) g s0_0 s0_1 from zi74_3 HI0.out NB0_181.out NB0_182.out NB0_184.out) hb);have n4_:=As_ (blk_below (g:=gb181) (o:=.cells #[.slice (some ad183) l1_0.length co7,.int .i64 a1_1] 25 (0,0)) (by (with_reducible repeat first|apply bkN|apply bkD|apply bkA);refine blk_far ?_ NB181_184.out _;(with_reducible repeat first|apply bkN|apply bkD|apply bkA);refine blk_far ?_ NB181_184.out _;(with_reducible repeat first|apply bkN|apply bkD|apply bkA);refine blk_far ?_ NB181_184.out _;(with_reducible repeat first|apply bkN|apply bkD|apply bkA);exact BK181.out) hb);have n5_:=As_ (blk_below (g:=gb182) (o:=.cells #[.slice none 0 0,.int .i64 0] 25 (0,0)) (by (with_reducible repeat first|apply bkN|apply bkD|apply bkA);refine blk_far ?_ NB182_184.out _;(with_reducible repeat first|apply bkN|apply bkD|apply bkA);refine blk_far ?_ NB182_184.out _;(with_reducible repeat first|apply bkN|apply bkD|apply bkA);refine blk_far ?_ NB182_184.out _;(with_reducible repeat first|apply bkN|apply bkD|apply bkA);exact BK182.out) hb);have n6_:=As_ (Kd.C_below ((Kd.R_reads' (by (with_reducible repeat (first|apply Kd.R_alloc|apply Kd.R_drewN|apply Kd.R_drew));exact (Kd.R_mono (Kd.R_far (p:=⟨gb184,2,none⟩) (Kd.R_far (p:=⟨gb184,1,none⟩) (Kd.R_far (p:=⟨gb184,0,none⟩) (Kd.R_types HL183_2.out BK184.out (by decide)) (fun _ hk=>hk.2) (.int .i64 ((rd_T58 l1_0 a2).f0))) (fun _ hk=>hk.2) (.int .i64 ((rd_T58 l1_0 a2).f1))) (fun _ hk=>hk.2) (.slice none 0 0)) (fun _ h_=>h_.1)))).2.2) hb);have n7_:=As_ (blk_below (g:=gb184) (o:=.cells #[.int .i64 ((rd_T58 l1_0 a2).f0),.int .i64 ((rd_T58 l1_0 a2).f1),.slice none 0 0] 58 (0,0)) (by (with_reducible repeat first|apply bkN|apply bkD|apply bkA);refine blk_put (cs:=#[.int .i64 ((rd_T58 l1_0 a2).f0),.int .i64 ((rd_T58 l1_0 a2).f1),.slice none 0 0]) ?_ 2 _ rfl;(with_reducible repeat first|apply bkN|apply bkD|apply bkA);refine blk_put (cs:=#[.int .i64 ((rd_T58 l1_0 a2).f0),.int .i64 0,.slice none 0 0]) ?_ 1 _ rfl;(with_reducible repeat first|apply bkN|apply bkD|apply bkA);refine blk_put (cs:=#[.int .i64 0,.int .i64 0,.slice none 0 0]) ?_ 0 _ rfl;(with_reducible repeat first|apply bkN|apply bkD|apply bkA);exact BK184.out) hb);have n8_:=As_ (Kept.below (S:=(fun k_=>(P1_0_ k_)∨k_=g)) (zq3 HK.out GW181.out GW182.out GW184.out) hb);have n9_:=As_ (bwT (zb4 HB.out (IsS74.ge HI0.out) GE181.out GE182.out GE184.out) hb);clear HO1_0 HL183_2 HI0 BK181 BK182 HR183_2 BK184 HK HB;revert n0_ n1_ n2_ n3_ n4_ n5_ n6_ n7_ n8_ n9_;intro HO1_0 HL183_2 HO187 HI0 BK181 BK182 HR183_2 BK184 HK HB;clear hb ho19;obtain ⟨Ao20,co20,eo20⟩:=Kd.R_slice HO187.out;subst eo20)|((with_reducible refine gate_callee (f:=67) rfl ?_);refine goesL_ (some 18) rfl rfl Try.func67 (by kernel_rfl) rfl #[.pointer (some ⟨g,0,none⟩),.slice Ao20 y185.length co20] rfl zM_ ?_;(with_reducible refine (spec_reader_one.calls k g s0_0 s0_1 _ _ y185 t188 t189 w0 _ ?side1 ?side2 ?side3 ?side4 ?side5 A6.out).mono ?_);(case side1=>exact zi74_3 HI0.out NB0_181.out NB0_182.out NB0_184.out);(case side2=>exact zb4 HB.out (IsS74.ge HI0.out) GE181.out GE182.out GE184.out);(case side3=>exact zC_ (Kd.R_reads' HO187.out).2.2);(case side4=>exact (Kd.R_reads' HO187.out).2.1);(case side5=>exact far_slice (IsS74.own_ne HI0.out HO187.out (by decide)));rintro e w21 ⟨rfl,hi,hb,hk⟩;refine ⟨_,rfl,?_⟩;have n0_:=As_ (Kd.S_mono (Kd.S_keep (IsS74.apartS (show IsS74 w0 _ g s0_0 s0_1 from zi74_3 HI0.out NB0_181.out NB0_182.out NB0_184.out) (zS_ HO1_0.out) (by decide)) hk (fun _ h=>h.2)) (fun _ h=>h.1));have n1_:=As_ (KeepBut.blk hk (g':=gb181) (o:=.cells #[.slice (some ad183) l1_0.length co7,.int .i64 a1_1] 25 (0,0)) (zk_ BK181.out) NB181_0.out (by simp));have n2_:=As_ (KeepBut.blk hk (g':=gb182) (o:=.cells #[.slice none 0 0,.int .i64 0] 25 (0,0)) (zk_ BK182.out) NB182_0.out (by simp));have n3_:=As_ (Kd.R_mono (Kd.R_keep (IsS74.apart (show IsS74 w0 _ g s0_0 s0_1 from zi74_3 HI0.out NB0_181.out NB0_182.out NB0_184.out) (zR_ HL183_2.out) (by decide)) hk (fun _ h=>h.2)) (fun _ h=>h.1));have n4_:=As_ (KeepBut.blk hk (g':=gb184) (o:=.cells #[.int .i64 ((rd_T58 l1_0 a2).f0),.int .i64 ((rd_T58 l1_0 a2).f1),.slice none 0 0] 58 (0,0)) (zk_ BK184.out) NB184_0.out (by simp));have n5_:=As_ (Kd.R_mono (Kd.R_keep (IsS74.apart (show IsS74 w0 _ g s0_0 s0_1 from zi74_3 HI0.out NB0_181.out NB0_182.out NB0_184.out) (zR_ HO187.out) (by decide)) hk (fun _ h=>h.2)) (fun _ h=>h.1));have n6_:=As_ (Kept.of_keep (S:=(fun k_=>(P1_0_ k_)∨k_=g)) (zq3 HK.out GW181.out GW182.out GW184.out) hk (.inl (.inr rfl)));have n7_:=As_ (hb);have n8_:=As_ (hi);clear HO1_0 BK181 BK182 HL183_2 BK184 HO187 HK HB HI0;revert n0_ n1_ n2_ n3_ n4_ n5_ n6_ n7_ n8_;intro HO1_0 BK181 BK182 HL183_2 BK184 HO187 HK HB HI0))
 go_loopg [8] k (fun kq v8 w'=>∃ (x8_1:Int) (x1001_1:Int) (x185002_1:List Int) (u185002:Value),v8=.int .i64 x8_1∧Aside0 (spec_addKids.l0 kq a2 x8_1 s0_0 x1001_1 l1_0 a1_1 ((rd_T58 l1_0 a2).f0) ((rd_T58 l1_0 a2).f1) x185002_1=some (r1,r2,r3))∧Aside0 (x185002_1=[]→u185002=.slice none 0 0)∧Aside0 (kq≤k)∧Aside0 (Kd.S kzN 58 w' w0.heap.size (fun k_=>(P1_0_ k_∨w.heap.size≤k_)∧some k_≠(u185002:Value).ownBlock∧k_≠gb184) (.slice (some ad183) l1_0.length co7) l1_0)∧Aside0 (Kd.R (Kd.int .i64) 3 w' w0.heap.size (fun k_=>(P1_0_ k_∨w.heap.size≤k_)) u185002 x185002_1)∧Aside0 (w'.heap[gb181]?=some (.cells #[(.slice (some ad183) l1_0.length co7),.int .i64 a1_1] 25 (0,0)))∧Aside0 (w'.heap[gb182]?=some (.cells #[(.slice none 0 0),.int .i64 0] 25 (0,0)))∧Aside0 (w'.heap[gb184]?=some (.cells #[.int .i64 ((rd_T58 l1_0 a2).f0),.int .i64 ((rd_T58 l1_0 a2).f1),u185002] 58 (0,0)))∧Aside0 (IsS74 w0 w' g s0_0 x1001_1)∧Aside0 (Kept w w' (fun k_=>(P1_0_ k_)∨k_=g))∧Aside0 (Below w0.heap.size w0 w'))
 case atStart=>exact ⟨(t188),(t189),(([]:List Int)),(.slice none 0 0),zT_,H',⟨fun _=>rfl⟩,⟨Nat.le_refl _⟩,⟨by (with_reducible repeat (first|apply Kd.S_alloc|apply Kd.S_drewN|apply Kd.S_drew));exact Kd.S_mono HO1_0.out (fun _ hk=>⟨hk.1.1,⟨(by simp [Value.ownBlock]),hk.1.2⟩⟩)⟩,⟨by first|exact Kd.R_nil _ _ _ _ _|exact Kd.N_nil _ _ _ _ _|exact Kd.V_nil _ _ _ _ _|exact Kd.Q_nil _ _ _ _ _|exact Kd.S_nil _ _ _ _ _⟩,⟨by (with_reducible repeat first|apply bkN|apply bkD|apply bkA);exact BK181.out⟩,⟨by (with_reducible repeat first|apply bkN|apply bkD|apply bkA);exact BK182.out⟩,⟨by (with_reducible repeat first|apply bkN|apply bkD|apply bkA);exact BK184.out⟩,⟨zi74_3 HI0.out NB0_181.out NB0_182.out NB0_184.out⟩,⟨zq3 HK.out GW181.out GW182.out GW184.out⟩,⟨zb4 HB.out (IsS74.ge HI0.out) GE181.out GE182.out GE184.out⟩⟩
 case round=>
  clear H'
  obtain ⟨x8_1,x1001_1,x185002_1,u185002,rfl,HA,HZn,HK1,HO_182000,HO_185002,BK181,BK182,BK184,HI0,HK,HB⟩:=hrel
  cases gk with
  | zero=>exact absurd HA.out (fun h_=>(by cases h_))
  | succ k1=>
   have H:=HA.out
   clear HA
   simp only [spec_addKids.l0] at H
   by_cases c22:x8_1>0
   rotate_left
   ·rw [if_neg c22] at H
    have c22b0:decide (0<x8_1)=false:=deF c22
    clear c22
    by_cases c90:0≤a2
    rotate_left
    ·rw [if_neg c90] at H
     exact absurd H (by simp)
    rw [if_pos c90] at H
    have c90b0:decide (0≤a2)=true:=deT c90
    clear c90
    by_cases c91:a2<(l1_0.length:Int)
    rotate_left
    ·rw [if_neg c91] at H
     exact absurd H (by simp)
    rw [if_pos c91] at H
    have c91b0:decide (a2<(l1_0.length:Int))=true:=deT c91
    clear c91
    obtain ⟨y192,hy192⟩:∃ y_:List (S58),y_=(l1_0.set (a2:Int).toNat (⟨((rd_T58 l1_0 a2).f0),((rd_T58 l1_0 a2).f1),x185002_1⟩:S58)):=⟨_,rfl⟩
    replace H:((spec_validGraph.f k1 y192 a1_1).bind fun t193=>(if t193=true then (some (y192,a1_1,x1001_1)) else (some ((y192.set (a2:Int).toNat (⟨(rd_T58 l1_0 a2).f0,(rd_T58 l1_0 a2).f1,([]:List Int)⟩:S58)),a1_1,x1001_1))))=some (r1,r2,r3):=zH_ H hy192
    have Ny192:=As_ hy192
    clear hy192
    replace H:=obS H
    obtain ⟨t193,A930,H⟩:=H
    replace H:(if t193=true then (some (y192,a1_1,x1001_1)) else (some ((y192.set (a2:Int).toNat (⟨(rd_T58 l1_0 a2).f0,(rd_T58 l1_0 a2).f1,([]:List Int)⟩:S58)),a1_1,x1001_1)))=some (r1,r2,r3):=H
    have A93:=As_ A930
    clear A930
    by_cases c94:t193=true
    ·subst c94
     have H1:(some (y192,a1_1,x1001_1))=some (r1,r2,r3):=by rw [if_pos rfl] at H;exact H
     clear H
     have H:=H1
     clear H1
     simp only [Option.some.injEq,Prod.mk.injEq] at H
     obtain ⟨rfl,rfl,rfl⟩:=H
     have hnb95:=NB181_182.out
     have hnc95:=NB182_181.out
     have hnb96:=NB181_184.out
     have hnc96:=NB184_181.out
     have hnb97:=NB181_0.out
     have hnc97:=NB0_181.out
     obtain ⟨hcz98_0,hcz98_1,hfz98_0,hfz98_1⟩:=bk2 BK181.out
     obtain ⟨Au_,cu_,eu_⟩:=Kd.R_slice HO_185002.out
     subst eu_
     have p190:0≤(a2:Int):=odT zA_
     have q190:a2<(l1_0.length:Int):=odT zA_
     obtain ⟨ad190,A190_2,c190_2,e190,hx190_0,hx190_1,hx190_2,hl190_2,hi190_2⟩:=at_T58 (kzN_C (Kd.S_reads' HO_182000.out).2.2) a2 p190 q190
     obtain rfl:ad183=ad190:=(by injection e190)
     obtain ⟨ce190,hce190,hMe190,hcc190⟩:=Kd.S_get HO_182000.out z58 a2 p190 (by first|exact q190|exact odT zA_|(have e_:=(Kd.S_reads' HO_182000.out).1;omega))
     obtain ⟨ve190_2,rfl,ge190_2⟩:=k58_openM hMe190.1
     have hv190_2:=hcc190 2 _ rfl
     rw [add_field _ _ 2 (by omega)] at hv190_2
     replace hv190_2:=Option.some.inj (hv190_2.symm.trans hx190_2)
     rw [hv190_2] at ge190_2
     have HL190_2:=As_ (show Kd.R (Kd.int .i64) 3 _ _ _ _ ((rd_T58 l1_0 a2).f2) from ge190_2)
     have hz190:=kzN_cell HO_182000.out a2 p190 (by first|exact q190|exact odT zA_|(have e_:=(Kd.S_reads' HO_182000.out).1;omega)) hz
     rw [add_field _ _ 2 (by omega)] at hz190
     replace hx190_2:=hz190
     clear hz190 hv190_2 ge190_2 hcc190 hce190
     have HR190_2:=As_ hi190_2
     have HC190_2:=As_ hl190_2
     clear hi190_2 hl190_2
     replace p190:=eq_true p190
     replace q190:=eq_true q190
     go_wp2_with (first|((with_reducible refine gate_dst (N:=10) rfl ?_);refine box_event ?hg (N:=10) ?hd (cs:=#[.int .i64 0,.int .i64 0,.slice none 0 0]) (t:=58) ?hr ?_;(case hd=>rfl);(case hg=>rfl);(case hr=>go_simp <;> rfl);intro gb191 hg w99 hbox hb;have n0_:=As_ (Kd.S_below (Kd.S_elderB (zS_ HO_182000.out) gb191 (Nat.le_of_eq hg.symm)) hb);have n1_:=As_ (Kd.R_below (zR_ HO_185002.out) hb);have n2_:=As_ (Kd.R_below (zR_ HL190_2.out) hb);have n3_:=As_ (zkb BK181.out hb);have n4_:=As_ (zkb BK182.out hb);have n5_:=As_ (zkb BK184.out hb);have n6_:=As_ (IsS74.below (zi74_3 HI0.out NB0_181.out NB0_182.out NB0_184.out) hb);have n7_:=As_ (Kd.C_below (by repeat (first|(with_reducible exact HR190_2.out)|(with_reducible refine Kd.C_alloc ?_ _)|(with_reducible refine Kd.C_drewN ?_ _)|(with_reducible refine Kd.C_drew ?_)|exact HR190_2.out)) hb);have n8_:=As_ (Kept.below (S:=(fun k_=>(P1_0_ k_)∨k_=g)) (zq3 HK.out GW181.out GW182.out GW184.out) hb);have n9_:=As_ (bwT (zb4 HB.out (IsS74.ge HI0.out) GE181.out GE182.out GE184.out) hb);have n10_:=As_ (hbox);have n11_:=As_ ((by rw [hg];exact (by first|exact HK.out.1|exact (show Kept w _ (fun k_=>(P1_0_ k_)∨k_=g) from zq3 HK.out GW181.out GW182.out GW184.out).1):w.heap.size≤gb191));have n12_:=As_ ((by rw [hg];exact (bwZ (zb4 HB.out (IsS74.ge HI0.out) GE181.out GE182.out GE184.out)):w0.heap.size≤gb191));have n13_:=As_ ((by rw [hg];exact Nat.ne_of_lt (zkl BK181.out):gb181≠gb191));have n14_:=As_ ((by rw [hg];exact Nat.ne_of_gt (zkl BK181.out):gb191≠gb181));have n15_:=As_ ((by rw [hg];exact Nat.ne_of_lt (zkl BK182.out):gb182≠gb191));have n16_:=As_ ((by rw [hg];exact Nat.ne_of_gt (zkl BK182.out):gb191≠gb182));have n17_:=As_ ((by rw [hg];exact Nat.ne_of_lt (zkl BK184.out):gb184≠gb191));have n18_:=As_ ((by rw [hg];exact Nat.ne_of_gt (zkl BK184.out):gb191≠gb184));have n19_:=As_ ((by rw [hg];exact Nat.ne_of_lt (IsS74.lt (show IsS74 w0 _ g s0_0 x1001_1 from zi74_3 HI0.out NB0_181.out NB0_182.out NB0_184.out)):g≠gb191));have n20_:=As_ ((by rw [hg];exact Nat.ne_of_gt (IsS74.lt (show IsS74 w0 _ g s0_0 x1001_1 from zi74_3 HI0.out NB0_181.out NB0_182.out NB0_184.out)):gb191≠g));clear HO_182000 HO_185002 HL190_2 BK181 BK182 BK184 HI0 HR190_2 HK HB;revert n0_ n1_ n2_ n3_ n4_ n5_ n6_ n7_ n8_ n9_ n10_ n11_ n12_ n13_ n14_ n15_ n16_ n17_ n18_ n19_ n20_;intro HO_182000 HO_185002 HL190_2 BK181 BK182 BK184 HI0 HR190_2 HK HB BK191 GW191 GE191 NB181_191 NB191_181 NB182_191 NB191_182 NB184_191 NB191_184 NB0_191 NB191_0;clear hb hbox hg;have hnb100:=NB191_181.out;have hnc100:=NB181_191.out;have hnb101:=NB191_182.out;have hnc101:=NB182_191.out;have hnb102:=NB191_184.out;have hnc102:=NB184_191.out;have hnb103:=NB191_0.out;have hnc103:=NB0_191.out;obtain ⟨hcz104_0,hcz104_1,hcz104_2,hfz104_0,hfz104_1,hfz104_2⟩:=bk3 BK191.out)|((with_reducible refine gate_store (t:=58) (p:=10) rfl ?_);refine store_event (t:=58) (p:=10) (v:=?vo_w105) (w1:=(((w99.setCell ⟨gb191,0,none⟩ (.int .i64 ((rd_T58 l1_0 a2).f0))).setCell ⟨gb191,1,none⟩ (.int .i64 ((rd_T58 l1_0 a2).f1))).setCell ⟨gb191,2,none⟩ (.slice none 0 0))) ?hg ?ho ?hn ?hr ?_;(case ho=>rfl);(case hg=>rfl);(case hn=>rfl);(case hr=>go_simp <;> rfl);intro w105 hw;have n0_:Aside0 (Kd.S kzN 58 w105 w0.heap.size (fun k_=>(P1_0_ k_∨w.heap.size≤k_)∧some k_≠((.slice Au_ x185002_1.length cu_):Value).ownBlock∧k_≠gb184∧k_≠gb191) (.slice (some ad183) l1_0.length co7) l1_0):=⟨(by rw [hw];exact (by (with_reducible repeat (first|apply Kd.S_alloc|apply Kd.S_drewN|apply Kd.S_drew));exact Kd.S_mono (Kd.S_far (p:=⟨gb191,2,none⟩) (Kd.S_far (p:=⟨gb191,1,none⟩) (Kd.S_far (p:=⟨gb191,0,none⟩) (Kd.S_mono HO_182000.out (fun k_ hk=>(⟨hk,hk.2⟩:_∧k_≠gb191))) (fun _ hk=>hk.2) (.int .i64 ((rd_T58 l1_0 a2).f0))) (fun _ hk=>hk.2) (.int .i64 ((rd_T58 l1_0 a2).f1))) (fun _ hk=>hk.2) (.slice none 0 0)) (fun _ hk=>⟨hk.1.1.1,⟨hk.1.1.2.1,⟨hk.1.1.2.2,hk.1.2⟩⟩⟩)))⟩;have n1_:Aside0 (Kd.R (Kd.int .i64) 3 w105 w0.heap.size (fun k_=>(P1_0_ k_∨w.heap.size≤k_)) (.slice Au_ x185002_1.length cu_) x185002_1):=⟨(by rw [hw];exact (by (with_reducible repeat (first|apply Kd.R_alloc|apply Kd.R_drewN|apply Kd.R_drew));exact Kd.R_mono (Kd.R_far (p:=⟨gb191,2,none⟩) (Kd.R_far (p:=⟨gb191,1,none⟩) (Kd.R_far (p:=⟨gb191,0,none⟩) (Kd.R_types HO_185002.out BK191.out (by decide)) (fun _ hk=>hk.2) (.int .i64 ((rd_T58 l1_0 a2).f0))) (fun _ hk=>hk.2) (.int .i64 ((rd_T58 l1_0 a2).f1))) (fun _ hk=>hk.2) (.slice none 0 0)) (fun _ hk=>hk.1)))⟩;have n2_:Aside0 (Kd.R (Kd.int .i64) 3 w105 w0.heap.size (fun k_=>(P1_0_ k_∨w.heap.size≤k_)∧some k_≠(.slice (some ad183) l1_0.length co7:Value).ownBlock∧some k_≠((.slice Au_ x185002_1.length cu_):Value).ownBlock∧k_≠gb184) (.slice A190_2 ((rd_T58 l1_0 a2).f2).length c190_2) ((rd_T58 l1_0 a2).f2)):=⟨(by rw [hw];exact (by (with_reducible repeat (first|apply Kd.R_alloc|apply Kd.R_drewN|apply Kd.R_drew));exact Kd.R_mono (Kd.R_far (p:=⟨gb191,2,none⟩) (Kd.R_far (p:=⟨gb191,1,none⟩) (Kd.R_far (p:=⟨gb191,0,none⟩) (Kd.R_types HL190_2.out BK191.out (by decide)) (fun _ hk=>hk.2) (.int .i64 ((rd_T58 l1_0 a2).f0))) (fun _ hk=>hk.2) (.int .i64 ((rd_T58 l1_0 a2).f1))) (fun _ hk=>hk.2) (.slice none 0 0)) (fun _ hk=>⟨hk.1.1.1,⟨hk.1.2,⟨hk.1.1.2.1,hk.1.1.2.2⟩⟩⟩)))⟩;have n3_:Aside0 (w105.heap[gb181]?=some (.cells #[.slice (some ad183) l1_0.length co7,.int .i64 a1_1] 25 (0,0))):=⟨(by rw [hw];exact (by (with_reducible repeat first|apply bkN|apply bkD|apply bkA);refine blk_far ?_ NB181_191.out _;(with_reducible repeat first|apply bkN|apply bkD|apply bkA);refine blk_far ?_ NB181_191.out _;(with_reducible repeat first|apply bkN|apply bkD|apply bkA);refine blk_far ?_ NB181_191.out _;(with_reducible repeat first|apply bkN|apply bkD|apply bkA);exact BK181.out))⟩;have n4_:Aside0 (w105.heap[gb182]?=some (.cells #[.slice none 0 0,.int .i64 0] 25 (0,0))):=⟨(by rw [hw];exact (by (with_reducible repeat first|apply bkN|apply bkD|apply bkA);refine blk_far ?_ NB182_191.out _;(with_reducible repeat first|apply bkN|apply bkD|apply bkA);refine blk_far ?_ NB182_191.out _;(with_reducible repeat first|apply bkN|apply bkD|apply bkA);refine blk_far ?_ NB182_191.out _;(with_reducible repeat first|apply bkN|apply bkD|apply bkA);exact BK182.out))⟩;have n5_:Aside0 (w105.heap[gb184]?=some (.cells #[.int .i64 ((rd_T58 l1_0 a2).f0),.int .i64 ((rd_T58 l1_0 a2).f1),(.slice Au_ x185002_1.length cu_)] 58 (0,0))):=⟨(by rw [hw];exact (by (with_reducible repeat first|apply bkN|apply bkD|apply bkA);refine blk_far ?_ NB184_191.out _;(with_reducible repeat first|apply bkN|apply bkD|apply bkA);refine blk_far ?_ NB184_191.out _;(with_reducible repeat first|apply bkN|apply bkD|apply bkA);refine blk_far ?_ NB184_191.out _;(with_reducible repeat first|apply bkN|apply bkD|apply bkA);exact BK184.out))⟩;have n6_:Aside0 (w105.heap[gb191]?=some (.cells #[.int .i64 ((rd_T58 l1_0 a2).f0),.int .i64 ((rd_T58 l1_0 a2).f1),.slice none 0 0] 58 (0,0))):=⟨(by rw [hw];exact (by (with_reducible repeat first|apply bkN|apply bkD|apply bkA);refine blk_put (cs:=#[.int .i64 ((rd_T58 l1_0 a2).f0),.int .i64 ((rd_T58 l1_0 a2).f1),.slice none 0 0]) ?_ 2 _ rfl;(with_reducible repeat first|apply bkN|apply bkD|apply bkA);refine blk_put (cs:=#[.int .i64 ((rd_T58 l1_0 a2).f0),.int .i64 0,.slice none 0 0]) ?_ 1 _ rfl;(with_reducible repeat first|apply bkN|apply bkD|apply bkA);refine blk_put (cs:=#[.int .i64 0,.int .i64 0,.slice none 0 0]) ?_ 0 _ rfl;(with_reducible repeat first|apply bkN|apply bkD|apply bkA);exact BK191.out))⟩;have n7_:Aside0 (IsS74 w0 w105 g s0_0 x1001_1):=⟨(by rw [hw];exact (zi74_4 HI0.out NB0_181.out NB0_182.out NB0_184.out NB0_191.out))⟩;have n8_:Aside0 (Kept w w105 (fun k_=>(P1_0_ k_)∨k_=g)):=⟨(by rw [hw];exact (zq4 HK.out GW181.out GW182.out GW184.out GW191.out))⟩;have n9_:Aside0 (Below w0.heap.size w0 w105):=⟨(by rw [hw];exact (zb5 HB.out (IsS74.ge HI0.out) GE181.out GE182.out GE184.out GE191.out))⟩;clear hw HO_182000 HO_185002 HL190_2 BK181 BK182 BK184 BK191 HI0 HK HB;revert n0_ n1_ n2_ n3_ n4_ n5_ n6_ n7_ n8_ n9_;intro HO_182000 HO_185002 HL190_2 BK181 BK182 BK184 BK191 HI0 HK HB;obtain ⟨hcz106_0,hcz106_1,hfz106_0,hfz106_1⟩:=bk2 BK181.out;have hnb107:=NB184_182.out;have hnc107:=NB182_184.out;have hnb108:=NB184_0.out;have hnc108:=NB0_184.out;obtain ⟨hcz109_0,hcz109_1,hcz109_2,hfz109_0,hfz109_1,hfz109_2⟩:=bk3 BK184.out;have p92:0≤(a2:Int):=odT zA_;have q92:(a2:Int)<((l1_0.length:Int):Int):=odT zA_;obtain ⟨go92,co92,eo92,gb92,gl92,cl92,HG92⟩:=Kd.S_form HO_182000.out (by omega);(first|cases eo92|(injection eo92 with ea_ en_ ec_;(first|subst ea_|(injection ea_ with ea_;subst ea_));subst ec_;clear en_));have GB92:=As_ gb92;have GG92:=As_ HG92;clear gb92 gl92 HG92;have HMgo92:=As_ (show (P1_0_ go92∨w.heap.size≤go92) from ((Kd.S_R HO_182000.out).1 _ rfl).1);(first|simp only [add_plain] at hx183_0|skip);(first|simp only [add_plain] at hx183_1|skip);(first|simp only [add_plain] at hx183_2|skip);(first|simp only [add_plain] at hx203_0|skip);(first|simp only [add_plain] at hx203_1|skip);(first|simp only [add_plain] at hx203_2|skip);(first|simp only [add_plain] at hx190_0|skip);(first|simp only [add_plain] at hx190_1|skip);(first|simp only [add_plain] at hx190_2|skip);obtain ⟨_,ce92,hcl92,hM92,hcc92,hfr92,_,_⟩:=Kd.S_elem HO_182000.out z58 (a2:Int) p92 q92;obtain ⟨ve92_2,rfl,ge92_2⟩:=k58_openM hM92.1;have hx92_0:w105.cell? ⟨go92,(a2:Int).toNat * 3,none⟩=some (.int .i64 ((rd_T58 l1_0 a2).f0)):=hcc92 0 _ rfl;have hx92_1:w105.cell? ⟨go92,(a2:Int).toNat * 3+1,none⟩=some (.int .i64 ((rd_T58 l1_0 a2).f1)):=hcc92 1 _ rfl;have hx92_2:w105.cell? ⟨go92,(a2:Int).toNat * 3+2,none⟩=some (ve92_2):=hcc92 2 _ rfl;have hf92_0:w105.frozen? ⟨go92,(a2:Int).toNat * 3,none⟩=false:=hfr92 0;have hf92_1:w105.frozen? ⟨go92,(a2:Int).toNat * 3+1,none⟩=false:=hfr92 1;have hf92_2:w105.frozen? ⟨go92,(a2:Int).toNat * 3+2,none⟩=false:=hfr92 2;clear hcl92 hcc92 hfr92 hM92;replace p92:=eq_true p92;replace q92:=eq_true q92;have HX110:=As_ (show Kd.S kzN 58 w105 w0.heap.size (fun k_=>((fun k_=>(P1_0_ k_∨w.heap.size≤k_)∧k_≠gb184∧k_≠gb191)) k_∧¬ ((fun k_=>some k_=((.slice Au_ x185002_1.length cu_):Value).ownBlock)) k_) (.slice (some ⟨go92,0,none⟩) l1_0.length co7) l1_0 from (by (with_reducible repeat (first|apply Kd.S_alloc|apply Kd.S_drewN|apply Kd.S_drew));exact Kd.S_mono HO_182000.out (fun k_ hk=>⟨⟨hk.1,⟨hk.2.2.1,hk.2.2.2⟩⟩,fun e_=>hk.2.1 e_⟩)));obtain ⟨oki110,ce110,hcl110,hM110,hcc110,hfr110,hoki110,hH110⟩:=Kd.S_elem HX110.out z58 (a2:Int) (odT zA_) (by have h_:(a2:Int)<((l1_0.length:Int):Int):=odT zA_;first|exact h_|(have e_:=(Kd.S_reads' HO_182000.out).1;omega)|simpa using h_);obtain ⟨ve110_2,rfl,ge110_2⟩:=k58_openM hM110.1;have HP110:=Kd.S_seg hH110 (odT zA_) (by have h_:(a2:Int)<((l1_0.length:Int):Int):=odT zA_;first|exact h_|(have e_:=(Kd.S_reads' HO_182000.out).1;omega)|simpa using h_) (seg:=[.int .i64 ((rd_T58 l1_0 a2).f0),.int .i64 ((rd_T58 l1_0 a2).f1),(.slice Au_ x185002_1.length cu_)]) (j:=0) (show 3≤3 from by decide) (x':=(⟨((rd_T58 l1_0 a2).f0),((rd_T58 l1_0 a2).f1),x185002_1⟩:S58)) (kzN_mkM _ _ _ (⟨((rd_T58 l1_0 a2).f0),((rd_T58 l1_0 a2).f1),x185002_1⟩:S58) (Kd.R_mono (Kd.R_tight rfl (Kd.R_mono (ok':=fun k_=>((fun k_=>(P1_0_ k_∨w.heap.size≤k_)∧k_≠gb184∧k_≠gb191)) k_∧k_≠go92) (Kd.R_types (Kd.R_types (Kd.R_apart' (HO_185002.out) (Kd.S_typed HO_182000.out) (by decide)) BK184.out (by decide)) BK191.out (by decide)) (fun k_ hk=>⟨⟨hk.1.1.1,⟨hk.1.2,hk.2⟩⟩,fun e_=>(hk.1.1.2) (by rw [e_];rfl)⟩))) (fun _ h_=>Or.inr (h_))) HZn.out) (fun _ hk=>hk) (fun k_ hk_=>((Kd.R_mono (ok':=fun k_=>((fun k_=>(P1_0_ k_∨w.heap.size≤k_)∧k_≠gb184∧k_≠gb191)) k_∧k_≠go92) (Kd.R_types (Kd.R_types (Kd.R_apart' (HO_185002.out) (Kd.S_typed HO_182000.out) (by decide)) BK184.out (by decide)) BK191.out (by decide)) (fun k_ hk=>⟨⟨hk.1.1.1,⟨hk.1.2,hk.2⟩⟩,fun e_=>(hk.1.1.2) (by rw [e_];rfl)⟩))).1 k_ hk_.symm);have hx110_0:=hcc110 0 _ rfl;(try simp only [show (kzN).sz=3 from rfl,Nat.mul_one,Nat.add_zero] at hx110_0);have hf110_0:=hfr110 0;(try simp only [show (kzN).sz=3 from rfl,Nat.mul_one,Nat.add_zero] at hf110_0);have hx110_1:=hcc110 1 _ rfl;(try simp only [show (kzN).sz=3 from rfl,Nat.mul_one,Nat.add_zero] at hx110_1);have hf110_1:=hfr110 1;(try simp only [show (kzN).sz=3 from rfl,Nat.mul_one,Nat.add_zero] at hf110_1);have hx110_2:=hcc110 2 _ rfl;(try simp only [show (kzN).sz=3 from rfl,Nat.mul_one,Nat.add_zero] at hx110_2);have hf110_2:=hfr110 2;(try simp only [show (kzN).sz=3 from rfl,Nat.mul_one,Nat.add_zero] at hf110_2);clear hcl110 hcc110 hfr110 hM110 hoki110 hH110)|((with_reducible refine gate_store (t:=58) (p:=78) rfl ?_);refine store_event (t:=58) (p:=78) (v:=?vo_w111) (w1:=(((w105.setCell ⟨go92,(a2:Int).toNat * 3,none⟩ (.int .i64 ((rd_T58 l1_0 a2).f0))).setCell ⟨go92,(a2:Int).toNat * 3+1,none⟩ (.int .i64 ((rd_T58 l1_0 a2).f1))).setCell ⟨go92,(a2:Int).toNat * 3+2,none⟩ ((.slice Au_ x185002_1.length cu_)))) ?hg ?ho ?hn ?hr ?_;(case ho=>rfl);(case hg=>rfl);(case hn=>rfl);(case hr=>go_simp <;> rfl);intro w111 hw;have hg:w105.grownBy w111 (some go92):=(by rw [hw];exact HP110.2);have hp_:Kd.S kzN 58 w111 w0.heap.size (fun k_=>(P1_0_ k_∨w.heap.size≤k_)∧k_≠gb184∧k_≠gb191) (.slice (some ⟨go92,0,none⟩) l1_0.length co7) y192:=(by rw [hw,Ny192.out];exact HP110.1);clear HP110;have n0_:=As_ (hp_);have n1_:=As_ (blk_grown (g:=gb181) (o:=.cells #[.slice (some ⟨go92,0,none⟩) l1_0.length co7,.int .i64 a1_1] 25 (0,0)) (zk_ BK181.out) hg (Kd.S_ne HO_182000.out BK181.out (by decide)));have n2_:=As_ (blk_grown (g:=gb182) (o:=.cells #[.slice none 0 0,.int .i64 0] 25 (0,0)) (zk_ BK182.out) hg (Kd.S_ne HO_182000.out BK182.out (by decide)));have n3_:=As_ (blk_grown (g:=gb184) (o:=.cells #[.int .i64 ((rd_T58 l1_0 a2).f0),.int .i64 ((rd_T58 l1_0 a2).f1),(.slice Au_ x185002_1.length cu_)] 58 (0,0)) (zk_ BK184.out) hg (Kd.S_away HO_182000.out (fun _ hk=>hk.2.2.1)));have n4_:=As_ (IsS74.grown (zi74_4 HI0.out NB0_181.out NB0_182.out NB0_184.out NB0_191.out) hg (IsS74.own_neS HI0.out HO_182000.out (by decide)));have n5_:=As_ (Kd.R_after (v:=(.slice (some ⟨go92,0,none⟩) l1_0.length co7)) (v1:=(.slice (some ⟨go92,0,none⟩) l1_0.length co7)) (ok:=(fun k_=>(P1_0_ k_∨w.heap.size≤k_)∧some k_≠((.slice Au_ x185002_1.length cu_):Value).ownBlock∧k_≠gb184)) (by (with_reducible repeat (first|apply Kd.R_alloc|apply Kd.R_drewN|apply Kd.R_drew));exact Kd.R_mono HL190_2.out (fun _ hk=>⟨⟨hk.1,⟨hk.2.2.1,hk.2.2.2⟩⟩,hk.2.1⟩)) hg (.inl rfl));have n6_:=As_ (blk_grown (g:=gb191) (o:=.cells #[.int .i64 ((rd_T58 l1_0 a2).f0),.int .i64 ((rd_T58 l1_0 a2).f1),.slice none 0 0] 58 (0,0)) (zk_ BK191.out) hg (Kd.S_away HO_182000.out (fun _ hk=>hk.2.2.2)));have n7_:=As_ ((by rw [hw];exact bwS (bwS (bwS (HB.out) GB92.out) GB92.out) GB92.out:Below w0.heap.size w0 w111));have n8_:=As_ (Kept.of_grown (S:=(fun k_=>(P1_0_ k_)∨k_=g)) hg (zq4 HK.out GW181.out GW182.out GW184.out GW191.out) (fun k_ e_=>Or.imp_left Or.inl (((Kd.S_R HO_182000.out).1 k_ e_).1)));clear HO_182000 BK181 BK182 BK184 HI0 HL190_2 BK191 HB HK HO_185002;revert n0_ n1_ n2_ n3_ n4_ n5_ n6_ n7_ n8_;intro HO_182000 BK181 BK182 BK184 HI0 HL190_2 BK191 HB HK;clear hg hw hp_;obtain ⟨hcz112_0,hcz112_1,hfz112_0,hfz112_1⟩:=bk2 BK181.out)|((with_reducible refine gate_callee (f:=49) rfl ?_);refine goesL_ (some 80) rfl rfl Try.func49 (by kernel_rfl) rfl #[.agg #[.slice (some ⟨go92,0,none⟩) y192.length co7,.int .i64 a1_1]] rfl (by (try simp only [List.map_toArray,List.map_cons,List.map_nil]);first|done|(rw [show y192.length=l1_0.length from (Kd.S_reads' HO_182000.out).1.symm] <;> rfl)|rfl|(simp only [List.length_drop,List.length_take];rfl)) ?_;(with_reducible refine (spec_validGraph.calls k1 _ _ y192 a1_1 true _ ?side1 ?side2 A93.out).mono ?_);(case side1=>repeat (first|exact (kzN_C (Kd.S_reads' HO_182000.out).2.2)|(with_reducible refine Kd.C_alloc ?_ _)|(with_reducible refine Kd.C_drewN ?_ _)|(with_reducible refine Kd.C_drew ?_)));(case side2=>rw [show y192.length=l1_0.length from (Kd.S_reads' HO_182000.out).1.symm];exact (Kd.S_reads' HO_182000.out).2.1);rintro e w113 ⟨rfl,hb⟩;refine ⟨_,rfl,?_⟩;have n0_:=As_ (Kd.S_below (zS_ HO_182000.out) hb);have n1_:=As_ (Kd.R_below (zR_ HL190_2.out) hb);have n2_:=As_ (zkb BK181.out hb);have n3_:=As_ (zkb BK182.out hb);have n4_:=As_ (zkb BK184.out hb);have n5_:=As_ (IsS74.below (zi74_4 HI0.out NB0_181.out NB0_182.out NB0_184.out NB0_191.out) hb);have n6_:=As_ (zkb BK191.out hb);have n7_:=As_ (Kept.below (S:=(fun k_=>(P1_0_ k_)∨k_=g)) (zq4 HK.out GW181.out GW182.out GW184.out GW191.out) hb);have n8_:=As_ (bwT (zb5 HB.out (IsS74.ge HI0.out) GE181.out GE182.out GE184.out GE191.out) hb);clear HO_182000 HL190_2 BK181 BK182 BK184 HI0 BK191 HK HB;revert n0_ n1_ n2_ n3_ n4_ n5_ n6_ n7_ n8_;intro HO_182000 HL190_2 BK181 BK182 BK184 HI0 BK191 HK HB;obtain ⟨hcz114_0,hcz114_1,hfz114_0,hfz114_1⟩:=bk2 BK181.out;have hnb115:=NB182_0.out;have hnc115:=NB0_182.out;obtain ⟨hcz116_0,hcz116_1,hfz116_0,hfz116_1⟩:=bk2 BK182.out))
     refine bodyPost_ret (results_cell_row rfl _ _ gb182 25 #[.slice (some ⟨go92,0,none⟩) l1_0.length co7,.int .i64 a1_1] (0,0) _ rfl (by (with_reducible repeat first|apply bkN|apply bkD|apply bkA);refine blk_put (cs:=#[.slice (some ⟨go92,0,none⟩) l1_0.length co7,.int .i64 0]) ?_ 1 _ rfl;(with_reducible repeat first|apply bkN|apply bkD|apply bkA);refine blk_put (cs:=#[.slice none 0 0,.int .i64 0]) ?_ 0 _ rfl;(with_reducible repeat first|apply bkN|apply bkD|apply bkA);exact BK182.out) Try.underlying25 rfl (by kernel_rfl)) rfl ?_
     exact ⟨_,zE_,by (with_reducible repeat (first|apply Kd.S_alloc|apply Kd.S_drewN|apply Kd.S_drew));exact Kd.S_mono (Kd.S_far (p:=⟨gb182,1,none⟩) (Kd.S_far (p:=⟨gb182,0,none⟩) (Kd.S_types HO_182000.out BK182.out (by decide)) (fun _ hk=>hk.2) (.slice (some ⟨go92,0,none⟩) l1_0.length co7)) (fun _ hk=>hk.2) (.int .i64 a1_1)) (fun _ hk=>hk.1.1),zi74_4 HI0.out NB0_181.out NB0_182.out NB0_184.out NB0_191.out,zb5 HB.out (IsS74.ge HI0.out) GE181.out GE182.out GE184.out GE191.out,zq4 HK.out GW181.out GW182.out GW184.out GW191.out⟩
    replace c94:=Bool.eq_false_iff.mpr c94
    subst c94
    have H1:(some ((y192.set (a2:Int).toNat (⟨(rd_T58 l1_0 a2).f0,(rd_T58 l1_0 a2).f1,([]:List Int)⟩:S58)),a1_1,x1001_1))=some (r1,r2,r3):=by rw [if_neg (show ¬ (false=true) by decide)] at H;exact H
    clear H
    have H:=H1
    clear H1
    obtain ⟨y194,hy194⟩:∃ y_:List (S58),y_=(y192.set (a2:Int).toNat (⟨(rd_T58 l1_0 a2).f0,(rd_T58 l1_0 a2).f1,([]:List Int)⟩:S58)):=⟨_,rfl⟩
    replace H:(some (y194,a1_1,x1001_1))=some (r1,r2,r3):=zH_ H hy194
    have Ny194:=As_ hy194
    clear hy194
    simp only [Option.some.injEq,Prod.mk.injEq] at H
    obtain ⟨rfl,rfl,rfl⟩:=H
    have hnb118:=NB181_182.out
    have hnc118:=NB182_181.out
    have hnb119:=NB181_184.out
    have hnc119:=NB184_181.out
    have hnb120:=NB181_0.out
    have hnc120:=NB0_181.out
    obtain ⟨hcz121_0,hcz121_1,hfz121_0,hfz121_1⟩:=bk2 BK181.out
    obtain ⟨Au_,cu_,eu_⟩:=Kd.R_slice HO_185002.out
    subst eu_
    have p190:0≤(a2:Int):=odT zA_
    have q190:a2<(l1_0.length:Int):=odT zA_
    obtain ⟨ad190,A190_2,c190_2,e190,hx190_0,hx190_1,hx190_2,hl190_2,hi190_2⟩:=at_T58 (kzN_C (Kd.S_reads' HO_182000.out).2.2) a2 p190 q190
    obtain rfl:ad183=ad190:=(by injection e190)
    obtain ⟨ce190,hce190,hMe190,hcc190⟩:=Kd.S_get HO_182000.out z58 a2 p190 (by first|exact q190|exact odT zA_|(have e_:=(Kd.S_reads' HO_182000.out).1;omega))
    obtain ⟨ve190_2,rfl,ge190_2⟩:=k58_openM hMe190.1
    have hv190_2:=hcc190 2 _ rfl
    rw [add_field _ _ 2 (by omega)] at hv190_2
    replace hv190_2:=Option.some.inj (hv190_2.symm.trans hx190_2)
    rw [hv190_2] at ge190_2
    have HL190_2:=As_ (show Kd.R (Kd.int .i64) 3 _ _ _ _ ((rd_T58 l1_0 a2).f2) from ge190_2)
    have hz190:=kzN_cell HO_182000.out a2 p190 (by first|exact q190|exact odT zA_|(have e_:=(Kd.S_reads' HO_182000.out).1;omega)) hz
    rw [add_field _ _ 2 (by omega)] at hz190
    replace hx190_2:=hz190
    clear hz190 hv190_2 ge190_2 hcc190 hce190
    have HR190_2:=As_ hi190_2
    have HC190_2:=As_ hl190_2
    clear hi190_2 hl190_2
    replace p190:=eq_true p190
    replace q190:=eq_true q190
    go_wp2_with (first|((with_reducible refine gate_dst (N:=10) rfl ?_);refine box_event ?hg (N:=10) ?hd (cs:=#[.int .i64 0,.int .i64 0,.slice none 0 0]) (t:=58) ?hr ?_;(case hd=>rfl);(case hg=>rfl);(case hr=>go_simp <;> rfl);intro gb191 hg w122 hbox hb;have n0_:=As_ (Kd.S_below (Kd.S_elderB (zS_ HO_182000.out) gb191 (Nat.le_of_eq hg.symm)) hb);have n1_:=As_ (Kd.R_below (zR_ HO_185002.out) hb);have n2_:=As_ (Kd.R_below (zR_ HL190_2.out) hb);have n3_:=As_ (zkb BK181.out hb);have n4_:=As_ (zkb BK182.out hb);have n5_:=As_ (zkb BK184.out hb);have n6_:=As_ (IsS74.below (zi74_3 HI0.out NB0_181.out NB0_182.out NB0_184.out) hb);have n7_:=As_ (Kd.C_below (by repeat (first|(with_reducible exact HR190_2.out)|(with_reducible refine Kd.C_alloc ?_ _)|(with_reducible refine Kd.C_drewN ?_ _)|(with_reducible refine Kd.C_drew ?_)|exact HR190_2.out)) hb);have n8_:=As_ (Kept.below (S:=(fun k_=>(P1_0_ k_)∨k_=g)) (zq3 HK.out GW181.out GW182.out GW184.out) hb);have n9_:=As_ (bwT (zb4 HB.out (IsS74.ge HI0.out) GE181.out GE182.out GE184.out) hb);have n10_:=As_ (hbox);have n11_:=As_ ((by rw [hg];exact (by first|exact HK.out.1|exact (show Kept w _ (fun k_=>(P1_0_ k_)∨k_=g) from zq3 HK.out GW181.out GW182.out GW184.out).1):w.heap.size≤gb191));have n12_:=As_ ((by rw [hg];exact (bwZ (zb4 HB.out (IsS74.ge HI0.out) GE181.out GE182.out GE184.out)):w0.heap.size≤gb191));have n13_:=As_ ((by rw [hg];exact Nat.ne_of_lt (zkl BK181.out):gb181≠gb191));have n14_:=As_ ((by rw [hg];exact Nat.ne_of_gt (zkl BK181.out):gb191≠gb181));have n15_:=As_ ((by rw [hg];exact Nat.ne_of_lt (zkl BK182.out):gb182≠gb191));have n16_:=As_ ((by rw [hg];exact Nat.ne_of_gt (zkl BK182.out):gb191≠gb182));have n17_:=As_ ((by rw [hg];exact Nat.ne_of_lt (zkl BK184.out):gb184≠gb191));have n18_:=As_ ((by rw [hg];exact Nat.ne_of_gt (zkl BK184.out):gb191≠gb184));have n19_:=As_ ((by rw [hg];exact Nat.ne_of_lt (IsS74.lt (show IsS74 w0 _ g s0_0 x1001_1 from zi74_3 HI0.out NB0_181.out NB0_182.out NB0_184.out)):g≠gb191));have n20_:=As_ ((by rw [hg];exact Nat.ne_of_gt (IsS74.lt (show IsS74 w0 _ g s0_0 x1001_1 from zi74_3 HI0.out NB0_181.out NB0_182.out NB0_184.out)):gb191≠g));clear HO_182000 HO_185002 HL190_2 BK181 BK182 BK184 HI0 HR190_2 HK HB;revert n0_ n1_ n2_ n3_ n4_ n5_ n6_ n7_ n8_ n9_ n10_ n11_ n12_ n13_ n14_ n15_ n16_ n17_ n18_ n19_ n20_;intro HO_182000 HO_185002 HL190_2 BK181 BK182 BK184 HI0 HR190_2 HK HB BK191 GW191 GE191 NB181_191 NB191_181 NB182_191 NB191_182 NB184_191 NB191_184 NB0_191 NB191_0;clear hb hbox hg;have hnb123:=NB191_181.out;have hnc123:=NB181_191.out;have hnb124:=NB191_182.out;have hnc124:=NB182_191.out;have hnb125:=NB191_184.out;have hnc125:=NB184_191.out;have hnb126:=NB191_0.out;have hnc126:=NB0_191.out;obtain ⟨hcz127_0,hcz127_1,hcz127_2,hfz127_0,hfz127_1,hfz127_2⟩:=bk3 BK191.out)|((with_reducible refine gate_store (t:=58) (p:=10) rfl ?_);refine store_event (t:=58) (p:=10) (v:=?vo_w128) (w1:=(((w122.setCell ⟨gb191,0,none⟩ (.int .i64 ((rd_T58 l1_0 a2).f0))).setCell ⟨gb191,1,none⟩ (.int .i64 ((rd_T58 l1_0 a2).f1))).setCell ⟨gb191,2,none⟩ (.slice none 0 0))) ?hg ?ho ?hn ?hr ?_;(case ho=>rfl);(case hg=>rfl);(case hn=>rfl);(case hr=>go_simp <;> rfl);intro w128 hw;have n0_:Aside0 (Kd.S kzN 58 w128 w0.heap.size (fun k_=>(P1_0_ k_∨w.heap.size≤k_)∧some k_≠((.slice Au_ x185002_1.length cu_):Value).ownBlock∧k_≠gb184∧k_≠gb191) (.slice (some ad183) l1_0.length co7) l1_0):=⟨(by rw [hw];exact (by (with_reducible repeat (first|apply Kd.S_alloc|apply Kd.S_drewN|apply Kd.S_drew));exact Kd.S_mono (Kd.S_far (p:=⟨gb191,2,none⟩) (Kd.S_far (p:=⟨gb191,1,none⟩) (Kd.S_far (p:=⟨gb191,0,none⟩) (Kd.S_mono HO_182000.out (fun k_ hk=>(⟨hk,hk.2⟩:_∧k_≠gb191))) (fun _ hk=>hk.2) (.int .i64 ((rd_T58 l1_0 a2).f0))) (fun _ hk=>hk.2) (.int .i64 ((rd_T58 l1_0 a2).f1))) (fun _ hk=>hk.2) (.slice none 0 0)) (fun _ hk=>⟨hk.1.1.1,⟨hk.1.1.2.1,⟨hk.1.1.2.2,hk.1.2⟩⟩⟩)))⟩;have n1_:Aside0 (Kd.R (Kd.int .i64) 3 w128 w0.heap.size (fun k_=>(P1_0_ k_∨w.heap.size≤k_)) (.slice Au_ x185002_1.length cu_) x185002_1):=⟨(by rw [hw];exact (by (with_reducible repeat (first|apply Kd.R_alloc|apply Kd.R_drewN|apply Kd.R_drew));exact Kd.R_mono (Kd.R_far (p:=⟨gb191,2,none⟩) (Kd.R_far (p:=⟨gb191,1,none⟩) (Kd.R_far (p:=⟨gb191,0,none⟩) (Kd.R_types HO_185002.out BK191.out (by decide)) (fun _ hk=>hk.2) (.int .i64 ((rd_T58 l1_0 a2).f0))) (fun _ hk=>hk.2) (.int .i64 ((rd_T58 l1_0 a2).f1))) (fun _ hk=>hk.2) (.slice none 0 0)) (fun _ hk=>hk.1)))⟩;have n2_:Aside0 (Kd.R (Kd.int .i64) 3 w128 w0.heap.size (fun k_=>(P1_0_ k_∨w.heap.size≤k_)∧some k_≠(.slice (some ad183) l1_0.length co7:Value).ownBlock∧some k_≠((.slice Au_ x185002_1.length cu_):Value).ownBlock∧k_≠gb184) (.slice A190_2 ((rd_T58 l1_0 a2).f2).length c190_2) ((rd_T58 l1_0 a2).f2)):=⟨(by rw [hw];exact (by (with_reducible repeat (first|apply Kd.R_alloc|apply Kd.R_drewN|apply Kd.R_drew));exact Kd.R_mono (Kd.R_far (p:=⟨gb191,2,none⟩) (Kd.R_far (p:=⟨gb191,1,none⟩) (Kd.R_far (p:=⟨gb191,0,none⟩) (Kd.R_types HL190_2.out BK191.out (by decide)) (fun _ hk=>hk.2) (.int .i64 ((rd_T58 l1_0 a2).f0))) (fun _ hk=>hk.2) (.int .i64 ((rd_T58 l1_0 a2).f1))) (fun _ hk=>hk.2) (.slice none 0 0)) (fun _ hk=>⟨hk.1.1.1,⟨hk.1.2,⟨hk.1.1.2.1,hk.1.1.2.2⟩⟩⟩)))⟩;have n3_:Aside0 (w128.heap[gb181]?=some (.cells #[.slice (some ad183) l1_0.length co7,.int .i64 a1_1] 25 (0,0))):=⟨(by rw [hw];exact (by (with_reducible repeat first|apply bkN|apply bkD|apply bkA);refine blk_far ?_ NB181_191.out _;(with_reducible repeat first|apply bkN|apply bkD|apply bkA);refine blk_far ?_ NB181_191.out _;(with_reducible repeat first|apply bkN|apply bkD|apply bkA);refine blk_far ?_ NB181_191.out _;(with_reducible repeat first|apply bkN|apply bkD|apply bkA);exact BK181.out))⟩;have n4_:Aside0 (w128.heap[gb182]?=some (.cells #[.slice none 0 0,.int .i64 0] 25 (0,0))):=⟨(by rw [hw];exact (by (with_reducible repeat first|apply bkN|apply bkD|apply bkA);refine blk_far ?_ NB182_191.out _;(with_reducible repeat first|apply bkN|apply bkD|apply bkA);refine blk_far ?_ NB182_191.out _;(with_reducible repeat first|apply bkN|apply bkD|apply bkA);refine blk_far ?_ NB182_191.out _;(with_reducible repeat first|apply bkN|apply bkD|apply bkA);exact BK182.out))⟩;have n5_:Aside0 (w128.heap[gb184]?=some (.cells #[.int .i64 ((rd_T58 l1_0 a2).f0),.int .i64 ((rd_T58 l1_0 a2).f1),(.slice Au_ x185002_1.length cu_)] 58 (0,0))):=⟨(by rw [hw];exact (by (with_reducible repeat first|apply bkN|apply bkD|apply bkA);refine blk_far ?_ NB184_191.out _;(with_reducible repeat first|apply bkN|apply bkD|apply bkA);refine blk_far ?_ NB184_191.out _;(with_reducible repeat first|apply bkN|apply bkD|apply bkA);refine blk_far ?_ NB184_191.out _;(with_reducible repeat first|apply bkN|apply bkD|apply bkA);exact BK184.out))⟩;have n6_:Aside0 (w128.heap[gb191]?=some (.cells #[.int .i64 ((rd_T58 l1_0 a2).f0),.int .i64 ((rd_T58 l1_0 a2).f1),.slice none 0 0] 58 (0,0))):=⟨(by rw [hw];exact (by (with_reducible repeat first|apply bkN|apply bkD|apply bkA);refine blk_put (cs:=#[.int .i64 ((rd_T58 l1_0 a2).f0),.int .i64 ((rd_T58 l1_0 a2).f1),.slice none 0 0]) ?_ 2 _ rfl;(with_reducible repeat first|apply bkN|apply bkD|apply bkA);refine blk_put (cs:=#[.int .i64 ((rd_T58 l1_0 a2).f0),.int .i64 0,.slice none 0 0]) ?_ 1 _ rfl;(with_reducible repeat first|apply bkN|apply bkD|apply bkA);refine blk_put (cs:=#[.int .i64 0,.int .i64 0,.slice none 0 0]) ?_ 0 _ rfl;(with_reducible repeat first|apply bkN|apply bkD|apply bkA);exact BK191.out))⟩;have n7_:Aside0 (IsS74 w0 w128 g s0_0 x1001_1):=⟨(by rw [hw];exact (zi74_4 HI0.out NB0_181.out NB0_182.out NB0_184.out NB0_191.out))⟩;have n8_:Aside0 (Kept w w128 (fun k_=>(P1_0_ k_)∨k_=g)):=⟨(by rw [hw];exact (zq4 HK.out GW181.out GW182.out GW184.out GW191.out))⟩;have n9_:Aside0 (Below w0.heap.size w0 w128):=⟨(by rw [hw];exact (zb5 HB.out (IsS74.ge HI0.out) GE181.out GE182.out GE184.out GE191.out))⟩;clear hw HO_182000 HO_185002 HL190_2 BK181 BK182 BK184 BK191 HI0 HK HB;revert n0_ n1_ n2_ n3_ n4_ n5_ n6_ n7_ n8_ n9_;intro HO_182000 HO_185002 HL190_2 BK181 BK182 BK184 BK191 HI0 HK HB;obtain ⟨hcz129_0,hcz129_1,hfz129_0,hfz129_1⟩:=bk2 BK181.out;have hnb130:=NB184_182.out;have hnc130:=NB182_184.out;have hnb131:=NB184_0.out;have hnc131:=NB0_184.out;obtain ⟨hcz132_0,hcz132_1,hcz132_2,hfz132_0,hfz132_1,hfz132_2⟩:=bk3 BK184.out;have p92:0≤(a2:Int):=odT zA_;have q92:(a2:Int)<((l1_0.length:Int):Int):=odT zA_;obtain ⟨go92,co92,eo92,gb92,gl92,cl92,HG92⟩:=Kd.S_form HO_182000.out (by omega);(first|cases eo92|(injection eo92 with ea_ en_ ec_;(first|subst ea_|(injection ea_ with ea_;subst ea_));subst ec_;clear en_));have GB92:=As_ gb92;have GG92:=As_ HG92;clear gb92 gl92 HG92;have HMgo92:=As_ (show (P1_0_ go92∨w.heap.size≤go92) from ((Kd.S_R HO_182000.out).1 _ rfl).1);(first|simp only [add_plain] at hx190_0|skip);(first|simp only [add_plain] at hx190_1|skip);(first|simp only [add_plain] at hx190_2|skip);obtain ⟨_,ce92,hcl92,hM92,hcc92,hfr92,_,_⟩:=Kd.S_elem HO_182000.out z58 (a2:Int) p92 q92;obtain ⟨ve92_2,rfl,ge92_2⟩:=k58_openM hM92.1;have hx92_0:w128.cell? ⟨go92,(a2:Int).toNat * 3,none⟩=some (.int .i64 ((rd_T58 l1_0 a2).f0)):=hcc92 0 _ rfl;have hx92_1:w128.cell? ⟨go92,(a2:Int).toNat * 3+1,none⟩=some (.int .i64 ((rd_T58 l1_0 a2).f1)):=hcc92 1 _ rfl;have hx92_2:w128.cell? ⟨go92,(a2:Int).toNat * 3+2,none⟩=some (ve92_2):=hcc92 2 _ rfl;have hf92_0:w128.frozen? ⟨go92,(a2:Int).toNat * 3,none⟩=false:=hfr92 0;have hf92_1:w128.frozen? ⟨go92,(a2:Int).toNat * 3+1,none⟩=false:=hfr92 1;have hf92_2:w128.frozen? ⟨go92,(a2:Int).toNat * 3+2,none⟩=false:=hfr92 2;clear hcl92 hcc92 hfr92 hM92;replace p92:=eq_true p92;replace q92:=eq_true q92;have HX133:=As_ (show Kd.S kzN 58 w128 w0.heap.size (fun k_=>((fun k_=>(P1_0_ k_∨w.heap.size≤k_)∧k_≠gb184∧k_≠gb191)) k_∧¬ ((fun k_=>some k_=((.slice Au_ x185002_1.length cu_):Value).ownBlock)) k_) (.slice (some ⟨go92,0,none⟩) l1_0.length co7) l1_0 from (by (with_reducible repeat (first|apply Kd.S_alloc|apply Kd.S_drewN|apply Kd.S_drew));exact Kd.S_mono HO_182000.out (fun k_ hk=>⟨⟨hk.1,⟨hk.2.2.1,hk.2.2.2⟩⟩,fun e_=>hk.2.1 e_⟩)));obtain ⟨oki133,ce133,hcl133,hM133,hcc133,hfr133,hoki133,hH133⟩:=Kd.S_elem HX133.out z58 (a2:Int) (odT zA_) (by have h_:(a2:Int)<((l1_0.length:Int):Int):=odT zA_;first|exact h_|(have e_:=(Kd.S_reads' HO_182000.out).1;omega)|simpa using h_);obtain ⟨ve133_2,rfl,ge133_2⟩:=k58_openM hM133.1;have HP133:=Kd.S_seg hH133 (odT zA_) (by have h_:(a2:Int)<((l1_0.length:Int):Int):=odT zA_;first|exact h_|(have e_:=(Kd.S_reads' HO_182000.out).1;omega)|simpa using h_) (seg:=[.int .i64 ((rd_T58 l1_0 a2).f0),.int .i64 ((rd_T58 l1_0 a2).f1),(.slice Au_ x185002_1.length cu_)]) (j:=0) (show 3≤3 from by decide) (x':=(⟨((rd_T58 l1_0 a2).f0),((rd_T58 l1_0 a2).f1),x185002_1⟩:S58)) (kzN_mkM _ _ _ (⟨((rd_T58 l1_0 a2).f0),((rd_T58 l1_0 a2).f1),x185002_1⟩:S58) (Kd.R_mono (Kd.R_tight rfl (Kd.R_mono (ok':=fun k_=>((fun k_=>(P1_0_ k_∨w.heap.size≤k_)∧k_≠gb184∧k_≠gb191)) k_∧k_≠go92) (Kd.R_types (Kd.R_types (Kd.R_apart' (HO_185002.out) (Kd.S_typed HO_182000.out) (by decide)) BK184.out (by decide)) BK191.out (by decide)) (fun k_ hk=>⟨⟨hk.1.1.1,⟨hk.1.2,hk.2⟩⟩,fun e_=>(hk.1.1.2) (by rw [e_];rfl)⟩))) (fun _ h_=>Or.inr (h_))) HZn.out) (fun _ hk=>hk) (fun k_ hk_=>((Kd.R_mono (ok':=fun k_=>((fun k_=>(P1_0_ k_∨w.heap.size≤k_)∧k_≠gb184∧k_≠gb191)) k_∧k_≠go92) (Kd.R_types (Kd.R_types (Kd.R_apart' (HO_185002.out) (Kd.S_typed HO_182000.out) (by decide)) BK184.out (by decide)) BK191.out (by decide)) (fun k_ hk=>⟨⟨hk.1.1.1,⟨hk.1.2,hk.2⟩⟩,fun e_=>(hk.1.1.2) (by rw [e_];rfl)⟩))).1 k_ hk_.symm);have hx133_0:=hcc133 0 _ rfl;(try simp only [show (kzN).sz=3 from rfl,Nat.mul_one,Nat.add_zero] at hx133_0);have hf133_0:=hfr133 0;(try simp only [show (kzN).sz=3 from rfl,Nat.mul_one,Nat.add_zero] at hf133_0);have hx133_1:=hcc133 1 _ rfl;(try simp only [show (kzN).sz=3 from rfl,Nat.mul_one,Nat.add_zero] at hx133_1);have hf133_1:=hfr133 1;(try simp only [show (kzN).sz=3 from rfl,Nat.mul_one,Nat.add_zero] at hf133_1);have hx133_2:=hcc133 2 _ rfl;(try simp only [show (kzN).sz=3 from rfl,Nat.mul_one,Nat.add_zero] at hx133_2);have hf133_2:=hfr133 2;(try simp only [show (kzN).sz=3 from rfl,Nat.mul_one,Nat.add_zero] at hf133_2);clear hcl133 hcc133 hfr133 hM133 hoki133 hH133)|((with_reducible refine gate_store (t:=58) (p:=78) rfl ?_);refine store_event (t:=58) (p:=78) (v:=?vo_w134) (w1:=(((w128.setCell ⟨go92,(a2:Int).toNat * 3,none⟩ (.int .i64 ((rd_T58 l1_0 a2).f0))).setCell ⟨go92,(a2:Int).toNat * 3+1,none⟩ (.int .i64 ((rd_T58 l1_0 a2).f1))).setCell ⟨go92,(a2:Int).toNat * 3+2,none⟩ ((.slice Au_ x185002_1.length cu_)))) ?hg ?ho ?hn ?hr ?_;(case ho=>rfl);(case hg=>rfl);(case hn=>rfl);(case hr=>go_simp <;> rfl);intro w134 hw;have hg:w128.grownBy w134 (some go92):=(by rw [hw];exact HP133.2);have hp_:Kd.S kzN 58 w134 w0.heap.size (fun k_=>(P1_0_ k_∨w.heap.size≤k_)∧k_≠gb184∧k_≠gb191) (.slice (some ⟨go92,0,none⟩) l1_0.length co7) y192:=(by rw [hw,Ny192.out];exact HP133.1);clear HP133;have n0_:=As_ (hp_);have n1_:=As_ (blk_grown (g:=gb181) (o:=.cells #[.slice (some ⟨go92,0,none⟩) l1_0.length co7,.int .i64 a1_1] 25 (0,0)) (zk_ BK181.out) hg (Kd.S_ne HO_182000.out BK181.out (by decide)));have n2_:=As_ (blk_grown (g:=gb182) (o:=.cells #[.slice none 0 0,.int .i64 0] 25 (0,0)) (zk_ BK182.out) hg (Kd.S_ne HO_182000.out BK182.out (by decide)));have n3_:=As_ (blk_grown (g:=gb184) (o:=.cells #[.int .i64 ((rd_T58 l1_0 a2).f0),.int .i64 ((rd_T58 l1_0 a2).f1),(.slice Au_ x185002_1.length cu_)] 58 (0,0)) (zk_ BK184.out) hg (Kd.S_away HO_182000.out (fun _ hk=>hk.2.2.1)));have n4_:=As_ (IsS74.grown (zi74_4 HI0.out NB0_181.out NB0_182.out NB0_184.out NB0_191.out) hg (IsS74.own_neS HI0.out HO_182000.out (by decide)));have n5_:=As_ (Kd.R_after (v:=(.slice (some ⟨go92,0,none⟩) l1_0.length co7)) (v1:=(.slice (some ⟨go92,0,none⟩) l1_0.length co7)) (ok:=(fun k_=>(P1_0_ k_∨w.heap.size≤k_)∧some k_≠((.slice Au_ x185002_1.length cu_):Value).ownBlock∧k_≠gb184)) (by (with_reducible repeat (first|apply Kd.R_alloc|apply Kd.R_drewN|apply Kd.R_drew));exact Kd.R_mono HL190_2.out (fun _ hk=>⟨⟨hk.1,⟨hk.2.2.1,hk.2.2.2⟩⟩,hk.2.1⟩)) hg (.inl rfl));have n6_:=As_ (blk_grown (g:=gb191) (o:=.cells #[.int .i64 ((rd_T58 l1_0 a2).f0),.int .i64 ((rd_T58 l1_0 a2).f1),.slice none 0 0] 58 (0,0)) (zk_ BK191.out) hg (Kd.S_away HO_182000.out (fun _ hk=>hk.2.2.2)));have n7_:=As_ ((by rw [hw];exact bwS (bwS (bwS (HB.out) GB92.out) GB92.out) GB92.out:Below w0.heap.size w0 w134));have n8_:=As_ (Kept.of_grown (S:=(fun k_=>(P1_0_ k_)∨k_=g)) hg (zq4 HK.out GW181.out GW182.out GW184.out GW191.out) (fun k_ e_=>Or.imp_left Or.inl (((Kd.S_R HO_182000.out).1 k_ e_).1)));clear HO_182000 BK181 BK182 BK184 HI0 HL190_2 BK191 HB HK HO_185002;revert n0_ n1_ n2_ n3_ n4_ n5_ n6_ n7_ n8_;intro HO_182000 BK181 BK182 BK184 HI0 HL190_2 BK191 HB HK;clear hg hw hp_;obtain ⟨hcz135_0,hcz135_1,hfz135_0,hfz135_1⟩:=bk2 BK181.out)|((with_reducible refine gate_callee (f:=49) rfl ?_);refine goesL_ (some 80) rfl rfl Try.func49 (by kernel_rfl) rfl #[.agg #[.slice (some ⟨go92,0,none⟩) y192.length co7,.int .i64 a1_1]] rfl (by (try simp only [List.map_toArray,List.map_cons,List.map_nil]);first|done|(rw [show y192.length=l1_0.length from (Kd.S_reads' HO_182000.out).1.symm] <;> rfl)|rfl|(simp only [List.length_drop,List.length_take];rfl)) ?_;(with_reducible refine (spec_validGraph.calls k1 _ _ y192 a1_1 false _ ?side1 ?side2 A93.out).mono ?_);(case side1=>repeat (first|exact (kzN_C (Kd.S_reads' HO_182000.out).2.2)|(with_reducible refine Kd.C_alloc ?_ _)|(with_reducible refine Kd.C_drewN ?_ _)|(with_reducible refine Kd.C_drew ?_)));(case side2=>rw [show y192.length=l1_0.length from (Kd.S_reads' HO_182000.out).1.symm];exact (Kd.S_reads' HO_182000.out).2.1);rintro e w136 ⟨rfl,hb⟩;refine ⟨_,rfl,?_⟩;have n0_:=As_ (Kd.S_below (zS_ HO_182000.out) hb);have n1_:=As_ (Kd.R_below (zR_ HL190_2.out) hb);have n2_:=As_ (zkb BK181.out hb);have n3_:=As_ (zkb BK182.out hb);have n4_:=As_ (zkb BK184.out hb);have n5_:=As_ (IsS74.below (zi74_4 HI0.out NB0_181.out NB0_182.out NB0_184.out NB0_191.out) hb);have n6_:=As_ (zkb BK191.out hb);have n7_:=As_ (Kept.below (S:=(fun k_=>(P1_0_ k_)∨k_=g)) (zq4 HK.out GW181.out GW182.out GW184.out GW191.out) hb);have n8_:=As_ (bwT (zb5 HB.out (IsS74.ge HI0.out) GE181.out GE182.out GE184.out GE191.out) hb);clear HO_182000 HL190_2 BK181 BK182 BK184 HI0 BK191 HK HB;revert n0_ n1_ n2_ n3_ n4_ n5_ n6_ n7_ n8_;intro HO_182000 HL190_2 BK181 BK182 BK184 HI0 BK191 HK HB;obtain ⟨hcz137_0,hcz137_1,hfz137_0,hfz137_1⟩:=bk2 BK181.out;obtain ⟨hcz138_0,hcz138_1,hcz138_2,hfz138_0,hfz138_1,hfz138_2⟩:=bk3 BK191.out;have p117:0≤(a2:Int):=odT zA_;have q117:(a2:Int)<((l1_0.length:Int):Int):=odT zA_;obtain ⟨_,ce117,hcl117,hM117,hcc117,hfr117,_,_⟩:=Kd.S_elem HO_182000.out z58 (a2:Int) p117 q117;obtain ⟨ve117_2,rfl,ge117_2⟩:=k58_openM hM117.1;have hx117_0:w136.cell? ⟨go92,(a2:Int).toNat * 3,none⟩=some (.int .i64 ((rd_T58 y192 a2).f0)):=hcc117 0 _ rfl;have hx117_1:w136.cell? ⟨go92,(a2:Int).toNat * 3+1,none⟩=some (.int .i64 ((rd_T58 y192 a2).f1)):=hcc117 1 _ rfl;have hx117_2:w136.cell? ⟨go92,(a2:Int).toNat * 3+2,none⟩=some (ve117_2):=hcc117 2 _ rfl;have hf117_0:w136.frozen? ⟨go92,(a2:Int).toNat * 3,none⟩=false:=hfr117 0;have hf117_1:w136.frozen? ⟨go92,(a2:Int).toNat * 3+1,none⟩=false:=hfr117 1;have hf117_2:w136.frozen? ⟨go92,(a2:Int).toNat * 3+2,none⟩=false:=hfr117 2;clear hcl117 hcc117 hfr117 hM117;replace p117:=eq_true p117;replace q117:=eq_true q117;have HX139:=As_ (show Kd.S kzN 58 w136 w0.heap.size (fun k_=>((fun k_=>(P1_0_ k_∨w.heap.size≤k_)∧k_≠gb184∧k_≠gb191)) k_∧¬ ((fun _=>False)) k_) (.slice (some ⟨go92,0,none⟩) l1_0.length co7) y192 from (by (with_reducible repeat (first|apply Kd.S_alloc|apply Kd.S_drewN|apply Kd.S_drew));exact Kd.S_mono HO_182000.out (fun k_ hk=>⟨⟨hk.1,⟨hk.2.1,hk.2.2⟩⟩,fun e_=>e_⟩)));obtain ⟨oki139,ce139,hcl139,hM139,hcc139,hfr139,hoki139,hH139⟩:=Kd.S_elem HX139.out z58 (a2:Int) (odT zA_) (by have h_:(a2:Int)<((l1_0.length:Int):Int):=odT zA_;first|exact h_|(have e_:=(Kd.S_reads' HO_182000.out).1;omega)|simpa using h_);obtain ⟨ve139_2,rfl,ge139_2⟩:=k58_openM hM139.1;have HP139:=Kd.S_seg hH139 (odT zA_) (by have h_:(a2:Int)<((l1_0.length:Int):Int):=odT zA_;first|exact h_|(have e_:=(Kd.S_reads' HO_182000.out).1;omega)|simpa using h_) (seg:=[.int .i64 ((rd_T58 l1_0 a2).f0),.int .i64 ((rd_T58 l1_0 a2).f1),.slice none 0 0]) (j:=0) (show 3≤3 from by decide) (x':=(⟨(rd_T58 l1_0 a2).f0,(rd_T58 l1_0 a2).f1,([]:List Int)⟩:S58)) (kzN_mkM _ _ _ (⟨(rd_T58 l1_0 a2).f0,(rd_T58 l1_0 a2).f1,([]:List Int)⟩:S58) (Kd.R_nil _ _ _ _ _) (fun _=>rfl)) (fun _ hk=>hk) (fun k_ hk_=>hk_.elim);have hx139_0:=hcc139 0 _ rfl;(try simp only [show (kzN).sz=3 from rfl,Nat.mul_one,Nat.add_zero] at hx139_0);have hf139_0:=hfr139 0;(try simp only [show (kzN).sz=3 from rfl,Nat.mul_one,Nat.add_zero] at hf139_0);have hx139_1:=hcc139 1 _ rfl;(try simp only [show (kzN).sz=3 from rfl,Nat.mul_one,Nat.add_zero] at hx139_1);have hf139_1:=hfr139 1;(try simp only [show (kzN).sz=3 from rfl,Nat.mul_one,Nat.add_zero] at hf139_1);have hx139_2:=hcc139 2 _ rfl;(try simp only [show (kzN).sz=3 from rfl,Nat.mul_one,Nat.add_zero] at hx139_2);have hf139_2:=hfr139 2;(try simp only [show (kzN).sz=3 from rfl,Nat.mul_one,Nat.add_zero] at hf139_2);clear hcl139 hcc139 hfr139 hM139 hoki139 hH139)|((with_reducible refine gate_store (t:=58) (p:=86) rfl ?_);refine store_event (t:=58) (p:=86) (v:=?vo_w140) (w1:=(((w136.setCell ⟨go92,(a2:Int).toNat * 3,none⟩ (.int .i64 ((rd_T58 l1_0 a2).f0))).setCell ⟨go92,(a2:Int).toNat * 3+1,none⟩ (.int .i64 ((rd_T58 l1_0 a2).f1))).setCell ⟨go92,(a2:Int).toNat * 3+2,none⟩ (.slice none 0 0))) ?hg ?ho ?hn ?hr ?_;(case ho=>rfl);(case hg=>rfl);(case hn=>rfl);(case hr=>go_simp <;> rfl);intro w140 hw;have hg:w136.grownBy w140 (some go92):=(by rw [hw];exact HP139.2);have hp_:Kd.S kzN 58 w140 w0.heap.size (fun k_=>(P1_0_ k_∨w.heap.size≤k_)∧k_≠gb184∧k_≠gb191) (.slice (some ⟨go92,0,none⟩) l1_0.length co7) y194:=(by rw [hw,Ny194.out];exact HP139.1);clear HP139;have n0_:=As_ (hp_);have n1_:=As_ (blk_grown (g:=gb181) (o:=.cells #[.slice (some ⟨go92,0,none⟩) l1_0.length co7,.int .i64 a1_1] 25 (0,0)) (zk_ BK181.out) hg (Kd.S_ne HO_182000.out BK181.out (by decide)));have n2_:=As_ (blk_grown (g:=gb182) (o:=.cells #[.slice none 0 0,.int .i64 0] 25 (0,0)) (zk_ BK182.out) hg (Kd.S_ne HO_182000.out BK182.out (by decide)));have n3_:=As_ (blk_grown (g:=gb184) (o:=.cells #[.int .i64 ((rd_T58 l1_0 a2).f0),.int .i64 ((rd_T58 l1_0 a2).f1),(.slice Au_ x185002_1.length cu_)] 58 (0,0)) (zk_ BK184.out) hg (Kd.S_away HO_182000.out (fun _ hk=>hk.2.1)));have n4_:=As_ (IsS74.grown (zi74_4 HI0.out NB0_181.out NB0_182.out NB0_184.out NB0_191.out) hg (IsS74.own_neS HI0.out HO_182000.out (by decide)));have n5_:=As_ (Kd.R_after (v:=(.slice (some ⟨go92,0,none⟩) l1_0.length co7)) (v1:=(.slice (some ⟨go92,0,none⟩) l1_0.length co7)) (ok:=(fun k_=>(P1_0_ k_∨w.heap.size≤k_)∧k_≠gb184)) (by (with_reducible repeat (first|apply Kd.R_alloc|apply Kd.R_drewN|apply Kd.R_drew));exact Kd.R_mono HL190_2.out (fun _ hk=>⟨⟨hk.1.1,hk.1.2.2⟩,hk.2⟩)) hg (.inl rfl));have n6_:=As_ (blk_grown (g:=gb191) (o:=.cells #[.int .i64 ((rd_T58 l1_0 a2).f0),.int .i64 ((rd_T58 l1_0 a2).f1),.slice none 0 0] 58 (0,0)) (zk_ BK191.out) hg (Kd.S_away HO_182000.out (fun _ hk=>hk.2.2)));have n7_:=As_ ((by rw [hw];exact bwS (bwS (bwS (HB.out) GB92.out) GB92.out) GB92.out:Below w0.heap.size w0 w140));have n8_:=As_ (Kept.of_grown (S:=(fun k_=>(P1_0_ k_)∨k_=g)) hg (zq4 HK.out GW181.out GW182.out GW184.out GW191.out) (fun k_ e_=>Or.imp_left Or.inl (((Kd.S_R HO_182000.out).1 k_ e_).1)));clear HO_182000 BK181 BK182 BK184 HI0 HL190_2 BK191 HB HK;revert n0_ n1_ n2_ n3_ n4_ n5_ n6_ n7_ n8_;intro HO_182000 BK181 BK182 BK184 HI0 HL190_2 BK191 HB HK;clear hg hw hp_;obtain ⟨hcz141_0,hcz141_1,hfz141_0,hfz141_1⟩:=bk2 BK181.out;have hnb142:=NB182_0.out;have hnc142:=NB0_182.out;obtain ⟨hcz143_0,hcz143_1,hfz143_0,hfz143_1⟩:=bk2 BK182.out))
    refine bodyPost_ret (results_cell_row rfl _ _ gb182 25 #[.slice (some ⟨go92,0,none⟩) l1_0.length co7,.int .i64 a1_1] (0,0) _ rfl (by (with_reducible repeat first|apply bkN|apply bkD|apply bkA);refine blk_put (cs:=#[.slice (some ⟨go92,0,none⟩) l1_0.length co7,.int .i64 0]) ?_ 1 _ rfl;(with_reducible repeat first|apply bkN|apply bkD|apply bkA);refine blk_put (cs:=#[.slice none 0 0,.int .i64 0]) ?_ 0 _ rfl;(with_reducible repeat first|apply bkN|apply bkD|apply bkA);exact BK182.out) Try.underlying25 rfl (by kernel_rfl)) rfl ?_
    exact ⟨_,zE_,by (with_reducible repeat (first|apply Kd.S_alloc|apply Kd.S_drewN|apply Kd.S_drew));exact Kd.S_mono (Kd.S_far (p:=⟨gb182,1,none⟩) (Kd.S_far (p:=⟨gb182,0,none⟩) (Kd.S_types HO_182000.out BK182.out (by decide)) (fun _ hk=>hk.2) (.slice (some ⟨go92,0,none⟩) l1_0.length co7)) (fun _ hk=>hk.2) (.int .i64 a1_1)) (fun _ hk=>hk.1.1),zi74_4 HI0.out NB0_181.out NB0_182.out NB0_184.out NB0_191.out,zb5 HB.out (IsS74.ge HI0.out) GE181.out GE182.out GE184.out GE191.out,zq4 HK.out GW181.out GW182.out GW184.out GW191.out⟩
   rw [if_pos c22] at H
   have c22b0:decide (0<x8_1)=true:=deT c22
   clear c22
   replace H:=obS H
   obtain ⟨⟨t195,t196⟩,A230,H⟩:=H
   replace H:(if ((rd_T58 l1_0 a2).f0)=2 then (spec_addKids.j1 k1 a2 x8_1 t195 ((rd_T58 l1_0 a2).f0) (((rd_T58 l1_0 a2).f0) == 2) s0_0 t196 l1_0 a1_1 ((rd_T58 l1_0 a2).f0) ((rd_T58 l1_0 a2).f1) x185002_1) else (spec_addKids.j1 k1 a2 x8_1 t195 ((rd_T58 l1_0 a2).f0) (((rd_T58 l1_0 a2).f0) == 3) s0_0 t196 l1_0 a1_1 ((rd_T58 l1_0 a2).f0) ((rd_T58 l1_0 a2).f1) x185002_1))=some (r1,r2,r3):=H
   have A23:=As_ A230
   clear A230
   have HC24:=As_ H
   clear H
   have hnb25:=NB181_182.out
   have hnc25:=NB182_181.out
   have hnb26:=NB181_184.out
   have hnc26:=NB184_181.out
   have hnb27:=NB181_0.out
   have hnc27:=NB0_181.out
   obtain ⟨hcz28_0,hcz28_1,hfz28_0,hfz28_1⟩:=bk2 BK181.out
   go_upto_if 30 with (first|((with_reducible refine gate_callee (f:=65) rfl ?_);refine goesL_ (some 27) rfl rfl Try.func65 (by kernel_rfl) rfl #[.pointer (some ⟨g,0,none⟩),.int .i64 (l1_0.length:Int)] rfl zM_ ?_;(with_reducible refine (spec_reader_pick.calls k1 g s0_0 x1001_1 (l1_0.length:Int) t195 t196 w0 _ ?side1 ?side2 A23.out).mono ?_);(case side1=>exact zi74_3 HI0.out NB0_181.out NB0_182.out NB0_184.out);(case side2=>exact zb4 HB.out (IsS74.ge HI0.out) GE181.out GE182.out GE184.out);rintro e w29 ⟨rfl,hi,hb,hk⟩;refine ⟨_,rfl,?_⟩;have n0_:=As_ (Kd.S_mono (Kd.S_keep (IsS74.apartS (show IsS74 w0 _ g s0_0 x1001_1 from zi74_3 HI0.out NB0_181.out NB0_182.out NB0_184.out) (zS_ HO_182000.out) (by decide)) hk (fun _ h=>h.2)) (fun _ h=>h.1));have n1_:=As_ (Kd.R_mono (Kd.R_keep (IsS74.apart (show IsS74 w0 _ g s0_0 x1001_1 from zi74_3 HI0.out NB0_181.out NB0_182.out NB0_184.out) (zR_ HO_185002.out) (by decide)) hk (fun _ h=>h.2)) (fun _ h=>h.1));have n2_:=As_ (KeepBut.blk hk (g':=gb181) (o:=.cells #[.slice (some ad183) l1_0.length co7,.int .i64 a1_1] 25 (0,0)) (zk_ BK181.out) NB181_0.out (by simp));have n3_:=As_ (KeepBut.blk hk (g':=gb182) (o:=.cells #[.slice none 0 0,.int .i64 0] 25 (0,0)) (zk_ BK182.out) NB182_0.out (by simp));have n4_:=As_ (KeepBut.blk hk (g':=gb184) (o:=.cells #[.int .i64 ((rd_T58 l1_0 a2).f0),.int .i64 ((rd_T58 l1_0 a2).f1),u185002] 58 (0,0)) (zk_ BK184.out) NB184_0.out (by simp));have n5_:=As_ (Kept.of_keep (S:=(fun k_=>(P1_0_ k_)∨k_=g)) (zq3 HK.out GW181.out GW182.out GW184.out) hk (.inl (.inr rfl)));have n6_:=As_ (hb);have n7_:=As_ (hi);clear HO_182000 HO_185002 BK181 BK182 BK184 HK HB HI0;revert n0_ n1_ n2_ n3_ n4_ n5_ n6_ n7_;intro HO_182000 HO_185002 BK181 BK182 BK184 HK HB HI0;have hnb30:=NB184_182.out;have hnc30:=NB182_184.out;have hnb31:=NB184_0.out;have hnc31:=NB0_184.out;obtain ⟨hcz32_0,hcz32_1,hcz32_2,hfz32_0,hfz32_1,hfz32_2⟩:=bk3 BK184.out))
   (try simp only [Act.put,List.setIfInBounds_toArray,List.set_cons_zero,List.set_cons_succ])
   go_cut [30] (fun v30 wc=>∃ (kq:Nat) (x30_23:Bool),v30=.bool x30_23∧Aside0 (spec_addKids.j1 kq a2 x8_1 t195 ((rd_T58 l1_0 a2).f0) x30_23 s0_0 t196 l1_0 a1_1 ((rd_T58 l1_0 a2).f0) ((rd_T58 l1_0 a2).f1) x185002_1=some (r1,r2,r3))∧Aside0 (kq≤k1)∧Aside0 (Kd.S kzN 58 wc w0.heap.size (fun k_=>(P1_0_ k_∨w.heap.size≤k_)∧some k_≠(u185002:Value).ownBlock∧k_≠gb184) (.slice (some ad183) l1_0.length co7) l1_0)∧Aside0 (Kd.R (Kd.int .i64) 3 wc w0.heap.size (fun k_=>(P1_0_ k_∨w.heap.size≤k_)) u185002 x185002_1)∧Aside0 (wc.heap[gb181]?=some (.cells #[(.slice (some ad183) l1_0.length co7),.int .i64 a1_1] 25 (0,0)))∧Aside0 (wc.heap[gb182]?=some (.cells #[(.slice none 0 0),.int .i64 0] 25 (0,0)))∧Aside0 (wc.heap[gb184]?=some (.cells #[.int .i64 ((rd_T58 l1_0 a2).f0),.int .i64 ((rd_T58 l1_0 a2).f1),u185002] 58 (0,0)))∧Aside0 (IsS74 w0 wc g s0_0 t196)∧Aside0 (Kept w wc (fun k_=>(P1_0_ k_)∨k_=g))∧Aside0 (Below w0.heap.size w0 wc))
   case first=>
    have H:=HC24.out
    clear HC24
    by_cases c33:((rd_T58 l1_0 a2).f0)=2
    rotate_left
    ·rw [if_neg c33] at H
     have c33b0:(((rd_T58 l1_0 a2).f0) == 2)=false:=beq_eq_false_iff_ne.mpr c33
     have c33b1:(((rd_T58 l1_0 a2).f0) != 2)=true:=bne_iff_ne.mpr c33
     (first|rw [c33b0]|(simp only [i64_w,i32_w];rw [c33b0])|skip)
     have H':=As_ H
     clear H
     go_wp2
     go_meet
     case rel=>exact ⟨_,((((rd_T58 l1_0 a2).f0) == 3)),zT_,H',⟨by have:=HK1.out;first|omega|exact Nat.le_refl _⟩,⟨by (with_reducible repeat (first|apply Kd.S_alloc|apply Kd.S_drewN|apply Kd.S_drew));exact HO_182000.out⟩,⟨by (with_reducible repeat (first|apply Kd.R_alloc|apply Kd.R_drewN|apply Kd.R_drew));exact HO_185002.out⟩,⟨by (with_reducible repeat first|apply bkN|apply bkD|apply bkA);exact BK181.out⟩,⟨by (with_reducible repeat first|apply bkN|apply bkD|apply bkA);exact BK182.out⟩,⟨by (with_reducible repeat first|apply bkN|apply bkD|apply bkA);exact BK184.out⟩,⟨zi74_3 HI0.out NB0_181.out NB0_182.out NB0_184.out⟩,⟨zq3 HK.out GW181.out GW182.out GW184.out⟩,⟨zb4 HB.out (IsS74.ge HI0.out) GE181.out GE182.out GE184.out⟩⟩
    rw [if_pos c33] at H
    have c33b0:(((rd_T58 l1_0 a2).f0) == 2)=true:=beq_iff_eq.mpr c33
    have c33b1:(((rd_T58 l1_0 a2).f0) != 2)=false:=bne_eq_false_iff_eq.mpr c33
    clear c33
    (first|rw [c33b0]|(simp only [i64_w,i32_w];rw [c33b0])|skip)
    have H':=As_ H
    clear H
    go_wp2
    go_meet
    case rel=>exact ⟨_,((((rd_T58 l1_0 a2).f0) == 2)),zT_,H',⟨by have:=HK1.out;first|omega|exact Nat.le_refl _⟩,⟨by (with_reducible repeat (first|apply Kd.S_alloc|apply Kd.S_drewN|apply Kd.S_drew));exact HO_182000.out⟩,⟨by (with_reducible repeat (first|apply Kd.R_alloc|apply Kd.R_drewN|apply Kd.R_drew));exact HO_185002.out⟩,⟨by (with_reducible repeat first|apply bkN|apply bkD|apply bkA);exact BK181.out⟩,⟨by (with_reducible repeat first|apply bkN|apply bkD|apply bkA);exact BK182.out⟩,⟨by (with_reducible repeat first|apply bkN|apply bkD|apply bkA);exact BK184.out⟩,⟨zi74_3 HI0.out NB0_181.out NB0_182.out NB0_184.out⟩,⟨zq3 HK.out GW181.out GW182.out GW184.out⟩,⟨zb4 HB.out (IsS74.ge HI0.out) GE181.out GE182.out GE184.out⟩⟩
   case rest=>
    clear HC24
    obtain ⟨kq,x30_23,rfl,HA,HJ23,HO_182000,HO_185002,BK181,BK182,BK184,HI0,HK,HB⟩:=hcut
    cases kq with
    | zero=>exact absurd HA.out (fun h_=>(by cases h_))
    | succ kj23=>
     have H:=HA.out
     clear HA
     simp only [spec_addKids.j1] at H
     by_cases c34:x30_23=true
     ·subst c34
      have H1:(if x185002_1.length<17592186044416 then (spec_addKids.l0 kj23 a2 (wrap64 (x8_1 - 1)) s0_0 t196 l1_0 a1_1 ((rd_T58 l1_0 a2).f0) ((rd_T58 l1_0 a2).f1) (x185002_1++[t195])) else (none))=some (r1,r2,r3):=by rw [if_pos rfl] at H;exact H
      clear H
      have H:=H1
      clear H1
      by_cases c35:x185002_1.length<17592186044416
      rotate_left
      ·rw [if_neg c35] at H
       exact absurd H (by simp)
      rw [if_pos c35] at H
      have LMc35:=As_ c35
      clear c35
      obtain ⟨y197,hy197⟩:∃ y_:List Int,y_=(x185002_1++[t195]):=⟨_,rfl⟩
      replace H:(spec_addKids.l0 kj23 a2 (wrap64 (x8_1 - 1)) s0_0 t196 l1_0 a1_1 ((rd_T58 l1_0 a2).f0) ((rd_T58 l1_0 a2).f1) y197)=some (r1,r2,r3):=zH_ H hy197
      have Ny197:=As_ hy197
      clear hy197
      have H':=As_ H
      clear H
      have hnb36:=NB184_181.out
      have hnc36:=NB181_184.out
      have hnb37:=NB184_182.out
      have hnc37:=NB182_184.out
      have hnb38:=NB184_0.out
      have hnc38:=NB0_184.out
      obtain ⟨hcz39_0,hcz39_1,hcz39_2,hfz39_0,hfz39_1,hfz39_2⟩:=bk3 BK184.out
      go_wp2_with (first|((with_reducible refine gate_builtin (b:=.append) (xs:=#[.tmp 34,.tmp 36]) rfl ?_);at_builtin;refine Kd.R_append (Kd.int .i64) (w0:=w0) w0.heap.size rfl (.tmp 34) (.tmp 36) 26 3 (.int .i64 0) 8 rfl Try.underlying26 info3 rfl (by decide) (by omega) u185002 x185002_1 t195 [.int .i64 t195] (fun k_=>(P1_0_ k_∨w.heap.size≤k_)) (fun _=>False) rfl rfl ?aP (fun _ hk=>hk.elim) ?aF ?aO ?aB ?aS ?aL ?_;(case aP=>exact rfl);(case aB=>exact (zb4 HB.out (IsS74.ge HI0.out) GE181.out GE182.out GE184.out));(case aF=>exact (fun k_ hk=>(.inr (Nat.le_trans (by first|exact HK.out.1|exact (show Kept w _ (fun k_=>(P1_0_ k_)∨k_=g) from zq3 HK.out GW181.out GW182.out GW184.out).1) hk))));(case aO=>exact (zR_ HO_185002.out));(case aS=>exact (bwZ (zb4 HB.out (IsS74.ge HI0.out) GE181.out GE182.out GE184.out)));(case aL=>have:=LMc35.out;omega);intro v198 w40 ho hb hg hat;rw [← Ny197.out] at ho;have n0_:=As_ (Kd.S_after (ok:=(fun k_=>(P1_0_ k_∨w.heap.size≤k_)∧k_≠gb184)) (by (with_reducible repeat (first|apply Kd.S_alloc|apply Kd.S_drewN|apply Kd.S_drew));exact Kd.S_mono HO_182000.out (fun _ hk=>⟨⟨hk.1,hk.2.2⟩,hk.2.1⟩)) hg hat);have n1_:=As_ (blk_grown (g:=gb181) (o:=.cells #[.slice (some ad183) l1_0.length co7,.int .i64 a1_1] 25 (0,0)) (zk_ BK181.out) hg (Kd.R_ne HO_185002.out BK181.out (by decide)));have n2_:=As_ (blk_grown (g:=gb182) (o:=.cells #[.slice none 0 0,.int .i64 0] 25 (0,0)) (zk_ BK182.out) hg (Kd.R_ne HO_185002.out BK182.out (by decide)));have n3_:=As_ (blk_grown (g:=gb184) (o:=.cells #[.int .i64 ((rd_T58 l1_0 a2).f0),.int .i64 ((rd_T58 l1_0 a2).f1),u185002] 58 (0,0)) (zk_ BK184.out) hg (Kd.R_ne HO_185002.out BK184.out (by decide)));have n4_:=As_ (IsS74.grown (zi74_3 HI0.out NB0_181.out NB0_182.out NB0_184.out) hg (IsS74.own_ne HI0.out HO_185002.out (by decide)));have n5_:=As_ (hb);have n6_:=As_ (Kept.of_grown (S:=(fun k_=>(P1_0_ k_)∨k_=g)) hg (zq3 HK.out GW181.out GW182.out GW184.out) (fun k_ e_=>Or.imp_left Or.inl ((HO_185002.out.1 k_ e_))));have n7_:=As_ (ho);clear HO_182000 BK181 BK182 BK184 HI0 HB HK HO_185002;revert n0_ n1_ n2_ n3_ n4_ n5_ n6_ n7_;intro HO_182000 BK181 BK182 BK184 HI0 HB HK HO199;clear ho hb hg hat;obtain ⟨Ao41,co41,eo41⟩:=Kd.R_slice HO199.out;subst eo41;obtain ⟨hcz42_0,hcz42_1,hcz42_2,hfz42_0,hfz42_1,hfz42_2⟩:=bk3 BK184.out))
      go_roundg kj23
      case measure=>have:=HK1.out;have:=HJ23.out;omega
      case rel=>exact ⟨(wrap64 (x8_1 - 1)),(t196),(y197),(.slice Ao41 y197.length co41),zT_,H',⟨fun e_=>absurd e_ (by rw [Ny197.out];first|(simp;done)|(rw [Ny185.out];simp;done))⟩,⟨by have:=HK1.out;have:=HJ23.out;omega⟩,⟨by (with_reducible repeat (first|apply Kd.S_alloc|apply Kd.S_drewN|apply Kd.S_drew));exact Kd.S_mono (Kd.S_far (p:=⟨gb184,2,none⟩) (Kd.S_mono HO_182000.out (fun k_ hk=>(⟨hk,hk.1.2⟩:_∧k_≠gb184))) (fun _ hk=>hk.2) (.slice Ao41 y197.length co41)) (fun _ hk=>⟨hk.1.1.1,⟨hk.1.2,hk.1.1.2⟩⟩)⟩,⟨by (with_reducible repeat (first|apply Kd.R_alloc|apply Kd.R_drewN|apply Kd.R_drew));exact Kd.R_mono (Kd.R_far (p:=⟨gb184,2,none⟩) (Kd.R_types HO199.out BK184.out (by decide)) (fun _ hk=>hk.2) (.slice Ao41 y197.length co41)) (fun _ hk=>hk.1)⟩,⟨by (with_reducible repeat first|apply bkN|apply bkD|apply bkA);refine blk_far ?_ NB181_184.out _;(with_reducible repeat first|apply bkN|apply bkD|apply bkA);exact BK181.out⟩,⟨by (with_reducible repeat first|apply bkN|apply bkD|apply bkA);refine blk_far ?_ NB182_184.out _;(with_reducible repeat first|apply bkN|apply bkD|apply bkA);exact BK182.out⟩,⟨by (with_reducible repeat first|apply bkN|apply bkD|apply bkA);refine blk_put (cs:=#[.int .i64 ((rd_T58 l1_0 a2).f0),.int .i64 ((rd_T58 l1_0 a2).f1),u185002]) ?_ 2 _ rfl;(with_reducible repeat first|apply bkN|apply bkD|apply bkA);exact BK184.out⟩,⟨zi74_3 HI0.out NB0_181.out NB0_182.out NB0_184.out⟩,⟨zq3 HK.out GW181.out GW182.out GW184.out⟩,⟨zb4 HB.out (IsS74.ge HI0.out) GE181.out GE182.out GE184.out⟩⟩
     replace c34:=Bool.eq_false_iff.mpr c34
     subst c34
     have H1:(if ((rd_T58 l1_0 a2).f0)=5 then (spec_addKids.l0 kj23 a2 (wrap64 (x8_1 - 1)) s0_0 t196 l1_0 a1_1 ((rd_T58 l1_0 a2).f0) ((rd_T58 l1_0 a2).f1) (([t195]:List Int))) else (if ((rd_T58 l1_0 a2).f0)=4 then (if (x185002_1.length:Int)<6 then (if 0≤t195 then (if t195<(l1_0.length:Int) then ((spec_isKey.f ((rd_T58 l1_0 t195).f0) ((rd_T58 l1_0 t195).f1) ((rd_T58 l1_0 t195).f2)).bind fun t204=>(if t204=true then ((spec_reader_pick.f kj23 s0_0 t196 (l1_0.length:Int)).bind fun bt205=>((some (([t195,bt205.1]:List Int):List Int)).bind fun y207=>(if x185002_1.length+y207.length<17592186044416 then (spec_addKids.l0 kj23 a2 (wrap64 (x8_1 - 1)) s0_0 bt205.2 l1_0 a1_1 ((rd_T58 l1_0 a2).f0) ((rd_T58 l1_0 a2).f1) (x185002_1++y207)) else (none)))) else (spec_addKids.l0 kj23 a2 (wrap64 (x8_1 - 1)) s0_0 t196 l1_0 a1_1 ((rd_T58 l1_0 a2).f0) ((rd_T58 l1_0 a2).f1) x185002_1))) else (none)) else (none)) else (spec_addKids.l0 kj23 a2 (wrap64 (x8_1 - 1)) s0_0 t196 l1_0 a1_1 ((rd_T58 l1_0 a2).f0) ((rd_T58 l1_0 a2).f1) x185002_1)) else (spec_addKids.l0 kj23 a2 (wrap64 (x8_1 - 1)) s0_0 t196 l1_0 a1_1 ((rd_T58 l1_0 a2).f0) ((rd_T58 l1_0 a2).f1) x185002_1)))=some (r1,r2,r3):=by rw [if_neg (show ¬ (false=true) by decide)] at H;exact H
     clear H
     have H:=H1
     clear H1
     by_cases c43:((rd_T58 l1_0 a2).f0)=5
     ·rw [if_pos c43] at H
      have c43b0:(((rd_T58 l1_0 a2).f0) == 5)=true:=beq_iff_eq.mpr c43
      have c43b1:(((rd_T58 l1_0 a2).f0) != 5)=false:=bne_eq_false_iff_eq.mpr c43
      clear c43
      obtain ⟨y200,hy200⟩:∃ y_:List Int,y_=(([t195]:List Int)):=⟨_,rfl⟩
      replace H:(spec_addKids.l0 kj23 a2 (wrap64 (x8_1 - 1)) s0_0 t196 l1_0 a1_1 ((rd_T58 l1_0 a2).f0) ((rd_T58 l1_0 a2).f1) y200)=some (r1,r2,r3):=zH_ H hy200
      have Ny200:=As_ hy200
      clear hy200
      have H':=As_ H
      clear H
      go_wp2_with (first|((with_reducible refine gate_dst (N:=42) rfl ?_);refine Kd.R_lit (Kd.int .i64) _ 3 ?hg (N:=42) ?hd (xs:=([t195]:List Int)) (inner:=[.int .i64 t195]) (ok:=fun _=>True) (okp:=fun _=>True) ?hr ?hp (fun _ hk=>hk) trivial (Below.refl _ _) (Nat.le_refl _) (by simp) ?_;(case hd=>rfl);(case hg=>rfl);(case hr=>go_simp <;> rfl);(case hp=>exact (Reps.one (show Kd.M (Kd.int .i64) _ _ _ t195 [.int .i64 t195] from rfl) (Reps.none _ _)));intro v201 w44 ho45 hb hg_ hnew_;clear hg_ hnew_;(first|rw [← Ny200.out] at ho45|(simp only [Int.reduceToNat] at ho45;rw [← Ny200.out] at ho45));have n0_:=As_ (Kd.S_elder' (zS_ HO_182000.out) (Kd.R_base ho45) hb);have n1_:=As_ (Kd.R_elder' (zR_ HO_185002.out) (Kd.R_base ho45) hb);have n2_:=As_ (Kd.R_lower (Kd.R_new' (Kd.R_newM (M:=fun k_=>(P1_0_ k_∨w.heap.size≤k_)) ho45 (by first|exact HK.out.1|exact (show Kept w _ (fun k_=>(P1_0_ k_)∨k_=g) from zq3 HK.out GW181.out GW182.out GW184.out).1) (fun k_ h_=>.inr h_)) (Kd.R_lt (zR_ HO_185002.out))) (bwZ (zb4 HB.out (IsS74.ge HI0.out) GE181.out GE182.out GE184.out)));have n3_:=As_ (zkb BK181.out hb);have n4_:=As_ (zkb BK182.out hb);have n5_:=As_ (zkb BK184.out hb);have n6_:=As_ (IsS74.below (zi74_3 HI0.out NB0_181.out NB0_182.out NB0_184.out) hb);have n7_:=As_ (Kept.below (S:=(fun k_=>(P1_0_ k_)∨k_=g)) (zq3 HK.out GW181.out GW182.out GW184.out) hb);have n8_:=As_ (bwT (zb4 HB.out (IsS74.ge HI0.out) GE181.out GE182.out GE184.out) hb);clear HO_182000 HO_185002 BK181 BK182 BK184 HI0 HK HB;revert n0_ n1_ n2_ n3_ n4_ n5_ n6_ n7_ n8_;intro HO_182000 HO_185002 HO202 BK181 BK182 BK184 HI0 HK HB;clear hb ho45;obtain ⟨Ao46,co46,eo46⟩:=Kd.R_slice HO202.out;subst eo46;have hnb47:=NB184_181.out;have hnc47:=NB181_184.out;have hnb48:=NB184_182.out;have hnc48:=NB182_184.out;have hnb49:=NB184_0.out;have hnc49:=NB0_184.out;obtain ⟨hcz50_0,hcz50_1,hcz50_2,hfz50_0,hfz50_1,hfz50_2⟩:=bk3 BK184.out))
      go_roundg kj23
      case measure=>have:=HK1.out;have:=HJ23.out;omega
      case rel=>exact ⟨(wrap64 (x8_1 - 1)),(t196),(y200),(.slice Ao46 y200.length co46),zT_,H',⟨fun e_=>absurd e_ (by rw [Ny200.out];first|(simp;done)|(rw [Ny185.out];simp;done)|(rw [Ny197.out];simp;done))⟩,⟨by have:=HK1.out;have:=HJ23.out;omega⟩,⟨by (with_reducible repeat (first|apply Kd.S_alloc|apply Kd.S_drewN|apply Kd.S_drew));exact Kd.S_mono (Kd.S_far (p:=⟨gb184,2,none⟩) (Kd.S_mono HO_182000.out (fun k_ hk=>(⟨hk,hk.1.2.2⟩:_∧k_≠gb184))) (fun _ hk=>hk.2) (.slice Ao46 y200.length co46)) (fun _ hk=>⟨hk.1.1.1,⟨hk.1.2,hk.1.1.2.2⟩⟩)⟩,⟨by (with_reducible repeat (first|apply Kd.R_alloc|apply Kd.R_drewN|apply Kd.R_drew));exact Kd.R_mono (Kd.R_far (p:=⟨gb184,2,none⟩) (Kd.R_types HO202.out BK184.out (by decide)) (fun _ hk=>hk.2) (.slice Ao46 y200.length co46)) (fun _ hk=>hk.1.1.1)⟩,⟨by (with_reducible repeat first|apply bkN|apply bkD|apply bkA);refine blk_far ?_ NB181_184.out _;(with_reducible repeat first|apply bkN|apply bkD|apply bkA);exact BK181.out⟩,⟨by (with_reducible repeat first|apply bkN|apply bkD|apply bkA);refine blk_far ?_ NB182_184.out _;(with_reducible repeat first|apply bkN|apply bkD|apply bkA);exact BK182.out⟩,⟨by (with_reducible repeat first|apply bkN|apply bkD|apply bkA);refine blk_put (cs:=#[.int .i64 ((rd_T58 l1_0 a2).f0),.int .i64 ((rd_T58 l1_0 a2).f1),u185002]) ?_ 2 _ rfl;(with_reducible repeat first|apply bkN|apply bkD|apply bkA);exact BK184.out⟩,⟨zi74_3 HI0.out NB0_181.out NB0_182.out NB0_184.out⟩,⟨zq3 HK.out GW181.out GW182.out GW184.out⟩,⟨zb4 HB.out (IsS74.ge HI0.out) GE181.out GE182.out GE184.out⟩⟩
     rw [if_neg c43] at H
     have c43b0:(((rd_T58 l1_0 a2).f0) == 5)=false:=beq_eq_false_iff_ne.mpr c43
     have c43b1:(((rd_T58 l1_0 a2).f0) != 5)=true:=bne_iff_ne.mpr c43
     by_cases c51:((rd_T58 l1_0 a2).f0)=4
     rotate_left
     ·rw [if_neg c51] at H
      have c51b0:(((rd_T58 l1_0 a2).f0) == 4)=false:=beq_eq_false_iff_ne.mpr c51
      have c51b1:(((rd_T58 l1_0 a2).f0) != 4)=true:=bne_iff_ne.mpr c51
      have H':=As_ H
      clear H
      go_wp2
      go_roundg kj23
      case measure=>have:=HK1.out;have:=HJ23.out;omega
      case rel=>exact ⟨(wrap64 (x8_1 - 1)),(t196),(x185002_1),(u185002),zT_,H',⟨HZn.out⟩,⟨by have:=HK1.out;have:=HJ23.out;omega⟩,⟨by (with_reducible repeat (first|apply Kd.S_alloc|apply Kd.S_drewN|apply Kd.S_drew));exact HO_182000.out⟩,⟨by (with_reducible repeat (first|apply Kd.R_alloc|apply Kd.R_drewN|apply Kd.R_drew));exact HO_185002.out⟩,⟨by (with_reducible repeat first|apply bkN|apply bkD|apply bkA);exact BK181.out⟩,⟨by (with_reducible repeat first|apply bkN|apply bkD|apply bkA);exact BK182.out⟩,⟨by (with_reducible repeat first|apply bkN|apply bkD|apply bkA);exact BK184.out⟩,⟨zi74_3 HI0.out NB0_181.out NB0_182.out NB0_184.out⟩,⟨zq3 HK.out GW181.out GW182.out GW184.out⟩,⟨zb4 HB.out (IsS74.ge HI0.out) GE181.out GE182.out GE184.out⟩⟩
     rw [if_pos c51] at H
     have c51b0:(((rd_T58 l1_0 a2).f0) == 4)=true:=beq_iff_eq.mpr c51
     have c51b1:(((rd_T58 l1_0 a2).f0) != 4)=false:=bne_eq_false_iff_eq.mpr c51
     clear c51
     by_cases c52:(x185002_1.length:Int)<6
     rotate_left
     ·rw [if_neg c52] at H
      have c52b0:decide ((x185002_1.length:Int)<6)=false:=deF c52
      have c52b1:decide (x185002_1.length<6)=false:=deF (by omega)
      clear c52
      have H':=As_ H
      clear H
      have hnb85:=NB184_181.out
      have hnc85:=NB181_184.out
      have hnb86:=NB184_182.out
      have hnc86:=NB182_184.out
      have hnb87:=NB184_0.out
      have hnc87:=NB0_184.out
      obtain ⟨hcz88_0,hcz88_1,hcz88_2,hfz88_0,hfz88_1,hfz88_2⟩:=bk3 BK184.out
      obtain ⟨Ao89,co89,eo89⟩:=Kd.R_slice HO_185002.out
      subst eo89
      go_wp2
      go_roundg kj23
      case measure=>have:=HK1.out;have:=HJ23.out;omega
      case rel=>exact ⟨(wrap64 (x8_1 - 1)),(t196),(x185002_1),(.slice Ao89 x185002_1.length co89),zT_,H',⟨HZn.out⟩,⟨by have:=HK1.out;have:=HJ23.out;omega⟩,⟨by (with_reducible repeat (first|apply Kd.S_alloc|apply Kd.S_drewN|apply Kd.S_drew));exact HO_182000.out⟩,⟨by (with_reducible repeat (first|apply Kd.R_alloc|apply Kd.R_drewN|apply Kd.R_drew));exact HO_185002.out⟩,⟨by (with_reducible repeat first|apply bkN|apply bkD|apply bkA);exact BK181.out⟩,⟨by (with_reducible repeat first|apply bkN|apply bkD|apply bkA);exact BK182.out⟩,⟨by (with_reducible repeat first|apply bkN|apply bkD|apply bkA);exact BK184.out⟩,⟨zi74_3 HI0.out NB0_181.out NB0_182.out NB0_184.out⟩,⟨zq3 HK.out GW181.out GW182.out GW184.out⟩,⟨zb4 HB.out (IsS74.ge HI0.out) GE181.out GE182.out GE184.out⟩⟩
     rw [if_pos c52] at H
     have c52b0:decide ((x185002_1.length:Int)<6)=true:=deT c52
     have c52b1:decide (x185002_1.length<6)=true:=deT (by omega)
     clear c52
     by_cases c53:0≤t195
     rotate_left
     ·rw [if_neg c53] at H
      exact absurd H (by simp)
     rw [if_pos c53] at H
     have c53b0:decide (0≤t195)=true:=deT c53
     clear c53
     by_cases c54:t195<(l1_0.length:Int)
     rotate_left
     ·rw [if_neg c54] at H
      exact absurd H (by simp)
     rw [if_pos c54] at H
     have c54b0:decide (t195<(l1_0.length:Int))=true:=deT c54
     clear c54
     replace H:=obS H
     obtain ⟨t204,A550,H⟩:=H
     replace H:(if t204=true then ((spec_reader_pick.f kj23 s0_0 t196 (l1_0.length:Int)).bind fun bt205=>((some (([t195,bt205.1]:List Int):List Int)).bind fun y207=>(if x185002_1.length+y207.length<17592186044416 then (spec_addKids.l0 kj23 a2 (wrap64 (x8_1 - 1)) s0_0 bt205.2 l1_0 a1_1 ((rd_T58 l1_0 a2).f0) ((rd_T58 l1_0 a2).f1) (x185002_1++y207)) else (none)))) else (spec_addKids.l0 kj23 a2 (wrap64 (x8_1 - 1)) s0_0 t196 l1_0 a1_1 ((rd_T58 l1_0 a2).f0) ((rd_T58 l1_0 a2).f1) x185002_1))=some (r1,r2,r3):=H
     have A55:=As_ A550
     clear A550
     by_cases c56:t204=true
     rotate_left
     ·replace c56:=Bool.eq_false_iff.mpr c56
      subst c56
      have H1:(spec_addKids.l0 kj23 a2 (wrap64 (x8_1 - 1)) s0_0 t196 l1_0 a1_1 ((rd_T58 l1_0 a2).f0) ((rd_T58 l1_0 a2).f1) x185002_1)=some (r1,r2,r3):=by rw [if_neg (show ¬ (false=true) by decide)] at H;exact H
      clear H
      have H:=H1
      clear H1
      have H':=As_ H
      clear H
      have hnb76:=NB184_181.out
      have hnc76:=NB181_184.out
      have hnb77:=NB184_182.out
      have hnc77:=NB182_184.out
      have hnb78:=NB184_0.out
      have hnc78:=NB0_184.out
      obtain ⟨hcz79_0,hcz79_1,hcz79_2,hfz79_0,hfz79_1,hfz79_2⟩:=bk3 BK184.out
      obtain ⟨Ao80,co80,eo80⟩:=Kd.R_slice HO_185002.out
      subst eo80
      have hnb81:=NB181_182.out
      have hnc81:=NB182_181.out
      have hnb82:=NB181_0.out
      have hnc82:=NB0_181.out
      obtain ⟨hcz83_0,hcz83_1,hfz83_0,hfz83_1⟩:=bk2 BK181.out
      have p203:0≤(t195:Int):=odT zA_
      have q203:t195<(l1_0.length:Int):=odT zA_
      obtain ⟨ad203,A203_2,c203_2,e203,hx203_0,hx203_1,hx203_2,hl203_2,hi203_2⟩:=at_T58 (kzN_C (Kd.S_reads' HO_182000.out).2.2) t195 p203 q203
      obtain rfl:ad183=ad203:=(by injection e203)
      obtain ⟨ce203,hce203,hMe203,hcc203⟩:=Kd.S_get HO_182000.out z58 t195 p203 (by first|exact q203|exact odT zA_|(have e_:=(Kd.S_reads' HO_182000.out).1;omega))
      obtain ⟨ve203_2,rfl,ge203_2⟩:=k58_openM hMe203.1
      have hv203_2:=hcc203 2 _ rfl
      rw [add_field _ _ 2 (by omega)] at hv203_2
      replace hv203_2:=Option.some.inj (hv203_2.symm.trans hx203_2)
      rw [hv203_2] at ge203_2
      have HL203_2:=As_ (show Kd.R (Kd.int .i64) 3 _ _ _ _ ((rd_T58 l1_0 t195).f2) from ge203_2)
      clear hv203_2 ge203_2 hcc203 hce203
      have HR203_2:=As_ hi203_2
      have HC203_2:=As_ hl203_2
      clear hi203_2 hl203_2
      replace p203:=eq_true p203
      replace q203:=eq_true q203
      go_wp2_with (first|(go_at_call 99;(with_reducible refine (spec_isKey.calls ((rd_T58 l1_0 t195).f0) ((rd_T58 l1_0 t195).f1) _ _ ((rd_T58 l1_0 t195).f2) false _ ?side1 ?side2 A55.out).mono ?_);(case side1=>repeat (first|exact (by repeat (first|(with_reducible exact HR203_2.out)|(with_reducible refine Kd.C_alloc ?_ _)|(with_reducible refine Kd.C_drewN ?_ _)|(with_reducible refine Kd.C_drew ?_)|exact HR203_2.out))|(with_reducible refine Kd.C_alloc ?_ _)|(with_reducible refine Kd.C_drewN ?_ _)|(with_reducible refine Kd.C_drew ?_)));(case side2=>exact HC203_2.out);rintro e w84 ⟨rfl,hb⟩;have n0_:=As_ (Kd.S_below (zS_ HO_182000.out) hb);have n1_:=As_ (Kd.R_below (zR_ HO_185002.out) hb);have n2_:=As_ (Kd.R_below (zR_ HL203_2.out) hb);have n3_:=As_ (zkb BK181.out hb);have n4_:=As_ (zkb BK182.out hb);have n5_:=As_ (zkb BK184.out hb);have n6_:=As_ (IsS74.below (zi74_3 HI0.out NB0_181.out NB0_182.out NB0_184.out) hb);have n7_:=As_ (Kd.C_below (by repeat (first|(with_reducible exact HR203_2.out)|(with_reducible refine Kd.C_alloc ?_ _)|(with_reducible refine Kd.C_drewN ?_ _)|(with_reducible refine Kd.C_drew ?_)|exact HR203_2.out)) hb);have n8_:=As_ (Kept.below (S:=(fun k_=>(P1_0_ k_)∨k_=g)) (zq3 HK.out GW181.out GW182.out GW184.out) hb);have n9_:=As_ (bwT (zb4 HB.out (IsS74.ge HI0.out) GE181.out GE182.out GE184.out) hb);clear HO_182000 HO_185002 HL203_2 BK181 BK182 BK184 HI0 HR203_2 HK HB;revert n0_ n1_ n2_ n3_ n4_ n5_ n6_ n7_ n8_ n9_;intro HO_182000 HO_185002 HL203_2 BK181 BK182 BK184 HI0 HR203_2 HK HB))
      go_roundg kj23
      case measure=>have:=HK1.out;have:=HJ23.out;omega
      case rel=>exact ⟨(wrap64 (x8_1 - 1)),(t196),(x185002_1),(.slice Ao80 x185002_1.length co80),zT_,H',⟨HZn.out⟩,⟨by have:=HK1.out;have:=HJ23.out;omega⟩,⟨by (with_reducible repeat (first|apply Kd.S_alloc|apply Kd.S_drewN|apply Kd.S_drew));exact HO_182000.out⟩,⟨by (with_reducible repeat (first|apply Kd.R_alloc|apply Kd.R_drewN|apply Kd.R_drew));exact HO_185002.out⟩,⟨by (with_reducible repeat first|apply bkN|apply bkD|apply bkA);exact BK181.out⟩,⟨by (with_reducible repeat first|apply bkN|apply bkD|apply bkA);exact BK182.out⟩,⟨by (with_reducible repeat first|apply bkN|apply bkD|apply bkA);exact BK184.out⟩,⟨zi74_3 HI0.out NB0_181.out NB0_182.out NB0_184.out⟩,⟨zq3 HK.out GW181.out GW182.out GW184.out⟩,⟨zb4 HB.out (IsS74.ge HI0.out) GE181.out GE182.out GE184.out⟩⟩
     subst c56
     have H1:((spec_reader_pick.f kj23 s0_0 t196 (l1_0.length:Int)).bind fun bt205=>((some (([t195,bt205.1]:List Int):List Int)).bind fun y207=>(if x185002_1.length+y207.length<17592186044416 then (spec_addKids.l0 kj23 a2 (wrap64 (x8_1 - 1)) s0_0 bt205.2 l1_0 a1_1 ((rd_T58 l1_0 a2).f0) ((rd_T58 l1_0 a2).f1) (x185002_1++y207)) else (none))))=some (r1,r2,r3):=by rw [if_pos rfl] at H;exact H
     clear H
     have H:=H1
     clear H1
     replace H:=obS H
     obtain ⟨⟨t205,t206⟩,A570,H⟩:=H
     replace H:((some (([t195,t205]:List Int):List Int)).bind fun y207=>(if x185002_1.length+y207.length<17592186044416 then (spec_addKids.l0 kj23 a2 (wrap64 (x8_1 - 1)) s0_0 t206 l1_0 a1_1 ((rd_T58 l1_0 a2).f0) ((rd_T58 l1_0 a2).f1) (x185002_1++y207)) else (none)))=some (r1,r2,r3):=H
     have A57:=As_ A570
     clear A570
     obtain ⟨y207,hy207⟩:∃ y_:List Int,y_=(([t195,t205]:List Int)):=⟨_,rfl⟩
     replace H:(if x185002_1.length+y207.length<17592186044416 then (spec_addKids.l0 kj23 a2 (wrap64 (x8_1 - 1)) s0_0 t206 l1_0 a1_1 ((rd_T58 l1_0 a2).f0) ((rd_T58 l1_0 a2).f1) (x185002_1++y207)) else (none))=some (r1,r2,r3):=zH_ H hy207
     have Ny207:=As_ hy207
     clear hy207
     by_cases c58:x185002_1.length+y207.length<17592186044416
     rotate_left
     ·rw [if_neg c58] at H
      exact absurd H (by simp)
     rw [if_pos c58] at H
     have LMc58:=As_ c58
     clear c58
     obtain ⟨y210,hy210⟩:∃ y_:List Int,y_=(x185002_1++y207):=⟨_,rfl⟩
     replace H:(spec_addKids.l0 kj23 a2 (wrap64 (x8_1 - 1)) s0_0 t206 l1_0 a1_1 ((rd_T58 l1_0 a2).f0) ((rd_T58 l1_0 a2).f1) y210)=some (r1,r2,r3):=zH_ H hy210
     have Ny210:=As_ hy210
     clear hy210
     have H':=As_ H
     clear H
     have hnb59:=NB184_181.out
     have hnc59:=NB181_184.out
     have hnb60:=NB184_182.out
     have hnc60:=NB182_184.out
     have hnb61:=NB184_0.out
     have hnc61:=NB0_184.out
     obtain ⟨hcz62_0,hcz62_1,hcz62_2,hfz62_0,hfz62_1,hfz62_2⟩:=bk3 BK184.out
     obtain ⟨Ao63,co63,eo63⟩:=Kd.R_slice HO_185002.out
     subst eo63
     have hnb64:=NB181_182.out
     have hnc64:=NB182_181.out
     have hnb65:=NB181_0.out
     have hnc65:=NB0_181.out
     obtain ⟨hcz66_0,hcz66_1,hfz66_0,hfz66_1⟩:=bk2 BK181.out
     have p203:0≤(t195:Int):=odT zA_
     have q203:t195<(l1_0.length:Int):=odT zA_
     obtain ⟨ad203,A203_2,c203_2,e203,hx203_0,hx203_1,hx203_2,hl203_2,hi203_2⟩:=at_T58 (kzN_C (Kd.S_reads' HO_182000.out).2.2) t195 p203 q203
     obtain rfl:ad183=ad203:=(by injection e203)
     obtain ⟨ce203,hce203,hMe203,hcc203⟩:=Kd.S_get HO_182000.out z58 t195 p203 (by first|exact q203|exact odT zA_|(have e_:=(Kd.S_reads' HO_182000.out).1;omega))
     obtain ⟨ve203_2,rfl,ge203_2⟩:=k58_openM hMe203.1
     have hv203_2:=hcc203 2 _ rfl
     rw [add_field _ _ 2 (by omega)] at hv203_2
     replace hv203_2:=Option.some.inj (hv203_2.symm.trans hx203_2)
     rw [hv203_2] at ge203_2
     have HL203_2:=As_ (show Kd.R (Kd.int .i64) 3 _ _ _ _ ((rd_T58 l1_0 t195).f2) from ge203_2)
     clear hv203_2 ge203_2 hcc203 hce203
     have HR203_2:=As_ hi203_2
     have HC203_2:=As_ hl203_2
     clear hi203_2 hl203_2
     replace p203:=eq_true p203
     replace q203:=eq_true q203
     try go_wp2_with (first|(go_at_call 99;(with_reducible refine (spec_isKey.calls ((rd_T58 l1_0 t195).f0) ((rd_T58 l1_0 t195).f1) _ _ ((rd_T58 l1_0 t195).f2) true _ ?side1 ?side2 A55.out).mono ?_);(case side1=>repeat (first|exact (by repeat (first|(with_reducible exact HR203_2.out)|(with_reducible refine Kd.C_alloc ?_ _)|(with_reducible refine Kd.C_drewN ?_ _)|(with_reducible refine Kd.C_drew ?_)|exact HR203_2.out))|(with_reducible refine Kd.C_alloc ?_ _)|(with_reducible refine Kd.C_drewN ?_ _)|(with_reducible refine Kd.C_drew ?_)));(case side2=>exact HC203_2.out);rintro e w67 ⟨rfl,hb⟩;have n0_:=As_ (Kd.S_below (zS_ HO_182000.out) hb);have n1_:=As_ (Kd.R_below (zR_ HO_185002.out) hb);have n2_:=As_ (Kd.R_below (zR_ HL203_2.out) hb);have n3_:=As_ (zkb BK181.out hb);have n4_:=As_ (zkb BK182.out hb);have n5_:=As_ (zkb BK184.out hb);have n6_:=As_ (IsS74.below (zi74_3 HI0.out NB0_181.out NB0_182.out NB0_184.out) hb);have n7_:=As_ (Kd.C_below (by repeat (first|(with_reducible exact HR203_2.out)|(with_reducible refine Kd.C_alloc ?_ _)|(with_reducible refine Kd.C_drewN ?_ _)|(with_reducible refine Kd.C_drew ?_)|exact HR203_2.out)) hb);have n8_:=As_ (Kept.below (S:=(fun k_=>(P1_0_ k_)∨k_=g)) (zq3 HK.out GW181.out GW182.out GW184.out) hb);have n9_:=As_ (bwT (zb4 HB.out (IsS74.ge HI0.out) GE181.out GE182.out GE184.out) hb);clear HO_182000 HO_185002 HL203_2 BK181 BK182 BK184 HI0 HR203_2 HK HB;revert n0_ n1_ n2_ n3_ n4_ n5_ n6_ n7_ n8_ n9_;intro HO_182000 HO_185002 HL203_2 BK181 BK182 BK184 HI0 HR203_2 HK HB))
     have n0_:=As_ (Kd.S_drew HO_182000.out)
     have n1_:=As_ (Kd.R_drew HO_185002.out)
     have n2_:=As_ (Kd.R_drew HL203_2.out)
     have n3_:=As_ (bkD BK181.out)
     have n4_:=As_ (bkD BK182.out)
     have n5_:=As_ (bkD BK184.out)
     have n6_:=As_ (Kd.C_drew HR203_2.out)
     have n7_:=As_ (IsS74.drew HI0.out)
     have n8_:=As_ (Kept.drew HK.out)
     have n9_:=As_ (bwD HB.out)
     clear HO_182000 HO_185002 HL203_2 BK181 BK182 BK184 HR203_2 HI0 HK HB
     revert n0_ n1_ n2_ n3_ n4_ n5_ n6_ n7_ n8_ n9_;intro HO_182000 HO_185002 HL203_2 BK181 BK182 BK184 HR203_2 HI0 HK HB
     refine start_ (n:=12) (S:=fun w'=>w'.cell? ⟨gb184,0,none⟩=some (.int .i64 ((rd_T58 l1_0 a2).f0))∧w'.cell? ⟨gb184,1,none⟩=some (.int .i64 ((rd_T58 l1_0 a2).f1))∧w'.cell? ⟨gb184,2,none⟩=some (.slice Ao63 x185002_1.length co63)∧w'.cell? ⟨gb181,0,none⟩=some (.slice (some ad183) l1_0.length co7)∧w'.cell? ⟨gb181,1,none⟩=some (.int .i64 a1_1)) (ds:=[11]) (bl_ 0 12) (by kernel_rfl) rfl rfl ⟨(bkC BK184.out 0).trans rfl,(bkC BK184.out 1).trans rfl,(bkC BK184.out 2).trans rfl,(bkC BK181.out 0).trans rfl,(bkC BK181.out 1).trans rfl⟩ (fun hHeld=>?_);refine with_tabW spec_addKids.tab14 spec_addKids.bits14 (fun HT_ HW_=>?_)
     generalize w67.drew=w68 at HO_182000 HO_185002 HL203_2 BK181 BK182 BK184 HR203_2 HI0 HK HB hHeld ⊢
     refine pQ 0 58 (bl_ 1 12) HT_ rfl ?_
     refine pQ 2 60 (bl_ 5 12) HT_ rfl ?_
     refine pQ 3 61 (bl_ 13 12) HT_ rfl ?_
     refine pQ 4 62 (bl_ 29 12) HT_ rfl ?_
     refine tP 1 59 (bl_ 31 12) ?_ HT_ HW_ rfl (.inl ⟨by rfl,?_⟩) hHeld ?_ ?_ ?_;rotate_left;(rintro w' ⟨s0,s1,s2,s3,s4⟩;go_simp;with_reducible rfl);rotate_left;(simp only [Act.put,sq_,i64_w,i32_w];rfl)
     refine tP 5 63 (bl_ 63 12) ?_ HT_ HW_ rfl (.inl ⟨by rfl,?_⟩) hHeld ?_ ?_ ?_;rotate_left;(rintro w' ⟨s0,s1,s2,s3,s4⟩;go_simp;with_reducible rfl);rotate_left;(simp only [Act.put,sq_,i64_w,i32_w];rfl)
     refine pQ 6 64 (bl_ 127 12) HT_ rfl ?_
     refine one_ (i:=7) (N:=some 65) (bl_ 255 12) rfl rfl (one_of HT_.out (by kernel_rfl)) (by decide) (fun K hK=>?_)
     refine goes_ Try.func65 (by kernel_rfl) rfl #[.pointer (some ⟨g,0,none⟩),.int .i64 (l1_0.length:Int)] (by rfl) rfl rfl zM_ ?_
     with_reducible refine (spec_reader_pick.calls kj23 g s0_0 t196 (l1_0.length:Int) t205 t206 w0 _ ?side1 ?side2 A57.out).mono ?_
     (case side1=>exact zi74_3 HI0.out NB0_181.out NB0_182.out NB0_184.out)
     (case side2=>exact zb4 HB.out (IsS74.ge HI0.out) GE181.out GE182.out GE184.out)
     rintro e w69 ⟨rfl,hi,hb,hk⟩
     refine ⟨_,rfl,?_⟩
     have n0_:=As_ (Kd.S_mono (Kd.S_keep (IsS74.apartS (show IsS74 w0 _ g s0_0 t196 from zi74_3 HI0.out NB0_181.out NB0_182.out NB0_184.out) (zS_ HO_182000.out) (by decide)) hk (fun _ h=>h.2)) (fun _ h=>h.1))
     have n1_:=As_ (Kd.R_mono (Kd.R_keep (IsS74.apart (show IsS74 w0 _ g s0_0 t196 from zi74_3 HI0.out NB0_181.out NB0_182.out NB0_184.out) (zR_ HO_185002.out) (by decide)) hk (fun _ h=>h.2)) (fun _ h=>h.1))
     have n2_:=As_ (KeepBut.blk hk (g':=gb181) (o:=.cells #[.slice (some ad183) l1_0.length co7,.int .i64 a1_1] 25 (0,0)) (zk_ BK181.out) NB181_0.out (by simp))
     have n3_:=As_ (KeepBut.blk hk (g':=gb182) (o:=.cells #[.slice none 0 0,.int .i64 0] 25 (0,0)) (zk_ BK182.out) NB182_0.out (by simp))
     have n4_:=As_ (KeepBut.blk hk (g':=gb184) (o:=.cells #[.int .i64 ((rd_T58 l1_0 a2).f0),.int .i64 ((rd_T58 l1_0 a2).f1),.slice Ao63 x185002_1.length co63] 58 (0,0)) (zk_ BK184.out) NB184_0.out (by simp))
     have n5_:=As_ (Kd.R_mono (Kd.R_keep (IsS74.apart (show IsS74 w0 _ g s0_0 t196 from zi74_3 HI0.out NB0_181.out NB0_182.out NB0_184.out) (zR_ HL203_2.out) (by decide)) hk (fun _ h=>h.2)) (fun _ h=>h.1))
     have n6_:=As_ (Kept.of_keep (S:=(fun k_=>(P1_0_ k_)∨k_=g)) (zq3 HK.out GW181.out GW182.out GW184.out) hk (.inl (.inr rfl)))
     have n7_:=As_ (hb)
     have n8_:=As_ (hi)
     clear HO_182000 HO_185002 BK181 BK182 BK184 HL203_2 HK HB HI0
     revert n0_ n1_ n2_ n3_ n4_ n5_ n6_ n7_ n8_;intro HO_182000 HO_185002 BK181 BK182 BK184 HL203_2 HK HB HI0
     refine hK.out _ _ ⟨(bkC BK184.out 0).trans rfl,(bkC BK184.out 1).trans rfl,(bkC BK184.out 2).trans rfl,(bkC BK181.out 0).trans rfl,(bkC BK181.out 1).trans rfl⟩ (fun hHeld=>?_)
     clear hK K
     refine norm_ (a':=?_) ?_ ?_
     rotate_left
     ·show Act.put _ (some 65) _=_
      simp only [Act.put,sq_,i64_w,i32_w]
      rfl
     refine one_ (i:=8) (N:=some 66) (bl_ 511 12) rfl rfl (one_of HT_.out (by kernel_rfl)) (by decide) (fun K hK=>?_)
     refine Kd.R_lit_step (Kd.int .i64) _ 3 ?hg (N:=66) ?hd (xs:=([t195,t205]:List Int)) (inner:=[.int .i64 t195,.int .i64 t205]) (ok:=fun _=>True) (okp:=fun _=>True) ?hr ?hp (fun _ hk=>hk) trivial (Below.refl _ _) (Nat.le_refl _) (by simp) ?_;(case hd=>rfl);(case hg=>rfl);(case hr=>go_simp <;> rfl);(case hp=>exact (Reps.one (show Kd.M (Kd.int .i64) _ _ _ t195 [.int .i64 t195] from rfl) (Reps.one (show Kd.M (Kd.int .i64) _ _ _ t205 [.int .i64 t205] from rfl) (Reps.none _ _))))
     intro v208 w70 ho71 hb hg_ hnew_
     clear hg_ hnew_
     (first|rw [← Ny207.out] at ho71|(simp only [Int.reduceToNat] at ho71;rw [← Ny207.out] at ho71))
     have n0_:=As_ (Kd.S_elder' (zS_ HO_182000.out) (Kd.R_base ho71) hb)
     have n1_:=As_ (Kd.R_elder' (zR_ HO_185002.out) (Kd.R_base ho71) hb)
     have n2_:=As_ (Kd.R_elder' (zR_ HL203_2.out) (Kd.R_base ho71) hb)
     have n3_:=As_ (Kd.R_lower (Kd.R_new' (Kd.R_new' (Kd.R_newM (M:=fun k_=>(P1_0_ k_∨w.heap.size≤k_)) ho71 (by first|exact HK.out.1|exact (show Kept w _ (fun k_=>(P1_0_ k_)∨k_=g) from zq3 HK.out GW181.out GW182.out GW184.out).1) (fun k_ h_=>.inr h_)) (Kd.R_lt (zR_ HO_185002.out))) (Kd.R_lt (zR_ HL203_2.out))) (bwZ (zb4 HB.out (IsS74.ge HI0.out) GE181.out GE182.out GE184.out)))
     have n4_:=As_ (zkb BK181.out hb)
     have n5_:=As_ (zkb BK182.out hb)
     have n6_:=As_ (zkb BK184.out hb)
     have n7_:=As_ (IsS74.below (zi74_3 HI0.out NB0_181.out NB0_182.out NB0_184.out) hb)
     have n8_:=As_ (Kept.below (S:=(fun k_=>(P1_0_ k_)∨k_=g)) (zq3 HK.out GW181.out GW182.out GW184.out) hb)
     have n9_:=As_ (bwT (zb4 HB.out (IsS74.ge HI0.out) GE181.out GE182.out GE184.out) hb)
     clear HO_182000 HO_185002 HL203_2 BK181 BK182 BK184 HI0 HK HB
     revert n0_ n1_ n2_ n3_ n4_ n5_ n6_ n7_ n8_ n9_;intro HO_182000 HO_185002 HL203_2 HO209 BK181 BK182 BK184 HI0 HK HB
     clear hb ho71
     obtain ⟨Ao73,co73,eo73⟩:=Kd.R_slice HO209.out
     (first|subst eo73|(injection eo73 with f1_ f2_ f3_;have f4_:=f1_.symm;have f5_:=f3_.symm;clear f1_ f2_ f3_;subst f4_;subst f5_))
     refine hK.out _ _ ⟨(bkC BK184.out 0).trans rfl,(bkC BK184.out 1).trans rfl,(bkC BK184.out 2).trans rfl,(bkC BK181.out 0).trans rfl,(bkC BK181.out 1).trans rfl⟩ (fun hHeld=>?_)
     clear hK K
     refine norm_ (a':=?_) ?_ ?_
     rotate_left
     ·show Act.put _ (some 66) _=_
      simp only [Act.put,sq_,i64_w,i32_w]
      rfl
     refine one_ (i:=9) (N:=some 67) (bl_ 1023 12) rfl rfl (one_of HT_.out (by kernel_rfl)) (by decide) (fun K hK=>?_)
     refine Kd.R_append_rows_step (Kd.int .i64) (w0:=w0) w0.heap.size (by rfl) (.tmp 59) (.tmp 66) 26 3 (.int .i64 0) 8 rfl Try.underlying26 info3 rfl (by decide) (by omega) (.slice Ao63 x185002_1.length co63) x185002_1 y207 _ _ _ (fun k_=>(P1_0_ k_∨w.heap.size≤k_)∧some k_≠(.slice Ao73 y207.length co73:Value).ownBlock) (fun _=>False) rfl rfl ?aO ?aR (fun _ _ h=>h) (fun _ h=>h.elim) ?aF ?aB ?aS ?aL ?_
     (case aR=>exact zC_ (Kd.R_reads' HO209.out).2.2)
     (case aB=>exact (zb4 HB.out (IsS74.ge HI0.out) GE181.out GE182.out GE184.out))
     (case aF=>exact (fun k_ hk=>⟨(.inr (Nat.le_trans (by first|exact HK.out.1|exact (show Kept w _ (fun k_=>(P1_0_ k_)∨k_=g) from zq3 HK.out GW181.out GW182.out GW184.out).1) hk)),Kd.fresh' (Kd.R_lt (zR_ HO209.out)) k_ hk⟩))
     (case aO=>exact (zR_ HO_185002.out))
     (case aS=>exact (bwZ (zb4 HB.out (IsS74.ge HI0.out) GE181.out GE182.out GE184.out)))
     (case aL=>have:=LMc58.out;omega)
     intro v211 w72 ho hb hg hat
     rw [← Ny210.out] at ho
     have n0_:=As_ (Kd.S_after (ok:=(fun k_=>(P1_0_ k_∨w.heap.size≤k_)∧some k_≠(.slice Ao73 y207.length co73:Value).ownBlock∧k_≠gb184)) (by (with_reducible repeat (first|apply Kd.S_alloc|apply Kd.S_drewN|apply Kd.S_drew));exact Kd.S_mono HO_182000.out (fun _ hk=>⟨⟨hk.1.1,⟨hk.2,hk.1.2.2⟩⟩,hk.1.2.1⟩)) hg hat)
     have n1_:=As_ (blk_grown (g:=gb181) (o:=.cells #[.slice (some ad183) l1_0.length co7,.int .i64 a1_1] 25 (0,0)) (zk_ BK181.out) hg (Kd.R_ne HO_185002.out BK181.out (by decide)))
     have n2_:=As_ (blk_grown (g:=gb182) (o:=.cells #[.slice none 0 0,.int .i64 0] 25 (0,0)) (zk_ BK182.out) hg (Kd.R_ne HO_185002.out BK182.out (by decide)))
     have n3_:=As_ (blk_grown (g:=gb184) (o:=.cells #[.int .i64 ((rd_T58 l1_0 a2).f0),.int .i64 ((rd_T58 l1_0 a2).f1),.slice Ao63 x185002_1.length co63] 58 (0,0)) (zk_ BK184.out) hg (Kd.R_ne HO_185002.out BK184.out (by decide)))
     have n4_:=As_ (IsS74.grown (zi74_3 HI0.out NB0_181.out NB0_182.out NB0_184.out) hg (IsS74.own_ne HI0.out HO_185002.out (by decide)))
     have n5_:=As_ (Kd.R_after (ok:=(fun k_=>(P1_0_ k_∨w.heap.size≤k_)∧some k_≠(.slice (some ad183) l1_0.length co7:Value).ownBlock∧some k_≠(.slice Ao73 y207.length co73:Value).ownBlock∧k_≠gb184)) (by (with_reducible repeat (first|apply Kd.R_alloc|apply Kd.R_drewN|apply Kd.R_drew));exact Kd.R_mono HL203_2.out (fun _ hk=>⟨⟨hk.1.1.1,⟨hk.1.2,⟨hk.2,hk.1.1.2.2⟩⟩⟩,hk.1.1.2.1⟩)) hg hat)
     have n6_:=As_ (Kd.R_after (ok:=(fun k_=>(P1_0_ k_∨w.heap.size≤k_)∧some k_≠(.slice A203_2 ((rd_T58 l1_0 t195).f2).length c203_2:Value).ownBlock)) (by (with_reducible repeat (first|apply Kd.R_alloc|apply Kd.R_drewN|apply Kd.R_drew));exact Kd.R_mono HO209.out (fun _ hk=>⟨⟨hk.1.1.1,hk.2⟩,hk.1.2⟩)) hg hat)
     have n7_:=As_ (hb)
     have n8_:=As_ (Kept.of_grown (S:=(fun k_=>(P1_0_ k_)∨k_=g)) hg (zq3 HK.out GW181.out GW182.out GW184.out) (fun k_ e_=>Or.imp_left Or.inl ((HO_185002.out.1 k_ e_).1)))
     have n9_:=As_ (ho)
     clear HO_182000 BK181 BK182 BK184 HI0 HL203_2 HO209 HB HK HO_185002
     revert n0_ n1_ n2_ n3_ n4_ n5_ n6_ n7_ n8_ n9_;intro HO_182000 BK181 BK182 BK184 HI0 HL203_2 HO209 HB HK HO212
     clear ho hb hg hat
     obtain ⟨Ao74,co74,eo74⟩:=Kd.R_slice HO212.out
     (first|subst eo74|(injection eo74 with f1_ f2_ f3_;have f4_:=f1_.symm;have f5_:=f3_.symm;clear f1_ f2_ f3_;subst f4_;subst f5_))
     refine hK.out _ _ ⟨(bkC BK184.out 0).trans rfl,(bkC BK184.out 1).trans rfl,(bkC BK184.out 2).trans rfl,(bkC BK181.out 0).trans rfl,(bkC BK181.out 1).trans rfl⟩ (fun hHeld=>?_)
     clear hK K
     refine norm_ (a':=?_) ?_ ?_
     rotate_left
     ·show Act.put _ (some 67) _=_
      simp only [Act.put,sq_,i64_w,i32_w]
      rfl
     refine pQ 10 68 (bl_ 2047 12) HT_ rfl ?_
     refine last_ (i:=11) (N:=none) (bl_ 4095 12) rfl rfl (one_of HT_.out (by kernel_rfl)) (by decide) (fun K hK=>?_)
     have hs75:w72.cell? ⟨gb184,2,none⟩=some (.slice Ao63 x185002_1.length co63):=(bkC BK184.out 2).trans rfl
     have hfs75:=bkF BK184.out 2
     have hns75_0:=NB181_184.out
     have hns75_1:=NB182_184.out
     have hms75_0:=NB184_181.out
     have hms75_1:=NB184_182.out
     refine skip_ (w1:=?_) (by rfl) rfl ?_ ?_
     rotate_left
     ·go_simp
      rfl
     refine hK.out _ _ ?_
     clear hK K
     refine done_ (done_of HT_.out (by kernel_rfl)) ?_
     try go_wp2
     go_roundg kj23
     case measure=>have:=HK1.out;have:=HJ23.out;omega
     case rel=>exact ⟨(wrap64 (x8_1 - 1)),(t206),(y210),(.slice Ao74 y210.length co74),zT_,H',⟨fun e_=>absurd e_ (by rw [Ny210.out];first|(simp;done)|(rw [Ny185.out];simp;done)|(rw [Ny197.out];simp;done)|(rw [Ny200.out];simp;done)|(rw [Ny207.out];simp;done))⟩,⟨by have:=HK1.out;have:=HJ23.out;omega⟩,⟨by (with_reducible repeat (first|apply Kd.S_alloc|apply Kd.S_drewN|apply Kd.S_drew));exact Kd.S_mono (Kd.S_far (p:=⟨gb184,2,none⟩) (Kd.S_mono HO_182000.out (fun k_ hk=>(⟨hk,hk.1.2.2⟩:_∧k_≠gb184))) (fun _ hk=>hk.2) (.slice Ao74 y210.length co74)) (fun _ hk=>⟨hk.1.1.1,⟨hk.1.2,hk.1.1.2.2⟩⟩)⟩,⟨by (with_reducible repeat (first|apply Kd.R_alloc|apply Kd.R_drewN|apply Kd.R_drew));exact Kd.R_mono (Kd.R_far (p:=⟨gb184,2,none⟩) (Kd.R_types HO212.out BK184.out (by decide)) (fun _ hk=>hk.2) (.slice Ao74 y210.length co74)) (fun _ hk=>hk.1.1)⟩,⟨by (with_reducible repeat first|apply bkN|apply bkD|apply bkA);refine blk_far ?_ NB181_184.out _;(with_reducible repeat first|apply bkN|apply bkD|apply bkA);exact BK181.out⟩,⟨by (with_reducible repeat first|apply bkN|apply bkD|apply bkA);refine blk_far ?_ NB182_184.out _;(with_reducible repeat first|apply bkN|apply bkD|apply bkA);exact BK182.out⟩,⟨by (with_reducible repeat first|apply bkN|apply bkD|apply bkA);refine blk_put (cs:=#[.int .i64 ((rd_T58 l1_0 a2).f0),.int .i64 ((rd_T58 l1_0 a2).f1),.slice Ao63 x185002_1.length co63]) ?_ 2 _ rfl;(with_reducible repeat first|apply bkN|apply bkD|apply bkA);exact BK184.out⟩,⟨zi74_3 HI0.out NB0_181.out NB0_182.out NB0_184.out⟩,⟨zq3 HK.out GW181.out GW182.out GW184.out⟩,⟨zb4 HB.out (IsS74.ge HI0.out) GE181.out GE182.out GE184.out⟩⟩
def spec_addKids.f (k:Nat) (s0_0:List Int) (s0_1:Int) (l1_0:List S58) (a1_1:Int) (a2:Int):Option ((List S58) × Int × Int):=if (rd_T58 l1_0 a2).f2=[] then spec_addKids.f0 k s0_0 s0_1 l1_0 a1_1 a2 else none
set_option maxRecDepth 100000 in
theorem spec_addKids.mono:∀ a0 a1 a2 a3 a4 k,LeO (spec_addKids.f k a0 a1 a2 a3 a4) (spec_addKids.f (k+1) a0 a1 a2 a3 a4):=by
 intro a0 a1 a2 a3 a4 k
 unfold spec_addKids.f
 split
 ·exact spec_addKids.mono0 a0 a1 a2 a3 a4 k
 ·intro r h
  cases h
theorem spec_addKids.calls (k:Nat) (g:Nat) (s0_0:List Int) (s0_1:Int) (P1_0_:Nat→Prop) (u9000_:Value) (l1_0:List (S58)) (a1_1:Int) (a2:Int) (r1:List (S58)) (r2:Int) (r3:Int) (w0 w:World) (hI:IsS74 w0 w g s0_0 s0_1) (hB:Below w0.heap.size w0 w) (ho1_0:Kd.S kzN 58 w w0.heap.size P1_0_ u9000_ l1_0) (h:spec_addKids.f k s0_0 s0_1 l1_0 a1_1 a2=some (r1,r2,r3)) :
  Calls Try.prog 97 #[.pointer (some ⟨g,0,none⟩),.agg #[u9000_,.int .i64 a1_1],.int .i64 a2] w fun e w'=>∃ v0_:Value,e=.returned (.agg #[v0_,.int .i64 r2])∧Kd.S kzN 58 w' w0.heap.size (fun k_=>(P1_0_ k_∨w.heap.size≤k_)) v0_ r1∧IsS74 w0 w' g s0_0 r3∧Below w0.heap.size w0 w'∧Kept w w' (fun k_=>(P1_0_ k_)∨k_=g):=by
 unfold spec_addKids.f at h
 by_cases hz:(rd_T58 l1_0 a2).f2=[]
 ·rw [if_pos hz] at h
  exact spec_addKids.calls0 k g s0_0 s0_1 P1_0_ u9000_ l1_0 a1_1 a2 r1 r2 r3 w0 w hI hB ho1_0 hz h
 rw [if_neg hz] at h
 cases h
end Go.Proofs.Ytapaegcombfafaa.Q
