import Derived.Test.YtapaegcombfafaaQ0
import Derived.Test.YtapaegcombfafaaQ49
import Derived.Test.YtapaegcombfafaaQ58
namespace Go.Proofs.Ytapaegcombfafaa.Q
open Go.RowKit Go.Proofs.YtapaegcombfafaaW.PrintWords Go.Proofs.YtapaegcombfafaaW.PrintLast Go.Proofs.YtapaegcombfafaaW.PrintMore
attribute [local go_sem] max2_int min2_int max_two min_two max_three min_three max_four min_four
set_option linter.unusedVariables false
set_option linter.unusedSimpArgs false
mutual
def spec_RenumberGraph.j0:Nat→List Int→Bool→List (S58)→Int→Option ((List (S58)) × Int)
 | 0,_,_,_,_=>none
 | k+1,x1,x27,x796000,x796001=>if x27=true then (some (([]:List (S58)),0)) else (if 0≤(x1.length:Int) then (if ((x1.length:Int):Int).toNat≤7036874417766 then (if 0≤x796001 then (if x796001<(x1.length:Int) then (spec_RenumberGraph.l0 k x1 0 x796000 x796001 (List.replicate ((x1.length:Int):Int).toNat z58) (rd x1 x796001)) else (none)) else (none)) else (none)) else (none))
def spec_RenumberGraph.l0:Nat→List Int→Int→List (S58)→Int→List (S58)→Int→Option ((List (S58)) × Int)
 | 0,_,_,_,_,_,_=>none
 | k+1,x1,x6,x796000,x796001,x804000,x804001=>if x6<(x1.length:Int) then (if 0≤x6 then (if x6≤(x1.length:Int) then ((spec_placeIn.f k (x1.take (x6:Int).toNat) (rd x1 x6)).bind fun t806=>(if t806≥0 then (some (([]:List (S58)),0)) else (if x6<(x796000.length:Int) then (spec_RenumberGraph.l1 k x1 x6 0 x796000 x796001 x804000 x804001 ((rd_T58 x796000 x6).f0) ((rd_T58 x796000 x6).f1) ([]:List Int)) else (none)))) else (none)) else (none)) else (some (x804000,x804001))
def spec_RenumberGraph.l1:Nat→List Int→Int→Int→List (S58)→Int→List (S58)→Int→Int→Int→List Int→Option ((List (S58)) × Int)
 | 0,_,_,_,_,_,_,_,_,_,_=>none
 | k+1,x1,x6,x8,x796000,x796001,x804000,x804001,x810000,x810001,x810002=>if 0≤x6 then (if x6<(x796000.length:Int) then (if x8<(((rd_T58 x796000 x6).f2).length:Int) then (if 0≤x8 then (if 0≤(rd ((rd_T58 x796000 x6).f2) x8) then (if (rd ((rd_T58 x796000 x6).f2) x8)<(x1.length:Int) then (if x810002.length<17592186044416 then (spec_RenumberGraph.l1 k x1 x6 (wrap64 (x8+1)) x796000 x796001 x804000 x804001 x810000 x810001 (x810002++[rd x1 (rd ((rd_T58 x796000 x6).f2) x8)])) else (none)) else (none)) else (none)) else (none)) else (if x6<(x1.length:Int) then (if 0≤(rd x1 x6) then (if (rd x1 x6)<(x804000.length:Int) then (spec_RenumberGraph.l0 k x1 (wrap64 (x6+1)) x796000 x796001 (x804000.set ((rd x1 x6):Int).toNat (⟨x810000,x810001,x810002⟩:S58)) x804001) else (none)) else (none)) else (none))) else (none)) else (none)
end
def spec_RenumberGraph.f (k:Nat) (l0_0:List (S58)) (a0_1:Int) (l1:List Int):Option ((List (S58)) × Int):=(spec_validGraph.f k l0_0 a0_1).bind fun t797=>(if t797=true then (if (l1.length:Int)=(l0_0.length:Int) then ((spec_allIn.f k l1 0 (wrap64 ((l1.length:Int) - 1))).bind fun t798=>(spec_RenumberGraph.j0 k l1 (!t798) l0_0 a0_1)) else (spec_RenumberGraph.j0 k l1 true l0_0 a0_1)) else (spec_RenumberGraph.j0 k l1 true l0_0 a0_1))
set_option maxRecDepth 100000 in
theorem spec_RenumberGraph.mono_l:∀ k,(∀ y0 y1 y2 y3,LeO (spec_RenumberGraph.j0 k y0 y1 y2 y3) (spec_RenumberGraph.j0 (k+1) y0 y1 y2 y3))∧(∀ y0 y1 y2 y3 y4 y5,LeO (spec_RenumberGraph.l0 k y0 y1 y2 y3 y4 y5) (spec_RenumberGraph.l0 (k+1) y0 y1 y2 y3 y4 y5))∧(∀ y0 y1 y2 y3 y4 y5 y6 y7 y8 y9,LeO (spec_RenumberGraph.l1 k y0 y1 y2 y3 y4 y5 y6 y7 y8 y9) (spec_RenumberGraph.l1 (k+1) y0 y1 y2 y3 y4 y5 y6 y7 y8 y9))
 | 0=>⟨fun _ _ _ _ r h=>(by cases h),fun _ _ _ _ _ _ r h=>(by cases h),fun _ _ _ _ _ _ _ _ _ _ r h=>(by cases h)⟩
 | k+1=>by
  obtain ⟨ih0,ih1,ih2⟩:=spec_RenumberGraph.mono_l k
  refine ⟨?_,?_,?_⟩
  ·intro y0 y1 y2 y3
   unfold spec_RenumberGraph.j0
   repeat' first
   | (with_reducible exact ih0 _ _ _ _)
   | (with_reducible exact ih1 _ _ _ _ _ _)
   | (with_reducible exact ih2 _ _ _ _ _ _ _ _ _ _)
   | (with_reducible exact spec_allIn.mono _ _ _ _)
   | (with_reducible exact spec_placeIn.mono _ _ _)
   | (with_reducible exact spec_validGraph.mono _ _ _)
   | (with_reducible exact LeO.refl _)
   | (with_reducible exact LeO.none _)
   | (with_reducible refine LeO.ite ?_ ?_)
   | (with_reducible refine LeO.bind ?_ (fun _=>?_))
   | exact ih0 _ _ _ _
   | exact ih1 _ _ _ _ _ _
   | exact ih2 _ _ _ _ _ _ _ _ _ _
   | exact spec_allIn.mono _ _ _ _
   | exact spec_placeIn.mono _ _ _
   | exact spec_validGraph.mono _ _ _
   | exact LeO.none _
   | refine LeO.ite ?_ ?_
   | refine LeO.bind ?_ (fun _=>?_)
  ·intro y0 y1 y2 y3 y4 y5
   unfold spec_RenumberGraph.l0
   repeat' first
   | (with_reducible exact ih0 _ _ _ _)
   | (with_reducible exact ih1 _ _ _ _ _ _)
   | (with_reducible exact ih2 _ _ _ _ _ _ _ _ _ _)
   | (with_reducible exact spec_allIn.mono _ _ _ _)
   | (with_reducible exact spec_placeIn.mono _ _ _)
   | (with_reducible exact spec_validGraph.mono _ _ _)
   | (with_reducible exact LeO.refl _)
   | (with_reducible exact LeO.none _)
   | (with_reducible refine LeO.ite ?_ ?_)
   | (with_reducible refine LeO.bind ?_ (fun _=>?_))
   | exact ih0 _ _ _ _
   | exact ih1 _ _ _ _ _ _
   | exact ih2 _ _ _ _ _ _ _ _ _ _
   | exact spec_allIn.mono _ _ _ _
   | exact spec_placeIn.mono _ _ _
   | exact spec_validGraph.mono _ _ _
   | exact LeO.none _
   | refine LeO.ite ?_ ?_
   | refine LeO.bind ?_ (fun _=>?_)
  ·intro y0 y1 y2 y3 y4 y5 y6 y7 y8 y9
   unfold spec_RenumberGraph.l1
   repeat' first
   | (with_reducible exact ih0 _ _ _ _)
   | (with_reducible exact ih1 _ _ _ _ _ _)
   | (with_reducible exact ih2 _ _ _ _ _ _ _ _ _ _)
   | (with_reducible exact spec_allIn.mono _ _ _ _)
   | (with_reducible exact spec_placeIn.mono _ _ _)
   | (with_reducible exact spec_validGraph.mono _ _ _)
   | (with_reducible exact LeO.refl _)
   | (with_reducible exact LeO.none _)
   | (with_reducible refine LeO.ite ?_ ?_)
   | (with_reducible refine LeO.bind ?_ (fun _=>?_))
   | exact ih0 _ _ _ _
   | exact ih1 _ _ _ _ _ _
   | exact ih2 _ _ _ _ _ _ _ _ _ _
   | exact spec_allIn.mono _ _ _ _
   | exact spec_placeIn.mono _ _ _
   | exact spec_validGraph.mono _ _ _
   | exact LeO.none _
   | refine LeO.ite ?_ ?_
   | refine LeO.bind ?_ (fun _=>?_)
set_option maxRecDepth 100000 in
theorem spec_RenumberGraph.mono:∀ a0 a1 a2 k,LeO (spec_RenumberGraph.f k a0 a1 a2) (spec_RenumberGraph.f (k+1) a0 a1 a2):=by
 intro a0 a1 a2 k
 obtain ⟨ih0,ih1,ih2⟩:=spec_RenumberGraph.mono_l k
 unfold spec_RenumberGraph.f
 repeat' first
   | (with_reducible exact ih0 _ _ _ _)
   | (with_reducible exact ih1 _ _ _ _ _ _)
   | (with_reducible exact ih2 _ _ _ _ _ _ _ _ _ _)
   | (with_reducible exact spec_allIn.mono _ _ _ _)
   | (with_reducible exact spec_placeIn.mono _ _ _)
   | (with_reducible exact spec_validGraph.mono _ _ _)
   | (with_reducible exact LeO.refl _)
   | (with_reducible exact LeO.none _)
   | (with_reducible refine LeO.ite ?_ ?_)
   | (with_reducible refine LeO.bind ?_ (fun _=>?_))
   | exact ih0 _ _ _ _
   | exact ih1 _ _ _ _ _ _
   | exact ih2 _ _ _ _ _ _ _ _ _ _
   | exact spec_allIn.mono _ _ _ _
   | exact spec_placeIn.mono _ _ _
   | exact spec_validGraph.mono _ _ _
   | exact LeO.none _
   | refine LeO.ite ?_ ?_
   | refine LeO.bind ?_ (fun _=>?_)
def spec_RenumberGraph.T3:Bool × List (List Nat × List Nat):=(true,[([],[]),([0],[0]),([1,1],[1]),([],[]),([],[]),([4],[4]),([3,5],[3,5]),([6],[6]),([2,7],[2,7]),([],[]),([9,8,0,1,2,3,4,5,6,7,8,9],[8,9])])
def spec_RenumberGraph.B3:List Nat:=[0,1,3,0,0,16,56,120,255,0,1023]
theorem spec_RenumberGraph.tab3:rtab .any (opsOf Try.f30 3)=spec_RenumberGraph.T3:=by kernel_rfl
theorem spec_RenumberGraph.bits3:waitsOk spec_RenumberGraph.T3.2 spec_RenumberGraph.B3=true:=by kernel_rfl
def spec_RenumberGraph.T7:Bool × List (List Nat × List Nat):=(true,[([],[]),([],[]),([0,1],[0,1]),([],[]),([],[]),([3,4],[3,4]),([5],[5]),([2,6],[2,6]),([7],[7])])
def spec_RenumberGraph.B7:List Nat:=[0,0,3,0,0,24,56,127,255]
theorem spec_RenumberGraph.tab7:rtab .any (opsOf Try.f30 7)=spec_RenumberGraph.T7:=by kernel_rfl
theorem spec_RenumberGraph.bits7:waitsOk spec_RenumberGraph.T7.2 spec_RenumberGraph.B7=true:=by kernel_rfl
def spec_RenumberGraph.T9:Bool × List (List Nat × List Nat):=(true,[([],[]),([0],[0]),([],[]),([1,2],[1,2]),([3],[3]),([4],[4]),([],[]),([6],[6]),([],[]),([7,8],[7,8]),([9],[9]),([10],[10]),([5,11],[5,11]),([],[]),([13,12,0,1,2,3,4,5,6,7,8,9,10,11,12,13],[12,13])])
def spec_RenumberGraph.B9:List Nat:=[0,1,0,7,15,31,0,64,0,448,960,1984,4095,0,16383]
theorem spec_RenumberGraph.tab9:rtab .any (opsOf Try.f30 9)=spec_RenumberGraph.T9:=by kernel_rfl
theorem spec_RenumberGraph.bits9:waitsOk spec_RenumberGraph.T9.2 spec_RenumberGraph.B9=true:=by kernel_rfl
def spec_RenumberGraph.T13:Bool × List (List Nat × List Nat):=(true,[([],[]),([0],[0]),([],[]),([],[]),([3],[3]),([],[]),([4,5],[4,5]),([6],[6]),([7],[7]),([],[]),([8,9],[8,9]),([10],[10]),([2,11],[2,11]),([12],[12]),([13],[13]),([1,14],[1,14]),([0,1,2,3,4,5,6,7,8,9,10,11,12,13,14,15],[]),([16,15,15,0,1,2,3,4,5,6,7,8,9,10,11,12,13,14,15],[15,16])])
def spec_RenumberGraph.B13:List Nat:=[0,1,0,0,8,0,56,120,248,0,1016,2040,4092,8188,16380,32767,65535,131071]
theorem spec_RenumberGraph.tab13:rtab .any (opsOf Try.f30 13)=spec_RenumberGraph.T13:=by kernel_rfl
theorem spec_RenumberGraph.bits13:waitsOk spec_RenumberGraph.T13.2 spec_RenumberGraph.B13=true:=by kernel_rfl
def spec_RenumberGraph.T14:Bool × List (List Nat × List Nat):=(true,[([],[]),([0],[0]),([],[]),([],[]),([2,3],[2,3]),([4],[4]),([],[]),([1,5,0,1,2,3,4,5,6],[1,5]),([7,6,0,1,2,3,4,5,6],[6,7])])
def spec_RenumberGraph.B14:List Nat:=[0,1,0,0,12,28,0,127,255]
theorem spec_RenumberGraph.tab14:rtab .any (opsOf Try.f30 14)=spec_RenumberGraph.T14:=by kernel_rfl
theorem spec_RenumberGraph.bits14:waitsOk spec_RenumberGraph.T14.2 spec_RenumberGraph.B14=true:=by kernel_rfl
set_option maxHeartbeats 8000000 in
set_option maxRecDepth 100000 in
theorem spec_RenumberGraph.calls (k:Nat) (A0_0:Option Addr) (c0_0:Nat) (l0_0:List (S58)) (a0_1:Int) (A1:Option Addr) (c1:Nat) (l1:List Int) (r1:List (S58)) (r2:Int) (w:World) (hr0_0:Kd.C k58 w A0_0 l0_0.length l0_0) (hc0_0:l0_0.length≤c0_0) (hr1:Kd.C (Kd.int .i64) w A1 l1.length l1) (hc1:l1.length≤c1) (h:spec_RenumberGraph.f k l0_0 a0_1 l1=some (r1,r2)) :
  Calls Try.prog 30 #[.agg #[.slice A0_0 l0_0.length c0_0,.int .i64 a0_1],.slice A1 l1.length c1] w fun e w'=>∃ v0_:Value,e=.returned (.agg #[v0_,.int .i64 r2])∧Kd.S k58 58 w' w.heap.size (fun _=>True) v0_ r1∧Below w.heap.size w w':=by
 have hu25:=Try.underlying25
 have hu58:=Try.underlying58
 have HR0_0:=As_ hr0_0
 have HC0_0:=As_ hc0_0
 clear hr0_0 hc0_0
 have HR1:=As_ hr1
 have HC1:=As_ hc1
 clear hr1 hc1
 have HB:=As_ (Below.refl w.heap.size w)
 have H:((spec_validGraph.f k l0_0 a0_1).bind fun t797=>(if t797=true then (if (l1.length:Int)=(l0_0.length:Int) then ((spec_allIn.f k l1 0 (wrap64 ((l1.length:Int) - 1))).bind fun t798=>(spec_RenumberGraph.j0 k l1 (!t798) l0_0 a0_1)) else (spec_RenumberGraph.j0 k l1 true l0_0 a0_1)) else (spec_RenumberGraph.j0 k l1 true l0_0 a0_1)))=some (r1,r2):=h
 clear h
 have HC3:=As_ H
 clear H
 go_enter Try.func30,Try.ntmps30
 go_upto_region 1 with (first|((with_reducible refine gate_dst (N:=2) rfl ?_);(try (refine gate_guard (by rfl) ?_;dsimp only));refine box_event ?hg (N:=2) ?hd (cs:=#[.slice A0_0 l0_0.length c0_0,.int .i64 a0_1]) (t:=25) ?hr ?_;(case hd=>rfl);(case hg=>rfl);(case hr=>go_simp <;> rfl);intro gb795 hg w4 hbox hb;have n0_:=As_ (bwT (zb0 HB.out) hb);have n1_:=As_ (hbox);have n2_:=As_ ((by rw [hg];exact (bwZ (zb0 HB.out)):w.heap.size≤gb795));have n3_:=As_ ((by rw [hg];exact (bwZ (zb0 HB.out)):w.heap.size≤gb795));clear HB;revert n0_ n1_ n2_ n3_;intro HB BK795 GW795 GE795;clear hb hbox hg)|((with_reducible refine gate_dst (N:=4) rfl ?_);(try (refine gate_guard (by rfl) ?_;dsimp only));refine box_event ?hg (N:=4) ?hd (cs:=#[.slice none 0 0,.int .i64 0]) (t:=25) ?hr ?_;(case hd=>rfl);(case hg=>rfl);(case hr=>go_simp <;> rfl);intro gb796 hg w5 hbox hb;have n0_:=As_ (zkb BK795.out hb);have n1_:=As_ (bwT (zb1 HB.out GE795.out) hb);have n2_:=As_ (hbox);have n3_:=As_ ((by rw [hg];exact (bwZ (zb1 HB.out GE795.out)):w.heap.size≤gb796));have n4_:=As_ ((by rw [hg];exact (bwZ (zb1 HB.out GE795.out)):w.heap.size≤gb796));have n5_:=As_ ((by rw [hg];exact Nat.ne_of_lt (zkl BK795.out):gb795≠gb796));have n6_:=As_ ((by rw [hg];exact Nat.ne_of_gt (zkl BK795.out):gb796≠gb795));clear BK795 HB;revert n0_ n1_ n2_ n3_ n4_ n5_ n6_;intro BK795 HB BK796 GW796 GE796 NB795_796 NB796_795;clear hb hbox hg))
 (try simp only [Act.put,List.setIfInBounds_toArray,List.set_cons_zero,List.set_cons_succ])
 go_cut [27] (fun v27 wc=>∃ (kq:Nat) (x27_2:Bool),v27=.bool x27_2∧Aside0 (spec_RenumberGraph.j0 kq l1 x27_2 l0_0 a0_1=some (r1,r2))∧Aside0 (kq≤k)∧Aside0 (wc.heap[gb795]?=some (.cells #[(.slice A0_0 l0_0.length c0_0),.int .i64 a0_1] 25 (0,0)))∧Aside0 (wc.heap[gb796]?=some (.cells #[(.slice none 0 0),.int .i64 0] 25 (0,0)))∧Aside0 (Below w.heap.size w wc))
 case first=>
  have H:=HC3.out
  clear HC3
  replace H:=obS H
  obtain ⟨t797,A60,H⟩:=H
  replace H:(if t797=true then (if (l1.length:Int)=(l0_0.length:Int) then ((spec_allIn.f k l1 0 (wrap64 ((l1.length:Int) - 1))).bind fun t798=>(spec_RenumberGraph.j0 k l1 (!t798) l0_0 a0_1)) else (spec_RenumberGraph.j0 k l1 true l0_0 a0_1)) else (spec_RenumberGraph.j0 k l1 true l0_0 a0_1))=some (r1,r2):=H
  have A6:=As_ A60
  clear A60
  by_cases c7:t797=true
  rotate_left
  ·replace c7:=Bool.eq_false_iff.mpr c7
   subst c7
   have H1:(spec_RenumberGraph.j0 k l1 true l0_0 a0_1)=some (r1,r2):=by rw [if_neg (show ¬ (false=true) by decide)] at H;exact H
   clear H
   have H:=H1
   clear H1
   have H':=As_ H
   clear H
   have hnb18:=NB795_796.out
   have hnc18:=NB796_795.out
   obtain ⟨hcz19_0,hcz19_1,hfz19_0,hfz19_1⟩:=bk2 BK795.out
   go_wp2_with (first|((with_reducible refine gate_callee (f:=49) rfl ?_);refine goesL_ (some 10) rfl rfl Try.func49 (by kernel_rfl) rfl #[.agg #[.slice A0_0 l0_0.length c0_0,.int .i64 a0_1]] rfl zM_ ?_;(with_reducible refine (spec_validGraph.calls k _ _ l0_0 a0_1 false _ ?side1 ?side2 A6.out).mono ?_);(case side1=>exact zC_ (Kd.C_below HR0_0.out HB.out));(case side2=>exact HC0_0.out);rintro e w20 ⟨rfl,hb⟩;refine ⟨_,rfl,?_⟩;have n0_:=As_ (zkb BK795.out hb);have n1_:=As_ (zkb BK796.out hb);have n2_:=As_ (bwT (zb2 HB.out GE795.out GE796.out) hb);clear BK795 BK796 HB;revert n0_ n1_ n2_;intro BK795 BK796 HB))
   go_meet
   case rel=>exact ⟨_,(true),zT_,H',⟨by first|omega|exact Nat.le_refl _⟩,⟨by (with_reducible repeat first|apply bkN|apply bkD|apply bkA);exact BK795.out⟩,⟨by (with_reducible repeat first|apply bkN|apply bkD|apply bkA);exact BK796.out⟩,⟨zb2 HB.out GE795.out GE796.out⟩⟩
  subst c7
  have H1:(if (l1.length:Int)=(l0_0.length:Int) then ((spec_allIn.f k l1 0 (wrap64 ((l1.length:Int) - 1))).bind fun t798=>(spec_RenumberGraph.j0 k l1 (!t798) l0_0 a0_1)) else (spec_RenumberGraph.j0 k l1 true l0_0 a0_1))=some (r1,r2):=by rw [if_pos rfl] at H;exact H
  clear H
  have H:=H1
  clear H1
  by_cases c8:(l1.length:Int)=(l0_0.length:Int)
  rotate_left
  ·rw [if_neg c8] at H
   have c8b0:((l1.length:Int) == (l0_0.length:Int))=false:=beq_eq_false_iff_ne.mpr c8
   have c8b1:((l1.length:Int) != (l0_0.length:Int))=true:=bne_iff_ne.mpr c8
   have c8b2:(l1.length == l0_0.length)=false:=by first|simpa using c8|(simp at c8 ⊢;omega)
   (first|rw [c8b0]|(simp only [i64_w,i32_w];rw [c8b0])|skip)
   have H':=As_ H
   clear H
   have hnb14:=NB795_796.out
   have hnc14:=NB796_795.out
   obtain ⟨hcz15_0,hcz15_1,hfz15_0,hfz15_1⟩:=bk2 BK795.out
   go_wp2_with (first|((with_reducible refine gate_callee (f:=49) rfl ?_);refine goesL_ (some 10) rfl rfl Try.func49 (by kernel_rfl) rfl #[.agg #[.slice A0_0 l0_0.length c0_0,.int .i64 a0_1]] rfl zM_ ?_;(with_reducible refine (spec_validGraph.calls k _ _ l0_0 a0_1 true _ ?side1 ?side2 A6.out).mono ?_);(case side1=>exact zC_ (Kd.C_below HR0_0.out HB.out));(case side2=>exact HC0_0.out);rintro e w16 ⟨rfl,hb⟩;refine ⟨_,rfl,?_⟩;have n0_:=As_ (zkb BK795.out hb);have n1_:=As_ (zkb BK796.out hb);have n2_:=As_ (bwT (zb2 HB.out GE795.out GE796.out) hb);clear BK795 BK796 HB;revert n0_ n1_ n2_;intro BK795 BK796 HB;obtain ⟨hcz17_0,hcz17_1,hfz17_0,hfz17_1⟩:=bk2 BK795.out))
   go_meet
   case rel=>exact ⟨_,(true),zT_,H',⟨by first|omega|exact Nat.le_refl _⟩,⟨by (with_reducible repeat first|apply bkN|apply bkD|apply bkA);exact BK795.out⟩,⟨by (with_reducible repeat first|apply bkN|apply bkD|apply bkA);exact BK796.out⟩,⟨zb2 HB.out GE795.out GE796.out⟩⟩
  rw [if_pos c8] at H
  have c8b0:((l1.length:Int) == (l0_0.length:Int))=true:=beq_iff_eq.mpr c8
  have c8b1:((l1.length:Int) != (l0_0.length:Int))=false:=bne_eq_false_iff_eq.mpr c8
  have c8b2:(l1.length == l0_0.length)=true:=by first|simpa using c8|(simp at c8 ⊢;omega)
  clear c8
  (first|rw [c8b0]|(simp only [i64_w,i32_w];rw [c8b0])|skip)
  replace H:=obS H
  obtain ⟨t798,A90,H⟩:=H
  replace H:(spec_RenumberGraph.j0 k l1 (!t798) l0_0 a0_1)=some (r1,r2):=H
  have A9:=As_ A90
  clear A90
  have H':=As_ H
  clear H
  have hnb10:=NB795_796.out
  have hnc10:=NB796_795.out
  obtain ⟨hcz11_0,hcz11_1,hfz11_0,hfz11_1⟩:=bk2 BK795.out
  go_wp2_with (first|((with_reducible refine gate_callee (f:=49) rfl ?_);refine goesL_ (some 10) rfl rfl Try.func49 (by kernel_rfl) rfl #[.agg #[.slice A0_0 l0_0.length c0_0,.int .i64 a0_1]] rfl zM_ ?_;(with_reducible refine (spec_validGraph.calls k _ _ l0_0 a0_1 true _ ?side1 ?side2 A6.out).mono ?_);(case side1=>exact zC_ (Kd.C_below HR0_0.out HB.out));(case side2=>exact HC0_0.out);rintro e w12 ⟨rfl,hb⟩;refine ⟨_,rfl,?_⟩;have n0_:=As_ (zkb BK795.out hb);have n1_:=As_ (zkb BK796.out hb);have n2_:=As_ (bwT (zb2 HB.out GE795.out GE796.out) hb);clear BK795 BK796 HB;revert n0_ n1_ n2_;intro BK795 BK796 HB;obtain ⟨hcz13_0,hcz13_1,hfz13_0,hfz13_1⟩:=bk2 BK795.out)|(go_at_call 57;(with_reducible refine (spec_allIn.calls k _ _ l1 0 (wrap64 ((l1.length:Int) - 1)) t798 _ ?side1 ?side2 A9.out).mono ?_);(case side1=>exact zC_ (Kd.C_below HR1.out HB.out));(case side2=>exact HC1.out);rintro e w' ⟨rfl,⟨nd,rfl⟩⟩))
  go_meet
  case rel=>exact ⟨_,(!t798),zT_,H',⟨by first|omega|exact Nat.le_refl _⟩,⟨by (with_reducible repeat first|apply bkN|apply bkD|apply bkA);exact BK795.out⟩,⟨by (with_reducible repeat first|apply bkN|apply bkD|apply bkA);exact BK796.out⟩,⟨zb2 HB.out GE795.out GE796.out⟩⟩
 case rest=>
  clear HC3
  obtain ⟨kq,x27_2,rfl,HA,HJ2,BK795,BK796,HB⟩:=hcut
  cases kq with
  | zero=>exact absurd HA.out (fun h_=>(by cases h_))
  | succ kj2=>
   have H:=HA.out
   clear HA
   simp only [spec_RenumberGraph.j0] at H
   by_cases c21:x27_2=true
   ·subst c21
    have H1:(some (([]:List (S58)),0))=some (r1,r2):=by rw [if_pos rfl] at H;exact H
    clear H
    have H:=H1
    clear H1
    simp only [Option.some.injEq,Prod.mk.injEq] at H
    obtain ⟨rfl,rfl⟩:=H
    have hnb22:=NB796_795.out
    have hnc22:=NB795_796.out
    obtain ⟨hcz23_0,hcz23_1,hfz23_0,hfz23_1⟩:=bk2 BK796.out
    go_wp2
    refine bodyPost_ret (results_cell_row rfl _ _ gb796 25 #[.slice none 0 0,.int .i64 0] (0,0) _ rfl (by (with_reducible repeat first|apply bkN|apply bkD|apply bkA);refine blk_put (cs:=#[.slice none 0 0,.int .i64 0]) ?_ 1 _ rfl;(with_reducible repeat first|apply bkN|apply bkD|apply bkA);refine blk_put (cs:=#[.slice none 0 0,.int .i64 0]) ?_ 0 _ rfl;(with_reducible repeat first|apply bkN|apply bkD|apply bkA);exact BK796.out) Try.underlying25 rfl (by kernel_rfl)) rfl ?_
    exact ⟨_,zE_,by first|exact Kd.S_nil _ _ _ _ _|exact Kd.S_nil _ _ _ _ _|exact Kd.V_nil _ _ _ _ _|exact Kd.Q_nil _ _ _ _ _|exact Kd.R_nil _ _ _ _ _,zb2 HB.out GE795.out GE796.out⟩
   replace c21:=Bool.eq_false_iff.mpr c21
   subst c21
   have H1:(if 0≤(l1.length:Int) then (if ((l1.length:Int):Int).toNat≤7036874417766 then (if 0≤a0_1 then (if a0_1<(l1.length:Int) then (spec_RenumberGraph.l0 kj2 l1 0 l0_0 a0_1 (List.replicate ((l1.length:Int):Int).toNat z58) (rd l1 a0_1)) else (none)) else (none)) else (none)) else (none))=some (r1,r2):=by rw [if_neg (show ¬ (false=true) by decide)] at H;exact H
   clear H
   have H:=H1
   clear H1
   by_cases c24:0≤(l1.length:Int)
   rotate_left
   ·rw [if_neg c24] at H
    exact absurd H (by simp)
   rw [if_pos c24] at H
   have c24b0:=eq_true c24
   have c24b1:decide (0≤(l1.length:Int))=true:=deT c24
   clear c24
   by_cases c25:((l1.length:Int):Int).toNat≤7036874417766
   rotate_left
   ·rw [if_neg c25] at H
    exact absurd H (by simp)
   rw [if_pos c25] at H
   have c25b0:=eq_true c25
   have c25b1:decide (((l1.length:Int):Int).toNat≤7036874417766)=true:=deT c25
   clear c25
   obtain ⟨y799,hy799⟩:∃ y_:List (S58),y_=(List.replicate ((l1.length:Int):Int).toNat z58):=⟨_,rfl⟩
   replace H:(if 0≤a0_1 then (if a0_1<(l1.length:Int) then (spec_RenumberGraph.l0 kj2 l1 0 l0_0 a0_1 y799 (rd l1 a0_1)) else (none)) else (none))=some (r1,r2):=zH_ H hy799
   have Ny799:=As_ hy799
   clear hy799
   by_cases c26:0≤a0_1
   rotate_left
   ·rw [if_neg c26] at H
    exact absurd H (by simp)
   rw [if_pos c26] at H
   have c26b0:decide (0≤a0_1)=true:=deT c26
   clear c26
   by_cases c27:a0_1<(l1.length:Int)
   rotate_left
   ·rw [if_neg c27] at H
    exact absurd H (by simp)
   rw [if_pos c27] at H
   have c27b0:decide (a0_1<(l1.length:Int))=true:=deT c27
   clear c27
   have H':=As_ H
   clear H
   try go_wp2
   have n0_:=As_ (bkD BK795.out)
   have n1_:=As_ (bkD BK796.out)
   have n2_:=As_ (bwD HB.out)
   clear BK795 BK796 HB
   revert n0_ n1_ n2_;intro BK795 BK796 HB
   have p802:0≤(a0_1:Int):=odT zA_
   have q802:a0_1<(l1.length:Int):=odT zA_
   obtain ⟨ad802,e802,hx802_0⟩:=Kd.at_int HR1.out a0_1 p802 q802
   have hw802_0:=hx802_0
   cases e802
   replace hx802_0:=bwC HB.out hx802_0
   replace p802:=eq_true p802
   replace q802:=eq_true q802
   refine start_ (n:=11) (S:=fun w'=>w'.cell? ⟨gb795,0,none⟩=some (.slice A0_0 l0_0.length c0_0)∧w'.cell? ⟨gb795,1,none⟩=some (.int .i64 a0_1)∧w'.cell? (ad802.add (a0_1).toNat)=some (.int .i64 (rd l1 a0_1))) (ds:=[]) (bl_ 0 11) (by kernel_rfl) rfl rfl ⟨(bkC BK795.out 0).trans rfl,(bkC BK795.out 1).trans rfl,((HB.out.cell (bwL w _ hw802_0)).trans hw802_0)⟩ (fun hHeld=>?_);refine with_tabW spec_RenumberGraph.tab3 spec_RenumberGraph.bits3 (fun HT_ HW_=>?_)
   generalize wc.drew=w28 at BK795 BK796 HB hx802_0 hHeld ⊢
   refine pQ 0 29 (bl_ 1 11) HT_ rfl ?_
   refine pQ 1 30 (bl_ 3 11) HT_ rfl ?_
   refine pQ 3 32 (bl_ 11 11) HT_ rfl ?_
   refine pQ 4 33 (bl_ 27 11) HT_ rfl ?_
   refine tP 5 34 (bl_ 59 11) ?_ HT_ HW_ rfl (.inl ⟨by rfl,?_⟩) hHeld ?_ ?_ ?_;rotate_left;(rintro w' ⟨s0,s1,s2⟩;go_simp;with_reducible rfl);rotate_left;(simp only [Act.put,sq_,i64_w,i32_w];rfl)
   refine pQ 6 35 (bl_ 123 11) HT_ rfl ?_
   refine tP 7 36 (bl_ 251 11) ?_ HT_ HW_ rfl (.inl ⟨by rfl,?_⟩) hHeld ?_ ?_ ?_;rotate_left;(rintro w' ⟨s0,s1,s2⟩;go_simp;with_reducible rfl);rotate_left;(simp only [Act.put,sq_,i64_w,i32_w];rfl)
   refine join_ (σ:=Value × Nat) 1 (bl_ 1023 11) (fun s_=>[(31,s_.1),(5,.pointer (some ⟨s_.2,0,none⟩)),(37,.agg #[s_.1,.int .i64 (rd l1 a0_1)])]) (fun s_ w'=>(w'.cell? ⟨gb795,0,none⟩=some (.slice A0_0 l0_0.length c0_0)∧w'.cell? ⟨gb795,1,none⟩=some (.int .i64 a0_1)∧w'.cell? (ad802.add (a0_1).toNat)=some (.int .i64 (rd l1 a0_1)))∧(Kd.S k58 58 w' w.heap.size (fun k_=>k_≠gb795∧k_≠gb796∧k_≠s_.2) s_.1 y799)∧(w'.heap[gb795]?=some (.cells #[.slice A0_0 l0_0.length c0_0,.int .i64 a0_1] 25 (0,0)))∧(w'.heap[gb796]?=some (.cells #[.slice none 0 0,.int .i64 0] 25 (0,0)))∧(w'.heap[s_.2]?=some (.cells #[.slice none 0 0,.int .i64 0] 25 (0,0)))∧(w.heap.size≤s_.2)∧(w.heap.size≤s_.2)∧(gb795≠s_.2)∧(s_.2≠gb795)∧(gb796≠s_.2)∧(s_.2≠gb796)∧(Below w.heap.size w w')) ?_ ?_
   rotate_left
   ·intro hCont
    refine two_ (i:=2) (j:=9) (Ni:=some 31) (Nj:=some 5) (bl_ 255 11) (bl_ 763 11) rfl rfl rfl rfl (two_of HT_.out (by kernel_rfl)) (by decide) (by decide) (fun K hK=>?_) (fun K hK=>?_)
    ·skip
     refine Kd.S_make_step k58 _ 58 (by rfl) (N:=31) rfl 23 _ _ rfl (l1.length:Int) rfl rfl Try.underlying23 (.agg #[(.int .i64 0),(.int .i64 0),(.slice none 0 0)]) 40 info58 rfl (by decide) (by omega) z58 (ok:=fun k_=>w28.heap.size≤k_) (okp:=fun _=>False) (k58_mkM _ _ _ z58 (Kd.R_nil _ _ _ _ _)) (fun _ hk=>hk.elim) (Nat.le_refl _) (odT zA_) (Nat.le_trans (Nat.mul_le_mul_right _ (odT zA_:(l1.length:Int).toNat≤7036874417766)) (by omega)) (Below.refl _ _) (Nat.le_refl _) ?_
     intro v800 w29 ho30 hb hg_ hnew_
     clear hg_ hnew_
     (first|rw [← Ny799.out] at ho30|(simp only [Int.reduceToNat] at ho30;rw [← Ny799.out] at ho30))
     have n0_:=As_ (Kd.S_lower (Kd.S_mono (ok':=fun k_=>k_≠gb795∧k_≠gb796) ho30 (fun k_ hk_=>⟨(Kd.freshB (g:=gb795) (o:=.cells #[.slice A0_0 l0_0.length c0_0,.int .i64 a0_1] 25 (0,0)) (zk_ BK795.out) k_ hk_),(Kd.freshB (g:=gb796) (o:=.cells #[.slice none 0 0,.int .i64 0] 25 (0,0)) (zk_ BK796.out) k_ hk_)⟩)) (bwZ (zb2 HB.out GE795.out GE796.out)))
     have n1_:=As_ (zkb BK795.out hb)
     have n2_:=As_ (zkb BK796.out hb)
     have n3_:=As_ (bwT (zb2 HB.out GE795.out GE796.out) hb)
     clear BK795 BK796 HB
     revert n0_ n1_ n2_ n3_;intro HO801 BK795 BK796 HB
     clear hb ho30
     obtain ⟨Ao31,co31,eo31⟩:=Kd.S_slice HO801.out
     (first|subst eo31|(injection eo31 with f1_ f2_ f3_;have f4_:=f1_.symm;have f5_:=f3_.symm;clear f1_ f2_ f3_;subst f4_;subst f5_))
     refine hK.out _ _ ⟨(bkC BK795.out 0).trans rfl,(bkC BK795.out 1).trans rfl,((HB.out.cell (bwL w _ hw802_0)).trans hw802_0)⟩ (fun hHeld=>?_)
     clear hK K
     refine norm_ (a':=?_) ?_ ?_
     rotate_left
     ·show Act.put _ (some 31) _=_
      simp only [Act.put,sq_,i64_w,i32_w]
      rfl
     refine pQ 8 37 (bl_ 511 11) HT_ rfl ?_
     refine one_ (i:=9) (N:=some 5) (bl_ 1023 11) rfl rfl (one_of HT_.out (by kernel_rfl)) (by decide) (fun K hK=>?_)
     refine box_step ?hg (N:=5) ?hd (cs:=#[.slice none 0 0,.int .i64 0]) (t:=25) ?hr ?_;(case hd=>rfl);(case hg=>rfl);(case hr=>go_simp <;> rfl)
     intro gb803 hg w32 hbox hb
     have n0_:=As_ (Kd.S_below (Kd.S_elderB (zS_ HO801.out) gb803 (Nat.le_of_eq hg.symm)) hb)
     have n1_:=As_ (zkb BK795.out hb)
     have n2_:=As_ (zkb BK796.out hb)
     have n3_:=As_ (bwT (zb2 HB.out GE795.out GE796.out) hb)
     have n4_:=As_ (hbox)
     have n5_:=As_ ((by rw [hg];exact (bwZ (zb2 HB.out GE795.out GE796.out)):w.heap.size≤gb803))
     have n6_:=As_ ((by rw [hg];exact (bwZ (zb2 HB.out GE795.out GE796.out)):w.heap.size≤gb803))
     have n7_:=As_ ((by rw [hg];exact Nat.ne_of_lt (zkl BK795.out):gb795≠gb803))
     have n8_:=As_ ((by rw [hg];exact Nat.ne_of_gt (zkl BK795.out):gb803≠gb795))
     have n9_:=As_ ((by rw [hg];exact Nat.ne_of_lt (zkl BK796.out):gb796≠gb803))
     have n10_:=As_ ((by rw [hg];exact Nat.ne_of_gt (zkl BK796.out):gb803≠gb796))
     clear HO801 BK795 BK796 HB
     revert n0_ n1_ n2_ n3_ n4_ n5_ n6_ n7_ n8_ n9_ n10_;intro HO801 BK795 BK796 HB BK803 GW803 GE803 NB795_803 NB803_795 NB796_803 NB803_796
     clear hb hbox hg
     refine hK.out _ _ ⟨(bkC BK795.out 0).trans rfl,(bkC BK795.out 1).trans rfl,((HB.out.cell (bwL w _ hw802_0)).trans hw802_0)⟩ (fun hHeld=>?_)
     clear hK K
     refine norm_ (a':=?_) ?_ ?_
     rotate_left
     ·show Act.put _ (some 5) _=_
      simp only [Act.put,sq_,i64_w,i32_w]
      rfl
     exact norm_ (by simp only [putAll,Act.put,List.setIfInBounds_toArray,List.set_cons_zero,List.set_cons_succ]) (hCont (.slice Ao31 y799.length co31,gb803) _ ⟨hHeld,(by (with_reducible repeat (first|apply Kd.S_alloc|apply Kd.S_drewN|apply Kd.S_drew));exact Kd.S_mono HO801.out (fun _ hk=>⟨hk.1.1,⟨hk.1.2,hk.2⟩⟩)),(zk_ BK795.out),(zk_ BK796.out),(zk_ BK803.out),GW803.out,GE803.out,NB795_803.out,NB803_795.out,NB796_803.out,NB803_796.out,(zb3 HB.out GE795.out GE796.out GE803.out)⟩)
    ·skip
     refine box_step ?hg (N:=5) ?hd (cs:=#[.slice none 0 0,.int .i64 0]) (t:=25) ?hr ?_;(case hd=>rfl);(case hg=>rfl);(case hr=>go_simp <;> rfl)
     intro gb803 hg w29 hbox hb
     have n0_:=As_ (zkb BK795.out hb)
     have n1_:=As_ (zkb BK796.out hb)
     have n2_:=As_ (bwT (zb2 HB.out GE795.out GE796.out) hb)
     have n3_:=As_ (hbox)
     have n4_:=As_ ((by rw [hg];exact (bwZ (zb2 HB.out GE795.out GE796.out)):w.heap.size≤gb803))
     have n5_:=As_ ((by rw [hg];exact (bwZ (zb2 HB.out GE795.out GE796.out)):w.heap.size≤gb803))
     have n6_:=As_ ((by rw [hg];exact Nat.ne_of_lt (zkl BK795.out):gb795≠gb803))
     have n7_:=As_ ((by rw [hg];exact Nat.ne_of_gt (zkl BK795.out):gb803≠gb795))
     have n8_:=As_ ((by rw [hg];exact Nat.ne_of_lt (zkl BK796.out):gb796≠gb803))
     have n9_:=As_ ((by rw [hg];exact Nat.ne_of_gt (zkl BK796.out):gb803≠gb796))
     clear BK795 BK796 HB
     revert n0_ n1_ n2_ n3_ n4_ n5_ n6_ n7_ n8_ n9_;intro BK795 BK796 HB BK803 GW803 GE803 NB795_803 NB803_795 NB796_803 NB803_796
     clear hb hbox hg
     refine hK.out _ _ ⟨(bkC BK795.out 0).trans rfl,(bkC BK795.out 1).trans rfl,((HB.out.cell (bwL w _ hw802_0)).trans hw802_0)⟩ (fun hHeld=>?_)
     clear hK K
     refine norm_ (a':=?_) ?_ ?_
     rotate_left
     ·show Act.put _ (some 5) _=_
      simp only [Act.put,sq_,i64_w,i32_w]
      rfl
     refine one_ (i:=2) (N:=some 31) (bl_ 767 11) rfl rfl (one_of HT_.out (by kernel_rfl)) (by decide) (fun K hK=>?_)
     refine Kd.S_make_step k58 _ 58 (by rfl) (N:=31) rfl 23 _ _ rfl (l1.length:Int) rfl rfl Try.underlying23 (.agg #[(.int .i64 0),(.int .i64 0),(.slice none 0 0)]) 40 info58 rfl (by decide) (by omega) z58 (ok:=fun k_=>w29.heap.size≤k_) (okp:=fun _=>False) (k58_mkM _ _ _ z58 (Kd.R_nil _ _ _ _ _)) (fun _ hk=>hk.elim) (Nat.le_refl _) (odT zA_) (Nat.le_trans (Nat.mul_le_mul_right _ (odT zA_:(l1.length:Int).toNat≤7036874417766)) (by omega)) (Below.refl _ _) (Nat.le_refl _) ?_
     intro v800 w30 ho31 hb hg_ hnew_
     clear hg_ hnew_
     (first|rw [← Ny799.out] at ho31|(simp only [Int.reduceToNat] at ho31;rw [← Ny799.out] at ho31))
     have n0_:=As_ (Kd.S_lower (Kd.S_mono (ok':=fun k_=>k_≠gb795∧k_≠gb796∧k_≠gb803) ho31 (fun k_ hk_=>⟨(Kd.freshB (g:=gb795) (o:=.cells #[.slice A0_0 l0_0.length c0_0,.int .i64 a0_1] 25 (0,0)) (zk_ BK795.out) k_ hk_),(Kd.freshB (g:=gb796) (o:=.cells #[.slice none 0 0,.int .i64 0] 25 (0,0)) (zk_ BK796.out) k_ hk_),(Kd.freshB (g:=gb803) (o:=.cells #[.slice none 0 0,.int .i64 0] 25 (0,0)) (zk_ BK803.out) k_ hk_)⟩)) (bwZ (zb3 HB.out GE795.out GE796.out GE803.out)))
     have n1_:=As_ (zkb BK795.out hb)
     have n2_:=As_ (zkb BK796.out hb)
     have n3_:=As_ (zkb BK803.out hb)
     have n4_:=As_ (bwT (zb3 HB.out GE795.out GE796.out GE803.out) hb)
     clear BK795 BK796 BK803 HB
     revert n0_ n1_ n2_ n3_ n4_;intro HO801 BK795 BK796 BK803 HB
     clear hb ho31
     obtain ⟨Ao32,co32,eo32⟩:=Kd.S_slice HO801.out
     (first|subst eo32|(injection eo32 with f1_ f2_ f3_;have f4_:=f1_.symm;have f5_:=f3_.symm;clear f1_ f2_ f3_;subst f4_;subst f5_))
     refine hK.out _ _ ⟨(bkC BK795.out 0).trans rfl,(bkC BK795.out 1).trans rfl,((HB.out.cell (bwL w _ hw802_0)).trans hw802_0)⟩ (fun hHeld=>?_)
     clear hK K
     refine norm_ (a':=?_) ?_ ?_
     rotate_left
     ·show Act.put _ (some 31) _=_
      simp only [Act.put,sq_,i64_w,i32_w]
      rfl
     refine pQ 8 37 (bl_ 1023 11) HT_ rfl ?_
     exact norm_ (by simp only [putAll,Act.put,List.setIfInBounds_toArray,List.set_cons_zero,List.set_cons_succ]) (hCont (.slice Ao32 y799.length co32,gb803) _ ⟨hHeld,(zS_ HO801.out),(zk_ BK795.out),(zk_ BK796.out),(zk_ BK803.out),GW803.out,GE803.out,NB795_803.out,NB803_795.out,NB796_803.out,NB803_796.out,(zb3 HB.out GE795.out GE796.out GE803.out)⟩)
   rintro ⟨v800,gb803⟩ w33 ⟨hS_,h0_,h1_,h2_,h3_,h4_,h5_,h6_,h7_,h8_,h9_,h10_⟩
   have n0_:Aside0 (Kd.S k58 58 w33 w.heap.size (fun k_=>k_≠gb795∧k_≠gb796∧k_≠gb803) v800 y799):=⟨h0_⟩
   have n1_:Aside0 (w33.heap[gb795]?=some (.cells #[.slice A0_0 l0_0.length c0_0,.int .i64 a0_1] 25 (0,0))):=⟨h1_⟩
   have n2_:Aside0 (w33.heap[gb796]?=some (.cells #[.slice none 0 0,.int .i64 0] 25 (0,0))):=⟨h2_⟩
   have n3_:Aside0 (w33.heap[gb803]?=some (.cells #[.slice none 0 0,.int .i64 0] 25 (0,0))):=⟨h3_⟩
   have n4_:Aside0 (w.heap.size≤gb803):=⟨h4_⟩
   have n5_:Aside0 (w.heap.size≤gb803):=⟨h5_⟩
   have n6_:Aside0 (gb795≠gb803):=⟨h6_⟩
   have n7_:Aside0 (gb803≠gb795):=⟨h7_⟩
   have n8_:Aside0 (gb796≠gb803):=⟨h8_⟩
   have n9_:Aside0 (gb803≠gb796):=⟨h9_⟩
   have n10_:Aside0 (Below w.heap.size w w33):=⟨h10_⟩
   clear BK795 BK796 HB h0_ h1_ h2_ h3_ h4_ h5_ h6_ h7_ h8_ h9_ h10_
   revert n0_ n1_ n2_ n3_ n4_ n5_ n6_ n7_ n8_ n9_ n10_;intro HO801 BK795 BK796 BK803 GW803 GE803 NB795_803 NB803_795 NB796_803 NB803_796 HB
   have hHeld:w33.cell? ⟨gb795,0,none⟩=some (.slice A0_0 l0_0.length c0_0)∧w33.cell? ⟨gb795,1,none⟩=some (.int .i64 a0_1)∧w33.cell? (ad802.add (a0_1).toNat)=some (.int .i64 (rd l1 a0_1)):=hS_
   obtain ⟨Ao34,co34,eo34⟩:=Kd.S_slice HO801.out
   (first|subst eo34|(injection eo34 with f1_ f2_ f3_;have f4_:=f1_.symm;have f5_:=f3_.symm;clear f1_ f2_ f3_;subst f4_;subst f5_))
   refine norm_ (a':=?_) ?_ ?_
   rotate_left
   ·simp only [putAll,Act.put,List.setIfInBounds_toArray,List.set_cons_zero,List.set_cons_succ]
    rfl
   refine one_ (i:=10) (N:=none) (bl_ 2047 11) rfl rfl (one_of HT_.out (by kernel_rfl)) (by decide) (fun K hK=>?_)
   have hs35:w33.cell? ⟨gb803,0,none⟩=some (.slice none 0 0):=(bkC BK803.out 0).trans rfl
   have hfs35:=bkF BK803.out 0
   have hns35_0:=NB795_803.out
   have hns35_1:=NB796_803.out
   have hms35_0:=NB803_795.out
   have hms35_1:=NB803_796.out
   have hs36:w33.cell? ⟨gb803,1,none⟩=some (.int .i64 0):=(bkC BK803.out 1).trans rfl
   have hfs36:=bkF BK803.out 1
   have hns36_0:=NB795_803.out
   have hns36_1:=NB796_803.out
   have hms36_0:=NB803_795.out
   have hms36_1:=NB803_796.out
   refine skip_ (w1:=?_) (by rfl) rfl ?_ ?_
   rotate_left
   ·go_simp
    rfl
   refine hK.out _ _ ⟨((cell_far (p:=⟨gb803,_,none⟩) NB795_803.out _).trans (((cell_far (p:=⟨gb803,_,none⟩) NB795_803.out _).trans (hHeld.1)))),((cell_far (p:=⟨gb803,_,none⟩) NB795_803.out _).trans (((cell_far (p:=⟨gb803,_,none⟩) NB795_803.out _).trans (hHeld.2.1)))),((cell_far (p:=⟨gb803,_,none⟩) (by first|exact Nat.ne_of_lt (Nat.lt_of_lt_of_le (by have:=bwL _ _ hw802_0;first|rwa [add_block] at this|exact this) GW803.out)|(rw [add_block];exact Nat.ne_of_lt (Nat.lt_of_lt_of_le (by have:=bwL _ _ hw802_0;first|rwa [add_block] at this|exact this) GW803.out))|(show (Addr.add _ _).block≠_;rw [add_block];exact Nat.ne_of_lt (Nat.lt_of_lt_of_le (by have:=bwL _ _ hw802_0;first|rwa [add_block] at this|exact this) GW803.out))|(dsimp only;exact Nat.ne_of_lt (Nat.lt_of_lt_of_le (by have:=bwL _ _ hw802_0;first|rwa [add_block] at this|exact this) GW803.out))) _).trans (((cell_far (p:=⟨gb803,_,none⟩) (by first|exact Nat.ne_of_lt (Nat.lt_of_lt_of_le (by have:=bwL _ _ hw802_0;first|rwa [add_block] at this|exact this) GW803.out)|(rw [add_block];exact Nat.ne_of_lt (Nat.lt_of_lt_of_le (by have:=bwL _ _ hw802_0;first|rwa [add_block] at this|exact this) GW803.out))|(show (Addr.add _ _).block≠_;rw [add_block];exact Nat.ne_of_lt (Nat.lt_of_lt_of_le (by have:=bwL _ _ hw802_0;first|rwa [add_block] at this|exact this) GW803.out))|(dsimp only;exact Nat.ne_of_lt (Nat.lt_of_lt_of_le (by have:=bwL _ _ hw802_0;first|rwa [add_block] at this|exact this) GW803.out))) _).trans (hHeld.2.2))))⟩ (fun hHeld=>?_)
   clear hK K
   refine done_ (done_of HT_.out (by kernel_rfl)) ?_
   try go_wp2
   go_loopg [6] kj2 (fun kq v6 w'=>∃ (x6_2:Int) (x797001_2:Int) (x804000_2:List (S58)) (u804000:Value),v6=.int .i64 x6_2∧Aside0 (spec_RenumberGraph.l0 kq l1 x6_2 l0_0 a0_1 x804000_2 (rd l1 a0_1)=some (r1,r2))∧Aside0 (kq≤kj2)∧Aside0 (Kd.S k58 58 w' w.heap.size (fun k_=>k_≠gb795∧k_≠gb796∧k_≠gb803) u804000 x804000_2)∧Aside0 (w'.heap[gb795]?=some (.cells #[(.slice A0_0 l0_0.length c0_0),.int .i64 a0_1] 25 (0,0)))∧Aside0 (w'.heap[gb796]?=some (.cells #[(.slice none 0 0),.int .i64 x797001_2] 25 (0,0)))∧Aside0 (w'.heap[gb803]?=some (.cells #[u804000,.int .i64 (rd l1 a0_1)] 25 (0,0)))∧Aside0 (Below w.heap.size w w'))
   case atStart=>exact ⟨(0),(0),(y799),(.slice Ao34 y799.length co34),zT_,H',⟨Nat.le_refl _⟩,⟨by (with_reducible repeat (first|apply Kd.S_alloc|apply Kd.S_drewN|apply Kd.S_drew));exact Kd.S_mono (Kd.S_far (p:=⟨gb803,1,none⟩) (Kd.S_far (p:=⟨gb803,0,none⟩) (Kd.S_mono HO801.out (fun k_ hk=>(⟨hk,hk.2.2⟩:_∧k_≠gb803))) (fun _ hk=>hk.2) (.slice Ao34 y799.length co34)) (fun _ hk=>hk.2) (.int .i64 (rd l1 a0_1))) (fun _ hk=>⟨hk.1.1,⟨hk.1.2.1,hk.1.2.2⟩⟩)⟩,⟨by (with_reducible repeat first|apply bkN|apply bkD|apply bkA);refine blk_far ?_ NB795_803.out _;(with_reducible repeat first|apply bkN|apply bkD|apply bkA);refine blk_far ?_ NB795_803.out _;(with_reducible repeat first|apply bkN|apply bkD|apply bkA);exact BK795.out⟩,⟨by (with_reducible repeat first|apply bkN|apply bkD|apply bkA);refine blk_far ?_ NB796_803.out _;(with_reducible repeat first|apply bkN|apply bkD|apply bkA);refine blk_far ?_ NB796_803.out _;(with_reducible repeat first|apply bkN|apply bkD|apply bkA);exact BK796.out⟩,⟨by (with_reducible repeat first|apply bkN|apply bkD|apply bkA);refine blk_put (cs:=#[.slice Ao34 y799.length co34,.int .i64 0]) ?_ 1 _ rfl;(with_reducible repeat first|apply bkN|apply bkD|apply bkA);refine blk_put (cs:=#[.slice none 0 0,.int .i64 0]) ?_ 0 _ rfl;(with_reducible repeat first|apply bkN|apply bkD|apply bkA);exact BK803.out⟩,⟨zb3 HB.out GE795.out GE796.out GE803.out⟩⟩
   case round=>
    clear H'
    obtain ⟨x6_2,x797001_2,x804000_2,u804000,rfl,HA,HK2,HO_804000,BK795,BK796,BK803,HB⟩:=hrel
    cases gk with
    | zero=>exact absurd HA.out (fun h_=>(by cases h_))
    | succ k2=>
     have H:=HA.out
     clear HA
     simp only [spec_RenumberGraph.l0] at H
     by_cases c37:x6_2<(l1.length:Int)
     rotate_left
     ·rw [if_neg c37] at H
      have c37b0:decide (x6_2<(l1.length:Int))=false:=deF c37
      clear c37
      simp only [Option.some.injEq,Prod.mk.injEq] at H
      obtain ⟨rfl,rfl⟩:=H
      have hnb80:=NB803_795.out
      have hnc80:=NB795_803.out
      have hnb81:=NB803_796.out
      have hnc81:=NB796_803.out
      obtain ⟨hcz82_0,hcz82_1,hfz82_0,hfz82_1⟩:=bk2 BK803.out
      obtain ⟨Ao83,co83,eo83⟩:=Kd.S_slice HO_804000.out
      subst eo83
      have hnb84:=NB796_795.out
      have hnc84:=NB795_796.out
      obtain ⟨hcz85_0,hcz85_1,hfz85_0,hfz85_1⟩:=bk2 BK796.out
      go_wp2
      refine bodyPost_ret (results_cell_row rfl _ _ gb796 25 #[.slice Ao83 x804000_2.length co83,.int .i64 (rd l1 a0_1)] (0,0) _ rfl (by (with_reducible repeat first|apply bkN|apply bkD|apply bkA);refine blk_put (cs:=#[.slice Ao83 x804000_2.length co83,.int .i64 x797001_2]) ?_ 1 _ rfl;(with_reducible repeat first|apply bkN|apply bkD|apply bkA);refine blk_put (cs:=#[.slice none 0 0,.int .i64 x797001_2]) ?_ 0 _ rfl;(with_reducible repeat first|apply bkN|apply bkD|apply bkA);exact BK796.out) Try.underlying25 rfl (by kernel_rfl)) rfl ?_
      exact ⟨_,zE_,by (with_reducible repeat (first|apply Kd.S_alloc|apply Kd.S_drewN|apply Kd.S_drew));exact Kd.S_mono (Kd.S_far (p:=⟨gb796,1,none⟩) (Kd.S_far (p:=⟨gb796,0,none⟩) (Kd.S_mono HO_804000.out (fun k_ hk=>(⟨hk,hk.2.1⟩:_∧k_≠gb796))) (fun _ hk=>hk.2) (.slice Ao83 x804000_2.length co83)) (fun _ hk=>hk.2) (.int .i64 (rd l1 a0_1))) (fun _ hk=>trivial),zb3 HB.out GE795.out GE796.out GE803.out⟩
     rw [if_pos c37] at H
     have c37b0:decide (x6_2<(l1.length:Int))=true:=deT c37
     clear c37
     by_cases c38:0≤x6_2
     rotate_left
     ·rw [if_neg c38] at H
      exact absurd H (by simp)
     rw [if_pos c38] at H
     have c38b0:=eq_true c38
     have c38b1:decide (0≤x6_2)=true:=deT c38
     clear c38
     by_cases c39:x6_2≤(l1.length:Int)
     rotate_left
     ·rw [if_neg c39] at H
      exact absurd H (by simp)
     rw [if_pos c39] at H
     have c39b0:=eq_true c39
     have c39b1:decide (x6_2≤(l1.length:Int))=true:=deT c39
     clear c39
     replace H:=obS H
     obtain ⟨t806,A400,H⟩:=H
     replace H:(if t806≥0 then (some (([]:List (S58)),0)) else (if x6_2<(l0_0.length:Int) then (spec_RenumberGraph.l1 k2 l1 x6_2 0 l0_0 a0_1 x804000_2 (rd l1 a0_1) ((rd_T58 l0_0 x6_2).f0) ((rd_T58 l0_0 x6_2).f1) ([]:List Int)) else (none)))=some (r1,r2):=H
     have A40:=As_ A400
     clear A400
     by_cases c41:t806≥0
     ·rw [if_pos c41] at H
      have c41b0:decide (0≤t806)=true:=deT c41
      clear c41
      simp only [Option.some.injEq,Prod.mk.injEq] at H
      obtain ⟨rfl,rfl⟩:=H
      try go_wp2
      have n0_:=As_ (Kd.S_drew HO_804000.out)
      have n1_:=As_ (bkD BK795.out)
      have n2_:=As_ (bkD BK796.out)
      have n3_:=As_ (bkD BK803.out)
      have n4_:=As_ (bwD HB.out)
      clear HO_804000 BK795 BK796 BK803 HB
      revert n0_ n1_ n2_ n3_ n4_;intro HO_804000 BK795 BK796 BK803 HB
      obtain ⟨i043,hi043,_,hsz43,_⟩:=info_parts info3
      obtain ⟨hcut43,hA43,hC43⟩:=print_take_of (P:=Try.prog) (Value.int .i64) 0 26 3 .i64 Try.underlying26 hi043 hsz43 (some ad802) c1 l1 x6_2 (odT zA_) (odT zA_) HC1.out
      have HR804:=As_ (Kd.C_of_reads (h1:=fun _=>rfl) (hA43 _ (Kd.reads_of_C HR1.out)))
      have HC804:=As_ hC43
      clear hA43 hC43 hi043 hsz43
      have p805:0≤(x6_2:Int):=odT zA_
      have q805:x6_2<(l1.length:Int):=odT zA_
      obtain ⟨ad805,e805,hx805_0⟩:=Kd.at_int HR1.out x6_2 p805 q805
      have hw805_0:=hx805_0
      obtain rfl:ad802=ad805:=(by injection e805)
      replace hx805_0:=bwC HB.out hx805_0
      replace p805:=eq_true p805
      replace q805:=eq_true q805
      refine start_ (n:=9) (S:=fun w'=>w'.cell? (ad802.add (x6_2).toNat)=some (.int .i64 (rd l1 x6_2))) (ds:=[]) (bl_ 0 9) (by kernel_rfl) rfl rfl (((HB.out.cell (bwL w _ hw805_0)).trans hw805_0)) (fun hHeld=>?_);refine with_tabW spec_RenumberGraph.tab7 spec_RenumberGraph.bits7 (fun HT_ HW_=>?_)
      generalize wr.drew=w42 at HO_804000 BK795 BK796 BK803 HB HR804 hx805_0 hHeld ⊢
      refine pQ 0 44 (bl_ 1 9) HT_ rfl ?_
      refine pQ 1 45 (bl_ 3 9) HT_ rfl ?_
      refine pQ 2 46 (bl_ 7 9) HT_ rfl ?_
      refine pQ 3 47 (bl_ 15 9) HT_ rfl ?_
      refine pQ 4 48 (bl_ 31 9) HT_ rfl ?_
      refine pQ 5 49 (bl_ 63 9) HT_ rfl ?_
      refine tP 6 50 (bl_ 127 9) ?_ HT_ HW_ rfl (.inl ⟨by rfl,?_⟩) hHeld ?_ ?_ ?_
      rotate_left
      ·intro w' s0
       go_simp
       with_reducible rfl
      rotate_left
      ·simp only [Act.put,sq_,i64_w,i32_w]
       rfl
      refine one_ (i:=7) (N:=some 51) (bl_ 255 9) rfl rfl (one_of HT_.out (by kernel_rfl)) (by decide) (fun K hK=>?_)
      refine goes_ Try.func58 (by kernel_rfl) rfl #[.slice (some ad802) (l1.take (x6_2:Int).toNat).length c1,.int .i64 (rd l1 x6_2)] (by rfl) rfl rfl (by (try simp only [List.map_toArray,List.map_cons,List.map_nil]);first|done|(rw [show (l1.take (x6_2:Int).toNat).length=x6_2.toNat from (by rw [List.length_take];have h_:(x6_2:Int)≤(l1.length:Int):=odT zA_;omega)] <;> rfl)|rfl|(simp only [List.length_drop,List.length_take];rfl)) ?_
      with_reducible refine (spec_placeIn.calls k2 _ _ (l1.take (x6_2:Int).toNat) (rd l1 x6_2) t806 _ ?side1 ?side2 A40.out).mono ?_
      (case side1=>exact zC_ (Kd.C_below HR804.out HB.out))
      (case side2=>exact HC804.out)
      rintro e w' ⟨rfl,⟨nd,rfl⟩⟩
      refine ⟨_,rfl,?_⟩
      refine hK.out _ _ (((HB.out.cell (bwL w _ hw805_0)).trans hw805_0)) (fun hHeld=>?_)
      clear hK K
      refine norm_ (a':=?_) ?_ ?_
      rotate_left
      ·show Act.put _ (some 51) _=_
       simp only [Act.put,sq_,i64_w,i32_w]
       rfl
      refine pQ 8 52 (bl_ 511 9) HT_ rfl ?_
      refine done_ (done_of HT_.out (by kernel_rfl)) ?_
      have hnb44:=NB796_795.out
      have hnc44:=NB795_796.out
      have hnb45:=NB796_803.out
      have hnc45:=NB803_796.out
      obtain ⟨hcz46_0,hcz46_1,hfz46_0,hfz46_1⟩:=bk2 BK796.out
      try go_wp2
      refine bodyPost_ret (results_cell_row rfl _ _ gb796 25 #[.slice none 0 0,.int .i64 0] (0,0) _ rfl (by (with_reducible repeat first|apply bkN|apply bkD|apply bkA);refine blk_put (cs:=#[.slice none 0 0,.int .i64 x797001_2]) ?_ 1 _ rfl;(with_reducible repeat first|apply bkN|apply bkD|apply bkA);refine blk_put (cs:=#[.slice none 0 0,.int .i64 x797001_2]) ?_ 0 _ rfl;(with_reducible repeat first|apply bkN|apply bkD|apply bkA);exact BK796.out) Try.underlying25 rfl (by kernel_rfl)) rfl ?_
      exact ⟨_,zE_,by first|exact Kd.S_nil _ _ _ _ _|exact Kd.S_nil _ _ _ _ _|exact Kd.V_nil _ _ _ _ _|exact Kd.Q_nil _ _ _ _ _|exact Kd.R_nil _ _ _ _ _,zb3 HB.out GE795.out GE796.out GE803.out⟩
     rw [if_neg c41] at H
     have c41b0:decide (0≤t806)=false:=deF c41
     clear c41
     by_cases c47:x6_2<(l0_0.length:Int)
     rotate_left
     ·rw [if_neg c47] at H
      exact absurd H (by simp)
     rw [if_pos c47] at H
     have c47b0:decide (x6_2<(l0_0.length:Int))=true:=deT c47
     clear c47
     have H':=As_ H
     clear H
     try go_wp2
     have n0_:=As_ (Kd.S_drew HO_804000.out)
     have n1_:=As_ (bkD BK795.out)
     have n2_:=As_ (bkD BK796.out)
     have n3_:=As_ (bkD BK803.out)
     have n4_:=As_ (bwD HB.out)
     clear HO_804000 BK795 BK796 BK803 HB
     revert n0_ n1_ n2_ n3_ n4_;intro HO_804000 BK795 BK796 BK803 HB
     obtain ⟨i049,hi049,_,hsz49,_⟩:=info_parts info3
     obtain ⟨hcut49,hA49,hC49⟩:=print_take_of (P:=Try.prog) (Value.int .i64) 0 26 3 .i64 Try.underlying26 hi049 hsz49 (some ad802) c1 l1 x6_2 (odT zA_) (odT zA_) HC1.out
     have HR804:=As_ (Kd.C_of_reads (h1:=fun _=>rfl) (hA49 _ (Kd.reads_of_C HR1.out)))
     have HC804:=As_ hC49
     clear hA49 hC49 hi049 hsz49
     have p805:0≤(x6_2:Int):=odT zA_
     have q805:x6_2<(l1.length:Int):=odT zA_
     obtain ⟨ad805,e805,hx805_0⟩:=Kd.at_int HR1.out x6_2 p805 q805
     have hw805_0:=hx805_0
     obtain rfl:ad802=ad805:=(by injection e805)
     replace hx805_0:=bwC HB.out hx805_0
     replace p805:=eq_true p805
     replace q805:=eq_true q805
     refine start_ (n:=9) (S:=fun w'=>w'.cell? (ad802.add (x6_2).toNat)=some (.int .i64 (rd l1 x6_2))) (ds:=[]) (bl_ 0 9) (by kernel_rfl) rfl rfl (((HB.out.cell (bwL w _ hw805_0)).trans hw805_0)) (fun hHeld=>?_);refine with_tabW spec_RenumberGraph.tab7 spec_RenumberGraph.bits7 (fun HT_ HW_=>?_)
     generalize wr.drew=w48 at HO_804000 BK795 BK796 BK803 HB HR804 hx805_0 hHeld ⊢
     refine pQ 0 44 (bl_ 1 9) HT_ rfl ?_
     refine pQ 1 45 (bl_ 3 9) HT_ rfl ?_
     refine pQ 2 46 (bl_ 7 9) HT_ rfl ?_
     refine pQ 3 47 (bl_ 15 9) HT_ rfl ?_
     refine pQ 4 48 (bl_ 31 9) HT_ rfl ?_
     refine pQ 5 49 (bl_ 63 9) HT_ rfl ?_
     refine tP 6 50 (bl_ 127 9) ?_ HT_ HW_ rfl (.inl ⟨by rfl,?_⟩) hHeld ?_ ?_ ?_
     rotate_left
     ·intro w' s0
      go_simp
      with_reducible rfl
     rotate_left
     ·simp only [Act.put,sq_,i64_w,i32_w]
      rfl
     refine one_ (i:=7) (N:=some 51) (bl_ 255 9) rfl rfl (one_of HT_.out (by kernel_rfl)) (by decide) (fun K hK=>?_)
     refine goes_ Try.func58 (by kernel_rfl) rfl #[.slice (some ad802) (l1.take (x6_2:Int).toNat).length c1,.int .i64 (rd l1 x6_2)] (by rfl) rfl rfl (by (try simp only [List.map_toArray,List.map_cons,List.map_nil]);first|done|(rw [show (l1.take (x6_2:Int).toNat).length=x6_2.toNat from (by rw [List.length_take];have h_:(x6_2:Int)≤(l1.length:Int):=odT zA_;omega)] <;> rfl)|rfl|(simp only [List.length_drop,List.length_take];rfl)) ?_
     with_reducible refine (spec_placeIn.calls k2 _ _ (l1.take (x6_2:Int).toNat) (rd l1 x6_2) t806 _ ?side1 ?side2 A40.out).mono ?_
     (case side1=>exact zC_ (Kd.C_below HR804.out HB.out))
     (case side2=>exact HC804.out)
     rintro e w' ⟨rfl,⟨nd,rfl⟩⟩
     refine ⟨_,rfl,?_⟩
     refine hK.out _ _ (((HB.out.cell (bwL w _ hw805_0)).trans hw805_0)) (fun hHeld=>?_)
     clear hK K
     refine norm_ (a':=?_) ?_ ?_
     rotate_left
     ·show Act.put _ (some 51) _=_
      simp only [Act.put,sq_,i64_w,i32_w]
      rfl
     refine pQ 8 52 (bl_ 511 9) HT_ rfl ?_
     refine done_ (done_of HT_.out (by kernel_rfl)) ?_
     try go_wp2
     (try (rw [drewN_self w48];generalize hq_:World.drewN w48 _=w48;have n0_:Aside0 (Kd.S k58 58 w48 w.heap.size (fun k_=>k_≠gb795∧k_≠gb796∧k_≠gb803) u804000 x804000_2):=⟨by rw [← hq_];exact (zS_ HO_804000.out)⟩;have n1_:Aside0 (w48.heap[gb795]?=some (.cells #[.slice A0_0 l0_0.length c0_0,.int .i64 a0_1] 25 (0,0))):=⟨by rw [← hq_];exact (zk_ BK795.out)⟩;have n2_:Aside0 (w48.heap[gb796]?=some (.cells #[.slice none 0 0,.int .i64 x797001_2] 25 (0,0))):=⟨by rw [← hq_];exact (zk_ BK796.out)⟩;have n3_:Aside0 (w48.heap[gb803]?=some (.cells #[u804000,.int .i64 (rd l1 a0_1)] 25 (0,0))):=⟨by rw [← hq_];exact (zk_ BK803.out)⟩;have n4_:Aside0 (Below w.heap.size w w48):=⟨by rw [← hq_];exact (zb3 HB.out GE795.out GE796.out GE803.out)⟩;clear HO_804000 BK795 BK796 BK803 HB hq_;revert n0_ n1_ n2_ n3_ n4_;intro HO_804000 BK795 BK796 BK803 HB))
     have n0_:=As_ (Kd.S_drew HO_804000.out)
     have n1_:=As_ (bkD BK795.out)
     have n2_:=As_ (bkD BK796.out)
     have n3_:=As_ (bkD BK803.out)
     have n4_:=As_ (bwD HB.out)
     clear HO_804000 BK795 BK796 BK803 HB
     revert n0_ n1_ n2_ n3_ n4_;intro HO_804000 BK795 BK796 BK803 HB
     have p807:0≤(x6_2:Int):=odT zA_
     have q807:x6_2<(l0_0.length:Int):=odT zA_
     obtain ⟨ad807,A807_2,c807_2,e807,hx807_0,hx807_1,hx807_2,hl807_2,hi807_2⟩:=at_T58 HR0_0.out x6_2 p807 q807
     have hw807_2:=hx807_2
     have hw807_1:=hx807_1
     have hw807_0:=hx807_0
     cases e807
     replace hx807_0:=bwC HB.out hx807_0
     replace hx807_1:=bwC HB.out hx807_1
     replace hx807_2:=bwC HB.out hx807_2
     have HR807_2:=As_ hi807_2
     have HC807_2:=As_ hl807_2
     clear hi807_2 hl807_2
     replace p807:=eq_true p807
     replace q807:=eq_true q807
     have p808:0≤(x6_2:Int):=odT zA_
     have q808:x6_2<(l0_0.length:Int):=odT zA_
     obtain ⟨ad808,A808_2,c808_2,e808,hx808_0,hx808_1,hx808_2,hl808_2,hi808_2⟩:=at_T58 HR0_0.out x6_2 p808 q808
     have hw808_2:=hx808_2
     have hw808_1:=hx808_1
     have hw808_0:=hx808_0
     obtain rfl:ad807=ad808:=(by injection e808)
     replace hx808_0:=bwC HB.out hx808_0
     replace hx808_1:=bwC HB.out hx808_1
     replace hx808_2:=bwC HB.out hx808_2
     have HR808_2:=As_ hi808_2
     have HC808_2:=As_ hl808_2
     clear hi808_2 hl808_2
     replace p808:=eq_true p808
     replace q808:=eq_true q808
     have ea_:=Option.some.inj (hx807_2.symm.trans hx808_2)
     injection ea_ with ea_ en_ ec_
     subst ea_
     subst ec_
     clear en_
     refine start_ (n:=15) (S:=fun w'=>w'.cell? ⟨gb795,0,none⟩=some (.slice (some ad807) l0_0.length c0_0)∧w'.cell? ⟨gb795,1,none⟩=some (.int .i64 a0_1)∧w'.cell? (ad807.add ((x6_2).toNat * 3))=some (.int .i64 ((rd_T58 l0_0 x6_2).f0))∧w'.cell? ⟨(ad807.add ((x6_2).toNat * 3)).block,(ad807.add ((x6_2).toNat * 3)).off+1,none⟩=some (.int .i64 ((rd_T58 l0_0 x6_2).f1))∧w'.cell? ⟨(ad807.add ((x6_2).toNat * 3)).block,(ad807.add ((x6_2).toNat * 3)).off+2,none⟩=some (.slice A807_2 ((rd_T58 l0_0 x6_2).f2).length c807_2)∧w'.cell? (ad807.add ((x6_2).toNat * 3))=some (.int .i64 ((rd_T58 l0_0 x6_2).f0))∧w'.cell? ⟨(ad807.add ((x6_2).toNat * 3)).block,(ad807.add ((x6_2).toNat * 3)).off+1,none⟩=some (.int .i64 ((rd_T58 l0_0 x6_2).f1))∧w'.cell? ⟨(ad807.add ((x6_2).toNat * 3)).block,(ad807.add ((x6_2).toNat * 3)).off+2,none⟩=some (.slice A807_2 ((rd_T58 l0_0 x6_2).f2).length c807_2)) (ds:=[]) (bl_ 0 15) (by kernel_rfl) rfl rfl ⟨(bkC BK795.out 0).trans rfl,(bkC BK795.out 1).trans rfl,((HB.out.cell (bwL w _ hw807_0)).trans hw807_0),((HB.out.cell (bwL w _ hw807_1)).trans hw807_1),((HB.out.cell (bwL w _ hw807_2)).trans hw807_2),((HB.out.cell (bwL w _ hw808_0)).trans hw808_0),((HB.out.cell (bwL w _ hw808_1)).trans hw808_1),((HB.out.cell (bwL w _ hw808_2)).trans hw808_2)⟩ (fun hHeld=>?_);refine with_tabW spec_RenumberGraph.tab9 spec_RenumberGraph.bits9 (fun HT_ HW_=>?_)
     generalize w48.drew=w50 at HO_804000 BK795 BK796 BK803 HB HR807_2 HR808_2 hx807_0 hx807_1 hx807_2 hx808_0 hx808_1 hx808_2 hHeld ⊢
     refine pQ 0 54 (bl_ 1 15) HT_ rfl ?_
     refine pQ 2 56 (bl_ 5 15) HT_ rfl ?_
     refine pQ 6 60 (bl_ 69 15) HT_ rfl ?_
     refine pQ 8 62 (bl_ 325 15) HT_ rfl ?_
     refine tP 1 55 (bl_ 327 15) ?_ HT_ HW_ rfl (.inl ⟨by rfl,?_⟩) hHeld ?_ ?_ ?_;rotate_left;(rintro w' ⟨s0,s1,s2,s3,s4,s5,s6,s7⟩;go_simp;with_reducible rfl);rotate_left;(simp only [Act.put,sq_,i64_w,i32_w];rfl)
     refine pQ 3 57 (bl_ 335 15) HT_ rfl ?_
     refine pQ 4 58 (bl_ 351 15) HT_ rfl ?_
     refine tP 5 59 (bl_ 383 15) ?_ HT_ HW_ rfl (.inl ⟨by rfl,?_⟩) hHeld ?_ ?_ ?_;rotate_left;(rintro w' ⟨s0,s1,s2,s3,s4,s5,s6,s7⟩;go_simp;with_reducible rfl);rotate_left;(simp only [Act.put,sq_,i64_w,i32_w];rfl)
     refine tP 7 61 (bl_ 511 15) ?_ HT_ HW_ rfl (.inl ⟨by rfl,?_⟩) hHeld ?_ ?_ ?_;rotate_left;(rintro w' ⟨s0,s1,s2,s3,s4,s5,s6,s7⟩;go_simp;with_reducible rfl);rotate_left;(simp only [Act.put,sq_,i64_w,i32_w];rfl)
     refine pQ 9 63 (bl_ 1023 15) HT_ rfl ?_
     refine pQ 10 64 (bl_ 2047 15) HT_ rfl ?_
     refine tP 11 65 (bl_ 4095 15) ?_ HT_ HW_ rfl (.inl ⟨by rfl,?_⟩) hHeld ?_ ?_ ?_;rotate_left;(rintro w' ⟨s0,s1,s2,s3,s4,s5,s6,s7⟩;go_simp;with_reducible rfl);rotate_left;(simp only [Act.put,sq_,i64_w,i32_w];rfl)
     refine pQ 12 66 (bl_ 8191 15) HT_ rfl ?_
     refine one_ (i:=13) (N:=some 7) (bl_ 16383 15) rfl rfl (one_of HT_.out (by kernel_rfl)) (by decide) (fun K hK=>?_)
     refine box_step ?hg (N:=7) ?hd (cs:=#[.int .i64 0,.int .i64 0,.slice none 0 0]) (t:=58) ?hr ?_;(case hd=>rfl);(case hg=>rfl);(case hr=>go_simp <;> rfl)
     intro gb809 hg w51 hbox hb
     have n0_:=As_ (Kd.S_below (Kd.S_elderB (zS_ HO_804000.out) gb809 (Nat.le_of_eq hg.symm)) hb)
     have n1_:=As_ (zkb BK795.out hb)
     have n2_:=As_ (zkb BK796.out hb)
     have n3_:=As_ (zkb BK803.out hb)
     have n4_:=As_ (bwT (zb3 HB.out GE795.out GE796.out GE803.out) hb)
     have n5_:=As_ (hbox)
     have n6_:=As_ ((by rw [hg];exact (bwZ (zb3 HB.out GE795.out GE796.out GE803.out)):w.heap.size≤gb809))
     have n7_:=As_ ((by rw [hg];exact (bwZ (zb3 HB.out GE795.out GE796.out GE803.out)):w.heap.size≤gb809))
     have n8_:=As_ ((by rw [hg];exact Nat.ne_of_lt (zkl BK795.out):gb795≠gb809))
     have n9_:=As_ ((by rw [hg];exact Nat.ne_of_gt (zkl BK795.out):gb809≠gb795))
     have n10_:=As_ ((by rw [hg];exact Nat.ne_of_lt (zkl BK796.out):gb796≠gb809))
     have n11_:=As_ ((by rw [hg];exact Nat.ne_of_gt (zkl BK796.out):gb809≠gb796))
     have n12_:=As_ ((by rw [hg];exact Nat.ne_of_lt (zkl BK803.out):gb803≠gb809))
     have n13_:=As_ ((by rw [hg];exact Nat.ne_of_gt (zkl BK803.out):gb809≠gb803))
     clear HO_804000 BK795 BK796 BK803 HB
     revert n0_ n1_ n2_ n3_ n4_ n5_ n6_ n7_ n8_ n9_ n10_ n11_ n12_ n13_;intro HO_804000 BK795 BK796 BK803 HB BK809 GW809 GE809 NB795_809 NB809_795 NB796_809 NB809_796 NB803_809 NB809_803
     clear hb hbox hg
     refine hK.out _ _ ⟨(bkC BK795.out 0).trans rfl,(bkC BK795.out 1).trans rfl,((HB.out.cell (bwL w _ hw807_0)).trans hw807_0),((HB.out.cell (bwL w _ hw807_1)).trans hw807_1),((HB.out.cell (bwL w _ hw807_2)).trans hw807_2),((HB.out.cell (bwL w _ hw808_0)).trans hw808_0),((HB.out.cell (bwL w _ hw808_1)).trans hw808_1),((HB.out.cell (bwL w _ hw808_2)).trans hw808_2)⟩ (fun hHeld=>?_)
     clear hK K
     refine norm_ (a':=?_) ?_ ?_
     rotate_left
     ·show Act.put _ (some 7) _=_
      simp only [Act.put,sq_,i64_w,i32_w]
      rfl
     refine one_ (i:=14) (N:=none) (bl_ 32767 15) rfl rfl (one_of HT_.out (by kernel_rfl)) (by decide) (fun K hK=>?_)
     have hs52:w51.cell? ⟨gb809,0,none⟩=some (.int .i64 0):=(bkC BK809.out 0).trans rfl
     have hfs52:=bkF BK809.out 0
     have hns52_0:=NB795_809.out
     have hns52_1:=NB796_809.out
     have hns52_2:=NB803_809.out
     have hms52_0:=NB809_795.out
     have hms52_1:=NB809_796.out
     have hms52_2:=NB809_803.out
     have hs53:w51.cell? ⟨gb809,1,none⟩=some (.int .i64 0):=(bkC BK809.out 1).trans rfl
     have hfs53:=bkF BK809.out 1
     have hns53_0:=NB795_809.out
     have hns53_1:=NB796_809.out
     have hns53_2:=NB803_809.out
     have hms53_0:=NB809_795.out
     have hms53_1:=NB809_796.out
     have hms53_2:=NB809_803.out
     have hs54:w51.cell? ⟨gb809,2,none⟩=some (.slice none 0 0):=(bkC BK809.out 2).trans rfl
     have hfs54:=bkF BK809.out 2
     have hns54_0:=NB795_809.out
     have hns54_1:=NB796_809.out
     have hns54_2:=NB803_809.out
     have hms54_0:=NB809_795.out
     have hms54_1:=NB809_796.out
     have hms54_2:=NB809_803.out
     refine skip_ (w1:=?_) (by rfl) rfl ?_ ?_
     rotate_left
     ·go_simp
      rfl
     refine hK.out _ _ ⟨((cell_far (p:=⟨gb809,_,none⟩) NB795_809.out _).trans (((cell_far (p:=⟨gb809,_,none⟩) NB795_809.out _).trans (((cell_far (p:=⟨gb809,_,none⟩) NB795_809.out _).trans (hHeld.1)))))),((cell_far (p:=⟨gb809,_,none⟩) NB795_809.out _).trans (((cell_far (p:=⟨gb809,_,none⟩) NB795_809.out _).trans (((cell_far (p:=⟨gb809,_,none⟩) NB795_809.out _).trans (hHeld.2.1)))))),((cell_far (p:=⟨gb809,_,none⟩) (by first|exact Nat.ne_of_lt (Nat.lt_of_lt_of_le (by have:=bwL _ _ hw807_0;first|rwa [add_block] at this|exact this) GW809.out)|(rw [add_block];exact Nat.ne_of_lt (Nat.lt_of_lt_of_le (by have:=bwL _ _ hw807_0;first|rwa [add_block] at this|exact this) GW809.out))|(show (Addr.add _ _).block≠_;rw [add_block];exact Nat.ne_of_lt (Nat.lt_of_lt_of_le (by have:=bwL _ _ hw807_0;first|rwa [add_block] at this|exact this) GW809.out))|(dsimp only;exact Nat.ne_of_lt (Nat.lt_of_lt_of_le (by have:=bwL _ _ hw807_0;first|rwa [add_block] at this|exact this) GW809.out))) _).trans (((cell_far (p:=⟨gb809,_,none⟩) (by first|exact Nat.ne_of_lt (Nat.lt_of_lt_of_le (by have:=bwL _ _ hw807_0;first|rwa [add_block] at this|exact this) GW809.out)|(rw [add_block];exact Nat.ne_of_lt (Nat.lt_of_lt_of_le (by have:=bwL _ _ hw807_0;first|rwa [add_block] at this|exact this) GW809.out))|(show (Addr.add _ _).block≠_;rw [add_block];exact Nat.ne_of_lt (Nat.lt_of_lt_of_le (by have:=bwL _ _ hw807_0;first|rwa [add_block] at this|exact this) GW809.out))|(dsimp only;exact Nat.ne_of_lt (Nat.lt_of_lt_of_le (by have:=bwL _ _ hw807_0;first|rwa [add_block] at this|exact this) GW809.out))) _).trans (((cell_far (p:=⟨gb809,_,none⟩) (by first|exact Nat.ne_of_lt (Nat.lt_of_lt_of_le (by have:=bwL _ _ hw807_0;first|rwa [add_block] at this|exact this) GW809.out)|(rw [add_block];exact Nat.ne_of_lt (Nat.lt_of_lt_of_le (by have:=bwL _ _ hw807_0;first|rwa [add_block] at this|exact this) GW809.out))|(show (Addr.add _ _).block≠_;rw [add_block];exact Nat.ne_of_lt (Nat.lt_of_lt_of_le (by have:=bwL _ _ hw807_0;first|rwa [add_block] at this|exact this) GW809.out))|(dsimp only;exact Nat.ne_of_lt (Nat.lt_of_lt_of_le (by have:=bwL _ _ hw807_0;first|rwa [add_block] at this|exact this) GW809.out))) _).trans (hHeld.2.2.1)))))),((cell_far (p:=⟨gb809,_,none⟩) (by first|exact Nat.ne_of_lt (Nat.lt_of_lt_of_le (by have:=bwL _ _ hw807_1;first|rwa [add_block] at this|exact this) GW809.out)|(rw [add_block];exact Nat.ne_of_lt (Nat.lt_of_lt_of_le (by have:=bwL _ _ hw807_1;first|rwa [add_block] at this|exact this) GW809.out))|(show (Addr.add _ _).block≠_;rw [add_block];exact Nat.ne_of_lt (Nat.lt_of_lt_of_le (by have:=bwL _ _ hw807_1;first|rwa [add_block] at this|exact this) GW809.out))|(dsimp only;exact Nat.ne_of_lt (Nat.lt_of_lt_of_le (by have:=bwL _ _ hw807_1;first|rwa [add_block] at this|exact this) GW809.out))) _).trans (((cell_far (p:=⟨gb809,_,none⟩) (by first|exact Nat.ne_of_lt (Nat.lt_of_lt_of_le (by have:=bwL _ _ hw807_1;first|rwa [add_block] at this|exact this) GW809.out)|(rw [add_block];exact Nat.ne_of_lt (Nat.lt_of_lt_of_le (by have:=bwL _ _ hw807_1;first|rwa [add_block] at this|exact this) GW809.out))|(show (Addr.add _ _).block≠_;rw [add_block];exact Nat.ne_of_lt (Nat.lt_of_lt_of_le (by have:=bwL _ _ hw807_1;first|rwa [add_block] at this|exact this) GW809.out))|(dsimp only;exact Nat.ne_of_lt (Nat.lt_of_lt_of_le (by have:=bwL _ _ hw807_1;first|rwa [add_block] at this|exact this) GW809.out))) _).trans (((cell_far (p:=⟨gb809,_,none⟩) (by first|exact Nat.ne_of_lt (Nat.lt_of_lt_of_le (by have:=bwL _ _ hw807_1;first|rwa [add_block] at this|exact this) GW809.out)|(rw [add_block];exact Nat.ne_of_lt (Nat.lt_of_lt_of_le (by have:=bwL _ _ hw807_1;first|rwa [add_block] at this|exact this) GW809.out))|(show (Addr.add _ _).block≠_;rw [add_block];exact Nat.ne_of_lt (Nat.lt_of_lt_of_le (by have:=bwL _ _ hw807_1;first|rwa [add_block] at this|exact this) GW809.out))|(dsimp only;exact Nat.ne_of_lt (Nat.lt_of_lt_of_le (by have:=bwL _ _ hw807_1;first|rwa [add_block] at this|exact this) GW809.out))) _).trans (hHeld.2.2.2.1)))))),((cell_far (p:=⟨gb809,_,none⟩) (by first|exact Nat.ne_of_lt (Nat.lt_of_lt_of_le (by have:=bwL _ _ hw807_2;first|rwa [add_block] at this|exact this) GW809.out)|(rw [add_block];exact Nat.ne_of_lt (Nat.lt_of_lt_of_le (by have:=bwL _ _ hw807_2;first|rwa [add_block] at this|exact this) GW809.out))|(show (Addr.add _ _).block≠_;rw [add_block];exact Nat.ne_of_lt (Nat.lt_of_lt_of_le (by have:=bwL _ _ hw807_2;first|rwa [add_block] at this|exact this) GW809.out))|(dsimp only;exact Nat.ne_of_lt (Nat.lt_of_lt_of_le (by have:=bwL _ _ hw807_2;first|rwa [add_block] at this|exact this) GW809.out))) _).trans (((cell_far (p:=⟨gb809,_,none⟩) (by first|exact Nat.ne_of_lt (Nat.lt_of_lt_of_le (by have:=bwL _ _ hw807_2;first|rwa [add_block] at this|exact this) GW809.out)|(rw [add_block];exact Nat.ne_of_lt (Nat.lt_of_lt_of_le (by have:=bwL _ _ hw807_2;first|rwa [add_block] at this|exact this) GW809.out))|(show (Addr.add _ _).block≠_;rw [add_block];exact Nat.ne_of_lt (Nat.lt_of_lt_of_le (by have:=bwL _ _ hw807_2;first|rwa [add_block] at this|exact this) GW809.out))|(dsimp only;exact Nat.ne_of_lt (Nat.lt_of_lt_of_le (by have:=bwL _ _ hw807_2;first|rwa [add_block] at this|exact this) GW809.out))) _).trans (((cell_far (p:=⟨gb809,_,none⟩) (by first|exact Nat.ne_of_lt (Nat.lt_of_lt_of_le (by have:=bwL _ _ hw807_2;first|rwa [add_block] at this|exact this) GW809.out)|(rw [add_block];exact Nat.ne_of_lt (Nat.lt_of_lt_of_le (by have:=bwL _ _ hw807_2;first|rwa [add_block] at this|exact this) GW809.out))|(show (Addr.add _ _).block≠_;rw [add_block];exact Nat.ne_of_lt (Nat.lt_of_lt_of_le (by have:=bwL _ _ hw807_2;first|rwa [add_block] at this|exact this) GW809.out))|(dsimp only;exact Nat.ne_of_lt (Nat.lt_of_lt_of_le (by have:=bwL _ _ hw807_2;first|rwa [add_block] at this|exact this) GW809.out))) _).trans (hHeld.2.2.2.2.1)))))),((cell_far (p:=⟨gb809,_,none⟩) (by first|exact Nat.ne_of_lt (Nat.lt_of_lt_of_le (by have:=bwL _ _ hw808_0;first|rwa [add_block] at this|exact this) GW809.out)|(rw [add_block];exact Nat.ne_of_lt (Nat.lt_of_lt_of_le (by have:=bwL _ _ hw808_0;first|rwa [add_block] at this|exact this) GW809.out))|(show (Addr.add _ _).block≠_;rw [add_block];exact Nat.ne_of_lt (Nat.lt_of_lt_of_le (by have:=bwL _ _ hw808_0;first|rwa [add_block] at this|exact this) GW809.out))|(dsimp only;exact Nat.ne_of_lt (Nat.lt_of_lt_of_le (by have:=bwL _ _ hw808_0;first|rwa [add_block] at this|exact this) GW809.out))) _).trans (((cell_far (p:=⟨gb809,_,none⟩) (by first|exact Nat.ne_of_lt (Nat.lt_of_lt_of_le (by have:=bwL _ _ hw808_0;first|rwa [add_block] at this|exact this) GW809.out)|(rw [add_block];exact Nat.ne_of_lt (Nat.lt_of_lt_of_le (by have:=bwL _ _ hw808_0;first|rwa [add_block] at this|exact this) GW809.out))|(show (Addr.add _ _).block≠_;rw [add_block];exact Nat.ne_of_lt (Nat.lt_of_lt_of_le (by have:=bwL _ _ hw808_0;first|rwa [add_block] at this|exact this) GW809.out))|(dsimp only;exact Nat.ne_of_lt (Nat.lt_of_lt_of_le (by have:=bwL _ _ hw808_0;first|rwa [add_block] at this|exact this) GW809.out))) _).trans (((cell_far (p:=⟨gb809,_,none⟩) (by first|exact Nat.ne_of_lt (Nat.lt_of_lt_of_le (by have:=bwL _ _ hw808_0;first|rwa [add_block] at this|exact this) GW809.out)|(rw [add_block];exact Nat.ne_of_lt (Nat.lt_of_lt_of_le (by have:=bwL _ _ hw808_0;first|rwa [add_block] at this|exact this) GW809.out))|(show (Addr.add _ _).block≠_;rw [add_block];exact Nat.ne_of_lt (Nat.lt_of_lt_of_le (by have:=bwL _ _ hw808_0;first|rwa [add_block] at this|exact this) GW809.out))|(dsimp only;exact Nat.ne_of_lt (Nat.lt_of_lt_of_le (by have:=bwL _ _ hw808_0;first|rwa [add_block] at this|exact this) GW809.out))) _).trans (hHeld.2.2.2.2.2.1)))))),((cell_far (p:=⟨gb809,_,none⟩) (by first|exact Nat.ne_of_lt (Nat.lt_of_lt_of_le (by have:=bwL _ _ hw808_1;first|rwa [add_block] at this|exact this) GW809.out)|(rw [add_block];exact Nat.ne_of_lt (Nat.lt_of_lt_of_le (by have:=bwL _ _ hw808_1;first|rwa [add_block] at this|exact this) GW809.out))|(show (Addr.add _ _).block≠_;rw [add_block];exact Nat.ne_of_lt (Nat.lt_of_lt_of_le (by have:=bwL _ _ hw808_1;first|rwa [add_block] at this|exact this) GW809.out))|(dsimp only;exact Nat.ne_of_lt (Nat.lt_of_lt_of_le (by have:=bwL _ _ hw808_1;first|rwa [add_block] at this|exact this) GW809.out))) _).trans (((cell_far (p:=⟨gb809,_,none⟩) (by first|exact Nat.ne_of_lt (Nat.lt_of_lt_of_le (by have:=bwL _ _ hw808_1;first|rwa [add_block] at this|exact this) GW809.out)|(rw [add_block];exact Nat.ne_of_lt (Nat.lt_of_lt_of_le (by have:=bwL _ _ hw808_1;first|rwa [add_block] at this|exact this) GW809.out))|(show (Addr.add _ _).block≠_;rw [add_block];exact Nat.ne_of_lt (Nat.lt_of_lt_of_le (by have:=bwL _ _ hw808_1;first|rwa [add_block] at this|exact this) GW809.out))|(dsimp only;exact Nat.ne_of_lt (Nat.lt_of_lt_of_le (by have:=bwL _ _ hw808_1;first|rwa [add_block] at this|exact this) GW809.out))) _).trans (((cell_far (p:=⟨gb809,_,none⟩) (by first|exact Nat.ne_of_lt (Nat.lt_of_lt_of_le (by have:=bwL _ _ hw808_1;first|rwa [add_block] at this|exact this) GW809.out)|(rw [add_block];exact Nat.ne_of_lt (Nat.lt_of_lt_of_le (by have:=bwL _ _ hw808_1;first|rwa [add_block] at this|exact this) GW809.out))|(show (Addr.add _ _).block≠_;rw [add_block];exact Nat.ne_of_lt (Nat.lt_of_lt_of_le (by have:=bwL _ _ hw808_1;first|rwa [add_block] at this|exact this) GW809.out))|(dsimp only;exact Nat.ne_of_lt (Nat.lt_of_lt_of_le (by have:=bwL _ _ hw808_1;first|rwa [add_block] at this|exact this) GW809.out))) _).trans (hHeld.2.2.2.2.2.2.1)))))),((cell_far (p:=⟨gb809,_,none⟩) (by first|exact Nat.ne_of_lt (Nat.lt_of_lt_of_le (by have:=bwL _ _ hw808_2;first|rwa [add_block] at this|exact this) GW809.out)|(rw [add_block];exact Nat.ne_of_lt (Nat.lt_of_lt_of_le (by have:=bwL _ _ hw808_2;first|rwa [add_block] at this|exact this) GW809.out))|(show (Addr.add _ _).block≠_;rw [add_block];exact Nat.ne_of_lt (Nat.lt_of_lt_of_le (by have:=bwL _ _ hw808_2;first|rwa [add_block] at this|exact this) GW809.out))|(dsimp only;exact Nat.ne_of_lt (Nat.lt_of_lt_of_le (by have:=bwL _ _ hw808_2;first|rwa [add_block] at this|exact this) GW809.out))) _).trans (((cell_far (p:=⟨gb809,_,none⟩) (by first|exact Nat.ne_of_lt (Nat.lt_of_lt_of_le (by have:=bwL _ _ hw808_2;first|rwa [add_block] at this|exact this) GW809.out)|(rw [add_block];exact Nat.ne_of_lt (Nat.lt_of_lt_of_le (by have:=bwL _ _ hw808_2;first|rwa [add_block] at this|exact this) GW809.out))|(show (Addr.add _ _).block≠_;rw [add_block];exact Nat.ne_of_lt (Nat.lt_of_lt_of_le (by have:=bwL _ _ hw808_2;first|rwa [add_block] at this|exact this) GW809.out))|(dsimp only;exact Nat.ne_of_lt (Nat.lt_of_lt_of_le (by have:=bwL _ _ hw808_2;first|rwa [add_block] at this|exact this) GW809.out))) _).trans (((cell_far (p:=⟨gb809,_,none⟩) (by first|exact Nat.ne_of_lt (Nat.lt_of_lt_of_le (by have:=bwL _ _ hw808_2;first|rwa [add_block] at this|exact this) GW809.out)|(rw [add_block];exact Nat.ne_of_lt (Nat.lt_of_lt_of_le (by have:=bwL _ _ hw808_2;first|rwa [add_block] at this|exact this) GW809.out))|(show (Addr.add _ _).block≠_;rw [add_block];exact Nat.ne_of_lt (Nat.lt_of_lt_of_le (by have:=bwL _ _ hw808_2;first|rwa [add_block] at this|exact this) GW809.out))|(dsimp only;exact Nat.ne_of_lt (Nat.lt_of_lt_of_le (by have:=bwL _ _ hw808_2;first|rwa [add_block] at this|exact this) GW809.out))) _).trans (hHeld.2.2.2.2.2.2.2))))))⟩ (fun hHeld=>?_)
     clear hK K
     refine done_ (done_of HT_.out (by kernel_rfl)) ?_
     try go_wp2
     go_loopg [8] k2 (fun kq v8 w'=>∃ (x8_3:Int) (x810002_3:List Int) (u810002:Value),v8=.int .i64 x8_3∧Aside0 (spec_RenumberGraph.l1 kq l1 x6_2 x8_3 l0_0 a0_1 x804000_2 (rd l1 a0_1) ((rd_T58 l0_0 x6_2).f0) ((rd_T58 l0_0 x6_2).f1) x810002_3=some (r1,r2))∧Aside0 (kq≤k2)∧Aside0 (Kd.S k58 58 w' w.heap.size (fun k_=>some k_≠(u810002:Value).ownBlock∧k_≠gb795∧k_≠gb796∧k_≠gb803∧k_≠gb809) u804000 x804000_2)∧Aside0 (Kd.R (Kd.int .i64) 3 w' w.heap.size (fun _=>True) u810002 x810002_3)∧Aside0 (w'.heap[gb795]?=some (.cells #[(.slice (some ad807) l0_0.length c0_0),.int .i64 a0_1] 25 (0,0)))∧Aside0 (w'.heap[gb796]?=some (.cells #[(.slice none 0 0),.int .i64 x797001_2] 25 (0,0)))∧Aside0 (w'.heap[gb803]?=some (.cells #[u804000,.int .i64 (rd l1 a0_1)] 25 (0,0)))∧Aside0 (w'.heap[gb809]?=some (.cells #[.int .i64 ((rd_T58 l0_0 x6_2).f0),.int .i64 ((rd_T58 l0_0 x6_2).f1),u810002] 58 (0,0)))∧Aside0 (Below w.heap.size w w'))
     case atStart=>exact ⟨(0),(([]:List Int)),(.slice none 0 0),zT_,H',⟨Nat.le_refl _⟩,⟨by (with_reducible repeat (first|apply Kd.S_alloc|apply Kd.S_drewN|apply Kd.S_drew));exact Kd.S_mono (Kd.S_far (p:=⟨gb809,2,none⟩) (Kd.S_far (p:=⟨gb809,1,none⟩) (Kd.S_far (p:=⟨gb809,0,none⟩) (Kd.S_mono HO_804000.out (fun k_ hk=>(⟨hk,hk.2⟩:_∧k_≠gb809))) (fun _ hk=>hk.2) (.int .i64 ((rd_T58 l0_0 x6_2).f0))) (fun _ hk=>hk.2) (.int .i64 ((rd_T58 l0_0 x6_2).f1))) (fun _ hk=>hk.2) (.slice none 0 0)) (fun _ hk=>⟨(by simp [Value.ownBlock]),⟨hk.1.1.1,⟨hk.1.1.2.1,⟨hk.1.1.2.2,hk.1.2⟩⟩⟩⟩)⟩,⟨by first|exact Kd.R_nil _ _ _ _ _|exact Kd.S_nil _ _ _ _ _|exact Kd.V_nil _ _ _ _ _|exact Kd.Q_nil _ _ _ _ _|exact Kd.S_nil _ _ _ _ _⟩,⟨by (with_reducible repeat first|apply bkN|apply bkD|apply bkA);refine blk_far ?_ NB795_809.out _;(with_reducible repeat first|apply bkN|apply bkD|apply bkA);refine blk_far ?_ NB795_809.out _;(with_reducible repeat first|apply bkN|apply bkD|apply bkA);refine blk_far ?_ NB795_809.out _;(with_reducible repeat first|apply bkN|apply bkD|apply bkA);exact BK795.out⟩,⟨by (with_reducible repeat first|apply bkN|apply bkD|apply bkA);refine blk_far ?_ NB796_809.out _;(with_reducible repeat first|apply bkN|apply bkD|apply bkA);refine blk_far ?_ NB796_809.out _;(with_reducible repeat first|apply bkN|apply bkD|apply bkA);refine blk_far ?_ NB796_809.out _;(with_reducible repeat first|apply bkN|apply bkD|apply bkA);exact BK796.out⟩,⟨by (with_reducible repeat first|apply bkN|apply bkD|apply bkA);refine blk_far ?_ NB803_809.out _;(with_reducible repeat first|apply bkN|apply bkD|apply bkA);refine blk_far ?_ NB803_809.out _;(with_reducible repeat first|apply bkN|apply bkD|apply bkA);refine blk_far ?_ NB803_809.out _;(with_reducible repeat first|apply bkN|apply bkD|apply bkA);exact BK803.out⟩,⟨by (with_reducible repeat first|apply bkN|apply bkD|apply bkA);refine blk_put (cs:=#[.int .i64 ((rd_T58 l0_0 x6_2).f0),.int .i64 ((rd_T58 l0_0 x6_2).f1),.slice none 0 0]) ?_ 2 _ rfl;(with_reducible repeat first|apply bkN|apply bkD|apply bkA);refine blk_put (cs:=#[.int .i64 ((rd_T58 l0_0 x6_2).f0),.int .i64 0,.slice none 0 0]) ?_ 1 _ rfl;(with_reducible repeat first|apply bkN|apply bkD|apply bkA);refine blk_put (cs:=#[.int .i64 0,.int .i64 0,.slice none 0 0]) ?_ 0 _ rfl;(with_reducible repeat first|apply bkN|apply bkD|apply bkA);exact BK809.out⟩,⟨zb4 HB.out GE795.out GE796.out GE803.out GE809.out⟩⟩
     case round=>
      clear H'
      obtain ⟨x8_3,x810002_3,u810002,rfl,HA,HK3,HO_804000,HO_810002,BK795,BK796,BK803,BK809,HB⟩:=hrel
      cases gk with
      | zero=>exact absurd HA.out (fun h_=>(by cases h_))
      | succ k3=>
       have H:=HA.out
       clear HA
       simp only [spec_RenumberGraph.l1] at H
       by_cases c55:0≤x6_2
       rotate_left
       ·rw [if_neg c55] at H
        exact absurd H (by simp)
       rw [if_pos c55] at H
       have c55b0:decide (0≤x6_2)=true:=deT c55
       clear c55
       by_cases c56:x6_2<(l0_0.length:Int)
       rotate_left
       ·rw [if_neg c56] at H
        exact absurd H (by simp)
       rw [if_pos c56] at H
       have c56b0:decide (x6_2<(l0_0.length:Int))=true:=deT c56
       clear c56
       by_cases c57:x8_3<(((rd_T58 l0_0 x6_2).f2).length:Int)
       rotate_left
       ·rw [if_neg c57] at H
        have c57b0:decide (x8_3<(((rd_T58 l0_0 x6_2).f2).length:Int))=false:=deF c57
        clear c57
        by_cases c70:x6_2<(l1.length:Int)
        rotate_left
        ·rw [if_neg c70] at H
         exact absurd H (by simp)
        rw [if_pos c70] at H
        have c70b0:decide (x6_2<(l1.length:Int))=true:=deT c70
        clear c70
        by_cases c71:0≤(rd l1 x6_2)
        rotate_left
        ·rw [if_neg c71] at H
         exact absurd H (by simp)
        rw [if_pos c71] at H
        have c71b0:decide (0≤(rd l1 x6_2))=true:=deT c71
        clear c71
        by_cases c72:(rd l1 x6_2)<(x804000_2.length:Int)
        rotate_left
        ·rw [if_neg c72] at H
         exact absurd H (by simp)
        rw [if_pos c72] at H
        have c72b0:decide ((rd l1 x6_2)<(x804000_2.length:Int))=true:=deT c72
        clear c72
        obtain ⟨y818,hy818⟩:∃ y_:List (S58),y_=(x804000_2.set ((rd l1 x6_2):Int).toNat (⟨((rd_T58 l0_0 x6_2).f0),((rd_T58 l0_0 x6_2).f1),x810002_3⟩:S58)):=⟨_,rfl⟩
        replace H:(spec_RenumberGraph.l0 k3 l1 (wrap64 (x6_2+1)) l0_0 a0_1 y818 (rd l1 a0_1))=some (r1,r2):=zH_ H hy818
        have Ny818:=As_ hy818
        clear hy818
        have H':=As_ H
        clear H
        have hnb74:=NB795_796.out
        have hnc74:=NB796_795.out
        have hnb75:=NB795_803.out
        have hnc75:=NB803_795.out
        have hnb76:=NB795_809.out
        have hnc76:=NB809_795.out
        obtain ⟨hcz77_0,hcz77_1,hfz77_0,hfz77_1⟩:=bk2 BK795.out
        have p810:0≤(x6_2:Int):=odT zA_
        have q810:x6_2<(l0_0.length:Int):=odT zA_
        obtain ⟨ad810,A810_2,c810_2,e810,hx810_0,hx810_1,hx810_2,hl810_2,hi810_2⟩:=at_T58 HR0_0.out x6_2 p810 q810
        obtain rfl:ad807=ad810:=(by injection e810)
        replace hx810_0:=bwC HB.out hx810_0
        replace hx810_1:=bwC HB.out hx810_1
        replace hx810_2:=bwC HB.out hx810_2
        have HR810_2:=As_ hi810_2
        have HC810_2:=As_ hl810_2
        clear hi810_2 hl810_2
        replace p810:=eq_true p810
        replace q810:=eq_true q810
        try go_wp2
        have n0_:=As_ (Kd.S_drew HO_804000.out)
        have n1_:=As_ (Kd.R_drew HO_810002.out)
        have n2_:=As_ (bkD BK795.out)
        have n3_:=As_ (bkD BK796.out)
        have n4_:=As_ (bkD BK803.out)
        have n5_:=As_ (bkD BK809.out)
        have n6_:=As_ (bwD HB.out)
        clear HO_804000 HO_810002 BK795 BK796 BK803 BK809 HB
        revert n0_ n1_ n2_ n3_ n4_ n5_ n6_;intro HO_804000 HO_810002 BK795 BK796 BK803 BK809 HB
        have p817:0≤(x6_2:Int):=odT zA_
        have q817:x6_2<(l1.length:Int):=odT zA_
        obtain ⟨ad817,e817,hx817_0⟩:=Kd.at_int HR1.out x6_2 p817 q817
        have hw817_0:=hx817_0
        obtain rfl:ad802=ad817:=(by injection e817)
        replace hx817_0:=bwC HB.out hx817_0
        replace p817:=eq_true p817
        replace q817:=eq_true q817
        have p73:0≤((rd l1 x6_2):Int):=odT zA_
        have q73:((rd l1 x6_2):Int)<((x804000_2.length:Int):Int):=odT zA_
        obtain ⟨go73,co73,eo73,gb73,gl73,cl73,HG73⟩:=Kd.S_form HO_804000.out (by omega)
        (first|cases eo73|(injection eo73 with ea_ en_ ec_;(first|subst ea_|(injection ea_ with ea_;subst ea_));subst ec_;clear en_))
        have GB73:=As_ gb73
        have GG73:=As_ HG73
        clear gb73 gl73 HG73
        obtain ⟨ce73,hcl73,hM73,hcc73,hfr73⟩:=Kd.N_elem (Kd.S_N HO_804000.out) z58 ((rd l1 x6_2):Int) p73 q73
        obtain ⟨ua73_2,uc73_2,rfl,ul73_2,ge73_2⟩:=k58_openF hM73
        have hx73_0:World.cell? _ ⟨go73,((rd l1 x6_2):Int).toNat * 3,none⟩=some (.int .i64 ((rd_T58 x804000_2 (rd l1 x6_2)).f0)):=hcc73 0 _ rfl
        have hx73_1:World.cell? _ ⟨go73,((rd l1 x6_2):Int).toNat * 3+1,none⟩=some (.int .i64 ((rd_T58 x804000_2 (rd l1 x6_2)).f1)):=hcc73 1 _ rfl
        have hx73_2:World.cell? _ ⟨go73,((rd l1 x6_2):Int).toNat * 3+2,none⟩=some (.slice ua73_2 ((rd_T58 x804000_2 (rd l1 x6_2)).f2).length uc73_2):=hcc73 2 _ rfl
        have hf73_0:World.frozen? _ ⟨go73,((rd l1 x6_2):Int).toNat * 3,none⟩=false:=hfr73 0
        have hf73_1:World.frozen? _ ⟨go73,((rd l1 x6_2):Int).toNat * 3+1,none⟩=false:=hfr73 1
        have hf73_2:World.frozen? _ ⟨go73,((rd l1 x6_2):Int).toNat * 3+2,none⟩=false:=hfr73 2
        clear hcl73 hcc73 hfr73 hM73
        replace p73:=eq_true p73
        replace q73:=eq_true q73
        obtain ⟨Av_,cv_,ev_⟩:=Kd.R_slice HO_810002.out
        subst ev_
        have HX79:=As_ (show Kd.S k58 58 _ w.heap.size (fun k_=>((fun k_=>k_≠gb795∧k_≠gb796∧k_≠gb803∧k_≠gb809) k_)∧¬ (some k_=((.slice Av_ x810002_3.length cv_):Value).ownBlock)) (.slice (some ⟨go73,0,none⟩) x804000_2.length co73) x804000_2 from (Kd.S_mono (HO_804000.out) (fun k_ hk=>⟨⟨hk.2.1,⟨hk.2.2.1,⟨hk.2.2.2.1,hk.2.2.2.2⟩⟩⟩,hk.1⟩)))
        obtain ⟨oki79,ce79,hcl79,hM79,hcc79,hfr79,hoki79,hH79⟩:=Kd.S_elem HX79.out z58 ((rd l1 x6_2):Int) (odT zA_) (by have h_:((rd l1 x6_2):Int)<((x804000_2.length:Int):Int):=odT zA_;first|exact h_|(have e_:=(Kd.S_reads' HO_804000.out).1;omega)|simpa using h_)
        obtain ⟨ve79_2,rfl,ge79_2⟩:=k58_openM hM79
        have HP79:=(Kd.S_seg (ok:=fun k_=>k_≠gb795∧k_≠gb796∧k_≠gb803∧k_≠gb809) (okg:=fun k_=>some k_=((.slice Av_ x810002_3.length cv_):Value).ownBlock) (okp:=fun k_=>some k_=((.slice Av_ x810002_3.length cv_):Value).ownBlock) hH79 (odT zA_) (by have h_:((rd l1 x6_2):Int)<((x804000_2.length:Int):Int):=odT zA_;first|exact h_|(have e_:=(Kd.S_reads' HO_804000.out).1;omega)|simpa using h_) (seg:=[.int .i64 ((rd_T58 l0_0 x6_2).f0),.int .i64 ((rd_T58 l0_0 x6_2).f1),(.slice Av_ x810002_3.length cv_)]) (j:=0) (show 3≤3 from by decide) (x':=(⟨((rd_T58 l0_0 x6_2).f0),((rd_T58 l0_0 x6_2).f1),x810002_3⟩:S58)) (k58_mkM _ _ _ (⟨((rd_T58 l0_0 x6_2).f0),((rd_T58 l0_0 x6_2).f1),x810002_3⟩:S58) (Kd.R_tight rfl HO_810002.out)) (fun _ hk=>.inr hk) (fun k_ hk=>(Kd.R_mono (ok':=(fun k_=>((fun k_=>k_≠gb795∧k_≠gb796∧k_≠gb803∧k_≠gb809)) k_∧k_≠go73)) (Kd.R_types (Kd.R_types (Kd.R_types (Kd.R_types (Kd.R_apart' (HO_810002.out) (Kd.S_typed HO_804000.out) (by decide)) BK795.out (by decide)) BK796.out (by decide)) BK803.out (by decide)) BK809.out (by decide)) (fun k_ hk=>⟨⟨hk.1.1.1.2,⟨hk.1.1.2,⟨hk.1.2,hk.2⟩⟩⟩,fun e_=>(hk.1.1.1.1.2) (by rw [e_];rfl)⟩)).1 k_ hk.symm)).1
        rw [← Ny818.out] at HP79
        have HQ79:=As_ HP79
        clear hcl79 hcc79 hfr79 hM79 HP79 hoki79 hH79
        refine start_ (n:=9) (S:=fun w'=>w'.cell? ⟨gb803,0,none⟩=some (.slice (some ⟨go73,0,none⟩) x804000_2.length co73)∧w'.cell? ⟨gb803,1,none⟩=some (.int .i64 (rd l1 a0_1))∧w'.cell? ⟨gb809,0,none⟩=some (.int .i64 ((rd_T58 l0_0 x6_2).f0))∧w'.cell? ⟨gb809,1,none⟩=some (.int .i64 ((rd_T58 l0_0 x6_2).f1))∧w'.cell? ⟨gb809,2,none⟩=some ((.slice Av_ x810002_3.length cv_))∧w'.cell? (ad802.add (x6_2).toNat)=some (.int .i64 (rd l1 x6_2))) (ds:=[8]) (bl_ 0 9) (by kernel_rfl) rfl rfl ⟨(bkC BK803.out 0).trans rfl,(bkC BK803.out 1).trans rfl,(bkC BK809.out 0).trans rfl,(bkC BK809.out 1).trans rfl,(bkC BK809.out 2).trans rfl,((HB.out.cell (bwL w _ hw817_0)).trans hw817_0)⟩ (fun hHeld=>?_);refine with_tabW spec_RenumberGraph.tab14 spec_RenumberGraph.bits14 (fun HT_ HW_=>?_)
        generalize wr.drew=w78 at HO_804000 HO_810002 BK795 BK796 BK803 BK809 HB GG73 HQ79 hf73_0 hf73_1 hf73_2 hx73_0 hx73_1 hx73_2 hx817_0 hHeld ⊢
        refine pQ 0 95 (bl_ 1 9) HT_ rfl ?_
        refine pQ 2 97 (bl_ 5 9) HT_ rfl ?_
        refine pQ 3 98 (bl_ 13 9) HT_ rfl ?_
        refine pQ 4 99 (bl_ 29 9) HT_ rfl ?_
        refine tP 1 96 (bl_ 31 9) ?_ HT_ HW_ rfl (.inl ⟨by rfl,?_⟩) hHeld ?_ ?_ ?_;rotate_left;(rintro w' ⟨s0,s1,s2,s3,s4,s5⟩;go_simp;with_reducible rfl);rotate_left;(simp only [Act.put,sq_,i64_w,i32_w];rfl)
        refine tP 5 100 (bl_ 63 9) ?_ HT_ HW_ rfl (.inl ⟨by rfl,?_⟩) hHeld ?_ ?_ ?_;rotate_left;(rintro w' ⟨s0,s1,s2,s3,s4,s5⟩;go_simp;with_reducible rfl);rotate_left;(simp only [Act.put,sq_,i64_w,i32_w];rfl)
        refine tP 6 101 (bl_ 127 9) ?_ HT_ HW_ rfl (.inl ⟨by rfl,?_⟩) hHeld ?_ ?_ ?_;rotate_left;(rintro w' ⟨s0,s1,s2,s3,s4,s5⟩;go_simp;with_reducible rfl);rotate_left;(simp only [Act.put,sq_,i64_w,i32_w];rfl)
        refine pQ 7 102 (bl_ 255 9) HT_ rfl ?_
        refine last_ (i:=8) (N:=none) (bl_ 511 9) rfl rfl (one_of HT_.out (by kernel_rfl)) (by decide) (fun K hK=>?_)
        refine skip_ (w1:=?_) (by rfl) rfl ?_ ?_
        rotate_left
        ·go_simp
         rfl
        refine hK.out _ _ ?_
        clear hK K
        refine done_ (done_of HT_.out (by kernel_rfl)) ?_
        try go_wp2
        go_roundg k3
        case measure=>have:=HJ2.out;have:=HK2.out;have:=HK3.out;omega
        case rel=>exact ⟨(wrap64 (x6_2+1)),(x797001_2),(y818),(.slice (some ⟨go73,0,none⟩) x804000_2.length co73),zT_,H',⟨by have:=HJ2.out;have:=HK2.out;have:=HK3.out;omega⟩,⟨by (with_reducible repeat (first|apply Kd.S_alloc|apply Kd.S_drewN|apply Kd.S_drew));exact Kd.S_mono HQ79.out (fun _ hk=>⟨hk.1,⟨hk.2.1,hk.2.2.1⟩⟩)⟩,⟨by (with_reducible repeat first|apply bkN|apply bkD|apply bkA);refine blk_far ?_ (by have h_:=Kd.S_away HQ79.out (fun _ hk=>hk.1);intro e_;exact h_ (by rw [e_];rfl)) _;(with_reducible repeat first|apply bkN|apply bkD|apply bkA);refine blk_far ?_ (by have h_:=Kd.S_away HQ79.out (fun _ hk=>hk.1);intro e_;exact h_ (by rw [e_];rfl)) _;(with_reducible repeat first|apply bkN|apply bkD|apply bkA);refine blk_far ?_ (by have h_:=Kd.S_away HQ79.out (fun _ hk=>hk.1);intro e_;exact h_ (by rw [e_];rfl)) _;(with_reducible repeat first|apply bkN|apply bkD|apply bkA);exact BK795.out⟩,⟨by (with_reducible repeat first|apply bkN|apply bkD|apply bkA);refine blk_far ?_ (by have h_:=Kd.S_away HQ79.out (fun _ hk=>hk.2.1);intro e_;exact h_ (by rw [e_];rfl)) _;(with_reducible repeat first|apply bkN|apply bkD|apply bkA);refine blk_far ?_ (by have h_:=Kd.S_away HQ79.out (fun _ hk=>hk.2.1);intro e_;exact h_ (by rw [e_];rfl)) _;(with_reducible repeat first|apply bkN|apply bkD|apply bkA);refine blk_far ?_ (by have h_:=Kd.S_away HQ79.out (fun _ hk=>hk.2.1);intro e_;exact h_ (by rw [e_];rfl)) _;(with_reducible repeat first|apply bkN|apply bkD|apply bkA);exact BK796.out⟩,⟨by (with_reducible repeat first|apply bkN|apply bkD|apply bkA);refine blk_far ?_ (by have h_:=Kd.S_away HQ79.out (fun _ hk=>hk.2.2.1);intro e_;exact h_ (by rw [e_];rfl)) _;(with_reducible repeat first|apply bkN|apply bkD|apply bkA);refine blk_far ?_ (by have h_:=Kd.S_away HQ79.out (fun _ hk=>hk.2.2.1);intro e_;exact h_ (by rw [e_];rfl)) _;(with_reducible repeat first|apply bkN|apply bkD|apply bkA);refine blk_far ?_ (by have h_:=Kd.S_away HQ79.out (fun _ hk=>hk.2.2.1);intro e_;exact h_ (by rw [e_];rfl)) _;(with_reducible repeat first|apply bkN|apply bkD|apply bkA);exact BK803.out⟩,⟨by repeat (first|(with_reducible first|exact HB.out|apply bwA|apply bwN|apply bwD|refine bwS ?_ GB73.out|refine bwS ?_ GB73.out|refine bwS ?_ GB73.out|refine bwS ?_ GE795.out|refine bwS ?_ GE796.out|refine bwS ?_ GE803.out|refine bwS ?_ GE809.out)|exact HB.out)⟩⟩
       rw [if_pos c57] at H
       have c57b0:decide (x8_3<(((rd_T58 l0_0 x6_2).f2).length:Int))=true:=deT c57
       clear c57
       by_cases c58:0≤x8_3
       rotate_left
       ·rw [if_neg c58] at H
        exact absurd H (by simp)
       rw [if_pos c58] at H
       have c58b0:decide (0≤x8_3)=true:=deT c58
       clear c58
       by_cases c59:0≤(rd ((rd_T58 l0_0 x6_2).f2) x8_3)
       rotate_left
       ·rw [if_neg c59] at H
        exact absurd H (by simp)
       rw [if_pos c59] at H
       have c59b0:decide (0≤(rd ((rd_T58 l0_0 x6_2).f2) x8_3))=true:=deT c59
       clear c59
       by_cases c60:(rd ((rd_T58 l0_0 x6_2).f2) x8_3)<(l1.length:Int)
       rotate_left
       ·rw [if_neg c60] at H
        exact absurd H (by simp)
       rw [if_pos c60] at H
       have c60b0:decide ((rd ((rd_T58 l0_0 x6_2).f2) x8_3)<(l1.length:Int))=true:=deT c60
       clear c60
       by_cases c61:x810002_3.length<17592186044416
       rotate_left
       ·rw [if_neg c61] at H
        exact absurd H (by simp)
       rw [if_pos c61] at H
       have LMc61:=As_ c61
       clear c61
       obtain ⟨y814,hy814⟩:∃ y_:List Int,y_=(x810002_3++[rd l1 (rd ((rd_T58 l0_0 x6_2).f2) x8_3)]):=⟨_,rfl⟩
       replace H:(spec_RenumberGraph.l1 k3 l1 x6_2 (wrap64 (x8_3+1)) l0_0 a0_1 x804000_2 (rd l1 a0_1) ((rd_T58 l0_0 x6_2).f0) ((rd_T58 l0_0 x6_2).f1) y814)=some (r1,r2):=zH_ H hy814
       have Ny814:=As_ hy814
       clear hy814
       have H':=As_ H
       clear H
       have hnb62:=NB795_796.out
       have hnc62:=NB796_795.out
       have hnb63:=NB795_803.out
       have hnc63:=NB803_795.out
       have hnb64:=NB795_809.out
       have hnc64:=NB809_795.out
       obtain ⟨hcz65_0,hcz65_1,hfz65_0,hfz65_1⟩:=bk2 BK795.out
       have p810:0≤(x6_2:Int):=odT zA_
       have q810:x6_2<(l0_0.length:Int):=odT zA_
       obtain ⟨ad810,A810_2,c810_2,e810,hx810_0,hx810_1,hx810_2,hl810_2,hi810_2⟩:=at_T58 HR0_0.out x6_2 p810 q810
       obtain rfl:ad807=ad810:=(by injection e810)
       replace hx810_0:=bwC HB.out hx810_0
       replace hx810_1:=bwC HB.out hx810_1
       replace hx810_2:=bwC HB.out hx810_2
       have HR810_2:=As_ hi810_2
       have HC810_2:=As_ hl810_2
       clear hi810_2 hl810_2
       replace p810:=eq_true p810
       replace q810:=eq_true q810
       try go_wp2
       have n0_:=As_ (Kd.S_drew HO_804000.out)
       have n1_:=As_ (Kd.R_drew HO_810002.out)
       have n2_:=As_ (bkD BK795.out)
       have n3_:=As_ (bkD BK796.out)
       have n4_:=As_ (bkD BK803.out)
       have n5_:=As_ (bkD BK809.out)
       have n6_:=As_ (bwD HB.out)
       clear HO_804000 HO_810002 BK795 BK796 BK803 BK809 HB
       revert n0_ n1_ n2_ n3_ n4_ n5_ n6_;intro HO_804000 HO_810002 BK795 BK796 BK803 BK809 HB
       have p811:0≤(x6_2:Int):=odT zA_
       have q811:x6_2<(l0_0.length:Int):=odT zA_
       obtain ⟨ad811,A811_2,c811_2,e811,hx811_0,hx811_1,hx811_2,hl811_2,hi811_2⟩:=at_T58 HR0_0.out x6_2 p811 q811
       have hw811_2:=hx811_2
       have hw811_1:=hx811_1
       have hw811_0:=hx811_0
       obtain rfl:ad807=ad811:=(by injection e811)
       replace hx811_0:=bwC HB.out hx811_0
       replace hx811_1:=bwC HB.out hx811_1
       replace hx811_2:=bwC HB.out hx811_2
       have HR811_2:=As_ hi811_2
       have HC811_2:=As_ hl811_2
       clear hi811_2 hl811_2
       replace p811:=eq_true p811
       replace q811:=eq_true q811
       have p812:0≤(x8_3:Int):=odT zA_
       have q812:x8_3<(((rd_T58 l0_0 x6_2).f2).length:Int):=odT zA_
       obtain ⟨ad812,e812,hx812_0⟩:=Kd.at_int HR811_2.out x8_3 p812 q812
       have hw812_0:=hx812_0
       cases e812
       replace hx812_0:=bwC HB.out hx812_0
       replace p812:=eq_true p812
       replace q812:=eq_true q812
       have p813:0≤((rd ((rd_T58 l0_0 x6_2).f2) x8_3):Int):=odT zA_
       have q813:(rd ((rd_T58 l0_0 x6_2).f2) x8_3)<(l1.length:Int):=odT zA_
       obtain ⟨ad813,e813,hx813_0⟩:=Kd.at_int HR1.out (rd ((rd_T58 l0_0 x6_2).f2) x8_3) p813 q813
       have hw813_0:=hx813_0
       obtain rfl:ad802=ad813:=(by injection e813)
       replace hx813_0:=bwC HB.out hx813_0
       replace p813:=eq_true p813
       replace q813:=eq_true q813
       refine start_ (n:=18) (S:=fun w'=>w'.cell? ⟨gb809,0,none⟩=some (.int .i64 ((rd_T58 l0_0 x6_2).f0))∧w'.cell? ⟨gb809,1,none⟩=some (.int .i64 ((rd_T58 l0_0 x6_2).f1))∧w'.cell? ⟨gb809,2,none⟩=some (u810002)∧w'.cell? ⟨gb795,0,none⟩=some (.slice (some ad807) l0_0.length c0_0)∧w'.cell? ⟨gb795,1,none⟩=some (.int .i64 a0_1)∧w'.cell? (ad807.add ((x6_2).toNat * 3))=some (.int .i64 ((rd_T58 l0_0 x6_2).f0))∧w'.cell? ⟨(ad807.add ((x6_2).toNat * 3)).block,(ad807.add ((x6_2).toNat * 3)).off+1,none⟩=some (.int .i64 ((rd_T58 l0_0 x6_2).f1))∧w'.cell? ⟨(ad807.add ((x6_2).toNat * 3)).block,(ad807.add ((x6_2).toNat * 3)).off+2,none⟩=some (.slice (some ad812) ((rd_T58 l0_0 x6_2).f2).length c811_2)∧w'.cell? (ad812.add (x8_3).toNat)=some (.int .i64 (rd ((rd_T58 l0_0 x6_2).f2) x8_3))∧w'.cell? (ad802.add ((rd ((rd_T58 l0_0 x6_2).f2) x8_3)).toNat)=some (.int .i64 (rd l1 (rd ((rd_T58 l0_0 x6_2).f2) x8_3)))) (ds:=[17]) (bl_ 0 18) (by kernel_rfl) rfl rfl ⟨(bkC BK809.out 0).trans rfl,(bkC BK809.out 1).trans rfl,(bkC BK809.out 2).trans rfl,(bkC BK795.out 0).trans rfl,(bkC BK795.out 1).trans rfl,((HB.out.cell (bwL w _ hw811_0)).trans hw811_0),((HB.out.cell (bwL w _ hw811_1)).trans hw811_1),((HB.out.cell (bwL w _ hw811_2)).trans hw811_2),((HB.out.cell (bwL w _ hw812_0)).trans hw812_0),((HB.out.cell (bwL w _ hw813_0)).trans hw813_0)⟩ (fun hHeld=>?_);refine with_tabW spec_RenumberGraph.tab13 spec_RenumberGraph.bits13 (fun HT_ HW_=>?_)
       generalize wr.drew=w66 at HO_804000 HO_810002 BK795 BK796 BK803 BK809 HB HR811_2 hx811_0 hx811_1 hx811_2 hx812_0 hx813_0 hHeld ⊢
       refine pQ 0 78 (bl_ 1 18) HT_ rfl ?_
       refine pQ 2 80 (bl_ 5 18) HT_ rfl ?_
       refine pQ 3 81 (bl_ 13 18) HT_ rfl ?_
       refine pQ 5 83 (bl_ 45 18) HT_ rfl ?_
       refine pQ 9 87 (bl_ 557 18) HT_ rfl ?_
       refine tP 1 79 (bl_ 559 18) ?_ HT_ HW_ rfl (.inl ⟨by rfl,?_⟩) hHeld ?_ ?_ ?_;rotate_left;(rintro w' ⟨s0,s1,s2,s3,s4,s5,s6,s7,s8,s9⟩;go_simp;with_reducible rfl);rotate_left;(simp only [Act.put,sq_,i64_w,i32_w];rfl)
       refine tP 4 82 (bl_ 575 18) ?_ HT_ HW_ rfl (.inl ⟨by rfl,?_⟩) hHeld ?_ ?_ ?_;rotate_left;(rintro w' ⟨s0,s1,s2,s3,s4,s5,s6,s7,s8,s9⟩;go_simp;with_reducible rfl);rotate_left;(simp only [Act.put,sq_,i64_w,i32_w];rfl)
       refine pQ 6 84 (bl_ 639 18) HT_ rfl ?_
       refine pQ 7 85 (bl_ 767 18) HT_ rfl ?_
       refine tP 8 86 (bl_ 1023 18) ?_ HT_ HW_ rfl (.inl ⟨by rfl,?_⟩) hHeld ?_ ?_ ?_;rotate_left;(rintro w' ⟨s0,s1,s2,s3,s4,s5,s6,s7,s8,s9⟩;go_simp;with_reducible rfl);rotate_left;(simp only [Act.put,sq_,i64_w,i32_w];rfl)
       refine pQ 10 88 (bl_ 2047 18) HT_ rfl ?_
       refine tP 11 89 (bl_ 4095 18) ?_ HT_ HW_ rfl (.inl ⟨by rfl,?_⟩) hHeld ?_ ?_ ?_;rotate_left;(rintro w' ⟨s0,s1,s2,s3,s4,s5,s6,s7,s8,s9⟩;go_simp;with_reducible rfl);rotate_left;(simp only [Act.put,sq_,i64_w,i32_w];rfl)
       refine pQ 12 90 (bl_ 8191 18) HT_ rfl ?_
       refine tP 13 91 (bl_ 16383 18) ?_ HT_ HW_ rfl (.inl ⟨by rfl,?_⟩) hHeld ?_ ?_ ?_;rotate_left;(rintro w' ⟨s0,s1,s2,s3,s4,s5,s6,s7,s8,s9⟩;go_simp;with_reducible rfl);rotate_left;(simp only [Act.put,sq_,i64_w,i32_w];rfl)
       refine one_ (i:=14) (N:=some 92) (bl_ 32767 18) rfl rfl (one_of HT_.out (by kernel_rfl)) (by decide) (fun K hK=>?_)
       refine value_ (w1:=?_) (v:=?_) (by rfl) rfl ?_ ?_
       rotate_left 2
       ·go_simp
        constructor
        ·rfl
        ·rfl
       refine hK.out _ _ ⟨(bkC (bkA BK809.out _) 0).trans rfl,(bkC (bkA BK809.out _) 1).trans rfl,(bkC (bkA BK809.out _) 2).trans rfl,(bkC (bkA BK795.out _) 0).trans rfl,(bkC (bkA BK795.out _) 1).trans rfl,(World.cell?_alloc_lt _ _ _ (bwL _ _ (((HB.out.cell (bwL w _ hw811_0)).trans hw811_0)))).trans (((HB.out.cell (bwL w _ hw811_0)).trans hw811_0)),(World.cell?_alloc_lt _ _ _ (bwL _ _ (((HB.out.cell (bwL w _ hw811_1)).trans hw811_1)))).trans (((HB.out.cell (bwL w _ hw811_1)).trans hw811_1)),(World.cell?_alloc_lt _ _ _ (bwL _ _ (((HB.out.cell (bwL w _ hw811_2)).trans hw811_2)))).trans (((HB.out.cell (bwL w _ hw811_2)).trans hw811_2)),(World.cell?_alloc_lt _ _ _ (bwL _ _ (((HB.out.cell (bwL w _ hw812_0)).trans hw812_0)))).trans (((HB.out.cell (bwL w _ hw812_0)).trans hw812_0)),(World.cell?_alloc_lt _ _ _ (bwL _ _ (((HB.out.cell (bwL w _ hw813_0)).trans hw813_0)))).trans (((HB.out.cell (bwL w _ hw813_0)).trans hw813_0))⟩ (fun hHeld=>?_)
       clear hK K
       refine norm_ (a':=?_) ?_ ?_
       rotate_left
       ·show Act.put _ (some 92) _=_
        simp only [Act.put,sq_,i64_w,i32_w]
        rfl
       refine one_ (i:=15) (N:=some 93) (bl_ 65535 18) rfl rfl (one_of HT_.out (by kernel_rfl)) (by decide) (fun K hK=>?_)
       refine Kd.R_append_step (Kd.int .i64) (w0:=w) w.heap.size (by rfl) (.tmp 79) (.tmp 92) 26 3 (.int .i64 0) 8 rfl Try.underlying26 info3 rfl (by decide) (by omega) u810002 x810002_3 (rd l1 (rd ((rd_T58 l0_0 x6_2).f2) x8_3)) [.int .i64 (rd l1 (rd ((rd_T58 l0_0 x6_2).f2) x8_3))] (fun _=>True) (fun _=>False) rfl rfl ?aP (fun _ hk=>hk.elim) ?aF ?aO ?aB ?aS ?aL ?_
       (case aP=>exact rfl)
       (case aB=>exact (zb4 HB.out GE795.out GE796.out GE803.out GE809.out))
       (case aF=>exact (fun _ _=>trivial))
       (case aO=>exact (zR_ HO_810002.out))
       (case aS=>exact (bwZ (zb4 HB.out GE795.out GE796.out GE803.out GE809.out)))
       (case aL=>have:=LMc61.out;omega)
       intro v815 w67 ho hb hg hat
       rw [← Ny814.out] at ho
       have n0_:=As_ (Kd.S_after (ok:=(fun k_=>k_≠gb795∧k_≠gb796∧k_≠gb803∧k_≠gb809)) (by (with_reducible repeat (first|apply Kd.S_alloc|apply Kd.S_drewN|apply Kd.S_drew));exact Kd.S_mono HO_804000.out (fun _ hk=>⟨⟨hk.2.1,⟨hk.2.2.1,⟨hk.2.2.2.1,hk.2.2.2.2⟩⟩⟩,hk.1⟩)) hg hat)
       have n1_:=As_ (blk_grown (g:=gb795) (o:=.cells #[.slice (some ad807) l0_0.length c0_0,.int .i64 a0_1] 25 (0,0)) (zk_ BK795.out) hg (Kd.R_ne HO_810002.out BK795.out (by decide)))
       have n2_:=As_ (blk_grown (g:=gb796) (o:=.cells #[.slice none 0 0,.int .i64 x797001_2] 25 (0,0)) (zk_ BK796.out) hg (Kd.R_ne HO_810002.out BK796.out (by decide)))
       have n3_:=As_ (blk_grown (g:=gb803) (o:=.cells #[u804000,.int .i64 (rd l1 a0_1)] 25 (0,0)) (zk_ BK803.out) hg (Kd.R_ne HO_810002.out BK803.out (by decide)))
       have n4_:=As_ (blk_grown (g:=gb809) (o:=.cells #[.int .i64 ((rd_T58 l0_0 x6_2).f0),.int .i64 ((rd_T58 l0_0 x6_2).f1),u810002] 58 (0,0)) (zk_ BK809.out) hg (Kd.R_ne HO_810002.out BK809.out (by decide)))
       have n5_:=As_ (hb)
       have n6_:=As_ (ho)
       clear HO_804000 BK795 BK796 BK803 BK809 HB HO_810002
       revert n0_ n1_ n2_ n3_ n4_ n5_ n6_;intro HO_804000 BK795 BK796 BK803 BK809 HB HO816
       clear ho hb hg hat
       obtain ⟨Ao68,co68,eo68⟩:=Kd.R_slice HO816.out
       (first|subst eo68|(injection eo68 with f1_ f2_ f3_;have f4_:=f1_.symm;have f5_:=f3_.symm;clear f1_ f2_ f3_;subst f4_;subst f5_))
       refine hK.out _ _ ⟨(bkC BK809.out 0).trans rfl,(bkC BK809.out 1).trans rfl,(bkC BK809.out 2).trans rfl,(bkC BK795.out 0).trans rfl,(bkC BK795.out 1).trans rfl,((HB.out.cell (bwL w _ hw811_0)).trans hw811_0),((HB.out.cell (bwL w _ hw811_1)).trans hw811_1),((HB.out.cell (bwL w _ hw811_2)).trans hw811_2),((HB.out.cell (bwL w _ hw812_0)).trans hw812_0),((HB.out.cell (bwL w _ hw813_0)).trans hw813_0)⟩ (fun hHeld=>?_)
       clear hK K
       refine norm_ (a':=?_) ?_ ?_
       rotate_left
       ·show Act.put _ (some 93) _=_
        simp only [Act.put,sq_,i64_w,i32_w]
        rfl
       refine pQ 16 94 (bl_ 131071 18) HT_ rfl ?_
       refine last_ (i:=17) (N:=none) (bl_ 262143 18) rfl rfl (one_of HT_.out (by kernel_rfl)) (by decide) (fun K hK=>?_)
       have hs69:w67.cell? ⟨gb809,2,none⟩=some (u810002):=(bkC BK809.out 2).trans rfl
       have hfs69:=bkF BK809.out 2
       have hns69_0:=NB795_809.out
       have hns69_1:=NB796_809.out
       have hns69_2:=NB803_809.out
       have hms69_0:=NB809_795.out
       have hms69_1:=NB809_796.out
       have hms69_2:=NB809_803.out
       refine skip_ (w1:=?_) (by rfl) rfl ?_ ?_
       rotate_left
       ·go_simp
        rfl
       refine hK.out _ _ ?_
       clear hK K
       refine done_ (done_of HT_.out (by kernel_rfl)) ?_
       try go_wp2
       go_roundg k3
       case measure=>have:=HJ2.out;have:=HK2.out;have:=HK3.out;omega
       case rel=>exact ⟨(wrap64 (x8_3+1)),(y814),(.slice Ao68 y814.length co68),zT_,H',⟨by have:=HJ2.out;have:=HK2.out;have:=HK3.out;omega⟩,⟨by (with_reducible repeat (first|apply Kd.S_alloc|apply Kd.S_drewN|apply Kd.S_drew));exact Kd.S_mono (Kd.S_far (p:=⟨gb809,2,none⟩) (Kd.S_mono HO_804000.out (fun k_ hk=>(⟨hk,hk.1.2.2.2⟩:_∧k_≠gb809))) (fun _ hk=>hk.2) (.slice Ao68 y814.length co68)) (fun _ hk=>⟨hk.1.2,⟨hk.1.1.1,⟨hk.1.1.2.1,⟨hk.1.1.2.2.1,hk.1.1.2.2.2⟩⟩⟩⟩)⟩,⟨by (with_reducible repeat (first|apply Kd.R_alloc|apply Kd.R_drewN|apply Kd.R_drew));exact Kd.R_mono (Kd.R_far (p:=⟨gb809,2,none⟩) (Kd.R_types HO816.out BK809.out (by decide)) (fun _ hk=>hk.2) (.slice Ao68 y814.length co68)) (fun _ hk=>trivial)⟩,⟨by (with_reducible repeat first|apply bkN|apply bkD|apply bkA);refine blk_far ?_ NB795_809.out _;(with_reducible repeat first|apply bkN|apply bkD|apply bkA);exact BK795.out⟩,⟨by (with_reducible repeat first|apply bkN|apply bkD|apply bkA);refine blk_far ?_ NB796_809.out _;(with_reducible repeat first|apply bkN|apply bkD|apply bkA);exact BK796.out⟩,⟨by (with_reducible repeat first|apply bkN|apply bkD|apply bkA);refine blk_far ?_ NB803_809.out _;(with_reducible repeat first|apply bkN|apply bkD|apply bkA);exact BK803.out⟩,⟨by (with_reducible repeat first|apply bkN|apply bkD|apply bkA);refine blk_put (cs:=#[.int .i64 ((rd_T58 l0_0 x6_2).f0),.int .i64 ((rd_T58 l0_0 x6_2).f1),u810002]) ?_ 2 _ rfl;(with_reducible repeat first|apply bkN|apply bkD|apply bkA);exact BK809.out⟩,⟨zb4 HB.out GE795.out GE796.out GE803.out GE809.out⟩⟩
end Go.Proofs.Ytapaegcombfafaa.Q
