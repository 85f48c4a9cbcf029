import Derived.Test.YtapaegcombfafaaQ0
import Derived.Test.YtapaegcombfafaaQ37
import Derived.Test.YtapaegcombfafaaQ56
import Derived.Test.YtapaegcombfafaaQ90
namespace Go.Proofs.Ytapaegcombfafaa.Q
open Go.RowKit Go.Proofs.YtapaegcombfafaaW.PrintWords Go.Proofs.YtapaegcombfafaaW.PrintLast Go.Proofs.YtapaegcombfafaaW.PrintMore
attribute [local go_sem] max2_int min2_int max_two min_two max_three min_three max_four min_four
set_option linter.unusedVariables false
set_option linter.unusedSimpArgs false
mutual
def impl_RenumberGraph.j0:Nat→List Int→Bool→List (S58)→Int→Option ((List (S58)) × Int)
 | 0,_,_,_,_=>none
 | k+1,x1,x20,x822000,x822001=>if x20=true then (some (([]:List (S58)),0)) else (impl_RenumberGraph.l0 k x1 x1 (x1.length:Int) 0 x822000 x822001)
def impl_RenumberGraph.l0:Nat→List Int→List Int→Int→Int→List (S58)→Int→Option ((List (S58)) × Int)
 | 0,_,_,_,_,_,_=>none
 | k+1,x1,x22,x23,x24,x822000,x822001=>if x24<x23 then (if 0≤x24 then (if x24<(x22.length:Int) then (if (rd x22 x24)<0 then (some (([]:List (S58)),0)) else (if (rd x22 x24)≥(x1.length:Int) then (some (([]:List (S58)),0)) else (if x24≤(x1.length:Int) then ((slices_Contains_int_int.f k (x1.take (x24:Int).toNat) (rd x22 x24)).bind fun t826=>(if t826=true then (some (([]:List (S58)),0)) else (impl_RenumberGraph.l0 k x1 x22 x23 (wrap64 (x24+1)) x822000 x822001))) else (none)))) else (none)) else (none)) else (if 0≤(x1.length:Int) then (if ((x1.length:Int):Int).toNat≤7036874417766 then (if 0≤x822001 then (if x822001<(x1.length:Int) then (impl_RenumberGraph.l1 k x1 x822000 (x822000.length:Int) 0 (List.replicate ((x1.length:Int):Int).toNat z58) (rd x1 x822001)) else (none)) else (none)) else (none)) else (none))
def impl_RenumberGraph.l1:Nat→List Int→List (S58)→Int→Int→List (S58)→Int→Option ((List (S58)) × Int)
 | 0,_,_,_,_,_,_=>none
 | k+1,x1,x56,x57,x58,x832000,x832001=>if x58<x57 then (if 0≤x58 then (if x58<(x56.length:Int) then (if x58<(x1.length:Int) then ((impl_mapped.f k ((rd_T58 x56 x58).f0) ((rd_T58 x56 x58).f1) ((rd_T58 x56 x58).f2) x1).bind fun bt835=>(if 0≤(rd x1 x58) then (if (rd x1 x58)<(x832000.length:Int) then (impl_RenumberGraph.l1 k x1 x56 x57 (wrap64 (x58+1)) (x832000.set ((rd x1 x58):Int).toNat (⟨bt835.1,bt835.2.1,bt835.2.2⟩:S58)) x832001) else (none)) else (none))) else (none)) else (none)) else (none)) else (some (x832000,x832001))
end
def impl_RenumberGraph.f (k:Nat) (l0_0:List (S58)) (a0_1:Int) (l1:List Int):Option ((List (S58)) × Int):=(impl_ValidGraph.f k l0_0 a0_1).bind fun t823=>(if t823=true then (impl_RenumberGraph.j0 k l1 ((l1.length:Int) != (l0_0.length:Int)) l0_0 a0_1) else (impl_RenumberGraph.j0 k l1 true l0_0 a0_1))
set_option maxRecDepth 100000 in
theorem impl_RenumberGraph.mono_l:∀ k,(∀ y0 y1 y2 y3,LeO (impl_RenumberGraph.j0 k y0 y1 y2 y3) (impl_RenumberGraph.j0 (k+1) y0 y1 y2 y3))∧(∀ y0 y1 y2 y3 y4 y5,LeO (impl_RenumberGraph.l0 k y0 y1 y2 y3 y4 y5) (impl_RenumberGraph.l0 (k+1) y0 y1 y2 y3 y4 y5))∧(∀ y0 y1 y2 y3 y4 y5,LeO (impl_RenumberGraph.l1 k y0 y1 y2 y3 y4 y5) (impl_RenumberGraph.l1 (k+1) y0 y1 y2 y3 y4 y5))
 | 0=>⟨fun _ _ _ _ r h=>(by cases h),fun _ _ _ _ _ _ r h=>(by cases h),fun _ _ _ _ _ _ r h=>(by cases h)⟩
 | k+1=>by
  obtain ⟨ih0,ih1,ih2⟩:=impl_RenumberGraph.mono_l k
  refine ⟨?_,?_,?_⟩
  ·intro y0 y1 y2 y3
   unfold impl_RenumberGraph.j0
   repeat' first
   | (with_reducible exact ih0 _ _ _ _)
   | (with_reducible exact ih1 _ _ _ _ _ _)
   | (with_reducible exact ih2 _ _ _ _ _ _)
   | (with_reducible exact impl_ValidGraph.mono _ _ _)
   | (with_reducible exact impl_mapped.mono _ _ _ _ _)
   | (with_reducible exact slices_Contains_int_int.mono _ _ _)
   | (with_reducible exact LeO.refl _)
   | (with_reducible exact LeO.none _)
   | (with_reducible refine LeO.ite ?_ ?_)
   | (with_reducible refine LeO.bind ?_ (fun _=>?_))
   | exact ih0 _ _ _ _
   | exact ih1 _ _ _ _ _ _
   | exact ih2 _ _ _ _ _ _
   | exact impl_ValidGraph.mono _ _ _
   | exact impl_mapped.mono _ _ _ _ _
   | exact slices_Contains_int_int.mono _ _ _
   | exact LeO.none _
   | refine LeO.ite ?_ ?_
   | refine LeO.bind ?_ (fun _=>?_)
  ·intro y0 y1 y2 y3 y4 y5
   unfold impl_RenumberGraph.l0
   repeat' first
   | (with_reducible exact ih0 _ _ _ _)
   | (with_reducible exact ih1 _ _ _ _ _ _)
   | (with_reducible exact ih2 _ _ _ _ _ _)
   | (with_reducible exact impl_ValidGraph.mono _ _ _)
   | (with_reducible exact impl_mapped.mono _ _ _ _ _)
   | (with_reducible exact slices_Contains_int_int.mono _ _ _)
   | (with_reducible exact LeO.refl _)
   | (with_reducible exact LeO.none _)
   | (with_reducible refine LeO.ite ?_ ?_)
   | (with_reducible refine LeO.bind ?_ (fun _=>?_))
   | exact ih0 _ _ _ _
   | exact ih1 _ _ _ _ _ _
   | exact ih2 _ _ _ _ _ _
   | exact impl_ValidGraph.mono _ _ _
   | exact impl_mapped.mono _ _ _ _ _
   | exact slices_Contains_int_int.mono _ _ _
   | exact LeO.none _
   | refine LeO.ite ?_ ?_
   | refine LeO.bind ?_ (fun _=>?_)
  ·intro y0 y1 y2 y3 y4 y5
   unfold impl_RenumberGraph.l1
   repeat' first
   | (with_reducible exact ih0 _ _ _ _)
   | (with_reducible exact ih1 _ _ _ _ _ _)
   | (with_reducible exact ih2 _ _ _ _ _ _)
   | (with_reducible exact impl_ValidGraph.mono _ _ _)
   | (with_reducible exact impl_mapped.mono _ _ _ _ _)
   | (with_reducible exact slices_Contains_int_int.mono _ _ _)
   | (with_reducible exact LeO.refl _)
   | (with_reducible exact LeO.none _)
   | (with_reducible refine LeO.ite ?_ ?_)
   | (with_reducible refine LeO.bind ?_ (fun _=>?_))
   | exact ih0 _ _ _ _
   | exact ih1 _ _ _ _ _ _
   | exact ih2 _ _ _ _ _ _
   | exact impl_ValidGraph.mono _ _ _
   | exact impl_mapped.mono _ _ _ _ _
   | exact slices_Contains_int_int.mono _ _ _
   | exact LeO.none _
   | refine LeO.ite ?_ ?_
   | refine LeO.bind ?_ (fun _=>?_)
set_option maxRecDepth 100000 in
theorem impl_RenumberGraph.mono:∀ a0 a1 a2 k,LeO (impl_RenumberGraph.f k a0 a1 a2) (impl_RenumberGraph.f (k+1) a0 a1 a2):=by
 intro a0 a1 a2 k
 obtain ⟨ih0,ih1,ih2⟩:=impl_RenumberGraph.mono_l k
 unfold impl_RenumberGraph.f
 repeat' first
   | (with_reducible exact ih0 _ _ _ _)
   | (with_reducible exact ih1 _ _ _ _ _ _)
   | (with_reducible exact ih2 _ _ _ _ _ _)
   | (with_reducible exact impl_ValidGraph.mono _ _ _)
   | (with_reducible exact impl_mapped.mono _ _ _ _ _)
   | (with_reducible exact slices_Contains_int_int.mono _ _ _)
   | (with_reducible exact LeO.refl _)
   | (with_reducible exact LeO.none _)
   | (with_reducible refine LeO.ite ?_ ?_)
   | (with_reducible refine LeO.bind ?_ (fun _=>?_))
   | exact ih0 _ _ _ _
   | exact ih1 _ _ _ _ _ _
   | exact ih2 _ _ _ _ _ _
   | exact impl_ValidGraph.mono _ _ _
   | exact impl_mapped.mono _ _ _ _ _
   | exact slices_Contains_int_int.mono _ _ _
   | exact LeO.none _
   | refine LeO.ite ?_ ?_
   | refine LeO.bind ?_ (fun _=>?_)
def impl_RenumberGraph.T9:Bool × List (List Nat × List Nat):=(true,[([],[]),([0],[0]),([1,1],[1]),([],[]),([],[]),([4],[4]),([3,5],[3,5]),([6],[6]),([2,7],[2,7]),([],[]),([9,8,0,1,2,3,4,5,6,7,8,9],[8,9])])
def impl_RenumberGraph.B9:List Nat:=[0,1,3,0,0,16,56,120,255,0,1023]
theorem impl_RenumberGraph.tab9:rtab .any (opsOf Try.f31 9)=impl_RenumberGraph.T9:=by kernel_rfl
theorem impl_RenumberGraph.bits9:waitsOk impl_RenumberGraph.T9.2 impl_RenumberGraph.B9=true:=by kernel_rfl
def impl_RenumberGraph.T13:Bool × List (List Nat × List Nat):=(true,[([],[]),([0],[0]),([],[]),([],[]),([2,3],[2,3]),([4],[4]),([],[]),([],[]),([6,7],[6,7]),([1,5,0,1,2,3,4,5,6,7,8],[1,5]),([9,8,8,0,1,2,3,4,5,6,7,8],[8,9])])
def impl_RenumberGraph.B13:List Nat:=[0,1,0,0,12,28,0,0,192,511,1023]
theorem impl_RenumberGraph.tab13:rtab .any (opsOf Try.f31 13)=impl_RenumberGraph.T13:=by kernel_rfl
theorem impl_RenumberGraph.bits13:waitsOk impl_RenumberGraph.T13.2 impl_RenumberGraph.B13=true:=by kernel_rfl
set_option maxHeartbeats 8000000 in
set_option maxRecDepth 100000 in
theorem impl_RenumberGraph.calls (k:Nat) (A0_0:Option Addr) (c0_0:Nat) (l0_0:List (S58)) (a0_1:Int) (A1:Option Addr) (c1:Nat) (l1:List Int) (r1:List (S58)) (r2:Int) (w:World) (hr0_0:Kd.C k58 w A0_0 l0_0.length l0_0) (hc0_0:l0_0.length≤c0_0) (hr1:Kd.C (Kd.int .i64) w A1 l1.length l1) (hc1:l1.length≤c1) (h:impl_RenumberGraph.f k l0_0 a0_1 l1=some (r1,r2)) :
  Calls Try.prog 31 #[.agg #[.slice A0_0 l0_0.length c0_0,.int .i64 a0_1],.slice A1 l1.length c1] w fun e w'=>∃ v0_:Value,e=.returned (.agg #[v0_,.int .i64 r2])∧Kd.S k58 58 w' w.heap.size (fun _=>True) v0_ r1∧Below w.heap.size w w':=by
 have hu25:=Try.underlying25
 have hu58:=Try.underlying58
 have HR0_0:=As_ hr0_0
 have HC0_0:=As_ hc0_0
 clear hr0_0 hc0_0
 have HR1:=As_ hr1
 have HC1:=As_ hc1
 clear hr1 hc1
 have HB:=As_ (Below.refl w.heap.size w)
 have H:((impl_ValidGraph.f k l0_0 a0_1).bind fun t823=>(if t823=true then (impl_RenumberGraph.j0 k l1 ((l1.length:Int) != (l0_0.length:Int)) l0_0 a0_1) else (impl_RenumberGraph.j0 k l1 true l0_0 a0_1)))=some (r1,r2):=h
 clear h
 have HC3:=As_ H
 clear H
 go_enter Try.func31,Try.ntmps31
 go_upto_region 1 with (first|((with_reducible refine gate_dst (N:=2) rfl ?_);(try (refine gate_guard (by rfl) ?_;dsimp only));refine box_event ?hg (N:=2) ?hd (cs:=#[.slice A0_0 l0_0.length c0_0,.int .i64 a0_1]) (t:=25) ?hr ?_;(case hd=>rfl);(case hg=>rfl);(case hr=>go_simp <;> rfl);intro gb821 hg w4 hbox hb;have n0_:=As_ (bwT (zb0 HB.out) hb);have n1_:=As_ (hbox);have n2_:=As_ ((by rw [hg];exact (bwZ (zb0 HB.out)):w.heap.size≤gb821));have n3_:=As_ ((by rw [hg];exact (bwZ (zb0 HB.out)):w.heap.size≤gb821));clear HB;revert n0_ n1_ n2_ n3_;intro HB BK821 GW821 GE821;clear hb hbox hg)|((with_reducible refine gate_dst (N:=4) rfl ?_);(try (refine gate_guard (by rfl) ?_;dsimp only));refine box_event ?hg (N:=4) ?hd (cs:=#[.slice none 0 0,.int .i64 0]) (t:=25) ?hr ?_;(case hd=>rfl);(case hg=>rfl);(case hr=>go_simp <;> rfl);intro gb822 hg w5 hbox hb;have n0_:=As_ (zkb BK821.out hb);have n1_:=As_ (bwT (zb1 HB.out GE821.out) hb);have n2_:=As_ (hbox);have n3_:=As_ ((by rw [hg];exact (bwZ (zb1 HB.out GE821.out)):w.heap.size≤gb822));have n4_:=As_ ((by rw [hg];exact (bwZ (zb1 HB.out GE821.out)):w.heap.size≤gb822));have n5_:=As_ ((by rw [hg];exact Nat.ne_of_lt (zkl BK821.out):gb821≠gb822));have n6_:=As_ ((by rw [hg];exact Nat.ne_of_gt (zkl BK821.out):gb822≠gb821));clear BK821 HB;revert n0_ n1_ n2_ n3_ n4_ n5_ n6_;intro BK821 HB BK822 GW822 GE822 NB821_822 NB822_821;clear hb hbox hg))
 (try simp only [Act.put,List.setIfInBounds_toArray,List.set_cons_zero,List.set_cons_succ])
 go_cut [20] (fun v20 wc=>∃ (kq:Nat) (x20_2:Bool),v20=.bool x20_2∧Aside0 (impl_RenumberGraph.j0 kq l1 x20_2 l0_0 a0_1=some (r1,r2))∧Aside0 (kq≤k)∧Aside0 (wc.heap[gb821]?=some (.cells #[(.slice A0_0 l0_0.length c0_0),.int .i64 a0_1] 25 (0,0)))∧Aside0 (wc.heap[gb822]?=some (.cells #[(.slice none 0 0),.int .i64 0] 25 (0,0)))∧Aside0 (Below w.heap.size w wc))
 case first=>
  have H:=HC3.out
  clear HC3
  replace H:=obS H
  obtain ⟨t823,A60,H⟩:=H
  replace H:(if t823=true then (impl_RenumberGraph.j0 k l1 ((l1.length:Int) != (l0_0.length:Int)) l0_0 a0_1) else (impl_RenumberGraph.j0 k l1 true l0_0 a0_1))=some (r1,r2):=H
  have A6:=As_ A60
  clear A60
  by_cases c7:t823=true
  ·subst c7
   have H1:(impl_RenumberGraph.j0 k l1 ((l1.length:Int) != (l0_0.length:Int)) l0_0 a0_1)=some (r1,r2):=by rw [if_pos rfl] at H;exact H
   clear H
   have H:=H1
   clear H1
   have H':=As_ H
   clear H
   have hnb8:=NB821_822.out
   have hnc8:=NB822_821.out
   obtain ⟨hcz9_0,hcz9_1,hfz9_0,hfz9_1⟩:=bk2 BK821.out
   go_wp2_with (first|((with_reducible refine gate_callee (f:=37) rfl ?_);refine goesL_ (some 11) rfl rfl Try.func37 (by kernel_rfl) rfl #[.agg #[.slice A0_0 l0_0.length c0_0,.int .i64 a0_1]] rfl zM_ ?_;(with_reducible refine (impl_ValidGraph.calls k _ _ l0_0 a0_1 true _ ?side1 ?side2 A6.out).mono ?_);(case side1=>exact zC_ (Kd.C_below HR0_0.out HB.out));(case side2=>exact HC0_0.out);rintro e w10 ⟨rfl,hb⟩;refine ⟨_,rfl,?_⟩;have n0_:=As_ (zkb BK821.out hb);have n1_:=As_ (zkb BK822.out hb);have n2_:=As_ (bwT (zb2 HB.out GE821.out GE822.out) hb);clear BK821 BK822 HB;revert n0_ n1_ n2_;intro BK821 BK822 HB;obtain ⟨hcz11_0,hcz11_1,hfz11_0,hfz11_1⟩:=bk2 BK821.out))
   go_meet
   case rel=>exact ⟨_,(((l1.length:Int) != (l0_0.length:Int))),zT_,H',⟨by first|omega|exact Nat.le_refl _⟩,⟨by (with_reducible repeat first|apply bkN|apply bkD|apply bkA);exact BK821.out⟩,⟨by (with_reducible repeat first|apply bkN|apply bkD|apply bkA);exact BK822.out⟩,⟨zb2 HB.out GE821.out GE822.out⟩⟩
  replace c7:=Bool.eq_false_iff.mpr c7
  subst c7
  have H1:(impl_RenumberGraph.j0 k l1 true l0_0 a0_1)=some (r1,r2):=by rw [if_neg (show ¬ (false=true) by decide)] at H;exact H
  clear H
  have H:=H1
  clear H1
  have H':=As_ H
  clear H
  have hnb12:=NB821_822.out
  have hnc12:=NB822_821.out
  obtain ⟨hcz13_0,hcz13_1,hfz13_0,hfz13_1⟩:=bk2 BK821.out
  go_wp2_with (first|((with_reducible refine gate_callee (f:=37) rfl ?_);refine goesL_ (some 11) rfl rfl Try.func37 (by kernel_rfl) rfl #[.agg #[.slice A0_0 l0_0.length c0_0,.int .i64 a0_1]] rfl zM_ ?_;(with_reducible refine (impl_ValidGraph.calls k _ _ l0_0 a0_1 false _ ?side1 ?side2 A6.out).mono ?_);(case side1=>exact zC_ (Kd.C_below HR0_0.out HB.out));(case side2=>exact HC0_0.out);rintro e w14 ⟨rfl,hb⟩;refine ⟨_,rfl,?_⟩;have n0_:=As_ (zkb BK821.out hb);have n1_:=As_ (zkb BK822.out hb);have n2_:=As_ (bwT (zb2 HB.out GE821.out GE822.out) hb);clear BK821 BK822 HB;revert n0_ n1_ n2_;intro BK821 BK822 HB))
  go_meet
  case rel=>exact ⟨_,(true),zT_,H',⟨by first|omega|exact Nat.le_refl _⟩,⟨by (with_reducible repeat first|apply bkN|apply bkD|apply bkA);exact BK821.out⟩,⟨by (with_reducible repeat first|apply bkN|apply bkD|apply bkA);exact BK822.out⟩,⟨zb2 HB.out GE821.out GE822.out⟩⟩
 case rest=>
  clear HC3
  obtain ⟨kq,x20_2,rfl,HA,HJ2,BK821,BK822,HB⟩:=hcut
  cases kq with
  | zero=>exact absurd HA.out (fun h_=>(by cases h_))
  | succ kj2=>
   have H:=HA.out
   clear HA
   simp only [impl_RenumberGraph.j0] at H
   by_cases c15:x20_2=true
   ·subst c15
    have H1:(some (([]:List (S58)),0))=some (r1,r2):=by rw [if_pos rfl] at H;exact H
    clear H
    have H:=H1
    clear H1
    simp only [Option.some.injEq,Prod.mk.injEq] at H
    obtain ⟨rfl,rfl⟩:=H
    have hnb16:=NB822_821.out
    have hnc16:=NB821_822.out
    obtain ⟨hcz17_0,hcz17_1,hfz17_0,hfz17_1⟩:=bk2 BK822.out
    go_wp2
    refine bodyPost_ret (results_cell_row rfl _ _ gb822 25 #[.slice none 0 0,.int .i64 0] (0,0) _ rfl (by (with_reducible repeat first|apply bkN|apply bkD|apply bkA);refine blk_put (cs:=#[.slice none 0 0,.int .i64 0]) ?_ 1 _ rfl;(with_reducible repeat first|apply bkN|apply bkD|apply bkA);refine blk_put (cs:=#[.slice none 0 0,.int .i64 0]) ?_ 0 _ rfl;(with_reducible repeat first|apply bkN|apply bkD|apply bkA);exact BK822.out) Try.underlying25 rfl (by kernel_rfl)) rfl ?_
    exact ⟨_,zE_,by first|exact Kd.S_nil _ _ _ _ _|exact Kd.S_nil _ _ _ _ _|exact Kd.V_nil _ _ _ _ _|exact Kd.Q_nil _ _ _ _ _|exact Kd.R_nil _ _ _ _ _,zb2 HB.out GE821.out GE822.out⟩
   replace c15:=Bool.eq_false_iff.mpr c15
   subst c15
   have H1:(impl_RenumberGraph.l0 kj2 l1 l1 (l1.length:Int) 0 l0_0 a0_1)=some (r1,r2):=by rw [if_neg (show ¬ (false=true) by decide)] at H;exact H
   clear H
   have H:=H1
   clear H1
   have H':=As_ H
   clear H
   go_wp2
   go_loopg [24] kj2 (fun kq v24 w'=>∃ (x24_2:Int) (x823001_2:Int),v24=.int .i64 x24_2∧Aside0 (impl_RenumberGraph.l0 kq l1 l1 (l1.length:Int) x24_2 l0_0 a0_1=some (r1,r2))∧Aside0 (kq≤kj2)∧Aside0 (w'.heap[gb821]?=some (.cells #[(.slice A0_0 l0_0.length c0_0),.int .i64 a0_1] 25 (0,0)))∧Aside0 (w'.heap[gb822]?=some (.cells #[(.slice none 0 0),.int .i64 x823001_2] 25 (0,0)))∧Aside0 (Below w.heap.size w w'))
   case atStart=>exact ⟨(0),(0),zT_,H',⟨Nat.le_refl _⟩,⟨by (with_reducible repeat first|apply bkN|apply bkD|apply bkA);exact BK821.out⟩,⟨by (with_reducible repeat first|apply bkN|apply bkD|apply bkA);exact BK822.out⟩,⟨zb2 HB.out GE821.out GE822.out⟩⟩
   case round=>
    clear H'
    obtain ⟨x24_2,x823001_2,rfl,HA,HK2,BK821,BK822,HB⟩:=hrel
    cases gk with
    | zero=>exact absurd HA.out (fun h_=>(by cases h_))
    | succ k2=>
     have H:=HA.out
     clear HA
     simp only [impl_RenumberGraph.l0] at H
     by_cases c18:x24_2<(l1.length:Int)
     ·rw [if_pos c18] at H
      have c18b0:decide (x24_2<(l1.length:Int))=true:=deT c18
      clear c18
      by_cases c19:0≤x24_2
      rotate_left
      ·rw [if_neg c19] at H
       exact absurd H (by simp)
      rw [if_pos c19] at H
      have c19b0:decide (0≤x24_2)=true:=deT c19
      clear c19
      by_cases c20:x24_2<(l1.length:Int)
      rotate_left
      ·rw [if_neg c20] at H
       exact absurd H (by simp)
      rw [if_pos c20] at H
      have c20b0:decide (x24_2<(l1.length:Int))=true:=deT c20
      clear c20
      by_cases c21:(rd l1 x24_2)<0
      ·rw [if_pos c21] at H
       have c21b0:decide ((rd l1 x24_2)<0)=true:=deT c21
       clear c21
       simp only [Option.some.injEq,Prod.mk.injEq] at H
       obtain ⟨rfl,rfl⟩:=H
       have p824:0≤(x24_2:Int):=odT zA_
       have q824:x24_2<(l1.length:Int):=odT zA_
       obtain ⟨ad824,e824,hx824_0⟩:=Kd.at_int HR1.out x24_2 p824 q824
       cases e824
       replace hx824_0:=bwC HB.out hx824_0
       replace p824:=eq_true p824
       replace q824:=eq_true q824
       have hnb22:=NB822_821.out
       have hnc22:=NB821_822.out
       obtain ⟨hcz23_0,hcz23_1,hfz23_0,hfz23_1⟩:=bk2 BK822.out
       go_wp2
       refine bodyPost_ret (results_cell_row rfl _ _ gb822 25 #[.slice none 0 0,.int .i64 0] (0,0) _ rfl (by (with_reducible repeat first|apply bkN|apply bkD|apply bkA);refine blk_put (cs:=#[.slice none 0 0,.int .i64 x823001_2]) ?_ 1 _ rfl;(with_reducible repeat first|apply bkN|apply bkD|apply bkA);refine blk_put (cs:=#[.slice none 0 0,.int .i64 x823001_2]) ?_ 0 _ rfl;(with_reducible repeat first|apply bkN|apply bkD|apply bkA);exact BK822.out) Try.underlying25 rfl (by kernel_rfl)) rfl ?_
       exact ⟨_,zE_,by first|exact Kd.S_nil _ _ _ _ _|exact Kd.S_nil _ _ _ _ _|exact Kd.V_nil _ _ _ _ _|exact Kd.Q_nil _ _ _ _ _|exact Kd.R_nil _ _ _ _ _,zb2 HB.out GE821.out GE822.out⟩
      rw [if_neg c21] at H
      have c21b0:decide ((rd l1 x24_2)<0)=false:=deF c21
      clear c21
      by_cases c24:(rd l1 x24_2)≥(l1.length:Int)
      ·rw [if_pos c24] at H
       have c24b0:decide ((l1.length:Int)≤(rd l1 x24_2))=true:=deT c24
       clear c24
       simp only [Option.some.injEq,Prod.mk.injEq] at H
       obtain ⟨rfl,rfl⟩:=H
       have p824:0≤(x24_2:Int):=odT zA_
       have q824:x24_2<(l1.length:Int):=odT zA_
       obtain ⟨ad824,e824,hx824_0⟩:=Kd.at_int HR1.out x24_2 p824 q824
       cases e824
       replace hx824_0:=bwC HB.out hx824_0
       replace p824:=eq_true p824
       replace q824:=eq_true q824
       have hnb25:=NB822_821.out
       have hnc25:=NB821_822.out
       obtain ⟨hcz26_0,hcz26_1,hfz26_0,hfz26_1⟩:=bk2 BK822.out
       go_wp2
       refine bodyPost_ret (results_cell_row rfl _ _ gb822 25 #[.slice none 0 0,.int .i64 0] (0,0) _ rfl (by (with_reducible repeat first|apply bkN|apply bkD|apply bkA);refine blk_put (cs:=#[.slice none 0 0,.int .i64 x823001_2]) ?_ 1 _ rfl;(with_reducible repeat first|apply bkN|apply bkD|apply bkA);refine blk_put (cs:=#[.slice none 0 0,.int .i64 x823001_2]) ?_ 0 _ rfl;(with_reducible repeat first|apply bkN|apply bkD|apply bkA);exact BK822.out) Try.underlying25 rfl (by kernel_rfl)) rfl ?_
       exact ⟨_,zE_,by first|exact Kd.S_nil _ _ _ _ _|exact Kd.S_nil _ _ _ _ _|exact Kd.V_nil _ _ _ _ _|exact Kd.Q_nil _ _ _ _ _|exact Kd.R_nil _ _ _ _ _,zb2 HB.out GE821.out GE822.out⟩
      rw [if_neg c24] at H
      have c24b0:decide ((l1.length:Int)≤(rd l1 x24_2))=false:=deF c24
      clear c24
      have c27b0:=eq_true (odT zA_:0≤x24_2)
      by_cases c28:x24_2≤(l1.length:Int)
      rotate_left
      ·rw [if_neg c28] at H
       exact absurd H (by simp)
      rw [if_pos c28] at H
      have c28b0:=eq_true c28
      have c28b1:decide (x24_2≤(l1.length:Int))=true:=deT c28
      clear c28
      replace H:=obS H
      obtain ⟨t826,A290,H⟩:=H
      replace H:(if t826=true then (some (([]:List (S58)),0)) else (impl_RenumberGraph.l0 k2 l1 l1 (l1.length:Int) (wrap64 (x24_2+1)) l0_0 a0_1))=some (r1,r2):=H
      have A29:=As_ A290
      clear A290
      by_cases c30:t826=true
      ·subst c30
       have H1:(some (([]:List (S58)),0))=some (r1,r2):=by rw [if_pos rfl] at H;exact H
       clear H
       have H:=H1
       clear H1
       simp only [Option.some.injEq,Prod.mk.injEq] at H
       obtain ⟨rfl,rfl⟩:=H
       have p824:0≤(x24_2:Int):=odT zA_
       have q824:x24_2<(l1.length:Int):=odT zA_
       obtain ⟨ad824,e824,hx824_0⟩:=Kd.at_int HR1.out x24_2 p824 q824
       cases e824
       replace hx824_0:=bwC HB.out hx824_0
       replace p824:=eq_true p824
       replace q824:=eq_true q824
       obtain ⟨i031,hi031,_,hsz31,_⟩:=info_parts info3
       obtain ⟨hcut31,hA31,hC31⟩:=print_take_of (P:=Try.prog) (Value.int .i64) 0 26 3 .i64 Try.underlying26 hi031 hsz31 (some ad824) c1 l1 x24_2 (odT zA_) (odT zA_) HC1.out
       have HR825:=As_ (Kd.C_of_reads (h1:=fun _=>rfl) (hA31 _ (Kd.reads_of_C HR1.out)))
       have HC825:=As_ hC31
       clear hA31 hC31 hi031 hsz31
       go_wp2_with (first|(go_at_call 59;(try rw [show x24_2.toNat=(List.take (x24_2:Int).toNat l1).length from (by rw [List.length_take];symm;apply Nat.min_eq_left;have q_:x24_2<(l1.length:Int):=odT (by assumption);omega)]);(with_reducible refine (slices_Contains_int_int.calls k2 _ _ (l1.take (x24_2:Int).toNat) (rd l1 x24_2) true _ ?side1 ?side2 A29.out).mono ?_);(case side1=>exact zC_ (Kd.C_below HR825.out HB.out));(case side2=>exact HC825.out);rintro e w' ⟨rfl,⟨nd,rfl⟩⟩;(try (rw [drewN_self wr];generalize hq_:World.drewN wr _=wr;have n0_:Aside0 (wr.heap[gb821]?=some (.cells #[.slice A0_0 l0_0.length c0_0,.int .i64 a0_1] 25 (0,0))):=⟨by rw [← hq_];exact (zk_ BK821.out)⟩;have n1_:Aside0 (wr.heap[gb822]?=some (.cells #[.slice none 0 0,.int .i64 x823001_2] 25 (0,0))):=⟨by rw [← hq_];exact (zk_ BK822.out)⟩;have n2_:Aside0 (Below w.heap.size w wr):=⟨by rw [← hq_];exact (zb2 HB.out GE821.out GE822.out)⟩;clear BK821 BK822 HB hq_;revert n0_ n1_ n2_;intro BK821 BK822 HB));have hnb32:=NB822_821.out;have hnc32:=NB821_822.out;obtain ⟨hcz33_0,hcz33_1,hfz33_0,hfz33_1⟩:=bk2 BK822.out))
       refine bodyPost_ret (results_cell_row rfl _ _ gb822 25 #[.slice none 0 0,.int .i64 0] (0,0) _ rfl (by (with_reducible repeat first|apply bkN|apply bkD|apply bkA);refine blk_put (cs:=#[.slice none 0 0,.int .i64 x823001_2]) ?_ 1 _ rfl;(with_reducible repeat first|apply bkN|apply bkD|apply bkA);refine blk_put (cs:=#[.slice none 0 0,.int .i64 x823001_2]) ?_ 0 _ rfl;(with_reducible repeat first|apply bkN|apply bkD|apply bkA);exact BK822.out) Try.underlying25 rfl (by kernel_rfl)) rfl ?_
       exact ⟨_,zE_,by first|exact Kd.S_nil _ _ _ _ _|exact Kd.S_nil _ _ _ _ _|exact Kd.V_nil _ _ _ _ _|exact Kd.Q_nil _ _ _ _ _|exact Kd.R_nil _ _ _ _ _,zb2 HB.out GE821.out GE822.out⟩
      replace c30:=Bool.eq_false_iff.mpr c30
      subst c30
      have H1:(impl_RenumberGraph.l0 k2 l1 l1 (l1.length:Int) (wrap64 (x24_2+1)) l0_0 a0_1)=some (r1,r2):=by rw [if_neg (show ¬ (false=true) by decide)] at H;exact H
      clear H
      have H:=H1
      clear H1
      have H':=As_ H
      clear H
      have p824:0≤(x24_2:Int):=odT zA_
      have q824:x24_2<(l1.length:Int):=odT zA_
      obtain ⟨ad824,e824,hx824_0⟩:=Kd.at_int HR1.out x24_2 p824 q824
      cases e824
      replace hx824_0:=bwC HB.out hx824_0
      replace p824:=eq_true p824
      replace q824:=eq_true q824
      obtain ⟨i034,hi034,_,hsz34,_⟩:=info_parts info3
      obtain ⟨hcut34,hA34,hC34⟩:=print_take_of (P:=Try.prog) (Value.int .i64) 0 26 3 .i64 Try.underlying26 hi034 hsz34 (some ad824) c1 l1 x24_2 (odT zA_) (odT zA_) HC1.out
      have HR825:=As_ (Kd.C_of_reads (h1:=fun _=>rfl) (hA34 _ (Kd.reads_of_C HR1.out)))
      have HC825:=As_ hC34
      clear hA34 hC34 hi034 hsz34
      go_wp2_with (first|(go_at_call 59;(try rw [show x24_2.toNat=(List.take (x24_2:Int).toNat l1).length from (by rw [List.length_take];symm;apply Nat.min_eq_left;have q_:x24_2<(l1.length:Int):=odT (by assumption);omega)]);(with_reducible refine (slices_Contains_int_int.calls k2 _ _ (l1.take (x24_2:Int).toNat) (rd l1 x24_2) false _ ?side1 ?side2 A29.out).mono ?_);(case side1=>exact zC_ (Kd.C_below HR825.out HB.out));(case side2=>exact HC825.out);rintro e w' ⟨rfl,⟨nd,rfl⟩⟩))
      go_roundg k2
      case measure=>have:=HJ2.out;have:=HK2.out;omega
      case rel=>exact ⟨(wrap64 (x24_2+1)),(x823001_2),zT_,H',⟨by have:=HJ2.out;have:=HK2.out;omega⟩,⟨by (with_reducible repeat first|apply bkN|apply bkD|apply bkA);exact BK821.out⟩,⟨by (with_reducible repeat first|apply bkN|apply bkD|apply bkA);exact BK822.out⟩,⟨zb2 HB.out GE821.out GE822.out⟩⟩
     rw [if_neg c18] at H
     have c18b0:decide (x24_2<(l1.length:Int))=false:=deF c18
     clear c18
     by_cases c35:0≤(l1.length:Int)
     rotate_left
     ·rw [if_neg c35] at H
      exact absurd H (by simp)
     rw [if_pos c35] at H
     have c35b0:=eq_true c35
     have c35b1:decide (0≤(l1.length:Int))=true:=deT c35
     clear c35
     by_cases c36:((l1.length:Int):Int).toNat≤7036874417766
     rotate_left
     ·rw [if_neg c36] at H
      exact absurd H (by simp)
     rw [if_pos c36] at H
     have c36b0:=eq_true c36
     have c36b1:decide (((l1.length:Int):Int).toNat≤7036874417766)=true:=deT c36
     clear c36
     obtain ⟨y827,hy827⟩:∃ y_:List (S58),y_=(List.replicate ((l1.length:Int):Int).toNat z58):=⟨_,rfl⟩
     replace H:(if 0≤a0_1 then (if a0_1<(l1.length:Int) then (impl_RenumberGraph.l1 k2 l1 l0_0 (l0_0.length:Int) 0 y827 (rd l1 a0_1)) else (none)) else (none))=some (r1,r2):=zH_ H hy827
     have Ny827:=As_ hy827
     clear hy827
     by_cases c37:0≤a0_1
     rotate_left
     ·rw [if_neg c37] at H
      exact absurd H (by simp)
     rw [if_pos c37] at H
     have c37b0:decide (0≤a0_1)=true:=deT c37
     clear c37
     by_cases c38:a0_1<(l1.length:Int)
     rotate_left
     ·rw [if_neg c38] at H
      exact absurd H (by simp)
     rw [if_pos c38] at H
     have c38b0:decide (a0_1<(l1.length:Int))=true:=deT c38
     clear c38
     have H':=As_ H
     clear H
     try go_wp2
     have n0_:=As_ (bkD BK821.out)
     have n1_:=As_ (bkD BK822.out)
     have n2_:=As_ (bwD HB.out)
     clear BK821 BK822 HB
     revert n0_ n1_ n2_;intro BK821 BK822 HB
     have p830:0≤(a0_1:Int):=odT zA_
     have q830:a0_1<(l1.length:Int):=odT zA_
     obtain ⟨ad830,e830,hx830_0⟩:=Kd.at_int HR1.out a0_1 p830 q830
     have hw830_0:=hx830_0
     cases e830
     replace hx830_0:=bwC HB.out hx830_0
     replace p830:=eq_true p830
     replace q830:=eq_true q830
     refine start_ (n:=11) (S:=fun w'=>w'.cell? ⟨gb821,0,none⟩=some (.slice A0_0 l0_0.length c0_0)∧w'.cell? ⟨gb821,1,none⟩=some (.int .i64 a0_1)∧w'.cell? (ad830.add (a0_1).toNat)=some (.int .i64 (rd l1 a0_1))) (ds:=[]) (bl_ 0 11) (by kernel_rfl) rfl rfl ⟨(bkC BK821.out 0).trans rfl,(bkC BK821.out 1).trans rfl,((HB.out.cell (bwL w _ hw830_0)).trans hw830_0)⟩ (fun hHeld=>?_);refine with_tabW impl_RenumberGraph.tab9 impl_RenumberGraph.bits9 (fun HT_ HW_=>?_)
     generalize wr.drew=w39 at BK821 BK822 HB hx830_0 hHeld ⊢
     refine pQ 0 46 (bl_ 1 11) HT_ rfl ?_
     refine pQ 1 47 (bl_ 3 11) HT_ rfl ?_
     refine pQ 3 49 (bl_ 11 11) HT_ rfl ?_
     refine pQ 4 50 (bl_ 27 11) HT_ rfl ?_
     refine tP 5 51 (bl_ 59 11) ?_ HT_ HW_ rfl (.inl ⟨by rfl,?_⟩) hHeld ?_ ?_ ?_;rotate_left;(rintro w' ⟨s0,s1,s2⟩;go_simp;with_reducible rfl);rotate_left;(simp only [Act.put,sq_,i64_w,i32_w];rfl)
     refine pQ 6 52 (bl_ 123 11) HT_ rfl ?_
     refine tP 7 53 (bl_ 251 11) ?_ HT_ HW_ rfl (.inl ⟨by rfl,?_⟩) hHeld ?_ ?_ ?_;rotate_left;(rintro w' ⟨s0,s1,s2⟩;go_simp;with_reducible rfl);rotate_left;(simp only [Act.put,sq_,i64_w,i32_w];rfl)
     refine join_ (σ:=Value × Nat) 1 (bl_ 1023 11) (fun s_=>[(48,s_.1),(7,.pointer (some ⟨s_.2,0,none⟩)),(54,.agg #[s_.1,.int .i64 (rd l1 a0_1)])]) (fun s_ w'=>(w'.cell? ⟨gb821,0,none⟩=some (.slice A0_0 l0_0.length c0_0)∧w'.cell? ⟨gb821,1,none⟩=some (.int .i64 a0_1)∧w'.cell? (ad830.add (a0_1).toNat)=some (.int .i64 (rd l1 a0_1)))∧(Kd.S k58 58 w' w.heap.size (fun k_=>k_≠gb821∧k_≠gb822∧k_≠s_.2) s_.1 y827)∧(w'.heap[gb821]?=some (.cells #[.slice A0_0 l0_0.length c0_0,.int .i64 a0_1] 25 (0,0)))∧(w'.heap[gb822]?=some (.cells #[.slice none 0 0,.int .i64 x823001_2] 25 (0,0)))∧(w'.heap[s_.2]?=some (.cells #[.slice none 0 0,.int .i64 0] 25 (0,0)))∧(w.heap.size≤s_.2)∧(w.heap.size≤s_.2)∧(gb821≠s_.2)∧(s_.2≠gb821)∧(gb822≠s_.2)∧(s_.2≠gb822)∧(Below w.heap.size w w')) ?_ ?_
     rotate_left
     ·intro hCont
      refine two_ (i:=2) (j:=9) (Ni:=some 48) (Nj:=some 7) (bl_ 255 11) (bl_ 763 11) rfl rfl rfl rfl (two_of HT_.out (by kernel_rfl)) (by decide) (by decide) (fun K hK=>?_) (fun K hK=>?_)
      ·skip
       refine Kd.S_make_step k58 _ 58 (by rfl) (N:=48) rfl 23 _ _ rfl (l1.length:Int) rfl rfl Try.underlying23 (.agg #[(.int .i64 0),(.int .i64 0),(.slice none 0 0)]) 40 info58 rfl (by decide) (by omega) z58 (ok:=fun k_=>w39.heap.size≤k_) (okp:=fun _=>False) (k58_mkM _ _ _ z58 (Kd.R_nil _ _ _ _ _)) (fun _ hk=>hk.elim) (Nat.le_refl _) (odT zA_) (Nat.le_trans (Nat.mul_le_mul_right _ (odT zA_:(l1.length:Int).toNat≤7036874417766)) (by omega)) (Below.refl _ _) (Nat.le_refl _) ?_
       intro v828 w40 ho41 hb hg_ hnew_
       clear hg_ hnew_
       (first|rw [← Ny827.out] at ho41|(simp only [Int.reduceToNat] at ho41;rw [← Ny827.out] at ho41))
       have n0_:=As_ (Kd.S_lower (Kd.S_mono (ok':=fun k_=>k_≠gb821∧k_≠gb822) ho41 (fun k_ hk_=>⟨(Kd.freshB (g:=gb821) (o:=.cells #[.slice A0_0 l0_0.length c0_0,.int .i64 a0_1] 25 (0,0)) (zk_ BK821.out) k_ hk_),(Kd.freshB (g:=gb822) (o:=.cells #[.slice none 0 0,.int .i64 x823001_2] 25 (0,0)) (zk_ BK822.out) k_ hk_)⟩)) (bwZ (zb2 HB.out GE821.out GE822.out)))
       have n1_:=As_ (zkb BK821.out hb)
       have n2_:=As_ (zkb BK822.out hb)
       have n3_:=As_ (bwT (zb2 HB.out GE821.out GE822.out) hb)
       clear BK821 BK822 HB
       revert n0_ n1_ n2_ n3_;intro HO829 BK821 BK822 HB
       clear hb ho41
       obtain ⟨Ao42,co42,eo42⟩:=Kd.S_slice HO829.out
       (first|subst eo42|(injection eo42 with f1_ f2_ f3_;have f4_:=f1_.symm;have f5_:=f3_.symm;clear f1_ f2_ f3_;subst f4_;subst f5_))
       refine hK.out _ _ ⟨(bkC BK821.out 0).trans rfl,(bkC BK821.out 1).trans rfl,((HB.out.cell (bwL w _ hw830_0)).trans hw830_0)⟩ (fun hHeld=>?_)
       clear hK K
       refine norm_ (a':=?_) ?_ ?_
       rotate_left
       ·show Act.put _ (some 48) _=_
        simp only [Act.put,sq_,i64_w,i32_w]
        rfl
       refine pQ 8 54 (bl_ 511 11) HT_ rfl ?_
       refine one_ (i:=9) (N:=some 7) (bl_ 1023 11) rfl rfl (one_of HT_.out (by kernel_rfl)) (by decide) (fun K hK=>?_)
       refine box_step ?hg (N:=7) ?hd (cs:=#[.slice none 0 0,.int .i64 0]) (t:=25) ?hr ?_;(case hd=>rfl);(case hg=>rfl);(case hr=>go_simp <;> rfl)
       intro gb831 hg w43 hbox hb
       have n0_:=As_ (Kd.S_below (Kd.S_elderB (zS_ HO829.out) gb831 (Nat.le_of_eq hg.symm)) hb)
       have n1_:=As_ (zkb BK821.out hb)
       have n2_:=As_ (zkb BK822.out hb)
       have n3_:=As_ (bwT (zb2 HB.out GE821.out GE822.out) hb)
       have n4_:=As_ (hbox)
       have n5_:=As_ ((by rw [hg];exact (bwZ (zb2 HB.out GE821.out GE822.out)):w.heap.size≤gb831))
       have n6_:=As_ ((by rw [hg];exact (bwZ (zb2 HB.out GE821.out GE822.out)):w.heap.size≤gb831))
       have n7_:=As_ ((by rw [hg];exact Nat.ne_of_lt (zkl BK821.out):gb821≠gb831))
       have n8_:=As_ ((by rw [hg];exact Nat.ne_of_gt (zkl BK821.out):gb831≠gb821))
       have n9_:=As_ ((by rw [hg];exact Nat.ne_of_lt (zkl BK822.out):gb822≠gb831))
       have n10_:=As_ ((by rw [hg];exact Nat.ne_of_gt (zkl BK822.out):gb831≠gb822))
       clear HO829 BK821 BK822 HB
       revert n0_ n1_ n2_ n3_ n4_ n5_ n6_ n7_ n8_ n9_ n10_;intro HO829 BK821 BK822 HB BK831 GW831 GE831 NB821_831 NB831_821 NB822_831 NB831_822
       clear hb hbox hg
       refine hK.out _ _ ⟨(bkC BK821.out 0).trans rfl,(bkC BK821.out 1).trans rfl,((HB.out.cell (bwL w _ hw830_0)).trans hw830_0)⟩ (fun hHeld=>?_)
       clear hK K
       refine norm_ (a':=?_) ?_ ?_
       rotate_left
       ·show Act.put _ (some 7) _=_
        simp only [Act.put,sq_,i64_w,i32_w]
        rfl
       exact norm_ (by simp only [putAll,Act.put,List.setIfInBounds_toArray,List.set_cons_zero,List.set_cons_succ]) (hCont (.slice Ao42 y827.length co42,gb831) _ ⟨hHeld,(by (with_reducible repeat (first|apply Kd.S_alloc|apply Kd.S_drewN|apply Kd.S_drew));exact Kd.S_mono HO829.out (fun _ hk=>⟨hk.1.1,⟨hk.1.2,hk.2⟩⟩)),(zk_ BK821.out),(zk_ BK822.out),(zk_ BK831.out),GW831.out,GE831.out,NB821_831.out,NB831_821.out,NB822_831.out,NB831_822.out,(zb3 HB.out GE821.out GE822.out GE831.out)⟩)
      ·skip
       refine box_step ?hg (N:=7) ?hd (cs:=#[.slice none 0 0,.int .i64 0]) (t:=25) ?hr ?_;(case hd=>rfl);(case hg=>rfl);(case hr=>go_simp <;> rfl)
       intro gb831 hg w40 hbox hb
       have n0_:=As_ (zkb BK821.out hb)
       have n1_:=As_ (zkb BK822.out hb)
       have n2_:=As_ (bwT (zb2 HB.out GE821.out GE822.out) hb)
       have n3_:=As_ (hbox)
       have n4_:=As_ ((by rw [hg];exact (bwZ (zb2 HB.out GE821.out GE822.out)):w.heap.size≤gb831))
       have n5_:=As_ ((by rw [hg];exact (bwZ (zb2 HB.out GE821.out GE822.out)):w.heap.size≤gb831))
       have n6_:=As_ ((by rw [hg];exact Nat.ne_of_lt (zkl BK821.out):gb821≠gb831))
       have n7_:=As_ ((by rw [hg];exact Nat.ne_of_gt (zkl BK821.out):gb831≠gb821))
       have n8_:=As_ ((by rw [hg];exact Nat.ne_of_lt (zkl BK822.out):gb822≠gb831))
       have n9_:=As_ ((by rw [hg];exact Nat.ne_of_gt (zkl BK822.out):gb831≠gb822))
       clear BK821 BK822 HB
       revert n0_ n1_ n2_ n3_ n4_ n5_ n6_ n7_ n8_ n9_;intro BK821 BK822 HB BK831 GW831 GE831 NB821_831 NB831_821 NB822_831 NB831_822
       clear hb hbox hg
       refine hK.out _ _ ⟨(bkC BK821.out 0).trans rfl,(bkC BK821.out 1).trans rfl,((HB.out.cell (bwL w _ hw830_0)).trans hw830_0)⟩ (fun hHeld=>?_)
       clear hK K
       refine norm_ (a':=?_) ?_ ?_
       rotate_left
       ·show Act.put _ (some 7) _=_
        simp only [Act.put,sq_,i64_w,i32_w]
        rfl
       refine one_ (i:=2) (N:=some 48) (bl_ 767 11) rfl rfl (one_of HT_.out (by kernel_rfl)) (by decide) (fun K hK=>?_)
       refine Kd.S_make_step k58 _ 58 (by rfl) (N:=48) rfl 23 _ _ rfl (l1.length:Int) rfl rfl Try.underlying23 (.agg #[(.int .i64 0),(.int .i64 0),(.slice none 0 0)]) 40 info58 rfl (by decide) (by omega) z58 (ok:=fun k_=>w40.heap.size≤k_) (okp:=fun _=>False) (k58_mkM _ _ _ z58 (Kd.R_nil _ _ _ _ _)) (fun _ hk=>hk.elim) (Nat.le_refl _) (odT zA_) (Nat.le_trans (Nat.mul_le_mul_right _ (odT zA_:(l1.length:Int).toNat≤7036874417766)) (by omega)) (Below.refl _ _) (Nat.le_refl _) ?_
       intro v828 w41 ho42 hb hg_ hnew_
       clear hg_ hnew_
       (first|rw [← Ny827.out] at ho42|(simp only [Int.reduceToNat] at ho42;rw [← Ny827.out] at ho42))
       have n0_:=As_ (Kd.S_lower (Kd.S_mono (ok':=fun k_=>k_≠gb821∧k_≠gb822∧k_≠gb831) ho42 (fun k_ hk_=>⟨(Kd.freshB (g:=gb821) (o:=.cells #[.slice A0_0 l0_0.length c0_0,.int .i64 a0_1] 25 (0,0)) (zk_ BK821.out) k_ hk_),(Kd.freshB (g:=gb822) (o:=.cells #[.slice none 0 0,.int .i64 x823001_2] 25 (0,0)) (zk_ BK822.out) k_ hk_),(Kd.freshB (g:=gb831) (o:=.cells #[.slice none 0 0,.int .i64 0] 25 (0,0)) (zk_ BK831.out) k_ hk_)⟩)) (bwZ (zb3 HB.out GE821.out GE822.out GE831.out)))
       have n1_:=As_ (zkb BK821.out hb)
       have n2_:=As_ (zkb BK822.out hb)
       have n3_:=As_ (zkb BK831.out hb)
       have n4_:=As_ (bwT (zb3 HB.out GE821.out GE822.out GE831.out) hb)
       clear BK821 BK822 BK831 HB
       revert n0_ n1_ n2_ n3_ n4_;intro HO829 BK821 BK822 BK831 HB
       clear hb ho42
       obtain ⟨Ao43,co43,eo43⟩:=Kd.S_slice HO829.out
       (first|subst eo43|(injection eo43 with f1_ f2_ f3_;have f4_:=f1_.symm;have f5_:=f3_.symm;clear f1_ f2_ f3_;subst f4_;subst f5_))
       refine hK.out _ _ ⟨(bkC BK821.out 0).trans rfl,(bkC BK821.out 1).trans rfl,((HB.out.cell (bwL w _ hw830_0)).trans hw830_0)⟩ (fun hHeld=>?_)
       clear hK K
       refine norm_ (a':=?_) ?_ ?_
       rotate_left
       ·show Act.put _ (some 48) _=_
        simp only [Act.put,sq_,i64_w,i32_w]
        rfl
       refine pQ 8 54 (bl_ 1023 11) HT_ rfl ?_
       exact norm_ (by simp only [putAll,Act.put,List.setIfInBounds_toArray,List.set_cons_zero,List.set_cons_succ]) (hCont (.slice Ao43 y827.length co43,gb831) _ ⟨hHeld,(zS_ HO829.out),(zk_ BK821.out),(zk_ BK822.out),(zk_ BK831.out),GW831.out,GE831.out,NB821_831.out,NB831_821.out,NB822_831.out,NB831_822.out,(zb3 HB.out GE821.out GE822.out GE831.out)⟩)
     rintro ⟨v828,gb831⟩ w44 ⟨hS_,h0_,h1_,h2_,h3_,h4_,h5_,h6_,h7_,h8_,h9_,h10_⟩
     have n0_:Aside0 (Kd.S k58 58 w44 w.heap.size (fun k_=>k_≠gb821∧k_≠gb822∧k_≠gb831) v828 y827):=⟨h0_⟩
     have n1_:Aside0 (w44.heap[gb821]?=some (.cells #[.slice A0_0 l0_0.length c0_0,.int .i64 a0_1] 25 (0,0))):=⟨h1_⟩
     have n2_:Aside0 (w44.heap[gb822]?=some (.cells #[.slice none 0 0,.int .i64 x823001_2] 25 (0,0))):=⟨h2_⟩
     have n3_:Aside0 (w44.heap[gb831]?=some (.cells #[.slice none 0 0,.int .i64 0] 25 (0,0))):=⟨h3_⟩
     have n4_:Aside0 (w.heap.size≤gb831):=⟨h4_⟩
     have n5_:Aside0 (w.heap.size≤gb831):=⟨h5_⟩
     have n6_:Aside0 (gb821≠gb831):=⟨h6_⟩
     have n7_:Aside0 (gb831≠gb821):=⟨h7_⟩
     have n8_:Aside0 (gb822≠gb831):=⟨h8_⟩
     have n9_:Aside0 (gb831≠gb822):=⟨h9_⟩
     have n10_:Aside0 (Below w.heap.size w w44):=⟨h10_⟩
     clear BK821 BK822 HB h0_ h1_ h2_ h3_ h4_ h5_ h6_ h7_ h8_ h9_ h10_
     revert n0_ n1_ n2_ n3_ n4_ n5_ n6_ n7_ n8_ n9_ n10_;intro HO829 BK821 BK822 BK831 GW831 GE831 NB821_831 NB831_821 NB822_831 NB831_822 HB
     have hHeld:w44.cell? ⟨gb821,0,none⟩=some (.slice A0_0 l0_0.length c0_0)∧w44.cell? ⟨gb821,1,none⟩=some (.int .i64 a0_1)∧w44.cell? (ad830.add (a0_1).toNat)=some (.int .i64 (rd l1 a0_1)):=hS_
     obtain ⟨Ao45,co45,eo45⟩:=Kd.S_slice HO829.out
     (first|subst eo45|(injection eo45 with f1_ f2_ f3_;have f4_:=f1_.symm;have f5_:=f3_.symm;clear f1_ f2_ f3_;subst f4_;subst f5_))
     refine norm_ (a':=?_) ?_ ?_
     rotate_left
     ·simp only [putAll,Act.put,List.setIfInBounds_toArray,List.set_cons_zero,List.set_cons_succ]
      rfl
     refine one_ (i:=10) (N:=none) (bl_ 2047 11) rfl rfl (one_of HT_.out (by kernel_rfl)) (by decide) (fun K hK=>?_)
     have hs46:w44.cell? ⟨gb831,0,none⟩=some (.slice none 0 0):=(bkC BK831.out 0).trans rfl
     have hfs46:=bkF BK831.out 0
     have hns46_0:=NB821_831.out
     have hns46_1:=NB822_831.out
     have hms46_0:=NB831_821.out
     have hms46_1:=NB831_822.out
     have hs47:w44.cell? ⟨gb831,1,none⟩=some (.int .i64 0):=(bkC BK831.out 1).trans rfl
     have hfs47:=bkF BK831.out 1
     have hns47_0:=NB821_831.out
     have hns47_1:=NB822_831.out
     have hms47_0:=NB831_821.out
     have hms47_1:=NB831_822.out
     refine skip_ (w1:=?_) (by rfl) rfl ?_ ?_
     rotate_left
     ·go_simp
      rfl
     refine hK.out _ _ ⟨((cell_far (p:=⟨gb831,_,none⟩) NB821_831.out _).trans (((cell_far (p:=⟨gb831,_,none⟩) NB821_831.out _).trans (hHeld.1)))),((cell_far (p:=⟨gb831,_,none⟩) NB821_831.out _).trans (((cell_far (p:=⟨gb831,_,none⟩) NB821_831.out _).trans (hHeld.2.1)))),((cell_far (p:=⟨gb831,_,none⟩) (by first|exact Nat.ne_of_lt (Nat.lt_of_lt_of_le (by have:=bwL _ _ hw830_0;first|rwa [add_block] at this|exact this) GW831.out)|(rw [add_block];exact Nat.ne_of_lt (Nat.lt_of_lt_of_le (by have:=bwL _ _ hw830_0;first|rwa [add_block] at this|exact this) GW831.out))|(show (Addr.add _ _).block≠_;rw [add_block];exact Nat.ne_of_lt (Nat.lt_of_lt_of_le (by have:=bwL _ _ hw830_0;first|rwa [add_block] at this|exact this) GW831.out))|(dsimp only;exact Nat.ne_of_lt (Nat.lt_of_lt_of_le (by have:=bwL _ _ hw830_0;first|rwa [add_block] at this|exact this) GW831.out))) _).trans (((cell_far (p:=⟨gb831,_,none⟩) (by first|exact Nat.ne_of_lt (Nat.lt_of_lt_of_le (by have:=bwL _ _ hw830_0;first|rwa [add_block] at this|exact this) GW831.out)|(rw [add_block];exact Nat.ne_of_lt (Nat.lt_of_lt_of_le (by have:=bwL _ _ hw830_0;first|rwa [add_block] at this|exact this) GW831.out))|(show (Addr.add _ _).block≠_;rw [add_block];exact Nat.ne_of_lt (Nat.lt_of_lt_of_le (by have:=bwL _ _ hw830_0;first|rwa [add_block] at this|exact this) GW831.out))|(dsimp only;exact Nat.ne_of_lt (Nat.lt_of_lt_of_le (by have:=bwL _ _ hw830_0;first|rwa [add_block] at this|exact this) GW831.out))) _).trans (hHeld.2.2))))⟩ (fun hHeld=>?_)
     clear hK K
     refine done_ (done_of HT_.out (by kernel_rfl)) ?_
     have hnb48:=NB821_822.out
     have hnc48:=NB822_821.out
     have hnb49:=NB821_831.out
     have hnc49:=NB831_821.out
     obtain ⟨hcz50_0,hcz50_1,hfz50_0,hfz50_1⟩:=bk2 BK821.out
     try go_wp2
     go_loopg [58] k2 (fun kq v58 w'=>∃ (x58_3:Int) (x832000_3:List (S58)) (u832000:Value),v58=.int .i64 x58_3∧Aside0 (impl_RenumberGraph.l1 kq l1 l0_0 (l0_0.length:Int) x58_3 x832000_3 (rd l1 a0_1)=some (r1,r2))∧Aside0 (kq≤k2)∧Aside0 (Kd.S k58 58 w' w.heap.size (fun k_=>k_≠gb821∧k_≠gb822∧k_≠gb831) u832000 x832000_3)∧Aside0 (w'.heap[gb821]?=some (.cells #[(.slice A0_0 l0_0.length c0_0),.int .i64 a0_1] 25 (0,0)))∧Aside0 (w'.heap[gb822]?=some (.cells #[(.slice none 0 0),.int .i64 x823001_2] 25 (0,0)))∧Aside0 (w'.heap[gb831]?=some (.cells #[u832000,.int .i64 (rd l1 a0_1)] 25 (0,0)))∧Aside0 (Below w.heap.size w w'))
     case atStart=>exact ⟨(0),(y827),(.slice Ao45 y827.length co45),zT_,H',⟨Nat.le_refl _⟩,⟨by (with_reducible repeat (first|apply Kd.S_alloc|apply Kd.S_drewN|apply Kd.S_drew));exact Kd.S_mono (Kd.S_far (p:=⟨gb831,1,none⟩) (Kd.S_far (p:=⟨gb831,0,none⟩) (Kd.S_mono HO829.out (fun k_ hk=>(⟨hk,hk.2.2⟩:_∧k_≠gb831))) (fun _ hk=>hk.2) (.slice Ao45 y827.length co45)) (fun _ hk=>hk.2) (.int .i64 (rd l1 a0_1))) (fun _ hk=>⟨hk.1.1,⟨hk.1.2.1,hk.1.2.2⟩⟩)⟩,⟨by (with_reducible repeat first|apply bkN|apply bkD|apply bkA);refine blk_far ?_ NB821_831.out _;(with_reducible repeat first|apply bkN|apply bkD|apply bkA);refine blk_far ?_ NB821_831.out _;(with_reducible repeat first|apply bkN|apply bkD|apply bkA);exact BK821.out⟩,⟨by (with_reducible repeat first|apply bkN|apply bkD|apply bkA);refine blk_far ?_ NB822_831.out _;(with_reducible repeat first|apply bkN|apply bkD|apply bkA);refine blk_far ?_ NB822_831.out _;(with_reducible repeat first|apply bkN|apply bkD|apply bkA);exact BK822.out⟩,⟨by (with_reducible repeat first|apply bkN|apply bkD|apply bkA);refine blk_put (cs:=#[.slice Ao45 y827.length co45,.int .i64 0]) ?_ 1 _ rfl;(with_reducible repeat first|apply bkN|apply bkD|apply bkA);refine blk_put (cs:=#[.slice none 0 0,.int .i64 0]) ?_ 0 _ rfl;(with_reducible repeat first|apply bkN|apply bkD|apply bkA);exact BK831.out⟩,⟨zb3 HB.out GE821.out GE822.out GE831.out⟩⟩
     case round=>
      clear H'
      obtain ⟨x58_3,x832000_3,u832000,rfl,HA,HK3,HO_832000,BK821,BK822,BK831,HB⟩:=hrel
      cases gk with
      | zero=>exact absurd HA.out (fun h_=>(by cases h_))
      | succ k3=>
       have H:=HA.out
       clear HA
       simp only [impl_RenumberGraph.l1] at H
       by_cases c51:x58_3<(l0_0.length:Int)
       rotate_left
       ·rw [if_neg c51] at H
        have c51b0:decide (x58_3<(l0_0.length:Int))=false:=deF c51
        clear c51
        simp only [Option.some.injEq,Prod.mk.injEq] at H
        obtain ⟨rfl,rfl⟩:=H
        have hnb68:=NB831_821.out
        have hnc68:=NB821_831.out
        have hnb69:=NB831_822.out
        have hnc69:=NB822_831.out
        obtain ⟨hcz70_0,hcz70_1,hfz70_0,hfz70_1⟩:=bk2 BK831.out
        obtain ⟨Ao71,co71,eo71⟩:=Kd.S_slice HO_832000.out
        subst eo71
        have hnb72:=NB822_821.out
        have hnc72:=NB821_822.out
        obtain ⟨hcz73_0,hcz73_1,hfz73_0,hfz73_1⟩:=bk2 BK822.out
        go_wp2
        refine bodyPost_ret (results_cell_row rfl _ _ gb822 25 #[.slice Ao71 x832000_3.length co71,.int .i64 (rd l1 a0_1)] (0,0) _ rfl (by (with_reducible repeat first|apply bkN|apply bkD|apply bkA);refine blk_put (cs:=#[.slice Ao71 x832000_3.length co71,.int .i64 x823001_2]) ?_ 1 _ rfl;(with_reducible repeat first|apply bkN|apply bkD|apply bkA);refine blk_put (cs:=#[.slice none 0 0,.int .i64 x823001_2]) ?_ 0 _ rfl;(with_reducible repeat first|apply bkN|apply bkD|apply bkA);exact BK822.out) Try.underlying25 rfl (by kernel_rfl)) rfl ?_
        exact ⟨_,zE_,by (with_reducible repeat (first|apply Kd.S_alloc|apply Kd.S_drewN|apply Kd.S_drew));exact Kd.S_mono (Kd.S_far (p:=⟨gb822,1,none⟩) (Kd.S_far (p:=⟨gb822,0,none⟩) (Kd.S_mono HO_832000.out (fun k_ hk=>(⟨hk,hk.2.1⟩:_∧k_≠gb822))) (fun _ hk=>hk.2) (.slice Ao71 x832000_3.length co71)) (fun _ hk=>hk.2) (.int .i64 (rd l1 a0_1))) (fun _ hk=>trivial),zb3 HB.out GE821.out GE822.out GE831.out⟩
       rw [if_pos c51] at H
       have c51b0:decide (x58_3<(l0_0.length:Int))=true:=deT c51
       clear c51
       by_cases c52:0≤x58_3
       rotate_left
       ·rw [if_neg c52] at H
        exact absurd H (by simp)
       rw [if_pos c52] at H
       have c52b0:decide (0≤x58_3)=true:=deT c52
       clear c52
       by_cases c53:x58_3<(l0_0.length:Int)
       rotate_left
       ·rw [if_neg c53] at H
        exact absurd H (by simp)
       rw [if_pos c53] at H
       have c53b0:decide (x58_3<(l0_0.length:Int))=true:=deT c53
       clear c53
       by_cases c54:x58_3<(l1.length:Int)
       rotate_left
       ·rw [if_neg c54] at H
        exact absurd H (by simp)
       rw [if_pos c54] at H
       have c54b0:decide (x58_3<(l1.length:Int))=true:=deT c54
       clear c54
       replace H:=obS H
       obtain ⟨⟨t835,t836,t837⟩,A550,H⟩:=H
       replace H:(if 0≤(rd l1 x58_3) then (if (rd l1 x58_3)<(x832000_3.length:Int) then (impl_RenumberGraph.l1 k3 l1 l0_0 (l0_0.length:Int) (wrap64 (x58_3+1)) (x832000_3.set ((rd l1 x58_3):Int).toNat (⟨t835,t836,t837⟩:S58)) (rd l1 a0_1)) else (none)) else (none))=some (r1,r2):=H
       have A55:=As_ A550
       clear A550
       by_cases c56:0≤(rd l1 x58_3)
       rotate_left
       ·rw [if_neg c56] at H
        exact absurd H (by simp)
       rw [if_pos c56] at H
       have c56b0:decide (0≤(rd l1 x58_3))=true:=deT c56
       clear c56
       by_cases c57:(rd l1 x58_3)<(x832000_3.length:Int)
       rotate_left
       ·rw [if_neg c57] at H
        exact absurd H (by simp)
       rw [if_pos c57] at H
       have c57b0:decide ((rd l1 x58_3)<(x832000_3.length:Int))=true:=deT c57
       clear c57
       obtain ⟨y840,hy840⟩:∃ y_:List (S58),y_=(x832000_3.set ((rd l1 x58_3):Int).toNat (⟨t835,t836,t837⟩:S58)):=⟨_,rfl⟩
       replace H:(impl_RenumberGraph.l1 k3 l1 l0_0 (l0_0.length:Int) (wrap64 (x58_3+1)) y840 (rd l1 a0_1))=some (r1,r2):=zH_ H hy840
       have Ny840:=As_ hy840
       clear hy840
       have H':=As_ H
       clear H
       have p832:0≤(x58_3:Int):=odT zA_
       have q832:x58_3<(l0_0.length:Int):=odT zA_
       obtain ⟨ad832,A832_2,c832_2,e832,hx832_0,hx832_1,hx832_2,hl832_2,hi832_2⟩:=at_T58 HR0_0.out x58_3 p832 q832
       cases e832
       replace hx832_0:=bwC HB.out hx832_0
       replace hx832_1:=bwC HB.out hx832_1
       replace hx832_2:=bwC HB.out hx832_2
       have HR832_2:=As_ hi832_2
       have HC832_2:=As_ hl832_2
       clear hi832_2 hl832_2
       replace p832:=eq_true p832
       replace q832:=eq_true q832
       try go_wp2_with (first|((with_reducible refine gate_dst (N:=9) rfl ?_);(try (refine gate_guard (by rfl) ?_;dsimp only));refine box_event ?hg (N:=9) ?hd (cs:=#[.int .i64 0,.int .i64 0,.slice none 0 0]) (t:=58) ?hr ?_;(case hd=>rfl);(case hg=>rfl);(case hr=>go_simp <;> rfl);intro gb833 hg w59 hbox hb;have n0_:=As_ (Kd.S_below (Kd.S_elderB (zS_ HO_832000.out) gb833 (Nat.le_of_eq hg.symm)) hb);have n1_:=As_ (zkb BK821.out hb);have n2_:=As_ (zkb BK822.out hb);have n3_:=As_ (zkb BK831.out hb);have n4_:=As_ (bwT (zb3 HB.out GE821.out GE822.out GE831.out) hb);have n5_:=As_ (hbox);have n6_:=As_ ((by rw [hg];exact (bwZ (zb3 HB.out GE821.out GE822.out GE831.out)):w.heap.size≤gb833));have n7_:=As_ ((by rw [hg];exact (bwZ (zb3 HB.out GE821.out GE822.out GE831.out)):w.heap.size≤gb833));have n8_:=As_ ((by rw [hg];exact Nat.ne_of_lt (zkl BK821.out):gb821≠gb833));have n9_:=As_ ((by rw [hg];exact Nat.ne_of_gt (zkl BK821.out):gb833≠gb821));have n10_:=As_ ((by rw [hg];exact Nat.ne_of_lt (zkl BK822.out):gb822≠gb833));have n11_:=As_ ((by rw [hg];exact Nat.ne_of_gt (zkl BK822.out):gb833≠gb822));have n12_:=As_ ((by rw [hg];exact Nat.ne_of_lt (zkl BK831.out):gb831≠gb833));have n13_:=As_ ((by rw [hg];exact Nat.ne_of_gt (zkl BK831.out):gb833≠gb831));clear HO_832000 BK821 BK822 BK831 HB;revert n0_ n1_ n2_ n3_ n4_ n5_ n6_ n7_ n8_ n9_ n10_ n11_ n12_ n13_;intro HO_832000 BK821 BK822 BK831 HB BK833 GW833 GE833 NB821_833 NB833_821 NB822_833 NB833_822 NB831_833 NB833_831;clear hb hbox hg;have hnb60:=NB833_821.out;have hnc60:=NB821_833.out;have hnb61:=NB833_822.out;have hnc61:=NB822_833.out;have hnb62:=NB833_831.out;have hnc62:=NB831_833.out;obtain ⟨hcz63_0,hcz63_1,hcz63_2,hfz63_0,hfz63_1,hfz63_2⟩:=bk3 BK833.out))
       have n0_:Aside0 (Kd.S k58 58 (((w59.setCell ⟨gb833,0,none⟩ (.int .i64 ((rd_T58 l0_0 x58_3).f0))).setCell ⟨gb833,1,none⟩ (.int .i64 ((rd_T58 l0_0 x58_3).f1))).setCell ⟨gb833,2,none⟩ (.slice A832_2 ((rd_T58 l0_0 x58_3).f2).length c832_2)) w.heap.size (fun k_=>k_≠gb821∧k_≠gb822∧k_≠gb831∧k_≠gb833) u832000 x832000_3):=⟨by (with_reducible repeat (first|apply Kd.S_alloc|apply Kd.S_drewN|apply Kd.S_drew));exact Kd.S_mono (Kd.S_far (p:=⟨gb833,2,none⟩) (Kd.S_far (p:=⟨gb833,1,none⟩) (Kd.S_far (p:=⟨gb833,0,none⟩) (Kd.S_mono HO_832000.out (fun k_ hk=>(⟨hk,hk.2⟩:_∧k_≠gb833))) (fun _ hk=>hk.2) (.int .i64 ((rd_T58 l0_0 x58_3).f0))) (fun _ hk=>hk.2) (.int .i64 ((rd_T58 l0_0 x58_3).f1))) (fun _ hk=>hk.2) (.slice A832_2 ((rd_T58 l0_0 x58_3).f2).length c832_2)) (fun _ hk=>⟨hk.1.1.1,⟨hk.1.1.2.1,⟨hk.1.1.2.2,hk.1.2⟩⟩⟩)⟩
       have n1_:Aside0 ((((w59.setCell ⟨gb833,0,none⟩ (.int .i64 ((rd_T58 l0_0 x58_3).f0))).setCell ⟨gb833,1,none⟩ (.int .i64 ((rd_T58 l0_0 x58_3).f1))).setCell ⟨gb833,2,none⟩ (.slice A832_2 ((rd_T58 l0_0 x58_3).f2).length c832_2)).heap[gb821]?=some (.cells #[.slice (some ad832) l0_0.length c0_0,.int .i64 a0_1] 25 (0,0))):=⟨by (with_reducible repeat first|apply bkN|apply bkD|apply bkA);refine blk_far ?_ NB821_833.out _;(with_reducible repeat first|apply bkN|apply bkD|apply bkA);refine blk_far ?_ NB821_833.out _;(with_reducible repeat first|apply bkN|apply bkD|apply bkA);refine blk_far ?_ NB821_833.out _;(with_reducible repeat first|apply bkN|apply bkD|apply bkA);exact BK821.out⟩
       have n2_:Aside0 ((((w59.setCell ⟨gb833,0,none⟩ (.int .i64 ((rd_T58 l0_0 x58_3).f0))).setCell ⟨gb833,1,none⟩ (.int .i64 ((rd_T58 l0_0 x58_3).f1))).setCell ⟨gb833,2,none⟩ (.slice A832_2 ((rd_T58 l0_0 x58_3).f2).length c832_2)).heap[gb822]?=some (.cells #[.slice none 0 0,.int .i64 x823001_2] 25 (0,0))):=⟨by (with_reducible repeat first|apply bkN|apply bkD|apply bkA);refine blk_far ?_ NB822_833.out _;(with_reducible repeat first|apply bkN|apply bkD|apply bkA);refine blk_far ?_ NB822_833.out _;(with_reducible repeat first|apply bkN|apply bkD|apply bkA);refine blk_far ?_ NB822_833.out _;(with_reducible repeat first|apply bkN|apply bkD|apply bkA);exact BK822.out⟩
       have n3_:Aside0 ((((w59.setCell ⟨gb833,0,none⟩ (.int .i64 ((rd_T58 l0_0 x58_3).f0))).setCell ⟨gb833,1,none⟩ (.int .i64 ((rd_T58 l0_0 x58_3).f1))).setCell ⟨gb833,2,none⟩ (.slice A832_2 ((rd_T58 l0_0 x58_3).f2).length c832_2)).heap[gb831]?=some (.cells #[u832000,.int .i64 (rd l1 a0_1)] 25 (0,0))):=⟨by (with_reducible repeat first|apply bkN|apply bkD|apply bkA);refine blk_far ?_ NB831_833.out _;(with_reducible repeat first|apply bkN|apply bkD|apply bkA);refine blk_far ?_ NB831_833.out _;(with_reducible repeat first|apply bkN|apply bkD|apply bkA);refine blk_far ?_ NB831_833.out _;(with_reducible repeat first|apply bkN|apply bkD|apply bkA);exact BK831.out⟩
       have n4_:Aside0 ((((w59.setCell ⟨gb833,0,none⟩ (.int .i64 ((rd_T58 l0_0 x58_3).f0))).setCell ⟨gb833,1,none⟩ (.int .i64 ((rd_T58 l0_0 x58_3).f1))).setCell ⟨gb833,2,none⟩ (.slice A832_2 ((rd_T58 l0_0 x58_3).f2).length c832_2)).heap[gb833]?=some (.cells #[.int .i64 ((rd_T58 l0_0 x58_3).f0),.int .i64 ((rd_T58 l0_0 x58_3).f1),.slice A832_2 ((rd_T58 l0_0 x58_3).f2).length c832_2] 58 (0,0))):=⟨by (with_reducible repeat first|apply bkN|apply bkD|apply bkA);refine blk_put (cs:=#[.int .i64 ((rd_T58 l0_0 x58_3).f0),.int .i64 ((rd_T58 l0_0 x58_3).f1),.slice none 0 0]) ?_ 2 _ rfl;(with_reducible repeat first|apply bkN|apply bkD|apply bkA);refine blk_put (cs:=#[.int .i64 ((rd_T58 l0_0 x58_3).f0),.int .i64 0,.slice none 0 0]) ?_ 1 _ rfl;(with_reducible repeat first|apply bkN|apply bkD|apply bkA);refine blk_put (cs:=#[.int .i64 0,.int .i64 0,.slice none 0 0]) ?_ 0 _ rfl;(with_reducible repeat first|apply bkN|apply bkD|apply bkA);exact BK833.out⟩
       have n5_:Aside0 (Below w.heap.size w (((w59.setCell ⟨gb833,0,none⟩ (.int .i64 ((rd_T58 l0_0 x58_3).f0))).setCell ⟨gb833,1,none⟩ (.int .i64 ((rd_T58 l0_0 x58_3).f1))).setCell ⟨gb833,2,none⟩ (.slice A832_2 ((rd_T58 l0_0 x58_3).f2).length c832_2))):=⟨zb4 HB.out GE821.out GE822.out GE831.out GE833.out⟩
       generalize (((w59.setCell ⟨gb833,0,none⟩ (.int .i64 ((rd_T58 l0_0 x58_3).f0))).setCell ⟨gb833,1,none⟩ (.int .i64 ((rd_T58 l0_0 x58_3).f1))).setCell ⟨gb833,2,none⟩ (.slice A832_2 ((rd_T58 l0_0 x58_3).f2).length c832_2))=w64 at n0_ n1_ n2_ n3_ n4_ n5_ ⊢
       revert n0_ n1_ n2_ n3_ n4_ n5_;intro HO_832000 BK821 BK822 BK831 BK833 HB
       have n0_:=As_ (Kd.S_drew HO_832000.out)
       have n1_:=As_ (bkD BK821.out)
       have n2_:=As_ (bkD BK822.out)
       have n3_:=As_ (bkD BK831.out)
       have n4_:=As_ (bkD BK833.out)
       have n5_:=As_ (bwD HB.out)
       clear HO_832000 BK821 BK822 BK831 BK833 HB
       revert n0_ n1_ n2_ n3_ n4_ n5_;intro HO_832000 BK821 BK822 BK831 BK833 HB
       have p834:0≤(x58_3:Int):=odT zA_
       have q834:x58_3<(l1.length:Int):=odT zA_
       obtain ⟨ad834,e834,hx834_0⟩:=Kd.at_int HR1.out x58_3 p834 q834
       have hw834_0:=hx834_0
       obtain rfl:ad830=ad834:=(by injection e834)
       replace hx834_0:=bwC HB.out hx834_0
       replace p834:=eq_true p834
       replace q834:=eq_true q834
       refine start_ (n:=11) (S:=fun w'=>w'.cell? ⟨gb831,0,none⟩=some (u832000)∧w'.cell? ⟨gb831,1,none⟩=some (.int .i64 (rd l1 a0_1))∧w'.cell? ⟨gb833,0,none⟩=some (.int .i64 ((rd_T58 l0_0 x58_3).f0))∧w'.cell? ⟨gb833,1,none⟩=some (.int .i64 ((rd_T58 l0_0 x58_3).f1))∧w'.cell? ⟨gb833,2,none⟩=some (.slice A832_2 ((rd_T58 l0_0 x58_3).f2).length c832_2)∧w'.cell? (ad830.add (x58_3).toNat)=some (.int .i64 (rd l1 x58_3))) (ds:=[10]) (bl_ 0 11) (by kernel_rfl) rfl rfl ⟨(bkC BK831.out 0).trans rfl,(bkC BK831.out 1).trans rfl,(bkC BK833.out 0).trans rfl,(bkC BK833.out 1).trans rfl,(bkC BK833.out 2).trans rfl,((HB.out.cell (bwL w _ hw834_0)).trans hw834_0)⟩ (fun hHeld=>?_);refine with_tabW impl_RenumberGraph.tab13 impl_RenumberGraph.bits13 (fun HT_ HW_=>?_)
       generalize w64.drew=w65 at HO_832000 BK821 BK822 BK831 BK833 HB hx834_0 hHeld ⊢
       refine pQ 0 63 (bl_ 1 11) HT_ rfl ?_
       refine pQ 2 65 (bl_ 5 11) HT_ rfl ?_
       refine pQ 3 66 (bl_ 13 11) HT_ rfl ?_
       refine pQ 4 67 (bl_ 29 11) HT_ rfl ?_
       refine pQ 7 70 (bl_ 157 11) HT_ rfl ?_
       refine tP 1 64 (bl_ 159 11) ?_ HT_ HW_ rfl (.inl ⟨by rfl,?_⟩) hHeld ?_ ?_ ?_;rotate_left;(rintro w' ⟨s0,s1,s2,s3,s4,s5⟩;go_simp;with_reducible rfl);rotate_left;(simp only [Act.put,sq_,i64_w,i32_w];rfl)
       refine tP 5 68 (bl_ 191 11) ?_ HT_ HW_ rfl (.inl ⟨by rfl,?_⟩) hHeld ?_ ?_ ?_;rotate_left;(rintro w' ⟨s0,s1,s2,s3,s4,s5⟩;go_simp;with_reducible rfl);rotate_left;(simp only [Act.put,sq_,i64_w,i32_w];rfl)
       refine tP 6 69 (bl_ 255 11) ?_ HT_ HW_ rfl (.inl ⟨by rfl,?_⟩) hHeld ?_ ?_ ?_;rotate_left;(rintro w' ⟨s0,s1,s2,s3,s4,s5⟩;go_simp;with_reducible rfl);rotate_left;(simp only [Act.put,sq_,i64_w,i32_w];rfl)
       refine one_ (i:=8) (N:=some 71) (bl_ 511 11) rfl rfl (one_of HT_.out (by kernel_rfl)) (by decide) (fun K hK=>?_)
       refine goes_ Try.func56 (by kernel_rfl) rfl #[.agg #[.int .i64 ((rd_T58 l0_0 x58_3).f0),.int .i64 ((rd_T58 l0_0 x58_3).f1),.slice A832_2 ((rd_T58 l0_0 x58_3).f2).length c832_2],.slice (some ad830) l1.length c1] (by rfl) rfl rfl zM_ ?_
       with_reducible refine (impl_mapped.calls k3 ((rd_T58 l0_0 x58_3).f0) ((rd_T58 l0_0 x58_3).f1) _ _ ((rd_T58 l0_0 x58_3).f2) _ _ l1 t835 t836 t837 _ ?side1 ?side2 ?side3 ?side4 A55.out).mono ?_
       (case side1=>exact zC_ (Kd.C_below HR832_2.out HB.out))
       (case side2=>exact HC832_2.out)
       (case side3=>exact zC_ (Kd.C_below HR1.out HB.out))
       (case side4=>exact HC1.out)
       rintro e w66 ⟨v838,rfl,ho0,hb⟩
       refine ⟨_,rfl,?_⟩
       have n0_:=As_ (Kd.S_elder' (zS_ HO_832000.out) (Kd.R_base ho0) hb)
       have n1_:=As_ (Kd.R_lower ho0 (bwZ (zb4 HB.out GE821.out GE822.out GE831.out GE833.out)))
       have n2_:=As_ (zkb BK821.out hb)
       have n3_:=As_ (zkb BK822.out hb)
       have n4_:=As_ (zkb BK831.out hb)
       have n5_:=As_ (zkb BK833.out hb)
       have n6_:=As_ (bwT (zb4 HB.out GE821.out GE822.out GE831.out GE833.out) hb)
       clear HO_832000 BK821 BK822 BK831 BK833 HB
       revert n0_ n1_ n2_ n3_ n4_ n5_ n6_;intro HO_832000 HO839 BK821 BK822 BK831 BK833 HB
       have p58:0≤((rd l1 x58_3):Int):=odT zA_
       have q58:((rd l1 x58_3):Int)<((x832000_3.length:Int):Int):=odT zA_
       obtain ⟨go58,co58,eo58,gb58,gl58,cl58,HG58⟩:=Kd.S_form HO_832000.out (by omega)
       (first|cases eo58|(injection eo58 with ea_ en_ ec_;(first|subst ea_|(injection ea_ with ea_;subst ea_));subst ec_;clear en_))
       have GB58:=As_ gb58
       have GG58:=As_ HG58
       clear gb58 gl58 HG58
       obtain ⟨ce58,hcl58,hM58,hcc58,hfr58⟩:=Kd.N_elem (Kd.S_N HO_832000.out) z58 ((rd l1 x58_3):Int) p58 q58
       obtain ⟨ua58_2,uc58_2,rfl,ul58_2,ge58_2⟩:=k58_openF hM58
       have hx58_0:World.cell? _ ⟨go58,((rd l1 x58_3):Int).toNat * 3,none⟩=some (.int .i64 ((rd_T58 x832000_3 (rd l1 x58_3)).f0)):=hcc58 0 _ rfl
       have hx58_1:World.cell? _ ⟨go58,((rd l1 x58_3):Int).toNat * 3+1,none⟩=some (.int .i64 ((rd_T58 x832000_3 (rd l1 x58_3)).f1)):=hcc58 1 _ rfl
       have hx58_2:World.cell? _ ⟨go58,((rd l1 x58_3):Int).toNat * 3+2,none⟩=some (.slice ua58_2 ((rd_T58 x832000_3 (rd l1 x58_3)).f2).length uc58_2):=hcc58 2 _ rfl
       have hf58_0:World.frozen? _ ⟨go58,((rd l1 x58_3):Int).toNat * 3,none⟩=false:=hfr58 0
       have hf58_1:World.frozen? _ ⟨go58,((rd l1 x58_3):Int).toNat * 3+1,none⟩=false:=hfr58 1
       have hf58_2:World.frozen? _ ⟨go58,((rd l1 x58_3):Int).toNat * 3+2,none⟩=false:=hfr58 2
       clear hcl58 hcc58 hfr58 hM58
       replace p58:=eq_true p58
       replace q58:=eq_true q58
       obtain ⟨Av_,cv_,ev_⟩:=Kd.R_slice HO839.out
       subst ev_
       have HX67:=As_ (show Kd.S k58 58 _ w.heap.size (fun k_=>((fun k_=>k_≠gb821∧k_≠gb822∧k_≠gb831∧k_≠gb833) k_)∧¬ (some k_=((.slice Av_ t837.length cv_):Value).ownBlock)) (.slice (some ⟨go58,0,none⟩) x832000_3.length co58) x832000_3 from (Kd.S_mono (HO_832000.out) (fun k_ hk=>⟨⟨hk.1.1,⟨hk.1.2.1,⟨hk.1.2.2.1,hk.1.2.2.2⟩⟩⟩,hk.2⟩)))
       obtain ⟨oki67,ce67,hcl67,hM67,hcc67,hfr67,hoki67,hH67⟩:=Kd.S_elem HX67.out z58 ((rd l1 x58_3):Int) (odT zA_) (by have h_:((rd l1 x58_3):Int)<((x832000_3.length:Int):Int):=odT zA_;first|exact h_|(have e_:=(Kd.S_reads' HO_832000.out).1;omega)|simpa using h_)
       obtain ⟨ve67_2,rfl,ge67_2⟩:=k58_openM hM67
       have HP67:=(Kd.S_seg (ok:=fun k_=>k_≠gb821∧k_≠gb822∧k_≠gb831∧k_≠gb833) (okg:=fun k_=>some k_=((.slice Av_ t837.length cv_):Value).ownBlock) (okp:=fun k_=>some k_=((.slice Av_ t837.length cv_):Value).ownBlock) hH67 (odT zA_) (by have h_:((rd l1 x58_3):Int)<((x832000_3.length:Int):Int):=odT zA_;first|exact h_|(have e_:=(Kd.S_reads' HO_832000.out).1;omega)|simpa using h_) (seg:=[.int .i64 t835,.int .i64 t836,(.slice Av_ t837.length cv_)]) (j:=0) (show 3≤3 from by decide) (x':=(⟨t835,t836,t837⟩:S58)) (k58_mkM _ _ _ (⟨t835,t836,t837⟩:S58) (Kd.R_tight rfl HO839.out)) (fun _ hk=>.inr hk) (fun k_ hk=>(Kd.R_mono (ok':=(fun k_=>((fun k_=>k_≠gb821∧k_≠gb822∧k_≠gb831∧k_≠gb833)) k_∧k_≠go58)) (Kd.R_types (Kd.R_types (Kd.R_types (Kd.R_types (Kd.R_apart' (HO839.out) (Kd.S_typed HO_832000.out) (by decide)) BK821.out (by decide)) BK822.out (by decide)) BK831.out (by decide)) BK833.out (by decide)) (fun k_ hk=>⟨⟨hk.1.1.1.2,⟨hk.1.1.2,⟨hk.1.2,hk.2⟩⟩⟩,fun e_=>(hk.1.1.1.1.2) (by rw [e_];rfl)⟩)).1 k_ hk.symm)).1
       rw [← Ny840.out] at HP67
       have HQ67:=As_ HP67
       clear hcl67 hcc67 hfr67 hM67 HP67 hoki67 hH67
       refine hK.out _ _ ⟨(bkC BK831.out 0).trans rfl,(bkC BK831.out 1).trans rfl,(bkC BK833.out 0).trans rfl,(bkC BK833.out 1).trans rfl,(bkC BK833.out 2).trans rfl,((HB.out.cell (bwL w _ hw834_0)).trans hw834_0)⟩ (fun hHeld=>?_)
       clear hK K
       refine norm_ (a':=?_) ?_ ?_
       rotate_left
       ·show Act.put _ (some 71) _=_
        simp only [Act.put,sq_,i64_w,i32_w]
        rfl
       refine pQ 9 72 (bl_ 1023 11) HT_ rfl ?_
       refine last_ (i:=10) (N:=none) (bl_ 2047 11) rfl rfl (one_of HT_.out (by kernel_rfl)) (by decide) (fun K hK=>?_)
       refine skip_ (w1:=?_) (by rfl) rfl ?_ ?_
       rotate_left
       ·go_simp
        rfl
       refine hK.out _ _ ?_
       clear hK K
       refine done_ (done_of HT_.out (by kernel_rfl)) ?_
       try go_wp2
       go_roundg k3
       case measure=>have:=HJ2.out;have:=HK2.out;have:=HK3.out;omega
       case rel=>exact ⟨(wrap64 (x58_3+1)),(y840),(.slice (some ⟨go58,0,none⟩) x832000_3.length co58),zT_,H',⟨by have:=HJ2.out;have:=HK2.out;have:=HK3.out;omega⟩,⟨by (with_reducible repeat (first|apply Kd.S_alloc|apply Kd.S_drewN|apply Kd.S_drew));exact Kd.S_mono HQ67.out (fun _ hk=>⟨hk.1,⟨hk.2.1,hk.2.2.1⟩⟩)⟩,⟨by (with_reducible repeat first|apply bkN|apply bkD|apply bkA);refine blk_far ?_ (by have h_:=Kd.S_away HQ67.out (fun _ hk=>hk.1);intro e_;exact h_ (by rw [e_];rfl)) _;(with_reducible repeat first|apply bkN|apply bkD|apply bkA);refine blk_far ?_ (by have h_:=Kd.S_away HQ67.out (fun _ hk=>hk.1);intro e_;exact h_ (by rw [e_];rfl)) _;(with_reducible repeat first|apply bkN|apply bkD|apply bkA);refine blk_far ?_ (by have h_:=Kd.S_away HQ67.out (fun _ hk=>hk.1);intro e_;exact h_ (by rw [e_];rfl)) _;(with_reducible repeat first|apply bkN|apply bkD|apply bkA);exact BK821.out⟩,⟨by (with_reducible repeat first|apply bkN|apply bkD|apply bkA);refine blk_far ?_ (by have h_:=Kd.S_away HQ67.out (fun _ hk=>hk.2.1);intro e_;exact h_ (by rw [e_];rfl)) _;(with_reducible repeat first|apply bkN|apply bkD|apply bkA);refine blk_far ?_ (by have h_:=Kd.S_away HQ67.out (fun _ hk=>hk.2.1);intro e_;exact h_ (by rw [e_];rfl)) _;(with_reducible repeat first|apply bkN|apply bkD|apply bkA);refine blk_far ?_ (by have h_:=Kd.S_away HQ67.out (fun _ hk=>hk.2.1);intro e_;exact h_ (by rw [e_];rfl)) _;(with_reducible repeat first|apply bkN|apply bkD|apply bkA);exact BK822.out⟩,⟨by (with_reducible repeat first|apply bkN|apply bkD|apply bkA);refine blk_far ?_ (by have h_:=Kd.S_away HQ67.out (fun _ hk=>hk.2.2.1);intro e_;exact h_ (by rw [e_];rfl)) _;(with_reducible repeat first|apply bkN|apply bkD|apply bkA);refine blk_far ?_ (by have h_:=Kd.S_away HQ67.out (fun _ hk=>hk.2.2.1);intro e_;exact h_ (by rw [e_];rfl)) _;(with_reducible repeat first|apply bkN|apply bkD|apply bkA);refine blk_far ?_ (by have h_:=Kd.S_away HQ67.out (fun _ hk=>hk.2.2.1);intro e_;exact h_ (by rw [e_];rfl)) _;(with_reducible repeat first|apply bkN|apply bkD|apply bkA);exact BK831.out⟩,⟨by repeat (first|(with_reducible first|exact HB.out|apply bwA|apply bwN|apply bwD|refine bwS ?_ GB58.out|refine bwS ?_ GB58.out|refine bwS ?_ GB58.out|refine bwS ?_ GE821.out|refine bwS ?_ GE822.out|refine bwS ?_ GE831.out|refine bwS ?_ GE833.out)|exact HB.out)⟩⟩
end Go.Proofs.Ytapaegcombfafaa.Q
