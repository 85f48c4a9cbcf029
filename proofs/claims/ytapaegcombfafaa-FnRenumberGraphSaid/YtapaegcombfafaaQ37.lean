import Derived.Test.YtapaegcombfafaaQ0
import Derived.Test.YtapaegcombfafaaQ49
import Derived.Test.YtapaegcombfafaaQ71
import Derived.Test.YtapaegcombfafaaQ72
namespace Go.Proofs.Ytapaegcombfafaa.Q
open Go.RowKit Go.Proofs.YtapaegcombfafaaW.PrintWords Go.Proofs.YtapaegcombfafaaW.PrintLast Go.Proofs.YtapaegcombfafaaW.PrintMore
attribute [local go_sem] max2_int min2_int max_two min_two max_three min_three max_four min_four
set_option linter.unusedVariables false
set_option linter.unusedSimpArgs false
mutual
def impl_ValidGraph.j0:Nat→Int→Bool→List (S58)→Int→Option (Bool)
 | 0,_,_,_,_=>none
 | k+1,x3,x28,x329000,x329001=>if x28=true then (some false) else (impl_ValidGraph.l0 k x3 x329000 (x329000.length:Int) 0 x329000 x329001)
def impl_ValidGraph.l0:Nat→Int→List (S58)→Int→Int→List (S58)→Int→Option (Bool)
 | 0,_,_,_,_,_,_=>none
 | k+1,x3,x30,x31,x32,x329000,x329001=>if x32<x31 then (if 0≤x32 then (if x32<(x30.length:Int) then (if (((rd_T58 x30 x32).f2).length:Int)>6 then (some false) else ((slices_ContainsFunc_int_int.f ((rd_T58 x30 x32).f2) x3).bind fun t331=>(if t331=true then (some false) else (impl_ValidGraph.l0 k x3 x30 x31 (wrap64 (x32+1)) x329000 x329001)))) else (none)) else (none)) else (impl_ValidGraph.l1 k x329000 (x329000.length:Int) 0 x329000 x329001)
def impl_ValidGraph.l1:Nat→List (S58)→Int→Int→List (S58)→Int→Option (Bool)
 | 0,_,_,_,_,_=>none
 | k+1,x48,x49,x50,x329000,x329001=>if x50<x49 then (if 0≤x50 then (if x50<(x48.length:Int) then ((impl_nodeOk.f k x329000 ((rd_T58 x48 x50).f0) ((rd_T58 x48 x50).f1) ((rd_T58 x48 x50).f2)).bind fun t334=>(if t334=true then (impl_ValidGraph.l1 k x48 x49 (wrap64 (x50+1)) x329000 x329001) else (some false))) else (none)) else (none)) else (impl_ValidGraph.l2 k (x329000.length:Int) 0 x329000 x329001)
def impl_ValidGraph.l2:Nat→Int→Int→List (S58)→Int→Option (Bool)
 | 0,_,_,_,_=>none
 | k+1,x62,x63,x329000,x329001=>if x63<x62 then (if 0≤x63 then (if x63<(x329000.length:Int) then (if ((rd_T58 x329000 x63).f0)=2 then ((impl_circles.f k x329000 x63).bind fun t336=>(if t336=true then (some false) else (impl_ValidGraph.l2 k x62 (wrap64 (x63+1)) x329000 x329001))) else (impl_ValidGraph.l2 k x62 (wrap64 (x63+1)) x329000 x329001)) else (none)) else (none)) else (some true)
end
def impl_ValidGraph.f (k:Nat) (l0_0:List (S58)) (a0_1:Int):Option (Bool):=if (l0_0.length:Int)<1 then (impl_ValidGraph.j0 k (l0_0.length:Int) true l0_0 a0_1) else (if (l0_0.length:Int)>12 then (impl_ValidGraph.j0 k (l0_0.length:Int) true l0_0 a0_1) else (if a0_1<0 then (impl_ValidGraph.j0 k (l0_0.length:Int) true l0_0 a0_1) else (impl_ValidGraph.j0 k (l0_0.length:Int) (decide (a0_1≥(l0_0.length:Int))) l0_0 a0_1)))
set_option maxRecDepth 100000 in
theorem impl_ValidGraph.mono_l:∀ k,(∀ y0 y1 y2 y3,LeO (impl_ValidGraph.j0 k y0 y1 y2 y3) (impl_ValidGraph.j0 (k+1) y0 y1 y2 y3))∧(∀ y0 y1 y2 y3 y4 y5,LeO (impl_ValidGraph.l0 k y0 y1 y2 y3 y4 y5) (impl_ValidGraph.l0 (k+1) y0 y1 y2 y3 y4 y5))∧(∀ y0 y1 y2 y3 y4,LeO (impl_ValidGraph.l1 k y0 y1 y2 y3 y4) (impl_ValidGraph.l1 (k+1) y0 y1 y2 y3 y4))∧(∀ y0 y1 y2 y3,LeO (impl_ValidGraph.l2 k y0 y1 y2 y3) (impl_ValidGraph.l2 (k+1) y0 y1 y2 y3))
 | 0=>⟨fun _ _ _ _ r h=>(by cases h),fun _ _ _ _ _ _ r h=>(by cases h),fun _ _ _ _ _ r h=>(by cases h),fun _ _ _ _ r h=>(by cases h)⟩
 | k+1=>by
  obtain ⟨ih0,ih1,ih2,ih3⟩:=impl_ValidGraph.mono_l k
  refine ⟨?_,?_,?_,?_⟩
  ·intro y0 y1 y2 y3
   unfold impl_ValidGraph.j0
   repeat' first
   | (with_reducible exact ih0 _ _ _ _)
   | (with_reducible exact ih1 _ _ _ _ _ _)
   | (with_reducible exact ih2 _ _ _ _ _)
   | (with_reducible exact ih3 _ _ _ _)
   | (with_reducible exact impl_circles.mono _ _ _)
   | (with_reducible exact impl_nodeOk.mono _ _ _ _ _)
   | (with_reducible exact LeO.refl _)
   | (with_reducible exact LeO.none _)
   | (with_reducible refine LeO.ite ?_ ?_)
   | (with_reducible refine LeO.bind ?_ (fun _=>?_))
   | exact ih0 _ _ _ _
   | exact ih1 _ _ _ _ _ _
   | exact ih2 _ _ _ _ _
   | exact ih3 _ _ _ _
   | exact impl_circles.mono _ _ _
   | exact impl_nodeOk.mono _ _ _ _ _
   | exact LeO.none _
   | refine LeO.ite ?_ ?_
   | refine LeO.bind ?_ (fun _=>?_)
  ·intro y0 y1 y2 y3 y4 y5
   unfold impl_ValidGraph.l0
   repeat' first
   | (with_reducible exact ih0 _ _ _ _)
   | (with_reducible exact ih1 _ _ _ _ _ _)
   | (with_reducible exact ih2 _ _ _ _ _)
   | (with_reducible exact ih3 _ _ _ _)
   | (with_reducible exact impl_circles.mono _ _ _)
   | (with_reducible exact impl_nodeOk.mono _ _ _ _ _)
   | (with_reducible exact LeO.refl _)
   | (with_reducible exact LeO.none _)
   | (with_reducible refine LeO.ite ?_ ?_)
   | (with_reducible refine LeO.bind ?_ (fun _=>?_))
   | exact ih0 _ _ _ _
   | exact ih1 _ _ _ _ _ _
   | exact ih2 _ _ _ _ _
   | exact ih3 _ _ _ _
   | exact impl_circles.mono _ _ _
   | exact impl_nodeOk.mono _ _ _ _ _
   | exact LeO.none _
   | refine LeO.ite ?_ ?_
   | refine LeO.bind ?_ (fun _=>?_)
  ·intro y0 y1 y2 y3 y4
   unfold impl_ValidGraph.l1
   repeat' first
   | (with_reducible exact ih0 _ _ _ _)
   | (with_reducible exact ih1 _ _ _ _ _ _)
   | (with_reducible exact ih2 _ _ _ _ _)
   | (with_reducible exact ih3 _ _ _ _)
   | (with_reducible exact impl_circles.mono _ _ _)
   | (with_reducible exact impl_nodeOk.mono _ _ _ _ _)
   | (with_reducible exact LeO.refl _)
   | (with_reducible exact LeO.none _)
   | (with_reducible refine LeO.ite ?_ ?_)
   | (with_reducible refine LeO.bind ?_ (fun _=>?_))
   | exact ih0 _ _ _ _
   | exact ih1 _ _ _ _ _ _
   | exact ih2 _ _ _ _ _
   | exact ih3 _ _ _ _
   | exact impl_circles.mono _ _ _
   | exact impl_nodeOk.mono _ _ _ _ _
   | exact LeO.none _
   | refine LeO.ite ?_ ?_
   | refine LeO.bind ?_ (fun _=>?_)
  ·intro y0 y1 y2 y3
   unfold impl_ValidGraph.l2
   repeat' first
   | (with_reducible exact ih0 _ _ _ _)
   | (with_reducible exact ih1 _ _ _ _ _ _)
   | (with_reducible exact ih2 _ _ _ _ _)
   | (with_reducible exact ih3 _ _ _ _)
   | (with_reducible exact impl_circles.mono _ _ _)
   | (with_reducible exact impl_nodeOk.mono _ _ _ _ _)
   | (with_reducible exact LeO.refl _)
   | (with_reducible exact LeO.none _)
   | (with_reducible refine LeO.ite ?_ ?_)
   | (with_reducible refine LeO.bind ?_ (fun _=>?_))
   | exact ih0 _ _ _ _
   | exact ih1 _ _ _ _ _ _
   | exact ih2 _ _ _ _ _
   | exact ih3 _ _ _ _
   | exact impl_circles.mono _ _ _
   | exact impl_nodeOk.mono _ _ _ _ _
   | exact LeO.none _
   | refine LeO.ite ?_ ?_
   | refine LeO.bind ?_ (fun _=>?_)
set_option maxRecDepth 100000 in
theorem impl_ValidGraph.mono:∀ a0 a1 k,LeO (impl_ValidGraph.f k a0 a1) (impl_ValidGraph.f (k+1) a0 a1):=by
 intro a0 a1 k
 obtain ⟨ih0,ih1,ih2,ih3⟩:=impl_ValidGraph.mono_l k
 unfold impl_ValidGraph.f
 repeat' first
   | (with_reducible exact ih0 _ _ _ _)
   | (with_reducible exact ih1 _ _ _ _ _ _)
   | (with_reducible exact ih2 _ _ _ _ _)
   | (with_reducible exact ih3 _ _ _ _)
   | (with_reducible exact impl_circles.mono _ _ _)
   | (with_reducible exact impl_nodeOk.mono _ _ _ _ _)
   | (with_reducible exact LeO.refl _)
   | (with_reducible exact LeO.none _)
   | (with_reducible refine LeO.ite ?_ ?_)
   | (with_reducible refine LeO.bind ?_ (fun _=>?_))
   | exact ih0 _ _ _ _
   | exact ih1 _ _ _ _ _ _
   | exact ih2 _ _ _ _ _
   | exact ih3 _ _ _ _
   | exact impl_circles.mono _ _ _
   | exact impl_nodeOk.mono _ _ _ _ _
   | exact LeO.none _
   | refine LeO.ite ?_ ?_
   | refine LeO.bind ?_ (fun _=>?_)
set_option maxHeartbeats 8000000 in
set_option maxRecDepth 100000 in
theorem impl_ValidGraph.calls (k:Nat) (A0_0:Option Addr) (c0_0:Nat) (l0_0:List (S58)) (a0_1:Int) (r:Bool) (w:World) (hr0_0:Kd.C k58 w A0_0 l0_0.length l0_0) (hc0_0:l0_0.length≤c0_0) (h:impl_ValidGraph.f k l0_0 a0_1=some r) :
  Calls Try.prog 37 #[.agg #[.slice A0_0 l0_0.length c0_0,.int .i64 a0_1]] w fun e w'=>e=.returned (.bool r)∧Below w.heap.size w w':=by
 have hu25:=Try.underlying25
 have hu58:=Try.underlying58
 have HR0_0:=As_ hr0_0
 have HC0_0:=As_ hc0_0
 clear hr0_0 hc0_0
 have HB:=As_ (Below.refl w.heap.size w)
 have H:(if (l0_0.length:Int)<1 then (impl_ValidGraph.j0 k (l0_0.length:Int) true l0_0 a0_1) else (if (l0_0.length:Int)>12 then (impl_ValidGraph.j0 k (l0_0.length:Int) true l0_0 a0_1) else (if a0_1<0 then (impl_ValidGraph.j0 k (l0_0.length:Int) true l0_0 a0_1) else (impl_ValidGraph.j0 k (l0_0.length:Int) (decide (a0_1≥(l0_0.length:Int))) l0_0 a0_1))))=some r:=h
 clear h
 have HC2:=As_ H
 clear H
 go_enter Try.func37,Try.ntmps37
 go_upto_region 2 with (first|((with_reducible refine gate_dst (N:=1) rfl ?_);refine box_event ?hg (N:=1) ?hd (cs:=#[.slice A0_0 l0_0.length c0_0,.int .i64 a0_1]) (t:=25) ?hr ?_;(case hd=>rfl);(case hg=>rfl);(case hr=>go_simp <;> rfl);intro gb328 hg w3 hbox hb;have n0_:=As_ (bwT (zb0 HB.out) hb);have n1_:=As_ (hbox);have n2_:=As_ ((by rw [hg];exact (bwZ (zb0 HB.out)):w.heap.size≤gb328));have n3_:=As_ ((by rw [hg];exact (bwZ (zb0 HB.out)):w.heap.size≤gb328));clear HB;revert n0_ n1_ n2_ n3_;intro HB BK328 GW328 GE328;clear hb hbox hg;obtain ⟨hcz4_0,hcz4_1,hfz4_0,hfz4_1⟩:=bk2 BK328.out)|((with_reducible refine gate_dst (N:=3) rfl ?_);refine box_event ?hg (N:=3) ?hd (cs:=#[.int .i64 0]) (t:=3) ?hr ?_;(case hd=>rfl);(case hg=>rfl);(case hr=>go_simp <;> rfl);intro gbn hg wn hbox hb;have n0_:=As_ (blk_below (g:=gb328) (o:=.cells #[.slice A0_0 l0_0.length c0_0,.int .i64 a0_1] 25 (0,0)) (BK328.out) hb);have n1_:=As_ (bwT (zb1 HB.out GE328.out) hb);have n2_:=As_ hbox;have n3_:=As_ ((by rw [hg];exact (bwZ (zb1 HB.out GE328.out))):w.heap.size≤gbn);have n4_:=As_ ((by rw [hg];exact Nat.ne_of_lt (blk_lt (g:=gb328) (o:=.cells #[.slice A0_0 l0_0.length c0_0,.int .i64 a0_1] 25 (0,0)) BK328.out)):gb328≠gbn);clear BK328 HB;revert n0_ n1_ n2_ n3_ n4_;intro BK328 HB BN GEn NBn;clear hb hbox hg;have hczm_0:wn.cell? ⟨gbn,0,none⟩=some (.int .i64 0):=(bkC BN.out 0).trans rfl;have hfzm_0:=bkF BN.out 0)|((with_reducible refine gate_store (t:=3) (p:=3) rfl ?_);refine store_event (t:=3) (p:=3) (v:=?vo_wn2) (w1:=(wn.setCell ⟨gbn,0,none⟩ (.int .i64 (l0_0.length:Int)))) ?hg ?ho ?hn ?hr ?_;(case ho=>rfl);(case hg=>rfl);(case hn=>rfl);(case hr=>go_simp <;> rfl);intro wn2 hw;have n0_:Aside0 (wn2.heap[gb328]?=some (.cells #[.slice A0_0 l0_0.length c0_0,.int .i64 a0_1] 25 (0,0))):=⟨(by rw [hw];exact blk_far BK328.out NBn.out _)⟩;have n1_:Aside0 (wn2.heap[gbn]?=some (.cells #[.int .i64 (l0_0.length:Int)] 3 (0,0))):=⟨(by rw [hw];refine blk_put (cs:=#[.int .i64 0]) ?_ 0 _ rfl;exact BN.out)⟩;have n2_:Aside0 (Below w.heap.size w wn2):=⟨(by rw [hw];exact bwS HB.out GEn.out)⟩;clear hw BK328 BN HB;revert n0_ n1_ n2_;intro BK328 BN HB))
 (try simp only [Act.put,List.setIfInBounds_toArray,List.set_cons_zero,List.set_cons_succ])
 go_cut [28] (fun v28 wc=>∃ (kq:Nat) (x28_1:Bool),v28=.bool x28_1∧Aside0 (impl_ValidGraph.j0 kq (l0_0.length:Int) x28_1 l0_0 a0_1=some r)∧Aside0 (kq≤k)∧Aside0 (wc.heap[gb328]?=some (.cells #[(.slice A0_0 l0_0.length c0_0),.int .i64 a0_1] 25 (0,0)))∧Aside0 (Below w.heap.size w wc)∧Aside0 (wc.heap[gbn]?=some (.cells #[.int .i64 (l0_0.length:Int)] 3 (0,0))))
 case first=>
  have H:=HC2.out
  clear HC2
  have hczn_0:wn2.cell? ⟨gbn,0,none⟩=some (.int .i64 (l0_0.length:Int)):=(bkC BN.out 0).trans rfl
  have hfzn_0:=bkF BN.out 0
  by_cases c5:(l0_0.length:Int)<1
  ·rw [if_pos c5] at H
   have c5b0:decide ((l0_0.length:Int)<1)=true:=deT c5
   have c5b1:decide (l0_0.length<1)=true:=deT (by omega)
   clear c5
   (first|rw [c5b0]|(simp only [i64_w,i32_w];rw [c5b0])|skip)
   have H':=As_ H
   clear H
   go_wp2
   go_meet
   case rel=>exact ⟨_,(true),zT_,H',⟨by first|omega|exact Nat.le_refl _⟩,⟨by (with_reducible repeat first|apply bkN|apply bkD|apply bkA);exact BK328.out⟩,⟨zb1 HB.out GE328.out⟩,BN⟩
  rw [if_neg c5] at H
  have c5b0:decide ((l0_0.length:Int)<1)=false:=deF c5
  have c5b1:decide (l0_0.length<1)=false:=deF (by omega)
  clear c5
  (first|rw [c5b0]|(simp only [i64_w,i32_w];rw [c5b0])|skip)
  by_cases c6:(l0_0.length:Int)>12
  ·rw [if_pos c6] at H
   have c6b0:decide (12<(l0_0.length:Int))=true:=deT c6
   have c6b1:decide (12<l0_0.length)=true:=deT (by omega)
   clear c6
   have H':=As_ H
   clear H
   go_wp2
   go_meet
   case rel=>exact ⟨_,(true),zT_,H',⟨by first|omega|exact Nat.le_refl _⟩,⟨by (with_reducible repeat first|apply bkN|apply bkD|apply bkA);exact BK328.out⟩,⟨zb1 HB.out GE328.out⟩,BN⟩
  rw [if_neg c6] at H
  have c6b0:decide (12<(l0_0.length:Int))=false:=deF c6
  have c6b1:decide (12<l0_0.length)=false:=deF (by omega)
  clear c6
  by_cases c7:a0_1<0
  ·rw [if_pos c7] at H
   have c7b0:decide (a0_1<0)=true:=deT c7
   clear c7
   have H':=As_ H
   clear H
   obtain ⟨hcz8_0,hcz8_1,hfz8_0,hfz8_1⟩:=bk2 BK328.out
   go_wp2
   go_meet
   case rel=>exact ⟨_,(true),zT_,H',⟨by first|omega|exact Nat.le_refl _⟩,⟨by (with_reducible repeat first|apply bkN|apply bkD|apply bkA);exact BK328.out⟩,⟨zb1 HB.out GE328.out⟩,BN⟩
  rw [if_neg c7] at H
  have c7b0:decide (a0_1<0)=false:=deF c7
  clear c7
  have H':=As_ H
  clear H
  obtain ⟨hcz9_0,hcz9_1,hfz9_0,hfz9_1⟩:=bk2 BK328.out
  go_wp2
  go_meet
  case rel=>exact ⟨_,(decide (a0_1≥(l0_0.length:Int))),zT_,H',⟨by first|omega|exact Nat.le_refl _⟩,⟨by (with_reducible repeat first|apply bkN|apply bkD|apply bkA);exact BK328.out⟩,⟨zb1 HB.out GE328.out⟩,BN⟩
 case rest=>
  clear HC2
  obtain ⟨kq,x28_1,rfl,HA,HJ1,BK328,HB,BN⟩:=hcut
  cases kq with
  | zero=>exact absurd HA.out (fun h_=>(by cases h_))
  | succ kj1=>
   have H:=HA.out
   clear HA
   simp only [impl_ValidGraph.j0] at H
   by_cases c10:x28_1=true
   ·subst c10
    have H1:(some false)=some r:=by rw [if_pos rfl] at H;exact H
    clear H
    have H:=H1
    clear H1
    obtain rfl:=Option.some.inj H
    go_wp2
    go_ret
    exact ⟨zE_,zb1 HB.out GE328.out⟩
   replace c10:=Bool.eq_false_iff.mpr c10
   subst c10
   have H1:(impl_ValidGraph.l0 kj1 (l0_0.length:Int) l0_0 (l0_0.length:Int) 0 l0_0 a0_1)=some r:=by rw [if_neg (show ¬ (false=true) by decide)] at H;exact H
   clear H
   have H:=H1
   clear H1
   have H':=As_ H
   clear H
   obtain ⟨hcz11_0,hcz11_1,hfz11_0,hfz11_1⟩:=bk2 BK328.out
   go_wp2
   go_loopg [32] kj1 (fun kq v32 w'=>∃ (x32_2:Int),v32=.int .i64 x32_2∧Aside0 (impl_ValidGraph.l0 kq (l0_0.length:Int) l0_0 (l0_0.length:Int) x32_2 l0_0 a0_1=some r)∧Aside0 (kq≤kj1)∧Aside0 (w'.heap[gb328]?=some (.cells #[(.slice A0_0 l0_0.length c0_0),.int .i64 a0_1] 25 (0,0)))∧Aside0 (Below w.heap.size w w')∧Aside0 (w'.heap[gbn]?=some (.cells #[.int .i64 (l0_0.length:Int)] 3 (0,0))))
   case atStart=>exact ⟨(0),zT_,H',⟨Nat.le_refl _⟩,⟨by (with_reducible repeat first|apply bkN|apply bkD|apply bkA);exact BK328.out⟩,⟨zb1 HB.out GE328.out⟩,BN⟩
   case round=>
    clear H'
    obtain ⟨x32_2,rfl,HA,HK2,BK328,HB,BN⟩:=hrel
    cases gk with
    | zero=>exact absurd HA.out (fun h_=>(by cases h_))
    | succ k2=>
     have H:=HA.out
     clear HA
     simp only [impl_ValidGraph.l0] at H
     by_cases c12:x32_2<(l0_0.length:Int)
     ·rw [if_pos c12] at H
      have c12b0:decide (x32_2<(l0_0.length:Int))=true:=deT c12
      clear c12
      by_cases c13:0≤x32_2
      rotate_left
      ·rw [if_neg c13] at H
       exact absurd H (by simp)
      rw [if_pos c13] at H
      have c13b0:decide (0≤x32_2)=true:=deT c13
      clear c13
      by_cases c14:x32_2<(l0_0.length:Int)
      rotate_left
      ·rw [if_neg c14] at H
       exact absurd H (by simp)
      rw [if_pos c14] at H
      have c14b0:decide (x32_2<(l0_0.length:Int))=true:=deT c14
      clear c14
      by_cases c15:(((rd_T58 l0_0 x32_2).f2).length:Int)>6
      ·rw [if_pos c15] at H
       have c15b0:decide (6<(((rd_T58 l0_0 x32_2).f2).length:Int))=true:=deT c15
       have c15b1:decide (6<((rd_T58 l0_0 x32_2).f2).length)=true:=deT (by omega)
       clear c15
       obtain rfl:=Option.some.inj H
       have p329:0≤(x32_2:Int):=odT zA_
       have q329:x32_2<(l0_0.length:Int):=odT zA_
       obtain ⟨ad329,A329_2,c329_2,e329,hx329_0,hx329_1,hx329_2,hl329_2,hi329_2⟩:=at_T58 HR0_0.out x32_2 p329 q329
       cases e329
       replace hx329_0:=bwC HB.out hx329_0
       replace hx329_1:=bwC HB.out hx329_1
       replace hx329_2:=bwC HB.out hx329_2
       have HR329_2:=As_ hi329_2
       have HC329_2:=As_ hl329_2
       clear hi329_2 hl329_2
       replace p329:=eq_true p329
       replace q329:=eq_true q329
       go_wp2_with (first|((with_reducible refine gate_dst (N:=5) rfl ?_);refine box_event ?hg (N:=5) ?hd (cs:=#[.int .i64 0,.int .i64 0,.slice none 0 0]) (t:=58) ?hr ?_;(case hd=>rfl);(case hg=>rfl);(case hr=>go_simp <;> rfl);intro gb330 hg w16 hbox hb;have b0_:=As_ (blk_below (g:=gbn) (o:=.cells #[.int .i64 (l0_0.length:Int)] 3 (0,0)) (zk_ BN.out) hb);have n0_:=As_ (zkb BK328.out hb);have n1_:=As_ (bwT (zb1 HB.out GE328.out) hb);have n2_:=As_ (hbox);have n3_:=As_ ((by rw [hg];exact (bwZ (zb1 HB.out GE328.out)):w.heap.size≤gb330));have n4_:=As_ ((by rw [hg];exact (bwZ (zb1 HB.out GE328.out)):w.heap.size≤gb330));have b1_:=As_ ((by rw [hg];exact Nat.ne_of_lt (blk_lt (g:=gbn) (o:=.cells #[.int .i64 (l0_0.length:Int)] 3 (0,0)) (zk_ BN.out))):gbn≠gb330);have n5_:=As_ ((by rw [hg];exact Nat.ne_of_lt (zkl BK328.out):gb328≠gb330));have n6_:=As_ ((by rw [hg];exact Nat.ne_of_gt (zkl BK328.out):gb330≠gb328));clear BN BK328 HB;have BK328:=n0_;have BN:=b0_;clear b0_;have NBn_330:=b1_;clear b1_;have HB:=n1_;have BK330:=n2_;have GW330:=n3_;have GE330:=n4_;have NB328_330:=n5_;have NB330_328:=n6_;clear n0_ n1_ n2_ n3_ n4_ n5_ n6_ hb hbox hg;have hnb17:=NB330_328.out;have hnc17:=NB328_330.out;obtain ⟨hcz18_0,hcz18_1,hcz18_2,hfz18_0,hfz18_1,hfz18_2⟩:=bk3 BK330.out))
       go_ret
       exact ⟨zE_,zb2 HB.out GE328.out GE330.out⟩
      rw [if_neg c15] at H
      have c15b0:decide (6<(((rd_T58 l0_0 x32_2).f2).length:Int))=false:=deF c15
      have c15b1:decide (6<((rd_T58 l0_0 x32_2).f2).length)=false:=deF (by omega)
      clear c15
      replace H:=obS H
      obtain ⟨t331,A190,H⟩:=H
      replace H:(if t331=true then (some false) else (impl_ValidGraph.l0 k2 (l0_0.length:Int) l0_0 (l0_0.length:Int) (wrap64 (x32_2+1)) l0_0 a0_1))=some r:=H
      have A19:=As_ A190
      clear A190
      by_cases c20:t331=true
      ·subst c20
       have H1:(some false)=some r:=by rw [if_pos rfl] at H;exact H
       clear H
       have H:=H1
       clear H1
       obtain rfl:=Option.some.inj H
       have p329:0≤(x32_2:Int):=odT zA_
       have q329:x32_2<(l0_0.length:Int):=odT zA_
       obtain ⟨ad329,A329_2,c329_2,e329,hx329_0,hx329_1,hx329_2,hl329_2,hi329_2⟩:=at_T58 HR0_0.out x32_2 p329 q329
       cases e329
       replace hx329_0:=bwC HB.out hx329_0
       replace hx329_1:=bwC HB.out hx329_1
       replace hx329_2:=bwC HB.out hx329_2
       have HR329_2:=As_ hi329_2
       have HC329_2:=As_ hl329_2
       clear hi329_2 hl329_2
       replace p329:=eq_true p329
       replace q329:=eq_true q329
       go_wp2_with (first|((with_reducible refine gate_dst (N:=5) rfl ?_);refine box_event ?hg (N:=5) ?hd (cs:=#[.int .i64 0,.int .i64 0,.slice none 0 0]) (t:=58) ?hr ?_;(case hd=>rfl);(case hg=>rfl);(case hr=>go_simp <;> rfl);intro gb330 hg w21 hbox hb;have b0_:=As_ (blk_below (g:=gbn) (o:=.cells #[.int .i64 (l0_0.length:Int)] 3 (0,0)) (zk_ BN.out) hb);have n0_:=As_ (zkb BK328.out hb);have n1_:=As_ (bwT (zb1 HB.out GE328.out) hb);have n2_:=As_ (hbox);have n3_:=As_ ((by rw [hg];exact (bwZ (zb1 HB.out GE328.out)):w.heap.size≤gb330));have n4_:=As_ ((by rw [hg];exact (bwZ (zb1 HB.out GE328.out)):w.heap.size≤gb330));have b1_:=As_ ((by rw [hg];exact Nat.ne_of_lt (blk_lt (g:=gbn) (o:=.cells #[.int .i64 (l0_0.length:Int)] 3 (0,0)) (zk_ BN.out))):gbn≠gb330);have n5_:=As_ ((by rw [hg];exact Nat.ne_of_lt (zkl BK328.out):gb328≠gb330));have n6_:=As_ ((by rw [hg];exact Nat.ne_of_gt (zkl BK328.out):gb330≠gb328));clear BN BK328 HB;have BK328:=n0_;have BN:=b0_;clear b0_;have NBn_330:=b1_;clear b1_;have HB:=n1_;have BK330:=n2_;have GW330:=n3_;have GE330:=n4_;have NB328_330:=n5_;have NB330_328:=n6_;clear n0_ n1_ n2_ n3_ n4_ n5_ n6_ hb hbox hg;have hnb22:=NB330_328.out;have hnc22:=NB328_330.out;obtain ⟨hcz23_0,hcz23_1,hcz23_2,hfz23_0,hfz23_1,hfz23_2⟩:=bk3 BK330.out)|(go_at_call 69;(with_reducible refine (slices_ContainsFunc_int_int.calls _ _ ((rd_T58 l0_0 x32_2).f2) (l0_0.length:Int) true _ ?side1 ?side2 A19.out (by (with_reducible repeat first|apply bkN|apply bkD|apply bkA);refine blk_far ?_ NBn_330.out _;(with_reducible repeat first|apply bkN|apply bkD|apply bkA);refine blk_far ?_ NBn_330.out _;(with_reducible repeat first|apply bkN|apply bkD|apply bkA);refine blk_far ?_ NBn_330.out _;(with_reducible repeat first|apply bkN|apply bkD|apply bkA);exact BN.out)).mono ?_);(case side1=>exact Kd.C_below HR329_2.out (zb2 HB.out GE328.out GE330.out));(case side2=>exact HC329_2.out);rintro e w24 ⟨rfl,hb⟩;have b0_:=As_ (blk_below (g:=gbn) (o:=.cells #[.int .i64 (l0_0.length:Int)] 3 (0,0)) (by (with_reducible repeat first|apply bkN|apply bkD|apply bkA);refine blk_far ?_ NBn_330.out _;(with_reducible repeat first|apply bkN|apply bkD|apply bkA);refine blk_far ?_ NBn_330.out _;(with_reducible repeat first|apply bkN|apply bkD|apply bkA);refine blk_far ?_ NBn_330.out _;(with_reducible repeat first|apply bkN|apply bkD|apply bkA);exact BN.out) hb);have n0_:=As_ (blk_below (g:=gb328) (o:=.cells #[.slice (some ad329) l0_0.length c0_0,.int .i64 a0_1] 25 (0,0)) (by (with_reducible repeat first|apply bkN|apply bkD|apply bkA);refine blk_far ?_ NB328_330.out _;(with_reducible repeat first|apply bkN|apply bkD|apply bkA);refine blk_far ?_ NB328_330.out _;(with_reducible repeat first|apply bkN|apply bkD|apply bkA);refine blk_far ?_ NB328_330.out _;(with_reducible repeat first|apply bkN|apply bkD|apply bkA);exact BK328.out) hb);have n1_:=As_ (blk_below (g:=gb330) (o:=.cells #[.int .i64 ((rd_T58 l0_0 x32_2).f0),.int .i64 ((rd_T58 l0_0 x32_2).f1),.slice A329_2 ((rd_T58 l0_0 x32_2).f2).length c329_2] 58 (0,0)) (by (with_reducible repeat first|apply bkN|apply bkD|apply bkA);refine blk_put (cs:=#[.int .i64 ((rd_T58 l0_0 x32_2).f0),.int .i64 ((rd_T58 l0_0 x32_2).f1),.slice none 0 0]) ?_ 2 _ rfl;(with_reducible repeat first|apply bkN|apply bkD|apply bkA);refine blk_put (cs:=#[.int .i64 ((rd_T58 l0_0 x32_2).f0),.int .i64 0,.slice none 0 0]) ?_ 1 _ rfl;(with_reducible repeat first|apply bkN|apply bkD|apply bkA);refine blk_put (cs:=#[.int .i64 0,.int .i64 0,.slice none 0 0]) ?_ 0 _ rfl;(with_reducible repeat first|apply bkN|apply bkD|apply bkA);exact BK330.out) hb);have n2_:=As_ (bwT (zb2 HB.out GE328.out GE330.out) hb);clear BN BK328 BK330 HB;have BK328:=n0_;have BN:=b0_;clear b0_;have BK330:=n1_;have HB:=n2_;clear n0_ n1_ n2_))
       go_ret
       exact ⟨zE_,zb2 HB.out GE328.out GE330.out⟩
      replace c20:=Bool.eq_false_iff.mpr c20
      subst c20
      have H1:(impl_ValidGraph.l0 k2 (l0_0.length:Int) l0_0 (l0_0.length:Int) (wrap64 (x32_2+1)) l0_0 a0_1)=some r:=by rw [if_neg (show ¬ (false=true) by decide)] at H;exact H
      clear H
      have H:=H1
      clear H1
      have H':=As_ H
      clear H
      have p329:0≤(x32_2:Int):=odT zA_
      have q329:x32_2<(l0_0.length:Int):=odT zA_
      obtain ⟨ad329,A329_2,c329_2,e329,hx329_0,hx329_1,hx329_2,hl329_2,hi329_2⟩:=at_T58 HR0_0.out x32_2 p329 q329
      cases e329
      replace hx329_0:=bwC HB.out hx329_0
      replace hx329_1:=bwC HB.out hx329_1
      replace hx329_2:=bwC HB.out hx329_2
      have HR329_2:=As_ hi329_2
      have HC329_2:=As_ hl329_2
      clear hi329_2 hl329_2
      replace p329:=eq_true p329
      replace q329:=eq_true q329
      go_wp2_with (first|((with_reducible refine gate_dst (N:=5) rfl ?_);refine box_event ?hg (N:=5) ?hd (cs:=#[.int .i64 0,.int .i64 0,.slice none 0 0]) (t:=58) ?hr ?_;(case hd=>rfl);(case hg=>rfl);(case hr=>go_simp <;> rfl);intro gb330 hg w25 hbox hb;have b0_:=As_ (blk_below (g:=gbn) (o:=.cells #[.int .i64 (l0_0.length:Int)] 3 (0,0)) (zk_ BN.out) hb);have n0_:=As_ (zkb BK328.out hb);have n1_:=As_ (bwT (zb1 HB.out GE328.out) hb);have n2_:=As_ (hbox);have n3_:=As_ ((by rw [hg];exact (bwZ (zb1 HB.out GE328.out)):w.heap.size≤gb330));have n4_:=As_ ((by rw [hg];exact (bwZ (zb1 HB.out GE328.out)):w.heap.size≤gb330));have b1_:=As_ ((by rw [hg];exact Nat.ne_of_lt (blk_lt (g:=gbn) (o:=.cells #[.int .i64 (l0_0.length:Int)] 3 (0,0)) (zk_ BN.out))):gbn≠gb330);have n5_:=As_ ((by rw [hg];exact Nat.ne_of_lt (zkl BK328.out):gb328≠gb330));have n6_:=As_ ((by rw [hg];exact Nat.ne_of_gt (zkl BK328.out):gb330≠gb328));clear BN BK328 HB;have BK328:=n0_;have BN:=b0_;clear b0_;have NBn_330:=b1_;clear b1_;have HB:=n1_;have BK330:=n2_;have GW330:=n3_;have GE330:=n4_;have NB328_330:=n5_;have NB330_328:=n6_;clear n0_ n1_ n2_ n3_ n4_ n5_ n6_ hb hbox hg;have hnb26:=NB330_328.out;have hnc26:=NB328_330.out;obtain ⟨hcz27_0,hcz27_1,hcz27_2,hfz27_0,hfz27_1,hfz27_2⟩:=bk3 BK330.out)|(go_at_call 69;(with_reducible refine (slices_ContainsFunc_int_int.calls _ _ ((rd_T58 l0_0 x32_2).f2) (l0_0.length:Int) false _ ?side1 ?side2 A19.out (by (with_reducible repeat first|apply bkN|apply bkD|apply bkA);refine blk_far ?_ NBn_330.out _;(with_reducible repeat first|apply bkN|apply bkD|apply bkA);refine blk_far ?_ NBn_330.out _;(with_reducible repeat first|apply bkN|apply bkD|apply bkA);refine blk_far ?_ NBn_330.out _;(with_reducible repeat first|apply bkN|apply bkD|apply bkA);exact BN.out)).mono ?_);(case side1=>exact Kd.C_below HR329_2.out (zb2 HB.out GE328.out GE330.out));(case side2=>exact HC329_2.out);rintro e w28 ⟨rfl,hb⟩;have b0_:=As_ (blk_below (g:=gbn) (o:=.cells #[.int .i64 (l0_0.length:Int)] 3 (0,0)) (by (with_reducible repeat first|apply bkN|apply bkD|apply bkA);refine blk_far ?_ NBn_330.out _;(with_reducible repeat first|apply bkN|apply bkD|apply bkA);refine blk_far ?_ NBn_330.out _;(with_reducible repeat first|apply bkN|apply bkD|apply bkA);refine blk_far ?_ NBn_330.out _;(with_reducible repeat first|apply bkN|apply bkD|apply bkA);exact BN.out) hb);have n0_:=As_ (blk_below (g:=gb328) (o:=.cells #[.slice (some ad329) l0_0.length c0_0,.int .i64 a0_1] 25 (0,0)) (by (with_reducible repeat first|apply bkN|apply bkD|apply bkA);refine blk_far ?_ NB328_330.out _;(with_reducible repeat first|apply bkN|apply bkD|apply bkA);refine blk_far ?_ NB328_330.out _;(with_reducible repeat first|apply bkN|apply bkD|apply bkA);refine blk_far ?_ NB328_330.out _;(with_reducible repeat first|apply bkN|apply bkD|apply bkA);exact BK328.out) hb);have n1_:=As_ (blk_below (g:=gb330) (o:=.cells #[.int .i64 ((rd_T58 l0_0 x32_2).f0),.int .i64 ((rd_T58 l0_0 x32_2).f1),.slice A329_2 ((rd_T58 l0_0 x32_2).f2).length c329_2] 58 (0,0)) (by (with_reducible repeat first|apply bkN|apply bkD|apply bkA);refine blk_put (cs:=#[.int .i64 ((rd_T58 l0_0 x32_2).f0),.int .i64 ((rd_T58 l0_0 x32_2).f1),.slice none 0 0]) ?_ 2 _ rfl;(with_reducible repeat first|apply bkN|apply bkD|apply bkA);refine blk_put (cs:=#[.int .i64 ((rd_T58 l0_0 x32_2).f0),.int .i64 0,.slice none 0 0]) ?_ 1 _ rfl;(with_reducible repeat first|apply bkN|apply bkD|apply bkA);refine blk_put (cs:=#[.int .i64 0,.int .i64 0,.slice none 0 0]) ?_ 0 _ rfl;(with_reducible repeat first|apply bkN|apply bkD|apply bkA);exact BK330.out) hb);have n2_:=As_ (bwT (zb2 HB.out GE328.out GE330.out) hb);clear BN BK328 BK330 HB;have BK328:=n0_;have BN:=b0_;clear b0_;have BK330:=n1_;have HB:=n2_;clear n0_ n1_ n2_))
      go_roundg k2
      case measure=>have:=HJ1.out;have:=HK2.out;omega
      case rel=>exact ⟨(wrap64 (x32_2+1)),zT_,H',⟨by have:=HJ1.out;have:=HK2.out;omega⟩,⟨by (with_reducible repeat first|apply bkN|apply bkD|apply bkA);exact BK328.out⟩,⟨zb2 HB.out GE328.out GE330.out⟩,BN⟩
     rw [if_neg c12] at H
     have c12b0:decide (x32_2<(l0_0.length:Int))=false:=deF c12
     clear c12
     have H':=As_ H
     clear H
     obtain ⟨hcz29_0,hcz29_1,hfz29_0,hfz29_1⟩:=bk2 BK328.out
     go_wp2
     go_loopg [50] k2 (fun kq v50 w'=>∃ (x50_3:Int),v50=.int .i64 x50_3∧Aside0 (impl_ValidGraph.l1 kq l0_0 (l0_0.length:Int) x50_3 l0_0 a0_1=some r)∧Aside0 (kq≤k2)∧Aside0 (w'.heap[gb328]?=some (.cells #[(.slice A0_0 l0_0.length c0_0),.int .i64 a0_1] 25 (0,0)))∧Aside0 (Below w.heap.size w w'))
     case atStart=>exact ⟨(0),zT_,H',⟨Nat.le_refl _⟩,⟨by (with_reducible repeat first|apply bkN|apply bkD|apply bkA);exact BK328.out⟩,⟨zb1 HB.out GE328.out⟩⟩
     case round=>
      clear H'
      obtain ⟨x50_3,rfl,HA,HK3,BK328,HB⟩:=hrel
      cases gk with
      | zero=>exact absurd HA.out (fun h_=>(by cases h_))
      | succ k3=>
       have H:=HA.out
       clear HA
       simp only [impl_ValidGraph.l1] at H
       by_cases c30:x50_3<(l0_0.length:Int)
       ·rw [if_pos c30] at H
        have c30b0:decide (x50_3<(l0_0.length:Int))=true:=deT c30
        clear c30
        by_cases c31:0≤x50_3
        rotate_left
        ·rw [if_neg c31] at H
         exact absurd H (by simp)
        rw [if_pos c31] at H
        have c31b0:decide (0≤x50_3)=true:=deT c31
        clear c31
        by_cases c32:x50_3<(l0_0.length:Int)
        rotate_left
        ·rw [if_neg c32] at H
         exact absurd H (by simp)
        rw [if_pos c32] at H
        have c32b0:decide (x50_3<(l0_0.length:Int))=true:=deT c32
        clear c32
        replace H:=obS H
        obtain ⟨t334,A330,H⟩:=H
        replace H:(if t334=true then (impl_ValidGraph.l1 k3 l0_0 (l0_0.length:Int) (wrap64 (x50_3+1)) l0_0 a0_1) else (some false))=some r:=H
        have A33:=As_ A330
        clear A330
        by_cases c34:t334=true
        rotate_left
        ·replace c34:=Bool.eq_false_iff.mpr c34
         subst c34
         have H1:(some false)=some r:=by rw [if_neg (show ¬ (false=true) by decide)] at H;exact H
         clear H
         have H:=H1
         clear H1
         obtain rfl:=Option.some.inj H
         have p332:0≤(x50_3:Int):=odT zA_
         have q332:x50_3<(l0_0.length:Int):=odT zA_
         obtain ⟨ad332,A332_2,c332_2,e332,hx332_0,hx332_1,hx332_2,hl332_2,hi332_2⟩:=at_T58 HR0_0.out x50_3 p332 q332
         cases e332
         replace hx332_0:=bwC HB.out hx332_0
         replace hx332_1:=bwC HB.out hx332_1
         replace hx332_2:=bwC HB.out hx332_2
         have HR332_2:=As_ hi332_2
         have HC332_2:=As_ hl332_2
         clear hi332_2 hl332_2
         replace p332:=eq_true p332
         replace q332:=eq_true q332
         go_wp2_with (first|((with_reducible refine gate_dst (N:=7) rfl ?_);refine box_event ?hg (N:=7) ?hd (cs:=#[.int .i64 0,.int .i64 0,.slice none 0 0]) (t:=58) ?hr ?_;(case hd=>rfl);(case hg=>rfl);(case hr=>go_simp <;> rfl);intro gb333 hg w40 hbox hb;have n0_:=As_ (zkb BK328.out hb);have n1_:=As_ (bwT (zb1 HB.out GE328.out) hb);have n2_:=As_ (hbox);have n3_:=As_ ((by rw [hg];exact (bwZ (zb1 HB.out GE328.out)):w.heap.size≤gb333));have n4_:=As_ ((by rw [hg];exact (bwZ (zb1 HB.out GE328.out)):w.heap.size≤gb333));have n5_:=As_ ((by rw [hg];exact Nat.ne_of_lt (zkl BK328.out):gb328≠gb333));have n6_:=As_ ((by rw [hg];exact Nat.ne_of_gt (zkl BK328.out):gb333≠gb328));clear BK328 HB;revert n0_ n1_ n2_ n3_ n4_ n5_ n6_;intro BK328 HB BK333 GW333 GE333 NB328_333 NB333_328;clear hb hbox hg;have hnb41:=NB333_328.out;have hnc41:=NB328_333.out;obtain ⟨hcz42_0,hcz42_1,hcz42_2,hfz42_0,hfz42_1,hfz42_2⟩:=bk3 BK333.out;obtain ⟨hcz43_0,hcz43_1,hfz43_0,hfz43_1⟩:=bk2 BK328.out)|((with_reducible refine gate_callee (f:=71) rfl ?_);refine goesL_ (some 57) rfl rfl Try.func71 (by kernel_rfl) rfl #[.slice (some ad332) l0_0.length c0_0,.agg #[.int .i64 ((rd_T58 l0_0 x50_3).f0),.int .i64 ((rd_T58 l0_0 x50_3).f1),.slice A332_2 ((rd_T58 l0_0 x50_3).f2).length c332_2]] rfl zM_ ?_;(with_reducible refine (impl_nodeOk.calls k3 _ _ l0_0 ((rd_T58 l0_0 x50_3).f0) ((rd_T58 l0_0 x50_3).f1) _ _ ((rd_T58 l0_0 x50_3).f2) false _ ?side1 ?side2 ?side3 ?side4 A33.out).mono ?_);(case side1=>exact Kd.C_below HR0_0.out (zb2 HB.out GE328.out GE333.out));(case side2=>exact HC0_0.out);(case side3=>exact Kd.C_below HR332_2.out (zb2 HB.out GE328.out GE333.out));(case side4=>exact HC332_2.out);rintro e w44 ⟨rfl,hb⟩;refine ⟨_,rfl,?_⟩;have n0_:=As_ (blk_below (g:=gb328) (o:=.cells #[.slice (some ad332) l0_0.length c0_0,.int .i64 a0_1] 25 (0,0)) (by (with_reducible repeat first|apply bkN|apply bkD|apply bkA);refine blk_far ?_ NB328_333.out _;(with_reducible repeat first|apply bkN|apply bkD|apply bkA);refine blk_far ?_ NB328_333.out _;(with_reducible repeat first|apply bkN|apply bkD|apply bkA);refine blk_far ?_ NB328_333.out _;(with_reducible repeat first|apply bkN|apply bkD|apply bkA);exact BK328.out) hb);have n1_:=As_ (blk_below (g:=gb333) (o:=.cells #[.int .i64 ((rd_T58 l0_0 x50_3).f0),.int .i64 ((rd_T58 l0_0 x50_3).f1),.slice A332_2 ((rd_T58 l0_0 x50_3).f2).length c332_2] 58 (0,0)) (by (with_reducible repeat first|apply bkN|apply bkD|apply bkA);refine blk_put (cs:=#[.int .i64 ((rd_T58 l0_0 x50_3).f0),.int .i64 ((rd_T58 l0_0 x50_3).f1),.slice none 0 0]) ?_ 2 _ rfl;(with_reducible repeat first|apply bkN|apply bkD|apply bkA);refine blk_put (cs:=#[.int .i64 ((rd_T58 l0_0 x50_3).f0),.int .i64 0,.slice none 0 0]) ?_ 1 _ rfl;(with_reducible repeat first|apply bkN|apply bkD|apply bkA);refine blk_put (cs:=#[.int .i64 0,.int .i64 0,.slice none 0 0]) ?_ 0 _ rfl;(with_reducible repeat first|apply bkN|apply bkD|apply bkA);exact BK333.out) hb);have n2_:=As_ (bwT (zb2 HB.out GE328.out GE333.out) hb);clear BK328 BK333 HB;revert n0_ n1_ n2_;intro BK328 BK333 HB))
         go_ret
         exact ⟨zE_,zb2 HB.out GE328.out GE333.out⟩
        subst c34
        have H1:(impl_ValidGraph.l1 k3 l0_0 (l0_0.length:Int) (wrap64 (x50_3+1)) l0_0 a0_1)=some r:=by rw [if_pos rfl] at H;exact H
        clear H
        have H:=H1
        clear H1
        have H':=As_ H
        clear H
        have p332:0≤(x50_3:Int):=odT zA_
        have q332:x50_3<(l0_0.length:Int):=odT zA_
        obtain ⟨ad332,A332_2,c332_2,e332,hx332_0,hx332_1,hx332_2,hl332_2,hi332_2⟩:=at_T58 HR0_0.out x50_3 p332 q332
        cases e332
        replace hx332_0:=bwC HB.out hx332_0
        replace hx332_1:=bwC HB.out hx332_1
        replace hx332_2:=bwC HB.out hx332_2
        have HR332_2:=As_ hi332_2
        have HC332_2:=As_ hl332_2
        clear hi332_2 hl332_2
        replace p332:=eq_true p332
        replace q332:=eq_true q332
        go_wp2_with (first|((with_reducible refine gate_dst (N:=7) rfl ?_);refine box_event ?hg (N:=7) ?hd (cs:=#[.int .i64 0,.int .i64 0,.slice none 0 0]) (t:=58) ?hr ?_;(case hd=>rfl);(case hg=>rfl);(case hr=>go_simp <;> rfl);intro gb333 hg w35 hbox hb;have n0_:=As_ (zkb BK328.out hb);have n1_:=As_ (bwT (zb1 HB.out GE328.out) hb);have n2_:=As_ (hbox);have n3_:=As_ ((by rw [hg];exact (bwZ (zb1 HB.out GE328.out)):w.heap.size≤gb333));have n4_:=As_ ((by rw [hg];exact (bwZ (zb1 HB.out GE328.out)):w.heap.size≤gb333));have n5_:=As_ ((by rw [hg];exact Nat.ne_of_lt (zkl BK328.out):gb328≠gb333));have n6_:=As_ ((by rw [hg];exact Nat.ne_of_gt (zkl BK328.out):gb333≠gb328));clear BK328 HB;revert n0_ n1_ n2_ n3_ n4_ n5_ n6_;intro BK328 HB BK333 GW333 GE333 NB328_333 NB333_328;clear hb hbox hg;have hnb36:=NB333_328.out;have hnc36:=NB328_333.out;obtain ⟨hcz37_0,hcz37_1,hcz37_2,hfz37_0,hfz37_1,hfz37_2⟩:=bk3 BK333.out;obtain ⟨hcz38_0,hcz38_1,hfz38_0,hfz38_1⟩:=bk2 BK328.out)|((with_reducible refine gate_callee (f:=71) rfl ?_);refine goesL_ (some 57) rfl rfl Try.func71 (by kernel_rfl) rfl #[.slice (some ad332) l0_0.length c0_0,.agg #[.int .i64 ((rd_T58 l0_0 x50_3).f0),.int .i64 ((rd_T58 l0_0 x50_3).f1),.slice A332_2 ((rd_T58 l0_0 x50_3).f2).length c332_2]] rfl zM_ ?_;(with_reducible refine (impl_nodeOk.calls k3 _ _ l0_0 ((rd_T58 l0_0 x50_3).f0) ((rd_T58 l0_0 x50_3).f1) _ _ ((rd_T58 l0_0 x50_3).f2) true _ ?side1 ?side2 ?side3 ?side4 A33.out).mono ?_);(case side1=>exact Kd.C_below HR0_0.out (zb2 HB.out GE328.out GE333.out));(case side2=>exact HC0_0.out);(case side3=>exact Kd.C_below HR332_2.out (zb2 HB.out GE328.out GE333.out));(case side4=>exact HC332_2.out);rintro e w39 ⟨rfl,hb⟩;refine ⟨_,rfl,?_⟩;have n0_:=As_ (blk_below (g:=gb328) (o:=.cells #[.slice (some ad332) l0_0.length c0_0,.int .i64 a0_1] 25 (0,0)) (by (with_reducible repeat first|apply bkN|apply bkD|apply bkA);refine blk_far ?_ NB328_333.out _;(with_reducible repeat first|apply bkN|apply bkD|apply bkA);refine blk_far ?_ NB328_333.out _;(with_reducible repeat first|apply bkN|apply bkD|apply bkA);refine blk_far ?_ NB328_333.out _;(with_reducible repeat first|apply bkN|apply bkD|apply bkA);exact BK328.out) hb);have n1_:=As_ (blk_below (g:=gb333) (o:=.cells #[.int .i64 ((rd_T58 l0_0 x50_3).f0),.int .i64 ((rd_T58 l0_0 x50_3).f1),.slice A332_2 ((rd_T58 l0_0 x50_3).f2).length c332_2] 58 (0,0)) (by (with_reducible repeat first|apply bkN|apply bkD|apply bkA);refine blk_put (cs:=#[.int .i64 ((rd_T58 l0_0 x50_3).f0),.int .i64 ((rd_T58 l0_0 x50_3).f1),.slice none 0 0]) ?_ 2 _ rfl;(with_reducible repeat first|apply bkN|apply bkD|apply bkA);refine blk_put (cs:=#[.int .i64 ((rd_T58 l0_0 x50_3).f0),.int .i64 0,.slice none 0 0]) ?_ 1 _ rfl;(with_reducible repeat first|apply bkN|apply bkD|apply bkA);refine blk_put (cs:=#[.int .i64 0,.int .i64 0,.slice none 0 0]) ?_ 0 _ rfl;(with_reducible repeat first|apply bkN|apply bkD|apply bkA);exact BK333.out) hb);have n2_:=As_ (bwT (zb2 HB.out GE328.out GE333.out) hb);clear BK328 BK333 HB;revert n0_ n1_ n2_;intro BK328 BK333 HB))
        go_roundg k3
        case measure=>have:=HJ1.out;have:=HK2.out;have:=HK3.out;omega
        case rel=>exact ⟨(wrap64 (x50_3+1)),zT_,H',⟨by have:=HJ1.out;have:=HK2.out;have:=HK3.out;omega⟩,⟨by (with_reducible repeat first|apply bkN|apply bkD|apply bkA);exact BK328.out⟩,⟨zb2 HB.out GE328.out GE333.out⟩⟩
       rw [if_neg c30] at H
       have c30b0:decide (x50_3<(l0_0.length:Int))=false:=deF c30
       clear c30
       have H':=As_ H
       clear H
       obtain ⟨hcz45_0,hcz45_1,hfz45_0,hfz45_1⟩:=bk2 BK328.out
       go_wp2
       go_loopg [63] k3 (fun kq v63 w'=>∃ (x63_4:Int),v63=.int .i64 x63_4∧Aside0 (impl_ValidGraph.l2 kq (l0_0.length:Int) x63_4 l0_0 a0_1=some r)∧Aside0 (kq≤k3)∧Aside0 (w'.heap[gb328]?=some (.cells #[(.slice A0_0 l0_0.length c0_0),.int .i64 a0_1] 25 (0,0)))∧Aside0 (Below w.heap.size w w'))
       case atStart=>exact ⟨(0),zT_,H',⟨Nat.le_refl _⟩,⟨by (with_reducible repeat first|apply bkN|apply bkD|apply bkA);exact BK328.out⟩,⟨zb1 HB.out GE328.out⟩⟩
       case round=>
        clear H'
        obtain ⟨x63_4,rfl,HA,HK4,BK328,HB⟩:=hrel
        cases gk with
        | zero=>exact absurd HA.out (fun h_=>(by cases h_))
        | succ k4=>
         have H:=HA.out
         clear HA
         simp only [impl_ValidGraph.l2] at H
         by_cases c46:x63_4<(l0_0.length:Int)
         rotate_left
         ·rw [if_neg c46] at H
          have c46b0:decide (x63_4<(l0_0.length:Int))=false:=deF c46
          clear c46
          obtain rfl:=Option.some.inj H
          go_wp2
          go_ret
          exact ⟨zE_,zb1 HB.out GE328.out⟩
         rw [if_pos c46] at H
         have c46b0:decide (x63_4<(l0_0.length:Int))=true:=deT c46
         clear c46
         by_cases c47:0≤x63_4
         rotate_left
         ·rw [if_neg c47] at H
          exact absurd H (by simp)
         rw [if_pos c47] at H
         have c47b0:decide (0≤x63_4)=true:=deT c47
         clear c47
         by_cases c48:x63_4<(l0_0.length:Int)
         rotate_left
         ·rw [if_neg c48] at H
          exact absurd H (by simp)
         rw [if_pos c48] at H
         have c48b0:decide (x63_4<(l0_0.length:Int))=true:=deT c48
         clear c48
         by_cases c49:((rd_T58 l0_0 x63_4).f0)=2
         rotate_left
         ·rw [if_neg c49] at H
          have c49b0:(((rd_T58 l0_0 x63_4).f0) == 2)=false:=beq_eq_false_iff_ne.mpr c49
          have c49b1:(((rd_T58 l0_0 x63_4).f0) != 2)=true:=bne_iff_ne.mpr c49
          have H':=As_ H
          clear H
          obtain ⟨hcz56_0,hcz56_1,hfz56_0,hfz56_1⟩:=bk2 BK328.out
          have p335:0≤(x63_4:Int):=odT zA_
          have q335:x63_4<(l0_0.length:Int):=odT zA_
          obtain ⟨ad335,A335_2,c335_2,e335,hx335_0,hx335_1,hx335_2,hl335_2,hi335_2⟩:=at_T58 HR0_0.out x63_4 p335 q335
          cases e335
          replace hx335_0:=bwC HB.out hx335_0
          replace hx335_1:=bwC HB.out hx335_1
          replace hx335_2:=bwC HB.out hx335_2
          have HR335_2:=As_ hi335_2
          have HC335_2:=As_ hl335_2
          clear hi335_2 hl335_2
          replace p335:=eq_true p335
          replace q335:=eq_true q335
          go_wp2
          go_roundg k4
          case measure=>have:=HJ1.out;have:=HK2.out;have:=HK3.out;have:=HK4.out;omega
          case rel=>exact ⟨(wrap64 (x63_4+1)),zT_,H',⟨by have:=HJ1.out;have:=HK2.out;have:=HK3.out;have:=HK4.out;omega⟩,⟨by (with_reducible repeat first|apply bkN|apply bkD|apply bkA);exact BK328.out⟩,⟨zb1 HB.out GE328.out⟩⟩
         rw [if_pos c49] at H
         have c49b0:(((rd_T58 l0_0 x63_4).f0) == 2)=true:=beq_iff_eq.mpr c49
         have c49b1:(((rd_T58 l0_0 x63_4).f0) != 2)=false:=bne_eq_false_iff_eq.mpr c49
         clear c49
         replace H:=obS H
         obtain ⟨t336,A500,H⟩:=H
         replace H:(if t336=true then (some false) else (impl_ValidGraph.l2 k4 (l0_0.length:Int) (wrap64 (x63_4+1)) l0_0 a0_1))=some r:=H
         have A50:=As_ A500
         clear A500
         by_cases c51:t336=true
         ·subst c51
          have H1:(some false)=some r:=by rw [if_pos rfl] at H;exact H
          clear H
          have H:=H1
          clear H1
          obtain rfl:=Option.some.inj H
          obtain ⟨hcz52_0,hcz52_1,hfz52_0,hfz52_1⟩:=bk2 BK328.out
          have p335:0≤(x63_4:Int):=odT zA_
          have q335:x63_4<(l0_0.length:Int):=odT zA_
          obtain ⟨ad335,A335_2,c335_2,e335,hx335_0,hx335_1,hx335_2,hl335_2,hi335_2⟩:=at_T58 HR0_0.out x63_4 p335 q335
          cases e335
          replace hx335_0:=bwC HB.out hx335_0
          replace hx335_1:=bwC HB.out hx335_1
          replace hx335_2:=bwC HB.out hx335_2
          have HR335_2:=As_ hi335_2
          have HC335_2:=As_ hl335_2
          clear hi335_2 hl335_2
          replace p335:=eq_true p335
          replace q335:=eq_true q335
          go_wp2_with (first|(go_at_call 72;(with_reducible refine (impl_circles.calls k4 _ _ l0_0 x63_4 true _ ?side1 ?side2 A50.out).mono ?_);(case side1=>exact zC_ (Kd.C_below HR0_0.out HB.out));(case side2=>exact HC0_0.out);rintro e w53 ⟨rfl,hb⟩;have n0_:=As_ (zkb BK328.out hb);have n1_:=As_ (bwT (zb1 HB.out GE328.out) hb);clear BK328 HB;revert n0_ n1_;intro BK328 HB))
          go_ret
          exact ⟨zE_,zb1 HB.out GE328.out⟩
         replace c51:=Bool.eq_false_iff.mpr c51
         subst c51
         have H1:(impl_ValidGraph.l2 k4 (l0_0.length:Int) (wrap64 (x63_4+1)) l0_0 a0_1)=some r:=by rw [if_neg (show ¬ (false=true) by decide)] at H;exact H
         clear H
         have H:=H1
         clear H1
         have H':=As_ H
         clear H
         obtain ⟨hcz54_0,hcz54_1,hfz54_0,hfz54_1⟩:=bk2 BK328.out
         have p335:0≤(x63_4:Int):=odT zA_
         have q335:x63_4<(l0_0.length:Int):=odT zA_
         obtain ⟨ad335,A335_2,c335_2,e335,hx335_0,hx335_1,hx335_2,hl335_2,hi335_2⟩:=at_T58 HR0_0.out x63_4 p335 q335
         cases e335
         replace hx335_0:=bwC HB.out hx335_0
         replace hx335_1:=bwC HB.out hx335_1
         replace hx335_2:=bwC HB.out hx335_2
         have HR335_2:=As_ hi335_2
         have HC335_2:=As_ hl335_2
         clear hi335_2 hl335_2
         replace p335:=eq_true p335
         replace q335:=eq_true q335
         go_wp2_with (first|(go_at_call 72;(with_reducible refine (impl_circles.calls k4 _ _ l0_0 x63_4 false _ ?side1 ?side2 A50.out).mono ?_);(case side1=>exact zC_ (Kd.C_below HR0_0.out HB.out));(case side2=>exact HC0_0.out);rintro e w55 ⟨rfl,hb⟩;have n0_:=As_ (zkb BK328.out hb);have n1_:=As_ (bwT (zb1 HB.out GE328.out) hb);clear BK328 HB;revert n0_ n1_;intro BK328 HB))
         go_roundg k4
         case measure=>have:=HJ1.out;have:=HK2.out;have:=HK3.out;have:=HK4.out;omega
         case rel=>exact ⟨(wrap64 (x63_4+1)),zT_,H',⟨by have:=HJ1.out;have:=HK2.out;have:=HK3.out;have:=HK4.out;omega⟩,⟨by (with_reducible repeat first|apply bkN|apply bkD|apply bkA);exact BK328.out⟩,⟨zb1 HB.out GE328.out⟩⟩
end Go.Proofs.Ytapaegcombfafaa.Q
