import Derived.Test.YtapaegcombfafaaQ0
import Derived.Test.YtapaegcombfafaaQ68
namespace Go.Proofs.Ytapaegcombfafaa.Q
open Go.RowKit Go.Proofs.YtapaegcombfafaaW.PrintWords Go.Proofs.YtapaegcombfafaaW.PrintLast Go.Proofs.YtapaegcombfafaaW.PrintMore
attribute [local go_sem] max2_int min2_int max_two min_two max_three min_three max_four min_four
set_option linter.unusedVariables false
set_option linter.unusedSimpArgs false
def laws_equalGraph.f (k:Nat) (l0_0:List (S58)) (a0_1:Int) (l1_0:List (S58)) (a1_1:Int):Option (Bool):=if a0_1=a1_1 then ((laws_equalNodes.f k l0_0 l1_0).bind fun t1096=>(some t1096)) else (some false)
set_option maxRecDepth 100000 in
theorem laws_equalGraph.mono:∀ a0 a1 a2 a3 k,LeO (laws_equalGraph.f k a0 a1 a2 a3) (laws_equalGraph.f (k+1) a0 a1 a2 a3):=by
 intro a0 a1 a2 a3 k
 unfold laws_equalGraph.f
 repeat' first
   | (with_reducible exact laws_equalNodes.mono _ _ _)
   | (with_reducible exact LeO.refl _)
   | (with_reducible exact LeO.none _)
   | (with_reducible refine LeO.ite ?_ ?_)
   | (with_reducible refine LeO.bind ?_ (fun _=>?_))
   | exact laws_equalNodes.mono _ _ _
   | exact LeO.none _
   | refine LeO.ite ?_ ?_
   | refine LeO.bind ?_ (fun _=>?_)
set_option maxHeartbeats 8000000 in
set_option maxRecDepth 100000 in
theorem laws_equalGraph.calls (k:Nat) (A0_0:Option Addr) (c0_0:Nat) (l0_0:List (S58)) (a0_1:Int) (A1_0:Option Addr) (c1_0:Nat) (l1_0:List (S58)) (a1_1:Int) (r:Bool) (w:World) (hr0_0:Kd.C k58 w A0_0 l0_0.length l0_0) (hc0_0:l0_0.length≤c0_0) (hr1_0:Kd.C k58 w A1_0 l1_0.length l1_0) (hc1_0:l1_0.length≤c1_0) (h:laws_equalGraph.f k l0_0 a0_1 l1_0 a1_1=some r) :
  Calls Try.prog 36 #[.agg #[.slice A0_0 l0_0.length c0_0,.int .i64 a0_1],.agg #[.slice A1_0 l1_0.length c1_0,.int .i64 a1_1]] w fun e w'=>e=.returned (.bool r)∧Below w.heap.size w w':=by
 have hu25:=Try.underlying25
 have HR0_0:=As_ hr0_0
 have HC0_0:=As_ hc0_0
 clear hr0_0 hc0_0
 have HR1_0:=As_ hr1_0
 have HC1_0:=As_ hc1_0
 clear hr1_0 hc1_0
 have HB:=As_ (Below.refl w.heap.size w)
 have H:(if a0_1=a1_1 then ((laws_equalNodes.f k l0_0 l1_0).bind fun t1096=>(some t1096)) else (some false))=some r:=h
 clear h
 by_cases c3:a0_1=a1_1
 rotate_left
 ·rw [if_neg c3] at H
  have c3b0:(a0_1 == a1_1)=false:=beq_eq_false_iff_ne.mpr c3
  have c3b1:(a0_1 != a1_1)=true:=bne_iff_ne.mpr c3
  obtain rfl:=Option.some.inj H
  go_enter Try.func36,Try.ntmps36
  go_wp2_with (first|((with_reducible refine gate_dst (N:=2) rfl ?_);refine box_event ?hg (N:=2) ?hd (cs:=#[.slice A0_0 l0_0.length c0_0,.int .i64 a0_1]) (t:=25) ?hr ?_;(case hd=>rfl);(case hg=>rfl);(case hr=>go_simp <;> rfl);intro gb1094 hg w11 hbox hb;have n0_:=As_ (bwT (zb0 HB.out) hb);have n1_:=As_ (hbox);have n2_:=As_ ((by rw [hg];exact (bwZ (zb0 HB.out)):w.heap.size≤gb1094));have n3_:=As_ ((by rw [hg];exact (bwZ (zb0 HB.out)):w.heap.size≤gb1094));clear HB;revert n0_ n1_ n2_ n3_;intro HB BK1094 GW1094 GE1094;clear hb hbox hg)|((with_reducible refine gate_dst (N:=3) rfl ?_);refine box_event ?hg (N:=3) ?hd (cs:=#[.slice A1_0 l1_0.length c1_0,.int .i64 a1_1]) (t:=25) ?hr ?_;(case hd=>rfl);(case hg=>rfl);(case hr=>go_simp <;> rfl);intro gb1095 hg w12 hbox hb;have n0_:=As_ (zkb BK1094.out hb);have n1_:=As_ (bwT (zb1 HB.out GE1094.out) hb);have n2_:=As_ (hbox);have n3_:=As_ ((by rw [hg];exact (bwZ (zb1 HB.out GE1094.out)):w.heap.size≤gb1095));have n4_:=As_ ((by rw [hg];exact (bwZ (zb1 HB.out GE1094.out)):w.heap.size≤gb1095));have n5_:=As_ ((by rw [hg];exact Nat.ne_of_lt (zkl BK1094.out):gb1094≠gb1095));have n6_:=As_ ((by rw [hg];exact Nat.ne_of_gt (zkl BK1094.out):gb1095≠gb1094));clear BK1094 HB;revert n0_ n1_ n2_ n3_ n4_ n5_ n6_;intro BK1094 HB BK1095 GW1095 GE1095 NB1094_1095 NB1095_1094;clear hb hbox hg;have hnb13:=NB1094_1095.out;have hnc13:=NB1095_1094.out;obtain ⟨hcz14_0,hcz14_1,hfz14_0,hfz14_1⟩:=bk2 BK1094.out;obtain ⟨hcz15_0,hcz15_1,hfz15_0,hfz15_1⟩:=bk2 BK1095.out))
  go_ret
  exact ⟨zE_,zb2 HB.out GE1094.out GE1095.out⟩
 rw [if_pos c3] at H
 have c3b0:(a0_1 == a1_1)=true:=beq_iff_eq.mpr c3
 have c3b1:(a0_1 != a1_1)=false:=bne_eq_false_iff_eq.mpr c3
 clear c3
 replace H:=obS H
 obtain ⟨t1096,A40,H⟩:=H
 replace H:(some t1096)=some r:=H
 have A4:=As_ A40
 clear A40
 obtain rfl:=Option.some.inj H
 go_enter Try.func36,Try.ntmps36
 go_wp2_with (first|((with_reducible refine gate_dst (N:=2) rfl ?_);refine box_event ?hg (N:=2) ?hd (cs:=#[.slice A0_0 l0_0.length c0_0,.int .i64 a0_1]) (t:=25) ?hr ?_;(case hd=>rfl);(case hg=>rfl);(case hr=>go_simp <;> rfl);intro gb1094 hg w5 hbox hb;have n0_:=As_ (bwT (zb0 HB.out) hb);have n1_:=As_ (hbox);have n2_:=As_ ((by rw [hg];exact (bwZ (zb0 HB.out)):w.heap.size≤gb1094));have n3_:=As_ ((by rw [hg];exact (bwZ (zb0 HB.out)):w.heap.size≤gb1094));clear HB;revert n0_ n1_ n2_ n3_;intro HB BK1094 GW1094 GE1094;clear hb hbox hg)|((with_reducible refine gate_dst (N:=3) rfl ?_);refine box_event ?hg (N:=3) ?hd (cs:=#[.slice A1_0 l1_0.length c1_0,.int .i64 a1_1]) (t:=25) ?hr ?_;(case hd=>rfl);(case hg=>rfl);(case hr=>go_simp <;> rfl);intro gb1095 hg w6 hbox hb;have n0_:=As_ (zkb BK1094.out hb);have n1_:=As_ (bwT (zb1 HB.out GE1094.out) hb);have n2_:=As_ (hbox);have n3_:=As_ ((by rw [hg];exact (bwZ (zb1 HB.out GE1094.out)):w.heap.size≤gb1095));have n4_:=As_ ((by rw [hg];exact (bwZ (zb1 HB.out GE1094.out)):w.heap.size≤gb1095));have n5_:=As_ ((by rw [hg];exact Nat.ne_of_lt (zkl BK1094.out):gb1094≠gb1095));have n6_:=As_ ((by rw [hg];exact Nat.ne_of_gt (zkl BK1094.out):gb1095≠gb1094));clear BK1094 HB;revert n0_ n1_ n2_ n3_ n4_ n5_ n6_;intro BK1094 HB BK1095 GW1095 GE1095 NB1094_1095 NB1095_1094;clear hb hbox hg;have hnb7:=NB1094_1095.out;have hnc7:=NB1095_1094.out;obtain ⟨hcz8_0,hcz8_1,hfz8_0,hfz8_1⟩:=bk2 BK1094.out;obtain ⟨hcz9_0,hcz9_1,hfz9_0,hfz9_1⟩:=bk2 BK1095.out)|(go_at_call 68;(with_reducible refine (laws_equalNodes.calls k _ _ l0_0 _ _ l1_0 t1096 _ ?side1 ?side2 ?side3 ?side4 A4.out).mono ?_);(case side1=>exact zC_ (Kd.C_below HR0_0.out HB.out));(case side2=>exact HC0_0.out);(case side3=>exact zC_ (Kd.C_below HR1_0.out HB.out));(case side4=>exact HC1_0.out);rintro e w10 ⟨rfl,hb⟩;have n0_:=As_ (zkb BK1094.out hb);have n1_:=As_ (zkb BK1095.out hb);have n2_:=As_ (bwT (zb2 HB.out GE1094.out GE1095.out) hb);clear BK1094 BK1095 HB;revert n0_ n1_ n2_;intro BK1094 BK1095 HB))
 go_ret
 exact ⟨zE_,zb2 HB.out GE1094.out GE1095.out⟩
def slices_Equal_int_int.l0:Nat→List Int→List Int→Int→Int→Option (Bool)
 | 0,_,_,_,_=>none
 | k+1,x0,x1,x12,x13=>if x13<x12 then (if 0≤x13 then (if x13<(x0.length:Int) then (if x13<(x1.length:Int) then (if (rd x0 x13)=(rd x1 x13) then (slices_Equal_int_int.l0 k x0 x1 x12 (wrap64 (x13+1))) else (some false)) else (none)) else (none)) else (none)) else (some true)
def slices_Equal_int_int.f (k:Nat) (l0:List Int) (l1:List Int):Option (Bool):=if (l0.length:Int)=(l1.length:Int) then (slices_Equal_int_int.l0 k l0 l1 (l0.length:Int) 0) else (some false)
set_option maxRecDepth 100000 in
theorem slices_Equal_int_int.mono_l:∀ k,(∀ y0 y1 y2 y3,LeO (slices_Equal_int_int.l0 k y0 y1 y2 y3) (slices_Equal_int_int.l0 (k+1) y0 y1 y2 y3))
 | 0=>fun _ _ _ _ r h=>(by cases h)
 | k+1=>by
  have ih0:=slices_Equal_int_int.mono_l k
  ·intro y0 y1 y2 y3
   unfold slices_Equal_int_int.l0
   repeat' first
   | (with_reducible exact ih0 _ _ _ _)
   | (with_reducible exact LeO.refl _)
   | (with_reducible exact LeO.none _)
   | (with_reducible refine LeO.ite ?_ ?_)
   | (with_reducible refine LeO.bind ?_ (fun _=>?_))
   | exact ih0 _ _ _ _
   | exact LeO.none _
   | refine LeO.ite ?_ ?_
   | refine LeO.bind ?_ (fun _=>?_)
set_option maxRecDepth 100000 in
theorem slices_Equal_int_int.mono:∀ a0 a1 k,LeO (slices_Equal_int_int.f k a0 a1) (slices_Equal_int_int.f (k+1) a0 a1):=by
 intro a0 a1 k
 have ih0:=slices_Equal_int_int.mono_l k
 unfold slices_Equal_int_int.f
 repeat' first
   | (with_reducible exact ih0 _ _ _ _)
   | (with_reducible exact LeO.refl _)
   | (with_reducible exact LeO.none _)
   | (with_reducible refine LeO.ite ?_ ?_)
   | (with_reducible refine LeO.bind ?_ (fun _=>?_))
   | exact ih0 _ _ _ _
   | exact LeO.none _
   | refine LeO.ite ?_ ?_
   | refine LeO.bind ?_ (fun _=>?_)
set_option maxHeartbeats 8000000 in
set_option maxRecDepth 100000 in
theorem slices_Equal_int_int.calls (k:Nat) (A0:Option Addr) (c0:Nat) (l0:List Int) (A1:Option Addr) (c1:Nat) (l1:List Int) (r:Bool) (w:World) (hr0:Kd.C (Kd.int .i64) w A0 l0.length l0) (hc0:l0.length≤c0) (hr1:Kd.C (Kd.int .i64) w A1 l1.length l1) (hc1:l1.length≤c1) (h:slices_Equal_int_int.f k l0 l1=some r) :
  Calls Try.prog 74 #[.slice A0 l0.length c0,.slice A1 l1.length c1] w fun e w'=>e=.returned (.bool r)∧Drawn0 w w':=by
 have HR0:=As_ hr0
 have HC0:=As_ hc0
 clear hr0 hc0
 have HR1:=As_ hr1
 have HC1:=As_ hc1
 clear hr1 hc1
 have H:(if (l0.length:Int)=(l1.length:Int) then (slices_Equal_int_int.l0 k l0 l1 (l0.length:Int) 0) else (some false))=some r:=h
 clear h
 by_cases c3:(l0.length:Int)=(l1.length:Int)
 rotate_left
 ·rw [if_neg c3] at H
  have c3b0:((l0.length:Int) == (l1.length:Int))=false:=beq_eq_false_iff_ne.mpr c3
  have c3b1:((l0.length:Int) != (l1.length:Int))=true:=bne_iff_ne.mpr c3
  have c3b2:(l0.length == l1.length)=false:=by first|simpa using c3|(simp at c3 ⊢;omega)
  obtain rfl:=Option.some.inj H
  go_enter Try.func74,Try.ntmps74
  go_wp2
  repeat (go_quiet (fail);try go_wp2)
  go_ret
  exact ⟨by first|rfl|(simp;done)|(simp [*];done),by repeat (first|exact Drawn0.refl _|apply Drawn0.step)⟩
 rw [if_pos c3] at H
 have c3b0:((l0.length:Int) == (l1.length:Int))=true:=beq_iff_eq.mpr c3
 have c3b1:((l0.length:Int) != (l1.length:Int))=false:=bne_eq_false_iff_eq.mpr c3
 have c3b2:(l0.length == l1.length)=true:=by first|simpa using c3|(simp at c3 ⊢;omega)
 clear c3
 have H':=As_ H
 clear H
 go_enter Try.func74,Try.ntmps74
 go_wp2
 repeat (go_quiet (fail);try go_wp2)
 go_loopg [13] k (fun kq v13 w'=>∃ (x13_1:Int),v13=.int .i64 x13_1∧Aside0 (slices_Equal_int_int.l0 kq l0 l1 (l0.length:Int) x13_1=some r)∧Aside0 (kq≤k)∧Drawn0 w w')
 case atStart=>exact ⟨(0),zT_,H',⟨Nat.le_refl _⟩,by repeat (first|exact Drawn0.refl _|apply Drawn0.step)⟩
 case round=>
  clear H'
  obtain ⟨x13_1,rfl,HA,HK1,⟨m1,rfl⟩⟩:=hrel
  cases gk with
  | zero=>exact absurd HA.out (fun h_=>(by cases h_))
  | succ k1=>
   have H:=HA.out
   clear HA
   simp only [slices_Equal_int_int.l0] at H
   by_cases c4:x13_1<(l0.length:Int)
   rotate_left
   ·rw [if_neg c4] at H
    have c4b0:decide (x13_1<(l0.length:Int))=false:=deF c4
    clear c4
    obtain rfl:=Option.some.inj H
    go_wp2
    repeat (go_quiet (fail);try go_wp2)
    go_ret
    exact ⟨by first|rfl|(simp;done)|(simp [*];done),by repeat (first|exact Drawn0.refl _|apply Drawn0.step)⟩
   rw [if_pos c4] at H
   have c4b0:decide (x13_1<(l0.length:Int))=true:=deT c4
   clear c4
   by_cases c5:0≤x13_1
   rotate_left
   ·rw [if_neg c5] at H
    exact absurd H (by simp)
   rw [if_pos c5] at H
   have c5b0:decide (0≤x13_1)=true:=deT c5
   clear c5
   by_cases c6:x13_1<(l0.length:Int)
   rotate_left
   ·rw [if_neg c6] at H
    exact absurd H (by simp)
   rw [if_pos c6] at H
   have c6b0:decide (x13_1<(l0.length:Int))=true:=deT c6
   clear c6
   by_cases c7:x13_1<(l1.length:Int)
   rotate_left
   ·rw [if_neg c7] at H
    exact absurd H (by simp)
   rw [if_pos c7] at H
   have c7b0:decide (x13_1<(l1.length:Int))=true:=deT c7
   clear c7
   by_cases c8:(rd l0 x13_1)=(rd l1 x13_1)
   rotate_left
   ·rw [if_neg c8] at H
    have c8b0:((rd l0 x13_1) == (rd l1 x13_1))=false:=beq_eq_false_iff_ne.mpr c8
    have c8b1:((rd l0 x13_1) != (rd l1 x13_1))=true:=bne_iff_ne.mpr c8
    obtain rfl:=Option.some.inj H
    have p1097:0≤(x13_1:Int):=odT zA_
    have q1097:x13_1<(l0.length:Int):=odT zA_
    obtain ⟨ad1097,e1097,hx1097_0⟩:=Kd.at_int HR0.out x13_1 p1097 q1097
    cases e1097
    replace p1097:=eq_true p1097
    replace q1097:=eq_true q1097
    have p1098:0≤(x13_1:Int):=odT zA_
    have q1098:x13_1<(l1.length:Int):=odT zA_
    obtain ⟨ad1098,e1098,hx1098_0⟩:=Kd.at_int HR1.out x13_1 p1098 q1098
    cases e1098
    replace p1098:=eq_true p1098
    replace q1098:=eq_true q1098
    go_wp2
    repeat (go_quiet (fail);try go_wp2)
    go_ret
    exact ⟨by first|rfl|(simp;done)|(simp [*];done),by repeat (first|exact Drawn0.refl _|apply Drawn0.step)⟩
   rw [if_pos c8] at H
   have c8b0:((rd l0 x13_1) == (rd l1 x13_1))=true:=beq_iff_eq.mpr c8
   have c8b1:((rd l0 x13_1) != (rd l1 x13_1))=false:=bne_eq_false_iff_eq.mpr c8
   clear c8
   have H':=As_ H
   clear H
   have p1097:0≤(x13_1:Int):=odT zA_
   have q1097:x13_1<(l0.length:Int):=odT zA_
   obtain ⟨ad1097,e1097,hx1097_0⟩:=Kd.at_int HR0.out x13_1 p1097 q1097
   cases e1097
   replace p1097:=eq_true p1097
   replace q1097:=eq_true q1097
   have p1098:0≤(x13_1:Int):=odT zA_
   have q1098:x13_1<(l1.length:Int):=odT zA_
   obtain ⟨ad1098,e1098,hx1098_0⟩:=Kd.at_int HR1.out x13_1 p1098 q1098
   cases e1098
   replace p1098:=eq_true p1098
   replace q1098:=eq_true q1098
   go_wp2
   repeat (go_quiet (fail);try go_wp2)
   go_roundg k1
   case measure=>have:=HK1.out;omega
   case rel=>exact ⟨(wrap64 (x13_1+1)),zT_,H',⟨by have:=HK1.out;omega⟩,by repeat (first|exact Drawn0.refl _|apply Drawn0.step)⟩
end Go.Proofs.Ytapaegcombfafaa.Q
