import Derived.Test.YtapaegcombfafaaQ0
import Derived.Test.YtapaegcombfafaaQ13
namespace Go.Proofs.Ytapaegcombfafaa.Q
open Go.RowKit Go.Proofs.YtapaegcombfafaaW.PrintWords Go.Proofs.YtapaegcombfafaaW.PrintLast Go.Proofs.YtapaegcombfafaaW.PrintMore
attribute [local go_sem] max2_int min2_int max_two min_two max_three min_three max_four min_four
set_option linter.unusedVariables false
set_option linter.unusedSimpArgs false
def laws_equalNodes.l0:Nat→List (S58)→List (S58)→Int→Option (Bool)
 | 0,_,_,_=>none
 | k+1,x0,x1,x5=>if x5<(x0.length:Int) then (if 0≤x5 then (if x5<(x1.length:Int) then (if ((rd_T58 x0 x5).f0)=((rd_T58 x1 x5).f0) then (if ((rd_T58 x0 x5).f1)=((rd_T58 x1 x5).f1) then ((laws_equalInts.f k ((rd_T58 x0 x5).f2) ((rd_T58 x1 x5).f2)).bind fun t1093=>(if t1093=true then (laws_equalNodes.l0 k x0 x1 (wrap64 (x5+1))) else (some false))) else (some false)) else (some false)) else (none)) else (none)) else (some true)
def laws_equalNodes.f (k:Nat) (l0:List (S58)) (l1:List (S58)):Option (Bool):=if (l0.length:Int)=(l1.length:Int) then (laws_equalNodes.l0 k l0 l1 0) else (some false)
set_option maxRecDepth 100000 in
theorem laws_equalNodes.mono_l:∀ k,(∀ y0 y1 y2,LeO (laws_equalNodes.l0 k y0 y1 y2) (laws_equalNodes.l0 (k+1) y0 y1 y2))
 | 0=>fun _ _ _ r h=>(by cases h)
 | k+1=>by
  have ih0:=laws_equalNodes.mono_l k
  ·intro y0 y1 y2
   unfold laws_equalNodes.l0
   repeat' first
   | (with_reducible exact ih0 _ _ _)
   | (with_reducible exact laws_equalInts.mono _ _ _)
   | (with_reducible exact LeO.refl _)
   | (with_reducible exact LeO.none _)
   | (with_reducible refine LeO.ite ?_ ?_)
   | (with_reducible refine LeO.bind ?_ (fun _=>?_))
   | exact ih0 _ _ _
   | exact laws_equalInts.mono _ _ _
   | exact LeO.none _
   | refine LeO.ite ?_ ?_
   | refine LeO.bind ?_ (fun _=>?_)
set_option maxRecDepth 100000 in
theorem laws_equalNodes.mono:∀ a0 a1 k,LeO (laws_equalNodes.f k a0 a1) (laws_equalNodes.f (k+1) a0 a1):=by
 intro a0 a1 k
 have ih0:=laws_equalNodes.mono_l k
 unfold laws_equalNodes.f
 repeat' first
   | (with_reducible exact ih0 _ _ _)
   | (with_reducible exact laws_equalInts.mono _ _ _)
   | (with_reducible exact LeO.refl _)
   | (with_reducible exact LeO.none _)
   | (with_reducible refine LeO.ite ?_ ?_)
   | (with_reducible refine LeO.bind ?_ (fun _=>?_))
   | exact ih0 _ _ _
   | exact laws_equalInts.mono _ _ _
   | exact LeO.none _
   | refine LeO.ite ?_ ?_
   | refine LeO.bind ?_ (fun _=>?_)
def laws_equalNodes.T6:Bool × List (List Nat × List Nat):=(true,[([],[]),([],[]),([0,1],[0,1]),([2],[2]),([3],[3]),([],[]),([],[]),([5,6],[5,6]),([7],[7]),([8],[8]),([4,9],[4,9]),([10],[10]),([11],[11]),([11],[11]),([12,13,11],[11,12,13]),([14,11],[11,14]),([15,11],[11,15]),([11],[11]),([11],[11]),([17,18,11],[11,17,18]),([19,11],[11,19]),([20,11],[11,20]),([16,21,11],[11,16,21]),([11,22],[11,22]),([23,11],[23]),([24],[24]),([24],[24]),([25,26,24],[24,25,26]),([27,24],[24,27]),([28,24],[24,28]),([24],[24]),([24],[24]),([30,31,24],[24,30,31]),([32,24],[24,32]),([33,24],[24,33]),([29,34,24,24],[24,29,34]),([35,24],[24,35]),([24,36],[24,36])])
def laws_equalNodes.B6:List Nat:=[0,0,3,7,15,0,0,96,224,480,1023,2047,4095,4095,16383,32767,65535,4095,4095,397311,921599,1970175,4194303,8388607,16777215,33554431,33554431,134217727,268435455,536870911,33554431,33554431,3254779903,7549747199,16139681791,34359738367,68719476735,137438953471]
theorem laws_equalNodes.tab6:rtab .any (opsOf Try.f68 6)=laws_equalNodes.T6:=by kernel_rfl
theorem laws_equalNodes.bits6:waitsOk laws_equalNodes.T6.2 laws_equalNodes.B6=true:=by kernel_rfl
set_option maxHeartbeats 8000000 in
set_option maxRecDepth 100000 in
theorem laws_equalNodes.calls (k:Nat) (A0:Option Addr) (c0:Nat) (l0:List (S58)) (A1:Option Addr) (c1:Nat) (l1:List (S58)) (r:Bool) (w:World) (hr0:Kd.C k58 w A0 l0.length l0) (hc0:l0.length≤c0) (hr1:Kd.C k58 w A1 l1.length l1) (hc1:l1.length≤c1) (h:laws_equalNodes.f k l0 l1=some r) :
  Calls Try.prog 68 #[.slice A0 l0.length c0,.slice A1 l1.length c1] w fun e w'=>e=.returned (.bool r)∧Below w.heap.size w w':=by
 have HR0:=As_ hr0
 have HC0:=As_ hc0
 clear hr0 hc0
 have HR1:=As_ hr1
 have HC1:=As_ hc1
 clear hr1 hc1
 have HB:=As_ (Below.refl w.heap.size w)
 have H:(if (l0.length:Int)=(l1.length:Int) then (laws_equalNodes.l0 k l0 l1 0) else (some false))=some r:=h
 clear h
 by_cases c3:(l0.length:Int)=(l1.length:Int)
 rotate_left
 ·rw [if_neg c3] at H
  have c3b0:((l0.length:Int) == (l1.length:Int))=false:=beq_eq_false_iff_ne.mpr c3
  have c3b1:((l0.length:Int) != (l1.length:Int))=true:=bne_iff_ne.mpr c3
  have c3b2:(l0.length == l1.length)=false:=by first|simpa using c3|(simp at c3 ⊢;omega)
  obtain rfl:=Option.some.inj H
  go_enter Try.func68,Try.ntmps68
  go_wp2
  go_ret
  exact ⟨zE_,zb0 HB.out⟩
 rw [if_pos c3] at H
 have c3b0:((l0.length:Int) == (l1.length:Int))=true:=beq_iff_eq.mpr c3
 have c3b1:((l0.length:Int) != (l1.length:Int))=false:=bne_eq_false_iff_eq.mpr c3
 have c3b2:(l0.length == l1.length)=true:=by first|simpa using c3|(simp at c3 ⊢;omega)
 clear c3
 have H':=As_ H
 clear H
 go_enter Try.func68,Try.ntmps68
 go_wp2
 go_loopg [5] k (fun kq v5 w'=>∃ (x5_1:Int),v5=.int .i64 x5_1∧Aside0 (laws_equalNodes.l0 kq l0 l1 x5_1=some r)∧Aside0 (kq≤k)∧Aside0 (Below w.heap.size w w'))
 case atStart=>exact ⟨(0),zT_,H',⟨Nat.le_refl _⟩,⟨zb0 HB.out⟩⟩
 case round=>
  clear H'
  obtain ⟨x5_1,rfl,HA,HK1,HB⟩:=hrel
  cases gk with
  | zero=>exact absurd HA.out (fun h_=>(by cases h_))
  | succ k1=>
   have H:=HA.out
   clear HA
   simp only [laws_equalNodes.l0] at H
   by_cases c4:x5_1<(l0.length:Int)
   rotate_left
   ·rw [if_neg c4] at H
    have c4b0:decide (x5_1<(l0.length:Int))=false:=deF c4
    clear c4
    obtain rfl:=Option.some.inj H
    go_wp2
    go_ret
    exact ⟨zE_,zb0 HB.out⟩
   rw [if_pos c4] at H
   have c4b0:decide (x5_1<(l0.length:Int))=true:=deT c4
   clear c4
   by_cases c5:0≤x5_1
   rotate_left
   ·rw [if_neg c5] at H
    exact absurd H (by simp)
   rw [if_pos c5] at H
   have c5b0:decide (0≤x5_1)=true:=deT c5
   clear c5
   by_cases c6:x5_1<(l1.length:Int)
   rotate_left
   ·rw [if_neg c6] at H
    exact absurd H (by simp)
   rw [if_pos c6] at H
   have c6b0:decide (x5_1<(l1.length:Int))=true:=deT c6
   clear c6
   by_cases c7:((rd_T58 l0 x5_1).f0)=((rd_T58 l1 x5_1).f0)
   rotate_left
   ·rw [if_neg c7] at H
    have c7b0:(((rd_T58 l0 x5_1).f0) == ((rd_T58 l1 x5_1).f0))=false:=beq_eq_false_iff_ne.mpr c7
    have c7b1:(((rd_T58 l0 x5_1).f0) != ((rd_T58 l1 x5_1).f0))=true:=bne_iff_ne.mpr c7
    obtain rfl:=Option.some.inj H
    try go_wp2
    have n0_:=As_ (bwD HB.out)
    clear HB
    revert n0_;intro HB
    have p1087:0≤(x5_1:Int):=odT zA_
    have q1087:x5_1<(l0.length:Int):=odT zA_
    obtain ⟨ad1087,A1087_2,c1087_2,e1087,hx1087_0,hx1087_1,hx1087_2,hl1087_2,hi1087_2⟩:=at_T58 HR0.out x5_1 p1087 q1087
    have hw1087_2:=hx1087_2
    have hw1087_1:=hx1087_1
    have hw1087_0:=hx1087_0
    cases e1087
    replace hx1087_0:=bwC HB.out hx1087_0
    replace hx1087_1:=bwC HB.out hx1087_1
    replace hx1087_2:=bwC HB.out hx1087_2
    have HR1087_2:=As_ hi1087_2
    have HC1087_2:=As_ hl1087_2
    clear hi1087_2 hl1087_2
    replace p1087:=eq_true p1087
    replace q1087:=eq_true q1087
    have p1088:0≤(x5_1:Int):=odT zA_
    have q1088:x5_1<(l1.length:Int):=odT zA_
    obtain ⟨ad1088,A1088_2,c1088_2,e1088,hx1088_0,hx1088_1,hx1088_2,hl1088_2,hi1088_2⟩:=at_T58 HR1.out x5_1 p1088 q1088
    have hw1088_2:=hx1088_2
    have hw1088_1:=hx1088_1
    have hw1088_0:=hx1088_0
    cases e1088
    replace hx1088_0:=bwC HB.out hx1088_0
    replace hx1088_1:=bwC HB.out hx1088_1
    replace hx1088_2:=bwC HB.out hx1088_2
    have HR1088_2:=As_ hi1088_2
    have HC1088_2:=As_ hl1088_2
    clear hi1088_2 hl1088_2
    replace p1088:=eq_true p1088
    replace q1088:=eq_true q1088
    refine start_ (n:=38) (S:=fun w'=>w'.cell? (ad1087.add ((x5_1).toNat * 3))=some (.int .i64 ((rd_T58 l0 x5_1).f0))∧w'.cell? ⟨(ad1087.add ((x5_1).toNat * 3)).block,(ad1087.add ((x5_1).toNat * 3)).off+1,none⟩=some (.int .i64 ((rd_T58 l0 x5_1).f1))∧w'.cell? ⟨(ad1087.add ((x5_1).toNat * 3)).block,(ad1087.add ((x5_1).toNat * 3)).off+2,none⟩=some (.slice A1087_2 ((rd_T58 l0 x5_1).f2).length c1087_2)∧w'.cell? (ad1088.add ((x5_1).toNat * 3))=some (.int .i64 ((rd_T58 l1 x5_1).f0))∧w'.cell? ⟨(ad1088.add ((x5_1).toNat * 3)).block,(ad1088.add ((x5_1).toNat * 3)).off+1,none⟩=some (.int .i64 ((rd_T58 l1 x5_1).f1))∧w'.cell? ⟨(ad1088.add ((x5_1).toNat * 3)).block,(ad1088.add ((x5_1).toNat * 3)).off+2,none⟩=some (.slice A1088_2 ((rd_T58 l1 x5_1).f2).length c1088_2)) (ds:=[]) (bl_ 0 38) (by kernel_rfl) rfl rfl ⟨((HB.out.cell (bwL w _ hw1087_0)).trans hw1087_0),((HB.out.cell (bwL w _ hw1087_1)).trans hw1087_1),((HB.out.cell (bwL w _ hw1087_2)).trans hw1087_2),((HB.out.cell (bwL w _ hw1088_0)).trans hw1088_0),((HB.out.cell (bwL w _ hw1088_1)).trans hw1088_1),((HB.out.cell (bwL w _ hw1088_2)).trans hw1088_2)⟩ (fun hHeld=>?_);refine with_tabW laws_equalNodes.tab6 laws_equalNodes.bits6 (fun HT_ HW_=>?_)
    generalize wr.drew=w14 at HB HR1087_2 HR1088_2 hx1087_0 hx1087_1 hx1087_2 hx1088_0 hx1088_1 hx1088_2 hHeld ⊢
    refine pQ 0 17 (bl_ 1 38) HT_ rfl ?_
    refine pQ 1 18 (bl_ 3 38) HT_ rfl ?_
    refine pQ 2 19 (bl_ 7 38) HT_ rfl ?_
    refine pQ 3 20 (bl_ 15 38) HT_ rfl ?_
    refine pQ 5 22 (bl_ 47 38) HT_ rfl ?_
    refine pQ 6 23 (bl_ 111 38) HT_ rfl ?_
    refine pQ 7 24 (bl_ 239 38) HT_ rfl ?_
    refine pQ 8 25 (bl_ 495 38) HT_ rfl ?_
    refine tP 4 21 (bl_ 511 38) ?_ HT_ HW_ rfl (.inl ⟨by rfl,?_⟩) hHeld ?_ ?_ ?_;rotate_left;(rintro w' ⟨s0,s1,s2,s3,s4,s5⟩;go_simp;with_reducible rfl);rotate_left;(simp only [Act.put,sq_,i64_w,i32_w];rfl)
    refine tP 9 26 (bl_ 1023 38) ?_ HT_ HW_ rfl (.inl ⟨by rfl,?_⟩) hHeld ?_ ?_ ?_;rotate_left;(rintro w' ⟨s0,s1,s2,s3,s4,s5⟩;go_simp;with_reducible rfl);rotate_left;(simp only [Act.put,sq_,i64_w,i32_w];rfl)
    refine pQ 10 27 (bl_ 2047 38) HT_ rfl ?_
    refine pQ 11 28 (bl_ 4095 38) HT_ rfl ?_
    refine uP 12 29 (bl_ 8191 38) ?_ HT_ rfl (.inr ⟨by rfl,rfl⟩) ?_ ?_;rotate_left;(simp only [Act.put,sq_,i64_w,i32_w];rfl)
    refine uP 13 30 (bl_ 16383 38) ?_ HT_ rfl (.inr ⟨by rfl,rfl⟩) ?_ ?_;rotate_left;(simp only [Act.put,sq_,i64_w,i32_w];rfl)
    refine uP 14 31 (bl_ 32767 38) ?_ HT_ rfl (.inr ⟨by rfl,rfl⟩) ?_ ?_;rotate_left;(simp only [Act.put,sq_,i64_w,i32_w];rfl)
    refine uP 15 32 (bl_ 65535 38) ?_ HT_ rfl (.inr ⟨by rfl,rfl⟩) ?_ ?_;rotate_left;(simp only [Act.put,sq_,i64_w,i32_w];rfl)
    refine uP 16 33 (bl_ 131071 38) ?_ HT_ rfl (.inr ⟨by rfl,rfl⟩) ?_ ?_;rotate_left;(simp only [Act.put,sq_,i64_w,i32_w];rfl)
    refine uP 17 34 (bl_ 262143 38) ?_ HT_ rfl (.inr ⟨by rfl,rfl⟩) ?_ ?_;rotate_left;(simp only [Act.put,sq_,i64_w,i32_w];rfl)
    refine uP 18 35 (bl_ 524287 38) ?_ HT_ rfl (.inr ⟨by rfl,rfl⟩) ?_ ?_;rotate_left;(simp only [Act.put,sq_,i64_w,i32_w];rfl)
    refine uP 19 36 (bl_ 1048575 38) ?_ HT_ rfl (.inr ⟨by rfl,rfl⟩) ?_ ?_;rotate_left;(simp only [Act.put,sq_,i64_w,i32_w];rfl)
    refine uP 20 37 (bl_ 2097151 38) ?_ HT_ rfl (.inr ⟨by rfl,rfl⟩) ?_ ?_;rotate_left;(simp only [Act.put,sq_,i64_w,i32_w];rfl)
    refine uP 21 38 (bl_ 4194303 38) ?_ HT_ rfl (.inr ⟨by rfl,rfl⟩) ?_ ?_;rotate_left;(simp only [Act.put,sq_,i64_w,i32_w];rfl)
    refine uP 22 39 (bl_ 8388607 38) ?_ HT_ rfl (.inr ⟨by rfl,rfl⟩) ?_ ?_;rotate_left;(simp only [Act.put,sq_,i64_w,i32_w];rfl)
    refine pQ 23 40 (bl_ 16777215 38) HT_ rfl ?_
    refine pQ 24 41 (bl_ 33554431 38) HT_ rfl ?_
    refine uP 25 42 (bl_ 67108863 38) ?_ HT_ rfl (.inr ⟨by rfl,rfl⟩) ?_ ?_;rotate_left;(simp only [Act.put,sq_,i64_w,i32_w];rfl)
    refine uP 26 43 (bl_ 134217727 38) ?_ HT_ rfl (.inr ⟨by rfl,rfl⟩) ?_ ?_;rotate_left;(simp only [Act.put,sq_,i64_w,i32_w];rfl)
    refine uP 27 44 (bl_ 268435455 38) ?_ HT_ rfl (.inr ⟨by rfl,rfl⟩) ?_ ?_;rotate_left;(simp only [Act.put,sq_,i64_w,i32_w];rfl)
    refine uP 28 45 (bl_ 536870911 38) ?_ HT_ rfl (.inr ⟨by rfl,rfl⟩) ?_ ?_;rotate_left;(simp only [Act.put,sq_,i64_w,i32_w];rfl)
    refine uP 29 46 (bl_ 1073741823 38) ?_ HT_ rfl (.inr ⟨by rfl,rfl⟩) ?_ ?_;rotate_left;(simp only [Act.put,sq_,i64_w,i32_w];rfl)
    refine uP 30 47 (bl_ 2147483647 38) ?_ HT_ rfl (.inr ⟨by rfl,rfl⟩) ?_ ?_;rotate_left;(simp only [Act.put,sq_,i64_w,i32_w];rfl)
    refine uP 31 48 (bl_ 4294967295 38) ?_ HT_ rfl (.inr ⟨by rfl,rfl⟩) ?_ ?_;rotate_left;(simp only [Act.put,sq_,i64_w,i32_w];rfl)
    refine uP 32 49 (bl_ 8589934591 38) ?_ HT_ rfl (.inr ⟨by rfl,rfl⟩) ?_ ?_;rotate_left;(simp only [Act.put,sq_,i64_w,i32_w];rfl)
    refine uP 33 50 (bl_ 17179869183 38) ?_ HT_ rfl (.inr ⟨by rfl,rfl⟩) ?_ ?_;rotate_left;(simp only [Act.put,sq_,i64_w,i32_w];rfl)
    refine uP 34 51 (bl_ 34359738367 38) ?_ HT_ rfl (.inr ⟨by rfl,rfl⟩) ?_ ?_;rotate_left;(simp only [Act.put,sq_,i64_w,i32_w];rfl)
    refine uP 35 52 (bl_ 68719476735 38) ?_ HT_ rfl (.inr ⟨by rfl,rfl⟩) ?_ ?_;rotate_left;(simp only [Act.put,sq_,i64_w,i32_w];rfl)
    refine uP 36 53 (bl_ 137438953471 38) ?_ HT_ rfl (.inr ⟨by rfl,rfl⟩) ?_ ?_;rotate_left;(simp only [Act.put,sq_,i64_w,i32_w];rfl)
    refine pQ 37 54 (bl_ 274877906943 38) HT_ rfl ?_
    refine done_ (done_of HT_.out (by kernel_rfl)) ?_
    try go_wp2
    go_ret
    exact ⟨zE_,zb0 HB.out⟩
   rw [if_pos c7] at H
   have c7b0:(((rd_T58 l0 x5_1).f0) == ((rd_T58 l1 x5_1).f0))=true:=beq_iff_eq.mpr c7
   have c7b1:(((rd_T58 l0 x5_1).f0) != ((rd_T58 l1 x5_1).f0))=false:=bne_eq_false_iff_eq.mpr c7
   clear c7
   by_cases c8:((rd_T58 l0 x5_1).f1)=((rd_T58 l1 x5_1).f1)
   rotate_left
   ·rw [if_neg c8] at H
    have c8b0:(((rd_T58 l0 x5_1).f1) == ((rd_T58 l1 x5_1).f1))=false:=beq_eq_false_iff_ne.mpr c8
    have c8b1:(((rd_T58 l0 x5_1).f1) != ((rd_T58 l1 x5_1).f1))=true:=bne_iff_ne.mpr c8
    obtain rfl:=Option.some.inj H
    try go_wp2
    have n0_:=As_ (bwD HB.out)
    clear HB
    revert n0_;intro HB
    have p1087:0≤(x5_1:Int):=odT zA_
    have q1087:x5_1<(l0.length:Int):=odT zA_
    obtain ⟨ad1087,A1087_2,c1087_2,e1087,hx1087_0,hx1087_1,hx1087_2,hl1087_2,hi1087_2⟩:=at_T58 HR0.out x5_1 p1087 q1087
    have hw1087_2:=hx1087_2
    have hw1087_1:=hx1087_1
    have hw1087_0:=hx1087_0
    cases e1087
    replace hx1087_0:=bwC HB.out hx1087_0
    replace hx1087_1:=bwC HB.out hx1087_1
    replace hx1087_2:=bwC HB.out hx1087_2
    have HR1087_2:=As_ hi1087_2
    have HC1087_2:=As_ hl1087_2
    clear hi1087_2 hl1087_2
    replace p1087:=eq_true p1087
    replace q1087:=eq_true q1087
    have p1088:0≤(x5_1:Int):=odT zA_
    have q1088:x5_1<(l1.length:Int):=odT zA_
    obtain ⟨ad1088,A1088_2,c1088_2,e1088,hx1088_0,hx1088_1,hx1088_2,hl1088_2,hi1088_2⟩:=at_T58 HR1.out x5_1 p1088 q1088
    have hw1088_2:=hx1088_2
    have hw1088_1:=hx1088_1
    have hw1088_0:=hx1088_0
    cases e1088
    replace hx1088_0:=bwC HB.out hx1088_0
    replace hx1088_1:=bwC HB.out hx1088_1
    replace hx1088_2:=bwC HB.out hx1088_2
    have HR1088_2:=As_ hi1088_2
    have HC1088_2:=As_ hl1088_2
    clear hi1088_2 hl1088_2
    replace p1088:=eq_true p1088
    replace q1088:=eq_true q1088
    have p1089:0≤(x5_1:Int):=odT zA_
    have q1089:x5_1<(l0.length:Int):=odT zA_
    obtain ⟨ad1089,A1089_2,c1089_2,e1089,hx1089_0,hx1089_1,hx1089_2,hl1089_2,hi1089_2⟩:=at_T58 HR0.out x5_1 p1089 q1089
    have hw1089_2:=hx1089_2
    have hw1089_1:=hx1089_1
    have hw1089_0:=hx1089_0
    obtain rfl:ad1087=ad1089:=(by injection e1089)
    replace hx1089_0:=bwC HB.out hx1089_0
    replace hx1089_1:=bwC HB.out hx1089_1
    replace hx1089_2:=bwC HB.out hx1089_2
    have HR1089_2:=As_ hi1089_2
    have HC1089_2:=As_ hl1089_2
    clear hi1089_2 hl1089_2
    replace p1089:=eq_true p1089
    replace q1089:=eq_true q1089
    have ea_:=Option.some.inj (hx1087_2.symm.trans hx1089_2)
    injection ea_ with ea_ en_ ec_
    subst ea_
    subst ec_
    clear en_
    have p1090:0≤(x5_1:Int):=odT zA_
    have q1090:x5_1<(l1.length:Int):=odT zA_
    obtain ⟨ad1090,A1090_2,c1090_2,e1090,hx1090_0,hx1090_1,hx1090_2,hl1090_2,hi1090_2⟩:=at_T58 HR1.out x5_1 p1090 q1090
    have hw1090_2:=hx1090_2
    have hw1090_1:=hx1090_1
    have hw1090_0:=hx1090_0
    obtain rfl:ad1088=ad1090:=(by injection e1090)
    replace hx1090_0:=bwC HB.out hx1090_0
    replace hx1090_1:=bwC HB.out hx1090_1
    replace hx1090_2:=bwC HB.out hx1090_2
    have HR1090_2:=As_ hi1090_2
    have HC1090_2:=As_ hl1090_2
    clear hi1090_2 hl1090_2
    replace p1090:=eq_true p1090
    replace q1090:=eq_true q1090
    have ea_:=Option.some.inj (hx1088_2.symm.trans hx1090_2)
    injection ea_ with ea_ en_ ec_
    subst ea_
    subst ec_
    clear en_
    refine start_ (n:=38) (S:=fun w'=>w'.cell? (ad1087.add ((x5_1).toNat * 3))=some (.int .i64 ((rd_T58 l0 x5_1).f0))∧w'.cell? ⟨(ad1087.add ((x5_1).toNat * 3)).block,(ad1087.add ((x5_1).toNat * 3)).off+1,none⟩=some (.int .i64 ((rd_T58 l0 x5_1).f1))∧w'.cell? ⟨(ad1087.add ((x5_1).toNat * 3)).block,(ad1087.add ((x5_1).toNat * 3)).off+2,none⟩=some (.slice A1087_2 ((rd_T58 l0 x5_1).f2).length c1087_2)∧w'.cell? (ad1088.add ((x5_1).toNat * 3))=some (.int .i64 ((rd_T58 l1 x5_1).f0))∧w'.cell? ⟨(ad1088.add ((x5_1).toNat * 3)).block,(ad1088.add ((x5_1).toNat * 3)).off+1,none⟩=some (.int .i64 ((rd_T58 l1 x5_1).f1))∧w'.cell? ⟨(ad1088.add ((x5_1).toNat * 3)).block,(ad1088.add ((x5_1).toNat * 3)).off+2,none⟩=some (.slice A1088_2 ((rd_T58 l1 x5_1).f2).length c1088_2)∧w'.cell? (ad1087.add ((x5_1).toNat * 3))=some (.int .i64 ((rd_T58 l0 x5_1).f0))∧w'.cell? ⟨(ad1087.add ((x5_1).toNat * 3)).block,(ad1087.add ((x5_1).toNat * 3)).off+1,none⟩=some (.int .i64 ((rd_T58 l0 x5_1).f1))∧w'.cell? ⟨(ad1087.add ((x5_1).toNat * 3)).block,(ad1087.add ((x5_1).toNat * 3)).off+2,none⟩=some (.slice A1087_2 ((rd_T58 l0 x5_1).f2).length c1087_2)∧w'.cell? (ad1088.add ((x5_1).toNat * 3))=some (.int .i64 ((rd_T58 l1 x5_1).f0))∧w'.cell? ⟨(ad1088.add ((x5_1).toNat * 3)).block,(ad1088.add ((x5_1).toNat * 3)).off+1,none⟩=some (.int .i64 ((rd_T58 l1 x5_1).f1))∧w'.cell? ⟨(ad1088.add ((x5_1).toNat * 3)).block,(ad1088.add ((x5_1).toNat * 3)).off+2,none⟩=some (.slice A1088_2 ((rd_T58 l1 x5_1).f2).length c1088_2)) (ds:=[]) (bl_ 0 38) (by kernel_rfl) rfl rfl ⟨((HB.out.cell (bwL w _ hw1087_0)).trans hw1087_0),((HB.out.cell (bwL w _ hw1087_1)).trans hw1087_1),((HB.out.cell (bwL w _ hw1087_2)).trans hw1087_2),((HB.out.cell (bwL w _ hw1088_0)).trans hw1088_0),((HB.out.cell (bwL w _ hw1088_1)).trans hw1088_1),((HB.out.cell (bwL w _ hw1088_2)).trans hw1088_2),((HB.out.cell (bwL w _ hw1089_0)).trans hw1089_0),((HB.out.cell (bwL w _ hw1089_1)).trans hw1089_1),((HB.out.cell (bwL w _ hw1089_2)).trans hw1089_2),((HB.out.cell (bwL w _ hw1090_0)).trans hw1090_0),((HB.out.cell (bwL w _ hw1090_1)).trans hw1090_1),((HB.out.cell (bwL w _ hw1090_2)).trans hw1090_2)⟩ (fun hHeld=>?_);refine with_tabW laws_equalNodes.tab6 laws_equalNodes.bits6 (fun HT_ HW_=>?_)
    generalize wr.drew=w13 at HB HR1087_2 HR1088_2 HR1089_2 HR1090_2 hx1087_0 hx1087_1 hx1087_2 hx1088_0 hx1088_1 hx1088_2 hx1089_0 hx1089_1 hx1089_2 hx1090_0 hx1090_1 hx1090_2 hHeld ⊢
    refine pQ 0 17 (bl_ 1 38) HT_ rfl ?_
    refine pQ 1 18 (bl_ 3 38) HT_ rfl ?_
    refine pQ 2 19 (bl_ 7 38) HT_ rfl ?_
    refine pQ 3 20 (bl_ 15 38) HT_ rfl ?_
    refine pQ 5 22 (bl_ 47 38) HT_ rfl ?_
    refine pQ 6 23 (bl_ 111 38) HT_ rfl ?_
    refine pQ 7 24 (bl_ 239 38) HT_ rfl ?_
    refine pQ 8 25 (bl_ 495 38) HT_ rfl ?_
    refine tP 4 21 (bl_ 511 38) ?_ HT_ HW_ rfl (.inl ⟨by rfl,?_⟩) hHeld ?_ ?_ ?_;rotate_left;(rintro w' ⟨s0,s1,s2,s3,s4,s5,s6,s7,s8,s9,s10,s11⟩;go_simp;with_reducible rfl);rotate_left;(simp only [Act.put,sq_,i64_w,i32_w];rfl)
    refine tP 9 26 (bl_ 1023 38) ?_ HT_ HW_ rfl (.inl ⟨by rfl,?_⟩) hHeld ?_ ?_ ?_;rotate_left;(rintro w' ⟨s0,s1,s2,s3,s4,s5,s6,s7,s8,s9,s10,s11⟩;go_simp;with_reducible rfl);rotate_left;(simp only [Act.put,sq_,i64_w,i32_w];rfl)
    refine pQ 10 27 (bl_ 2047 38) HT_ rfl ?_
    refine pQ 11 28 (bl_ 4095 38) HT_ rfl ?_
    refine pQ 12 29 (bl_ 8191 38) HT_ rfl ?_
    refine pQ 13 30 (bl_ 16383 38) HT_ rfl ?_
    refine pQ 14 31 (bl_ 32767 38) HT_ rfl ?_
    refine pQ 15 32 (bl_ 65535 38) HT_ rfl ?_
    refine pQ 17 34 (bl_ 196607 38) HT_ rfl ?_
    refine pQ 18 35 (bl_ 458751 38) HT_ rfl ?_
    refine pQ 19 36 (bl_ 983039 38) HT_ rfl ?_
    refine pQ 20 37 (bl_ 2031615 38) HT_ rfl ?_
    refine tP 16 33 (bl_ 2097151 38) ?_ HT_ HW_ rfl (.inl ⟨by rfl,?_⟩) hHeld ?_ ?_ ?_;rotate_left;(rintro w' ⟨s0,s1,s2,s3,s4,s5,s6,s7,s8,s9,s10,s11⟩;go_simp;with_reducible rfl);rotate_left;(simp only [Act.put,sq_,i64_w,i32_w];rfl)
    refine tP 21 38 (bl_ 4194303 38) ?_ HT_ HW_ rfl (.inl ⟨by rfl,?_⟩) hHeld ?_ ?_ ?_;rotate_left;(rintro w' ⟨s0,s1,s2,s3,s4,s5,s6,s7,s8,s9,s10,s11⟩;go_simp;with_reducible rfl);rotate_left;(simp only [Act.put,sq_,i64_w,i32_w];rfl)
    refine pQ 22 39 (bl_ 8388607 38) HT_ rfl ?_
    refine pQ 23 40 (bl_ 16777215 38) HT_ rfl ?_
    refine pQ 24 41 (bl_ 33554431 38) HT_ rfl ?_
    refine uP 25 42 (bl_ 67108863 38) ?_ HT_ rfl (.inr ⟨by rfl,rfl⟩) ?_ ?_;rotate_left;(simp only [Act.put,sq_,i64_w,i32_w];rfl)
    refine uP 26 43 (bl_ 134217727 38) ?_ HT_ rfl (.inr ⟨by rfl,rfl⟩) ?_ ?_;rotate_left;(simp only [Act.put,sq_,i64_w,i32_w];rfl)
    refine uP 27 44 (bl_ 268435455 38) ?_ HT_ rfl (.inr ⟨by rfl,rfl⟩) ?_ ?_;rotate_left;(simp only [Act.put,sq_,i64_w,i32_w];rfl)
    refine uP 28 45 (bl_ 536870911 38) ?_ HT_ rfl (.inr ⟨by rfl,rfl⟩) ?_ ?_;rotate_left;(simp only [Act.put,sq_,i64_w,i32_w];rfl)
    refine uP 29 46 (bl_ 1073741823 38) ?_ HT_ rfl (.inr ⟨by rfl,rfl⟩) ?_ ?_;rotate_left;(simp only [Act.put,sq_,i64_w,i32_w];rfl)
    refine uP 30 47 (bl_ 2147483647 38) ?_ HT_ rfl (.inr ⟨by rfl,rfl⟩) ?_ ?_;rotate_left;(simp only [Act.put,sq_,i64_w,i32_w];rfl)
    refine uP 31 48 (bl_ 4294967295 38) ?_ HT_ rfl (.inr ⟨by rfl,rfl⟩) ?_ ?_;rotate_left;(simp only [Act.put,sq_,i64_w,i32_w];rfl)
    refine uP 32 49 (bl_ 8589934591 38) ?_ HT_ rfl (.inr ⟨by rfl,rfl⟩) ?_ ?_;rotate_left;(simp only [Act.put,sq_,i64_w,i32_w];rfl)
    refine uP 33 50 (bl_ 17179869183 38) ?_ HT_ rfl (.inr ⟨by rfl,rfl⟩) ?_ ?_;rotate_left;(simp only [Act.put,sq_,i64_w,i32_w];rfl)
    refine uP 34 51 (bl_ 34359738367 38) ?_ HT_ rfl (.inr ⟨by rfl,rfl⟩) ?_ ?_;rotate_left;(simp only [Act.put,sq_,i64_w,i32_w];rfl)
    refine uP 35 52 (bl_ 68719476735 38) ?_ HT_ rfl (.inr ⟨by rfl,rfl⟩) ?_ ?_;rotate_left;(simp only [Act.put,sq_,i64_w,i32_w];rfl)
    refine uP 36 53 (bl_ 137438953471 38) ?_ HT_ rfl (.inr ⟨by rfl,rfl⟩) ?_ ?_;rotate_left;(simp only [Act.put,sq_,i64_w,i32_w];rfl)
    refine pQ 37 54 (bl_ 274877906943 38) HT_ rfl ?_
    refine done_ (done_of HT_.out (by kernel_rfl)) ?_
    try go_wp2
    go_ret
    exact ⟨zE_,zb0 HB.out⟩
   rw [if_pos c8] at H
   have c8b0:(((rd_T58 l0 x5_1).f1) == ((rd_T58 l1 x5_1).f1))=true:=beq_iff_eq.mpr c8
   have c8b1:(((rd_T58 l0 x5_1).f1) != ((rd_T58 l1 x5_1).f1))=false:=bne_eq_false_iff_eq.mpr c8
   clear c8
   replace H:=obS H
   obtain ⟨t1093,A90,H⟩:=H
   replace H:(if t1093=true then (laws_equalNodes.l0 k1 l0 l1 (wrap64 (x5_1+1))) else (some false))=some r:=H
   have A9:=As_ A90
   clear A90
   by_cases c10:t1093=true
   rotate_left
   ·replace c10:=Bool.eq_false_iff.mpr c10
    subst c10
    have H1:(some false)=some r:=by rw [if_neg (show ¬ (false=true) by decide)] at H;exact H
    clear H
    have H:=H1
    clear H1
    obtain rfl:=Option.some.inj H
    try go_wp2
    have n0_:=As_ (bwD HB.out)
    clear HB
    revert n0_;intro HB
    have p1087:0≤(x5_1:Int):=odT zA_
    have q1087:x5_1<(l0.length:Int):=odT zA_
    obtain ⟨ad1087,A1087_2,c1087_2,e1087,hx1087_0,hx1087_1,hx1087_2,hl1087_2,hi1087_2⟩:=at_T58 HR0.out x5_1 p1087 q1087
    have hw1087_2:=hx1087_2
    have hw1087_1:=hx1087_1
    have hw1087_0:=hx1087_0
    cases e1087
    replace hx1087_0:=bwC HB.out hx1087_0
    replace hx1087_1:=bwC HB.out hx1087_1
    replace hx1087_2:=bwC HB.out hx1087_2
    have HR1087_2:=As_ hi1087_2
    have HC1087_2:=As_ hl1087_2
    clear hi1087_2 hl1087_2
    replace p1087:=eq_true p1087
    replace q1087:=eq_true q1087
    have p1088:0≤(x5_1:Int):=odT zA_
    have q1088:x5_1<(l1.length:Int):=odT zA_
    obtain ⟨ad1088,A1088_2,c1088_2,e1088,hx1088_0,hx1088_1,hx1088_2,hl1088_2,hi1088_2⟩:=at_T58 HR1.out x5_1 p1088 q1088
    have hw1088_2:=hx1088_2
    have hw1088_1:=hx1088_1
    have hw1088_0:=hx1088_0
    cases e1088
    replace hx1088_0:=bwC HB.out hx1088_0
    replace hx1088_1:=bwC HB.out hx1088_1
    replace hx1088_2:=bwC HB.out hx1088_2
    have HR1088_2:=As_ hi1088_2
    have HC1088_2:=As_ hl1088_2
    clear hi1088_2 hl1088_2
    replace p1088:=eq_true p1088
    replace q1088:=eq_true q1088
    have p1089:0≤(x5_1:Int):=odT zA_
    have q1089:x5_1<(l0.length:Int):=odT zA_
    obtain ⟨ad1089,A1089_2,c1089_2,e1089,hx1089_0,hx1089_1,hx1089_2,hl1089_2,hi1089_2⟩:=at_T58 HR0.out x5_1 p1089 q1089
    have hw1089_2:=hx1089_2
    have hw1089_1:=hx1089_1
    have hw1089_0:=hx1089_0
    obtain rfl:ad1087=ad1089:=(by injection e1089)
    replace hx1089_0:=bwC HB.out hx1089_0
    replace hx1089_1:=bwC HB.out hx1089_1
    replace hx1089_2:=bwC HB.out hx1089_2
    have HR1089_2:=As_ hi1089_2
    have HC1089_2:=As_ hl1089_2
    clear hi1089_2 hl1089_2
    replace p1089:=eq_true p1089
    replace q1089:=eq_true q1089
    have ea_:=Option.some.inj (hx1087_2.symm.trans hx1089_2)
    injection ea_ with ea_ en_ ec_
    subst ea_
    subst ec_
    clear en_
    have p1090:0≤(x5_1:Int):=odT zA_
    have q1090:x5_1<(l1.length:Int):=odT zA_
    obtain ⟨ad1090,A1090_2,c1090_2,e1090,hx1090_0,hx1090_1,hx1090_2,hl1090_2,hi1090_2⟩:=at_T58 HR1.out x5_1 p1090 q1090
    have hw1090_2:=hx1090_2
    have hw1090_1:=hx1090_1
    have hw1090_0:=hx1090_0
    obtain rfl:ad1088=ad1090:=(by injection e1090)
    replace hx1090_0:=bwC HB.out hx1090_0
    replace hx1090_1:=bwC HB.out hx1090_1
    replace hx1090_2:=bwC HB.out hx1090_2
    have HR1090_2:=As_ hi1090_2
    have HC1090_2:=As_ hl1090_2
    clear hi1090_2 hl1090_2
    replace p1090:=eq_true p1090
    replace q1090:=eq_true q1090
    have ea_:=Option.some.inj (hx1088_2.symm.trans hx1090_2)
    injection ea_ with ea_ en_ ec_
    subst ea_
    subst ec_
    clear en_
    have p1091:0≤(x5_1:Int):=odT zA_
    have q1091:x5_1<(l0.length:Int):=odT zA_
    obtain ⟨ad1091,A1091_2,c1091_2,e1091,hx1091_0,hx1091_1,hx1091_2,hl1091_2,hi1091_2⟩:=at_T58 HR0.out x5_1 p1091 q1091
    have hw1091_2:=hx1091_2
    have hw1091_1:=hx1091_1
    have hw1091_0:=hx1091_0
    obtain rfl:ad1087=ad1091:=(by injection e1091)
    replace hx1091_0:=bwC HB.out hx1091_0
    replace hx1091_1:=bwC HB.out hx1091_1
    replace hx1091_2:=bwC HB.out hx1091_2
    have HR1091_2:=As_ hi1091_2
    have HC1091_2:=As_ hl1091_2
    clear hi1091_2 hl1091_2
    replace p1091:=eq_true p1091
    replace q1091:=eq_true q1091
    have ea_:=Option.some.inj (hx1087_2.symm.trans hx1091_2)
    injection ea_ with ea_ en_ ec_
    subst ea_
    subst ec_
    clear en_
    have p1092:0≤(x5_1:Int):=odT zA_
    have q1092:x5_1<(l1.length:Int):=odT zA_
    obtain ⟨ad1092,A1092_2,c1092_2,e1092,hx1092_0,hx1092_1,hx1092_2,hl1092_2,hi1092_2⟩:=at_T58 HR1.out x5_1 p1092 q1092
    have hw1092_2:=hx1092_2
    have hw1092_1:=hx1092_1
    have hw1092_0:=hx1092_0
    obtain rfl:ad1088=ad1092:=(by injection e1092)
    replace hx1092_0:=bwC HB.out hx1092_0
    replace hx1092_1:=bwC HB.out hx1092_1
    replace hx1092_2:=bwC HB.out hx1092_2
    have HR1092_2:=As_ hi1092_2
    have HC1092_2:=As_ hl1092_2
    clear hi1092_2 hl1092_2
    replace p1092:=eq_true p1092
    replace q1092:=eq_true q1092
    have ea_:=Option.some.inj (hx1088_2.symm.trans hx1092_2)
    injection ea_ with ea_ en_ ec_
    subst ea_
    subst ec_
    clear en_
    refine start_ (n:=38) (S:=fun w'=>w'.cell? (ad1087.add ((x5_1).toNat * 3))=some (.int .i64 ((rd_T58 l0 x5_1).f0))∧w'.cell? ⟨(ad1087.add ((x5_1).toNat * 3)).block,(ad1087.add ((x5_1).toNat * 3)).off+1,none⟩=some (.int .i64 ((rd_T58 l0 x5_1).f1))∧w'.cell? ⟨(ad1087.add ((x5_1).toNat * 3)).block,(ad1087.add ((x5_1).toNat * 3)).off+2,none⟩=some (.slice A1087_2 ((rd_T58 l0 x5_1).f2).length c1087_2)∧w'.cell? (ad1088.add ((x5_1).toNat * 3))=some (.int .i64 ((rd_T58 l1 x5_1).f0))∧w'.cell? ⟨(ad1088.add ((x5_1).toNat * 3)).block,(ad1088.add ((x5_1).toNat * 3)).off+1,none⟩=some (.int .i64 ((rd_T58 l1 x5_1).f1))∧w'.cell? ⟨(ad1088.add ((x5_1).toNat * 3)).block,(ad1088.add ((x5_1).toNat * 3)).off+2,none⟩=some (.slice A1088_2 ((rd_T58 l1 x5_1).f2).length c1088_2)∧w'.cell? (ad1087.add ((x5_1).toNat * 3))=some (.int .i64 ((rd_T58 l0 x5_1).f0))∧w'.cell? ⟨(ad1087.add ((x5_1).toNat * 3)).block,(ad1087.add ((x5_1).toNat * 3)).off+1,none⟩=some (.int .i64 ((rd_T58 l0 x5_1).f1))∧w'.cell? ⟨(ad1087.add ((x5_1).toNat * 3)).block,(ad1087.add ((x5_1).toNat * 3)).off+2,none⟩=some (.slice A1087_2 ((rd_T58 l0 x5_1).f2).length c1087_2)∧w'.cell? (ad1088.add ((x5_1).toNat * 3))=some (.int .i64 ((rd_T58 l1 x5_1).f0))∧w'.cell? ⟨(ad1088.add ((x5_1).toNat * 3)).block,(ad1088.add ((x5_1).toNat * 3)).off+1,none⟩=some (.int .i64 ((rd_T58 l1 x5_1).f1))∧w'.cell? ⟨(ad1088.add ((x5_1).toNat * 3)).block,(ad1088.add ((x5_1).toNat * 3)).off+2,none⟩=some (.slice A1088_2 ((rd_T58 l1 x5_1).f2).length c1088_2)∧w'.cell? (ad1087.add ((x5_1).toNat * 3))=some (.int .i64 ((rd_T58 l0 x5_1).f0))∧w'.cell? ⟨(ad1087.add ((x5_1).toNat * 3)).block,(ad1087.add ((x5_1).toNat * 3)).off+1,none⟩=some (.int .i64 ((rd_T58 l0 x5_1).f1))∧w'.cell? ⟨(ad1087.add ((x5_1).toNat * 3)).block,(ad1087.add ((x5_1).toNat * 3)).off+2,none⟩=some (.slice A1087_2 ((rd_T58 l0 x5_1).f2).length c1087_2)∧w'.cell? (ad1088.add ((x5_1).toNat * 3))=some (.int .i64 ((rd_T58 l1 x5_1).f0))∧w'.cell? ⟨(ad1088.add ((x5_1).toNat * 3)).block,(ad1088.add ((x5_1).toNat * 3)).off+1,none⟩=some (.int .i64 ((rd_T58 l1 x5_1).f1))∧w'.cell? ⟨(ad1088.add ((x5_1).toNat * 3)).block,(ad1088.add ((x5_1).toNat * 3)).off+2,none⟩=some (.slice A1088_2 ((rd_T58 l1 x5_1).f2).length c1088_2)) (ds:=[]) (bl_ 0 38) (by kernel_rfl) rfl rfl ⟨((HB.out.cell (bwL w _ hw1087_0)).trans hw1087_0),((HB.out.cell (bwL w _ hw1087_1)).trans hw1087_1),((HB.out.cell (bwL w _ hw1087_2)).trans hw1087_2),((HB.out.cell (bwL w _ hw1088_0)).trans hw1088_0),((HB.out.cell (bwL w _ hw1088_1)).trans hw1088_1),((HB.out.cell (bwL w _ hw1088_2)).trans hw1088_2),((HB.out.cell (bwL w _ hw1089_0)).trans hw1089_0),((HB.out.cell (bwL w _ hw1089_1)).trans hw1089_1),((HB.out.cell (bwL w _ hw1089_2)).trans hw1089_2),((HB.out.cell (bwL w _ hw1090_0)).trans hw1090_0),((HB.out.cell (bwL w _ hw1090_1)).trans hw1090_1),((HB.out.cell (bwL w _ hw1090_2)).trans hw1090_2),((HB.out.cell (bwL w _ hw1091_0)).trans hw1091_0),((HB.out.cell (bwL w _ hw1091_1)).trans hw1091_1),((HB.out.cell (bwL w _ hw1091_2)).trans hw1091_2),((HB.out.cell (bwL w _ hw1092_0)).trans hw1092_0),((HB.out.cell (bwL w _ hw1092_1)).trans hw1092_1),((HB.out.cell (bwL w _ hw1092_2)).trans hw1092_2)⟩ (fun hHeld=>?_);refine with_tabW laws_equalNodes.tab6 laws_equalNodes.bits6 (fun HT_ HW_=>?_)
    generalize wr.drew=w12 at HB HR1087_2 HR1088_2 HR1089_2 HR1090_2 HR1091_2 HR1092_2 hx1087_0 hx1087_1 hx1087_2 hx1088_0 hx1088_1 hx1088_2 hx1089_0 hx1089_1 hx1089_2 hx1090_0 hx1090_1 hx1090_2 hx1091_0 hx1091_1 hx1091_2 hx1092_0 hx1092_1 hx1092_2 hHeld ⊢
    refine pQ 0 17 (bl_ 1 38) HT_ rfl ?_
    refine pQ 1 18 (bl_ 3 38) HT_ rfl ?_
    refine pQ 2 19 (bl_ 7 38) HT_ rfl ?_
    refine pQ 3 20 (bl_ 15 38) HT_ rfl ?_
    refine pQ 5 22 (bl_ 47 38) HT_ rfl ?_
    refine pQ 6 23 (bl_ 111 38) HT_ rfl ?_
    refine pQ 7 24 (bl_ 239 38) HT_ rfl ?_
    refine pQ 8 25 (bl_ 495 38) HT_ rfl ?_
    refine tP 4 21 (bl_ 511 38) ?_ HT_ HW_ rfl (.inl ⟨by rfl,?_⟩) hHeld ?_ ?_ ?_;rotate_left;(rintro w' ⟨s0,s1,s2,s3,s4,s5,s6,s7,s8,s9,s10,s11,s12,s13,s14,s15,s16,s17⟩;go_simp;with_reducible rfl);rotate_left;(simp only [Act.put,sq_,i64_w,i32_w];rfl)
    refine tP 9 26 (bl_ 1023 38) ?_ HT_ HW_ rfl (.inl ⟨by rfl,?_⟩) hHeld ?_ ?_ ?_;rotate_left;(rintro w' ⟨s0,s1,s2,s3,s4,s5,s6,s7,s8,s9,s10,s11,s12,s13,s14,s15,s16,s17⟩;go_simp;with_reducible rfl);rotate_left;(simp only [Act.put,sq_,i64_w,i32_w];rfl)
    refine pQ 10 27 (bl_ 2047 38) HT_ rfl ?_
    refine pQ 11 28 (bl_ 4095 38) HT_ rfl ?_
    refine pQ 12 29 (bl_ 8191 38) HT_ rfl ?_
    refine pQ 13 30 (bl_ 16383 38) HT_ rfl ?_
    refine pQ 14 31 (bl_ 32767 38) HT_ rfl ?_
    refine pQ 15 32 (bl_ 65535 38) HT_ rfl ?_
    refine pQ 17 34 (bl_ 196607 38) HT_ rfl ?_
    refine pQ 18 35 (bl_ 458751 38) HT_ rfl ?_
    refine pQ 19 36 (bl_ 983039 38) HT_ rfl ?_
    refine pQ 20 37 (bl_ 2031615 38) HT_ rfl ?_
    refine tP 16 33 (bl_ 2097151 38) ?_ HT_ HW_ rfl (.inl ⟨by rfl,?_⟩) hHeld ?_ ?_ ?_;rotate_left;(rintro w' ⟨s0,s1,s2,s3,s4,s5,s6,s7,s8,s9,s10,s11,s12,s13,s14,s15,s16,s17⟩;go_simp;with_reducible rfl);rotate_left;(simp only [Act.put,sq_,i64_w,i32_w];rfl)
    refine tP 21 38 (bl_ 4194303 38) ?_ HT_ HW_ rfl (.inl ⟨by rfl,?_⟩) hHeld ?_ ?_ ?_;rotate_left;(rintro w' ⟨s0,s1,s2,s3,s4,s5,s6,s7,s8,s9,s10,s11,s12,s13,s14,s15,s16,s17⟩;go_simp;with_reducible rfl);rotate_left;(simp only [Act.put,sq_,i64_w,i32_w];rfl)
    refine pQ 22 39 (bl_ 8388607 38) HT_ rfl ?_
    refine pQ 23 40 (bl_ 16777215 38) HT_ rfl ?_
    refine pQ 24 41 (bl_ 33554431 38) HT_ rfl ?_
    refine pQ 25 42 (bl_ 67108863 38) HT_ rfl ?_
    refine pQ 26 43 (bl_ 134217727 38) HT_ rfl ?_
    refine pQ 27 44 (bl_ 268435455 38) HT_ rfl ?_
    refine pQ 28 45 (bl_ 536870911 38) HT_ rfl ?_
    refine pQ 30 47 (bl_ 1610612735 38) HT_ rfl ?_
    refine pQ 31 48 (bl_ 3758096383 38) HT_ rfl ?_
    refine pQ 32 49 (bl_ 8053063679 38) HT_ rfl ?_
    refine pQ 33 50 (bl_ 16642998271 38) HT_ rfl ?_
    refine tP 29 46 (bl_ 17179869183 38) ?_ HT_ HW_ rfl (.inl ⟨by rfl,?_⟩) hHeld ?_ ?_ ?_;rotate_left;(rintro w' ⟨s0,s1,s2,s3,s4,s5,s6,s7,s8,s9,s10,s11,s12,s13,s14,s15,s16,s17⟩;go_simp;with_reducible rfl);rotate_left;(simp only [Act.put,sq_,i64_w,i32_w];rfl)
    refine tP 34 51 (bl_ 34359738367 38) ?_ HT_ HW_ rfl (.inl ⟨by rfl,?_⟩) hHeld ?_ ?_ ?_;rotate_left;(rintro w' ⟨s0,s1,s2,s3,s4,s5,s6,s7,s8,s9,s10,s11,s12,s13,s14,s15,s16,s17⟩;go_simp;with_reducible rfl);rotate_left;(simp only [Act.put,sq_,i64_w,i32_w];rfl)
    refine one_ (i:=35) (N:=some 52) (bl_ 68719476735 38) rfl rfl (one_of HT_.out (by kernel_rfl)) (by decide) (fun K hK=>?_)
    refine goes_ Try.func13 (by kernel_rfl) rfl #[.slice A1087_2 ((rd_T58 l0 x5_1).f2).length c1087_2,.slice A1088_2 ((rd_T58 l1 x5_1).f2).length c1088_2] (by rfl) rfl rfl zM_ ?_
    with_reducible refine (laws_equalInts.calls k1 _ _ ((rd_T58 l0 x5_1).f2) _ _ ((rd_T58 l1 x5_1).f2) false _ ?side1 ?side2 ?side3 ?side4 A9.out).mono ?_
    (case side1=>exact zC_ (Kd.C_below HR1091_2.out HB.out))
    (case side2=>exact HC1091_2.out)
    (case side3=>exact zC_ (Kd.C_below HR1092_2.out HB.out))
    (case side4=>exact HC1092_2.out)
    rintro e w' ⟨rfl,⟨nd,rfl⟩⟩
    refine ⟨_,rfl,?_⟩
    refine hK.out _ _ ⟨((HB.out.cell (bwL w _ hw1087_0)).trans hw1087_0),((HB.out.cell (bwL w _ hw1087_1)).trans hw1087_1),((HB.out.cell (bwL w _ hw1087_2)).trans hw1087_2),((HB.out.cell (bwL w _ hw1088_0)).trans hw1088_0),((HB.out.cell (bwL w _ hw1088_1)).trans hw1088_1),((HB.out.cell (bwL w _ hw1088_2)).trans hw1088_2),((HB.out.cell (bwL w _ hw1089_0)).trans hw1089_0),((HB.out.cell (bwL w _ hw1089_1)).trans hw1089_1),((HB.out.cell (bwL w _ hw1089_2)).trans hw1089_2),((HB.out.cell (bwL w _ hw1090_0)).trans hw1090_0),((HB.out.cell (bwL w _ hw1090_1)).trans hw1090_1),((HB.out.cell (bwL w _ hw1090_2)).trans hw1090_2),((HB.out.cell (bwL w _ hw1091_0)).trans hw1091_0),((HB.out.cell (bwL w _ hw1091_1)).trans hw1091_1),((HB.out.cell (bwL w _ hw1091_2)).trans hw1091_2),((HB.out.cell (bwL w _ hw1092_0)).trans hw1092_0),((HB.out.cell (bwL w _ hw1092_1)).trans hw1092_1),((HB.out.cell (bwL w _ hw1092_2)).trans hw1092_2)⟩ (fun hHeld=>?_)
    clear hK K
    refine norm_ (a':=?_) ?_ ?_
    rotate_left
    ·show Act.put _ (some 52) _=_
     simp only [Act.put,sq_,i64_w,i32_w]
     rfl
    refine pQ 36 53 (bl_ 137438953471 38) HT_ rfl ?_
    refine pQ 37 54 (bl_ 274877906943 38) HT_ rfl ?_
    refine done_ (done_of HT_.out (by kernel_rfl)) ?_
    try go_wp2
    go_ret
    exact ⟨zE_,zb0 HB.out⟩
   subst c10
   have H1:(laws_equalNodes.l0 k1 l0 l1 (wrap64 (x5_1+1)))=some r:=by rw [if_pos rfl] at H;exact H
   clear H
   have H:=H1
   clear H1
   have H':=As_ H
   clear H
   try go_wp2
   have n0_:=As_ (bwD HB.out)
   clear HB
   revert n0_;intro HB
   have p1087:0≤(x5_1:Int):=odT zA_
   have q1087:x5_1<(l0.length:Int):=odT zA_
   obtain ⟨ad1087,A1087_2,c1087_2,e1087,hx1087_0,hx1087_1,hx1087_2,hl1087_2,hi1087_2⟩:=at_T58 HR0.out x5_1 p1087 q1087
   have hw1087_2:=hx1087_2
   have hw1087_1:=hx1087_1
   have hw1087_0:=hx1087_0
   cases e1087
   replace hx1087_0:=bwC HB.out hx1087_0
   replace hx1087_1:=bwC HB.out hx1087_1
   replace hx1087_2:=bwC HB.out hx1087_2
   have HR1087_2:=As_ hi1087_2
   have HC1087_2:=As_ hl1087_2
   clear hi1087_2 hl1087_2
   replace p1087:=eq_true p1087
   replace q1087:=eq_true q1087
   have p1088:0≤(x5_1:Int):=odT zA_
   have q1088:x5_1<(l1.length:Int):=odT zA_
   obtain ⟨ad1088,A1088_2,c1088_2,e1088,hx1088_0,hx1088_1,hx1088_2,hl1088_2,hi1088_2⟩:=at_T58 HR1.out x5_1 p1088 q1088
   have hw1088_2:=hx1088_2
   have hw1088_1:=hx1088_1
   have hw1088_0:=hx1088_0
   cases e1088
   replace hx1088_0:=bwC HB.out hx1088_0
   replace hx1088_1:=bwC HB.out hx1088_1
   replace hx1088_2:=bwC HB.out hx1088_2
   have HR1088_2:=As_ hi1088_2
   have HC1088_2:=As_ hl1088_2
   clear hi1088_2 hl1088_2
   replace p1088:=eq_true p1088
   replace q1088:=eq_true q1088
   have p1089:0≤(x5_1:Int):=odT zA_
   have q1089:x5_1<(l0.length:Int):=odT zA_
   obtain ⟨ad1089,A1089_2,c1089_2,e1089,hx1089_0,hx1089_1,hx1089_2,hl1089_2,hi1089_2⟩:=at_T58 HR0.out x5_1 p1089 q1089
   have hw1089_2:=hx1089_2
   have hw1089_1:=hx1089_1
   have hw1089_0:=hx1089_0
   obtain rfl:ad1087=ad1089:=(by injection e1089)
   replace hx1089_0:=bwC HB.out hx1089_0
   replace hx1089_1:=bwC HB.out hx1089_1
   replace hx1089_2:=bwC HB.out hx1089_2
   have HR1089_2:=As_ hi1089_2
   have HC1089_2:=As_ hl1089_2
   clear hi1089_2 hl1089_2
   replace p1089:=eq_true p1089
   replace q1089:=eq_true q1089
   have ea_:=Option.some.inj (hx1087_2.symm.trans hx1089_2)
   injection ea_ with ea_ en_ ec_
   subst ea_
   subst ec_
   clear en_
   have p1090:0≤(x5_1:Int):=odT zA_
   have q1090:x5_1<(l1.length:Int):=odT zA_
   obtain ⟨ad1090,A1090_2,c1090_2,e1090,hx1090_0,hx1090_1,hx1090_2,hl1090_2,hi1090_2⟩:=at_T58 HR1.out x5_1 p1090 q1090
   have hw1090_2:=hx1090_2
   have hw1090_1:=hx1090_1
   have hw1090_0:=hx1090_0
   obtain rfl:ad1088=ad1090:=(by injection e1090)
   replace hx1090_0:=bwC HB.out hx1090_0
   replace hx1090_1:=bwC HB.out hx1090_1
   replace hx1090_2:=bwC HB.out hx1090_2
   have HR1090_2:=As_ hi1090_2
   have HC1090_2:=As_ hl1090_2
   clear hi1090_2 hl1090_2
   replace p1090:=eq_true p1090
   replace q1090:=eq_true q1090
   have ea_:=Option.some.inj (hx1088_2.symm.trans hx1090_2)
   injection ea_ with ea_ en_ ec_
   subst ea_
   subst ec_
   clear en_
   have p1091:0≤(x5_1:Int):=odT zA_
   have q1091:x5_1<(l0.length:Int):=odT zA_
   obtain ⟨ad1091,A1091_2,c1091_2,e1091,hx1091_0,hx1091_1,hx1091_2,hl1091_2,hi1091_2⟩:=at_T58 HR0.out x5_1 p1091 q1091
   have hw1091_2:=hx1091_2
   have hw1091_1:=hx1091_1
   have hw1091_0:=hx1091_0
   obtain rfl:ad1087=ad1091:=(by injection e1091)
   replace hx1091_0:=bwC HB.out hx1091_0
   replace hx1091_1:=bwC HB.out hx1091_1
   replace hx1091_2:=bwC HB.out hx1091_2
   have HR1091_2:=As_ hi1091_2
   have HC1091_2:=As_ hl1091_2
   clear hi1091_2 hl1091_2
   replace p1091:=eq_true p1091
   replace q1091:=eq_true q1091
   have ea_:=Option.some.inj (hx1087_2.symm.trans hx1091_2)
   injection ea_ with ea_ en_ ec_
   subst ea_
   subst ec_
   clear en_
   have p1092:0≤(x5_1:Int):=odT zA_
   have q1092:x5_1<(l1.length:Int):=odT zA_
   obtain ⟨ad1092,A1092_2,c1092_2,e1092,hx1092_0,hx1092_1,hx1092_2,hl1092_2,hi1092_2⟩:=at_T58 HR1.out x5_1 p1092 q1092
   have hw1092_2:=hx1092_2
   have hw1092_1:=hx1092_1
   have hw1092_0:=hx1092_0
   obtain rfl:ad1088=ad1092:=(by injection e1092)
   replace hx1092_0:=bwC HB.out hx1092_0
   replace hx1092_1:=bwC HB.out hx1092_1
   replace hx1092_2:=bwC HB.out hx1092_2
   have HR1092_2:=As_ hi1092_2
   have HC1092_2:=As_ hl1092_2
   clear hi1092_2 hl1092_2
   replace p1092:=eq_true p1092
   replace q1092:=eq_true q1092
   have ea_:=Option.some.inj (hx1088_2.symm.trans hx1092_2)
   injection ea_ with ea_ en_ ec_
   subst ea_
   subst ec_
   clear en_
   refine start_ (n:=38) (S:=fun w'=>w'.cell? (ad1087.add ((x5_1).toNat * 3))=some (.int .i64 ((rd_T58 l0 x5_1).f0))∧w'.cell? ⟨(ad1087.add ((x5_1).toNat * 3)).block,(ad1087.add ((x5_1).toNat * 3)).off+1,none⟩=some (.int .i64 ((rd_T58 l0 x5_1).f1))∧w'.cell? ⟨(ad1087.add ((x5_1).toNat * 3)).block,(ad1087.add ((x5_1).toNat * 3)).off+2,none⟩=some (.slice A1087_2 ((rd_T58 l0 x5_1).f2).length c1087_2)∧w'.cell? (ad1088.add ((x5_1).toNat * 3))=some (.int .i64 ((rd_T58 l1 x5_1).f0))∧w'.cell? ⟨(ad1088.add ((x5_1).toNat * 3)).block,(ad1088.add ((x5_1).toNat * 3)).off+1,none⟩=some (.int .i64 ((rd_T58 l1 x5_1).f1))∧w'.cell? ⟨(ad1088.add ((x5_1).toNat * 3)).block,(ad1088.add ((x5_1).toNat * 3)).off+2,none⟩=some (.slice A1088_2 ((rd_T58 l1 x5_1).f2).length c1088_2)∧w'.cell? (ad1087.add ((x5_1).toNat * 3))=some (.int .i64 ((rd_T58 l0 x5_1).f0))∧w'.cell? ⟨(ad1087.add ((x5_1).toNat * 3)).block,(ad1087.add ((x5_1).toNat * 3)).off+1,none⟩=some (.int .i64 ((rd_T58 l0 x5_1).f1))∧w'.cell? ⟨(ad1087.add ((x5_1).toNat * 3)).block,(ad1087.add ((x5_1).toNat * 3)).off+2,none⟩=some (.slice A1087_2 ((rd_T58 l0 x5_1).f2).length c1087_2)∧w'.cell? (ad1088.add ((x5_1).toNat * 3))=some (.int .i64 ((rd_T58 l1 x5_1).f0))∧w'.cell? ⟨(ad1088.add ((x5_1).toNat * 3)).block,(ad1088.add ((x5_1).toNat * 3)).off+1,none⟩=some (.int .i64 ((rd_T58 l1 x5_1).f1))∧w'.cell? ⟨(ad1088.add ((x5_1).toNat * 3)).block,(ad1088.add ((x5_1).toNat * 3)).off+2,none⟩=some (.slice A1088_2 ((rd_T58 l1 x5_1).f2).length c1088_2)∧w'.cell? (ad1087.add ((x5_1).toNat * 3))=some (.int .i64 ((rd_T58 l0 x5_1).f0))∧w'.cell? ⟨(ad1087.add ((x5_1).toNat * 3)).block,(ad1087.add ((x5_1).toNat * 3)).off+1,none⟩=some (.int .i64 ((rd_T58 l0 x5_1).f1))∧w'.cell? ⟨(ad1087.add ((x5_1).toNat * 3)).block,(ad1087.add ((x5_1).toNat * 3)).off+2,none⟩=some (.slice A1087_2 ((rd_T58 l0 x5_1).f2).length c1087_2)∧w'.cell? (ad1088.add ((x5_1).toNat * 3))=some (.int .i64 ((rd_T58 l1 x5_1).f0))∧w'.cell? ⟨(ad1088.add ((x5_1).toNat * 3)).block,(ad1088.add ((x5_1).toNat * 3)).off+1,none⟩=some (.int .i64 ((rd_T58 l1 x5_1).f1))∧w'.cell? ⟨(ad1088.add ((x5_1).toNat * 3)).block,(ad1088.add ((x5_1).toNat * 3)).off+2,none⟩=some (.slice A1088_2 ((rd_T58 l1 x5_1).f2).length c1088_2)) (ds:=[]) (bl_ 0 38) (by kernel_rfl) rfl rfl ⟨((HB.out.cell (bwL w _ hw1087_0)).trans hw1087_0),((HB.out.cell (bwL w _ hw1087_1)).trans hw1087_1),((HB.out.cell (bwL w _ hw1087_2)).trans hw1087_2),((HB.out.cell (bwL w _ hw1088_0)).trans hw1088_0),((HB.out.cell (bwL w _ hw1088_1)).trans hw1088_1),((HB.out.cell (bwL w _ hw1088_2)).trans hw1088_2),((HB.out.cell (bwL w _ hw1089_0)).trans hw1089_0),((HB.out.cell (bwL w _ hw1089_1)).trans hw1089_1),((HB.out.cell (bwL w _ hw1089_2)).trans hw1089_2),((HB.out.cell (bwL w _ hw1090_0)).trans hw1090_0),((HB.out.cell (bwL w _ hw1090_1)).trans hw1090_1),((HB.out.cell (bwL w _ hw1090_2)).trans hw1090_2),((HB.out.cell (bwL w _ hw1091_0)).trans hw1091_0),((HB.out.cell (bwL w _ hw1091_1)).trans hw1091_1),((HB.out.cell (bwL w _ hw1091_2)).trans hw1091_2),((HB.out.cell (bwL w _ hw1092_0)).trans hw1092_0),((HB.out.cell (bwL w _ hw1092_1)).trans hw1092_1),((HB.out.cell (bwL w _ hw1092_2)).trans hw1092_2)⟩ (fun hHeld=>?_);refine with_tabW laws_equalNodes.tab6 laws_equalNodes.bits6 (fun HT_ HW_=>?_)
   generalize wr.drew=w11 at HB HR1087_2 HR1088_2 HR1089_2 HR1090_2 HR1091_2 HR1092_2 hx1087_0 hx1087_1 hx1087_2 hx1088_0 hx1088_1 hx1088_2 hx1089_0 hx1089_1 hx1089_2 hx1090_0 hx1090_1 hx1090_2 hx1091_0 hx1091_1 hx1091_2 hx1092_0 hx1092_1 hx1092_2 hHeld ⊢
   refine pQ 0 17 (bl_ 1 38) HT_ rfl ?_
   refine pQ 1 18 (bl_ 3 38) HT_ rfl ?_
   refine pQ 2 19 (bl_ 7 38) HT_ rfl ?_
   refine pQ 3 20 (bl_ 15 38) HT_ rfl ?_
   refine pQ 5 22 (bl_ 47 38) HT_ rfl ?_
   refine pQ 6 23 (bl_ 111 38) HT_ rfl ?_
   refine pQ 7 24 (bl_ 239 38) HT_ rfl ?_
   refine pQ 8 25 (bl_ 495 38) HT_ rfl ?_
   refine tP 4 21 (bl_ 511 38) ?_ HT_ HW_ rfl (.inl ⟨by rfl,?_⟩) hHeld ?_ ?_ ?_;rotate_left;(rintro w' ⟨s0,s1,s2,s3,s4,s5,s6,s7,s8,s9,s10,s11,s12,s13,s14,s15,s16,s17⟩;go_simp;with_reducible rfl);rotate_left;(simp only [Act.put,sq_,i64_w,i32_w];rfl)
   refine tP 9 26 (bl_ 1023 38) ?_ HT_ HW_ rfl (.inl ⟨by rfl,?_⟩) hHeld ?_ ?_ ?_;rotate_left;(rintro w' ⟨s0,s1,s2,s3,s4,s5,s6,s7,s8,s9,s10,s11,s12,s13,s14,s15,s16,s17⟩;go_simp;with_reducible rfl);rotate_left;(simp only [Act.put,sq_,i64_w,i32_w];rfl)
   refine pQ 10 27 (bl_ 2047 38) HT_ rfl ?_
   refine pQ 11 28 (bl_ 4095 38) HT_ rfl ?_
   refine pQ 12 29 (bl_ 8191 38) HT_ rfl ?_
   refine pQ 13 30 (bl_ 16383 38) HT_ rfl ?_
   refine pQ 14 31 (bl_ 32767 38) HT_ rfl ?_
   refine pQ 15 32 (bl_ 65535 38) HT_ rfl ?_
   refine pQ 17 34 (bl_ 196607 38) HT_ rfl ?_
   refine pQ 18 35 (bl_ 458751 38) HT_ rfl ?_
   refine pQ 19 36 (bl_ 983039 38) HT_ rfl ?_
   refine pQ 20 37 (bl_ 2031615 38) HT_ rfl ?_
   refine tP 16 33 (bl_ 2097151 38) ?_ HT_ HW_ rfl (.inl ⟨by rfl,?_⟩) hHeld ?_ ?_ ?_;rotate_left;(rintro w' ⟨s0,s1,s2,s3,s4,s5,s6,s7,s8,s9,s10,s11,s12,s13,s14,s15,s16,s17⟩;go_simp;with_reducible rfl);rotate_left;(simp only [Act.put,sq_,i64_w,i32_w];rfl)
   refine tP 21 38 (bl_ 4194303 38) ?_ HT_ HW_ rfl (.inl ⟨by rfl,?_⟩) hHeld ?_ ?_ ?_;rotate_left;(rintro w' ⟨s0,s1,s2,s3,s4,s5,s6,s7,s8,s9,s10,s11,s12,s13,s14,s15,s16,s17⟩;go_simp;with_reducible rfl);rotate_left;(simp only [Act.put,sq_,i64_w,i32_w];rfl)
   refine pQ 22 39 (bl_ 8388607 38) HT_ rfl ?_
   refine pQ 23 40 (bl_ 16777215 38) HT_ rfl ?_
   refine pQ 24 41 (bl_ 33554431 38) HT_ rfl ?_
   refine pQ 25 42 (bl_ 67108863 38) HT_ rfl ?_
   refine pQ 26 43 (bl_ 134217727 38) HT_ rfl ?_
   refine pQ 27 44 (bl_ 268435455 38) HT_ rfl ?_
   refine pQ 28 45 (bl_ 536870911 38) HT_ rfl ?_
   refine pQ 30 47 (bl_ 1610612735 38) HT_ rfl ?_
   refine pQ 31 48 (bl_ 3758096383 38) HT_ rfl ?_
   refine pQ 32 49 (bl_ 8053063679 38) HT_ rfl ?_
   refine pQ 33 50 (bl_ 16642998271 38) HT_ rfl ?_
   refine tP 29 46 (bl_ 17179869183 38) ?_ HT_ HW_ rfl (.inl ⟨by rfl,?_⟩) hHeld ?_ ?_ ?_;rotate_left;(rintro w' ⟨s0,s1,s2,s3,s4,s5,s6,s7,s8,s9,s10,s11,s12,s13,s14,s15,s16,s17⟩;go_simp;with_reducible rfl);rotate_left;(simp only [Act.put,sq_,i64_w,i32_w];rfl)
   refine tP 34 51 (bl_ 34359738367 38) ?_ HT_ HW_ rfl (.inl ⟨by rfl,?_⟩) hHeld ?_ ?_ ?_;rotate_left;(rintro w' ⟨s0,s1,s2,s3,s4,s5,s6,s7,s8,s9,s10,s11,s12,s13,s14,s15,s16,s17⟩;go_simp;with_reducible rfl);rotate_left;(simp only [Act.put,sq_,i64_w,i32_w];rfl)
   refine one_ (i:=35) (N:=some 52) (bl_ 68719476735 38) rfl rfl (one_of HT_.out (by kernel_rfl)) (by decide) (fun K hK=>?_)
   refine goes_ Try.func13 (by kernel_rfl) rfl #[.slice A1087_2 ((rd_T58 l0 x5_1).f2).length c1087_2,.slice A1088_2 ((rd_T58 l1 x5_1).f2).length c1088_2] (by rfl) rfl rfl zM_ ?_
   with_reducible refine (laws_equalInts.calls k1 _ _ ((rd_T58 l0 x5_1).f2) _ _ ((rd_T58 l1 x5_1).f2) true _ ?side1 ?side2 ?side3 ?side4 A9.out).mono ?_
   (case side1=>exact zC_ (Kd.C_below HR1091_2.out HB.out))
   (case side2=>exact HC1091_2.out)
   (case side3=>exact zC_ (Kd.C_below HR1092_2.out HB.out))
   (case side4=>exact HC1092_2.out)
   rintro e w' ⟨rfl,⟨nd,rfl⟩⟩
   refine ⟨_,rfl,?_⟩
   refine hK.out _ _ ⟨((HB.out.cell (bwL w _ hw1087_0)).trans hw1087_0),((HB.out.cell (bwL w _ hw1087_1)).trans hw1087_1),((HB.out.cell (bwL w _ hw1087_2)).trans hw1087_2),((HB.out.cell (bwL w _ hw1088_0)).trans hw1088_0),((HB.out.cell (bwL w _ hw1088_1)).trans hw1088_1),((HB.out.cell (bwL w _ hw1088_2)).trans hw1088_2),((HB.out.cell (bwL w _ hw1089_0)).trans hw1089_0),((HB.out.cell (bwL w _ hw1089_1)).trans hw1089_1),((HB.out.cell (bwL w _ hw1089_2)).trans hw1089_2),((HB.out.cell (bwL w _ hw1090_0)).trans hw1090_0),((HB.out.cell (bwL w _ hw1090_1)).trans hw1090_1),((HB.out.cell (bwL w _ hw1090_2)).trans hw1090_2),((HB.out.cell (bwL w _ hw1091_0)).trans hw1091_0),((HB.out.cell (bwL w _ hw1091_1)).trans hw1091_1),((HB.out.cell (bwL w _ hw1091_2)).trans hw1091_2),((HB.out.cell (bwL w _ hw1092_0)).trans hw1092_0),((HB.out.cell (bwL w _ hw1092_1)).trans hw1092_1),((HB.out.cell (bwL w _ hw1092_2)).trans hw1092_2)⟩ (fun hHeld=>?_)
   clear hK K
   refine norm_ (a':=?_) ?_ ?_
   rotate_left
   ·show Act.put _ (some 52) _=_
    simp only [Act.put,sq_,i64_w,i32_w]
    rfl
   refine pQ 36 53 (bl_ 137438953471 38) HT_ rfl ?_
   refine pQ 37 54 (bl_ 274877906943 38) HT_ rfl ?_
   refine done_ (done_of HT_.out (by kernel_rfl)) ?_
   try go_wp2
   go_roundg k1
   case measure=>have:=HK1.out;omega
   case rel=>exact ⟨(wrap64 (x5_1+1)),zT_,H',⟨by have:=HK1.out;omega⟩,⟨zb0 HB.out⟩⟩
end Go.Proofs.Ytapaegcombfafaa.Q
