import Derived.Test.YtfhakhbmbnbneaaQ0
import Derived.Test.YtfhakhbmbnbneaaQ29
import Derived.Test.YtfhakhbmbnbneaaQ53
import Derived.Test.YtfhakhbmbnbneaaQ63
namespace Go.Proofs.Ytfhakhbmbnbneaa.Q
open Go.RowKit Go.Proofs.YtfhakhbmbnbneaaW.PrintWords Go.Proofs.YtfhakhbmbnbneaaW.PrintLast Go.Proofs.YtfhakhbmbnbneaaW.PrintMore
attribute [local go_sem] max2_int min2_int max_two min_two max_three min_three max_four min_four
set_option linter.unusedVariables false
set_option linter.unusedSimpArgs false
mutual
def impl_pruned.l0:Nat→List Int→List Int→List Int→Int→Int→List (S45)→Int→Option ((List (S45)) × Int)
 | 0,_,_,_,_,_,_,_=>none
 | k+1,x3,x4,x16,x17,x18,x444000,x444001=>if x18<x17 then (if 0≤x18 then (if x18<(x16.length:Int) then (if 0≤(rd x16 x18) then (if (rd x16 x18)<(x4.length:Int) then (impl_pruned.l0 k x3 (x4.set ((rd x16 x18):Int).toNat x18) x16 x17 (wrap64 (x18+1)) x444000 x444001) else (none)) else (none)) else (none)) else (none)) else (impl_pruned.l1 k x4 x3 (x3.length:Int) 0 x444000 x444001 ([]:List (S45)) 0)
def impl_pruned.l1:Nat→List Int→List Int→Int→Int→List (S45)→Int→List (S45)→Int→Option ((List (S45)) × Int)
 | 0,_,_,_,_,_,_,_,_=>none
 | k+1,x4,x29,x30,x31,x444000,x444001,x454000,x454001=>if x31<x30 then (if 0≤x31 then (if x31<(x29.length:Int) then (if 0≤(rd x29 x31) then (if (rd x29 x31)<(x444000.length:Int) then ((impl_mapped.f k ((rd_T45 x444000 (rd x29 x31)).f0) ((rd_T45 x444000 (rd x29 x31)).f1) ((rd_T45 x444000 (rd x29 x31)).f2) x4).bind fun bt456=>(if x454000.length<3518437208883 then (impl_pruned.l1 k x4 x29 x30 (wrap64 (x31+1)) x444000 x444001 (x454000++[(⟨bt456.1,bt456.2.1,bt456.2.2⟩:S45)]) x454001) else (none))) else (none)) else (none)) else (none)) else (none)) else (some (x454000,x454001))
end
def impl_pruned.f (k:Nat) (l0_0:List (S45)) (a0_1:Int):Option ((List (S45)) × Int):=(impl_reachOf.f k l0_0 a0_1).bind fun t445=>(if 0≤(l0_0.length:Int) then (if ((l0_0.length:Int):Int).toNat≤35184372088832 then (impl_pruned.l0 k t445 (List.replicate ((l0_0.length:Int):Int).toNat 0) t445 (t445.length:Int) 0 l0_0 a0_1) else (none)) else (none))
set_option maxRecDepth 100000 in
theorem impl_pruned.mono_l:∀ k,(∀ y0 y1 y2 y3 y4 y5 y6,LeO (impl_pruned.l0 k y0 y1 y2 y3 y4 y5 y6) (impl_pruned.l0 (k+1) y0 y1 y2 y3 y4 y5 y6))∧(∀ y0 y1 y2 y3 y4 y5 y6 y7,LeO (impl_pruned.l1 k y0 y1 y2 y3 y4 y5 y6 y7) (impl_pruned.l1 (k+1) y0 y1 y2 y3 y4 y5 y6 y7))
 | 0=>⟨fun _ _ _ _ _ _ _ r h=>(by cases h),fun _ _ _ _ _ _ _ _ r h=>(by cases h)⟩
 | k+1=>by
  obtain ⟨ih0,ih1⟩:=impl_pruned.mono_l k
  refine ⟨?_,?_⟩
  ·intro y0 y1 y2 y3 y4 y5 y6
   unfold impl_pruned.l0
   repeat' first
   | (with_reducible exact ih0 _ _ _ _ _ _ _)
   | (with_reducible exact ih1 _ _ _ _ _ _ _ _)
   | (with_reducible exact impl_mapped.mono _ _ _ _ _)
   | (with_reducible exact impl_reachOf.mono _ _ _)
   | (with_reducible exact LeO.refl _)
   | (with_reducible exact LeO.none _)
   | (with_reducible refine LeO.ite ?_ ?_)
   | (with_reducible refine LeO.bind ?_ (fun _=>?_))
   | exact ih0 _ _ _ _ _ _ _
   | exact ih1 _ _ _ _ _ _ _ _
   | exact impl_mapped.mono _ _ _ _ _
   | exact impl_reachOf.mono _ _ _
   | exact LeO.none _
   | refine LeO.ite ?_ ?_
   | refine LeO.bind ?_ (fun _=>?_)
  ·intro y0 y1 y2 y3 y4 y5 y6 y7
   unfold impl_pruned.l1
   repeat' first
   | (with_reducible exact ih0 _ _ _ _ _ _ _)
   | (with_reducible exact ih1 _ _ _ _ _ _ _ _)
   | (with_reducible exact impl_mapped.mono _ _ _ _ _)
   | (with_reducible exact impl_reachOf.mono _ _ _)
   | (with_reducible exact LeO.refl _)
   | (with_reducible exact LeO.none _)
   | (with_reducible refine LeO.ite ?_ ?_)
   | (with_reducible refine LeO.bind ?_ (fun _=>?_))
   | exact ih0 _ _ _ _ _ _ _
   | exact ih1 _ _ _ _ _ _ _ _
   | exact impl_mapped.mono _ _ _ _ _
   | exact impl_reachOf.mono _ _ _
   | exact LeO.none _
   | refine LeO.ite ?_ ?_
   | refine LeO.bind ?_ (fun _=>?_)
set_option maxRecDepth 100000 in
theorem impl_pruned.mono:∀ a0 a1 k,LeO (impl_pruned.f k a0 a1) (impl_pruned.f (k+1) a0 a1):=by
 intro a0 a1 k
 obtain ⟨ih0,ih1⟩:=impl_pruned.mono_l k
 unfold impl_pruned.f
 repeat' first
   | (with_reducible exact ih0 _ _ _ _ _ _ _)
   | (with_reducible exact ih1 _ _ _ _ _ _ _ _)
   | (with_reducible exact impl_mapped.mono _ _ _ _ _)
   | (with_reducible exact impl_reachOf.mono _ _ _)
   | (with_reducible exact LeO.refl _)
   | (with_reducible exact LeO.none _)
   | (with_reducible refine LeO.ite ?_ ?_)
   | (with_reducible refine LeO.bind ?_ (fun _=>?_))
   | exact ih0 _ _ _ _ _ _ _
   | exact ih1 _ _ _ _ _ _ _ _
   | exact impl_mapped.mono _ _ _ _ _
   | exact impl_reachOf.mono _ _ _
   | exact LeO.none _
   | refine LeO.ite ?_ ?_
   | refine LeO.bind ?_ (fun _=>?_)
def impl_pruned.T12:Bool × List (List Nat × List Nat):=(true,[([],[]),([0],[0]),([],[]),([2],[2]),([],[]),([3,4],[3,4]),([5],[5]),([],[]),([6,7],[6,7]),([8],[8]),([1,9,8],[1,9]),([0,1,2,3,4,5,6,7,8,9,10],[]),([11,10,10,0,1,2,3,4,5,6,7,8,9,10],[10,11])])
def impl_pruned.B12:List Nat:=[0,1,0,4,0,28,60,0,252,508,1023,2047,4095]
theorem impl_pruned.tab12:rtab .any (opsOf Try.f57 12)=impl_pruned.T12:=by kernel_rfl
theorem impl_pruned.bits12:waitsOk impl_pruned.T12.2 impl_pruned.B12=true:=by kernel_rfl
set_option maxHeartbeats 8000000 in
set_option maxRecDepth 100000 in
theorem impl_pruned.calls (k:Nat) (A0_0:Option Addr) (c0_0:Nat) (l0_0:List (S45)) (a0_1:Int) (r1:List (S45)) (r2:Int) (w:World) (hr0_0:Kd.C k45 w A0_0 l0_0.length l0_0) (hc0_0:l0_0.length≤c0_0) (h:impl_pruned.f k l0_0 a0_1=some (r1,r2)) :
  Calls Try.prog 57 #[.agg #[.slice A0_0 l0_0.length c0_0,.int .i64 a0_1]] w fun e w'=>∃ v0_:Value,e=.returned (.agg #[v0_,.int .i64 r2])∧Kd.S k45 45 w' w.heap.size (fun _=>True) v0_ r1∧Below w.heap.size w w':=by
 have hu29:=Try.underlying29
 have hu45:=Try.underlying45
 have HR0_0:=As_ hr0_0
 have HC0_0:=As_ hc0_0
 clear hr0_0 hc0_0
 have HB:=As_ (Below.refl w.heap.size w)
 have H:((impl_reachOf.f k l0_0 a0_1).bind fun t445=>(if 0≤(l0_0.length:Int) then (if ((l0_0.length:Int):Int).toNat≤35184372088832 then (impl_pruned.l0 k t445 (List.replicate ((l0_0.length:Int):Int).toNat 0) t445 (t445.length:Int) 0 l0_0 a0_1) else (none)) else (none)))=some (r1,r2):=h
 clear h
 replace H:=obS H
 obtain ⟨t445,A20,H⟩:=H
 replace H:(if 0≤(l0_0.length:Int) then (if ((l0_0.length:Int):Int).toNat≤35184372088832 then (impl_pruned.l0 k t445 (List.replicate ((l0_0.length:Int):Int).toNat 0) t445 (t445.length:Int) 0 l0_0 a0_1) else (none)) else (none))=some (r1,r2):=H
 have A2:=As_ A20
 clear A20
 by_cases c3:0≤(l0_0.length:Int)
 rotate_left
 ·rw [if_neg c3] at H
  exact absurd H (by simp)
 rw [if_pos c3] at H
 have c3b0:=eq_true c3
 have c3b1:decide (0≤(l0_0.length:Int))=true:=deT c3
 clear c3
 by_cases c4:((l0_0.length:Int):Int).toNat≤35184372088832
 rotate_left
 ·rw [if_neg c4] at H
  exact absurd H (by simp)
 rw [if_pos c4] at H
 have c4b0:=eq_true c4
 have c4b1:decide (((l0_0.length:Int):Int).toNat≤35184372088832)=true:=deT c4
 clear c4
 obtain ⟨y448,hy448⟩:∃ y_:List Int,y_=(List.replicate ((l0_0.length:Int):Int).toNat 0):=⟨_,rfl⟩
 replace H:(impl_pruned.l0 k t445 y448 t445 (t445.length:Int) 0 l0_0 a0_1)=some (r1,r2):=zH_ H hy448
 have Ny448:=As_ hy448
 clear hy448
 have H':=As_ H
 clear H
 go_enter Try.func57,Try.ntmps57
 go_wp2_with (first|((with_reducible refine gate_dst (N:=1) rfl ?_);refine box_event ?hg (N:=1) ?hd (cs:=#[.slice A0_0 l0_0.length c0_0,.int .i64 a0_1]) (t:=29) ?hr ?_;(case hd=>rfl);(case hg=>rfl);(case hr=>go_simp <;> rfl);intro gb443 hg w5 hbox hb;have n0_:=As_ (bwT (zb0 HB.out) hb);have n1_:=As_ (hbox);have n2_:=As_ ((by rw [hg];exact (bwZ (zb0 HB.out)):w.heap.size≤gb443));have n3_:=As_ ((by rw [hg];exact (bwZ (zb0 HB.out)):w.heap.size≤gb443));clear HB;revert n0_ n1_ n2_ n3_;intro HB BK443 GW443 GE443;clear hb hbox hg)|((with_reducible refine gate_dst (N:=2) rfl ?_);refine box_event ?hg (N:=2) ?hd (cs:=#[.slice none 0 0,.int .i64 0]) (t:=29) ?hr ?_;(case hd=>rfl);(case hg=>rfl);(case hr=>go_simp <;> rfl);intro gb444 hg w6 hbox hb;have n0_:=As_ (zkb BK443.out hb);have n1_:=As_ (bwT (zb1 HB.out GE443.out) hb);have n2_:=As_ (hbox);have n3_:=As_ ((by rw [hg];exact (bwZ (zb1 HB.out GE443.out)):w.heap.size≤gb444));have n4_:=As_ ((by rw [hg];exact (bwZ (zb1 HB.out GE443.out)):w.heap.size≤gb444));have n5_:=As_ ((by rw [hg];exact Nat.ne_of_lt (zkl BK443.out):gb443≠gb444));have n6_:=As_ ((by rw [hg];exact Nat.ne_of_gt (zkl BK443.out):gb444≠gb443));clear BK443 HB;revert n0_ n1_ n2_ n3_ n4_ n5_ n6_;intro BK443 HB BK444 GW444 GE444 NB443_444 NB444_443;clear hb hbox hg;have hnb7:=NB443_444.out;have hnc7:=NB444_443.out;obtain ⟨hcz8_0,hcz8_1,hfz8_0,hfz8_1⟩:=bk2 BK443.out)|((with_reducible refine gate_callee (f:=63) rfl ?_);refine goesL_ (some 11) rfl rfl Try.func63 (by kernel_rfl) rfl #[.agg #[.slice A0_0 l0_0.length c0_0,.int .i64 a0_1]] rfl zM_ ?_;(with_reducible refine (impl_reachOf.calls k _ _ l0_0 a0_1 t445 _ ?side1 ?side2 A2.out).mono ?_);(case side1=>exact zC_ (Kd.C_below HR0_0.out HB.out));(case side2=>exact HC0_0.out);rintro e w9 ⟨v446,rfl,ho0,hb⟩;refine ⟨_,rfl,?_⟩;have n0_:=As_ (Kd.R_lower ho0 (bwZ (zb2 HB.out GE443.out GE444.out)));have n1_:=As_ (zkb BK443.out hb);have n2_:=As_ (zkb BK444.out hb);have n3_:=As_ (bwT (zb2 HB.out GE443.out GE444.out) hb);clear BK443 BK444 HB;revert n0_ n1_ n2_ n3_;intro HO447 BK443 BK444 HB;obtain ⟨hcz10_0,hcz10_1,hfz10_0,hfz10_1⟩:=bk2 BK443.out)|((with_reducible refine gate_dst (N:=15) rfl ?_);refine Kd.R_make (Kd.int .i64) _ 3 rfl (N:=15) rfl 37 _ _ rfl (l0_0.length:Int) rfl rfl Try.underlying37 (.int .i64 0) 8 info3 rfl (by decide) (by omega) 0 (ok:=fun _=>True) (okp:=fun _=>True) rfl (fun _ hk=>hk) trivial (odT zA_) (Nat.le_trans (Nat.mul_le_mul_right _ (odT zA_:(l0_0.length:Int).toNat≤35184372088832)) (by omega)) (Below.refl _ _) (Nat.le_refl _) ?_;intro v449 w11 ho12 hb hg_ hnew_;clear hg_ hnew_;(first|rw [← Ny448.out] at ho12|(simp only [Int.reduceToNat] at ho12;rw [← Ny448.out] at ho12));have n0_:=As_ (Kd.R_elder' (zR_ HO447.out) (Kd.R_base ho12) hb);have n1_:=As_ (Kd.R_lower (Kd.R_new' ho12 (Kd.R_lt (zR_ HO447.out))) (bwZ (zb2 HB.out GE443.out GE444.out)));have n2_:=As_ (zkb BK443.out hb);have n3_:=As_ (zkb BK444.out hb);have n4_:=As_ (bwT (zb2 HB.out GE443.out GE444.out) hb);clear HO447 BK443 BK444 HB;revert n0_ n1_ n2_ n3_ n4_;intro HO447 HO450 BK443 BK444 HB;clear hb ho12;obtain ⟨Ao13,co13,eo13⟩:=Kd.R_slice HO447.out;subst eo13))
 go_loopg [18] k (fun kq v18 w'=>∃ (x4_1:List Int) (x18_1:Int),v18=.int .i64 x18_1∧Aside0 (impl_pruned.l0 kq t445 x4_1 t445 (t445.length:Int) x18_1 l0_0 a0_1=some (r1,r2))∧Aside0 (kq≤k)∧Aside0 (Kd.R (Kd.int .i64) 3 w' w.heap.size (fun k_=>some k_≠(v449:Value).ownBlock) (.slice Ao13 t445.length co13) t445)∧Aside0 (Kd.R (Kd.int .i64) 3 w' w.heap.size (fun k_=>some k_≠((.slice Ao13 t445.length co13):Value).ownBlock∧some k_≠((.slice Ao13 t445.length co13):Value).ownBlock) v449 x4_1)∧Aside0 (Kd.R (Kd.int .i64) 3 w' w.heap.size (fun k_=>some k_≠(v449:Value).ownBlock) (.slice Ao13 t445.length co13) t445)∧Aside0 (w'.heap[gb443]?=some (.cells #[(.slice A0_0 l0_0.length c0_0),.int .i64 a0_1] 29 (0,0)))∧Aside0 (w'.heap[gb444]?=some (.cells #[(.slice none 0 0),.int .i64 0] 29 (0,0)))∧Aside0 (Below w.heap.size w w'))
 case atStart=>exact ⟨(y448),(0),zT_,H',⟨Nat.le_refl _⟩,⟨by (with_reducible repeat (first|apply Kd.R_alloc|apply Kd.R_drewN|apply Kd.R_drew));exact Kd.R_mono HO447.out (fun _ hk=>hk.2)⟩,⟨by (with_reducible repeat (first|apply Kd.R_alloc|apply Kd.R_drewN|apply Kd.R_drew));exact Kd.R_mono HO450.out (fun _ hk=>⟨hk.2,hk.2⟩)⟩,⟨by (with_reducible repeat (first|apply Kd.R_alloc|apply Kd.R_drewN|apply Kd.R_drew));exact Kd.R_mono HO447.out (fun _ hk=>hk.2)⟩,⟨by (with_reducible repeat first|apply bkN|apply bkD|apply bkA);exact BK443.out⟩,⟨by (with_reducible repeat first|apply bkN|apply bkD|apply bkA);exact BK444.out⟩,⟨zb2 HB.out GE443.out GE444.out⟩⟩
 case round=>
  clear H'
  obtain ⟨x4_1,x18_1,rfl,HA,HK1,HO_3,HO_4,HO_16,BK443,BK444,HB⟩:=hrel
  cases gk with
  | zero=>exact absurd HA.out (fun h_=>(by cases h_))
  | succ k1=>
   have H:=HA.out
   clear HA
   simp only [impl_pruned.l0] at H
   by_cases c14:x18_1<(t445.length:Int)
   ·rw [if_pos c14] at H
    have c14b0:decide (x18_1<(t445.length:Int))=true:=deT c14
    clear c14
    by_cases c15:0≤x18_1
    rotate_left
    ·rw [if_neg c15] at H
     exact absurd H (by simp)
    rw [if_pos c15] at H
    have c15b0:decide (0≤x18_1)=true:=deT c15
    clear c15
    by_cases c16:x18_1<(t445.length:Int)
    rotate_left
    ·rw [if_neg c16] at H
     exact absurd H (by simp)
    rw [if_pos c16] at H
    have c16b0:decide (x18_1<(t445.length:Int))=true:=deT c16
    clear c16
    by_cases c17:0≤(rd t445 x18_1)
    rotate_left
    ·rw [if_neg c17] at H
     exact absurd H (by simp)
    rw [if_pos c17] at H
    have c17b0:decide (0≤(rd t445 x18_1))=true:=deT c17
    clear c17
    by_cases c18:(rd t445 x18_1)<(x4_1.length:Int)
    rotate_left
    ·rw [if_neg c18] at H
     exact absurd H (by simp)
    rw [if_pos c18] at H
    have c18b0:decide ((rd t445 x18_1)<(x4_1.length:Int))=true:=deT c18
    clear c18
    obtain ⟨y452,hy452⟩:∃ y_:List Int,y_=(x4_1.set ((rd t445 x18_1):Int).toNat x18_1):=⟨_,rfl⟩
    replace H:(impl_pruned.l0 k1 t445 y452 t445 (t445.length:Int) (wrap64 (x18_1+1)) l0_0 a0_1)=some (r1,r2):=zH_ H hy452
    have Ny452:=As_ hy452
    clear hy452
    have H':=As_ H
    clear H
    have p451:0≤(x18_1:Int):=odT zA_
    have q451:x18_1<(t445.length:Int):=odT zA_
    obtain ⟨ad451,e451,hx451_0⟩:=Kd.at_int (Kd.R_reads' HO_16.out).2.2 x18_1 p451 q451
    cases e451
    replace p451:=eq_true p451
    replace q451:=eq_true q451
    have p19:0≤((rd t445 x18_1):Int):=odT zA_
    have q19:((rd t445 x18_1):Int)<((x4_1.length:Int):Int):=odT zA_
    obtain ⟨go19,co19,eo19,gb19,gl19,cl19,HG19⟩:=Kd.R_form HO_4.out (by omega)
    (first|cases eo19|(injection eo19 with ea_ en_ ec_;(first|subst ea_|(injection ea_ with ea_;subst ea_));subst ec_;clear en_))
    have GB19:=As_ gb19
    have GG19:=As_ HG19
    clear gb19 gl19 HG19
    obtain ⟨hx19_0,hf19_0⟩:=Kd.R_celln 0 HO_4.out ((rd t445 x18_1):Int) p19 q19
    replace p19:=eq_true p19
    replace q19:=eq_true q19
    have HP20:=Kd.R_putg HO_4.out ((rd t445 x18_1):Int) x18_1
    go_wp2_with (first|((with_reducible refine gate_store (t:=3) (p:=26) rfl ?_);refine store_event (t:=3) (p:=26) (v:=?vo_w21) (w1:=(wr.setCell ⟨go19,((rd t445 x18_1):Int).toNat,none⟩ (.int .i64 x18_1))) ?hg ?ho ?hn ?hr ?_;(case ho=>rfl);(case hg=>rfl);(case hn=>rfl);(case hr=>go_simp <;> rfl);intro w21 hw;have hg:wr.grownBy w21 (some go19):=(by rw [hw];exact HP20.2);have hp_:Kd.R (Kd.int .i64) 3 w21 w.heap.size (fun k_=>some k_≠(.slice (some ad451) t445.length co13:Value).ownBlock∧some k_≠(.slice (some ad451) t445.length co13:Value).ownBlock) (.slice (some ⟨go19,0,none⟩) x4_1.length co19) y452:=(by rw [hw,Ny452.out];exact HP20.1);clear HP20;have n0_:=As_ (Kd.R_after (v:=(.slice (some ⟨go19,0,none⟩) x4_1.length co19)) (v1:=(.slice (some ⟨go19,0,none⟩) x4_1.length co19)) (ok:=(fun _=>True)) (by (with_reducible repeat (first|apply Kd.R_alloc|apply Kd.R_drewN|apply Kd.R_drew));exact Kd.R_mono HO_3.out (fun _ hk=>⟨trivial,hk⟩)) hg (.inl rfl));have n1_:=As_ (hp_);have n2_:=As_ (Kd.R_after (v:=(.slice (some ⟨go19,0,none⟩) x4_1.length co19)) (v1:=(.slice (some ⟨go19,0,none⟩) x4_1.length co19)) (ok:=(fun _=>True)) (by (with_reducible repeat (first|apply Kd.R_alloc|apply Kd.R_drewN|apply Kd.R_drew));exact Kd.R_mono HO_16.out (fun _ hk=>⟨trivial,hk⟩)) hg (.inl rfl));have n3_:=As_ (blk_grown (g:=gb443) (o:=.cells #[.slice A0_0 l0_0.length c0_0,.int .i64 a0_1] 29 (0,0)) (zk_ BK443.out) hg (Kd.R_ne HO_4.out BK443.out (by decide)));have n4_:=As_ (blk_grown (g:=gb444) (o:=.cells #[.slice none 0 0,.int .i64 0] 29 (0,0)) (zk_ BK444.out) hg (Kd.R_ne HO_4.out BK444.out (by decide)));have n5_:=As_ ((by rw [hw];exact bwS (HB.out) GB19.out:Below w.heap.size w w21));clear HO_3 HO_4 HO_16 BK443 BK444 HB;revert n0_ n1_ n2_ n3_ n4_ n5_;intro HO_3 HO_4 HO_16 BK443 BK444 HB;clear hg hw hp_))
    go_roundg k1
    case measure=>have:=HK1.out;omega
    case rel=>exact ⟨(y452),(wrap64 (x18_1+1)),zT_,H',⟨by have:=HK1.out;omega⟩,⟨by (with_reducible repeat (first|apply Kd.R_alloc|apply Kd.R_drewN|apply Kd.R_drew));exact Kd.R_mono HO_3.out (fun _ hk=>hk.2)⟩,⟨by (with_reducible repeat (first|apply Kd.R_alloc|apply Kd.R_drewN|apply Kd.R_drew));exact HO_4.out⟩,⟨by (with_reducible repeat (first|apply Kd.R_alloc|apply Kd.R_drewN|apply Kd.R_drew));exact Kd.R_mono HO_16.out (fun _ hk=>hk.2)⟩,⟨by (with_reducible repeat first|apply bkN|apply bkD|apply bkA);exact BK443.out⟩,⟨by (with_reducible repeat first|apply bkN|apply bkD|apply bkA);exact BK444.out⟩,⟨zb2 HB.out GE443.out GE444.out⟩⟩
   rw [if_neg c14] at H
   have c14b0:decide (x18_1<(t445.length:Int))=false:=deF c14
   clear c14
   have H':=As_ H
   clear H
   go_wp2_with (first|((with_reducible refine gate_dst (N:=7) rfl ?_);refine box_event ?hg (N:=7) ?hd (cs:=#[.slice none 0 0,.int .i64 0]) (t:=29) ?hr ?_;(case hd=>rfl);(case hg=>rfl);(case hr=>go_simp <;> rfl);intro gb453 hg w22 hbox hb;have n0_:=As_ (Kd.R_below (zR_ HO_3.out) hb);have n1_:=As_ (Kd.R_below (zR_ HO_4.out) hb);have n2_:=As_ (Kd.R_below (zR_ HO_16.out) hb);have n3_:=As_ (zkb BK443.out hb);have n4_:=As_ (zkb BK444.out hb);have n5_:=As_ (bwT (zb2 HB.out GE443.out GE444.out) hb);have n6_:=As_ (hbox);have n7_:=As_ ((by rw [hg];exact (bwZ (zb2 HB.out GE443.out GE444.out)):w.heap.size≤gb453));have n8_:=As_ ((by rw [hg];exact (bwZ (zb2 HB.out GE443.out GE444.out)):w.heap.size≤gb453));have n9_:=As_ ((by rw [hg];exact Nat.ne_of_lt (zkl BK443.out):gb443≠gb453));have n10_:=As_ ((by rw [hg];exact Nat.ne_of_gt (zkl BK443.out):gb453≠gb443));have n11_:=As_ ((by rw [hg];exact Nat.ne_of_lt (zkl BK444.out):gb444≠gb453));have n12_:=As_ ((by rw [hg];exact Nat.ne_of_gt (zkl BK444.out):gb453≠gb444));clear HO_3 HO_4 HO_16 BK443 BK444 HB;revert n0_ n1_ n2_ n3_ n4_ n5_ n6_ n7_ n8_ n9_ n10_ n11_ n12_;intro HO_3 HO_4 HO_16 BK443 BK444 HB BK453 GW453 GE453 NB443_453 NB453_443 NB444_453 NB453_444;clear hb hbox hg;have hnb23:=NB453_443.out;have hnc23:=NB443_453.out;have hnb24:=NB453_444.out;have hnc24:=NB444_453.out;obtain ⟨hcz25_0,hcz25_1,hfz25_0,hfz25_1⟩:=bk2 BK453.out))
   go_loopg [31] k1 (fun kq v31 w'=>∃ (x31_2:Int) (x454000_2:List (S45)) (u454000:Value),v31=.int .i64 x31_2∧Aside0 (impl_pruned.l1 kq x4_1 t445 (t445.length:Int) x31_2 l0_0 a0_1 x454000_2 0=some (r1,r2))∧Aside0 (kq≤k1)∧Aside0 (Kd.R (Kd.int .i64) 3 w' w.heap.size (fun k_=>some k_≠((.slice Ao13 t445.length co13):Value).ownBlock) v449 x4_1)∧Aside0 (Kd.R (Kd.int .i64) 3 w' w.heap.size (fun k_=>some k_≠(v449:Value).ownBlock) (.slice Ao13 t445.length co13) t445)∧Aside0 (Kd.S k45 45 w' w.heap.size (fun k_=>some k_≠(v449:Value).ownBlock∧some k_≠((.slice Ao13 t445.length co13):Value).ownBlock) u454000 x454000_2)∧Aside0 (w'.heap[gb443]?=some (.cells #[(.slice A0_0 l0_0.length c0_0),.int .i64 a0_1] 29 (0,0)))∧Aside0 (w'.heap[gb444]?=some (.cells #[(.slice none 0 0),.int .i64 0] 29 (0,0)))∧Aside0 (w'.heap[gb453]?=some (.cells #[u454000,.int .i64 0] 29 (0,0)))∧Aside0 (Below w.heap.size w w'))
   case atStart=>exact ⟨(0),(([]:List (S45))),(.slice none 0 0),zT_,H',⟨Nat.le_refl _⟩,⟨by (with_reducible repeat (first|apply Kd.R_alloc|apply Kd.R_drewN|apply Kd.R_drew));exact Kd.R_mono (Kd.R_far (p:=⟨gb453,1,none⟩) (Kd.R_far (p:=⟨gb453,0,none⟩) (Kd.R_types HO_4.out BK453.out (by decide)) (fun _ hk=>hk.2) (.slice none 0 0)) (fun _ hk=>hk.2) (.int .i64 0)) (fun _ hk=>hk.1.1)⟩,⟨by (with_reducible repeat (first|apply Kd.R_alloc|apply Kd.R_drewN|apply Kd.R_drew));exact Kd.R_mono (Kd.R_far (p:=⟨gb453,1,none⟩) (Kd.R_far (p:=⟨gb453,0,none⟩) (Kd.R_types HO_3.out BK453.out (by decide)) (fun _ hk=>hk.2) (.slice none 0 0)) (fun _ hk=>hk.2) (.int .i64 0)) (fun _ hk=>hk.1)⟩,⟨by first|exact Kd.S_nil _ _ _ _ _|exact Kd.N_nil _ _ _ _ _|exact Kd.V_nil _ _ _ _ _|exact Kd.Q_nil _ _ _ _ _|exact Kd.R_nil _ _ _ _ _⟩,⟨by (with_reducible repeat first|apply bkN|apply bkD|apply bkA);refine blk_far ?_ NB443_453.out _;(with_reducible repeat first|apply bkN|apply bkD|apply bkA);refine blk_far ?_ NB443_453.out _;(with_reducible repeat first|apply bkN|apply bkD|apply bkA);exact BK443.out⟩,⟨by (with_reducible repeat first|apply bkN|apply bkD|apply bkA);refine blk_far ?_ NB444_453.out _;(with_reducible repeat first|apply bkN|apply bkD|apply bkA);refine blk_far ?_ NB444_453.out _;(with_reducible repeat first|apply bkN|apply bkD|apply bkA);exact BK444.out⟩,⟨by (with_reducible repeat first|apply bkN|apply bkD|apply bkA);refine blk_put (cs:=#[.slice none 0 0,.int .i64 0]) ?_ 1 _ rfl;(with_reducible repeat first|apply bkN|apply bkD|apply bkA);refine blk_put (cs:=#[.slice none 0 0,.int .i64 0]) ?_ 0 _ rfl;(with_reducible repeat first|apply bkN|apply bkD|apply bkA);exact BK453.out⟩,⟨zb3 HB.out GE443.out GE444.out GE453.out⟩⟩
   case round=>
    clear H'
    obtain ⟨x31_2,x454000_2,u454000,rfl,HA,HK2,HO_4,HO_29,HO_454000,BK443,BK444,BK453,HB⟩:=hrel
    cases gk with
    | zero=>exact absurd HA.out (fun h_=>(by cases h_))
    | succ k2=>
     have H:=HA.out
     clear HA
     simp only [impl_pruned.l1] at H
     by_cases c26:x31_2<(t445.length:Int)
     rotate_left
     ·rw [if_neg c26] at H
      have c26b0:decide (x31_2<(t445.length:Int))=false:=deF c26
      clear c26
      simp only [Option.some.injEq,Prod.mk.injEq] at H
      obtain ⟨rfl,rfl⟩:=H
      have hnb40:=NB453_443.out
      have hnc40:=NB443_453.out
      have hnb41:=NB453_444.out
      have hnc41:=NB444_453.out
      obtain ⟨hcz42_0,hcz42_1,hfz42_0,hfz42_1⟩:=bk2 BK453.out
      obtain ⟨Ao43,co43,eo43⟩:=Kd.S_slice HO_454000.out
      subst eo43
      have hnb44:=NB444_443.out
      have hnc44:=NB443_444.out
      obtain ⟨hcz45_0,hcz45_1,hfz45_0,hfz45_1⟩:=bk2 BK444.out
      go_wp2
      refine bodyPost_ret (results_cell_row rfl _ _ gb444 29 #[.slice Ao43 x454000_2.length co43,.int .i64 0] (0,0) _ rfl (by (with_reducible repeat first|apply bkN|apply bkD|apply bkA);refine blk_put (cs:=#[.slice Ao43 x454000_2.length co43,.int .i64 0]) ?_ 1 _ rfl;(with_reducible repeat first|apply bkN|apply bkD|apply bkA);refine blk_put (cs:=#[.slice none 0 0,.int .i64 0]) ?_ 0 _ rfl;(with_reducible repeat first|apply bkN|apply bkD|apply bkA);exact BK444.out) Try.underlying29 rfl (by kernel_rfl)) rfl ?_
      exact ⟨_,zE_,by (with_reducible repeat (first|apply Kd.S_alloc|apply Kd.S_drewN|apply Kd.S_drew));exact Kd.S_mono (Kd.S_far (p:=⟨gb444,1,none⟩) (Kd.S_far (p:=⟨gb444,0,none⟩) (Kd.S_types HO_454000.out BK444.out (by decide)) (fun _ hk=>hk.2) (.slice Ao43 x454000_2.length co43)) (fun _ hk=>hk.2) (.int .i64 0)) (fun _ hk=>trivial),zb3 HB.out GE443.out GE444.out GE453.out⟩
     rw [if_pos c26] at H
     have c26b0:decide (x31_2<(t445.length:Int))=true:=deT c26
     clear c26
     by_cases c27:0≤x31_2
     rotate_left
     ·rw [if_neg c27] at H
      exact absurd H (by simp)
     rw [if_pos c27] at H
     have c27b0:decide (0≤x31_2)=true:=deT c27
     clear c27
     by_cases c28:x31_2<(t445.length:Int)
     rotate_left
     ·rw [if_neg c28] at H
      exact absurd H (by simp)
     rw [if_pos c28] at H
     have c28b0:decide (x31_2<(t445.length:Int))=true:=deT c28
     clear c28
     by_cases c29:0≤(rd t445 x31_2)
     rotate_left
     ·rw [if_neg c29] at H
      exact absurd H (by simp)
     rw [if_pos c29] at H
     have c29b0:decide (0≤(rd t445 x31_2))=true:=deT c29
     clear c29
     by_cases c30:(rd t445 x31_2)<(l0_0.length:Int)
     rotate_left
     ·rw [if_neg c30] at H
      exact absurd H (by simp)
     rw [if_pos c30] at H
     have c30b0:decide ((rd t445 x31_2)<(l0_0.length:Int))=true:=deT c30
     clear c30
     replace H:=obS H
     obtain ⟨⟨t456,t457,t458⟩,A310,H⟩:=H
     replace H:(if x454000_2.length<3518437208883 then (impl_pruned.l1 k2 x4_1 t445 (t445.length:Int) (wrap64 (x31_2+1)) l0_0 a0_1 (x454000_2++[(⟨t456,t457,t458⟩:S45)]) 0) else (none))=some (r1,r2):=H
     have A31:=As_ A310
     clear A310
     by_cases c32:x454000_2.length<3518437208883
     rotate_left
     ·rw [if_neg c32] at H
      exact absurd H (by simp)
     rw [if_pos c32] at H
     have LMc32:=As_ c32
     clear c32
     obtain ⟨y461,hy461⟩:∃ y_:List (S45),y_=(x454000_2++[(⟨t456,t457,t458⟩:S45)]):=⟨_,rfl⟩
     replace H:(impl_pruned.l1 k2 x4_1 t445 (t445.length:Int) (wrap64 (x31_2+1)) l0_0 a0_1 y461 0)=some (r1,r2):=zH_ H hy461
     have Ny461:=As_ hy461
     clear hy461
     have H':=As_ H
     clear H
     have p454:0≤(x31_2:Int):=odT zA_
     have q454:x31_2<(t445.length:Int):=odT zA_
     obtain ⟨ad454,e454,hx454_0⟩:=Kd.at_int (Kd.R_reads' HO_29.out).2.2 x31_2 p454 q454
     cases e454
     replace p454:=eq_true p454
     replace q454:=eq_true q454
     try go_wp2
     have n0_:=As_ (Kd.R_drew HO_4.out)
     have n1_:=As_ (Kd.R_drew HO_29.out)
     have n2_:=As_ (Kd.S_drew HO_454000.out)
     have n3_:=As_ (bkD BK443.out)
     have n4_:=As_ (bkD BK444.out)
     have n5_:=As_ (bkD BK453.out)
     have n6_:=As_ (bwD HB.out)
     clear HO_4 HO_29 HO_454000 BK443 BK444 BK453 HB
     revert n0_ n1_ n2_ n3_ n4_ n5_ n6_;intro HO_4 HO_29 HO_454000 BK443 BK444 BK453 HB
     have p455:0≤((rd t445 x31_2):Int):=odT zA_
     have q455:(rd t445 x31_2)<(l0_0.length:Int):=odT zA_
     obtain ⟨ad455,A455_2,c455_2,e455,hx455_0,hx455_1,hx455_2,hl455_2,hi455_2⟩:=at_T45 HR0_0.out (rd t445 x31_2) p455 q455
     have hw455_2:=hx455_2
     have hw455_1:=hx455_1
     have hw455_0:=hx455_0
     cases e455
     replace hx455_0:=bwC HB.out hx455_0
     replace hx455_1:=bwC HB.out hx455_1
     replace hx455_2:=bwC HB.out hx455_2
     have HR455_2:=As_ hi455_2
     have HC455_2:=As_ hl455_2
     clear hi455_2 hl455_2
     replace p455:=eq_true p455
     replace q455:=eq_true q455
     obtain ⟨Ao34,co34,eo34⟩:=Kd.R_slice HO_4.out
     (first|subst eo34|(injection eo34 with f1_ f2_ f3_;have f4_:=f1_.symm;have f5_:=f3_.symm;clear f1_ f2_ f3_;subst f4_;subst f5_))
     refine start_ (n:=13) (S:=fun w'=>w'.cell? ⟨gb453,0,none⟩=some (u454000)∧w'.cell? ⟨gb453,1,none⟩=some (.int .i64 0)∧w'.cell? ⟨gb443,0,none⟩=some (.slice (some ad455) l0_0.length c0_0)∧w'.cell? ⟨gb443,1,none⟩=some (.int .i64 a0_1)∧w'.cell? (ad455.add (((rd t445 x31_2)).toNat * 3))=some (.int .i64 ((rd_T45 l0_0 (rd t445 x31_2)).f0))∧w'.cell? ⟨(ad455.add (((rd t445 x31_2)).toNat * 3)).block,(ad455.add (((rd t445 x31_2)).toNat * 3)).off+1,none⟩=some (.int .i64 ((rd_T45 l0_0 (rd t445 x31_2)).f1))∧w'.cell? ⟨(ad455.add (((rd t445 x31_2)).toNat * 3)).block,(ad455.add (((rd t445 x31_2)).toNat * 3)).off+2,none⟩=some (.slice A455_2 ((rd_T45 l0_0 (rd t445 x31_2)).f2).length c455_2)) (ds:=[12]) (bl_ 0 13) (by kernel_rfl) rfl rfl ⟨(bkC BK453.out 0).trans rfl,(bkC BK453.out 1).trans rfl,(bkC BK443.out 0).trans rfl,(bkC BK443.out 1).trans rfl,((HB.out.cell (bwL w _ hw455_0)).trans hw455_0),((HB.out.cell (bwL w _ hw455_1)).trans hw455_1),((HB.out.cell (bwL w _ hw455_2)).trans hw455_2)⟩ (fun hHeld=>?_);refine with_tabW impl_pruned.tab12 impl_pruned.bits12 (fun HT_ HW_=>?_)
     generalize wr.drew=w33 at HO_4 HO_29 HO_454000 BK443 BK444 BK453 HB HR455_2 hx455_0 hx455_1 hx455_2 hHeld ⊢
     refine pQ 0 35 (bl_ 1 13) HT_ rfl ?_
     refine pQ 2 37 (bl_ 5 13) HT_ rfl ?_
     refine pQ 4 39 (bl_ 21 13) HT_ rfl ?_
     refine pQ 7 42 (bl_ 149 13) HT_ rfl ?_
     refine tP 1 36 (bl_ 151 13) ?_ HT_ HW_ rfl (.inl ⟨by rfl,?_⟩) hHeld ?_ ?_ ?_;rotate_left;(rintro w' ⟨s0,s1,s2,s3,s4,s5,s6⟩;go_simp;with_reducible rfl);rotate_left;(simp only [Act.put,sq_,i64_w,i32_w];rfl)
     refine tP 3 38 (bl_ 159 13) ?_ HT_ HW_ rfl (.inl ⟨by rfl,?_⟩) hHeld ?_ ?_ ?_;rotate_left;(rintro w' ⟨s0,s1,s2,s3,s4,s5,s6⟩;go_simp;with_reducible rfl);rotate_left;(simp only [Act.put,sq_,i64_w,i32_w];rfl)
     refine pQ 5 40 (bl_ 191 13) HT_ rfl ?_
     refine tP 6 41 (bl_ 255 13) ?_ HT_ HW_ rfl (.inl ⟨by rfl,?_⟩) hHeld ?_ ?_ ?_;rotate_left;(rintro w' ⟨s0,s1,s2,s3,s4,s5,s6⟩;go_simp;with_reducible rfl);rotate_left;(simp only [Act.put,sq_,i64_w,i32_w];rfl)
     refine one_ (i:=8) (N:=some 43) (bl_ 511 13) rfl rfl (one_of HT_.out (by kernel_rfl)) (by decide) (fun K hK=>?_)
     refine goes_ Try.func53 (by kernel_rfl) rfl #[.agg #[.int .i64 ((rd_T45 l0_0 (rd t445 x31_2)).f0),.int .i64 ((rd_T45 l0_0 (rd t445 x31_2)).f1),.slice A455_2 ((rd_T45 l0_0 (rd t445 x31_2)).f2).length c455_2],.slice Ao34 x4_1.length co34] (by rfl) rfl rfl zM_ ?_
     with_reducible refine (impl_mapped.calls k2 ((rd_T45 l0_0 (rd t445 x31_2)).f0) ((rd_T45 l0_0 (rd t445 x31_2)).f1) _ _ ((rd_T45 l0_0 (rd t445 x31_2)).f2) _ _ x4_1 t456 t457 t458 _ ?side1 ?side2 ?side3 ?side4 A31.out).mono ?_
     (case side1=>exact zC_ (Kd.C_below HR455_2.out HB.out))
     (case side2=>exact HC455_2.out)
     (case side3=>exact zC_ (Kd.R_reads' HO_4.out).2.2)
     (case side4=>exact (Kd.R_reads' HO_4.out).2.1)
     rintro e w35 ⟨v459,rfl,ho0,hb⟩
     refine ⟨_,rfl,?_⟩
     have n0_:=As_ (Kd.R_elder' (zR_ HO_4.out) (Kd.R_base ho0) hb)
     have n1_:=As_ (Kd.R_elder' (zR_ HO_29.out) (Kd.R_base ho0) hb)
     have n2_:=As_ (Kd.S_elder' (zS_ HO_454000.out) (Kd.R_base ho0) hb)
     have n3_:=As_ (Kd.R_lower (Kd.R_new' (Kd.R_new' ho0 (Kd.R_lt (zR_ HO_4.out))) (Kd.R_lt (zR_ HO_29.out))) (bwZ (zb3 HB.out GE443.out GE444.out GE453.out)))
     have n4_:=As_ (zkb BK443.out hb)
     have n5_:=As_ (zkb BK444.out hb)
     have n6_:=As_ (zkb BK453.out hb)
     have n7_:=As_ (bwT (zb3 HB.out GE443.out GE444.out GE453.out) hb)
     clear HO_4 HO_29 HO_454000 BK443 BK444 BK453 HB
     revert n0_ n1_ n2_ n3_ n4_ n5_ n6_ n7_;intro HO_4 HO_29 HO_454000 HO460 BK443 BK444 BK453 HB
     obtain ⟨Ao37,co37,eo37⟩:=Kd.R_slice HO460.out
     (first|subst eo37|(injection eo37 with f1_ f2_ f3_;have f4_:=f1_.symm;have f5_:=f3_.symm;clear f1_ f2_ f3_;subst f4_;subst f5_))
     refine hK.out _ _ ⟨(bkC BK453.out 0).trans rfl,(bkC BK453.out 1).trans rfl,(bkC BK443.out 0).trans rfl,(bkC BK443.out 1).trans rfl,((HB.out.cell (bwL w _ hw455_0)).trans hw455_0),((HB.out.cell (bwL w _ hw455_1)).trans hw455_1),((HB.out.cell (bwL w _ hw455_2)).trans hw455_2)⟩ (fun hHeld=>?_)
     clear hK K
     refine norm_ (a':=?_) ?_ ?_
     rotate_left
     ·show Act.put _ (some 43) _=_
      simp only [Act.put,sq_,i64_w,i32_w]
      rfl
     refine one_ (i:=9) (N:=some 44) (bl_ 1023 13) rfl rfl (one_of HT_.out (by kernel_rfl)) (by decide) (fun K hK=>?_)
     refine value_ (w1:=?_) (v:=?_) (by rfl) rfl ?_ ?_
     rotate_left 2
     ·go_simp
      constructor
      ·rfl
      ·rfl
     refine hK.out _ _ ⟨(bkC (bkA BK453.out _) 0).trans rfl,(bkC (bkA BK453.out _) 1).trans rfl,(bkC (bkA BK443.out _) 0).trans rfl,(bkC (bkA BK443.out _) 1).trans rfl,(World.cell?_alloc_lt _ _ _ (bwL _ _ (((HB.out.cell (bwL w _ hw455_0)).trans hw455_0)))).trans (((HB.out.cell (bwL w _ hw455_0)).trans hw455_0)),(World.cell?_alloc_lt _ _ _ (bwL _ _ (((HB.out.cell (bwL w _ hw455_1)).trans hw455_1)))).trans (((HB.out.cell (bwL w _ hw455_1)).trans hw455_1)),(World.cell?_alloc_lt _ _ _ (bwL _ _ (((HB.out.cell (bwL w _ hw455_2)).trans hw455_2)))).trans (((HB.out.cell (bwL w _ hw455_2)).trans hw455_2))⟩ (fun hHeld=>?_)
     clear hK K
     refine norm_ (a':=?_) ?_ ?_
     rotate_left
     ·show Act.put _ (some 44) _=_
      simp only [Act.put,sq_,i64_w,i32_w]
      rfl
     refine one_ (i:=10) (N:=some 45) (bl_ 2047 13) rfl rfl (one_of HT_.out (by kernel_rfl)) (by decide) (fun K hK=>?_)
     refine Kd.S_append_step k45 (w0:=w) w.heap.size (by rfl) (.tmp 36) (.tmp 44) 27 45 (.agg #[(.int .i64 0),(.int .i64 0),(.slice none 0 0)]) 40 rfl Try.underlying27 info45 rfl (by decide) (by omega) u454000 x454000_2 (⟨t456,t457,t458⟩:S45) [.int .i64 t456,.int .i64 t457,.slice Ao37 t458.length co37] (fun k_=>some k_≠(.slice Ao34 x4_1.length co34:Value).ownBlock∧some k_≠(.slice (some ad454) t445.length co13:Value).ownBlock) (fun k_=>some k_=(.slice Ao37 t458.length co37:Value).ownBlock) rfl rfl ?aP (fun k_ hk_=>((Kd.R_mono (ok':=fun k_=>((fun k_=>some k_≠(.slice Ao34 x4_1.length co34:Value).ownBlock∧some k_≠(.slice (some ad454) t445.length co13:Value).ownBlock)) k_∧some k_≠(u454000:Value).ownBlock) (Kd.R_apart' (HO460.out) (Kd.S_typed HO_454000.out) (by decide)) (fun k_ hk=>⟨⟨hk.1.1.2,hk.1.2⟩,hk.2⟩))).1 k_ hk_.symm) ?aF ?aO ?aB ?aS ?aL ?_
     (case aP=>exact k45_mkM _ _ _ (⟨t456,t457,t458⟩:S45) (Kd.R_mono (Kd.R_tight rfl (Kd.R_mono (ok':=fun k_=>((fun k_=>some k_≠(.slice Ao34 x4_1.length co34:Value).ownBlock∧some k_≠(.slice (some ad454) t445.length co13:Value).ownBlock)) k_∧some k_≠(u454000:Value).ownBlock) (Kd.R_apart' (HO460.out) (Kd.S_typed HO_454000.out) (by decide)) (fun k_ hk=>⟨⟨hk.1.1.2,hk.1.2⟩,hk.2⟩))) (fun _ h_=>h_)))
     (case aB=>exact (zb3 HB.out GE443.out GE444.out GE453.out))
     (case aF=>exact (fun k_ hk=>⟨Kd.fresh' (Kd.R_lt (zR_ HO_4.out)) k_ hk,Kd.fresh' (Kd.R_lt (zR_ HO_29.out)) k_ hk⟩))
     (case aO=>exact (by (with_reducible repeat (first|apply Kd.S_alloc|apply Kd.S_drewN|apply Kd.S_drew));exact Kd.S_mono HO_454000.out (fun k_ hk=>⟨⟨hk.1.1,hk.1.2⟩,fun e_=>hk.2 e_⟩)))
     (case aS=>exact (bwZ (zb3 HB.out GE443.out GE444.out GE453.out)))
     (case aL=>have:=LMc32.out;omega)
     intro v462 w36 ho hb hg hat
     rw [← Ny461.out] at ho
     have n0_:=As_ (Kd.R_over' (zR_ HO_4.out) (Kd.S_typed (zS_ HO_454000.out)) (by decide) hg)
     have n1_:=As_ (Kd.R_over' (zR_ HO_29.out) (Kd.S_typed (zS_ HO_454000.out)) (by decide) hg)
     have n2_:=As_ (blk_grown (g:=gb443) (o:=.cells #[.slice (some ad455) l0_0.length c0_0,.int .i64 a0_1] 29 (0,0)) (zk_ BK443.out) hg (Kd.S_ne HO_454000.out BK443.out (by decide)))
     have n3_:=As_ (blk_grown (g:=gb444) (o:=.cells #[.slice none 0 0,.int .i64 0] 29 (0,0)) (zk_ BK444.out) hg (Kd.S_ne HO_454000.out BK444.out (by decide)))
     have n4_:=As_ (blk_grown (g:=gb453) (o:=.cells #[u454000,.int .i64 0] 29 (0,0)) (zk_ BK453.out) hg (Kd.S_ne HO_454000.out BK453.out (by decide)))
     have n5_:=As_ (hb)
     have n6_:=As_ (ho)
     clear HO_4 HO_29 BK443 BK444 BK453 HB HO_454000 HO460
     revert n0_ n1_ n2_ n3_ n4_ n5_ n6_;intro HO_4 HO_29 BK443 BK444 BK453 HB HO463
     clear ho hb hg hat
     obtain ⟨Ao38,co38,eo38⟩:=Kd.S_slice HO463.out
     (first|subst eo38|(injection eo38 with f1_ f2_ f3_;have f4_:=f1_.symm;have f5_:=f3_.symm;clear f1_ f2_ f3_;subst f4_;subst f5_))
     refine hK.out _ _ ⟨(bkC BK453.out 0).trans rfl,(bkC BK453.out 1).trans rfl,(bkC BK443.out 0).trans rfl,(bkC BK443.out 1).trans rfl,((HB.out.cell (bwL w _ hw455_0)).trans hw455_0),((HB.out.cell (bwL w _ hw455_1)).trans hw455_1),((HB.out.cell (bwL w _ hw455_2)).trans hw455_2)⟩ (fun hHeld=>?_)
     clear hK K
     refine norm_ (a':=?_) ?_ ?_
     rotate_left
     ·show Act.put _ (some 45) _=_
      simp only [Act.put,sq_,i64_w,i32_w]
      rfl
     refine pQ 11 46 (bl_ 4095 13) HT_ rfl ?_
     refine last_ (i:=12) (N:=none) (bl_ 8191 13) rfl rfl (one_of HT_.out (by kernel_rfl)) (by decide) (fun K hK=>?_)
     have hs39:w36.cell? ⟨gb453,0,none⟩=some (u454000):=(bkC BK453.out 0).trans rfl
     have hfs39:=bkF BK453.out 0
     have hns39_0:=NB443_453.out
     have hns39_1:=NB444_453.out
     have hms39_0:=NB453_443.out
     have hms39_1:=NB453_444.out
     refine skip_ (w1:=?_) (by rfl) rfl ?_ ?_
     rotate_left
     ·go_simp
      rfl
     refine hK.out _ _ ?_
     clear hK K
     refine done_ (done_of HT_.out (by kernel_rfl)) ?_
     try go_wp2
     go_roundg k2
     case measure=>have:=HK1.out;have:=HK2.out;omega
     case rel=>exact ⟨(wrap64 (x31_2+1)),(y461),(.slice Ao38 y461.length co38),zT_,H',⟨by have:=HK1.out;have:=HK2.out;omega⟩,⟨by (with_reducible repeat (first|apply Kd.R_alloc|apply Kd.R_drewN|apply Kd.R_drew));exact Kd.R_mono (Kd.R_far (p:=⟨gb453,0,none⟩) (Kd.R_types HO_4.out BK453.out (by decide)) (fun _ hk=>hk.2) (.slice Ao38 y461.length co38)) (fun _ hk=>hk.1.1)⟩,⟨by (with_reducible repeat (first|apply Kd.R_alloc|apply Kd.R_drewN|apply Kd.R_drew));exact Kd.R_mono (Kd.R_far (p:=⟨gb453,0,none⟩) (Kd.R_types HO_29.out BK453.out (by decide)) (fun _ hk=>hk.2) (.slice Ao38 y461.length co38)) (fun _ hk=>hk.1.1)⟩,⟨by (with_reducible repeat (first|apply Kd.S_alloc|apply Kd.S_drewN|apply Kd.S_drew));exact Kd.S_mono (Kd.S_far (p:=⟨gb453,0,none⟩) (Kd.S_types HO463.out BK453.out (by decide)) (fun _ hk=>hk.2) (.slice Ao38 y461.length co38)) (fun _ hk=>⟨hk.1.1,hk.1.2⟩)⟩,⟨by (with_reducible repeat first|apply bkN|apply bkD|apply bkA);refine blk_far ?_ NB443_453.out _;(with_reducible repeat first|apply bkN|apply bkD|apply bkA);exact BK443.out⟩,⟨by (with_reducible repeat first|apply bkN|apply bkD|apply bkA);refine blk_far ?_ NB444_453.out _;(with_reducible repeat first|apply bkN|apply bkD|apply bkA);exact BK444.out⟩,⟨by (with_reducible repeat first|apply bkN|apply bkD|apply bkA);refine blk_put (cs:=#[u454000,.int .i64 0]) ?_ 0 _ rfl;(with_reducible repeat first|apply bkN|apply bkD|apply bkA);exact BK453.out⟩,⟨zb3 HB.out GE443.out GE444.out GE453.out⟩⟩
def impl_PrunedGraph.f (k:Nat) (l0_0:List (S45)) (a0_1:Int):Option ((List (S45)) × Int):=(impl_ValidGraph.f k l0_0 a0_1).bind fun t466=>(if t466=true then ((impl_pruned.f k l0_0 a0_1).bind fun bt467=>(some (bt467.1,bt467.2))) else (some (([]:List (S45)),0)))
set_option maxRecDepth 100000 in
theorem impl_PrunedGraph.mono:∀ a0 a1 k,LeO (impl_PrunedGraph.f k a0 a1) (impl_PrunedGraph.f (k+1) a0 a1):=by
 intro a0 a1 k
 unfold impl_PrunedGraph.f
 repeat' first
   | (with_reducible exact impl_ValidGraph.mono _ _ _)
   | (with_reducible exact impl_pruned.mono _ _ _)
   | (with_reducible exact LeO.refl _)
   | (with_reducible exact LeO.none _)
   | (with_reducible refine LeO.ite ?_ ?_)
   | (with_reducible refine LeO.bind ?_ (fun _=>?_))
   | exact impl_ValidGraph.mono _ _ _
   | exact impl_pruned.mono _ _ _
   | exact LeO.none _
   | refine LeO.ite ?_ ?_
   | refine LeO.bind ?_ (fun _=>?_)
set_option maxHeartbeats 8000000 in
set_option maxRecDepth 100000 in
theorem impl_PrunedGraph.calls (k:Nat) (A0_0:Option Addr) (c0_0:Nat) (l0_0:List (S45)) (a0_1:Int) (r1:List (S45)) (r2:Int) (w:World) (hr0_0:Kd.C k45 w A0_0 l0_0.length l0_0) (hc0_0:l0_0.length≤c0_0) (h:impl_PrunedGraph.f k l0_0 a0_1=some (r1,r2)) :
  Calls Try.prog 21 #[.agg #[.slice A0_0 l0_0.length c0_0,.int .i64 a0_1]] w fun e w'=>∃ v0_:Value,e=.returned (.agg #[v0_,.int .i64 r2])∧Kd.S k45 45 w' w.heap.size (fun _=>True) v0_ r1∧Below w.heap.size w w':=by
 have hu29:=Try.underlying29
 have HR0_0:=As_ hr0_0
 have HC0_0:=As_ hc0_0
 clear hr0_0 hc0_0
 have HB:=As_ (Below.refl w.heap.size w)
 have H:((impl_ValidGraph.f k l0_0 a0_1).bind fun t466=>(if t466=true then ((impl_pruned.f k l0_0 a0_1).bind fun bt467=>(some (bt467.1,bt467.2))) else (some (([]:List (S45)),0))))=some (r1,r2):=h
 clear h
 replace H:=obS H
 obtain ⟨t466,A20,H⟩:=H
 replace H:(if t466=true then ((impl_pruned.f k l0_0 a0_1).bind fun bt467=>(some (bt467.1,bt467.2))) else (some (([]:List (S45)),0)))=some (r1,r2):=H
 have A2:=As_ A20
 clear A20
 by_cases c3:t466=true
 rotate_left
 ·replace c3:=Bool.eq_false_iff.mpr c3
  subst c3
  have H1:(some (([]:List (S45)),0))=some (r1,r2):=by rw [if_neg (show ¬ (false=true) by decide)] at H;exact H
  clear H
  have H:=H1
  clear H1
  simp only [Option.some.injEq,Prod.mk.injEq] at H
  obtain ⟨rfl,rfl⟩:=H
  go_enter Try.func21,Try.ntmps21
  go_wp2_with (first|((with_reducible refine gate_dst (N:=1) rfl ?_);refine box_event ?hg (N:=1) ?hd (cs:=#[.slice A0_0 l0_0.length c0_0,.int .i64 a0_1]) (t:=29) ?hr ?_;(case hd=>rfl);(case hg=>rfl);(case hr=>go_simp <;> rfl);intro gb464 hg w14 hbox hb;have n0_:=As_ (bwT (zb0 HB.out) hb);have n1_:=As_ (hbox);have n2_:=As_ ((by rw [hg];exact (bwZ (zb0 HB.out)):w.heap.size≤gb464));have n3_:=As_ ((by rw [hg];exact (bwZ (zb0 HB.out)):w.heap.size≤gb464));clear HB;revert n0_ n1_ n2_ n3_;intro HB BK464 GW464 GE464;clear hb hbox hg)|((with_reducible refine gate_dst (N:=2) rfl ?_);refine box_event ?hg (N:=2) ?hd (cs:=#[.slice none 0 0,.int .i64 0]) (t:=29) ?hr ?_;(case hd=>rfl);(case hg=>rfl);(case hr=>go_simp <;> rfl);intro gb465 hg w15 hbox hb;have n0_:=As_ (zkb BK464.out hb);have n1_:=As_ (bwT (zb1 HB.out GE464.out) hb);have n2_:=As_ (hbox);have n3_:=As_ ((by rw [hg];exact (bwZ (zb1 HB.out GE464.out)):w.heap.size≤gb465));have n4_:=As_ ((by rw [hg];exact (bwZ (zb1 HB.out GE464.out)):w.heap.size≤gb465));have n5_:=As_ ((by rw [hg];exact Nat.ne_of_lt (zkl BK464.out):gb464≠gb465));have n6_:=As_ ((by rw [hg];exact Nat.ne_of_gt (zkl BK464.out):gb465≠gb464));clear BK464 HB;revert n0_ n1_ n2_ n3_ n4_ n5_ n6_;intro BK464 HB BK465 GW465 GE465 NB464_465 NB465_464;clear hb hbox hg;have hnb16:=NB464_465.out;have hnc16:=NB465_464.out;obtain ⟨hcz17_0,hcz17_1,hfz17_0,hfz17_1⟩:=bk2 BK464.out)|((with_reducible refine gate_callee (f:=29) rfl ?_);refine goesL_ (some 4) rfl rfl Try.func29 (by kernel_rfl) rfl #[.agg #[.slice A0_0 l0_0.length c0_0,.int .i64 a0_1]] rfl zM_ ?_;(with_reducible refine (impl_ValidGraph.calls k _ _ l0_0 a0_1 false _ ?side1 ?side2 A2.out).mono ?_);(case side1=>exact zC_ (Kd.C_below HR0_0.out HB.out));(case side2=>exact HC0_0.out);rintro e w18 ⟨rfl,hb⟩;refine ⟨_,rfl,?_⟩;have n0_:=As_ (zkb BK464.out hb);have n1_:=As_ (zkb BK465.out hb);have n2_:=As_ (bwT (zb2 HB.out GE464.out GE465.out) hb);clear BK464 BK465 HB;revert n0_ n1_ n2_;intro BK464 BK465 HB;obtain ⟨hcz19_0,hcz19_1,hfz19_0,hfz19_1⟩:=bk2 BK465.out))
  refine bodyPost_ret (results_cell_row rfl _ _ gb465 29 #[.slice none 0 0,.int .i64 0] (0,0) _ rfl (by (with_reducible repeat first|apply bkN|apply bkD|apply bkA);refine blk_put (cs:=#[.slice none 0 0,.int .i64 0]) ?_ 1 _ rfl;(with_reducible repeat first|apply bkN|apply bkD|apply bkA);refine blk_put (cs:=#[.slice none 0 0,.int .i64 0]) ?_ 0 _ rfl;(with_reducible repeat first|apply bkN|apply bkD|apply bkA);exact BK465.out) Try.underlying29 rfl (by kernel_rfl)) rfl ?_
  exact ⟨_,zE_,by first|exact Kd.S_nil _ _ _ _ _|exact Kd.N_nil _ _ _ _ _|exact Kd.V_nil _ _ _ _ _|exact Kd.Q_nil _ _ _ _ _|exact Kd.R_nil _ _ _ _ _,zb2 HB.out GE464.out GE465.out⟩
 subst c3
 have H1:((impl_pruned.f k l0_0 a0_1).bind fun bt467=>(some (bt467.1,bt467.2)))=some (r1,r2):=by rw [if_pos rfl] at H;exact H
 clear H
 have H:=H1
 clear H1
 replace H:=obS H
 obtain ⟨⟨t467,t470⟩,A40,H⟩:=H
 replace H:(some (t467,t470))=some (r1,r2):=H
 have A4:=As_ A40
 clear A40
 simp only [Option.some.injEq,Prod.mk.injEq] at H
 obtain ⟨rfl,rfl⟩:=H
 go_enter Try.func21,Try.ntmps21
 go_wp2_with (first|((with_reducible refine gate_dst (N:=1) rfl ?_);refine box_event ?hg (N:=1) ?hd (cs:=#[.slice A0_0 l0_0.length c0_0,.int .i64 a0_1]) (t:=29) ?hr ?_;(case hd=>rfl);(case hg=>rfl);(case hr=>go_simp <;> rfl);intro gb464 hg w5 hbox hb;have n0_:=As_ (bwT (zb0 HB.out) hb);have n1_:=As_ (hbox);have n2_:=As_ ((by rw [hg];exact (bwZ (zb0 HB.out)):w.heap.size≤gb464));have n3_:=As_ ((by rw [hg];exact (bwZ (zb0 HB.out)):w.heap.size≤gb464));clear HB;revert n0_ n1_ n2_ n3_;intro HB BK464 GW464 GE464;clear hb hbox hg)|((with_reducible refine gate_dst (N:=2) rfl ?_);refine box_event ?hg (N:=2) ?hd (cs:=#[.slice none 0 0,.int .i64 0]) (t:=29) ?hr ?_;(case hd=>rfl);(case hg=>rfl);(case hr=>go_simp <;> rfl);intro gb465 hg w6 hbox hb;have n0_:=As_ (zkb BK464.out hb);have n1_:=As_ (bwT (zb1 HB.out GE464.out) hb);have n2_:=As_ (hbox);have n3_:=As_ ((by rw [hg];exact (bwZ (zb1 HB.out GE464.out)):w.heap.size≤gb465));have n4_:=As_ ((by rw [hg];exact (bwZ (zb1 HB.out GE464.out)):w.heap.size≤gb465));have n5_:=As_ ((by rw [hg];exact Nat.ne_of_lt (zkl BK464.out):gb464≠gb465));have n6_:=As_ ((by rw [hg];exact Nat.ne_of_gt (zkl BK464.out):gb465≠gb464));clear BK464 HB;revert n0_ n1_ n2_ n3_ n4_ n5_ n6_;intro BK464 HB BK465 GW465 GE465 NB464_465 NB465_464;clear hb hbox hg;have hnb7:=NB464_465.out;have hnc7:=NB465_464.out;obtain ⟨hcz8_0,hcz8_1,hfz8_0,hfz8_1⟩:=bk2 BK464.out)|((with_reducible refine gate_callee (f:=29) rfl ?_);refine goesL_ (some 4) rfl rfl Try.func29 (by kernel_rfl) rfl #[.agg #[.slice A0_0 l0_0.length c0_0,.int .i64 a0_1]] rfl zM_ ?_;(with_reducible refine (impl_ValidGraph.calls k _ _ l0_0 a0_1 true _ ?side1 ?side2 A2.out).mono ?_);(case side1=>exact zC_ (Kd.C_below HR0_0.out HB.out));(case side2=>exact HC0_0.out);rintro e w9 ⟨rfl,hb⟩;refine ⟨_,rfl,?_⟩;have n0_:=As_ (zkb BK464.out hb);have n1_:=As_ (zkb BK465.out hb);have n2_:=As_ (bwT (zb2 HB.out GE464.out GE465.out) hb);clear BK464 BK465 HB;revert n0_ n1_ n2_;intro BK464 BK465 HB;obtain ⟨hcz10_0,hcz10_1,hfz10_0,hfz10_1⟩:=bk2 BK464.out)|((with_reducible refine gate_callee (f:=57) rfl ?_);refine goesL_ (some 8) rfl rfl Try.func57 (by kernel_rfl) rfl #[.agg #[.slice A0_0 l0_0.length c0_0,.int .i64 a0_1]] rfl zM_ ?_;(with_reducible refine (impl_pruned.calls k _ _ l0_0 a0_1 t467 t470 _ ?side1 ?side2 A4.out).mono ?_);(case side1=>exact zC_ (Kd.C_below HR0_0.out HB.out));(case side2=>exact HC0_0.out);rintro e w11 ⟨v468,rfl,ho0,hb⟩;refine ⟨_,rfl,?_⟩;have n0_:=As_ (Kd.S_lower ho0 (bwZ (zb2 HB.out GE464.out GE465.out)));have n1_:=As_ (zkb BK464.out hb);have n2_:=As_ (zkb BK465.out hb);have n3_:=As_ (bwT (zb2 HB.out GE464.out GE465.out) hb);clear BK464 BK465 HB;revert n0_ n1_ n2_ n3_;intro HO469 BK464 BK465 HB;obtain ⟨Ao12,co12,eo12⟩:=Kd.S_slice HO469.out;subst eo12;obtain ⟨hcz13_0,hcz13_1,hfz13_0,hfz13_1⟩:=bk2 BK465.out))
 refine bodyPost_ret (results_cell_row rfl _ _ gb465 29 #[.slice Ao12 t467.length co12,.int .i64 t470] (0,0) _ rfl (by (with_reducible repeat first|apply bkN|apply bkD|apply bkA);refine blk_put (cs:=#[.slice Ao12 t467.length co12,.int .i64 0]) ?_ 1 _ rfl;(with_reducible repeat first|apply bkN|apply bkD|apply bkA);refine blk_put (cs:=#[.slice none 0 0,.int .i64 0]) ?_ 0 _ rfl;(with_reducible repeat first|apply bkN|apply bkD|apply bkA);exact BK465.out) Try.underlying29 rfl (by kernel_rfl)) rfl ?_
 exact ⟨_,zE_,by (with_reducible repeat (first|apply Kd.S_alloc|apply Kd.S_drewN|apply Kd.S_drew));exact Kd.S_mono (Kd.S_far (p:=⟨gb465,1,none⟩) (Kd.S_far (p:=⟨gb465,0,none⟩) (Kd.S_types HO469.out BK465.out (by decide)) (fun _ hk=>hk.2) (.slice Ao12 t467.length co12)) (fun _ hk=>hk.2) (.int .i64 t470)) (fun _ hk=>trivial),zb2 HB.out GE464.out GE465.out⟩
end Go.Proofs.Ytfhakhbmbnbneaa.Q
