-- Written by wip/tools/qprint.py (a program of this claim's author) by means of the kit's printer.
import Derived.Test.YtonppkaobnfldaaQ0
namespace Go.Proofs.Ytonppkaobnfldaa.Q
open Go.RowKit Go.Proofs.YtonppkaobnfldaaW.PrintWords Go.Proofs.YtonppkaobnfldaaW.PrintLast Go.Proofs.YtonppkaobnfldaaW.PrintMore
attribute [local go_sem] max2_int min2_int max_two min_two max_three min_three max_four min_four   -- for this text's walks alone
set_option linter.unusedVariables false
set_option linter.unusedSimpArgs false

/-! ### spec_orderly: function 70 -/
def spec_orderly.l0 : Nat → List (S49) → List Bool → Int → Option (Bool)
 | 0,_,_,_ => none
 | k + 1,x0,x3,x4 => if x4 < (x0.length : Int) then (if 0 ≤ x4 then (if ((rd_T49 x0 x4).f0) = 15 then (if 0 ≤ ((rd_T49 x0 x4).f1) then (if ((rd_T49 x0 x4).f1) < (x3.length : Int) then ((some (x3.set (((rd_T49 x0 x4).f1) : Int).toNat true : List Bool)).bind fun y669 => (if ((rd_T49 x0 x4).f0) = 16 then (if (rdOf false y669 ((rd_T49 x0 x4).f1) = true) then (spec_orderly.l0 k x0 y669 (wrap64 (x4 + 1))) else (some false)) else (spec_orderly.l0 k x0 y669 (wrap64 (x4 + 1))))) else (none)) else (none)) else (if ((rd_T49 x0 x4).f0) = 16 then (if 0 ≤ ((rd_T49 x0 x4).f1) then (if ((rd_T49 x0 x4).f1) < (x3.length : Int) then (if (rdOf false x3 ((rd_T49 x0 x4).f1) = true) then (spec_orderly.l0 k x0 x3 (wrap64 (x4 + 1))) else (some false)) else (none)) else (none)) else (spec_orderly.l0 k x0 x3 (wrap64 (x4 + 1))))) else (none)) else (some true)
def spec_orderly.f (k : Nat) (l0 : List (S49)) : Option (Bool) := if 20 ≤ 281474976710656 then (spec_orderly.l0 k l0 (List.replicate 20 false) 0) else (none)
set_option maxRecDepth 100000 in
theorem spec_orderly.mono_l : ∀ k,(∀ y0 y1 y2,LeO (spec_orderly.l0 k y0 y1 y2) (spec_orderly.l0 (k + 1) y0 y1 y2))
 | 0 => fun _ _ _ r h => (by cases h)
 | k + 1 => by
  have ih0 := spec_orderly.mono_l k
  ·intro y0 y1 y2
   unfold spec_orderly.l0
   repeat' first
   | (with_reducible exact ih0 _ _ _)
   | (with_reducible exact LeO.refl _)
   | (with_reducible exact LeO.none _)
   | (with_reducible refine LeO.ite ?_ ?_)
   | (with_reducible refine LeO.bind ?_ (fun _ => ?_))
   | exact ih0 _ _ _
   | exact LeO.none _
   | refine LeO.ite ?_ ?_
   | refine LeO.bind ?_ (fun _ => ?_)
set_option maxRecDepth 100000 in
theorem spec_orderly.mono : ∀ a0 k,LeO (spec_orderly.f k a0) (spec_orderly.f (k + 1) a0) := by
 intro a0 k
 have ih0 := spec_orderly.mono_l k
 unfold spec_orderly.f
 repeat' first
   | (with_reducible exact ih0 _ _ _)
   | (with_reducible exact LeO.refl _)
   | (with_reducible exact LeO.none _)
   | (with_reducible refine LeO.ite ?_ ?_)
   | (with_reducible refine LeO.bind ?_ (fun _ => ?_))
   | exact ih0 _ _ _
   | exact LeO.none _
   | refine LeO.ite ?_ ?_
   | refine LeO.bind ?_ (fun _ => ?_)
set_option maxHeartbeats 8000000 in
set_option maxRecDepth 100000 in
theorem spec_orderly.calls (k : Nat) (A0 : Option Addr) (c0 : Nat) (l0 : List (S49)) (r : Bool) (w : World) (hr0 : Kd.C k49 w A0 l0.length l0) (hc0 : l0.length ≤ c0) (h : spec_orderly.f k l0 = some r) :
  Calls Try.prog 70 #[.slice A0 l0.length c0] w fun e w' => e = .returned (.bool r) ∧ Below w.heap.size w w' := by
 have HR0 := Aside0.mk hr0
 have HC0 := Aside0.mk hc0
 clear hr0 hc0
 have HB := Aside0.mk (Below.refl w.heap.size w)
 have H : (if 20 ≤ 281474976710656 then (spec_orderly.l0 k l0 (List.replicate 20 false) 0) else (none)) = some r := h
 clear h
 by_cases c2 : 20 ≤ 281474976710656
 ·rw [if_pos c2] at H
  have c2b0 := eq_true c2
  have c2b1 : decide (20 ≤ 281474976710656) = true := decide_eq_true c2
  clear c2
  obtain ⟨y664,hy664⟩ : ∃ y_ : List Bool,y_ = (List.replicate 20 false) := ⟨_,rfl⟩
  replace H : (spec_orderly.l0 k l0 y664 0) = some r := by first|(rw [hy664];with_reducible exact H)|(have H2_ := (Option.bind_some _ _).symm.trans H;rw [hy664];with_reducible exact H2_)|(have H2_ := (Option.bind_some _ _).symm.trans H;with_reducible exact H2_)|with_reducible exact H|(rw [hy664];exact H)|exact H
  have Ny664 := Aside0.mk hy664
  clear hy664
  have H' := Aside0.mk H
  clear H
  go_enter Try.func70,Try.ntmps70
  go_wp2_with (first|((with_reducible refine gate_dst (N := 5) rfl ?_);refine Kd.R_make Kd.bool _ 4 rfl (N := 5) rfl 72 _ _ rfl 20 rfl rfl Try.underlying72 (.bool false) 1 info4 rfl (by decide) (by omega) false (ok := fun _ => True) (okp := fun _ => True) rfl (fun _ hk => hk) trivial (by omega) (by omega) (Below.refl _ _) (Nat.le_refl _) ?_;intro v665 w3 ho4 hb hg_ hnew_;clear hg_ hnew_;(first|rw [← Ny664.out] at ho4|(simp only [Int.reduceToNat] at ho4;rw [← Ny664.out] at ho4));have n0_ := Aside0.mk (Kd.R_lower ho4 (below_size (by repeat (first|(with_reducible first|exact HB.out|apply below_alloc|apply pw_below_drewN|apply below_drew1)|exact HB.out))));have n1_ := Aside0.mk (below_step (by repeat (first|(with_reducible first|exact HB.out|apply below_alloc|apply pw_below_drewN|apply below_drew1)|exact HB.out)) hb);clear HB;have HO666 := n0_;have HB := n1_;clear n0_ n1_;clear hb ho4))
  go_loopg [4] k (fun kq v4 w' => ∃ (x3_1 : List Bool) (x4_1 : Int),v4 = .int .i64 x4_1 ∧ Aside0 (spec_orderly.l0 kq l0 x3_1 x4_1 = some r) ∧ Aside0 (kq ≤ k) ∧ Aside0 (Kd.R Kd.bool 4 w' w.heap.size (fun _ => True) v665 x3_1) ∧ Aside0 (Below w.heap.size w w'))
  case atStart => exact ⟨(y664),(0),(by first|rfl|(simp;done)|(simp [*];done)),H',⟨Nat.le_refl _⟩,⟨by (with_reducible repeat (first|apply Kd.R_alloc|apply Kd.R_drewN|apply Kd.R_drew));exact HO666.out⟩,⟨by repeat (first|(with_reducible first|exact HB.out|apply below_alloc|apply pw_below_drewN|apply below_drew1)|exact HB.out)⟩⟩
  case round =>
   clear H'
   try clear c2
   try clear c2b0
   try clear c2b1
   try clear p2
   obtain ⟨x3_1,x4_1,rfl,HA,HK1,HO_3,HB⟩ := hrel
   cases gk with
   | zero => exact absurd HA.out (fun h_ => (by cases h_))
   | succ k1 =>
    have H := HA.out
    clear HA
    simp only [spec_orderly.l0] at H
    by_cases c5 : x4_1 < (l0.length : Int)
    ·rw [if_pos c5] at H
     have c5b0 : decide (x4_1 < (l0.length : Int)) = true := decide_eq_true c5
     clear c5
     by_cases c6 : 0 ≤ x4_1
     ·rw [if_pos c6] at H
      have c6b0 : decide (0 ≤ x4_1) = true := decide_eq_true c6
      clear c6
      by_cases c7 : ((rd_T49 l0 x4_1).f0) = 15
      ·rw [if_pos c7] at H
       have c7b0 : (((rd_T49 l0 x4_1).f0) == 15) = true := beq_iff_eq.mpr c7
       have c7b1 : (((rd_T49 l0 x4_1).f0) != 15) = false := bne_eq_false_iff_eq.mpr c7
       clear c7
       by_cases c8 : 0 ≤ ((rd_T49 l0 x4_1).f1)
       ·rw [if_pos c8] at H
        have c8b0 : decide (0 ≤ ((rd_T49 l0 x4_1).f1)) = true := decide_eq_true c8
        clear c8
        by_cases c9 : ((rd_T49 l0 x4_1).f1) < (x3_1.length : Int)
        ·rw [if_pos c9] at H
         have c9b0 : decide (((rd_T49 l0 x4_1).f1) < (x3_1.length : Int)) = true := decide_eq_true c9
         clear c9
         obtain ⟨y669,hy669⟩ : ∃ y_ : List Bool,y_ = (x3_1.set (((rd_T49 l0 x4_1).f1) : Int).toNat true) := ⟨_,rfl⟩
         replace H : (if ((rd_T49 l0 x4_1).f0) = 16 then (if (rdOf false y669 ((rd_T49 l0 x4_1).f1) = true) then (spec_orderly.l0 k1 l0 y669 (wrap64 (x4_1 + 1))) else (some false)) else (spec_orderly.l0 k1 l0 y669 (wrap64 (x4_1 + 1)))) = some r := by first|(rw [hy669];with_reducible exact H)|(have H2_ := (Option.bind_some _ _).symm.trans H;rw [hy669];with_reducible exact H2_)|(have H2_ := (Option.bind_some _ _).symm.trans H;with_reducible exact H2_)|with_reducible exact H|(rw [hy669];exact H)|exact H
         have Ny669 := Aside0.mk hy669
         clear hy669
         by_cases c11 : ((rd_T49 l0 x4_1).f0) = 16
         ·rw [if_pos c11] at H
          have c11b0 : (((rd_T49 l0 x4_1).f0) == 16) = true := beq_iff_eq.mpr c11
          have c11b1 : (((rd_T49 l0 x4_1).f0) != 16) = false := bne_eq_false_iff_eq.mpr c11
          clear c11
          obtain ⟨bq12,hbq12⟩ : ∃ b_ : Bool,b_ = (rdOf false y669 ((rd_T49 l0 x4_1).f1)) := ⟨_,rfl⟩
          replace H : (if (bq12 = true) then (spec_orderly.l0 k1 l0 y669 (wrap64 (x4_1 + 1))) else (some false)) = some r := by rw [← hbq12] at H;exact H
          have Nbq12 := Aside0.mk hbq12
          clear hbq12
          by_cases c13 : (bq12 = true)
          ·subst c13
           have H1 : (spec_orderly.l0 k1 l0 y669 (wrap64 (x4_1 + 1))) = some r := by rw [if_pos rfl] at H;exact H
           clear H
           have H := H1
           clear H1
           have H' := Aside0.mk H
           clear H
           have p667 : 0 ≤ (x4_1 : Int) := of_decide_eq_true (by first|(with_reducible assumption)|assumption)
           have q667 : x4_1 < (l0.length : Int) := of_decide_eq_true (by first|(with_reducible assumption)|assumption)
           obtain ⟨ad667,e667,hx667_0,hx667_1⟩ := at_T49 HR0.out x4_1 p667 q667
           cases e667
           replace hx667_0 := (HB.out.cell (World.block_lt_of_cell? w _ hx667_0)).trans hx667_0
           replace hx667_1 := (HB.out.cell (World.block_lt_of_cell? w _ hx667_1)).trans hx667_1
           replace p667 := eq_true p667
           replace q667 := eq_true q667
           have p668 : 0 ≤ (x4_1 : Int) := of_decide_eq_true (by first|(with_reducible assumption)|assumption)
           have q668 : x4_1 < (l0.length : Int) := of_decide_eq_true (by first|(with_reducible assumption)|assumption)
           obtain ⟨ad668,e668,hx668_0,hx668_1⟩ := at_T49 HR0.out x4_1 p668 q668
           obtain rfl : ad667 = ad668 := (by injection e668)
           replace hx668_0 := (HB.out.cell (World.block_lt_of_cell? w _ hx668_0)).trans hx668_0
           replace hx668_1 := (HB.out.cell (World.block_lt_of_cell? w _ hx668_1)).trans hx668_1
           replace p668 := eq_true p668
           replace q668 := eq_true q668
           have p10 : 0 ≤ (((rd_T49 l0 x4_1).f1) : Int) := of_decide_eq_true (by first|(with_reducible assumption)|assumption)
           have q10 : (((rd_T49 l0 x4_1).f1) : Int) < ((x3_1.length : Int) : Int) := of_decide_eq_true (by first|(with_reducible assumption)|assumption)
           obtain ⟨go10,co10,eo10,gb10,gl10,cl10,HG10⟩ := Kd.R_form HO_3.out (by omega)
           (first|cases eo10|(injection eo10 with ea_ en_ ec_;(first|subst ea_|(injection ea_ with ea_;subst ea_));subst ec_;clear en_))
           have GB10 := Aside0.mk gb10
           have GG10 := Aside0.mk HG10
           clear gb10 gl10 HG10
           obtain ⟨hx10_0,hf10_0⟩ := Kd.R_celln false HO_3.out (((rd_T49 l0 x4_1).f1) : Int) p10 q10
           replace p10 := eq_true p10
           replace q10 := eq_true q10
           have HP14 := Kd.R_putg HO_3.out (((rd_T49 l0 x4_1).f1) : Int) true
           go_wp2_with (first|((with_reducible refine gate_store (t := 4) (p := 24) rfl ?_);refine store_event (t := 4) (p := 24) (v := ?vo_w15) (w1 := (wr.setCell ⟨go10,(((rd_T49 l0 x4_1).f1) : Int).toNat,none⟩ (.bool true))) ?hg ?ho ?hn ?hr ?_;(case ho => rfl);(case hg => rfl);(case hn => rfl);(case hr => first|(go_simp;done)|(go_simp;rfl));intro w15 hw;have hg : wr.grownBy w15 (some go10) := (by rw [hw];exact HP14.2);have hp_ : Kd.R Kd.bool 4 w15 w.heap.size (fun _ => True) (.slice (some ⟨go10,0,none⟩) x3_1.length co10) y669 := (by rw [hw,Ny669.out];exact HP14.1);clear HP14;have n0_ := Aside0.mk (hp_);have n1_ := Aside0.mk ((by rw [hw];exact below_set (HB.out) GB10.out : Below w.heap.size w w15));clear HO_3;clear HB;have HO_3 := n0_;have HB := n1_;clear n0_ n1_;clear hg hw hp_;have p670 : 0 ≤ (x4_1 : Int) := of_decide_eq_true (by first|(with_reducible assumption)|assumption);have q670 : x4_1 < (l0.length : Int) := of_decide_eq_true (by first|(with_reducible assumption)|assumption);obtain ⟨ad670,e670,hx670_0,hx670_1⟩ := at_T49 HR0.out x4_1 p670 q670;obtain rfl : ad667 = ad670 := (by injection e670);replace hx670_0 := (HB.out.cell (World.block_lt_of_cell? w _ hx670_0)).trans hx670_0;replace hx670_1 := (HB.out.cell (World.block_lt_of_cell? w _ hx670_1)).trans hx670_1;replace p670 := eq_true p670;replace q670 := eq_true q670;have p671 : 0 ≤ (x4_1 : Int) := of_decide_eq_true (by first|(with_reducible assumption)|assumption);have q671 : x4_1 < (l0.length : Int) := of_decide_eq_true (by first|(with_reducible assumption)|assumption);obtain ⟨ad671,e671,hx671_0,hx671_1⟩ := at_T49 HR0.out x4_1 p671 q671;obtain rfl : ad667 = ad671 := (by injection e671);replace hx671_0 := (HB.out.cell (World.block_lt_of_cell? w _ hx671_0)).trans hx671_0;replace hx671_1 := (HB.out.cell (World.block_lt_of_cell? w _ hx671_1)).trans hx671_1;replace p671 := eq_true p671;replace q671 := eq_true q671;have p672 : 0 ≤ (((rd_T49 l0 x4_1).f1) : Int) := of_decide_eq_true (by first|(with_reducible assumption)|assumption);have q672 : ((rd_T49 l0 x4_1).f1) < (y669.length : Int) := (by have h_ : (((rd_T49 l0 x4_1).f1) : Int) < ((x3_1.length : Int) : Int) := of_decide_eq_true (by first|(with_reducible assumption)|assumption);first|(have e_ := (Kd.R_reads' HO_3.out).1;omega)|simpa only [Ny669.out,List.length_set] using h_);have ql672 : ((((rd_T49 l0 x4_1).f1) : Int) < ((x3_1.length : Int) : Int)) = True := eq_true (of_decide_eq_true (by first|(with_reducible assumption)|assumption));obtain ⟨ad672,e672,hx672_0⟩ := Kd.at_bool (Kd.R_reads' HO_3.out).2.2 ((rd_T49 l0 x4_1).f1) p672 q672;(try rw [← Nbq12.out] at hx672_0);obtain rfl : (⟨go10,0,none⟩ : Addr) = ad672 := (by injection e672);(first|simp only [add_plain] at hx672_0|simp only [add_at] at hx672_0|simp only [Addr.add,Nat.zero_add] at hx672_0|skip);replace p672 := eq_true p672;replace q672 := eq_true q672))
           go_roundg k1
           case measure => have := HK1.out;omega
           case rel => exact ⟨(y669),(wrap64 (x4_1 + 1)),(by first|rfl|(simp;done)|(simp [*];done)),H',⟨by have := HK1.out;omega⟩,⟨by (with_reducible repeat (first|apply Kd.R_alloc|apply Kd.R_drewN|apply Kd.R_drew));exact HO_3.out⟩,⟨by repeat (first|(with_reducible first|exact HB.out|apply below_alloc|apply pw_below_drewN|apply below_drew1)|exact HB.out)⟩⟩
          ·replace c13 := Bool.eq_false_iff.mpr c13
           subst c13
           have H1 : (some false) = some r := by rw [if_neg (show ¬ (false = true) by decide)] at H;exact H
           clear H
           have H := H1
           clear H1
           obtain rfl := Option.some.inj H
           have p667 : 0 ≤ (x4_1 : Int) := of_decide_eq_true (by first|(with_reducible assumption)|assumption)
           have q667 : x4_1 < (l0.length : Int) := of_decide_eq_true (by first|(with_reducible assumption)|assumption)
           obtain ⟨ad667,e667,hx667_0,hx667_1⟩ := at_T49 HR0.out x4_1 p667 q667
           cases e667
           replace hx667_0 := (HB.out.cell (World.block_lt_of_cell? w _ hx667_0)).trans hx667_0
           replace hx667_1 := (HB.out.cell (World.block_lt_of_cell? w _ hx667_1)).trans hx667_1
           replace p667 := eq_true p667
           replace q667 := eq_true q667
           have p668 : 0 ≤ (x4_1 : Int) := of_decide_eq_true (by first|(with_reducible assumption)|assumption)
           have q668 : x4_1 < (l0.length : Int) := of_decide_eq_true (by first|(with_reducible assumption)|assumption)
           obtain ⟨ad668,e668,hx668_0,hx668_1⟩ := at_T49 HR0.out x4_1 p668 q668
           obtain rfl : ad667 = ad668 := (by injection e668)
           replace hx668_0 := (HB.out.cell (World.block_lt_of_cell? w _ hx668_0)).trans hx668_0
           replace hx668_1 := (HB.out.cell (World.block_lt_of_cell? w _ hx668_1)).trans hx668_1
           replace p668 := eq_true p668
           replace q668 := eq_true q668
           have p10 : 0 ≤ (((rd_T49 l0 x4_1).f1) : Int) := of_decide_eq_true (by first|(with_reducible assumption)|assumption)
           have q10 : (((rd_T49 l0 x4_1).f1) : Int) < ((x3_1.length : Int) : Int) := of_decide_eq_true (by first|(with_reducible assumption)|assumption)
           obtain ⟨go10,co10,eo10,gb10,gl10,cl10,HG10⟩ := Kd.R_form HO_3.out (by omega)
           (first|cases eo10|(injection eo10 with ea_ en_ ec_;(first|subst ea_|(injection ea_ with ea_;subst ea_));subst ec_;clear en_))
           have GB10 := Aside0.mk gb10
           have GG10 := Aside0.mk HG10
           clear gb10 gl10 HG10
           obtain ⟨hx10_0,hf10_0⟩ := Kd.R_celln false HO_3.out (((rd_T49 l0 x4_1).f1) : Int) p10 q10
           replace p10 := eq_true p10
           replace q10 := eq_true q10
           have HP16 := Kd.R_putg HO_3.out (((rd_T49 l0 x4_1).f1) : Int) true
           go_wp2_with (first|((with_reducible refine gate_store (t := 4) (p := 24) rfl ?_);refine store_event (t := 4) (p := 24) (v := ?vo_w17) (w1 := (wr.setCell ⟨go10,(((rd_T49 l0 x4_1).f1) : Int).toNat,none⟩ (.bool true))) ?hg ?ho ?hn ?hr ?_;(case ho => rfl);(case hg => rfl);(case hn => rfl);(case hr => first|(go_simp;done)|(go_simp;rfl));intro w17 hw;have hg : wr.grownBy w17 (some go10) := (by rw [hw];exact HP16.2);have hp_ : Kd.R Kd.bool 4 w17 w.heap.size (fun _ => True) (.slice (some ⟨go10,0,none⟩) x3_1.length co10) y669 := (by rw [hw,Ny669.out];exact HP16.1);clear HP16;have n0_ := Aside0.mk (hp_);have n1_ := Aside0.mk ((by rw [hw];exact below_set (HB.out) GB10.out : Below w.heap.size w w17));clear HO_3;clear HB;have HO_3 := n0_;have HB := n1_;clear n0_ n1_;clear hg hw hp_;have p670 : 0 ≤ (x4_1 : Int) := of_decide_eq_true (by first|(with_reducible assumption)|assumption);have q670 : x4_1 < (l0.length : Int) := of_decide_eq_true (by first|(with_reducible assumption)|assumption);obtain ⟨ad670,e670,hx670_0,hx670_1⟩ := at_T49 HR0.out x4_1 p670 q670;obtain rfl : ad667 = ad670 := (by injection e670);replace hx670_0 := (HB.out.cell (World.block_lt_of_cell? w _ hx670_0)).trans hx670_0;replace hx670_1 := (HB.out.cell (World.block_lt_of_cell? w _ hx670_1)).trans hx670_1;replace p670 := eq_true p670;replace q670 := eq_true q670;have p671 : 0 ≤ (x4_1 : Int) := of_decide_eq_true (by first|(with_reducible assumption)|assumption);have q671 : x4_1 < (l0.length : Int) := of_decide_eq_true (by first|(with_reducible assumption)|assumption);obtain ⟨ad671,e671,hx671_0,hx671_1⟩ := at_T49 HR0.out x4_1 p671 q671;obtain rfl : ad667 = ad671 := (by injection e671);replace hx671_0 := (HB.out.cell (World.block_lt_of_cell? w _ hx671_0)).trans hx671_0;replace hx671_1 := (HB.out.cell (World.block_lt_of_cell? w _ hx671_1)).trans hx671_1;replace p671 := eq_true p671;replace q671 := eq_true q671;have p672 : 0 ≤ (((rd_T49 l0 x4_1).f1) : Int) := of_decide_eq_true (by first|(with_reducible assumption)|assumption);have q672 : ((rd_T49 l0 x4_1).f1) < (y669.length : Int) := (by have h_ : (((rd_T49 l0 x4_1).f1) : Int) < ((x3_1.length : Int) : Int) := of_decide_eq_true (by first|(with_reducible assumption)|assumption);first|(have e_ := (Kd.R_reads' HO_3.out).1;omega)|simpa only [Ny669.out,List.length_set] using h_);have ql672 : ((((rd_T49 l0 x4_1).f1) : Int) < ((x3_1.length : Int) : Int)) = True := eq_true (of_decide_eq_true (by first|(with_reducible assumption)|assumption));obtain ⟨ad672,e672,hx672_0⟩ := Kd.at_bool (Kd.R_reads' HO_3.out).2.2 ((rd_T49 l0 x4_1).f1) p672 q672;(try rw [← Nbq12.out] at hx672_0);obtain rfl : (⟨go10,0,none⟩ : Addr) = ad672 := (by injection e672);(first|simp only [add_plain] at hx672_0|simp only [add_at] at hx672_0|simp only [Addr.add,Nat.zero_add] at hx672_0|skip);replace p672 := eq_true p672;replace q672 := eq_true q672))
           go_ret
           exact ⟨by first|rfl|(simp [errW_none,errW_some] <;> rfl)|(simp [*,errW_none,errW_some] <;> rfl),by repeat (first|(with_reducible first|exact HB.out|apply below_alloc|apply pw_below_drewN|apply below_drew1)|exact HB.out)⟩
         ·rw [if_neg c11] at H
          have c11b0 : (((rd_T49 l0 x4_1).f0) == 16) = false := beq_eq_false_iff_ne.mpr c11
          have c11b1 : (((rd_T49 l0 x4_1).f0) != 16) = true := bne_iff_ne.mpr c11
          have H' := Aside0.mk H
          clear H
          have p667 : 0 ≤ (x4_1 : Int) := of_decide_eq_true (by first|(with_reducible assumption)|assumption)
          have q667 : x4_1 < (l0.length : Int) := of_decide_eq_true (by first|(with_reducible assumption)|assumption)
          obtain ⟨ad667,e667,hx667_0,hx667_1⟩ := at_T49 HR0.out x4_1 p667 q667
          cases e667
          replace hx667_0 := (HB.out.cell (World.block_lt_of_cell? w _ hx667_0)).trans hx667_0
          replace hx667_1 := (HB.out.cell (World.block_lt_of_cell? w _ hx667_1)).trans hx667_1
          replace p667 := eq_true p667
          replace q667 := eq_true q667
          have p668 : 0 ≤ (x4_1 : Int) := of_decide_eq_true (by first|(with_reducible assumption)|assumption)
          have q668 : x4_1 < (l0.length : Int) := of_decide_eq_true (by first|(with_reducible assumption)|assumption)
          obtain ⟨ad668,e668,hx668_0,hx668_1⟩ := at_T49 HR0.out x4_1 p668 q668
          obtain rfl : ad667 = ad668 := (by injection e668)
          replace hx668_0 := (HB.out.cell (World.block_lt_of_cell? w _ hx668_0)).trans hx668_0
          replace hx668_1 := (HB.out.cell (World.block_lt_of_cell? w _ hx668_1)).trans hx668_1
          replace p668 := eq_true p668
          replace q668 := eq_true q668
          have p10 : 0 ≤ (((rd_T49 l0 x4_1).f1) : Int) := of_decide_eq_true (by first|(with_reducible assumption)|assumption)
          have q10 : (((rd_T49 l0 x4_1).f1) : Int) < ((x3_1.length : Int) : Int) := of_decide_eq_true (by first|(with_reducible assumption)|assumption)
          obtain ⟨go10,co10,eo10,gb10,gl10,cl10,HG10⟩ := Kd.R_form HO_3.out (by omega)
          (first|cases eo10|(injection eo10 with ea_ en_ ec_;(first|subst ea_|(injection ea_ with ea_;subst ea_));subst ec_;clear en_))
          have GB10 := Aside0.mk gb10
          have GG10 := Aside0.mk HG10
          clear gb10 gl10 HG10
          obtain ⟨hx10_0,hf10_0⟩ := Kd.R_celln false HO_3.out (((rd_T49 l0 x4_1).f1) : Int) p10 q10
          replace p10 := eq_true p10
          replace q10 := eq_true q10
          have HP18 := Kd.R_putg HO_3.out (((rd_T49 l0 x4_1).f1) : Int) true
          go_wp2_with (first|((with_reducible refine gate_store (t := 4) (p := 24) rfl ?_);refine store_event (t := 4) (p := 24) (v := ?vo_w19) (w1 := (wr.setCell ⟨go10,(((rd_T49 l0 x4_1).f1) : Int).toNat,none⟩ (.bool true))) ?hg ?ho ?hn ?hr ?_;(case ho => rfl);(case hg => rfl);(case hn => rfl);(case hr => first|(go_simp;done)|(go_simp;rfl));intro w19 hw;have hg : wr.grownBy w19 (some go10) := (by rw [hw];exact HP18.2);have hp_ : Kd.R Kd.bool 4 w19 w.heap.size (fun _ => True) (.slice (some ⟨go10,0,none⟩) x3_1.length co10) y669 := (by rw [hw,Ny669.out];exact HP18.1);clear HP18;have n0_ := Aside0.mk (hp_);have n1_ := Aside0.mk ((by rw [hw];exact below_set (HB.out) GB10.out : Below w.heap.size w w19));clear HO_3;clear HB;have HO_3 := n0_;have HB := n1_;clear n0_ n1_;clear hg hw hp_;have p670 : 0 ≤ (x4_1 : Int) := of_decide_eq_true (by first|(with_reducible assumption)|assumption);have q670 : x4_1 < (l0.length : Int) := of_decide_eq_true (by first|(with_reducible assumption)|assumption);obtain ⟨ad670,e670,hx670_0,hx670_1⟩ := at_T49 HR0.out x4_1 p670 q670;obtain rfl : ad667 = ad670 := (by injection e670);replace hx670_0 := (HB.out.cell (World.block_lt_of_cell? w _ hx670_0)).trans hx670_0;replace hx670_1 := (HB.out.cell (World.block_lt_of_cell? w _ hx670_1)).trans hx670_1;replace p670 := eq_true p670;replace q670 := eq_true q670))
          go_roundg k1
          case measure => have := HK1.out;omega
          case rel => exact ⟨(y669),(wrap64 (x4_1 + 1)),(by first|rfl|(simp;done)|(simp [*];done)),H',⟨by have := HK1.out;omega⟩,⟨by (with_reducible repeat (first|apply Kd.R_alloc|apply Kd.R_drewN|apply Kd.R_drew));exact HO_3.out⟩,⟨by repeat (first|(with_reducible first|exact HB.out|apply below_alloc|apply pw_below_drewN|apply below_drew1)|exact HB.out)⟩⟩
        ·rw [if_neg c9] at H
         exact absurd H (by simp)
       ·rw [if_neg c8] at H
        exact absurd H (by simp)
      ·rw [if_neg c7] at H
       have c7b0 : (((rd_T49 l0 x4_1).f0) == 15) = false := beq_eq_false_iff_ne.mpr c7
       have c7b1 : (((rd_T49 l0 x4_1).f0) != 15) = true := bne_iff_ne.mpr c7
       by_cases c20 : ((rd_T49 l0 x4_1).f0) = 16
       ·rw [if_pos c20] at H
        have c20b0 : (((rd_T49 l0 x4_1).f0) == 16) = true := beq_iff_eq.mpr c20
        have c20b1 : (((rd_T49 l0 x4_1).f0) != 16) = false := bne_eq_false_iff_eq.mpr c20
        clear c20
        by_cases c21 : 0 ≤ ((rd_T49 l0 x4_1).f1)
        ·rw [if_pos c21] at H
         have c21b0 : decide (0 ≤ ((rd_T49 l0 x4_1).f1)) = true := decide_eq_true c21
         clear c21
         by_cases c22 : ((rd_T49 l0 x4_1).f1) < (x3_1.length : Int)
         ·rw [if_pos c22] at H
          have c22b0 : decide (((rd_T49 l0 x4_1).f1) < (x3_1.length : Int)) = true := decide_eq_true c22
          clear c22
          obtain ⟨bq23,hbq23⟩ : ∃ b_ : Bool,b_ = (rdOf false x3_1 ((rd_T49 l0 x4_1).f1)) := ⟨_,rfl⟩
          replace H : (if (bq23 = true) then (spec_orderly.l0 k1 l0 x3_1 (wrap64 (x4_1 + 1))) else (some false)) = some r := by rw [← hbq23] at H;exact H
          have Nbq23 := Aside0.mk hbq23
          clear hbq23
          by_cases c24 : (bq23 = true)
          ·subst c24
           have H1 : (spec_orderly.l0 k1 l0 x3_1 (wrap64 (x4_1 + 1))) = some r := by rw [if_pos rfl] at H;exact H
           clear H
           have H := H1
           clear H1
           have H' := Aside0.mk H
           clear H
           have p667 : 0 ≤ (x4_1 : Int) := of_decide_eq_true (by first|(with_reducible assumption)|assumption)
           have q667 : x4_1 < (l0.length : Int) := of_decide_eq_true (by first|(with_reducible assumption)|assumption)
           obtain ⟨ad667,e667,hx667_0,hx667_1⟩ := at_T49 HR0.out x4_1 p667 q667
           cases e667
           replace hx667_0 := (HB.out.cell (World.block_lt_of_cell? w _ hx667_0)).trans hx667_0
           replace hx667_1 := (HB.out.cell (World.block_lt_of_cell? w _ hx667_1)).trans hx667_1
           replace p667 := eq_true p667
           replace q667 := eq_true q667
           have p673 : 0 ≤ (x4_1 : Int) := of_decide_eq_true (by first|(with_reducible assumption)|assumption)
           have q673 : x4_1 < (l0.length : Int) := of_decide_eq_true (by first|(with_reducible assumption)|assumption)
           obtain ⟨ad673,e673,hx673_0,hx673_1⟩ := at_T49 HR0.out x4_1 p673 q673
           obtain rfl : ad667 = ad673 := (by injection e673)
           replace hx673_0 := (HB.out.cell (World.block_lt_of_cell? w _ hx673_0)).trans hx673_0
           replace hx673_1 := (HB.out.cell (World.block_lt_of_cell? w _ hx673_1)).trans hx673_1
           replace p673 := eq_true p673
           replace q673 := eq_true q673
           have p674 : 0 ≤ (x4_1 : Int) := of_decide_eq_true (by first|(with_reducible assumption)|assumption)
           have q674 : x4_1 < (l0.length : Int) := of_decide_eq_true (by first|(with_reducible assumption)|assumption)
           obtain ⟨ad674,e674,hx674_0,hx674_1⟩ := at_T49 HR0.out x4_1 p674 q674
           obtain rfl : ad667 = ad674 := (by injection e674)
           replace hx674_0 := (HB.out.cell (World.block_lt_of_cell? w _ hx674_0)).trans hx674_0
           replace hx674_1 := (HB.out.cell (World.block_lt_of_cell? w _ hx674_1)).trans hx674_1
           replace p674 := eq_true p674
           replace q674 := eq_true q674
           obtain ⟨Ao25,co25,eo25⟩ := Kd.R_slice HO_3.out
           subst eo25
           have p675 : 0 ≤ (((rd_T49 l0 x4_1).f1) : Int) := of_decide_eq_true (by first|(with_reducible assumption)|assumption)
           have q675 : ((rd_T49 l0 x4_1).f1) < (x3_1.length : Int) := of_decide_eq_true (by first|(with_reducible assumption)|assumption)
           obtain ⟨ad675,e675,hx675_0⟩ := Kd.at_bool (Kd.R_reads' HO_3.out).2.2 ((rd_T49 l0 x4_1).f1) p675 q675
           (try rw [← Nbq23.out] at hx675_0)
           cases e675
           replace p675 := eq_true p675
           replace q675 := eq_true q675
           go_wp2
           go_roundg k1
           case measure => have := HK1.out;omega
           case rel => exact ⟨(x3_1),(wrap64 (x4_1 + 1)),(by first|rfl|(simp;done)|(simp [*];done)),H',⟨by have := HK1.out;omega⟩,⟨by (with_reducible repeat (first|apply Kd.R_alloc|apply Kd.R_drewN|apply Kd.R_drew));exact HO_3.out⟩,⟨by repeat (first|(with_reducible first|exact HB.out|apply below_alloc|apply pw_below_drewN|apply below_drew1)|exact HB.out)⟩⟩
          ·replace c24 := Bool.eq_false_iff.mpr c24
           subst c24
           have H1 : (some false) = some r := by rw [if_neg (show ¬ (false = true) by decide)] at H;exact H
           clear H
           have H := H1
           clear H1
           obtain rfl := Option.some.inj H
           have p667 : 0 ≤ (x4_1 : Int) := of_decide_eq_true (by first|(with_reducible assumption)|assumption)
           have q667 : x4_1 < (l0.length : Int) := of_decide_eq_true (by first|(with_reducible assumption)|assumption)
           obtain ⟨ad667,e667,hx667_0,hx667_1⟩ := at_T49 HR0.out x4_1 p667 q667
           cases e667
           replace hx667_0 := (HB.out.cell (World.block_lt_of_cell? w _ hx667_0)).trans hx667_0
           replace hx667_1 := (HB.out.cell (World.block_lt_of_cell? w _ hx667_1)).trans hx667_1
           replace p667 := eq_true p667
           replace q667 := eq_true q667
           have p673 : 0 ≤ (x4_1 : Int) := of_decide_eq_true (by first|(with_reducible assumption)|assumption)
           have q673 : x4_1 < (l0.length : Int) := of_decide_eq_true (by first|(with_reducible assumption)|assumption)
           obtain ⟨ad673,e673,hx673_0,hx673_1⟩ := at_T49 HR0.out x4_1 p673 q673
           obtain rfl : ad667 = ad673 := (by injection e673)
           replace hx673_0 := (HB.out.cell (World.block_lt_of_cell? w _ hx673_0)).trans hx673_0
           replace hx673_1 := (HB.out.cell (World.block_lt_of_cell? w _ hx673_1)).trans hx673_1
           replace p673 := eq_true p673
           replace q673 := eq_true q673
           have p674 : 0 ≤ (x4_1 : Int) := of_decide_eq_true (by first|(with_reducible assumption)|assumption)
           have q674 : x4_1 < (l0.length : Int) := of_decide_eq_true (by first|(with_reducible assumption)|assumption)
           obtain ⟨ad674,e674,hx674_0,hx674_1⟩ := at_T49 HR0.out x4_1 p674 q674
           obtain rfl : ad667 = ad674 := (by injection e674)
           replace hx674_0 := (HB.out.cell (World.block_lt_of_cell? w _ hx674_0)).trans hx674_0
           replace hx674_1 := (HB.out.cell (World.block_lt_of_cell? w _ hx674_1)).trans hx674_1
           replace p674 := eq_true p674
           replace q674 := eq_true q674
           obtain ⟨Ao26,co26,eo26⟩ := Kd.R_slice HO_3.out
           subst eo26
           have p675 : 0 ≤ (((rd_T49 l0 x4_1).f1) : Int) := of_decide_eq_true (by first|(with_reducible assumption)|assumption)
           have q675 : ((rd_T49 l0 x4_1).f1) < (x3_1.length : Int) := of_decide_eq_true (by first|(with_reducible assumption)|assumption)
           obtain ⟨ad675,e675,hx675_0⟩ := Kd.at_bool (Kd.R_reads' HO_3.out).2.2 ((rd_T49 l0 x4_1).f1) p675 q675
           (try rw [← Nbq23.out] at hx675_0)
           cases e675
           replace p675 := eq_true p675
           replace q675 := eq_true q675
           go_wp2
           go_ret
           exact ⟨by first|rfl|(simp [errW_none,errW_some] <;> rfl)|(simp [*,errW_none,errW_some] <;> rfl),by repeat (first|(with_reducible first|exact HB.out|apply below_alloc|apply pw_below_drewN|apply below_drew1)|exact HB.out)⟩
         ·rw [if_neg c22] at H
          exact absurd H (by simp)
        ·rw [if_neg c21] at H
         exact absurd H (by simp)
       ·rw [if_neg c20] at H
        have c20b0 : (((rd_T49 l0 x4_1).f0) == 16) = false := beq_eq_false_iff_ne.mpr c20
        have c20b1 : (((rd_T49 l0 x4_1).f0) != 16) = true := bne_iff_ne.mpr c20
        have H' := Aside0.mk H
        clear H
        have p667 : 0 ≤ (x4_1 : Int) := of_decide_eq_true (by first|(with_reducible assumption)|assumption)
        have q667 : x4_1 < (l0.length : Int) := of_decide_eq_true (by first|(with_reducible assumption)|assumption)
        obtain ⟨ad667,e667,hx667_0,hx667_1⟩ := at_T49 HR0.out x4_1 p667 q667
        cases e667
        replace hx667_0 := (HB.out.cell (World.block_lt_of_cell? w _ hx667_0)).trans hx667_0
        replace hx667_1 := (HB.out.cell (World.block_lt_of_cell? w _ hx667_1)).trans hx667_1
        replace p667 := eq_true p667
        replace q667 := eq_true q667
        have p673 : 0 ≤ (x4_1 : Int) := of_decide_eq_true (by first|(with_reducible assumption)|assumption)
        have q673 : x4_1 < (l0.length : Int) := of_decide_eq_true (by first|(with_reducible assumption)|assumption)
        obtain ⟨ad673,e673,hx673_0,hx673_1⟩ := at_T49 HR0.out x4_1 p673 q673
        obtain rfl : ad667 = ad673 := (by injection e673)
        replace hx673_0 := (HB.out.cell (World.block_lt_of_cell? w _ hx673_0)).trans hx673_0
        replace hx673_1 := (HB.out.cell (World.block_lt_of_cell? w _ hx673_1)).trans hx673_1
        replace p673 := eq_true p673
        replace q673 := eq_true q673
        go_wp2
        go_roundg k1
        case measure => have := HK1.out;omega
        case rel => exact ⟨(x3_1),(wrap64 (x4_1 + 1)),(by first|rfl|(simp;done)|(simp [*];done)),H',⟨by have := HK1.out;omega⟩,⟨by (with_reducible repeat (first|apply Kd.R_alloc|apply Kd.R_drewN|apply Kd.R_drew));exact HO_3.out⟩,⟨by repeat (first|(with_reducible first|exact HB.out|apply below_alloc|apply pw_below_drewN|apply below_drew1)|exact HB.out)⟩⟩
     ·rw [if_neg c6] at H
      exact absurd H (by simp)
    ·rw [if_neg c5] at H
     have c5b0 : decide (x4_1 < (l0.length : Int)) = false := decide_eq_false c5
     clear c5
     obtain rfl := Option.some.inj H
     go_wp2
     go_ret
     exact ⟨by first|rfl|(simp [errW_none,errW_some] <;> rfl)|(simp [*,errW_none,errW_some] <;> rfl),by repeat (first|(with_reducible first|exact HB.out|apply below_alloc|apply pw_below_drewN|apply below_drew1)|exact HB.out)⟩
 ·rw [if_neg c2] at H
  exact absurd H (by simp)

end Go.Proofs.Ytonppkaobnfldaa.Q
