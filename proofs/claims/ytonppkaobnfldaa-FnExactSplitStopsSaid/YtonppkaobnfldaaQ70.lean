-- Written by wip/tools/qprint.py (a program of this claim's author) by means of the kit's printer.
import Derived.Test.YtonppkaobnfldaaQ0
namespace Go.Proofs.Ytonppkaobnfldaa.Q
open Go.RowKit Go.Proofs.YtonppkaobnfldaaW.PrintWords Go.Proofs.YtonppkaobnfldaaW.PrintLast Go.Proofs.YtonppkaobnfldaaW.PrintMore
attribute [local go_sem] max2_int min2_int max_two min_two max_three min_three max_four min_four   -- for this text's walks alone
set_option linter.unusedVariables false
set_option linter.unusedSimpArgs false

/-! ### spec_orderly: function 70 -/
def spec_orderly.l0 : Nat → List (S49) → List Bool → Int → Option (Bool)
 | 0,_,_,_ => none
 | k + 1,x0,x3,x4 => if x4 < (x0.length : Int) then (if 0 ≤ x4 then (if ((rd_T49 x0 x4).f0) = 15 then (if 0 ≤ ((rd_T49 x0 x4).f1) then (if ((rd_T49 x0 x4).f1) < (x3.length : Int) then ((some (x3.set (((rd_T49 x0 x4).f1) : Int).toNat true : List Bool)).bind fun y698 => (if ((rd_T49 x0 x4).f0) = 16 then (if (rdOf false y698 ((rd_T49 x0 x4).f1) = true) then (spec_orderly.l0 k x0 y698 (wrap64 (x4 + 1))) else (some false)) else (spec_orderly.l0 k x0 y698 (wrap64 (x4 + 1))))) else (none)) else (none)) else (if ((rd_T49 x0 x4).f0) = 16 then (if 0 ≤ ((rd_T49 x0 x4).f1) then (if ((rd_T49 x0 x4).f1) < (x3.length : Int) then (if (rdOf false x3 ((rd_T49 x0 x4).f1) = true) then (spec_orderly.l0 k x0 x3 (wrap64 (x4 + 1))) else (some false)) else (none)) else (none)) else (spec_orderly.l0 k x0 x3 (wrap64 (x4 + 1))))) else (none)) else (some true)
def spec_orderly.f (k : Nat) (l0 : List (S49)) : Option (Bool) := if 20 ≤ 281474976710656 then (spec_orderly.l0 k l0 (List.replicate 20 false) 0) else (none)
set_option maxRecDepth 100000 in
theorem spec_orderly.mono_l : ∀ k,(∀ y0 y1 y2,LeO (spec_orderly.l0 k y0 y1 y2) (spec_orderly.l0 (k + 1) y0 y1 y2))
 | 0 => fun _ _ _ r h => (by cases h)
 | k + 1 => by
  have ih0 := spec_orderly.mono_l k
  ·intro y0 y1 y2
   unfold spec_orderly.l0
   repeat' first
   | (with_reducible exact ih0 _ _ _)
   | (with_reducible exact LeO.refl _)
   | (with_reducible exact LeO.none _)
   | (with_reducible refine LeO.ite ?_ ?_)
   | (with_reducible refine LeO.bind ?_ (fun _ => ?_))
   | exact ih0 _ _ _
   | exact LeO.none _
   | refine LeO.ite ?_ ?_
   | refine LeO.bind ?_ (fun _ => ?_)
set_option maxRecDepth 100000 in
theorem spec_orderly.mono : ∀ a0 k,LeO (spec_orderly.f k a0) (spec_orderly.f (k + 1) a0) := by
 intro a0 k
 have ih0 := spec_orderly.mono_l k
 unfold spec_orderly.f
 repeat' first
   | (with_reducible exact ih0 _ _ _)
   | (with_reducible exact LeO.refl _)
   | (with_reducible exact LeO.none _)
   | (with_reducible refine LeO.ite ?_ ?_)
   | (with_reducible refine LeO.bind ?_ (fun _ => ?_))
   | exact ih0 _ _ _
   | exact LeO.none _
   | refine LeO.ite ?_ ?_
   | refine LeO.bind ?_ (fun _ => ?_)
set_option maxHeartbeats 8000000 in
set_option maxRecDepth 100000 in
theorem spec_orderly.calls (k : Nat) (A0 : Option Addr) (c0 : Nat) (l0 : List (S49)) (r : Bool) (w : World) (hr0 : Kd.C k49 w A0 l0.length l0) (hc0 : l0.length ≤ c0) (h : spec_orderly.f k l0 = some r) :
  Calls Try.prog 70 #[.slice A0 l0.length c0] w fun e w' => e = .returned (.bool r) ∧ Below w.heap.size w w' := by
 have HR0 := As_ hr0
 have HC0 := As_ hc0
 clear hr0 hc0
 have HB := As_ (Below.refl w.heap.size w)
 have H : (if 20 ≤ 281474976710656 then (spec_orderly.l0 k l0 (List.replicate 20 false) 0) else (none)) = some r := h
 clear h
 by_cases c2 : 20 ≤ 281474976710656
 rotate_left
 ·rw [if_neg c2] at H
  exact absurd H (by simp)
 rw [if_pos c2] at H
 have c2b0 := eq_true c2
 have c2b1 : decide (20 ≤ 281474976710656) = true := deT c2
 clear c2
 obtain ⟨y693,hy693⟩ : ∃ y_ : List Bool,y_ = (List.replicate 20 false) := ⟨_,rfl⟩
 replace H : (spec_orderly.l0 k l0 y693 0) = some r := zH_ H hy693
 have Ny693 := As_ hy693
 clear hy693
 have H' := As_ H
 clear H
 go_enter Try.func70,Try.ntmps70
 go_wp2_with (first|((with_reducible refine gate_dst (N := 5) rfl ?_);refine Kd.R_make Kd.bool _ 4 rfl (N := 5) rfl 72 _ _ rfl 20 rfl rfl Try.underlying72 (.bool false) 1 info4 rfl (by decide) (by omega) false (ok := fun _ => True) (okp := fun _ => True) rfl (fun _ hk => hk) trivial (by omega) (by omega) (Below.refl _ _) (Nat.le_refl _) ?_;intro v694 w3 ho4 hb hg_ hnew_;clear hg_ hnew_;(first|rw [← Ny693.out] at ho4|(simp only [Int.reduceToNat] at ho4;rw [← Ny693.out] at ho4));have n0_ := As_ (Kd.R_lower ho4 (bwZ (zb0 HB.out)));have n1_ := As_ (bwT (zb0 HB.out) hb);clear HB;revert n0_ n1_;intro HO695 HB;clear hb ho4))
 go_loopg [4] k (fun kq v4 w' => ∃ (x3_1 : List Bool) (x4_1 : Int),v4 = .int .i64 x4_1 ∧ Aside0 (spec_orderly.l0 kq l0 x3_1 x4_1 = some r) ∧ Aside0 (kq ≤ k) ∧ Aside0 (Kd.R Kd.bool 4 w' w.heap.size (fun _ => True) v694 x3_1) ∧ Aside0 (Below w.heap.size w w'))
 case atStart => exact ⟨(y693),(0),zT_,H',⟨Nat.le_refl _⟩,⟨by (with_reducible repeat (first|apply Kd.R_alloc|apply Kd.R_drewN|apply Kd.R_drew));exact HO695.out⟩,⟨zb0 HB.out⟩⟩
 case round =>
  clear H'
  obtain ⟨x3_1,x4_1,rfl,HA,HK1,HO_3,HB⟩ := hrel
  cases gk with
  | zero => exact absurd HA.out (fun h_ => (by cases h_))
  | succ k1 =>
   have H := HA.out
   clear HA
   simp only [spec_orderly.l0] at H
   by_cases c5 : x4_1 < (l0.length : Int)
   rotate_left
   ·rw [if_neg c5] at H
    have c5b0 : decide (x4_1 < (l0.length : Int)) = false := deF c5
    clear c5
    obtain rfl := Option.some.inj H
    go_wp2
    go_ret
    exact ⟨zE_,zb0 HB.out⟩

   rw [if_pos c5] at H
   have c5b0 : decide (x4_1 < (l0.length : Int)) = true := deT c5
   clear c5
   by_cases c6 : 0 ≤ x4_1
   rotate_left
   ·rw [if_neg c6] at H
    exact absurd H (by simp)
   rw [if_pos c6] at H
   have c6b0 : decide (0 ≤ x4_1) = true := deT c6
   clear c6
   by_cases c7 : ((rd_T49 l0 x4_1).f0) = 15
   rotate_left
   ·rw [if_neg c7] at H
    have c7b0 : (((rd_T49 l0 x4_1).f0) == 15) = false := beq_eq_false_iff_ne.mpr c7
    have c7b1 : (((rd_T49 l0 x4_1).f0) != 15) = true := bne_iff_ne.mpr c7
    by_cases c20 : ((rd_T49 l0 x4_1).f0) = 16
    rotate_left
    ·rw [if_neg c20] at H
     have c20b0 : (((rd_T49 l0 x4_1).f0) == 16) = false := beq_eq_false_iff_ne.mpr c20
     have c20b1 : (((rd_T49 l0 x4_1).f0) != 16) = true := bne_iff_ne.mpr c20
     have H' := As_ H
     clear H
     have p696 : 0 ≤ (x4_1 : Int) := odT zA_
     have q696 : x4_1 < (l0.length : Int) := odT zA_
     obtain ⟨ad696,e696,hx696_0,hx696_1⟩ := at_T49 HR0.out x4_1 p696 q696
     cases e696
     replace hx696_0 := bwC HB.out hx696_0
     replace hx696_1 := bwC HB.out hx696_1
     replace p696 := eq_true p696
     replace q696 := eq_true q696
     have p702 : 0 ≤ (x4_1 : Int) := odT zA_
     have q702 : x4_1 < (l0.length : Int) := odT zA_
     obtain ⟨ad702,e702,hx702_0,hx702_1⟩ := at_T49 HR0.out x4_1 p702 q702
     obtain rfl : ad696 = ad702 := (by injection e702)
     replace hx702_0 := bwC HB.out hx702_0
     replace hx702_1 := bwC HB.out hx702_1
     replace p702 := eq_true p702
     replace q702 := eq_true q702
     go_wp2
     go_roundg k1
     case measure => have := HK1.out;omega
     case rel => exact ⟨(x3_1),(wrap64 (x4_1 + 1)),zT_,H',⟨by have := HK1.out;omega⟩,⟨by (with_reducible repeat (first|apply Kd.R_alloc|apply Kd.R_drewN|apply Kd.R_drew));exact HO_3.out⟩,⟨zb0 HB.out⟩⟩
    rw [if_pos c20] at H
    have c20b0 : (((rd_T49 l0 x4_1).f0) == 16) = true := beq_iff_eq.mpr c20
    have c20b1 : (((rd_T49 l0 x4_1).f0) != 16) = false := bne_eq_false_iff_eq.mpr c20
    clear c20
    by_cases c21 : 0 ≤ ((rd_T49 l0 x4_1).f1)
    rotate_left
    ·rw [if_neg c21] at H
     exact absurd H (by simp)
    rw [if_pos c21] at H
    have c21b0 : decide (0 ≤ ((rd_T49 l0 x4_1).f1)) = true := deT c21
    clear c21
    by_cases c22 : ((rd_T49 l0 x4_1).f1) < (x3_1.length : Int)
    rotate_left
    ·rw [if_neg c22] at H
     exact absurd H (by simp)
    rw [if_pos c22] at H
    have c22b0 : decide (((rd_T49 l0 x4_1).f1) < (x3_1.length : Int)) = true := deT c22
    clear c22
    obtain ⟨bq23,hbq23⟩ : ∃ b_ : Bool,b_ = (rdOf false x3_1 ((rd_T49 l0 x4_1).f1)) := ⟨_,rfl⟩
    replace H : (if (bq23 = true) then (spec_orderly.l0 k1 l0 x3_1 (wrap64 (x4_1 + 1))) else (some false)) = some r := by rw [← hbq23] at H;exact H
    have Nbq23 := As_ hbq23
    clear hbq23
    by_cases c24 : (bq23 = true)
    rotate_left
    ·replace c24 := Bool.eq_false_iff.mpr c24
     subst c24
     have H1 : (some false) = some r := by rw [if_neg (show ¬ (false = true) by decide)] at H;exact H
     clear H
     have H := H1
     clear H1
     obtain rfl := Option.some.inj H
     have p696 : 0 ≤ (x4_1 : Int) := odT zA_
     have q696 : x4_1 < (l0.length : Int) := odT zA_
     obtain ⟨ad696,e696,hx696_0,hx696_1⟩ := at_T49 HR0.out x4_1 p696 q696
     cases e696
     replace hx696_0 := bwC HB.out hx696_0
     replace hx696_1 := bwC HB.out hx696_1
     replace p696 := eq_true p696
     replace q696 := eq_true q696
     have p702 : 0 ≤ (x4_1 : Int) := odT zA_
     have q702 : x4_1 < (l0.length : Int) := odT zA_
     obtain ⟨ad702,e702,hx702_0,hx702_1⟩ := at_T49 HR0.out x4_1 p702 q702
     obtain rfl : ad696 = ad702 := (by injection e702)
     replace hx702_0 := bwC HB.out hx702_0
     replace hx702_1 := bwC HB.out hx702_1
     replace p702 := eq_true p702
     replace q702 := eq_true q702
     have p703 : 0 ≤ (x4_1 : Int) := odT zA_
     have q703 : x4_1 < (l0.length : Int) := odT zA_
     obtain ⟨ad703,e703,hx703_0,hx703_1⟩ := at_T49 HR0.out x4_1 p703 q703
     obtain rfl : ad696 = ad703 := (by injection e703)
     replace hx703_0 := bwC HB.out hx703_0
     replace hx703_1 := bwC HB.out hx703_1
     replace p703 := eq_true p703
     replace q703 := eq_true q703
     obtain ⟨Ao26,co26,eo26⟩ := Kd.R_slice HO_3.out
     subst eo26
     have p704 : 0 ≤ (((rd_T49 l0 x4_1).f1) : Int) := odT zA_
     have q704 : ((rd_T49 l0 x4_1).f1) < (x3_1.length : Int) := odT zA_
     obtain ⟨ad704,e704,hx704_0⟩ := Kd.at_bool (Kd.R_reads' HO_3.out).2.2 ((rd_T49 l0 x4_1).f1) p704 q704
     (try rw [← Nbq23.out] at hx704_0)
     cases e704
     replace p704 := eq_true p704
     replace q704 := eq_true q704
     go_wp2
     go_ret
     exact ⟨zE_,zb0 HB.out⟩
    subst c24
    have H1 : (spec_orderly.l0 k1 l0 x3_1 (wrap64 (x4_1 + 1))) = some r := by rw [if_pos rfl] at H;exact H
    clear H
    have H := H1
    clear H1
    have H' := As_ H
    clear H
    have p696 : 0 ≤ (x4_1 : Int) := odT zA_
    have q696 : x4_1 < (l0.length : Int) := odT zA_
    obtain ⟨ad696,e696,hx696_0,hx696_1⟩ := at_T49 HR0.out x4_1 p696 q696
    cases e696
    replace hx696_0 := bwC HB.out hx696_0
    replace hx696_1 := bwC HB.out hx696_1
    replace p696 := eq_true p696
    replace q696 := eq_true q696
    have p702 : 0 ≤ (x4_1 : Int) := odT zA_
    have q702 : x4_1 < (l0.length : Int) := odT zA_
    obtain ⟨ad702,e702,hx702_0,hx702_1⟩ := at_T49 HR0.out x4_1 p702 q702
    obtain rfl : ad696 = ad702 := (by injection e702)
    replace hx702_0 := bwC HB.out hx702_0
    replace hx702_1 := bwC HB.out hx702_1
    replace p702 := eq_true p702
    replace q702 := eq_true q702
    have p703 : 0 ≤ (x4_1 : Int) := odT zA_
    have q703 : x4_1 < (l0.length : Int) := odT zA_
    obtain ⟨ad703,e703,hx703_0,hx703_1⟩ := at_T49 HR0.out x4_1 p703 q703
    obtain rfl : ad696 = ad703 := (by injection e703)
    replace hx703_0 := bwC HB.out hx703_0
    replace hx703_1 := bwC HB.out hx703_1
    replace p703 := eq_true p703
    replace q703 := eq_true q703
    obtain ⟨Ao25,co25,eo25⟩ := Kd.R_slice HO_3.out
    subst eo25
    have p704 : 0 ≤ (((rd_T49 l0 x4_1).f1) : Int) := odT zA_
    have q704 : ((rd_T49 l0 x4_1).f1) < (x3_1.length : Int) := odT zA_
    obtain ⟨ad704,e704,hx704_0⟩ := Kd.at_bool (Kd.R_reads' HO_3.out).2.2 ((rd_T49 l0 x4_1).f1) p704 q704
    (try rw [← Nbq23.out] at hx704_0)
    cases e704
    replace p704 := eq_true p704
    replace q704 := eq_true q704
    go_wp2
    go_roundg k1
    case measure => have := HK1.out;omega
    case rel => exact ⟨(x3_1),(wrap64 (x4_1 + 1)),zT_,H',⟨by have := HK1.out;omega⟩,⟨by (with_reducible repeat (first|apply Kd.R_alloc|apply Kd.R_drewN|apply Kd.R_drew));exact HO_3.out⟩,⟨zb0 HB.out⟩⟩
   rw [if_pos c7] at H
   have c7b0 : (((rd_T49 l0 x4_1).f0) == 15) = true := beq_iff_eq.mpr c7
   have c7b1 : (((rd_T49 l0 x4_1).f0) != 15) = false := bne_eq_false_iff_eq.mpr c7
   clear c7
   by_cases c8 : 0 ≤ ((rd_T49 l0 x4_1).f1)
   rotate_left
   ·rw [if_neg c8] at H
    exact absurd H (by simp)
   rw [if_pos c8] at H
   have c8b0 : decide (0 ≤ ((rd_T49 l0 x4_1).f1)) = true := deT c8
   clear c8
   by_cases c9 : ((rd_T49 l0 x4_1).f1) < (x3_1.length : Int)
   rotate_left
   ·rw [if_neg c9] at H
    exact absurd H (by simp)
   rw [if_pos c9] at H
   have c9b0 : decide (((rd_T49 l0 x4_1).f1) < (x3_1.length : Int)) = true := deT c9
   clear c9
   obtain ⟨y698,hy698⟩ : ∃ y_ : List Bool,y_ = (x3_1.set (((rd_T49 l0 x4_1).f1) : Int).toNat true) := ⟨_,rfl⟩
   replace H : (if ((rd_T49 l0 x4_1).f0) = 16 then (if (rdOf false y698 ((rd_T49 l0 x4_1).f1) = true) then (spec_orderly.l0 k1 l0 y698 (wrap64 (x4_1 + 1))) else (some false)) else (spec_orderly.l0 k1 l0 y698 (wrap64 (x4_1 + 1)))) = some r := zH_ H hy698
   have Ny698 := As_ hy698
   clear hy698
   by_cases c11 : ((rd_T49 l0 x4_1).f0) = 16
   rotate_left
   ·rw [if_neg c11] at H
    have c11b0 : (((rd_T49 l0 x4_1).f0) == 16) = false := beq_eq_false_iff_ne.mpr c11
    have c11b1 : (((rd_T49 l0 x4_1).f0) != 16) = true := bne_iff_ne.mpr c11
    have H' := As_ H
    clear H
    have p696 : 0 ≤ (x4_1 : Int) := odT zA_
    have q696 : x4_1 < (l0.length : Int) := odT zA_
    obtain ⟨ad696,e696,hx696_0,hx696_1⟩ := at_T49 HR0.out x4_1 p696 q696
    cases e696
    replace hx696_0 := bwC HB.out hx696_0
    replace hx696_1 := bwC HB.out hx696_1
    replace p696 := eq_true p696
    replace q696 := eq_true q696
    have p697 : 0 ≤ (x4_1 : Int) := odT zA_
    have q697 : x4_1 < (l0.length : Int) := odT zA_
    obtain ⟨ad697,e697,hx697_0,hx697_1⟩ := at_T49 HR0.out x4_1 p697 q697
    obtain rfl : ad696 = ad697 := (by injection e697)
    replace hx697_0 := bwC HB.out hx697_0
    replace hx697_1 := bwC HB.out hx697_1
    replace p697 := eq_true p697
    replace q697 := eq_true q697
    have p10 : 0 ≤ (((rd_T49 l0 x4_1).f1) : Int) := odT zA_
    have q10 : (((rd_T49 l0 x4_1).f1) : Int) < ((x3_1.length : Int) : Int) := odT zA_
    obtain ⟨go10,co10,eo10,gb10,gl10,cl10,HG10⟩ := Kd.R_form HO_3.out (by omega)
    (first|cases eo10|(injection eo10 with ea_ en_ ec_;(first|subst ea_|(injection ea_ with ea_;subst ea_));subst ec_;clear en_))
    have GB10 := As_ gb10
    have GG10 := As_ HG10
    clear gb10 gl10 HG10
    obtain ⟨hx10_0,hf10_0⟩ := Kd.R_celln false HO_3.out (((rd_T49 l0 x4_1).f1) : Int) p10 q10
    replace p10 := eq_true p10
    replace q10 := eq_true q10
    have HP18 := Kd.R_putg HO_3.out (((rd_T49 l0 x4_1).f1) : Int) true
    go_wp2_with (first|((with_reducible refine gate_store (t := 4) (p := 24) rfl ?_);refine store_event (t := 4) (p := 24) (v := ?vo_w19) (w1 := (wr.setCell ⟨go10,(((rd_T49 l0 x4_1).f1) : Int).toNat,none⟩ (.bool true))) ?hg ?ho ?hn ?hr ?_;(case ho => rfl);(case hg => rfl);(case hn => rfl);(case hr => go_simp <;> rfl);intro w19 hw;have hg : wr.grownBy w19 (some go10) := (by rw [hw];exact HP18.2);have hp_ : Kd.R Kd.bool 4 w19 w.heap.size (fun _ => True) (.slice (some ⟨go10,0,none⟩) x3_1.length co10) y698 := (by rw [hw,Ny698.out];exact HP18.1);clear HP18;have n0_ := As_ (hp_);have n1_ := As_ ((by rw [hw];exact bwS (HB.out) GB10.out : Below w.heap.size w w19));clear HO_3 HB;revert n0_ n1_;intro HO_3 HB;clear hg hw hp_;have p699 : 0 ≤ (x4_1 : Int) := odT zA_;have q699 : x4_1 < (l0.length : Int) := odT zA_;obtain ⟨ad699,e699,hx699_0,hx699_1⟩ := at_T49 HR0.out x4_1 p699 q699;obtain rfl : ad696 = ad699 := (by injection e699);replace hx699_0 := bwC HB.out hx699_0;replace hx699_1 := bwC HB.out hx699_1;replace p699 := eq_true p699;replace q699 := eq_true q699))
    go_roundg k1
    case measure => have := HK1.out;omega
    case rel => exact ⟨(y698),(wrap64 (x4_1 + 1)),zT_,H',⟨by have := HK1.out;omega⟩,⟨by (with_reducible repeat (first|apply Kd.R_alloc|apply Kd.R_drewN|apply Kd.R_drew));exact HO_3.out⟩,⟨zb0 HB.out⟩⟩
   rw [if_pos c11] at H
   have c11b0 : (((rd_T49 l0 x4_1).f0) == 16) = true := beq_iff_eq.mpr c11
   have c11b1 : (((rd_T49 l0 x4_1).f0) != 16) = false := bne_eq_false_iff_eq.mpr c11
   clear c11
   obtain ⟨bq12,hbq12⟩ : ∃ b_ : Bool,b_ = (rdOf false y698 ((rd_T49 l0 x4_1).f1)) := ⟨_,rfl⟩
   replace H : (if (bq12 = true) then (spec_orderly.l0 k1 l0 y698 (wrap64 (x4_1 + 1))) else (some false)) = some r := by rw [← hbq12] at H;exact H
   have Nbq12 := As_ hbq12
   clear hbq12
   by_cases c13 : (bq12 = true)
   rotate_left
   ·replace c13 := Bool.eq_false_iff.mpr c13
    subst c13
    have H1 : (some false) = some r := by rw [if_neg (show ¬ (false = true) by decide)] at H;exact H
    clear H
    have H := H1
    clear H1
    obtain rfl := Option.some.inj H
    have p696 : 0 ≤ (x4_1 : Int) := odT zA_
    have q696 : x4_1 < (l0.length : Int) := odT zA_
    obtain ⟨ad696,e696,hx696_0,hx696_1⟩ := at_T49 HR0.out x4_1 p696 q696
    cases e696
    replace hx696_0 := bwC HB.out hx696_0
    replace hx696_1 := bwC HB.out hx696_1
    replace p696 := eq_true p696
    replace q696 := eq_true q696
    have p697 : 0 ≤ (x4_1 : Int) := odT zA_
    have q697 : x4_1 < (l0.length : Int) := odT zA_
    obtain ⟨ad697,e697,hx697_0,hx697_1⟩ := at_T49 HR0.out x4_1 p697 q697
    obtain rfl : ad696 = ad697 := (by injection e697)
    replace hx697_0 := bwC HB.out hx697_0
    replace hx697_1 := bwC HB.out hx697_1
    replace p697 := eq_true p697
    replace q697 := eq_true q697
    have p10 : 0 ≤ (((rd_T49 l0 x4_1).f1) : Int) := odT zA_
    have q10 : (((rd_T49 l0 x4_1).f1) : Int) < ((x3_1.length : Int) : Int) := odT zA_
    obtain ⟨go10,co10,eo10,gb10,gl10,cl10,HG10⟩ := Kd.R_form HO_3.out (by omega)
    (first|cases eo10|(injection eo10 with ea_ en_ ec_;(first|subst ea_|(injection ea_ with ea_;subst ea_));subst ec_;clear en_))
    have GB10 := As_ gb10
    have GG10 := As_ HG10
    clear gb10 gl10 HG10
    obtain ⟨hx10_0,hf10_0⟩ := Kd.R_celln false HO_3.out (((rd_T49 l0 x4_1).f1) : Int) p10 q10
    replace p10 := eq_true p10
    replace q10 := eq_true q10
    have HP16 := Kd.R_putg HO_3.out (((rd_T49 l0 x4_1).f1) : Int) true
    go_wp2_with (first|((with_reducible refine gate_store (t := 4) (p := 24) rfl ?_);refine store_event (t := 4) (p := 24) (v := ?vo_w17) (w1 := (wr.setCell ⟨go10,(((rd_T49 l0 x4_1).f1) : Int).toNat,none⟩ (.bool true))) ?hg ?ho ?hn ?hr ?_;(case ho => rfl);(case hg => rfl);(case hn => rfl);(case hr => go_simp <;> rfl);intro w17 hw;have hg : wr.grownBy w17 (some go10) := (by rw [hw];exact HP16.2);have hp_ : Kd.R Kd.bool 4 w17 w.heap.size (fun _ => True) (.slice (some ⟨go10,0,none⟩) x3_1.length co10) y698 := (by rw [hw,Ny698.out];exact HP16.1);clear HP16;have n0_ := As_ (hp_);have n1_ := As_ ((by rw [hw];exact bwS (HB.out) GB10.out : Below w.heap.size w w17));clear HO_3 HB;revert n0_ n1_;intro HO_3 HB;clear hg hw hp_;have p699 : 0 ≤ (x4_1 : Int) := odT zA_;have q699 : x4_1 < (l0.length : Int) := odT zA_;obtain ⟨ad699,e699,hx699_0,hx699_1⟩ := at_T49 HR0.out x4_1 p699 q699;obtain rfl : ad696 = ad699 := (by injection e699);replace hx699_0 := bwC HB.out hx699_0;replace hx699_1 := bwC HB.out hx699_1;replace p699 := eq_true p699;replace q699 := eq_true q699;have p700 : 0 ≤ (x4_1 : Int) := odT zA_;have q700 : x4_1 < (l0.length : Int) := odT zA_;obtain ⟨ad700,e700,hx700_0,hx700_1⟩ := at_T49 HR0.out x4_1 p700 q700;obtain rfl : ad696 = ad700 := (by injection e700);replace hx700_0 := bwC HB.out hx700_0;replace hx700_1 := bwC HB.out hx700_1;replace p700 := eq_true p700;replace q700 := eq_true q700;have p701 : 0 ≤ (((rd_T49 l0 x4_1).f1) : Int) := odT zA_;have q701 : ((rd_T49 l0 x4_1).f1) < (y698.length : Int) := (by have h_ : (((rd_T49 l0 x4_1).f1) : Int) < ((x3_1.length : Int) : Int) := odT zA_;first|(have e_ := (Kd.R_reads' HO_3.out).1;omega)|simpa only [Ny698.out,List.length_set] using h_);have ql701 : ((((rd_T49 l0 x4_1).f1) : Int) < ((x3_1.length : Int) : Int)) = True := eq_true (odT zA_);obtain ⟨ad701,e701,hx701_0⟩ := Kd.at_bool (Kd.R_reads' HO_3.out).2.2 ((rd_T49 l0 x4_1).f1) p701 q701;(try rw [← Nbq12.out] at hx701_0);obtain rfl : (⟨go10,0,none⟩ : Addr) = ad701 := (by injection e701);(first|simp only [add_plain] at hx701_0|simp only [add_at] at hx701_0|simp only [Addr.add,Nat.zero_add] at hx701_0|skip);replace p701 := eq_true p701;replace q701 := eq_true q701))
    go_ret
    exact ⟨zE_,zb0 HB.out⟩
   subst c13
   have H1 : (spec_orderly.l0 k1 l0 y698 (wrap64 (x4_1 + 1))) = some r := by rw [if_pos rfl] at H;exact H
   clear H
   have H := H1
   clear H1
   have H' := As_ H
   clear H
   have p696 : 0 ≤ (x4_1 : Int) := odT zA_
   have q696 : x4_1 < (l0.length : Int) := odT zA_
   obtain ⟨ad696,e696,hx696_0,hx696_1⟩ := at_T49 HR0.out x4_1 p696 q696
   cases e696
   replace hx696_0 := bwC HB.out hx696_0
   replace hx696_1 := bwC HB.out hx696_1
   replace p696 := eq_true p696
   replace q696 := eq_true q696
   have p697 : 0 ≤ (x4_1 : Int) := odT zA_
   have q697 : x4_1 < (l0.length : Int) := odT zA_
   obtain ⟨ad697,e697,hx697_0,hx697_1⟩ := at_T49 HR0.out x4_1 p697 q697
   obtain rfl : ad696 = ad697 := (by injection e697)
   replace hx697_0 := bwC HB.out hx697_0
   replace hx697_1 := bwC HB.out hx697_1
   replace p697 := eq_true p697
   replace q697 := eq_true q697
   have p10 : 0 ≤ (((rd_T49 l0 x4_1).f1) : Int) := odT zA_
   have q10 : (((rd_T49 l0 x4_1).f1) : Int) < ((x3_1.length : Int) : Int) := odT zA_
   obtain ⟨go10,co10,eo10,gb10,gl10,cl10,HG10⟩ := Kd.R_form HO_3.out (by omega)
   (first|cases eo10|(injection eo10 with ea_ en_ ec_;(first|subst ea_|(injection ea_ with ea_;subst ea_));subst ec_;clear en_))
   have GB10 := As_ gb10
   have GG10 := As_ HG10
   clear gb10 gl10 HG10
   obtain ⟨hx10_0,hf10_0⟩ := Kd.R_celln false HO_3.out (((rd_T49 l0 x4_1).f1) : Int) p10 q10
   replace p10 := eq_true p10
   replace q10 := eq_true q10
   have HP14 := Kd.R_putg HO_3.out (((rd_T49 l0 x4_1).f1) : Int) true
   go_wp2_with (first|((with_reducible refine gate_store (t := 4) (p := 24) rfl ?_);refine store_event (t := 4) (p := 24) (v := ?vo_w15) (w1 := (wr.setCell ⟨go10,(((rd_T49 l0 x4_1).f1) : Int).toNat,none⟩ (.bool true))) ?hg ?ho ?hn ?hr ?_;(case ho => rfl);(case hg => rfl);(case hn => rfl);(case hr => go_simp <;> rfl);intro w15 hw;have hg : wr.grownBy w15 (some go10) := (by rw [hw];exact HP14.2);have hp_ : Kd.R Kd.bool 4 w15 w.heap.size (fun _ => True) (.slice (some ⟨go10,0,none⟩) x3_1.length co10) y698 := (by rw [hw,Ny698.out];exact HP14.1);clear HP14;have n0_ := As_ (hp_);have n1_ := As_ ((by rw [hw];exact bwS (HB.out) GB10.out : Below w.heap.size w w15));clear HO_3 HB;revert n0_ n1_;intro HO_3 HB;clear hg hw hp_;have p699 : 0 ≤ (x4_1 : Int) := odT zA_;have q699 : x4_1 < (l0.length : Int) := odT zA_;obtain ⟨ad699,e699,hx699_0,hx699_1⟩ := at_T49 HR0.out x4_1 p699 q699;obtain rfl : ad696 = ad699 := (by injection e699);replace hx699_0 := bwC HB.out hx699_0;replace hx699_1 := bwC HB.out hx699_1;replace p699 := eq_true p699;replace q699 := eq_true q699;have p700 : 0 ≤ (x4_1 : Int) := odT zA_;have q700 : x4_1 < (l0.length : Int) := odT zA_;obtain ⟨ad700,e700,hx700_0,hx700_1⟩ := at_T49 HR0.out x4_1 p700 q700;obtain rfl : ad696 = ad700 := (by injection e700);replace hx700_0 := bwC HB.out hx700_0;replace hx700_1 := bwC HB.out hx700_1;replace p700 := eq_true p700;replace q700 := eq_true q700;have p701 : 0 ≤ (((rd_T49 l0 x4_1).f1) : Int) := odT zA_;have q701 : ((rd_T49 l0 x4_1).f1) < (y698.length : Int) := (by have h_ : (((rd_T49 l0 x4_1).f1) : Int) < ((x3_1.length : Int) : Int) := odT zA_;first|(have e_ := (Kd.R_reads' HO_3.out).1;omega)|simpa only [Ny698.out,List.length_set] using h_);have ql701 : ((((rd_T49 l0 x4_1).f1) : Int) < ((x3_1.length : Int) : Int)) = True := eq_true (odT zA_);obtain ⟨ad701,e701,hx701_0⟩ := Kd.at_bool (Kd.R_reads' HO_3.out).2.2 ((rd_T49 l0 x4_1).f1) p701 q701;(try rw [← Nbq12.out] at hx701_0);obtain rfl : (⟨go10,0,none⟩ : Addr) = ad701 := (by injection e701);(first|simp only [add_plain] at hx701_0|simp only [add_at] at hx701_0|simp only [Addr.add,Nat.zero_add] at hx701_0|skip);replace p701 := eq_true p701;replace q701 := eq_true q701))
   go_roundg k1
   case measure => have := HK1.out;omega
   case rel => exact ⟨(y698),(wrap64 (x4_1 + 1)),zT_,H',⟨by have := HK1.out;omega⟩,⟨by (with_reducible repeat (first|apply Kd.R_alloc|apply Kd.R_drewN|apply Kd.R_drew));exact HO_3.out⟩,⟨zb0 HB.out⟩⟩
end Go.Proofs.Ytonppkaobnfldaa.Q
