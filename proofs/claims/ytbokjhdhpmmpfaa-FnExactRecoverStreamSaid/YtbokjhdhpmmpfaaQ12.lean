-- Written by wip/tools/qprint.py (a program of this claim's author) by means of the kit's printer.
import Derived.Test.YtbokjhdhpmmpfaaQ0
import Derived.Test.YtbokjhdhpmmpfaaQ50
import Derived.Test.YtbokjhdhpmmpfaaQ88
import Derived.Test.YtbokjhdhpmmpfaaQ90
import Derived.Test.YtbokjhdhpmmpfaaQ94
namespace Go.Proofs.Ytbokjhdhpmmpfaa.Q
open Go.RowKit Go.Proofs.YtbokjhdhpmmpfaaW.PrintWords Go.Proofs.YtbokjhdhpmmpfaaW.PrintLast Go.Proofs.YtbokjhdhpmmpfaaW.PrintMore
attribute [local go_sem] max2_int min2_int max_two min_two max_three min_three max_four min_four   -- for this text's walks alone
set_option linter.unusedVariables false
set_option linter.unusedSimpArgs false

/-! ### spec_RecoverStream: function 12 -/
def spec_RecoverStream.l0 : Nat → List (S75) → Int → Int → Option ((List (S75)))
 | 0,_,_,_ => none
 | k + 1,x5,x7,x8 => if x8 < (x5.length : Int) then (if 0 ≤ x8 then (if ((rd_T75 x5 x8).f0) = 19 then (spec_RecoverStream.l0 k x5 (wrap64 (x8 + 1)) (wrap64 (x8 + 1))) else (spec_RecoverStream.l0 k x5 x7 (wrap64 (x8 + 1)))) else (none)) else ((some (([] : List (S75)) : List (S75))).bind fun y165 => (if 0 ≤ x7 then (if x7 ≤ (x5.length : Int) then ((some (x5.take (x7 : Int).toNat : List (S75))).bind fun y168 => (if y165.length + y168.length < 8796093022208 then (some (y165 ++ y168)) else (none))) else (none)) else (none)))
def spec_RecoverStream.f (k : Nat) (l0 : List Int) : Option ((List (S75))) := (spec_validFramed.f k l0).bind fun t155 => (if t155 = true then ((spec_unframe.f k l0).bind fun bt156 => (if (bt156.1.length : Int) > 1000 then (some ([] : List (S75))) else ((spec_readOps.f k bt156.1).bind fun bt160 => (spec_RecoverStream.l0 k bt160.1 0 0)))) else (some ([] : List (S75))))
set_option maxRecDepth 100000 in
theorem spec_RecoverStream.mono_l : ∀ k,(∀ y0 y1 y2,LeO (spec_RecoverStream.l0 k y0 y1 y2) (spec_RecoverStream.l0 (k + 1) y0 y1 y2))
 | 0 => fun _ _ _ r h => (by cases h)
 | k + 1 => by
  have ih0 := spec_RecoverStream.mono_l k
  ·intro y0 y1 y2
   unfold spec_RecoverStream.l0
   repeat' first
   | (with_reducible exact ih0 _ _ _)
   | (with_reducible exact spec_readOps.mono _ _)
   | (with_reducible exact spec_unframe.mono _ _)
   | (with_reducible exact spec_validFramed.mono _ _)
   | (with_reducible exact LeO.refl _)
   | (with_reducible exact LeO.none _)
   | (with_reducible refine LeO.ite ?_ ?_)
   | (with_reducible refine LeO.bind ?_ (fun _ => ?_))
   | exact ih0 _ _ _
   | exact spec_readOps.mono _ _
   | exact spec_unframe.mono _ _
   | exact spec_validFramed.mono _ _
   | exact LeO.none _
   | refine LeO.ite ?_ ?_
   | refine LeO.bind ?_ (fun _ => ?_)
set_option maxRecDepth 100000 in
theorem spec_RecoverStream.mono : ∀ a0 k,LeO (spec_RecoverStream.f k a0) (spec_RecoverStream.f (k + 1) a0) := by
 intro a0 k
 have ih0 := spec_RecoverStream.mono_l k
 unfold spec_RecoverStream.f
 repeat' first
   | (with_reducible exact ih0 _ _ _)
   | (with_reducible exact spec_readOps.mono _ _)
   | (with_reducible exact spec_unframe.mono _ _)
   | (with_reducible exact spec_validFramed.mono _ _)
   | (with_reducible exact LeO.refl _)
   | (with_reducible exact LeO.none _)
   | (with_reducible refine LeO.ite ?_ ?_)
   | (with_reducible refine LeO.bind ?_ (fun _ => ?_))
   | exact ih0 _ _ _
   | exact spec_readOps.mono _ _
   | exact spec_unframe.mono _ _
   | exact spec_validFramed.mono _ _
   | exact LeO.none _
   | refine LeO.ite ?_ ?_
   | refine LeO.bind ?_ (fun _ => ?_)
set_option maxHeartbeats 8000000 in
set_option maxRecDepth 100000 in
theorem spec_RecoverStream.calls (k : Nat) (A0 : Option Addr) (c0 : Nat) (l0 : List Int) (r : List (S75)) (w : World) (hr0 : Kd.C (Kd.int .i64) w A0 l0.length l0) (hc0 : l0.length ≤ c0) (h : spec_RecoverStream.f k l0 = some r) :
  Calls Try.prog 12 #[.slice A0 l0.length c0] w fun e w' => ∃ v0_ : Value,e = .returned (v0_) ∧ Kd.R k75 75 w' w.heap.size (fun _ => True) v0_ r ∧ Below w.heap.size w w' := by
 have HR0 := As_ hr0
 have HC0 := As_ hc0
 clear hr0 hc0
 have HB := As_ (Below.refl w.heap.size w)
 have H : ((spec_validFramed.f k l0).bind fun t155 => (if t155 = true then ((spec_unframe.f k l0).bind fun bt156 => (if (bt156.1.length : Int) > 1000 then (some ([] : List (S75))) else ((spec_readOps.f k bt156.1).bind fun bt160 => (spec_RecoverStream.l0 k bt160.1 0 0)))) else (some ([] : List (S75))))) = some r := h
 clear h
 replace H := obS H
 obtain ⟨t155,A20,H⟩ := H
 replace H : (if t155 = true then ((spec_unframe.f k l0).bind fun bt156 => (if (bt156.1.length : Int) > 1000 then (some ([] : List (S75))) else ((spec_readOps.f k bt156.1).bind fun bt160 => (spec_RecoverStream.l0 k bt160.1 0 0)))) else (some ([] : List (S75)))) = some r := H
 have A2 := As_ A20
 clear A20
 by_cases c3 : t155 = true
 rotate_left
 ·replace c3 := Bool.eq_false_iff.mpr c3
  subst c3
  have H1 : (some ([] : List (S75))) = some r := by rw [if_neg (show ¬ (false = true) by decide)] at H;exact H
  clear H
  have H := H1
  clear H1
  obtain rfl := Option.some.inj H
  go_enter Try.func12,Try.ntmps12
  go_wp2_with (first|((with_reducible refine gate_callee (f := 50) rfl ?_);refine goesL_ (some 10) rfl rfl Try.func50 (by kernel_rfl) rfl #[.slice A0 l0.length c0] rfl zM_ ?_;(with_reducible refine (spec_validFramed.calls k _ _ l0 false _ ?side1 ?side2 A2.out).mono ?_);(case side1 => repeat (first|exact HR0.out|(with_reducible refine Kd.C_alloc ?_ _)|(with_reducible refine Kd.C_drewN ?_ _)|(with_reducible refine Kd.C_drew ?_)));(case side2 => exact HC0.out);rintro e w' ⟨rfl,⟨nd,rfl⟩⟩;refine ⟨_,rfl,?_⟩))
  go_ret
  exact ⟨_,zE_,by first|exact Kd.R_nil _ _ _ _ _|exact Kd.N_nil _ _ _ _ _|exact Kd.V_nil _ _ _ _ _|exact Kd.Q_nil _ _ _ _ _|exact Kd.S_nil _ _ _ _ _,zb0 HB.out⟩

 subst c3
 have H1 : ((spec_unframe.f k l0).bind fun bt156 => (if (bt156.1.length : Int) > 1000 then (some ([] : List (S75))) else ((spec_readOps.f k bt156.1).bind fun bt160 => (spec_RecoverStream.l0 k bt160.1 0 0)))) = some r := by rw [if_pos rfl] at H;exact H
 clear H
 have H := H1
 clear H1
 replace H := obS H
 obtain ⟨⟨t156,t157⟩,A40,H⟩ := H
 replace H : (if (t156.length : Int) > 1000 then (some ([] : List (S75))) else ((spec_readOps.f k t156).bind fun bt160 => (spec_RecoverStream.l0 k bt160.1 0 0))) = some r := H
 have A4 := As_ A40
 clear A40
 by_cases c5 : (t156.length : Int) > 1000
 ·rw [if_pos c5] at H
  have c5b0 : decide (1000 < (t156.length : Int)) = true := deT c5
  have c5b1 : decide (1000 < t156.length) = true := deT (by omega)
  clear c5
  obtain rfl := Option.some.inj H
  go_enter Try.func12,Try.ntmps12
  go_wp2_with (first|((with_reducible refine gate_callee (f := 50) rfl ?_);refine goesL_ (some 10) rfl rfl Try.func50 (by kernel_rfl) rfl #[.slice A0 l0.length c0] rfl zM_ ?_;(with_reducible refine (spec_validFramed.calls k _ _ l0 true _ ?side1 ?side2 A2.out).mono ?_);(case side1 => repeat (first|exact HR0.out|(with_reducible refine Kd.C_alloc ?_ _)|(with_reducible refine Kd.C_drewN ?_ _)|(with_reducible refine Kd.C_drew ?_)));(case side2 => exact HC0.out);rintro e w' ⟨rfl,⟨nd,rfl⟩⟩;refine ⟨_,rfl,?_⟩)|((with_reducible refine gate_callee (f := 51) rfl ?_);refine goesL_ (some 14) rfl rfl Try.func51 (by kernel_rfl) rfl #[.slice A0 l0.length c0] rfl zM_ ?_;(with_reducible refine (spec_unframe.calls k _ _ l0 t156 t157 _ ?side1 ?side2 A4.out).mono ?_);(case side1 => repeat (first|exact HR0.out|(with_reducible refine Kd.C_alloc ?_ _)|(with_reducible refine Kd.C_drewN ?_ _)|(with_reducible refine Kd.C_drew ?_)));(case side2 => exact HC0.out);rintro e w6 ⟨v158,rfl,ho0,hb⟩;refine ⟨_,rfl,?_⟩;have n0_ := As_ (Kd.R_lower ho0 (bwZ (zb0 HB.out)));have n1_ := As_ (bwT (zb0 HB.out) hb);clear HB;revert n0_ n1_;intro HO159 HB;obtain ⟨Ao7,co7,eo7⟩ := Kd.R_slice HO159.out;subst eo7))
  go_ret
  exact ⟨_,zE_,by first|exact Kd.R_nil _ _ _ _ _|exact Kd.N_nil _ _ _ _ _|exact Kd.V_nil _ _ _ _ _|exact Kd.Q_nil _ _ _ _ _|exact Kd.S_nil _ _ _ _ _,zb0 HB.out⟩
 rw [if_neg c5] at H
 have c5b0 : decide (1000 < (t156.length : Int)) = false := deF c5
 have c5b1 : decide (1000 < t156.length) = false := deF (by omega)
 clear c5
 replace H := obS H
 obtain ⟨⟨t160,t161⟩,A80,H⟩ := H
 replace H : (spec_RecoverStream.l0 k t160 0 0) = some r := H
 have A8 := As_ A80
 clear A80
 have H' := As_ H
 clear H
 go_enter Try.func12,Try.ntmps12
 go_wp2_with (first|((with_reducible refine gate_callee (f := 50) rfl ?_);refine goesL_ (some 10) rfl rfl Try.func50 (by kernel_rfl) rfl #[.slice A0 l0.length c0] rfl zM_ ?_;(with_reducible refine (spec_validFramed.calls k _ _ l0 true _ ?side1 ?side2 A2.out).mono ?_);(case side1 => repeat (first|exact HR0.out|(with_reducible refine Kd.C_alloc ?_ _)|(with_reducible refine Kd.C_drewN ?_ _)|(with_reducible refine Kd.C_drew ?_)));(case side2 => exact HC0.out);rintro e w' ⟨rfl,⟨nd,rfl⟩⟩;refine ⟨_,rfl,?_⟩)|((with_reducible refine gate_callee (f := 51) rfl ?_);refine goesL_ (some 14) rfl rfl Try.func51 (by kernel_rfl) rfl #[.slice A0 l0.length c0] rfl zM_ ?_;(with_reducible refine (spec_unframe.calls k _ _ l0 t156 t157 _ ?side1 ?side2 A4.out).mono ?_);(case side1 => repeat (first|exact HR0.out|(with_reducible refine Kd.C_alloc ?_ _)|(with_reducible refine Kd.C_drewN ?_ _)|(with_reducible refine Kd.C_drew ?_)));(case side2 => exact HC0.out);rintro e w9 ⟨v158,rfl,ho0,hb⟩;refine ⟨_,rfl,?_⟩;have n0_ := As_ (Kd.R_lower ho0 (bwZ (zb0 HB.out)));have n1_ := As_ (bwT (zb0 HB.out) hb);clear HB;revert n0_ n1_;intro HO159 HB;obtain ⟨Ao10,co10,eo10⟩ := Kd.R_slice HO159.out;subst eo10)|((with_reducible refine gate_callee (f := 52) rfl ?_);refine goesL_ (some 22) rfl rfl Try.func52 (by kernel_rfl) rfl #[.slice Ao10 t156.length co10] rfl zM_ ?_;(with_reducible refine (spec_readOps.calls k _ _ t156 t160 t161 _ ?side1 ?side2 A8.out).mono ?_);(case side1 => exact zC_ (Kd.R_reads' HO159.out).2.2);(case side2 => exact (Kd.R_reads' HO159.out).2.1);rintro e w11 ⟨v162,rfl,ho0,hb⟩;refine ⟨_,rfl,?_⟩;have n0_ := As_ (Kd.R_below (zR_ HO159.out) hb);have n1_ := As_ (Kd.R_lower ho0 (bwZ (zb0 HB.out)));have n2_ := As_ (bwT (zb0 HB.out) hb);clear HO159 HB;revert n0_ n1_ n2_;intro HO159 HO163 HB))
 go_loopg [7,8] k (fun kq v7 v8 w' => ∃ (x7_1 : Int) (x8_1 : Int),v7 = .int .i64 x7_1 ∧ v8 = .int .i64 x8_1 ∧ Aside0 (spec_RecoverStream.l0 kq t160 x7_1 x8_1 = some r) ∧ Aside0 (kq ≤ k) ∧ Aside0 (Kd.R k75 75 w' w.heap.size (fun _ => True) v162 t160) ∧ Aside0 (Below w.heap.size w w'))
 case atStart => exact ⟨(0),(0),zT_,zT_,H',⟨Nat.le_refl _⟩,⟨by (with_reducible repeat (first|apply Kd.R_alloc|apply Kd.R_drewN|apply Kd.R_drew));exact HO163.out⟩,⟨zb0 HB.out⟩⟩
 case round =>
  clear H'
  obtain ⟨x7_1,x8_1,rfl,rfl,HA,HK1,HO_5,HB⟩ := hrel
  cases gk with
  | zero => exact absurd HA.out (fun h_ => (by cases h_))
  | succ k1 =>
   have H := HA.out
   clear HA
   simp only [spec_RecoverStream.l0] at H
   by_cases c12 : x8_1 < (t160.length : Int)
   rotate_left
   ·rw [if_neg c12] at H
    have c12b0 : decide (x8_1 < (t160.length : Int)) = false := deF c12
    clear c12
    obtain ⟨y165,hy165⟩ : ∃ y_ : List (S75),y_ = (([] : List (S75))) := ⟨_,rfl⟩
    replace H : (if 0 ≤ x7_1 then (if x7_1 ≤ (t160.length : Int) then ((some (t160.take (x7_1 : Int).toNat : List (S75))).bind fun y168 => (if y165.length + y168.length < 8796093022208 then (some (y165 ++ y168)) else (none))) else (none)) else (none)) = some r := zH_ H hy165
    have Ny165 := As_ hy165
    clear hy165
    by_cases c17 : 0 ≤ x7_1
    rotate_left
    ·rw [if_neg c17] at H
     exact absurd H (by simp)
    rw [if_pos c17] at H
    have c17b0 := eq_true c17
    have c17b1 : decide (0 ≤ x7_1) = true := deT c17
    clear c17
    by_cases c18 : x7_1 ≤ (t160.length : Int)
    rotate_left
    ·rw [if_neg c18] at H
     exact absurd H (by simp)
    rw [if_pos c18] at H
    have c18b0 := eq_true c18
    have c18b1 : decide (x7_1 ≤ (t160.length : Int)) = true := deT c18
    clear c18
    obtain ⟨y168,hy168⟩ : ∃ y_ : List (S75),y_ = (t160.take (x7_1 : Int).toNat) := ⟨_,rfl⟩
    replace H : (if y165.length + y168.length < 8796093022208 then (some (y165 ++ y168)) else (none)) = some r := zH_ H hy168
    have Ny168 := As_ hy168
    clear hy168
    by_cases c19 : y165.length + y168.length < 8796093022208
    rotate_left
    ·rw [if_neg c19] at H
     exact absurd H (by simp)
    rw [if_pos c19] at H
    have LMc19 := As_ c19
    clear c19
    obtain ⟨y172,hy172⟩ : ∃ y_ : List (S75),y_ = (y165 ++ y168) := ⟨_,rfl⟩
    replace H : (some y172) = some r := zH_ H hy172
    have Ny172 := As_ hy172
    clear hy172
    obtain rfl := Option.some.inj H
    obtain ⟨Ao20,co20,eo20⟩ := Kd.R_slice HO_5.out
    subst eo20
    go_wp2_with (first|((with_reducible refine gate_dst (N := 39) rfl ?_);refine Kd.R_lit k75 _ 75 ?hg (N := 39) ?hd (xs := ([] : List (S75))) (inner := []) (ok := fun _ => True) (okp := fun _ => True) ?hr ?hp (fun _ hk => hk) trivial (Below.refl _ _) (Nat.le_refl _) (by simp) ?_;(case hd => rfl);(case hg => rfl);(case hr => go_simp <;> rfl);(case hp => exact (Reps.none _ _));intro v166 w21 ho22 hb hg_ hnew_;clear hg_ hnew_;(first|rw [← Ny165.out] at ho22|(simp only [Int.reduceToNat] at ho22;rw [← Ny165.out] at ho22));have n0_ := As_ (Kd.R_elder' (zR_ HO_5.out) (Kd.R_base ho22) hb);have n1_ := As_ (Kd.R_lower (Kd.R_new' ho22 (Kd.R_lt (zR_ HO_5.out))) (bwZ (zb0 HB.out)));have n2_ := As_ (bwT (zb0 HB.out) hb);clear HO_5 HB;revert n0_ n1_ n2_;intro HO_5 HO167 HB;clear hb ho22;have q23 : (x7_1 : Int) ≤ ((t160.length : Int) : Int) := odT zA_;obtain ⟨i023,hi023,_,hsz23,_⟩ := info_parts info75;have hroom23 : t160.length ≤ co20 := (Kd.R_reads' HO_5.out).2.1;have hC23 : Kd.C k75 _ Ao20 t160.length t160 := (Kd.R_reads' HO_5.out).2.2;have hcut23 := cut_to (P := Try.prog) 23 75 .i64 Try.underlying23 hi023 Ao20 t160.length co20 x7_1 (odT zA_) q23 hroom23;have hr23 := Kd.C_take (m := (x7_1 : Int).toNat) hC23 (by omega);have hy23 : y168.length = (x7_1 : Int).toNat := (by rw [Ny168.out,List.length_take];omega);rw [← Ny168.out] at hr23;rw [← hy23] at hcut23;have HR171 := As_ hr23;have HC171 := As_ (show y168.length ≤ co20 from by omega);clear hr23 hC23 hroom23 hi023 hsz23;have KY23 := As_ hy23;clear hy23;have KL23 := As_ (show (x7_1 : Int).toNat ≤ t160.length from by omega);replace q23 := eq_true q23)|((with_reducible refine gate_builtin (b := .append) (xs := #[.tmp 39,.tmp 42]) rfl ?_);at_builtin;refine Kd.R_append_rows k75 (w0 := w) w.heap.size rfl (.tmp 39) (.tmp 42) 23 75 (.agg #[(.int .i64 0),(.int .i64 0)]) 16 rfl Try.underlying23 info75 rfl (by decide) (by omega) v166 y165 y168 _ _ _ (fun k_ => some k_ ≠ (.slice Ao20 t160.length co20 : Value).ownBlock) (fun _ => False) rfl rfl ?aO ?aR (fun _ _ h => h) (fun _ h => h.elim) ?aF ?aB ?aS ?aL ?_;(case aR => repeat (first|exact (by repeat (first|(with_reducible exact HR171.out)|(with_reducible refine Kd.C_alloc ?_ _)|(with_reducible refine Kd.C_drewN ?_ _)|(with_reducible refine Kd.C_drew ?_)|exact HR171.out))|(with_reducible refine Kd.C_alloc ?_ _)|(with_reducible refine Kd.C_drewN ?_ _)|(with_reducible refine Kd.C_drew ?_)));(case aB => exact (zb0 HB.out));(case aF => exact (fun k_ hk => Kd.fresh' (Kd.R_lt (zR_ HO_5.out)) k_ hk));(case aO => exact (by (with_reducible repeat (first|apply Kd.R_alloc|apply Kd.R_drewN|apply Kd.R_drew));exact Kd.R_mono HO167.out (fun _ hk => hk.2)));(case aS => exact (bwZ (zb0 HB.out)));(case aL => have := LMc19.out;omega);intro v173 w24 ho hb hg hat;rw [← Ny172.out] at ho;have n0_ := As_ (Kd.R_after (ok := (fun _ => True)) (zR_ HO_5.out) hg hat);have n1_ := As_ (hb);have n2_ := As_ ((show Kd.C k75 w24 Ao20 y168.length y168 from by rw [Ny168.out];exact Kd.C_take (m := (x7_1 : Int).toNat) ((Kd.R_reads' (Kd.R_after (ok := (fun _ => True)) (zR_ HO_5.out) hg hat)).2.2) KL23.out));have n3_ := As_ (ho);clear HO_5 HB HR171 HO167;revert n0_ n1_ n2_ n3_;intro HO_5 HB HR171 HO174;clear ho hb hg hat))
    go_ret
    exact ⟨_,zE_,by (with_reducible repeat (first|apply Kd.R_alloc|apply Kd.R_drewN|apply Kd.R_drew));exact Kd.R_mono HO174.out (fun _ hk => trivial),zb0 HB.out⟩
   rw [if_pos c12] at H
   have c12b0 : decide (x8_1 < (t160.length : Int)) = true := deT c12
   clear c12
   by_cases c13 : 0 ≤ x8_1
   rotate_left
   ·rw [if_neg c13] at H
    exact absurd H (by simp)
   rw [if_pos c13] at H
   have c13b0 : decide (0 ≤ x8_1) = true := deT c13
   clear c13
   by_cases c14 : ((rd_T75 t160 x8_1).f0) = 19
   rotate_left
   ·rw [if_neg c14] at H
    have c14b0 : (((rd_T75 t160 x8_1).f0) == 19) = false := beq_eq_false_iff_ne.mpr c14
    have c14b1 : (((rd_T75 t160 x8_1).f0) != 19) = true := bne_iff_ne.mpr c14
    have H' := As_ H
    clear H
    obtain ⟨Ao16,co16,eo16⟩ := Kd.R_slice HO_5.out
    subst eo16
    have p164 : 0 ≤ (x8_1 : Int) := odT zA_
    have q164 : x8_1 < (t160.length : Int) := odT zA_
    obtain ⟨ad164,e164,hx164_0,hx164_1⟩ := at_T75 (Kd.R_reads' HO_5.out).2.2 x8_1 p164 q164
    cases e164
    replace p164 := eq_true p164
    replace q164 := eq_true q164
    go_wp2
    go_roundg k1
    case measure => have := HK1.out;omega
    case rel => exact ⟨(x7_1),(wrap64 (x8_1 + 1)),zT_,zT_,H',⟨by have := HK1.out;omega⟩,⟨by (with_reducible repeat (first|apply Kd.R_alloc|apply Kd.R_drewN|apply Kd.R_drew));exact HO_5.out⟩,⟨zb0 HB.out⟩⟩
   rw [if_pos c14] at H
   have c14b0 : (((rd_T75 t160 x8_1).f0) == 19) = true := beq_iff_eq.mpr c14
   have c14b1 : (((rd_T75 t160 x8_1).f0) != 19) = false := bne_eq_false_iff_eq.mpr c14
   clear c14
   have H' := As_ H
   clear H
   obtain ⟨Ao15,co15,eo15⟩ := Kd.R_slice HO_5.out
   subst eo15
   have p164 : 0 ≤ (x8_1 : Int) := odT zA_
   have q164 : x8_1 < (t160.length : Int) := odT zA_
   obtain ⟨ad164,e164,hx164_0,hx164_1⟩ := at_T75 (Kd.R_reads' HO_5.out).2.2 x8_1 p164 q164
   cases e164
   replace p164 := eq_true p164
   replace q164 := eq_true q164
   go_wp2
   go_roundg k1
   case measure => have := HK1.out;omega
   case rel => exact ⟨(wrap64 (x8_1 + 1)),(wrap64 (x8_1 + 1)),zT_,zT_,H',⟨by have := HK1.out;omega⟩,⟨by (with_reducible repeat (first|apply Kd.R_alloc|apply Kd.R_drewN|apply Kd.R_drew));exact HO_5.out⟩,⟨zb0 HB.out⟩⟩
/-! ### impl_recovered: function 53 -/
mutual
def impl_recovered.j0 : Nat → List Int → Bool → Option ((List (S75)) × Bool)
 | 0,_,_ => none
 | k + 1,x4,x19 => if x19 = true then (some (([] : List (S75)),false)) else ((impl_decoded.f k x4).bind fun bt220 => (impl_recovered.l0 k bt220.1))
def impl_recovered.l0 : Nat → List (S75) → Option ((List (S75)) × Bool)
 | 0,_ => none
 | k + 1,x6 => if (x6.length : Int) > 0 then (if 0 ≤ (wrap64 ((x6.length : Int) - 1)) then (if (wrap64 ((x6.length : Int) - 1)) < (x6.length : Int) then (if ((rd_T75 x6 (wrap64 ((x6.length : Int) - 1))).f0) = 19 then (some (x6,true)) else (if (wrap64 ((x6.length : Int) - 1)) ≤ (x6.length : Int) then (impl_recovered.l0 k (x6.take ((wrap64 ((x6.length : Int) - 1)) : Int).toNat)) else (none))) else (none)) else (none)) else (some (x6,true))
end
def impl_recovered.f (k : Nat) (l0 : List Int) : Option ((List (S75)) × Bool) := (impl_UnframeTorn.f k l0).bind fun bt216 => (if bt216.2 < 0 then (impl_recovered.j0 k bt216.1 true) else (impl_recovered.j0 k bt216.1 (decide ((bt216.1.length : Int) > 1000))))
set_option maxRecDepth 100000 in
theorem impl_recovered.mono_l : ∀ k,(∀ y0 y1,LeO (impl_recovered.j0 k y0 y1) (impl_recovered.j0 (k + 1) y0 y1)) ∧ (∀ y0,LeO (impl_recovered.l0 k y0) (impl_recovered.l0 (k + 1) y0))
 | 0 => ⟨fun _ _ r h => (by cases h),fun _ r h => (by cases h)⟩
 | k + 1 => by
  obtain ⟨ih0,ih1⟩ := impl_recovered.mono_l k
  refine ⟨?_,?_⟩
  ·intro y0 y1
   unfold impl_recovered.j0
   repeat' first
   | (with_reducible exact ih0 _ _)
   | (with_reducible exact ih1 _)
   | (with_reducible exact impl_UnframeTorn.mono _ _)
   | (with_reducible exact impl_decoded.mono _ _)
   | (with_reducible exact LeO.refl _)
   | (with_reducible exact LeO.none _)
   | (with_reducible refine LeO.ite ?_ ?_)
   | (with_reducible refine LeO.bind ?_ (fun _ => ?_))
   | exact ih0 _ _
   | exact ih1 _
   | exact impl_UnframeTorn.mono _ _
   | exact impl_decoded.mono _ _
   | exact LeO.none _
   | refine LeO.ite ?_ ?_
   | refine LeO.bind ?_ (fun _ => ?_)
  ·intro y0
   unfold impl_recovered.l0
   repeat' first
   | (with_reducible exact ih0 _ _)
   | (with_reducible exact ih1 _)
   | (with_reducible exact impl_UnframeTorn.mono _ _)
   | (with_reducible exact impl_decoded.mono _ _)
   | (with_reducible exact LeO.refl _)
   | (with_reducible exact LeO.none _)
   | (with_reducible refine LeO.ite ?_ ?_)
   | (with_reducible refine LeO.bind ?_ (fun _ => ?_))
   | exact ih0 _ _
   | exact ih1 _
   | exact impl_UnframeTorn.mono _ _
   | exact impl_decoded.mono _ _
   | exact LeO.none _
   | refine LeO.ite ?_ ?_
   | refine LeO.bind ?_ (fun _ => ?_)
set_option maxRecDepth 100000 in
theorem impl_recovered.mono : ∀ a0 k,LeO (impl_recovered.f k a0) (impl_recovered.f (k + 1) a0) := by
 intro a0 k
 obtain ⟨ih0,ih1⟩ := impl_recovered.mono_l k
 unfold impl_recovered.f
 repeat' first
   | (with_reducible exact ih0 _ _)
   | (with_reducible exact ih1 _)
   | (with_reducible exact impl_UnframeTorn.mono _ _)
   | (with_reducible exact impl_decoded.mono _ _)
   | (with_reducible exact LeO.refl _)
   | (with_reducible exact LeO.none _)
   | (with_reducible refine LeO.ite ?_ ?_)
   | (with_reducible refine LeO.bind ?_ (fun _ => ?_))
   | exact ih0 _ _
   | exact ih1 _
   | exact impl_UnframeTorn.mono _ _
   | exact impl_decoded.mono _ _
   | exact LeO.none _
   | refine LeO.ite ?_ ?_
   | refine LeO.bind ?_ (fun _ => ?_)
set_option maxHeartbeats 8000000 in
set_option maxRecDepth 100000 in
theorem impl_recovered.calls (k : Nat) (A0 : Option Addr) (c0 : Nat) (l0 : List Int) (r1 : List (S75)) (r2 : Bool) (w : World) (hr0 : Kd.C (Kd.int .i64) w A0 l0.length l0) (hc0 : l0.length ≤ c0) (h : impl_recovered.f k l0 = some (r1,r2)) :
  Calls Try.prog 53 #[.slice A0 l0.length c0] w fun e w' => ∃ (A_ : Option Addr) (c_ : Nat),e = .returned (.tuple #[.slice A_ r1.length r1.length,.bool r2]) ∧ Kd.R k75 75 w' w.heap.size (fun _ => True) (.slice A_ r1.length c_) r1 ∧ Below w.heap.size w w' := by
 have HR0 := As_ hr0
 have HC0 := As_ hc0
 clear hr0 hc0
 have HB := As_ (Below.refl w.heap.size w)
 have H : ((impl_UnframeTorn.f k l0).bind fun bt216 => (if bt216.2 < 0 then (impl_recovered.j0 k bt216.1 true) else (impl_recovered.j0 k bt216.1 (decide ((bt216.1.length : Int) > 1000))))) = some (r1,r2) := h
 clear h
 replace H := obS H
 obtain ⟨⟨t216,t217⟩,A20,H⟩ := H
 replace H : (if t217 < 0 then (impl_recovered.j0 k t216 true) else (impl_recovered.j0 k t216 (decide ((t216.length : Int) > 1000)))) = some (r1,r2) := H
 have A2 := As_ A20
 clear A20
 have HC3 := As_ H
 clear H
 go_enter Try.func53,Try.ntmps53
 go_upto_region 2 with (first|((with_reducible refine gate_callee (f := 89) rfl ?_);refine goesL_ (some 10) rfl rfl Try.func89 (by kernel_rfl) rfl #[.slice A0 l0.length c0] rfl zM_ ?_;(with_reducible refine (impl_UnframeTorn.calls k _ _ l0 t216 t217 _ ?side1 ?side2 A2.out).mono ?_);(case side1 => repeat (first|exact HR0.out|(with_reducible refine Kd.C_alloc ?_ _)|(with_reducible refine Kd.C_drewN ?_ _)|(with_reducible refine Kd.C_drew ?_)));(case side2 => exact HC0.out);rintro e w4 ⟨v218,rfl,ho0,hb⟩;refine ⟨_,rfl,?_⟩;have n0_ := As_ (Kd.R_lower ho0 (bwZ (zb0 HB.out)));have n1_ := As_ (bwT (zb0 HB.out) hb);clear HB;revert n0_ n1_;intro HO219 HB))
 (try simp only [Act.put,List.setIfInBounds_toArray,List.set_cons_zero,List.set_cons_succ])
 go_cut [19] (fun v19 wc => ∃ (kq : Nat) (x19_2 : Bool),v19 = .bool x19_2 ∧ Aside0 (impl_recovered.j0 kq t216 x19_2 = some (r1,r2)) ∧ Aside0 (kq ≤ k) ∧ Aside0 (Kd.R (Kd.int .i64) 3 wc w.heap.size (fun _ => True) v218 t216) ∧ Aside0 (Below w.heap.size w wc))
 case first =>
  have H := HC3.out
  clear HC3
  by_cases c5 : t217 < 0
  ·rw [if_pos c5] at H
   have c5b0 : decide (t217 < 0) = true := deT c5
   clear c5
   (first|rw [c5b0]|(simp only [i64_w,i32_w];rw [c5b0])|skip)
   have H' := As_ H
   clear H
   go_wp2
   go_meet
   case rel => exact ⟨_,(true),zT_,H',⟨by first|omega|exact Nat.le_refl _⟩,⟨by (with_reducible repeat (first|apply Kd.R_alloc|apply Kd.R_drewN|apply Kd.R_drew));exact HO219.out⟩,⟨zb0 HB.out⟩⟩
  rw [if_neg c5] at H
  have c5b0 : decide (t217 < 0) = false := deF c5
  clear c5
  (first|rw [c5b0]|(simp only [i64_w,i32_w];rw [c5b0])|skip)
  have H' := As_ H
  clear H
  obtain ⟨Ao6,co6,eo6⟩ := Kd.R_slice HO219.out
  subst eo6
  go_wp2
  go_meet
  case rel => exact ⟨_,(decide ((t216.length : Int) > 1000)),zT_,H',⟨by first|omega|exact Nat.le_refl _⟩,⟨by (with_reducible repeat (first|apply Kd.R_alloc|apply Kd.R_drewN|apply Kd.R_drew));exact HO219.out⟩,⟨zb0 HB.out⟩⟩
 case rest =>
  clear HC3
  obtain ⟨kq,x19_2,rfl,HA,HJ2,HO_4,HB⟩ := hcut
  cases kq with
  | zero => exact absurd HA.out (fun h_ => (by cases h_))
  | succ kj2 =>
   have H := HA.out
   clear HA
   simp only [impl_recovered.j0] at H
   by_cases c7 : x19_2 = true
   ·subst c7
    have H1 : (some (([] : List (S75)),false)) = some (r1,r2) := by rw [if_pos rfl] at H;exact H
    clear H
    have H := H1
    clear H1
    simp only [Option.some.injEq,Prod.mk.injEq] at H
    obtain ⟨rfl,rfl⟩ := H
    go_wp2
    go_ret2
    exact ⟨none,0,zE_,by first|exact Kd.R_nil _ _ _ _ _|exact Kd.N_nil _ _ _ _ _|exact Kd.V_nil _ _ _ _ _|exact Kd.Q_nil _ _ _ _ _|exact Kd.S_nil _ _ _ _ _,zb0 HB.out⟩
   replace c7 := Bool.eq_false_iff.mpr c7
   subst c7
   have H1 : ((impl_decoded.f kj2 t216).bind fun bt220 => (impl_recovered.l0 kj2 bt220.1)) = some (r1,r2) := by rw [if_neg (show ¬ (false = true) by decide)] at H;exact H
   clear H
   have H := H1
   clear H1
   replace H := obS H
   obtain ⟨⟨t220,t221⟩,A80,H⟩ := H
   replace H : (impl_recovered.l0 kj2 t220) = some (r1,r2) := H
   have A8 := As_ A80
   clear A80
   have H' := As_ H
   clear H
   obtain ⟨Ao9,co9,eo9⟩ := Kd.R_slice HO_4.out
   subst eo9
   go_wp2_with (first|((with_reducible refine gate_callee (f := 90) rfl ?_);refine goesL_ (some 22) rfl rfl Try.func90 (by kernel_rfl) rfl #[.slice Ao9 t216.length co9] rfl zM_ ?_;(with_reducible refine (impl_decoded.calls kj2 _ _ t216 t220 t221 _ ?side1 ?side2 A8.out).mono ?_);(case side1 => exact zC_ (Kd.R_reads' HO_4.out).2.2);(case side2 => exact (Kd.R_reads' HO_4.out).2.1);rintro e w10 ⟨v222,rfl,ho0,hb⟩;refine ⟨_,rfl,?_⟩;have n0_ := As_ (Kd.R_below (zR_ HO_4.out) hb);have n1_ := As_ (Kd.R_lower ho0 (bwZ (zb0 HB.out)));have n2_ := As_ (bwT (zb0 HB.out) hb);clear HO_4 HB;revert n0_ n1_ n2_;intro HO_4 HO223 HB))
   go_loopg [6] kj2 (fun kq v6 w' => ∃ (x6_2 : List (S75)),Aside0 (impl_recovered.l0 kq x6_2 = some (r1,r2)) ∧ Aside0 (kq ≤ kj2) ∧ Aside0 (Kd.R k75 75 w' w.heap.size (fun _ => True) v6 x6_2) ∧ Aside0 (Below w.heap.size w w'))
   case atStart => exact ⟨(t220),H',⟨Nat.le_refl _⟩,⟨by (with_reducible repeat (first|apply Kd.R_alloc|apply Kd.R_drewN|apply Kd.R_drew));exact HO223.out⟩,⟨zb0 HB.out⟩⟩
   case round =>
    clear H'
    obtain ⟨x6_2,HA,HK2,HO_6,HB⟩ := hrel
    cases gk with
    | zero => exact absurd HA.out (fun h_ => (by cases h_))
    | succ k2 =>
     have H := HA.out
     clear HA
     simp only [impl_recovered.l0] at H
     by_cases c11 : (x6_2.length : Int) > 0
     rotate_left
     ·rw [if_neg c11] at H
      have c11b0 : decide (0 < (x6_2.length : Int)) = false := deF c11
      have c11b1 : decide (0 < x6_2.length) = false := deF (by omega)
      clear c11
      simp only [Option.some.injEq,Prod.mk.injEq] at H
      obtain ⟨rfl,rfl⟩ := H
      obtain ⟨Ao20,co20,eo20⟩ := Kd.R_slice HO_6.out
      subst eo20
      go_wp2_with (first|((with_reducible refine gate_callee (f := 91) rfl ?_);refine goesL_ (some 44) rfl rfl Try.func91 (by kernel_rfl) rfl #[.slice Ao20 x6_2.length co20] rfl (by (try simp only [List.map_toArray,List.map_cons,List.map_nil]);first|done|rfl) ?_;(with_reducible refine (impl_Op.callsC Ao20 x6_2.length co20 (Kd.R_reads' HO_6.out).2.1 _).mono ?_);rintro e wq44 ⟨rfl,hdq⟩;obtain ⟨nq,hq⟩ := hdq.out;replace hq := hq.symm;clear hdq;refine ⟨_,rfl,?_⟩;have n0_ := As_ (Kd.R_at hq (zR_ HO_6.out));have n1_ := As_ (below_at hq (zb0 HB.out));clear HO_6 HB;revert n0_ n1_;intro HO_6 HB;clear hq))
      go_ret2
      exact ⟨Ao20,co20,zE_,by (with_reducible repeat (first|apply Kd.R_alloc|apply Kd.R_drewN|apply Kd.R_drew));exact HO_6.out,zb0 HB.out⟩

     rw [if_pos c11] at H
     have c11b0 : decide (0 < (x6_2.length : Int)) = true := deT c11
     have c11b1 : decide (0 < x6_2.length) = true := deT (by omega)
     clear c11
     obtain ⟨ji12,hji12⟩ : ∃ j_ : Int,(wrap64 ((x6_2.length : Int) - 1)) = j_ := ⟨_,rfl⟩
     replace H : (if 0 ≤ (ji12) then (if (ji12) < (x6_2.length : Int) then (if ((rd_T75 x6_2 (ji12)).f0) = 19 then (some (x6_2,true)) else (if (ji12) ≤ (x6_2.length : Int) then (impl_recovered.l0 k2 (x6_2.take ((ji12) : Int).toNat)) else (none))) else (none)) else (none)) = some (r1,r2) := by first|(rw [hji12] at H;exact H)|(simp only [hji12] at H ⊢;exact H)
     have hji12w : (IntKind.i64.wrap ((x6_2.length : Int) - 1)) = ji12 := (i64_w _).trans hji12
     by_cases c13 : 0 ≤ (ji12)
     rotate_left
     ·rw [if_neg c13] at H
      exact absurd H (by simp)
     rw [if_pos c13] at H
     have c13b0 : decide (0 ≤ (ji12)) = true := deT c13
     clear c13
     by_cases c14 : (ji12) < (x6_2.length : Int)
     rotate_left
     ·rw [if_neg c14] at H
      exact absurd H (by simp)
     rw [if_pos c14] at H
     have c14b0 : decide ((ji12) < (x6_2.length : Int)) = true := deT c14
     clear c14
     by_cases c15 : ((rd_T75 x6_2 (ji12)).f0) = 19
     ·rw [if_pos c15] at H
      have c15b0 : (((rd_T75 x6_2 (ji12)).f0) == 19) = true := beq_iff_eq.mpr c15
      have c15b1 : (((rd_T75 x6_2 (ji12)).f0) != 19) = false := bne_eq_false_iff_eq.mpr c15
      clear c15
      simp only [Option.some.injEq,Prod.mk.injEq] at H
      obtain ⟨rfl,rfl⟩ := H
      obtain ⟨Ao16,co16,eo16⟩ := Kd.R_slice HO_6.out
      subst eo16
      have p224 : 0 ≤ ((ji12) : Int) := odT zA_
      have q224 : (ji12) < (x6_2.length : Int) := odT zA_
      obtain ⟨ad224,e224,hx224_0,hx224_1⟩ := at_T75 (Kd.R_reads' HO_6.out).2.2 (ji12) p224 q224
      cases e224
      replace p224 := eq_true p224
      replace q224 := eq_true q224
      go_wp2_with (first|((with_reducible refine gate_callee (f := 91) rfl ?_);refine goesL_ (some 44) rfl rfl Try.func91 (by kernel_rfl) rfl #[.slice (some ad224) x6_2.length co16] rfl (by (try simp only [List.map_toArray,List.map_cons,List.map_nil]);first|done|rfl) ?_;(with_reducible refine (impl_Op.callsC (some ad224) x6_2.length co16 (Kd.R_reads' HO_6.out).2.1 _).mono ?_);rintro e wq44 ⟨rfl,hdq⟩;obtain ⟨nq,hq⟩ := hdq.out;replace hq := hq.symm;clear hdq;refine ⟨_,rfl,?_⟩;have n0_ := As_ (Kd.R_at hq (zR_ HO_6.out));have n1_ := As_ (below_at hq (zb0 HB.out));clear HO_6 HB;revert n0_ n1_;intro HO_6 HB;clear hq))
      go_ret2
      exact ⟨(some ad224),co16,by first|rfl|(simp [errW_none,errW_some] <;> rfl)|(simp only [← hji12];first|rfl|(simp [errW_none,errW_some] <;> rfl))|(simp [*,errW_none,errW_some] <;> rfl),by (with_reducible repeat (first|apply Kd.R_alloc|apply Kd.R_drewN|apply Kd.R_drew));exact HO_6.out,zb0 HB.out⟩
     rw [if_neg c15] at H
     have c15b0 : (((rd_T75 x6_2 (ji12)).f0) == 19) = false := beq_eq_false_iff_ne.mpr c15
     have c15b1 : (((rd_T75 x6_2 (ji12)).f0) != 19) = true := bne_iff_ne.mpr c15
     by_cases c17 : (ji12) ≤ (x6_2.length : Int)
     rotate_left
     ·rw [if_neg c17] at H
      exact absurd H (by simp)
     rw [if_pos c17] at H
     have c17b0 := eq_true c17
     have c17b1 : decide ((ji12) ≤ (x6_2.length : Int)) = true := deT c17
     clear c17
     obtain ⟨y225,hy225⟩ : ∃ y_ : List (S75),y_ = (x6_2.take ((ji12) : Int).toNat) := ⟨_,rfl⟩
     replace H : (impl_recovered.l0 k2 y225) = some (r1,r2) := zH_ H hy225
     have Ny225 := As_ hy225
     clear hy225
     have H' := As_ H
     clear H
     obtain ⟨Ao18,co18,eo18⟩ := Kd.R_slice HO_6.out
     subst eo18
     have p224 : 0 ≤ ((ji12) : Int) := odT zA_
     have q224 : (ji12) < (x6_2.length : Int) := odT zA_
     obtain ⟨ad224,e224,hx224_0,hx224_1⟩ := at_T75 (Kd.R_reads' HO_6.out).2.2 (ji12) p224 q224
     cases e224
     replace p224 := eq_true p224
     replace q224 := eq_true q224
     have q19 : ((ji12) : Int) ≤ ((x6_2.length : Int) : Int) := odT zA_
     obtain ⟨i019,hi019,_,hsz19,_⟩ := info_parts info75
     have hcut19 := cut_to (P := Try.prog) 23 75 .i64 Try.underlying23 hi019 (some ad224) x6_2.length co18 (ji12) (odT zA_) q19 (Kd.R_reads' HO_6.out).2.1
     have hr19 := Kd.R_take (m := ((ji12) : Int).toNat) HO_6.out (by omega)
     have hy19 : y225.length = ((ji12) : Int).toNat := (by rw [Ny225.out,List.length_take];omega)
     rw [← Ny225.out] at hr19
     rw [← hy19] at hr19 hcut19
     clear hy19 hi019 hsz19 HO_6
     have HO227 := As_ hr19
     clear hr19
     replace q19 := eq_true q19
     go_wp2
     go_roundg k2
     case measure => have := HJ2.out;have := HK2.out;omega
     case rel => exact ⟨(y225),H',⟨by have := HJ2.out;have := HK2.out;omega⟩,⟨by (with_reducible repeat (first|apply Kd.R_alloc|apply Kd.R_drewN|apply Kd.R_drew));exact HO227.out⟩,⟨zb0 HB.out⟩⟩
/-! ### impl_RecoverStream: function 14 -/
def impl_RecoverStream.f (k : Nat) (l0 : List Int) : Option ((List (S75))) := (impl_recovered.f k l0).bind fun bt228 => (if bt228.2 = true then (some bt228.1) else (some ([] : List (S75))))
set_option maxRecDepth 100000 in
theorem impl_RecoverStream.mono : ∀ a0 k,LeO (impl_RecoverStream.f k a0) (impl_RecoverStream.f (k + 1) a0) := by
 intro a0 k
 unfold impl_RecoverStream.f
 repeat' first
   | (with_reducible exact impl_recovered.mono _ _)
   | (with_reducible exact LeO.refl _)
   | (with_reducible exact LeO.none _)
   | (with_reducible refine LeO.ite ?_ ?_)
   | (with_reducible refine LeO.bind ?_ (fun _ => ?_))
   | exact impl_recovered.mono _ _
   | exact LeO.none _
   | refine LeO.ite ?_ ?_
   | refine LeO.bind ?_ (fun _ => ?_)
set_option maxHeartbeats 8000000 in
set_option maxRecDepth 100000 in
theorem impl_RecoverStream.calls (k : Nat) (A0 : Option Addr) (c0 : Nat) (l0 : List Int) (r : List (S75)) (w : World) (hr0 : Kd.C (Kd.int .i64) w A0 l0.length l0) (hc0 : l0.length ≤ c0) (h : impl_RecoverStream.f k l0 = some r) :
  Calls Try.prog 14 #[.slice A0 l0.length c0] w fun e w' => ∃ (A_ : Option Addr) (c_ : Nat),e = .returned (.slice A_ r.length r.length) ∧ Kd.R k75 75 w' w.heap.size (fun _ => True) (.slice A_ r.length c_) r ∧ Below w.heap.size w w' := by
 have HR0 := As_ hr0
 have HC0 := As_ hc0
 clear hr0 hc0
 have HB := As_ (Below.refl w.heap.size w)
 have H : ((impl_recovered.f k l0).bind fun bt228 => (if bt228.2 = true then (some bt228.1) else (some ([] : List (S75))))) = some r := h
 clear h
 replace H := obS H
 obtain ⟨⟨t228,t229⟩,A20,H⟩ := H
 replace H : (if t229 = true then (some t228) else (some ([] : List (S75)))) = some r := H
 have A2 := As_ A20
 clear A20
 by_cases c3 : t229 = true
 ·subst c3
  have H1 : (some t228) = some r := by rw [if_pos rfl] at H;exact H
  clear H
  have H := H1
  clear H1
  obtain rfl := Option.some.inj H
  go_enter Try.func14,Try.ntmps14
  go_wp2_with (first|((with_reducible refine gate_callee (f := 53) rfl ?_);refine goesL_ (some 7) rfl rfl Try.func53 (by kernel_rfl) rfl #[.slice A0 l0.length c0] rfl zM_ ?_;(with_reducible refine (impl_recovered.calls k _ _ l0 t228 true _ ?side1 ?side2 A2.out).mono ?_);(case side1 => repeat (first|exact HR0.out|(with_reducible refine Kd.C_alloc ?_ _)|(with_reducible refine Kd.C_drewN ?_ _)|(with_reducible refine Kd.C_drew ?_)));(case side2 => exact HC0.out);rintro e w4 ⟨Av_,cv_,rfl,ho0,hb⟩;refine ⟨_,rfl,?_⟩;have n0_ := As_ (Kd.R_lower ho0 (bwZ (zb0 HB.out)));have n1_ := As_ (bwT (zb0 HB.out) hb);clear HB;revert n0_ n1_;intro HO231 HB))
  go_ret
  exact ⟨Av_,zE_,⟨cv_,by (with_reducible repeat (first|apply Kd.R_alloc|apply Kd.R_drewN|apply Kd.R_drew));exact HO231.out⟩,zb0 HB.out⟩
 replace c3 := Bool.eq_false_iff.mpr c3
 subst c3
 have H1 : (some ([] : List (S75))) = some r := by rw [if_neg (show ¬ (false = true) by decide)] at H;exact H
 clear H
 have H := H1
 clear H1
 obtain rfl := Option.some.inj H
 go_enter Try.func14,Try.ntmps14
 go_wp2_with (first|((with_reducible refine gate_callee (f := 53) rfl ?_);refine goesL_ (some 7) rfl rfl Try.func53 (by kernel_rfl) rfl #[.slice A0 l0.length c0] rfl zM_ ?_;(with_reducible refine (impl_recovered.calls k _ _ l0 t228 false _ ?side1 ?side2 A2.out).mono ?_);(case side1 => repeat (first|exact HR0.out|(with_reducible refine Kd.C_alloc ?_ _)|(with_reducible refine Kd.C_drewN ?_ _)|(with_reducible refine Kd.C_drew ?_)));(case side2 => exact HC0.out);rintro e w5 ⟨Av_,cv_,rfl,ho0,hb⟩;refine ⟨_,rfl,?_⟩;have n0_ := As_ (Kd.R_lower ho0 (bwZ (zb0 HB.out)));have n1_ := As_ (bwT (zb0 HB.out) hb);clear HB;revert n0_ n1_;intro HO231 HB))
 go_ret
 exact ⟨none,zE_,⟨0,by first|exact Kd.R_nil _ _ _ _ _|exact Kd.N_nil _ _ _ _ _|exact Kd.V_nil _ _ _ _ _|exact Kd.Q_nil _ _ _ _ _|exact Kd.S_nil _ _ _ _ _⟩,zb0 HB.out⟩

end Go.Proofs.Ytbokjhdhpmmpfaa.Q
