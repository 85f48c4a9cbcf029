-- Written by wip/tools/qprint.py (a program of this claim's author) by means of the kit's printer.
import Derived.Test.YtbokjhdhpmmpfaaQ0
import Derived.Test.YtbokjhdhpmmpfaaQ99
namespace Go.Proofs.Ytbokjhdhpmmpfaa.Q
open Go.RowKit Go.Proofs.YtbokjhdhpmmpfaaW.PrintWords Go.Proofs.YtbokjhdhpmmpfaaW.PrintLast Go.Proofs.YtbokjhdhpmmpfaaW.PrintMore
attribute [local go_sem] max2_int min2_int max_two min_two max_three min_three max_four min_four   -- for this text's walks alone
set_option linter.unusedVariables false
set_option linter.unusedSimpArgs false

/-! ### impl_ValidRules: function 33 -/
def impl_ValidRules.l0 : Nat → List Int → Int → Int → Int → Int → Int → List Int → Option (Bool)
 | 0,_,_,_,_,_,_,_ => none
 | k + 1,x6,x7,x8,x550000,x550001,x550002,x550003 => if x8 < x7 then (if 0 ≤ x8 then (if x8 < (x6.length : Int) then (if (rd x6 x8) < 0 then (some false) else (if (rd x6 x8) > 9 then (some false) else (if x8 ≤ (x550003.length : Int) then ((slices_Contains_int_int.f k (x550003.take (x8 : Int).toNat) (rd x6 x8)).bind fun t552 => (if t552 = true then (some false) else (impl_ValidRules.l0 k x6 x7 (wrap64 (x8 + 1)) x550000 x550001 x550002 x550003))) else (none)))) else (none)) else (none)) else (if x550000 ≥ 0 then (if x550000 ≤ 300 then (if x550001 ≥ 0 then (if x550001 ≤ 300 then (if x550002 ≥ 0 then (some (decide (x550002 ≤ 300))) else (some false)) else (some false)) else (some false)) else (some false)) else (some false))
def impl_ValidRules.f (k : Nat) (a0_0 : Int) (a0_1 : Int) (a0_2 : Int) (l0_3 : List Int) : Option (Bool) := impl_ValidRules.l0 k l0_3 (l0_3.length : Int) 0 a0_0 a0_1 a0_2 l0_3
set_option maxRecDepth 100000 in
theorem impl_ValidRules.mono_l : ∀ k,(∀ y0 y1 y2 y3 y4 y5 y6,LeO (impl_ValidRules.l0 k y0 y1 y2 y3 y4 y5 y6) (impl_ValidRules.l0 (k + 1) y0 y1 y2 y3 y4 y5 y6))
 | 0 => fun _ _ _ _ _ _ _ r h => (by cases h)
 | k + 1 => by
  have ih0 := impl_ValidRules.mono_l k
  ·intro y0 y1 y2 y3 y4 y5 y6
   unfold impl_ValidRules.l0
   repeat' first
   | (with_reducible exact ih0 _ _ _ _ _ _ _)
   | (with_reducible exact slices_Contains_int_int.mono _ _ _)
   | (with_reducible exact LeO.refl _)
   | (with_reducible exact LeO.none _)
   | (with_reducible refine LeO.ite ?_ ?_)
   | (with_reducible refine LeO.bind ?_ (fun _ => ?_))
   | exact ih0 _ _ _ _ _ _ _
   | exact slices_Contains_int_int.mono _ _ _
   | exact LeO.none _
   | refine LeO.ite ?_ ?_
   | refine LeO.bind ?_ (fun _ => ?_)
set_option maxRecDepth 100000 in
theorem impl_ValidRules.mono : ∀ a0 a1 a2 a3 k,LeO (impl_ValidRules.f k a0 a1 a2 a3) (impl_ValidRules.f (k + 1) a0 a1 a2 a3) := by
 intro a0 a1 a2 a3 k
 have ih0 := impl_ValidRules.mono_l k
 unfold impl_ValidRules.f
 repeat' first
   | (with_reducible exact ih0 _ _ _ _ _ _ _)
   | (with_reducible exact slices_Contains_int_int.mono _ _ _)
   | (with_reducible exact LeO.refl _)
   | (with_reducible exact LeO.none _)
   | (with_reducible refine LeO.ite ?_ ?_)
   | (with_reducible refine LeO.bind ?_ (fun _ => ?_))
   | exact ih0 _ _ _ _ _ _ _
   | exact slices_Contains_int_int.mono _ _ _
   | exact LeO.none _
   | refine LeO.ite ?_ ?_
   | refine LeO.bind ?_ (fun _ => ?_)
set_option maxHeartbeats 8000000 in
set_option maxRecDepth 100000 in
theorem impl_ValidRules.calls (k : Nat) (a0_0 : Int) (a0_1 : Int) (a0_2 : Int) (A0_3 : Option Addr) (c0_3 : Nat) (l0_3 : List Int) (r : Bool) (w : World) (hr0_3 : Kd.C (Kd.int .i64) w A0_3 l0_3.length l0_3) (hc0_3 : l0_3.length ≤ c0_3) (h : impl_ValidRules.f k a0_0 a0_1 a0_2 l0_3 = some r) :
  Calls Try.prog 33 #[.agg #[.int .i64 a0_0,.int .i64 a0_1,.int .i64 a0_2,.slice A0_3 l0_3.length c0_3]] w fun e w' => e = .returned (.bool r) ∧ Below w.heap.size w w' := by
 have hu47 := Try.underlying47
 have HR0_3 := As_ hr0_3
 have HC0_3 := As_ hc0_3
 clear hr0_3 hc0_3
 have HB := As_ (Below.refl w.heap.size w)
 have H : (impl_ValidRules.l0 k l0_3 (l0_3.length : Int) 0 a0_0 a0_1 a0_2 l0_3) = some r := h
 clear h
 have H' := As_ H
 clear H
 go_enter Try.func33,Try.ntmps33
 go_wp2_with (first|((with_reducible refine gate_dst (N := 1) rfl ?_);refine box_event ?hg (N := 1) ?hd (cs := #[.int .i64 a0_0,.int .i64 a0_1,.int .i64 a0_2,.slice A0_3 l0_3.length c0_3]) (t := 47) ?hr ?_;(case hd => rfl);(case hg => rfl);(case hr => go_simp <;> rfl);intro gb549 hg w2 hbox hb;have n0_ := As_ (bwT (zb0 HB.out) hb);have n1_ := As_ (hbox);have n2_ := As_ ((by rw [hg];exact (bwZ (zb0 HB.out)) : w.heap.size ≤ gb549));have n3_ := As_ ((by rw [hg];exact (bwZ (zb0 HB.out)) : w.heap.size ≤ gb549));clear HB;revert n0_ n1_ n2_ n3_;intro HB BK549 GW549 GE549;clear hb hbox hg;have hcz3_0 : w2.cell? ⟨gb549,0,none⟩ = some (.int .i64 a0_0) := (bkC BK549.out 0).trans rfl;have hcz3_1 : w2.cell? ⟨gb549,1,none⟩ = some (.int .i64 a0_1) := (bkC BK549.out 1).trans rfl;have hcz3_2 : w2.cell? ⟨gb549,2,none⟩ = some (.int .i64 a0_2) := (bkC BK549.out 2).trans rfl;have hcz3_3 : w2.cell? ⟨gb549,3,none⟩ = some (.slice A0_3 l0_3.length c0_3) := (bkC BK549.out 3).trans rfl;have hfz3_0 := bkF BK549.out 0;have hfz3_1 := bkF BK549.out 1;have hfz3_2 := bkF BK549.out 2;have hfz3_3 := bkF BK549.out 3))
 go_loopg [8] k (fun kq v8 w' => ∃ (x8_1 : Int),v8 = .int .i64 x8_1 ∧ Aside0 (impl_ValidRules.l0 kq l0_3 (l0_3.length : Int) x8_1 a0_0 a0_1 a0_2 l0_3 = some r) ∧ Aside0 (kq ≤ k) ∧ Aside0 (w'.heap[gb549]? = some (.cells #[.int .i64 a0_0,.int .i64 a0_1,.int .i64 a0_2,(.slice A0_3 l0_3.length c0_3)] 47 (0,0))) ∧ Aside0 (Below w.heap.size w w'))
 case atStart => exact ⟨(0),zT_,H',⟨Nat.le_refl _⟩,⟨by (with_reducible repeat first|apply bkN|apply bkD|apply bkA);exact BK549.out⟩,⟨zb1 HB.out GE549.out⟩⟩
 case round =>
  clear H'
  obtain ⟨x8_1,rfl,HA,HK1,BK549,HB⟩ := hrel
  cases gk with
  | zero => exact absurd HA.out (fun h_ => (by cases h_))
  | succ k1 =>
   have H := HA.out
   clear HA
   simp only [impl_ValidRules.l0] at H
   by_cases c4 : x8_1 < (l0_3.length : Int)
   rotate_left
   ·rw [if_neg c4] at H
    have c4b0 : decide (x8_1 < (l0_3.length : Int)) = false := deF c4
    clear c4
    by_cases c17 : a0_0 ≥ 0
    rotate_left
    ·rw [if_neg c17] at H
     have c17b0 : decide (0 ≤ a0_0) = false := deF c17
     clear c17
     obtain rfl := Option.some.inj H
     have hcz27_0 : wr.cell? ⟨gb549,0,none⟩ = some (.int .i64 a0_0) := (bkC BK549.out 0).trans rfl
     have hcz27_1 : wr.cell? ⟨gb549,1,none⟩ = some (.int .i64 a0_1) := (bkC BK549.out 1).trans rfl
     have hcz27_2 : wr.cell? ⟨gb549,2,none⟩ = some (.int .i64 a0_2) := (bkC BK549.out 2).trans rfl
     have hcz27_3 : wr.cell? ⟨gb549,3,none⟩ = some (.slice A0_3 l0_3.length c0_3) := (bkC BK549.out 3).trans rfl
     have hfz27_0 := bkF BK549.out 0
     have hfz27_1 := bkF BK549.out 1
     have hfz27_2 := bkF BK549.out 2
     have hfz27_3 := bkF BK549.out 3
     go_wp2
     go_ret
     exact ⟨zE_,zb1 HB.out GE549.out⟩

    rw [if_pos c17] at H
    have c17b0 : decide (0 ≤ a0_0) = true := deT c17
    clear c17
    by_cases c18 : a0_0 ≤ 300
    rotate_left
    ·rw [if_neg c18] at H
     have c18b0 : decide (a0_0 ≤ 300) = false := deF c18
     clear c18
     obtain rfl := Option.some.inj H
     have hcz26_0 : wr.cell? ⟨gb549,0,none⟩ = some (.int .i64 a0_0) := (bkC BK549.out 0).trans rfl
     have hcz26_1 : wr.cell? ⟨gb549,1,none⟩ = some (.int .i64 a0_1) := (bkC BK549.out 1).trans rfl
     have hcz26_2 : wr.cell? ⟨gb549,2,none⟩ = some (.int .i64 a0_2) := (bkC BK549.out 2).trans rfl
     have hcz26_3 : wr.cell? ⟨gb549,3,none⟩ = some (.slice A0_3 l0_3.length c0_3) := (bkC BK549.out 3).trans rfl
     have hfz26_0 := bkF BK549.out 0
     have hfz26_1 := bkF BK549.out 1
     have hfz26_2 := bkF BK549.out 2
     have hfz26_3 := bkF BK549.out 3
     go_wp2
     go_ret
     exact ⟨zE_,zb1 HB.out GE549.out⟩
    rw [if_pos c18] at H
    have c18b0 : decide (a0_0 ≤ 300) = true := deT c18
    clear c18
    by_cases c19 : a0_1 ≥ 0
    rotate_left
    ·rw [if_neg c19] at H
     have c19b0 : decide (0 ≤ a0_1) = false := deF c19
     clear c19
     obtain rfl := Option.some.inj H
     have hcz25_0 : wr.cell? ⟨gb549,0,none⟩ = some (.int .i64 a0_0) := (bkC BK549.out 0).trans rfl
     have hcz25_1 : wr.cell? ⟨gb549,1,none⟩ = some (.int .i64 a0_1) := (bkC BK549.out 1).trans rfl
     have hcz25_2 : wr.cell? ⟨gb549,2,none⟩ = some (.int .i64 a0_2) := (bkC BK549.out 2).trans rfl
     have hcz25_3 : wr.cell? ⟨gb549,3,none⟩ = some (.slice A0_3 l0_3.length c0_3) := (bkC BK549.out 3).trans rfl
     have hfz25_0 := bkF BK549.out 0
     have hfz25_1 := bkF BK549.out 1
     have hfz25_2 := bkF BK549.out 2
     have hfz25_3 := bkF BK549.out 3
     go_wp2
     go_ret
     exact ⟨zE_,zb1 HB.out GE549.out⟩
    rw [if_pos c19] at H
    have c19b0 : decide (0 ≤ a0_1) = true := deT c19
    clear c19
    by_cases c20 : a0_1 ≤ 300
    rotate_left
    ·rw [if_neg c20] at H
     have c20b0 : decide (a0_1 ≤ 300) = false := deF c20
     clear c20
     obtain rfl := Option.some.inj H
     have hcz24_0 : wr.cell? ⟨gb549,0,none⟩ = some (.int .i64 a0_0) := (bkC BK549.out 0).trans rfl
     have hcz24_1 : wr.cell? ⟨gb549,1,none⟩ = some (.int .i64 a0_1) := (bkC BK549.out 1).trans rfl
     have hcz24_2 : wr.cell? ⟨gb549,2,none⟩ = some (.int .i64 a0_2) := (bkC BK549.out 2).trans rfl
     have hcz24_3 : wr.cell? ⟨gb549,3,none⟩ = some (.slice A0_3 l0_3.length c0_3) := (bkC BK549.out 3).trans rfl
     have hfz24_0 := bkF BK549.out 0
     have hfz24_1 := bkF BK549.out 1
     have hfz24_2 := bkF BK549.out 2
     have hfz24_3 := bkF BK549.out 3
     go_wp2
     go_ret
     exact ⟨zE_,zb1 HB.out GE549.out⟩
    rw [if_pos c20] at H
    have c20b0 : decide (a0_1 ≤ 300) = true := deT c20
    clear c20
    by_cases c21 : a0_2 ≥ 0
    ·rw [if_pos c21] at H
     have c21b0 : decide (0 ≤ a0_2) = true := deT c21
     clear c21
     obtain rfl := Option.some.inj H
     have hcz22_0 : wr.cell? ⟨gb549,0,none⟩ = some (.int .i64 a0_0) := (bkC BK549.out 0).trans rfl
     have hcz22_1 : wr.cell? ⟨gb549,1,none⟩ = some (.int .i64 a0_1) := (bkC BK549.out 1).trans rfl
     have hcz22_2 : wr.cell? ⟨gb549,2,none⟩ = some (.int .i64 a0_2) := (bkC BK549.out 2).trans rfl
     have hcz22_3 : wr.cell? ⟨gb549,3,none⟩ = some (.slice A0_3 l0_3.length c0_3) := (bkC BK549.out 3).trans rfl
     have hfz22_0 := bkF BK549.out 0
     have hfz22_1 := bkF BK549.out 1
     have hfz22_2 := bkF BK549.out 2
     have hfz22_3 := bkF BK549.out 3
     go_wp2
     go_ret
     exact ⟨zE_,zb1 HB.out GE549.out⟩
    rw [if_neg c21] at H
    have c21b0 : decide (0 ≤ a0_2) = false := deF c21
    clear c21
    obtain rfl := Option.some.inj H
    have hcz23_0 : wr.cell? ⟨gb549,0,none⟩ = some (.int .i64 a0_0) := (bkC BK549.out 0).trans rfl
    have hcz23_1 : wr.cell? ⟨gb549,1,none⟩ = some (.int .i64 a0_1) := (bkC BK549.out 1).trans rfl
    have hcz23_2 : wr.cell? ⟨gb549,2,none⟩ = some (.int .i64 a0_2) := (bkC BK549.out 2).trans rfl
    have hcz23_3 : wr.cell? ⟨gb549,3,none⟩ = some (.slice A0_3 l0_3.length c0_3) := (bkC BK549.out 3).trans rfl
    have hfz23_0 := bkF BK549.out 0
    have hfz23_1 := bkF BK549.out 1
    have hfz23_2 := bkF BK549.out 2
    have hfz23_3 := bkF BK549.out 3
    go_wp2
    go_ret
    exact ⟨zE_,zb1 HB.out GE549.out⟩
   rw [if_pos c4] at H
   have c4b0 : decide (x8_1 < (l0_3.length : Int)) = true := deT c4
   clear c4
   by_cases c5 : 0 ≤ x8_1
   rotate_left
   ·rw [if_neg c5] at H
    exact absurd H (by simp)
   rw [if_pos c5] at H
   have c5b0 : decide (0 ≤ x8_1) = true := deT c5
   clear c5
   by_cases c6 : x8_1 < (l0_3.length : Int)
   rotate_left
   ·rw [if_neg c6] at H
    exact absurd H (by simp)
   rw [if_pos c6] at H
   have c6b0 : decide (x8_1 < (l0_3.length : Int)) = true := deT c6
   clear c6
   by_cases c7 : (rd l0_3 x8_1) < 0
   ·rw [if_pos c7] at H
    have c7b0 : decide ((rd l0_3 x8_1) < 0) = true := deT c7
    clear c7
    obtain rfl := Option.some.inj H
    have p550 : 0 ≤ (x8_1 : Int) := odT zA_
    have q550 : x8_1 < (l0_3.length : Int) := odT zA_
    obtain ⟨ad550,e550,hx550_0⟩ := Kd.at_int HR0_3.out x8_1 p550 q550
    cases e550
    replace hx550_0 := bwC HB.out hx550_0
    replace p550 := eq_true p550
    replace q550 := eq_true q550
    go_wp2
    go_ret
    exact ⟨zE_,zb1 HB.out GE549.out⟩
   rw [if_neg c7] at H
   have c7b0 : decide ((rd l0_3 x8_1) < 0) = false := deF c7
   clear c7
   by_cases c8 : (rd l0_3 x8_1) > 9
   ·rw [if_pos c8] at H
    have c8b0 : decide (9 < (rd l0_3 x8_1)) = true := deT c8
    clear c8
    obtain rfl := Option.some.inj H
    have p550 : 0 ≤ (x8_1 : Int) := odT zA_
    have q550 : x8_1 < (l0_3.length : Int) := odT zA_
    obtain ⟨ad550,e550,hx550_0⟩ := Kd.at_int HR0_3.out x8_1 p550 q550
    cases e550
    replace hx550_0 := bwC HB.out hx550_0
    replace p550 := eq_true p550
    replace q550 := eq_true q550
    go_wp2
    go_ret
    exact ⟨zE_,zb1 HB.out GE549.out⟩
   rw [if_neg c8] at H
   have c8b0 : decide (9 < (rd l0_3 x8_1)) = false := deF c8
   clear c8
   have c9b0 := eq_true (odT zA_ : 0 ≤ x8_1)
   by_cases c10 : x8_1 ≤ (l0_3.length : Int)
   rotate_left
   ·rw [if_neg c10] at H
    exact absurd H (by simp)
   rw [if_pos c10] at H
   have c10b0 := eq_true c10
   have c10b1 : decide (x8_1 ≤ (l0_3.length : Int)) = true := deT c10
   clear c10
   replace H := obS H
   obtain ⟨t552,A110,H⟩ := H
   replace H : (if t552 = true then (some false) else (impl_ValidRules.l0 k1 l0_3 (l0_3.length : Int) (wrap64 (x8_1 + 1)) a0_0 a0_1 a0_2 l0_3)) = some r := H
   have A11 := As_ A110
   clear A110
   by_cases c12 : t552 = true
   ·subst c12
    have H1 : (some false) = some r := by rw [if_pos rfl] at H;exact H
    clear H
    have H := H1
    clear H1
    obtain rfl := Option.some.inj H
    have p550 : 0 ≤ (x8_1 : Int) := odT zA_
    have q550 : x8_1 < (l0_3.length : Int) := odT zA_
    obtain ⟨ad550,e550,hx550_0⟩ := Kd.at_int HR0_3.out x8_1 p550 q550
    cases e550
    replace hx550_0 := bwC HB.out hx550_0
    replace p550 := eq_true p550
    replace q550 := eq_true q550
    have hcz13_0 : wr.cell? ⟨gb549,0,none⟩ = some (.int .i64 a0_0) := (bkC BK549.out 0).trans rfl
    have hcz13_1 : wr.cell? ⟨gb549,1,none⟩ = some (.int .i64 a0_1) := (bkC BK549.out 1).trans rfl
    have hcz13_2 : wr.cell? ⟨gb549,2,none⟩ = some (.int .i64 a0_2) := (bkC BK549.out 2).trans rfl
    have hcz13_3 : wr.cell? ⟨gb549,3,none⟩ = some (.slice (some ad550) l0_3.length c0_3) := (bkC BK549.out 3).trans rfl
    have hfz13_0 := bkF BK549.out 0
    have hfz13_1 := bkF BK549.out 1
    have hfz13_2 := bkF BK549.out 2
    have hfz13_3 := bkF BK549.out 3
    obtain ⟨i014,hi014,_,hsz14,_⟩ := info_parts info3
    obtain ⟨hcut14,hA14,hC14⟩ := print_take_of (P := Try.prog) (Value.int .i64) 0 22 3 .i64 Try.underlying22 hi014 hsz14 (some ad550) c0_3 l0_3 x8_1 (odT zA_) (odT zA_) HC0_3.out
    have HR551 := As_ (Kd.C_of_reads (h1 := fun _ => rfl) (hA14 _ (Kd.reads_of_C HR0_3.out)))
    have HC551 := As_ hC14
    clear hA14 hC14 hi014 hsz14
    go_wp2_with (first|(go_at_call 70;(try rw [show x8_1.toNat = (List.take (x8_1 : Int).toNat l0_3).length from (by rw [List.length_take];symm;apply Nat.min_eq_left;have q_ : x8_1 < (l0_3.length : Int) := odT (by assumption);omega)]);(with_reducible refine (slices_Contains_int_int.calls k1 _ _ (l0_3.take (x8_1 : Int).toNat) (rd l0_3 x8_1) true _ ?side1 ?side2 A11.out).mono ?_);(case side1 => exact zC_ (Kd.C_below HR551.out HB.out));(case side2 => exact HC551.out);rintro e w' ⟨rfl,⟨nd,rfl⟩⟩))
    go_ret
    exact ⟨zE_,zb1 HB.out GE549.out⟩
   replace c12 := Bool.eq_false_iff.mpr c12
   subst c12
   have H1 : (impl_ValidRules.l0 k1 l0_3 (l0_3.length : Int) (wrap64 (x8_1 + 1)) a0_0 a0_1 a0_2 l0_3) = some r := by rw [if_neg (show ¬ (false = true) by decide)] at H;exact H
   clear H
   have H := H1
   clear H1
   have H' := As_ H
   clear H
   have p550 : 0 ≤ (x8_1 : Int) := odT zA_
   have q550 : x8_1 < (l0_3.length : Int) := odT zA_
   obtain ⟨ad550,e550,hx550_0⟩ := Kd.at_int HR0_3.out x8_1 p550 q550
   cases e550
   replace hx550_0 := bwC HB.out hx550_0
   replace p550 := eq_true p550
   replace q550 := eq_true q550
   have hcz15_0 : wr.cell? ⟨gb549,0,none⟩ = some (.int .i64 a0_0) := (bkC BK549.out 0).trans rfl
   have hcz15_1 : wr.cell? ⟨gb549,1,none⟩ = some (.int .i64 a0_1) := (bkC BK549.out 1).trans rfl
   have hcz15_2 : wr.cell? ⟨gb549,2,none⟩ = some (.int .i64 a0_2) := (bkC BK549.out 2).trans rfl
   have hcz15_3 : wr.cell? ⟨gb549,3,none⟩ = some (.slice (some ad550) l0_3.length c0_3) := (bkC BK549.out 3).trans rfl
   have hfz15_0 := bkF BK549.out 0
   have hfz15_1 := bkF BK549.out 1
   have hfz15_2 := bkF BK549.out 2
   have hfz15_3 := bkF BK549.out 3
   obtain ⟨i016,hi016,_,hsz16,_⟩ := info_parts info3
   obtain ⟨hcut16,hA16,hC16⟩ := print_take_of (P := Try.prog) (Value.int .i64) 0 22 3 .i64 Try.underlying22 hi016 hsz16 (some ad550) c0_3 l0_3 x8_1 (odT zA_) (odT zA_) HC0_3.out
   have HR551 := As_ (Kd.C_of_reads (h1 := fun _ => rfl) (hA16 _ (Kd.reads_of_C HR0_3.out)))
   have HC551 := As_ hC16
   clear hA16 hC16 hi016 hsz16
   go_wp2_with (first|(go_at_call 70;(try rw [show x8_1.toNat = (List.take (x8_1 : Int).toNat l0_3).length from (by rw [List.length_take];symm;apply Nat.min_eq_left;have q_ : x8_1 < (l0_3.length : Int) := odT (by assumption);omega)]);(with_reducible refine (slices_Contains_int_int.calls k1 _ _ (l0_3.take (x8_1 : Int).toNat) (rd l0_3 x8_1) false _ ?side1 ?side2 A11.out).mono ?_);(case side1 => exact zC_ (Kd.C_below HR551.out HB.out));(case side2 => exact HC551.out);rintro e w' ⟨rfl,⟨nd,rfl⟩⟩))
   go_roundg k1
   case measure => have := HK1.out;omega
   case rel => exact ⟨(wrap64 (x8_1 + 1)),zT_,H',⟨by have := HK1.out;omega⟩,⟨by (with_reducible repeat first|apply bkN|apply bkD|apply bkA);exact BK549.out⟩,⟨zb1 HB.out GE549.out⟩⟩
end Go.Proofs.Ytbokjhdhpmmpfaa.Q
