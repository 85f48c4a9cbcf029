-- Written by wip/tools/qprint.py (a program of this claim's author) by means of the kit's printer.
import Derived.Test.YtfhakhbmbnbneaaQ0
namespace Go.Proofs.Ytfhakhbmbnbneaa.Q
open Go.RowKit Go.Proofs.YtfhakhbmbnbneaaW.PrintWords Go.Proofs.YtfhakhbmbnbneaaW.PrintLast Go.Proofs.YtfhakhbmbnbneaaW.PrintMore
attribute [local go_sem] max2_int min2_int max_two min_two max_three min_three max_four min_four   -- for this text's walks alone
set_option linter.unusedVariables false
set_option linter.unusedSimpArgs false

/-! ### laws_eqIntS: function 38 -/
def laws_eqIntS.l0 : Nat → List Int → List Int → Int → Option (Bool)
 | 0,_,_,_ => none
 | k + 1,x0,x1,x5 => if x5 < (x0.length : Int) then (if 0 ≤ x5 then (if x5 < (x1.length : Int) then (if (rd x0 x5) = (rd x1 x5) then (laws_eqIntS.l0 k x0 x1 (wrap64 (x5 + 1))) else (some false)) else (none)) else (none)) else (some true)
def laws_eqIntS.f (k : Nat) (l0 : List Int) (l1 : List Int) : Option (Bool) := if (l0.length : Int) = (l1.length : Int) then (laws_eqIntS.l0 k l0 l1 0) else (some false)
set_option maxRecDepth 100000 in
theorem laws_eqIntS.mono_l : ∀ k,(∀ y0 y1 y2,LeO (laws_eqIntS.l0 k y0 y1 y2) (laws_eqIntS.l0 (k + 1) y0 y1 y2))
 | 0 => fun _ _ _ r h => (by cases h)
 | k + 1 => by
  have ih0 := laws_eqIntS.mono_l k
  ·intro y0 y1 y2
   unfold laws_eqIntS.l0
   repeat' first
   | (with_reducible exact ih0 _ _ _)
   | (with_reducible exact LeO.refl _)
   | (with_reducible exact LeO.none _)
   | (with_reducible refine LeO.ite ?_ ?_)
   | (with_reducible refine LeO.bind ?_ (fun _ => ?_))
   | exact ih0 _ _ _
   | exact LeO.none _
   | refine LeO.ite ?_ ?_
   | refine LeO.bind ?_ (fun _ => ?_)
set_option maxRecDepth 100000 in
theorem laws_eqIntS.mono : ∀ a0 a1 k,LeO (laws_eqIntS.f k a0 a1) (laws_eqIntS.f (k + 1) a0 a1) := by
 intro a0 a1 k
 have ih0 := laws_eqIntS.mono_l k
 unfold laws_eqIntS.f
 repeat' first
   | (with_reducible exact ih0 _ _ _)
   | (with_reducible exact LeO.refl _)
   | (with_reducible exact LeO.none _)
   | (with_reducible refine LeO.ite ?_ ?_)
   | (with_reducible refine LeO.bind ?_ (fun _ => ?_))
   | exact ih0 _ _ _
   | exact LeO.none _
   | refine LeO.ite ?_ ?_
   | refine LeO.bind ?_ (fun _ => ?_)
set_option maxHeartbeats 8000000 in
set_option maxRecDepth 100000 in
theorem laws_eqIntS.calls (k : Nat) (A0 : Option Addr) (c0 : Nat) (l0 : List Int) (A1 : Option Addr) (c1 : Nat) (l1 : List Int) (r : Bool) (w : World) (hr0 : Kd.C (Kd.int .i64) w A0 l0.length l0) (hc0 : l0.length ≤ c0) (hr1 : Kd.C (Kd.int .i64) w A1 l1.length l1) (hc1 : l1.length ≤ c1) (h : laws_eqIntS.f k l0 l1 = some r) :
  Calls Try.prog 38 #[.slice A0 l0.length c0,.slice A1 l1.length c1] w fun e w' => e = .returned (.bool r) ∧ Drawn0 w w' := by
 have HR0 := As_ hr0
 have HC0 := As_ hc0
 clear hr0 hc0
 have HR1 := As_ hr1
 have HC1 := As_ hc1
 clear hr1 hc1
 have H : (if (l0.length : Int) = (l1.length : Int) then (laws_eqIntS.l0 k l0 l1 0) else (some false)) = some r := h
 clear h
 by_cases c3 : (l0.length : Int) = (l1.length : Int)
 rotate_left
 ·rw [if_neg c3] at H
  have c3b0 : ((l0.length : Int) == (l1.length : Int)) = false := beq_eq_false_iff_ne.mpr c3
  have c3b1 : ((l0.length : Int) != (l1.length : Int)) = true := bne_iff_ne.mpr c3
  have c3b2 : (l0.length == l1.length) = false := by first|simpa using c3|(simp at c3 ⊢;omega)
  obtain rfl := Option.some.inj H
  go_enter Try.func38,Try.ntmps38
  go_wp2
  repeat (go_quiet (fail);try go_wp2)
  go_ret
  exact ⟨by first|rfl|(simp;done)|(simp [*];done),by repeat (first|exact Drawn0.refl _|apply Drawn0.step)⟩

 rw [if_pos c3] at H
 have c3b0 : ((l0.length : Int) == (l1.length : Int)) = true := beq_iff_eq.mpr c3
 have c3b1 : ((l0.length : Int) != (l1.length : Int)) = false := bne_eq_false_iff_eq.mpr c3
 have c3b2 : (l0.length == l1.length) = true := by first|simpa using c3|(simp at c3 ⊢;omega)
 clear c3
 have H' := As_ H
 clear H
 go_enter Try.func38,Try.ntmps38
 go_wp2
 repeat (go_quiet (fail);try go_wp2)
 go_loopg [5] k (fun kq v5 w' => ∃ (x5_1 : Int),v5 = .int .i64 x5_1 ∧ Aside0 (laws_eqIntS.l0 kq l0 l1 x5_1 = some r) ∧ Aside0 (kq ≤ k) ∧ Drawn0 w w')
 case atStart => exact ⟨(0),zT_,H',⟨Nat.le_refl _⟩,by repeat (first|exact Drawn0.refl _|apply Drawn0.step)⟩
 case round =>
  clear H'
  obtain ⟨x5_1,rfl,HA,HK1,⟨m1,rfl⟩⟩ := hrel
  cases gk with
  | zero => exact absurd HA.out (fun h_ => (by cases h_))
  | succ k1 =>
   have H := HA.out
   clear HA
   simp only [laws_eqIntS.l0] at H
   by_cases c4 : x5_1 < (l0.length : Int)
   rotate_left
   ·rw [if_neg c4] at H
    have c4b0 : decide (x5_1 < (l0.length : Int)) = false := deF c4
    clear c4
    obtain rfl := Option.some.inj H
    go_wp2
    repeat (go_quiet (fail);try go_wp2)
    go_ret
    exact ⟨by first|rfl|(simp;done)|(simp [*];done),by repeat (first|exact Drawn0.refl _|apply Drawn0.step)⟩
   rw [if_pos c4] at H
   have c4b0 : decide (x5_1 < (l0.length : Int)) = true := deT c4
   clear c4
   by_cases c5 : 0 ≤ x5_1
   rotate_left
   ·rw [if_neg c5] at H
    exact absurd H (by simp)
   rw [if_pos c5] at H
   have c5b0 : decide (0 ≤ x5_1) = true := deT c5
   clear c5
   by_cases c6 : x5_1 < (l1.length : Int)
   rotate_left
   ·rw [if_neg c6] at H
    exact absurd H (by simp)
   rw [if_pos c6] at H
   have c6b0 : decide (x5_1 < (l1.length : Int)) = true := deT c6
   clear c6
   by_cases c7 : (rd l0 x5_1) = (rd l1 x5_1)
   rotate_left
   ·rw [if_neg c7] at H
    have c7b0 : ((rd l0 x5_1) == (rd l1 x5_1)) = false := beq_eq_false_iff_ne.mpr c7
    have c7b1 : ((rd l0 x5_1) != (rd l1 x5_1)) = true := bne_iff_ne.mpr c7
    obtain rfl := Option.some.inj H
    have p356 : 0 ≤ (x5_1 : Int) := odT zA_
    have q356 : x5_1 < (l0.length : Int) := odT zA_
    obtain ⟨ad356,e356,hx356_0⟩ := Kd.at_int HR0.out x5_1 p356 q356
    cases e356
    replace p356 := eq_true p356
    replace q356 := eq_true q356
    have p357 : 0 ≤ (x5_1 : Int) := odT zA_
    have q357 : x5_1 < (l1.length : Int) := odT zA_
    obtain ⟨ad357,e357,hx357_0⟩ := Kd.at_int HR1.out x5_1 p357 q357
    cases e357
    replace p357 := eq_true p357
    replace q357 := eq_true q357
    go_wp2
    repeat (go_quiet (fail);try go_wp2)
    go_ret
    exact ⟨by first|rfl|(simp;done)|(simp [*];done),by repeat (first|exact Drawn0.refl _|apply Drawn0.step)⟩
   rw [if_pos c7] at H
   have c7b0 : ((rd l0 x5_1) == (rd l1 x5_1)) = true := beq_iff_eq.mpr c7
   have c7b1 : ((rd l0 x5_1) != (rd l1 x5_1)) = false := bne_eq_false_iff_eq.mpr c7
   clear c7
   have H' := As_ H
   clear H
   have p356 : 0 ≤ (x5_1 : Int) := odT zA_
   have q356 : x5_1 < (l0.length : Int) := odT zA_
   obtain ⟨ad356,e356,hx356_0⟩ := Kd.at_int HR0.out x5_1 p356 q356
   cases e356
   replace p356 := eq_true p356
   replace q356 := eq_true q356
   have p357 : 0 ≤ (x5_1 : Int) := odT zA_
   have q357 : x5_1 < (l1.length : Int) := odT zA_
   obtain ⟨ad357,e357,hx357_0⟩ := Kd.at_int HR1.out x5_1 p357 q357
   cases e357
   replace p357 := eq_true p357
   replace q357 := eq_true q357
   go_wp2
   repeat (go_quiet (fail);try go_wp2)
   go_roundg k1
   case measure => have := HK1.out;omega
   case rel => exact ⟨(wrap64 (x5_1 + 1)),zT_,H',⟨by have := HK1.out;omega⟩,by repeat (first|exact Drawn0.refl _|apply Drawn0.step)⟩
/-! ### laws_eqNode: function 88 -/
def laws_eqNode.f (k : Nat) (a0_0 : Int) (a0_1 : Int) (l0_2 : List Int) (a1_0 : Int) (a1_1 : Int) (l1_2 : List Int) : Option (Bool) := if a0_0 = a1_0 then (if a0_1 = a1_1 then ((laws_eqIntS.f k l0_2 l1_2).bind fun t360 => (if t360 = true then (some true) else (some false))) else (some false)) else (some false)
set_option maxRecDepth 100000 in
theorem laws_eqNode.mono : ∀ a0 a1 a2 a3 a4 a5 k,LeO (laws_eqNode.f k a0 a1 a2 a3 a4 a5) (laws_eqNode.f (k + 1) a0 a1 a2 a3 a4 a5) := by
 intro a0 a1 a2 a3 a4 a5 k
 unfold laws_eqNode.f
 repeat' first
   | (with_reducible exact laws_eqIntS.mono _ _ _)
   | (with_reducible exact LeO.refl _)
   | (with_reducible exact LeO.none _)
   | (with_reducible refine LeO.ite ?_ ?_)
   | (with_reducible refine LeO.bind ?_ (fun _ => ?_))
   | exact laws_eqIntS.mono _ _ _
   | exact LeO.none _
   | refine LeO.ite ?_ ?_
   | refine LeO.bind ?_ (fun _ => ?_)
set_option maxHeartbeats 8000000 in
set_option maxRecDepth 100000 in
theorem laws_eqNode.calls (k : Nat) (a0_0 : Int) (a0_1 : Int) (A0_2 : Option Addr) (c0_2 : Nat) (l0_2 : List Int) (a1_0 : Int) (a1_1 : Int) (A1_2 : Option Addr) (c1_2 : Nat) (l1_2 : List Int) (r : Bool) (w : World) (hr0_2 : Kd.C (Kd.int .i64) w A0_2 l0_2.length l0_2) (hc0_2 : l0_2.length ≤ c0_2) (hr1_2 : Kd.C (Kd.int .i64) w A1_2 l1_2.length l1_2) (hc1_2 : l1_2.length ≤ c1_2) (h : laws_eqNode.f k a0_0 a0_1 l0_2 a1_0 a1_1 l1_2 = some r) :
  Calls Try.prog 88 #[.agg #[.int .i64 a0_0,.int .i64 a0_1,.slice A0_2 l0_2.length c0_2],.agg #[.int .i64 a1_0,.int .i64 a1_1,.slice A1_2 l1_2.length c1_2]] w fun e w' => e = .returned (.bool r) ∧ Below w.heap.size w w' := by
 have hu45 := Try.underlying45
 have HR0_2 := As_ hr0_2
 have HC0_2 := As_ hc0_2
 clear hr0_2 hc0_2
 have HR1_2 := As_ hr1_2
 have HC1_2 := As_ hc1_2
 clear hr1_2 hc1_2
 have HB := As_ (Below.refl w.heap.size w)
 have H : (if a0_0 = a1_0 then (if a0_1 = a1_1 then ((laws_eqIntS.f k l0_2 l1_2).bind fun t360 => (if t360 = true then (some true) else (some false))) else (some false)) else (some false)) = some r := h
 clear h
 by_cases c3 : a0_0 = a1_0
 rotate_left
 ·rw [if_neg c3] at H
  have c3b0 : (a0_0 == a1_0) = false := beq_eq_false_iff_ne.mpr c3
  have c3b1 : (a0_0 != a1_0) = true := bne_iff_ne.mpr c3
  obtain rfl := Option.some.inj H
  go_enter Try.func88,Try.ntmps88
  go_wp2_with (first|((with_reducible refine gate_dst (N := 2) rfl ?_);refine box_event ?hg (N := 2) ?hd (cs := #[.int .i64 a0_0,.int .i64 a0_1,.slice A0_2 l0_2.length c0_2]) (t := 45) ?hr ?_;(case hd => rfl);(case hg => rfl);(case hr => go_simp <;> rfl);intro gb358 hg w22 hbox hb;have n0_ := As_ (bwT (zb0 HB.out) hb);have n1_ := As_ (hbox);have n2_ := As_ ((by rw [hg];exact (bwZ (zb0 HB.out)) : w.heap.size ≤ gb358));have n3_ := As_ ((by rw [hg];exact (bwZ (zb0 HB.out)) : w.heap.size ≤ gb358));clear HB;revert n0_ n1_ n2_ n3_;intro HB BK358 GW358 GE358;clear hb hbox hg)|((with_reducible refine gate_dst (N := 3) rfl ?_);refine box_event ?hg (N := 3) ?hd (cs := #[.int .i64 a1_0,.int .i64 a1_1,.slice A1_2 l1_2.length c1_2]) (t := 45) ?hr ?_;(case hd => rfl);(case hg => rfl);(case hr => go_simp <;> rfl);intro gb359 hg w23 hbox hb;have n0_ := As_ (zkb BK358.out hb);have n1_ := As_ (bwT (zb1 HB.out GE358.out) hb);have n2_ := As_ (hbox);have n3_ := As_ ((by rw [hg];exact (bwZ (zb1 HB.out GE358.out)) : w.heap.size ≤ gb359));have n4_ := As_ ((by rw [hg];exact (bwZ (zb1 HB.out GE358.out)) : w.heap.size ≤ gb359));have n5_ := As_ ((by rw [hg];exact Nat.ne_of_lt (zkl BK358.out) : gb358 ≠ gb359));have n6_ := As_ ((by rw [hg];exact Nat.ne_of_gt (zkl BK358.out) : gb359 ≠ gb358));clear BK358 HB;revert n0_ n1_ n2_ n3_ n4_ n5_ n6_;intro BK358 HB BK359 GW359 GE359 NB358_359 NB359_358;clear hb hbox hg;have hnb24 := NB358_359.out;have hnc24 := NB359_358.out;obtain ⟨hcz25_0,hcz25_1,hcz25_2,hfz25_0,hfz25_1,hfz25_2⟩ := bk3 BK358.out;obtain ⟨hcz26_0,hcz26_1,hcz26_2,hfz26_0,hfz26_1,hfz26_2⟩ := bk3 BK359.out))
  go_ret
  exact ⟨zE_,zb2 HB.out GE358.out GE359.out⟩

 rw [if_pos c3] at H
 have c3b0 : (a0_0 == a1_0) = true := beq_iff_eq.mpr c3
 have c3b1 : (a0_0 != a1_0) = false := bne_eq_false_iff_eq.mpr c3
 clear c3
 by_cases c4 : a0_1 = a1_1
 rotate_left
 ·rw [if_neg c4] at H
  have c4b0 : (a0_1 == a1_1) = false := beq_eq_false_iff_ne.mpr c4
  have c4b1 : (a0_1 != a1_1) = true := bne_iff_ne.mpr c4
  obtain rfl := Option.some.inj H
  go_enter Try.func88,Try.ntmps88
  go_wp2_with (first|((with_reducible refine gate_dst (N := 2) rfl ?_);refine box_event ?hg (N := 2) ?hd (cs := #[.int .i64 a0_0,.int .i64 a0_1,.slice A0_2 l0_2.length c0_2]) (t := 45) ?hr ?_;(case hd => rfl);(case hg => rfl);(case hr => go_simp <;> rfl);intro gb358 hg w17 hbox hb;have n0_ := As_ (bwT (zb0 HB.out) hb);have n1_ := As_ (hbox);have n2_ := As_ ((by rw [hg];exact (bwZ (zb0 HB.out)) : w.heap.size ≤ gb358));have n3_ := As_ ((by rw [hg];exact (bwZ (zb0 HB.out)) : w.heap.size ≤ gb358));clear HB;revert n0_ n1_ n2_ n3_;intro HB BK358 GW358 GE358;clear hb hbox hg)|((with_reducible refine gate_dst (N := 3) rfl ?_);refine box_event ?hg (N := 3) ?hd (cs := #[.int .i64 a1_0,.int .i64 a1_1,.slice A1_2 l1_2.length c1_2]) (t := 45) ?hr ?_;(case hd => rfl);(case hg => rfl);(case hr => go_simp <;> rfl);intro gb359 hg w18 hbox hb;have n0_ := As_ (zkb BK358.out hb);have n1_ := As_ (bwT (zb1 HB.out GE358.out) hb);have n2_ := As_ (hbox);have n3_ := As_ ((by rw [hg];exact (bwZ (zb1 HB.out GE358.out)) : w.heap.size ≤ gb359));have n4_ := As_ ((by rw [hg];exact (bwZ (zb1 HB.out GE358.out)) : w.heap.size ≤ gb359));have n5_ := As_ ((by rw [hg];exact Nat.ne_of_lt (zkl BK358.out) : gb358 ≠ gb359));have n6_ := As_ ((by rw [hg];exact Nat.ne_of_gt (zkl BK358.out) : gb359 ≠ gb358));clear BK358 HB;revert n0_ n1_ n2_ n3_ n4_ n5_ n6_;intro BK358 HB BK359 GW359 GE359 NB358_359 NB359_358;clear hb hbox hg;have hnb19 := NB358_359.out;have hnc19 := NB359_358.out;obtain ⟨hcz20_0,hcz20_1,hcz20_2,hfz20_0,hfz20_1,hfz20_2⟩ := bk3 BK358.out;obtain ⟨hcz21_0,hcz21_1,hcz21_2,hfz21_0,hfz21_1,hfz21_2⟩ := bk3 BK359.out))
  go_ret
  exact ⟨zE_,zb2 HB.out GE358.out GE359.out⟩
 rw [if_pos c4] at H
 have c4b0 : (a0_1 == a1_1) = true := beq_iff_eq.mpr c4
 have c4b1 : (a0_1 != a1_1) = false := bne_eq_false_iff_eq.mpr c4
 clear c4
 replace H := obS H
 obtain ⟨t360,A50,H⟩ := H
 replace H : (if t360 = true then (some true) else (some false)) = some r := H
 have A5 := As_ A50
 clear A50
 by_cases c6 : t360 = true
 ·subst c6
  have H1 : (some true) = some r := by rw [if_pos rfl] at H;exact H
  clear H
  have H := H1
  clear H1
  obtain rfl := Option.some.inj H
  go_enter Try.func88,Try.ntmps88
  go_wp2_with (first|((with_reducible refine gate_dst (N := 2) rfl ?_);refine box_event ?hg (N := 2) ?hd (cs := #[.int .i64 a0_0,.int .i64 a0_1,.slice A0_2 l0_2.length c0_2]) (t := 45) ?hr ?_;(case hd => rfl);(case hg => rfl);(case hr => go_simp <;> rfl);intro gb358 hg w7 hbox hb;have n0_ := As_ (bwT (zb0 HB.out) hb);have n1_ := As_ (hbox);have n2_ := As_ ((by rw [hg];exact (bwZ (zb0 HB.out)) : w.heap.size ≤ gb358));have n3_ := As_ ((by rw [hg];exact (bwZ (zb0 HB.out)) : w.heap.size ≤ gb358));clear HB;revert n0_ n1_ n2_ n3_;intro HB BK358 GW358 GE358;clear hb hbox hg)|((with_reducible refine gate_dst (N := 3) rfl ?_);refine box_event ?hg (N := 3) ?hd (cs := #[.int .i64 a1_0,.int .i64 a1_1,.slice A1_2 l1_2.length c1_2]) (t := 45) ?hr ?_;(case hd => rfl);(case hg => rfl);(case hr => go_simp <;> rfl);intro gb359 hg w8 hbox hb;have n0_ := As_ (zkb BK358.out hb);have n1_ := As_ (bwT (zb1 HB.out GE358.out) hb);have n2_ := As_ (hbox);have n3_ := As_ ((by rw [hg];exact (bwZ (zb1 HB.out GE358.out)) : w.heap.size ≤ gb359));have n4_ := As_ ((by rw [hg];exact (bwZ (zb1 HB.out GE358.out)) : w.heap.size ≤ gb359));have n5_ := As_ ((by rw [hg];exact Nat.ne_of_lt (zkl BK358.out) : gb358 ≠ gb359));have n6_ := As_ ((by rw [hg];exact Nat.ne_of_gt (zkl BK358.out) : gb359 ≠ gb358));clear BK358 HB;revert n0_ n1_ n2_ n3_ n4_ n5_ n6_;intro BK358 HB BK359 GW359 GE359 NB358_359 NB359_358;clear hb hbox hg;have hnb9 := NB358_359.out;have hnc9 := NB359_358.out;obtain ⟨hcz10_0,hcz10_1,hcz10_2,hfz10_0,hfz10_1,hfz10_2⟩ := bk3 BK358.out;obtain ⟨hcz11_0,hcz11_1,hcz11_2,hfz11_0,hfz11_1,hfz11_2⟩ := bk3 BK359.out)|((with_reducible refine gate_callee (f := 38) rfl ?_);refine goesL_ (some 19) rfl rfl Try.func38 (by kernel_rfl) rfl #[.slice A0_2 l0_2.length c0_2,.slice A1_2 l1_2.length c1_2] rfl zM_ ?_;(with_reducible refine (laws_eqIntS.calls k _ _ l0_2 _ _ l1_2 true _ ?side1 ?side2 ?side3 ?side4 A5.out).mono ?_);(case side1 => exact zC_ (Kd.C_below HR0_2.out HB.out));(case side2 => exact HC0_2.out);(case side3 => exact zC_ (Kd.C_below HR1_2.out HB.out));(case side4 => exact HC1_2.out);rintro e w' ⟨rfl,⟨nd,rfl⟩⟩;refine ⟨_,rfl,?_⟩))
  go_ret
  exact ⟨zE_,zb2 HB.out GE358.out GE359.out⟩
 replace c6 := Bool.eq_false_iff.mpr c6
 subst c6
 have H1 : (some false) = some r := by rw [if_neg (show ¬ (false = true) by decide)] at H;exact H
 clear H
 have H := H1
 clear H1
 obtain rfl := Option.some.inj H
 go_enter Try.func88,Try.ntmps88
 go_wp2_with (first|((with_reducible refine gate_dst (N := 2) rfl ?_);refine box_event ?hg (N := 2) ?hd (cs := #[.int .i64 a0_0,.int .i64 a0_1,.slice A0_2 l0_2.length c0_2]) (t := 45) ?hr ?_;(case hd => rfl);(case hg => rfl);(case hr => go_simp <;> rfl);intro gb358 hg w12 hbox hb;have n0_ := As_ (bwT (zb0 HB.out) hb);have n1_ := As_ (hbox);have n2_ := As_ ((by rw [hg];exact (bwZ (zb0 HB.out)) : w.heap.size ≤ gb358));have n3_ := As_ ((by rw [hg];exact (bwZ (zb0 HB.out)) : w.heap.size ≤ gb358));clear HB;revert n0_ n1_ n2_ n3_;intro HB BK358 GW358 GE358;clear hb hbox hg)|((with_reducible refine gate_dst (N := 3) rfl ?_);refine box_event ?hg (N := 3) ?hd (cs := #[.int .i64 a1_0,.int .i64 a1_1,.slice A1_2 l1_2.length c1_2]) (t := 45) ?hr ?_;(case hd => rfl);(case hg => rfl);(case hr => go_simp <;> rfl);intro gb359 hg w13 hbox hb;have n0_ := As_ (zkb BK358.out hb);have n1_ := As_ (bwT (zb1 HB.out GE358.out) hb);have n2_ := As_ (hbox);have n3_ := As_ ((by rw [hg];exact (bwZ (zb1 HB.out GE358.out)) : w.heap.size ≤ gb359));have n4_ := As_ ((by rw [hg];exact (bwZ (zb1 HB.out GE358.out)) : w.heap.size ≤ gb359));have n5_ := As_ ((by rw [hg];exact Nat.ne_of_lt (zkl BK358.out) : gb358 ≠ gb359));have n6_ := As_ ((by rw [hg];exact Nat.ne_of_gt (zkl BK358.out) : gb359 ≠ gb358));clear BK358 HB;revert n0_ n1_ n2_ n3_ n4_ n5_ n6_;intro BK358 HB BK359 GW359 GE359 NB358_359 NB359_358;clear hb hbox hg;have hnb14 := NB358_359.out;have hnc14 := NB359_358.out;obtain ⟨hcz15_0,hcz15_1,hcz15_2,hfz15_0,hfz15_1,hfz15_2⟩ := bk3 BK358.out;obtain ⟨hcz16_0,hcz16_1,hcz16_2,hfz16_0,hfz16_1,hfz16_2⟩ := bk3 BK359.out)|((with_reducible refine gate_callee (f := 38) rfl ?_);refine goesL_ (some 19) rfl rfl Try.func38 (by kernel_rfl) rfl #[.slice A0_2 l0_2.length c0_2,.slice A1_2 l1_2.length c1_2] rfl zM_ ?_;(with_reducible refine (laws_eqIntS.calls k _ _ l0_2 _ _ l1_2 false _ ?side1 ?side2 ?side3 ?side4 A5.out).mono ?_);(case side1 => exact zC_ (Kd.C_below HR0_2.out HB.out));(case side2 => exact HC0_2.out);(case side3 => exact zC_ (Kd.C_below HR1_2.out HB.out));(case side4 => exact HC1_2.out);rintro e w' ⟨rfl,⟨nd,rfl⟩⟩;refine ⟨_,rfl,?_⟩))
 go_ret
 exact ⟨zE_,zb2 HB.out GE358.out GE359.out⟩
/-! ### laws_eqNodeS: function 55 -/
def laws_eqNodeS.l0 : Nat → List (S45) → List (S45) → Int → Option (Bool)
 | 0,_,_,_ => none
 | k + 1,x0,x1,x5 => if x5 < (x0.length : Int) then (if 0 ≤ x5 then (if x5 < (x1.length : Int) then ((laws_eqNode.f k ((rd_T45 x0 x5).f0) ((rd_T45 x0 x5).f1) ((rd_T45 x0 x5).f2) ((rd_T45 x1 x5).f0) ((rd_T45 x1 x5).f1) ((rd_T45 x1 x5).f2)).bind fun t363 => (if t363 = true then (laws_eqNodeS.l0 k x0 x1 (wrap64 (x5 + 1))) else (some false))) else (none)) else (none)) else (some true)
def laws_eqNodeS.f (k : Nat) (l0 : List (S45)) (l1 : List (S45)) : Option (Bool) := if (l0.length : Int) = (l1.length : Int) then (laws_eqNodeS.l0 k l0 l1 0) else (some false)
set_option maxRecDepth 100000 in
theorem laws_eqNodeS.mono_l : ∀ k,(∀ y0 y1 y2,LeO (laws_eqNodeS.l0 k y0 y1 y2) (laws_eqNodeS.l0 (k + 1) y0 y1 y2))
 | 0 => fun _ _ _ r h => (by cases h)
 | k + 1 => by
  have ih0 := laws_eqNodeS.mono_l k
  ·intro y0 y1 y2
   unfold laws_eqNodeS.l0
   repeat' first
   | (with_reducible exact ih0 _ _ _)
   | (with_reducible exact laws_eqNode.mono _ _ _ _ _ _ _)
   | (with_reducible exact LeO.refl _)
   | (with_reducible exact LeO.none _)
   | (with_reducible refine LeO.ite ?_ ?_)
   | (with_reducible refine LeO.bind ?_ (fun _ => ?_))
   | exact ih0 _ _ _
   | exact laws_eqNode.mono _ _ _ _ _ _ _
   | exact LeO.none _
   | refine LeO.ite ?_ ?_
   | refine LeO.bind ?_ (fun _ => ?_)
set_option maxRecDepth 100000 in
theorem laws_eqNodeS.mono : ∀ a0 a1 k,LeO (laws_eqNodeS.f k a0 a1) (laws_eqNodeS.f (k + 1) a0 a1) := by
 intro a0 a1 k
 have ih0 := laws_eqNodeS.mono_l k
 unfold laws_eqNodeS.f
 repeat' first
   | (with_reducible exact ih0 _ _ _)
   | (with_reducible exact laws_eqNode.mono _ _ _ _ _ _ _)
   | (with_reducible exact LeO.refl _)
   | (with_reducible exact LeO.none _)
   | (with_reducible refine LeO.ite ?_ ?_)
   | (with_reducible refine LeO.bind ?_ (fun _ => ?_))
   | exact ih0 _ _ _
   | exact laws_eqNode.mono _ _ _ _ _ _ _
   | exact LeO.none _
   | refine LeO.ite ?_ ?_
   | refine LeO.bind ?_ (fun _ => ?_)
def laws_eqNodeS.T6 : Bool × List (List Nat × List Nat) := (true,[([],[]),([],[]),([0,1],[0,1]),([2],[2]),([],[]),([],[]),([4,5],[4,5]),([6],[6]),([3,7],[3,7]),([8],[8])])
def laws_eqNodeS.B6 : List Nat := [0,0,3,7,0,0,48,112,255,511]
theorem laws_eqNodeS.tab6 : rtab .any (opsOf Try.f55 6) = laws_eqNodeS.T6 := by kernel_rfl
theorem laws_eqNodeS.bits6 : waitsOk laws_eqNodeS.T6.2 laws_eqNodeS.B6 = true := by kernel_rfl
set_option maxHeartbeats 8000000 in
set_option maxRecDepth 100000 in
theorem laws_eqNodeS.calls (k : Nat) (A0 : Option Addr) (c0 : Nat) (l0 : List (S45)) (A1 : Option Addr) (c1 : Nat) (l1 : List (S45)) (r : Bool) (w : World) (hr0 : Kd.C k45 w A0 l0.length l0) (hc0 : l0.length ≤ c0) (hr1 : Kd.C k45 w A1 l1.length l1) (hc1 : l1.length ≤ c1) (h : laws_eqNodeS.f k l0 l1 = some r) :
  Calls Try.prog 55 #[.slice A0 l0.length c0,.slice A1 l1.length c1] w fun e w' => e = .returned (.bool r) ∧ Below w.heap.size w w' := by
 have hu45 := Try.underlying45
 have HR0 := As_ hr0
 have HC0 := As_ hc0
 clear hr0 hc0
 have HR1 := As_ hr1
 have HC1 := As_ hc1
 clear hr1 hc1
 have HB := As_ (Below.refl w.heap.size w)
 have H : (if (l0.length : Int) = (l1.length : Int) then (laws_eqNodeS.l0 k l0 l1 0) else (some false)) = some r := h
 clear h
 by_cases c3 : (l0.length : Int) = (l1.length : Int)
 rotate_left
 ·rw [if_neg c3] at H
  have c3b0 : ((l0.length : Int) == (l1.length : Int)) = false := beq_eq_false_iff_ne.mpr c3
  have c3b1 : ((l0.length : Int) != (l1.length : Int)) = true := bne_iff_ne.mpr c3
  have c3b2 : (l0.length == l1.length) = false := by first|simpa using c3|(simp at c3 ⊢;omega)
  obtain rfl := Option.some.inj H
  go_enter Try.func55,Try.ntmps55
  go_wp2
  go_ret
  exact ⟨zE_,zb0 HB.out⟩

 rw [if_pos c3] at H
 have c3b0 : ((l0.length : Int) == (l1.length : Int)) = true := beq_iff_eq.mpr c3
 have c3b1 : ((l0.length : Int) != (l1.length : Int)) = false := bne_eq_false_iff_eq.mpr c3
 have c3b2 : (l0.length == l1.length) = true := by first|simpa using c3|(simp at c3 ⊢;omega)
 clear c3
 have H' := As_ H
 clear H
 go_enter Try.func55,Try.ntmps55
 go_wp2
 go_loopg [5] k (fun kq v5 w' => ∃ (x5_1 : Int),v5 = .int .i64 x5_1 ∧ Aside0 (laws_eqNodeS.l0 kq l0 l1 x5_1 = some r) ∧ Aside0 (kq ≤ k) ∧ Aside0 (Below w.heap.size w w'))
 case atStart => exact ⟨(0),zT_,H',⟨Nat.le_refl _⟩,⟨zb0 HB.out⟩⟩
 case round =>
  clear H'
  obtain ⟨x5_1,rfl,HA,HK1,HB⟩ := hrel
  cases gk with
  | zero => exact absurd HA.out (fun h_ => (by cases h_))
  | succ k1 =>
   have H := HA.out
   clear HA
   simp only [laws_eqNodeS.l0] at H
   by_cases c4 : x5_1 < (l0.length : Int)
   rotate_left
   ·rw [if_neg c4] at H
    have c4b0 : decide (x5_1 < (l0.length : Int)) = false := deF c4
    clear c4
    obtain rfl := Option.some.inj H
    go_wp2
    go_ret
    exact ⟨zE_,zb0 HB.out⟩
   rw [if_pos c4] at H
   have c4b0 : decide (x5_1 < (l0.length : Int)) = true := deT c4
   clear c4
   by_cases c5 : 0 ≤ x5_1
   rotate_left
   ·rw [if_neg c5] at H
    exact absurd H (by simp)
   rw [if_pos c5] at H
   have c5b0 : decide (0 ≤ x5_1) = true := deT c5
   clear c5
   by_cases c6 : x5_1 < (l1.length : Int)
   rotate_left
   ·rw [if_neg c6] at H
    exact absurd H (by simp)
   rw [if_pos c6] at H
   have c6b0 : decide (x5_1 < (l1.length : Int)) = true := deT c6
   clear c6
   replace H := obS H
   obtain ⟨t363,A70,H⟩ := H
   replace H : (if t363 = true then (laws_eqNodeS.l0 k1 l0 l1 (wrap64 (x5_1 + 1))) else (some false)) = some r := H
   have A7 := As_ A70
   clear A70
   by_cases c8 : t363 = true
   rotate_left
   ·replace c8 := Bool.eq_false_iff.mpr c8
    subst c8
    have H1 : (some false) = some r := by rw [if_neg (show ¬ (false = true) by decide)] at H;exact H
    clear H
    have H := H1
    clear H1
    obtain rfl := Option.some.inj H
    try go_wp2
    have n0_ := As_ (bwD HB.out)
    clear HB
    revert n0_;intro HB
    have p361 : 0 ≤ (x5_1 : Int) := odT zA_
    have q361 : x5_1 < (l0.length : Int) := odT zA_
    obtain ⟨ad361,A361_2,c361_2,e361,hx361_0,hx361_1,hx361_2,hl361_2,hi361_2⟩ := at_T45 HR0.out x5_1 p361 q361
    have hw361_2 := hx361_2
    have hw361_1 := hx361_1
    have hw361_0 := hx361_0
    cases e361
    replace hx361_0 := bwC HB.out hx361_0
    replace hx361_1 := bwC HB.out hx361_1
    replace hx361_2 := bwC HB.out hx361_2
    have HR361_2 := As_ hi361_2
    have HC361_2 := As_ hl361_2
    clear hi361_2 hl361_2
    replace p361 := eq_true p361
    replace q361 := eq_true q361
    have p362 : 0 ≤ (x5_1 : Int) := odT zA_
    have q362 : x5_1 < (l1.length : Int) := odT zA_
    obtain ⟨ad362,A362_2,c362_2,e362,hx362_0,hx362_1,hx362_2,hl362_2,hi362_2⟩ := at_T45 HR1.out x5_1 p362 q362
    have hw362_2 := hx362_2
    have hw362_1 := hx362_1
    have hw362_0 := hx362_0
    cases e362
    replace hx362_0 := bwC HB.out hx362_0
    replace hx362_1 := bwC HB.out hx362_1
    replace hx362_2 := bwC HB.out hx362_2
    have HR362_2 := As_ hi362_2
    have HC362_2 := As_ hl362_2
    clear hi362_2 hl362_2
    replace p362 := eq_true p362
    replace q362 := eq_true q362
    refine start_ (n := 10) (S := fun w' => w'.cell? (ad361.add ((x5_1).toNat * 3)) = some (.int .i64 ((rd_T45 l0 x5_1).f0)) ∧ w'.cell? ⟨(ad361.add ((x5_1).toNat * 3)).block,(ad361.add ((x5_1).toNat * 3)).off + 1,none⟩ = some (.int .i64 ((rd_T45 l0 x5_1).f1)) ∧ w'.cell? ⟨(ad361.add ((x5_1).toNat * 3)).block,(ad361.add ((x5_1).toNat * 3)).off + 2,none⟩ = some (.slice A361_2 ((rd_T45 l0 x5_1).f2).length c361_2) ∧ w'.cell? (ad362.add ((x5_1).toNat * 3)) = some (.int .i64 ((rd_T45 l1 x5_1).f0)) ∧ w'.cell? ⟨(ad362.add ((x5_1).toNat * 3)).block,(ad362.add ((x5_1).toNat * 3)).off + 1,none⟩ = some (.int .i64 ((rd_T45 l1 x5_1).f1)) ∧ w'.cell? ⟨(ad362.add ((x5_1).toNat * 3)).block,(ad362.add ((x5_1).toNat * 3)).off + 2,none⟩ = some (.slice A362_2 ((rd_T45 l1 x5_1).f2).length c362_2)) (ds := []) (bl_ 0 10) (by kernel_rfl) rfl rfl ⟨((HB.out.cell (bwL w _ hw361_0)).trans hw361_0),((HB.out.cell (bwL w _ hw361_1)).trans hw361_1),((HB.out.cell (bwL w _ hw361_2)).trans hw361_2),((HB.out.cell (bwL w _ hw362_0)).trans hw362_0),((HB.out.cell (bwL w _ hw362_1)).trans hw362_1),((HB.out.cell (bwL w _ hw362_2)).trans hw362_2)⟩ (fun hHeld => ?_);refine with_tabW laws_eqNodeS.tab6 laws_eqNodeS.bits6 (fun HT_ HW_ => ?_)
    generalize wr.drew = w11 at HB HR361_2 HR362_2 hx361_0 hx361_1 hx361_2 hx362_0 hx362_1 hx362_2 hHeld ⊢
    refine pQ 0 17 (bl_ 1 10) HT_ rfl ?_
    refine pQ 1 18 (bl_ 3 10) HT_ rfl ?_
    refine pQ 2 19 (bl_ 7 10) HT_ rfl ?_
    refine pQ 4 21 (bl_ 23 10) HT_ rfl ?_
    refine pQ 5 22 (bl_ 55 10) HT_ rfl ?_
    refine pQ 6 23 (bl_ 119 10) HT_ rfl ?_
    refine tP 3 20 (bl_ 127 10) ?_ HT_ HW_ rfl (.inl ⟨by rfl,?_⟩) hHeld ?_ ?_ ?_;rotate_left;(rintro w' ⟨s0,s1,s2,s3,s4,s5⟩;go_simp;with_reducible rfl);rotate_left;(simp only [Act.put,sq_,i64_w,i32_w];rfl)
    refine tP 7 24 (bl_ 255 10) ?_ HT_ HW_ rfl (.inl ⟨by rfl,?_⟩) hHeld ?_ ?_ ?_;rotate_left;(rintro w' ⟨s0,s1,s2,s3,s4,s5⟩;go_simp;with_reducible rfl);rotate_left;(simp only [Act.put,sq_,i64_w,i32_w];rfl)
    refine one_ (i := 8) (N := some 25) (bl_ 511 10) rfl rfl (one_of HT_.out (by kernel_rfl)) (by decide) (fun K hK => ?_)
    refine goes_ Try.func88 (by kernel_rfl) rfl #[.agg #[.int .i64 ((rd_T45 l0 x5_1).f0),.int .i64 ((rd_T45 l0 x5_1).f1),.slice A361_2 ((rd_T45 l0 x5_1).f2).length c361_2],.agg #[.int .i64 ((rd_T45 l1 x5_1).f0),.int .i64 ((rd_T45 l1 x5_1).f1),.slice A362_2 ((rd_T45 l1 x5_1).f2).length c362_2]] (by rfl) rfl rfl zM_ ?_
    with_reducible refine (laws_eqNode.calls k1 ((rd_T45 l0 x5_1).f0) ((rd_T45 l0 x5_1).f1) _ _ ((rd_T45 l0 x5_1).f2) ((rd_T45 l1 x5_1).f0) ((rd_T45 l1 x5_1).f1) _ _ ((rd_T45 l1 x5_1).f2) false _ ?side1 ?side2 ?side3 ?side4 A7.out).mono ?_
    (case side1 => exact zC_ (Kd.C_below HR361_2.out HB.out))
    (case side2 => exact HC361_2.out)
    (case side3 => exact zC_ (Kd.C_below HR362_2.out HB.out))
    (case side4 => exact HC362_2.out)
    rintro e w12 ⟨rfl,hb⟩
    refine ⟨_,rfl,?_⟩
    have n0_ := As_ (bwT (zb0 HB.out) hb)
    clear HB
    revert n0_;intro HB
    refine hK.out _ _ ⟨((HB.out.cell (bwL w _ hw361_0)).trans hw361_0),((HB.out.cell (bwL w _ hw361_1)).trans hw361_1),((HB.out.cell (bwL w _ hw361_2)).trans hw361_2),((HB.out.cell (bwL w _ hw362_0)).trans hw362_0),((HB.out.cell (bwL w _ hw362_1)).trans hw362_1),((HB.out.cell (bwL w _ hw362_2)).trans hw362_2)⟩ (fun hHeld => ?_)
    clear hK K
    refine norm_ (a' := ?_) ?_ ?_
    rotate_left
    ·show Act.put _ (some 25) _ = _
     simp only [Act.put,sq_,i64_w,i32_w]
     rfl
    refine pQ 9 26 (bl_ 1023 10) HT_ rfl ?_
    refine done_ (done_of HT_.out (by kernel_rfl)) ?_
    try go_wp2
    go_ret
    exact ⟨zE_,zb0 HB.out⟩
   subst c8
   have H1 : (laws_eqNodeS.l0 k1 l0 l1 (wrap64 (x5_1 + 1))) = some r := by rw [if_pos rfl] at H;exact H
   clear H
   have H := H1
   clear H1
   have H' := As_ H
   clear H
   try go_wp2
   have n0_ := As_ (bwD HB.out)
   clear HB
   revert n0_;intro HB
   have p361 : 0 ≤ (x5_1 : Int) := odT zA_
   have q361 : x5_1 < (l0.length : Int) := odT zA_
   obtain ⟨ad361,A361_2,c361_2,e361,hx361_0,hx361_1,hx361_2,hl361_2,hi361_2⟩ := at_T45 HR0.out x5_1 p361 q361
   have hw361_2 := hx361_2
   have hw361_1 := hx361_1
   have hw361_0 := hx361_0
   cases e361
   replace hx361_0 := bwC HB.out hx361_0
   replace hx361_1 := bwC HB.out hx361_1
   replace hx361_2 := bwC HB.out hx361_2
   have HR361_2 := As_ hi361_2
   have HC361_2 := As_ hl361_2
   clear hi361_2 hl361_2
   replace p361 := eq_true p361
   replace q361 := eq_true q361
   have p362 : 0 ≤ (x5_1 : Int) := odT zA_
   have q362 : x5_1 < (l1.length : Int) := odT zA_
   obtain ⟨ad362,A362_2,c362_2,e362,hx362_0,hx362_1,hx362_2,hl362_2,hi362_2⟩ := at_T45 HR1.out x5_1 p362 q362
   have hw362_2 := hx362_2
   have hw362_1 := hx362_1
   have hw362_0 := hx362_0
   cases e362
   replace hx362_0 := bwC HB.out hx362_0
   replace hx362_1 := bwC HB.out hx362_1
   replace hx362_2 := bwC HB.out hx362_2
   have HR362_2 := As_ hi362_2
   have HC362_2 := As_ hl362_2
   clear hi362_2 hl362_2
   replace p362 := eq_true p362
   replace q362 := eq_true q362
   refine start_ (n := 10) (S := fun w' => w'.cell? (ad361.add ((x5_1).toNat * 3)) = some (.int .i64 ((rd_T45 l0 x5_1).f0)) ∧ w'.cell? ⟨(ad361.add ((x5_1).toNat * 3)).block,(ad361.add ((x5_1).toNat * 3)).off + 1,none⟩ = some (.int .i64 ((rd_T45 l0 x5_1).f1)) ∧ w'.cell? ⟨(ad361.add ((x5_1).toNat * 3)).block,(ad361.add ((x5_1).toNat * 3)).off + 2,none⟩ = some (.slice A361_2 ((rd_T45 l0 x5_1).f2).length c361_2) ∧ w'.cell? (ad362.add ((x5_1).toNat * 3)) = some (.int .i64 ((rd_T45 l1 x5_1).f0)) ∧ w'.cell? ⟨(ad362.add ((x5_1).toNat * 3)).block,(ad362.add ((x5_1).toNat * 3)).off + 1,none⟩ = some (.int .i64 ((rd_T45 l1 x5_1).f1)) ∧ w'.cell? ⟨(ad362.add ((x5_1).toNat * 3)).block,(ad362.add ((x5_1).toNat * 3)).off + 2,none⟩ = some (.slice A362_2 ((rd_T45 l1 x5_1).f2).length c362_2)) (ds := []) (bl_ 0 10) (by kernel_rfl) rfl rfl ⟨((HB.out.cell (bwL w _ hw361_0)).trans hw361_0),((HB.out.cell (bwL w _ hw361_1)).trans hw361_1),((HB.out.cell (bwL w _ hw361_2)).trans hw361_2),((HB.out.cell (bwL w _ hw362_0)).trans hw362_0),((HB.out.cell (bwL w _ hw362_1)).trans hw362_1),((HB.out.cell (bwL w _ hw362_2)).trans hw362_2)⟩ (fun hHeld => ?_);refine with_tabW laws_eqNodeS.tab6 laws_eqNodeS.bits6 (fun HT_ HW_ => ?_)
   generalize wr.drew = w9 at HB HR361_2 HR362_2 hx361_0 hx361_1 hx361_2 hx362_0 hx362_1 hx362_2 hHeld ⊢
   refine pQ 0 17 (bl_ 1 10) HT_ rfl ?_
   refine pQ 1 18 (bl_ 3 10) HT_ rfl ?_
   refine pQ 2 19 (bl_ 7 10) HT_ rfl ?_
   refine pQ 4 21 (bl_ 23 10) HT_ rfl ?_
   refine pQ 5 22 (bl_ 55 10) HT_ rfl ?_
   refine pQ 6 23 (bl_ 119 10) HT_ rfl ?_
   refine tP 3 20 (bl_ 127 10) ?_ HT_ HW_ rfl (.inl ⟨by rfl,?_⟩) hHeld ?_ ?_ ?_;rotate_left;(rintro w' ⟨s0,s1,s2,s3,s4,s5⟩;go_simp;with_reducible rfl);rotate_left;(simp only [Act.put,sq_,i64_w,i32_w];rfl)
   refine tP 7 24 (bl_ 255 10) ?_ HT_ HW_ rfl (.inl ⟨by rfl,?_⟩) hHeld ?_ ?_ ?_;rotate_left;(rintro w' ⟨s0,s1,s2,s3,s4,s5⟩;go_simp;with_reducible rfl);rotate_left;(simp only [Act.put,sq_,i64_w,i32_w];rfl)
   refine one_ (i := 8) (N := some 25) (bl_ 511 10) rfl rfl (one_of HT_.out (by kernel_rfl)) (by decide) (fun K hK => ?_)
   refine goes_ Try.func88 (by kernel_rfl) rfl #[.agg #[.int .i64 ((rd_T45 l0 x5_1).f0),.int .i64 ((rd_T45 l0 x5_1).f1),.slice A361_2 ((rd_T45 l0 x5_1).f2).length c361_2],.agg #[.int .i64 ((rd_T45 l1 x5_1).f0),.int .i64 ((rd_T45 l1 x5_1).f1),.slice A362_2 ((rd_T45 l1 x5_1).f2).length c362_2]] (by rfl) rfl rfl zM_ ?_
   with_reducible refine (laws_eqNode.calls k1 ((rd_T45 l0 x5_1).f0) ((rd_T45 l0 x5_1).f1) _ _ ((rd_T45 l0 x5_1).f2) ((rd_T45 l1 x5_1).f0) ((rd_T45 l1 x5_1).f1) _ _ ((rd_T45 l1 x5_1).f2) true _ ?side1 ?side2 ?side3 ?side4 A7.out).mono ?_
   (case side1 => exact zC_ (Kd.C_below HR361_2.out HB.out))
   (case side2 => exact HC361_2.out)
   (case side3 => exact zC_ (Kd.C_below HR362_2.out HB.out))
   (case side4 => exact HC362_2.out)
   rintro e w10 ⟨rfl,hb⟩
   refine ⟨_,rfl,?_⟩
   have n0_ := As_ (bwT (zb0 HB.out) hb)
   clear HB
   revert n0_;intro HB
   refine hK.out _ _ ⟨((HB.out.cell (bwL w _ hw361_0)).trans hw361_0),((HB.out.cell (bwL w _ hw361_1)).trans hw361_1),((HB.out.cell (bwL w _ hw361_2)).trans hw361_2),((HB.out.cell (bwL w _ hw362_0)).trans hw362_0),((HB.out.cell (bwL w _ hw362_1)).trans hw362_1),((HB.out.cell (bwL w _ hw362_2)).trans hw362_2)⟩ (fun hHeld => ?_)
   clear hK K
   refine norm_ (a' := ?_) ?_ ?_
   rotate_left
   ·show Act.put _ (some 25) _ = _
    simp only [Act.put,sq_,i64_w,i32_w]
    rfl
   refine pQ 9 26 (bl_ 1023 10) HT_ rfl ?_
   refine done_ (done_of HT_.out (by kernel_rfl)) ?_
   try go_wp2
   go_roundg k1
   case measure => have := HK1.out;omega
   case rel => exact ⟨(wrap64 (x5_1 + 1)),zT_,H',⟨by have := HK1.out;omega⟩,⟨zb0 HB.out⟩⟩
/-! ### laws_eqGraph: function 19 -/
def laws_eqGraph.f (k : Nat) (l0_0 : List (S45)) (a0_1 : Int) (l1_0 : List (S45)) (a1_1 : Int) : Option (Bool) := (laws_eqNodeS.f k l0_0 l1_0).bind fun t366 => (if t366 = true then (if a0_1 = a1_1 then (some true) else (some false)) else (some false))
set_option maxRecDepth 100000 in
theorem laws_eqGraph.mono : ∀ a0 a1 a2 a3 k,LeO (laws_eqGraph.f k a0 a1 a2 a3) (laws_eqGraph.f (k + 1) a0 a1 a2 a3) := by
 intro a0 a1 a2 a3 k
 unfold laws_eqGraph.f
 repeat' first
   | (with_reducible exact laws_eqNodeS.mono _ _ _)
   | (with_reducible exact LeO.refl _)
   | (with_reducible exact LeO.none _)
   | (with_reducible refine LeO.ite ?_ ?_)
   | (with_reducible refine LeO.bind ?_ (fun _ => ?_))
   | exact laws_eqNodeS.mono _ _ _
   | exact LeO.none _
   | refine LeO.ite ?_ ?_
   | refine LeO.bind ?_ (fun _ => ?_)
set_option maxHeartbeats 8000000 in
set_option maxRecDepth 100000 in
theorem laws_eqGraph.calls (k : Nat) (A0_0 : Option Addr) (c0_0 : Nat) (l0_0 : List (S45)) (a0_1 : Int) (A1_0 : Option Addr) (c1_0 : Nat) (l1_0 : List (S45)) (a1_1 : Int) (r : Bool) (w : World) (hr0_0 : Kd.C k45 w A0_0 l0_0.length l0_0) (hc0_0 : l0_0.length ≤ c0_0) (hr1_0 : Kd.C k45 w A1_0 l1_0.length l1_0) (hc1_0 : l1_0.length ≤ c1_0) (h : laws_eqGraph.f k l0_0 a0_1 l1_0 a1_1 = some r) :
  Calls Try.prog 19 #[.agg #[.slice A0_0 l0_0.length c0_0,.int .i64 a0_1],.agg #[.slice A1_0 l1_0.length c1_0,.int .i64 a1_1]] w fun e w' => e = .returned (.bool r) ∧ Below w.heap.size w w' := by
 have hu29 := Try.underlying29
 have HR0_0 := As_ hr0_0
 have HC0_0 := As_ hc0_0
 clear hr0_0 hc0_0
 have HR1_0 := As_ hr1_0
 have HC1_0 := As_ hc1_0
 clear hr1_0 hc1_0
 have HB := As_ (Below.refl w.heap.size w)
 have H : ((laws_eqNodeS.f k l0_0 l1_0).bind fun t366 => (if t366 = true then (if a0_1 = a1_1 then (some true) else (some false)) else (some false))) = some r := h
 clear h
 replace H := obS H
 obtain ⟨t366,A30,H⟩ := H
 replace H : (if t366 = true then (if a0_1 = a1_1 then (some true) else (some false)) else (some false)) = some r := H
 have A3 := As_ A30
 clear A30
 by_cases c4 : t366 = true
 rotate_left
 ·replace c4 := Bool.eq_false_iff.mpr c4
  subst c4
  have H1 : (some false) = some r := by rw [if_neg (show ¬ (false = true) by decide)] at H;exact H
  clear H
  have H := H1
  clear H1
  obtain rfl := Option.some.inj H
  go_enter Try.func19,Try.ntmps19
  go_wp2_with (first|((with_reducible refine gate_dst (N := 2) rfl ?_);refine box_event ?hg (N := 2) ?hd (cs := #[.slice A0_0 l0_0.length c0_0,.int .i64 a0_1]) (t := 29) ?hr ?_;(case hd => rfl);(case hg => rfl);(case hr => go_simp <;> rfl);intro gb364 hg w22 hbox hb;have n0_ := As_ (bwT (zb0 HB.out) hb);have n1_ := As_ (hbox);have n2_ := As_ ((by rw [hg];exact (bwZ (zb0 HB.out)) : w.heap.size ≤ gb364));have n3_ := As_ ((by rw [hg];exact (bwZ (zb0 HB.out)) : w.heap.size ≤ gb364));clear HB;revert n0_ n1_ n2_ n3_;intro HB BK364 GW364 GE364;clear hb hbox hg)|((with_reducible refine gate_dst (N := 3) rfl ?_);refine box_event ?hg (N := 3) ?hd (cs := #[.slice A1_0 l1_0.length c1_0,.int .i64 a1_1]) (t := 29) ?hr ?_;(case hd => rfl);(case hg => rfl);(case hr => go_simp <;> rfl);intro gb365 hg w23 hbox hb;have n0_ := As_ (zkb BK364.out hb);have n1_ := As_ (bwT (zb1 HB.out GE364.out) hb);have n2_ := As_ (hbox);have n3_ := As_ ((by rw [hg];exact (bwZ (zb1 HB.out GE364.out)) : w.heap.size ≤ gb365));have n4_ := As_ ((by rw [hg];exact (bwZ (zb1 HB.out GE364.out)) : w.heap.size ≤ gb365));have n5_ := As_ ((by rw [hg];exact Nat.ne_of_lt (zkl BK364.out) : gb364 ≠ gb365));have n6_ := As_ ((by rw [hg];exact Nat.ne_of_gt (zkl BK364.out) : gb365 ≠ gb364));clear BK364 HB;revert n0_ n1_ n2_ n3_ n4_ n5_ n6_;intro BK364 HB BK365 GW365 GE365 NB364_365 NB365_364;clear hb hbox hg;have hnb24 := NB364_365.out;have hnc24 := NB365_364.out;obtain ⟨hcz25_0,hcz25_1,hfz25_0,hfz25_1⟩ := bk2 BK364.out;obtain ⟨hcz26_0,hcz26_1,hfz26_0,hfz26_1⟩ := bk2 BK365.out)|((with_reducible refine gate_callee (f := 55) rfl ?_);refine goesL_ (some 9) rfl rfl Try.func55 (by kernel_rfl) rfl #[.slice A0_0 l0_0.length c0_0,.slice A1_0 l1_0.length c1_0] rfl zM_ ?_;(with_reducible refine (laws_eqNodeS.calls k _ _ l0_0 _ _ l1_0 false _ ?side1 ?side2 ?side3 ?side4 A3.out).mono ?_);(case side1 => exact zC_ (Kd.C_below HR0_0.out HB.out));(case side2 => exact HC0_0.out);(case side3 => exact zC_ (Kd.C_below HR1_0.out HB.out));(case side4 => exact HC1_0.out);rintro e w27 ⟨rfl,hb⟩;refine ⟨_,rfl,?_⟩;have n0_ := As_ (zkb BK364.out hb);have n1_ := As_ (zkb BK365.out hb);have n2_ := As_ (bwT (zb2 HB.out GE364.out GE365.out) hb);clear BK364 BK365 HB;revert n0_ n1_ n2_;intro BK364 BK365 HB))
  go_ret
  exact ⟨zE_,zb2 HB.out GE364.out GE365.out⟩

 subst c4
 have H1 : (if a0_1 = a1_1 then (some true) else (some false)) = some r := by rw [if_pos rfl] at H;exact H
 clear H
 have H := H1
 clear H1
 by_cases c5 : a0_1 = a1_1
 rotate_left
 ·rw [if_neg c5] at H
  have c5b0 : (a0_1 == a1_1) = false := beq_eq_false_iff_ne.mpr c5
  have c5b1 : (a0_1 != a1_1) = true := bne_iff_ne.mpr c5
  obtain rfl := Option.some.inj H
  go_enter Try.func19,Try.ntmps19
  go_wp2_with (first|((with_reducible refine gate_dst (N := 2) rfl ?_);refine box_event ?hg (N := 2) ?hd (cs := #[.slice A0_0 l0_0.length c0_0,.int .i64 a0_1]) (t := 29) ?hr ?_;(case hd => rfl);(case hg => rfl);(case hr => go_simp <;> rfl);intro gb364 hg w14 hbox hb;have n0_ := As_ (bwT (zb0 HB.out) hb);have n1_ := As_ (hbox);have n2_ := As_ ((by rw [hg];exact (bwZ (zb0 HB.out)) : w.heap.size ≤ gb364));have n3_ := As_ ((by rw [hg];exact (bwZ (zb0 HB.out)) : w.heap.size ≤ gb364));clear HB;revert n0_ n1_ n2_ n3_;intro HB BK364 GW364 GE364;clear hb hbox hg)|((with_reducible refine gate_dst (N := 3) rfl ?_);refine box_event ?hg (N := 3) ?hd (cs := #[.slice A1_0 l1_0.length c1_0,.int .i64 a1_1]) (t := 29) ?hr ?_;(case hd => rfl);(case hg => rfl);(case hr => go_simp <;> rfl);intro gb365 hg w15 hbox hb;have n0_ := As_ (zkb BK364.out hb);have n1_ := As_ (bwT (zb1 HB.out GE364.out) hb);have n2_ := As_ (hbox);have n3_ := As_ ((by rw [hg];exact (bwZ (zb1 HB.out GE364.out)) : w.heap.size ≤ gb365));have n4_ := As_ ((by rw [hg];exact (bwZ (zb1 HB.out GE364.out)) : w.heap.size ≤ gb365));have n5_ := As_ ((by rw [hg];exact Nat.ne_of_lt (zkl BK364.out) : gb364 ≠ gb365));have n6_ := As_ ((by rw [hg];exact Nat.ne_of_gt (zkl BK364.out) : gb365 ≠ gb364));clear BK364 HB;revert n0_ n1_ n2_ n3_ n4_ n5_ n6_;intro BK364 HB BK365 GW365 GE365 NB364_365 NB365_364;clear hb hbox hg;have hnb16 := NB364_365.out;have hnc16 := NB365_364.out;obtain ⟨hcz17_0,hcz17_1,hfz17_0,hfz17_1⟩ := bk2 BK364.out;obtain ⟨hcz18_0,hcz18_1,hfz18_0,hfz18_1⟩ := bk2 BK365.out)|((with_reducible refine gate_callee (f := 55) rfl ?_);refine goesL_ (some 9) rfl rfl Try.func55 (by kernel_rfl) rfl #[.slice A0_0 l0_0.length c0_0,.slice A1_0 l1_0.length c1_0] rfl zM_ ?_;(with_reducible refine (laws_eqNodeS.calls k _ _ l0_0 _ _ l1_0 true _ ?side1 ?side2 ?side3 ?side4 A3.out).mono ?_);(case side1 => exact zC_ (Kd.C_below HR0_0.out HB.out));(case side2 => exact HC0_0.out);(case side3 => exact zC_ (Kd.C_below HR1_0.out HB.out));(case side4 => exact HC1_0.out);rintro e w19 ⟨rfl,hb⟩;refine ⟨_,rfl,?_⟩;have n0_ := As_ (zkb BK364.out hb);have n1_ := As_ (zkb BK365.out hb);have n2_ := As_ (bwT (zb2 HB.out GE364.out GE365.out) hb);clear BK364 BK365 HB;revert n0_ n1_ n2_;intro BK364 BK365 HB;obtain ⟨hcz20_0,hcz20_1,hfz20_0,hfz20_1⟩ := bk2 BK364.out;obtain ⟨hcz21_0,hcz21_1,hfz21_0,hfz21_1⟩ := bk2 BK365.out))
  go_ret
  exact ⟨zE_,zb2 HB.out GE364.out GE365.out⟩
 rw [if_pos c5] at H
 have c5b0 : (a0_1 == a1_1) = true := beq_iff_eq.mpr c5
 have c5b1 : (a0_1 != a1_1) = false := bne_eq_false_iff_eq.mpr c5
 clear c5
 obtain rfl := Option.some.inj H
 go_enter Try.func19,Try.ntmps19
 go_wp2_with (first|((with_reducible refine gate_dst (N := 2) rfl ?_);refine box_event ?hg (N := 2) ?hd (cs := #[.slice A0_0 l0_0.length c0_0,.int .i64 a0_1]) (t := 29) ?hr ?_;(case hd => rfl);(case hg => rfl);(case hr => go_simp <;> rfl);intro gb364 hg w6 hbox hb;have n0_ := As_ (bwT (zb0 HB.out) hb);have n1_ := As_ (hbox);have n2_ := As_ ((by rw [hg];exact (bwZ (zb0 HB.out)) : w.heap.size ≤ gb364));have n3_ := As_ ((by rw [hg];exact (bwZ (zb0 HB.out)) : w.heap.size ≤ gb364));clear HB;revert n0_ n1_ n2_ n3_;intro HB BK364 GW364 GE364;clear hb hbox hg)|((with_reducible refine gate_dst (N := 3) rfl ?_);refine box_event ?hg (N := 3) ?hd (cs := #[.slice A1_0 l1_0.length c1_0,.int .i64 a1_1]) (t := 29) ?hr ?_;(case hd => rfl);(case hg => rfl);(case hr => go_simp <;> rfl);intro gb365 hg w7 hbox hb;have n0_ := As_ (zkb BK364.out hb);have n1_ := As_ (bwT (zb1 HB.out GE364.out) hb);have n2_ := As_ (hbox);have n3_ := As_ ((by rw [hg];exact (bwZ (zb1 HB.out GE364.out)) : w.heap.size ≤ gb365));have n4_ := As_ ((by rw [hg];exact (bwZ (zb1 HB.out GE364.out)) : w.heap.size ≤ gb365));have n5_ := As_ ((by rw [hg];exact Nat.ne_of_lt (zkl BK364.out) : gb364 ≠ gb365));have n6_ := As_ ((by rw [hg];exact Nat.ne_of_gt (zkl BK364.out) : gb365 ≠ gb364));clear BK364 HB;revert n0_ n1_ n2_ n3_ n4_ n5_ n6_;intro BK364 HB BK365 GW365 GE365 NB364_365 NB365_364;clear hb hbox hg;have hnb8 := NB364_365.out;have hnc8 := NB365_364.out;obtain ⟨hcz9_0,hcz9_1,hfz9_0,hfz9_1⟩ := bk2 BK364.out;obtain ⟨hcz10_0,hcz10_1,hfz10_0,hfz10_1⟩ := bk2 BK365.out)|((with_reducible refine gate_callee (f := 55) rfl ?_);refine goesL_ (some 9) rfl rfl Try.func55 (by kernel_rfl) rfl #[.slice A0_0 l0_0.length c0_0,.slice A1_0 l1_0.length c1_0] rfl zM_ ?_;(with_reducible refine (laws_eqNodeS.calls k _ _ l0_0 _ _ l1_0 true _ ?side1 ?side2 ?side3 ?side4 A3.out).mono ?_);(case side1 => exact zC_ (Kd.C_below HR0_0.out HB.out));(case side2 => exact HC0_0.out);(case side3 => exact zC_ (Kd.C_below HR1_0.out HB.out));(case side4 => exact HC1_0.out);rintro e w11 ⟨rfl,hb⟩;refine ⟨_,rfl,?_⟩;have n0_ := As_ (zkb BK364.out hb);have n1_ := As_ (zkb BK365.out hb);have n2_ := As_ (bwT (zb2 HB.out GE364.out GE365.out) hb);clear BK364 BK365 HB;revert n0_ n1_ n2_;intro BK364 BK365 HB;obtain ⟨hcz12_0,hcz12_1,hfz12_0,hfz12_1⟩ := bk2 BK364.out;obtain ⟨hcz13_0,hcz13_1,hfz13_0,hfz13_1⟩ := bk2 BK365.out))
 go_ret
 exact ⟨zE_,zb2 HB.out GE364.out GE365.out⟩
end Go.Proofs.Ytfhakhbmbnbneaa.Q
