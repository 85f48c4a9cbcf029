-- Written by wip/tools/qprint.py (a program of this claim's author) by means of the kit's printer.
import Derived.Test.YtbokjhdhpmmpfaaQ0
import Derived.Test.YtbokjhdhpmmpfaaQ56
namespace Go.Proofs.Ytbokjhdhpmmpfaa.Q
open Go.RowKit Go.Proofs.YtbokjhdhpmmpfaaW.PrintWords Go.Proofs.YtbokjhdhpmmpfaaW.PrintLast Go.Proofs.YtbokjhdhpmmpfaaW.PrintMore
attribute [local go_sem] max2_int min2_int max_two min_two max_three min_three max_four min_four   -- for this text's walks alone
set_option linter.unusedVariables false
set_option linter.unusedSimpArgs false

/-! ### spec_placeIn: function 99 -/
def spec_placeIn.l0 : Nat → List Int → Int → Int → Option (Int)
 | 0,_,_,_ => none
 | k + 1,x0,x1,x5 => if x5 < (x0.length : Int) then (if 0 ≤ x5 then (if (rd x0 x5) = x1 then (some x5) else (spec_placeIn.l0 k x0 x1 (wrap64 (x5 + 1)))) else (none)) else (some (-1))
def spec_placeIn.f (k : Nat) (l0 : List Int) (a1 : Int) : Option (Int) := spec_placeIn.l0 k l0 a1 0
set_option maxRecDepth 100000 in
theorem spec_placeIn.mono_l : ∀ k,(∀ y0 y1 y2,LeO (spec_placeIn.l0 k y0 y1 y2) (spec_placeIn.l0 (k + 1) y0 y1 y2))
 | 0 => fun _ _ _ r h => (by cases h)
 | k + 1 => by
  have ih0 := spec_placeIn.mono_l k
  ·intro y0 y1 y2
   unfold spec_placeIn.l0
   repeat' first
   | (with_reducible exact ih0 _ _ _)
   | (with_reducible exact LeO.refl _)
   | (with_reducible exact LeO.none _)
   | (with_reducible refine LeO.ite ?_ ?_)
   | (with_reducible refine LeO.bind ?_ (fun _ => ?_))
   | exact ih0 _ _ _
   | exact LeO.none _
   | refine LeO.ite ?_ ?_
   | refine LeO.bind ?_ (fun _ => ?_)
set_option maxRecDepth 100000 in
theorem spec_placeIn.mono : ∀ a0 a1 k,LeO (spec_placeIn.f k a0 a1) (spec_placeIn.f (k + 1) a0 a1) := by
 intro a0 a1 k
 have ih0 := spec_placeIn.mono_l k
 unfold spec_placeIn.f
 repeat' first
   | (with_reducible exact ih0 _ _ _)
   | (with_reducible exact LeO.refl _)
   | (with_reducible exact LeO.none _)
   | (with_reducible refine LeO.ite ?_ ?_)
   | (with_reducible refine LeO.bind ?_ (fun _ => ?_))
   | exact ih0 _ _ _
   | exact LeO.none _
   | refine LeO.ite ?_ ?_
   | refine LeO.bind ?_ (fun _ => ?_)
set_option maxHeartbeats 8000000 in
set_option maxRecDepth 100000 in
theorem spec_placeIn.calls (k : Nat) (A0 : Option Addr) (c0 : Nat) (l0 : List Int) (a1 : Int) (r : Int) (w : World) (hr0 : Kd.C (Kd.int .i64) w A0 l0.length l0) (hc0 : l0.length ≤ c0) (h : spec_placeIn.f k l0 a1 = some r) :
  Calls Try.prog 99 #[.slice A0 l0.length c0,.int .i64 a1] w fun e w' => e = .returned (.int .i64 r) ∧ Drawn0 w w' := by
 have HR0 := As_ hr0
 have HC0 := As_ hc0
 clear hr0 hc0
 have H : (spec_placeIn.l0 k l0 a1 0) = some r := h
 clear h
 have H' := As_ H
 clear H
 go_enter Try.func99,Try.ntmps99
 go_wp2
 go_loopg [5] k (fun kq v5 w' => ∃ (x5_1 : Int),v5 = .int .i64 x5_1 ∧ Aside0 (spec_placeIn.l0 kq l0 a1 x5_1 = some r) ∧ Aside0 (kq ≤ k) ∧ Drawn0 w w')
 case atStart => exact ⟨(0),zT_,H',⟨Nat.le_refl _⟩,by repeat (first|exact Drawn0.refl _|apply Drawn0.step)⟩
 case round =>
  clear H'
  obtain ⟨x5_1,rfl,HA,HK1,⟨m1,rfl⟩⟩ := hrel
  cases gk with
  | zero => exact absurd HA.out (fun h_ => (by cases h_))
  | succ k1 =>
   have H := HA.out
   clear HA
   simp only [spec_placeIn.l0] at H
   by_cases c3 : x5_1 < (l0.length : Int)
   rotate_left
   ·rw [if_neg c3] at H
    have c3b0 : decide (x5_1 < (l0.length : Int)) = false := deF c3
    clear c3
    obtain rfl := Option.some.inj H
    go_wp2
    go_ret
    exact ⟨by first|rfl|(simp;done)|(simp [*];done),by repeat (first|exact Drawn0.refl _|apply Drawn0.step)⟩

   rw [if_pos c3] at H
   have c3b0 : decide (x5_1 < (l0.length : Int)) = true := deT c3
   clear c3
   by_cases c4 : 0 ≤ x5_1
   rotate_left
   ·rw [if_neg c4] at H
    exact absurd H (by simp)
   rw [if_pos c4] at H
   have c4b0 : decide (0 ≤ x5_1) = true := deT c4
   clear c4
   by_cases c5 : (rd l0 x5_1) = a1
   ·rw [if_pos c5] at H
    have c5b0 : ((rd l0 x5_1) == a1) = true := beq_iff_eq.mpr c5
    have c5b1 : ((rd l0 x5_1) != a1) = false := bne_eq_false_iff_eq.mpr c5
    clear c5
    obtain rfl := Option.some.inj H
    have p529 : 0 ≤ (x5_1 : Int) := odT zA_
    have q529 : x5_1 < (l0.length : Int) := odT zA_
    obtain ⟨ad529,e529,hx529_0⟩ := Kd.at_int HR0.out x5_1 p529 q529
    cases e529
    replace p529 := eq_true p529
    replace q529 := eq_true q529
    go_wp2
    go_ret
    exact ⟨by first|rfl|(simp;done)|(simp [*];done),by repeat (first|exact Drawn0.refl _|apply Drawn0.step)⟩
   rw [if_neg c5] at H
   have c5b0 : ((rd l0 x5_1) == a1) = false := beq_eq_false_iff_ne.mpr c5
   have c5b1 : ((rd l0 x5_1) != a1) = true := bne_iff_ne.mpr c5
   have H' := As_ H
   clear H
   have p529 : 0 ≤ (x5_1 : Int) := odT zA_
   have q529 : x5_1 < (l0.length : Int) := odT zA_
   obtain ⟨ad529,e529,hx529_0⟩ := Kd.at_int HR0.out x5_1 p529 q529
   cases e529
   replace p529 := eq_true p529
   replace q529 := eq_true q529
   go_wp2
   go_roundg k1
   case measure => have := HK1.out;omega
   case rel => exact ⟨(wrap64 (x5_1 + 1)),zT_,H',⟨by have := HK1.out;omega⟩,by repeat (first|exact Drawn0.refl _|apply Drawn0.step)⟩
/-! ### spec_validRules: function 69 -/
def spec_validRules.l0 : Nat → Int → Int → Int → Int → List Int → Option (Bool)
 | 0,_,_,_,_,_ => none
 | k + 1,x3,x531000,x531001,x531002,x531003 => if x3 < (x531003.length : Int) then (if 0 ≤ x3 then ((spec_inRange.f (rd x531003 x3) 0 9).bind fun t535 => (if t535 = true then (if x3 ≤ (x531003.length : Int) then ((spec_placeIn.f k (x531003.take (x3 : Int).toNat) (rd x531003 x3)).bind fun t538 => (if t538 ≥ 0 then (some false) else (spec_validRules.l0 k (wrap64 (x3 + 1)) x531000 x531001 x531002 x531003))) else (none)) else (some false))) else (none)) else ((spec_inRange.f x531000 0 300).bind fun t531 => (if t531 = true then ((spec_inRange.f x531001 0 300).bind fun t532 => (if t532 = true then ((spec_inRange.f x531002 0 300).bind fun t533 => (some t533)) else (some false))) else (some false)))
def spec_validRules.f (k : Nat) (a0_0 : Int) (a0_1 : Int) (a0_2 : Int) (l0_3 : List Int) : Option (Bool) := spec_validRules.l0 k 0 a0_0 a0_1 a0_2 l0_3
set_option maxRecDepth 100000 in
theorem spec_validRules.mono_l : ∀ k,(∀ y0 y1 y2 y3 y4,LeO (spec_validRules.l0 k y0 y1 y2 y3 y4) (spec_validRules.l0 (k + 1) y0 y1 y2 y3 y4))
 | 0 => fun _ _ _ _ _ r h => (by cases h)
 | k + 1 => by
  have ih0 := spec_validRules.mono_l k
  ·intro y0 y1 y2 y3 y4
   unfold spec_validRules.l0
   repeat' first
   | (with_reducible exact ih0 _ _ _ _ _)
   | (with_reducible exact spec_placeIn.mono _ _ _)
   | (with_reducible exact LeO.refl _)
   | (with_reducible exact LeO.none _)
   | (with_reducible refine LeO.ite ?_ ?_)
   | (with_reducible refine LeO.bind ?_ (fun _ => ?_))
   | exact ih0 _ _ _ _ _
   | exact spec_placeIn.mono _ _ _
   | exact LeO.none _
   | refine LeO.ite ?_ ?_
   | refine LeO.bind ?_ (fun _ => ?_)
set_option maxRecDepth 100000 in
theorem spec_validRules.mono : ∀ a0 a1 a2 a3 k,LeO (spec_validRules.f k a0 a1 a2 a3) (spec_validRules.f (k + 1) a0 a1 a2 a3) := by
 intro a0 a1 a2 a3 k
 have ih0 := spec_validRules.mono_l k
 unfold spec_validRules.f
 repeat' first
   | (with_reducible exact ih0 _ _ _ _ _)
   | (with_reducible exact spec_placeIn.mono _ _ _)
   | (with_reducible exact LeO.refl _)
   | (with_reducible exact LeO.none _)
   | (with_reducible refine LeO.ite ?_ ?_)
   | (with_reducible refine LeO.bind ?_ (fun _ => ?_))
   | exact ih0 _ _ _ _ _
   | exact spec_placeIn.mono _ _ _
   | exact LeO.none _
   | refine LeO.ite ?_ ?_
   | refine LeO.bind ?_ (fun _ => ?_)
set_option maxHeartbeats 8000000 in
set_option maxRecDepth 100000 in
theorem spec_validRules.calls (k : Nat) (a0_0 : Int) (a0_1 : Int) (a0_2 : Int) (A0_3 : Option Addr) (c0_3 : Nat) (l0_3 : List Int) (r : Bool) (w : World) (hr0_3 : Kd.C (Kd.int .i64) w A0_3 l0_3.length l0_3) (hc0_3 : l0_3.length ≤ c0_3) (h : spec_validRules.f k a0_0 a0_1 a0_2 l0_3 = some r) :
  Calls Try.prog 69 #[.agg #[.int .i64 a0_0,.int .i64 a0_1,.int .i64 a0_2,.slice A0_3 l0_3.length c0_3]] w fun e w' => e = .returned (.bool r) ∧ Below w.heap.size w w' := by
 have hu47 := Try.underlying47
 have HR0_3 := As_ hr0_3
 have HC0_3 := As_ hc0_3
 clear hr0_3 hc0_3
 have HB := As_ (Below.refl w.heap.size w)
 have H : (spec_validRules.l0 k 0 a0_0 a0_1 a0_2 l0_3) = some r := h
 clear h
 have H' := As_ H
 clear H
 go_enter Try.func69,Try.ntmps69
 go_wp2_with (first|((with_reducible refine gate_dst (N := 1) rfl ?_);refine box_event ?hg (N := 1) ?hd (cs := #[.int .i64 a0_0,.int .i64 a0_1,.int .i64 a0_2,.slice A0_3 l0_3.length c0_3]) (t := 47) ?hr ?_;(case hd => rfl);(case hg => rfl);(case hr => go_simp <;> rfl);intro gb530 hg w2 hbox hb;have n0_ := As_ (bwT (zb0 HB.out) hb);have n1_ := As_ (hbox);have n2_ := As_ ((by rw [hg];exact (bwZ (zb0 HB.out)) : w.heap.size ≤ gb530));have n3_ := As_ ((by rw [hg];exact (bwZ (zb0 HB.out)) : w.heap.size ≤ gb530));clear HB;revert n0_ n1_ n2_ n3_;intro HB BK530 GW530 GE530;clear hb hbox hg))
 repeat (go_quiet (first|((with_reducible refine gate_dst (N := 1) rfl ?_);refine box_event ?hg (N := 1) ?hd (cs := #[.int .i64 a0_0,.int .i64 a0_1,.int .i64 a0_2,.slice A0_3 l0_3.length c0_3]) (t := 47) ?hr ?_;(case hd => rfl);(case hg => rfl);(case hr => go_simp <;> rfl);intro gb530 hg w2 hbox hb;have n0_ := As_ (bwT (zb0 HB.out) hb);have n1_ := As_ (hbox);have n2_ := As_ ((by rw [hg];exact (bwZ (zb0 HB.out)) : w.heap.size ≤ gb530));have n3_ := As_ ((by rw [hg];exact (bwZ (zb0 HB.out)) : w.heap.size ≤ gb530));clear HB;revert n0_ n1_ n2_ n3_;intro HB BK530 GW530 GE530;clear hb hbox hg));try go_wp2_with (first|((with_reducible refine gate_dst (N := 1) rfl ?_);refine box_event ?hg (N := 1) ?hd (cs := #[.int .i64 a0_0,.int .i64 a0_1,.int .i64 a0_2,.slice A0_3 l0_3.length c0_3]) (t := 47) ?hr ?_;(case hd => rfl);(case hg => rfl);(case hr => go_simp <;> rfl);intro gb530 hg w2 hbox hb;have n0_ := As_ (bwT (zb0 HB.out) hb);have n1_ := As_ (hbox);have n2_ := As_ ((by rw [hg];exact (bwZ (zb0 HB.out)) : w.heap.size ≤ gb530));have n3_ := As_ ((by rw [hg];exact (bwZ (zb0 HB.out)) : w.heap.size ≤ gb530));clear HB;revert n0_ n1_ n2_ n3_;intro HB BK530 GW530 GE530;clear hb hbox hg)))
 go_loopg [3] k (fun kq v3 w' => ∃ (x3_1 : Int),v3 = .int .i64 x3_1 ∧ Aside0 (spec_validRules.l0 kq x3_1 a0_0 a0_1 a0_2 l0_3 = some r) ∧ Aside0 (kq ≤ k) ∧ Aside0 (w'.heap[gb530]? = some (.cells #[.int .i64 a0_0,.int .i64 a0_1,.int .i64 a0_2,(.slice A0_3 l0_3.length c0_3)] 47 (0,0))) ∧ Aside0 (Below w.heap.size w w'))
 case atStart => exact ⟨(0),zT_,H',⟨Nat.le_refl _⟩,⟨by (with_reducible repeat first|apply bkN|apply bkD|apply bkA);exact BK530.out⟩,⟨zb1 HB.out GE530.out⟩⟩
 case round =>
  clear H'
  obtain ⟨x3_1,rfl,HA,HK1,BK530,HB⟩ := hrel
  cases gk with
  | zero => exact absurd HA.out (fun h_ => (by cases h_))
  | succ k1 =>
   have H := HA.out
   clear HA
   simp only [spec_validRules.l0] at H
   by_cases c3 : x3_1 < (l0_3.length : Int)
   rotate_left
   ·rw [if_neg c3] at H
    have c3b0 : decide (x3_1 < (l0_3.length : Int)) = false := deF c3
    clear c3
    replace H := obS H
    obtain ⟨t531,A160,H⟩ := H
    replace H : (if t531 = true then ((spec_inRange.f a0_1 0 300).bind fun t532 => (if t532 = true then ((spec_inRange.f a0_2 0 300).bind fun t533 => (some t533)) else (some false))) else (some false)) = some r := H
    have A16 := As_ A160
    clear A160
    by_cases c17 : t531 = true
    rotate_left
    ·replace c17 := Bool.eq_false_iff.mpr c17
     subst c17
     have H1 : (some false) = some r := by rw [if_neg (show ¬ (false = true) by decide)] at H;exact H
     clear H
     have H := H1
     clear H1
     obtain rfl := Option.some.inj H
     have hcz23_0 : wr.cell? ⟨gb530,0,none⟩ = some (.int .i64 a0_0) := (bkC BK530.out 0).trans rfl
     have hcz23_1 : wr.cell? ⟨gb530,1,none⟩ = some (.int .i64 a0_1) := (bkC BK530.out 1).trans rfl
     have hcz23_2 : wr.cell? ⟨gb530,2,none⟩ = some (.int .i64 a0_2) := (bkC BK530.out 2).trans rfl
     have hcz23_3 : wr.cell? ⟨gb530,3,none⟩ = some (.slice A0_3 l0_3.length c0_3) := (bkC BK530.out 3).trans rfl
     have hfz23_0 := bkF BK530.out 0
     have hfz23_1 := bkF BK530.out 1
     have hfz23_2 := bkF BK530.out 2
     have hfz23_3 := bkF BK530.out 3
     go_wp2_with (first|(go_at_call 56;(with_reducible refine (spec_inRange.calls a0_0 0 300 false _ A16.out).mono ?_);rintro e w' ⟨rfl,⟨nd,rfl⟩⟩;(try first|exact ⟨rfl,_,World.drewN_drewN _ _ _⟩|exact ⟨rfl,_,Eq.trans (World.drewN_drewN _ _ _) (congrArg (World.drewN _) (Nat.add_assoc _ _ _))⟩)))
     repeat (go_quiet (first|(go_at_call 56;(with_reducible refine (spec_inRange.calls a0_0 0 300 false _ A16.out).mono ?_);rintro e w' ⟨rfl,⟨nd,rfl⟩⟩;(try first|exact ⟨rfl,_,World.drewN_drewN _ _ _⟩|exact ⟨rfl,_,Eq.trans (World.drewN_drewN _ _ _) (congrArg (World.drewN _) (Nat.add_assoc _ _ _))⟩)));try go_wp2_with (first|(go_at_call 56;(with_reducible refine (spec_inRange.calls a0_0 0 300 false _ A16.out).mono ?_);rintro e w' ⟨rfl,⟨nd,rfl⟩⟩;(try first|exact ⟨rfl,_,World.drewN_drewN _ _ _⟩|exact ⟨rfl,_,Eq.trans (World.drewN_drewN _ _ _) (congrArg (World.drewN _) (Nat.add_assoc _ _ _))⟩))))
     go_ret
     exact ⟨zE_,zb1 HB.out GE530.out⟩

    subst c17
    have H1 : ((spec_inRange.f a0_1 0 300).bind fun t532 => (if t532 = true then ((spec_inRange.f a0_2 0 300).bind fun t533 => (some t533)) else (some false))) = some r := by rw [if_pos rfl] at H;exact H
    clear H
    have H := H1
    clear H1
    replace H := obS H
    obtain ⟨t532,A180,H⟩ := H
    replace H : (if t532 = true then ((spec_inRange.f a0_2 0 300).bind fun t533 => (some t533)) else (some false)) = some r := H
    have A18 := As_ A180
    clear A180
    by_cases c19 : t532 = true
    rotate_left
    ·replace c19 := Bool.eq_false_iff.mpr c19
     subst c19
     have H1 : (some false) = some r := by rw [if_neg (show ¬ (false = true) by decide)] at H;exact H
     clear H
     have H := H1
     clear H1
     obtain rfl := Option.some.inj H
     have hcz22_0 : wr.cell? ⟨gb530,0,none⟩ = some (.int .i64 a0_0) := (bkC BK530.out 0).trans rfl
     have hcz22_1 : wr.cell? ⟨gb530,1,none⟩ = some (.int .i64 a0_1) := (bkC BK530.out 1).trans rfl
     have hcz22_2 : wr.cell? ⟨gb530,2,none⟩ = some (.int .i64 a0_2) := (bkC BK530.out 2).trans rfl
     have hcz22_3 : wr.cell? ⟨gb530,3,none⟩ = some (.slice A0_3 l0_3.length c0_3) := (bkC BK530.out 3).trans rfl
     have hfz22_0 := bkF BK530.out 0
     have hfz22_1 := bkF BK530.out 1
     have hfz22_2 := bkF BK530.out 2
     have hfz22_3 := bkF BK530.out 3
     go_wp2_with (first|(go_at_call 56;(with_reducible refine (spec_inRange.calls a0_0 0 300 true _ A16.out).mono ?_);rintro e w' ⟨rfl,⟨nd,rfl⟩⟩;(try first|exact ⟨rfl,_,World.drewN_drewN _ _ _⟩|exact ⟨rfl,_,Eq.trans (World.drewN_drewN _ _ _) (congrArg (World.drewN _) (Nat.add_assoc _ _ _))⟩))|(go_at_call 56;(with_reducible refine (spec_inRange.calls a0_1 0 300 false _ A18.out).mono ?_);rintro e w' ⟨rfl,⟨nd,rfl⟩⟩;(try first|exact ⟨rfl,_,World.drewN_drewN _ _ _⟩|exact ⟨rfl,_,Eq.trans (World.drewN_drewN _ _ _) (congrArg (World.drewN _) (Nat.add_assoc _ _ _))⟩)))
     repeat (go_quiet (first|(go_at_call 56;(with_reducible refine (spec_inRange.calls a0_0 0 300 true _ A16.out).mono ?_);rintro e w' ⟨rfl,⟨nd,rfl⟩⟩;(try first|exact ⟨rfl,_,World.drewN_drewN _ _ _⟩|exact ⟨rfl,_,Eq.trans (World.drewN_drewN _ _ _) (congrArg (World.drewN _) (Nat.add_assoc _ _ _))⟩))|(go_at_call 56;(with_reducible refine (spec_inRange.calls a0_1 0 300 false _ A18.out).mono ?_);rintro e w' ⟨rfl,⟨nd,rfl⟩⟩;(try first|exact ⟨rfl,_,World.drewN_drewN _ _ _⟩|exact ⟨rfl,_,Eq.trans (World.drewN_drewN _ _ _) (congrArg (World.drewN _) (Nat.add_assoc _ _ _))⟩)));try go_wp2_with (first|(go_at_call 56;(with_reducible refine (spec_inRange.calls a0_0 0 300 true _ A16.out).mono ?_);rintro e w' ⟨rfl,⟨nd,rfl⟩⟩;(try first|exact ⟨rfl,_,World.drewN_drewN _ _ _⟩|exact ⟨rfl,_,Eq.trans (World.drewN_drewN _ _ _) (congrArg (World.drewN _) (Nat.add_assoc _ _ _))⟩))|(go_at_call 56;(with_reducible refine (spec_inRange.calls a0_1 0 300 false _ A18.out).mono ?_);rintro e w' ⟨rfl,⟨nd,rfl⟩⟩;(try first|exact ⟨rfl,_,World.drewN_drewN _ _ _⟩|exact ⟨rfl,_,Eq.trans (World.drewN_drewN _ _ _) (congrArg (World.drewN _) (Nat.add_assoc _ _ _))⟩))))
     go_ret
     exact ⟨zE_,zb1 HB.out GE530.out⟩
    subst c19
    have H1 : ((spec_inRange.f a0_2 0 300).bind fun t533 => (some t533)) = some r := by rw [if_pos rfl] at H;exact H
    clear H
    have H := H1
    clear H1
    replace H := obS H
    obtain ⟨t533,A200,H⟩ := H
    replace H : (some t533) = some r := H
    have A20 := As_ A200
    clear A200
    obtain rfl := Option.some.inj H
    have hcz21_0 : wr.cell? ⟨gb530,0,none⟩ = some (.int .i64 a0_0) := (bkC BK530.out 0).trans rfl
    have hcz21_1 : wr.cell? ⟨gb530,1,none⟩ = some (.int .i64 a0_1) := (bkC BK530.out 1).trans rfl
    have hcz21_2 : wr.cell? ⟨gb530,2,none⟩ = some (.int .i64 a0_2) := (bkC BK530.out 2).trans rfl
    have hcz21_3 : wr.cell? ⟨gb530,3,none⟩ = some (.slice A0_3 l0_3.length c0_3) := (bkC BK530.out 3).trans rfl
    have hfz21_0 := bkF BK530.out 0
    have hfz21_1 := bkF BK530.out 1
    have hfz21_2 := bkF BK530.out 2
    have hfz21_3 := bkF BK530.out 3
    go_wp2_with (first|(go_at_call 56;(with_reducible refine (spec_inRange.calls a0_0 0 300 true _ A16.out).mono ?_);rintro e w' ⟨rfl,⟨nd,rfl⟩⟩;(try first|exact ⟨rfl,_,World.drewN_drewN _ _ _⟩|exact ⟨rfl,_,Eq.trans (World.drewN_drewN _ _ _) (congrArg (World.drewN _) (Nat.add_assoc _ _ _))⟩))|(go_at_call 56;(with_reducible refine (spec_inRange.calls a0_1 0 300 true _ A18.out).mono ?_);rintro e w' ⟨rfl,⟨nd,rfl⟩⟩;(try first|exact ⟨rfl,_,World.drewN_drewN _ _ _⟩|exact ⟨rfl,_,Eq.trans (World.drewN_drewN _ _ _) (congrArg (World.drewN _) (Nat.add_assoc _ _ _))⟩))|(go_at_call 56;(with_reducible refine (spec_inRange.calls a0_2 0 300 t533 _ A20.out).mono ?_);rintro e w' ⟨rfl,⟨nd,rfl⟩⟩;(try first|exact ⟨rfl,_,World.drewN_drewN _ _ _⟩|exact ⟨rfl,_,Eq.trans (World.drewN_drewN _ _ _) (congrArg (World.drewN _) (Nat.add_assoc _ _ _))⟩)))
    repeat (go_quiet (first|(go_at_call 56;(with_reducible refine (spec_inRange.calls a0_0 0 300 true _ A16.out).mono ?_);rintro e w' ⟨rfl,⟨nd,rfl⟩⟩;(try first|exact ⟨rfl,_,World.drewN_drewN _ _ _⟩|exact ⟨rfl,_,Eq.trans (World.drewN_drewN _ _ _) (congrArg (World.drewN _) (Nat.add_assoc _ _ _))⟩))|(go_at_call 56;(with_reducible refine (spec_inRange.calls a0_1 0 300 true _ A18.out).mono ?_);rintro e w' ⟨rfl,⟨nd,rfl⟩⟩;(try first|exact ⟨rfl,_,World.drewN_drewN _ _ _⟩|exact ⟨rfl,_,Eq.trans (World.drewN_drewN _ _ _) (congrArg (World.drewN _) (Nat.add_assoc _ _ _))⟩))|(go_at_call 56;(with_reducible refine (spec_inRange.calls a0_2 0 300 t533 _ A20.out).mono ?_);rintro e w' ⟨rfl,⟨nd,rfl⟩⟩;(try first|exact ⟨rfl,_,World.drewN_drewN _ _ _⟩|exact ⟨rfl,_,Eq.trans (World.drewN_drewN _ _ _) (congrArg (World.drewN _) (Nat.add_assoc _ _ _))⟩)));try go_wp2_with (first|(go_at_call 56;(with_reducible refine (spec_inRange.calls a0_0 0 300 true _ A16.out).mono ?_);rintro e w' ⟨rfl,⟨nd,rfl⟩⟩;(try first|exact ⟨rfl,_,World.drewN_drewN _ _ _⟩|exact ⟨rfl,_,Eq.trans (World.drewN_drewN _ _ _) (congrArg (World.drewN _) (Nat.add_assoc _ _ _))⟩))|(go_at_call 56;(with_reducible refine (spec_inRange.calls a0_1 0 300 true _ A18.out).mono ?_);rintro e w' ⟨rfl,⟨nd,rfl⟩⟩;(try first|exact ⟨rfl,_,World.drewN_drewN _ _ _⟩|exact ⟨rfl,_,Eq.trans (World.drewN_drewN _ _ _) (congrArg (World.drewN _) (Nat.add_assoc _ _ _))⟩))|(go_at_call 56;(with_reducible refine (spec_inRange.calls a0_2 0 300 t533 _ A20.out).mono ?_);rintro e w' ⟨rfl,⟨nd,rfl⟩⟩;(try first|exact ⟨rfl,_,World.drewN_drewN _ _ _⟩|exact ⟨rfl,_,Eq.trans (World.drewN_drewN _ _ _) (congrArg (World.drewN _) (Nat.add_assoc _ _ _))⟩))))
    go_ret
    exact ⟨zE_,zb1 HB.out GE530.out⟩
   rw [if_pos c3] at H
   have c3b0 : decide (x3_1 < (l0_3.length : Int)) = true := deT c3
   clear c3
   by_cases c4 : 0 ≤ x3_1
   rotate_left
   ·rw [if_neg c4] at H
    exact absurd H (by simp)
   rw [if_pos c4] at H
   have c4b0 : decide (0 ≤ x3_1) = true := deT c4
   clear c4
   replace H := obS H
   obtain ⟨t535,A50,H⟩ := H
   replace H : (if t535 = true then (if x3_1 ≤ (l0_3.length : Int) then ((spec_placeIn.f k1 (l0_3.take (x3_1 : Int).toNat) (rd l0_3 x3_1)).bind fun t538 => (if t538 ≥ 0 then (some false) else (spec_validRules.l0 k1 (wrap64 (x3_1 + 1)) a0_0 a0_1 a0_2 l0_3))) else (none)) else (some false)) = some r := H
   have A5 := As_ A50
   clear A50
   by_cases c6 : t535 = true
   rotate_left
   ·replace c6 := Bool.eq_false_iff.mpr c6
    subst c6
    have H1 : (some false) = some r := by rw [if_neg (show ¬ (false = true) by decide)] at H;exact H
    clear H
    have H := H1
    clear H1
    obtain rfl := Option.some.inj H
    have hcz15_0 : wr.cell? ⟨gb530,0,none⟩ = some (.int .i64 a0_0) := (bkC BK530.out 0).trans rfl
    have hcz15_1 : wr.cell? ⟨gb530,1,none⟩ = some (.int .i64 a0_1) := (bkC BK530.out 1).trans rfl
    have hcz15_2 : wr.cell? ⟨gb530,2,none⟩ = some (.int .i64 a0_2) := (bkC BK530.out 2).trans rfl
    have hcz15_3 : wr.cell? ⟨gb530,3,none⟩ = some (.slice A0_3 l0_3.length c0_3) := (bkC BK530.out 3).trans rfl
    have hfz15_0 := bkF BK530.out 0
    have hfz15_1 := bkF BK530.out 1
    have hfz15_2 := bkF BK530.out 2
    have hfz15_3 := bkF BK530.out 3
    have p534 : 0 ≤ (x3_1 : Int) := odT zA_
    have q534 : x3_1 < (l0_3.length : Int) := odT zA_
    obtain ⟨ad534,e534,hx534_0⟩ := Kd.at_int HR0_3.out x3_1 p534 q534
    cases e534
    replace hx534_0 := bwC HB.out hx534_0
    replace p534 := eq_true p534
    replace q534 := eq_true q534
    go_wp2_with (first|(go_at_call 56;(with_reducible refine (spec_inRange.calls (rd l0_3 x3_1) 0 9 false _ A5.out).mono ?_);rintro e w' ⟨rfl,⟨nd,rfl⟩⟩;(try first|exact ⟨rfl,_,World.drewN_drewN _ _ _⟩|exact ⟨rfl,_,Eq.trans (World.drewN_drewN _ _ _) (congrArg (World.drewN _) (Nat.add_assoc _ _ _))⟩)))
    repeat (go_quiet (first|(go_at_call 56;(with_reducible refine (spec_inRange.calls (rd l0_3 x3_1) 0 9 false _ A5.out).mono ?_);rintro e w' ⟨rfl,⟨nd,rfl⟩⟩;(try first|exact ⟨rfl,_,World.drewN_drewN _ _ _⟩|exact ⟨rfl,_,Eq.trans (World.drewN_drewN _ _ _) (congrArg (World.drewN _) (Nat.add_assoc _ _ _))⟩)));try go_wp2_with (first|(go_at_call 56;(with_reducible refine (spec_inRange.calls (rd l0_3 x3_1) 0 9 false _ A5.out).mono ?_);rintro e w' ⟨rfl,⟨nd,rfl⟩⟩;(try first|exact ⟨rfl,_,World.drewN_drewN _ _ _⟩|exact ⟨rfl,_,Eq.trans (World.drewN_drewN _ _ _) (congrArg (World.drewN _) (Nat.add_assoc _ _ _))⟩))))
    go_ret
    exact ⟨zE_,zb1 HB.out GE530.out⟩
   subst c6
   have H1 : (if x3_1 ≤ (l0_3.length : Int) then ((spec_placeIn.f k1 (l0_3.take (x3_1 : Int).toNat) (rd l0_3 x3_1)).bind fun t538 => (if t538 ≥ 0 then (some false) else (spec_validRules.l0 k1 (wrap64 (x3_1 + 1)) a0_0 a0_1 a0_2 l0_3))) else (none)) = some r := by rw [if_pos rfl] at H;exact H
   clear H
   have H := H1
   clear H1
   have c7b0 := eq_true (odT zA_ : 0 ≤ x3_1)
   by_cases c8 : x3_1 ≤ (l0_3.length : Int)
   rotate_left
   ·rw [if_neg c8] at H
    exact absurd H (by simp)
   rw [if_pos c8] at H
   have c8b0 := eq_true c8
   have c8b1 : decide (x3_1 ≤ (l0_3.length : Int)) = true := deT c8
   clear c8
   replace H := obS H
   obtain ⟨t538,A90,H⟩ := H
   replace H : (if t538 ≥ 0 then (some false) else (spec_validRules.l0 k1 (wrap64 (x3_1 + 1)) a0_0 a0_1 a0_2 l0_3)) = some r := H
   have A9 := As_ A90
   clear A90
   by_cases c10 : t538 ≥ 0
   ·rw [if_pos c10] at H
    have c10b0 : decide (0 ≤ t538) = true := deT c10
    clear c10
    obtain rfl := Option.some.inj H
    have hcz11_0 : wr.cell? ⟨gb530,0,none⟩ = some (.int .i64 a0_0) := (bkC BK530.out 0).trans rfl
    have hcz11_1 : wr.cell? ⟨gb530,1,none⟩ = some (.int .i64 a0_1) := (bkC BK530.out 1).trans rfl
    have hcz11_2 : wr.cell? ⟨gb530,2,none⟩ = some (.int .i64 a0_2) := (bkC BK530.out 2).trans rfl
    have hcz11_3 : wr.cell? ⟨gb530,3,none⟩ = some (.slice A0_3 l0_3.length c0_3) := (bkC BK530.out 3).trans rfl
    have hfz11_0 := bkF BK530.out 0
    have hfz11_1 := bkF BK530.out 1
    have hfz11_2 := bkF BK530.out 2
    have hfz11_3 := bkF BK530.out 3
    have p534 : 0 ≤ (x3_1 : Int) := odT zA_
    have q534 : x3_1 < (l0_3.length : Int) := odT zA_
    obtain ⟨ad534,e534,hx534_0⟩ := Kd.at_int HR0_3.out x3_1 p534 q534
    cases e534
    replace hx534_0 := bwC HB.out hx534_0
    replace p534 := eq_true p534
    replace q534 := eq_true q534
    go_wp2_with (first|(go_at_call 56;(with_reducible refine (spec_inRange.calls (rd l0_3 x3_1) 0 9 true _ A5.out).mono ?_);rintro e w' ⟨rfl,⟨nd,rfl⟩⟩;(try first|exact ⟨rfl,_,World.drewN_drewN _ _ _⟩|exact ⟨rfl,_,Eq.trans (World.drewN_drewN _ _ _) (congrArg (World.drewN _) (Nat.add_assoc _ _ _))⟩);obtain ⟨i012,hi012,_,hsz12,_⟩ := info_parts info3;obtain ⟨hcut12,hA12,hC12⟩ := print_take_of (P := Try.prog) (Value.int .i64) 0 22 3 .i64 Try.underlying22 hi012 hsz12 (some ad534) c0_3 l0_3 x3_1 (odT zA_) (odT zA_) HC0_3.out;have HR536 := As_ (Kd.C_of_reads (h1 := fun _ => rfl) (hA12 _ (Kd.reads_of_C HR0_3.out)));have HC536 := As_ hC12;clear hA12 hC12 hi012 hsz12;have p537 : 0 ≤ (x3_1 : Int) := odT zA_;have q537 : x3_1 < (l0_3.length : Int) := odT zA_;obtain ⟨ad537,e537,hx537_0⟩ := Kd.at_int HR0_3.out x3_1 p537 q537;obtain rfl : ad534 = ad537 := (by injection e537);replace hx537_0 := bwC HB.out hx537_0;replace p537 := eq_true p537;replace q537 := eq_true q537)|(go_at_call 99;(try rw [show x3_1.toNat = (List.take (x3_1 : Int).toNat l0_3).length from (by rw [List.length_take];symm;apply Nat.min_eq_left;have q_ : x3_1 < (l0_3.length : Int) := odT (by assumption);omega)]);(with_reducible refine (spec_placeIn.calls k1 _ _ (l0_3.take (x3_1 : Int).toNat) (rd l0_3 x3_1) t538 _ ?side1 ?side2 A9.out).mono ?_);(case side1 => repeat (first|exact (Kd.C_below HR536.out (zb1 HB.out GE530.out))|(with_reducible refine Kd.C_alloc ?_ _)|(with_reducible refine Kd.C_drewN ?_ _)|(with_reducible refine Kd.C_drew ?_)));(case side2 => exact HC536.out);rintro e w' ⟨rfl,⟨nd,rfl⟩⟩;(try first|exact ⟨rfl,_,World.drewN_drewN _ _ _⟩|exact ⟨rfl,_,Eq.trans (World.drewN_drewN _ _ _) (congrArg (World.drewN _) (Nat.add_assoc _ _ _))⟩)))
    try (obtain ⟨i012,hi012,_,hsz12,_⟩ := info_parts info3;obtain ⟨hcut12,hA12,hC12⟩ := print_take_of (P := Try.prog) (Value.int .i64) 0 22 3 .i64 Try.underlying22 hi012 hsz12 (some ad534) c0_3 l0_3 x3_1 (odT zA_) (odT zA_) HC0_3.out;have HR536 := As_ (Kd.C_of_reads (h1 := fun _ => rfl) (hA12 _ (Kd.reads_of_C HR0_3.out)));have HC536 := As_ hC12;clear hA12 hC12 hi012 hsz12;have p537 : 0 ≤ (x3_1 : Int) := odT zA_;have q537 : x3_1 < (l0_3.length : Int) := odT zA_;obtain ⟨ad537,e537,hx537_0⟩ := Kd.at_int HR0_3.out x3_1 p537 q537;obtain rfl : ad534 = ad537 := (by injection e537);replace hx537_0 := bwC HB.out hx537_0;replace p537 := eq_true p537;replace q537 := eq_true q537)
    repeat (go_quiet (first|(go_at_call 56;(with_reducible refine (spec_inRange.calls (rd l0_3 x3_1) 0 9 true _ A5.out).mono ?_);rintro e w' ⟨rfl,⟨nd,rfl⟩⟩;(try first|exact ⟨rfl,_,World.drewN_drewN _ _ _⟩|exact ⟨rfl,_,Eq.trans (World.drewN_drewN _ _ _) (congrArg (World.drewN _) (Nat.add_assoc _ _ _))⟩))|(go_at_call 99;(try rw [show x3_1.toNat = (List.take (x3_1 : Int).toNat l0_3).length from (by rw [List.length_take];symm;apply Nat.min_eq_left;have q_ : x3_1 < (l0_3.length : Int) := odT (by assumption);omega)]);(with_reducible refine (spec_placeIn.calls k1 _ _ (l0_3.take (x3_1 : Int).toNat) (rd l0_3 x3_1) t538 _ ?side1 ?side2 A9.out).mono ?_);(case side1 => repeat (first|exact (Kd.C_below HR536.out (zb1 HB.out GE530.out))|(with_reducible refine Kd.C_alloc ?_ _)|(with_reducible refine Kd.C_drewN ?_ _)|(with_reducible refine Kd.C_drew ?_)));(case side2 => exact HC536.out);rintro e w' ⟨rfl,⟨nd,rfl⟩⟩;(try first|exact ⟨rfl,_,World.drewN_drewN _ _ _⟩|exact ⟨rfl,_,Eq.trans (World.drewN_drewN _ _ _) (congrArg (World.drewN _) (Nat.add_assoc _ _ _))⟩)));try go_wp2_with (first|(go_at_call 56;(with_reducible refine (spec_inRange.calls (rd l0_3 x3_1) 0 9 true _ A5.out).mono ?_);rintro e w' ⟨rfl,⟨nd,rfl⟩⟩;(try first|exact ⟨rfl,_,World.drewN_drewN _ _ _⟩|exact ⟨rfl,_,Eq.trans (World.drewN_drewN _ _ _) (congrArg (World.drewN _) (Nat.add_assoc _ _ _))⟩);obtain ⟨i012,hi012,_,hsz12,_⟩ := info_parts info3;obtain ⟨hcut12,hA12,hC12⟩ := print_take_of (P := Try.prog) (Value.int .i64) 0 22 3 .i64 Try.underlying22 hi012 hsz12 (some ad534) c0_3 l0_3 x3_1 (odT zA_) (odT zA_) HC0_3.out;have HR536 := As_ (Kd.C_of_reads (h1 := fun _ => rfl) (hA12 _ (Kd.reads_of_C HR0_3.out)));have HC536 := As_ hC12;clear hA12 hC12 hi012 hsz12;have p537 : 0 ≤ (x3_1 : Int) := odT zA_;have q537 : x3_1 < (l0_3.length : Int) := odT zA_;obtain ⟨ad537,e537,hx537_0⟩ := Kd.at_int HR0_3.out x3_1 p537 q537;obtain rfl : ad534 = ad537 := (by injection e537);replace hx537_0 := bwC HB.out hx537_0;replace p537 := eq_true p537;replace q537 := eq_true q537)|(go_at_call 99;(try rw [show x3_1.toNat = (List.take (x3_1 : Int).toNat l0_3).length from (by rw [List.length_take];symm;apply Nat.min_eq_left;have q_ : x3_1 < (l0_3.length : Int) := odT (by assumption);omega)]);(with_reducible refine (spec_placeIn.calls k1 _ _ (l0_3.take (x3_1 : Int).toNat) (rd l0_3 x3_1) t538 _ ?side1 ?side2 A9.out).mono ?_);(case side1 => repeat (first|exact (Kd.C_below HR536.out (zb1 HB.out GE530.out))|(with_reducible refine Kd.C_alloc ?_ _)|(with_reducible refine Kd.C_drewN ?_ _)|(with_reducible refine Kd.C_drew ?_)));(case side2 => exact HC536.out);rintro e w' ⟨rfl,⟨nd,rfl⟩⟩;(try first|exact ⟨rfl,_,World.drewN_drewN _ _ _⟩|exact ⟨rfl,_,Eq.trans (World.drewN_drewN _ _ _) (congrArg (World.drewN _) (Nat.add_assoc _ _ _))⟩))))
    go_ret
    exact ⟨zE_,zb1 HB.out GE530.out⟩
   rw [if_neg c10] at H
   have c10b0 : decide (0 ≤ t538) = false := deF c10
   clear c10
   have H' := As_ H
   clear H
   have hcz13_0 : wr.cell? ⟨gb530,0,none⟩ = some (.int .i64 a0_0) := (bkC BK530.out 0).trans rfl
   have hcz13_1 : wr.cell? ⟨gb530,1,none⟩ = some (.int .i64 a0_1) := (bkC BK530.out 1).trans rfl
   have hcz13_2 : wr.cell? ⟨gb530,2,none⟩ = some (.int .i64 a0_2) := (bkC BK530.out 2).trans rfl
   have hcz13_3 : wr.cell? ⟨gb530,3,none⟩ = some (.slice A0_3 l0_3.length c0_3) := (bkC BK530.out 3).trans rfl
   have hfz13_0 := bkF BK530.out 0
   have hfz13_1 := bkF BK530.out 1
   have hfz13_2 := bkF BK530.out 2
   have hfz13_3 := bkF BK530.out 3
   have p534 : 0 ≤ (x3_1 : Int) := odT zA_
   have q534 : x3_1 < (l0_3.length : Int) := odT zA_
   obtain ⟨ad534,e534,hx534_0⟩ := Kd.at_int HR0_3.out x3_1 p534 q534
   cases e534
   replace hx534_0 := bwC HB.out hx534_0
   replace p534 := eq_true p534
   replace q534 := eq_true q534
   go_wp2_with (first|(go_at_call 56;(with_reducible refine (spec_inRange.calls (rd l0_3 x3_1) 0 9 true _ A5.out).mono ?_);rintro e w' ⟨rfl,⟨nd,rfl⟩⟩;(try first|exact ⟨rfl,_,World.drewN_drewN _ _ _⟩|exact ⟨rfl,_,Eq.trans (World.drewN_drewN _ _ _) (congrArg (World.drewN _) (Nat.add_assoc _ _ _))⟩);obtain ⟨i014,hi014,_,hsz14,_⟩ := info_parts info3;obtain ⟨hcut14,hA14,hC14⟩ := print_take_of (P := Try.prog) (Value.int .i64) 0 22 3 .i64 Try.underlying22 hi014 hsz14 (some ad534) c0_3 l0_3 x3_1 (odT zA_) (odT zA_) HC0_3.out;have HR536 := As_ (Kd.C_of_reads (h1 := fun _ => rfl) (hA14 _ (Kd.reads_of_C HR0_3.out)));have HC536 := As_ hC14;clear hA14 hC14 hi014 hsz14;have p537 : 0 ≤ (x3_1 : Int) := odT zA_;have q537 : x3_1 < (l0_3.length : Int) := odT zA_;obtain ⟨ad537,e537,hx537_0⟩ := Kd.at_int HR0_3.out x3_1 p537 q537;obtain rfl : ad534 = ad537 := (by injection e537);replace hx537_0 := bwC HB.out hx537_0;replace p537 := eq_true p537;replace q537 := eq_true q537)|(go_at_call 99;(try rw [show x3_1.toNat = (List.take (x3_1 : Int).toNat l0_3).length from (by rw [List.length_take];symm;apply Nat.min_eq_left;have q_ : x3_1 < (l0_3.length : Int) := odT (by assumption);omega)]);(with_reducible refine (spec_placeIn.calls k1 _ _ (l0_3.take (x3_1 : Int).toNat) (rd l0_3 x3_1) t538 _ ?side1 ?side2 A9.out).mono ?_);(case side1 => repeat (first|exact (Kd.C_below HR536.out (zb1 HB.out GE530.out))|(with_reducible refine Kd.C_alloc ?_ _)|(with_reducible refine Kd.C_drewN ?_ _)|(with_reducible refine Kd.C_drew ?_)));(case side2 => exact HC536.out);rintro e w' ⟨rfl,⟨nd,rfl⟩⟩;(try first|exact ⟨rfl,_,World.drewN_drewN _ _ _⟩|exact ⟨rfl,_,Eq.trans (World.drewN_drewN _ _ _) (congrArg (World.drewN _) (Nat.add_assoc _ _ _))⟩)))
   try (obtain ⟨i014,hi014,_,hsz14,_⟩ := info_parts info3;obtain ⟨hcut14,hA14,hC14⟩ := print_take_of (P := Try.prog) (Value.int .i64) 0 22 3 .i64 Try.underlying22 hi014 hsz14 (some ad534) c0_3 l0_3 x3_1 (odT zA_) (odT zA_) HC0_3.out;have HR536 := As_ (Kd.C_of_reads (h1 := fun _ => rfl) (hA14 _ (Kd.reads_of_C HR0_3.out)));have HC536 := As_ hC14;clear hA14 hC14 hi014 hsz14;have p537 : 0 ≤ (x3_1 : Int) := odT zA_;have q537 : x3_1 < (l0_3.length : Int) := odT zA_;obtain ⟨ad537,e537,hx537_0⟩ := Kd.at_int HR0_3.out x3_1 p537 q537;obtain rfl : ad534 = ad537 := (by injection e537);replace hx537_0 := bwC HB.out hx537_0;replace p537 := eq_true p537;replace q537 := eq_true q537)
   repeat (go_quiet (first|(go_at_call 56;(with_reducible refine (spec_inRange.calls (rd l0_3 x3_1) 0 9 true _ A5.out).mono ?_);rintro e w' ⟨rfl,⟨nd,rfl⟩⟩;(try first|exact ⟨rfl,_,World.drewN_drewN _ _ _⟩|exact ⟨rfl,_,Eq.trans (World.drewN_drewN _ _ _) (congrArg (World.drewN _) (Nat.add_assoc _ _ _))⟩))|(go_at_call 99;(try rw [show x3_1.toNat = (List.take (x3_1 : Int).toNat l0_3).length from (by rw [List.length_take];symm;apply Nat.min_eq_left;have q_ : x3_1 < (l0_3.length : Int) := odT (by assumption);omega)]);(with_reducible refine (spec_placeIn.calls k1 _ _ (l0_3.take (x3_1 : Int).toNat) (rd l0_3 x3_1) t538 _ ?side1 ?side2 A9.out).mono ?_);(case side1 => repeat (first|exact (Kd.C_below HR536.out (zb1 HB.out GE530.out))|(with_reducible refine Kd.C_alloc ?_ _)|(with_reducible refine Kd.C_drewN ?_ _)|(with_reducible refine Kd.C_drew ?_)));(case side2 => exact HC536.out);rintro e w' ⟨rfl,⟨nd,rfl⟩⟩;(try first|exact ⟨rfl,_,World.drewN_drewN _ _ _⟩|exact ⟨rfl,_,Eq.trans (World.drewN_drewN _ _ _) (congrArg (World.drewN _) (Nat.add_assoc _ _ _))⟩)));try go_wp2_with (first|(go_at_call 56;(with_reducible refine (spec_inRange.calls (rd l0_3 x3_1) 0 9 true _ A5.out).mono ?_);rintro e w' ⟨rfl,⟨nd,rfl⟩⟩;(try first|exact ⟨rfl,_,World.drewN_drewN _ _ _⟩|exact ⟨rfl,_,Eq.trans (World.drewN_drewN _ _ _) (congrArg (World.drewN _) (Nat.add_assoc _ _ _))⟩);obtain ⟨i014,hi014,_,hsz14,_⟩ := info_parts info3;obtain ⟨hcut14,hA14,hC14⟩ := print_take_of (P := Try.prog) (Value.int .i64) 0 22 3 .i64 Try.underlying22 hi014 hsz14 (some ad534) c0_3 l0_3 x3_1 (odT zA_) (odT zA_) HC0_3.out;have HR536 := As_ (Kd.C_of_reads (h1 := fun _ => rfl) (hA14 _ (Kd.reads_of_C HR0_3.out)));have HC536 := As_ hC14;clear hA14 hC14 hi014 hsz14;have p537 : 0 ≤ (x3_1 : Int) := odT zA_;have q537 : x3_1 < (l0_3.length : Int) := odT zA_;obtain ⟨ad537,e537,hx537_0⟩ := Kd.at_int HR0_3.out x3_1 p537 q537;obtain rfl : ad534 = ad537 := (by injection e537);replace hx537_0 := bwC HB.out hx537_0;replace p537 := eq_true p537;replace q537 := eq_true q537)|(go_at_call 99;(try rw [show x3_1.toNat = (List.take (x3_1 : Int).toNat l0_3).length from (by rw [List.length_take];symm;apply Nat.min_eq_left;have q_ : x3_1 < (l0_3.length : Int) := odT (by assumption);omega)]);(with_reducible refine (spec_placeIn.calls k1 _ _ (l0_3.take (x3_1 : Int).toNat) (rd l0_3 x3_1) t538 _ ?side1 ?side2 A9.out).mono ?_);(case side1 => repeat (first|exact (Kd.C_below HR536.out (zb1 HB.out GE530.out))|(with_reducible refine Kd.C_alloc ?_ _)|(with_reducible refine Kd.C_drewN ?_ _)|(with_reducible refine Kd.C_drew ?_)));(case side2 => exact HC536.out);rintro e w' ⟨rfl,⟨nd,rfl⟩⟩;(try first|exact ⟨rfl,_,World.drewN_drewN _ _ _⟩|exact ⟨rfl,_,Eq.trans (World.drewN_drewN _ _ _) (congrArg (World.drewN _) (Nat.add_assoc _ _ _))⟩))))
   go_roundg k1
   case measure => have := HK1.out;omega
   case rel => exact ⟨(wrap64 (x3_1 + 1)),zT_,H',⟨by have := HK1.out;omega⟩,⟨by (with_reducible repeat first|apply bkN|apply bkD|apply bkA);exact BK530.out⟩,⟨zb1 HB.out GE530.out⟩⟩
/-! ### slices_Index_int_int: function 100 -/
def slices_Index_int_int.l0 : Nat → List Int → Int → Int → Int → Option (Int)
 | 0,_,_,_,_ => none
 | k + 1,x0,x1,x7,x8 => if x8 < x7 then (if 0 ≤ x8 then (if x8 < (x0.length : Int) then (if x1 = (rd x0 x8) then (some x8) else (slices_Index_int_int.l0 k x0 x1 x7 (wrap64 (x8 + 1)))) else (none)) else (none)) else (some (-1))
def slices_Index_int_int.f (k : Nat) (l0 : List Int) (a1 : Int) : Option (Int) := slices_Index_int_int.l0 k l0 a1 (l0.length : Int) 0
set_option maxRecDepth 100000 in
theorem slices_Index_int_int.mono_l : ∀ k,(∀ y0 y1 y2 y3,LeO (slices_Index_int_int.l0 k y0 y1 y2 y3) (slices_Index_int_int.l0 (k + 1) y0 y1 y2 y3))
 | 0 => fun _ _ _ _ r h => (by cases h)
 | k + 1 => by
  have ih0 := slices_Index_int_int.mono_l k
  ·intro y0 y1 y2 y3
   unfold slices_Index_int_int.l0
   repeat' first
   | (with_reducible exact ih0 _ _ _ _)
   | (with_reducible exact LeO.refl _)
   | (with_reducible exact LeO.none _)
   | (with_reducible refine LeO.ite ?_ ?_)
   | (with_reducible refine LeO.bind ?_ (fun _ => ?_))
   | exact ih0 _ _ _ _
   | exact LeO.none _
   | refine LeO.ite ?_ ?_
   | refine LeO.bind ?_ (fun _ => ?_)
set_option maxRecDepth 100000 in
theorem slices_Index_int_int.mono : ∀ a0 a1 k,LeO (slices_Index_int_int.f k a0 a1) (slices_Index_int_int.f (k + 1) a0 a1) := by
 intro a0 a1 k
 have ih0 := slices_Index_int_int.mono_l k
 unfold slices_Index_int_int.f
 repeat' first
   | (with_reducible exact ih0 _ _ _ _)
   | (with_reducible exact LeO.refl _)
   | (with_reducible exact LeO.none _)
   | (with_reducible refine LeO.ite ?_ ?_)
   | (with_reducible refine LeO.bind ?_ (fun _ => ?_))
   | exact ih0 _ _ _ _
   | exact LeO.none _
   | refine LeO.ite ?_ ?_
   | refine LeO.bind ?_ (fun _ => ?_)
set_option maxHeartbeats 8000000 in
set_option maxRecDepth 100000 in
theorem slices_Index_int_int.calls (k : Nat) (A0 : Option Addr) (c0 : Nat) (l0 : List Int) (a1 : Int) (r : Int) (w : World) (hr0 : Kd.C (Kd.int .i64) w A0 l0.length l0) (hc0 : l0.length ≤ c0) (h : slices_Index_int_int.f k l0 a1 = some r) :
  Calls Try.prog 100 #[.slice A0 l0.length c0,.int .i64 a1] w fun e w' => e = .returned (.int .i64 r) ∧ Drawn0 w w' := by
 have HR0 := As_ hr0
 have HC0 := As_ hc0
 clear hr0 hc0
 have H : (slices_Index_int_int.l0 k l0 a1 (l0.length : Int) 0) = some r := h
 clear h
 have H' := As_ H
 clear H
 go_enter Try.func100,Try.ntmps100
 go_wp2
 go_loopg [8] k (fun kq v8 w' => ∃ (x8_1 : Int),v8 = .int .i64 x8_1 ∧ Aside0 (slices_Index_int_int.l0 kq l0 a1 (l0.length : Int) x8_1 = some r) ∧ Aside0 (kq ≤ k) ∧ Drawn0 w w')
 case atStart => exact ⟨(0),zT_,H',⟨Nat.le_refl _⟩,by repeat (first|exact Drawn0.refl _|apply Drawn0.step)⟩
 case round =>
  clear H'
  obtain ⟨x8_1,rfl,HA,HK1,⟨m1,rfl⟩⟩ := hrel
  cases gk with
  | zero => exact absurd HA.out (fun h_ => (by cases h_))
  | succ k1 =>
   have H := HA.out
   clear HA
   simp only [slices_Index_int_int.l0] at H
   by_cases c3 : x8_1 < (l0.length : Int)
   rotate_left
   ·rw [if_neg c3] at H
    have c3b0 : decide (x8_1 < (l0.length : Int)) = false := deF c3
    clear c3
    obtain rfl := Option.some.inj H
    go_wp2
    go_ret
    exact ⟨by first|rfl|(simp;done)|(simp [*];done),by repeat (first|exact Drawn0.refl _|apply Drawn0.step)⟩

   rw [if_pos c3] at H
   have c3b0 : decide (x8_1 < (l0.length : Int)) = true := deT c3
   clear c3
   by_cases c4 : 0 ≤ x8_1
   rotate_left
   ·rw [if_neg c4] at H
    exact absurd H (by simp)
   rw [if_pos c4] at H
   have c4b0 : decide (0 ≤ x8_1) = true := deT c4
   clear c4
   by_cases c5 : x8_1 < (l0.length : Int)
   rotate_left
   ·rw [if_neg c5] at H
    exact absurd H (by simp)
   rw [if_pos c5] at H
   have c5b0 : decide (x8_1 < (l0.length : Int)) = true := deT c5
   clear c5
   by_cases c6 : a1 = (rd l0 x8_1)
   ·rw [if_pos c6] at H
    have c6b0 : (a1 == (rd l0 x8_1)) = true := beq_iff_eq.mpr c6
    have c6b1 : (a1 != (rd l0 x8_1)) = false := bne_eq_false_iff_eq.mpr c6
    clear c6
    obtain rfl := Option.some.inj H
    have p547 : 0 ≤ (x8_1 : Int) := odT zA_
    have q547 : x8_1 < (l0.length : Int) := odT zA_
    obtain ⟨ad547,e547,hx547_0⟩ := Kd.at_int HR0.out x8_1 p547 q547
    cases e547
    replace p547 := eq_true p547
    replace q547 := eq_true q547
    go_wp2
    go_ret
    exact ⟨by first|rfl|(simp;done)|(simp [*];done),by repeat (first|exact Drawn0.refl _|apply Drawn0.step)⟩
   rw [if_neg c6] at H
   have c6b0 : (a1 == (rd l0 x8_1)) = false := beq_eq_false_iff_ne.mpr c6
   have c6b1 : (a1 != (rd l0 x8_1)) = true := bne_iff_ne.mpr c6
   have H' := As_ H
   clear H
   have p547 : 0 ≤ (x8_1 : Int) := odT zA_
   have q547 : x8_1 < (l0.length : Int) := odT zA_
   obtain ⟨ad547,e547,hx547_0⟩ := Kd.at_int HR0.out x8_1 p547 q547
   cases e547
   replace p547 := eq_true p547
   replace q547 := eq_true q547
   go_wp2
   go_roundg k1
   case measure => have := HK1.out;omega
   case rel => exact ⟨(wrap64 (x8_1 + 1)),zT_,H',⟨by have := HK1.out;omega⟩,by repeat (first|exact Drawn0.refl _|apply Drawn0.step)⟩
/-! ### slices_Contains_int_int: function 70 -/
def slices_Contains_int_int.f (k : Nat) (l0 : List Int) (a1 : Int) : Option (Bool) := (slices_Index_int_int.f k l0 a1).bind fun t548 => (some (decide (t548 ≥ 0)))
set_option maxRecDepth 100000 in
theorem slices_Contains_int_int.mono : ∀ a0 a1 k, LeO (slices_Contains_int_int.f k a0 a1) (slices_Contains_int_int.f (k + 1) a0 a1) := by
  intro a0 a1 k
  unfold slices_Contains_int_int.f
  repeat' first
      | (with_reducible exact slices_Index_int_int.mono _ _ _)
      | (with_reducible exact LeO.refl _)
      | (with_reducible exact LeO.none _)
      | (with_reducible refine LeO.ite ?_ ?_)
      | (with_reducible refine LeO.bind ?_ (fun _ => ?_))
      | exact slices_Index_int_int.mono _ _ _
      | exact LeO.none _
      | refine LeO.ite ?_ ?_
      | refine LeO.bind ?_ (fun _ => ?_)
set_option maxHeartbeats 8000000 in
set_option maxRecDepth 100000 in
theorem slices_Contains_int_int.calls (k : Nat) (A0 : Option Addr) (c0 : Nat) (l0 : List Int) (a1 : Int) (r : Bool) (w : World) (hr0 : Kd.C (Kd.int .i64) w A0 l0.length l0) (hc0 : l0.length ≤ c0) (h : slices_Contains_int_int.f k l0 a1 = some r) :
    Calls Try.prog 70 #[.slice A0 l0.length c0, .int .i64 a1] w fun e w' => e = .returned (.bool r) ∧ Drawn0 w w' := by
  have HR0 := As_ hr0
  have HC0 := As_ hc0
  clear hr0 hc0
  have H : ((slices_Index_int_int.f k l0 a1).bind fun t548 => (some (decide (t548 ≥ 0)))) = some r := h
  clear h
  replace H := obS H
  obtain ⟨t548, A30, H⟩ := H
  replace H : (some (decide (t548 ≥ 0))) = some r := H
  have A3 := As_ A30
  clear A30
  obtain rfl := Option.some.inj H
  go_enter Try.func70, Try.ntmps70
  go_wp2_with (first | ((with_reducible refine gate_callee (f := 100) rfl ?_); refine goesL_ (some 7) rfl rfl Try.func100 (by kernel_rfl) rfl #[.slice A0 l0.length c0, .int .i64 a1] rfl (by (try simp only [List.map_toArray, List.map_cons, List.map_nil]); first | done | rfl | (simp only [List.length_drop, List.length_take]; rfl)) ?_; (with_reducible refine (slices_Index_int_int.calls k _ _ l0 a1 t548 _ ?side1 ?side2 A3.out).mono ?_); (case side1 => repeat (first | exact HR0.out | (with_reducible refine Kd.C_alloc ?_ _) | (with_reducible refine Kd.C_drewN ?_ _) | (with_reducible refine Kd.C_drew ?_))); (case side2 => exact HC0.out); rintro e w' ⟨rfl, ⟨nd, rfl⟩⟩; refine ⟨_, rfl, ?_⟩))
  go_ret
  exact ⟨by first | rfl | (simp; done) | (simp [*]; done), by repeat (first | exact Drawn0.refl _ | apply Drawn0.step)⟩

end Go.Proofs.Ytbokjhdhpmmpfaa.Q
