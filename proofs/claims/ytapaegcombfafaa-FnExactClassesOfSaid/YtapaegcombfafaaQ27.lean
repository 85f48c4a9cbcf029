-- Written by wip/tools/qprint.py (a program of this claim's author) by means of the kit's printer.
import Derived.Test.YtapaegcombfafaaQ0
import Derived.Test.YtapaegcombfafaaQ37
import Derived.Test.YtapaegcombfafaaQ53
namespace Go.Proofs.Ytapaegcombfafaa.Q
open Go.RowKit Go.Proofs.YtapaegcombfafaaW.PrintWords Go.Proofs.YtapaegcombfafaaW.PrintLast Go.Proofs.YtapaegcombfafaaW.PrintMore
attribute [local go_sem] max2_int min2_int max_two min_two max_three min_three max_four min_four   -- for this text's walks alone
set_option linter.unusedVariables false
set_option linter.unusedSimpArgs false

/-! ### impl_ClassesOf: function 27 -/
def impl_ClassesOf.f (k : Nat) (l0_0 : List (S58)) (a0_1 : Int) : Option (List Int) := (impl_ValidGraph.f k l0_0 a0_1).bind fun t533 => (if t533 = true then ((impl_classes.f k l0_0).bind fun t534 => (some t534)) else (some ([] : List Int)))
set_option maxRecDepth 100000 in
theorem impl_ClassesOf.mono : ∀ a0 a1 k,LeO (impl_ClassesOf.f k a0 a1) (impl_ClassesOf.f (k + 1) a0 a1) := by
 intro a0 a1 k
 unfold impl_ClassesOf.f
 repeat' first
   | (with_reducible exact impl_ValidGraph.mono _ _ _)
   | (with_reducible exact impl_classes.mono _ _)
   | (with_reducible exact LeO.refl _)
   | (with_reducible exact LeO.none _)
   | (with_reducible refine LeO.ite ?_ ?_)
   | (with_reducible refine LeO.bind ?_ (fun _ => ?_))
   | exact impl_ValidGraph.mono _ _ _
   | exact impl_classes.mono _ _
   | exact LeO.none _
   | refine LeO.ite ?_ ?_
   | refine LeO.bind ?_ (fun _ => ?_)
set_option maxHeartbeats 8000000 in
set_option maxRecDepth 100000 in
theorem impl_ClassesOf.calls (k : Nat) (A0_0 : Option Addr) (c0_0 : Nat) (l0_0 : List (S58)) (a0_1 : Int) (r : List Int) (w : World) (hr0_0 : Kd.C k58 w A0_0 l0_0.length l0_0) (hc0_0 : l0_0.length ≤ c0_0) (h : impl_ClassesOf.f k l0_0 a0_1 = some r) :
  Calls Try.prog 27 #[.agg #[.slice A0_0 l0_0.length c0_0,.int .i64 a0_1]] w fun e w' => ∃ v0_ : Value,e = .returned (v0_) ∧ Kd.R (Kd.int .i64) 3 w' w.heap.size (fun _ => True) v0_ r ∧ Below w.heap.size w w' := by
 have hu25 := Try.underlying25
 have HR0_0 := As_ hr0_0
 have HC0_0 := As_ hc0_0
 clear hr0_0 hc0_0
 have HB := As_ (Below.refl w.heap.size w)
 have H : ((impl_ValidGraph.f k l0_0 a0_1).bind fun t533 => (if t533 = true then ((impl_classes.f k l0_0).bind fun t534 => (some t534)) else (some ([] : List Int)))) = some r := h
 clear h
 replace H := obS H
 obtain ⟨t533,A20,H⟩ := H
 replace H : (if t533 = true then ((impl_classes.f k l0_0).bind fun t534 => (some t534)) else (some ([] : List Int))) = some r := H
 have A2 := As_ A20
 clear A20
 by_cases c3 : t533 = true
 ·subst c3
  have H1 : ((impl_classes.f k l0_0).bind fun t534 => (some t534)) = some r := by rw [if_pos rfl] at H;exact H
  clear H
  have H := H1
  clear H1
  replace H := obS H
  obtain ⟨t534,A40,H⟩ := H
  replace H : (some t534) = some r := H
  have A4 := As_ A40
  clear A40
  obtain rfl := Option.some.inj H
  go_enter Try.func27,Try.ntmps27
  go_wp2_with (first|((with_reducible refine gate_dst (N := 1) rfl ?_);refine box_event ?hg (N := 1) ?hd (cs := #[.slice A0_0 l0_0.length c0_0,.int .i64 a0_1]) (t := 25) ?hr ?_;(case hd => rfl);(case hg => rfl);(case hr => go_simp <;> rfl);intro gb532 hg w5 hbox hb;have n0_ := As_ (bwT (by repeat (first|(with_reducible first|exact HB.out|apply bwA|apply bwN|apply bwD)|exact HB.out)) hb);have n1_ := As_ (hbox);have n2_ := As_ ((by rw [hg];exact (bwZ (by repeat (first|(with_reducible first|exact HB.out|apply bwA|apply bwN|apply bwD)|exact HB.out))) : w.heap.size ≤ gb532));have n3_ := As_ ((by rw [hg];exact (bwZ (by repeat (first|(with_reducible first|exact HB.out|apply bwA|apply bwN|apply bwD)|exact HB.out))) : w.heap.size ≤ gb532));clear HB;have HB := n0_;have BK532 := n1_;have GW532 := n2_;have GE532 := n3_;clear n0_ n1_ n2_ n3_;clear hb hbox hg;have hcz6_0 : w5.cell? ⟨gb532,0,none⟩ = some (.slice A0_0 l0_0.length c0_0) := (bkC BK532.out 0).trans rfl;have hcz6_1 : w5.cell? ⟨gb532,1,none⟩ = some (.int .i64 a0_1) := (bkC BK532.out 1).trans rfl;have hfz6_0 := bkF BK532.out 0;have hfz6_1 := bkF BK532.out 1)|((with_reducible refine gate_callee (f := 37) rfl ?_);refine goesL_ (some 4) rfl rfl Try.func37 (by kernel_rfl) rfl #[.agg #[.slice A0_0 l0_0.length c0_0,.int .i64 a0_1]] rfl (by (try simp only [List.map_toArray,List.map_cons,List.map_nil]);first|done|rfl|(simp only [List.length_drop,List.length_take];rfl)) ?_;(with_reducible refine (impl_ValidGraph.calls k _ _ l0_0 a0_1 true _ ?side1 ?side2 A2.out).mono ?_);(case side1 => repeat (first|exact (Kd.C_below HR0_0.out HB.out)|(with_reducible refine Kd.C_alloc ?_ _)|(with_reducible refine Kd.C_drewN ?_ _)|(with_reducible refine Kd.C_drew ?_)));(case side2 => exact HC0_0.out);rintro e w7 ⟨rfl,hb⟩;refine ⟨_,rfl,?_⟩;have n0_ := As_ (blk_below (g := gb532) (o := .cells #[.slice A0_0 l0_0.length c0_0,.int .i64 a0_1] 25 (0,0)) (by (with_reducible repeat (first|refine bkN ?_ _|refine bkD ?_|refine bkA ?_ _));exact BK532.out) hb);have n1_ := As_ (bwT (by repeat (first|(with_reducible first|exact HB.out|apply bwA|apply bwN|apply bwD|refine bwS ?_ GE532.out)|exact HB.out)) hb);clear BK532;clear HB;have BK532 := n0_;have HB := n1_;clear n0_ n1_;(try clear hb);(try clear hb2);(try clear hk);(try clear hi);have hcz8_0 : w7.cell? ⟨gb532,0,none⟩ = some (.slice A0_0 l0_0.length c0_0) := (bkC BK532.out 0).trans rfl;have hcz8_1 : w7.cell? ⟨gb532,1,none⟩ = some (.int .i64 a0_1) := (bkC BK532.out 1).trans rfl;have hfz8_0 := bkF BK532.out 0;have hfz8_1 := bkF BK532.out 1)|((with_reducible refine gate_callee (f := 53) rfl ?_);refine goesL_ (some 8) rfl rfl Try.func53 (by kernel_rfl) rfl #[.slice A0_0 l0_0.length c0_0] rfl (by (try simp only [List.map_toArray,List.map_cons,List.map_nil]);first|done|rfl|(simp only [List.length_drop,List.length_take];rfl)) ?_;(with_reducible refine (impl_classes.calls k _ _ l0_0 t534 _ ?side1 ?side2 A4.out).mono ?_);(case side1 => repeat (first|exact (Kd.C_below HR0_0.out HB.out)|(with_reducible refine Kd.C_alloc ?_ _)|(with_reducible refine Kd.C_drewN ?_ _)|(with_reducible refine Kd.C_drew ?_)));(case side2 => exact HC0_0.out);rintro e w9 ⟨v535,rfl,ho0,hb⟩;refine ⟨_,rfl,?_⟩;have n0_ := As_ (Kd.R_lower ho0 (bwZ (by repeat (first|(with_reducible first|exact HB.out|apply bwA|apply bwN|apply bwD|refine bwS ?_ GE532.out)|exact HB.out))));have n1_ := As_ (blk_below (g := gb532) (o := .cells #[.slice A0_0 l0_0.length c0_0,.int .i64 a0_1] 25 (0,0)) (by (with_reducible repeat (first|refine bkN ?_ _|refine bkD ?_|refine bkA ?_ _));exact BK532.out) hb);have n2_ := As_ (bwT (by repeat (first|(with_reducible first|exact HB.out|apply bwA|apply bwN|apply bwD|refine bwS ?_ GE532.out)|exact HB.out)) hb);clear BK532;clear HB;have HO536 := n0_;have BK532 := n1_;have HB := n2_;clear n0_ n1_ n2_;(try clear hb);(try clear hb2);(try clear hk);(try clear hi);(try clear ho0)))
  go_ret
  exact ⟨_,by first|rfl|(simp [errW_none,errW_some] <;> rfl)|(simp [*,errW_none,errW_some] <;> rfl),by (with_reducible repeat (first|apply Kd.R_alloc|apply Kd.R_drewN|apply Kd.R_drew));exact HO536.out,by repeat (first|(with_reducible first|exact HB.out|apply bwA|apply bwN|apply bwD|refine bwS ?_ GE532.out)|exact HB.out)⟩
 ·replace c3 := Bool.eq_false_iff.mpr c3
  subst c3
  have H1 : (some ([] : List Int)) = some r := by rw [if_neg (show ¬ (false = true) by decide)] at H;exact H
  clear H
  have H := H1
  clear H1
  obtain rfl := Option.some.inj H
  go_enter Try.func27,Try.ntmps27
  go_wp2_with (first|((with_reducible refine gate_dst (N := 1) rfl ?_);refine box_event ?hg (N := 1) ?hd (cs := #[.slice A0_0 l0_0.length c0_0,.int .i64 a0_1]) (t := 25) ?hr ?_;(case hd => rfl);(case hg => rfl);(case hr => go_simp <;> rfl);intro gb532 hg w10 hbox hb;have n0_ := As_ (bwT (by repeat (first|(with_reducible first|exact HB.out|apply bwA|apply bwN|apply bwD)|exact HB.out)) hb);have n1_ := As_ (hbox);have n2_ := As_ ((by rw [hg];exact (bwZ (by repeat (first|(with_reducible first|exact HB.out|apply bwA|apply bwN|apply bwD)|exact HB.out))) : w.heap.size ≤ gb532));have n3_ := As_ ((by rw [hg];exact (bwZ (by repeat (first|(with_reducible first|exact HB.out|apply bwA|apply bwN|apply bwD)|exact HB.out))) : w.heap.size ≤ gb532));clear HB;have HB := n0_;have BK532 := n1_;have GW532 := n2_;have GE532 := n3_;clear n0_ n1_ n2_ n3_;clear hb hbox hg;have hcz11_0 : w10.cell? ⟨gb532,0,none⟩ = some (.slice A0_0 l0_0.length c0_0) := (bkC BK532.out 0).trans rfl;have hcz11_1 : w10.cell? ⟨gb532,1,none⟩ = some (.int .i64 a0_1) := (bkC BK532.out 1).trans rfl;have hfz11_0 := bkF BK532.out 0;have hfz11_1 := bkF BK532.out 1)|((with_reducible refine gate_callee (f := 37) rfl ?_);refine goesL_ (some 4) rfl rfl Try.func37 (by kernel_rfl) rfl #[.agg #[.slice A0_0 l0_0.length c0_0,.int .i64 a0_1]] rfl (by (try simp only [List.map_toArray,List.map_cons,List.map_nil]);first|done|rfl|(simp only [List.length_drop,List.length_take];rfl)) ?_;(with_reducible refine (impl_ValidGraph.calls k _ _ l0_0 a0_1 false _ ?side1 ?side2 A2.out).mono ?_);(case side1 => repeat (first|exact (Kd.C_below HR0_0.out HB.out)|(with_reducible refine Kd.C_alloc ?_ _)|(with_reducible refine Kd.C_drewN ?_ _)|(with_reducible refine Kd.C_drew ?_)));(case side2 => exact HC0_0.out);rintro e w12 ⟨rfl,hb⟩;refine ⟨_,rfl,?_⟩;have n0_ := As_ (blk_below (g := gb532) (o := .cells #[.slice A0_0 l0_0.length c0_0,.int .i64 a0_1] 25 (0,0)) (by (with_reducible repeat (first|refine bkN ?_ _|refine bkD ?_|refine bkA ?_ _));exact BK532.out) hb);have n1_ := As_ (bwT (by repeat (first|(with_reducible first|exact HB.out|apply bwA|apply bwN|apply bwD|refine bwS ?_ GE532.out)|exact HB.out)) hb);clear BK532;clear HB;have BK532 := n0_;have HB := n1_;clear n0_ n1_;(try clear hb);(try clear hb2);(try clear hk);(try clear hi)))
  go_ret
  exact ⟨_,by first|rfl|(simp [errW_none,errW_some] <;> rfl)|(simp [*,errW_none,errW_some] <;> rfl),by first|exact Kd.R_nil _ _ _ _ _|exact Kd.N_nil _ _ _ _ _|exact Kd.V_nil _ _ _ _ _|exact Kd.Q_nil _ _ _ _ _|exact Kd.S_nil _ _ _ _ _,by repeat (first|(with_reducible first|exact HB.out|apply bwA|apply bwN|apply bwD|refine bwS ?_ GE532.out)|exact HB.out)⟩

/-! ### spec_alike: function 98 -/
def spec_alike.f (a0_0 : Int) (a0_1 : Int) (l0_2 : List Int) (a1_0 : Int) (a1_1 : Int) (l1_2 : List Int) : Option (Bool) := if a0_0 = a1_0 then (if a0_1 = a1_1 then (some ((l0_2.length : Int) == (l1_2.length : Int))) else (some false)) else (some false)
set_option maxHeartbeats 8000000 in
set_option maxRecDepth 100000 in
theorem spec_alike.calls (a0_0 : Int) (a0_1 : Int) (A0_2 : Option Addr) (c0_2 : Nat) (l0_2 : List Int) (a1_0 : Int) (a1_1 : Int) (A1_2 : Option Addr) (c1_2 : Nat) (l1_2 : List Int) (r : Bool) (w : World) (hr0_2 : Kd.C (Kd.int .i64) w A0_2 l0_2.length l0_2) (hc0_2 : l0_2.length ≤ c0_2) (hr1_2 : Kd.C (Kd.int .i64) w A1_2 l1_2.length l1_2) (hc1_2 : l1_2.length ≤ c1_2) (h : spec_alike.f a0_0 a0_1 l0_2 a1_0 a1_1 l1_2 = some r) :
  Calls Try.prog 98 #[.agg #[.int .i64 a0_0,.int .i64 a0_1,.slice A0_2 l0_2.length c0_2],.agg #[.int .i64 a1_0,.int .i64 a1_1,.slice A1_2 l1_2.length c1_2]] w fun e w' => e = .returned (.bool r) ∧ Below w.heap.size w w' := by
 have hu58 := Try.underlying58
 have HR0_2 := As_ hr0_2
 have HC0_2 := As_ hc0_2
 clear hr0_2 hc0_2
 have HR1_2 := As_ hr1_2
 have HC1_2 := As_ hc1_2
 clear hr1_2 hc1_2
 have HB := As_ (Below.refl w.heap.size w)
 have H : (if a0_0 = a1_0 then (if a0_1 = a1_1 then (some ((l0_2.length : Int) == (l1_2.length : Int))) else (some false)) else (some false)) = some r := h
 clear h
 by_cases c3 : a0_0 = a1_0
 ·rw [if_pos c3] at H
  have c3b0 : (a0_0 == a1_0) = true := beq_iff_eq.mpr c3
  have c3b1 : (a0_0 != a1_0) = false := bne_eq_false_iff_eq.mpr c3
  clear c3
  by_cases c4 : a0_1 = a1_1
  ·rw [if_pos c4] at H
   have c4b0 : (a0_1 == a1_1) = true := beq_iff_eq.mpr c4
   have c4b1 : (a0_1 != a1_1) = false := bne_eq_false_iff_eq.mpr c4
   clear c4
   obtain rfl := Option.some.inj H
   go_enter Try.func98,Try.ntmps98
   go_wp2_with (first|((with_reducible refine gate_dst (N := 2) rfl ?_);(try (refine gate_guard (by rfl) ?_;dsimp only));refine box_event ?hg (N := 2) ?hd (cs := #[.int .i64 a0_0,.int .i64 a0_1,.slice A0_2 l0_2.length c0_2]) (t := 58) ?hr ?_;(case hd => rfl);(case hg => rfl);(case hr => go_simp <;> rfl);intro gb537 hg w5 hbox hb;have n0_ := As_ (bwT (by repeat (first|(with_reducible first|exact HB.out|apply bwA|apply bwN|apply bwD)|exact HB.out)) hb);have n1_ := As_ (hbox);have n2_ := As_ ((by rw [hg];exact (bwZ (by repeat (first|(with_reducible first|exact HB.out|apply bwA|apply bwN|apply bwD)|exact HB.out))) : w.heap.size ≤ gb537));have n3_ := As_ ((by rw [hg];exact (bwZ (by repeat (first|(with_reducible first|exact HB.out|apply bwA|apply bwN|apply bwD)|exact HB.out))) : w.heap.size ≤ gb537));clear HB;have HB := n0_;have BK537 := n1_;have GW537 := n2_;have GE537 := n3_;clear n0_ n1_ n2_ n3_;clear hb hbox hg)|((with_reducible refine gate_dst (N := 3) rfl ?_);(try (refine gate_guard (by rfl) ?_;dsimp only));refine box_event ?hg (N := 3) ?hd (cs := #[.int .i64 a1_0,.int .i64 a1_1,.slice A1_2 l1_2.length c1_2]) (t := 58) ?hr ?_;(case hd => rfl);(case hg => rfl);(case hr => go_simp <;> rfl);intro gb538 hg w6 hbox hb;have n0_ := As_ (blk_below (g := gb537) (o := .cells #[.int .i64 a0_0,.int .i64 a0_1,.slice A0_2 l0_2.length c0_2] 58 (0,0)) (by (with_reducible repeat (first|refine bkN ?_ _|refine bkD ?_|refine bkA ?_ _));exact BK537.out) hb);have n1_ := As_ (bwT (by repeat (first|(with_reducible first|exact HB.out|apply bwA|apply bwN|apply bwD|refine bwS ?_ GE537.out)|exact HB.out)) hb);have n2_ := As_ (hbox);have n3_ := As_ ((by rw [hg];exact (bwZ (by repeat (first|(with_reducible first|exact HB.out|apply bwA|apply bwN|apply bwD|refine bwS ?_ GE537.out)|exact HB.out))) : w.heap.size ≤ gb538));have n4_ := As_ ((by rw [hg];exact (bwZ (by repeat (first|(with_reducible first|exact HB.out|apply bwA|apply bwN|apply bwD|refine bwS ?_ GE537.out)|exact HB.out))) : w.heap.size ≤ gb538));have n5_ := As_ ((by rw [hg];exact Nat.ne_of_lt (blk_lt (g := gb537) (o := .cells #[.int .i64 a0_0,.int .i64 a0_1,.slice A0_2 l0_2.length c0_2] 58 (0,0)) (by (with_reducible repeat (first|refine bkN ?_ _|refine bkD ?_|refine bkA ?_ _));exact BK537.out)) : gb537 ≠ gb538));have n6_ := As_ ((by rw [hg];exact Nat.ne_of_gt (blk_lt (g := gb537) (o := .cells #[.int .i64 a0_0,.int .i64 a0_1,.slice A0_2 l0_2.length c0_2] 58 (0,0)) (by (with_reducible repeat (first|refine bkN ?_ _|refine bkD ?_|refine bkA ?_ _));exact BK537.out)) : gb538 ≠ gb537));clear BK537;clear HB;have BK537 := n0_;have HB := n1_;have BK538 := n2_;have GW538 := n3_;have GE538 := n4_;have NB537_538 := n5_;have NB538_537 := n6_;clear n0_ n1_ n2_ n3_ n4_ n5_ n6_;clear hb hbox hg;have hnb7 := NB537_538.out;have hnc7 := NB538_537.out;have hcz8_0 : w6.cell? ⟨gb537,0,none⟩ = some (.int .i64 a0_0) := (bkC BK537.out 0).trans rfl;have hcz8_1 : w6.cell? ⟨gb537,1,none⟩ = some (.int .i64 a0_1) := (bkC BK537.out 1).trans rfl;have hcz8_2 : w6.cell? ⟨gb537,2,none⟩ = some (.slice A0_2 l0_2.length c0_2) := (bkC BK537.out 2).trans rfl;have hfz8_0 := bkF BK537.out 0;have hfz8_1 := bkF BK537.out 1;have hfz8_2 := bkF BK537.out 2;have hcz9_0 : w6.cell? ⟨gb538,0,none⟩ = some (.int .i64 a1_0) := (bkC BK538.out 0).trans rfl;have hcz9_1 : w6.cell? ⟨gb538,1,none⟩ = some (.int .i64 a1_1) := (bkC BK538.out 1).trans rfl;have hcz9_2 : w6.cell? ⟨gb538,2,none⟩ = some (.slice A1_2 l1_2.length c1_2) := (bkC BK538.out 2).trans rfl;have hfz9_0 := bkF BK538.out 0;have hfz9_1 := bkF BK538.out 1;have hfz9_2 := bkF BK538.out 2))
   go_ret
   exact ⟨by first|rfl|(simp [errW_none,errW_some] <;> rfl)|(simp [*,errW_none,errW_some] <;> rfl),by repeat (first|(with_reducible first|exact HB.out|apply bwA|apply bwN|apply bwD|refine bwS ?_ GE537.out|refine bwS ?_ GE538.out)|exact HB.out)⟩
  ·rw [if_neg c4] at H
   have c4b0 : (a0_1 == a1_1) = false := beq_eq_false_iff_ne.mpr c4
   have c4b1 : (a0_1 != a1_1) = true := bne_iff_ne.mpr c4
   obtain rfl := Option.some.inj H
   go_enter Try.func98,Try.ntmps98
   go_wp2_with (first|((with_reducible refine gate_dst (N := 2) rfl ?_);(try (refine gate_guard (by rfl) ?_;dsimp only));refine box_event ?hg (N := 2) ?hd (cs := #[.int .i64 a0_0,.int .i64 a0_1,.slice A0_2 l0_2.length c0_2]) (t := 58) ?hr ?_;(case hd => rfl);(case hg => rfl);(case hr => go_simp <;> rfl);intro gb537 hg w10 hbox hb;have n0_ := As_ (bwT (by repeat (first|(with_reducible first|exact HB.out|apply bwA|apply bwN|apply bwD)|exact HB.out)) hb);have n1_ := As_ (hbox);have n2_ := As_ ((by rw [hg];exact (bwZ (by repeat (first|(with_reducible first|exact HB.out|apply bwA|apply bwN|apply bwD)|exact HB.out))) : w.heap.size ≤ gb537));have n3_ := As_ ((by rw [hg];exact (bwZ (by repeat (first|(with_reducible first|exact HB.out|apply bwA|apply bwN|apply bwD)|exact HB.out))) : w.heap.size ≤ gb537));clear HB;have HB := n0_;have BK537 := n1_;have GW537 := n2_;have GE537 := n3_;clear n0_ n1_ n2_ n3_;clear hb hbox hg)|((with_reducible refine gate_dst (N := 3) rfl ?_);(try (refine gate_guard (by rfl) ?_;dsimp only));refine box_event ?hg (N := 3) ?hd (cs := #[.int .i64 a1_0,.int .i64 a1_1,.slice A1_2 l1_2.length c1_2]) (t := 58) ?hr ?_;(case hd => rfl);(case hg => rfl);(case hr => go_simp <;> rfl);intro gb538 hg w11 hbox hb;have n0_ := As_ (blk_below (g := gb537) (o := .cells #[.int .i64 a0_0,.int .i64 a0_1,.slice A0_2 l0_2.length c0_2] 58 (0,0)) (by (with_reducible repeat (first|refine bkN ?_ _|refine bkD ?_|refine bkA ?_ _));exact BK537.out) hb);have n1_ := As_ (bwT (by repeat (first|(with_reducible first|exact HB.out|apply bwA|apply bwN|apply bwD|refine bwS ?_ GE537.out)|exact HB.out)) hb);have n2_ := As_ (hbox);have n3_ := As_ ((by rw [hg];exact (bwZ (by repeat (first|(with_reducible first|exact HB.out|apply bwA|apply bwN|apply bwD|refine bwS ?_ GE537.out)|exact HB.out))) : w.heap.size ≤ gb538));have n4_ := As_ ((by rw [hg];exact (bwZ (by repeat (first|(with_reducible first|exact HB.out|apply bwA|apply bwN|apply bwD|refine bwS ?_ GE537.out)|exact HB.out))) : w.heap.size ≤ gb538));have n5_ := As_ ((by rw [hg];exact Nat.ne_of_lt (blk_lt (g := gb537) (o := .cells #[.int .i64 a0_0,.int .i64 a0_1,.slice A0_2 l0_2.length c0_2] 58 (0,0)) (by (with_reducible repeat (first|refine bkN ?_ _|refine bkD ?_|refine bkA ?_ _));exact BK537.out)) : gb537 ≠ gb538));have n6_ := As_ ((by rw [hg];exact Nat.ne_of_gt (blk_lt (g := gb537) (o := .cells #[.int .i64 a0_0,.int .i64 a0_1,.slice A0_2 l0_2.length c0_2] 58 (0,0)) (by (with_reducible repeat (first|refine bkN ?_ _|refine bkD ?_|refine bkA ?_ _));exact BK537.out)) : gb538 ≠ gb537));clear BK537;clear HB;have BK537 := n0_;have HB := n1_;have BK538 := n2_;have GW538 := n3_;have GE538 := n4_;have NB537_538 := n5_;have NB538_537 := n6_;clear n0_ n1_ n2_ n3_ n4_ n5_ n6_;clear hb hbox hg;have hnb12 := NB537_538.out;have hnc12 := NB538_537.out;have hcz13_0 : w11.cell? ⟨gb537,0,none⟩ = some (.int .i64 a0_0) := (bkC BK537.out 0).trans rfl;have hcz13_1 : w11.cell? ⟨gb537,1,none⟩ = some (.int .i64 a0_1) := (bkC BK537.out 1).trans rfl;have hcz13_2 : w11.cell? ⟨gb537,2,none⟩ = some (.slice A0_2 l0_2.length c0_2) := (bkC BK537.out 2).trans rfl;have hfz13_0 := bkF BK537.out 0;have hfz13_1 := bkF BK537.out 1;have hfz13_2 := bkF BK537.out 2;have hcz14_0 : w11.cell? ⟨gb538,0,none⟩ = some (.int .i64 a1_0) := (bkC BK538.out 0).trans rfl;have hcz14_1 : w11.cell? ⟨gb538,1,none⟩ = some (.int .i64 a1_1) := (bkC BK538.out 1).trans rfl;have hcz14_2 : w11.cell? ⟨gb538,2,none⟩ = some (.slice A1_2 l1_2.length c1_2) := (bkC BK538.out 2).trans rfl;have hfz14_0 := bkF BK538.out 0;have hfz14_1 := bkF BK538.out 1;have hfz14_2 := bkF BK538.out 2))
   go_ret
   exact ⟨by first|rfl|(simp [errW_none,errW_some] <;> rfl)|(simp [*,errW_none,errW_some] <;> rfl),by repeat (first|(with_reducible first|exact HB.out|apply bwA|apply bwN|apply bwD|refine bwS ?_ GE537.out|refine bwS ?_ GE538.out)|exact HB.out)⟩
 ·rw [if_neg c3] at H
  have c3b0 : (a0_0 == a1_0) = false := beq_eq_false_iff_ne.mpr c3
  have c3b1 : (a0_0 != a1_0) = true := bne_iff_ne.mpr c3
  obtain rfl := Option.some.inj H
  go_enter Try.func98,Try.ntmps98
  go_wp2_with (first|((with_reducible refine gate_dst (N := 2) rfl ?_);(try (refine gate_guard (by rfl) ?_;dsimp only));refine box_event ?hg (N := 2) ?hd (cs := #[.int .i64 a0_0,.int .i64 a0_1,.slice A0_2 l0_2.length c0_2]) (t := 58) ?hr ?_;(case hd => rfl);(case hg => rfl);(case hr => go_simp <;> rfl);intro gb537 hg w15 hbox hb;have n0_ := As_ (bwT (by repeat (first|(with_reducible first|exact HB.out|apply bwA|apply bwN|apply bwD)|exact HB.out)) hb);have n1_ := As_ (hbox);have n2_ := As_ ((by rw [hg];exact (bwZ (by repeat (first|(with_reducible first|exact HB.out|apply bwA|apply bwN|apply bwD)|exact HB.out))) : w.heap.size ≤ gb537));have n3_ := As_ ((by rw [hg];exact (bwZ (by repeat (first|(with_reducible first|exact HB.out|apply bwA|apply bwN|apply bwD)|exact HB.out))) : w.heap.size ≤ gb537));clear HB;have HB := n0_;have BK537 := n1_;have GW537 := n2_;have GE537 := n3_;clear n0_ n1_ n2_ n3_;clear hb hbox hg)|((with_reducible refine gate_dst (N := 3) rfl ?_);(try (refine gate_guard (by rfl) ?_;dsimp only));refine box_event ?hg (N := 3) ?hd (cs := #[.int .i64 a1_0,.int .i64 a1_1,.slice A1_2 l1_2.length c1_2]) (t := 58) ?hr ?_;(case hd => rfl);(case hg => rfl);(case hr => go_simp <;> rfl);intro gb538 hg w16 hbox hb;have n0_ := As_ (blk_below (g := gb537) (o := .cells #[.int .i64 a0_0,.int .i64 a0_1,.slice A0_2 l0_2.length c0_2] 58 (0,0)) (by (with_reducible repeat (first|refine bkN ?_ _|refine bkD ?_|refine bkA ?_ _));exact BK537.out) hb);have n1_ := As_ (bwT (by repeat (first|(with_reducible first|exact HB.out|apply bwA|apply bwN|apply bwD|refine bwS ?_ GE537.out)|exact HB.out)) hb);have n2_ := As_ (hbox);have n3_ := As_ ((by rw [hg];exact (bwZ (by repeat (first|(with_reducible first|exact HB.out|apply bwA|apply bwN|apply bwD|refine bwS ?_ GE537.out)|exact HB.out))) : w.heap.size ≤ gb538));have n4_ := As_ ((by rw [hg];exact (bwZ (by repeat (first|(with_reducible first|exact HB.out|apply bwA|apply bwN|apply bwD|refine bwS ?_ GE537.out)|exact HB.out))) : w.heap.size ≤ gb538));have n5_ := As_ ((by rw [hg];exact Nat.ne_of_lt (blk_lt (g := gb537) (o := .cells #[.int .i64 a0_0,.int .i64 a0_1,.slice A0_2 l0_2.length c0_2] 58 (0,0)) (by (with_reducible repeat (first|refine bkN ?_ _|refine bkD ?_|refine bkA ?_ _));exact BK537.out)) : gb537 ≠ gb538));have n6_ := As_ ((by rw [hg];exact Nat.ne_of_gt (blk_lt (g := gb537) (o := .cells #[.int .i64 a0_0,.int .i64 a0_1,.slice A0_2 l0_2.length c0_2] 58 (0,0)) (by (with_reducible repeat (first|refine bkN ?_ _|refine bkD ?_|refine bkA ?_ _));exact BK537.out)) : gb538 ≠ gb537));clear BK537;clear HB;have BK537 := n0_;have HB := n1_;have BK538 := n2_;have GW538 := n3_;have GE538 := n4_;have NB537_538 := n5_;have NB538_537 := n6_;clear n0_ n1_ n2_ n3_ n4_ n5_ n6_;clear hb hbox hg;have hnb17 := NB537_538.out;have hnc17 := NB538_537.out;have hcz18_0 : w16.cell? ⟨gb537,0,none⟩ = some (.int .i64 a0_0) := (bkC BK537.out 0).trans rfl;have hcz18_1 : w16.cell? ⟨gb537,1,none⟩ = some (.int .i64 a0_1) := (bkC BK537.out 1).trans rfl;have hcz18_2 : w16.cell? ⟨gb537,2,none⟩ = some (.slice A0_2 l0_2.length c0_2) := (bkC BK537.out 2).trans rfl;have hfz18_0 := bkF BK537.out 0;have hfz18_1 := bkF BK537.out 1;have hfz18_2 := bkF BK537.out 2;have hcz19_0 : w16.cell? ⟨gb538,0,none⟩ = some (.int .i64 a1_0) := (bkC BK538.out 0).trans rfl;have hcz19_1 : w16.cell? ⟨gb538,1,none⟩ = some (.int .i64 a1_1) := (bkC BK538.out 1).trans rfl;have hcz19_2 : w16.cell? ⟨gb538,2,none⟩ = some (.slice A1_2 l1_2.length c1_2) := (bkC BK538.out 2).trans rfl;have hfz19_0 := bkF BK538.out 0;have hfz19_1 := bkF BK538.out 1;have hfz19_2 := bkF BK538.out 2))
  go_ret
  exact ⟨by first|rfl|(simp [errW_none,errW_some] <;> rfl)|(simp [*,errW_none,errW_some] <;> rfl),by repeat (first|(with_reducible first|exact HB.out|apply bwA|apply bwN|apply bwD|refine bwS ?_ GE537.out|refine bwS ?_ GE538.out)|exact HB.out)⟩

end Go.Proofs.Ytapaegcombfafaa.Q
