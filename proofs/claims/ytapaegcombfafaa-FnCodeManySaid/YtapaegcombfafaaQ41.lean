-- Written by wip/tools/qprint.py (a program of this claim's author) by means of the kit's printer.
import Derived.Test.YtapaegcombfafaaQ0
import Derived.Test.YtapaegcombfafaaQ37
import Derived.Test.YtapaegcombfafaaQ49
import Derived.Test.YtapaegcombfafaaQ58
namespace Go.Proofs.Ytapaegcombfafaa.Q
open Go.RowKit Go.Proofs.YtapaegcombfafaaW.PrintWords Go.Proofs.YtapaegcombfafaaW.PrintLast Go.Proofs.YtapaegcombfafaaW.PrintMore
attribute [local go_sem] max2_int min2_int max_two min_two max_three min_three max_four min_four   -- for this text's walks alone
set_option linter.unusedVariables false
set_option linter.unusedSimpArgs false

/-! ### impl_rootsOk: function 41 -/
def impl_rootsOk.f (k : Nat) (l0_0 : List (S58)) (a0_1 : Int) (l1 : List Int) : Option (Bool) := (impl_ValidGraph.f k l0_0 a0_1).bind fun t => (if t = true then (if (l1.length : Int) ≤ 5 then (some (!(l1.any (slices_ContainsFunc_int_int.bad (l0_0.length : Int))))) else (some false)) else (some false))
theorem impl_rootsOk.mono : ∀ a0 a1 a2 k,LeO (impl_rootsOk.f k a0 a1 a2) (impl_rootsOk.f (k + 1) a0 a1 a2) := by
 intro a0 a1 a2 k
 unfold impl_rootsOk.f
 exact LeO.bind (impl_ValidGraph.mono _ _ _) (fun _ => LeO.refl _)
theorem impl_rootsOk.lit (x n : Int) (g : Nat) (AG : Option Addr) (nG cG : Nat) (root : Int) (hn : n = (nG : Int)) (w : World) (hbox : w.heap[g]? = some (.cells #[.slice AG nG cG,.int .i64 root] 25 (0,0))) : Calls Try.prog 75 #[.int .i64 x,.pointer (some ⟨g,0,none⟩)] w fun e w' => e = .returned (.bool (slices_ContainsFunc_int_int.bad n x)) ∧ w = w' := by
 have hu := Try.underlying25
 subst hn
 have hcz_0 : w.cell? ⟨g,0,none⟩ = some (.slice AG nG cG) := (bkC hbox 0).trans rfl
 have hfz_0 := bkF hbox 0
 clear hbox
 by_cases h1 : x < 0
 ·have e1 : decide (x < 0) = true := deT h1
  go_enter Try.func75,Try.ntmps75
  go_wp2
  go_ret
  exact ⟨by simp [slices_ContainsFunc_int_int.bad,h1],rfl⟩
 have e1 : decide (x < 0) = false := deF h1
 by_cases h2 : (nG : Int) ≤ x
 ·have e2 : decide ((nG : Int) ≤ x) = true := deT h2
  go_enter Try.func75,Try.ntmps75
  go_wp2
  go_ret
  exact ⟨by simp [slices_ContainsFunc_int_int.bad,h1,h2],rfl⟩
 have e2 : decide ((nG : Int) ≤ x) = false := deF h2
 go_enter Try.func75,Try.ntmps75
 go_wp2
 go_ret
 exact ⟨by simp [slices_ContainsFunc_int_int.bad,h1,h2],rfl⟩
/-- What slices.IndexFunc tells: a place,just if there is one. -/
def impl_rootsOk.Tells (n : Int) (l : List Int) (w : World) (e : Ending) (w' : World) : Prop := ∃ r : Int,e = .returned (.int .i64 r) ∧ decide (0 ≤ r) = l.any (slices_ContainsFunc_int_int.bad n) ∧ w = w'
theorem impl_rootsOk.any_from (n : Int) (l : List Int) (i : Nat) (h : i < l.length) : (l.drop i).any (slices_ContainsFunc_int_int.bad n) = (slices_ContainsFunc_int_int.bad n (rd l (i : Int)) || (l.drop (i + 1)).any (slices_ContainsFunc_int_int.bad n)) := by
 rw [List.drop_eq_getElem_cons h,List.any_cons,show rd l (i : Int) = l[i] from by simp [rd,List.getD_eq_getElem?_getD,List.getElem?_eq_getElem h]]
set_option maxHeartbeats 2000000 in
set_option maxRecDepth 100000 in
theorem impl_rootsOk.index (A0 : Option Addr) (c0 : Nat) (l0 : List Int) (n : Int) (g : Nat) (AG : Option Addr) (nG cG : Nat) (root : Int) (hn : n = (nG : Int)) (w : World) (hr0 : Kd.C (Kd.int .i64) w A0 l0.length l0) (hbox : w.heap[g]? = some (.cells #[.slice AG nG cG,.int .i64 root] 25 (0,0))) :
  Calls Try.prog 92 #[.slice A0 l0.length c0,.func (.func 75) #[] #[.pointer (some ⟨g,0,none⟩)]] w (impl_rootsOk.Tells n l0 w) := by
 have hmax := Kd.C_max hr0
 have HR := As_ hr0
 have BK := As_ hbox
 clear hr0 hbox
 go_enter Try.func92,Try.ntmps92
 go_wp2
 go_loop [8] (fun v => ∃ i : Nat,i ≤ l0.length ∧ v = .int .i64 i ∧ Aside0 (l0.any (slices_ContainsFunc_int_int.bad n) = (l0.drop i).any (slices_ContainsFunc_int_int.bad n))) (fun v => l0.length - (intOf v).toNat)
 case atStart => exact ⟨0,Nat.zero_le _,rfl,⟨by simp⟩⟩
 case round =>
  obtain ⟨i,hi,rfl,hA⟩ := hrel
  by_cases hlt : i < l0.length
  rotate_left
  ·go_wp2
   go_ret
   exact ⟨-1,rfl,by (try rw [← hn]);rw [hA.out,List.drop_of_length_le (by omega)];simp,rfl⟩
  have hat := Kd.at_int HR.out (i : Int) (by omega) (by omega)
  obtain ⟨ad,e1,hx⟩ := hat
  subst e1
  rw [Int.toNat_natCast] at hx
  have hf := impl_rootsOk.any_from n l0 i hlt
  have HF := As_ hf
  clear hf
  cases hb : slices_ContainsFunc_int_int.bad n (rd l0 (i : Int)) with
  | true =>
   have HB := As_ hb
   clear hb
   go_wp2_with (go_at_call 75;refine (impl_rootsOk.lit _ n g AG nG cG root hn _ BK.out).mono ?_;rintro e w' ⟨rfl,rfl⟩;rw [HB.out])
   go_ret
   exact ⟨i,rfl,by rw [hA.out,HF.out,HB.out];simp,rfl⟩
  | false =>
   have HB := As_ hb
   clear hb
   go_wp2_with (go_at_call 75;refine (impl_rootsOk.lit _ n g AG nG cG root hn _ BK.out).mono ?_;rintro e w' ⟨rfl,rfl⟩;rw [HB.out])
   go_round
   case rel => exact ⟨i + 1,by omega,by go_num,⟨by rw [hA.out,HF.out,HB.out];simp⟩⟩
   case measure => simp [intOf];omega
set_option maxHeartbeats 2000000 in
theorem impl_rootsOk.contains (A0 : Option Addr) (c0 : Nat) (l0 : List Int) (n : Int) (g : Nat) (AG : Option Addr) (nG cG : Nat) (root : Int) (hn : n = (nG : Int)) (w : World) (hr0 : Kd.C (Kd.int .i64) w A0 l0.length l0) (hbox : w.heap[g]? = some (.cells #[.slice AG nG cG,.int .i64 root] 25 (0,0))) :
  Calls Try.prog 69 #[.slice A0 l0.length c0,.func (.func 75) #[] #[.pointer (some ⟨g,0,none⟩)]] w fun e w' => e = .returned (.bool (l0.any (slices_ContainsFunc_int_int.bad n))) ∧ w = w' := by
 have HR := As_ hr0
 have BK := As_ hbox
 clear hr0 hbox
 go_enter Try.func69,Try.ntmps69
 go_wp2_with (go_at_call 92;refine (impl_rootsOk.index _ _ l0 n g AG nG cG root hn _ HR.out BK.out).mono ?_;rintro e w' ⟨r,rfl,hr,rfl⟩;have HT := As_ hr;clear hr)
 go_ret
 exact ⟨by rw [← HT.out];rfl,rfl⟩
set_option maxHeartbeats 4000000 in
set_option maxRecDepth 100000 in
theorem impl_rootsOk.calls (k : Nat) (A0_0 : Option Addr) (c0_0 : Nat) (l0_0 : List (S58)) (a0_1 : Int) (A1 : Option Addr) (c1 : Nat) (l1 : List Int) (r : Bool) (w : World) (hr0_0 : Kd.C k58 w A0_0 l0_0.length l0_0) (hc0_0 : l0_0.length ≤ c0_0) (hr1 : Kd.C (Kd.int .i64) w A1 l1.length l1) (hc1 : l1.length ≤ c1) (h : impl_rootsOk.f k l0_0 a0_1 l1 = some r) :
  Calls Try.prog 41 #[.agg #[.slice A0_0 l0_0.length c0_0,.int .i64 a0_1],.slice A1 l1.length c1] w fun e w' => e = .returned (.bool r) ∧ Below w.heap.size w w' := by
 have hu := Try.underlying25
 have HR := As_ hr0_0
 have HC := As_ hc0_0
 have HR1 := As_ hr1
 have H : ((impl_ValidGraph.f k l0_0 a0_1).bind fun t => (if t = true then (if (l1.length : Int) ≤ 5 then (some (!(l1.any (slices_ContainsFunc_int_int.bad (l0_0.length : Int))))) else (some false)) else (some false))) = some r := h
 clear hr0_0 hc0_0 hr1 hc1 h
 obtain ⟨t,A0,H⟩ := obS H
 have A := As_ A0
 clear A0
 cases t with
 | false =>
  rw [if_neg (by decide)] at H
  obtain rfl := Option.some.inj H
  go_enter Try.func41,Try.ntmps41
  go_wp2_with (first|((with_reducible refine gate_dst (N := 2) rfl ?_);refine box_event ?hg (N := 2) ?hd (cs := #[.slice A0_0 l0_0.length c0_0,.int .i64 a0_1]) (t := 25) ?hr ?_;(case hd => rfl);(case hg => rfl);(case hr => go_simp <;> rfl);intro gg hg w1 hbox hb;have BK := As_ hbox;have HB := As_ hb;clear hb hbox hg;have hcz0 : w1.cell? ⟨gg,0,none⟩ = some (.slice A0_0 l0_0.length c0_0) := (bkC BK.out 0).trans rfl;have hcz1 : w1.cell? ⟨gg,1,none⟩ = some (.int .i64 a0_1) := (bkC BK.out 1).trans rfl;have hfz0 := bkF BK.out 0;have hfz1 := bkF BK.out 1)|(go_at_call 37;(with_reducible refine (impl_ValidGraph.calls k _ _ l0_0 a0_1 false _ ?side1 ?side2 A.out).mono ?_);(case side1 => exact Kd.C_below HR.out HB.out);(case side2 => exact HC.out);rintro e w3 ⟨rfl,hb⟩;have n0_ := As_ (blk_below BK.out hb);have n1_ := As_ (bwT HB.out hb);clear BK HB;have BK := n0_;have HB := n1_;clear n0_ n1_ hb))
  go_ret
  exact ⟨by first|rfl|(simp;done),HB.out⟩
 | true =>
  rw [if_pos rfl] at H
  by_cases c : (l1.length : Int) ≤ 5
  ·rw [if_pos c] at H
   obtain rfl := Option.some.inj H
   have cb : decide ((l1.length : Int) ≤ 5) = true := deT c
   clear c
   go_enter Try.func41,Try.ntmps41
   go_wp2_with (first|((with_reducible refine gate_dst (N := 2) rfl ?_);refine box_event ?hg (N := 2) ?hd (cs := #[.slice A0_0 l0_0.length c0_0,.int .i64 a0_1]) (t := 25) ?hr ?_;(case hd => rfl);(case hg => rfl);(case hr => go_simp <;> rfl);intro gg hg w1 hbox hb;have BK := As_ hbox;have HB := As_ hb;clear hb hbox hg;have hcz0 : w1.cell? ⟨gg,0,none⟩ = some (.slice A0_0 l0_0.length c0_0) := (bkC BK.out 0).trans rfl;have hcz1 : w1.cell? ⟨gg,1,none⟩ = some (.int .i64 a0_1) := (bkC BK.out 1).trans rfl;have hfz0 := bkF BK.out 0;have hfz1 := bkF BK.out 1)|(go_at_call 37;(with_reducible refine (impl_ValidGraph.calls k _ _ l0_0 a0_1 true _ ?side1 ?side2 A.out).mono ?_);(case side1 => exact Kd.C_below HR.out HB.out);(case side2 => exact HC.out);rintro e w3 ⟨rfl,hb⟩;have n0_ := As_ (blk_below BK.out hb);have n1_ := As_ (bwT HB.out hb);clear BK HB;have BK := n0_;have HB := n1_;clear n0_ n1_ hb)|(go_at_call 69;refine (impl_rootsOk.contains _ _ l1 (l0_0.length : Int) gg A0_0 l0_0.length c0_0 a0_1 rfl _ (Kd.C_below HR1.out HB.out) BK.out).mono ?_;rintro e w4 ⟨rfl,rfl⟩))
   go_ret
   exact ⟨by first|rfl|(simp;done)|(simp [*];done),HB.out⟩
  rw [if_neg c] at H
  obtain rfl := Option.some.inj H
  have cb : decide ((l1.length : Int) ≤ 5) = false := deF c
  clear c
  go_enter Try.func41,Try.ntmps41
  go_wp2_with (first|((with_reducible refine gate_dst (N := 2) rfl ?_);refine box_event ?hg (N := 2) ?hd (cs := #[.slice A0_0 l0_0.length c0_0,.int .i64 a0_1]) (t := 25) ?hr ?_;(case hd => rfl);(case hg => rfl);(case hr => go_simp <;> rfl);intro gg hg w1 hbox hb;have BK := As_ hbox;have HB := As_ hb;clear hb hbox hg;have hcz0 : w1.cell? ⟨gg,0,none⟩ = some (.slice A0_0 l0_0.length c0_0) := (bkC BK.out 0).trans rfl;have hcz1 : w1.cell? ⟨gg,1,none⟩ = some (.int .i64 a0_1) := (bkC BK.out 1).trans rfl;have hfz0 := bkF BK.out 0;have hfz1 := bkF BK.out 1)|(go_at_call 37;(with_reducible refine (impl_ValidGraph.calls k _ _ l0_0 a0_1 true _ ?side1 ?side2 A.out).mono ?_);(case side1 => exact Kd.C_below HR.out HB.out);(case side2 => exact HC.out);rintro e w3 ⟨rfl,hb⟩;have n0_ := As_ (blk_below BK.out hb);have n1_ := As_ (bwT HB.out hb);clear BK HB;have BK := n0_;have HB := n1_;clear n0_ n1_ hb))
  go_ret
  exact ⟨by first|rfl|(simp;done)|(simp [*];done),HB.out⟩

/-! ### spec_validRoots: function 43 -/
def spec_validRoots.f (k : Nat) (l0_0 : List (S58)) (a0_1 : Int) (l1 : List Int) : Option (Bool) := (spec_validGraph.f k l0_0 a0_1).bind fun t345 => (if t345 = true then (if (l1.length : Int) ≤ 5 then ((spec_allIn.f k l1 0 (wrap64 ((l0_0.length : Int) - 1))).bind fun t346 => (some t346)) else (some false)) else (some false))
set_option maxRecDepth 100000 in
theorem spec_validRoots.mono : ∀ a0 a1 a2 k,LeO (spec_validRoots.f k a0 a1 a2) (spec_validRoots.f (k + 1) a0 a1 a2) := by
 intro a0 a1 a2 k
 unfold spec_validRoots.f
 repeat' first
   | (with_reducible exact spec_allIn.mono _ _ _ _)
   | (with_reducible exact spec_validGraph.mono _ _ _)
   | (with_reducible exact LeO.refl _)
   | (with_reducible exact LeO.none _)
   | (with_reducible refine LeO.ite ?_ ?_)
   | (with_reducible refine LeO.bind ?_ (fun _ => ?_))
   | exact spec_allIn.mono _ _ _ _
   | exact spec_validGraph.mono _ _ _
   | exact LeO.none _
   | refine LeO.ite ?_ ?_
   | refine LeO.bind ?_ (fun _ => ?_)
set_option maxHeartbeats 8000000 in
set_option maxRecDepth 100000 in
theorem spec_validRoots.calls (k : Nat) (A0_0 : Option Addr) (c0_0 : Nat) (l0_0 : List (S58)) (a0_1 : Int) (A1 : Option Addr) (c1 : Nat) (l1 : List Int) (r : Bool) (w : World) (hr0_0 : Kd.C k58 w A0_0 l0_0.length l0_0) (hc0_0 : l0_0.length ≤ c0_0) (hr1 : Kd.C (Kd.int .i64) w A1 l1.length l1) (hc1 : l1.length ≤ c1) (h : spec_validRoots.f k l0_0 a0_1 l1 = some r) :
  Calls Try.prog 43 #[.agg #[.slice A0_0 l0_0.length c0_0,.int .i64 a0_1],.slice A1 l1.length c1] w fun e w' => e = .returned (.bool r) ∧ Below w.heap.size w w' := by
 have hu25 := Try.underlying25
 have HR0_0 := As_ hr0_0
 have HC0_0 := As_ hc0_0
 clear hr0_0 hc0_0
 have HR1 := As_ hr1
 have HC1 := As_ hc1
 clear hr1 hc1
 have HB := As_ (Below.refl w.heap.size w)
 have H : ((spec_validGraph.f k l0_0 a0_1).bind fun t345 => (if t345 = true then (if (l1.length : Int) ≤ 5 then ((spec_allIn.f k l1 0 (wrap64 ((l0_0.length : Int) - 1))).bind fun t346 => (some t346)) else (some false)) else (some false))) = some r := h
 clear h
 replace H := obS H
 obtain ⟨t345,A30,H⟩ := H
 replace H : (if t345 = true then (if (l1.length : Int) ≤ 5 then ((spec_allIn.f k l1 0 (wrap64 ((l0_0.length : Int) - 1))).bind fun t346 => (some t346)) else (some false)) else (some false)) = some r := H
 have A3 := As_ A30
 clear A30
 by_cases c4 : t345 = true
 rotate_left
 ·replace c4 := Bool.eq_false_iff.mpr c4
  subst c4
  have H1 : (some false) = some r := by rw [if_neg (show ¬ (false = true) by decide)] at H;exact H
  clear H
  have H := H1
  clear H1
  obtain rfl := Option.some.inj H
  go_enter Try.func43,Try.ntmps43
  go_wp2_with (first|((with_reducible refine gate_dst (N := 2) rfl ?_);(try (refine gate_guard (by rfl) ?_;dsimp only));refine box_event ?hg (N := 2) ?hd (cs := #[.slice A0_0 l0_0.length c0_0,.int .i64 a0_1]) (t := 25) ?hr ?_;(case hd => rfl);(case hg => rfl);(case hr => go_simp <;> rfl);intro gb344 hg w14 hbox hb;have n0_ := As_ (bwT (zb0 HB.out) hb);have n1_ := As_ (hbox);have n2_ := As_ ((by rw [hg];exact (bwZ (zb0 HB.out)) : w.heap.size ≤ gb344));have n3_ := As_ ((by rw [hg];exact (bwZ (zb0 HB.out)) : w.heap.size ≤ gb344));clear HB;revert n0_ n1_ n2_ n3_;intro HB BK344 GW344 GE344;clear hb hbox hg;obtain ⟨hcz15_0,hcz15_1,hfz15_0,hfz15_1⟩ := bk2 BK344.out)|((with_reducible refine gate_callee (f := 49) rfl ?_);refine goesL_ (some 6) rfl rfl Try.func49 (by kernel_rfl) rfl #[.agg #[.slice A0_0 l0_0.length c0_0,.int .i64 a0_1]] rfl zM_ ?_;(with_reducible refine (spec_validGraph.calls k _ _ l0_0 a0_1 false _ ?side1 ?side2 A3.out).mono ?_);(case side1 => exact zC_ (Kd.C_below HR0_0.out HB.out));(case side2 => exact HC0_0.out);rintro e w16 ⟨rfl,hb⟩;refine ⟨_,rfl,?_⟩;have n0_ := As_ (zkb BK344.out hb);have n1_ := As_ (bwT (zb1 HB.out GE344.out) hb);clear BK344 HB;revert n0_ n1_;intro BK344 HB))
  go_ret
  exact ⟨zE_,zb1 HB.out GE344.out⟩

 subst c4
 have H1 : (if (l1.length : Int) ≤ 5 then ((spec_allIn.f k l1 0 (wrap64 ((l0_0.length : Int) - 1))).bind fun t346 => (some t346)) else (some false)) = some r := by rw [if_pos rfl] at H;exact H
 clear H
 have H := H1
 clear H1
 by_cases c5 : (l1.length : Int) ≤ 5
 rotate_left
 ·rw [if_neg c5] at H
  have c5b0 : decide ((l1.length : Int) ≤ 5) = false := deF c5
  have c5b1 : decide (l1.length ≤ 5) = false := deF (by omega)
  clear c5
  obtain rfl := Option.some.inj H
  go_enter Try.func43,Try.ntmps43
  go_wp2_with (first|((with_reducible refine gate_dst (N := 2) rfl ?_);(try (refine gate_guard (by rfl) ?_;dsimp only));refine box_event ?hg (N := 2) ?hd (cs := #[.slice A0_0 l0_0.length c0_0,.int .i64 a0_1]) (t := 25) ?hr ?_;(case hd => rfl);(case hg => rfl);(case hr => go_simp <;> rfl);intro gb344 hg w11 hbox hb;have n0_ := As_ (bwT (zb0 HB.out) hb);have n1_ := As_ (hbox);have n2_ := As_ ((by rw [hg];exact (bwZ (zb0 HB.out)) : w.heap.size ≤ gb344));have n3_ := As_ ((by rw [hg];exact (bwZ (zb0 HB.out)) : w.heap.size ≤ gb344));clear HB;revert n0_ n1_ n2_ n3_;intro HB BK344 GW344 GE344;clear hb hbox hg;obtain ⟨hcz12_0,hcz12_1,hfz12_0,hfz12_1⟩ := bk2 BK344.out)|((with_reducible refine gate_callee (f := 49) rfl ?_);refine goesL_ (some 6) rfl rfl Try.func49 (by kernel_rfl) rfl #[.agg #[.slice A0_0 l0_0.length c0_0,.int .i64 a0_1]] rfl zM_ ?_;(with_reducible refine (spec_validGraph.calls k _ _ l0_0 a0_1 true _ ?side1 ?side2 A3.out).mono ?_);(case side1 => exact zC_ (Kd.C_below HR0_0.out HB.out));(case side2 => exact HC0_0.out);rintro e w13 ⟨rfl,hb⟩;refine ⟨_,rfl,?_⟩;have n0_ := As_ (zkb BK344.out hb);have n1_ := As_ (bwT (zb1 HB.out GE344.out) hb);clear BK344 HB;revert n0_ n1_;intro BK344 HB))
  go_ret
  exact ⟨zE_,zb1 HB.out GE344.out⟩
 rw [if_pos c5] at H
 have c5b0 : decide ((l1.length : Int) ≤ 5) = true := deT c5
 have c5b1 : decide (l1.length ≤ 5) = true := deT (by omega)
 clear c5
 replace H := obS H
 obtain ⟨t346,A60,H⟩ := H
 replace H : (some t346) = some r := H
 have A6 := As_ A60
 clear A60
 obtain rfl := Option.some.inj H
 go_enter Try.func43,Try.ntmps43
 go_wp2_with (first|((with_reducible refine gate_dst (N := 2) rfl ?_);(try (refine gate_guard (by rfl) ?_;dsimp only));refine box_event ?hg (N := 2) ?hd (cs := #[.slice A0_0 l0_0.length c0_0,.int .i64 a0_1]) (t := 25) ?hr ?_;(case hd => rfl);(case hg => rfl);(case hr => go_simp <;> rfl);intro gb344 hg w7 hbox hb;have n0_ := As_ (bwT (zb0 HB.out) hb);have n1_ := As_ (hbox);have n2_ := As_ ((by rw [hg];exact (bwZ (zb0 HB.out)) : w.heap.size ≤ gb344));have n3_ := As_ ((by rw [hg];exact (bwZ (zb0 HB.out)) : w.heap.size ≤ gb344));clear HB;revert n0_ n1_ n2_ n3_;intro HB BK344 GW344 GE344;clear hb hbox hg;obtain ⟨hcz8_0,hcz8_1,hfz8_0,hfz8_1⟩ := bk2 BK344.out)|((with_reducible refine gate_callee (f := 49) rfl ?_);refine goesL_ (some 6) rfl rfl Try.func49 (by kernel_rfl) rfl #[.agg #[.slice A0_0 l0_0.length c0_0,.int .i64 a0_1]] rfl zM_ ?_;(with_reducible refine (spec_validGraph.calls k _ _ l0_0 a0_1 true _ ?side1 ?side2 A3.out).mono ?_);(case side1 => exact zC_ (Kd.C_below HR0_0.out HB.out));(case side2 => exact HC0_0.out);rintro e w9 ⟨rfl,hb⟩;refine ⟨_,rfl,?_⟩;have n0_ := As_ (zkb BK344.out hb);have n1_ := As_ (bwT (zb1 HB.out GE344.out) hb);clear BK344 HB;revert n0_ n1_;intro BK344 HB;obtain ⟨hcz10_0,hcz10_1,hfz10_0,hfz10_1⟩ := bk2 BK344.out)|(go_at_call 57;(with_reducible refine (spec_allIn.calls k _ _ l1 0 (wrap64 ((l0_0.length : Int) - 1)) t346 _ ?side1 ?side2 A6.out).mono ?_);(case side1 => exact zC_ (Kd.C_below HR1.out HB.out));(case side2 => exact HC1.out);rintro e w' ⟨rfl,⟨nd,rfl⟩⟩))
 go_ret
 exact ⟨zE_,zb1 HB.out GE344.out⟩
end Go.Proofs.Ytapaegcombfafaa.Q
