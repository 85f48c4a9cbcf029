-- Written by wip/tools/qprint.py (a program of this claim's author) by means of the kit's printer.
import Derived.Test.YtbokjhdhpmmpfaaQ0
import Derived.Test.YtbokjhdhpmmpfaaQ99
namespace Go.Proofs.Ytbokjhdhpmmpfaa.Q
open Go.RowKit Go.Proofs.YtbokjhdhpmmpfaaW.PrintWords Go.Proofs.YtbokjhdhpmmpfaaW.PrintLast Go.Proofs.YtbokjhdhpmmpfaaW.PrintMore
attribute [local go_sem] max2_int min2_int max_two min_two max_three min_three max_four min_four   -- for this text's walks alone
set_option linter.unusedVariables false
set_option linter.unusedSimpArgs false

/-! ### spec_ValidRules: function 31 -/
def spec_ValidRules.f (k : Nat) (a0_0 : Int) (a0_1 : Int) (a0_2 : Int) (l0_3 : List Int) : Option (Bool) := (spec_validRules.f k a0_0 a0_1 a0_2 l0_3).bind fun t540 => (some t540)
set_option maxRecDepth 100000 in
theorem spec_ValidRules.mono : ∀ a0 a1 a2 a3 k,LeO (spec_ValidRules.f k a0 a1 a2 a3) (spec_ValidRules.f (k + 1) a0 a1 a2 a3) := by
 intro a0 a1 a2 a3 k
 unfold spec_ValidRules.f
 repeat' first
   | (with_reducible exact spec_validRules.mono _ _ _ _ _)
   | (with_reducible exact LeO.refl _)
   | (with_reducible exact LeO.none _)
   | (with_reducible refine LeO.ite ?_ ?_)
   | (with_reducible refine LeO.bind ?_ (fun _ => ?_))
   | exact spec_validRules.mono _ _ _ _ _
   | exact LeO.none _
   | refine LeO.ite ?_ ?_
   | refine LeO.bind ?_ (fun _ => ?_)
set_option maxHeartbeats 8000000 in
set_option maxRecDepth 100000 in
theorem spec_ValidRules.calls (k : Nat) (a0_0 : Int) (a0_1 : Int) (a0_2 : Int) (A0_3 : Option Addr) (c0_3 : Nat) (l0_3 : List Int) (r : Bool) (w : World) (hr0_3 : Kd.C (Kd.int .i64) w A0_3 l0_3.length l0_3) (hc0_3 : l0_3.length ≤ c0_3) (h : spec_ValidRules.f k a0_0 a0_1 a0_2 l0_3 = some r) :
  Calls Try.prog 31 #[.agg #[.int .i64 a0_0,.int .i64 a0_1,.int .i64 a0_2,.slice A0_3 l0_3.length c0_3]] w fun e w' => e = .returned (.bool r) ∧ Below w.heap.size w w' := by
 have hu47 := Try.underlying47
 have HR0_3 := As_ hr0_3
 have HC0_3 := As_ hc0_3
 clear hr0_3 hc0_3
 have HB := As_ (Below.refl w.heap.size w)
 have H : ((spec_validRules.f k a0_0 a0_1 a0_2 l0_3).bind fun t540 => (some t540)) = some r := h
 clear h
 replace H := obS H
 obtain ⟨t540,A20,H⟩ := H
 replace H : (some t540) = some r := H
 have A2 := As_ A20
 clear A20
 obtain rfl := Option.some.inj H
 go_enter Try.func31,Try.ntmps31
 go_wp2_with (first|((with_reducible refine gate_dst (N := 1) rfl ?_);refine box_event ?hg (N := 1) ?hd (cs := #[.int .i64 a0_0,.int .i64 a0_1,.int .i64 a0_2,.slice A0_3 l0_3.length c0_3]) (t := 47) ?hr ?_;(case hd => rfl);(case hg => rfl);(case hr => go_simp <;> rfl);intro gb539 hg w3 hbox hb;have n0_ := As_ (bwT (zb0 HB.out) hb);have n1_ := As_ (hbox);have n2_ := As_ ((by rw [hg];exact (bwZ (zb0 HB.out)) : w.heap.size ≤ gb539));have n3_ := As_ ((by rw [hg];exact (bwZ (zb0 HB.out)) : w.heap.size ≤ gb539));clear HB;revert n0_ n1_ n2_ n3_;intro HB BK539 GW539 GE539;clear hb hbox hg;have hcz4_0 : w3.cell? ⟨gb539,0,none⟩ = some (.int .i64 a0_0) := (bkC BK539.out 0).trans rfl;have hcz4_1 : w3.cell? ⟨gb539,1,none⟩ = some (.int .i64 a0_1) := (bkC BK539.out 1).trans rfl;have hcz4_2 : w3.cell? ⟨gb539,2,none⟩ = some (.int .i64 a0_2) := (bkC BK539.out 2).trans rfl;have hcz4_3 : w3.cell? ⟨gb539,3,none⟩ = some (.slice A0_3 l0_3.length c0_3) := (bkC BK539.out 3).trans rfl;have hfz4_0 := bkF BK539.out 0;have hfz4_1 := bkF BK539.out 1;have hfz4_2 := bkF BK539.out 2;have hfz4_3 := bkF BK539.out 3)|((with_reducible refine gate_callee (f := 69) rfl ?_);refine goesL_ (some 4) rfl rfl Try.func69 (by kernel_rfl) rfl #[.agg #[.int .i64 a0_0,.int .i64 a0_1,.int .i64 a0_2,.slice A0_3 l0_3.length c0_3]] rfl zM_ ?_;(with_reducible refine (spec_validRules.calls k a0_0 a0_1 a0_2 _ _ l0_3 t540 _ ?side1 ?side2 A2.out).mono ?_);(case side1 => exact zC_ (Kd.C_below HR0_3.out HB.out));(case side2 => exact HC0_3.out);rintro e w5 ⟨rfl,hb⟩;refine ⟨_,rfl,?_⟩;have n0_ := As_ (zkb BK539.out hb);have n1_ := As_ (bwT (zb1 HB.out GE539.out) hb);clear BK539 HB;revert n0_ n1_;intro BK539 HB))
 go_ret
 exact ⟨zE_,zb1 HB.out GE539.out⟩

end Go.Proofs.Ytbokjhdhpmmpfaa.Q
