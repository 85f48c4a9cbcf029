-- Written by wip/tools/qprint.py (a program of this claim's author) by means of the kit's printer.
import Derived.Test.YtbokjhdhpmmpfaaRows
import Derived.Test.YtbokjhdhpmmpfaaQ7
import Derived.Test.YtbokjhdhpmmpfaaPureFnExactRulesAllow
import Derived.Test.YtbokjhdhpmmpfaaHopen
import Derived.WalkKit
import Derived.ProofKit
import Derived.OpenShut
import Derived.ShutString
import Derived.ChangeOld
import Derived.Below
import Derived.SizedLaws
namespace Go.Proofs.Ytbokjhdhpmmpfaa.fnExactRulesAllow
open Go.ChangeShapes Go.WideShapes Go.ChangeAt Go.RowKit Go.Proofs.Ytbokjhdhpmmpfaa.Q Go.Proofs.Ytbokjhdhpmmpfaa.Hopen Go.Proofs.YtbokjhdhpmmpfaaW.PrintWords Go.Proofs.YtbokjhdhpmmpfaaW.PrintLast
open Go.ChangeMaps (open_string shut_string)
set_option linter.unusedVariables false
theorem own : ownKnob Try.prog.godebug = none := by kernel_rfl
theorem laidOut : laidOutB Try.prog = true := by kernel_rfl
theorem o3 : Opens Try.prog 3 (Kd.int .i64) (fun a : Int => (Lit.int .i64 a).wf = true) := opens_int Try.underlying3
theorem o22 : Opens Try.prog 22 (Kd.slice 3 (Kd.int .i64)) (fun l : List Int => l.length ≤ maxLen ∧ ∀ x ∈ l, (fun a : Int => (Lit.int .i64 a).wf = true) x) := opens_slice Try.underlying22 (by kernel_rfl) o3
theorem o44 : Opens Try.prog 44 k44 (fun e : S44 => (fun a : Int => (Lit.int .i64 a).wf = true) e.f0 ∧ (fun a : Int => (Lit.int .i64 a).wf = true) e.f1 ∧ (fun a : Int => (Lit.int .i64 a).wf = true) e.f2 ∧ (fun l : List Int => l.length ≤ maxLen ∧ ∀ x ∈ l, (fun a : Int => (Lit.int .i64 a).wf = true) x) e.f3) := opens_struct4 (fun x : S44 => (x.f0, x.f1, x.f2, x.f3)) S44.mk (fun _ _ _ _ => rfl) Try.underlying44 (by kernel_rfl) (by kernel_rfl) o3 o3 o3 o22
set_option maxRecDepth 100000 in
theorem lifted (os : Os) (started : os.Started) (H : Type) (enc : TypeId × Value → H) :
    ReturnsInHanded {} Try.checked os 7 .any (Rows.fnExactRulesAllowSpec.pre6 enc Try.prog Try.f7 Rows.fnExactRulesAllowRow.domain false) (Rows.fnExactRulesAllowSpec.post enc Try.prog Try.f7 false true false false) := by
  refine returnsInHanded_of_change_sized (C := Try.checked) own started (by kernel_rfl) Try.func7
    (ChangeSpec.witness6 (enc := enc) (C := Try.checked) false ⟨#[], #[.agg #[.int .i64 0, .int .i64 0, .int .i64 0, .slice none 0 0], .agg #[.int .i64 0, .int .i64 0, .int .i64 0, .slice none 0 0]], []⟩ 8 (by kernel_rfl) (by kernel_rfl) (by kernel_rfl) (by kernel_rfl)) ?_
  intro W base args ds gs before hval0 hW hcnd hsz0 _
  have hval : ∀ (j : Nat) t v, Try.f7.params[j]? = some t → args[j]? = some v → Value.okWide Try.prog W .any base t v := hval0
  have hW' := hW
  obtain ⟨p, q, hA0, hV, rfl, hfz, hnd⟩ := hW
  have hA : DataW.TrodAll enc Try.prog W 0 (fun _ => true) true Try.f7.params.toList args.toList ds p := hA0
  rw [Try.params7] at hA hval
  obtain ⟨v0, vs0, d0, ds0, p0, q0, hargs, rfl, rfl, h0, r0⟩ := trodAll_cons hA
  obtain ⟨v1, vs1, d1, ds1, p1, q1, rfl, rfl, rfl, h1, r1⟩ := trodAll_cons r0
  obtain ⟨rfl, rfl, rfl⟩ := trodAll_nil r1
  obtain rfl : args = #[v0, v1] := by cases args; simp_all
  obtain ⟨rfl, rfl⟩ := trodVars_none hV
  have k0 := h0
  have lt0 : ∀ x ∈ p0, x.block < W.heap.size := by obtain ⟨m, hm⟩ := k0; exact DataW.trod_lt m _ _ _ hm
  obtain ⟨x0, cs0, rfl, K0, g0⟩ := opens_agg o44 Try.underlying44 (hval 0 44 v0 rfl rfl) h0
  obtain ⟨A0_3, c0_3, hcs0, hc0_3, hr0_3⟩ := k44_open K0
  obtain rfl : cs0 = #[.int .i64 x0.f0, .int .i64 x0.f1, .int .i64 x0.f2, .slice A0_3 x0.f3.length c0_3] := Array.ext' (by simpa using hcs0)
  have k1 := h1
  have lt1 : ∀ x ∈ p1, x.block < W.heap.size := by obtain ⟨m, hm⟩ := k1; exact DataW.trod_lt m _ _ _ hm
  obtain ⟨x1, cs1, rfl, K1, g1⟩ := opens_agg o44 Try.underlying44 (hval 1 44 v1 rfl rfl) h1
  obtain ⟨A1_3, c1_3, hcs1, hc1_3, hr1_3⟩ := k44_open K1
  obtain rfl : cs1 = #[.int .i64 x1.f0, .int .i64 x1.f1, .int .i64 x1.f2, .slice A1_3 x1.f3.length c1_3] := Array.ext' (by simpa using hcs1)
  clear hA0 hval0 hsz0
  refine (laws_FnExactRulesAllow.walk Pure.FnExactRulesAllow x0.f0 x0.f1 x0.f2 A0_3 c0_3 x0.f3 x1.f0 x1.f1 x1.f2 A1_3 c1_3 x1.f3 W hr0_3 hc0_3 hr1_3 hc1_3 g0.1 g0.2.1 g0.2.2.1 g0.2.2.2 g1.1 g1.2.1 g1.2.2.1 g1.2.2.2).mono fun e W' ⟨he, bel⟩ => ?_
  subst he
  exact ⟨_, rfl, _, _, _, [], _, [], hW', trodAll_mk1 (shut_bool Try.underlying4 _), (trodAll_cons_mk (Below.trod laidOut (by kernel_rfl) (of_decide_eq_true (by kernel_rfl)) k0 bel lt0) (trodAll_cons_mk (Below.trod laidOut (by kernel_rfl) (of_decide_eq_true (by kernel_rfl)) k1 bel lt1) trodAll_mk0)), rfl, bel.frame _, fun h => by cases h⟩
theorem over : Rows.fnExactRulesAllowRow.holds Try.pinned (OpenSpec.ofChange Rows.fnExactRulesAllowSpec) :=
  OpenClaim.holds_of_wide 7 Try.f7 rfl rfl rfl rfl rfl rfl rfl ⟨rfl, rfl, rfl, rfl, rfl⟩ rfl rfl rfl rfl rfl (by kernel_rfl) Try.func7 (by kernel_rfl)
    (of_decide_eq_true (by kernel_rfl)) (by unfold Func.isWrapper; first | (rw [if_pos (by decide +kernel)]; kernel_rfl) | (rw [if_neg (by decide +kernel)]; exact ⟨rfl, rfl⟩))
    (fun os started H enc _ => lifted os started H enc)
theorem proved : Rows.FnExactRulesAllowSaid := over
#print axioms proved
end Go.Proofs.Ytbokjhdhpmmpfaa.fnExactRulesAllow
namespace Go.Proofs.Ytbokjhdhpmmpfaa
/-- The row, under a short name, for the claim. -/
theorem fnExactRulesAllow_holds : Rows.FnExactRulesAllowSaid := fnExactRulesAllow.proved
end Go.Proofs.Ytbokjhdhpmmpfaa
