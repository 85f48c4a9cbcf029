-- Written by wip/tools/qprint.py (a program of this claim's author) by means of the kit's printer.
import Derived.Test.YtonppkaobnfldaaRows
import Derived.Test.YtonppkaobnfldaaQ10
import Derived.Test.YtonppkaobnfldaaPureFnExactSplitStops
import Derived.Test.YtonppkaobnfldaaHopen
import Derived.WalkKit
import Derived.ProofKit
import Derived.OpenShut
import Derived.ShutString
import Derived.ChangeOld
import Derived.Below
import Derived.SizedLaws
namespace Go.Proofs.Ytonppkaobnfldaa.fnExactSplitStops
open Go.ChangeShapes Go.WideShapes Go.ChangeAt Go.RowKit Go.Proofs.Ytonppkaobnfldaa.Q Go.Proofs.Ytonppkaobnfldaa.Hopen Go.Proofs.YtonppkaobnfldaaW.PrintWords Go.Proofs.YtonppkaobnfldaaW.PrintLast
open Go.ChangeMaps (open_string shut_string)
set_option linter.unusedVariables false
theorem own : ownKnob Try.prog.godebug = none := by kernel_rfl
theorem laidOut : laidOutB Try.prog = true := by kernel_rfl
theorem o3 : Opens Try.prog 3 (Kd.int .i64) (fun a : Int => (Lit.int .i64 a).wf = true) := opens_int Try.underlying3
theorem o51 : Opens Try.prog 51 k51 (fun e : S51 => (fun a : Int => (Lit.int .i64 a).wf = true) e.f0 ∧ (fun a : Int => (Lit.int .i64 a).wf = true) e.f1) := opens_struct2 (fun x : S51 => (x.f0, x.f1)) S51.mk (fun _ _ => rfl) Try.underlying51 (by kernel_rfl) (by kernel_rfl) o3 o3
theorem o22 : Opens Try.prog 22 (Kd.slice 51 k51) (fun l : List (S51) => l.length ≤ maxLen ∧ ∀ x ∈ l, (fun e : S51 => (fun a : Int => (Lit.int .i64 a).wf = true) e.f0 ∧ (fun a : Int => (Lit.int .i64 a).wf = true) e.f1) x) := opens_slice Try.underlying22 (by kernel_rfl) o51
set_option maxRecDepth 100000 in
theorem lifted (os : Os) (started : os.Started) (H : Type) (enc : TypeId × Value → H) :
    ReturnsInHanded {} Try.checked os 10 .any (Rows.fnExactSplitStopsSpec.pre6 enc Try.prog Try.f10 Rows.fnExactSplitStopsRow.domain false) (Rows.fnExactSplitStopsSpec.post enc Try.prog Try.f10 false true false false) := by
  refine returnsInHanded_of_change_sized (C := Try.checked) own started (by kernel_rfl) Try.func10
    (ChangeSpec.witness6 (enc := enc) (C := Try.checked) false ⟨#[], #[.slice none 0 0], []⟩ 8 (by kernel_rfl) (by kernel_rfl) (by kernel_rfl) (by kernel_rfl)) ?_
  intro W base args ds gs before hval0 hW hcnd hsz0 _
  have hval : ∀ (j : Nat) t v, Try.f10.params[j]? = some t → args[j]? = some v → Value.okWide Try.prog W .any base t v := hval0
  have hW' := hW
  obtain ⟨p, q, hA0, hV, rfl, hfz, hnd⟩ := hW
  have hA : DataW.TrodAll enc Try.prog W 0 (fun _ => true) true Try.f10.params.toList args.toList ds p := hA0
  rw [Try.params10] at hA hval
  obtain ⟨v0, vs0, d0, ds0, p0, q0, hargs, rfl, rfl, h0, r0⟩ := trodAll_cons hA
  obtain ⟨rfl, rfl, rfl⟩ := trodAll_nil r0
  obtain rfl : args = #[v0] := by cases args; simp_all
  obtain ⟨rfl, rfl⟩ := trodVars_none hV
  have k0 := h0
  have lt0 : ∀ x ∈ p0, x.block < W.heap.size := by obtain ⟨m, hm⟩ := k0; exact DataW.trod_lt m _ _ _ hm
  obtain ⟨l0, A0, c0, rfl, hc0, hr0, g0⟩ := opens_row o22 Try.underlying22 (hval 0 22 v0 rfl rfl) h0
  clear hA0 hval0 hsz0
  refine (laws_FnExactSplitStops.walk Pure.FnExactSplitStops A0 c0 l0 W hr0 hc0 g0).mono fun e W' ⟨he, bel⟩ => ?_
  subst he
  exact ⟨_, rfl, _, _, _, [], _, [], hW', trodAll_mk1 (shut_bool Try.underlying4 _), (trodAll_cons_mk (Below.trod laidOut (by kernel_rfl) (of_decide_eq_true (by kernel_rfl)) k0 bel lt0) trodAll_mk0), rfl, bel.frame _, fun h => by cases h⟩
theorem over : Rows.fnExactSplitStopsRow.holds Try.pinned (OpenSpec.ofChange Rows.fnExactSplitStopsSpec) :=
  OpenClaim.holds_of_wide 10 Try.f10 rfl rfl rfl rfl rfl rfl rfl ⟨rfl, rfl, rfl, rfl, rfl⟩ rfl rfl rfl rfl rfl (by kernel_rfl) Try.func10 (by kernel_rfl)
    (of_decide_eq_true (by kernel_rfl)) (by unfold Func.isWrapper; first | (rw [if_pos (by decide +kernel)]; kernel_rfl) | (rw [if_neg (by decide +kernel)]; exact ⟨rfl, rfl⟩))
    (fun os started H enc _ => lifted os started H enc)
theorem proved : Rows.FnExactSplitStopsSaid := over
#print axioms proved
end Go.Proofs.Ytonppkaobnfldaa.fnExactSplitStops
namespace Go.Proofs.Ytonppkaobnfldaa
/-- The row, under a short name, for the claim. -/
theorem fnExactSplitStops_holds : Rows.FnExactSplitStopsSaid := fnExactSplitStops.proved
end Go.Proofs.Ytonppkaobnfldaa
