-- Written by wip/tools/qprint.py (a program of this claim's author) by means of the kit's printer.
import Derived.Test.YtbokjhdhpmmpfaaRows
import Derived.Test.YtbokjhdhpmmpfaaQ10
import Derived.Test.YtbokjhdhpmmpfaaPureFnExactValidMachine
import Derived.Test.YtbokjhdhpmmpfaaHopen
import Derived.WalkKit
import Derived.ProofKit
import Derived.OpenShut
import Derived.ShutString
import Derived.ChangeOld
import Derived.Below
import Derived.SizedLaws
namespace Go.Proofs.Ytbokjhdhpmmpfaa.fnExactValidMachine
open Go.ChangeShapes Go.WideShapes Go.ChangeAt Go.RowKit Go.Proofs.Ytbokjhdhpmmpfaa.Q Go.Proofs.Ytbokjhdhpmmpfaa.Hopen Go.Proofs.YtbokjhdhpmmpfaaW.PrintWords Go.Proofs.YtbokjhdhpmmpfaaW.PrintLast
open Go.ChangeMaps (open_string shut_string)
set_option linter.unusedVariables false
theorem own : ownKnob Try.prog.godebug = none := by kernel_rfl
theorem laidOut : laidOutB Try.prog = true := by kernel_rfl
theorem o3 : Opens Try.prog 3 (Kd.int .i64) (fun a : Int => (Lit.int .i64 a).wf = true) := opens_int Try.underlying3
theorem o22 : Opens Try.prog 22 (Kd.slice 3 (Kd.int .i64)) (fun l : List Int => l.length ≤ maxLen ∧ ∀ x ∈ l, (fun a : Int => (Lit.int .i64 a).wf = true) x) := opens_slice Try.underlying22 (by kernel_rfl) o3
theorem o128 : Opens Try.prog 128 k128 (fun e : S128 => (fun a : Int => (Lit.int .i64 a).wf = true) e.f0 ∧ (fun a : Int => (Lit.int .i64 a).wf = true) e.f1 ∧ (fun l : List Int => l.length ≤ maxLen ∧ ∀ x ∈ l, (fun a : Int => (Lit.int .i64 a).wf = true) x) e.f2) := opens_struct3 (fun x : S128 => (x.f0, x.f1, x.f2)) S128.mk (fun _ _ _ => rfl) Try.underlying128 (by kernel_rfl) (by kernel_rfl) o3 o3 o22
theorem o60 : Opens Try.prog 60 (Kd.slice 128 k128) (fun l : List (S128) => l.length ≤ maxLen ∧ ∀ x ∈ l, (fun e : S128 => (fun a : Int => (Lit.int .i64 a).wf = true) e.f0 ∧ (fun a : Int => (Lit.int .i64 a).wf = true) e.f1 ∧ (fun l : List Int => l.length ≤ maxLen ∧ ∀ x ∈ l, (fun a : Int => (Lit.int .i64 a).wf = true) x) e.f2) x) := opens_slice Try.underlying60 (by kernel_rfl) o128
theorem o4 : Opens Try.prog 4 Kd.bool (fun _ : Bool => True) := opens_bool Try.underlying4
theorem o62 : Opens Try.prog 62 k62 (fun e : S62 => (fun l : List (S128) => l.length ≤ maxLen ∧ ∀ x ∈ l, (fun e : S128 => (fun a : Int => (Lit.int .i64 a).wf = true) e.f0 ∧ (fun a : Int => (Lit.int .i64 a).wf = true) e.f1 ∧ (fun l : List Int => l.length ≤ maxLen ∧ ∀ x ∈ l, (fun a : Int => (Lit.int .i64 a).wf = true) x) e.f2) x) e.f0 ∧ (fun l : List Int => l.length ≤ maxLen ∧ ∀ x ∈ l, (fun a : Int => (Lit.int .i64 a).wf = true) x) e.f1 ∧ (fun l : List Int => l.length ≤ maxLen ∧ ∀ x ∈ l, (fun a : Int => (Lit.int .i64 a).wf = true) x) e.f2 ∧ (fun _ : Bool => True) e.f3) := opens_struct4 (fun x : S62 => (x.f0, x.f1, x.f2, x.f3)) S62.mk (fun _ _ _ _ => rfl) Try.underlying62 (by kernel_rfl) (by kernel_rfl) o60 o22 o22 o4
set_option maxRecDepth 100000 in
theorem lifted (os : Os) (started : os.Started) (H : Type) (enc : TypeId × Value → H) :
    ReturnsInHanded {} Try.checked os 10 .any (Rows.fnExactValidMachineSpec.pre6 enc Try.prog Try.f10 Rows.fnExactValidMachineRow.domain false) (Rows.fnExactValidMachineSpec.post enc Try.prog Try.f10 false true false false) := by
  refine returnsInHanded_of_change_sized (C := Try.checked) own started (by kernel_rfl) Try.func10
    (ChangeSpec.witness6 (enc := enc) (C := Try.checked) false ⟨#[], #[.agg #[.slice none 0 0, .slice none 0 0, .slice none 0 0, .bool false]], []⟩ 8 (by kernel_rfl) (by kernel_rfl) (by kernel_rfl) (by kernel_rfl)) ?_
  intro W base args ds gs before hval0 hW hcnd hsz0 _
  have hval : ∀ (j : Nat) t v, Try.f10.params[j]? = some t → args[j]? = some v → Value.okWide Try.prog W .any base t v := hval0
  have hW' := hW
  obtain ⟨p, q, hA0, hV, rfl, hfz, hnd⟩ := hW
  have hA : DataW.TrodAll enc Try.prog W 0 (fun _ => true) true Try.f10.params.toList args.toList ds p := hA0
  rw [Try.params10] at hA hval
  obtain ⟨v0, vs0, d0, ds0, p0, q0, hargs, rfl, rfl, h0, r0⟩ := trodAll_cons hA
  obtain ⟨rfl, rfl, rfl⟩ := trodAll_nil r0
  obtain rfl : args = #[v0] := by cases args; simp_all
  obtain ⟨rfl, rfl⟩ := trodVars_none hV
  have k0 := h0
  have lt0 : ∀ x ∈ p0, x.block < W.heap.size := by obtain ⟨m, hm⟩ := k0; exact DataW.trod_lt m _ _ _ hm
  obtain ⟨x0, cs0, rfl, K0, g0⟩ := opens_agg o62 Try.underlying62 (hval 0 62 v0 rfl rfl) h0
  obtain ⟨A0_0, c0_0, A0_1, c0_1, A0_2, c0_2, hcs0, hc0_0, hr0_0, hc0_1, hr0_1, hc0_2, hr0_2⟩ := k62_open K0
  obtain rfl : cs0 = #[.slice A0_0 x0.f0.length c0_0, .slice A0_1 x0.f1.length c0_1, .slice A0_2 x0.f2.length c0_2, .bool x0.f3] := Array.ext' (by simpa using hcs0)
  clear hA0 hval0 hsz0
  refine (laws_FnExactValidMachine.walk Pure.FnExactValidMachine A0_0 c0_0 x0.f0 A0_1 c0_1 x0.f1 A0_2 c0_2 x0.f2 x0.f3 W hr0_0 hc0_0 hr0_1 hc0_1 hr0_2 hc0_2 g0.1 g0.2.1 g0.2.2.1).mono fun e W' ⟨he, bel⟩ => ?_
  subst he
  exact ⟨_, rfl, _, _, _, [], _, [], hW', trodAll_mk1 (shut_bool Try.underlying4 _), (trodAll_cons_mk (Below.trod laidOut (by kernel_rfl) (of_decide_eq_true (by kernel_rfl)) k0 bel lt0) trodAll_mk0), rfl, bel.frame _, fun h => by cases h⟩
theorem over : Rows.fnExactValidMachineRow.holds Try.pinned (OpenSpec.ofChange Rows.fnExactValidMachineSpec) :=
  OpenClaim.holds_of_wide 10 Try.f10 rfl rfl rfl rfl rfl rfl rfl ⟨rfl, rfl, rfl, rfl, rfl⟩ rfl rfl rfl rfl rfl (by kernel_rfl) Try.func10 (by kernel_rfl)
    (of_decide_eq_true (by kernel_rfl)) (by unfold Func.isWrapper; first | (rw [if_pos (by decide +kernel)]; kernel_rfl) | (rw [if_neg (by decide +kernel)]; exact ⟨rfl, rfl⟩))
    (fun os started H enc _ => lifted os started H enc)
theorem proved : Rows.FnExactValidMachineSaid := over
#print axioms proved
end Go.Proofs.Ytbokjhdhpmmpfaa.fnExactValidMachine
namespace Go.Proofs.Ytbokjhdhpmmpfaa
/-- The row, under a short name, for the claim. -/
theorem fnExactValidMachine_holds : Rows.FnExactValidMachineSaid := fnExactValidMachine.proved
end Go.Proofs.Ytbokjhdhpmmpfaa
