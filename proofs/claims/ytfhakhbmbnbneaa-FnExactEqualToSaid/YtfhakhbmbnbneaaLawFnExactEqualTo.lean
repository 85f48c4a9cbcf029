-- Written by wip/tools/qprint.py (a program of this claim's author) by means of the kit's printer.
import Derived.Test.YtfhakhbmbnbneaaRows
import Derived.Test.YtfhakhbmbnbneaaQ8
import Derived.Test.YtfhakhbmbnbneaaPureFnExactEqualTo
import Derived.Test.YtfhakhbmbnbneaaHopen
import Derived.WalkKit
import Derived.ProofKit
import Derived.OpenShut
import Derived.ShutString
import Derived.ChangeOld
import Derived.Below
import Derived.SizedLaws
namespace Go.Proofs.Ytfhakhbmbnbneaa.fnExactEqualTo
open Go.ChangeShapes Go.WideShapes Go.ChangeAt Go.RowKit Go.Proofs.Ytfhakhbmbnbneaa.Q Go.Proofs.Ytfhakhbmbnbneaa.Hopen Go.Proofs.YtfhakhbmbnbneaaW.PrintWords Go.Proofs.YtfhakhbmbnbneaaW.PrintLast
open Go.ChangeMaps (open_string shut_string)
set_option linter.unusedVariables false
theorem own : ownKnob Try.prog.godebug = none := by kernel_rfl
theorem laidOut : laidOutB Try.prog = true := by kernel_rfl
theorem o3 : Opens Try.prog 3 (Kd.int .i64) (fun a : Int => (Lit.int .i64 a).wf = true) := opens_int Try.underlying3
theorem o37 : Opens Try.prog 37 (Kd.slice 3 (Kd.int .i64)) (fun l : List Int => l.length ≤ maxLen ∧ ∀ x ∈ l, (fun a : Int => (Lit.int .i64 a).wf = true) x) := opens_slice Try.underlying37 (by kernel_rfl) o3
theorem o74 : Opens Try.prog 74 k74 (fun e : S74 => (fun a : Int => (Lit.int .i64 a).wf = true) e.f0 ∧ (fun a : Int => (Lit.int .i64 a).wf = true) e.f1 ∧ (fun l : List Int => l.length ≤ maxLen ∧ ∀ x ∈ l, (fun a : Int => (Lit.int .i64 a).wf = true) x) e.f2) := opens_struct3 (fun x : S74 => (x.f0, x.f1, x.f2)) S74.mk (fun _ _ _ => rfl) Try.underlying74 (by kernel_rfl) (by kernel_rfl) o3 o3 o37
theorem o22 : Opens Try.prog 22 (Kd.slice 74 k74) (fun l : List (S74) => l.length ≤ maxLen ∧ ∀ x ∈ l, (fun e : S74 => (fun a : Int => (Lit.int .i64 a).wf = true) e.f0 ∧ (fun a : Int => (Lit.int .i64 a).wf = true) e.f1 ∧ (fun l : List Int => l.length ≤ maxLen ∧ ∀ x ∈ l, (fun a : Int => (Lit.int .i64 a).wf = true) x) e.f2) x) := opens_slice Try.underlying22 (by kernel_rfl) o74
theorem o24 : Opens Try.prog 24 k24 (fun e : S24 => (fun l : List (S74) => l.length ≤ maxLen ∧ ∀ x ∈ l, (fun e : S74 => (fun a : Int => (Lit.int .i64 a).wf = true) e.f0 ∧ (fun a : Int => (Lit.int .i64 a).wf = true) e.f1 ∧ (fun l : List Int => l.length ≤ maxLen ∧ ∀ x ∈ l, (fun a : Int => (Lit.int .i64 a).wf = true) x) e.f2) x) e.f0 ∧ (fun a : Int => (Lit.int .i64 a).wf = true) e.f1) := opens_struct2 (fun x : S24 => (x.f0, x.f1)) S24.mk (fun _ _ => rfl) Try.underlying24 (by kernel_rfl) (by kernel_rfl) o22 o3
set_option maxRecDepth 100000 in
theorem lifted (os : Os) (started : os.Started) (H : Type) (enc : TypeId × Value → H) :
    ReturnsInHanded {} Try.checked os 8 .any (Rows.fnExactEqualToSpec.pre6 enc Try.prog Try.f8 Rows.fnExactEqualToRow.domain false) (Rows.fnExactEqualToSpec.post enc Try.prog Try.f8 false true false false) := by
  refine returnsInHanded_of_change_sized (C := Try.checked) own started (by kernel_rfl) Try.func8
    (ChangeSpec.witness6 (enc := enc) (C := Try.checked) false ⟨#[], #[.agg #[.slice none 0 0, .int .i64 0], .agg #[.slice none 0 0, .int .i64 0], .int .i64 0], []⟩ 8 (by kernel_rfl) (by kernel_rfl) (by kernel_rfl) (by kernel_rfl)) ?_
  intro W base args ds gs before hval0 hW hcnd hsz0 _
  have hval : ∀ (j : Nat) t v, Try.f8.params[j]? = some t → args[j]? = some v → Value.okWide Try.prog W .any base t v := hval0
  have hW' := hW
  obtain ⟨p, q, hA0, hV, rfl, hfz, hnd⟩ := hW
  have hA : DataW.TrodAll enc Try.prog W 0 (fun _ => true) true Try.f8.params.toList args.toList ds p := hA0
  rw [Try.params8] at hA hval
  obtain ⟨v0, vs0, d0, ds0, p0, q0, hargs, rfl, rfl, h0, r0⟩ := trodAll_cons hA
  obtain ⟨v1, vs1, d1, ds1, p1, q1, rfl, rfl, rfl, h1, r1⟩ := trodAll_cons r0
  obtain ⟨v2, vs2, d2, ds2, p2, q2, rfl, rfl, rfl, h2, r2⟩ := trodAll_cons r1
  obtain ⟨rfl, rfl, rfl⟩ := trodAll_nil r2
  obtain rfl : args = #[v0, v1, v2] := by cases args; simp_all
  obtain ⟨rfl, rfl⟩ := trodVars_none hV
  have k0 := h0
  have lt0 : ∀ x ∈ p0, x.block < W.heap.size := by obtain ⟨m, hm⟩ := k0; exact DataW.trod_lt m _ _ _ hm
  obtain ⟨x0, cs0, rfl, K0, g0⟩ := opens_agg o24 Try.underlying24 (hval 0 24 v0 rfl rfl) h0
  obtain ⟨A0_0, c0_0, hcs0, hc0_0, hr0_0⟩ := k24_open K0
  obtain rfl : cs0 = #[.slice A0_0 x0.f0.length c0_0, .int .i64 x0.f1] := Array.ext' (by simpa using hcs0)
  have k1 := h1
  have lt1 : ∀ x ∈ p1, x.block < W.heap.size := by obtain ⟨m, hm⟩ := k1; exact DataW.trod_lt m _ _ _ hm
  obtain ⟨x1, cs1, rfl, K1, g1⟩ := opens_agg o24 Try.underlying24 (hval 1 24 v1 rfl rfl) h1
  obtain ⟨A1_0, c1_0, hcs1, hc1_0, hr1_0⟩ := k24_open K1
  obtain rfl : cs1 = #[.slice A1_0 x1.f0.length c1_0, .int .i64 x1.f1] := Array.ext' (by simpa using hcs1)
  obtain ⟨a2, rfl, rfl, rfl, w2⟩ := open_int Try.underlying3 (hval 2 3 v2 rfl rfl) h2
  clear hA0 hval0 hsz0
  refine (laws_FnExactEqualTo.walk Pure.FnExactEqualTo A0_0 c0_0 x0.f0 x0.f1 A1_0 c1_0 x1.f0 x1.f1 a2 W hr0_0 hc0_0 hr1_0 hc1_0 g0.1 g0.2 g1.1 g1.2 w2).mono fun e W' ⟨he, bel⟩ => ?_
  subst he
  exact ⟨_, rfl, _, _, _, [], _, [], hW', trodAll_mk1 (shut_bool Try.underlying4 _), (trodAll_cons_mk (Below.trod laidOut (by kernel_rfl) (of_decide_eq_true (by kernel_rfl)) k0 bel lt0) (trodAll_cons_mk (Below.trod laidOut (by kernel_rfl) (of_decide_eq_true (by kernel_rfl)) k1 bel lt1) (trodAll_cons_mk (shut_int Try.underlying3 w2) trodAll_mk0))), rfl, bel.frame _, fun h => by cases h⟩
theorem over : Rows.fnExactEqualToRow.holds Try.pinned (OpenSpec.ofChange Rows.fnExactEqualToSpec) :=
  OpenClaim.holds_of_wide 8 Try.f8 rfl rfl rfl rfl rfl rfl rfl ⟨rfl, rfl, rfl, rfl, rfl⟩ rfl rfl rfl rfl rfl (by kernel_rfl) Try.func8 (by kernel_rfl)
    (of_decide_eq_true (by kernel_rfl)) (by unfold Func.isWrapper; first | (rw [if_pos (by decide +kernel)]; kernel_rfl) | (rw [if_neg (by decide +kernel)]; exact ⟨rfl, rfl⟩))
    (fun os started H enc _ => lifted os started H enc)
theorem proved : Rows.FnExactEqualToSaid := over
#print axioms proved
end Go.Proofs.Ytfhakhbmbnbneaa.fnExactEqualTo
namespace Go.Proofs.Ytfhakhbmbnbneaa
/-- The row, under a short name, for the claim. -/
theorem fnExactEqualTo_holds : Rows.FnExactEqualToSaid := fnExactEqualTo.proved
end Go.Proofs.Ytfhakhbmbnbneaa
