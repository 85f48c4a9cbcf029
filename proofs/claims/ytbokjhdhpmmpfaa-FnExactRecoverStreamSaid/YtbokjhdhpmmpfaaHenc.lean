/- The bytes of a program: what both functions tell. -/
import Derived.Test.YtbokjhdhpmmpfaaHop
import Derived.Test.YtbokjhdhpmmpfaaQ59
import Derived.Test.YtbokjhdhpmmpfaaQ64
import Derived.Test.YtbokjhdhpmmpfaaQ94
namespace Go.Proofs.Ytbokjhdhpmmpfaa.Q
open Go.RowKit Go.Proofs.YtbokjhdhpmmpfaaW.PrintWords
set_option linter.unusedVariables false
set_option linter.unusedSimpArgs false

/-- Has an order of this code an argument? -/
def hasArg (c : Int) : Prop := c = 0 ∨ c = 1 ∨ c = 13 ∨ c = 15 ∨ c = 16
instance (c : Int) : Decidable (hasArg c) := by unfold hasArg;infer_instance
theorem most_pos {c : Int} (h : hasArg c) : 9 ≤ most c := by
 unfold hasArg at h
 unfold most
 repeat' split
 all_goals omega
theorem most_zero {c : Int} (h : ¬ hasArg c) : most c = 0 := by
 unfold hasArg at h
 unfold most
 repeat' split
 all_goals first | rfl | (exfalso;omega)
/-- The bytes of an order. -/
def encOp (o : Op) : List Int := if hasArg o.f0 then (if o.f1 < 128 then [o.f0,o.f1] else [o.f0,wrap64 (128 + Int.tmod o.f1 128),wrap64 (Int.tdiv o.f1 128)]) else [o.f0]
def enc (l : List Op) : List Int := l.flatMap encOp
theorem encOp_len (o : Op) : 1 ≤ (encOp o).length ∧ (encOp o).length ≤ 3 := by
 unfold encOp
 repeat' split
 all_goals simp
theorem enc_len (l : List Op) : (enc l).length ≤ 3 * l.length := by
 induction l with
 | nil => simp [enc]
 | cons o l ih =>
  have := (encOp_len o).2
  have e : enc (o :: l) = encOp o ++ enc l := by simp [enc]
  rw [e,List.length_append,List.length_cons]
  omega
theorem enc_snoc (l : List Op) (i : Nat) (h : i < l.length) : enc (l.take (i + 1)) = enc (l.take i) ++ encOp (l.getD i zOp) := by
 rw [take_getD zOp h];simp [enc]
theorem enc_take_len (l : List Op) (i : Nat) (h : i ≤ l.length) (hn : l.length ≤ 300) : (enc (l.take i)).length ≤ 900 := by
 have := enc_len (l.take i)
 rw [List.length_take] at this
 omega
theorem bytesOf_eq (o : Op) : spec_bytesOf.f o.f0 o.f1 = some (encOp o) := by
 unfold spec_bytesOf.f encOp
 rw [argOf_eq]
 simp only [Option.bind_some]
 by_cases h : hasArg o.f0
 ·have := most_pos h
  rw [if_pos (show o.f0 = 0 ∨ o.f0 = 1 ∨ o.f0 = 13 ∨ o.f0 = 15 ∨ o.f0 = 16 from h),if_neg (by omega),if_pos h]
  split <;> rfl
 ·rw [if_neg (show ¬ (o.f0 = 0 ∨ o.f0 = 1 ∨ o.f0 = 13 ∨ o.f0 = 15 ∨ o.f0 = 16) from h),if_pos (by omega),if_neg h]

theorem specEnc_ev (l : List Op) (hn : l.length ≤ 4611686018427387904) : Ev (fun k => spec_EncodeOps.f k l) (if vOps l then enc l else []) := by
 unfold spec_EncodeOps.f
 refine Ev.bind (validOps_ev l hn) ?_
 cases hv : vOps l with
 | false => exact Ev.ite_neg (by simp) (Ev.now _)
 | true =>
  refine Ev.ite_pos rfl ?_
  have hl := vOps_len hv
  have h := ev_steps (L := fun k b i => spec_EncodeOps.l0 k l b i) (n := l.length) (fun i => enc (l.take i)) (r := enc l) (fun i hi r hr => ?_) ?_
  ·simpa [enc] using h
  ·refine Ev.step (f := fun k => spec_EncodeOps.l0 k l (enc (l.take (i + 1))) ((i + 1 : Nat) : Int)) (fun k => ?_) hr
   have h1 := enc_take_len l i (by omega) hl
   have h2 := (encOp_len (l.getD i zOp)).2
   simp only [spec_EncodeOps.l0]
   rw [if_pos (by omega),if_pos (by omega),rdO,bytesOf_eq]
   simp only [Option.bind_some]
   rw [if_pos (by omega),w64s hi hn,enc_snoc l i hi]
  ·refine Ev.step (f := fun _ => some (enc l)) (fun k => ?_) (Ev.now _)
   simp only [spec_EncodeOps.l0]
   rw [if_neg (by omega),List.take_length]
theorem implEnc_ev (l : List Op) (hn : l.length ≤ 4611686018427387904) : Ev (fun k => impl_EncodeOps.f k l) (if vOps l then enc l else []) := by
 unfold impl_EncodeOps.f
 refine Ev.bind (implValidOps_ev l hn) ?_
 cases hv : vOps l with
 | false => exact Ev.ite_neg (by simp) (Ev.now _)
 | true =>
  refine Ev.ite_pos rfl ?_
  have hl := vOps_len hv
  have h := ev_steps (L := fun k b i => impl_EncodeOps.l0 k b l (l.length : Int) i) (n := l.length) (fun i => enc (l.take i)) (r := enc l) (fun i hi r hr => ?_) ?_
  ·simpa [enc] using h
  ·refine Ev.step (f := fun k => impl_EncodeOps.l0 k (enc (l.take (i + 1))) l (l.length : Int) ((i + 1 : Nat) : Int)) (fun k => ?_) hr
   have h1 := enc_take_len l i (by omega) hl
   simp only [impl_EncodeOps.l0]
   rw [if_pos (by omega),if_pos (by omega),if_pos (by omega),rdO,if_pos (by omega)]
   simp only [Option.bind_some,mostArg_eq]
   rw [w64s hi hn,enc_snoc l i hi]
   unfold encOp
   by_cases h : hasArg (l.getD i zOp).f0
   ·have := most_pos h
    rw [if_neg (by omega),if_pos h]
    by_cases ha : (l.getD i zOp).f1 < 128
    ·rw [if_pos ha,if_pos (by simp;omega),if_pos ha]
     simp
    ·rw [if_neg ha,if_pos (by simp;omega),if_neg ha]
     simp
   ·rw [if_pos (most_zero h),if_neg h]
  ·refine Ev.step (f := fun _ => some (enc l)) (fun k => ?_) (Ev.now _)
   simp only [impl_EncodeOps.l0]
   rw [if_neg (by omega),List.take_length]
theorem implEnc_ev_len (l : List Op) : (if vOps l then enc l else []).length ≤ 900 := by
 cases hv : vOps l with
 | false => simp
 | true =>
  have h1 := enc_len l
  have h2 := vOps_len hv
  simp
  omega
end Go.Proofs.Ytbokjhdhpmmpfaa.Q
