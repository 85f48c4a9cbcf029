-- Written by wip/tools/qprint.py (a program of this claim's author) by means of the kit's printer.
import Derived.Test.YtbokjhdhpmmpfaaQ0
import Derived.Test.YtbokjhdhpmmpfaaQ116
namespace Go.Proofs.Ytbokjhdhpmmpfaa.Q
open Go.RowKit Go.Proofs.YtbokjhdhpmmpfaaW.PrintWords Go.Proofs.YtbokjhdhpmmpfaaW.PrintLast Go.Proofs.YtbokjhdhpmmpfaaW.PrintMore
attribute [local go_sem] max2_int min2_int max_two min_two max_three min_three max_four min_four   -- for this text's walks alone
set_option linter.unusedVariables false
set_option linter.unusedSimpArgs false

/-! ### spec_bytesOf: function 94 -/
def spec_bytesOf.f (a0_0 : Int) (a0_1 : Int) : Option (List Int) := (spec_argOf.f a0_0).bind fun t122 => (if t122 < 0 then (some (([a0_0] : List Int))) else (if a0_1 < 128 then (some (([a0_0,a0_1] : List Int))) else (some (([a0_0,wrap64 (128 + (Int.tmod a0_1 128)),wrap64 (Int.tdiv a0_1 128)] : List Int)))))
set_option maxHeartbeats 8000000 in
set_option maxRecDepth 100000 in
theorem spec_bytesOf.calls (a0_0 : Int) (a0_1 : Int) (r : List Int) (w : World) (h : spec_bytesOf.f a0_0 a0_1 = some r) :
  Calls Try.prog 94 #[.agg #[.int .i64 a0_0,.int .i64 a0_1]] w fun e w' => ∃ v0_ : Value,e = .returned (v0_) ∧ Kd.R (Kd.int .i64) 3 w' w.heap.size (fun _ => True) v0_ r ∧ Below w.heap.size w w' := by
 have hu75 := Try.underlying75
 have HB := As_ (Below.refl w.heap.size w)
 have H : ((spec_argOf.f a0_0).bind fun t122 => (if t122 < 0 then (some (([a0_0] : List Int))) else (if a0_1 < 128 then (some (([a0_0,a0_1] : List Int))) else (some (([a0_0,wrap64 (128 + (Int.tmod a0_1 128)),wrap64 (Int.tdiv a0_1 128)] : List Int)))))) = some r := h
 clear h
 replace H := obS H
 obtain ⟨t122,A20,H⟩ := H
 replace H : (if t122 < 0 then (some (([a0_0] : List Int))) else (if a0_1 < 128 then (some (([a0_0,a0_1] : List Int))) else (some (([a0_0,wrap64 (128 + (Int.tmod a0_1 128)),wrap64 (Int.tdiv a0_1 128)] : List Int))))) = some r := H
 have A2 := As_ A20
 clear A20
 by_cases c3 : t122 < 0
 ·rw [if_pos c3] at H
  have c3b0 : decide (t122 < 0) = true := deT c3
  clear c3
  obtain ⟨y123,hy123⟩ : ∃ y_ : List Int,y_ = (([a0_0] : List Int)) := ⟨_,rfl⟩
  replace H : (some y123) = some r := zH_ H hy123
  have Ny123 := As_ hy123
  clear hy123
  obtain rfl := Option.some.inj H
  go_enter Try.func94,Try.ntmps94
  go_wp2_with (first|((with_reducible refine gate_dst (N := 1) rfl ?_);refine box_event ?hg (N := 1) ?hd (cs := #[.int .i64 a0_0,.int .i64 a0_1]) (t := 75) ?hr ?_;(case hd => rfl);(case hg => rfl);(case hr => go_simp <;> rfl);intro gb121 hg w4 hbox hb;have n0_ := As_ (bwT (zb0 HB.out) hb);have n1_ := As_ (hbox);have n2_ := As_ ((by rw [hg];exact (bwZ (zb0 HB.out)) : w.heap.size ≤ gb121));have n3_ := As_ ((by rw [hg];exact (bwZ (zb0 HB.out)) : w.heap.size ≤ gb121));clear HB;revert n0_ n1_ n2_ n3_;intro HB BK121 GW121 GE121;clear hb hbox hg;obtain ⟨hcz5_0,hcz5_1,hfz5_0,hfz5_1⟩ := bk2 BK121.out)|((with_reducible refine gate_callee (f := 116) rfl ?_);refine goesL_ (some 5) rfl rfl Try.func116 (by kernel_rfl) rfl #[.int .i64 a0_0] rfl zM_ ?_;(with_reducible refine (spec_argOf.calls a0_0 t122 _ A2.out).mono ?_);rintro e w' ⟨rfl,⟨nd,rfl⟩⟩;refine ⟨_,rfl,?_⟩)|((with_reducible refine gate_dst (N := 9) rfl ?_);refine Kd.R_lit (Kd.int .i64) _ 3 ?hg (N := 9) ?hd (xs := ([a0_0] : List Int)) (inner := [.int .i64 a0_0]) (ok := fun _ => True) (okp := fun _ => True) ?hr ?hp (fun _ hk => hk) trivial (Below.refl _ _) (Nat.le_refl _) (by simp) ?_;(case hd => rfl);(case hg => rfl);(case hr => go_simp <;> rfl);(case hp => exact (Reps.one (show Kd.M (Kd.int .i64) _ _ _ a0_0 [.int .i64 a0_0] from rfl) (Reps.none _ _)));intro v124 w6 ho7 hb hg_ hnew_;clear hg_ hnew_;(first|rw [← Ny123.out] at ho7|(simp only [Int.reduceToNat] at ho7;rw [← Ny123.out] at ho7));have n0_ := As_ (Kd.R_lower ho7 (bwZ (zb1 HB.out GE121.out)));have n1_ := As_ (zkb BK121.out hb);have n2_ := As_ (bwT (zb1 HB.out GE121.out) hb);clear BK121 HB;revert n0_ n1_ n2_;intro HO125 BK121 HB;clear hb ho7))
  go_ret
  exact ⟨_,zE_,by (with_reducible repeat (first|apply Kd.R_alloc|apply Kd.R_drewN|apply Kd.R_drew));exact HO125.out,zb1 HB.out GE121.out⟩
 rw [if_neg c3] at H
 have c3b0 : decide (t122 < 0) = false := deF c3
 clear c3
 by_cases c8 : a0_1 < 128
 ·rw [if_pos c8] at H
  have c8b0 : decide (a0_1 < 128) = true := deT c8
  clear c8
  obtain ⟨y126,hy126⟩ : ∃ y_ : List Int,y_ = (([a0_0,a0_1] : List Int)) := ⟨_,rfl⟩
  replace H : (some y126) = some r := zH_ H hy126
  have Ny126 := As_ hy126
  clear hy126
  obtain rfl := Option.some.inj H
  go_enter Try.func94,Try.ntmps94
  go_wp2_with (first|((with_reducible refine gate_dst (N := 1) rfl ?_);refine box_event ?hg (N := 1) ?hd (cs := #[.int .i64 a0_0,.int .i64 a0_1]) (t := 75) ?hr ?_;(case hd => rfl);(case hg => rfl);(case hr => go_simp <;> rfl);intro gb121 hg w9 hbox hb;have n0_ := As_ (bwT (zb0 HB.out) hb);have n1_ := As_ (hbox);have n2_ := As_ ((by rw [hg];exact (bwZ (zb0 HB.out)) : w.heap.size ≤ gb121));have n3_ := As_ ((by rw [hg];exact (bwZ (zb0 HB.out)) : w.heap.size ≤ gb121));clear HB;revert n0_ n1_ n2_ n3_;intro HB BK121 GW121 GE121;clear hb hbox hg;obtain ⟨hcz10_0,hcz10_1,hfz10_0,hfz10_1⟩ := bk2 BK121.out)|((with_reducible refine gate_callee (f := 116) rfl ?_);refine goesL_ (some 5) rfl rfl Try.func116 (by kernel_rfl) rfl #[.int .i64 a0_0] rfl zM_ ?_;(with_reducible refine (spec_argOf.calls a0_0 t122 _ A2.out).mono ?_);rintro e w' ⟨rfl,⟨nd,rfl⟩⟩;refine ⟨_,rfl,?_⟩)|((with_reducible refine gate_dst (N := 17) rfl ?_);refine Kd.R_lit (Kd.int .i64) _ 3 ?hg (N := 17) ?hd (xs := ([a0_0,a0_1] : List Int)) (inner := [.int .i64 a0_0,.int .i64 a0_1]) (ok := fun _ => True) (okp := fun _ => True) ?hr ?hp (fun _ hk => hk) trivial (Below.refl _ _) (Nat.le_refl _) (by simp) ?_;(case hd => rfl);(case hg => rfl);(case hr => go_simp <;> rfl);(case hp => exact (Reps.one (show Kd.M (Kd.int .i64) _ _ _ a0_0 [.int .i64 a0_0] from rfl) (Reps.one (show Kd.M (Kd.int .i64) _ _ _ a0_1 [.int .i64 a0_1] from rfl) (Reps.none _ _))));intro v127 w11 ho12 hb hg_ hnew_;clear hg_ hnew_;(first|rw [← Ny126.out] at ho12|(simp only [Int.reduceToNat] at ho12;rw [← Ny126.out] at ho12));have n0_ := As_ (Kd.R_lower ho12 (bwZ (zb1 HB.out GE121.out)));have n1_ := As_ (zkb BK121.out hb);have n2_ := As_ (bwT (zb1 HB.out GE121.out) hb);clear BK121 HB;revert n0_ n1_ n2_;intro HO128 BK121 HB;clear hb ho12))
  go_ret
  exact ⟨_,zE_,by (with_reducible repeat (first|apply Kd.R_alloc|apply Kd.R_drewN|apply Kd.R_drew));exact HO128.out,zb1 HB.out GE121.out⟩
 rw [if_neg c8] at H
 have c8b0 : decide (a0_1 < 128) = false := deF c8
 clear c8
 obtain ⟨y129,hy129⟩ : ∃ y_ : List Int,y_ = (([a0_0,wrap64 (128 + (Int.tmod a0_1 128)),wrap64 (Int.tdiv a0_1 128)] : List Int)) := ⟨_,rfl⟩
 replace H : (some y129) = some r := zH_ H hy129
 have Ny129 := As_ hy129
 clear hy129
 obtain rfl := Option.some.inj H
 go_enter Try.func94,Try.ntmps94
 go_wp2_with (first|((with_reducible refine gate_dst (N := 1) rfl ?_);refine box_event ?hg (N := 1) ?hd (cs := #[.int .i64 a0_0,.int .i64 a0_1]) (t := 75) ?hr ?_;(case hd => rfl);(case hg => rfl);(case hr => go_simp <;> rfl);intro gb121 hg w13 hbox hb;have n0_ := As_ (bwT (zb0 HB.out) hb);have n1_ := As_ (hbox);have n2_ := As_ ((by rw [hg];exact (bwZ (zb0 HB.out)) : w.heap.size ≤ gb121));have n3_ := As_ ((by rw [hg];exact (bwZ (zb0 HB.out)) : w.heap.size ≤ gb121));clear HB;revert n0_ n1_ n2_ n3_;intro HB BK121 GW121 GE121;clear hb hbox hg;obtain ⟨hcz14_0,hcz14_1,hfz14_0,hfz14_1⟩ := bk2 BK121.out)|((with_reducible refine gate_callee (f := 116) rfl ?_);refine goesL_ (some 5) rfl rfl Try.func116 (by kernel_rfl) rfl #[.int .i64 a0_0] rfl zM_ ?_;(with_reducible refine (spec_argOf.calls a0_0 t122 _ A2.out).mono ?_);rintro e w' ⟨rfl,⟨nd,rfl⟩⟩;refine ⟨_,rfl,?_⟩)|((with_reducible refine gate_dst (N := 27) rfl ?_);refine Kd.R_lit (Kd.int .i64) _ 3 ?hg (N := 27) ?hd (xs := ([a0_0,wrap64 (128 + (Int.tmod a0_1 128)),wrap64 (Int.tdiv a0_1 128)] : List Int)) (inner := [.int .i64 a0_0,.int .i64 (wrap64 (128 + (Int.tmod a0_1 128))),.int .i64 (wrap64 (Int.tdiv a0_1 128))]) (ok := fun _ => True) (okp := fun _ => True) ?hr ?hp (fun _ hk => hk) trivial (Below.refl _ _) (Nat.le_refl _) (by simp) ?_;(case hd => rfl);(case hg => rfl);(case hr => go_simp <;> rfl);(case hp => exact (Reps.one (show Kd.M (Kd.int .i64) _ _ _ a0_0 [.int .i64 a0_0] from rfl) (Reps.one (show Kd.M (Kd.int .i64) _ _ _ (wrap64 (128 + (Int.tmod a0_1 128))) [.int .i64 (wrap64 (128 + (Int.tmod a0_1 128)))] from rfl) (Reps.one (show Kd.M (Kd.int .i64) _ _ _ (wrap64 (Int.tdiv a0_1 128)) [.int .i64 (wrap64 (Int.tdiv a0_1 128))] from rfl) (Reps.none _ _)))));intro v130 w15 ho16 hb hg_ hnew_;clear hg_ hnew_;(first|rw [← Ny129.out] at ho16|(simp only [Int.reduceToNat] at ho16;rw [← Ny129.out] at ho16));have n0_ := As_ (Kd.R_lower ho16 (bwZ (zb1 HB.out GE121.out)));have n1_ := As_ (zkb BK121.out hb);have n2_ := As_ (bwT (zb1 HB.out GE121.out) hb);clear BK121 HB;revert n0_ n1_ n2_;intro HO131 BK121 HB;clear hb ho16))
 go_ret
 exact ⟨_,zE_,by (with_reducible repeat (first|apply Kd.R_alloc|apply Kd.R_drewN|apply Kd.R_drew));exact HO131.out,zb1 HB.out GE121.out⟩

/-! ### impl_bytesOk: function 96 -/
/-- Is a number no byte? -/
def impl_bytesOk.bad (x : Int) : Bool := decide (x < 0) || decide (x > 255)
def impl_bytesOk.f (l0 : List Int) (a1 : Int) : Option (Bool) := some (decide ((l0.length : Int) ≤ a1) && !l0.any impl_bytesOk.bad)
/-- The function literal. -/
theorem impl_bytesOk.lit (x : Int) (w : World) : Calls Try.prog 117 #[.int .i64 x] w fun e w' => e = .returned (.bool (impl_bytesOk.bad x)) ∧ w = w' := by
 by_cases h1 : x < 0
 ·have e1 : decide (x < 0) = true := deT h1
  go_enter Try.func117,Try.ntmps117
  go_wp2
  go_ret
  exact ⟨by simp [impl_bytesOk.bad,h1],rfl⟩
 have e1 : decide (x < 0) = false := deF h1
 by_cases h2 : 255 < x
 ·have e2 : decide (255 < x) = true := deT h2
  go_enter Try.func117,Try.ntmps117
  go_wp2
  go_ret
  exact ⟨by simp [impl_bytesOk.bad,h1,h2],rfl⟩
 have e2 : decide (255 < x) = false := deF h2
 go_enter Try.func117,Try.ntmps117
 go_wp2
 go_ret
 exact ⟨by simp [impl_bytesOk.bad,h1,h2],rfl⟩
/-- What slices.IndexFunc tells: a place,just if there is one. -/
def impl_bytesOk.Tells (l : List Int) (w : World) (e : Ending) (w' : World) : Prop := ∃ r : Int,e = .returned (.int .i64 r) ∧ decide (0 ≤ r) = l.any impl_bytesOk.bad ∧ w = w'
theorem impl_bytesOk.any_from (l : List Int) (i : Nat) (h : i < l.length) : (l.drop i).any impl_bytesOk.bad = (impl_bytesOk.bad (rd l (i : Int)) || (l.drop (i + 1)).any impl_bytesOk.bad) := by
 rw [List.drop_eq_getElem_cons h,List.any_cons,show rd l (i : Int) = l[i] from by simp [rd,List.getD_eq_getElem?_getD,List.getElem?_eq_getElem h]]
set_option maxHeartbeats 2000000 in
set_option maxRecDepth 100000 in
theorem impl_bytesOk.index (A0 : Option Addr) (c0 : Nat) (l0 : List Int) (w : World) (hr0 : Kd.C (Kd.int .i64) w A0 l0.length l0) :
  Calls Try.prog 101 #[.slice A0 l0.length c0,.func (.func 117) #[] #[]] w (impl_bytesOk.Tells l0 w) := by
 have hmax := Kd.C_max hr0
 have HR := As_ hr0
 clear hr0
 go_enter Try.func101,Try.ntmps101
 go_wp2
 go_loop [8] (fun v => ∃ i : Nat,i ≤ l0.length ∧ v = .int .i64 i ∧ Aside0 (l0.any impl_bytesOk.bad = (l0.drop i).any impl_bytesOk.bad)) (fun v => l0.length - (intOf v).toNat)
 case atStart => exact ⟨0,Nat.zero_le _,rfl,⟨by simp⟩⟩
 case round =>
  obtain ⟨i,hi,rfl,hA⟩ := hrel
  by_cases hlt : i < l0.length
  rotate_left
  ·go_wp2
   go_ret
   exact ⟨-1,rfl,by rw [hA.out,List.drop_of_length_le (by omega)];simp,rfl⟩
  have hat := Kd.at_int HR.out (i : Int) (by omega) (by omega)
  obtain ⟨ad,e1,hx⟩ := hat
  subst e1
  rw [Int.toNat_natCast] at hx
  have hf := impl_bytesOk.any_from l0 i hlt
  have HF := As_ hf
  clear hf
  cases hb : impl_bytesOk.bad (rd l0 (i : Int)) with
  | true =>
   have HB := As_ hb
   clear hb
   go_wp2_with (go_at_call 117;refine (impl_bytesOk.lit _ _).mono ?_;rintro e w' ⟨rfl,rfl⟩;rw [HB.out])
   go_ret
   exact ⟨i,rfl,by rw [hA.out,HF.out,HB.out];simp,rfl⟩
  | false =>
   have HB := As_ hb
   clear hb
   go_wp2_with (go_at_call 117;refine (impl_bytesOk.lit _ _).mono ?_;rintro e w' ⟨rfl,rfl⟩;rw [HB.out])
   go_round
   case rel => exact ⟨i + 1,by omega,by go_num,⟨by rw [hA.out,HF.out,HB.out];simp⟩⟩
   case measure => simp [intOf];omega
set_option maxHeartbeats 2000000 in
theorem impl_bytesOk.contains (A0 : Option Addr) (c0 : Nat) (l0 : List Int) (w : World) (hr0 : Kd.C (Kd.int .i64) w A0 l0.length l0) :
  Calls Try.prog 72 #[.slice A0 l0.length c0,.func (.func 117) #[] #[]] w fun e w' => e = .returned (.bool (l0.any impl_bytesOk.bad)) ∧ w = w' := by
 have HR := As_ hr0
 clear hr0
 go_enter Try.func72,Try.ntmps72
 go_wp2_with (go_at_call 101;refine (impl_bytesOk.index _ _ l0 _ HR.out).mono ?_;rintro e w' ⟨r,rfl,hr,rfl⟩;have HT := As_ hr;clear hr)
 go_ret
 exact ⟨by rw [← HT.out];rfl,rfl⟩
set_option maxHeartbeats 2000000 in
theorem impl_bytesOk.calls (A0 : Option Addr) (c0 : Nat) (l0 : List Int) (a1 : Int) (r : Bool) (w : World) (hr0 : Kd.C (Kd.int .i64) w A0 l0.length l0) (hc0 : l0.length ≤ c0) (h : impl_bytesOk.f l0 a1 = some r) :
  Calls Try.prog 96 #[.slice A0 l0.length c0,.int .i64 a1] w fun e w' => e = .returned (.bool r) ∧ Drawn0 w w' := by
 have HR := As_ hr0
 obtain rfl : (decide ((l0.length : Int) ≤ a1) && !l0.any impl_bytesOk.bad) = r := Option.some.inj h
 clear hr0 h hc0
 by_cases hn : (l0.length : Int) ≤ a1
 rotate_left
 ·have e1 : decide ((l0.length : Int) ≤ a1) = false := deF hn
  go_enter Try.func96,Try.ntmps96
  go_wp2
  go_ret
  exact ⟨by simp [hn],Drawn0.refl _⟩

 have e1 : decide ((l0.length : Int) ≤ a1) = true := deT hn
 cases hb : l0.any impl_bytesOk.bad with
 | true =>
  have HB := As_ hb
  clear hb
  go_enter Try.func96,Try.ntmps96
  go_wp2_with (go_at_call 72;refine (impl_bytesOk.contains _ _ l0 _ HR.out).mono ?_;rintro e w' ⟨rfl,rfl⟩;rw [HB.out])
  go_ret
  exact ⟨by simp [hn],Drawn0.refl _⟩
 | false =>
  have HB := As_ hb
  clear hb
  go_enter Try.func96,Try.ntmps96
  go_wp2_with (go_at_call 72;refine (impl_bytesOk.contains _ _ l0 _ HR.out).mono ?_;rintro e w' ⟨rfl,rfl⟩;rw [HB.out])
  go_ret
  exact ⟨by simp [hn],Drawn0.refl _⟩
/-! ### impl_Op: function 91 -/
/-- A cut with a capacity: the row to its end,and no more room behind it. -/
theorem impl_Op.clip (t e : TypeId) {i : TypeInfo} (ht : Try.prog.underlying t = some (.slice e)) (hi : Try.prog.info? e = some i) (A : Option Addr) (n c : Nat) (hc : n ≤ c) :
  ∀ W : World,(Instr.slice t (.slice A n c) none (some (.int .i64 (n : Int))) (some (.int .i64 (n : Int)))).run Try.prog W = .ok (.slice A n n) W := by
 intro W
 have hel : Try.prog.elem t = e := by simp [Program.elem,ht]
 have hu : Try.prog.underlying t = some (.slice (Try.prog.elem t)) := by rw [hel];exact ht
 have ha : (A.map fun x => x.add 0) = A := by cases A <;> simp [Addr.add]
 rw [run_slice_hm W t A n c hu .i64 .i64 n n (by omega) (by omega) (by omega),hel]
 simp [sizeOf,typeInfo,hi,sliced,Result.andThen,ha]
def impl_Op.f (l0 : List (S75)) : Option ((List (S75))) := some l0
set_option maxHeartbeats 8000000 in
set_option maxRecDepth 100000 in
theorem impl_Op.calls (P0_ : Nat → Prop) (A0 : Option Addr) (c0 : Nat) (l0 : List (S75)) (r : List (S75)) (w : World) (hs0 : Kd.V k75 75 w w.heap.size (fun k_ => P0_ k_) (.slice A0 l0.length c0) l0) (h : impl_Op.f l0 = some r) :
  Calls Try.prog 91 #[.slice A0 l0.length c0] w fun e w' => ∃ v0_ : Value,e = .returned (v0_) ∧ Kd.V k75 75 w' w.heap.size (fun k_ => (P0_ k_ ∨ w.heap.size ≤ k_)) v0_ r ∧ Below w.heap.size w w' := by
 have HO0 := As_ (show Kd.V k75 75 w w.heap.size (fun k_ => (P0_ k_ ∨ w.heap.size ≤ k_)) (.slice A0 l0.length c0) l0 from Kd.V_mono hs0 (fun k_ hk => .inl hk))
 have HB := As_ (Below.refl w.heap.size w)
 have H : (some l0) = some r := h
 clear h
 obtain rfl := Option.some.inj H
 obtain ⟨iC,hiC,_,_,_⟩ := info_parts info75
 obtain ⟨AV,cV,eV,hlV,hfV⟩ := HO0.out
 have hlV0 : l0.length ≤ c0 := by injection eV with _ _ ec;omega
 have hcut := impl_Op.clip 23 75 Try.underlying23 hiC A0 l0.length c0 hlV0
 have HO0 := As_ (show Kd.V k75 75 w w.heap.size (fun k_ => (P0_ k_ ∨ w.heap.size ≤ k_)) (.slice A0 l0.length l0.length) l0 from ⟨AV,l0.length,by injection eV with ea;rw [ea],Nat.le_refl _,hfV⟩)
 go_enter Try.func91,Try.ntmps91
 go_wp2
 go_ret
 exact ⟨_,zE_,by (with_reducible repeat (first|apply Kd.V_alloc|apply Kd.V_drewN|apply Kd.V_drew));exact HO0.out,zb0 HB.out⟩

/-- A cut row of orders of one's own: its capacity is told as its length,whatever lies behind it. -/
def impl_Op.kcl : Kd (List (S75)) where
 sz := 1
 E := 75 :: (k75).E
 K := (Kd.slice 75 k75).K
 M := fun w base ok xs cs => ∃ (A : Option Addr) (c : Nat),cs = [.slice A xs.length xs.length] ∧ Kd.R k75 75 w base ok (.slice A xs.length c) xs
 K_len := (Kd.slice 75 k75).K_len
 K_one := (Kd.slice 75 k75).K_one
 K_below := (Kd.slice 75 k75).K_below
 K_of_M := by
  rintro w base ok x cs ⟨A,c,rfl,h⟩
  exact ⟨A,x.length,rfl,Nat.le_refl _,(Kd.R_reads' h).2.2⟩
 M_mono := by
  rintro w base ok ok' x cs hok ⟨A,c,rfl,h⟩
  exact ⟨A,c,rfl,Kd.R_mono h hok⟩
 M_bound := by
  rintro w base ok x cs ⟨A,c,rfl,h⟩
  exact ⟨A,c,rfl,Kd.R_bound h⟩
 M_move := by
  rintro w w1 base ok x cs hm ⟨A,c,rfl,h⟩
  exact ⟨A,c,rfl,Kd.R_move h hm⟩
 M_lower := by
  rintro w base base' ok x cs hb ⟨A,c,rfl,h⟩
  exact ⟨A,c,rfl,Kd.R_lower h hb⟩
theorem impl_Op.kcl_mk {w : World} {base : Nat} {ok : Nat → Prop} {A : Option Addr} {c : Nat} {xs : List (S75)} (h : Kd.R k75 75 w base ok (.slice A xs.length c) xs) : impl_Op.kcl.M w base ok xs [.slice A xs.length xs.length] := ⟨A,c,rfl,h⟩
theorem impl_Op.kcl_C {w : World} {A : Option Addr} {n : Nat} {xs : List (List (S75))} (h : impl_Op.kcl.C w A n xs) : (Kd.slice 75 k75).C w A n xs := h
set_option maxHeartbeats 8000000 in
set_option maxRecDepth 100000 in
theorem impl_Op.callsC (A0 : Option Addr) (n c0 : Nat) (hc : n ≤ c0) (w : World) : Calls Try.prog 91 #[.slice A0 n c0] w fun e w' => e = .returned (.slice A0 n n) ∧ Drawn0 w w' := by
 obtain ⟨iC,hiC,_,_,_⟩ := info_parts info75
 have hcut := impl_Op.clip 23 75 Try.underlying23 hiC A0 n c0 hc
 go_enter Try.func91,Try.ntmps91
 go_wp2
 go_ret
 exact ⟨by first|rfl|(simp;done)|(simp [*];done),by repeat (first|exact Drawn0.refl _|apply Drawn0.step)⟩

/-! ### laws_eqOp: function 54 -/
def laws_eqOp.f (a0_0 : Int) (a0_1 : Int) (a1_0 : Int) (a1_1 : Int) : Option (Bool) := if a0_0 = a1_0 then (if a0_1 = a1_1 then (some true) else (some false)) else (some false)
set_option maxHeartbeats 8000000 in
set_option maxRecDepth 100000 in
theorem laws_eqOp.calls (a0_0 : Int) (a0_1 : Int) (a1_0 : Int) (a1_1 : Int) (r : Bool) (w : World) (h : laws_eqOp.f a0_0 a0_1 a1_0 a1_1 = some r) :
  Calls Try.prog 54 #[.agg #[.int .i64 a0_0,.int .i64 a0_1],.agg #[.int .i64 a1_0,.int .i64 a1_1]] w fun e w' => e = .returned (.bool r) ∧ Below w.heap.size w w' := by
 have hu75 := Try.underlying75
 have HB := As_ (Below.refl w.heap.size w)
 have H : (if a0_0 = a1_0 then (if a0_1 = a1_1 then (some true) else (some false)) else (some false)) = some r := h
 clear h
 by_cases c3 : a0_0 = a1_0
 rotate_left
 ·rw [if_neg c3] at H
  have c3b0 : (a0_0 == a1_0) = false := beq_eq_false_iff_ne.mpr c3
  have c3b1 : (a0_0 != a1_0) = true := bne_iff_ne.mpr c3
  obtain rfl := Option.some.inj H
  go_enter Try.func54,Try.ntmps54
  go_wp2_with (first|((with_reducible refine gate_dst (N := 2) rfl ?_);refine box_event ?hg (N := 2) ?hd (cs := #[.int .i64 a0_0,.int .i64 a0_1]) (t := 75) ?hr ?_;(case hd => rfl);(case hg => rfl);(case hr => go_simp <;> rfl);intro gb232 hg w15 hbox hb;have n0_ := As_ (bwT (zb0 HB.out) hb);have n1_ := As_ (hbox);have n2_ := As_ ((by rw [hg];exact (bwZ (zb0 HB.out)) : w.heap.size ≤ gb232));have n3_ := As_ ((by rw [hg];exact (bwZ (zb0 HB.out)) : w.heap.size ≤ gb232));clear HB;revert n0_ n1_ n2_ n3_;intro HB BK232 GW232 GE232;clear hb hbox hg)|((with_reducible refine gate_dst (N := 3) rfl ?_);refine box_event ?hg (N := 3) ?hd (cs := #[.int .i64 a1_0,.int .i64 a1_1]) (t := 75) ?hr ?_;(case hd => rfl);(case hg => rfl);(case hr => go_simp <;> rfl);intro gb233 hg w16 hbox hb;have n0_ := As_ (zkb BK232.out hb);have n1_ := As_ (bwT (zb1 HB.out GE232.out) hb);have n2_ := As_ (hbox);have n3_ := As_ ((by rw [hg];exact (bwZ (zb1 HB.out GE232.out)) : w.heap.size ≤ gb233));have n4_ := As_ ((by rw [hg];exact (bwZ (zb1 HB.out GE232.out)) : w.heap.size ≤ gb233));have n5_ := As_ ((by rw [hg];exact Nat.ne_of_lt (zkl BK232.out) : gb232 ≠ gb233));have n6_ := As_ ((by rw [hg];exact Nat.ne_of_gt (zkl BK232.out) : gb233 ≠ gb232));clear BK232 HB;revert n0_ n1_ n2_ n3_ n4_ n5_ n6_;intro BK232 HB BK233 GW233 GE233 NB232_233 NB233_232;clear hb hbox hg;have hnb17 := NB232_233.out;have hnc17 := NB233_232.out;obtain ⟨hcz18_0,hcz18_1,hfz18_0,hfz18_1⟩ := bk2 BK232.out;obtain ⟨hcz19_0,hcz19_1,hfz19_0,hfz19_1⟩ := bk2 BK233.out))
  go_ret
  exact ⟨zE_,zb2 HB.out GE232.out GE233.out⟩

 rw [if_pos c3] at H
 have c3b0 : (a0_0 == a1_0) = true := beq_iff_eq.mpr c3
 have c3b1 : (a0_0 != a1_0) = false := bne_eq_false_iff_eq.mpr c3
 clear c3
 by_cases c4 : a0_1 = a1_1
 rotate_left
 ·rw [if_neg c4] at H
  have c4b0 : (a0_1 == a1_1) = false := beq_eq_false_iff_ne.mpr c4
  have c4b1 : (a0_1 != a1_1) = true := bne_iff_ne.mpr c4
  obtain rfl := Option.some.inj H
  go_enter Try.func54,Try.ntmps54
  go_wp2_with (first|((with_reducible refine gate_dst (N := 2) rfl ?_);refine box_event ?hg (N := 2) ?hd (cs := #[.int .i64 a0_0,.int .i64 a0_1]) (t := 75) ?hr ?_;(case hd => rfl);(case hg => rfl);(case hr => go_simp <;> rfl);intro gb232 hg w10 hbox hb;have n0_ := As_ (bwT (zb0 HB.out) hb);have n1_ := As_ (hbox);have n2_ := As_ ((by rw [hg];exact (bwZ (zb0 HB.out)) : w.heap.size ≤ gb232));have n3_ := As_ ((by rw [hg];exact (bwZ (zb0 HB.out)) : w.heap.size ≤ gb232));clear HB;revert n0_ n1_ n2_ n3_;intro HB BK232 GW232 GE232;clear hb hbox hg)|((with_reducible refine gate_dst (N := 3) rfl ?_);refine box_event ?hg (N := 3) ?hd (cs := #[.int .i64 a1_0,.int .i64 a1_1]) (t := 75) ?hr ?_;(case hd => rfl);(case hg => rfl);(case hr => go_simp <;> rfl);intro gb233 hg w11 hbox hb;have n0_ := As_ (zkb BK232.out hb);have n1_ := As_ (bwT (zb1 HB.out GE232.out) hb);have n2_ := As_ (hbox);have n3_ := As_ ((by rw [hg];exact (bwZ (zb1 HB.out GE232.out)) : w.heap.size ≤ gb233));have n4_ := As_ ((by rw [hg];exact (bwZ (zb1 HB.out GE232.out)) : w.heap.size ≤ gb233));have n5_ := As_ ((by rw [hg];exact Nat.ne_of_lt (zkl BK232.out) : gb232 ≠ gb233));have n6_ := As_ ((by rw [hg];exact Nat.ne_of_gt (zkl BK232.out) : gb233 ≠ gb232));clear BK232 HB;revert n0_ n1_ n2_ n3_ n4_ n5_ n6_;intro BK232 HB BK233 GW233 GE233 NB232_233 NB233_232;clear hb hbox hg;have hnb12 := NB232_233.out;have hnc12 := NB233_232.out;obtain ⟨hcz13_0,hcz13_1,hfz13_0,hfz13_1⟩ := bk2 BK232.out;obtain ⟨hcz14_0,hcz14_1,hfz14_0,hfz14_1⟩ := bk2 BK233.out))
  go_ret
  exact ⟨zE_,zb2 HB.out GE232.out GE233.out⟩
 rw [if_pos c4] at H
 have c4b0 : (a0_1 == a1_1) = true := beq_iff_eq.mpr c4
 have c4b1 : (a0_1 != a1_1) = false := bne_eq_false_iff_eq.mpr c4
 clear c4
 obtain rfl := Option.some.inj H
 go_enter Try.func54,Try.ntmps54
 go_wp2_with (first|((with_reducible refine gate_dst (N := 2) rfl ?_);refine box_event ?hg (N := 2) ?hd (cs := #[.int .i64 a0_0,.int .i64 a0_1]) (t := 75) ?hr ?_;(case hd => rfl);(case hg => rfl);(case hr => go_simp <;> rfl);intro gb232 hg w5 hbox hb;have n0_ := As_ (bwT (zb0 HB.out) hb);have n1_ := As_ (hbox);have n2_ := As_ ((by rw [hg];exact (bwZ (zb0 HB.out)) : w.heap.size ≤ gb232));have n3_ := As_ ((by rw [hg];exact (bwZ (zb0 HB.out)) : w.heap.size ≤ gb232));clear HB;revert n0_ n1_ n2_ n3_;intro HB BK232 GW232 GE232;clear hb hbox hg)|((with_reducible refine gate_dst (N := 3) rfl ?_);refine box_event ?hg (N := 3) ?hd (cs := #[.int .i64 a1_0,.int .i64 a1_1]) (t := 75) ?hr ?_;(case hd => rfl);(case hg => rfl);(case hr => go_simp <;> rfl);intro gb233 hg w6 hbox hb;have n0_ := As_ (zkb BK232.out hb);have n1_ := As_ (bwT (zb1 HB.out GE232.out) hb);have n2_ := As_ (hbox);have n3_ := As_ ((by rw [hg];exact (bwZ (zb1 HB.out GE232.out)) : w.heap.size ≤ gb233));have n4_ := As_ ((by rw [hg];exact (bwZ (zb1 HB.out GE232.out)) : w.heap.size ≤ gb233));have n5_ := As_ ((by rw [hg];exact Nat.ne_of_lt (zkl BK232.out) : gb232 ≠ gb233));have n6_ := As_ ((by rw [hg];exact Nat.ne_of_gt (zkl BK232.out) : gb233 ≠ gb232));clear BK232 HB;revert n0_ n1_ n2_ n3_ n4_ n5_ n6_;intro BK232 HB BK233 GW233 GE233 NB232_233 NB233_232;clear hb hbox hg;have hnb7 := NB232_233.out;have hnc7 := NB233_232.out;obtain ⟨hcz8_0,hcz8_1,hfz8_0,hfz8_1⟩ := bk2 BK232.out;obtain ⟨hcz9_0,hcz9_1,hfz9_0,hfz9_1⟩ := bk2 BK233.out))
 go_ret
 exact ⟨zE_,zb2 HB.out GE232.out GE233.out⟩
/-! ### laws_eqOpS: function 15 -/
def laws_eqOpS.l0 : Nat → List (S75) → List (S75) → Int → Option (Bool)
 | 0,_,_,_ => none
 | k + 1,x0,x1,x5 => if x5 < (x0.length : Int) then (if 0 ≤ x5 then (if x5 < (x1.length : Int) then ((laws_eqOp.f ((rd_T75 x0 x5).f0) ((rd_T75 x0 x5).f1) ((rd_T75 x1 x5).f0) ((rd_T75 x1 x5).f1)).bind fun t236 => (if t236 = true then (laws_eqOpS.l0 k x0 x1 (wrap64 (x5 + 1))) else (some false))) else (none)) else (none)) else (some true)
def laws_eqOpS.f (k : Nat) (l0 : List (S75)) (l1 : List (S75)) : Option (Bool) := if (l0.length : Int) = (l1.length : Int) then (laws_eqOpS.l0 k l0 l1 0) else (some false)
set_option maxRecDepth 100000 in
theorem laws_eqOpS.mono_l : ∀ k,(∀ y0 y1 y2,LeO (laws_eqOpS.l0 k y0 y1 y2) (laws_eqOpS.l0 (k + 1) y0 y1 y2))
 | 0 => fun _ _ _ r h => (by cases h)
 | k + 1 => by
  have ih0 := laws_eqOpS.mono_l k
  ·intro y0 y1 y2
   unfold laws_eqOpS.l0
   repeat' first
   | (with_reducible exact ih0 _ _ _)
   | (with_reducible exact LeO.refl _)
   | (with_reducible exact LeO.none _)
   | (with_reducible refine LeO.ite ?_ ?_)
   | (with_reducible refine LeO.bind ?_ (fun _ => ?_))
   | exact ih0 _ _ _
   | exact LeO.none _
   | refine LeO.ite ?_ ?_
   | refine LeO.bind ?_ (fun _ => ?_)
set_option maxRecDepth 100000 in
theorem laws_eqOpS.mono : ∀ a0 a1 k,LeO (laws_eqOpS.f k a0 a1) (laws_eqOpS.f (k + 1) a0 a1) := by
 intro a0 a1 k
 have ih0 := laws_eqOpS.mono_l k
 unfold laws_eqOpS.f
 repeat' first
   | (with_reducible exact ih0 _ _ _)
   | (with_reducible exact LeO.refl _)
   | (with_reducible exact LeO.none _)
   | (with_reducible refine LeO.ite ?_ ?_)
   | (with_reducible refine LeO.bind ?_ (fun _ => ?_))
   | exact ih0 _ _ _
   | exact LeO.none _
   | refine LeO.ite ?_ ?_
   | refine LeO.bind ?_ (fun _ => ?_)
def laws_eqOpS.T6 : Bool × List (List Nat × List Nat) := (true,[([],[]),([],[]),([0,1],[0,1]),([2],[2]),([],[]),([],[]),([4,5],[4,5]),([6],[6]),([3,7],[3,7]),([8],[8])])
def laws_eqOpS.B6 : List Nat := [0,0,3,7,0,0,48,112,255,511]
theorem laws_eqOpS.tab6 : rtab .any (opsOf Try.f15 6) = laws_eqOpS.T6 := by kernel_rfl
theorem laws_eqOpS.bits6 : waitsOk laws_eqOpS.T6.2 laws_eqOpS.B6 = true := by kernel_rfl
set_option maxHeartbeats 8000000 in
set_option maxRecDepth 100000 in
theorem laws_eqOpS.calls (k : Nat) (A0 : Option Addr) (c0 : Nat) (l0 : List (S75)) (A1 : Option Addr) (c1 : Nat) (l1 : List (S75)) (r : Bool) (w : World) (hr0 : Kd.C k75 w A0 l0.length l0) (hc0 : l0.length ≤ c0) (hr1 : Kd.C k75 w A1 l1.length l1) (hc1 : l1.length ≤ c1) (h : laws_eqOpS.f k l0 l1 = some r) :
  Calls Try.prog 15 #[.slice A0 l0.length c0,.slice A1 l1.length c1] w fun e w' => e = .returned (.bool r) ∧ Below w.heap.size w w' := by
 have hu75 := Try.underlying75
 have HR0 := As_ hr0
 have HC0 := As_ hc0
 clear hr0 hc0
 have HR1 := As_ hr1
 have HC1 := As_ hc1
 clear hr1 hc1
 have HB := As_ (Below.refl w.heap.size w)
 have H : (if (l0.length : Int) = (l1.length : Int) then (laws_eqOpS.l0 k l0 l1 0) else (some false)) = some r := h
 clear h
 by_cases c3 : (l0.length : Int) = (l1.length : Int)
 rotate_left
 ·rw [if_neg c3] at H
  have c3b0 : ((l0.length : Int) == (l1.length : Int)) = false := beq_eq_false_iff_ne.mpr c3
  have c3b1 : ((l0.length : Int) != (l1.length : Int)) = true := bne_iff_ne.mpr c3
  have c3b2 : (l0.length == l1.length) = false := by first|simpa using c3|(simp at c3 ⊢;omega)
  obtain rfl := Option.some.inj H
  go_enter Try.func15,Try.ntmps15
  go_wp2
  go_ret
  exact ⟨zE_,zb0 HB.out⟩

 rw [if_pos c3] at H
 have c3b0 : ((l0.length : Int) == (l1.length : Int)) = true := beq_iff_eq.mpr c3
 have c3b1 : ((l0.length : Int) != (l1.length : Int)) = false := bne_eq_false_iff_eq.mpr c3
 have c3b2 : (l0.length == l1.length) = true := by first|simpa using c3|(simp at c3 ⊢;omega)
 clear c3
 have H' := As_ H
 clear H
 go_enter Try.func15,Try.ntmps15
 go_wp2
 go_loopg [5] k (fun kq v5 w' => ∃ (x5_1 : Int),v5 = .int .i64 x5_1 ∧ Aside0 (laws_eqOpS.l0 kq l0 l1 x5_1 = some r) ∧ Aside0 (kq ≤ k) ∧ Aside0 (Below w.heap.size w w'))
 case atStart => exact ⟨(0),zT_,H',⟨Nat.le_refl _⟩,⟨zb0 HB.out⟩⟩
 case round =>
  clear H'
  obtain ⟨x5_1,rfl,HA,HK1,HB⟩ := hrel
  cases gk with
  | zero => exact absurd HA.out (fun h_ => (by cases h_))
  | succ k1 =>
   have H := HA.out
   clear HA
   simp only [laws_eqOpS.l0] at H
   by_cases c4 : x5_1 < (l0.length : Int)
   rotate_left
   ·rw [if_neg c4] at H
    have c4b0 : decide (x5_1 < (l0.length : Int)) = false := deF c4
    clear c4
    obtain rfl := Option.some.inj H
    go_wp2
    go_ret
    exact ⟨zE_,zb0 HB.out⟩
   rw [if_pos c4] at H
   have c4b0 : decide (x5_1 < (l0.length : Int)) = true := deT c4
   clear c4
   by_cases c5 : 0 ≤ x5_1
   rotate_left
   ·rw [if_neg c5] at H
    exact absurd H (by simp)
   rw [if_pos c5] at H
   have c5b0 : decide (0 ≤ x5_1) = true := deT c5
   clear c5
   by_cases c6 : x5_1 < (l1.length : Int)
   rotate_left
   ·rw [if_neg c6] at H
    exact absurd H (by simp)
   rw [if_pos c6] at H
   have c6b0 : decide (x5_1 < (l1.length : Int)) = true := deT c6
   clear c6
   replace H := obS H
   obtain ⟨t236,A70,H⟩ := H
   replace H : (if t236 = true then (laws_eqOpS.l0 k1 l0 l1 (wrap64 (x5_1 + 1))) else (some false)) = some r := H
   have A7 := As_ A70
   clear A70
   by_cases c8 : t236 = true
   rotate_left
   ·replace c8 := Bool.eq_false_iff.mpr c8
    subst c8
    have H1 : (some false) = some r := by rw [if_neg (show ¬ (false = true) by decide)] at H;exact H
    clear H
    have H := H1
    clear H1
    obtain rfl := Option.some.inj H
    try go_wp2
    have n0_ := As_ (bwD HB.out)
    clear HB
    revert n0_;intro HB
    have p234 : 0 ≤ (x5_1 : Int) := odT zA_
    have q234 : x5_1 < (l0.length : Int) := odT zA_
    obtain ⟨ad234,e234,hx234_0,hx234_1⟩ := at_T75 HR0.out x5_1 p234 q234
    have hw234_1 := hx234_1
    have hw234_0 := hx234_0
    cases e234
    replace hx234_0 := bwC HB.out hx234_0
    replace hx234_1 := bwC HB.out hx234_1
    replace p234 := eq_true p234
    replace q234 := eq_true q234
    have p235 : 0 ≤ (x5_1 : Int) := odT zA_
    have q235 : x5_1 < (l1.length : Int) := odT zA_
    obtain ⟨ad235,e235,hx235_0,hx235_1⟩ := at_T75 HR1.out x5_1 p235 q235
    have hw235_1 := hx235_1
    have hw235_0 := hx235_0
    cases e235
    replace hx235_0 := bwC HB.out hx235_0
    replace hx235_1 := bwC HB.out hx235_1
    replace p235 := eq_true p235
    replace q235 := eq_true q235
    refine start_ (n := 10) (S := fun w' => w'.cell? (ad234.add ((x5_1).toNat * 2)) = some (.int .i64 ((rd_T75 l0 x5_1).f0)) ∧ w'.cell? ⟨(ad234.add ((x5_1).toNat * 2)).block,(ad234.add ((x5_1).toNat * 2)).off + 1,none⟩ = some (.int .i64 ((rd_T75 l0 x5_1).f1)) ∧ w'.cell? (ad235.add ((x5_1).toNat * 2)) = some (.int .i64 ((rd_T75 l1 x5_1).f0)) ∧ w'.cell? ⟨(ad235.add ((x5_1).toNat * 2)).block,(ad235.add ((x5_1).toNat * 2)).off + 1,none⟩ = some (.int .i64 ((rd_T75 l1 x5_1).f1))) (ds := []) (bl_ 0 10) (by kernel_rfl) rfl rfl ⟨((HB.out.cell (bwL w _ hw234_0)).trans hw234_0),((HB.out.cell (bwL w _ hw234_1)).trans hw234_1),((HB.out.cell (bwL w _ hw235_0)).trans hw235_0),((HB.out.cell (bwL w _ hw235_1)).trans hw235_1)⟩ (fun hHeld => ?_);refine with_tabW laws_eqOpS.tab6 laws_eqOpS.bits6 (fun HT_ HW_ => ?_)
    generalize wr.drew = w11 at HB hx234_0 hx234_1 hx235_0 hx235_1 hHeld ⊢
    refine pQ 0 17 (bl_ 1 10) HT_ rfl ?_
    refine pQ 1 18 (bl_ 3 10) HT_ rfl ?_
    refine pQ 2 19 (bl_ 7 10) HT_ rfl ?_
    refine pQ 4 21 (bl_ 23 10) HT_ rfl ?_
    refine pQ 5 22 (bl_ 55 10) HT_ rfl ?_
    refine pQ 6 23 (bl_ 119 10) HT_ rfl ?_
    refine tP 3 20 (bl_ 127 10) ?_ HT_ HW_ rfl (.inl ⟨by rfl,?_⟩) hHeld ?_ ?_ ?_;rotate_left;(rintro w' ⟨s0,s1,s2,s3⟩;go_simp;with_reducible rfl);rotate_left;(simp only [Act.put,sq_,i64_w,i32_w];rfl)
    refine tP 7 24 (bl_ 255 10) ?_ HT_ HW_ rfl (.inl ⟨by rfl,?_⟩) hHeld ?_ ?_ ?_;rotate_left;(rintro w' ⟨s0,s1,s2,s3⟩;go_simp;with_reducible rfl);rotate_left;(simp only [Act.put,sq_,i64_w,i32_w];rfl)
    refine one_ (i := 8) (N := some 25) (bl_ 511 10) rfl rfl (one_of HT_.out (by kernel_rfl)) (by decide) (fun K hK => ?_)
    refine goes_ Try.func54 (by kernel_rfl) rfl #[.agg #[.int .i64 ((rd_T75 l0 x5_1).f0),.int .i64 ((rd_T75 l0 x5_1).f1)],.agg #[.int .i64 ((rd_T75 l1 x5_1).f0),.int .i64 ((rd_T75 l1 x5_1).f1)]] (by rfl) rfl rfl zM_ ?_
    with_reducible refine (laws_eqOp.calls ((rd_T75 l0 x5_1).f0) ((rd_T75 l0 x5_1).f1) ((rd_T75 l1 x5_1).f0) ((rd_T75 l1 x5_1).f1) false _ A7.out).mono ?_
    rintro e w12 ⟨rfl,hb⟩
    refine ⟨_,rfl,?_⟩
    have n0_ := As_ (bwT (zb0 HB.out) hb)
    clear HB
    revert n0_;intro HB
    refine hK.out _ _ ⟨((HB.out.cell (bwL w _ hw234_0)).trans hw234_0),((HB.out.cell (bwL w _ hw234_1)).trans hw234_1),((HB.out.cell (bwL w _ hw235_0)).trans hw235_0),((HB.out.cell (bwL w _ hw235_1)).trans hw235_1)⟩ (fun hHeld => ?_)
    clear hK K
    refine norm_ (a' := ?_) ?_ ?_
    rotate_left
    ·show Act.put _ (some 25) _ = _
     simp only [Act.put,sq_,i64_w,i32_w]
     rfl
    refine pQ 9 26 (bl_ 1023 10) HT_ rfl ?_
    refine done_ (done_of HT_.out (by kernel_rfl)) ?_
    try go_wp2
    go_ret
    exact ⟨zE_,zb0 HB.out⟩
   subst c8
   have H1 : (laws_eqOpS.l0 k1 l0 l1 (wrap64 (x5_1 + 1))) = some r := by rw [if_pos rfl] at H;exact H
   clear H
   have H := H1
   clear H1
   have H' := As_ H
   clear H
   try go_wp2
   have n0_ := As_ (bwD HB.out)
   clear HB
   revert n0_;intro HB
   have p234 : 0 ≤ (x5_1 : Int) := odT zA_
   have q234 : x5_1 < (l0.length : Int) := odT zA_
   obtain ⟨ad234,e234,hx234_0,hx234_1⟩ := at_T75 HR0.out x5_1 p234 q234
   have hw234_1 := hx234_1
   have hw234_0 := hx234_0
   cases e234
   replace hx234_0 := bwC HB.out hx234_0
   replace hx234_1 := bwC HB.out hx234_1
   replace p234 := eq_true p234
   replace q234 := eq_true q234
   have p235 : 0 ≤ (x5_1 : Int) := odT zA_
   have q235 : x5_1 < (l1.length : Int) := odT zA_
   obtain ⟨ad235,e235,hx235_0,hx235_1⟩ := at_T75 HR1.out x5_1 p235 q235
   have hw235_1 := hx235_1
   have hw235_0 := hx235_0
   cases e235
   replace hx235_0 := bwC HB.out hx235_0
   replace hx235_1 := bwC HB.out hx235_1
   replace p235 := eq_true p235
   replace q235 := eq_true q235
   refine start_ (n := 10) (S := fun w' => w'.cell? (ad234.add ((x5_1).toNat * 2)) = some (.int .i64 ((rd_T75 l0 x5_1).f0)) ∧ w'.cell? ⟨(ad234.add ((x5_1).toNat * 2)).block,(ad234.add ((x5_1).toNat * 2)).off + 1,none⟩ = some (.int .i64 ((rd_T75 l0 x5_1).f1)) ∧ w'.cell? (ad235.add ((x5_1).toNat * 2)) = some (.int .i64 ((rd_T75 l1 x5_1).f0)) ∧ w'.cell? ⟨(ad235.add ((x5_1).toNat * 2)).block,(ad235.add ((x5_1).toNat * 2)).off + 1,none⟩ = some (.int .i64 ((rd_T75 l1 x5_1).f1))) (ds := []) (bl_ 0 10) (by kernel_rfl) rfl rfl ⟨((HB.out.cell (bwL w _ hw234_0)).trans hw234_0),((HB.out.cell (bwL w _ hw234_1)).trans hw234_1),((HB.out.cell (bwL w _ hw235_0)).trans hw235_0),((HB.out.cell (bwL w _ hw235_1)).trans hw235_1)⟩ (fun hHeld => ?_);refine with_tabW laws_eqOpS.tab6 laws_eqOpS.bits6 (fun HT_ HW_ => ?_)
   generalize wr.drew = w9 at HB hx234_0 hx234_1 hx235_0 hx235_1 hHeld ⊢
   refine pQ 0 17 (bl_ 1 10) HT_ rfl ?_
   refine pQ 1 18 (bl_ 3 10) HT_ rfl ?_
   refine pQ 2 19 (bl_ 7 10) HT_ rfl ?_
   refine pQ 4 21 (bl_ 23 10) HT_ rfl ?_
   refine pQ 5 22 (bl_ 55 10) HT_ rfl ?_
   refine pQ 6 23 (bl_ 119 10) HT_ rfl ?_
   refine tP 3 20 (bl_ 127 10) ?_ HT_ HW_ rfl (.inl ⟨by rfl,?_⟩) hHeld ?_ ?_ ?_;rotate_left;(rintro w' ⟨s0,s1,s2,s3⟩;go_simp;with_reducible rfl);rotate_left;(simp only [Act.put,sq_,i64_w,i32_w];rfl)
   refine tP 7 24 (bl_ 255 10) ?_ HT_ HW_ rfl (.inl ⟨by rfl,?_⟩) hHeld ?_ ?_ ?_;rotate_left;(rintro w' ⟨s0,s1,s2,s3⟩;go_simp;with_reducible rfl);rotate_left;(simp only [Act.put,sq_,i64_w,i32_w];rfl)
   refine one_ (i := 8) (N := some 25) (bl_ 511 10) rfl rfl (one_of HT_.out (by kernel_rfl)) (by decide) (fun K hK => ?_)
   refine goes_ Try.func54 (by kernel_rfl) rfl #[.agg #[.int .i64 ((rd_T75 l0 x5_1).f0),.int .i64 ((rd_T75 l0 x5_1).f1)],.agg #[.int .i64 ((rd_T75 l1 x5_1).f0),.int .i64 ((rd_T75 l1 x5_1).f1)]] (by rfl) rfl rfl zM_ ?_
   with_reducible refine (laws_eqOp.calls ((rd_T75 l0 x5_1).f0) ((rd_T75 l0 x5_1).f1) ((rd_T75 l1 x5_1).f0) ((rd_T75 l1 x5_1).f1) true _ A7.out).mono ?_
   rintro e w10 ⟨rfl,hb⟩
   refine ⟨_,rfl,?_⟩
   have n0_ := As_ (bwT (zb0 HB.out) hb)
   clear HB
   revert n0_;intro HB
   refine hK.out _ _ ⟨((HB.out.cell (bwL w _ hw234_0)).trans hw234_0),((HB.out.cell (bwL w _ hw234_1)).trans hw234_1),((HB.out.cell (bwL w _ hw235_0)).trans hw235_0),((HB.out.cell (bwL w _ hw235_1)).trans hw235_1)⟩ (fun hHeld => ?_)
   clear hK K
   refine norm_ (a' := ?_) ?_ ?_
   rotate_left
   ·show Act.put _ (some 25) _ = _
    simp only [Act.put,sq_,i64_w,i32_w]
    rfl
   refine pQ 9 26 (bl_ 1023 10) HT_ rfl ?_
   refine done_ (done_of HT_.out (by kernel_rfl)) ?_
   try go_wp2
   go_roundg k1
   case measure => have := HK1.out;omega
   case rel => exact ⟨(wrap64 (x5_1 + 1)),zT_,H',⟨by have := HK1.out;omega⟩,⟨zb0 HB.out⟩⟩
end Go.Proofs.Ytbokjhdhpmmpfaa.Q
