-- Written by wip/tools/qprint.py (a program of this claim's author) by means of the kit's printer.
import Derived.Test.YtonppkaobnfldaaQ0
import Derived.Test.YtonppkaobnfldaaQ77
namespace Go.Proofs.Ytonppkaobnfldaa.Q
open Go.RowKit Go.Proofs.YtonppkaobnfldaaW.PrintWords Go.Proofs.YtonppkaobnfldaaW.PrintLast Go.Proofs.YtonppkaobnfldaaW.PrintMore
attribute [local go_sem] max2_int min2_int max_two min_two max_three min_three max_four min_four   -- for this text's walks alone
set_option linter.unusedVariables false
set_option linter.unusedSimpArgs false

/-! ### spec_bytesOf: function 61 -/
def spec_bytesOf.f (a0_0 : Int) (a0_1 : Int) : Option (List Int) := (spec_argOf.f a0_0).bind fun t269 => (if t269 < 0 then (some (([a0_0] : List Int))) else (if a0_1 < 128 then (some (([a0_0,a0_1] : List Int))) else (some (([a0_0,wrap64 (128 + (Int.tmod a0_1 128)),wrap64 (Int.tdiv a0_1 128)] : List Int)))))
set_option maxHeartbeats 8000000 in
set_option maxRecDepth 100000 in
theorem spec_bytesOf.calls (a0_0 : Int) (a0_1 : Int) (r : List Int) (w : World) (h : spec_bytesOf.f a0_0 a0_1 = some r) :
  Calls Try.prog 61 #[.agg #[.int .i64 a0_0,.int .i64 a0_1]] w fun e w' => ∃ v0_ : Value,e = .returned (v0_) ∧ Kd.R (Kd.int .i64) 3 w' w.heap.size (fun _ => True) v0_ r ∧ Below w.heap.size w w' := by
 have hu49 := Try.underlying49
 have HB := As_ (Below.refl w.heap.size w)
 have H : ((spec_argOf.f a0_0).bind fun t269 => (if t269 < 0 then (some (([a0_0] : List Int))) else (if a0_1 < 128 then (some (([a0_0,a0_1] : List Int))) else (some (([a0_0,wrap64 (128 + (Int.tmod a0_1 128)),wrap64 (Int.tdiv a0_1 128)] : List Int)))))) = some r := h
 clear h
 replace H := obS H
 obtain ⟨t269,A20,H⟩ := H
 replace H : (if t269 < 0 then (some (([a0_0] : List Int))) else (if a0_1 < 128 then (some (([a0_0,a0_1] : List Int))) else (some (([a0_0,wrap64 (128 + (Int.tmod a0_1 128)),wrap64 (Int.tdiv a0_1 128)] : List Int))))) = some r := H
 have A2 := As_ A20
 clear A20
 by_cases c3 : t269 < 0
 ·rw [if_pos c3] at H
  have c3b0 : decide (t269 < 0) = true := deT c3
  clear c3
  obtain ⟨y270,hy270⟩ : ∃ y_ : List Int,y_ = (([a0_0] : List Int)) := ⟨_,rfl⟩
  replace H : (some y270) = some r := zH_ H hy270
  have Ny270 := As_ hy270
  clear hy270
  obtain rfl := Option.some.inj H
  go_enter Try.func61,Try.ntmps61
  go_wp2_with (first|((with_reducible refine gate_dst (N := 1) rfl ?_);refine box_event ?hg (N := 1) ?hd (cs := #[.int .i64 a0_0,.int .i64 a0_1]) (t := 49) ?hr ?_;(case hd => rfl);(case hg => rfl);(case hr => go_simp <;> rfl);intro gb268 hg w4 hbox hb;have n0_ := As_ (bwT (zb0 HB.out) hb);have n1_ := As_ (hbox);have n2_ := As_ ((by rw [hg];exact (bwZ (zb0 HB.out)) : w.heap.size ≤ gb268));have n3_ := As_ ((by rw [hg];exact (bwZ (zb0 HB.out)) : w.heap.size ≤ gb268));clear HB;revert n0_ n1_ n2_ n3_;intro HB BK268 GW268 GE268;clear hb hbox hg;obtain ⟨hcz5_0,hcz5_1,hfz5_0,hfz5_1⟩ := bk2 BK268.out)|((with_reducible refine gate_callee (f := 77) rfl ?_);refine goesL_ (some 5) rfl rfl Try.func77 (by kernel_rfl) rfl #[.int .i64 a0_0] rfl zM_ ?_;(with_reducible refine (spec_argOf.calls a0_0 t269 _ A2.out).mono ?_);rintro e w' ⟨rfl,⟨nd,rfl⟩⟩;refine ⟨_,rfl,?_⟩)|((with_reducible refine gate_dst (N := 9) rfl ?_);refine Kd.R_lit (Kd.int .i64) _ 3 ?hg (N := 9) ?hd (xs := ([a0_0] : List Int)) (inner := [.int .i64 a0_0]) (ok := fun _ => True) (okp := fun _ => True) ?hr ?hp (fun _ hk => hk) trivial (Below.refl _ _) (Nat.le_refl _) (by simp) ?_;(case hd => rfl);(case hg => rfl);(case hr => go_simp <;> rfl);(case hp => exact (Reps.one (show Kd.M (Kd.int .i64) _ _ _ a0_0 [.int .i64 a0_0] from rfl) (Reps.none _ _)));intro v271 w6 ho7 hb hg_ hnew_;clear hg_ hnew_;(first|rw [← Ny270.out] at ho7|(simp only [Int.reduceToNat] at ho7;rw [← Ny270.out] at ho7));have n0_ := As_ (Kd.R_lower ho7 (bwZ (zb1 HB.out GE268.out)));have n1_ := As_ (zkb BK268.out hb);have n2_ := As_ (bwT (zb1 HB.out GE268.out) hb);clear BK268 HB;revert n0_ n1_ n2_;intro HO272 BK268 HB;clear hb ho7))
  go_ret
  exact ⟨_,zE_,by (with_reducible repeat (first|apply Kd.R_alloc|apply Kd.R_drewN|apply Kd.R_drew));exact HO272.out,zb1 HB.out GE268.out⟩
 rw [if_neg c3] at H
 have c3b0 : decide (t269 < 0) = false := deF c3
 clear c3
 by_cases c8 : a0_1 < 128
 ·rw [if_pos c8] at H
  have c8b0 : decide (a0_1 < 128) = true := deT c8
  clear c8
  obtain ⟨y273,hy273⟩ : ∃ y_ : List Int,y_ = (([a0_0,a0_1] : List Int)) := ⟨_,rfl⟩
  replace H : (some y273) = some r := zH_ H hy273
  have Ny273 := As_ hy273
  clear hy273
  obtain rfl := Option.some.inj H
  go_enter Try.func61,Try.ntmps61
  go_wp2_with (first|((with_reducible refine gate_dst (N := 1) rfl ?_);refine box_event ?hg (N := 1) ?hd (cs := #[.int .i64 a0_0,.int .i64 a0_1]) (t := 49) ?hr ?_;(case hd => rfl);(case hg => rfl);(case hr => go_simp <;> rfl);intro gb268 hg w9 hbox hb;have n0_ := As_ (bwT (zb0 HB.out) hb);have n1_ := As_ (hbox);have n2_ := As_ ((by rw [hg];exact (bwZ (zb0 HB.out)) : w.heap.size ≤ gb268));have n3_ := As_ ((by rw [hg];exact (bwZ (zb0 HB.out)) : w.heap.size ≤ gb268));clear HB;revert n0_ n1_ n2_ n3_;intro HB BK268 GW268 GE268;clear hb hbox hg;obtain ⟨hcz10_0,hcz10_1,hfz10_0,hfz10_1⟩ := bk2 BK268.out)|((with_reducible refine gate_callee (f := 77) rfl ?_);refine goesL_ (some 5) rfl rfl Try.func77 (by kernel_rfl) rfl #[.int .i64 a0_0] rfl zM_ ?_;(with_reducible refine (spec_argOf.calls a0_0 t269 _ A2.out).mono ?_);rintro e w' ⟨rfl,⟨nd,rfl⟩⟩;refine ⟨_,rfl,?_⟩)|((with_reducible refine gate_dst (N := 17) rfl ?_);refine Kd.R_lit (Kd.int .i64) _ 3 ?hg (N := 17) ?hd (xs := ([a0_0,a0_1] : List Int)) (inner := [.int .i64 a0_0,.int .i64 a0_1]) (ok := fun _ => True) (okp := fun _ => True) ?hr ?hp (fun _ hk => hk) trivial (Below.refl _ _) (Nat.le_refl _) (by simp) ?_;(case hd => rfl);(case hg => rfl);(case hr => go_simp <;> rfl);(case hp => exact (Reps.one (show Kd.M (Kd.int .i64) _ _ _ a0_0 [.int .i64 a0_0] from rfl) (Reps.one (show Kd.M (Kd.int .i64) _ _ _ a0_1 [.int .i64 a0_1] from rfl) (Reps.none _ _))));intro v274 w11 ho12 hb hg_ hnew_;clear hg_ hnew_;(first|rw [← Ny273.out] at ho12|(simp only [Int.reduceToNat] at ho12;rw [← Ny273.out] at ho12));have n0_ := As_ (Kd.R_lower ho12 (bwZ (zb1 HB.out GE268.out)));have n1_ := As_ (zkb BK268.out hb);have n2_ := As_ (bwT (zb1 HB.out GE268.out) hb);clear BK268 HB;revert n0_ n1_ n2_;intro HO275 BK268 HB;clear hb ho12))
  go_ret
  exact ⟨_,zE_,by (with_reducible repeat (first|apply Kd.R_alloc|apply Kd.R_drewN|apply Kd.R_drew));exact HO275.out,zb1 HB.out GE268.out⟩
 rw [if_neg c8] at H
 have c8b0 : decide (a0_1 < 128) = false := deF c8
 clear c8
 obtain ⟨y276,hy276⟩ : ∃ y_ : List Int,y_ = (([a0_0,wrap64 (128 + (Int.tmod a0_1 128)),wrap64 (Int.tdiv a0_1 128)] : List Int)) := ⟨_,rfl⟩
 replace H : (some y276) = some r := zH_ H hy276
 have Ny276 := As_ hy276
 clear hy276
 obtain rfl := Option.some.inj H
 go_enter Try.func61,Try.ntmps61
 go_wp2_with (first|((with_reducible refine gate_dst (N := 1) rfl ?_);refine box_event ?hg (N := 1) ?hd (cs := #[.int .i64 a0_0,.int .i64 a0_1]) (t := 49) ?hr ?_;(case hd => rfl);(case hg => rfl);(case hr => go_simp <;> rfl);intro gb268 hg w13 hbox hb;have n0_ := As_ (bwT (zb0 HB.out) hb);have n1_ := As_ (hbox);have n2_ := As_ ((by rw [hg];exact (bwZ (zb0 HB.out)) : w.heap.size ≤ gb268));have n3_ := As_ ((by rw [hg];exact (bwZ (zb0 HB.out)) : w.heap.size ≤ gb268));clear HB;revert n0_ n1_ n2_ n3_;intro HB BK268 GW268 GE268;clear hb hbox hg;obtain ⟨hcz14_0,hcz14_1,hfz14_0,hfz14_1⟩ := bk2 BK268.out)|((with_reducible refine gate_callee (f := 77) rfl ?_);refine goesL_ (some 5) rfl rfl Try.func77 (by kernel_rfl) rfl #[.int .i64 a0_0] rfl zM_ ?_;(with_reducible refine (spec_argOf.calls a0_0 t269 _ A2.out).mono ?_);rintro e w' ⟨rfl,⟨nd,rfl⟩⟩;refine ⟨_,rfl,?_⟩)|((with_reducible refine gate_dst (N := 27) rfl ?_);refine Kd.R_lit (Kd.int .i64) _ 3 ?hg (N := 27) ?hd (xs := ([a0_0,wrap64 (128 + (Int.tmod a0_1 128)),wrap64 (Int.tdiv a0_1 128)] : List Int)) (inner := [.int .i64 a0_0,.int .i64 (wrap64 (128 + (Int.tmod a0_1 128))),.int .i64 (wrap64 (Int.tdiv a0_1 128))]) (ok := fun _ => True) (okp := fun _ => True) ?hr ?hp (fun _ hk => hk) trivial (Below.refl _ _) (Nat.le_refl _) (by simp) ?_;(case hd => rfl);(case hg => rfl);(case hr => go_simp <;> rfl);(case hp => exact (Reps.one (show Kd.M (Kd.int .i64) _ _ _ a0_0 [.int .i64 a0_0] from rfl) (Reps.one (show Kd.M (Kd.int .i64) _ _ _ (wrap64 (128 + (Int.tmod a0_1 128))) [.int .i64 (wrap64 (128 + (Int.tmod a0_1 128)))] from rfl) (Reps.one (show Kd.M (Kd.int .i64) _ _ _ (wrap64 (Int.tdiv a0_1 128)) [.int .i64 (wrap64 (Int.tdiv a0_1 128))] from rfl) (Reps.none _ _)))));intro v277 w15 ho16 hb hg_ hnew_;clear hg_ hnew_;(first|rw [← Ny276.out] at ho16|(simp only [Int.reduceToNat] at ho16;rw [← Ny276.out] at ho16));have n0_ := As_ (Kd.R_lower ho16 (bwZ (zb1 HB.out GE268.out)));have n1_ := As_ (zkb BK268.out hb);have n2_ := As_ (bwT (zb1 HB.out GE268.out) hb);clear BK268 HB;revert n0_ n1_ n2_;intro HO278 BK268 HB;clear hb ho16))
 go_ret
 exact ⟨_,zE_,by (with_reducible repeat (first|apply Kd.R_alloc|apply Kd.R_drewN|apply Kd.R_drew));exact HO278.out,zb1 HB.out GE268.out⟩

end Go.Proofs.Ytonppkaobnfldaa.Q
