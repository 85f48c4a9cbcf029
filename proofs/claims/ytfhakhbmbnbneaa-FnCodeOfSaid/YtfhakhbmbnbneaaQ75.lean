-- Written by wip/tools/qprint.py (a program of this claim's author) by means of the kit's printer.
import Derived.Test.YtfhakhbmbnbneaaQ0
import Derived.Test.YtfhakhbmbnbneaaQ96
namespace Go.Proofs.Ytfhakhbmbnbneaa.Q
open Go.RowKit Go.Proofs.YtfhakhbmbnbneaaW.PrintWords Go.Proofs.YtfhakhbmbnbneaaW.PrintLast Go.Proofs.YtfhakhbmbnbneaaW.PrintMore
attribute [local go_sem] max2_int min2_int max_two min_two max_three min_three max_four min_four   -- for this text's walks alone
set_option linter.unusedVariables false
set_option linter.unusedSimpArgs false

/-! ### spec_codeOf: function 75 -/
def spec_codeOf.f (k : Nat) (l0_0 : List (S45)) (a0_1 : Int) : Option (List Int) := (spec_code.f k l0_0 a0_1 a0_1 (([] : List Int)) (([] : List Int))).bind fun bt930 => (some bt930.1)
set_option maxRecDepth 100000 in
theorem spec_codeOf.mono : ∀ a0 a1 k,LeO (spec_codeOf.f k a0 a1) (spec_codeOf.f (k + 1) a0 a1) := by
 intro a0 a1 k
 unfold spec_codeOf.f
 repeat' first
   | (with_reducible exact spec_code.mono _ _ _ _ _ _)
   | (with_reducible exact LeO.refl _)
   | (with_reducible exact LeO.none _)
   | (with_reducible refine LeO.ite ?_ ?_)
   | (with_reducible refine LeO.bind ?_ (fun _ => ?_))
   | exact spec_code.mono _ _ _ _ _ _
   | exact LeO.none _
   | refine LeO.ite ?_ ?_
   | refine LeO.bind ?_ (fun _ => ?_)
set_option maxHeartbeats 8000000 in
set_option maxRecDepth 100000 in
theorem spec_codeOf.calls (k : Nat) (A0_0 : Option Addr) (c0_0 : Nat) (l0_0 : List (S45)) (a0_1 : Int) (r : List Int) (w : World) (hr0_0 : Kd.C k45 w A0_0 l0_0.length l0_0) (hc0_0 : l0_0.length ≤ c0_0) (h : spec_codeOf.f k l0_0 a0_1 = some r) :
  Calls Try.prog 75 #[.agg #[.slice A0_0 l0_0.length c0_0,.int .i64 a0_1]] w fun e w' => ∃ v0_ : Value,e = .returned (v0_) ∧ Kd.R (Kd.int .i64) 3 w' w.heap.size (fun _ => True) v0_ r ∧ Below w.heap.size w w' := by
 have hu29 := Try.underlying29
 have HR0_0 := As_ hr0_0
 have HC0_0 := As_ hc0_0
 clear hr0_0 hc0_0
 have HB := As_ (Below.refl w.heap.size w)
 have H : ((spec_code.f k l0_0 a0_1 a0_1 (([] : List Int)) (([] : List Int))).bind fun bt930 => (some bt930.1)) = some r := h
 clear h
 obtain ⟨y924,hy924⟩ : ∃ y_ : List Int,y_ = (([] : List Int)) := ⟨_,rfl⟩
 replace H : ((spec_code.f k l0_0 a0_1 a0_1 y924 (([] : List Int))).bind fun bt930 => (some bt930.1)) = some r := zH_ H hy924
 have Ny924 := As_ hy924
 clear hy924
 obtain ⟨y927,hy927⟩ : ∃ y_ : List Int,y_ = (([] : List Int)) := ⟨_,rfl⟩
 replace H : ((spec_code.f k l0_0 a0_1 a0_1 y924 y927).bind fun bt930 => (some bt930.1)) = some r := zH_ H hy927
 have Ny927 := As_ hy927
 clear hy927
 replace H := obS H
 obtain ⟨⟨t930,t933⟩,A20,H⟩ := H
 replace H : (some t930) = some r := H
 have A2 := As_ A20
 clear A20
 obtain rfl := Option.some.inj H
 go_enter Try.func75,Try.ntmps75
 go_wp2_with (first|((with_reducible refine gate_dst (N := 1) rfl ?_);refine box_event ?hg (N := 1) ?hd (cs := #[.slice A0_0 l0_0.length c0_0,.int .i64 a0_1]) (t := 29) ?hr ?_;(case hd => rfl);(case hg => rfl);(case hr => go_simp <;> rfl);intro gb923 hg w3 hbox hb;have n0_ := As_ (bwT (zb0 HB.out) hb);have n1_ := As_ (hbox);have n2_ := As_ ((by rw [hg];exact (bwZ (zb0 HB.out)) : w.heap.size ≤ gb923));have n3_ := As_ ((by rw [hg];exact (bwZ (zb0 HB.out)) : w.heap.size ≤ gb923));clear HB;revert n0_ n1_ n2_ n3_;intro HB BK923 GW923 GE923;clear hb hbox hg;obtain ⟨hcz4_0,hcz4_1,hfz4_0,hfz4_1⟩ := bk2 BK923.out)|((with_reducible refine gate_dst (N := 9) rfl ?_);refine Kd.R_lit (Kd.int .i64) _ 3 ?hg (N := 9) ?hd (xs := ([] : List Int)) (inner := []) (ok := fun _ => True) (okp := fun _ => True) ?hr ?hp (fun _ hk => hk) trivial (Below.refl _ _) (Nat.le_refl _) (by simp) ?_;(case hd => rfl);(case hg => rfl);(case hr => go_simp <;> rfl);(case hp => exact (Reps.none _ _));intro v925 w5 ho6 hb hg_ hnew_;clear hg_ hnew_;(first|rw [← Ny924.out] at ho6|(simp only [Int.reduceToNat] at ho6;rw [← Ny924.out] at ho6));have n0_ := As_ (Kd.R_lower ho6 (bwZ (zb1 HB.out GE923.out)));have n1_ := As_ (zkb BK923.out hb);have n2_ := As_ (bwT (zb1 HB.out GE923.out) hb);clear BK923 HB;revert n0_ n1_ n2_;intro HO926 BK923 HB;clear hb ho6)|((with_reducible refine gate_dst (N := 10) rfl ?_);refine Kd.R_lit (Kd.int .i64) _ 3 ?hg (N := 10) ?hd (xs := ([] : List Int)) (inner := []) (ok := fun _ => True) (okp := fun _ => True) ?hr ?hp (fun _ hk => hk) trivial (Below.refl _ _) (Nat.le_refl _) (by simp) ?_;(case hd => rfl);(case hg => rfl);(case hr => go_simp <;> rfl);(case hp => exact (Reps.none _ _));intro v928 w7 ho8 hb hg_ hnew_;clear hg_ hnew_;(first|rw [← Ny927.out] at ho8|(simp only [Int.reduceToNat] at ho8;rw [← Ny927.out] at ho8));have n0_ := As_ (Kd.R_elder' (zR_ HO926.out) (Kd.R_base ho8) hb);have n1_ := As_ (Kd.R_lower (Kd.R_new' ho8 (Kd.R_lt (zR_ HO926.out))) (bwZ (zb1 HB.out GE923.out)));have n2_ := As_ (zkb BK923.out hb);have n3_ := As_ (bwT (zb1 HB.out GE923.out) hb);clear HO926 BK923 HB;revert n0_ n1_ n2_ n3_;intro HO926 HO929 BK923 HB;clear hb ho8;obtain ⟨Ao9,co9,eo9⟩ := Kd.R_slice HO926.out;subst eo9;obtain ⟨Ao10,co10,eo10⟩ := Kd.R_slice HO929.out;subst eo10)|((with_reducible refine gate_callee (f := 96) rfl ?_);refine goesL_ (some 11) rfl rfl Try.func96 (by kernel_rfl) rfl #[.agg #[.slice A0_0 l0_0.length c0_0,.int .i64 a0_1],.int .i64 a0_1,.slice Ao9 y924.length co9,.slice Ao10 y927.length co10] rfl zM_ ?_;(with_reducible refine (spec_code.calls k _ _ l0_0 a0_1 a0_1 _ _ y924 (fun k_ => some k_ = (.slice Ao10 y927.length co10 : Value).ownBlock) _ _ y927 t930 t933 _ ?side1 ?side2 ?side3 ?side4 ?side5 A2.out).mono ?_);(case side1 => exact zC_ (Kd.C_below HR0_0.out HB.out));(case side2 => exact HC0_0.out);(case side3 => exact zC_ (Kd.R_reads' HO926.out).2.2);(case side4 => exact (Kd.R_reads' HO926.out).2.1);(case side5 => exact Kd.R_V (Kd.R_tight rfl (Kd.R_types (HO929.out) BK923.out (by decide))));rintro e w11 ⟨v931,v934,rfl,ho0,ho1,hb⟩;refine ⟨_,rfl,?_⟩;have n0_ := As_ (Kd.R_elder' (zR_ HO926.out) (Kd.R_base ho0) hb);have n1_ := As_ (Kd.R_elder' (zR_ HO929.out) (Kd.R_base ho0) hb);have n2_ := As_ (Kd.R_lower (Kd.R_new' (Kd.R_new' (Kd.R_mono (ok' := fun k_ => True) ho0 (fun _ hk_ => trivial)) (Kd.R_lt (zR_ HO926.out))) (Kd.R_lt (zR_ HO929.out))) (bwZ (zb1 HB.out GE923.out)));have n3_ := As_ (Kd.V_lower (Kd.V_mono (ok' := fun k_ => some k_ ≠ (v931 : Value).ownBlock ∧ some k_ ≠ (.slice Ao9 y924.length co9 : Value).ownBlock ∧ k_ ≠ gb923) ho1 (fun k_ hk_ => ⟨hk_.2,Or.elim hk_.1 (fun hs_ => ((Kd.R_types (HO929.out) BK923.out (by decide)).1 k_ hs_.symm).1.2) (fun hn_ => (Kd.fresh' (Kd.R_lt (zR_ HO926.out)) k_ hn_)),Or.elim hk_.1 (fun hs_ => ((Kd.R_types (HO929.out) BK923.out (by decide)).1 k_ hs_.symm).2) (fun hn_ => (Kd.freshB (g := gb923) (o := .cells #[.slice A0_0 l0_0.length c0_0,.int .i64 a0_1] 29 (0,0)) (zk_ BK923.out) k_ hn_))⟩)) (bwZ (zb1 HB.out GE923.out)));have n4_ := As_ (zkb BK923.out hb);have n5_ := As_ (bwT (zb1 HB.out GE923.out) hb);clear HO926 HO929 BK923 HB;revert n0_ n1_ n2_ n3_ n4_ n5_;intro HO926 HO929 HO932 HO935 BK923 HB))
 go_ret
 exact ⟨_,zE_,by (with_reducible repeat (first|apply Kd.R_alloc|apply Kd.R_drewN|apply Kd.R_drew));exact Kd.R_mono HO932.out (fun _ hk => trivial),zb1 HB.out GE923.out⟩

end Go.Proofs.Ytfhakhbmbnbneaa.Q
