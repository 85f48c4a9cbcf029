-- Written by wip/tools/qprint.py (a program of this claim's author) by means of the kit's printer.
import Derived.Test.YtfhakhbmbnbneaaQ0
import Derived.Test.YtfhakhbmbnbneaaQ60
import Derived.Test.YtfhakhbmbnbneaaQ90
namespace Go.Proofs.Ytfhakhbmbnbneaa.Q
open Go.RowKit Go.Proofs.YtfhakhbmbnbneaaW.PrintWords Go.Proofs.YtfhakhbmbnbneaaW.PrintLast Go.Proofs.YtfhakhbmbnbneaaW.PrintMore
attribute [local go_sem] max2_int min2_int max_two min_two max_three min_three max_four min_four   -- for this text's walks alone
set_option linter.unusedVariables false
set_option linter.unusedSimpArgs false

/-! ### spec_DrawCodeOf: function 44 -/
def spec_DrawCodeOf.f (k : Nat) (l0 : List Int) : Option ((List (S45)) × Int) := (spec_newReader.f l0).bind fun bt1024 => ((spec_anyGraph.f k bt1024.1 bt1024.2).bind fun bt1027 => (some (bt1027.1,bt1027.2.1)))
set_option maxRecDepth 100000 in
theorem spec_DrawCodeOf.mono : ∀ a0 k,LeO (spec_DrawCodeOf.f k a0) (spec_DrawCodeOf.f (k + 1) a0) := by
 intro a0 k
 unfold spec_DrawCodeOf.f
 repeat' first
   | (with_reducible exact spec_anyGraph.mono _ _ _)
   | (with_reducible exact LeO.refl _)
   | (with_reducible exact LeO.none _)
   | (with_reducible refine LeO.ite ?_ ?_)
   | (with_reducible refine LeO.bind ?_ (fun _ => ?_))
   | exact spec_anyGraph.mono _ _ _
   | exact LeO.none _
   | refine LeO.ite ?_ ?_
   | refine LeO.bind ?_ (fun _ => ?_)
set_option maxHeartbeats 8000000 in
set_option maxRecDepth 100000 in
theorem spec_DrawCodeOf.calls (k : Nat) (A0 : Option Addr) (c0 : Nat) (l0 : List Int) (r1 : List (S45)) (r2 : Int) (w : World) (hr0 : Kd.C (Kd.int .u8) w A0 l0.length l0) (hc0 : l0.length ≤ c0) (h : spec_DrawCodeOf.f k l0 = some (r1,r2)) :
  Calls Try.prog 44 #[.slice A0 l0.length c0] w fun e w' => ∃ v0_ : Value,e = .returned (.agg #[v0_,.int .i64 r2]) ∧ Kd.S k45 45 w' w.heap.size (fun _ => True) v0_ r1 ∧ Below w.heap.size w w' := by
 have hu29 := Try.underlying29
 have HR0 := As_ hr0
 have HC0 := As_ hc0
 clear hr0 hc0
 have HB := As_ (Below.refl w.heap.size w)
 have H : ((spec_newReader.f l0).bind fun bt1024 => ((spec_anyGraph.f k bt1024.1 bt1024.2).bind fun bt1027 => (some (bt1027.1,bt1027.2.1)))) = some (r1,r2) := h
 clear h
 replace H := obS H
 obtain ⟨⟨t1024,t1025⟩,A20,H⟩ := H
 replace H : ((spec_anyGraph.f k t1024 t1025).bind fun bt1027 => (some (bt1027.1,bt1027.2.1))) = some (r1,r2) := H
 have A2 := As_ A20
 clear A20
 replace H := obS H
 obtain ⟨⟨t1027,t1030,t1031⟩,A30,H⟩ := H
 replace H : (some (t1027,t1030)) = some (r1,r2) := H
 have A3 := As_ A30
 clear A30
 simp only [Option.some.injEq,Prod.mk.injEq] at H
 obtain ⟨rfl,rfl⟩ := H
 go_enter Try.func44,Try.ntmps44
 go_wp2_with (first|((with_reducible refine gate_dst (N := 2) rfl ?_);refine box_event ?hg (N := 2) ?hd (cs := #[.slice none 0 0,.int .i64 0]) (t := 29) ?hr ?_;(case hd => rfl);(case hg => rfl);(case hr => go_simp <;> rfl);intro gb1023 hg w4 hbox hb;have n0_ := As_ (bwT (zb0 HB.out) hb);have n1_ := As_ (hbox);have n2_ := As_ ((by rw [hg];exact (bwZ (zb0 HB.out)) : w.heap.size ≤ gb1023));have n3_ := As_ ((by rw [hg];exact (bwZ (zb0 HB.out)) : w.heap.size ≤ gb1023));clear HB;revert n0_ n1_ n2_ n3_;intro HB BK1023 GW1023 GE1023;clear hb hbox hg)|((with_reducible refine gate_callee (f := 61) rfl ?_);refine goesL_ (some 4) rfl rfl Try.func61 (by kernel_rfl) rfl #[.slice A0 l0.length c0] rfl zM_ ?_;(with_reducible refine (spec_newReader.calls _ _ l0 t1024 t1025 w _ ?side1 ?side2 ?side3 A2.out).mono ?_);(case side1 => exact zb1 HB.out GE1023.out);(case side2 => exact HR0.out);(case side3 => exact HC0.out);rintro e w5 ⟨g1026,rfl,hi,hb,hb2⟩;refine ⟨_,rfl,?_⟩;have n0_ := As_ (zkb BK1023.out hb2);have n1_ := As_ (hb);have n2_ := As_ (hi);have n3_ := As_ (IsS85.ne_blk hi (zkb BK1023.out hb2) (by decide));have n4_ := As_ (Ne.symm (IsS85.ne_blk hi (zkb BK1023.out hb2) (by decide)));clear BK1023 HB;revert n0_ n1_ n2_ n3_ n4_;intro BK1023 HB HI1026 NB1026_1023 NB1023_1026)|((with_reducible refine gate_callee (f := 60) rfl ?_);refine goesL_ (some 5) rfl rfl Try.func60 (by kernel_rfl) rfl #[.pointer (some ⟨g1026,0,none⟩)] rfl zM_ ?_;(with_reducible refine (spec_anyGraph.calls k g1026 t1024 t1025 t1027 t1030 t1031 w _ ?side1 ?side2 A3.out).mono ?_);(case side1 => exact zi85_1 HI1026.out NB1026_1023.out);(case side2 => exact zb2 HB.out (IsS85.ge HI1026.out) GE1023.out);rintro e w6 ⟨v1028,rfl,ho0,hi,hb,hk⟩;refine ⟨_,rfl,?_⟩;have n0_ := As_ (KeepBut.blk hk (g' := gb1023) (o := .cells #[.slice none 0 0,.int .i64 0] 29 (0,0)) (zk_ BK1023.out) NB1023_1026.out (by simp));have n1_ := As_ (Kd.S_lower ho0 (bwZ (zb2 HB.out (IsS85.ge HI1026.out) GE1023.out)));have n2_ := As_ (hb);have n3_ := As_ (hi);clear BK1023 HB HI1026;revert n0_ n1_ n2_ n3_;intro BK1023 HO1029 HB HI1026;obtain ⟨Ao7,co7,eo7⟩ := Kd.S_slice HO1029.out;subst eo7;have hnb8 := NB1023_1026.out;have hnc8 := NB1026_1023.out;obtain ⟨hcz9_0,hcz9_1,hfz9_0,hfz9_1⟩ := bk2 BK1023.out))
 refine bodyPost_ret (results_cell_row rfl _ _ gb1023 29 #[.slice Ao7 t1027.length co7,.int .i64 t1030] (0,0) _ rfl (by (with_reducible repeat first|apply bkN|apply bkD|apply bkA);refine blk_put (cs := #[.slice Ao7 t1027.length co7,.int .i64 0]) ?_ 1 _ rfl;(with_reducible repeat first|apply bkN|apply bkD|apply bkA);refine blk_put (cs := #[.slice none 0 0,.int .i64 0]) ?_ 0 _ rfl;(with_reducible repeat first|apply bkN|apply bkD|apply bkA);exact BK1023.out) Try.underlying29 rfl (by kernel_rfl)) rfl ?_
 exact ⟨_,zE_,by (with_reducible repeat (first|apply Kd.S_alloc|apply Kd.S_drewN|apply Kd.S_drew));exact Kd.S_mono (Kd.S_far (p := ⟨gb1023,1,none⟩) (Kd.S_far (p := ⟨gb1023,0,none⟩) (Kd.S_types HO1029.out BK1023.out (by decide)) (fun _ hk => hk.2) (.slice Ao7 t1027.length co7)) (fun _ hk => hk.2) (.int .i64 t1030)) (fun _ hk => trivial),zb2 HB.out (IsS85.ge HI1026.out) GE1023.out⟩

end Go.Proofs.Ytfhakhbmbnbneaa.Q
