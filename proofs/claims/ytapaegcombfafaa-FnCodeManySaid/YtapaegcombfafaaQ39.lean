-- Written by wip/tools/qprint.py (a program of this claim's author) by means of the kit's printer.
import Derived.Test.YtapaegcombfafaaQ0
import Derived.Test.YtapaegcombfafaaQ52
import Derived.Test.YtapaegcombfafaaQ65
namespace Go.Proofs.Ytapaegcombfafaa.Q
open Go.RowKit Go.Proofs.YtapaegcombfafaaW.PrintWords Go.Proofs.YtapaegcombfafaaW.PrintLast Go.Proofs.YtapaegcombfafaaW.PrintMore
attribute [local go_sem] max2_int min2_int max_two min_two max_three min_three max_four min_four   -- for this text's walks alone
set_option linter.unusedVariables false
set_option linter.unusedSimpArgs false

/-! ### spec_rootsOf: function 39 -/
def spec_rootsOf.l0 : Nat → List Int → Int → List Int → Int → List (S58) → Int → Option ((List (S58)) × Int × List Int × Int)
 | 0,_,_,_,_,_,_ => none
 | k + 1,x5,x6,x1000,x1001,x281000,x281001 => if x6 > 0 then ((spec_reader_pick.f k x1000 x1001 (x281000.length : Int)).bind fun bt289 => (if x5.length < 17592186044416 then (spec_rootsOf.l0 k (x5 ++ [bt289.1]) (wrap64 (x6 - 1)) x1000 bt289.2 x281000 x281001) else (none))) else (if (x5.length : Int) > 0 then ((spec_reader_pick.f k x1000 x1001 16).bind fun bt294 => (if bt294.1 = 0 then ((spec_reader_one.f k x1000 bt294.2 (([(-1),12] : List Int))).bind fun bt299 => (if 0 < (x5.length : Int) then (some (x281000,x281001,(x5.set (0 : Int).toNat bt299.1),bt299.2)) else (none))) else (some (x281000,x281001,x5,bt294.2)))) else (some (x281000,x281001,x5,x1001)))
def spec_rootsOf.f (k : Nat) (s0_0 : List Int) (s0_1 : Int) : Option ((List (S58)) × Int × List Int × Int) := (spec_anyGraph.f k s0_0 s0_1).bind fun bt275 => ((spec_reader_one.f k s0_0 bt275.2.2 (([2,3,1,0,5] : List Int))).bind fun bt287 => (spec_rootsOf.l0 k (([] : List Int)) bt287.1 s0_0 bt287.2 bt275.1 bt275.2.1))
set_option maxRecDepth 100000 in
theorem spec_rootsOf.mono_l : ∀ k,(∀ y0 y1 y2 y3 y4 y5,LeO (spec_rootsOf.l0 k y0 y1 y2 y3 y4 y5) (spec_rootsOf.l0 (k + 1) y0 y1 y2 y3 y4 y5))
 | 0 => fun _ _ _ _ _ _ r h => (by cases h)
 | k + 1 => by
  have ih0 := spec_rootsOf.mono_l k
  ·intro y0 y1 y2 y3 y4 y5
   unfold spec_rootsOf.l0
   repeat' first
   | (with_reducible exact ih0 _ _ _ _ _ _)
   | (with_reducible exact spec_anyGraph.mono _ _ _)
   | (with_reducible exact spec_reader_one.mono _ _ _ _)
   | (with_reducible exact spec_reader_pick.mono _ _ _ _)
   | (with_reducible exact LeO.refl _)
   | (with_reducible exact LeO.none _)
   | (with_reducible refine LeO.ite ?_ ?_)
   | (with_reducible refine LeO.bind ?_ (fun _ => ?_))
   | exact ih0 _ _ _ _ _ _
   | exact spec_anyGraph.mono _ _ _
   | exact spec_reader_one.mono _ _ _ _
   | exact spec_reader_pick.mono _ _ _ _
   | exact LeO.none _
   | refine LeO.ite ?_ ?_
   | refine LeO.bind ?_ (fun _ => ?_)
set_option maxRecDepth 100000 in
theorem spec_rootsOf.mono : ∀ a0 a1 k,LeO (spec_rootsOf.f k a0 a1) (spec_rootsOf.f (k + 1) a0 a1) := by
 intro a0 a1 k
 have ih0 := spec_rootsOf.mono_l k
 unfold spec_rootsOf.f
 repeat' first
   | (with_reducible exact ih0 _ _ _ _ _ _)
   | (with_reducible exact spec_anyGraph.mono _ _ _)
   | (with_reducible exact spec_reader_one.mono _ _ _ _)
   | (with_reducible exact spec_reader_pick.mono _ _ _ _)
   | (with_reducible exact LeO.refl _)
   | (with_reducible exact LeO.none _)
   | (with_reducible refine LeO.ite ?_ ?_)
   | (with_reducible refine LeO.bind ?_ (fun _ => ?_))
   | exact ih0 _ _ _ _ _ _
   | exact spec_anyGraph.mono _ _ _
   | exact spec_reader_one.mono _ _ _ _
   | exact spec_reader_pick.mono _ _ _ _
   | exact LeO.none _
   | refine LeO.ite ?_ ?_
   | refine LeO.bind ?_ (fun _ => ?_)
set_option maxHeartbeats 8000000 in
set_option maxRecDepth 100000 in
theorem spec_rootsOf.calls (k : Nat) (g : Nat) (s0_0 : List Int) (s0_1 : Int) (r1 : List (S58)) (r2 : Int) (r3 : List Int) (r4 : Int) (w0 w : World) (hI : IsS74 w0 w g s0_0 s0_1) (hB : Below w0.heap.size w0 w) (h : spec_rootsOf.f k s0_0 s0_1 = some (r1,r2,r3,r4)) :
  Calls Try.prog 39 #[.pointer (some ⟨g,0,none⟩)] w fun e w' => ∃ v0_ v2_ : Value,e = .returned (.tuple #[.agg #[v0_,.int .i64 r2],v2_]) ∧ Kd.S k58 58 w' w.heap.size (fun k_ => some k_ ≠ (v2_ : Value).ownBlock) v0_ r1 ∧ Kd.R (Kd.int .i64) 3 w' w.heap.size (fun _ => True) v2_ r3 ∧ IsS74 w0 w' g s0_0 r4 ∧ Below w0.heap.size w0 w' ∧ KeepBut w w' g none := by
 have hu25 := Try.underlying25
 have HI0 := As_ hI
 have HK := As_ (KeepBut.refl w g none)
 have HL := As_ hB.size
 clear hI
 have HW0 := As_ hB.size
 have HB := As_ hB
 clear hB
 have H : ((spec_anyGraph.f k s0_0 s0_1).bind fun bt275 => ((spec_reader_one.f k s0_0 bt275.2.2 (([2,3,1,0,5] : List Int))).bind fun bt287 => (spec_rootsOf.l0 k (([] : List Int)) bt287.1 s0_0 bt287.2 bt275.1 bt275.2.1))) = some (r1,r2,r3,r4) := h
 clear h
 replace H := obS H
 obtain ⟨⟨t275,t278,t279⟩,A20,H⟩ := H
 replace H : ((spec_reader_one.f k s0_0 t279 (([2,3,1,0,5] : List Int))).bind fun bt287 => (spec_rootsOf.l0 k (([] : List Int)) bt287.1 s0_0 bt287.2 t275 t278)) = some (r1,r2,r3,r4) := H
 have A2 := As_ A20
 clear A20
 obtain ⟨y281,hy281⟩ : ∃ y_ : List Int,y_ = (([] : List Int)) := ⟨_,rfl⟩
 replace H : ((spec_reader_one.f k s0_0 t279 (([2,3,1,0,5] : List Int))).bind fun bt287 => (spec_rootsOf.l0 k y281 bt287.1 s0_0 bt287.2 t275 t278)) = some (r1,r2,r3,r4) := zH_ H hy281
 have Ny281 := As_ hy281
 clear hy281
 obtain ⟨y284,hy284⟩ : ∃ y_ : List Int,y_ = (([2,3,1,0,5] : List Int)) := ⟨_,rfl⟩
 replace H : ((spec_reader_one.f k s0_0 t279 y284).bind fun bt287 => (spec_rootsOf.l0 k y281 bt287.1 s0_0 bt287.2 t275 t278)) = some (r1,r2,r3,r4) := zH_ H hy284
 have Ny284 := As_ hy284
 clear hy284
 replace H := obS H
 obtain ⟨⟨t287,t288⟩,A30,H⟩ := H
 replace H : (spec_rootsOf.l0 k y281 t287 s0_0 t288 t275 t278) = some (r1,r2,r3,r4) := H
 have A3 := As_ A30
 clear A30
 have H' := As_ H
 clear H
 go_enter Try.func39,Try.ntmps39
 go_wp2_with (first|((with_reducible refine gate_dst (N := 2) rfl ?_);refine box_event ?hg (N := 2) ?hd (cs := #[.slice none 0 0,.int .i64 0]) (t := 25) ?hr ?_;(case hd => rfl);(case hg => rfl);(case hr => go_simp <;> rfl);intro gb274 hg w4 hbox hb;have n0_ := As_ (IsS74.below (zi74_0 HI0.out) hb);have n1_ := As_ (KeepBut.trans (zkp0 HK.out) (KeepBut.of_below hb g none) (.inl rfl));have n2_ := As_ (bwT (zb1 HB.out (IsS74.ge HI0.out)) hb);have n3_ := As_ (hbox);have n4_ := As_ ((by rw [hg];exact (keep_size (w := w) (g := g) (row := none) (zkp0 HK.out)) : w.heap.size ≤ gb274));have n5_ := As_ ((Nat.le_trans HW0.out (by rw [hg];exact (keep_size (w := w) (g := g) (row := none) (zkp0 HK.out)) : w.heap.size ≤ gb274) : w0.heap.size ≤ gb274));have n6_ := As_ ((by rw [hg];exact Nat.ne_of_lt (IsS74.lt (show IsS74 w0 _ g s0_0 s0_1 from zi74_0 HI0.out)) : g ≠ gb274));have n7_ := As_ ((by rw [hg];exact Nat.ne_of_gt (IsS74.lt (show IsS74 w0 _ g s0_0 s0_1 from zi74_0 HI0.out)) : gb274 ≠ g));clear HI0 HK HB;revert n0_ n1_ n2_ n3_ n4_ n5_ n6_ n7_;intro HI0 HK HB BK274 GW274 GE274 NB0_274 NB274_0;clear hb hbox hg)|((with_reducible refine gate_callee (f := 52) rfl ?_);refine goesL_ (some 8) rfl rfl Try.func52 (by kernel_rfl) rfl #[.pointer (some ⟨g,0,none⟩)] rfl zM_ ?_;(with_reducible refine (spec_anyGraph.calls k g s0_0 s0_1 t275 t278 t279 w0 _ ?side1 ?side2 A2.out).mono ?_);(case side1 => exact zi74_1 HI0.out NB0_274.out);(case side2 => exact zb2 HB.out (IsS74.ge HI0.out) GE274.out);rintro e w5 ⟨v276,rfl,ho0,hi,hb,hk⟩;refine ⟨_,rfl,?_⟩;have n0_ := As_ (KeepBut.blk hk (g' := gb274) (o := .cells #[.slice none 0 0,.int .i64 0] 25 (0,0)) (zk_ BK274.out) NB274_0.out (by simp));have n1_ := As_ (Kd.S_lower ho0 (keep_size (w := w) (g := g) (row := none) (zkp1 HK.out GW274.out)));have n2_ := As_ (KeepBut.trans (zkp1 HK.out GW274.out) hk (.inl rfl));have n3_ := As_ (hb);have n4_ := As_ (hi);clear BK274 HK HB HI0;revert n0_ n1_ n2_ n3_ n4_;intro BK274 HO277 HK HB HI0)|((with_reducible refine gate_dst (N := 4) rfl ?_);refine box_event ?hg (N := 4) ?hd (cs := #[.slice none 0 0,.int .i64 0]) (t := 25) ?hr ?_;(case hd => rfl);(case hg => rfl);(case hr => go_simp <;> rfl);intro gb280 hg w6 hbox hb;have n0_ := As_ (Kd.S_below (zS_ HO277.out) hb);have n1_ := As_ (IsS74.below (zi74_1 HI0.out NB0_274.out) hb);have n2_ := As_ (zkb BK274.out hb);have n3_ := As_ (KeepBut.trans (zkp1 HK.out GW274.out) (KeepBut.of_below hb g none) (.inl rfl));have n4_ := As_ (bwT (zb2 HB.out (IsS74.ge HI0.out) GE274.out) hb);have n5_ := As_ (hbox);have n6_ := As_ ((by rw [hg];exact (keep_size (w := w) (g := g) (row := none) (zkp1 HK.out GW274.out)) : w.heap.size ≤ gb280));have n7_ := As_ ((Nat.le_trans HW0.out (by rw [hg];exact (keep_size (w := w) (g := g) (row := none) (zkp1 HK.out GW274.out)) : w.heap.size ≤ gb280) : w0.heap.size ≤ gb280));have n8_ := As_ ((by rw [hg];exact Nat.ne_of_lt (zkl BK274.out) : gb274 ≠ gb280));have n9_ := As_ ((by rw [hg];exact Nat.ne_of_gt (zkl BK274.out) : gb280 ≠ gb274));have n10_ := As_ ((by rw [hg];exact Nat.ne_of_lt (IsS74.lt (show IsS74 w0 _ g s0_0 t279 from zi74_1 HI0.out NB0_274.out)) : g ≠ gb280));have n11_ := As_ ((by rw [hg];exact Nat.ne_of_gt (IsS74.lt (show IsS74 w0 _ g s0_0 t279 from zi74_1 HI0.out NB0_274.out)) : gb280 ≠ g));clear HO277 HI0 BK274 HK HB;revert n0_ n1_ n2_ n3_ n4_ n5_ n6_ n7_ n8_ n9_ n10_ n11_;intro HO277 HI0 BK274 HK HB BK280 GW280 GE280 NB274_280 NB280_274 NB0_280 NB280_0;clear hb hbox hg;obtain ⟨Ao7,co7,eo7⟩ := Kd.S_slice HO277.out;subst eo7;have hnb8 := NB280_274.out;have hnc8 := NB274_280.out;have hnb9 := NB280_0.out;have hnc9 := NB0_280.out;obtain ⟨hcz10_0,hcz10_1,hfz10_0,hfz10_1⟩ := bk2 BK280.out)|((with_reducible refine gate_dst (N := 9) rfl ?_);refine Kd.R_lit (Kd.int .i64) _ 3 ?hg (N := 9) ?hd (xs := ([] : List Int)) (inner := []) (ok := fun _ => True) (okp := fun _ => True) ?hr ?hp (fun _ hk => hk) trivial (Below.refl _ _) (Nat.le_refl _) (by simp) ?_;(case hd => rfl);(case hg => rfl);(case hr => go_simp <;> rfl);(case hp => exact (Reps.none _ _));intro v282 w11 ho12 hb hg_ hnew_;clear hg_ hnew_;(first|rw [← Ny281.out] at ho12|(simp only [Int.reduceToNat] at ho12;rw [← Ny281.out] at ho12));have n0_ := As_ (Kd.S_elder' (by (with_reducible repeat (first|apply Kd.S_alloc|apply Kd.S_drewN|apply Kd.S_drew));exact (Kd.S_mono (Kd.S_far (p := ⟨gb280,1,none⟩) (Kd.S_far (p := ⟨gb280,0,none⟩) (Kd.S_types HO277.out BK280.out (by decide)) (fun _ hk => hk.2) (.slice Ao7 t275.length co7)) (fun _ hk => hk.2) (.int .i64 t278)) (fun _ h_ => h_.1))) (Kd.R_base ho12) hb);have n1_ := As_ (Kd.R_lower ho12 (keep_size (w := w) (g := g) (row := none) (zkp2 HK.out GW274.out GW280.out)));have n2_ := As_ (IsS74.below (show IsS74 w0 ((w6.setCell ⟨gb280,0,none⟩ (.slice Ao7 t275.length co7)).setCell ⟨gb280,1,none⟩ (.int .i64 t278)) g s0_0 t279 from zi74_2 HI0.out NB0_274.out NB0_280.out) hb);have n3_ := As_ (blk_below (g := gb274) (o := .cells #[.slice none 0 0,.int .i64 0] 25 (0,0)) (by (with_reducible repeat first|apply bkN|apply bkD|apply bkA);refine blk_far ?_ NB274_280.out _;(with_reducible repeat first|apply bkN|apply bkD|apply bkA);refine blk_far ?_ NB274_280.out _;(with_reducible repeat first|apply bkN|apply bkD|apply bkA);exact BK274.out) hb);have n4_ := As_ (blk_below (g := gb280) (o := .cells #[.slice Ao7 t275.length co7,.int .i64 t278] 25 (0,0)) (by (with_reducible repeat first|apply bkN|apply bkD|apply bkA);refine blk_put (cs := #[.slice Ao7 t275.length co7,.int .i64 0]) ?_ 1 _ rfl;(with_reducible repeat first|apply bkN|apply bkD|apply bkA);refine blk_put (cs := #[.slice none 0 0,.int .i64 0]) ?_ 0 _ rfl;(with_reducible repeat first|apply bkN|apply bkD|apply bkA);exact BK280.out) hb);have n5_ := As_ (KeepBut.trans (zkp2 HK.out GW274.out GW280.out) (KeepBut.of_below hb g none) (.inl rfl));have n6_ := As_ (bwT (zb3 HB.out (IsS74.ge HI0.out) GE274.out GE280.out) hb);clear HO277 HI0 BK274 BK280 HK HB;revert n0_ n1_ n2_ n3_ n4_ n5_ n6_;intro HO277 HO283 HI0 BK274 BK280 HK HB;clear hb ho12)|((with_reducible refine gate_dst (N := 11) rfl ?_);refine Kd.R_lit (Kd.int .i64) _ 3 ?hg (N := 11) ?hd (xs := ([2,3,1,0,5] : List Int)) (inner := [.int .i64 2,.int .i64 3,.int .i64 1,.int .i64 0,.int .i64 5]) (ok := fun _ => True) (okp := fun _ => True) ?hr ?hp (fun _ hk => hk) trivial (Below.refl _ _) (Nat.le_refl _) (by simp) ?_;(case hd => rfl);(case hg => rfl);(case hr => go_simp <;> rfl);(case hp => exact (Reps.one (show Kd.M (Kd.int .i64) _ _ _ 2 [.int .i64 2] from rfl) (Reps.one (show Kd.M (Kd.int .i64) _ _ _ 3 [.int .i64 3] from rfl) (Reps.one (show Kd.M (Kd.int .i64) _ _ _ 1 [.int .i64 1] from rfl) (Reps.one (show Kd.M (Kd.int .i64) _ _ _ 0 [.int .i64 0] from rfl) (Reps.one (show Kd.M (Kd.int .i64) _ _ _ 5 [.int .i64 5] from rfl) (Reps.none _ _)))))));intro v285 w13 ho14 hb hg_ hnew_;clear hg_ hnew_;(first|rw [← Ny284.out] at ho14|(simp only [Int.reduceToNat] at ho14;rw [← Ny284.out] at ho14));have n0_ := As_ (Kd.S_elder' (zS_ HO277.out) (Kd.R_base ho14) hb);have n1_ := As_ (Kd.R_elder' (zR_ HO283.out) (Kd.R_base ho14) hb);have n2_ := As_ (Kd.R_lower (Kd.R_new' ho14 (Kd.R_lt (zR_ HO283.out))) (keep_size (w := w) (g := g) (row := none) (zkp2 HK.out GW274.out GW280.out)));have n3_ := As_ (IsS74.below (zi74_2 HI0.out NB0_274.out NB0_280.out) hb);have n4_ := As_ (zkb BK274.out hb);have n5_ := As_ (zkb BK280.out hb);have n6_ := As_ (KeepBut.trans (zkp2 HK.out GW274.out GW280.out) (KeepBut.of_below hb g none) (.inl rfl));have n7_ := As_ (bwT (zb3 HB.out (IsS74.ge HI0.out) GE274.out GE280.out) hb);clear HO277 HO283 HI0 BK274 BK280 HK HB;revert n0_ n1_ n2_ n3_ n4_ n5_ n6_ n7_;intro HO277 HO283 HO286 HI0 BK274 BK280 HK HB;clear hb ho14;obtain ⟨Ao15,co15,eo15⟩ := Kd.R_slice HO286.out;subst eo15)|((with_reducible refine gate_callee (f := 67) rfl ?_);refine goesL_ (some 12) rfl rfl Try.func67 (by kernel_rfl) rfl #[.pointer (some ⟨g,0,none⟩),.slice Ao15 y284.length co15] rfl zM_ ?_;(with_reducible refine (spec_reader_one.calls k g s0_0 t279 _ _ y284 t287 t288 w0 _ ?side1 ?side2 ?side3 ?side4 ?side5 A3.out).mono ?_);(case side1 => exact zi74_2 HI0.out NB0_274.out NB0_280.out);(case side2 => exact zb3 HB.out (IsS74.ge HI0.out) GE274.out GE280.out);(case side3 => exact zC_ (Kd.R_reads' HO286.out).2.2);(case side4 => exact (Kd.R_reads' HO286.out).2.1);(case side5 => exact far_slice (IsS74.own_ne HI0.out HO286.out (by decide)));rintro e w16 ⟨rfl,hi,hb,hk⟩;refine ⟨_,rfl,?_⟩;have n0_ := As_ (KeepBut.blk hk (g' := gb274) (o := .cells #[.slice none 0 0,.int .i64 0] 25 (0,0)) (zk_ BK274.out) NB274_0.out (by simp));have n1_ := As_ (Kd.S_mono (Kd.S_keep (IsS74.apartS (show IsS74 w0 _ g s0_0 t279 from zi74_2 HI0.out NB0_274.out NB0_280.out) (zS_ HO277.out) (by decide)) hk (fun _ h => h.2)) (fun _ h => h.1));have n2_ := As_ (KeepBut.blk hk (g' := gb280) (o := .cells #[.slice Ao7 t275.length co7,.int .i64 t278] 25 (0,0)) (zk_ BK280.out) NB280_0.out (by simp));have n3_ := As_ (Kd.R_mono (Kd.R_keep (IsS74.apart (show IsS74 w0 _ g s0_0 t279 from zi74_2 HI0.out NB0_274.out NB0_280.out) (zR_ HO283.out) (by decide)) hk (fun _ h => h.2)) (fun _ h => h.1));have n4_ := As_ (Kd.R_mono (Kd.R_keep (IsS74.apart (show IsS74 w0 _ g s0_0 t279 from zi74_2 HI0.out NB0_274.out NB0_280.out) (zR_ HO286.out) (by decide)) hk (fun _ h => h.2)) (fun _ h => h.1));have n5_ := As_ (KeepBut.trans (zkp2 HK.out GW274.out GW280.out) hk (.inl rfl));have n6_ := As_ (hb);have n7_ := As_ (hi);clear BK274 HO277 BK280 HO283 HO286 HK HB HI0;revert n0_ n1_ n2_ n3_ n4_ n5_ n6_ n7_;intro BK274 HO277 BK280 HO283 HO286 HK HB HI0))
 go_loopg [5,6] k (fun kq v5 v6 w' => ∃ (x5_1 : List Int) (x6_1 : Int) (x1001_1 : Int),v6 = .int .i64 x6_1 ∧ Aside0 (spec_rootsOf.l0 kq x5_1 x6_1 s0_0 x1001_1 t275 t278 = some (r1,r2,r3,r4)) ∧ Aside0 (kq ≤ k) ∧ Aside0 (Kd.R (Kd.int .i64) 3 w' w.heap.size (fun _ => True) v5 x5_1) ∧ Aside0 (Kd.S k58 58 w' w.heap.size (fun k_ => some k_ ≠ (v5 : Value).ownBlock) (.slice Ao7 t275.length co7) t275) ∧ Aside0 (w'.heap[gb274]? = some (.cells #[(.slice none 0 0),.int .i64 0] 25 (0,0))) ∧ Aside0 (w'.heap[gb280]? = some (.cells #[(.slice Ao7 t275.length co7),.int .i64 t278] 25 (0,0))) ∧ Aside0 (IsS74 w0 w' g s0_0 x1001_1) ∧ Aside0 (KeepBut w w' g none) ∧ Aside0 (Below w0.heap.size w0 w'))
 case atStart => exact ⟨(y281),(t287),(t288),zT_,H',⟨Nat.le_refl _⟩,⟨by (with_reducible repeat (first|apply Kd.R_alloc|apply Kd.R_drewN|apply Kd.R_drew));exact Kd.R_mono HO283.out (fun _ hk => trivial)⟩,⟨by (with_reducible repeat (first|apply Kd.S_alloc|apply Kd.S_drewN|apply Kd.S_drew));exact Kd.S_mono HO277.out (fun _ hk => hk.1.2)⟩,⟨by (with_reducible repeat first|apply bkN|apply bkD|apply bkA);exact BK274.out⟩,⟨by (with_reducible repeat first|apply bkN|apply bkD|apply bkA);exact BK280.out⟩,⟨zi74_2 HI0.out NB0_274.out NB0_280.out⟩,⟨zkp2 HK.out GW274.out GW280.out⟩,⟨zb3 HB.out (IsS74.ge HI0.out) GE274.out GE280.out⟩⟩
 case round =>
  clear H'
  obtain ⟨x5_1,x6_1,x1001_1,rfl,HA,HK1,HO_5,HO_281000,BK274,BK280,HI0,HK,HB⟩ := hrel
  cases gk with
  | zero => exact absurd HA.out (fun h_ => (by cases h_))
  | succ k1 =>
   have H := HA.out
   clear HA
   simp only [spec_rootsOf.l0] at H
   by_cases c17 : x6_1 > 0
   ·rw [if_pos c17] at H
    have c17b0 : decide (0 < x6_1) = true := deT c17
    clear c17
    replace H := obS H
    obtain ⟨⟨t289,t290⟩,A180,H⟩ := H
    replace H : (if x5_1.length < 17592186044416 then (spec_rootsOf.l0 k1 (x5_1 ++ [t289]) (wrap64 (x6_1 - 1)) s0_0 t290 t275 t278) else (none)) = some (r1,r2,r3,r4) := H
    have A18 := As_ A180
    clear A180
    by_cases c19 : x5_1.length < 17592186044416
    rotate_left
    ·rw [if_neg c19] at H
     exact absurd H (by simp)
    rw [if_pos c19] at H
    have LMc19 := As_ c19
    clear c19
    obtain ⟨y291,hy291⟩ : ∃ y_ : List Int,y_ = (x5_1 ++ [t289]) := ⟨_,rfl⟩
    replace H : (spec_rootsOf.l0 k1 y291 (wrap64 (x6_1 - 1)) s0_0 t290 t275 t278) = some (r1,r2,r3,r4) := zH_ H hy291
    have Ny291 := As_ hy291
    clear hy291
    have H' := As_ H
    clear H
    have hnb20 := NB280_274.out
    have hnc20 := NB274_280.out
    have hnb21 := NB280_0.out
    have hnc21 := NB0_280.out
    obtain ⟨hcz22_0,hcz22_1,hfz22_0,hfz22_1⟩ := bk2 BK280.out
    go_wp2_with (first|((with_reducible refine gate_callee (f := 65) rfl ?_);refine goesL_ (some 22) rfl rfl Try.func65 (by kernel_rfl) rfl #[.pointer (some ⟨g,0,none⟩),.int .i64 (t275.length : Int)] rfl zM_ ?_;(with_reducible refine (spec_reader_pick.calls k1 g s0_0 x1001_1 (t275.length : Int) t289 t290 w0 _ ?side1 ?side2 A18.out).mono ?_);(case side1 => exact zi74_2 HI0.out NB0_274.out NB0_280.out);(case side2 => exact zb3 HB.out (IsS74.ge HI0.out) GE274.out GE280.out);rintro e w23 ⟨rfl,hi,hb,hk⟩;refine ⟨_,rfl,?_⟩;have n0_ := As_ (Kd.R_mono (Kd.R_keep (IsS74.apart (show IsS74 w0 _ g s0_0 x1001_1 from zi74_2 HI0.out NB0_274.out NB0_280.out) (zR_ HO_5.out) (by decide)) hk (fun _ h => h.2)) (fun _ h => h.1));have n1_ := As_ (Kd.S_mono (Kd.S_keep (IsS74.apartS (show IsS74 w0 _ g s0_0 x1001_1 from zi74_2 HI0.out NB0_274.out NB0_280.out) (zS_ HO_281000.out) (by decide)) hk (fun _ h => h.2)) (fun _ h => h.1));have n2_ := As_ (KeepBut.blk hk (g' := gb274) (o := .cells #[.slice none 0 0,.int .i64 0] 25 (0,0)) (zk_ BK274.out) NB274_0.out (by simp));have n3_ := As_ (KeepBut.blk hk (g' := gb280) (o := .cells #[.slice Ao7 t275.length co7,.int .i64 t278] 25 (0,0)) (zk_ BK280.out) NB280_0.out (by simp));have n4_ := As_ (KeepBut.trans (zkp2 HK.out GW274.out GW280.out) hk (.inl rfl));have n5_ := As_ (hb);have n6_ := As_ (hi);clear HO_5 HO_281000 BK274 BK280 HK HB HI0;revert n0_ n1_ n2_ n3_ n4_ n5_ n6_;intro HO_5 HO_281000 BK274 BK280 HK HB HI0)|((with_reducible refine gate_builtin (b := .append) (xs := #[.tmp 17,.tmp 23]) rfl ?_);at_builtin;refine Kd.R_append (Kd.int .i64) w.heap.size rfl (.tmp 17) (.tmp 23) 26 3 (.int .i64 0) 8 rfl Try.underlying26 info3 rfl (by decide) (by omega) u5 x5_1 t289 [.int .i64 t289] (fun _ => True) (fun _ => False) rfl rfl ?aP (fun _ hk => hk.elim) ?aF ?aO (Below.refl _ _) ?aS ?aL ?_;(case aP => exact rfl);(case aF => exact (fun _ _ => trivial));(case aO => exact (zR_ HO_5.out));(case aS => exact (keep_size (w := w) (g := g) (row := none) (zkp2 HK.out GW274.out GW280.out)));(case aL => have := LMc19.out;omega);intro v292 w24 ho hb hg hat;rw [← Ny291.out] at ho;have n0_ := As_ (Kd.S_after (ok := (fun _ => True)) (by (with_reducible repeat (first|apply Kd.S_alloc|apply Kd.S_drewN|apply Kd.S_drew));exact Kd.S_mono HO_281000.out (fun _ hk => ⟨trivial,hk⟩)) hg hat);have n1_ := As_ (blk_grown (g := gb274) (o := .cells #[.slice none 0 0,.int .i64 0] 25 (0,0)) (zk_ BK274.out) hg (Kd.R_ne HO_5.out BK274.out (by decide)));have n2_ := As_ (blk_grown (g := gb280) (o := .cells #[.slice Ao7 t275.length co7,.int .i64 t278] 25 (0,0)) (zk_ BK280.out) hg (Kd.R_ne HO_5.out BK280.out (by decide)));have n3_ := As_ (IsS74.grown (zi74_2 HI0.out NB0_274.out NB0_280.out) hg (IsS74.own_ne HI0.out HO_5.out (by decide)));have n4_ := As_ (below_weaken (zb3 HB.out (IsS74.ge HI0.out) GE274.out GE280.out) HL.out hb);have n5_ := As_ (KeepBut.trans (zkp2 HK.out GW274.out GW280.out) (KeepBut.of_grown hg g) (Kd.R_base2 HO_5.out));have n6_ := As_ (ho);clear HO_281000 BK274 BK280 HI0 HB HK HO_5;revert n0_ n1_ n2_ n3_ n4_ n5_ n6_;intro HO_281000 BK274 BK280 HI0 HB HK HO293;clear ho hb hg hat))
    go_roundg k1
    case measure => have := HK1.out;omega
    case rel => exact ⟨(y291),(wrap64 (x6_1 - 1)),(t290),zT_,H',⟨by have := HK1.out;omega⟩,⟨by (with_reducible repeat (first|apply Kd.R_alloc|apply Kd.R_drewN|apply Kd.R_drew));exact HO293.out⟩,⟨by (with_reducible repeat (first|apply Kd.S_alloc|apply Kd.S_drewN|apply Kd.S_drew));exact Kd.S_mono HO_281000.out (fun _ hk => hk.2)⟩,⟨by (with_reducible repeat first|apply bkN|apply bkD|apply bkA);exact BK274.out⟩,⟨by (with_reducible repeat first|apply bkN|apply bkD|apply bkA);exact BK280.out⟩,⟨zi74_2 HI0.out NB0_274.out NB0_280.out⟩,⟨zkp2 HK.out GW274.out GW280.out⟩,⟨zb3 HB.out (IsS74.ge HI0.out) GE274.out GE280.out⟩⟩
   rw [if_neg c17] at H
   have c17b0 : decide (0 < x6_1) = false := deF c17
   clear c17
   by_cases c25 : (x5_1.length : Int) > 0
   rotate_left
   ·rw [if_neg c25] at H
    have c25b0 : decide (0 < (x5_1.length : Int)) = false := deF c25
    have c25b1 : decide (0 < x5_1.length) = false := deF (by omega)
    clear c25
    simp only [Option.some.injEq,Prod.mk.injEq] at H
    obtain ⟨rfl,rfl,rfl,rfl⟩ := H
    obtain ⟨Ao51,co51,eo51⟩ := Kd.R_slice HO_5.out
    subst eo51
    have hnb52 := NB280_274.out
    have hnc52 := NB274_280.out
    have hnb53 := NB280_0.out
    have hnc53 := NB0_280.out
    obtain ⟨hcz54_0,hcz54_1,hfz54_0,hfz54_1⟩ := bk2 BK280.out
    have hnb55 := NB274_0.out
    have hnc55 := NB0_274.out
    obtain ⟨hcz56_0,hcz56_1,hfz56_0,hfz56_1⟩ := bk2 BK274.out
    go_wp2
    refine bodyPost_ret (results_ct rfl _ _ gb274 25 #[.slice Ao7 t275.length co7,.int .i64 t278] (0,0) _ rfl (by (with_reducible repeat first|apply bkN|apply bkD|apply bkA);refine blk_put (cs := #[.slice Ao7 t275.length co7,.int .i64 0]) ?_ 1 _ rfl;(with_reducible repeat first|apply bkN|apply bkD|apply bkA);refine blk_put (cs := #[.slice none 0 0,.int .i64 0]) ?_ 0 _ rfl;(with_reducible repeat first|apply bkN|apply bkD|apply bkA);exact BK274.out) Try.underlying25 rfl (by kernel_rfl)) rfl ?_
    exact ⟨_,_,zE_,by (with_reducible repeat (first|apply Kd.S_alloc|apply Kd.S_drewN|apply Kd.S_drew));exact Kd.S_mono (Kd.S_far (p := ⟨gb274,1,none⟩) (Kd.S_far (p := ⟨gb274,0,none⟩) (Kd.S_types HO_281000.out BK274.out (by decide)) (fun _ hk => hk.2) (.slice Ao7 t275.length co7)) (fun _ hk => hk.2) (.int .i64 t278)) (fun _ hk => hk.1),by (with_reducible repeat (first|apply Kd.R_alloc|apply Kd.R_drewN|apply Kd.R_drew));exact Kd.R_mono (Kd.R_far (p := ⟨gb274,1,none⟩) (Kd.R_far (p := ⟨gb274,0,none⟩) (Kd.R_types HO_5.out BK274.out (by decide)) (fun _ hk => hk.2) (.slice Ao7 t275.length co7)) (fun _ hk => hk.2) (.int .i64 t278)) (fun _ hk => trivial),zi74_2 HI0.out NB0_274.out NB0_280.out,zb3 HB.out (IsS74.ge HI0.out) GE274.out GE280.out,zkp2 HK.out GW274.out GW280.out⟩

   rw [if_pos c25] at H
   have c25b0 : decide (0 < (x5_1.length : Int)) = true := deT c25
   have c25b1 : decide (0 < x5_1.length) = true := deT (by omega)
   clear c25
   replace H := obS H
   obtain ⟨⟨t294,t295⟩,A260,H⟩ := H
   replace H : (if t294 = 0 then ((spec_reader_one.f k1 s0_0 t295 (([(-1),12] : List Int))).bind fun bt299 => (if 0 < (x5_1.length : Int) then (some (t275,t278,(x5_1.set (0 : Int).toNat bt299.1),bt299.2)) else (none))) else (some (t275,t278,x5_1,t295))) = some (r1,r2,r3,r4) := H
   have A26 := As_ A260
   clear A260
   by_cases c27 : t294 = 0
   rotate_left
   ·rw [if_neg c27] at H
    have c27b0 : (t294 == 0) = false := beq_eq_false_iff_ne.mpr c27
    have c27b1 : (t294 != 0) = true := bne_iff_ne.mpr c27
    simp only [Option.some.injEq,Prod.mk.injEq] at H
    obtain ⟨rfl,rfl,rfl,rfl⟩ := H
    obtain ⟨Ao44,co44,eo44⟩ := Kd.R_slice HO_5.out
    subst eo44
    go_wp2_with (first|(go_at_call 65;(with_reducible refine (spec_reader_pick.calls k1 g s0_0 x1001_1 16 t294 t295 w0 _ ?side1 ?side2 A26.out).mono ?_);(case side1 => exact zi74_2 HI0.out NB0_274.out NB0_280.out);(case side2 => exact zb3 HB.out (IsS74.ge HI0.out) GE274.out GE280.out);rintro e w45 ⟨rfl,hi,hb,hk⟩;have n0_ := As_ (Kd.R_mono (Kd.R_keep (IsS74.apart (show IsS74 w0 _ g s0_0 x1001_1 from zi74_2 HI0.out NB0_274.out NB0_280.out) (zR_ HO_5.out) (by decide)) hk (fun _ h => h.2)) (fun _ h => h.1));have n1_ := As_ (Kd.S_mono (Kd.S_keep (IsS74.apartS (show IsS74 w0 _ g s0_0 x1001_1 from zi74_2 HI0.out NB0_274.out NB0_280.out) (zS_ HO_281000.out) (by decide)) hk (fun _ h => h.2)) (fun _ h => h.1));have n2_ := As_ (KeepBut.blk hk (g' := gb274) (o := .cells #[.slice none 0 0,.int .i64 0] 25 (0,0)) (zk_ BK274.out) NB274_0.out (by simp));have n3_ := As_ (KeepBut.blk hk (g' := gb280) (o := .cells #[.slice Ao7 t275.length co7,.int .i64 t278] 25 (0,0)) (zk_ BK280.out) NB280_0.out (by simp));have n4_ := As_ (KeepBut.trans (zkp2 HK.out GW274.out GW280.out) hk (.inl rfl));have n5_ := As_ (hb);have n6_ := As_ (hi);clear HO_5 HO_281000 BK274 BK280 HK HB HI0;revert n0_ n1_ n2_ n3_ n4_ n5_ n6_;intro HO_5 HO_281000 BK274 BK280 HK HB HI0;have hnb46 := NB280_274.out;have hnc46 := NB274_280.out;have hnb47 := NB280_0.out;have hnc47 := NB0_280.out;obtain ⟨hcz48_0,hcz48_1,hfz48_0,hfz48_1⟩ := bk2 BK280.out;have hnb49 := NB274_0.out;have hnc49 := NB0_274.out;obtain ⟨hcz50_0,hcz50_1,hfz50_0,hfz50_1⟩ := bk2 BK274.out))
    refine bodyPost_ret (results_ct rfl _ _ gb274 25 #[.slice Ao7 t275.length co7,.int .i64 t278] (0,0) _ rfl (by (with_reducible repeat first|apply bkN|apply bkD|apply bkA);refine blk_put (cs := #[.slice Ao7 t275.length co7,.int .i64 0]) ?_ 1 _ rfl;(with_reducible repeat first|apply bkN|apply bkD|apply bkA);refine blk_put (cs := #[.slice none 0 0,.int .i64 0]) ?_ 0 _ rfl;(with_reducible repeat first|apply bkN|apply bkD|apply bkA);exact BK274.out) Try.underlying25 rfl (by kernel_rfl)) rfl ?_
    exact ⟨_,_,zE_,by (with_reducible repeat (first|apply Kd.S_alloc|apply Kd.S_drewN|apply Kd.S_drew));exact Kd.S_mono (Kd.S_far (p := ⟨gb274,1,none⟩) (Kd.S_far (p := ⟨gb274,0,none⟩) (Kd.S_types HO_281000.out BK274.out (by decide)) (fun _ hk => hk.2) (.slice Ao7 t275.length co7)) (fun _ hk => hk.2) (.int .i64 t278)) (fun _ hk => hk.1),by (with_reducible repeat (first|apply Kd.R_alloc|apply Kd.R_drewN|apply Kd.R_drew));exact Kd.R_mono (Kd.R_far (p := ⟨gb274,1,none⟩) (Kd.R_far (p := ⟨gb274,0,none⟩) (Kd.R_types HO_5.out BK274.out (by decide)) (fun _ hk => hk.2) (.slice Ao7 t275.length co7)) (fun _ hk => hk.2) (.int .i64 t278)) (fun _ hk => trivial),zi74_2 HI0.out NB0_274.out NB0_280.out,zb3 HB.out (IsS74.ge HI0.out) GE274.out GE280.out,zkp2 HK.out GW274.out GW280.out⟩
   rw [if_pos c27] at H
   have c27b0 : (t294 == 0) = true := beq_iff_eq.mpr c27
   have c27b1 : (t294 != 0) = false := bne_eq_false_iff_eq.mpr c27
   clear c27
   obtain ⟨y296,hy296⟩ : ∃ y_ : List Int,y_ = (([(-1),12] : List Int)) := ⟨_,rfl⟩
   replace H : ((spec_reader_one.f k1 s0_0 t295 y296).bind fun bt299 => (if 0 < (x5_1.length : Int) then (some (t275,t278,(x5_1.set (0 : Int).toNat bt299.1),bt299.2)) else (none))) = some (r1,r2,r3,r4) := zH_ H hy296
   have Ny296 := As_ hy296
   clear hy296
   replace H := obS H
   obtain ⟨⟨t299,t300⟩,A280,H⟩ := H
   replace H : (if 0 < (x5_1.length : Int) then (some (t275,t278,(x5_1.set (0 : Int).toNat t299),t300)) else (none)) = some (r1,r2,r3,r4) := H
   have A28 := As_ A280
   clear A280
   by_cases c29 : 0 < (x5_1.length : Int)
   rotate_left
   ·rw [if_neg c29] at H
    exact absurd H (by simp)
   rw [if_pos c29] at H
   have c29b0 : decide (0 < (x5_1.length : Int)) = true := deT c29
   have c29b1 : decide (0 < x5_1.length) = true := deT (by omega)
   clear c29
   obtain ⟨y301,hy301⟩ : ∃ y_ : List Int,y_ = (x5_1.set (0 : Int).toNat t299) := ⟨_,rfl⟩
   replace H : (some (t275,t278,y301,t300)) = some (r1,r2,r3,r4) := zH_ H hy301
   have Ny301 := As_ hy301
   clear hy301
   simp only [Option.some.injEq,Prod.mk.injEq] at H
   obtain ⟨rfl,rfl,rfl,rfl⟩ := H
   obtain ⟨Ao31,co31,eo31⟩ := Kd.R_slice HO_5.out
   subst eo31
   go_wp2_with (first|(go_at_call 65;(with_reducible refine (spec_reader_pick.calls k1 g s0_0 x1001_1 16 t294 t295 w0 _ ?side1 ?side2 A26.out).mono ?_);(case side1 => exact zi74_2 HI0.out NB0_274.out NB0_280.out);(case side2 => exact zb3 HB.out (IsS74.ge HI0.out) GE274.out GE280.out);rintro e w32 ⟨rfl,hi,hb,hk⟩;have n0_ := As_ (Kd.R_mono (Kd.R_keep (IsS74.apart (show IsS74 w0 _ g s0_0 x1001_1 from zi74_2 HI0.out NB0_274.out NB0_280.out) (zR_ HO_5.out) (by decide)) hk (fun _ h => h.2)) (fun _ h => h.1));have n1_ := As_ (Kd.S_mono (Kd.S_keep (IsS74.apartS (show IsS74 w0 _ g s0_0 x1001_1 from zi74_2 HI0.out NB0_274.out NB0_280.out) (zS_ HO_281000.out) (by decide)) hk (fun _ h => h.2)) (fun _ h => h.1));have n2_ := As_ (KeepBut.blk hk (g' := gb274) (o := .cells #[.slice none 0 0,.int .i64 0] 25 (0,0)) (zk_ BK274.out) NB274_0.out (by simp));have n3_ := As_ (KeepBut.blk hk (g' := gb280) (o := .cells #[.slice Ao7 t275.length co7,.int .i64 t278] 25 (0,0)) (zk_ BK280.out) NB280_0.out (by simp));have n4_ := As_ (KeepBut.trans (zkp2 HK.out GW274.out GW280.out) hk (.inl rfl));have n5_ := As_ (hb);have n6_ := As_ (hi);clear HO_5 HO_281000 BK274 BK280 HK HB HI0;revert n0_ n1_ n2_ n3_ n4_ n5_ n6_;intro HO_5 HO_281000 BK274 BK280 HK HB HI0)|((with_reducible refine gate_dst (N := 35) rfl ?_);refine Kd.R_lit (Kd.int .i64) _ 3 ?hg (N := 35) ?hd (xs := ([(-1),12] : List Int)) (inner := [.int .i64 (-1),.int .i64 12]) (ok := fun _ => True) (okp := fun _ => True) ?hr ?hp (fun _ hk => hk) trivial (Below.refl _ _) (Nat.le_refl _) (by simp) ?_;(case hd => rfl);(case hg => rfl);(case hr => go_simp <;> rfl);(case hp => exact (Reps.one (show Kd.M (Kd.int .i64) _ _ _ (-1) [.int .i64 (-1)] from rfl) (Reps.one (show Kd.M (Kd.int .i64) _ _ _ 12 [.int .i64 12] from rfl) (Reps.none _ _))));intro v297 w33 ho34 hb hg_ hnew_;clear hg_ hnew_;(first|rw [← Ny296.out] at ho34|(simp only [Int.reduceToNat] at ho34;rw [← Ny296.out] at ho34));have n0_ := As_ (Kd.R_elder' (zR_ HO_5.out) (Kd.R_base ho34) hb);have n1_ := As_ (Kd.S_elder' (zS_ HO_281000.out) (Kd.R_base ho34) hb);have n2_ := As_ (Kd.R_lower (Kd.R_new' ho34 (Kd.R_lt (zR_ HO_5.out))) (keep_size (w := w) (g := g) (row := none) (zkp2 HK.out GW274.out GW280.out)));have n3_ := As_ (zkb BK274.out hb);have n4_ := As_ (zkb BK280.out hb);have n5_ := As_ (IsS74.below (zi74_2 HI0.out NB0_274.out NB0_280.out) hb);have n6_ := As_ (KeepBut.trans (zkp2 HK.out GW274.out GW280.out) (KeepBut.of_below hb g none) (.inl rfl));have n7_ := As_ (bwT (zb3 HB.out (IsS74.ge HI0.out) GE274.out GE280.out) hb);clear HO_5 HO_281000 BK274 BK280 HI0 HK HB;revert n0_ n1_ n2_ n3_ n4_ n5_ n6_ n7_;intro HO_5 HO_281000 HO298 BK274 BK280 HI0 HK HB;clear hb ho34;obtain ⟨Ao35,co35,eo35⟩ := Kd.R_slice HO298.out;subst eo35)|((with_reducible refine gate_callee (f := 67) rfl ?_);refine goesL_ (some 36) rfl rfl Try.func67 (by kernel_rfl) rfl #[.pointer (some ⟨g,0,none⟩),.slice Ao35 y296.length co35] rfl zM_ ?_;(with_reducible refine (spec_reader_one.calls k1 g s0_0 t295 _ _ y296 t299 t300 w0 _ ?side1 ?side2 ?side3 ?side4 ?side5 A28.out).mono ?_);(case side1 => exact zi74_2 HI0.out NB0_274.out NB0_280.out);(case side2 => exact zb3 HB.out (IsS74.ge HI0.out) GE274.out GE280.out);(case side3 => exact zC_ (Kd.R_reads' HO298.out).2.2);(case side4 => exact (Kd.R_reads' HO298.out).2.1);(case side5 => exact far_slice (IsS74.own_ne HI0.out HO298.out (by decide)));rintro e w36 ⟨rfl,hi,hb,hk⟩;refine ⟨_,rfl,?_⟩;have n0_ := As_ (Kd.R_mono (Kd.R_keep (IsS74.apart (show IsS74 w0 _ g s0_0 t295 from zi74_2 HI0.out NB0_274.out NB0_280.out) (zR_ HO_5.out) (by decide)) hk (fun _ h => h.2)) (fun _ h => h.1));have n1_ := As_ (Kd.S_mono (Kd.S_keep (IsS74.apartS (show IsS74 w0 _ g s0_0 t295 from zi74_2 HI0.out NB0_274.out NB0_280.out) (zS_ HO_281000.out) (by decide)) hk (fun _ h => h.2)) (fun _ h => h.1));have n2_ := As_ (KeepBut.blk hk (g' := gb274) (o := .cells #[.slice none 0 0,.int .i64 0] 25 (0,0)) (zk_ BK274.out) NB274_0.out (by simp));have n3_ := As_ (KeepBut.blk hk (g' := gb280) (o := .cells #[.slice Ao7 t275.length co7,.int .i64 t278] 25 (0,0)) (zk_ BK280.out) NB280_0.out (by simp));have n4_ := As_ (Kd.R_mono (Kd.R_keep (IsS74.apart (show IsS74 w0 _ g s0_0 t295 from zi74_2 HI0.out NB0_274.out NB0_280.out) (zR_ HO298.out) (by decide)) hk (fun _ h => h.2)) (fun _ h => h.1));have n5_ := As_ (KeepBut.trans (zkp2 HK.out GW274.out GW280.out) hk (.inl rfl));have n6_ := As_ (hb);have n7_ := As_ (hi);clear HO_5 HO_281000 BK274 BK280 HO298 HK HB HI0;revert n0_ n1_ n2_ n3_ n4_ n5_ n6_ n7_;intro HO_5 HO_281000 BK274 BK280 HO298 HK HB HI0;have p30 : 0 ≤ (0 : Int) := (by omega);have q30 : (0 : Int) < ((x5_1.length : Int) : Int) := odT zA_;have qi30 : (0 < x5_1.length) = True := eq_true (by omega);obtain ⟨go30,co30,eo30,gb30,gl30,cl30,HG30⟩ := Kd.R_form HO_5.out (by omega);(first|cases eo30|(injection eo30 with ea_ en_ ec_;(first|subst ea_|(injection ea_ with ea_;subst ea_));subst ec_;clear en_));have GB30 := As_ gb30;have GG30 := As_ HG30;clear gb30 gl30 HG30;obtain ⟨hx30_0,hf30_0⟩ := Kd.R_celln 0 HO_5.out (0 : Int) p30 q30;(try rw [show ((0 : Int)).toNat = 0 from rfl] at hx30_0);(try simp only [Nat.reduceMul,Nat.zero_mul,Nat.zero_add,Nat.reduceAdd] at hx30_0);(try rw [show ((0 : Int)).toNat = 0 from rfl] at hf30_0);(try simp only [Nat.reduceMul,Nat.zero_mul,Nat.zero_add,Nat.reduceAdd] at hf30_0);replace p30 := eq_true p30;replace q30 := eq_true q30;have n_ := As_ (Kd.R_mono (ok' := (fun k_ => some k_ ≠ (.slice Ao35 y296.length co35 : Value).ownBlock)) HO_5.out (fun k_ hk => hk.2));clear HO_5;have HO_5 := n_;clear n_;obtain ⟨hy37_,hz37_⟩ := Kd.R_celln 0 HO_5.out (0 : Int) (by omega) (odT zA_);(try simp only [Int.reduceToNat,Int.toNat_zero,Int.toNat_ofNat,Nat.reduceMul,Nat.zero_mul,Nat.zero_add] at hy37_ hz37_);(try rw [show ((0 : Int)).toNat = 0 from rfl] at hy37_);(try rw [show ((0 : Int)).toNat = 0 from rfl] at hz37_);have HP37 := Kd.R_putg HO_5.out (0 : Int) t299)|((with_reducible refine gate_store (t := 3) (p := 37) rfl ?_);refine store_event (t := 3) (p := 37) (v := ?vo_w38) (w1 := (w36.setCell ⟨go30,(0 : Int).toNat,none⟩ (.int .i64 t299))) ?hg ?ho ?hn ?hr ?_;(case ho => rfl);(case hg => rfl);(case hn => rfl);(case hr => go_simp <;> rfl);intro w38 hw;have hg : w36.grownBy w38 (some go30) := (by rw [hw];exact HP37.2);have hp_ : Kd.R (Kd.int .i64) 3 w38 w.heap.size (fun k_ => some k_ ≠ (.slice Ao35 y296.length co35 : Value).ownBlock) (.slice (some ⟨go30,0,none⟩) x5_1.length co31) y301 := (by rw [hw,Ny301.out];exact HP37.1);clear HP37;have n0_ := As_ (hp_);have n1_ := As_ (Kd.S_after (v := (.slice (some ⟨go30,0,none⟩) x5_1.length co31)) (v1 := (.slice (some ⟨go30,0,none⟩) x5_1.length co31)) (ok := (fun k_ => some k_ ≠ (.slice Ao35 y296.length co35 : Value).ownBlock)) (by (with_reducible repeat (first|apply Kd.S_alloc|apply Kd.S_drewN|apply Kd.S_drew));exact Kd.S_mono HO_281000.out (fun _ hk => ⟨hk.2,hk.1⟩)) hg (.inl rfl));have n2_ := As_ (blk_grown (g := gb274) (o := .cells #[.slice none 0 0,.int .i64 0] 25 (0,0)) (zk_ BK274.out) hg (Kd.R_ne HO_5.out BK274.out (by decide)));have n3_ := As_ (blk_grown (g := gb280) (o := .cells #[.slice Ao7 t275.length co7,.int .i64 t278] 25 (0,0)) (zk_ BK280.out) hg (Kd.R_ne HO_5.out BK280.out (by decide)));have n4_ := As_ (IsS74.grown (zi74_2 HI0.out NB0_274.out NB0_280.out) hg (IsS74.own_ne HI0.out HO_5.out (by decide)));have n5_ := As_ (Kd.R_after (v := (.slice (some ⟨go30,0,none⟩) x5_1.length co31)) (v1 := (.slice (some ⟨go30,0,none⟩) x5_1.length co31)) (ok := (fun _ => True)) (zR_ HO298.out) hg (.inl rfl));have n6_ := As_ ((by rw [hw];exact bwS (HB.out) (Nat.le_trans HL.out GB30.out) : Below w0.heap.size w0 w38));have n7_ := As_ (KeepBut.trans (zkp2 HK.out GW274.out GW280.out) (KeepBut.of_grown hg g) (Kd.R_base2 HO_5.out));clear HO_5 HO_281000 BK274 BK280 HI0 HO298 HB HK;revert n0_ n1_ n2_ n3_ n4_ n5_ n6_ n7_;intro HO_5 HO_281000 BK274 BK280 HI0 HO298 HB HK;clear hg hw hp_;have hnb39 := NB280_274.out;have hnc39 := NB274_280.out;have hnb40 := NB280_0.out;have hnc40 := NB0_280.out;obtain ⟨hcz41_0,hcz41_1,hfz41_0,hfz41_1⟩ := bk2 BK280.out;have hnb42 := NB274_0.out;have hnc42 := NB0_274.out;obtain ⟨hcz43_0,hcz43_1,hfz43_0,hfz43_1⟩ := bk2 BK274.out))
   refine bodyPost_ret (results_ct rfl _ _ gb274 25 #[.slice Ao7 t275.length co7,.int .i64 t278] (0,0) _ rfl (by (with_reducible repeat first|apply bkN|apply bkD|apply bkA);refine blk_put (cs := #[.slice Ao7 t275.length co7,.int .i64 0]) ?_ 1 _ rfl;(with_reducible repeat first|apply bkN|apply bkD|apply bkA);refine blk_put (cs := #[.slice none 0 0,.int .i64 0]) ?_ 0 _ rfl;(with_reducible repeat first|apply bkN|apply bkD|apply bkA);exact BK274.out) Try.underlying25 rfl (by kernel_rfl)) rfl ?_
   exact ⟨_,_,zE_,by (with_reducible repeat (first|apply Kd.S_alloc|apply Kd.S_drewN|apply Kd.S_drew));exact Kd.S_mono (Kd.S_far (p := ⟨gb274,1,none⟩) (Kd.S_far (p := ⟨gb274,0,none⟩) (Kd.S_types HO_281000.out BK274.out (by decide)) (fun _ hk => hk.2) (.slice Ao7 t275.length co7)) (fun _ hk => hk.2) (.int .i64 t278)) (fun _ hk => hk.1.2),by (with_reducible repeat (first|apply Kd.R_alloc|apply Kd.R_drewN|apply Kd.R_drew));exact Kd.R_mono (Kd.R_far (p := ⟨gb274,1,none⟩) (Kd.R_far (p := ⟨gb274,0,none⟩) (Kd.R_types HO_5.out BK274.out (by decide)) (fun _ hk => hk.2) (.slice Ao7 t275.length co7)) (fun _ hk => hk.2) (.int .i64 t278)) (fun _ hk => trivial),zi74_2 HI0.out NB0_274.out NB0_280.out,zb3 HB.out (IsS74.ge HI0.out) GE274.out GE280.out,zkp2 HK.out GW274.out GW280.out⟩
/-! ### spec_DrawCodeMany: function 11 -/
def spec_DrawCodeMany.f (k : Nat) (l0 : List Int) : Option ((List (S58)) × Int × List Int) := (spec_newReader.f l0).bind fun bt306 => ((spec_rootsOf.f k bt306.1 bt306.2).bind fun bt309 => (some (bt309.1,bt309.2.1,bt309.2.2.1)))
set_option maxRecDepth 100000 in
theorem spec_DrawCodeMany.mono : ∀ a0 k,LeO (spec_DrawCodeMany.f k a0) (spec_DrawCodeMany.f (k + 1) a0) := by
 intro a0 k
 unfold spec_DrawCodeMany.f
 repeat' first
   | (with_reducible exact spec_rootsOf.mono _ _ _)
   | (with_reducible exact LeO.refl _)
   | (with_reducible exact LeO.none _)
   | (with_reducible refine LeO.ite ?_ ?_)
   | (with_reducible refine LeO.bind ?_ (fun _ => ?_))
   | exact spec_rootsOf.mono _ _ _
   | exact LeO.none _
   | refine LeO.ite ?_ ?_
   | refine LeO.bind ?_ (fun _ => ?_)
set_option maxHeartbeats 8000000 in
set_option maxRecDepth 100000 in
theorem spec_DrawCodeMany.calls (k : Nat) (A0 : Option Addr) (c0 : Nat) (l0 : List Int) (r1 : List (S58)) (r2 : Int) (r3 : List Int) (w : World) (hr0 : Kd.C (Kd.int .u8) w A0 l0.length l0) (hc0 : l0.length ≤ c0) (h : spec_DrawCodeMany.f k l0 = some (r1,r2,r3)) :
  Calls Try.prog 11 #[.slice A0 l0.length c0] w fun e w' => ∃ v0_ v2_ : Value,e = .returned (.tuple #[.agg #[v0_,.int .i64 r2],v2_]) ∧ Kd.S k58 58 w' w.heap.size (fun k_ => some k_ ≠ (v2_ : Value).ownBlock) v0_ r1 ∧ Kd.R (Kd.int .i64) 3 w' w.heap.size (fun _ => True) v2_ r3 ∧ Below w.heap.size w w' := by
 have hu25 := Try.underlying25
 have HR0 := As_ hr0
 have HC0 := As_ hc0
 clear hr0 hc0
 have HB := As_ (Below.refl w.heap.size w)
 have H : ((spec_newReader.f l0).bind fun bt306 => ((spec_rootsOf.f k bt306.1 bt306.2).bind fun bt309 => (some (bt309.1,bt309.2.1,bt309.2.2.1)))) = some (r1,r2,r3) := h
 clear h
 replace H := obS H
 obtain ⟨⟨t306,t307⟩,A20,H⟩ := H
 replace H : ((spec_rootsOf.f k t306 t307).bind fun bt309 => (some (bt309.1,bt309.2.1,bt309.2.2.1))) = some (r1,r2,r3) := H
 have A2 := As_ A20
 clear A20
 replace H := obS H
 obtain ⟨⟨t309,t312,t313,t316⟩,A30,H⟩ := H
 replace H : (some (t309,t312,t313)) = some (r1,r2,r3) := H
 have A3 := As_ A30
 clear A30
 simp only [Option.some.injEq,Prod.mk.injEq] at H
 obtain ⟨rfl,rfl,rfl⟩ := H
 go_enter Try.func11,Try.ntmps11
 go_wp2_with (first|((with_reducible refine gate_dst (N := 2) rfl ?_);refine box_event ?hg (N := 2) ?hd (cs := #[.slice none 0 0,.int .i64 0]) (t := 25) ?hr ?_;(case hd => rfl);(case hg => rfl);(case hr => go_simp <;> rfl);intro gb305 hg w4 hbox hb;have n0_ := As_ (bwT (zb0 HB.out) hb);have n1_ := As_ (hbox);have n2_ := As_ ((by rw [hg];exact (bwZ (zb0 HB.out)) : w.heap.size ≤ gb305));have n3_ := As_ ((by rw [hg];exact (bwZ (zb0 HB.out)) : w.heap.size ≤ gb305));clear HB;revert n0_ n1_ n2_ n3_;intro HB BK305 GW305 GE305;clear hb hbox hg)|((with_reducible refine gate_callee (f := 40) rfl ?_);refine goesL_ (some 5) rfl rfl Try.func40 (by kernel_rfl) rfl #[.slice A0 l0.length c0] rfl zM_ ?_;(with_reducible refine (spec_newReader.calls _ _ l0 t306 t307 w _ ?side1 ?side2 ?side3 A2.out).mono ?_);(case side1 => exact zb1 HB.out GE305.out);(case side2 => exact HR0.out);(case side3 => exact HC0.out);rintro e w5 ⟨g308,rfl,hi,hb,hb2⟩;refine ⟨_,rfl,?_⟩;have n0_ := As_ (zkb BK305.out hb2);have n1_ := As_ (hb);have n2_ := As_ (hi);have n3_ := As_ (IsS74.ne_blk hi (zkb BK305.out hb2) (by decide));have n4_ := As_ (Ne.symm (IsS74.ne_blk hi (zkb BK305.out hb2) (by decide)));clear BK305 HB;revert n0_ n1_ n2_ n3_ n4_;intro BK305 HB HI308 NB308_305 NB305_308)|((with_reducible refine gate_callee (f := 39) rfl ?_);refine goesL_ (some 6) rfl rfl Try.func39 (by kernel_rfl) rfl #[.pointer (some ⟨g308,0,none⟩)] rfl zM_ ?_;(with_reducible refine (spec_rootsOf.calls k g308 t306 t307 t309 t312 t313 t316 w _ ?side1 ?side2 A3.out).mono ?_);(case side1 => exact zi74_1 HI308.out NB308_305.out);(case side2 => exact zb2 HB.out (IsS74.ge HI308.out) GE305.out);rintro e w6 ⟨v310,v314,rfl,ho0,ho1,hi,hb,hk⟩;refine ⟨_,rfl,?_⟩;have n0_ := As_ (KeepBut.blk hk (g' := gb305) (o := .cells #[.slice none 0 0,.int .i64 0] 25 (0,0)) (zk_ BK305.out) NB305_308.out (by simp));have n1_ := As_ (Kd.S_lower ho0 (bwZ (zb2 HB.out (IsS74.ge HI308.out) GE305.out)));have n2_ := As_ (Kd.R_lower ho1 (bwZ (zb2 HB.out (IsS74.ge HI308.out) GE305.out)));have n3_ := As_ (hb);have n4_ := As_ (hi);clear BK305 HB HI308;revert n0_ n1_ n2_ n3_ n4_;intro BK305 HO311 HO315 HB HI308;obtain ⟨Ao7,co7,eo7⟩ := Kd.S_slice HO311.out;subst eo7;have hnb8 := NB305_308.out;have hnc8 := NB308_305.out;obtain ⟨hcz9_0,hcz9_1,hfz9_0,hfz9_1⟩ := bk2 BK305.out))
 refine bodyPost_ret (results_ct rfl _ _ gb305 25 #[.slice Ao7 t309.length co7,.int .i64 t312] (0,0) _ rfl (by (with_reducible repeat first|apply bkN|apply bkD|apply bkA);refine blk_put (cs := #[.slice Ao7 t309.length co7,.int .i64 0]) ?_ 1 _ rfl;(with_reducible repeat first|apply bkN|apply bkD|apply bkA);refine blk_put (cs := #[.slice none 0 0,.int .i64 0]) ?_ 0 _ rfl;(with_reducible repeat first|apply bkN|apply bkD|apply bkA);exact BK305.out) Try.underlying25 rfl (by kernel_rfl)) rfl ?_
 exact ⟨_,_,zE_,by (with_reducible repeat (first|apply Kd.S_alloc|apply Kd.S_drewN|apply Kd.S_drew));exact Kd.S_mono (Kd.S_far (p := ⟨gb305,1,none⟩) (Kd.S_far (p := ⟨gb305,0,none⟩) (Kd.S_types HO311.out BK305.out (by decide)) (fun _ hk => hk.2) (.slice Ao7 t309.length co7)) (fun _ hk => hk.2) (.int .i64 t312)) (fun _ hk => hk.1),by (with_reducible repeat (first|apply Kd.R_alloc|apply Kd.R_drewN|apply Kd.R_drew));exact Kd.R_mono (Kd.R_far (p := ⟨gb305,1,none⟩) (Kd.R_far (p := ⟨gb305,0,none⟩) (Kd.R_types HO315.out BK305.out (by decide)) (fun _ hk => hk.2) (.slice Ao7 t309.length co7)) (fun _ hk => hk.2) (.int .i64 t312)) (fun _ hk => trivial),zb2 HB.out (IsS74.ge HI308.out) GE305.out⟩

end Go.Proofs.Ytapaegcombfafaa.Q
