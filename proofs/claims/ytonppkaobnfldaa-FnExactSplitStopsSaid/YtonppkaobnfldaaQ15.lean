-- Written by wip/tools/qprint.py (a program of this claim's author) by means of the kit's printer.
import Derived.Test.YtonppkaobnfldaaQ0
import Derived.Test.YtonppkaobnfldaaQ77
namespace Go.Proofs.Ytonppkaobnfldaa.Q
open Go.RowKit Go.Proofs.YtonppkaobnfldaaW.PrintWords Go.Proofs.YtonppkaobnfldaaW.PrintLast Go.Proofs.YtonppkaobnfldaaW.PrintMore
attribute [local go_sem] max2_int min2_int max_two min_two max_three min_three max_four min_four   -- for this text's walks alone
set_option linter.unusedVariables false
set_option linter.unusedSimpArgs false

/-! ### laws_szOpS: function 15 -/
def laws_szOpS.f (l0 : List (S51)) (a1 : Int) : Option (Int) := if (wrap64 (a1 - (l0.length : Int))) < 0 then (some (-1)) else (some (wrap64 (a1 - (l0.length : Int))))
set_option maxHeartbeats 8000000 in
set_option maxRecDepth 100000 in
theorem laws_szOpS.calls (A0 : Option Addr) (c0 : Nat) (l0 : List (S51)) (a1 : Int) (r : Int) (w : World) (hr0 : Kd.C k51 w A0 l0.length l0) (hc0 : l0.length ≤ c0) (h : laws_szOpS.f l0 a1 = some r) :
    Calls Try.prog 15 #[.slice A0 l0.length c0, .int .i64 a1] w fun e w' => e = .returned (.int .i64 r) ∧ Drawn0 w w' := by
  have HR0 := As_ hr0
  have HC0 := As_ hc0
  clear hr0 hc0
  have H : (if (wrap64 (a1 - (l0.length : Int))) < 0 then (some (-1)) else (some (wrap64 (a1 - (l0.length : Int))))) = some r := h
  clear h
  by_cases c3 : (wrap64 (a1 - (l0.length : Int))) < 0
  · rw [if_pos c3] at H
    have c3b0 : decide ((wrap64 (a1 - (l0.length : Int))) < 0) = true := deT c3
    clear c3
    obtain rfl := Option.some.inj H
    go_enter Try.func15, Try.ntmps15
    go_wp2
    go_ret
    exact ⟨by first | rfl | (simp; done) | (simp [*]; done), by repeat (first | exact Drawn0.refl _ | apply Drawn0.step)⟩
  · rw [if_neg c3] at H
    have c3b0 : decide ((wrap64 (a1 - (l0.length : Int))) < 0) = false := deF c3
    clear c3
    obtain rfl := Option.some.inj H
    go_enter Try.func15, Try.ntmps15
    go_wp2
    go_ret
    exact ⟨by first | rfl | (simp; done) | (simp [*]; done), by repeat (first | exact Drawn0.refl _ | apply Drawn0.step)⟩

/-! ### spec_validOps: function 51 -/
def spec_validOps.l0 : Nat → List (S49) → Int → Option (Bool)
 | 0,_,_ => none
 | k + 1,x0,x3 => if x3 < (x0.length : Int) then (if 0 ≤ x3 then ((spec_validOp.f ((rd_T49 x0 x3).f0) ((rd_T49 x0 x3).f1)).bind fun t107 => (if t107 = true then (spec_validOps.l0 k x0 (wrap64 (x3 + 1))) else (some false))) else (none)) else (some (decide ((x0.length : Int) ≤ 300)))
def spec_validOps.f (k : Nat) (l0 : List (S49)) : Option (Bool) := spec_validOps.l0 k l0 0
set_option maxRecDepth 100000 in
theorem spec_validOps.mono_l : ∀ k,(∀ y0 y1,LeO (spec_validOps.l0 k y0 y1) (spec_validOps.l0 (k + 1) y0 y1))
 | 0 => fun _ _ r h => (by cases h)
 | k + 1 => by
  have ih0 := spec_validOps.mono_l k
  ·intro y0 y1
   unfold spec_validOps.l0
   repeat' first
   | (with_reducible exact ih0 _ _)
   | (with_reducible exact LeO.refl _)
   | (with_reducible exact LeO.none _)
   | (with_reducible refine LeO.ite ?_ ?_)
   | (with_reducible refine LeO.bind ?_ (fun _ => ?_))
   | exact ih0 _ _
   | exact LeO.none _
   | refine LeO.ite ?_ ?_
   | refine LeO.bind ?_ (fun _ => ?_)
set_option maxRecDepth 100000 in
theorem spec_validOps.mono : ∀ a0 k,LeO (spec_validOps.f k a0) (spec_validOps.f (k + 1) a0) := by
 intro a0 k
 have ih0 := spec_validOps.mono_l k
 unfold spec_validOps.f
 repeat' first
   | (with_reducible exact ih0 _ _)
   | (with_reducible exact LeO.refl _)
   | (with_reducible exact LeO.none _)
   | (with_reducible refine LeO.ite ?_ ?_)
   | (with_reducible refine LeO.bind ?_ (fun _ => ?_))
   | exact ih0 _ _
   | exact LeO.none _
   | refine LeO.ite ?_ ?_
   | refine LeO.bind ?_ (fun _ => ?_)
set_option maxHeartbeats 8000000 in
set_option maxRecDepth 100000 in
theorem spec_validOps.calls (k : Nat) (A0 : Option Addr) (c0 : Nat) (l0 : List (S49)) (r : Bool) (w : World) (hr0 : Kd.C k49 w A0 l0.length l0) (hc0 : l0.length ≤ c0) (h : spec_validOps.f k l0 = some r) :
  Calls Try.prog 51 #[.slice A0 l0.length c0] w fun e w' => e = .returned (.bool r) ∧ Below w.heap.size w w' := by
 have hu49 := Try.underlying49
 have HR0 := As_ hr0
 have HC0 := As_ hc0
 clear hr0 hc0
 have HB := As_ (Below.refl w.heap.size w)
 have H : (spec_validOps.l0 k l0 0) = some r := h
 clear h
 have H' := As_ H
 clear H
 go_enter Try.func51,Try.ntmps51
 go_wp2
 go_loopg [3] k (fun kq v3 w' => ∃ (x3_1 : Int),v3 = .int .i64 x3_1 ∧ Aside0 (spec_validOps.l0 kq l0 x3_1 = some r) ∧ Aside0 (kq ≤ k) ∧ Aside0 (Below w.heap.size w w'))
 case atStart => exact ⟨(0),zT_,H',⟨Nat.le_refl _⟩,⟨zb0 HB.out⟩⟩
 case round =>
  clear H'
  obtain ⟨x3_1,rfl,HA,HK1,HB⟩ := hrel
  cases gk with
  | zero => exact absurd HA.out (fun h_ => (by cases h_))
  | succ k1 =>
   have H := HA.out
   clear HA
   simp only [spec_validOps.l0] at H
   by_cases c2 : x3_1 < (l0.length : Int)
   rotate_left
   ·rw [if_neg c2] at H
    have c2b0 : decide (x3_1 < (l0.length : Int)) = false := deF c2
    clear c2
    obtain rfl := Option.some.inj H
    go_wp2
    go_ret
    exact ⟨zE_,zb0 HB.out⟩

   rw [if_pos c2] at H
   have c2b0 : decide (x3_1 < (l0.length : Int)) = true := deT c2
   clear c2
   by_cases c3 : 0 ≤ x3_1
   rotate_left
   ·rw [if_neg c3] at H
    exact absurd H (by simp)
   rw [if_pos c3] at H
   have c3b0 : decide (0 ≤ x3_1) = true := deT c3
   clear c3
   replace H := obS H
   obtain ⟨t107,A40,H⟩ := H
   replace H : (if t107 = true then (spec_validOps.l0 k1 l0 (wrap64 (x3_1 + 1))) else (some false)) = some r := H
   have A4 := As_ A40
   clear A40
   by_cases c5 : t107 = true
   rotate_left
   ·replace c5 := Bool.eq_false_iff.mpr c5
    subst c5
    have H1 : (some false) = some r := by rw [if_neg (show ¬ (false = true) by decide)] at H;exact H
    clear H
    have H := H1
    clear H1
    obtain rfl := Option.some.inj H
    have p106 : 0 ≤ (x3_1 : Int) := odT zA_
    have q106 : x3_1 < (l0.length : Int) := odT zA_
    obtain ⟨ad106,e106,hx106_0,hx106_1⟩ := at_T49 HR0.out x3_1 p106 q106
    cases e106
    replace hx106_0 := bwC HB.out hx106_0
    replace hx106_1 := bwC HB.out hx106_1
    replace p106 := eq_true p106
    replace q106 := eq_true q106
    go_wp2_with (first|((with_reducible refine gate_callee (f := 73) rfl ?_);refine goesL_ (some 14) rfl rfl Try.func73 (by kernel_rfl) rfl #[.agg #[.int .i64 ((rd_T49 l0 x3_1).f0),.int .i64 ((rd_T49 l0 x3_1).f1)]] rfl zM_ ?_;(with_reducible refine (spec_validOp.calls ((rd_T49 l0 x3_1).f0) ((rd_T49 l0 x3_1).f1) false _ A4.out).mono ?_);rintro e w7 ⟨rfl,hb⟩;refine ⟨_,rfl,?_⟩;have n0_ := As_ (bwT (zb0 HB.out) hb);clear HB;revert n0_;intro HB))
    go_ret
    exact ⟨zE_,zb0 HB.out⟩
   subst c5
   have H1 : (spec_validOps.l0 k1 l0 (wrap64 (x3_1 + 1))) = some r := by rw [if_pos rfl] at H;exact H
   clear H
   have H := H1
   clear H1
   have H' := As_ H
   clear H
   have p106 : 0 ≤ (x3_1 : Int) := odT zA_
   have q106 : x3_1 < (l0.length : Int) := odT zA_
   obtain ⟨ad106,e106,hx106_0,hx106_1⟩ := at_T49 HR0.out x3_1 p106 q106
   cases e106
   replace hx106_0 := bwC HB.out hx106_0
   replace hx106_1 := bwC HB.out hx106_1
   replace p106 := eq_true p106
   replace q106 := eq_true q106
   go_wp2_with (first|((with_reducible refine gate_callee (f := 73) rfl ?_);refine goesL_ (some 14) rfl rfl Try.func73 (by kernel_rfl) rfl #[.agg #[.int .i64 ((rd_T49 l0 x3_1).f0),.int .i64 ((rd_T49 l0 x3_1).f1)]] rfl zM_ ?_;(with_reducible refine (spec_validOp.calls ((rd_T49 l0 x3_1).f0) ((rd_T49 l0 x3_1).f1) true _ A4.out).mono ?_);rintro e w6 ⟨rfl,hb⟩;refine ⟨_,rfl,?_⟩;have n0_ := As_ (bwT (zb0 HB.out) hb);clear HB;revert n0_;intro HB))
   go_roundg k1
   case measure => have := HK1.out;omega
   case rel => exact ⟨(wrap64 (x3_1 + 1)),zT_,H',⟨by have := HK1.out;omega⟩,⟨zb0 HB.out⟩⟩
/-! ### laws_toOp: function 52 -/
def laws_toOp.f (a0_0 : Int) (a0_1 : Int) : Option (Int × Int) := some (a0_0,a0_1)
set_option maxHeartbeats 8000000 in
set_option maxRecDepth 100000 in
theorem laws_toOp.calls (a0_0 : Int) (a0_1 : Int) (r1 : Int) (r2 : Int) (w : World) (h : laws_toOp.f a0_0 a0_1 = some (r1,r2)) :
  Calls Try.prog 52 #[.agg #[.int .i64 a0_0,.int .i64 a0_1]] w fun e w' => e = .returned (.agg #[.int .i64 r1,.int .i64 r2]) ∧ Below w.heap.size w w' := by
 have hu51 := Try.underlying51
 have hu49 := Try.underlying49
 have HB := As_ (Below.refl w.heap.size w)
 have H : (some (a0_0,a0_1)) = some (r1,r2) := h
 clear h
 simp only [Option.some.injEq,Prod.mk.injEq] at H
 obtain ⟨rfl,rfl⟩ := H
 go_enter Try.func52,Try.ntmps52
 go_wp2_with (first|((with_reducible refine gate_dst (N := 1) rfl ?_);refine box_event ?hg (N := 1) ?hd (cs := #[.int .i64 a0_0,.int .i64 a0_1]) (t := 51) ?hr ?_;(case hd => rfl);(case hg => rfl);(case hr => go_simp <;> rfl);intro gb109 hg w2 hbox hb;have n0_ := As_ (bwT (zb0 HB.out) hb);have n1_ := As_ (hbox);have n2_ := As_ ((by rw [hg];exact (bwZ (zb0 HB.out)) : w.heap.size ≤ gb109));have n3_ := As_ ((by rw [hg];exact (bwZ (zb0 HB.out)) : w.heap.size ≤ gb109));clear HB;revert n0_ n1_ n2_ n3_;intro HB BK109 GW109 GE109;clear hb hbox hg)|((with_reducible refine gate_dst (N := 2) rfl ?_);refine box_event ?hg (N := 2) ?hd (cs := #[.int .i64 0,.int .i64 0]) (t := 49) ?hr ?_;(case hd => rfl);(case hg => rfl);(case hr => go_simp <;> rfl);intro gb110 hg w3 hbox hb;have n0_ := As_ (zkb BK109.out hb);have n1_ := As_ (bwT (zb1 HB.out GE109.out) hb);have n2_ := As_ (hbox);have n3_ := As_ ((by rw [hg];exact (bwZ (zb1 HB.out GE109.out)) : w.heap.size ≤ gb110));have n4_ := As_ ((by rw [hg];exact (bwZ (zb1 HB.out GE109.out)) : w.heap.size ≤ gb110));have n5_ := As_ ((by rw [hg];exact Nat.ne_of_lt (zkl BK109.out) : gb109 ≠ gb110));have n6_ := As_ ((by rw [hg];exact Nat.ne_of_gt (zkl BK109.out) : gb110 ≠ gb109));clear BK109 HB;revert n0_ n1_ n2_ n3_ n4_ n5_ n6_;intro BK109 HB BK110 GW110 GE110 NB109_110 NB110_109;clear hb hbox hg)|((with_reducible refine gate_dst (N := 3) rfl ?_);refine box_event ?hg (N := 3) ?hd (cs := #[.int .i64 0,.int .i64 0]) (t := 49) ?hr ?_;(case hd => rfl);(case hg => rfl);(case hr => go_simp <;> rfl);intro gb111 hg w4 hbox hb;have n0_ := As_ (zkb BK109.out hb);have n1_ := As_ (zkb BK110.out hb);have n2_ := As_ (bwT (zb2 HB.out GE109.out GE110.out) hb);have n3_ := As_ (hbox);have n4_ := As_ ((by rw [hg];exact (bwZ (zb2 HB.out GE109.out GE110.out)) : w.heap.size ≤ gb111));have n5_ := As_ ((by rw [hg];exact (bwZ (zb2 HB.out GE109.out GE110.out)) : w.heap.size ≤ gb111));have n6_ := As_ ((by rw [hg];exact Nat.ne_of_lt (zkl BK109.out) : gb109 ≠ gb111));have n7_ := As_ ((by rw [hg];exact Nat.ne_of_gt (zkl BK109.out) : gb111 ≠ gb109));have n8_ := As_ ((by rw [hg];exact Nat.ne_of_lt (zkl BK110.out) : gb110 ≠ gb111));have n9_ := As_ ((by rw [hg];exact Nat.ne_of_gt (zkl BK110.out) : gb111 ≠ gb110));clear BK109 BK110 HB;revert n0_ n1_ n2_ n3_ n4_ n5_ n6_ n7_ n8_ n9_;intro BK109 BK110 HB BK111 GW111 GE111 NB109_111 NB111_109 NB110_111 NB111_110;clear hb hbox hg;have hnb5 := NB109_110.out;have hnc5 := NB110_109.out;have hnb6 := NB109_111.out;have hnc6 := NB111_109.out;obtain ⟨hcz7_0,hcz7_1,hfz7_0,hfz7_1⟩ := bk2 BK109.out;have hnb8 := NB111_110.out;have hnc8 := NB110_111.out;obtain ⟨hcz9_0,hcz9_1,hfz9_0,hfz9_1⟩ := bk2 BK111.out;obtain ⟨hcz10_0,hcz10_1,hfz10_0,hfz10_1⟩ := bk2 BK110.out))
 refine bodyPost_ret (results_cell_row rfl _ _ gb110 49 #[.int .i64 a0_0,.int .i64 a0_1] (0,0) _ rfl (by (with_reducible repeat first|apply bkN|apply bkD|apply bkA);refine blk_put (cs := #[.int .i64 a0_0,.int .i64 0]) ?_ 1 _ rfl;(with_reducible repeat first|apply bkN|apply bkD|apply bkA);refine blk_put (cs := #[.int .i64 0,.int .i64 0]) ?_ 0 _ rfl;(with_reducible repeat first|apply bkN|apply bkD|apply bkA);refine blk_far ?_ NB110_111.out _;(with_reducible repeat first|apply bkN|apply bkD|apply bkA);refine blk_far ?_ NB110_111.out _;(with_reducible repeat first|apply bkN|apply bkD|apply bkA);exact BK110.out) Try.underlying49 rfl (by kernel_rfl)) rfl ?_
 exact ⟨zE_,zb3 HB.out GE109.out GE110.out GE111.out⟩

/-! ### laws_toOpS: function 17 -/
def laws_toOpS.l0 : Nat → List (S51) → List (S49) → Int → Option ((List (S49)))
 | 0,_,_,_ => none
 | k + 1,x0,x3,x4 => if x4 < (x0.length : Int) then (if 0 ≤ x4 then ((laws_toOp.f ((rd_T51 x0 x4).f0) ((rd_T51 x0 x4).f1)).bind fun bt116 => (if x4 < (x3.length : Int) then (laws_toOpS.l0 k x0 (x3.set (x4 : Int).toNat (⟨bt116.1,bt116.2⟩ : S49)) (wrap64 (x4 + 1))) else (none))) else (none)) else (some x3)
def laws_toOpS.f (k : Nat) (l0 : List (S51)) : Option ((List (S49))) := if 0 ≤ (l0.length : Int) then (if ((l0.length : Int) : Int).toNat ≤ 17592186044416 then (laws_toOpS.l0 k l0 (List.replicate ((l0.length : Int) : Int).toNat z49) 0) else (none)) else (none)
set_option maxRecDepth 100000 in
theorem laws_toOpS.mono_l : ∀ k,(∀ y0 y1 y2,LeO (laws_toOpS.l0 k y0 y1 y2) (laws_toOpS.l0 (k + 1) y0 y1 y2))
 | 0 => fun _ _ _ r h => (by cases h)
 | k + 1 => by
  have ih0 := laws_toOpS.mono_l k
  ·intro y0 y1 y2
   unfold laws_toOpS.l0
   repeat' first
   | (with_reducible exact ih0 _ _ _)
   | (with_reducible exact LeO.refl _)
   | (with_reducible exact LeO.none _)
   | (with_reducible refine LeO.ite ?_ ?_)
   | (with_reducible refine LeO.bind ?_ (fun _ => ?_))
   | exact ih0 _ _ _
   | exact LeO.none _
   | refine LeO.ite ?_ ?_
   | refine LeO.bind ?_ (fun _ => ?_)
set_option maxRecDepth 100000 in
theorem laws_toOpS.mono : ∀ a0 k,LeO (laws_toOpS.f k a0) (laws_toOpS.f (k + 1) a0) := by
 intro a0 k
 have ih0 := laws_toOpS.mono_l k
 unfold laws_toOpS.f
 repeat' first
   | (with_reducible exact ih0 _ _ _)
   | (with_reducible exact LeO.refl _)
   | (with_reducible exact LeO.none _)
   | (with_reducible refine LeO.ite ?_ ?_)
   | (with_reducible refine LeO.bind ?_ (fun _ => ?_))
   | exact ih0 _ _ _
   | exact LeO.none _
   | refine LeO.ite ?_ ?_
   | refine LeO.bind ?_ (fun _ => ?_)
set_option maxHeartbeats 8000000 in
set_option maxRecDepth 100000 in
theorem laws_toOpS.calls (k : Nat) (A0 : Option Addr) (c0 : Nat) (l0 : List (S51)) (r : List (S49)) (w : World) (hr0 : Kd.C k51 w A0 l0.length l0) (hc0 : l0.length ≤ c0) (h : laws_toOpS.f k l0 = some r) :
  Calls Try.prog 17 #[.slice A0 l0.length c0] w fun e w' => ∃ v0_ : Value,e = .returned (v0_) ∧ Kd.R k49 49 w' w.heap.size (fun _ => True) v0_ r ∧ Below w.heap.size w w' := by
 have hu51 := Try.underlying51
 have hu49 := Try.underlying49
 have HR0 := As_ hr0
 have HC0 := As_ hc0
 clear hr0 hc0
 have HB := As_ (Below.refl w.heap.size w)
 have H : (if 0 ≤ (l0.length : Int) then (if ((l0.length : Int) : Int).toNat ≤ 17592186044416 then (laws_toOpS.l0 k l0 (List.replicate ((l0.length : Int) : Int).toNat z49) 0) else (none)) else (none)) = some r := h
 clear h
 by_cases c2 : 0 ≤ (l0.length : Int)
 rotate_left
 ·rw [if_neg c2] at H
  exact absurd H (by simp)
 rw [if_pos c2] at H
 have c2b0 := eq_true c2
 have c2b1 : decide (0 ≤ (l0.length : Int)) = true := deT c2
 clear c2
 by_cases c3 : ((l0.length : Int) : Int).toNat ≤ 17592186044416
 rotate_left
 ·rw [if_neg c3] at H
  exact absurd H (by simp)
 rw [if_pos c3] at H
 have c3b0 := eq_true c3
 have c3b1 : decide (((l0.length : Int) : Int).toNat ≤ 17592186044416) = true := deT c3
 clear c3
 obtain ⟨y112,hy112⟩ : ∃ y_ : List (S49),y_ = (List.replicate ((l0.length : Int) : Int).toNat z49) := ⟨_,rfl⟩
 replace H : (laws_toOpS.l0 k l0 y112 0) = some r := zH_ H hy112
 have Ny112 := As_ hy112
 clear hy112
 have H' := As_ H
 clear H
 go_enter Try.func17,Try.ntmps17
 go_wp2_with (first|((with_reducible refine gate_dst (N := 7) rfl ?_);refine Kd.R_make k49 _ 49 rfl (N := 7) rfl 25 _ _ rfl (l0.length : Int) rfl rfl Try.underlying25 (.agg #[(.int .i64 0),(.int .i64 0)]) 16 info49 rfl (by decide) (by omega) z49 (ok := fun _ => True) (okp := fun _ => True) (k49_mkM _ _ _ z49 ) (fun _ hk => hk) trivial (odT zA_) (Nat.le_trans (Nat.mul_le_mul_right _ (odT zA_ : (l0.length : Int).toNat ≤ 17592186044416)) (by omega)) (Below.refl _ _) (Nat.le_refl _) ?_;intro v113 w4 ho5 hb hg_ hnew_;clear hg_ hnew_;(first|rw [← Ny112.out] at ho5|(simp only [Int.reduceToNat] at ho5;rw [← Ny112.out] at ho5));have n0_ := As_ (Kd.R_lower ho5 (bwZ (zb0 HB.out)));have n1_ := As_ (bwT (zb0 HB.out) hb);clear HB;revert n0_ n1_;intro HO114 HB;clear hb ho5))
 go_loopg [4] k (fun kq v4 w' => ∃ (x3_1 : List (S49)) (x4_1 : Int),v4 = .int .i64 x4_1 ∧ Aside0 (laws_toOpS.l0 kq l0 x3_1 x4_1 = some r) ∧ Aside0 (kq ≤ k) ∧ Aside0 (Kd.R k49 49 w' w.heap.size (fun _ => True) v113 x3_1) ∧ Aside0 (Below w.heap.size w w'))
 case atStart => exact ⟨(y112),(0),zT_,H',⟨Nat.le_refl _⟩,⟨by (with_reducible repeat (first|apply Kd.R_alloc|apply Kd.R_drewN|apply Kd.R_drew));exact HO114.out⟩,⟨zb0 HB.out⟩⟩
 case round =>
  clear H'
  obtain ⟨x3_1,x4_1,rfl,HA,HK1,HO_3,HB⟩ := hrel
  cases gk with
  | zero => exact absurd HA.out (fun h_ => (by cases h_))
  | succ k1 =>
   have H := HA.out
   clear HA
   simp only [laws_toOpS.l0] at H
   by_cases c6 : x4_1 < (l0.length : Int)
   rotate_left
   ·rw [if_neg c6] at H
    have c6b0 : decide (x4_1 < (l0.length : Int)) = false := deF c6
    clear c6
    obtain rfl := Option.some.inj H
    go_wp2
    go_ret
    exact ⟨_,zE_,by (with_reducible repeat (first|apply Kd.R_alloc|apply Kd.R_drewN|apply Kd.R_drew));exact HO_3.out,zb0 HB.out⟩

   rw [if_pos c6] at H
   have c6b0 : decide (x4_1 < (l0.length : Int)) = true := deT c6
   clear c6
   by_cases c7 : 0 ≤ x4_1
   rotate_left
   ·rw [if_neg c7] at H
    exact absurd H (by simp)
   rw [if_pos c7] at H
   have c7b0 : decide (0 ≤ x4_1) = true := deT c7
   clear c7
   replace H := obS H
   obtain ⟨⟨t116,t117⟩,A80,H⟩ := H
   replace H : (if x4_1 < (x3_1.length : Int) then (laws_toOpS.l0 k1 l0 (x3_1.set (x4_1 : Int).toNat (⟨t116,t117⟩ : S49)) (wrap64 (x4_1 + 1))) else (none)) = some r := H
   have A8 := As_ A80
   clear A80
   by_cases c9 : x4_1 < (x3_1.length : Int)
   rotate_left
   ·rw [if_neg c9] at H
    exact absurd H (by simp)
   rw [if_pos c9] at H
   have c9b0 : decide (x4_1 < (x3_1.length : Int)) = true := deT c9
   clear c9
   obtain ⟨y118,hy118⟩ : ∃ y_ : List (S49),y_ = (x3_1.set (x4_1 : Int).toNat (⟨t116,t117⟩ : S49)) := ⟨_,rfl⟩
   replace H : (laws_toOpS.l0 k1 l0 y118 (wrap64 (x4_1 + 1))) = some r := zH_ H hy118
   have Ny118 := As_ hy118
   clear hy118
   have H' := As_ H
   clear H
   have p115 : 0 ≤ (x4_1 : Int) := odT zA_
   have q115 : x4_1 < (l0.length : Int) := odT zA_
   obtain ⟨ad115,e115,hx115_0,hx115_1⟩ := at_T51 HR0.out x4_1 p115 q115
   cases e115
   replace hx115_0 := bwC HB.out hx115_0
   replace hx115_1 := bwC HB.out hx115_1
   replace p115 := eq_true p115
   replace q115 := eq_true q115
   go_wp2_with (first|((with_reducible refine gate_callee (f := 52) rfl ?_);refine goesL_ (some 20) rfl rfl Try.func52 (by kernel_rfl) rfl #[.agg #[.int .i64 ((rd_T51 l0 x4_1).f0),.int .i64 ((rd_T51 l0 x4_1).f1)]] rfl zM_ ?_;(with_reducible refine (laws_toOp.calls ((rd_T51 l0 x4_1).f0) ((rd_T51 l0 x4_1).f1) t116 t117 _ A8.out).mono ?_);rintro e w11 ⟨rfl,hb⟩;refine ⟨_,rfl,?_⟩;have n0_ := As_ (Kd.R_below (zR_ HO_3.out) hb);have n1_ := As_ (bwT (zb0 HB.out) hb);clear HO_3 HB;revert n0_ n1_;intro HO_3 HB;have p10 : 0 ≤ (x4_1 : Int) := odT zA_;have q10 : (x4_1 : Int) < ((x3_1.length : Int) : Int) := odT zA_;obtain ⟨go10,co10,eo10,gb10,gl10,cl10,HG10⟩ := Kd.R_form HO_3.out (by omega);(first|cases eo10|(injection eo10 with ea_ en_ ec_;(first|subst ea_|(injection ea_ with ea_;subst ea_));subst ec_;clear en_));have GB10 := As_ gb10;have GG10 := As_ HG10;clear gb10 gl10 HG10;obtain ⟨ce10,hcl10,hM10,hcc10,hfr10⟩ := Kd.R_elem HO_3.out z49 (x4_1 : Int) p10 q10;obtain rfl := k49_openM hM10;have hx10_0 : w11.cell? ⟨go10,(x4_1 : Int).toNat * 2,none⟩ = some (.int .i64 ((rd_T49 x3_1 x4_1).f0)) := hcc10 0 _ rfl;have hx10_1 : w11.cell? ⟨go10,(x4_1 : Int).toNat * 2 + 1,none⟩ = some (.int .i64 ((rd_T49 x3_1 x4_1).f1)) := hcc10 1 _ rfl;have hf10_0 : w11.frozen? ⟨go10,(x4_1 : Int).toNat * 2,none⟩ = false := hfr10 0;have hf10_1 : w11.frozen? ⟨go10,(x4_1 : Int).toNat * 2 + 1,none⟩ = false := hfr10 1;clear hcl10 hcc10 hfr10 hM10;replace p10 := eq_true p10;replace q10 := eq_true q10;have HX12 := As_ (show Kd.R k49 49 w11 w.heap.size (fun _ => True) (.slice (some ⟨go10,0,none⟩) x3_1.length co10) x3_1 from (zR_ HO_3.out));obtain ⟨ce12,hcl12,hM12,hcc12,hfr12⟩ := Kd.R_elem HX12.out z49 (x4_1 : Int) (odT zA_) (by have h_ : (x4_1 : Int) < ((x3_1.length : Int) : Int) := odT zA_;first|exact h_|(have e_ := (Kd.R_reads' HO_3.out).1;omega)|simpa using h_);obtain rfl := k49_openM hM12;have HP12 := Kd.R_seg HX12.out (x4_1 : Int) (odT zA_) (by have h_ : (x4_1 : Int) < ((x3_1.length : Int) : Int) := odT zA_;first|exact h_|(have e_ := (Kd.R_reads' HO_3.out).1;omega)|simpa using h_) (seg := [.int .i64 t116,.int .i64 t117]) (j := 0) hcl12 hcc12 (show 2 ≤ 2 from by decide) (x' := (⟨t116,t117⟩ : S49)) (k49_mkM _ _ _ (⟨t116,t117⟩ : S49) ) (fun _ hk => hk);have hx12_0 := hcc12 0 _ rfl;(try simp only [show (k49).sz = 2 from rfl,Nat.mul_one,Nat.add_zero] at hx12_0);have hf12_0 := hfr12 0;(try simp only [show (k49).sz = 2 from rfl,Nat.mul_one,Nat.add_zero] at hf12_0);have hx12_1 := hcc12 1 _ rfl;(try simp only [show (k49).sz = 2 from rfl,Nat.mul_one,Nat.add_zero] at hx12_1);have hf12_1 := hfr12 1;(try simp only [show (k49).sz = 2 from rfl,Nat.mul_one,Nat.add_zero] at hf12_1);clear hcl12 hcc12 hfr12 hM12)|((with_reducible refine gate_store (t := 49) (p := 21) rfl ?_);refine store_event (t := 49) (p := 21) (v := ?vo_w13) (w1 := ((w11.setCell ⟨go10,(x4_1 : Int).toNat * 2,none⟩ (.int .i64 t116)).setCell ⟨go10,(x4_1 : Int).toNat * 2 + 1,none⟩ (.int .i64 t117))) ?hg ?ho ?hn ?hr ?_;(case ho => rfl);(case hg => rfl);(case hn => rfl);(case hr => go_simp <;> rfl);intro w13 hw;have hg : w11.grownBy w13 (some go10) := (by rw [hw];exact HP12.2);have hp_ : Kd.R k49 49 w13 w.heap.size (fun _ => True) (.slice (some ⟨go10,0,none⟩) x3_1.length co10) y118 := (by rw [hw,Ny118.out];exact HP12.1);clear HP12;have n0_ := As_ (hp_);have n1_ := As_ ((by rw [hw];exact bwS (bwS (HB.out) GB10.out) GB10.out : Below w.heap.size w w13));clear HO_3 HB;revert n0_ n1_;intro HO_3 HB;clear hg hw hp_))
   go_roundg k1
   case measure => have := HK1.out;omega
   case rel => exact ⟨(y118),(wrap64 (x4_1 + 1)),zT_,H',⟨by have := HK1.out;omega⟩,⟨by (with_reducible repeat (first|apply Kd.R_alloc|apply Kd.R_drewN|apply Kd.R_drew));exact HO_3.out⟩,⟨zb0 HB.out⟩⟩
/-! ### impl_ValidOps: function 18 -/
def impl_ValidOps.l0 : Nat → List (S49) → List (S49) → Int → Int → Option (Bool)
 | 0,_,_,_,_ => none
 | k + 1,x0,x5,x6,x7 => if x7 < x6 then (if 0 ≤ x7 then (if x7 < (x5.length : Int) then ((impl_opOk.f ((rd_T49 x5 x7).f0) ((rd_T49 x5 x7).f1)).bind fun t123 => (if t123 = true then (impl_ValidOps.l0 k x0 x5 x6 (wrap64 (x7 + 1))) else (some false))) else (none)) else (none)) else (some (decide ((x0.length : Int) ≤ 300)))
def impl_ValidOps.f (k : Nat) (l0 : List (S49)) : Option (Bool) := impl_ValidOps.l0 k l0 l0 (l0.length : Int) 0
set_option maxRecDepth 100000 in
theorem impl_ValidOps.mono_l : ∀ k,(∀ y0 y1 y2 y3,LeO (impl_ValidOps.l0 k y0 y1 y2 y3) (impl_ValidOps.l0 (k + 1) y0 y1 y2 y3))
 | 0 => fun _ _ _ _ r h => (by cases h)
 | k + 1 => by
  have ih0 := impl_ValidOps.mono_l k
  ·intro y0 y1 y2 y3
   unfold impl_ValidOps.l0
   repeat' first
   | (with_reducible exact ih0 _ _ _ _)
   | (with_reducible exact LeO.refl _)
   | (with_reducible exact LeO.none _)
   | (with_reducible refine LeO.ite ?_ ?_)
   | (with_reducible refine LeO.bind ?_ (fun _ => ?_))
   | exact ih0 _ _ _ _
   | exact LeO.none _
   | refine LeO.ite ?_ ?_
   | refine LeO.bind ?_ (fun _ => ?_)
set_option maxRecDepth 100000 in
theorem impl_ValidOps.mono : ∀ a0 k,LeO (impl_ValidOps.f k a0) (impl_ValidOps.f (k + 1) a0) := by
 intro a0 k
 have ih0 := impl_ValidOps.mono_l k
 unfold impl_ValidOps.f
 repeat' first
   | (with_reducible exact ih0 _ _ _ _)
   | (with_reducible exact LeO.refl _)
   | (with_reducible exact LeO.none _)
   | (with_reducible refine LeO.ite ?_ ?_)
   | (with_reducible refine LeO.bind ?_ (fun _ => ?_))
   | exact ih0 _ _ _ _
   | exact LeO.none _
   | refine LeO.ite ?_ ?_
   | refine LeO.bind ?_ (fun _ => ?_)
set_option maxHeartbeats 8000000 in
set_option maxRecDepth 100000 in
theorem impl_ValidOps.calls (k : Nat) (A0 : Option Addr) (c0 : Nat) (l0 : List (S49)) (r : Bool) (w : World) (hr0 : Kd.C k49 w A0 l0.length l0) (hc0 : l0.length ≤ c0) (h : impl_ValidOps.f k l0 = some r) :
  Calls Try.prog 18 #[.slice A0 l0.length c0] w fun e w' => e = .returned (.bool r) ∧ Below w.heap.size w w' := by
 have hu49 := Try.underlying49
 have HR0 := As_ hr0
 have HC0 := As_ hc0
 clear hr0 hc0
 have HB := As_ (Below.refl w.heap.size w)
 have H : (impl_ValidOps.l0 k l0 l0 (l0.length : Int) 0) = some r := h
 clear h
 have H' := As_ H
 clear H
 go_enter Try.func18,Try.ntmps18
 go_wp2
 go_loopg [7] k (fun kq v7 w' => ∃ (x7_1 : Int),v7 = .int .i64 x7_1 ∧ Aside0 (impl_ValidOps.l0 kq l0 l0 (l0.length : Int) x7_1 = some r) ∧ Aside0 (kq ≤ k) ∧ Aside0 (Below w.heap.size w w'))
 case atStart => exact ⟨(0),zT_,H',⟨Nat.le_refl _⟩,⟨zb0 HB.out⟩⟩
 case round =>
  clear H'
  obtain ⟨x7_1,rfl,HA,HK1,HB⟩ := hrel
  cases gk with
  | zero => exact absurd HA.out (fun h_ => (by cases h_))
  | succ k1 =>
   have H := HA.out
   clear HA
   simp only [impl_ValidOps.l0] at H
   by_cases c2 : x7_1 < (l0.length : Int)
   rotate_left
   ·rw [if_neg c2] at H
    have c2b0 : decide (x7_1 < (l0.length : Int)) = false := deF c2
    clear c2
    obtain rfl := Option.some.inj H
    go_wp2
    go_ret
    exact ⟨zE_,zb0 HB.out⟩

   rw [if_pos c2] at H
   have c2b0 : decide (x7_1 < (l0.length : Int)) = true := deT c2
   clear c2
   by_cases c3 : 0 ≤ x7_1
   rotate_left
   ·rw [if_neg c3] at H
    exact absurd H (by simp)
   rw [if_pos c3] at H
   have c3b0 : decide (0 ≤ x7_1) = true := deT c3
   clear c3
   by_cases c4 : x7_1 < (l0.length : Int)
   rotate_left
   ·rw [if_neg c4] at H
    exact absurd H (by simp)
   rw [if_pos c4] at H
   have c4b0 : decide (x7_1 < (l0.length : Int)) = true := deT c4
   clear c4
   replace H := obS H
   obtain ⟨t123,A50,H⟩ := H
   replace H : (if t123 = true then (impl_ValidOps.l0 k1 l0 l0 (l0.length : Int) (wrap64 (x7_1 + 1))) else (some false)) = some r := H
   have A5 := As_ A50
   clear A50
   by_cases c6 : t123 = true
   rotate_left
   ·replace c6 := Bool.eq_false_iff.mpr c6
    subst c6
    have H1 : (some false) = some r := by rw [if_neg (show ¬ (false = true) by decide)] at H;exact H
    clear H
    have H := H1
    clear H1
    obtain rfl := Option.some.inj H
    have p121 : 0 ≤ (x7_1 : Int) := odT zA_
    have q121 : x7_1 < (l0.length : Int) := odT zA_
    obtain ⟨ad121,e121,hx121_0,hx121_1⟩ := at_T49 HR0.out x7_1 p121 q121
    cases e121
    replace hx121_0 := bwC HB.out hx121_0
    replace hx121_1 := bwC HB.out hx121_1
    replace p121 := eq_true p121
    replace q121 := eq_true q121
    go_wp2_with (first|((with_reducible refine gate_dst (N := 4) rfl ?_);refine box_event ?hg (N := 4) ?hd (cs := #[.int .i64 0,.int .i64 0]) (t := 49) ?hr ?_;(case hd => rfl);(case hg => rfl);(case hr => go_simp <;> rfl);intro gb122 hg w10 hbox hb;have n0_ := As_ (bwT (zb0 HB.out) hb);have n1_ := As_ (hbox);have n2_ := As_ ((by rw [hg];exact (bwZ (zb0 HB.out)) : w.heap.size ≤ gb122));have n3_ := As_ ((by rw [hg];exact (bwZ (zb0 HB.out)) : w.heap.size ≤ gb122));clear HB;revert n0_ n1_ n2_ n3_;intro HB BK122 GW122 GE122;clear hb hbox hg;obtain ⟨hcz11_0,hcz11_1,hfz11_0,hfz11_1⟩ := bk2 BK122.out)|((with_reducible refine gate_callee (f := 53) rfl ?_);refine goesL_ (some 12) rfl rfl Try.func53 (by kernel_rfl) rfl #[.agg #[.int .i64 ((rd_T49 l0 x7_1).f0),.int .i64 ((rd_T49 l0 x7_1).f1)]] rfl zM_ ?_;(with_reducible refine (impl_opOk.calls ((rd_T49 l0 x7_1).f0) ((rd_T49 l0 x7_1).f1) false _ A5.out).mono ?_);rintro e w12 ⟨rfl,hb⟩;refine ⟨_,rfl,?_⟩;have n0_ := As_ (blk_below (g := gb122) (o := .cells #[.int .i64 ((rd_T49 l0 x7_1).f0),.int .i64 ((rd_T49 l0 x7_1).f1)] 49 (0,0)) (by (with_reducible repeat first|apply bkN|apply bkD|apply bkA);refine blk_put (cs := #[.int .i64 ((rd_T49 l0 x7_1).f0),.int .i64 0]) ?_ 1 _ rfl;(with_reducible repeat first|apply bkN|apply bkD|apply bkA);refine blk_put (cs := #[.int .i64 0,.int .i64 0]) ?_ 0 _ rfl;(with_reducible repeat first|apply bkN|apply bkD|apply bkA);exact BK122.out) hb);have n1_ := As_ (bwT (zb1 HB.out GE122.out) hb);clear BK122 HB;revert n0_ n1_;intro BK122 HB))
    go_ret
    exact ⟨zE_,zb1 HB.out GE122.out⟩
   subst c6
   have H1 : (impl_ValidOps.l0 k1 l0 l0 (l0.length : Int) (wrap64 (x7_1 + 1))) = some r := by rw [if_pos rfl] at H;exact H
   clear H
   have H := H1
   clear H1
   have H' := As_ H
   clear H
   have p121 : 0 ≤ (x7_1 : Int) := odT zA_
   have q121 : x7_1 < (l0.length : Int) := odT zA_
   obtain ⟨ad121,e121,hx121_0,hx121_1⟩ := at_T49 HR0.out x7_1 p121 q121
   cases e121
   replace hx121_0 := bwC HB.out hx121_0
   replace hx121_1 := bwC HB.out hx121_1
   replace p121 := eq_true p121
   replace q121 := eq_true q121
   go_wp2_with (first|((with_reducible refine gate_dst (N := 4) rfl ?_);refine box_event ?hg (N := 4) ?hd (cs := #[.int .i64 0,.int .i64 0]) (t := 49) ?hr ?_;(case hd => rfl);(case hg => rfl);(case hr => go_simp <;> rfl);intro gb122 hg w7 hbox hb;have n0_ := As_ (bwT (zb0 HB.out) hb);have n1_ := As_ (hbox);have n2_ := As_ ((by rw [hg];exact (bwZ (zb0 HB.out)) : w.heap.size ≤ gb122));have n3_ := As_ ((by rw [hg];exact (bwZ (zb0 HB.out)) : w.heap.size ≤ gb122));clear HB;revert n0_ n1_ n2_ n3_;intro HB BK122 GW122 GE122;clear hb hbox hg;obtain ⟨hcz8_0,hcz8_1,hfz8_0,hfz8_1⟩ := bk2 BK122.out)|((with_reducible refine gate_callee (f := 53) rfl ?_);refine goesL_ (some 12) rfl rfl Try.func53 (by kernel_rfl) rfl #[.agg #[.int .i64 ((rd_T49 l0 x7_1).f0),.int .i64 ((rd_T49 l0 x7_1).f1)]] rfl zM_ ?_;(with_reducible refine (impl_opOk.calls ((rd_T49 l0 x7_1).f0) ((rd_T49 l0 x7_1).f1) true _ A5.out).mono ?_);rintro e w9 ⟨rfl,hb⟩;refine ⟨_,rfl,?_⟩;have n0_ := As_ (blk_below (g := gb122) (o := .cells #[.int .i64 ((rd_T49 l0 x7_1).f0),.int .i64 ((rd_T49 l0 x7_1).f1)] 49 (0,0)) (by (with_reducible repeat first|apply bkN|apply bkD|apply bkA);refine blk_put (cs := #[.int .i64 ((rd_T49 l0 x7_1).f0),.int .i64 0]) ?_ 1 _ rfl;(with_reducible repeat first|apply bkN|apply bkD|apply bkA);refine blk_put (cs := #[.int .i64 0,.int .i64 0]) ?_ 0 _ rfl;(with_reducible repeat first|apply bkN|apply bkD|apply bkA);exact BK122.out) hb);have n1_ := As_ (bwT (zb1 HB.out GE122.out) hb);clear BK122 HB;revert n0_ n1_;intro BK122 HB))
   go_roundg k1
   case measure => have := HK1.out;omega
   case rel => exact ⟨(wrap64 (x7_1 + 1)),zT_,H',⟨by have := HK1.out;omega⟩,⟨zb1 HB.out GE122.out⟩⟩
end Go.Proofs.Ytonppkaobnfldaa.Q
