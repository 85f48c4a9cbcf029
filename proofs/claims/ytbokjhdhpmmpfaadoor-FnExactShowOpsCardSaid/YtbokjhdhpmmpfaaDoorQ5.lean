-- Written by wip/tools/qprint.py (a program of this claim's author) by means of the kit's printer.
import Derived.Test.YtbokjhdhpmmpfaaDoorQ0
import Derived.Test.YtbokjhdhpmmpfaaDoorQ4
namespace Go.Proofs.YtbokjhdhpmmpfaaDoor.Q
open Go.RowKit Go.Proofs.YtbokjhdhpmmpfaaDoorW.PrintWords Go.Proofs.YtbokjhdhpmmpfaaDoorW.PrintLast Go.Proofs.YtbokjhdhpmmpfaaDoorW.PrintMore
attribute [local go_sem] max2_int min2_int max_two min_two max_three min_three max_four min_four   -- for this text's walks alone
set_option linter.unusedVariables false
set_option linter.unusedSimpArgs false

/-! ### spec_ShowOps: function 5 -/
def spec_ShowOps.l0 : Nat → List (S32) → ByteArray → Int → Option (ByteArray)
 | 0,_,_,_ => none
 | k + 1,x0,x3,x4 => if x4 < (x0.length : Int) then (if 0 ≤ x4 then ((spec_showOp.f k ((rd_T32 x0 x4).f0) ((rd_T32 x0 x4).f1)).bind fun t126 => (if x3.size + t126.size ≤ 9223372036854775807 then (if (x3 ++ t126).size + 1 ≤ 9223372036854775807 then (spec_ShowOps.l0 k x0 ((x3 ++ t126) ++ (⟨#[10]⟩ : ByteArray)) (wrap64 (x4 + 1))) else (none)) else (none))) else (none)) else (some x3)
def spec_ShowOps.f (k : Nat) (l0 : List (S32)) : Option (ByteArray) := (spec_validOps.f k l0).bind fun t124 => (if t124 = true then (spec_ShowOps.l0 k l0 (⟨#[]⟩ : ByteArray) 0) else (some (⟨#[]⟩ : ByteArray)))
set_option maxRecDepth 100000 in
theorem spec_ShowOps.mono_l : ∀ k,(∀ y0 y1 y2,LeO (spec_ShowOps.l0 k y0 y1 y2) (spec_ShowOps.l0 (k + 1) y0 y1 y2))
 | 0 => fun _ _ _ r h => (by cases h)
 | k + 1 => by
  have ih0 := spec_ShowOps.mono_l k
  ·intro y0 y1 y2
   unfold spec_ShowOps.l0
   repeat' first
   | (with_reducible exact ih0 _ _ _)
   | (with_reducible exact spec_showOp.mono _ _ _)
   | (with_reducible exact spec_validOps.mono _ _)
   | (with_reducible exact LeO.refl _)
   | (with_reducible exact LeO.none _)
   | (with_reducible refine LeO.ite ?_ ?_)
   | (with_reducible refine LeO.bind ?_ (fun _ => ?_))
   | exact ih0 _ _ _
   | exact spec_showOp.mono _ _ _
   | exact spec_validOps.mono _ _
   | exact LeO.none _
   | refine LeO.ite ?_ ?_
   | refine LeO.bind ?_ (fun _ => ?_)
set_option maxRecDepth 100000 in
theorem spec_ShowOps.mono : ∀ a0 k,LeO (spec_ShowOps.f k a0) (spec_ShowOps.f (k + 1) a0) := by
 intro a0 k
 have ih0 := spec_ShowOps.mono_l k
 unfold spec_ShowOps.f
 repeat' first
   | (with_reducible exact ih0 _ _ _)
   | (with_reducible exact spec_showOp.mono _ _ _)
   | (with_reducible exact spec_validOps.mono _ _)
   | (with_reducible exact LeO.refl _)
   | (with_reducible exact LeO.none _)
   | (with_reducible refine LeO.ite ?_ ?_)
   | (with_reducible refine LeO.bind ?_ (fun _ => ?_))
   | exact ih0 _ _ _
   | exact spec_showOp.mono _ _ _
   | exact spec_validOps.mono _ _
   | exact LeO.none _
   | refine LeO.ite ?_ ?_
   | refine LeO.bind ?_ (fun _ => ?_)
set_option maxHeartbeats 8000000 in
set_option maxRecDepth 100000 in
theorem spec_ShowOps.calls (k : Nat) (A0 : Option Addr) (c0 : Nat) (l0 : List (S32)) (r : ByteArray) (w : World) (hr0 : Kd.C k32 w A0 l0.length l0) (hc0 : l0.length ≤ c0) (h : spec_ShowOps.f k l0 = some r) :
  Calls Tryd.prog 5 #[.slice A0 l0.length c0] w fun e w' => e = .returned (.string r) ∧ Below w.heap.size w w' := by
 have hu32 := Tryd.underlying32
 have HR0 := As_ hr0
 have HC0 := As_ hc0
 clear hr0 hc0
 have HB := As_ (Below.refl w.heap.size w)
 have H : ((spec_validOps.f k l0).bind fun t124 => (if t124 = true then (spec_ShowOps.l0 k l0 (⟨#[]⟩ : ByteArray) 0) else (some (⟨#[]⟩ : ByteArray)))) = some r := h
 clear h
 replace H := obS H
 obtain ⟨t124,A20,H⟩ := H
 replace H : (if t124 = true then (spec_ShowOps.l0 k l0 (⟨#[]⟩ : ByteArray) 0) else (some (⟨#[]⟩ : ByteArray))) = some r := H
 have A2 := As_ A20
 clear A20
 by_cases c3 : t124 = true
 rotate_left
 ·replace c3 := Bool.eq_false_iff.mpr c3
  subst c3
  have H1 : (some (⟨#[]⟩ : ByteArray)) = some r := by rw [if_neg (show ¬ (false = true) by decide)] at H;exact H
  clear H
  have H := H1
  clear H1
  obtain rfl := Option.some.inj H
  go_enter Tryd.func5,Tryd.ntmps5
  go_wp2_with (first|((with_reducible refine gate_callee (f := 9) rfl ?_);refine goesL_ (some 6) rfl rfl Tryd.func9 (by kernel_rfl) rfl #[.slice A0 l0.length c0] rfl zM_ ?_;(with_reducible refine (spec_validOps.calls k _ _ l0 false _ ?side1 ?side2 A2.out).mono ?_);(case side1 => repeat (first|exact HR0.out|(with_reducible refine Kd.C_alloc ?_ _)|(with_reducible refine Kd.C_drewN ?_ _)|(with_reducible refine Kd.C_drew ?_)));(case side2 => exact HC0.out);rintro e w11 ⟨rfl,hb⟩;refine ⟨_,rfl,?_⟩;have n0_ := As_ (bwT (zb0 HB.out) hb);clear HB;revert n0_;intro HB))
  go_ret
  exact ⟨zE_,zb0 HB.out⟩

 subst c3
 have H1 : (spec_ShowOps.l0 k l0 (⟨#[]⟩ : ByteArray) 0) = some r := by rw [if_pos rfl] at H;exact H
 clear H
 have H := H1
 clear H1
 have H' := As_ H
 clear H
 go_enter Tryd.func5,Tryd.ntmps5
 go_wp2_with (first|((with_reducible refine gate_callee (f := 9) rfl ?_);refine goesL_ (some 6) rfl rfl Tryd.func9 (by kernel_rfl) rfl #[.slice A0 l0.length c0] rfl zM_ ?_;(with_reducible refine (spec_validOps.calls k _ _ l0 true _ ?side1 ?side2 A2.out).mono ?_);(case side1 => repeat (first|exact HR0.out|(with_reducible refine Kd.C_alloc ?_ _)|(with_reducible refine Kd.C_drewN ?_ _)|(with_reducible refine Kd.C_drew ?_)));(case side2 => exact HC0.out);rintro e w4 ⟨rfl,hb⟩;refine ⟨_,rfl,?_⟩;have n0_ := As_ (bwT (zb0 HB.out) hb);clear HB;revert n0_;intro HB))
 go_loopg [3,4] k (fun kq v3 v4 w' => ∃ (x3_1 : ByteArray) (x4_1 : Int),v3 = .string x3_1 ∧ v4 = .int .i64 x4_1 ∧ Aside0 (spec_ShowOps.l0 kq l0 x3_1 x4_1 = some r) ∧ Aside0 (kq ≤ k) ∧ Aside0 (Below w.heap.size w w'))
 case atStart => exact ⟨((⟨#[]⟩ : ByteArray)),(0),zT_,zT_,H',⟨Nat.le_refl _⟩,⟨zb0 HB.out⟩⟩
 case round =>
  clear H'
  obtain ⟨x3_1,x4_1,rfl,rfl,HA,HK1,HB⟩ := hrel
  cases gk with
  | zero => exact absurd HA.out (fun h_ => (by cases h_))
  | succ k1 =>
   have H := HA.out
   clear HA
   simp only [spec_ShowOps.l0] at H
   by_cases c5 : x4_1 < (l0.length : Int)
   rotate_left
   ·rw [if_neg c5] at H
    have c5b0 : decide (x4_1 < (l0.length : Int)) = false := deF c5
    clear c5
    obtain rfl := Option.some.inj H
    go_wp2
    go_ret
    exact ⟨zE_,zb0 HB.out⟩
   rw [if_pos c5] at H
   have c5b0 : decide (x4_1 < (l0.length : Int)) = true := deT c5
   clear c5
   by_cases c6 : 0 ≤ x4_1
   rotate_left
   ·rw [if_neg c6] at H
    exact absurd H (by simp)
   rw [if_pos c6] at H
   have c6b0 : decide (0 ≤ x4_1) = true := deT c6
   clear c6
   replace H := obS H
   obtain ⟨t126,A70,H⟩ := H
   replace H : (if x3_1.size + t126.size ≤ 9223372036854775807 then (if (x3_1 ++ t126).size + 1 ≤ 9223372036854775807 then (spec_ShowOps.l0 k1 l0 ((x3_1 ++ t126) ++ (⟨#[10]⟩ : ByteArray)) (wrap64 (x4_1 + 1))) else (none)) else (none)) = some r := H
   have A7 := As_ A70
   clear A70
   by_cases c8 : x3_1.size + t126.size ≤ 9223372036854775807
   rotate_left
   ·rw [if_neg c8] at H
    exact absurd H (by simp)
   rw [if_pos c8] at H
   have c8b0 := eq_true c8
   have c8b1 : decide (x3_1.size + t126.size ≤ 9223372036854775807) = true := deT c8
   try have c8b2 : (9223372036854775807 < x3_1.size + t126.size) = False := eq_false (Nat.not_lt.2 c8)
   by_cases c9 : (x3_1 ++ t126).size + 1 ≤ 9223372036854775807
   rotate_left
   ·rw [if_neg c9] at H
    exact absurd H (by simp)
   rw [if_pos c9] at H
   have c9b0 := eq_true c9
   have c9b1 : decide ((x3_1 ++ t126).size + 1 ≤ 9223372036854775807) = true := deT c9
   try have c9b2 : (9223372036854775807 < (x3_1 ++ t126).size + 1) = False := eq_false (Nat.not_lt.2 c9)
   have c9b3 : (9223372036854775807 < x3_1.size + t126.size + 1) = False := eq_false (Nat.not_lt.2 (by have h_ := c9;rw [ByteArray.size_append] at h_;exact h_))
   have H' := As_ H
   clear H
   have p125 : 0 ≤ (x4_1 : Int) := odT zA_
   have q125 : x4_1 < (l0.length : Int) := odT zA_
   obtain ⟨ad125,e125,hx125_0,hx125_1⟩ := at_T32 HR0.out x4_1 p125 q125
   cases e125
   replace hx125_0 := bwC HB.out hx125_0
   replace hx125_1 := bwC HB.out hx125_1
   replace p125 := eq_true p125
   replace q125 := eq_true q125
   go_wp2_with (first|((with_reducible refine gate_callee (f := 10) rfl ?_);refine goesL_ (some 19) rfl rfl Tryd.func10 (by kernel_rfl) rfl #[.agg #[.int .i64 ((rd_T32 l0 x4_1).f0),.int .i64 ((rd_T32 l0 x4_1).f1)]] rfl zM_ ?_;(with_reducible refine (spec_showOp.calls k1 ((rd_T32 l0 x4_1).f0) ((rd_T32 l0 x4_1).f1) t126 _ A7.out).mono ?_);rintro e w10 ⟨rfl,hb⟩;refine ⟨_,rfl,?_⟩;have n0_ := As_ (bwT (zb0 HB.out) hb);clear HB;revert n0_;intro HB))
   go_roundg k1
   case measure => have := HK1.out;omega
   case rel => exact ⟨((x3_1 ++ t126) ++ (⟨#[10]⟩ : ByteArray)),(wrap64 (x4_1 + 1)),zT_,zT_,H',⟨by have := HK1.out;omega⟩,⟨zb0 HB.out⟩⟩
/-! ### laws_toOp: function 11 -/
def laws_toOp.f (a0_0 : Int) (a0_1 : Int) : Option (Int × Int) := some (a0_0,a0_1)
set_option maxHeartbeats 8000000 in
set_option maxRecDepth 100000 in
theorem laws_toOp.calls (a0_0 : Int) (a0_1 : Int) (r1 : Int) (r2 : Int) (w : World) (h : laws_toOp.f a0_0 a0_1 = some (r1,r2)) :
  Calls Tryd.prog 11 #[.agg #[.int .i64 a0_0,.int .i64 a0_1]] w fun e w' => e = .returned (.agg #[.int .i64 r1,.int .i64 r2]) ∧ Below w.heap.size w w' := by
 have hu34 := Tryd.underlying34
 have hu32 := Tryd.underlying32
 have HB := As_ (Below.refl w.heap.size w)
 have H : (some (a0_0,a0_1)) = some (r1,r2) := h
 clear h
 simp only [Option.some.injEq,Prod.mk.injEq] at H
 obtain ⟨rfl,rfl⟩ := H
 go_enter Tryd.func11,Tryd.ntmps11
 go_wp2_with (first|((with_reducible refine gate_dst (N := 1) rfl ?_);refine box_event ?hg (N := 1) ?hd (cs := #[.int .i64 a0_0,.int .i64 a0_1]) (t := 34) ?hr ?_;(case hd => rfl);(case hg => rfl);(case hr => go_simp <;> rfl);intro gb127 hg w2 hbox hb;have n0_ := As_ (bwT (zb0 HB.out) hb);have n1_ := As_ (hbox);have n2_ := As_ ((by rw [hg];exact (bwZ (zb0 HB.out)) : w.heap.size ≤ gb127));have n3_ := As_ ((by rw [hg];exact (bwZ (zb0 HB.out)) : w.heap.size ≤ gb127));clear HB;revert n0_ n1_ n2_ n3_;intro HB BK127 GW127 GE127;clear hb hbox hg)|((with_reducible refine gate_dst (N := 2) rfl ?_);refine box_event ?hg (N := 2) ?hd (cs := #[.int .i64 0,.int .i64 0]) (t := 32) ?hr ?_;(case hd => rfl);(case hg => rfl);(case hr => go_simp <;> rfl);intro gb128 hg w3 hbox hb;have n0_ := As_ (zkb BK127.out hb);have n1_ := As_ (bwT (zb1 HB.out GE127.out) hb);have n2_ := As_ (hbox);have n3_ := As_ ((by rw [hg];exact (bwZ (zb1 HB.out GE127.out)) : w.heap.size ≤ gb128));have n4_ := As_ ((by rw [hg];exact (bwZ (zb1 HB.out GE127.out)) : w.heap.size ≤ gb128));have n5_ := As_ ((by rw [hg];exact Nat.ne_of_lt (zkl BK127.out) : gb127 ≠ gb128));have n6_ := As_ ((by rw [hg];exact Nat.ne_of_gt (zkl BK127.out) : gb128 ≠ gb127));clear BK127 HB;revert n0_ n1_ n2_ n3_ n4_ n5_ n6_;intro BK127 HB BK128 GW128 GE128 NB127_128 NB128_127;clear hb hbox hg)|((with_reducible refine gate_dst (N := 3) rfl ?_);refine box_event ?hg (N := 3) ?hd (cs := #[.int .i64 0,.int .i64 0]) (t := 32) ?hr ?_;(case hd => rfl);(case hg => rfl);(case hr => go_simp <;> rfl);intro gb129 hg w4 hbox hb;have n0_ := As_ (zkb BK127.out hb);have n1_ := As_ (zkb BK128.out hb);have n2_ := As_ (bwT (zb2 HB.out GE127.out GE128.out) hb);have n3_ := As_ (hbox);have n4_ := As_ ((by rw [hg];exact (bwZ (zb2 HB.out GE127.out GE128.out)) : w.heap.size ≤ gb129));have n5_ := As_ ((by rw [hg];exact (bwZ (zb2 HB.out GE127.out GE128.out)) : w.heap.size ≤ gb129));have n6_ := As_ ((by rw [hg];exact Nat.ne_of_lt (zkl BK127.out) : gb127 ≠ gb129));have n7_ := As_ ((by rw [hg];exact Nat.ne_of_gt (zkl BK127.out) : gb129 ≠ gb127));have n8_ := As_ ((by rw [hg];exact Nat.ne_of_lt (zkl BK128.out) : gb128 ≠ gb129));have n9_ := As_ ((by rw [hg];exact Nat.ne_of_gt (zkl BK128.out) : gb129 ≠ gb128));clear BK127 BK128 HB;revert n0_ n1_ n2_ n3_ n4_ n5_ n6_ n7_ n8_ n9_;intro BK127 BK128 HB BK129 GW129 GE129 NB127_129 NB129_127 NB128_129 NB129_128;clear hb hbox hg;have hnb5 := NB127_128.out;have hnc5 := NB128_127.out;have hnb6 := NB127_129.out;have hnc6 := NB129_127.out;obtain ⟨hcz7_0,hcz7_1,hfz7_0,hfz7_1⟩ := bk2 BK127.out;have hnb8 := NB129_128.out;have hnc8 := NB128_129.out;obtain ⟨hcz9_0,hcz9_1,hfz9_0,hfz9_1⟩ := bk2 BK129.out;obtain ⟨hcz10_0,hcz10_1,hfz10_0,hfz10_1⟩ := bk2 BK128.out))
 refine bodyPost_ret (results_cell_row rfl _ _ gb128 32 #[.int .i64 a0_0,.int .i64 a0_1] (0,0) _ rfl (by (with_reducible repeat first|apply bkN|apply bkD|apply bkA);refine blk_put (cs := #[.int .i64 a0_0,.int .i64 0]) ?_ 1 _ rfl;(with_reducible repeat first|apply bkN|apply bkD|apply bkA);refine blk_put (cs := #[.int .i64 0,.int .i64 0]) ?_ 0 _ rfl;(with_reducible repeat first|apply bkN|apply bkD|apply bkA);refine blk_far ?_ NB128_129.out _;(with_reducible repeat first|apply bkN|apply bkD|apply bkA);refine blk_far ?_ NB128_129.out _;(with_reducible repeat first|apply bkN|apply bkD|apply bkA);exact BK128.out) Tryd.underlying32 rfl (by kernel_rfl)) rfl ?_
 exact ⟨zE_,zb3 HB.out GE127.out GE128.out GE129.out⟩

/-! ### laws_toOpS: function 6 -/
def laws_toOpS.l0 : Nat → List (S34) → List (S32) → Int → Option ((List (S32)))
 | 0,_,_,_ => none
 | k + 1,x0,x3,x4 => if x4 < (x0.length : Int) then (if 0 ≤ x4 then ((laws_toOp.f ((rd_T34 x0 x4).f0) ((rd_T34 x0 x4).f1)).bind fun bt134 => (if x4 < (x3.length : Int) then (laws_toOpS.l0 k x0 (x3.set (x4 : Int).toNat (⟨bt134.1,bt134.2⟩ : S32)) (wrap64 (x4 + 1))) else (none))) else (none)) else (some x3)
def laws_toOpS.f (k : Nat) (l0 : List (S34)) : Option ((List (S32))) := if 0 ≤ (l0.length : Int) then (if ((l0.length : Int) : Int).toNat ≤ 17592186044416 then (laws_toOpS.l0 k l0 (List.replicate ((l0.length : Int) : Int).toNat z32) 0) else (none)) else (none)
set_option maxRecDepth 100000 in
theorem laws_toOpS.mono_l : ∀ k,(∀ y0 y1 y2,LeO (laws_toOpS.l0 k y0 y1 y2) (laws_toOpS.l0 (k + 1) y0 y1 y2))
 | 0 => fun _ _ _ r h => (by cases h)
 | k + 1 => by
  have ih0 := laws_toOpS.mono_l k
  ·intro y0 y1 y2
   unfold laws_toOpS.l0
   repeat' first
   | (with_reducible exact ih0 _ _ _)
   | (with_reducible exact LeO.refl _)
   | (with_reducible exact LeO.none _)
   | (with_reducible refine LeO.ite ?_ ?_)
   | (with_reducible refine LeO.bind ?_ (fun _ => ?_))
   | exact ih0 _ _ _
   | exact LeO.none _
   | refine LeO.ite ?_ ?_
   | refine LeO.bind ?_ (fun _ => ?_)
set_option maxRecDepth 100000 in
theorem laws_toOpS.mono : ∀ a0 k,LeO (laws_toOpS.f k a0) (laws_toOpS.f (k + 1) a0) := by
 intro a0 k
 have ih0 := laws_toOpS.mono_l k
 unfold laws_toOpS.f
 repeat' first
   | (with_reducible exact ih0 _ _ _)
   | (with_reducible exact LeO.refl _)
   | (with_reducible exact LeO.none _)
   | (with_reducible refine LeO.ite ?_ ?_)
   | (with_reducible refine LeO.bind ?_ (fun _ => ?_))
   | exact ih0 _ _ _
   | exact LeO.none _
   | refine LeO.ite ?_ ?_
   | refine LeO.bind ?_ (fun _ => ?_)
set_option maxHeartbeats 8000000 in
set_option maxRecDepth 100000 in
theorem laws_toOpS.calls (k : Nat) (A0 : Option Addr) (c0 : Nat) (l0 : List (S34)) (r : List (S32)) (w : World) (hr0 : Kd.C k34 w A0 l0.length l0) (hc0 : l0.length ≤ c0) (h : laws_toOpS.f k l0 = some r) :
  Calls Tryd.prog 6 #[.slice A0 l0.length c0] w fun e w' => ∃ v0_ : Value,e = .returned (v0_) ∧ Kd.R k32 32 w' w.heap.size (fun _ => True) v0_ r ∧ Below w.heap.size w w' := by
 have hu34 := Tryd.underlying34
 have hu32 := Tryd.underlying32
 have HR0 := As_ hr0
 have HC0 := As_ hc0
 clear hr0 hc0
 have HB := As_ (Below.refl w.heap.size w)
 have H : (if 0 ≤ (l0.length : Int) then (if ((l0.length : Int) : Int).toNat ≤ 17592186044416 then (laws_toOpS.l0 k l0 (List.replicate ((l0.length : Int) : Int).toNat z32) 0) else (none)) else (none)) = some r := h
 clear h
 by_cases c2 : 0 ≤ (l0.length : Int)
 rotate_left
 ·rw [if_neg c2] at H
  exact absurd H (by simp)
 rw [if_pos c2] at H
 have c2b0 := eq_true c2
 have c2b1 : decide (0 ≤ (l0.length : Int)) = true := deT c2
 clear c2
 by_cases c3 : ((l0.length : Int) : Int).toNat ≤ 17592186044416
 rotate_left
 ·rw [if_neg c3] at H
  exact absurd H (by simp)
 rw [if_pos c3] at H
 have c3b0 := eq_true c3
 have c3b1 : decide (((l0.length : Int) : Int).toNat ≤ 17592186044416) = true := deT c3
 clear c3
 obtain ⟨y130,hy130⟩ : ∃ y_ : List (S32),y_ = (List.replicate ((l0.length : Int) : Int).toNat z32) := ⟨_,rfl⟩
 replace H : (laws_toOpS.l0 k l0 y130 0) = some r := zH_ H hy130
 have Ny130 := As_ hy130
 clear hy130
 have H' := As_ H
 clear H
 go_enter Tryd.func6,Tryd.ntmps6
 go_wp2_with (first|((with_reducible refine gate_dst (N := 7) rfl ?_);refine Kd.R_make k32 _ 32 rfl (N := 7) rfl 25 _ _ rfl (l0.length : Int) rfl rfl Tryd.underlying25 (.agg #[(.int .i64 0),(.int .i64 0)]) 16 info32 rfl (by decide) (by omega) z32 (ok := fun _ => True) (okp := fun _ => True) (k32_mkM _ _ _ z32 ) (fun _ hk => hk) trivial (odT zA_) (Nat.le_trans (Nat.mul_le_mul_right _ (odT zA_ : (l0.length : Int).toNat ≤ 17592186044416)) (by omega)) (Below.refl _ _) (Nat.le_refl _) ?_;intro v131 w4 ho5 hb hg_ hnew_;clear hg_ hnew_;(first|rw [← Ny130.out] at ho5|(simp only [Int.reduceToNat] at ho5;rw [← Ny130.out] at ho5));have n0_ := As_ (Kd.R_lower ho5 (bwZ (zb0 HB.out)));have n1_ := As_ (bwT (zb0 HB.out) hb);clear HB;revert n0_ n1_;intro HO132 HB;clear hb ho5))
 go_loopg [4] k (fun kq v4 w' => ∃ (x3_1 : List (S32)) (x4_1 : Int),v4 = .int .i64 x4_1 ∧ Aside0 (laws_toOpS.l0 kq l0 x3_1 x4_1 = some r) ∧ Aside0 (kq ≤ k) ∧ Aside0 (Kd.R k32 32 w' w.heap.size (fun _ => True) v131 x3_1) ∧ Aside0 (Below w.heap.size w w'))
 case atStart => exact ⟨(y130),(0),zT_,H',⟨Nat.le_refl _⟩,⟨by (with_reducible repeat (first|apply Kd.R_alloc|apply Kd.R_drewN|apply Kd.R_drew));exact HO132.out⟩,⟨zb0 HB.out⟩⟩
 case round =>
  clear H'
  obtain ⟨x3_1,x4_1,rfl,HA,HK1,HO_3,HB⟩ := hrel
  cases gk with
  | zero => exact absurd HA.out (fun h_ => (by cases h_))
  | succ k1 =>
   have H := HA.out
   clear HA
   simp only [laws_toOpS.l0] at H
   by_cases c6 : x4_1 < (l0.length : Int)
   rotate_left
   ·rw [if_neg c6] at H
    have c6b0 : decide (x4_1 < (l0.length : Int)) = false := deF c6
    clear c6
    obtain rfl := Option.some.inj H
    go_wp2
    go_ret
    exact ⟨_,zE_,by (with_reducible repeat (first|apply Kd.R_alloc|apply Kd.R_drewN|apply Kd.R_drew));exact HO_3.out,zb0 HB.out⟩

   rw [if_pos c6] at H
   have c6b0 : decide (x4_1 < (l0.length : Int)) = true := deT c6
   clear c6
   by_cases c7 : 0 ≤ x4_1
   rotate_left
   ·rw [if_neg c7] at H
    exact absurd H (by simp)
   rw [if_pos c7] at H
   have c7b0 : decide (0 ≤ x4_1) = true := deT c7
   clear c7
   replace H := obS H
   obtain ⟨⟨t134,t135⟩,A80,H⟩ := H
   replace H : (if x4_1 < (x3_1.length : Int) then (laws_toOpS.l0 k1 l0 (x3_1.set (x4_1 : Int).toNat (⟨t134,t135⟩ : S32)) (wrap64 (x4_1 + 1))) else (none)) = some r := H
   have A8 := As_ A80
   clear A80
   by_cases c9 : x4_1 < (x3_1.length : Int)
   rotate_left
   ·rw [if_neg c9] at H
    exact absurd H (by simp)
   rw [if_pos c9] at H
   have c9b0 : decide (x4_1 < (x3_1.length : Int)) = true := deT c9
   clear c9
   obtain ⟨y136,hy136⟩ : ∃ y_ : List (S32),y_ = (x3_1.set (x4_1 : Int).toNat (⟨t134,t135⟩ : S32)) := ⟨_,rfl⟩
   replace H : (laws_toOpS.l0 k1 l0 y136 (wrap64 (x4_1 + 1))) = some r := zH_ H hy136
   have Ny136 := As_ hy136
   clear hy136
   have H' := As_ H
   clear H
   have p133 : 0 ≤ (x4_1 : Int) := odT zA_
   have q133 : x4_1 < (l0.length : Int) := odT zA_
   obtain ⟨ad133,e133,hx133_0,hx133_1⟩ := at_T34 HR0.out x4_1 p133 q133
   cases e133
   replace hx133_0 := bwC HB.out hx133_0
   replace hx133_1 := bwC HB.out hx133_1
   replace p133 := eq_true p133
   replace q133 := eq_true q133
   go_wp2_with (first|((with_reducible refine gate_callee (f := 11) rfl ?_);refine goesL_ (some 20) rfl rfl Tryd.func11 (by kernel_rfl) rfl #[.agg #[.int .i64 ((rd_T34 l0 x4_1).f0),.int .i64 ((rd_T34 l0 x4_1).f1)]] rfl zM_ ?_;(with_reducible refine (laws_toOp.calls ((rd_T34 l0 x4_1).f0) ((rd_T34 l0 x4_1).f1) t134 t135 _ A8.out).mono ?_);rintro e w11 ⟨rfl,hb⟩;refine ⟨_,rfl,?_⟩;have n0_ := As_ (Kd.R_below (zR_ HO_3.out) hb);have n1_ := As_ (bwT (zb0 HB.out) hb);clear HO_3 HB;revert n0_ n1_;intro HO_3 HB;have p10 : 0 ≤ (x4_1 : Int) := odT zA_;have q10 : (x4_1 : Int) < ((x3_1.length : Int) : Int) := odT zA_;obtain ⟨go10,co10,eo10,gb10,gl10,cl10,HG10⟩ := Kd.R_form HO_3.out (by omega);(first|cases eo10|(injection eo10 with ea_ en_ ec_;(first|subst ea_|(injection ea_ with ea_;subst ea_));subst ec_;clear en_));have GB10 := As_ gb10;have GG10 := As_ HG10;clear gb10 gl10 HG10;obtain ⟨ce10,hcl10,hM10,hcc10,hfr10⟩ := Kd.R_elem HO_3.out z32 (x4_1 : Int) p10 q10;obtain rfl := k32_openM hM10;have hx10_0 : w11.cell? ⟨go10,(x4_1 : Int).toNat * 2,none⟩ = some (.int .i64 ((rd_T32 x3_1 x4_1).f0)) := hcc10 0 _ rfl;have hx10_1 : w11.cell? ⟨go10,(x4_1 : Int).toNat * 2 + 1,none⟩ = some (.int .i64 ((rd_T32 x3_1 x4_1).f1)) := hcc10 1 _ rfl;have hf10_0 : w11.frozen? ⟨go10,(x4_1 : Int).toNat * 2,none⟩ = false := hfr10 0;have hf10_1 : w11.frozen? ⟨go10,(x4_1 : Int).toNat * 2 + 1,none⟩ = false := hfr10 1;clear hcl10 hcc10 hfr10 hM10;replace p10 := eq_true p10;replace q10 := eq_true q10;have HX12 := As_ (show Kd.R k32 32 w11 w.heap.size (fun _ => True) (.slice (some ⟨go10,0,none⟩) x3_1.length co10) x3_1 from (zR_ HO_3.out));obtain ⟨ce12,hcl12,hM12,hcc12,hfr12⟩ := Kd.R_elem HX12.out z32 (x4_1 : Int) (odT zA_) (by have h_ : (x4_1 : Int) < ((x3_1.length : Int) : Int) := odT zA_;first|exact h_|(have e_ := (Kd.R_reads' HO_3.out).1;omega)|simpa using h_);obtain rfl := k32_openM hM12;have HP12 := Kd.R_seg HX12.out (x4_1 : Int) (odT zA_) (by have h_ : (x4_1 : Int) < ((x3_1.length : Int) : Int) := odT zA_;first|exact h_|(have e_ := (Kd.R_reads' HO_3.out).1;omega)|simpa using h_) (seg := [.int .i64 t134,.int .i64 t135]) (j := 0) hcl12 hcc12 (show 2 ≤ 2 from by decide) (x' := (⟨t134,t135⟩ : S32)) (k32_mkM _ _ _ (⟨t134,t135⟩ : S32) ) (fun _ hk => hk);have hx12_0 := hcc12 0 _ rfl;(try simp only [show (k32).sz = 2 from rfl,Nat.mul_one,Nat.add_zero] at hx12_0);have hf12_0 := hfr12 0;(try simp only [show (k32).sz = 2 from rfl,Nat.mul_one,Nat.add_zero] at hf12_0);have hx12_1 := hcc12 1 _ rfl;(try simp only [show (k32).sz = 2 from rfl,Nat.mul_one,Nat.add_zero] at hx12_1);have hf12_1 := hfr12 1;(try simp only [show (k32).sz = 2 from rfl,Nat.mul_one,Nat.add_zero] at hf12_1);clear hcl12 hcc12 hfr12 hM12)|((with_reducible refine gate_store (t := 32) (p := 21) rfl ?_);refine store_event (t := 32) (p := 21) (v := ?vo_w13) (w1 := ((w11.setCell ⟨go10,(x4_1 : Int).toNat * 2,none⟩ (.int .i64 t134)).setCell ⟨go10,(x4_1 : Int).toNat * 2 + 1,none⟩ (.int .i64 t135))) ?hg ?ho ?hn ?hr ?_;(case ho => rfl);(case hg => rfl);(case hn => rfl);(case hr => go_simp <;> rfl);intro w13 hw;have hg : w11.grownBy w13 (some go10) := (by rw [hw];exact HP12.2);have hp_ : Kd.R k32 32 w13 w.heap.size (fun _ => True) (.slice (some ⟨go10,0,none⟩) x3_1.length co10) y136 := (by rw [hw,Ny136.out];exact HP12.1);clear HP12;have n0_ := As_ (hp_);have n1_ := As_ ((by rw [hw];exact bwS (bwS (HB.out) GB10.out) GB10.out : Below w.heap.size w w13));clear HO_3 HB;revert n0_ n1_;intro HO_3 HB;clear hg hw hp_))
   go_roundg k1
   case measure => have := HK1.out;omega
   case rel => exact ⟨(y136),(wrap64 (x4_1 + 1)),zT_,H',⟨by have := HK1.out;omega⟩,⟨by (with_reducible repeat (first|apply Kd.R_alloc|apply Kd.R_drewN|apply Kd.R_drew));exact HO_3.out⟩,⟨zb0 HB.out⟩⟩
/-! ### impl_mostArg: function 15 -/
def impl_mostArg.f (a0 : Int) : Option (Int) := if a0 = 0 then (some 999) else (if a0 = 1 then (some 9) else (if a0 = 13 then (some 9) else (if a0 = 15 then (some 19) else (if a0 = 16 then (some 19) else (some 0)))))
set_option maxHeartbeats 8000000 in
set_option maxRecDepth 100000 in
theorem impl_mostArg.calls (a0 : Int) (r : Int) (w : World) (h : impl_mostArg.f a0 = some r) :
  Calls Tryd.prog 15 #[.int .i64 a0] w fun e w' => e = .returned (.int .i64 r) ∧ Drawn0 w w' := by
 have H : (if a0 = 0 then (some 999) else (if a0 = 1 then (some 9) else (if a0 = 13 then (some 9) else (if a0 = 15 then (some 19) else (if a0 = 16 then (some 19) else (some 0)))))) = some r := h
 clear h
 by_cases c2 : a0 = 0
 ·rw [if_pos c2] at H
  have c2b0 : (a0 == 0) = true := beq_iff_eq.mpr c2
  have c2b1 : (a0 != 0) = false := bne_eq_false_iff_eq.mpr c2
  clear c2
  obtain rfl := Option.some.inj H
  go_enter Tryd.func15,Tryd.ntmps15
  go_wp2
  go_ret
  exact ⟨by first|rfl|(simp;done)|(simp [*];done),by repeat (first|exact Drawn0.refl _|apply Drawn0.step)⟩
 rw [if_neg c2] at H
 have c2b0 : (a0 == 0) = false := beq_eq_false_iff_ne.mpr c2
 have c2b1 : (a0 != 0) = true := bne_iff_ne.mpr c2
 by_cases c3 : a0 = 1
 ·rw [if_pos c3] at H
  have c3b0 : (a0 == 1) = true := beq_iff_eq.mpr c3
  have c3b1 : (a0 != 1) = false := bne_eq_false_iff_eq.mpr c3
  clear c3
  obtain rfl := Option.some.inj H
  go_enter Tryd.func15,Tryd.ntmps15
  go_wp2
  go_ret
  exact ⟨by first|rfl|(simp;done)|(simp [*];done),by repeat (first|exact Drawn0.refl _|apply Drawn0.step)⟩
 rw [if_neg c3] at H
 have c3b0 : (a0 == 1) = false := beq_eq_false_iff_ne.mpr c3
 have c3b1 : (a0 != 1) = true := bne_iff_ne.mpr c3
 by_cases c4 : a0 = 13
 ·rw [if_pos c4] at H
  have c4b0 : (a0 == 13) = true := beq_iff_eq.mpr c4
  have c4b1 : (a0 != 13) = false := bne_eq_false_iff_eq.mpr c4
  clear c4
  obtain rfl := Option.some.inj H
  go_enter Tryd.func15,Tryd.ntmps15
  go_wp2
  go_ret
  exact ⟨by first|rfl|(simp;done)|(simp [*];done),by repeat (first|exact Drawn0.refl _|apply Drawn0.step)⟩
 rw [if_neg c4] at H
 have c4b0 : (a0 == 13) = false := beq_eq_false_iff_ne.mpr c4
 have c4b1 : (a0 != 13) = true := bne_iff_ne.mpr c4
 by_cases c5 : a0 = 15
 ·rw [if_pos c5] at H
  have c5b0 : (a0 == 15) = true := beq_iff_eq.mpr c5
  have c5b1 : (a0 != 15) = false := bne_eq_false_iff_eq.mpr c5
  clear c5
  obtain rfl := Option.some.inj H
  go_enter Tryd.func15,Tryd.ntmps15
  go_wp2
  go_ret
  exact ⟨by first|rfl|(simp;done)|(simp [*];done),by repeat (first|exact Drawn0.refl _|apply Drawn0.step)⟩
 rw [if_neg c5] at H
 have c5b0 : (a0 == 15) = false := beq_eq_false_iff_ne.mpr c5
 have c5b1 : (a0 != 15) = true := bne_iff_ne.mpr c5
 by_cases c6 : a0 = 16
 ·rw [if_pos c6] at H
  have c6b0 : (a0 == 16) = true := beq_iff_eq.mpr c6
  have c6b1 : (a0 != 16) = false := bne_eq_false_iff_eq.mpr c6
  clear c6
  obtain rfl := Option.some.inj H
  go_enter Tryd.func15,Tryd.ntmps15
  go_wp2
  go_ret
  exact ⟨by first|rfl|(simp;done)|(simp [*];done),by repeat (first|exact Drawn0.refl _|apply Drawn0.step)⟩
 rw [if_neg c6] at H
 have c6b0 : (a0 == 16) = false := beq_eq_false_iff_ne.mpr c6
 have c6b1 : (a0 != 16) = true := bne_iff_ne.mpr c6
 obtain rfl := Option.some.inj H
 go_enter Tryd.func15,Tryd.ntmps15
 go_wp2
 go_ret
 exact ⟨by first|rfl|(simp;done)|(simp [*];done),by repeat (first|exact Drawn0.refl _|apply Drawn0.step)⟩

/-! ### impl_opOk: function 23 -/
def impl_opOk.f (a0_0 : Int) (a0_1 : Int) : Option (Bool) := if a0_0 ≥ 0 then (if a0_0 ≤ 19 then (if a0_1 ≥ 0 then ((impl_mostArg.f a0_0).bind fun t138 => (some (decide (a0_1 ≤ t138)))) else (some false)) else (some false)) else (some false)
set_option maxHeartbeats 8000000 in
set_option maxRecDepth 100000 in
theorem impl_opOk.calls (a0_0 : Int) (a0_1 : Int) (r : Bool) (w : World) (h : impl_opOk.f a0_0 a0_1 = some r) :
  Calls Tryd.prog 23 #[.agg #[.int .i64 a0_0,.int .i64 a0_1]] w fun e w' => e = .returned (.bool r) ∧ Below w.heap.size w w' := by
 have hu32 := Tryd.underlying32
 have HB := As_ (Below.refl w.heap.size w)
 have H : (if a0_0 ≥ 0 then (if a0_0 ≤ 19 then (if a0_1 ≥ 0 then ((impl_mostArg.f a0_0).bind fun t138 => (some (decide (a0_1 ≤ t138)))) else (some false)) else (some false)) else (some false)) = some r := h
 clear h
 by_cases c2 : a0_0 ≥ 0
 rotate_left
 ·rw [if_neg c2] at H
  have c2b0 : decide (0 ≤ a0_0) = false := deF c2
  clear c2
  obtain rfl := Option.some.inj H
  go_enter Tryd.func23,Tryd.ntmps23
  go_wp2_with (first|((with_reducible refine gate_dst (N := 1) rfl ?_);refine box_event ?hg (N := 1) ?hd (cs := #[.int .i64 a0_0,.int .i64 a0_1]) (t := 32) ?hr ?_;(case hd => rfl);(case hg => rfl);(case hr => go_simp <;> rfl);intro gb137 hg w12 hbox hb;have n0_ := As_ (bwT (zb0 HB.out) hb);have n1_ := As_ (hbox);have n2_ := As_ ((by rw [hg];exact (bwZ (zb0 HB.out)) : w.heap.size ≤ gb137));have n3_ := As_ ((by rw [hg];exact (bwZ (zb0 HB.out)) : w.heap.size ≤ gb137));clear HB;revert n0_ n1_ n2_ n3_;intro HB BK137 GW137 GE137;clear hb hbox hg;obtain ⟨hcz13_0,hcz13_1,hfz13_0,hfz13_1⟩ := bk2 BK137.out))
  repeat (go_quiet (first|((with_reducible refine gate_dst (N := 1) rfl ?_);refine box_event ?hg (N := 1) ?hd (cs := #[.int .i64 a0_0,.int .i64 a0_1]) (t := 32) ?hr ?_;(case hd => rfl);(case hg => rfl);(case hr => go_simp <;> rfl);intro gb137 hg w12 hbox hb;have n0_ := As_ (bwT (zb0 HB.out) hb);have n1_ := As_ (hbox);have n2_ := As_ ((by rw [hg];exact (bwZ (zb0 HB.out)) : w.heap.size ≤ gb137));have n3_ := As_ ((by rw [hg];exact (bwZ (zb0 HB.out)) : w.heap.size ≤ gb137));clear HB;revert n0_ n1_ n2_ n3_;intro HB BK137 GW137 GE137;clear hb hbox hg;obtain ⟨hcz13_0,hcz13_1,hfz13_0,hfz13_1⟩ := bk2 BK137.out));try go_wp2_with (first|((with_reducible refine gate_dst (N := 1) rfl ?_);refine box_event ?hg (N := 1) ?hd (cs := #[.int .i64 a0_0,.int .i64 a0_1]) (t := 32) ?hr ?_;(case hd => rfl);(case hg => rfl);(case hr => go_simp <;> rfl);intro gb137 hg w12 hbox hb;have n0_ := As_ (bwT (zb0 HB.out) hb);have n1_ := As_ (hbox);have n2_ := As_ ((by rw [hg];exact (bwZ (zb0 HB.out)) : w.heap.size ≤ gb137));have n3_ := As_ ((by rw [hg];exact (bwZ (zb0 HB.out)) : w.heap.size ≤ gb137));clear HB;revert n0_ n1_ n2_ n3_;intro HB BK137 GW137 GE137;clear hb hbox hg;obtain ⟨hcz13_0,hcz13_1,hfz13_0,hfz13_1⟩ := bk2 BK137.out)))
  go_ret
  exact ⟨zE_,zb1 HB.out GE137.out⟩

 rw [if_pos c2] at H
 have c2b0 : decide (0 ≤ a0_0) = true := deT c2
 clear c2
 by_cases c3 : a0_0 ≤ 19
 rotate_left
 ·rw [if_neg c3] at H
  have c3b0 : decide (a0_0 ≤ 19) = false := deF c3
  clear c3
  obtain rfl := Option.some.inj H
  go_enter Tryd.func23,Tryd.ntmps23
  go_wp2_with (first|((with_reducible refine gate_dst (N := 1) rfl ?_);refine box_event ?hg (N := 1) ?hd (cs := #[.int .i64 a0_0,.int .i64 a0_1]) (t := 32) ?hr ?_;(case hd => rfl);(case hg => rfl);(case hr => go_simp <;> rfl);intro gb137 hg w10 hbox hb;have n0_ := As_ (bwT (zb0 HB.out) hb);have n1_ := As_ (hbox);have n2_ := As_ ((by rw [hg];exact (bwZ (zb0 HB.out)) : w.heap.size ≤ gb137));have n3_ := As_ ((by rw [hg];exact (bwZ (zb0 HB.out)) : w.heap.size ≤ gb137));clear HB;revert n0_ n1_ n2_ n3_;intro HB BK137 GW137 GE137;clear hb hbox hg;obtain ⟨hcz11_0,hcz11_1,hfz11_0,hfz11_1⟩ := bk2 BK137.out))
  repeat (go_quiet (first|((with_reducible refine gate_dst (N := 1) rfl ?_);refine box_event ?hg (N := 1) ?hd (cs := #[.int .i64 a0_0,.int .i64 a0_1]) (t := 32) ?hr ?_;(case hd => rfl);(case hg => rfl);(case hr => go_simp <;> rfl);intro gb137 hg w10 hbox hb;have n0_ := As_ (bwT (zb0 HB.out) hb);have n1_ := As_ (hbox);have n2_ := As_ ((by rw [hg];exact (bwZ (zb0 HB.out)) : w.heap.size ≤ gb137));have n3_ := As_ ((by rw [hg];exact (bwZ (zb0 HB.out)) : w.heap.size ≤ gb137));clear HB;revert n0_ n1_ n2_ n3_;intro HB BK137 GW137 GE137;clear hb hbox hg;obtain ⟨hcz11_0,hcz11_1,hfz11_0,hfz11_1⟩ := bk2 BK137.out));try go_wp2_with (first|((with_reducible refine gate_dst (N := 1) rfl ?_);refine box_event ?hg (N := 1) ?hd (cs := #[.int .i64 a0_0,.int .i64 a0_1]) (t := 32) ?hr ?_;(case hd => rfl);(case hg => rfl);(case hr => go_simp <;> rfl);intro gb137 hg w10 hbox hb;have n0_ := As_ (bwT (zb0 HB.out) hb);have n1_ := As_ (hbox);have n2_ := As_ ((by rw [hg];exact (bwZ (zb0 HB.out)) : w.heap.size ≤ gb137));have n3_ := As_ ((by rw [hg];exact (bwZ (zb0 HB.out)) : w.heap.size ≤ gb137));clear HB;revert n0_ n1_ n2_ n3_;intro HB BK137 GW137 GE137;clear hb hbox hg;obtain ⟨hcz11_0,hcz11_1,hfz11_0,hfz11_1⟩ := bk2 BK137.out)))
  go_ret
  exact ⟨zE_,zb1 HB.out GE137.out⟩
 rw [if_pos c3] at H
 have c3b0 : decide (a0_0 ≤ 19) = true := deT c3
 clear c3
 by_cases c4 : a0_1 ≥ 0
 rotate_left
 ·rw [if_neg c4] at H
  have c4b0 : decide (0 ≤ a0_1) = false := deF c4
  clear c4
  obtain rfl := Option.some.inj H
  go_enter Tryd.func23,Tryd.ntmps23
  go_wp2_with (first|((with_reducible refine gate_dst (N := 1) rfl ?_);refine box_event ?hg (N := 1) ?hd (cs := #[.int .i64 a0_0,.int .i64 a0_1]) (t := 32) ?hr ?_;(case hd => rfl);(case hg => rfl);(case hr => go_simp <;> rfl);intro gb137 hg w8 hbox hb;have n0_ := As_ (bwT (zb0 HB.out) hb);have n1_ := As_ (hbox);have n2_ := As_ ((by rw [hg];exact (bwZ (zb0 HB.out)) : w.heap.size ≤ gb137));have n3_ := As_ ((by rw [hg];exact (bwZ (zb0 HB.out)) : w.heap.size ≤ gb137));clear HB;revert n0_ n1_ n2_ n3_;intro HB BK137 GW137 GE137;clear hb hbox hg;obtain ⟨hcz9_0,hcz9_1,hfz9_0,hfz9_1⟩ := bk2 BK137.out))
  repeat (go_quiet (first|((with_reducible refine gate_dst (N := 1) rfl ?_);refine box_event ?hg (N := 1) ?hd (cs := #[.int .i64 a0_0,.int .i64 a0_1]) (t := 32) ?hr ?_;(case hd => rfl);(case hg => rfl);(case hr => go_simp <;> rfl);intro gb137 hg w8 hbox hb;have n0_ := As_ (bwT (zb0 HB.out) hb);have n1_ := As_ (hbox);have n2_ := As_ ((by rw [hg];exact (bwZ (zb0 HB.out)) : w.heap.size ≤ gb137));have n3_ := As_ ((by rw [hg];exact (bwZ (zb0 HB.out)) : w.heap.size ≤ gb137));clear HB;revert n0_ n1_ n2_ n3_;intro HB BK137 GW137 GE137;clear hb hbox hg;obtain ⟨hcz9_0,hcz9_1,hfz9_0,hfz9_1⟩ := bk2 BK137.out));try go_wp2_with (first|((with_reducible refine gate_dst (N := 1) rfl ?_);refine box_event ?hg (N := 1) ?hd (cs := #[.int .i64 a0_0,.int .i64 a0_1]) (t := 32) ?hr ?_;(case hd => rfl);(case hg => rfl);(case hr => go_simp <;> rfl);intro gb137 hg w8 hbox hb;have n0_ := As_ (bwT (zb0 HB.out) hb);have n1_ := As_ (hbox);have n2_ := As_ ((by rw [hg];exact (bwZ (zb0 HB.out)) : w.heap.size ≤ gb137));have n3_ := As_ ((by rw [hg];exact (bwZ (zb0 HB.out)) : w.heap.size ≤ gb137));clear HB;revert n0_ n1_ n2_ n3_;intro HB BK137 GW137 GE137;clear hb hbox hg;obtain ⟨hcz9_0,hcz9_1,hfz9_0,hfz9_1⟩ := bk2 BK137.out)))
  go_ret
  exact ⟨zE_,zb1 HB.out GE137.out⟩
 rw [if_pos c4] at H
 have c4b0 : decide (0 ≤ a0_1) = true := deT c4
 clear c4
 replace H := obS H
 obtain ⟨t138,A50,H⟩ := H
 replace H : (some (decide (a0_1 ≤ t138))) = some r := H
 have A5 := As_ A50
 clear A50
 obtain rfl := Option.some.inj H
 go_enter Tryd.func23,Tryd.ntmps23
 go_wp2_with (first|((with_reducible refine gate_dst (N := 1) rfl ?_);refine box_event ?hg (N := 1) ?hd (cs := #[.int .i64 a0_0,.int .i64 a0_1]) (t := 32) ?hr ?_;(case hd => rfl);(case hg => rfl);(case hr => go_simp <;> rfl);intro gb137 hg w6 hbox hb;have n0_ := As_ (bwT (zb0 HB.out) hb);have n1_ := As_ (hbox);have n2_ := As_ ((by rw [hg];exact (bwZ (zb0 HB.out)) : w.heap.size ≤ gb137));have n3_ := As_ ((by rw [hg];exact (bwZ (zb0 HB.out)) : w.heap.size ≤ gb137));clear HB;revert n0_ n1_ n2_ n3_;intro HB BK137 GW137 GE137;clear hb hbox hg;obtain ⟨hcz7_0,hcz7_1,hfz7_0,hfz7_1⟩ := bk2 BK137.out)|(go_at_call 15;(with_reducible refine (impl_mostArg.calls a0_0 t138 _ A5.out).mono ?_);rintro e w' ⟨rfl,⟨nd,rfl⟩⟩;(try first|exact ⟨rfl,_,World.drewN_drewN _ _ _⟩|exact ⟨rfl,_,Eq.trans (World.drewN_drewN _ _ _) (congrArg (World.drewN _) (Nat.add_assoc _ _ _))⟩)))
 repeat (go_quiet (first|((with_reducible refine gate_dst (N := 1) rfl ?_);refine box_event ?hg (N := 1) ?hd (cs := #[.int .i64 a0_0,.int .i64 a0_1]) (t := 32) ?hr ?_;(case hd => rfl);(case hg => rfl);(case hr => go_simp <;> rfl);intro gb137 hg w6 hbox hb;have n0_ := As_ (bwT (zb0 HB.out) hb);have n1_ := As_ (hbox);have n2_ := As_ ((by rw [hg];exact (bwZ (zb0 HB.out)) : w.heap.size ≤ gb137));have n3_ := As_ ((by rw [hg];exact (bwZ (zb0 HB.out)) : w.heap.size ≤ gb137));clear HB;revert n0_ n1_ n2_ n3_;intro HB BK137 GW137 GE137;clear hb hbox hg;obtain ⟨hcz7_0,hcz7_1,hfz7_0,hfz7_1⟩ := bk2 BK137.out)|(go_at_call 15;(with_reducible refine (impl_mostArg.calls a0_0 t138 _ A5.out).mono ?_);rintro e w' ⟨rfl,⟨nd,rfl⟩⟩;(try first|exact ⟨rfl,_,World.drewN_drewN _ _ _⟩|exact ⟨rfl,_,Eq.trans (World.drewN_drewN _ _ _) (congrArg (World.drewN _) (Nat.add_assoc _ _ _))⟩)));try go_wp2_with (first|((with_reducible refine gate_dst (N := 1) rfl ?_);refine box_event ?hg (N := 1) ?hd (cs := #[.int .i64 a0_0,.int .i64 a0_1]) (t := 32) ?hr ?_;(case hd => rfl);(case hg => rfl);(case hr => go_simp <;> rfl);intro gb137 hg w6 hbox hb;have n0_ := As_ (bwT (zb0 HB.out) hb);have n1_ := As_ (hbox);have n2_ := As_ ((by rw [hg];exact (bwZ (zb0 HB.out)) : w.heap.size ≤ gb137));have n3_ := As_ ((by rw [hg];exact (bwZ (zb0 HB.out)) : w.heap.size ≤ gb137));clear HB;revert n0_ n1_ n2_ n3_;intro HB BK137 GW137 GE137;clear hb hbox hg;obtain ⟨hcz7_0,hcz7_1,hfz7_0,hfz7_1⟩ := bk2 BK137.out)|(go_at_call 15;(with_reducible refine (impl_mostArg.calls a0_0 t138 _ A5.out).mono ?_);rintro e w' ⟨rfl,⟨nd,rfl⟩⟩;(try first|exact ⟨rfl,_,World.drewN_drewN _ _ _⟩|exact ⟨rfl,_,Eq.trans (World.drewN_drewN _ _ _) (congrArg (World.drewN _) (Nat.add_assoc _ _ _))⟩))))
 go_ret
 exact ⟨zE_,zb1 HB.out GE137.out⟩
/-! ### impl_ValidOps: function 12 -/
def impl_ValidOps.l0 : Nat → List (S32) → List (S32) → Int → Int → Option (Bool)
 | 0,_,_,_,_ => none
 | k + 1,x0,x5,x6,x7 => if x7 < x6 then (if 0 ≤ x7 then (if x7 < (x5.length : Int) then ((impl_opOk.f ((rd_T32 x5 x7).f0) ((rd_T32 x5 x7).f1)).bind fun t141 => (if t141 = true then (impl_ValidOps.l0 k x0 x5 x6 (wrap64 (x7 + 1))) else (some false))) else (none)) else (none)) else (some (decide ((x0.length : Int) ≤ 300)))
def impl_ValidOps.f (k : Nat) (l0 : List (S32)) : Option (Bool) := impl_ValidOps.l0 k l0 l0 (l0.length : Int) 0
set_option maxRecDepth 100000 in
theorem impl_ValidOps.mono_l : ∀ k,(∀ y0 y1 y2 y3,LeO (impl_ValidOps.l0 k y0 y1 y2 y3) (impl_ValidOps.l0 (k + 1) y0 y1 y2 y3))
 | 0 => fun _ _ _ _ r h => (by cases h)
 | k + 1 => by
  have ih0 := impl_ValidOps.mono_l k
  ·intro y0 y1 y2 y3
   unfold impl_ValidOps.l0
   repeat' first
   | (with_reducible exact ih0 _ _ _ _)
   | (with_reducible exact LeO.refl _)
   | (with_reducible exact LeO.none _)
   | (with_reducible refine LeO.ite ?_ ?_)
   | (with_reducible refine LeO.bind ?_ (fun _ => ?_))
   | exact ih0 _ _ _ _
   | exact LeO.none _
   | refine LeO.ite ?_ ?_
   | refine LeO.bind ?_ (fun _ => ?_)
set_option maxRecDepth 100000 in
theorem impl_ValidOps.mono : ∀ a0 k,LeO (impl_ValidOps.f k a0) (impl_ValidOps.f (k + 1) a0) := by
 intro a0 k
 have ih0 := impl_ValidOps.mono_l k
 unfold impl_ValidOps.f
 repeat' first
   | (with_reducible exact ih0 _ _ _ _)
   | (with_reducible exact LeO.refl _)
   | (with_reducible exact LeO.none _)
   | (with_reducible refine LeO.ite ?_ ?_)
   | (with_reducible refine LeO.bind ?_ (fun _ => ?_))
   | exact ih0 _ _ _ _
   | exact LeO.none _
   | refine LeO.ite ?_ ?_
   | refine LeO.bind ?_ (fun _ => ?_)
set_option maxHeartbeats 8000000 in
set_option maxRecDepth 100000 in
theorem impl_ValidOps.calls (k : Nat) (A0 : Option Addr) (c0 : Nat) (l0 : List (S32)) (r : Bool) (w : World) (hr0 : Kd.C k32 w A0 l0.length l0) (hc0 : l0.length ≤ c0) (h : impl_ValidOps.f k l0 = some r) :
  Calls Tryd.prog 12 #[.slice A0 l0.length c0] w fun e w' => e = .returned (.bool r) ∧ Below w.heap.size w w' := by
 have hu32 := Tryd.underlying32
 have HR0 := As_ hr0
 have HC0 := As_ hc0
 clear hr0 hc0
 have HB := As_ (Below.refl w.heap.size w)
 have H : (impl_ValidOps.l0 k l0 l0 (l0.length : Int) 0) = some r := h
 clear h
 have H' := As_ H
 clear H
 go_enter Tryd.func12,Tryd.ntmps12
 go_wp2
 go_loopg [7] k (fun kq v7 w' => ∃ (x7_1 : Int),v7 = .int .i64 x7_1 ∧ Aside0 (impl_ValidOps.l0 kq l0 l0 (l0.length : Int) x7_1 = some r) ∧ Aside0 (kq ≤ k) ∧ Aside0 (Below w.heap.size w w'))
 case atStart => exact ⟨(0),zT_,H',⟨Nat.le_refl _⟩,⟨zb0 HB.out⟩⟩
 case round =>
  clear H'
  obtain ⟨x7_1,rfl,HA,HK1,HB⟩ := hrel
  cases gk with
  | zero => exact absurd HA.out (fun h_ => (by cases h_))
  | succ k1 =>
   have H := HA.out
   clear HA
   simp only [impl_ValidOps.l0] at H
   by_cases c2 : x7_1 < (l0.length : Int)
   rotate_left
   ·rw [if_neg c2] at H
    have c2b0 : decide (x7_1 < (l0.length : Int)) = false := deF c2
    clear c2
    obtain rfl := Option.some.inj H
    go_wp2
    go_ret
    exact ⟨zE_,zb0 HB.out⟩

   rw [if_pos c2] at H
   have c2b0 : decide (x7_1 < (l0.length : Int)) = true := deT c2
   clear c2
   by_cases c3 : 0 ≤ x7_1
   rotate_left
   ·rw [if_neg c3] at H
    exact absurd H (by simp)
   rw [if_pos c3] at H
   have c3b0 : decide (0 ≤ x7_1) = true := deT c3
   clear c3
   by_cases c4 : x7_1 < (l0.length : Int)
   rotate_left
   ·rw [if_neg c4] at H
    exact absurd H (by simp)
   rw [if_pos c4] at H
   have c4b0 : decide (x7_1 < (l0.length : Int)) = true := deT c4
   clear c4
   replace H := obS H
   obtain ⟨t141,A50,H⟩ := H
   replace H : (if t141 = true then (impl_ValidOps.l0 k1 l0 l0 (l0.length : Int) (wrap64 (x7_1 + 1))) else (some false)) = some r := H
   have A5 := As_ A50
   clear A50
   by_cases c6 : t141 = true
   rotate_left
   ·replace c6 := Bool.eq_false_iff.mpr c6
    subst c6
    have H1 : (some false) = some r := by rw [if_neg (show ¬ (false = true) by decide)] at H;exact H
    clear H
    have H := H1
    clear H1
    obtain rfl := Option.some.inj H
    have p139 : 0 ≤ (x7_1 : Int) := odT zA_
    have q139 : x7_1 < (l0.length : Int) := odT zA_
    obtain ⟨ad139,e139,hx139_0,hx139_1⟩ := at_T32 HR0.out x7_1 p139 q139
    cases e139
    replace hx139_0 := bwC HB.out hx139_0
    replace hx139_1 := bwC HB.out hx139_1
    replace p139 := eq_true p139
    replace q139 := eq_true q139
    go_wp2_with (first|((with_reducible refine gate_dst (N := 4) rfl ?_);refine box_event ?hg (N := 4) ?hd (cs := #[.int .i64 0,.int .i64 0]) (t := 32) ?hr ?_;(case hd => rfl);(case hg => rfl);(case hr => go_simp <;> rfl);intro gb140 hg w10 hbox hb;have n0_ := As_ (bwT (zb0 HB.out) hb);have n1_ := As_ (hbox);have n2_ := As_ ((by rw [hg];exact (bwZ (zb0 HB.out)) : w.heap.size ≤ gb140));have n3_ := As_ ((by rw [hg];exact (bwZ (zb0 HB.out)) : w.heap.size ≤ gb140));clear HB;revert n0_ n1_ n2_ n3_;intro HB BK140 GW140 GE140;clear hb hbox hg;obtain ⟨hcz11_0,hcz11_1,hfz11_0,hfz11_1⟩ := bk2 BK140.out)|((with_reducible refine gate_callee (f := 23) rfl ?_);refine goesL_ (some 12) rfl rfl Tryd.func23 (by kernel_rfl) rfl #[.agg #[.int .i64 ((rd_T32 l0 x7_1).f0),.int .i64 ((rd_T32 l0 x7_1).f1)]] rfl zM_ ?_;(with_reducible refine (impl_opOk.calls ((rd_T32 l0 x7_1).f0) ((rd_T32 l0 x7_1).f1) false _ A5.out).mono ?_);rintro e w12 ⟨rfl,hb⟩;refine ⟨_,rfl,?_⟩;have n0_ := As_ (blk_below (g := gb140) (o := .cells #[.int .i64 ((rd_T32 l0 x7_1).f0),.int .i64 ((rd_T32 l0 x7_1).f1)] 32 (0,0)) (by (with_reducible repeat first|apply bkN|apply bkD|apply bkA);refine blk_put (cs := #[.int .i64 ((rd_T32 l0 x7_1).f0),.int .i64 0]) ?_ 1 _ rfl;(with_reducible repeat first|apply bkN|apply bkD|apply bkA);refine blk_put (cs := #[.int .i64 0,.int .i64 0]) ?_ 0 _ rfl;(with_reducible repeat first|apply bkN|apply bkD|apply bkA);exact BK140.out) hb);have n1_ := As_ (bwT (zb1 HB.out GE140.out) hb);clear BK140 HB;revert n0_ n1_;intro BK140 HB))
    go_ret
    exact ⟨zE_,zb1 HB.out GE140.out⟩
   subst c6
   have H1 : (impl_ValidOps.l0 k1 l0 l0 (l0.length : Int) (wrap64 (x7_1 + 1))) = some r := by rw [if_pos rfl] at H;exact H
   clear H
   have H := H1
   clear H1
   have H' := As_ H
   clear H
   have p139 : 0 ≤ (x7_1 : Int) := odT zA_
   have q139 : x7_1 < (l0.length : Int) := odT zA_
   obtain ⟨ad139,e139,hx139_0,hx139_1⟩ := at_T32 HR0.out x7_1 p139 q139
   cases e139
   replace hx139_0 := bwC HB.out hx139_0
   replace hx139_1 := bwC HB.out hx139_1
   replace p139 := eq_true p139
   replace q139 := eq_true q139
   go_wp2_with (first|((with_reducible refine gate_dst (N := 4) rfl ?_);refine box_event ?hg (N := 4) ?hd (cs := #[.int .i64 0,.int .i64 0]) (t := 32) ?hr ?_;(case hd => rfl);(case hg => rfl);(case hr => go_simp <;> rfl);intro gb140 hg w7 hbox hb;have n0_ := As_ (bwT (zb0 HB.out) hb);have n1_ := As_ (hbox);have n2_ := As_ ((by rw [hg];exact (bwZ (zb0 HB.out)) : w.heap.size ≤ gb140));have n3_ := As_ ((by rw [hg];exact (bwZ (zb0 HB.out)) : w.heap.size ≤ gb140));clear HB;revert n0_ n1_ n2_ n3_;intro HB BK140 GW140 GE140;clear hb hbox hg;obtain ⟨hcz8_0,hcz8_1,hfz8_0,hfz8_1⟩ := bk2 BK140.out)|((with_reducible refine gate_callee (f := 23) rfl ?_);refine goesL_ (some 12) rfl rfl Tryd.func23 (by kernel_rfl) rfl #[.agg #[.int .i64 ((rd_T32 l0 x7_1).f0),.int .i64 ((rd_T32 l0 x7_1).f1)]] rfl zM_ ?_;(with_reducible refine (impl_opOk.calls ((rd_T32 l0 x7_1).f0) ((rd_T32 l0 x7_1).f1) true _ A5.out).mono ?_);rintro e w9 ⟨rfl,hb⟩;refine ⟨_,rfl,?_⟩;have n0_ := As_ (blk_below (g := gb140) (o := .cells #[.int .i64 ((rd_T32 l0 x7_1).f0),.int .i64 ((rd_T32 l0 x7_1).f1)] 32 (0,0)) (by (with_reducible repeat first|apply bkN|apply bkD|apply bkA);refine blk_put (cs := #[.int .i64 ((rd_T32 l0 x7_1).f0),.int .i64 0]) ?_ 1 _ rfl;(with_reducible repeat first|apply bkN|apply bkD|apply bkA);refine blk_put (cs := #[.int .i64 0,.int .i64 0]) ?_ 0 _ rfl;(with_reducible repeat first|apply bkN|apply bkD|apply bkA);exact BK140.out) hb);have n1_ := As_ (bwT (zb1 HB.out GE140.out) hb);clear BK140 HB;revert n0_ n1_;intro BK140 HB))
   go_roundg k1
   case measure => have := HK1.out;omega
   case rel => exact ⟨(wrap64 (x7_1 + 1)),zT_,H',⟨by have := HK1.out;omega⟩,⟨zb1 HB.out GE140.out⟩⟩
/-! ### impl_words: function 14 -/
def impl_words.f  : Option (List ByteArray) := some (([(⟨#[105,110,116]⟩ : ByteArray),(⟨#[116,101,120,116]⟩ : ByteArray),(⟨#[109,97,114,107]⟩ : ByteArray),(⟨#[116,117,112,108,101]⟩ : ByteArray),(⟨#[116,117,112,108,101,48]⟩ : ByteArray),(⟨#[116,117,112,108,101,49]⟩ : ByteArray),(⟨#[116,117,112,108,101,50]⟩ : ByteArray),(⟨#[108,105,115,116]⟩ : ByteArray),(⟨#[97,112,112,101,110,100]⟩ : ByteArray),(⟨#[97,112,112,101,110,100,115]⟩ : ByteArray),(⟨#[100,105,99,116]⟩ : ByteArray),(⟨#[115,101,116,105,116,101,109]⟩ : ByteArray),(⟨#[115,101,116,105,116,101,109,115]⟩ : ByteArray),(⟨#[110,101,119]⟩ : ByteArray),(⟨#[115,116,97,116,101]⟩ : ByteArray),(⟨#[112,117,116]⟩ : ByteArray),(⟨#[103,101,116]⟩ : ByteArray),(⟨#[112,111,112]⟩ : ByteArray),(⟨#[112,111,112,109,97,114,107]⟩ : ByteArray),(⟨#[115,116,111,112]⟩ : ByteArray)] : List ByteArray))
set_option maxHeartbeats 8000000 in
set_option maxRecDepth 100000 in
theorem impl_words.calls  (r : List ByteArray) (w : World) (h : impl_words.f  = some r) :
  Calls Tryd.prog 14 #[] w fun e w' => ∃ v0_ : Value,e = .returned (v0_) ∧ Kd.R Kd.string 9 w' w.heap.size (fun _ => True) v0_ r ∧ Below w.heap.size w w' := by
 have HB := As_ (Below.refl w.heap.size w)
 have H : (some (([(⟨#[105,110,116]⟩ : ByteArray),(⟨#[116,101,120,116]⟩ : ByteArray),(⟨#[109,97,114,107]⟩ : ByteArray),(⟨#[116,117,112,108,101]⟩ : ByteArray),(⟨#[116,117,112,108,101,48]⟩ : ByteArray),(⟨#[116,117,112,108,101,49]⟩ : ByteArray),(⟨#[116,117,112,108,101,50]⟩ : ByteArray),(⟨#[108,105,115,116]⟩ : ByteArray),(⟨#[97,112,112,101,110,100]⟩ : ByteArray),(⟨#[97,112,112,101,110,100,115]⟩ : ByteArray),(⟨#[100,105,99,116]⟩ : ByteArray),(⟨#[115,101,116,105,116,101,109]⟩ : ByteArray),(⟨#[115,101,116,105,116,101,109,115]⟩ : ByteArray),(⟨#[110,101,119]⟩ : ByteArray),(⟨#[115,116,97,116,101]⟩ : ByteArray),(⟨#[112,117,116]⟩ : ByteArray),(⟨#[103,101,116]⟩ : ByteArray),(⟨#[112,111,112]⟩ : ByteArray),(⟨#[112,111,112,109,97,114,107]⟩ : ByteArray),(⟨#[115,116,111,112]⟩ : ByteArray)] : List ByteArray))) = some r := h
 clear h
 obtain ⟨y142,hy142⟩ : ∃ y_ : List ByteArray,y_ = (([(⟨#[105,110,116]⟩ : ByteArray),(⟨#[116,101,120,116]⟩ : ByteArray),(⟨#[109,97,114,107]⟩ : ByteArray),(⟨#[116,117,112,108,101]⟩ : ByteArray),(⟨#[116,117,112,108,101,48]⟩ : ByteArray),(⟨#[116,117,112,108,101,49]⟩ : ByteArray),(⟨#[116,117,112,108,101,50]⟩ : ByteArray),(⟨#[108,105,115,116]⟩ : ByteArray),(⟨#[97,112,112,101,110,100]⟩ : ByteArray),(⟨#[97,112,112,101,110,100,115]⟩ : ByteArray),(⟨#[100,105,99,116]⟩ : ByteArray),(⟨#[115,101,116,105,116,101,109]⟩ : ByteArray),(⟨#[115,101,116,105,116,101,109,115]⟩ : ByteArray),(⟨#[110,101,119]⟩ : ByteArray),(⟨#[115,116,97,116,101]⟩ : ByteArray),(⟨#[112,117,116]⟩ : ByteArray),(⟨#[103,101,116]⟩ : ByteArray),(⟨#[112,111,112]⟩ : ByteArray),(⟨#[112,111,112,109,97,114,107]⟩ : ByteArray),(⟨#[115,116,111,112]⟩ : ByteArray)] : List ByteArray)) := ⟨_,rfl⟩
 replace H : (some y142) = some r := zH_ H hy142
 have Ny142 := As_ hy142
 clear hy142
 obtain rfl := Option.some.inj H
 go_enter Tryd.func14,Tryd.ntmps14
 go_wp2_with (first|((with_reducible refine gate_dst (N := 1) rfl ?_);refine Kd.R_lit Kd.string _ 9 ?hg (N := 1) ?hd (xs := ([(⟨#[105,110,116]⟩ : ByteArray),(⟨#[116,101,120,116]⟩ : ByteArray),(⟨#[109,97,114,107]⟩ : ByteArray),(⟨#[116,117,112,108,101]⟩ : ByteArray),(⟨#[116,117,112,108,101,48]⟩ : ByteArray),(⟨#[116,117,112,108,101,49]⟩ : ByteArray),(⟨#[116,117,112,108,101,50]⟩ : ByteArray),(⟨#[108,105,115,116]⟩ : ByteArray),(⟨#[97,112,112,101,110,100]⟩ : ByteArray),(⟨#[97,112,112,101,110,100,115]⟩ : ByteArray),(⟨#[100,105,99,116]⟩ : ByteArray),(⟨#[115,101,116,105,116,101,109]⟩ : ByteArray),(⟨#[115,101,116,105,116,101,109,115]⟩ : ByteArray),(⟨#[110,101,119]⟩ : ByteArray),(⟨#[115,116,97,116,101]⟩ : ByteArray),(⟨#[112,117,116]⟩ : ByteArray),(⟨#[103,101,116]⟩ : ByteArray),(⟨#[112,111,112]⟩ : ByteArray),(⟨#[112,111,112,109,97,114,107]⟩ : ByteArray),(⟨#[115,116,111,112]⟩ : ByteArray)] : List ByteArray)) (inner := [.string (⟨#[105,110,116]⟩ : ByteArray),.string (⟨#[116,101,120,116]⟩ : ByteArray),.string (⟨#[109,97,114,107]⟩ : ByteArray),.string (⟨#[116,117,112,108,101]⟩ : ByteArray),.string (⟨#[116,117,112,108,101,48]⟩ : ByteArray),.string (⟨#[116,117,112,108,101,49]⟩ : ByteArray),.string (⟨#[116,117,112,108,101,50]⟩ : ByteArray),.string (⟨#[108,105,115,116]⟩ : ByteArray),.string (⟨#[97,112,112,101,110,100]⟩ : ByteArray),.string (⟨#[97,112,112,101,110,100,115]⟩ : ByteArray),.string (⟨#[100,105,99,116]⟩ : ByteArray),.string (⟨#[115,101,116,105,116,101,109]⟩ : ByteArray),.string (⟨#[115,101,116,105,116,101,109,115]⟩ : ByteArray),.string (⟨#[110,101,119]⟩ : ByteArray),.string (⟨#[115,116,97,116,101]⟩ : ByteArray),.string (⟨#[112,117,116]⟩ : ByteArray),.string (⟨#[103,101,116]⟩ : ByteArray),.string (⟨#[112,111,112]⟩ : ByteArray),.string (⟨#[112,111,112,109,97,114,107]⟩ : ByteArray),.string (⟨#[115,116,111,112]⟩ : ByteArray)]) (ok := fun _ => True) (okp := fun _ => True) ?hr ?hp (fun _ hk => hk) trivial (Below.refl _ _) (Nat.le_refl _) (by simp) ?_;(case hd => rfl);(case hg => rfl);(case hr => go_simp <;> rfl);(case hp => exact (Reps.one (show Kd.M Kd.string _ _ _ (⟨#[105,110,116]⟩ : ByteArray) [.string (⟨#[105,110,116]⟩ : ByteArray)] from rfl) (Reps.one (show Kd.M Kd.string _ _ _ (⟨#[116,101,120,116]⟩ : ByteArray) [.string (⟨#[116,101,120,116]⟩ : ByteArray)] from rfl) (Reps.one (show Kd.M Kd.string _ _ _ (⟨#[109,97,114,107]⟩ : ByteArray) [.string (⟨#[109,97,114,107]⟩ : ByteArray)] from rfl) (Reps.one (show Kd.M Kd.string _ _ _ (⟨#[116,117,112,108,101]⟩ : ByteArray) [.string (⟨#[116,117,112,108,101]⟩ : ByteArray)] from rfl) (Reps.one (show Kd.M Kd.string _ _ _ (⟨#[116,117,112,108,101,48]⟩ : ByteArray) [.string (⟨#[116,117,112,108,101,48]⟩ : ByteArray)] from rfl) (Reps.one (show Kd.M Kd.string _ _ _ (⟨#[116,117,112,108,101,49]⟩ : ByteArray) [.string (⟨#[116,117,112,108,101,49]⟩ : ByteArray)] from rfl) (Reps.one (show Kd.M Kd.string _ _ _ (⟨#[116,117,112,108,101,50]⟩ : ByteArray) [.string (⟨#[116,117,112,108,101,50]⟩ : ByteArray)] from rfl) (Reps.one (show Kd.M Kd.string _ _ _ (⟨#[108,105,115,116]⟩ : ByteArray) [.string (⟨#[108,105,115,116]⟩ : ByteArray)] from rfl) (Reps.one (show Kd.M Kd.string _ _ _ (⟨#[97,112,112,101,110,100]⟩ : ByteArray) [.string (⟨#[97,112,112,101,110,100]⟩ : ByteArray)] from rfl) (Reps.one (show Kd.M Kd.string _ _ _ (⟨#[97,112,112,101,110,100,115]⟩ : ByteArray) [.string (⟨#[97,112,112,101,110,100,115]⟩ : ByteArray)] from rfl) (Reps.one (show Kd.M Kd.string _ _ _ (⟨#[100,105,99,116]⟩ : ByteArray) [.string (⟨#[100,105,99,116]⟩ : ByteArray)] from rfl) (Reps.one (show Kd.M Kd.string _ _ _ (⟨#[115,101,116,105,116,101,109]⟩ : ByteArray) [.string (⟨#[115,101,116,105,116,101,109]⟩ : ByteArray)] from rfl) (Reps.one (show Kd.M Kd.string _ _ _ (⟨#[115,101,116,105,116,101,109,115]⟩ : ByteArray) [.string (⟨#[115,101,116,105,116,101,109,115]⟩ : ByteArray)] from rfl) (Reps.one (show Kd.M Kd.string _ _ _ (⟨#[110,101,119]⟩ : ByteArray) [.string (⟨#[110,101,119]⟩ : ByteArray)] from rfl) (Reps.one (show Kd.M Kd.string _ _ _ (⟨#[115,116,97,116,101]⟩ : ByteArray) [.string (⟨#[115,116,97,116,101]⟩ : ByteArray)] from rfl) (Reps.one (show Kd.M Kd.string _ _ _ (⟨#[112,117,116]⟩ : ByteArray) [.string (⟨#[112,117,116]⟩ : ByteArray)] from rfl) (Reps.one (show Kd.M Kd.string _ _ _ (⟨#[103,101,116]⟩ : ByteArray) [.string (⟨#[103,101,116]⟩ : ByteArray)] from rfl) (Reps.one (show Kd.M Kd.string _ _ _ (⟨#[112,111,112]⟩ : ByteArray) [.string (⟨#[112,111,112]⟩ : ByteArray)] from rfl) (Reps.one (show Kd.M Kd.string _ _ _ (⟨#[112,111,112,109,97,114,107]⟩ : ByteArray) [.string (⟨#[112,111,112,109,97,114,107]⟩ : ByteArray)] from rfl) (Reps.one (show Kd.M Kd.string _ _ _ (⟨#[115,116,111,112]⟩ : ByteArray) [.string (⟨#[115,116,111,112]⟩ : ByteArray)] from rfl) (Reps.none _ _))))))))))))))))))))));intro v143 w1 ho2 hb hg_ hnew_;clear hg_ hnew_;(first|rw [← Ny142.out] at ho2|(simp only [Int.reduceToNat] at ho2;rw [← Ny142.out] at ho2));have n0_ := As_ (Kd.R_lower ho2 (bwZ (zb0 HB.out)));have n1_ := As_ (bwT (zb0 HB.out) hb);clear HB;revert n0_ n1_;intro HO144 HB;clear hb ho2))
 go_ret
 exact ⟨_,zE_,by (with_reducible repeat (first|apply Kd.R_alloc|apply Kd.R_drewN|apply Kd.R_drew));exact HO144.out,zb0 HB.out⟩

/-! ### strconv_small: function 29: left out (the library's: met by its contract) -/

/-! ### strconv_log10Pow2: function 33: left out (the library's: met by its contract) -/

/-! ### bits_Len64: function 34: left out (the library's: met by its contract) -/

/-! ### strconv_bool2_int: function 35: left out (the library's: met by its contract) -/

/-! ### strconv_isPowerOfTwo: function 36: left out (the library's: met by its contract) -/

end Go.Proofs.YtbokjhdhpmmpfaaDoor.Q
