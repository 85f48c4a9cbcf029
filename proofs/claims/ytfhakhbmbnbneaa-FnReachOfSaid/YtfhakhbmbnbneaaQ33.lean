-- Written by wip/tools/qprint.py (a program of this claim's author) by means of the kit's printer.
import Derived.Test.YtfhakhbmbnbneaaQ0
import Derived.Test.YtfhakhbmbnbneaaQ60
import Derived.Test.YtfhakhbmbnbneaaQ61
import Derived.Test.YtfhakhbmbnbneaaQ90
namespace Go.Proofs.Ytfhakhbmbnbneaa.Q
open Go.RowKit Go.Proofs.YtfhakhbmbnbneaaW.PrintWords Go.Proofs.YtfhakhbmbnbneaaW.PrintLast Go.Proofs.YtfhakhbmbnbneaaW.PrintMore
attribute [local go_sem] max2_int min2_int max_two min_two max_three min_three max_four min_four   -- for this text's walks alone
set_option linter.unusedVariables false
set_option linter.unusedSimpArgs false

/-! ### spec_DrawReachOf: function 33 -/
def spec_DrawReachOf.f (k : Nat) (l0 : List Int) : Option ((List (S45)) × Int) := (spec_newReader.f l0).bind fun bt800 => ((spec_anyGraph.f k bt800.1 bt800.2).bind fun bt803 => (some (bt803.1,bt803.2.1)))
set_option maxRecDepth 100000 in
theorem spec_DrawReachOf.mono : ∀ a0 k,LeO (spec_DrawReachOf.f k a0) (spec_DrawReachOf.f (k + 1) a0) := by
 intro a0 k
 unfold spec_DrawReachOf.f
 repeat' first
   | (with_reducible exact spec_anyGraph.mono _ _ _)
   | (with_reducible exact LeO.refl _)
   | (with_reducible exact LeO.none _)
   | (with_reducible refine LeO.ite ?_ ?_)
   | (with_reducible refine LeO.bind ?_ (fun _ => ?_))
   | exact spec_anyGraph.mono _ _ _
   | exact LeO.none _
   | refine LeO.ite ?_ ?_
   | refine LeO.bind ?_ (fun _ => ?_)
set_option maxHeartbeats 8000000 in
set_option maxRecDepth 100000 in
theorem spec_DrawReachOf.calls (k : Nat) (A0 : Option Addr) (c0 : Nat) (l0 : List Int) (r1 : List (S45)) (r2 : Int) (w : World) (hr0 : Kd.C (Kd.int .u8) w A0 l0.length l0) (hc0 : l0.length ≤ c0) (h : spec_DrawReachOf.f k l0 = some (r1,r2)) :
  Calls Try.prog 33 #[.slice A0 l0.length c0] w fun e w' => ∃ v0_ : Value,e = .returned (.agg #[v0_,.int .i64 r2]) ∧ Kd.S k45 45 w' w.heap.size (fun _ => True) v0_ r1 ∧ Below w.heap.size w w' := by
 have hu29 := Try.underlying29
 have HR0 := As_ hr0
 have HC0 := As_ hc0
 clear hr0 hc0
 have HB := As_ (Below.refl w.heap.size w)
 have H : ((spec_newReader.f l0).bind fun bt800 => ((spec_anyGraph.f k bt800.1 bt800.2).bind fun bt803 => (some (bt803.1,bt803.2.1)))) = some (r1,r2) := h
 clear h
 replace H := obS H
 obtain ⟨⟨t800,t801⟩,A20,H⟩ := H
 replace H : ((spec_anyGraph.f k t800 t801).bind fun bt803 => (some (bt803.1,bt803.2.1))) = some (r1,r2) := H
 have A2 := As_ A20
 clear A20
 replace H := obS H
 obtain ⟨⟨t803,t806,t807⟩,A30,H⟩ := H
 replace H : (some (t803,t806)) = some (r1,r2) := H
 have A3 := As_ A30
 clear A30
 simp only [Option.some.injEq,Prod.mk.injEq] at H
 obtain ⟨rfl,rfl⟩ := H
 go_enter Try.func33,Try.ntmps33
 go_wp2_with (first|((with_reducible refine gate_dst (N := 2) rfl ?_);refine box_event ?hg (N := 2) ?hd (cs := #[.slice none 0 0,.int .i64 0]) (t := 29) ?hr ?_;(case hd => rfl);(case hg => rfl);(case hr => go_simp <;> rfl);intro gb799 hg w4 hbox hb;have n0_ := As_ (bwT (zb0 HB.out) hb);have n1_ := As_ (hbox);have n2_ := As_ ((by rw [hg];exact (bwZ (zb0 HB.out)) : w.heap.size ≤ gb799));have n3_ := As_ ((by rw [hg];exact (bwZ (zb0 HB.out)) : w.heap.size ≤ gb799));clear HB;have HB := n0_;have BK799 := n1_;have GW799 := n2_;have GE799 := n3_;clear n0_ n1_ n2_ n3_;clear hb hbox hg)|((with_reducible refine gate_callee (f := 61) rfl ?_);refine goesL_ (some 4) rfl rfl Try.func61 (by kernel_rfl) rfl #[.slice A0 l0.length c0] rfl zM_ ?_;(with_reducible refine (spec_newReader.calls _ _ l0 t800 t801 w _ ?side1 ?side2 ?side3 A2.out).mono ?_);(case side1 => exact zb1 HB.out GE799.out);(case side2 => exact HR0.out);(case side3 => exact HC0.out);rintro e w5 ⟨g802,rfl,hi,hb,hb2⟩;refine ⟨_,rfl,?_⟩;have n0_ := As_ (zkb BK799.out hb2);have n1_ := As_ (hb);have n2_ := As_ (hi);have n3_ := As_ (IsS85.ne_blk hi (zkb BK799.out hb2) (by decide));have n4_ := As_ (Ne.symm (IsS85.ne_blk hi (zkb BK799.out hb2) (by decide)));clear BK799;clear HB;have BK799 := n0_;have HB := n1_;have HI802 := n2_;have NB802_799 := n3_;have NB799_802 := n4_;clear n0_ n1_ n2_ n3_ n4_;(try clear hb);(try clear hb2);(try clear hk);(try clear hi))|((with_reducible refine gate_callee (f := 60) rfl ?_);refine goesL_ (some 5) rfl rfl Try.func60 (by kernel_rfl) rfl #[.pointer (some ⟨g802,0,none⟩)] rfl zM_ ?_;(with_reducible refine (spec_anyGraph.calls k g802 t800 t801 t803 t806 t807 w _ ?side1 ?side2 A3.out).mono ?_);(case side1 => exact zi85_1 HI802.out NB802_799.out);(case side2 => exact zb2 HB.out (IsS85.ge HI802.out) GE799.out);rintro e w6 ⟨v804,rfl,ho0,hi,hb,hk⟩;refine ⟨_,rfl,?_⟩;have n0_ := As_ (KeepBut.blk hk (g' := gb799) (o := .cells #[.slice none 0 0,.int .i64 0] 29 (0,0)) (zk_ BK799.out) NB799_802.out (by simp));have n1_ := As_ (Kd.S_lower ho0 (bwZ (zb2 HB.out (IsS85.ge HI802.out) GE799.out)));have n2_ := As_ (hb);have n3_ := As_ (hi);clear BK799;clear HB;clear HI802;have BK799 := n0_;have HO805 := n1_;have HB := n2_;have HI802 := n3_;clear n0_ n1_ n2_ n3_;(try clear hb);(try clear hb2);(try clear hk);(try clear hi);(try clear ho0);obtain ⟨Ao7,co7,eo7⟩ := Kd.S_slice HO805.out;subst eo7;have hnb8 := NB799_802.out;have hnc8 := NB802_799.out;have hcz9_0 : w6.cell? ⟨gb799,0,none⟩ = some (.slice none 0 0) := (bkC BK799.out 0).trans rfl;have hcz9_1 : w6.cell? ⟨gb799,1,none⟩ = some (.int .i64 0) := (bkC BK799.out 1).trans rfl;have hfz9_0 := bkF BK799.out 0;have hfz9_1 := bkF BK799.out 1))
 refine bodyPost_ret (results_cell_row rfl _ _ gb799 29 #[.slice Ao7 t803.length co7,.int .i64 t806] (0,0) _ rfl (by (with_reducible repeat (first|refine bkN ?_ _|refine bkD ?_|refine bkA ?_ _));refine blk_put (cs := #[.slice Ao7 t803.length co7,.int .i64 0]) ?_ 1 _ rfl;(with_reducible repeat (first|refine bkN ?_ _|refine bkD ?_|refine bkA ?_ _));refine blk_put (cs := #[.slice none 0 0,.int .i64 0]) ?_ 0 _ rfl;(with_reducible repeat (first|refine bkN ?_ _|refine bkD ?_|refine bkA ?_ _));exact BK799.out) Try.underlying29 rfl (by kernel_rfl)) rfl ?_
 exact ⟨_,by first|rfl|(simp [errW_none,errW_some] <;> rfl)|(simp [*,errW_none,errW_some] <;> rfl),by (with_reducible repeat (first|apply Kd.S_alloc|apply Kd.S_drewN|apply Kd.S_drew));exact Kd.S_mono (Kd.S_far (p := ⟨gb799,1,none⟩) (Kd.S_far (p := ⟨gb799,0,none⟩) (Kd.S_types HO805.out BK799.out (by decide)) (fun _ hk => hk.2) (.slice Ao7 t803.length co7)) (fun _ hk => hk.2) (.int .i64 t806)) (fun _ hk => trivial),zb2 HB.out (IsS85.ge HI802.out) GE799.out⟩

/-! ### laws_isIn: function 37 -/
def laws_isIn.l0 : Nat → List Int → Int → Int → Option (Bool)
 | 0,_,_,_ => none
 | k + 1,x0,x1,x5 => if x5 < (x0.length : Int) then (if 0 ≤ x5 then (if (rd x0 x5) = x1 then (some true) else (laws_isIn.l0 k x0 x1 (wrap64 (x5 + 1)))) else (none)) else (some false)
def laws_isIn.f (k : Nat) (l0 : List Int) (a1 : Int) : Option (Bool) := laws_isIn.l0 k l0 a1 0
set_option maxRecDepth 100000 in
theorem laws_isIn.mono_l : ∀ k,(∀ y0 y1 y2,LeO (laws_isIn.l0 k y0 y1 y2) (laws_isIn.l0 (k + 1) y0 y1 y2))
 | 0 => fun _ _ _ r h => (by cases h)
 | k + 1 => by
  have ih0 := laws_isIn.mono_l k
  ·intro y0 y1 y2
   unfold laws_isIn.l0
   repeat' first
   | (with_reducible exact ih0 _ _ _)
   | (with_reducible exact LeO.refl _)
   | (with_reducible exact LeO.none _)
   | (with_reducible refine LeO.ite ?_ ?_)
   | (with_reducible refine LeO.bind ?_ (fun _ => ?_))
   | exact ih0 _ _ _
   | exact LeO.none _
   | refine LeO.ite ?_ ?_
   | refine LeO.bind ?_ (fun _ => ?_)
set_option maxRecDepth 100000 in
theorem laws_isIn.mono : ∀ a0 a1 k,LeO (laws_isIn.f k a0 a1) (laws_isIn.f (k + 1) a0 a1) := by
 intro a0 a1 k
 have ih0 := laws_isIn.mono_l k
 unfold laws_isIn.f
 repeat' first
   | (with_reducible exact ih0 _ _ _)
   | (with_reducible exact LeO.refl _)
   | (with_reducible exact LeO.none _)
   | (with_reducible refine LeO.ite ?_ ?_)
   | (with_reducible refine LeO.bind ?_ (fun _ => ?_))
   | exact ih0 _ _ _
   | exact LeO.none _
   | refine LeO.ite ?_ ?_
   | refine LeO.bind ?_ (fun _ => ?_)
set_option maxHeartbeats 8000000 in
set_option maxRecDepth 100000 in
theorem laws_isIn.calls (k : Nat) (A0 : Option Addr) (c0 : Nat) (l0 : List Int) (a1 : Int) (r : Bool) (w : World) (hr0 : Kd.C (Kd.int .i64) w A0 l0.length l0) (hc0 : l0.length ≤ c0) (h : laws_isIn.f k l0 a1 = some r) :
  Calls Try.prog 37 #[.slice A0 l0.length c0,.int .i64 a1] w fun e w' => e = .returned (.bool r) ∧ Drawn0 w w' := by
 have HR0 := As_ hr0
 have HC0 := As_ hc0
 clear hr0 hc0
 have H : (laws_isIn.l0 k l0 a1 0) = some r := h
 clear h
 have H' := As_ H
 clear H
 go_enter Try.func37,Try.ntmps37
 go_wp2
 go_loopg [5] k (fun kq v5 w' => ∃ (x5_1 : Int),v5 = .int .i64 x5_1 ∧ Aside0 (laws_isIn.l0 kq l0 a1 x5_1 = some r) ∧ Aside0 (kq ≤ k) ∧ Drawn0 w w')
 case atStart => exact ⟨(0),zT_,H',⟨Nat.le_refl _⟩,by repeat (first|exact Drawn0.refl _|apply Drawn0.step)⟩
 case round =>
  clear H'
  try clear p2
  obtain ⟨x5_1,rfl,HA,HK1,⟨m1,rfl⟩⟩ := hrel
  cases gk with
  | zero => exact absurd HA.out (fun h_ => (by cases h_))
  | succ k1 =>
   have H := HA.out
   clear HA
   simp only [laws_isIn.l0] at H
   by_cases c3 : x5_1 < (l0.length : Int)
   ·rw [if_pos c3] at H
    have c3b0 : decide (x5_1 < (l0.length : Int)) = true := deT c3
    clear c3
    by_cases c4 : 0 ≤ x5_1
    rotate_left
    ·rw [if_neg c4] at H
     exact absurd H (by simp)
    rw [if_pos c4] at H
    have c4b0 : decide (0 ≤ x5_1) = true := deT c4
    clear c4
    by_cases c5 : (rd l0 x5_1) = a1
    ·rw [if_pos c5] at H
     have c5b0 : ((rd l0 x5_1) == a1) = true := beq_iff_eq.mpr c5
     have c5b1 : ((rd l0 x5_1) != a1) = false := bne_eq_false_iff_eq.mpr c5
     clear c5
     obtain rfl := Option.some.inj H
     have p816 : 0 ≤ (x5_1 : Int) := odT zA_
     have q816 : x5_1 < (l0.length : Int) := odT zA_
     obtain ⟨ad816,e816,hx816_0⟩ := Kd.at_int HR0.out x5_1 p816 q816
     cases e816
     replace p816 := eq_true p816
     replace q816 := eq_true q816
     go_wp2
     go_ret
     exact ⟨by first|rfl|(simp;done)|(simp [*];done),by repeat (first|exact Drawn0.refl _|apply Drawn0.step)⟩
    ·rw [if_neg c5] at H
     have c5b0 : ((rd l0 x5_1) == a1) = false := beq_eq_false_iff_ne.mpr c5
     have c5b1 : ((rd l0 x5_1) != a1) = true := bne_iff_ne.mpr c5
     have H' := As_ H
     clear H
     have p816 : 0 ≤ (x5_1 : Int) := odT zA_
     have q816 : x5_1 < (l0.length : Int) := odT zA_
     obtain ⟨ad816,e816,hx816_0⟩ := Kd.at_int HR0.out x5_1 p816 q816
     cases e816
     replace p816 := eq_true p816
     replace q816 := eq_true q816
     go_wp2
     go_roundg k1
     case measure => have := HK1.out;omega
     case rel => exact ⟨(wrap64 (x5_1 + 1)),zT_,H',⟨by have := HK1.out;omega⟩,by repeat (first|exact Drawn0.refl _|apply Drawn0.step)⟩
   ·rw [if_neg c3] at H
    have c3b0 : decide (x5_1 < (l0.length : Int)) = false := deF c3
    clear c3
    obtain rfl := Option.some.inj H
    go_wp2
    go_ret
    exact ⟨by first|rfl|(simp;done)|(simp [*];done),by repeat (first|exact Drawn0.refl _|apply Drawn0.step)⟩

/-! ### laws_within: function 36 -/
def laws_within.l0 : Nat → List Int → List Int → Int → Option (Bool)
 | 0,_,_,_ => none
 | k + 1,x0,x1,x5 => if x5 < (x0.length : Int) then (if 0 ≤ x5 then ((laws_isIn.f k x1 (rd x0 x5)).bind fun t818 => (if t818 = true then (laws_within.l0 k x0 x1 (wrap64 (x5 + 1))) else (some false))) else (none)) else (some true)
def laws_within.f (k : Nat) (l0 : List Int) (l1 : List Int) : Option (Bool) := laws_within.l0 k l0 l1 0
set_option maxRecDepth 100000 in
theorem laws_within.mono_l : ∀ k,(∀ y0 y1 y2,LeO (laws_within.l0 k y0 y1 y2) (laws_within.l0 (k + 1) y0 y1 y2))
 | 0 => fun _ _ _ r h => (by cases h)
 | k + 1 => by
  have ih0 := laws_within.mono_l k
  ·intro y0 y1 y2
   unfold laws_within.l0
   repeat' first
   | (with_reducible exact ih0 _ _ _)
   | (with_reducible exact laws_isIn.mono _ _ _)
   | (with_reducible exact LeO.refl _)
   | (with_reducible exact LeO.none _)
   | (with_reducible refine LeO.ite ?_ ?_)
   | (with_reducible refine LeO.bind ?_ (fun _ => ?_))
   | exact ih0 _ _ _
   | exact laws_isIn.mono _ _ _
   | exact LeO.none _
   | refine LeO.ite ?_ ?_
   | refine LeO.bind ?_ (fun _ => ?_)
set_option maxRecDepth 100000 in
theorem laws_within.mono : ∀ a0 a1 k,LeO (laws_within.f k a0 a1) (laws_within.f (k + 1) a0 a1) := by
 intro a0 a1 k
 have ih0 := laws_within.mono_l k
 unfold laws_within.f
 repeat' first
   | (with_reducible exact ih0 _ _ _)
   | (with_reducible exact laws_isIn.mono _ _ _)
   | (with_reducible exact LeO.refl _)
   | (with_reducible exact LeO.none _)
   | (with_reducible refine LeO.ite ?_ ?_)
   | (with_reducible refine LeO.bind ?_ (fun _ => ?_))
   | exact ih0 _ _ _
   | exact laws_isIn.mono _ _ _
   | exact LeO.none _
   | refine LeO.ite ?_ ?_
   | refine LeO.bind ?_ (fun _ => ?_)
set_option maxHeartbeats 8000000 in
set_option maxRecDepth 100000 in
theorem laws_within.calls (k : Nat) (A0 : Option Addr) (c0 : Nat) (l0 : List Int) (A1 : Option Addr) (c1 : Nat) (l1 : List Int) (r : Bool) (w : World) (hr0 : Kd.C (Kd.int .i64) w A0 l0.length l0) (hc0 : l0.length ≤ c0) (hr1 : Kd.C (Kd.int .i64) w A1 l1.length l1) (hc1 : l1.length ≤ c1) (h : laws_within.f k l0 l1 = some r) :
  Calls Try.prog 36 #[.slice A0 l0.length c0,.slice A1 l1.length c1] w fun e w' => e = .returned (.bool r) ∧ Drawn0 w w' := by
 have HR0 := As_ hr0
 have HC0 := As_ hc0
 clear hr0 hc0
 have HR1 := As_ hr1
 have HC1 := As_ hc1
 clear hr1 hc1
 have H : (laws_within.l0 k l0 l1 0) = some r := h
 clear h
 have H' := As_ H
 clear H
 go_enter Try.func36,Try.ntmps36
 go_wp2
 go_loopg [5] k (fun kq v5 w' => ∃ (x5_1 : Int),v5 = .int .i64 x5_1 ∧ Aside0 (laws_within.l0 kq l0 l1 x5_1 = some r) ∧ Aside0 (kq ≤ k) ∧ Drawn0 w w')
 case atStart => exact ⟨(0),zT_,H',⟨Nat.le_refl _⟩,by repeat (first|exact Drawn0.refl _|apply Drawn0.step)⟩
 case round =>
  clear H'
  try clear c1
  try clear p2
  obtain ⟨x5_1,rfl,HA,HK1,⟨m1,rfl⟩⟩ := hrel
  cases gk with
  | zero => exact absurd HA.out (fun h_ => (by cases h_))
  | succ k1 =>
   have H := HA.out
   clear HA
   simp only [laws_within.l0] at H
   by_cases c3 : x5_1 < (l0.length : Int)
   ·rw [if_pos c3] at H
    have c3b0 : decide (x5_1 < (l0.length : Int)) = true := deT c3
    clear c3
    by_cases c4 : 0 ≤ x5_1
    rotate_left
    ·rw [if_neg c4] at H
     exact absurd H (by simp)
    rw [if_pos c4] at H
    have c4b0 : decide (0 ≤ x5_1) = true := deT c4
    clear c4
    replace H := obS H
    obtain ⟨t818,A50,H⟩ := H
    replace H : (if t818 = true then (laws_within.l0 k1 l0 l1 (wrap64 (x5_1 + 1))) else (some false)) = some r := H
    have A5 := As_ A50
    clear A50
    by_cases c6 : t818 = true
    ·subst c6
     have H1 : (laws_within.l0 k1 l0 l1 (wrap64 (x5_1 + 1))) = some r := by rw [if_pos rfl] at H;exact H
     clear H
     have H := H1
     clear H1
     have H' := As_ H
     clear H
     have p817 : 0 ≤ (x5_1 : Int) := odT zA_
     have q817 : x5_1 < (l0.length : Int) := odT zA_
     obtain ⟨ad817,e817,hx817_0⟩ := Kd.at_int HR0.out x5_1 p817 q817
     cases e817
     replace p817 := eq_true p817
     replace q817 := eq_true q817
     go_wp2_with (first|((with_reducible refine gate_callee (f := 37) rfl ?_);refine goesL_ (some 17) rfl rfl Try.func37 (by kernel_rfl) rfl #[.slice A1 l1.length c1,.int .i64 (rd l0 x5_1)] rfl zM_ ?_;(with_reducible refine (laws_isIn.calls k1 _ _ l1 (rd l0 x5_1) true _ ?side1 ?side2 A5.out).mono ?_);(case side1 => repeat (first|exact HR1.out|(with_reducible refine Kd.C_alloc ?_ _)|(with_reducible refine Kd.C_drewN ?_ _)|(with_reducible refine Kd.C_drew ?_)));(case side2 => exact HC1.out);rintro e w' ⟨rfl,⟨nd,rfl⟩⟩;refine ⟨_,rfl,?_⟩))
     go_roundg k1
     case measure => have := HK1.out;omega
     case rel => exact ⟨(wrap64 (x5_1 + 1)),zT_,H',⟨by have := HK1.out;omega⟩,by repeat (first|exact Drawn0.refl _|apply Drawn0.step)⟩
    ·replace c6 := Bool.eq_false_iff.mpr c6
     subst c6
     have H1 : (some false) = some r := by rw [if_neg (show ¬ (false = true) by decide)] at H;exact H
     clear H
     have H := H1
     clear H1
     obtain rfl := Option.some.inj H
     have p817 : 0 ≤ (x5_1 : Int) := odT zA_
     have q817 : x5_1 < (l0.length : Int) := odT zA_
     obtain ⟨ad817,e817,hx817_0⟩ := Kd.at_int HR0.out x5_1 p817 q817
     cases e817
     replace p817 := eq_true p817
     replace q817 := eq_true q817
     go_wp2_with (first|((with_reducible refine gate_callee (f := 37) rfl ?_);refine goesL_ (some 17) rfl rfl Try.func37 (by kernel_rfl) rfl #[.slice A1 l1.length c1,.int .i64 (rd l0 x5_1)] rfl zM_ ?_;(with_reducible refine (laws_isIn.calls k1 _ _ l1 (rd l0 x5_1) false _ ?side1 ?side2 A5.out).mono ?_);(case side1 => repeat (first|exact HR1.out|(with_reducible refine Kd.C_alloc ?_ _)|(with_reducible refine Kd.C_drewN ?_ _)|(with_reducible refine Kd.C_drew ?_)));(case side2 => exact HC1.out);rintro e w' ⟨rfl,⟨nd,rfl⟩⟩;refine ⟨_,rfl,?_⟩))
     go_ret
     exact ⟨by first|rfl|(simp;done)|(simp [*];done),by repeat (first|exact Drawn0.refl _|apply Drawn0.step)⟩
   ·rw [if_neg c3] at H
    have c3b0 : decide (x5_1 < (l0.length : Int)) = false := deF c3
    clear c3
    obtain rfl := Option.some.inj H
    go_wp2
    go_ret
    exact ⟨by first|rfl|(simp;done)|(simp [*];done),by repeat (first|exact Drawn0.refl _|apply Drawn0.step)⟩

end Go.Proofs.Ytfhakhbmbnbneaa.Q
