-- Written by wip/tools/qprint.py (a program of this claim's author) by means of the kit's printer.
import Derived.Test.YtonppkaobnfldaaQ0
import Derived.Test.YtonppkaobnfldaaQ75
namespace Go.Proofs.Ytonppkaobnfldaa.Q
open Go.RowKit Go.Proofs.YtonppkaobnfldaaW.PrintWords Go.Proofs.YtonppkaobnfldaaW.PrintLast Go.Proofs.YtonppkaobnfldaaW.PrintMore
attribute [local go_sem] max2_int min2_int max_two min_two max_three min_three max_four min_four   -- for this text's walks alone
set_option linter.unusedVariables false
set_option linter.unusedSimpArgs false

/-! ### spec_allIn: function 74 -/
def spec_allIn.l0 : Nat → List Int → Int → Int → Int → Option (Bool)
 | 0,_,_,_,_ => none
 | k + 1,x0,x1,x2,x7 => if x7 < (x0.length : Int) then (if 0 ≤ x7 then ((spec_inRange.f (rd x0 x7) x1 x2).bind fun t143 => (if t143 = true then (spec_allIn.l0 k x0 x1 x2 (wrap64 (x7 + 1))) else (some false))) else (none)) else (some true)
def spec_allIn.f (k : Nat) (l0 : List Int) (a1 : Int) (a2 : Int) : Option (Bool) := spec_allIn.l0 k l0 a1 a2 0
set_option maxRecDepth 100000 in
theorem spec_allIn.mono_l : ∀ k,(∀ y0 y1 y2 y3,LeO (spec_allIn.l0 k y0 y1 y2 y3) (spec_allIn.l0 (k + 1) y0 y1 y2 y3))
 | 0 => fun _ _ _ _ r h => (by cases h)
 | k + 1 => by
  have ih0 := spec_allIn.mono_l k
  ·intro y0 y1 y2 y3
   unfold spec_allIn.l0
   repeat' first
   | (with_reducible exact ih0 _ _ _ _)
   | (with_reducible exact LeO.refl _)
   | (with_reducible exact LeO.none _)
   | (with_reducible refine LeO.ite ?_ ?_)
   | (with_reducible refine LeO.bind ?_ (fun _ => ?_))
   | exact ih0 _ _ _ _
   | exact LeO.none _
   | refine LeO.ite ?_ ?_
   | refine LeO.bind ?_ (fun _ => ?_)
set_option maxRecDepth 100000 in
theorem spec_allIn.mono : ∀ a0 a1 a2 k,LeO (spec_allIn.f k a0 a1 a2) (spec_allIn.f (k + 1) a0 a1 a2) := by
 intro a0 a1 a2 k
 have ih0 := spec_allIn.mono_l k
 unfold spec_allIn.f
 repeat' first
   | (with_reducible exact ih0 _ _ _ _)
   | (with_reducible exact LeO.refl _)
   | (with_reducible exact LeO.none _)
   | (with_reducible refine LeO.ite ?_ ?_)
   | (with_reducible refine LeO.bind ?_ (fun _ => ?_))
   | exact ih0 _ _ _ _
   | exact LeO.none _
   | refine LeO.ite ?_ ?_
   | refine LeO.bind ?_ (fun _ => ?_)
set_option maxHeartbeats 8000000 in
set_option maxRecDepth 100000 in
theorem spec_allIn.calls (k : Nat) (A0 : Option Addr) (c0 : Nat) (l0 : List Int) (a1 : Int) (a2 : Int) (r : Bool) (w : World) (hr0 : Kd.C (Kd.int .i64) w A0 l0.length l0) (hc0 : l0.length ≤ c0) (h : spec_allIn.f k l0 a1 a2 = some r) :
  Calls Try.prog 74 #[.slice A0 l0.length c0,.int .i64 a1,.int .i64 a2] w fun e w' => e = .returned (.bool r) ∧ Drawn0 w w' := by
 have HR0 := As_ hr0
 have HC0 := As_ hc0
 clear hr0 hc0
 have H : (spec_allIn.l0 k l0 a1 a2 0) = some r := h
 clear h
 have H' := As_ H
 clear H
 go_enter Try.func74,Try.ntmps74
 go_wp2
 go_loopg [7] k (fun kq v7 w' => ∃ (x7_1 : Int),v7 = .int .i64 x7_1 ∧ Aside0 (spec_allIn.l0 kq l0 a1 a2 x7_1 = some r) ∧ Aside0 (kq ≤ k) ∧ Drawn0 w w')
 case atStart => exact ⟨(0),zT_,H',⟨Nat.le_refl _⟩,by repeat (first|exact Drawn0.refl _|apply Drawn0.step)⟩
 case round =>
  clear H'
  obtain ⟨x7_1,rfl,HA,HK1,⟨m1,rfl⟩⟩ := hrel
  cases gk with
  | zero => exact absurd HA.out (fun h_ => (by cases h_))
  | succ k1 =>
   have H := HA.out
   clear HA
   simp only [spec_allIn.l0] at H
   by_cases c4 : x7_1 < (l0.length : Int)
   rotate_left
   ·rw [if_neg c4] at H
    have c4b0 : decide (x7_1 < (l0.length : Int)) = false := deF c4
    clear c4
    obtain rfl := Option.some.inj H
    go_wp2
    go_ret
    exact ⟨by first|rfl|(simp;done)|(simp [*];done),by repeat (first|exact Drawn0.refl _|apply Drawn0.step)⟩

   rw [if_pos c4] at H
   have c4b0 : decide (x7_1 < (l0.length : Int)) = true := deT c4
   clear c4
   by_cases c5 : 0 ≤ x7_1
   rotate_left
   ·rw [if_neg c5] at H
    exact absurd H (by simp)
   rw [if_pos c5] at H
   have c5b0 : decide (0 ≤ x7_1) = true := deT c5
   clear c5
   replace H := obS H
   obtain ⟨t143,A60,H⟩ := H
   replace H : (if t143 = true then (spec_allIn.l0 k1 l0 a1 a2 (wrap64 (x7_1 + 1))) else (some false)) = some r := H
   have A6 := As_ A60
   clear A60
   by_cases c7 : t143 = true
   rotate_left
   ·replace c7 := Bool.eq_false_iff.mpr c7
    subst c7
    have H1 : (some false) = some r := by rw [if_neg (show ¬ (false = true) by decide)] at H;exact H
    clear H
    have H := H1
    clear H1
    obtain rfl := Option.some.inj H
    have p142 : 0 ≤ (x7_1 : Int) := odT zA_
    have q142 : x7_1 < (l0.length : Int) := odT zA_
    obtain ⟨ad142,e142,hx142_0⟩ := Kd.at_int HR0.out x7_1 p142 q142
    cases e142
    replace p142 := eq_true p142
    replace q142 := eq_true q142
    go_wp2_with (first|((with_reducible refine gate_callee (f := 75) rfl ?_);refine goesL_ (some 20) rfl rfl Try.func75 (by kernel_rfl) rfl #[.int .i64 (rd l0 x7_1),.int .i64 a1,.int .i64 a2] rfl zM_ ?_;(with_reducible refine (spec_inRange.calls (rd l0 x7_1) a1 a2 false _ A6.out).mono ?_);rintro e w' ⟨rfl,⟨nd,rfl⟩⟩;refine ⟨_,rfl,?_⟩))
    go_ret
    exact ⟨by first|rfl|(simp;done)|(simp [*];done),by repeat (first|exact Drawn0.refl _|apply Drawn0.step)⟩
   subst c7
   have H1 : (spec_allIn.l0 k1 l0 a1 a2 (wrap64 (x7_1 + 1))) = some r := by rw [if_pos rfl] at H;exact H
   clear H
   have H := H1
   clear H1
   have H' := As_ H
   clear H
   have p142 : 0 ≤ (x7_1 : Int) := odT zA_
   have q142 : x7_1 < (l0.length : Int) := odT zA_
   obtain ⟨ad142,e142,hx142_0⟩ := Kd.at_int HR0.out x7_1 p142 q142
   cases e142
   replace p142 := eq_true p142
   replace q142 := eq_true q142
   go_wp2_with (first|((with_reducible refine gate_callee (f := 75) rfl ?_);refine goesL_ (some 20) rfl rfl Try.func75 (by kernel_rfl) rfl #[.int .i64 (rd l0 x7_1),.int .i64 a1,.int .i64 a2] rfl zM_ ?_;(with_reducible refine (spec_inRange.calls (rd l0 x7_1) a1 a2 true _ A6.out).mono ?_);rintro e w' ⟨rfl,⟨nd,rfl⟩⟩;refine ⟨_,rfl,?_⟩))
   go_roundg k1
   case measure => have := HK1.out;omega
   case rel => exact ⟨(wrap64 (x7_1 + 1)),zT_,H',⟨by have := HK1.out;omega⟩,by repeat (first|exact Drawn0.refl _|apply Drawn0.step)⟩
/-! ### laws_toIntS: function 21 -/
def laws_toIntS.l0 : Nat → List Int → List Int → Int → Option (List Int)
 | 0,_,_,_ => none
 | k + 1,x0,x3,x4 => if x4 < (x0.length : Int) then (if 0 ≤ x4 then (if x4 < (x3.length : Int) then (laws_toIntS.l0 k x0 (x3.set (x4 : Int).toNat (rd x0 x4)) (wrap64 (x4 + 1))) else (none)) else (none)) else (some x3)
def laws_toIntS.f (k : Nat) (l0 : List Int) : Option (List Int) := if 0 ≤ (l0.length : Int) then (if ((l0.length : Int) : Int).toNat ≤ 35184372088832 then (laws_toIntS.l0 k l0 (List.replicate ((l0.length : Int) : Int).toNat 0) 0) else (none)) else (none)
set_option maxRecDepth 100000 in
theorem laws_toIntS.mono_l : ∀ k,(∀ y0 y1 y2,LeO (laws_toIntS.l0 k y0 y1 y2) (laws_toIntS.l0 (k + 1) y0 y1 y2))
 | 0 => fun _ _ _ r h => (by cases h)
 | k + 1 => by
  have ih0 := laws_toIntS.mono_l k
  ·intro y0 y1 y2
   unfold laws_toIntS.l0
   repeat' first
   | (with_reducible exact ih0 _ _ _)
   | (with_reducible exact LeO.refl _)
   | (with_reducible exact LeO.none _)
   | (with_reducible refine LeO.ite ?_ ?_)
   | (with_reducible refine LeO.bind ?_ (fun _ => ?_))
   | exact ih0 _ _ _
   | exact LeO.none _
   | refine LeO.ite ?_ ?_
   | refine LeO.bind ?_ (fun _ => ?_)
set_option maxRecDepth 100000 in
theorem laws_toIntS.mono : ∀ a0 k,LeO (laws_toIntS.f k a0) (laws_toIntS.f (k + 1) a0) := by
 intro a0 k
 have ih0 := laws_toIntS.mono_l k
 unfold laws_toIntS.f
 repeat' first
   | (with_reducible exact ih0 _ _ _)
   | (with_reducible exact LeO.refl _)
   | (with_reducible exact LeO.none _)
   | (with_reducible refine LeO.ite ?_ ?_)
   | (with_reducible refine LeO.bind ?_ (fun _ => ?_))
   | exact ih0 _ _ _
   | exact LeO.none _
   | refine LeO.ite ?_ ?_
   | refine LeO.bind ?_ (fun _ => ?_)
set_option maxHeartbeats 8000000 in
set_option maxRecDepth 100000 in
theorem laws_toIntS.calls (k : Nat) (A0 : Option Addr) (c0 : Nat) (l0 : List Int) (r : List Int) (w : World) (hr0 : Kd.C (Kd.int .i64) w A0 l0.length l0) (hc0 : l0.length ≤ c0) (h : laws_toIntS.f k l0 = some r) :
  Calls Try.prog 21 #[.slice A0 l0.length c0] w fun e w' => ∃ v0_ : Value,e = .returned (v0_) ∧ Kd.R (Kd.int .i64) 3 w' w.heap.size (fun _ => True) v0_ r ∧ Below w.heap.size w w' := by
 have HR0 := As_ hr0
 have HC0 := As_ hc0
 clear hr0 hc0
 have HB := As_ (Below.refl w.heap.size w)
 have H : (if 0 ≤ (l0.length : Int) then (if ((l0.length : Int) : Int).toNat ≤ 35184372088832 then (laws_toIntS.l0 k l0 (List.replicate ((l0.length : Int) : Int).toNat 0) 0) else (none)) else (none)) = some r := h
 clear h
 by_cases c2 : 0 ≤ (l0.length : Int)
 rotate_left
 ·rw [if_neg c2] at H
  exact absurd H (by simp)
 rw [if_pos c2] at H
 have c2b0 := eq_true c2
 have c2b1 : decide (0 ≤ (l0.length : Int)) = true := deT c2
 clear c2
 by_cases c3 : ((l0.length : Int) : Int).toNat ≤ 35184372088832
 rotate_left
 ·rw [if_neg c3] at H
  exact absurd H (by simp)
 rw [if_pos c3] at H
 have c3b0 := eq_true c3
 have c3b1 : decide (((l0.length : Int) : Int).toNat ≤ 35184372088832) = true := deT c3
 clear c3
 obtain ⟨y162,hy162⟩ : ∃ y_ : List Int,y_ = (List.replicate ((l0.length : Int) : Int).toNat 0) := ⟨_,rfl⟩
 replace H : (laws_toIntS.l0 k l0 y162 0) = some r := zH_ H hy162
 have Ny162 := As_ hy162
 clear hy162
 have H' := As_ H
 clear H
 go_enter Try.func21,Try.ntmps21
 go_wp2_with (first|((with_reducible refine gate_dst (N := 7) rfl ?_);refine Kd.R_make (Kd.int .i64) _ 3 rfl (N := 7) rfl 29 _ _ rfl (l0.length : Int) rfl rfl Try.underlying29 (.int .i64 0) 8 info3 rfl (by decide) (by omega) 0 (ok := fun _ => True) (okp := fun _ => True) rfl (fun _ hk => hk) trivial (odT zA_) (Nat.le_trans (Nat.mul_le_mul_right _ (odT zA_ : (l0.length : Int).toNat ≤ 35184372088832)) (by omega)) (Below.refl _ _) (Nat.le_refl _) ?_;intro v163 w4 ho5 hb hg_ hnew_;clear hg_ hnew_;(first|rw [← Ny162.out] at ho5|(simp only [Int.reduceToNat] at ho5;rw [← Ny162.out] at ho5));have n0_ := As_ (Kd.R_lower ho5 (bwZ (zb0 HB.out)));have n1_ := As_ (bwT (zb0 HB.out) hb);clear HB;revert n0_ n1_;intro HO164 HB;clear hb ho5))
 go_loopg [4] k (fun kq v4 w' => ∃ (x3_1 : List Int) (x4_1 : Int),v4 = .int .i64 x4_1 ∧ Aside0 (laws_toIntS.l0 kq l0 x3_1 x4_1 = some r) ∧ Aside0 (kq ≤ k) ∧ Aside0 (Kd.R (Kd.int .i64) 3 w' w.heap.size (fun _ => True) v163 x3_1) ∧ Aside0 (Below w.heap.size w w'))
 case atStart => exact ⟨(y162),(0),zT_,H',⟨Nat.le_refl _⟩,⟨by (with_reducible repeat (first|apply Kd.R_alloc|apply Kd.R_drewN|apply Kd.R_drew));exact HO164.out⟩,⟨zb0 HB.out⟩⟩
 case round =>
  clear H'
  obtain ⟨x3_1,x4_1,rfl,HA,HK1,HO_3,HB⟩ := hrel
  cases gk with
  | zero => exact absurd HA.out (fun h_ => (by cases h_))
  | succ k1 =>
   have H := HA.out
   clear HA
   simp only [laws_toIntS.l0] at H
   by_cases c6 : x4_1 < (l0.length : Int)
   rotate_left
   ·rw [if_neg c6] at H
    have c6b0 : decide (x4_1 < (l0.length : Int)) = false := deF c6
    clear c6
    obtain rfl := Option.some.inj H
    go_wp2
    go_ret
    exact ⟨_,zE_,by (with_reducible repeat (first|apply Kd.R_alloc|apply Kd.R_drewN|apply Kd.R_drew));exact HO_3.out,zb0 HB.out⟩

   rw [if_pos c6] at H
   have c6b0 : decide (x4_1 < (l0.length : Int)) = true := deT c6
   clear c6
   by_cases c7 : 0 ≤ x4_1
   rotate_left
   ·rw [if_neg c7] at H
    exact absurd H (by simp)
   rw [if_pos c7] at H
   have c7b0 : decide (0 ≤ x4_1) = true := deT c7
   clear c7
   by_cases c8 : x4_1 < (x3_1.length : Int)
   rotate_left
   ·rw [if_neg c8] at H
    exact absurd H (by simp)
   rw [if_pos c8] at H
   have c8b0 : decide (x4_1 < (x3_1.length : Int)) = true := deT c8
   clear c8
   obtain ⟨y166,hy166⟩ : ∃ y_ : List Int,y_ = (x3_1.set (x4_1 : Int).toNat (rd l0 x4_1)) := ⟨_,rfl⟩
   replace H : (laws_toIntS.l0 k1 l0 y166 (wrap64 (x4_1 + 1))) = some r := zH_ H hy166
   have Ny166 := As_ hy166
   clear hy166
   have H' := As_ H
   clear H
   have p165 : 0 ≤ (x4_1 : Int) := odT zA_
   have q165 : x4_1 < (l0.length : Int) := odT zA_
   obtain ⟨ad165,e165,hx165_0⟩ := Kd.at_int HR0.out x4_1 p165 q165
   cases e165
   replace hx165_0 := bwC HB.out hx165_0
   replace p165 := eq_true p165
   replace q165 := eq_true q165
   have p9 : 0 ≤ (x4_1 : Int) := odT zA_
   have q9 : (x4_1 : Int) < ((x3_1.length : Int) : Int) := odT zA_
   obtain ⟨go9,co9,eo9,gb9,gl9,cl9,HG9⟩ := Kd.R_form HO_3.out (by omega)
   (first|cases eo9|(injection eo9 with ea_ en_ ec_;(first|subst ea_|(injection ea_ with ea_;subst ea_));subst ec_;clear en_))
   have GB9 := As_ gb9
   have GG9 := As_ HG9
   clear gb9 gl9 HG9
   obtain ⟨hx9_0,hf9_0⟩ := Kd.R_celln 0 HO_3.out (x4_1 : Int) p9 q9
   replace p9 := eq_true p9
   replace q9 := eq_true q9
   have HP10 := Kd.R_putg HO_3.out (x4_1 : Int) (rd l0 x4_1)
   go_wp2_with (first|((with_reducible refine gate_store (t := 3) (p := 20) rfl ?_);refine store_event (t := 3) (p := 20) (v := ?vo_w11) (w1 := (wr.setCell ⟨go9,(x4_1 : Int).toNat,none⟩ (.int .i64 (rd l0 x4_1)))) ?hg ?ho ?hn ?hr ?_;(case ho => rfl);(case hg => rfl);(case hn => rfl);(case hr => go_simp <;> rfl);intro w11 hw;have hg : wr.grownBy w11 (some go9) := (by rw [hw];exact HP10.2);have hp_ : Kd.R (Kd.int .i64) 3 w11 w.heap.size (fun _ => True) (.slice (some ⟨go9,0,none⟩) x3_1.length co9) y166 := (by rw [hw,Ny166.out];exact HP10.1);clear HP10;have n0_ := As_ (hp_);have n1_ := As_ ((by rw [hw];exact bwS (HB.out) GB9.out : Below w.heap.size w w11));clear HO_3 HB;revert n0_ n1_;intro HO_3 HB;clear hg hw hp_))
   go_roundg k1
   case measure => have := HK1.out;omega
   case rel => exact ⟨(y166),(wrap64 (x4_1 + 1)),zT_,H',⟨by have := HK1.out;omega⟩,⟨by (with_reducible repeat (first|apply Kd.R_alloc|apply Kd.R_drewN|apply Kd.R_drew));exact HO_3.out⟩,⟨zb0 HB.out⟩⟩
/-! ### impl_bytesOk: function 68 -/
/-- Is a number no byte? -/
def impl_bytesOk.bad (x : Int) : Bool := decide (x < 0) || decide (x > 255)
def impl_bytesOk.f (l0 : List Int) (a1 : Int) : Option (Bool) := some (decide ((l0.length : Int) ≤ a1) && !l0.any impl_bytesOk.bad)
/-- The function literal. -/
theorem impl_bytesOk.lit (x : Int) (w : World) : Calls Try.prog 80 #[.int .i64 x] w fun e w' => e = .returned (.bool (impl_bytesOk.bad x)) ∧ w = w' := by
 by_cases h1 : x < 0
 ·have e1 : decide (x < 0) = true := deT h1
  go_enter Try.func80,Try.ntmps80
  go_wp2
  go_ret
  exact ⟨by simp [impl_bytesOk.bad,h1],rfl⟩
 have e1 : decide (x < 0) = false := deF h1
 by_cases h2 : 255 < x
 ·have e2 : decide (255 < x) = true := deT h2
  go_enter Try.func80,Try.ntmps80
  go_wp2
  go_ret
  exact ⟨by simp [impl_bytesOk.bad,h1,h2],rfl⟩
 have e2 : decide (255 < x) = false := deF h2
 go_enter Try.func80,Try.ntmps80
 go_wp2
 go_ret
 exact ⟨by simp [impl_bytesOk.bad,h1,h2],rfl⟩
/-- What slices.IndexFunc tells: a place,just if there is one. -/
def impl_bytesOk.Tells (l : List Int) (w : World) (e : Ending) (w' : World) : Prop := ∃ r : Int,e = .returned (.int .i64 r) ∧ decide (0 ≤ r) = l.any impl_bytesOk.bad ∧ w = w'
theorem impl_bytesOk.any_from (l : List Int) (i : Nat) (h : i < l.length) : (l.drop i).any impl_bytesOk.bad = (impl_bytesOk.bad (rd l (i : Int)) || (l.drop (i + 1)).any impl_bytesOk.bad) := by
 rw [List.drop_eq_getElem_cons h,List.any_cons,show rd l (i : Int) = l[i] from by simp [rd,List.getD_eq_getElem?_getD,List.getElem?_eq_getElem h]]
set_option maxHeartbeats 2000000 in
set_option maxRecDepth 100000 in
theorem impl_bytesOk.index (A0 : Option Addr) (c0 : Nat) (l0 : List Int) (w : World) (hr0 : Kd.C (Kd.int .i64) w A0 l0.length l0) :
  Calls Try.prog 82 #[.slice A0 l0.length c0,.func (.func 80) #[] #[]] w (impl_bytesOk.Tells l0 w) := by
 have hmax := Kd.C_max hr0
 have HR := As_ hr0
 clear hr0
 go_enter Try.func82,Try.ntmps82
 go_wp2
 go_loop [8] (fun v => ∃ i : Nat,i ≤ l0.length ∧ v = .int .i64 i ∧ Aside0 (l0.any impl_bytesOk.bad = (l0.drop i).any impl_bytesOk.bad)) (fun v => l0.length - (intOf v).toNat)
 case atStart => exact ⟨0,Nat.zero_le _,rfl,⟨by simp⟩⟩
 case round =>
  obtain ⟨i,hi,rfl,hA⟩ := hrel
  by_cases hlt : i < l0.length
  rotate_left
  ·go_wp2
   go_ret
   exact ⟨-1,rfl,by rw [hA.out,List.drop_of_length_le (by omega)];simp,rfl⟩
  have hat := Kd.at_int HR.out (i : Int) (by omega) (by omega)
  obtain ⟨ad,e1,hx⟩ := hat
  subst e1
  rw [Int.toNat_natCast] at hx
  have hf := impl_bytesOk.any_from l0 i hlt
  have HF := As_ hf
  clear hf
  cases hb : impl_bytesOk.bad (rd l0 (i : Int)) with
  | true =>
   have HB := As_ hb
   clear hb
   go_wp2_with (go_at_call 80;refine (impl_bytesOk.lit _ _).mono ?_;rintro e w' ⟨rfl,rfl⟩;rw [HB.out])
   go_ret
   exact ⟨i,rfl,by rw [hA.out,HF.out,HB.out];simp,rfl⟩
  | false =>
   have HB := As_ hb
   clear hb
   go_wp2_with (go_at_call 80;refine (impl_bytesOk.lit _ _).mono ?_;rintro e w' ⟨rfl,rfl⟩;rw [HB.out])
   go_round
   case rel => exact ⟨i + 1,by omega,by go_num,⟨by rw [hA.out,HF.out,HB.out];simp⟩⟩
   case measure => simp [intOf];omega
set_option maxHeartbeats 2000000 in
theorem impl_bytesOk.contains (A0 : Option Addr) (c0 : Nat) (l0 : List Int) (w : World) (hr0 : Kd.C (Kd.int .i64) w A0 l0.length l0) :
  Calls Try.prog 79 #[.slice A0 l0.length c0,.func (.func 80) #[] #[]] w fun e w' => e = .returned (.bool (l0.any impl_bytesOk.bad)) ∧ w = w' := by
 have HR := As_ hr0
 clear hr0
 go_enter Try.func79,Try.ntmps79
 go_wp2_with (go_at_call 82;refine (impl_bytesOk.index _ _ l0 _ HR.out).mono ?_;rintro e w' ⟨r,rfl,hr,rfl⟩;have HT := As_ hr;clear hr)
 go_ret
 exact ⟨by rw [← HT.out];rfl,rfl⟩
set_option maxHeartbeats 2000000 in
theorem impl_bytesOk.calls (A0 : Option Addr) (c0 : Nat) (l0 : List Int) (a1 : Int) (r : Bool) (w : World) (hr0 : Kd.C (Kd.int .i64) w A0 l0.length l0) (hc0 : l0.length ≤ c0) (h : impl_bytesOk.f l0 a1 = some r) :
  Calls Try.prog 68 #[.slice A0 l0.length c0,.int .i64 a1] w fun e w' => e = .returned (.bool r) ∧ Drawn0 w w' := by
 have HR := As_ hr0
 obtain rfl : (decide ((l0.length : Int) ≤ a1) && !l0.any impl_bytesOk.bad) = r := Option.some.inj h
 clear hr0 h hc0
 by_cases hn : (l0.length : Int) ≤ a1
 rotate_left
 ·have e1 : decide ((l0.length : Int) ≤ a1) = false := deF hn
  go_enter Try.func68,Try.ntmps68
  go_wp2
  go_ret
  exact ⟨by simp [hn],Drawn0.refl _⟩

 have e1 : decide ((l0.length : Int) ≤ a1) = true := deT hn
 cases hb : l0.any impl_bytesOk.bad with
 | true =>
  have HB := As_ hb
  clear hb
  go_enter Try.func68,Try.ntmps68
  go_wp2_with (go_at_call 79;refine (impl_bytesOk.contains _ _ l0 _ HR.out).mono ?_;rintro e w' ⟨rfl,rfl⟩;rw [HB.out])
  go_ret
  exact ⟨by simp [hn],Drawn0.refl _⟩
 | false =>
  have HB := As_ hb
  clear hb
  go_enter Try.func68,Try.ntmps68
  go_wp2_with (go_at_call 79;refine (impl_bytesOk.contains _ _ l0 _ HR.out).mono ?_;rintro e w' ⟨rfl,rfl⟩;rw [HB.out])
  go_ret
  exact ⟨by simp [hn],Drawn0.refl _⟩
end Go.Proofs.Ytonppkaobnfldaa.Q
