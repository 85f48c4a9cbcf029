-- Written by wip/tools/qprint.py (a program of this claim's author) by means of the kit's printer.
import Derived.Test.YtbokjhdhpmmpfaaQ0
import Derived.Test.YtbokjhdhpmmpfaaQ56
import Derived.Test.YtbokjhdhpmmpfaaQ87
import Derived.Test.YtbokjhdhpmmpfaaQ94
namespace Go.Proofs.Ytbokjhdhpmmpfaa.Q
open Go.RowKit Go.Proofs.YtbokjhdhpmmpfaaW.PrintWords Go.Proofs.YtbokjhdhpmmpfaaW.PrintLast Go.Proofs.YtbokjhdhpmmpfaaW.PrintMore
attribute [local go_sem] max2_int min2_int max_two min_two max_three min_three max_four min_four   -- for this text's walks alone
set_option linter.unusedVariables false
set_option linter.unusedSimpArgs false

/-! ### spec_validFramed: function 50 -/
def spec_validFramed.f (k : Nat) (l0 : List Int) : Option (Bool) := if (l0.length : Int) ≤ 2000 then ((spec_allIn.f k l0 0 255).bind fun t103 => (some t103)) else (some false)
set_option maxRecDepth 100000 in
theorem spec_validFramed.mono : ∀ a0 k, LeO (spec_validFramed.f k a0) (spec_validFramed.f (k + 1) a0) := by
  intro a0 k
  unfold spec_validFramed.f
  repeat' first
      | (with_reducible exact spec_allIn.mono _ _ _ _)
      | (with_reducible exact LeO.refl _)
      | (with_reducible exact LeO.none _)
      | (with_reducible refine LeO.ite ?_ ?_)
      | (with_reducible refine LeO.bind ?_ (fun _ => ?_))
      | exact spec_allIn.mono _ _ _ _
      | exact LeO.none _
      | refine LeO.ite ?_ ?_
      | refine LeO.bind ?_ (fun _ => ?_)
set_option maxHeartbeats 8000000 in
set_option maxRecDepth 100000 in
theorem spec_validFramed.calls (k : Nat) (A0 : Option Addr) (c0 : Nat) (l0 : List Int) (r : Bool) (w : World) (hr0 : Kd.C (Kd.int .i64) w A0 l0.length l0) (hc0 : l0.length ≤ c0) (h : spec_validFramed.f k l0 = some r) :
    Calls Try.prog 50 #[.slice A0 l0.length c0] w fun e w' => e = .returned (.bool r) ∧ Drawn0 w w' := by
  have HR0 := As_ hr0
  have HC0 := As_ hc0
  clear hr0 hc0
  have H : (if (l0.length : Int) ≤ 2000 then ((spec_allIn.f k l0 0 255).bind fun t103 => (some t103)) else (some false)) = some r := h
  clear h
  by_cases c2 : (l0.length : Int) ≤ 2000
  · rw [if_pos c2] at H
    have c2b0 : decide ((l0.length : Int) ≤ 2000) = true := deT c2
    have c2b1 : decide (l0.length ≤ 2000) = true := deT (by omega)
    clear c2
    replace H := obS H
    obtain ⟨t103, A30, H⟩ := H
    replace H : (some t103) = some r := H
    have A3 := As_ A30
    clear A30
    obtain rfl := Option.some.inj H
    go_enter Try.func50, Try.ntmps50
    go_wp2_with (first | (go_at_call 87; (with_reducible refine (spec_allIn.calls k _ _ l0 0 255 t103 _ ?side1 ?side2 A3.out).mono ?_); (case side1 => repeat (first | exact HR0.out | (with_reducible refine Kd.C_alloc ?_ _) | (with_reducible refine Kd.C_drewN ?_ _) | (with_reducible refine Kd.C_drew ?_))); (case side2 => exact HC0.out); rintro e w' ⟨rfl, ⟨nd, rfl⟩⟩))
    go_ret
    exact ⟨by first | rfl | (simp; done) | (simp [*]; done), by repeat (first | exact Drawn0.refl _ | apply Drawn0.step)⟩
  · rw [if_neg c2] at H
    have c2b0 : decide ((l0.length : Int) ≤ 2000) = false := deF c2
    have c2b1 : decide (l0.length ≤ 2000) = false := deF (by omega)
    clear c2
    obtain rfl := Option.some.inj H
    go_enter Try.func50, Try.ntmps50
    go_wp2
    go_ret
    exact ⟨by first | rfl | (simp; done) | (simp [*]; done), by repeat (first | exact Drawn0.refl _ | apply Drawn0.step)⟩

/-! ### spec_unframe: function 51 -/
def spec_unframe.l0 : Nat → List Int → List Int → Int → Option (List Int × Int)
 | 0,_,_,_ => none
 | k + 1,x0,x4,x5 => if x5 < (x0.length : Int) then (if 0 ≤ x5 then ((spec_inRange.f (rd x0 x5) 1 200).bind fun t108 => (if t108 = true then (if (wrap64 (x5 + (rd x0 x5))) < (x0.length : Int) then (if 0 ≤ (wrap64 (x5 + 1)) then (if (wrap64 (x5 + 1)) ≤ (wrap64 ((wrap64 (x5 + 1)) + (rd x0 x5))) then (if (wrap64 ((wrap64 (x5 + 1)) + (rd x0 x5))) ≤ (x0.length : Int) then (if x4.length + ((x0.take ((wrap64 ((wrap64 (x5 + 1)) + (rd x0 x5))) : Int).toNat).drop ((wrap64 (x5 + 1)) : Int).toNat).length < 17592186044416 then (spec_unframe.l0 k x0 (x4 ++ ((x0.take ((wrap64 ((wrap64 (x5 + 1)) + (rd x0 x5))) : Int).toNat).drop ((wrap64 (x5 + 1)) : Int).toNat)) (wrap64 ((wrap64 (x5 + 1)) + (rd x0 x5)))) else (none)) else (none)) else (none)) else (none)) else (some (x4,x5))) else (some (x4,x5)))) else (none)) else (some (x4,x5))
def spec_unframe.f (k : Nat) (l0 : List Int) : Option (List Int × Int) := spec_unframe.l0 k l0 (([] : List Int)) 0
set_option maxRecDepth 100000 in
theorem spec_unframe.mono_l : ∀ k,(∀ y0 y1 y2,LeO (spec_unframe.l0 k y0 y1 y2) (spec_unframe.l0 (k + 1) y0 y1 y2))
 | 0 => fun _ _ _ r h => (by cases h)
 | k + 1 => by
  have ih0 := spec_unframe.mono_l k
  ·intro y0 y1 y2
   unfold spec_unframe.l0
   repeat' first
   | (with_reducible exact ih0 _ _ _)
   | (with_reducible exact LeO.refl _)
   | (with_reducible exact LeO.none _)
   | (with_reducible refine LeO.ite ?_ ?_)
   | (with_reducible refine LeO.bind ?_ (fun _ => ?_))
   | exact ih0 _ _ _
   | exact LeO.none _
   | refine LeO.ite ?_ ?_
   | refine LeO.bind ?_ (fun _ => ?_)
set_option maxRecDepth 100000 in
theorem spec_unframe.mono : ∀ a0 k,LeO (spec_unframe.f k a0) (spec_unframe.f (k + 1) a0) := by
 intro a0 k
 have ih0 := spec_unframe.mono_l k
 unfold spec_unframe.f
 repeat' first
   | (with_reducible exact ih0 _ _ _)
   | (with_reducible exact LeO.refl _)
   | (with_reducible exact LeO.none _)
   | (with_reducible refine LeO.ite ?_ ?_)
   | (with_reducible refine LeO.bind ?_ (fun _ => ?_))
   | exact ih0 _ _ _
   | exact LeO.none _
   | refine LeO.ite ?_ ?_
   | refine LeO.bind ?_ (fun _ => ?_)
set_option maxHeartbeats 8000000 in
set_option maxRecDepth 100000 in
theorem spec_unframe.calls (k : Nat) (A0 : Option Addr) (c0 : Nat) (l0 : List Int) (r1 : List Int) (r2 : Int) (w : World) (hr0 : Kd.C (Kd.int .i64) w A0 l0.length l0) (hc0 : l0.length ≤ c0) (h : spec_unframe.f k l0 = some (r1,r2)) :
  Calls Try.prog 51 #[.slice A0 l0.length c0] w fun e w' => ∃ v0_ : Value,e = .returned (.tuple #[v0_,.int .i64 r2]) ∧ Kd.R (Kd.int .i64) 3 w' w.heap.size (fun _ => True) v0_ r1 ∧ Below w.heap.size w w' := by
 have HR0 := As_ hr0
 have HC0 := As_ hc0
 clear hr0 hc0
 have HB := As_ (Below.refl w.heap.size w)
 have H : (spec_unframe.l0 k l0 (([] : List Int)) 0) = some (r1,r2) := h
 clear h
 obtain ⟨y104,hy104⟩ : ∃ y_ : List Int,y_ = (([] : List Int)) := ⟨_,rfl⟩
 replace H : (spec_unframe.l0 k l0 y104 0) = some (r1,r2) := zH_ H hy104
 have Ny104 := As_ hy104
 clear hy104
 have H' := As_ H
 clear H
 go_enter Try.func51,Try.ntmps51
 go_wp2_with (first|((with_reducible refine gate_dst (N := 6) rfl ?_);(try (refine gate_guard (by rfl) ?_;dsimp only));refine Kd.R_lit (Kd.int .i64) _ 3 ?hg (N := 6) ?hd (xs := ([] : List Int)) (inner := []) (ok := fun _ => True) (okp := fun _ => True) ?hr ?hp (fun _ hk => hk) trivial (Below.refl _ _) (Nat.le_refl _) (by simp) ?_;(case hd => rfl);(case hg => rfl);(case hr => go_simp <;> rfl);(case hp => exact (Reps.none _ _));intro v105 w2 ho3 hb hg_ hnew_;clear hg_ hnew_;(first|rw [← Ny104.out] at ho3|(simp only [Int.reduceToNat] at ho3;rw [← Ny104.out] at ho3));have n0_ := As_ (Kd.R_lower ho3 (bwZ (zb0 HB.out)));have n1_ := As_ (bwT (zb0 HB.out) hb);clear HB;revert n0_ n1_;intro HO106 HB;clear hb ho3))
 go_loopg [4,5] k (fun kq v4 v5 w' => ∃ (x4_1 : List Int) (x5_1 : Int),v5 = .int .i64 x5_1 ∧ Aside0 (spec_unframe.l0 kq l0 x4_1 x5_1 = some (r1,r2)) ∧ Aside0 (kq ≤ k) ∧ Aside0 (Kd.R (Kd.int .i64) 3 w' w.heap.size (fun _ => True) v4 x4_1) ∧ Aside0 (Below w.heap.size w w'))
 case atStart => exact ⟨(y104),(0),zT_,H',⟨Nat.le_refl _⟩,⟨by (with_reducible repeat (first|apply Kd.R_alloc|apply Kd.R_drewN|apply Kd.R_drew));exact HO106.out⟩,⟨zb0 HB.out⟩⟩
 case round =>
  clear H'
  obtain ⟨x4_1,x5_1,rfl,HA,HK1,HO_4,HB⟩ := hrel
  cases gk with
  | zero => exact absurd HA.out (fun h_ => (by cases h_))
  | succ k1 =>
   have H := HA.out
   clear HA
   simp only [spec_unframe.l0] at H
   by_cases c4 : x5_1 < (l0.length : Int)
   rotate_left
   ·rw [if_neg c4] at H
    have c4b0 : decide (x5_1 < (l0.length : Int)) = false := deF c4
    clear c4
    simp only [Option.some.injEq,Prod.mk.injEq] at H
    obtain ⟨rfl,rfl⟩ := H
    go_wp2
    go_ret2
    exact ⟨_,zE_,by (with_reducible repeat (first|apply Kd.R_alloc|apply Kd.R_drewN|apply Kd.R_drew));exact HO_4.out,zb0 HB.out⟩

   rw [if_pos c4] at H
   have c4b0 : decide (x5_1 < (l0.length : Int)) = true := deT c4
   clear c4
   by_cases c5 : 0 ≤ x5_1
   rotate_left
   ·rw [if_neg c5] at H
    exact absurd H (by simp)
   rw [if_pos c5] at H
   have c5b0 : decide (0 ≤ x5_1) = true := deT c5
   clear c5
   replace H := obS H
   obtain ⟨t108,A60,H⟩ := H
   replace H : (if t108 = true then (if (wrap64 (x5_1 + (rd l0 x5_1))) < (l0.length : Int) then (if 0 ≤ (wrap64 (x5_1 + 1)) then (if (wrap64 (x5_1 + 1)) ≤ (wrap64 ((wrap64 (x5_1 + 1)) + (rd l0 x5_1))) then (if (wrap64 ((wrap64 (x5_1 + 1)) + (rd l0 x5_1))) ≤ (l0.length : Int) then (if x4_1.length + ((l0.take ((wrap64 ((wrap64 (x5_1 + 1)) + (rd l0 x5_1))) : Int).toNat).drop ((wrap64 (x5_1 + 1)) : Int).toNat).length < 17592186044416 then (spec_unframe.l0 k1 l0 (x4_1 ++ ((l0.take ((wrap64 ((wrap64 (x5_1 + 1)) + (rd l0 x5_1))) : Int).toNat).drop ((wrap64 (x5_1 + 1)) : Int).toNat)) (wrap64 ((wrap64 (x5_1 + 1)) + (rd l0 x5_1)))) else (none)) else (none)) else (none)) else (none)) else (some (x4_1,x5_1))) else (some (x4_1,x5_1))) = some (r1,r2) := H
   have A6 := As_ A60
   clear A60
   by_cases c7 : t108 = true
   rotate_left
   ·replace c7 := Bool.eq_false_iff.mpr c7
    subst c7
    have H1 : (some (x4_1,x5_1)) = some (r1,r2) := by rw [if_neg (show ¬ (false = true) by decide)] at H;exact H
    clear H
    have H := H1
    clear H1
    simp only [Option.some.injEq,Prod.mk.injEq] at H
    obtain ⟨rfl,rfl⟩ := H
    have p107 : 0 ≤ (x5_1 : Int) := odT zA_
    have q107 : x5_1 < (l0.length : Int) := odT zA_
    obtain ⟨ad107,e107,hx107_0⟩ := Kd.at_int HR0.out x5_1 p107 q107
    cases e107
    replace hx107_0 := bwC HB.out hx107_0
    replace p107 := eq_true p107
    replace q107 := eq_true q107
    go_wp2_with (first|(go_at_call 56;(with_reducible refine (spec_inRange.calls (rd l0 x5_1) 1 200 false _ A6.out).mono ?_);rintro e w' ⟨rfl,⟨nd,rfl⟩⟩))
    go_ret2
    exact ⟨_,zE_,by (with_reducible repeat (first|apply Kd.R_alloc|apply Kd.R_drewN|apply Kd.R_drew));exact HO_4.out,zb0 HB.out⟩
   subst c7
   have H1 : (if (wrap64 (x5_1 + (rd l0 x5_1))) < (l0.length : Int) then (if 0 ≤ (wrap64 (x5_1 + 1)) then (if (wrap64 (x5_1 + 1)) ≤ (wrap64 ((wrap64 (x5_1 + 1)) + (rd l0 x5_1))) then (if (wrap64 ((wrap64 (x5_1 + 1)) + (rd l0 x5_1))) ≤ (l0.length : Int) then (if x4_1.length + ((l0.take ((wrap64 ((wrap64 (x5_1 + 1)) + (rd l0 x5_1))) : Int).toNat).drop ((wrap64 (x5_1 + 1)) : Int).toNat).length < 17592186044416 then (spec_unframe.l0 k1 l0 (x4_1 ++ ((l0.take ((wrap64 ((wrap64 (x5_1 + 1)) + (rd l0 x5_1))) : Int).toNat).drop ((wrap64 (x5_1 + 1)) : Int).toNat)) (wrap64 ((wrap64 (x5_1 + 1)) + (rd l0 x5_1)))) else (none)) else (none)) else (none)) else (none)) else (some (x4_1,x5_1))) = some (r1,r2) := by rw [if_pos rfl] at H;exact H
   clear H
   have H := H1
   clear H1
   by_cases c8 : (wrap64 (x5_1 + (rd l0 x5_1))) < (l0.length : Int)
   rotate_left
   ·rw [if_neg c8] at H
    have c8b0 : decide ((wrap64 (x5_1 + (rd l0 x5_1))) < (l0.length : Int)) = false := deF c8
    clear c8
    simp only [Option.some.injEq,Prod.mk.injEq] at H
    obtain ⟨rfl,rfl⟩ := H
    have p107 : 0 ≤ (x5_1 : Int) := odT zA_
    have q107 : x5_1 < (l0.length : Int) := odT zA_
    obtain ⟨ad107,e107,hx107_0⟩ := Kd.at_int HR0.out x5_1 p107 q107
    cases e107
    replace hx107_0 := bwC HB.out hx107_0
    replace p107 := eq_true p107
    replace q107 := eq_true q107
    go_wp2_with (first|(go_at_call 56;(with_reducible refine (spec_inRange.calls (rd l0 x5_1) 1 200 true _ A6.out).mono ?_);rintro e w' ⟨rfl,⟨nd,rfl⟩⟩;have p109 : 0 ≤ (x5_1 : Int) := odT zA_;have q109 : x5_1 < (l0.length : Int) := odT zA_;obtain ⟨ad109,e109,hx109_0⟩ := Kd.at_int HR0.out x5_1 p109 q109;obtain rfl : ad107 = ad109 := (by injection e109);replace hx109_0 := bwC HB.out hx109_0;replace p109 := eq_true p109;replace q109 := eq_true q109))
    go_ret2
    exact ⟨_,zE_,by (with_reducible repeat (first|apply Kd.R_alloc|apply Kd.R_drewN|apply Kd.R_drew));exact HO_4.out,zb0 HB.out⟩
   rw [if_pos c8] at H
   have c8b0 : decide ((wrap64 (x5_1 + (rd l0 x5_1))) < (l0.length : Int)) = true := deT c8
   clear c8
   obtain ⟨ji9,hji9⟩ : ∃ j_ : Int,(wrap64 (x5_1 + 1)) = j_ := ⟨_,rfl⟩
   replace H : (if 0 ≤ (ji9) then (if (ji9) ≤ (wrap64 ((ji9) + (rd l0 x5_1))) then (if (wrap64 ((ji9) + (rd l0 x5_1))) ≤ (l0.length : Int) then (if x4_1.length + ((l0.take ((wrap64 ((ji9) + (rd l0 x5_1))) : Int).toNat).drop ((ji9) : Int).toNat).length < 17592186044416 then (spec_unframe.l0 k1 l0 (x4_1 ++ ((l0.take ((wrap64 ((ji9) + (rd l0 x5_1))) : Int).toNat).drop ((ji9) : Int).toNat)) (wrap64 ((ji9) + (rd l0 x5_1)))) else (none)) else (none)) else (none)) else (none)) = some (r1,r2) := by first|(rw [hji9] at H;exact H)|(simp only [hji9] at H ⊢;exact H)
   (try rw [hji9] at A6)
   have hji9w : (IntKind.i64.wrap (x5_1 + 1)) = ji9 := (i64_w _).trans hji9
   by_cases c10 : 0 ≤ (ji9)
   rotate_left
   ·rw [if_neg c10] at H
    exact absurd H (by simp)
   rw [if_pos c10] at H
   have c10b0 := eq_true c10
   have c10b1 : decide (0 ≤ (ji9)) = true := deT c10
   clear c10
   by_cases c11 : (ji9) ≤ (wrap64 ((ji9) + (rd l0 x5_1)))
   rotate_left
   ·rw [if_neg c11] at H
    exact absurd H (by simp)
   rw [if_pos c11] at H
   have c11b0 := eq_true c11
   have c11b1 : decide ((ji9) ≤ (wrap64 ((ji9) + (rd l0 x5_1)))) = true := deT c11
   by_cases c12 : (wrap64 ((ji9) + (rd l0 x5_1))) ≤ (l0.length : Int)
   rotate_left
   ·rw [if_neg c12] at H
    exact absurd H (by simp)
   rw [if_pos c12] at H
   have c12b0 := eq_true c12
   have c12b1 : decide ((wrap64 ((ji9) + (rd l0 x5_1))) ≤ (l0.length : Int)) = true := deT c12
   by_cases c13 : x4_1.length + ((l0.take ((wrap64 ((ji9) + (rd l0 x5_1))) : Int).toNat).drop ((ji9) : Int).toNat).length < 17592186044416
   rotate_left
   ·rw [if_neg c13] at H
    exact absurd H (by simp)
   rw [if_pos c13] at H
   have LMc13 := As_ c13
   clear c13
   obtain ⟨y112,hy112⟩ : ∃ y_ : List Int,y_ = (x4_1 ++ ((l0.take ((wrap64 ((ji9) + (rd l0 x5_1))) : Int).toNat).drop ((ji9) : Int).toNat)) := ⟨_,rfl⟩
   replace H : (spec_unframe.l0 k1 l0 y112 (wrap64 ((ji9) + (rd l0 x5_1)))) = some (r1,r2) := zH_ H hy112
   have Ny112 := As_ hy112
   clear hy112
   have H' := As_ H
   clear H
   have p107 : 0 ≤ (x5_1 : Int) := odT zA_
   have q107 : x5_1 < (l0.length : Int) := odT zA_
   obtain ⟨ad107,e107,hx107_0⟩ := Kd.at_int HR0.out x5_1 p107 q107
   cases e107
   replace hx107_0 := bwC HB.out hx107_0
   replace p107 := eq_true p107
   replace q107 := eq_true q107
   go_wp2_with (first|(go_at_call 56;(with_reducible refine (spec_inRange.calls (rd l0 x5_1) 1 200 true _ A6.out).mono ?_);rintro e w' ⟨rfl,⟨nd,rfl⟩⟩;have p109 : 0 ≤ (x5_1 : Int) := odT zA_;have q109 : x5_1 < (l0.length : Int) := odT zA_;obtain ⟨ad109,e109,hx109_0⟩ := Kd.at_int HR0.out x5_1 p109 q109;obtain rfl : ad107 = ad109 := (by injection e109);replace hx109_0 := bwC HB.out hx109_0;replace p109 := eq_true p109;replace q109 := eq_true q109;have p110 : 0 ≤ (x5_1 : Int) := odT zA_;have q110 : x5_1 < (l0.length : Int) := odT zA_;obtain ⟨ad110,e110,hx110_0⟩ := Kd.at_int HR0.out x5_1 p110 q110;obtain rfl : ad107 = ad110 := (by injection e110);replace hx110_0 := bwC HB.out hx110_0;replace p110 := eq_true p110;replace q110 := eq_true q110;obtain ⟨i014,hi014,_,hsz14,_⟩ := info_parts info3;obtain ⟨A14,hcut14,hA14,hC14⟩ := print_mid_of (P := Try.prog) (Value.int .i64) 0 22 3 .i64 .i64 Try.underlying22 hi014 hsz14 (some ad107) c0 l0 (ji9) (wrap64 ((ji9) + (rd l0 x5_1))) (odT zA_) (by first|omega|exact odT zA_) (odT zA_) HC0.out;have HR111 := As_ (Kd.C_of_reads (h1 := fun _ => rfl) (hA14 _ (Kd.reads_of_C HR0.out)));have HC111 := As_ hC14;clear hA14 hC14 hi014 hsz14)|((with_reducible refine gate_builtin (b := .append) (xs := #[.tmp 29,.tmp 40]) rfl ?_);(try (refine gate_guard (by rfl) ?_;dsimp only));at_builtin;refine Kd.R_append_rows (Kd.int .i64) (w0 := w) w.heap.size rfl (.tmp 29) (.tmp 40) 22 3 (.int .i64 0) 8 rfl Try.underlying22 info3 rfl (by decide) (by omega) u4 x4_1 ((l0.take ((wrap64 ((ji9) + (rd l0 x5_1))) : Int).toNat).drop ((ji9) : Int).toNat) _ _ _ (fun _ => True) (fun _ => False) rfl rfl ?aO ?aR (fun _ _ h => h) (fun _ h => h.elim) ?aF ?aB ?aS ?aL ?_;(case aR => first|(rw [← show ((l0.take ((wrap64 ((ji9) + (rd l0 x5_1))) : Int).toNat).drop ((ji9) : Int).toNat).length = ((wrap64 ((ji9) + (rd l0 x5_1))).toNat - (ji9).toNat) from (by rw [List.length_drop,List.length_take];have h_ : ((wrap64 ((ji9) + (rd l0 x5_1))) : Int) ≤ (l0.length : Int) := odT zA_;omega)];repeat (first|exact (Kd.C_below HR111.out (zb0 HB.out))|(with_reducible refine Kd.C_alloc ?_ _)|(with_reducible refine Kd.C_drewN ?_ _)|(with_reducible refine Kd.C_drew ?_)))|(repeat (first|exact (Kd.C_below HR111.out (zb0 HB.out))|(with_reducible refine Kd.C_alloc ?_ _)|(with_reducible refine Kd.C_drewN ?_ _)|(with_reducible refine Kd.C_drew ?_))));(case aB => exact (zb0 HB.out));(case aF => exact (fun _ _ => trivial));(case aO => exact (zR_ HO_4.out));(case aS => exact (bwZ (zb0 HB.out)));(case aL => have := LMc13.out;have hlx_ := (show ((l0.take ((wrap64 ((ji9) + (rd l0 x5_1))) : Int).toNat).drop ((ji9) : Int).toNat).length = ((wrap64 ((ji9) + (rd l0 x5_1))).toNat - (ji9).toNat) from (by rw [List.length_drop,List.length_take];have h_ : ((wrap64 ((ji9) + (rd l0 x5_1))) : Int) ≤ (l0.length : Int) := odT zA_;omega));omega);intro v113 w15 ho hb hg hat;rw [← Ny112.out] at ho;have n0_ := As_ (hb);have n1_ := As_ (ho);clear HB HO_4;revert n0_ n1_;intro HB HO114;clear ho hb hg hat;have p115 : 0 ≤ (x5_1 : Int) := odT zA_;have q115 : x5_1 < (l0.length : Int) := odT zA_;obtain ⟨ad115,e115,hx115_0⟩ := Kd.at_int HR0.out x5_1 p115 q115;obtain rfl : ad107 = ad115 := (by injection e115);replace hx115_0 := bwC HB.out hx115_0;replace p115 := eq_true p115;replace q115 := eq_true q115))
   go_roundg k1
   case measure => have := HK1.out;omega
   case rel => exact ⟨(y112),(wrap64 ((ji9) + (rd l0 x5_1))),(by first|rfl|(simp;done)|(simp only [← hji9] <;> (first|rfl|simp))|(simp [*];done)),H',⟨by have := HK1.out;omega⟩,⟨by (with_reducible repeat (first|apply Kd.R_alloc|apply Kd.R_drewN|apply Kd.R_drew));exact HO114.out⟩,⟨zb0 HB.out⟩⟩
/-! ### impl_UnframeTorn: function 89 -/
def impl_UnframeTorn.l0 : Nat → List Int → List Int → Int → Option (List Int × Int)
 | 0,_,_,_ => none
 | k + 1,x0,x4,x5 => if x5 < (x0.length : Int) then (if 0 ≤ x5 then (if (rd x0 x5) ≥ 1 then (if (rd x0 x5) ≤ 200 then (if (wrap64 ((wrap64 (x5 + 1)) + (rd x0 x5))) ≤ (x0.length : Int) then (if 0 ≤ (wrap64 (x5 + 1)) then (if (wrap64 (x5 + 1)) ≤ (wrap64 ((wrap64 (x5 + 1)) + (rd x0 x5))) then (if x4.length + ((x0.take ((wrap64 ((wrap64 (x5 + 1)) + (rd x0 x5))) : Int).toNat).drop ((wrap64 (x5 + 1)) : Int).toNat).length < 17592186044416 then (impl_UnframeTorn.l0 k x0 (x4 ++ ((x0.take ((wrap64 ((wrap64 (x5 + 1)) + (rd x0 x5))) : Int).toNat).drop ((wrap64 (x5 + 1)) : Int).toNat)) (wrap64 (x5 + (wrap64 (1 + (rd x0 x5)))))) else (none)) else (none)) else (none)) else (some (x4,x5))) else (some (x4,x5))) else (some (x4,x5))) else (none)) else (some (x4,x5))
def impl_UnframeTorn.f (k : Nat) (l0 : List Int) : Option (List Int × Int) := (impl_bytesOk.f l0 2000).bind fun t180 => (if t180 = true then (impl_UnframeTorn.l0 k l0 (([] : List Int)) 0) else (some (([] : List Int),(-1))))
set_option maxRecDepth 100000 in
theorem impl_UnframeTorn.mono_l : ∀ k,(∀ y0 y1 y2,LeO (impl_UnframeTorn.l0 k y0 y1 y2) (impl_UnframeTorn.l0 (k + 1) y0 y1 y2))
 | 0 => fun _ _ _ r h => (by cases h)
 | k + 1 => by
  have ih0 := impl_UnframeTorn.mono_l k
  ·intro y0 y1 y2
   unfold impl_UnframeTorn.l0
   repeat' first
   | (with_reducible exact ih0 _ _ _)
   | (with_reducible exact LeO.refl _)
   | (with_reducible exact LeO.none _)
   | (with_reducible refine LeO.ite ?_ ?_)
   | (with_reducible refine LeO.bind ?_ (fun _ => ?_))
   | exact ih0 _ _ _
   | exact LeO.none _
   | refine LeO.ite ?_ ?_
   | refine LeO.bind ?_ (fun _ => ?_)
set_option maxRecDepth 100000 in
theorem impl_UnframeTorn.mono : ∀ a0 k,LeO (impl_UnframeTorn.f k a0) (impl_UnframeTorn.f (k + 1) a0) := by
 intro a0 k
 have ih0 := impl_UnframeTorn.mono_l k
 unfold impl_UnframeTorn.f
 repeat' first
   | (with_reducible exact ih0 _ _ _)
   | (with_reducible exact LeO.refl _)
   | (with_reducible exact LeO.none _)
   | (with_reducible refine LeO.ite ?_ ?_)
   | (with_reducible refine LeO.bind ?_ (fun _ => ?_))
   | exact ih0 _ _ _
   | exact LeO.none _
   | refine LeO.ite ?_ ?_
   | refine LeO.bind ?_ (fun _ => ?_)
set_option maxHeartbeats 8000000 in
set_option maxRecDepth 100000 in
theorem impl_UnframeTorn.calls (k : Nat) (A0 : Option Addr) (c0 : Nat) (l0 : List Int) (r1 : List Int) (r2 : Int) (w : World) (hr0 : Kd.C (Kd.int .i64) w A0 l0.length l0) (hc0 : l0.length ≤ c0) (h : impl_UnframeTorn.f k l0 = some (r1,r2)) :
  Calls Try.prog 89 #[.slice A0 l0.length c0] w fun e w' => ∃ v0_ : Value,e = .returned (.tuple #[v0_,.int .i64 r2]) ∧ Kd.R (Kd.int .i64) 3 w' w.heap.size (fun _ => True) v0_ r1 ∧ Below w.heap.size w w' := by
 have HR0 := As_ hr0
 have HC0 := As_ hc0
 clear hr0 hc0
 have HB := As_ (Below.refl w.heap.size w)
 have H : ((impl_bytesOk.f l0 2000).bind fun t180 => (if t180 = true then (impl_UnframeTorn.l0 k l0 (([] : List Int)) 0) else (some (([] : List Int),(-1))))) = some (r1,r2) := h
 clear h
 replace H := obS H
 obtain ⟨t180,A20,H⟩ := H
 replace H : (if t180 = true then (impl_UnframeTorn.l0 k l0 (([] : List Int)) 0) else (some (([] : List Int),(-1)))) = some (r1,r2) := H
 have A2 := As_ A20
 clear A20
 by_cases c3 : t180 = true
 rotate_left
 ·replace c3 := Bool.eq_false_iff.mpr c3
  subst c3
  have H1 : (some (([] : List Int),(-1))) = some (r1,r2) := by rw [if_neg (show ¬ (false = true) by decide)] at H;exact H
  clear H
  have H := H1
  clear H1
  simp only [Option.some.injEq,Prod.mk.injEq] at H
  obtain ⟨rfl,rfl⟩ := H
  go_enter Try.func89,Try.ntmps89
  go_wp2_with (first|((with_reducible refine gate_callee (f := 96) rfl ?_);refine goesL_ (some 7) rfl rfl Try.func96 (by kernel_rfl) rfl #[.slice A0 l0.length c0,.int .i64 2000] rfl zM_ ?_;(with_reducible refine (impl_bytesOk.calls _ _ l0 2000 false _ ?side1 ?side2 A2.out).mono ?_);(case side1 => repeat (first|exact HR0.out|(with_reducible refine Kd.C_alloc ?_ _)|(with_reducible refine Kd.C_drewN ?_ _)|(with_reducible refine Kd.C_drew ?_)));(case side2 => exact HC0.out);rintro e w' ⟨rfl,⟨nd,rfl⟩⟩;refine ⟨_,rfl,?_⟩))
  go_ret2
  exact ⟨_,zE_,by first|exact Kd.R_nil _ _ _ _ _|exact Kd.N_nil _ _ _ _ _|exact Kd.V_nil _ _ _ _ _|exact Kd.Q_nil _ _ _ _ _|exact Kd.S_nil _ _ _ _ _,zb0 HB.out⟩

 subst c3
 have H1 : (impl_UnframeTorn.l0 k l0 (([] : List Int)) 0) = some (r1,r2) := by rw [if_pos rfl] at H;exact H
 clear H
 have H := H1
 clear H1
 obtain ⟨y181,hy181⟩ : ∃ y_ : List Int,y_ = (([] : List Int)) := ⟨_,rfl⟩
 replace H : (impl_UnframeTorn.l0 k l0 y181 0) = some (r1,r2) := zH_ H hy181
 have Ny181 := As_ hy181
 clear hy181
 have H' := As_ H
 clear H
 go_enter Try.func89,Try.ntmps89
 go_wp2_with (first|((with_reducible refine gate_callee (f := 96) rfl ?_);refine goesL_ (some 7) rfl rfl Try.func96 (by kernel_rfl) rfl #[.slice A0 l0.length c0,.int .i64 2000] rfl zM_ ?_;(with_reducible refine (impl_bytesOk.calls _ _ l0 2000 true _ ?side1 ?side2 A2.out).mono ?_);(case side1 => repeat (first|exact HR0.out|(with_reducible refine Kd.C_alloc ?_ _)|(with_reducible refine Kd.C_drewN ?_ _)|(with_reducible refine Kd.C_drew ?_)));(case side2 => exact HC0.out);rintro e w' ⟨rfl,⟨nd,rfl⟩⟩;refine ⟨_,rfl,?_⟩)|((with_reducible refine gate_dst (N := 9) rfl ?_);(try (refine gate_guard (by rfl) ?_;dsimp only));refine Kd.R_lit (Kd.int .i64) _ 3 ?hg (N := 9) ?hd (xs := ([] : List Int)) (inner := []) (ok := fun _ => True) (okp := fun _ => True) ?hr ?hp (fun _ hk => hk) trivial (Below.refl _ _) (Nat.le_refl _) (by simp) ?_;(case hd => rfl);(case hg => rfl);(case hr => go_simp <;> rfl);(case hp => exact (Reps.none _ _));intro v182 w4 ho5 hb hg_ hnew_;clear hg_ hnew_;(first|rw [← Ny181.out] at ho5|(simp only [Int.reduceToNat] at ho5;rw [← Ny181.out] at ho5));have n0_ := As_ (Kd.R_lower ho5 (bwZ (zb0 HB.out)));have n1_ := As_ (bwT (zb0 HB.out) hb);clear HB;revert n0_ n1_;intro HO183 HB;clear hb ho5))
 go_loopg [4,5] k (fun kq v4 v5 w' => ∃ (x4_1 : List Int) (x5_1 : Int),v5 = .int .i64 x5_1 ∧ Aside0 (impl_UnframeTorn.l0 kq l0 x4_1 x5_1 = some (r1,r2)) ∧ Aside0 (kq ≤ k) ∧ Aside0 (Kd.R (Kd.int .i64) 3 w' w.heap.size (fun _ => True) v4 x4_1) ∧ Aside0 (Below w.heap.size w w'))
 case atStart => exact ⟨(y181),(0),zT_,H',⟨Nat.le_refl _⟩,⟨by (with_reducible repeat (first|apply Kd.R_alloc|apply Kd.R_drewN|apply Kd.R_drew));exact HO183.out⟩,⟨zb0 HB.out⟩⟩
 case round =>
  clear H'
  obtain ⟨x4_1,x5_1,rfl,HA,HK1,HO_4,HB⟩ := hrel
  cases gk with
  | zero => exact absurd HA.out (fun h_ => (by cases h_))
  | succ k1 =>
   have H := HA.out
   clear HA
   simp only [impl_UnframeTorn.l0] at H
   by_cases c6 : x5_1 < (l0.length : Int)
   rotate_left
   ·rw [if_neg c6] at H
    have c6b0 : decide (x5_1 < (l0.length : Int)) = false := deF c6
    clear c6
    simp only [Option.some.injEq,Prod.mk.injEq] at H
    obtain ⟨rfl,rfl⟩ := H
    go_wp2
    go_ret2
    exact ⟨_,zE_,by (with_reducible repeat (first|apply Kd.R_alloc|apply Kd.R_drewN|apply Kd.R_drew));exact HO_4.out,zb0 HB.out⟩
   rw [if_pos c6] at H
   have c6b0 : decide (x5_1 < (l0.length : Int)) = true := deT c6
   clear c6
   by_cases c7 : 0 ≤ x5_1
   rotate_left
   ·rw [if_neg c7] at H
    exact absurd H (by simp)
   rw [if_pos c7] at H
   have c7b0 : decide (0 ≤ x5_1) = true := deT c7
   clear c7
   by_cases c8 : (rd l0 x5_1) ≥ 1
   rotate_left
   ·rw [if_neg c8] at H
    have c8b0 : decide (1 ≤ (rd l0 x5_1)) = false := deF c8
    clear c8
    simp only [Option.some.injEq,Prod.mk.injEq] at H
    obtain ⟨rfl,rfl⟩ := H
    have p184 : 0 ≤ (x5_1 : Int) := odT zA_
    have q184 : x5_1 < (l0.length : Int) := odT zA_
    obtain ⟨ad184,e184,hx184_0⟩ := Kd.at_int HR0.out x5_1 p184 q184
    cases e184
    replace hx184_0 := bwC HB.out hx184_0
    replace p184 := eq_true p184
    replace q184 := eq_true q184
    go_wp2
    go_ret2
    exact ⟨_,zE_,by (with_reducible repeat (first|apply Kd.R_alloc|apply Kd.R_drewN|apply Kd.R_drew));exact HO_4.out,zb0 HB.out⟩
   rw [if_pos c8] at H
   have c8b0 : decide (1 ≤ (rd l0 x5_1)) = true := deT c8
   clear c8
   by_cases c9 : (rd l0 x5_1) ≤ 200
   rotate_left
   ·rw [if_neg c9] at H
    have c9b0 : decide ((rd l0 x5_1) ≤ 200) = false := deF c9
    clear c9
    simp only [Option.some.injEq,Prod.mk.injEq] at H
    obtain ⟨rfl,rfl⟩ := H
    have p184 : 0 ≤ (x5_1 : Int) := odT zA_
    have q184 : x5_1 < (l0.length : Int) := odT zA_
    obtain ⟨ad184,e184,hx184_0⟩ := Kd.at_int HR0.out x5_1 p184 q184
    cases e184
    replace hx184_0 := bwC HB.out hx184_0
    replace p184 := eq_true p184
    replace q184 := eq_true q184
    have p185 : 0 ≤ (x5_1 : Int) := odT zA_
    have q185 : x5_1 < (l0.length : Int) := odT zA_
    obtain ⟨ad185,e185,hx185_0⟩ := Kd.at_int HR0.out x5_1 p185 q185
    obtain rfl : ad184 = ad185 := (by injection e185)
    replace hx185_0 := bwC HB.out hx185_0
    replace p185 := eq_true p185
    replace q185 := eq_true q185
    go_wp2
    go_ret2
    exact ⟨_,zE_,by (with_reducible repeat (first|apply Kd.R_alloc|apply Kd.R_drewN|apply Kd.R_drew));exact HO_4.out,zb0 HB.out⟩
   rw [if_pos c9] at H
   have c9b0 : decide ((rd l0 x5_1) ≤ 200) = true := deT c9
   clear c9
   by_cases c10 : (wrap64 ((wrap64 (x5_1 + 1)) + (rd l0 x5_1))) ≤ (l0.length : Int)
   rotate_left
   ·rw [if_neg c10] at H
    have c10b0 : decide ((wrap64 ((wrap64 (x5_1 + 1)) + (rd l0 x5_1))) ≤ (l0.length : Int)) = false := deF c10
    clear c10
    simp only [Option.some.injEq,Prod.mk.injEq] at H
    obtain ⟨rfl,rfl⟩ := H
    have p184 : 0 ≤ (x5_1 : Int) := odT zA_
    have q184 : x5_1 < (l0.length : Int) := odT zA_
    obtain ⟨ad184,e184,hx184_0⟩ := Kd.at_int HR0.out x5_1 p184 q184
    cases e184
    replace hx184_0 := bwC HB.out hx184_0
    replace p184 := eq_true p184
    replace q184 := eq_true q184
    have p185 : 0 ≤ (x5_1 : Int) := odT zA_
    have q185 : x5_1 < (l0.length : Int) := odT zA_
    obtain ⟨ad185,e185,hx185_0⟩ := Kd.at_int HR0.out x5_1 p185 q185
    obtain rfl : ad184 = ad185 := (by injection e185)
    replace hx185_0 := bwC HB.out hx185_0
    replace p185 := eq_true p185
    replace q185 := eq_true q185
    have p186 : 0 ≤ (x5_1 : Int) := odT zA_
    have q186 : x5_1 < (l0.length : Int) := odT zA_
    obtain ⟨ad186,e186,hx186_0⟩ := Kd.at_int HR0.out x5_1 p186 q186
    obtain rfl : ad184 = ad186 := (by injection e186)
    replace hx186_0 := bwC HB.out hx186_0
    replace p186 := eq_true p186
    replace q186 := eq_true q186
    go_wp2
    go_ret2
    exact ⟨_,zE_,by (with_reducible repeat (first|apply Kd.R_alloc|apply Kd.R_drewN|apply Kd.R_drew));exact HO_4.out,zb0 HB.out⟩
   rw [if_pos c10] at H
   have c10b0 : decide ((wrap64 ((wrap64 (x5_1 + 1)) + (rd l0 x5_1))) ≤ (l0.length : Int)) = true := deT c10
   clear c10
   obtain ⟨ji11,hji11⟩ : ∃ j_ : Int,(wrap64 (x5_1 + 1)) = j_ := ⟨_,rfl⟩
   replace H : (if 0 ≤ (ji11) then (if (ji11) ≤ (wrap64 ((ji11) + (rd l0 x5_1))) then (if x4_1.length + ((l0.take ((wrap64 ((ji11) + (rd l0 x5_1))) : Int).toNat).drop ((ji11) : Int).toNat).length < 17592186044416 then (impl_UnframeTorn.l0 k1 l0 (x4_1 ++ ((l0.take ((wrap64 ((ji11) + (rd l0 x5_1))) : Int).toNat).drop ((ji11) : Int).toNat)) (wrap64 (x5_1 + (wrap64 (1 + (rd l0 x5_1)))))) else (none)) else (none)) else (none)) = some (r1,r2) := by first|(rw [hji11] at H;exact H)|(simp only [hji11] at H ⊢;exact H)
   (try rw [hji11] at c10b0)
   have hji11w : (IntKind.i64.wrap (x5_1 + 1)) = ji11 := (i64_w _).trans hji11
   by_cases c12 : 0 ≤ (ji11)
   rotate_left
   ·rw [if_neg c12] at H
    exact absurd H (by simp)
   rw [if_pos c12] at H
   have c12b0 := eq_true c12
   have c12b1 : decide (0 ≤ (ji11)) = true := deT c12
   clear c12
   by_cases c13 : (ji11) ≤ (wrap64 ((ji11) + (rd l0 x5_1)))
   rotate_left
   ·rw [if_neg c13] at H
    exact absurd H (by simp)
   rw [if_pos c13] at H
   have c13b0 := eq_true c13
   have c13b1 : decide ((ji11) ≤ (wrap64 ((ji11) + (rd l0 x5_1)))) = true := deT c13
   have c14b0 := eq_true (odT zA_ : (wrap64 ((ji11) + (rd l0 x5_1))) ≤ (l0.length : Int))
   by_cases c15 : x4_1.length + ((l0.take ((wrap64 ((ji11) + (rd l0 x5_1))) : Int).toNat).drop ((ji11) : Int).toNat).length < 17592186044416
   rotate_left
   ·rw [if_neg c15] at H
    exact absurd H (by simp)
   rw [if_pos c15] at H
   have LMc15 := As_ c15
   clear c15
   obtain ⟨y189,hy189⟩ : ∃ y_ : List Int,y_ = (x4_1 ++ ((l0.take ((wrap64 ((ji11) + (rd l0 x5_1))) : Int).toNat).drop ((ji11) : Int).toNat)) := ⟨_,rfl⟩
   replace H : (impl_UnframeTorn.l0 k1 l0 y189 (wrap64 (x5_1 + (wrap64 (1 + (rd l0 x5_1)))))) = some (r1,r2) := zH_ H hy189
   have Ny189 := As_ hy189
   clear hy189
   have H' := As_ H
   clear H
   have p184 : 0 ≤ (x5_1 : Int) := odT zA_
   have q184 : x5_1 < (l0.length : Int) := odT zA_
   obtain ⟨ad184,e184,hx184_0⟩ := Kd.at_int HR0.out x5_1 p184 q184
   cases e184
   replace hx184_0 := bwC HB.out hx184_0
   replace p184 := eq_true p184
   replace q184 := eq_true q184
   have p185 : 0 ≤ (x5_1 : Int) := odT zA_
   have q185 : x5_1 < (l0.length : Int) := odT zA_
   obtain ⟨ad185,e185,hx185_0⟩ := Kd.at_int HR0.out x5_1 p185 q185
   obtain rfl : ad184 = ad185 := (by injection e185)
   replace hx185_0 := bwC HB.out hx185_0
   replace p185 := eq_true p185
   replace q185 := eq_true q185
   have p186 : 0 ≤ (x5_1 : Int) := odT zA_
   have q186 : x5_1 < (l0.length : Int) := odT zA_
   obtain ⟨ad186,e186,hx186_0⟩ := Kd.at_int HR0.out x5_1 p186 q186
   obtain rfl : ad184 = ad186 := (by injection e186)
   replace hx186_0 := bwC HB.out hx186_0
   replace p186 := eq_true p186
   replace q186 := eq_true q186
   have p187 : 0 ≤ (x5_1 : Int) := odT zA_
   have q187 : x5_1 < (l0.length : Int) := odT zA_
   obtain ⟨ad187,e187,hx187_0⟩ := Kd.at_int HR0.out x5_1 p187 q187
   obtain rfl : ad184 = ad187 := (by injection e187)
   replace hx187_0 := bwC HB.out hx187_0
   replace p187 := eq_true p187
   replace q187 := eq_true q187
   obtain ⟨i016,hi016,_,hsz16,_⟩ := info_parts info3
   obtain ⟨A16,hcut16,hA16,hC16⟩ := print_mid_of (P := Try.prog) (Value.int .i64) 0 22 3 .i64 .i64 Try.underlying22 hi016 hsz16 (some ad184) c0 l0 (ji11) (wrap64 ((ji11) + (rd l0 x5_1))) (odT zA_) (by first|omega|exact odT zA_) (odT zA_) HC0.out
   have HR188 := As_ (Kd.C_of_reads (h1 := fun _ => rfl) (hA16 _ (Kd.reads_of_C HR0.out)))
   have HC188 := As_ hC16
   clear hA16 hC16 hi016 hsz16
   go_wp2_with (first|((with_reducible refine gate_builtin (b := .append) (xs := #[.tmp 40,.tmp 51]) rfl ?_);(try (refine gate_guard (by rfl) ?_;dsimp only));at_builtin;refine Kd.R_append_rows (Kd.int .i64) (w0 := w) w.heap.size rfl (.tmp 40) (.tmp 51) 22 3 (.int .i64 0) 8 rfl Try.underlying22 info3 rfl (by decide) (by omega) u4 x4_1 ((l0.take ((wrap64 ((ji11) + (rd l0 x5_1))) : Int).toNat).drop ((ji11) : Int).toNat) _ _ _ (fun _ => True) (fun _ => False) rfl rfl ?aO ?aR (fun _ _ h => h) (fun _ h => h.elim) ?aF ?aB ?aS ?aL ?_;(case aR => first|(rw [← show ((l0.take ((wrap64 ((ji11) + (rd l0 x5_1))) : Int).toNat).drop ((ji11) : Int).toNat).length = ((wrap64 ((ji11) + (rd l0 x5_1))).toNat - (ji11).toNat) from (by rw [List.length_drop,List.length_take];have h_ : ((wrap64 ((ji11) + (rd l0 x5_1))) : Int) ≤ (l0.length : Int) := odT zA_;omega)];repeat (first|exact (Kd.C_below HR188.out HB.out)|(with_reducible refine Kd.C_alloc ?_ _)|(with_reducible refine Kd.C_drewN ?_ _)|(with_reducible refine Kd.C_drew ?_)))|(repeat (first|exact (Kd.C_below HR188.out HB.out)|(with_reducible refine Kd.C_alloc ?_ _)|(with_reducible refine Kd.C_drewN ?_ _)|(with_reducible refine Kd.C_drew ?_))));(case aB => exact (zb0 HB.out));(case aF => exact (fun _ _ => trivial));(case aO => exact (zR_ HO_4.out));(case aS => exact (bwZ (zb0 HB.out)));(case aL => have := LMc15.out;have hlx_ := (show ((l0.take ((wrap64 ((ji11) + (rd l0 x5_1))) : Int).toNat).drop ((ji11) : Int).toNat).length = ((wrap64 ((ji11) + (rd l0 x5_1))).toNat - (ji11).toNat) from (by rw [List.length_drop,List.length_take];have h_ : ((wrap64 ((ji11) + (rd l0 x5_1))) : Int) ≤ (l0.length : Int) := odT zA_;omega));omega);intro v190 w17 ho hb hg hat;rw [← Ny189.out] at ho;have n0_ := As_ (hb);have n1_ := As_ (ho);clear HB HO_4;revert n0_ n1_;intro HB HO191;clear ho hb hg hat;have p192 : 0 ≤ (x5_1 : Int) := odT zA_;have q192 : x5_1 < (l0.length : Int) := odT zA_;obtain ⟨ad192,e192,hx192_0⟩ := Kd.at_int HR0.out x5_1 p192 q192;obtain rfl : ad184 = ad192 := (by injection e192);replace hx192_0 := bwC HB.out hx192_0;replace p192 := eq_true p192;replace q192 := eq_true q192))
   go_roundg k1
   case measure => have := HK1.out;omega
   case rel => exact ⟨(y189),(wrap64 (x5_1 + (wrap64 (1 + (rd l0 x5_1))))),zT_,H',⟨by have := HK1.out;omega⟩,⟨by (with_reducible repeat (first|apply Kd.R_alloc|apply Kd.R_drewN|apply Kd.R_drew));exact HO191.out⟩,⟨zb0 HB.out⟩⟩
end Go.Proofs.Ytbokjhdhpmmpfaa.Q
