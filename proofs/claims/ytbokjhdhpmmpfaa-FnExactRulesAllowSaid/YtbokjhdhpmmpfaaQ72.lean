-- Written by wip/tools/qprint.py (a program of this claim's author) by means of the kit's printer.
import Derived.Test.YtbokjhdhpmmpfaaQ0
import Derived.Test.YtbokjhdhpmmpfaaQ99
namespace Go.Proofs.Ytbokjhdhpmmpfaa.Q
open Go.RowKit Go.Proofs.YtbokjhdhpmmpfaaW.PrintWords Go.Proofs.YtbokjhdhpmmpfaaW.PrintLast Go.Proofs.YtbokjhdhpmmpfaaW.PrintMore
attribute [local go_sem] max2_int min2_int max_two min_two max_three min_three max_four min_four   -- for this text's walks alone
set_option linter.unusedVariables false
set_option linter.unusedSimpArgs false

/-! ### slices_ContainsFunc_int_int: function 72 -/
def slices_ContainsFunc_int_int.l0 : Nat → List Int → List Int → Int → Option Bool
  | 0, _, _, _ => none
  | k + 1, l0, l1, x => if x < (l0.length : Int) then (if 0 ≤ x then ((slices_Contains_int_int.f k l1 (rd l0 x)).bind fun t => (if t = true then slices_ContainsFunc_int_int.l0 k l0 l1 (wrap64 (x + 1)) else (some true))) else none) else (some false)
def slices_ContainsFunc_int_int.f (k : Nat) (l0 : List Int) (a1_0 : Int) (a1_1 : Int) (a1_2 : Int) (l1_3 : List Int) : Option (Bool) := slices_ContainsFunc_int_int.l0 k l0 l1_3 0
set_option maxRecDepth 100000 in
theorem slices_ContainsFunc_int_int.mono_l : ∀ k, (∀ y0 y1 y2, LeO (slices_ContainsFunc_int_int.l0 k y0 y1 y2) (slices_ContainsFunc_int_int.l0 (k + 1) y0 y1 y2))
  | 0 => fun _ _ _ r h => (by cases h)
  | k + 1 => by
    have ih0 := slices_ContainsFunc_int_int.mono_l k
    · intro y0 y1 y2
      unfold slices_ContainsFunc_int_int.l0
      repeat' first
      | (with_reducible exact ih0 _ _ _)
      | (with_reducible exact slices_Contains_int_int.mono _ _ _)
      | (with_reducible exact LeO.refl _)
      | (with_reducible exact LeO.none _)
      | (with_reducible refine LeO.ite ?_ ?_)
      | (with_reducible refine LeO.bind ?_ (fun _ => ?_))
theorem slices_ContainsFunc_int_int.mono : ∀ a0 a1 a2 a3 a4 k, LeO (slices_ContainsFunc_int_int.f k a0 a1 a2 a3 a4) (slices_ContainsFunc_int_int.f (k + 1) a0 a1 a2 a3 a4) := by
  intro a0 a1 a2 a3 a4 k
  unfold slices_ContainsFunc_int_int.f
  exact slices_ContainsFunc_int_int.mono_l k _ _ _
set_option maxHeartbeats 4000000 in
set_option maxRecDepth 100000 in
/-- The function literal: is a number no member of the boxed rules' classes? -/
theorem slices_ContainsFunc_int_int.lit (k : Nat) (x : Int) (g : Nat) (a0 a1 a2 : Int) (A3 : Option Addr) (c3 : Nat) (l3 : List Int) (t : Bool) (w : World) (hr3 : Kd.C (Kd.int .i64) w A3 l3.length l3) (hc3 : l3.length ≤ c3)
    (hbox : w.heap[g]? = some (.cells #[.int .i64 a0, .int .i64 a1, .int .i64 a2, .slice A3 l3.length c3] 47 (0, 0))) (h : slices_Contains_int_int.f k l3 x = some t) :
    Calls Try.prog 73 #[.int .i64 x, .pointer (some ⟨g, 0, none⟩)] w fun e w' => e = .returned (.bool (!t)) ∧ Drawn0 w w' := by
  have hu := Try.underlying47
  have HR := Aside0.mk hr3
  have HC := Aside0.mk hc3
  have A := Aside0.mk h
  clear hr3 hc3 h
  have hcz_3 : w.cell? ⟨g, 3, none⟩ = some (.slice A3 l3.length c3) := (blk_cell hbox 3).trans rfl
  have hfz_3 := blk_frozen hbox 3
  clear hbox
  go_enter Try.func73, Try.ntmps73
  go_wp2_with (go_at_call 70; (with_reducible refine (slices_Contains_int_int.calls k _ _ l3 x t _ HR.out HC.out A.out).mono ?_); rintro e w' ⟨rfl, ⟨nd, rfl⟩⟩)
  go_ret
  exact ⟨rfl, by repeat (first | exact Drawn0.refl _ | apply Drawn0.step)⟩
set_option maxHeartbeats 4000000 in
set_option maxRecDepth 100000 in
/-- What slices.IndexFunc tells with it: a place, just if there is one. -/
theorem slices_ContainsFunc_int_int.index (k : Nat) (A0 : Option Addr) (c0 : Nat) (l0 : List Int) (g : Nat) (a0 a1 a2 : Int) (A3 : Option Addr) (c3 : Nat) (l3 : List Int) (r : Bool) (w : World) (hr0 : Kd.C (Kd.int .i64) w A0 l0.length l0) (hr3 : Kd.C (Kd.int .i64) w A3 l3.length l3) (hc3 : l3.length ≤ c3)
    (hbox : w.heap[g]? = some (.cells #[.int .i64 a0, .int .i64 a1, .int .i64 a2, .slice A3 l3.length c3] 47 (0, 0))) (h : slices_ContainsFunc_int_int.l0 k l0 l3 0 = some r) :
    Calls Try.prog 101 #[.slice A0 l0.length c0, .func (.func 73) #[] #[.pointer (some ⟨g, 0, none⟩)]] w fun e w' => (∃ i : Int, e = .returned (.int .i64 i) ∧ decide (0 ≤ i) = r) ∧ Drawn0 w w' := by
  have hmax := Kd.C_max hr0
  have HR0 := Aside0.mk hr0
  have HR3 := Aside0.mk hr3
  have HC3 := Aside0.mk hc3
  have BK := Aside0.mk hbox
  clear hr0 hr3 hc3 hbox
  have H' := Aside0.mk h
  clear h
  go_enter Try.func101, Try.ntmps101
  go_wp2
  go_loopg [8] k (fun kq v8 w' => ∃ (x8_1 : Int), v8 = .int .i64 x8_1 ∧ Aside0 (slices_ContainsFunc_int_int.l0 kq l0 l3 x8_1 = some r) ∧ Aside0 (kq ≤ k) ∧ Drawn0 w w')
  case atStart => exact ⟨0, rfl, H', ⟨Nat.le_refl _⟩, Drawn0.refl _⟩
  case round =>
    clear H'
    obtain ⟨x8_1, rfl, HA, HK1, ⟨m1, rfl⟩⟩ := hrel
    cases gk with
    | zero => exact absurd HA.out (fun h_ => (by cases h_))
    | succ k1 =>
      have H := HA.out
      clear HA
      simp only [slices_ContainsFunc_int_int.l0] at H
      by_cases c3 : x8_1 < (l0.length : Int)
      · rw [if_pos c3] at H
        have c3b0 : decide (x8_1 < (l0.length : Int)) = true := decide_eq_true c3
        by_cases c4 : 0 ≤ x8_1
        · rw [if_pos c4] at H
          have c4b0 : decide (0 ≤ x8_1) = true := decide_eq_true c4
          obtain ⟨t, A50, H⟩ := Option.bind_eq_some_iff.mp H
          have A5 := Aside0.mk A50
          clear A50
          obtain ⟨ad, e1, hx⟩ := Kd.at_int HR0.out x8_1 c4 c3
          cases e1
          replace c3 := eq_true c3
          replace c4 := eq_true c4
          cases t with
          | true =>
            replace H : slices_ContainsFunc_int_int.l0 k1 l0 l3 (wrap64 (x8_1 + 1)) = some r := by rw [if_pos rfl] at H; exact H
            have H' := Aside0.mk H
            clear H
            go_wp2_with (go_at_call 73; (with_reducible refine (slices_ContainsFunc_int_int.lit k1 (rd l0 x8_1) g a0 a1 a2 A3 _ l3 true _ ?side1 HC3.out ?side2 A5.out).mono ?_); (case side1 => repeat (first | exact HR3.out | (with_reducible refine Kd.C_drewN ?_ _) | (with_reducible refine Kd.C_drew ?_))); (case side2 => (with_reducible repeat (first | refine blk_drewN ?_ _ | refine blk_drew ?_)); exact BK.out); rintro e w' ⟨rfl, ⟨nd, rfl⟩⟩)
            go_roundg k1
            case measure => have := HK1.out; omega
            case rel => exact ⟨wrap64 (x8_1 + 1), (by first | rfl | (simp; done) | (simp [*]; done)), H', ⟨by have := HK1.out; omega⟩, by repeat (first | exact Drawn0.refl _ | apply Drawn0.step)⟩
          | false =>
            replace H : some true = some r := by rw [if_neg (by decide)] at H; exact H
            obtain rfl := Option.some.inj H
            go_wp2_with (go_at_call 73; (with_reducible refine (slices_ContainsFunc_int_int.lit k1 (rd l0 x8_1) g a0 a1 a2 A3 _ l3 false _ ?side1 HC3.out ?side2 A5.out).mono ?_); (case side1 => repeat (first | exact HR3.out | (with_reducible refine Kd.C_drewN ?_ _) | (with_reducible refine Kd.C_drew ?_))); (case side2 => (with_reducible repeat (first | refine blk_drewN ?_ _ | refine blk_drew ?_)); exact BK.out); rintro e w' ⟨rfl, ⟨nd, rfl⟩⟩)
            go_ret
            exact ⟨⟨x8_1, rfl, by assumption⟩, by repeat (first | exact Drawn0.refl _ | apply Drawn0.step)⟩
        · rw [if_neg c4] at H
          exact absurd H (by simp)
      · rw [if_neg c3] at H
        have c3b0 : decide (x8_1 < (l0.length : Int)) = false := decide_eq_false c3
        clear c3
        obtain rfl := Option.some.inj H
        go_wp2
        go_ret
        exact ⟨⟨-1, rfl, by decide⟩, by repeat (first | exact Drawn0.refl _ | apply Drawn0.step)⟩
set_option maxHeartbeats 4000000 in
theorem slices_ContainsFunc_int_int.calls (k : Nat) (A0 : Option Addr) (c0 : Nat) (l0 : List Int) (a0 a1 a2 : Int) (A3 : Option Addr) (c3 : Nat) (l3 : List Int) (r : Bool) (w : World) (hr0 : Kd.C (Kd.int .i64) w A0 l0.length l0) (hc0 : l0.length ≤ c0) (hr3 : Kd.C (Kd.int .i64) w A3 l3.length l3) (hc3 : l3.length ≤ c3) (h : slices_ContainsFunc_int_int.f k l0 a0 a1 a2 l3 = some r)
    {g : Nat} (hbox : w.heap[g]? = some (.cells #[.int .i64 a0, .int .i64 a1, .int .i64 a2, .slice A3 l3.length c3] 47 (0, 0))) :
    Calls Try.prog 72 #[.slice A0 l0.length c0, .func (.func 73) #[] #[.pointer (some ⟨g, 0, none⟩)]] w fun e w' => e = .returned (.bool r) ∧ Below w.heap.size w w' := by
  have HR0 := Aside0.mk hr0
  have HR3 := Aside0.mk hr3
  have HC3 := Aside0.mk hc3
  have BK := Aside0.mk hbox
  have H := Aside0.mk h
  clear hr0 hr3 hc3 hbox h
  go_enter Try.func72, Try.ntmps72
  go_wp2_with (go_at_call 101; refine (slices_ContainsFunc_int_int.index k _ _ l0 g a0 a1 a2 A3 _ l3 r _ HR0.out HR3.out HC3.out BK.out H.out).mono ?_; rintro e w' ⟨⟨i, rfl, hi⟩, ⟨nd, rfl⟩⟩; have HT := Aside0.mk hi; clear hi)
  go_ret
  exact ⟨by rw [← HT.out]; rfl, Drawn0.below (by repeat (first | exact Drawn0.refl _ | apply Drawn0.step))⟩

end Go.Proofs.Ytbokjhdhpmmpfaa.Q
