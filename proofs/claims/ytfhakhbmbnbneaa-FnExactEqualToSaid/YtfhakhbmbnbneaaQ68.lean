-- Written by wip/tools/qprint.py (a program of this claim's author) by means of the kit's printer.
import Derived.Test.YtfhakhbmbnbneaaQ0
import Derived.Test.YtfhakhbmbnbneaaQ67
import Derived.Test.YtfhakhbmbnbneaaHmap
namespace Go.Proofs.Ytfhakhbmbnbneaa.Q
open Go.RowKit Go.Proofs.YtfhakhbmbnbneaaW.PrintWords Go.Proofs.YtfhakhbmbnbneaaW.PrintLast Go.Proofs.YtfhakhbmbnbneaaW.PrintMore
attribute [local go_sem] max2_int min2_int max_two min_two max_three min_three max_four min_four   -- for this text's walks alone
set_option linter.unusedVariables false
set_option linter.unusedSimpArgs false

/-! ### impl_circles: function 68 -/
theorem impl_circles.zero_bool (w : World) : (zeroValue 4).run Try.prog w = .ok (.bool false) w := by kernel_rfl
theorem impl_circles.wf_of {x : Int} {n : Nat} (h0 : 0 ≤ x) (h1 : x < (n : Int)) (hn : n ≤ 9223372036854775807) : (Lit.int .i64 x).wf = true := by
 have h2 : x < 9223372036854775808 := by omega
 simp [Lit.wf,IntKind.min,IntKind.max,IntKind.bits,IntKind.signed]
 omega
mutual
def impl_circles.l0 : Nat → List (S45) → Int → List Int → List Int → Option (Bool)
 | 0,_,_,_,_ => none
 | k + 1,x0,x1,x7,x8 => if (x8.length : Int) > 0 then (if 0 ≤ (wrap64 ((x8.length : Int) - 1)) then (if (wrap64 ((x8.length : Int) - 1)) < (x8.length : Int) then (if (wrap64 ((x8.length : Int) - 1)) ≤ (x8.length : Int) then (if 0 ≤ (rd x8 (wrap64 ((x8.length : Int) - 1))) then (if (rd x8 (wrap64 ((x8.length : Int) - 1))) < (x0.length : Int) then (impl_circles.l1 k x0 x1 x7 (x8.take ((wrap64 ((x8.length : Int) - 1)) : Int).toNat) ((rd_T45 x0 (rd x8 (wrap64 ((x8.length : Int) - 1)))).f2) (((rd_T45 x0 (rd x8 (wrap64 ((x8.length : Int) - 1)))).f2).length : Int) 0) else (none)) else (none)) else (none)) else (none)) else (none)) else (some false)
def impl_circles.l1 : Nat → List (S45) → Int → List Int → List Int → List Int → Int → Int → Option (Bool)
 | 0,_,_,_,_,_,_,_ => none
 | k + 1,x0,x1,x7,x8,x33,x34,x35 => if x35 < x34 then (if 0 ≤ x35 then (if x35 < (x33.length : Int) then (if (rd x33 x35) = x1 then (some true) else (if 0 ≤ (rd x33 x35) then (if (rd x33 x35) < (x0.length : Int) then ((impl_ValidGraph_2.f ((rd_T45 x0 (rd x33 x35)).f0) ((rd_T45 x0 (rd x33 x35)).f1) ((rd_T45 x0 (rd x33 x35)).f2)).bind fun t243 => (if t243 = true then (if (rd x33 x35) ∈ x7 then (impl_circles.l1 k x0 x1 x7 x8 x33 x34 (wrap64 (x35 + 1))) else (if x7.length < 17592186044416 then (if x8.length < 17592186044416 then (impl_circles.l1 k x0 x1 (x7 ++ [rd x33 x35]) (x8 ++ [rd x33 x35]) x33 x34 (wrap64 (x35 + 1))) else (none)) else (none))) else (impl_circles.l1 k x0 x1 x7 x8 x33 x34 (wrap64 (x35 + 1))))) else (none)) else (none))) else (none)) else (none)) else (impl_circles.l0 k x0 x1 x7 x8)
end
def impl_circles.f (k : Nat) (l0 : List (S45)) (a1 : Int) : Option (Bool) := impl_circles.l0 k l0 a1 (([] : List Int)) (([a1] : List Int))
set_option maxRecDepth 100000 in
theorem impl_circles.mono_l : ∀ k,(∀ y0 y1 y2 y3,LeO (impl_circles.l0 k y0 y1 y2 y3) (impl_circles.l0 (k + 1) y0 y1 y2 y3)) ∧ (∀ y0 y1 y2 y3 y4 y5 y6,LeO (impl_circles.l1 k y0 y1 y2 y3 y4 y5 y6) (impl_circles.l1 (k + 1) y0 y1 y2 y3 y4 y5 y6))
 | 0 => ⟨fun _ _ _ _ r h => (by cases h),fun _ _ _ _ _ _ _ r h => (by cases h)⟩
 | k + 1 => by
  obtain ⟨ih0,ih1⟩ := impl_circles.mono_l k
  refine ⟨?_,?_⟩
  ·intro y0 y1 y2 y3
   unfold impl_circles.l0
   repeat' first
   | (with_reducible exact ih0 _ _ _ _)
   | (with_reducible exact ih1 _ _ _ _ _ _ _)
   | (with_reducible exact LeO.refl _)
   | (with_reducible exact LeO.none _)
   | (with_reducible refine LeO.ite ?_ ?_)
   | (with_reducible refine LeO.bind ?_ (fun _ => ?_))
   | exact ih0 _ _ _ _
   | exact ih1 _ _ _ _ _ _ _
   | exact LeO.none _
   | refine LeO.ite ?_ ?_
   | refine LeO.bind ?_ (fun _ => ?_)
  ·intro y0 y1 y2 y3 y4 y5 y6
   unfold impl_circles.l1
   repeat' first
   | (with_reducible exact ih0 _ _ _ _)
   | (with_reducible exact ih1 _ _ _ _ _ _ _)
   | (with_reducible exact LeO.refl _)
   | (with_reducible exact LeO.none _)
   | (with_reducible refine LeO.ite ?_ ?_)
   | (with_reducible refine LeO.bind ?_ (fun _ => ?_))
   | exact ih0 _ _ _ _
   | exact ih1 _ _ _ _ _ _ _
   | exact LeO.none _
   | refine LeO.ite ?_ ?_
   | refine LeO.bind ?_ (fun _ => ?_)
set_option maxRecDepth 100000 in
theorem impl_circles.mono : ∀ a0 a1 k,LeO (impl_circles.f k a0 a1) (impl_circles.f (k + 1) a0 a1) := by
 intro a0 a1 k
 obtain ⟨ih0,ih1⟩ := impl_circles.mono_l k
 unfold impl_circles.f
 repeat' first
   | (with_reducible exact ih0 _ _ _ _)
   | (with_reducible exact ih1 _ _ _ _ _ _ _)
   | (with_reducible exact LeO.refl _)
   | (with_reducible exact LeO.none _)
   | (with_reducible refine LeO.ite ?_ ?_)
   | (with_reducible refine LeO.bind ?_ (fun _ => ?_))
   | exact ih0 _ _ _ _
   | exact ih1 _ _ _ _ _ _ _
   | exact LeO.none _
   | refine LeO.ite ?_ ?_
   | refine LeO.bind ?_ (fun _ => ?_)
set_option maxHeartbeats 8000000 in
set_option maxRecDepth 100000 in
theorem impl_circles.calls (k : Nat) (A0 : Option Addr) (c0 : Nat) (l0 : List (S45)) (a1 : Int) (r : Bool) (w : World) (hr0 : Kd.C k45 w A0 l0.length l0) (hc0 : l0.length ≤ c0) (h : impl_circles.f k l0 a1 = some r) :
  Calls Try.prog 68 #[.slice A0 l0.length c0,.int .i64 a1,.func (.func 69) #[] #[]] w fun e w' => e = .returned (.bool r) ∧ Below w.heap.size w w' := by
 have huN := Try.underlying45
 have hmm := @run_makeMap Try.prog
 have hmax : l0.length ≤ 9223372036854775807 := Kd.C_max hr0
 have HR0 := As_ hr0
 have HC0 := As_ hc0
 clear hr0 hc0
 have HB := As_ (Below.refl w.heap.size w)
 have H : (impl_circles.l0 k l0 a1 (([] : List Int)) (([a1] : List Int))) = some r := h
 clear h
 obtain ⟨y233,hy233⟩ : ∃ y_ : List Int,y_ = (([a1] : List Int)) := ⟨_,rfl⟩
 replace H : (impl_circles.l0 k l0 a1 ([] : List Int) y233) = some r := zH_ H hy233
 have Ny233 := As_ hy233
 clear hy233
 have H' := As_ H
 clear H
 go_enter Try.func68,Try.ntmps68
 have HS := As_ (SetIs.made (P := Try.prog) (k := 3) (e := 4) w)
 go_wp2_with (first|((with_reducible refine gate_dst (N := 14) rfl ?_);refine Kd.R_lit (Kd.int .i64) _ 3 ?hg (N := 14) ?hd (xs := ([a1] : List Int)) (inner := [.int .i64 a1]) (ok := fun _ => True) (okp := fun _ => True) ?hr ?hp (fun _ hk => hk) trivial (Below.refl _ _) (Nat.le_refl _) (by simp) ?_;(case hd => rfl);(case hg => rfl);(case hr => go_simp <;> rfl);(case hp => exact (Reps.one (show Kd.M (Kd.int .i64) _ _ _ a1 [.int .i64 a1] from rfl) (Reps.none _ _)));intro v234 w5 ho6 hb hg_ hnew_;clear hg_ hnew_;(first|rw [← Ny233.out] at ho6|(simp only [Int.reduceToNat] at ho6;rw [← Ny233.out] at ho6));have n0_ := As_ (HS.out.below hb);have n1_ := As_ (Kd.R_lower (Kd.R_mono (ok' := fun k_ => k_ ≠ w.heap.size) (Kd.R_bound ho6) (fun k_ hk => by have h_ := hk.2.1;simp at h_;omega)) (by simp : w.heap.size ≤ _));have n2_ := As_ (bwT (bwA HB.out _) hb);clear HS HB;revert n0_ n1_ n2_;intro HS HO235 HB;clear hb ho6))
 go_loopg [8] k (fun kq v8 w' => ∃ (x7_1 : List Int) (x8_1 : List Int),Aside0 (impl_circles.l0 kq l0 a1 x7_1 x8_1 = some r) ∧ Aside0 (kq ≤ k) ∧ Aside0 (SetIs Try.prog 3 4 w' w.heap.size x7_1) ∧ Aside0 (Kd.R (Kd.int .i64) 3 w' w.heap.size (fun k_ => k_ ≠ w.heap.size) v8 x8_1) ∧ Aside0 (Below w.heap.size w w'))
 case atStart => exact ⟨([] : List Int),(y233),H',⟨Nat.le_refl _⟩,HS,HO235,⟨zb0 HB.out⟩⟩
 case round =>
  clear H'
  obtain ⟨x7_1,x8_1,HA,HK1,HS,HO_8,HB⟩ := hrel
  cases gk with
  | zero => exact absurd HA.out (fun h_ => (by cases h_))
  | succ k1 =>
   have H := HA.out
   clear HA
   simp only [impl_circles.l0] at H
   by_cases c7 : (x8_1.length : Int) > 0
   rotate_left
   ·rw [if_neg c7] at H
    have c7b0 : decide (0 < (x8_1.length : Int)) = false := deF c7
    have c7b1 : decide (0 < x8_1.length) = false := deF (by omega)
    clear c7
    obtain rfl := Option.some.inj H
    obtain ⟨Ao35,co35,eo35⟩ := Kd.R_slice HO_8.out
    subst eo35
    go_wp2
    go_ret
    exact ⟨zE_,zb0 HB.out⟩

   rw [if_pos c7] at H
   have c7b0 : decide (0 < (x8_1.length : Int)) = true := deT c7
   have c7b1 : decide (0 < x8_1.length) = true := deT (by omega)
   clear c7
   obtain ⟨ji8,hji8⟩ : ∃ j_ : Int,(wrap64 ((x8_1.length : Int) - 1)) = j_ := ⟨_,rfl⟩
   replace H : (if 0 ≤ (ji8) then (if (ji8) < (x8_1.length : Int) then (if (ji8) ≤ (x8_1.length : Int) then (if 0 ≤ (rd x8_1 (ji8)) then (if (rd x8_1 (ji8)) < (l0.length : Int) then (impl_circles.l1 k1 l0 a1 x7_1 (x8_1.take ((ji8) : Int).toNat) ((rd_T45 l0 (rd x8_1 (ji8))).f2) (((rd_T45 l0 (rd x8_1 (ji8))).f2).length : Int) 0) else (none)) else (none)) else (none)) else (none)) else (none)) = some r := by first|(rw [hji8] at H;exact H)|(simp only [hji8] at H ⊢;exact H)
   have hji8w : (IntKind.i64.wrap ((x8_1.length : Int) - 1)) = ji8 := (i64_w _).trans hji8
   by_cases c9 : 0 ≤ (ji8)
   rotate_left
   ·rw [if_neg c9] at H
    exact absurd H (by simp)
   rw [if_pos c9] at H
   have c9b0 : decide (0 ≤ (ji8)) = true := deT c9
   clear c9
   by_cases c10 : (ji8) < (x8_1.length : Int)
   rotate_left
   ·rw [if_neg c10] at H
    exact absurd H (by simp)
   rw [if_pos c10] at H
   have c10b0 : decide ((ji8) < (x8_1.length : Int)) = true := deT c10
   clear c10
   by_cases c11 : (ji8) ≤ (x8_1.length : Int)
   rotate_left
   ·rw [if_neg c11] at H
    exact absurd H (by simp)
   rw [if_pos c11] at H
   have c11b0 := eq_true c11
   have c11b1 : decide ((ji8) ≤ (x8_1.length : Int)) = true := deT c11
   clear c11
   obtain ⟨y237,hy237⟩ : ∃ y_ : List Int,y_ = (x8_1.take ((ji8) : Int).toNat) := ⟨_,rfl⟩
   replace H : (if 0 ≤ (rd x8_1 (ji8)) then (if (rd x8_1 (ji8)) < (l0.length : Int) then (impl_circles.l1 k1 l0 a1 x7_1 y237 ((rd_T45 l0 (rd x8_1 (ji8))).f2) (((rd_T45 l0 (rd x8_1 (ji8))).f2).length : Int) 0) else (none)) else (none)) = some r := zH_ H hy237
   have Ny237 := As_ hy237
   clear hy237
   by_cases c12 : 0 ≤ (rd x8_1 (ji8))
   rotate_left
   ·rw [if_neg c12] at H
    exact absurd H (by simp)
   rw [if_pos c12] at H
   have c12b0 : decide (0 ≤ (rd x8_1 (ji8))) = true := deT c12
   clear c12
   by_cases c13 : (rd x8_1 (ji8)) < (l0.length : Int)
   rotate_left
   ·rw [if_neg c13] at H
    exact absurd H (by simp)
   rw [if_pos c13] at H
   have c13b0 : decide ((rd x8_1 (ji8)) < (l0.length : Int)) = true := deT c13
   clear c13
   have H' := As_ H
   clear H
   obtain ⟨Ao14,co14,eo14⟩ := Kd.R_slice HO_8.out
   subst eo14
   have p236 : 0 ≤ ((ji8) : Int) := odT zA_
   have q236 : (ji8) < (x8_1.length : Int) := odT zA_
   obtain ⟨ad236,e236,hx236_0⟩ := Kd.at_int (Kd.R_reads' HO_8.out).2.2 (ji8) p236 q236
   cases e236
   replace p236 := eq_true p236
   replace q236 := eq_true q236
   have q15 : ((ji8) : Int) ≤ ((x8_1.length : Int) : Int) := odT zA_
   obtain ⟨i015,hi015,_,hsz15,_⟩ := info_parts info3
   have hcut15 := cut_to (P := Try.prog) 37 3 .i64 Try.underlying37 hi015 (some ad236) x8_1.length co14 (ji8) (odT zA_) q15 (Kd.R_reads' HO_8.out).2.1
   have hr15 := Kd.R_take (m := ((ji8) : Int).toNat) HO_8.out (by omega)
   have hy15 : y237.length = ((ji8) : Int).toNat := (by rw [Ny237.out,List.length_take];omega)
   rw [← Ny237.out] at hr15
   rw [← hy15] at hr15 hcut15
   clear hy15 hi015 hsz15 HO_8
   have HO239 := As_ hr15
   clear hr15
   replace q15 := eq_true q15
   have p240 : 0 ≤ ((rd x8_1 (ji8)) : Int) := odT zA_
   have q240 : (rd x8_1 (ji8)) < (l0.length : Int) := odT zA_
   obtain ⟨ad240,A240_2,c240_2,e240,hx240_0,hx240_1,hx240_2,hl240_2,hi240_2⟩ := at_T45 HR0.out (rd x8_1 (ji8)) p240 q240
   cases e240
   replace hx240_0 := bwC HB.out hx240_0
   replace hx240_1 := bwC HB.out hx240_1
   replace hx240_2 := bwC HB.out hx240_2
   have HR240_2 := As_ hi240_2
   have HC240_2 := As_ hl240_2
   clear hi240_2 hl240_2
   replace p240 := eq_true p240
   replace q240 := eq_true q240
   go_wp2
   go_loopg [8,35] k1 (fun kq v8 v35 w' => ∃ (x7_2 : List Int) (x8_2 : List Int) (x35_2 : Int),v35 = .int .i64 x35_2 ∧ Aside0 (impl_circles.l1 kq l0 a1 x7_2 x8_2 ((rd_T45 l0 (rd x8_1 (ji8))).f2) (((rd_T45 l0 (rd x8_1 (ji8))).f2).length : Int) x35_2 = some r) ∧ Aside0 (kq ≤ k1) ∧ Aside0 (SetIs Try.prog 3 4 w' w.heap.size x7_2) ∧ Aside0 (Kd.R (Kd.int .i64) 3 w' w.heap.size (fun k_ => k_ ≠ w.heap.size) v8 x8_2) ∧ Aside0 (Below w.heap.size w w'))
   case atStart => exact ⟨(x7_1),(y237),(0),zT_,H',⟨Nat.le_refl _⟩,HS,HO239,⟨zb0 HB.out⟩⟩
   case round =>
    clear H'
    obtain ⟨x7_2,x8_2,x35_2,rfl,HA,HK2,HS,HO_8,HB⟩ := hrel
    cases gk with
    | zero => exact absurd HA.out (fun h_ => (by cases h_))
    | succ k2 =>
     have H := HA.out
     clear HA
     simp only [impl_circles.l1] at H
     by_cases c16 : x35_2 < (((rd_T45 l0 (rd x8_1 (ji8))).f2).length : Int)
     rotate_left
     ·rw [if_neg c16] at H
      have c16b0 : decide (x35_2 < (((rd_T45 l0 (rd x8_1 (ji8))).f2).length : Int)) = false := deF c16
      clear c16
      have H' := As_ H
      clear H
      go_wp2
      go_roundg k2
      case measure => have := HK1.out;have := HK2.out;omega
      case rel => exact ⟨(x7_2),(x8_2),H',⟨by have := HK1.out;have := HK2.out;omega⟩,HS,HO_8,⟨zb0 HB.out⟩⟩
     rw [if_pos c16] at H
     have c16b0 : decide (x35_2 < (((rd_T45 l0 (rd x8_1 (ji8))).f2).length : Int)) = true := deT c16
     clear c16
     by_cases c17 : 0 ≤ x35_2
     rotate_left
     ·rw [if_neg c17] at H
      exact absurd H (by simp)
     rw [if_pos c17] at H
     have c17b0 : decide (0 ≤ x35_2) = true := deT c17
     clear c17
     by_cases c18 : x35_2 < (((rd_T45 l0 (rd x8_1 (ji8))).f2).length : Int)
     rotate_left
     ·rw [if_neg c18] at H
      exact absurd H (by simp)
     rw [if_pos c18] at H
     have c18b0 : decide (x35_2 < (((rd_T45 l0 (rd x8_1 (ji8))).f2).length : Int)) = true := deT c18
     clear c18
     by_cases c19 : (rd ((rd_T45 l0 (rd x8_1 (ji8))).f2) x35_2) = a1
     ·rw [if_pos c19] at H
      have c19b0 : ((rd ((rd_T45 l0 (rd x8_1 (ji8))).f2) x35_2) == a1) = true := beq_iff_eq.mpr c19
      have c19b1 : ((rd ((rd_T45 l0 (rd x8_1 (ji8))).f2) x35_2) != a1) = false := bne_eq_false_iff_eq.mpr c19
      clear c19
      obtain rfl := Option.some.inj H
      have p241 : 0 ≤ (x35_2 : Int) := odT zA_
      have q241 : x35_2 < (((rd_T45 l0 (rd x8_1 (ji8))).f2).length : Int) := odT zA_
      obtain ⟨ad241,e241,hx241_0⟩ := Kd.at_int HR240_2.out x35_2 p241 q241
      cases e241
      replace hx241_0 := bwC HB.out hx241_0
      replace p241 := eq_true p241
      replace q241 := eq_true q241
      go_wp2
      go_ret
      exact ⟨by first|rfl|(simp [errW_none,errW_some] <;> rfl)|(simp only [← hji8];first|rfl|(simp [errW_none,errW_some] <;> rfl))|(simp [*,errW_none,errW_some] <;> rfl),zb0 HB.out⟩
     rw [if_neg c19] at H
     have c19b0 : ((rd ((rd_T45 l0 (rd x8_1 (ji8))).f2) x35_2) == a1) = false := beq_eq_false_iff_ne.mpr c19
     have c19b1 : ((rd ((rd_T45 l0 (rd x8_1 (ji8))).f2) x35_2) != a1) = true := bne_iff_ne.mpr c19
     by_cases c20 : 0 ≤ (rd ((rd_T45 l0 (rd x8_1 (ji8))).f2) x35_2)
     rotate_left
     ·rw [if_neg c20] at H
      exact absurd H (by simp)
     rw [if_pos c20] at H
     have c20b0 : decide (0 ≤ (rd ((rd_T45 l0 (rd x8_1 (ji8))).f2) x35_2)) = true := deT c20
     clear c20
     by_cases c21 : (rd ((rd_T45 l0 (rd x8_1 (ji8))).f2) x35_2) < (l0.length : Int)
     rotate_left
     ·rw [if_neg c21] at H
      exact absurd H (by simp)
     rw [if_pos c21] at H
     have c21b0 : decide ((rd ((rd_T45 l0 (rd x8_1 (ji8))).f2) x35_2) < (l0.length : Int)) = true := deT c21
     clear c21
     replace H := obS H
     obtain ⟨t243,A220,H⟩ := H
     replace H : (if t243 = true then (if (rd ((rd_T45 l0 (rd x8_1 (ji8))).f2) x35_2) ∈ x7_2 then (impl_circles.l1 k2 l0 a1 x7_2 x8_2 ((rd_T45 l0 (rd x8_1 (ji8))).f2) (((rd_T45 l0 (rd x8_1 (ji8))).f2).length : Int) (wrap64 (x35_2 + 1))) else (if x7_2.length < 17592186044416 then (if x8_2.length < 17592186044416 then (impl_circles.l1 k2 l0 a1 (x7_2 ++ [rd ((rd_T45 l0 (rd x8_1 (ji8))).f2) x35_2]) (x8_2 ++ [rd ((rd_T45 l0 (rd x8_1 (ji8))).f2) x35_2]) ((rd_T45 l0 (rd x8_1 (ji8))).f2) (((rd_T45 l0 (rd x8_1 (ji8))).f2).length : Int) (wrap64 (x35_2 + 1))) else (none)) else (none))) else (impl_circles.l1 k2 l0 a1 x7_2 x8_2 ((rd_T45 l0 (rd x8_1 (ji8))).f2) (((rd_T45 l0 (rd x8_1 (ji8))).f2).length : Int) (wrap64 (x35_2 + 1)))) = some r := H
     have A22 := As_ A220
     clear A220
     by_cases c23 : t243 = true
     rotate_left
     ·replace c23 := Bool.eq_false_iff.mpr c23
      subst c23
      have H1 : (impl_circles.l1 k2 l0 a1 x7_2 x8_2 ((rd_T45 l0 (rd x8_1 (ji8))).f2) (((rd_T45 l0 (rd x8_1 (ji8))).f2).length : Int) (wrap64 (x35_2 + 1))) = some r := by rw [if_neg (show ¬ (false = true) by decide)] at H;exact H
      clear H
      have H := H1
      clear H1
      have H' := As_ H
      clear H
      have p241 : 0 ≤ (x35_2 : Int) := odT zA_
      have q241 : x35_2 < (((rd_T45 l0 (rd x8_1 (ji8))).f2).length : Int) := odT zA_
      obtain ⟨ad241,e241,hx241_0⟩ := Kd.at_int HR240_2.out x35_2 p241 q241
      cases e241
      replace hx241_0 := bwC HB.out hx241_0
      replace p241 := eq_true p241
      replace q241 := eq_true q241
      have p242 : 0 ≤ ((rd ((rd_T45 l0 (rd x8_1 (ji8))).f2) x35_2) : Int) := odT zA_
      have q242 : (rd ((rd_T45 l0 (rd x8_1 (ji8))).f2) x35_2) < (l0.length : Int) := odT zA_
      obtain ⟨ad242,A242_2,c242_2,e242,hx242_0,hx242_1,hx242_2,hl242_2,hi242_2⟩ := at_T45 HR0.out (rd ((rd_T45 l0 (rd x8_1 (ji8))).f2) x35_2) p242 q242
      obtain rfl : ad240 = ad242 := (by injection e242)
      replace hx242_0 := bwC HB.out hx242_0
      replace hx242_1 := bwC HB.out hx242_1
      replace hx242_2 := bwC HB.out hx242_2
      have HR242_2 := As_ hi242_2
      have HC242_2 := As_ hl242_2
      clear hi242_2 hl242_2
      replace p242 := eq_true p242
      replace q242 := eq_true q242
      go_wp2_with (first|(go_at_call 69;(with_reducible refine (impl_ValidGraph_2.calls ((rd_T45 l0 (rd ((rd_T45 l0 (rd x8_1 (ji8))).f2) x35_2)).f0) ((rd_T45 l0 (rd ((rd_T45 l0 (rd x8_1 (ji8))).f2) x35_2)).f1) _ _ ((rd_T45 l0 (rd ((rd_T45 l0 (rd x8_1 (ji8))).f2) x35_2)).f2) false _ ?side1 ?side2 A22.out).mono ?_);(case side1 => exact zC_ (Kd.C_below HR242_2.out HB.out));(case side2 => exact HC242_2.out);rintro e w34 ⟨rfl,hb⟩;have n0_ := As_ (HS.out.below hb);have n1_ := As_ (Kd.R_below (zR_ HO_8.out) hb);have n2_ := As_ (bwT (zb0 HB.out) hb);clear HS HO_8 HB;revert n0_ n1_ n2_;intro HS HO_8 HB))
      go_roundg k2
      case measure => have := HK1.out;have := HK2.out;omega
      case rel => exact ⟨(x7_2),(x8_2),(wrap64 (x35_2 + 1)),zT_,H',⟨by have := HK1.out;have := HK2.out;omega⟩,HS,HO_8,⟨zb0 HB.out⟩⟩
     subst c23
     have H1 : (if (rd ((rd_T45 l0 (rd x8_1 (ji8))).f2) x35_2) ∈ x7_2 then (impl_circles.l1 k2 l0 a1 x7_2 x8_2 ((rd_T45 l0 (rd x8_1 (ji8))).f2) (((rd_T45 l0 (rd x8_1 (ji8))).f2).length : Int) (wrap64 (x35_2 + 1))) else (if x7_2.length < 17592186044416 then (if x8_2.length < 17592186044416 then (impl_circles.l1 k2 l0 a1 (x7_2 ++ [rd ((rd_T45 l0 (rd x8_1 (ji8))).f2) x35_2]) (x8_2 ++ [rd ((rd_T45 l0 (rd x8_1 (ji8))).f2) x35_2]) ((rd_T45 l0 (rd x8_1 (ji8))).f2) (((rd_T45 l0 (rd x8_1 (ji8))).f2).length : Int) (wrap64 (x35_2 + 1))) else (none)) else (none))) = some r := by rw [if_pos rfl] at H;exact H
     clear H
     have H := H1
     clear H1
     have HF := As_ (show (Lit.int .i64 (rd ((rd_T45 l0 (rd x8_1 (ji8))).f2) x35_2)).wf = true from impl_circles.wf_of (odT c20b0) (odT c21b0) hmax)
     by_cases c25 : (rd ((rd_T45 l0 (rd x8_1 (ji8))).f2) x35_2) ∈ x7_2
     ·have HM := As_ (deT c25)
      replace H := (if_pos c25).symm.trans H
      clear c25
      have H1 := H
      clear H
      have H := H1
      clear H1
      have H' := As_ H
      clear H
      have p241 : 0 ≤ (x35_2 : Int) := odT zA_
      have q241 : x35_2 < (((rd_T45 l0 (rd x8_1 (ji8))).f2).length : Int) := odT zA_
      obtain ⟨ad241,e241,hx241_0⟩ := Kd.at_int HR240_2.out x35_2 p241 q241
      cases e241
      replace hx241_0 := bwC HB.out hx241_0
      replace p241 := eq_true p241
      replace q241 := eq_true q241
      have p242 : 0 ≤ ((rd ((rd_T45 l0 (rd x8_1 (ji8))).f2) x35_2) : Int) := odT zA_
      have q242 : (rd ((rd_T45 l0 (rd x8_1 (ji8))).f2) x35_2) < (l0.length : Int) := odT zA_
      obtain ⟨ad242,A242_2,c242_2,e242,hx242_0,hx242_1,hx242_2,hl242_2,hi242_2⟩ := at_T45 HR0.out (rd ((rd_T45 l0 (rd x8_1 (ji8))).f2) x35_2) p242 q242
      obtain rfl : ad240 = ad242 := (by injection e242)
      replace hx242_0 := bwC HB.out hx242_0
      replace hx242_1 := bwC HB.out hx242_1
      replace hx242_2 := bwC HB.out hx242_2
      have HR242_2 := As_ hi242_2
      have HC242_2 := As_ hl242_2
      clear hi242_2 hl242_2
      replace p242 := eq_true p242
      replace q242 := eq_true q242
      go_wp2_with (first|(go_at_call 69;(with_reducible refine (impl_ValidGraph_2.calls ((rd_T45 l0 (rd ((rd_T45 l0 (rd x8_1 (ji8))).f2) x35_2)).f0) ((rd_T45 l0 (rd ((rd_T45 l0 (rd x8_1 (ji8))).f2) x35_2)).f1) _ _ ((rd_T45 l0 (rd ((rd_T45 l0 (rd x8_1 (ji8))).f2) x35_2)).f2) true _ ?side1 ?side2 A22.out).mono ?_);(case side1 => exact zC_ (Kd.C_below HR242_2.out HB.out));(case side2 => exact HC242_2.out);rintro e w26 ⟨rfl,hb⟩;have n0_ := As_ (HS.out.below hb);have n1_ := As_ (Kd.R_below (zR_ HO_8.out) hb);have n2_ := As_ (bwT (zb0 HB.out) hb);clear HS HO_8 HB;revert n0_ n1_ n2_;intro HS HO_8 HB;have hlk := HS.out.lookup (t := 86) Try.underlying86 Try.underlying3 Try.underlying4 (impl_circles.zero_bool _) HF.out;rw [HM.out] at hlk))
      go_roundg k2
      case measure => have := HK1.out;have := HK2.out;omega
      case rel => exact ⟨(x7_2),(x8_2),(wrap64 (x35_2 + 1)),zT_,H',⟨by have := HK1.out;have := HK2.out;omega⟩,HS,HO_8,⟨zb0 HB.out⟩⟩
     have HM := As_ (deF c25)
     have HA7 := As_ (show addTo x7_2 (rd ((rd_T45 l0 (rd x8_1 (ji8))).f2) x35_2) = x7_2 ++ [(rd ((rd_T45 l0 (rd x8_1 (ji8))).f2) x35_2)] from if_neg c25)
     replace H := (if_neg c25).symm.trans H
     clear c25
     have H1 := H
     clear H
     have H := H1
     clear H1
     by_cases c28 : x7_2.length < 17592186044416
     rotate_left
     ·rw [if_neg c28] at H
      exact absurd H (by simp)
     rw [if_pos c28] at H
     have LMc28 := As_ c28
     clear c28
     obtain ⟨y245,hy245⟩ : ∃ y_ : List Int,y_ = (x7_2 ++ [rd ((rd_T45 l0 (rd x8_1 (ji8))).f2) x35_2]) := ⟨_,rfl⟩
     replace H : (if x8_2.length < 17592186044416 then (impl_circles.l1 k2 l0 a1 y245 (x8_2 ++ [rd ((rd_T45 l0 (rd x8_1 (ji8))).f2) x35_2]) ((rd_T45 l0 (rd x8_1 (ji8))).f2) (((rd_T45 l0 (rd x8_1 (ji8))).f2).length : Int) (wrap64 (x35_2 + 1))) else (none)) = some r := zH_ H hy245
     have Ny245 := As_ hy245
     clear hy245
     by_cases c29 : x8_2.length < 17592186044416
     rotate_left
     ·rw [if_neg c29] at H
      exact absurd H (by simp)
     rw [if_pos c29] at H
     have LMc29 := As_ c29
     clear c29
     obtain ⟨y248,hy248⟩ : ∃ y_ : List Int,y_ = (x8_2 ++ [rd ((rd_T45 l0 (rd x8_1 (ji8))).f2) x35_2]) := ⟨_,rfl⟩
     replace H : (impl_circles.l1 k2 l0 a1 y245 y248 ((rd_T45 l0 (rd x8_1 (ji8))).f2) (((rd_T45 l0 (rd x8_1 (ji8))).f2).length : Int) (wrap64 (x35_2 + 1))) = some r := zH_ H hy248
     have Ny248 := As_ hy248
     clear hy248
     have H' := As_ H
     clear H
     have p241 : 0 ≤ (x35_2 : Int) := odT zA_
     have q241 : x35_2 < (((rd_T45 l0 (rd x8_1 (ji8))).f2).length : Int) := odT zA_
     obtain ⟨ad241,e241,hx241_0⟩ := Kd.at_int HR240_2.out x35_2 p241 q241
     cases e241
     replace hx241_0 := bwC HB.out hx241_0
     replace p241 := eq_true p241
     replace q241 := eq_true q241
     have p242 : 0 ≤ ((rd ((rd_T45 l0 (rd x8_1 (ji8))).f2) x35_2) : Int) := odT zA_
     have q242 : (rd ((rd_T45 l0 (rd x8_1 (ji8))).f2) x35_2) < (l0.length : Int) := odT zA_
     obtain ⟨ad242,A242_2,c242_2,e242,hx242_0,hx242_1,hx242_2,hl242_2,hi242_2⟩ := at_T45 HR0.out (rd ((rd_T45 l0 (rd x8_1 (ji8))).f2) x35_2) p242 q242
     obtain rfl : ad240 = ad242 := (by injection e242)
     replace hx242_0 := bwC HB.out hx242_0
     replace hx242_1 := bwC HB.out hx242_1
     replace hx242_2 := bwC HB.out hx242_2
     have HR242_2 := As_ hi242_2
     have HC242_2 := As_ hl242_2
     clear hi242_2 hl242_2
     replace p242 := eq_true p242
     replace q242 := eq_true q242
     go_wp2_with (first|(go_at_call 69;(with_reducible refine (impl_ValidGraph_2.calls ((rd_T45 l0 (rd ((rd_T45 l0 (rd x8_1 (ji8))).f2) x35_2)).f0) ((rd_T45 l0 (rd ((rd_T45 l0 (rd x8_1 (ji8))).f2) x35_2)).f1) _ _ ((rd_T45 l0 (rd ((rd_T45 l0 (rd x8_1 (ji8))).f2) x35_2)).f2) true _ ?side1 ?side2 A22.out).mono ?_);(case side1 => exact zC_ (Kd.C_below HR242_2.out HB.out));(case side2 => exact HC242_2.out);rintro e w30 ⟨rfl,hb⟩;have n0_ := As_ (HS.out.below hb);have n1_ := As_ (Kd.R_below (zR_ HO_8.out) hb);have n2_ := As_ (bwT (zb0 HB.out) hb);clear HS HO_8 HB;revert n0_ n1_ n2_;intro HS HO_8 HB;have hlk := HS.out.lookup (t := 86) Try.underlying86 Try.underlying3 Try.underlying4 (impl_circles.zero_bool _) HF.out;rw [HM.out] at hlk)|(at_mapUpdate;refine wpList_set_update _ rfl _ _ _ 86 rfl 3 4 Try.underlying86 Try.underlying3 Try.underlying4 w.heap.size x7_2 rfl HS.out (Nat.lt_of_lt_of_le LMc28.out (by decide)) (rd ((rd_T45 l0 (rd x8_1 (ji8))).f2) x35_2) rfl rfl HF.out ?_;intro w32 hs32 ht32;have n0_ := As_ (show SetIs Try.prog 3 4 w32 w.heap.size y245 by rw [Ny245.out,← HA7.out];exact hs32);have n1_ := As_ (Kd.R_grown HO_8.out ht32.grown (fun k_ hk he => hk (by injection he)));have n2_ := As_ (show Below w.heap.size w w32 from HB.out.grown ht32.grown HB.out.size (fun j hj => by cases hj;exact Nat.le_refl _));clear HS HO_8 HB;revert n0_ n1_ n2_;intro HS HO_8 HB;clear hs32 ht32)|((with_reducible refine gate_builtin (b := .append) (xs := #[.tmp 56,.tmp 58]) rfl ?_);at_builtin;refine Kd.R_append (Kd.int .i64) (w0 := w) w.heap.size rfl (.tmp 56) (.tmp 58) 37 3 (.int .i64 0) 8 rfl Try.underlying37 info3 rfl (by decide) (by omega) u8 x8_2 (rd ((rd_T45 l0 (rd x8_1 (ji8))).f2) x35_2) [.int .i64 (rd ((rd_T45 l0 (rd x8_1 (ji8))).f2) x35_2)] (fun k_ => k_ ≠ w.heap.size) (fun _ => False) rfl rfl ?aP (fun _ hk => hk.elim) ?aF ?aO ?aB ?aS ?aL ?_;(case aP => exact rfl);(case aB => exact (zb0 HB.out));(case aF => exact (fun k_ hk he => absurd HS.out.lt (by rw [← he];exact Nat.not_lt.2 hk)));(case aO => exact (zR_ HO_8.out));(case aS => exact (bwZ (zb0 HB.out)));(case aL => have := LMc29.out;omega);intro v249 w33 ho hb hg hat;rw [← Ny248.out] at ho;have n0_ := As_ (HS.out.kept hg (fun he => absurd rfl (HO_8.out.1 w.heap.size he.symm)));have n1_ := As_ (hb);have n2_ := As_ (ho);clear HS HB HO_8;revert n0_ n1_ n2_;intro HS HB HO250;clear ho hb hg hat))
     go_roundg k2
     case measure => have := HK1.out;have := HK2.out;omega
     case rel => exact ⟨(y245),(y248),(wrap64 (x35_2 + 1)),zT_,H',⟨by have := HK1.out;have := HK2.out;omega⟩,HS,HO250,⟨zb0 HB.out⟩⟩
end Go.Proofs.Ytfhakhbmbnbneaa.Q
