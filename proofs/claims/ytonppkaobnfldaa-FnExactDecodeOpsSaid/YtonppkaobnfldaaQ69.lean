-- Written by wip/tools/qprint.py (a program of this claim's author) by means of the kit's printer.
import Derived.Test.YtonppkaobnfldaaQ0
import Derived.Test.YtonppkaobnfldaaQ77
namespace Go.Proofs.Ytonppkaobnfldaa.Q
open Go.RowKit Go.Proofs.YtonppkaobnfldaaW.PrintWords Go.Proofs.YtonppkaobnfldaaW.PrintLast Go.Proofs.YtonppkaobnfldaaW.PrintMore
attribute [local go_sem] max2_int min2_int max_two min_two max_three min_three max_four min_four   -- for this text's walks alone
set_option linter.unusedVariables false
set_option linter.unusedSimpArgs false

/-! ### impl_decoded: function 69 -/
mutual
def impl_decoded.l0 : Nat → List Int → List (S49) → Int → Option ((List (S49)) × Int)
 | 0,_,_,_ => none
 | k + 1,x0,x4,x5 => if (x4.length : Int) < 300 then (impl_decoded.j1 k x0 x4 x5 (decide (x5 < (x0.length : Int)))) else (impl_decoded.j1 k x0 x4 x5 false)
def impl_decoded.j1 : Nat → List Int → List (S49) → Int → Bool → Option ((List (S49)) × Int)
 | 0,_,_,_,_ => none
 | k + 1,x0,x4,x5,x17 => if x17 = true then (if 0 ≤ x5 then (if x5 < (x0.length : Int) then (if (rd x0 x5) ≤ 19 then ((impl_mostArg.f (rd x0 x5)).bind fun t565 => (impl_decoded.j2 k x0 x4 x5 1 (decide (t565 > 0)) (rd x0 x5) 0)) else (impl_decoded.j2 k x0 x4 x5 1 false (rd x0 x5) 0)) else (none)) else (none)) else (some (x4,x5))
def impl_decoded.j2 : Nat → List Int → List (S49) → Int → Int → Bool → Int → Int → Option ((List (S49)) × Int)
 | 0,_,_,_,_,_,_,_ => none
 | k + 1,x0,x4,x5,x7,x31,x565000,x565001 => if x31 = true then (if (wrap64 (x5 + 1)) ≥ (x0.length : Int) then (some (x4,x5)) else (if 0 ≤ (wrap64 (x5 + 1)) then (if (wrap64 (x5 + 1)) < (x0.length : Int) then (if (rd x0 (wrap64 (x5 + 1))) ≥ 128 then (if (wrap64 (x5 + 2)) ≥ (x0.length : Int) then (impl_decoded.j3 k x0 x4 x5 true x565000 (rd x0 (wrap64 (x5 + 1)))) else (if 0 ≤ (wrap64 (x5 + 2)) then (if (wrap64 (x5 + 2)) < (x0.length : Int) then (impl_decoded.j3 k x0 x4 x5 ((rd x0 (wrap64 (x5 + 2))) == 0) x565000 (rd x0 (wrap64 (x5 + 1)))) else (none)) else (none))) else ((impl_opOk.f x565000 (rd x0 (wrap64 (x5 + 1)))).bind fun t573 => (if t573 = true then (if x4.length < 8796093022208 then (impl_decoded.l0 k x0 (x4 ++ [(⟨x565000,rd x0 (wrap64 (x5 + 1))⟩ : S49)]) (wrap64 (x5 + 2))) else (none)) else (some (x4,x5))))) else (none)) else (none))) else ((impl_opOk.f x565000 x565001).bind fun t577 => (if t577 = true then (if x4.length < 8796093022208 then (impl_decoded.l0 k x0 (x4 ++ [(⟨x565000,x565001⟩ : S49)]) (wrap64 (x5 + x7))) else (none)) else (some (x4,x5))))
def impl_decoded.j3 : Nat → List Int → List (S49) → Int → Bool → Int → Int → Option ((List (S49)) × Int)
 | 0,_,_,_,_,_,_ => none
 | k + 1,x0,x4,x5,x58,x565000,x565001 => if x58 = true then (some (x4,x5)) else (if 0 ≤ (wrap64 (x5 + 2)) then (if (wrap64 (x5 + 2)) < (x0.length : Int) then ((impl_opOk.f x565000 (wrap64 ((wrap64 (x565001 - 128)) + (wrap64 (128 * (rd x0 (wrap64 (x5 + 2)))))))).bind fun t569 => (if t569 = true then (if x4.length < 8796093022208 then (impl_decoded.l0 k x0 (x4 ++ [(⟨x565000,wrap64 ((wrap64 (x565001 - 128)) + (wrap64 (128 * (rd x0 (wrap64 (x5 + 2))))))⟩ : S49)]) (wrap64 (x5 + 3))) else (none)) else (some (x4,x5)))) else (none)) else (none))
end
def impl_decoded.f (k : Nat) (l0 : List Int) : Option ((List (S49)) × Int) := impl_decoded.l0 k l0 (([] : List (S49))) 0
set_option maxRecDepth 100000 in
theorem impl_decoded.mono_l : ∀ k,(∀ y0 y1 y2,LeO (impl_decoded.l0 k y0 y1 y2) (impl_decoded.l0 (k + 1) y0 y1 y2)) ∧ (∀ y0 y1 y2 y3,LeO (impl_decoded.j1 k y0 y1 y2 y3) (impl_decoded.j1 (k + 1) y0 y1 y2 y3)) ∧ (∀ y0 y1 y2 y3 y4 y5 y6,LeO (impl_decoded.j2 k y0 y1 y2 y3 y4 y5 y6) (impl_decoded.j2 (k + 1) y0 y1 y2 y3 y4 y5 y6)) ∧ (∀ y0 y1 y2 y3 y4 y5,LeO (impl_decoded.j3 k y0 y1 y2 y3 y4 y5) (impl_decoded.j3 (k + 1) y0 y1 y2 y3 y4 y5))
 | 0 => ⟨fun _ _ _ r h => (by cases h),fun _ _ _ _ r h => (by cases h),fun _ _ _ _ _ _ _ r h => (by cases h),fun _ _ _ _ _ _ r h => (by cases h)⟩
 | k + 1 => by
  obtain ⟨ih0,ih1,ih2,ih3⟩ := impl_decoded.mono_l k
  refine ⟨?_,?_,?_,?_⟩
  ·intro y0 y1 y2
   unfold impl_decoded.l0
   repeat' first
   | (with_reducible exact ih0 _ _ _)
   | (with_reducible exact ih1 _ _ _ _)
   | (with_reducible exact ih2 _ _ _ _ _ _ _)
   | (with_reducible exact ih3 _ _ _ _ _ _)
   | (with_reducible exact LeO.refl _)
   | (with_reducible exact LeO.none _)
   | (with_reducible refine LeO.ite ?_ ?_)
   | (with_reducible refine LeO.bind ?_ (fun _ => ?_))
   | exact ih0 _ _ _
   | exact ih1 _ _ _ _
   | exact ih2 _ _ _ _ _ _ _
   | exact ih3 _ _ _ _ _ _
   | exact LeO.none _
   | refine LeO.ite ?_ ?_
   | refine LeO.bind ?_ (fun _ => ?_)
  ·intro y0 y1 y2 y3
   unfold impl_decoded.j1
   repeat' first
   | (with_reducible exact ih0 _ _ _)
   | (with_reducible exact ih1 _ _ _ _)
   | (with_reducible exact ih2 _ _ _ _ _ _ _)
   | (with_reducible exact ih3 _ _ _ _ _ _)
   | (with_reducible exact LeO.refl _)
   | (with_reducible exact LeO.none _)
   | (with_reducible refine LeO.ite ?_ ?_)
   | (with_reducible refine LeO.bind ?_ (fun _ => ?_))
   | exact ih0 _ _ _
   | exact ih1 _ _ _ _
   | exact ih2 _ _ _ _ _ _ _
   | exact ih3 _ _ _ _ _ _
   | exact LeO.none _
   | refine LeO.ite ?_ ?_
   | refine LeO.bind ?_ (fun _ => ?_)
  ·intro y0 y1 y2 y3 y4 y5 y6
   unfold impl_decoded.j2
   repeat' first
   | (with_reducible exact ih0 _ _ _)
   | (with_reducible exact ih1 _ _ _ _)
   | (with_reducible exact ih2 _ _ _ _ _ _ _)
   | (with_reducible exact ih3 _ _ _ _ _ _)
   | (with_reducible exact LeO.refl _)
   | (with_reducible exact LeO.none _)
   | (with_reducible refine LeO.ite ?_ ?_)
   | (with_reducible refine LeO.bind ?_ (fun _ => ?_))
   | exact ih0 _ _ _
   | exact ih1 _ _ _ _
   | exact ih2 _ _ _ _ _ _ _
   | exact ih3 _ _ _ _ _ _
   | exact LeO.none _
   | refine LeO.ite ?_ ?_
   | refine LeO.bind ?_ (fun _ => ?_)
  ·intro y0 y1 y2 y3 y4 y5
   unfold impl_decoded.j3
   repeat' first
   | (with_reducible exact ih0 _ _ _)
   | (with_reducible exact ih1 _ _ _ _)
   | (with_reducible exact ih2 _ _ _ _ _ _ _)
   | (with_reducible exact ih3 _ _ _ _ _ _)
   | (with_reducible exact LeO.refl _)
   | (with_reducible exact LeO.none _)
   | (with_reducible refine LeO.ite ?_ ?_)
   | (with_reducible refine LeO.bind ?_ (fun _ => ?_))
   | exact ih0 _ _ _
   | exact ih1 _ _ _ _
   | exact ih2 _ _ _ _ _ _ _
   | exact ih3 _ _ _ _ _ _
   | exact LeO.none _
   | refine LeO.ite ?_ ?_
   | refine LeO.bind ?_ (fun _ => ?_)
set_option maxRecDepth 100000 in
theorem impl_decoded.mono : ∀ a0 k,LeO (impl_decoded.f k a0) (impl_decoded.f (k + 1) a0) := by
 intro a0 k
 obtain ⟨ih0,ih1,ih2,ih3⟩ := impl_decoded.mono_l k
 unfold impl_decoded.f
 repeat' first
   | (with_reducible exact ih0 _ _ _)
   | (with_reducible exact ih1 _ _ _ _)
   | (with_reducible exact ih2 _ _ _ _ _ _ _)
   | (with_reducible exact ih3 _ _ _ _ _ _)
   | (with_reducible exact LeO.refl _)
   | (with_reducible exact LeO.none _)
   | (with_reducible refine LeO.ite ?_ ?_)
   | (with_reducible refine LeO.bind ?_ (fun _ => ?_))
   | exact ih0 _ _ _
   | exact ih1 _ _ _ _
   | exact ih2 _ _ _ _ _ _ _
   | exact ih3 _ _ _ _ _ _
   | exact LeO.none _
   | refine LeO.ite ?_ ?_
   | refine LeO.bind ?_ (fun _ => ?_)
def impl_decoded.T10 : Bool × List (List Nat × List Nat) := (true,[([],[]),([0],[0]),([1],[1]),([],[]),([],[]),([4],[4]),([3,5],[3,5]),([6],[6]),([7],[7]),([2,8],[2,8]),([0,1,2,3,4,5,6,7,8,9],[]),([10,9,0,1,2,3,4,5,6,7,8,9],[9,10]),([11,0,1,2,3,4,5,6,7,8,9,10,11],[])])
def impl_decoded.B10 : List Nat := [0,1,3,0,0,16,56,120,248,511,1023,2047,4095]
theorem impl_decoded.tab10 : rtab .any (opsOf Try.f69 10) = impl_decoded.T10 := by kernel_rfl
theorem impl_decoded.bits10 : waitsOk impl_decoded.T10.2 impl_decoded.B10 = true := by kernel_rfl
set_option maxHeartbeats 8000000 in
set_option maxRecDepth 100000 in
theorem impl_decoded.calls (k : Nat) (A0 : Option Addr) (c0 : Nat) (l0 : List Int) (r1 : List (S49)) (r2 : Int) (w : World) (hr0 : Kd.C (Kd.int .i64) w A0 l0.length l0) (hc0 : l0.length ≤ c0) (h : impl_decoded.f k l0 = some (r1,r2)) :
  Calls Try.prog 69 #[.slice A0 l0.length c0] w fun e w' => ∃ v0_ : Value,e = .returned (.tuple #[v0_,.int .i64 r2]) ∧ Kd.R k49 49 w' w.heap.size (fun _ => True) v0_ r1 ∧ Below w.heap.size w w' := by
 have hu49 := Try.underlying49
 have HR0 := Aside0.mk hr0
 have HC0 := Aside0.mk hc0
 clear hr0 hc0
 have HB := Aside0.mk (Below.refl w.heap.size w)
 have H : (impl_decoded.l0 k l0 (([] : List (S49))) 0) = some (r1,r2) := h
 clear h
 obtain ⟨y560,hy560⟩ : ∃ y_ : List (S49),y_ = (([] : List (S49))) := ⟨_,rfl⟩
 replace H : (impl_decoded.l0 k l0 y560 0) = some (r1,r2) := by first|(rw [hy560];with_reducible exact H)|(have H2_ := (Option.bind_some _ _).symm.trans H;rw [hy560];with_reducible exact H2_)|(have H2_ := (Option.bind_some _ _).symm.trans H;with_reducible exact H2_)|with_reducible exact H|(rw [hy560];exact H)|exact H
 have Ny560 := Aside0.mk hy560
 clear hy560
 have H' := Aside0.mk H
 clear H
 go_enter Try.func69,Try.ntmps69
 go_wp2_with (first|((with_reducible refine gate_dst (N := 8) rfl ?_);(try (refine gate_guard (by rfl) ?_;dsimp only));refine Kd.R_lit k49 _ 49 ?hg (N := 8) ?hd (xs := ([] : List (S49))) (inner := []) (ok := fun _ => True) (okp := fun _ => True) ?hr ?hp (fun _ hk => hk) trivial (Below.refl _ _) (Nat.le_refl _) (by simp) ?_;(case hd => rfl);(case hg => rfl);(case hr => first|(go_simp;done)|(go_simp;rfl));(case hp => exact (Reps.none _ _));intro v561 w2 ho3 hb hg_ hnew_;clear hg_ hnew_;(first|rw [← Ny560.out] at ho3|(simp only [Int.reduceToNat] at ho3;rw [← Ny560.out] at ho3));have n0_ := Aside0.mk (Kd.R_lower ho3 (below_size (by repeat (first|(with_reducible first|exact HB.out|apply below_alloc|apply pw_below_drewN|apply below_drew1)|exact HB.out))));have n1_ := Aside0.mk (below_step (by repeat (first|(with_reducible first|exact HB.out|apply below_alloc|apply pw_below_drewN|apply below_drew1)|exact HB.out)) hb);clear HB;have HO562 := n0_;have HB := n1_;clear n0_ n1_;clear hb ho3))
 go_loopg [4,5] k (fun kq v4 v5 w' => ∃ (x4_1 : List (S49)) (x5_1 : Int),v5 = .int .i64 x5_1 ∧ Aside0 (impl_decoded.l0 kq l0 x4_1 x5_1 = some (r1,r2)) ∧ Aside0 (kq ≤ k) ∧ Aside0 (Kd.R k49 49 w' w.heap.size (fun _ => True) v4 x4_1) ∧ Aside0 (Below w.heap.size w w'))
 case atStart => exact ⟨(y560),(0),(by first|rfl|(simp;done)|(simp [*];done)),H',⟨Nat.le_refl _⟩,⟨by (with_reducible repeat (first|apply Kd.R_alloc|apply Kd.R_drewN|apply Kd.R_drew));exact HO562.out⟩,⟨by repeat (first|(with_reducible first|exact HB.out|apply below_alloc|apply pw_below_drewN|apply below_drew1)|exact HB.out)⟩⟩
 case round =>
  clear H'
  try clear p2
  obtain ⟨x4_1,x5_1,rfl,HA,HK1,HO_4,HB⟩ := hrel
  cases gk with
  | zero => exact absurd HA.out (fun h_ => (by cases h_))
  | succ k1 =>
   have H := HA.out
   clear HA
   (unfold impl_decoded.l0 at H;try dsimp only at H)
   have HC4 := Aside0.mk H
   clear H
   go_upto_region 3 with (fail)
   go_cut [17] (fun v17 wc => ∃ (kq : Nat) (x17_3 : Bool),v17 = .bool x17_3 ∧ Aside0 (impl_decoded.j1 kq l0 x4_1 x5_1 x17_3 = some (r1,r2)) ∧ Aside0 (kq ≤ k1) ∧ Aside0 (Kd.R k49 49 wc w.heap.size (fun _ => True) u4 x4_1) ∧ Aside0 (Below w.heap.size w wc))
   case first =>
    have H := HC4.out
    clear HC4
    by_cases c5 : (x4_1.length : Int) < 300
    ·rw [if_pos c5] at H
     have c5b0 : decide ((x4_1.length : Int) < 300) = true := decide_eq_true c5
     have c5b1 : decide (x4_1.length < 300) = true := decide_eq_true (by omega)
     clear c5
     (first|rw [c5b0]|(simp only [i64_w,i32_w];rw [c5b0])|skip)
     have H' := Aside0.mk H
     clear H
     obtain ⟨Ao6,co6,eo6⟩ := Kd.R_slice HO_4.out
     subst eo6
     go_wp2
     go_meet
     case rel => exact ⟨_,(decide (x5_1 < (l0.length : Int))),(by first|rfl|(simp;done)|(simp [*];done)),H',⟨by have := HK1.out;first|omega|exact Nat.le_refl _⟩,⟨by (with_reducible repeat (first|apply Kd.R_alloc|apply Kd.R_drewN|apply Kd.R_drew));exact HO_4.out⟩,⟨by repeat (first|(with_reducible first|exact HB.out|apply below_alloc|apply pw_below_drewN|apply below_drew1)|exact HB.out)⟩⟩
    ·rw [if_neg c5] at H
     have c5b0 : decide ((x4_1.length : Int) < 300) = false := decide_eq_false c5
     have c5b1 : decide (x4_1.length < 300) = false := decide_eq_false (by omega)
     clear c5
     (first|rw [c5b0]|(simp only [i64_w,i32_w];rw [c5b0])|skip)
     have H' := Aside0.mk H
     clear H
     obtain ⟨Ao7,co7,eo7⟩ := Kd.R_slice HO_4.out
     subst eo7
     go_wp2
     go_meet
     case rel => exact ⟨_,(false),(by first|rfl|(simp;done)|(simp [*];done)),H',⟨by have := HK1.out;first|omega|exact Nat.le_refl _⟩,⟨by (with_reducible repeat (first|apply Kd.R_alloc|apply Kd.R_drewN|apply Kd.R_drew));exact HO_4.out⟩,⟨by repeat (first|(with_reducible first|exact HB.out|apply below_alloc|apply pw_below_drewN|apply below_drew1)|exact HB.out)⟩⟩
   case rest =>
    clear HC4
    try clear p2
    try clear c5
    try clear c5b0
    try clear c5b1
    try clear c6
    try clear p2
    obtain ⟨kq,x17_3,rfl,HA,HJ3,HO_4,HB⟩ := hcut
    cases kq with
    | zero => exact absurd HA.out (fun h_ => (by cases h_))
    | succ kj3 =>
     have H := HA.out
     clear HA
     (unfold impl_decoded.j1 at H;try dsimp only at H)
     by_cases c8 : x17_3 = true
     ·subst c8
      have H1 : (if 0 ≤ x5_1 then (if x5_1 < (l0.length : Int) then (if (rd l0 x5_1) ≤ 19 then ((impl_mostArg.f (rd l0 x5_1)).bind fun t565 => (impl_decoded.j2 kj3 l0 x4_1 x5_1 1 (decide (t565 > 0)) (rd l0 x5_1) 0)) else (impl_decoded.j2 kj3 l0 x4_1 x5_1 1 false (rd l0 x5_1) 0)) else (none)) else (none)) = some (r1,r2) := by rw [if_pos rfl] at H;exact H
      clear H
      have H := H1
      clear H1
      by_cases c9 : 0 ≤ x5_1
      ·rw [if_pos c9] at H
       have c9b0 : decide (0 ≤ x5_1) = true := decide_eq_true c9
       clear c9
       by_cases c10 : x5_1 < (l0.length : Int)
       ·rw [if_pos c10] at H
        have c10b0 : decide (x5_1 < (l0.length : Int)) = true := decide_eq_true c10
        clear c10
        have HC11 := Aside0.mk H
        clear H
        have p563 : 0 ≤ (x5_1 : Int) := of_decide_eq_true (by first|(with_reducible assumption)|assumption)
        have q563 : x5_1 < (l0.length : Int) := of_decide_eq_true (by first|(with_reducible assumption)|assumption)
        obtain ⟨ad563,e563,hx563_0⟩ := Kd.at_int HR0.out x5_1 p563 q563
        cases e563
        replace hx563_0 := (HB.out.cell (World.block_lt_of_cell? w _ hx563_0)).trans hx563_0
        replace p563 := eq_true p563
        replace q563 := eq_true q563
        go_upto_region 5 with (first|((with_reducible refine gate_dst (N := 6) rfl ?_);(try (refine gate_guard (by rfl) ?_;dsimp only));refine box_event ?hg (N := 6) ?hd (cs := #[.int .i64 0,.int .i64 0]) (t := 49) ?hr ?_;(case hd => rfl);(case hg => rfl);(case hr => first|(go_simp;done)|(go_simp;rfl));intro gb564 hg w12 hbox hb;have n0_ := Aside0.mk (Kd.R_below (Kd.R_elderB (by (with_reducible repeat (first|apply Kd.R_alloc|apply Kd.R_drewN|apply Kd.R_drew));exact HO_4.out) gb564 (Nat.le_of_eq hg.symm)) hb);have n1_ := Aside0.mk (below_step (by repeat (first|(with_reducible first|exact HB.out|apply below_alloc|apply pw_below_drewN|apply below_drew1)|exact HB.out)) hb);have n2_ := Aside0.mk (hbox);have n3_ := Aside0.mk ((by rw [hg];exact (below_size (by repeat (first|(with_reducible first|exact HB.out|apply below_alloc|apply pw_below_drewN|apply below_drew1)|exact HB.out))) : w.heap.size ≤ gb564));have n4_ := Aside0.mk ((by rw [hg];exact (below_size (by repeat (first|(with_reducible first|exact HB.out|apply below_alloc|apply pw_below_drewN|apply below_drew1)|exact HB.out))) : w.heap.size ≤ gb564));clear HO_4;clear HB;have HO_4 := n0_;have HB := n1_;have BK564 := n2_;have GW564 := n3_;have GE564 := n4_;clear n0_ n1_ n2_ n3_ n4_;clear hb hbox hg;have hcz13_0 : w12.cell? ⟨gb564,0,none⟩ = some (.int .i64 0) := (blk_cell BK564.out 0).trans rfl;have hcz13_1 : w12.cell? ⟨gb564,1,none⟩ = some (.int .i64 0) := (blk_cell BK564.out 1).trans rfl;have hfz13_0 := blk_frozen BK564.out 0;have hfz13_1 := blk_frozen BK564.out 1))
        (try simp only [Act.put,List.setIfInBounds_toArray,List.set_cons_zero,List.set_cons_succ])
        go_cut [31] (fun v31 wc => ∃ (kq : Nat) (x31_10 : Bool),v31 = .bool x31_10 ∧ Aside0 (impl_decoded.j2 kq l0 x4_1 x5_1 1 x31_10 (rd l0 x5_1) 0 = some (r1,r2)) ∧ Aside0 (kq ≤ kj3) ∧ Aside0 (Kd.R k49 49 wc w.heap.size (fun k_ => k_ ≠ gb564) u4 x4_1) ∧ Aside0 (wc.heap[gb564]? = some (.cells #[.int .i64 (rd l0 x5_1),.int .i64 0] 49 (0,0))) ∧ Aside0 (Below w.heap.size w wc))
        case first =>
         have H := HC11.out
         clear HC11
         by_cases c14 : (rd l0 x5_1) ≤ 19
         ·rw [if_pos c14] at H
          have c14b0 : decide ((rd l0 x5_1) ≤ 19) = true := decide_eq_true c14
          clear c14
          (first|rw [c14b0]|(simp only [i64_w,i32_w];rw [c14b0])|skip)
          replace H := Option.bind_eq_some_iff.mp H
          obtain ⟨t565,A150,H⟩ := H
          replace H : (impl_decoded.j2 kj3 l0 x4_1 x5_1 1 (decide (t565 > 0)) (rd l0 x5_1) 0) = some (r1,r2) := H
          have A15 := Aside0.mk A150
          clear A150
          have H' := Aside0.mk H
          clear H
          have hcz16_0 : w12.cell? ⟨gb564,0,none⟩ = some (.int .i64 0) := (blk_cell BK564.out 0).trans rfl
          have hcz16_1 : w12.cell? ⟨gb564,1,none⟩ = some (.int .i64 0) := (blk_cell BK564.out 1).trans rfl
          have hfz16_0 := blk_frozen BK564.out 0
          have hfz16_1 := blk_frozen BK564.out 1
          go_wp2_with (first|(go_at_call 62;(with_reducible refine (impl_mostArg.calls (rd l0 x5_1) t565 _ A15.out).mono ?_);rintro e w' ⟨rfl,⟨nd,rfl⟩⟩))
          go_meet
          case rel => exact ⟨_,(decide (t565 > 0)),(by first|rfl|(simp;done)|(simp [*];done)),H',⟨by have := HK1.out;have := HJ3.out;first|omega|exact Nat.le_refl _⟩,⟨by (with_reducible repeat (first|apply Kd.R_alloc|apply Kd.R_drewN|apply Kd.R_drew));exact Kd.R_mono (Kd.R_far (p := ⟨gb564,1,none⟩) (Kd.R_far (p := ⟨gb564,0,none⟩) (Kd.R_mono HO_4.out (fun k_ hk => (⟨hk,hk.2⟩ : _ ∧ k_ ≠ gb564))) (fun _ hk => hk.2) (.int .i64 (rd l0 x5_1))) (fun _ hk => hk.2) (.int .i64 0)) (fun _ hk => hk.1.2)⟩,⟨by (with_reducible repeat (first|refine blk_drewN ?_ _|refine blk_drew ?_|refine blk_alloc ?_ _));refine blk_put (cs := #[.int .i64 (rd l0 x5_1),.int .i64 0]) ?_ 1 _ rfl;(with_reducible repeat (first|refine blk_drewN ?_ _|refine blk_drew ?_|refine blk_alloc ?_ _));refine blk_put (cs := #[.int .i64 0,.int .i64 0]) ?_ 0 _ rfl;(with_reducible repeat (first|refine blk_drewN ?_ _|refine blk_drew ?_|refine blk_alloc ?_ _));exact BK564.out⟩,⟨by repeat (first|(with_reducible first|exact HB.out|apply below_alloc|apply pw_below_drewN|apply below_drew1|refine below_set ?_ GE564.out)|exact HB.out)⟩⟩
         ·rw [if_neg c14] at H
          have c14b0 : decide ((rd l0 x5_1) ≤ 19) = false := decide_eq_false c14
          clear c14
          (first|rw [c14b0]|(simp only [i64_w,i32_w];rw [c14b0])|skip)
          have H' := Aside0.mk H
          clear H
          have hcz17_0 : w12.cell? ⟨gb564,0,none⟩ = some (.int .i64 0) := (blk_cell BK564.out 0).trans rfl
          have hcz17_1 : w12.cell? ⟨gb564,1,none⟩ = some (.int .i64 0) := (blk_cell BK564.out 1).trans rfl
          have hfz17_0 := blk_frozen BK564.out 0
          have hfz17_1 := blk_frozen BK564.out 1
          go_wp2
          go_meet
          case rel => exact ⟨_,(false),(by first|rfl|(simp;done)|(simp [*];done)),H',⟨by have := HK1.out;have := HJ3.out;first|omega|exact Nat.le_refl _⟩,⟨by (with_reducible repeat (first|apply Kd.R_alloc|apply Kd.R_drewN|apply Kd.R_drew));exact Kd.R_mono (Kd.R_far (p := ⟨gb564,1,none⟩) (Kd.R_far (p := ⟨gb564,0,none⟩) (Kd.R_mono HO_4.out (fun k_ hk => (⟨hk,hk.2⟩ : _ ∧ k_ ≠ gb564))) (fun _ hk => hk.2) (.int .i64 (rd l0 x5_1))) (fun _ hk => hk.2) (.int .i64 0)) (fun _ hk => hk.1.2)⟩,⟨by (with_reducible repeat (first|refine blk_drewN ?_ _|refine blk_drew ?_|refine blk_alloc ?_ _));refine blk_put (cs := #[.int .i64 (rd l0 x5_1),.int .i64 0]) ?_ 1 _ rfl;(with_reducible repeat (first|refine blk_drewN ?_ _|refine blk_drew ?_|refine blk_alloc ?_ _));refine blk_put (cs := #[.int .i64 0,.int .i64 0]) ?_ 0 _ rfl;(with_reducible repeat (first|refine blk_drewN ?_ _|refine blk_drew ?_|refine blk_alloc ?_ _));exact BK564.out⟩,⟨by repeat (first|(with_reducible first|exact HB.out|apply below_alloc|apply pw_below_drewN|apply below_drew1|refine below_set ?_ GE564.out)|exact HB.out)⟩⟩
        case rest =>
         clear HC11
         try clear c1
         try clear p2
         try clear c5
         try clear c5b0
         try clear c5b1
         try clear p5
         try clear q5
         try clear hx5
         try clear c6
         try clear c8
         try clear c9
         try clear c9b0
         try clear c10
         try clear c10b0
         try clear c14
         try clear c14b0
         try clear hcz13_0
         try clear hcz13_1
         try clear hcz16_0
         try clear hcz16_1
         try clear hcz17_0
         try clear hcz17_1
         try clear hfz13_0
         try clear hfz13_1
         try clear hfz16_0
         try clear hfz16_1
         try clear hfz17_0
         try clear hfz17_1
         try clear hx563_0
         try clear p2
         try clear p563
         try clear q563
         obtain ⟨kq,x31_10,rfl,HA,HJ10,HO_4,BK564,HB⟩ := hcut
         cases kq with
         | zero => exact absurd HA.out (fun h_ => (by cases h_))
         | succ kj10 =>
          have H := HA.out
          clear HA
          (unfold impl_decoded.j2 at H;try dsimp only at H)
          by_cases c18 : x31_10 = true
          ·subst c18
           have H1 : (if (wrap64 (x5_1 + 1)) ≥ (l0.length : Int) then (some (x4_1,x5_1)) else (if 0 ≤ (wrap64 (x5_1 + 1)) then (if (wrap64 (x5_1 + 1)) < (l0.length : Int) then (if (rd l0 (wrap64 (x5_1 + 1))) ≥ 128 then (if (wrap64 (x5_1 + 2)) ≥ (l0.length : Int) then (impl_decoded.j3 kj10 l0 x4_1 x5_1 true (rd l0 x5_1) (rd l0 (wrap64 (x5_1 + 1)))) else (if 0 ≤ (wrap64 (x5_1 + 2)) then (if (wrap64 (x5_1 + 2)) < (l0.length : Int) then (impl_decoded.j3 kj10 l0 x4_1 x5_1 ((rd l0 (wrap64 (x5_1 + 2))) == 0) (rd l0 x5_1) (rd l0 (wrap64 (x5_1 + 1)))) else (none)) else (none))) else ((impl_opOk.f (rd l0 x5_1) (rd l0 (wrap64 (x5_1 + 1)))).bind fun t573 => (if t573 = true then (if x4_1.length < 8796093022208 then (impl_decoded.l0 kj10 l0 (x4_1 ++ [(⟨(rd l0 x5_1),rd l0 (wrap64 (x5_1 + 1))⟩ : S49)]) (wrap64 (x5_1 + 2))) else (none)) else (some (x4_1,x5_1))))) else (none)) else (none))) = some (r1,r2) := by rw [if_pos rfl] at H;exact H
           clear H
           have H := H1
           clear H1
           by_cases c19 : (wrap64 (x5_1 + 1)) ≥ (l0.length : Int)
           ·rw [if_pos c19] at H
            have c19b0 : decide ((l0.length : Int) ≤ (wrap64 (x5_1 + 1))) = true := decide_eq_true c19
            clear c19
            simp only [Option.some.injEq,Prod.mk.injEq] at H
            obtain ⟨rfl,rfl⟩ := H
            go_wp2
            go_ret2
            exact ⟨_,by first|rfl|(simp [errW_none,errW_some] <;> rfl)|(simp [*,errW_none,errW_some] <;> rfl),by (with_reducible repeat (first|apply Kd.R_alloc|apply Kd.R_drewN|apply Kd.R_drew));exact Kd.R_mono HO_4.out (fun _ hk => trivial),by repeat (first|(with_reducible first|exact HB.out|apply below_alloc|apply pw_below_drewN|apply below_drew1|refine below_set ?_ GE564.out)|exact HB.out)⟩
           ·rw [if_neg c19] at H
            have c19b0 : decide ((l0.length : Int) ≤ (wrap64 (x5_1 + 1))) = false := decide_eq_false c19
            clear c19
            obtain ⟨ji20,hji20⟩ : ∃ j_ : Int,(wrap64 (x5_1 + 1)) = j_ := ⟨_,rfl⟩
            replace H : (if 0 ≤ (ji20) then (if (ji20) < (l0.length : Int) then (if (rd l0 (ji20)) ≥ 128 then (if (wrap64 (x5_1 + 2)) ≥ (l0.length : Int) then (impl_decoded.j3 kj10 l0 x4_1 x5_1 true (rd l0 x5_1) (rd l0 (ji20))) else (if 0 ≤ (wrap64 (x5_1 + 2)) then (if (wrap64 (x5_1 + 2)) < (l0.length : Int) then (impl_decoded.j3 kj10 l0 x4_1 x5_1 ((rd l0 (wrap64 (x5_1 + 2))) == 0) (rd l0 x5_1) (rd l0 (ji20))) else (none)) else (none))) else ((impl_opOk.f (rd l0 x5_1) (rd l0 (ji20))).bind fun t573 => (if t573 = true then (if x4_1.length < 8796093022208 then (impl_decoded.l0 kj10 l0 (x4_1 ++ [(⟨(rd l0 x5_1),rd l0 (ji20)⟩ : S49)]) (wrap64 (x5_1 + 2))) else (none)) else (some (x4_1,x5_1))))) else (none)) else (none)) = some (r1,r2) := by first|(rw [hji20] at H;exact H)|(simp only [hji20] at H ⊢;exact H)
            (try rw [hji20] at c19b0)
            have hji20w : (IntKind.i64.wrap (x5_1 + 1)) = ji20 := (i64_w _).trans hji20
            by_cases c21 : 0 ≤ (ji20)
            ·rw [if_pos c21] at H
             have c21b0 : decide (0 ≤ (ji20)) = true := decide_eq_true c21
             clear c21
             by_cases c22 : (ji20) < (l0.length : Int)
             ·rw [if_pos c22] at H
              have c22b0 : decide ((ji20) < (l0.length : Int)) = true := decide_eq_true c22
              clear c22
              by_cases c23 : (rd l0 (ji20)) ≥ 128
              ·rw [if_pos c23] at H
               have c23b0 : decide (128 ≤ (rd l0 (ji20))) = true := decide_eq_true c23
               clear c23
               have HC24 := Aside0.mk H
               clear H
               have p566 : 0 ≤ ((ji20) : Int) := of_decide_eq_true (by first|(with_reducible assumption)|assumption)
               have q566 : (ji20) < (l0.length : Int) := of_decide_eq_true (by first|(with_reducible assumption)|assumption)
               obtain ⟨ad566,e566,hx566_0⟩ := Kd.at_int HR0.out (ji20) p566 q566
               obtain rfl : ad563 = ad566 := (by injection e566)
               replace hx566_0 := (HB.out.cell (World.block_lt_of_cell? w _ hx566_0)).trans hx566_0
               replace p566 := eq_true p566
               replace q566 := eq_true q566
               have hcz25_0 : wc.cell? ⟨gb564,0,none⟩ = some (.int .i64 (rd l0 x5_1)) := (blk_cell BK564.out 0).trans rfl
               have hcz25_1 : wc.cell? ⟨gb564,1,none⟩ = some (.int .i64 0) := (blk_cell BK564.out 1).trans rfl
               have hfz25_0 := blk_frozen BK564.out 0
               have hfz25_1 := blk_frozen BK564.out 1
               go_upto_region 9 with (fail)
               go_cut [58] (fun v58 wc => ∃ (kq : Nat) (x58_23 : Bool),v58 = .bool x58_23 ∧ Aside0 (impl_decoded.j3 kq l0 x4_1 x5_1 x58_23 (rd l0 x5_1) (rd l0 (ji20)) = some (r1,r2)) ∧ Aside0 (kq ≤ kj10) ∧ Aside0 (Kd.R k49 49 wc w.heap.size (fun k_ => k_ ≠ gb564) u4 x4_1) ∧ Aside0 (wc.heap[gb564]? = some (.cells #[.int .i64 (rd l0 x5_1),.int .i64 (rd l0 (ji20))] 49 (0,0))) ∧ Aside0 (Below w.heap.size w wc))
               case first =>
                have H := HC24.out
                clear HC24
                by_cases c26 : (wrap64 (x5_1 + 2)) ≥ (l0.length : Int)
                ·rw [if_pos c26] at H
                 have c26b0 : decide ((l0.length : Int) ≤ (wrap64 (x5_1 + 2))) = true := decide_eq_true c26
                 clear c26
                 (first|rw [c26b0]|(simp only [i64_w,i32_w];rw [c26b0])|skip)
                 have H' := Aside0.mk H
                 clear H
                 go_wp2
                 go_meet
                 case rel => exact ⟨_,(true),(by first|rfl|(simp;done)|(simp [*];done)),H',⟨by have := HK1.out;have := HJ3.out;have := HJ10.out;first|omega|exact Nat.le_refl _⟩,⟨by (with_reducible repeat (first|apply Kd.R_alloc|apply Kd.R_drewN|apply Kd.R_drew));exact Kd.R_mono (Kd.R_far (p := ⟨gb564,1,none⟩) (Kd.R_mono HO_4.out (fun k_ hk => (⟨hk,hk⟩ : _ ∧ k_ ≠ gb564))) (fun _ hk => hk.2) (.int .i64 (rd l0 (ji20)))) (fun _ hk => hk.1)⟩,⟨by (with_reducible repeat (first|refine blk_drewN ?_ _|refine blk_drew ?_|refine blk_alloc ?_ _));refine blk_put (cs := #[.int .i64 (rd l0 x5_1),.int .i64 0]) ?_ 1 _ rfl;(with_reducible repeat (first|refine blk_drewN ?_ _|refine blk_drew ?_|refine blk_alloc ?_ _));exact BK564.out⟩,⟨by repeat (first|(with_reducible first|exact HB.out|apply below_alloc|apply pw_below_drewN|apply below_drew1|refine below_set ?_ GE564.out)|exact HB.out)⟩⟩
                ·rw [if_neg c26] at H
                 have c26b0 : decide ((l0.length : Int) ≤ (wrap64 (x5_1 + 2))) = false := decide_eq_false c26
                 clear c26
                 (first|rw [c26b0]|(simp only [i64_w,i32_w];rw [c26b0])|skip)
                 obtain ⟨ji27,hji27⟩ : ∃ j_ : Int,(wrap64 (x5_1 + 2)) = j_ := ⟨_,rfl⟩
                 replace H : (if 0 ≤ (ji27) then (if (ji27) < (l0.length : Int) then (impl_decoded.j3 kj10 l0 x4_1 x5_1 ((rd l0 (ji27)) == 0) (rd l0 x5_1) (rd l0 (ji20))) else (none)) else (none)) = some (r1,r2) := by first|(rw [hji27] at H;exact H)|(simp only [hji27] at H ⊢;exact H)
                 (try rw [hji27] at c26b0)
                 have hji27w : (IntKind.i64.wrap (x5_1 + 2)) = ji27 := (i64_w _).trans hji27
                 by_cases c28 : 0 ≤ (ji27)
                 ·rw [if_pos c28] at H
                  have c28b0 : decide (0 ≤ (ji27)) = true := decide_eq_true c28
                  clear c28
                  by_cases c29 : (ji27) < (l0.length : Int)
                  ·rw [if_pos c29] at H
                   have c29b0 : decide ((ji27) < (l0.length : Int)) = true := decide_eq_true c29
                   clear c29
                   have H' := Aside0.mk H
                   clear H
                   have p567 : 0 ≤ ((ji27) : Int) := of_decide_eq_true (by first|(with_reducible assumption)|assumption)
                   have q567 : (ji27) < (l0.length : Int) := of_decide_eq_true (by first|(with_reducible assumption)|assumption)
                   obtain ⟨ad567,e567,hx567_0⟩ := Kd.at_int HR0.out (ji27) p567 q567
                   obtain rfl : ad563 = ad567 := (by injection e567)
                   have hn567_0 : ad563.block ≠ gb564 := Nat.ne_of_lt (Nat.lt_of_lt_of_le (by have := World.block_lt_of_cell? _ _ hx567_0;first|rwa [add_block] at this|exact this) GW564.out)
                   replace hx567_0 := (HB.out.cell (World.block_lt_of_cell? w _ hx567_0)).trans hx567_0
                   replace hx567_0 := (cell_far (p := ⟨gb564,1,none⟩) (by first|(rw [add_block];exact hn567_0)|(show (Addr.add _ _).block ≠ _;rw [add_block];exact hn567_0)|exact hn567_0) (.int .i64 (rd l0 (ji20)))).trans hx567_0
                   clear hn567_0
                   replace p567 := eq_true p567
                   replace q567 := eq_true q567
                   go_wp2
                   go_meet
                   case rel => exact ⟨_,(((rd l0 (ji27)) == 0)),(by first|rfl|(simp;done)|(simp only [← hji27] <;> (first|rfl|simp))|(simp [*];done)),H',⟨by have := HK1.out;have := HJ3.out;have := HJ10.out;first|omega|exact Nat.le_refl _⟩,⟨by (with_reducible repeat (first|apply Kd.R_alloc|apply Kd.R_drewN|apply Kd.R_drew));exact Kd.R_mono (Kd.R_far (p := ⟨gb564,1,none⟩) (Kd.R_mono HO_4.out (fun k_ hk => (⟨hk,hk⟩ : _ ∧ k_ ≠ gb564))) (fun _ hk => hk.2) (.int .i64 (rd l0 (ji20)))) (fun _ hk => hk.1)⟩,⟨by (with_reducible repeat (first|refine blk_drewN ?_ _|refine blk_drew ?_|refine blk_alloc ?_ _));refine blk_put (cs := #[.int .i64 (rd l0 x5_1),.int .i64 0]) ?_ 1 _ rfl;(with_reducible repeat (first|refine blk_drewN ?_ _|refine blk_drew ?_|refine blk_alloc ?_ _));exact BK564.out⟩,⟨by repeat (first|(with_reducible first|exact HB.out|apply below_alloc|apply pw_below_drewN|apply below_drew1|refine below_set ?_ GE564.out)|exact HB.out)⟩⟩
                  ·rw [if_neg c29] at H
                   exact absurd H (by simp)
                 ·rw [if_neg c28] at H
                  exact absurd H (by simp)
               case rest =>
                clear HC24
                try clear c1
                try clear c2
                try clear p2
                try clear c5
                try clear c5b0
                try clear c5b1
                try clear p5
                try clear q5
                try clear hx5
                try clear c6
                try clear p6
                try clear c8
                try clear c9
                try clear c9b0
                try clear c10
                try clear c10b0
                try clear c14
                try clear c14b0
                try clear c18
                try clear c19
                try clear c19b0
                try clear c21
                try clear c21b0
                try clear c22
                try clear c22b0
                try clear c23
                try clear c23b0
                try clear c26
                try clear c26b0
                try clear c28
                try clear c28b0
                try clear c29
                try clear c29b0
                try clear hcz13_0
                try clear hcz13_1
                try clear hcz16_0
                try clear hcz16_1
                try clear hcz17_0
                try clear hcz17_1
                try clear hcz25_0
                try clear hcz25_1
                try clear hfz13_0
                try clear hfz13_1
                try clear hfz16_0
                try clear hfz16_1
                try clear hfz17_0
                try clear hfz17_1
                try clear hfz25_0
                try clear hfz25_1
                try clear hx563_0
                try clear hx566_0
                try clear hx567_0
                try clear p2
                try clear p5
                try clear p563
                try clear p566
                try clear p567
                try clear q5
                try clear q563
                try clear q566
                try clear q567
                obtain ⟨kq,x58_23,rfl,HA,HJ23,HO_4,BK564,HB⟩ := hcut
                cases kq with
                | zero => exact absurd HA.out (fun h_ => (by cases h_))
                | succ kj23 =>
                 have H := HA.out
                 clear HA
                 (unfold impl_decoded.j3 at H;try dsimp only at H)
                 by_cases c30 : x58_23 = true
                 ·subst c30
                  have H1 : (some (x4_1,x5_1)) = some (r1,r2) := by rw [if_pos rfl] at H;exact H
                  clear H
                  have H := H1
                  clear H1
                  simp only [Option.some.injEq,Prod.mk.injEq] at H
                  obtain ⟨rfl,rfl⟩ := H
                  go_wp2
                  go_ret2
                  exact ⟨_,by first|rfl|(simp [errW_none,errW_some] <;> rfl)|(simp only [← hji20];first|rfl|(simp [errW_none,errW_some] <;> rfl))|(simp [*,errW_none,errW_some] <;> rfl),by (with_reducible repeat (first|apply Kd.R_alloc|apply Kd.R_drewN|apply Kd.R_drew));exact Kd.R_mono HO_4.out (fun _ hk => trivial),by repeat (first|(with_reducible first|exact HB.out|apply below_alloc|apply pw_below_drewN|apply below_drew1|refine below_set ?_ GE564.out)|exact HB.out)⟩
                 ·replace c30 := Bool.eq_false_iff.mpr c30
                  subst c30
                  have H1 : (if 0 ≤ (wrap64 (x5_1 + 2)) then (if (wrap64 (x5_1 + 2)) < (l0.length : Int) then ((impl_opOk.f (rd l0 x5_1) (wrap64 ((wrap64 ((rd l0 (ji20)) - 128)) + (wrap64 (128 * (rd l0 (wrap64 (x5_1 + 2)))))))).bind fun t569 => (if t569 = true then (if x4_1.length < 8796093022208 then (impl_decoded.l0 kj23 l0 (x4_1 ++ [(⟨(rd l0 x5_1),wrap64 ((wrap64 ((rd l0 (ji20)) - 128)) + (wrap64 (128 * (rd l0 (wrap64 (x5_1 + 2))))))⟩ : S49)]) (wrap64 (x5_1 + 3))) else (none)) else (some (x4_1,x5_1)))) else (none)) else (none)) = some (r1,r2) := by rw [if_neg (show ¬ (false = true) by decide)] at H;exact H
                  clear H
                  have H := H1
                  clear H1
                  obtain ⟨ji31,hji31⟩ : ∃ j_ : Int,(wrap64 (x5_1 + 2)) = j_ := ⟨_,rfl⟩
                  replace H : (if 0 ≤ (ji31) then (if (ji31) < (l0.length : Int) then ((impl_opOk.f (rd l0 x5_1) (wrap64 ((wrap64 ((rd l0 (ji20)) - 128)) + (wrap64 (128 * (rd l0 (ji31))))))).bind fun t569 => (if t569 = true then (if x4_1.length < 8796093022208 then (impl_decoded.l0 kj23 l0 (x4_1 ++ [(⟨(rd l0 x5_1),wrap64 ((wrap64 ((rd l0 (ji20)) - 128)) + (wrap64 (128 * (rd l0 (ji31)))))⟩ : S49)]) (wrap64 (x5_1 + 3))) else (none)) else (some (x4_1,x5_1)))) else (none)) else (none)) = some (r1,r2) := by first|(rw [hji31] at H;exact H)|(simp only [hji31] at H ⊢;exact H)
                  have hji31w : (IntKind.i64.wrap (x5_1 + 2)) = ji31 := (i64_w _).trans hji31
                  by_cases c32 : 0 ≤ (ji31)
                  ·rw [if_pos c32] at H
                   have c32b0 : decide (0 ≤ (ji31)) = true := decide_eq_true c32
                   clear c32
                   by_cases c33 : (ji31) < (l0.length : Int)
                   ·rw [if_pos c33] at H
                    have c33b0 : decide ((ji31) < (l0.length : Int)) = true := decide_eq_true c33
                    clear c33
                    replace H := Option.bind_eq_some_iff.mp H
                    obtain ⟨t569,A340,H⟩ := H
                    replace H : (if t569 = true then (if x4_1.length < 8796093022208 then (impl_decoded.l0 kj23 l0 (x4_1 ++ [(⟨(rd l0 x5_1),wrap64 ((wrap64 ((rd l0 (ji20)) - 128)) + (wrap64 (128 * (rd l0 (ji31)))))⟩ : S49)]) (wrap64 (x5_1 + 3))) else (none)) else (some (x4_1,x5_1))) = some (r1,r2) := H
                    have A34 := Aside0.mk A340
                    clear A340
                    by_cases c35 : t569 = true
                    ·subst c35
                     have H1 : (if x4_1.length < 8796093022208 then (impl_decoded.l0 kj23 l0 (x4_1 ++ [(⟨(rd l0 x5_1),wrap64 ((wrap64 ((rd l0 (ji20)) - 128)) + (wrap64 (128 * (rd l0 (ji31)))))⟩ : S49)]) (wrap64 (x5_1 + 3))) else (none)) = some (r1,r2) := by rw [if_pos rfl] at H;exact H
                     clear H
                     have H := H1
                     clear H1
                     by_cases c36 : x4_1.length < 8796093022208
                     ·rw [if_pos c36] at H
                      have LMc36 := Aside0.mk c36
                      clear c36
                      obtain ⟨y570,hy570⟩ : ∃ y_ : List (S49),y_ = (x4_1 ++ [(⟨(rd l0 x5_1),wrap64 ((wrap64 ((rd l0 (ji20)) - 128)) + (wrap64 (128 * (rd l0 (ji31)))))⟩ : S49)]) := ⟨_,rfl⟩
                      replace H : (impl_decoded.l0 kj23 l0 y570 (wrap64 (x5_1 + 3))) = some (r1,r2) := by first|(rw [hy570];with_reducible exact H)|(have H2_ := (Option.bind_some _ _).symm.trans H;rw [hy570];with_reducible exact H2_)|(have H2_ := (Option.bind_some _ _).symm.trans H;with_reducible exact H2_)|with_reducible exact H|(rw [hy570];exact H)|exact H
                      have Ny570 := Aside0.mk hy570
                      clear hy570
                      have H' := Aside0.mk H
                      clear H
                      try go_wp2
                      have n0_ := Aside0.mk (Kd.R_drew HO_4.out)
                      have n1_ := Aside0.mk (blk_drew BK564.out)
                      have n2_ := Aside0.mk (below_drew1 HB.out)
                      clear HO_4
                      clear BK564
                      clear HB
                      have HO_4 := n0_
                      have BK564 := n1_
                      have HB := n2_
                      clear n0_ n1_ n2_
                      have p568 : 0 ≤ ((ji31) : Int) := of_decide_eq_true (by first|(with_reducible assumption)|assumption)
                      have q568 : (ji31) < (l0.length : Int) := of_decide_eq_true (by first|(with_reducible assumption)|assumption)
                      obtain ⟨ad568,e568,hx568_0⟩ := Kd.at_int HR0.out (ji31) p568 q568
                      have hw568_0 := hx568_0
                      obtain rfl : ad563 = ad568 := (by injection e568)
                      replace hx568_0 := (HB.out.cell (World.block_lt_of_cell? w _ hx568_0)).trans hx568_0
                      replace p568 := eq_true p568
                      replace q568 := eq_true q568
                      refine start_ (n := 13) (S := fun w' => w'.cell? ⟨gb564,0,none⟩ = some (.int .i64 (rd l0 x5_1)) ∧ w'.cell? ⟨gb564,1,none⟩ = some (.int .i64 (rd l0 (ji20))) ∧ w'.cell? (ad563.add ((ji31)).toNat) = some (.int .i64 (rd l0 (ji31)))) (ds := [11]) #[false,false,false,false,false,false,false,false,false,false,false,false,false] (by kernel_rfl) rfl rfl ⟨(blk_cell BK564.out 0).trans rfl,(blk_cell BK564.out 1).trans rfl,((HB.out.cell (World.block_lt_of_cell? w _ hw568_0)).trans hw568_0)⟩ (fun hHeld => ?_);refine with_tabW impl_decoded.tab10 impl_decoded.bits10 (fun HT_ HW_ => ?_)
                      generalize wc.drew = w37 at HO_4 BK564 HB hx568_0 hHeld ⊢
                      refine pure_ (i := 0) (N := some 59) (v := ?_) (a' := ?_) #[true,false,false,false,false,false,false,false,false,false,false,false,false] rfl rfl (any_of HT_.out (by kernel_rfl)) (fun _ _ _ h => h) (Or.inl ⟨by rfl,?_⟩) ?_ ?_
                      rotate_left
                      ·intro w'
                       go_simp
                       with_reducible rfl
                      rotate_left
                      ·simp only [Act.put,List.setIfInBounds_toArray,List.set_cons_zero,List.set_cons_succ,i64_w,i32_w]
                       rfl
                      refine pure_ (i := 3) (N := some 62) (v := ?_) (a' := ?_) #[true,false,false,true,false,false,false,false,false,false,false,false,false] rfl rfl (any_of HT_.out (by kernel_rfl)) (fun _ _ _ h => h) (Or.inl ⟨by rfl,?_⟩) ?_ ?_
                      rotate_left
                      ·intro w'
                       go_simp
                       with_reducible rfl
                      rotate_left
                      ·simp only [Act.put,List.setIfInBounds_toArray,List.set_cons_zero,List.set_cons_succ,i64_w,i32_w]
                       rfl
                      refine pure_ (i := 4) (N := some 63) (v := ?_) (a' := ?_) #[true,false,false,true,true,false,false,false,false,false,false,false,false] rfl rfl (any_of HT_.out (by kernel_rfl)) (fun _ _ _ h => h) (Or.inl ⟨by rfl,?_⟩) ?_ ?_
                      rotate_left
                      ·intro w'
                       go_simp
                       with_reducible rfl
                      rotate_left
                      ·simp only [Act.put,List.setIfInBounds_toArray,List.set_cons_zero,List.set_cons_succ,i64_w,i32_w]
                       rfl
                      refine pure_ (i := 5) (N := some 64) (v := ?_) (a' := ?_) #[true,false,false,true,true,true,false,false,false,false,false,false,false] rfl rfl (any_of HT_.out (by kernel_rfl)) (fun _ _ _ h => h) (Or.inl ⟨by rfl,?_⟩) ?_ ?_
                      rotate_left
                      ·intro w'
                       go_simp
                       with_reducible rfl
                      rotate_left
                      ·simp only [Act.put,List.setIfInBounds_toArray,List.set_cons_zero,List.set_cons_succ,i64_w,i32_w]
                       rfl
                      refine pure_ (i := 6) (N := some 65) (v := ?_) (a' := ?_) #[true,false,false,true,true,true,true,false,false,false,false,false,false] rfl rfl (any_of HT_.out (by kernel_rfl)) (fun _ _ _ h => h) (Or.inl ⟨by rfl,?_⟩) ?_ ?_
                      rotate_left
                      ·intro w'
                       go_simp
                       with_reducible rfl
                      rotate_left
                      ·simp only [Act.put,List.setIfInBounds_toArray,List.set_cons_zero,List.set_cons_succ,i64_w,i32_w]
                       rfl
                      refine take_ (i := 1) (N := some 60) (v := ?_) (a' := ?_) #[true,true,false,true,true,true,true,false,false,false,false,false,false] rfl rfl (take_ofW HT_.out HW_.out (by kernel_rfl)) (fun _ _ _ h => h) (Or.inl ⟨by rfl,?_⟩) hHeld ?_ ?_
                      rotate_left
                      ·rintro w' ⟨s0,s1,s2⟩
                       go_simp
                       with_reducible rfl
                      rotate_left
                      ·simp only [Act.put,List.setIfInBounds_toArray,List.set_cons_zero,List.set_cons_succ,i64_w,i32_w]
                       rfl
                      refine pure_ (i := 2) (N := some 61) (v := ?_) (a' := ?_) #[true,true,true,true,true,true,true,false,false,false,false,false,false] rfl rfl (any_of HT_.out (by kernel_rfl)) (fun _ _ _ h => h) (Or.inl ⟨by rfl,?_⟩) ?_ ?_
                      rotate_left
                      ·intro w'
                       go_simp
                       with_reducible rfl
                      rotate_left
                      ·simp only [Act.put,List.setIfInBounds_toArray,List.set_cons_zero,List.set_cons_succ,i64_w,i32_w]
                       rfl
                      refine take_ (i := 7) (N := some 66) (v := ?_) (a' := ?_) #[true,true,true,true,true,true,true,true,false,false,false,false,false] rfl rfl (take_ofW HT_.out HW_.out (by kernel_rfl)) (fun _ _ _ h => h) (Or.inl ⟨by rfl,?_⟩) hHeld ?_ ?_
                      rotate_left
                      ·rintro w' ⟨s0,s1,s2⟩
                       go_simp
                       with_reducible rfl
                      rotate_left
                      ·simp only [Act.put,List.setIfInBounds_toArray,List.set_cons_zero,List.set_cons_succ,i64_w,i32_w]
                       rfl
                      refine pure_ (i := 8) (N := some 67) (v := ?_) (a' := ?_) #[true,true,true,true,true,true,true,true,true,false,false,false,false] rfl rfl (any_of HT_.out (by kernel_rfl)) (fun _ _ _ h => h) (Or.inl ⟨by rfl,?_⟩) ?_ ?_
                      rotate_left
                      ·intro w'
                       go_simp
                       with_reducible rfl
                      rotate_left
                      ·simp only [Act.put,List.setIfInBounds_toArray,List.set_cons_zero,List.set_cons_succ,i64_w,i32_w]
                       rfl
                      refine pure_ (i := 9) (N := some 68) (v := ?_) (a' := ?_) #[true,true,true,true,true,true,true,true,true,true,false,false,false] rfl rfl (any_of HT_.out (by kernel_rfl)) (fun _ _ _ h => h) (Or.inl ⟨by rfl,?_⟩) ?_ ?_
                      rotate_left
                      ·intro w'
                       go_simp
                       with_reducible rfl
                      rotate_left
                      ·simp only [Act.put,List.setIfInBounds_toArray,List.set_cons_zero,List.set_cons_succ,i64_w,i32_w]
                       rfl
                      refine pure_ (i := 10) (N := some 69) (v := ?_) (a' := ?_) #[true,true,true,true,true,true,true,true,true,true,true,false,false] rfl rfl (any_of HT_.out (by kernel_rfl)) (fun _ _ _ h => h) (Or.inl ⟨by rfl,?_⟩) ?_ ?_
                      rotate_left
                      ·intro w'
                       go_simp
                       with_reducible rfl
                      rotate_left
                      ·simp only [Act.put,List.setIfInBounds_toArray,List.set_cons_zero,List.set_cons_succ,i64_w,i32_w]
                       rfl
                      refine last_ (i := 11) (N := none) #[true,true,true,true,true,true,true,true,true,true,true,true,false] rfl rfl (one_of HT_.out (by kernel_rfl)) (by decide) (fun K hK => ?_)
                      have hs38 : w37.cell? ⟨gb564,1,none⟩ = some (.int .i64 (rd l0 (ji20))) := (blk_cell BK564.out 1).trans rfl
                      have hfs38 := blk_frozen BK564.out 1
                      refine skip_ (w1 := ?_) (by rfl) rfl ?_ ?_
                      rotate_left
                      ·go_simp
                       rfl
                      refine hK.out _ _ ?_
                      clear hK K
                      refine pure_ (i := 12) (N := some 7) (v := ?_) (a' := ?_) #[true,true,true,true,true,true,true,true,true,true,true,true,true] rfl rfl (any_of HT_.out (by kernel_rfl)) (fun _ _ _ h => h) (Or.inl ⟨by rfl,?_⟩) ?_ ?_
                      rotate_left
                      ·intro w'
                       go_simp
                       with_reducible rfl
                      rotate_left
                      ·simp only [Act.put,List.setIfInBounds_toArray,List.set_cons_zero,List.set_cons_succ,i64_w,i32_w]
                       rfl
                      refine done_ (done_of HT_.out (by kernel_rfl)) ?_
                      have hcz39_0 : w37.cell? ⟨gb564,0,none⟩ = some (.int .i64 (rd l0 x5_1)) := (blk_cell BK564.out 0).trans rfl
                      have hcz39_1 : w37.cell? ⟨gb564,1,none⟩ = some (.int .i64 (rd l0 (ji20))) := (blk_cell BK564.out 1).trans rfl
                      have hfz39_0 := blk_frozen BK564.out 0
                      have hfz39_1 := blk_frozen BK564.out 1
                      try go_wp2_with (first|((with_reducible refine gate_callee (f := 53) rfl ?_);refine goesL_ (some 71) rfl rfl Try.func53 (by kernel_rfl) rfl #[.agg #[.int .i64 (rd l0 x5_1),.int .i64 (wrap64 ((wrap64 ((rd l0 (ji20)) - 128)) + (wrap64 (128 * (rd l0 (ji31))))))]] rfl (by (try simp only [List.map_toArray,List.map_cons,List.map_nil]);first|done|(simp only [hji20,hji31];rfl)|rfl|(simp only [List.length_drop,List.length_take];rfl)) ?_;(with_reducible refine (impl_opOk.calls (rd l0 x5_1) (wrap64 ((wrap64 ((rd l0 (ji20)) - 128)) + (wrap64 (128 * (rd l0 (ji31)))))) true _ A34.out).mono ?_);rintro e w40 ⟨rfl,hb⟩;refine ⟨_,rfl,?_⟩;have n0_ := Aside0.mk (Kd.R_below (by (with_reducible repeat (first|apply Kd.R_alloc|apply Kd.R_drewN|apply Kd.R_drew));exact (Kd.R_mono (Kd.R_far (p := ⟨gb564,1,none⟩) (Kd.R_mono HO_4.out (fun k_ hk => (⟨hk,hk⟩ : _ ∧ k_ ≠ gb564))) (fun _ hk => hk.2) (.int .i64 (wrap64 ((wrap64 ((rd l0 (ji20)) - 128)) + (wrap64 (128 * (rd l0 (ji31)))))))) (fun _ h_ => h_.1))) hb);have n1_ := Aside0.mk (blk_below (g := gb564) (o := .cells #[.int .i64 (rd l0 x5_1),.int .i64 (wrap64 ((wrap64 ((rd l0 (ji20)) - 128)) + (wrap64 (128 * (rd l0 (ji31))))))] 49 (0,0)) (by (with_reducible repeat (first|refine blk_drewN ?_ _|refine blk_drew ?_|refine blk_alloc ?_ _));refine blk_put (cs := #[.int .i64 (rd l0 x5_1),.int .i64 (rd l0 (ji20))]) ?_ 1 _ rfl;(with_reducible repeat (first|refine blk_drewN ?_ _|refine blk_drew ?_|refine blk_alloc ?_ _));exact BK564.out) hb);have n2_ := Aside0.mk (below_step (by repeat (first|(with_reducible first|exact HB.out|apply below_alloc|apply pw_below_drewN|apply below_drew1|refine below_set ?_ GE564.out)|exact HB.out)) hb);clear HO_4;clear BK564;clear HB;have HO_4 := n0_;have BK564 := n1_;have HB := n2_;clear n0_ n1_ n2_;(try clear hb);(try clear hb2);(try clear hk);(try clear hi);have hcz41_0 : w40.cell? ⟨gb564,0,none⟩ = some (.int .i64 (rd l0 x5_1)) := (blk_cell BK564.out 0).trans rfl;have hcz41_1 : w40.cell? ⟨gb564,1,none⟩ = some (.int .i64 (wrap64 ((wrap64 ((rd l0 (ji20)) - 128)) + (wrap64 (128 * (rd l0 (ji31))))))) := (blk_cell BK564.out 1).trans rfl;have hfz41_0 := blk_frozen BK564.out 0;have hfz41_1 := blk_frozen BK564.out 1)|((with_reducible refine gate_builtin (b := .append) (xs := #[.tmp 73,.tmp 75]) rfl ?_);(try (refine gate_guard (by rfl) ?_;dsimp only));at_builtin;refine Kd.R_append k49 (w0 := w) w.heap.size rfl (.tmp 73) (.tmp 75) 25 49 (.agg #[(.int .i64 0),(.int .i64 0)]) 16 rfl Try.underlying25 info49 rfl (by decide) (by omega) u4 x4_1 (⟨(rd l0 x5_1),wrap64 ((wrap64 ((rd l0 (ji20)) - 128)) + (wrap64 (128 * (rd l0 (ji31)))))⟩ : S49) [.int .i64 (rd l0 x5_1),.int .i64 (wrap64 ((wrap64 ((rd l0 (ji20)) - 128)) + (wrap64 (128 * (rd l0 (ji31))))))] (fun k_ => k_ ≠ gb564) (fun _ => False) rfl rfl ?aP (fun _ hk => hk.elim) ?aF ?aO ?aB ?aS ?aL ?_;(case aP => exact k49_mkM _ _ _ (⟨(rd l0 x5_1),wrap64 ((wrap64 ((rd l0 (ji20)) - 128)) + (wrap64 (128 * (rd l0 (ji31)))))⟩ : S49));(case aB => exact (by repeat (first|(with_reducible first|exact HB.out|apply below_alloc|apply pw_below_drewN|apply below_drew1|refine below_set ?_ GE564.out)|exact HB.out)));(case aF => exact (fun k_ hk => Kd.freshB (g := gb564) (o := .cells #[.int .i64 (rd l0 x5_1),.int .i64 (wrap64 ((wrap64 ((rd l0 (ji20)) - 128)) + (wrap64 (128 * (rd l0 (ji31))))))] 49 (0,0)) (by (with_reducible repeat (first|refine blk_drewN ?_ _|refine blk_drew ?_|refine blk_alloc ?_ _));exact BK564.out) k_ hk));(case aO => exact (by (with_reducible repeat (first|apply Kd.R_alloc|apply Kd.R_drewN|apply Kd.R_drew));exact HO_4.out));(case aS => exact (below_size (by repeat (first|(with_reducible first|exact HB.out|apply below_alloc|apply pw_below_drewN|apply below_drew1|refine below_set ?_ GE564.out)|exact HB.out))));(case aL => have := LMc36.out;omega);intro v571 w42 ho hb hg hat;rw [← Ny570.out] at ho;have n0_ := Aside0.mk (blk_grown (g := gb564) (o := .cells #[.int .i64 (rd l0 x5_1),.int .i64 (wrap64 ((wrap64 ((rd l0 (ji20)) - 128)) + (wrap64 (128 * (rd l0 (ji31))))))] 49 (0,0)) (by (with_reducible repeat (first|refine blk_drewN ?_ _|refine blk_drew ?_|refine blk_alloc ?_ _));exact BK564.out) hg (Kd.R_away HO_4.out (fun _ hk => hk)));have n1_ := Aside0.mk (hb);have n2_ := Aside0.mk (ho);clear BK564;clear HB;clear HO_4;have BK564 := n0_;have HB := n1_;have HO572 := n2_;clear n0_ n1_ n2_;clear ho hb hg hat))
                      go_roundg kj23
                      case measure => have := HK1.out;have := HJ3.out;have := HJ10.out;have := HJ23.out;omega
                      case rel => exact ⟨(y570),(wrap64 (x5_1 + 3)),(by first|rfl|(simp;done)|(simp [*];done)),H',⟨by have := HK1.out;have := HJ3.out;have := HJ10.out;have := HJ23.out;omega⟩,⟨by (with_reducible repeat (first|apply Kd.R_alloc|apply Kd.R_drewN|apply Kd.R_drew));exact Kd.R_mono HO572.out (fun _ hk => trivial)⟩,⟨by repeat (first|(with_reducible first|exact HB.out|apply below_alloc|apply pw_below_drewN|apply below_drew1|refine below_set ?_ GE564.out)|exact HB.out)⟩⟩
                     ·rw [if_neg c36] at H
                      exact absurd H (by simp)
                    ·replace c35 := Bool.eq_false_iff.mpr c35
                     subst c35
                     have H1 : (some (x4_1,x5_1)) = some (r1,r2) := by rw [if_neg (show ¬ (false = true) by decide)] at H;exact H
                     clear H
                     have H := H1
                     clear H1
                     simp only [Option.some.injEq,Prod.mk.injEq] at H
                     obtain ⟨rfl,rfl⟩ := H
                     try go_wp2
                     have n0_ := Aside0.mk (Kd.R_drew HO_4.out)
                     have n1_ := Aside0.mk (blk_drew BK564.out)
                     have n2_ := Aside0.mk (below_drew1 HB.out)
                     clear HO_4
                     clear BK564
                     clear HB
                     have HO_4 := n0_
                     have BK564 := n1_
                     have HB := n2_
                     clear n0_ n1_ n2_
                     have p568 : 0 ≤ ((ji31) : Int) := of_decide_eq_true (by first|(with_reducible assumption)|assumption)
                     have q568 : (ji31) < (l0.length : Int) := of_decide_eq_true (by first|(with_reducible assumption)|assumption)
                     obtain ⟨ad568,e568,hx568_0⟩ := Kd.at_int HR0.out (ji31) p568 q568
                     have hw568_0 := hx568_0
                     obtain rfl : ad563 = ad568 := (by injection e568)
                     replace hx568_0 := (HB.out.cell (World.block_lt_of_cell? w _ hx568_0)).trans hx568_0
                     replace p568 := eq_true p568
                     replace q568 := eq_true q568
                     refine start_ (n := 13) (S := fun w' => w'.cell? ⟨gb564,0,none⟩ = some (.int .i64 (rd l0 x5_1)) ∧ w'.cell? ⟨gb564,1,none⟩ = some (.int .i64 (rd l0 (ji20))) ∧ w'.cell? (ad563.add ((ji31)).toNat) = some (.int .i64 (rd l0 (ji31)))) (ds := [11]) #[false,false,false,false,false,false,false,false,false,false,false,false,false] (by kernel_rfl) rfl rfl ⟨(blk_cell BK564.out 0).trans rfl,(blk_cell BK564.out 1).trans rfl,((HB.out.cell (World.block_lt_of_cell? w _ hw568_0)).trans hw568_0)⟩ (fun hHeld => ?_);refine with_tabW impl_decoded.tab10 impl_decoded.bits10 (fun HT_ HW_ => ?_)
                     generalize wc.drew = w43 at HO_4 BK564 HB hx568_0 hHeld ⊢
                     refine pure_ (i := 0) (N := some 59) (v := ?_) (a' := ?_) #[true,false,false,false,false,false,false,false,false,false,false,false,false] rfl rfl (any_of HT_.out (by kernel_rfl)) (fun _ _ _ h => h) (Or.inl ⟨by rfl,?_⟩) ?_ ?_
                     rotate_left
                     ·intro w'
                      go_simp
                      with_reducible rfl
                     rotate_left
                     ·simp only [Act.put,List.setIfInBounds_toArray,List.set_cons_zero,List.set_cons_succ,i64_w,i32_w]
                      rfl
                     refine pure_ (i := 3) (N := some 62) (v := ?_) (a' := ?_) #[true,false,false,true,false,false,false,false,false,false,false,false,false] rfl rfl (any_of HT_.out (by kernel_rfl)) (fun _ _ _ h => h) (Or.inl ⟨by rfl,?_⟩) ?_ ?_
                     rotate_left
                     ·intro w'
                      go_simp
                      with_reducible rfl
                     rotate_left
                     ·simp only [Act.put,List.setIfInBounds_toArray,List.set_cons_zero,List.set_cons_succ,i64_w,i32_w]
                      rfl
                     refine pure_ (i := 4) (N := some 63) (v := ?_) (a' := ?_) #[true,false,false,true,true,false,false,false,false,false,false,false,false] rfl rfl (any_of HT_.out (by kernel_rfl)) (fun _ _ _ h => h) (Or.inl ⟨by rfl,?_⟩) ?_ ?_
                     rotate_left
                     ·intro w'
                      go_simp
                      with_reducible rfl
                     rotate_left
                     ·simp only [Act.put,List.setIfInBounds_toArray,List.set_cons_zero,List.set_cons_succ,i64_w,i32_w]
                      rfl
                     refine pure_ (i := 5) (N := some 64) (v := ?_) (a' := ?_) #[true,false,false,true,true,true,false,false,false,false,false,false,false] rfl rfl (any_of HT_.out (by kernel_rfl)) (fun _ _ _ h => h) (Or.inl ⟨by rfl,?_⟩) ?_ ?_
                     rotate_left
                     ·intro w'
                      go_simp
                      with_reducible rfl
                     rotate_left
                     ·simp only [Act.put,List.setIfInBounds_toArray,List.set_cons_zero,List.set_cons_succ,i64_w,i32_w]
                      rfl
                     refine pure_ (i := 6) (N := some 65) (v := ?_) (a' := ?_) #[true,false,false,true,true,true,true,false,false,false,false,false,false] rfl rfl (any_of HT_.out (by kernel_rfl)) (fun _ _ _ h => h) (Or.inl ⟨by rfl,?_⟩) ?_ ?_
                     rotate_left
                     ·intro w'
                      go_simp
                      with_reducible rfl
                     rotate_left
                     ·simp only [Act.put,List.setIfInBounds_toArray,List.set_cons_zero,List.set_cons_succ,i64_w,i32_w]
                      rfl
                     refine take_ (i := 1) (N := some 60) (v := ?_) (a' := ?_) #[true,true,false,true,true,true,true,false,false,false,false,false,false] rfl rfl (take_ofW HT_.out HW_.out (by kernel_rfl)) (fun _ _ _ h => h) (Or.inl ⟨by rfl,?_⟩) hHeld ?_ ?_
                     rotate_left
                     ·rintro w' ⟨s0,s1,s2⟩
                      go_simp
                      with_reducible rfl
                     rotate_left
                     ·simp only [Act.put,List.setIfInBounds_toArray,List.set_cons_zero,List.set_cons_succ,i64_w,i32_w]
                      rfl
                     refine pure_ (i := 2) (N := some 61) (v := ?_) (a' := ?_) #[true,true,true,true,true,true,true,false,false,false,false,false,false] rfl rfl (any_of HT_.out (by kernel_rfl)) (fun _ _ _ h => h) (Or.inl ⟨by rfl,?_⟩) ?_ ?_
                     rotate_left
                     ·intro w'
                      go_simp
                      with_reducible rfl
                     rotate_left
                     ·simp only [Act.put,List.setIfInBounds_toArray,List.set_cons_zero,List.set_cons_succ,i64_w,i32_w]
                      rfl
                     refine take_ (i := 7) (N := some 66) (v := ?_) (a' := ?_) #[true,true,true,true,true,true,true,true,false,false,false,false,false] rfl rfl (take_ofW HT_.out HW_.out (by kernel_rfl)) (fun _ _ _ h => h) (Or.inl ⟨by rfl,?_⟩) hHeld ?_ ?_
                     rotate_left
                     ·rintro w' ⟨s0,s1,s2⟩
                      go_simp
                      with_reducible rfl
                     rotate_left
                     ·simp only [Act.put,List.setIfInBounds_toArray,List.set_cons_zero,List.set_cons_succ,i64_w,i32_w]
                      rfl
                     refine pure_ (i := 8) (N := some 67) (v := ?_) (a' := ?_) #[true,true,true,true,true,true,true,true,true,false,false,false,false] rfl rfl (any_of HT_.out (by kernel_rfl)) (fun _ _ _ h => h) (Or.inl ⟨by rfl,?_⟩) ?_ ?_
                     rotate_left
                     ·intro w'
                      go_simp
                      with_reducible rfl
                     rotate_left
                     ·simp only [Act.put,List.setIfInBounds_toArray,List.set_cons_zero,List.set_cons_succ,i64_w,i32_w]
                      rfl
                     refine pure_ (i := 9) (N := some 68) (v := ?_) (a' := ?_) #[true,true,true,true,true,true,true,true,true,true,false,false,false] rfl rfl (any_of HT_.out (by kernel_rfl)) (fun _ _ _ h => h) (Or.inl ⟨by rfl,?_⟩) ?_ ?_
                     rotate_left
                     ·intro w'
                      go_simp
                      with_reducible rfl
                     rotate_left
                     ·simp only [Act.put,List.setIfInBounds_toArray,List.set_cons_zero,List.set_cons_succ,i64_w,i32_w]
                      rfl
                     refine pure_ (i := 10) (N := some 69) (v := ?_) (a' := ?_) #[true,true,true,true,true,true,true,true,true,true,true,false,false] rfl rfl (any_of HT_.out (by kernel_rfl)) (fun _ _ _ h => h) (Or.inl ⟨by rfl,?_⟩) ?_ ?_
                     rotate_left
                     ·intro w'
                      go_simp
                      with_reducible rfl
                     rotate_left
                     ·simp only [Act.put,List.setIfInBounds_toArray,List.set_cons_zero,List.set_cons_succ,i64_w,i32_w]
                      rfl
                     refine last_ (i := 11) (N := none) #[true,true,true,true,true,true,true,true,true,true,true,true,false] rfl rfl (one_of HT_.out (by kernel_rfl)) (by decide) (fun K hK => ?_)
                     have hs44 : w43.cell? ⟨gb564,1,none⟩ = some (.int .i64 (rd l0 (ji20))) := (blk_cell BK564.out 1).trans rfl
                     have hfs44 := blk_frozen BK564.out 1
                     refine skip_ (w1 := ?_) (by rfl) rfl ?_ ?_
                     rotate_left
                     ·go_simp
                      rfl
                     refine hK.out _ _ ?_
                     clear hK K
                     refine pure_ (i := 12) (N := some 7) (v := ?_) (a' := ?_) #[true,true,true,true,true,true,true,true,true,true,true,true,true] rfl rfl (any_of HT_.out (by kernel_rfl)) (fun _ _ _ h => h) (Or.inl ⟨by rfl,?_⟩) ?_ ?_
                     rotate_left
                     ·intro w'
                      go_simp
                      with_reducible rfl
                     rotate_left
                     ·simp only [Act.put,List.setIfInBounds_toArray,List.set_cons_zero,List.set_cons_succ,i64_w,i32_w]
                      rfl
                     refine done_ (done_of HT_.out (by kernel_rfl)) ?_
                     have hcz45_0 : w43.cell? ⟨gb564,0,none⟩ = some (.int .i64 (rd l0 x5_1)) := (blk_cell BK564.out 0).trans rfl
                     have hcz45_1 : w43.cell? ⟨gb564,1,none⟩ = some (.int .i64 (rd l0 (ji20))) := (blk_cell BK564.out 1).trans rfl
                     have hfz45_0 := blk_frozen BK564.out 0
                     have hfz45_1 := blk_frozen BK564.out 1
                     try go_wp2_with (first|((with_reducible refine gate_callee (f := 53) rfl ?_);refine goesL_ (some 71) rfl rfl Try.func53 (by kernel_rfl) rfl #[.agg #[.int .i64 (rd l0 x5_1),.int .i64 (wrap64 ((wrap64 ((rd l0 (ji20)) - 128)) + (wrap64 (128 * (rd l0 (ji31))))))]] rfl (by (try simp only [List.map_toArray,List.map_cons,List.map_nil]);first|done|(simp only [hji20,hji31];rfl)|rfl|(simp only [List.length_drop,List.length_take];rfl)) ?_;(with_reducible refine (impl_opOk.calls (rd l0 x5_1) (wrap64 ((wrap64 ((rd l0 (ji20)) - 128)) + (wrap64 (128 * (rd l0 (ji31)))))) false _ A34.out).mono ?_);rintro e w46 ⟨rfl,hb⟩;refine ⟨_,rfl,?_⟩;have n0_ := Aside0.mk (Kd.R_below (by (with_reducible repeat (first|apply Kd.R_alloc|apply Kd.R_drewN|apply Kd.R_drew));exact (Kd.R_mono (Kd.R_far (p := ⟨gb564,1,none⟩) (Kd.R_mono HO_4.out (fun k_ hk => (⟨hk,hk⟩ : _ ∧ k_ ≠ gb564))) (fun _ hk => hk.2) (.int .i64 (wrap64 ((wrap64 ((rd l0 (ji20)) - 128)) + (wrap64 (128 * (rd l0 (ji31)))))))) (fun _ h_ => h_.1))) hb);have n1_ := Aside0.mk (blk_below (g := gb564) (o := .cells #[.int .i64 (rd l0 x5_1),.int .i64 (wrap64 ((wrap64 ((rd l0 (ji20)) - 128)) + (wrap64 (128 * (rd l0 (ji31))))))] 49 (0,0)) (by (with_reducible repeat (first|refine blk_drewN ?_ _|refine blk_drew ?_|refine blk_alloc ?_ _));refine blk_put (cs := #[.int .i64 (rd l0 x5_1),.int .i64 (rd l0 (ji20))]) ?_ 1 _ rfl;(with_reducible repeat (first|refine blk_drewN ?_ _|refine blk_drew ?_|refine blk_alloc ?_ _));exact BK564.out) hb);have n2_ := Aside0.mk (below_step (by repeat (first|(with_reducible first|exact HB.out|apply below_alloc|apply pw_below_drewN|apply below_drew1|refine below_set ?_ GE564.out)|exact HB.out)) hb);clear HO_4;clear BK564;clear HB;have HO_4 := n0_;have BK564 := n1_;have HB := n2_;clear n0_ n1_ n2_;(try clear hb);(try clear hb2);(try clear hk);(try clear hi)))
                     go_ret2
                     exact ⟨_,by first|rfl|(simp [errW_none,errW_some] <;> rfl)|(simp only [← hji20,← hji31];first|rfl|(simp [errW_none,errW_some] <;> rfl))|(simp [*,errW_none,errW_some] <;> rfl),by (with_reducible repeat (first|apply Kd.R_alloc|apply Kd.R_drewN|apply Kd.R_drew));exact Kd.R_mono HO_4.out (fun _ hk => trivial),by repeat (first|(with_reducible first|exact HB.out|apply below_alloc|apply pw_below_drewN|apply below_drew1|refine below_set ?_ GE564.out)|exact HB.out)⟩
                   ·rw [if_neg c33] at H
                    exact absurd H (by simp)
                  ·rw [if_neg c32] at H
                   exact absurd H (by simp)
              ·rw [if_neg c23] at H
               have c23b0 : decide (128 ≤ (rd l0 (ji20))) = false := decide_eq_false c23
               clear c23
               replace H := Option.bind_eq_some_iff.mp H
               obtain ⟨t573,A470,H⟩ := H
               replace H : (if t573 = true then (if x4_1.length < 8796093022208 then (impl_decoded.l0 kj10 l0 (x4_1 ++ [(⟨(rd l0 x5_1),rd l0 (ji20)⟩ : S49)]) (wrap64 (x5_1 + 2))) else (none)) else (some (x4_1,x5_1))) = some (r1,r2) := H
               have A47 := Aside0.mk A470
               clear A470
               by_cases c48 : t573 = true
               ·subst c48
                have H1 : (if x4_1.length < 8796093022208 then (impl_decoded.l0 kj10 l0 (x4_1 ++ [(⟨(rd l0 x5_1),rd l0 (ji20)⟩ : S49)]) (wrap64 (x5_1 + 2))) else (none)) = some (r1,r2) := by rw [if_pos rfl] at H;exact H
                clear H
                have H := H1
                clear H1
                by_cases c49 : x4_1.length < 8796093022208
                ·rw [if_pos c49] at H
                 have LMc49 := Aside0.mk c49
                 clear c49
                 obtain ⟨y574,hy574⟩ : ∃ y_ : List (S49),y_ = (x4_1 ++ [(⟨(rd l0 x5_1),rd l0 (ji20)⟩ : S49)]) := ⟨_,rfl⟩
                 replace H : (impl_decoded.l0 kj10 l0 y574 (wrap64 (x5_1 + 2))) = some (r1,r2) := by first|(rw [hy574];with_reducible exact H)|(have H2_ := (Option.bind_some _ _).symm.trans H;rw [hy574];with_reducible exact H2_)|(have H2_ := (Option.bind_some _ _).symm.trans H;with_reducible exact H2_)|with_reducible exact H|(rw [hy574];exact H)|exact H
                 have Ny574 := Aside0.mk hy574
                 clear hy574
                 have H' := Aside0.mk H
                 clear H
                 have p566 : 0 ≤ ((ji20) : Int) := of_decide_eq_true (by first|(with_reducible assumption)|assumption)
                 have q566 : (ji20) < (l0.length : Int) := of_decide_eq_true (by first|(with_reducible assumption)|assumption)
                 obtain ⟨ad566,e566,hx566_0⟩ := Kd.at_int HR0.out (ji20) p566 q566
                 obtain rfl : ad563 = ad566 := (by injection e566)
                 replace hx566_0 := (HB.out.cell (World.block_lt_of_cell? w _ hx566_0)).trans hx566_0
                 replace p566 := eq_true p566
                 replace q566 := eq_true q566
                 have hcz50_0 : wc.cell? ⟨gb564,0,none⟩ = some (.int .i64 (rd l0 x5_1)) := (blk_cell BK564.out 0).trans rfl
                 have hcz50_1 : wc.cell? ⟨gb564,1,none⟩ = some (.int .i64 0) := (blk_cell BK564.out 1).trans rfl
                 have hfz50_0 := blk_frozen BK564.out 0
                 have hfz50_1 := blk_frozen BK564.out 1
                 go_wp2_with (first|((with_reducible refine gate_callee (f := 53) rfl ?_);refine goesL_ (some 71) rfl rfl Try.func53 (by kernel_rfl) rfl #[.agg #[.int .i64 (rd l0 x5_1),.int .i64 (rd l0 (ji20))]] rfl (by (try simp only [List.map_toArray,List.map_cons,List.map_nil]);first|done|(simp only [hji20];rfl)|rfl|(simp only [List.length_drop,List.length_take];rfl)) ?_;(with_reducible refine (impl_opOk.calls (rd l0 x5_1) (rd l0 (ji20)) true _ A47.out).mono ?_);rintro e w51 ⟨rfl,hb⟩;refine ⟨_,rfl,?_⟩;have n0_ := Aside0.mk (Kd.R_below (by (with_reducible repeat (first|apply Kd.R_alloc|apply Kd.R_drewN|apply Kd.R_drew));exact (Kd.R_mono (Kd.R_far (p := ⟨gb564,1,none⟩) (Kd.R_mono HO_4.out (fun k_ hk => (⟨hk,hk⟩ : _ ∧ k_ ≠ gb564))) (fun _ hk => hk.2) (.int .i64 (rd l0 (ji20)))) (fun _ h_ => h_.1))) hb);have n1_ := Aside0.mk (blk_below (g := gb564) (o := .cells #[.int .i64 (rd l0 x5_1),.int .i64 (rd l0 (ji20))] 49 (0,0)) (by (with_reducible repeat (first|refine blk_drewN ?_ _|refine blk_drew ?_|refine blk_alloc ?_ _));refine blk_put (cs := #[.int .i64 (rd l0 x5_1),.int .i64 0]) ?_ 1 _ rfl;(with_reducible repeat (first|refine blk_drewN ?_ _|refine blk_drew ?_|refine blk_alloc ?_ _));exact BK564.out) hb);have n2_ := Aside0.mk (below_step (by repeat (first|(with_reducible first|exact HB.out|apply below_alloc|apply pw_below_drewN|apply below_drew1|refine below_set ?_ GE564.out)|exact HB.out)) hb);clear HO_4;clear BK564;clear HB;have HO_4 := n0_;have BK564 := n1_;have HB := n2_;clear n0_ n1_ n2_;(try clear hb);(try clear hb2);(try clear hk);(try clear hi);have hcz52_0 : w51.cell? ⟨gb564,0,none⟩ = some (.int .i64 (rd l0 x5_1)) := (blk_cell BK564.out 0).trans rfl;have hcz52_1 : w51.cell? ⟨gb564,1,none⟩ = some (.int .i64 (rd l0 (ji20))) := (blk_cell BK564.out 1).trans rfl;have hfz52_0 := blk_frozen BK564.out 0;have hfz52_1 := blk_frozen BK564.out 1)|((with_reducible refine gate_builtin (b := .append) (xs := #[.tmp 73,.tmp 75]) rfl ?_);(try (refine gate_guard (by rfl) ?_;dsimp only));at_builtin;refine Kd.R_append k49 (w0 := w) w.heap.size rfl (.tmp 73) (.tmp 75) 25 49 (.agg #[(.int .i64 0),(.int .i64 0)]) 16 rfl Try.underlying25 info49 rfl (by decide) (by omega) u4 x4_1 (⟨(rd l0 x5_1),rd l0 (ji20)⟩ : S49) [.int .i64 (rd l0 x5_1),.int .i64 (rd l0 (ji20))] (fun k_ => k_ ≠ gb564) (fun _ => False) rfl rfl ?aP (fun _ hk => hk.elim) ?aF ?aO ?aB ?aS ?aL ?_;(case aP => exact k49_mkM _ _ _ (⟨(rd l0 x5_1),rd l0 (ji20)⟩ : S49));(case aB => exact (by repeat (first|(with_reducible first|exact HB.out|apply below_alloc|apply pw_below_drewN|apply below_drew1|refine below_set ?_ GE564.out)|exact HB.out)));(case aF => exact (fun k_ hk => Kd.freshB (g := gb564) (o := .cells #[.int .i64 (rd l0 x5_1),.int .i64 (rd l0 (ji20))] 49 (0,0)) (by (with_reducible repeat (first|refine blk_drewN ?_ _|refine blk_drew ?_|refine blk_alloc ?_ _));exact BK564.out) k_ hk));(case aO => exact (by (with_reducible repeat (first|apply Kd.R_alloc|apply Kd.R_drewN|apply Kd.R_drew));exact HO_4.out));(case aS => exact (below_size (by repeat (first|(with_reducible first|exact HB.out|apply below_alloc|apply pw_below_drewN|apply below_drew1|refine below_set ?_ GE564.out)|exact HB.out))));(case aL => have := LMc49.out;omega);intro v575 w53 ho hb hg hat;rw [← Ny574.out] at ho;have n0_ := Aside0.mk (blk_grown (g := gb564) (o := .cells #[.int .i64 (rd l0 x5_1),.int .i64 (rd l0 (ji20))] 49 (0,0)) (by (with_reducible repeat (first|refine blk_drewN ?_ _|refine blk_drew ?_|refine blk_alloc ?_ _));exact BK564.out) hg (Kd.R_away HO_4.out (fun _ hk => hk)));have n1_ := Aside0.mk (hb);have n2_ := Aside0.mk (ho);clear BK564;clear HB;clear HO_4;have BK564 := n0_;have HB := n1_;have HO576 := n2_;clear n0_ n1_ n2_;clear ho hb hg hat))
                 go_roundg kj10
                 case measure => have := HK1.out;have := HJ3.out;have := HJ10.out;omega
                 case rel => exact ⟨(y574),(wrap64 (x5_1 + 2)),(by first|rfl|(simp;done)|(simp [*];done)),H',⟨by have := HK1.out;have := HJ3.out;have := HJ10.out;omega⟩,⟨by (with_reducible repeat (first|apply Kd.R_alloc|apply Kd.R_drewN|apply Kd.R_drew));exact Kd.R_mono HO576.out (fun _ hk => trivial)⟩,⟨by repeat (first|(with_reducible first|exact HB.out|apply below_alloc|apply pw_below_drewN|apply below_drew1|refine below_set ?_ GE564.out)|exact HB.out)⟩⟩
                ·rw [if_neg c49] at H
                 exact absurd H (by simp)
               ·replace c48 := Bool.eq_false_iff.mpr c48
                subst c48
                have H1 : (some (x4_1,x5_1)) = some (r1,r2) := by rw [if_neg (show ¬ (false = true) by decide)] at H;exact H
                clear H
                have H := H1
                clear H1
                simp only [Option.some.injEq,Prod.mk.injEq] at H
                obtain ⟨rfl,rfl⟩ := H
                have p566 : 0 ≤ ((ji20) : Int) := of_decide_eq_true (by first|(with_reducible assumption)|assumption)
                have q566 : (ji20) < (l0.length : Int) := of_decide_eq_true (by first|(with_reducible assumption)|assumption)
                obtain ⟨ad566,e566,hx566_0⟩ := Kd.at_int HR0.out (ji20) p566 q566
                obtain rfl : ad563 = ad566 := (by injection e566)
                replace hx566_0 := (HB.out.cell (World.block_lt_of_cell? w _ hx566_0)).trans hx566_0
                replace p566 := eq_true p566
                replace q566 := eq_true q566
                have hcz54_0 : wc.cell? ⟨gb564,0,none⟩ = some (.int .i64 (rd l0 x5_1)) := (blk_cell BK564.out 0).trans rfl
                have hcz54_1 : wc.cell? ⟨gb564,1,none⟩ = some (.int .i64 0) := (blk_cell BK564.out 1).trans rfl
                have hfz54_0 := blk_frozen BK564.out 0
                have hfz54_1 := blk_frozen BK564.out 1
                go_wp2_with (first|((with_reducible refine gate_callee (f := 53) rfl ?_);refine goesL_ (some 71) rfl rfl Try.func53 (by kernel_rfl) rfl #[.agg #[.int .i64 (rd l0 x5_1),.int .i64 (rd l0 (ji20))]] rfl (by (try simp only [List.map_toArray,List.map_cons,List.map_nil]);first|done|(simp only [hji20];rfl)|rfl|(simp only [List.length_drop,List.length_take];rfl)) ?_;(with_reducible refine (impl_opOk.calls (rd l0 x5_1) (rd l0 (ji20)) false _ A47.out).mono ?_);rintro e w55 ⟨rfl,hb⟩;refine ⟨_,rfl,?_⟩;have n0_ := Aside0.mk (Kd.R_below (by (with_reducible repeat (first|apply Kd.R_alloc|apply Kd.R_drewN|apply Kd.R_drew));exact (Kd.R_mono (Kd.R_far (p := ⟨gb564,1,none⟩) (Kd.R_mono HO_4.out (fun k_ hk => (⟨hk,hk⟩ : _ ∧ k_ ≠ gb564))) (fun _ hk => hk.2) (.int .i64 (rd l0 (ji20)))) (fun _ h_ => h_.1))) hb);have n1_ := Aside0.mk (blk_below (g := gb564) (o := .cells #[.int .i64 (rd l0 x5_1),.int .i64 (rd l0 (ji20))] 49 (0,0)) (by (with_reducible repeat (first|refine blk_drewN ?_ _|refine blk_drew ?_|refine blk_alloc ?_ _));refine blk_put (cs := #[.int .i64 (rd l0 x5_1),.int .i64 0]) ?_ 1 _ rfl;(with_reducible repeat (first|refine blk_drewN ?_ _|refine blk_drew ?_|refine blk_alloc ?_ _));exact BK564.out) hb);have n2_ := Aside0.mk (below_step (by repeat (first|(with_reducible first|exact HB.out|apply below_alloc|apply pw_below_drewN|apply below_drew1|refine below_set ?_ GE564.out)|exact HB.out)) hb);clear HO_4;clear BK564;clear HB;have HO_4 := n0_;have BK564 := n1_;have HB := n2_;clear n0_ n1_ n2_;(try clear hb);(try clear hb2);(try clear hk);(try clear hi)))
                go_ret2
                exact ⟨_,by first|rfl|(simp [errW_none,errW_some] <;> rfl)|(simp only [← hji20];first|rfl|(simp [errW_none,errW_some] <;> rfl))|(simp [*,errW_none,errW_some] <;> rfl),by (with_reducible repeat (first|apply Kd.R_alloc|apply Kd.R_drewN|apply Kd.R_drew));exact Kd.R_mono HO_4.out (fun _ hk => trivial),by repeat (first|(with_reducible first|exact HB.out|apply below_alloc|apply pw_below_drewN|apply below_drew1|refine below_set ?_ GE564.out)|exact HB.out)⟩
             ·rw [if_neg c22] at H
              exact absurd H (by simp)
            ·rw [if_neg c21] at H
             exact absurd H (by simp)
          ·replace c18 := Bool.eq_false_iff.mpr c18
           subst c18
           have H1 : ((impl_opOk.f (rd l0 x5_1) 0).bind fun t577 => (if t577 = true then (if x4_1.length < 8796093022208 then (impl_decoded.l0 kj10 l0 (x4_1 ++ [(⟨(rd l0 x5_1),0⟩ : S49)]) (wrap64 (x5_1 + 1))) else (none)) else (some (x4_1,x5_1)))) = some (r1,r2) := by rw [if_neg (show ¬ (false = true) by decide)] at H;exact H
           clear H
           have H := H1
           clear H1
           replace H := Option.bind_eq_some_iff.mp H
           obtain ⟨t577,A560,H⟩ := H
           replace H : (if t577 = true then (if x4_1.length < 8796093022208 then (impl_decoded.l0 kj10 l0 (x4_1 ++ [(⟨(rd l0 x5_1),0⟩ : S49)]) (wrap64 (x5_1 + 1))) else (none)) else (some (x4_1,x5_1))) = some (r1,r2) := H
           have A56 := Aside0.mk A560
           clear A560
           by_cases c57 : t577 = true
           ·subst c57
            have H1 : (if x4_1.length < 8796093022208 then (impl_decoded.l0 kj10 l0 (x4_1 ++ [(⟨(rd l0 x5_1),0⟩ : S49)]) (wrap64 (x5_1 + 1))) else (none)) = some (r1,r2) := by rw [if_pos rfl] at H;exact H
            clear H
            have H := H1
            clear H1
            by_cases c58 : x4_1.length < 8796093022208
            ·rw [if_pos c58] at H
             have LMc58 := Aside0.mk c58
             clear c58
             obtain ⟨y578,hy578⟩ : ∃ y_ : List (S49),y_ = (x4_1 ++ [(⟨(rd l0 x5_1),0⟩ : S49)]) := ⟨_,rfl⟩
             replace H : (impl_decoded.l0 kj10 l0 y578 (wrap64 (x5_1 + 1))) = some (r1,r2) := by first|(rw [hy578];with_reducible exact H)|(have H2_ := (Option.bind_some _ _).symm.trans H;rw [hy578];with_reducible exact H2_)|(have H2_ := (Option.bind_some _ _).symm.trans H;with_reducible exact H2_)|with_reducible exact H|(rw [hy578];exact H)|exact H
             have Ny578 := Aside0.mk hy578
             clear hy578
             have H' := Aside0.mk H
             clear H
             have hcz59_0 : wc.cell? ⟨gb564,0,none⟩ = some (.int .i64 (rd l0 x5_1)) := (blk_cell BK564.out 0).trans rfl
             have hcz59_1 : wc.cell? ⟨gb564,1,none⟩ = some (.int .i64 0) := (blk_cell BK564.out 1).trans rfl
             have hfz59_0 := blk_frozen BK564.out 0
             have hfz59_1 := blk_frozen BK564.out 1
             go_wp2_with (first|((with_reducible refine gate_callee (f := 53) rfl ?_);refine goesL_ (some 71) rfl rfl Try.func53 (by kernel_rfl) rfl #[.agg #[.int .i64 (rd l0 x5_1),.int .i64 0]] rfl (by (try simp only [List.map_toArray,List.map_cons,List.map_nil]);first|done|rfl|(simp only [List.length_drop,List.length_take];rfl)) ?_;(with_reducible refine (impl_opOk.calls (rd l0 x5_1) 0 true _ A56.out).mono ?_);rintro e w60 ⟨rfl,hb⟩;refine ⟨_,rfl,?_⟩;have n0_ := Aside0.mk (Kd.R_below (by (with_reducible repeat (first|apply Kd.R_alloc|apply Kd.R_drewN|apply Kd.R_drew));exact HO_4.out) hb);have n1_ := Aside0.mk (blk_below (g := gb564) (o := .cells #[.int .i64 (rd l0 x5_1),.int .i64 0] 49 (0,0)) (by (with_reducible repeat (first|refine blk_drewN ?_ _|refine blk_drew ?_|refine blk_alloc ?_ _));exact BK564.out) hb);have n2_ := Aside0.mk (below_step (by repeat (first|(with_reducible first|exact HB.out|apply below_alloc|apply pw_below_drewN|apply below_drew1|refine below_set ?_ GE564.out)|exact HB.out)) hb);clear HO_4;clear BK564;clear HB;have HO_4 := n0_;have BK564 := n1_;have HB := n2_;clear n0_ n1_ n2_;(try clear hb);(try clear hb2);(try clear hk);(try clear hi);have hcz61_0 : w60.cell? ⟨gb564,0,none⟩ = some (.int .i64 (rd l0 x5_1)) := (blk_cell BK564.out 0).trans rfl;have hcz61_1 : w60.cell? ⟨gb564,1,none⟩ = some (.int .i64 0) := (blk_cell BK564.out 1).trans rfl;have hfz61_0 := blk_frozen BK564.out 0;have hfz61_1 := blk_frozen BK564.out 1)|((with_reducible refine gate_builtin (b := .append) (xs := #[.tmp 73,.tmp 75]) rfl ?_);(try (refine gate_guard (by rfl) ?_;dsimp only));at_builtin;refine Kd.R_append k49 (w0 := w) w.heap.size rfl (.tmp 73) (.tmp 75) 25 49 (.agg #[(.int .i64 0),(.int .i64 0)]) 16 rfl Try.underlying25 info49 rfl (by decide) (by omega) u4 x4_1 (⟨(rd l0 x5_1),0⟩ : S49) [.int .i64 (rd l0 x5_1),.int .i64 0] (fun k_ => k_ ≠ gb564) (fun _ => False) rfl rfl ?aP (fun _ hk => hk.elim) ?aF ?aO ?aB ?aS ?aL ?_;(case aP => exact k49_mkM _ _ _ (⟨(rd l0 x5_1),0⟩ : S49));(case aB => exact (by repeat (first|(with_reducible first|exact HB.out|apply below_alloc|apply pw_below_drewN|apply below_drew1|refine below_set ?_ GE564.out)|exact HB.out)));(case aF => exact (fun k_ hk => Kd.freshB (g := gb564) (o := .cells #[.int .i64 (rd l0 x5_1),.int .i64 0] 49 (0,0)) (by (with_reducible repeat (first|refine blk_drewN ?_ _|refine blk_drew ?_|refine blk_alloc ?_ _));exact BK564.out) k_ hk));(case aO => exact (by (with_reducible repeat (first|apply Kd.R_alloc|apply Kd.R_drewN|apply Kd.R_drew));exact HO_4.out));(case aS => exact (below_size (by repeat (first|(with_reducible first|exact HB.out|apply below_alloc|apply pw_below_drewN|apply below_drew1|refine below_set ?_ GE564.out)|exact HB.out))));(case aL => have := LMc58.out;omega);intro v579 w62 ho hb hg hat;rw [← Ny578.out] at ho;have n0_ := Aside0.mk (blk_grown (g := gb564) (o := .cells #[.int .i64 (rd l0 x5_1),.int .i64 0] 49 (0,0)) (by (with_reducible repeat (first|refine blk_drewN ?_ _|refine blk_drew ?_|refine blk_alloc ?_ _));exact BK564.out) hg (Kd.R_away HO_4.out (fun _ hk => hk)));have n1_ := Aside0.mk (hb);have n2_ := Aside0.mk (ho);clear BK564;clear HB;clear HO_4;have BK564 := n0_;have HB := n1_;have HO580 := n2_;clear n0_ n1_ n2_;clear ho hb hg hat))
             go_roundg kj10
             case measure => have := HK1.out;have := HJ3.out;have := HJ10.out;omega
             case rel => exact ⟨(y578),(wrap64 (x5_1 + 1)),(by first|rfl|(simp;done)|(simp [*];done)),H',⟨by have := HK1.out;have := HJ3.out;have := HJ10.out;omega⟩,⟨by (with_reducible repeat (first|apply Kd.R_alloc|apply Kd.R_drewN|apply Kd.R_drew));exact Kd.R_mono HO580.out (fun _ hk => trivial)⟩,⟨by repeat (first|(with_reducible first|exact HB.out|apply below_alloc|apply pw_below_drewN|apply below_drew1|refine below_set ?_ GE564.out)|exact HB.out)⟩⟩
            ·rw [if_neg c58] at H
             exact absurd H (by simp)
           ·replace c57 := Bool.eq_false_iff.mpr c57
            subst c57
            have H1 : (some (x4_1,x5_1)) = some (r1,r2) := by rw [if_neg (show ¬ (false = true) by decide)] at H;exact H
            clear H
            have H := H1
            clear H1
            simp only [Option.some.injEq,Prod.mk.injEq] at H
            obtain ⟨rfl,rfl⟩ := H
            have hcz63_0 : wc.cell? ⟨gb564,0,none⟩ = some (.int .i64 (rd l0 x5_1)) := (blk_cell BK564.out 0).trans rfl
            have hcz63_1 : wc.cell? ⟨gb564,1,none⟩ = some (.int .i64 0) := (blk_cell BK564.out 1).trans rfl
            have hfz63_0 := blk_frozen BK564.out 0
            have hfz63_1 := blk_frozen BK564.out 1
            go_wp2_with (first|((with_reducible refine gate_callee (f := 53) rfl ?_);refine goesL_ (some 71) rfl rfl Try.func53 (by kernel_rfl) rfl #[.agg #[.int .i64 (rd l0 x5_1),.int .i64 0]] rfl (by (try simp only [List.map_toArray,List.map_cons,List.map_nil]);first|done|rfl|(simp only [List.length_drop,List.length_take];rfl)) ?_;(with_reducible refine (impl_opOk.calls (rd l0 x5_1) 0 false _ A56.out).mono ?_);rintro e w64 ⟨rfl,hb⟩;refine ⟨_,rfl,?_⟩;have n0_ := Aside0.mk (Kd.R_below (by (with_reducible repeat (first|apply Kd.R_alloc|apply Kd.R_drewN|apply Kd.R_drew));exact HO_4.out) hb);have n1_ := Aside0.mk (blk_below (g := gb564) (o := .cells #[.int .i64 (rd l0 x5_1),.int .i64 0] 49 (0,0)) (by (with_reducible repeat (first|refine blk_drewN ?_ _|refine blk_drew ?_|refine blk_alloc ?_ _));exact BK564.out) hb);have n2_ := Aside0.mk (below_step (by repeat (first|(with_reducible first|exact HB.out|apply below_alloc|apply pw_below_drewN|apply below_drew1|refine below_set ?_ GE564.out)|exact HB.out)) hb);clear HO_4;clear BK564;clear HB;have HO_4 := n0_;have BK564 := n1_;have HB := n2_;clear n0_ n1_ n2_;(try clear hb);(try clear hb2);(try clear hk);(try clear hi)))
            go_ret2
            exact ⟨_,by first|rfl|(simp [errW_none,errW_some] <;> rfl)|(simp [*,errW_none,errW_some] <;> rfl),by (with_reducible repeat (first|apply Kd.R_alloc|apply Kd.R_drewN|apply Kd.R_drew));exact Kd.R_mono HO_4.out (fun _ hk => trivial),by repeat (first|(with_reducible first|exact HB.out|apply below_alloc|apply pw_below_drewN|apply below_drew1|refine below_set ?_ GE564.out)|exact HB.out)⟩
       ·rw [if_neg c10] at H
        exact absurd H (by simp)
      ·rw [if_neg c9] at H
       exact absurd H (by simp)
     ·replace c8 := Bool.eq_false_iff.mpr c8
      subst c8
      have H1 : (some (x4_1,x5_1)) = some (r1,r2) := by rw [if_neg (show ¬ (false = true) by decide)] at H;exact H
      clear H
      have H := H1
      clear H1
      simp only [Option.some.injEq,Prod.mk.injEq] at H
      obtain ⟨rfl,rfl⟩ := H
      go_wp2
      go_ret2
      exact ⟨_,by first|rfl|(simp [errW_none,errW_some] <;> rfl)|(simp [*,errW_none,errW_some] <;> rfl),by (with_reducible repeat (first|apply Kd.R_alloc|apply Kd.R_drewN|apply Kd.R_drew));exact HO_4.out,by repeat (first|(with_reducible first|exact HB.out|apply below_alloc|apply pw_below_drewN|apply below_drew1)|exact HB.out)⟩

end Go.Proofs.Ytonppkaobnfldaa.Q
