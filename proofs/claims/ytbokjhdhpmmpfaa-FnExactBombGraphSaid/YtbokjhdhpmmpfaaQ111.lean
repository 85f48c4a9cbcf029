-- Written by wip/tools/qprint.py (a program of this claim's author) by means of the kit's printer.
import Derived.Test.YtbokjhdhpmmpfaaQ0
import Derived.Test.YtbokjhdhpmmpfaaQ68
namespace Go.Proofs.Ytbokjhdhpmmpfaa.Q
open Go.RowKit Go.Proofs.YtbokjhdhpmmpfaaW.PrintWords Go.Proofs.YtbokjhdhpmmpfaaW.PrintLast Go.Proofs.YtbokjhdhpmmpfaaW.PrintMore
attribute [local go_sem] max2_int min2_int max_two min_two max_three min_three max_four min_four   -- for this text's walks alone
set_option linter.unusedVariables false
set_option linter.unusedSimpArgs false

/-! ### laws_szNode: function 111 -/
def laws_szNode.f (a0_0 : Int) (a0_1 : Int) (l0_2 : List Int) (a1 : Int) : Option (Int) := (laws_szIntS.f l0_2 a1).bind fun t965 => (if t965 < 0 then (some (-1)) else (some t965))
set_option maxHeartbeats 8000000 in
set_option maxRecDepth 100000 in
theorem laws_szNode.calls (a0_0 : Int) (a0_1 : Int) (A0_2 : Option Addr) (c0_2 : Nat) (l0_2 : List Int) (a1 : Int) (r : Int) (w : World) (hr0_2 : Kd.C (Kd.int .i64) w A0_2 l0_2.length l0_2) (hc0_2 : l0_2.length ≤ c0_2) (h : laws_szNode.f a0_0 a0_1 l0_2 a1 = some r) :
  Calls Try.prog 111 #[.agg #[.int .i64 a0_0,.int .i64 a0_1,.slice A0_2 l0_2.length c0_2],.int .i64 a1] w fun e w' => e = .returned (.int .i64 r) ∧ Below w.heap.size w w' := by
 have hu128 := Try.underlying128
 have HR0_2 := Aside0.mk hr0_2
 have HC0_2 := Aside0.mk hc0_2
 clear hr0_2 hc0_2
 have HB := Aside0.mk (Below.refl w.heap.size w)
 have H : ((laws_szIntS.f l0_2 a1).bind fun t965 => (if t965 < 0 then (some (-1)) else (some t965))) = some r := h
 clear h
 replace H := Option.bind_eq_some_iff.mp H
 obtain ⟨t965,A30,H⟩ := H
 replace H : (if t965 < 0 then (some (-1)) else (some t965)) = some r := H
 have A3 := Aside0.mk A30
 clear A30
 by_cases c4 : t965 < 0
 ·rw [if_pos c4] at H
  have c4b0 : decide (t965 < 0) = true := decide_eq_true c4
  clear c4
  obtain rfl := Option.some.inj H
  go_enter Try.func111,Try.ntmps111
  go_wp2_with (first|((with_reducible refine gate_dst (N := 2) rfl ?_);refine box_event ?hg (N := 2) ?hd (cs := #[.int .i64 a0_0,.int .i64 a0_1,.slice A0_2 l0_2.length c0_2]) (t := 128) ?hr ?_;(case hd => rfl);(case hg => rfl);(case hr => first|(go_simp;done)|(go_simp;rfl));intro gb964 hg w5 hbox hb;have n0_ := Aside0.mk (below_step (by repeat (first|(with_reducible first|exact HB.out|apply below_alloc|apply pw_below_drewN|apply below_drew1)|exact HB.out)) hb);have n1_ := Aside0.mk (hbox);have n2_ := Aside0.mk ((by rw [hg];exact (below_size (by repeat (first|(with_reducible first|exact HB.out|apply below_alloc|apply pw_below_drewN|apply below_drew1)|exact HB.out))) : w.heap.size ≤ gb964));have n3_ := Aside0.mk ((by rw [hg];exact (below_size (by repeat (first|(with_reducible first|exact HB.out|apply below_alloc|apply pw_below_drewN|apply below_drew1)|exact HB.out))) : w.heap.size ≤ gb964));clear HB;have HB := n0_;have BK964 := n1_;have GW964 := n2_;have GE964 := n3_;clear n0_ n1_ n2_ n3_;clear hb hbox hg;have hcz6_0 : w5.cell? ⟨gb964,0,none⟩ = some (.int .i64 a0_0) := (blk_cell BK964.out 0).trans rfl;have hcz6_1 : w5.cell? ⟨gb964,1,none⟩ = some (.int .i64 a0_1) := (blk_cell BK964.out 1).trans rfl;have hcz6_2 : w5.cell? ⟨gb964,2,none⟩ = some (.slice A0_2 l0_2.length c0_2) := (blk_cell BK964.out 2).trans rfl;have hfz6_0 := blk_frozen BK964.out 0;have hfz6_1 := blk_frozen BK964.out 1;have hfz6_2 := blk_frozen BK964.out 2)|((with_reducible refine gate_callee (f := 68) rfl ?_);refine goesL_ (some 8) rfl rfl Try.func68 (by kernel_rfl) rfl #[.slice A0_2 l0_2.length c0_2,.int .i64 a1] rfl (by (try simp only [List.map_toArray,List.map_cons,List.map_nil]);first|done|rfl|(simp only [List.length_drop,List.length_take];rfl)) ?_;(with_reducible refine (laws_szIntS.calls _ _ l0_2 a1 t965 _ ?side1 ?side2 A3.out).mono ?_);(case side1 => repeat (first|exact (Kd.C_below HR0_2.out HB.out)|(with_reducible refine Kd.C_alloc ?_ _)|(with_reducible refine Kd.C_drewN ?_ _)|(with_reducible refine Kd.C_drew ?_)));(case side2 => exact HC0_2.out);rintro e w' ⟨rfl,⟨nd,rfl⟩⟩;refine ⟨_,rfl,?_⟩))
  go_ret
  exact ⟨by first|rfl|(simp [errW_none,errW_some] <;> rfl)|(simp [*,errW_none,errW_some] <;> rfl),by repeat (first|(with_reducible first|exact HB.out|apply below_alloc|apply pw_below_drewN|apply below_drew1|refine below_set ?_ GE964.out)|exact HB.out)⟩
 ·rw [if_neg c4] at H
  have c4b0 : decide (t965 < 0) = false := decide_eq_false c4
  clear c4
  obtain rfl := Option.some.inj H
  go_enter Try.func111,Try.ntmps111
  go_wp2_with (first|((with_reducible refine gate_dst (N := 2) rfl ?_);refine box_event ?hg (N := 2) ?hd (cs := #[.int .i64 a0_0,.int .i64 a0_1,.slice A0_2 l0_2.length c0_2]) (t := 128) ?hr ?_;(case hd => rfl);(case hg => rfl);(case hr => first|(go_simp;done)|(go_simp;rfl));intro gb964 hg w7 hbox hb;have n0_ := Aside0.mk (below_step (by repeat (first|(with_reducible first|exact HB.out|apply below_alloc|apply pw_below_drewN|apply below_drew1)|exact HB.out)) hb);have n1_ := Aside0.mk (hbox);have n2_ := Aside0.mk ((by rw [hg];exact (below_size (by repeat (first|(with_reducible first|exact HB.out|apply below_alloc|apply pw_below_drewN|apply below_drew1)|exact HB.out))) : w.heap.size ≤ gb964));have n3_ := Aside0.mk ((by rw [hg];exact (below_size (by repeat (first|(with_reducible first|exact HB.out|apply below_alloc|apply pw_below_drewN|apply below_drew1)|exact HB.out))) : w.heap.size ≤ gb964));clear HB;have HB := n0_;have BK964 := n1_;have GW964 := n2_;have GE964 := n3_;clear n0_ n1_ n2_ n3_;clear hb hbox hg;have hcz8_0 : w7.cell? ⟨gb964,0,none⟩ = some (.int .i64 a0_0) := (blk_cell BK964.out 0).trans rfl;have hcz8_1 : w7.cell? ⟨gb964,1,none⟩ = some (.int .i64 a0_1) := (blk_cell BK964.out 1).trans rfl;have hcz8_2 : w7.cell? ⟨gb964,2,none⟩ = some (.slice A0_2 l0_2.length c0_2) := (blk_cell BK964.out 2).trans rfl;have hfz8_0 := blk_frozen BK964.out 0;have hfz8_1 := blk_frozen BK964.out 1;have hfz8_2 := blk_frozen BK964.out 2)|((with_reducible refine gate_callee (f := 68) rfl ?_);refine goesL_ (some 8) rfl rfl Try.func68 (by kernel_rfl) rfl #[.slice A0_2 l0_2.length c0_2,.int .i64 a1] rfl (by (try simp only [List.map_toArray,List.map_cons,List.map_nil]);first|done|rfl|(simp only [List.length_drop,List.length_take];rfl)) ?_;(with_reducible refine (laws_szIntS.calls _ _ l0_2 a1 t965 _ ?side1 ?side2 A3.out).mono ?_);(case side1 => repeat (first|exact (Kd.C_below HR0_2.out HB.out)|(with_reducible refine Kd.C_alloc ?_ _)|(with_reducible refine Kd.C_drewN ?_ _)|(with_reducible refine Kd.C_drew ?_)));(case side2 => exact HC0_2.out);rintro e w' ⟨rfl,⟨nd,rfl⟩⟩;refine ⟨_,rfl,?_⟩))
  go_ret
  exact ⟨by first|rfl|(simp [errW_none,errW_some] <;> rfl)|(simp [*,errW_none,errW_some] <;> rfl),by repeat (first|(with_reducible first|exact HB.out|apply below_alloc|apply pw_below_drewN|apply below_drew1|refine below_set ?_ GE964.out)|exact HB.out)⟩

/-! ### laws_szNodeS: function 78 -/
def laws_szNodeS.l0 : Nat → List (S128) → Int → Int → Option (Int)
 | 0,_,_,_ => none
 | k + 1,x0,x1,x5 => if x5 < (x0.length : Int) then (if 0 ≤ x5 then ((laws_szNode.f ((rd_T128 x0 x5).f0) ((rd_T128 x0 x5).f1) ((rd_T128 x0 x5).f2) x1).bind fun t967 => (if t967 < 0 then (some (-1)) else (laws_szNodeS.l0 k x0 t967 (wrap64 (x5 + 1))))) else (none)) else (some x1)
def laws_szNodeS.f (k : Nat) (l0 : List (S128)) (a1 : Int) : Option (Int) := if (wrap64 (a1 - (l0.length : Int))) < 0 then (some (-1)) else (laws_szNodeS.l0 k l0 (wrap64 (a1 - (l0.length : Int))) 0)
set_option maxRecDepth 100000 in
theorem laws_szNodeS.mono_l : ∀ k,(∀ y0 y1 y2,LeO (laws_szNodeS.l0 k y0 y1 y2) (laws_szNodeS.l0 (k + 1) y0 y1 y2))
 | 0 => fun _ _ _ r h => (by cases h)
 | k + 1 => by
  have ih0 := laws_szNodeS.mono_l k
  ·intro y0 y1 y2
   unfold laws_szNodeS.l0
   repeat' first
   | (with_reducible exact ih0 _ _ _)
   | (with_reducible exact LeO.refl _)
   | (with_reducible exact LeO.none _)
   | (with_reducible refine LeO.ite ?_ ?_)
   | (with_reducible refine LeO.bind ?_ (fun _ => ?_))
   | exact ih0 _ _ _
   | exact LeO.none _
   | refine LeO.ite ?_ ?_
   | refine LeO.bind ?_ (fun _ => ?_)
set_option maxRecDepth 100000 in
theorem laws_szNodeS.mono : ∀ a0 a1 k,LeO (laws_szNodeS.f k a0 a1) (laws_szNodeS.f (k + 1) a0 a1) := by
 intro a0 a1 k
 have ih0 := laws_szNodeS.mono_l k
 unfold laws_szNodeS.f
 repeat' first
   | (with_reducible exact ih0 _ _ _)
   | (with_reducible exact LeO.refl _)
   | (with_reducible exact LeO.none _)
   | (with_reducible refine LeO.ite ?_ ?_)
   | (with_reducible refine LeO.bind ?_ (fun _ => ?_))
   | exact ih0 _ _ _
   | exact LeO.none _
   | refine LeO.ite ?_ ?_
   | refine LeO.bind ?_ (fun _ => ?_)
set_option maxHeartbeats 8000000 in
set_option maxRecDepth 100000 in
theorem laws_szNodeS.calls (k : Nat) (A0 : Option Addr) (c0 : Nat) (l0 : List (S128)) (a1 : Int) (r : Int) (w : World) (hr0 : Kd.C k128 w A0 l0.length l0) (hc0 : l0.length ≤ c0) (h : laws_szNodeS.f k l0 a1 = some r) :
  Calls Try.prog 78 #[.slice A0 l0.length c0,.int .i64 a1] w fun e w' => e = .returned (.int .i64 r) ∧ Below w.heap.size w w' := by
 have hu128 := Try.underlying128
 have HR0 := Aside0.mk hr0
 have HC0 := Aside0.mk hc0
 clear hr0 hc0
 have HB := Aside0.mk (Below.refl w.heap.size w)
 have H : (if (wrap64 (a1 - (l0.length : Int))) < 0 then (some (-1)) else (laws_szNodeS.l0 k l0 (wrap64 (a1 - (l0.length : Int))) 0)) = some r := h
 clear h
 by_cases c3 : (wrap64 (a1 - (l0.length : Int))) < 0
 ·rw [if_pos c3] at H
  have c3b0 : decide ((wrap64 (a1 - (l0.length : Int))) < 0) = true := decide_eq_true c3
  clear c3
  obtain rfl := Option.some.inj H
  go_enter Try.func78,Try.ntmps78
  go_wp2
  go_ret
  exact ⟨by first|rfl|(simp [errW_none,errW_some] <;> rfl)|(simp [*,errW_none,errW_some] <;> rfl),by repeat (first|(with_reducible first|exact HB.out|apply below_alloc|apply pw_below_drewN|apply below_drew1)|exact HB.out)⟩
 ·rw [if_neg c3] at H
  have c3b0 : decide ((wrap64 (a1 - (l0.length : Int))) < 0) = false := decide_eq_false c3
  clear c3
  have H' := Aside0.mk H
  clear H
  go_enter Try.func78,Try.ntmps78
  go_wp2
  go_loopg [1,5] k (fun kq v1 v5 w' => ∃ (x1_1 : Int) (x5_1 : Int),v1 = .int .i64 x1_1 ∧ v5 = .int .i64 x5_1 ∧ Aside0 (laws_szNodeS.l0 kq l0 x1_1 x5_1 = some r) ∧ Aside0 (kq ≤ k) ∧ Aside0 (Below w.heap.size w w'))
  case atStart => exact ⟨(wrap64 (a1 - (l0.length : Int))),(0),(by first|rfl|(simp;done)|(simp [*];done)),(by first|rfl|(simp;done)|(simp [*];done)),H',⟨Nat.le_refl _⟩,⟨by repeat (first|(with_reducible first|exact HB.out|apply below_alloc|apply pw_below_drewN|apply below_drew1)|exact HB.out)⟩⟩
  case round =>
   clear H'
   try clear p2
   try clear c3
   try clear c3b0
   obtain ⟨x1_1,x5_1,rfl,rfl,HA,HK1,HB⟩ := hrel
   cases gk with
   | zero => exact absurd HA.out (fun h_ => (by cases h_))
   | succ k1 =>
    have H := HA.out
    clear HA
    simp only [laws_szNodeS.l0] at H
    by_cases c4 : x5_1 < (l0.length : Int)
    ·rw [if_pos c4] at H
     have c4b0 : decide (x5_1 < (l0.length : Int)) = true := decide_eq_true c4
     clear c4
     by_cases c5 : 0 ≤ x5_1
     ·rw [if_pos c5] at H
      have c5b0 : decide (0 ≤ x5_1) = true := decide_eq_true c5
      clear c5
      replace H := Option.bind_eq_some_iff.mp H
      obtain ⟨t967,A60,H⟩ := H
      replace H : (if t967 < 0 then (some (-1)) else (laws_szNodeS.l0 k1 l0 t967 (wrap64 (x5_1 + 1)))) = some r := H
      have A6 := Aside0.mk A60
      clear A60
      by_cases c7 : t967 < 0
      ·rw [if_pos c7] at H
       have c7b0 : decide (t967 < 0) = true := decide_eq_true c7
       clear c7
       obtain rfl := Option.some.inj H
       have p966 : 0 ≤ (x5_1 : Int) := of_decide_eq_true (by first|(with_reducible assumption)|assumption)
       have q966 : x5_1 < (l0.length : Int) := of_decide_eq_true (by first|(with_reducible assumption)|assumption)
       obtain ⟨ad966,A966_2,c966_2,e966,hx966_0,hx966_1,hx966_2,hl966_2,hi966_2⟩ := at_T128 HR0.out x5_1 p966 q966
       cases e966
       replace hx966_0 := (HB.out.cell (World.block_lt_of_cell? w _ hx966_0)).trans hx966_0
       replace hx966_1 := (HB.out.cell (World.block_lt_of_cell? w _ hx966_1)).trans hx966_1
       replace hx966_2 := (HB.out.cell (World.block_lt_of_cell? w _ hx966_2)).trans hx966_2
       have HR966_2 := Aside0.mk hi966_2
       have HC966_2 := Aside0.mk hl966_2
       clear hi966_2 hl966_2
       replace p966 := eq_true p966
       replace q966 := eq_true q966
       go_wp2_with (first|((with_reducible refine gate_callee (f := 111) rfl ?_);refine goesL_ (some 23) rfl rfl Try.func111 (by kernel_rfl) rfl #[.agg #[.int .i64 ((rd_T128 l0 x5_1).f0),.int .i64 ((rd_T128 l0 x5_1).f1),.slice A966_2 ((rd_T128 l0 x5_1).f2).length c966_2],.int .i64 x1_1] rfl (by (try simp only [List.map_toArray,List.map_cons,List.map_nil]);first|done|rfl|(simp only [List.length_drop,List.length_take];rfl)) ?_;(with_reducible refine (laws_szNode.calls ((rd_T128 l0 x5_1).f0) ((rd_T128 l0 x5_1).f1) _ _ ((rd_T128 l0 x5_1).f2) x1_1 t967 _ ?side1 ?side2 A6.out).mono ?_);(case side1 => repeat (first|exact (Kd.C_below HR966_2.out HB.out)|(with_reducible refine Kd.C_alloc ?_ _)|(with_reducible refine Kd.C_drewN ?_ _)|(with_reducible refine Kd.C_drew ?_)));(case side2 => exact HC966_2.out);rintro e w8 ⟨rfl,hb⟩;refine ⟨_,rfl,?_⟩;have n0_ := Aside0.mk (below_step (by repeat (first|(with_reducible first|exact HB.out|apply below_alloc|apply pw_below_drewN|apply below_drew1)|exact HB.out)) hb);clear HB;have HB := n0_;clear n0_;(try clear hb);(try clear hb2);(try clear hk);(try clear hi)))
       go_ret
       exact ⟨by first|rfl|(simp [errW_none,errW_some] <;> rfl)|(simp [*,errW_none,errW_some] <;> rfl),by repeat (first|(with_reducible first|exact HB.out|apply below_alloc|apply pw_below_drewN|apply below_drew1)|exact HB.out)⟩
      ·rw [if_neg c7] at H
       have c7b0 : decide (t967 < 0) = false := decide_eq_false c7
       clear c7
       have H' := Aside0.mk H
       clear H
       have p966 : 0 ≤ (x5_1 : Int) := of_decide_eq_true (by first|(with_reducible assumption)|assumption)
       have q966 : x5_1 < (l0.length : Int) := of_decide_eq_true (by first|(with_reducible assumption)|assumption)
       obtain ⟨ad966,A966_2,c966_2,e966,hx966_0,hx966_1,hx966_2,hl966_2,hi966_2⟩ := at_T128 HR0.out x5_1 p966 q966
       cases e966
       replace hx966_0 := (HB.out.cell (World.block_lt_of_cell? w _ hx966_0)).trans hx966_0
       replace hx966_1 := (HB.out.cell (World.block_lt_of_cell? w _ hx966_1)).trans hx966_1
       replace hx966_2 := (HB.out.cell (World.block_lt_of_cell? w _ hx966_2)).trans hx966_2
       have HR966_2 := Aside0.mk hi966_2
       have HC966_2 := Aside0.mk hl966_2
       clear hi966_2 hl966_2
       replace p966 := eq_true p966
       replace q966 := eq_true q966
       go_wp2_with (first|((with_reducible refine gate_callee (f := 111) rfl ?_);refine goesL_ (some 23) rfl rfl Try.func111 (by kernel_rfl) rfl #[.agg #[.int .i64 ((rd_T128 l0 x5_1).f0),.int .i64 ((rd_T128 l0 x5_1).f1),.slice A966_2 ((rd_T128 l0 x5_1).f2).length c966_2],.int .i64 x1_1] rfl (by (try simp only [List.map_toArray,List.map_cons,List.map_nil]);first|done|rfl|(simp only [List.length_drop,List.length_take];rfl)) ?_;(with_reducible refine (laws_szNode.calls ((rd_T128 l0 x5_1).f0) ((rd_T128 l0 x5_1).f1) _ _ ((rd_T128 l0 x5_1).f2) x1_1 t967 _ ?side1 ?side2 A6.out).mono ?_);(case side1 => repeat (first|exact (Kd.C_below HR966_2.out HB.out)|(with_reducible refine Kd.C_alloc ?_ _)|(with_reducible refine Kd.C_drewN ?_ _)|(with_reducible refine Kd.C_drew ?_)));(case side2 => exact HC966_2.out);rintro e w9 ⟨rfl,hb⟩;refine ⟨_,rfl,?_⟩;have n0_ := Aside0.mk (below_step (by repeat (first|(with_reducible first|exact HB.out|apply below_alloc|apply pw_below_drewN|apply below_drew1)|exact HB.out)) hb);clear HB;have HB := n0_;clear n0_;(try clear hb);(try clear hb2);(try clear hk);(try clear hi)))
       go_roundg k1
       case measure => have := HK1.out;omega
       case rel => exact ⟨(t967),(wrap64 (x5_1 + 1)),(by first|rfl|(simp;done)|(simp [*];done)),(by first|rfl|(simp;done)|(simp [*];done)),H',⟨by have := HK1.out;omega⟩,⟨by repeat (first|(with_reducible first|exact HB.out|apply below_alloc|apply pw_below_drewN|apply below_drew1)|exact HB.out)⟩⟩
     ·rw [if_neg c5] at H
      exact absurd H (by simp)
    ·rw [if_neg c4] at H
     have c4b0 : decide (x5_1 < (l0.length : Int)) = false := decide_eq_false c4
     clear c4
     obtain rfl := Option.some.inj H
     go_wp2
     go_ret
     exact ⟨by first|rfl|(simp [errW_none,errW_some] <;> rfl)|(simp [*,errW_none,errW_some] <;> rfl),by repeat (first|(with_reducible first|exact HB.out|apply below_alloc|apply pw_below_drewN|apply below_drew1)|exact HB.out)⟩

/-! ### laws_szMachine: function 43 -/
def laws_szMachine.f (k : Nat) (l0_0 : List (S128)) (l0_1 : List Int) (l0_2 : List Int) (a0_3 : Bool) (a1 : Int) : Option (Int) := (laws_szNodeS.f k l0_0 a1).bind fun t969 => (if t969 < 0 then (some (-1)) else ((laws_szIntS.f l0_1 t969).bind fun t970 => (if t970 < 0 then (some (-1)) else ((laws_szIntS.f l0_2 t970).bind fun t971 => (if t971 < 0 then (some (-1)) else (some t971))))))
set_option maxRecDepth 100000 in
theorem laws_szMachine.mono : ∀ a0 a1 a2 a3 a4 k,LeO (laws_szMachine.f k a0 a1 a2 a3 a4) (laws_szMachine.f (k + 1) a0 a1 a2 a3 a4) := by
 intro a0 a1 a2 a3 a4 k
 unfold laws_szMachine.f
 repeat' first
   | (with_reducible exact laws_szNodeS.mono _ _ _)
   | (with_reducible exact LeO.refl _)
   | (with_reducible exact LeO.none _)
   | (with_reducible refine LeO.ite ?_ ?_)
   | (with_reducible refine LeO.bind ?_ (fun _ => ?_))
   | exact laws_szNodeS.mono _ _ _
   | exact LeO.none _
   | refine LeO.ite ?_ ?_
   | refine LeO.bind ?_ (fun _ => ?_)
set_option maxHeartbeats 8000000 in
set_option maxRecDepth 100000 in
theorem laws_szMachine.calls (k : Nat) (A0_0 : Option Addr) (c0_0 : Nat) (l0_0 : List (S128)) (A0_1 : Option Addr) (c0_1 : Nat) (l0_1 : List Int) (A0_2 : Option Addr) (c0_2 : Nat) (l0_2 : List Int) (a0_3 : Bool) (a1 : Int) (r : Int) (w : World) (hr0_0 : Kd.C k128 w A0_0 l0_0.length l0_0) (hc0_0 : l0_0.length ≤ c0_0) (hr0_1 : Kd.C (Kd.int .i64) w A0_1 l0_1.length l0_1) (hc0_1 : l0_1.length ≤ c0_1) (hr0_2 : Kd.C (Kd.int .i64) w A0_2 l0_2.length l0_2) (hc0_2 : l0_2.length ≤ c0_2) (h : laws_szMachine.f k l0_0 l0_1 l0_2 a0_3 a1 = some r) :
  Calls Try.prog 43 #[.agg #[.slice A0_0 l0_0.length c0_0,.slice A0_1 l0_1.length c0_1,.slice A0_2 l0_2.length c0_2,.bool a0_3],.int .i64 a1] w fun e w' => e = .returned (.int .i64 r) ∧ Below w.heap.size w w' := by
 have hu62 := Try.underlying62
 have HR0_0 := Aside0.mk hr0_0
 have HC0_0 := Aside0.mk hc0_0
 clear hr0_0 hc0_0
 have HR0_1 := Aside0.mk hr0_1
 have HC0_1 := Aside0.mk hc0_1
 clear hr0_1 hc0_1
 have HR0_2 := Aside0.mk hr0_2
 have HC0_2 := Aside0.mk hc0_2
 clear hr0_2 hc0_2
 have HB := Aside0.mk (Below.refl w.heap.size w)
 have H : ((laws_szNodeS.f k l0_0 a1).bind fun t969 => (if t969 < 0 then (some (-1)) else ((laws_szIntS.f l0_1 t969).bind fun t970 => (if t970 < 0 then (some (-1)) else ((laws_szIntS.f l0_2 t970).bind fun t971 => (if t971 < 0 then (some (-1)) else (some t971))))))) = some r := h
 clear h
 replace H := Option.bind_eq_some_iff.mp H
 obtain ⟨t969,A30,H⟩ := H
 replace H : (if t969 < 0 then (some (-1)) else ((laws_szIntS.f l0_1 t969).bind fun t970 => (if t970 < 0 then (some (-1)) else ((laws_szIntS.f l0_2 t970).bind fun t971 => (if t971 < 0 then (some (-1)) else (some t971)))))) = some r := H
 have A3 := Aside0.mk A30
 clear A30
 by_cases c4 : t969 < 0
 ·rw [if_pos c4] at H
  have c4b0 : decide (t969 < 0) = true := decide_eq_true c4
  clear c4
  obtain rfl := Option.some.inj H
  go_enter Try.func43,Try.ntmps43
  go_wp2_with (first|((with_reducible refine gate_dst (N := 2) rfl ?_);refine box_event ?hg (N := 2) ?hd (cs := #[.slice A0_0 l0_0.length c0_0,.slice A0_1 l0_1.length c0_1,.slice A0_2 l0_2.length c0_2,.bool a0_3]) (t := 62) ?hr ?_;(case hd => rfl);(case hg => rfl);(case hr => first|(go_simp;done)|(go_simp;rfl));intro gb968 hg w5 hbox hb;have n0_ := Aside0.mk (below_step (by repeat (first|(with_reducible first|exact HB.out|apply below_alloc|apply pw_below_drewN|apply below_drew1)|exact HB.out)) hb);have n1_ := Aside0.mk (hbox);have n2_ := Aside0.mk ((by rw [hg];exact (below_size (by repeat (first|(with_reducible first|exact HB.out|apply below_alloc|apply pw_below_drewN|apply below_drew1)|exact HB.out))) : w.heap.size ≤ gb968));have n3_ := Aside0.mk ((by rw [hg];exact (below_size (by repeat (first|(with_reducible first|exact HB.out|apply below_alloc|apply pw_below_drewN|apply below_drew1)|exact HB.out))) : w.heap.size ≤ gb968));clear HB;have HB := n0_;have BK968 := n1_;have GW968 := n2_;have GE968 := n3_;clear n0_ n1_ n2_ n3_;clear hb hbox hg;have hcz6_0 : w5.cell? ⟨gb968,0,none⟩ = some (.slice A0_0 l0_0.length c0_0) := (blk_cell BK968.out 0).trans rfl;have hcz6_1 : w5.cell? ⟨gb968,1,none⟩ = some (.slice A0_1 l0_1.length c0_1) := (blk_cell BK968.out 1).trans rfl;have hcz6_2 : w5.cell? ⟨gb968,2,none⟩ = some (.slice A0_2 l0_2.length c0_2) := (blk_cell BK968.out 2).trans rfl;have hcz6_3 : w5.cell? ⟨gb968,3,none⟩ = some (.bool a0_3) := (blk_cell BK968.out 3).trans rfl;have hfz6_0 := blk_frozen BK968.out 0;have hfz6_1 := blk_frozen BK968.out 1;have hfz6_2 := blk_frozen BK968.out 2;have hfz6_3 := blk_frozen BK968.out 3)|((with_reducible refine gate_callee (f := 78) rfl ?_);refine goesL_ (some 8) rfl rfl Try.func78 (by kernel_rfl) rfl #[.slice A0_0 l0_0.length c0_0,.int .i64 a1] rfl (by (try simp only [List.map_toArray,List.map_cons,List.map_nil]);first|done|rfl|(simp only [List.length_drop,List.length_take];rfl)) ?_;(with_reducible refine (laws_szNodeS.calls k _ _ l0_0 a1 t969 _ ?side1 ?side2 A3.out).mono ?_);(case side1 => repeat (first|exact (Kd.C_below HR0_0.out HB.out)|(with_reducible refine Kd.C_alloc ?_ _)|(with_reducible refine Kd.C_drewN ?_ _)|(with_reducible refine Kd.C_drew ?_)));(case side2 => exact HC0_0.out);rintro e w7 ⟨rfl,hb⟩;refine ⟨_,rfl,?_⟩;have n0_ := Aside0.mk (blk_below (g := gb968) (o := .cells #[.slice A0_0 l0_0.length c0_0,.slice A0_1 l0_1.length c0_1,.slice A0_2 l0_2.length c0_2,.bool a0_3] 62 (0,0)) (by (with_reducible repeat (first|refine blk_drewN ?_ _|refine blk_drew ?_|refine blk_alloc ?_ _));exact BK968.out) hb);have n1_ := Aside0.mk (below_step (by repeat (first|(with_reducible first|exact HB.out|apply below_alloc|apply pw_below_drewN|apply below_drew1|refine below_set ?_ GE968.out)|exact HB.out)) hb);clear BK968;clear HB;have BK968 := n0_;have HB := n1_;clear n0_ n1_;(try clear hb);(try clear hb2);(try clear hk);(try clear hi)))
  go_ret
  exact ⟨by first|rfl|(simp [errW_none,errW_some] <;> rfl)|(simp [*,errW_none,errW_some] <;> rfl),by repeat (first|(with_reducible first|exact HB.out|apply below_alloc|apply pw_below_drewN|apply below_drew1|refine below_set ?_ GE968.out)|exact HB.out)⟩
 ·rw [if_neg c4] at H
  have c4b0 : decide (t969 < 0) = false := decide_eq_false c4
  clear c4
  replace H := Option.bind_eq_some_iff.mp H
  obtain ⟨t970,A80,H⟩ := H
  replace H : (if t970 < 0 then (some (-1)) else ((laws_szIntS.f l0_2 t970).bind fun t971 => (if t971 < 0 then (some (-1)) else (some t971)))) = some r := H
  have A8 := Aside0.mk A80
  clear A80
  by_cases c9 : t970 < 0
  ·rw [if_pos c9] at H
   have c9b0 : decide (t970 < 0) = true := decide_eq_true c9
   clear c9
   obtain rfl := Option.some.inj H
   go_enter Try.func43,Try.ntmps43
   go_wp2_with (first|((with_reducible refine gate_dst (N := 2) rfl ?_);refine box_event ?hg (N := 2) ?hd (cs := #[.slice A0_0 l0_0.length c0_0,.slice A0_1 l0_1.length c0_1,.slice A0_2 l0_2.length c0_2,.bool a0_3]) (t := 62) ?hr ?_;(case hd => rfl);(case hg => rfl);(case hr => first|(go_simp;done)|(go_simp;rfl));intro gb968 hg w10 hbox hb;have n0_ := Aside0.mk (below_step (by repeat (first|(with_reducible first|exact HB.out|apply below_alloc|apply pw_below_drewN|apply below_drew1)|exact HB.out)) hb);have n1_ := Aside0.mk (hbox);have n2_ := Aside0.mk ((by rw [hg];exact (below_size (by repeat (first|(with_reducible first|exact HB.out|apply below_alloc|apply pw_below_drewN|apply below_drew1)|exact HB.out))) : w.heap.size ≤ gb968));have n3_ := Aside0.mk ((by rw [hg];exact (below_size (by repeat (first|(with_reducible first|exact HB.out|apply below_alloc|apply pw_below_drewN|apply below_drew1)|exact HB.out))) : w.heap.size ≤ gb968));clear HB;have HB := n0_;have BK968 := n1_;have GW968 := n2_;have GE968 := n3_;clear n0_ n1_ n2_ n3_;clear hb hbox hg;have hcz11_0 : w10.cell? ⟨gb968,0,none⟩ = some (.slice A0_0 l0_0.length c0_0) := (blk_cell BK968.out 0).trans rfl;have hcz11_1 : w10.cell? ⟨gb968,1,none⟩ = some (.slice A0_1 l0_1.length c0_1) := (blk_cell BK968.out 1).trans rfl;have hcz11_2 : w10.cell? ⟨gb968,2,none⟩ = some (.slice A0_2 l0_2.length c0_2) := (blk_cell BK968.out 2).trans rfl;have hcz11_3 : w10.cell? ⟨gb968,3,none⟩ = some (.bool a0_3) := (blk_cell BK968.out 3).trans rfl;have hfz11_0 := blk_frozen BK968.out 0;have hfz11_1 := blk_frozen BK968.out 1;have hfz11_2 := blk_frozen BK968.out 2;have hfz11_3 := blk_frozen BK968.out 3)|((with_reducible refine gate_callee (f := 78) rfl ?_);refine goesL_ (some 8) rfl rfl Try.func78 (by kernel_rfl) rfl #[.slice A0_0 l0_0.length c0_0,.int .i64 a1] rfl (by (try simp only [List.map_toArray,List.map_cons,List.map_nil]);first|done|rfl|(simp only [List.length_drop,List.length_take];rfl)) ?_;(with_reducible refine (laws_szNodeS.calls k _ _ l0_0 a1 t969 _ ?side1 ?side2 A3.out).mono ?_);(case side1 => repeat (first|exact (Kd.C_below HR0_0.out HB.out)|(with_reducible refine Kd.C_alloc ?_ _)|(with_reducible refine Kd.C_drewN ?_ _)|(with_reducible refine Kd.C_drew ?_)));(case side2 => exact HC0_0.out);rintro e w12 ⟨rfl,hb⟩;refine ⟨_,rfl,?_⟩;have n0_ := Aside0.mk (blk_below (g := gb968) (o := .cells #[.slice A0_0 l0_0.length c0_0,.slice A0_1 l0_1.length c0_1,.slice A0_2 l0_2.length c0_2,.bool a0_3] 62 (0,0)) (by (with_reducible repeat (first|refine blk_drewN ?_ _|refine blk_drew ?_|refine blk_alloc ?_ _));exact BK968.out) hb);have n1_ := Aside0.mk (below_step (by repeat (first|(with_reducible first|exact HB.out|apply below_alloc|apply pw_below_drewN|apply below_drew1|refine below_set ?_ GE968.out)|exact HB.out)) hb);clear BK968;clear HB;have BK968 := n0_;have HB := n1_;clear n0_ n1_;(try clear hb);(try clear hb2);(try clear hk);(try clear hi);have hcz13_0 : w12.cell? ⟨gb968,0,none⟩ = some (.slice A0_0 l0_0.length c0_0) := (blk_cell BK968.out 0).trans rfl;have hcz13_1 : w12.cell? ⟨gb968,1,none⟩ = some (.slice A0_1 l0_1.length c0_1) := (blk_cell BK968.out 1).trans rfl;have hcz13_2 : w12.cell? ⟨gb968,2,none⟩ = some (.slice A0_2 l0_2.length c0_2) := (blk_cell BK968.out 2).trans rfl;have hcz13_3 : w12.cell? ⟨gb968,3,none⟩ = some (.bool a0_3) := (blk_cell BK968.out 3).trans rfl;have hfz13_0 := blk_frozen BK968.out 0;have hfz13_1 := blk_frozen BK968.out 1;have hfz13_2 := blk_frozen BK968.out 2;have hfz13_3 := blk_frozen BK968.out 3)|((with_reducible refine gate_callee (f := 68) rfl ?_);refine goesL_ (some 14) rfl rfl Try.func68 (by kernel_rfl) rfl #[.slice A0_1 l0_1.length c0_1,.int .i64 t969] rfl (by (try simp only [List.map_toArray,List.map_cons,List.map_nil]);first|done|rfl|(simp only [List.length_drop,List.length_take];rfl)) ?_;(with_reducible refine (laws_szIntS.calls _ _ l0_1 t969 t970 _ ?side1 ?side2 A8.out).mono ?_);(case side1 => repeat (first|exact (Kd.C_below HR0_1.out HB.out)|(with_reducible refine Kd.C_alloc ?_ _)|(with_reducible refine Kd.C_drewN ?_ _)|(with_reducible refine Kd.C_drew ?_)));(case side2 => exact HC0_1.out);rintro e w' ⟨rfl,⟨nd,rfl⟩⟩;refine ⟨_,rfl,?_⟩))
   go_ret
   exact ⟨by first|rfl|(simp [errW_none,errW_some] <;> rfl)|(simp [*,errW_none,errW_some] <;> rfl),by repeat (first|(with_reducible first|exact HB.out|apply below_alloc|apply pw_below_drewN|apply below_drew1|refine below_set ?_ GE968.out)|exact HB.out)⟩
  ·rw [if_neg c9] at H
   have c9b0 : decide (t970 < 0) = false := decide_eq_false c9
   clear c9
   replace H := Option.bind_eq_some_iff.mp H
   obtain ⟨t971,A140,H⟩ := H
   replace H : (if t971 < 0 then (some (-1)) else (some t971)) = some r := H
   have A14 := Aside0.mk A140
   clear A140
   by_cases c15 : t971 < 0
   ·rw [if_pos c15] at H
    have c15b0 : decide (t971 < 0) = true := decide_eq_true c15
    clear c15
    obtain rfl := Option.some.inj H
    go_enter Try.func43,Try.ntmps43
    go_wp2_with (first|((with_reducible refine gate_dst (N := 2) rfl ?_);refine box_event ?hg (N := 2) ?hd (cs := #[.slice A0_0 l0_0.length c0_0,.slice A0_1 l0_1.length c0_1,.slice A0_2 l0_2.length c0_2,.bool a0_3]) (t := 62) ?hr ?_;(case hd => rfl);(case hg => rfl);(case hr => first|(go_simp;done)|(go_simp;rfl));intro gb968 hg w16 hbox hb;have n0_ := Aside0.mk (below_step (by repeat (first|(with_reducible first|exact HB.out|apply below_alloc|apply pw_below_drewN|apply below_drew1)|exact HB.out)) hb);have n1_ := Aside0.mk (hbox);have n2_ := Aside0.mk ((by rw [hg];exact (below_size (by repeat (first|(with_reducible first|exact HB.out|apply below_alloc|apply pw_below_drewN|apply below_drew1)|exact HB.out))) : w.heap.size ≤ gb968));have n3_ := Aside0.mk ((by rw [hg];exact (below_size (by repeat (first|(with_reducible first|exact HB.out|apply below_alloc|apply pw_below_drewN|apply below_drew1)|exact HB.out))) : w.heap.size ≤ gb968));clear HB;have HB := n0_;have BK968 := n1_;have GW968 := n2_;have GE968 := n3_;clear n0_ n1_ n2_ n3_;clear hb hbox hg;have hcz17_0 : w16.cell? ⟨gb968,0,none⟩ = some (.slice A0_0 l0_0.length c0_0) := (blk_cell BK968.out 0).trans rfl;have hcz17_1 : w16.cell? ⟨gb968,1,none⟩ = some (.slice A0_1 l0_1.length c0_1) := (blk_cell BK968.out 1).trans rfl;have hcz17_2 : w16.cell? ⟨gb968,2,none⟩ = some (.slice A0_2 l0_2.length c0_2) := (blk_cell BK968.out 2).trans rfl;have hcz17_3 : w16.cell? ⟨gb968,3,none⟩ = some (.bool a0_3) := (blk_cell BK968.out 3).trans rfl;have hfz17_0 := blk_frozen BK968.out 0;have hfz17_1 := blk_frozen BK968.out 1;have hfz17_2 := blk_frozen BK968.out 2;have hfz17_3 := blk_frozen BK968.out 3)|((with_reducible refine gate_callee (f := 78) rfl ?_);refine goesL_ (some 8) rfl rfl Try.func78 (by kernel_rfl) rfl #[.slice A0_0 l0_0.length c0_0,.int .i64 a1] rfl (by (try simp only [List.map_toArray,List.map_cons,List.map_nil]);first|done|rfl|(simp only [List.length_drop,List.length_take];rfl)) ?_;(with_reducible refine (laws_szNodeS.calls k _ _ l0_0 a1 t969 _ ?side1 ?side2 A3.out).mono ?_);(case side1 => repeat (first|exact (Kd.C_below HR0_0.out HB.out)|(with_reducible refine Kd.C_alloc ?_ _)|(with_reducible refine Kd.C_drewN ?_ _)|(with_reducible refine Kd.C_drew ?_)));(case side2 => exact HC0_0.out);rintro e w18 ⟨rfl,hb⟩;refine ⟨_,rfl,?_⟩;have n0_ := Aside0.mk (blk_below (g := gb968) (o := .cells #[.slice A0_0 l0_0.length c0_0,.slice A0_1 l0_1.length c0_1,.slice A0_2 l0_2.length c0_2,.bool a0_3] 62 (0,0)) (by (with_reducible repeat (first|refine blk_drewN ?_ _|refine blk_drew ?_|refine blk_alloc ?_ _));exact BK968.out) hb);have n1_ := Aside0.mk (below_step (by repeat (first|(with_reducible first|exact HB.out|apply below_alloc|apply pw_below_drewN|apply below_drew1|refine below_set ?_ GE968.out)|exact HB.out)) hb);clear BK968;clear HB;have BK968 := n0_;have HB := n1_;clear n0_ n1_;(try clear hb);(try clear hb2);(try clear hk);(try clear hi);have hcz19_0 : w18.cell? ⟨gb968,0,none⟩ = some (.slice A0_0 l0_0.length c0_0) := (blk_cell BK968.out 0).trans rfl;have hcz19_1 : w18.cell? ⟨gb968,1,none⟩ = some (.slice A0_1 l0_1.length c0_1) := (blk_cell BK968.out 1).trans rfl;have hcz19_2 : w18.cell? ⟨gb968,2,none⟩ = some (.slice A0_2 l0_2.length c0_2) := (blk_cell BK968.out 2).trans rfl;have hcz19_3 : w18.cell? ⟨gb968,3,none⟩ = some (.bool a0_3) := (blk_cell BK968.out 3).trans rfl;have hfz19_0 := blk_frozen BK968.out 0;have hfz19_1 := blk_frozen BK968.out 1;have hfz19_2 := blk_frozen BK968.out 2;have hfz19_3 := blk_frozen BK968.out 3)|((with_reducible refine gate_callee (f := 68) rfl ?_);refine goesL_ (some 14) rfl rfl Try.func68 (by kernel_rfl) rfl #[.slice A0_1 l0_1.length c0_1,.int .i64 t969] rfl (by (try simp only [List.map_toArray,List.map_cons,List.map_nil]);first|done|rfl|(simp only [List.length_drop,List.length_take];rfl)) ?_;(with_reducible refine (laws_szIntS.calls _ _ l0_1 t969 t970 _ ?side1 ?side2 A8.out).mono ?_);(case side1 => repeat (first|exact (Kd.C_below HR0_1.out HB.out)|(with_reducible refine Kd.C_alloc ?_ _)|(with_reducible refine Kd.C_drewN ?_ _)|(with_reducible refine Kd.C_drew ?_)));(case side2 => exact HC0_1.out);rintro e w' ⟨rfl,⟨nd,rfl⟩⟩;refine ⟨_,rfl,?_⟩)|((with_reducible refine gate_callee (f := 68) rfl ?_);refine goesL_ (some 20) rfl rfl Try.func68 (by kernel_rfl) rfl #[.slice A0_2 l0_2.length c0_2,.int .i64 t970] rfl (by (try simp only [List.map_toArray,List.map_cons,List.map_nil]);first|done|rfl|(simp only [List.length_drop,List.length_take];rfl)) ?_;(with_reducible refine (laws_szIntS.calls _ _ l0_2 t970 t971 _ ?side1 ?side2 A14.out).mono ?_);(case side1 => repeat (first|exact (Kd.C_below HR0_2.out (by repeat (first|(with_reducible first|exact HB.out|apply below_alloc|apply pw_below_drewN|apply below_drew1|refine below_set ?_ GE968.out)|exact HB.out)))|(with_reducible refine Kd.C_alloc ?_ _)|(with_reducible refine Kd.C_drewN ?_ _)|(with_reducible refine Kd.C_drew ?_)));(case side2 => exact HC0_2.out);rintro e w' ⟨rfl,⟨nd,rfl⟩⟩;refine ⟨_,rfl,?_⟩))
    go_ret
    exact ⟨by first|rfl|(simp [errW_none,errW_some] <;> rfl)|(simp [*,errW_none,errW_some] <;> rfl),by repeat (first|(with_reducible first|exact HB.out|apply below_alloc|apply pw_below_drewN|apply below_drew1|refine below_set ?_ GE968.out)|exact HB.out)⟩
   ·rw [if_neg c15] at H
    have c15b0 : decide (t971 < 0) = false := decide_eq_false c15
    clear c15
    obtain rfl := Option.some.inj H
    go_enter Try.func43,Try.ntmps43
    go_wp2_with (first|((with_reducible refine gate_dst (N := 2) rfl ?_);refine box_event ?hg (N := 2) ?hd (cs := #[.slice A0_0 l0_0.length c0_0,.slice A0_1 l0_1.length c0_1,.slice A0_2 l0_2.length c0_2,.bool a0_3]) (t := 62) ?hr ?_;(case hd => rfl);(case hg => rfl);(case hr => first|(go_simp;done)|(go_simp;rfl));intro gb968 hg w20 hbox hb;have n0_ := Aside0.mk (below_step (by repeat (first|(with_reducible first|exact HB.out|apply below_alloc|apply pw_below_drewN|apply below_drew1)|exact HB.out)) hb);have n1_ := Aside0.mk (hbox);have n2_ := Aside0.mk ((by rw [hg];exact (below_size (by repeat (first|(with_reducible first|exact HB.out|apply below_alloc|apply pw_below_drewN|apply below_drew1)|exact HB.out))) : w.heap.size ≤ gb968));have n3_ := Aside0.mk ((by rw [hg];exact (below_size (by repeat (first|(with_reducible first|exact HB.out|apply below_alloc|apply pw_below_drewN|apply below_drew1)|exact HB.out))) : w.heap.size ≤ gb968));clear HB;have HB := n0_;have BK968 := n1_;have GW968 := n2_;have GE968 := n3_;clear n0_ n1_ n2_ n3_;clear hb hbox hg;have hcz21_0 : w20.cell? ⟨gb968,0,none⟩ = some (.slice A0_0 l0_0.length c0_0) := (blk_cell BK968.out 0).trans rfl;have hcz21_1 : w20.cell? ⟨gb968,1,none⟩ = some (.slice A0_1 l0_1.length c0_1) := (blk_cell BK968.out 1).trans rfl;have hcz21_2 : w20.cell? ⟨gb968,2,none⟩ = some (.slice A0_2 l0_2.length c0_2) := (blk_cell BK968.out 2).trans rfl;have hcz21_3 : w20.cell? ⟨gb968,3,none⟩ = some (.bool a0_3) := (blk_cell BK968.out 3).trans rfl;have hfz21_0 := blk_frozen BK968.out 0;have hfz21_1 := blk_frozen BK968.out 1;have hfz21_2 := blk_frozen BK968.out 2;have hfz21_3 := blk_frozen BK968.out 3)|((with_reducible refine gate_callee (f := 78) rfl ?_);refine goesL_ (some 8) rfl rfl Try.func78 (by kernel_rfl) rfl #[.slice A0_0 l0_0.length c0_0,.int .i64 a1] rfl (by (try simp only [List.map_toArray,List.map_cons,List.map_nil]);first|done|rfl|(simp only [List.length_drop,List.length_take];rfl)) ?_;(with_reducible refine (laws_szNodeS.calls k _ _ l0_0 a1 t969 _ ?side1 ?side2 A3.out).mono ?_);(case side1 => repeat (first|exact (Kd.C_below HR0_0.out HB.out)|(with_reducible refine Kd.C_alloc ?_ _)|(with_reducible refine Kd.C_drewN ?_ _)|(with_reducible refine Kd.C_drew ?_)));(case side2 => exact HC0_0.out);rintro e w22 ⟨rfl,hb⟩;refine ⟨_,rfl,?_⟩;have n0_ := Aside0.mk (blk_below (g := gb968) (o := .cells #[.slice A0_0 l0_0.length c0_0,.slice A0_1 l0_1.length c0_1,.slice A0_2 l0_2.length c0_2,.bool a0_3] 62 (0,0)) (by (with_reducible repeat (first|refine blk_drewN ?_ _|refine blk_drew ?_|refine blk_alloc ?_ _));exact BK968.out) hb);have n1_ := Aside0.mk (below_step (by repeat (first|(with_reducible first|exact HB.out|apply below_alloc|apply pw_below_drewN|apply below_drew1|refine below_set ?_ GE968.out)|exact HB.out)) hb);clear BK968;clear HB;have BK968 := n0_;have HB := n1_;clear n0_ n1_;(try clear hb);(try clear hb2);(try clear hk);(try clear hi);have hcz23_0 : w22.cell? ⟨gb968,0,none⟩ = some (.slice A0_0 l0_0.length c0_0) := (blk_cell BK968.out 0).trans rfl;have hcz23_1 : w22.cell? ⟨gb968,1,none⟩ = some (.slice A0_1 l0_1.length c0_1) := (blk_cell BK968.out 1).trans rfl;have hcz23_2 : w22.cell? ⟨gb968,2,none⟩ = some (.slice A0_2 l0_2.length c0_2) := (blk_cell BK968.out 2).trans rfl;have hcz23_3 : w22.cell? ⟨gb968,3,none⟩ = some (.bool a0_3) := (blk_cell BK968.out 3).trans rfl;have hfz23_0 := blk_frozen BK968.out 0;have hfz23_1 := blk_frozen BK968.out 1;have hfz23_2 := blk_frozen BK968.out 2;have hfz23_3 := blk_frozen BK968.out 3)|((with_reducible refine gate_callee (f := 68) rfl ?_);refine goesL_ (some 14) rfl rfl Try.func68 (by kernel_rfl) rfl #[.slice A0_1 l0_1.length c0_1,.int .i64 t969] rfl (by (try simp only [List.map_toArray,List.map_cons,List.map_nil]);first|done|rfl|(simp only [List.length_drop,List.length_take];rfl)) ?_;(with_reducible refine (laws_szIntS.calls _ _ l0_1 t969 t970 _ ?side1 ?side2 A8.out).mono ?_);(case side1 => repeat (first|exact (Kd.C_below HR0_1.out HB.out)|(with_reducible refine Kd.C_alloc ?_ _)|(with_reducible refine Kd.C_drewN ?_ _)|(with_reducible refine Kd.C_drew ?_)));(case side2 => exact HC0_1.out);rintro e w' ⟨rfl,⟨nd,rfl⟩⟩;refine ⟨_,rfl,?_⟩)|((with_reducible refine gate_callee (f := 68) rfl ?_);refine goesL_ (some 20) rfl rfl Try.func68 (by kernel_rfl) rfl #[.slice A0_2 l0_2.length c0_2,.int .i64 t970] rfl (by (try simp only [List.map_toArray,List.map_cons,List.map_nil]);first|done|rfl|(simp only [List.length_drop,List.length_take];rfl)) ?_;(with_reducible refine (laws_szIntS.calls _ _ l0_2 t970 t971 _ ?side1 ?side2 A14.out).mono ?_);(case side1 => repeat (first|exact (Kd.C_below HR0_2.out (by repeat (first|(with_reducible first|exact HB.out|apply below_alloc|apply pw_below_drewN|apply below_drew1|refine below_set ?_ GE968.out)|exact HB.out)))|(with_reducible refine Kd.C_alloc ?_ _)|(with_reducible refine Kd.C_drewN ?_ _)|(with_reducible refine Kd.C_drew ?_)));(case side2 => exact HC0_2.out);rintro e w' ⟨rfl,⟨nd,rfl⟩⟩;refine ⟨_,rfl,?_⟩))
    go_ret
    exact ⟨by first|rfl|(simp [errW_none,errW_some] <;> rfl)|(simp [*,errW_none,errW_some] <;> rfl),by repeat (first|(with_reducible first|exact HB.out|apply below_alloc|apply pw_below_drewN|apply below_drew1|refine below_set ?_ GE968.out)|exact HB.out)⟩

/-! ### spec_isKey: function 112 -/
def spec_isKey.f (a0_0 : Int) (a0_1 : Int) (l0_2 : List Int) : Option (Bool) := if a0_0 = 0 then (some true) else (some (a0_0 == 1))
set_option maxHeartbeats 8000000 in
set_option maxRecDepth 100000 in
theorem spec_isKey.calls (a0_0 : Int) (a0_1 : Int) (A0_2 : Option Addr) (c0_2 : Nat) (l0_2 : List Int) (r : Bool) (w : World) (hr0_2 : Kd.C (Kd.int .i64) w A0_2 l0_2.length l0_2) (hc0_2 : l0_2.length ≤ c0_2) (h : spec_isKey.f a0_0 a0_1 l0_2 = some r) :
  Calls Try.prog 112 #[.agg #[.int .i64 a0_0,.int .i64 a0_1,.slice A0_2 l0_2.length c0_2]] w fun e w' => e = .returned (.bool r) ∧ Below w.heap.size w w' := by
 have hu88 := Try.underlying88
 have HR0_2 := Aside0.mk hr0_2
 have HC0_2 := Aside0.mk hc0_2
 clear hr0_2 hc0_2
 have HB := Aside0.mk (Below.refl w.heap.size w)
 have H : (if a0_0 = 0 then (some true) else (some (a0_0 == 1))) = some r := h
 clear h
 by_cases c2 : a0_0 = 0
 ·rw [if_pos c2] at H
  have c2b0 : (a0_0 == 0) = true := beq_iff_eq.mpr c2
  have c2b1 : (a0_0 != 0) = false := bne_eq_false_iff_eq.mpr c2
  clear c2
  obtain rfl := Option.some.inj H
  go_enter Try.func112,Try.ntmps112
  go_wp2_with (first|((with_reducible refine gate_dst (N := 1) rfl ?_);refine box_event ?hg (N := 1) ?hd (cs := #[.int .i64 a0_0,.int .i64 a0_1,.slice A0_2 l0_2.length c0_2]) (t := 88) ?hr ?_;(case hd => rfl);(case hg => rfl);(case hr => first|(go_simp;done)|(go_simp;rfl));intro gb972 hg w3 hbox hb;have n0_ := Aside0.mk (below_step (by repeat (first|(with_reducible first|exact HB.out|apply below_alloc|apply pw_below_drewN|apply below_drew1)|exact HB.out)) hb);have n1_ := Aside0.mk (hbox);have n2_ := Aside0.mk ((by rw [hg];exact (below_size (by repeat (first|(with_reducible first|exact HB.out|apply below_alloc|apply pw_below_drewN|apply below_drew1)|exact HB.out))) : w.heap.size ≤ gb972));have n3_ := Aside0.mk ((by rw [hg];exact (below_size (by repeat (first|(with_reducible first|exact HB.out|apply below_alloc|apply pw_below_drewN|apply below_drew1)|exact HB.out))) : w.heap.size ≤ gb972));clear HB;have HB := n0_;have BK972 := n1_;have GW972 := n2_;have GE972 := n3_;clear n0_ n1_ n2_ n3_;clear hb hbox hg;have hcz4_0 : w3.cell? ⟨gb972,0,none⟩ = some (.int .i64 a0_0) := (blk_cell BK972.out 0).trans rfl;have hcz4_1 : w3.cell? ⟨gb972,1,none⟩ = some (.int .i64 a0_1) := (blk_cell BK972.out 1).trans rfl;have hcz4_2 : w3.cell? ⟨gb972,2,none⟩ = some (.slice A0_2 l0_2.length c0_2) := (blk_cell BK972.out 2).trans rfl;have hfz4_0 := blk_frozen BK972.out 0;have hfz4_1 := blk_frozen BK972.out 1;have hfz4_2 := blk_frozen BK972.out 2))
  go_ret
  exact ⟨by first|rfl|(simp [errW_none,errW_some] <;> rfl)|(simp [*,errW_none,errW_some] <;> rfl),by repeat (first|(with_reducible first|exact HB.out|apply below_alloc|apply pw_below_drewN|apply below_drew1|refine below_set ?_ GE972.out)|exact HB.out)⟩
 ·rw [if_neg c2] at H
  have c2b0 : (a0_0 == 0) = false := beq_eq_false_iff_ne.mpr c2
  have c2b1 : (a0_0 != 0) = true := bne_iff_ne.mpr c2
  obtain rfl := Option.some.inj H
  go_enter Try.func112,Try.ntmps112
  go_wp2_with (first|((with_reducible refine gate_dst (N := 1) rfl ?_);refine box_event ?hg (N := 1) ?hd (cs := #[.int .i64 a0_0,.int .i64 a0_1,.slice A0_2 l0_2.length c0_2]) (t := 88) ?hr ?_;(case hd => rfl);(case hg => rfl);(case hr => first|(go_simp;done)|(go_simp;rfl));intro gb972 hg w5 hbox hb;have n0_ := Aside0.mk (below_step (by repeat (first|(with_reducible first|exact HB.out|apply below_alloc|apply pw_below_drewN|apply below_drew1)|exact HB.out)) hb);have n1_ := Aside0.mk (hbox);have n2_ := Aside0.mk ((by rw [hg];exact (below_size (by repeat (first|(with_reducible first|exact HB.out|apply below_alloc|apply pw_below_drewN|apply below_drew1)|exact HB.out))) : w.heap.size ≤ gb972));have n3_ := Aside0.mk ((by rw [hg];exact (below_size (by repeat (first|(with_reducible first|exact HB.out|apply below_alloc|apply pw_below_drewN|apply below_drew1)|exact HB.out))) : w.heap.size ≤ gb972));clear HB;have HB := n0_;have BK972 := n1_;have GW972 := n2_;have GE972 := n3_;clear n0_ n1_ n2_ n3_;clear hb hbox hg;have hcz6_0 : w5.cell? ⟨gb972,0,none⟩ = some (.int .i64 a0_0) := (blk_cell BK972.out 0).trans rfl;have hcz6_1 : w5.cell? ⟨gb972,1,none⟩ = some (.int .i64 a0_1) := (blk_cell BK972.out 1).trans rfl;have hcz6_2 : w5.cell? ⟨gb972,2,none⟩ = some (.slice A0_2 l0_2.length c0_2) := (blk_cell BK972.out 2).trans rfl;have hfz6_0 := blk_frozen BK972.out 0;have hfz6_1 := blk_frozen BK972.out 1;have hfz6_2 := blk_frozen BK972.out 2))
  go_ret
  exact ⟨by first|rfl|(simp [errW_none,errW_some] <;> rfl)|(simp [*,errW_none,errW_some] <;> rfl),by repeat (first|(with_reducible first|exact HB.out|apply below_alloc|apply pw_below_drewN|apply below_drew1|refine below_set ?_ GE972.out)|exact HB.out)⟩

end Go.Proofs.Ytbokjhdhpmmpfaa.Q
