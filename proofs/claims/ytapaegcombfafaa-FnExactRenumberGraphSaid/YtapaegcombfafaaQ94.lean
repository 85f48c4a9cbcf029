-- Written by wip/tools/qprint.py (a program of this claim's author) by means of the kit's printer.
import Derived.Test.YtapaegcombfafaaQ0
namespace Go.Proofs.Ytapaegcombfafaa.Q
open Go.RowKit Go.Proofs.YtapaegcombfafaaW.PrintWords Go.Proofs.YtapaegcombfafaaW.PrintLast Go.Proofs.YtapaegcombfafaaW.PrintMore
attribute [local go_sem] max2_int min2_int max_two min_two max_three min_three max_four min_four   -- for this text's walks alone
set_option linter.unusedVariables false
set_option linter.unusedSimpArgs false

/-! ### laws_szIntS: function 94 -/
def laws_szIntS.f (l0 : List Int) (a1 : Int) : Option (Int) := if (wrap64 (a1 - (l0.length : Int))) < 0 then (some (-1)) else (some (wrap64 (a1 - (l0.length : Int))))
set_option maxHeartbeats 8000000 in
set_option maxRecDepth 100000 in
theorem laws_szIntS.calls (A0 : Option Addr) (c0 : Nat) (l0 : List Int) (a1 : Int) (r : Int) (w : World) (hr0 : Kd.C (Kd.int .i64) w A0 l0.length l0) (hc0 : l0.length ≤ c0) (h : laws_szIntS.f l0 a1 = some r) :
    Calls Try.prog 94 #[.slice A0 l0.length c0, .int .i64 a1] w fun e w' => e = .returned (.int .i64 r) ∧ Drawn0 w w' := by
  have HR0 := As_ hr0
  have HC0 := As_ hc0
  clear hr0 hc0
  have H : (if (wrap64 (a1 - (l0.length : Int))) < 0 then (some (-1)) else (some (wrap64 (a1 - (l0.length : Int))))) = some r := h
  clear h
  by_cases c3 : (wrap64 (a1 - (l0.length : Int))) < 0
  · rw [if_pos c3] at H
    have c3b0 : decide ((wrap64 (a1 - (l0.length : Int))) < 0) = true := deT c3
    clear c3
    obtain rfl := Option.some.inj H
    go_enter Try.func94, Try.ntmps94
    go_wp2
    go_ret
    exact ⟨by first | rfl | (simp; done) | (simp [*]; done), by repeat (first | exact Drawn0.refl _ | apply Drawn0.step)⟩
  · rw [if_neg c3] at H
    have c3b0 : decide ((wrap64 (a1 - (l0.length : Int))) < 0) = false := deF c3
    clear c3
    obtain rfl := Option.some.inj H
    go_enter Try.func94, Try.ntmps94
    go_wp2
    go_ret
    exact ⟨by first | rfl | (simp; done) | (simp [*]; done), by repeat (first | exact Drawn0.refl _ | apply Drawn0.step)⟩

/-! ### laws_szNode: function 78 -/
def laws_szNode.f (a0_0 : Int) (a0_1 : Int) (l0_2 : List Int) (a1 : Int) : Option (Int) := (laws_szIntS.f l0_2 a1).bind fun t331 => (if t331 < 0 then (some (-1)) else (some t331))
set_option maxHeartbeats 8000000 in
set_option maxRecDepth 100000 in
theorem laws_szNode.calls (a0_0 : Int) (a0_1 : Int) (A0_2 : Option Addr) (c0_2 : Nat) (l0_2 : List Int) (a1 : Int) (r : Int) (w : World) (hr0_2 : Kd.C (Kd.int .i64) w A0_2 l0_2.length l0_2) (hc0_2 : l0_2.length ≤ c0_2) (h : laws_szNode.f a0_0 a0_1 l0_2 a1 = some r) :
  Calls Try.prog 78 #[.agg #[.int .i64 a0_0,.int .i64 a0_1,.slice A0_2 l0_2.length c0_2],.int .i64 a1] w fun e w' => e = .returned (.int .i64 r) ∧ Below w.heap.size w w' := by
 have hu81 := Try.underlying81
 have HR0_2 := As_ hr0_2
 have HC0_2 := As_ hc0_2
 clear hr0_2 hc0_2
 have HB := As_ (Below.refl w.heap.size w)
 have H : ((laws_szIntS.f l0_2 a1).bind fun t331 => (if t331 < 0 then (some (-1)) else (some t331))) = some r := h
 clear h
 replace H := obS H
 obtain ⟨t331,A30,H⟩ := H
 replace H : (if t331 < 0 then (some (-1)) else (some t331)) = some r := H
 have A3 := As_ A30
 clear A30
 by_cases c4 : t331 < 0
 ·rw [if_pos c4] at H
  have c4b0 : decide (t331 < 0) = true := deT c4
  clear c4
  obtain rfl := Option.some.inj H
  go_enter Try.func78,Try.ntmps78
  go_wp2_with (first|((with_reducible refine gate_dst (N := 2) rfl ?_);refine box_event ?hg (N := 2) ?hd (cs := #[.int .i64 a0_0,.int .i64 a0_1,.slice A0_2 l0_2.length c0_2]) (t := 81) ?hr ?_;(case hd => rfl);(case hg => rfl);(case hr => go_simp <;> rfl);intro gb330 hg w5 hbox hb;have n0_ := As_ (bwT (zb0 HB.out) hb);have n1_ := As_ (hbox);have n2_ := As_ ((by rw [hg];exact (bwZ (zb0 HB.out)) : w.heap.size ≤ gb330));have n3_ := As_ ((by rw [hg];exact (bwZ (zb0 HB.out)) : w.heap.size ≤ gb330));clear HB;have HB := n0_;have BK330 := n1_;have GW330 := n2_;have GE330 := n3_;clear n0_ n1_ n2_ n3_;clear hb hbox hg;have hcz6_0 : w5.cell? ⟨gb330,0,none⟩ = some (.int .i64 a0_0) := (bkC BK330.out 0).trans rfl;have hcz6_1 : w5.cell? ⟨gb330,1,none⟩ = some (.int .i64 a0_1) := (bkC BK330.out 1).trans rfl;have hcz6_2 : w5.cell? ⟨gb330,2,none⟩ = some (.slice A0_2 l0_2.length c0_2) := (bkC BK330.out 2).trans rfl;have hfz6_0 := bkF BK330.out 0;have hfz6_1 := bkF BK330.out 1;have hfz6_2 := bkF BK330.out 2)|((with_reducible refine gate_callee (f := 94) rfl ?_);refine goesL_ (some 8) rfl rfl Try.func94 (by kernel_rfl) rfl #[.slice A0_2 l0_2.length c0_2,.int .i64 a1] rfl zM_ ?_;(with_reducible refine (laws_szIntS.calls _ _ l0_2 a1 t331 _ ?side1 ?side2 A3.out).mono ?_);(case side1 => repeat (first|exact (Kd.C_below HR0_2.out HB.out)|(with_reducible refine Kd.C_alloc ?_ _)|(with_reducible refine Kd.C_drewN ?_ _)|(with_reducible refine Kd.C_drew ?_)));(case side2 => exact HC0_2.out);rintro e w' ⟨rfl,⟨nd,rfl⟩⟩;refine ⟨_,rfl,?_⟩))
  go_ret
  exact ⟨by first|rfl|(simp [errW_none,errW_some] <;> rfl)|(simp [*,errW_none,errW_some] <;> rfl),by repeat (first|(with_reducible first|exact HB.out|apply bwA|apply bwN|apply bwD|refine bwS ?_ GE330.out)|exact HB.out)⟩
 ·rw [if_neg c4] at H
  have c4b0 : decide (t331 < 0) = false := deF c4
  clear c4
  obtain rfl := Option.some.inj H
  go_enter Try.func78,Try.ntmps78
  go_wp2_with (first|((with_reducible refine gate_dst (N := 2) rfl ?_);refine box_event ?hg (N := 2) ?hd (cs := #[.int .i64 a0_0,.int .i64 a0_1,.slice A0_2 l0_2.length c0_2]) (t := 81) ?hr ?_;(case hd => rfl);(case hg => rfl);(case hr => go_simp <;> rfl);intro gb330 hg w7 hbox hb;have n0_ := As_ (bwT (zb0 HB.out) hb);have n1_ := As_ (hbox);have n2_ := As_ ((by rw [hg];exact (bwZ (zb0 HB.out)) : w.heap.size ≤ gb330));have n3_ := As_ ((by rw [hg];exact (bwZ (zb0 HB.out)) : w.heap.size ≤ gb330));clear HB;have HB := n0_;have BK330 := n1_;have GW330 := n2_;have GE330 := n3_;clear n0_ n1_ n2_ n3_;clear hb hbox hg;have hcz8_0 : w7.cell? ⟨gb330,0,none⟩ = some (.int .i64 a0_0) := (bkC BK330.out 0).trans rfl;have hcz8_1 : w7.cell? ⟨gb330,1,none⟩ = some (.int .i64 a0_1) := (bkC BK330.out 1).trans rfl;have hcz8_2 : w7.cell? ⟨gb330,2,none⟩ = some (.slice A0_2 l0_2.length c0_2) := (bkC BK330.out 2).trans rfl;have hfz8_0 := bkF BK330.out 0;have hfz8_1 := bkF BK330.out 1;have hfz8_2 := bkF BK330.out 2)|((with_reducible refine gate_callee (f := 94) rfl ?_);refine goesL_ (some 8) rfl rfl Try.func94 (by kernel_rfl) rfl #[.slice A0_2 l0_2.length c0_2,.int .i64 a1] rfl zM_ ?_;(with_reducible refine (laws_szIntS.calls _ _ l0_2 a1 t331 _ ?side1 ?side2 A3.out).mono ?_);(case side1 => repeat (first|exact (Kd.C_below HR0_2.out HB.out)|(with_reducible refine Kd.C_alloc ?_ _)|(with_reducible refine Kd.C_drewN ?_ _)|(with_reducible refine Kd.C_drew ?_)));(case side2 => exact HC0_2.out);rintro e w' ⟨rfl,⟨nd,rfl⟩⟩;refine ⟨_,rfl,?_⟩))
  go_ret
  exact ⟨by first|rfl|(simp [errW_none,errW_some] <;> rfl)|(simp [*,errW_none,errW_some] <;> rfl),by repeat (first|(with_reducible first|exact HB.out|apply bwA|apply bwN|apply bwD|refine bwS ?_ GE330.out)|exact HB.out)⟩

/-! ### laws_szNodeS: function 45 -/
def laws_szNodeS.l0 : Nat → List (S81) → Int → Int → Option (Int)
 | 0,_,_,_ => none
 | k + 1,x0,x1,x5 => if x5 < (x0.length : Int) then (if 0 ≤ x5 then ((laws_szNode.f ((rd_T81 x0 x5).f0) ((rd_T81 x0 x5).f1) ((rd_T81 x0 x5).f2) x1).bind fun t333 => (if t333 < 0 then (some (-1)) else (laws_szNodeS.l0 k x0 t333 (wrap64 (x5 + 1))))) else (none)) else (some x1)
def laws_szNodeS.f (k : Nat) (l0 : List (S81)) (a1 : Int) : Option (Int) := if (wrap64 (a1 - (l0.length : Int))) < 0 then (some (-1)) else (laws_szNodeS.l0 k l0 (wrap64 (a1 - (l0.length : Int))) 0)
set_option maxRecDepth 100000 in
theorem laws_szNodeS.mono_l : ∀ k,(∀ y0 y1 y2,LeO (laws_szNodeS.l0 k y0 y1 y2) (laws_szNodeS.l0 (k + 1) y0 y1 y2))
 | 0 => fun _ _ _ r h => (by cases h)
 | k + 1 => by
  have ih0 := laws_szNodeS.mono_l k
  ·intro y0 y1 y2
   unfold laws_szNodeS.l0
   repeat' first
   | (with_reducible exact ih0 _ _ _)
   | (with_reducible exact LeO.refl _)
   | (with_reducible exact LeO.none _)
   | (with_reducible refine LeO.ite ?_ ?_)
   | (with_reducible refine LeO.bind ?_ (fun _ => ?_))
   | exact ih0 _ _ _
   | exact LeO.none _
   | refine LeO.ite ?_ ?_
   | refine LeO.bind ?_ (fun _ => ?_)
set_option maxRecDepth 100000 in
theorem laws_szNodeS.mono : ∀ a0 a1 k,LeO (laws_szNodeS.f k a0 a1) (laws_szNodeS.f (k + 1) a0 a1) := by
 intro a0 a1 k
 have ih0 := laws_szNodeS.mono_l k
 unfold laws_szNodeS.f
 repeat' first
   | (with_reducible exact ih0 _ _ _)
   | (with_reducible exact LeO.refl _)
   | (with_reducible exact LeO.none _)
   | (with_reducible refine LeO.ite ?_ ?_)
   | (with_reducible refine LeO.bind ?_ (fun _ => ?_))
   | exact ih0 _ _ _
   | exact LeO.none _
   | refine LeO.ite ?_ ?_
   | refine LeO.bind ?_ (fun _ => ?_)
set_option maxHeartbeats 8000000 in
set_option maxRecDepth 100000 in
theorem laws_szNodeS.calls (k : Nat) (A0 : Option Addr) (c0 : Nat) (l0 : List (S81)) (a1 : Int) (r : Int) (w : World) (hr0 : Kd.C k81 w A0 l0.length l0) (hc0 : l0.length ≤ c0) (h : laws_szNodeS.f k l0 a1 = some r) :
  Calls Try.prog 45 #[.slice A0 l0.length c0,.int .i64 a1] w fun e w' => e = .returned (.int .i64 r) ∧ Below w.heap.size w w' := by
 have hu81 := Try.underlying81
 have HR0 := As_ hr0
 have HC0 := As_ hc0
 clear hr0 hc0
 have HB := As_ (Below.refl w.heap.size w)
 have H : (if (wrap64 (a1 - (l0.length : Int))) < 0 then (some (-1)) else (laws_szNodeS.l0 k l0 (wrap64 (a1 - (l0.length : Int))) 0)) = some r := h
 clear h
 by_cases c3 : (wrap64 (a1 - (l0.length : Int))) < 0
 ·rw [if_pos c3] at H
  have c3b0 : decide ((wrap64 (a1 - (l0.length : Int))) < 0) = true := deT c3
  clear c3
  obtain rfl := Option.some.inj H
  go_enter Try.func45,Try.ntmps45
  go_wp2
  go_ret
  exact ⟨by first|rfl|(simp [errW_none,errW_some] <;> rfl)|(simp [*,errW_none,errW_some] <;> rfl),by repeat (first|(with_reducible first|exact HB.out|apply bwA|apply bwN|apply bwD)|exact HB.out)⟩
 ·rw [if_neg c3] at H
  have c3b0 : decide ((wrap64 (a1 - (l0.length : Int))) < 0) = false := deF c3
  clear c3
  have H' := As_ H
  clear H
  go_enter Try.func45,Try.ntmps45
  go_wp2
  go_loopg [1,5] k (fun kq v1 v5 w' => ∃ (x1_1 : Int) (x5_1 : Int),v1 = .int .i64 x1_1 ∧ v5 = .int .i64 x5_1 ∧ Aside0 (laws_szNodeS.l0 kq l0 x1_1 x5_1 = some r) ∧ Aside0 (kq ≤ k) ∧ Aside0 (Below w.heap.size w w'))
  case atStart => exact ⟨(wrap64 (a1 - (l0.length : Int))),(0),zT_,zT_,H',⟨Nat.le_refl _⟩,⟨by repeat (first|(with_reducible first|exact HB.out|apply bwA|apply bwN|apply bwD)|exact HB.out)⟩⟩
  case round =>
   clear H'
   try clear p2
   try clear c3
   try clear c3b0
   obtain ⟨x1_1,x5_1,rfl,rfl,HA,HK1,HB⟩ := hrel
   cases gk with
   | zero => exact absurd HA.out (fun h_ => (by cases h_))
   | succ k1 =>
    have H := HA.out
    clear HA
    simp only [laws_szNodeS.l0] at H
    by_cases c4 : x5_1 < (l0.length : Int)
    ·rw [if_pos c4] at H
     have c4b0 : decide (x5_1 < (l0.length : Int)) = true := deT c4
     clear c4
     by_cases c5 : 0 ≤ x5_1
     rotate_left
     ·rw [if_neg c5] at H
      exact absurd H (by simp)
     rw [if_pos c5] at H
     have c5b0 : decide (0 ≤ x5_1) = true := deT c5
     clear c5
     replace H := obS H
     obtain ⟨t333,A60,H⟩ := H
     replace H : (if t333 < 0 then (some (-1)) else (laws_szNodeS.l0 k1 l0 t333 (wrap64 (x5_1 + 1)))) = some r := H
     have A6 := As_ A60
     clear A60
     by_cases c7 : t333 < 0
     ·rw [if_pos c7] at H
      have c7b0 : decide (t333 < 0) = true := deT c7
      clear c7
      obtain rfl := Option.some.inj H
      have p332 : 0 ≤ (x5_1 : Int) := odT zA_
      have q332 : x5_1 < (l0.length : Int) := odT zA_
      obtain ⟨ad332,A332_2,c332_2,e332,hx332_0,hx332_1,hx332_2,hl332_2,hi332_2⟩ := at_T81 HR0.out x5_1 p332 q332
      cases e332
      replace hx332_0 := (HB.out.cell (bwL w _ hx332_0)).trans hx332_0
      replace hx332_1 := (HB.out.cell (bwL w _ hx332_1)).trans hx332_1
      replace hx332_2 := (HB.out.cell (bwL w _ hx332_2)).trans hx332_2
      have HR332_2 := As_ hi332_2
      have HC332_2 := As_ hl332_2
      clear hi332_2 hl332_2
      replace p332 := eq_true p332
      replace q332 := eq_true q332
      go_wp2_with (first|((with_reducible refine gate_callee (f := 78) rfl ?_);refine goesL_ (some 23) rfl rfl Try.func78 (by kernel_rfl) rfl #[.agg #[.int .i64 ((rd_T81 l0 x5_1).f0),.int .i64 ((rd_T81 l0 x5_1).f1),.slice A332_2 ((rd_T81 l0 x5_1).f2).length c332_2],.int .i64 x1_1] rfl zM_ ?_;(with_reducible refine (laws_szNode.calls ((rd_T81 l0 x5_1).f0) ((rd_T81 l0 x5_1).f1) _ _ ((rd_T81 l0 x5_1).f2) x1_1 t333 _ ?side1 ?side2 A6.out).mono ?_);(case side1 => repeat (first|exact (Kd.C_below HR332_2.out HB.out)|(with_reducible refine Kd.C_alloc ?_ _)|(with_reducible refine Kd.C_drewN ?_ _)|(with_reducible refine Kd.C_drew ?_)));(case side2 => exact HC332_2.out);rintro e w8 ⟨rfl,hb⟩;refine ⟨_,rfl,?_⟩;have n0_ := As_ (bwT (zb0 HB.out) hb);clear HB;have HB := n0_;clear n0_;(try clear hb);(try clear hb2);(try clear hk);(try clear hi)))
      go_ret
      exact ⟨by first|rfl|(simp [errW_none,errW_some] <;> rfl)|(simp [*,errW_none,errW_some] <;> rfl),by repeat (first|(with_reducible first|exact HB.out|apply bwA|apply bwN|apply bwD)|exact HB.out)⟩
     ·rw [if_neg c7] at H
      have c7b0 : decide (t333 < 0) = false := deF c7
      clear c7
      have H' := As_ H
      clear H
      have p332 : 0 ≤ (x5_1 : Int) := odT zA_
      have q332 : x5_1 < (l0.length : Int) := odT zA_
      obtain ⟨ad332,A332_2,c332_2,e332,hx332_0,hx332_1,hx332_2,hl332_2,hi332_2⟩ := at_T81 HR0.out x5_1 p332 q332
      cases e332
      replace hx332_0 := (HB.out.cell (bwL w _ hx332_0)).trans hx332_0
      replace hx332_1 := (HB.out.cell (bwL w _ hx332_1)).trans hx332_1
      replace hx332_2 := (HB.out.cell (bwL w _ hx332_2)).trans hx332_2
      have HR332_2 := As_ hi332_2
      have HC332_2 := As_ hl332_2
      clear hi332_2 hl332_2
      replace p332 := eq_true p332
      replace q332 := eq_true q332
      go_wp2_with (first|((with_reducible refine gate_callee (f := 78) rfl ?_);refine goesL_ (some 23) rfl rfl Try.func78 (by kernel_rfl) rfl #[.agg #[.int .i64 ((rd_T81 l0 x5_1).f0),.int .i64 ((rd_T81 l0 x5_1).f1),.slice A332_2 ((rd_T81 l0 x5_1).f2).length c332_2],.int .i64 x1_1] rfl zM_ ?_;(with_reducible refine (laws_szNode.calls ((rd_T81 l0 x5_1).f0) ((rd_T81 l0 x5_1).f1) _ _ ((rd_T81 l0 x5_1).f2) x1_1 t333 _ ?side1 ?side2 A6.out).mono ?_);(case side1 => repeat (first|exact (Kd.C_below HR332_2.out HB.out)|(with_reducible refine Kd.C_alloc ?_ _)|(with_reducible refine Kd.C_drewN ?_ _)|(with_reducible refine Kd.C_drew ?_)));(case side2 => exact HC332_2.out);rintro e w9 ⟨rfl,hb⟩;refine ⟨_,rfl,?_⟩;have n0_ := As_ (bwT (zb0 HB.out) hb);clear HB;have HB := n0_;clear n0_;(try clear hb);(try clear hb2);(try clear hk);(try clear hi)))
      go_roundg k1
      case measure => have := HK1.out;omega
      case rel => exact ⟨(t333),(wrap64 (x5_1 + 1)),zT_,zT_,H',⟨by have := HK1.out;omega⟩,⟨by repeat (first|(with_reducible first|exact HB.out|apply bwA|apply bwN|apply bwD)|exact HB.out)⟩⟩
    ·rw [if_neg c4] at H
     have c4b0 : decide (x5_1 < (l0.length : Int)) = false := deF c4
     clear c4
     obtain rfl := Option.some.inj H
     go_wp2
     go_ret
     exact ⟨by first|rfl|(simp [errW_none,errW_some] <;> rfl)|(simp [*,errW_none,errW_some] <;> rfl),by repeat (first|(with_reducible first|exact HB.out|apply bwA|apply bwN|apply bwD)|exact HB.out)⟩

/-! ### laws_szGraph: function 16 -/
def laws_szGraph.f (k : Nat) (l0_0 : List (S81)) (a0_1 : Int) (a1 : Int) : Option (Int) := (laws_szNodeS.f k l0_0 a1).bind fun t335 => (if t335 < 0 then (some (-1)) else (some t335))
set_option maxRecDepth 100000 in
theorem laws_szGraph.mono : ∀ a0 a1 a2 k,LeO (laws_szGraph.f k a0 a1 a2) (laws_szGraph.f (k + 1) a0 a1 a2) := by
 intro a0 a1 a2 k
 unfold laws_szGraph.f
 repeat' first
   | (with_reducible exact laws_szNodeS.mono _ _ _)
   | (with_reducible exact LeO.refl _)
   | (with_reducible exact LeO.none _)
   | (with_reducible refine LeO.ite ?_ ?_)
   | (with_reducible refine LeO.bind ?_ (fun _ => ?_))
   | exact laws_szNodeS.mono _ _ _
   | exact LeO.none _
   | refine LeO.ite ?_ ?_
   | refine LeO.bind ?_ (fun _ => ?_)
set_option maxHeartbeats 8000000 in
set_option maxRecDepth 100000 in
theorem laws_szGraph.calls (k : Nat) (A0_0 : Option Addr) (c0_0 : Nat) (l0_0 : List (S81)) (a0_1 : Int) (a1 : Int) (r : Int) (w : World) (hr0_0 : Kd.C k81 w A0_0 l0_0.length l0_0) (hc0_0 : l0_0.length ≤ c0_0) (h : laws_szGraph.f k l0_0 a0_1 a1 = some r) :
  Calls Try.prog 16 #[.agg #[.slice A0_0 l0_0.length c0_0,.int .i64 a0_1],.int .i64 a1] w fun e w' => e = .returned (.int .i64 r) ∧ Below w.heap.size w w' := by
 have hu35 := Try.underlying35
 have HR0_0 := As_ hr0_0
 have HC0_0 := As_ hc0_0
 clear hr0_0 hc0_0
 have HB := As_ (Below.refl w.heap.size w)
 have H : ((laws_szNodeS.f k l0_0 a1).bind fun t335 => (if t335 < 0 then (some (-1)) else (some t335))) = some r := h
 clear h
 replace H := obS H
 obtain ⟨t335,A30,H⟩ := H
 replace H : (if t335 < 0 then (some (-1)) else (some t335)) = some r := H
 have A3 := As_ A30
 clear A30
 by_cases c4 : t335 < 0
 ·rw [if_pos c4] at H
  have c4b0 : decide (t335 < 0) = true := deT c4
  clear c4
  obtain rfl := Option.some.inj H
  go_enter Try.func16,Try.ntmps16
  go_wp2_with (first|((with_reducible refine gate_dst (N := 2) rfl ?_);refine box_event ?hg (N := 2) ?hd (cs := #[.slice A0_0 l0_0.length c0_0,.int .i64 a0_1]) (t := 35) ?hr ?_;(case hd => rfl);(case hg => rfl);(case hr => go_simp <;> rfl);intro gb334 hg w5 hbox hb;have n0_ := As_ (bwT (zb0 HB.out) hb);have n1_ := As_ (hbox);have n2_ := As_ ((by rw [hg];exact (bwZ (zb0 HB.out)) : w.heap.size ≤ gb334));have n3_ := As_ ((by rw [hg];exact (bwZ (zb0 HB.out)) : w.heap.size ≤ gb334));clear HB;have HB := n0_;have BK334 := n1_;have GW334 := n2_;have GE334 := n3_;clear n0_ n1_ n2_ n3_;clear hb hbox hg;have hcz6_0 : w5.cell? ⟨gb334,0,none⟩ = some (.slice A0_0 l0_0.length c0_0) := (bkC BK334.out 0).trans rfl;have hcz6_1 : w5.cell? ⟨gb334,1,none⟩ = some (.int .i64 a0_1) := (bkC BK334.out 1).trans rfl;have hfz6_0 := bkF BK334.out 0;have hfz6_1 := bkF BK334.out 1)|((with_reducible refine gate_callee (f := 45) rfl ?_);refine goesL_ (some 8) rfl rfl Try.func45 (by kernel_rfl) rfl #[.slice A0_0 l0_0.length c0_0,.int .i64 a1] rfl zM_ ?_;(with_reducible refine (laws_szNodeS.calls k _ _ l0_0 a1 t335 _ ?side1 ?side2 A3.out).mono ?_);(case side1 => repeat (first|exact (Kd.C_below HR0_0.out HB.out)|(with_reducible refine Kd.C_alloc ?_ _)|(with_reducible refine Kd.C_drewN ?_ _)|(with_reducible refine Kd.C_drew ?_)));(case side2 => exact HC0_0.out);rintro e w7 ⟨rfl,hb⟩;refine ⟨_,rfl,?_⟩;have n0_ := As_ (zkb BK334.out hb);have n1_ := As_ (bwT (zb1 HB.out GE334.out) hb);clear BK334;clear HB;have BK334 := n0_;have HB := n1_;clear n0_ n1_;(try clear hb);(try clear hb2);(try clear hk);(try clear hi)))
  go_ret
  exact ⟨by first|rfl|(simp [errW_none,errW_some] <;> rfl)|(simp [*,errW_none,errW_some] <;> rfl),by repeat (first|(with_reducible first|exact HB.out|apply bwA|apply bwN|apply bwD|refine bwS ?_ GE334.out)|exact HB.out)⟩
 ·rw [if_neg c4] at H
  have c4b0 : decide (t335 < 0) = false := deF c4
  clear c4
  obtain rfl := Option.some.inj H
  go_enter Try.func16,Try.ntmps16
  go_wp2_with (first|((with_reducible refine gate_dst (N := 2) rfl ?_);refine box_event ?hg (N := 2) ?hd (cs := #[.slice A0_0 l0_0.length c0_0,.int .i64 a0_1]) (t := 35) ?hr ?_;(case hd => rfl);(case hg => rfl);(case hr => go_simp <;> rfl);intro gb334 hg w8 hbox hb;have n0_ := As_ (bwT (zb0 HB.out) hb);have n1_ := As_ (hbox);have n2_ := As_ ((by rw [hg];exact (bwZ (zb0 HB.out)) : w.heap.size ≤ gb334));have n3_ := As_ ((by rw [hg];exact (bwZ (zb0 HB.out)) : w.heap.size ≤ gb334));clear HB;have HB := n0_;have BK334 := n1_;have GW334 := n2_;have GE334 := n3_;clear n0_ n1_ n2_ n3_;clear hb hbox hg;have hcz9_0 : w8.cell? ⟨gb334,0,none⟩ = some (.slice A0_0 l0_0.length c0_0) := (bkC BK334.out 0).trans rfl;have hcz9_1 : w8.cell? ⟨gb334,1,none⟩ = some (.int .i64 a0_1) := (bkC BK334.out 1).trans rfl;have hfz9_0 := bkF BK334.out 0;have hfz9_1 := bkF BK334.out 1)|((with_reducible refine gate_callee (f := 45) rfl ?_);refine goesL_ (some 8) rfl rfl Try.func45 (by kernel_rfl) rfl #[.slice A0_0 l0_0.length c0_0,.int .i64 a1] rfl zM_ ?_;(with_reducible refine (laws_szNodeS.calls k _ _ l0_0 a1 t335 _ ?side1 ?side2 A3.out).mono ?_);(case side1 => repeat (first|exact (Kd.C_below HR0_0.out HB.out)|(with_reducible refine Kd.C_alloc ?_ _)|(with_reducible refine Kd.C_drewN ?_ _)|(with_reducible refine Kd.C_drew ?_)));(case side2 => exact HC0_0.out);rintro e w10 ⟨rfl,hb⟩;refine ⟨_,rfl,?_⟩;have n0_ := As_ (zkb BK334.out hb);have n1_ := As_ (bwT (zb1 HB.out GE334.out) hb);clear BK334;clear HB;have BK334 := n0_;have HB := n1_;clear n0_ n1_;(try clear hb);(try clear hb2);(try clear hk);(try clear hi)))
  go_ret
  exact ⟨by first|rfl|(simp [errW_none,errW_some] <;> rfl)|(simp [*,errW_none,errW_some] <;> rfl),by repeat (first|(with_reducible first|exact HB.out|apply bwA|apply bwN|apply bwD|refine bwS ?_ GE334.out)|exact HB.out)⟩

/-! ### laws_toIntS: function 18 -/
def laws_toIntS.l0 : Nat → List Int → List Int → Int → Option (List Int)
 | 0,_,_,_ => none
 | k + 1,x0,x3,x4 => if x4 < (x0.length : Int) then (if 0 ≤ x4 then (if x4 < (x3.length : Int) then (laws_toIntS.l0 k x0 (x3.set (x4 : Int).toNat (rd x0 x4)) (wrap64 (x4 + 1))) else (none)) else (none)) else (some x3)
def laws_toIntS.f (k : Nat) (l0 : List Int) : Option (List Int) := if 0 ≤ (l0.length : Int) then (if ((l0.length : Int) : Int).toNat ≤ 35184372088832 then (laws_toIntS.l0 k l0 (List.replicate ((l0.length : Int) : Int).toNat 0) 0) else (none)) else (none)
set_option maxRecDepth 100000 in
theorem laws_toIntS.mono_l : ∀ k,(∀ y0 y1 y2,LeO (laws_toIntS.l0 k y0 y1 y2) (laws_toIntS.l0 (k + 1) y0 y1 y2))
 | 0 => fun _ _ _ r h => (by cases h)
 | k + 1 => by
  have ih0 := laws_toIntS.mono_l k
  ·intro y0 y1 y2
   unfold laws_toIntS.l0
   repeat' first
   | (with_reducible exact ih0 _ _ _)
   | (with_reducible exact LeO.refl _)
   | (with_reducible exact LeO.none _)
   | (with_reducible refine LeO.ite ?_ ?_)
   | (with_reducible refine LeO.bind ?_ (fun _ => ?_))
   | exact ih0 _ _ _
   | exact LeO.none _
   | refine LeO.ite ?_ ?_
   | refine LeO.bind ?_ (fun _ => ?_)
set_option maxRecDepth 100000 in
theorem laws_toIntS.mono : ∀ a0 k,LeO (laws_toIntS.f k a0) (laws_toIntS.f (k + 1) a0) := by
 intro a0 k
 have ih0 := laws_toIntS.mono_l k
 unfold laws_toIntS.f
 repeat' first
   | (with_reducible exact ih0 _ _ _)
   | (with_reducible exact LeO.refl _)
   | (with_reducible exact LeO.none _)
   | (with_reducible refine LeO.ite ?_ ?_)
   | (with_reducible refine LeO.bind ?_ (fun _ => ?_))
   | exact ih0 _ _ _
   | exact LeO.none _
   | refine LeO.ite ?_ ?_
   | refine LeO.bind ?_ (fun _ => ?_)
set_option maxHeartbeats 8000000 in
set_option maxRecDepth 100000 in
theorem laws_toIntS.calls (k : Nat) (A0 : Option Addr) (c0 : Nat) (l0 : List Int) (r : List Int) (w : World) (hr0 : Kd.C (Kd.int .i64) w A0 l0.length l0) (hc0 : l0.length ≤ c0) (h : laws_toIntS.f k l0 = some r) :
  Calls Try.prog 18 #[.slice A0 l0.length c0] w fun e w' => ∃ v0_ : Value,e = .returned (v0_) ∧ Kd.R (Kd.int .i64) 3 w' w.heap.size (fun _ => True) v0_ r ∧ Below w.heap.size w w' := by
 have HR0 := As_ hr0
 have HC0 := As_ hc0
 clear hr0 hc0
 have HB := As_ (Below.refl w.heap.size w)
 have H : (if 0 ≤ (l0.length : Int) then (if ((l0.length : Int) : Int).toNat ≤ 35184372088832 then (laws_toIntS.l0 k l0 (List.replicate ((l0.length : Int) : Int).toNat 0) 0) else (none)) else (none)) = some r := h
 clear h
 by_cases c2 : 0 ≤ (l0.length : Int)
 rotate_left
 ·rw [if_neg c2] at H
  exact absurd H (by simp)
 rw [if_pos c2] at H
 have c2b0 := eq_true c2
 have c2b1 : decide (0 ≤ (l0.length : Int)) = true := deT c2
 clear c2
 by_cases c3 : ((l0.length : Int) : Int).toNat ≤ 35184372088832
 rotate_left
 ·rw [if_neg c3] at H
  exact absurd H (by simp)
 rw [if_pos c3] at H
 have c3b0 := eq_true c3
 have c3b1 : decide (((l0.length : Int) : Int).toNat ≤ 35184372088832) = true := deT c3
 clear c3
 obtain ⟨y336,hy336⟩ : ∃ y_ : List Int,y_ = (List.replicate ((l0.length : Int) : Int).toNat 0) := ⟨_,rfl⟩
 replace H : (laws_toIntS.l0 k l0 y336 0) = some r := by first|(rw [hy336];with_reducible exact H)|(have H2_ := (Option.bind_some _ _).symm.trans H;rw [hy336];with_reducible exact H2_)|(have H2_ := (Option.bind_some _ _).symm.trans H;with_reducible exact H2_)|with_reducible exact H|(rw [hy336];exact H)|exact H
 have Ny336 := As_ hy336
 clear hy336
 have H' := As_ H
 clear H
 go_enter Try.func18,Try.ntmps18
 go_wp2_with (first|((with_reducible refine gate_dst (N := 7) rfl ?_);refine Kd.R_make (Kd.int .i64) _ 3 rfl (N := 7) rfl 26 _ _ rfl (l0.length : Int) rfl rfl Try.underlying26 (.int .i64 0) 8 info3 rfl (by decide) (by omega) 0 (ok := fun _ => True) (okp := fun _ => True) rfl (fun _ hk => hk) trivial (odT zA_) (Nat.le_trans (Nat.mul_le_mul_right _ (odT zA_ : (l0.length : Int).toNat ≤ 35184372088832)) (by omega)) (Below.refl _ _) (Nat.le_refl _) ?_;intro v337 w4 ho5 hb hg_ hnew_;clear hg_ hnew_;(first|rw [← Ny336.out] at ho5|(simp only [Int.reduceToNat] at ho5;rw [← Ny336.out] at ho5));have n0_ := As_ (Kd.R_lower ho5 (bwZ (zb0 HB.out)));have n1_ := As_ (bwT (zb0 HB.out) hb);clear HB;have HO338 := n0_;have HB := n1_;clear n0_ n1_;clear hb ho5))
 go_loopg [4] k (fun kq v4 w' => ∃ (x3_1 : List Int) (x4_1 : Int),v4 = .int .i64 x4_1 ∧ Aside0 (laws_toIntS.l0 kq l0 x3_1 x4_1 = some r) ∧ Aside0 (kq ≤ k) ∧ Aside0 (Kd.R (Kd.int .i64) 3 w' w.heap.size (fun _ => True) v337 x3_1) ∧ Aside0 (Below w.heap.size w w'))
 case atStart => exact ⟨(y336),(0),zT_,H',⟨Nat.le_refl _⟩,⟨by (with_reducible repeat (first|apply Kd.R_alloc|apply Kd.R_drewN|apply Kd.R_drew));exact HO338.out⟩,⟨by repeat (first|(with_reducible first|exact HB.out|apply bwA|apply bwN|apply bwD)|exact HB.out)⟩⟩
 case round =>
  clear H'
  try clear c1
  try clear c2
  try clear c2b0
  try clear c2b1
  try clear p2
  try clear c3
  try clear c3b0
  try clear c3b1
  obtain ⟨x3_1,x4_1,rfl,HA,HK1,HO_3,HB⟩ := hrel
  cases gk with
  | zero => exact absurd HA.out (fun h_ => (by cases h_))
  | succ k1 =>
   have H := HA.out
   clear HA
   simp only [laws_toIntS.l0] at H
   by_cases c6 : x4_1 < (l0.length : Int)
   ·rw [if_pos c6] at H
    have c6b0 : decide (x4_1 < (l0.length : Int)) = true := deT c6
    clear c6
    by_cases c7 : 0 ≤ x4_1
    rotate_left
    ·rw [if_neg c7] at H
     exact absurd H (by simp)
    rw [if_pos c7] at H
    have c7b0 : decide (0 ≤ x4_1) = true := deT c7
    clear c7
    by_cases c8 : x4_1 < (x3_1.length : Int)
    rotate_left
    ·rw [if_neg c8] at H
     exact absurd H (by simp)
    rw [if_pos c8] at H
    have c8b0 : decide (x4_1 < (x3_1.length : Int)) = true := deT c8
    clear c8
    obtain ⟨y340,hy340⟩ : ∃ y_ : List Int,y_ = (x3_1.set (x4_1 : Int).toNat (rd l0 x4_1)) := ⟨_,rfl⟩
    replace H : (laws_toIntS.l0 k1 l0 y340 (wrap64 (x4_1 + 1))) = some r := by first|(rw [hy340];with_reducible exact H)|(have H2_ := (Option.bind_some _ _).symm.trans H;rw [hy340];with_reducible exact H2_)|(have H2_ := (Option.bind_some _ _).symm.trans H;with_reducible exact H2_)|with_reducible exact H|(rw [hy340];exact H)|exact H
    have Ny340 := As_ hy340
    clear hy340
    have H' := As_ H
    clear H
    have p339 : 0 ≤ (x4_1 : Int) := odT zA_
    have q339 : x4_1 < (l0.length : Int) := odT zA_
    obtain ⟨ad339,e339,hx339_0⟩ := Kd.at_int HR0.out x4_1 p339 q339
    cases e339
    replace hx339_0 := (HB.out.cell (bwL w _ hx339_0)).trans hx339_0
    replace p339 := eq_true p339
    replace q339 := eq_true q339
    have p9 : 0 ≤ (x4_1 : Int) := odT zA_
    have q9 : (x4_1 : Int) < ((x3_1.length : Int) : Int) := odT zA_
    obtain ⟨go9,co9,eo9,gb9,gl9,cl9,HG9⟩ := Kd.R_form HO_3.out (by omega)
    (first|cases eo9|(injection eo9 with ea_ en_ ec_;(first|subst ea_|(injection ea_ with ea_;subst ea_));subst ec_;clear en_))
    have GB9 := As_ gb9
    have GG9 := As_ HG9
    clear gb9 gl9 HG9
    obtain ⟨hx9_0,hf9_0⟩ := Kd.R_celln 0 HO_3.out (x4_1 : Int) p9 q9
    replace p9 := eq_true p9
    replace q9 := eq_true q9
    have HP10 := Kd.R_putg HO_3.out (x4_1 : Int) (rd l0 x4_1)
    go_wp2_with (first|((with_reducible refine gate_store (t := 3) (p := 20) rfl ?_);refine store_event (t := 3) (p := 20) (v := ?vo_w11) (w1 := (wr.setCell ⟨go9,(x4_1 : Int).toNat,none⟩ (.int .i64 (rd l0 x4_1)))) ?hg ?ho ?hn ?hr ?_;(case ho => rfl);(case hg => rfl);(case hn => rfl);(case hr => go_simp <;> rfl);intro w11 hw;have hg : wr.grownBy w11 (some go9) := (by rw [hw];exact HP10.2);have hp_ : Kd.R (Kd.int .i64) 3 w11 w.heap.size (fun _ => True) (.slice (some ⟨go9,0,none⟩) x3_1.length co9) y340 := (by rw [hw,Ny340.out];exact HP10.1);clear HP10;have n0_ := As_ (hp_);have n1_ := As_ ((by rw [hw];exact bwS (HB.out) GB9.out : Below w.heap.size w w11));clear HO_3;clear HB;have HO_3 := n0_;have HB := n1_;clear n0_ n1_;clear hg hw hp_))
    go_roundg k1
    case measure => have := HK1.out;omega
    case rel => exact ⟨(y340),(wrap64 (x4_1 + 1)),zT_,H',⟨by have := HK1.out;omega⟩,⟨by (with_reducible repeat (first|apply Kd.R_alloc|apply Kd.R_drewN|apply Kd.R_drew));exact HO_3.out⟩,⟨by repeat (first|(with_reducible first|exact HB.out|apply bwA|apply bwN|apply bwD)|exact HB.out)⟩⟩
   ·rw [if_neg c6] at H
    have c6b0 : decide (x4_1 < (l0.length : Int)) = false := deF c6
    clear c6
    obtain rfl := Option.some.inj H
    go_wp2
    go_ret
    exact ⟨_,by first|rfl|(simp [errW_none,errW_some] <;> rfl)|(simp [*,errW_none,errW_some] <;> rfl),by (with_reducible repeat (first|apply Kd.R_alloc|apply Kd.R_drewN|apply Kd.R_drew));exact HO_3.out,by repeat (first|(with_reducible first|exact HB.out|apply bwA|apply bwN|apply bwD)|exact HB.out)⟩

/-! ### laws_toNode: function 79 -/
def laws_toNode.f (k : Nat) (a0_0 : Int) (a0_1 : Int) (l0_2 : List Int) : Option (Int × Int × List Int) := (laws_toIntS.f k l0_2).bind fun t344 => (some (a0_0,a0_1,t344))
set_option maxRecDepth 100000 in
theorem laws_toNode.mono : ∀ a0 a1 a2 k,LeO (laws_toNode.f k a0 a1 a2) (laws_toNode.f (k + 1) a0 a1 a2) := by
 intro a0 a1 a2 k
 unfold laws_toNode.f
 repeat' first
   | (with_reducible exact laws_toIntS.mono _ _)
   | (with_reducible exact LeO.refl _)
   | (with_reducible exact LeO.none _)
   | (with_reducible refine LeO.ite ?_ ?_)
   | (with_reducible refine LeO.bind ?_ (fun _ => ?_))
   | exact laws_toIntS.mono _ _
   | exact LeO.none _
   | refine LeO.ite ?_ ?_
   | refine LeO.bind ?_ (fun _ => ?_)
set_option maxHeartbeats 8000000 in
set_option maxRecDepth 100000 in
theorem laws_toNode.calls (k : Nat) (a0_0 : Int) (a0_1 : Int) (A0_2 : Option Addr) (c0_2 : Nat) (l0_2 : List Int) (r1 : Int) (r2 : Int) (r3 : List Int) (w : World) (hr0_2 : Kd.C (Kd.int .i64) w A0_2 l0_2.length l0_2) (hc0_2 : l0_2.length ≤ c0_2) (h : laws_toNode.f k a0_0 a0_1 l0_2 = some (r1,r2,r3)) :
  Calls Try.prog 79 #[.agg #[.int .i64 a0_0,.int .i64 a0_1,.slice A0_2 l0_2.length c0_2]] w fun e w' => ∃ v2_ : Value,e = .returned (.agg #[.int .i64 r1,.int .i64 r2,v2_]) ∧ Kd.R (Kd.int .i64) 3 w' w.heap.size (fun _ => True) v2_ r3 ∧ Below w.heap.size w w' := by
 have hu81 := Try.underlying81
 have hu58 := Try.underlying58
 have HR0_2 := As_ hr0_2
 have HC0_2 := As_ hc0_2
 clear hr0_2 hc0_2
 have HB := As_ (Below.refl w.heap.size w)
 have H : ((laws_toIntS.f k l0_2).bind fun t344 => (some (a0_0,a0_1,t344))) = some (r1,r2,r3) := h
 clear h
 replace H := obS H
 obtain ⟨t344,A20,H⟩ := H
 replace H : (some (a0_0,a0_1,t344)) = some (r1,r2,r3) := H
 have A2 := As_ A20
 clear A20
 simp only [Option.some.injEq,Prod.mk.injEq] at H
 obtain ⟨rfl,rfl,rfl⟩ := H
 go_enter Try.func79,Try.ntmps79
 go_wp2_with (first|((with_reducible refine gate_dst (N := 1) rfl ?_);refine box_event ?hg (N := 1) ?hd (cs := #[.int .i64 a0_0,.int .i64 a0_1,.slice A0_2 l0_2.length c0_2]) (t := 81) ?hr ?_;(case hd => rfl);(case hg => rfl);(case hr => go_simp <;> rfl);intro gb341 hg w3 hbox hb;have n0_ := As_ (bwT (zb0 HB.out) hb);have n1_ := As_ (hbox);have n2_ := As_ ((by rw [hg];exact (bwZ (zb0 HB.out)) : w.heap.size ≤ gb341));have n3_ := As_ ((by rw [hg];exact (bwZ (zb0 HB.out)) : w.heap.size ≤ gb341));clear HB;have HB := n0_;have BK341 := n1_;have GW341 := n2_;have GE341 := n3_;clear n0_ n1_ n2_ n3_;clear hb hbox hg)|((with_reducible refine gate_dst (N := 2) rfl ?_);refine box_event ?hg (N := 2) ?hd (cs := #[.int .i64 0,.int .i64 0,.slice none 0 0]) (t := 58) ?hr ?_;(case hd => rfl);(case hg => rfl);(case hr => go_simp <;> rfl);intro gb342 hg w4 hbox hb;have n0_ := As_ (zkb BK341.out hb);have n1_ := As_ (bwT (zb1 HB.out GE341.out) hb);have n2_ := As_ (hbox);have n3_ := As_ ((by rw [hg];exact (bwZ (zb1 HB.out GE341.out)) : w.heap.size ≤ gb342));have n4_ := As_ ((by rw [hg];exact (bwZ (zb1 HB.out GE341.out)) : w.heap.size ≤ gb342));have n5_ := As_ ((by rw [hg];exact Nat.ne_of_lt (zkl BK341.out) : gb341 ≠ gb342));have n6_ := As_ ((by rw [hg];exact Nat.ne_of_gt (zkl BK341.out) : gb342 ≠ gb341));clear BK341;clear HB;have BK341 := n0_;have HB := n1_;have BK342 := n2_;have GW342 := n3_;have GE342 := n4_;have NB341_342 := n5_;have NB342_341 := n6_;clear n0_ n1_ n2_ n3_ n4_ n5_ n6_;clear hb hbox hg)|((with_reducible refine gate_dst (N := 3) rfl ?_);refine box_event ?hg (N := 3) ?hd (cs := #[.int .i64 0,.int .i64 0,.slice none 0 0]) (t := 58) ?hr ?_;(case hd => rfl);(case hg => rfl);(case hr => go_simp <;> rfl);intro gb343 hg w5 hbox hb;have n0_ := As_ (zkb BK341.out hb);have n1_ := As_ (zkb BK342.out hb);have n2_ := As_ (bwT (zb2 HB.out GE341.out GE342.out) hb);have n3_ := As_ (hbox);have n4_ := As_ ((by rw [hg];exact (bwZ (zb2 HB.out GE341.out GE342.out)) : w.heap.size ≤ gb343));have n5_ := As_ ((by rw [hg];exact (bwZ (zb2 HB.out GE341.out GE342.out)) : w.heap.size ≤ gb343));have n6_ := As_ ((by rw [hg];exact Nat.ne_of_lt (zkl BK341.out) : gb341 ≠ gb343));have n7_ := As_ ((by rw [hg];exact Nat.ne_of_gt (zkl BK341.out) : gb343 ≠ gb341));have n8_ := As_ ((by rw [hg];exact Nat.ne_of_lt (zkl BK342.out) : gb342 ≠ gb343));have n9_ := As_ ((by rw [hg];exact Nat.ne_of_gt (zkl BK342.out) : gb343 ≠ gb342));clear BK341;clear BK342;clear HB;have BK341 := n0_;have BK342 := n1_;have HB := n2_;have BK343 := n3_;have GW343 := n4_;have GE343 := n5_;have NB341_343 := n6_;have NB343_341 := n7_;have NB342_343 := n8_;have NB343_342 := n9_;clear n0_ n1_ n2_ n3_ n4_ n5_ n6_ n7_ n8_ n9_;clear hb hbox hg;have hnb6 := NB341_342.out;have hnc6 := NB342_341.out;have hnb7 := NB341_343.out;have hnc7 := NB343_341.out;have hcz8_0 : w5.cell? ⟨gb341,0,none⟩ = some (.int .i64 a0_0) := (bkC BK341.out 0).trans rfl;have hcz8_1 : w5.cell? ⟨gb341,1,none⟩ = some (.int .i64 a0_1) := (bkC BK341.out 1).trans rfl;have hcz8_2 : w5.cell? ⟨gb341,2,none⟩ = some (.slice A0_2 l0_2.length c0_2) := (bkC BK341.out 2).trans rfl;have hfz8_0 := bkF BK341.out 0;have hfz8_1 := bkF BK341.out 1;have hfz8_2 := bkF BK341.out 2;have hnb9 := NB343_342.out;have hnc9 := NB342_343.out;have hcz10_0 : w5.cell? ⟨gb343,0,none⟩ = some (.int .i64 0) := (bkC BK343.out 0).trans rfl;have hcz10_1 : w5.cell? ⟨gb343,1,none⟩ = some (.int .i64 0) := (bkC BK343.out 1).trans rfl;have hcz10_2 : w5.cell? ⟨gb343,2,none⟩ = some (.slice none 0 0) := (bkC BK343.out 2).trans rfl;have hfz10_0 := bkF BK343.out 0;have hfz10_1 := bkF BK343.out 1;have hfz10_2 := bkF BK343.out 2)|((with_reducible refine gate_callee (f := 18) rfl ?_);refine goesL_ (some 12) rfl rfl Try.func18 (by kernel_rfl) rfl #[.slice A0_2 l0_2.length c0_2] rfl zM_ ?_;(with_reducible refine (laws_toIntS.calls k _ _ l0_2 t344 _ ?side1 ?side2 A2.out).mono ?_);(case side1 => exact Kd.C_below HR0_2.out (zb3 HB.out GE341.out GE342.out GE343.out));(case side2 => exact HC0_2.out);rintro e w11 ⟨v345,rfl,ho0,hb⟩;refine ⟨_,rfl,?_⟩;have n0_ := As_ (Kd.R_lower ho0 (bwZ (zb3 HB.out GE341.out GE342.out GE343.out)));have n1_ := As_ (blk_below (g := gb341) (o := .cells #[.int .i64 a0_0,.int .i64 a0_1,.slice A0_2 l0_2.length c0_2] 81 (0,0)) (by (with_reducible repeat (first|refine bkN ?_ _|refine bkD ?_|refine bkA ?_ _));refine blk_far ?_ NB341_343.out _;(with_reducible repeat (first|refine bkN ?_ _|refine bkD ?_|refine bkA ?_ _));refine blk_far ?_ NB341_343.out _;(with_reducible repeat (first|refine bkN ?_ _|refine bkD ?_|refine bkA ?_ _));exact BK341.out) hb);have n2_ := As_ (blk_below (g := gb342) (o := .cells #[.int .i64 0,.int .i64 0,.slice none 0 0] 58 (0,0)) (by (with_reducible repeat (first|refine bkN ?_ _|refine bkD ?_|refine bkA ?_ _));refine blk_far ?_ NB342_343.out _;(with_reducible repeat (first|refine bkN ?_ _|refine bkD ?_|refine bkA ?_ _));refine blk_far ?_ NB342_343.out _;(with_reducible repeat (first|refine bkN ?_ _|refine bkD ?_|refine bkA ?_ _));exact BK342.out) hb);have n3_ := As_ (blk_below (g := gb343) (o := .cells #[.int .i64 a0_0,.int .i64 a0_1,.slice none 0 0] 58 (0,0)) (by (with_reducible repeat (first|refine bkN ?_ _|refine bkD ?_|refine bkA ?_ _));refine blk_put (cs := #[.int .i64 a0_0,.int .i64 0,.slice none 0 0]) ?_ 1 _ rfl;(with_reducible repeat (first|refine bkN ?_ _|refine bkD ?_|refine bkA ?_ _));refine blk_put (cs := #[.int .i64 0,.int .i64 0,.slice none 0 0]) ?_ 0 _ rfl;(with_reducible repeat (first|refine bkN ?_ _|refine bkD ?_|refine bkA ?_ _));exact BK343.out) hb);have n4_ := As_ (bwT (zb3 HB.out GE341.out GE342.out GE343.out) hb);clear BK341;clear BK342;clear BK343;clear HB;have HO346 := n0_;have BK341 := n1_;have BK342 := n2_;have BK343 := n3_;have HB := n4_;clear n0_ n1_ n2_ n3_ n4_;(try clear hb);(try clear hb2);(try clear hk);(try clear hi);(try clear ho0);obtain ⟨Ao12,co12,eo12⟩ := Kd.R_slice HO346.out;subst eo12;have hcz13_0 : w11.cell? ⟨gb343,0,none⟩ = some (.int .i64 a0_0) := (bkC BK343.out 0).trans rfl;have hcz13_1 : w11.cell? ⟨gb343,1,none⟩ = some (.int .i64 a0_1) := (bkC BK343.out 1).trans rfl;have hcz13_2 : w11.cell? ⟨gb343,2,none⟩ = some (.slice none 0 0) := (bkC BK343.out 2).trans rfl;have hfz13_0 := bkF BK343.out 0;have hfz13_1 := bkF BK343.out 1;have hfz13_2 := bkF BK343.out 2;have hcz14_0 : w11.cell? ⟨gb342,0,none⟩ = some (.int .i64 0) := (bkC BK342.out 0).trans rfl;have hcz14_1 : w11.cell? ⟨gb342,1,none⟩ = some (.int .i64 0) := (bkC BK342.out 1).trans rfl;have hcz14_2 : w11.cell? ⟨gb342,2,none⟩ = some (.slice none 0 0) := (bkC BK342.out 2).trans rfl;have hfz14_0 := bkF BK342.out 0;have hfz14_1 := bkF BK342.out 1;have hfz14_2 := bkF BK342.out 2))
 refine bodyPost_ret (results_cell_row rfl _ _ gb342 58 #[.int .i64 a0_0,.int .i64 a0_1,.slice Ao12 t344.length co12] (0,0) _ rfl (by (with_reducible repeat (first|refine bkN ?_ _|refine bkD ?_|refine bkA ?_ _));refine blk_put (cs := #[.int .i64 a0_0,.int .i64 a0_1,.slice none 0 0]) ?_ 2 _ rfl;(with_reducible repeat (first|refine bkN ?_ _|refine bkD ?_|refine bkA ?_ _));refine blk_put (cs := #[.int .i64 a0_0,.int .i64 0,.slice none 0 0]) ?_ 1 _ rfl;(with_reducible repeat (first|refine bkN ?_ _|refine bkD ?_|refine bkA ?_ _));refine blk_put (cs := #[.int .i64 0,.int .i64 0,.slice none 0 0]) ?_ 0 _ rfl;(with_reducible repeat (first|refine bkN ?_ _|refine bkD ?_|refine bkA ?_ _));refine blk_far ?_ NB342_343.out _;(with_reducible repeat (first|refine bkN ?_ _|refine bkD ?_|refine bkA ?_ _));exact BK342.out) Try.underlying58 rfl (by kernel_rfl)) rfl ?_
 exact ⟨_,by first|rfl|(simp [errW_none,errW_some] <;> rfl)|(simp [*,errW_none,errW_some] <;> rfl),by (with_reducible repeat (first|apply Kd.R_alloc|apply Kd.R_drewN|apply Kd.R_drew));exact Kd.R_mono (Kd.R_far (p := ⟨gb342,2,none⟩) (Kd.R_far (p := ⟨gb342,1,none⟩) (Kd.R_far (p := ⟨gb342,0,none⟩) (Kd.R_far (p := ⟨gb343,2,none⟩) (Kd.R_types (Kd.R_types HO346.out BK343.out (by decide)) BK342.out (by decide)) (fun _ hk => hk.1.2) (.slice Ao12 t344.length co12)) (fun _ hk => hk.2) (.int .i64 a0_0)) (fun _ hk => hk.2) (.int .i64 a0_1)) (fun _ hk => hk.2) (.slice Ao12 t344.length co12)) (fun _ hk => trivial),by repeat (first|(with_reducible first|exact HB.out|apply bwA|apply bwN|apply bwD|refine bwS ?_ GE341.out|refine bwS ?_ GE342.out|refine bwS ?_ GE343.out)|exact HB.out)⟩

/-! ### laws_toNodeS: function 46 -/
def laws_toNodeS.l0 : Nat → List (S81) → List (S58) → Int → Option ((List (S58)))
 | 0,_,_,_ => none
 | k + 1,x0,x3,x4 => if x4 < (x0.length : Int) then (if 0 ≤ x4 then ((laws_toNode.f k ((rd_T81 x0 x4).f0) ((rd_T81 x0 x4).f1) ((rd_T81 x0 x4).f2)).bind fun bt351 => (if x4 < (x3.length : Int) then (laws_toNodeS.l0 k x0 (x3.set (x4 : Int).toNat (⟨bt351.1,bt351.2.1,bt351.2.2⟩ : S58)) (wrap64 (x4 + 1))) else (none))) else (none)) else (some x3)
def laws_toNodeS.f (k : Nat) (l0 : List (S81)) : Option ((List (S58))) := if 0 ≤ (l0.length : Int) then (if ((l0.length : Int) : Int).toNat ≤ 7036874417766 then (laws_toNodeS.l0 k l0 (List.replicate ((l0.length : Int) : Int).toNat z58) 0) else (none)) else (none)
set_option maxRecDepth 100000 in
theorem laws_toNodeS.mono_l : ∀ k,(∀ y0 y1 y2,LeO (laws_toNodeS.l0 k y0 y1 y2) (laws_toNodeS.l0 (k + 1) y0 y1 y2))
 | 0 => fun _ _ _ r h => (by cases h)
 | k + 1 => by
  have ih0 := laws_toNodeS.mono_l k
  ·intro y0 y1 y2
   unfold laws_toNodeS.l0
   repeat' first
   | (with_reducible exact ih0 _ _ _)
   | (with_reducible exact laws_toNode.mono _ _ _ _)
   | (with_reducible exact LeO.refl _)
   | (with_reducible exact LeO.none _)
   | (with_reducible refine LeO.ite ?_ ?_)
   | (with_reducible refine LeO.bind ?_ (fun _ => ?_))
   | exact ih0 _ _ _
   | exact laws_toNode.mono _ _ _ _
   | exact LeO.none _
   | refine LeO.ite ?_ ?_
   | refine LeO.bind ?_ (fun _ => ?_)
set_option maxRecDepth 100000 in
theorem laws_toNodeS.mono : ∀ a0 k,LeO (laws_toNodeS.f k a0) (laws_toNodeS.f (k + 1) a0) := by
 intro a0 k
 have ih0 := laws_toNodeS.mono_l k
 unfold laws_toNodeS.f
 repeat' first
   | (with_reducible exact ih0 _ _ _)
   | (with_reducible exact laws_toNode.mono _ _ _ _)
   | (with_reducible exact LeO.refl _)
   | (with_reducible exact LeO.none _)
   | (with_reducible refine LeO.ite ?_ ?_)
   | (with_reducible refine LeO.bind ?_ (fun _ => ?_))
   | exact ih0 _ _ _
   | exact laws_toNode.mono _ _ _ _
   | exact LeO.none _
   | refine LeO.ite ?_ ?_
   | refine LeO.bind ?_ (fun _ => ?_)
set_option maxHeartbeats 8000000 in
set_option maxRecDepth 100000 in
theorem laws_toNodeS.calls (k : Nat) (A0 : Option Addr) (c0 : Nat) (l0 : List (S81)) (r : List (S58)) (w : World) (hr0 : Kd.C k81 w A0 l0.length l0) (hc0 : l0.length ≤ c0) (h : laws_toNodeS.f k l0 = some r) :
  Calls Try.prog 46 #[.slice A0 l0.length c0] w fun e w' => ∃ v0_ : Value,e = .returned (v0_) ∧ Kd.S k58 58 w' w.heap.size (fun _ => True) v0_ r ∧ Below w.heap.size w w' := by
 have hu81 := Try.underlying81
 have hu58 := Try.underlying58
 have HR0 := As_ hr0
 have HC0 := As_ hc0
 clear hr0 hc0
 have HB := As_ (Below.refl w.heap.size w)
 have H : (if 0 ≤ (l0.length : Int) then (if ((l0.length : Int) : Int).toNat ≤ 7036874417766 then (laws_toNodeS.l0 k l0 (List.replicate ((l0.length : Int) : Int).toNat z58) 0) else (none)) else (none)) = some r := h
 clear h
 by_cases c2 : 0 ≤ (l0.length : Int)
 rotate_left
 ·rw [if_neg c2] at H
  exact absurd H (by simp)
 rw [if_pos c2] at H
 have c2b0 := eq_true c2
 have c2b1 : decide (0 ≤ (l0.length : Int)) = true := deT c2
 clear c2
 by_cases c3 : ((l0.length : Int) : Int).toNat ≤ 7036874417766
 rotate_left
 ·rw [if_neg c3] at H
  exact absurd H (by simp)
 rw [if_pos c3] at H
 have c3b0 := eq_true c3
 have c3b1 : decide (((l0.length : Int) : Int).toNat ≤ 7036874417766) = true := deT c3
 clear c3
 obtain ⟨y347,hy347⟩ : ∃ y_ : List (S58),y_ = (List.replicate ((l0.length : Int) : Int).toNat z58) := ⟨_,rfl⟩
 replace H : (laws_toNodeS.l0 k l0 y347 0) = some r := by first|(rw [hy347];with_reducible exact H)|(have H2_ := (Option.bind_some _ _).symm.trans H;rw [hy347];with_reducible exact H2_)|(have H2_ := (Option.bind_some _ _).symm.trans H;with_reducible exact H2_)|with_reducible exact H|(rw [hy347];exact H)|exact H
 have Ny347 := As_ hy347
 clear hy347
 have H' := As_ H
 clear H
 go_enter Try.func46,Try.ntmps46
 go_wp2_with (first|((with_reducible refine gate_dst (N := 7) rfl ?_);refine Kd.S_make k58 _ 58 rfl (N := 7) rfl 23 _ _ rfl (l0.length : Int) rfl rfl Try.underlying23 (.agg #[(.int .i64 0),(.int .i64 0),(.slice none 0 0)]) 40 info58 rfl (by decide) (by omega) z58 (ok := fun _ => True) (okp := fun _ => True) (k58_mkM _ _ _ z58 (Kd.R_nil _ _ _ _ _)) (fun _ hk => hk) trivial (odT zA_) (Nat.le_trans (Nat.mul_le_mul_right _ (odT zA_ : (l0.length : Int).toNat ≤ 7036874417766)) (by omega)) (Below.refl _ _) (Nat.le_refl _) ?_;intro v348 w4 ho5 hb hg_ hnew_;clear hg_ hnew_;(first|rw [← Ny347.out] at ho5|(simp only [Int.reduceToNat] at ho5;rw [← Ny347.out] at ho5));have n0_ := As_ (Kd.S_lower ho5 (bwZ (zb0 HB.out)));have n1_ := As_ (bwT (zb0 HB.out) hb);clear HB;have HO349 := n0_;have HB := n1_;clear n0_ n1_;clear hb ho5))
 go_loopg [4] k (fun kq v4 w' => ∃ (x3_1 : List (S58)) (x4_1 : Int),v4 = .int .i64 x4_1 ∧ Aside0 (laws_toNodeS.l0 kq l0 x3_1 x4_1 = some r) ∧ Aside0 (kq ≤ k) ∧ Aside0 (Kd.S k58 58 w' w.heap.size (fun _ => True) v348 x3_1) ∧ Aside0 (Below w.heap.size w w'))
 case atStart => exact ⟨(y347),(0),zT_,H',⟨Nat.le_refl _⟩,⟨by (with_reducible repeat (first|apply Kd.S_alloc|apply Kd.S_drewN|apply Kd.S_drew));exact HO349.out⟩,⟨by repeat (first|(with_reducible first|exact HB.out|apply bwA|apply bwN|apply bwD)|exact HB.out)⟩⟩
 case round =>
  clear H'
  try clear c2
  try clear c2b0
  try clear c2b1
  try clear p2
  try clear c3
  try clear c3b0
  try clear c3b1
  try clear c4
  obtain ⟨x3_1,x4_1,rfl,HA,HK1,HO_3,HB⟩ := hrel
  cases gk with
  | zero => exact absurd HA.out (fun h_ => (by cases h_))
  | succ k1 =>
   have H := HA.out
   clear HA
   simp only [laws_toNodeS.l0] at H
   by_cases c6 : x4_1 < (l0.length : Int)
   ·rw [if_pos c6] at H
    have c6b0 : decide (x4_1 < (l0.length : Int)) = true := deT c6
    clear c6
    by_cases c7 : 0 ≤ x4_1
    rotate_left
    ·rw [if_neg c7] at H
     exact absurd H (by simp)
    rw [if_pos c7] at H
    have c7b0 : decide (0 ≤ x4_1) = true := deT c7
    clear c7
    replace H := obS H
    obtain ⟨⟨t351,t352,t353⟩,A80,H⟩ := H
    replace H : (if x4_1 < (x3_1.length : Int) then (laws_toNodeS.l0 k1 l0 (x3_1.set (x4_1 : Int).toNat (⟨t351,t352,t353⟩ : S58)) (wrap64 (x4_1 + 1))) else (none)) = some r := H
    have A8 := As_ A80
    clear A80
    by_cases c9 : x4_1 < (x3_1.length : Int)
    rotate_left
    ·rw [if_neg c9] at H
     exact absurd H (by simp)
    rw [if_pos c9] at H
    have c9b0 : decide (x4_1 < (x3_1.length : Int)) = true := deT c9
    clear c9
    obtain ⟨y356,hy356⟩ : ∃ y_ : List (S58),y_ = (x3_1.set (x4_1 : Int).toNat (⟨t351,t352,t353⟩ : S58)) := ⟨_,rfl⟩
    replace H : (laws_toNodeS.l0 k1 l0 y356 (wrap64 (x4_1 + 1))) = some r := by first|(rw [hy356];with_reducible exact H)|(have H2_ := (Option.bind_some _ _).symm.trans H;rw [hy356];with_reducible exact H2_)|(have H2_ := (Option.bind_some _ _).symm.trans H;with_reducible exact H2_)|with_reducible exact H|(rw [hy356];exact H)|exact H
    have Ny356 := As_ hy356
    clear hy356
    have H' := As_ H
    clear H
    have p350 : 0 ≤ (x4_1 : Int) := odT zA_
    have q350 : x4_1 < (l0.length : Int) := odT zA_
    obtain ⟨ad350,A350_2,c350_2,e350,hx350_0,hx350_1,hx350_2,hl350_2,hi350_2⟩ := at_T81 HR0.out x4_1 p350 q350
    cases e350
    replace hx350_0 := (HB.out.cell (bwL w _ hx350_0)).trans hx350_0
    replace hx350_1 := (HB.out.cell (bwL w _ hx350_1)).trans hx350_1
    replace hx350_2 := (HB.out.cell (bwL w _ hx350_2)).trans hx350_2
    have HR350_2 := As_ hi350_2
    have HC350_2 := As_ hl350_2
    clear hi350_2 hl350_2
    replace p350 := eq_true p350
    replace q350 := eq_true q350
    go_wp2_with (first|((with_reducible refine gate_callee (f := 79) rfl ?_);refine goesL_ (some 20) rfl rfl Try.func79 (by kernel_rfl) rfl #[.agg #[.int .i64 ((rd_T81 l0 x4_1).f0),.int .i64 ((rd_T81 l0 x4_1).f1),.slice A350_2 ((rd_T81 l0 x4_1).f2).length c350_2]] rfl zM_ ?_;(with_reducible refine (laws_toNode.calls k1 ((rd_T81 l0 x4_1).f0) ((rd_T81 l0 x4_1).f1) _ _ ((rd_T81 l0 x4_1).f2) t351 t352 t353 _ ?side1 ?side2 A8.out).mono ?_);(case side1 => repeat (first|exact (Kd.C_below HR350_2.out HB.out)|(with_reducible refine Kd.C_alloc ?_ _)|(with_reducible refine Kd.C_drewN ?_ _)|(with_reducible refine Kd.C_drew ?_)));(case side2 => exact HC350_2.out);rintro e w11 ⟨v354,rfl,ho0,hb⟩;refine ⟨_,rfl,?_⟩;have hst_ := (fun (P_ : Program) (w_ : World) (a_ : Addr) (m_ : Mode) => run_store P_ w_ a_ v354 m_ (by obtain ⟨_,_,e_⟩ := Kd.R_slice ho0;rw [e_];rfl));have n0_ := As_ (Kd.S_elder' (zS_ HO_3.out) (Kd.R_base ho0) hb);have n1_ := As_ (Kd.R_lower ho0 (bwZ (zb0 HB.out)));have n2_ := As_ (bwT (zb0 HB.out) hb);clear HO_3;clear HB;have HO_3 := n0_;have HO355 := n1_;have HB := n2_;clear n0_ n1_ n2_;(try clear hb);(try clear hb2);(try clear hk);(try clear hi);(try clear ho0);have p10 : 0 ≤ (x4_1 : Int) := odT zA_;have q10 : (x4_1 : Int) < ((x3_1.length : Int) : Int) := odT zA_;obtain ⟨go10,co10,eo10,gb10,gl10,cl10,HG10⟩ := Kd.S_form HO_3.out (by omega);(first|cases eo10|(injection eo10 with ea_ en_ ec_;(first|subst ea_|(injection ea_ with ea_;subst ea_));subst ec_;clear en_));have GB10 := As_ gb10;have GG10 := As_ HG10;clear gb10 gl10 HG10;obtain ⟨_,ce10,hcl10,hM10,hcc10,hfr10,_,_⟩ := Kd.S_elem HO_3.out z58 (x4_1 : Int) p10 q10;obtain ⟨ve10_2,rfl,ge10_2⟩ := k58_openM hM10;have hx10_0 : w11.cell? ⟨go10,(x4_1 : Int).toNat * 3,none⟩ = some (.int .i64 ((rd_T58 x3_1 x4_1).f0)) := hcc10 0 _ rfl;have hx10_1 : w11.cell? ⟨go10,(x4_1 : Int).toNat * 3 + 1,none⟩ = some (.int .i64 ((rd_T58 x3_1 x4_1).f1)) := hcc10 1 _ rfl;have hx10_2 : w11.cell? ⟨go10,(x4_1 : Int).toNat * 3 + 2,none⟩ = some (ve10_2) := hcc10 2 _ rfl;have hf10_0 : w11.frozen? ⟨go10,(x4_1 : Int).toNat * 3,none⟩ = false := hfr10 0;have hf10_1 : w11.frozen? ⟨go10,(x4_1 : Int).toNat * 3 + 1,none⟩ = false := hfr10 1;have hf10_2 : w11.frozen? ⟨go10,(x4_1 : Int).toNat * 3 + 2,none⟩ = false := hfr10 2;clear hcl10 hcc10 hfr10 hM10;replace p10 := eq_true p10;replace q10 := eq_true q10;have n_ := As_ (Kd.S_mono (ok' := (fun k_ => some k_ ≠ (v354 : Value).ownBlock)) HO_3.out (fun k_ hk => hk.2));clear HO_3;have HO_3 := n_;clear n_;have HX12 := As_ (show Kd.S k58 58 w11 w.heap.size (fun k_ => ((fun _ => True)) k_ ∧ ¬ ((fun k_ => some k_ = (v354 : Value).ownBlock)) k_) (.slice (some ⟨go10,0,none⟩) x3_1.length co10) x3_1 from (by (with_reducible repeat (first|apply Kd.S_alloc|apply Kd.S_drewN|apply Kd.S_drew));exact Kd.S_mono HO_3.out (fun k_ hk => ⟨trivial,fun e_ => hk e_⟩)));obtain ⟨oki12,ce12,hcl12,hM12,hcc12,hfr12,hoki12,hH12⟩ := Kd.S_elem HX12.out z58 (x4_1 : Int) (odT zA_) (by have h_ : (x4_1 : Int) < ((x3_1.length : Int) : Int) := odT zA_;first|exact h_|(have e_ := (Kd.S_reads' HO_3.out).1;omega)|simpa using h_);obtain ⟨ve12_2,rfl,ge12_2⟩ := k58_openM hM12;have HP12 := Kd.S_seg hH12 (odT zA_) (by have h_ : (x4_1 : Int) < ((x3_1.length : Int) : Int) := odT zA_;first|exact h_|(have e_ := (Kd.S_reads' HO_3.out).1;omega)|simpa using h_) (seg := [.int .i64 t351,.int .i64 t352,v354]) (j := 0) (show 3 ≤ 3 from by decide) (x' := (⟨t351,t352,t353⟩ : S58)) (k58_mkM _ _ _ (⟨t351,t352,t353⟩ : S58) (Kd.R_mono (Kd.R_tight rfl (Kd.R_mono (ok' := fun k_ => ((fun _ => True)) k_ ∧ k_ ≠ go10) (Kd.R_apart' (HO355.out) (Kd.S_typed HO_3.out) (by decide)) (fun k_ hk => ⟨trivial,fun e_ => (hk.2) (by rw [e_];rfl)⟩))) (fun _ h_ => Or.inr (h_)))) (fun _ hk => hk) (fun k_ hk_ => ((Kd.R_mono (ok' := fun k_ => ((fun _ => True)) k_ ∧ k_ ≠ go10) (Kd.R_apart' (HO355.out) (Kd.S_typed HO_3.out) (by decide)) (fun k_ hk => ⟨trivial,fun e_ => (hk.2) (by rw [e_];rfl)⟩))).1 k_ hk_.symm);have hx12_0 := hcc12 0 _ rfl;(try simp only [show (k58).sz = 3 from rfl,Nat.mul_one,Nat.add_zero] at hx12_0);have hf12_0 := hfr12 0;(try simp only [show (k58).sz = 3 from rfl,Nat.mul_one,Nat.add_zero] at hf12_0);have hx12_1 := hcc12 1 _ rfl;(try simp only [show (k58).sz = 3 from rfl,Nat.mul_one,Nat.add_zero] at hx12_1);have hf12_1 := hfr12 1;(try simp only [show (k58).sz = 3 from rfl,Nat.mul_one,Nat.add_zero] at hf12_1);have hx12_2 := hcc12 2 _ rfl;(try simp only [show (k58).sz = 3 from rfl,Nat.mul_one,Nat.add_zero] at hx12_2);have hf12_2 := hfr12 2;(try simp only [show (k58).sz = 3 from rfl,Nat.mul_one,Nat.add_zero] at hf12_2);clear hcl12 hcc12 hfr12 hM12 hoki12 hH12)|((with_reducible refine gate_store (t := 58) (p := 21) rfl ?_);refine store_event (t := 58) (p := 21) (v := ?vo_w13) (w1 := (((w11.setCell ⟨go10,(x4_1 : Int).toNat * 3,none⟩ (.int .i64 t351)).setCell ⟨go10,(x4_1 : Int).toNat * 3 + 1,none⟩ (.int .i64 t352)).setCell ⟨go10,(x4_1 : Int).toNat * 3 + 2,none⟩ (v354))) ?hg ?ho ?hn ?hr ?_;(case ho => rfl);(case hg => rfl);(case hn => rfl);(case hr => go_simp <;> rfl);intro w13 hw;have hg : w11.grownBy w13 (some go10) := (by rw [hw];exact HP12.2);have hp_ : Kd.S k58 58 w13 w.heap.size (fun _ => True) (.slice (some ⟨go10,0,none⟩) x3_1.length co10) y356 := (by rw [hw,Ny356.out];exact HP12.1);clear HP12;have n0_ := As_ (hp_);have n1_ := As_ ((by rw [hw];exact bwS (bwS (bwS (HB.out) GB10.out) GB10.out) GB10.out : Below w.heap.size w w13));clear HO_3;clear HB;clear HO355;have HO_3 := n0_;have HB := n1_;clear n0_ n1_;clear hg hw hp_))
    go_roundg k1
    case measure => have := HK1.out;omega
    case rel => exact ⟨(y356),(wrap64 (x4_1 + 1)),zT_,H',⟨by have := HK1.out;omega⟩,⟨by (with_reducible repeat (first|apply Kd.S_alloc|apply Kd.S_drewN|apply Kd.S_drew));exact HO_3.out⟩,⟨by repeat (first|(with_reducible first|exact HB.out|apply bwA|apply bwN|apply bwD)|exact HB.out)⟩⟩
   ·rw [if_neg c6] at H
    have c6b0 : decide (x4_1 < (l0.length : Int)) = false := deF c6
    clear c6
    obtain rfl := Option.some.inj H
    go_wp2
    go_ret
    exact ⟨_,by first|rfl|(simp [errW_none,errW_some] <;> rfl)|(simp [*,errW_none,errW_some] <;> rfl),by (with_reducible repeat (first|apply Kd.S_alloc|apply Kd.S_drewN|apply Kd.S_drew));exact HO_3.out,by repeat (first|(with_reducible first|exact HB.out|apply bwA|apply bwN|apply bwD)|exact HB.out)⟩

/-! ### laws_toGraph: function 17 -/
def laws_toGraph.f (k : Nat) (l0_0 : List (S81)) (a0_1 : Int) : Option ((List (S58)) × Int) := (laws_toNodeS.f k l0_0).bind fun t360 => (some (t360,a0_1))
set_option maxRecDepth 100000 in
theorem laws_toGraph.mono : ∀ a0 a1 k,LeO (laws_toGraph.f k a0 a1) (laws_toGraph.f (k + 1) a0 a1) := by
 intro a0 a1 k
 unfold laws_toGraph.f
 repeat' first
   | (with_reducible exact laws_toNodeS.mono _ _)
   | (with_reducible exact LeO.refl _)
   | (with_reducible exact LeO.none _)
   | (with_reducible refine LeO.ite ?_ ?_)
   | (with_reducible refine LeO.bind ?_ (fun _ => ?_))
   | exact laws_toNodeS.mono _ _
   | exact LeO.none _
   | refine LeO.ite ?_ ?_
   | refine LeO.bind ?_ (fun _ => ?_)
set_option maxHeartbeats 8000000 in
set_option maxRecDepth 100000 in
theorem laws_toGraph.calls (k : Nat) (A0_0 : Option Addr) (c0_0 : Nat) (l0_0 : List (S81)) (a0_1 : Int) (r1 : List (S58)) (r2 : Int) (w : World) (hr0_0 : Kd.C k81 w A0_0 l0_0.length l0_0) (hc0_0 : l0_0.length ≤ c0_0) (h : laws_toGraph.f k l0_0 a0_1 = some (r1,r2)) :
  Calls Try.prog 17 #[.agg #[.slice A0_0 l0_0.length c0_0,.int .i64 a0_1]] w fun e w' => ∃ v0_ : Value,e = .returned (.agg #[v0_,.int .i64 r2]) ∧ Kd.S k58 58 w' w.heap.size (fun _ => True) v0_ r1 ∧ Below w.heap.size w w' := by
 have hu35 := Try.underlying35
 have hu25 := Try.underlying25
 have HR0_0 := As_ hr0_0
 have HC0_0 := As_ hc0_0
 clear hr0_0 hc0_0
 have HB := As_ (Below.refl w.heap.size w)
 have H : ((laws_toNodeS.f k l0_0).bind fun t360 => (some (t360,a0_1))) = some (r1,r2) := h
 clear h
 replace H := obS H
 obtain ⟨t360,A20,H⟩ := H
 replace H : (some (t360,a0_1)) = some (r1,r2) := H
 have A2 := As_ A20
 clear A20
 simp only [Option.some.injEq,Prod.mk.injEq] at H
 obtain ⟨rfl,rfl⟩ := H
 go_enter Try.func17,Try.ntmps17
 go_wp2_with (first|((with_reducible refine gate_dst (N := 1) rfl ?_);refine box_event ?hg (N := 1) ?hd (cs := #[.slice A0_0 l0_0.length c0_0,.int .i64 a0_1]) (t := 35) ?hr ?_;(case hd => rfl);(case hg => rfl);(case hr => go_simp <;> rfl);intro gb357 hg w3 hbox hb;have n0_ := As_ (bwT (zb0 HB.out) hb);have n1_ := As_ (hbox);have n2_ := As_ ((by rw [hg];exact (bwZ (zb0 HB.out)) : w.heap.size ≤ gb357));have n3_ := As_ ((by rw [hg];exact (bwZ (zb0 HB.out)) : w.heap.size ≤ gb357));clear HB;have HB := n0_;have BK357 := n1_;have GW357 := n2_;have GE357 := n3_;clear n0_ n1_ n2_ n3_;clear hb hbox hg)|((with_reducible refine gate_dst (N := 2) rfl ?_);refine box_event ?hg (N := 2) ?hd (cs := #[.slice none 0 0,.int .i64 0]) (t := 25) ?hr ?_;(case hd => rfl);(case hg => rfl);(case hr => go_simp <;> rfl);intro gb358 hg w4 hbox hb;have n0_ := As_ (zkb BK357.out hb);have n1_ := As_ (bwT (zb1 HB.out GE357.out) hb);have n2_ := As_ (hbox);have n3_ := As_ ((by rw [hg];exact (bwZ (zb1 HB.out GE357.out)) : w.heap.size ≤ gb358));have n4_ := As_ ((by rw [hg];exact (bwZ (zb1 HB.out GE357.out)) : w.heap.size ≤ gb358));have n5_ := As_ ((by rw [hg];exact Nat.ne_of_lt (zkl BK357.out) : gb357 ≠ gb358));have n6_ := As_ ((by rw [hg];exact Nat.ne_of_gt (zkl BK357.out) : gb358 ≠ gb357));clear BK357;clear HB;have BK357 := n0_;have HB := n1_;have BK358 := n2_;have GW358 := n3_;have GE358 := n4_;have NB357_358 := n5_;have NB358_357 := n6_;clear n0_ n1_ n2_ n3_ n4_ n5_ n6_;clear hb hbox hg)|((with_reducible refine gate_dst (N := 3) rfl ?_);refine box_event ?hg (N := 3) ?hd (cs := #[.slice none 0 0,.int .i64 0]) (t := 25) ?hr ?_;(case hd => rfl);(case hg => rfl);(case hr => go_simp <;> rfl);intro gb359 hg w5 hbox hb;have n0_ := As_ (zkb BK357.out hb);have n1_ := As_ (zkb BK358.out hb);have n2_ := As_ (bwT (zb2 HB.out GE357.out GE358.out) hb);have n3_ := As_ (hbox);have n4_ := As_ ((by rw [hg];exact (bwZ (zb2 HB.out GE357.out GE358.out)) : w.heap.size ≤ gb359));have n5_ := As_ ((by rw [hg];exact (bwZ (zb2 HB.out GE357.out GE358.out)) : w.heap.size ≤ gb359));have n6_ := As_ ((by rw [hg];exact Nat.ne_of_lt (zkl BK357.out) : gb357 ≠ gb359));have n7_ := As_ ((by rw [hg];exact Nat.ne_of_gt (zkl BK357.out) : gb359 ≠ gb357));have n8_ := As_ ((by rw [hg];exact Nat.ne_of_lt (zkl BK358.out) : gb358 ≠ gb359));have n9_ := As_ ((by rw [hg];exact Nat.ne_of_gt (zkl BK358.out) : gb359 ≠ gb358));clear BK357;clear BK358;clear HB;have BK357 := n0_;have BK358 := n1_;have HB := n2_;have BK359 := n3_;have GW359 := n4_;have GE359 := n5_;have NB357_359 := n6_;have NB359_357 := n7_;have NB358_359 := n8_;have NB359_358 := n9_;clear n0_ n1_ n2_ n3_ n4_ n5_ n6_ n7_ n8_ n9_;clear hb hbox hg;have hnb6 := NB357_358.out;have hnc6 := NB358_357.out;have hnb7 := NB357_359.out;have hnc7 := NB359_357.out;have hcz8_0 : w5.cell? ⟨gb357,0,none⟩ = some (.slice A0_0 l0_0.length c0_0) := (bkC BK357.out 0).trans rfl;have hcz8_1 : w5.cell? ⟨gb357,1,none⟩ = some (.int .i64 a0_1) := (bkC BK357.out 1).trans rfl;have hfz8_0 := bkF BK357.out 0;have hfz8_1 := bkF BK357.out 1)|((with_reducible refine gate_callee (f := 46) rfl ?_);refine goesL_ (some 6) rfl rfl Try.func46 (by kernel_rfl) rfl #[.slice A0_0 l0_0.length c0_0] rfl zM_ ?_;(with_reducible refine (laws_toNodeS.calls k _ _ l0_0 t360 _ ?side1 ?side2 A2.out).mono ?_);(case side1 => repeat (first|exact (Kd.C_below HR0_0.out HB.out)|(with_reducible refine Kd.C_alloc ?_ _)|(with_reducible refine Kd.C_drewN ?_ _)|(with_reducible refine Kd.C_drew ?_)));(case side2 => exact HC0_0.out);rintro e w9 ⟨v361,rfl,ho0,hb⟩;refine ⟨_,rfl,?_⟩;have n0_ := As_ (Kd.S_lower ho0 (bwZ (zb3 HB.out GE357.out GE358.out GE359.out)));have n1_ := As_ (zkb BK357.out hb);have n2_ := As_ (zkb BK358.out hb);have n3_ := As_ (zkb BK359.out hb);have n4_ := As_ (bwT (zb3 HB.out GE357.out GE358.out GE359.out) hb);clear BK357;clear BK358;clear BK359;clear HB;have HO362 := n0_;have BK357 := n1_;have BK358 := n2_;have BK359 := n3_;have HB := n4_;clear n0_ n1_ n2_ n3_ n4_;(try clear hb);(try clear hb2);(try clear hk);(try clear hi);(try clear ho0);obtain ⟨Ao10,co10,eo10⟩ := Kd.S_slice HO362.out;subst eo10;have hnb11 := NB359_358.out;have hnc11 := NB358_359.out;have hcz12_0 : w9.cell? ⟨gb359,0,none⟩ = some (.slice none 0 0) := (bkC BK359.out 0).trans rfl;have hcz12_1 : w9.cell? ⟨gb359,1,none⟩ = some (.int .i64 0) := (bkC BK359.out 1).trans rfl;have hfz12_0 := bkF BK359.out 0;have hfz12_1 := bkF BK359.out 1;have hcz13_0 : w9.cell? ⟨gb357,0,none⟩ = some (.slice A0_0 l0_0.length c0_0) := (bkC BK357.out 0).trans rfl;have hcz13_1 : w9.cell? ⟨gb357,1,none⟩ = some (.int .i64 a0_1) := (bkC BK357.out 1).trans rfl;have hfz13_0 := bkF BK357.out 0;have hfz13_1 := bkF BK357.out 1;have hcz14_0 : w9.cell? ⟨gb358,0,none⟩ = some (.slice none 0 0) := (bkC BK358.out 0).trans rfl;have hcz14_1 : w9.cell? ⟨gb358,1,none⟩ = some (.int .i64 0) := (bkC BK358.out 1).trans rfl;have hfz14_0 := bkF BK358.out 0;have hfz14_1 := bkF BK358.out 1))
 refine bodyPost_ret (results_cell_row rfl _ _ gb358 25 #[.slice Ao10 t360.length co10,.int .i64 a0_1] (0,0) _ rfl (by (with_reducible repeat (first|refine bkN ?_ _|refine bkD ?_|refine bkA ?_ _));refine blk_put (cs := #[.slice Ao10 t360.length co10,.int .i64 0]) ?_ 1 _ rfl;(with_reducible repeat (first|refine bkN ?_ _|refine bkD ?_|refine bkA ?_ _));refine blk_put (cs := #[.slice none 0 0,.int .i64 0]) ?_ 0 _ rfl;(with_reducible repeat (first|refine bkN ?_ _|refine bkD ?_|refine bkA ?_ _));refine blk_far ?_ NB358_359.out _;(with_reducible repeat (first|refine bkN ?_ _|refine bkD ?_|refine bkA ?_ _));refine blk_far ?_ NB358_359.out _;(with_reducible repeat (first|refine bkN ?_ _|refine bkD ?_|refine bkA ?_ _));exact BK358.out) Try.underlying25 rfl (by kernel_rfl)) rfl ?_
 exact ⟨_,by first|rfl|(simp [errW_none,errW_some] <;> rfl)|(simp [*,errW_none,errW_some] <;> rfl),by (with_reducible repeat (first|apply Kd.S_alloc|apply Kd.S_drewN|apply Kd.S_drew));exact Kd.S_mono (Kd.S_far (p := ⟨gb358,1,none⟩) (Kd.S_far (p := ⟨gb358,0,none⟩) (Kd.S_far (p := ⟨gb359,1,none⟩) (Kd.S_far (p := ⟨gb359,0,none⟩) (Kd.S_types (Kd.S_types HO362.out BK359.out (by decide)) BK358.out (by decide)) (fun _ hk => hk.1.2) (.slice Ao10 t360.length co10)) (fun _ hk => hk.1.2) (.int .i64 a0_1)) (fun _ hk => hk.2) (.slice Ao10 t360.length co10)) (fun _ hk => hk.2) (.int .i64 a0_1)) (fun _ hk => trivial),by repeat (first|(with_reducible first|exact HB.out|apply bwA|apply bwN|apply bwD|refine bwS ?_ GE357.out|refine bwS ?_ GE358.out|refine bwS ?_ GE359.out)|exact HB.out)⟩

end Go.Proofs.Ytapaegcombfafaa.Q
