-- Written by wip/tools/qprint.py (a program of this claim's author) by means of the kit's printer.
import Derived.Test.YtbokjhdhpmmpfaaQ0
import Derived.Test.YtbokjhdhpmmpfaaQ81
namespace Go.Proofs.Ytbokjhdhpmmpfaa.Q
open Go.RowKit Go.Proofs.YtbokjhdhpmmpfaaW.PrintWords Go.Proofs.YtbokjhdhpmmpfaaW.PrintLast Go.Proofs.YtbokjhdhpmmpfaaW.PrintMore
attribute [local go_sem] max2_int min2_int max_two min_two max_three min_three max_four min_four   -- for this text's walks alone
set_option linter.unusedVariables false
set_option linter.unusedSimpArgs false

/-! ### impl_ValidMachine: function 46 -/
mutual
def impl_ValidMachine.j0 : Nat → Int → Bool → List (S88) → List Int → List Int → Bool → Option (Bool)
 | 0,_,_,_,_,_,_ => none
 | k + 1,x3,x43,x1010000,x1010001,x1010002,x1010003 => if x43 = true then (some false) else ((slices_Clone_int_int.f x1010001).bind fun t1011 => (if t1011.length + x1010002.length < 17592186044416 then ((some (t1011 ++ x1010002 : List Int)).bind fun y1014 => (impl_ValidMachine.l0 k x3 y1014 (y1014.length : Int) 0 x1010000 x1010001 x1010002 x1010003)) else (none)))
def impl_ValidMachine.l0 : Nat → Int → List Int → Int → Int → List (S88) → List Int → List Int → Bool → Option (Bool)
 | 0,_,_,_,_,_,_,_,_ => none
 | k + 1,x3,x49,x50,x51,x1010000,x1010001,x1010002,x1010003 => if x51 < x50 then (if 0 ≤ x51 then (if x51 < (x49.length : Int) then (if (rd x49 x51) < (-1) then (some false) else (if (rd x49 x51) ≥ x3 then (some false) else (impl_ValidMachine.l0 k x3 x49 x50 (wrap64 (x51 + 1)) x1010000 x1010001 x1010002 x1010003))) else (none)) else (none)) else (impl_ValidMachine.l1 k x3 x1010000 (x1010000.length : Int) 0 x1010000 x1010001 x1010002 x1010003)
def impl_ValidMachine.l1 : Nat → Int → List (S88) → Int → Int → List (S88) → List Int → List Int → Bool → Option (Bool)
 | 0,_,_,_,_,_,_,_,_ => none
 | k + 1,x3,x64,x65,x66,x1010000,x1010001,x1010002,x1010003 => if x66 < x65 then (if 0 ≤ x66 then (if x66 < (x64.length : Int) then (if ((rd_T88 x64 x66).f0) < 0 then (impl_ValidMachine.j3 k x3 x64 x65 x66 true x1010000 x1010001 x1010002 x1010003 ((rd_T88 x64 x66).f0) ((rd_T88 x64 x66).f1) ((rd_T88 x64 x66).f2)) else (if ((rd_T88 x64 x66).f0) > 5 then (impl_ValidMachine.j3 k x3 x64 x65 x66 true x1010000 x1010001 x1010002 x1010003 ((rd_T88 x64 x66).f0) ((rd_T88 x64 x66).f1) ((rd_T88 x64 x66).f2)) else (if ((rd_T88 x64 x66).f1) < 0 then (impl_ValidMachine.j3 k x3 x64 x65 x66 true x1010000 x1010001 x1010002 x1010003 ((rd_T88 x64 x66).f0) ((rd_T88 x64 x66).f1) ((rd_T88 x64 x66).f2)) else (if ((rd_T88 x64 x66).f1) > 999 then (impl_ValidMachine.j3 k x3 x64 x65 x66 true x1010000 x1010001 x1010002 x1010003 ((rd_T88 x64 x66).f0) ((rd_T88 x64 x66).f1) ((rd_T88 x64 x66).f2)) else (if ((rd_T88 x64 x66).f0) = 5 then (if (((rd_T88 x64 x66).f2).length : Int) > 1 then (impl_ValidMachine.j3 k x3 x64 x65 x66 true x1010000 x1010001 x1010002 x1010003 ((rd_T88 x64 x66).f0) ((rd_T88 x64 x66).f1) ((rd_T88 x64 x66).f2)) else (if ((rd_T88 x64 x66).f0) = 4 then (impl_ValidMachine.j3 k x3 x64 x65 x66 (((((rd_T88 x64 x66).f2).length : Int) % 2) != 0) x1010000 x1010001 x1010002 x1010003 ((rd_T88 x64 x66).f0) ((rd_T88 x64 x66).f1) ((rd_T88 x64 x66).f2)) else (impl_ValidMachine.j3 k x3 x64 x65 x66 false x1010000 x1010001 x1010002 x1010003 ((rd_T88 x64 x66).f0) ((rd_T88 x64 x66).f1) ((rd_T88 x64 x66).f2)))) else (if ((rd_T88 x64 x66).f0) = 4 then (impl_ValidMachine.j3 k x3 x64 x65 x66 (((((rd_T88 x64 x66).f2).length : Int) % 2) != 0) x1010000 x1010001 x1010002 x1010003 ((rd_T88 x64 x66).f0) ((rd_T88 x64 x66).f1) ((rd_T88 x64 x66).f2)) else (impl_ValidMachine.j3 k x3 x64 x65 x66 false x1010000 x1010001 x1010002 x1010003 ((rd_T88 x64 x66).f0) ((rd_T88 x64 x66).f1) ((rd_T88 x64 x66).f2)))))))) else (none)) else (none)) else (some true)
def impl_ValidMachine.j3 : Nat → Int → List (S88) → Int → Int → Bool → List (S88) → List Int → List Int → Bool → Int → Int → List Int → Option (Bool)
 | 0,_,_,_,_,_,_,_,_,_,_,_,_ => none
 | k + 1,x3,x64,x65,x66,x110,x1010000,x1010001,x1010002,x1010003,x1020000,x1020001,x1020002 => if x110 = true then (some false) else (impl_ValidMachine.l2 k x3 x64 x65 x66 x1020002 (x1020002.length : Int) 0 x1010000 x1010001 x1010002 x1010003 x1020000 x1020001 x1020002)
def impl_ValidMachine.l2 : Nat → Int → List (S88) → Int → Int → List Int → Int → Int → List (S88) → List Int → List Int → Bool → Int → Int → List Int → Option (Bool)
 | 0,_,_,_,_,_,_,_,_,_,_,_,_,_,_ => none
 | k + 1,x3,x64,x65,x66,x112,x113,x114,x1010000,x1010001,x1010002,x1010003,x1020000,x1020001,x1020002 => if x114 < x113 then (if 0 ≤ x114 then (if x114 < (x112.length : Int) then (if (rd x112 x114) < 0 then (some false) else (if (rd x112 x114) ≥ x3 then (some false) else (if x1020000 = 4 then (if (Int.tmod x114 2) = 0 then (if 0 ≤ (rd x112 x114) then (if (rd x112 x114) < (x1010000.length : Int) then (if ((rd_T88 x1010000 (rd x112 x114)).f0) > 1 then (some false) else (impl_ValidMachine.l2 k x3 x64 x65 x66 x112 x113 (wrap64 (x114 + 1)) x1010000 x1010001 x1010002 x1010003 x1020000 x1020001 x1020002)) else (none)) else (none)) else (impl_ValidMachine.l2 k x3 x64 x65 x66 x112 x113 (wrap64 (x114 + 1)) x1010000 x1010001 x1010002 x1010003 x1020000 x1020001 x1020002)) else (impl_ValidMachine.l2 k x3 x64 x65 x66 x112 x113 (wrap64 (x114 + 1)) x1010000 x1010001 x1010002 x1010003 x1020000 x1020001 x1020002)))) else (none)) else (none)) else (impl_ValidMachine.l1 k x3 x64 x65 (wrap64 (x66 + 1)) x1010000 x1010001 x1010002 x1010003)
end
def impl_ValidMachine.f (k : Nat) (l0_0 : List (S88)) (l0_1 : List Int) (l0_2 : List Int) (a0_3 : Bool) : Option (Bool) := if (l0_0.length : Int) > 300 then (impl_ValidMachine.j0 k (l0_0.length : Int) true l0_0 l0_1 l0_2 a0_3) else (if (l0_1.length : Int) > 300 then (impl_ValidMachine.j0 k (l0_0.length : Int) true l0_0 l0_1 l0_2 a0_3) else (if (l0_2.length : Int) = 20 then (if a0_3 = true then (if (l0_1.length : Int) = 1 then (if 0 < (l0_1.length : Int) then (impl_ValidMachine.j0 k (l0_0.length : Int) (decide ((rd l0_1 0) < 0)) l0_0 l0_1 l0_2 a0_3) else (none)) else (impl_ValidMachine.j0 k (l0_0.length : Int) true l0_0 l0_1 l0_2 a0_3)) else (impl_ValidMachine.j0 k (l0_0.length : Int) false l0_0 l0_1 l0_2 a0_3)) else (impl_ValidMachine.j0 k (l0_0.length : Int) true l0_0 l0_1 l0_2 a0_3)))
set_option maxRecDepth 100000 in
theorem impl_ValidMachine.mono_l : ∀ k,(∀ y0 y1 y2 y3 y4 y5,LeO (impl_ValidMachine.j0 k y0 y1 y2 y3 y4 y5) (impl_ValidMachine.j0 (k + 1) y0 y1 y2 y3 y4 y5)) ∧ (∀ y0 y1 y2 y3 y4 y5 y6 y7,LeO (impl_ValidMachine.l0 k y0 y1 y2 y3 y4 y5 y6 y7) (impl_ValidMachine.l0 (k + 1) y0 y1 y2 y3 y4 y5 y6 y7)) ∧ (∀ y0 y1 y2 y3 y4 y5 y6 y7,LeO (impl_ValidMachine.l1 k y0 y1 y2 y3 y4 y5 y6 y7) (impl_ValidMachine.l1 (k + 1) y0 y1 y2 y3 y4 y5 y6 y7)) ∧ (∀ y0 y1 y2 y3 y4 y5 y6 y7 y8 y9 y10 y11,LeO (impl_ValidMachine.j3 k y0 y1 y2 y3 y4 y5 y6 y7 y8 y9 y10 y11) (impl_ValidMachine.j3 (k + 1) y0 y1 y2 y3 y4 y5 y6 y7 y8 y9 y10 y11)) ∧ (∀ y0 y1 y2 y3 y4 y5 y6 y7 y8 y9 y10 y11 y12 y13,LeO (impl_ValidMachine.l2 k y0 y1 y2 y3 y4 y5 y6 y7 y8 y9 y10 y11 y12 y13) (impl_ValidMachine.l2 (k + 1) y0 y1 y2 y3 y4 y5 y6 y7 y8 y9 y10 y11 y12 y13))
 | 0 => ⟨fun _ _ _ _ _ _ r h => (by cases h),fun _ _ _ _ _ _ _ _ r h => (by cases h),fun _ _ _ _ _ _ _ _ r h => (by cases h),fun _ _ _ _ _ _ _ _ _ _ _ _ r h => (by cases h),fun _ _ _ _ _ _ _ _ _ _ _ _ _ _ r h => (by cases h)⟩
 | k + 1 => by
  obtain ⟨ih0,ih1,ih2,ih3,ih4⟩ := impl_ValidMachine.mono_l k
  refine ⟨?_,?_,?_,?_,?_⟩
  ·intro y0 y1 y2 y3 y4 y5
   unfold impl_ValidMachine.j0
   repeat' first
   | (with_reducible exact ih0 _ _ _ _ _ _)
   | (with_reducible exact ih1 _ _ _ _ _ _ _ _)
   | (with_reducible exact ih2 _ _ _ _ _ _ _ _)
   | (with_reducible exact ih3 _ _ _ _ _ _ _ _ _ _ _ _)
   | (with_reducible exact ih4 _ _ _ _ _ _ _ _ _ _ _ _ _ _)
   | (with_reducible exact LeO.refl _)
   | (with_reducible exact LeO.none _)
   | (with_reducible refine LeO.ite ?_ ?_)
   | (with_reducible refine LeO.bind ?_ (fun _ => ?_))
   | exact ih0 _ _ _ _ _ _
   | exact ih1 _ _ _ _ _ _ _ _
   | exact ih2 _ _ _ _ _ _ _ _
   | exact ih3 _ _ _ _ _ _ _ _ _ _ _ _
   | exact ih4 _ _ _ _ _ _ _ _ _ _ _ _ _ _
   | exact LeO.none _
   | refine LeO.ite ?_ ?_
   | refine LeO.bind ?_ (fun _ => ?_)
  ·intro y0 y1 y2 y3 y4 y5 y6 y7
   unfold impl_ValidMachine.l0
   repeat' first
   | (with_reducible exact ih0 _ _ _ _ _ _)
   | (with_reducible exact ih1 _ _ _ _ _ _ _ _)
   | (with_reducible exact ih2 _ _ _ _ _ _ _ _)
   | (with_reducible exact ih3 _ _ _ _ _ _ _ _ _ _ _ _)
   | (with_reducible exact ih4 _ _ _ _ _ _ _ _ _ _ _ _ _ _)
   | (with_reducible exact LeO.refl _)
   | (with_reducible exact LeO.none _)
   | (with_reducible refine LeO.ite ?_ ?_)
   | (with_reducible refine LeO.bind ?_ (fun _ => ?_))
   | exact ih0 _ _ _ _ _ _
   | exact ih1 _ _ _ _ _ _ _ _
   | exact ih2 _ _ _ _ _ _ _ _
   | exact ih3 _ _ _ _ _ _ _ _ _ _ _ _
   | exact ih4 _ _ _ _ _ _ _ _ _ _ _ _ _ _
   | exact LeO.none _
   | refine LeO.ite ?_ ?_
   | refine LeO.bind ?_ (fun _ => ?_)
  ·intro y0 y1 y2 y3 y4 y5 y6 y7
   unfold impl_ValidMachine.l1
   repeat' first
   | (with_reducible exact ih0 _ _ _ _ _ _)
   | (with_reducible exact ih1 _ _ _ _ _ _ _ _)
   | (with_reducible exact ih2 _ _ _ _ _ _ _ _)
   | (with_reducible exact ih3 _ _ _ _ _ _ _ _ _ _ _ _)
   | (with_reducible exact ih4 _ _ _ _ _ _ _ _ _ _ _ _ _ _)
   | (with_reducible exact LeO.refl _)
   | (with_reducible exact LeO.none _)
   | (with_reducible refine LeO.ite ?_ ?_)
   | (with_reducible refine LeO.bind ?_ (fun _ => ?_))
   | exact ih0 _ _ _ _ _ _
   | exact ih1 _ _ _ _ _ _ _ _
   | exact ih2 _ _ _ _ _ _ _ _
   | exact ih3 _ _ _ _ _ _ _ _ _ _ _ _
   | exact ih4 _ _ _ _ _ _ _ _ _ _ _ _ _ _
   | exact LeO.none _
   | refine LeO.ite ?_ ?_
   | refine LeO.bind ?_ (fun _ => ?_)
  ·intro y0 y1 y2 y3 y4 y5 y6 y7 y8 y9 y10 y11
   unfold impl_ValidMachine.j3
   repeat' first
   | (with_reducible exact ih0 _ _ _ _ _ _)
   | (with_reducible exact ih1 _ _ _ _ _ _ _ _)
   | (with_reducible exact ih2 _ _ _ _ _ _ _ _)
   | (with_reducible exact ih3 _ _ _ _ _ _ _ _ _ _ _ _)
   | (with_reducible exact ih4 _ _ _ _ _ _ _ _ _ _ _ _ _ _)
   | (with_reducible exact LeO.refl _)
   | (with_reducible exact LeO.none _)
   | (with_reducible refine LeO.ite ?_ ?_)
   | (with_reducible refine LeO.bind ?_ (fun _ => ?_))
   | exact ih0 _ _ _ _ _ _
   | exact ih1 _ _ _ _ _ _ _ _
   | exact ih2 _ _ _ _ _ _ _ _
   | exact ih3 _ _ _ _ _ _ _ _ _ _ _ _
   | exact ih4 _ _ _ _ _ _ _ _ _ _ _ _ _ _
   | exact LeO.none _
   | refine LeO.ite ?_ ?_
   | refine LeO.bind ?_ (fun _ => ?_)
  ·intro y0 y1 y2 y3 y4 y5 y6 y7 y8 y9 y10 y11 y12 y13
   unfold impl_ValidMachine.l2
   repeat' first
   | (with_reducible exact ih0 _ _ _ _ _ _)
   | (with_reducible exact ih1 _ _ _ _ _ _ _ _)
   | (with_reducible exact ih2 _ _ _ _ _ _ _ _)
   | (with_reducible exact ih3 _ _ _ _ _ _ _ _ _ _ _ _)
   | (with_reducible exact ih4 _ _ _ _ _ _ _ _ _ _ _ _ _ _)
   | (with_reducible exact LeO.refl _)
   | (with_reducible exact LeO.none _)
   | (with_reducible refine LeO.ite ?_ ?_)
   | (with_reducible refine LeO.bind ?_ (fun _ => ?_))
   | exact ih0 _ _ _ _ _ _
   | exact ih1 _ _ _ _ _ _ _ _
   | exact ih2 _ _ _ _ _ _ _ _
   | exact ih3 _ _ _ _ _ _ _ _ _ _ _ _
   | exact ih4 _ _ _ _ _ _ _ _ _ _ _ _ _ _
   | exact LeO.none _
   | refine LeO.ite ?_ ?_
   | refine LeO.bind ?_ (fun _ => ?_)
set_option maxRecDepth 100000 in
theorem impl_ValidMachine.mono : ∀ a0 a1 a2 a3 k,LeO (impl_ValidMachine.f k a0 a1 a2 a3) (impl_ValidMachine.f (k + 1) a0 a1 a2 a3) := by
 intro a0 a1 a2 a3 k
 obtain ⟨ih0,ih1,ih2,ih3,ih4⟩ := impl_ValidMachine.mono_l k
 unfold impl_ValidMachine.f
 repeat' first
   | (with_reducible exact ih0 _ _ _ _ _ _)
   | (with_reducible exact ih1 _ _ _ _ _ _ _ _)
   | (with_reducible exact ih2 _ _ _ _ _ _ _ _)
   | (with_reducible exact ih3 _ _ _ _ _ _ _ _ _ _ _ _)
   | (with_reducible exact ih4 _ _ _ _ _ _ _ _ _ _ _ _ _ _)
   | (with_reducible exact LeO.refl _)
   | (with_reducible exact LeO.none _)
   | (with_reducible refine LeO.ite ?_ ?_)
   | (with_reducible refine LeO.bind ?_ (fun _ => ?_))
   | exact ih0 _ _ _ _ _ _
   | exact ih1 _ _ _ _ _ _ _ _
   | exact ih2 _ _ _ _ _ _ _ _
   | exact ih3 _ _ _ _ _ _ _ _ _ _ _ _
   | exact ih4 _ _ _ _ _ _ _ _ _ _ _ _ _ _
   | exact LeO.none _
   | refine LeO.ite ?_ ?_
   | refine LeO.bind ?_ (fun _ => ?_)
def impl_ValidMachine.T4 : Bool × List (List Nat × List Nat) := (true,[([],[]),([0],[0]),([1],[1]),([],[]),([3],[3]),([2,4,2],[2,4]),([5],[5]),([],[])])
def impl_ValidMachine.B4 : List Nat := [0,1,3,0,8,31,63,0]
theorem impl_ValidMachine.tab4 : rtab .any (opsOf Try.f46 4) = impl_ValidMachine.T4 := by kernel_rfl
theorem impl_ValidMachine.bits4 : waitsOk impl_ValidMachine.T4.2 impl_ValidMachine.B4 = true := by kernel_rfl
set_option maxHeartbeats 8000000 in
set_option maxRecDepth 100000 in
theorem impl_ValidMachine.calls (k : Nat) (A0_0 : Option Addr) (c0_0 : Nat) (l0_0 : List (S88)) (A0_1 : Option Addr) (c0_1 : Nat) (l0_1 : List Int) (A0_2 : Option Addr) (c0_2 : Nat) (l0_2 : List Int) (a0_3 : Bool) (r : Bool) (w : World) (hr0_0 : Kd.C k88 w A0_0 l0_0.length l0_0) (hc0_0 : l0_0.length ≤ c0_0) (hr0_1 : Kd.C (Kd.int .i64) w A0_1 l0_1.length l0_1) (hc0_1 : l0_1.length ≤ c0_1) (hr0_2 : Kd.C (Kd.int .i64) w A0_2 l0_2.length l0_2) (hc0_2 : l0_2.length ≤ c0_2) (h : impl_ValidMachine.f k l0_0 l0_1 l0_2 a0_3 = some r) :
  Calls Try.prog 46 #[.agg #[.slice A0_0 l0_0.length c0_0,.slice A0_1 l0_1.length c0_1,.slice A0_2 l0_2.length c0_2,.bool a0_3]] w fun e w' => e = .returned (.bool r) ∧ Below w.heap.size w w' := by
 have hu56 := Try.underlying56
 have hu88 := Try.underlying88
 have HR0_0 := Aside0.mk hr0_0
 have HC0_0 := Aside0.mk hc0_0
 clear hr0_0 hc0_0
 have HR0_1 := Aside0.mk hr0_1
 have HC0_1 := Aside0.mk hc0_1
 clear hr0_1 hc0_1
 have HR0_2 := Aside0.mk hr0_2
 have HC0_2 := Aside0.mk hc0_2
 clear hr0_2 hc0_2
 have HB := Aside0.mk (Below.refl w.heap.size w)
 have H : (if (l0_0.length : Int) > 300 then (impl_ValidMachine.j0 k (l0_0.length : Int) true l0_0 l0_1 l0_2 a0_3) else (if (l0_1.length : Int) > 300 then (impl_ValidMachine.j0 k (l0_0.length : Int) true l0_0 l0_1 l0_2 a0_3) else (if (l0_2.length : Int) = 20 then (if a0_3 = true then (if (l0_1.length : Int) = 1 then (if 0 < (l0_1.length : Int) then (impl_ValidMachine.j0 k (l0_0.length : Int) (decide ((rd l0_1 0) < 0)) l0_0 l0_1 l0_2 a0_3) else (none)) else (impl_ValidMachine.j0 k (l0_0.length : Int) true l0_0 l0_1 l0_2 a0_3)) else (impl_ValidMachine.j0 k (l0_0.length : Int) false l0_0 l0_1 l0_2 a0_3)) else (impl_ValidMachine.j0 k (l0_0.length : Int) true l0_0 l0_1 l0_2 a0_3)))) = some r := h
 clear h
 have HC2 := Aside0.mk H
 clear H
 go_enter Try.func46,Try.ntmps46
 go_upto_region 2 with (first|((with_reducible refine gate_dst (N := 1) rfl ?_);(try (refine gate_guard (by rfl) ?_;dsimp only));refine box_event ?hg (N := 1) ?hd (cs := #[.slice A0_0 l0_0.length c0_0,.slice A0_1 l0_1.length c0_1,.slice A0_2 l0_2.length c0_2,.bool a0_3]) (t := 56) ?hr ?_;(case hd => rfl);(case hg => rfl);(case hr => first|(go_simp;done)|(go_simp;rfl));intro gb1009 hg w3 hbox hb;have n0_ := Aside0.mk (below_step (by repeat (first|(with_reducible first|exact HB.out|apply below_alloc|apply pw_below_drewN|apply below_drew1)|exact HB.out)) hb);have n1_ := Aside0.mk (hbox);have n2_ := Aside0.mk ((by rw [hg];exact (below_size (by repeat (first|(with_reducible first|exact HB.out|apply below_alloc|apply pw_below_drewN|apply below_drew1)|exact HB.out))) : w.heap.size ≤ gb1009));have n3_ := Aside0.mk ((by rw [hg];exact (below_size (by repeat (first|(with_reducible first|exact HB.out|apply below_alloc|apply pw_below_drewN|apply below_drew1)|exact HB.out))) : w.heap.size ≤ gb1009));clear HB;have HB := n0_;have BK1009 := n1_;have GW1009 := n2_;have GE1009 := n3_;clear n0_ n1_ n2_ n3_;clear hb hbox hg;have hcz4_0 : w3.cell? ⟨gb1009,0,none⟩ = some (.slice A0_0 l0_0.length c0_0) := (blk_cell BK1009.out 0).trans rfl;have hcz4_1 : w3.cell? ⟨gb1009,1,none⟩ = some (.slice A0_1 l0_1.length c0_1) := (blk_cell BK1009.out 1).trans rfl;have hcz4_2 : w3.cell? ⟨gb1009,2,none⟩ = some (.slice A0_2 l0_2.length c0_2) := (blk_cell BK1009.out 2).trans rfl;have hcz4_3 : w3.cell? ⟨gb1009,3,none⟩ = some (.bool a0_3) := (blk_cell BK1009.out 3).trans rfl;have hfz4_0 := blk_frozen BK1009.out 0;have hfz4_1 := blk_frozen BK1009.out 1;have hfz4_2 := blk_frozen BK1009.out 2;have hfz4_3 := blk_frozen BK1009.out 3))
 (try simp only [Act.put,List.setIfInBounds_toArray,List.set_cons_zero,List.set_cons_succ])
 go_cut [43] (fun v43 wc => ∃ (kq : Nat) (x43_1 : Bool),v43 = .bool x43_1 ∧ Aside0 (impl_ValidMachine.j0 kq (l0_0.length : Int) x43_1 l0_0 l0_1 l0_2 a0_3 = some r) ∧ Aside0 (kq ≤ k) ∧ Aside0 (wc.heap[gb1009]? = some (.cells #[(.slice A0_0 l0_0.length c0_0),(.slice A0_1 l0_1.length c0_1),(.slice A0_2 l0_2.length c0_2),.bool a0_3] 56 (0,0))) ∧ Aside0 (Below w.heap.size w wc))
 case first =>
  have H := HC2.out
  clear HC2
  by_cases c5 : (l0_0.length : Int) > 300
  ·rw [if_pos c5] at H
   have c5b0 : decide (300 < (l0_0.length : Int)) = true := decide_eq_true c5
   have c5b1 : decide (300 < l0_0.length) = true := decide_eq_true (by omega)
   clear c5
   (first|rw [c5b0]|(simp only [i64_w,i32_w];rw [c5b0])|skip)
   have H' := Aside0.mk H
   clear H
   go_wp2
   go_meet
   case rel => exact ⟨_,(true),(by first|rfl|(simp;done)|(simp [*];done)),H',⟨by first|omega|exact Nat.le_refl _⟩,⟨by (with_reducible repeat (first|refine blk_drewN ?_ _|refine blk_drew ?_|refine blk_alloc ?_ _));exact BK1009.out⟩,⟨by repeat (first|(with_reducible first|exact HB.out|apply below_alloc|apply pw_below_drewN|apply below_drew1|refine below_set ?_ GE1009.out)|exact HB.out)⟩⟩
  ·rw [if_neg c5] at H
   have c5b0 : decide (300 < (l0_0.length : Int)) = false := decide_eq_false c5
   have c5b1 : decide (300 < l0_0.length) = false := decide_eq_false (by omega)
   clear c5
   (first|rw [c5b0]|(simp only [i64_w,i32_w];rw [c5b0])|skip)
   by_cases c6 : (l0_1.length : Int) > 300
   ·rw [if_pos c6] at H
    have c6b0 : decide (300 < (l0_1.length : Int)) = true := decide_eq_true c6
    have c6b1 : decide (300 < l0_1.length) = true := decide_eq_true (by omega)
    clear c6
    have H' := Aside0.mk H
    clear H
    have hcz7_0 : w3.cell? ⟨gb1009,0,none⟩ = some (.slice A0_0 l0_0.length c0_0) := (blk_cell BK1009.out 0).trans rfl
    have hcz7_1 : w3.cell? ⟨gb1009,1,none⟩ = some (.slice A0_1 l0_1.length c0_1) := (blk_cell BK1009.out 1).trans rfl
    have hcz7_2 : w3.cell? ⟨gb1009,2,none⟩ = some (.slice A0_2 l0_2.length c0_2) := (blk_cell BK1009.out 2).trans rfl
    have hcz7_3 : w3.cell? ⟨gb1009,3,none⟩ = some (.bool a0_3) := (blk_cell BK1009.out 3).trans rfl
    have hfz7_0 := blk_frozen BK1009.out 0
    have hfz7_1 := blk_frozen BK1009.out 1
    have hfz7_2 := blk_frozen BK1009.out 2
    have hfz7_3 := blk_frozen BK1009.out 3
    go_wp2
    go_meet
    case rel => exact ⟨_,(true),(by first|rfl|(simp;done)|(simp [*];done)),H',⟨by first|omega|exact Nat.le_refl _⟩,⟨by (with_reducible repeat (first|refine blk_drewN ?_ _|refine blk_drew ?_|refine blk_alloc ?_ _));exact BK1009.out⟩,⟨by repeat (first|(with_reducible first|exact HB.out|apply below_alloc|apply pw_below_drewN|apply below_drew1|refine below_set ?_ GE1009.out)|exact HB.out)⟩⟩
   ·rw [if_neg c6] at H
    have c6b0 : decide (300 < (l0_1.length : Int)) = false := decide_eq_false c6
    have c6b1 : decide (300 < l0_1.length) = false := decide_eq_false (by omega)
    clear c6
    by_cases c8 : (l0_2.length : Int) = 20
    ·rw [if_pos c8] at H
     have c8b0 : ((l0_2.length : Int) == 20) = true := beq_iff_eq.mpr c8
     have c8b1 : ((l0_2.length : Int) != 20) = false := bne_eq_false_iff_eq.mpr c8
     clear c8
     by_cases c9 : a0_3 = true
     ·subst c9
      have H1 : (if (l0_1.length : Int) = 1 then (if 0 < (l0_1.length : Int) then (impl_ValidMachine.j0 k (l0_0.length : Int) (decide ((rd l0_1 0) < 0)) l0_0 l0_1 l0_2 true) else (none)) else (impl_ValidMachine.j0 k (l0_0.length : Int) true l0_0 l0_1 l0_2 true)) = some r := by rw [if_pos rfl] at H;exact H
      clear H
      have H := H1
      clear H1
      by_cases c10 : (l0_1.length : Int) = 1
      ·rw [if_pos c10] at H
       have c10b0 : ((l0_1.length : Int) == 1) = true := beq_iff_eq.mpr c10
       have c10b1 : ((l0_1.length : Int) != 1) = false := bne_eq_false_iff_eq.mpr c10
       clear c10
       by_cases c11 : 0 < (l0_1.length : Int)
       ·rw [if_pos c11] at H
        have c11b0 : decide (0 < (l0_1.length : Int)) = true := decide_eq_true c11
        have c11b1 : decide (0 < l0_1.length) = true := decide_eq_true (by omega)
        clear c11
        have H' := Aside0.mk H
        clear H
        have hcz12_0 : w3.cell? ⟨gb1009,0,none⟩ = some (.slice A0_0 l0_0.length c0_0) := (blk_cell BK1009.out 0).trans rfl
        have hcz12_1 : w3.cell? ⟨gb1009,1,none⟩ = some (.slice A0_1 l0_1.length c0_1) := (blk_cell BK1009.out 1).trans rfl
        have hcz12_2 : w3.cell? ⟨gb1009,2,none⟩ = some (.slice A0_2 l0_2.length c0_2) := (blk_cell BK1009.out 2).trans rfl
        have hcz12_3 : w3.cell? ⟨gb1009,3,none⟩ = some (.bool true) := (blk_cell BK1009.out 3).trans rfl
        have hfz12_0 := blk_frozen BK1009.out 0
        have hfz12_1 := blk_frozen BK1009.out 1
        have hfz12_2 := blk_frozen BK1009.out 2
        have hfz12_3 := blk_frozen BK1009.out 3
        have p1010 : 0 ≤ (0 : Int) := (by omega)
        have q1010 : 0 < (l0_1.length : Int) := of_decide_eq_true (by first|(with_reducible assumption)|assumption)
        obtain ⟨ad1010,e1010,hx1010_0⟩ := Kd.at_int HR0_1.out 0 p1010 q1010
        cases e1010
        have qi1010 : (0 < l0_1.length) = True := eq_true (by omega)
        (try rw [show ((0 : Int)).toNat = 0 from rfl] at hx1010_0)
        (try rw [Addr.add_zero'] at hx1010_0)
        replace hx1010_0 := (HB.out.cell (World.block_lt_of_cell? w _ hx1010_0)).trans hx1010_0
        replace p1010 := eq_true p1010
        replace q1010 := eq_true q1010
        go_wp2
        go_meet
        case rel => exact ⟨_,(decide ((rd l0_1 0) < 0)),(by first|rfl|(simp;done)|(simp [*];done)),H',⟨by first|omega|exact Nat.le_refl _⟩,⟨by (with_reducible repeat (first|refine blk_drewN ?_ _|refine blk_drew ?_|refine blk_alloc ?_ _));exact BK1009.out⟩,⟨by repeat (first|(with_reducible first|exact HB.out|apply below_alloc|apply pw_below_drewN|apply below_drew1|refine below_set ?_ GE1009.out)|exact HB.out)⟩⟩
       ·rw [if_neg c11] at H
        exact absurd H (by simp)
      ·rw [if_neg c10] at H
       have c10b0 : ((l0_1.length : Int) == 1) = false := beq_eq_false_iff_ne.mpr c10
       have c10b1 : ((l0_1.length : Int) != 1) = true := bne_iff_ne.mpr c10
       have H' := Aside0.mk H
       clear H
       have hcz13_0 : w3.cell? ⟨gb1009,0,none⟩ = some (.slice A0_0 l0_0.length c0_0) := (blk_cell BK1009.out 0).trans rfl
       have hcz13_1 : w3.cell? ⟨gb1009,1,none⟩ = some (.slice A0_1 l0_1.length c0_1) := (blk_cell BK1009.out 1).trans rfl
       have hcz13_2 : w3.cell? ⟨gb1009,2,none⟩ = some (.slice A0_2 l0_2.length c0_2) := (blk_cell BK1009.out 2).trans rfl
       have hcz13_3 : w3.cell? ⟨gb1009,3,none⟩ = some (.bool true) := (blk_cell BK1009.out 3).trans rfl
       have hfz13_0 := blk_frozen BK1009.out 0
       have hfz13_1 := blk_frozen BK1009.out 1
       have hfz13_2 := blk_frozen BK1009.out 2
       have hfz13_3 := blk_frozen BK1009.out 3
       go_wp2
       go_meet
       case rel => exact ⟨_,(true),(by first|rfl|(simp;done)|(simp [*];done)),H',⟨by first|omega|exact Nat.le_refl _⟩,⟨by (with_reducible repeat (first|refine blk_drewN ?_ _|refine blk_drew ?_|refine blk_alloc ?_ _));exact BK1009.out⟩,⟨by repeat (first|(with_reducible first|exact HB.out|apply below_alloc|apply pw_below_drewN|apply below_drew1|refine below_set ?_ GE1009.out)|exact HB.out)⟩⟩
     ·replace c9 := Bool.eq_false_iff.mpr c9
      subst c9
      have H1 : (impl_ValidMachine.j0 k (l0_0.length : Int) false l0_0 l0_1 l0_2 false) = some r := by rw [if_neg (show ¬ (false = true) by decide)] at H;exact H
      clear H
      have H := H1
      clear H1
      have H' := Aside0.mk H
      clear H
      have hcz14_0 : w3.cell? ⟨gb1009,0,none⟩ = some (.slice A0_0 l0_0.length c0_0) := (blk_cell BK1009.out 0).trans rfl
      have hcz14_1 : w3.cell? ⟨gb1009,1,none⟩ = some (.slice A0_1 l0_1.length c0_1) := (blk_cell BK1009.out 1).trans rfl
      have hcz14_2 : w3.cell? ⟨gb1009,2,none⟩ = some (.slice A0_2 l0_2.length c0_2) := (blk_cell BK1009.out 2).trans rfl
      have hcz14_3 : w3.cell? ⟨gb1009,3,none⟩ = some (.bool false) := (blk_cell BK1009.out 3).trans rfl
      have hfz14_0 := blk_frozen BK1009.out 0
      have hfz14_1 := blk_frozen BK1009.out 1
      have hfz14_2 := blk_frozen BK1009.out 2
      have hfz14_3 := blk_frozen BK1009.out 3
      go_wp2
      go_meet
      case rel => exact ⟨_,(false),(by first|rfl|(simp;done)|(simp [*];done)),H',⟨by first|omega|exact Nat.le_refl _⟩,⟨by (with_reducible repeat (first|refine blk_drewN ?_ _|refine blk_drew ?_|refine blk_alloc ?_ _));exact BK1009.out⟩,⟨by repeat (first|(with_reducible first|exact HB.out|apply below_alloc|apply pw_below_drewN|apply below_drew1|refine below_set ?_ GE1009.out)|exact HB.out)⟩⟩
    ·rw [if_neg c8] at H
     have c8b0 : ((l0_2.length : Int) == 20) = false := beq_eq_false_iff_ne.mpr c8
     have c8b1 : ((l0_2.length : Int) != 20) = true := bne_iff_ne.mpr c8
     have H' := Aside0.mk H
     clear H
     have hcz15_0 : w3.cell? ⟨gb1009,0,none⟩ = some (.slice A0_0 l0_0.length c0_0) := (blk_cell BK1009.out 0).trans rfl
     have hcz15_1 : w3.cell? ⟨gb1009,1,none⟩ = some (.slice A0_1 l0_1.length c0_1) := (blk_cell BK1009.out 1).trans rfl
     have hcz15_2 : w3.cell? ⟨gb1009,2,none⟩ = some (.slice A0_2 l0_2.length c0_2) := (blk_cell BK1009.out 2).trans rfl
     have hcz15_3 : w3.cell? ⟨gb1009,3,none⟩ = some (.bool a0_3) := (blk_cell BK1009.out 3).trans rfl
     have hfz15_0 := blk_frozen BK1009.out 0
     have hfz15_1 := blk_frozen BK1009.out 1
     have hfz15_2 := blk_frozen BK1009.out 2
     have hfz15_3 := blk_frozen BK1009.out 3
     go_wp2
     go_meet
     case rel => exact ⟨_,(true),(by first|rfl|(simp;done)|(simp [*];done)),H',⟨by first|omega|exact Nat.le_refl _⟩,⟨by (with_reducible repeat (first|refine blk_drewN ?_ _|refine blk_drew ?_|refine blk_alloc ?_ _));exact BK1009.out⟩,⟨by repeat (first|(with_reducible first|exact HB.out|apply below_alloc|apply pw_below_drewN|apply below_drew1|refine below_set ?_ GE1009.out)|exact HB.out)⟩⟩
 case rest =>
  clear HC2
  try clear c1
  try clear p1
  try clear q1
  try clear hx1
  try clear qi1
  try clear p2
  try clear c4
  try clear c5
  try clear c5b0
  try clear c5b1
  try clear c6
  try clear c6b0
  try clear c6b1
  try clear c8
  try clear c8b0
  try clear c8b1
  try clear c9
  try clear c10
  try clear c10b0
  try clear c10b1
  try clear p10
  try clear q10
  try clear hx10
  try clear qi10
  try clear c11
  try clear c11b0
  try clear c11b1
  try clear hcz12_0
  try clear hcz12_1
  try clear hcz12_2
  try clear hcz12_3
  try clear hcz13_0
  try clear hcz13_1
  try clear hcz13_2
  try clear hcz13_3
  try clear hcz14_0
  try clear hcz14_1
  try clear hcz14_2
  try clear hcz14_3
  try clear hcz15_0
  try clear hcz15_1
  try clear hcz15_2
  try clear hcz15_3
  try clear hcz4_0
  try clear hcz4_1
  try clear hcz4_2
  try clear hcz4_3
  try clear hcz7_0
  try clear hcz7_1
  try clear hcz7_2
  try clear hcz7_3
  try clear hfz12_0
  try clear hfz12_1
  try clear hfz12_2
  try clear hfz12_3
  try clear hfz13_0
  try clear hfz13_1
  try clear hfz13_2
  try clear hfz13_3
  try clear hfz14_0
  try clear hfz14_1
  try clear hfz14_2
  try clear hfz14_3
  try clear hfz15_0
  try clear hfz15_1
  try clear hfz15_2
  try clear hfz15_3
  try clear hfz4_0
  try clear hfz4_1
  try clear hfz4_2
  try clear hfz4_3
  try clear hfz7_0
  try clear hfz7_1
  try clear hfz7_2
  try clear hfz7_3
  try clear hx1010_0
  try clear p1010
  try clear q1010
  obtain ⟨kq,x43_1,rfl,HA,HJ1,BK1009,HB⟩ := hcut
  cases kq with
  | zero => exact absurd HA.out (fun h_ => (by cases h_))
  | succ kj1 =>
   have H := HA.out
   clear HA
   simp only [impl_ValidMachine.j0] at H
   by_cases c16 : x43_1 = true
   ·subst c16
    have H1 : (some false) = some r := by rw [if_pos rfl] at H;exact H
    clear H
    have H := H1
    clear H1
    obtain rfl := Option.some.inj H
    go_wp2
    go_ret
    exact ⟨by first|rfl|(simp [errW_none,errW_some] <;> rfl)|(simp [*,errW_none,errW_some] <;> rfl),by repeat (first|(with_reducible first|exact HB.out|apply below_alloc|apply pw_below_drewN|apply below_drew1|refine below_set ?_ GE1009.out)|exact HB.out)⟩
   ·replace c16 := Bool.eq_false_iff.mpr c16
    subst c16
    have H1 : ((slices_Clone_int_int.f l0_1).bind fun t1011 => (if t1011.length + l0_2.length < 17592186044416 then ((some (t1011 ++ l0_2 : List Int)).bind fun y1014 => (impl_ValidMachine.l0 kj1 (l0_0.length : Int) y1014 (y1014.length : Int) 0 l0_0 l0_1 l0_2 a0_3)) else (none))) = some r := by rw [if_neg (show ¬ (false = true) by decide)] at H;exact H
    clear H
    have H := H1
    clear H1
    replace H := Option.bind_eq_some_iff.mp H
    obtain ⟨t1011,A170,H⟩ := H
    replace H : (if t1011.length + l0_2.length < 17592186044416 then ((some (t1011 ++ l0_2 : List Int)).bind fun y1014 => (impl_ValidMachine.l0 kj1 (l0_0.length : Int) y1014 (y1014.length : Int) 0 l0_0 l0_1 l0_2 a0_3)) else (none)) = some r := H
    have A17 := Aside0.mk A170
    clear A170
    by_cases c18 : t1011.length + l0_2.length < 17592186044416
    ·rw [if_pos c18] at H
     have LMc18 := Aside0.mk c18
     clear c18
     obtain ⟨y1014,hy1014⟩ : ∃ y_ : List Int,y_ = (t1011 ++ l0_2) := ⟨_,rfl⟩
     replace H : (impl_ValidMachine.l0 kj1 (l0_0.length : Int) y1014 (y1014.length : Int) 0 l0_0 l0_1 l0_2 a0_3) = some r := by first|(rw [hy1014];with_reducible exact H)|(have H2_ := (Option.bind_some _ _).symm.trans H;rw [hy1014];with_reducible exact H2_)|(have H2_ := (Option.bind_some _ _).symm.trans H;with_reducible exact H2_)|with_reducible exact H|(rw [hy1014];exact H)|exact H
     have Ny1014 := Aside0.mk hy1014
     clear hy1014
     have H' := Aside0.mk H
     clear H
     try go_wp2
     have n0_ := Aside0.mk (blk_drew BK1009.out)
     have n1_ := Aside0.mk (below_drew1 HB.out)
     clear BK1009
     clear HB
     have BK1009 := n0_
     have HB := n1_
     clear n0_ n1_
     refine start_ (n := 8) (S := fun w' => w'.cell? ⟨gb1009,0,none⟩ = some (.slice A0_0 l0_0.length c0_0) ∧ w'.cell? ⟨gb1009,1,none⟩ = some (.slice A0_1 l0_1.length c0_1) ∧ w'.cell? ⟨gb1009,2,none⟩ = some (.slice A0_2 l0_2.length c0_2) ∧ w'.cell? ⟨gb1009,3,none⟩ = some (.bool a0_3)) (ds := []) #[false,false,false,false,false,false,false,false] (by kernel_rfl) rfl rfl ⟨(blk_cell BK1009.out 0).trans rfl,(blk_cell BK1009.out 1).trans rfl,(blk_cell BK1009.out 2).trans rfl,(blk_cell BK1009.out 3).trans rfl⟩ (fun hHeld => ?_);refine with_tabW impl_ValidMachine.tab4 impl_ValidMachine.bits4 (fun HT_ HW_ => ?_)
     generalize wc.drew = w19 at BK1009 HB hHeld ⊢
     refine pure_ (i := 0) (N := some 44) (v := ?_) (a' := ?_) #[true,false,false,false,false,false,false,false] rfl rfl (any_of HT_.out (by kernel_rfl)) (fun _ _ _ h => h) (Or.inl ⟨by rfl,?_⟩) ?_ ?_
     rotate_left
     ·intro w'
      go_simp
      with_reducible rfl
     rotate_left
     ·simp only [Act.put,List.setIfInBounds_toArray,List.set_cons_zero,List.set_cons_succ,i64_w,i32_w]
      rfl
     refine pure_ (i := 3) (N := some 47) (v := ?_) (a' := ?_) #[true,false,false,true,false,false,false,false] rfl rfl (any_of HT_.out (by kernel_rfl)) (fun _ _ _ h => h) (Or.inl ⟨by rfl,?_⟩) ?_ ?_
     rotate_left
     ·intro w'
      go_simp
      with_reducible rfl
     rotate_left
     ·simp only [Act.put,List.setIfInBounds_toArray,List.set_cons_zero,List.set_cons_succ,i64_w,i32_w]
      rfl
     refine pure_ (i := 7) (N := some 51) (v := ?_) (a' := ?_) #[true,false,false,true,false,false,false,true] rfl rfl (any_of HT_.out (by kernel_rfl)) (fun _ _ _ h => h) (Or.inl ⟨by rfl,?_⟩) ?_ ?_
     rotate_left
     ·intro w'
      go_simp
      with_reducible rfl
     rotate_left
     ·simp only [Act.put,List.setIfInBounds_toArray,List.set_cons_zero,List.set_cons_succ,i64_w,i32_w]
      rfl
     refine take_ (i := 1) (N := some 45) (v := ?_) (a' := ?_) #[true,true,false,true,false,false,false,true] rfl rfl (take_ofW HT_.out HW_.out (by kernel_rfl)) (fun _ _ _ h => h) (Or.inl ⟨by rfl,?_⟩) hHeld ?_ ?_
     rotate_left
     ·rintro w' ⟨s0,s1,s2,s3⟩
      go_simp
      with_reducible rfl
     rotate_left
     ·simp only [Act.put,List.setIfInBounds_toArray,List.set_cons_zero,List.set_cons_succ,i64_w,i32_w]
      rfl
     refine take_ (i := 4) (N := some 48) (v := ?_) (a' := ?_) #[true,true,false,true,true,false,false,true] rfl rfl (take_ofW HT_.out HW_.out (by kernel_rfl)) (fun _ _ _ h => h) (Or.inl ⟨by rfl,?_⟩) hHeld ?_ ?_
     rotate_left
     ·rintro w' ⟨s0,s1,s2,s3⟩
      go_simp
      with_reducible rfl
     rotate_left
     ·simp only [Act.put,List.setIfInBounds_toArray,List.set_cons_zero,List.set_cons_succ,i64_w,i32_w]
      rfl
     refine one_ (i := 2) (N := some 46) #[true,true,true,true,true,false,false,true] rfl rfl (one_of HT_.out (by kernel_rfl)) (by decide) (fun K hK => ?_)
     refine goes_ Try.func81 (by kernel_rfl) rfl #[.slice A0_1 l0_1.length c0_1] (by rfl) rfl rfl (by (try simp only [List.map_toArray,List.map_cons,List.map_nil]);first|done|rfl|(simp only [List.length_drop,List.length_take];rfl)) ?_
     with_reducible refine (slices_Clone_int_int.calls _ _ l0_1 t1011 _ ?side1 ?side2 A17.out).mono ?_
     (case side1 => repeat (first|exact (Kd.C_below HR0_1.out HB.out)|(with_reducible refine Kd.C_alloc ?_ _)|(with_reducible refine Kd.C_drewN ?_ _)|(with_reducible refine Kd.C_drew ?_)))
     (case side2 => exact HC0_1.out)
     rintro e w20 ⟨v1012,rfl,ho0,hb⟩
     refine ⟨_,rfl,?_⟩
     have n0_ := Aside0.mk (Kd.R_lower ho0 (below_size (by repeat (first|(with_reducible first|exact HB.out|apply below_alloc|apply pw_below_drewN|apply below_drew1|refine below_set ?_ GE1009.out)|exact HB.out))))
     have n1_ := Aside0.mk (blk_below (g := gb1009) (o := .cells #[.slice A0_0 l0_0.length c0_0,.slice A0_1 l0_1.length c0_1,.slice A0_2 l0_2.length c0_2,.bool a0_3] 56 (0,0)) (by (with_reducible repeat (first|refine blk_drewN ?_ _|refine blk_drew ?_|refine blk_alloc ?_ _));exact BK1009.out) hb)
     have n2_ := Aside0.mk (below_step (by repeat (first|(with_reducible first|exact HB.out|apply below_alloc|apply pw_below_drewN|apply below_drew1|refine below_set ?_ GE1009.out)|exact HB.out)) hb)
     clear BK1009
     clear HB
     have HO1013 := n0_
     have BK1009 := n1_
     have HB := n2_
     clear n0_ n1_ n2_
     (try clear hb)
     (try clear hb2)
     (try clear hk)
     (try clear hi)
     (try clear ho0)
     refine hK.out _ _ ⟨(blk_cell BK1009.out 0).trans rfl,(blk_cell BK1009.out 1).trans rfl,(blk_cell BK1009.out 2).trans rfl,(blk_cell BK1009.out 3).trans rfl⟩ (fun hHeld => ?_)
     clear hK K
     refine norm_ (a' := ?_) ?_ ?_
     rotate_left
     ·show Act.put _ (some 46) _ = _
      simp only [Act.put,List.setIfInBounds_toArray,List.set_cons_zero,List.set_cons_succ,i64_w,i32_w]
      rfl
     refine one_ (i := 5) (N := some 49) #[true,true,true,true,true,true,false,true] rfl rfl (one_of HT_.out (by kernel_rfl)) (by decide) (fun K hK => ?_)
     refine Kd.R_append_rows_step (Kd.int .i64) (w0 := w) w.heap.size (by rfl) (.tmp 46) (.tmp 48) 22 3 (.int .i64 0) 8 rfl Try.underlying22 info3 rfl (by decide) (by omega) v1012 t1011 l0_2 _ _ _ (fun _ => True) (fun _ => False) rfl rfl ?aO ?aR (fun _ _ h => h) (fun _ h => h.elim) ?aF ?aB ?aS ?aL ?_
     (case aR => repeat (first|exact (Kd.C_below HR0_2.out HB.out)|(with_reducible refine Kd.C_alloc ?_ _)|(with_reducible refine Kd.C_drewN ?_ _)|(with_reducible refine Kd.C_drew ?_)))
     (case aB => exact (by repeat (first|(with_reducible first|exact HB.out|apply below_alloc|apply pw_below_drewN|apply below_drew1|refine below_set ?_ GE1009.out)|exact HB.out)))
     (case aF => exact (fun _ _ => trivial))
     (case aO => exact (by (with_reducible repeat (first|apply Kd.R_alloc|apply Kd.R_drewN|apply Kd.R_drew));exact HO1013.out))
     (case aS => exact (below_size (by repeat (first|(with_reducible first|exact HB.out|apply below_alloc|apply pw_below_drewN|apply below_drew1|refine below_set ?_ GE1009.out)|exact HB.out))))
     (case aL => have := LMc18.out;omega)
     intro v1015 w21 ho hb hg hat
     rw [← Ny1014.out] at ho
     have n0_ := Aside0.mk (blk_grown (g := gb1009) (o := .cells #[.slice A0_0 l0_0.length c0_0,.slice A0_1 l0_1.length c0_1,.slice A0_2 l0_2.length c0_2,.bool a0_3] 56 (0,0)) (by (with_reducible repeat (first|refine blk_drewN ?_ _|refine blk_drew ?_|refine blk_alloc ?_ _));exact BK1009.out) hg (Kd.R_ne HO1013.out BK1009.out (by decide)))
     have n1_ := Aside0.mk (hb)
     have n2_ := Aside0.mk (ho)
     clear BK1009
     clear HB
     clear HO1013
     have BK1009 := n0_
     have HB := n1_
     have HO1016 := n2_
     clear n0_ n1_ n2_
     clear ho hb hg hat
     obtain ⟨Ao22,co22,eo22⟩ := Kd.R_slice HO1016.out
     (first|subst eo22|(injection eo22 with f1_ f2_ f3_;have f4_ := f1_.symm;have f5_ := f3_.symm;clear f1_ f2_ f3_;subst f4_;subst f5_))
     refine hK.out _ _ ⟨(blk_cell BK1009.out 0).trans rfl,(blk_cell BK1009.out 1).trans rfl,(blk_cell BK1009.out 2).trans rfl,(blk_cell BK1009.out 3).trans rfl⟩ (fun hHeld => ?_)
     clear hK K
     refine norm_ (a' := ?_) ?_ ?_
     rotate_left
     ·show Act.put _ (some 49) _ = _
      simp only [Act.put,List.setIfInBounds_toArray,List.set_cons_zero,List.set_cons_succ,i64_w,i32_w]
      rfl
     refine pure_ (i := 6) (N := some 50) (v := ?_) (a' := ?_) #[true,true,true,true,true,true,true,true] rfl rfl (any_of HT_.out (by kernel_rfl)) (fun _ _ _ h => h) (Or.inl ⟨by rfl,?_⟩) ?_ ?_
     rotate_left
     ·intro w'
      go_simp
      with_reducible rfl
     rotate_left
     ·simp only [Act.put,List.setIfInBounds_toArray,List.set_cons_zero,List.set_cons_succ,i64_w,i32_w]
      rfl
     refine done_ (done_of HT_.out (by kernel_rfl)) ?_
     try go_wp2
     go_loopg [51] kj1 (fun kq v51 w' => ∃ (x51_2 : Int),v51 = .int .i64 x51_2 ∧ Aside0 (impl_ValidMachine.l0 kq (l0_0.length : Int) y1014 (y1014.length : Int) x51_2 l0_0 l0_1 l0_2 a0_3 = some r) ∧ Aside0 (kq ≤ kj1) ∧ Aside0 (Kd.R (Kd.int .i64) 3 w' w.heap.size (fun _ => True) (.slice Ao22 y1014.length co22) y1014) ∧ Aside0 (w'.heap[gb1009]? = some (.cells #[(.slice A0_0 l0_0.length c0_0),(.slice A0_1 l0_1.length c0_1),(.slice A0_2 l0_2.length c0_2),.bool a0_3] 56 (0,0))) ∧ Aside0 (Below w.heap.size w w'))
     case atStart => exact ⟨(0),(by first|rfl|(simp;done)|(simp [*];done)),H',⟨Nat.le_refl _⟩,⟨by (with_reducible repeat (first|apply Kd.R_alloc|apply Kd.R_drewN|apply Kd.R_drew));exact HO1016.out⟩,⟨by (with_reducible repeat (first|refine blk_drewN ?_ _|refine blk_drew ?_|refine blk_alloc ?_ _));exact BK1009.out⟩,⟨by repeat (first|(with_reducible first|exact HB.out|apply below_alloc|apply pw_below_drewN|apply below_drew1|refine below_set ?_ GE1009.out)|exact HB.out)⟩⟩
     case round =>
      clear H'
      try clear c1
      try clear p1
      try clear q1
      try clear hx1
      try clear qi1
      try clear p2
      try clear c4
      try clear c5
      try clear c5b0
      try clear c5b1
      try clear c6
      try clear c6b0
      try clear c6b1
      try clear c8
      try clear c8b0
      try clear c8b1
      try clear c9
      try clear c10
      try clear c10b0
      try clear c10b1
      try clear p10
      try clear q10
      try clear hx10
      try clear qi10
      try clear c11
      try clear c11b0
      try clear c11b1
      try clear c16
      try clear c18
      try clear hcz12_0
      try clear hcz12_1
      try clear hcz12_2
      try clear hcz12_3
      try clear hcz13_0
      try clear hcz13_1
      try clear hcz13_2
      try clear hcz13_3
      try clear hcz14_0
      try clear hcz14_1
      try clear hcz14_2
      try clear hcz14_3
      try clear hcz15_0
      try clear hcz15_1
      try clear hcz15_2
      try clear hcz15_3
      try clear hcz4_0
      try clear hcz4_1
      try clear hcz4_2
      try clear hcz4_3
      try clear hcz7_0
      try clear hcz7_1
      try clear hcz7_2
      try clear hcz7_3
      try clear hfz12_0
      try clear hfz12_1
      try clear hfz12_2
      try clear hfz12_3
      try clear hfz13_0
      try clear hfz13_1
      try clear hfz13_2
      try clear hfz13_3
      try clear hfz14_0
      try clear hfz14_1
      try clear hfz14_2
      try clear hfz14_3
      try clear hfz15_0
      try clear hfz15_1
      try clear hfz15_2
      try clear hfz15_3
      try clear hfz4_0
      try clear hfz4_1
      try clear hfz4_2
      try clear hfz4_3
      try clear hfz7_0
      try clear hfz7_1
      try clear hfz7_2
      try clear hfz7_3
      try clear hx1010_0
      try clear p1
      try clear p10
      try clear p1010
      try clear p2
      try clear q1
      try clear q10
      try clear q1010
      obtain ⟨x51_2,rfl,HA,HK2,HO_49,BK1009,HB⟩ := hrel
      cases gk with
      | zero => exact absurd HA.out (fun h_ => (by cases h_))
      | succ k2 =>
       have H := HA.out
       clear HA
       simp only [impl_ValidMachine.l0] at H
       by_cases c23 : x51_2 < (y1014.length : Int)
       ·rw [if_pos c23] at H
        have c23b0 : decide (x51_2 < (y1014.length : Int)) = true := decide_eq_true c23
        clear c23
        by_cases c24 : 0 ≤ x51_2
        ·rw [if_pos c24] at H
         have c24b0 : decide (0 ≤ x51_2) = true := decide_eq_true c24
         clear c24
         by_cases c25 : x51_2 < (y1014.length : Int)
         ·rw [if_pos c25] at H
          have c25b0 : decide (x51_2 < (y1014.length : Int)) = true := decide_eq_true c25
          clear c25
          by_cases c26 : (rd y1014 x51_2) < (-1)
          ·rw [if_pos c26] at H
           have c26b0 : decide ((rd y1014 x51_2) < (-1)) = true := decide_eq_true c26
           clear c26
           obtain rfl := Option.some.inj H
           have p1017 : 0 ≤ (x51_2 : Int) := of_decide_eq_true (by first|(with_reducible assumption)|assumption)
           have q1017 : x51_2 < (y1014.length : Int) := of_decide_eq_true (by first|(with_reducible assumption)|assumption)
           obtain ⟨ad1017,e1017,hx1017_0⟩ := Kd.at_int (Kd.R_reads' HO_49.out).2.2 x51_2 p1017 q1017
           cases e1017
           replace p1017 := eq_true p1017
           replace q1017 := eq_true q1017
           go_wp2
           go_ret
           exact ⟨by first|rfl|(simp [errW_none,errW_some] <;> rfl)|(simp [*,errW_none,errW_some] <;> rfl),by repeat (first|(with_reducible first|exact HB.out|apply below_alloc|apply pw_below_drewN|apply below_drew1|refine below_set ?_ GE1009.out)|exact HB.out)⟩
          ·rw [if_neg c26] at H
           have c26b0 : decide ((rd y1014 x51_2) < (-1)) = false := decide_eq_false c26
           clear c26
           by_cases c27 : (rd y1014 x51_2) ≥ (l0_0.length : Int)
           ·rw [if_pos c27] at H
            have c27b0 : decide ((l0_0.length : Int) ≤ (rd y1014 x51_2)) = true := decide_eq_true c27
            clear c27
            obtain rfl := Option.some.inj H
            have p1017 : 0 ≤ (x51_2 : Int) := of_decide_eq_true (by first|(with_reducible assumption)|assumption)
            have q1017 : x51_2 < (y1014.length : Int) := of_decide_eq_true (by first|(with_reducible assumption)|assumption)
            obtain ⟨ad1017,e1017,hx1017_0⟩ := Kd.at_int (Kd.R_reads' HO_49.out).2.2 x51_2 p1017 q1017
            cases e1017
            replace p1017 := eq_true p1017
            replace q1017 := eq_true q1017
            go_wp2
            go_ret
            exact ⟨by first|rfl|(simp [errW_none,errW_some] <;> rfl)|(simp [*,errW_none,errW_some] <;> rfl),by repeat (first|(with_reducible first|exact HB.out|apply below_alloc|apply pw_below_drewN|apply below_drew1|refine below_set ?_ GE1009.out)|exact HB.out)⟩
           ·rw [if_neg c27] at H
            have c27b0 : decide ((l0_0.length : Int) ≤ (rd y1014 x51_2)) = false := decide_eq_false c27
            clear c27
            have H' := Aside0.mk H
            clear H
            have p1017 : 0 ≤ (x51_2 : Int) := of_decide_eq_true (by first|(with_reducible assumption)|assumption)
            have q1017 : x51_2 < (y1014.length : Int) := of_decide_eq_true (by first|(with_reducible assumption)|assumption)
            obtain ⟨ad1017,e1017,hx1017_0⟩ := Kd.at_int (Kd.R_reads' HO_49.out).2.2 x51_2 p1017 q1017
            cases e1017
            replace p1017 := eq_true p1017
            replace q1017 := eq_true q1017
            go_wp2
            go_roundg k2
            case measure => have := HJ1.out;have := HK2.out;omega
            case rel => exact ⟨(wrap64 (x51_2 + 1)),(by first|rfl|(simp;done)|(simp [*];done)),H',⟨by have := HJ1.out;have := HK2.out;omega⟩,⟨by (with_reducible repeat (first|apply Kd.R_alloc|apply Kd.R_drewN|apply Kd.R_drew));exact HO_49.out⟩,⟨by (with_reducible repeat (first|refine blk_drewN ?_ _|refine blk_drew ?_|refine blk_alloc ?_ _));exact BK1009.out⟩,⟨by repeat (first|(with_reducible first|exact HB.out|apply below_alloc|apply pw_below_drewN|apply below_drew1|refine below_set ?_ GE1009.out)|exact HB.out)⟩⟩
         ·rw [if_neg c25] at H
          exact absurd H (by simp)
        ·rw [if_neg c24] at H
         exact absurd H (by simp)
       ·rw [if_neg c23] at H
        have c23b0 : decide (x51_2 < (y1014.length : Int)) = false := decide_eq_false c23
        clear c23
        have H' := Aside0.mk H
        clear H
        have hcz28_0 : wr.cell? ⟨gb1009,0,none⟩ = some (.slice A0_0 l0_0.length c0_0) := (blk_cell BK1009.out 0).trans rfl
        have hcz28_1 : wr.cell? ⟨gb1009,1,none⟩ = some (.slice A0_1 l0_1.length c0_1) := (blk_cell BK1009.out 1).trans rfl
        have hcz28_2 : wr.cell? ⟨gb1009,2,none⟩ = some (.slice A0_2 l0_2.length c0_2) := (blk_cell BK1009.out 2).trans rfl
        have hcz28_3 : wr.cell? ⟨gb1009,3,none⟩ = some (.bool a0_3) := (blk_cell BK1009.out 3).trans rfl
        have hfz28_0 := blk_frozen BK1009.out 0
        have hfz28_1 := blk_frozen BK1009.out 1
        have hfz28_2 := blk_frozen BK1009.out 2
        have hfz28_3 := blk_frozen BK1009.out 3
        go_wp2
        go_loopg [66] k2 (fun kq v66 w' => ∃ (x66_3 : Int),v66 = .int .i64 x66_3 ∧ Aside0 (impl_ValidMachine.l1 kq (l0_0.length : Int) l0_0 (l0_0.length : Int) x66_3 l0_0 l0_1 l0_2 a0_3 = some r) ∧ Aside0 (kq ≤ k2) ∧ Aside0 (w'.heap[gb1009]? = some (.cells #[(.slice A0_0 l0_0.length c0_0),(.slice A0_1 l0_1.length c0_1),(.slice A0_2 l0_2.length c0_2),.bool a0_3] 56 (0,0))) ∧ Aside0 (Below w.heap.size w w'))
        case atStart => exact ⟨(0),(by first|rfl|(simp;done)|(simp [*];done)),H',⟨Nat.le_refl _⟩,⟨by (with_reducible repeat (first|refine blk_drewN ?_ _|refine blk_drew ?_|refine blk_alloc ?_ _));exact BK1009.out⟩,⟨by repeat (first|(with_reducible first|exact HB.out|apply below_alloc|apply pw_below_drewN|apply below_drew1|refine below_set ?_ GE1009.out)|exact HB.out)⟩⟩
        case round =>
         clear H'
         try clear c1
         try clear p1
         try clear q1
         try clear hx1
         try clear qi1
         try clear c2
         try clear p2
         try clear c4
         try clear c5
         try clear c5b0
         try clear c5b1
         try clear c6
         try clear c6b0
         try clear c6b1
         try clear p6
         try clear c8
         try clear c8b0
         try clear c8b1
         try clear c9
         try clear c10
         try clear c10b0
         try clear c10b1
         try clear p10
         try clear q10
         try clear hx10
         try clear qi10
         try clear c11
         try clear c11b0
         try clear c11b1
         try clear c16
         try clear c18
         try clear c23
         try clear c23b0
         try clear c24
         try clear c24b0
         try clear c25
         try clear c25b0
         try clear c26
         try clear c26b0
         try clear c27
         try clear c27b0
         try clear hcz12_0
         try clear hcz12_1
         try clear hcz12_2
         try clear hcz12_3
         try clear hcz13_0
         try clear hcz13_1
         try clear hcz13_2
         try clear hcz13_3
         try clear hcz14_0
         try clear hcz14_1
         try clear hcz14_2
         try clear hcz14_3
         try clear hcz15_0
         try clear hcz15_1
         try clear hcz15_2
         try clear hcz15_3
         try clear hcz28_0
         try clear hcz28_1
         try clear hcz28_2
         try clear hcz28_3
         try clear hcz4_0
         try clear hcz4_1
         try clear hcz4_2
         try clear hcz4_3
         try clear hcz7_0
         try clear hcz7_1
         try clear hcz7_2
         try clear hcz7_3
         try clear hfz12_0
         try clear hfz12_1
         try clear hfz12_2
         try clear hfz12_3
         try clear hfz13_0
         try clear hfz13_1
         try clear hfz13_2
         try clear hfz13_3
         try clear hfz14_0
         try clear hfz14_1
         try clear hfz14_2
         try clear hfz14_3
         try clear hfz15_0
         try clear hfz15_1
         try clear hfz15_2
         try clear hfz15_3
         try clear hfz28_0
         try clear hfz28_1
         try clear hfz28_2
         try clear hfz28_3
         try clear hfz4_0
         try clear hfz4_1
         try clear hfz4_2
         try clear hfz4_3
         try clear hfz7_0
         try clear hfz7_1
         try clear hfz7_2
         try clear hfz7_3
         try clear hx1010_0
         try clear hx1017_0
         try clear p1
         try clear p10
         try clear p1010
         try clear p1017
         try clear p2
         try clear q1
         try clear q10
         try clear q1010
         try clear q1017
         obtain ⟨x66_3,rfl,HA,HK3,BK1009,HB⟩ := hrel
         cases gk with
         | zero => exact absurd HA.out (fun h_ => (by cases h_))
         | succ k3 =>
          have H := HA.out
          clear HA
          simp only [impl_ValidMachine.l1] at H
          by_cases c29 : x66_3 < (l0_0.length : Int)
          ·rw [if_pos c29] at H
           have c29b0 : decide (x66_3 < (l0_0.length : Int)) = true := decide_eq_true c29
           clear c29
           by_cases c30 : 0 ≤ x66_3
           ·rw [if_pos c30] at H
            have c30b0 : decide (0 ≤ x66_3) = true := decide_eq_true c30
            clear c30
            by_cases c31 : x66_3 < (l0_0.length : Int)
            ·rw [if_pos c31] at H
             have c31b0 : decide (x66_3 < (l0_0.length : Int)) = true := decide_eq_true c31
             clear c31
             have HC32 := Aside0.mk H
             clear H
             have p1018 : 0 ≤ (x66_3 : Int) := of_decide_eq_true (by first|(with_reducible assumption)|assumption)
             have q1018 : x66_3 < (l0_0.length : Int) := of_decide_eq_true (by first|(with_reducible assumption)|assumption)
             obtain ⟨ad1018,A1018_2,c1018_2,e1018,hx1018_0,hx1018_1,hx1018_2,hl1018_2,hi1018_2⟩ := at_T88 HR0_0.out x66_3 p1018 q1018
             cases e1018
             replace hx1018_0 := (HB.out.cell (World.block_lt_of_cell? w _ hx1018_0)).trans hx1018_0
             replace hx1018_1 := (HB.out.cell (World.block_lt_of_cell? w _ hx1018_1)).trans hx1018_1
             replace hx1018_2 := (HB.out.cell (World.block_lt_of_cell? w _ hx1018_2)).trans hx1018_2
             have HR1018_2 := Aside0.mk hi1018_2
             have HC1018_2 := Aside0.mk hl1018_2
             clear hi1018_2 hl1018_2
             replace p1018 := eq_true p1018
             replace q1018 := eq_true q1018
             go_upto_region 13 with (first|((with_reducible refine gate_dst (N := 7) rfl ?_);(try (refine gate_guard (by rfl) ?_;dsimp only));refine box_event ?hg (N := 7) ?hd (cs := #[.int .i64 0,.int .i64 0,.slice none 0 0]) (t := 88) ?hr ?_;(case hd => rfl);(case hg => rfl);(case hr => first|(go_simp;done)|(go_simp;rfl));intro gb1019 hg w33 hbox hb;have n0_ := Aside0.mk (blk_below (g := gb1009) (o := .cells #[.slice (some ad1018) l0_0.length c0_0,.slice A0_1 l0_1.length c0_1,.slice A0_2 l0_2.length c0_2,.bool a0_3] 56 (0,0)) (by (with_reducible repeat (first|refine blk_drewN ?_ _|refine blk_drew ?_|refine blk_alloc ?_ _));exact BK1009.out) hb);have n1_ := Aside0.mk (below_step (by repeat (first|(with_reducible first|exact HB.out|apply below_alloc|apply pw_below_drewN|apply below_drew1|refine below_set ?_ GE1009.out)|exact HB.out)) hb);have n2_ := Aside0.mk (hbox);have n3_ := Aside0.mk ((by rw [hg];exact (below_size (by repeat (first|(with_reducible first|exact HB.out|apply below_alloc|apply pw_below_drewN|apply below_drew1|refine below_set ?_ GE1009.out)|exact HB.out))) : w.heap.size ≤ gb1019));have n4_ := Aside0.mk ((by rw [hg];exact (below_size (by repeat (first|(with_reducible first|exact HB.out|apply below_alloc|apply pw_below_drewN|apply below_drew1|refine below_set ?_ GE1009.out)|exact HB.out))) : w.heap.size ≤ gb1019));have n5_ := Aside0.mk ((by rw [hg];exact Nat.ne_of_lt (blk_lt (g := gb1009) (o := .cells #[.slice (some ad1018) l0_0.length c0_0,.slice A0_1 l0_1.length c0_1,.slice A0_2 l0_2.length c0_2,.bool a0_3] 56 (0,0)) (by (with_reducible repeat (first|refine blk_drewN ?_ _|refine blk_drew ?_|refine blk_alloc ?_ _));exact BK1009.out)) : gb1009 ≠ gb1019));have n6_ := Aside0.mk ((by rw [hg];exact Nat.ne_of_gt (blk_lt (g := gb1009) (o := .cells #[.slice (some ad1018) l0_0.length c0_0,.slice A0_1 l0_1.length c0_1,.slice A0_2 l0_2.length c0_2,.bool a0_3] 56 (0,0)) (by (with_reducible repeat (first|refine blk_drewN ?_ _|refine blk_drew ?_|refine blk_alloc ?_ _));exact BK1009.out)) : gb1019 ≠ gb1009));clear BK1009;clear HB;have BK1009 := n0_;have HB := n1_;have BK1019 := n2_;have GW1019 := n3_;have GE1019 := n4_;have NB1009_1019 := n5_;have NB1019_1009 := n6_;clear n0_ n1_ n2_ n3_ n4_ n5_ n6_;clear hb hbox hg;have hnb34 := NB1019_1009.out;have hnc34 := NB1009_1019.out;have hcz35_0 : w33.cell? ⟨gb1019,0,none⟩ = some (.int .i64 0) := (blk_cell BK1019.out 0).trans rfl;have hcz35_1 : w33.cell? ⟨gb1019,1,none⟩ = some (.int .i64 0) := (blk_cell BK1019.out 1).trans rfl;have hcz35_2 : w33.cell? ⟨gb1019,2,none⟩ = some (.slice none 0 0) := (blk_cell BK1019.out 2).trans rfl;have hfz35_0 := blk_frozen BK1019.out 0;have hfz35_1 := blk_frozen BK1019.out 1;have hfz35_2 := blk_frozen BK1019.out 2))
             (try simp only [Act.put,List.setIfInBounds_toArray,List.set_cons_zero,List.set_cons_succ])
             go_cut [110] (fun v110 wc => ∃ (kq : Nat) (x110_31 : Bool),v110 = .bool x110_31 ∧ Aside0 (impl_ValidMachine.j3 kq (l0_0.length : Int) l0_0 (l0_0.length : Int) x66_3 x110_31 l0_0 l0_1 l0_2 a0_3 ((rd_T88 l0_0 x66_3).f0) ((rd_T88 l0_0 x66_3).f1) ((rd_T88 l0_0 x66_3).f2) = some r) ∧ Aside0 (kq ≤ k3) ∧ Aside0 (wc.heap[gb1009]? = some (.cells #[(.slice (some ad1018) l0_0.length c0_0),(.slice A0_1 l0_1.length c0_1),(.slice A0_2 l0_2.length c0_2),.bool a0_3] 56 (0,0))) ∧ Aside0 (wc.heap[gb1019]? = some (.cells #[.int .i64 ((rd_T88 l0_0 x66_3).f0),.int .i64 ((rd_T88 l0_0 x66_3).f1),(.slice A1018_2 ((rd_T88 l0_0 x66_3).f2).length c1018_2)] 88 (0,0))) ∧ Aside0 (Below w.heap.size w wc))
             case first =>
              have H := HC32.out
              clear HC32
              by_cases c36 : ((rd_T88 l0_0 x66_3).f0) < 0
              ·rw [if_pos c36] at H
               have c36b0 : decide (((rd_T88 l0_0 x66_3).f0) < 0) = true := decide_eq_true c36
               clear c36
               (first|rw [c36b0]|(simp only [i64_w,i32_w];rw [c36b0])|skip)
               have H' := Aside0.mk H
               clear H
               have hnb37 := NB1019_1009.out
               have hnc37 := NB1009_1019.out
               have hcz38_0 : w33.cell? ⟨gb1019,0,none⟩ = some (.int .i64 0) := (blk_cell BK1019.out 0).trans rfl
               have hcz38_1 : w33.cell? ⟨gb1019,1,none⟩ = some (.int .i64 0) := (blk_cell BK1019.out 1).trans rfl
               have hcz38_2 : w33.cell? ⟨gb1019,2,none⟩ = some (.slice none 0 0) := (blk_cell BK1019.out 2).trans rfl
               have hfz38_0 := blk_frozen BK1019.out 0
               have hfz38_1 := blk_frozen BK1019.out 1
               have hfz38_2 := blk_frozen BK1019.out 2
               go_wp2
               go_meet
               case rel => exact ⟨_,(true),(by first|rfl|(simp;done)|(simp [*];done)),H',⟨by have := HJ1.out;have := HK2.out;have := HK3.out;first|omega|exact Nat.le_refl _⟩,⟨by (with_reducible repeat (first|refine blk_drewN ?_ _|refine blk_drew ?_|refine blk_alloc ?_ _));refine blk_far ?_ NB1009_1019.out _;(with_reducible repeat (first|refine blk_drewN ?_ _|refine blk_drew ?_|refine blk_alloc ?_ _));refine blk_far ?_ NB1009_1019.out _;(with_reducible repeat (first|refine blk_drewN ?_ _|refine blk_drew ?_|refine blk_alloc ?_ _));refine blk_far ?_ NB1009_1019.out _;(with_reducible repeat (first|refine blk_drewN ?_ _|refine blk_drew ?_|refine blk_alloc ?_ _));exact BK1009.out⟩,⟨by (with_reducible repeat (first|refine blk_drewN ?_ _|refine blk_drew ?_|refine blk_alloc ?_ _));refine blk_put (cs := #[.int .i64 ((rd_T88 l0_0 x66_3).f0),.int .i64 ((rd_T88 l0_0 x66_3).f1),.slice none 0 0]) ?_ 2 _ rfl;(with_reducible repeat (first|refine blk_drewN ?_ _|refine blk_drew ?_|refine blk_alloc ?_ _));refine blk_put (cs := #[.int .i64 ((rd_T88 l0_0 x66_3).f0),.int .i64 0,.slice none 0 0]) ?_ 1 _ rfl;(with_reducible repeat (first|refine blk_drewN ?_ _|refine blk_drew ?_|refine blk_alloc ?_ _));refine blk_put (cs := #[.int .i64 0,.int .i64 0,.slice none 0 0]) ?_ 0 _ rfl;(with_reducible repeat (first|refine blk_drewN ?_ _|refine blk_drew ?_|refine blk_alloc ?_ _));exact BK1019.out⟩,⟨by repeat (first|(with_reducible first|exact HB.out|apply below_alloc|apply pw_below_drewN|apply below_drew1|refine below_set ?_ GE1009.out|refine below_set ?_ GE1019.out)|exact HB.out)⟩⟩
              ·rw [if_neg c36] at H
               have c36b0 : decide (((rd_T88 l0_0 x66_3).f0) < 0) = false := decide_eq_false c36
               clear c36
               (first|rw [c36b0]|(simp only [i64_w,i32_w];rw [c36b0])|skip)
               by_cases c39 : ((rd_T88 l0_0 x66_3).f0) > 5
               ·rw [if_pos c39] at H
                have c39b0 : decide (5 < ((rd_T88 l0_0 x66_3).f0)) = true := decide_eq_true c39
                clear c39
                have H' := Aside0.mk H
                clear H
                have hnb40 := NB1019_1009.out
                have hnc40 := NB1009_1019.out
                have hcz41_0 : w33.cell? ⟨gb1019,0,none⟩ = some (.int .i64 0) := (blk_cell BK1019.out 0).trans rfl
                have hcz41_1 : w33.cell? ⟨gb1019,1,none⟩ = some (.int .i64 0) := (blk_cell BK1019.out 1).trans rfl
                have hcz41_2 : w33.cell? ⟨gb1019,2,none⟩ = some (.slice none 0 0) := (blk_cell BK1019.out 2).trans rfl
                have hfz41_0 := blk_frozen BK1019.out 0
                have hfz41_1 := blk_frozen BK1019.out 1
                have hfz41_2 := blk_frozen BK1019.out 2
                go_wp2
                go_meet
                case rel => exact ⟨_,(true),(by first|rfl|(simp;done)|(simp [*];done)),H',⟨by have := HJ1.out;have := HK2.out;have := HK3.out;first|omega|exact Nat.le_refl _⟩,⟨by (with_reducible repeat (first|refine blk_drewN ?_ _|refine blk_drew ?_|refine blk_alloc ?_ _));refine blk_far ?_ NB1009_1019.out _;(with_reducible repeat (first|refine blk_drewN ?_ _|refine blk_drew ?_|refine blk_alloc ?_ _));refine blk_far ?_ NB1009_1019.out _;(with_reducible repeat (first|refine blk_drewN ?_ _|refine blk_drew ?_|refine blk_alloc ?_ _));refine blk_far ?_ NB1009_1019.out _;(with_reducible repeat (first|refine blk_drewN ?_ _|refine blk_drew ?_|refine blk_alloc ?_ _));exact BK1009.out⟩,⟨by (with_reducible repeat (first|refine blk_drewN ?_ _|refine blk_drew ?_|refine blk_alloc ?_ _));refine blk_put (cs := #[.int .i64 ((rd_T88 l0_0 x66_3).f0),.int .i64 ((rd_T88 l0_0 x66_3).f1),.slice none 0 0]) ?_ 2 _ rfl;(with_reducible repeat (first|refine blk_drewN ?_ _|refine blk_drew ?_|refine blk_alloc ?_ _));refine blk_put (cs := #[.int .i64 ((rd_T88 l0_0 x66_3).f0),.int .i64 0,.slice none 0 0]) ?_ 1 _ rfl;(with_reducible repeat (first|refine blk_drewN ?_ _|refine blk_drew ?_|refine blk_alloc ?_ _));refine blk_put (cs := #[.int .i64 0,.int .i64 0,.slice none 0 0]) ?_ 0 _ rfl;(with_reducible repeat (first|refine blk_drewN ?_ _|refine blk_drew ?_|refine blk_alloc ?_ _));exact BK1019.out⟩,⟨by repeat (first|(with_reducible first|exact HB.out|apply below_alloc|apply pw_below_drewN|apply below_drew1|refine below_set ?_ GE1009.out|refine below_set ?_ GE1019.out)|exact HB.out)⟩⟩
               ·rw [if_neg c39] at H
                have c39b0 : decide (5 < ((rd_T88 l0_0 x66_3).f0)) = false := decide_eq_false c39
                clear c39
                by_cases c42 : ((rd_T88 l0_0 x66_3).f1) < 0
                ·rw [if_pos c42] at H
                 have c42b0 : decide (((rd_T88 l0_0 x66_3).f1) < 0) = true := decide_eq_true c42
                 clear c42
                 have H' := Aside0.mk H
                 clear H
                 have hnb43 := NB1019_1009.out
                 have hnc43 := NB1009_1019.out
                 have hcz44_0 : w33.cell? ⟨gb1019,0,none⟩ = some (.int .i64 0) := (blk_cell BK1019.out 0).trans rfl
                 have hcz44_1 : w33.cell? ⟨gb1019,1,none⟩ = some (.int .i64 0) := (blk_cell BK1019.out 1).trans rfl
                 have hcz44_2 : w33.cell? ⟨gb1019,2,none⟩ = some (.slice none 0 0) := (blk_cell BK1019.out 2).trans rfl
                 have hfz44_0 := blk_frozen BK1019.out 0
                 have hfz44_1 := blk_frozen BK1019.out 1
                 have hfz44_2 := blk_frozen BK1019.out 2
                 go_wp2
                 go_meet
                 case rel => exact ⟨_,(true),(by first|rfl|(simp;done)|(simp [*];done)),H',⟨by have := HJ1.out;have := HK2.out;have := HK3.out;first|omega|exact Nat.le_refl _⟩,⟨by (with_reducible repeat (first|refine blk_drewN ?_ _|refine blk_drew ?_|refine blk_alloc ?_ _));refine blk_far ?_ NB1009_1019.out _;(with_reducible repeat (first|refine blk_drewN ?_ _|refine blk_drew ?_|refine blk_alloc ?_ _));refine blk_far ?_ NB1009_1019.out _;(with_reducible repeat (first|refine blk_drewN ?_ _|refine blk_drew ?_|refine blk_alloc ?_ _));refine blk_far ?_ NB1009_1019.out _;(with_reducible repeat (first|refine blk_drewN ?_ _|refine blk_drew ?_|refine blk_alloc ?_ _));exact BK1009.out⟩,⟨by (with_reducible repeat (first|refine blk_drewN ?_ _|refine blk_drew ?_|refine blk_alloc ?_ _));refine blk_put (cs := #[.int .i64 ((rd_T88 l0_0 x66_3).f0),.int .i64 ((rd_T88 l0_0 x66_3).f1),.slice none 0 0]) ?_ 2 _ rfl;(with_reducible repeat (first|refine blk_drewN ?_ _|refine blk_drew ?_|refine blk_alloc ?_ _));refine blk_put (cs := #[.int .i64 ((rd_T88 l0_0 x66_3).f0),.int .i64 0,.slice none 0 0]) ?_ 1 _ rfl;(with_reducible repeat (first|refine blk_drewN ?_ _|refine blk_drew ?_|refine blk_alloc ?_ _));refine blk_put (cs := #[.int .i64 0,.int .i64 0,.slice none 0 0]) ?_ 0 _ rfl;(with_reducible repeat (first|refine blk_drewN ?_ _|refine blk_drew ?_|refine blk_alloc ?_ _));exact BK1019.out⟩,⟨by repeat (first|(with_reducible first|exact HB.out|apply below_alloc|apply pw_below_drewN|apply below_drew1|refine below_set ?_ GE1009.out|refine below_set ?_ GE1019.out)|exact HB.out)⟩⟩
                ·rw [if_neg c42] at H
                 have c42b0 : decide (((rd_T88 l0_0 x66_3).f1) < 0) = false := decide_eq_false c42
                 clear c42
                 by_cases c45 : ((rd_T88 l0_0 x66_3).f1) > 999
                 ·rw [if_pos c45] at H
                  have c45b0 : decide (999 < ((rd_T88 l0_0 x66_3).f1)) = true := decide_eq_true c45
                  clear c45
                  have H' := Aside0.mk H
                  clear H
                  have hnb46 := NB1019_1009.out
                  have hnc46 := NB1009_1019.out
                  have hcz47_0 : w33.cell? ⟨gb1019,0,none⟩ = some (.int .i64 0) := (blk_cell BK1019.out 0).trans rfl
                  have hcz47_1 : w33.cell? ⟨gb1019,1,none⟩ = some (.int .i64 0) := (blk_cell BK1019.out 1).trans rfl
                  have hcz47_2 : w33.cell? ⟨gb1019,2,none⟩ = some (.slice none 0 0) := (blk_cell BK1019.out 2).trans rfl
                  have hfz47_0 := blk_frozen BK1019.out 0
                  have hfz47_1 := blk_frozen BK1019.out 1
                  have hfz47_2 := blk_frozen BK1019.out 2
                  go_wp2
                  go_meet
                  case rel => exact ⟨_,(true),(by first|rfl|(simp;done)|(simp [*];done)),H',⟨by have := HJ1.out;have := HK2.out;have := HK3.out;first|omega|exact Nat.le_refl _⟩,⟨by (with_reducible repeat (first|refine blk_drewN ?_ _|refine blk_drew ?_|refine blk_alloc ?_ _));refine blk_far ?_ NB1009_1019.out _;(with_reducible repeat (first|refine blk_drewN ?_ _|refine blk_drew ?_|refine blk_alloc ?_ _));refine blk_far ?_ NB1009_1019.out _;(with_reducible repeat (first|refine blk_drewN ?_ _|refine blk_drew ?_|refine blk_alloc ?_ _));refine blk_far ?_ NB1009_1019.out _;(with_reducible repeat (first|refine blk_drewN ?_ _|refine blk_drew ?_|refine blk_alloc ?_ _));exact BK1009.out⟩,⟨by (with_reducible repeat (first|refine blk_drewN ?_ _|refine blk_drew ?_|refine blk_alloc ?_ _));refine blk_put (cs := #[.int .i64 ((rd_T88 l0_0 x66_3).f0),.int .i64 ((rd_T88 l0_0 x66_3).f1),.slice none 0 0]) ?_ 2 _ rfl;(with_reducible repeat (first|refine blk_drewN ?_ _|refine blk_drew ?_|refine blk_alloc ?_ _));refine blk_put (cs := #[.int .i64 ((rd_T88 l0_0 x66_3).f0),.int .i64 0,.slice none 0 0]) ?_ 1 _ rfl;(with_reducible repeat (first|refine blk_drewN ?_ _|refine blk_drew ?_|refine blk_alloc ?_ _));refine blk_put (cs := #[.int .i64 0,.int .i64 0,.slice none 0 0]) ?_ 0 _ rfl;(with_reducible repeat (first|refine blk_drewN ?_ _|refine blk_drew ?_|refine blk_alloc ?_ _));exact BK1019.out⟩,⟨by repeat (first|(with_reducible first|exact HB.out|apply below_alloc|apply pw_below_drewN|apply below_drew1|refine below_set ?_ GE1009.out|refine below_set ?_ GE1019.out)|exact HB.out)⟩⟩
                 ·rw [if_neg c45] at H
                  have c45b0 : decide (999 < ((rd_T88 l0_0 x66_3).f1)) = false := decide_eq_false c45
                  clear c45
                  by_cases c48 : ((rd_T88 l0_0 x66_3).f0) = 5
                  ·rw [if_pos c48] at H
                   have c48b0 : (((rd_T88 l0_0 x66_3).f0) == 5) = true := beq_iff_eq.mpr c48
                   have c48b1 : (((rd_T88 l0_0 x66_3).f0) != 5) = false := bne_eq_false_iff_eq.mpr c48
                   clear c48
                   by_cases c49 : (((rd_T88 l0_0 x66_3).f2).length : Int) > 1
                   ·rw [if_pos c49] at H
                    have c49b0 : decide (1 < (((rd_T88 l0_0 x66_3).f2).length : Int)) = true := decide_eq_true c49
                    have c49b1 : decide (1 < ((rd_T88 l0_0 x66_3).f2).length) = true := decide_eq_true (by omega)
                    clear c49
                    have H' := Aside0.mk H
                    clear H
                    have hnb50 := NB1019_1009.out
                    have hnc50 := NB1009_1019.out
                    have hcz51_0 : w33.cell? ⟨gb1019,0,none⟩ = some (.int .i64 0) := (blk_cell BK1019.out 0).trans rfl
                    have hcz51_1 : w33.cell? ⟨gb1019,1,none⟩ = some (.int .i64 0) := (blk_cell BK1019.out 1).trans rfl
                    have hcz51_2 : w33.cell? ⟨gb1019,2,none⟩ = some (.slice none 0 0) := (blk_cell BK1019.out 2).trans rfl
                    have hfz51_0 := blk_frozen BK1019.out 0
                    have hfz51_1 := blk_frozen BK1019.out 1
                    have hfz51_2 := blk_frozen BK1019.out 2
                    go_wp2
                    go_meet
                    case rel => exact ⟨_,(true),(by first|rfl|(simp;done)|(simp [*];done)),H',⟨by have := HJ1.out;have := HK2.out;have := HK3.out;first|omega|exact Nat.le_refl _⟩,⟨by (with_reducible repeat (first|refine blk_drewN ?_ _|refine blk_drew ?_|refine blk_alloc ?_ _));refine blk_far ?_ NB1009_1019.out _;(with_reducible repeat (first|refine blk_drewN ?_ _|refine blk_drew ?_|refine blk_alloc ?_ _));refine blk_far ?_ NB1009_1019.out _;(with_reducible repeat (first|refine blk_drewN ?_ _|refine blk_drew ?_|refine blk_alloc ?_ _));refine blk_far ?_ NB1009_1019.out _;(with_reducible repeat (first|refine blk_drewN ?_ _|refine blk_drew ?_|refine blk_alloc ?_ _));exact BK1009.out⟩,⟨by (with_reducible repeat (first|refine blk_drewN ?_ _|refine blk_drew ?_|refine blk_alloc ?_ _));refine blk_put (cs := #[.int .i64 ((rd_T88 l0_0 x66_3).f0),.int .i64 ((rd_T88 l0_0 x66_3).f1),.slice none 0 0]) ?_ 2 _ rfl;(with_reducible repeat (first|refine blk_drewN ?_ _|refine blk_drew ?_|refine blk_alloc ?_ _));refine blk_put (cs := #[.int .i64 ((rd_T88 l0_0 x66_3).f0),.int .i64 0,.slice none 0 0]) ?_ 1 _ rfl;(with_reducible repeat (first|refine blk_drewN ?_ _|refine blk_drew ?_|refine blk_alloc ?_ _));refine blk_put (cs := #[.int .i64 0,.int .i64 0,.slice none 0 0]) ?_ 0 _ rfl;(with_reducible repeat (first|refine blk_drewN ?_ _|refine blk_drew ?_|refine blk_alloc ?_ _));exact BK1019.out⟩,⟨by repeat (first|(with_reducible first|exact HB.out|apply below_alloc|apply pw_below_drewN|apply below_drew1|refine below_set ?_ GE1009.out|refine below_set ?_ GE1019.out)|exact HB.out)⟩⟩
                   ·rw [if_neg c49] at H
                    have c49b0 : decide (1 < (((rd_T88 l0_0 x66_3).f2).length : Int)) = false := decide_eq_false c49
                    have c49b1 : decide (1 < ((rd_T88 l0_0 x66_3).f2).length) = false := decide_eq_false (by omega)
                    clear c49
                    by_cases c52 : ((rd_T88 l0_0 x66_3).f0) = 4
                    ·rw [if_pos c52] at H
                     have c52b0 : (((rd_T88 l0_0 x66_3).f0) == 4) = true := beq_iff_eq.mpr c52
                     have c52b1 : (((rd_T88 l0_0 x66_3).f0) != 4) = false := bne_eq_false_iff_eq.mpr c52
                     clear c52
                     have H' := Aside0.mk H
                     clear H
                     have hnb53 := NB1019_1009.out
                     have hnc53 := NB1009_1019.out
                     have hcz54_0 : w33.cell? ⟨gb1019,0,none⟩ = some (.int .i64 0) := (blk_cell BK1019.out 0).trans rfl
                     have hcz54_1 : w33.cell? ⟨gb1019,1,none⟩ = some (.int .i64 0) := (blk_cell BK1019.out 1).trans rfl
                     have hcz54_2 : w33.cell? ⟨gb1019,2,none⟩ = some (.slice none 0 0) := (blk_cell BK1019.out 2).trans rfl
                     have hfz54_0 := blk_frozen BK1019.out 0
                     have hfz54_1 := blk_frozen BK1019.out 1
                     have hfz54_2 := blk_frozen BK1019.out 2
                     go_wp2
                     go_meet
                     case rel => exact ⟨_,((((((rd_T88 l0_0 x66_3).f2).length : Int) % 2) != 0)),(by first|rfl|(simp;done)|(simp [*];done)),H',⟨by have := HJ1.out;have := HK2.out;have := HK3.out;first|omega|exact Nat.le_refl _⟩,⟨by (with_reducible repeat (first|refine blk_drewN ?_ _|refine blk_drew ?_|refine blk_alloc ?_ _));refine blk_far ?_ NB1009_1019.out _;(with_reducible repeat (first|refine blk_drewN ?_ _|refine blk_drew ?_|refine blk_alloc ?_ _));refine blk_far ?_ NB1009_1019.out _;(with_reducible repeat (first|refine blk_drewN ?_ _|refine blk_drew ?_|refine blk_alloc ?_ _));refine blk_far ?_ NB1009_1019.out _;(with_reducible repeat (first|refine blk_drewN ?_ _|refine blk_drew ?_|refine blk_alloc ?_ _));exact BK1009.out⟩,⟨by (with_reducible repeat (first|refine blk_drewN ?_ _|refine blk_drew ?_|refine blk_alloc ?_ _));refine blk_put (cs := #[.int .i64 ((rd_T88 l0_0 x66_3).f0),.int .i64 ((rd_T88 l0_0 x66_3).f1),.slice none 0 0]) ?_ 2 _ rfl;(with_reducible repeat (first|refine blk_drewN ?_ _|refine blk_drew ?_|refine blk_alloc ?_ _));refine blk_put (cs := #[.int .i64 ((rd_T88 l0_0 x66_3).f0),.int .i64 0,.slice none 0 0]) ?_ 1 _ rfl;(with_reducible repeat (first|refine blk_drewN ?_ _|refine blk_drew ?_|refine blk_alloc ?_ _));refine blk_put (cs := #[.int .i64 0,.int .i64 0,.slice none 0 0]) ?_ 0 _ rfl;(with_reducible repeat (first|refine blk_drewN ?_ _|refine blk_drew ?_|refine blk_alloc ?_ _));exact BK1019.out⟩,⟨by repeat (first|(with_reducible first|exact HB.out|apply below_alloc|apply pw_below_drewN|apply below_drew1|refine below_set ?_ GE1009.out|refine below_set ?_ GE1019.out)|exact HB.out)⟩⟩
                    ·rw [if_neg c52] at H
                     have c52b0 : (((rd_T88 l0_0 x66_3).f0) == 4) = false := beq_eq_false_iff_ne.mpr c52
                     have c52b1 : (((rd_T88 l0_0 x66_3).f0) != 4) = true := bne_iff_ne.mpr c52
                     have H' := Aside0.mk H
                     clear H
                     have hnb55 := NB1019_1009.out
                     have hnc55 := NB1009_1019.out
                     have hcz56_0 : w33.cell? ⟨gb1019,0,none⟩ = some (.int .i64 0) := (blk_cell BK1019.out 0).trans rfl
                     have hcz56_1 : w33.cell? ⟨gb1019,1,none⟩ = some (.int .i64 0) := (blk_cell BK1019.out 1).trans rfl
                     have hcz56_2 : w33.cell? ⟨gb1019,2,none⟩ = some (.slice none 0 0) := (blk_cell BK1019.out 2).trans rfl
                     have hfz56_0 := blk_frozen BK1019.out 0
                     have hfz56_1 := blk_frozen BK1019.out 1
                     have hfz56_2 := blk_frozen BK1019.out 2
                     go_wp2
                     go_meet
                     case rel => exact ⟨_,(false),(by first|rfl|(simp;done)|(simp [*];done)),H',⟨by have := HJ1.out;have := HK2.out;have := HK3.out;first|omega|exact Nat.le_refl _⟩,⟨by (with_reducible repeat (first|refine blk_drewN ?_ _|refine blk_drew ?_|refine blk_alloc ?_ _));refine blk_far ?_ NB1009_1019.out _;(with_reducible repeat (first|refine blk_drewN ?_ _|refine blk_drew ?_|refine blk_alloc ?_ _));refine blk_far ?_ NB1009_1019.out _;(with_reducible repeat (first|refine blk_drewN ?_ _|refine blk_drew ?_|refine blk_alloc ?_ _));refine blk_far ?_ NB1009_1019.out _;(with_reducible repeat (first|refine blk_drewN ?_ _|refine blk_drew ?_|refine blk_alloc ?_ _));exact BK1009.out⟩,⟨by (with_reducible repeat (first|refine blk_drewN ?_ _|refine blk_drew ?_|refine blk_alloc ?_ _));refine blk_put (cs := #[.int .i64 ((rd_T88 l0_0 x66_3).f0),.int .i64 ((rd_T88 l0_0 x66_3).f1),.slice none 0 0]) ?_ 2 _ rfl;(with_reducible repeat (first|refine blk_drewN ?_ _|refine blk_drew ?_|refine blk_alloc ?_ _));refine blk_put (cs := #[.int .i64 ((rd_T88 l0_0 x66_3).f0),.int .i64 0,.slice none 0 0]) ?_ 1 _ rfl;(with_reducible repeat (first|refine blk_drewN ?_ _|refine blk_drew ?_|refine blk_alloc ?_ _));refine blk_put (cs := #[.int .i64 0,.int .i64 0,.slice none 0 0]) ?_ 0 _ rfl;(with_reducible repeat (first|refine blk_drewN ?_ _|refine blk_drew ?_|refine blk_alloc ?_ _));exact BK1019.out⟩,⟨by repeat (first|(with_reducible first|exact HB.out|apply below_alloc|apply pw_below_drewN|apply below_drew1|refine below_set ?_ GE1009.out|refine below_set ?_ GE1019.out)|exact HB.out)⟩⟩
                  ·rw [if_neg c48] at H
                   have c48b0 : (((rd_T88 l0_0 x66_3).f0) == 5) = false := beq_eq_false_iff_ne.mpr c48
                   have c48b1 : (((rd_T88 l0_0 x66_3).f0) != 5) = true := bne_iff_ne.mpr c48
                   by_cases c57 : ((rd_T88 l0_0 x66_3).f0) = 4
                   ·rw [if_pos c57] at H
                    have c57b0 : (((rd_T88 l0_0 x66_3).f0) == 4) = true := beq_iff_eq.mpr c57
                    have c57b1 : (((rd_T88 l0_0 x66_3).f0) != 4) = false := bne_eq_false_iff_eq.mpr c57
                    clear c57
                    have H' := Aside0.mk H
                    clear H
                    have hnb58 := NB1019_1009.out
                    have hnc58 := NB1009_1019.out
                    have hcz59_0 : w33.cell? ⟨gb1019,0,none⟩ = some (.int .i64 0) := (blk_cell BK1019.out 0).trans rfl
                    have hcz59_1 : w33.cell? ⟨gb1019,1,none⟩ = some (.int .i64 0) := (blk_cell BK1019.out 1).trans rfl
                    have hcz59_2 : w33.cell? ⟨gb1019,2,none⟩ = some (.slice none 0 0) := (blk_cell BK1019.out 2).trans rfl
                    have hfz59_0 := blk_frozen BK1019.out 0
                    have hfz59_1 := blk_frozen BK1019.out 1
                    have hfz59_2 := blk_frozen BK1019.out 2
                    go_wp2
                    go_meet
                    case rel => exact ⟨_,((((((rd_T88 l0_0 x66_3).f2).length : Int) % 2) != 0)),(by first|rfl|(simp;done)|(simp [*];done)),H',⟨by have := HJ1.out;have := HK2.out;have := HK3.out;first|omega|exact Nat.le_refl _⟩,⟨by (with_reducible repeat (first|refine blk_drewN ?_ _|refine blk_drew ?_|refine blk_alloc ?_ _));refine blk_far ?_ NB1009_1019.out _;(with_reducible repeat (first|refine blk_drewN ?_ _|refine blk_drew ?_|refine blk_alloc ?_ _));refine blk_far ?_ NB1009_1019.out _;(with_reducible repeat (first|refine blk_drewN ?_ _|refine blk_drew ?_|refine blk_alloc ?_ _));refine blk_far ?_ NB1009_1019.out _;(with_reducible repeat (first|refine blk_drewN ?_ _|refine blk_drew ?_|refine blk_alloc ?_ _));exact BK1009.out⟩,⟨by (with_reducible repeat (first|refine blk_drewN ?_ _|refine blk_drew ?_|refine blk_alloc ?_ _));refine blk_put (cs := #[.int .i64 ((rd_T88 l0_0 x66_3).f0),.int .i64 ((rd_T88 l0_0 x66_3).f1),.slice none 0 0]) ?_ 2 _ rfl;(with_reducible repeat (first|refine blk_drewN ?_ _|refine blk_drew ?_|refine blk_alloc ?_ _));refine blk_put (cs := #[.int .i64 ((rd_T88 l0_0 x66_3).f0),.int .i64 0,.slice none 0 0]) ?_ 1 _ rfl;(with_reducible repeat (first|refine blk_drewN ?_ _|refine blk_drew ?_|refine blk_alloc ?_ _));refine blk_put (cs := #[.int .i64 0,.int .i64 0,.slice none 0 0]) ?_ 0 _ rfl;(with_reducible repeat (first|refine blk_drewN ?_ _|refine blk_drew ?_|refine blk_alloc ?_ _));exact BK1019.out⟩,⟨by repeat (first|(with_reducible first|exact HB.out|apply below_alloc|apply pw_below_drewN|apply below_drew1|refine below_set ?_ GE1009.out|refine below_set ?_ GE1019.out)|exact HB.out)⟩⟩
                   ·rw [if_neg c57] at H
                    have c57b0 : (((rd_T88 l0_0 x66_3).f0) == 4) = false := beq_eq_false_iff_ne.mpr c57
                    have c57b1 : (((rd_T88 l0_0 x66_3).f0) != 4) = true := bne_iff_ne.mpr c57
                    have H' := Aside0.mk H
                    clear H
                    have hnb60 := NB1019_1009.out
                    have hnc60 := NB1009_1019.out
                    have hcz61_0 : w33.cell? ⟨gb1019,0,none⟩ = some (.int .i64 0) := (blk_cell BK1019.out 0).trans rfl
                    have hcz61_1 : w33.cell? ⟨gb1019,1,none⟩ = some (.int .i64 0) := (blk_cell BK1019.out 1).trans rfl
                    have hcz61_2 : w33.cell? ⟨gb1019,2,none⟩ = some (.slice none 0 0) := (blk_cell BK1019.out 2).trans rfl
                    have hfz61_0 := blk_frozen BK1019.out 0
                    have hfz61_1 := blk_frozen BK1019.out 1
                    have hfz61_2 := blk_frozen BK1019.out 2
                    go_wp2
                    go_meet
                    case rel => exact ⟨_,(false),(by first|rfl|(simp;done)|(simp [*];done)),H',⟨by have := HJ1.out;have := HK2.out;have := HK3.out;first|omega|exact Nat.le_refl _⟩,⟨by (with_reducible repeat (first|refine blk_drewN ?_ _|refine blk_drew ?_|refine blk_alloc ?_ _));refine blk_far ?_ NB1009_1019.out _;(with_reducible repeat (first|refine blk_drewN ?_ _|refine blk_drew ?_|refine blk_alloc ?_ _));refine blk_far ?_ NB1009_1019.out _;(with_reducible repeat (first|refine blk_drewN ?_ _|refine blk_drew ?_|refine blk_alloc ?_ _));refine blk_far ?_ NB1009_1019.out _;(with_reducible repeat (first|refine blk_drewN ?_ _|refine blk_drew ?_|refine blk_alloc ?_ _));exact BK1009.out⟩,⟨by (with_reducible repeat (first|refine blk_drewN ?_ _|refine blk_drew ?_|refine blk_alloc ?_ _));refine blk_put (cs := #[.int .i64 ((rd_T88 l0_0 x66_3).f0),.int .i64 ((rd_T88 l0_0 x66_3).f1),.slice none 0 0]) ?_ 2 _ rfl;(with_reducible repeat (first|refine blk_drewN ?_ _|refine blk_drew ?_|refine blk_alloc ?_ _));refine blk_put (cs := #[.int .i64 ((rd_T88 l0_0 x66_3).f0),.int .i64 0,.slice none 0 0]) ?_ 1 _ rfl;(with_reducible repeat (first|refine blk_drewN ?_ _|refine blk_drew ?_|refine blk_alloc ?_ _));refine blk_put (cs := #[.int .i64 0,.int .i64 0,.slice none 0 0]) ?_ 0 _ rfl;(with_reducible repeat (first|refine blk_drewN ?_ _|refine blk_drew ?_|refine blk_alloc ?_ _));exact BK1019.out⟩,⟨by repeat (first|(with_reducible first|exact HB.out|apply below_alloc|apply pw_below_drewN|apply below_drew1|refine below_set ?_ GE1009.out|refine below_set ?_ GE1019.out)|exact HB.out)⟩⟩
             case rest =>
              clear HC32
              try clear c1
              try clear p1
              try clear q1
              try clear hx1
              try clear qi1
              try clear c2
              try clear p2
              try clear c3
              try clear c4
              try clear c5
              try clear c5b0
              try clear c5b1
              try clear c6
              try clear c6b0
              try clear c6b1
              try clear p6
              try clear c8
              try clear c8b0
              try clear c8b1
              try clear c9
              try clear c10
              try clear c10b0
              try clear c10b1
              try clear p10
              try clear q10
              try clear hx10
              try clear qi10
              try clear c11
              try clear c11b0
              try clear c11b1
              try clear c16
              try clear c18
              try clear c23
              try clear c23b0
              try clear c24
              try clear c24b0
              try clear c25
              try clear c25b0
              try clear c26
              try clear c26b0
              try clear c27
              try clear c27b0
              try clear c29
              try clear c29b0
              try clear c30
              try clear c30b0
              try clear c31
              try clear c31b0
              try clear c34
              try clear c36
              try clear c36b0
              try clear c37
              try clear c39
              try clear c39b0
              try clear c40
              try clear c42
              try clear c42b0
              try clear c43
              try clear c45
              try clear c45b0
              try clear c46
              try clear c48
              try clear c48b0
              try clear c48b1
              try clear c49
              try clear c49b0
              try clear c49b1
              try clear c50
              try clear c52
              try clear c52b0
              try clear c52b1
              try clear c53
              try clear c55
              try clear c57
              try clear c57b0
              try clear c57b1
              try clear c58
              try clear c60
              try clear hcz12_0
              try clear hcz12_1
              try clear hcz12_2
              try clear hcz12_3
              try clear hcz13_0
              try clear hcz13_1
              try clear hcz13_2
              try clear hcz13_3
              try clear hcz14_0
              try clear hcz14_1
              try clear hcz14_2
              try clear hcz14_3
              try clear hcz15_0
              try clear hcz15_1
              try clear hcz15_2
              try clear hcz15_3
              try clear hcz28_0
              try clear hcz28_1
              try clear hcz28_2
              try clear hcz28_3
              try clear hcz35_0
              try clear hcz35_1
              try clear hcz35_2
              try clear hcz38_0
              try clear hcz38_1
              try clear hcz38_2
              try clear hcz41_0
              try clear hcz41_1
              try clear hcz41_2
              try clear hcz44_0
              try clear hcz44_1
              try clear hcz44_2
              try clear hcz47_0
              try clear hcz47_1
              try clear hcz47_2
              try clear hcz4_0
              try clear hcz4_1
              try clear hcz4_2
              try clear hcz4_3
              try clear hcz51_0
              try clear hcz51_1
              try clear hcz51_2
              try clear hcz54_0
              try clear hcz54_1
              try clear hcz54_2
              try clear hcz56_0
              try clear hcz56_1
              try clear hcz56_2
              try clear hcz59_0
              try clear hcz59_1
              try clear hcz59_2
              try clear hcz61_0
              try clear hcz61_1
              try clear hcz61_2
              try clear hcz7_0
              try clear hcz7_1
              try clear hcz7_2
              try clear hcz7_3
              try clear hfz12_0
              try clear hfz12_1
              try clear hfz12_2
              try clear hfz12_3
              try clear hfz13_0
              try clear hfz13_1
              try clear hfz13_2
              try clear hfz13_3
              try clear hfz14_0
              try clear hfz14_1
              try clear hfz14_2
              try clear hfz14_3
              try clear hfz15_0
              try clear hfz15_1
              try clear hfz15_2
              try clear hfz15_3
              try clear hfz28_0
              try clear hfz28_1
              try clear hfz28_2
              try clear hfz28_3
              try clear hfz35_0
              try clear hfz35_1
              try clear hfz35_2
              try clear hfz38_0
              try clear hfz38_1
              try clear hfz38_2
              try clear hfz41_0
              try clear hfz41_1
              try clear hfz41_2
              try clear hfz44_0
              try clear hfz44_1
              try clear hfz44_2
              try clear hfz47_0
              try clear hfz47_1
              try clear hfz47_2
              try clear hfz4_0
              try clear hfz4_1
              try clear hfz4_2
              try clear hfz4_3
              try clear hfz51_0
              try clear hfz51_1
              try clear hfz51_2
              try clear hfz54_0
              try clear hfz54_1
              try clear hfz54_2
              try clear hfz56_0
              try clear hfz56_1
              try clear hfz56_2
              try clear hfz59_0
              try clear hfz59_1
              try clear hfz59_2
              try clear hfz61_0
              try clear hfz61_1
              try clear hfz61_2
              try clear hfz7_0
              try clear hfz7_1
              try clear hfz7_2
              try clear hfz7_3
              try clear hx1010_0
              try clear hx1017_0
              try clear hx1018_0
              try clear hx1018_1
              try clear hx1018_2
              try clear p1
              try clear p10
              try clear p1010
              try clear p1017
              try clear p1018
              try clear p2
              try clear p6
              try clear q1
              try clear q10
              try clear q1010
              try clear q1017
              try clear q1018
              obtain ⟨kq,x110_31,rfl,HA,HJ31,BK1009,BK1019,HB⟩ := hcut
              cases kq with
              | zero => exact absurd HA.out (fun h_ => (by cases h_))
              | succ kj31 =>
               have H := HA.out
               clear HA
               simp only [impl_ValidMachine.j3] at H
               by_cases c62 : x110_31 = true
               ·subst c62
                have H1 : (some false) = some r := by rw [if_pos rfl] at H;exact H
                clear H
                have H := H1
                clear H1
                obtain rfl := Option.some.inj H
                go_wp2
                go_ret
                exact ⟨by first|rfl|(simp [errW_none,errW_some] <;> rfl)|(simp [*,errW_none,errW_some] <;> rfl),by repeat (first|(with_reducible first|exact HB.out|apply below_alloc|apply pw_below_drewN|apply below_drew1|refine below_set ?_ GE1009.out|refine below_set ?_ GE1019.out)|exact HB.out)⟩
               ·replace c62 := Bool.eq_false_iff.mpr c62
                subst c62
                have H1 : (impl_ValidMachine.l2 kj31 (l0_0.length : Int) l0_0 (l0_0.length : Int) x66_3 ((rd_T88 l0_0 x66_3).f2) (((rd_T88 l0_0 x66_3).f2).length : Int) 0 l0_0 l0_1 l0_2 a0_3 ((rd_T88 l0_0 x66_3).f0) ((rd_T88 l0_0 x66_3).f1) ((rd_T88 l0_0 x66_3).f2)) = some r := by rw [if_neg (show ¬ (false = true) by decide)] at H;exact H
                clear H
                have H := H1
                clear H1
                have H' := Aside0.mk H
                clear H
                have hnb63 := NB1019_1009.out
                have hnc63 := NB1009_1019.out
                have hcz64_0 : wc.cell? ⟨gb1019,0,none⟩ = some (.int .i64 ((rd_T88 l0_0 x66_3).f0)) := (blk_cell BK1019.out 0).trans rfl
                have hcz64_1 : wc.cell? ⟨gb1019,1,none⟩ = some (.int .i64 ((rd_T88 l0_0 x66_3).f1)) := (blk_cell BK1019.out 1).trans rfl
                have hcz64_2 : wc.cell? ⟨gb1019,2,none⟩ = some (.slice A1018_2 ((rd_T88 l0_0 x66_3).f2).length c1018_2) := (blk_cell BK1019.out 2).trans rfl
                have hfz64_0 := blk_frozen BK1019.out 0
                have hfz64_1 := blk_frozen BK1019.out 1
                have hfz64_2 := blk_frozen BK1019.out 2
                go_wp2
                go_loopg [114] kj31 (fun kq v114 w' => ∃ (x114_5 : Int),v114 = .int .i64 x114_5 ∧ Aside0 (impl_ValidMachine.l2 kq (l0_0.length : Int) l0_0 (l0_0.length : Int) x66_3 ((rd_T88 l0_0 x66_3).f2) (((rd_T88 l0_0 x66_3).f2).length : Int) x114_5 l0_0 l0_1 l0_2 a0_3 ((rd_T88 l0_0 x66_3).f0) ((rd_T88 l0_0 x66_3).f1) ((rd_T88 l0_0 x66_3).f2) = some r) ∧ Aside0 (kq ≤ kj31) ∧ Aside0 (w'.heap[gb1009]? = some (.cells #[(.slice (some ad1018) l0_0.length c0_0),(.slice A0_1 l0_1.length c0_1),(.slice A0_2 l0_2.length c0_2),.bool a0_3] 56 (0,0))) ∧ Aside0 (w'.heap[gb1019]? = some (.cells #[.int .i64 ((rd_T88 l0_0 x66_3).f0),.int .i64 ((rd_T88 l0_0 x66_3).f1),(.slice A1018_2 ((rd_T88 l0_0 x66_3).f2).length c1018_2)] 88 (0,0))) ∧ Aside0 (Below w.heap.size w w'))
                case atStart => exact ⟨(0),(by first|rfl|(simp;done)|(simp [*];done)),H',⟨Nat.le_refl _⟩,⟨by (with_reducible repeat (first|refine blk_drewN ?_ _|refine blk_drew ?_|refine blk_alloc ?_ _));exact BK1009.out⟩,⟨by (with_reducible repeat (first|refine blk_drewN ?_ _|refine blk_drew ?_|refine blk_alloc ?_ _));exact BK1019.out⟩,⟨by repeat (first|(with_reducible first|exact HB.out|apply below_alloc|apply pw_below_drewN|apply below_drew1|refine below_set ?_ GE1009.out|refine below_set ?_ GE1019.out)|exact HB.out)⟩⟩
                case round =>
                 clear H'
                 try clear c1
                 try clear p1
                 try clear q1
                 try clear hx1
                 try clear qi1
                 try clear c2
                 try clear p2
                 try clear c3
                 try clear c4
                 try clear c5
                 try clear c5b0
                 try clear c5b1
                 try clear c6
                 try clear c6b0
                 try clear c6b1
                 try clear p6
                 try clear c8
                 try clear c8b0
                 try clear c8b1
                 try clear c9
                 try clear c10
                 try clear c10b0
                 try clear c10b1
                 try clear p10
                 try clear q10
                 try clear hx10
                 try clear qi10
                 try clear c11
                 try clear c11b0
                 try clear c11b1
                 try clear c16
                 try clear c18
                 try clear c23
                 try clear c23b0
                 try clear c24
                 try clear c24b0
                 try clear c25
                 try clear c25b0
                 try clear c26
                 try clear c26b0
                 try clear c27
                 try clear c27b0
                 try clear c29
                 try clear c29b0
                 try clear c30
                 try clear c30b0
                 try clear c31
                 try clear c31b0
                 try clear c34
                 try clear c36
                 try clear c36b0
                 try clear c37
                 try clear c39
                 try clear c39b0
                 try clear c40
                 try clear c42
                 try clear c42b0
                 try clear c43
                 try clear c45
                 try clear c45b0
                 try clear c46
                 try clear c48
                 try clear c48b0
                 try clear c48b1
                 try clear c49
                 try clear c49b0
                 try clear c49b1
                 try clear c50
                 try clear c52
                 try clear c52b0
                 try clear c52b1
                 try clear c53
                 try clear c55
                 try clear c57
                 try clear c57b0
                 try clear c57b1
                 try clear c58
                 try clear c60
                 try clear c62
                 try clear c63
                 try clear hcz12_0
                 try clear hcz12_1
                 try clear hcz12_2
                 try clear hcz12_3
                 try clear hcz13_0
                 try clear hcz13_1
                 try clear hcz13_2
                 try clear hcz13_3
                 try clear hcz14_0
                 try clear hcz14_1
                 try clear hcz14_2
                 try clear hcz14_3
                 try clear hcz15_0
                 try clear hcz15_1
                 try clear hcz15_2
                 try clear hcz15_3
                 try clear hcz28_0
                 try clear hcz28_1
                 try clear hcz28_2
                 try clear hcz28_3
                 try clear hcz35_0
                 try clear hcz35_1
                 try clear hcz35_2
                 try clear hcz38_0
                 try clear hcz38_1
                 try clear hcz38_2
                 try clear hcz41_0
                 try clear hcz41_1
                 try clear hcz41_2
                 try clear hcz44_0
                 try clear hcz44_1
                 try clear hcz44_2
                 try clear hcz47_0
                 try clear hcz47_1
                 try clear hcz47_2
                 try clear hcz4_0
                 try clear hcz4_1
                 try clear hcz4_2
                 try clear hcz4_3
                 try clear hcz51_0
                 try clear hcz51_1
                 try clear hcz51_2
                 try clear hcz54_0
                 try clear hcz54_1
                 try clear hcz54_2
                 try clear hcz56_0
                 try clear hcz56_1
                 try clear hcz56_2
                 try clear hcz59_0
                 try clear hcz59_1
                 try clear hcz59_2
                 try clear hcz61_0
                 try clear hcz61_1
                 try clear hcz61_2
                 try clear hcz64_0
                 try clear hcz64_1
                 try clear hcz64_2
                 try clear hcz7_0
                 try clear hcz7_1
                 try clear hcz7_2
                 try clear hcz7_3
                 try clear hfz12_0
                 try clear hfz12_1
                 try clear hfz12_2
                 try clear hfz12_3
                 try clear hfz13_0
                 try clear hfz13_1
                 try clear hfz13_2
                 try clear hfz13_3
                 try clear hfz14_0
                 try clear hfz14_1
                 try clear hfz14_2
                 try clear hfz14_3
                 try clear hfz15_0
                 try clear hfz15_1
                 try clear hfz15_2
                 try clear hfz15_3
                 try clear hfz28_0
                 try clear hfz28_1
                 try clear hfz28_2
                 try clear hfz28_3
                 try clear hfz35_0
                 try clear hfz35_1
                 try clear hfz35_2
                 try clear hfz38_0
                 try clear hfz38_1
                 try clear hfz38_2
                 try clear hfz41_0
                 try clear hfz41_1
                 try clear hfz41_2
                 try clear hfz44_0
                 try clear hfz44_1
                 try clear hfz44_2
                 try clear hfz47_0
                 try clear hfz47_1
                 try clear hfz47_2
                 try clear hfz4_0
                 try clear hfz4_1
                 try clear hfz4_2
                 try clear hfz4_3
                 try clear hfz51_0
                 try clear hfz51_1
                 try clear hfz51_2
                 try clear hfz54_0
                 try clear hfz54_1
                 try clear hfz54_2
                 try clear hfz56_0
                 try clear hfz56_1
                 try clear hfz56_2
                 try clear hfz59_0
                 try clear hfz59_1
                 try clear hfz59_2
                 try clear hfz61_0
                 try clear hfz61_1
                 try clear hfz61_2
                 try clear hfz64_0
                 try clear hfz64_1
                 try clear hfz64_2
                 try clear hfz7_0
                 try clear hfz7_1
                 try clear hfz7_2
                 try clear hfz7_3
                 try clear hx1010_0
                 try clear hx1017_0
                 try clear hx1018_0
                 try clear hx1018_1
                 try clear hx1018_2
                 try clear p1
                 try clear p10
                 try clear p1010
                 try clear p1017
                 try clear p1018
                 try clear p2
                 try clear p6
                 try clear q1
                 try clear q10
                 try clear q1010
                 try clear q1017
                 try clear q1018
                 obtain ⟨x114_5,rfl,HA,HK5,BK1009,BK1019,HB⟩ := hrel
                 cases gk with
                 | zero => exact absurd HA.out (fun h_ => (by cases h_))
                 | succ k5 =>
                  have H := HA.out
                  clear HA
                  simp only [impl_ValidMachine.l2] at H
                  by_cases c65 : x114_5 < (((rd_T88 l0_0 x66_3).f2).length : Int)
                  ·rw [if_pos c65] at H
                   have c65b0 : decide (x114_5 < (((rd_T88 l0_0 x66_3).f2).length : Int)) = true := decide_eq_true c65
                   clear c65
                   by_cases c66 : 0 ≤ x114_5
                   ·rw [if_pos c66] at H
                    have c66b0 : decide (0 ≤ x114_5) = true := decide_eq_true c66
                    clear c66
                    by_cases c67 : x114_5 < (((rd_T88 l0_0 x66_3).f2).length : Int)
                    ·rw [if_pos c67] at H
                     have c67b0 : decide (x114_5 < (((rd_T88 l0_0 x66_3).f2).length : Int)) = true := decide_eq_true c67
                     clear c67
                     by_cases c68 : (rd ((rd_T88 l0_0 x66_3).f2) x114_5) < 0
                     ·rw [if_pos c68] at H
                      have c68b0 : decide ((rd ((rd_T88 l0_0 x66_3).f2) x114_5) < 0) = true := decide_eq_true c68
                      clear c68
                      obtain rfl := Option.some.inj H
                      have p1020 : 0 ≤ (x114_5 : Int) := of_decide_eq_true (by first|(with_reducible assumption)|assumption)
                      have q1020 : x114_5 < (((rd_T88 l0_0 x66_3).f2).length : Int) := of_decide_eq_true (by first|(with_reducible assumption)|assumption)
                      obtain ⟨ad1020,e1020,hx1020_0⟩ := Kd.at_int HR1018_2.out x114_5 p1020 q1020
                      cases e1020
                      replace hx1020_0 := (HB.out.cell (World.block_lt_of_cell? w _ hx1020_0)).trans hx1020_0
                      replace p1020 := eq_true p1020
                      replace q1020 := eq_true q1020
                      go_wp2
                      go_ret
                      exact ⟨by first|rfl|(simp [errW_none,errW_some] <;> rfl)|(simp [*,errW_none,errW_some] <;> rfl),by repeat (first|(with_reducible first|exact HB.out|apply below_alloc|apply pw_below_drewN|apply below_drew1|refine below_set ?_ GE1009.out|refine below_set ?_ GE1019.out)|exact HB.out)⟩
                     ·rw [if_neg c68] at H
                      have c68b0 : decide ((rd ((rd_T88 l0_0 x66_3).f2) x114_5) < 0) = false := decide_eq_false c68
                      clear c68
                      by_cases c69 : (rd ((rd_T88 l0_0 x66_3).f2) x114_5) ≥ (l0_0.length : Int)
                      ·rw [if_pos c69] at H
                       have c69b0 : decide ((l0_0.length : Int) ≤ (rd ((rd_T88 l0_0 x66_3).f2) x114_5)) = true := decide_eq_true c69
                       clear c69
                       obtain rfl := Option.some.inj H
                       have p1020 : 0 ≤ (x114_5 : Int) := of_decide_eq_true (by first|(with_reducible assumption)|assumption)
                       have q1020 : x114_5 < (((rd_T88 l0_0 x66_3).f2).length : Int) := of_decide_eq_true (by first|(with_reducible assumption)|assumption)
                       obtain ⟨ad1020,e1020,hx1020_0⟩ := Kd.at_int HR1018_2.out x114_5 p1020 q1020
                       cases e1020
                       replace hx1020_0 := (HB.out.cell (World.block_lt_of_cell? w _ hx1020_0)).trans hx1020_0
                       replace p1020 := eq_true p1020
                       replace q1020 := eq_true q1020
                       go_wp2
                       go_ret
                       exact ⟨by first|rfl|(simp [errW_none,errW_some] <;> rfl)|(simp [*,errW_none,errW_some] <;> rfl),by repeat (first|(with_reducible first|exact HB.out|apply below_alloc|apply pw_below_drewN|apply below_drew1|refine below_set ?_ GE1009.out|refine below_set ?_ GE1019.out)|exact HB.out)⟩
                      ·rw [if_neg c69] at H
                       have c69b0 : decide ((l0_0.length : Int) ≤ (rd ((rd_T88 l0_0 x66_3).f2) x114_5)) = false := decide_eq_false c69
                       clear c69
                       by_cases c70 : ((rd_T88 l0_0 x66_3).f0) = 4
                       ·rw [if_pos c70] at H
                        have c70b0 : (((rd_T88 l0_0 x66_3).f0) == 4) = true := beq_iff_eq.mpr c70
                        have c70b1 : (((rd_T88 l0_0 x66_3).f0) != 4) = false := bne_eq_false_iff_eq.mpr c70
                        clear c70
                        by_cases c71 : (Int.tmod x114_5 2) = 0
                        ·rw [if_pos c71] at H
                         have c71b0 : ((Int.tmod x114_5 2) == 0) = true := beq_iff_eq.mpr c71
                         have c71b1 : ((Int.tmod x114_5 2) != 0) = false := bne_eq_false_iff_eq.mpr c71
                         clear c71
                         by_cases c72 : 0 ≤ (rd ((rd_T88 l0_0 x66_3).f2) x114_5)
                         ·rw [if_pos c72] at H
                          have c72b0 : decide (0 ≤ (rd ((rd_T88 l0_0 x66_3).f2) x114_5)) = true := decide_eq_true c72
                          clear c72
                          by_cases c73 : (rd ((rd_T88 l0_0 x66_3).f2) x114_5) < (l0_0.length : Int)
                          ·rw [if_pos c73] at H
                           have c73b0 : decide ((rd ((rd_T88 l0_0 x66_3).f2) x114_5) < (l0_0.length : Int)) = true := decide_eq_true c73
                           clear c73
                           by_cases c74 : ((rd_T88 l0_0 (rd ((rd_T88 l0_0 x66_3).f2) x114_5)).f0) > 1
                           ·rw [if_pos c74] at H
                            have c74b0 : decide (1 < ((rd_T88 l0_0 (rd ((rd_T88 l0_0 x66_3).f2) x114_5)).f0)) = true := decide_eq_true c74
                            clear c74
                            obtain rfl := Option.some.inj H
                            have p1020 : 0 ≤ (x114_5 : Int) := of_decide_eq_true (by first|(with_reducible assumption)|assumption)
                            have q1020 : x114_5 < (((rd_T88 l0_0 x66_3).f2).length : Int) := of_decide_eq_true (by first|(with_reducible assumption)|assumption)
                            obtain ⟨ad1020,e1020,hx1020_0⟩ := Kd.at_int HR1018_2.out x114_5 p1020 q1020
                            cases e1020
                            replace hx1020_0 := (HB.out.cell (World.block_lt_of_cell? w _ hx1020_0)).trans hx1020_0
                            replace p1020 := eq_true p1020
                            replace q1020 := eq_true q1020
                            have hnb75 := NB1019_1009.out
                            have hnc75 := NB1009_1019.out
                            have hcz76_0 : wr.cell? ⟨gb1019,0,none⟩ = some (.int .i64 ((rd_T88 l0_0 x66_3).f0)) := (blk_cell BK1019.out 0).trans rfl
                            have hcz76_1 : wr.cell? ⟨gb1019,1,none⟩ = some (.int .i64 ((rd_T88 l0_0 x66_3).f1)) := (blk_cell BK1019.out 1).trans rfl
                            have hcz76_2 : wr.cell? ⟨gb1019,2,none⟩ = some (.slice (some ad1020) ((rd_T88 l0_0 x66_3).f2).length c1018_2) := (blk_cell BK1019.out 2).trans rfl
                            have hfz76_0 := blk_frozen BK1019.out 0
                            have hfz76_1 := blk_frozen BK1019.out 1
                            have hfz76_2 := blk_frozen BK1019.out 2
                            have hcz77_0 : wr.cell? ⟨gb1009,0,none⟩ = some (.slice (some ad1018) l0_0.length c0_0) := (blk_cell BK1009.out 0).trans rfl
                            have hcz77_1 : wr.cell? ⟨gb1009,1,none⟩ = some (.slice A0_1 l0_1.length c0_1) := (blk_cell BK1009.out 1).trans rfl
                            have hcz77_2 : wr.cell? ⟨gb1009,2,none⟩ = some (.slice A0_2 l0_2.length c0_2) := (blk_cell BK1009.out 2).trans rfl
                            have hcz77_3 : wr.cell? ⟨gb1009,3,none⟩ = some (.bool a0_3) := (blk_cell BK1009.out 3).trans rfl
                            have hfz77_0 := blk_frozen BK1009.out 0
                            have hfz77_1 := blk_frozen BK1009.out 1
                            have hfz77_2 := blk_frozen BK1009.out 2
                            have hfz77_3 := blk_frozen BK1009.out 3
                            have p1021 : 0 ≤ ((rd ((rd_T88 l0_0 x66_3).f2) x114_5) : Int) := of_decide_eq_true (by first|(with_reducible assumption)|assumption)
                            have q1021 : (rd ((rd_T88 l0_0 x66_3).f2) x114_5) < (l0_0.length : Int) := of_decide_eq_true (by first|(with_reducible assumption)|assumption)
                            obtain ⟨ad1021,A1021_2,c1021_2,e1021,hx1021_0,hx1021_1,hx1021_2,hl1021_2,hi1021_2⟩ := at_T88 HR0_0.out (rd ((rd_T88 l0_0 x66_3).f2) x114_5) p1021 q1021
                            obtain rfl : ad1018 = ad1021 := (by injection e1021)
                            replace hx1021_0 := (HB.out.cell (World.block_lt_of_cell? w _ hx1021_0)).trans hx1021_0
                            replace hx1021_1 := (HB.out.cell (World.block_lt_of_cell? w _ hx1021_1)).trans hx1021_1
                            replace hx1021_2 := (HB.out.cell (World.block_lt_of_cell? w _ hx1021_2)).trans hx1021_2
                            have HR1021_2 := Aside0.mk hi1021_2
                            have HC1021_2 := Aside0.mk hl1021_2
                            clear hi1021_2 hl1021_2
                            replace p1021 := eq_true p1021
                            replace q1021 := eq_true q1021
                            go_wp2
                            go_ret
                            exact ⟨by first|rfl|(simp [errW_none,errW_some] <;> rfl)|(simp [*,errW_none,errW_some] <;> rfl),by repeat (first|(with_reducible first|exact HB.out|apply below_alloc|apply pw_below_drewN|apply below_drew1|refine below_set ?_ GE1009.out|refine below_set ?_ GE1019.out)|exact HB.out)⟩
                           ·rw [if_neg c74] at H
                            have c74b0 : decide (1 < ((rd_T88 l0_0 (rd ((rd_T88 l0_0 x66_3).f2) x114_5)).f0)) = false := decide_eq_false c74
                            clear c74
                            have H' := Aside0.mk H
                            clear H
                            have p1020 : 0 ≤ (x114_5 : Int) := of_decide_eq_true (by first|(with_reducible assumption)|assumption)
                            have q1020 : x114_5 < (((rd_T88 l0_0 x66_3).f2).length : Int) := of_decide_eq_true (by first|(with_reducible assumption)|assumption)
                            obtain ⟨ad1020,e1020,hx1020_0⟩ := Kd.at_int HR1018_2.out x114_5 p1020 q1020
                            cases e1020
                            replace hx1020_0 := (HB.out.cell (World.block_lt_of_cell? w _ hx1020_0)).trans hx1020_0
                            replace p1020 := eq_true p1020
                            replace q1020 := eq_true q1020
                            have hnb78 := NB1019_1009.out
                            have hnc78 := NB1009_1019.out
                            have hcz79_0 : wr.cell? ⟨gb1019,0,none⟩ = some (.int .i64 ((rd_T88 l0_0 x66_3).f0)) := (blk_cell BK1019.out 0).trans rfl
                            have hcz79_1 : wr.cell? ⟨gb1019,1,none⟩ = some (.int .i64 ((rd_T88 l0_0 x66_3).f1)) := (blk_cell BK1019.out 1).trans rfl
                            have hcz79_2 : wr.cell? ⟨gb1019,2,none⟩ = some (.slice (some ad1020) ((rd_T88 l0_0 x66_3).f2).length c1018_2) := (blk_cell BK1019.out 2).trans rfl
                            have hfz79_0 := blk_frozen BK1019.out 0
                            have hfz79_1 := blk_frozen BK1019.out 1
                            have hfz79_2 := blk_frozen BK1019.out 2
                            have hcz80_0 : wr.cell? ⟨gb1009,0,none⟩ = some (.slice (some ad1018) l0_0.length c0_0) := (blk_cell BK1009.out 0).trans rfl
                            have hcz80_1 : wr.cell? ⟨gb1009,1,none⟩ = some (.slice A0_1 l0_1.length c0_1) := (blk_cell BK1009.out 1).trans rfl
                            have hcz80_2 : wr.cell? ⟨gb1009,2,none⟩ = some (.slice A0_2 l0_2.length c0_2) := (blk_cell BK1009.out 2).trans rfl
                            have hcz80_3 : wr.cell? ⟨gb1009,3,none⟩ = some (.bool a0_3) := (blk_cell BK1009.out 3).trans rfl
                            have hfz80_0 := blk_frozen BK1009.out 0
                            have hfz80_1 := blk_frozen BK1009.out 1
                            have hfz80_2 := blk_frozen BK1009.out 2
                            have hfz80_3 := blk_frozen BK1009.out 3
                            have p1021 : 0 ≤ ((rd ((rd_T88 l0_0 x66_3).f2) x114_5) : Int) := of_decide_eq_true (by first|(with_reducible assumption)|assumption)
                            have q1021 : (rd ((rd_T88 l0_0 x66_3).f2) x114_5) < (l0_0.length : Int) := of_decide_eq_true (by first|(with_reducible assumption)|assumption)
                            obtain ⟨ad1021,A1021_2,c1021_2,e1021,hx1021_0,hx1021_1,hx1021_2,hl1021_2,hi1021_2⟩ := at_T88 HR0_0.out (rd ((rd_T88 l0_0 x66_3).f2) x114_5) p1021 q1021
                            obtain rfl : ad1018 = ad1021 := (by injection e1021)
                            replace hx1021_0 := (HB.out.cell (World.block_lt_of_cell? w _ hx1021_0)).trans hx1021_0
                            replace hx1021_1 := (HB.out.cell (World.block_lt_of_cell? w _ hx1021_1)).trans hx1021_1
                            replace hx1021_2 := (HB.out.cell (World.block_lt_of_cell? w _ hx1021_2)).trans hx1021_2
                            have HR1021_2 := Aside0.mk hi1021_2
                            have HC1021_2 := Aside0.mk hl1021_2
                            clear hi1021_2 hl1021_2
                            replace p1021 := eq_true p1021
                            replace q1021 := eq_true q1021
                            go_wp2
                            go_roundg k5
                            case measure => have := HJ1.out;have := HK2.out;have := HK3.out;have := HJ31.out;have := HK5.out;omega
                            case rel => exact ⟨(wrap64 (x114_5 + 1)),(by first|rfl|(simp;done)|(simp [*];done)),H',⟨by have := HJ1.out;have := HK2.out;have := HK3.out;have := HJ31.out;have := HK5.out;omega⟩,⟨by (with_reducible repeat (first|refine blk_drewN ?_ _|refine blk_drew ?_|refine blk_alloc ?_ _));exact BK1009.out⟩,⟨by (with_reducible repeat (first|refine blk_drewN ?_ _|refine blk_drew ?_|refine blk_alloc ?_ _));exact BK1019.out⟩,⟨by repeat (first|(with_reducible first|exact HB.out|apply below_alloc|apply pw_below_drewN|apply below_drew1|refine below_set ?_ GE1009.out|refine below_set ?_ GE1019.out)|exact HB.out)⟩⟩
                          ·rw [if_neg c73] at H
                           exact absurd H (by simp)
                         ·rw [if_neg c72] at H
                          exact absurd H (by simp)
                        ·rw [if_neg c71] at H
                         have c71b0 : ((Int.tmod x114_5 2) == 0) = false := beq_eq_false_iff_ne.mpr c71
                         have c71b1 : ((Int.tmod x114_5 2) != 0) = true := bne_iff_ne.mpr c71
                         have H' := Aside0.mk H
                         clear H
                         have p1020 : 0 ≤ (x114_5 : Int) := of_decide_eq_true (by first|(with_reducible assumption)|assumption)
                         have q1020 : x114_5 < (((rd_T88 l0_0 x66_3).f2).length : Int) := of_decide_eq_true (by first|(with_reducible assumption)|assumption)
                         obtain ⟨ad1020,e1020,hx1020_0⟩ := Kd.at_int HR1018_2.out x114_5 p1020 q1020
                         cases e1020
                         replace hx1020_0 := (HB.out.cell (World.block_lt_of_cell? w _ hx1020_0)).trans hx1020_0
                         replace p1020 := eq_true p1020
                         replace q1020 := eq_true q1020
                         have hnb81 := NB1019_1009.out
                         have hnc81 := NB1009_1019.out
                         have hcz82_0 : wr.cell? ⟨gb1019,0,none⟩ = some (.int .i64 ((rd_T88 l0_0 x66_3).f0)) := (blk_cell BK1019.out 0).trans rfl
                         have hcz82_1 : wr.cell? ⟨gb1019,1,none⟩ = some (.int .i64 ((rd_T88 l0_0 x66_3).f1)) := (blk_cell BK1019.out 1).trans rfl
                         have hcz82_2 : wr.cell? ⟨gb1019,2,none⟩ = some (.slice (some ad1020) ((rd_T88 l0_0 x66_3).f2).length c1018_2) := (blk_cell BK1019.out 2).trans rfl
                         have hfz82_0 := blk_frozen BK1019.out 0
                         have hfz82_1 := blk_frozen BK1019.out 1
                         have hfz82_2 := blk_frozen BK1019.out 2
                         go_wp2
                         go_roundg k5
                         case measure => have := HJ1.out;have := HK2.out;have := HK3.out;have := HJ31.out;have := HK5.out;omega
                         case rel => exact ⟨(wrap64 (x114_5 + 1)),(by first|rfl|(simp;done)|(simp [*];done)),H',⟨by have := HJ1.out;have := HK2.out;have := HK3.out;have := HJ31.out;have := HK5.out;omega⟩,⟨by (with_reducible repeat (first|refine blk_drewN ?_ _|refine blk_drew ?_|refine blk_alloc ?_ _));exact BK1009.out⟩,⟨by (with_reducible repeat (first|refine blk_drewN ?_ _|refine blk_drew ?_|refine blk_alloc ?_ _));exact BK1019.out⟩,⟨by repeat (first|(with_reducible first|exact HB.out|apply below_alloc|apply pw_below_drewN|apply below_drew1|refine below_set ?_ GE1009.out|refine below_set ?_ GE1019.out)|exact HB.out)⟩⟩
                       ·rw [if_neg c70] at H
                        have c70b0 : (((rd_T88 l0_0 x66_3).f0) == 4) = false := beq_eq_false_iff_ne.mpr c70
                        have c70b1 : (((rd_T88 l0_0 x66_3).f0) != 4) = true := bne_iff_ne.mpr c70
                        have H' := Aside0.mk H
                        clear H
                        have p1020 : 0 ≤ (x114_5 : Int) := of_decide_eq_true (by first|(with_reducible assumption)|assumption)
                        have q1020 : x114_5 < (((rd_T88 l0_0 x66_3).f2).length : Int) := of_decide_eq_true (by first|(with_reducible assumption)|assumption)
                        obtain ⟨ad1020,e1020,hx1020_0⟩ := Kd.at_int HR1018_2.out x114_5 p1020 q1020
                        cases e1020
                        replace hx1020_0 := (HB.out.cell (World.block_lt_of_cell? w _ hx1020_0)).trans hx1020_0
                        replace p1020 := eq_true p1020
                        replace q1020 := eq_true q1020
                        have hnb83 := NB1019_1009.out
                        have hnc83 := NB1009_1019.out
                        have hcz84_0 : wr.cell? ⟨gb1019,0,none⟩ = some (.int .i64 ((rd_T88 l0_0 x66_3).f0)) := (blk_cell BK1019.out 0).trans rfl
                        have hcz84_1 : wr.cell? ⟨gb1019,1,none⟩ = some (.int .i64 ((rd_T88 l0_0 x66_3).f1)) := (blk_cell BK1019.out 1).trans rfl
                        have hcz84_2 : wr.cell? ⟨gb1019,2,none⟩ = some (.slice (some ad1020) ((rd_T88 l0_0 x66_3).f2).length c1018_2) := (blk_cell BK1019.out 2).trans rfl
                        have hfz84_0 := blk_frozen BK1019.out 0
                        have hfz84_1 := blk_frozen BK1019.out 1
                        have hfz84_2 := blk_frozen BK1019.out 2
                        go_wp2
                        go_roundg k5
                        case measure => have := HJ1.out;have := HK2.out;have := HK3.out;have := HJ31.out;have := HK5.out;omega
                        case rel => exact ⟨(wrap64 (x114_5 + 1)),(by first|rfl|(simp;done)|(simp [*];done)),H',⟨by have := HJ1.out;have := HK2.out;have := HK3.out;have := HJ31.out;have := HK5.out;omega⟩,⟨by (with_reducible repeat (first|refine blk_drewN ?_ _|refine blk_drew ?_|refine blk_alloc ?_ _));exact BK1009.out⟩,⟨by (with_reducible repeat (first|refine blk_drewN ?_ _|refine blk_drew ?_|refine blk_alloc ?_ _));exact BK1019.out⟩,⟨by repeat (first|(with_reducible first|exact HB.out|apply below_alloc|apply pw_below_drewN|apply below_drew1|refine below_set ?_ GE1009.out|refine below_set ?_ GE1019.out)|exact HB.out)⟩⟩
                    ·rw [if_neg c67] at H
                     exact absurd H (by simp)
                   ·rw [if_neg c66] at H
                    exact absurd H (by simp)
                  ·rw [if_neg c65] at H
                   have c65b0 : decide (x114_5 < (((rd_T88 l0_0 x66_3).f2).length : Int)) = false := decide_eq_false c65
                   clear c65
                   have H' := Aside0.mk H
                   clear H
                   go_wp2
                   go_roundg k5
                   case measure => have := HJ1.out;have := HK2.out;have := HK3.out;have := HJ31.out;have := HK5.out;omega
                   case rel => exact ⟨(wrap64 (x66_3 + 1)),(by first|rfl|(simp;done)|(simp [*];done)),H',⟨by have := HJ1.out;have := HK2.out;have := HK3.out;have := HJ31.out;have := HK5.out;omega⟩,⟨by (with_reducible repeat (first|refine blk_drewN ?_ _|refine blk_drew ?_|refine blk_alloc ?_ _));exact BK1009.out⟩,⟨by repeat (first|(with_reducible first|exact HB.out|apply below_alloc|apply pw_below_drewN|apply below_drew1|refine below_set ?_ GE1009.out|refine below_set ?_ GE1019.out)|exact HB.out)⟩⟩
            ·rw [if_neg c31] at H
             exact absurd H (by simp)
           ·rw [if_neg c30] at H
            exact absurd H (by simp)
          ·rw [if_neg c29] at H
           have c29b0 : decide (x66_3 < (l0_0.length : Int)) = false := decide_eq_false c29
           clear c29
           obtain rfl := Option.some.inj H
           go_wp2
           go_ret
           exact ⟨by first|rfl|(simp [errW_none,errW_some] <;> rfl)|(simp [*,errW_none,errW_some] <;> rfl),by repeat (first|(with_reducible first|exact HB.out|apply below_alloc|apply pw_below_drewN|apply below_drew1|refine below_set ?_ GE1009.out)|exact HB.out)⟩
    ·rw [if_neg c18] at H
     exact absurd H (by simp)

end Go.Proofs.Ytbokjhdhpmmpfaa.Q
