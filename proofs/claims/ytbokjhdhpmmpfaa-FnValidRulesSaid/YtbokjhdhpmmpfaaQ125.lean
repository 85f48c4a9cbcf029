-- Written by wip/tools/qprint.py (a program of this claim's author) by means of the kit's printer.
import Derived.Test.YtbokjhdhpmmpfaaQ0
import Derived.Test.YtbokjhdhpmmpfaaQ105
namespace Go.Proofs.Ytbokjhdhpmmpfaa.Q
open Go.RowKit Go.Proofs.YtbokjhdhpmmpfaaW.PrintWords Go.Proofs.YtbokjhdhpmmpfaaW.PrintLast Go.Proofs.YtbokjhdhpmmpfaaW.PrintMore
attribute [local go_sem] max2_int min2_int max_two min_two max_three min_three max_four min_four   -- for this text's walks alone
set_option linter.unusedVariables false
set_option linter.unusedSimpArgs false

/-! ### spec_takeShapes: function 125 -/
mutual
def spec_takeShapes.j1 : Nat → Bool → Int → List Int → List Bool → List Int → List Int → Bool → Option (List Int × List Bool × List Int × List Int × Bool × Bool)
 | 0,_,_,_,_,_,_,_ => none
 | k + 1,x8,x9,l9,l4,e7,m0,m1 => if x8 = true then (if 0 ≤ (wrap64 ((e7.length : Int) - x9)) then (if (wrap64 ((e7.length : Int) - x9)) ≤ (e7.length : Int) then (some (l9,l4,(e7.take ((wrap64 ((e7.length : Int) - x9)) : Int).toNat),m0,m1,true)) else (none)) else (none)) else (some (l9,l4,e7,m0,m1,false))
def spec_takeShapes.j0 : Nat → Bool → Int → List Int → List Bool → List Int → List Int → Bool → Option (List Int × List Bool × List Int × List Int × Bool × Bool)
 | 0,_,_,_,_,_,_,_ => none
 | k + 1,x8,x9,l9,l4,e7,m0,m1 => if x8 = true then (if 0 ≤ (wrap64 ((e7.length : Int) - 2)) then (if (wrap64 ((e7.length : Int) - 2)) < (e7.length : Int) then (if 0 ≤ (rd e7 (wrap64 ((e7.length : Int) - 2))) then (if (rd e7 (wrap64 ((e7.length : Int) - 2))) < (l4.length : Int) then (spec_takeShapes.j1 k x8 x9 l9 (l4.set ((rd e7 (wrap64 ((e7.length : Int) - 2))) : Int).toNat true) e7 m0 m1) else (none)) else (none)) else (none)) else (none)) else (spec_takeShapes.j1 k x8 x9 l9 l4 e7 m0 m1)
end
def spec_takeShapes.f (k : Nat) (b2 : List Int) (b0 : List Bool) (a8 : List Int) (b1 : List Int) (b5 : Bool) (d6 : Int) (i1 : Int) : Option (List Int × List Bool × List Int × List Int × Bool × Bool) := (spec_shapeAt.f b2 b0 a8 b1 b5 0).bind fun d7 => ((spec_shapeAt.f b2 b0 a8 b1 b5 1).bind fun i5 => (if d6 = 5 then (if d7 ≥ 0 then (if 0 ≤ (wrap64 ((a8.length : Int) - 1)) then (if (wrap64 ((a8.length : Int) - 1)) ≤ (a8.length : Int) then ((spec_pushShape.f b2 b0 (a8.take ((wrap64 ((a8.length : Int) - 1)) : Int).toNat) b1 b5 2).bind fun e1 => (some (e1.1,e1.2.1,e1.2.2.1,e1.2.2.2.1,e1.2.2.2.2,true))) else (none)) else (none)) else (some (b2,b0,a8,b1,b5,false))) else (if d6 = 6 then (if d7 ≥ 0 then (if i5 < 0 then (some (b2,b0,a8,b1,b5,false)) else (if 0 ≤ (wrap64 ((a8.length : Int) - 2)) then (if (wrap64 ((a8.length : Int) - 2)) ≤ (a8.length : Int) then ((spec_pushShape.f b2 b0 (a8.take ((wrap64 ((a8.length : Int) - 2)) : Int).toNat) b1 b5 2).bind fun e2 => (some (e2.1,e2.2.1,e2.2.2.1,e2.2.2.2.1,e2.2.2.2.2,true))) else (none)) else (none))) else (some (b2,b0,a8,b1,b5,false))) else (if d6 = 8 then (if d7 ≥ 0 then (spec_takeShapes.j1 k (i5 == 3) 1 b2 b0 a8 b1 b5) else (spec_takeShapes.j1 k false 1 b2 b0 a8 b1 b5)) else (if d6 = 11 then (if d7 ≥ 0 then ((spec_keyKind.f i5).bind fun m8 => (if m8 = true then ((spec_shapeAt.f b2 b0 a8 b1 b5 2).bind fun l8 => (spec_takeShapes.j1 k (l8 == 4) 2 b2 b0 a8 b1 b5)) else (spec_takeShapes.j1 k false 2 b2 b0 a8 b1 b5))) else (spec_takeShapes.j1 k false 2 b2 b0 a8 b1 b5)) else (if d6 = 14 then (if d7 ≥ 0 then (if i5 = 5 then (if 0 ≤ (wrap64 ((a8.length : Int) - 2)) then (if (wrap64 ((a8.length : Int) - 2)) < (a8.length : Int) then (if 0 ≤ (rd a8 (wrap64 ((a8.length : Int) - 2))) then (if (rd a8 (wrap64 ((a8.length : Int) - 2))) < (b0.length : Int) then (spec_takeShapes.j0 k (!(rdOf false b0 (rd a8 (wrap64 ((a8.length : Int) - 2))))) 1 b2 b0 a8 b1 b5) else (none)) else (none)) else (none)) else (none)) else (spec_takeShapes.j0 k false 1 b2 b0 a8 b1 b5)) else (spec_takeShapes.j0 k false 1 b2 b0 a8 b1 b5)) else (if d6 = 15 then (if d7 ≥ 0 then (if 0 ≤ (wrap64 ((a8.length : Int) - 1)) then (if (wrap64 ((a8.length : Int) - 1)) < (a8.length : Int) then (if 0 ≤ i1 then (if i1 < (b1.length : Int) then (spec_takeShapes.j1 k (decide (d7 ≥ 0)) 0 b2 b0 a8 (b1.set (i1 : Int).toNat (rd a8 (wrap64 ((a8.length : Int) - 1)))) b5) else (none)) else (none)) else (none)) else (none)) else (spec_takeShapes.j1 k (decide (d7 ≥ 0)) 0 b2 b0 a8 b1 b5)) else (if d6 = 19 then (if d7 ≥ 0 then (spec_takeShapes.j1 k ((a8.length : Int) == 1) 0 b2 b0 a8 b1 true) else (spec_takeShapes.j1 k false 0 b2 b0 a8 b1 true)) else (spec_takeShapes.j1 k (decide (d7 ≥ 0)) 1 b2 b0 a8 b1 b5)))))))))
set_option maxRecDepth 100000 in
theorem spec_takeShapes.mono_l : ∀ k,(∀ y0 y1 y2 y3 y4 y5 y6,LeO (spec_takeShapes.j1 k y0 y1 y2 y3 y4 y5 y6) (spec_takeShapes.j1 (k + 1) y0 y1 y2 y3 y4 y5 y6)) ∧ (∀ y0 y1 y2 y3 y4 y5 y6,LeO (spec_takeShapes.j0 k y0 y1 y2 y3 y4 y5 y6) (spec_takeShapes.j0 (k + 1) y0 y1 y2 y3 y4 y5 y6))
 | 0 => ⟨fun _ _ _ _ _ _ _ r h => (by cases h),fun _ _ _ _ _ _ _ r h => (by cases h)⟩
 | k + 1 => by
  obtain ⟨ih0,ih1⟩ := spec_takeShapes.mono_l k
  refine ⟨?_,?_⟩
  ·intro y0 y1 y2 y3 y4 y5 y6
   unfold spec_takeShapes.j1
   repeat' first
   | (with_reducible exact ih0 _ _ _ _ _ _ _)
   | (with_reducible exact ih1 _ _ _ _ _ _ _)
   | (with_reducible exact LeO.refl _)
   | (with_reducible exact LeO.none _)
   | (with_reducible refine LeO.ite ?_ ?_)
   | (with_reducible refine LeO.bind ?_ (fun _ => ?_))
   | exact ih0 _ _ _ _ _ _ _
   | exact ih1 _ _ _ _ _ _ _
   | exact LeO.none _
   | refine LeO.ite ?_ ?_
   | refine LeO.bind ?_ (fun _ => ?_)
  ·intro y0 y1 y2 y3 y4 y5 y6
   unfold spec_takeShapes.j0
   repeat' first
   | (with_reducible exact ih0 _ _ _ _ _ _ _)
   | (with_reducible exact ih1 _ _ _ _ _ _ _)
   | (with_reducible exact LeO.refl _)
   | (with_reducible exact LeO.none _)
   | (with_reducible refine LeO.ite ?_ ?_)
   | (with_reducible refine LeO.bind ?_ (fun _ => ?_))
   | exact ih0 _ _ _ _ _ _ _
   | exact ih1 _ _ _ _ _ _ _
   | exact LeO.none _
   | refine LeO.ite ?_ ?_
   | refine LeO.bind ?_ (fun _ => ?_)
set_option maxRecDepth 100000 in
theorem spec_takeShapes.mono : ∀ a0 a1 a2 a3 a4 a5 a6 k,LeO (spec_takeShapes.f k a0 a1 a2 a3 a4 a5 a6) (spec_takeShapes.f (k + 1) a0 a1 a2 a3 a4 a5 a6) := by
 intro a0 a1 a2 a3 a4 a5 a6 k
 obtain ⟨ih0,ih1⟩ := spec_takeShapes.mono_l k
 unfold spec_takeShapes.f
 repeat' first
   | (with_reducible exact ih0 _ _ _ _ _ _ _)
   | (with_reducible exact ih1 _ _ _ _ _ _ _)
   | (with_reducible exact LeO.refl _)
   | (with_reducible exact LeO.none _)
   | (with_reducible refine LeO.ite ?_ ?_)
   | (with_reducible refine LeO.bind ?_ (fun _ => ?_))
   | exact ih0 _ _ _ _ _ _ _
   | exact ih1 _ _ _ _ _ _ _
   | exact LeO.none _
   | refine LeO.ite ?_ ?_
   | refine LeO.bind ?_ (fun _ => ?_)
def spec_takeShapes.T22 : Bool × List (List Nat × List Nat) := (true,[([],[]),([0],[0]),([1],[1]),([2,1],[1,2]),([1,3],[1,3]),([4,1],[4]),([5],[5]),([6,5],[5,6]),([5],[5]),([8,5],[5,8]),([5],[5]),([10,5],[5,10]),([11,5],[5,11]),([12,5],[5,12]),([9,13,5],[5,9,13]),([14,5],[5,14]),([7,15,5],[5,7,15]),([16,5],[5,16]),([17,5],[5,17]),([5,18],[5,18]),([19,5,0,1,2,3,4,5,6,7,8,9,10,11,12,13,14,15,16,17,18,19],[0,19])])
def spec_takeShapes.B22 : List Nat := [0,1,3,7,15,31,63,127,63,319,63,1087,3135,7231,16191,32575,65535,131071,262143,524287,1048575]
theorem spec_takeShapes.tab22 : rtab .any (opsOf Try.f125 22) = spec_takeShapes.T22 := by kernel_rfl
theorem spec_takeShapes.bits22 : waitsOk spec_takeShapes.T22.2 spec_takeShapes.B22 = true := by kernel_rfl
def spec_takeShapes.T24 : Bool × List (List Nat × List Nat) := (true,[([],[]),([0],[0]),([],[]),([2],[2]),([],[]),([4],[4]),([5],[5]),([6],[6]),([3,7],[3,7]),([8],[8]),([1,9,0,1,2,3,4,5,6,7,8,9],[1,9]),([10,0,1,2,3,4,5,6,7,8,9],[10])])
def spec_takeShapes.B24 : List Nat := [0,1,0,4,0,16,48,112,252,508,1023,2047]
theorem spec_takeShapes.tab24 : rtab .any (opsOf Try.f125 24) = spec_takeShapes.T24 := by kernel_rfl
theorem spec_takeShapes.bits24 : waitsOk spec_takeShapes.T24.2 spec_takeShapes.B24 = true := by kernel_rfl
def spec_takeShapes.T27 : Bool × List (List Nat × List Nat) := (true,[([],[]),([0],[0]),([],[]),([2],[2]),([],[]),([4],[4]),([],[]),([6],[6]),([7],[7]),([8],[8]),([5,9],[5,9]),([10],[10]),([1,3,0,1,2,3,4,5,6,7,8,9,10,11],[1,3]),([12,11,0,1,2,3,4,5,6,7,8,9,10,11],[11,12])])
def spec_takeShapes.B27 : List Nat := [0,1,0,4,0,16,0,64,192,448,1008,2032,4095,8191]
theorem spec_takeShapes.tab27 : rtab .any (opsOf Try.f125 27) = spec_takeShapes.T27 := by kernel_rfl
theorem spec_takeShapes.bits27 : waitsOk spec_takeShapes.T27.2 spec_takeShapes.B27 = true := by kernel_rfl
set_option maxHeartbeats 8000000 in
set_option maxRecDepth 100000 in
theorem spec_takeShapes.calls (k : Nat) (d0 : Nat → Prop) (m5 : Value) (b2 : List Int) (d5 : Nat → Prop) (n4 : Value) (b0 : List Bool) (d1 : Nat → Prop) (m6 : Value) (a8 : List Int) (d2 : Nat → Prop) (m7 : Value) (b1 : List Int) (b5 : Bool) (d6 : Int) (i1 : Int) (r1 : List Int) (r2 : List Bool) (r3 : List Int) (r4 : List Int) (r5 : Bool) (r6 : Bool) (w0 w : World) (hB : Below w0.heap.size w0 w) (ho0_0 : Kd.R (Kd.int .i64) 3 w w0.heap.size d0 m5 b2) (o0 : ∀ k_,d0 k_ → ¬ d1 k_) (o1 : ∀ k_,d0 k_ → ¬ d2 k_) (ho0_1 : Kd.R Kd.bool 4 w w0.heap.size d5 n4 b0) (ho0_2 : Kd.R (Kd.int .i64) 3 w w0.heap.size d1 m6 a8) (o2 : ∀ k_,d1 k_ → ¬ d0 k_) (o3 : ∀ k_,d1 k_ → ¬ d2 k_) (ho0_3 : Kd.R (Kd.int .i64) 3 w w0.heap.size d2 m7 b1) (o4 : ∀ k_,d2 k_ → ¬ d0 k_) (o5 : ∀ k_,d2 k_ → ¬ d1 k_) (h : spec_takeShapes.f k b2 b0 a8 b1 b5 d6 i1 = some (r1,r2,r3,r4,r5,r6)) :
  Calls Try.prog 125 #[.agg #[m5,n4,m6,m7,.bool b5],.agg #[.int .i64 d6,.int .i64 i1]] w fun e w' => ∃ v0_ v1_ v2_ v3_ : Value,e = .returned (.tuple #[.agg #[v0_,v1_,v2_,v3_,.bool r5],.bool r6]) ∧ Kd.R (Kd.int .i64) 3 w' w0.heap.size (fun k_ => ((d0 k_ ∨ d5 k_ ∨ d1 k_ ∨ d2 k_) ∨ w.heap.size ≤ k_) ∧ some k_ ≠ (v2_ : Value).ownBlock ∧ some k_ ≠ (v3_ : Value).ownBlock) v0_ r1 ∧ Kd.R Kd.bool 4 w' w0.heap.size (fun k_ => ((d0 k_ ∨ d5 k_ ∨ d1 k_ ∨ d2 k_) ∨ w.heap.size ≤ k_)) v1_ r2 ∧ Kd.R (Kd.int .i64) 3 w' w0.heap.size (fun k_ => ((d0 k_ ∨ d5 k_ ∨ d1 k_ ∨ d2 k_) ∨ w.heap.size ≤ k_) ∧ some k_ ≠ (v0_ : Value).ownBlock ∧ some k_ ≠ (v3_ : Value).ownBlock) v2_ r3 ∧ Kd.R (Kd.int .i64) 3 w' w0.heap.size (fun k_ => ((d0 k_ ∨ d5 k_ ∨ d1 k_ ∨ d2 k_) ∨ w.heap.size ≤ k_) ∧ some k_ ≠ (v0_ : Value).ownBlock ∧ some k_ ≠ (v2_ : Value).ownBlock) v3_ r4 ∧ Below w0.heap.size w0 w' ∧ Kept w w' (fun k_ => d0 k_ ∨ d5 k_ ∨ d1 k_ ∨ d2 k_) := by
 have hu120 := Try.underlying120
 have hu75 := Try.underlying75
 have b6 := As_ (show Kd.R (Kd.int .i64) 3 w w0.heap.size (fun k_ => ((d0 k_ ∨ d5 k_ ∨ d1 k_ ∨ d2 k_) ∨ w.heap.size ≤ k_) ∧ some k_ ≠ (m6 : Value).ownBlock ∧ some k_ ≠ (m7 : Value).ownBlock) m5 b2 from Kd.R_mono ho0_0 (fun k_ hk => ⟨(.inl (.inl hk)),fun e_ => o0 k_ hk (ho0_2.1 k_ e_.symm),fun e_ => o1 k_ hk (ho0_3.1 k_ e_.symm)⟩))
 have b7 := As_ (show Kd.R Kd.bool 4 w w0.heap.size (fun k_ => ((d0 k_ ∨ d5 k_ ∨ d1 k_ ∨ d2 k_) ∨ w.heap.size ≤ k_)) n4 b0 from Kd.R_mono ho0_1 (fun k_ hk => (.inl (.inr (.inl hk)))))
 have b9 := As_ (show Kd.R (Kd.int .i64) 3 w w0.heap.size (fun k_ => ((d0 k_ ∨ d5 k_ ∨ d1 k_ ∨ d2 k_) ∨ w.heap.size ≤ k_) ∧ some k_ ≠ (m5 : Value).ownBlock ∧ some k_ ≠ (m7 : Value).ownBlock) m6 a8 from Kd.R_mono ho0_2 (fun k_ hk => ⟨(.inl (.inr (.inr (.inl hk)))),fun e_ => o2 k_ hk (ho0_0.1 k_ e_.symm),fun e_ => o3 k_ hk (ho0_3.1 k_ e_.symm)⟩))
 have b4 := As_ (show Kd.R (Kd.int .i64) 3 w w0.heap.size (fun k_ => ((d0 k_ ∨ d5 k_ ∨ d1 k_ ∨ d2 k_) ∨ w.heap.size ≤ k_) ∧ some k_ ≠ (m5 : Value).ownBlock ∧ some k_ ≠ (m6 : Value).ownBlock) m7 b1 from Kd.R_mono ho0_3 (fun k_ hk => ⟨(.inl (.inr (.inr (.inr hk)))),fun e_ => o4 k_ hk (ho0_0.1 k_ e_.symm),fun e_ => o5 k_ hk (ho0_2.1 k_ e_.symm)⟩))
 have HK := As_ (Kept.refl w (fun k_ => d0 k_ ∨ d5 k_ ∨ d1 k_ ∨ d2 k_))
 have HW0 := As_ hB.size
 have HB := As_ hB
 clear hB
 have H : ((spec_shapeAt.f b2 b0 a8 b1 b5 0).bind fun d7 => ((spec_shapeAt.f b2 b0 a8 b1 b5 1).bind fun i5 => (if d6 = 5 then (if d7 ≥ 0 then (if 0 ≤ (wrap64 ((a8.length : Int) - 1)) then (if (wrap64 ((a8.length : Int) - 1)) ≤ (a8.length : Int) then ((spec_pushShape.f b2 b0 (a8.take ((wrap64 ((a8.length : Int) - 1)) : Int).toNat) b1 b5 2).bind fun e1 => (some (e1.1,e1.2.1,e1.2.2.1,e1.2.2.2.1,e1.2.2.2.2,true))) else (none)) else (none)) else (some (b2,b0,a8,b1,b5,false))) else (if d6 = 6 then (if d7 ≥ 0 then (if i5 < 0 then (some (b2,b0,a8,b1,b5,false)) else (if 0 ≤ (wrap64 ((a8.length : Int) - 2)) then (if (wrap64 ((a8.length : Int) - 2)) ≤ (a8.length : Int) then ((spec_pushShape.f b2 b0 (a8.take ((wrap64 ((a8.length : Int) - 2)) : Int).toNat) b1 b5 2).bind fun e2 => (some (e2.1,e2.2.1,e2.2.2.1,e2.2.2.2.1,e2.2.2.2.2,true))) else (none)) else (none))) else (some (b2,b0,a8,b1,b5,false))) else (if d6 = 8 then (if d7 ≥ 0 then (spec_takeShapes.j1 k (i5 == 3) 1 b2 b0 a8 b1 b5) else (spec_takeShapes.j1 k false 1 b2 b0 a8 b1 b5)) else (if d6 = 11 then (if d7 ≥ 0 then ((spec_keyKind.f i5).bind fun m8 => (if m8 = true then ((spec_shapeAt.f b2 b0 a8 b1 b5 2).bind fun l8 => (spec_takeShapes.j1 k (l8 == 4) 2 b2 b0 a8 b1 b5)) else (spec_takeShapes.j1 k false 2 b2 b0 a8 b1 b5))) else (spec_takeShapes.j1 k false 2 b2 b0 a8 b1 b5)) else (if d6 = 14 then (if d7 ≥ 0 then (if i5 = 5 then (if 0 ≤ (wrap64 ((a8.length : Int) - 2)) then (if (wrap64 ((a8.length : Int) - 2)) < (a8.length : Int) then (if 0 ≤ (rd a8 (wrap64 ((a8.length : Int) - 2))) then (if (rd a8 (wrap64 ((a8.length : Int) - 2))) < (b0.length : Int) then (spec_takeShapes.j0 k (!(rdOf false b0 (rd a8 (wrap64 ((a8.length : Int) - 2))))) 1 b2 b0 a8 b1 b5) else (none)) else (none)) else (none)) else (none)) else (spec_takeShapes.j0 k false 1 b2 b0 a8 b1 b5)) else (spec_takeShapes.j0 k false 1 b2 b0 a8 b1 b5)) else (if d6 = 15 then (if d7 ≥ 0 then (if 0 ≤ (wrap64 ((a8.length : Int) - 1)) then (if (wrap64 ((a8.length : Int) - 1)) < (a8.length : Int) then (if 0 ≤ i1 then (if i1 < (b1.length : Int) then (spec_takeShapes.j1 k (decide (d7 ≥ 0)) 0 b2 b0 a8 (b1.set (i1 : Int).toNat (rd a8 (wrap64 ((a8.length : Int) - 1)))) b5) else (none)) else (none)) else (none)) else (none)) else (spec_takeShapes.j1 k (decide (d7 ≥ 0)) 0 b2 b0 a8 b1 b5)) else (if d6 = 19 then (if d7 ≥ 0 then (spec_takeShapes.j1 k ((a8.length : Int) == 1) 0 b2 b0 a8 b1 true) else (spec_takeShapes.j1 k false 0 b2 b0 a8 b1 true)) else (spec_takeShapes.j1 k (decide (d7 ≥ 0)) 1 b2 b0 a8 b1 b5)))))))))) = some (r1,r2,r3,r4,r5,r6) := h
 clear h
 replace H := obS H
 obtain ⟨d7,A30,H⟩ := H
 replace H : ((spec_shapeAt.f b2 b0 a8 b1 b5 1).bind fun i5 => (if d6 = 5 then (if d7 ≥ 0 then (if 0 ≤ (wrap64 ((a8.length : Int) - 1)) then (if (wrap64 ((a8.length : Int) - 1)) ≤ (a8.length : Int) then ((spec_pushShape.f b2 b0 (a8.take ((wrap64 ((a8.length : Int) - 1)) : Int).toNat) b1 b5 2).bind fun e1 => (some (e1.1,e1.2.1,e1.2.2.1,e1.2.2.2.1,e1.2.2.2.2,true))) else (none)) else (none)) else (some (b2,b0,a8,b1,b5,false))) else (if d6 = 6 then (if d7 ≥ 0 then (if i5 < 0 then (some (b2,b0,a8,b1,b5,false)) else (if 0 ≤ (wrap64 ((a8.length : Int) - 2)) then (if (wrap64 ((a8.length : Int) - 2)) ≤ (a8.length : Int) then ((spec_pushShape.f b2 b0 (a8.take ((wrap64 ((a8.length : Int) - 2)) : Int).toNat) b1 b5 2).bind fun e2 => (some (e2.1,e2.2.1,e2.2.2.1,e2.2.2.2.1,e2.2.2.2.2,true))) else (none)) else (none))) else (some (b2,b0,a8,b1,b5,false))) else (if d6 = 8 then (if d7 ≥ 0 then (spec_takeShapes.j1 k (i5 == 3) 1 b2 b0 a8 b1 b5) else (spec_takeShapes.j1 k false 1 b2 b0 a8 b1 b5)) else (if d6 = 11 then (if d7 ≥ 0 then ((spec_keyKind.f i5).bind fun m8 => (if m8 = true then ((spec_shapeAt.f b2 b0 a8 b1 b5 2).bind fun l8 => (spec_takeShapes.j1 k (l8 == 4) 2 b2 b0 a8 b1 b5)) else (spec_takeShapes.j1 k false 2 b2 b0 a8 b1 b5))) else (spec_takeShapes.j1 k false 2 b2 b0 a8 b1 b5)) else (if d6 = 14 then (if d7 ≥ 0 then (if i5 = 5 then (if 0 ≤ (wrap64 ((a8.length : Int) - 2)) then (if (wrap64 ((a8.length : Int) - 2)) < (a8.length : Int) then (if 0 ≤ (rd a8 (wrap64 ((a8.length : Int) - 2))) then (if (rd a8 (wrap64 ((a8.length : Int) - 2))) < (b0.length : Int) then (spec_takeShapes.j0 k (!(rdOf false b0 (rd a8 (wrap64 ((a8.length : Int) - 2))))) 1 b2 b0 a8 b1 b5) else (none)) else (none)) else (none)) else (none)) else (spec_takeShapes.j0 k false 1 b2 b0 a8 b1 b5)) else (spec_takeShapes.j0 k false 1 b2 b0 a8 b1 b5)) else (if d6 = 15 then (if d7 ≥ 0 then (if 0 ≤ (wrap64 ((a8.length : Int) - 1)) then (if (wrap64 ((a8.length : Int) - 1)) < (a8.length : Int) then (if 0 ≤ i1 then (if i1 < (b1.length : Int) then (spec_takeShapes.j1 k (decide (d7 ≥ 0)) 0 b2 b0 a8 (b1.set (i1 : Int).toNat (rd a8 (wrap64 ((a8.length : Int) - 1)))) b5) else (none)) else (none)) else (none)) else (none)) else (spec_takeShapes.j1 k (decide (d7 ≥ 0)) 0 b2 b0 a8 b1 b5)) else (if d6 = 19 then (if d7 ≥ 0 then (spec_takeShapes.j1 k ((a8.length : Int) == 1) 0 b2 b0 a8 b1 true) else (spec_takeShapes.j1 k false 0 b2 b0 a8 b1 true)) else (spec_takeShapes.j1 k (decide (d7 ≥ 0)) 1 b2 b0 a8 b1 b5))))))))) = some (r1,r2,r3,r4,r5,r6) := H
 have A3 := As_ A30
 clear A30
 replace H := obS H
 obtain ⟨i5,A40,H⟩ := H
 replace H : (if d6 = 5 then (if d7 ≥ 0 then (if 0 ≤ (wrap64 ((a8.length : Int) - 1)) then (if (wrap64 ((a8.length : Int) - 1)) ≤ (a8.length : Int) then ((spec_pushShape.f b2 b0 (a8.take ((wrap64 ((a8.length : Int) - 1)) : Int).toNat) b1 b5 2).bind fun e1 => (some (e1.1,e1.2.1,e1.2.2.1,e1.2.2.2.1,e1.2.2.2.2,true))) else (none)) else (none)) else (some (b2,b0,a8,b1,b5,false))) else (if d6 = 6 then (if d7 ≥ 0 then (if i5 < 0 then (some (b2,b0,a8,b1,b5,false)) else (if 0 ≤ (wrap64 ((a8.length : Int) - 2)) then (if (wrap64 ((a8.length : Int) - 2)) ≤ (a8.length : Int) then ((spec_pushShape.f b2 b0 (a8.take ((wrap64 ((a8.length : Int) - 2)) : Int).toNat) b1 b5 2).bind fun e2 => (some (e2.1,e2.2.1,e2.2.2.1,e2.2.2.2.1,e2.2.2.2.2,true))) else (none)) else (none))) else (some (b2,b0,a8,b1,b5,false))) else (if d6 = 8 then (if d7 ≥ 0 then (spec_takeShapes.j1 k (i5 == 3) 1 b2 b0 a8 b1 b5) else (spec_takeShapes.j1 k false 1 b2 b0 a8 b1 b5)) else (if d6 = 11 then (if d7 ≥ 0 then ((spec_keyKind.f i5).bind fun m8 => (if m8 = true then ((spec_shapeAt.f b2 b0 a8 b1 b5 2).bind fun l8 => (spec_takeShapes.j1 k (l8 == 4) 2 b2 b0 a8 b1 b5)) else (spec_takeShapes.j1 k false 2 b2 b0 a8 b1 b5))) else (spec_takeShapes.j1 k false 2 b2 b0 a8 b1 b5)) else (if d6 = 14 then (if d7 ≥ 0 then (if i5 = 5 then (if 0 ≤ (wrap64 ((a8.length : Int) - 2)) then (if (wrap64 ((a8.length : Int) - 2)) < (a8.length : Int) then (if 0 ≤ (rd a8 (wrap64 ((a8.length : Int) - 2))) then (if (rd a8 (wrap64 ((a8.length : Int) - 2))) < (b0.length : Int) then (spec_takeShapes.j0 k (!(rdOf false b0 (rd a8 (wrap64 ((a8.length : Int) - 2))))) 1 b2 b0 a8 b1 b5) else (none)) else (none)) else (none)) else (none)) else (spec_takeShapes.j0 k false 1 b2 b0 a8 b1 b5)) else (spec_takeShapes.j0 k false 1 b2 b0 a8 b1 b5)) else (if d6 = 15 then (if d7 ≥ 0 then (if 0 ≤ (wrap64 ((a8.length : Int) - 1)) then (if (wrap64 ((a8.length : Int) - 1)) < (a8.length : Int) then (if 0 ≤ i1 then (if i1 < (b1.length : Int) then (spec_takeShapes.j1 k (decide (d7 ≥ 0)) 0 b2 b0 a8 (b1.set (i1 : Int).toNat (rd a8 (wrap64 ((a8.length : Int) - 1)))) b5) else (none)) else (none)) else (none)) else (none)) else (spec_takeShapes.j1 k (decide (d7 ≥ 0)) 0 b2 b0 a8 b1 b5)) else (if d6 = 19 then (if d7 ≥ 0 then (spec_takeShapes.j1 k ((a8.length : Int) == 1) 0 b2 b0 a8 b1 true) else (spec_takeShapes.j1 k false 0 b2 b0 a8 b1 true)) else (spec_takeShapes.j1 k (decide (d7 ≥ 0)) 1 b2 b0 a8 b1 b5)))))))) = some (r1,r2,r3,r4,r5,r6) := H
 have A4 := As_ A40
 clear A40
 have HC5 := As_ H
 clear H
 obtain ⟨Ao6,co6,eo6⟩ := Kd.R_slice b6.out
 subst eo6
 obtain ⟨Ao7,co7,eo7⟩ := Kd.R_slice b7.out
 subst eo7
 obtain ⟨Ao8,co8,eo8⟩ := Kd.R_slice b9.out
 subst eo8
 obtain ⟨Ao9,co9,eo9⟩ := Kd.R_slice b4.out
 subst eo9
 go_enter Try.func125,Try.ntmps125
 go_upto_block 0 with (first|((with_reducible refine gate_dst (N := 2) rfl ?_);(try (refine gate_guard (by rfl) ?_;dsimp only));refine box_event ?hg (N := 2) ?hd (cs := #[.slice Ao6 b2.length co6,.slice Ao7 b0.length co7,.slice Ao8 a8.length co8,.slice Ao9 b1.length co9,.bool b5]) (t := 120) ?hr ?_;(case hd => rfl);(case hg => rfl);(case hr => go_simp <;> rfl);intro b3 hg w10 hbox hb;have n0_ := As_ (Kd.R_below (zR_ b6.out) hb);have n1_ := As_ (Kd.R_below (zR_ b7.out) hb);have n2_ := As_ (Kd.R_below (zR_ b9.out) hb);have n3_ := As_ (Kd.R_below (zR_ b4.out) hb);have n4_ := As_ (Kept.below (S := (fun k_ => d0 k_ ∨ d5 k_ ∨ d1 k_ ∨ d2 k_)) (zq0 HK.out) hb);have n5_ := As_ (bwT (zb0 HB.out) hb);have n6_ := As_ (hbox);have n7_ := As_ ((by rw [hg];exact (kz HK.out) : w.heap.size ≤ b3));have n8_ := As_ ((by rw [hg];exact (bwZ (zb0 HB.out)) : w0.heap.size ≤ b3));clear b6 b7 b9 b4 HK HB;revert n0_ n1_ n2_ n3_ n4_ n5_ n6_ n7_ n8_;intro b6 b7 b9 b4 HK HB a7 e5 e4;clear hb hbox hg)|((with_reducible refine gate_dst (N := 3) rfl ?_);(try (refine gate_guard (by rfl) ?_;dsimp only));refine box_event ?hg (N := 3) ?hd (cs := #[.int .i64 d6,.int .i64 i1]) (t := 75) ?hr ?_;(case hd => rfl);(case hg => rfl);(case hr => go_simp <;> rfl);intro j9 hg w11 hbox hb;have n0_ := As_ (Kd.R_below (zR_ b6.out) hb);have n1_ := As_ (Kd.R_below (zR_ b7.out) hb);have n2_ := As_ (Kd.R_below (zR_ b9.out) hb);have n3_ := As_ (Kd.R_below (zR_ b4.out) hb);have n4_ := As_ (zkb a7.out hb);have n5_ := As_ (Kept.below (S := (fun k_ => d0 k_ ∨ d5 k_ ∨ d1 k_ ∨ d2 k_)) (zq1 HK.out e5.out) hb);have n6_ := As_ (bwT (zb1 HB.out e4.out) hb);have n7_ := As_ (hbox);have n8_ := As_ ((by rw [hg];exact (kz HK.out) : w.heap.size ≤ j9));have n9_ := As_ ((by rw [hg];exact (bwZ (zb1 HB.out e4.out)) : w0.heap.size ≤ j9));have n10_ := As_ ((by rw [hg];exact Nat.ne_of_lt (zkl a7.out) : b3 ≠ j9));have n11_ := As_ ((by rw [hg];exact Nat.ne_of_gt (zkl a7.out) : j9 ≠ b3));clear b6 b7 b9 b4 a7 HK HB;revert n0_ n1_ n2_ n3_ n4_ n5_ n6_ n7_ n8_ n9_ n10_ n11_;intro b6 b7 b9 b4 a7 HK HB b8 e8 e6 g7 e0;clear hb hbox hg)|((with_reducible refine gate_dst (N := 4) rfl ?_);(try (refine gate_guard (by rfl) ?_;dsimp only));refine box_event ?hg (N := 4) ?hd (cs := #[.slice none 0 0,.slice none 0 0,.slice none 0 0,.slice none 0 0,.bool false]) (t := 120) ?hr ?_;(case hd => rfl);(case hg => rfl);(case hr => go_simp <;> rfl);intro d4 hg w12 hbox hb;have n0_ := As_ (Kd.R_below (zR_ b6.out) hb);have n1_ := As_ (Kd.R_below (zR_ b7.out) hb);have n2_ := As_ (Kd.R_below (zR_ b9.out) hb);have n3_ := As_ (Kd.R_below (zR_ b4.out) hb);have n4_ := As_ (zkb a7.out hb);have n5_ := As_ (zkb b8.out hb);have n6_ := As_ (Kept.below (S := (fun k_ => d0 k_ ∨ d5 k_ ∨ d1 k_ ∨ d2 k_)) (zq2 HK.out e5.out e8.out) hb);have n7_ := As_ (bwT (zb2 HB.out e4.out e6.out) hb);have n8_ := As_ (hbox);have n9_ := As_ ((by rw [hg];exact (kz HK.out) : w.heap.size ≤ d4));have n10_ := As_ ((by rw [hg];exact (bwZ (zb2 HB.out e4.out e6.out)) : w0.heap.size ≤ d4));have n11_ := As_ ((by rw [hg];exact Nat.ne_of_lt (zkl a7.out) : b3 ≠ d4));have n12_ := As_ ((by rw [hg];exact Nat.ne_of_gt (zkl a7.out) : d4 ≠ b3));have n13_ := As_ ((by rw [hg];exact Nat.ne_of_lt (zkl b8.out) : j9 ≠ d4));have n14_ := As_ ((by rw [hg];exact Nat.ne_of_gt (zkl b8.out) : d4 ≠ j9));clear b6 b7 b9 b4 a7 b8 HK HB;revert n0_ n1_ n2_ n3_ n4_ n5_ n6_ n7_ n8_ n9_ n10_ n11_ n12_ n13_ n14_;intro b6 b7 b9 b4 a7 b8 HK HB a9 g5 g6 g8 d9 i6 i7;clear hb hbox hg;have Y9 := g7.out;have Z0 := e0.out;have Z1 := g8.out;have Z2 := d9.out;have F3 : w12.cell? ⟨b3,0,none⟩ = some (.slice Ao6 b2.length co6) := (bkC a7.out 0).trans rfl;have F4 : w12.cell? ⟨b3,1,none⟩ = some (.slice Ao7 b0.length co7) := (bkC a7.out 1).trans rfl;have F5 : w12.cell? ⟨b3,2,none⟩ = some (.slice Ao8 a8.length co8) := (bkC a7.out 2).trans rfl;have F6 : w12.cell? ⟨b3,3,none⟩ = some (.slice Ao9 b1.length co9) := (bkC a7.out 3).trans rfl;have F7 : w12.cell? ⟨b3,4,none⟩ = some (.bool b5) := (bkC a7.out 4).trans rfl;have F8 := bkF a7.out 0;have F9 := bkF a7.out 1;have G0 := bkF a7.out 2;have G1 := bkF a7.out 3;have G2 := bkF a7.out 4)|((with_reducible refine gate_callee (f := 128) rfl ?_);refine goesL_ (some 11) rfl rfl Try.func128 (by kernel_rfl) rfl #[.agg #[.slice Ao6 b2.length co6,.slice Ao7 b0.length co7,.slice Ao8 a8.length co8,.slice Ao9 b1.length co9,.bool b5],.int .i64 0] rfl zM_ ?_;(with_reducible refine (spec_shapeAt.calls _ _ b2 _ _ b0 _ _ a8 _ _ b1 b5 0 d7 _ ?side1 ?side2 ?side3 ?side4 ?side5 ?side6 ?side7 ?side8 A3.out).mono ?_);(case side1 => exact zC_ (Kd.R_reads' b6.out).2.2);(case side2 => exact (Kd.R_reads' b6.out).2.1);(case side3 => exact zC_ (Kd.R_reads' b7.out).2.2);(case side4 => exact (Kd.R_reads' b7.out).2.1);(case side5 => exact zC_ (Kd.R_reads' b9.out).2.2);(case side6 => exact (Kd.R_reads' b9.out).2.1);(case side7 => exact zC_ (Kd.R_reads' b4.out).2.2);(case side8 => exact (Kd.R_reads' b4.out).2.1);rintro e w16 ⟨rfl,hb⟩;refine ⟨_,rfl,?_⟩;have n0_ := As_ (Kd.R_below (zR_ b6.out) hb);have n1_ := As_ (Kd.R_below (zR_ b7.out) hb);have n2_ := As_ (Kd.R_below (zR_ b9.out) hb);have n3_ := As_ (Kd.R_below (zR_ b4.out) hb);have n4_ := As_ (zkb a7.out hb);have n5_ := As_ (zkb b8.out hb);have n6_ := As_ (zkb a9.out hb);have n7_ := As_ (Kept.below (S := (fun k_ => d0 k_ ∨ d5 k_ ∨ d1 k_ ∨ d2 k_)) (zq3 HK.out e5.out e8.out g5.out) hb);have n8_ := As_ (bwT (zb3 HB.out e4.out e6.out g6.out) hb);clear b6 b7 b9 b4 a7 b8 a9 HK HB;revert n0_ n1_ n2_ n3_ n4_ n5_ n6_ n7_ n8_;intro b6 b7 b9 b4 a7 b8 a9 HK HB;have G3 : w16.cell? ⟨b3,0,none⟩ = some (.slice Ao6 b2.length co6) := (bkC a7.out 0).trans rfl;have G4 : w16.cell? ⟨b3,1,none⟩ = some (.slice Ao7 b0.length co7) := (bkC a7.out 1).trans rfl;have G5 : w16.cell? ⟨b3,2,none⟩ = some (.slice Ao8 a8.length co8) := (bkC a7.out 2).trans rfl;have G6 : w16.cell? ⟨b3,3,none⟩ = some (.slice Ao9 b1.length co9) := (bkC a7.out 3).trans rfl;have G7 : w16.cell? ⟨b3,4,none⟩ = some (.bool b5) := (bkC a7.out 4).trans rfl;have G8 := bkF a7.out 0;have G9 := bkF a7.out 1;have H0 := bkF a7.out 2;have H2 := bkF a7.out 3;have H3 := bkF a7.out 4)|((with_reducible refine gate_callee (f := 128) rfl ?_);refine goesL_ (some 13) rfl rfl Try.func128 (by kernel_rfl) rfl #[.agg #[.slice Ao6 b2.length co6,.slice Ao7 b0.length co7,.slice Ao8 a8.length co8,.slice Ao9 b1.length co9,.bool b5],.int .i64 1] rfl zM_ ?_;(with_reducible refine (spec_shapeAt.calls _ _ b2 _ _ b0 _ _ a8 _ _ b1 b5 1 i5 _ ?side1 ?side2 ?side3 ?side4 ?side5 ?side6 ?side7 ?side8 A4.out).mono ?_);(case side1 => exact zC_ (Kd.R_reads' b6.out).2.2);(case side2 => exact (Kd.R_reads' b6.out).2.1);(case side3 => exact zC_ (Kd.R_reads' b7.out).2.2);(case side4 => exact (Kd.R_reads' b7.out).2.1);(case side5 => exact zC_ (Kd.R_reads' b9.out).2.2);(case side6 => exact (Kd.R_reads' b9.out).2.1);(case side7 => exact zC_ (Kd.R_reads' b4.out).2.2);(case side8 => exact (Kd.R_reads' b4.out).2.1);rintro e w18 ⟨rfl,hb⟩;refine ⟨_,rfl,?_⟩;have n0_ := As_ (Kd.R_below (zR_ b6.out) hb);have n1_ := As_ (Kd.R_below (zR_ b7.out) hb);have n2_ := As_ (Kd.R_below (zR_ b9.out) hb);have n3_ := As_ (Kd.R_below (zR_ b4.out) hb);have n4_ := As_ (zkb a7.out hb);have n5_ := As_ (zkb b8.out hb);have n6_ := As_ (zkb a9.out hb);have n7_ := As_ (Kept.below (S := (fun k_ => d0 k_ ∨ d5 k_ ∨ d1 k_ ∨ d2 k_)) (zq3 HK.out e5.out e8.out g5.out) hb);have n8_ := As_ (bwT (zb3 HB.out e4.out e6.out g6.out) hb);clear b6 b7 b9 b4 a7 b8 a9 HK HB;revert n0_ n1_ n2_ n3_ n4_ n5_ n6_ n7_ n8_;intro b6 b7 b9 b4 a7 b8 a9 HK HB;have Z3 := i6.out;have Z4 := i7.out;obtain ⟨H4,H5,H6,H7⟩ := bk2 b8.out))
 (try simp only [Act.put,List.setIfInBounds_toArray,List.set_cons_zero,List.set_cons_succ])
 go_cut [8,9] (fun v8 v9 wc => ∃ (kq : Nat) (p2 : Bool) (n1 : Int) (i2 : List Int) (i3 : List Bool) (d3 : List Int) (i4 : List Int) (g9 : Bool) (l5 : Bool) (j6 : Value) (m2 : Value) (j7 : Value) (j8 : Value),v8 = .bool p2 ∧ v9 = .int .i64 n1 ∧ Aside0 (spec_takeShapes.j1 kq p2 n1 i2 i3 d3 i4 g9 = some (r1,r2,r3,r4,r5,r6)) ∧ Aside0 (kq ≤ k) ∧ Aside0 (Kd.R (Kd.int .i64) 3 wc w0.heap.size (fun k_ => ((d0 k_ ∨ d5 k_ ∨ d1 k_ ∨ d2 k_) ∨ w.heap.size ≤ k_) ∧ some k_ ≠ (j7 : Value).ownBlock ∧ some k_ ≠ (j8 : Value).ownBlock) j6 i2) ∧ Aside0 (Kd.R Kd.bool 4 wc w0.heap.size (fun k_ => ((d0 k_ ∨ d5 k_ ∨ d1 k_ ∨ d2 k_) ∨ w.heap.size ≤ k_)) m2 i3) ∧ Aside0 (Kd.R (Kd.int .i64) 3 wc w0.heap.size (fun k_ => ((d0 k_ ∨ d5 k_ ∨ d1 k_ ∨ d2 k_) ∨ w.heap.size ≤ k_) ∧ some k_ ≠ (j6 : Value).ownBlock ∧ some k_ ≠ (j8 : Value).ownBlock) j7 d3) ∧ Aside0 (Kd.R (Kd.int .i64) 3 wc w0.heap.size (fun k_ => ((d0 k_ ∨ d5 k_ ∨ d1 k_ ∨ d2 k_) ∨ w.heap.size ≤ k_) ∧ some k_ ≠ (j6 : Value).ownBlock ∧ some k_ ≠ (j7 : Value).ownBlock) j8 i4) ∧ Aside0 (wc.heap[b3]? = some (.cells #[j6,m2,j7,j8,.bool g9] 120 (0,0))) ∧ Aside0 (wc.heap[j9]? = some (.cells #[.int .i64 d6,.int .i64 i1] 75 (0,0))) ∧ Aside0 (wc.heap[d4]? = some (.cells #[(.slice none 0 0),(.slice none 0 0),(.slice none 0 0),(.slice none 0 0),.bool l5] 120 (0,0))) ∧ Aside0 (Kept w wc (fun k_ => d0 k_ ∨ d5 k_ ∨ d1 k_ ∨ d2 k_)) ∧ Aside0 (Below w0.heap.size w0 wc))
 case first =>
  have H := HC5.out
  clear HC5
  by_cases c21 : d6 = 5
  ·rw [if_pos c21] at H
   have n2 : (d6 == 5) = true := beq_iff_eq.mpr c21
   have t8 : (d6 != 5) = false := bne_eq_false_iff_eq.mpr c21
   clear c21
   (first|rw [n2]|(simp only [i64_w,i32_w];rw [n2])|skip)
   by_cases c22 : d7 ≥ 0
   rotate_left
   ·rw [if_neg c22] at H
    have t9 : decide (0 ≤ d7) = false := deF c22
    clear c22
    simp only [Option.some.injEq,Prod.mk.injEq] at H
    obtain ⟨rfl,rfl,rfl,rfl,rfl,rfl⟩ := H
    have Z5 := g7.out
    have Z6 := e0.out
    have Z7 := g8.out
    have Z8 := d9.out
    have H8 : w18.cell? ⟨b3,0,none⟩ = some (.slice Ao6 b2.length co6) := (bkC a7.out 0).trans rfl
    have H9 : w18.cell? ⟨b3,1,none⟩ = some (.slice Ao7 b0.length co7) := (bkC a7.out 1).trans rfl
    have I0 : w18.cell? ⟨b3,2,none⟩ = some (.slice Ao8 a8.length co8) := (bkC a7.out 2).trans rfl
    have I1 : w18.cell? ⟨b3,3,none⟩ = some (.slice Ao9 b1.length co9) := (bkC a7.out 3).trans rfl
    have I2 : w18.cell? ⟨b3,4,none⟩ = some (.bool b5) := (bkC a7.out 4).trans rfl
    have I3 := bkF a7.out 0
    have I4 := bkF a7.out 1
    have I5 := bkF a7.out 2
    have I6 := bkF a7.out 3
    have I7 := bkF a7.out 4
    have Z9 := i7.out
    have a0a := i6.out
    have I8 : w18.cell? ⟨d4,0,none⟩ = some (.slice none 0 0) := (bkC a9.out 0).trans rfl
    have I9 : w18.cell? ⟨d4,1,none⟩ = some (.slice none 0 0) := (bkC a9.out 1).trans rfl
    have J0 : w18.cell? ⟨d4,2,none⟩ = some (.slice none 0 0) := (bkC a9.out 2).trans rfl
    have J1 : w18.cell? ⟨d4,3,none⟩ = some (.slice none 0 0) := (bkC a9.out 3).trans rfl
    have J2 : w18.cell? ⟨d4,4,none⟩ = some (.bool false) := (bkC a9.out 4).trans rfl
    have J3 := bkF a9.out 0
    have J4 := bkF a9.out 1
    have J5 := bkF a9.out 2
    have J6 := bkF a9.out 3
    have J7 := bkF a9.out 4
    go_wp2
    refine bodyPost_ret (results_ct rfl _ _ d4 120 #[.slice Ao6 b2.length co6,.slice Ao7 b0.length co7,.slice Ao8 a8.length co8,.slice Ao9 b1.length co9,.bool b5] (0,0) _ rfl (p5 a9.out) Try.underlying120 rfl (by kernel_rfl)) rfl ?_
    exact ⟨_,_,_,_,zE_,by exact Kd.R_mono (rX5 b6.out a9.out) (fun _ hk => ⟨hk.1.1,⟨hk.1.2.1,hk.1.2.2⟩⟩),by exact Kd.R_mono (rX5 b7.out a9.out) (fun _ hk => hk.1),by exact Kd.R_mono (rX5 b9.out a9.out) (fun _ hk => ⟨hk.1.1,⟨hk.1.2.1,hk.1.2.2⟩⟩),by exact Kd.R_mono (rX5 b4.out a9.out) (fun _ hk => ⟨hk.1.1,⟨hk.1.2.1,hk.1.2.2⟩⟩),zb3 HB.out e4.out e6.out g6.out,zq3 HK.out e5.out e8.out g5.out⟩
   rw [if_pos c22] at H
   have t9 : decide (0 ≤ d7) = true := deT c22
   clear c22
   obtain ⟨m3,n6⟩ : ∃ j_ : Int,(wrap64 ((a8.length : Int) - 1)) = j_ := ⟨_,rfl⟩
   replace H : (if 0 ≤ (m3) then (if (m3) ≤ (a8.length : Int) then ((spec_pushShape.f b2 b0 (a8.take ((m3) : Int).toNat) b1 b5 2).bind fun e1 => (some (e1.1,e1.2.1,e1.2.2.1,e1.2.2.2.1,e1.2.2.2.2,true))) else (none)) else (none)) = some (r1,r2,r3,r4,r5,r6) := by first|(rw [n6] at H;exact H)|(simp only [n6] at H ⊢;exact H)
   have V1 : (IntKind.i64.wrap ((a8.length : Int) - 1)) = m3 := (i64_w _).trans n6
   by_cases c24 : 0 ≤ (m3)
   rotate_left
   ·rw [if_neg c24] at H
    exact absurd H (by simp)
   rw [if_pos c24] at H
   have a0b := eq_true c24
   have a0c : decide (0 ≤ (m3)) = true := deT c24
   clear c24
   by_cases c25 : (m3) ≤ (a8.length : Int)
   rotate_left
   ·rw [if_neg c25] at H
    exact absurd H (by simp)
   rw [if_pos c25] at H
   have a0d := eq_true c25
   have a0e : decide ((m3) ≤ (a8.length : Int)) = true := deT c25
   clear c25
   obtain ⟨l6,o6⟩ : ∃ y_ : List Int,y_ = (a8.take ((m3) : Int).toNat) := ⟨_,rfl⟩
   replace H : ((spec_pushShape.f b2 b0 l6 b1 b5 2).bind fun e1 => (some (e1.1,e1.2.1,e1.2.2.1,e1.2.2.2.1,e1.2.2.2.2,true))) = some (r1,r2,r3,r4,r5,r6) := zH_ H o6
   have p3 := As_ o6
   clear o6
   replace H := obS H
   obtain ⟨⟨q8,q9,r0,r7,r8⟩,A260,H⟩ := H
   replace H : (some (q8,q9,r0,r7,r8,true)) = some (r1,r2,r3,r4,r5,r6) := H
   have A26 := As_ A260
   clear A260
   simp only [Option.some.injEq,Prod.mk.injEq] at H
   obtain ⟨rfl,rfl,rfl,rfl,rfl,rfl⟩ := H
   have a0f := g7.out
   have a0g := e0.out
   have a0h := g8.out
   have a0i := d9.out
   have J8 : w18.cell? ⟨b3,0,none⟩ = some (.slice Ao6 b2.length co6) := (bkC a7.out 0).trans rfl
   have J9 : w18.cell? ⟨b3,1,none⟩ = some (.slice Ao7 b0.length co7) := (bkC a7.out 1).trans rfl
   have K0 : w18.cell? ⟨b3,2,none⟩ = some (.slice Ao8 a8.length co8) := (bkC a7.out 2).trans rfl
   have K1 : w18.cell? ⟨b3,3,none⟩ = some (.slice Ao9 b1.length co9) := (bkC a7.out 3).trans rfl
   have K2 : w18.cell? ⟨b3,4,none⟩ = some (.bool b5) := (bkC a7.out 4).trans rfl
   have K3 := bkF a7.out 0
   have K4 := bkF a7.out 1
   have K5 := bkF a7.out 2
   have K6 := bkF a7.out 3
   have K7 := bkF a7.out 4
   have q30 : ((m3) : Int) ≤ ((a8.length : Int) : Int) := odT zA_
   obtain ⟨i030,hi030,_,hsz30,_⟩ := info_parts info3
   have hcut30 := cut_to (P := Try.prog) 22 3 .i64 Try.underlying22 hi030 Ao8 a8.length co8 (m3) (odT zA_) q30 (Kd.R_reads' b9.out).2.1
   have hr30 := Kd.R_take (m := ((m3) : Int).toNat) b9.out (by omega)
   have u0 : l6.length = ((m3) : Int).toNat := (by rw [p3.out,List.length_take];omega)
   rw [← p3.out] at hr30
   rw [← u0] at hr30 hcut30
   clear u0 hi030 hsz30 b9
   have j3 := As_ hr30
   clear hr30
   (try simp only [own_len Ao8 a8.length l6.length co8] at b6)
   (try simp only [own_len Ao8 a8.length l6.length co8] at b7)
   (try simp only [own_len Ao8 a8.length l6.length co8] at b4)
   replace q30 := eq_true q30
   go_wp2_with (first|((with_reducible refine gate_store (t := 22) (p := 30) rfl ?_);refine store_event (t := 22) (p := 30) (v := ?vo_w31) (w1 := (w18.setCell ⟨b3,2,none⟩ (.slice Ao8 l6.length co8))) ?hg ?ho ?hn ?hr ?_;(case ho => rfl);(case hg => rfl);(case hn => rfl);(case hr => go_simp <;> rfl);intro w31 hw;have n0_ : Aside0 (Kd.R (Kd.int .i64) 3 w31 w0.heap.size (fun k_ => ((d0 k_ ∨ d5 k_ ∨ d1 k_ ∨ d2 k_) ∨ w.heap.size ≤ k_) ∧ some k_ ≠ (.slice Ao8 l6.length co8 : Value).ownBlock ∧ some k_ ≠ (.slice Ao9 b1.length co9 : Value).ownBlock) (.slice Ao6 b2.length co6) b2) := ⟨(by rw [hw];exact (by exact Kd.R_mono (rX1 b6.out a7.out 2) (fun _ hk => ⟨hk.1.1,⟨hk.1.2.1,hk.1.2.2⟩⟩)))⟩;have n1_ : Aside0 (Kd.R Kd.bool 4 w31 w0.heap.size (fun k_ => ((d0 k_ ∨ d5 k_ ∨ d1 k_ ∨ d2 k_) ∨ w.heap.size ≤ k_)) (.slice Ao7 b0.length co7) b0) := ⟨(by rw [hw];exact (by exact Kd.R_mono (rX1 b7.out a7.out 2) (fun _ hk => hk.1)))⟩;have n2_ : Aside0 (Kd.R (Kd.int .i64) 3 w31 w0.heap.size (fun k_ => ((d0 k_ ∨ d5 k_ ∨ d1 k_ ∨ d2 k_) ∨ w.heap.size ≤ k_) ∧ some k_ ≠ (.slice Ao6 b2.length co6 : Value).ownBlock ∧ some k_ ≠ (.slice Ao9 b1.length co9 : Value).ownBlock) (.slice Ao8 l6.length co8) l6) := ⟨(by rw [hw];exact (by exact Kd.R_mono (rX1 j3.out a7.out 2) (fun _ hk => ⟨hk.1.1,⟨hk.1.2.1,hk.1.2.2⟩⟩)))⟩;have n3_ : Aside0 (Kd.R (Kd.int .i64) 3 w31 w0.heap.size (fun k_ => ((d0 k_ ∨ d5 k_ ∨ d1 k_ ∨ d2 k_) ∨ w.heap.size ≤ k_) ∧ some k_ ≠ (.slice Ao6 b2.length co6 : Value).ownBlock ∧ some k_ ≠ (.slice Ao8 l6.length co8 : Value).ownBlock) (.slice Ao9 b1.length co9) b1) := ⟨(by rw [hw];exact (by exact Kd.R_mono (rX1 b4.out a7.out 2) (fun _ hk => ⟨hk.1.1,⟨hk.1.2.1,hk.1.2.2⟩⟩)))⟩;have n4_ : Aside0 (w31.heap[b3]? = some (.cells #[.slice Ao6 b2.length co6,.slice Ao7 b0.length co7,.slice Ao8 l6.length co8,.slice Ao9 b1.length co9,.bool b5] 120 (0,0))) := ⟨(by rw [hw];exact (by refine blk_put (cs := #[.slice Ao6 b2.length co6,.slice Ao7 b0.length co7,.slice Ao8 a8.length co8,.slice Ao9 b1.length co9,.bool b5]) ?_ 2 _ rfl;exact a7.out))⟩;have n5_ : Aside0 (w31.heap[j9]? = some (.cells #[.int .i64 d6,.int .i64 i1] 75 (0,0))) := ⟨(by rw [hw];exact (by refine blk_far ?_ e0.out _;exact b8.out))⟩;have n6_ : Aside0 (w31.heap[d4]? = some (.cells #[.slice none 0 0,.slice none 0 0,.slice none 0 0,.slice none 0 0,.bool false] 120 (0,0))) := ⟨(by rw [hw];exact (by refine blk_far ?_ d9.out _;exact a9.out))⟩;have n7_ : Aside0 (Kept w w31 (fun k_ => d0 k_ ∨ d5 k_ ∨ d1 k_ ∨ d2 k_)) := ⟨(by rw [hw];exact (zq3 HK.out e5.out e8.out g5.out))⟩;have n8_ : Aside0 (Below w0.heap.size w0 w31) := ⟨(by rw [hw];exact (zb3 HB.out e4.out e6.out g6.out))⟩;clear hw b6 b7 j3 b4 a7 b8 a9 HK HB;revert n0_ n1_ n2_ n3_ n4_ n5_ n6_ n7_ n8_;intro b6 b7 j3 b4 a7 b8 a9 HK HB;have K8 : w31.cell? ⟨b3,0,none⟩ = some (.slice Ao6 b2.length co6) := (bkC a7.out 0).trans rfl;have K9 : w31.cell? ⟨b3,1,none⟩ = some (.slice Ao7 b0.length co7) := (bkC a7.out 1).trans rfl;have L0 : w31.cell? ⟨b3,2,none⟩ = some (.slice Ao8 l6.length co8) := (bkC a7.out 2).trans rfl;have L1 : w31.cell? ⟨b3,3,none⟩ = some (.slice Ao9 b1.length co9) := (bkC a7.out 3).trans rfl;have L2 : w31.cell? ⟨b3,4,none⟩ = some (.bool b5) := (bkC a7.out 4).trans rfl;have L3 := bkF a7.out 0;have L4 := bkF a7.out 1;have L5 := bkF a7.out 2;have L6 := bkF a7.out 3;have L7 := bkF a7.out 4)|((with_reducible refine gate_callee (f := 123) rfl ?_);refine goesL_ (some 32) rfl rfl Try.func123 (by kernel_rfl) rfl #[.agg #[.slice Ao6 b2.length co6,.slice Ao7 b0.length co7,.slice Ao8 l6.length co8,.slice Ao9 b1.length co9,.bool b5],.int .i64 2] rfl zM_ ?_;(with_reducible refine (spec_pushShape.calls (fun k_ => some k_ = (.slice Ao6 b2.length co6 : Value).ownBlock) (.slice Ao6 b2.length co6) b2 (fun k_ => some k_ = (.slice Ao7 b0.length co7 : Value).ownBlock) (.slice Ao7 b0.length co7) b0 (fun k_ => some k_ = (.slice Ao8 l6.length co8 : Value).ownBlock) (.slice Ao8 l6.length co8) l6 (fun k_ => some k_ = (.slice Ao9 b1.length co9 : Value).ownBlock) (.slice Ao9 b1.length co9) b1 b5 2 q8 q9 r0 r7 r8 w0 _ ?side1 ?side2 ?side3 ?side4 ?side5 ?side6 ?side7 ?side8 ?side9 ?side10 ?side11 A26.out).mono ?_);(case side1 => exact zb3 HB.out e4.out e6.out g6.out);(case side2 => exact Kd.R_tight rfl b6.out);(case side3 => exact fun k_ e_ => (b6.out.1 k_ e_.symm).2.1);(case side4 => exact fun k_ e_ => (b6.out.1 k_ e_.symm).2.2);(case side5 => exact Kd.R_tight rfl b7.out);(case side6 => exact Kd.R_tight rfl j3.out);(case side7 => exact fun k_ e_ => (j3.out.1 k_ e_.symm).2.1);(case side8 => exact fun k_ e_ => (j3.out.1 k_ e_.symm).2.2);(case side9 => exact Kd.R_tight rfl b4.out);(case side10 => exact fun k_ e_ => (b4.out.1 k_ e_.symm).2.1);(case side11 => exact fun k_ e_ => (b4.out.1 k_ e_.symm).2.2);rintro e w33 ⟨v713,v716,v719,v722,rfl,ho0,ho1,ho2,ho3,hb,hkp⟩;refine ⟨_,rfl,?_⟩;have n0_ := As_ (blk_kept (zk_ a7.out) hkp (no4 ⟨rne b6.out a7.out,rne b7.out a7.out,rne j3.out a7.out,rne b4.out a7.out⟩));have n1_ := As_ (blk_kept (zk_ b8.out) hkp (no4 ⟨rne b6.out b8.out,rne b7.out b8.out,rne j3.out b8.out,rne b4.out b8.out⟩));have n2_ := As_ (blk_kept (zk_ a9.out) hkp (no4 ⟨rne b6.out a9.out,rne b7.out a9.out,rne j3.out a9.out,rne b4.out a9.out⟩));have n3_ := As_ (Kd.R_mono (ok' := fun k_ => ((d0 k_ ∨ d5 k_ ∨ d1 k_ ∨ d2 k_) ∨ w.heap.size ≤ k_) ∧ some k_ ≠ (v719 : Value).ownBlock ∧ some k_ ≠ (v722 : Value).ownBlock) ho0 (fun k_ hk_ => ⟨Or.elim hk_.1 (or4 (fun hs_ => (b6.out.1 k_ (hs_).symm).1) (fun hs_ => (b7.out.1 k_ (hs_).symm)) (fun hs_ => (j3.out.1 k_ (hs_).symm).1) (fun hs_ => (b4.out.1 k_ (hs_).symm).1)) (fun hn_ => (.inr (Nat.le_trans (kz HK.out) hn_))),hk_.2.1,hk_.2.2⟩));have n4_ := As_ (Kd.R_mono (ok' := fun k_ => ((d0 k_ ∨ d5 k_ ∨ d1 k_ ∨ d2 k_) ∨ w.heap.size ≤ k_)) ho1 (fun k_ hk_ => Or.elim hk_ (or4 (fun hs_ => (b6.out.1 k_ (hs_).symm).1) (fun hs_ => (b7.out.1 k_ (hs_).symm)) (fun hs_ => (j3.out.1 k_ (hs_).symm).1) (fun hs_ => (b4.out.1 k_ (hs_).symm).1)) (fun hn_ => (.inr (Nat.le_trans (kz HK.out) hn_)))));have n5_ := As_ (Kd.R_mono (ok' := fun k_ => ((d0 k_ ∨ d5 k_ ∨ d1 k_ ∨ d2 k_) ∨ w.heap.size ≤ k_) ∧ some k_ ≠ (v713 : Value).ownBlock ∧ some k_ ≠ (v722 : Value).ownBlock) ho2 (fun k_ hk_ => ⟨Or.elim hk_.1 (or4 (fun hs_ => (b6.out.1 k_ (hs_).symm).1) (fun hs_ => (b7.out.1 k_ (hs_).symm)) (fun hs_ => (j3.out.1 k_ (hs_).symm).1) (fun hs_ => (b4.out.1 k_ (hs_).symm).1)) (fun hn_ => (.inr (Nat.le_trans (kz HK.out) hn_))),hk_.2.1,hk_.2.2⟩));have n6_ := As_ (Kd.R_mono (ok' := fun k_ => ((d0 k_ ∨ d5 k_ ∨ d1 k_ ∨ d2 k_) ∨ w.heap.size ≤ k_) ∧ some k_ ≠ (v713 : Value).ownBlock ∧ some k_ ≠ (v719 : Value).ownBlock) ho3 (fun k_ hk_ => ⟨Or.elim hk_.1 (or4 (fun hs_ => (b6.out.1 k_ (hs_).symm).1) (fun hs_ => (b7.out.1 k_ (hs_).symm)) (fun hs_ => (j3.out.1 k_ (hs_).symm).1) (fun hs_ => (b4.out.1 k_ (hs_).symm).1)) (fun hn_ => (.inr (Nat.le_trans (kz HK.out) hn_))),hk_.2.1,hk_.2.2⟩));have n7_ := As_ (Kept.then_ (S := (fun k_ => d0 k_ ∨ d5 k_ ∨ d1 k_ ∨ d2 k_)) (zq3 HK.out e5.out e8.out g5.out) hkp (fun k_ hs_ => Or.elim hs_ (fun e_ => (fun e_ => (b6.out.1 k_ e_.symm).1) e_) (fun e_ => Or.elim e_ (fun e_ => (fun e_ => (b7.out.1 k_ e_.symm)) e_) (fun e_ => Or.elim e_ (fun e_ => (fun e_ => (j3.out.1 k_ e_.symm).1) e_) (fun e_ => (fun e_ => (b4.out.1 k_ e_.symm).1) e_)))));have n8_ := As_ (hb);clear a7 b8 a9 HK HB b6 b7 b4 j3;revert n0_ n1_ n2_ n3_ n4_ n5_ n6_ n7_ n8_;intro a7 b8 a9 p4 p6 p7 p8 HK HB;obtain ⟨Ao34,co34,eo34⟩ := Kd.R_slice p4.out;subst eo34;have a0j := i7.out;have a0k := i6.out;have L8 : w33.cell? ⟨d4,0,none⟩ = some (.slice none 0 0) := (bkC a9.out 0).trans rfl;have L9 : w33.cell? ⟨d4,1,none⟩ = some (.slice none 0 0) := (bkC a9.out 1).trans rfl;have M0 : w33.cell? ⟨d4,2,none⟩ = some (.slice none 0 0) := (bkC a9.out 2).trans rfl;have M1 : w33.cell? ⟨d4,3,none⟩ = some (.slice none 0 0) := (bkC a9.out 3).trans rfl;have M2 : w33.cell? ⟨d4,4,none⟩ = some (.bool false) := (bkC a9.out 4).trans rfl;have M3 := bkF a9.out 0;have M4 := bkF a9.out 1;have M5 := bkF a9.out 2;have M6 := bkF a9.out 3;have M7 := bkF a9.out 4;obtain ⟨Ao37,co37,eo37⟩ := Kd.R_slice p6.out;subst eo37;obtain ⟨Ao38,co38,eo38⟩ := Kd.R_slice p7.out;subst eo38;obtain ⟨Ao39,co39,eo39⟩ := Kd.R_slice p8.out;subst eo39))
   refine bodyPost_ret (results_ct rfl _ _ d4 120 #[.slice Ao34 q8.length co34,.slice Ao37 q9.length co37,.slice Ao38 r0.length co38,.slice Ao39 r7.length co39,.bool r8] (0,0) _ rfl (p5 a9.out) Try.underlying120 rfl (by kernel_rfl)) rfl ?_
   exact ⟨_,_,_,_,by first|rfl|(simp [errW_none,errW_some] <;> rfl)|(simp only [← n6];first|rfl|(simp [errW_none,errW_some] <;> rfl))|(simp [*,errW_none,errW_some] <;> rfl),by exact Kd.R_mono (rX5 p4.out a9.out) (fun _ hk => ⟨hk.1.1,⟨hk.1.2.1,hk.1.2.2⟩⟩),by exact Kd.R_mono (rX5 p6.out a9.out) (fun _ hk => hk.1),by exact Kd.R_mono (rX5 p7.out a9.out) (fun _ hk => ⟨hk.1.1,⟨hk.1.2.1,hk.1.2.2⟩⟩),by exact Kd.R_mono (rX5 p8.out a9.out) (fun _ hk => ⟨hk.1.1,⟨hk.1.2.1,hk.1.2.2⟩⟩),zb3 HB.out e4.out e6.out g6.out,zq3 HK.out e5.out e8.out g5.out⟩
  rw [if_neg c21] at H
  have n2 : (d6 == 5) = false := beq_eq_false_iff_ne.mpr c21
  have t8 : (d6 != 5) = true := bne_iff_ne.mpr c21
  (first|rw [n2]|(simp only [i64_w,i32_w];rw [n2])|skip)
  by_cases c45 : d6 = 6
  ·rw [if_pos c45] at H
   have u1 : (d6 == 6) = true := beq_iff_eq.mpr c45
   have u2 : (d6 != 6) = false := bne_eq_false_iff_eq.mpr c45
   clear c45
   by_cases c46 : d7 ≥ 0
   rotate_left
   ·rw [if_neg c46] at H
    have u3 : decide (0 ≤ d7) = false := deF c46
    clear c46
    simp only [Option.some.injEq,Prod.mk.injEq] at H
    obtain ⟨rfl,rfl,rfl,rfl,rfl,rfl⟩ := H
    have a0l := g7.out
    have a0m := e0.out
    have a0n := g8.out
    have a0o := d9.out
    have M8 : w18.cell? ⟨b3,0,none⟩ = some (.slice Ao6 b2.length co6) := (bkC a7.out 0).trans rfl
    have M9 : w18.cell? ⟨b3,1,none⟩ = some (.slice Ao7 b0.length co7) := (bkC a7.out 1).trans rfl
    have N0 : w18.cell? ⟨b3,2,none⟩ = some (.slice Ao8 a8.length co8) := (bkC a7.out 2).trans rfl
    have N1 : w18.cell? ⟨b3,3,none⟩ = some (.slice Ao9 b1.length co9) := (bkC a7.out 3).trans rfl
    have N2 : w18.cell? ⟨b3,4,none⟩ = some (.bool b5) := (bkC a7.out 4).trans rfl
    have N3 := bkF a7.out 0
    have N4 := bkF a7.out 1
    have N5 := bkF a7.out 2
    have N6 := bkF a7.out 3
    have N7 := bkF a7.out 4
    have a0p := i7.out
    have a0q := i6.out
    have N8 : w18.cell? ⟨d4,0,none⟩ = some (.slice none 0 0) := (bkC a9.out 0).trans rfl
    have N9 : w18.cell? ⟨d4,1,none⟩ = some (.slice none 0 0) := (bkC a9.out 1).trans rfl
    have O0 : w18.cell? ⟨d4,2,none⟩ = some (.slice none 0 0) := (bkC a9.out 2).trans rfl
    have O1 : w18.cell? ⟨d4,3,none⟩ = some (.slice none 0 0) := (bkC a9.out 3).trans rfl
    have O2 : w18.cell? ⟨d4,4,none⟩ = some (.bool false) := (bkC a9.out 4).trans rfl
    have O3 := bkF a9.out 0
    have O4 := bkF a9.out 1
    have O5 := bkF a9.out 2
    have O6 := bkF a9.out 3
    have O7 := bkF a9.out 4
    go_wp2
    refine bodyPost_ret (results_ct rfl _ _ d4 120 #[.slice Ao6 b2.length co6,.slice Ao7 b0.length co7,.slice Ao8 a8.length co8,.slice Ao9 b1.length co9,.bool b5] (0,0) _ rfl (p5 a9.out) Try.underlying120 rfl (by kernel_rfl)) rfl ?_
    exact ⟨_,_,_,_,zE_,by exact Kd.R_mono (rX5 b6.out a9.out) (fun _ hk => ⟨hk.1.1,⟨hk.1.2.1,hk.1.2.2⟩⟩),by exact Kd.R_mono (rX5 b7.out a9.out) (fun _ hk => hk.1),by exact Kd.R_mono (rX5 b9.out a9.out) (fun _ hk => ⟨hk.1.1,⟨hk.1.2.1,hk.1.2.2⟩⟩),by exact Kd.R_mono (rX5 b4.out a9.out) (fun _ hk => ⟨hk.1.1,⟨hk.1.2.1,hk.1.2.2⟩⟩),zb3 HB.out e4.out e6.out g6.out,zq3 HK.out e5.out e8.out g5.out⟩
   rw [if_pos c46] at H
   have u3 : decide (0 ≤ d7) = true := deT c46
   clear c46
   by_cases c47 : i5 < 0
   ·rw [if_pos c47] at H
    have u4 : decide (i5 < 0) = true := deT c47
    clear c47
    simp only [Option.some.injEq,Prod.mk.injEq] at H
    obtain ⟨rfl,rfl,rfl,rfl,rfl,rfl⟩ := H
    have a0r := g7.out
    have a0s := e0.out
    have a0t := g8.out
    have a0u := d9.out
    have O8 : w18.cell? ⟨b3,0,none⟩ = some (.slice Ao6 b2.length co6) := (bkC a7.out 0).trans rfl
    have O9 : w18.cell? ⟨b3,1,none⟩ = some (.slice Ao7 b0.length co7) := (bkC a7.out 1).trans rfl
    have P0 : w18.cell? ⟨b3,2,none⟩ = some (.slice Ao8 a8.length co8) := (bkC a7.out 2).trans rfl
    have P1 : w18.cell? ⟨b3,3,none⟩ = some (.slice Ao9 b1.length co9) := (bkC a7.out 3).trans rfl
    have P2 : w18.cell? ⟨b3,4,none⟩ = some (.bool b5) := (bkC a7.out 4).trans rfl
    have P3 := bkF a7.out 0
    have P4 := bkF a7.out 1
    have P5 := bkF a7.out 2
    have P6 := bkF a7.out 3
    have P7 := bkF a7.out 4
    have a0v := i7.out
    have a0w := i6.out
    have P8 : w18.cell? ⟨d4,0,none⟩ = some (.slice none 0 0) := (bkC a9.out 0).trans rfl
    have P9 : w18.cell? ⟨d4,1,none⟩ = some (.slice none 0 0) := (bkC a9.out 1).trans rfl
    have Q0 : w18.cell? ⟨d4,2,none⟩ = some (.slice none 0 0) := (bkC a9.out 2).trans rfl
    have Q1 : w18.cell? ⟨d4,3,none⟩ = some (.slice none 0 0) := (bkC a9.out 3).trans rfl
    have Q2 : w18.cell? ⟨d4,4,none⟩ = some (.bool false) := (bkC a9.out 4).trans rfl
    have Q3 := bkF a9.out 0
    have Q4 := bkF a9.out 1
    have Q5 := bkF a9.out 2
    have Q6 := bkF a9.out 3
    have Q7 := bkF a9.out 4
    go_wp2
    refine bodyPost_ret (results_ct rfl _ _ d4 120 #[.slice Ao6 b2.length co6,.slice Ao7 b0.length co7,.slice Ao8 a8.length co8,.slice Ao9 b1.length co9,.bool b5] (0,0) _ rfl (p5 a9.out) Try.underlying120 rfl (by kernel_rfl)) rfl ?_
    exact ⟨_,_,_,_,zE_,by exact Kd.R_mono (rX5 b6.out a9.out) (fun _ hk => ⟨hk.1.1,⟨hk.1.2.1,hk.1.2.2⟩⟩),by exact Kd.R_mono (rX5 b7.out a9.out) (fun _ hk => hk.1),by exact Kd.R_mono (rX5 b9.out a9.out) (fun _ hk => ⟨hk.1.1,⟨hk.1.2.1,hk.1.2.2⟩⟩),by exact Kd.R_mono (rX5 b4.out a9.out) (fun _ hk => ⟨hk.1.1,⟨hk.1.2.1,hk.1.2.2⟩⟩),zb3 HB.out e4.out e6.out g6.out,zq3 HK.out e5.out e8.out g5.out⟩
   rw [if_neg c47] at H
   have u4 : decide (i5 < 0) = false := deF c47
   clear c47
   obtain ⟨m4,n7⟩ : ∃ j_ : Int,(wrap64 ((a8.length : Int) - 2)) = j_ := ⟨_,rfl⟩
   replace H : (if 0 ≤ (m4) then (if (m4) ≤ (a8.length : Int) then ((spec_pushShape.f b2 b0 (a8.take ((m4) : Int).toNat) b1 b5 2).bind fun e2 => (some (e2.1,e2.2.1,e2.2.2.1,e2.2.2.2.1,e2.2.2.2.2,true))) else (none)) else (none)) = some (r1,r2,r3,r4,r5,r6) := by first|(rw [n7] at H;exact H)|(simp only [n7] at H ⊢;exact H)
   have V2 : (IntKind.i64.wrap ((a8.length : Int) - 2)) = m4 := (i64_w _).trans n7
   by_cases c54 : 0 ≤ (m4)
   rotate_left
   ·rw [if_neg c54] at H
    exact absurd H (by simp)
   rw [if_pos c54] at H
   have a0x := eq_true c54
   have a0y : decide (0 ≤ (m4)) = true := deT c54
   clear c54
   by_cases c55 : (m4) ≤ (a8.length : Int)
   rotate_left
   ·rw [if_neg c55] at H
    exact absurd H (by simp)
   rw [if_pos c55] at H
   have a0z := eq_true c55
   have a0A : decide ((m4) ≤ (a8.length : Int)) = true := deT c55
   clear c55
   obtain ⟨l7,o7⟩ : ∃ y_ : List Int,y_ = (a8.take ((m4) : Int).toNat) := ⟨_,rfl⟩
   replace H : ((spec_pushShape.f b2 b0 l7 b1 b5 2).bind fun e2 => (some (e2.1,e2.2.1,e2.2.2.1,e2.2.2.2.1,e2.2.2.2.2,true))) = some (r1,r2,r3,r4,r5,r6) := zH_ H o7
   have p9 := As_ o7
   clear o7
   replace H := obS H
   obtain ⟨⟨r9,s8,s9,t0,t1⟩,A560,H⟩ := H
   replace H : (some (r9,s8,s9,t0,t1,true)) = some (r1,r2,r3,r4,r5,r6) := H
   have A56 := As_ A560
   clear A560
   simp only [Option.some.injEq,Prod.mk.injEq] at H
   obtain ⟨rfl,rfl,rfl,rfl,rfl,rfl⟩ := H
   have a0B := g7.out
   have a0C := e0.out
   have a0D := g8.out
   have a0E := d9.out
   have Q8 : w18.cell? ⟨b3,0,none⟩ = some (.slice Ao6 b2.length co6) := (bkC a7.out 0).trans rfl
   have Q9 : w18.cell? ⟨b3,1,none⟩ = some (.slice Ao7 b0.length co7) := (bkC a7.out 1).trans rfl
   have R0 : w18.cell? ⟨b3,2,none⟩ = some (.slice Ao8 a8.length co8) := (bkC a7.out 2).trans rfl
   have R1 : w18.cell? ⟨b3,3,none⟩ = some (.slice Ao9 b1.length co9) := (bkC a7.out 3).trans rfl
   have R2 : w18.cell? ⟨b3,4,none⟩ = some (.bool b5) := (bkC a7.out 4).trans rfl
   have R3 := bkF a7.out 0
   have R4 := bkF a7.out 1
   have R5 := bkF a7.out 2
   have R6 := bkF a7.out 3
   have R7 := bkF a7.out 4
   have q60 : ((m4) : Int) ≤ ((a8.length : Int) : Int) := odT zA_
   obtain ⟨i060,hi060,_,hsz60,_⟩ := info_parts info3
   have hcut60 := cut_to (P := Try.prog) 22 3 .i64 Try.underlying22 hi060 Ao8 a8.length co8 (m4) (odT zA_) q60 (Kd.R_reads' b9.out).2.1
   have hr60 := Kd.R_take (m := ((m4) : Int).toNat) b9.out (by omega)
   have u5 : l7.length = ((m4) : Int).toNat := (by rw [p9.out,List.length_take];omega)
   rw [← p9.out] at hr60
   rw [← u5] at hr60 hcut60
   clear u5 hi060 hsz60 b9
   have j4 := As_ hr60
   clear hr60
   (try simp only [own_len Ao8 a8.length l7.length co8] at b6)
   (try simp only [own_len Ao8 a8.length l7.length co8] at b7)
   (try simp only [own_len Ao8 a8.length l7.length co8] at b4)
   replace q60 := eq_true q60
   go_wp2_with (first|((with_reducible refine gate_store (t := 22) (p := 49) rfl ?_);refine store_event (t := 22) (p := 49) (v := ?vo_w61) (w1 := (w18.setCell ⟨b3,2,none⟩ (.slice Ao8 l7.length co8))) ?hg ?ho ?hn ?hr ?_;(case ho => rfl);(case hg => rfl);(case hn => rfl);(case hr => go_simp <;> rfl);intro w61 hw;have n0_ : Aside0 (Kd.R (Kd.int .i64) 3 w61 w0.heap.size (fun k_ => ((d0 k_ ∨ d5 k_ ∨ d1 k_ ∨ d2 k_) ∨ w.heap.size ≤ k_) ∧ some k_ ≠ (.slice Ao8 l7.length co8 : Value).ownBlock ∧ some k_ ≠ (.slice Ao9 b1.length co9 : Value).ownBlock) (.slice Ao6 b2.length co6) b2) := ⟨(by rw [hw];exact (by exact Kd.R_mono (rX1 b6.out a7.out 2) (fun _ hk => ⟨hk.1.1,⟨hk.1.2.1,hk.1.2.2⟩⟩)))⟩;have n1_ : Aside0 (Kd.R Kd.bool 4 w61 w0.heap.size (fun k_ => ((d0 k_ ∨ d5 k_ ∨ d1 k_ ∨ d2 k_) ∨ w.heap.size ≤ k_)) (.slice Ao7 b0.length co7) b0) := ⟨(by rw [hw];exact (by exact Kd.R_mono (rX1 b7.out a7.out 2) (fun _ hk => hk.1)))⟩;have n2_ : Aside0 (Kd.R (Kd.int .i64) 3 w61 w0.heap.size (fun k_ => ((d0 k_ ∨ d5 k_ ∨ d1 k_ ∨ d2 k_) ∨ w.heap.size ≤ k_) ∧ some k_ ≠ (.slice Ao6 b2.length co6 : Value).ownBlock ∧ some k_ ≠ (.slice Ao9 b1.length co9 : Value).ownBlock) (.slice Ao8 l7.length co8) l7) := ⟨(by rw [hw];exact (by exact Kd.R_mono (rX1 j4.out a7.out 2) (fun _ hk => ⟨hk.1.1,⟨hk.1.2.1,hk.1.2.2⟩⟩)))⟩;have n3_ : Aside0 (Kd.R (Kd.int .i64) 3 w61 w0.heap.size (fun k_ => ((d0 k_ ∨ d5 k_ ∨ d1 k_ ∨ d2 k_) ∨ w.heap.size ≤ k_) ∧ some k_ ≠ (.slice Ao6 b2.length co6 : Value).ownBlock ∧ some k_ ≠ (.slice Ao8 l7.length co8 : Value).ownBlock) (.slice Ao9 b1.length co9) b1) := ⟨(by rw [hw];exact (by exact Kd.R_mono (rX1 b4.out a7.out 2) (fun _ hk => ⟨hk.1.1,⟨hk.1.2.1,hk.1.2.2⟩⟩)))⟩;have n4_ : Aside0 (w61.heap[b3]? = some (.cells #[.slice Ao6 b2.length co6,.slice Ao7 b0.length co7,.slice Ao8 l7.length co8,.slice Ao9 b1.length co9,.bool b5] 120 (0,0))) := ⟨(by rw [hw];exact (by refine blk_put (cs := #[.slice Ao6 b2.length co6,.slice Ao7 b0.length co7,.slice Ao8 a8.length co8,.slice Ao9 b1.length co9,.bool b5]) ?_ 2 _ rfl;exact a7.out))⟩;have n5_ : Aside0 (w61.heap[j9]? = some (.cells #[.int .i64 d6,.int .i64 i1] 75 (0,0))) := ⟨(by rw [hw];exact (by refine blk_far ?_ e0.out _;exact b8.out))⟩;have n6_ : Aside0 (w61.heap[d4]? = some (.cells #[.slice none 0 0,.slice none 0 0,.slice none 0 0,.slice none 0 0,.bool false] 120 (0,0))) := ⟨(by rw [hw];exact (by refine blk_far ?_ d9.out _;exact a9.out))⟩;have n7_ : Aside0 (Kept w w61 (fun k_ => d0 k_ ∨ d5 k_ ∨ d1 k_ ∨ d2 k_)) := ⟨(by rw [hw];exact (zq3 HK.out e5.out e8.out g5.out))⟩;have n8_ : Aside0 (Below w0.heap.size w0 w61) := ⟨(by rw [hw];exact (zb3 HB.out e4.out e6.out g6.out))⟩;clear hw b6 b7 j4 b4 a7 b8 a9 HK HB;revert n0_ n1_ n2_ n3_ n4_ n5_ n6_ n7_ n8_;intro b6 b7 j4 b4 a7 b8 a9 HK HB;have R8 : w61.cell? ⟨b3,0,none⟩ = some (.slice Ao6 b2.length co6) := (bkC a7.out 0).trans rfl;have R9 : w61.cell? ⟨b3,1,none⟩ = some (.slice Ao7 b0.length co7) := (bkC a7.out 1).trans rfl;have S0 : w61.cell? ⟨b3,2,none⟩ = some (.slice Ao8 l7.length co8) := (bkC a7.out 2).trans rfl;have S1 : w61.cell? ⟨b3,3,none⟩ = some (.slice Ao9 b1.length co9) := (bkC a7.out 3).trans rfl;have S3 : w61.cell? ⟨b3,4,none⟩ = some (.bool b5) := (bkC a7.out 4).trans rfl;have S4 := bkF a7.out 0;have S5 := bkF a7.out 1;have S6 := bkF a7.out 2;have S7 := bkF a7.out 3;have S8 := bkF a7.out 4)|((with_reducible refine gate_callee (f := 123) rfl ?_);refine goesL_ (some 51) rfl rfl Try.func123 (by kernel_rfl) rfl #[.agg #[.slice Ao6 b2.length co6,.slice Ao7 b0.length co7,.slice Ao8 l7.length co8,.slice Ao9 b1.length co9,.bool b5],.int .i64 2] rfl zM_ ?_;(with_reducible refine (spec_pushShape.calls (fun k_ => some k_ = (.slice Ao6 b2.length co6 : Value).ownBlock) (.slice Ao6 b2.length co6) b2 (fun k_ => some k_ = (.slice Ao7 b0.length co7 : Value).ownBlock) (.slice Ao7 b0.length co7) b0 (fun k_ => some k_ = (.slice Ao8 l7.length co8 : Value).ownBlock) (.slice Ao8 l7.length co8) l7 (fun k_ => some k_ = (.slice Ao9 b1.length co9 : Value).ownBlock) (.slice Ao9 b1.length co9) b1 b5 2 r9 s8 s9 t0 t1 w0 _ ?side1 ?side2 ?side3 ?side4 ?side5 ?side6 ?side7 ?side8 ?side9 ?side10 ?side11 A56.out).mono ?_);(case side1 => exact zb3 HB.out e4.out e6.out g6.out);(case side2 => exact Kd.R_tight rfl b6.out);(case side3 => exact fun k_ e_ => (b6.out.1 k_ e_.symm).2.1);(case side4 => exact fun k_ e_ => (b6.out.1 k_ e_.symm).2.2);(case side5 => exact Kd.R_tight rfl b7.out);(case side6 => exact Kd.R_tight rfl j4.out);(case side7 => exact fun k_ e_ => (j4.out.1 k_ e_.symm).2.1);(case side8 => exact fun k_ e_ => (j4.out.1 k_ e_.symm).2.2);(case side9 => exact Kd.R_tight rfl b4.out);(case side10 => exact fun k_ e_ => (b4.out.1 k_ e_.symm).2.1);(case side11 => exact fun k_ e_ => (b4.out.1 k_ e_.symm).2.2);rintro e w63 ⟨v729,v732,v735,v738,rfl,ho0,ho1,ho2,ho3,hb,hkp⟩;refine ⟨_,rfl,?_⟩;have n0_ := As_ (blk_kept (zk_ a7.out) hkp (no4 ⟨rne b6.out a7.out,rne b7.out a7.out,rne j4.out a7.out,rne b4.out a7.out⟩));have n1_ := As_ (blk_kept (zk_ b8.out) hkp (no4 ⟨rne b6.out b8.out,rne b7.out b8.out,rne j4.out b8.out,rne b4.out b8.out⟩));have n2_ := As_ (blk_kept (zk_ a9.out) hkp (no4 ⟨rne b6.out a9.out,rne b7.out a9.out,rne j4.out a9.out,rne b4.out a9.out⟩));have n3_ := As_ (Kd.R_mono (ok' := fun k_ => ((d0 k_ ∨ d5 k_ ∨ d1 k_ ∨ d2 k_) ∨ w.heap.size ≤ k_) ∧ some k_ ≠ (v735 : Value).ownBlock ∧ some k_ ≠ (v738 : Value).ownBlock) ho0 (fun k_ hk_ => ⟨Or.elim hk_.1 (or4 (fun hs_ => (b6.out.1 k_ (hs_).symm).1) (fun hs_ => (b7.out.1 k_ (hs_).symm)) (fun hs_ => (j4.out.1 k_ (hs_).symm).1) (fun hs_ => (b4.out.1 k_ (hs_).symm).1)) (fun hn_ => (.inr (Nat.le_trans (kz HK.out) hn_))),hk_.2.1,hk_.2.2⟩));have n4_ := As_ (Kd.R_mono (ok' := fun k_ => ((d0 k_ ∨ d5 k_ ∨ d1 k_ ∨ d2 k_) ∨ w.heap.size ≤ k_)) ho1 (fun k_ hk_ => Or.elim hk_ (or4 (fun hs_ => (b6.out.1 k_ (hs_).symm).1) (fun hs_ => (b7.out.1 k_ (hs_).symm)) (fun hs_ => (j4.out.1 k_ (hs_).symm).1) (fun hs_ => (b4.out.1 k_ (hs_).symm).1)) (fun hn_ => (.inr (Nat.le_trans (kz HK.out) hn_)))));have n5_ := As_ (Kd.R_mono (ok' := fun k_ => ((d0 k_ ∨ d5 k_ ∨ d1 k_ ∨ d2 k_) ∨ w.heap.size ≤ k_) ∧ some k_ ≠ (v729 : Value).ownBlock ∧ some k_ ≠ (v738 : Value).ownBlock) ho2 (fun k_ hk_ => ⟨Or.elim hk_.1 (or4 (fun hs_ => (b6.out.1 k_ (hs_).symm).1) (fun hs_ => (b7.out.1 k_ (hs_).symm)) (fun hs_ => (j4.out.1 k_ (hs_).symm).1) (fun hs_ => (b4.out.1 k_ (hs_).symm).1)) (fun hn_ => (.inr (Nat.le_trans (kz HK.out) hn_))),hk_.2.1,hk_.2.2⟩));have n6_ := As_ (Kd.R_mono (ok' := fun k_ => ((d0 k_ ∨ d5 k_ ∨ d1 k_ ∨ d2 k_) ∨ w.heap.size ≤ k_) ∧ some k_ ≠ (v729 : Value).ownBlock ∧ some k_ ≠ (v735 : Value).ownBlock) ho3 (fun k_ hk_ => ⟨Or.elim hk_.1 (or4 (fun hs_ => (b6.out.1 k_ (hs_).symm).1) (fun hs_ => (b7.out.1 k_ (hs_).symm)) (fun hs_ => (j4.out.1 k_ (hs_).symm).1) (fun hs_ => (b4.out.1 k_ (hs_).symm).1)) (fun hn_ => (.inr (Nat.le_trans (kz HK.out) hn_))),hk_.2.1,hk_.2.2⟩));have n7_ := As_ (Kept.then_ (S := (fun k_ => d0 k_ ∨ d5 k_ ∨ d1 k_ ∨ d2 k_)) (zq3 HK.out e5.out e8.out g5.out) hkp (fun k_ hs_ => Or.elim hs_ (fun e_ => (fun e_ => (b6.out.1 k_ e_.symm).1) e_) (fun e_ => Or.elim e_ (fun e_ => (fun e_ => (b7.out.1 k_ e_.symm)) e_) (fun e_ => Or.elim e_ (fun e_ => (fun e_ => (j4.out.1 k_ e_.symm).1) e_) (fun e_ => (fun e_ => (b4.out.1 k_ e_.symm).1) e_)))));have n8_ := As_ (hb);clear a7 b8 a9 HK HB b6 b7 b4 j4;revert n0_ n1_ n2_ n3_ n4_ n5_ n6_ n7_ n8_;intro a7 b8 a9 q0 q1 q2 q3 HK HB;obtain ⟨Ao64,co64,eo64⟩ := Kd.R_slice q0.out;subst eo64;have a0F := i7.out;have a0G := i6.out;have S9 : w63.cell? ⟨d4,0,none⟩ = some (.slice none 0 0) := (bkC a9.out 0).trans rfl;have T0 : w63.cell? ⟨d4,1,none⟩ = some (.slice none 0 0) := (bkC a9.out 1).trans rfl;have T1 : w63.cell? ⟨d4,2,none⟩ = some (.slice none 0 0) := (bkC a9.out 2).trans rfl;have T2 : w63.cell? ⟨d4,3,none⟩ = some (.slice none 0 0) := (bkC a9.out 3).trans rfl;have T3 : w63.cell? ⟨d4,4,none⟩ = some (.bool false) := (bkC a9.out 4).trans rfl;have T4 := bkF a9.out 0;have T5 := bkF a9.out 1;have T6 := bkF a9.out 2;have T7 := bkF a9.out 3;have T8 := bkF a9.out 4;obtain ⟨Ao67,co67,eo67⟩ := Kd.R_slice q1.out;subst eo67;obtain ⟨Ao68,co68,eo68⟩ := Kd.R_slice q2.out;subst eo68;obtain ⟨Ao69,co69,eo69⟩ := Kd.R_slice q3.out;subst eo69))
   refine bodyPost_ret (results_ct rfl _ _ d4 120 #[.slice Ao64 r9.length co64,.slice Ao67 s8.length co67,.slice Ao68 s9.length co68,.slice Ao69 t0.length co69,.bool t1] (0,0) _ rfl (p5 a9.out) Try.underlying120 rfl (by kernel_rfl)) rfl ?_
   exact ⟨_,_,_,_,by first|rfl|(simp [errW_none,errW_some] <;> rfl)|(simp only [← n7];first|rfl|(simp [errW_none,errW_some] <;> rfl))|(simp [*,errW_none,errW_some] <;> rfl),by exact Kd.R_mono (rX5 q0.out a9.out) (fun _ hk => ⟨hk.1.1,⟨hk.1.2.1,hk.1.2.2⟩⟩),by exact Kd.R_mono (rX5 q1.out a9.out) (fun _ hk => hk.1),by exact Kd.R_mono (rX5 q2.out a9.out) (fun _ hk => ⟨hk.1.1,⟨hk.1.2.1,hk.1.2.2⟩⟩),by exact Kd.R_mono (rX5 q3.out a9.out) (fun _ hk => ⟨hk.1.1,⟨hk.1.2.1,hk.1.2.2⟩⟩),zb3 HB.out e4.out e6.out g6.out,zq3 HK.out e5.out e8.out g5.out⟩
  rw [if_neg c45] at H
  have u1 : (d6 == 6) = false := beq_eq_false_iff_ne.mpr c45
  have u2 : (d6 != 6) = true := bne_iff_ne.mpr c45
  by_cases c75 : d6 = 8
  ·rw [if_pos c75] at H
   have u6 : (d6 == 8) = true := beq_iff_eq.mpr c75
   have u7 : (d6 != 8) = false := bne_eq_false_iff_eq.mpr c75
   clear c75
   by_cases c76 : d7 ≥ 0
   ·rw [if_pos c76] at H
    have u9 : decide (0 ≤ d7) = true := deT c76
    clear c76
    have H' := As_ H
    clear H
    go_wp2
    go_meet
    case rel => exact ⟨_,((i5 == 3)),(1),(b2),(b0),(a8),(b1),(b5),(false),(.slice Ao6 b2.length co6),(.slice Ao7 b0.length co7),(.slice Ao8 a8.length co8),(.slice Ao9 b1.length co9),zT_,zT_,H',⟨by first|omega|exact Nat.le_refl _⟩,⟨b6.out⟩,⟨b7.out⟩,⟨b9.out⟩,⟨b4.out⟩,⟨a7.out⟩,⟨b8.out⟩,⟨a9.out⟩,⟨zq3 HK.out e5.out e8.out g5.out⟩,⟨zb3 HB.out e4.out e6.out g6.out⟩⟩
   rw [if_neg c76] at H
   have u9 : decide (0 ≤ d7) = false := deF c76
   clear c76
   have H' := As_ H
   clear H
   go_wp2
   go_meet
   case rel => exact ⟨_,(false),(1),(b2),(b0),(a8),(b1),(b5),(false),(.slice Ao6 b2.length co6),(.slice Ao7 b0.length co7),(.slice Ao8 a8.length co8),(.slice Ao9 b1.length co9),zT_,zT_,H',⟨by first|omega|exact Nat.le_refl _⟩,⟨b6.out⟩,⟨b7.out⟩,⟨b9.out⟩,⟨b4.out⟩,⟨a7.out⟩,⟨b8.out⟩,⟨a9.out⟩,⟨zq3 HK.out e5.out e8.out g5.out⟩,⟨zb3 HB.out e4.out e6.out g6.out⟩⟩
  rw [if_neg c75] at H
  have u6 : (d6 == 8) = false := beq_eq_false_iff_ne.mpr c75
  have u7 : (d6 != 8) = true := bne_iff_ne.mpr c75
  by_cases c77 : d6 = 11
  ·rw [if_pos c77] at H
   have v4 : (d6 == 11) = true := beq_iff_eq.mpr c77
   have v5 : (d6 != 11) = false := bne_eq_false_iff_eq.mpr c77
   clear c77
   by_cases c78 : d7 ≥ 0
   rotate_left
   ·rw [if_neg c78] at H
    have v6 : decide (0 ≤ d7) = false := deF c78
    clear c78
    have H' := As_ H
    clear H
    go_wp2
    go_meet
    case rel => exact ⟨_,(false),(2),(b2),(b0),(a8),(b1),(b5),(false),(.slice Ao6 b2.length co6),(.slice Ao7 b0.length co7),(.slice Ao8 a8.length co8),(.slice Ao9 b1.length co9),zT_,zT_,H',⟨by first|omega|exact Nat.le_refl _⟩,⟨b6.out⟩,⟨b7.out⟩,⟨b9.out⟩,⟨b4.out⟩,⟨a7.out⟩,⟨b8.out⟩,⟨a9.out⟩,⟨zq3 HK.out e5.out e8.out g5.out⟩,⟨zb3 HB.out e4.out e6.out g6.out⟩⟩
   rw [if_pos c78] at H
   have v6 : decide (0 ≤ d7) = true := deT c78
   clear c78
   replace H := obS H
   obtain ⟨m8,A790,H⟩ := H
   replace H : (if m8 = true then ((spec_shapeAt.f b2 b0 a8 b1 b5 2).bind fun l8 => (spec_takeShapes.j1 k (l8 == 4) 2 b2 b0 a8 b1 b5)) else (spec_takeShapes.j1 k false 2 b2 b0 a8 b1 b5)) = some (r1,r2,r3,r4,r5,r6) := H
   have A79 := As_ A790
   clear A790
   by_cases c80 : m8 = true
   rotate_left
   ·replace c80 := Bool.eq_false_iff.mpr c80
    subst c80
    have H1 : (spec_takeShapes.j1 k false 2 b2 b0 a8 b1 b5) = some (r1,r2,r3,r4,r5,r6) := by rw [if_neg (show ¬ (false = true) by decide)] at H;exact H
    clear H
    have H := H1
    clear H1
    have H' := As_ H
    clear H
    go_wp2_with (first|(go_at_call 129;(with_reducible refine (spec_keyKind.calls i5 false _ A79.out).mono ?_);rintro e w' ⟨rfl,⟨nd,rfl⟩⟩))
    go_meet
    case rel => exact ⟨_,(false),(2),(b2),(b0),(a8),(b1),(b5),(false),(.slice Ao6 b2.length co6),(.slice Ao7 b0.length co7),(.slice Ao8 a8.length co8),(.slice Ao9 b1.length co9),zT_,zT_,H',⟨by first|omega|exact Nat.le_refl _⟩,⟨by (with_reducible repeat (first|apply Kd.R_alloc|apply Kd.R_drewN|apply Kd.R_drew));exact b6.out⟩,⟨by (with_reducible repeat (first|apply Kd.R_alloc|apply Kd.R_drewN|apply Kd.R_drew));exact b7.out⟩,⟨by (with_reducible repeat (first|apply Kd.R_alloc|apply Kd.R_drewN|apply Kd.R_drew));exact b9.out⟩,⟨by (with_reducible repeat (first|apply Kd.R_alloc|apply Kd.R_drewN|apply Kd.R_drew));exact b4.out⟩,⟨by (with_reducible repeat first|apply bkN|apply bkD|apply bkA);exact a7.out⟩,⟨by (with_reducible repeat first|apply bkN|apply bkD|apply bkA);exact b8.out⟩,⟨by (with_reducible repeat first|apply bkN|apply bkD|apply bkA);exact a9.out⟩,⟨zq3 HK.out e5.out e8.out g5.out⟩,⟨zb3 HB.out e4.out e6.out g6.out⟩⟩
   subst c80
   have H1 : ((spec_shapeAt.f b2 b0 a8 b1 b5 2).bind fun l8 => (spec_takeShapes.j1 k (l8 == 4) 2 b2 b0 a8 b1 b5)) = some (r1,r2,r3,r4,r5,r6) := by rw [if_pos rfl] at H;exact H
   clear H
   have H := H1
   clear H1
   replace H := obS H
   obtain ⟨l8,A810,H⟩ := H
   replace H : (spec_takeShapes.j1 k (l8 == 4) 2 b2 b0 a8 b1 b5) = some (r1,r2,r3,r4,r5,r6) := H
   have A81 := As_ A810
   clear A810
   have H' := As_ H
   clear H
   go_wp2_with (first|(go_at_call 129;(with_reducible refine (spec_keyKind.calls i5 true _ A79.out).mono ?_);rintro e w' ⟨rfl,⟨nd,rfl⟩⟩;have a0H := g7.out;have a0I := e0.out;have a0J := g8.out;have a0K := d9.out;have T9 : w18.cell? ⟨b3,0,none⟩ = some (.slice Ao6 b2.length co6) := (bkC a7.out 0).trans rfl;have U0 : w18.cell? ⟨b3,1,none⟩ = some (.slice Ao7 b0.length co7) := (bkC a7.out 1).trans rfl;have U1 : w18.cell? ⟨b3,2,none⟩ = some (.slice Ao8 a8.length co8) := (bkC a7.out 2).trans rfl;have U2 : w18.cell? ⟨b3,3,none⟩ = some (.slice Ao9 b1.length co9) := (bkC a7.out 3).trans rfl;have U3 : w18.cell? ⟨b3,4,none⟩ = some (.bool b5) := (bkC a7.out 4).trans rfl;have U4 := bkF a7.out 0;have U5 := bkF a7.out 1;have U6 := bkF a7.out 2;have U7 := bkF a7.out 3;have U8 := bkF a7.out 4)|(go_at_call 128;(with_reducible refine (spec_shapeAt.calls _ _ b2 _ _ b0 _ _ a8 _ _ b1 b5 2 l8 _ ?side1 ?side2 ?side3 ?side4 ?side5 ?side6 ?side7 ?side8 A81.out).mono ?_);(case side1 => exact zC_ (Kd.R_reads' b6.out).2.2);(case side2 => exact (Kd.R_reads' b6.out).2.1);(case side3 => exact zC_ (Kd.R_reads' b7.out).2.2);(case side4 => exact (Kd.R_reads' b7.out).2.1);(case side5 => exact zC_ (Kd.R_reads' b9.out).2.2);(case side6 => exact (Kd.R_reads' b9.out).2.1);(case side7 => exact zC_ (Kd.R_reads' b4.out).2.2);(case side8 => exact (Kd.R_reads' b4.out).2.1);rintro e w85 ⟨rfl,hb⟩;have n0_ := As_ (Kd.R_below (zR_ b6.out) hb);have n1_ := As_ (Kd.R_below (zR_ b7.out) hb);have n2_ := As_ (Kd.R_below (zR_ b9.out) hb);have n3_ := As_ (Kd.R_below (zR_ b4.out) hb);have n4_ := As_ (zkb a7.out hb);have n5_ := As_ (zkb b8.out hb);have n6_ := As_ (zkb a9.out hb);have n7_ := As_ (Kept.below (S := (fun k_ => d0 k_ ∨ d5 k_ ∨ d1 k_ ∨ d2 k_)) (zq3 HK.out e5.out e8.out g5.out) hb);have n8_ := As_ (bwT (zb3 HB.out e4.out e6.out g6.out) hb);clear b6 b7 b9 b4 a7 b8 a9 HK HB;revert n0_ n1_ n2_ n3_ n4_ n5_ n6_ n7_ n8_;intro b6 b7 b9 b4 a7 b8 a9 HK HB))
   go_meet
   case rel => exact ⟨_,((l8 == 4)),(2),(b2),(b0),(a8),(b1),(b5),(false),(.slice Ao6 b2.length co6),(.slice Ao7 b0.length co7),(.slice Ao8 a8.length co8),(.slice Ao9 b1.length co9),zT_,zT_,H',⟨by first|omega|exact Nat.le_refl _⟩,⟨b6.out⟩,⟨b7.out⟩,⟨b9.out⟩,⟨b4.out⟩,⟨a7.out⟩,⟨b8.out⟩,⟨a9.out⟩,⟨zq3 HK.out e5.out e8.out g5.out⟩,⟨zb3 HB.out e4.out e6.out g6.out⟩⟩
  rw [if_neg c77] at H
  have v4 : (d6 == 11) = false := beq_eq_false_iff_ne.mpr c77
  have v5 : (d6 != 11) = true := bne_iff_ne.mpr c77
  by_cases c86 : d6 = 14
  rotate_left
  ·rw [if_neg c86] at H
   have v7 : (d6 == 14) = false := beq_eq_false_iff_ne.mpr c86
   have x0 : (d6 != 14) = true := bne_iff_ne.mpr c86
   by_cases c107 : d6 = 15
   rotate_left
   ·rw [if_neg c107] at H
    have t2 : (d6 == 15) = false := beq_eq_false_iff_ne.mpr c107
    have t3 : (d6 != 15) = true := bne_iff_ne.mpr c107
    by_cases c117 : d6 = 19
    rotate_left
    ·rw [if_neg c117] at H
     have t4 : (d6 == 19) = false := beq_eq_false_iff_ne.mpr c117
     have t5 : (d6 != 19) = true := bne_iff_ne.mpr c117
     have H' := As_ H
     clear H
     go_wp2
     go_meet
     case rel => exact ⟨_,(decide (d7 ≥ 0)),(1),(b2),(b0),(a8),(b1),(b5),(false),(.slice Ao6 b2.length co6),(.slice Ao7 b0.length co7),(.slice Ao8 a8.length co8),(.slice Ao9 b1.length co9),zT_,zT_,H',⟨by first|omega|exact Nat.le_refl _⟩,⟨b6.out⟩,⟨b7.out⟩,⟨b9.out⟩,⟨b4.out⟩,⟨a7.out⟩,⟨b8.out⟩,⟨a9.out⟩,⟨zq3 HK.out e5.out e8.out g5.out⟩,⟨zb3 HB.out e4.out e6.out g6.out⟩⟩
    rw [if_pos c117] at H
    have t4 : (d6 == 19) = true := beq_iff_eq.mpr c117
    have t5 : (d6 != 19) = false := bne_eq_false_iff_eq.mpr c117
    clear c117
    by_cases c118 : d7 ≥ 0
    ·rw [if_pos c118] at H
     have t6 : decide (0 ≤ d7) = true := deT c118
     clear c118
     have H' := As_ H
     clear H
     have V3 := g7.out
     have V4 := e0.out
     have V5 := g8.out
     have V6 := d9.out
     have x1 : w18.cell? ⟨b3,0,none⟩ = some (.slice Ao6 b2.length co6) := (bkC a7.out 0).trans rfl
     have x2 : w18.cell? ⟨b3,1,none⟩ = some (.slice Ao7 b0.length co7) := (bkC a7.out 1).trans rfl
     have x3 : w18.cell? ⟨b3,2,none⟩ = some (.slice Ao8 a8.length co8) := (bkC a7.out 2).trans rfl
     have x4 : w18.cell? ⟨b3,3,none⟩ = some (.slice Ao9 b1.length co9) := (bkC a7.out 3).trans rfl
     have x5 : w18.cell? ⟨b3,4,none⟩ = some (.bool b5) := (bkC a7.out 4).trans rfl
     have x6 := bkF a7.out 0
     have x7 := bkF a7.out 1
     have y7 := bkF a7.out 2
     have y8 := bkF a7.out 3
     have y9 := bkF a7.out 4
     go_wp2
     go_meet
     case rel => exact ⟨_,(((a8.length : Int) == 1)),(0),(b2),(b0),(a8),(b1),(true),(false),(.slice Ao6 b2.length co6),(.slice Ao7 b0.length co7),(.slice Ao8 a8.length co8),(.slice Ao9 b1.length co9),zT_,zT_,H',⟨by first|omega|exact Nat.le_refl _⟩,⟨by exact Kd.R_mono (rX1 b6.out a7.out 4) (fun _ hk => ⟨hk.1.1,⟨hk.1.2.1,hk.1.2.2⟩⟩)⟩,⟨by exact Kd.R_mono (rX1 b7.out a7.out 4) (fun _ hk => hk.1)⟩,⟨by exact Kd.R_mono (rX1 b9.out a7.out 4) (fun _ hk => ⟨hk.1.1,⟨hk.1.2.1,hk.1.2.2⟩⟩)⟩,⟨by exact Kd.R_mono (rX1 b4.out a7.out 4) (fun _ hk => ⟨hk.1.1,⟨hk.1.2.1,hk.1.2.2⟩⟩)⟩,⟨by refine blk_put (cs := #[.slice Ao6 b2.length co6,.slice Ao7 b0.length co7,.slice Ao8 a8.length co8,.slice Ao9 b1.length co9,.bool b5]) ?_ 4 _ rfl;exact a7.out⟩,⟨by refine blk_far ?_ e0.out _;exact b8.out⟩,⟨by refine blk_far ?_ d9.out _;exact a9.out⟩,⟨zq3 HK.out e5.out e8.out g5.out⟩,⟨zb3 HB.out e4.out e6.out g6.out⟩⟩
    rw [if_neg c118] at H
    have t6 : decide (0 ≤ d7) = false := deF c118
    clear c118
    have H' := As_ H
    clear H
    have V7 := g7.out
    have V8 := e0.out
    have V9 := g8.out
    have W0 := d9.out
    have z1 : w18.cell? ⟨b3,0,none⟩ = some (.slice Ao6 b2.length co6) := (bkC a7.out 0).trans rfl
    have z2 : w18.cell? ⟨b3,1,none⟩ = some (.slice Ao7 b0.length co7) := (bkC a7.out 1).trans rfl
    have z3 : w18.cell? ⟨b3,2,none⟩ = some (.slice Ao8 a8.length co8) := (bkC a7.out 2).trans rfl
    have z4 : w18.cell? ⟨b3,3,none⟩ = some (.slice Ao9 b1.length co9) := (bkC a7.out 3).trans rfl
    have z5 : w18.cell? ⟨b3,4,none⟩ = some (.bool b5) := (bkC a7.out 4).trans rfl
    have z6 := bkF a7.out 0
    have z7 := bkF a7.out 1
    have z8 := bkF a7.out 2
    have z9 := bkF a7.out 3
    have A5 := bkF a7.out 4
    go_wp2
    go_meet
    case rel => exact ⟨_,(false),(0),(b2),(b0),(a8),(b1),(true),(false),(.slice Ao6 b2.length co6),(.slice Ao7 b0.length co7),(.slice Ao8 a8.length co8),(.slice Ao9 b1.length co9),zT_,zT_,H',⟨by first|omega|exact Nat.le_refl _⟩,⟨by exact Kd.R_mono (rX1 b6.out a7.out 4) (fun _ hk => ⟨hk.1.1,⟨hk.1.2.1,hk.1.2.2⟩⟩)⟩,⟨by exact Kd.R_mono (rX1 b7.out a7.out 4) (fun _ hk => hk.1)⟩,⟨by exact Kd.R_mono (rX1 b9.out a7.out 4) (fun _ hk => ⟨hk.1.1,⟨hk.1.2.1,hk.1.2.2⟩⟩)⟩,⟨by exact Kd.R_mono (rX1 b4.out a7.out 4) (fun _ hk => ⟨hk.1.1,⟨hk.1.2.1,hk.1.2.2⟩⟩)⟩,⟨by refine blk_put (cs := #[.slice Ao6 b2.length co6,.slice Ao7 b0.length co7,.slice Ao8 a8.length co8,.slice Ao9 b1.length co9,.bool b5]) ?_ 4 _ rfl;exact a7.out⟩,⟨by refine blk_far ?_ e0.out _;exact b8.out⟩,⟨by refine blk_far ?_ d9.out _;exact a9.out⟩,⟨zq3 HK.out e5.out e8.out g5.out⟩,⟨zb3 HB.out e4.out e6.out g6.out⟩⟩
   rw [if_pos c107] at H
   have t2 : (d6 == 15) = true := beq_iff_eq.mpr c107
   have t3 : (d6 != 15) = false := bne_eq_false_iff_eq.mpr c107
   clear c107
   by_cases c108 : d7 ≥ 0
   rotate_left
   ·rw [if_neg c108] at H
    have t7 : decide (0 ≤ d7) = false := deF c108
    have c108c0 : d7 < 0 := by omega
    clear c108
    have H' := As_ H
    clear H
    go_wp2
    go_meet
    case rel => exact ⟨_,(decide (d7 ≥ 0)),(0),(b2),(b0),(a8),(b1),(b5),(false),(.slice Ao6 b2.length co6),(.slice Ao7 b0.length co7),(.slice Ao8 a8.length co8),(.slice Ao9 b1.length co9),zT_,zT_,H',⟨by first|omega|exact Nat.le_refl _⟩,⟨b6.out⟩,⟨b7.out⟩,⟨b9.out⟩,⟨b4.out⟩,⟨a7.out⟩,⟨b8.out⟩,⟨a9.out⟩,⟨zq3 HK.out e5.out e8.out g5.out⟩,⟨zb3 HB.out e4.out e6.out g6.out⟩⟩
   rw [if_pos c108] at H
   have t7 : decide (0 ≤ d7) = true := deT c108
   have c108c0 : 0 ≤ d7 := by omega
   clear c108
   obtain ⟨i8,n5⟩ : ∃ j_ : Int,(wrap64 ((a8.length : Int) - 1)) = j_ := ⟨_,rfl⟩
   replace H : (if 0 ≤ (i8) then (if (i8) < (a8.length : Int) then (if 0 ≤ i1 then (if i1 < (b1.length : Int) then (spec_takeShapes.j1 k (decide (d7 ≥ 0)) 0 b2 b0 a8 (b1.set (i1 : Int).toNat (rd a8 (i8))) b5) else (none)) else (none)) else (none)) else (none)) = some (r1,r2,r3,r4,r5,r6) := by first|(rw [n5] at H;exact H)|(simp only [n5] at H ⊢;exact H)
   have U9 : (IntKind.i64.wrap ((a8.length : Int) - 1)) = i8 := (i64_w _).trans n5
   by_cases c110 : 0 ≤ (i8)
   rotate_left
   ·rw [if_neg c110] at H
    exact absurd H (by simp)
   rw [if_pos c110] at H
   have W3 : decide (0 ≤ (i8)) = true := deT c110
   clear c110
   by_cases c111 : (i8) < (a8.length : Int)
   rotate_left
   ·rw [if_neg c111] at H
    exact absurd H (by simp)
   rw [if_pos c111] at H
   have W4 : decide ((i8) < (a8.length : Int)) = true := deT c111
   clear c111
   by_cases c112 : 0 ≤ i1
   rotate_left
   ·rw [if_neg c112] at H
    exact absurd H (by simp)
   rw [if_pos c112] at H
   have W5 : decide (0 ≤ i1) = true := deT c112
   clear c112
   by_cases c113 : i1 < (b1.length : Int)
   rotate_left
   ·rw [if_neg c113] at H
    exact absurd H (by simp)
   rw [if_pos c113] at H
   have W6 : decide (i1 < (b1.length : Int)) = true := deT c113
   clear c113
   obtain ⟨A6,o8⟩ : ∃ y_ : List Int,y_ = (b1.set (i1 : Int).toNat (rd a8 (i8))) := ⟨_,rfl⟩
   replace H : (spec_takeShapes.j1 k (decide (d7 ≥ 0)) 0 b2 b0 a8 A6 b5) = some (r1,r2,r3,r4,r5,r6) := zH_ H o8
   have A7 := As_ o8
   clear o8
   have H' := As_ H
   clear H
   try go_wp2
   have n0_ := As_ (Kd.R_drew b6.out)
   have n1_ := As_ (Kd.R_drew b7.out)
   have n2_ := As_ (Kd.R_drew b9.out)
   have n3_ := As_ (Kd.R_drew b4.out)
   have n4_ := As_ (bkD a7.out)
   have n5_ := As_ (bkD b8.out)
   have n6_ := As_ (bkD a9.out)
   have n7_ := As_ (Kept.drew HK.out)
   have n8_ := As_ (bwD HB.out)
   clear b6 b7 b9 b4 a7 b8 a9 HK HB
   revert n0_ n1_ n2_ n3_ n4_ n5_ n6_ n7_ n8_;intro b6 b7 b9 b4 a7 b8 a9 HK HB
   have p747 : 0 ≤ ((i8) : Int) := odT zA_
   have q747 : (i8) < (a8.length : Int) := odT zA_
   obtain ⟨ad747,e747,hx747_0⟩ := Kd.at_int (Kd.R_reads' b9.out).2.2 (i8) p747 q747
   cases e747
   replace p747 := eq_true p747
   replace q747 := eq_true q747
   have p114 : 0 ≤ (i1 : Int) := odT zA_
   have q114 : (i1 : Int) < ((b1.length : Int) : Int) := odT zA_
   obtain ⟨go114,co114,eo114,q4,gl114,cl114,HG114⟩ := Kd.R_form b4.out (by omega)
   (first|cases eo114|(injection eo114 with ea_ en_ ec_;(first|subst ea_|(injection ea_ with ea_;subst ea_));subst ec_;clear en_))
   have GB114 := As_ q4
   have GG114 := As_ HG114
   clear q4 gl114 HG114
   have HMgo114 := As_ (show ((d0 go114 ∨ d5 go114 ∨ d1 go114 ∨ d2 go114) ∨ w.heap.size ≤ go114) from (b4.out.1 _ rfl).1)
   obtain ⟨hx114_0,hf114_0⟩ := Kd.R_celln 0 b4.out (i1 : Int) p114 q114
   replace p114 := eq_true p114
   replace q114 := eq_true q114
   have HP116 := Kd.R_putn b4.out (i1 : Int) (rd a8 (i8))
   rw [← A7.out] at HP116
   have HQ116 := As_ HP116
   clear HP116
   refine start_ (n := 14) (S := fun w' => w'.cell? ⟨b3,0,none⟩ = some (.slice Ao6 b2.length co6) ∧ w'.cell? ⟨b3,1,none⟩ = some (.slice Ao7 b0.length co7) ∧ w'.cell? ⟨b3,2,none⟩ = some (.slice (some ad747) a8.length co8) ∧ w'.cell? ⟨b3,3,none⟩ = some (.slice (some ⟨go114,0,none⟩) b1.length co9) ∧ w'.cell? ⟨b3,4,none⟩ = some (.bool b5) ∧ w'.cell? ⟨j9,0,none⟩ = some (.int .i64 d6) ∧ w'.cell? ⟨j9,1,none⟩ = some (.int .i64 i1) ∧ w'.cell? (ad747.add ((i8)).toNat) = some (.int .i64 (rd a8 (i8)))) (ds := [13]) (bl_ 0 14) (by kernel_rfl) rfl rfl ⟨(bkC a7.out 0).trans rfl,(bkC a7.out 1).trans rfl,(bkC a7.out 2).trans rfl,(bkC a7.out 3).trans rfl,(bkC a7.out 4).trans rfl,(bkC b8.out 0).trans rfl,(bkC b8.out 1).trans rfl,hx747_0⟩ (fun hHeld => ?_);refine with_tabW spec_takeShapes.tab27 spec_takeShapes.bits27 (fun HT_ HW_ => ?_)
   generalize w18.drew = w115 at b6 b7 b9 b4 a7 b8 a9 HK HB GG114 HQ116 hf114_0 hx114_0 hx747_0 hHeld ⊢
   refine pQ 0 108 (bl_ 1 14) HT_ rfl ?_
   refine pQ 2 110 (bl_ 5 14) HT_ rfl ?_
   refine pQ 4 112 (bl_ 21 14) HT_ rfl ?_
   refine pQ 6 114 (bl_ 85 14) HT_ rfl ?_
   refine tP 1 109 (bl_ 87 14) ?_ HT_ HW_ rfl (.inl ⟨by rfl,?_⟩) hHeld ?_ ?_ ?_;rotate_left;(rintro w' ⟨s0,s1,s2,s3,s4,s5,s6,s7⟩;go_simp;with_reducible rfl);rotate_left;(simp only [Act.put,sq_,i64_w,i32_w];rfl)
   refine tP 3 111 (bl_ 95 14) ?_ HT_ HW_ rfl (.inl ⟨by rfl,?_⟩) hHeld ?_ ?_ ?_;rotate_left;(rintro w' ⟨s0,s1,s2,s3,s4,s5,s6,s7⟩;go_simp;with_reducible rfl);rotate_left;(simp only [Act.put,sq_,i64_w,i32_w];rfl)
   refine tP 5 113 (bl_ 127 14) ?_ HT_ HW_ rfl (.inl ⟨by rfl,?_⟩) hHeld ?_ ?_ ?_;rotate_left;(rintro w' ⟨s0,s1,s2,s3,s4,s5,s6,s7⟩;go_simp;with_reducible rfl);rotate_left;(simp only [Act.put,sq_,i64_w,i32_w];rfl)
   refine tP 7 115 (bl_ 255 14) ?_ HT_ HW_ rfl (.inl ⟨by rfl,?_⟩) hHeld ?_ ?_ ?_;rotate_left;(rintro w' ⟨s0,s1,s2,s3,s4,s5,s6,s7⟩;go_simp;with_reducible rfl);rotate_left;(simp only [Act.put,sq_,i64_w,i32_w];rfl)
   refine pQ 8 116 (bl_ 511 14) HT_ rfl ?_
   refine pQ 9 117 (bl_ 1023 14) HT_ rfl ?_
   refine pQ 10 118 (bl_ 2047 14) HT_ rfl ?_
   refine tP 11 119 (bl_ 4095 14) ?_ HT_ HW_ rfl (.inl ⟨by rfl,?_⟩) hHeld ?_ ?_ ?_;rotate_left;(rintro w' ⟨s0,s1,s2,s3,s4,s5,s6,s7⟩;go_simp;with_reducible rfl);rotate_left;(simp only [Act.put,sq_,i64_w,i32_w];rfl)
   refine pQ 12 120 (bl_ 8191 14) HT_ rfl ?_
   refine last_ (i := 13) (N := none) (bl_ 16383 14) rfl rfl (one_of HT_.out (by kernel_rfl)) (by decide) (fun K hK => ?_)
   refine skip_ (w1 := ?_) (by rfl) rfl ?_ ?_
   rotate_left
   ·go_simp
    rfl
   refine hK.out _ _ ?_
   clear hK K
   refine done_ (done_of HT_.out (by kernel_rfl)) ?_
   try go_wp2
   go_meet
   case rel => exact ⟨_,(decide (d7 ≥ 0)),(0),(b2),(b0),(a8),(A6),(b5),(false),(.slice Ao6 b2.length co6),(.slice Ao7 b0.length co7),(.slice (some ad747) a8.length co8),(.slice (some ⟨go114,0,none⟩) b1.length co9),zT_,zT_,H',⟨by first|omega|exact Nat.le_refl _⟩,⟨by exact Kd.R_mono (Kd.R_far (p := ⟨go114,(i1 : Int).toNat,none⟩) (Kd.R_mono b6.out (fun k_ hk => (⟨hk,fun e_ => hk.2.2 (by rw [e_];rfl)⟩ : _ ∧ k_ ≠ go114))) (fun _ hk => hk.2) (.int .i64 (rd a8 (i8)))) (fun _ hk => ⟨hk.1.1,⟨hk.1.2.1,hk.1.2.2⟩⟩)⟩,⟨by exact Kd.R_mono (Kd.R_far (p := ⟨go114,(i1 : Int).toNat,none⟩) (Kd.R_types b7.out GG114.out (by decide)) (fun _ hk => hk.2) (.int .i64 (rd a8 (i8)))) (fun _ hk => hk.1)⟩,⟨by exact Kd.R_mono (Kd.R_far (p := ⟨go114,(i1 : Int).toNat,none⟩) (Kd.R_mono b9.out (fun k_ hk => (⟨hk,fun e_ => hk.2.2 (by rw [e_];rfl)⟩ : _ ∧ k_ ≠ go114))) (fun _ hk => hk.2) (.int .i64 (rd a8 (i8)))) (fun _ hk => ⟨hk.1.1,⟨hk.1.2.1,hk.1.2.2⟩⟩)⟩,⟨HQ116.out⟩,⟨by refine blk_far ?_ (by have h_ := Kd.R_ne b4.out a7.out (by decide);intro e_;exact h_ (by rw [e_];rfl)) _;exact a7.out⟩,⟨by refine blk_far ?_ (by have h_ := Kd.R_ne b4.out b8.out (by decide);intro e_;exact h_ (by rw [e_];rfl)) _;exact b8.out⟩,⟨by refine blk_far ?_ (by have h_ := Kd.R_ne b4.out a9.out (by decide);intro e_;exact h_ (by rw [e_];rfl)) _;exact a9.out⟩,⟨by repeat (first|(with_reducible first|exact HK.out|apply Kept.alloc|apply Kept.drewN|apply Kept.drew|refine Kept.setCell ?_ HMgo114.out _|refine Kept.setCell ?_ (.inr e5.out) _|refine Kept.setCell ?_ (.inr e8.out) _|refine Kept.setCell ?_ (.inr g5.out) _)|exact HK.out)⟩,⟨zb4 HB.out GB114.out e4.out e6.out g6.out⟩⟩
  rw [if_pos c86] at H
  have v7 : (d6 == 14) = true := beq_iff_eq.mpr c86
  have x0 : (d6 != 14) = false := bne_eq_false_iff_eq.mpr c86
  clear c86
  have HC87 := As_ H
  clear H
  go_upto_region 22 with (fail)
  go_cut [8] (fun v8 wc => ∃ (kq : Nat) (n8 : Bool),v8 = .bool n8 ∧ Aside0 (spec_takeShapes.j0 kq n8 1 b2 b0 a8 b1 b5 = some (r1,r2,r3,r4,r5,r6)) ∧ Aside0 (kq ≤ k) ∧ Aside0 (Kd.R (Kd.int .i64) 3 wc w0.heap.size (fun k_ => ((d0 k_ ∨ d5 k_ ∨ d1 k_ ∨ d2 k_) ∨ w.heap.size ≤ k_) ∧ some k_ ≠ ((.slice Ao8 a8.length co8) : Value).ownBlock ∧ some k_ ≠ ((.slice Ao9 b1.length co9) : Value).ownBlock) (.slice Ao6 b2.length co6) b2) ∧ Aside0 (Kd.R Kd.bool 4 wc w0.heap.size (fun k_ => ((d0 k_ ∨ d5 k_ ∨ d1 k_ ∨ d2 k_) ∨ w.heap.size ≤ k_)) (.slice Ao7 b0.length co7) b0) ∧ Aside0 (Kd.R (Kd.int .i64) 3 wc w0.heap.size (fun k_ => ((d0 k_ ∨ d5 k_ ∨ d1 k_ ∨ d2 k_) ∨ w.heap.size ≤ k_) ∧ some k_ ≠ ((.slice Ao6 b2.length co6) : Value).ownBlock ∧ some k_ ≠ ((.slice Ao9 b1.length co9) : Value).ownBlock) (.slice Ao8 a8.length co8) a8) ∧ Aside0 (Kd.R (Kd.int .i64) 3 wc w0.heap.size (fun k_ => ((d0 k_ ∨ d5 k_ ∨ d1 k_ ∨ d2 k_) ∨ w.heap.size ≤ k_) ∧ some k_ ≠ ((.slice Ao6 b2.length co6) : Value).ownBlock ∧ some k_ ≠ ((.slice Ao8 a8.length co8) : Value).ownBlock) (.slice Ao9 b1.length co9) b1) ∧ Aside0 (wc.heap[b3]? = some (.cells #[(.slice Ao6 b2.length co6),(.slice Ao7 b0.length co7),(.slice Ao8 a8.length co8),(.slice Ao9 b1.length co9),.bool b5] 120 (0,0))) ∧ Aside0 (wc.heap[j9]? = some (.cells #[.int .i64 d6,.int .i64 i1] 75 (0,0))) ∧ Aside0 (wc.heap[d4]? = some (.cells #[(.slice none 0 0),(.slice none 0 0),(.slice none 0 0),(.slice none 0 0),.bool false] 120 (0,0))) ∧ Aside0 (Kept w wc (fun k_ => d0 k_ ∨ d5 k_ ∨ d1 k_ ∨ d2 k_)) ∧ Aside0 (Below w0.heap.size w0 wc))
  case first =>
   have H := HC87.out
   clear HC87
   by_cases c88 : d7 ≥ 0
   rotate_left
   ·rw [if_neg c88] at H
    have n3 : decide (0 ≤ d7) = false := deF c88
    clear c88
    (first|rw [n3]|(simp only [i64_w,i32_w];rw [n3])|skip)
    have H' := As_ H
    clear H
    try go_wp2
    have n0_ := As_ (Kd.R_drew b6.out)
    have n1_ := As_ (Kd.R_drew b7.out)
    have n2_ := As_ (Kd.R_drew b9.out)
    have n3_ := As_ (Kd.R_drew b4.out)
    have n4_ := As_ (bkD a7.out)
    have n5_ := As_ (bkD b8.out)
    have n6_ := As_ (bkD a9.out)
    have n7_ := As_ (Kept.drew HK.out)
    have n8_ := As_ (bwD HB.out)
    clear b6 b7 b9 b4 a7 b8 a9 HK HB
    revert n0_ n1_ n2_ n3_ n4_ n5_ n6_ n7_ n8_;intro b6 b7 b9 b4 a7 b8 a9 HK HB
    refine start_ (n := 21) (S := fun w' => True) (ds := []) (bl_ 0 21) (by kernel_rfl) rfl rfl trivial (fun hHeld => ?_);refine with_tabW spec_takeShapes.tab22 spec_takeShapes.bits22 (fun HT_ HW_ => ?_)
    generalize w18.drew = w97 at b6 b7 b9 b4 a7 b8 a9 HK HB hHeld ⊢
    refine pQ 0 73 (bl_ 1 21) HT_ rfl ?_
    refine pQ 1 74 (bl_ 3 21) HT_ rfl ?_
    refine uP 2 75 (bl_ 7 21) ?_ HT_ rfl (.inr ⟨by rfl,rfl⟩) ?_ ?_;rotate_left;(simp only [Act.put,sq_,i64_w,i32_w];rfl)
    refine uP 3 76 (bl_ 15 21) ?_ HT_ rfl (.inr ⟨by rfl,rfl⟩) ?_ ?_;rotate_left;(simp only [Act.put,sq_,i64_w,i32_w];rfl)
    refine pQ 4 77 (bl_ 31 21) HT_ rfl ?_
    refine pQ 5 78 (bl_ 63 21) HT_ rfl ?_
    refine uP 6 79 (bl_ 127 21) ?_ HT_ rfl (.inr ⟨by rfl,rfl⟩) ?_ ?_;rotate_left;(simp only [Act.put,sq_,i64_w,i32_w];rfl)
    refine uP 7 80 (bl_ 255 21) ?_ HT_ rfl (.inr ⟨by rfl,rfl⟩) ?_ ?_;rotate_left;(simp only [Act.put,sq_,i64_w,i32_w];rfl)
    refine uP 8 81 (bl_ 511 21) ?_ HT_ rfl (.inr ⟨by rfl,rfl⟩) ?_ ?_;rotate_left;(simp only [Act.put,sq_,i64_w,i32_w];rfl)
    refine uP 9 82 (bl_ 1023 21) ?_ HT_ rfl (.inr ⟨by rfl,rfl⟩) ?_ ?_;rotate_left;(simp only [Act.put,sq_,i64_w,i32_w];rfl)
    refine uP 10 83 (bl_ 2047 21) ?_ HT_ rfl (.inr ⟨by rfl,rfl⟩) ?_ ?_;rotate_left;(simp only [Act.put,sq_,i64_w,i32_w];rfl)
    refine uP 11 84 (bl_ 4095 21) ?_ HT_ rfl (.inr ⟨by rfl,rfl⟩) ?_ ?_;rotate_left;(simp only [Act.put,sq_,i64_w,i32_w];rfl)
    refine uP 12 85 (bl_ 8191 21) ?_ HT_ rfl (.inr ⟨by rfl,rfl⟩) ?_ ?_;rotate_left;(simp only [Act.put,sq_,i64_w,i32_w];rfl)
    refine uP 13 86 (bl_ 16383 21) ?_ HT_ rfl (.inr ⟨by rfl,rfl⟩) ?_ ?_;rotate_left;(simp only [Act.put,sq_,i64_w,i32_w];rfl)
    refine uP 14 87 (bl_ 32767 21) ?_ HT_ rfl (.inr ⟨by rfl,rfl⟩) ?_ ?_;rotate_left;(simp only [Act.put,sq_,i64_w,i32_w];rfl)
    refine uP 15 88 (bl_ 65535 21) ?_ HT_ rfl (.inr ⟨by rfl,rfl⟩) ?_ ?_;rotate_left;(simp only [Act.put,sq_,i64_w,i32_w];rfl)
    refine uP 16 89 (bl_ 131071 21) ?_ HT_ rfl (.inr ⟨by rfl,rfl⟩) ?_ ?_;rotate_left;(simp only [Act.put,sq_,i64_w,i32_w];rfl)
    refine uP 17 90 (bl_ 262143 21) ?_ HT_ rfl (.inr ⟨by rfl,rfl⟩) ?_ ?_;rotate_left;(simp only [Act.put,sq_,i64_w,i32_w];rfl)
    refine uP 18 91 (bl_ 524287 21) ?_ HT_ rfl (.inr ⟨by rfl,rfl⟩) ?_ ?_;rotate_left;(simp only [Act.put,sq_,i64_w,i32_w];rfl)
    refine pQ 19 92 (bl_ 1048575 21) HT_ rfl ?_
    refine pQ 20 8 (bl_ 2097151 21) HT_ rfl ?_
    refine done_ (done_of HT_.out (by kernel_rfl)) ?_
    try go_wp2
    go_meet
    case rel => exact ⟨_,(false),zT_,H',⟨by first|omega|exact Nat.le_refl _⟩,⟨b6.out⟩,⟨b7.out⟩,⟨b9.out⟩,⟨b4.out⟩,⟨a7.out⟩,⟨b8.out⟩,⟨a9.out⟩,⟨zq3 HK.out e5.out e8.out g5.out⟩,⟨zb3 HB.out e4.out e6.out g6.out⟩⟩
   rw [if_pos c88] at H
   have n3 : decide (0 ≤ d7) = true := deT c88
   clear c88
   (first|rw [n3]|(simp only [i64_w,i32_w];rw [n3])|skip)
   by_cases c89 : i5 = 5
   rotate_left
   ·rw [if_neg c89] at H
    have A8 : (i5 == 5) = false := beq_eq_false_iff_ne.mpr c89
    have A9 : (i5 != 5) = true := bne_iff_ne.mpr c89
    have H' := As_ H
    clear H
    try go_wp2
    have n0_ := As_ (Kd.R_drew b6.out)
    have n1_ := As_ (Kd.R_drew b7.out)
    have n2_ := As_ (Kd.R_drew b9.out)
    have n3_ := As_ (Kd.R_drew b4.out)
    have n4_ := As_ (bkD a7.out)
    have n5_ := As_ (bkD b8.out)
    have n6_ := As_ (bkD a9.out)
    have n7_ := As_ (Kept.drew HK.out)
    have n8_ := As_ (bwD HB.out)
    clear b6 b7 b9 b4 a7 b8 a9 HK HB
    revert n0_ n1_ n2_ n3_ n4_ n5_ n6_ n7_ n8_;intro b6 b7 b9 b4 a7 b8 a9 HK HB
    refine start_ (n := 21) (S := fun w' => True) (ds := []) (bl_ 0 21) (by kernel_rfl) rfl rfl trivial (fun hHeld => ?_);refine with_tabW spec_takeShapes.tab22 spec_takeShapes.bits22 (fun HT_ HW_ => ?_)
    generalize w18.drew = w96 at b6 b7 b9 b4 a7 b8 a9 HK HB hHeld ⊢
    refine pQ 0 73 (bl_ 1 21) HT_ rfl ?_
    refine pQ 1 74 (bl_ 3 21) HT_ rfl ?_
    refine pQ 2 75 (bl_ 7 21) HT_ rfl ?_
    refine pQ 3 76 (bl_ 15 21) HT_ rfl ?_
    refine pQ 4 77 (bl_ 31 21) HT_ rfl ?_
    refine pQ 5 78 (bl_ 63 21) HT_ rfl ?_
    refine uP 6 79 (bl_ 127 21) ?_ HT_ rfl (.inr ⟨by rfl,rfl⟩) ?_ ?_;rotate_left;(simp only [Act.put,sq_,i64_w,i32_w];rfl)
    refine uP 7 80 (bl_ 255 21) ?_ HT_ rfl (.inr ⟨by rfl,rfl⟩) ?_ ?_;rotate_left;(simp only [Act.put,sq_,i64_w,i32_w];rfl)
    refine uP 8 81 (bl_ 511 21) ?_ HT_ rfl (.inr ⟨by rfl,rfl⟩) ?_ ?_;rotate_left;(simp only [Act.put,sq_,i64_w,i32_w];rfl)
    refine uP 9 82 (bl_ 1023 21) ?_ HT_ rfl (.inr ⟨by rfl,rfl⟩) ?_ ?_;rotate_left;(simp only [Act.put,sq_,i64_w,i32_w];rfl)
    refine uP 10 83 (bl_ 2047 21) ?_ HT_ rfl (.inr ⟨by rfl,rfl⟩) ?_ ?_;rotate_left;(simp only [Act.put,sq_,i64_w,i32_w];rfl)
    refine uP 11 84 (bl_ 4095 21) ?_ HT_ rfl (.inr ⟨by rfl,rfl⟩) ?_ ?_;rotate_left;(simp only [Act.put,sq_,i64_w,i32_w];rfl)
    refine uP 12 85 (bl_ 8191 21) ?_ HT_ rfl (.inr ⟨by rfl,rfl⟩) ?_ ?_;rotate_left;(simp only [Act.put,sq_,i64_w,i32_w];rfl)
    refine uP 13 86 (bl_ 16383 21) ?_ HT_ rfl (.inr ⟨by rfl,rfl⟩) ?_ ?_;rotate_left;(simp only [Act.put,sq_,i64_w,i32_w];rfl)
    refine uP 14 87 (bl_ 32767 21) ?_ HT_ rfl (.inr ⟨by rfl,rfl⟩) ?_ ?_;rotate_left;(simp only [Act.put,sq_,i64_w,i32_w];rfl)
    refine uP 15 88 (bl_ 65535 21) ?_ HT_ rfl (.inr ⟨by rfl,rfl⟩) ?_ ?_;rotate_left;(simp only [Act.put,sq_,i64_w,i32_w];rfl)
    refine uP 16 89 (bl_ 131071 21) ?_ HT_ rfl (.inr ⟨by rfl,rfl⟩) ?_ ?_;rotate_left;(simp only [Act.put,sq_,i64_w,i32_w];rfl)
    refine uP 17 90 (bl_ 262143 21) ?_ HT_ rfl (.inr ⟨by rfl,rfl⟩) ?_ ?_;rotate_left;(simp only [Act.put,sq_,i64_w,i32_w];rfl)
    refine uP 18 91 (bl_ 524287 21) ?_ HT_ rfl (.inr ⟨by rfl,rfl⟩) ?_ ?_;rotate_left;(simp only [Act.put,sq_,i64_w,i32_w];rfl)
    refine pQ 19 92 (bl_ 1048575 21) HT_ rfl ?_
    refine pQ 20 8 (bl_ 2097151 21) HT_ rfl ?_
    refine done_ (done_of HT_.out (by kernel_rfl)) ?_
    try go_wp2
    go_meet
    case rel => exact ⟨_,(false),zT_,H',⟨by first|omega|exact Nat.le_refl _⟩,⟨b6.out⟩,⟨b7.out⟩,⟨b9.out⟩,⟨b4.out⟩,⟨a7.out⟩,⟨b8.out⟩,⟨a9.out⟩,⟨zq3 HK.out e5.out e8.out g5.out⟩,⟨zb3 HB.out e4.out e6.out g6.out⟩⟩
   rw [if_pos c89] at H
   have A8 : (i5 == 5) = true := beq_iff_eq.mpr c89
   have A9 : (i5 != 5) = false := bne_eq_false_iff_eq.mpr c89
   clear c89
   obtain ⟨j2,n9⟩ : ∃ j_ : Int,(wrap64 ((a8.length : Int) - 2)) = j_ := ⟨_,rfl⟩
   replace H : (if 0 ≤ (j2) then (if (j2) < (a8.length : Int) then (if 0 ≤ (rd a8 (j2)) then (if (rd a8 (j2)) < (b0.length : Int) then (spec_takeShapes.j0 k (!(rdOf false b0 (rd a8 (j2)))) 1 b2 b0 a8 b1 b5) else (none)) else (none)) else (none)) else (none)) = some (r1,r2,r3,r4,r5,r6) := by first|(rw [n9] at H;exact H)|(simp only [n9] at H ⊢;exact H)
   have W7 : (IntKind.i64.wrap ((a8.length : Int) - 2)) = j2 := (i64_w _).trans n9
   by_cases c91 : 0 ≤ (j2)
   rotate_left
   ·rw [if_neg c91] at H
    exact absurd H (by simp)
   rw [if_pos c91] at H
   have a0L : decide (0 ≤ (j2)) = true := deT c91
   clear c91
   by_cases c92 : (j2) < (a8.length : Int)
   rotate_left
   ·rw [if_neg c92] at H
    exact absurd H (by simp)
   rw [if_pos c92] at H
   have a0M : decide ((j2) < (a8.length : Int)) = true := deT c92
   clear c92
   by_cases c93 : 0 ≤ (rd a8 (j2))
   rotate_left
   ·rw [if_neg c93] at H
    exact absurd H (by simp)
   rw [if_pos c93] at H
   have a0N : decide (0 ≤ (rd a8 (j2))) = true := deT c93
   clear c93
   by_cases c94 : (rd a8 (j2)) < (b0.length : Int)
   rotate_left
   ·rw [if_neg c94] at H
    exact absurd H (by simp)
   rw [if_pos c94] at H
   have a0O : decide ((rd a8 (j2)) < (b0.length : Int)) = true := deT c94
   clear c94
   have H' := As_ H
   clear H
   try go_wp2
   have n0_ := As_ (Kd.R_drew b6.out)
   have n1_ := As_ (Kd.R_drew b7.out)
   have n2_ := As_ (Kd.R_drew b9.out)
   have n3_ := As_ (Kd.R_drew b4.out)
   have n4_ := As_ (bkD a7.out)
   have n5_ := As_ (bkD b8.out)
   have n6_ := As_ (bkD a9.out)
   have n7_ := As_ (Kept.drew HK.out)
   have n8_ := As_ (bwD HB.out)
   clear b6 b7 b9 b4 a7 b8 a9 HK HB
   revert n0_ n1_ n2_ n3_ n4_ n5_ n6_ n7_ n8_;intro b6 b7 b9 b4 a7 b8 a9 HK HB
   have p743 : 0 ≤ ((j2) : Int) := odT zA_
   have q743 : (j2) < (a8.length : Int) := odT zA_
   obtain ⟨ad743,e743,hx743_0⟩ := Kd.at_int (Kd.R_reads' b9.out).2.2 (j2) p743 q743
   cases e743
   replace p743 := eq_true p743
   replace q743 := eq_true q743
   have p744 : 0 ≤ ((rd a8 (j2)) : Int) := odT zA_
   have q744 : (rd a8 (j2)) < (b0.length : Int) := odT zA_
   obtain ⟨ad744,e744,hx744_0⟩ := Kd.at_bool (Kd.R_reads' b7.out).2.2 (rd a8 (j2)) p744 q744
   cases e744
   replace p744 := eq_true p744
   replace q744 := eq_true q744
   refine start_ (n := 21) (S := fun w' => w'.cell? ⟨b3,0,none⟩ = some (.slice Ao6 b2.length co6) ∧ w'.cell? ⟨b3,1,none⟩ = some (.slice (some ad744) b0.length co7) ∧ w'.cell? ⟨b3,2,none⟩ = some (.slice (some ad743) a8.length co8) ∧ w'.cell? ⟨b3,3,none⟩ = some (.slice Ao9 b1.length co9) ∧ w'.cell? ⟨b3,4,none⟩ = some (.bool b5) ∧ w'.cell? (ad743.add ((j2)).toNat) = some (.int .i64 (rd a8 (j2))) ∧ w'.cell? (ad744.add ((rd a8 (j2))).toNat) = some (.bool (rdOf false b0 (rd a8 (j2))))) (ds := []) (bl_ 0 21) (by kernel_rfl) rfl rfl ⟨(bkC a7.out 0).trans rfl,(bkC a7.out 1).trans rfl,(bkC a7.out 2).trans rfl,(bkC a7.out 3).trans rfl,(bkC a7.out 4).trans rfl,hx743_0,hx744_0⟩ (fun hHeld => ?_);refine with_tabW spec_takeShapes.tab22 spec_takeShapes.bits22 (fun HT_ HW_ => ?_)
   generalize w18.drew = w95 at b6 b7 b9 b4 a7 b8 a9 HK HB hx743_0 hx744_0 hHeld ⊢
   refine pQ 0 73 (bl_ 1 21) HT_ rfl ?_
   refine pQ 1 74 (bl_ 3 21) HT_ rfl ?_
   refine pQ 2 75 (bl_ 7 21) HT_ rfl ?_
   refine pQ 3 76 (bl_ 15 21) HT_ rfl ?_
   refine pQ 4 77 (bl_ 31 21) HT_ rfl ?_
   refine pQ 5 78 (bl_ 63 21) HT_ rfl ?_
   refine pQ 6 79 (bl_ 127 21) HT_ rfl ?_
   refine pQ 8 81 (bl_ 383 21) HT_ rfl ?_
   refine pQ 10 83 (bl_ 1407 21) HT_ rfl ?_
   refine tP 7 80 (bl_ 1535 21) ?_ HT_ HW_ rfl (.inl ⟨by rfl,?_⟩) hHeld ?_ ?_ ?_;rotate_left;(rintro w' ⟨s0,s1,s2,s3,s4,s5,s6⟩;go_simp;with_reducible rfl);rotate_left;(simp only [Act.put,sq_,i64_w,i32_w];rfl)
   refine tP 9 82 (bl_ 2047 21) ?_ HT_ HW_ rfl (.inl ⟨by rfl,?_⟩) hHeld ?_ ?_ ?_;rotate_left;(rintro w' ⟨s0,s1,s2,s3,s4,s5,s6⟩;go_simp;with_reducible rfl);rotate_left;(simp only [Act.put,sq_,i64_w,i32_w];rfl)
   refine tP 11 84 (bl_ 4095 21) ?_ HT_ HW_ rfl (.inl ⟨by rfl,?_⟩) hHeld ?_ ?_ ?_;rotate_left;(rintro w' ⟨s0,s1,s2,s3,s4,s5,s6⟩;go_simp;with_reducible rfl);rotate_left;(simp only [Act.put,sq_,i64_w,i32_w];rfl)
   refine pQ 12 85 (bl_ 8191 21) HT_ rfl ?_
   refine pQ 13 86 (bl_ 16383 21) HT_ rfl ?_
   refine pQ 14 87 (bl_ 32767 21) HT_ rfl ?_
   refine tP 15 88 (bl_ 65535 21) ?_ HT_ HW_ rfl (.inl ⟨by rfl,?_⟩) hHeld ?_ ?_ ?_;rotate_left;(rintro w' ⟨s0,s1,s2,s3,s4,s5,s6⟩;go_simp;with_reducible rfl);rotate_left;(simp only [Act.put,sq_,i64_w,i32_w];rfl)
   refine pQ 16 89 (bl_ 131071 21) HT_ rfl ?_
   refine tP 17 90 (bl_ 262143 21) ?_ HT_ HW_ rfl (.inl ⟨by rfl,?_⟩) hHeld ?_ ?_ ?_;rotate_left;(rintro w' ⟨s0,s1,s2,s3,s4,s5,s6⟩;go_simp;with_reducible rfl);rotate_left;(simp only [Act.put,sq_,i64_w,i32_w];rfl)
   refine pQ 18 91 (bl_ 524287 21) HT_ rfl ?_
   refine pQ 19 92 (bl_ 1048575 21) HT_ rfl ?_
   refine pQ 20 8 (bl_ 2097151 21) HT_ rfl ?_
   refine done_ (done_of HT_.out (by kernel_rfl)) ?_
   try go_wp2
   go_meet
   case rel => exact ⟨_,(!(rdOf false b0 (rd a8 (j2)))),(by first|rfl|(simp;done)|(simp only [← n9] <;> (first|rfl|simp))|(simp [*];done)),H',⟨by first|omega|exact Nat.le_refl _⟩,⟨b6.out⟩,⟨b7.out⟩,⟨b9.out⟩,⟨b4.out⟩,⟨a7.out⟩,⟨b8.out⟩,⟨a9.out⟩,⟨zq3 HK.out e5.out e8.out g5.out⟩,⟨zb3 HB.out e4.out e6.out g6.out⟩⟩
  case rest =>
   clear HC87
   obtain ⟨kq,n8,rfl,HA,HJ86,e9,d8,e3,g4,a7,b8,a9,HK,HB⟩ := hcut
   cases kq with
   | zero => exact absurd HA.out (fun h_ => (by cases h_))
   | succ kj86 =>
    have H := HA.out
    clear HA
    simp only [spec_takeShapes.j0] at H
    by_cases c98 : n8 = true
    rotate_left
    ·replace c98 := Bool.eq_false_iff.mpr c98
     subst c98
     have H1 : (spec_takeShapes.j1 kj86 false 1 b2 b0 a8 b1 b5) = some (r1,r2,r3,r4,r5,r6) := by rw [if_neg (show ¬ (false = true) by decide)] at H;exact H
     clear H
     have H := H1
     clear H1
     have H' := As_ H
     clear H
     go_wp2
     go_meet
     case rel => exact ⟨_,(false),(1),(b2),(b0),(a8),(b1),(b5),(false),(.slice Ao6 b2.length co6),(.slice Ao7 b0.length co7),(.slice Ao8 a8.length co8),(.slice Ao9 b1.length co9),zT_,zT_,H',⟨by have := HJ86.out;first|omega|exact Nat.le_refl _⟩,⟨e9.out⟩,⟨d8.out⟩,⟨e3.out⟩,⟨g4.out⟩,⟨a7.out⟩,⟨b8.out⟩,⟨a9.out⟩,⟨zq3 HK.out e5.out e8.out g5.out⟩,⟨zb3 HB.out e4.out e6.out g6.out⟩⟩
    subst c98
    have H1 : (if 0 ≤ (wrap64 ((a8.length : Int) - 2)) then (if (wrap64 ((a8.length : Int) - 2)) < (a8.length : Int) then (if 0 ≤ (rd a8 (wrap64 ((a8.length : Int) - 2))) then (if (rd a8 (wrap64 ((a8.length : Int) - 2))) < (b0.length : Int) then (spec_takeShapes.j1 kj86 true 1 b2 (b0.set ((rd a8 (wrap64 ((a8.length : Int) - 2))) : Int).toNat true) a8 b1 b5) else (none)) else (none)) else (none)) else (none)) = some (r1,r2,r3,r4,r5,r6) := by rw [if_pos rfl] at H;exact H
    clear H
    have H := H1
    clear H1
    obtain ⟨i9,o9⟩ : ∃ j_ : Int,(wrap64 ((a8.length : Int) - 2)) = j_ := ⟨_,rfl⟩
    replace H : (if 0 ≤ (i9) then (if (i9) < (a8.length : Int) then (if 0 ≤ (rd a8 (i9)) then (if (rd a8 (i9)) < (b0.length : Int) then (spec_takeShapes.j1 kj86 true 1 b2 (b0.set ((rd a8 (i9)) : Int).toNat true) a8 b1 b5) else (none)) else (none)) else (none)) else (none)) = some (r1,r2,r3,r4,r5,r6) := by first|(rw [o9] at H;exact H)|(simp only [o9] at H ⊢;exact H)
    have W8 : (IntKind.i64.wrap ((a8.length : Int) - 2)) = i9 := (i64_w _).trans o9
    by_cases c100 : 0 ≤ (i9)
    rotate_left
    ·rw [if_neg c100] at H
     exact absurd H (by simp)
    rw [if_pos c100] at H
    have W9 : decide (0 ≤ (i9)) = true := deT c100
    clear c100
    by_cases c101 : (i9) < (a8.length : Int)
    rotate_left
    ·rw [if_neg c101] at H
     exact absurd H (by simp)
    rw [if_pos c101] at H
    have X0 : decide ((i9) < (a8.length : Int)) = true := deT c101
    clear c101
    by_cases c102 : 0 ≤ (rd a8 (i9))
    rotate_left
    ·rw [if_neg c102] at H
     exact absurd H (by simp)
    rw [if_pos c102] at H
    have X1 : decide (0 ≤ (rd a8 (i9))) = true := deT c102
    clear c102
    by_cases c103 : (rd a8 (i9)) < (b0.length : Int)
    rotate_left
    ·rw [if_neg c103] at H
     exact absurd H (by simp)
    rw [if_pos c103] at H
    have X2 : decide ((rd a8 (i9)) < (b0.length : Int)) = true := deT c103
    clear c103
    obtain ⟨B0,p0⟩ : ∃ y_ : List Bool,y_ = (b0.set ((rd a8 (i9)) : Int).toNat true) := ⟨_,rfl⟩
    replace H : (spec_takeShapes.j1 kj86 true 1 b2 B0 a8 b1 b5) = some (r1,r2,r3,r4,r5,r6) := zH_ H p0
    have B1 := As_ p0
    clear p0
    have H' := As_ H
    clear H
    try go_wp2
    have n0_ := As_ (Kd.R_drew e9.out)
    have n1_ := As_ (Kd.R_drew d8.out)
    have n2_ := As_ (Kd.R_drew e3.out)
    have n3_ := As_ (Kd.R_drew g4.out)
    have n4_ := As_ (bkD a7.out)
    have n5_ := As_ (bkD b8.out)
    have n6_ := As_ (bkD a9.out)
    have n7_ := As_ (Kept.drew HK.out)
    have n8_ := As_ (bwD HB.out)
    clear e9 d8 e3 g4 a7 b8 a9 HK HB
    revert n0_ n1_ n2_ n3_ n4_ n5_ n6_ n7_ n8_;intro e9 d8 e3 g4 a7 b8 a9 HK HB
    have p745 : 0 ≤ ((i9) : Int) := odT zA_
    have q745 : (i9) < (a8.length : Int) := odT zA_
    obtain ⟨ad745,e745,hx745_0⟩ := Kd.at_int (Kd.R_reads' e3.out).2.2 (i9) p745 q745
    cases e745
    replace p745 := eq_true p745
    replace q745 := eq_true q745
    have p104 : 0 ≤ ((rd a8 (i9)) : Int) := odT zA_
    have q104 : ((rd a8 (i9)) : Int) < ((b0.length : Int) : Int) := odT zA_
    obtain ⟨go104,co104,eo104,q5,gl104,cl104,HG104⟩ := Kd.R_form d8.out (by omega)
    (first|cases eo104|(injection eo104 with ea_ en_ ec_;(first|subst ea_|(injection ea_ with ea_;subst ea_));subst ec_;clear en_))
    have GB104 := As_ q5
    have GG104 := As_ HG104
    clear q5 gl104 HG104
    have HMgo104 := As_ (show ((d0 go104 ∨ d5 go104 ∨ d1 go104 ∨ d2 go104) ∨ w.heap.size ≤ go104) from (d8.out.1 _ rfl))
    obtain ⟨hx104_0,hf104_0⟩ := Kd.R_celln false d8.out ((rd a8 (i9)) : Int) p104 q104
    replace p104 := eq_true p104
    replace q104 := eq_true q104
    have HP106 := Kd.R_putn d8.out ((rd a8 (i9)) : Int) true
    rw [← B1.out] at HP106
    have HQ106 := As_ HP106
    clear HP106
    refine start_ (n := 12) (S := fun w' => w'.cell? ⟨b3,0,none⟩ = some (.slice Ao6 b2.length co6) ∧ w'.cell? ⟨b3,1,none⟩ = some (.slice (some ⟨go104,0,none⟩) b0.length co7) ∧ w'.cell? ⟨b3,2,none⟩ = some (.slice (some ad745) a8.length co8) ∧ w'.cell? ⟨b3,3,none⟩ = some (.slice Ao9 b1.length co9) ∧ w'.cell? ⟨b3,4,none⟩ = some (.bool b5) ∧ w'.cell? (ad745.add ((i9)).toNat) = some (.int .i64 (rd a8 (i9)))) (ds := [11]) (bl_ 0 12) (by kernel_rfl) rfl rfl ⟨(bkC a7.out 0).trans rfl,(bkC a7.out 1).trans rfl,(bkC a7.out 2).trans rfl,(bkC a7.out 3).trans rfl,(bkC a7.out 4).trans rfl,hx745_0⟩ (fun hHeld => ?_);refine with_tabW spec_takeShapes.tab24 spec_takeShapes.bits24 (fun HT_ HW_ => ?_)
    generalize wc.drew = w105 at e9 d8 e3 g4 a7 b8 a9 HK HB GG104 HQ106 hf104_0 hx104_0 hx745_0 hHeld ⊢
    refine pQ 0 94 (bl_ 1 12) HT_ rfl ?_
    refine pQ 2 96 (bl_ 5 12) HT_ rfl ?_
    refine pQ 4 98 (bl_ 21 12) HT_ rfl ?_
    refine tP 1 95 (bl_ 23 12) ?_ HT_ HW_ rfl (.inl ⟨by rfl,?_⟩) hHeld ?_ ?_ ?_;rotate_left;(rintro w' ⟨s0,s1,s2,s3,s4,s5⟩;go_simp;with_reducible rfl);rotate_left;(simp only [Act.put,sq_,i64_w,i32_w];rfl)
    refine tP 3 97 (bl_ 31 12) ?_ HT_ HW_ rfl (.inl ⟨by rfl,?_⟩) hHeld ?_ ?_ ?_;rotate_left;(rintro w' ⟨s0,s1,s2,s3,s4,s5⟩;go_simp;with_reducible rfl);rotate_left;(simp only [Act.put,sq_,i64_w,i32_w];rfl)
    refine tP 5 99 (bl_ 63 12) ?_ HT_ HW_ rfl (.inl ⟨by rfl,?_⟩) hHeld ?_ ?_ ?_;rotate_left;(rintro w' ⟨s0,s1,s2,s3,s4,s5⟩;go_simp;with_reducible rfl);rotate_left;(simp only [Act.put,sq_,i64_w,i32_w];rfl)
    refine pQ 6 100 (bl_ 127 12) HT_ rfl ?_
    refine pQ 7 101 (bl_ 255 12) HT_ rfl ?_
    refine pQ 8 102 (bl_ 511 12) HT_ rfl ?_
    refine tP 9 103 (bl_ 1023 12) ?_ HT_ HW_ rfl (.inl ⟨by rfl,?_⟩) hHeld ?_ ?_ ?_;rotate_left;(rintro w' ⟨s0,s1,s2,s3,s4,s5⟩;go_simp;with_reducible rfl);rotate_left;(simp only [Act.put,sq_,i64_w,i32_w];rfl)
    refine pQ 10 104 (bl_ 2047 12) HT_ rfl ?_
    refine last_ (i := 11) (N := none) (bl_ 4095 12) rfl rfl (one_of HT_.out (by kernel_rfl)) (by decide) (fun K hK => ?_)
    refine skip_ (w1 := ?_) (by rfl) rfl ?_ ?_
    rotate_left
    ·go_simp
     rfl
    refine hK.out _ _ ?_
    clear hK K
    refine done_ (done_of HT_.out (by kernel_rfl)) ?_
    try go_wp2
    go_meet
    case rel => exact ⟨_,(true),(1),(b2),(B0),(a8),(b1),(b5),(false),(.slice Ao6 b2.length co6),(.slice (some ⟨go104,0,none⟩) b0.length co7),(.slice (some ad745) a8.length co8),(.slice Ao9 b1.length co9),zT_,zT_,H',⟨by have := HJ86.out;first|omega|exact Nat.le_refl _⟩,⟨by exact Kd.R_mono (Kd.R_far (p := ⟨go104,((rd a8 (i9)) : Int).toNat,none⟩) (Kd.R_types e9.out GG104.out (by decide)) (fun _ hk => hk.2) (.bool true)) (fun _ hk => ⟨hk.1.1,⟨hk.1.2.1,hk.1.2.2⟩⟩)⟩,⟨HQ106.out⟩,⟨by exact Kd.R_mono (Kd.R_far (p := ⟨go104,((rd a8 (i9)) : Int).toNat,none⟩) (Kd.R_types e3.out GG104.out (by decide)) (fun _ hk => hk.2) (.bool true)) (fun _ hk => ⟨hk.1.1,⟨hk.1.2.1,hk.1.2.2⟩⟩)⟩,⟨by exact Kd.R_mono (Kd.R_far (p := ⟨go104,((rd a8 (i9)) : Int).toNat,none⟩) (Kd.R_types g4.out GG104.out (by decide)) (fun _ hk => hk.2) (.bool true)) (fun _ hk => ⟨hk.1.1,⟨hk.1.2.1,hk.1.2.2⟩⟩)⟩,⟨by refine blk_far ?_ (by have h_ := Kd.R_ne d8.out a7.out (by decide);intro e_;exact h_ (by rw [e_];rfl)) _;exact a7.out⟩,⟨by refine blk_far ?_ (by have h_ := Kd.R_ne d8.out b8.out (by decide);intro e_;exact h_ (by rw [e_];rfl)) _;exact b8.out⟩,⟨by refine blk_far ?_ (by have h_ := Kd.R_ne d8.out a9.out (by decide);intro e_;exact h_ (by rw [e_];rfl)) _;exact a9.out⟩,⟨by repeat (first|(with_reducible first|exact HK.out|apply Kept.alloc|apply Kept.drewN|apply Kept.drew|refine Kept.setCell ?_ HMgo104.out _|refine Kept.setCell ?_ (.inr e5.out) _|refine Kept.setCell ?_ (.inr e8.out) _|refine Kept.setCell ?_ (.inr g5.out) _)|exact HK.out)⟩,⟨zb4 HB.out GB104.out e4.out e6.out g6.out⟩⟩
 case rest =>
  clear HC5
  obtain ⟨kq,p2,n1,i2,i3,d3,i4,g9,l5,j6,m2,j7,j8,rfl,rfl,HA,HJ4,e9,d8,e3,g4,a7,b8,a9,HK,HB⟩ := hcut
  cases kq with
  | zero => exact absurd HA.out (fun h_ => (by cases h_))
  | succ kj4 =>
   have H := HA.out
   clear HA
   simp only [spec_takeShapes.j1] at H
   by_cases c125 : p2 = true
   rotate_left
   ·replace c125 := Bool.eq_false_iff.mpr c125
    subst c125
    have H1 : (some (i2,i3,d3,i4,g9,false)) = some (r1,r2,r3,r4,r5,r6) := by rw [if_neg (show ¬ (false = true) by decide)] at H;exact H
    clear H
    have H := H1
    clear H1
    simp only [Option.some.injEq,Prod.mk.injEq] at H
    obtain ⟨rfl,rfl,rfl,rfl,rfl,rfl⟩ := H
    have X3 := g7.out
    have X4 := e0.out
    have X5 := g8.out
    have X6 := d9.out
    have B2 : wc.cell? ⟨b3,0,none⟩ = some (j6) := (bkC a7.out 0).trans rfl
    have B3 : wc.cell? ⟨b3,1,none⟩ = some (m2) := (bkC a7.out 1).trans rfl
    have B4 : wc.cell? ⟨b3,2,none⟩ = some (j7) := (bkC a7.out 2).trans rfl
    have B5 : wc.cell? ⟨b3,3,none⟩ = some (j8) := (bkC a7.out 3).trans rfl
    have B6 : wc.cell? ⟨b3,4,none⟩ = some (.bool g9) := (bkC a7.out 4).trans rfl
    have B7 := bkF a7.out 0
    have B8 := bkF a7.out 1
    have B9 := bkF a7.out 2
    have C0 := bkF a7.out 3
    have C1 := bkF a7.out 4
    obtain ⟨Ao142,co142,eo142⟩ := Kd.R_slice e9.out
    subst eo142
    have X7 := i7.out
    have X8 := i6.out
    have C2 : wc.cell? ⟨d4,0,none⟩ = some (.slice none 0 0) := (bkC a9.out 0).trans rfl
    have C3 : wc.cell? ⟨d4,1,none⟩ = some (.slice none 0 0) := (bkC a9.out 1).trans rfl
    have C4 : wc.cell? ⟨d4,2,none⟩ = some (.slice none 0 0) := (bkC a9.out 2).trans rfl
    have C5 : wc.cell? ⟨d4,3,none⟩ = some (.slice none 0 0) := (bkC a9.out 3).trans rfl
    have C6 : wc.cell? ⟨d4,4,none⟩ = some (.bool l5) := (bkC a9.out 4).trans rfl
    have C7 := bkF a9.out 0
    have C8 := bkF a9.out 1
    have C9 := bkF a9.out 2
    have D0 := bkF a9.out 3
    have D1 := bkF a9.out 4
    obtain ⟨Ao145,co145,eo145⟩ := Kd.R_slice d8.out
    subst eo145
    obtain ⟨Ao146,co146,eo146⟩ := Kd.R_slice e3.out
    subst eo146
    obtain ⟨Ao147,co147,eo147⟩ := Kd.R_slice g4.out
    subst eo147
    go_wp2
    refine bodyPost_ret (results_ct rfl _ _ d4 120 #[.slice Ao142 i2.length co142,.slice Ao145 i3.length co145,.slice Ao146 d3.length co146,.slice Ao147 i4.length co147,.bool g9] (0,0) _ rfl (p5 a9.out) Try.underlying120 rfl (by kernel_rfl)) rfl ?_
    exact ⟨_,_,_,_,zE_,by exact Kd.R_mono (rX5 e9.out a9.out) (fun _ hk => ⟨hk.1.1,⟨hk.1.2.1,hk.1.2.2⟩⟩),by exact Kd.R_mono (rX5 d8.out a9.out) (fun _ hk => hk.1),by exact Kd.R_mono (rX5 e3.out a9.out) (fun _ hk => ⟨hk.1.1,⟨hk.1.2.1,hk.1.2.2⟩⟩),by exact Kd.R_mono (rX5 g4.out a9.out) (fun _ hk => ⟨hk.1.1,⟨hk.1.2.1,hk.1.2.2⟩⟩),zb3 HB.out e4.out e6.out g6.out,zq3 HK.out e5.out e8.out g5.out⟩

   subst c125
   have H1 : (if 0 ≤ (wrap64 ((d3.length : Int) - n1)) then (if (wrap64 ((d3.length : Int) - n1)) ≤ (d3.length : Int) then (some (i2,i3,(d3.take ((wrap64 ((d3.length : Int) - n1)) : Int).toNat),i4,g9,true)) else (none)) else (none)) = some (r1,r2,r3,r4,r5,r6) := by rw [if_pos rfl] at H;exact H
   clear H
   have H := H1
   clear H1
   obtain ⟨j5,n0⟩ : ∃ j_ : Int,(wrap64 ((d3.length : Int) - n1)) = j_ := ⟨_,rfl⟩
   replace H : (if 0 ≤ (j5) then (if (j5) ≤ (d3.length : Int) then (some (i2,i3,(d3.take ((j5) : Int).toNat),i4,g9,true)) else (none)) else (none)) = some (r1,r2,r3,r4,r5,r6) := by first|(rw [n0] at H;exact H)|(simp only [n0] at H ⊢;exact H)
   have V0 : (IntKind.i64.wrap ((d3.length : Int) - n1)) = j5 := (i64_w _).trans n0
   by_cases c127 : 0 ≤ (j5)
   rotate_left
   ·rw [if_neg c127] at H
    exact absurd H (by simp)
   rw [if_pos c127] at H
   have X9 := eq_true c127
   have Y0 : decide (0 ≤ (j5)) = true := deT c127
   clear c127
   by_cases c128 : (j5) ≤ (d3.length : Int)
   rotate_left
   ·rw [if_neg c128] at H
    exact absurd H (by simp)
   rw [if_pos c128] at H
   have Y1 := eq_true c128
   have Y2 : decide ((j5) ≤ (d3.length : Int)) = true := deT c128
   clear c128
   obtain ⟨m9,p1⟩ : ∃ y_ : List Int,y_ = (d3.take ((j5) : Int).toNat) := ⟨_,rfl⟩
   replace H : (some (i2,i3,m9,i4,g9,true)) = some (r1,r2,r3,r4,r5,r6) := zH_ H p1
   have q6 := As_ p1
   clear p1
   simp only [Option.some.injEq,Prod.mk.injEq] at H
   obtain ⟨rfl,rfl,rfl,rfl,rfl,rfl⟩ := H
   have Y3 := g7.out
   have Y4 := e0.out
   have Y5 := g8.out
   have Y6 := d9.out
   have D2 : wc.cell? ⟨b3,0,none⟩ = some (j6) := (bkC a7.out 0).trans rfl
   have D3 : wc.cell? ⟨b3,1,none⟩ = some (m2) := (bkC a7.out 1).trans rfl
   have D4 : wc.cell? ⟨b3,2,none⟩ = some (j7) := (bkC a7.out 2).trans rfl
   have D5 : wc.cell? ⟨b3,3,none⟩ = some (j8) := (bkC a7.out 3).trans rfl
   have D6 : wc.cell? ⟨b3,4,none⟩ = some (.bool g9) := (bkC a7.out 4).trans rfl
   have D7 := bkF a7.out 0
   have D8 := bkF a7.out 1
   have D9 := bkF a7.out 2
   have E0 := bkF a7.out 3
   have E1 := bkF a7.out 4
   obtain ⟨Ao132,co132,eo132⟩ := Kd.R_slice e3.out
   subst eo132
   have q133 : ((j5) : Int) ≤ ((d3.length : Int) : Int) := odT zA_
   obtain ⟨i0133,hi0133,_,hsz133,_⟩ := info_parts info3
   have hcut133 := cut_to (P := Try.prog) 22 3 .i64 Try.underlying22 hi0133 Ao132 d3.length co132 (j5) (odT zA_) q133 (Kd.R_reads' e3.out).2.1
   have hr133 := Kd.R_take (m := ((j5) : Int).toNat) e3.out (by omega)
   have q7 : m9.length = ((j5) : Int).toNat := (by rw [q6.out,List.length_take];omega)
   rw [← q6.out] at hr133
   rw [← q7] at hr133 hcut133
   clear q7 hi0133 hsz133 e3
   have E2 := As_ hr133
   clear hr133
   (try simp only [own_len Ao132 d3.length m9.length co132] at e9)
   (try simp only [own_len Ao132 d3.length m9.length co132] at d8)
   (try simp only [own_len Ao132 d3.length m9.length co132] at g4)
   replace q133 := eq_true q133
   obtain ⟨Ao134,co134,eo134⟩ := Kd.R_slice e9.out
   subst eo134
   have Y7 := i7.out
   have Y8 := i6.out
   have E3 : wc.cell? ⟨d4,0,none⟩ = some (.slice none 0 0) := (bkC a9.out 0).trans rfl
   have E4 : wc.cell? ⟨d4,1,none⟩ = some (.slice none 0 0) := (bkC a9.out 1).trans rfl
   have E5 : wc.cell? ⟨d4,2,none⟩ = some (.slice none 0 0) := (bkC a9.out 2).trans rfl
   have E6 : wc.cell? ⟨d4,3,none⟩ = some (.slice none 0 0) := (bkC a9.out 3).trans rfl
   have E7 : wc.cell? ⟨d4,4,none⟩ = some (.bool l5) := (bkC a9.out 4).trans rfl
   have E8 := bkF a9.out 0
   have E9 := bkF a9.out 1
   have F0 := bkF a9.out 2
   have F1 := bkF a9.out 3
   have F2 := bkF a9.out 4
   obtain ⟨Ao137,co137,eo137⟩ := Kd.R_slice d8.out
   subst eo137
   obtain ⟨Ao138,co138,eo138⟩ := Kd.R_slice g4.out
   subst eo138
   go_wp2
   refine bodyPost_ret (results_ct rfl _ _ d4 120 #[.slice Ao134 i2.length co134,.slice Ao137 i3.length co137,.slice Ao132 m9.length co132,.slice Ao138 i4.length co138,.bool g9] (0,0) _ rfl (by apply p5;refine blk_far ?_ d9.out _;exact a9.out) Try.underlying120 rfl (by kernel_rfl)) rfl ?_
   exact ⟨_,_,_,_,by first|rfl|(simp [errW_none,errW_some] <;> rfl)|(simp only [← n0];first|rfl|(simp [errW_none,errW_some] <;> rfl))|(simp [*,errW_none,errW_some] <;> rfl),by exact Kd.R_mono (rF5 (Kd.R_far (p := ⟨b3,2,none⟩) (Kd.R_types (rT e9.out a7.out) a9.out (by decide)) (fun _ hk => hk.1.2) (.slice Ao132 m9.length co132)) (fun _ hk => hk.2)) (fun _ hk => ⟨hk.1.1.1,⟨hk.1.1.2.1,hk.1.1.2.2⟩⟩),by exact Kd.R_mono (rF5 (Kd.R_far (p := ⟨b3,2,none⟩) (Kd.R_types (rT d8.out a7.out) a9.out (by decide)) (fun _ hk => hk.1.2) (.slice Ao132 m9.length co132)) (fun _ hk => hk.2)) (fun _ hk => hk.1.1),by exact Kd.R_mono (rF5 (Kd.R_far (p := ⟨b3,2,none⟩) (Kd.R_types (rT E2.out a7.out) a9.out (by decide)) (fun _ hk => hk.1.2) (.slice Ao132 m9.length co132)) (fun _ hk => hk.2)) (fun _ hk => ⟨hk.1.1.1,⟨hk.1.1.2.1,hk.1.1.2.2⟩⟩),by exact Kd.R_mono (rF5 (Kd.R_far (p := ⟨b3,2,none⟩) (Kd.R_types (rT g4.out a7.out) a9.out (by decide)) (fun _ hk => hk.1.2) (.slice Ao132 m9.length co132)) (fun _ hk => hk.2)) (fun _ hk => ⟨hk.1.1.1,⟨hk.1.1.2.1,hk.1.1.2.2⟩⟩),zb3 HB.out e4.out e6.out g6.out,zq3 HK.out e5.out e8.out g5.out⟩
end Go.Proofs.Ytbokjhdhpmmpfaa.Q
