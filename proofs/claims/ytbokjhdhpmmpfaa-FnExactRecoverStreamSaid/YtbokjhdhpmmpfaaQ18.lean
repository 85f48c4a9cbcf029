-- Written by wip/tools/qprint.py (a program of this claim's author) by means of the kit's printer.
import Derived.Test.YtbokjhdhpmmpfaaQ0
namespace Go.Proofs.Ytbokjhdhpmmpfaa.Q
open Go.RowKit Go.Proofs.YtbokjhdhpmmpfaaW.PrintWords Go.Proofs.YtbokjhdhpmmpfaaW.PrintLast Go.Proofs.YtbokjhdhpmmpfaaW.PrintMore
attribute [local go_sem] max2_int min2_int max_two min_two max_three min_three max_four min_four   -- for this text's walks alone
set_option linter.unusedVariables false
set_option linter.unusedSimpArgs false

/-! ### laws_markOpS: function 18 -/
def laws_markOpS.l0 : Nat → List (S75) → Int → Int → Option (Int × (List (S75)))
 | 0,_,_,_ => none
 | k + 1,x0,x1,x5 => if x5 < (x0.length : Int) then (if 0 ≤ x5 then ((some (x0.set (x5 : Int).toNat (⟨x1,(rd_T75 x0 x5).f1⟩ : S75) : List (S75))).bind fun y240 => (laws_markOpS.l0 k (y240.set (x5 : Int).toNat (⟨(rd_T75 y240 x5).f0,wrap64 (x1 + 1)⟩ : S75)) (wrap64 ((wrap64 (x1 + 1)) + 1)) (wrap64 (x5 + 1)))) else (none)) else (some (x1,x0))
def laws_markOpS.f (k : Nat) (l0 : List (S75)) (a1 : Int) : Option (Int × (List (S75))) := laws_markOpS.l0 k l0 a1 0
set_option maxRecDepth 100000 in
theorem laws_markOpS.mono_l : ∀ k,(∀ y0 y1 y2,LeO (laws_markOpS.l0 k y0 y1 y2) (laws_markOpS.l0 (k + 1) y0 y1 y2))
 | 0 => fun _ _ _ r h => (by cases h)
 | k + 1 => by
  have ih0 := laws_markOpS.mono_l k
  ·intro y0 y1 y2
   unfold laws_markOpS.l0
   repeat' first
   | (with_reducible exact ih0 _ _ _)
   | (with_reducible exact LeO.refl _)
   | (with_reducible exact LeO.none _)
   | (with_reducible refine LeO.ite ?_ ?_)
   | (with_reducible refine LeO.bind ?_ (fun _ => ?_))
   | exact ih0 _ _ _
   | exact LeO.none _
   | refine LeO.ite ?_ ?_
   | refine LeO.bind ?_ (fun _ => ?_)
set_option maxRecDepth 100000 in
theorem laws_markOpS.mono : ∀ a0 a1 k,LeO (laws_markOpS.f k a0 a1) (laws_markOpS.f (k + 1) a0 a1) := by
 intro a0 a1 k
 have ih0 := laws_markOpS.mono_l k
 unfold laws_markOpS.f
 repeat' first
   | (with_reducible exact ih0 _ _ _)
   | (with_reducible exact LeO.refl _)
   | (with_reducible exact LeO.none _)
   | (with_reducible refine LeO.ite ?_ ?_)
   | (with_reducible refine LeO.bind ?_ (fun _ => ?_))
   | exact ih0 _ _ _
   | exact LeO.none _
   | refine LeO.ite ?_ ?_
   | refine LeO.bind ?_ (fun _ => ?_)
set_option maxHeartbeats 8000000 in
set_option maxRecDepth 100000 in
theorem laws_markOpS.calls (k : Nat) (P0_ : Nat → Prop) (u9000_ : Value) (l0 : List (S75)) (a1 : Int) (r1 : Int) (r2 : List (S75)) (w0 w : World) (hB : Below w0.heap.size w0 w) (ho0 : Kd.R k75 75 w w0.heap.size P0_ u9000_ l0) (h : laws_markOpS.f k l0 a1 = some (r1,r2)) :
  Calls Try.prog 18 #[u9000_,.int .i64 a1] w fun e w' => e = .returned (.int .i64 r1) ∧ Kd.R k75 75 w' w0.heap.size (fun k_ => (P0_ k_ ∨ w.heap.size ≤ k_)) u9000_ r2 ∧ Below w0.heap.size w0 w' ∧ Kept w w' (fun k_ => P0_ k_) := by
 have HO0 := As_ (show Kd.R k75 75 w w0.heap.size (fun k_ => (P0_ k_ ∨ w.heap.size ≤ k_)) u9000_ l0 from Kd.R_mono ho0 (fun k_ hk => (.inl hk)))
 have HK := As_ (Kept.refl w (fun k_ => P0_ k_))
 have HW0 := As_ hB.size
 have HB := As_ hB
 clear hB
 have H : (laws_markOpS.l0 k l0 a1 0) = some (r1,r2) := h
 clear h
 have H' := As_ H
 clear H
 go_enter Try.func18,Try.ntmps18
 go_wp2
 go_loopg [1,5] k (fun kq v1 v5 w' => ∃ (x0_1 : List (S75)) (x1_1 : Int) (x5_1 : Int),v1 = .int .i64 x1_1 ∧ v5 = .int .i64 x5_1 ∧ Aside0 (laws_markOpS.l0 kq x0_1 x1_1 x5_1 = some (r1,r2)) ∧ Aside0 (kq ≤ k) ∧ Aside0 (Kd.R k75 75 w' w0.heap.size (fun k_ => (P0_ k_ ∨ w.heap.size ≤ k_)) u9000_ x0_1) ∧ Aside0 (Kept w w' (fun k_ => P0_ k_)) ∧ Aside0 (Below w0.heap.size w0 w'))
 case atStart => exact ⟨(l0),(a1),(0),zT_,zT_,H',⟨Nat.le_refl _⟩,⟨by (with_reducible repeat (first|apply Kd.R_alloc|apply Kd.R_drewN|apply Kd.R_drew));exact HO0.out⟩,⟨zq0 HK.out⟩,⟨zb0 HB.out⟩⟩
 case round =>
  clear H'
  obtain ⟨x0_1,x1_1,x5_1,rfl,rfl,HA,HK1,HO_0,HK,HB⟩ := hrel
  cases gk with
  | zero => exact absurd HA.out (fun h_ => (by cases h_))
  | succ k1 =>
   have H := HA.out
   clear HA
   simp only [laws_markOpS.l0] at H
   by_cases c3 : x5_1 < (x0_1.length : Int)
   rotate_left
   ·rw [if_neg c3] at H
    have c3b0 : decide (x5_1 < (x0_1.length : Int)) = false := deF c3
    clear c3
    simp only [Option.some.injEq,Prod.mk.injEq] at H
    obtain ⟨rfl,rfl⟩ := H
    obtain ⟨Ao12,co12,eo12⟩ := Kd.R_slice HO_0.out
    subst eo12
    go_wp2
    go_ret
    exact ⟨zE_,by (with_reducible repeat (first|apply Kd.R_alloc|apply Kd.R_drewN|apply Kd.R_drew));exact HO_0.out,zb0 HB.out,zq0 HK.out⟩
   rw [if_pos c3] at H
   have c3b0 : decide (x5_1 < (x0_1.length : Int)) = true := deT c3
   clear c3
   by_cases c4 : 0 ≤ x5_1
   rotate_left
   ·rw [if_neg c4] at H
    exact absurd H (by simp)
   rw [if_pos c4] at H
   have c4b0 : decide (0 ≤ x5_1) = true := deT c4
   clear c4
   obtain ⟨y240,hy240⟩ : ∃ y_ : List (S75),y_ = (x0_1.set (x5_1 : Int).toNat (⟨x1_1,(rd_T75 x0_1 x5_1).f1⟩ : S75)) := ⟨_,rfl⟩
   replace H : (laws_markOpS.l0 k1 (y240.set (x5_1 : Int).toNat (⟨(rd_T75 y240 x5_1).f0,wrap64 (x1_1 + 1)⟩ : S75)) (wrap64 ((wrap64 (x1_1 + 1)) + 1)) (wrap64 (x5_1 + 1))) = some (r1,r2) := zH_ H hy240
   have Ny240 := As_ hy240
   clear hy240
   obtain ⟨y241,hy241⟩ : ∃ y_ : List (S75),y_ = (y240.set (x5_1 : Int).toNat (⟨(rd_T75 y240 x5_1).f0,wrap64 (x1_1 + 1)⟩ : S75)) := ⟨_,rfl⟩
   replace H : (laws_markOpS.l0 k1 y241 (wrap64 ((wrap64 (x1_1 + 1)) + 1)) (wrap64 (x5_1 + 1))) = some (r1,r2) := zH_ H hy241
   have Ny241 := As_ hy241
   clear hy241
   have H' := As_ H
   clear H
   obtain ⟨Ao7,co7,eo7⟩ := Kd.R_slice HO_0.out
   subst eo7
   have p5 : 0 ≤ (x5_1 : Int) := odT zA_
   have q5 : (x5_1 : Int) < ((x0_1.length : Int) : Int) := odT zA_
   obtain ⟨go5,co5,eo5,gb5,gl5,cl5,HG5⟩ := Kd.R_form HO_0.out (by omega)
   (first|cases eo5|(injection eo5 with ea_ en_ ec_;(first|subst ea_|(injection ea_ with ea_;subst ea_));subst ec_;clear en_))
   have GB5 := As_ gb5
   have GG5 := As_ HG5
   clear gb5 gl5 HG5
   have HMgo5 := As_ (show (P0_ go5 ∨ w.heap.size ≤ go5) from (HO_0.out.1 _ rfl))
   obtain ⟨ce5,hcl5,hM5,hcc5,hfr5⟩ := Kd.R_elem HO_0.out z75 (x5_1 : Int) p5 q5
   obtain rfl := k75_openM hM5
   have hx5_0 : wr.cell? ⟨go5,(x5_1 : Int).toNat * 2,none⟩ = some (.int .i64 ((rd_T75 x0_1 x5_1).f0)) := hcc5 0 _ rfl
   have hx5_1 : wr.cell? ⟨go5,(x5_1 : Int).toNat * 2 + 1,none⟩ = some (.int .i64 ((rd_T75 x0_1 x5_1).f1)) := hcc5 1 _ rfl
   have hf5_0 : wr.frozen? ⟨go5,(x5_1 : Int).toNat * 2,none⟩ = false := hfr5 0
   have hf5_1 : wr.frozen? ⟨go5,(x5_1 : Int).toNat * 2 + 1,none⟩ = false := hfr5 1
   clear hcl5 hcc5 hfr5 hM5
   replace p5 := eq_true p5
   replace q5 := eq_true q5
   have HX8 := As_ (show Kd.R k75 75 wr w0.heap.size (fun k_ => (P0_ k_ ∨ w.heap.size ≤ k_)) (.slice (some ⟨go5,0,none⟩) x0_1.length co7) x0_1 from (zR_ HO_0.out))
   obtain ⟨ce8,hcl8,hM8,hcc8,hfr8⟩ := Kd.R_elem HX8.out z75 (x5_1 : Int) (odT zA_) (by have h_ : (x5_1 : Int) < ((x0_1.length : Int) : Int) := odT zA_;first|exact h_|(have e_ := (Kd.R_reads' HO_0.out).1;omega)|simpa using h_)
   obtain rfl := k75_openM hM8
   have HP8 := Kd.R_seg HX8.out (x5_1 : Int) (odT zA_) (by have h_ : (x5_1 : Int) < ((x0_1.length : Int) : Int) := odT zA_;first|exact h_|(have e_ := (Kd.R_reads' HO_0.out).1;omega)|simpa using h_) (seg := [.int .i64 x1_1]) (j := 0) hcl8 hcc8 (show 1 ≤ 2 from by decide) (x' := (⟨x1_1,(rd_T75 x0_1 x5_1).f1⟩ : S75)) (k75_mkM _ _ _ (⟨x1_1,(rd_T75 x0_1 x5_1).f1⟩ : S75) ) (fun _ hk => hk)
   have hx8_0 := hcc8 0 _ rfl
   (try simp only [show (k75).sz = 2 from rfl,Nat.mul_one,Nat.add_zero] at hx8_0)
   have hf8_0 := hfr8 0
   (try simp only [show (k75).sz = 2 from rfl,Nat.mul_one,Nat.add_zero] at hf8_0)
   clear hcl8 hcc8 hfr8 hM8
   go_wp2_with (first|((with_reducible refine gate_store (t := 3) (p := 16) rfl ?_);refine store_event (t := 3) (p := 16) (v := ?vo_w9) (w1 := (wr.setCell ⟨go5,(x5_1 : Int).toNat * 2,none⟩ (.int .i64 x1_1))) ?hg ?ho ?hn ?hr ?_;(case ho => rfl);(case hg => rfl);(case hn => rfl);(case hr => go_simp <;> rfl);intro w9 hw;have hg : wr.grownBy w9 (some go5) := (by rw [hw];exact HP8.2);have hp_ : Kd.R k75 75 w9 w0.heap.size (fun k_ => (P0_ k_ ∨ w.heap.size ≤ k_)) (.slice (some ⟨go5,0,none⟩) x0_1.length co7) y240 := (by rw [hw,Ny240.out];exact HP8.1);clear HP8;have n0_ := As_ (hp_);have n1_ := As_ ((by rw [hw];exact bwS (HB.out) GB5.out : Below w0.heap.size w0 w9));have n2_ := As_ (Kept.of_grown (S := (fun k_ => P0_ k_)) hg (zq0 HK.out) (fun k_ e_ => (HO_0.out.1 k_ e_)));clear HO_0 HB HK;revert n0_ n1_ n2_;intro HO_0 HB HK;clear hg hw hp_;have p6 : 0 ≤ (x5_1 : Int) := odT zA_;have q6 : (x5_1 : Int) < ((x0_1.length : Int) : Int) := odT zA_;obtain ⟨ce6,hcl6,hM6,hcc6,hfr6⟩ := Kd.R_elem HO_0.out z75 (x5_1 : Int) p6 q6;obtain rfl := k75_openM hM6;have hx6_0 : w9.cell? ⟨go5,(x5_1 : Int).toNat * 2,none⟩ = some (.int .i64 ((rd_T75 y240 x5_1).f0)) := hcc6 0 _ rfl;have hx6_1 : w9.cell? ⟨go5,(x5_1 : Int).toNat * 2 + 1,none⟩ = some (.int .i64 ((rd_T75 y240 x5_1).f1)) := hcc6 1 _ rfl;have hf6_0 : w9.frozen? ⟨go5,(x5_1 : Int).toNat * 2,none⟩ = false := hfr6 0;have hf6_1 : w9.frozen? ⟨go5,(x5_1 : Int).toNat * 2 + 1,none⟩ = false := hfr6 1;clear hcl6 hcc6 hfr6 hM6;replace p6 := eq_true p6;replace q6 := eq_true q6;have HX10 := As_ (show Kd.R k75 75 w9 w0.heap.size (fun k_ => (P0_ k_ ∨ w.heap.size ≤ k_)) (.slice (some ⟨go5,0,none⟩) x0_1.length co7) y240 from (zR_ HO_0.out));obtain ⟨ce10,hcl10,hM10,hcc10,hfr10⟩ := Kd.R_elem HX10.out z75 (x5_1 : Int) (odT zA_) (by have h_ : (x5_1 : Int) < ((x0_1.length : Int) : Int) := odT zA_;first|exact h_|(have e_ := (Kd.R_reads' HO_0.out).1;omega)|simpa using h_);obtain rfl := k75_openM hM10;have HP10 := Kd.R_seg HX10.out (x5_1 : Int) (odT zA_) (by have h_ : (x5_1 : Int) < ((x0_1.length : Int) : Int) := odT zA_;first|exact h_|(have e_ := (Kd.R_reads' HO_0.out).1;omega)|simpa using h_) (seg := [.int .i64 (wrap64 (x1_1 + 1))]) (j := 1) hcl10 hcc10 (show 2 ≤ 2 from by decide) (x' := (⟨(rd_T75 y240 x5_1).f0,wrap64 (x1_1 + 1)⟩ : S75)) (k75_mkM _ _ _ (⟨(rd_T75 y240 x5_1).f0,wrap64 (x1_1 + 1)⟩ : S75) ) (fun _ hk => hk);have hx10_1 := hcc10 1 _ rfl;(try simp only [show (k75).sz = 2 from rfl,Nat.mul_one,Nat.add_zero] at hx10_1);have hf10_1 := hfr10 1;(try simp only [show (k75).sz = 2 from rfl,Nat.mul_one,Nat.add_zero] at hf10_1);clear hcl10 hcc10 hfr10 hM10)|((with_reducible refine gate_store (t := 3) (p := 23) rfl ?_);refine store_event (t := 3) (p := 23) (v := ?vo_w11) (w1 := (w9.setCell ⟨go5,(x5_1 : Int).toNat * 2 + 1,none⟩ (.int .i64 (wrap64 (x1_1 + 1))))) ?hg ?ho ?hn ?hr ?_;(case ho => rfl);(case hg => rfl);(case hn => rfl);(case hr => go_simp <;> rfl);intro w11 hw;have hg : w9.grownBy w11 (some go5) := (by rw [hw];exact HP10.2);have hp_ : Kd.R k75 75 w11 w0.heap.size (fun k_ => (P0_ k_ ∨ w.heap.size ≤ k_)) (.slice (some ⟨go5,0,none⟩) x0_1.length co7) y241 := (by rw [hw,Ny241.out];exact HP10.1);clear HP10;have n0_ := As_ (hp_);have n1_ := As_ ((by rw [hw];exact bwS (HB.out) GB5.out : Below w0.heap.size w0 w11));have n2_ := As_ (Kept.of_grown (S := (fun k_ => P0_ k_)) hg (zq0 HK.out) (fun k_ e_ => (HO_0.out.1 k_ e_)));clear HO_0 HB HK;revert n0_ n1_ n2_;intro HO_0 HB HK;clear hg hw hp_))
   go_roundg k1
   case measure => have := HK1.out;omega
   case rel => exact ⟨(y241),(wrap64 ((wrap64 (x1_1 + 1)) + 1)),(wrap64 (x5_1 + 1)),zT_,zT_,H',⟨by have := HK1.out;omega⟩,⟨by (with_reducible repeat (first|apply Kd.R_alloc|apply Kd.R_drewN|apply Kd.R_drew));exact HO_0.out⟩,⟨zq0 HK.out⟩,⟨zb0 HB.out⟩⟩
/-- The same row with another capacity told. -/
def laws_markOpS.recap (c2 : Nat) : Value → Value
 | .slice A n _ => .slice A n c2
 | v => v
theorem laws_markOpS.recap_ (c2 : Nat) (A : Option Addr) (n c : Nat) : laws_markOpS.recap c2 (.slice A n c) = .slice A n c2 := rfl
attribute [local go_sem] laws_markOpS.recap_
set_option maxHeartbeats 8000000 in
set_option maxRecDepth 100000 in
theorem laws_markOpS.callsC (c2 : Nat) (k : Nat) (P0_ : Nat → Prop) (u9000_ : Value) (l0 : List (S75)) (a1 : Int) (r1 : Int) (r2 : List (S75)) (w0 w : World) (hB : Below w0.heap.size w0 w) (ho0 : Kd.R k75 75 w w0.heap.size P0_ u9000_ l0) (h : laws_markOpS.f k l0 a1 = some (r1,r2)) :
  Calls Try.prog 18 #[laws_markOpS.recap c2 u9000_,.int .i64 a1] w fun e w' => e = .returned (.int .i64 r1) ∧ Kd.R k75 75 w' w0.heap.size (fun k_ => (P0_ k_ ∨ w.heap.size ≤ k_)) u9000_ r2 ∧ Below w0.heap.size w0 w' ∧ Kept w w' (fun k_ => P0_ k_) := by
 have HO0 := As_ (show Kd.R k75 75 w w0.heap.size (fun k_ => (P0_ k_ ∨ w.heap.size ≤ k_)) u9000_ l0 from Kd.R_mono ho0 (fun k_ hk => (.inl hk)))
 have HK := As_ (Kept.refl w (fun k_ => P0_ k_))
 have HW0 := As_ hB.size
 have HB := As_ hB
 clear hB
 have H : (laws_markOpS.l0 k l0 a1 0) = some (r1,r2) := h
 clear h
 have H' := As_ H
 clear H
 go_enter Try.func18,Try.ntmps18
 go_wp2
 go_loopg [1,5] k (fun kq v1 v5 w' => ∃ (x0_1 : List (S75)) (x1_1 : Int) (x5_1 : Int),v1 = .int .i64 x1_1 ∧ v5 = .int .i64 x5_1 ∧ Aside0 (laws_markOpS.l0 kq x0_1 x1_1 x5_1 = some (r1,r2)) ∧ Aside0 (kq ≤ k) ∧ Aside0 (Kd.R k75 75 w' w0.heap.size (fun k_ => (P0_ k_ ∨ w.heap.size ≤ k_)) u9000_ x0_1) ∧ Aside0 (Kept w w' (fun k_ => P0_ k_)) ∧ Aside0 (Below w0.heap.size w0 w'))
 case atStart => exact ⟨(l0),(a1),(0),zT_,zT_,H',⟨Nat.le_refl _⟩,⟨by (with_reducible repeat (first|apply Kd.R_alloc|apply Kd.R_drewN|apply Kd.R_drew));exact HO0.out⟩,⟨zq0 HK.out⟩,⟨zb0 HB.out⟩⟩
 case round =>
  clear H'
  obtain ⟨x0_1,x1_1,x5_1,rfl,rfl,HA,HK1,HO_0,HK,HB⟩ := hrel
  cases gk with
  | zero => exact absurd HA.out (fun h_ => (by cases h_))
  | succ k1 =>
   have H := HA.out
   clear HA
   simp only [laws_markOpS.l0] at H
   by_cases c3 : x5_1 < (x0_1.length : Int)
   rotate_left
   ·rw [if_neg c3] at H
    have c3b0 : decide (x5_1 < (x0_1.length : Int)) = false := deF c3
    clear c3
    simp only [Option.some.injEq,Prod.mk.injEq] at H
    obtain ⟨rfl,rfl⟩ := H
    obtain ⟨Ao12,co12,eo12⟩ := Kd.R_slice HO_0.out
    subst eo12
    try simp only [laws_markOpS.recap_]
    go_wp2
    go_ret
    exact ⟨zE_,by (with_reducible repeat (first|apply Kd.R_alloc|apply Kd.R_drewN|apply Kd.R_drew));exact HO_0.out,zb0 HB.out,zq0 HK.out⟩
   rw [if_pos c3] at H
   have c3b0 : decide (x5_1 < (x0_1.length : Int)) = true := deT c3
   clear c3
   by_cases c4 : 0 ≤ x5_1
   rotate_left
   ·rw [if_neg c4] at H
    exact absurd H (by simp)
   rw [if_pos c4] at H
   have c4b0 : decide (0 ≤ x5_1) = true := deT c4
   clear c4
   obtain ⟨y116,hy116⟩ : ∃ y_ : List (S75),y_ = (x0_1.set (x5_1 : Int).toNat (⟨x1_1,(rd_T75 x0_1 x5_1).f1⟩ : S75)) := ⟨_,rfl⟩
   replace H : (laws_markOpS.l0 k1 (y116.set (x5_1 : Int).toNat (⟨(rd_T75 y116 x5_1).f0,wrap64 (x1_1 + 1)⟩ : S75)) (wrap64 ((wrap64 (x1_1 + 1)) + 1)) (wrap64 (x5_1 + 1))) = some (r1,r2) := zH_ H hy116
   have Ny116 := As_ hy116
   clear hy116
   obtain ⟨y117,hy117⟩ : ∃ y_ : List (S75),y_ = (y116.set (x5_1 : Int).toNat (⟨(rd_T75 y116 x5_1).f0,wrap64 (x1_1 + 1)⟩ : S75)) := ⟨_,rfl⟩
   replace H : (laws_markOpS.l0 k1 y117 (wrap64 ((wrap64 (x1_1 + 1)) + 1)) (wrap64 (x5_1 + 1))) = some (r1,r2) := zH_ H hy117
   have Ny117 := As_ hy117
   clear hy117
   have H' := As_ H
   clear H
   obtain ⟨Ao7,co7,eo7⟩ := Kd.R_slice HO_0.out
   subst eo7
   try simp only [laws_markOpS.recap_]
   have p5 : 0 ≤ (x5_1 : Int) := odT zA_
   have q5 : (x5_1 : Int) < ((x0_1.length : Int) : Int) := odT zA_
   obtain ⟨go5,co5,eo5,gb5,gl5,cl5,HG5⟩ := Kd.R_form HO_0.out (by omega)
   (first|cases eo5|(injection eo5 with ea_ en_ ec_;(first|subst ea_|(injection ea_ with ea_;subst ea_));subst ec_;clear en_))
   have GB5 := As_ gb5
   have GG5 := As_ HG5
   clear gb5 gl5 HG5
   have HMgo5 := As_ (show (P0_ go5 ∨ w.heap.size ≤ go5) from (HO_0.out.1 _ rfl))
   obtain ⟨ce5,hcl5,hM5,hcc5,hfr5⟩ := Kd.R_elem HO_0.out z75 (x5_1 : Int) p5 q5
   obtain rfl := k75_openM hM5
   have hx5_0 : wr.cell? ⟨go5,(x5_1 : Int).toNat * 2,none⟩ = some (.int .i64 ((rd_T75 x0_1 x5_1).f0)) := hcc5 0 _ rfl
   have hx5_1 : wr.cell? ⟨go5,(x5_1 : Int).toNat * 2 + 1,none⟩ = some (.int .i64 ((rd_T75 x0_1 x5_1).f1)) := hcc5 1 _ rfl
   have hf5_0 : wr.frozen? ⟨go5,(x5_1 : Int).toNat * 2,none⟩ = false := hfr5 0
   have hf5_1 : wr.frozen? ⟨go5,(x5_1 : Int).toNat * 2 + 1,none⟩ = false := hfr5 1
   clear hcl5 hcc5 hfr5 hM5
   replace p5 := eq_true p5
   replace q5 := eq_true q5
   have HX8 := As_ (show Kd.R k75 75 wr w0.heap.size (fun k_ => (P0_ k_ ∨ w.heap.size ≤ k_)) (.slice (some ⟨go5,0,none⟩) x0_1.length co7) x0_1 from (zR_ HO_0.out))
   obtain ⟨ce8,hcl8,hM8,hcc8,hfr8⟩ := Kd.R_elem HX8.out z75 (x5_1 : Int) (odT zA_) (by have h_ : (x5_1 : Int) < ((x0_1.length : Int) : Int) := odT zA_;first|exact h_|(have e_ := (Kd.R_reads' HO_0.out).1;omega)|simpa using h_)
   obtain rfl := k75_openM hM8
   have HP8 := Kd.R_seg HX8.out (x5_1 : Int) (odT zA_) (by have h_ : (x5_1 : Int) < ((x0_1.length : Int) : Int) := odT zA_;first|exact h_|(have e_ := (Kd.R_reads' HO_0.out).1;omega)|simpa using h_) (seg := [.int .i64 x1_1]) (j := 0) hcl8 hcc8 (show 1 ≤ 2 from by decide) (x' := (⟨x1_1,(rd_T75 x0_1 x5_1).f1⟩ : S75)) (k75_mkM _ _ _ (⟨x1_1,(rd_T75 x0_1 x5_1).f1⟩ : S75) ) (fun _ hk => hk)
   have hx8_0 := hcc8 0 _ rfl
   (try simp only [show (k75).sz = 2 from rfl,Nat.mul_one,Nat.add_zero] at hx8_0)
   have hf8_0 := hfr8 0
   (try simp only [show (k75).sz = 2 from rfl,Nat.mul_one,Nat.add_zero] at hf8_0)
   clear hcl8 hcc8 hfr8 hM8
   go_wp2_with (first|((with_reducible refine gate_store (t := 3) (p := 16) rfl ?_);refine store_event (t := 3) (p := 16) (v := ?vo_w9) (w1 := (wr.setCell ⟨go5,(x5_1 : Int).toNat * 2,none⟩ (.int .i64 x1_1))) ?hg ?ho ?hn ?hr ?_;(case ho => rfl);(case hg => rfl);(case hn => rfl);(case hr => go_simp <;> rfl);intro w9 hw;have hg : wr.grownBy w9 (some go5) := (by rw [hw];exact HP8.2);have hp_ : Kd.R k75 75 w9 w0.heap.size (fun k_ => (P0_ k_ ∨ w.heap.size ≤ k_)) (.slice (some ⟨go5,0,none⟩) x0_1.length co7) y116 := (by rw [hw,Ny116.out];exact HP8.1);clear HP8;have n0_ := As_ (hp_);have n1_ := As_ ((by rw [hw];exact bwS (HB.out) GB5.out : Below w0.heap.size w0 w9));have n2_ := As_ (Kept.of_grown (S := (fun k_ => P0_ k_)) hg (zq0 HK.out) (fun k_ e_ => (HO_0.out.1 k_ e_)));clear HO_0 HB HK;revert n0_ n1_ n2_;intro HO_0 HB HK;clear hg hw hp_;have p6 : 0 ≤ (x5_1 : Int) := odT zA_;have q6 : (x5_1 : Int) < ((x0_1.length : Int) : Int) := odT zA_;obtain ⟨ce6,hcl6,hM6,hcc6,hfr6⟩ := Kd.R_elem HO_0.out z75 (x5_1 : Int) p6 q6;obtain rfl := k75_openM hM6;have hx6_0 : w9.cell? ⟨go5,(x5_1 : Int).toNat * 2,none⟩ = some (.int .i64 ((rd_T75 y116 x5_1).f0)) := hcc6 0 _ rfl;have hx6_1 : w9.cell? ⟨go5,(x5_1 : Int).toNat * 2 + 1,none⟩ = some (.int .i64 ((rd_T75 y116 x5_1).f1)) := hcc6 1 _ rfl;have hf6_0 : w9.frozen? ⟨go5,(x5_1 : Int).toNat * 2,none⟩ = false := hfr6 0;have hf6_1 : w9.frozen? ⟨go5,(x5_1 : Int).toNat * 2 + 1,none⟩ = false := hfr6 1;clear hcl6 hcc6 hfr6 hM6;replace p6 := eq_true p6;replace q6 := eq_true q6;have HX10 := As_ (show Kd.R k75 75 w9 w0.heap.size (fun k_ => (P0_ k_ ∨ w.heap.size ≤ k_)) (.slice (some ⟨go5,0,none⟩) x0_1.length co7) y116 from (zR_ HO_0.out));obtain ⟨ce10,hcl10,hM10,hcc10,hfr10⟩ := Kd.R_elem HX10.out z75 (x5_1 : Int) (odT zA_) (by have h_ : (x5_1 : Int) < ((x0_1.length : Int) : Int) := odT zA_;first|exact h_|(have e_ := (Kd.R_reads' HO_0.out).1;omega)|simpa using h_);obtain rfl := k75_openM hM10;have HP10 := Kd.R_seg HX10.out (x5_1 : Int) (odT zA_) (by have h_ : (x5_1 : Int) < ((x0_1.length : Int) : Int) := odT zA_;first|exact h_|(have e_ := (Kd.R_reads' HO_0.out).1;omega)|simpa using h_) (seg := [.int .i64 (wrap64 (x1_1 + 1))]) (j := 1) hcl10 hcc10 (show 2 ≤ 2 from by decide) (x' := (⟨(rd_T75 y116 x5_1).f0,wrap64 (x1_1 + 1)⟩ : S75)) (k75_mkM _ _ _ (⟨(rd_T75 y116 x5_1).f0,wrap64 (x1_1 + 1)⟩ : S75) ) (fun _ hk => hk);have hx10_1 := hcc10 1 _ rfl;(try simp only [show (k75).sz = 2 from rfl,Nat.mul_one,Nat.add_zero] at hx10_1);have hf10_1 := hfr10 1;(try simp only [show (k75).sz = 2 from rfl,Nat.mul_one,Nat.add_zero] at hf10_1);clear hcl10 hcc10 hfr10 hM10)|((with_reducible refine gate_store (t := 3) (p := 23) rfl ?_);refine store_event (t := 3) (p := 23) (v := ?vo_w11) (w1 := (w9.setCell ⟨go5,(x5_1 : Int).toNat * 2 + 1,none⟩ (.int .i64 (wrap64 (x1_1 + 1))))) ?hg ?ho ?hn ?hr ?_;(case ho => rfl);(case hg => rfl);(case hn => rfl);(case hr => go_simp <;> rfl);intro w11 hw;have hg : w9.grownBy w11 (some go5) := (by rw [hw];exact HP10.2);have hp_ : Kd.R k75 75 w11 w0.heap.size (fun k_ => (P0_ k_ ∨ w.heap.size ≤ k_)) (.slice (some ⟨go5,0,none⟩) x0_1.length co7) y117 := (by rw [hw,Ny117.out];exact HP10.1);clear HP10;have n0_ := As_ (hp_);have n1_ := As_ ((by rw [hw];exact bwS (HB.out) GB5.out : Below w0.heap.size w0 w11));have n2_ := As_ (Kept.of_grown (S := (fun k_ => P0_ k_)) hg (zq0 HK.out) (fun k_ e_ => (HO_0.out.1 k_ e_)));clear HO_0 HB HK;revert n0_ n1_ n2_;intro HO_0 HB HK;clear hg hw hp_))
   go_roundg k1
   case measure => have := HK1.out;omega
   case rel => exact ⟨(y117),(wrap64 ((wrap64 (x1_1 + 1)) + 1)),(wrap64 (x5_1 + 1)),zT_,zT_,H',⟨by have := HK1.out;omega⟩,⟨by (with_reducible repeat (first|apply Kd.R_alloc|apply Kd.R_drewN|apply Kd.R_drew));exact HO_0.out⟩,⟨zq0 HK.out⟩,⟨zb0 HB.out⟩⟩
theorem laws_markOpS.cut (c2 : Nat) (k : Nat) (P0_ : Nat → Prop) (A : Option Addr) (n c : Nat) (l0 : List (S75)) (a1 : Int) (r1 : Int) (r2 : List (S75)) (w0 w : World) (hB : Below w0.heap.size w0 w) (ho0 : Kd.R k75 75 w w0.heap.size P0_ (.slice A n c) l0) (h : laws_markOpS.f k l0 a1 = some (r1,r2)) :
  Calls Try.prog 18 #[.slice A n c2,.int .i64 a1] w fun e w' => e = .returned (.int .i64 r1) ∧ Kd.R k75 75 w' w0.heap.size (fun k_ => (P0_ k_ ∨ w.heap.size ≤ k_)) (.slice A n c) r2 ∧ Below w0.heap.size w0 w' ∧ Kept w w' (fun k_ => P0_ k_) :=
 laws_markOpS.callsC c2 k P0_ (.slice A n c) l0 a1 r1 r2 w0 w hB ho0 h


end Go.Proofs.Ytbokjhdhpmmpfaa.Q
