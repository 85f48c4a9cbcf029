-- Written by wip/tools/qprint.py (a program of this claim's author) by means of the kit's printer.
import Derived.Test.YtonppkaobnfldaaQ0
import Derived.Test.YtonppkaobnfldaaQ34
import Derived.Test.YtonppkaobnfldaaQ37
import Derived.Test.YtonppkaobnfldaaQ46
import Derived.Test.YtonppkaobnfldaaQ77
namespace Go.Proofs.Ytonppkaobnfldaa.Q
open Go.RowKit Go.Proofs.YtonppkaobnfldaaW.PrintWords Go.Proofs.YtonppkaobnfldaaW.PrintLast Go.Proofs.YtonppkaobnfldaaW.PrintMore
attribute [local go_sem] max2_int min2_int max_two min_two max_three min_three max_four min_four   -- for this text's walks alone
set_option linter.unusedVariables false
set_option linter.unusedSimpArgs false

/-! ### laws_eqOpSS: function 39 -/
def laws_eqOpSS.l0 : Nat → List (List (S49)) → List (List (S49)) → Int → Option (Bool)
 | 0,_,_,_ => none
 | k + 1,x0,x1,x5 => if x5 < (x0.length : Int) then (if 0 ≤ x5 then (if x5 < (x1.length : Int) then ((laws_eqOpS.f k (rd_L6 x0 x5) (rd_L6 x1 x5)).bind fun t456 => (if t456 = true then (laws_eqOpSS.l0 k x0 x1 (wrap64 (x5 + 1))) else (some false))) else (none)) else (none)) else (some true)
def laws_eqOpSS.f (k : Nat) (l0 : List (List (S49))) (l1 : List (List (S49))) : Option (Bool) := if (l0.length : Int) = (l1.length : Int) then (laws_eqOpSS.l0 k l0 l1 0) else (some false)
set_option maxRecDepth 100000 in
theorem laws_eqOpSS.mono_l : ∀ k,(∀ y0 y1 y2,LeO (laws_eqOpSS.l0 k y0 y1 y2) (laws_eqOpSS.l0 (k + 1) y0 y1 y2))
 | 0 => fun _ _ _ r h => (by cases h)
 | k + 1 => by
  have ih0 := laws_eqOpSS.mono_l k
  ·intro y0 y1 y2
   unfold laws_eqOpSS.l0
   repeat' first
   | (with_reducible exact ih0 _ _ _)
   | (with_reducible exact laws_eqOpS.mono _ _ _)
   | (with_reducible exact LeO.refl _)
   | (with_reducible exact LeO.none _)
   | (with_reducible refine LeO.ite ?_ ?_)
   | (with_reducible refine LeO.bind ?_ (fun _ => ?_))
   | exact ih0 _ _ _
   | exact laws_eqOpS.mono _ _ _
   | exact LeO.none _
   | refine LeO.ite ?_ ?_
   | refine LeO.bind ?_ (fun _ => ?_)
set_option maxRecDepth 100000 in
theorem laws_eqOpSS.mono : ∀ a0 a1 k,LeO (laws_eqOpSS.f k a0 a1) (laws_eqOpSS.f (k + 1) a0 a1) := by
 intro a0 a1 k
 have ih0 := laws_eqOpSS.mono_l k
 unfold laws_eqOpSS.f
 repeat' first
   | (with_reducible exact ih0 _ _ _)
   | (with_reducible exact laws_eqOpS.mono _ _ _)
   | (with_reducible exact LeO.refl _)
   | (with_reducible exact LeO.none _)
   | (with_reducible refine LeO.ite ?_ ?_)
   | (with_reducible refine LeO.bind ?_ (fun _ => ?_))
   | exact ih0 _ _ _
   | exact laws_eqOpS.mono _ _ _
   | exact LeO.none _
   | refine LeO.ite ?_ ?_
   | refine LeO.bind ?_ (fun _ => ?_)
def laws_eqOpSS.T6 : Bool × List (List Nat × List Nat) := (true,[([],[]),([],[]),([0,1],[0,1]),([2],[2]),([],[]),([],[]),([4,5],[4,5]),([6],[6]),([3,7],[3,7]),([8],[8])])
def laws_eqOpSS.B6 : List Nat := [0,0,3,7,0,0,48,112,255,511]
theorem laws_eqOpSS.tab6 : rtab .any (opsOf Try.f39 6) = laws_eqOpSS.T6 := by kernel_rfl
theorem laws_eqOpSS.bits6 : waitsOk laws_eqOpSS.T6.2 laws_eqOpSS.B6 = true := by kernel_rfl
set_option maxHeartbeats 8000000 in
set_option maxRecDepth 100000 in
theorem laws_eqOpSS.calls (k : Nat) (A0 : Option Addr) (c0 : Nat) (l0 : List (List (S49))) (A1 : Option Addr) (c1 : Nat) (l1 : List (List (S49))) (r : Bool) (w : World) (hr0 : Kd.C (Kd.slice 49 k49) w A0 l0.length l0) (hc0 : l0.length ≤ c0) (hr1 : Kd.C (Kd.slice 49 k49) w A1 l1.length l1) (hc1 : l1.length ≤ c1) (h : laws_eqOpSS.f k l0 l1 = some r) :
  Calls Try.prog 39 #[.slice A0 l0.length c0,.slice A1 l1.length c1] w fun e w' => e = .returned (.bool r) ∧ Below w.heap.size w w' := by
 have HR0 := As_ hr0
 have HC0 := As_ hc0
 clear hr0 hc0
 have HR1 := As_ hr1
 have HC1 := As_ hc1
 clear hr1 hc1
 have HB := As_ (Below.refl w.heap.size w)
 have H : (if (l0.length : Int) = (l1.length : Int) then (laws_eqOpSS.l0 k l0 l1 0) else (some false)) = some r := h
 clear h
 by_cases c3 : (l0.length : Int) = (l1.length : Int)
 rotate_left
 ·rw [if_neg c3] at H
  have c3b0 : ((l0.length : Int) == (l1.length : Int)) = false := beq_eq_false_iff_ne.mpr c3
  have c3b1 : ((l0.length : Int) != (l1.length : Int)) = true := bne_iff_ne.mpr c3
  have c3b2 : (l0.length == l1.length) = false := by first|simpa using c3|(simp at c3 ⊢;omega)
  obtain rfl := Option.some.inj H
  go_enter Try.func39,Try.ntmps39
  go_wp2
  go_ret
  exact ⟨zE_,zb0 HB.out⟩

 rw [if_pos c3] at H
 have c3b0 : ((l0.length : Int) == (l1.length : Int)) = true := beq_iff_eq.mpr c3
 have c3b1 : ((l0.length : Int) != (l1.length : Int)) = false := bne_eq_false_iff_eq.mpr c3
 have c3b2 : (l0.length == l1.length) = true := by first|simpa using c3|(simp at c3 ⊢;omega)
 clear c3
 have H' := As_ H
 clear H
 go_enter Try.func39,Try.ntmps39
 go_wp2
 go_loopg [5] k (fun kq v5 w' => ∃ (x5_1 : Int),v5 = .int .i64 x5_1 ∧ Aside0 (laws_eqOpSS.l0 kq l0 l1 x5_1 = some r) ∧ Aside0 (kq ≤ k) ∧ Aside0 (Below w.heap.size w w'))
 case atStart => exact ⟨(0),zT_,H',⟨Nat.le_refl _⟩,⟨zb0 HB.out⟩⟩
 case round =>
  clear H'
  obtain ⟨x5_1,rfl,HA,HK1,HB⟩ := hrel
  cases gk with
  | zero => exact absurd HA.out (fun h_ => (by cases h_))
  | succ k1 =>
   have H := HA.out
   clear HA
   simp only [laws_eqOpSS.l0] at H
   by_cases c4 : x5_1 < (l0.length : Int)
   rotate_left
   ·rw [if_neg c4] at H
    have c4b0 : decide (x5_1 < (l0.length : Int)) = false := deF c4
    clear c4
    obtain rfl := Option.some.inj H
    go_wp2
    go_ret
    exact ⟨zE_,zb0 HB.out⟩
   rw [if_pos c4] at H
   have c4b0 : decide (x5_1 < (l0.length : Int)) = true := deT c4
   clear c4
   by_cases c5 : 0 ≤ x5_1
   rotate_left
   ·rw [if_neg c5] at H
    exact absurd H (by simp)
   rw [if_pos c5] at H
   have c5b0 : decide (0 ≤ x5_1) = true := deT c5
   clear c5
   by_cases c6 : x5_1 < (l1.length : Int)
   rotate_left
   ·rw [if_neg c6] at H
    exact absurd H (by simp)
   rw [if_pos c6] at H
   have c6b0 : decide (x5_1 < (l1.length : Int)) = true := deT c6
   clear c6
   replace H := obS H
   obtain ⟨t456,A70,H⟩ := H
   replace H : (if t456 = true then (laws_eqOpSS.l0 k1 l0 l1 (wrap64 (x5_1 + 1))) else (some false)) = some r := H
   have A7 := As_ A70
   clear A70
   by_cases c8 : t456 = true
   rotate_left
   ·replace c8 := Bool.eq_false_iff.mpr c8
    subst c8
    have H1 : (some false) = some r := by rw [if_neg (show ¬ (false = true) by decide)] at H;exact H
    clear H
    have H := H1
    clear H1
    obtain rfl := Option.some.inj H
    try go_wp2
    have n0_ := As_ (bwD HB.out)
    clear HB
    revert n0_;intro HB
    have p454 : 0 ≤ (x5_1 : Int) := odT zA_
    have q454 : x5_1 < (l0.length : Int) := odT zA_
    obtain ⟨ad454,A454_0,c454_0,e454,hx454_0,hl454_0,hi454_0⟩ := at_L6 HR0.out x5_1 p454 q454
    have hw454_0 := hx454_0
    cases e454
    replace hx454_0 := bwC HB.out hx454_0
    have HR454_0 := As_ hi454_0
    have HC454_0 := As_ hl454_0
    clear hi454_0 hl454_0
    replace p454 := eq_true p454
    replace q454 := eq_true q454
    have p455 : 0 ≤ (x5_1 : Int) := odT zA_
    have q455 : x5_1 < (l1.length : Int) := odT zA_
    obtain ⟨ad455,A455_0,c455_0,e455,hx455_0,hl455_0,hi455_0⟩ := at_L6 HR1.out x5_1 p455 q455
    have hw455_0 := hx455_0
    cases e455
    replace hx455_0 := bwC HB.out hx455_0
    have HR455_0 := As_ hi455_0
    have HC455_0 := As_ hl455_0
    clear hi455_0 hl455_0
    replace p455 := eq_true p455
    replace q455 := eq_true q455
    refine start_ (n := 10) (S := fun w' => w'.cell? (ad454.add (x5_1).toNat) = some (.slice A454_0 (rd_L6 l0 x5_1).length c454_0) ∧ w'.cell? (ad455.add (x5_1).toNat) = some (.slice A455_0 (rd_L6 l1 x5_1).length c455_0)) (ds := []) (bl_ 0 10) (by kernel_rfl) rfl rfl ⟨((HB.out.cell (bwL w _ hw454_0)).trans hw454_0),((HB.out.cell (bwL w _ hw455_0)).trans hw455_0)⟩ (fun hHeld => ?_);refine with_tabW laws_eqOpSS.tab6 laws_eqOpSS.bits6 (fun HT_ HW_ => ?_)
    generalize wr.drew = w11 at HB HR454_0 HR455_0 hx454_0 hx455_0 hHeld ⊢
    refine pQ 0 17 (bl_ 1 10) HT_ rfl ?_
    refine pQ 1 18 (bl_ 3 10) HT_ rfl ?_
    refine pQ 2 19 (bl_ 7 10) HT_ rfl ?_
    refine pQ 4 21 (bl_ 23 10) HT_ rfl ?_
    refine pQ 5 22 (bl_ 55 10) HT_ rfl ?_
    refine pQ 6 23 (bl_ 119 10) HT_ rfl ?_
    refine tP 3 20 (bl_ 127 10) ?_ HT_ HW_ rfl (.inl ⟨by rfl,?_⟩) hHeld ?_ ?_ ?_;rotate_left;(rintro w' ⟨s0,s1⟩;go_simp;with_reducible rfl);rotate_left;(simp only [Act.put,sq_,i64_w,i32_w];rfl)
    refine tP 7 24 (bl_ 255 10) ?_ HT_ HW_ rfl (.inl ⟨by rfl,?_⟩) hHeld ?_ ?_ ?_;rotate_left;(rintro w' ⟨s0,s1⟩;go_simp;with_reducible rfl);rotate_left;(simp only [Act.put,sq_,i64_w,i32_w];rfl)
    refine one_ (i := 8) (N := some 25) (bl_ 511 10) rfl rfl (one_of HT_.out (by kernel_rfl)) (by decide) (fun K hK => ?_)
    refine goes_ Try.func19 (by kernel_rfl) rfl #[.slice A454_0 (rd_L6 l0 x5_1).length c454_0,.slice A455_0 (rd_L6 l1 x5_1).length c455_0] (by rfl) rfl rfl zM_ ?_
    with_reducible refine (laws_eqOpS.calls k1 _ _ (rd_L6 l0 x5_1) _ _ (rd_L6 l1 x5_1) false _ ?side1 ?side2 ?side3 ?side4 A7.out).mono ?_
    (case side1 => exact zC_ (Kd.C_below HR454_0.out HB.out))
    (case side2 => exact HC454_0.out)
    (case side3 => exact zC_ (Kd.C_below HR455_0.out HB.out))
    (case side4 => exact HC455_0.out)
    rintro e w12 ⟨rfl,hb⟩
    refine ⟨_,rfl,?_⟩
    have n0_ := As_ (bwT (zb0 HB.out) hb)
    clear HB
    revert n0_;intro HB
    refine hK.out _ _ ⟨((HB.out.cell (bwL w _ hw454_0)).trans hw454_0),((HB.out.cell (bwL w _ hw455_0)).trans hw455_0)⟩ (fun hHeld => ?_)
    clear hK K
    refine norm_ (a' := ?_) ?_ ?_
    rotate_left
    ·show Act.put _ (some 25) _ = _
     simp only [Act.put,sq_,i64_w,i32_w]
     rfl
    refine pQ 9 26 (bl_ 1023 10) HT_ rfl ?_
    refine done_ (done_of HT_.out (by kernel_rfl)) ?_
    try go_wp2
    go_ret
    exact ⟨zE_,zb0 HB.out⟩
   subst c8
   have H1 : (laws_eqOpSS.l0 k1 l0 l1 (wrap64 (x5_1 + 1))) = some r := by rw [if_pos rfl] at H;exact H
   clear H
   have H := H1
   clear H1
   have H' := As_ H
   clear H
   try go_wp2
   have n0_ := As_ (bwD HB.out)
   clear HB
   revert n0_;intro HB
   have p454 : 0 ≤ (x5_1 : Int) := odT zA_
   have q454 : x5_1 < (l0.length : Int) := odT zA_
   obtain ⟨ad454,A454_0,c454_0,e454,hx454_0,hl454_0,hi454_0⟩ := at_L6 HR0.out x5_1 p454 q454
   have hw454_0 := hx454_0
   cases e454
   replace hx454_0 := bwC HB.out hx454_0
   have HR454_0 := As_ hi454_0
   have HC454_0 := As_ hl454_0
   clear hi454_0 hl454_0
   replace p454 := eq_true p454
   replace q454 := eq_true q454
   have p455 : 0 ≤ (x5_1 : Int) := odT zA_
   have q455 : x5_1 < (l1.length : Int) := odT zA_
   obtain ⟨ad455,A455_0,c455_0,e455,hx455_0,hl455_0,hi455_0⟩ := at_L6 HR1.out x5_1 p455 q455
   have hw455_0 := hx455_0
   cases e455
   replace hx455_0 := bwC HB.out hx455_0
   have HR455_0 := As_ hi455_0
   have HC455_0 := As_ hl455_0
   clear hi455_0 hl455_0
   replace p455 := eq_true p455
   replace q455 := eq_true q455
   refine start_ (n := 10) (S := fun w' => w'.cell? (ad454.add (x5_1).toNat) = some (.slice A454_0 (rd_L6 l0 x5_1).length c454_0) ∧ w'.cell? (ad455.add (x5_1).toNat) = some (.slice A455_0 (rd_L6 l1 x5_1).length c455_0)) (ds := []) (bl_ 0 10) (by kernel_rfl) rfl rfl ⟨((HB.out.cell (bwL w _ hw454_0)).trans hw454_0),((HB.out.cell (bwL w _ hw455_0)).trans hw455_0)⟩ (fun hHeld => ?_);refine with_tabW laws_eqOpSS.tab6 laws_eqOpSS.bits6 (fun HT_ HW_ => ?_)
   generalize wr.drew = w9 at HB HR454_0 HR455_0 hx454_0 hx455_0 hHeld ⊢
   refine pQ 0 17 (bl_ 1 10) HT_ rfl ?_
   refine pQ 1 18 (bl_ 3 10) HT_ rfl ?_
   refine pQ 2 19 (bl_ 7 10) HT_ rfl ?_
   refine pQ 4 21 (bl_ 23 10) HT_ rfl ?_
   refine pQ 5 22 (bl_ 55 10) HT_ rfl ?_
   refine pQ 6 23 (bl_ 119 10) HT_ rfl ?_
   refine tP 3 20 (bl_ 127 10) ?_ HT_ HW_ rfl (.inl ⟨by rfl,?_⟩) hHeld ?_ ?_ ?_;rotate_left;(rintro w' ⟨s0,s1⟩;go_simp;with_reducible rfl);rotate_left;(simp only [Act.put,sq_,i64_w,i32_w];rfl)
   refine tP 7 24 (bl_ 255 10) ?_ HT_ HW_ rfl (.inl ⟨by rfl,?_⟩) hHeld ?_ ?_ ?_;rotate_left;(rintro w' ⟨s0,s1⟩;go_simp;with_reducible rfl);rotate_left;(simp only [Act.put,sq_,i64_w,i32_w];rfl)
   refine one_ (i := 8) (N := some 25) (bl_ 511 10) rfl rfl (one_of HT_.out (by kernel_rfl)) (by decide) (fun K hK => ?_)
   refine goes_ Try.func19 (by kernel_rfl) rfl #[.slice A454_0 (rd_L6 l0 x5_1).length c454_0,.slice A455_0 (rd_L6 l1 x5_1).length c455_0] (by rfl) rfl rfl zM_ ?_
   with_reducible refine (laws_eqOpS.calls k1 _ _ (rd_L6 l0 x5_1) _ _ (rd_L6 l1 x5_1) true _ ?side1 ?side2 ?side3 ?side4 A7.out).mono ?_
   (case side1 => exact zC_ (Kd.C_below HR454_0.out HB.out))
   (case side2 => exact HC454_0.out)
   (case side3 => exact zC_ (Kd.C_below HR455_0.out HB.out))
   (case side4 => exact HC455_0.out)
   rintro e w10 ⟨rfl,hb⟩
   refine ⟨_,rfl,?_⟩
   have n0_ := As_ (bwT (zb0 HB.out) hb)
   clear HB
   revert n0_;intro HB
   refine hK.out _ _ ⟨((HB.out.cell (bwL w _ hw454_0)).trans hw454_0),((HB.out.cell (bwL w _ hw455_0)).trans hw455_0)⟩ (fun hHeld => ?_)
   clear hK K
   refine norm_ (a' := ?_) ?_ ?_
   rotate_left
   ·show Act.put _ (some 25) _ = _
    simp only [Act.put,sq_,i64_w,i32_w]
    rfl
   refine pQ 9 26 (bl_ 1023 10) HT_ rfl ?_
   refine done_ (done_of HT_.out (by kernel_rfl)) ?_
   try go_wp2
   go_roundg k1
   case measure => have := HK1.out;omega
   case rel => exact ⟨(wrap64 (x5_1 + 1)),zT_,H',⟨by have := HK1.out;omega⟩,⟨zb0 HB.out⟩⟩
/-! ### laws_markOpSS: function 40 -/
def laws_markOpSS.l0 : Nat → List (List (S49)) → Int → Int → Option (Int × (List (List (S49))))
 | 0,_,_,_ => none
 | k + 1,x0,x1,x5 => if x5 < (x0.length : Int) then (if 0 ≤ x5 then ((laws_markOpS.f k (x0.getD x5.toNat []) x1).bind fun bt => (laws_markOpSS.l0 k (x0.set x5.toNat bt.2) bt.1 (wrap64 (x5 + 1)))) else none) else (some (x1,x0))
def laws_markOpSS.f (k : Nat) (l0 : List (List (S49))) (a1 : Int) : Option (Int × (List (List (S49)))) := laws_markOpSS.l0 k l0 a1 0
/-- The marking of a row whose capacity is told as its length. -/
theorem laws_markOpSS.cut (c2 : Nat) (k : Nat) (P0_ : Nat → Prop) (A : Option Addr) (n c : Nat) (l0 : List (S49)) (a1 : Int) (r1 : Int) (r2 : List (S49)) (w0 w : World) (hB : Below w0.heap.size w0 w) (ho0 : Kd.R k49 49 w w0.heap.size P0_ (.slice A n c) l0) (h : laws_markOpS.f k l0 a1 = some (r1,r2)) :
  Calls Try.prog 34 #[.slice A n c2,.int .i64 a1] w fun e w' => e = .returned (.int .i64 r1) ∧ Kd.R k49 49 w' w0.heap.size (fun k_ => (P0_ k_ ∨ w.heap.size ≤ k_)) (.slice A n c) r2 ∧ Below w0.heap.size w0 w' ∧ Kept w w' (fun k_ => P0_ k_) :=
 laws_markOpS.callsC c2 k P0_ (.slice A n c) l0 a1 r1 r2 w0 w hB ho0 h
/-- An element's row,handed to what writes it,and taken back. -/
theorem laws_markOpSS.row {W : World} {base g n cap : Nat} {ok : Nat → Prop} {xs : List (List (S49))} (h : Kd.S impl_Op_63.kcl 25 W base ok (.slice (some ⟨g,0,none⟩) n cap) xs) (i : Int) (h0 : 0 ≤ i) (h1 : i < n) :
  ∃ (A2 : Option Addr) (c2 : Nat),W.cell? ⟨g,i.toNat,none⟩ = some (.slice A2 (xs.getD i.toNat []).length (xs.getD i.toNat []).length) ∧ W.frozen? ⟨g,i.toNat,none⟩ = false ∧ Kd.R k49 49 W base (fun k => some k = (Value.slice A2 (xs.getD i.toNat []).length c2).ownBlock) (.slice A2 (xs.getD i.toNat []).length c2) (xs.getD i.toNat []) ∧
   (∀ k,some k = (Value.slice A2 (xs.getD i.toNat []).length c2).ownBlock → ok k) ∧
   ∀ (w1 : World) (ok1 : Nat → Prop) (ys : List (S49)),Kept W w1 (fun k => some k = (Value.slice A2 (xs.getD i.toNat []).length c2).ownBlock) → Kd.R k49 49 w1 base ok1 (.slice A2 (xs.getD i.toNat []).length c2) ys → Kd.S impl_Op_63.kcl 25 w1 base ok (.slice (some ⟨g,0,none⟩) n cap) (xs.set i.toNat ys) := by
 obtain ⟨oki,c,hcl,hM,hcc,hfr,hoki,hH⟩ := Kd.S_elem h [] i h0 h1
 obtain ⟨A2,c2,rfl,hr⟩ := hM
 have hin : ∀ k,some k = (Value.slice A2 (xs.getD i.toNat []).length c2).ownBlock → oki k := fun k hk => hr.1 k hk.symm
 have hx := hcc 0 _ rfl
 have hf := hfr 0
 rw [show (impl_Op_63.kcl).sz = 1 from rfl,Nat.mul_one,Nat.add_zero] at hx hf
 refine ⟨A2,c2,hx,hf,Kd.R_tight rfl hr,fun k hk => (hoki k (hin k hk)).1,fun w1 ok1 ys hk hR => ?_⟩
 have h2 := Kd.H_step hH (w1 := w1) (fun k _ hn hlt => hk.2 k hlt (fun hs => hn (hin k hs)))
 have hl := (Kd.R_reads' hR).1
 refine Kd.H_back h2 (x' := ys) (okp := fun k => some k = (Value.slice A2 (xs.getD i.toNat []).length c2).ownBlock) ⟨A2,c2,by rw [hl],?_⟩ (fun k hk => hin k hk)
 have h3 := Kd.R_tight rfl hR
 rw [hl] at h3 ⊢
 exact h3
set_option maxHeartbeats 8000000 in
set_option maxRecDepth 100000 in
theorem laws_markOpSS.calls (k : Nat) (P0_ : Nat → Prop) (u9000_ : Value) (l0 : List (List (S49))) (a1 : Int) (r1 : Int) (r2 : List (List (S49))) (w0 w : World) (hB : Below w0.heap.size w0 w) (ho0 : Kd.S impl_Op_63.kcl 25 w w0.heap.size P0_ u9000_ l0) (h : laws_markOpSS.f k l0 a1 = some (r1,r2)) :
  Calls Try.prog 40 #[u9000_,.int .i64 a1] w fun e w' => e = .returned (.int .i64 r1) ∧ Kd.S impl_Op_63.kcl 25 w' w0.heap.size P0_ u9000_ r2 ∧ Below w0.heap.size w0 w' ∧ Kept w w' P0_ := by
 have HO0 := As_ ho0
 have HK := As_ (Kept.refl w P0_)
 have HB := As_ hB
 clear hB ho0
 have H : (laws_markOpSS.l0 k l0 a1 0) = some (r1,r2) := h
 clear h
 have H' := As_ H
 clear H
 go_enter Try.func40,Try.ntmps40
 go_wp2
 go_loopg [1,5] k (fun kq v1 v5 w' => ∃ (x0_1 : List (List (S49))) (x1_1 : Int) (x5_1 : Int),v1 = .int .i64 x1_1 ∧ v5 = .int .i64 x5_1 ∧ Aside0 (laws_markOpSS.l0 kq x0_1 x1_1 x5_1 = some (r1,r2)) ∧ Aside0 (kq ≤ k) ∧ Aside0 (Kd.S impl_Op_63.kcl 25 w' w0.heap.size P0_ u9000_ x0_1) ∧ Aside0 (Kept w w' P0_) ∧ Aside0 (Below w0.heap.size w0 w'))
 case atStart => exact ⟨(l0),(a1),(0),zT_,zT_,H',⟨Nat.le_refl _⟩,⟨HO0.out⟩,⟨HK.out⟩,⟨HB.out⟩⟩
 case round =>
  clear H'
  obtain ⟨x0_1,x1_1,x5_1,rfl,rfl,HA,HK1,HO_0,HK,HB⟩ := hrel
  cases gk with
  | zero => exact absurd HA.out (fun h_ => (by cases h_))
  | succ k1 =>
   have H := HA.out
   clear HA
   unfold laws_markOpSS.l0 at H
   by_cases c3 : x5_1 < (x0_1.length : Int)
   rotate_left
   ·rw [if_neg c3] at H
    have c3b0 : decide (x5_1 < (x0_1.length : Int)) = false := deF c3
    clear c3
    simp only [Option.some.injEq,Prod.mk.injEq] at H
    obtain ⟨rfl,rfl⟩ := H
    obtain ⟨Ao12,co12,eo12⟩ := Kd.S_slice HO_0.out
    subst eo12
    go_wp2
    go_ret
    exact ⟨zE_,HO_0.out,HB.out,HK.out⟩

   rw [if_pos c3] at H
   have c3b0 : decide (x5_1 < (x0_1.length : Int)) = true := deT c3
   by_cases c4 : 0 ≤ x5_1
   rotate_left
   ·rw [if_neg c4] at H
    exact absurd H (by simp)
   rw [if_pos c4] at H
   have c4b0 : decide (0 ≤ x5_1) = true := deT c4
   replace H := obS H
   obtain ⟨⟨m1,ms⟩,A30,H⟩ := H
   have A3 := As_ A30
   clear A30
   have H' := As_ H
   clear H
   obtain ⟨go5,co5,rfl,gb5,gl5,cl5,HG5⟩ := Kd.S_form HO_0.out (by omega)
   obtain ⟨A2,c2,hx5_0,hf5_0,hr7,hin7,hback⟩ := laws_markOpSS.row HO_0.out x5_1 c4 c3
   generalize hrow : x0_1.getD x5_1.toNat [] = row at A3 hx5_0 hr7 hin7 hback
   have p5 := eq_true c4
   have q5 := eq_true c3
   go_wp2_with ((with_reducible refine gate_callee (f := 34) rfl ?_);refine goesL_ (some 17) rfl rfl Try.func34 (by kernel_rfl) rfl #[.slice A2 row.length row.length,.int .i64 x1_1] rfl (by (try simp only [List.map_toArray,List.map_cons,List.map_nil]);first|done|rfl) ?_;(with_reducible refine (laws_markOpSS.cut row.length k1 (fun k => some k = (Value.slice A2 row.length c2).ownBlock) A2 row.length c2 row x1_1 m1 ms w0 _ ?side1 ?side2 A3.out).mono ?_);(case side1 => exact HB.out);(case side2 => exact hr7);rintro e w11 ⟨rfl,hy0,hb,hkp⟩;refine ⟨_,rfl,?_⟩;have hq3 := hback w11 _ ms hkp hy0;have HK3 := Kept.then_ HK.out hkp (fun k hk => .inl (hin7 k hk)))
   go_roundg k1
   case measure => have := HK1.out;omega
   case rel => exact ⟨_,m1,(wrap64 (x5_1 + 1)),zT_,zT_,H',⟨by have := HK1.out;omega⟩,⟨hq3⟩,⟨HK3⟩,⟨hb⟩⟩
/-! ### laws_heldOpSS: function 41 -/
def laws_heldOpSS.l0 : Nat → List (List (S49)) → Int → Int → Option (Int)
 | 0,_,_,_ => none
 | k + 1,x0,x1,x5 => if x5 < (x0.length : Int) then (if 0 ≤ x5 then ((laws_heldOpS.f k (rd_L6 x0 x5) x1).bind fun t460 => (if t460 < 0 then (some (-1)) else (laws_heldOpSS.l0 k x0 t460 (wrap64 (x5 + 1))))) else (none)) else (some x1)
def laws_heldOpSS.f (k : Nat) (l0 : List (List (S49))) (a1 : Int) : Option (Int) := laws_heldOpSS.l0 k l0 a1 0
set_option maxRecDepth 100000 in
theorem laws_heldOpSS.mono_l : ∀ k,(∀ y0 y1 y2,LeO (laws_heldOpSS.l0 k y0 y1 y2) (laws_heldOpSS.l0 (k + 1) y0 y1 y2))
 | 0 => fun _ _ _ r h => (by cases h)
 | k + 1 => by
  have ih0 := laws_heldOpSS.mono_l k
  ·intro y0 y1 y2
   unfold laws_heldOpSS.l0
   repeat' first
   | (with_reducible exact ih0 _ _ _)
   | (with_reducible exact laws_heldOpS.mono _ _ _)
   | (with_reducible exact LeO.refl _)
   | (with_reducible exact LeO.none _)
   | (with_reducible refine LeO.ite ?_ ?_)
   | (with_reducible refine LeO.bind ?_ (fun _ => ?_))
   | exact ih0 _ _ _
   | exact laws_heldOpS.mono _ _ _
   | exact LeO.none _
   | refine LeO.ite ?_ ?_
   | refine LeO.bind ?_ (fun _ => ?_)
set_option maxRecDepth 100000 in
theorem laws_heldOpSS.mono : ∀ a0 a1 k,LeO (laws_heldOpSS.f k a0 a1) (laws_heldOpSS.f (k + 1) a0 a1) := by
 intro a0 a1 k
 have ih0 := laws_heldOpSS.mono_l k
 unfold laws_heldOpSS.f
 repeat' first
   | (with_reducible exact ih0 _ _ _)
   | (with_reducible exact laws_heldOpS.mono _ _ _)
   | (with_reducible exact LeO.refl _)
   | (with_reducible exact LeO.none _)
   | (with_reducible refine LeO.ite ?_ ?_)
   | (with_reducible refine LeO.bind ?_ (fun _ => ?_))
   | exact ih0 _ _ _
   | exact laws_heldOpS.mono _ _ _
   | exact LeO.none _
   | refine LeO.ite ?_ ?_
   | refine LeO.bind ?_ (fun _ => ?_)
set_option maxHeartbeats 8000000 in
set_option maxRecDepth 100000 in
theorem laws_heldOpSS.calls (k : Nat) (A0 : Option Addr) (c0 : Nat) (l0 : List (List (S49))) (a1 : Int) (r : Int) (w : World) (hr0 : Kd.C (Kd.slice 49 k49) w A0 l0.length l0) (hc0 : l0.length ≤ c0) (h : laws_heldOpSS.f k l0 a1 = some r) :
  Calls Try.prog 41 #[.slice A0 l0.length c0,.int .i64 a1] w fun e w' => e = .returned (.int .i64 r) ∧ Drawn0 w w' := by
 have HR0 := As_ hr0
 have HC0 := As_ hc0
 clear hr0 hc0
 have H : (laws_heldOpSS.l0 k l0 a1 0) = some r := h
 clear h
 have H' := As_ H
 clear H
 go_enter Try.func41,Try.ntmps41
 go_wp2
 go_loopg [1,5] k (fun kq v1 v5 w' => ∃ (x1_1 : Int) (x5_1 : Int),v1 = .int .i64 x1_1 ∧ v5 = .int .i64 x5_1 ∧ Aside0 (laws_heldOpSS.l0 kq l0 x1_1 x5_1 = some r) ∧ Aside0 (kq ≤ k) ∧ Drawn0 w w')
 case atStart => exact ⟨(a1),(0),zT_,zT_,H',⟨Nat.le_refl _⟩,by repeat (first|exact Drawn0.refl _|apply Drawn0.step)⟩
 case round =>
  clear H'
  obtain ⟨x1_1,x5_1,rfl,rfl,HA,HK1,⟨m1,rfl⟩⟩ := hrel
  cases gk with
  | zero => exact absurd HA.out (fun h_ => (by cases h_))
  | succ k1 =>
   have H := HA.out
   clear HA
   simp only [laws_heldOpSS.l0] at H
   by_cases c3 : x5_1 < (l0.length : Int)
   rotate_left
   ·rw [if_neg c3] at H
    have c3b0 : decide (x5_1 < (l0.length : Int)) = false := deF c3
    clear c3
    obtain rfl := Option.some.inj H
    go_wp2
    go_ret
    exact ⟨by first|rfl|(simp;done)|(simp [*];done),by repeat (first|exact Drawn0.refl _|apply Drawn0.step)⟩

   rw [if_pos c3] at H
   have c3b0 : decide (x5_1 < (l0.length : Int)) = true := deT c3
   clear c3
   by_cases c4 : 0 ≤ x5_1
   rotate_left
   ·rw [if_neg c4] at H
    exact absurd H (by simp)
   rw [if_pos c4] at H
   have c4b0 : decide (0 ≤ x5_1) = true := deT c4
   clear c4
   replace H := obS H
   obtain ⟨t460,A50,H⟩ := H
   replace H : (if t460 < 0 then (some (-1)) else (laws_heldOpSS.l0 k1 l0 t460 (wrap64 (x5_1 + 1)))) = some r := H
   have A5 := As_ A50
   clear A50
   by_cases c6 : t460 < 0
   ·rw [if_pos c6] at H
    have c6b0 : decide (t460 < 0) = true := deT c6
    clear c6
    obtain rfl := Option.some.inj H
    have p459 : 0 ≤ (x5_1 : Int) := odT zA_
    have q459 : x5_1 < (l0.length : Int) := odT zA_
    obtain ⟨ad459,A459_0,c459_0,e459,hx459_0,hl459_0,hi459_0⟩ := at_L6 HR0.out x5_1 p459 q459
    cases e459
    have HR459_0 := As_ hi459_0
    have HC459_0 := As_ hl459_0
    clear hi459_0 hl459_0
    replace p459 := eq_true p459
    replace q459 := eq_true q459
    go_wp2_with (first|((with_reducible refine gate_callee (f := 46) rfl ?_);refine goesL_ (some 17) rfl rfl Try.func46 (by kernel_rfl) rfl #[.slice A459_0 (rd_L6 l0 x5_1).length c459_0,.int .i64 x1_1] rfl zM_ ?_;(with_reducible refine (laws_heldOpS.calls k1 _ _ (rd_L6 l0 x5_1) x1_1 t460 _ ?side1 ?side2 A5.out).mono ?_);(case side1 => repeat (first|exact HR459_0.out|(with_reducible refine Kd.C_alloc ?_ _)|(with_reducible refine Kd.C_drewN ?_ _)|(with_reducible refine Kd.C_drew ?_)));(case side2 => exact HC459_0.out);rintro e w' ⟨rfl,⟨nd,rfl⟩⟩;refine ⟨_,rfl,?_⟩))
    go_ret
    exact ⟨by first|rfl|(simp;done)|(simp [*];done),by repeat (first|exact Drawn0.refl _|apply Drawn0.step)⟩
   rw [if_neg c6] at H
   have c6b0 : decide (t460 < 0) = false := deF c6
   clear c6
   have H' := As_ H
   clear H
   have p459 : 0 ≤ (x5_1 : Int) := odT zA_
   have q459 : x5_1 < (l0.length : Int) := odT zA_
   obtain ⟨ad459,A459_0,c459_0,e459,hx459_0,hl459_0,hi459_0⟩ := at_L6 HR0.out x5_1 p459 q459
   cases e459
   have HR459_0 := As_ hi459_0
   have HC459_0 := As_ hl459_0
   clear hi459_0 hl459_0
   replace p459 := eq_true p459
   replace q459 := eq_true q459
   go_wp2_with (first|((with_reducible refine gate_callee (f := 46) rfl ?_);refine goesL_ (some 17) rfl rfl Try.func46 (by kernel_rfl) rfl #[.slice A459_0 (rd_L6 l0 x5_1).length c459_0,.int .i64 x1_1] rfl zM_ ?_;(with_reducible refine (laws_heldOpS.calls k1 _ _ (rd_L6 l0 x5_1) x1_1 t460 _ ?side1 ?side2 A5.out).mono ?_);(case side1 => repeat (first|exact HR459_0.out|(with_reducible refine Kd.C_alloc ?_ _)|(with_reducible refine Kd.C_drewN ?_ _)|(with_reducible refine Kd.C_drew ?_)));(case side2 => exact HC459_0.out);rintro e w' ⟨rfl,⟨nd,rfl⟩⟩;refine ⟨_,rfl,?_⟩))
   go_roundg k1
   case measure => have := HK1.out;omega
   case rel => exact ⟨(t460),(wrap64 (x5_1 + 1)),zT_,zT_,H',⟨by have := HK1.out;omega⟩,by repeat (first|exact Drawn0.refl _|apply Drawn0.step)⟩
end Go.Proofs.Ytonppkaobnfldaa.Q
