-- Written by wip/tools/qprint.py (a program of this claim's author) by means of the kit's printer.
import Derived.Test.YtfhakhbmbnbneaaQ0
import Derived.Test.YtfhakhbmbnbneaaQ70
namespace Go.Proofs.Ytfhakhbmbnbneaa.Q
open Go.RowKit Go.Proofs.YtfhakhbmbnbneaaW.PrintWords Go.Proofs.YtfhakhbmbnbneaaW.PrintLast Go.Proofs.YtfhakhbmbnbneaaW.PrintMore
attribute [local go_sem] max2_int min2_int max_two min_two max_three min_three max_four min_four   -- for this text's walks alone
set_option linter.unusedVariables false
set_option linter.unusedSimpArgs false

/-! ### spec_validDict: function 101 -/
mutual
def spec_validDict.l0 : Nat → Int → List (S45) → Int → Int → Int → List Int → Option (Bool)
 | 0,_,_,_,_,_,_ => none
 | k + 1,x5,x113000,x113001,x114000,x114001,x114002 => if x5 < (x114002.length : Int) then (if 0 ≤ x5 then (if 0 ≤ (rd x114002 x5) then (if (rd x114002 x5) < (x113000.length : Int) then ((spec_isKey.f ((rd_T45 x113000 (rd x114002 x5)).f0) ((rd_T45 x113000 (rd x114002 x5)).f1) ((rd_T45 x113000 (rd x114002 x5)).f2)).bind fun t116 => (if t116 = true then (spec_validDict.l1 k x5 0 x113000 x113001 x114000 x114001 x114002) else (some false))) else (none)) else (none)) else (none)) else (some (((x114002.length : Int) % 2) == 0))
def spec_validDict.l1 : Nat → Int → Int → List (S45) → Int → Int → Int → List Int → Option (Bool)
 | 0,_,_,_,_,_,_,_ => none
 | k + 1,x5,x6,x113000,x113001,x114000,x114001,x114002 => if x6 < x5 then (if 0 ≤ x5 then (if x5 < (x114002.length : Int) then (if 0 ≤ (rd x114002 x5) then (if (rd x114002 x5) < (x113000.length : Int) then (if 0 ≤ x6 then (if x6 < (x114002.length : Int) then (if 0 ≤ (rd x114002 x6) then (if (rd x114002 x6) < (x113000.length : Int) then ((spec_sameKey.f ((rd_T45 x113000 (rd x114002 x5)).f0) ((rd_T45 x113000 (rd x114002 x5)).f1) ((rd_T45 x113000 (rd x114002 x5)).f2) ((rd_T45 x113000 (rd x114002 x6)).f0) ((rd_T45 x113000 (rd x114002 x6)).f1) ((rd_T45 x113000 (rd x114002 x6)).f2)).bind fun t121 => (if t121 = true then (some false) else (spec_validDict.l1 k x5 (wrap64 (x6 + 2)) x113000 x113001 x114000 x114001 x114002))) else (none)) else (none)) else (none)) else (none)) else (none)) else (none)) else (none)) else (none)) else (spec_validDict.l0 k (wrap64 (x5 + 2)) x113000 x113001 x114000 x114001 x114002)
end
def spec_validDict.f (k : Nat) (l0_0 : List (S45)) (a0_1 : Int) (a1_0 : Int) (a1_1 : Int) (l1_2 : List Int) : Option (Bool) := spec_validDict.l0 k 0 l0_0 a0_1 a1_0 a1_1 l1_2
set_option maxRecDepth 100000 in
theorem spec_validDict.mono_l : ∀ k,(∀ y0 y1 y2 y3 y4 y5,LeO (spec_validDict.l0 k y0 y1 y2 y3 y4 y5) (spec_validDict.l0 (k + 1) y0 y1 y2 y3 y4 y5)) ∧ (∀ y0 y1 y2 y3 y4 y5 y6,LeO (spec_validDict.l1 k y0 y1 y2 y3 y4 y5 y6) (spec_validDict.l1 (k + 1) y0 y1 y2 y3 y4 y5 y6))
 | 0 => ⟨fun _ _ _ _ _ _ r h => (by cases h),fun _ _ _ _ _ _ _ r h => (by cases h)⟩
 | k + 1 => by
  obtain ⟨ih0,ih1⟩ := spec_validDict.mono_l k
  refine ⟨?_,?_⟩
  ·intro y0 y1 y2 y3 y4 y5
   unfold spec_validDict.l0
   repeat' first
   | (with_reducible exact ih0 _ _ _ _ _ _)
   | (with_reducible exact ih1 _ _ _ _ _ _ _)
   | (with_reducible exact LeO.refl _)
   | (with_reducible exact LeO.none _)
   | (with_reducible refine LeO.ite ?_ ?_)
   | (with_reducible refine LeO.bind ?_ (fun _ => ?_))
   | exact ih0 _ _ _ _ _ _
   | exact ih1 _ _ _ _ _ _ _
   | exact LeO.none _
   | refine LeO.ite ?_ ?_
   | refine LeO.bind ?_ (fun _ => ?_)
  ·intro y0 y1 y2 y3 y4 y5 y6
   unfold spec_validDict.l1
   repeat' first
   | (with_reducible exact ih0 _ _ _ _ _ _)
   | (with_reducible exact ih1 _ _ _ _ _ _ _)
   | (with_reducible exact LeO.refl _)
   | (with_reducible exact LeO.none _)
   | (with_reducible refine LeO.ite ?_ ?_)
   | (with_reducible refine LeO.bind ?_ (fun _ => ?_))
   | exact ih0 _ _ _ _ _ _
   | exact ih1 _ _ _ _ _ _ _
   | exact LeO.none _
   | refine LeO.ite ?_ ?_
   | refine LeO.bind ?_ (fun _ => ?_)
set_option maxRecDepth 100000 in
theorem spec_validDict.mono : ∀ a0 a1 a2 a3 a4 k,LeO (spec_validDict.f k a0 a1 a2 a3 a4) (spec_validDict.f (k + 1) a0 a1 a2 a3 a4) := by
 intro a0 a1 a2 a3 a4 k
 obtain ⟨ih0,ih1⟩ := spec_validDict.mono_l k
 unfold spec_validDict.f
 repeat' first
   | (with_reducible exact ih0 _ _ _ _ _ _)
   | (with_reducible exact ih1 _ _ _ _ _ _ _)
   | (with_reducible exact LeO.refl _)
   | (with_reducible exact LeO.none _)
   | (with_reducible refine LeO.ite ?_ ?_)
   | (with_reducible refine LeO.bind ?_ (fun _ => ?_))
   | exact ih0 _ _ _ _ _ _
   | exact ih1 _ _ _ _ _ _ _
   | exact LeO.none _
   | refine LeO.ite ?_ ?_
   | refine LeO.bind ?_ (fun _ => ?_)
def spec_validDict.T4 : Bool × List (List Nat × List Nat) := (true,[([],[]),([0],[0]),([],[]),([2],[2]),([],[]),([3,4],[3,4]),([5],[5]),([1,6],[1,6]),([7],[7]),([8],[8]),([9],[9])])
def spec_validDict.B4 : List Nat := [0,1,0,4,0,28,60,127,255,511,1023]
theorem spec_validDict.tab4 : rtab .any (opsOf Try.f101 4) = spec_validDict.T4 := by kernel_rfl
theorem spec_validDict.bits4 : waitsOk spec_validDict.T4.2 spec_validDict.B4 = true := by kernel_rfl
def spec_validDict.T9 : Bool × List (List Nat × List Nat) := (true,[([],[]),([0],[0]),([],[]),([2],[2]),([],[]),([3,4],[3,4]),([5],[5]),([1,6],[1,6]),([7],[7]),([],[]),([9],[9]),([],[]),([11],[11]),([],[]),([12,13],[12,13]),([14],[14]),([10,15],[10,15]),([16],[16]),([8,17],[8,17])])
def spec_validDict.B9 : List Nat := [0,1,0,4,0,28,60,127,255,0,512,0,2048,0,14336,30720,65024,130560,262143]
theorem spec_validDict.tab9 : rtab .any (opsOf Try.f101 9) = spec_validDict.T9 := by kernel_rfl
theorem spec_validDict.bits9 : waitsOk spec_validDict.T9.2 spec_validDict.B9 = true := by kernel_rfl
set_option maxHeartbeats 8000000 in
set_option maxRecDepth 100000 in
theorem spec_validDict.calls (k : Nat) (A0_0 : Option Addr) (c0_0 : Nat) (l0_0 : List (S45)) (a0_1 : Int) (a1_0 : Int) (a1_1 : Int) (A1_2 : Option Addr) (c1_2 : Nat) (l1_2 : List Int) (r : Bool) (w : World) (hr0_0 : Kd.C k45 w A0_0 l0_0.length l0_0) (hc0_0 : l0_0.length ≤ c0_0) (hr1_2 : Kd.C (Kd.int .i64) w A1_2 l1_2.length l1_2) (hc1_2 : l1_2.length ≤ c1_2) (h : spec_validDict.f k l0_0 a0_1 a1_0 a1_1 l1_2 = some r) :
  Calls Try.prog 101 #[.agg #[.slice A0_0 l0_0.length c0_0,.int .i64 a0_1],.agg #[.int .i64 a1_0,.int .i64 a1_1,.slice A1_2 l1_2.length c1_2]] w fun e w' => e = .returned (.bool r) ∧ Below w.heap.size w w' := by
 have hu29 := Try.underlying29
 have hu45 := Try.underlying45
 have HR0_0 := As_ hr0_0
 have HC0_0 := As_ hc0_0
 clear hr0_0 hc0_0
 have HR1_2 := As_ hr1_2
 have HC1_2 := As_ hc1_2
 clear hr1_2 hc1_2
 have HB := As_ (Below.refl w.heap.size w)
 have H : (spec_validDict.l0 k 0 l0_0 a0_1 a1_0 a1_1 l1_2) = some r := h
 clear h
 have H' := As_ H
 clear H
 go_enter Try.func101,Try.ntmps101
 go_wp2_with (first|((with_reducible refine gate_dst (N := 2) rfl ?_);refine box_event ?hg (N := 2) ?hd (cs := #[.slice A0_0 l0_0.length c0_0,.int .i64 a0_1]) (t := 29) ?hr ?_;(case hd => rfl);(case hg => rfl);(case hr => go_simp <;> rfl);intro gb112 hg w3 hbox hb;have n0_ := As_ (bwT (zb0 HB.out) hb);have n1_ := As_ (hbox);have n2_ := As_ ((by rw [hg];exact (bwZ (zb0 HB.out)) : w.heap.size ≤ gb112));have n3_ := As_ ((by rw [hg];exact (bwZ (zb0 HB.out)) : w.heap.size ≤ gb112));clear HB;revert n0_ n1_ n2_ n3_;intro HB BK112 GW112 GE112;clear hb hbox hg)|((with_reducible refine gate_dst (N := 3) rfl ?_);refine box_event ?hg (N := 3) ?hd (cs := #[.int .i64 a1_0,.int .i64 a1_1,.slice A1_2 l1_2.length c1_2]) (t := 45) ?hr ?_;(case hd => rfl);(case hg => rfl);(case hr => go_simp <;> rfl);intro gb113 hg w4 hbox hb;have n0_ := As_ (zkb BK112.out hb);have n1_ := As_ (bwT (zb1 HB.out GE112.out) hb);have n2_ := As_ (hbox);have n3_ := As_ ((by rw [hg];exact (bwZ (zb1 HB.out GE112.out)) : w.heap.size ≤ gb113));have n4_ := As_ ((by rw [hg];exact (bwZ (zb1 HB.out GE112.out)) : w.heap.size ≤ gb113));have n5_ := As_ ((by rw [hg];exact Nat.ne_of_lt (zkl BK112.out) : gb112 ≠ gb113));have n6_ := As_ ((by rw [hg];exact Nat.ne_of_gt (zkl BK112.out) : gb113 ≠ gb112));clear BK112 HB;revert n0_ n1_ n2_ n3_ n4_ n5_ n6_;intro BK112 HB BK113 GW113 GE113 NB112_113 NB113_112;clear hb hbox hg))
 go_loopg [5] k (fun kq v5 w' => ∃ (x5_1 : Int),v5 = .int .i64 x5_1 ∧ Aside0 (spec_validDict.l0 kq x5_1 l0_0 a0_1 a1_0 a1_1 l1_2 = some r) ∧ Aside0 (kq ≤ k) ∧ Aside0 (w'.heap[gb112]? = some (.cells #[(.slice A0_0 l0_0.length c0_0),.int .i64 a0_1] 29 (0,0))) ∧ Aside0 (w'.heap[gb113]? = some (.cells #[.int .i64 a1_0,.int .i64 a1_1,(.slice A1_2 l1_2.length c1_2)] 45 (0,0))) ∧ Aside0 (Below w.heap.size w w'))
 case atStart => exact ⟨(0),zT_,H',⟨Nat.le_refl _⟩,⟨by (with_reducible repeat first|apply bkN|apply bkD|apply bkA);exact BK112.out⟩,⟨by (with_reducible repeat first|apply bkN|apply bkD|apply bkA);exact BK113.out⟩,⟨zb2 HB.out GE112.out GE113.out⟩⟩
 case round =>
  clear H'
  obtain ⟨x5_1,rfl,HA,HK1,BK112,BK113,HB⟩ := hrel
  cases gk with
  | zero => exact absurd HA.out (fun h_ => (by cases h_))
  | succ k1 =>
   have H := HA.out
   clear HA
   simp only [spec_validDict.l0] at H
   by_cases c5 : x5_1 < (l1_2.length : Int)
   rotate_left
   ·rw [if_neg c5] at H
    have c5b0 : decide (x5_1 < (l1_2.length : Int)) = false := deF c5
    clear c5
    obtain rfl := Option.some.inj H
    have hnb34 := NB113_112.out
    have hnc34 := NB112_113.out
    obtain ⟨hcz35_0,hcz35_1,hcz35_2,hfz35_0,hfz35_1,hfz35_2⟩ := bk3 BK113.out
    go_wp2
    go_ret
    exact ⟨zE_,zb2 HB.out GE112.out GE113.out⟩

   rw [if_pos c5] at H
   have c5b0 : decide (x5_1 < (l1_2.length : Int)) = true := deT c5
   clear c5
   by_cases c6 : 0 ≤ x5_1
   rotate_left
   ·rw [if_neg c6] at H
    exact absurd H (by simp)
   rw [if_pos c6] at H
   have c6b0 : decide (0 ≤ x5_1) = true := deT c6
   clear c6
   by_cases c7 : 0 ≤ (rd l1_2 x5_1)
   rotate_left
   ·rw [if_neg c7] at H
    exact absurd H (by simp)
   rw [if_pos c7] at H
   have c7b0 : decide (0 ≤ (rd l1_2 x5_1)) = true := deT c7
   clear c7
   by_cases c8 : (rd l1_2 x5_1) < (l0_0.length : Int)
   rotate_left
   ·rw [if_neg c8] at H
    exact absurd H (by simp)
   rw [if_pos c8] at H
   have c8b0 : decide ((rd l1_2 x5_1) < (l0_0.length : Int)) = true := deT c8
   clear c8
   replace H := obS H
   obtain ⟨t116,A90,H⟩ := H
   replace H : (if t116 = true then (spec_validDict.l1 k1 x5_1 0 l0_0 a0_1 a1_0 a1_1 l1_2) else (some false)) = some r := H
   have A9 := As_ A90
   clear A90
   by_cases c10 : t116 = true
   rotate_left
   ·replace c10 := Bool.eq_false_iff.mpr c10
    subst c10
    have H1 : (some false) = some r := by rw [if_neg (show ¬ (false = true) by decide)] at H;exact H
    clear H
    have H := H1
    clear H1
    obtain rfl := Option.some.inj H
    have hnb30 := NB113_112.out
    have hnc30 := NB112_113.out
    obtain ⟨hcz31_0,hcz31_1,hcz31_2,hfz31_0,hfz31_1,hfz31_2⟩ := bk3 BK113.out
    try go_wp2
    have n0_ := As_ (bkD BK112.out)
    have n1_ := As_ (bkD BK113.out)
    have n2_ := As_ (bwD HB.out)
    clear BK112 BK113 HB
    revert n0_ n1_ n2_;intro BK112 BK113 HB
    have p114 : 0 ≤ (x5_1 : Int) := odT zA_
    have q114 : x5_1 < (l1_2.length : Int) := odT zA_
    obtain ⟨ad114,e114,hx114_0⟩ := Kd.at_int HR1_2.out x5_1 p114 q114
    have hw114_0 := hx114_0
    cases e114
    replace hx114_0 := bwC HB.out hx114_0
    replace p114 := eq_true p114
    replace q114 := eq_true q114
    have p115 : 0 ≤ ((rd l1_2 x5_1) : Int) := odT zA_
    have q115 : (rd l1_2 x5_1) < (l0_0.length : Int) := odT zA_
    obtain ⟨ad115,A115_2,c115_2,e115,hx115_0,hx115_1,hx115_2,hl115_2,hi115_2⟩ := at_T45 HR0_0.out (rd l1_2 x5_1) p115 q115
    have hw115_2 := hx115_2
    have hw115_1 := hx115_1
    have hw115_0 := hx115_0
    cases e115
    replace hx115_0 := bwC HB.out hx115_0
    replace hx115_1 := bwC HB.out hx115_1
    replace hx115_2 := bwC HB.out hx115_2
    have HR115_2 := As_ hi115_2
    have HC115_2 := As_ hl115_2
    clear hi115_2 hl115_2
    replace p115 := eq_true p115
    replace q115 := eq_true q115
    refine start_ (n := 11) (S := fun w' => w'.cell? ⟨gb112,0,none⟩ = some (.slice (some ad115) l0_0.length c0_0) ∧ w'.cell? ⟨gb112,1,none⟩ = some (.int .i64 a0_1) ∧ w'.cell? ⟨gb113,0,none⟩ = some (.int .i64 a1_0) ∧ w'.cell? ⟨gb113,1,none⟩ = some (.int .i64 a1_1) ∧ w'.cell? ⟨gb113,2,none⟩ = some (.slice (some ad114) l1_2.length c1_2) ∧ w'.cell? (ad114.add (x5_1).toNat) = some (.int .i64 (rd l1_2 x5_1)) ∧ w'.cell? (ad115.add (((rd l1_2 x5_1)).toNat * 3)) = some (.int .i64 ((rd_T45 l0_0 (rd l1_2 x5_1)).f0)) ∧ w'.cell? ⟨(ad115.add (((rd l1_2 x5_1)).toNat * 3)).block,(ad115.add (((rd l1_2 x5_1)).toNat * 3)).off + 1,none⟩ = some (.int .i64 ((rd_T45 l0_0 (rd l1_2 x5_1)).f1)) ∧ w'.cell? ⟨(ad115.add (((rd l1_2 x5_1)).toNat * 3)).block,(ad115.add (((rd l1_2 x5_1)).toNat * 3)).off + 2,none⟩ = some (.slice A115_2 ((rd_T45 l0_0 (rd l1_2 x5_1)).f2).length c115_2)) (ds := []) (bl_ 0 11) (by kernel_rfl) rfl rfl ⟨(bkC BK112.out 0).trans rfl,(bkC BK112.out 1).trans rfl,(bkC BK113.out 0).trans rfl,(bkC BK113.out 1).trans rfl,(bkC BK113.out 2).trans rfl,((HB.out.cell (bwL w _ hw114_0)).trans hw114_0),((HB.out.cell (bwL w _ hw115_0)).trans hw115_0),((HB.out.cell (bwL w _ hw115_1)).trans hw115_1),((HB.out.cell (bwL w _ hw115_2)).trans hw115_2)⟩ (fun hHeld => ?_);refine with_tabW spec_validDict.tab4 spec_validDict.bits4 (fun HT_ HW_ => ?_)
    generalize wr.drew = w32 at BK112 BK113 HB HR115_2 hx114_0 hx115_0 hx115_1 hx115_2 hHeld ⊢
    refine pQ 0 14 (bl_ 1 11) HT_ rfl ?_
    refine pQ 2 16 (bl_ 5 11) HT_ rfl ?_
    refine pQ 4 18 (bl_ 21 11) HT_ rfl ?_
    refine tP 1 15 (bl_ 23 11) ?_ HT_ HW_ rfl (.inl ⟨by rfl,?_⟩) hHeld ?_ ?_ ?_;rotate_left;(rintro w' ⟨s0,s1,s2,s3,s4,s5,s6,s7,s8⟩;go_simp;with_reducible rfl);rotate_left;(simp only [Act.put,sq_,i64_w,i32_w];rfl)
    refine tP 3 17 (bl_ 31 11) ?_ HT_ HW_ rfl (.inl ⟨by rfl,?_⟩) hHeld ?_ ?_ ?_;rotate_left;(rintro w' ⟨s0,s1,s2,s3,s4,s5,s6,s7,s8⟩;go_simp;with_reducible rfl);rotate_left;(simp only [Act.put,sq_,i64_w,i32_w];rfl)
    refine pQ 5 19 (bl_ 63 11) HT_ rfl ?_
    refine tP 6 20 (bl_ 127 11) ?_ HT_ HW_ rfl (.inl ⟨by rfl,?_⟩) hHeld ?_ ?_ ?_;rotate_left;(rintro w' ⟨s0,s1,s2,s3,s4,s5,s6,s7,s8⟩;go_simp;with_reducible rfl);rotate_left;(simp only [Act.put,sq_,i64_w,i32_w];rfl)
    refine pQ 7 21 (bl_ 255 11) HT_ rfl ?_
    refine tP 8 22 (bl_ 511 11) ?_ HT_ HW_ rfl (.inl ⟨by rfl,?_⟩) hHeld ?_ ?_ ?_;rotate_left;(rintro w' ⟨s0,s1,s2,s3,s4,s5,s6,s7,s8⟩;go_simp;with_reducible rfl);rotate_left;(simp only [Act.put,sq_,i64_w,i32_w];rfl)
    refine one_ (i := 9) (N := some 23) (bl_ 1023 11) rfl rfl (one_of HT_.out (by kernel_rfl)) (by decide) (fun K hK => ?_)
    refine goes_ Try.func105 (by kernel_rfl) rfl #[.agg #[.int .i64 ((rd_T45 l0_0 (rd l1_2 x5_1)).f0),.int .i64 ((rd_T45 l0_0 (rd l1_2 x5_1)).f1),.slice A115_2 ((rd_T45 l0_0 (rd l1_2 x5_1)).f2).length c115_2]] (by rfl) rfl rfl zM_ ?_
    with_reducible refine (spec_isKey.calls ((rd_T45 l0_0 (rd l1_2 x5_1)).f0) ((rd_T45 l0_0 (rd l1_2 x5_1)).f1) _ _ ((rd_T45 l0_0 (rd l1_2 x5_1)).f2) false _ ?side1 ?side2 A9.out).mono ?_
    (case side1 => exact zC_ (Kd.C_below HR115_2.out HB.out))
    (case side2 => exact HC115_2.out)
    rintro e w33 ⟨rfl,hb⟩
    refine ⟨_,rfl,?_⟩
    have n0_ := As_ (zkb BK112.out hb)
    have n1_ := As_ (zkb BK113.out hb)
    have n2_ := As_ (bwT (zb2 HB.out GE112.out GE113.out) hb)
    clear BK112 BK113 HB
    revert n0_ n1_ n2_;intro BK112 BK113 HB
    refine hK.out _ _ ⟨(bkC BK112.out 0).trans rfl,(bkC BK112.out 1).trans rfl,(bkC BK113.out 0).trans rfl,(bkC BK113.out 1).trans rfl,(bkC BK113.out 2).trans rfl,((HB.out.cell (bwL w _ hw114_0)).trans hw114_0),((HB.out.cell (bwL w _ hw115_0)).trans hw115_0),((HB.out.cell (bwL w _ hw115_1)).trans hw115_1),((HB.out.cell (bwL w _ hw115_2)).trans hw115_2)⟩ (fun hHeld => ?_)
    clear hK K
    refine norm_ (a' := ?_) ?_ ?_
    rotate_left
    ·show Act.put _ (some 23) _ = _
     simp only [Act.put,sq_,i64_w,i32_w]
     rfl
    refine pQ 10 24 (bl_ 2047 11) HT_ rfl ?_
    refine done_ (done_of HT_.out (by kernel_rfl)) ?_
    try go_wp2
    go_ret
    exact ⟨zE_,zb2 HB.out GE112.out GE113.out⟩
   subst c10
   have H1 : (spec_validDict.l1 k1 x5_1 0 l0_0 a0_1 a1_0 a1_1 l1_2) = some r := by rw [if_pos rfl] at H;exact H
   clear H
   have H := H1
   clear H1
   have H' := As_ H
   clear H
   have hnb11 := NB113_112.out
   have hnc11 := NB112_113.out
   obtain ⟨hcz12_0,hcz12_1,hcz12_2,hfz12_0,hfz12_1,hfz12_2⟩ := bk3 BK113.out
   try go_wp2
   have n0_ := As_ (bkD BK112.out)
   have n1_ := As_ (bkD BK113.out)
   have n2_ := As_ (bwD HB.out)
   clear BK112 BK113 HB
   revert n0_ n1_ n2_;intro BK112 BK113 HB
   have p114 : 0 ≤ (x5_1 : Int) := odT zA_
   have q114 : x5_1 < (l1_2.length : Int) := odT zA_
   obtain ⟨ad114,e114,hx114_0⟩ := Kd.at_int HR1_2.out x5_1 p114 q114
   have hw114_0 := hx114_0
   cases e114
   replace hx114_0 := bwC HB.out hx114_0
   replace p114 := eq_true p114
   replace q114 := eq_true q114
   have p115 : 0 ≤ ((rd l1_2 x5_1) : Int) := odT zA_
   have q115 : (rd l1_2 x5_1) < (l0_0.length : Int) := odT zA_
   obtain ⟨ad115,A115_2,c115_2,e115,hx115_0,hx115_1,hx115_2,hl115_2,hi115_2⟩ := at_T45 HR0_0.out (rd l1_2 x5_1) p115 q115
   have hw115_2 := hx115_2
   have hw115_1 := hx115_1
   have hw115_0 := hx115_0
   cases e115
   replace hx115_0 := bwC HB.out hx115_0
   replace hx115_1 := bwC HB.out hx115_1
   replace hx115_2 := bwC HB.out hx115_2
   have HR115_2 := As_ hi115_2
   have HC115_2 := As_ hl115_2
   clear hi115_2 hl115_2
   replace p115 := eq_true p115
   replace q115 := eq_true q115
   refine start_ (n := 11) (S := fun w' => w'.cell? ⟨gb112,0,none⟩ = some (.slice (some ad115) l0_0.length c0_0) ∧ w'.cell? ⟨gb112,1,none⟩ = some (.int .i64 a0_1) ∧ w'.cell? ⟨gb113,0,none⟩ = some (.int .i64 a1_0) ∧ w'.cell? ⟨gb113,1,none⟩ = some (.int .i64 a1_1) ∧ w'.cell? ⟨gb113,2,none⟩ = some (.slice (some ad114) l1_2.length c1_2) ∧ w'.cell? (ad114.add (x5_1).toNat) = some (.int .i64 (rd l1_2 x5_1)) ∧ w'.cell? (ad115.add (((rd l1_2 x5_1)).toNat * 3)) = some (.int .i64 ((rd_T45 l0_0 (rd l1_2 x5_1)).f0)) ∧ w'.cell? ⟨(ad115.add (((rd l1_2 x5_1)).toNat * 3)).block,(ad115.add (((rd l1_2 x5_1)).toNat * 3)).off + 1,none⟩ = some (.int .i64 ((rd_T45 l0_0 (rd l1_2 x5_1)).f1)) ∧ w'.cell? ⟨(ad115.add (((rd l1_2 x5_1)).toNat * 3)).block,(ad115.add (((rd l1_2 x5_1)).toNat * 3)).off + 2,none⟩ = some (.slice A115_2 ((rd_T45 l0_0 (rd l1_2 x5_1)).f2).length c115_2)) (ds := []) (bl_ 0 11) (by kernel_rfl) rfl rfl ⟨(bkC BK112.out 0).trans rfl,(bkC BK112.out 1).trans rfl,(bkC BK113.out 0).trans rfl,(bkC BK113.out 1).trans rfl,(bkC BK113.out 2).trans rfl,((HB.out.cell (bwL w _ hw114_0)).trans hw114_0),((HB.out.cell (bwL w _ hw115_0)).trans hw115_0),((HB.out.cell (bwL w _ hw115_1)).trans hw115_1),((HB.out.cell (bwL w _ hw115_2)).trans hw115_2)⟩ (fun hHeld => ?_);refine with_tabW spec_validDict.tab4 spec_validDict.bits4 (fun HT_ HW_ => ?_)
   generalize wr.drew = w13 at BK112 BK113 HB HR115_2 hx114_0 hx115_0 hx115_1 hx115_2 hHeld ⊢
   refine pQ 0 14 (bl_ 1 11) HT_ rfl ?_
   refine pQ 2 16 (bl_ 5 11) HT_ rfl ?_
   refine pQ 4 18 (bl_ 21 11) HT_ rfl ?_
   refine tP 1 15 (bl_ 23 11) ?_ HT_ HW_ rfl (.inl ⟨by rfl,?_⟩) hHeld ?_ ?_ ?_;rotate_left;(rintro w' ⟨s0,s1,s2,s3,s4,s5,s6,s7,s8⟩;go_simp;with_reducible rfl);rotate_left;(simp only [Act.put,sq_,i64_w,i32_w];rfl)
   refine tP 3 17 (bl_ 31 11) ?_ HT_ HW_ rfl (.inl ⟨by rfl,?_⟩) hHeld ?_ ?_ ?_;rotate_left;(rintro w' ⟨s0,s1,s2,s3,s4,s5,s6,s7,s8⟩;go_simp;with_reducible rfl);rotate_left;(simp only [Act.put,sq_,i64_w,i32_w];rfl)
   refine pQ 5 19 (bl_ 63 11) HT_ rfl ?_
   refine tP 6 20 (bl_ 127 11) ?_ HT_ HW_ rfl (.inl ⟨by rfl,?_⟩) hHeld ?_ ?_ ?_;rotate_left;(rintro w' ⟨s0,s1,s2,s3,s4,s5,s6,s7,s8⟩;go_simp;with_reducible rfl);rotate_left;(simp only [Act.put,sq_,i64_w,i32_w];rfl)
   refine pQ 7 21 (bl_ 255 11) HT_ rfl ?_
   refine tP 8 22 (bl_ 511 11) ?_ HT_ HW_ rfl (.inl ⟨by rfl,?_⟩) hHeld ?_ ?_ ?_;rotate_left;(rintro w' ⟨s0,s1,s2,s3,s4,s5,s6,s7,s8⟩;go_simp;with_reducible rfl);rotate_left;(simp only [Act.put,sq_,i64_w,i32_w];rfl)
   refine one_ (i := 9) (N := some 23) (bl_ 1023 11) rfl rfl (one_of HT_.out (by kernel_rfl)) (by decide) (fun K hK => ?_)
   refine goes_ Try.func105 (by kernel_rfl) rfl #[.agg #[.int .i64 ((rd_T45 l0_0 (rd l1_2 x5_1)).f0),.int .i64 ((rd_T45 l0_0 (rd l1_2 x5_1)).f1),.slice A115_2 ((rd_T45 l0_0 (rd l1_2 x5_1)).f2).length c115_2]] (by rfl) rfl rfl zM_ ?_
   with_reducible refine (spec_isKey.calls ((rd_T45 l0_0 (rd l1_2 x5_1)).f0) ((rd_T45 l0_0 (rd l1_2 x5_1)).f1) _ _ ((rd_T45 l0_0 (rd l1_2 x5_1)).f2) true _ ?side1 ?side2 A9.out).mono ?_
   (case side1 => exact zC_ (Kd.C_below HR115_2.out HB.out))
   (case side2 => exact HC115_2.out)
   rintro e w14 ⟨rfl,hb⟩
   refine ⟨_,rfl,?_⟩
   have n0_ := As_ (zkb BK112.out hb)
   have n1_ := As_ (zkb BK113.out hb)
   have n2_ := As_ (bwT (zb2 HB.out GE112.out GE113.out) hb)
   clear BK112 BK113 HB
   revert n0_ n1_ n2_;intro BK112 BK113 HB
   refine hK.out _ _ ⟨(bkC BK112.out 0).trans rfl,(bkC BK112.out 1).trans rfl,(bkC BK113.out 0).trans rfl,(bkC BK113.out 1).trans rfl,(bkC BK113.out 2).trans rfl,((HB.out.cell (bwL w _ hw114_0)).trans hw114_0),((HB.out.cell (bwL w _ hw115_0)).trans hw115_0),((HB.out.cell (bwL w _ hw115_1)).trans hw115_1),((HB.out.cell (bwL w _ hw115_2)).trans hw115_2)⟩ (fun hHeld => ?_)
   clear hK K
   refine norm_ (a' := ?_) ?_ ?_
   rotate_left
   ·show Act.put _ (some 23) _ = _
    simp only [Act.put,sq_,i64_w,i32_w]
    rfl
   refine pQ 10 24 (bl_ 2047 11) HT_ rfl ?_
   refine done_ (done_of HT_.out (by kernel_rfl)) ?_
   try go_wp2
   go_loopg [6] k1 (fun kq v6 w' => ∃ (x6_2 : Int),v6 = .int .i64 x6_2 ∧ Aside0 (spec_validDict.l1 kq x5_1 x6_2 l0_0 a0_1 a1_0 a1_1 l1_2 = some r) ∧ Aside0 (kq ≤ k1) ∧ Aside0 (w'.heap[gb112]? = some (.cells #[(.slice (some ad115) l0_0.length c0_0),.int .i64 a0_1] 29 (0,0))) ∧ Aside0 (w'.heap[gb113]? = some (.cells #[.int .i64 a1_0,.int .i64 a1_1,(.slice (some ad114) l1_2.length c1_2)] 45 (0,0))) ∧ Aside0 (Below w.heap.size w w'))
   case atStart => exact ⟨(0),zT_,H',⟨Nat.le_refl _⟩,⟨by (with_reducible repeat first|apply bkN|apply bkD|apply bkA);exact BK112.out⟩,⟨by (with_reducible repeat first|apply bkN|apply bkD|apply bkA);exact BK113.out⟩,⟨zb2 HB.out GE112.out GE113.out⟩⟩
   case round =>
    clear H'
    obtain ⟨x6_2,rfl,HA,HK2,BK112,BK113,HB⟩ := hrel
    cases gk with
    | zero => exact absurd HA.out (fun h_ => (by cases h_))
    | succ k2 =>
     have H := HA.out
     clear HA
     simp only [spec_validDict.l1] at H
     by_cases c15 : x6_2 < x5_1
     rotate_left
     ·rw [if_neg c15] at H
      have c15b0 : decide (x6_2 < x5_1) = false := deF c15
      clear c15
      have H' := As_ H
      clear H
      go_wp2
      go_roundg k2
      case measure => have := HK1.out;have := HK2.out;omega
      case rel => exact ⟨(wrap64 (x5_1 + 2)),zT_,H',⟨by have := HK1.out;have := HK2.out;omega⟩,⟨by (with_reducible repeat first|apply bkN|apply bkD|apply bkA);exact BK112.out⟩,⟨by (with_reducible repeat first|apply bkN|apply bkD|apply bkA);exact BK113.out⟩,⟨zb2 HB.out GE112.out GE113.out⟩⟩
     rw [if_pos c15] at H
     have c15b0 : decide (x6_2 < x5_1) = true := deT c15
     clear c15
     by_cases c16 : 0 ≤ x5_1
     rotate_left
     ·rw [if_neg c16] at H
      exact absurd H (by simp)
     rw [if_pos c16] at H
     have c16b0 : decide (0 ≤ x5_1) = true := deT c16
     clear c16
     by_cases c17 : x5_1 < (l1_2.length : Int)
     rotate_left
     ·rw [if_neg c17] at H
      exact absurd H (by simp)
     rw [if_pos c17] at H
     have c17b0 : decide (x5_1 < (l1_2.length : Int)) = true := deT c17
     clear c17
     by_cases c18 : 0 ≤ (rd l1_2 x5_1)
     rotate_left
     ·rw [if_neg c18] at H
      exact absurd H (by simp)
     rw [if_pos c18] at H
     have c18b0 : decide (0 ≤ (rd l1_2 x5_1)) = true := deT c18
     clear c18
     by_cases c19 : (rd l1_2 x5_1) < (l0_0.length : Int)
     rotate_left
     ·rw [if_neg c19] at H
      exact absurd H (by simp)
     rw [if_pos c19] at H
     have c19b0 : decide ((rd l1_2 x5_1) < (l0_0.length : Int)) = true := deT c19
     clear c19
     by_cases c20 : 0 ≤ x6_2
     rotate_left
     ·rw [if_neg c20] at H
      exact absurd H (by simp)
     rw [if_pos c20] at H
     have c20b0 : decide (0 ≤ x6_2) = true := deT c20
     clear c20
     by_cases c21 : x6_2 < (l1_2.length : Int)
     rotate_left
     ·rw [if_neg c21] at H
      exact absurd H (by simp)
     rw [if_pos c21] at H
     have c21b0 : decide (x6_2 < (l1_2.length : Int)) = true := deT c21
     clear c21
     by_cases c22 : 0 ≤ (rd l1_2 x6_2)
     rotate_left
     ·rw [if_neg c22] at H
      exact absurd H (by simp)
     rw [if_pos c22] at H
     have c22b0 : decide (0 ≤ (rd l1_2 x6_2)) = true := deT c22
     clear c22
     by_cases c23 : (rd l1_2 x6_2) < (l0_0.length : Int)
     rotate_left
     ·rw [if_neg c23] at H
      exact absurd H (by simp)
     rw [if_pos c23] at H
     have c23b0 : decide ((rd l1_2 x6_2) < (l0_0.length : Int)) = true := deT c23
     clear c23
     replace H := obS H
     obtain ⟨t121,A240,H⟩ := H
     replace H : (if t121 = true then (some false) else (spec_validDict.l1 k2 x5_1 (wrap64 (x6_2 + 2)) l0_0 a0_1 a1_0 a1_1 l1_2)) = some r := H
     have A24 := As_ A240
     clear A240
     by_cases c25 : t121 = true
     ·subst c25
      have H1 : (some false) = some r := by rw [if_pos rfl] at H;exact H
      clear H
      have H := H1
      clear H1
      obtain rfl := Option.some.inj H
      try go_wp2
      have n0_ := As_ (bkD BK112.out)
      have n1_ := As_ (bkD BK113.out)
      have n2_ := As_ (bwD HB.out)
      clear BK112 BK113 HB
      revert n0_ n1_ n2_;intro BK112 BK113 HB
      have p117 : 0 ≤ (x5_1 : Int) := odT zA_
      have q117 : x5_1 < (l1_2.length : Int) := odT zA_
      obtain ⟨ad117,e117,hx117_0⟩ := Kd.at_int HR1_2.out x5_1 p117 q117
      have hw117_0 := hx117_0
      obtain rfl : ad114 = ad117 := (by injection e117)
      replace hx117_0 := bwC HB.out hx117_0
      replace p117 := eq_true p117
      replace q117 := eq_true q117
      have p118 : 0 ≤ ((rd l1_2 x5_1) : Int) := odT zA_
      have q118 : (rd l1_2 x5_1) < (l0_0.length : Int) := odT zA_
      obtain ⟨ad118,A118_2,c118_2,e118,hx118_0,hx118_1,hx118_2,hl118_2,hi118_2⟩ := at_T45 HR0_0.out (rd l1_2 x5_1) p118 q118
      have hw118_2 := hx118_2
      have hw118_1 := hx118_1
      have hw118_0 := hx118_0
      obtain rfl : ad115 = ad118 := (by injection e118)
      replace hx118_0 := bwC HB.out hx118_0
      replace hx118_1 := bwC HB.out hx118_1
      replace hx118_2 := bwC HB.out hx118_2
      have HR118_2 := As_ hi118_2
      have HC118_2 := As_ hl118_2
      clear hi118_2 hl118_2
      replace p118 := eq_true p118
      replace q118 := eq_true q118
      have p119 : 0 ≤ (x6_2 : Int) := odT zA_
      have q119 : x6_2 < (l1_2.length : Int) := odT zA_
      obtain ⟨ad119,e119,hx119_0⟩ := Kd.at_int HR1_2.out x6_2 p119 q119
      have hw119_0 := hx119_0
      obtain rfl : ad114 = ad119 := (by injection e119)
      replace hx119_0 := bwC HB.out hx119_0
      replace p119 := eq_true p119
      replace q119 := eq_true q119
      have p120 : 0 ≤ ((rd l1_2 x6_2) : Int) := odT zA_
      have q120 : (rd l1_2 x6_2) < (l0_0.length : Int) := odT zA_
      obtain ⟨ad120,A120_2,c120_2,e120,hx120_0,hx120_1,hx120_2,hl120_2,hi120_2⟩ := at_T45 HR0_0.out (rd l1_2 x6_2) p120 q120
      have hw120_2 := hx120_2
      have hw120_1 := hx120_1
      have hw120_0 := hx120_0
      obtain rfl : ad115 = ad120 := (by injection e120)
      replace hx120_0 := bwC HB.out hx120_0
      replace hx120_1 := bwC HB.out hx120_1
      replace hx120_2 := bwC HB.out hx120_2
      have HR120_2 := As_ hi120_2
      have HC120_2 := As_ hl120_2
      clear hi120_2 hl120_2
      replace p120 := eq_true p120
      replace q120 := eq_true q120
      refine start_ (n := 19) (S := fun w' => w'.cell? ⟨gb112,0,none⟩ = some (.slice (some ad115) l0_0.length c0_0) ∧ w'.cell? ⟨gb112,1,none⟩ = some (.int .i64 a0_1) ∧ w'.cell? ⟨gb113,0,none⟩ = some (.int .i64 a1_0) ∧ w'.cell? ⟨gb113,1,none⟩ = some (.int .i64 a1_1) ∧ w'.cell? ⟨gb113,2,none⟩ = some (.slice (some ad114) l1_2.length c1_2) ∧ w'.cell? (ad114.add (x5_1).toNat) = some (.int .i64 (rd l1_2 x5_1)) ∧ w'.cell? (ad115.add (((rd l1_2 x5_1)).toNat * 3)) = some (.int .i64 ((rd_T45 l0_0 (rd l1_2 x5_1)).f0)) ∧ w'.cell? ⟨(ad115.add (((rd l1_2 x5_1)).toNat * 3)).block,(ad115.add (((rd l1_2 x5_1)).toNat * 3)).off + 1,none⟩ = some (.int .i64 ((rd_T45 l0_0 (rd l1_2 x5_1)).f1)) ∧ w'.cell? ⟨(ad115.add (((rd l1_2 x5_1)).toNat * 3)).block,(ad115.add (((rd l1_2 x5_1)).toNat * 3)).off + 2,none⟩ = some (.slice A118_2 ((rd_T45 l0_0 (rd l1_2 x5_1)).f2).length c118_2) ∧ w'.cell? (ad114.add (x6_2).toNat) = some (.int .i64 (rd l1_2 x6_2)) ∧ w'.cell? (ad115.add (((rd l1_2 x6_2)).toNat * 3)) = some (.int .i64 ((rd_T45 l0_0 (rd l1_2 x6_2)).f0)) ∧ w'.cell? ⟨(ad115.add (((rd l1_2 x6_2)).toNat * 3)).block,(ad115.add (((rd l1_2 x6_2)).toNat * 3)).off + 1,none⟩ = some (.int .i64 ((rd_T45 l0_0 (rd l1_2 x6_2)).f1)) ∧ w'.cell? ⟨(ad115.add (((rd l1_2 x6_2)).toNat * 3)).block,(ad115.add (((rd l1_2 x6_2)).toNat * 3)).off + 2,none⟩ = some (.slice A120_2 ((rd_T45 l0_0 (rd l1_2 x6_2)).f2).length c120_2)) (ds := []) (bl_ 0 19) (by kernel_rfl) rfl rfl ⟨(bkC BK112.out 0).trans rfl,(bkC BK112.out 1).trans rfl,(bkC BK113.out 0).trans rfl,(bkC BK113.out 1).trans rfl,(bkC BK113.out 2).trans rfl,((HB.out.cell (bwL w _ hw117_0)).trans hw117_0),((HB.out.cell (bwL w _ hw118_0)).trans hw118_0),((HB.out.cell (bwL w _ hw118_1)).trans hw118_1),((HB.out.cell (bwL w _ hw118_2)).trans hw118_2),((HB.out.cell (bwL w _ hw119_0)).trans hw119_0),((HB.out.cell (bwL w _ hw120_0)).trans hw120_0),((HB.out.cell (bwL w _ hw120_1)).trans hw120_1),((HB.out.cell (bwL w _ hw120_2)).trans hw120_2)⟩ (fun hHeld => ?_);refine with_tabW spec_validDict.tab9 spec_validDict.bits9 (fun HT_ HW_ => ?_)
      generalize wr.drew = w26 at BK112 BK113 HB HR118_2 HR120_2 hx117_0 hx118_0 hx118_1 hx118_2 hx119_0 hx120_0 hx120_1 hx120_2 hHeld ⊢
      refine pQ 0 30 (bl_ 1 19) HT_ rfl ?_
      refine pQ 2 32 (bl_ 5 19) HT_ rfl ?_
      refine pQ 4 34 (bl_ 21 19) HT_ rfl ?_
      refine pQ 9 39 (bl_ 533 19) HT_ rfl ?_
      refine pQ 11 41 (bl_ 2581 19) HT_ rfl ?_
      refine pQ 13 43 (bl_ 10773 19) HT_ rfl ?_
      refine tP 1 31 (bl_ 10775 19) ?_ HT_ HW_ rfl (.inl ⟨by rfl,?_⟩) hHeld ?_ ?_ ?_;rotate_left;(rintro w' ⟨s0,s1,s2,s3,s4,s5,s6,s7,s8,s9,s10,s11,s12⟩;go_simp;with_reducible rfl);rotate_left;(simp only [Act.put,sq_,i64_w,i32_w];rfl)
      refine tP 3 33 (bl_ 10783 19) ?_ HT_ HW_ rfl (.inl ⟨by rfl,?_⟩) hHeld ?_ ?_ ?_;rotate_left;(rintro w' ⟨s0,s1,s2,s3,s4,s5,s6,s7,s8,s9,s10,s11,s12⟩;go_simp;with_reducible rfl);rotate_left;(simp only [Act.put,sq_,i64_w,i32_w];rfl)
      refine pQ 5 35 (bl_ 10815 19) HT_ rfl ?_
      refine tP 6 36 (bl_ 10879 19) ?_ HT_ HW_ rfl (.inl ⟨by rfl,?_⟩) hHeld ?_ ?_ ?_;rotate_left;(rintro w' ⟨s0,s1,s2,s3,s4,s5,s6,s7,s8,s9,s10,s11,s12⟩;go_simp;with_reducible rfl);rotate_left;(simp only [Act.put,sq_,i64_w,i32_w];rfl)
      refine pQ 7 37 (bl_ 11007 19) HT_ rfl ?_
      refine tP 8 38 (bl_ 11263 19) ?_ HT_ HW_ rfl (.inl ⟨by rfl,?_⟩) hHeld ?_ ?_ ?_;rotate_left;(rintro w' ⟨s0,s1,s2,s3,s4,s5,s6,s7,s8,s9,s10,s11,s12⟩;go_simp;with_reducible rfl);rotate_left;(simp only [Act.put,sq_,i64_w,i32_w];rfl)
      refine tP 10 40 (bl_ 12287 19) ?_ HT_ HW_ rfl (.inl ⟨by rfl,?_⟩) hHeld ?_ ?_ ?_;rotate_left;(rintro w' ⟨s0,s1,s2,s3,s4,s5,s6,s7,s8,s9,s10,s11,s12⟩;go_simp;with_reducible rfl);rotate_left;(simp only [Act.put,sq_,i64_w,i32_w];rfl)
      refine tP 12 42 (bl_ 16383 19) ?_ HT_ HW_ rfl (.inl ⟨by rfl,?_⟩) hHeld ?_ ?_ ?_;rotate_left;(rintro w' ⟨s0,s1,s2,s3,s4,s5,s6,s7,s8,s9,s10,s11,s12⟩;go_simp;with_reducible rfl);rotate_left;(simp only [Act.put,sq_,i64_w,i32_w];rfl)
      refine pQ 14 44 (bl_ 32767 19) HT_ rfl ?_
      refine tP 15 45 (bl_ 65535 19) ?_ HT_ HW_ rfl (.inl ⟨by rfl,?_⟩) hHeld ?_ ?_ ?_;rotate_left;(rintro w' ⟨s0,s1,s2,s3,s4,s5,s6,s7,s8,s9,s10,s11,s12⟩;go_simp;with_reducible rfl);rotate_left;(simp only [Act.put,sq_,i64_w,i32_w];rfl)
      refine pQ 16 46 (bl_ 131071 19) HT_ rfl ?_
      refine tP 17 47 (bl_ 262143 19) ?_ HT_ HW_ rfl (.inl ⟨by rfl,?_⟩) hHeld ?_ ?_ ?_;rotate_left;(rintro w' ⟨s0,s1,s2,s3,s4,s5,s6,s7,s8,s9,s10,s11,s12⟩;go_simp;with_reducible rfl);rotate_left;(simp only [Act.put,sq_,i64_w,i32_w];rfl)
      refine one_ (i := 18) (N := some 48) (bl_ 524287 19) rfl rfl (one_of HT_.out (by kernel_rfl)) (by decide) (fun K hK => ?_)
      refine goes_ Try.func106 (by kernel_rfl) rfl #[.agg #[.int .i64 ((rd_T45 l0_0 (rd l1_2 x5_1)).f0),.int .i64 ((rd_T45 l0_0 (rd l1_2 x5_1)).f1),.slice A118_2 ((rd_T45 l0_0 (rd l1_2 x5_1)).f2).length c118_2],.agg #[.int .i64 ((rd_T45 l0_0 (rd l1_2 x6_2)).f0),.int .i64 ((rd_T45 l0_0 (rd l1_2 x6_2)).f1),.slice A120_2 ((rd_T45 l0_0 (rd l1_2 x6_2)).f2).length c120_2]] (by rfl) rfl rfl zM_ ?_
      with_reducible refine (spec_sameKey.calls ((rd_T45 l0_0 (rd l1_2 x5_1)).f0) ((rd_T45 l0_0 (rd l1_2 x5_1)).f1) _ _ ((rd_T45 l0_0 (rd l1_2 x5_1)).f2) ((rd_T45 l0_0 (rd l1_2 x6_2)).f0) ((rd_T45 l0_0 (rd l1_2 x6_2)).f1) _ _ ((rd_T45 l0_0 (rd l1_2 x6_2)).f2) true _ ?side1 ?side2 ?side3 ?side4 A24.out).mono ?_
      (case side1 => exact zC_ (Kd.C_below HR118_2.out HB.out))
      (case side2 => exact HC118_2.out)
      (case side3 => exact zC_ (Kd.C_below HR120_2.out HB.out))
      (case side4 => exact HC120_2.out)
      rintro e w27 ⟨rfl,hb⟩
      refine ⟨_,rfl,?_⟩
      have n0_ := As_ (zkb BK112.out hb)
      have n1_ := As_ (zkb BK113.out hb)
      have n2_ := As_ (bwT (zb2 HB.out GE112.out GE113.out) hb)
      clear BK112 BK113 HB
      revert n0_ n1_ n2_;intro BK112 BK113 HB
      refine hK.out _ _ ⟨(bkC BK112.out 0).trans rfl,(bkC BK112.out 1).trans rfl,(bkC BK113.out 0).trans rfl,(bkC BK113.out 1).trans rfl,(bkC BK113.out 2).trans rfl,((HB.out.cell (bwL w _ hw117_0)).trans hw117_0),((HB.out.cell (bwL w _ hw118_0)).trans hw118_0),((HB.out.cell (bwL w _ hw118_1)).trans hw118_1),((HB.out.cell (bwL w _ hw118_2)).trans hw118_2),((HB.out.cell (bwL w _ hw119_0)).trans hw119_0),((HB.out.cell (bwL w _ hw120_0)).trans hw120_0),((HB.out.cell (bwL w _ hw120_1)).trans hw120_1),((HB.out.cell (bwL w _ hw120_2)).trans hw120_2)⟩ (fun hHeld => ?_)
      clear hK K
      refine norm_ (a' := ?_) ?_ ?_
      rotate_left
      ·show Act.put _ (some 48) _ = _
       simp only [Act.put,sq_,i64_w,i32_w]
       rfl
      refine done_ (done_of HT_.out (by kernel_rfl)) ?_
      try go_wp2
      go_ret
      exact ⟨zE_,zb2 HB.out GE112.out GE113.out⟩
     replace c25 := Bool.eq_false_iff.mpr c25
     subst c25
     have H1 : (spec_validDict.l1 k2 x5_1 (wrap64 (x6_2 + 2)) l0_0 a0_1 a1_0 a1_1 l1_2) = some r := by rw [if_neg (show ¬ (false = true) by decide)] at H;exact H
     clear H
     have H := H1
     clear H1
     have H' := As_ H
     clear H
     try go_wp2
     have n0_ := As_ (bkD BK112.out)
     have n1_ := As_ (bkD BK113.out)
     have n2_ := As_ (bwD HB.out)
     clear BK112 BK113 HB
     revert n0_ n1_ n2_;intro BK112 BK113 HB
     have p117 : 0 ≤ (x5_1 : Int) := odT zA_
     have q117 : x5_1 < (l1_2.length : Int) := odT zA_
     obtain ⟨ad117,e117,hx117_0⟩ := Kd.at_int HR1_2.out x5_1 p117 q117
     have hw117_0 := hx117_0
     obtain rfl : ad114 = ad117 := (by injection e117)
     replace hx117_0 := bwC HB.out hx117_0
     replace p117 := eq_true p117
     replace q117 := eq_true q117
     have p118 : 0 ≤ ((rd l1_2 x5_1) : Int) := odT zA_
     have q118 : (rd l1_2 x5_1) < (l0_0.length : Int) := odT zA_
     obtain ⟨ad118,A118_2,c118_2,e118,hx118_0,hx118_1,hx118_2,hl118_2,hi118_2⟩ := at_T45 HR0_0.out (rd l1_2 x5_1) p118 q118
     have hw118_2 := hx118_2
     have hw118_1 := hx118_1
     have hw118_0 := hx118_0
     obtain rfl : ad115 = ad118 := (by injection e118)
     replace hx118_0 := bwC HB.out hx118_0
     replace hx118_1 := bwC HB.out hx118_1
     replace hx118_2 := bwC HB.out hx118_2
     have HR118_2 := As_ hi118_2
     have HC118_2 := As_ hl118_2
     clear hi118_2 hl118_2
     replace p118 := eq_true p118
     replace q118 := eq_true q118
     have p119 : 0 ≤ (x6_2 : Int) := odT zA_
     have q119 : x6_2 < (l1_2.length : Int) := odT zA_
     obtain ⟨ad119,e119,hx119_0⟩ := Kd.at_int HR1_2.out x6_2 p119 q119
     have hw119_0 := hx119_0
     obtain rfl : ad114 = ad119 := (by injection e119)
     replace hx119_0 := bwC HB.out hx119_0
     replace p119 := eq_true p119
     replace q119 := eq_true q119
     have p120 : 0 ≤ ((rd l1_2 x6_2) : Int) := odT zA_
     have q120 : (rd l1_2 x6_2) < (l0_0.length : Int) := odT zA_
     obtain ⟨ad120,A120_2,c120_2,e120,hx120_0,hx120_1,hx120_2,hl120_2,hi120_2⟩ := at_T45 HR0_0.out (rd l1_2 x6_2) p120 q120
     have hw120_2 := hx120_2
     have hw120_1 := hx120_1
     have hw120_0 := hx120_0
     obtain rfl : ad115 = ad120 := (by injection e120)
     replace hx120_0 := bwC HB.out hx120_0
     replace hx120_1 := bwC HB.out hx120_1
     replace hx120_2 := bwC HB.out hx120_2
     have HR120_2 := As_ hi120_2
     have HC120_2 := As_ hl120_2
     clear hi120_2 hl120_2
     replace p120 := eq_true p120
     replace q120 := eq_true q120
     refine start_ (n := 19) (S := fun w' => w'.cell? ⟨gb112,0,none⟩ = some (.slice (some ad115) l0_0.length c0_0) ∧ w'.cell? ⟨gb112,1,none⟩ = some (.int .i64 a0_1) ∧ w'.cell? ⟨gb113,0,none⟩ = some (.int .i64 a1_0) ∧ w'.cell? ⟨gb113,1,none⟩ = some (.int .i64 a1_1) ∧ w'.cell? ⟨gb113,2,none⟩ = some (.slice (some ad114) l1_2.length c1_2) ∧ w'.cell? (ad114.add (x5_1).toNat) = some (.int .i64 (rd l1_2 x5_1)) ∧ w'.cell? (ad115.add (((rd l1_2 x5_1)).toNat * 3)) = some (.int .i64 ((rd_T45 l0_0 (rd l1_2 x5_1)).f0)) ∧ w'.cell? ⟨(ad115.add (((rd l1_2 x5_1)).toNat * 3)).block,(ad115.add (((rd l1_2 x5_1)).toNat * 3)).off + 1,none⟩ = some (.int .i64 ((rd_T45 l0_0 (rd l1_2 x5_1)).f1)) ∧ w'.cell? ⟨(ad115.add (((rd l1_2 x5_1)).toNat * 3)).block,(ad115.add (((rd l1_2 x5_1)).toNat * 3)).off + 2,none⟩ = some (.slice A118_2 ((rd_T45 l0_0 (rd l1_2 x5_1)).f2).length c118_2) ∧ w'.cell? (ad114.add (x6_2).toNat) = some (.int .i64 (rd l1_2 x6_2)) ∧ w'.cell? (ad115.add (((rd l1_2 x6_2)).toNat * 3)) = some (.int .i64 ((rd_T45 l0_0 (rd l1_2 x6_2)).f0)) ∧ w'.cell? ⟨(ad115.add (((rd l1_2 x6_2)).toNat * 3)).block,(ad115.add (((rd l1_2 x6_2)).toNat * 3)).off + 1,none⟩ = some (.int .i64 ((rd_T45 l0_0 (rd l1_2 x6_2)).f1)) ∧ w'.cell? ⟨(ad115.add (((rd l1_2 x6_2)).toNat * 3)).block,(ad115.add (((rd l1_2 x6_2)).toNat * 3)).off + 2,none⟩ = some (.slice A120_2 ((rd_T45 l0_0 (rd l1_2 x6_2)).f2).length c120_2)) (ds := []) (bl_ 0 19) (by kernel_rfl) rfl rfl ⟨(bkC BK112.out 0).trans rfl,(bkC BK112.out 1).trans rfl,(bkC BK113.out 0).trans rfl,(bkC BK113.out 1).trans rfl,(bkC BK113.out 2).trans rfl,((HB.out.cell (bwL w _ hw117_0)).trans hw117_0),((HB.out.cell (bwL w _ hw118_0)).trans hw118_0),((HB.out.cell (bwL w _ hw118_1)).trans hw118_1),((HB.out.cell (bwL w _ hw118_2)).trans hw118_2),((HB.out.cell (bwL w _ hw119_0)).trans hw119_0),((HB.out.cell (bwL w _ hw120_0)).trans hw120_0),((HB.out.cell (bwL w _ hw120_1)).trans hw120_1),((HB.out.cell (bwL w _ hw120_2)).trans hw120_2)⟩ (fun hHeld => ?_);refine with_tabW spec_validDict.tab9 spec_validDict.bits9 (fun HT_ HW_ => ?_)
     generalize wr.drew = w28 at BK112 BK113 HB HR118_2 HR120_2 hx117_0 hx118_0 hx118_1 hx118_2 hx119_0 hx120_0 hx120_1 hx120_2 hHeld ⊢
     refine pQ 0 30 (bl_ 1 19) HT_ rfl ?_
     refine pQ 2 32 (bl_ 5 19) HT_ rfl ?_
     refine pQ 4 34 (bl_ 21 19) HT_ rfl ?_
     refine pQ 9 39 (bl_ 533 19) HT_ rfl ?_
     refine pQ 11 41 (bl_ 2581 19) HT_ rfl ?_
     refine pQ 13 43 (bl_ 10773 19) HT_ rfl ?_
     refine tP 1 31 (bl_ 10775 19) ?_ HT_ HW_ rfl (.inl ⟨by rfl,?_⟩) hHeld ?_ ?_ ?_;rotate_left;(rintro w' ⟨s0,s1,s2,s3,s4,s5,s6,s7,s8,s9,s10,s11,s12⟩;go_simp;with_reducible rfl);rotate_left;(simp only [Act.put,sq_,i64_w,i32_w];rfl)
     refine tP 3 33 (bl_ 10783 19) ?_ HT_ HW_ rfl (.inl ⟨by rfl,?_⟩) hHeld ?_ ?_ ?_;rotate_left;(rintro w' ⟨s0,s1,s2,s3,s4,s5,s6,s7,s8,s9,s10,s11,s12⟩;go_simp;with_reducible rfl);rotate_left;(simp only [Act.put,sq_,i64_w,i32_w];rfl)
     refine pQ 5 35 (bl_ 10815 19) HT_ rfl ?_
     refine tP 6 36 (bl_ 10879 19) ?_ HT_ HW_ rfl (.inl ⟨by rfl,?_⟩) hHeld ?_ ?_ ?_;rotate_left;(rintro w' ⟨s0,s1,s2,s3,s4,s5,s6,s7,s8,s9,s10,s11,s12⟩;go_simp;with_reducible rfl);rotate_left;(simp only [Act.put,sq_,i64_w,i32_w];rfl)
     refine pQ 7 37 (bl_ 11007 19) HT_ rfl ?_
     refine tP 8 38 (bl_ 11263 19) ?_ HT_ HW_ rfl (.inl ⟨by rfl,?_⟩) hHeld ?_ ?_ ?_;rotate_left;(rintro w' ⟨s0,s1,s2,s3,s4,s5,s6,s7,s8,s9,s10,s11,s12⟩;go_simp;with_reducible rfl);rotate_left;(simp only [Act.put,sq_,i64_w,i32_w];rfl)
     refine tP 10 40 (bl_ 12287 19) ?_ HT_ HW_ rfl (.inl ⟨by rfl,?_⟩) hHeld ?_ ?_ ?_;rotate_left;(rintro w' ⟨s0,s1,s2,s3,s4,s5,s6,s7,s8,s9,s10,s11,s12⟩;go_simp;with_reducible rfl);rotate_left;(simp only [Act.put,sq_,i64_w,i32_w];rfl)
     refine tP 12 42 (bl_ 16383 19) ?_ HT_ HW_ rfl (.inl ⟨by rfl,?_⟩) hHeld ?_ ?_ ?_;rotate_left;(rintro w' ⟨s0,s1,s2,s3,s4,s5,s6,s7,s8,s9,s10,s11,s12⟩;go_simp;with_reducible rfl);rotate_left;(simp only [Act.put,sq_,i64_w,i32_w];rfl)
     refine pQ 14 44 (bl_ 32767 19) HT_ rfl ?_
     refine tP 15 45 (bl_ 65535 19) ?_ HT_ HW_ rfl (.inl ⟨by rfl,?_⟩) hHeld ?_ ?_ ?_;rotate_left;(rintro w' ⟨s0,s1,s2,s3,s4,s5,s6,s7,s8,s9,s10,s11,s12⟩;go_simp;with_reducible rfl);rotate_left;(simp only [Act.put,sq_,i64_w,i32_w];rfl)
     refine pQ 16 46 (bl_ 131071 19) HT_ rfl ?_
     refine tP 17 47 (bl_ 262143 19) ?_ HT_ HW_ rfl (.inl ⟨by rfl,?_⟩) hHeld ?_ ?_ ?_;rotate_left;(rintro w' ⟨s0,s1,s2,s3,s4,s5,s6,s7,s8,s9,s10,s11,s12⟩;go_simp;with_reducible rfl);rotate_left;(simp only [Act.put,sq_,i64_w,i32_w];rfl)
     refine one_ (i := 18) (N := some 48) (bl_ 524287 19) rfl rfl (one_of HT_.out (by kernel_rfl)) (by decide) (fun K hK => ?_)
     refine goes_ Try.func106 (by kernel_rfl) rfl #[.agg #[.int .i64 ((rd_T45 l0_0 (rd l1_2 x5_1)).f0),.int .i64 ((rd_T45 l0_0 (rd l1_2 x5_1)).f1),.slice A118_2 ((rd_T45 l0_0 (rd l1_2 x5_1)).f2).length c118_2],.agg #[.int .i64 ((rd_T45 l0_0 (rd l1_2 x6_2)).f0),.int .i64 ((rd_T45 l0_0 (rd l1_2 x6_2)).f1),.slice A120_2 ((rd_T45 l0_0 (rd l1_2 x6_2)).f2).length c120_2]] (by rfl) rfl rfl zM_ ?_
     with_reducible refine (spec_sameKey.calls ((rd_T45 l0_0 (rd l1_2 x5_1)).f0) ((rd_T45 l0_0 (rd l1_2 x5_1)).f1) _ _ ((rd_T45 l0_0 (rd l1_2 x5_1)).f2) ((rd_T45 l0_0 (rd l1_2 x6_2)).f0) ((rd_T45 l0_0 (rd l1_2 x6_2)).f1) _ _ ((rd_T45 l0_0 (rd l1_2 x6_2)).f2) false _ ?side1 ?side2 ?side3 ?side4 A24.out).mono ?_
     (case side1 => exact zC_ (Kd.C_below HR118_2.out HB.out))
     (case side2 => exact HC118_2.out)
     (case side3 => exact zC_ (Kd.C_below HR120_2.out HB.out))
     (case side4 => exact HC120_2.out)
     rintro e w29 ⟨rfl,hb⟩
     refine ⟨_,rfl,?_⟩
     have n0_ := As_ (zkb BK112.out hb)
     have n1_ := As_ (zkb BK113.out hb)
     have n2_ := As_ (bwT (zb2 HB.out GE112.out GE113.out) hb)
     clear BK112 BK113 HB
     revert n0_ n1_ n2_;intro BK112 BK113 HB
     refine hK.out _ _ ⟨(bkC BK112.out 0).trans rfl,(bkC BK112.out 1).trans rfl,(bkC BK113.out 0).trans rfl,(bkC BK113.out 1).trans rfl,(bkC BK113.out 2).trans rfl,((HB.out.cell (bwL w _ hw117_0)).trans hw117_0),((HB.out.cell (bwL w _ hw118_0)).trans hw118_0),((HB.out.cell (bwL w _ hw118_1)).trans hw118_1),((HB.out.cell (bwL w _ hw118_2)).trans hw118_2),((HB.out.cell (bwL w _ hw119_0)).trans hw119_0),((HB.out.cell (bwL w _ hw120_0)).trans hw120_0),((HB.out.cell (bwL w _ hw120_1)).trans hw120_1),((HB.out.cell (bwL w _ hw120_2)).trans hw120_2)⟩ (fun hHeld => ?_)
     clear hK K
     refine norm_ (a' := ?_) ?_ ?_
     rotate_left
     ·show Act.put _ (some 48) _ = _
      simp only [Act.put,sq_,i64_w,i32_w]
      rfl
     refine done_ (done_of HT_.out (by kernel_rfl)) ?_
     try go_wp2
     go_roundg k2
     case measure => have := HK1.out;have := HK2.out;omega
     case rel => exact ⟨(wrap64 (x6_2 + 2)),zT_,H',⟨by have := HK1.out;have := HK2.out;omega⟩,⟨by (with_reducible repeat first|apply bkN|apply bkD|apply bkA);exact BK112.out⟩,⟨by (with_reducible repeat first|apply bkN|apply bkD|apply bkA);exact BK113.out⟩,⟨zb2 HB.out GE112.out GE113.out⟩⟩
end Go.Proofs.Ytfhakhbmbnbneaa.Q
