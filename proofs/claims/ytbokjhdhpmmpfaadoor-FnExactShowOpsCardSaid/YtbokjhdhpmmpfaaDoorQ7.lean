-- Written by wip/tools/qprint.py (a program of this claim's author) by means of the kit's printer.
import Derived.Test.YtbokjhdhpmmpfaaDoorQ0
import Derived.Test.YtbokjhdhpmmpfaaDoorQ4
import Derived.Test.YtbokjhdhpmmpfaaDoorQ5
import Derived.Lib.AppendIntMem
import Derived.Lib.ItoaLen
import Derived.Test.YtbokjhdhpmmpfaaDoorXBuild
namespace Go.Proofs.YtbokjhdhpmmpfaaDoor.Q
open Go.RowKit Go.Proofs.YtbokjhdhpmmpfaaDoorW.PrintWords Go.Proofs.YtbokjhdhpmmpfaaDoorW.PrintLast Go.Proofs.YtbokjhdhpmmpfaaDoorW.PrintMore
attribute [local go_sem] max2_int min2_int max_two min_two max_three min_three max_four min_four   -- for this text's walks alone
set_option linter.unusedVariables false
set_option linter.unusedSimpArgs false

/-! ### impl_ShowOps: function 7 -/
/-- What is written of one order. -/
def impl_ShowOps.one (ws : ByteArray) (m a : Int) : List UInt8 := ws.data.toList ++ (if m > 0 then 32 :: Go.Lib.itoa a else []) ++ [10]
def impl_ShowOps.l0 : Nat → List UInt8 → List (S32) → Int → Option (ByteArray)
 | 0,_,_,_ => none
 | k + 1,acc,x9,x11 => if x11 < (x9.length : Int) then (if 0 ≤ x11 then ((impl_words.f).bind fun ws => (if 0 ≤ (rd_T32 x9 x11).f0 then (if (rd_T32 x9 x11).f0 < (ws.length : Int) then ((impl_mostArg.f (rd_T32 x9 x11).f0).bind fun m => (if acc.length + (rdOf ByteArray.empty ws (rd_T32 x9 x11).f0).size ≤ 1000000 ∧ 0 ≤ (rd_T32 x9 x11).f1 ∧ (rd_T32 x9 x11).f1 ≤ 999 then (impl_ShowOps.l0 k (acc ++ impl_ShowOps.one (rdOf ByteArray.empty ws (rd_T32 x9 x11).f0) m (rd_T32 x9 x11).f1) x9 (wrap64 (x11 + 1))) else none)) else none) else none)) else none) else (some ⟨acc.toArray⟩)
def impl_ShowOps.f (k : Nat) (l0 : List (S32)) : Option (ByteArray) := (impl_ValidOps.f k l0).bind fun t => (if t = true then (impl_ShowOps.l0 k [] l0 0) else (some ⟨#[]⟩))
/-- A builder stays one while another block is written,or blocks are laid. -/
theorem impl_ShowOps.bkeep {w w' : World} {B b : Nat} {bs : List Value} {row : Option Nat} (h : Lib.IsBuilderF 38 5 B b bs w) (hg : w.grownBy w' row) (hb : row ≠ some b) (hr : ∀ g,row = some g → ∃ cs t fr,w.heap[g]? = some (.cells cs t fr) ∧ t ≠ 5) : Lib.IsBuilderF 38 5 B b bs w' := by
 have key : ∀ p,Lib.BuilderAtF 38 5 B b p bs w → Lib.BuilderAtF 38 5 B b p bs w' := by
  intro p h
  have hlt := h.lt
  obtain ⟨hB,u,hu,hown,hne⟩ := h
  refine ⟨hB,u,?_,hown.kept hg ?_,hne⟩
  ·rw [hg.block b hlt (fun e => hb e.symm)]
   exact hu
  ·cases row with
   | none => cases e : u.ownBlock with
    | none => exact .inl rfl
    | some x => exact .inr (by simp)
   | some g =>
    obtain ⟨cs,t,fr,h1,h2⟩ := hr g rfl
    exact .inr (Lib.ownBlock_neF hown h1 h2)
 exact h.imp (key _) (key _)
theorem impl_ShowOps.bbelow {w w' : World} {B b : Nat} {bs : List Value} (h : Lib.IsBuilderF 38 5 B b bs w) (hb : Below w.heap.size w w') : Lib.IsBuilderF 38 5 B b bs w' :=
 impl_ShowOps.bkeep h (row := none) ⟨hb.os,hb.tape,hb.output,hb.size,fun k hk _ => hb.block k hk⟩ (by simp) (fun _ e => by cases e)
theorem impl_ShowOps.bset {w : World} {B b g : Nat} {bs : List Value} (h : Lib.IsBuilderF 38 5 B b bs w) {cs : Array Value} {t : TypeId} {fr : Nat × Nat} (hg : w.heap[g]? = some (.cells cs t fr)) (ht : t ≠ 5) (hgb : g ≠ b) (j : Nat) (u : Value) : Lib.IsBuilderF 38 5 B b bs (w.setCell ⟨g,j,none⟩ u) :=
 impl_ShowOps.bkeep h (row := some g) ⟨rfl,rfl,rfl,by simp [World.setCell],fun k _ hk => Below.heap_setCell _ _ _ _ (fun e => hk (by simp [e]))⟩ (fun e => hgb (by injection e)) (fun _ e => by injection e with e;subst e;exact ⟨cs,t,fr,hg,ht⟩)
theorem impl_ShowOps.fresh {w w' : World} {B g : Nat} (hB : B ≤ g) (hb : w'.heap[g]? = some (.cells #[.pointer none,.slice none 0 0] 38 (0,0))) : Lib.IsBuilderF 38 5 B g (Lib.byteCells []) w' :=
 .inl ⟨hB,.slice none 0 0,hb,World.ownsRowF_nil w' B 5 1,by simp [Value.ownBlock]⟩
theorem impl_ShowOps.cells (l : List UInt8) (s : ByteArray) : Lib.byteCells l ++ Lib.strCells s = Lib.byteCells (l ++ s.data.toList) := by
 unfold Lib.byteCells Lib.strCells
 rw [List.map_append]
theorem impl_ShowOps.grown_below {W w' : World} (h : ∃ k os,w' = Go.Sort.grow (W.drewN k) os) : Below W.heap.size W w' := by
 obtain ⟨k,os,rfl⟩ := h
 exact Go.Lib.below_grow _ _ (Nat.le_refl _) k os
theorem impl_ShowOps.size_data (s : ByteArray) : s.data.toList.length = s.size := Array.length_toList
theorem impl_ShowOps.one_pos (acc : List UInt8) (sw s2 : ByteArray) (m a : Int) (hm : m > 0) (hs : s2 = ⟨(Go.Lib.itoa a).toArray⟩) : acc ++ impl_ShowOps.one sw m a = ((acc ++ sw.data.toList) ++ ((⟨#[32]⟩ : ByteArray) ++ s2).data.toList) ++ (⟨#[10]⟩ : ByteArray).data.toList := by
 subst hs
 unfold impl_ShowOps.one
 rw [if_pos hm,ByteArray.data_append]
 simp
theorem impl_ShowOps.one_neg (acc : List UInt8) (sw : ByteArray) (m a : Int) (hm : ¬ m > 0) : acc ++ impl_ShowOps.one sw m a = (acc ++ sw.data.toList) ++ (⟨#[10]⟩ : ByteArray).data.toList := by
 unfold impl_ShowOps.one
 rw [if_neg hm]
 simp
/-- A value that an operation yields. -/
theorem impl_ShowOps.val_ {P : Program} {ops : Array Oper} {Q : Exit → Act → World → Prop} {oi : Oper} {N : Option Tmp} {a : Act} {w : World} {K : Act → World → Prop} (v : Value) (hw : Region.wanted oi (yielded ops a.tmps) = true) (hN : oi.dst = N) (hrun : (execOp a.eval oi).run P w = .ok (.value v) w) (h : K (a.put N v) w) :
  if Region.wanted oi (yielded ops a.tmps) = true then Oper.wp P oi a w K Q else K (a.put N undef) w := by
 rw [if_pos hw]
 subst hN
 unfold Oper.wp
 rw [hrun,Oper.upon_value]
 exact h
set_option maxHeartbeats 8000000 in
set_option maxRecDepth 100000 in
theorem impl_ShowOps.calls (k : Nat) (A0 : Option Addr) (c0 : Nat) (l0 : List (S32)) (r : ByteArray) (w : World) (htab : Go.Lib.TabIs Tryd.prog w "internal/strconv.uint64pow10" .u64 Go.Lib.pow10Tab) (hr0 : Kd.C k32 w A0 l0.length l0) (hc0 : l0.length ≤ c0) (h : impl_ShowOps.f k l0 = some r) :
  Calls Tryd.prog 7 #[.slice A0 l0.length c0] w fun e w' => e = .returned (.string r) ∧ Below w.heap.size w w' := by
 have hu32 := Tryd.underlying32
 have HT := As_ (Lib.tabBelow_of_tabIs htab)
 have HR0 := As_ hr0
 have HC0 := As_ hc0
 clear hr0 hc0 htab
 have HB := As_ (Below.refl w.heap.size w)
 have H : ((impl_ValidOps.f k l0).bind fun t => (if t = true then (impl_ShowOps.l0 k [] l0 0) else (some ⟨#[]⟩))) = some r := h
 clear h
 replace H := obS H
 obtain ⟨t433,A20,H⟩ := H
 have A2 := As_ A20
 clear A20
 by_cases c3 : t433 = true
 rotate_left
 ·replace c3 := Bool.eq_false_iff.mpr c3
  subst c3
  rw [if_neg (show ¬ (false = true) by decide)] at H
  obtain rfl := Option.some.inj H
  go_enter Tryd.func7,Tryd.ntmps7
  go_wp2_with (first|((with_reducible refine gate_callee (f := 12) rfl ?_);refine goesL_ (some 7) rfl rfl Tryd.func12 (by kernel_rfl) rfl #[.slice A0 l0.length c0] rfl (by (try simp only [List.map_toArray,List.map_cons,List.map_nil]);first|done|rfl) ?_;(with_reducible refine (impl_ValidOps.calls k _ _ l0 false _ ?side1 ?side2 A2.out).mono ?_);(case side1 => exact HR0.out);(case side2 => exact HC0.out);rintro e w4 ⟨rfl,hb⟩;refine ⟨_,rfl,?_⟩;have n0_ := As_ (bwT HB.out hb);clear HB;revert n0_;intro HB;clear hb))
  go_ret
  exact ⟨rfl,zb0 HB.out⟩

 subst c3
 rw [if_pos rfl] at H
 have H' := As_ H
 clear H
 go_enter Tryd.func7,Tryd.ntmps7
 go_wp2_with (first|((with_reducible refine gate_callee (f := 12) rfl ?_);refine goesL_ (some 7) rfl rfl Tryd.func12 (by kernel_rfl) rfl #[.slice A0 l0.length c0] rfl (by (try simp only [List.map_toArray,List.map_cons,List.map_nil]);first|done|rfl) ?_;(with_reducible refine (impl_ValidOps.calls k _ _ l0 true _ ?side1 ?side2 A2.out).mono ?_);(case side1 => exact HR0.out);(case side2 => exact HC0.out);rintro e w4 ⟨rfl,hb⟩;refine ⟨_,rfl,?_⟩;have n0_ := As_ (bwT HB.out hb);clear HB;revert n0_;intro HB;clear hb)|((with_reducible refine gate_dst (N := 3) rfl ?_);refine box_event ?hg (N := 3) ?hd (cs := #[.pointer none,.slice none 0 0]) (t := 38) ?hr ?_;(case hd => rfl);(case hg => rfl);(case hr => go_simp <;> rfl);intro gb1 hg w5 hbox hb;have GE1 := As_ ((by rw [hg];exact (bwZ (zb0 HB.out)) : w.heap.size ≤ gb1));have n0_ := As_ (bwT (zb0 HB.out) hb);have HU := As_ (impl_ShowOps.fresh (w := w) GE1.out hbox);clear HB;revert n0_;intro HB;clear hb hbox hg))
 go_loopg [11] k (fun kq v11 w' => ∃ (acc : List UInt8) (x11 : Int),v11 = .int .i64 x11 ∧ Aside0 (impl_ShowOps.l0 kq acc l0 x11 = some r) ∧ Aside0 (kq ≤ k) ∧ Aside0 (Lib.IsBuilderF 38 5 w.heap.size gb1 (Lib.byteCells acc) w') ∧ Aside0 (Below w.heap.size w w'))
 case atStart => exact ⟨[],0,(by first|rfl|(simp;done)),H',⟨Nat.le_refl _⟩,⟨HU.out⟩,⟨zb0 HB.out⟩⟩
 case round =>
  clear H' HU HB
  obtain ⟨acc,x11,rfl,HA,HK1,HU,HB⟩ := hrel
  cases gk with
  | zero => exact absurd HA.out (by simp [impl_ShowOps.l0])
  | succ k1 =>
   have H := HA.out
   clear HA
   unfold impl_ShowOps.l0 at H
   by_cases c9 : x11 < (l0.length : Int)
   rotate_left
   ·rw [if_neg c9] at H
    have c9b0 : decide (x11 < (l0.length : Int)) = false := deF c9
    clear c9
    obtain rfl := Option.some.inj H
    go_wp2_with (first|((with_reducible refine gate_callee (f := 17) rfl ?_);refine goesL_ (some 32) rfl rfl Tryd.func17 (by kernel_rfl) rfl #[.pointer (some ⟨gb1,0,none⟩)] rfl (by (try simp only [List.map_toArray,List.map_cons,List.map_nil]);first|done|rfl) ?_;(with_reducible refine (Tryd.Builder_String_any_k w.heap.size gb1 acc _ ?side1 ?side2).mono ?_);(case side1 => exact HU.out);(case side2 => exact bwZ (zb0 HB.out));rintro e w40 ⟨rfl,hu2,hb,hk⟩;refine ⟨_,rfl,?_⟩;have HB2 := As_ (Below.trans (zb0 HB.out) hb)))
    go_ret
    exact ⟨rfl,HB2.out⟩
   rw [if_pos c9] at H
   have c9b0 : decide (x11 < (l0.length : Int)) = true := deT c9
   by_cases c10 : 0 ≤ x11
   rotate_left
   ·rw [if_neg c10] at H
    exact absurd H (by simp)
   rw [if_pos c10] at H
   replace H := obS H
   obtain ⟨ws,A30,H⟩ := H
   have A3 := As_ A30
   clear A30
   generalize ho : rd_T32 l0 x11 = o at H
   by_cases c11 : 0 ≤ o.f0
   rotate_left
   ·rw [if_neg c11] at H
    exact absurd H (by simp)
   rw [if_pos c11] at H
   by_cases c12 : o.f0 < (ws.length : Int)
   rotate_left
   ·rw [if_neg c12] at H
    exact absurd H (by simp)
   rw [if_pos c12] at H
   replace H := obS H
   obtain ⟨m,A40,H⟩ := H
   have A4 := As_ A40
   clear A40
   by_cases c13 : acc.length + (rdOf ByteArray.empty ws o.f0).size ≤ 1000000 ∧ 0 ≤ o.f1 ∧ o.f1 ≤ 999
   rotate_left
   ·rw [if_neg c13] at H
    exact absurd H (by simp)
   rw [if_pos c13] at H
   have H' := As_ H
   have LM := As_ c13
   clear H c13
   have p440 : 0 ≤ x11 := c10
   have q440 : x11 < (l0.length : Int) := c9
   obtain ⟨ad440,e440,hx440_0,hx440_1⟩ := at_T32 HR0.out x11 p440 q440
   cases e440
   rw [ho] at hx440_0 hx440_1
   replace hx440_0 := bwC HB.out hx440_0
   replace hx440_1 := bwC HB.out hx440_1
   replace p440 := eq_true p440
   replace q440 := eq_true q440
   go_wp2_with (first|((with_reducible refine gate_dst (N := 5) rfl ?_);refine box_event ?hg (N := 5) ?hd (cs := #[.int .i64 0,.int .i64 0]) (t := 32) ?hr ?_;(case hd => rfl);(case hg => rfl);(case hr => go_simp <;> rfl);intro gb2 hg w15 hbox hb;have GE2 := As_ ((by rw [hg];exact (bwZ (zb0 HB.out)) : w.heap.size ≤ gb2));have GN := As_ ((by rw [hg];have h_ := (HU.out).elim (fun z => z.lt) (fun z => z.lt);exact Nat.ne_of_gt h_ : gb2 ≠ gb1));have n0_ := As_ (bwT (zb0 HB.out) hb);have n1_ := As_ (impl_ShowOps.bbelow (HU.out) hb);have BK2 := As_ hbox;clear HB HU;revert n0_ n1_;intro HB HU;clear hb hbox hg;obtain ⟨hcz16_0,hcz16_1,hfz16_0,hfz16_1⟩ := bk2 BK2.out))
   have BK3 := As_ (blk_put (cs := #[.int .i64 o.f0,.int .i64 0]) (blk_put (cs := #[.int .i64 0,.int .i64 0]) BK2.out 0 (.int .i64 o.f0) rfl) 1 (.int .i64 o.f1) rfl)
   have HB3 := As_ (bwS (g := gb2) (j := 1) (v := .int .i64 o.f1) (bwS (g := gb2) (j := 0) (v := .int .i64 o.f0) HB.out GE2.out) GE2.out)
   have HU3 := As_ (impl_ShowOps.bset (impl_ShowOps.bset HU.out BK2.out (by decide) GN.out 0 (.int .i64 o.f0)) (blk_put (cs := #[.int .i64 0,.int .i64 0]) BK2.out 0 (.int .i64 o.f0) rfl) (by decide) GN.out 1 (.int .i64 o.f1))
   clear BK2 HB HU hcz16_0 hcz16_1 hfz16_0 hfz16_1
   generalize (w15.setCell ⟨gb2,0,none⟩ (.int .i64 o.f0)).setCell ⟨gb2,1,none⟩ (.int .i64 o.f1) = w6 at BK3 HB3 HU3 ⊢
   have BK := As_ (bkD BK3.out)
   have HB := As_ (bwD HB3.out)
   have HU := As_ (show Lib.IsBuilderF 38 5 w.heap.size gb1 (Lib.byteCells acc) w6.drew from HU3.out)
   clear BK3 HB3 HU3
   refine start_ (n := 6) (S := fun w' => w'.cell? ⟨gb2,0,none⟩ = some (.int .i64 o.f0) ∧ w'.cell? ⟨gb2,1,none⟩ = some (.int .i64 o.f1)) (ds := []) (bl_ 0 6) (by kernel_rfl) rfl rfl ⟨(bkC BK.out 0).trans rfl,(bkC BK.out 1).trans rfl⟩ (fun hHeld => ?_)
   generalize w6.drew = w9 at BK HB HU hHeld ⊢
   refine pure_ (i := 1) (N := some 16) (v := ?_) (a' := ?_) (bl_ 2 6) rfl rfl (by kernel_rfl) (fun _ _ _ h => h) (Or.inl ⟨by rfl,?_⟩) ?_ ?_;rotate_left;(intro w';go_simp;with_reducible rfl);rotate_left;(simp only [Act.put,sq_,i64_w,i32_w];rfl)
   refine take_ (i := 2) (N := some 17) (v := ?_) (a' := ?_) (bl_ 6 6) rfl rfl (by kernel_rfl) (fun _ _ _ h => h) (Or.inl ⟨by rfl,?_⟩) hHeld ?_ ?_;rotate_left;(rintro w' ⟨s0,s1⟩;go_simp;with_reducible rfl);rotate_left;(simp only [Act.put,sq_,i64_w,i32_w];rfl)
   refine one_ (i := 0) (N := some 15) (bl_ 7 6) rfl rfl (by kernel_rfl) (by decide) (fun K hK => ?_)
   refine goes_ Tryd.func14 (by kernel_rfl) rfl #[] (by rfl) rfl rfl (by (try simp only [List.map_toArray,List.map_cons,List.map_nil]);first|done|rfl) ?_
   with_reducible refine (impl_words.calls ws _ A3.out).mono ?_
   rintro e w10 ⟨v116,rfl,ho0,hb⟩
   refine ⟨_,rfl,?_⟩
   have n0_ := As_ (blk_below BK.out hb)
   have n1_ := As_ (bwT HB.out hb)
   have n2_ := As_ (impl_ShowOps.bbelow HU.out hb)
   have HO := As_ ho0
   clear BK HB HU hb ho0
   revert n0_ n1_ n2_;intro BK HB HU
   obtain ⟨Ao11,co11,eo11⟩ := Kd.R_slice HO.out
   subst eo11
   obtain ⟨ad118,e118,hx118_0⟩ := Kd.at_string (Kd.R_reads' HO.out).2.2 o.f0 c11 c12
   cases e118
   have p118 := eq_true c11
   have q118 := eq_true c12
   refine hK.out _ _ ⟨(bkC BK.out 0).trans rfl,(bkC BK.out 1).trans rfl⟩ (fun hHeld => ?_)
   clear hK K
   refine norm_ (a' := ?_) ?_ ?_
   rotate_left
   ·show Act.put _ (some 15) _ = _
    simp only [Act.put,sq_,i64_w,i32_w]
    rfl
   refine pure_ (i := 3) (N := some 18) (v := ?_) (a' := ?_) (bl_ 15 6) rfl rfl (by kernel_rfl) (fun _ _ _ h => h) (Or.inl ⟨by rfl,?_⟩) ?_ ?_;rotate_left;(intro w';go_simp;with_reducible rfl);rotate_left;(simp only [Act.put,sq_,i64_w,i32_w];rfl)
   refine one_ (i := 4) (N := some 19) (bl_ 31 6) rfl rfl (by kernel_rfl) (by decide) (fun K hK => ?_)
   refine impl_ShowOps.val_ (.string (rdOf ByteArray.empty ws o.f0)) rfl rfl (by go_simp;try rfl) ?_
   refine hK.out _ _ hHeld (fun hHeld => ?_)
   clear hK K
   refine norm_ (a' := ?_) ?_ ?_
   rotate_left
   ·show Act.put _ (some 19) _ = _
    simp only [Act.put,sq_,i64_w,i32_w]
    rfl
   generalize hsw : rdOf ByteArray.empty ws o.f0 = sw at hx118_0 LM H' ⊢
   refine one_ (i := 5) (N := some 20) (bl_ 63 6) rfl rfl (by kernel_rfl) (by decide) (fun K hK => ?_)
   refine goes_ Tryd.func13 (by kernel_rfl) rfl #[.pointer (some ⟨gb1,0,none⟩),.string sw] (by rfl) rfl rfl (by (try simp only [List.map_toArray,List.map_cons,List.map_nil]);first|done|rfl) ?_
   with_reducible refine (Tryd.WriteString_k w.heap.size gb1 (Lib.byteCells acc) sw _ HU.out ?len ?hbw).mono ?_
   case len => have := LM.out.1;rw [Lib.byteCells_length];omega
   case hbw => exact bwZ HB.out
   rintro e w11 ⟨rfl,hu,hb,hk⟩
   rw [impl_ShowOps.cells] at hu
   refine ⟨_,rfl,?_⟩
   have n0_ := As_ (hk gb2 _ BK.out (fun e_ => GN.out (by injection e_)) (fun c fz e_ => by cases e_))
   have n1_ := As_ (Below.trans HB.out hb)
   have n2_ := As_ (show Lib.IsBuilderF 38 5 w.heap.size gb1 (Lib.byteCells (acc ++ sw.data.toList)) w11 from .inr hu)
   clear BK HB HU hb hk hu HO hx118_0
   revert n0_ n1_ n2_;intro BK HB HU
   refine hK.out _ _ ⟨(bkC BK.out 0).trans rfl,(bkC BK.out 1).trans rfl⟩ (fun hHeld => ?_)
   clear hK K
   refine norm_ (a' := ?_) ?_ ?_
   rotate_left
   ·show Act.put _ (some 20) _ = _
    simp only [Act.put,sq_,i64_w,i32_w]
    rfl
   refine done_ (by kernel_rfl) ?_
   clear hHeld
   have hcb0 : w11.cell? ⟨gb2,0,none⟩ = some (.int .i64 o.f0) := (bkC BK.out 0).trans rfl
   have hcb1 : w11.cell? ⟨gb2,1,none⟩ = some (.int .i64 o.f1) := (bkC BK.out 1).trans rfl
   by_cases cm : m > 0
   rotate_left
   ·have cmb : decide (0 < m) = false := deF cm
    go_wp2_with (first|((with_reducible refine gate_callee (f := 15) rfl ?_);refine goesL_ (some 23) rfl rfl Tryd.func15 (by kernel_rfl) rfl #[.int .i64 o.f0] rfl (by (try simp only [List.map_toArray,List.map_cons,List.map_nil]);first|done|rfl) ?_;(with_reducible refine (impl_mostArg.calls o.f0 m _ A4.out).mono ?_);rintro e w' ⟨rfl,⟨nd,rfl⟩⟩;refine ⟨_,rfl,?_⟩)|((with_reducible refine gate_callee (f := 13) rfl ?_);refine goesL_ (some 30) rfl rfl Tryd.func13 (by kernel_rfl) rfl #[.pointer (some ⟨gb1,0,none⟩),.string (⟨#[10]⟩ : ByteArray)] rfl (by (try simp only [List.map_toArray,List.map_cons,List.map_nil]);first|done|rfl) ?_;(with_reducible refine (Tryd.WriteString_k w.heap.size gb1 (Lib.byteCells (acc ++ sw.data.toList)) (⟨#[10]⟩ : ByteArray) _ ?sidu ?len ?hbw).mono ?_);(case sidu => exact HU.out);(case len => have h1_ := LM.out.1;have h3_ := impl_ShowOps.size_data sw;rw [Lib.byteCells_length,List.length_append,h3_,show ByteArray.size (⟨#[10]⟩ : ByteArray) = 1 from rfl];omega);(case hbw => exact bwZ (zb0 HB.out));rintro e w14 ⟨rfl,hu,hb,hk⟩;rw [impl_ShowOps.cells] at hu;refine ⟨_,rfl,?_⟩;have n1_ := As_ (Below.trans (zb0 HB.out) hb);have n2_ := As_ (show Lib.IsBuilderF 38 5 w.heap.size gb1 (Lib.byteCells ((acc ++ sw.data.toList) ++ (⟨#[10]⟩ : ByteArray).data.toList)) _ from .inr hu);clear HB HU;have HB := n1_;have HU := n2_;clear n1_ n2_ hb hk hu))
    go_roundg k1
    case measure => have := HK1.out;omega
    case rel => exact ⟨acc ++ impl_ShowOps.one sw m o.f1,(wrap64 (x11 + 1)),zT_,H',⟨by have := HK1.out;omega⟩,⟨by rw [impl_ShowOps.one_neg acc sw m o.f1 (by omega)];exact HU.out⟩,⟨(zb0 HB.out)⟩⟩
   have cmb : decide (0 < m) = true := deT cm
   obtain ⟨s2,hs2⟩ : ∃ s : ByteArray,s = ⟨(Go.Lib.itoa o.f1).toArray⟩ := ⟨_,rfl⟩
   have hsl : s2.size ≤ 30 := by have h_ := Go.Lib.itoa_length_le o.f1 (by have := LM.out.2.1;omega) (by have := LM.out.2.2;omega);rw [← impl_ShowOps.size_data,hs2];show (Go.Lib.itoa o.f1).toArray.toList.length ≤ 30;rw [List.toList_toArray];omega
   have hck : (9223372036854775807 < 1 + s2.size) = False := eq_false (by omega)
   have HS2 := As_ hs2
   have HSL := As_ hsl
   clear hs2 hsl
   go_wp2_with (first|((with_reducible refine gate_callee (f := 15) rfl ?_);refine goesL_ (some 23) rfl rfl Tryd.func15 (by kernel_rfl) rfl #[.int .i64 o.f0] rfl (by (try simp only [List.map_toArray,List.map_cons,List.map_nil]);first|done|rfl) ?_;(with_reducible refine (impl_mostArg.calls o.f0 m _ A4.out).mono ?_);rintro e w' ⟨rfl,⟨nd,rfl⟩⟩;refine ⟨_,rfl,?_⟩)|((with_reducible refine gate_callee (f := 16) rfl ?_);refine goesL_ (some 27) rfl rfl Tryd.func16 (by kernel_rfl) rfl #[.int .i64 o.f1] rfl (by (try simp only [List.map_toArray,List.map_cons,List.map_nil]);first|done|rfl) ?_;(with_reducible refine (Tryd.strconv_Itoa o.f1 ?lo ?hi _ ?tab).mono ?_);(case lo => have := LM.out.2.1;omega);(case hi => have := LM.out.2.2;omega);(case tab => exact (HT.out.on (zb0 HB.out)).here);rintro e w12 ⟨he,hw⟩;rw [← HS2.out] at he;subst he;have hb := impl_ShowOps.grown_below hw;clear hw;refine ⟨_,rfl,?_⟩;have n1_ := As_ (bwT (zb0 HB.out) hb);have n2_ : Aside0 (Lib.IsBuilderF 38 5 w.heap.size gb1 (Lib.byteCells (acc ++ sw.data.toList)) w12) := ⟨by refine impl_ShowOps.bbelow ?_ hb;exact HU.out⟩;clear HB HU;have HB := n1_;have HU := n2_;clear n1_ n2_ hb)|((with_reducible refine gate_callee (f := 13) rfl ?_);refine goesL_ (some 29) rfl rfl Tryd.func13 (by kernel_rfl) rfl #[.pointer (some ⟨gb1,0,none⟩),.string ((⟨#[32]⟩ : ByteArray) ++ s2)] rfl (by (try simp only [List.map_toArray,List.map_cons,List.map_nil]);first|done|rfl) ?_;(with_reducible refine (Tryd.WriteString_k w.heap.size gb1 (Lib.byteCells (acc ++ sw.data.toList)) ((⟨#[32]⟩ : ByteArray) ++ s2) _ ?sidu ?len ?hbw).mono ?_);(case sidu => exact HU.out);(case len => have h1_ := LM.out.1;have h2_ := HSL.out;have h3_ := impl_ShowOps.size_data sw;rw [Lib.byteCells_length,List.length_append,ByteArray.size_append,h3_,show ByteArray.size (⟨#[32]⟩ : ByteArray) = 1 from rfl];omega);(case hbw => exact bwZ (zb0 HB.out));rintro e w13 ⟨rfl,hu,hb,hk⟩;rw [impl_ShowOps.cells] at hu;refine ⟨_,rfl,?_⟩;have n1_ := As_ (Below.trans (zb0 HB.out) hb);have n2_ := As_ (show Lib.IsBuilderF 38 5 w.heap.size gb1 (Lib.byteCells ((acc ++ sw.data.toList) ++ ((⟨#[32]⟩ : ByteArray) ++ s2).data.toList)) _ from .inr hu);clear HB HU;have HB := n1_;have HU := n2_;clear n1_ n2_ hb hk hu)|((with_reducible refine gate_callee (f := 13) rfl ?_);refine goesL_ (some 30) rfl rfl Tryd.func13 (by kernel_rfl) rfl #[.pointer (some ⟨gb1,0,none⟩),.string (⟨#[10]⟩ : ByteArray)] rfl (by (try simp only [List.map_toArray,List.map_cons,List.map_nil]);first|done|rfl) ?_;(with_reducible refine (Tryd.WriteString_k w.heap.size gb1 (Lib.byteCells ((acc ++ sw.data.toList) ++ ((⟨#[32]⟩ : ByteArray) ++ s2).data.toList)) (⟨#[10]⟩ : ByteArray) _ ?sidu ?len ?hbw).mono ?_);(case sidu => exact HU.out);(case len => have h1_ := LM.out.1;have h2_ := HSL.out;have h3_ := impl_ShowOps.size_data sw;have h4_ := impl_ShowOps.size_data ((⟨#[32]⟩ : ByteArray) ++ s2);rw [Lib.byteCells_length,List.length_append,List.length_append,h3_,h4_,ByteArray.size_append,show ByteArray.size (⟨#[32]⟩ : ByteArray) = 1 from rfl,show ByteArray.size (⟨#[10]⟩ : ByteArray) = 1 from rfl];omega);(case hbw => exact bwZ (zb0 HB.out));rintro e w14 ⟨rfl,hu,hb,hk⟩;rw [impl_ShowOps.cells] at hu;refine ⟨_,rfl,?_⟩;have n1_ := As_ (Below.trans (zb0 HB.out) hb);have n2_ := As_ (show Lib.IsBuilderF 38 5 w.heap.size gb1 (Lib.byteCells (((acc ++ sw.data.toList) ++ ((⟨#[32]⟩ : ByteArray) ++ s2).data.toList) ++ (⟨#[10]⟩ : ByteArray).data.toList)) _ from .inr hu);clear HB HU;have HB := n1_;have HU := n2_;clear n1_ n2_ hb hk hu))
   go_roundg k1
   case measure => have := HK1.out;omega
   case rel => exact ⟨acc ++ impl_ShowOps.one sw m o.f1,(wrap64 (x11 + 1)),zT_,H',⟨by have := HK1.out;omega⟩,⟨by rw [impl_ShowOps.one_pos acc sw s2 m o.f1 cm HS2.out];exact HU.out⟩,⟨(zb0 HB.out)⟩⟩
/-! ### laws_eqOp: function 18 -/
def laws_eqOp.f (a0_0 : Int) (a0_1 : Int) (a1_0 : Int) (a1_1 : Int) : Option (Bool) := if a0_0 = a1_0 then (if a0_1 = a1_1 then (some true) else (some false)) else (some false)
set_option maxHeartbeats 8000000 in
set_option maxRecDepth 100000 in
theorem laws_eqOp.calls (a0_0 : Int) (a0_1 : Int) (a1_0 : Int) (a1_1 : Int) (r : Bool) (w : World) (h : laws_eqOp.f a0_0 a0_1 a1_0 a1_1 = some r) :
  Calls Tryd.prog 18 #[.agg #[.int .i64 a0_0,.int .i64 a0_1],.agg #[.int .i64 a1_0,.int .i64 a1_1]] w fun e w' => e = .returned (.bool r) ∧ Below w.heap.size w w' := by
 have hu32 := Tryd.underlying32
 have HB := As_ (Below.refl w.heap.size w)
 have H : (if a0_0 = a1_0 then (if a0_1 = a1_1 then (some true) else (some false)) else (some false)) = some r := h
 clear h
 by_cases c3 : a0_0 = a1_0
 rotate_left
 ·rw [if_neg c3] at H
  have c3b0 : (a0_0 == a1_0) = false := beq_eq_false_iff_ne.mpr c3
  have c3b1 : (a0_0 != a1_0) = true := bne_iff_ne.mpr c3
  obtain rfl := Option.some.inj H
  go_enter Tryd.func18,Tryd.ntmps18
  go_wp2_with (first|((with_reducible refine gate_dst (N := 2) rfl ?_);refine box_event ?hg (N := 2) ?hd (cs := #[.int .i64 a0_0,.int .i64 a0_1]) (t := 32) ?hr ?_;(case hd => rfl);(case hg => rfl);(case hr => go_simp <;> rfl);intro gb164 hg w15 hbox hb;have n0_ := As_ (bwT (zb0 HB.out) hb);have n1_ := As_ (hbox);have n2_ := As_ ((by rw [hg];exact (bwZ (zb0 HB.out)) : w.heap.size ≤ gb164));have n3_ := As_ ((by rw [hg];exact (bwZ (zb0 HB.out)) : w.heap.size ≤ gb164));clear HB;revert n0_ n1_ n2_ n3_;intro HB BK164 GW164 GE164;clear hb hbox hg)|((with_reducible refine gate_dst (N := 3) rfl ?_);refine box_event ?hg (N := 3) ?hd (cs := #[.int .i64 a1_0,.int .i64 a1_1]) (t := 32) ?hr ?_;(case hd => rfl);(case hg => rfl);(case hr => go_simp <;> rfl);intro gb165 hg w16 hbox hb;have n0_ := As_ (zkb BK164.out hb);have n1_ := As_ (bwT (zb1 HB.out GE164.out) hb);have n2_ := As_ (hbox);have n3_ := As_ ((by rw [hg];exact (bwZ (zb1 HB.out GE164.out)) : w.heap.size ≤ gb165));have n4_ := As_ ((by rw [hg];exact (bwZ (zb1 HB.out GE164.out)) : w.heap.size ≤ gb165));have n5_ := As_ ((by rw [hg];exact Nat.ne_of_lt (zkl BK164.out) : gb164 ≠ gb165));have n6_ := As_ ((by rw [hg];exact Nat.ne_of_gt (zkl BK164.out) : gb165 ≠ gb164));clear BK164 HB;revert n0_ n1_ n2_ n3_ n4_ n5_ n6_;intro BK164 HB BK165 GW165 GE165 NB164_165 NB165_164;clear hb hbox hg;have hnb17 := NB164_165.out;have hnc17 := NB165_164.out;obtain ⟨hcz18_0,hcz18_1,hfz18_0,hfz18_1⟩ := bk2 BK164.out;obtain ⟨hcz19_0,hcz19_1,hfz19_0,hfz19_1⟩ := bk2 BK165.out))
  go_ret
  exact ⟨zE_,zb2 HB.out GE164.out GE165.out⟩

 rw [if_pos c3] at H
 have c3b0 : (a0_0 == a1_0) = true := beq_iff_eq.mpr c3
 have c3b1 : (a0_0 != a1_0) = false := bne_eq_false_iff_eq.mpr c3
 clear c3
 by_cases c4 : a0_1 = a1_1
 rotate_left
 ·rw [if_neg c4] at H
  have c4b0 : (a0_1 == a1_1) = false := beq_eq_false_iff_ne.mpr c4
  have c4b1 : (a0_1 != a1_1) = true := bne_iff_ne.mpr c4
  obtain rfl := Option.some.inj H
  go_enter Tryd.func18,Tryd.ntmps18
  go_wp2_with (first|((with_reducible refine gate_dst (N := 2) rfl ?_);refine box_event ?hg (N := 2) ?hd (cs := #[.int .i64 a0_0,.int .i64 a0_1]) (t := 32) ?hr ?_;(case hd => rfl);(case hg => rfl);(case hr => go_simp <;> rfl);intro gb164 hg w10 hbox hb;have n0_ := As_ (bwT (zb0 HB.out) hb);have n1_ := As_ (hbox);have n2_ := As_ ((by rw [hg];exact (bwZ (zb0 HB.out)) : w.heap.size ≤ gb164));have n3_ := As_ ((by rw [hg];exact (bwZ (zb0 HB.out)) : w.heap.size ≤ gb164));clear HB;revert n0_ n1_ n2_ n3_;intro HB BK164 GW164 GE164;clear hb hbox hg)|((with_reducible refine gate_dst (N := 3) rfl ?_);refine box_event ?hg (N := 3) ?hd (cs := #[.int .i64 a1_0,.int .i64 a1_1]) (t := 32) ?hr ?_;(case hd => rfl);(case hg => rfl);(case hr => go_simp <;> rfl);intro gb165 hg w11 hbox hb;have n0_ := As_ (zkb BK164.out hb);have n1_ := As_ (bwT (zb1 HB.out GE164.out) hb);have n2_ := As_ (hbox);have n3_ := As_ ((by rw [hg];exact (bwZ (zb1 HB.out GE164.out)) : w.heap.size ≤ gb165));have n4_ := As_ ((by rw [hg];exact (bwZ (zb1 HB.out GE164.out)) : w.heap.size ≤ gb165));have n5_ := As_ ((by rw [hg];exact Nat.ne_of_lt (zkl BK164.out) : gb164 ≠ gb165));have n6_ := As_ ((by rw [hg];exact Nat.ne_of_gt (zkl BK164.out) : gb165 ≠ gb164));clear BK164 HB;revert n0_ n1_ n2_ n3_ n4_ n5_ n6_;intro BK164 HB BK165 GW165 GE165 NB164_165 NB165_164;clear hb hbox hg;have hnb12 := NB164_165.out;have hnc12 := NB165_164.out;obtain ⟨hcz13_0,hcz13_1,hfz13_0,hfz13_1⟩ := bk2 BK164.out;obtain ⟨hcz14_0,hcz14_1,hfz14_0,hfz14_1⟩ := bk2 BK165.out))
  go_ret
  exact ⟨zE_,zb2 HB.out GE164.out GE165.out⟩
 rw [if_pos c4] at H
 have c4b0 : (a0_1 == a1_1) = true := beq_iff_eq.mpr c4
 have c4b1 : (a0_1 != a1_1) = false := bne_eq_false_iff_eq.mpr c4
 clear c4
 obtain rfl := Option.some.inj H
 go_enter Tryd.func18,Tryd.ntmps18
 go_wp2_with (first|((with_reducible refine gate_dst (N := 2) rfl ?_);refine box_event ?hg (N := 2) ?hd (cs := #[.int .i64 a0_0,.int .i64 a0_1]) (t := 32) ?hr ?_;(case hd => rfl);(case hg => rfl);(case hr => go_simp <;> rfl);intro gb164 hg w5 hbox hb;have n0_ := As_ (bwT (zb0 HB.out) hb);have n1_ := As_ (hbox);have n2_ := As_ ((by rw [hg];exact (bwZ (zb0 HB.out)) : w.heap.size ≤ gb164));have n3_ := As_ ((by rw [hg];exact (bwZ (zb0 HB.out)) : w.heap.size ≤ gb164));clear HB;revert n0_ n1_ n2_ n3_;intro HB BK164 GW164 GE164;clear hb hbox hg)|((with_reducible refine gate_dst (N := 3) rfl ?_);refine box_event ?hg (N := 3) ?hd (cs := #[.int .i64 a1_0,.int .i64 a1_1]) (t := 32) ?hr ?_;(case hd => rfl);(case hg => rfl);(case hr => go_simp <;> rfl);intro gb165 hg w6 hbox hb;have n0_ := As_ (zkb BK164.out hb);have n1_ := As_ (bwT (zb1 HB.out GE164.out) hb);have n2_ := As_ (hbox);have n3_ := As_ ((by rw [hg];exact (bwZ (zb1 HB.out GE164.out)) : w.heap.size ≤ gb165));have n4_ := As_ ((by rw [hg];exact (bwZ (zb1 HB.out GE164.out)) : w.heap.size ≤ gb165));have n5_ := As_ ((by rw [hg];exact Nat.ne_of_lt (zkl BK164.out) : gb164 ≠ gb165));have n6_ := As_ ((by rw [hg];exact Nat.ne_of_gt (zkl BK164.out) : gb165 ≠ gb164));clear BK164 HB;revert n0_ n1_ n2_ n3_ n4_ n5_ n6_;intro BK164 HB BK165 GW165 GE165 NB164_165 NB165_164;clear hb hbox hg;have hnb7 := NB164_165.out;have hnc7 := NB165_164.out;obtain ⟨hcz8_0,hcz8_1,hfz8_0,hfz8_1⟩ := bk2 BK164.out;obtain ⟨hcz9_0,hcz9_1,hfz9_0,hfz9_1⟩ := bk2 BK165.out))
 go_ret
 exact ⟨zE_,zb2 HB.out GE164.out GE165.out⟩
/-! ### laws_eqOpS: function 8 -/
def laws_eqOpS.l0 : Nat → List (S32) → List (S32) → Int → Option (Bool)
 | 0,_,_,_ => none
 | k + 1,x0,x1,x5 => if x5 < (x0.length : Int) then (if 0 ≤ x5 then (if x5 < (x1.length : Int) then ((laws_eqOp.f ((rd_T32 x0 x5).f0) ((rd_T32 x0 x5).f1) ((rd_T32 x1 x5).f0) ((rd_T32 x1 x5).f1)).bind fun t168 => (if t168 = true then (laws_eqOpS.l0 k x0 x1 (wrap64 (x5 + 1))) else (some false))) else (none)) else (none)) else (some true)
def laws_eqOpS.f (k : Nat) (l0 : List (S32)) (l1 : List (S32)) : Option (Bool) := if (l0.length : Int) = (l1.length : Int) then (laws_eqOpS.l0 k l0 l1 0) else (some false)
set_option maxRecDepth 100000 in
theorem laws_eqOpS.mono_l : ∀ k,(∀ y0 y1 y2,LeO (laws_eqOpS.l0 k y0 y1 y2) (laws_eqOpS.l0 (k + 1) y0 y1 y2))
 | 0 => fun _ _ _ r h => (by cases h)
 | k + 1 => by
  have ih0 := laws_eqOpS.mono_l k
  ·intro y0 y1 y2
   unfold laws_eqOpS.l0
   repeat' first
   | (with_reducible exact ih0 _ _ _)
   | (with_reducible exact LeO.refl _)
   | (with_reducible exact LeO.none _)
   | (with_reducible refine LeO.ite ?_ ?_)
   | (with_reducible refine LeO.bind ?_ (fun _ => ?_))
   | exact ih0 _ _ _
   | exact LeO.none _
   | refine LeO.ite ?_ ?_
   | refine LeO.bind ?_ (fun _ => ?_)
set_option maxRecDepth 100000 in
theorem laws_eqOpS.mono : ∀ a0 a1 k,LeO (laws_eqOpS.f k a0 a1) (laws_eqOpS.f (k + 1) a0 a1) := by
 intro a0 a1 k
 have ih0 := laws_eqOpS.mono_l k
 unfold laws_eqOpS.f
 repeat' first
   | (with_reducible exact ih0 _ _ _)
   | (with_reducible exact LeO.refl _)
   | (with_reducible exact LeO.none _)
   | (with_reducible refine LeO.ite ?_ ?_)
   | (with_reducible refine LeO.bind ?_ (fun _ => ?_))
   | exact ih0 _ _ _
   | exact LeO.none _
   | refine LeO.ite ?_ ?_
   | refine LeO.bind ?_ (fun _ => ?_)
def laws_eqOpS.T6 : Bool × List (List Nat × List Nat) := (true,[([],[]),([],[]),([0,1],[0,1]),([2],[2]),([],[]),([],[]),([4,5],[4,5]),([6],[6]),([3,7],[3,7]),([8],[8])])
def laws_eqOpS.B6 : List Nat := [0,0,3,7,0,0,48,112,255,511]
theorem laws_eqOpS.tab6 : rtab .any (opsOf Tryd.f8 6) = laws_eqOpS.T6 := by kernel_rfl
theorem laws_eqOpS.bits6 : waitsOk laws_eqOpS.T6.2 laws_eqOpS.B6 = true := by kernel_rfl
set_option maxHeartbeats 8000000 in
set_option maxRecDepth 100000 in
theorem laws_eqOpS.calls (k : Nat) (A0 : Option Addr) (c0 : Nat) (l0 : List (S32)) (A1 : Option Addr) (c1 : Nat) (l1 : List (S32)) (r : Bool) (w : World) (hr0 : Kd.C k32 w A0 l0.length l0) (hc0 : l0.length ≤ c0) (hr1 : Kd.C k32 w A1 l1.length l1) (hc1 : l1.length ≤ c1) (h : laws_eqOpS.f k l0 l1 = some r) :
  Calls Tryd.prog 8 #[.slice A0 l0.length c0,.slice A1 l1.length c1] w fun e w' => e = .returned (.bool r) ∧ Below w.heap.size w w' := by
 have hu32 := Tryd.underlying32
 have HR0 := As_ hr0
 have HC0 := As_ hc0
 clear hr0 hc0
 have HR1 := As_ hr1
 have HC1 := As_ hc1
 clear hr1 hc1
 have HB := As_ (Below.refl w.heap.size w)
 have H : (if (l0.length : Int) = (l1.length : Int) then (laws_eqOpS.l0 k l0 l1 0) else (some false)) = some r := h
 clear h
 by_cases c3 : (l0.length : Int) = (l1.length : Int)
 rotate_left
 ·rw [if_neg c3] at H
  have c3b0 : ((l0.length : Int) == (l1.length : Int)) = false := beq_eq_false_iff_ne.mpr c3
  have c3b1 : ((l0.length : Int) != (l1.length : Int)) = true := bne_iff_ne.mpr c3
  have c3b2 : (l0.length == l1.length) = false := by first|simpa using c3|(simp at c3 ⊢;omega)
  obtain rfl := Option.some.inj H
  go_enter Tryd.func8,Tryd.ntmps8
  go_wp2
  go_ret
  exact ⟨zE_,zb0 HB.out⟩

 rw [if_pos c3] at H
 have c3b0 : ((l0.length : Int) == (l1.length : Int)) = true := beq_iff_eq.mpr c3
 have c3b1 : ((l0.length : Int) != (l1.length : Int)) = false := bne_eq_false_iff_eq.mpr c3
 have c3b2 : (l0.length == l1.length) = true := by first|simpa using c3|(simp at c3 ⊢;omega)
 clear c3
 have H' := As_ H
 clear H
 go_enter Tryd.func8,Tryd.ntmps8
 go_wp2
 go_loopg [5] k (fun kq v5 w' => ∃ (x5_1 : Int),v5 = .int .i64 x5_1 ∧ Aside0 (laws_eqOpS.l0 kq l0 l1 x5_1 = some r) ∧ Aside0 (kq ≤ k) ∧ Aside0 (Below w.heap.size w w'))
 case atStart => exact ⟨(0),zT_,H',⟨Nat.le_refl _⟩,⟨zb0 HB.out⟩⟩
 case round =>
  clear H'
  obtain ⟨x5_1,rfl,HA,HK1,HB⟩ := hrel
  cases gk with
  | zero => exact absurd HA.out (fun h_ => (by cases h_))
  | succ k1 =>
   have H := HA.out
   clear HA
   simp only [laws_eqOpS.l0] at H
   by_cases c4 : x5_1 < (l0.length : Int)
   rotate_left
   ·rw [if_neg c4] at H
    have c4b0 : decide (x5_1 < (l0.length : Int)) = false := deF c4
    clear c4
    obtain rfl := Option.some.inj H
    go_wp2
    go_ret
    exact ⟨zE_,zb0 HB.out⟩
   rw [if_pos c4] at H
   have c4b0 : decide (x5_1 < (l0.length : Int)) = true := deT c4
   clear c4
   by_cases c5 : 0 ≤ x5_1
   rotate_left
   ·rw [if_neg c5] at H
    exact absurd H (by simp)
   rw [if_pos c5] at H
   have c5b0 : decide (0 ≤ x5_1) = true := deT c5
   clear c5
   by_cases c6 : x5_1 < (l1.length : Int)
   rotate_left
   ·rw [if_neg c6] at H
    exact absurd H (by simp)
   rw [if_pos c6] at H
   have c6b0 : decide (x5_1 < (l1.length : Int)) = true := deT c6
   clear c6
   replace H := obS H
   obtain ⟨t168,A70,H⟩ := H
   replace H : (if t168 = true then (laws_eqOpS.l0 k1 l0 l1 (wrap64 (x5_1 + 1))) else (some false)) = some r := H
   have A7 := As_ A70
   clear A70
   by_cases c8 : t168 = true
   rotate_left
   ·replace c8 := Bool.eq_false_iff.mpr c8
    subst c8
    have H1 : (some false) = some r := by rw [if_neg (show ¬ (false = true) by decide)] at H;exact H
    clear H
    have H := H1
    clear H1
    obtain rfl := Option.some.inj H
    try go_wp2
    have n0_ := As_ (bwD HB.out)
    clear HB
    revert n0_;intro HB
    have p166 : 0 ≤ (x5_1 : Int) := odT zA_
    have q166 : x5_1 < (l0.length : Int) := odT zA_
    obtain ⟨ad166,e166,hx166_0,hx166_1⟩ := at_T32 HR0.out x5_1 p166 q166
    have hw166_1 := hx166_1
    have hw166_0 := hx166_0
    cases e166
    replace hx166_0 := bwC HB.out hx166_0
    replace hx166_1 := bwC HB.out hx166_1
    replace p166 := eq_true p166
    replace q166 := eq_true q166
    have p167 : 0 ≤ (x5_1 : Int) := odT zA_
    have q167 : x5_1 < (l1.length : Int) := odT zA_
    obtain ⟨ad167,e167,hx167_0,hx167_1⟩ := at_T32 HR1.out x5_1 p167 q167
    have hw167_1 := hx167_1
    have hw167_0 := hx167_0
    cases e167
    replace hx167_0 := bwC HB.out hx167_0
    replace hx167_1 := bwC HB.out hx167_1
    replace p167 := eq_true p167
    replace q167 := eq_true q167
    refine start_ (n := 10) (S := fun w' => w'.cell? (ad166.add ((x5_1).toNat * 2)) = some (.int .i64 ((rd_T32 l0 x5_1).f0)) ∧ w'.cell? ⟨(ad166.add ((x5_1).toNat * 2)).block,(ad166.add ((x5_1).toNat * 2)).off + 1,none⟩ = some (.int .i64 ((rd_T32 l0 x5_1).f1)) ∧ w'.cell? (ad167.add ((x5_1).toNat * 2)) = some (.int .i64 ((rd_T32 l1 x5_1).f0)) ∧ w'.cell? ⟨(ad167.add ((x5_1).toNat * 2)).block,(ad167.add ((x5_1).toNat * 2)).off + 1,none⟩ = some (.int .i64 ((rd_T32 l1 x5_1).f1))) (ds := []) (bl_ 0 10) (by kernel_rfl) rfl rfl ⟨((HB.out.cell (bwL w _ hw166_0)).trans hw166_0),((HB.out.cell (bwL w _ hw166_1)).trans hw166_1),((HB.out.cell (bwL w _ hw167_0)).trans hw167_0),((HB.out.cell (bwL w _ hw167_1)).trans hw167_1)⟩ (fun hHeld => ?_);refine with_tabW laws_eqOpS.tab6 laws_eqOpS.bits6 (fun HT_ HW_ => ?_)
    generalize wr.drew = w11 at HB hx166_0 hx166_1 hx167_0 hx167_1 hHeld ⊢
    refine pQ 0 17 (bl_ 1 10) HT_ rfl ?_
    refine pQ 1 18 (bl_ 3 10) HT_ rfl ?_
    refine pQ 2 19 (bl_ 7 10) HT_ rfl ?_
    refine pQ 4 21 (bl_ 23 10) HT_ rfl ?_
    refine pQ 5 22 (bl_ 55 10) HT_ rfl ?_
    refine pQ 6 23 (bl_ 119 10) HT_ rfl ?_
    refine tP 3 20 (bl_ 127 10) ?_ HT_ HW_ rfl (.inl ⟨by rfl,?_⟩) hHeld ?_ ?_ ?_;rotate_left;(rintro w' ⟨s0,s1,s2,s3⟩;go_simp;with_reducible rfl);rotate_left;(simp only [Act.put,sq_,i64_w,i32_w];rfl)
    refine tP 7 24 (bl_ 255 10) ?_ HT_ HW_ rfl (.inl ⟨by rfl,?_⟩) hHeld ?_ ?_ ?_;rotate_left;(rintro w' ⟨s0,s1,s2,s3⟩;go_simp;with_reducible rfl);rotate_left;(simp only [Act.put,sq_,i64_w,i32_w];rfl)
    refine one_ (i := 8) (N := some 25) (bl_ 511 10) rfl rfl (one_of HT_.out (by kernel_rfl)) (by decide) (fun K hK => ?_)
    refine goes_ Tryd.func18 (by kernel_rfl) rfl #[.agg #[.int .i64 ((rd_T32 l0 x5_1).f0),.int .i64 ((rd_T32 l0 x5_1).f1)],.agg #[.int .i64 ((rd_T32 l1 x5_1).f0),.int .i64 ((rd_T32 l1 x5_1).f1)]] (by rfl) rfl rfl zM_ ?_
    with_reducible refine (laws_eqOp.calls ((rd_T32 l0 x5_1).f0) ((rd_T32 l0 x5_1).f1) ((rd_T32 l1 x5_1).f0) ((rd_T32 l1 x5_1).f1) false _ A7.out).mono ?_
    rintro e w12 ⟨rfl,hb⟩
    refine ⟨_,rfl,?_⟩
    have n0_ := As_ (bwT (zb0 HB.out) hb)
    clear HB
    revert n0_;intro HB
    refine hK.out _ _ ⟨((HB.out.cell (bwL w _ hw166_0)).trans hw166_0),((HB.out.cell (bwL w _ hw166_1)).trans hw166_1),((HB.out.cell (bwL w _ hw167_0)).trans hw167_0),((HB.out.cell (bwL w _ hw167_1)).trans hw167_1)⟩ (fun hHeld => ?_)
    clear hK K
    refine norm_ (a' := ?_) ?_ ?_
    rotate_left
    ·show Act.put _ (some 25) _ = _
     simp only [Act.put,sq_,i64_w,i32_w]
     rfl
    refine pQ 9 26 (bl_ 1023 10) HT_ rfl ?_
    refine done_ (done_of HT_.out (by kernel_rfl)) ?_
    try go_wp2
    go_ret
    exact ⟨zE_,zb0 HB.out⟩
   subst c8
   have H1 : (laws_eqOpS.l0 k1 l0 l1 (wrap64 (x5_1 + 1))) = some r := by rw [if_pos rfl] at H;exact H
   clear H
   have H := H1
   clear H1
   have H' := As_ H
   clear H
   try go_wp2
   have n0_ := As_ (bwD HB.out)
   clear HB
   revert n0_;intro HB
   have p166 : 0 ≤ (x5_1 : Int) := odT zA_
   have q166 : x5_1 < (l0.length : Int) := odT zA_
   obtain ⟨ad166,e166,hx166_0,hx166_1⟩ := at_T32 HR0.out x5_1 p166 q166
   have hw166_1 := hx166_1
   have hw166_0 := hx166_0
   cases e166
   replace hx166_0 := bwC HB.out hx166_0
   replace hx166_1 := bwC HB.out hx166_1
   replace p166 := eq_true p166
   replace q166 := eq_true q166
   have p167 : 0 ≤ (x5_1 : Int) := odT zA_
   have q167 : x5_1 < (l1.length : Int) := odT zA_
   obtain ⟨ad167,e167,hx167_0,hx167_1⟩ := at_T32 HR1.out x5_1 p167 q167
   have hw167_1 := hx167_1
   have hw167_0 := hx167_0
   cases e167
   replace hx167_0 := bwC HB.out hx167_0
   replace hx167_1 := bwC HB.out hx167_1
   replace p167 := eq_true p167
   replace q167 := eq_true q167
   refine start_ (n := 10) (S := fun w' => w'.cell? (ad166.add ((x5_1).toNat * 2)) = some (.int .i64 ((rd_T32 l0 x5_1).f0)) ∧ w'.cell? ⟨(ad166.add ((x5_1).toNat * 2)).block,(ad166.add ((x5_1).toNat * 2)).off + 1,none⟩ = some (.int .i64 ((rd_T32 l0 x5_1).f1)) ∧ w'.cell? (ad167.add ((x5_1).toNat * 2)) = some (.int .i64 ((rd_T32 l1 x5_1).f0)) ∧ w'.cell? ⟨(ad167.add ((x5_1).toNat * 2)).block,(ad167.add ((x5_1).toNat * 2)).off + 1,none⟩ = some (.int .i64 ((rd_T32 l1 x5_1).f1))) (ds := []) (bl_ 0 10) (by kernel_rfl) rfl rfl ⟨((HB.out.cell (bwL w _ hw166_0)).trans hw166_0),((HB.out.cell (bwL w _ hw166_1)).trans hw166_1),((HB.out.cell (bwL w _ hw167_0)).trans hw167_0),((HB.out.cell (bwL w _ hw167_1)).trans hw167_1)⟩ (fun hHeld => ?_);refine with_tabW laws_eqOpS.tab6 laws_eqOpS.bits6 (fun HT_ HW_ => ?_)
   generalize wr.drew = w9 at HB hx166_0 hx166_1 hx167_0 hx167_1 hHeld ⊢
   refine pQ 0 17 (bl_ 1 10) HT_ rfl ?_
   refine pQ 1 18 (bl_ 3 10) HT_ rfl ?_
   refine pQ 2 19 (bl_ 7 10) HT_ rfl ?_
   refine pQ 4 21 (bl_ 23 10) HT_ rfl ?_
   refine pQ 5 22 (bl_ 55 10) HT_ rfl ?_
   refine pQ 6 23 (bl_ 119 10) HT_ rfl ?_
   refine tP 3 20 (bl_ 127 10) ?_ HT_ HW_ rfl (.inl ⟨by rfl,?_⟩) hHeld ?_ ?_ ?_;rotate_left;(rintro w' ⟨s0,s1,s2,s3⟩;go_simp;with_reducible rfl);rotate_left;(simp only [Act.put,sq_,i64_w,i32_w];rfl)
   refine tP 7 24 (bl_ 255 10) ?_ HT_ HW_ rfl (.inl ⟨by rfl,?_⟩) hHeld ?_ ?_ ?_;rotate_left;(rintro w' ⟨s0,s1,s2,s3⟩;go_simp;with_reducible rfl);rotate_left;(simp only [Act.put,sq_,i64_w,i32_w];rfl)
   refine one_ (i := 8) (N := some 25) (bl_ 511 10) rfl rfl (one_of HT_.out (by kernel_rfl)) (by decide) (fun K hK => ?_)
   refine goes_ Tryd.func18 (by kernel_rfl) rfl #[.agg #[.int .i64 ((rd_T32 l0 x5_1).f0),.int .i64 ((rd_T32 l0 x5_1).f1)],.agg #[.int .i64 ((rd_T32 l1 x5_1).f0),.int .i64 ((rd_T32 l1 x5_1).f1)]] (by rfl) rfl rfl zM_ ?_
   with_reducible refine (laws_eqOp.calls ((rd_T32 l0 x5_1).f0) ((rd_T32 l0 x5_1).f1) ((rd_T32 l1 x5_1).f0) ((rd_T32 l1 x5_1).f1) true _ A7.out).mono ?_
   rintro e w10 ⟨rfl,hb⟩
   refine ⟨_,rfl,?_⟩
   have n0_ := As_ (bwT (zb0 HB.out) hb)
   clear HB
   revert n0_;intro HB
   refine hK.out _ _ ⟨((HB.out.cell (bwL w _ hw166_0)).trans hw166_0),((HB.out.cell (bwL w _ hw166_1)).trans hw166_1),((HB.out.cell (bwL w _ hw167_0)).trans hw167_0),((HB.out.cell (bwL w _ hw167_1)).trans hw167_1)⟩ (fun hHeld => ?_)
   clear hK K
   refine norm_ (a' := ?_) ?_ ?_
   rotate_left
   ·show Act.put _ (some 25) _ = _
    simp only [Act.put,sq_,i64_w,i32_w]
    rfl
   refine pQ 9 26 (bl_ 1023 10) HT_ rfl ?_
   refine done_ (done_of HT_.out (by kernel_rfl)) ?_
   try go_wp2
   go_roundg k1
   case measure => have := HK1.out;omega
   case rel => exact ⟨(wrap64 (x5_1 + 1)),zT_,H',⟨by have := HK1.out;omega⟩,⟨zb0 HB.out⟩⟩
/-! ### laws_FnExactShowOps: function 3 -/
def laws_FnExactShowOps.f (k : Nat) (l0 : List (S34)) : Option (Bool) := (laws_szOpS.f l0 1048576).bind fun t169 => (if t169 < 0 then (some true) else ((laws_toOpS.f k l0).bind fun t170 => ((spec_ShowOps.f k t170).bind fun t173 => ((laws_toOpS.f k l0).bind fun t174 => ((impl_ShowOps.f k t174).bind fun t177 => (if t177.toList = t173.toList then ((laws_toOpS.f k l0).bind fun t178 => ((laws_eqOpS.f k t174 t178).bind fun t181 => (if t181 = true then (some true) else (some false)))) else (some false)))))))
set_option maxHeartbeats 8000000 in
set_option maxRecDepth 100000 in
theorem laws_FnExactShowOps.calls (k : Nat) (A0 : Option Addr) (c0 : Nat) (l0 : List (S34)) (r : Bool) (w : World) (htab : Go.Lib.TabIs Tryd.prog w "internal/strconv.uint64pow10" .u64 Go.Lib.pow10Tab) (hr0 : Kd.C k34 w A0 l0.length l0) (hc0 : l0.length ≤ c0) (h : laws_FnExactShowOps.f k l0 = some r) :
  Calls Tryd.prog 3 #[.slice A0 l0.length c0] w fun e w' => e = .returned (.bool r) ∧ Below w.heap.size w w' := by
 have HR0 := As_ hr0
 have HC0 := As_ hc0
 clear hr0 hc0
 have HB := As_ (Below.refl w.heap.size w)
 have HT := As_ (Go.Lib.tabBelow_of_tabIs htab)
 clear htab
 have H : ((laws_szOpS.f l0 1048576).bind fun t169 => (if t169 < 0 then (some true) else ((laws_toOpS.f k l0).bind fun t170 => ((spec_ShowOps.f k t170).bind fun t173 => ((laws_toOpS.f k l0).bind fun t174 => ((impl_ShowOps.f k t174).bind fun t177 => (if t177.toList = t173.toList then ((laws_toOpS.f k l0).bind fun t178 => ((laws_eqOpS.f k t174 t178).bind fun t181 => (if t181 = true then (some true) else (some false)))) else (some false)))))))) = some r := h
 clear h
 replace H := obS H
 obtain ⟨t169,A20,H⟩ := H
 replace H : (if t169 < 0 then (some true) else ((laws_toOpS.f k l0).bind fun t170 => ((spec_ShowOps.f k t170).bind fun t173 => ((laws_toOpS.f k l0).bind fun t174 => ((impl_ShowOps.f k t174).bind fun t177 => (if t177.toList = t173.toList then ((laws_toOpS.f k l0).bind fun t178 => ((laws_eqOpS.f k t174 t178).bind fun t181 => (if t181 = true then (some true) else (some false)))) else (some false))))))) = some r := H
 have A2 := As_ A20
 clear A20
 by_cases c3 : t169 < 0
 ·rw [if_pos c3] at H
  have c3b0 : decide (t169 < 0) = true := deT c3
  clear c3
  obtain rfl := Option.some.inj H
  go_enter Tryd.func3,Tryd.ntmps3
  go_wp2_with (first|((with_reducible refine gate_callee (f := 4) rfl ?_);refine goesL_ (some 9) rfl rfl Tryd.func4 (by kernel_rfl) rfl #[.slice A0 l0.length c0,.int .i64 1048576] rfl zM_ ?_;(with_reducible refine (laws_szOpS.calls _ _ l0 1048576 t169 _ ?side1 ?side2 A2.out).mono ?_);(case side1 => repeat (first|exact HR0.out|(with_reducible refine Kd.C_alloc ?_ _)|(with_reducible refine Kd.C_drewN ?_ _)|(with_reducible refine Kd.C_drew ?_)));(case side2 => exact HC0.out);rintro e w' ⟨rfl,⟨nd,rfl⟩⟩;refine ⟨_,rfl,?_⟩))
  go_ret
  exact ⟨zE_,zb0 HB.out⟩
 rw [if_neg c3] at H
 have c3b0 : decide (t169 < 0) = false := deF c3
 clear c3
 replace H := obS H
 obtain ⟨t170,A40,H⟩ := H
 replace H : ((spec_ShowOps.f k t170).bind fun t173 => ((laws_toOpS.f k l0).bind fun t174 => ((impl_ShowOps.f k t174).bind fun t177 => (if t177.toList = t173.toList then ((laws_toOpS.f k l0).bind fun t178 => ((laws_eqOpS.f k t174 t178).bind fun t181 => (if t181 = true then (some true) else (some false)))) else (some false))))) = some r := H
 have A4 := As_ A40
 clear A40
 replace H := obS H
 obtain ⟨t173,A50,H⟩ := H
 replace H : ((laws_toOpS.f k l0).bind fun t174 => ((impl_ShowOps.f k t174).bind fun t177 => (if t177.toList = t173.toList then ((laws_toOpS.f k l0).bind fun t178 => ((laws_eqOpS.f k t174 t178).bind fun t181 => (if t181 = true then (some true) else (some false)))) else (some false)))) = some r := H
 have A5 := As_ A50
 clear A50
 replace H := obS H
 obtain ⟨t174,A60,H⟩ := H
 replace H : ((impl_ShowOps.f k t174).bind fun t177 => (if t177.toList = t173.toList then ((laws_toOpS.f k l0).bind fun t178 => ((laws_eqOpS.f k t174 t178).bind fun t181 => (if t181 = true then (some true) else (some false)))) else (some false))) = some r := H
 have A6 := As_ A60
 clear A60
 replace H := obS H
 obtain ⟨t177,A70,H⟩ := H
 replace H : (if t177.toList = t173.toList then ((laws_toOpS.f k l0).bind fun t178 => ((laws_eqOpS.f k t174 t178).bind fun t181 => (if t181 = true then (some true) else (some false)))) else (some false)) = some r := H
 have A7 := As_ A70
 clear A70
 by_cases c8 : t177.toList = t173.toList
 rotate_left
 ·rw [if_neg c8] at H
  have c8b0 : (t177.toList == t173.toList) = false := beq_eq_false_iff_ne.mpr c8
  have c8b1 : (t177.toList != t173.toList) = true := bne_iff_ne.mpr c8
  obtain rfl := Option.some.inj H
  go_enter Tryd.func3,Tryd.ntmps3
  go_wp2_with (first|((with_reducible refine gate_callee (f := 4) rfl ?_);refine goesL_ (some 9) rfl rfl Tryd.func4 (by kernel_rfl) rfl #[.slice A0 l0.length c0,.int .i64 1048576] rfl zM_ ?_;(with_reducible refine (laws_szOpS.calls _ _ l0 1048576 t169 _ ?side1 ?side2 A2.out).mono ?_);(case side1 => repeat (first|exact HR0.out|(with_reducible refine Kd.C_alloc ?_ _)|(with_reducible refine Kd.C_drewN ?_ _)|(with_reducible refine Kd.C_drew ?_)));(case side2 => exact HC0.out);rintro e w' ⟨rfl,⟨nd,rfl⟩⟩;refine ⟨_,rfl,?_⟩)|((with_reducible refine gate_callee (f := 6) rfl ?_);refine goesL_ (some 13) rfl rfl Tryd.func6 (by kernel_rfl) rfl #[.slice A0 l0.length c0] rfl zM_ ?_;(with_reducible refine (laws_toOpS.calls k _ _ l0 t170 _ ?side1 ?side2 A4.out).mono ?_);(case side1 => repeat (first|exact HR0.out|(with_reducible refine Kd.C_alloc ?_ _)|(with_reducible refine Kd.C_drewN ?_ _)|(with_reducible refine Kd.C_drew ?_)));(case side2 => exact HC0.out);rintro e w30 ⟨v171,rfl,ho0,hb⟩;refine ⟨_,rfl,?_⟩;have n0_ := As_ (Kd.R_lower ho0 (bwZ (zb0 HB.out)));have n1_ := As_ (bwT (zb0 HB.out) hb);clear HB;revert n0_ n1_;intro HO172 HB;obtain ⟨Ao31,co31,eo31⟩ := Kd.R_slice HO172.out;subst eo31)|((with_reducible refine gate_callee (f := 5) rfl ?_);refine goesL_ (some 14) rfl rfl Tryd.func5 (by kernel_rfl) rfl #[.slice Ao31 t170.length co31] rfl zM_ ?_;(with_reducible refine (spec_ShowOps.calls k _ _ t170 t173 _ ?side1 ?side2 A5.out).mono ?_);(case side1 => exact zC_ (Kd.R_reads' HO172.out).2.2);(case side2 => exact (Kd.R_reads' HO172.out).2.1);rintro e w32 ⟨rfl,hb⟩;refine ⟨_,rfl,?_⟩;have n0_ := As_ (Kd.R_below (zR_ HO172.out) hb);have n1_ := As_ (bwT (zb0 HB.out) hb);clear HO172 HB;revert n0_ n1_;intro HO172 HB)|((with_reducible refine gate_callee (f := 6) rfl ?_);refine goesL_ (some 16) rfl rfl Tryd.func6 (by kernel_rfl) rfl #[.slice A0 l0.length c0] rfl zM_ ?_;(with_reducible refine (laws_toOpS.calls k _ _ l0 t174 _ ?side1 ?side2 A6.out).mono ?_);(case side1 => exact zC_ (Kd.C_below HR0.out HB.out));(case side2 => exact HC0.out);rintro e w33 ⟨v175,rfl,ho0,hb⟩;refine ⟨_,rfl,?_⟩;have n0_ := As_ (Kd.R_elder' (zR_ HO172.out) (Kd.R_base ho0) hb);have n1_ := As_ (Kd.R_lower (Kd.R_new' ho0 (Kd.R_lt (zR_ HO172.out))) (bwZ (zb0 HB.out)));have n2_ := As_ (bwT (zb0 HB.out) hb);clear HO172 HB;revert n0_ n1_ n2_;intro HO172 HO176 HB;obtain ⟨Ao34,co34,eo34⟩ := Kd.R_slice HO176.out;subst eo34)|((with_reducible refine gate_callee (f := 7) rfl ?_);refine goesL_ (some 18) rfl rfl Tryd.func7 (by kernel_rfl) rfl #[.slice Ao34 t174.length co34] rfl zM_ ?_;(with_reducible refine (impl_ShowOps.calls k _ _ t174 t177 _ ?sidet ?side1 ?side2 A7.out).mono ?_);(case sidet => exact (HT.out.on (zb0 HB.out)).here);(case side1 => exact zC_ (Kd.R_reads' HO176.out).2.2);(case side2 => exact (Kd.R_reads' HO176.out).2.1);rintro e w35 ⟨rfl,hb⟩;refine ⟨_,rfl,?_⟩;have n0_ := As_ (Kd.R_below (zR_ HO172.out) hb);have n1_ := As_ (Kd.R_below (zR_ HO176.out) hb);have n2_ := As_ (bwT (zb0 HB.out) hb);clear HO172 HO176 HB;revert n0_ n1_ n2_;intro HO172 HO176 HB))
  go_ret
  exact ⟨zE_,zb0 HB.out⟩

 rw [if_pos c8] at H
 have c8b0 : (t177.toList == t173.toList) = true := beq_iff_eq.mpr c8
 have c8b1 : (t177.toList != t173.toList) = false := bne_eq_false_iff_eq.mpr c8
 clear c8
 replace H := obS H
 obtain ⟨t178,A90,H⟩ := H
 replace H : ((laws_eqOpS.f k t174 t178).bind fun t181 => (if t181 = true then (some true) else (some false))) = some r := H
 have A9 := As_ A90
 clear A90
 replace H := obS H
 obtain ⟨t181,A100,H⟩ := H
 replace H : (if t181 = true then (some true) else (some false)) = some r := H
 have A10 := As_ A100
 clear A100
 by_cases c11 : t181 = true
 ·subst c11
  have H1 : (some true) = some r := by rw [if_pos rfl] at H;exact H
  clear H
  have H := H1
  clear H1
  obtain rfl := Option.some.inj H
  go_enter Tryd.func3,Tryd.ntmps3
  go_wp2_with (first|((with_reducible refine gate_callee (f := 4) rfl ?_);refine goesL_ (some 9) rfl rfl Tryd.func4 (by kernel_rfl) rfl #[.slice A0 l0.length c0,.int .i64 1048576] rfl zM_ ?_;(with_reducible refine (laws_szOpS.calls _ _ l0 1048576 t169 _ ?side1 ?side2 A2.out).mono ?_);(case side1 => repeat (first|exact HR0.out|(with_reducible refine Kd.C_alloc ?_ _)|(with_reducible refine Kd.C_drewN ?_ _)|(with_reducible refine Kd.C_drew ?_)));(case side2 => exact HC0.out);rintro e w' ⟨rfl,⟨nd,rfl⟩⟩;refine ⟨_,rfl,?_⟩)|((with_reducible refine gate_callee (f := 6) rfl ?_);refine goesL_ (some 13) rfl rfl Tryd.func6 (by kernel_rfl) rfl #[.slice A0 l0.length c0] rfl zM_ ?_;(with_reducible refine (laws_toOpS.calls k _ _ l0 t170 _ ?side1 ?side2 A4.out).mono ?_);(case side1 => repeat (first|exact HR0.out|(with_reducible refine Kd.C_alloc ?_ _)|(with_reducible refine Kd.C_drewN ?_ _)|(with_reducible refine Kd.C_drew ?_)));(case side2 => exact HC0.out);rintro e w12 ⟨v171,rfl,ho0,hb⟩;refine ⟨_,rfl,?_⟩;have n0_ := As_ (Kd.R_lower ho0 (bwZ (zb0 HB.out)));have n1_ := As_ (bwT (zb0 HB.out) hb);clear HB;revert n0_ n1_;intro HO172 HB;obtain ⟨Ao13,co13,eo13⟩ := Kd.R_slice HO172.out;subst eo13)|((with_reducible refine gate_callee (f := 5) rfl ?_);refine goesL_ (some 14) rfl rfl Tryd.func5 (by kernel_rfl) rfl #[.slice Ao13 t170.length co13] rfl zM_ ?_;(with_reducible refine (spec_ShowOps.calls k _ _ t170 t173 _ ?side1 ?side2 A5.out).mono ?_);(case side1 => exact zC_ (Kd.R_reads' HO172.out).2.2);(case side2 => exact (Kd.R_reads' HO172.out).2.1);rintro e w14 ⟨rfl,hb⟩;refine ⟨_,rfl,?_⟩;have n0_ := As_ (Kd.R_below (zR_ HO172.out) hb);have n1_ := As_ (bwT (zb0 HB.out) hb);clear HO172 HB;revert n0_ n1_;intro HO172 HB)|((with_reducible refine gate_callee (f := 6) rfl ?_);refine goesL_ (some 16) rfl rfl Tryd.func6 (by kernel_rfl) rfl #[.slice A0 l0.length c0] rfl zM_ ?_;(with_reducible refine (laws_toOpS.calls k _ _ l0 t174 _ ?side1 ?side2 A6.out).mono ?_);(case side1 => exact zC_ (Kd.C_below HR0.out HB.out));(case side2 => exact HC0.out);rintro e w15 ⟨v175,rfl,ho0,hb⟩;refine ⟨_,rfl,?_⟩;have n0_ := As_ (Kd.R_elder' (zR_ HO172.out) (Kd.R_base ho0) hb);have n1_ := As_ (Kd.R_lower (Kd.R_new' ho0 (Kd.R_lt (zR_ HO172.out))) (bwZ (zb0 HB.out)));have n2_ := As_ (bwT (zb0 HB.out) hb);clear HO172 HB;revert n0_ n1_ n2_;intro HO172 HO176 HB;obtain ⟨Ao16,co16,eo16⟩ := Kd.R_slice HO176.out;subst eo16)|((with_reducible refine gate_callee (f := 7) rfl ?_);refine goesL_ (some 18) rfl rfl Tryd.func7 (by kernel_rfl) rfl #[.slice Ao16 t174.length co16] rfl zM_ ?_;(with_reducible refine (impl_ShowOps.calls k _ _ t174 t177 _ ?sidet ?side1 ?side2 A7.out).mono ?_);(case sidet => exact (HT.out.on (zb0 HB.out)).here);(case side1 => exact zC_ (Kd.R_reads' HO176.out).2.2);(case side2 => exact (Kd.R_reads' HO176.out).2.1);rintro e w17 ⟨rfl,hb⟩;refine ⟨_,rfl,?_⟩;have n0_ := As_ (Kd.R_below (zR_ HO172.out) hb);have n1_ := As_ (Kd.R_below (zR_ HO176.out) hb);have n2_ := As_ (bwT (zb0 HB.out) hb);clear HO172 HO176 HB;revert n0_ n1_ n2_;intro HO172 HO176 HB)|((with_reducible refine gate_callee (f := 6) rfl ?_);refine goesL_ (some 24) rfl rfl Tryd.func6 (by kernel_rfl) rfl #[.slice A0 l0.length c0] rfl zM_ ?_;(with_reducible refine (laws_toOpS.calls k _ _ l0 t178 _ ?side1 ?side2 A9.out).mono ?_);(case side1 => exact zC_ (Kd.C_below HR0.out HB.out));(case side2 => exact HC0.out);rintro e w18 ⟨v179,rfl,ho0,hb⟩;refine ⟨_,rfl,?_⟩;have n0_ := As_ (Kd.R_elder' (zR_ HO172.out) (Kd.R_base ho0) hb);have n1_ := As_ (Kd.R_elder' (zR_ HO176.out) (Kd.R_base ho0) hb);have n2_ := As_ (Kd.R_lower (Kd.R_new' (Kd.R_new' ho0 (Kd.R_lt (zR_ HO172.out))) (Kd.R_lt (zR_ HO176.out))) (bwZ (zb0 HB.out)));have n3_ := As_ (bwT (zb0 HB.out) hb);clear HO172 HO176 HB;revert n0_ n1_ n2_ n3_;intro HO172 HO176 HO180 HB;obtain ⟨Ao19,co19,eo19⟩ := Kd.R_slice HO180.out;subst eo19)|((with_reducible refine gate_callee (f := 8) rfl ?_);refine goesL_ (some 25) rfl rfl Tryd.func8 (by kernel_rfl) rfl #[.slice Ao16 t174.length co16,.slice Ao19 t178.length co19] rfl zM_ ?_;(with_reducible refine (laws_eqOpS.calls k _ _ t174 _ _ t178 true _ ?side1 ?side2 ?side3 ?side4 A10.out).mono ?_);(case side1 => exact zC_ (Kd.R_reads' HO176.out).2.2);(case side2 => exact (Kd.R_reads' HO176.out).2.1);(case side3 => exact zC_ (Kd.R_reads' HO180.out).2.2);(case side4 => exact (Kd.R_reads' HO180.out).2.1);rintro e w20 ⟨rfl,hb⟩;refine ⟨_,rfl,?_⟩;have n0_ := As_ (Kd.R_below (zR_ HO172.out) hb);have n1_ := As_ (Kd.R_below (zR_ HO176.out) hb);have n2_ := As_ (Kd.R_below (zR_ HO180.out) hb);have n3_ := As_ (bwT (zb0 HB.out) hb);clear HO172 HO176 HO180 HB;revert n0_ n1_ n2_ n3_;intro HO172 HO176 HO180 HB))
  go_ret
  exact ⟨zE_,zb0 HB.out⟩
 replace c11 := Bool.eq_false_iff.mpr c11
 subst c11
 have H1 : (some false) = some r := by rw [if_neg (show ¬ (false = true) by decide)] at H;exact H
 clear H
 have H := H1
 clear H1
 obtain rfl := Option.some.inj H
 go_enter Tryd.func3,Tryd.ntmps3
 go_wp2_with (first|((with_reducible refine gate_callee (f := 4) rfl ?_);refine goesL_ (some 9) rfl rfl Tryd.func4 (by kernel_rfl) rfl #[.slice A0 l0.length c0,.int .i64 1048576] rfl zM_ ?_;(with_reducible refine (laws_szOpS.calls _ _ l0 1048576 t169 _ ?side1 ?side2 A2.out).mono ?_);(case side1 => repeat (first|exact HR0.out|(with_reducible refine Kd.C_alloc ?_ _)|(with_reducible refine Kd.C_drewN ?_ _)|(with_reducible refine Kd.C_drew ?_)));(case side2 => exact HC0.out);rintro e w' ⟨rfl,⟨nd,rfl⟩⟩;refine ⟨_,rfl,?_⟩)|((with_reducible refine gate_callee (f := 6) rfl ?_);refine goesL_ (some 13) rfl rfl Tryd.func6 (by kernel_rfl) rfl #[.slice A0 l0.length c0] rfl zM_ ?_;(with_reducible refine (laws_toOpS.calls k _ _ l0 t170 _ ?side1 ?side2 A4.out).mono ?_);(case side1 => repeat (first|exact HR0.out|(with_reducible refine Kd.C_alloc ?_ _)|(with_reducible refine Kd.C_drewN ?_ _)|(with_reducible refine Kd.C_drew ?_)));(case side2 => exact HC0.out);rintro e w21 ⟨v171,rfl,ho0,hb⟩;refine ⟨_,rfl,?_⟩;have n0_ := As_ (Kd.R_lower ho0 (bwZ (zb0 HB.out)));have n1_ := As_ (bwT (zb0 HB.out) hb);clear HB;revert n0_ n1_;intro HO172 HB;obtain ⟨Ao22,co22,eo22⟩ := Kd.R_slice HO172.out;subst eo22)|((with_reducible refine gate_callee (f := 5) rfl ?_);refine goesL_ (some 14) rfl rfl Tryd.func5 (by kernel_rfl) rfl #[.slice Ao22 t170.length co22] rfl zM_ ?_;(with_reducible refine (spec_ShowOps.calls k _ _ t170 t173 _ ?side1 ?side2 A5.out).mono ?_);(case side1 => exact zC_ (Kd.R_reads' HO172.out).2.2);(case side2 => exact (Kd.R_reads' HO172.out).2.1);rintro e w23 ⟨rfl,hb⟩;refine ⟨_,rfl,?_⟩;have n0_ := As_ (Kd.R_below (zR_ HO172.out) hb);have n1_ := As_ (bwT (zb0 HB.out) hb);clear HO172 HB;revert n0_ n1_;intro HO172 HB)|((with_reducible refine gate_callee (f := 6) rfl ?_);refine goesL_ (some 16) rfl rfl Tryd.func6 (by kernel_rfl) rfl #[.slice A0 l0.length c0] rfl zM_ ?_;(with_reducible refine (laws_toOpS.calls k _ _ l0 t174 _ ?side1 ?side2 A6.out).mono ?_);(case side1 => exact zC_ (Kd.C_below HR0.out HB.out));(case side2 => exact HC0.out);rintro e w24 ⟨v175,rfl,ho0,hb⟩;refine ⟨_,rfl,?_⟩;have n0_ := As_ (Kd.R_elder' (zR_ HO172.out) (Kd.R_base ho0) hb);have n1_ := As_ (Kd.R_lower (Kd.R_new' ho0 (Kd.R_lt (zR_ HO172.out))) (bwZ (zb0 HB.out)));have n2_ := As_ (bwT (zb0 HB.out) hb);clear HO172 HB;revert n0_ n1_ n2_;intro HO172 HO176 HB;obtain ⟨Ao25,co25,eo25⟩ := Kd.R_slice HO176.out;subst eo25)|((with_reducible refine gate_callee (f := 7) rfl ?_);refine goesL_ (some 18) rfl rfl Tryd.func7 (by kernel_rfl) rfl #[.slice Ao25 t174.length co25] rfl zM_ ?_;(with_reducible refine (impl_ShowOps.calls k _ _ t174 t177 _ ?sidet ?side1 ?side2 A7.out).mono ?_);(case sidet => exact (HT.out.on (zb0 HB.out)).here);(case side1 => exact zC_ (Kd.R_reads' HO176.out).2.2);(case side2 => exact (Kd.R_reads' HO176.out).2.1);rintro e w26 ⟨rfl,hb⟩;refine ⟨_,rfl,?_⟩;have n0_ := As_ (Kd.R_below (zR_ HO172.out) hb);have n1_ := As_ (Kd.R_below (zR_ HO176.out) hb);have n2_ := As_ (bwT (zb0 HB.out) hb);clear HO172 HO176 HB;revert n0_ n1_ n2_;intro HO172 HO176 HB)|((with_reducible refine gate_callee (f := 6) rfl ?_);refine goesL_ (some 24) rfl rfl Tryd.func6 (by kernel_rfl) rfl #[.slice A0 l0.length c0] rfl zM_ ?_;(with_reducible refine (laws_toOpS.calls k _ _ l0 t178 _ ?side1 ?side2 A9.out).mono ?_);(case side1 => exact zC_ (Kd.C_below HR0.out HB.out));(case side2 => exact HC0.out);rintro e w27 ⟨v179,rfl,ho0,hb⟩;refine ⟨_,rfl,?_⟩;have n0_ := As_ (Kd.R_elder' (zR_ HO172.out) (Kd.R_base ho0) hb);have n1_ := As_ (Kd.R_elder' (zR_ HO176.out) (Kd.R_base ho0) hb);have n2_ := As_ (Kd.R_lower (Kd.R_new' (Kd.R_new' ho0 (Kd.R_lt (zR_ HO172.out))) (Kd.R_lt (zR_ HO176.out))) (bwZ (zb0 HB.out)));have n3_ := As_ (bwT (zb0 HB.out) hb);clear HO172 HO176 HB;revert n0_ n1_ n2_ n3_;intro HO172 HO176 HO180 HB;obtain ⟨Ao28,co28,eo28⟩ := Kd.R_slice HO180.out;subst eo28)|((with_reducible refine gate_callee (f := 8) rfl ?_);refine goesL_ (some 25) rfl rfl Tryd.func8 (by kernel_rfl) rfl #[.slice Ao25 t174.length co25,.slice Ao28 t178.length co28] rfl zM_ ?_;(with_reducible refine (laws_eqOpS.calls k _ _ t174 _ _ t178 false _ ?side1 ?side2 ?side3 ?side4 A10.out).mono ?_);(case side1 => exact zC_ (Kd.R_reads' HO176.out).2.2);(case side2 => exact (Kd.R_reads' HO176.out).2.1);(case side3 => exact zC_ (Kd.R_reads' HO180.out).2.2);(case side4 => exact (Kd.R_reads' HO180.out).2.1);rintro e w29 ⟨rfl,hb⟩;refine ⟨_,rfl,?_⟩;have n0_ := As_ (Kd.R_below (zR_ HO172.out) hb);have n1_ := As_ (Kd.R_below (zR_ HO176.out) hb);have n2_ := As_ (Kd.R_below (zR_ HO180.out) hb);have n3_ := As_ (bwT (zb0 HB.out) hb);clear HO172 HO176 HO180 HB;revert n0_ n1_ n2_ n3_;intro HO172 HO176 HO180 HB))
 go_ret
 exact ⟨zE_,zb0 HB.out⟩
/-- THE ONE PURE STATEMENT of laws_FnExactShowOps. -/
def laws_FnExactShowOps.Pure : Prop := ∀ (l0 : List (S34)),(l0.length ≤ maxLen ∧ (∀ x_ ∈ l0,(Lit.int .i64 x_.f0).wf = true ∧ (Lit.int .i64 x_.f1).wf = true)) → ∃ k,laws_FnExactShowOps.f k l0 = some true
theorem laws_FnExactShowOps.walk (P : laws_FnExactShowOps.Pure) (A0 : Option Addr) (c0 : Nat) (l0 : List (S34)) (w : World) (htab : Go.Lib.TabIs Tryd.prog w "internal/strconv.uint64pow10" .u64 Go.Lib.pow10Tab) (hr0 : Kd.C k34 w A0 l0.length l0) (hc0 : l0.length ≤ c0) (hg0 : l0.length ≤ maxLen ∧ (∀ x_ ∈ l0,(Lit.int .i64 x_.f0).wf = true ∧ (Lit.int .i64 x_.f1).wf = true)) :
  Calls Tryd.prog 3 #[.slice A0 l0.length c0] w fun e w' => e = .returned (.bool true) ∧ Below w.heap.size w w' := by
 obtain ⟨k,h⟩ := P l0 hg0
 refine (laws_FnExactShowOps.calls k _ _ l0 true w htab hr0 hc0 h).mono ?_
 rintro e w' ⟨rfl,hd⟩
 exact ⟨rfl,hd⟩

end Go.Proofs.YtbokjhdhpmmpfaaDoor.Q
