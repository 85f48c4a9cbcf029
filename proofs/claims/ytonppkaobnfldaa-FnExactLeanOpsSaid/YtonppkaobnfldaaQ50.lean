-- Written by wip/tools/qprint.py (a program of this claim's author) by means of the kit's printer.
import Derived.Test.YtonppkaobnfldaaQ0
import Derived.Test.YtonppkaobnfldaaQ15
import Derived.Test.YtonppkaobnfldaaQ49
import Derived.Test.YtonppkaobnfldaaQ64
import Derived.Laws.EntriesVeiled
import Derived.Test.YtonppkaobnfldaaHtab
namespace Go.Proofs.Ytonppkaobnfldaa.Q
open Go.RowKit Go.Proofs.YtonppkaobnfldaaW.PrintWords Go.Proofs.YtonppkaobnfldaaW.PrintLast Go.Proofs.YtonppkaobnfldaaW.PrintMore
attribute [local go_sem] max2_int min2_int max_two min_two max_three min_three max_four min_four   -- for this text's walks alone
set_option linter.unusedVariables false
set_option linter.unusedSimpArgs false

/-! ### impl_LeanOps: function 50 -/
def impl_LeanOps.l0 : Nat → List Int → List S49 → List S49 → Int → List Bool → List (Int × Int) → Option (List S49)
 | 0,_,_,_,_,_,_ => none
 | k + 1,q,x6,l0,x,P,T => if x < (l0.length : Int) then (if 0 ≤ x then (if ((rd_T49 l0 x).f0) = 15 then (if 0 ≤ ((rd_T49 l0 x).f1) then (if ((rd_T49 l0 x).f1) < 20 then ((slices_Contains_int_int.f k q x).bind fun t => (if t = true then (impl_LeanOps.l0 k q x6 l0 (wrap64 (x + 1)) (P.set (((rd_T49 l0 x).f1)).toNat true) T) else (if (T.lookup ((rd_T49 l0 x).f1)).isSome = true then (if x6.length < 8796093022208 then (impl_LeanOps.l0 k q (x6 ++ [(⟨((rd_T49 l0 x).f0),(T.lookup ((rd_T49 l0 x).f1)).getD 0⟩ : S49)]) l0 (wrap64 (x + 1)) (P.set (((rd_T49 l0 x).f1)).toNat true) T) else none) else (if T.length < 17592186044000 then (if x6.length < 8796093022208 then (impl_LeanOps.l0 k q (x6 ++ [(⟨((rd_T49 l0 x).f0),(T.length : Int)⟩ : S49)]) l0 (wrap64 (x + 1)) (P.set (((rd_T49 l0 x).f1)).toNat true) (T ++ [(((rd_T49 l0 x).f1),(T.length : Int))])) else none) else none)))) else none) else none) else (if ((rd_T49 l0 x).f0) = 16 then (if 0 ≤ ((rd_T49 l0 x).f1) then (if ((rd_T49 l0 x).f1) < 20 then (if P.getD (((rd_T49 l0 x).f1)).toNat false = true then (if x6.length < 8796093022208 then (impl_LeanOps.l0 k q (x6 ++ [(⟨((rd_T49 l0 x).f0),(T.lookup ((rd_T49 l0 x).f1)).getD 0⟩ : S49)]) l0 (wrap64 (x + 1)) P T) else none) else (some [])) else none) else none) else (if x6.length < 8796093022208 then (impl_LeanOps.l0 k q (x6 ++ [(⟨((rd_T49 l0 x).f0),((rd_T49 l0 x).f1)⟩ : S49)]) l0 (wrap64 (x + 1)) P T) else none))) else none) else (some x6)
def impl_LeanOps.f (k : Nat) (l0 : List (S49)) : Option ((List (S49))) := (impl_ValidOps.f k l0).bind fun t => (if t = true then ((impl_idlePuts.f k l0).bind fun u => (impl_LeanOps.l0 k u [] l0 0 (List.replicate 20 false) [])) else (some []))
set_option maxRecDepth 100000 in
theorem impl_LeanOps.mono_l : ∀ k,(∀ y0 y1 y2 y3 y4 y5,LeO (impl_LeanOps.l0 k y0 y1 y2 y3 y4 y5) (impl_LeanOps.l0 (k + 1) y0 y1 y2 y3 y4 y5))
 | 0 => fun _ _ _ _ _ _ r h => (by simp [impl_LeanOps.l0] at h)
 | k + 1 => by
  have ih0 := impl_LeanOps.mono_l k
  intro y0 y1 y2 y3 y4 y5
  unfold impl_LeanOps.l0
  repeat' with_reducible first
  | exact ih0 _ _ _ _ _ _
  | exact slices_Contains_int_int.mono _ _ _
  | exact LeO.refl _
  | exact LeO.none _
  | refine LeO.ite ?_ ?_
  | refine LeO.bind ?_ (fun _ => ?_)
theorem impl_LeanOps.mono : ∀ a0 k,LeO (impl_LeanOps.f k a0) (impl_LeanOps.f (k + 1) a0) := by
 intro a0 k
 have ih0 := impl_LeanOps.mono_l k
 unfold impl_LeanOps.f
 repeat' with_reducible first
 | exact ih0 _ _ _ _ _ _
 | exact impl_ValidOps.mono _ _
 | exact impl_idlePuts.mono _ _
 | exact LeO.refl _
 | exact LeO.none _
 | refine LeO.ite ?_ ?_
 | refine LeO.bind ?_ (fun _ => ?_)
theorem impl_LeanOps.zero_int (w : World) : (zeroValue 3).run Try.prog w = .ok (.int .i64 0) w := by kernel_rfl
theorem impl_LeanOps.wf_of {x : Int} {n : Nat} (h0 : 0 ≤ x) (h1 : x < (n : Int)) (hn : n ≤ 9223372036854775807) : (Lit.int .i64 x).wf = true := by
 simp [Lit.wf,IntKind.min,IntKind.max,IntKind.bits,IntKind.signed]
 omega
theorem impl_LeanOps.wf_len {n : Nat} (hn : n < 9223372036854775807) : (Lit.int .i64 (n : Int)).wf = true := by
 simp [Lit.wf,IntKind.min,IntKind.max,IntKind.bits,IntKind.signed]
 omega
/-- The array's cells. -/
def impl_LeanOps.bc (P : List Bool) : Array Value := (P.map Value.bool).toArray
theorem impl_LeanOps.bc_set (P : List Bool) (i : Nat) : (impl_LeanOps.bc P).setIfInBounds i (.bool true) = impl_LeanOps.bc (P.set i true) := by
 simp [impl_LeanOps.bc,List.map_set]
theorem impl_LeanOps.bc_at {w : World} {g : Nat} {t : TypeId} {P : List Bool} (h : w.heap[g]? = some (.cells (impl_LeanOps.bc P) t (0,0))) {i : Nat} (hi : i < P.length) : w.cell? ⟨g,i,none⟩ = some (.bool (P.getD i false)) := by
 rw [bkC h i]
 simp [impl_LeanOps.bc,List.getD_eq_getElem?_getD,List.getElem?_eq_getElem hi]
/-- What is stored lies there already: the world is as it was. -/
theorem impl_LeanOps.row_same {w : World} {g : Nat} {cs : Array Value} {t : TypeId} {fr : Nat × Nat} (hg : w.heap[g]? = some (.cells cs t fr)) : w.setRow g cs = w := by
 obtain ⟨hl,hv⟩ := Array.getElem?_eq_some_iff.1 hg
 obtain ⟨hp,b,c,d,e⟩ := w
 unfold World.setRow
 congr 1
 refine Array.ext (by simp) (fun i h1 h2 => ?_)
 rw [Array.getElem_modify]
 split
 ·rename_i hh
  subst hh
  change hp[g] = _ at hv
  simp only [hv]
 ·rfl
theorem impl_LeanOps.sz62 : (Try.prog.info? 62).map (·.size) = some 20 := by kernel_rfl
theorem impl_LeanOps.wp_same {P : Program} {ops : Array Oper} {rest : List Oper} {o : Oper} {a : Act} {w : World} {Q : Exit → Act → World → Prop} (hgd : o.guard = none) (ty : TypeId) (x y : Operand) (ho : o.op = .store ty x y) (hn : o.dst = none)
  (g : Nat) (cells : Array Value) (hx : a.eval x = .pointer (some ⟨g,0,none⟩)) (hy : a.eval y = .agg cells) (t : TypeId) (hg : w.heap[g]? = some (.cells cells t (0,0))) (hi : (P.info? ty).map (·.size) = some cells.size)
  (h1 : cells.all (·.oneCell') = true) (h : wpList P ops Q rest a w) : wpList P ops Q (o :: rest) a w := by
 refine wpList_store_row hgd ty x y ho g cells hx hy t cells hg hi rfl h1 ?_
 rw [impl_LeanOps.row_same hg,hn]
 exact h
theorem impl_LeanOps.bc_one (P : List Bool) : (impl_LeanOps.bc P).all (·.oneCell') = true := by
 refine Array.all_eq_true_iff_forall_mem.2 (fun v hv => ?_)
 obtain ⟨b,_,rfl⟩ := List.mem_map.1 (List.mem_toArray.1 hv)
 rfl
theorem impl_LeanOps.bc_size (P : List Bool) : (impl_LeanOps.bc P).size = P.length := by simp [impl_LeanOps.bc]
theorem impl_LeanOps.ofar {w : World} {g : Nat} {o : Obj} (h : w.heap[g]? = some o) {p : Addr} (hp : g ≠ p.block) (u : Value) : (w.setCell p u).heap[g]? = some o := (Below.heap_setCell w p u g hp).trans h
theorem impl_LeanOps.new_at (w : World) (o : Obj) : (w.alloc o).heap[w.heap.size]? = some o := show (w.heap.push o)[w.heap.size]? = some o from Array.getElem?_push_size
theorem impl_LeanOps.freshO {w : World} {g k : Nat} {o : Obj} (h : w.heap[g]? = some o) (hk : w.heap.size ≤ k) : k ≠ g := fun e => by have := blk_lt h;omega
def impl_LeanOps.TabO (b : Nat) (o : Obj) (T : List (Int × Int)) : Prop := ∀ w : World,w.heap[b]? = some o → TabIs Try.prog 3 3 w b iv iv T
theorem impl_LeanOps.TabO.of {w : World} {b : Nat} {o : Obj} {T : List (Int × Int)} (h : TabIs Try.prog 3 3 w b iv iv T) (ho : w.heap[b]? = some o) : impl_LeanOps.TabO b o T := fun w' h' => h.block (h'.trans ho.symm)
theorem impl_LeanOps.look_v (w : World) {P : Program} {ops : Array Oper} {rest : List Oper} {o : Oper} {a : Act} {Q : Exit → Act → World → Prop} (hg : o.guard = none) (m x : Operand) (t : TypeId) (hop : o.op = Op.lookup t m x false)
  (k e : TypeId) (K : Go.Maps.Keyed P k) (ht : P.underlying t = some (.map k e)) {z : Value} {zd : DataW Unit} (hz : (zeroValue e).run P w = .ok z w) (hzd : plainElem P e z = some (zd,[])) (b : Nat) (key val : Int → Value) (T : List (Int × Int))
  (hm : a.eval m = .map (some b)) (h : TabIs P k e w b key val T) (y : Int) (kl : Lit) (hx : a.eval x = key y) (hy : keyOf P k (key y) = some kl) (v : Value) (hv : tabAt T val z y = v)
  (hK : wpList P ops Q rest (a.put o.dst v) w) : wpList P ops Q (o :: rest) a w := by
 subst hv
 exact wpList_tab_lookup w hg m x t hop k e K ht hz hzd b key val T hm h y kl hx hy hK
theorem impl_LeanOps.run_index {P : Program} {t e : TypeId} {m : Nat} (hu : P.underlying t = some (.array m e)) {i : TypeInfo} (hi : P.info? e = some i) (hz : i.size = 1) (g : Nat) (n : Int) (h0 : 0 ≤ n) (h1 : n < (m : Int)) (w : World) :
  (Instr.indexAt t (.pointer (some ⟨g,0,none⟩)) (.int .i64 n)).run P w = .ok (.pointer (some ⟨g,n.toNat,none⟩)) w := by
 unfold Instr.indexAt
 simp [asIntOf,underlying,hu,Instr.sureAddr,sizeOf,typeInfo,hi,hz,h0,h1]
 by_cases hn : n ≤ 0
 rotate_left
 ·simp [Addr.add,hn]
 have : n = 0 := by omega
 subst this
 simp [Addr.add]
/-- A place in an array,by its address. -/
theorem impl_LeanOps.wp_index (w : World) {P : Program} {ops : Array Oper} {rest : List Oper} {o : Oper} {a : Act} {Q : Exit → Act → World → Prop} (hg : o.guard = none) (t : TypeId) (p x : Operand) (hop : o.op = Op.indexAddr t p x) {m : Nat} {e : TypeId} (hu : P.underlying t = some (.array m e)) {i : TypeInfo} (hi : P.info? e = some i) (hz : i.size = 1)
  (g : Nat) (n : Int) (hp : a.eval p = .pointer (some ⟨g,0,none⟩)) (hx : a.eval x = .int .i64 n) (h0 : 0 ≤ n) (h1 : n < (m : Int)) (hK : wpList P ops Q rest (a.put o.dst (.pointer (some ⟨g,n.toNat,none⟩))) w) : wpList P ops Q (o :: rest) a w := by
 refine wpList_plain hg fun K' hK' => ?_
 have hrun := impl_LeanOps.run_index hu hi hz g n h0 h1 w
 unfold Oper.wp
 simp [execOp,hop,hp,hx,hrun,Result.andThen]
 exact hK' _ _ hK
set_option maxHeartbeats 8000000 in
set_option maxRecDepth 100000 in
theorem impl_LeanOps.calls (k : Nat) (A0 : Option Addr) (c0 : Nat) (l0 : List (S49)) (r : List (S49)) (w : World) (hr0 : Kd.C k49 w A0 l0.length l0) (hc0 : l0.length ≤ c0) (h : impl_LeanOps.f k l0 = some r) :
  Calls Try.prog 50 #[.slice A0 l0.length c0] w fun e w' => ∃ v0_ : Value,e = .returned (v0_) ∧ Kd.R k49 49 w' w.heap.size (fun _ => True) v0_ r ∧ Below w.heap.size w w' := by
 have hu49 := Try.underlying49
 have hmm := @run_makeMap Try.prog
 have HR0 := As_ hr0
 have HC0 := As_ hc0
 clear hr0 hc0
 obtain ⟨i4,hi4,_,hz4,_⟩ := info_parts info4
 have HI4 := As_ hi4
 have HZ4 := As_ hz4
 clear hi4 hz4
 have HB := As_ (Below.refl w.heap.size w)
 unfold impl_LeanOps.f at h
 obtain ⟨t,A20,H⟩ := obS h
 clear h
 have A2 := As_ A20
 clear A20
 cases t with
 | false =>
  rw [if_neg (by decide)] at H
  obtain rfl := Option.some.inj H
  clear H
  go_enter Try.func50,Try.ntmps50
  go_wp2_with (first|(go_at_call 18;(with_reducible refine (impl_ValidOps.calls k _ _ l0 false _ ?side1 ?side2 A2.out).mono ?_);(case side1 => exact HR0.out);(case side2 => exact HC0.out);rintro e w5 ⟨rfl,hb⟩;have n0_ := As_ (bwT (zb0 HB.out) hb);clear HB;revert n0_;intro HB;clear hb))
  go_ret
  exact ⟨_,zE_,Kd.R_nil _ _ _ _ _,zb0 HB.out⟩
 | true =>
  rw [if_pos rfl] at H
  obtain ⟨t228,A40,H⟩ := obS H
  have A4 := As_ A40
  clear A40
  obtain ⟨y,hy⟩ : ∃ y_ : List S49,y_ = [] := ⟨_,rfl⟩
  rw [← hy] at H
  have Ny := As_ hy
  clear hy
  have H' := As_ H
  clear H
  go_enter Try.func50,Try.ntmps50
  go_wp2_with (first|(go_at_call 18;(with_reducible refine (impl_ValidOps.calls k _ _ l0 true _ ?side1 ?side2 A2.out).mono ?_);(case side1 => exact HR0.out);(case side2 => exact HC0.out);rintro e w5 ⟨rfl,hb⟩;have n0_ := As_ (bwT (zb0 HB.out) hb);clear HB;revert n0_;intro HB;clear hb)|(go_at_call 65;(with_reducible refine (impl_idlePuts.calls k _ _ l0 t228 _ ?side1 ?side2 A4.out).mono ?_);(case side1 => exact zC_ (Kd.C_below HR0.out HB.out));(case side2 => exact HC0.out);rintro e w6 ⟨v229,rfl,ho0,hb⟩;have n0_ := As_ (Kd.R_lower ho0 (bwZ (zb0 HB.out)));have n1_ := As_ (bwT (zb0 HB.out) hb);clear HB;revert n0_ n1_;intro HI HB;clear ho0 hb)|((with_reducible refine gate_dst (N := 4) rfl ?_);refine box_event ?hg (N := 4) ?hd (cs := #[.bool false,.bool false,.bool false,.bool false,.bool false,.bool false,.bool false,.bool false,.bool false,.bool false,.bool false,.bool false,.bool false,.bool false,.bool false,.bool false,.bool false,.bool false,.bool false,.bool false]) (t := 62) ?hr ?_;(case hd => rfl);(case hg => rfl);(case hr => first|(go_simp;done)|(go_simp <;> rfl));intro gb231 hg w7 hbox hb;have n0_ := As_ (show Kd.R (Kd.int .i64) 3 w7 w.heap.size (fun k_ => k_ < gb231) v229 t228 from (by rw [hg];exact Kd.R_mono (Kd.R_below (Kd.R_bound HI.out) hb) (fun k_ hk_ => hk_.2.2.1)));have n1_ := As_ (bwT (zb0 HB.out) hb);have n2_ := As_ (show w7.heap[gb231]? = some (.cells (impl_LeanOps.bc (List.replicate 20 false)) 62 (0,0)) from hbox);have n3_ := As_ ((by rw [hg];exact (bwZ (zb0 HB.out)) : w.heap.size ≤ gb231));clear HI HB;revert n0_ n1_ n2_ n3_;intro HI HB BKp GEp;clear hg hbox hb)|((with_reducible refine gate_store (t := 62) (p := 4) rfl ?_);refine impl_LeanOps.wp_same rfl 62 (.tmp 4) _ rfl rfl gb231 (impl_LeanOps.bc (List.replicate 20 false)) rfl ?hy 62 BKp.out ?hi (impl_LeanOps.bc_one _) ?_;(case hy => rfl);(case hi => rw [impl_LeanOps.bc_size,List.length_replicate];exact impl_LeanOps.sz62))|((with_reducible refine gate_dst (N := 18) rfl ?_);refine Kd.R_lit k49 _ 49 ?hg (N := 18) ?hd (xs := ([] : List (S49))) (inner := []) (ok := fun _ => True) (okp := fun _ => True) ?hr ?hp (fun _ hk => hk) trivial (Below.refl _ _) (Nat.le_refl _) (by simp) ?_;(case hd => rfl);(case hg => rfl);(case hr => go_simp <;> rfl);(case hp => exact (Reps.none _ _));intro v234 w12 ho13 hb hg_ hnew_;clear hg_ hnew_;(first|rw [← Ny.out] at ho13|(simp only [Int.reduceToNat] at ho13;rw [← Ny.out] at ho13));have hsz : (w7.alloc (.map #[] 0)).heap.size = w7.heap.size + 1 := (by first|(simp;done)|(simp only [World.alloc,Array.size_push]));have n0_ := As_ (show Kd.R (Kd.int .i64) 3 w12 w.heap.size (fun k_ => k_ ≠ gb231 ∧ k_ ≠ w7.heap.size) v229 t228 from Kd.R_mono (Kd.R_below (Kd.R_alloc (Kd.R_bound HI.out) _) hb) (fun k_ hk_ => ⟨Nat.ne_of_lt hk_.1,Nat.ne_of_lt hk_.2.2.1⟩));have n1_ := As_ (show Kd.R k49 49 w12 w.heap.size (fun k_ => k_ ≠ gb231 ∧ k_ ≠ w7.heap.size) v234 y from Kd.R_lower (Kd.R_mono (Kd.R_bound ho13) (fun k_ hk_ => ⟨fun e_ => (by have q1 := blk_lt BKp.out;have q2 := hk_.2.1;rw [hsz] at q2;omega),fun e_ => (by have q2 := hk_.2.1;rw [hsz] at q2;omega)⟩)) (by rw [hsz];have := bwZ HB.out;omega));have n2_ := As_ (zkb BKp.out hb);have n3_ := As_ (show w12.heap[w7.heap.size]? = some (.map #[] 0) from (hb.block _ (by rw [hsz];omega)).trans (impl_LeanOps.new_at w7 _));have n4_ := As_ (bwT (zb0 HB.out) hb);have n5_ := As_ (show gb231 ≠ w7.heap.size from Nat.ne_of_lt (blk_lt BKp.out));have n6_ := As_ (show w.heap.size ≤ w7.heap.size from bwZ HB.out);clear HI HB BKp;revert n0_ n1_ n2_ n3_ n4_ n5_ n6_;intro HI HO BKp BKm HB NPM GEm;clear ho13 hb hsz))
  go_loopg [6,21] k (fun kq v6 v21 w' => ∃ (x6 : List S49) (x : Int) (P1 : List Bool) (T1 : List (Int × Int)) (om1 : Obj),v21 = .int .i64 x ∧ Aside0 (impl_LeanOps.l0 kq t228 x6 l0 x P1 T1 = some r) ∧ Aside0 (kq ≤ k) ∧ Aside0 (P1.length = 20) ∧ Aside0 (impl_LeanOps.TabO w7.heap.size om1 T1) ∧ Aside0 (Kd.R (Kd.int .i64) 3 w' w.heap.size (fun k_ => k_ ≠ gb231 ∧ k_ ≠ w7.heap.size) v229 t228) ∧ Aside0 (Kd.R k49 49 w' w.heap.size (fun k_ => k_ ≠ gb231 ∧ k_ ≠ w7.heap.size) v6 x6) ∧ Aside0 (w'.heap[gb231]? = some (.cells (impl_LeanOps.bc P1) 62 (0,0))) ∧ Aside0 (w'.heap[w7.heap.size]? = some om1) ∧ Aside0 (Below w.heap.size w w'))
  case atStart => exact ⟨y,0,List.replicate 20 false,[],_,zT_,H',⟨Nat.le_refl _⟩,⟨List.length_replicate⟩,⟨impl_LeanOps.TabO.of (TabIs.made w7 iv iv) (impl_LeanOps.new_at w7 _)⟩,HI,HO,BKp,BKm,HB⟩
  case round =>
   clear H' Ny
   obtain ⟨x6,x,P1,T1,om1,rfl,HA,HK1,HPL,HTO,HI,HO,BKp,BKm,HB⟩ := hrel
   cases gk with
   | zero => exact absurd HA.out (by simp [impl_LeanOps.l0])
   | succ k1 =>
    have H := HA.out
    clear HA
    unfold impl_LeanOps.l0 at H
    by_cases c14 : x < (l0.length : Int)
    rotate_left
    ·rw [if_neg c14] at H
     have c14b0 : decide (x < (l0.length : Int)) = false := deF c14
     clear c14
     obtain rfl := Option.some.inj H
     go_wp2
     go_ret
     exact ⟨_,zE_,Kd.R_mono HO.out (fun _ hk => trivial),zb0 HB.out⟩
    rw [if_pos c14] at H
    have c14b0 : decide (x < (l0.length : Int)) = true := deT c14
    by_cases c15 : 0 ≤ x
    rotate_left
    ·rw [if_neg c15] at H
     cases H
    rw [if_pos c15] at H
    by_cases c17 : ((rd_T49 l0 x).f0) = 15
    rotate_left
    ·rw [if_neg c17] at H
     have c17b0 : (((rd_T49 l0 x).f0) == 15) = false := beq_eq_false_iff_ne.mpr c17
     clear c17
     by_cases c48 : ((rd_T49 l0 x).f0) = 16
     rotate_left
     ·rw [if_neg c48] at H
      have c48b0 : (((rd_T49 l0 x).f0) == 16) = false := beq_eq_false_iff_ne.mpr c48
      clear c48
      by_cases cl : x6.length < 8796093022208
      rotate_left
      ·rw [if_neg cl] at H
       cases H
      rw [if_pos cl] at H
      have LMO := As_ cl
      clear cl
      obtain ⟨y,hy⟩ : ∃ y_ : List S49,y_ = (x6 ++ [(⟨((rd_T49 l0 x).f0),((rd_T49 l0 x).f1)⟩ : S49)]) := ⟨_,rfl⟩
      rw [← hy] at H
      have Ny := As_ hy
      clear hy
      have H' := As_ H
      clear H
      obtain ⟨ad236,e236,hx236_0,hx236_1⟩ := at_T49 HR0.out x c15 c14
      cases e236
      replace hx236_0 := bwC HB.out hx236_0
      replace hx236_1 := bwC HB.out hx236_1
      have p236 := eq_true c15
      have q236 := eq_true c14
      clear c15 c14
      go_wp2_with (first|((with_reducible refine gate_dst (N := 8) rfl ?_);refine box_event ?hg (N := 8) ?hd (cs := #[.int .i64 0,.int .i64 0]) (t := 49) ?hr ?_;(case hd => rfl);(case hg => rfl);(case hr => first|(go_simp;done)|(go_simp <;> rfl));intro gb237 hg wa hbox hb;have n0_ := As_ (show Kd.R (Kd.int .i64) 3 wa w.heap.size (fun k_ => k_ ≠ gb231 ∧ k_ ≠ w7.heap.size ∧ k_ < gb237) v229 t228 from (by rw [hg];exact Kd.R_mono (Kd.R_below (Kd.R_bound HI.out) hb) (fun k_ hk_ => ⟨hk_.1.1,hk_.1.2,hk_.2.2.1⟩)));have n1_ := As_ (show Kd.R k49 49 wa w.heap.size (fun k_ => k_ ≠ gb231 ∧ k_ ≠ w7.heap.size ∧ k_ < gb237) u6 x6 from (by rw [hg];exact Kd.R_mono (Kd.R_below (Kd.R_bound HO.out) hb) (fun k_ hk_ => ⟨hk_.1.1,hk_.1.2,hk_.2.2.1⟩)));have n2_ := As_ (zkb BKp.out hb);have n3_ := As_ (zkb BKm.out hb);have n4_ := As_ (bwT (zb0 HB.out) hb);have n5_ := As_ (hbox);have n6_ := As_ ((by rw [hg];exact (bwZ (zb0 HB.out)) : w.heap.size ≤ gb237));have n7_ := As_ ((by rw [hg];exact Nat.ne_of_lt (zkl BKp.out) : gb231 ≠ gb237));have n8_ := As_ ((by rw [hg];exact Nat.ne_of_lt (zkl BKm.out) : w7.heap.size ≠ gb237));clear HI HO BKp BKm HB;revert n0_ n1_ n2_ n3_ n4_ n5_ n6_ n7_ n8_;intro HI HO BKp BKm HB BKo GEo NPo NMo;clear hg hbox hb;obtain ⟨hzo_0,hzo_1,hzf_0,hzf_1⟩ := bk2 BKo.out)|((with_reducible refine gate_store (t := 49) (p := 8) rfl ?_);refine store_event (t := 49) (p := 8) (v := ?vo_wbo) (w1 := (wa.setCell ⟨gb237,0,none⟩ (.int .i64 ((rd_T49 l0 x).f0))).setCell ⟨gb237,1,none⟩ (.int .i64 ((rd_T49 l0 x).f1))) ?hg ?ho ?hn ?hr ?_;(case ho => rfl);(case hg => rfl);(case hn => rfl);(case hr => first|(go_simp;done)|(go_simp;rfl));intro wb hw;have n0_ := As_ (show Kd.R (Kd.int .i64) 3 wb w.heap.size (fun k_ => k_ ≠ gb231 ∧ k_ ≠ w7.heap.size ∧ k_ < gb237) v229 t228 from (by rw [hw];exact Kd.R_far (p := ⟨gb237,1,none⟩) (Kd.R_far (p := ⟨gb237,0,none⟩) HI.out (fun k hk => Nat.ne_of_lt hk.2.2) _) (fun k hk => Nat.ne_of_lt hk.2.2) _));have n1_ := As_ (show Kd.R k49 49 wb w.heap.size (fun k_ => k_ ≠ gb231 ∧ k_ ≠ w7.heap.size ∧ k_ < gb237) u6 x6 from (by rw [hw];exact Kd.R_far (p := ⟨gb237,1,none⟩) (Kd.R_far (p := ⟨gb237,0,none⟩) HO.out (fun k hk => Nat.ne_of_lt hk.2.2) _) (fun k hk => Nat.ne_of_lt hk.2.2) _));have n2_ := As_ (show wb.heap[gb231]? = some (.cells (impl_LeanOps.bc P1) 62 (0,0)) from (by rw [hw];exact blk_far (blk_far BKp.out NPo.out _) NPo.out _));have n3_ := As_ (show wb.heap[w7.heap.size]? = some om1 from (by rw [hw];exact impl_LeanOps.ofar (impl_LeanOps.ofar BKm.out NMo.out _) NMo.out _));have n4_ := As_ (show Below w.heap.size w wb from (by rw [hw];exact bwS (bwS HB.out GEo.out) GEo.out));have n5_ := As_ (show wb.heap[gb237]? = some (.cells #[.int .i64 ((rd_T49 l0 x).f0),.int .i64 ((rd_T49 l0 x).f1)] 49 (0,0)) from (by rw [hw];exact blk_put (cs := #[.int .i64 ((rd_T49 l0 x).f0),.int .i64 0]) (blk_put (cs := #[.int .i64 0,.int .i64 0]) BKo.out 0 _ rfl) 1 _ rfl));clear HI HO BKp BKm HB BKo hzo_0 hzo_1 hzf_0 hzf_1;revert n0_ n1_ n2_ n3_ n4_ n5_;intro HI HO BKp BKm HB BKo;clear hw;obtain ⟨hyo_0,hyo_1,hyf_0,hyf_1⟩ := bk2 BKo.out;have hpz := impl_LeanOps.bc_at BKp.out (show 0 < P1.length by have := HPL.out;omega);have hpf := bkF BKp.out 0)|((with_reducible refine gate_builtin (b := .append) (xs := #[.tmp 67,.tmp 69]) rfl ?_);at_builtin;refine Kd.R_append k49 (w0 := w) w.heap.size rfl (.tmp 67) (.tmp 69) 25 49 (.agg #[(.int .i64 0),(.int .i64 0)]) 16 rfl Try.underlying25 info49 rfl (by decide) (by omega) u6 x6 (⟨((rd_T49 l0 x).f0),((rd_T49 l0 x).f1)⟩ : S49) [.int .i64 ((rd_T49 l0 x).f0),.int .i64 ((rd_T49 l0 x).f1)] (fun k_ => k_ ≠ gb231 ∧ k_ ≠ w7.heap.size ∧ k_ ≠ gb237) (fun _ => False) rfl (by go_simp <;> rfl) ?aP (fun _ hk => hk.elim) ?aF ?aO ?aB ?aS ?aL ?_;(case aP => exact k49_mkM _ _ _ (⟨((rd_T49 l0 x).f0),((rd_T49 l0 x).f1)⟩ : S49));(case aB => exact zb0 HB.out);(case aF => exact (fun k_ hk => ⟨Kd.freshB (g := gb231) (o := (.cells (impl_LeanOps.bc P1) 62 (0,0))) (zk_ BKp.out) k_ hk,impl_LeanOps.freshO (zk_ BKm.out) hk,Kd.freshB (g := gb237) (o := (.cells #[.int .i64 ((rd_T49 l0 x).f0),.int .i64 ((rd_T49 l0 x).f1)] 49 (0,0))) (zk_ BKo.out) k_ hk⟩));(case aO => exact (by (with_reducible repeat (first|apply Kd.R_alloc|apply Kd.R_drewN|apply Kd.R_drew));exact Kd.R_mono HO.out (fun _ hk => ⟨hk.1,hk.2.1,Nat.ne_of_lt hk.2.2⟩)));(case aS => exact (bwZ (zb0 HB.out)));(case aL => have := LMO.out;omega);intro vn wn ho hb hg hat;rw [← Ny.out] at ho;have n0_ := As_ (Kd.R_over' (by (with_reducible repeat (first|apply Kd.R_alloc|apply Kd.R_drewN|apply Kd.R_drew));exact (Kd.R_mono (ok' := (fun k_ => k_ ≠ gb231 ∧ k_ ≠ w7.heap.size)) HI.out (fun _ h_ => ⟨h_.1,h_.2.1⟩))) (Kd.R_typed (zR_ HO.out)) (by decide) hg);have n1_ := As_ (blk_grown (zk_ BKp.out) hg (Kd.R_away HO.out (fun _ hk => hk.1)));have n2_ := As_ (blk_grown (zk_ BKm.out) hg (Kd.R_away HO.out (fun _ hk => hk.2.1)));have n3_ := As_ (hb);have n4_ := As_ (Kd.R_mono (ok' := (fun k_ => k_ ≠ gb231 ∧ k_ ≠ w7.heap.size)) ho (fun _ h_ => ⟨h_.1,h_.2.1⟩));clear HI HO BKp BKm HB BKo;revert n0_ n1_ n2_ n3_ n4_;intro HI BKp BKm HB HO;clear hb hg hat))
      go_roundg k1
      case measure => have := HK1.out;omega
      case rel => exact ⟨y,wrap64 (x + 1),P1,T1,om1,zT_,H',⟨by have := HK1.out;omega⟩,⟨by have := HPL.out;exact this⟩,HTO,HI,HO,BKp,BKm,HB⟩
     rw [if_pos c48] at H
     have c48b0 : (((rd_T49 l0 x).f0) == 16) = true := beq_iff_eq.mpr c48
     clear c48
     by_cases cr0 : 0 ≤ ((rd_T49 l0 x).f1)
     rotate_left
     ·rw [if_neg cr0] at H
      cases H
     rw [if_pos cr0] at H
     by_cases cr1 : ((rd_T49 l0 x).f1) < 20
     rotate_left
     ·rw [if_neg cr1] at H
      cases H
     rw [if_pos cr1] at H
     have HIX := As_ (show (((rd_T49 l0 x).f1)).toNat < P1.length by have := HPL.out;omega)
     have hwf := As_ (impl_LeanOps.wf_of cr0 (n := 20) (by omega) (by omega))
     have HR0x := As_ cr0
     have HR1x := As_ (show ((rd_T49 l0 x).f1) < ((20 : Nat) : Int) from cr1)
     clear cr0 cr1
     by_cases c49 : P1.getD (((rd_T49 l0 x).f1)).toNat false = true
     rotate_left
     ·rw [if_neg c49] at H
      have HPB := As_ (show P1.getD (((rd_T49 l0 x).f1)).toNat false = false by cases hq : P1.getD (((rd_T49 l0 x).f1)).toNat false with|false => rfl|true => exact absurd hq c49)
      clear c49
      obtain rfl := Option.some.inj H
      obtain ⟨ad236,e236,hx236_0,hx236_1⟩ := at_T49 HR0.out x c15 c14
      cases e236
      replace hx236_0 := bwC HB.out hx236_0
      replace hx236_1 := bwC HB.out hx236_1
      have p236 := eq_true c15
      have q236 := eq_true c14
      clear c15 c14
      go_wp2_with (first|((with_reducible refine gate_dst (N := 8) rfl ?_);refine box_event ?hg (N := 8) ?hd (cs := #[.int .i64 0,.int .i64 0]) (t := 49) ?hr ?_;(case hd => rfl);(case hg => rfl);(case hr => first|(go_simp;done)|(go_simp <;> rfl));intro gb237 hg wa hbox hb;have n0_ := As_ (show Kd.R (Kd.int .i64) 3 wa w.heap.size (fun k_ => k_ ≠ gb231 ∧ k_ ≠ w7.heap.size ∧ k_ < gb237) v229 t228 from (by rw [hg];exact Kd.R_mono (Kd.R_below (Kd.R_bound HI.out) hb) (fun k_ hk_ => ⟨hk_.1.1,hk_.1.2,hk_.2.2.1⟩)));have n1_ := As_ (show Kd.R k49 49 wa w.heap.size (fun k_ => k_ ≠ gb231 ∧ k_ ≠ w7.heap.size ∧ k_ < gb237) u6 x6 from (by rw [hg];exact Kd.R_mono (Kd.R_below (Kd.R_bound HO.out) hb) (fun k_ hk_ => ⟨hk_.1.1,hk_.1.2,hk_.2.2.1⟩)));have n2_ := As_ (zkb BKp.out hb);have n3_ := As_ (zkb BKm.out hb);have n4_ := As_ (bwT (zb0 HB.out) hb);have n5_ := As_ (hbox);have n6_ := As_ ((by rw [hg];exact (bwZ (zb0 HB.out)) : w.heap.size ≤ gb237));have n7_ := As_ ((by rw [hg];exact Nat.ne_of_lt (zkl BKp.out) : gb231 ≠ gb237));have n8_ := As_ ((by rw [hg];exact Nat.ne_of_lt (zkl BKm.out) : w7.heap.size ≠ gb237));clear HI HO BKp BKm HB;revert n0_ n1_ n2_ n3_ n4_ n5_ n6_ n7_ n8_;intro HI HO BKp BKm HB BKo GEo NPo NMo;clear hg hbox hb;obtain ⟨hzo_0,hzo_1,hzf_0,hzf_1⟩ := bk2 BKo.out)|((with_reducible refine gate_store (t := 49) (p := 8) rfl ?_);refine store_event (t := 49) (p := 8) (v := ?vo_wbz) (w1 := (wa.setCell ⟨gb237,0,none⟩ (.int .i64 ((rd_T49 l0 x).f0))).setCell ⟨gb237,1,none⟩ (.int .i64 ((rd_T49 l0 x).f1))) ?hg ?ho ?hn ?hr ?_;(case ho => rfl);(case hg => rfl);(case hn => rfl);(case hr => first|(go_simp;done)|(go_simp;rfl));intro wb hw;have n0_ := As_ (show Kd.R (Kd.int .i64) 3 wb w.heap.size (fun k_ => k_ ≠ gb231 ∧ k_ ≠ w7.heap.size ∧ k_ < gb237) v229 t228 from (by rw [hw];exact Kd.R_far (p := ⟨gb237,1,none⟩) (Kd.R_far (p := ⟨gb237,0,none⟩) HI.out (fun k hk => Nat.ne_of_lt hk.2.2) _) (fun k hk => Nat.ne_of_lt hk.2.2) _));have n1_ := As_ (show Kd.R k49 49 wb w.heap.size (fun k_ => k_ ≠ gb231 ∧ k_ ≠ w7.heap.size ∧ k_ < gb237) u6 x6 from (by rw [hw];exact Kd.R_far (p := ⟨gb237,1,none⟩) (Kd.R_far (p := ⟨gb237,0,none⟩) HO.out (fun k hk => Nat.ne_of_lt hk.2.2) _) (fun k hk => Nat.ne_of_lt hk.2.2) _));have n2_ := As_ (show wb.heap[gb231]? = some (.cells (impl_LeanOps.bc P1) 62 (0,0)) from (by rw [hw];exact blk_far (blk_far BKp.out NPo.out _) NPo.out _));have n3_ := As_ (show wb.heap[w7.heap.size]? = some om1 from (by rw [hw];exact impl_LeanOps.ofar (impl_LeanOps.ofar BKm.out NMo.out _) NMo.out _));have n4_ := As_ (show Below w.heap.size w wb from (by rw [hw];exact bwS (bwS HB.out GEo.out) GEo.out));have n5_ := As_ (show wb.heap[gb237]? = some (.cells #[.int .i64 ((rd_T49 l0 x).f0),.int .i64 ((rd_T49 l0 x).f1)] 49 (0,0)) from (by rw [hw];exact blk_put (cs := #[.int .i64 ((rd_T49 l0 x).f0),.int .i64 0]) (blk_put (cs := #[.int .i64 0,.int .i64 0]) BKo.out 0 _ rfl) 1 _ rfl));clear HI HO BKp BKm HB BKo hzo_0 hzo_1 hzf_0 hzf_1;revert n0_ n1_ n2_ n3_ n4_ n5_;intro HI HO BKp BKm HB BKo;clear hw;obtain ⟨hyo_0,hyo_1,hyf_0,hyf_1⟩ := bk2 BKo.out;have hpz : wb.cell? ⟨gb231,(((rd_T49 l0 x).f1)).toNat,none⟩ = some (.bool false) := (impl_LeanOps.bc_at BKp.out HIX.out).trans (by rw [HPB.out]);have hpf := bkF BKp.out (((rd_T49 l0 x).f1)).toNat)|((with_reducible refine gate_dst (N := 59) rfl ?_);refine impl_LeanOps.wp_index _ rfl 62 (.tmp 4) (.tmp 58) rfl Try.underlying62 HI4.out HZ4.out gb231 ((rd_T49 l0 x).f1) rfl rfl HR0x.out HR1x.out ?_))
      go_ret
      exact ⟨_,zE_,Kd.R_nil _ _ _ _ _,zb0 HB.out⟩
     rw [if_pos c49] at H
     by_cases cl : x6.length < 8796093022208
     rotate_left
     ·rw [if_neg cl] at H
      cases H
     rw [if_pos cl] at H
     have LMO := As_ cl
     clear cl
     have HPB := As_ c49
     clear c49
     obtain ⟨gv,hgv⟩ : ∃ n_ : Int,n_ = (T1.lookup ((rd_T49 l0 x).f1)).getD 0 := ⟨_,rfl⟩
     rw [← hgv] at H
     have HGV := As_ hgv.symm
     clear hgv
     obtain ⟨y,hy⟩ : ∃ y_ : List S49,y_ = (x6 ++ [(⟨((rd_T49 l0 x).f0),gv⟩ : S49)]) := ⟨_,rfl⟩
     rw [← hy] at H
     have Ny := As_ hy
     clear hy
     have H' := As_ H
     clear H
     obtain ⟨ad236,e236,hx236_0,hx236_1⟩ := at_T49 HR0.out x c15 c14
     cases e236
     replace hx236_0 := bwC HB.out hx236_0
     replace hx236_1 := bwC HB.out hx236_1
     have p236 := eq_true c15
     have q236 := eq_true c14
     clear c15 c14
     go_wp2_with (first|((with_reducible refine gate_dst (N := 8) rfl ?_);refine box_event ?hg (N := 8) ?hd (cs := #[.int .i64 0,.int .i64 0]) (t := 49) ?hr ?_;(case hd => rfl);(case hg => rfl);(case hr => first|(go_simp;done)|(go_simp <;> rfl));intro gb237 hg wa hbox hb;have n0_ := As_ (show Kd.R (Kd.int .i64) 3 wa w.heap.size (fun k_ => k_ ≠ gb231 ∧ k_ ≠ w7.heap.size ∧ k_ < gb237) v229 t228 from (by rw [hg];exact Kd.R_mono (Kd.R_below (Kd.R_bound HI.out) hb) (fun k_ hk_ => ⟨hk_.1.1,hk_.1.2,hk_.2.2.1⟩)));have n1_ := As_ (show Kd.R k49 49 wa w.heap.size (fun k_ => k_ ≠ gb231 ∧ k_ ≠ w7.heap.size ∧ k_ < gb237) u6 x6 from (by rw [hg];exact Kd.R_mono (Kd.R_below (Kd.R_bound HO.out) hb) (fun k_ hk_ => ⟨hk_.1.1,hk_.1.2,hk_.2.2.1⟩)));have n2_ := As_ (zkb BKp.out hb);have n3_ := As_ (zkb BKm.out hb);have n4_ := As_ (bwT (zb0 HB.out) hb);have n5_ := As_ (hbox);have n6_ := As_ ((by rw [hg];exact (bwZ (zb0 HB.out)) : w.heap.size ≤ gb237));have n7_ := As_ ((by rw [hg];exact Nat.ne_of_lt (zkl BKp.out) : gb231 ≠ gb237));have n8_ := As_ ((by rw [hg];exact Nat.ne_of_lt (zkl BKm.out) : w7.heap.size ≠ gb237));clear HI HO BKp BKm HB;revert n0_ n1_ n2_ n3_ n4_ n5_ n6_ n7_ n8_;intro HI HO BKp BKm HB BKo GEo NPo NMo;clear hg hbox hb;obtain ⟨hzo_0,hzo_1,hzf_0,hzf_1⟩ := bk2 BKo.out)|((with_reducible refine gate_store (t := 49) (p := 8) rfl ?_);refine store_event (t := 49) (p := 8) (v := ?vo_wbg) (w1 := (wa.setCell ⟨gb237,0,none⟩ (.int .i64 ((rd_T49 l0 x).f0))).setCell ⟨gb237,1,none⟩ (.int .i64 ((rd_T49 l0 x).f1))) ?hg ?ho ?hn ?hr ?_;(case ho => rfl);(case hg => rfl);(case hn => rfl);(case hr => first|(go_simp;done)|(go_simp;rfl));intro wb hw;have n0_ := As_ (show Kd.R (Kd.int .i64) 3 wb w.heap.size (fun k_ => k_ ≠ gb231 ∧ k_ ≠ w7.heap.size ∧ k_ < gb237) v229 t228 from (by rw [hw];exact Kd.R_far (p := ⟨gb237,1,none⟩) (Kd.R_far (p := ⟨gb237,0,none⟩) HI.out (fun k hk => Nat.ne_of_lt hk.2.2) _) (fun k hk => Nat.ne_of_lt hk.2.2) _));have n1_ := As_ (show Kd.R k49 49 wb w.heap.size (fun k_ => k_ ≠ gb231 ∧ k_ ≠ w7.heap.size ∧ k_ < gb237) u6 x6 from (by rw [hw];exact Kd.R_far (p := ⟨gb237,1,none⟩) (Kd.R_far (p := ⟨gb237,0,none⟩) HO.out (fun k hk => Nat.ne_of_lt hk.2.2) _) (fun k hk => Nat.ne_of_lt hk.2.2) _));have n2_ := As_ (show wb.heap[gb231]? = some (.cells (impl_LeanOps.bc P1) 62 (0,0)) from (by rw [hw];exact blk_far (blk_far BKp.out NPo.out _) NPo.out _));have n3_ := As_ (show wb.heap[w7.heap.size]? = some om1 from (by rw [hw];exact impl_LeanOps.ofar (impl_LeanOps.ofar BKm.out NMo.out _) NMo.out _));have n4_ := As_ (show Below w.heap.size w wb from (by rw [hw];exact bwS (bwS HB.out GEo.out) GEo.out));have n5_ := As_ (show wb.heap[gb237]? = some (.cells #[.int .i64 ((rd_T49 l0 x).f0),.int .i64 ((rd_T49 l0 x).f1)] 49 (0,0)) from (by rw [hw];exact blk_put (cs := #[.int .i64 ((rd_T49 l0 x).f0),.int .i64 0]) (blk_put (cs := #[.int .i64 0,.int .i64 0]) BKo.out 0 _ rfl) 1 _ rfl));clear HI HO BKp BKm HB BKo hzo_0 hzo_1 hzf_0 hzf_1;revert n0_ n1_ n2_ n3_ n4_ n5_;intro HI HO BKp BKm HB BKo;clear hw;obtain ⟨hyo_0,hyo_1,hyf_0,hyf_1⟩ := bk2 BKo.out;have hpz : wb.cell? ⟨gb231,(((rd_T49 l0 x).f1)).toNat,none⟩ = some (.bool true) := (impl_LeanOps.bc_at BKp.out HIX.out).trans (by rw [HPB.out]);have hpf := bkF BKp.out (((rd_T49 l0 x).f1)).toNat)|((with_reducible refine gate_dst (N := 59) rfl ?_);refine impl_LeanOps.wp_index _ rfl 62 (.tmp 4) (.tmp 58) rfl Try.underlying62 HI4.out HZ4.out gb231 ((rd_T49 l0 x).f1) rfl rfl HR0x.out HR1x.out ?_)|(at_lookup;refine impl_LeanOps.look_v _ rfl _ _ 63 rfl 3 3 (Go.Maps.int_keyed Try.underlying3) Try.underlying63 (impl_LeanOps.zero_int _) (plainElem_int Try.underlying3 (by decide)) w7.heap.size iv iv T1 rfl (HTO.out _ (zk_ BKm.out)) ((rd_T49 l0 x).f1) (.int .i64 ((rd_T49 l0 x).f1)) rfl (Go.Maps.keyOf_int_mk Try.underlying3 hwf.out) (.int .i64 gv) (by have h_ := HGV.out;unfold tabAt;first|(rw [HSome.out];rfl)|(rw [← h_];cases T1.lookup ((rd_T49 l0 x).f1) <;> rfl)) ?_)|((with_reducible refine gate_store (t := 3) (p := 66) rfl ?_);refine store_event (t := 3) (p := 66) (v := ?vo_wfg) (w1 := wb.setCell ⟨gb237,1,none⟩ (.int .i64 gv)) ?hg ?ho ?hn ?hr ?_;(case ho => rfl);(case hg => rfl);(case hn => rfl);(case hr => first|(go_simp;done)|(go_simp;rfl));intro wf hw;have n0_ := As_ (show Kd.R (Kd.int .i64) 3 wf w.heap.size (fun k_ => k_ ≠ gb231 ∧ k_ ≠ w7.heap.size ∧ k_ < gb237) v229 t228 from (by rw [hw];exact Kd.R_far (p := ⟨gb237,1,none⟩) HI.out (fun k hk => Nat.ne_of_lt hk.2.2) _));have n1_ := As_ (show Kd.R k49 49 wf w.heap.size (fun k_ => k_ ≠ gb231 ∧ k_ ≠ w7.heap.size ∧ k_ < gb237) u6 x6 from (by rw [hw];exact Kd.R_far (p := ⟨gb237,1,none⟩) HO.out (fun k hk => Nat.ne_of_lt hk.2.2) _));have n2_ := As_ (show wf.heap[gb231]? = some (.cells (impl_LeanOps.bc P1) 62 (0,0)) from (by rw [hw];exact blk_far BKp.out NPo.out _));have n3_ := As_ (show wf.heap[w7.heap.size]? = some om1 from (by rw [hw];exact impl_LeanOps.ofar BKm.out NMo.out _));have n4_ := As_ (show Below w.heap.size w wf from (by rw [hw];exact bwS HB.out GEo.out));have n5_ := As_ (show wf.heap[gb237]? = some (.cells #[.int .i64 ((rd_T49 l0 x).f0),.int .i64 gv] 49 (0,0)) from (by rw [hw];exact blk_put (cs := #[.int .i64 ((rd_T49 l0 x).f0),.int .i64 ((rd_T49 l0 x).f1)]) BKo.out 1 _ rfl));clear HI HO BKp BKm HB BKo hyo_0 hyo_1 hyf_0 hyf_1 hpz hpf;revert n0_ n1_ n2_ n3_ n4_ n5_;intro HI HO BKp BKm HB BKo;clear hw;obtain ⟨hxo_0,hxo_1,hxf_0,hxf_1⟩ := bk2 BKo.out)|((with_reducible refine gate_builtin (b := .append) (xs := #[.tmp 67,.tmp 69]) rfl ?_);at_builtin;refine Kd.R_append k49 (w0 := w) w.heap.size rfl (.tmp 67) (.tmp 69) 25 49 (.agg #[(.int .i64 0),(.int .i64 0)]) 16 rfl Try.underlying25 info49 rfl (by decide) (by omega) u6 x6 (⟨((rd_T49 l0 x).f0),gv⟩ : S49) [.int .i64 ((rd_T49 l0 x).f0),.int .i64 gv] (fun k_ => k_ ≠ gb231 ∧ k_ ≠ w7.heap.size ∧ k_ ≠ gb237) (fun _ => False) rfl (by go_simp <;> rfl) ?aP (fun _ hk => hk.elim) ?aF ?aO ?aB ?aS ?aL ?_;(case aP => exact k49_mkM _ _ _ (⟨((rd_T49 l0 x).f0),gv⟩ : S49));(case aB => exact zb0 HB.out);(case aF => exact (fun k_ hk => ⟨Kd.freshB (g := gb231) (o := (.cells (impl_LeanOps.bc P1) 62 (0,0))) (zk_ BKp.out) k_ hk,impl_LeanOps.freshO (zk_ BKm.out) hk,Kd.freshB (g := gb237) (o := (.cells #[.int .i64 ((rd_T49 l0 x).f0),.int .i64 gv] 49 (0,0))) (zk_ BKo.out) k_ hk⟩));(case aO => exact (by (with_reducible repeat (first|apply Kd.R_alloc|apply Kd.R_drewN|apply Kd.R_drew));exact Kd.R_mono HO.out (fun _ hk => ⟨hk.1,hk.2.1,Nat.ne_of_lt hk.2.2⟩)));(case aS => exact (bwZ (zb0 HB.out)));(case aL => have := LMO.out;omega);intro vn wn ho hb hg hat;rw [← Ny.out] at ho;have n0_ := As_ (Kd.R_over' (by (with_reducible repeat (first|apply Kd.R_alloc|apply Kd.R_drewN|apply Kd.R_drew));exact (Kd.R_mono (ok' := (fun k_ => k_ ≠ gb231 ∧ k_ ≠ w7.heap.size)) HI.out (fun _ h_ => ⟨h_.1,h_.2.1⟩))) (Kd.R_typed (zR_ HO.out)) (by decide) hg);have n1_ := As_ (blk_grown (zk_ BKp.out) hg (Kd.R_away HO.out (fun _ hk => hk.1)));have n2_ := As_ (blk_grown (zk_ BKm.out) hg (Kd.R_away HO.out (fun _ hk => hk.2.1)));have n3_ := As_ (hb);have n4_ := As_ (Kd.R_mono (ok' := (fun k_ => k_ ≠ gb231 ∧ k_ ≠ w7.heap.size)) ho (fun _ h_ => ⟨h_.1,h_.2.1⟩));clear HI HO BKp BKm HB BKo;revert n0_ n1_ n2_ n3_ n4_;intro HI BKp BKm HB HO;clear hb hg hat))
     go_roundg k1
     case measure => have := HK1.out;omega
     case rel => exact ⟨y,wrap64 (x + 1),P1,T1,om1,zT_,H',⟨by have := HK1.out;omega⟩,⟨by have := HPL.out;exact this⟩,HTO,HI,HO,BKp,BKm,HB⟩
    rw [if_pos c17] at H
    have c17b0 : (((rd_T49 l0 x).f0) == 15) = true := beq_iff_eq.mpr c17
    clear c17
    by_cases cr0 : 0 ≤ ((rd_T49 l0 x).f1)
    rotate_left
    ·rw [if_neg cr0] at H
     cases H
    rw [if_pos cr0] at H
    by_cases cr1 : ((rd_T49 l0 x).f1) < 20
    rotate_left
    ·rw [if_neg cr1] at H
     cases H
    rw [if_pos cr1] at H
    have HIX := As_ (show (((rd_T49 l0 x).f1)).toNat < P1.length by have := HPL.out;omega)
    have hwf := As_ (impl_LeanOps.wf_of cr0 (n := 20) (by omega) (by omega))
    have HR0x := As_ cr0
    have HR1x := As_ (show ((rd_T49 l0 x).f1) < ((20 : Nat) : Int) from cr1)
    clear cr0 cr1
    obtain ⟨t238,A180,H⟩ := obS H
    have A18 := As_ A180
    clear A180
    cases t238 with
    | true =>
     rw [if_pos rfl] at H
     have H' := As_ H
     clear H
     obtain ⟨ad236,e236,hx236_0,hx236_1⟩ := at_T49 HR0.out x c15 c14
     cases e236
     replace hx236_0 := bwC HB.out hx236_0
     replace hx236_1 := bwC HB.out hx236_1
     have p236 := eq_true c15
     have q236 := eq_true c14
     clear c15 c14
     go_wp2_with (first|((with_reducible refine gate_dst (N := 8) rfl ?_);refine box_event ?hg (N := 8) ?hd (cs := #[.int .i64 0,.int .i64 0]) (t := 49) ?hr ?_;(case hd => rfl);(case hg => rfl);(case hr => first|(go_simp;done)|(go_simp <;> rfl));intro gb237 hg wa hbox hb;have n0_ := As_ (show Kd.R (Kd.int .i64) 3 wa w.heap.size (fun k_ => k_ ≠ gb231 ∧ k_ ≠ w7.heap.size ∧ k_ < gb237) v229 t228 from (by rw [hg];exact Kd.R_mono (Kd.R_below (Kd.R_bound HI.out) hb) (fun k_ hk_ => ⟨hk_.1.1,hk_.1.2,hk_.2.2.1⟩)));have n1_ := As_ (show Kd.R k49 49 wa w.heap.size (fun k_ => k_ ≠ gb231 ∧ k_ ≠ w7.heap.size ∧ k_ < gb237) u6 x6 from (by rw [hg];exact Kd.R_mono (Kd.R_below (Kd.R_bound HO.out) hb) (fun k_ hk_ => ⟨hk_.1.1,hk_.1.2,hk_.2.2.1⟩)));have n2_ := As_ (zkb BKp.out hb);have n3_ := As_ (zkb BKm.out hb);have n4_ := As_ (bwT (zb0 HB.out) hb);have n5_ := As_ (hbox);have n6_ := As_ ((by rw [hg];exact (bwZ (zb0 HB.out)) : w.heap.size ≤ gb237));have n7_ := As_ ((by rw [hg];exact Nat.ne_of_lt (zkl BKp.out) : gb231 ≠ gb237));have n8_ := As_ ((by rw [hg];exact Nat.ne_of_lt (zkl BKm.out) : w7.heap.size ≠ gb237));clear HI HO BKp BKm HB;revert n0_ n1_ n2_ n3_ n4_ n5_ n6_ n7_ n8_;intro HI HO BKp BKm HB BKo GEo NPo NMo;clear hg hbox hb;obtain ⟨hzo_0,hzo_1,hzf_0,hzf_1⟩ := bk2 BKo.out)|((with_reducible refine gate_store (t := 49) (p := 8) rfl ?_);refine store_event (t := 49) (p := 8) (v := ?vo_wbi) (w1 := (wa.setCell ⟨gb237,0,none⟩ (.int .i64 ((rd_T49 l0 x).f0))).setCell ⟨gb237,1,none⟩ (.int .i64 ((rd_T49 l0 x).f1))) ?hg ?ho ?hn ?hr ?_;(case ho => rfl);(case hg => rfl);(case hn => rfl);(case hr => first|(go_simp;done)|(go_simp;rfl));intro wb hw;have n0_ := As_ (show Kd.R (Kd.int .i64) 3 wb w.heap.size (fun k_ => k_ ≠ gb231 ∧ k_ ≠ w7.heap.size ∧ k_ < gb237) v229 t228 from (by rw [hw];exact Kd.R_far (p := ⟨gb237,1,none⟩) (Kd.R_far (p := ⟨gb237,0,none⟩) HI.out (fun k hk => Nat.ne_of_lt hk.2.2) _) (fun k hk => Nat.ne_of_lt hk.2.2) _));have n1_ := As_ (show Kd.R k49 49 wb w.heap.size (fun k_ => k_ ≠ gb231 ∧ k_ ≠ w7.heap.size ∧ k_ < gb237) u6 x6 from (by rw [hw];exact Kd.R_far (p := ⟨gb237,1,none⟩) (Kd.R_far (p := ⟨gb237,0,none⟩) HO.out (fun k hk => Nat.ne_of_lt hk.2.2) _) (fun k hk => Nat.ne_of_lt hk.2.2) _));have n2_ := As_ (show wb.heap[gb231]? = some (.cells (impl_LeanOps.bc P1) 62 (0,0)) from (by rw [hw];exact blk_far (blk_far BKp.out NPo.out _) NPo.out _));have n3_ := As_ (show wb.heap[w7.heap.size]? = some om1 from (by rw [hw];exact impl_LeanOps.ofar (impl_LeanOps.ofar BKm.out NMo.out _) NMo.out _));have n4_ := As_ (show Below w.heap.size w wb from (by rw [hw];exact bwS (bwS HB.out GEo.out) GEo.out));have n5_ := As_ (show wb.heap[gb237]? = some (.cells #[.int .i64 ((rd_T49 l0 x).f0),.int .i64 ((rd_T49 l0 x).f1)] 49 (0,0)) from (by rw [hw];exact blk_put (cs := #[.int .i64 ((rd_T49 l0 x).f0),.int .i64 0]) (blk_put (cs := #[.int .i64 0,.int .i64 0]) BKo.out 0 _ rfl) 1 _ rfl));clear HI HO BKp BKm HB BKo hzo_0 hzo_1 hzf_0 hzf_1;revert n0_ n1_ n2_ n3_ n4_ n5_;intro HI HO BKp BKm HB BKo;clear hw;obtain ⟨hyo_0,hyo_1,hyf_0,hyf_1⟩ := bk2 BKo.out;have hpz := impl_LeanOps.bc_at BKp.out HIX.out;have hpf := bkF BKp.out (((rd_T49 l0 x).f1)).toNat)|((with_reducible refine gate_dst (N := 32) rfl ?_);refine impl_LeanOps.wp_index _ rfl 62 (.tmp 4) (.tmp 31) rfl Try.underlying62 HI4.out HZ4.out gb231 ((rd_T49 l0 x).f1) rfl rfl HR0x.out HR1x.out ?_)|((with_reducible refine gate_store (t := 4) (p := 32) rfl ?_);refine store_event (t := 4) (p := 32) (v := ?vo_wci) (w1 := wb.setCell ⟨gb231,(((rd_T49 l0 x).f1)).toNat,none⟩ (.bool true)) ?hg ?ho ?hn ?hr ?_;(case ho => rfl);(case hg => rfl);(case hn => rfl);(case hr => first|(go_simp;done)|(go_simp;rfl));intro wc hw;have n0_ := As_ (show Kd.R (Kd.int .i64) 3 wc w.heap.size (fun k_ => k_ ≠ gb231 ∧ k_ ≠ w7.heap.size ∧ k_ < gb237) v229 t228 from (by rw [hw];exact Kd.R_far (p := ⟨gb231,(((rd_T49 l0 x).f1)).toNat,none⟩) HI.out (fun k hk => hk.1) _));have n1_ := As_ (show Kd.R k49 49 wc w.heap.size (fun k_ => k_ ≠ gb231 ∧ k_ ≠ w7.heap.size ∧ k_ < gb237) u6 x6 from (by rw [hw];exact Kd.R_far (p := ⟨gb231,(((rd_T49 l0 x).f1)).toNat,none⟩) HO.out (fun k hk => hk.1) _));have n2_ := As_ (show wc.heap[gb231]? = some (.cells (impl_LeanOps.bc (P1.set (((rd_T49 l0 x).f1)).toNat true)) 62 (0,0)) from (by rw [hw];exact blk_put (cs := impl_LeanOps.bc P1) BKp.out (((rd_T49 l0 x).f1)).toNat _ (impl_LeanOps.bc_set P1 (((rd_T49 l0 x).f1)).toNat)));have n3_ := As_ (show wc.heap[w7.heap.size]? = some om1 from (by rw [hw];exact impl_LeanOps.ofar BKm.out NPM.out.symm _));have n4_ := As_ (show Below w.heap.size w wc from (by rw [hw];exact bwS HB.out GEp.out));have n5_ := As_ (show wc.heap[gb237]? = some (.cells #[.int .i64 ((rd_T49 l0 x).f0),.int .i64 ((rd_T49 l0 x).f1)] 49 (0,0)) from (by rw [hw];exact blk_far BKo.out NPo.out.symm _));clear HI HO BKp BKm HB BKo hyo_0 hyo_1 hyf_0 hyf_1 hpz hpf;revert n0_ n1_ n2_ n3_ n4_ n5_;intro HI HO BKp BKm HB BKo;clear hw;obtain ⟨hyo_0,hyo_1,hyf_0,hyf_1⟩ := bk2 BKo.out;obtain ⟨Ai,ci,ei⟩ := Kd.R_slice HI.out;subst ei)|(go_at_call 72;(with_reducible refine (slices_Contains_int_int.calls k1 _ _ t228 x true _ ?side1 ?side2 A18.out).mono ?_);(case side1 => exact zC_ (Kd.R_reads' HI.out).2.2);(case side2 => exact (Kd.R_reads' HI.out).2.1);rintro e wk ⟨rfl,⟨nd,rfl⟩⟩;generalize hwd : wc.drewN nd = wd;have n0_ := As_ (show Kd.R (Kd.int .i64) 3 wd w.heap.size (fun k_ => k_ ≠ gb231 ∧ k_ ≠ w7.heap.size ∧ k_ < gb237) (.slice Ai t228.length ci) t228 from (by rw [← hwd];exact Kd.R_drewN HI.out _));have n1_ := As_ (show Kd.R k49 49 wd w.heap.size (fun k_ => k_ ≠ gb231 ∧ k_ ≠ w7.heap.size ∧ k_ < gb237) u6 x6 from (by rw [← hwd];exact Kd.R_drewN HO.out _));have n2_ := As_ (show wd.heap[gb231]? = some (.cells (impl_LeanOps.bc (P1.set (((rd_T49 l0 x).f1)).toNat true)) 62 (0,0)) from (by rw [← hwd];exact bkN BKp.out _));have n3_ := As_ (show wd.heap[w7.heap.size]? = some om1 from (by rw [← hwd];exact bkN BKm.out _));have n4_ := As_ (show Below w.heap.size w wd from (by rw [← hwd];exact bwN HB.out _));have n5_ := As_ (show wd.heap[gb237]? = some (.cells #[.int .i64 ((rd_T49 l0 x).f0),.int .i64 ((rd_T49 l0 x).f1)] 49 (0,0)) from (by rw [← hwd];exact bkN BKo.out _));clear HI HO BKp BKm HB BKo hyo_0 hyo_1 hyf_0 hyf_1;revert n0_ n1_ n2_ n3_ n4_ n5_;intro HI HO BKp BKm HB BKo;clear hwd;obtain ⟨hyo_0,hyo_1,hyf_0,hyf_1⟩ := bk2 BKo.out))
     go_roundg k1
     case measure => have := HK1.out;omega
     case rel => exact ⟨x6,wrap64 (x + 1),(P1.set (((rd_T49 l0 x).f1)).toNat true),T1,om1,zT_,H',⟨by have := HK1.out;omega⟩,⟨by have := HPL.out;rw [List.length_set];exact this⟩,HTO,⟨Kd.R_mono HI.out (fun _ h_ => ⟨h_.1,h_.2.1⟩)⟩,⟨Kd.R_mono HO.out (fun _ h_ => ⟨h_.1,h_.2.1⟩)⟩,BKp,BKm,HB⟩
    | false =>
     rw [if_neg (by decide)] at H
     cases hlk : T1.lookup ((rd_T49 l0 x).f1) with
     | some gv =>
      rw [hlk,if_pos (show (some gv).isSome = true from rfl),Option.getD_some] at H
      have HSome := As_ hlk
      have HGV := As_ (show (T1.lookup ((rd_T49 l0 x).f1)).getD 0 = gv by rw [hlk];rfl)
      clear hlk
      by_cases cl : x6.length < 8796093022208
      rotate_left
      ·rw [if_neg cl] at H
       cases H
      rw [if_pos cl] at H
      have LMO := As_ cl
      clear cl
      obtain ⟨y,hy⟩ : ∃ y_ : List S49,y_ = (x6 ++ [(⟨((rd_T49 l0 x).f0),gv⟩ : S49)]) := ⟨_,rfl⟩
      rw [← hy] at H
      have Ny := As_ hy
      clear hy
      have H' := As_ H
      clear H
      obtain ⟨ad236,e236,hx236_0,hx236_1⟩ := at_T49 HR0.out x c15 c14
      cases e236
      replace hx236_0 := bwC HB.out hx236_0
      replace hx236_1 := bwC HB.out hx236_1
      have p236 := eq_true c15
      have q236 := eq_true c14
      clear c15 c14
      go_wp2_with (first|((with_reducible refine gate_dst (N := 8) rfl ?_);refine box_event ?hg (N := 8) ?hd (cs := #[.int .i64 0,.int .i64 0]) (t := 49) ?hr ?_;(case hd => rfl);(case hg => rfl);(case hr => first|(go_simp;done)|(go_simp <;> rfl));intro gb237 hg wa hbox hb;have n0_ := As_ (show Kd.R (Kd.int .i64) 3 wa w.heap.size (fun k_ => k_ ≠ gb231 ∧ k_ ≠ w7.heap.size ∧ k_ < gb237) v229 t228 from (by rw [hg];exact Kd.R_mono (Kd.R_below (Kd.R_bound HI.out) hb) (fun k_ hk_ => ⟨hk_.1.1,hk_.1.2,hk_.2.2.1⟩)));have n1_ := As_ (show Kd.R k49 49 wa w.heap.size (fun k_ => k_ ≠ gb231 ∧ k_ ≠ w7.heap.size ∧ k_ < gb237) u6 x6 from (by rw [hg];exact Kd.R_mono (Kd.R_below (Kd.R_bound HO.out) hb) (fun k_ hk_ => ⟨hk_.1.1,hk_.1.2,hk_.2.2.1⟩)));have n2_ := As_ (zkb BKp.out hb);have n3_ := As_ (zkb BKm.out hb);have n4_ := As_ (bwT (zb0 HB.out) hb);have n5_ := As_ (hbox);have n6_ := As_ ((by rw [hg];exact (bwZ (zb0 HB.out)) : w.heap.size ≤ gb237));have n7_ := As_ ((by rw [hg];exact Nat.ne_of_lt (zkl BKp.out) : gb231 ≠ gb237));have n8_ := As_ ((by rw [hg];exact Nat.ne_of_lt (zkl BKm.out) : w7.heap.size ≠ gb237));clear HI HO BKp BKm HB;revert n0_ n1_ n2_ n3_ n4_ n5_ n6_ n7_ n8_;intro HI HO BKp BKm HB BKo GEo NPo NMo;clear hg hbox hb;obtain ⟨hzo_0,hzo_1,hzf_0,hzf_1⟩ := bk2 BKo.out)|((with_reducible refine gate_store (t := 49) (p := 8) rfl ?_);refine store_event (t := 49) (p := 8) (v := ?vo_wbf) (w1 := (wa.setCell ⟨gb237,0,none⟩ (.int .i64 ((rd_T49 l0 x).f0))).setCell ⟨gb237,1,none⟩ (.int .i64 ((rd_T49 l0 x).f1))) ?hg ?ho ?hn ?hr ?_;(case ho => rfl);(case hg => rfl);(case hn => rfl);(case hr => first|(go_simp;done)|(go_simp;rfl));intro wb hw;have n0_ := As_ (show Kd.R (Kd.int .i64) 3 wb w.heap.size (fun k_ => k_ ≠ gb231 ∧ k_ ≠ w7.heap.size ∧ k_ < gb237) v229 t228 from (by rw [hw];exact Kd.R_far (p := ⟨gb237,1,none⟩) (Kd.R_far (p := ⟨gb237,0,none⟩) HI.out (fun k hk => Nat.ne_of_lt hk.2.2) _) (fun k hk => Nat.ne_of_lt hk.2.2) _));have n1_ := As_ (show Kd.R k49 49 wb w.heap.size (fun k_ => k_ ≠ gb231 ∧ k_ ≠ w7.heap.size ∧ k_ < gb237) u6 x6 from (by rw [hw];exact Kd.R_far (p := ⟨gb237,1,none⟩) (Kd.R_far (p := ⟨gb237,0,none⟩) HO.out (fun k hk => Nat.ne_of_lt hk.2.2) _) (fun k hk => Nat.ne_of_lt hk.2.2) _));have n2_ := As_ (show wb.heap[gb231]? = some (.cells (impl_LeanOps.bc P1) 62 (0,0)) from (by rw [hw];exact blk_far (blk_far BKp.out NPo.out _) NPo.out _));have n3_ := As_ (show wb.heap[w7.heap.size]? = some om1 from (by rw [hw];exact impl_LeanOps.ofar (impl_LeanOps.ofar BKm.out NMo.out _) NMo.out _));have n4_ := As_ (show Below w.heap.size w wb from (by rw [hw];exact bwS (bwS HB.out GEo.out) GEo.out));have n5_ := As_ (show wb.heap[gb237]? = some (.cells #[.int .i64 ((rd_T49 l0 x).f0),.int .i64 ((rd_T49 l0 x).f1)] 49 (0,0)) from (by rw [hw];exact blk_put (cs := #[.int .i64 ((rd_T49 l0 x).f0),.int .i64 0]) (blk_put (cs := #[.int .i64 0,.int .i64 0]) BKo.out 0 _ rfl) 1 _ rfl));clear HI HO BKp BKm HB BKo hzo_0 hzo_1 hzf_0 hzf_1;revert n0_ n1_ n2_ n3_ n4_ n5_;intro HI HO BKp BKm HB BKo;clear hw;obtain ⟨hyo_0,hyo_1,hyf_0,hyf_1⟩ := bk2 BKo.out;have hpz := impl_LeanOps.bc_at BKp.out HIX.out;have hpf := bkF BKp.out (((rd_T49 l0 x).f1)).toNat)|((with_reducible refine gate_dst (N := 32) rfl ?_);refine impl_LeanOps.wp_index _ rfl 62 (.tmp 4) (.tmp 31) rfl Try.underlying62 HI4.out HZ4.out gb231 ((rd_T49 l0 x).f1) rfl rfl HR0x.out HR1x.out ?_)|((with_reducible refine gate_store (t := 4) (p := 32) rfl ?_);refine store_event (t := 4) (p := 32) (v := ?vo_wcf) (w1 := wb.setCell ⟨gb231,(((rd_T49 l0 x).f1)).toNat,none⟩ (.bool true)) ?hg ?ho ?hn ?hr ?_;(case ho => rfl);(case hg => rfl);(case hn => rfl);(case hr => first|(go_simp;done)|(go_simp;rfl));intro wc hw;have n0_ := As_ (show Kd.R (Kd.int .i64) 3 wc w.heap.size (fun k_ => k_ ≠ gb231 ∧ k_ ≠ w7.heap.size ∧ k_ < gb237) v229 t228 from (by rw [hw];exact Kd.R_far (p := ⟨gb231,(((rd_T49 l0 x).f1)).toNat,none⟩) HI.out (fun k hk => hk.1) _));have n1_ := As_ (show Kd.R k49 49 wc w.heap.size (fun k_ => k_ ≠ gb231 ∧ k_ ≠ w7.heap.size ∧ k_ < gb237) u6 x6 from (by rw [hw];exact Kd.R_far (p := ⟨gb231,(((rd_T49 l0 x).f1)).toNat,none⟩) HO.out (fun k hk => hk.1) _));have n2_ := As_ (show wc.heap[gb231]? = some (.cells (impl_LeanOps.bc (P1.set (((rd_T49 l0 x).f1)).toNat true)) 62 (0,0)) from (by rw [hw];exact blk_put (cs := impl_LeanOps.bc P1) BKp.out (((rd_T49 l0 x).f1)).toNat _ (impl_LeanOps.bc_set P1 (((rd_T49 l0 x).f1)).toNat)));have n3_ := As_ (show wc.heap[w7.heap.size]? = some om1 from (by rw [hw];exact impl_LeanOps.ofar BKm.out NPM.out.symm _));have n4_ := As_ (show Below w.heap.size w wc from (by rw [hw];exact bwS HB.out GEp.out));have n5_ := As_ (show wc.heap[gb237]? = some (.cells #[.int .i64 ((rd_T49 l0 x).f0),.int .i64 ((rd_T49 l0 x).f1)] 49 (0,0)) from (by rw [hw];exact blk_far BKo.out NPo.out.symm _));clear HI HO BKp BKm HB BKo hyo_0 hyo_1 hyf_0 hyf_1 hpz hpf;revert n0_ n1_ n2_ n3_ n4_ n5_;intro HI HO BKp BKm HB BKo;clear hw;obtain ⟨hyo_0,hyo_1,hyf_0,hyf_1⟩ := bk2 BKo.out;obtain ⟨Ai,ci,ei⟩ := Kd.R_slice HI.out;subst ei)|(go_at_call 72;(with_reducible refine (slices_Contains_int_int.calls k1 _ _ t228 x false _ ?side1 ?side2 A18.out).mono ?_);(case side1 => exact zC_ (Kd.R_reads' HI.out).2.2);(case side2 => exact (Kd.R_reads' HI.out).2.1);rintro e wk ⟨rfl,⟨nd,rfl⟩⟩;generalize hwd : wc.drewN nd = wd;have n0_ := As_ (show Kd.R (Kd.int .i64) 3 wd w.heap.size (fun k_ => k_ ≠ gb231 ∧ k_ ≠ w7.heap.size ∧ k_ < gb237) (.slice Ai t228.length ci) t228 from (by rw [← hwd];exact Kd.R_drewN HI.out _));have n1_ := As_ (show Kd.R k49 49 wd w.heap.size (fun k_ => k_ ≠ gb231 ∧ k_ ≠ w7.heap.size ∧ k_ < gb237) u6 x6 from (by rw [← hwd];exact Kd.R_drewN HO.out _));have n2_ := As_ (show wd.heap[gb231]? = some (.cells (impl_LeanOps.bc (P1.set (((rd_T49 l0 x).f1)).toNat true)) 62 (0,0)) from (by rw [← hwd];exact bkN BKp.out _));have n3_ := As_ (show wd.heap[w7.heap.size]? = some om1 from (by rw [← hwd];exact bkN BKm.out _));have n4_ := As_ (show Below w.heap.size w wd from (by rw [← hwd];exact bwN HB.out _));have n5_ := As_ (show wd.heap[gb237]? = some (.cells #[.int .i64 ((rd_T49 l0 x).f0),.int .i64 ((rd_T49 l0 x).f1)] 49 (0,0)) from (by rw [← hwd];exact bkN BKo.out _));clear HI HO BKp BKm HB BKo hyo_0 hyo_1 hyf_0 hyf_1;revert n0_ n1_ n2_ n3_ n4_ n5_;intro HI HO BKp BKm HB BKo;clear hwd;obtain ⟨hyo_0,hyo_1,hyf_0,hyf_1⟩ := bk2 BKo.out)|(at_lookup;refine wpList_tab_lookup_ok _ rfl _ _ 63 rfl 3 3 (Go.Maps.int_keyed Try.underlying3) Try.underlying63 (impl_LeanOps.zero_int _) (plainElem_int Try.underlying3 (by decide)) w7.heap.size iv iv T1 rfl (HTO.out _ (zk_ BKm.out)) ((rd_T49 l0 x).f1) (.int .i64 ((rd_T49 l0 x).f1)) rfl (Go.Maps.keyOf_int_mk Try.underlying3 hwf.out) (.int .i64 gv) true (by unfold tabAt;rw [HSome.out];rfl) (by rw [HSome.out];rfl) ?_)|(at_lookup;refine impl_LeanOps.look_v _ rfl _ _ 63 rfl 3 3 (Go.Maps.int_keyed Try.underlying3) Try.underlying63 (impl_LeanOps.zero_int _) (plainElem_int Try.underlying3 (by decide)) w7.heap.size iv iv T1 rfl (HTO.out _ (zk_ BKm.out)) ((rd_T49 l0 x).f1) (.int .i64 ((rd_T49 l0 x).f1)) rfl (Go.Maps.keyOf_int_mk Try.underlying3 hwf.out) (.int .i64 gv) (by have h_ := HGV.out;unfold tabAt;first|(rw [HSome.out];rfl)|(rw [← h_];cases T1.lookup ((rd_T49 l0 x).f1) <;> rfl)) ?_)|((with_reducible refine gate_store (t := 3) (p := 54) rfl ?_);refine store_event (t := 3) (p := 54) (v := ?vo_wff) (w1 := wd.setCell ⟨gb237,1,none⟩ (.int .i64 gv)) ?hg ?ho ?hn ?hr ?_;(case ho => rfl);(case hg => rfl);(case hn => rfl);(case hr => first|(go_simp;done)|(go_simp;rfl));intro wf hw;have n0_ := As_ (show Kd.R (Kd.int .i64) 3 wf w.heap.size (fun k_ => k_ ≠ gb231 ∧ k_ ≠ w7.heap.size ∧ k_ < gb237) (.slice Ai t228.length ci) t228 from (by rw [hw];exact Kd.R_far (p := ⟨gb237,1,none⟩) HI.out (fun k hk => Nat.ne_of_lt hk.2.2) _));have n1_ := As_ (show Kd.R k49 49 wf w.heap.size (fun k_ => k_ ≠ gb231 ∧ k_ ≠ w7.heap.size ∧ k_ < gb237) u6 x6 from (by rw [hw];exact Kd.R_far (p := ⟨gb237,1,none⟩) HO.out (fun k hk => Nat.ne_of_lt hk.2.2) _));have n2_ := As_ (show wf.heap[gb231]? = some (.cells (impl_LeanOps.bc (P1.set (((rd_T49 l0 x).f1)).toNat true)) 62 (0,0)) from (by rw [hw];exact blk_far BKp.out NPo.out _));have n3_ := As_ (show wf.heap[w7.heap.size]? = some om1 from (by rw [hw];exact impl_LeanOps.ofar BKm.out NMo.out _));have n4_ := As_ (show Below w.heap.size w wf from (by rw [hw];exact bwS HB.out GEo.out));have n5_ := As_ (show wf.heap[gb237]? = some (.cells #[.int .i64 ((rd_T49 l0 x).f0),.int .i64 gv] 49 (0,0)) from (by rw [hw];exact blk_put (cs := #[.int .i64 ((rd_T49 l0 x).f0),.int .i64 ((rd_T49 l0 x).f1)]) BKo.out 1 _ rfl));clear HI HO BKp BKm HB BKo hyo_0 hyo_1 hyf_0 hyf_1;revert n0_ n1_ n2_ n3_ n4_ n5_;intro HI HO BKp BKm HB BKo;clear hw;obtain ⟨hxo_0,hxo_1,hxf_0,hxf_1⟩ := bk2 BKo.out)|((with_reducible refine gate_builtin (b := .append) (xs := #[.tmp 67,.tmp 69]) rfl ?_);at_builtin;refine Kd.R_append k49 (w0 := w) w.heap.size rfl (.tmp 67) (.tmp 69) 25 49 (.agg #[(.int .i64 0),(.int .i64 0)]) 16 rfl Try.underlying25 info49 rfl (by decide) (by omega) u6 x6 (⟨((rd_T49 l0 x).f0),gv⟩ : S49) [.int .i64 ((rd_T49 l0 x).f0),.int .i64 gv] (fun k_ => k_ ≠ gb231 ∧ k_ ≠ w7.heap.size ∧ k_ ≠ gb237) (fun _ => False) rfl (by go_simp <;> rfl) ?aP (fun _ hk => hk.elim) ?aF ?aO ?aB ?aS ?aL ?_;(case aP => exact k49_mkM _ _ _ (⟨((rd_T49 l0 x).f0),gv⟩ : S49));(case aB => exact zb0 HB.out);(case aF => exact (fun k_ hk => ⟨Kd.freshB (g := gb231) (o := (.cells (impl_LeanOps.bc (P1.set (((rd_T49 l0 x).f1)).toNat true)) 62 (0,0))) (zk_ BKp.out) k_ hk,impl_LeanOps.freshO (zk_ BKm.out) hk,Kd.freshB (g := gb237) (o := (.cells #[.int .i64 ((rd_T49 l0 x).f0),.int .i64 gv] 49 (0,0))) (zk_ BKo.out) k_ hk⟩));(case aO => exact (by (with_reducible repeat (first|apply Kd.R_alloc|apply Kd.R_drewN|apply Kd.R_drew));exact Kd.R_mono HO.out (fun _ hk => ⟨hk.1,hk.2.1,Nat.ne_of_lt hk.2.2⟩)));(case aS => exact (bwZ (zb0 HB.out)));(case aL => have := LMO.out;omega);intro vn wn ho hb hg hat;rw [← Ny.out] at ho;have n0_ := As_ (Kd.R_over' (by (with_reducible repeat (first|apply Kd.R_alloc|apply Kd.R_drewN|apply Kd.R_drew));exact (Kd.R_mono (ok' := (fun k_ => k_ ≠ gb231 ∧ k_ ≠ w7.heap.size)) HI.out (fun _ h_ => ⟨h_.1,h_.2.1⟩))) (Kd.R_typed (zR_ HO.out)) (by decide) hg);have n1_ := As_ (blk_grown (zk_ BKp.out) hg (Kd.R_away HO.out (fun _ hk => hk.1)));have n2_ := As_ (blk_grown (zk_ BKm.out) hg (Kd.R_away HO.out (fun _ hk => hk.2.1)));have n3_ := As_ (hb);have n4_ := As_ (Kd.R_mono (ok' := (fun k_ => k_ ≠ gb231 ∧ k_ ≠ w7.heap.size)) ho (fun _ h_ => ⟨h_.1,h_.2.1⟩));clear HI HO BKp BKm HB BKo;revert n0_ n1_ n2_ n3_ n4_;intro HI BKp BKm HB HO;clear hb hg hat))
      go_roundg k1
      case measure => have := HK1.out;omega
      case rel => exact ⟨y,wrap64 (x + 1),(P1.set (((rd_T49 l0 x).f1)).toNat true),T1,om1,zT_,H',⟨by have := HK1.out;omega⟩,⟨by have := HPL.out;rw [List.length_set];exact this⟩,HTO,HI,HO,BKp,BKm,HB⟩
     | none =>
      rw [hlk,if_neg (by simp)] at H
      have HNone := As_ hlk
      clear hlk
      by_cases ct : T1.length < 17592186044000
      rotate_left
      ·rw [if_neg ct] at H
       cases H
      rw [if_pos ct] at H
      have HLT := As_ ct
      clear ct
      by_cases cl : x6.length < 8796093022208
      rotate_left
      ·rw [if_neg cl] at H
       cases H
      rw [if_pos cl] at H
      have LMO := As_ cl
      clear cl
      obtain ⟨y,hy⟩ : ∃ y_ : List S49,y_ = (x6 ++ [(⟨((rd_T49 l0 x).f0),(T1.length : Int)⟩ : S49)]) := ⟨_,rfl⟩
      rw [← hy] at H
      have Ny := As_ hy
      clear hy
      have H' := As_ H
      clear H
      obtain ⟨ad236,e236,hx236_0,hx236_1⟩ := at_T49 HR0.out x c15 c14
      cases e236
      replace hx236_0 := bwC HB.out hx236_0
      replace hx236_1 := bwC HB.out hx236_1
      have p236 := eq_true c15
      have q236 := eq_true c14
      clear c15 c14
      go_wp2_with (first|((with_reducible refine gate_dst (N := 8) rfl ?_);refine box_event ?hg (N := 8) ?hd (cs := #[.int .i64 0,.int .i64 0]) (t := 49) ?hr ?_;(case hd => rfl);(case hg => rfl);(case hr => first|(go_simp;done)|(go_simp <;> rfl));intro gb237 hg wa hbox hb;have n0_ := As_ (show Kd.R (Kd.int .i64) 3 wa w.heap.size (fun k_ => k_ ≠ gb231 ∧ k_ ≠ w7.heap.size ∧ k_ < gb237) v229 t228 from (by rw [hg];exact Kd.R_mono (Kd.R_below (Kd.R_bound HI.out) hb) (fun k_ hk_ => ⟨hk_.1.1,hk_.1.2,hk_.2.2.1⟩)));have n1_ := As_ (show Kd.R k49 49 wa w.heap.size (fun k_ => k_ ≠ gb231 ∧ k_ ≠ w7.heap.size ∧ k_ < gb237) u6 x6 from (by rw [hg];exact Kd.R_mono (Kd.R_below (Kd.R_bound HO.out) hb) (fun k_ hk_ => ⟨hk_.1.1,hk_.1.2,hk_.2.2.1⟩)));have n2_ := As_ (zkb BKp.out hb);have n3_ := As_ (zkb BKm.out hb);have n4_ := As_ (bwT (zb0 HB.out) hb);have n5_ := As_ (hbox);have n6_ := As_ ((by rw [hg];exact (bwZ (zb0 HB.out)) : w.heap.size ≤ gb237));have n7_ := As_ ((by rw [hg];exact Nat.ne_of_lt (zkl BKp.out) : gb231 ≠ gb237));have n8_ := As_ ((by rw [hg];exact Nat.ne_of_lt (zkl BKm.out) : w7.heap.size ≠ gb237));clear HI HO BKp BKm HB;revert n0_ n1_ n2_ n3_ n4_ n5_ n6_ n7_ n8_;intro HI HO BKp BKm HB BKo GEo NPo NMo;clear hg hbox hb;obtain ⟨hzo_0,hzo_1,hzf_0,hzf_1⟩ := bk2 BKo.out)|((with_reducible refine gate_store (t := 49) (p := 8) rfl ?_);refine store_event (t := 49) (p := 8) (v := ?vo_wbn) (w1 := (wa.setCell ⟨gb237,0,none⟩ (.int .i64 ((rd_T49 l0 x).f0))).setCell ⟨gb237,1,none⟩ (.int .i64 ((rd_T49 l0 x).f1))) ?hg ?ho ?hn ?hr ?_;(case ho => rfl);(case hg => rfl);(case hn => rfl);(case hr => first|(go_simp;done)|(go_simp;rfl));intro wb hw;have n0_ := As_ (show Kd.R (Kd.int .i64) 3 wb w.heap.size (fun k_ => k_ ≠ gb231 ∧ k_ ≠ w7.heap.size ∧ k_ < gb237) v229 t228 from (by rw [hw];exact Kd.R_far (p := ⟨gb237,1,none⟩) (Kd.R_far (p := ⟨gb237,0,none⟩) HI.out (fun k hk => Nat.ne_of_lt hk.2.2) _) (fun k hk => Nat.ne_of_lt hk.2.2) _));have n1_ := As_ (show Kd.R k49 49 wb w.heap.size (fun k_ => k_ ≠ gb231 ∧ k_ ≠ w7.heap.size ∧ k_ < gb237) u6 x6 from (by rw [hw];exact Kd.R_far (p := ⟨gb237,1,none⟩) (Kd.R_far (p := ⟨gb237,0,none⟩) HO.out (fun k hk => Nat.ne_of_lt hk.2.2) _) (fun k hk => Nat.ne_of_lt hk.2.2) _));have n2_ := As_ (show wb.heap[gb231]? = some (.cells (impl_LeanOps.bc P1) 62 (0,0)) from (by rw [hw];exact blk_far (blk_far BKp.out NPo.out _) NPo.out _));have n3_ := As_ (show wb.heap[w7.heap.size]? = some om1 from (by rw [hw];exact impl_LeanOps.ofar (impl_LeanOps.ofar BKm.out NMo.out _) NMo.out _));have n4_ := As_ (show Below w.heap.size w wb from (by rw [hw];exact bwS (bwS HB.out GEo.out) GEo.out));have n5_ := As_ (show wb.heap[gb237]? = some (.cells #[.int .i64 ((rd_T49 l0 x).f0),.int .i64 ((rd_T49 l0 x).f1)] 49 (0,0)) from (by rw [hw];exact blk_put (cs := #[.int .i64 ((rd_T49 l0 x).f0),.int .i64 0]) (blk_put (cs := #[.int .i64 0,.int .i64 0]) BKo.out 0 _ rfl) 1 _ rfl));clear HI HO BKp BKm HB BKo hzo_0 hzo_1 hzf_0 hzf_1;revert n0_ n1_ n2_ n3_ n4_ n5_;intro HI HO BKp BKm HB BKo;clear hw;obtain ⟨hyo_0,hyo_1,hyf_0,hyf_1⟩ := bk2 BKo.out;have hpz := impl_LeanOps.bc_at BKp.out HIX.out;have hpf := bkF BKp.out (((rd_T49 l0 x).f1)).toNat)|((with_reducible refine gate_dst (N := 32) rfl ?_);refine impl_LeanOps.wp_index _ rfl 62 (.tmp 4) (.tmp 31) rfl Try.underlying62 HI4.out HZ4.out gb231 ((rd_T49 l0 x).f1) rfl rfl HR0x.out HR1x.out ?_)|((with_reducible refine gate_store (t := 4) (p := 32) rfl ?_);refine store_event (t := 4) (p := 32) (v := ?vo_wcn) (w1 := wb.setCell ⟨gb231,(((rd_T49 l0 x).f1)).toNat,none⟩ (.bool true)) ?hg ?ho ?hn ?hr ?_;(case ho => rfl);(case hg => rfl);(case hn => rfl);(case hr => first|(go_simp;done)|(go_simp;rfl));intro wc hw;have n0_ := As_ (show Kd.R (Kd.int .i64) 3 wc w.heap.size (fun k_ => k_ ≠ gb231 ∧ k_ ≠ w7.heap.size ∧ k_ < gb237) v229 t228 from (by rw [hw];exact Kd.R_far (p := ⟨gb231,(((rd_T49 l0 x).f1)).toNat,none⟩) HI.out (fun k hk => hk.1) _));have n1_ := As_ (show Kd.R k49 49 wc w.heap.size (fun k_ => k_ ≠ gb231 ∧ k_ ≠ w7.heap.size ∧ k_ < gb237) u6 x6 from (by rw [hw];exact Kd.R_far (p := ⟨gb231,(((rd_T49 l0 x).f1)).toNat,none⟩) HO.out (fun k hk => hk.1) _));have n2_ := As_ (show wc.heap[gb231]? = some (.cells (impl_LeanOps.bc (P1.set (((rd_T49 l0 x).f1)).toNat true)) 62 (0,0)) from (by rw [hw];exact blk_put (cs := impl_LeanOps.bc P1) BKp.out (((rd_T49 l0 x).f1)).toNat _ (impl_LeanOps.bc_set P1 (((rd_T49 l0 x).f1)).toNat)));have n3_ := As_ (show wc.heap[w7.heap.size]? = some om1 from (by rw [hw];exact impl_LeanOps.ofar BKm.out NPM.out.symm _));have n4_ := As_ (show Below w.heap.size w wc from (by rw [hw];exact bwS HB.out GEp.out));have n5_ := As_ (show wc.heap[gb237]? = some (.cells #[.int .i64 ((rd_T49 l0 x).f0),.int .i64 ((rd_T49 l0 x).f1)] 49 (0,0)) from (by rw [hw];exact blk_far BKo.out NPo.out.symm _));clear HI HO BKp BKm HB BKo hyo_0 hyo_1 hyf_0 hyf_1 hpz hpf;revert n0_ n1_ n2_ n3_ n4_ n5_;intro HI HO BKp BKm HB BKo;clear hw;obtain ⟨hyo_0,hyo_1,hyf_0,hyf_1⟩ := bk2 BKo.out;obtain ⟨Ai,ci,ei⟩ := Kd.R_slice HI.out;subst ei)|(go_at_call 72;(with_reducible refine (slices_Contains_int_int.calls k1 _ _ t228 x false _ ?side1 ?side2 A18.out).mono ?_);(case side1 => exact zC_ (Kd.R_reads' HI.out).2.2);(case side2 => exact (Kd.R_reads' HI.out).2.1);rintro e wk ⟨rfl,⟨nd,rfl⟩⟩;generalize hwd : wc.drewN nd = wd;have n0_ := As_ (show Kd.R (Kd.int .i64) 3 wd w.heap.size (fun k_ => k_ ≠ gb231 ∧ k_ ≠ w7.heap.size ∧ k_ < gb237) (.slice Ai t228.length ci) t228 from (by rw [← hwd];exact Kd.R_drewN HI.out _));have n1_ := As_ (show Kd.R k49 49 wd w.heap.size (fun k_ => k_ ≠ gb231 ∧ k_ ≠ w7.heap.size ∧ k_ < gb237) u6 x6 from (by rw [← hwd];exact Kd.R_drewN HO.out _));have n2_ := As_ (show wd.heap[gb231]? = some (.cells (impl_LeanOps.bc (P1.set (((rd_T49 l0 x).f1)).toNat true)) 62 (0,0)) from (by rw [← hwd];exact bkN BKp.out _));have n3_ := As_ (show wd.heap[w7.heap.size]? = some om1 from (by rw [← hwd];exact bkN BKm.out _));have n4_ := As_ (show Below w.heap.size w wd from (by rw [← hwd];exact bwN HB.out _));have n5_ := As_ (show wd.heap[gb237]? = some (.cells #[.int .i64 ((rd_T49 l0 x).f0),.int .i64 ((rd_T49 l0 x).f1)] 49 (0,0)) from (by rw [← hwd];exact bkN BKo.out _));clear HI HO BKp BKm HB BKo hyo_0 hyo_1 hyf_0 hyf_1;revert n0_ n1_ n2_ n3_ n4_ n5_;intro HI HO BKp BKm HB BKo;clear hwd;obtain ⟨hyo_0,hyo_1,hyf_0,hyf_1⟩ := bk2 BKo.out)|(at_lookup;refine wpList_tab_lookup_ok _ rfl _ _ 63 rfl 3 3 (Go.Maps.int_keyed Try.underlying3) Try.underlying63 (impl_LeanOps.zero_int _) (plainElem_int Try.underlying3 (by decide)) w7.heap.size iv iv T1 rfl (HTO.out _ (zk_ BKm.out)) ((rd_T49 l0 x).f1) (.int .i64 ((rd_T49 l0 x).f1)) rfl (Go.Maps.keyOf_int_mk Try.underlying3 hwf.out) (.int .i64 0) false (by unfold tabAt;rw [HNone.out]) (by rw [HNone.out];rfl) ?_)|(at_len;refine wpList_tab_len _ rfl _ 63 rfl 3 3 Try.underlying63 w7.heap.size iv iv T1 rfl (HTO.out _ (zk_ BKm.out)) ?_)|(at_mapUpdate;refine wpList_tab_update _ rfl _ _ _ 63 rfl 3 3 (Go.Maps.int_keyed Try.underlying3) Try.underlying63 w7.heap.size iv iv T1 rfl (HTO.out _ (zk_ BKm.out)) (Nat.lt_of_lt_of_le HLT.out (by decide)) ((rd_T49 l0 x).f1) (T1.length : Int) (.int .i64 ((rd_T49 l0 x).f1)) (.lit (.int .i64 (T1.length : Int))) rfl rfl (Go.Maps.keyOf_int_mk Try.underlying3 hwf.out) (plainElem_int Try.underlying3 (impl_LeanOps.wf_len (Nat.lt_trans HLT.out (by decide)))) HNone.out (fun a_ h_ => iv_inj h_) ?_;intro we hs2 ht2;obtain ⟨om2,ho2⟩ : ∃ o_,we.heap[w7.heap.size]? = some o_ := ⟨_,Array.getElem?_eq_getElem hs2.lt⟩;have HTO2 := As_ (impl_LeanOps.TabO.of hs2 ho2);have n0_ := As_ (Kd.R_grown HI.out ht2.grown (fun k_ hk_ he_ => hk_.2.1 (by injection he_)));have n1_ := As_ (Kd.R_grown HO.out ht2.grown (fun k_ hk_ he_ => hk_.2.1 (by injection he_)));have n2_ := As_ (blk_grown BKp.out ht2.grown (fun e_ => NPM.out (Option.some.inj e_)));have n3_ := As_ (ho2);have n4_ := As_ (HB.out.grown ht2.grown HB.out.size (fun j hj => by cases hj;exact GEm.out));have n5_ := As_ (blk_grown BKo.out ht2.grown (fun e_ => NMo.out (Option.some.inj e_).symm));clear HI HO BKp BKm HB BKo hyo_0 hyo_1 hyf_0 hyf_1;revert n0_ n1_ n2_ n3_ n4_ n5_;intro HI HO BKp BKm HB BKo;clear hs2 ht2 ho2;obtain ⟨hyo_0,hyo_1,hyf_0,hyf_1⟩ := bk2 BKo.out)|(at_lookup;refine impl_LeanOps.look_v _ rfl _ _ 63 rfl 3 3 (Go.Maps.int_keyed Try.underlying3) Try.underlying63 (impl_LeanOps.zero_int _) (plainElem_int Try.underlying3 (by decide)) w7.heap.size iv iv (T1 ++ [(((rd_T49 l0 x).f1),(T1.length : Int))]) rfl (HTO2.out _ (zk_ BKm.out)) ((rd_T49 l0 x).f1) (.int .i64 ((rd_T49 l0 x).f1)) rfl (Go.Maps.keyOf_int_mk Try.underlying3 hwf.out) (.int .i64 (T1.length : Int)) (by unfold tabAt;rw [lookup_snoc _ _ _ _ HNone.out,if_pos rfl];rfl) ?_)|((with_reducible refine gate_store (t := 3) (p := 54) rfl ?_);refine store_event (t := 3) (p := 54) (v := ?vo_wfn) (w1 := we.setCell ⟨gb237,1,none⟩ (.int .i64 (T1.length : Int))) ?hg ?ho ?hn ?hr ?_;(case ho => rfl);(case hg => rfl);(case hn => rfl);(case hr => first|(go_simp;done)|(go_simp;rfl));intro wf hw;have n0_ := As_ (show Kd.R (Kd.int .i64) 3 wf w.heap.size (fun k_ => k_ ≠ gb231 ∧ k_ ≠ w7.heap.size ∧ k_ < gb237) (.slice Ai t228.length ci) t228 from (by rw [hw];exact Kd.R_far (p := ⟨gb237,1,none⟩) HI.out (fun k hk => Nat.ne_of_lt hk.2.2) _));have n1_ := As_ (show Kd.R k49 49 wf w.heap.size (fun k_ => k_ ≠ gb231 ∧ k_ ≠ w7.heap.size ∧ k_ < gb237) u6 x6 from (by rw [hw];exact Kd.R_far (p := ⟨gb237,1,none⟩) HO.out (fun k hk => Nat.ne_of_lt hk.2.2) _));have n2_ := As_ (show wf.heap[gb231]? = some (.cells (impl_LeanOps.bc (P1.set (((rd_T49 l0 x).f1)).toNat true)) 62 (0,0)) from (by rw [hw];exact blk_far BKp.out NPo.out _));have n3_ := As_ (show wf.heap[w7.heap.size]? = some om2 from (by rw [hw];exact impl_LeanOps.ofar BKm.out NMo.out _));have n4_ := As_ (show Below w.heap.size w wf from (by rw [hw];exact bwS HB.out GEo.out));have n5_ := As_ (show wf.heap[gb237]? = some (.cells #[.int .i64 ((rd_T49 l0 x).f0),.int .i64 (T1.length : Int)] 49 (0,0)) from (by rw [hw];exact blk_put (cs := #[.int .i64 ((rd_T49 l0 x).f0),.int .i64 ((rd_T49 l0 x).f1)]) BKo.out 1 _ rfl));clear HI HO BKp BKm HB BKo hyo_0 hyo_1 hyf_0 hyf_1;revert n0_ n1_ n2_ n3_ n4_ n5_;intro HI HO BKp BKm HB BKo;clear hw;obtain ⟨hxo_0,hxo_1,hxf_0,hxf_1⟩ := bk2 BKo.out)|((with_reducible refine gate_builtin (b := .append) (xs := #[.tmp 67,.tmp 69]) rfl ?_);at_builtin;refine Kd.R_append k49 (w0 := w) w.heap.size rfl (.tmp 67) (.tmp 69) 25 49 (.agg #[(.int .i64 0),(.int .i64 0)]) 16 rfl Try.underlying25 info49 rfl (by decide) (by omega) u6 x6 (⟨((rd_T49 l0 x).f0),(T1.length : Int)⟩ : S49) [.int .i64 ((rd_T49 l0 x).f0),.int .i64 (T1.length : Int)] (fun k_ => k_ ≠ gb231 ∧ k_ ≠ w7.heap.size ∧ k_ ≠ gb237) (fun _ => False) rfl (by go_simp <;> rfl) ?aP (fun _ hk => hk.elim) ?aF ?aO ?aB ?aS ?aL ?_;(case aP => exact k49_mkM _ _ _ (⟨((rd_T49 l0 x).f0),(T1.length : Int)⟩ : S49));(case aB => exact zb0 HB.out);(case aF => exact (fun k_ hk => ⟨Kd.freshB (g := gb231) (o := (.cells (impl_LeanOps.bc (P1.set (((rd_T49 l0 x).f1)).toNat true)) 62 (0,0))) (zk_ BKp.out) k_ hk,impl_LeanOps.freshO (zk_ BKm.out) hk,Kd.freshB (g := gb237) (o := (.cells #[.int .i64 ((rd_T49 l0 x).f0),.int .i64 (T1.length : Int)] 49 (0,0))) (zk_ BKo.out) k_ hk⟩));(case aO => exact (by (with_reducible repeat (first|apply Kd.R_alloc|apply Kd.R_drewN|apply Kd.R_drew));exact Kd.R_mono HO.out (fun _ hk => ⟨hk.1,hk.2.1,Nat.ne_of_lt hk.2.2⟩)));(case aS => exact (bwZ (zb0 HB.out)));(case aL => have := LMO.out;omega);intro vn wn ho hb hg hat;rw [← Ny.out] at ho;have n0_ := As_ (Kd.R_over' (by (with_reducible repeat (first|apply Kd.R_alloc|apply Kd.R_drewN|apply Kd.R_drew));exact (Kd.R_mono (ok' := (fun k_ => k_ ≠ gb231 ∧ k_ ≠ w7.heap.size)) HI.out (fun _ h_ => ⟨h_.1,h_.2.1⟩))) (Kd.R_typed (zR_ HO.out)) (by decide) hg);have n1_ := As_ (blk_grown (zk_ BKp.out) hg (Kd.R_away HO.out (fun _ hk => hk.1)));have n2_ := As_ (blk_grown (zk_ BKm.out) hg (Kd.R_away HO.out (fun _ hk => hk.2.1)));have n3_ := As_ (hb);have n4_ := As_ (Kd.R_mono (ok' := (fun k_ => k_ ≠ gb231 ∧ k_ ≠ w7.heap.size)) ho (fun _ h_ => ⟨h_.1,h_.2.1⟩));clear HI HO BKp BKm HB BKo;revert n0_ n1_ n2_ n3_ n4_;intro HI BKp BKm HB HO;clear hb hg hat))
      go_roundg k1
      case measure => have := HK1.out;omega
      case rel => exact ⟨y,wrap64 (x + 1),(P1.set (((rd_T49 l0 x).f1)).toNat true),(T1 ++ [(((rd_T49 l0 x).f1),(T1.length : Int))]),om2,zT_,H',⟨by have := HK1.out;omega⟩,⟨by have := HPL.out;rw [List.length_set];exact this⟩,HTO2,HI,HO,BKp,BKm,HB⟩

end Go.Proofs.Ytonppkaobnfldaa.Q
