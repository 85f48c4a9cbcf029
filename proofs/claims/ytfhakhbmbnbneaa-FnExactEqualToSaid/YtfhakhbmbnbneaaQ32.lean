-- Written by wip/tools/qprint.py (a program of this claim's author) by means of the kit's printer.
import Derived.Test.YtfhakhbmbnbneaaQ0
import Derived.Test.YtfhakhbmbnbneaaQ29
import Derived.Laws.EntriesVeiled
import Derived.Test.YtfhakhbmbnbneaaHtab
namespace Go.Proofs.Ytfhakhbmbnbneaa.Q
open Go.RowKit Go.Proofs.YtfhakhbmbnbneaaW.PrintWords Go.Proofs.YtfhakhbmbnbneaaW.PrintLast Go.Proofs.YtfhakhbmbnbneaaW.PrintMore
attribute [local go_sem] max2_int min2_int max_two min_two max_three min_three max_four min_four   -- for this text's walks alone
set_option linter.unusedVariables false
set_option linter.unusedSimpArgs false

/-! ### impl_EqualTo: function 32 -/
abbrev impl_EqualTo.Tab := List ((Int × Int × Int) × Bool)
def impl_EqualTo.lk (T : impl_EqualTo.Tab) (i j d : Int) : Option Bool := @List.lookup (Int × Int × Int) Bool instBEqOfDecidableEq (i,j,d) T
def impl_EqualTo.fin (i j d : Int) (is : Bool) (T : impl_EqualTo.Tab) : Option (Bool × impl_EqualTo.Tab) := if (impl_EqualTo.lk T i j d).isSome = true then none else (if T.length < 17592186044000 then (some (is,T ++ [((i,j,d),is)])) else none)
mutual
def impl_EqualTo.l0 : Nat → List S45 → List S45 → Int → Int → Int → Bool → Int → impl_EqualTo.Tab → Option (Bool × impl_EqualTo.Tab)
 | 0,_,_,_,_,_,_,_,_ => none
 | k + 1,a,b,i,j,d,is,x,T => if is = true then (if x < (((rd_T45 a i).f2).length : Int) then (if 0 ≤ x then (if x < (((rd_T45 b j).f2).length : Int) then ((impl_EqualTo.eq k a b (rd ((rd_T45 a i).f2) x) (rd ((rd_T45 b j).f2) x) (wrap64 (d - 1)) T).bind fun t => (impl_EqualTo.l0 k a b i j d t.1 (wrap64 (x + 1)) t.2)) else none) else none) else (impl_EqualTo.fin i j d is T)) else (impl_EqualTo.fin i j d is T)
def impl_EqualTo.j0 : Nat → List S45 → List S45 → Int → Int → Int → Bool → impl_EqualTo.Tab → Option (Bool × impl_EqualTo.Tab)
 | 0,_,_,_,_,_,_,_ => none
 | k + 1,a,b,i,j,d,is,T => impl_EqualTo.l0 k a b i j d is 0 T
def impl_EqualTo.eq : Nat → List S45 → List S45 → Int → Int → Int → impl_EqualTo.Tab → Option (Bool × impl_EqualTo.Tab)
 | 0,_,_,_,_,_,_ => none
 | k + 1,a,b,i,j,d,T => if d = 0 then (some (true,T)) else (if 0 ≤ i then (if i < (a.length : Int) then (if 0 ≤ j then (if j < (b.length : Int) then (if 0 ≤ d then (if d ≤ 1000 then (if (impl_EqualTo.lk T i j d).isSome = true then (some ((impl_EqualTo.lk T i j d).getD false,T)) else (if ((rd_T45 a i).f0) = ((rd_T45 b j).f0) then (if ((rd_T45 a i).f1) = ((rd_T45 b j).f1) then (impl_EqualTo.j0 k a b i j d ((((rd_T45 a i).f2).length : Int) == (((rd_T45 b j).f2).length : Int)) T) else (impl_EqualTo.j0 k a b i j d false T)) else (impl_EqualTo.j0 k a b i j d false T))) else none) else none) else none) else none) else none) else none)
end
def impl_EqualTo.f (k : Nat) (l0_0 : List (S45)) (a0_1 : Int) (l1_0 : List (S45)) (a1_1 : Int) (a2 : Int) : Option (Bool) := (impl_ValidGraph.f k l0_0 a0_1).bind fun t => (if t = true then ((impl_ValidGraph.f k l1_0 a1_1).bind fun u => (if u = true then (if a2 < 0 then (some false) else (if a2 > 8 then (some false) else ((impl_EqualTo.eq k l0_0 l1_0 a0_1 a1_1 a2 []).bind fun r => (some r.1)))) else (some false))) else (some false))
set_option maxRecDepth 100000 in
theorem impl_EqualTo.mono_l : ∀ k,(∀ y0 y1 y2 y3 y4 y5,LeO (impl_EqualTo.eq k y0 y1 y2 y3 y4 y5) (impl_EqualTo.eq (k + 1) y0 y1 y2 y3 y4 y5)) ∧ (∀ y0 y1 y2 y3 y4 y5 y6,LeO (impl_EqualTo.j0 k y0 y1 y2 y3 y4 y5 y6) (impl_EqualTo.j0 (k + 1) y0 y1 y2 y3 y4 y5 y6)) ∧ (∀ y0 y1 y2 y3 y4 y5 y6 y7,LeO (impl_EqualTo.l0 k y0 y1 y2 y3 y4 y5 y6 y7) (impl_EqualTo.l0 (k + 1) y0 y1 y2 y3 y4 y5 y6 y7))
 | 0 => ⟨fun _ _ _ _ _ _ r h => (by simp [impl_EqualTo.eq] at h),fun _ _ _ _ _ _ _ r h => (by simp [impl_EqualTo.j0] at h),fun _ _ _ _ _ _ _ _ r h => (by simp [impl_EqualTo.l0] at h)⟩
 | k + 1 => by
  obtain ⟨ih0,ih1,ih2⟩ := impl_EqualTo.mono_l k
  refine ⟨?_,?_,?_⟩
  ·intro y0 y1 y2 y3 y4 y5
   unfold impl_EqualTo.eq
   repeat' with_reducible first
   | exact ih1 _ _ _ _ _ _ _
   | exact LeO.refl _
   | exact LeO.none _
   | refine LeO.ite ?_ ?_
  ·intro y0 y1 y2 y3 y4 y5 y6
   unfold impl_EqualTo.j0
   exact ih2 _ _ _ _ _ _ _ _
  ·intro y0 y1 y2 y3 y4 y5 y6 y7
   unfold impl_EqualTo.l0
   repeat' with_reducible first
   | exact ih0 _ _ _ _ _ _
   | exact ih2 _ _ _ _ _ _ _ _
   | exact LeO.refl _
   | exact LeO.none _
   | refine LeO.ite ?_ ?_
   | refine LeO.bind ?_ (fun _ => ?_)
theorem impl_EqualTo.mono : ∀ a0 a1 a2 a3 a4 k,LeO (impl_EqualTo.f k a0 a1 a2 a3 a4) (impl_EqualTo.f (k + 1) a0 a1 a2 a3 a4) := by
 intro a0 a1 a2 a3 a4 k
 have ih0 := (impl_EqualTo.mono_l k).1
 unfold impl_EqualTo.f
 repeat' with_reducible first
 | exact ih0 _ _ _ _ _ _
 | exact impl_ValidGraph.mono _ _ _
 | exact LeO.refl _
 | exact LeO.none _
 | refine LeO.ite ?_ ?_
 | refine LeO.bind ?_ (fun _ => ?_)
theorem impl_EqualTo.fin_some {i j d : Int} {is r : Bool} {T T' : impl_EqualTo.Tab} (h : impl_EqualTo.fin i j d is T = some (r,T')) : impl_EqualTo.lk T i j d = none ∧ T.length < 17592186044000 ∧ is = r ∧ T ++ [((i,j,d),is)] = T' := by
 unfold impl_EqualTo.fin at h
 by_cases h1 : (impl_EqualTo.lk T i j d).isSome = true
 ·rw [if_pos h1] at h
  cases h
 rw [if_neg h1] at h
 by_cases h2 : T.length < 17592186044000
 rotate_left
 ·rw [if_neg h2] at h
  cases h
 rw [if_pos h2] at h
 simp only [Option.some.injEq,Prod.mk.injEq] at h
 refine ⟨?_,h2,h.1,h.2⟩
 cases hn : impl_EqualTo.lk T i j d with
 | none => rfl
 | some n => exact absurd (by rw [hn];rfl) h1
theorem impl_EqualTo.zero_bool (w : World) : (zeroValue 4).run Try.prog w = .ok (.bool false) w := by kernel_rfl
theorem impl_EqualTo.wf_of {x : Int} {n : Nat} (h0 : 0 ≤ x) (h1 : x < (n : Int)) (hn : n ≤ 9223372036854775807) : (Lit.int .i64 x).wf = true := by
 simp [Lit.wf,IntKind.min,IntKind.max,IntKind.bits,IntKind.signed]
 omega
/-- The map's keys and elements. -/
def impl_EqualTo.kv (p : Int × Int × Int) : Value := .agg #[.int .i64 p.1,.int .i64 p.2.1,.int .i64 p.2.2]
def impl_EqualTo.bv (b : Bool) : Value := .bool b
theorem impl_EqualTo.kv_inj {p q : Int × Int × Int} (h : impl_EqualTo.kv p = impl_EqualTo.kv q) : p = q := by
 obtain ⟨a,b,c⟩ := p
 obtain ⟨x,y,z⟩ := q
 simp only [impl_EqualTo.kv,Value.agg.injEq,Array.mk.injEq,List.cons.injEq,Value.int.injEq,and_true,true_and] at h
 rw [h.1,h.2.1,h.2.2]
theorem impl_EqualTo.keyed : Go.Maps.Keyed Try.prog 68 := Go.Maps.Keyed.of_law (deep_law_gate (by kernel_rfl) (by decide) (by decide) (by kernel_rfl) (by kernel_rfl))
theorem impl_EqualTo.key_of {i j d : Int} (hi : (Lit.int .i64 i).wf = true) (hj : (Lit.int .i64 j).wf = true) (hd : (Lit.int .i64 d).wf = true) : ∃ kl,keyOf Try.prog 68 (impl_EqualTo.kv (i,j,d)) = some kl := by
 have h68 := Try.underlying68
 have h3 := Try.underlying3
 have h1 : Try.prog.keyType 68 = true := by kernel_rfl
 have h2 : (Value.agg #[.int .i64 i,.int .i64 j,.int .i64 d]).formed Try.prog 68 = true := by rfl
 have c3 : Try.prog.cellsOf 3 = 1 := by kernel_rfl
 have c68 : Try.prog.cellsOf 68 = 3 := by kernel_rfl
 have hc : (Value.agg #[.int .i64 i,.int .i64 j,.int .i64 d]).cells.toList = [.int .i64 i,.int .i64 j,.int .i64 d] := by rfl
 have e0 : ∀ (n : Nat) (x : Int),(Lit.int .i64 x).wf = true → Try.prog.keyLits (n + 1) 3 [.int .i64 x] = some [.int .i64 x] := by
  intro n x hx
  unfold Program.keyLits
  rw [h3]
  simp only [hx,and_self,if_true]
 obtain ⟨n,hn⟩ : ∃ n,Try.prog.types.size = n + 1 := ⟨Try.prog.types.size - 1,by decide⟩
 have e1 : Try.prog.keyLits (Try.prog.types.size + 1) 68 [.int .i64 i,.int .i64 j,.int .i64 d] = some [.int .i64 i,.int .i64 j,.int .i64 d] := by
  rw [hn]
  unfold Program.keyLits
  rw [h68]
  simp only [c68,c3,List.length_cons,List.length_nil,List.range,List.range.loop,List.mapM_cons,List.mapM_nil,Nat.zero_mul,Nat.one_mul,Nat.mul_one,List.drop_zero,List.drop_succ_cons,List.take_succ_cons,List.take_zero,Option.bind_eq_bind,Option.pure_def,Option.bind_some,Option.map_some,List.flatten_cons,List.flatten_nil,List.nil_append,List.cons_append,if_true,e0 _ _ hi,e0 _ _ hj,e0 _ _ hd,Nat.zero_add,Nat.reduceAdd]
 unfold keyOf
 rw [h68]
 simp only [impl_EqualTo.kv,h1,h2,hc,e1,Bool.and_self,if_true,Option.map_some]
 exact ⟨_,rfl⟩
def impl_EqualTo.TabO (b : Nat) (o : Obj) (T : impl_EqualTo.Tab) : Prop := ∀ w : World,w.heap[b]? = some o → TabIs Try.prog 68 4 w b impl_EqualTo.kv impl_EqualTo.bv T
theorem impl_EqualTo.TabO.of {w : World} {b : Nat} {o : Obj} {T : impl_EqualTo.Tab} (h : TabIs Try.prog 68 4 w b impl_EqualTo.kv impl_EqualTo.bv T) (ho : w.heap[b]? = some o) : impl_EqualTo.TabO b o T := fun w' h' => h.block (h'.trans ho.symm)
/-- What is kept since the outermost call,and since this call. -/
def impl_EqualTo.R2 (w0 w : World) (b : Nat) (X : World) : Prop := w0.heap.size ≤ w.heap.size ∧ Below w0.heap.size w0 X ∧ KeepBut w X b none
section
variable {w0 w X Y : World} {b : Nat}
theorem impl_EqualTo.R2b (h : impl_EqualTo.R2 w0 w b X) : Below w0.heap.size w0 X := h.2.1
theorem impl_EqualTo.qT (h : impl_EqualTo.R2 w0 w b X) (k : Below X.heap.size X Y) : impl_EqualTo.R2 w0 w b Y := ⟨h.1,bwT h.2.1 k,h.2.2.trans (KeepBut.of_below k b none) (.inl rfl)⟩
theorem impl_EqualTo.qK (h : impl_EqualTo.R2 w0 w b X) (k : KeepBut X Y b none) (hb : Below w0.heap.size w0 Y) : impl_EqualTo.R2 w0 w b Y := ⟨h.1,hb,h.2.2.trans k (.inl rfl)⟩
theorem impl_EqualTo.qZ (h : impl_EqualTo.R2 w0 w b X) : w.heap.size ≤ X.heap.size := h.2.2.1
theorem impl_EqualTo.qD (h : impl_EqualTo.R2 w0 w b X) : impl_EqualTo.R2 w0 w b X.drew := ⟨h.1,bwD h.2.1,keep_drew h.2.2⟩
theorem impl_EqualTo.qN (h : impl_EqualTo.R2 w0 w b X) (n : Nat) : impl_EqualTo.R2 w0 w b (X.drewN n) := ⟨h.1,bwN h.2.1 n,keep_drewN h.2.2 n⟩
theorem impl_EqualTo.qA (h : impl_EqualTo.R2 w0 w b X) (o : Obj) : impl_EqualTo.R2 w0 w b (X.alloc o) := ⟨h.1,bwA h.2.1 o,keep_alloc h.2.2 o⟩
theorem impl_EqualTo.qS {g j : Nat} {v : Value} (h : impl_EqualTo.R2 w0 w b X) (hg : w.heap.size ≤ g) : impl_EqualTo.R2 w0 w b (X.setCell ⟨g,j,none⟩ v) := ⟨h.1,bwS h.2.1 (Nat.le_trans h.1 hg),keep_far h.2.2 hg _⟩
theorem impl_EqualTo.qU (h : impl_EqualTo.R2 w0 w b X) (k : X.grownBy Y (some b)) (hb : w0.heap.size ≤ b) : impl_EqualTo.R2 w0 w b Y :=
 ⟨h.1,h.2.1.grown k h.2.1.size (fun j hj => by cases hj;exact hb),h.2.2.trans ⟨k.size,fun i hi hne _ => k.block i hi (fun e => hne (Option.some.inj e))⟩ (.inl rfl)⟩
end
theorem impl_EqualTo.zy0 {P Q : Prop} (h : P) (f : P → Q := by intro h_;repeat (first|(with_reducible first|exact h_|apply impl_EqualTo.qA|apply impl_EqualTo.qN|apply impl_EqualTo.qD)|exact h_)) : Q := f h
theorem impl_EqualTo.zy1 {P Q A : Prop} (h : P) (a : A) (f : P → A → Q := by intro h_ a_;repeat (first|(with_reducible first|exact h_|apply impl_EqualTo.qA|apply impl_EqualTo.qN|apply impl_EqualTo.qD|refine impl_EqualTo.qS ?_ a_)|exact h_)) : Q := f h a
theorem impl_EqualTo.zy2 {P Q A B : Prop} (h : P) (a : A) (b : B) (f : P → A → B → Q := by intro h_ a_ b_;repeat (first|(with_reducible first|exact h_|apply impl_EqualTo.qA|apply impl_EqualTo.qN|apply impl_EqualTo.qD|refine impl_EqualTo.qS ?_ a_|refine impl_EqualTo.qS ?_ b_)|exact h_)) : Q := f h a b
theorem impl_EqualTo.ofar {w : World} {g : Nat} {o : Obj} (h : w.heap[g]? = some o) {p : Addr} (hp : g ≠ p.block) (u : Value) : (w.setCell p u).heap[g]? = some o := (Below.heap_setCell w p u g hp).trans h
/-- A call of a function's value that carries addresses. -/
theorem impl_EqualTo.goesV {P : Program} {ops : Array Oper} {Q : Exit → Act → World → Prop} {oi : Oper} {N : Option Tmp} {a : Act} {w : World} {K : Act → World → Prop} {f : FuncId} {fn : Func} {us : Array Operand} {ts : Array TypeId} {m : Operand} {caps xs : Array Value} (hf : P.funcs[f]? = some fn) (hname : (fn.name == "runtime.NumGoroutine") = false) (args : Array Value)
  (hw : Region.wanted oi (yielded ops a.tmps) = true) (hN : oi.dst = N) (hop : oi.op = .call { callee := .value m,args := us,argTypes := ts }) (hm : a.eval m = .func (.func f) #[] caps) (hargs : us.map a.eval = xs) (happ : xs ++ caps = args)
  (h : Calls P f args w fun e w' => ∃ v,e = .returned v ∧ K (a.put N v) w') (hb : fn.body.isSome = true := by rfl) : if Region.wanted oi (yielded ops a.tmps) = true then Oper.wp P oi a w K Q else K (a.put N undef) w := by
 refine call_ f args hw hN ?_ h
 have he := enters_ hf hname hb args w
 unfold execOp
 simp [hop,resolve,Deferred.ofValue,invoke,hm,hargs,happ,he]
/-- What lies in memory while the closure walks. -/
def impl_EqualTo.Inv (l0_0 : List S45) (A0_0 : Option Addr) (c0_0 : Nat) (a0_1 : Int) (l1_0 : List S45) (A1_0 : Option Addr) (c1_0 : Nat) (a1_1 : Int) (gb246 gb244 gb245 gb247 gb248 : Nat) (w0 w : World) (om : Obj) (T : impl_EqualTo.Tab) : Prop :=
 w.heap[gb246]? = some (.cells #[.map (some gb248)] 67 (0,0)) ∧ w.heap[gb244]? = some (.cells #[.slice A0_0 l0_0.length c0_0,.int .i64 a0_1] 29 (0,0)) ∧ w.heap[gb245]? = some (.cells #[.slice A1_0 l1_0.length c1_0,.int .i64 a1_1] 29 (0,0)) ∧ w.heap[gb247]? = some (.cells #[.func (.func 72) #[] #[.pointer (some ⟨gb246,0,none⟩),.pointer (some ⟨gb244,0,none⟩),.pointer (some ⟨gb245,0,none⟩),.pointer (some ⟨gb247,0,none⟩)]] 65 (0,0)) ∧ w.heap[gb248]? = some om ∧ impl_EqualTo.TabO gb248 om T ∧ Below w0.heap.size w0 w
theorem impl_EqualTo.Inv.mk {l0_0 : List S45} {A0_0 : Option Addr} {c0_0 : Nat} {a0_1 : Int} {l1_0 : List S45} {A1_0 : Option Addr} {c1_0 : Nat} {a1_1 : Int} {gb246 gb244 gb245 gb247 gb248 : Nat} {w0 w : World} {om : Obj} {T : impl_EqualTo.Tab}
  (h1 : w.heap[gb246]? = some (.cells #[.map (some gb248)] 67 (0,0))) (h2 : w.heap[gb244]? = some (.cells #[.slice A0_0 l0_0.length c0_0,.int .i64 a0_1] 29 (0,0))) (h3 : w.heap[gb245]? = some (.cells #[.slice A1_0 l1_0.length c1_0,.int .i64 a1_1] 29 (0,0))) (h4 : w.heap[gb247]? = some (.cells #[.func (.func 72) #[] #[.pointer (some ⟨gb246,0,none⟩),.pointer (some ⟨gb244,0,none⟩),.pointer (some ⟨gb245,0,none⟩),.pointer (some ⟨gb247,0,none⟩)]] 65 (0,0))) (h5 : w.heap[gb248]? = some om) (h6 : impl_EqualTo.TabO gb248 om T) (h7 : Below w0.heap.size w0 w) :
  impl_EqualTo.Inv l0_0 A0_0 c0_0 a0_1 l1_0 A1_0 c1_0 a1_1 gb246 gb244 gb245 gb247 gb248 w0 w om T := ⟨h1,h2,h3,h4,h5,h6,h7⟩
def impl_EqualTo.Five (gb246 gb244 gb245 gb247 gb248 : Nat) (w0 : World) : Prop := w0.heap.size ≤ gb248 ∧ gb244 ≠ gb248 ∧ gb245 ≠ gb248 ∧ gb246 ≠ gb248 ∧ gb247 ≠ gb248
theorem impl_EqualTo.five_of {gb246 gb244 gb245 gb247 b : Nat} {w0 : World} (h : w0.heap.size ≤ b ∧ gb244 < b ∧ gb245 < b) (h2 : b < gb246) (h3 : b < gb247) : impl_EqualTo.Five gb246 gb244 gb245 gb247 b w0 := ⟨h.1,Nat.ne_of_lt h.2.1,Nat.ne_of_lt h.2.2,Nat.ne_of_gt h2,Nat.ne_of_gt h3⟩
theorem impl_EqualTo.ge_ {gb246 gb244 gb245 gb247 gb248 : Nat} {w0 : World} (h : impl_EqualTo.Five gb246 gb244 gb245 gb247 gb248 w0) : w0.heap.size ≤ gb248 := h.1
theorem impl_EqualTo.ne_244 {gb246 gb244 gb245 gb247 gb248 : Nat} {w0 : World} (h : impl_EqualTo.Five gb246 gb244 gb245 gb247 gb248 w0) : some gb244 ≠ some gb248 := fun e => h.2.1 (Option.some.inj e)
theorem impl_EqualTo.ne_245 {gb246 gb244 gb245 gb247 gb248 : Nat} {w0 : World} (h : impl_EqualTo.Five gb246 gb244 gb245 gb247 gb248 w0) : some gb245 ≠ some gb248 := fun e => h.2.2.1 (Option.some.inj e)
theorem impl_EqualTo.ne_246 {gb246 gb244 gb245 gb247 gb248 : Nat} {w0 : World} (h : impl_EqualTo.Five gb246 gb244 gb245 gb247 gb248 w0) : some gb246 ≠ some gb248 := fun e => h.2.2.2.1 (Option.some.inj e)
theorem impl_EqualTo.ne_247 {gb246 gb244 gb245 gb247 gb248 : Nat} {w0 : World} (h : impl_EqualTo.Five gb246 gb244 gb245 gb247 gb248 w0) : some gb247 ≠ some gb248 := fun e => h.2.2.2.2 (Option.some.inj e)
def impl_EqualTo.T7 : Bool × List (List Nat × List Nat) := (true,[([],[]),([0],[0]),([],[]),([1,2],[1,2]),([3],[3]),([],[]),([5],[5]),([],[]),([6,7],[6,7]),([8],[8]),([],[]),([],[]),([10,4,0,1,2,3,4,10,11],[4,10]),([11,9,12,0,1,2,3,4,5,6,7,8,9,10,11,12],[9,11])])
def impl_EqualTo.B7 : List Nat := [0,1,0,7,15,0,32,0,224,480,0,0,3103,8191]
theorem impl_EqualTo.tab7 : rtab .any (opsOf Try.f72 7) = impl_EqualTo.T7 := by kernel_rfl
theorem impl_EqualTo.bits7 : waitsOk impl_EqualTo.T7.2 impl_EqualTo.B7 = true := by kernel_rfl
def impl_EqualTo.T12 : Bool × List (List Nat × List Nat) := (true,[([],[]),([],[]),([1],[1]),([],[]),([2,3],[2,3]),([4],[4]),([],[]),([6],[6]),([],[]),([7,8],[7,8]),([9],[9]),([],[]),([11],[11]),([0,5,10,12],[0,5,10,12]),([13,13,0,1,2,3,4,5,6,7,8,9,10,11,12,13],[13])])
def impl_EqualTo.B12 : List Nat := [0,0,2,0,14,30,0,64,0,448,960,0,2048,8191,16383]
theorem impl_EqualTo.tab12 : rtab .any (opsOf Try.f72 12) = impl_EqualTo.T12 := by kernel_rfl
theorem impl_EqualTo.bits12 : waitsOk impl_EqualTo.T12.2 impl_EqualTo.B12 = true := by kernel_rfl
set_option maxHeartbeats 8000000 in
set_option maxRecDepth 100000 in
theorem impl_EqualTo.lit (l0_0 : List S45) (A0_0 : Option Addr) (c0_0 : Nat) (a0_1 : Int) (l1_0 : List S45) (A1_0 : Option Addr) (c1_0 : Nat) (a1_1 : Int) (gb246 gb244 gb245 gb247 gb248 : Nat) (w0 : World) (hr0_0 : Kd.C k45 w0 A0_0 l0_0.length l0_0) (hc0_0 : l0_0.length ≤ c0_0) (hr1_0 : Kd.C k45 w0 A1_0 l1_0.length l1_0) (hc1_0 : l1_0.length ≤ c1_0) (h5 : impl_EqualTo.Five gb246 gb244 gb245 gb247 gb248 w0) (k : Nat) :
  ∀ (a2 a3 a4 : Int) (T : impl_EqualTo.Tab) (r : Bool) (T' : impl_EqualTo.Tab) (om : Obj) (w : World),impl_EqualTo.Inv l0_0 A0_0 c0_0 a0_1 l1_0 A1_0 c1_0 a1_1 gb246 gb244 gb245 gb247 gb248 w0 w om T → impl_EqualTo.eq k l0_0 l1_0 a2 a3 a4 T = some (r,T') →
   Calls Try.prog 72 #[.int .i64 a2,.int .i64 a3,.int .i64 a4,.pointer (some ⟨gb246,0,none⟩),.pointer (some ⟨gb244,0,none⟩),.pointer (some ⟨gb245,0,none⟩),.pointer (some ⟨gb247,0,none⟩)] w fun e w' => e = .returned (.bool r) ∧ ∃ om',impl_EqualTo.Inv l0_0 A0_0 c0_0 a0_1 l1_0 A1_0 c1_0 a1_1 gb246 gb244 gb245 gb247 gb248 w0 w' om' T' ∧ KeepBut w w' gb248 none := by
 induction k using Nat.strongRecOn with
 | _ k ih =>
 intro a2 a3 a4 T r T' om w hI h
 cases k with
 | zero => exact absurd h (by simp [impl_EqualTo.eq])
 | succ k =>
 unfold impl_EqualTo.eq at h
 have hu29 := Try.underlying29
 have hu45 := Try.underlying45
 have hmax0 := Kd.C_max hr0_0
 have hmax1 := Kd.C_max hr1_0
 have HR0_0 := As_ hr0_0
 have HC0_0 := As_ hc0_0
 have HR1_0 := As_ hr1_0
 have HC1_0 := As_ hc1_0
 have H5 := As_ h5
 have HI := As_ hI
 have H := h
 clear h h5 hI
 by_cases c10 : a4 = 0
 ·rw [if_pos c10] at H
  have c10b0 : (a4 == 0) = true := beq_iff_eq.mpr c10
  simp only [Option.some.injEq,Prod.mk.injEq] at H
  obtain ⟨rfl,rfl⟩ := H
  clear c10
  go_enter Try.func72,Try.ntmps72
  go_wp2
  go_ret
  exact ⟨zE_,om,HI.out,KeepBut.refl _ _ _⟩
 rw [if_neg c10] at H
 have c10b0 : (a4 == 0) = false := beq_eq_false_iff_ne.mpr c10
 have c10b1 : (a4 != 0) = true := bne_iff_ne.mpr c10
 by_cases c17 : 0 ≤ a2
 rotate_left
 ·rw [if_neg c17] at H
  exact absurd H (by simp)
 rw [if_pos c17] at H
 by_cases c18 : a2 < (l0_0.length : Int)
 rotate_left
 ·rw [if_neg c18] at H
  exact absurd H (by simp)
 rw [if_pos c18] at H
 by_cases c19 : 0 ≤ a3
 rotate_left
 ·rw [if_neg c19] at H
  exact absurd H (by simp)
 rw [if_pos c19] at H
 by_cases c20 : a3 < (l1_0.length : Int)
 rotate_left
 ·rw [if_neg c20] at H
  exact absurd H (by simp)
 rw [if_pos c20] at H
 by_cases c21 : 0 ≤ a4
 rotate_left
 ·rw [if_neg c21] at H
  exact absurd H (by simp)
 rw [if_pos c21] at H
 by_cases c22 : a4 ≤ 1000
 rotate_left
 ·rw [if_neg c22] at H
  exact absurd H (by simp)
 rw [if_pos c22] at H
 obtain ⟨kl,hkl⟩ := impl_EqualTo.key_of (impl_EqualTo.wf_of c17 c18 hmax0) (impl_EqualTo.wf_of c19 c20 hmax1) (impl_EqualTo.wf_of (n := 1001) c21 (by omega) (by omega))
 have HKL := As_ hkl
 clear hkl c21 c22 hmax0 hmax1
 have c17b0 : decide (0 ≤ a2) = true := deT c17
 have c18b0 : decide (a2 < (l0_0.length : Int)) = true := deT c18
 have c19b0 : decide (0 ≤ a3) = true := deT c19
 have c20b0 : decide (a3 < (l1_0.length : Int)) = true := deT c20
 clear c17 c18 c19 c20
 obtain ⟨i246,i244,i245,i247,i248,hto,hbel⟩ := HI.out
 have BK244 := As_ i244
 have BK245 := As_ i245
 have BK246 := As_ i246
 have BK247 := As_ i247
 have BK248 := As_ i248
 have HTO := As_ hto
 have HZ := As_ (show w0.heap.size ≤ w.heap.size from hbel.size)
 have HB := As_ (show impl_EqualTo.R2 w0 w gb248 w from ⟨hbel.size,hbel,KeepBut.refl _ _ _⟩)
 clear i244 i245 i246 i247 i248 hto hbel HI
 obtain ⟨hcp_0,hfp_0⟩ := bk1 BK246.out
 by_cases c23 : (impl_EqualTo.lk T a2 a3 a4).isSome = true
 ·rw [if_pos c23] at H
  obtain ⟨n,hn⟩ : ∃ n_ : Bool,impl_EqualTo.lk T a2 a3 a4 = some n_ := Option.isSome_iff_exists.1 c23
  rw [hn,Option.getD_some] at H
  have HSome := As_ hn
  clear hn c23
  simp only [Option.some.injEq,Prod.mk.injEq] at H
  obtain ⟨rfl,rfl⟩ := H
  go_enter Try.func72,Try.ntmps72
  go_wp2_with (first|((with_reducible refine gate_dst (N := 11) rfl ?_);refine box_event ?hg (N := 11) ?hd (cs := #[.int .i64 0,.int .i64 0,.int .i64 0]) (t := 68) ?hr ?_;(case hd => rfl);(case hg => rfl);(case hr => first|(go_simp;done)|(go_simp <;> rfl));intro gb249 hg w26 hbox hb;have n0_ := As_ (zkb BK244.out hb);have n1_ := As_ (zkb BK245.out hb);have n2_ := As_ (zkb BK246.out hb);have n3_ := As_ (zkb BK247.out hb);have n4_ := As_ (zkb BK248.out hb);have n5_ := As_ (impl_EqualTo.qT HB.out hb);have n6_ := As_ hbox;have n7_ := As_ ((by rw [hg];exact impl_EqualTo.qZ HB.out : w.heap.size ≤ gb249));have n8_ := As_ ((by rw [hg];exact Nat.ne_of_lt (zkl BK244.out) : gb244 ≠ gb249));have n9_ := As_ ((by rw [hg];exact Nat.ne_of_gt (zkl BK244.out) : gb249 ≠ gb244));have n10_ := As_ ((by rw [hg];exact Nat.ne_of_lt (zkl BK245.out) : gb245 ≠ gb249));have n11_ := As_ ((by rw [hg];exact Nat.ne_of_gt (zkl BK245.out) : gb249 ≠ gb245));have n12_ := As_ ((by rw [hg];exact Nat.ne_of_lt (zkl BK246.out) : gb246 ≠ gb249));have n13_ := As_ ((by rw [hg];exact Nat.ne_of_gt (zkl BK246.out) : gb249 ≠ gb246));have n14_ := As_ ((by rw [hg];exact Nat.ne_of_lt (zkl BK247.out) : gb247 ≠ gb249));have n15_ := As_ ((by rw [hg];exact Nat.ne_of_gt (zkl BK247.out) : gb249 ≠ gb247));have n16_ := As_ ((by rw [hg];exact Nat.ne_of_lt (zkl BK248.out) : gb248 ≠ gb249));have n17_ := As_ ((by rw [hg];exact Nat.ne_of_gt (zkl BK248.out) : gb249 ≠ gb248));clear BK244 BK245 BK246 BK247 BK248 HB;revert n0_ n1_ n2_ n3_ n4_ n5_ n6_ n7_ n8_ n9_ n10_ n11_ n12_ n13_ n14_ n15_ n16_ n17_;intro BK244 BK245 BK246 BK247 BK248 HB BK249 GE249 NB244_249 NB249_244 NB245_249 NB249_245 NB246_249 NB249_246 NB247_249 NB249_247 NB248_249 NB249_248;clear hg hbox hb;obtain ⟨hczu_0,hczu_1,hczu_2,hfzu_0,hfzu_1,hfzu_2⟩ := bk3 BK249.out)|((with_reducible refine gate_store (t := 68) (p := 11) rfl ?_);refine store_event (t := 68) (p := 11) (v := ?vo_w27s) (w1 := ((w26.setCell ⟨gb249,0,none⟩ (.int .i64 a2)).setCell ⟨gb249,1,none⟩ (.int .i64 a3)).setCell ⟨gb249,2,none⟩ (.int .i64 a4)) ?hg ?ho ?hn ?hr ?_;(case ho => rfl);(case hg => rfl);(case hn => rfl);(case hr => first|(go_simp;done)|(go_simp;rfl));intro w27 hw;have n0_ := As_ (show w27.heap[gb244]? = some (.cells #[.slice A0_0 l0_0.length c0_0,.int .i64 a0_1] 29 (0,0)) from (by rw [hw];exact impl_EqualTo.ofar (impl_EqualTo.ofar (impl_EqualTo.ofar BK244.out NB244_249.out _) NB244_249.out _) NB244_249.out _));have n1_ := As_ (show w27.heap[gb245]? = some (.cells #[.slice A1_0 l1_0.length c1_0,.int .i64 a1_1] 29 (0,0)) from (by rw [hw];exact impl_EqualTo.ofar (impl_EqualTo.ofar (impl_EqualTo.ofar BK245.out NB245_249.out _) NB245_249.out _) NB245_249.out _));have n2_ := As_ (show w27.heap[gb246]? = some (.cells #[.map (some gb248)] 67 (0,0)) from (by rw [hw];exact impl_EqualTo.ofar (impl_EqualTo.ofar (impl_EqualTo.ofar BK246.out NB246_249.out _) NB246_249.out _) NB246_249.out _));have n3_ := As_ (show w27.heap[gb247]? = some (.cells #[.func (.func 72) #[] #[.pointer (some ⟨gb246,0,none⟩),.pointer (some ⟨gb244,0,none⟩),.pointer (some ⟨gb245,0,none⟩),.pointer (some ⟨gb247,0,none⟩)]] 65 (0,0)) from (by rw [hw];exact impl_EqualTo.ofar (impl_EqualTo.ofar (impl_EqualTo.ofar BK247.out NB247_249.out _) NB247_249.out _) NB247_249.out _));have n4_ := As_ (show w27.heap[gb248]? = some om from (by rw [hw];exact impl_EqualTo.ofar (impl_EqualTo.ofar (impl_EqualTo.ofar BK248.out NB248_249.out _) NB248_249.out _) NB248_249.out _));have n5_ := As_ (show w27.heap[gb249]? = some (.cells #[.int .i64 a2,.int .i64 a3,.int .i64 a4] 68 (0,0)) from (by rw [hw];exact blk_put (cs := #[.int .i64 a2,.int .i64 a3,.int .i64 0]) (blk_put (cs := #[.int .i64 a2,.int .i64 0,.int .i64 0]) (blk_put (cs := #[.int .i64 0,.int .i64 0,.int .i64 0]) BK249.out 0 _ rfl) 1 _ rfl) 2 _ rfl));have n6_ := As_ (show impl_EqualTo.R2 w0 w gb248 w27 from (by rw [hw];exact impl_EqualTo.qS (impl_EqualTo.qS (impl_EqualTo.qS HB.out GE249.out) GE249.out) GE249.out));clear BK244 BK245 BK246 BK247 BK248 BK249 HB hczu_0 hczu_1 hczu_2 hfzu_0 hfzu_1 hfzu_2;revert n0_ n1_ n2_ n3_ n4_ n5_ n6_;intro BK244 BK245 BK246 BK247 BK248 BK249 HB;clear hw;obtain ⟨hczs_0,hfzs_0⟩ := bk1 BK246.out;obtain ⟨hczt_0,hczt_1,hczt_2,hfzt_0,hfzt_1,hfzt_2⟩ := bk3 BK249.out)|(at_lookup;refine wpList_tab_lookup_ok _ rfl _ _ 67 rfl 68 4 impl_EqualTo.keyed Try.underlying67 (impl_EqualTo.zero_bool _) (zd := .lit (.bool false)) (by rfl) gb248 impl_EqualTo.kv impl_EqualTo.bv T rfl (HTO.out _ BK248.out) (a2,a3,a4) kl rfl HKL.out (.bool n) true (by have h_ := HSome.out;unfold impl_EqualTo.lk at h_;unfold tabAt;rw [h_];rfl) (by have h_ := HSome.out;unfold impl_EqualTo.lk at h_;rw [h_];rfl) ?_))
  go_ret
  exact ⟨zE_,om,⟨BK246.out,BK244.out,BK245.out,BK247.out,BK248.out,HTO.out,HB.out.2.1⟩,HB.out.2.2⟩
 rw [if_neg c23] at H
 have hn : impl_EqualTo.lk T a2 a3 a4 = none := by
  cases hn : impl_EqualTo.lk T a2 a3 a4 with
  | none => rfl
  | some n => exact absurd (by rw [hn];rfl) c23
 have HNone := As_ hn
 clear hn c23
 have HC21 := As_ H
 clear H
 go_enter Try.func72,Try.ntmps72
 try go_wp2_with (first|((with_reducible refine gate_dst (N := 11) rfl ?_);refine box_event ?hg (N := 11) ?hd (cs := #[.int .i64 0,.int .i64 0,.int .i64 0]) (t := 68) ?hr ?_;(case hd => rfl);(case hg => rfl);(case hr => first|(go_simp;done)|(go_simp <;> rfl));intro gb249 hg w26 hbox hb;have n0_ := As_ (zkb BK244.out hb);have n1_ := As_ (zkb BK245.out hb);have n2_ := As_ (zkb BK246.out hb);have n3_ := As_ (zkb BK247.out hb);have n4_ := As_ (zkb BK248.out hb);have n5_ := As_ (impl_EqualTo.qT HB.out hb);have n6_ := As_ hbox;have n7_ := As_ ((by rw [hg];exact impl_EqualTo.qZ HB.out : w.heap.size ≤ gb249));have n8_ := As_ ((by rw [hg];exact Nat.ne_of_lt (zkl BK244.out) : gb244 ≠ gb249));have n9_ := As_ ((by rw [hg];exact Nat.ne_of_gt (zkl BK244.out) : gb249 ≠ gb244));have n10_ := As_ ((by rw [hg];exact Nat.ne_of_lt (zkl BK245.out) : gb245 ≠ gb249));have n11_ := As_ ((by rw [hg];exact Nat.ne_of_gt (zkl BK245.out) : gb249 ≠ gb245));have n12_ := As_ ((by rw [hg];exact Nat.ne_of_lt (zkl BK246.out) : gb246 ≠ gb249));have n13_ := As_ ((by rw [hg];exact Nat.ne_of_gt (zkl BK246.out) : gb249 ≠ gb246));have n14_ := As_ ((by rw [hg];exact Nat.ne_of_lt (zkl BK247.out) : gb247 ≠ gb249));have n15_ := As_ ((by rw [hg];exact Nat.ne_of_gt (zkl BK247.out) : gb249 ≠ gb247));have n16_ := As_ ((by rw [hg];exact Nat.ne_of_lt (zkl BK248.out) : gb248 ≠ gb249));have n17_ := As_ ((by rw [hg];exact Nat.ne_of_gt (zkl BK248.out) : gb249 ≠ gb248));clear BK244 BK245 BK246 BK247 BK248 HB;revert n0_ n1_ n2_ n3_ n4_ n5_ n6_ n7_ n8_ n9_ n10_ n11_ n12_ n13_ n14_ n15_ n16_ n17_;intro BK244 BK245 BK246 BK247 BK248 HB BK249 GE249 NB244_249 NB249_244 NB245_249 NB249_245 NB246_249 NB249_246 NB247_249 NB249_247 NB248_249 NB249_248;clear hg hbox hb;obtain ⟨hczu_0,hczu_1,hczu_2,hfzu_0,hfzu_1,hfzu_2⟩ := bk3 BK249.out)|((with_reducible refine gate_store (t := 68) (p := 11) rfl ?_);refine store_event (t := 68) (p := 11) (v := ?vo_w27n) (w1 := ((w26.setCell ⟨gb249,0,none⟩ (.int .i64 a2)).setCell ⟨gb249,1,none⟩ (.int .i64 a3)).setCell ⟨gb249,2,none⟩ (.int .i64 a4)) ?hg ?ho ?hn ?hr ?_;(case ho => rfl);(case hg => rfl);(case hn => rfl);(case hr => first|(go_simp;done)|(go_simp;rfl));intro w27 hw;have n0_ := As_ (show w27.heap[gb244]? = some (.cells #[.slice A0_0 l0_0.length c0_0,.int .i64 a0_1] 29 (0,0)) from (by rw [hw];exact impl_EqualTo.ofar (impl_EqualTo.ofar (impl_EqualTo.ofar BK244.out NB244_249.out _) NB244_249.out _) NB244_249.out _));have n1_ := As_ (show w27.heap[gb245]? = some (.cells #[.slice A1_0 l1_0.length c1_0,.int .i64 a1_1] 29 (0,0)) from (by rw [hw];exact impl_EqualTo.ofar (impl_EqualTo.ofar (impl_EqualTo.ofar BK245.out NB245_249.out _) NB245_249.out _) NB245_249.out _));have n2_ := As_ (show w27.heap[gb246]? = some (.cells #[.map (some gb248)] 67 (0,0)) from (by rw [hw];exact impl_EqualTo.ofar (impl_EqualTo.ofar (impl_EqualTo.ofar BK246.out NB246_249.out _) NB246_249.out _) NB246_249.out _));have n3_ := As_ (show w27.heap[gb247]? = some (.cells #[.func (.func 72) #[] #[.pointer (some ⟨gb246,0,none⟩),.pointer (some ⟨gb244,0,none⟩),.pointer (some ⟨gb245,0,none⟩),.pointer (some ⟨gb247,0,none⟩)]] 65 (0,0)) from (by rw [hw];exact impl_EqualTo.ofar (impl_EqualTo.ofar (impl_EqualTo.ofar BK247.out NB247_249.out _) NB247_249.out _) NB247_249.out _));have n4_ := As_ (show w27.heap[gb248]? = some om from (by rw [hw];exact impl_EqualTo.ofar (impl_EqualTo.ofar (impl_EqualTo.ofar BK248.out NB248_249.out _) NB248_249.out _) NB248_249.out _));have n5_ := As_ (show w27.heap[gb249]? = some (.cells #[.int .i64 a2,.int .i64 a3,.int .i64 a4] 68 (0,0)) from (by rw [hw];exact blk_put (cs := #[.int .i64 a2,.int .i64 a3,.int .i64 0]) (blk_put (cs := #[.int .i64 a2,.int .i64 0,.int .i64 0]) (blk_put (cs := #[.int .i64 0,.int .i64 0,.int .i64 0]) BK249.out 0 _ rfl) 1 _ rfl) 2 _ rfl));have n6_ := As_ (show impl_EqualTo.R2 w0 w gb248 w27 from (by rw [hw];exact impl_EqualTo.qS (impl_EqualTo.qS (impl_EqualTo.qS HB.out GE249.out) GE249.out) GE249.out));clear BK244 BK245 BK246 BK247 BK248 BK249 HB hczu_0 hczu_1 hczu_2 hfzu_0 hfzu_1 hfzu_2;revert n0_ n1_ n2_ n3_ n4_ n5_ n6_;intro BK244 BK245 BK246 BK247 BK248 BK249 HB;clear hw;obtain ⟨hczs_0,hfzs_0⟩ := bk1 BK246.out;obtain ⟨hczt_0,hczt_1,hczt_2,hfzt_0,hfzt_1,hfzt_2⟩ := bk3 BK249.out)|(at_lookup;refine wpList_tab_lookup_ok _ rfl _ _ 67 rfl 68 4 impl_EqualTo.keyed Try.underlying67 (impl_EqualTo.zero_bool _) (zd := .lit (.bool false)) (by rfl) gb248 impl_EqualTo.kv impl_EqualTo.bv T rfl (HTO.out _ BK248.out) (a2,a3,a4) kl rfl HKL.out (.bool false) false (by have h_ := HNone.out;unfold impl_EqualTo.lk at h_;unfold tabAt;rw [h_]) (by have h_ := HNone.out;unfold impl_EqualTo.lk at h_;rw [h_];rfl) ?_))
 have n0_ := As_ (bkD BK244.out)
 have n1_ := As_ (bkD BK245.out)
 have n2_ := As_ (bkD BK246.out)
 have n3_ := As_ (bkD BK247.out)
 have n4_ := As_ (bkD BK248.out)
 have n5_ := As_ (bkD BK249.out)
 have n6_ := As_ (impl_EqualTo.qD HB.out)
 clear BK244 BK245 BK246 BK247 BK248 BK249 HB
 revert n0_ n1_ n2_ n3_ n4_ n5_ n6_;intro BK244 BK245 BK246 BK247 BK248 BK249 HB
 have p250 : 0 ≤ (a2 : Int) := odT zA_
 have q250 : a2 < (l0_0.length : Int) := odT zA_
 obtain ⟨ad250,A250_2,c250_2,e250,hx250_0,hx250_1,hx250_2,hl250_2,hi250_2⟩ := at_T45 HR0_0.out a2 p250 q250
 have hw250_2 := hx250_2
 have hw250_1 := hx250_1
 have hw250_0 := hx250_0
 cases e250
 replace hx250_0 := bwC HB.out.2.1 hx250_0
 replace hx250_1 := bwC HB.out.2.1 hx250_1
 replace hx250_2 := bwC HB.out.2.1 hx250_2
 have HR250_2 := As_ hi250_2
 have HC250_2 := As_ hl250_2
 clear hi250_2 hl250_2
 replace p250 := eq_true p250
 replace q250 := eq_true q250
 have p251 : 0 ≤ (a3 : Int) := odT zA_
 have q251 : a3 < (l1_0.length : Int) := odT zA_
 obtain ⟨ad251,A251_2,c251_2,e251,hx251_0,hx251_1,hx251_2,hl251_2,hi251_2⟩ := at_T45 HR1_0.out a3 p251 q251
 have hw251_2 := hx251_2
 have hw251_1 := hx251_1
 have hw251_0 := hx251_0
 cases e251
 replace hx251_0 := bwC HB.out.2.1 hx251_0
 replace hx251_1 := bwC HB.out.2.1 hx251_1
 replace hx251_2 := bwC HB.out.2.1 hx251_2
 have HR251_2 := As_ hi251_2
 have HC251_2 := As_ hl251_2
 clear hi251_2 hl251_2
 replace p251 := eq_true p251
 replace q251 := eq_true q251
 refine start_ (n := 14) (S := fun w' => w'.cell? ⟨gb244,0,none⟩ = some (.slice (some ad250) l0_0.length c0_0) ∧ w'.cell? ⟨gb244,1,none⟩ = some (.int .i64 a0_1) ∧ w'.cell? ⟨gb245,0,none⟩ = some (.slice (some ad251) l1_0.length c1_0) ∧ w'.cell? ⟨gb245,1,none⟩ = some (.int .i64 a1_1) ∧ w'.cell? (ad250.add ((a2).toNat * 3)) = some (.int .i64 ((rd_T45 l0_0 a2).f0)) ∧ w'.cell? ⟨(ad250.add ((a2).toNat * 3)).block,(ad250.add ((a2).toNat * 3)).off + 1,none⟩ = some (.int .i64 ((rd_T45 l0_0 a2).f1)) ∧ w'.cell? ⟨(ad250.add ((a2).toNat * 3)).block,(ad250.add ((a2).toNat * 3)).off + 2,none⟩ = some (.slice A250_2 ((rd_T45 l0_0 a2).f2).length c250_2) ∧ w'.cell? (ad251.add ((a3).toNat * 3)) = some (.int .i64 ((rd_T45 l1_0 a3).f0)) ∧ w'.cell? ⟨(ad251.add ((a3).toNat * 3)).block,(ad251.add ((a3).toNat * 3)).off + 1,none⟩ = some (.int .i64 ((rd_T45 l1_0 a3).f1)) ∧ w'.cell? ⟨(ad251.add ((a3).toNat * 3)).block,(ad251.add ((a3).toNat * 3)).off + 2,none⟩ = some (.slice A251_2 ((rd_T45 l1_0 a3).f2).length c251_2)) (ds := []) (bl_ 0 14) (by kernel_rfl) rfl rfl ⟨(bkC BK244.out 0).trans rfl,(bkC BK244.out 1).trans rfl,(bkC BK245.out 0).trans rfl,(bkC BK245.out 1).trans rfl,((HB.out.2.1.cell (bwL w0 _ hw250_0)).trans hw250_0),((HB.out.2.1.cell (bwL w0 _ hw250_1)).trans hw250_1),((HB.out.2.1.cell (bwL w0 _ hw250_2)).trans hw250_2),((HB.out.2.1.cell (bwL w0 _ hw251_0)).trans hw251_0),((HB.out.2.1.cell (bwL w0 _ hw251_1)).trans hw251_1),((HB.out.2.1.cell (bwL w0 _ hw251_2)).trans hw251_2)⟩ (fun hHeld => ?_);refine with_tabW impl_EqualTo.tab7 impl_EqualTo.bits7 (fun HT_ HW_ => ?_)
 generalize w27.drew = w28 at BK244 BK245 BK246 BK247 BK248 BK249 HB HR250_2 HR251_2 hx250_0 hx250_1 hx250_2 hx251_0 hx251_1 hx251_2 hHeld ⊢
 refine pQ 0 32 (bl_ 1 14) HT_ rfl ?_
 refine pQ 2 34 (bl_ 5 14) HT_ rfl ?_
 refine pQ 5 37 (bl_ 37 14) HT_ rfl ?_
 refine pQ 7 39 (bl_ 165 14) HT_ rfl ?_
 refine tP 1 33 (bl_ 167 14) ?_ HT_ HW_ rfl (.inl ⟨by rfl,?_⟩) hHeld ?_ ?_ ?_;rotate_left;(rintro w' ⟨s0,s1,s2,s3,s4,s5,s6,s7,s8,s9⟩;go_simp;with_reducible rfl);rotate_left;(simp only [Act.put,sq_,i64_w,i32_w];rfl)
 refine pQ 3 35 (bl_ 175 14) HT_ rfl ?_
 refine tP 4 36 (bl_ 191 14) ?_ HT_ HW_ rfl (.inl ⟨by rfl,?_⟩) hHeld ?_ ?_ ?_;rotate_left;(rintro w' ⟨s0,s1,s2,s3,s4,s5,s6,s7,s8,s9⟩;go_simp;with_reducible rfl);rotate_left;(simp only [Act.put,sq_,i64_w,i32_w];rfl)
 refine tP 6 38 (bl_ 255 14) ?_ HT_ HW_ rfl (.inl ⟨by rfl,?_⟩) hHeld ?_ ?_ ?_;rotate_left;(rintro w' ⟨s0,s1,s2,s3,s4,s5,s6,s7,s8,s9⟩;go_simp;with_reducible rfl);rotate_left;(simp only [Act.put,sq_,i64_w,i32_w];rfl)
 refine pQ 8 40 (bl_ 511 14) HT_ rfl ?_
 refine tP 9 41 (bl_ 1023 14) ?_ HT_ HW_ rfl (.inl ⟨by rfl,?_⟩) hHeld ?_ ?_ ?_;rotate_left;(rintro w' ⟨s0,s1,s2,s3,s4,s5,s6,s7,s8,s9⟩;go_simp;with_reducible rfl);rotate_left;(simp only [Act.put,sq_,i64_w,i32_w];rfl)
 refine join_ (σ := Nat × Nat) 2 (bl_ 4095 14) (fun s_ => [(14,.pointer (some ⟨s_.1,0,none⟩)),(15,.pointer (some ⟨s_.2,0,none⟩))]) (fun s_ w' => (w'.cell? ⟨gb244,0,none⟩ = some (.slice (some ad250) l0_0.length c0_0) ∧ w'.cell? ⟨gb244,1,none⟩ = some (.int .i64 a0_1) ∧ w'.cell? ⟨gb245,0,none⟩ = some (.slice (some ad251) l1_0.length c1_0) ∧ w'.cell? ⟨gb245,1,none⟩ = some (.int .i64 a1_1) ∧ w'.cell? (ad250.add ((a2).toNat * 3)) = some (.int .i64 ((rd_T45 l0_0 a2).f0)) ∧ w'.cell? ⟨(ad250.add ((a2).toNat * 3)).block,(ad250.add ((a2).toNat * 3)).off + 1,none⟩ = some (.int .i64 ((rd_T45 l0_0 a2).f1)) ∧ w'.cell? ⟨(ad250.add ((a2).toNat * 3)).block,(ad250.add ((a2).toNat * 3)).off + 2,none⟩ = some (.slice A250_2 ((rd_T45 l0_0 a2).f2).length c250_2) ∧ w'.cell? (ad251.add ((a3).toNat * 3)) = some (.int .i64 ((rd_T45 l1_0 a3).f0)) ∧ w'.cell? ⟨(ad251.add ((a3).toNat * 3)).block,(ad251.add ((a3).toNat * 3)).off + 1,none⟩ = some (.int .i64 ((rd_T45 l1_0 a3).f1)) ∧ w'.cell? ⟨(ad251.add ((a3).toNat * 3)).block,(ad251.add ((a3).toNat * 3)).off + 2,none⟩ = some (.slice A251_2 ((rd_T45 l1_0 a3).f2).length c251_2)) ∧ (w'.heap[gb244]? = some (.cells #[.slice (some ad250) l0_0.length c0_0,.int .i64 a0_1] 29 (0,0))) ∧ (w'.heap[gb245]? = some (.cells #[.slice (some ad251) l1_0.length c1_0,.int .i64 a1_1] 29 (0,0))) ∧ (w'.heap[gb246]? = some (.cells #[.map (some gb248)] 67 (0,0))) ∧ (w'.heap[gb247]? = some (.cells #[.func (.func 72) #[] #[.pointer (some ⟨gb246,0,none⟩),.pointer (some ⟨gb244,0,none⟩),.pointer (some ⟨gb245,0,none⟩),.pointer (some ⟨gb247,0,none⟩)]] 65 (0,0))) ∧ (w'.heap[gb248]? = some om) ∧ (w'.heap[gb249]? = some (.cells #[.int .i64 a2,.int .i64 a3,.int .i64 a4] 68 (0,0))) ∧ (w'.heap[s_.1]? = some (.cells #[.int .i64 0,.int .i64 0,.slice none 0 0] 45 (0,0))) ∧ (w'.heap[s_.2]? = some (.cells #[.int .i64 0,.int .i64 0,.slice none 0 0] 45 (0,0))) ∧ (w.heap.size ≤ s_.1) ∧ (w.heap.size ≤ s_.1) ∧ (gb244 ≠ s_.1) ∧ (s_.1 ≠ gb244) ∧ (gb245 ≠ s_.1) ∧ (s_.1 ≠ gb245) ∧ (gb246 ≠ s_.1) ∧ (s_.1 ≠ gb246) ∧ (gb247 ≠ s_.1) ∧ (s_.1 ≠ gb247) ∧ (gb248 ≠ s_.1) ∧ (s_.1 ≠ gb248) ∧ (gb249 ≠ s_.1) ∧ (s_.1 ≠ gb249) ∧ (s_.2 ≠ s_.1) ∧ (s_.1 ≠ s_.2) ∧ (w.heap.size ≤ s_.2) ∧ (w.heap.size ≤ s_.2) ∧ (gb244 ≠ s_.2) ∧ (s_.2 ≠ gb244) ∧ (gb245 ≠ s_.2) ∧ (s_.2 ≠ gb245) ∧ (gb246 ≠ s_.2) ∧ (s_.2 ≠ gb246) ∧ (gb247 ≠ s_.2) ∧ (s_.2 ≠ gb247) ∧ (gb248 ≠ s_.2) ∧ (s_.2 ≠ gb248) ∧ (gb249 ≠ s_.2) ∧ (s_.2 ≠ gb249) ∧ (impl_EqualTo.R2 w0 w gb248 w')) ?_ ?_
 rotate_left
 ·intro hCont
  refine two_ (i := 10) (j := 11) (Ni := some 14) (Nj := some 15) (bl_ 2047 14) (bl_ 3071 14) rfl rfl rfl rfl (two_of HT_.out (by kernel_rfl)) (by decide) (by decide) (fun K hK => ?_) (fun K hK => ?_)
  ·skip
   refine box_step ?hg (N := 14) ?hd (cs := #[.int .i64 0,.int .i64 0,.slice none 0 0]) (t := 45) ?hr ?_;(case hd => rfl);(case hg => rfl);(case hr => go_simp <;> rfl)
   intro gb252 hg w29 hbox hb
   have n0_ := As_ (zkb BK244.out hb)
   have n1_ := As_ (zkb BK245.out hb)
   have n2_ := As_ (zkb BK246.out hb)
   have n3_ := As_ (zkb BK247.out hb)
   have n4_ := As_ (zkb BK248.out hb)
   have n5_ := As_ (zkb BK249.out hb)
   have n6_ := As_ (impl_EqualTo.qT (impl_EqualTo.zy0 HB.out) hb)
   have n7_ := As_ (hbox)
   have n8_ := As_ ((by rw [hg];exact (impl_EqualTo.qZ (impl_EqualTo.zy0 HB.out)) : w.heap.size ≤ gb252))
   have n9_ := As_ ((by rw [hg];exact (impl_EqualTo.qZ (impl_EqualTo.zy0 HB.out)) : w.heap.size ≤ gb252))
   have n10_ := As_ ((by rw [hg];exact Nat.ne_of_lt (zkl BK244.out) : gb244 ≠ gb252))
   have n11_ := As_ ((by rw [hg];exact Nat.ne_of_gt (zkl BK244.out) : gb252 ≠ gb244))
   have n12_ := As_ ((by rw [hg];exact Nat.ne_of_lt (zkl BK245.out) : gb245 ≠ gb252))
   have n13_ := As_ ((by rw [hg];exact Nat.ne_of_gt (zkl BK245.out) : gb252 ≠ gb245))
   have n14_ := As_ ((by rw [hg];exact Nat.ne_of_lt (zkl BK246.out) : gb246 ≠ gb252))
   have n15_ := As_ ((by rw [hg];exact Nat.ne_of_gt (zkl BK246.out) : gb252 ≠ gb246))
   have n16_ := As_ ((by rw [hg];exact Nat.ne_of_lt (zkl BK247.out) : gb247 ≠ gb252))
   have n17_ := As_ ((by rw [hg];exact Nat.ne_of_gt (zkl BK247.out) : gb252 ≠ gb247))
   have n18_ := As_ ((by rw [hg];exact Nat.ne_of_lt (zkl BK248.out) : gb248 ≠ gb252))
   have n19_ := As_ ((by rw [hg];exact Nat.ne_of_gt (zkl BK248.out) : gb252 ≠ gb248))
   have n20_ := As_ ((by rw [hg];exact Nat.ne_of_lt (zkl BK249.out) : gb249 ≠ gb252))
   have n21_ := As_ ((by rw [hg];exact Nat.ne_of_gt (zkl BK249.out) : gb252 ≠ gb249))
   clear BK244 BK245 BK246 BK247 BK248 BK249 HB
   revert n0_ n1_ n2_ n3_ n4_ n5_ n6_ n7_ n8_ n9_ n10_ n11_ n12_ n13_ n14_ n15_ n16_ n17_ n18_ n19_ n20_ n21_;intro BK244 BK245 BK246 BK247 BK248 BK249 HB BK252 GW252 GE252 NB244_252 NB252_244 NB245_252 NB252_245 NB246_252 NB252_246 NB247_252 NB252_247 NB248_252 NB252_248 NB249_252 NB252_249
   clear hb hbox hg
   refine hK.out _ _ ⟨(bkC BK244.out 0).trans rfl,(bkC BK244.out 1).trans rfl,(bkC BK245.out 0).trans rfl,(bkC BK245.out 1).trans rfl,((HB.out.2.1.cell (bwL w0 _ hw250_0)).trans hw250_0),((HB.out.2.1.cell (bwL w0 _ hw250_1)).trans hw250_1),((HB.out.2.1.cell (bwL w0 _ hw250_2)).trans hw250_2),((HB.out.2.1.cell (bwL w0 _ hw251_0)).trans hw251_0),((HB.out.2.1.cell (bwL w0 _ hw251_1)).trans hw251_1),((HB.out.2.1.cell (bwL w0 _ hw251_2)).trans hw251_2)⟩ (fun hHeld => ?_)
   clear hK K
   refine norm_ (a' := ?_) ?_ ?_
   rotate_left
   ·show Act.put _ (some 14) _ = _
    simp only [Act.put,sq_,i64_w,i32_w]
    rfl
   refine one_ (i := 11) (N := some 15) (bl_ 4095 14) rfl rfl (one_of HT_.out (by kernel_rfl)) (by decide) (fun K hK => ?_)
   refine box_step ?hg (N := 15) ?hd (cs := #[.int .i64 0,.int .i64 0,.slice none 0 0]) (t := 45) ?hr ?_;(case hd => rfl);(case hg => rfl);(case hr => go_simp <;> rfl)
   intro gb253 hg w30 hbox hb
   have n0_ := As_ (zkb BK244.out hb)
   have n1_ := As_ (zkb BK245.out hb)
   have n2_ := As_ (zkb BK246.out hb)
   have n3_ := As_ (zkb BK247.out hb)
   have n4_ := As_ (zkb BK248.out hb)
   have n5_ := As_ (zkb BK249.out hb)
   have n6_ := As_ (zkb BK252.out hb)
   have n7_ := As_ (impl_EqualTo.qT (impl_EqualTo.zy1 HB.out GE252.out) hb)
   have n8_ := As_ (hbox)
   have n9_ := As_ ((by rw [hg];exact (impl_EqualTo.qZ (impl_EqualTo.zy1 HB.out GE252.out)) : w.heap.size ≤ gb253))
   have n10_ := As_ ((by rw [hg];exact (impl_EqualTo.qZ (impl_EqualTo.zy1 HB.out GE252.out)) : w.heap.size ≤ gb253))
   have n11_ := As_ ((by rw [hg];exact Nat.ne_of_lt (zkl BK244.out) : gb244 ≠ gb253))
   have n12_ := As_ ((by rw [hg];exact Nat.ne_of_gt (zkl BK244.out) : gb253 ≠ gb244))
   have n13_ := As_ ((by rw [hg];exact Nat.ne_of_lt (zkl BK245.out) : gb245 ≠ gb253))
   have n14_ := As_ ((by rw [hg];exact Nat.ne_of_gt (zkl BK245.out) : gb253 ≠ gb245))
   have n15_ := As_ ((by rw [hg];exact Nat.ne_of_lt (zkl BK246.out) : gb246 ≠ gb253))
   have n16_ := As_ ((by rw [hg];exact Nat.ne_of_gt (zkl BK246.out) : gb253 ≠ gb246))
   have n17_ := As_ ((by rw [hg];exact Nat.ne_of_lt (zkl BK247.out) : gb247 ≠ gb253))
   have n18_ := As_ ((by rw [hg];exact Nat.ne_of_gt (zkl BK247.out) : gb253 ≠ gb247))
   have n19_ := As_ ((by rw [hg];exact Nat.ne_of_lt (zkl BK248.out) : gb248 ≠ gb253))
   have n20_ := As_ ((by rw [hg];exact Nat.ne_of_gt (zkl BK248.out) : gb253 ≠ gb248))
   have n21_ := As_ ((by rw [hg];exact Nat.ne_of_lt (zkl BK249.out) : gb249 ≠ gb253))
   have n22_ := As_ ((by rw [hg];exact Nat.ne_of_gt (zkl BK249.out) : gb253 ≠ gb249))
   have n23_ := As_ ((by rw [hg];exact Nat.ne_of_lt (zkl BK252.out) : gb252 ≠ gb253))
   have n24_ := As_ ((by rw [hg];exact Nat.ne_of_gt (zkl BK252.out) : gb253 ≠ gb252))
   clear BK244 BK245 BK246 BK247 BK248 BK249 BK252 HB
   revert n0_ n1_ n2_ n3_ n4_ n5_ n6_ n7_ n8_ n9_ n10_ n11_ n12_ n13_ n14_ n15_ n16_ n17_ n18_ n19_ n20_ n21_ n22_ n23_ n24_;intro BK244 BK245 BK246 BK247 BK248 BK249 BK252 HB BK253 GW253 GE253 NB244_253 NB253_244 NB245_253 NB253_245 NB246_253 NB253_246 NB247_253 NB253_247 NB248_253 NB253_248 NB249_253 NB253_249 NB252_253 NB253_252
   clear hb hbox hg
   refine hK.out _ _ ⟨(bkC BK244.out 0).trans rfl,(bkC BK244.out 1).trans rfl,(bkC BK245.out 0).trans rfl,(bkC BK245.out 1).trans rfl,((HB.out.2.1.cell (bwL w0 _ hw250_0)).trans hw250_0),((HB.out.2.1.cell (bwL w0 _ hw250_1)).trans hw250_1),((HB.out.2.1.cell (bwL w0 _ hw250_2)).trans hw250_2),((HB.out.2.1.cell (bwL w0 _ hw251_0)).trans hw251_0),((HB.out.2.1.cell (bwL w0 _ hw251_1)).trans hw251_1),((HB.out.2.1.cell (bwL w0 _ hw251_2)).trans hw251_2)⟩ (fun hHeld => ?_)
   clear hK K
   refine norm_ (a' := ?_) ?_ ?_
   rotate_left
   ·show Act.put _ (some 15) _ = _
    simp only [Act.put,sq_,i64_w,i32_w]
    rfl
   exact norm_ (by simp only [putAll,Act.put,List.setIfInBounds_toArray,List.set_cons_zero,List.set_cons_succ]) (hCont (gb252,gb253) _ ⟨hHeld,(zk_ BK244.out),(zk_ BK245.out),(zk_ BK246.out),(zk_ BK247.out),(zk_ BK248.out),(zk_ BK249.out),(zk_ BK252.out),(zk_ BK253.out),GW252.out,GE252.out,NB244_252.out,NB252_244.out,NB245_252.out,NB252_245.out,NB246_252.out,NB252_246.out,NB247_252.out,NB252_247.out,NB248_252.out,NB252_248.out,NB249_252.out,NB252_249.out,NB253_252.out,NB252_253.out,GW253.out,GE253.out,NB244_253.out,NB253_244.out,NB245_253.out,NB253_245.out,NB246_253.out,NB253_246.out,NB247_253.out,NB253_247.out,NB248_253.out,NB253_248.out,NB249_253.out,NB253_249.out,(impl_EqualTo.zy2 HB.out GE252.out GE253.out)⟩)
  ·skip
   refine box_step ?hg (N := 15) ?hd (cs := #[.int .i64 0,.int .i64 0,.slice none 0 0]) (t := 45) ?hr ?_;(case hd => rfl);(case hg => rfl);(case hr => go_simp <;> rfl)
   intro gb253 hg w29 hbox hb
   have n0_ := As_ (zkb BK244.out hb)
   have n1_ := As_ (zkb BK245.out hb)
   have n2_ := As_ (zkb BK246.out hb)
   have n3_ := As_ (zkb BK247.out hb)
   have n4_ := As_ (zkb BK248.out hb)
   have n5_ := As_ (zkb BK249.out hb)
   have n6_ := As_ (impl_EqualTo.qT (impl_EqualTo.zy0 HB.out) hb)
   have n7_ := As_ (hbox)
   have n8_ := As_ ((by rw [hg];exact (impl_EqualTo.qZ (impl_EqualTo.zy0 HB.out)) : w.heap.size ≤ gb253))
   have n9_ := As_ ((by rw [hg];exact (impl_EqualTo.qZ (impl_EqualTo.zy0 HB.out)) : w.heap.size ≤ gb253))
   have n10_ := As_ ((by rw [hg];exact Nat.ne_of_lt (zkl BK244.out) : gb244 ≠ gb253))
   have n11_ := As_ ((by rw [hg];exact Nat.ne_of_gt (zkl BK244.out) : gb253 ≠ gb244))
   have n12_ := As_ ((by rw [hg];exact Nat.ne_of_lt (zkl BK245.out) : gb245 ≠ gb253))
   have n13_ := As_ ((by rw [hg];exact Nat.ne_of_gt (zkl BK245.out) : gb253 ≠ gb245))
   have n14_ := As_ ((by rw [hg];exact Nat.ne_of_lt (zkl BK246.out) : gb246 ≠ gb253))
   have n15_ := As_ ((by rw [hg];exact Nat.ne_of_gt (zkl BK246.out) : gb253 ≠ gb246))
   have n16_ := As_ ((by rw [hg];exact Nat.ne_of_lt (zkl BK247.out) : gb247 ≠ gb253))
   have n17_ := As_ ((by rw [hg];exact Nat.ne_of_gt (zkl BK247.out) : gb253 ≠ gb247))
   have n18_ := As_ ((by rw [hg];exact Nat.ne_of_lt (zkl BK248.out) : gb248 ≠ gb253))
   have n19_ := As_ ((by rw [hg];exact Nat.ne_of_gt (zkl BK248.out) : gb253 ≠ gb248))
   have n20_ := As_ ((by rw [hg];exact Nat.ne_of_lt (zkl BK249.out) : gb249 ≠ gb253))
   have n21_ := As_ ((by rw [hg];exact Nat.ne_of_gt (zkl BK249.out) : gb253 ≠ gb249))
   clear BK244 BK245 BK246 BK247 BK248 BK249 HB
   revert n0_ n1_ n2_ n3_ n4_ n5_ n6_ n7_ n8_ n9_ n10_ n11_ n12_ n13_ n14_ n15_ n16_ n17_ n18_ n19_ n20_ n21_;intro BK244 BK245 BK246 BK247 BK248 BK249 HB BK253 GW253 GE253 NB244_253 NB253_244 NB245_253 NB253_245 NB246_253 NB253_246 NB247_253 NB253_247 NB248_253 NB253_248 NB249_253 NB253_249
   clear hb hbox hg
   refine hK.out _ _ ⟨(bkC BK244.out 0).trans rfl,(bkC BK244.out 1).trans rfl,(bkC BK245.out 0).trans rfl,(bkC BK245.out 1).trans rfl,((HB.out.2.1.cell (bwL w0 _ hw250_0)).trans hw250_0),((HB.out.2.1.cell (bwL w0 _ hw250_1)).trans hw250_1),((HB.out.2.1.cell (bwL w0 _ hw250_2)).trans hw250_2),((HB.out.2.1.cell (bwL w0 _ hw251_0)).trans hw251_0),((HB.out.2.1.cell (bwL w0 _ hw251_1)).trans hw251_1),((HB.out.2.1.cell (bwL w0 _ hw251_2)).trans hw251_2)⟩ (fun hHeld => ?_)
   clear hK K
   refine norm_ (a' := ?_) ?_ ?_
   rotate_left
   ·show Act.put _ (some 15) _ = _
    simp only [Act.put,sq_,i64_w,i32_w]
    rfl
   refine one_ (i := 10) (N := some 14) (bl_ 4095 14) rfl rfl (one_of HT_.out (by kernel_rfl)) (by decide) (fun K hK => ?_)
   refine box_step ?hg (N := 14) ?hd (cs := #[.int .i64 0,.int .i64 0,.slice none 0 0]) (t := 45) ?hr ?_;(case hd => rfl);(case hg => rfl);(case hr => go_simp <;> rfl)
   intro gb252 hg w30 hbox hb
   have n0_ := As_ (zkb BK244.out hb)
   have n1_ := As_ (zkb BK245.out hb)
   have n2_ := As_ (zkb BK246.out hb)
   have n3_ := As_ (zkb BK247.out hb)
   have n4_ := As_ (zkb BK248.out hb)
   have n5_ := As_ (zkb BK249.out hb)
   have n6_ := As_ (zkb BK253.out hb)
   have n7_ := As_ (impl_EqualTo.qT (impl_EqualTo.zy1 HB.out GE253.out) hb)
   have n8_ := As_ (hbox)
   have n9_ := As_ ((by rw [hg];exact (impl_EqualTo.qZ (impl_EqualTo.zy1 HB.out GE253.out)) : w.heap.size ≤ gb252))
   have n10_ := As_ ((by rw [hg];exact (impl_EqualTo.qZ (impl_EqualTo.zy1 HB.out GE253.out)) : w.heap.size ≤ gb252))
   have n11_ := As_ ((by rw [hg];exact Nat.ne_of_lt (zkl BK244.out) : gb244 ≠ gb252))
   have n12_ := As_ ((by rw [hg];exact Nat.ne_of_gt (zkl BK244.out) : gb252 ≠ gb244))
   have n13_ := As_ ((by rw [hg];exact Nat.ne_of_lt (zkl BK245.out) : gb245 ≠ gb252))
   have n14_ := As_ ((by rw [hg];exact Nat.ne_of_gt (zkl BK245.out) : gb252 ≠ gb245))
   have n15_ := As_ ((by rw [hg];exact Nat.ne_of_lt (zkl BK246.out) : gb246 ≠ gb252))
   have n16_ := As_ ((by rw [hg];exact Nat.ne_of_gt (zkl BK246.out) : gb252 ≠ gb246))
   have n17_ := As_ ((by rw [hg];exact Nat.ne_of_lt (zkl BK247.out) : gb247 ≠ gb252))
   have n18_ := As_ ((by rw [hg];exact Nat.ne_of_gt (zkl BK247.out) : gb252 ≠ gb247))
   have n19_ := As_ ((by rw [hg];exact Nat.ne_of_lt (zkl BK248.out) : gb248 ≠ gb252))
   have n20_ := As_ ((by rw [hg];exact Nat.ne_of_gt (zkl BK248.out) : gb252 ≠ gb248))
   have n21_ := As_ ((by rw [hg];exact Nat.ne_of_lt (zkl BK249.out) : gb249 ≠ gb252))
   have n22_ := As_ ((by rw [hg];exact Nat.ne_of_gt (zkl BK249.out) : gb252 ≠ gb249))
   have n23_ := As_ ((by rw [hg];exact Nat.ne_of_lt (zkl BK253.out) : gb253 ≠ gb252))
   have n24_ := As_ ((by rw [hg];exact Nat.ne_of_gt (zkl BK253.out) : gb252 ≠ gb253))
   clear BK244 BK245 BK246 BK247 BK248 BK249 BK253 HB
   revert n0_ n1_ n2_ n3_ n4_ n5_ n6_ n7_ n8_ n9_ n10_ n11_ n12_ n13_ n14_ n15_ n16_ n17_ n18_ n19_ n20_ n21_ n22_ n23_ n24_;intro BK244 BK245 BK246 BK247 BK248 BK249 BK253 HB BK252 GW252 GE252 NB244_252 NB252_244 NB245_252 NB252_245 NB246_252 NB252_246 NB247_252 NB252_247 NB248_252 NB252_248 NB249_252 NB252_249 NB253_252 NB252_253
   clear hb hbox hg
   refine hK.out _ _ ⟨(bkC BK244.out 0).trans rfl,(bkC BK244.out 1).trans rfl,(bkC BK245.out 0).trans rfl,(bkC BK245.out 1).trans rfl,((HB.out.2.1.cell (bwL w0 _ hw250_0)).trans hw250_0),((HB.out.2.1.cell (bwL w0 _ hw250_1)).trans hw250_1),((HB.out.2.1.cell (bwL w0 _ hw250_2)).trans hw250_2),((HB.out.2.1.cell (bwL w0 _ hw251_0)).trans hw251_0),((HB.out.2.1.cell (bwL w0 _ hw251_1)).trans hw251_1),((HB.out.2.1.cell (bwL w0 _ hw251_2)).trans hw251_2)⟩ (fun hHeld => ?_)
   clear hK K
   refine norm_ (a' := ?_) ?_ ?_
   rotate_left
   ·show Act.put _ (some 14) _ = _
    simp only [Act.put,sq_,i64_w,i32_w]
    rfl
   exact norm_ (by simp only [putAll,Act.put,List.setIfInBounds_toArray,List.set_cons_zero,List.set_cons_succ]) (hCont (gb252,gb253) _ ⟨hHeld,(zk_ BK244.out),(zk_ BK245.out),(zk_ BK246.out),(zk_ BK247.out),(zk_ BK248.out),(zk_ BK249.out),(zk_ BK252.out),(zk_ BK253.out),GW252.out,GE252.out,NB244_252.out,NB252_244.out,NB245_252.out,NB252_245.out,NB246_252.out,NB252_246.out,NB247_252.out,NB252_247.out,NB248_252.out,NB252_248.out,NB249_252.out,NB252_249.out,NB253_252.out,NB252_253.out,GW253.out,GE253.out,NB244_253.out,NB253_244.out,NB245_253.out,NB253_245.out,NB246_253.out,NB253_246.out,NB247_253.out,NB253_247.out,NB248_253.out,NB253_248.out,NB249_253.out,NB253_249.out,(impl_EqualTo.zy2 HB.out GE253.out GE252.out)⟩)
 rintro ⟨gb252,gb253⟩ w31 ⟨hS_,h0_,h1_,h2_,h3_,h4_,h5_,h6_,h7_,h8_,h9_,h10_,h11_,h12_,h13_,h14_,h15_,h16_,h17_,h18_,h19_,h20_,h21_,h22_,h23_,h24_,h25_,h26_,h27_,h28_,h29_,h30_,h31_,h32_,h33_,h34_,h35_,h36_,h37_,h38_⟩
 have n0_ : Aside0 (w31.heap[gb244]? = some (.cells #[.slice (some ad250) l0_0.length c0_0,.int .i64 a0_1] 29 (0,0))) := ⟨h0_⟩
 have n1_ : Aside0 (w31.heap[gb245]? = some (.cells #[.slice (some ad251) l1_0.length c1_0,.int .i64 a1_1] 29 (0,0))) := ⟨h1_⟩
 have n2_ : Aside0 (w31.heap[gb246]? = some (.cells #[.map (some gb248)] 67 (0,0))) := ⟨h2_⟩
 have n3_ : Aside0 (w31.heap[gb247]? = some (.cells #[.func (.func 72) #[] #[.pointer (some ⟨gb246,0,none⟩),.pointer (some ⟨gb244,0,none⟩),.pointer (some ⟨gb245,0,none⟩),.pointer (some ⟨gb247,0,none⟩)]] 65 (0,0))) := ⟨h3_⟩
 have n4_ : Aside0 (w31.heap[gb248]? = some om) := ⟨h4_⟩
 have n5_ : Aside0 (w31.heap[gb249]? = some (.cells #[.int .i64 a2,.int .i64 a3,.int .i64 a4] 68 (0,0))) := ⟨h5_⟩
 have n6_ : Aside0 (w31.heap[gb252]? = some (.cells #[.int .i64 0,.int .i64 0,.slice none 0 0] 45 (0,0))) := ⟨h6_⟩
 have n7_ : Aside0 (w31.heap[gb253]? = some (.cells #[.int .i64 0,.int .i64 0,.slice none 0 0] 45 (0,0))) := ⟨h7_⟩
 have n8_ : Aside0 (w.heap.size ≤ gb252) := ⟨h8_⟩
 have n9_ : Aside0 (w.heap.size ≤ gb252) := ⟨h9_⟩
 have n10_ : Aside0 (gb244 ≠ gb252) := ⟨h10_⟩
 have n11_ : Aside0 (gb252 ≠ gb244) := ⟨h11_⟩
 have n12_ : Aside0 (gb245 ≠ gb252) := ⟨h12_⟩
 have n13_ : Aside0 (gb252 ≠ gb245) := ⟨h13_⟩
 have n14_ : Aside0 (gb246 ≠ gb252) := ⟨h14_⟩
 have n15_ : Aside0 (gb252 ≠ gb246) := ⟨h15_⟩
 have n16_ : Aside0 (gb247 ≠ gb252) := ⟨h16_⟩
 have n17_ : Aside0 (gb252 ≠ gb247) := ⟨h17_⟩
 have n18_ : Aside0 (gb248 ≠ gb252) := ⟨h18_⟩
 have n19_ : Aside0 (gb252 ≠ gb248) := ⟨h19_⟩
 have n20_ : Aside0 (gb249 ≠ gb252) := ⟨h20_⟩
 have n21_ : Aside0 (gb252 ≠ gb249) := ⟨h21_⟩
 have n22_ : Aside0 (gb253 ≠ gb252) := ⟨h22_⟩
 have n23_ : Aside0 (gb252 ≠ gb253) := ⟨h23_⟩
 have n24_ : Aside0 (w.heap.size ≤ gb253) := ⟨h24_⟩
 have n25_ : Aside0 (w.heap.size ≤ gb253) := ⟨h25_⟩
 have n26_ : Aside0 (gb244 ≠ gb253) := ⟨h26_⟩
 have n27_ : Aside0 (gb253 ≠ gb244) := ⟨h27_⟩
 have n28_ : Aside0 (gb245 ≠ gb253) := ⟨h28_⟩
 have n29_ : Aside0 (gb253 ≠ gb245) := ⟨h29_⟩
 have n30_ : Aside0 (gb246 ≠ gb253) := ⟨h30_⟩
 have n31_ : Aside0 (gb253 ≠ gb246) := ⟨h31_⟩
 have n32_ : Aside0 (gb247 ≠ gb253) := ⟨h32_⟩
 have n33_ : Aside0 (gb253 ≠ gb247) := ⟨h33_⟩
 have n34_ : Aside0 (gb248 ≠ gb253) := ⟨h34_⟩
 have n35_ : Aside0 (gb253 ≠ gb248) := ⟨h35_⟩
 have n36_ : Aside0 (gb249 ≠ gb253) := ⟨h36_⟩
 have n37_ : Aside0 (gb253 ≠ gb249) := ⟨h37_⟩
 have n38_ : Aside0 (impl_EqualTo.R2 w0 w gb248 w31) := ⟨h38_⟩
 clear BK244 BK245 BK246 BK247 BK248 BK249 HB h0_ h1_ h2_ h3_ h4_ h5_ h6_ h7_ h8_ h9_ h10_ h11_ h12_ h13_ h14_ h15_ h16_ h17_ h18_ h19_ h20_ h21_ h22_ h23_ h24_ h25_ h26_ h27_ h28_ h29_ h30_ h31_ h32_ h33_ h34_ h35_ h36_ h37_ h38_
 revert n0_ n1_ n2_ n3_ n4_ n5_ n6_ n7_ n8_ n9_ n10_ n11_ n12_ n13_ n14_ n15_ n16_ n17_ n18_ n19_ n20_ n21_ n22_ n23_ n24_ n25_ n26_ n27_ n28_ n29_ n30_ n31_ n32_ n33_ n34_ n35_ n36_ n37_ n38_;intro BK244 BK245 BK246 BK247 BK248 BK249 BK252 BK253 GW252 GE252 NB244_252 NB252_244 NB245_252 NB252_245 NB246_252 NB252_246 NB247_252 NB252_247 NB248_252 NB252_248 NB249_252 NB252_249 NB253_252 NB252_253 GW253 GE253 NB244_253 NB253_244 NB245_253 NB253_245 NB246_253 NB253_246 NB247_253 NB253_247 NB248_253 NB253_248 NB249_253 NB253_249 HB
 have hHeld : w31.cell? ⟨gb244,0,none⟩ = some (.slice (some ad250) l0_0.length c0_0) ∧ w31.cell? ⟨gb244,1,none⟩ = some (.int .i64 a0_1) ∧ w31.cell? ⟨gb245,0,none⟩ = some (.slice (some ad251) l1_0.length c1_0) ∧ w31.cell? ⟨gb245,1,none⟩ = some (.int .i64 a1_1) ∧ w31.cell? (ad250.add ((a2).toNat * 3)) = some (.int .i64 ((rd_T45 l0_0 a2).f0)) ∧ w31.cell? ⟨(ad250.add ((a2).toNat * 3)).block,(ad250.add ((a2).toNat * 3)).off + 1,none⟩ = some (.int .i64 ((rd_T45 l0_0 a2).f1)) ∧ w31.cell? ⟨(ad250.add ((a2).toNat * 3)).block,(ad250.add ((a2).toNat * 3)).off + 2,none⟩ = some (.slice A250_2 ((rd_T45 l0_0 a2).f2).length c250_2) ∧ w31.cell? (ad251.add ((a3).toNat * 3)) = some (.int .i64 ((rd_T45 l1_0 a3).f0)) ∧ w31.cell? ⟨(ad251.add ((a3).toNat * 3)).block,(ad251.add ((a3).toNat * 3)).off + 1,none⟩ = some (.int .i64 ((rd_T45 l1_0 a3).f1)) ∧ w31.cell? ⟨(ad251.add ((a3).toNat * 3)).block,(ad251.add ((a3).toNat * 3)).off + 2,none⟩ = some (.slice A251_2 ((rd_T45 l1_0 a3).f2).length c251_2) := hS_
 refine norm_ (a' := ?_) ?_ ?_
 rotate_left
 ·simp only [putAll,Act.put,List.setIfInBounds_toArray,List.set_cons_zero,List.set_cons_succ]
  rfl
 refine one_ (i := 12) (N := none) (bl_ 8191 14) rfl rfl (one_of HT_.out (by kernel_rfl)) (by decide) (fun K hK => ?_)
 have hs32 : w31.cell? ⟨gb252,0,none⟩ = some (.int .i64 0) := (bkC BK252.out 0).trans rfl
 have hfs32 := bkF BK252.out 0
 have hns32_0 := NB244_252.out
 have hns32_1 := NB245_252.out
 have hns32_2 := NB246_252.out
 have hns32_3 := NB247_252.out
 have hns32_4 := NB248_252.out
 have hns32_5 := NB249_252.out
 have hns32_7 := NB253_252.out
 have hms32_0 := NB252_244.out
 have hms32_1 := NB252_245.out
 have hms32_2 := NB252_246.out
 have hms32_3 := NB252_247.out
 have hms32_4 := NB252_248.out
 have hms32_5 := NB252_249.out
 have hms32_7 := NB252_253.out
 have hs33 : w31.cell? ⟨gb252,1,none⟩ = some (.int .i64 0) := (bkC BK252.out 1).trans rfl
 have hfs33 := bkF BK252.out 1
 have hns33_0 := NB244_252.out
 have hns33_1 := NB245_252.out
 have hns33_2 := NB246_252.out
 have hns33_3 := NB247_252.out
 have hns33_4 := NB248_252.out
 have hns33_5 := NB249_252.out
 have hns33_7 := NB253_252.out
 have hms33_0 := NB252_244.out
 have hms33_1 := NB252_245.out
 have hms33_2 := NB252_246.out
 have hms33_3 := NB252_247.out
 have hms33_4 := NB252_248.out
 have hms33_5 := NB252_249.out
 have hms33_7 := NB252_253.out
 have hs34 : w31.cell? ⟨gb252,2,none⟩ = some (.slice none 0 0) := (bkC BK252.out 2).trans rfl
 have hfs34 := bkF BK252.out 2
 have hns34_0 := NB244_252.out
 have hns34_1 := NB245_252.out
 have hns34_2 := NB246_252.out
 have hns34_3 := NB247_252.out
 have hns34_4 := NB248_252.out
 have hns34_5 := NB249_252.out
 have hns34_7 := NB253_252.out
 have hms34_0 := NB252_244.out
 have hms34_1 := NB252_245.out
 have hms34_2 := NB252_246.out
 have hms34_3 := NB252_247.out
 have hms34_4 := NB252_248.out
 have hms34_5 := NB252_249.out
 have hms34_7 := NB252_253.out
 refine skip_ (w1 := ?_) (by rfl) rfl ?_ ?_
 rotate_left
 ·go_simp
  rfl
 refine hK.out _ _ ⟨((cell_far (p := ⟨gb252,_,none⟩) NB244_252.out _).trans (((cell_far (p := ⟨gb252,_,none⟩) NB244_252.out _).trans (((cell_far (p := ⟨gb252,_,none⟩) NB244_252.out _).trans (hHeld.1)))))),((cell_far (p := ⟨gb252,_,none⟩) NB244_252.out _).trans (((cell_far (p := ⟨gb252,_,none⟩) NB244_252.out _).trans (((cell_far (p := ⟨gb252,_,none⟩) NB244_252.out _).trans (hHeld.2.1)))))),((cell_far (p := ⟨gb252,_,none⟩) NB245_252.out _).trans (((cell_far (p := ⟨gb252,_,none⟩) NB245_252.out _).trans (((cell_far (p := ⟨gb252,_,none⟩) NB245_252.out _).trans (hHeld.2.2.1)))))),((cell_far (p := ⟨gb252,_,none⟩) NB245_252.out _).trans (((cell_far (p := ⟨gb252,_,none⟩) NB245_252.out _).trans (((cell_far (p := ⟨gb252,_,none⟩) NB245_252.out _).trans (hHeld.2.2.2.1)))))),((cell_far (p := ⟨gb252,_,none⟩) (by first|exact Nat.ne_of_lt (Nat.lt_of_lt_of_le (by have := bwL _ _ hw250_0;first|rwa [add_block] at this|exact this) (Nat.le_trans HZ.out GW252.out))|(rw [add_block];exact Nat.ne_of_lt (Nat.lt_of_lt_of_le (by have := bwL _ _ hw250_0;first|rwa [add_block] at this|exact this) (Nat.le_trans HZ.out GW252.out)))|(show (Addr.add _ _).block ≠ _;rw [add_block];exact Nat.ne_of_lt (Nat.lt_of_lt_of_le (by have := bwL _ _ hw250_0;first|rwa [add_block] at this|exact this) (Nat.le_trans HZ.out GW252.out)))|(dsimp only;exact Nat.ne_of_lt (Nat.lt_of_lt_of_le (by have := bwL _ _ hw250_0;first|rwa [add_block] at this|exact this) (Nat.le_trans HZ.out GW252.out)))) _).trans (((cell_far (p := ⟨gb252,_,none⟩) (by first|exact Nat.ne_of_lt (Nat.lt_of_lt_of_le (by have := bwL _ _ hw250_0;first|rwa [add_block] at this|exact this) (Nat.le_trans HZ.out GW252.out))|(rw [add_block];exact Nat.ne_of_lt (Nat.lt_of_lt_of_le (by have := bwL _ _ hw250_0;first|rwa [add_block] at this|exact this) (Nat.le_trans HZ.out GW252.out)))|(show (Addr.add _ _).block ≠ _;rw [add_block];exact Nat.ne_of_lt (Nat.lt_of_lt_of_le (by have := bwL _ _ hw250_0;first|rwa [add_block] at this|exact this) (Nat.le_trans HZ.out GW252.out)))|(dsimp only;exact Nat.ne_of_lt (Nat.lt_of_lt_of_le (by have := bwL _ _ hw250_0;first|rwa [add_block] at this|exact this) (Nat.le_trans HZ.out GW252.out)))) _).trans (((cell_far (p := ⟨gb252,_,none⟩) (by first|exact Nat.ne_of_lt (Nat.lt_of_lt_of_le (by have := bwL _ _ hw250_0;first|rwa [add_block] at this|exact this) (Nat.le_trans HZ.out GW252.out))|(rw [add_block];exact Nat.ne_of_lt (Nat.lt_of_lt_of_le (by have := bwL _ _ hw250_0;first|rwa [add_block] at this|exact this) (Nat.le_trans HZ.out GW252.out)))|(show (Addr.add _ _).block ≠ _;rw [add_block];exact Nat.ne_of_lt (Nat.lt_of_lt_of_le (by have := bwL _ _ hw250_0;first|rwa [add_block] at this|exact this) (Nat.le_trans HZ.out GW252.out)))|(dsimp only;exact Nat.ne_of_lt (Nat.lt_of_lt_of_le (by have := bwL _ _ hw250_0;first|rwa [add_block] at this|exact this) (Nat.le_trans HZ.out GW252.out)))) _).trans (hHeld.2.2.2.2.1)))))),((cell_far (p := ⟨gb252,_,none⟩) (by first|exact Nat.ne_of_lt (Nat.lt_of_lt_of_le (by have := bwL _ _ hw250_1;first|rwa [add_block] at this|exact this) (Nat.le_trans HZ.out GW252.out))|(rw [add_block];exact Nat.ne_of_lt (Nat.lt_of_lt_of_le (by have := bwL _ _ hw250_1;first|rwa [add_block] at this|exact this) (Nat.le_trans HZ.out GW252.out)))|(show (Addr.add _ _).block ≠ _;rw [add_block];exact Nat.ne_of_lt (Nat.lt_of_lt_of_le (by have := bwL _ _ hw250_1;first|rwa [add_block] at this|exact this) (Nat.le_trans HZ.out GW252.out)))|(dsimp only;exact Nat.ne_of_lt (Nat.lt_of_lt_of_le (by have := bwL _ _ hw250_1;first|rwa [add_block] at this|exact this) (Nat.le_trans HZ.out GW252.out)))) _).trans (((cell_far (p := ⟨gb252,_,none⟩) (by first|exact Nat.ne_of_lt (Nat.lt_of_lt_of_le (by have := bwL _ _ hw250_1;first|rwa [add_block] at this|exact this) (Nat.le_trans HZ.out GW252.out))|(rw [add_block];exact Nat.ne_of_lt (Nat.lt_of_lt_of_le (by have := bwL _ _ hw250_1;first|rwa [add_block] at this|exact this) (Nat.le_trans HZ.out GW252.out)))|(show (Addr.add _ _).block ≠ _;rw [add_block];exact Nat.ne_of_lt (Nat.lt_of_lt_of_le (by have := bwL _ _ hw250_1;first|rwa [add_block] at this|exact this) (Nat.le_trans HZ.out GW252.out)))|(dsimp only;exact Nat.ne_of_lt (Nat.lt_of_lt_of_le (by have := bwL _ _ hw250_1;first|rwa [add_block] at this|exact this) (Nat.le_trans HZ.out GW252.out)))) _).trans (((cell_far (p := ⟨gb252,_,none⟩) (by first|exact Nat.ne_of_lt (Nat.lt_of_lt_of_le (by have := bwL _ _ hw250_1;first|rwa [add_block] at this|exact this) (Nat.le_trans HZ.out GW252.out))|(rw [add_block];exact Nat.ne_of_lt (Nat.lt_of_lt_of_le (by have := bwL _ _ hw250_1;first|rwa [add_block] at this|exact this) (Nat.le_trans HZ.out GW252.out)))|(show (Addr.add _ _).block ≠ _;rw [add_block];exact Nat.ne_of_lt (Nat.lt_of_lt_of_le (by have := bwL _ _ hw250_1;first|rwa [add_block] at this|exact this) (Nat.le_trans HZ.out GW252.out)))|(dsimp only;exact Nat.ne_of_lt (Nat.lt_of_lt_of_le (by have := bwL _ _ hw250_1;first|rwa [add_block] at this|exact this) (Nat.le_trans HZ.out GW252.out)))) _).trans (hHeld.2.2.2.2.2.1)))))),((cell_far (p := ⟨gb252,_,none⟩) (by first|exact Nat.ne_of_lt (Nat.lt_of_lt_of_le (by have := bwL _ _ hw250_2;first|rwa [add_block] at this|exact this) (Nat.le_trans HZ.out GW252.out))|(rw [add_block];exact Nat.ne_of_lt (Nat.lt_of_lt_of_le (by have := bwL _ _ hw250_2;first|rwa [add_block] at this|exact this) (Nat.le_trans HZ.out GW252.out)))|(show (Addr.add _ _).block ≠ _;rw [add_block];exact Nat.ne_of_lt (Nat.lt_of_lt_of_le (by have := bwL _ _ hw250_2;first|rwa [add_block] at this|exact this) (Nat.le_trans HZ.out GW252.out)))|(dsimp only;exact Nat.ne_of_lt (Nat.lt_of_lt_of_le (by have := bwL _ _ hw250_2;first|rwa [add_block] at this|exact this) (Nat.le_trans HZ.out GW252.out)))) _).trans (((cell_far (p := ⟨gb252,_,none⟩) (by first|exact Nat.ne_of_lt (Nat.lt_of_lt_of_le (by have := bwL _ _ hw250_2;first|rwa [add_block] at this|exact this) (Nat.le_trans HZ.out GW252.out))|(rw [add_block];exact Nat.ne_of_lt (Nat.lt_of_lt_of_le (by have := bwL _ _ hw250_2;first|rwa [add_block] at this|exact this) (Nat.le_trans HZ.out GW252.out)))|(show (Addr.add _ _).block ≠ _;rw [add_block];exact Nat.ne_of_lt (Nat.lt_of_lt_of_le (by have := bwL _ _ hw250_2;first|rwa [add_block] at this|exact this) (Nat.le_trans HZ.out GW252.out)))|(dsimp only;exact Nat.ne_of_lt (Nat.lt_of_lt_of_le (by have := bwL _ _ hw250_2;first|rwa [add_block] at this|exact this) (Nat.le_trans HZ.out GW252.out)))) _).trans (((cell_far (p := ⟨gb252,_,none⟩) (by first|exact Nat.ne_of_lt (Nat.lt_of_lt_of_le (by have := bwL _ _ hw250_2;first|rwa [add_block] at this|exact this) (Nat.le_trans HZ.out GW252.out))|(rw [add_block];exact Nat.ne_of_lt (Nat.lt_of_lt_of_le (by have := bwL _ _ hw250_2;first|rwa [add_block] at this|exact this) (Nat.le_trans HZ.out GW252.out)))|(show (Addr.add _ _).block ≠ _;rw [add_block];exact Nat.ne_of_lt (Nat.lt_of_lt_of_le (by have := bwL _ _ hw250_2;first|rwa [add_block] at this|exact this) (Nat.le_trans HZ.out GW252.out)))|(dsimp only;exact Nat.ne_of_lt (Nat.lt_of_lt_of_le (by have := bwL _ _ hw250_2;first|rwa [add_block] at this|exact this) (Nat.le_trans HZ.out GW252.out)))) _).trans (hHeld.2.2.2.2.2.2.1)))))),((cell_far (p := ⟨gb252,_,none⟩) (by first|exact Nat.ne_of_lt (Nat.lt_of_lt_of_le (by have := bwL _ _ hw251_0;first|rwa [add_block] at this|exact this) (Nat.le_trans HZ.out GW252.out))|(rw [add_block];exact Nat.ne_of_lt (Nat.lt_of_lt_of_le (by have := bwL _ _ hw251_0;first|rwa [add_block] at this|exact this) (Nat.le_trans HZ.out GW252.out)))|(show (Addr.add _ _).block ≠ _;rw [add_block];exact Nat.ne_of_lt (Nat.lt_of_lt_of_le (by have := bwL _ _ hw251_0;first|rwa [add_block] at this|exact this) (Nat.le_trans HZ.out GW252.out)))|(dsimp only;exact Nat.ne_of_lt (Nat.lt_of_lt_of_le (by have := bwL _ _ hw251_0;first|rwa [add_block] at this|exact this) (Nat.le_trans HZ.out GW252.out)))) _).trans (((cell_far (p := ⟨gb252,_,none⟩) (by first|exact Nat.ne_of_lt (Nat.lt_of_lt_of_le (by have := bwL _ _ hw251_0;first|rwa [add_block] at this|exact this) (Nat.le_trans HZ.out GW252.out))|(rw [add_block];exact Nat.ne_of_lt (Nat.lt_of_lt_of_le (by have := bwL _ _ hw251_0;first|rwa [add_block] at this|exact this) (Nat.le_trans HZ.out GW252.out)))|(show (Addr.add _ _).block ≠ _;rw [add_block];exact Nat.ne_of_lt (Nat.lt_of_lt_of_le (by have := bwL _ _ hw251_0;first|rwa [add_block] at this|exact this) (Nat.le_trans HZ.out GW252.out)))|(dsimp only;exact Nat.ne_of_lt (Nat.lt_of_lt_of_le (by have := bwL _ _ hw251_0;first|rwa [add_block] at this|exact this) (Nat.le_trans HZ.out GW252.out)))) _).trans (((cell_far (p := ⟨gb252,_,none⟩) (by first|exact Nat.ne_of_lt (Nat.lt_of_lt_of_le (by have := bwL _ _ hw251_0;first|rwa [add_block] at this|exact this) (Nat.le_trans HZ.out GW252.out))|(rw [add_block];exact Nat.ne_of_lt (Nat.lt_of_lt_of_le (by have := bwL _ _ hw251_0;first|rwa [add_block] at this|exact this) (Nat.le_trans HZ.out GW252.out)))|(show (Addr.add _ _).block ≠ _;rw [add_block];exact Nat.ne_of_lt (Nat.lt_of_lt_of_le (by have := bwL _ _ hw251_0;first|rwa [add_block] at this|exact this) (Nat.le_trans HZ.out GW252.out)))|(dsimp only;exact Nat.ne_of_lt (Nat.lt_of_lt_of_le (by have := bwL _ _ hw251_0;first|rwa [add_block] at this|exact this) (Nat.le_trans HZ.out GW252.out)))) _).trans (hHeld.2.2.2.2.2.2.2.1)))))),((cell_far (p := ⟨gb252,_,none⟩) (by first|exact Nat.ne_of_lt (Nat.lt_of_lt_of_le (by have := bwL _ _ hw251_1;first|rwa [add_block] at this|exact this) (Nat.le_trans HZ.out GW252.out))|(rw [add_block];exact Nat.ne_of_lt (Nat.lt_of_lt_of_le (by have := bwL _ _ hw251_1;first|rwa [add_block] at this|exact this) (Nat.le_trans HZ.out GW252.out)))|(show (Addr.add _ _).block ≠ _;rw [add_block];exact Nat.ne_of_lt (Nat.lt_of_lt_of_le (by have := bwL _ _ hw251_1;first|rwa [add_block] at this|exact this) (Nat.le_trans HZ.out GW252.out)))|(dsimp only;exact Nat.ne_of_lt (Nat.lt_of_lt_of_le (by have := bwL _ _ hw251_1;first|rwa [add_block] at this|exact this) (Nat.le_trans HZ.out GW252.out)))) _).trans (((cell_far (p := ⟨gb252,_,none⟩) (by first|exact Nat.ne_of_lt (Nat.lt_of_lt_of_le (by have := bwL _ _ hw251_1;first|rwa [add_block] at this|exact this) (Nat.le_trans HZ.out GW252.out))|(rw [add_block];exact Nat.ne_of_lt (Nat.lt_of_lt_of_le (by have := bwL _ _ hw251_1;first|rwa [add_block] at this|exact this) (Nat.le_trans HZ.out GW252.out)))|(show (Addr.add _ _).block ≠ _;rw [add_block];exact Nat.ne_of_lt (Nat.lt_of_lt_of_le (by have := bwL _ _ hw251_1;first|rwa [add_block] at this|exact this) (Nat.le_trans HZ.out GW252.out)))|(dsimp only;exact Nat.ne_of_lt (Nat.lt_of_lt_of_le (by have := bwL _ _ hw251_1;first|rwa [add_block] at this|exact this) (Nat.le_trans HZ.out GW252.out)))) _).trans (((cell_far (p := ⟨gb252,_,none⟩) (by first|exact Nat.ne_of_lt (Nat.lt_of_lt_of_le (by have := bwL _ _ hw251_1;first|rwa [add_block] at this|exact this) (Nat.le_trans HZ.out GW252.out))|(rw [add_block];exact Nat.ne_of_lt (Nat.lt_of_lt_of_le (by have := bwL _ _ hw251_1;first|rwa [add_block] at this|exact this) (Nat.le_trans HZ.out GW252.out)))|(show (Addr.add _ _).block ≠ _;rw [add_block];exact Nat.ne_of_lt (Nat.lt_of_lt_of_le (by have := bwL _ _ hw251_1;first|rwa [add_block] at this|exact this) (Nat.le_trans HZ.out GW252.out)))|(dsimp only;exact Nat.ne_of_lt (Nat.lt_of_lt_of_le (by have := bwL _ _ hw251_1;first|rwa [add_block] at this|exact this) (Nat.le_trans HZ.out GW252.out)))) _).trans (hHeld.2.2.2.2.2.2.2.2.1)))))),((cell_far (p := ⟨gb252,_,none⟩) (by first|exact Nat.ne_of_lt (Nat.lt_of_lt_of_le (by have := bwL _ _ hw251_2;first|rwa [add_block] at this|exact this) (Nat.le_trans HZ.out GW252.out))|(rw [add_block];exact Nat.ne_of_lt (Nat.lt_of_lt_of_le (by have := bwL _ _ hw251_2;first|rwa [add_block] at this|exact this) (Nat.le_trans HZ.out GW252.out)))|(show (Addr.add _ _).block ≠ _;rw [add_block];exact Nat.ne_of_lt (Nat.lt_of_lt_of_le (by have := bwL _ _ hw251_2;first|rwa [add_block] at this|exact this) (Nat.le_trans HZ.out GW252.out)))|(dsimp only;exact Nat.ne_of_lt (Nat.lt_of_lt_of_le (by have := bwL _ _ hw251_2;first|rwa [add_block] at this|exact this) (Nat.le_trans HZ.out GW252.out)))) _).trans (((cell_far (p := ⟨gb252,_,none⟩) (by first|exact Nat.ne_of_lt (Nat.lt_of_lt_of_le (by have := bwL _ _ hw251_2;first|rwa [add_block] at this|exact this) (Nat.le_trans HZ.out GW252.out))|(rw [add_block];exact Nat.ne_of_lt (Nat.lt_of_lt_of_le (by have := bwL _ _ hw251_2;first|rwa [add_block] at this|exact this) (Nat.le_trans HZ.out GW252.out)))|(show (Addr.add _ _).block ≠ _;rw [add_block];exact Nat.ne_of_lt (Nat.lt_of_lt_of_le (by have := bwL _ _ hw251_2;first|rwa [add_block] at this|exact this) (Nat.le_trans HZ.out GW252.out)))|(dsimp only;exact Nat.ne_of_lt (Nat.lt_of_lt_of_le (by have := bwL _ _ hw251_2;first|rwa [add_block] at this|exact this) (Nat.le_trans HZ.out GW252.out)))) _).trans (((cell_far (p := ⟨gb252,_,none⟩) (by first|exact Nat.ne_of_lt (Nat.lt_of_lt_of_le (by have := bwL _ _ hw251_2;first|rwa [add_block] at this|exact this) (Nat.le_trans HZ.out GW252.out))|(rw [add_block];exact Nat.ne_of_lt (Nat.lt_of_lt_of_le (by have := bwL _ _ hw251_2;first|rwa [add_block] at this|exact this) (Nat.le_trans HZ.out GW252.out)))|(show (Addr.add _ _).block ≠ _;rw [add_block];exact Nat.ne_of_lt (Nat.lt_of_lt_of_le (by have := bwL _ _ hw251_2;first|rwa [add_block] at this|exact this) (Nat.le_trans HZ.out GW252.out)))|(dsimp only;exact Nat.ne_of_lt (Nat.lt_of_lt_of_le (by have := bwL _ _ hw251_2;first|rwa [add_block] at this|exact this) (Nat.le_trans HZ.out GW252.out)))) _).trans (hHeld.2.2.2.2.2.2.2.2.2))))))⟩ (fun hHeld => ?_)
 clear hK K
 refine one_ (i := 13) (N := none) (bl_ 16383 14) rfl rfl (one_of HT_.out (by kernel_rfl)) (by decide) (fun K hK => ?_)
 have hs35 : w31.cell? ⟨gb253,0,none⟩ = some (.int .i64 0) := (bkC BK253.out 0).trans rfl
 have hfs35 := bkF BK253.out 0
 have hns35_0 := NB244_253.out
 have hns35_1 := NB245_253.out
 have hns35_2 := NB246_253.out
 have hns35_3 := NB247_253.out
 have hns35_4 := NB248_253.out
 have hns35_5 := NB249_253.out
 have hns35_6 := NB252_253.out
 have hms35_0 := NB253_244.out
 have hms35_1 := NB253_245.out
 have hms35_2 := NB253_246.out
 have hms35_3 := NB253_247.out
 have hms35_4 := NB253_248.out
 have hms35_5 := NB253_249.out
 have hms35_6 := NB253_252.out
 have hs36 : w31.cell? ⟨gb253,1,none⟩ = some (.int .i64 0) := (bkC BK253.out 1).trans rfl
 have hfs36 := bkF BK253.out 1
 have hns36_0 := NB244_253.out
 have hns36_1 := NB245_253.out
 have hns36_2 := NB246_253.out
 have hns36_3 := NB247_253.out
 have hns36_4 := NB248_253.out
 have hns36_5 := NB249_253.out
 have hns36_6 := NB252_253.out
 have hms36_0 := NB253_244.out
 have hms36_1 := NB253_245.out
 have hms36_2 := NB253_246.out
 have hms36_3 := NB253_247.out
 have hms36_4 := NB253_248.out
 have hms36_5 := NB253_249.out
 have hms36_6 := NB253_252.out
 have hs37 : w31.cell? ⟨gb253,2,none⟩ = some (.slice none 0 0) := (bkC BK253.out 2).trans rfl
 have hfs37 := bkF BK253.out 2
 have hns37_0 := NB244_253.out
 have hns37_1 := NB245_253.out
 have hns37_2 := NB246_253.out
 have hns37_3 := NB247_253.out
 have hns37_4 := NB248_253.out
 have hns37_5 := NB249_253.out
 have hns37_6 := NB252_253.out
 have hms37_0 := NB253_244.out
 have hms37_1 := NB253_245.out
 have hms37_2 := NB253_246.out
 have hms37_3 := NB253_247.out
 have hms37_4 := NB253_248.out
 have hms37_5 := NB253_249.out
 have hms37_6 := NB253_252.out
 refine skip_ (w1 := ?_) (by rfl) rfl ?_ ?_
 rotate_left
 ·go_simp
  rfl
 refine hK.out _ _ ⟨((cell_far (p := ⟨gb253,_,none⟩) NB244_253.out _).trans (((cell_far (p := ⟨gb253,_,none⟩) NB244_253.out _).trans (((cell_far (p := ⟨gb253,_,none⟩) NB244_253.out _).trans (hHeld.1)))))),((cell_far (p := ⟨gb253,_,none⟩) NB244_253.out _).trans (((cell_far (p := ⟨gb253,_,none⟩) NB244_253.out _).trans (((cell_far (p := ⟨gb253,_,none⟩) NB244_253.out _).trans (hHeld.2.1)))))),((cell_far (p := ⟨gb253,_,none⟩) NB245_253.out _).trans (((cell_far (p := ⟨gb253,_,none⟩) NB245_253.out _).trans (((cell_far (p := ⟨gb253,_,none⟩) NB245_253.out _).trans (hHeld.2.2.1)))))),((cell_far (p := ⟨gb253,_,none⟩) NB245_253.out _).trans (((cell_far (p := ⟨gb253,_,none⟩) NB245_253.out _).trans (((cell_far (p := ⟨gb253,_,none⟩) NB245_253.out _).trans (hHeld.2.2.2.1)))))),((cell_far (p := ⟨gb253,_,none⟩) (by first|exact Nat.ne_of_lt (Nat.lt_of_lt_of_le (by have := bwL _ _ hw250_0;first|rwa [add_block] at this|exact this) (Nat.le_trans HZ.out GW253.out))|(rw [add_block];exact Nat.ne_of_lt (Nat.lt_of_lt_of_le (by have := bwL _ _ hw250_0;first|rwa [add_block] at this|exact this) (Nat.le_trans HZ.out GW253.out)))|(show (Addr.add _ _).block ≠ _;rw [add_block];exact Nat.ne_of_lt (Nat.lt_of_lt_of_le (by have := bwL _ _ hw250_0;first|rwa [add_block] at this|exact this) (Nat.le_trans HZ.out GW253.out)))|(dsimp only;exact Nat.ne_of_lt (Nat.lt_of_lt_of_le (by have := bwL _ _ hw250_0;first|rwa [add_block] at this|exact this) (Nat.le_trans HZ.out GW253.out)))) _).trans (((cell_far (p := ⟨gb253,_,none⟩) (by first|exact Nat.ne_of_lt (Nat.lt_of_lt_of_le (by have := bwL _ _ hw250_0;first|rwa [add_block] at this|exact this) (Nat.le_trans HZ.out GW253.out))|(rw [add_block];exact Nat.ne_of_lt (Nat.lt_of_lt_of_le (by have := bwL _ _ hw250_0;first|rwa [add_block] at this|exact this) (Nat.le_trans HZ.out GW253.out)))|(show (Addr.add _ _).block ≠ _;rw [add_block];exact Nat.ne_of_lt (Nat.lt_of_lt_of_le (by have := bwL _ _ hw250_0;first|rwa [add_block] at this|exact this) (Nat.le_trans HZ.out GW253.out)))|(dsimp only;exact Nat.ne_of_lt (Nat.lt_of_lt_of_le (by have := bwL _ _ hw250_0;first|rwa [add_block] at this|exact this) (Nat.le_trans HZ.out GW253.out)))) _).trans (((cell_far (p := ⟨gb253,_,none⟩) (by first|exact Nat.ne_of_lt (Nat.lt_of_lt_of_le (by have := bwL _ _ hw250_0;first|rwa [add_block] at this|exact this) (Nat.le_trans HZ.out GW253.out))|(rw [add_block];exact Nat.ne_of_lt (Nat.lt_of_lt_of_le (by have := bwL _ _ hw250_0;first|rwa [add_block] at this|exact this) (Nat.le_trans HZ.out GW253.out)))|(show (Addr.add _ _).block ≠ _;rw [add_block];exact Nat.ne_of_lt (Nat.lt_of_lt_of_le (by have := bwL _ _ hw250_0;first|rwa [add_block] at this|exact this) (Nat.le_trans HZ.out GW253.out)))|(dsimp only;exact Nat.ne_of_lt (Nat.lt_of_lt_of_le (by have := bwL _ _ hw250_0;first|rwa [add_block] at this|exact this) (Nat.le_trans HZ.out GW253.out)))) _).trans (hHeld.2.2.2.2.1)))))),((cell_far (p := ⟨gb253,_,none⟩) (by first|exact Nat.ne_of_lt (Nat.lt_of_lt_of_le (by have := bwL _ _ hw250_1;first|rwa [add_block] at this|exact this) (Nat.le_trans HZ.out GW253.out))|(rw [add_block];exact Nat.ne_of_lt (Nat.lt_of_lt_of_le (by have := bwL _ _ hw250_1;first|rwa [add_block] at this|exact this) (Nat.le_trans HZ.out GW253.out)))|(show (Addr.add _ _).block ≠ _;rw [add_block];exact Nat.ne_of_lt (Nat.lt_of_lt_of_le (by have := bwL _ _ hw250_1;first|rwa [add_block] at this|exact this) (Nat.le_trans HZ.out GW253.out)))|(dsimp only;exact Nat.ne_of_lt (Nat.lt_of_lt_of_le (by have := bwL _ _ hw250_1;first|rwa [add_block] at this|exact this) (Nat.le_trans HZ.out GW253.out)))) _).trans (((cell_far (p := ⟨gb253,_,none⟩) (by first|exact Nat.ne_of_lt (Nat.lt_of_lt_of_le (by have := bwL _ _ hw250_1;first|rwa [add_block] at this|exact this) (Nat.le_trans HZ.out GW253.out))|(rw [add_block];exact Nat.ne_of_lt (Nat.lt_of_lt_of_le (by have := bwL _ _ hw250_1;first|rwa [add_block] at this|exact this) (Nat.le_trans HZ.out GW253.out)))|(show (Addr.add _ _).block ≠ _;rw [add_block];exact Nat.ne_of_lt (Nat.lt_of_lt_of_le (by have := bwL _ _ hw250_1;first|rwa [add_block] at this|exact this) (Nat.le_trans HZ.out GW253.out)))|(dsimp only;exact Nat.ne_of_lt (Nat.lt_of_lt_of_le (by have := bwL _ _ hw250_1;first|rwa [add_block] at this|exact this) (Nat.le_trans HZ.out GW253.out)))) _).trans (((cell_far (p := ⟨gb253,_,none⟩) (by first|exact Nat.ne_of_lt (Nat.lt_of_lt_of_le (by have := bwL _ _ hw250_1;first|rwa [add_block] at this|exact this) (Nat.le_trans HZ.out GW253.out))|(rw [add_block];exact Nat.ne_of_lt (Nat.lt_of_lt_of_le (by have := bwL _ _ hw250_1;first|rwa [add_block] at this|exact this) (Nat.le_trans HZ.out GW253.out)))|(show (Addr.add _ _).block ≠ _;rw [add_block];exact Nat.ne_of_lt (Nat.lt_of_lt_of_le (by have := bwL _ _ hw250_1;first|rwa [add_block] at this|exact this) (Nat.le_trans HZ.out GW253.out)))|(dsimp only;exact Nat.ne_of_lt (Nat.lt_of_lt_of_le (by have := bwL _ _ hw250_1;first|rwa [add_block] at this|exact this) (Nat.le_trans HZ.out GW253.out)))) _).trans (hHeld.2.2.2.2.2.1)))))),((cell_far (p := ⟨gb253,_,none⟩) (by first|exact Nat.ne_of_lt (Nat.lt_of_lt_of_le (by have := bwL _ _ hw250_2;first|rwa [add_block] at this|exact this) (Nat.le_trans HZ.out GW253.out))|(rw [add_block];exact Nat.ne_of_lt (Nat.lt_of_lt_of_le (by have := bwL _ _ hw250_2;first|rwa [add_block] at this|exact this) (Nat.le_trans HZ.out GW253.out)))|(show (Addr.add _ _).block ≠ _;rw [add_block];exact Nat.ne_of_lt (Nat.lt_of_lt_of_le (by have := bwL _ _ hw250_2;first|rwa [add_block] at this|exact this) (Nat.le_trans HZ.out GW253.out)))|(dsimp only;exact Nat.ne_of_lt (Nat.lt_of_lt_of_le (by have := bwL _ _ hw250_2;first|rwa [add_block] at this|exact this) (Nat.le_trans HZ.out GW253.out)))) _).trans (((cell_far (p := ⟨gb253,_,none⟩) (by first|exact Nat.ne_of_lt (Nat.lt_of_lt_of_le (by have := bwL _ _ hw250_2;first|rwa [add_block] at this|exact this) (Nat.le_trans HZ.out GW253.out))|(rw [add_block];exact Nat.ne_of_lt (Nat.lt_of_lt_of_le (by have := bwL _ _ hw250_2;first|rwa [add_block] at this|exact this) (Nat.le_trans HZ.out GW253.out)))|(show (Addr.add _ _).block ≠ _;rw [add_block];exact Nat.ne_of_lt (Nat.lt_of_lt_of_le (by have := bwL _ _ hw250_2;first|rwa [add_block] at this|exact this) (Nat.le_trans HZ.out GW253.out)))|(dsimp only;exact Nat.ne_of_lt (Nat.lt_of_lt_of_le (by have := bwL _ _ hw250_2;first|rwa [add_block] at this|exact this) (Nat.le_trans HZ.out GW253.out)))) _).trans (((cell_far (p := ⟨gb253,_,none⟩) (by first|exact Nat.ne_of_lt (Nat.lt_of_lt_of_le (by have := bwL _ _ hw250_2;first|rwa [add_block] at this|exact this) (Nat.le_trans HZ.out GW253.out))|(rw [add_block];exact Nat.ne_of_lt (Nat.lt_of_lt_of_le (by have := bwL _ _ hw250_2;first|rwa [add_block] at this|exact this) (Nat.le_trans HZ.out GW253.out)))|(show (Addr.add _ _).block ≠ _;rw [add_block];exact Nat.ne_of_lt (Nat.lt_of_lt_of_le (by have := bwL _ _ hw250_2;first|rwa [add_block] at this|exact this) (Nat.le_trans HZ.out GW253.out)))|(dsimp only;exact Nat.ne_of_lt (Nat.lt_of_lt_of_le (by have := bwL _ _ hw250_2;first|rwa [add_block] at this|exact this) (Nat.le_trans HZ.out GW253.out)))) _).trans (hHeld.2.2.2.2.2.2.1)))))),((cell_far (p := ⟨gb253,_,none⟩) (by first|exact Nat.ne_of_lt (Nat.lt_of_lt_of_le (by have := bwL _ _ hw251_0;first|rwa [add_block] at this|exact this) (Nat.le_trans HZ.out GW253.out))|(rw [add_block];exact Nat.ne_of_lt (Nat.lt_of_lt_of_le (by have := bwL _ _ hw251_0;first|rwa [add_block] at this|exact this) (Nat.le_trans HZ.out GW253.out)))|(show (Addr.add _ _).block ≠ _;rw [add_block];exact Nat.ne_of_lt (Nat.lt_of_lt_of_le (by have := bwL _ _ hw251_0;first|rwa [add_block] at this|exact this) (Nat.le_trans HZ.out GW253.out)))|(dsimp only;exact Nat.ne_of_lt (Nat.lt_of_lt_of_le (by have := bwL _ _ hw251_0;first|rwa [add_block] at this|exact this) (Nat.le_trans HZ.out GW253.out)))) _).trans (((cell_far (p := ⟨gb253,_,none⟩) (by first|exact Nat.ne_of_lt (Nat.lt_of_lt_of_le (by have := bwL _ _ hw251_0;first|rwa [add_block] at this|exact this) (Nat.le_trans HZ.out GW253.out))|(rw [add_block];exact Nat.ne_of_lt (Nat.lt_of_lt_of_le (by have := bwL _ _ hw251_0;first|rwa [add_block] at this|exact this) (Nat.le_trans HZ.out GW253.out)))|(show (Addr.add _ _).block ≠ _;rw [add_block];exact Nat.ne_of_lt (Nat.lt_of_lt_of_le (by have := bwL _ _ hw251_0;first|rwa [add_block] at this|exact this) (Nat.le_trans HZ.out GW253.out)))|(dsimp only;exact Nat.ne_of_lt (Nat.lt_of_lt_of_le (by have := bwL _ _ hw251_0;first|rwa [add_block] at this|exact this) (Nat.le_trans HZ.out GW253.out)))) _).trans (((cell_far (p := ⟨gb253,_,none⟩) (by first|exact Nat.ne_of_lt (Nat.lt_of_lt_of_le (by have := bwL _ _ hw251_0;first|rwa [add_block] at this|exact this) (Nat.le_trans HZ.out GW253.out))|(rw [add_block];exact Nat.ne_of_lt (Nat.lt_of_lt_of_le (by have := bwL _ _ hw251_0;first|rwa [add_block] at this|exact this) (Nat.le_trans HZ.out GW253.out)))|(show (Addr.add _ _).block ≠ _;rw [add_block];exact Nat.ne_of_lt (Nat.lt_of_lt_of_le (by have := bwL _ _ hw251_0;first|rwa [add_block] at this|exact this) (Nat.le_trans HZ.out GW253.out)))|(dsimp only;exact Nat.ne_of_lt (Nat.lt_of_lt_of_le (by have := bwL _ _ hw251_0;first|rwa [add_block] at this|exact this) (Nat.le_trans HZ.out GW253.out)))) _).trans (hHeld.2.2.2.2.2.2.2.1)))))),((cell_far (p := ⟨gb253,_,none⟩) (by first|exact Nat.ne_of_lt (Nat.lt_of_lt_of_le (by have := bwL _ _ hw251_1;first|rwa [add_block] at this|exact this) (Nat.le_trans HZ.out GW253.out))|(rw [add_block];exact Nat.ne_of_lt (Nat.lt_of_lt_of_le (by have := bwL _ _ hw251_1;first|rwa [add_block] at this|exact this) (Nat.le_trans HZ.out GW253.out)))|(show (Addr.add _ _).block ≠ _;rw [add_block];exact Nat.ne_of_lt (Nat.lt_of_lt_of_le (by have := bwL _ _ hw251_1;first|rwa [add_block] at this|exact this) (Nat.le_trans HZ.out GW253.out)))|(dsimp only;exact Nat.ne_of_lt (Nat.lt_of_lt_of_le (by have := bwL _ _ hw251_1;first|rwa [add_block] at this|exact this) (Nat.le_trans HZ.out GW253.out)))) _).trans (((cell_far (p := ⟨gb253,_,none⟩) (by first|exact Nat.ne_of_lt (Nat.lt_of_lt_of_le (by have := bwL _ _ hw251_1;first|rwa [add_block] at this|exact this) (Nat.le_trans HZ.out GW253.out))|(rw [add_block];exact Nat.ne_of_lt (Nat.lt_of_lt_of_le (by have := bwL _ _ hw251_1;first|rwa [add_block] at this|exact this) (Nat.le_trans HZ.out GW253.out)))|(show (Addr.add _ _).block ≠ _;rw [add_block];exact Nat.ne_of_lt (Nat.lt_of_lt_of_le (by have := bwL _ _ hw251_1;first|rwa [add_block] at this|exact this) (Nat.le_trans HZ.out GW253.out)))|(dsimp only;exact Nat.ne_of_lt (Nat.lt_of_lt_of_le (by have := bwL _ _ hw251_1;first|rwa [add_block] at this|exact this) (Nat.le_trans HZ.out GW253.out)))) _).trans (((cell_far (p := ⟨gb253,_,none⟩) (by first|exact Nat.ne_of_lt (Nat.lt_of_lt_of_le (by have := bwL _ _ hw251_1;first|rwa [add_block] at this|exact this) (Nat.le_trans HZ.out GW253.out))|(rw [add_block];exact Nat.ne_of_lt (Nat.lt_of_lt_of_le (by have := bwL _ _ hw251_1;first|rwa [add_block] at this|exact this) (Nat.le_trans HZ.out GW253.out)))|(show (Addr.add _ _).block ≠ _;rw [add_block];exact Nat.ne_of_lt (Nat.lt_of_lt_of_le (by have := bwL _ _ hw251_1;first|rwa [add_block] at this|exact this) (Nat.le_trans HZ.out GW253.out)))|(dsimp only;exact Nat.ne_of_lt (Nat.lt_of_lt_of_le (by have := bwL _ _ hw251_1;first|rwa [add_block] at this|exact this) (Nat.le_trans HZ.out GW253.out)))) _).trans (hHeld.2.2.2.2.2.2.2.2.1)))))),((cell_far (p := ⟨gb253,_,none⟩) (by first|exact Nat.ne_of_lt (Nat.lt_of_lt_of_le (by have := bwL _ _ hw251_2;first|rwa [add_block] at this|exact this) (Nat.le_trans HZ.out GW253.out))|(rw [add_block];exact Nat.ne_of_lt (Nat.lt_of_lt_of_le (by have := bwL _ _ hw251_2;first|rwa [add_block] at this|exact this) (Nat.le_trans HZ.out GW253.out)))|(show (Addr.add _ _).block ≠ _;rw [add_block];exact Nat.ne_of_lt (Nat.lt_of_lt_of_le (by have := bwL _ _ hw251_2;first|rwa [add_block] at this|exact this) (Nat.le_trans HZ.out GW253.out)))|(dsimp only;exact Nat.ne_of_lt (Nat.lt_of_lt_of_le (by have := bwL _ _ hw251_2;first|rwa [add_block] at this|exact this) (Nat.le_trans HZ.out GW253.out)))) _).trans (((cell_far (p := ⟨gb253,_,none⟩) (by first|exact Nat.ne_of_lt (Nat.lt_of_lt_of_le (by have := bwL _ _ hw251_2;first|rwa [add_block] at this|exact this) (Nat.le_trans HZ.out GW253.out))|(rw [add_block];exact Nat.ne_of_lt (Nat.lt_of_lt_of_le (by have := bwL _ _ hw251_2;first|rwa [add_block] at this|exact this) (Nat.le_trans HZ.out GW253.out)))|(show (Addr.add _ _).block ≠ _;rw [add_block];exact Nat.ne_of_lt (Nat.lt_of_lt_of_le (by have := bwL _ _ hw251_2;first|rwa [add_block] at this|exact this) (Nat.le_trans HZ.out GW253.out)))|(dsimp only;exact Nat.ne_of_lt (Nat.lt_of_lt_of_le (by have := bwL _ _ hw251_2;first|rwa [add_block] at this|exact this) (Nat.le_trans HZ.out GW253.out)))) _).trans (((cell_far (p := ⟨gb253,_,none⟩) (by first|exact Nat.ne_of_lt (Nat.lt_of_lt_of_le (by have := bwL _ _ hw251_2;first|rwa [add_block] at this|exact this) (Nat.le_trans HZ.out GW253.out))|(rw [add_block];exact Nat.ne_of_lt (Nat.lt_of_lt_of_le (by have := bwL _ _ hw251_2;first|rwa [add_block] at this|exact this) (Nat.le_trans HZ.out GW253.out)))|(show (Addr.add _ _).block ≠ _;rw [add_block];exact Nat.ne_of_lt (Nat.lt_of_lt_of_le (by have := bwL _ _ hw251_2;first|rwa [add_block] at this|exact this) (Nat.le_trans HZ.out GW253.out)))|(dsimp only;exact Nat.ne_of_lt (Nat.lt_of_lt_of_le (by have := bwL _ _ hw251_2;first|rwa [add_block] at this|exact this) (Nat.le_trans HZ.out GW253.out)))) _).trans (hHeld.2.2.2.2.2.2.2.2.2))))))⟩ (fun hHeld => ?_)
 clear hK K
 refine done_ (done_of HT_.out (by kernel_rfl)) ?_
 go_upto_region 8 with (fail)
 go_cut [16] (fun v16 wc => ∃ (kq : Nat) (x16_20 : Bool),v16 = .bool x16_20 ∧ Aside0 (impl_EqualTo.j0 kq l0_0 l1_0 a2 a3 a4 x16_20 T = some (r,T')) ∧ Aside0 (kq ≤ k) ∧ Aside0 (wc.heap[gb244]? = some (.cells #[(.slice (some ad250) l0_0.length c0_0),.int .i64 a0_1] 29 (0,0))) ∧ Aside0 (wc.heap[gb245]? = some (.cells #[(.slice (some ad251) l1_0.length c1_0),.int .i64 a1_1] 29 (0,0))) ∧ Aside0 (wc.heap[gb246]? = some (.cells #[.map (some gb248)] 67 (0,0))) ∧ Aside0 (wc.heap[gb247]? = some (.cells #[.func (.func 72) #[] #[.pointer (some ⟨gb246,0,none⟩),.pointer (some ⟨gb244,0,none⟩),.pointer (some ⟨gb245,0,none⟩),.pointer (some ⟨gb247,0,none⟩)]] 65 (0,0))) ∧ Aside0 (wc.heap[gb248]? = some om) ∧ Aside0 (wc.heap[gb249]? = some (.cells #[.int .i64 a2,.int .i64 a3,.int .i64 a4] 68 (0,0))) ∧ Aside0 (wc.heap[gb252]? = some (.cells #[.int .i64 ((rd_T45 l0_0 a2).f0),.int .i64 ((rd_T45 l0_0 a2).f1),(.slice A250_2 ((rd_T45 l0_0 a2).f2).length c250_2)] 45 (0,0))) ∧ Aside0 (wc.heap[gb253]? = some (.cells #[.int .i64 ((rd_T45 l1_0 a3).f0),.int .i64 ((rd_T45 l1_0 a3).f1),(.slice A251_2 ((rd_T45 l1_0 a3).f2).length c251_2)] 45 (0,0))) ∧ Aside0 (impl_EqualTo.R2 w0 w gb248 wc))
 case first =>
  have H := HC21.out
  clear HC21
  by_cases c38 : ((rd_T45 l0_0 a2).f0) = ((rd_T45 l1_0 a3).f0)
  rotate_left
  ·rw [if_neg c38] at H
   have c38b0 : (((rd_T45 l0_0 a2).f0) == ((rd_T45 l1_0 a3).f0)) = false := beq_eq_false_iff_ne.mpr c38
   have c38b1 : (((rd_T45 l0_0 a2).f0) != ((rd_T45 l1_0 a3).f0)) = true := bne_iff_ne.mpr c38
   (first|rw [c38b0]|(simp only [i64_w,i32_w];rw [c38b0])|skip)
   have H' := As_ H
   clear H
   have hnb70 := NB252_244.out
   have hnc70 := NB244_252.out
   have hnb71 := NB252_245.out
   have hnc71 := NB245_252.out
   have hnb72 := NB252_246.out
   have hnc72 := NB246_252.out
   have hnb73 := NB252_247.out
   have hnc73 := NB247_252.out
   have hnb74 := NB252_248.out
   have hnc74 := NB248_252.out
   have hnb75 := NB252_249.out
   have hnc75 := NB249_252.out
   have hnb76 := NB252_253.out
   have hnc76 := NB253_252.out
   obtain ⟨hcz77_0,hcz77_1,hcz77_2,hfz77_0,hfz77_1,hfz77_2⟩ := bk3 BK252.out
   have hnb78 := NB253_244.out
   have hnb79 := NB253_245.out
   have hnb80 := NB253_246.out
   have hnb81 := NB253_247.out
   have hnb82 := NB253_248.out
   have hnb83 := NB253_249.out
   obtain ⟨hcz84_0,hcz84_1,hcz84_2,hfz84_0,hfz84_1,hfz84_2⟩ := bk3 BK253.out
   go_wp2
   go_meet
   case rel => exact ⟨_,(false),zT_,H',⟨by first|omega|exact Nat.le_refl _⟩,⟨by (with_reducible repeat first|apply bkN|apply bkD|apply bkA);refine blk_far ?_ NB244_253.out _;(with_reducible repeat first|apply bkN|apply bkD|apply bkA);refine blk_far ?_ NB244_253.out _;(with_reducible repeat first|apply bkN|apply bkD|apply bkA);refine blk_far ?_ NB244_253.out _;(with_reducible repeat first|apply bkN|apply bkD|apply bkA);refine blk_far ?_ NB244_252.out _;(with_reducible repeat first|apply bkN|apply bkD|apply bkA);refine blk_far ?_ NB244_252.out _;(with_reducible repeat first|apply bkN|apply bkD|apply bkA);refine blk_far ?_ NB244_252.out _;(with_reducible repeat first|apply bkN|apply bkD|apply bkA);exact BK244.out⟩,⟨by (with_reducible repeat first|apply bkN|apply bkD|apply bkA);refine blk_far ?_ NB245_253.out _;(with_reducible repeat first|apply bkN|apply bkD|apply bkA);refine blk_far ?_ NB245_253.out _;(with_reducible repeat first|apply bkN|apply bkD|apply bkA);refine blk_far ?_ NB245_253.out _;(with_reducible repeat first|apply bkN|apply bkD|apply bkA);refine blk_far ?_ NB245_252.out _;(with_reducible repeat first|apply bkN|apply bkD|apply bkA);refine blk_far ?_ NB245_252.out _;(with_reducible repeat first|apply bkN|apply bkD|apply bkA);refine blk_far ?_ NB245_252.out _;(with_reducible repeat first|apply bkN|apply bkD|apply bkA);exact BK245.out⟩,⟨by (with_reducible repeat first|apply bkN|apply bkD|apply bkA);refine blk_far ?_ NB246_253.out _;(with_reducible repeat first|apply bkN|apply bkD|apply bkA);refine blk_far ?_ NB246_253.out _;(with_reducible repeat first|apply bkN|apply bkD|apply bkA);refine blk_far ?_ NB246_253.out _;(with_reducible repeat first|apply bkN|apply bkD|apply bkA);refine blk_far ?_ NB246_252.out _;(with_reducible repeat first|apply bkN|apply bkD|apply bkA);refine blk_far ?_ NB246_252.out _;(with_reducible repeat first|apply bkN|apply bkD|apply bkA);refine blk_far ?_ NB246_252.out _;(with_reducible repeat first|apply bkN|apply bkD|apply bkA);exact BK246.out⟩,⟨by (with_reducible repeat first|apply bkN|apply bkD|apply bkA);refine blk_far ?_ NB247_253.out _;(with_reducible repeat first|apply bkN|apply bkD|apply bkA);refine blk_far ?_ NB247_253.out _;(with_reducible repeat first|apply bkN|apply bkD|apply bkA);refine blk_far ?_ NB247_253.out _;(with_reducible repeat first|apply bkN|apply bkD|apply bkA);refine blk_far ?_ NB247_252.out _;(with_reducible repeat first|apply bkN|apply bkD|apply bkA);refine blk_far ?_ NB247_252.out _;(with_reducible repeat first|apply bkN|apply bkD|apply bkA);refine blk_far ?_ NB247_252.out _;(with_reducible repeat first|apply bkN|apply bkD|apply bkA);exact BK247.out⟩,⟨by (with_reducible repeat first|apply bkN|apply bkD|apply bkA);refine impl_EqualTo.ofar ?_ NB248_253.out _;(with_reducible repeat first|apply bkN|apply bkD|apply bkA);refine impl_EqualTo.ofar ?_ NB248_253.out _;(with_reducible repeat first|apply bkN|apply bkD|apply bkA);refine impl_EqualTo.ofar ?_ NB248_253.out _;(with_reducible repeat first|apply bkN|apply bkD|apply bkA);refine impl_EqualTo.ofar ?_ NB248_252.out _;(with_reducible repeat first|apply bkN|apply bkD|apply bkA);refine impl_EqualTo.ofar ?_ NB248_252.out _;(with_reducible repeat first|apply bkN|apply bkD|apply bkA);refine impl_EqualTo.ofar ?_ NB248_252.out _;(with_reducible repeat first|apply bkN|apply bkD|apply bkA);exact BK248.out⟩,⟨by (with_reducible repeat first|apply bkN|apply bkD|apply bkA);refine blk_far ?_ NB249_253.out _;(with_reducible repeat first|apply bkN|apply bkD|apply bkA);refine blk_far ?_ NB249_253.out _;(with_reducible repeat first|apply bkN|apply bkD|apply bkA);refine blk_far ?_ NB249_253.out _;(with_reducible repeat first|apply bkN|apply bkD|apply bkA);refine blk_far ?_ NB249_252.out _;(with_reducible repeat first|apply bkN|apply bkD|apply bkA);refine blk_far ?_ NB249_252.out _;(with_reducible repeat first|apply bkN|apply bkD|apply bkA);refine blk_far ?_ NB249_252.out _;(with_reducible repeat first|apply bkN|apply bkD|apply bkA);exact BK249.out⟩,⟨by (with_reducible repeat first|apply bkN|apply bkD|apply bkA);refine blk_far ?_ NB252_253.out _;(with_reducible repeat first|apply bkN|apply bkD|apply bkA);refine blk_far ?_ NB252_253.out _;(with_reducible repeat first|apply bkN|apply bkD|apply bkA);refine blk_far ?_ NB252_253.out _;(with_reducible repeat first|apply bkN|apply bkD|apply bkA);refine blk_put (cs := #[.int .i64 ((rd_T45 l0_0 a2).f0),.int .i64 ((rd_T45 l0_0 a2).f1),.slice none 0 0]) ?_ 2 _ rfl;(with_reducible repeat first|apply bkN|apply bkD|apply bkA);refine blk_put (cs := #[.int .i64 ((rd_T45 l0_0 a2).f0),.int .i64 0,.slice none 0 0]) ?_ 1 _ rfl;(with_reducible repeat first|apply bkN|apply bkD|apply bkA);refine blk_put (cs := #[.int .i64 0,.int .i64 0,.slice none 0 0]) ?_ 0 _ rfl;(with_reducible repeat first|apply bkN|apply bkD|apply bkA);exact BK252.out⟩,⟨by (with_reducible repeat first|apply bkN|apply bkD|apply bkA);refine blk_put (cs := #[.int .i64 ((rd_T45 l1_0 a3).f0),.int .i64 ((rd_T45 l1_0 a3).f1),.slice none 0 0]) ?_ 2 _ rfl;(with_reducible repeat first|apply bkN|apply bkD|apply bkA);refine blk_put (cs := #[.int .i64 ((rd_T45 l1_0 a3).f0),.int .i64 0,.slice none 0 0]) ?_ 1 _ rfl;(with_reducible repeat first|apply bkN|apply bkD|apply bkA);refine blk_put (cs := #[.int .i64 0,.int .i64 0,.slice none 0 0]) ?_ 0 _ rfl;(with_reducible repeat first|apply bkN|apply bkD|apply bkA);refine blk_far ?_ NB253_252.out _;(with_reducible repeat first|apply bkN|apply bkD|apply bkA);refine blk_far ?_ NB253_252.out _;(with_reducible repeat first|apply bkN|apply bkD|apply bkA);refine blk_far ?_ NB253_252.out _;(with_reducible repeat first|apply bkN|apply bkD|apply bkA);exact BK253.out⟩,⟨impl_EqualTo.zy2 HB.out GE252.out GE253.out⟩⟩
  rw [if_pos c38] at H
  have c38b0 : (((rd_T45 l0_0 a2).f0) == ((rd_T45 l1_0 a3).f0)) = true := beq_iff_eq.mpr c38
  have c38b1 : (((rd_T45 l0_0 a2).f0) != ((rd_T45 l1_0 a3).f0)) = false := bne_eq_false_iff_eq.mpr c38
  clear c38
  (first|rw [c38b0]|(simp only [i64_w,i32_w];rw [c38b0])|skip)
  by_cases c39 : ((rd_T45 l0_0 a2).f1) = ((rd_T45 l1_0 a3).f1)
  rotate_left
  ·rw [if_neg c39] at H
   have c39b0 : (((rd_T45 l0_0 a2).f1) == ((rd_T45 l1_0 a3).f1)) = false := beq_eq_false_iff_ne.mpr c39
   have c39b1 : (((rd_T45 l0_0 a2).f1) != ((rd_T45 l1_0 a3).f1)) = true := bne_iff_ne.mpr c39
   have H' := As_ H
   clear H
   have hnb55 := NB252_244.out
   have hnc55 := NB244_252.out
   have hnb56 := NB252_245.out
   have hnc56 := NB245_252.out
   have hnb57 := NB252_246.out
   have hnc57 := NB246_252.out
   have hnb58 := NB252_247.out
   have hnc58 := NB247_252.out
   have hnb59 := NB252_248.out
   have hnc59 := NB248_252.out
   have hnb60 := NB252_249.out
   have hnc60 := NB249_252.out
   have hnb61 := NB252_253.out
   have hnc61 := NB253_252.out
   obtain ⟨hcz62_0,hcz62_1,hcz62_2,hfz62_0,hfz62_1,hfz62_2⟩ := bk3 BK252.out
   have hnb63 := NB253_244.out
   have hnb64 := NB253_245.out
   have hnb65 := NB253_246.out
   have hnb66 := NB253_247.out
   have hnb67 := NB253_248.out
   have hnb68 := NB253_249.out
   obtain ⟨hcz69_0,hcz69_1,hcz69_2,hfz69_0,hfz69_1,hfz69_2⟩ := bk3 BK253.out
   go_wp2
   go_meet
   case rel => exact ⟨_,(false),zT_,H',⟨by first|omega|exact Nat.le_refl _⟩,⟨by (with_reducible repeat first|apply bkN|apply bkD|apply bkA);refine blk_far ?_ NB244_253.out _;(with_reducible repeat first|apply bkN|apply bkD|apply bkA);refine blk_far ?_ NB244_253.out _;(with_reducible repeat first|apply bkN|apply bkD|apply bkA);refine blk_far ?_ NB244_253.out _;(with_reducible repeat first|apply bkN|apply bkD|apply bkA);refine blk_far ?_ NB244_252.out _;(with_reducible repeat first|apply bkN|apply bkD|apply bkA);refine blk_far ?_ NB244_252.out _;(with_reducible repeat first|apply bkN|apply bkD|apply bkA);refine blk_far ?_ NB244_252.out _;(with_reducible repeat first|apply bkN|apply bkD|apply bkA);exact BK244.out⟩,⟨by (with_reducible repeat first|apply bkN|apply bkD|apply bkA);refine blk_far ?_ NB245_253.out _;(with_reducible repeat first|apply bkN|apply bkD|apply bkA);refine blk_far ?_ NB245_253.out _;(with_reducible repeat first|apply bkN|apply bkD|apply bkA);refine blk_far ?_ NB245_253.out _;(with_reducible repeat first|apply bkN|apply bkD|apply bkA);refine blk_far ?_ NB245_252.out _;(with_reducible repeat first|apply bkN|apply bkD|apply bkA);refine blk_far ?_ NB245_252.out _;(with_reducible repeat first|apply bkN|apply bkD|apply bkA);refine blk_far ?_ NB245_252.out _;(with_reducible repeat first|apply bkN|apply bkD|apply bkA);exact BK245.out⟩,⟨by (with_reducible repeat first|apply bkN|apply bkD|apply bkA);refine blk_far ?_ NB246_253.out _;(with_reducible repeat first|apply bkN|apply bkD|apply bkA);refine blk_far ?_ NB246_253.out _;(with_reducible repeat first|apply bkN|apply bkD|apply bkA);refine blk_far ?_ NB246_253.out _;(with_reducible repeat first|apply bkN|apply bkD|apply bkA);refine blk_far ?_ NB246_252.out _;(with_reducible repeat first|apply bkN|apply bkD|apply bkA);refine blk_far ?_ NB246_252.out _;(with_reducible repeat first|apply bkN|apply bkD|apply bkA);refine blk_far ?_ NB246_252.out _;(with_reducible repeat first|apply bkN|apply bkD|apply bkA);exact BK246.out⟩,⟨by (with_reducible repeat first|apply bkN|apply bkD|apply bkA);refine blk_far ?_ NB247_253.out _;(with_reducible repeat first|apply bkN|apply bkD|apply bkA);refine blk_far ?_ NB247_253.out _;(with_reducible repeat first|apply bkN|apply bkD|apply bkA);refine blk_far ?_ NB247_253.out _;(with_reducible repeat first|apply bkN|apply bkD|apply bkA);refine blk_far ?_ NB247_252.out _;(with_reducible repeat first|apply bkN|apply bkD|apply bkA);refine blk_far ?_ NB247_252.out _;(with_reducible repeat first|apply bkN|apply bkD|apply bkA);refine blk_far ?_ NB247_252.out _;(with_reducible repeat first|apply bkN|apply bkD|apply bkA);exact BK247.out⟩,⟨by (with_reducible repeat first|apply bkN|apply bkD|apply bkA);refine impl_EqualTo.ofar ?_ NB248_253.out _;(with_reducible repeat first|apply bkN|apply bkD|apply bkA);refine impl_EqualTo.ofar ?_ NB248_253.out _;(with_reducible repeat first|apply bkN|apply bkD|apply bkA);refine impl_EqualTo.ofar ?_ NB248_253.out _;(with_reducible repeat first|apply bkN|apply bkD|apply bkA);refine impl_EqualTo.ofar ?_ NB248_252.out _;(with_reducible repeat first|apply bkN|apply bkD|apply bkA);refine impl_EqualTo.ofar ?_ NB248_252.out _;(with_reducible repeat first|apply bkN|apply bkD|apply bkA);refine impl_EqualTo.ofar ?_ NB248_252.out _;(with_reducible repeat first|apply bkN|apply bkD|apply bkA);exact BK248.out⟩,⟨by (with_reducible repeat first|apply bkN|apply bkD|apply bkA);refine blk_far ?_ NB249_253.out _;(with_reducible repeat first|apply bkN|apply bkD|apply bkA);refine blk_far ?_ NB249_253.out _;(with_reducible repeat first|apply bkN|apply bkD|apply bkA);refine blk_far ?_ NB249_253.out _;(with_reducible repeat first|apply bkN|apply bkD|apply bkA);refine blk_far ?_ NB249_252.out _;(with_reducible repeat first|apply bkN|apply bkD|apply bkA);refine blk_far ?_ NB249_252.out _;(with_reducible repeat first|apply bkN|apply bkD|apply bkA);refine blk_far ?_ NB249_252.out _;(with_reducible repeat first|apply bkN|apply bkD|apply bkA);exact BK249.out⟩,⟨by (with_reducible repeat first|apply bkN|apply bkD|apply bkA);refine blk_far ?_ NB252_253.out _;(with_reducible repeat first|apply bkN|apply bkD|apply bkA);refine blk_far ?_ NB252_253.out _;(with_reducible repeat first|apply bkN|apply bkD|apply bkA);refine blk_far ?_ NB252_253.out _;(with_reducible repeat first|apply bkN|apply bkD|apply bkA);refine blk_put (cs := #[.int .i64 ((rd_T45 l0_0 a2).f0),.int .i64 ((rd_T45 l0_0 a2).f1),.slice none 0 0]) ?_ 2 _ rfl;(with_reducible repeat first|apply bkN|apply bkD|apply bkA);refine blk_put (cs := #[.int .i64 ((rd_T45 l0_0 a2).f0),.int .i64 0,.slice none 0 0]) ?_ 1 _ rfl;(with_reducible repeat first|apply bkN|apply bkD|apply bkA);refine blk_put (cs := #[.int .i64 0,.int .i64 0,.slice none 0 0]) ?_ 0 _ rfl;(with_reducible repeat first|apply bkN|apply bkD|apply bkA);exact BK252.out⟩,⟨by (with_reducible repeat first|apply bkN|apply bkD|apply bkA);refine blk_put (cs := #[.int .i64 ((rd_T45 l1_0 a3).f0),.int .i64 ((rd_T45 l1_0 a3).f1),.slice none 0 0]) ?_ 2 _ rfl;(with_reducible repeat first|apply bkN|apply bkD|apply bkA);refine blk_put (cs := #[.int .i64 ((rd_T45 l1_0 a3).f0),.int .i64 0,.slice none 0 0]) ?_ 1 _ rfl;(with_reducible repeat first|apply bkN|apply bkD|apply bkA);refine blk_put (cs := #[.int .i64 0,.int .i64 0,.slice none 0 0]) ?_ 0 _ rfl;(with_reducible repeat first|apply bkN|apply bkD|apply bkA);refine blk_far ?_ NB253_252.out _;(with_reducible repeat first|apply bkN|apply bkD|apply bkA);refine blk_far ?_ NB253_252.out _;(with_reducible repeat first|apply bkN|apply bkD|apply bkA);refine blk_far ?_ NB253_252.out _;(with_reducible repeat first|apply bkN|apply bkD|apply bkA);exact BK253.out⟩,⟨impl_EqualTo.zy2 HB.out GE252.out GE253.out⟩⟩
  rw [if_pos c39] at H
  have c39b0 : (((rd_T45 l0_0 a2).f1) == ((rd_T45 l1_0 a3).f1)) = true := beq_iff_eq.mpr c39
  have c39b1 : (((rd_T45 l0_0 a2).f1) != ((rd_T45 l1_0 a3).f1)) = false := bne_eq_false_iff_eq.mpr c39
  clear c39
  have H' := As_ H
  clear H
  have hnb40 := NB252_244.out
  have hnc40 := NB244_252.out
  have hnb41 := NB252_245.out
  have hnc41 := NB245_252.out
  have hnb42 := NB252_246.out
  have hnc42 := NB246_252.out
  have hnb43 := NB252_247.out
  have hnc43 := NB247_252.out
  have hnb44 := NB252_248.out
  have hnc44 := NB248_252.out
  have hnb45 := NB252_249.out
  have hnc45 := NB249_252.out
  have hnb46 := NB252_253.out
  have hnc46 := NB253_252.out
  obtain ⟨hcz47_0,hcz47_1,hcz47_2,hfz47_0,hfz47_1,hfz47_2⟩ := bk3 BK252.out
  have hnb48 := NB253_244.out
  have hnb49 := NB253_245.out
  have hnb50 := NB253_246.out
  have hnb51 := NB253_247.out
  have hnb52 := NB253_248.out
  have hnb53 := NB253_249.out
  obtain ⟨hcz54_0,hcz54_1,hcz54_2,hfz54_0,hfz54_1,hfz54_2⟩ := bk3 BK253.out
  go_wp2
  go_meet
  case rel => exact ⟨_,(((((rd_T45 l0_0 a2).f2).length : Int) == (((rd_T45 l1_0 a3).f2).length : Int))),zT_,H',⟨by first|omega|exact Nat.le_refl _⟩,⟨by (with_reducible repeat first|apply bkN|apply bkD|apply bkA);refine blk_far ?_ NB244_253.out _;(with_reducible repeat first|apply bkN|apply bkD|apply bkA);refine blk_far ?_ NB244_253.out _;(with_reducible repeat first|apply bkN|apply bkD|apply bkA);refine blk_far ?_ NB244_253.out _;(with_reducible repeat first|apply bkN|apply bkD|apply bkA);refine blk_far ?_ NB244_252.out _;(with_reducible repeat first|apply bkN|apply bkD|apply bkA);refine blk_far ?_ NB244_252.out _;(with_reducible repeat first|apply bkN|apply bkD|apply bkA);refine blk_far ?_ NB244_252.out _;(with_reducible repeat first|apply bkN|apply bkD|apply bkA);exact BK244.out⟩,⟨by (with_reducible repeat first|apply bkN|apply bkD|apply bkA);refine blk_far ?_ NB245_253.out _;(with_reducible repeat first|apply bkN|apply bkD|apply bkA);refine blk_far ?_ NB245_253.out _;(with_reducible repeat first|apply bkN|apply bkD|apply bkA);refine blk_far ?_ NB245_253.out _;(with_reducible repeat first|apply bkN|apply bkD|apply bkA);refine blk_far ?_ NB245_252.out _;(with_reducible repeat first|apply bkN|apply bkD|apply bkA);refine blk_far ?_ NB245_252.out _;(with_reducible repeat first|apply bkN|apply bkD|apply bkA);refine blk_far ?_ NB245_252.out _;(with_reducible repeat first|apply bkN|apply bkD|apply bkA);exact BK245.out⟩,⟨by (with_reducible repeat first|apply bkN|apply bkD|apply bkA);refine blk_far ?_ NB246_253.out _;(with_reducible repeat first|apply bkN|apply bkD|apply bkA);refine blk_far ?_ NB246_253.out _;(with_reducible repeat first|apply bkN|apply bkD|apply bkA);refine blk_far ?_ NB246_253.out _;(with_reducible repeat first|apply bkN|apply bkD|apply bkA);refine blk_far ?_ NB246_252.out _;(with_reducible repeat first|apply bkN|apply bkD|apply bkA);refine blk_far ?_ NB246_252.out _;(with_reducible repeat first|apply bkN|apply bkD|apply bkA);refine blk_far ?_ NB246_252.out _;(with_reducible repeat first|apply bkN|apply bkD|apply bkA);exact BK246.out⟩,⟨by (with_reducible repeat first|apply bkN|apply bkD|apply bkA);refine blk_far ?_ NB247_253.out _;(with_reducible repeat first|apply bkN|apply bkD|apply bkA);refine blk_far ?_ NB247_253.out _;(with_reducible repeat first|apply bkN|apply bkD|apply bkA);refine blk_far ?_ NB247_253.out _;(with_reducible repeat first|apply bkN|apply bkD|apply bkA);refine blk_far ?_ NB247_252.out _;(with_reducible repeat first|apply bkN|apply bkD|apply bkA);refine blk_far ?_ NB247_252.out _;(with_reducible repeat first|apply bkN|apply bkD|apply bkA);refine blk_far ?_ NB247_252.out _;(with_reducible repeat first|apply bkN|apply bkD|apply bkA);exact BK247.out⟩,⟨by (with_reducible repeat first|apply bkN|apply bkD|apply bkA);refine impl_EqualTo.ofar ?_ NB248_253.out _;(with_reducible repeat first|apply bkN|apply bkD|apply bkA);refine impl_EqualTo.ofar ?_ NB248_253.out _;(with_reducible repeat first|apply bkN|apply bkD|apply bkA);refine impl_EqualTo.ofar ?_ NB248_253.out _;(with_reducible repeat first|apply bkN|apply bkD|apply bkA);refine impl_EqualTo.ofar ?_ NB248_252.out _;(with_reducible repeat first|apply bkN|apply bkD|apply bkA);refine impl_EqualTo.ofar ?_ NB248_252.out _;(with_reducible repeat first|apply bkN|apply bkD|apply bkA);refine impl_EqualTo.ofar ?_ NB248_252.out _;(with_reducible repeat first|apply bkN|apply bkD|apply bkA);exact BK248.out⟩,⟨by (with_reducible repeat first|apply bkN|apply bkD|apply bkA);refine blk_far ?_ NB249_253.out _;(with_reducible repeat first|apply bkN|apply bkD|apply bkA);refine blk_far ?_ NB249_253.out _;(with_reducible repeat first|apply bkN|apply bkD|apply bkA);refine blk_far ?_ NB249_253.out _;(with_reducible repeat first|apply bkN|apply bkD|apply bkA);refine blk_far ?_ NB249_252.out _;(with_reducible repeat first|apply bkN|apply bkD|apply bkA);refine blk_far ?_ NB249_252.out _;(with_reducible repeat first|apply bkN|apply bkD|apply bkA);refine blk_far ?_ NB249_252.out _;(with_reducible repeat first|apply bkN|apply bkD|apply bkA);exact BK249.out⟩,⟨by (with_reducible repeat first|apply bkN|apply bkD|apply bkA);refine blk_far ?_ NB252_253.out _;(with_reducible repeat first|apply bkN|apply bkD|apply bkA);refine blk_far ?_ NB252_253.out _;(with_reducible repeat first|apply bkN|apply bkD|apply bkA);refine blk_far ?_ NB252_253.out _;(with_reducible repeat first|apply bkN|apply bkD|apply bkA);refine blk_put (cs := #[.int .i64 ((rd_T45 l0_0 a2).f0),.int .i64 ((rd_T45 l0_0 a2).f1),.slice none 0 0]) ?_ 2 _ rfl;(with_reducible repeat first|apply bkN|apply bkD|apply bkA);refine blk_put (cs := #[.int .i64 ((rd_T45 l0_0 a2).f0),.int .i64 0,.slice none 0 0]) ?_ 1 _ rfl;(with_reducible repeat first|apply bkN|apply bkD|apply bkA);refine blk_put (cs := #[.int .i64 0,.int .i64 0,.slice none 0 0]) ?_ 0 _ rfl;(with_reducible repeat first|apply bkN|apply bkD|apply bkA);exact BK252.out⟩,⟨by (with_reducible repeat first|apply bkN|apply bkD|apply bkA);refine blk_put (cs := #[.int .i64 ((rd_T45 l1_0 a3).f0),.int .i64 ((rd_T45 l1_0 a3).f1),.slice none 0 0]) ?_ 2 _ rfl;(with_reducible repeat first|apply bkN|apply bkD|apply bkA);refine blk_put (cs := #[.int .i64 ((rd_T45 l1_0 a3).f0),.int .i64 0,.slice none 0 0]) ?_ 1 _ rfl;(with_reducible repeat first|apply bkN|apply bkD|apply bkA);refine blk_put (cs := #[.int .i64 0,.int .i64 0,.slice none 0 0]) ?_ 0 _ rfl;(with_reducible repeat first|apply bkN|apply bkD|apply bkA);refine blk_far ?_ NB253_252.out _;(with_reducible repeat first|apply bkN|apply bkD|apply bkA);refine blk_far ?_ NB253_252.out _;(with_reducible repeat first|apply bkN|apply bkD|apply bkA);refine blk_far ?_ NB253_252.out _;(with_reducible repeat first|apply bkN|apply bkD|apply bkA);exact BK253.out⟩,⟨impl_EqualTo.zy2 HB.out GE252.out GE253.out⟩⟩
 case rest =>
  clear HC21
  obtain ⟨kq,x16_20,rfl,HA,HJ20,BK244,BK245,BK246,BK247,BK248,BK249,BK252,BK253,HB⟩ := hcut
  cases kq with
  | zero => exact absurd HA.out (fun h_ => (by cases h_))
  | succ kj20 =>
   have H := HA.out
   clear HA
   simp only [impl_EqualTo.j0] at H
   have H' := As_ H
   clear H
   go_wp2
   go_loopg [16,17] kj20 (fun kq v16 v17 w' => ∃ (x16_2 : Bool) (x17_2 : Int) (T1 : impl_EqualTo.Tab) (om1 : Obj),v16 = .bool x16_2 ∧ v17 = .int .i64 x17_2 ∧ Aside0 (impl_EqualTo.l0 kq l0_0 l1_0 a2 a3 a4 x16_2 x17_2 T1 = some (r,T')) ∧ Aside0 (kq ≤ kj20) ∧ Aside0 (impl_EqualTo.TabO gb248 om1 T1) ∧ Aside0 (w'.heap[gb244]? = some (.cells #[(.slice (some ad250) l0_0.length c0_0),.int .i64 a0_1] 29 (0,0))) ∧ Aside0 (w'.heap[gb245]? = some (.cells #[(.slice (some ad251) l1_0.length c1_0),.int .i64 a1_1] 29 (0,0))) ∧ Aside0 (w'.heap[gb246]? = some (.cells #[.map (some gb248)] 67 (0,0))) ∧ Aside0 (w'.heap[gb247]? = some (.cells #[.func (.func 72) #[] #[.pointer (some ⟨gb246,0,none⟩),.pointer (some ⟨gb244,0,none⟩),.pointer (some ⟨gb245,0,none⟩),.pointer (some ⟨gb247,0,none⟩)]] 65 (0,0))) ∧ Aside0 (w'.heap[gb248]? = some om1) ∧ Aside0 (w'.heap[gb249]? = some (.cells #[.int .i64 a2,.int .i64 a3,.int .i64 a4] 68 (0,0))) ∧ Aside0 (w'.heap[gb252]? = some (.cells #[.int .i64 ((rd_T45 l0_0 a2).f0),.int .i64 ((rd_T45 l0_0 a2).f1),(.slice A250_2 ((rd_T45 l0_0 a2).f2).length c250_2)] 45 (0,0))) ∧ Aside0 (w'.heap[gb253]? = some (.cells #[.int .i64 ((rd_T45 l1_0 a3).f0),.int .i64 ((rd_T45 l1_0 a3).f1),(.slice A251_2 ((rd_T45 l1_0 a3).f2).length c251_2)] 45 (0,0))) ∧ Aside0 (impl_EqualTo.R2 w0 w gb248 w'))
   case atStart => exact ⟨(x16_20),(0),T,om,zT_,zT_,H',⟨Nat.le_refl _⟩,HTO,⟨by (with_reducible repeat first|apply bkN|apply bkD|apply bkA);exact BK244.out⟩,⟨by (with_reducible repeat first|apply bkN|apply bkD|apply bkA);exact BK245.out⟩,⟨by (with_reducible repeat first|apply bkN|apply bkD|apply bkA);exact BK246.out⟩,⟨by (with_reducible repeat first|apply bkN|apply bkD|apply bkA);exact BK247.out⟩,⟨by (with_reducible repeat first|apply bkN|apply bkD|apply bkA);exact BK248.out⟩,⟨by (with_reducible repeat first|apply bkN|apply bkD|apply bkA);exact BK249.out⟩,⟨by (with_reducible repeat first|apply bkN|apply bkD|apply bkA);exact BK252.out⟩,⟨by (with_reducible repeat first|apply bkN|apply bkD|apply bkA);exact BK253.out⟩,⟨impl_EqualTo.zy2 HB.out GE252.out GE253.out⟩⟩
   case round =>
    clear H'
    obtain ⟨x16_2,x17_2,T1,om1,rfl,rfl,HA,HK2,HTO1,BK244,BK245,BK246,BK247,BK248,BK249,BK252,BK253,HB⟩ := hrel
    cases gk with
    | zero => exact absurd HA.out (fun h_ => (by cases h_))
    | succ k2 =>
     have H := HA.out
     clear HA
     simp only [impl_EqualTo.l0] at H
     by_cases c85 : x16_2 = true
     rotate_left
     ·replace c85 := Bool.eq_false_iff.mpr c85
      subst c85
      rw [if_neg (show ¬ (false = true) by decide)] at H
      obtain ⟨hno,hlen,rfl,rfl⟩ := impl_EqualTo.fin_some H
      clear H
      have HNo := As_ hno
      have HLen := As_ hlen
      clear hno hlen
      obtain ⟨hczs_0,hfzs_0⟩ := bk1 BK246.out
      obtain ⟨hczt_0,hczt_1,hczt_2,hfzt_0,hfzt_1,hfzt_2⟩ := bk3 BK249.out
      go_wp2_with ((at_mapUpdate;refine wpList_tab_update _ rfl _ _ _ 67 rfl 68 4 impl_EqualTo.keyed Try.underlying67 gb248 impl_EqualTo.kv impl_EqualTo.bv T1 rfl (HTO1.out _ (zk_ BK248.out)) (Nat.lt_of_lt_of_le HLen.out (by decide)) (a2,a3,a4) false kl (.lit (.bool false)) rfl rfl HKL.out (by rfl) HNo.out (fun a_ h_ => impl_EqualTo.kv_inj h_) ?_;intro w2 hs2 ht2;have k244 := As_ ((ht2.grown.block gb244 (zkl BK244.out) (impl_EqualTo.ne_244 H5.out)).trans (zk_ BK244.out));have k245 := As_ ((ht2.grown.block gb245 (zkl BK245.out) (impl_EqualTo.ne_245 H5.out)).trans (zk_ BK245.out));have k246 := As_ ((ht2.grown.block gb246 (zkl BK246.out) (impl_EqualTo.ne_246 H5.out)).trans (zk_ BK246.out));have k247 := As_ ((ht2.grown.block gb247 (zkl BK247.out) (impl_EqualTo.ne_247 H5.out)).trans (zk_ BK247.out));have hB2 := As_ (impl_EqualTo.qU (show impl_EqualTo.R2 w0 w gb248 _ from impl_EqualTo.zy2 HB.out GE252.out GE253.out) ht2.grown (impl_EqualTo.ge_ H5.out));obtain ⟨om2,ho2⟩ : ∃ o_,w2.heap[gb248]? = some o_ := ⟨_,Array.getElem?_eq_getElem hs2.lt⟩;have HT2 := As_ (impl_EqualTo.TabO.of hs2 ho2);have k248 := As_ ho2;clear hs2 ht2 ho2))
      go_ret
      exact ⟨zE_,om2,⟨k246.out,k244.out,k245.out,k247.out,k248.out,HT2.out,hB2.out.2.1⟩,hB2.out.2.2⟩

     subst c85
     rw [if_pos rfl] at H
     by_cases c86 : x17_2 < (((rd_T45 l0_0 a2).f2).length : Int)
     rotate_left
     ·rw [if_neg c86] at H
      have c86b0 : decide (x17_2 < (((rd_T45 l0_0 a2).f2).length : Int)) = false := deF c86
      clear c86
      obtain ⟨hno,hlen,rfl,rfl⟩ := impl_EqualTo.fin_some H
      clear H
      have HNo := As_ hno
      have HLen := As_ hlen
      clear hno hlen
      have hnb127 := NB252_244.out
      have hnc127 := NB244_252.out
      have hnb128 := NB252_245.out
      have hnc128 := NB245_252.out
      have hnb129 := NB252_246.out
      have hnc129 := NB246_252.out
      have hnb130 := NB252_247.out
      have hnc130 := NB247_252.out
      have hnb131 := NB252_248.out
      have hnc131 := NB248_252.out
      have hnb132 := NB252_249.out
      have hnc132 := NB249_252.out
      have hnb133 := NB252_253.out
      have hnc133 := NB253_252.out
      obtain ⟨hcz134_0,hcz134_1,hcz134_2,hfz134_0,hfz134_1,hfz134_2⟩ := bk3 BK252.out
      obtain ⟨hczs_0,hfzs_0⟩ := bk1 BK246.out
      obtain ⟨hczt_0,hczt_1,hczt_2,hfzt_0,hfzt_1,hfzt_2⟩ := bk3 BK249.out
      go_wp2_with ((at_mapUpdate;refine wpList_tab_update _ rfl _ _ _ 67 rfl 68 4 impl_EqualTo.keyed Try.underlying67 gb248 impl_EqualTo.kv impl_EqualTo.bv T1 rfl (HTO1.out _ (zk_ BK248.out)) (Nat.lt_of_lt_of_le HLen.out (by decide)) (a2,a3,a4) true kl (.lit (.bool true)) rfl rfl HKL.out (by rfl) HNo.out (fun a_ h_ => impl_EqualTo.kv_inj h_) ?_;intro w2 hs2 ht2;have k244 := As_ ((ht2.grown.block gb244 (zkl BK244.out) (impl_EqualTo.ne_244 H5.out)).trans (zk_ BK244.out));have k245 := As_ ((ht2.grown.block gb245 (zkl BK245.out) (impl_EqualTo.ne_245 H5.out)).trans (zk_ BK245.out));have k246 := As_ ((ht2.grown.block gb246 (zkl BK246.out) (impl_EqualTo.ne_246 H5.out)).trans (zk_ BK246.out));have k247 := As_ ((ht2.grown.block gb247 (zkl BK247.out) (impl_EqualTo.ne_247 H5.out)).trans (zk_ BK247.out));have hB2 := As_ (impl_EqualTo.qU (show impl_EqualTo.R2 w0 w gb248 _ from impl_EqualTo.zy2 HB.out GE252.out GE253.out) ht2.grown (impl_EqualTo.ge_ H5.out));obtain ⟨om2,ho2⟩ : ∃ o_,w2.heap[gb248]? = some o_ := ⟨_,Array.getElem?_eq_getElem hs2.lt⟩;have HT2 := As_ (impl_EqualTo.TabO.of hs2 ho2);have k248 := As_ ho2;clear hs2 ht2 ho2))
      go_ret
      exact ⟨zE_,om2,⟨k246.out,k244.out,k245.out,k247.out,k248.out,HT2.out,hB2.out.2.1⟩,hB2.out.2.2⟩
     rw [if_pos c86] at H
     have c86b0 : decide (x17_2 < (((rd_T45 l0_0 a2).f2).length : Int)) = true := deT c86
     clear c86
     by_cases c87 : 0 ≤ x17_2
     rotate_left
     ·rw [if_neg c87] at H
      exact absurd H (by simp)
     rw [if_pos c87] at H
     have c87b0 : decide (0 ≤ x17_2) = true := deT c87
     clear c87
     by_cases c88 : x17_2 < (((rd_T45 l1_0 a3).f2).length : Int)
     rotate_left
     ·rw [if_neg c88] at H
      exact absurd H (by simp)
     rw [if_pos c88] at H
     have c88b0 : decide (x17_2 < (((rd_T45 l1_0 a3).f2).length : Int)) = true := deT c88
     clear c88
     replace H := obS H
     obtain ⟨⟨t256,T2⟩,A890,H⟩ := H
     replace H : impl_EqualTo.l0 k2 l0_0 l1_0 a2 a3 a4 t256 (wrap64 (x17_2 + 1)) T2 = some (r,T') := H
     have A89 := As_ A890
     clear A890
     have H' := As_ H
     clear H
     have hnb90 := NB252_244.out
     have hnc90 := NB244_252.out
     have hnb91 := NB252_245.out
     have hnc91 := NB245_252.out
     have hnb92 := NB252_246.out
     have hnc92 := NB246_252.out
     have hnb93 := NB252_247.out
     have hnc93 := NB247_252.out
     have hnb94 := NB252_248.out
     have hnc94 := NB248_252.out
     have hnb95 := NB252_249.out
     have hnc95 := NB249_252.out
     have hnb96 := NB252_253.out
     have hnc96 := NB253_252.out
     obtain ⟨hcz97_0,hcz97_1,hcz97_2,hfz97_0,hfz97_1,hfz97_2⟩ := bk3 BK252.out
     try go_wp2
     have n0_ := As_ (bkD BK244.out)
     have n1_ := As_ (bkD BK245.out)
     have n2_ := As_ (bkD BK246.out)
     have n3_ := As_ (bkD BK247.out)
     have n4_ := As_ (bkD BK248.out)
     have n5_ := As_ (bkD BK249.out)
     have n6_ := As_ (bkD BK252.out)
     have n7_ := As_ (bkD BK253.out)
     have n8_ := As_ (impl_EqualTo.qD HB.out)
     clear BK244 BK245 BK246 BK247 BK248 BK249 BK252 BK253 HB
     revert n0_ n1_ n2_ n3_ n4_ n5_ n6_ n7_ n8_;intro BK244 BK245 BK246 BK247 BK248 BK249 BK252 BK253 HB
     have p254 : 0 ≤ (x17_2 : Int) := odT zA_
     have q254 : x17_2 < (((rd_T45 l0_0 a2).f2).length : Int) := odT zA_
     obtain ⟨ad254,e254,hx254_0⟩ := Kd.at_int HR250_2.out x17_2 p254 q254
     have hw254_0 := hx254_0
     cases e254
     replace hx254_0 := bwC HB.out.2.1 hx254_0
     replace p254 := eq_true p254
     replace q254 := eq_true q254
     have p255 : 0 ≤ (x17_2 : Int) := odT zA_
     have q255 : x17_2 < (((rd_T45 l1_0 a3).f2).length : Int) := odT zA_
     obtain ⟨ad255,e255,hx255_0⟩ := Kd.at_int HR251_2.out x17_2 p255 q255
     have hw255_0 := hx255_0
     cases e255
     replace hx255_0 := bwC HB.out.2.1 hx255_0
     replace p255 := eq_true p255
     replace q255 := eq_true q255
     refine start_ (n := 15) (S := fun w' => w'.cell? ⟨gb252,0,none⟩ = some (.int .i64 ((rd_T45 l0_0 a2).f0)) ∧ w'.cell? ⟨gb252,1,none⟩ = some (.int .i64 ((rd_T45 l0_0 a2).f1)) ∧ w'.cell? ⟨gb252,2,none⟩ = some (.slice (some ad254) ((rd_T45 l0_0 a2).f2).length c250_2) ∧ w'.cell? ⟨gb253,0,none⟩ = some (.int .i64 ((rd_T45 l1_0 a3).f0)) ∧ w'.cell? ⟨gb253,1,none⟩ = some (.int .i64 ((rd_T45 l1_0 a3).f1)) ∧ w'.cell? ⟨gb253,2,none⟩ = some (.slice (some ad255) ((rd_T45 l1_0 a3).f2).length c251_2) ∧ w'.cell? (ad254.add (x17_2).toNat) = some (.int .i64 (rd ((rd_T45 l0_0 a2).f2) x17_2)) ∧ w'.cell? (ad255.add (x17_2).toNat) = some (.int .i64 (rd ((rd_T45 l1_0 a3).f2) x17_2)) ∧ w'.cell? ⟨gb247,0,none⟩ = some (.func (.func 72) #[] #[.pointer (some ⟨gb246,0,none⟩),.pointer (some ⟨gb244,0,none⟩),.pointer (some ⟨gb245,0,none⟩),.pointer (some ⟨gb247,0,none⟩)])) (ds := []) (bl_ 0 15) (by kernel_rfl) rfl rfl ⟨(bkC BK252.out 0).trans rfl,(bkC BK252.out 1).trans rfl,(bkC BK252.out 2).trans rfl,(bkC BK253.out 0).trans rfl,(bkC BK253.out 1).trans rfl,(bkC BK253.out 2).trans rfl,((HB.out.2.1.cell (bwL w0 _ hw254_0)).trans hw254_0),((HB.out.2.1.cell (bwL w0 _ hw255_0)).trans hw255_0),(bkC BK247.out 0).trans rfl⟩ (fun hHeld => ?_);refine with_tabW impl_EqualTo.tab12 impl_EqualTo.bits12 (fun HT_ HW_ => ?_)
     generalize wr.drew = w125 at BK244 BK245 BK246 BK247 BK248 BK249 BK252 BK253 HB hx254_0 hx255_0 hHeld ⊢
     refine tP 0 73 (bl_ 1 15) ?_ HT_ HW_ rfl (.inl ⟨by rfl,?_⟩) hHeld ?_ ?_ ?_;rotate_left;(rintro w' ⟨s0,s1,s2,s3,s4,s5,s6,s7,s8⟩;go_simp;with_reducible rfl);rotate_left;(simp only [Act.put,sq_,i64_w,i32_w];rfl)
     refine pQ 1 74 (bl_ 3 15) HT_ rfl ?_
     refine pQ 3 76 (bl_ 11 15) HT_ rfl ?_
     refine pQ 6 79 (bl_ 75 15) HT_ rfl ?_
     refine pQ 8 81 (bl_ 331 15) HT_ rfl ?_
     refine pQ 11 84 (bl_ 2379 15) HT_ rfl ?_
     refine pQ 12 85 (bl_ 6475 15) HT_ rfl ?_
     refine tP 2 75 (bl_ 6479 15) ?_ HT_ HW_ rfl (.inl ⟨by rfl,?_⟩) hHeld ?_ ?_ ?_;rotate_left;(rintro w' ⟨s0,s1,s2,s3,s4,s5,s6,s7,s8⟩;go_simp;with_reducible rfl);rotate_left;(simp only [Act.put,sq_,i64_w,i32_w];rfl)
     refine pQ 4 77 (bl_ 6495 15) HT_ rfl ?_
     refine tP 5 78 (bl_ 6527 15) ?_ HT_ HW_ rfl (.inl ⟨by rfl,?_⟩) hHeld ?_ ?_ ?_;rotate_left;(rintro w' ⟨s0,s1,s2,s3,s4,s5,s6,s7,s8⟩;go_simp;with_reducible rfl);rotate_left;(simp only [Act.put,sq_,i64_w,i32_w];rfl)
     refine tP 7 80 (bl_ 6655 15) ?_ HT_ HW_ rfl (.inl ⟨by rfl,?_⟩) hHeld ?_ ?_ ?_;rotate_left;(rintro w' ⟨s0,s1,s2,s3,s4,s5,s6,s7,s8⟩;go_simp;with_reducible rfl);rotate_left;(simp only [Act.put,sq_,i64_w,i32_w];rfl)
     refine pQ 9 82 (bl_ 7167 15) HT_ rfl ?_
     refine tP 10 83 (bl_ 8191 15) ?_ HT_ HW_ rfl (.inl ⟨by rfl,?_⟩) hHeld ?_ ?_ ?_;rotate_left;(rintro w' ⟨s0,s1,s2,s3,s4,s5,s6,s7,s8⟩;go_simp;with_reducible rfl);rotate_left;(simp only [Act.put,sq_,i64_w,i32_w];rfl)
     refine one_ (i := 13) (N := some 86) (bl_ 16383 15) rfl rfl (one_of HT_.out (by kernel_rfl)) (by decide) (fun K hK => ?_)
     refine impl_EqualTo.goesV (m := .tmp 73) (caps := #[.pointer (some ⟨gb246,0,none⟩),.pointer (some ⟨gb244,0,none⟩),.pointer (some ⟨gb245,0,none⟩),.pointer (some ⟨gb247,0,none⟩)]) (xs := #[.int .i64 (rd ((rd_T45 l0_0 a2).f2) x17_2),.int .i64 (rd ((rd_T45 l1_0 a3).f2) x17_2),.int .i64 (wrap64 (a4 - 1))]) Try.func72 (by kernel_rfl) #[.int .i64 (rd ((rd_T45 l0_0 a2).f2) x17_2),.int .i64 (rd ((rd_T45 l1_0 a3).f2) x17_2),.int .i64 (wrap64 (a4 - 1)),.pointer (some ⟨gb246,0,none⟩),.pointer (some ⟨gb244,0,none⟩),.pointer (some ⟨gb245,0,none⟩),.pointer (some ⟨gb247,0,none⟩)] (by rfl) rfl rfl (by rfl) zM_ (by simp) ?_
     with_reducible refine (ih k2 (by have := HJ20.out;have := HK2.out;omega) (rd ((rd_T45 l0_0 a2).f2) x17_2) (rd ((rd_T45 l1_0 a3).f2) x17_2) (wrap64 (a4 - 1)) T1 t256 T2 om1 _ (impl_EqualTo.Inv.mk BK246.out BK244.out BK245.out BK247.out BK248.out HTO1.out (impl_EqualTo.R2b HB.out)) A89.out).mono ?_
     rintro e w126 ⟨rfl,om2,⟨k246,k244,k245,k247,k248,hto2,hb2⟩,hk2⟩
     refine ⟨_,rfl,?_⟩
     have n0_ := As_ k244
     have n1_ := As_ k245
     have n2_ := As_ k246
     have n3_ := As_ k247
     have n4_ := As_ k248
     have n5_ := As_ (KeepBut.blk hk2 BK249.out NB249_248.out (by simp))
     have n6_ := As_ (KeepBut.blk hk2 BK252.out NB252_248.out (by simp))
     have n7_ := As_ (KeepBut.blk hk2 BK253.out NB253_248.out (by simp))
     have n8_ := As_ (impl_EqualTo.qK HB.out hk2 hb2)
     have HTO2 := As_ hto2
     clear k244 k245 k246 k247 k248 hto2 hb2 hk2 BK244 BK245 BK246 BK247 BK248 BK249 BK252 BK253 HB
     revert n0_ n1_ n2_ n3_ n4_ n5_ n6_ n7_ n8_;intro BK244 BK245 BK246 BK247 BK248 BK249 BK252 BK253 HB
     refine hK.out _ _ ⟨(bkC BK252.out 0).trans rfl,(bkC BK252.out 1).trans rfl,(bkC BK252.out 2).trans rfl,(bkC BK253.out 0).trans rfl,(bkC BK253.out 1).trans rfl,(bkC BK253.out 2).trans rfl,((HB.out.2.1.cell (bwL w0 _ hw254_0)).trans hw254_0),((HB.out.2.1.cell (bwL w0 _ hw255_0)).trans hw255_0),(bkC BK247.out 0).trans rfl⟩ (fun hHeld => ?_)
     clear hK K
     refine norm_ (a' := ?_) ?_ ?_
     rotate_left
     ·show Act.put _ (some 86) _ = _
      simp only [Act.put,sq_,i64_w,i32_w]
      rfl
     refine pQ 14 16 (bl_ 32767 15) HT_ rfl ?_
     refine done_ (done_of HT_.out (by kernel_rfl)) ?_
     try go_wp2
     go_roundg k2
     case measure => have := HJ20.out;have := HK2.out;omega
     case rel => exact ⟨(t256),(wrap64 (x17_2 + 1)),T2,om2,zT_,zT_,H',⟨by have := HJ20.out;have := HK2.out;omega⟩,HTO2,⟨by (with_reducible repeat first|apply bkN|apply bkD|apply bkA);exact BK244.out⟩,⟨by (with_reducible repeat first|apply bkN|apply bkD|apply bkA);exact BK245.out⟩,⟨by (with_reducible repeat first|apply bkN|apply bkD|apply bkA);exact BK246.out⟩,⟨by (with_reducible repeat first|apply bkN|apply bkD|apply bkA);exact BK247.out⟩,⟨by (with_reducible repeat first|apply bkN|apply bkD|apply bkA);exact BK248.out⟩,⟨by (with_reducible repeat first|apply bkN|apply bkD|apply bkA);exact BK249.out⟩,⟨by (with_reducible repeat first|apply bkN|apply bkD|apply bkA);exact BK252.out⟩,⟨by (with_reducible repeat first|apply bkN|apply bkD|apply bkA);exact BK253.out⟩,⟨impl_EqualTo.zy2 HB.out GE252.out GE253.out⟩⟩
set_option maxHeartbeats 8000000 in
set_option maxRecDepth 100000 in
theorem impl_EqualTo.calls (k : Nat) (A0_0 : Option Addr) (c0_0 : Nat) (l0_0 : List (S45)) (a0_1 : Int) (A1_0 : Option Addr) (c1_0 : Nat) (l1_0 : List (S45)) (a1_1 : Int) (a2 : Int) (r : Bool) (w : World) (hr0_0 : Kd.C k45 w A0_0 l0_0.length l0_0) (hc0_0 : l0_0.length ≤ c0_0) (hr1_0 : Kd.C k45 w A1_0 l1_0.length l1_0) (hc1_0 : l1_0.length ≤ c1_0) (h : impl_EqualTo.f k l0_0 a0_1 l1_0 a1_1 a2 = some r) :
  Calls Try.prog 32 #[.agg #[.slice A0_0 l0_0.length c0_0,.int .i64 a0_1],.agg #[.slice A1_0 l1_0.length c1_0,.int .i64 a1_1],.int .i64 a2] w fun e w' => e = .returned (.bool r) ∧ Below w.heap.size w w' := by
 have hmm := @run_makeMap Try.prog
 have HR0_0 := As_ hr0_0
 have HC0_0 := As_ hc0_0
 have HR1_0 := As_ hr1_0
 have HC1_0 := As_ hc1_0
 clear hr0_0 hc0_0 hr1_0 hc1_0
 have HB := As_ (Below.refl w.heap.size w)
 unfold impl_EqualTo.f at h
 obtain ⟨t,hA1,H⟩ := obS h
 clear h
 have HA1 := As_ hA1
 clear hA1
 cases t with
 | false =>
  rw [if_neg (by decide)] at H
  obtain rfl := Option.some.inj H
  clear H
  go_enter Try.func32,Try.ntmps32
  go_wp2_with (first|((with_reducible refine gate_dst (N := 3) rfl ?_);refine box_event ?hg (N := 3) ?hd (cs := #[.slice A0_0 l0_0.length c0_0,.int .i64 a0_1]) (t := 29) ?hr ?_;(case hd => rfl);(case hg => rfl);(case hr => first|(go_simp;done)|(go_simp <;> rfl));intro gb244 hg w1 hbox hb;have n0_ := As_ (bwT (zb0 HB.out) hb);have n1_ := As_ (hbox);have n2_ := As_ ((by rw [hg];exact (bwZ (zb0 HB.out)) : w.heap.size ≤ gb244));clear HB;revert n0_ n1_ n2_;intro HB BK244 GE244;clear hg hbox hb)|((with_reducible refine gate_dst (N := 4) rfl ?_);refine box_event ?hg (N := 4) ?hd (cs := #[.slice A1_0 l1_0.length c1_0,.int .i64 a1_1]) (t := 29) ?hr ?_;(case hd => rfl);(case hg => rfl);(case hr => first|(go_simp;done)|(go_simp <;> rfl));intro gb245 hg w2 hbox hb;have n0_ := As_ (zkb BK244.out hb);have n1_ := As_ (bwT (zb1 HB.out GE244.out) hb);have n2_ := As_ (hbox);have n3_ := As_ ((by rw [hg];exact (bwZ (zb1 HB.out GE244.out)) : w.heap.size ≤ gb245));have n4_ := As_ ((by rw [hg];exact Nat.ne_of_lt (zkl BK244.out) : gb244 ≠ gb245));have n5_ := As_ ((by rw [hg];exact Nat.ne_of_gt (zkl BK244.out) : gb245 ≠ gb244));clear BK244 HB;revert n0_ n1_ n2_ n3_ n4_ n5_;intro BK244 HB BK245 GE245 NB244_245 NB245_244;clear hg hbox hb;obtain ⟨hca_0,hca_1,hfa_0,hfa_1⟩ := bk2 BK244.out)|(go_at_call 29;(with_reducible refine (impl_ValidGraph.calls k _ _ l0_0 a0_1 false _ ?side1 ?side2 HA1.out).mono ?_);(case side1 => exact zC_ (Kd.C_below HR0_0.out HB.out));(case side2 => exact HC0_0.out);rintro e w3 ⟨rfl,hb⟩;have n0_ := As_ (zkb BK244.out hb);have n1_ := As_ (zkb BK245.out hb);have n2_ := As_ (bwT (zb2 HB.out GE244.out GE245.out) hb);clear BK244 BK245 HB;revert n0_ n1_ n2_;intro BK244 BK245 HB;clear hb;obtain ⟨hcb_0,hcb_1,hfb_0,hfb_1⟩ := bk2 BK245.out))
  go_ret
  exact ⟨zE_,zb2 HB.out GE244.out GE245.out⟩
 | true =>
  rw [if_pos rfl] at H
  obtain ⟨u,hA2,H⟩ := obS H
  have HA2 := As_ hA2
  clear hA2
  cases u with
  | false =>
   rw [if_neg (by decide)] at H
   obtain rfl := Option.some.inj H
   clear H
   go_enter Try.func32,Try.ntmps32
   go_wp2_with (first|((with_reducible refine gate_dst (N := 3) rfl ?_);refine box_event ?hg (N := 3) ?hd (cs := #[.slice A0_0 l0_0.length c0_0,.int .i64 a0_1]) (t := 29) ?hr ?_;(case hd => rfl);(case hg => rfl);(case hr => first|(go_simp;done)|(go_simp <;> rfl));intro gb244 hg w1 hbox hb;have n0_ := As_ (bwT (zb0 HB.out) hb);have n1_ := As_ (hbox);have n2_ := As_ ((by rw [hg];exact (bwZ (zb0 HB.out)) : w.heap.size ≤ gb244));clear HB;revert n0_ n1_ n2_;intro HB BK244 GE244;clear hg hbox hb)|((with_reducible refine gate_dst (N := 4) rfl ?_);refine box_event ?hg (N := 4) ?hd (cs := #[.slice A1_0 l1_0.length c1_0,.int .i64 a1_1]) (t := 29) ?hr ?_;(case hd => rfl);(case hg => rfl);(case hr => first|(go_simp;done)|(go_simp <;> rfl));intro gb245 hg w2 hbox hb;have n0_ := As_ (zkb BK244.out hb);have n1_ := As_ (bwT (zb1 HB.out GE244.out) hb);have n2_ := As_ (hbox);have n3_ := As_ ((by rw [hg];exact (bwZ (zb1 HB.out GE244.out)) : w.heap.size ≤ gb245));have n4_ := As_ ((by rw [hg];exact Nat.ne_of_lt (zkl BK244.out) : gb244 ≠ gb245));have n5_ := As_ ((by rw [hg];exact Nat.ne_of_gt (zkl BK244.out) : gb245 ≠ gb244));clear BK244 HB;revert n0_ n1_ n2_ n3_ n4_ n5_;intro BK244 HB BK245 GE245 NB244_245 NB245_244;clear hg hbox hb;obtain ⟨hca_0,hca_1,hfa_0,hfa_1⟩ := bk2 BK244.out)|(go_at_call 29;(with_reducible refine (impl_ValidGraph.calls k _ _ l0_0 a0_1 true _ ?side1 ?side2 HA1.out).mono ?_);(case side1 => exact zC_ (Kd.C_below HR0_0.out HB.out));(case side2 => exact HC0_0.out);rintro e w3 ⟨rfl,hb⟩;have n0_ := As_ (zkb BK244.out hb);have n1_ := As_ (zkb BK245.out hb);have n2_ := As_ (bwT (zb2 HB.out GE244.out GE245.out) hb);clear BK244 BK245 HB;revert n0_ n1_ n2_;intro BK244 BK245 HB;clear hb;obtain ⟨hcb_0,hcb_1,hfb_0,hfb_1⟩ := bk2 BK245.out)|(go_at_call 29;(with_reducible refine (impl_ValidGraph.calls k _ _ l1_0 a1_1 false _ ?side1 ?side2 HA2.out).mono ?_);(case side1 => exact zC_ (Kd.C_below HR1_0.out HB.out));(case side2 => exact HC1_0.out);rintro e w4 ⟨rfl,hb⟩;have n0_ := As_ (zkb BK244.out hb);have n1_ := As_ (zkb BK245.out hb);have n2_ := As_ (bwT (zb2 HB.out GE244.out GE245.out) hb);clear BK244 BK245 HB;revert n0_ n1_ n2_;intro BK244 BK245 HB;clear hb))
   go_ret
   exact ⟨zE_,zb2 HB.out GE244.out GE245.out⟩
  | true =>
   rw [if_pos rfl] at H
   by_cases c1 : a2 < 0
   ·rw [if_pos c1] at H
    have c1b : decide (a2 < 0) = true := deT c1
    clear c1
    obtain rfl := Option.some.inj H
    clear H
    go_enter Try.func32,Try.ntmps32
    go_wp2_with (first|((with_reducible refine gate_dst (N := 3) rfl ?_);refine box_event ?hg (N := 3) ?hd (cs := #[.slice A0_0 l0_0.length c0_0,.int .i64 a0_1]) (t := 29) ?hr ?_;(case hd => rfl);(case hg => rfl);(case hr => first|(go_simp;done)|(go_simp <;> rfl));intro gb244 hg w1 hbox hb;have n0_ := As_ (bwT (zb0 HB.out) hb);have n1_ := As_ (hbox);have n2_ := As_ ((by rw [hg];exact (bwZ (zb0 HB.out)) : w.heap.size ≤ gb244));clear HB;revert n0_ n1_ n2_;intro HB BK244 GE244;clear hg hbox hb)|((with_reducible refine gate_dst (N := 4) rfl ?_);refine box_event ?hg (N := 4) ?hd (cs := #[.slice A1_0 l1_0.length c1_0,.int .i64 a1_1]) (t := 29) ?hr ?_;(case hd => rfl);(case hg => rfl);(case hr => first|(go_simp;done)|(go_simp <;> rfl));intro gb245 hg w2 hbox hb;have n0_ := As_ (zkb BK244.out hb);have n1_ := As_ (bwT (zb1 HB.out GE244.out) hb);have n2_ := As_ (hbox);have n3_ := As_ ((by rw [hg];exact (bwZ (zb1 HB.out GE244.out)) : w.heap.size ≤ gb245));have n4_ := As_ ((by rw [hg];exact Nat.ne_of_lt (zkl BK244.out) : gb244 ≠ gb245));have n5_ := As_ ((by rw [hg];exact Nat.ne_of_gt (zkl BK244.out) : gb245 ≠ gb244));clear BK244 HB;revert n0_ n1_ n2_ n3_ n4_ n5_;intro BK244 HB BK245 GE245 NB244_245 NB245_244;clear hg hbox hb;obtain ⟨hca_0,hca_1,hfa_0,hfa_1⟩ := bk2 BK244.out)|(go_at_call 29;(with_reducible refine (impl_ValidGraph.calls k _ _ l0_0 a0_1 true _ ?side1 ?side2 HA1.out).mono ?_);(case side1 => exact zC_ (Kd.C_below HR0_0.out HB.out));(case side2 => exact HC0_0.out);rintro e w3 ⟨rfl,hb⟩;have n0_ := As_ (zkb BK244.out hb);have n1_ := As_ (zkb BK245.out hb);have n2_ := As_ (bwT (zb2 HB.out GE244.out GE245.out) hb);clear BK244 BK245 HB;revert n0_ n1_ n2_;intro BK244 BK245 HB;clear hb;obtain ⟨hcb_0,hcb_1,hfb_0,hfb_1⟩ := bk2 BK245.out)|(go_at_call 29;(with_reducible refine (impl_ValidGraph.calls k _ _ l1_0 a1_1 true _ ?side1 ?side2 HA2.out).mono ?_);(case side1 => exact zC_ (Kd.C_below HR1_0.out HB.out));(case side2 => exact HC1_0.out);rintro e w4 ⟨rfl,hb⟩;have n0_ := As_ (zkb BK244.out hb);have n1_ := As_ (zkb BK245.out hb);have n2_ := As_ (bwT (zb2 HB.out GE244.out GE245.out) hb);clear BK244 BK245 HB;revert n0_ n1_ n2_;intro BK244 BK245 HB;clear hb))
    go_ret
    exact ⟨zE_,zb2 HB.out GE244.out GE245.out⟩
   rw [if_neg c1] at H
   have c1b : decide (a2 < 0) = false := deF c1
   clear c1
   by_cases c2 : a2 > 8
   ·rw [if_pos c2] at H
    have c2b : decide (8 < a2) = true := deT c2
    clear c2
    obtain rfl := Option.some.inj H
    clear H
    go_enter Try.func32,Try.ntmps32
    go_wp2_with (first|((with_reducible refine gate_dst (N := 3) rfl ?_);refine box_event ?hg (N := 3) ?hd (cs := #[.slice A0_0 l0_0.length c0_0,.int .i64 a0_1]) (t := 29) ?hr ?_;(case hd => rfl);(case hg => rfl);(case hr => first|(go_simp;done)|(go_simp <;> rfl));intro gb244 hg w1 hbox hb;have n0_ := As_ (bwT (zb0 HB.out) hb);have n1_ := As_ (hbox);have n2_ := As_ ((by rw [hg];exact (bwZ (zb0 HB.out)) : w.heap.size ≤ gb244));clear HB;revert n0_ n1_ n2_;intro HB BK244 GE244;clear hg hbox hb)|((with_reducible refine gate_dst (N := 4) rfl ?_);refine box_event ?hg (N := 4) ?hd (cs := #[.slice A1_0 l1_0.length c1_0,.int .i64 a1_1]) (t := 29) ?hr ?_;(case hd => rfl);(case hg => rfl);(case hr => first|(go_simp;done)|(go_simp <;> rfl));intro gb245 hg w2 hbox hb;have n0_ := As_ (zkb BK244.out hb);have n1_ := As_ (bwT (zb1 HB.out GE244.out) hb);have n2_ := As_ (hbox);have n3_ := As_ ((by rw [hg];exact (bwZ (zb1 HB.out GE244.out)) : w.heap.size ≤ gb245));have n4_ := As_ ((by rw [hg];exact Nat.ne_of_lt (zkl BK244.out) : gb244 ≠ gb245));have n5_ := As_ ((by rw [hg];exact Nat.ne_of_gt (zkl BK244.out) : gb245 ≠ gb244));clear BK244 HB;revert n0_ n1_ n2_ n3_ n4_ n5_;intro BK244 HB BK245 GE245 NB244_245 NB245_244;clear hg hbox hb;obtain ⟨hca_0,hca_1,hfa_0,hfa_1⟩ := bk2 BK244.out)|(go_at_call 29;(with_reducible refine (impl_ValidGraph.calls k _ _ l0_0 a0_1 true _ ?side1 ?side2 HA1.out).mono ?_);(case side1 => exact zC_ (Kd.C_below HR0_0.out HB.out));(case side2 => exact HC0_0.out);rintro e w3 ⟨rfl,hb⟩;have n0_ := As_ (zkb BK244.out hb);have n1_ := As_ (zkb BK245.out hb);have n2_ := As_ (bwT (zb2 HB.out GE244.out GE245.out) hb);clear BK244 BK245 HB;revert n0_ n1_ n2_;intro BK244 BK245 HB;clear hb;obtain ⟨hcb_0,hcb_1,hfb_0,hfb_1⟩ := bk2 BK245.out)|(go_at_call 29;(with_reducible refine (impl_ValidGraph.calls k _ _ l1_0 a1_1 true _ ?side1 ?side2 HA2.out).mono ?_);(case side1 => exact zC_ (Kd.C_below HR1_0.out HB.out));(case side2 => exact HC1_0.out);rintro e w4 ⟨rfl,hb⟩;have n0_ := As_ (zkb BK244.out hb);have n1_ := As_ (zkb BK245.out hb);have n2_ := As_ (bwT (zb2 HB.out GE244.out GE245.out) hb);clear BK244 BK245 HB;revert n0_ n1_ n2_;intro BK244 BK245 HB;clear hb))
    go_ret
    exact ⟨zE_,zb2 HB.out GE244.out GE245.out⟩
   rw [if_neg c2] at H
   have c2b : decide (8 < a2) = false := deF c2
   clear c2
   obtain ⟨⟨t1,t2⟩,hA3,H⟩ := obS H
   have HA3 := As_ hA3
   clear hA3
   obtain rfl := Option.some.inj H
   clear H
   go_enter Try.func32,Try.ntmps32
   go_wp2_with (first|((with_reducible refine gate_dst (N := 3) rfl ?_);refine box_event ?hg (N := 3) ?hd (cs := #[.slice A0_0 l0_0.length c0_0,.int .i64 a0_1]) (t := 29) ?hr ?_;(case hd => rfl);(case hg => rfl);(case hr => first|(go_simp;done)|(go_simp <;> rfl));intro gb244 hg w1 hbox hb;have n0_ := As_ (bwT (zb0 HB.out) hb);have n1_ := As_ (hbox);have n2_ := As_ ((by rw [hg];exact (bwZ (zb0 HB.out)) : w.heap.size ≤ gb244));clear HB;revert n0_ n1_ n2_;intro HB BK244 GE244;clear hg hbox hb)|((with_reducible refine gate_dst (N := 4) rfl ?_);refine box_event ?hg (N := 4) ?hd (cs := #[.slice A1_0 l1_0.length c1_0,.int .i64 a1_1]) (t := 29) ?hr ?_;(case hd => rfl);(case hg => rfl);(case hr => first|(go_simp;done)|(go_simp <;> rfl));intro gb245 hg w2 hbox hb;have n0_ := As_ (zkb BK244.out hb);have n1_ := As_ (bwT (zb1 HB.out GE244.out) hb);have n2_ := As_ (hbox);have n3_ := As_ ((by rw [hg];exact (bwZ (zb1 HB.out GE244.out)) : w.heap.size ≤ gb245));have n4_ := As_ ((by rw [hg];exact Nat.ne_of_lt (zkl BK244.out) : gb244 ≠ gb245));have n5_ := As_ ((by rw [hg];exact Nat.ne_of_gt (zkl BK244.out) : gb245 ≠ gb244));clear BK244 HB;revert n0_ n1_ n2_ n3_ n4_ n5_;intro BK244 HB BK245 GE245 NB244_245 NB245_244;clear hg hbox hb;obtain ⟨hca_0,hca_1,hfa_0,hfa_1⟩ := bk2 BK244.out)|(go_at_call 29;(with_reducible refine (impl_ValidGraph.calls k _ _ l0_0 a0_1 true _ ?side1 ?side2 HA1.out).mono ?_);(case side1 => exact zC_ (Kd.C_below HR0_0.out HB.out));(case side2 => exact HC0_0.out);rintro e w3 ⟨rfl,hb⟩;have n0_ := As_ (zkb BK244.out hb);have n1_ := As_ (zkb BK245.out hb);have n2_ := As_ (bwT (zb2 HB.out GE244.out GE245.out) hb);clear BK244 BK245 HB;revert n0_ n1_ n2_;intro BK244 BK245 HB;clear hb;obtain ⟨hcb_0,hcb_1,hfb_0,hfb_1⟩ := bk2 BK245.out)|(go_at_call 29;(with_reducible refine (impl_ValidGraph.calls k _ _ l1_0 a1_1 true _ ?side1 ?side2 HA2.out).mono ?_);(case side1 => exact zC_ (Kd.C_below HR1_0.out HB.out));(case side2 => exact HC1_0.out);rintro e w4 ⟨rfl,hb⟩;have n0_ := As_ (zkb BK244.out hb);have n1_ := As_ (zkb BK245.out hb);have n2_ := As_ (bwT (zb2 HB.out GE244.out GE245.out) hb);clear BK244 BK245 HB;revert n0_ n1_ n2_;intro BK244 BK245 HB;clear hb)|((with_reducible refine gate_dst (N := 7) rfl ?_);refine box_event ?hg (N := 7) ?hd (cs := #[.map none]) (t := 67) ?hr ?_;(case hd => rfl);(case hg => rfl);(case hr => first|(go_simp;done)|(go_simp <;> rfl));intro gb246 hg w5 hbox hb;have hsz : (w4.alloc (.map #[] 0)).heap.size = w4.heap.size + 1 := (by first|(simp;done)|(simp only [World.alloc,Array.size_push]));have n0_ := As_ (zkb BK244.out hb);have n1_ := As_ (zkb BK245.out hb);have n2_ := As_ (bwT (zb2 HB.out GE244.out GE245.out) hb);have n3_ := As_ (hbox);have n4_ := As_ ((by rw [hg];exact (bwZ (zb2 HB.out GE244.out GE245.out)) : w.heap.size ≤ gb246));have n5_ := As_ (TabIs.below (TabIs.made (P := Try.prog) (k := 68) (e := 4) w4 impl_EqualTo.kv impl_EqualTo.bv) hb);have n6_ := As_ ((by rw [hg,hsz];omega : w4.heap.size < gb246));have n7_ := As_ ((show w.heap.size ≤ w4.heap.size ∧ gb244 < w4.heap.size ∧ gb245 < w4.heap.size from ⟨bwZ (zb2 HB.out GE244.out GE245.out),blk_lt BK244.out,blk_lt BK245.out⟩));have n8_ := As_ ((by rw [hg];exact Nat.ne_of_lt (zkl BK244.out) : gb244 ≠ gb246));have n9_ := As_ ((by rw [hg];exact Nat.ne_of_gt (zkl BK244.out) : gb246 ≠ gb244));have n10_ := As_ ((by rw [hg];exact Nat.ne_of_lt (zkl BK245.out) : gb245 ≠ gb246));have n11_ := As_ ((by rw [hg];exact Nat.ne_of_gt (zkl BK245.out) : gb246 ≠ gb245));clear BK244 BK245 HB;revert n0_ n1_ n2_ n3_ n4_ n5_ n6_ n7_ n8_ n9_ n10_ n11_;intro BK244 BK245 HB BK246 GE246 HM NM L4 NB244_246 NB246_244 NB245_246 NB246_245;clear hg hbox hb hsz;obtain ⟨hcs_0,hfs_0⟩ := bk1 BK246.out)|((with_reducible refine gate_store (t := 67) (p := 7) rfl ?_);refine store_event (t := 67) (p := 7) (v := ?vo_w6) (w1 := w5.setCell ⟨gb246,0,none⟩ (.map (some w4.heap.size))) ?hg ?ho ?hn ?hr ?_;(case ho => rfl);(case hg => rfl);(case hn => rfl);(case hr => first|(go_simp;done)|(go_simp;rfl));intro w6 hw;have n0_ := As_ (show w6.heap[gb244]? = some (.cells #[.slice A0_0 l0_0.length c0_0,.int .i64 a0_1] 29 (0,0)) from (by rw [hw];exact blk_far BK244.out NB244_246.out _));have n1_ := As_ (show w6.heap[gb245]? = some (.cells #[.slice A1_0 l1_0.length c1_0,.int .i64 a1_1] 29 (0,0)) from (by rw [hw];exact blk_far BK245.out NB245_246.out _));have n2_ := As_ (show Below w.heap.size w w6 from (by rw [hw];exact bwS HB.out GE246.out));have n3_ := As_ (show w6.heap[gb246]? = some (.cells #[.map (some w4.heap.size)] 67 (0,0)) from (by rw [hw];exact blk_put (cs := #[.map none]) BK246.out 0 _ rfl));have n4_ := As_ (show TabIs Try.prog 68 4 w6 w4.heap.size impl_EqualTo.kv impl_EqualTo.bv [] from (by rw [hw];exact HM.out.setCell (Nat.ne_of_lt NM.out) _));clear hcs_0 hfs_0 BK244 BK245 HB BK246 HM;revert n0_ n1_ n2_ n3_ n4_;intro BK244 BK245 HB BK246 HM;clear hw)|((with_reducible refine gate_dst (N := 8) rfl ?_);refine box_event ?hg (N := 8) ?hd (cs := #[.nilFunc]) (t := 65) ?hr ?_;(case hd => rfl);(case hg => rfl);(case hr => first|(go_simp;done)|(go_simp <;> rfl));intro gb247 hg w7 hbox hb;have n0_ := As_ (zkb BK244.out hb);have n1_ := As_ (zkb BK245.out hb);have n2_ := As_ (bwT (zb0 HB.out) hb);have n3_ := As_ (zkb BK246.out hb);have n4_ := As_ (TabIs.below HM.out hb);have n5_ := As_ (hbox);have n6_ := As_ ((by rw [hg];exact (bwZ (zb0 HB.out)) : w.heap.size ≤ gb247));have n7_ := As_ ((by rw [hg];exact HM.out.lt : w4.heap.size < gb247));have n8_ := As_ ((by rw [hg];exact Nat.ne_of_lt (zkl BK244.out) : gb244 ≠ gb247));have n9_ := As_ ((by rw [hg];exact Nat.ne_of_lt (zkl BK245.out) : gb245 ≠ gb247));have n10_ := As_ ((by rw [hg];exact Nat.ne_of_lt (zkl BK246.out) : gb246 ≠ gb247));clear BK244 BK245 HB BK246 HM;revert n0_ n1_ n2_ n3_ n4_ n5_ n6_ n7_ n8_ n9_ n10_;intro BK244 BK245 HB BK246 HM BK247 GE247 NW NB244_247 NB245_247 NB246_247;clear hg hbox hb;obtain ⟨hcw_0,hfw_0⟩ := bk1 BK247.out)|((with_reducible refine gate_store (t := 65) (p := 8) rfl ?_);refine store_event (t := 65) (p := 8) (v := ?vo_w8) (w1 := w7.setCell ⟨gb247,0,none⟩ (.func (.func 72) #[] #[.pointer (some ⟨gb246,0,none⟩),.pointer (some ⟨gb244,0,none⟩),.pointer (some ⟨gb245,0,none⟩),.pointer (some ⟨gb247,0,none⟩)])) ?hg ?ho ?hn ?hr ?_;(case ho => rfl);(case hg => rfl);(case hn => rfl);(case hr => first|(go_simp;done)|(go_simp;rfl));intro w8 hw;have n0_ := As_ (show w8.heap[gb244]? = some (.cells #[.slice A0_0 l0_0.length c0_0,.int .i64 a0_1] 29 (0,0)) from (by rw [hw];exact blk_far BK244.out NB244_247.out _));have n1_ := As_ (show w8.heap[gb245]? = some (.cells #[.slice A1_0 l1_0.length c1_0,.int .i64 a1_1] 29 (0,0)) from (by rw [hw];exact blk_far BK245.out NB245_247.out _));have n2_ := As_ (show Below w.heap.size w w8 from (by rw [hw];exact bwS HB.out GE247.out));have n3_ := As_ (show w8.heap[gb246]? = some (.cells #[.map (some w4.heap.size)] 67 (0,0)) from (by rw [hw];exact blk_far BK246.out NB246_247.out _));have n4_ := As_ (show TabIs Try.prog 68 4 w8 w4.heap.size impl_EqualTo.kv impl_EqualTo.bv [] from (by rw [hw];exact HM.out.setCell (Nat.ne_of_lt NW.out) _));have n5_ := As_ (show w8.heap[gb247]? = some (.cells #[.func (.func 72) #[] #[.pointer (some ⟨gb246,0,none⟩),.pointer (some ⟨gb244,0,none⟩),.pointer (some ⟨gb245,0,none⟩),.pointer (some ⟨gb247,0,none⟩)]] 65 (0,0)) from (by rw [hw];exact blk_put (cs := #[.nilFunc]) BK247.out 0 _ rfl));clear hcw_0 hfw_0 BK244 BK245 HB BK246 HM BK247;revert n0_ n1_ n2_ n3_ n4_ n5_;intro BK244 BK245 HB BK246 HM BK247;clear hw;obtain ⟨hxa_0,hxa_1,gxa_0,gxa_1⟩ := bk2 BK244.out;obtain ⟨hxb_0,hxb_1,gxb_0,gxb_1⟩ := bk2 BK245.out;obtain ⟨hxw_0,gxw_0⟩ := bk1 BK247.out)|(go_at_call 72;(with_reducible refine (impl_EqualTo.lit l0_0 A0_0 c0_0 a0_1 l1_0 A1_0 c1_0 a1_1 gb246 gb244 gb245 gb247 w4.heap.size w HR0_0.out HC0_0.out HR1_0.out HC1_0.out (impl_EqualTo.five_of L4.out NM.out NW.out) k a0_1 a1_1 a2 [] t1 t2 _ _ (impl_EqualTo.Inv.mk BK246.out BK244.out BK245.out BK247.out (Array.getElem?_eq_getElem HM.out.lt) (impl_EqualTo.TabO.of HM.out (Array.getElem?_eq_getElem HM.out.lt)) HB.out) HA3.out).mono ?_);rintro e w9 ⟨rfl,om2,⟨_,_,_,_,_,_,hb9⟩,_⟩;have HB9 := As_ hb9;clear hb9))
   go_ret
   exact ⟨zE_,HB9.out⟩

end Go.Proofs.Ytfhakhbmbnbneaa.Q
