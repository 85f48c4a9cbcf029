/- A map that a call has made for itself, told by the list of its pairs: keys of any kind that the model reads, elements of a plain kind. -/
import Derived.Test.YtonppkaobnfldaaHmap
import Derived.DeepKeys5
namespace Go.Proofs.Ytonppkaobnfldaa.Q
open Go.RowKit Go.Maps
set_option linter.unusedVariables false
set_option linter.unusedSimpArgs false

theorem plainElem_same {P : Program} {e : TypeId} {v v' : Value} {z : DataW Unit × List MemPlace} (h : plainElem P e v = some z) (h' : plainElem P e v' = some z) : v = v' := by
 unfold plainElem at h h'
 cases hd : P.underlying e with
 | none => rw [hd] at h;cases h
 | some d =>
  rw [hd] at h h'
  cases d <;> cases v <;> simp at h <;> cases v' <;> simp at h'
  ·rw [← h] at h'
   injection h' with a b
   injection a with a
   injection a with a
   rw [a]
  ·obtain ⟨⟨h1,h2⟩,h3⟩ := h
   obtain ⟨⟨h4,h5⟩,h6⟩ := h'
   rw [← h3] at h6
   injection h6 with a b
   injection a with a
   injection a with a a2
   rw [h1,h4,a2]
  ·obtain ⟨h1,h3⟩ := h
   obtain ⟨h4,h6⟩ := h'
   rw [← h3] at h6
   injection h6 with a b
   injection a with a
   injection a with a
   rename_i s1 s2
   cases s1
   cases s2
   simp only at a
   rw [Array.toList_inj.1 a]

variable {P : Program} {k e t : TypeId} {w : World} {b : Nat} {α β : Type} [DecidableEq α] {key : α → Value} {val : β → Value} {T : List (α × β)}

def TabIs (P : Program) (k e : TypeId) (w : World) (b : Nat) (key : α → Value) (val : β → Value) (T : List (α × β)) : Prop :=
 ∃ D : DataW Unit,w.ownsMap P k (plainElem P e) b T.length D ∧ Maps.size D = T.length ∧ (∀ x kl,keyOf P k (key x) = some kl → Maps.has D kl = (T.lookup x).isSome) ∧
  ∀ x y kl z,keyOf P k (key x) = some kl → T.lookup x = some y → plainElem P e (val y) = some (D.atKey kl z,[])

theorem TabIs.made (w : World) (key : α → Value) (val : β → Value) : TabIs P k e (w.alloc (.map #[] 0)) w.heap.size key val [] :=
 ⟨.map [],World.ownsMap_made _ _ _ _,rfl,fun x kl _ => by simp [Maps.has],fun x y kl z _ h => by simp at h⟩
theorem TabIs.lt (h : TabIs P k e w b key val T) : b < w.heap.size := let ⟨_,h,_⟩ := h;h.lt
theorem TabIs.kept {w' : World} {row : Option Nat} (h : TabIs P k e w b key val T) (hg : w.grownBy w' row) (hne : some b ≠ row) : TabIs P k e w' b key val T := let ⟨D,h,r⟩ := h;⟨D,h.kept hg hne,r⟩
theorem TabIs.alloc (h : TabIs P k e w b key val T) (o : Obj) : TabIs P k e (w.alloc o) b key val T := let ⟨D,h,r⟩ := h;⟨D,h.alloc o,r⟩
theorem TabIs.drew (h : TabIs P k e w b key val T) : TabIs P k e w.drew b key val T := let ⟨D,h,r⟩ := h;⟨D,h.drew,r⟩
theorem TabIs.setCell (h : TabIs P k e w b key val T) {a : Addr} (ha : b ≠ a.block) (u : Value) : TabIs P k e (w.setCell a u) b key val T := let ⟨D,h,r⟩ := h;⟨D,h.setCell ha u,r⟩
theorem TabIs.block {w' : World} (h : TabIs P k e w b key val T) (hb : w'.heap[b]? = w.heap[b]?) : TabIs P k e w' b key val T := by
 obtain ⟨D,⟨es,clock,h1,r1⟩,r⟩ := h
 exact ⟨D,⟨es,clock,hb.trans h1,r1⟩,r⟩
theorem TabIs.below {w' : World} (h : TabIs P k e w b key val T) (hb : Below w.heap.size w w') : TabIs P k e w' b key val T := h.block (hb.block b h.lt)

/-- What a lookup answers: the element, or the zero. -/
def tabAt (T : List (α × β)) (val : β → Value) (z : Value) (x : α) : Value := match T.lookup x with | some y => val y | none => z

theorem TabIs.lookup_ok (h : TabIs P k e w b key val T) (K : Keyed P k) (ht : P.underlying t = some (.map k e)) {z : Value} {zd : DataW Unit} (hz : (zeroValue e).run P w = .ok z w) (hzd : plainElem P e z = some (zd,[])) {x : α} {kl : Lit} (hk : keyOf P k (key x) = some kl) :
  (Instr.lookup t (.map (some b)) (key x) true).run P w = .ok (.tuple #[tabAt T val z x,.bool (T.lookup x).isSome]) w := by
 obtain ⟨D,h,_,hh,ha⟩ := h
 obtain ⟨v,ps,hrun,hv⟩ := h.look_ok K ht hz hzd hk
 obtain rfl : ps = [] := plainElem_places hv
 rw [hh x kl hk] at hrun
 rw [hrun]
 have e2 : v = tabAt T val z x := by
  unfold tabAt
  cases hl : T.lookup x with
  | none =>
   rw [atKey_of_not_has (by rw [hh x kl hk,hl];rfl)] at hv
   exact plainElem_same hv hzd
  | some y => exact plainElem_same hv (ha x y kl zd hk hl)
 rw [e2]

theorem TabIs.lookup (h : TabIs P k e w b key val T) (K : Keyed P k) (ht : P.underlying t = some (.map k e)) {z : Value} {zd : DataW Unit} (hz : (zeroValue e).run P w = .ok z w) (hzd : plainElem P e z = some (zd,[])) {x : α} {kl : Lit} (hk : keyOf P k (key x) = some kl) :
  (Instr.lookup t (.map (some b)) (key x) false).run P w = .ok (tabAt T val z x) w := by
 obtain ⟨D,h,_,hh,ha⟩ := h
 obtain ⟨v,ps,hrun,hv⟩ := h.lookup K ht hz hzd hk
 obtain rfl : ps = [] := plainElem_places hv
 rw [hrun]
 have e2 : v = tabAt T val z x := by
  unfold tabAt
  cases hl : T.lookup x with
  | none =>
   rw [atKey_of_not_has (by rw [hh x kl hk,hl];rfl)] at hv
   exact plainElem_same hv hzd
  | some y => exact plainElem_same hv (ha x y kl zd hk hl)
 rw [e2]

theorem lookup_snoc (T : List (α × β)) (x x' : α) (y : β) (hn : T.lookup x = none) : (T ++ [(x,y)]).lookup x' = if x' = x then some y else T.lookup x' := by
 rw [List.lookup_append]
 by_cases hx : x' = x
 ·subst hx
  rw [if_pos rfl,hn]
  simp
 ·rw [if_neg hx]
  cases T.lookup x' with
  | some z => rfl
  | none => simp [List.lookup_cons,beq_false_of_ne hx]

theorem TabIs.update (h : TabIs P k e w b key val T) (K : Keyed P k) (ht : P.underlying t = some (.map k e)) (hn : T.length < maxLen) {x : α} {y : β} {kl : Lit} {d : DataW Unit} (hk : keyOf P k (key x) = some kl) (hy : plainElem P e (val y) = some (d,[])) (hfresh : T.lookup x = none) (hinj : ∀ a,key a = key x → a = x) :
  ∃ w',(Instr.mapUpdate t (.map (some b)) (key x) (val y)).run P w = .ok () w' ∧ TabIs P k e w' b key val (T ++ [(x,y)]) ∧ w.mapTurned w' b := by
 obtain ⟨D,h,hs,hh,ha⟩ := h
 obtain ⟨w',hrun,h',hturn⟩ := h.store K ht hn hk hy
 have hkey := K.key hk
 have hsz : Maps.size (D.put kl d) = (T ++ [(x,y)]).length := by
  rw [size_put (h.tidy K),hh x kl hk,hs,hfresh]
  simp
 have hkne : ∀ a kl',keyOf P k (key a) = some kl' → a ≠ x → kl' ≠ kl := fun a kl' h1 h2 h3 => h2 (hinj a (K.inj h1 (by rw [h3];exact hk)))
 refine ⟨w',hrun,⟨_,by rw [← hsz];exact tight h',hsz,fun a kl' hk' => ?_,fun a y' kl' z hk' hl => ?_⟩,hturn⟩
 ·rw [lookup_snoc _ _ _ _ hfresh]
  by_cases hax : a = x
  ·subst hax
   obtain rfl : kl' = kl := by rw [hk] at hk';injection hk' with e;exact e.symm
   rw [has_put_same h.isMap hkey,if_pos rfl]
   rfl
  ·rw [has_put_other (hkne a kl' hk' hax),hh a kl' hk',if_neg hax]
 ·rw [lookup_snoc _ _ _ _ hfresh] at hl
  by_cases hax : a = x
  ·subst hax
   obtain rfl : kl' = kl := by rw [hk] at hk';injection hk' with e;exact e.symm
   rw [if_pos rfl] at hl
   obtain rfl := Option.some.inj hl
   rw [atKey_put_same h.isMap hkey]
   exact hy
  ·rw [if_neg hax] at hl
   rw [atKey_put_other (hkne a kl' hk' hax)]
   exact ha a y' kl' z hk' hl

theorem TabIs.len (h : TabIs P k e w b key val T) (ht : P.underlying t = some (.map k e)) (ty : TypeId) : (Builtin.len_ #[t] ty #[.map (some b)]).run P w = .ok (.int .i64 T.length) w := by
 obtain ⟨D,h,hs,_⟩ := h
 rw [h.len ht ty,hs]

section
variable (w : World) {ops : Array Oper} {rest : List Oper} {o : Oper} {a : Act} {Q : Exit → Act → World → Prop}
theorem wpList_tab_lookup (hg : o.guard = none) (m x : Operand) (t : TypeId) (hop : o.op = Op.lookup t m x false)
  (k e : TypeId) (K : Keyed P k) (ht : P.underlying t = some (.map k e)) {z : Value} {zd : DataW Unit} (hz : (zeroValue e).run P w = .ok z w) (hzd : plainElem P e z = some (zd,[])) (b : Nat) (key : α → Value) (val : β → Value) (T : List (α × β))
  (hm : a.eval m = .map (some b)) (h : TabIs P k e w b key val T) (y : α) (kl : Lit) (hx : a.eval x = key y) (hy : keyOf P k (key y) = some kl)
  (hK : wpList P ops Q rest (a.put o.dst (tabAt T val z y)) w) : wpList P ops Q (o :: rest) a w := by
 refine wpList_plain hg fun K' hK' => ?_
 unfold Oper.wp
 simp [execOp,hop,hm,hx,h.lookup K ht hz hzd hy,Result.andThen]
 exact hK' _ _ hK

theorem wpList_tab_lookup_ok (hg : o.guard = none) (m x : Operand) (t : TypeId) (hop : o.op = Op.lookup t m x true)
  (k e : TypeId) (K : Keyed P k) (ht : P.underlying t = some (.map k e)) {z : Value} {zd : DataW Unit} (hz : (zeroValue e).run P w = .ok z w) (hzd : plainElem P e z = some (zd,[])) (b : Nat) (key : α → Value) (val : β → Value) (T : List (α × β))
  (hm : a.eval m = .map (some b)) (h : TabIs P k e w b key val T) (y : α) (kl : Lit) (hx : a.eval x = key y) (hy : keyOf P k (key y) = some kl) (v : Value) (c : Bool) (hv : tabAt T val z y = v) (hc : (T.lookup y).isSome = c)
  (hK : wpList P ops Q rest (a.put o.dst (.tuple #[v,.bool c])) w) : wpList P ops Q (o :: rest) a w := by
 subst hv
 subst hc
 refine wpList_plain hg fun K' hK' => ?_
 unfold Oper.wp
 simp [execOp,hop,hm,hx,h.lookup_ok K ht hz hzd hy,Result.andThen]
 exact hK' _ _ hK

theorem wpList_tab_update (hg : o.guard = none) (m x v : Operand) (t : TypeId) (hop : o.op = Op.mapUpdate t m x v)
  (k e : TypeId) (K : Keyed P k) (ht : P.underlying t = some (.map k e)) (b : Nat) (key : α → Value) (val : β → Value) (T : List (α × β))
  (hm : a.eval m = .map (some b)) (h : TabIs P k e w b key val T) (hn : T.length < maxLen) (y : α) (z : β) (kl : Lit) (d : DataW Unit) (hx : a.eval x = key y) (hv : a.eval v = val z) (hy : keyOf P k (key y) = some kl) (hz : plainElem P e (val z) = some (d,[])) (hfresh : T.lookup y = none) (hinj : ∀ a,key a = key y → a = y)
  (hK : ∀ w',TabIs P k e w' b key val (T ++ [(y,z)]) → w.mapTurned w' b → wpList P ops Q rest (a.put o.dst undef) w') : wpList P ops Q (o :: rest) a w := by
 refine wpList_plain hg fun K' hK' => ?_
 obtain ⟨w',hrun,r1,r2⟩ := h.update K ht hn hy hz hfresh hinj
 unfold Oper.wp
 simp [execOp,hop,hm,hx,hv,hrun,Result.andThen]
 exact hK' _ _ (hK w' r1 r2)

theorem wpList_tab_len (hg : o.guard = none) (m : Operand) (t : TypeId) (hop : o.op = Op.call { callee := Callee.builtin Builtin.len,args := #[m],argTypes := #[t] })
  (k e : TypeId) (ht : P.underlying t = some (.map k e)) (b : Nat) (key : α → Value) (val : β → Value) (T : List (α × β)) (hm : a.eval m = .map (some b)) (h : TabIs P k e w b key val T)
  (hK : wpList P ops Q rest (a.put o.dst (.int .i64 T.length)) w) : wpList P ops Q (o :: rest) a w := by
 refine wpList_plain hg fun K' hK' => ?_
 unfold Oper.wp
 simp [execOp,hop,resolve,invoke,builtin,hm,h.len ht o.type,Result.andThen]
 exact hK' _ _ hK
end
/-- Numbers as keys and as elements. -/
def iv (n : Int) : Value := .int .i64 n
theorem iv_inj {a x : Int} (h : iv a = iv x) : a = x := by injection h
end Go.Proofs.Ytonppkaobnfldaa.Q
