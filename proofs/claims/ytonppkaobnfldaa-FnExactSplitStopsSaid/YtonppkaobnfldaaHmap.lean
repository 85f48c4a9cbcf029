/- A map from numbers to bools that a call has made for itself, told by the list of the numbers that it holds as true; and one from numbers to numbers, told by the list of its pairs. -/
import Derived.Maps.OwnSet
import Derived.Maps.OwnOps
import Derived.Maps.Views
import Derived.WalkKit
namespace Go.Proofs.Ytonppkaobnfldaa.Q
open Go.RowKit Go.Maps
set_option linter.unusedVariables false
set_option linter.unusedSimpArgs false

/-- A number put behind a list, if it is not there. -/
def addTo (S : List Int) (x : Int) : List Int := if x ∈ S then S else S ++ [x]
theorem mem_addTo {S : List Int} {x y : Int} : y ∈ addTo S x ↔ y ∈ S ∨ y = x := by
 unfold addTo
 split
 ·rename_i h
  constructor
  ·exact Or.inl
  ·rintro (h' | rfl)
   ·exact h'
   ·exact h
 ·simp

def SetIs (P : Program) (k e : TypeId) (w : World) (b : Nat) (S : List Int) : Prop :=
 ∃ D : DataW Unit,w.ownsMap P k (plainElem P e) b S.length D ∧ Maps.size D = S.length ∧ (∀ x : Int,Maps.has D (.int .i64 x) = decide (x ∈ S)) ∧ ∀ x : Int,x ∈ S → D.atKey (.int .i64 x) (.lit (.bool false)) = .lit (.bool true)

variable {P : Program} {k e t : TypeId} {w : World} {b : Nat} {S : List Int}

theorem tight {H : Type} {R : Value → Option (DataW H × List MemPlace)} {n : Nat} {D : DataW H} (h : w.ownsMap P k R b n D) : w.ownsMap P k R b (Maps.size D) D := by
 obtain ⟨es,clock,hb,F,hs,hD⟩ := h
 refine ⟨es,clock,hb,F,?_,hD⟩
 rw [hD]
 simp [Maps.size,length_sorted]

theorem SetIs.made (w : World) : SetIs P k e (w.alloc (.map #[] 0)) w.heap.size [] :=
 ⟨.map [],World.ownsMap_made _ _ _ _,rfl,fun x => by simp [Maps.has],fun x h => by simp at h⟩
theorem SetIs.lt (h : SetIs P k e w b S) : b < w.heap.size := let ⟨_,h,_⟩ := h;h.lt
theorem SetIs.kept {w' : World} {row : Option Nat} (h : SetIs P k e w b S) (hg : w.grownBy w' row) (hne : some b ≠ row) : SetIs P k e w' b S := let ⟨D,h,r⟩ := h;⟨D,h.kept hg hne,r⟩
theorem SetIs.alloc (h : SetIs P k e w b S) (o : Obj) : SetIs P k e (w.alloc o) b S := let ⟨D,h,r⟩ := h;⟨D,h.alloc o,r⟩
theorem SetIs.drew (h : SetIs P k e w b S) : SetIs P k e w.drew b S := let ⟨D,h,r⟩ := h;⟨D,h.drew,r⟩
theorem SetIs.setCell (h : SetIs P k e w b S) {a : Addr} (ha : b ≠ a.block) (u : Value) : SetIs P k e (w.setCell a u) b S := let ⟨D,h,r⟩ := h;⟨D,h.setCell ha u,r⟩
/-- .. while nothing below it, and not it itself, turns. -/
theorem SetIs.block {w' : World} (h : SetIs P k e w b S) (hb : w'.heap[b]? = w.heap[b]?) : SetIs P k e w' b S := by
 obtain ⟨D,⟨es,clock,h1,r1⟩,r⟩ := h
 exact ⟨D,⟨es,clock,hb.trans h1,r1⟩,r⟩
theorem SetIs.below {w' : World} (h : SetIs P k e w b S) (hb : Below w.heap.size w w') : SetIs P k e w' b S := h.block (hb.block b h.lt)

theorem SetIs.lookup (h : SetIs P k e w b S) (ht : P.underlying t = some (.map k e)) (hk : P.underlying k = some (.int .i64)) (he : P.underlying e = some .bool) (hz : (zeroValue e).run P w = .ok (.bool false) w) {x : Int} (hx : (Lit.int .i64 x).wf = true) :
  (Instr.lookup t (.map (some b)) (.int .i64 x) false).run P w = .ok (.bool (decide (x ∈ S))) w := by
 obtain ⟨D,h,_,hh,ha⟩ := h
 obtain ⟨v,ps,hrun,hv⟩ := h.lookup (int_keyed hk) ht hz (plainElem_bool he false) (keyOf_int_mk hk hx)
 have e1 : D.atKey (.int .i64 x) (.lit (.bool false)) = .lit (.bool (decide (x ∈ S))) := by
  by_cases hm : x ∈ S
  ·rw [ha x hm,decide_eq_true hm]
  ·rw [atKey_of_not_has (by rw [hh x,decide_eq_false hm]),decide_eq_false hm]
 rw [e1] at hv
 have e2 : v = .bool (decide (x ∈ S)) := by
  unfold plainElem at hv
  rw [he] at hv
  cases v <;> simp at hv
  rw [hv.1]
 rw [hrun,e2]

theorem SetIs.update (h : SetIs P k e w b S) (ht : P.underlying t = some (.map k e)) (hk : P.underlying k = some (.int .i64)) (he : P.underlying e = some .bool) (hn : S.length < maxLen) {x : Int} (hx : (Lit.int .i64 x).wf = true) :
  ∃ w',(Instr.mapUpdate t (.map (some b)) (.int .i64 x) (.bool true)).run P w = .ok () w' ∧ SetIs P k e w' b (addTo S x) ∧ w.mapTurned w' b := by
 obtain ⟨D,h,hs,hh,ha⟩ := h
 obtain ⟨w',hrun,h',hturn⟩ := h.store (int_keyed hk) ht hn (keyOf_int_mk hk hx) (plainElem_bool he true)
 have hkey : WideAt.IsKeyLit (.int .i64 x) := (int_keyed hk).key (keyOf_int_mk hk hx)
 have hsz : Maps.size (D.put (.int .i64 x) (.lit (.bool true))) = (addTo S x).length := by
  rw [size_put (h.tidy (int_keyed hk)),hh x,hs]
  unfold addTo
  by_cases hm : x ∈ S <;> simp [hm]
 refine ⟨w',hrun,⟨_,by rw [← hsz];exact tight h',hsz,fun y => ?_,fun y hy => ?_⟩,hturn⟩
 ·by_cases hyx : y = x
  ·subst hyx
   rw [has_put_same h.isMap hkey]
   exact (decide_eq_true (mem_addTo.2 (Or.inr rfl))).symm
  ·rw [has_put_other (fun z => hyx (by injection z)),hh y]
   exact decide_eq_decide.2 ⟨fun z => mem_addTo.2 (Or.inl z),fun z => (mem_addTo.1 z).resolve_right hyx⟩
 ·by_cases hyx : y = x
  ·subst hyx
   exact atKey_put_same h.isMap hkey _ _
  ·rw [atKey_put_other (fun z => hyx (by injection z))]
   exact ha y ((mem_addTo.1 hy).resolve_right hyx)

theorem SetIs.len (h : SetIs P k e w b S) (ht : P.underlying t = some (.map k e)) (ty : TypeId) : (Builtin.len_ #[t] ty #[.map (some b)]).run P w = .ok (.int .i64 S.length) w := by
 obtain ⟨D,h,hs,_⟩ := h
 rw [h.len ht ty,hs]

section
variable (w : World) {ops : Array Oper} {rest : List Oper} {o : Oper} {a : Act} {Q : Exit → Act → World → Prop}
theorem wpList_set_lookup (hg : o.guard = none) (m x : Operand) (t : TypeId) (hop : o.op = Op.lookup t m x false)
  (k e : TypeId) (ht : P.underlying t = some (.map k e)) (hk : P.underlying k = some (.int .i64)) (he : P.underlying e = some .bool) (hz : (zeroValue e).run P w = .ok (.bool false) w) (b : Nat) (S : List Int)
  (hm : a.eval m = .map (some b)) (h : SetIs P k e w b S) (y : Int) (hx : a.eval x = .int .i64 y) (hy : (Lit.int .i64 y).wf = true)
  (hK : wpList P ops Q rest (a.put o.dst (.bool (decide (y ∈ S)))) w) : wpList P ops Q (o :: rest) a w := by
 refine wpList_plain hg fun K' hK' => ?_
 unfold Oper.wp
 simp [execOp,hop,hm,hx,h.lookup ht hk he hz hy,Result.andThen]
 exact hK' _ _ hK

theorem wpList_set_update (hg : o.guard = none) (m x v : Operand) (t : TypeId) (hop : o.op = Op.mapUpdate t m x v)
  (k e : TypeId) (ht : P.underlying t = some (.map k e)) (hk : P.underlying k = some (.int .i64)) (he : P.underlying e = some .bool) (b : Nat) (S : List Int)
  (hm : a.eval m = .map (some b)) (h : SetIs P k e w b S) (hn : S.length < maxLen) (y : Int) (hx : a.eval x = .int .i64 y) (hv : a.eval v = .bool true) (hy : (Lit.int .i64 y).wf = true)
  (hK : ∀ w',SetIs P k e w' b (addTo S y) → w.mapTurned w' b → wpList P ops Q rest (a.put o.dst undef) w') : wpList P ops Q (o :: rest) a w := by
 refine wpList_plain hg fun K' hK' => ?_
 obtain ⟨w',hrun,r1,r2⟩ := h.update ht hk he hn hy
 unfold Oper.wp
 simp [execOp,hop,hm,hx,hv,hrun,Result.andThen]
 exact hK' _ _ (hK w' r1 r2)

theorem wpList_set_len (hg : o.guard = none) (m : Operand) (t : TypeId) (hop : o.op = Op.call { callee := Callee.builtin Builtin.len,args := #[m],argTypes := #[t] })
  (k e : TypeId) (ht : P.underlying t = some (.map k e)) (b : Nat) (S : List Int) (hm : a.eval m = .map (some b)) (h : SetIs P k e w b S)
  (hK : wpList P ops Q rest (a.put o.dst (.int .i64 S.length)) w) : wpList P ops Q (o :: rest) a w := by
 refine wpList_plain hg fun K' hK' => ?_
 unfold Oper.wp
 simp [execOp,hop,resolve,invoke,builtin,hm,h.len ht o.type,Result.andThen]
 exact hK' _ _ hK
end
end Go.Proofs.Ytonppkaobnfldaa.Q
