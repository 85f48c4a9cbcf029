/- Small facts on rounds, on loops that count up, on wraps and on lists. -/
import Derived.Test.YtbokjhdhpmmpfaaWWords
namespace Go.Proofs.Ytbokjhdhpmmpfaa.Q
open Go.RowKit Go.Proofs.YtbokjhdhpmmpfaaW.PrintWords
set_option linter.unusedVariables false
set_option linter.unusedSimpArgs false

theorem w64 {e : Int} (h : -9223372036854775808 ≤ e ∧ e ≤ 9223372036854775807) : wrap64 e = e := by unfold wrap64;omega
theorem w64n {e : Int} (n : Nat) (h : e = (n : Int)) (hn : n ≤ 4611686018427387904) : wrap64 e = (n : Int) := by subst h;exact w64 (by omega)
theorem w64s {i n : Nat} (h : i < n) (hn : n ≤ 4611686018427387904) : wrap64 ((i : Int) + 1) = ((i + 1 : Nat) : Int) := by rw [w64 (by omega)];omega

theorem Ev.ite_pos {α : Type} {c : Prop} [Decidable c] {g f : Nat → Option α} {r : α} (h : c) (k : Ev g r) : Ev (fun n => if c then g n else f n) r := Ev.congr (fun n => if_pos h) k
theorem Ev.ite_neg {α : Type} {c : Prop} [Decidable c] {g f : Nat → Option α} {r : α} (h : ¬ c) (k : Ev f r) : Ev (fun n => if c then g n else f n) r := Ev.congr (fun n => if_neg h) k
theorem Ev.at {α : Type} {g : Nat → Option α} {r q : α} (h : Ev g r) (e : r = q) : Ev g q := e ▸ h
theorem Ev.one {α : Type} {g : Nat → Option α} {r q : α} (h : Ev g r) (h' : Ev g q) : r = q := by
 obtain ⟨a,ha⟩ := h
 obtain ⟨b,hb⟩ := h'
 have x := ha (max a b) (Nat.le_max_left _ _)
 have y := hb (max a b) (Nat.le_max_right _ _)
 rw [x] at y
 exact Option.some.inj y
theorem Ev.pure {α : Type} {g : Nat → Option α} {r : α} (h : ∀ k,g k = some r) : Ev g r := ⟨0,fun k _ => h k⟩
theorem Ev.bind0 {α β : Type} {g : Option α} {f : Nat → α → Option β} {a : α} {r : β} (h : g = some a) (k : Ev (fun n => f n a) r) : Ev (fun n => g.bind (f n)) r := by
 subst h;exact k

/-- A loop that asks something of each place and ends at the first that says no. -/
theorem ev_all {L : Nat → Int → Option Bool} {n : Nat} {p : Nat → Bool} {fin : Bool}
  (hs : ∀ i : Nat,i < n → p i = true → ∀ r,Ev (fun k => L k ((i + 1 : Nat) : Int)) r → Ev (fun k => L k (i : Int)) r)
  (hf : ∀ i : Nat,i < n → p i = false → Ev (fun k => L k (i : Int)) false)
  (he : Ev (fun k => L k (n : Int)) fin) : Ev (fun k => L k 0) ((List.range n).all p && fin) := by
 have key : ∀ d i,n - i = d → i ≤ n → Ev (fun k => L k (i : Int)) ((List.range' i (n - i)).all p && fin) := by
  intro d
  induction d with
  | zero =>
   intro i hd hi
   obtain rfl : i = n := by omega
   simpa using he
  | succ d ih =>
   intro i hd hi
   have hlt : i < n := by omega
   have e : List.range' i (n - i) = i :: List.range' (i + 1) (n - (i + 1)) := by
    rw [show n - i = (n - (i + 1)) + 1 by omega,List.range'_succ]
   rw [e,List.all_cons]
   cases hp : p i with
   | true => simpa using hs i hlt hp _ (ih (i + 1) (by omega) (by omega))
   | false => simpa using hf i hlt hp
 have := key n 0 (by omega) (by omega)
 rw [List.range_eq_range']
 simpa using this

/-- A loop that carries something on, through all places. -/
theorem ev_steps {β ρ : Type} {L : Nat → β → Int → Option ρ} {n : Nat} (B : Nat → β) (hs : ∀ i : Nat,i < n → ∀ r,Ev (fun k => L k (B (i + 1)) ((i + 1 : Nat) : Int)) r → Ev (fun k => L k (B i) (i : Int)) r)
  {r : ρ} (he : Ev (fun k => L k (B n) (n : Int)) r) : Ev (fun k => L k (B 0) 0) r := by
 have key : ∀ d i,n - i = d → i ≤ n → Ev (fun k => L k (B i) (i : Int)) r := by
  intro d
  induction d with
  | zero =>
   intro i hd hi
   obtain rfl : i = n := by omega
   exact he
  | succ d ih => exact fun i hd hi => hs i (by omega) r (ih (i + 1) (by omega) (by omega))
 simpa using key n 0 (by omega) (by omega)

/-! ### Lists by their places -/
theorem all_range {α : Type} (l : List α) (p : α → Bool) (d : α) : (List.range l.length).all (fun i => p (l.getD i d)) = l.all p := by
 rw [Bool.eq_iff_iff,List.all_eq_true,List.all_eq_true]
 constructor
 ·intro h x hx
  obtain ⟨i,hi,rfl⟩ := List.getElem_of_mem hx
  have := h i (List.mem_range.2 hi)
  simpa [List.getD_eq_getElem?_getD,List.getElem?_eq_getElem hi] using this
 ·intro h i hi
  have hi' := List.mem_range.1 hi
  simpa [List.getD_eq_getElem?_getD,List.getElem?_eq_getElem hi'] using h _ (List.getElem_mem hi')
theorem getD_lt {α : Type} {l : List α} {i : Nat} (d : α) (h : i < l.length) : l.getD i d = l[i] := by simp [List.getD_eq_getElem?_getD,List.getElem?_eq_getElem h]
theorem take_getD {α : Type} {l : List α} {i : Nat} (d : α) (h : i < l.length) : l.take (i + 1) = l.take i ++ [l.getD i d] := by
 rw [getD_lt d h,List.take_succ_eq_append_getElem h]
end Go.Proofs.Ytbokjhdhpmmpfaa.Q
