/- What the reference knows of a machine by kinds alone, and the draws of rules: that they are there for every code, and small. -/
import Derived.Test.YtbokjhdhpmmpfaaHop
import Derived.Test.YtbokjhdhpmmpfaaHdraw
import Derived.Test.YtbokjhdhpmmpfaaQ104
import Derived.Test.YtbokjhdhpmmpfaaQ105
import Derived.Test.YtbokjhdhpmmpfaaQ107
import Derived.Test.YtbokjhdhpmmpfaaQ109
import Derived.Test.YtbokjhdhpmmpfaaQ110
import Derived.Test.YtbokjhdhpmmpfaaQ118
import Derived.Test.YtbokjhdhpmmpfaaQ119
import Derived.Test.YtbokjhdhpmmpfaaQ124
import Derived.Test.YtbokjhdhpmmpfaaQ125
import Derived.Test.YtbokjhdhpmmpfaaQ37
import Derived.Test.YtbokjhdhpmmpfaaQ76
namespace Go.Proofs.Ytbokjhdhpmmpfaa.Q
open Go.RowKit Go.Proofs.YtbokjhdhpmmpfaaW.PrintWords
set_option linter.unusedVariables false
set_option linter.unusedSimpArgs false

def EvP {α : Type} (f : Nat → Option α) (P : α → Prop) : Prop := ∃ r,Ev f r ∧ P r
theorem EvP.now {α : Type} {P : α → Prop} {r : α} (h : P r) : EvP (fun _ => some r) P := ⟨r,Ev.now r,h⟩
theorem EvP.of {α : Type} {P : α → Prop} {f : Nat → Option α} {r : α} (e : Ev f r) (h : P r) : EvP f P := ⟨r,e,h⟩
theorem EvP.bind {α β : Type} {g : Nat → Option α} {f : Nat → α → Option β} {Q : α → Prop} {P : β → Prop} (h : EvP g Q) (k : ∀ a,Q a → EvP (fun n => f n a) P) : EvP (fun n => (g n).bind (f n)) P := by
 obtain ⟨a,ha,hq⟩ := h
 obtain ⟨r,hr,hp⟩ := k a hq
 exact ⟨r,Ev.bind ha hr,hp⟩
theorem EvP.bind0 {α β : Type} {g : Option α} {f : Nat → α → Option β} {Q : α → Prop} {P : β → Prop} (h : ∃ a,g = some a ∧ Q a) (k : ∀ a,Q a → EvP (fun n => f n a) P) : EvP (fun n => g.bind (f n)) P := by
 obtain ⟨a,ha,hq⟩ := h
 obtain ⟨r,hr,hp⟩ := k a hq
 exact ⟨r,Ev.bind0 ha hr,hp⟩
theorem EvP.some {α β : Type} {a : α} {f : Nat → α → Option β} {P : β → Prop} (k : EvP (fun n => f n a) P) : EvP (fun n => (some a).bind (f n)) P := k
theorem EvP.step {α : Type} {g f : Nat → Option α} {P : α → Prop} (h : ∀ k,g (k + 1) = f k) (k : EvP f P) : EvP g P := by
 obtain ⟨r,hr,hp⟩ := k
 exact ⟨r,Ev.step h hr,hp⟩
theorem EvP.pos {α : Type} {c : Prop} [Decidable c] {g f : Nat → Option α} {P : α → Prop} (h : c) (k : EvP g P) : EvP (fun n => if c then g n else f n) P := by
 obtain ⟨r,hr,hp⟩ := k
 exact ⟨r,Ev.ite_pos h hr,hp⟩
theorem EvP.neg {α : Type} {c : Prop} [Decidable c] {g f : Nat → Option α} {P : α → Prop} (h : ¬ c) (k : EvP f P) : EvP (fun n => if c then g n else f n) P := by
 obtain ⟨r,hr,hp⟩ := k
 exact ⟨r,Ev.ite_neg h hr,hp⟩
theorem EvP.ite {α : Type} {c : Prop} [Decidable c] {g f : Nat → Option α} {P : α → Prop} (k : c → EvP g P) (l : ¬ c → EvP f P) : EvP (fun n => if c then g n else f n) P := by
 by_cases h : c
 ·exact EvP.pos h (k h)
 ·exact EvP.neg h (l h)
theorem EvP.mono {α : Type} {f : Nat → Option α} {P Q : α → Prop} (h : EvP f P) (k : ∀ r,P r → Q r) : EvP f Q := by
 obtain ⟨r,hr,hp⟩ := h
 exact ⟨r,hr,k r hp⟩

/-- What a list holds lies below a bound, and is no less than the mark. -/
def Ins (n : Nat) (l : List Int) : Prop := ∀ x ∈ l,-1 ≤ x ∧ x < (n : Int)
abbrev Shp := List Int × List Bool × List Int × List Int × Bool
def ShOk (n : Nat) (s : Shp) : Prop := s.2.1.length = s.1.length ∧ s.2.2.2.1.length = 20 ∧ Ins s.1.length s.2.2.1 ∧ Ins s.1.length s.2.2.2.1 ∧ s.1.length ≤ n ∧ s.2.2.1.length ≤ n
theorem Ins.rd {n : Nat} {l : List Int} (h : Ins n l) (i : Int) (h0 : 0 ≤ i) (h1 : i < l.length) : -1 ≤ rd l i ∧ rd l i < n := h _ (rd_mem l i h0 h1)
theorem Ins.take {n : Nat} {l : List Int} (h : Ins n l) (k : Nat) : Ins n (l.take k) := fun x hx => h x (List.mem_of_mem_take hx)
theorem Ins.mono {n m : Nat} {l : List Int} (h : Ins n l) (e : n ≤ m) : Ins m l := fun x hx => by have := h x hx;omega
theorem Ins.add {n : Nat} {l : List Int} (h : Ins n l) (x : Int) (h0 : -1 ≤ x) (h1 : x < n) : Ins n (l ++ [x]) := by
 intro y hy
 rcases List.mem_append.1 hy with e | e
 ·exact h y e
 ·simp only [List.mem_singleton] at e;subst e;exact ⟨h0,h1⟩
theorem Ins.set {n : Nat} {l : List Int} (h : Ins n l) (i : Nat) (x : Int) (h0 : -1 ≤ x) (h1 : x < n) : Ins n (l.set i x) := by
 intro y hy
 rcases List.mem_or_eq_of_mem_set hy with e | e
 ·exact h y e
 ·subst e;exact ⟨h0,h1⟩

theorem pushShape_ex (K : List Int) (F : List Bool) (S M : List Int) (d : Bool) (c : Int) (n : Nat) (h : ShOk n (K,F,S,M,d)) (hn : n ≤ 1000) :
  ∃ r : Shp,spec_pushShape.f K F S M d c = some r ∧ ShOk (n + 1) r := by
 obtain ⟨h1,h2,h3,h4,h5,h6⟩ := h
 simp only at h1 h2 h3 h4 h5 h6
 unfold spec_pushShape.f
 rw [if_pos (by omega)]
 simp only [Option.bind_some]
 rw [if_pos (by omega),if_pos (by omega)]
 refine ⟨_,rfl,?_⟩
 have e : (K ++ [c]).length = K.length + 1 := by simp
 refine ⟨by simp [h1],by simpa using h2,?_,?_,by simp;omega,by simp;omega⟩
 ·simp only [e]
  rw [w64 (by omega)]
  exact (h3.mono (by omega)).add _ (by omega) (by omega)
 ·simp only [e]
  exact h4.mono (by omega)

theorem shapeAt_ex (K : List Int) (F : List Bool) (S M : List Int) (d : Bool) (p : Int) (n : Nat) (h : ShOk n (K,F,S,M,d)) (hn : n ≤ 1000) (p0 : 0 ≤ p) (p2 : p ≤ 2) :
  ∃ r : Int,spec_shapeAt.f K F S M d p = some r ∧ (0 ≤ r → p < (S.length : Int) ∧ 0 ≤ rd S ((S.length : Int) - 1 - p)) := by
 obtain ⟨h1,h2,h3,h4,h5,h6⟩ := h
 simp only at h1 h2 h3 h4 h5 h6
 unfold spec_shapeAt.f
 rw [w64 (e := (S.length : Int) - 1) (by omega),w64 (by omega)]
 by_cases a : (S.length : Int) - 1 - p < 0
 ·rw [if_pos a];exact ⟨_,rfl,fun z => absurd z (by omega)⟩
 ·rw [if_neg a,if_pos (by omega),if_pos (by omega)]
  have hr := h3.rd ((S.length : Int) - 1 - p) (by omega) (by omega)
  by_cases b : rd S ((S.length : Int) - 1 - p) < 0
  ·rw [if_pos b];exact ⟨_,rfl,fun z => absurd z (by omega)⟩
  ·rw [if_neg b,if_pos (by omega),if_pos (by omega)]
   exact ⟨_,rfl,fun _ => ⟨by omega,by omega⟩⟩

theorem keyKind_ex (a : Int) : ∃ r,spec_keyKind.f a = some r ∧ (r = true → 0 ≤ a) := by
 unfold spec_keyKind.f
 by_cases h : a = 0
 ·rw [if_pos h];exact ⟨_,rfl,fun _ => by omega⟩
 ·rw [if_neg h];exact ⟨_,rfl,fun z => by have := beq_iff_eq.1 z;omega⟩
theorem newKind_ex (a : Int) : ∃ r,spec_newKind.f a = some r := by
 unfold spec_newKind.f
 repeat' (first | exact ⟨_,rfl⟩ | split)
theorem copyInts_ex (l : List Int) (h : l.length ≤ 10000) : spec_copyInts.f l = some l := by
 unfold spec_copyInts.f
 simp only [Option.bind_some,List.nil_append]
 rw [if_pos (by simp;omega)]
theorem copyShapes_ex (K : List Int) (F : List Bool) (S M : List Int) (d : Bool) (n : Nat) (h : ShOk n (K,F,S,M,d)) (hn : n ≤ 1000) : spec_copyShapes.f K F S M d = some (K,F,S,M,d) := by
 obtain ⟨h1,h2,h3,h4,h5,h6⟩ := h
 simp only at h1 h2 h3 h4 h5 h6
 unfold spec_copyShapes.f
 rw [copyInts_ex K (by omega),copyInts_ex S (by omega),copyInts_ex M (by omega)]
 simp only [Option.bind_some,List.nil_append]
 rw [if_pos (by simp;omega)]
theorem newShapes_ev : EvP (fun k => spec_newShapes.f k) (ShOk 0) := by
 refine ⟨([],[],[],List.replicate 20 (-1),false),?_,rfl,by simp,by intro x hx;simp at hx,?_,Nat.le_refl _,Nat.le_refl _⟩
 ·refine Ev.of (k := 30) (fun k => spec_newShapes.mono k) ?_
  decide +kernel
 ·intro x hx
  have := List.eq_of_mem_replicate hx
  subst this
  exact ⟨by omega,by simp⟩

/-- Shapes and a yes or no: if it is yes, the shapes are right. -/
abbrev Shq := List Int × List Bool × List Int × List Int × Bool × Bool
def ShR (n : Nat) (r : Shq) : Prop := r.2.2.2.2.2 = true → ShOk n (r.1,r.2.1,r.2.2.1,r.2.2.2.1,r.2.2.2.2.1)

theorem take1_ev (ok : Bool) (m : Int) (K : List Int) (F : List Bool) (S M : List Int) (d : Bool) (n : Nat) (h : ShOk n (K,F,S,M,d)) (hn : n ≤ 1000) (h0 : 0 ≤ m) (h1 : ok = true → m ≤ S.length) :
  EvP (fun k => spec_takeShapes.j1 k ok m K F S M d) (ShR n) := by
 have hh := h
 obtain ⟨g1,g2,g3,g4,g5,g6⟩ := h
 simp only at g1 g2 g3 g4 g5 g6
 cases ok with
 | false => exact EvP.step (f := fun k => some (K,F,S,M,d,false)) (fun k => by simp only [spec_takeShapes.j1];rw [if_neg (by decide)]) (EvP.now (fun z => absurd z (by simp)))
 | true =>
  have h1 := h1 rfl
  refine EvP.step (f := fun k => some (K,F,S.take ((S.length : Int) - m).toNat,M,d,true)) (fun k => ?_) (EvP.now (fun _ => ⟨g1,g2,g3.take _,g4,g5,by simp;omega⟩))
  simp only [spec_takeShapes.j1]
  rw [if_pos trivial,w64 (by omega),if_pos (by omega),if_pos (by omega)]

theorem take0_ev (ok : Bool) (m : Int) (K : List Int) (F : List Bool) (S M : List Int) (d : Bool) (n : Nat) (h : ShOk n (K,F,S,M,d)) (hn : n ≤ 1000) (h0 : 0 ≤ m) (h1 : ok = true → m ≤ S.length ∧ 2 ≤ S.length ∧ 0 ≤ rd S ((S.length : Int) - 2)) :
  EvP (fun k => spec_takeShapes.j0 k ok m K F S M d) (ShR n) := by
 have hh := h
 obtain ⟨g1,g2,g3,g4,g5,g6⟩ := h
 simp only at g1 g2 g3 g4 g5 g6
 refine EvP.step (f := fun k => _) (fun k => by simp only [spec_takeShapes.j0];rfl) ?_
 refine EvP.ite (fun z => ?_) (fun z => take1_ev ok m K F S M d n hh hn h0 (fun y => (h1 y).1))
 obtain ⟨a1,a2,a3⟩ := h1 z
 rw [w64 (by omega)]
 have hr := g3.rd ((S.length : Int) - 2) (by omega) (by omega)
 exact EvP.pos (by omega) (EvP.pos (by omega) (EvP.pos (by omega) (EvP.pos (by omega) (take1_ev ok m K _ S M d n ⟨by simpa using g1,g2,g3,g4,g5,g6⟩ hn h0 (fun _ => a1)))))

/-- An order whose number is a place of the memo where it is one. -/
def argOk (c a : Int) : Prop := (c = 15 ∨ c = 16) → 0 ≤ a ∧ a < 20

theorem takeShapes_ev (K : List Int) (F : List Bool) (S M : List Int) (d : Bool) (c a : Int) (n : Nat) (h : ShOk n (K,F,S,M,d)) (hn : n ≤ 999) (ha : argOk c a) :
  EvP (fun k => spec_takeShapes.f k K F S M d c a) (ShR (n + 1)) := by
 have hh := h
 obtain ⟨g1,g2,g3,g4,g5,g6⟩ := h
 simp only at g1 g2 g3 g4 g5 g6
 have up : ShOk (n + 1) (K,F,S,M,d) := ⟨g1,g2,g3,g4,by simp;omega,by simp;omega⟩
 have no : ∀ d',ShR (n + 1) (K,F,S,M,d',false) := fun d' z => absurd z (by simp)
 unfold spec_takeShapes.f
 refine EvP.bind0 (shapeAt_ex K F S M d 0 n hh (by omega) (by omega) (by omega)) (fun t ht => ?_)
 refine EvP.bind0 (shapeAt_ex K F S M d 1 n hh (by omega) (by omega) (by omega)) (fun u hu => ?_)
 have push : ∀ (m : Int),0 ≤ m → m ≤ S.length → EvP (fun k => (spec_pushShape.f K F (S.take m.toNat) M d 2).bind fun b => some (b.1,b.2.1,b.2.2.1,b.2.2.2.1,b.2.2.2.2,true)) (ShR (n + 1)) := fun m m0 m1 =>
  EvP.bind0 (pushShape_ex K F (S.take m.toNat) M d 2 n ⟨g1,g2,g3.take _,g4,g5,by simp;omega⟩ (by omega)) (fun b hb => EvP.now (fun _ => hb))
 refine EvP.ite (fun c5 => ?_) (fun c5 => EvP.ite (fun c6 => ?_) (fun c6 => EvP.ite (fun c8 => ?_) (fun c8 => EvP.ite (fun c11 => ?_) (fun c11 => EvP.ite (fun c14 => ?_) (fun c14 => EvP.ite (fun c15 => ?_) (fun c15 => EvP.ite (fun c19 => ?_) (fun c19 => ?_)))))))
 ·refine EvP.ite (fun t0 => ?_) (fun _ => EvP.now (no _))
  have := ht t0
  rw [w64 (by omega)]
  exact EvP.pos (by omega) (EvP.pos (by omega) (push _ (by omega) (by omega)))
 ·refine EvP.ite (fun t0 => EvP.ite (fun _ => EvP.now (no _)) (fun u0 => ?_)) (fun _ => EvP.now (no _))
  have := hu (by omega)
  rw [w64 (by omega)]
  exact EvP.pos (by omega) (EvP.pos (by omega) (push _ (by omega) (by omega)))
 ·refine EvP.ite (fun t0 => take1_ev _ _ K F S M d _ up (by omega) (by omega) (fun z => ?_)) (fun _ => take1_ev _ _ K F S M d _ up (by omega) (by omega) (fun z => absurd z (by simp)))
  have := ht t0
  omega
 ·refine EvP.ite (fun t0 => EvP.bind0 (keyKind_ex u) (fun b hb => EvP.ite (fun z => ?_) (fun _ => ?_))) (fun _ => ?_)
  ·refine EvP.bind0 (shapeAt_ex K F S M d 2 n hh (by omega) (by omega) (by omega)) (fun v hv => take1_ev _ _ K F S M d _ up (by omega) (by omega) (fun _ => ?_))
   have := hu (hb z)
   omega
  all_goals exact take1_ev _ _ K F S M d _ up (by omega) (by omega) (fun z => absurd z (by simp))
 ·refine EvP.ite (fun t0 => EvP.ite (fun u5 => ?_) (fun _ => ?_)) (fun _ => ?_)
  ·have hu' := hu (by omega)
   rw [w64 (by omega)]
   rw [show (S.length : Int) - 1 - 1 = (S.length : Int) - 2 by omega] at hu'
   have hr := g3.rd ((S.length : Int) - 2) (by omega) (by omega)
   exact EvP.pos (by omega) (EvP.pos (by omega) (EvP.pos (by omega) (EvP.pos (by omega) (take0_ev _ _ K F S M d _ up (by omega) (by omega) (fun _ => ⟨by omega,by omega,by omega⟩)))))
  all_goals exact take0_ev _ _ K F S M d _ up (by omega) (by omega) (fun z => absurd z (by simp))
 ·refine EvP.ite (fun t0 => ?_) (fun t0 => take1_ev _ _ K F S M d _ up (by omega) (by omega) (fun z => by omega))
  have := ht t0
  have ha' := ha (.inl c15)
  rw [w64 (by omega)]
  have hr := g3.rd ((S.length : Int) - 1) (by omega) (by omega)
  exact EvP.pos (by omega) (EvP.pos (by omega) (EvP.pos (by omega) (EvP.pos (by omega) (take1_ev _ _ K F S _ d _ ⟨g1,by simpa using g2,g3,g4.set _ _ (by omega) (by omega),by simp;omega,by simp;omega⟩ (by omega) (by omega) (fun z => by omega)))))
 ·have up' : ShOk (n + 1) (K,F,S,M,true) := up
  exact EvP.ite (fun t0 => take1_ev _ _ K F S M true _ up' (by omega) (by omega) (fun z => by omega)) (fun _ => take1_ev _ _ K F S M true _ up' (by omega) (by omega) (fun z => by omega))
 ·refine take1_ev _ _ K F S M d _ up (by omega) (by omega) (fun z => ?_)
  have := ht (of_decide_eq_true z)
  omega

theorem mark1l_ev (L : List Int) (K : List Int) (F : List Bool) (S M : List Int) (d : Bool) (n : Nat) (h : ShOk n (K,F,S,M,d)) (hn : n ≤ 1000) (hl : L.length ≤ 1000) (hL : ∀ x ∈ L,0 ≤ x ∧ x < (K.length : Int)) :
  ∀ (q : Nat) (i : Int),0 ≤ i → (L.length : Int) - i ≤ q → i ≤ 2000 → EvP (fun k => spec_markShapes.l1 k L i K F S M d) (ShR n)
 | 0,i,i0,hq,i1 => by
  refine EvP.step (f := fun k => _) (fun k => by simp only [spec_markShapes.l1];rfl) ?_
  refine EvP.neg (by omega) (EvP.bind0 (shapeAt_ex K F S M d 0 n h (by omega) (by omega) (by omega)) (fun v _ => EvP.ite (fun _ => EvP.now (fun _ => h)) (fun _ => EvP.now (fun _ => h))))
 | q + 1,i,i0,hq,i1 => by
  refine EvP.step (f := fun k => _) (fun k => by simp only [spec_markShapes.l1];rfl) ?_
  refine EvP.ite (fun lt => ?_) (fun _ => EvP.bind0 (shapeAt_ex K F S M d 0 n h (by omega) (by omega) (by omega)) (fun v _ => EvP.ite (fun _ => EvP.now (fun _ => h)) (fun _ => EvP.now (fun _ => h))))
  have hm := hL _ (rd_mem L i i0 lt)
  rw [w64 (by omega)]
  exact EvP.pos i0 (EvP.pos hm.1 (EvP.pos hm.2 (EvP.bind0 (keyKind_ex _) (fun b _ => EvP.ite (fun _ => mark1l_ev L K F S M d n h hn hl hL q (i + 2) (by omega) (by omega) (by omega)) (fun _ => EvP.now (fun _ => h))))))

theorem mark1_ev (K : List Int) (F : List Bool) (S M : List Int) (d : Bool) (c i : Int) (n : Nat) (h : ShOk n (K,F,S,M,d)) (hn : n ≤ 999) (i0 : -1 ≤ i) (i1 : i < S.length) (hi : ∀ j : Nat,i < (j : Int) → j < S.length → 0 ≤ S.getD j 0) :
  EvP (fun k => spec_markShapes.j1 k c i K F S M d) (ShR (n + 1)) := by
 have hh := h
 obtain ⟨g1,g2,g3,g4,g5,g6⟩ := h
 simp only at g1 g2 g3 g4 g5 g6
 have no : ∀ (d' : Bool) (S' : List Int),ShR (n + 1) (K,F,S',M,d',false) := fun d' S' z => absurd z (by simp)
 refine EvP.step (f := fun k => _) (fun k => by simp only [spec_markShapes.j1];rfl) ?_
 refine EvP.ite (fun _ => EvP.now (no _ _)) (fun p => ?_)
 rw [w64 (by omega)]
 refine EvP.pos (by omega) (EvP.pos (by omega) (EvP.bind0 (Q := fun L => L = S.drop (i + 1).toNat) ⟨_,copyInts_ex _ (by simp;omega),rfl⟩ (fun L hL => ?_)))
 refine EvP.pos (by omega) (EvP.pos (by omega) (EvP.some ?_))
 have hs : ShOk n (K,F,S.take i.toNat,M,d) := ⟨g1,g2,g3.take _,g4,g5,by simp;omega⟩
 have hs' : ShOk (n + 1) (K,F,S.take i.toNat,M,d) := ⟨g1,g2,g3.take _,g4,by simp;omega,by simp;omega⟩
 refine EvP.ite (fun _ => EvP.bind0 (pushShape_ex K F _ M d 2 n hs (by omega)) (fun b hb => EvP.now (fun _ => hb))) (fun _ => EvP.ite (fun _ => EvP.bind0 (shapeAt_ex K F _ M d 0 n hs (by omega) (by omega) (by omega)) (fun b hb => EvP.now (fun _ => hs'))) (fun _ => EvP.ite (fun _ => ?_) (fun _ => EvP.now (fun _ => hs'))))
 refine mark1l_ev L K F _ M d (n + 1) hs' (by omega) ?_ ?_ 1000 0 (by omega) ?_ (by omega)
 ·rw [hL];simp;omega
 ·intro x hx
  have hm : x ∈ S := by rw [hL] at hx;exact List.mem_of_mem_drop hx
  refine ⟨?_,(g3 x hm).2⟩
  rw [hL] at hx
  obtain ⟨j,hj,rfl⟩ := List.getElem_of_mem hx
  rw [List.getElem_drop]
  simp only [List.length_drop] at hj
  have := hi ((i + 1).toNat + j) (by omega) (by omega)
  rwa [getD_lt _ (by omega)] at this
 ·rw [hL];simp;omega

theorem mark0_ev (K : List Int) (F : List Bool) (S M : List Int) (d : Bool) (c : Int) (n : Nat) (h : ShOk n (K,F,S,M,d)) (hn : n ≤ 999) :
  ∀ (q : Nat) (i : Int),i < q → -1 ≤ i → i < S.length → (∀ j : Nat,i < (j : Int) → j < S.length → 0 ≤ S.getD j 0) → EvP (fun k => spec_markShapes.l0 k c i K F S M d) (ShR (n + 1))
 | q,i,hq,i0,i1,hi => by
  have hlen : S.length ≤ n := h.2.2.2.2.2
  refine EvP.step (f := fun k => _) (fun k => by simp only [spec_markShapes.l0];rfl) ?_
  refine EvP.ite (fun p => ?_) (fun _ => mark1_ev K F S M d c i n h hn i0 i1 hi)
  refine EvP.pos p (EvP.pos i1 (EvP.ite (fun r => ?_) (fun _ => mark1_ev K F S M d c i n h hn i0 i1 hi)))
  rw [w64 (by omega)]
  obtain ⟨q',rfl⟩ : ∃ q',q = q' + 1 := ⟨q - 1,by omega⟩
  refine mark0_ev K F S M d c n h hn q' (i - 1) (by omega) (by omega) (by omega) (fun j hj hj' => ?_)
  by_cases e : (j : Int) = i
  ·subst e
   simpa [rd] using r
  ·exact hi j (by omega) hj'
termination_by q => q
theorem markShapes_ev (K : List Int) (F : List Bool) (S M : List Int) (d : Bool) (c : Int) (n : Nat) (h : ShOk n (K,F,S,M,d)) (hn : n ≤ 999) : EvP (fun k => spec_markShapes.f k K F S M d c) (ShR (n + 1)) := by
 have hlen : S.length ≤ n := h.2.2.2.2.2
 unfold spec_markShapes.f
 rw [w64 (by omega)]
 exact mark0_ev K F S M d c n h hn (S.length + 1) _ (by omega) (by omega) (by omega) (fun j a b => by omega)

def ShQ (r : Shq) : Prop := r.2.2.2.2.2 = true → ShOk 300 (r.1,r.2.1,r.2.2.1,r.2.2.2.1,r.2.2.2.2.1)
theorem cutTo (K : List Int) (F : List Bool) (S M : List Int) (d b : Bool) (n : Nat) (h : b = true → ShOk n (K,F,S,M,d)) : EvP (fun _ => if b = true then (if (K.length : Int) ≤ 300 then some (K,F,S,M,d,decide ((S.length : Int) ≤ 300)) else some (K,F,S,M,d,false)) else some (K,F,S,M,d,false)) ShQ := by
 refine EvP.ite (fun z => EvP.ite (fun a => EvP.now (fun e => ?_)) (fun _ => EvP.now (fun e => absurd e (by simp)))) (fun _ => EvP.now (fun e => absurd e (by simp)))
 obtain ⟨g1,g2,g3,g4,g5,g6⟩ := h z
 have := of_decide_eq_true e
 exact ⟨g1,g2,g3,g4,by simp;omega,by simp;omega⟩
theorem step1_ev (K : List Int) (F : List Bool) (S M : List Int) (d b : Bool) (n : Nat) (h : b = true → ShOk n (K,F,S,M,d)) : EvP (fun k => spec_stepShapes.j1 k b K F S M d) ShQ :=
 EvP.step (fun k => by simp only [spec_stepShapes.j1]) (cutTo K F S M d b n h)
theorem step0_ev (x : Bool) (K : List Int) (F : List Bool) (S M : List Int) (d : Bool) (c a : Int) (n : Nat) (h : ShOk n (K,F,S,M,d)) (hn : n ≤ 999) (ha : argOk c a) :
  EvP (fun k => spec_stepShapes.j0 k x K F S M d c a) ShQ := by
 refine EvP.step (f := fun k => _) (fun k => by simp only [spec_stepShapes.j0];rfl) ?_
 refine EvP.ite (fun _ => EvP.bind (markShapes_ev K F S M d c n h hn) (fun r hr => step1_ev _ _ _ _ _ _ (n + 1) hr)) (fun _ => EvP.bind (takeShapes_ev K F S M d c a n h hn ha) (fun r hr => step1_ev _ _ _ _ _ _ (n + 1) hr))
theorem stepShapes_ev (K : List Int) (F : List Bool) (S M : List Int) (d : Bool) (c a : Int) (n : Nat) (h : ShOk n (K,F,S,M,d)) (hn : n ≤ 999) (ha : argOk c a) :
  EvP (fun k => spec_stepShapes.f k K F S M d c a) ShQ := by
 have hh := h
 obtain ⟨g1,g2,g3,g4,g5,g6⟩ := h
 simp only at g1 g2 g3 g4 g5 g6
 have no : ShQ (K,F,S,M,d,false) := fun z => absurd z (by simp)
 have jn := fun x => step0_ev x K F S M d c a n hh hn ha
 unfold spec_stepShapes.f
 refine EvP.ite (fun _ => EvP.now no) (fun _ => EvP.bind0 (Q := fun _ => True) (by obtain ⟨r,hr⟩ := newKind_ex c;exact ⟨r,hr,trivial⟩) (fun t _ => EvP.ite (fun _ => ?_) (fun _ => EvP.ite (fun c2 => ?_) (fun _ => EvP.ite (fun c16 => ?_) (fun _ => ?_)))))
 ·refine EvP.bind0 (Q := fun _ => True) (by obtain ⟨r,hr⟩ := newKind_ex c;exact ⟨r,hr,trivial⟩) (fun u _ => EvP.bind0 (pushShape_ex K F S M d u n hh (by omega)) (fun b hb => step1_ev _ _ _ _ _ _ (n + 1) (fun _ => hb)))
 ·exact EvP.pos (by omega) (step1_ev _ _ _ _ _ _ (n + 1) (fun _ => ⟨g1,g2,g3.add _ (by omega) (by omega),g4,by simp;omega,by simp;omega⟩))
 ·have ha' := ha (.inr c16)
  have hr := g4.rd a (by omega) (by omega)
  exact EvP.pos (by omega) (EvP.pos (by omega) (EvP.ite (fun _ => EvP.now no) (fun _ => EvP.pos (by omega) (step1_ev _ _ _ _ _ _ (n + 1) (fun _ => ⟨g1,g2,g3.add _ (by omega) (by omega),g4,by simp;omega,by simp;omega⟩)))))
 ·exact EvP.ite (fun _ => jn _) (fun _ => EvP.ite (fun _ => jn _) (fun _ => EvP.ite (fun _ => jn _) (fun _ => jn _)))

/-! ### Rounds over orders -/
def ArgsOk (l : List Op) : Prop := ∀ o ∈ l,argOk o.f0 o.f1
theorem ArgsOk.at {l : List Op} (h : ArgsOk l) (i : Int) (h0 : 0 ≤ i) (h1 : i < l.length) : argOk (rd_T75 l i).f0 (rd_T75 l i).f1 := by
 obtain ⟨j,rfl⟩ := Int.eq_ofNat_of_zero_le h0
 rw [show ((j : Nat) : Int) = (j : Int) from rfl,rdO,getD_lt _ (by omega)]
 exact h _ (List.getElem_mem _)
theorem ArgsOk.take {l : List Op} (h : ArgsOk l) (k : Nat) : ArgsOk (l.take k) := fun x hx => h x (List.mem_of_mem_take hx)
theorem ArgsOk.app {l m : List Op} (h : ArgsOk l) (k : ArgsOk m) : ArgsOk (l ++ m) := fun x hx => (List.mem_append.1 hx).elim (h x) (k x)
theorem ArgsOk.of_valid {l : List Op} (h : vOps l = true) : ArgsOk l := by
 intro o ho
 unfold vOps at h
 simp only [Bool.and_eq_true] at h
 have := List.all_eq_true.1 h.1 o ho
 unfold okOp most at this
 simp only [Bool.and_eq_true,decide_eq_true_eq] at this
 intro c
 have h2 := this.2
 rcases c with c | c
 ·rw [c] at h2;simp at h2;omega
 ·rw [c] at h2;simp at h2;omega
abbrev ShN := List Int × List Bool × List Int × List Int × Bool × Int
def RunR (l : List Op) (r : ShN) : Prop := ShOk 300 (r.1,r.2.1,r.2.2.1,r.2.2.2.1,r.2.2.2.2.1) ∧ 0 ≤ r.2.2.2.2.2 ∧ r.2.2.2.2.2 ≤ l.length
theorem runl_ev (l : List Op) (hl : l.length ≤ 100000) (ho : ArgsOk l) : ∀ (q : Nat) (i : Int) (K : List Int) (F : List Bool) (S M : List Int) (d : Bool),0 ≤ i → i ≤ l.length → (l.length : Int) - i ≤ q → ShOk 300 (K,F,S,M,d) →
  EvP (fun k => spec_runShapes.l0 k l i K F S M d) (RunR l)
 | q,i,K,F,S,M,d,i0,i1,hq,h => by
  refine EvP.step (f := fun k => _) (fun k => by simp only [spec_runShapes.l0];rfl) ?_
  refine EvP.ite (fun lt => ?_) (fun _ => EvP.now ⟨h,by simp,by simp⟩)
  refine EvP.bind0 (Q := fun b => b = (K,F,S,M,d)) ⟨_,copyShapes_ex K F S M d 300 h (by omega),rfl⟩ (fun b hb => ?_)
  subst hb
  refine EvP.pos i0 (EvP.bind (stepShapes_ev K F S M d _ _ 300 h (by omega) (ho.at i i0 lt)) (fun r hr => EvP.ite (fun z => ?_) (fun _ => EvP.now ⟨h,i0,i1⟩)))
  rw [w64 (by omega)]
  obtain ⟨q',rfl⟩ : ∃ q',q = q' + 1 := ⟨q - 1,by omega⟩
  exact runl_ev l hl ho q' (i + 1) _ _ _ _ _ (by omega) (by omega) (by omega) (hr z)
termination_by q => q
theorem ShOk.mono {n m : Nat} {s : Shp} (h : ShOk n s) (e : n ≤ m) : ShOk m s := ⟨h.1,h.2.1,h.2.2.1,h.2.2.2.1,Nat.le_trans h.2.2.2.2.1 e,Nat.le_trans h.2.2.2.2.2 e⟩
theorem runShapes_ev (l : List Op) (hl : l.length ≤ 100000) (ho : ArgsOk l) : EvP (fun k => spec_runShapes.f k l) (RunR l) := by
 unfold spec_runShapes.f
 exact EvP.bind newShapes_ev (fun b hb => runl_ev l hl ho l.length 0 _ _ _ _ _ (by omega) (by omega) (by omega) (hb.mono (by omega)))

/-! ### Ends, cuts, depths, classes -/
/-- Orders without a place of the memo. -/
def OutR (n : Nat) (r : List Op) : Prop := ArgsOk r ∧ r.length ≤ n
theorem OutR.add {n : Nat} {r : List Op} (h : OutR n r) (o : Op) (ho : argOk o.f0 o.f1) : OutR (n + 1) (r ++ [o]) :=
 ⟨h.1.app (fun x hx => by simp only [List.mem_singleton] at hx;subst hx;exact ho),by have := h.2;simp;omega⟩
theorem argOk_of {c a : Int} (h : c ≠ 15 ∧ c ≠ 16) : argOk c a := fun z => absurd z (by omega)
theorem OutR.mono {n m : Nat} {r : List Op} (h : OutR n r) (e : n ≤ m) : OutR m r := ⟨h.1,Nat.le_trans h.2 e⟩
abbrev EndR (r : List Op × Bool) : Prop := OutR 3000 r.1

theorem end6_ev (l : List Op) (hl : l.length ≤ 20000) (ho : ArgsOk l) (t : Int) (t0 : 0 ≤ t) (t1 : t ≤ l.length) (out : List Op) (h : OutR 2000 out) : EvP (fun k => spec_EndOps.j6 k l t out) EndR := by
 have hlen := h.2
 refine EvP.step (f := fun k => _) (fun k => by simp only [spec_EndOps.j6];rfl) ?_
 refine EvP.pos (by omega) (EvP.some (EvP.some (EvP.pos t0 (EvP.pos t1 (EvP.some (EvP.pos (by first | (simp;done) | (simp;omega)) (EvP.some (EvP.pos (by first | (simp;done) | (simp;omega)) (EvP.some ?_)))))))))
 have h1 := h.add ⟨19,0⟩ (argOk_of (by decide))
 have ha : ArgsOk ([] ++ l.take t.toNat ++ (out ++ [⟨19,0⟩])) := by
  rw [List.nil_append]
  exact (ho.take _).app h1.1
 refine EvP.bind (runShapes_ev _ (by simp;omega) ha) (fun r hr => EvP.bind (EvP.of (validOps_ev _ (by simp;omega)) (P := fun _ => True) trivial) (fun b _ => EvP.ite (fun _ => EvP.ite (fun _ => EvP.now ⟨fun x hx => by simp at hx,by simp⟩) (fun _ => EvP.now (h1.mono (by omega)))) (fun _ => EvP.now ⟨fun x hx => by simp at hx,by simp⟩)))
theorem end3l_ev (l : List Op) (hl : l.length ≤ 20000) (ho : ArgsOk l) (t : Int) (t0 : 0 ≤ t) (t1 : t ≤ l.length) (x : Int) (hx : x ≤ 1000) : ∀ (q : Nat) (i : Int) (out : List Op),0 ≤ i → x - i ≤ q → OutR (1999 - q) out → q ≤ 1000 → EvP (fun k => spec_EndOps.l3 k l t out x i) EndR
 | q,i,out,i0,hq,h,q0 => by
  have hlen := h.2
  refine EvP.step (f := fun k => _) (fun k => by simp only [spec_EndOps.l3];rfl) ?_
  refine EvP.ite (fun lt => EvP.pos (by omega) ?_) (fun _ => EvP.ite (fun _ => EvP.pos (by omega) (end6_ev l hl ho t t0 t1 _ ((h.add ⟨4,0⟩ (argOk_of (by decide))).mono (by omega)))) (fun _ => end6_ev l hl ho t t0 t1 _ (h.mono (by omega))))
  rw [w64 (by omega)]
  obtain ⟨q',rfl⟩ : ∃ q',q = q' + 1 := ⟨q - 1,by omega⟩
  exact end3l_ev l hl ho t t0 t1 x hx q' (i + 1) _ (by omega) (by omega) ((h.add ⟨6,0⟩ (argOk_of (by decide))).mono (by omega)) (by omega)
termination_by q => q
theorem end3_ev (l : List Op) (hl : l.length ≤ 20000) (ho : ArgsOk l) (t : Int) (t0 : 0 ≤ t) (t1 : t ≤ l.length) (out : List Op) (h : OutR 400 out) (m x : Int) (x0 : 0 ≤ x) (hx : x ≤ 900) : EvP (fun k => spec_EndOps.j3 k l t out m x) EndR := by
 have j4 : ∀ y : Int,y ≤ 1000 → EvP (fun k => spec_EndOps.j4 k l t out y) EndR := fun y hy =>
  EvP.step (f := fun k => _) (fun k => by simp only [spec_EndOps.j4]) (end3l_ev l hl ho t t0 t1 y hy 1000 1 out (by omega) (by omega) (h.mono (by omega)) (by omega))
 refine EvP.step (f := fun k => _) (fun k => by simp only [spec_EndOps.j3];rfl) ?_
 refine EvP.ite (fun _ => ?_) (fun _ => j4 _ (by omega))
 rw [w64 (by omega)]
 exact j4 _ (by omega)
theorem end2_ev (l : List Op) (hl : l.length ≤ 20000) (ho : ArgsOk l) (t : Int) (t0 : 0 ≤ t) (t1 : t ≤ l.length) (out : List Op) (h : OutR 400 out) (m : Int) (K : List Int) (F : List Bool) (S M : List Int) (d : Bool) (hS : S.length ≤ 300) :
  ∀ (q : Nat) (x : Int),0 ≤ x → x ≤ S.length → (S.length : Int) - x ≤ q → EvP (fun k => spec_EndOps.l2 k l t out m x K F S M d) EndR
 | q,x,x0,x1,hq => by
  have fin := end3_ev l hl ho t t0 t1 out h m x x0 (by omega)
  refine EvP.step (f := fun k => _) (fun k => by simp only [spec_EndOps.l2];rfl) ?_
  refine EvP.ite (fun lt => EvP.pos x0 (EvP.ite (fun _ => ?_) (fun _ => fin))) (fun _ => fin)
  rw [w64 (by omega)]
  obtain ⟨q',rfl⟩ : ∃ q',q = q' + 1 := ⟨q - 1,by omega⟩
  exact end2_ev l hl ho t t0 t1 out h m K F S M d hS q' (x + 1) (by omega) (by omega) (by omega)
termination_by q => q
theorem end1_ev (l : List Op) (hl : l.length ≤ 20000) (ho : ArgsOk l) (t : Int) (t0 : 0 ≤ t) (t1 : t ≤ l.length) (m : Int) (hm : m ≤ 300) (K : List Int) (F : List Bool) (S M : List Int) (d : Bool) (hS : S.length ≤ 300) :
  ∀ (q : Nat) (i : Int) (out : List Op),0 ≤ i → m - i ≤ q → q ≤ 300 → OutR (400 - q) out → EvP (fun k => spec_EndOps.l1 k l t out m i K F S M d) EndR
 | q,i,out,i0,hq,q0,h => by
  have hlen := h.2
  refine EvP.step (f := fun k => _) (fun k => by simp only [spec_EndOps.l1];rfl) ?_
  refine EvP.ite (fun lt => EvP.pos (by omega) ?_) (fun _ => end2_ev l hl ho t t0 t1 out (h.mono (by omega)) m K F S M d hS 300 0 (by omega) (by omega) (by omega))
  rw [w64 (by omega)]
  obtain ⟨q',rfl⟩ : ∃ q',q = q' + 1 := ⟨q - 1,by omega⟩
  exact end1_ev l hl ho t t0 t1 m hm K F S M d hS q' (i + 1) _ (by omega) (by omega) (by omega) ((h.add ⟨3,0⟩ (argOk_of (by decide))).mono (by omega))
termination_by q => q
theorem end0_ev (l : List Op) (hl : l.length ≤ 20000) (ho : ArgsOk l) (t : Int) (t0 : 0 ≤ t) (t1 : t ≤ l.length) (K : List Int) (F : List Bool) (S M : List Int) (d : Bool) (hS : S.length ≤ 300) :
  ∀ (q : Nat) (m x : Int),0 ≤ x → 0 ≤ m → m ≤ x → x ≤ S.length → (S.length : Int) - x ≤ q → EvP (fun k => spec_EndOps.l0 k l t ([] : List Op) m x K F S M d) EndR
 | q,m,x,x0,m0,m1,x1,hq => by
  refine EvP.step (f := fun k => _) (fun k => by simp only [spec_EndOps.l0];rfl) ?_
  refine EvP.ite (fun lt => EvP.pos x0 ?_) (fun _ => end1_ev l hl ho t t0 t1 m (by omega) K F S M d hS 300 0 [] (by omega) (by omega) (by omega) ⟨fun x hx => by simp at hx,by simp⟩)
  rw [w64 (e := x + 1) (by omega),w64 (by omega)]
  obtain ⟨q',rfl⟩ : ∃ q',q = q' + 1 := ⟨q - 1,by omega⟩
  exact EvP.ite (fun _ => end0_ev l hl ho t t0 t1 K F S M d hS q' (m + 1) (x + 1) (by omega) (by omega) (by omega) (by omega) (by omega)) (fun _ => end0_ev l hl ho t t0 t1 K F S M d hS q' m (x + 1) (by omega) (by omega) (by omega) (by omega) (by omega))
termination_by q => q
theorem EndOps_ev (l : List Op) (hl : l.length ≤ 20000) : EvP (fun k => spec_EndOps.f k l) EndR := by
 unfold spec_EndOps.f
 refine EvP.bind (EvP.of (validOps_ev l (by omega)) (P := fun b => b = vOps l) rfl) (fun b hb => EvP.ite (fun z => ?_) (fun _ => EvP.now ⟨fun x hx => by simp at hx,by simp⟩))
 subst hb
 have ho := ArgsOk.of_valid z
 refine EvP.bind (runShapes_ev l (by omega) ho) (fun r hr => EvP.some (EvP.ite (fun _ => EvP.now ⟨fun x hx => by simp at hx,by simp⟩) (fun _ => ?_)))
 have hS : r.2.2.1.length ≤ 300 := hr.1.2.2.2.2.2
 exact end0_ev l hl ho _ hr.2.1 hr.2.2 _ _ _ _ _ hS 300 0 0 (by omega) (by omega) (by omega) (by omega) (by omega)
theorem CutOps_ev (l : List Op) (hl : l.length ≤ 20000) : EvP (fun k => spec_CutOps.f k l) (OutR l.length) := by
 unfold spec_CutOps.f
 refine EvP.bind (EvP.of (validOps_ev l (by omega)) (P := fun b => b = vOps l) rfl) (fun b hb => EvP.ite (fun z => ?_) (fun _ => EvP.now ⟨fun x hx => by simp at hx,by simp⟩))
 subst hb
 have ho := ArgsOk.of_valid z
 refine EvP.bind (runShapes_ev l (by omega) ho) (fun r hr => EvP.some (EvP.pos hr.2.1 (EvP.pos hr.2.2 (EvP.some (EvP.pos (by simp;omega) (EvP.now ?_))))))
 exact ⟨by rw [List.nil_append];exact ho.take _,by simp;omega⟩
theorem depths_ev (l : List Op) (hl : l.length ≤ 20000) (ho : ArgsOk l) (n : Int) (hn : n ≤ l.length) : ∀ (q : Nat) (i : Int) (out : List Int),1 ≤ i → i ≤ n + 1 → n - i < q → q ≤ 20001 → out.length + q ≤ 30000 → EvP (fun k => spec_DepthsOf.l0 k l out n i) (fun r => r.length ≤ 30000)
 | q,i,out,i0,i1,hq,hq',h => by
  refine EvP.step (f := fun k => _) (fun k => by simp only [spec_DepthsOf.l0];rfl) ?_
  refine EvP.ite (fun le => EvP.pos (by omega) (EvP.pos (by omega) ?_)) (fun _ => EvP.now (by omega))
  refine EvP.bind (runShapes_ev _ (by simp;omega) (ho.take _)) (fun r hr => EvP.pos (by omega) ?_)
  rw [w64 (by omega)]
  obtain ⟨q',rfl⟩ : ∃ q',q = q' + 1 := ⟨q - 1,by omega⟩
  exact depths_ev l hl ho n hn q' (i + 1) _ (by omega) (by omega) (by omega) (by omega) (by simp;omega)
termination_by q => q
theorem DepthsOf_ev (l : List Op) (hl : l.length ≤ 20000) : EvP (fun k => spec_DepthsOf.f k l) (fun r => r.length ≤ 30000) := by
 unfold spec_DepthsOf.f
 refine EvP.bind (EvP.of (validOps_ev l (by omega)) (P := fun b => b = vOps l) rfl) (fun b hb => EvP.ite (fun z => ?_) (fun _ => EvP.now (by simp)))
 subst hb
 have ho := ArgsOk.of_valid z
 refine EvP.bind (runShapes_ev l (by omega) ho) (fun r hr => depths_ev l hl ho _ hr.2.2 20001 1 [] (by omega) ?_ ?_ (by omega) (by simp))
 ·have := hr.2.1;omega
 ·have := hr.2.2;omega
theorem class1_ev (l : List Op) (hl : l.length ≤ 20000) (c : Int) (c0 : 0 ≤ c) (c1 : c ≤ 9) (out : List Int) (h : out.length ≤ 10) (nx : ∀ o : List Int,o.length ≤ out.length + 1 → EvP (fun k => spec_ClassesIn.l0 k l o (c + 1)) (fun r => r.length ≤ 10)) : ∀ (p : Nat) (i : Int),0 ≤ i → i ≤ l.length → (l.length : Int) - i ≤ p → EvP (fun k => spec_ClassesIn.l1 k l out c i) (fun r => r.length ≤ 10)
 | p,i,i0,i1,hp => by
  refine EvP.step (f := fun k => _) (fun k => by simp only [spec_ClassesIn.l1];rfl) ?_
  refine EvP.ite (fun lt => EvP.pos i0 ?_) (fun _ => ?_)
  ·rw [w64 (e := i + 1) (by omega),w64 (e := c + 1) (by omega)]
   obtain ⟨p',rfl⟩ : ∃ p',p = p' + 1 := ⟨p - 1,by omega⟩
   have nxt := class1_ev l hl c c0 c1 out h nx p' (i + 1) (by omega) (by omega) (by omega)
   exact EvP.ite (fun _ => EvP.ite (fun _ => EvP.pos (by omega) (nx _ (by simp))) (fun _ => nxt)) (fun _ => nxt)
  ·rw [w64 (e := c + 1) (by omega)]
   exact nx _ (by omega)
termination_by p => p
theorem class0_ev (l : List Op) (hl : l.length ≤ 20000) : ∀ (q : Nat) (c : Int) (out : List Int),0 ≤ c → 10 - c ≤ q → q ≤ 10 → out.length + q ≤ 10 → EvP (fun k => spec_ClassesIn.l0 k l out c) (fun r => r.length ≤ 10)
 | q,c,out,c0,hq,q0,h => by
  refine EvP.step (f := fun k => _) (fun k => by simp only [spec_ClassesIn.l0];rfl) ?_
  refine EvP.ite (fun le => ?_) (fun _ => EvP.now (by omega))
  obtain ⟨q',rfl⟩ : ∃ q',q = q' + 1 := ⟨q - 1,by omega⟩
  exact class1_ev l hl c c0 le out (by omega) (fun o ho => class0_ev l hl q' (c + 1) o (by omega) (by omega) (by omega) (by omega)) l.length 0 (by omega) (by omega) (by omega)
termination_by q => q
theorem ClassesIn_ev (l : List Op) (hl : l.length ≤ 20000) : EvP (fun k => spec_ClassesIn.f k l) (fun r => r.length ≤ 10) := by
 unfold spec_ClassesIn.f
 exact EvP.bind (EvP.of (validOps_ev l (by omega)) (P := fun _ => True) trivial) (fun b _ => EvP.ite (fun _ => class0_ev l hl 10 0 [] (by omega) (by omega) (by omega) (by simp)) (fun _ => EvP.now (by simp)))
abbrev LeastR (r : Int × Int × Int × List Int × Bool) : Prop := r.2.2.2.1.length ≤ 10
theorem least_ev (l : List Op) (hl : l.length ≤ 20000) (D : List Int) (hD : D.length ≤ 30000) (K : List Int) (F : List Bool) (S M : List Int) (d : Bool) : ∀ (q : Nat) (i x : Int),0 ≤ i → (D.length : Int) - i ≤ q → i ≤ D.length → EvP (fun k => spec_LeastRules.l0 k l x D i K F S M d) LeastR
 | q,i,x,i0,hq,i1 => by
  refine EvP.step (f := fun k => _) (fun k => by simp only [spec_LeastRules.l0];rfl) ?_
  refine EvP.ite (fun lt => EvP.pos i0 ?_) (fun _ => EvP.bind (ClassesIn_ev l hl) (fun r hr => EvP.now hr))
  rw [w64 (by omega)]
  obtain ⟨q',rfl⟩ : ∃ q',q = q' + 1 := ⟨q - 1,by omega⟩
  exact least_ev l hl D hD K F S M d q' (i + 1) _ (by omega) (by omega) (by omega)
termination_by q => q
theorem LeastRules_ev (l : List Op) (hl : l.length ≤ 20000) : EvP (fun k => spec_LeastRules.f k l) LeastR := by
 unfold spec_LeastRules.f
 refine EvP.bind (EvP.of (validOps_ev l (by omega)) (P := fun b => b = vOps l) rfl) (fun b hb => EvP.ite (fun z => ?_) (fun _ => EvP.now (by simp)))
 subst hb
 have ho := ArgsOk.of_valid z
 exact EvP.bind (runShapes_ev l (by omega) ho) (fun r hr => EvP.ite (fun _ => EvP.now (by simp)) (fun _ => EvP.bind (DepthsOf_ev l hl) (fun D hD => least_ev l hl D hD _ _ _ _ _ 30000 0 0 (by omega) (by omega) (by omega))))

/-! ### The draws -/
theorem pick_evp (b : List Int) (hb : Code b) (p n : Int) (h0 : 0 ≤ p) (h1 : p ≤ 1000000000) : EvP (fun k => spec_reader_pick.f k b p n) (fun r => r.2 = p + 1 ∧ 0 ≤ r.1 ∧ (1 ≤ n → r.1 < n)) := by
 obtain ⟨r,e,a,c,_⟩ := pick_ev b hb p n h0 h1
 exact ⟨(r,p + 1),Ev.step (f := fun k => some (r,p + 1)) e (Ev.now _),rfl,a,c⟩
theorem one_evp (b : List Int) (hb : Code b) (p : Int) (l : List Int) (h0 : 0 ≤ p) (h1 : p ≤ 1000000000) (hl : 0 < l.length) : EvP (fun k => spec_reader_one.f k b p l) (fun r => r.2 = p + 1 ∧ r.1 ∈ l) := by
 obtain ⟨r,e,a⟩ := one_ev b hb p l h0 h1 hl
 exact ⟨(r,p + 1),Ev.step (f := fun k => some (r,p + 1)) e (Ev.now _),rfl,a⟩
/-- An order drawn, and how far the reader went. -/
abbrev OpR (p : Int) (r : Int × Int × Int) : Prop := argOk r.1 r.2.1 ∧ p ≤ r.2.2 ∧ r.2.2 ≤ p + 3
theorem someOp0_ev (b : List Int) (hb : Code b) (x : Bool) (p c a : Int) (h0 : 0 ≤ p) (h1 : p ≤ 100000) (ha : 0 ≤ a ∧ a < 4) : EvP (fun k => spec_someOp.j0 k x b p c a) (fun r => argOk r.1 r.2.1 ∧ p ≤ r.2.2 ∧ r.2.2 ≤ p + 1) := by
 refine EvP.step (f := fun k => _) (fun k => by simp only [spec_someOp.j0];rfl) ?_
 refine EvP.ite (fun _ => EvP.bind (pick_evp b hb p 4 h0 (by omega)) (fun r hr => EvP.now ⟨fun _ => ⟨hr.2.1,by have := hr.2.2 (by omega);dsimp only;omega⟩,by have := hr.1;dsimp only;omega,by have := hr.1;dsimp only;omega⟩)) (fun _ => EvP.now ⟨fun _ => ⟨ha.1,by dsimp only;omega⟩,by simp,by simp;omega⟩)
theorem someOp_ev (b : List Int) (hb : Code b) (p : Int) (h0 : 0 ≤ p) (h1 : p ≤ 10000) : EvP (fun k => spec_someOp.f k b p) (OpR p) := by
 unfold spec_someOp.f
 refine EvP.bind (pick_evp b hb p 20 h0 (by omega)) (fun r hr => ?_)
 have e := hr.1
 have jn := fun x => (someOp0_ev b hb x r.2 r.1 0 (by omega) (by omega) (by omega)).mono (Q := OpR p) (fun s hs => ⟨hs.1,by omega,by omega⟩)
 refine EvP.ite (fun z => EvP.bind (pick_evp b hb r.2 250 (by omega) (by omega)) (fun s hs => EvP.bind (one_evp b hb s.2 _ (by have := hs.1;omega) (by have := hs.1;omega) (by simp)) (fun u hu => EvP.now ⟨fun y => absurd y (by omega),by have := hs.1;have := hu.1;dsimp only;omega,by have := hs.1;have := hu.1;dsimp only;omega⟩))) (fun _ => EvP.ite (fun _ => jn _) (fun _ => EvP.ite (fun _ => jn _) (fun _ => EvP.ite (fun _ => jn _) (fun _ => jn _))))
abbrev LikeR (p : Int) (r : List Op × Int) : Prop := r.1.length ≤ 5000 ∧ 0 ≤ r.2 ∧ r.2 ≤ p
theorem likely_ev (b : List Int) (hb : Code b) : ∀ (q : Nat) (n : Int) (p : Int) (out : List Op) (K : List Int) (F : List Bool) (S M : List Int) (d : Bool),n ≤ q → q ≤ 100 → 0 ≤ p → p ≤ 2000 - 10 * q → out.length + q ≤ 100 → ShOk 300 (K,F,S,M,d) →
  EvP (fun k => spec_likelyOps.l0 k out n b p K F S M d) (LikeR 2001)
 | q,n,p,out,K,F,S,M,d,hn,hq,p0,p1,hl,h => by
  refine EvP.step (f := fun k => _) (fun k => by simp only [spec_likelyOps.l0];rfl) ?_
  refine EvP.ite (fun pos => ?_) (fun _ => ?_)
  ·obtain ⟨q',rfl⟩ : ∃ q',q = q' + 1 := ⟨q - 1,by omega⟩
   refine EvP.bind (someOp_ev b hb p p0 (by omega)) (fun o ho => ?_)
   have j2 : ∀ (x : Bool) (p' : Int) (K : List Int) (F : List Bool) (S M : List Int) (d : Bool),0 ≤ p' → p' ≤ p + 4 → ShOk 300 (K,F,S,M,d) → EvP (fun k => spec_likelyOps.j2 k out n x b p' K F S M d o.1 o.2.1) (LikeR 2001) := fun x p' K F S M d a0 a1 h => by
    refine EvP.step (f := fun k => _) (fun k => by simp only [spec_likelyOps.j2];rfl) ?_
    rw [w64 (by omega)]
    have add : ∀ p'' : Int,0 ≤ p'' → p'' ≤ p + 5 → EvP (fun k => spec_likelyOps.l0 k (out ++ [⟨o.1,o.2.1⟩]) (n - 1) b p'' K F S M d) (LikeR 2001) := fun p'' c0 c1 => likely_ev b hb q' (n - 1) p'' _ K F S M d (by omega) (by omega) c0 (by omega) (by simp;omega) h
    refine EvP.ite (fun _ => EvP.pos (by omega) (add _ a0 (by omega))) (fun _ => EvP.bind (pick_evp b hb p' 16 a0 (by omega)) (fun r hr => EvP.ite (fun _ => EvP.pos (by omega) (add _ (by have := hr.1;omega) (by have := hr.1;omega))) (fun _ => likely_ev b hb q' (n - 1) _ _ K F S M d (by omega) (by omega) (by have := hr.1;omega) (by have := hr.1;omega) (by omega) h)))
   have j1 : ∀ (x : Bool) (p' : Int),0 ≤ p' → p' ≤ p + 4 → EvP (fun k => spec_likelyOps.j1 k out n x b p' K F S M d o.1 o.2.1) (LikeR 2001) := fun x p' a0 a1 => by
    refine EvP.step (f := fun k => _) (fun k => by simp only [spec_likelyOps.j1];rfl) ?_
    rw [w64 (by omega)]
    refine EvP.ite (fun _ => likely_ev b hb q' (n - 1) _ _ K F S M d (by omega) (by omega) a0 (by omega) (by omega) h) (fun _ => ?_)
    refine EvP.bind0 (Q := fun b => b = (K,F,S,M,d)) ⟨_,copyShapes_ex K F S M d 300 h (by omega),rfl⟩ (fun s hs => ?_)
    subst hs
    exact EvP.bind (stepShapes_ev K F S M d _ _ 300 h (by omega) ho.1) (fun r hr => EvP.ite (fun z => j2 _ _ _ _ _ _ _ a0 a1 (hr z)) (fun _ => j2 _ _ _ _ _ _ _ a0 a1 h))
   have e1 := ho.2.1
   have e2 := ho.2.2
   exact EvP.ite (fun _ => EvP.bind (pick_evp b hb _ 3 (by omega) (by omega)) (fun r hr => j1 _ _ (by have := hr.1;omega) (by have := hr.1;omega))) (fun _ => j1 _ _ (by omega) (by omega))
  ·refine EvP.bind (pick_evp b hb p 2 p0 (by omega)) (fun r hr => ?_)
   have e := hr.1
   have out0 : EvP (fun _ => some (out,r.2)) (LikeR 2001) := EvP.now ⟨by dsimp only;omega,by dsimp only;omega,by dsimp only;omega⟩
   refine EvP.ite (fun _ => EvP.bind (EndOps_ev out (by omega)) (fun x hx => EvP.ite (fun _ => EvP.bind (CutOps_ev out (by omega)) (fun y hy => ?_)) (fun _ => out0))) (fun _ => out0)
   have a := hx.2
   have c := hy.2
   exact EvP.pos (by omega) (EvP.now ⟨by simp;omega,by omega,by omega⟩)
termination_by q => q
theorem likelyOps_ev (b : List Int) (hb : Code b) (p : Int) (p0 : 0 ≤ p) (p1 : p ≤ 10) : EvP (fun k => spec_likelyOps.f k b p) (LikeR 2001) := by
 unfold spec_likelyOps.f
 refine EvP.bind newShapes_ev (fun s hs => EvP.bind (one_evp b hb p _ p0 (by omega) (by simp)) (fun r hr => ?_))
 have e := hr.1
 have m : r.1 = 12 ∨ r.1 = 8 ∨ r.1 = 20 ∨ r.1 = 5 ∨ r.1 = 30 ∨ r.1 = 0 := by simpa using hr.2
 exact likely_ev b hb 30 _ _ _ _ _ _ _ _ (by omega) (by omega) (by omega) (by omega) (by simp) (hs.mono (by omega))
abbrev RuR (r : Int × Int × Int × List Int × Int) : Prop := r.2.2.2.1.length ≤ 10
theorem rules0_ev (b : List Int) (hb : Code b) (p : Int) (p0 : 0 ≤ p) (p1 : p ≤ 10000) (s n d : Int) (c : List Int) (hc : c.length ≤ 10) : EvP (fun k => spec_someRules.j0 k b p s n d c) RuR := by
 refine EvP.step (f := fun k => _) (fun k => by simp only [spec_someRules.j0];rfl) ?_
 refine EvP.bind (pick_evp b hb p 10 p0 (by omega)) (fun r hr => ?_)
 have e := hr.1
 refine EvP.ite (fun _ => EvP.bind (pick_evp b hb _ 3 (by omega) (by omega)) (fun x _ => EvP.now (by simp))) (fun _ => EvP.ite (fun _ => EvP.now hc) (fun _ => EvP.ite (fun _ => EvP.now hc) (fun _ => EvP.ite (fun _ => EvP.now hc) (fun _ => EvP.ite (fun _ => ?_) (fun _ => EvP.now hc)))))
 refine EvP.bind (Q := fun x => x.1.length ≤ 10) ?_ (fun x hx => EvP.now hx)
 unfold spec_reader_one2.f
 refine EvP.bind (pick_evp b hb _ _ (by omega) (by omega)) (fun x hx => EvP.pos hx.2.1 (EvP.pos (hx.2.2 (by simp)) ?_))
 have lt := hx.2.2 (by simp)
 have l2 : (rd_L2 [[1,1],[10],[-1],[]] x.1).length ≤ 10 := by
  have h4 : x.1 = 0 ∨ x.1 = 1 ∨ x.1 = 2 ∨ x.1 = 3 := by simp at lt;have := hx.2.1;omega
  rcases h4 with z | z | z | z <;> rw [z] <;> decide
 exact EvP.bind0 (Q := fun y => y.length ≤ 10) ⟨_,copyInts_ex _ (by omega),l2⟩ (fun y hy => EvP.now hy)
theorem someRules_ev (b : List Int) (hb : Code b) (p : Int) (p0 : 0 ≤ p) (p1 : p ≤ 3000) (l : List Op) (hl : l.length ≤ 20000) : EvP (fun k => spec_someRules.f k b p l) RuR := by
 unfold spec_someRules.f
 refine EvP.bind (pick_evp b hb p 40 p0 (by omega)) (fun r1 h1 => ?_)
 have e1 := h1.1
 refine EvP.bind (one_evp b hb _ _ (by omega) (by omega) (by simp)) (fun r2 h2 => ?_)
 have e2 := h2.1
 refine EvP.bind (pick_evp b hb _ 20 (by omega) (by omega)) (fun r3 h3 => ?_)
 have e3 := h3.1
 refine EvP.bind (one_evp b hb _ _ (by omega) (by omega) (by simp)) (fun r4 h4 => ?_)
 have e4 := h4.1
 refine EvP.bind (pick_evp b hb _ 10 (by omega) (by omega)) (fun r5 h5 => ?_)
 have e5 := h5.1
 refine EvP.bind (one_evp b hb _ _ (by omega) (by omega) (by simp)) (fun r6 h6 => EvP.some ?_)
 have e6 := h6.1
 refine EvP.bind (pick_evp b hb _ 3 (by omega) (by omega)) (fun r7 h7 => ?_)
 have e7 := h7.1
 have pl := rules0_ev b hb r7.2 (by omega) (by omega) r2.1 r4.1 r6.1 [0,1,2] (by simp)
 refine EvP.ite (fun _ => EvP.bind (LeastRules_ev l hl) (fun x hx => EvP.ite (fun _ => rules0_ev b hb _ (by omega) (by omega) _ _ _ _ hx) (fun _ => pl))) (fun _ => pl)
theorem DrawValidRules_ev (l : List Int) (hb : ∀ x ∈ l,(Lit.int .u8 x).wf = true) : EvP (fun k => spec_DrawValidRules.f k l) (fun r => r.2.2.2.length ≤ 10) := by
 unfold spec_DrawValidRules.f
 obtain ⟨c,hc,hcode⟩ := newReader_ev l hb
 refine EvP.bind0 (Q := fun x => x = (c,0)) ⟨_,hc,rfl⟩ (fun x hx => ?_)
 subst hx
 exact EvP.bind (likelyOps_ev c hcode 0 (by omega) (by omega)) (fun y hy => EvP.bind (someRules_ev c hcode _ hy.2.1 (by have := hy.2.2;omega) _ (by have := hy.1;omega)) (fun z hz => EvP.now hz))
end Go.Proofs.Ytbokjhdhpmmpfaa.Q
