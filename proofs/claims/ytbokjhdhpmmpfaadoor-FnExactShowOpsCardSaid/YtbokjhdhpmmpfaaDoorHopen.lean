/- What an argument reads as, told by the printer's kinds: whole numbers, bools, slices of whatever kind, structs of two to four fields of one cell. -/
import Derived.Test.YtbokjhdhpmmpfaaDoorWWords
import Derived.Lib.SmallJoins
import Derived.Deep.Slices
namespace Go.Proofs.YtbokjhdhpmmpfaaDoor.Hopen
open Go.ChangeShapes Go.WideShapes Go.RowKit Go.Joins Go.Deep Go.Proofs.YtbokjhdhpmmpfaaDoorW.PrintWords

/-- Whatever reads as type t is told by d, and good. -/
def Opens {α : Type} (P : Program) (t : TypeId) (d : Kd α) (good : α → Prop) : Prop :=
 ∀ {H : Type} (enc : TypeId × Value → H) (w : World) (base : Nat) (spare : Nat → Bool) (held : Bool) (fuel : Nat) (cs : List Value) (x : DataW H × List MemPlace),
  DataW.trod enc P w base spare held fuel t cs = some x → ∃ a : α,Kd.K d w a cs ∧ good a

theorem opens_int {P : Program} {t : TypeId} {k : IntKind} (ht : P.underlying t = some (.int k)) : Opens P t (Kd.int k) (fun a => (Lit.int k a).wf = true) := by
 intro H enc w base spare held fuel cs x h
 obtain ⟨n,rfl,_,hw⟩ := DataW.trod_int ht h
 exact ⟨n,rfl,hw⟩

theorem opens_bool {P : Program} {t : TypeId} (ht : P.underlying t = some .bool) : Opens P t Kd.bool (fun _ => True) := by
 intro H enc w base spare held fuel cs x h
 cases fuel with
 | zero => simp [DataW.trod] at h
 | succ n =>
  unfold DataW.trod at h
  rw [ht] at h
  split at h <;> simp_all
  rename_i b
  cases b
  ·exact .inl rfl
  ·exact .inr rfl

theorem opens_slice {α : Type} {P : Program} {t e : TypeId} {d : Kd α} {good : α → Prop} (ht : P.underlying t = some (.slice e)) (hsz : P.cellsOf e = d.sz) (h : Opens P e d good) :
  Opens P t (Kd.slice e d) (fun l => l.length ≤ maxLen ∧ ∀ x ∈ l,good x) := by
 classical
 intro H enc w base spare held fuel cs x hx
 rcases open_slice ht hx with ⟨rfl,_⟩ | ⟨a,len,cap,m,n,D,Pl,rfl,hb,hl,hm,hmm,_,hel⟩
 ·exact ⟨[],⟨none,0,rfl,Nat.le_refl _,Kd.C_nil d w⟩,Nat.zero_le _,fun x hx => by cases hx⟩
 ·have hlm : len ≤ m := by rw [hmm];split <;> omega
  have key : ∀ i,i < len → ∃ y : α × List Value,y.2.length = d.sz ∧ d.K w y.1 y.2 ∧ good y.1 ∧ ∀ j u,y.2[j]? = some u → w.cell? (a.add (i * d.sz + j)) = some u := by
   intro i hi
   obtain ⟨cs',h1,h2⟩ := hel i (by omega)
   obtain ⟨z,hz,hg⟩ := h enc w base spare held n cs' _ h2
   obtain ⟨_,hlen,hcell⟩ := World.cells?_some h1
   refine ⟨(z,cs'),d.K_len hz,hz,hg,fun j u hu => ?_⟩
   have hj : j < P.cellsOf e := by rw [← hlen];exact (List.getElem?_eq_some_iff.1 hu).1
   have hc := hcell j hj
   rw [hu] at hc
   rw [← hsz,← Go.Deep.add_add]
   exact hc
  by_cases h0 : len = 0
  ·subst h0
   exact ⟨[],⟨some a,cap,rfl,Nat.zero_le _,rfl,by simp,fun h => absurd h (Nat.lt_irrefl 0)⟩,Nat.zero_le _,fun x hx => by cases hx⟩
  ·obtain ⟨y0,_⟩ := key 0 (by omega)
   haveI : Inhabited (α × List Value) := ⟨y0⟩
   obtain ⟨f,hf⟩ := choose_lt (α := α × List Value) (p := fun i y => y.2.length = d.sz ∧ d.K w y.1 y.2 ∧ good y.1 ∧ ∀ j u,y.2[j]? = some u → w.cell? (a.add (i * d.sz + j)) = some u) key
   have hlen : ((List.range len).map fun i => (f i).1).length = len := by simp
   have hget : ∀ j p,((List.range len).map fun i => (f i).1)[j]? = some p → j < len ∧ p = (f j).1 := by
    intro j p hp
    obtain ⟨hj,hq⟩ := List.getElem?_eq_some_iff.1 hp
    rw [hlen] at hj
    refine ⟨hj,?_⟩
    rw [← hq]
    simp
   refine ⟨(List.range len).map fun i => (f i).1,⟨some a,cap,by rw [hlen],by rw [hlen];exact hl,?_⟩,?_,?_⟩
   ·rw [hlen]
    refine ⟨hlen,by unfold maxLen at hm;omega,fun _ => ⟨a,rfl,fun j p hp => ?_⟩⟩
    obtain ⟨hj,rfl⟩ := hget j p hp
    obtain ⟨h1,h2,_,h4⟩ := hf j hj
    exact ⟨(f j).2,h1,h2,h4⟩
   ·rw [hlen];omega
   ·intro z hz
    obtain ⟨i,hi,rfl⟩ := List.mem_map.1 hz
    exact (hf i (List.mem_range.1 hi)).2.2.1

section
variable {P : Program} {t : TypeId} {f0 f1 f2 f3 : Field} {α β γ δ ε : Type} {a : Kd α} {b : Kd β} {c : Kd γ} {d : Kd δ} {ga : α → Prop} {gb : β → Prop} {gc : γ → Prop} {gd : δ → Prop}

theorem one_cells {H : Type} {enc : TypeId × Value → H} {w : World} {base : Nat} {spare : Nat → Bool} {held : Bool} {n : Nat} {fs : Array Field} {cs : List Value} {y : DataW H × List MemPlace} (hone : oneCellFields P fs = true) (i : Nat) (f : Field) (hf : fs[i]? = some f) (hl : cs.length = fs.size)
  (h : DataW.trod enc P w base spare held n f.type ((cs.drop f.offset).take (P.cellsOf f.type)) = some y) : ∃ v,cs[i]? = some v ∧ DataW.trod enc P w base spare held n f.type [v] = some y := by
 obtain ⟨o,k⟩ := hone_of hone i f hf
 have hi : i < cs.length := by rw [hl];exact (Array.getElem?_eq_some_iff.1 hf).1
 refine ⟨cs[i],List.getElem?_eq_getElem hi,?_⟩
 rw [o,k,show List.take 1 (List.drop i cs) = [cs[i]] from by rw [List.drop_eq_getElem_cons hi];rfl] at h
 exact h

theorem opens_struct2 (proj : ε → α × β) (mk : α → β → ε) (hp : ∀ x y,proj (mk x y) = (x,y)) (hs : P.underlying t = some (.struct #[f0,f1])) (hone : oneCellFields P #[f0,f1] = true) (hC : P.cellsOf t = 2)
  (h0 : Opens P f0.type a ga) (h1 : Opens P f1.type b gb) : Opens P t (Kd.iso (Kd.pair a b) proj) (fun e => ga (proj e).1 ∧ gb (proj e).2) := by
 intro H enc w base spare held fuel cs x h
 obtain ⟨y0,y1,n,_,hl,t0,t1⟩ := trod_struct2 hs h
 have hl' : cs.length = 2 := hl.trans hC
 obtain ⟨v0,e0,t0⟩ := one_cells hone 0 f0 rfl (by simpa using hl') t0
 obtain ⟨v1,e1,t1⟩ := one_cells hone 1 f1 rfl (by simpa using hl') t1
 match cs,hl' with
 | [w0,w1],_ =>
  simp at e0 e1
  subst e0 e1
  obtain ⟨z0,k0,g0⟩ := h0 enc w base spare held n _ _ t0
  obtain ⟨z1,k1,g1⟩ := h1 enc w base spare held n _ _ t1
  refine ⟨mk z0 z1,?_,by simp only [hp];exact ⟨g0,g1⟩⟩
  show (Kd.pair a b).K w (proj (mk z0 z1)) _
  rw [hp]
  exact ⟨[w0],[w1],rfl,k0,k1⟩

theorem opens_struct3 (proj : ε → α × β × γ) (mk : α → β → γ → ε) (hp : ∀ x y z,proj (mk x y z) = (x,y,z)) (hs : P.underlying t = some (.struct #[f0,f1,f2])) (hone : oneCellFields P #[f0,f1,f2] = true) (hC : P.cellsOf t = 3)
  (h0 : Opens P f0.type a ga) (h1 : Opens P f1.type b gb) (h2 : Opens P f2.type c gc) : Opens P t (Kd.iso (Kd.pair a (Kd.pair b c)) proj) (fun e => ga (proj e).1 ∧ gb (proj e).2.1 ∧ gc (proj e).2.2) := by
 intro H enc w base spare held fuel cs x h
 obtain ⟨y0,y1,y2,n,_,hl,t0,t1,t2⟩ := trod_struct3 hs h
 have hl' : cs.length = 3 := hl.trans hC
 obtain ⟨v0,e0,t0⟩ := one_cells hone 0 f0 rfl (by simpa using hl') t0
 obtain ⟨v1,e1,t1⟩ := one_cells hone 1 f1 rfl (by simpa using hl') t1
 obtain ⟨v2,e2,t2⟩ := one_cells hone 2 f2 rfl (by simpa using hl') t2
 match cs,hl' with
 | [w0,w1,w2],_ =>
  simp at e0 e1 e2
  subst e0 e1 e2
  obtain ⟨z0,k0,g0⟩ := h0 enc w base spare held n _ _ t0
  obtain ⟨z1,k1,g1⟩ := h1 enc w base spare held n _ _ t1
  obtain ⟨z2,k2,g2⟩ := h2 enc w base spare held n _ _ t2
  refine ⟨mk z0 z1 z2,?_,by simp only [hp];exact ⟨g0,g1,g2⟩⟩
  show (Kd.pair a (Kd.pair b c)).K w (proj (mk z0 z1 z2)) _
  rw [hp]
  exact ⟨[w0],[w1,w2],rfl,k0,[w1],[w2],rfl,k1,k2⟩

theorem opens_struct4 (proj : ε → α × β × γ × δ) (mk : α → β → γ → δ → ε) (hp : ∀ x y z u,proj (mk x y z u) = (x,y,z,u)) (hs : P.underlying t = some (.struct #[f0,f1,f2,f3])) (hone : oneCellFields P #[f0,f1,f2,f3] = true) (hC : P.cellsOf t = 4)
  (h0 : Opens P f0.type a ga) (h1 : Opens P f1.type b gb) (h2 : Opens P f2.type c gc) (h3 : Opens P f3.type d gd) : Opens P t (Kd.iso (Kd.pair a (Kd.pair b (Kd.pair c d))) proj) (fun e => ga (proj e).1 ∧ gb (proj e).2.1 ∧ gc (proj e).2.2.1 ∧ gd (proj e).2.2.2) := by
 intro H enc w base spare held fuel cs x h
 obtain ⟨y0,y1,y2,y3,n,_,hl,t0,t1,t2,t3⟩ := trod_struct4 hs h
 have hl' : cs.length = 4 := hl.trans hC
 obtain ⟨v0,e0,t0⟩ := one_cells hone 0 f0 rfl (by simpa using hl') t0
 obtain ⟨v1,e1,t1⟩ := one_cells hone 1 f1 rfl (by simpa using hl') t1
 obtain ⟨v2,e2,t2⟩ := one_cells hone 2 f2 rfl (by simpa using hl') t2
 obtain ⟨v3,e3,t3⟩ := one_cells hone 3 f3 rfl (by simpa using hl') t3
 match cs,hl' with
 | [w0,w1,w2,w3],_ =>
  simp at e0 e1 e2 e3
  subst e0 e1 e2 e3
  obtain ⟨z0,k0,g0⟩ := h0 enc w base spare held n _ _ t0
  obtain ⟨z1,k1,g1⟩ := h1 enc w base spare held n _ _ t1
  obtain ⟨z2,k2,g2⟩ := h2 enc w base spare held n _ _ t2
  obtain ⟨z3,k3,g3⟩ := h3 enc w base spare held n _ _ t3
  refine ⟨mk z0 z1 z2 z3,?_,by simp only [hp];exact ⟨g0,g1,g2,g3⟩⟩
  show (Kd.pair a (Kd.pair b (Kd.pair c d))).K w (proj (mk z0 z1 z2 z3)) _
  rw [hp]
  exact ⟨[w0],[w1,w2,w3],rfl,k0,[w1],[w2,w3],rfl,k1,[w2],[w3],rfl,k2,k3⟩
end

/-- The argument's value, whole. -/
theorem opens_agg {P : Program} {α : Type} {t : TypeId} {fs : Array Field} {d : Kd α} {good : α → Prop} {H : Type} {enc : TypeId × Value → H} {w : World} {base b0 : Nat} {spare : Nat → Bool} {held : Bool} {r : Reach} {v : Value} {x : DataW H} {p : List MemPlace} (ho : Opens P t d good) (hs : P.underlying t = some (.struct fs)) (hv : Value.okWide P w r b0 t v) (h : DataW.Trod enc P w base spare held t v x p) :
  ∃ a cs,v = .agg cs ∧ d.K w a cs.toList ∧ good a := by
 obtain ⟨cs,rfl,_⟩ := okWide_struct hs hv
 obtain ⟨fuel,hf⟩ := h
 obtain ⟨a,hk,hg⟩ := ho enc w base spare held fuel _ _ hf
 exact ⟨a,cs,rfl,hk,hg⟩
theorem opens_row {P : Program} {α : Type} {t e : TypeId} {d : Kd α} {good : List α → Prop} {H : Type} {enc : TypeId × Value → H} {w : World} {base b0 : Nat} {spare : Nat → Bool} {held : Bool} {r : Reach} {v : Value} {x : DataW H} {p : List MemPlace} (ho : Opens P t (Kd.slice e d) good) (hs : P.underlying t = some (.slice e)) (hv : Value.okWide P w r b0 t v) (h : DataW.Trod enc P w base spare held t v x p) :
  ∃ (l : List α) (A : Option Addr) (c : Nat),v = .slice A l.length c ∧ l.length ≤ c ∧ d.C w A l.length l ∧ good l := by
 obtain ⟨A,n,c,rfl⟩ := okWide_slice hs hv
 obtain ⟨fuel,hf⟩ := h
 obtain ⟨a,⟨A',c',he,hle,hC⟩,hg⟩ := ho enc w base spare held fuel _ _ hf
 simp [Value.cells] at he
 obtain ⟨rfl,rfl,rfl⟩ := he
 exact ⟨a,A,c,rfl,hle,hC,hg⟩
end Go.Proofs.YtbokjhdhpmmpfaaDoor.Hopen
