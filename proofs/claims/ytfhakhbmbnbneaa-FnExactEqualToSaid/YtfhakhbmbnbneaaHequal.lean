/- Graphs that are equal up to a depth: the reference's walk, and the program's with what it knows. -/
import Derived.Test.YtfhakhbmbnbneaaHcircle
import Derived.Test.YtfhakhbmbnbneaaHtab
import Derived.Test.YtfhakhbmbnbneaaQ31
import Derived.Test.YtfhakhbmbnbneaaQ32
import Derived.Test.YtfhakhbmbnbneaaQ71
namespace Go.Proofs.Ytfhakhbmbnbneaa.Q
open Go.RowKit Go.Proofs.YtfhakhbmbnbneaaW.PrintWords
set_option linter.unusedVariables false
set_option linter.unusedSimpArgs false

/-- Are two nodes equal up to a depth? -/
def eqB (a b : List Nd) : Nat → Int → Int → Bool
 | 0,_,_ => true
 | d + 1,i,j => decide ((nd a i).f0 = (nd b j).f0) && (decide ((nd a i).f1 = (nd b j).f1) && (decide ((nd a i).f2.length = (nd b j).f2.length) && (List.range (nd a i).f2.length).all (fun m => eqB a b d ((nd a i).f2.getD m 0) ((nd b j).f2.getD m 0))))
theorem eqB_succ {a b : List Nd} {d : Nat} {i j : Int} : eqB a b (d + 1) i j = true ↔ (nd a i).f0 = (nd b j).f0 ∧ (nd a i).f1 = (nd b j).f1 ∧ (nd a i).f2.length = (nd b j).f2.length ∧ ∀ m,m < (nd a i).f2.length → eqB a b d ((nd a i).f2.getD m 0) ((nd b j).f2.getD m 0) = true := by
 simp only [eqB,Bool.and_eq_true,decide_eq_true_eq,List.all_eq_true,List.mem_range]
section
variable (a b : List Nd) (hka : KidsIn a) (hkb : KidsIn b)
include hka hkb
theorem spec_equalTo_ev (r s : Int) : ∀ (d : Nat),d ≤ 8 → ∀ (i j : Int),0 ≤ i → i < (a.length : Int) → 0 ≤ j → j < (b.length : Int) → Ev (fun k => spec_equalTo.f k a r i b s j (d : Int)) (eqB a b d i j)
 | 0,_,i,j,_,_,_,_ => Ev.at (Ev.step (f := fun _ => some true) (fun k => by simp only [spec_equalTo.f];rw [if_pos (show ((0 : Nat) : Int) = 0 from rfl)]) (Ev.now _)) rfl
 | d + 1,hd,i,j,i0,i1,j0,j1 => by
  have ha := hka.few i0 i1
  have hw : wrap64 (((d + 1 : Nat) : Int) - 1) = (d : Int) := by rw [w64 (by omega)];omega
  refine Ev.step (fun k => by simp only [spec_equalTo.f];rw [if_neg (by omega),if_pos i0,if_pos i1,if_pos j0,if_pos j1]) ?_
  have hal : spec_alike.f (nd a i).f0 (nd a i).f1 (nd a i).f2 (nd b j).f0 (nd b j).f1 (nd b j).f2 = some (decide ((nd a i).f0 = (nd b j).f0) && (decide ((nd a i).f1 = (nd b j).f1) && decide ((nd a i).f2.length = (nd b j).f2.length))) := by
   have el : (((nd a i).f2.length : Int) == ((nd b j).f2.length : Int)) = decide ((nd a i).f2.length = (nd b j).f2.length) := by
    rw [Bool.eq_iff_iff,beq_iff_eq,decide_eq_true_eq]
    omega
   unfold spec_alike.f
   by_cases e0 : (nd a i).f0 = (nd b j).f0
   ·rw [if_pos e0,decide_eq_true e0]
    by_cases e1 : (nd a i).f1 = (nd b j).f1
    ·rw [if_pos e1,decide_eq_true e1,el]
     rfl
    ·rw [if_neg e1,decide_eq_false e1]
     rfl
   ·rw [if_neg e0,decide_eq_false e0]
    rfl
  by_cases hall : (nd a i).f0 = (nd b j).f0 ∧ (nd a i).f1 = (nd b j).f1 ∧ (nd a i).f2.length = (nd b j).f2.length
  ·obtain ⟨e0,e1,e2⟩ := hall
   have hb := hkb.few j0 j1
   rw [decide_eq_true e0,decide_eq_true e1,decide_eq_true e2] at hal
   refine Ev.bind0 hal (Ev.ite_pos rfl ?_)
   have h2 := ev_all (L := fun k x => spec_equalTo.l0 k i j ((d + 1 : Nat) : Int) x a r b s) (n := (nd a i).f2.length) (p := fun m => eqB a b d ((nd a i).f2.getD m 0) ((nd b j).f2.getD m 0)) (fin := true) (fun m hm hp z hz => ?_) (fun m hm hp => ?_) ?_
   ·rw [Bool.and_true] at h2
    refine Ev.at h2 ?_
    simp only [eqB]
    rw [decide_eq_true e0,decide_eq_true e1,decide_eq_true e2]
    rfl
   ·have k1 := hka.mem i0 i1 (List.getElem_mem hm)
    have k2 := hkb.mem j0 j1 (List.getElem_mem (show m < (nd b j).f2.length by omega))
    have ih := spec_equalTo_ev r s d (by omega) (nd a i).f2[m] ((nd b j).f2[m]'(by omega)) k1.1 k1.2 k2.1 k2.2
    have hp2 : eqB a b d (nd a i).f2[m] ((nd b j).f2[m]'(by omega)) = true := by rw [getD_lt 0 hm,getD_lt 0 (show m < (nd b j).f2.length by omega)] at hp;exact hp
    rw [hp2] at ih
    refine Ev.step (fun k => by simp only [spec_equalTo.l0];rw [if_pos i0,if_pos i1,if_pos (show ((m : Nat) : Int) < (((nd a i).f2.length : Nat) : Int) by omega),if_pos (by omega),if_pos j0,if_pos j1,if_pos (show ((m : Nat) : Int) < (((nd b j).f2.length : Nat) : Int) by omega),rdN,rdN,getD_lt 0 hm,getD_lt 0 (show m < (nd b j).f2.length by omega),hw,w64s hm (by omega)]) (Ev.bind ih (Ev.ite_pos rfl hz))
   ·have k1 := hka.mem i0 i1 (List.getElem_mem hm)
    have k2 := hkb.mem j0 j1 (List.getElem_mem (show m < (nd b j).f2.length by omega))
    have ih := spec_equalTo_ev r s d (by omega) (nd a i).f2[m] ((nd b j).f2[m]'(by omega)) k1.1 k1.2 k2.1 k2.2
    have hp2 : eqB a b d (nd a i).f2[m] ((nd b j).f2[m]'(by omega)) = false := by rw [getD_lt 0 hm,getD_lt 0 (show m < (nd b j).f2.length by omega)] at hp;exact hp
    rw [hp2] at ih
    refine Ev.step (fun k => by simp only [spec_equalTo.l0];rw [if_pos i0,if_pos i1,if_pos (show ((m : Nat) : Int) < (((nd a i).f2.length : Nat) : Int) by omega),if_pos (by omega),if_pos j0,if_pos j1,if_pos (show ((m : Nat) : Int) < (((nd b j).f2.length : Nat) : Int) by omega),rdN,rdN,getD_lt 0 hm,getD_lt 0 (show m < (nd b j).f2.length by omega),hw]) ?_
    exact Ev.bind ih (Ev.ite_neg (by decide) (Ev.now _))
   ·exact Ev.step (fun k => by simp only [spec_equalTo.l0];rw [if_pos i0,if_pos i1,if_neg (show ¬ (((nd a i).f2.length : Nat) : Int) < (((nd a i).f2.length : Nat) : Int) by omega)]) (Ev.now _)
  ·have hf : (decide ((nd a i).f0 = (nd b j).f0) && (decide ((nd a i).f1 = (nd b j).f1) && decide ((nd a i).f2.length = (nd b j).f2.length))) = false := by
    rw [Bool.eq_false_iff]
    intro z
    simp only [Bool.and_eq_true,decide_eq_true_eq] at z
    exact hall z
   rw [hf] at hal
   refine Ev.bind0 hal (Ev.ite_neg (by decide) (Ev.at (Ev.now _) ?_))
   symm
   rw [Bool.eq_false_iff]
   intro z
   have z2 := eqB_succ.1 z
   exact hall ⟨z2.1,z2.2.1,z2.2.2.1⟩

/-- What the map tells is so. -/
def Good (T : impl_EqualTo.Tab) : Prop := ∀ (i j : Int) (d : Nat) (v : Bool),impl_EqualTo.lk T i j (d : Int) = some v → v = eqB a b d i j
/-- How many pairs a walk adds at most. -/
def adds : Nat → Nat
 | 0 => 0
 | d + 1 => 1 + 6 * adds d
omit hka hkb in
theorem lk_snoc (T : impl_EqualTo.Tab) (i j d x y e : Int) (v : Bool) (hn : impl_EqualTo.lk T i j d = none) : impl_EqualTo.lk (T ++ [((i,j,d),v)]) x y e = if (x,y,e) = (i,j,d) then some v else impl_EqualTo.lk T x y e := lookup_snoc T (i,j,d) (x,y,e) v hn
omit hka hkb in
theorem fin_ev (T : impl_EqualTo.Tab) (i j : Int) (d : Nat) (v : Bool) (hg : Good a b T) (hn : impl_EqualTo.lk T i j (d : Int) = none) (hl : T.length < 17592186044000) (hv : v = eqB a b d i j) :
  ∃ T' : impl_EqualTo.Tab,impl_EqualTo.fin i j (d : Int) v T = some (v,T') ∧ Good a b T' ∧ T'.length = T.length + 1 ∧ ∀ (x y : Int) (e : Nat),d < e → impl_EqualTo.lk T' x y (e : Int) = impl_EqualTo.lk T x y (e : Int) := by
 refine ⟨T ++ [((i,j,(d : Int)),v)],?_,fun x y e u h => ?_,by simp,fun x y e he => ?_⟩
 ·unfold impl_EqualTo.fin
  rw [hn,if_neg (by simp),if_pos hl]
 ·rw [lk_snoc _ _ _ _ _ _ _ _ hn] at h
  split at h
  ·rename_i hq
   simp only [Prod.mk.injEq] at hq
   obtain ⟨rfl,rfl,h3⟩ := hq
   have h4 : e = d := by omega
   subst h4
   rw [← hv]
   exact (Option.some.inj h).symm
  ·exact hg x y e u h
 ·rw [lk_snoc _ _ _ _ _ _ _ _ hn,if_neg]
  intro hq
  simp only [Prod.mk.injEq] at hq
  omega
theorem equal_ev : ∀ (d : Nat),d ≤ 8 → ∀ (i j : Int) (T : impl_EqualTo.Tab),0 ≤ i → i < (a.length : Int) → 0 ≤ j → j < (b.length : Int) → Good a b T → T.length + adds d < 17592186044000 →
  ∃ T' : impl_EqualTo.Tab,Ev (fun k => impl_EqualTo.eq k a b i j (d : Int) T) (eqB a b d i j,T') ∧ Good a b T' ∧ T'.length ≤ T.length + adds d ∧ ∀ (x y : Int) (e : Nat),d < e → impl_EqualTo.lk T' x y (e : Int) = impl_EqualTo.lk T x y (e : Int)
 | 0,_,i,j,T,_,_,_,_,hg,_ => ⟨T,Ev.at (Ev.step (f := fun _ => some (true,T)) (fun k => by simp only [impl_EqualTo.eq];rw [if_pos (show ((0 : Nat) : Int) = 0 from rfl)]) (Ev.now _)) rfl,hg,by omega,fun _ _ _ _ => rfl⟩
 | d + 1,hd,i,j,T,i0,i1,j0,j1,hg,hl => by
  have hfa := hka.few i0 i1
  have hfb := hkb.few j0 j1
  have hw : wrap64 (((d + 1 : Nat) : Int) - 1) = (d : Int) := by rw [w64 (by omega)];omega
  have hadd : adds (d + 1) = 1 + 6 * adds d := rfl
  cases hlk : impl_EqualTo.lk T i j ((d + 1 : Nat) : Int) with
  | some v =>
   have hv := hg i j (d + 1) v hlk
   refine ⟨T,Ev.step (fun k => by simp only [impl_EqualTo.eq];rw [if_neg (by omega),if_pos i0,if_pos i1,if_pos j0,if_pos j1,if_pos (by omega),if_pos (by omega),hlk,if_pos (show (some v).isSome = true from rfl),Option.getD_some,hv]) (Ev.now _),hg,by omega,fun _ _ _ _ => rfl⟩
  | none =>
   -- the loop over the kids
   have loop : ∀ (m x : Nat) (is : Bool) (T1 : impl_EqualTo.Tab),(nd a i).f2.length - x = m → x ≤ (nd a i).f2.length → Good a b T1 → impl_EqualTo.lk T1 i j ((d + 1 : Nat) : Int) = none → T1.length + m * adds d + 1 < 17592186044000 →
     (is = false → eqB a b (d + 1) i j = false) → (is = true → (nd a i).f0 = (nd b j).f0 ∧ (nd a i).f1 = (nd b j).f1 ∧ (nd a i).f2.length = (nd b j).f2.length ∧ ∀ n,n < x → eqB a b d ((nd a i).f2.getD n 0) ((nd b j).f2.getD n 0) = true) →
     ∃ T' : impl_EqualTo.Tab,Ev (fun k => impl_EqualTo.l0 k a b i j ((d + 1 : Nat) : Int) is (x : Int) T1) (eqB a b (d + 1) i j,T') ∧ Good a b T' ∧ T'.length ≤ T1.length + m * adds d + 1 ∧ ∀ (x y : Int) (e : Nat),d + 1 < e → impl_EqualTo.lk T' x y (e : Int) = impl_EqualTo.lk T1 x y (e : Int) := by
    intro m
    induction m with
    | zero =>
     intro x is T1 hm hx hg1 hn1 hl1 hf ht
     cases is with
     | false =>
      obtain ⟨T',f1,f2,f3,f4⟩ := fin_ev a b T1 i j (d + 1) false hg1 hn1 (by omega) (hf rfl).symm
      refine ⟨T',Ev.step (fun k => by simp only [impl_EqualTo.l0];rw [if_neg (by decide),f1,hf rfl]) (Ev.now _),f2,by omega,f4⟩
     | true =>
      obtain ⟨t0,t1,t2,t3⟩ := ht rfl
      obtain rfl : x = (nd a i).f2.length := by omega
      have hq : eqB a b (d + 1) i j = true := eqB_succ.2 ⟨t0,t1,t2,t3⟩
      obtain ⟨T',f1,f2,f3,f4⟩ := fin_ev a b T1 i j (d + 1) true hg1 hn1 (by omega) hq.symm
      refine ⟨T',Ev.step (fun k => by simp only [impl_EqualTo.l0];rw [if_pos trivial,if_neg (show ¬ (((nd a i).f2.length : Nat) : Int) < (((nd a i).f2.length : Nat) : Int) by omega),f1,hq]) (Ev.now _),f2,by omega,f4⟩
    | succ m ih =>
     intro x is T1 hm hx hg1 hn1 hl1 hf ht
     have hmul : (m + 1) * adds d = m * adds d + adds d := by rw [Nat.succ_mul]
     cases is with
     | false =>
      obtain ⟨T',f1,f2,f3,f4⟩ := fin_ev a b T1 i j (d + 1) false hg1 hn1 (by omega) (hf rfl).symm
      refine ⟨T',Ev.step (fun k => by simp only [impl_EqualTo.l0];rw [if_neg (by decide),f1,hf rfl]) (Ev.now _),f2,by omega,f4⟩
     | true =>
      obtain ⟨t0,t1,t2,t3⟩ := ht rfl
      have hxl : x < (nd a i).f2.length := by omega
      have hxl2 : x < (nd b j).f2.length := by omega
      have k1 := hka.mem i0 i1 (List.getElem_mem hxl)
      have k2 := hkb.mem j0 j1 (List.getElem_mem hxl2)
      obtain ⟨T2,c1,c2,c3,c4⟩ := equal_ev d (by omega) (nd a i).f2[x] (nd b j).f2[x] T1 k1.1 k1.2 k2.1 k2.2 hg1 (by omega)
      have hn2 : impl_EqualTo.lk T2 i j ((d + 1 : Nat) : Int) = none := by rw [c4 i j (d + 1) (by omega)];exact hn1
      obtain ⟨T',e1,e2,e3,e4⟩ := ih (x + 1) (eqB a b d (nd a i).f2[x] (nd b j).f2[x]) T2 (by omega) (by omega) c2 hn2 (by omega)
       (fun hfalse => by
        rw [Bool.eq_false_iff]
        intro z
        have := (eqB_succ.1 z).2.2.2 x hxl
        rw [getD_lt 0 hxl,getD_lt 0 hxl2,hfalse] at this
        cases this)
       (fun htrue => ⟨t0,t1,t2,fun n hn => by
        by_cases hnx : n = x
        ·subst hnx
         rw [getD_lt 0 hxl,getD_lt 0 hxl2]
         exact htrue
        ·exact t3 n (by omega)⟩)
      refine ⟨T',Ev.step (fun k => by simp only [impl_EqualTo.l0];rw [if_pos trivial,if_pos (show ((x : Nat) : Int) < (((nd a i).f2.length : Nat) : Int) by omega),if_pos (by omega),if_pos (show ((x : Nat) : Int) < (((nd b j).f2.length : Nat) : Int) by omega),rdN,rdN,getD_lt 0 hxl,getD_lt 0 hxl2,hw,w64s hxl (by omega)]) (Ev.bind c1 e1),e2,by omega,fun u v e he => by rw [e4 u v e he,c4 u v e (by omega)]⟩
   have hsix : (nd a i).f2.length * adds d ≤ 6 * adds d := Nat.mul_le_mul_right _ hfa
   have start : ∀ is : Bool,(is = false → eqB a b (d + 1) i j = false) → (is = true → (nd a i).f0 = (nd b j).f0 ∧ (nd a i).f1 = (nd b j).f1 ∧ (nd a i).f2.length = (nd b j).f2.length) →
     ∃ T' : impl_EqualTo.Tab,Ev (fun k => impl_EqualTo.j0 k a b i j ((d + 1 : Nat) : Int) is T) (eqB a b (d + 1) i j,T') ∧ Good a b T' ∧ T'.length ≤ T.length + adds (d + 1) ∧ ∀ (x y : Int) (e : Nat),d + 1 < e → impl_EqualTo.lk T' x y (e : Int) = impl_EqualTo.lk T x y (e : Int) := by
    intro is h1 h2
    obtain ⟨T',e1,e2,e3,e4⟩ := loop (nd a i).f2.length 0 is T (by omega) (by omega) hg hlk (by omega) h1 (fun h => ⟨(h2 h).1,(h2 h).2.1,(h2 h).2.2,fun n hn => by omega⟩)
    exact ⟨T',Ev.step (fun k => by simp only [impl_EqualTo.j0];rfl) e1,e2,by omega,e4⟩
   have enter : ∀ {is : Bool} {q : Bool × impl_EqualTo.Tab},(∀ k,impl_EqualTo.eq (k + 1) a b i j ((d + 1 : Nat) : Int) T = impl_EqualTo.j0 k a b i j ((d + 1 : Nat) : Int) is T) → Ev (fun k => impl_EqualTo.j0 k a b i j ((d + 1 : Nat) : Int) is T) q → Ev (fun k => impl_EqualTo.eq k a b i j ((d + 1 : Nat) : Int) T) q := fun h1 h2 => Ev.step h1 h2
   by_cases e0 : (nd a i).f0 = (nd b j).f0
   ·by_cases e1 : (nd a i).f1 = (nd b j).f1
    ·have el : (((nd a i).f2.length : Int) == ((nd b j).f2.length : Int)) = decide ((nd a i).f2.length = (nd b j).f2.length) := by
      rw [Bool.eq_iff_iff,beq_iff_eq,decide_eq_true_eq]
      omega
     obtain ⟨T',s1,s2,s3,s4⟩ := start (decide ((nd a i).f2.length = (nd b j).f2.length)) (fun h => by
      rw [Bool.eq_false_iff]
      intro z
      exact of_decide_eq_false h (eqB_succ.1 z).2.2.1) (fun h => ⟨e0,e1,of_decide_eq_true h⟩)
     refine ⟨T',enter (fun k => ?_) s1,s2,s3,s4⟩
     simp only [impl_EqualTo.eq]
     rw [if_neg (by omega),if_pos i0,if_pos i1,if_pos j0,if_pos j1,if_pos (by omega),if_pos (by omega),hlk,if_neg (by simp),if_pos (show (rd_T45 a i).f0 = (rd_T45 b j).f0 from e0),if_pos (show (rd_T45 a i).f1 = (rd_T45 b j).f1 from e1),← el]
    ·obtain ⟨T',s1,s2,s3,s4⟩ := start false (fun _ => by
      rw [Bool.eq_false_iff]
      intro z
      exact e1 (eqB_succ.1 z).2.1) (fun h => by cases h)
     refine ⟨T',enter (fun k => ?_) s1,s2,s3,s4⟩
     simp only [impl_EqualTo.eq]
     rw [if_neg (by omega),if_pos i0,if_pos i1,if_pos j0,if_pos j1,if_pos (by omega),if_pos (by omega),hlk,if_neg (by simp),if_pos (show (rd_T45 a i).f0 = (rd_T45 b j).f0 from e0),if_neg (show ¬ (rd_T45 a i).f1 = (rd_T45 b j).f1 from e1)]
   ·obtain ⟨T',s1,s2,s3,s4⟩ := start false (fun _ => by
     rw [Bool.eq_false_iff]
     intro z
     exact e0 (eqB_succ.1 z).1) (fun h => by cases h)
    refine ⟨T',enter (fun k => ?_) s1,s2,s3,s4⟩
    simp only [impl_EqualTo.eq]
    rw [if_neg (by omega),if_pos i0,if_pos i1,if_pos j0,if_pos j1,if_pos (by omega),if_pos (by omega),hlk,if_neg (by simp),if_neg (show ¬ (rd_T45 a i).f0 = (rd_T45 b j).f0 from e0)]
end
end Go.Proofs.Ytfhakhbmbnbneaa.Q
