/- The program's ShowOps returns what the reference's returns: for every list of orders, without a condition. -/
import Derived.Test.YtbokjhdhpmmpfaaDoorHop
import Derived.Test.YtbokjhdhpmmpfaaDoorQ4
import Derived.Test.YtbokjhdhpmmpfaaDoorQ5
import Derived.Test.YtbokjhdhpmmpfaaDoorQ7
namespace Go.Proofs.YtbokjhdhpmmpfaaDoor.Pure
open Go.RowKit Go.Proofs.YtbokjhdhpmmpfaaDoor.Q Go.Proofs.YtbokjhdhpmmpfaaDoorW.PrintWords
set_option linter.unusedVariables false
set_option linter.unusedSimpArgs false

theorem num_all : ∀ n : Fin 1000,((spec_number.f 5 (n.val : Int)).map fun s => s.data.toList) = some (Go.Lib.itoa (n.val : Int)) := by decide +kernel
theorem number_ev (n : Int) (h0 : 0 ≤ n) (h1 : n ≤ 999) : ∃ s : ByteArray,Ev (fun k => spec_number.f k n) s ∧ s.data.toList = Go.Lib.itoa n ∧ s.size ≤ 3 := by
 obtain ⟨m,rfl⟩ : ∃ m : Nat,n = m := ⟨n.toNat,by omega⟩
 have h := num_all ⟨m,by omega⟩
 obtain ⟨s,hs,he⟩ := Option.map_eq_some_iff.1 h
 refine ⟨s,⟨5,fun k hk => ?_⟩,he,?_⟩
 ·induction k with
  | zero => omega
  | succ k ih =>
   by_cases hk5 : k + 1 = 5
   ·rw [hk5];exact hs
   ·exact spec_number.mono _ _ _ (ih (by omega))
 ·have hl : ∀ x : Fin 1000,(Go.Lib.itoa (x.val : Int)).length ≤ 3 := by decide +kernel
  have := hl ⟨m,by omega⟩
  have e : s.data.toList.length = s.size := Array.length_toList
  have he' : s.data.toList = Go.Lib.itoa (m : Int) := he
  have h2 : (Go.Lib.itoa (m : Int)).length ≤ 3 := this
  rw [he'] at e
  omega
/-- The words. -/
def wordsL : List ByteArray := (impl_words.f).getD []
theorem words_some : impl_words.f = some wordsL := rfl
theorem words_spec : spec_codeWords.f = some wordsL := rfl
theorem words_len : wordsL.length = 20 := rfl
theorem words_size (c : Int) (h0 : 0 ≤ c) (h1 : c ≤ 19) : (rdOf ByteArray.empty wordsL c).size ≤ 9 := by
 obtain ⟨m,rfl⟩ : ∃ m : Nat,c = m := ⟨c.toNat,by omega⟩
 have h : ∀ x : Fin 20,(rdOf ByteArray.empty wordsL (x.val : Int)).size ≤ 9 := by decide +kernel
 exact h ⟨m,by omega⟩
theorem show_ev (c a : Int) (hc0 : 0 ≤ c) (hc1 : c ≤ 19) (ha0 : 0 ≤ a) (ha1 : a ≤ most c) :
  ∃ t : ByteArray,Ev (fun k => spec_showOp.f k c a) t ∧ t.data.toList ++ [10] = impl_ShowOps.one (rdOf ByteArray.empty wordsL c) (most c) a ∧ t.size ≤ 13 := by
 have hw := words_size c hc0 hc1
 have hm := most_le c
 unfold spec_showOp.f
 by_cases h : c = 0 ∨ c = 1 ∨ c = 13 ∨ c = 15 ∨ c = 16
 ·have hp : most c > 0 := by rcases h with rfl | rfl | rfl | rfl | rfl <;> decide
  obtain ⟨s,hs,he,hz⟩ := number_ev a ha0 (by omega)
  refine ⟨(rdOf ByteArray.empty wordsL c ++ (⟨#[32]⟩ : ByteArray)) ++ s,?_,?_,?_⟩
  ·refine Ev.bind0 (argOf_eq c) ?_
   rw [if_pos h]
   refine Ev.ite_neg (by omega) (Ev.bind0 words_spec (Ev.ite_pos hc0 (Ev.ite_pos (by rw [words_len];omega) (Ev.ite_pos (by omega) (Ev.bind hs (Ev.ite_pos ?_ (Ev.now _)))))))
   rw [ByteArray.size_append,show ByteArray.size (⟨#[32]⟩ : ByteArray) = 1 from rfl]
   omega
  ·unfold impl_ShowOps.one
   rw [if_pos hp,ByteArray.data_append,ByteArray.data_append,Array.toList_append,Array.toList_append,he]
   simp
  ·rw [ByteArray.size_append,ByteArray.size_append,show ByteArray.size (⟨#[32]⟩ : ByteArray) = 1 from rfl]
   omega
 ·have hp : ¬ most c > 0 := by
   have e : most c = 0 := by unfold most;(repeat' split);all_goals first | rfl | (exfalso;omega)
   omega
  refine ⟨rdOf ByteArray.empty wordsL c,?_,?_,by omega⟩
  ·refine Ev.bind0 (argOf_eq c) ?_
   rw [if_neg h]
   exact Ev.ite_pos (by omega) (Ev.bind0 words_spec (Ev.ite_pos hc0 (Ev.ite_pos (by rw [words_len];omega) (Ev.now _))))
  ·unfold impl_ShowOps.one
   rw [if_neg hp]
   simp
theorem shows (l : List Q.Op) (hv : vOps l = true) : ∀ (d i : Nat) (acc : List UInt8) (s : ByteArray),l.length - i = d → i ≤ l.length → s.data.toList = acc → acc.length ≤ 40 * i →
  ∃ r : ByteArray,Ev (fun k => spec_ShowOps.l0 k l s (i : Int)) r ∧ Ev (fun k => impl_ShowOps.l0 k acc l (i : Int)) r := by
 have hn := vOps_len hv
 intro d
 induction d with
 | zero =>
  intro i acc s hd hi hs ha
  obtain rfl : i = l.length := by omega
  refine ⟨s,Ev.step (fun k => by unfold spec_ShowOps.l0;rw [if_neg (by omega)]) (Ev.now _),Ev.step (fun k => by unfold impl_ShowOps.l0;rw [if_neg (by omega)]) (Ev.at (Ev.now _) ?_)⟩
  subst hs
  cases s
  simp
 | succ d ih =>
  intro i acc s hd hi hs ha
  have hlt : i < l.length := by omega
  have hok := vOps_getD hv i hlt
  rw [okOp_iff] at hok
  obtain ⟨h1,h2,h3,h4⟩ := hok
  have hm := most_le (l.getD i zOp).f0
  have hw := words_size _ h1 h2
  obtain ⟨t,ht,he,hz⟩ := show_ev _ _ h1 h2 h3 h4
  have hsz : s.size = acc.length := by rw [← hs];exact Array.length_toList.symm
  have hone : (impl_ShowOps.one (rdOf ByteArray.empty wordsL (l.getD i zOp).f0) (most (l.getD i zOp).f0) (l.getD i zOp).f1).length ≤ 14 := by
   rw [← he,List.length_append,List.length_singleton,show t.data.toList.length = t.size from Array.length_toList]
   omega
  obtain ⟨r,r1,r2⟩ := ih (i + 1) (acc ++ impl_ShowOps.one (rdOf ByteArray.empty wordsL (l.getD i zOp).f0) (most (l.getD i zOp).f0) (l.getD i zOp).f1) ((s ++ t) ++ (⟨#[10]⟩ : ByteArray)) (by omega) (by omega) (by
   rw [← he,ByteArray.data_append,ByteArray.data_append,Array.toList_append,Array.toList_append,hs,List.append_assoc]) (by rw [List.length_append];omega)
  refine ⟨r,?_,?_⟩
  ·refine Ev.step (fun k => by unfold spec_ShowOps.l0;rw [if_pos (by omega),if_pos (by omega),rdO,w64s hlt (by omega)]) ?_
   refine Ev.bind ht (Ev.ite_pos (by omega) (Ev.ite_pos ?_ r1))
   rw [ByteArray.size_append]
   omega
  ·refine Ev.step (fun k => by unfold impl_ShowOps.l0;rw [if_pos (by omega),if_pos (by omega),rdO,w64s hlt (by omega)]) ?_
   exact Ev.bind0 words_some (Ev.ite_pos h1 (Ev.ite_pos (by rw [words_len];omega) (Ev.bind0 (mostArg_eq _) (Ev.ite_pos ⟨by omega,h3,by omega⟩ r2))))
theorem both (l : List Q.Op) (hn : l.length ≤ 1048576) : ∃ r : ByteArray,Ev (fun k => spec_ShowOps.f k l) r ∧ Ev (fun k => impl_ShowOps.f k l) r := by
 unfold spec_ShowOps.f impl_ShowOps.f
 have hv := validOps_ev l (by omega)
 have hv' := implValidOps_ev l (by omega)
 cases hb : vOps l with
 | false =>
  rw [hb] at hv hv'
  exact ⟨⟨#[]⟩,Ev.bind hv (Ev.ite_neg (by decide) (Ev.now _)),Ev.bind hv' (Ev.ite_neg (by decide) (Ev.now _))⟩
 | true =>
  rw [hb] at hv hv'
  obtain ⟨r,h1,h2⟩ := shows l hb l.length 0 [] ⟨#[]⟩ (by omega) (by omega) rfl (by simp)
  exact ⟨r,Ev.bind hv (Ev.ite_pos rfl h1),Ev.bind hv' (Ev.ite_pos rfl h2)⟩

theorem FnExactShowOps : laws_FnExactShowOps.Pure := by
 intro l ⟨hm,_⟩
 apply Ev.rounds
 unfold laws_FnExactShowOps.f
 refine Ev.bind0 (szOpS_eq l 1048576 (by omega) (by omega) hm) ?_
 by_cases h : (1048576 : Int) < l.length
 ·rw [if_pos h]
  exact Ev.ite_pos (by omega) (Ev.now _)
 ·rw [if_neg h]
  refine Ev.ite_neg (by omega) ?_
  have ht := toOpS_ev l (by omega)
  have hl : (l.map toOp).length ≤ 4611686018427387904 := by simp;omega
  obtain ⟨r,hs,hi⟩ := both (l.map toOp) (by simp;omega)
  refine Ev.bind ht (Ev.bind hs (Ev.bind ht (Ev.bind hi (Ev.ite_pos rfl ?_))))
  exact Ev.bind ht (Ev.bind (eqOpS_same _ hl) (Ev.ite_pos rfl (Ev.now _)))
end Go.Proofs.YtbokjhdhpmmpfaaDoor.Pure
