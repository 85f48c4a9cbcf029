/- The reader that draws: what its numbers are. -/
import Derived.Test.YtbokjhdhpmmpfaaHint
import Derived.Laws.BitsAllLaws
import Derived.Test.YtbokjhdhpmmpfaaQ74
namespace Go.Proofs.Ytbokjhdhpmmpfaa.Q
open Go.RowKit Go.Proofs.YtbokjhdhpmmpfaaW.PrintWords
set_option linter.unusedVariables false
set_option linter.unusedSimpArgs false

theorem xor_i64 (a b : Nat) (ha : a < 9223372036854775808) (hb : b < 9223372036854775808) : bits .xor .i64 (a : Int) (b : Int) = ((a ^^^ b : Nat) : Int) := by
 show IntKind.i64.wrap ((BitVec.ofInt 64 (a : Int) ^^^ BitVec.ofInt 64 (b : Int)).toNat : Int) = _
 have hx : a ^^^ b < 2 ^ 63 := Nat.xor_lt_two_pow (by omega) (by omega)
 rw [BitVec.toNat_xor,ofInt_u64 a (by omega),ofInt_u64 b (by omega)]
 simp [IntKind.wrap,IntKind.bits,IntKind.signed]
 omega
theorem rd_mem (b : List Int) (i : Int) (h0 : 0 ≤ i) (h1 : i < b.length) : rd b i ∈ b := by
 unfold rd
 rw [getD_lt _ (by omega)]
 exact List.getElem_mem _
theorem tmod_in (x n : Int) (hx : 0 ≤ x) (hn : 0 < n) : 0 ≤ Int.tmod x n ∧ Int.tmod x n < n := ⟨Int.tmod_nonneg n hx,Int.tmod_lt_of_pos x hn⟩
/-- What the reader mixes is no negative number. -/
theorem mix_in (u v p q : Int) (hu : 0 ≤ u ∧ u ≤ 255) (hv : 0 ≤ v ∧ v ≤ 255) (hp : 0 ≤ p ∧ p ≤ 1099511627776) (hq : 0 ≤ q ∧ q ≤ p) :
  0 ≤ Go.bits .xor .i64 (wrap64 (wrap64 (wrap64 (wrap64 (wrap64 u * 131) + wrap64 (wrap64 v * 1117)) + wrap64 (p * 29)) + wrap64 (wrap64 q * 53)))
   (wrap64 (Int.tdiv (wrap64 (wrap64 (wrap64 (wrap64 (wrap64 u * 131) + wrap64 (wrap64 v * 1117)) + wrap64 (p * 29)) + wrap64 (wrap64 q * 53))) 64)) := by
 rw [w64 (e := u) (by omega),w64 (e := v) (by omega),w64 (e := q) (by omega),w64 (e := u * 131) (by omega),w64 (e := v * 1117) (by omega),w64 (e := p * 29) (by omega),w64 (e := q * 53) (by omega),w64 (e := u * 131 + v * 1117) (by omega),w64 (e := u * 131 + v * 1117 + p * 29) (by omega),w64 (e := u * 131 + v * 1117 + p * 29 + q * 53) (by omega)]
 obtain ⟨x,hx⟩ : ∃ x : Nat,u * 131 + v * 1117 + p * 29 + q * 53 = x := ⟨(u * 131 + v * 1117 + p * 29 + q * 53).toNat,by omega⟩
 have hb : x < 1125899906842624 := by omega
 rw [hx,show Int.tdiv (x : Int) 64 = ((x / 64 : Nat) : Int) from by rw [Int.tdiv_eq_ediv_of_nonneg (by omega)];rfl,w64 (by omega),xor_i64 _ _ (by omega) (by omega)]
 exact Int.natCast_nonneg _

/-- Bytes as a code has them. -/
def Code (b : List Int) : Prop := b.length ≤ 2000 ∧ ∀ x ∈ b,0 ≤ x ∧ x ≤ 255
theorem pick_ev (b : List Int) (hb : Code b) (p n : Int) (h0 : 0 ≤ p) (h1 : p ≤ 1000000000) : ∃ r : Int,(∀ k,spec_reader_pick.f (k + 1) b p n = some (r,p + 1)) ∧ 0 ≤ r ∧ (1 ≤ n → r < n) ∧ (n < 1 → r = 0) := by
 have hw1 : wrap64 (p + 1) = p + 1 := w64 (by omega)
 have hw2 : wrap64 (p + 1 - 1) = p := by rw [w64 (by omega)];omega
 have H1 := Aside0.mk hw1
 have H2 := Aside0.mk hw2
 clear hw1 hw2
 by_cases hn : n < 1
 ·refine ⟨0,fun k => ?_,by omega,fun h => by omega,fun _ => rfl⟩
  unfold spec_reader_pick.f
  rw [if_pos hn,H1.out]
  simp only [spec_reader_pick.j0,if_true]
 ·by_cases hl : b.length = 0
  ·refine ⟨0,fun k => ?_,by omega,fun h => by omega,fun _ => rfl⟩
   unfold spec_reader_pick.f
   rw [if_neg hn,H1.out,hl]
   simp [spec_reader_pick.j0]
  ·have hlz : ((b.length : Int) == 0) = false := beq_eq_false_iff_ne.mpr (by omega)
   have hlp : 0 < (b.length : Int) := by omega
   by_cases hp : p < (b.length : Int)
   ·have hm := hb.2 _ (rd_mem b p h0 hp)
    have ht := tmod_in (rd b p) n (by omega) (by omega)
    refine ⟨Int.tmod (rd b p) n,fun k => ?_,ht.1,fun _ => ht.2,fun h => by omega⟩
    unfold spec_reader_pick.f
    rw [if_neg hn,H1.out,hlz]
    simp only [spec_reader_pick.j0]
    rw [H2.out,if_neg (by decide),if_pos hp,if_pos h0,if_neg (by omega),w64 (by omega)]
   ·have hq := tmod_in p (b.length : Int) h0 hlp
    have hk : 0 ≤ Int.tmod (wrap64 (wrap64 (p * 7) + 3)) (b.length : Int) ∧ Int.tmod (wrap64 (wrap64 (p * 7) + 3)) (b.length : Int) < b.length := by
     rw [w64 (e := p * 7) (by omega),w64 (by omega)]
     exact tmod_in _ _ (by omega) hlp
    have hu := hb.2 _ (rd_mem b _ hq.1 hq.2)
    have hv := hb.2 _ (rd_mem b _ hk.1 hk.2)
    have hd : 0 ≤ Int.tdiv p (b.length : Int) ∧ Int.tdiv p (b.length : Int) ≤ p := by
     rw [Int.tdiv_eq_ediv_of_nonneg h0]
     exact ⟨Int.ediv_nonneg h0 (by omega),Int.ediv_le_self _ h0⟩
    have hx := mix_in _ _ p _ hu hv ⟨h0,by omega⟩ hd
    refine ⟨_,fun k => ?_,(tmod_in _ n hx (by omega)).1,fun _ => (tmod_in _ n hx (by omega)).2,fun h => by omega⟩
    unfold spec_reader_pick.f
    rw [if_neg hn,H1.out,hlz]
    simp only [spec_reader_pick.j0]
    rw [H2.out,if_neg (by decide),if_neg hp,if_neg (by omega),if_pos hq.1,if_pos hq.2,if_pos hk.1,if_pos hk.2,if_neg (by omega)]
theorem one_ev (b : List Int) (hb : Code b) (p : Int) (l : List Int) (h0 : 0 ≤ p) (h1 : p ≤ 1000000000) (hl : 0 < l.length) : ∃ r : Int,(∀ k,spec_reader_one.f (k + 1) b p l = some (r,p + 1)) ∧ r ∈ l := by
 obtain ⟨q,hq,h2,h3,_⟩ := pick_ev b hb p (l.length : Int) h0 h1
 have h3 := h3 (by omega)
 refine ⟨rd l q,fun k => ?_,rd_mem l q h2 h3⟩
 unfold spec_reader_one.f
 rw [hq k]
 simp only [Option.bind_some]
 rw [if_pos h2,if_pos h3]
theorem newReader_ev (b : List Int) (hb : ∀ x ∈ b,(Lit.int .u8 x).wf = true) : ∃ c : List Int,spec_newReader.f b = some (c,0) ∧ Code c := by
 have hr : ∀ x ∈ b,0 ≤ x ∧ x ≤ 255 := fun x hx => by
  have := hb x hx
  simp [Lit.wf,IntKind.min,IntKind.max,IntKind.signed,IntKind.bits] at this
  omega
 unfold spec_newReader.f
 by_cases h : (b.length : Int) > 2000
 ·rw [if_pos h,if_pos (by omega)]
  exact ⟨_,rfl,by simp;omega,fun x hx => hr x (List.mem_of_mem_take hx)⟩
 ·rw [if_neg h]
  exact ⟨_,rfl,by omega,hr⟩
end Go.Proofs.Ytbokjhdhpmmpfaa.Q
