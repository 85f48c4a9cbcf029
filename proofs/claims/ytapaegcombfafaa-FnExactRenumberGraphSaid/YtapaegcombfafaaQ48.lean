-- Written by wip/tools/qprint.py (a program of this claim's author) by means of the kit's printer.
import Derived.Test.YtapaegcombfafaaQ0
import Derived.Test.YtapaegcombfafaaQ22
namespace Go.Proofs.Ytapaegcombfafaa.Q
open Go.RowKit Go.Proofs.YtapaegcombfafaaW.PrintWords Go.Proofs.YtapaegcombfafaaW.PrintLast Go.Proofs.YtapaegcombfafaaW.PrintMore
attribute [local go_sem] max2_int min2_int max_two min_two max_three min_three max_four min_four   -- for this text's walks alone
set_option linter.unusedVariables false
set_option linter.unusedSimpArgs false

/-! ### laws_markNodeS: function 48 -/
def laws_markNodeS.l0 : Nat → List (S58) → Int → Int → Option (Int × (List (S58)))
 | 0,_,_,_ => none
 | k + 1,x0,x1,x5 => if x5 < (x0.length : Int) then (if 0 ≤ x5 then ((laws_markIntS.f k (rd_T58 x0 x5).f2 (wrap64 ((wrap64 (x1 + 1)) + 1))).bind fun bt => (laws_markNodeS.l0 k (x0.set (x5 : Int).toNat (⟨x1,wrap64 (x1 + 1),bt.2⟩ : S58)) bt.1 (wrap64 (x5 + 1)))) else none) else (some (x1,x0))
def laws_markNodeS.f (k : Nat) (l0 : List (S58)) (a1 : Int) : Option (Int × (List (S58))) := laws_markNodeS.l0 k l0 a1 0
/-- A cell of an element stored into. -/
theorem laws_markNodeS.put0 {W : World} {base g n cap : Nat} {ok : Nat → Prop} {xs : List (S58)} (h : Kd.S k58 58 W base ok (.slice (some ⟨g,0,none⟩) n cap) xs) (i : Int) (h0 : 0 ≤ i) (h1 : i < n) (a : Int) :
  Kd.S k58 58 (W.setCell ⟨g,i.toNat * 3,none⟩ (.int .i64 a)) base ok (.slice (some ⟨g,0,none⟩) n cap) (xs.set i.toNat ⟨a,(rd_T58 xs i).f1,(rd_T58 xs i).f2⟩) ∧ W.grownBy (W.setCell ⟨g,i.toNat * 3,none⟩ (.int .i64 a)) (some g) := by
 obtain ⟨oki,c,hcl,hM,hcc,hfr,hoki,hH⟩ := Kd.S_elem h z58 i h0 h1
 obtain ⟨v2,rfl,hr⟩ := k58_openM hM
 exact Kd.S_seg (okg := fun _ => False) (Kd.H_mono hH (fun k hk => ⟨hk,id⟩)) h0 h1 (seg := [.int .i64 a]) (j := 0) (show 1 ≤ 3 from by decide) (x' := (⟨a,(rd_T58 xs i).f1,(rd_T58 xs i).f2⟩ : S58)) (k58_mkM _ _ _ (⟨a,(rd_T58 xs i).f1,(rd_T58 xs i).f2⟩ : S58) hr) (fun _ hk => .inl hk) (fun _ hk => hk.elim)
theorem laws_markNodeS.put1 {W : World} {base g n cap : Nat} {ok : Nat → Prop} {xs : List (S58)} (h : Kd.S k58 58 W base ok (.slice (some ⟨g,0,none⟩) n cap) xs) (i : Int) (h0 : 0 ≤ i) (h1 : i < n) (a : Int) :
  Kd.S k58 58 (W.setCell ⟨g,i.toNat * 3 + 1,none⟩ (.int .i64 a)) base ok (.slice (some ⟨g,0,none⟩) n cap) (xs.set i.toNat ⟨(rd_T58 xs i).f0,a,(rd_T58 xs i).f2⟩) ∧ W.grownBy (W.setCell ⟨g,i.toNat * 3 + 1,none⟩ (.int .i64 a)) (some g) := by
 obtain ⟨oki,c,hcl,hM,hcc,hfr,hoki,hH⟩ := Kd.S_elem h z58 i h0 h1
 obtain ⟨v2,rfl,hr⟩ := k58_openM hM
 exact Kd.S_seg (okg := fun _ => False) (Kd.H_mono hH (fun k hk => ⟨hk,id⟩)) h0 h1 (seg := [.int .i64 a]) (j := 1) (show 2 ≤ 3 from by decide) (x' := (⟨(rd_T58 xs i).f0,a,(rd_T58 xs i).f2⟩ : S58)) (k58_mkM _ _ _ (⟨(rd_T58 xs i).f0,a,(rd_T58 xs i).f2⟩ : S58) hr) (fun _ hk => .inl hk) (fun _ hk => hk.elim)
theorem laws_markNodeS.cells {W : World} {base g n cap : Nat} {ok : Nat → Prop} {xs : List (S58)} (h : Kd.S k58 58 W base ok (.slice (some ⟨g,0,none⟩) n cap) xs) (i : Int) (h0 : 0 ≤ i) (h1 : i < n) :
  W.cell? ⟨g,i.toNat * 3,none⟩ = some (.int .i64 (rd_T58 xs i).f0) ∧ W.cell? ⟨g,i.toNat * 3 + 1,none⟩ = some (.int .i64 (rd_T58 xs i).f1) ∧ W.frozen? ⟨g,i.toNat * 3,none⟩ = false ∧ W.frozen? ⟨g,i.toNat * 3 + 1,none⟩ = false := by
 obtain ⟨oki,c,hcl,hM,hcc,hfr,hoki,hH⟩ := Kd.S_elem h z58 i h0 h1
 obtain ⟨v2,rfl,hr⟩ := k58_openM hM
 exact ⟨hcc 0 _ rfl,hcc 1 _ rfl,hfr 0,hfr 1⟩
/-- An element's row of kids,handed to what writes it,and taken back. -/
theorem laws_markNodeS.row {W : World} {base g n cap : Nat} {ok : Nat → Prop} {xs : List (S58)} (h : Kd.S k58 58 W base ok (.slice (some ⟨g,0,none⟩) n cap) xs) (i : Int) (h0 : 0 ≤ i) (h1 : i < n) :
  ∃ (A2 : Option Addr) (c2 : Nat),W.cell? ⟨g,i.toNat * 3 + 2,none⟩ = some (.slice A2 (rd_T58 xs i).f2.length c2) ∧ (Kd.int .i64).R 3 W base (fun k => some k = (Value.slice A2 (rd_T58 xs i).f2.length c2).ownBlock) (.slice A2 (rd_T58 xs i).f2.length c2) (rd_T58 xs i).f2 ∧
   (∀ k,some k = (Value.slice A2 (rd_T58 xs i).f2.length c2).ownBlock → ok k) ∧
   ∀ (w1 : World) (ok1 : Nat → Prop) (ys : List Int),Kept W w1 (fun k => some k = (Value.slice A2 (rd_T58 xs i).f2.length c2).ownBlock) → (Kd.int .i64).R 3 w1 base ok1 (.slice A2 (rd_T58 xs i).f2.length c2) ys → Kd.S k58 58 w1 base ok (.slice (some ⟨g,0,none⟩) n cap) (xs.set i.toNat ⟨(rd_T58 xs i).f0,(rd_T58 xs i).f1,ys⟩) := by
 obtain ⟨oki,c,hcl,hM,hcc,hfr,hoki,hH⟩ := Kd.S_elem h z58 i h0 h1
 obtain ⟨v2,rfl,hr⟩ := k58_openM hM
 obtain ⟨A2,c2,rfl⟩ := Kd.R_slice hr
 have hin : ∀ k,some k = (Value.slice A2 (rd_T58 xs i).f2.length c2).ownBlock → oki k := fun k hk => hr.1 k hk.symm
 refine ⟨A2,c2,hcc 2 _ rfl,Kd.R_tight rfl hr,fun k hk => (hoki k (hin k hk)).1,fun w1 ok1 ys hk hR => ?_⟩
 have h2 := Kd.H_step hH (w1 := w1) (fun k _ hn hlt => hk.2 k hlt (fun hs => hn (hin k hs)))
 exact Kd.H_back h2 (x' := (⟨(rd_T58 xs i).f0,(rd_T58 xs i).f1,ys⟩ : S58)) (k58_mkM _ _ _ (⟨(rd_T58 xs i).f0,(rd_T58 xs i).f1,ys⟩ : S58) (Kd.R_tight rfl hR)) (fun k hk => hin k hk)
/-- What two tellings say of one row,said at once. -/
theorem laws_markNodeS.both {W : World} {base : Nat} {ok1 ok2 : Nat → Prop} {v : Value} {xs : List (S58)} (h1 : Kd.S k58 58 W base ok1 v xs) (h2 : Kd.S k58 58 W base ok2 v xs) : Kd.S k58 58 W base (fun k => ok1 k ∧ ok2 k) v xs := by
 obtain ⟨f,hb1,inner,ho1,hr1⟩ := h1
 obtain ⟨f2,hb2,inner2,ho2,hr2⟩ := h2
 have e : inner2 = inner := by
  obtain ⟨l1,o1⟩ := ho1
  obtain ⟨l2,o2⟩ := ho2
  rcases o1 with ⟨e1,n1⟩|⟨g1,c1,u1,e1,_,m1,_,_,_,t1⟩
  ·rw [n1,Nat.zero_mul] at l1 l2
   rw [List.length_eq_zero_iff.1 l1,List.length_eq_zero_iff.1 l2]
  ·rcases o2 with ⟨e2,n2⟩|⟨g2,c2,u2,e2,_,m2,_,_,_,t2⟩
   ·rw [n2,Nat.zero_mul] at l1 l2
    rw [List.length_eq_zero_iff.1 l1,List.length_eq_zero_iff.1 l2]
   ·rw [e1] at e2
    injection e2 with ea _ _
    injection ea with ea
    injection ea with eg _ _
    subst eg
    rw [m1] at m2
    injection m2 with m2
    injection m2 with m2 _
    subst m2
    rw [← t1,← t2]
    rfl
 subst e
 refine ⟨f,fun k hk => ⟨hb1 k hk,hb2 k hk⟩,inner2,ho1,hr1.1,fun j p hp => ?_⟩
 have m1 := hr1.2 j p hp
 have m2 := hr2.2 j p hp
 obtain ⟨v2,ec,r1⟩ := k58_openM m1
 obtain ⟨v3,ec',r2⟩ := k58_openM m2
 have ev : v3 = v2 := by
  have ee := ec.symm.trans ec'
  injection ee with _ ee
  injection ee with _ ee
  injection ee with ee _
  exact ee.symm
 subst ev
 show k58.M W base _ p.1 _
 rw [ec]
 refine k58_mkM _ _ _ p.1 (Kd.R_mono (Kd.R_tight rfl r1) (fun k hk => ?_))
 have q1 := r1.1 k hk.symm
 have q2 := r2.1 k hk.symm
 exact ⟨⟨⟨q1.1.1,q2.1.1⟩,q1.1.2⟩,q1.2⟩
theorem laws_markNodeS.both2 {W : World} {base b c : Nat} {ok1 : Nat → Prop} {v : Value} {xs : List (S58)} (h1 : Kd.S k58 58 W base ok1 v xs) (h2 : Kd.S k58 58 W base (fun k => b ≤ k ∧ k < c) v xs) : ∃ P : Nat → Prop,Kd.S k58 58 W base P v xs ∧ (∀ k,P k → ok1 k) ∧ (∀ k,P k → b ≤ k ∧ k < c) :=
 ⟨_,laws_markNodeS.both h1 h2,fun _ h => h.1,fun _ h => h.2⟩
/-- A row made by a call: its blocks lie between the world's size ahead of the call and behind it. -/
theorem laws_markNodeS.snap {w W w1 : World} {ok : Nat → Prop} {v : Value} {xs : List (S58)} (h : Kd.S k58 58 w1 W.heap.size ok v xs) (hle : w.heap.size ≤ W.heap.size) : ∃ b,b = W.heap.size ∧ Aside0 (Kd.S k58 58 w1 w.heap.size (fun k => b ≤ k ∧ k < w1.heap.size) v xs) :=
 ⟨_,rfl,⟨Kd.S_mono (Kd.S_bound (Kd.S_lower (Kd.S_mono (Kd.S_bound h) (fun k hk => hk.2.1)) hle)) (fun k hk => ⟨hk.1,hk.2.2.1⟩)⟩⟩
theorem laws_markNodeS.kept {W w1 : World} {base b c : Nat} {ok P : Nat → Prop} {v : Value} {xs : List (S58)} (h : Kd.S k58 58 W base ok v xs) (h2 : Kd.S k58 58 W base (fun k => b ≤ k ∧ k < c) v xs) (hk : Kept W w1 P) (hd : ∀ k,b ≤ k → k < c → ¬ P k) : Kd.S k58 58 w1 base ok v xs :=
 Kd.S_mono (Kd.S_step (laws_markNodeS.both h h2) (fun k hk' hlt => hk.2 k hlt (hd k hk'.2.1 hk'.2.2))) (fun k hk' => hk'.1)
theorem laws_markNodeS.keptR {W w1 : World} {base b c : Nat} {ok P : Nat → Prop} {v : Value} {xs : List Int} (h : Kd.R (Kd.int .i64) 3 W base ok v xs) (h2 : Kd.R (Kd.int .i64) 3 W base (fun k => b ≤ k ∧ k < c) v xs) (hk : Kept W w1 P) (hd : ∀ k,b ≤ k → k < c → ¬ P k) : Kd.R (Kd.int .i64) 3 w1 base ok v xs :=
 Kd.R_mono (Kd.R_step (Kd.R_tight rfl h) (fun k hk' hlt => hk.2 k hlt (hd k (h2.1 k hk'.symm).1 (h2.1 k hk'.symm).2))) (fun k hk' => h.1 k hk'.symm)
theorem laws_markNodeS.snapR {w W w1 : World} {ok : Nat → Prop} {v : Value} {xs : List Int} (h : Kd.R (Kd.int .i64) 3 w1 W.heap.size ok v xs) (hle : w.heap.size ≤ W.heap.size) : ∃ b,b = W.heap.size ∧ Aside0 (Kd.R (Kd.int .i64) 3 w1 w.heap.size (fun k => b ≤ k ∧ k < w1.heap.size) v xs) :=
 ⟨_,rfl,⟨Kd.R_mono (Kd.R_bound (Kd.R_lower (Kd.R_mono (Kd.R_bound h) (fun k hk => hk.2.1)) hle)) (fun k hk => ⟨hk.1,hk.2.2.1⟩)⟩⟩
theorem laws_markNodeS.three (xs : List (S58)) (i : Int) (h0 : 0 ≤ i) (h1 : i < (xs.length : Int)) (a b : Int) (ys : List Int) (y1 y2 : List (S58)) (e1 : y1 = xs.set i.toNat ⟨a,(rd_T58 xs i).f1,(rd_T58 xs i).f2⟩) (e2 : y2 = y1.set i.toNat ⟨(rd_T58 y1 i).f0,b,(rd_T58 y1 i).f2⟩) :
  (rd_T58 y2 i).f2 = (rd_T58 xs i).f2 ∧ y2.set i.toNat ⟨(rd_T58 y2 i).f0,(rd_T58 y2 i).f1,ys⟩ = xs.set i.toNat ⟨a,b,ys⟩ ∧ y1.length = xs.length ∧ y2.length = xs.length := by
 have hil : i.toNat < xs.length := by omega
 have r : ∀ (l : List (S58)) (v : S58),l.length = xs.length → rd_T58 (l.set i.toNat v) i = v := by
  intro l v hl
  unfold rd_T58
  rw [List.getD_eq_getElem?_getD,List.getElem?_set_self (by omega)]
  rfl
 subst e2
 subst e1
 rw [r _ _ rfl,r _ _ (by simp),List.set_set,List.set_set]
 simp
set_option maxHeartbeats 8000000 in
set_option maxRecDepth 100000 in
theorem laws_markNodeS.calls (k : Nat) (P0_ : Nat → Prop) (u9000_ : Value) (l0 : List (S58)) (a1 : Int) (r1 : Int) (r2 : List (S58)) (w0 w : World) (hB : Below w0.heap.size w0 w) (ho0 : Kd.S k58 58 w w0.heap.size P0_ u9000_ l0) (h : laws_markNodeS.f k l0 a1 = some (r1,r2)) :
  Calls Try.prog 48 #[u9000_,.int .i64 a1] w fun e w' => e = .returned (.int .i64 r1) ∧ Kd.S k58 58 w' w0.heap.size P0_ u9000_ r2 ∧ Below w0.heap.size w0 w' ∧ Kept w w' P0_ := by
 have HO0 := As_ ho0
 have HK := As_ (Kept.refl w P0_)
 have HB := As_ hB
 clear hB ho0
 have H : (laws_markNodeS.l0 k l0 a1 0) = some (r1,r2) := h
 clear h
 have H' := As_ H
 clear H
 go_enter Try.func48,Try.ntmps48
 go_wp2
 go_loopg [1,5] k (fun kq v1 v5 w' => ∃ (x0_1 : List (S58)) (x1_1 : Int) (x5_1 : Int),v1 = .int .i64 x1_1 ∧ v5 = .int .i64 x5_1 ∧ Aside0 (laws_markNodeS.l0 kq x0_1 x1_1 x5_1 = some (r1,r2)) ∧ Aside0 (kq ≤ k) ∧ Aside0 (Kd.S k58 58 w' w0.heap.size P0_ u9000_ x0_1) ∧ Aside0 (Kept w w' P0_) ∧ Aside0 (Below w0.heap.size w0 w'))
 case atStart => exact ⟨(l0),(a1),(0),zT_,zT_,H',⟨Nat.le_refl _⟩,⟨HO0.out⟩,⟨HK.out⟩,⟨HB.out⟩⟩
 case round =>
  clear H'
  try clear p2
  obtain ⟨x0_1,x1_1,x5_1,rfl,rfl,HA,HK1,HO_0,HK,HB⟩ := hrel
  cases gk with
  | zero => exact absurd HA.out (fun h_ => (by cases h_))
  | succ k1 =>
   have H := HA.out
   clear HA
   unfold laws_markNodeS.l0 at H
   by_cases c3 : x5_1 < (x0_1.length : Int)
   ·rw [if_pos c3] at H
    have c3b0 : decide (x5_1 < (x0_1.length : Int)) = true := deT c3
    by_cases c4 : 0 ≤ x5_1
    rotate_left
    ·rw [if_neg c4] at H
     exact absurd H (by simp)
    rw [if_pos c4] at H
    have c4b0 : decide (0 ≤ x5_1) = true := deT c4
    replace H := obS H
    obtain ⟨⟨m1,ms⟩,A30,H⟩ := H
    have A3 := As_ A30
    clear A30
    have H' := As_ H
    clear H
    obtain ⟨go5,co5,rfl,gb5,gl5,cl5,HG5⟩ := Kd.S_form HO_0.out (by omega)
    have GB5 := As_ gb5
    have HM5 : P0_ go5 := (Kd.S_R HO_0.out).1 _ rfl
    obtain ⟨hx5_0,hx5_1,hf5_0,hf5_1⟩ := laws_markNodeS.cells HO_0.out x5_1 c4 c3
    obtain ⟨hq1,hg1⟩ := laws_markNodeS.put0 HO_0.out x5_1 c4 c3 x1_1
    obtain ⟨y1,hy1⟩ : ∃ y,y = x0_1.set x5_1.toNat (⟨x1_1,(rd_T58 x0_1 x5_1).f1,(rd_T58 x0_1 x5_1).f2⟩ : S58) := ⟨_,rfl⟩
    rw [← hy1] at hq1
    obtain ⟨hx6_0,hx6_1,hf6_0,hf6_1⟩ := laws_markNodeS.cells hq1 x5_1 c4 c3
    obtain ⟨hq2,hg2⟩ := laws_markNodeS.put1 hq1 x5_1 c4 c3 (wrap64 (x1_1 + 1))
    obtain ⟨y2,hy2⟩ : ∃ y,y = y1.set x5_1.toNat (⟨(rd_T58 y1 x5_1).f0,wrap64 (x1_1 + 1),(rd_T58 y1 x5_1).f2⟩ : S58) := ⟨_,rfl⟩
    rw [← hy2] at hq2
    obtain ⟨h31,h32,h33,h34⟩ := laws_markNodeS.three x0_1 x5_1 c4 c3 x1_1 (wrap64 (x1_1 + 1)) ms y1 y2 hy1 hy2
    obtain ⟨A2,c2,hx7,hr7,hin7,hback⟩ := laws_markNodeS.row hq2 x5_1 c4 c3
    rw [h31] at hx7 hr7 hin7 hback
    have HB2 : Below w0.heap.size w0 ((wr.setCell ⟨go5,x5_1.toNat * 3,none⟩ (.int .i64 x1_1)).setCell ⟨go5,x5_1.toNat * 3 + 1,none⟩ (.int .i64 (wrap64 (x1_1 + 1)))) := bwS (bwS HB.out gb5) gb5
    have HK2 : Kept w ((wr.setCell ⟨go5,x5_1.toNat * 3,none⟩ (.int .i64 x1_1)).setCell ⟨go5,x5_1.toNat * 3 + 1,none⟩ (.int .i64 (wrap64 (x1_1 + 1)))) P0_ := Kept.of_grown hg2 (Kept.of_grown hg1 HK.out (fun k_ e_ => .inl (by injection e_ with e_;subst e_;exact HM5))) (fun k_ e_ => .inl (by injection e_ with e_;subst e_;exact HM5))
    have p5 := eq_true c4
    have q5 := eq_true c3
    generalize hw1 : wr.setCell ⟨go5,x5_1.toNat * 3,none⟩ (.int .i64 x1_1) = w1 at hq1 hx6_0 hx6_1 hf6_0 hf6_1 hq2 hg1 hg2 hx7 hr7 hback HB2 HK2
    generalize hw2 : w1.setCell ⟨go5,x5_1.toNat * 3 + 1,none⟩ (.int .i64 (wrap64 (x1_1 + 1))) = w2 at hq2 hg2 hx7 hr7 hback HB2 HK2
    go_wp2_with (first|((with_reducible refine gate_store (t := 3) (p := 16) rfl ?_);refine store_event (t := 3) (p := 16) (v := ?vo_w9) (w1 := w1) ?hg ?ho ?hn ?hr ?_;(case ho => rfl);(case hg => rfl);(case hn => rfl);(case hr => rw [← hw1];go_simp <;> rfl);intro w9 hw;subst hw)|((with_reducible refine gate_store (t := 3) (p := 23) rfl ?_);refine store_event (t := 3) (p := 23) (v := ?vo_w9) (w1 := w2) ?hg ?ho ?hn ?hr ?_;(case ho => rfl);(case hg => rfl);(case hn => rfl);(case hr => rw [← hw2];go_simp <;> rfl);intro w9 hw;subst hw)|((with_reducible refine gate_callee (f := 22) rfl ?_);refine goesL_ (some 32) rfl rfl Try.func22 (by kernel_rfl) rfl #[.slice A2 (rd_T58 x0_1 x5_1).f2.length c2,.int .i64 (wrap64 ((wrap64 (x1_1 + 1)) + 1))] rfl (by (try simp only [List.map_toArray,List.map_cons,List.map_nil]);first|done|rfl) ?_;(with_reducible refine (laws_markIntS.calls k1 (fun k => some k = (Value.slice A2 (rd_T58 x0_1 x5_1).f2.length c2).ownBlock) (.slice A2 (rd_T58 x0_1 x5_1).f2.length c2) (rd_T58 x0_1 x5_1).f2 (wrap64 ((wrap64 (x1_1 + 1)) + 1)) m1 ms w0 _ ?side1 ?side2 A3.out).mono ?_);(case side1 => exact HB2);(case side2 => exact hr7);rintro e w11 ⟨rfl,hy0,hb,hkp⟩;refine ⟨_,rfl,?_⟩;have hq3 := hback w11 _ ms hkp hy0;rw [h32] at hq3;have HK3 := Kept.then_ HK2 hkp (fun k hk => .inl (hin7 k hk))))
    go_roundg k1
    case measure => have := HK1.out;omega
    case rel => exact ⟨_,m1,(wrap64 (x5_1 + 1)),zT_,zT_,H',⟨by have := HK1.out;omega⟩,⟨hq3⟩,⟨HK3⟩,⟨hb⟩⟩
   ·rw [if_neg c3] at H
    have c3b0 : decide (x5_1 < (x0_1.length : Int)) = false := deF c3
    clear c3
    simp only [Option.some.injEq,Prod.mk.injEq] at H
    obtain ⟨rfl,rfl⟩ := H
    obtain ⟨Ao12,co12,eo12⟩ := Kd.S_slice HO_0.out
    subst eo12
    go_wp2
    go_ret
    exact ⟨by first|rfl|(simp [errW_none,errW_some] <;> rfl)|(simp [*,errW_none,errW_some] <;> rfl),HO_0.out,HB.out,HK.out⟩

/-! ### laws_markGraph: function 21 -/
def laws_markGraph.f (k : Nat) (l0_0 : List (S58)) (a0_1 : Int) (a1 : Int) : Option (Int × (List (S58))) := laws_markNodeS.f k l0_0 a1
set_option maxHeartbeats 8000000 in
set_option maxRecDepth 100000 in
theorem laws_markGraph.calls (k : Nat) (P0_ : Nat → Prop) (u9000_ : Value) (l0_0 : List (S58)) (a0_1 : Int) (a1 : Int) (r1 : Int) (r2 : List (S58)) (w0 w : World) (hB : Below w0.heap.size w0 w) (ho0 : Kd.S k58 58 w w0.heap.size P0_ u9000_ l0_0) (h : laws_markGraph.f k l0_0 a0_1 a1 = some (r1, r2)) :
    Calls Try.prog 21 #[.agg #[u9000_, .int .i64 a0_1], .int .i64 a1] w fun e w' => e = .returned (.int .i64 r1) ∧ Kd.S k58 58 w' w0.heap.size P0_ u9000_ r2 ∧ Below w0.heap.size w0 w' ∧ Kept w w' P0_ := by
  have hu0 := Try.underlying25
  obtain ⟨Ao1, co1, eo1⟩ := Kd.S_slice ho0
  subst eo1
  have HO0 := As_ ho0
  have HB := As_ hB
  have A3 := As_ (show laws_markNodeS.f k l0_0 a1 = some (r1, r2) from h)
  clear hB ho0 h
  go_enter Try.func21, Try.ntmps21
  go_wp2_with (first | ((with_reducible refine gate_dst (N := 2) rfl ?_); refine box_event ?hg (N := 2) ?hd (cs := #[.slice Ao1 l0_0.length co1, .int .i64 a0_1]) (t := 25) ?hr ?_; (case hd => rfl); (case hg => rfl); (case hr => go_simp <;> rfl); intro gb428 hg w5 hbox hb; have n0_ := As_ (bwT HB.out hb); have n1_ := As_ (hbox); have n2_ := As_ (Kd.S_below HO0.out hb); have n3_ := As_ (Kept.of_below hb P0_); clear HB; clear HO0; have HB := n0_; have BK428 := n1_; have HO0 := n2_; have HK5 := n3_; clear n0_ n1_ n2_ n3_; clear hb hbox hg; have hcz6_0 : w5.cell? ⟨gb428, 0, none⟩ = some (.slice Ao1 l0_0.length co1) := (bkC BK428.out 0).trans rfl; have hcz6_1 : w5.cell? ⟨gb428, 1, none⟩ = some (.int .i64 a0_1) := (bkC BK428.out 1).trans rfl; have hfz6_0 := bkF BK428.out 0; have hfz6_1 := bkF BK428.out 1) | ((with_reducible refine gate_callee (f := 48) rfl ?_); refine goesL_ (some 8) rfl rfl Try.func48 (by kernel_rfl) rfl #[.slice Ao1 l0_0.length co1, .int .i64 a1] rfl (by (try simp only [List.map_toArray, List.map_cons, List.map_nil]); first | done | rfl) ?_; (with_reducible refine (laws_markNodeS.calls k P0_ (.slice Ao1 l0_0.length co1) l0_0 a1 r1 r2 w0 _ ?side1 ?side2 A3.out).mono ?_); (case side1 => exact HB.out); (case side2 => exact HO0.out); rintro e w7 ⟨rfl, hy0, hb, hkp⟩; refine ⟨_, rfl, ?_⟩))
  go_ret
  exact ⟨rfl, hy0, hb, Kept.then_ HK5.out hkp (fun k hk => .inl hk)⟩

end Go.Proofs.Ytapaegcombfafaa.Q
