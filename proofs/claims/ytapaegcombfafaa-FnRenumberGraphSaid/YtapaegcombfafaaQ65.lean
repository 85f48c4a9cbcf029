import Derived.Test.YtapaegcombfafaaQ0
namespace Go.Proofs.Ytapaegcombfafaa.Q
open Go.RowKit Go.Proofs.YtapaegcombfafaaW.PrintWords Go.Proofs.YtapaegcombfafaaW.PrintLast Go.Proofs.YtapaegcombfafaaW.PrintMore
attribute [local go_sem] max2_int min2_int max_two min_two max_three min_three max_four min_four
set_option linter.unusedVariables false
set_option linter.unusedSimpArgs false
def IsS74 (w0 W:World) (g:Nat) (f0:List Int) (f1:Int):Prop:=∃ A0 c0,W.heap[g]?=some (.cells #[.slice A0 f0.length c0,.int .i64 f1] 74 (0,0))∧w0.heap.size≤g∧Kd.C (Kd.int .u8) w0 A0 f0.length f0
theorem IsS74.grown {w0 W:World} {g:Nat} {f0:List Int} {f1:Int} {W1:World} {row:Option Nat} (h:IsS74 w0 W g f0 f1) (hw:W.grownBy W1 row) (hne:some g≠row):IsS74 w0 W1 g f0 f1:=by
 obtain ⟨A0,c0,hb,hg,hr0⟩:=h
 exact ⟨A0,c0,blk_grown hb hw hne,hg,hr0⟩
theorem IsS74.own_neN {w0 W:World} {g:Nat} {f0:List Int} {f1:Int} {α:Type} {d:Kd α} {e:Nat} {base:Nat} {ok:Nat→Prop} {v:Value} {xs:List α} (h:IsS74 w0 W g f0 f1) (ho:Kd.N d e W base ok v xs) (ht:e≠74):some g≠v.ownBlock:=by
 obtain ⟨A0,c0,hb,hg,hr0⟩:=h
 exact Kd.N_ne ho hb ht
theorem IsS74.fresh {w0 W:World} {g:Nat} {f0:List Int} {f1:Int} (h:IsS74 w0 W g f0 f1):∀ k,W.heap.size≤k→k≠g:=by
 obtain ⟨A0,c0,hb,hg,hr0⟩:=h
 exact Kd.freshB hb
theorem IsS74.kept {w0 W:World} {g:Nat} {f0:List Int} {f1:Int} {W1:World} {S:Nat→Prop} (h:IsS74 w0 W g f0 f1) (hk:Kept W W1 S) (hne:¬ S g):IsS74 w0 W1 g f0 f1:=by
 obtain ⟨A0,c0,hb,hg,hr0⟩:=h
 exact ⟨A0,c0,blk_kept hb hk hne,hg,hr0⟩
theorem IsS74.below {w0 W:World} {g:Nat} {f0:List Int} {f1:Int} {W1:World} (h:IsS74 w0 W g f0 f1) (hw:Below W.heap.size W W1):IsS74 w0 W1 g f0 f1:=h.grown (grown_of_below hw none) (by simp)
theorem IsS74.alloc {w0 W:World} {g:Nat} {f0:List Int} {f1:Int} (h:IsS74 w0 W g f0 f1) (o:Obj):IsS74 w0 (W.alloc o) g f0 f1:=h.below (bwA (Below.refl _ _) o)
theorem IsS74.drewN {w0 W:World} {g:Nat} {f0:List Int} {f1:Int} (h:IsS74 w0 W g f0 f1) (m:Nat):IsS74 w0 (W.drewN m) g f0 f1:=h
theorem IsS74.drew {w0 W:World} {g:Nat} {f0:List Int} {f1:Int} (h:IsS74 w0 W g f0 f1):IsS74 w0 W.drew g f0 f1:=h
theorem IsS74.at_ {w0 W:World} {g:Nat} {f0:List Int} {f1:Int} {w':World} {m:Nat} (hq:W.drewN m=w') (h:IsS74 w0 W g f0 f1):IsS74 w0 w' g f0 f1:=by subst hq;exact IsS74.drewN h m
theorem IsS74.apart {w0 W:World} {g:Nat} {f0:List Int} {f1:Int} {α:Type} {d:Kd α} {e:Nat} {base:Nat} {ok:Nat→Prop} {v:Value} {xs:List α} (h:IsS74 w0 W g f0 f1) (ho:d.R e W base ok v xs) (ht:∀ q,q∈e :: d.E→q≠74):d.R e W base (fun k=>ok k∧k≠g) v xs:=by
 obtain ⟨A0,c0,hb,hg,hr0⟩:=h
 exact Kd.R_types ho hb ht
theorem IsS74.own_ne {w0 W:World} {g:Nat} {f0:List Int} {f1:Int} {α:Type} {d:Kd α} {e:Nat} {base:Nat} {ok:Nat→Prop} {v:Value} {xs:List α} (h:IsS74 w0 W g f0 f1) (ho:d.R e W base ok v xs) (ht:e≠74):some g≠v.ownBlock:=by
 obtain ⟨A0,c0,hb,hg,hr0⟩:=h
 exact Kd.R_ne ho hb ht
theorem IsS74.apartQ {w0 W:World} {g:Nat} {f0:List Int} {f1:Int} {α:Type} {d:Kd α} {e:Nat} {base:Nat} {ok:Nat→Prop} {v:Value} {xs:List α} (h:IsS74 w0 W g f0 f1) (ho:d.Q e W base ok v xs) (ht:∀ q,q∈e :: d.E→q≠74):d.Q e W base (fun k=>ok k∧k≠g) v xs:=by
 obtain ⟨A0,c0,hb,hg,hr0⟩:=h
 exact Kd.Q_types ho hb ht
theorem IsS74.own_neQ {w0 W:World} {g:Nat} {f0:List Int} {f1:Int} {α:Type} {d:Kd α} {e:Nat} {base:Nat} {ok:Nat→Prop} {v:Value} {xs:List α} (h:IsS74 w0 W g f0 f1) (ho:d.Q e W base ok v xs) (ht:e≠74):some g≠v.ownBlock:=by
 obtain ⟨A0,c0,hb,hg,hr0⟩:=h
 exact Kd.Q_ne ho hb ht
theorem IsS74.apartS {w0 W:World} {g:Nat} {f0:List Int} {f1:Int} {α:Type} {d:Kd α} {e:Nat} {base:Nat} {ok:Nat→Prop} {v:Value} {xs:List α} (h:IsS74 w0 W g f0 f1) (ho:d.S e W base ok v xs) (ht:∀ q,q∈e :: d.E→q≠74):d.S e W base (fun k=>ok k∧k≠g) v xs:=by
 obtain ⟨A0,c0,hb,hg,hr0⟩:=h
 exact Kd.S_types ho hb ht
theorem IsS74.own_neS {w0 W:World} {g:Nat} {f0:List Int} {f1:Int} {α:Type} {d:Kd α} {e:Nat} {base:Nat} {ok:Nat→Prop} {v:Value} {xs:List α} (h:IsS74 w0 W g f0 f1) (ho:d.S e W base ok v xs) (ht:e≠74):some g≠v.ownBlock:=by
 obtain ⟨A0,c0,hb,hg,hr0⟩:=h
 exact Kd.S_ne ho hb ht
theorem IsS74.lt {w0 W:World} {g:Nat} {f0:List Int} {f1:Int} (h:IsS74 w0 W g f0 f1):g<W.heap.size:=by
 obtain ⟨A0,c0,hb,hg,hr0⟩:=h
 exact blk_lt hb
theorem IsS74.ge {w0 W:World} {g:Nat} {f0:List Int} {f1:Int} (h:IsS74 w0 W g f0 f1):w0.heap.size≤g:=by
 obtain ⟨A0,c0,hb,hg,hr0⟩:=h
 exact hg
theorem IsS74.ne_blk {w0 W:World} {g:Nat} {f0:List Int} {f1:Int} {a:Nat} {cs:Array Value} {t:TypeId} {fr:Nat × Nat} (h:IsS74 w0 W g f0 f1) (hb2:W.heap[a]?=some (.cells cs t fr)) (ht:t≠74):g≠a:=by
 obtain ⟨A0,c0,hb,hg,hr0⟩:=h
 rintro rfl
 rw [hb] at hb2
 injection hb2 with hb2
 injection hb2 with _ ht2
 exact ht ht2.symm
theorem IsS74.far {w0 W:World} {g:Nat} {f0:List Int} {f1:Int} {p:Addr} (h:IsS74 w0 W g f0 f1) (hne:g≠p.block) (u:Value):IsS74 w0 (W.setCell p u) g f0 f1:=by
 obtain ⟨A0,c0,hb,hg,hr0⟩:=h
 exact ⟨A0,c0,blk_far hb hne u,hg,hr0⟩
theorem cellS74_0 {W:World} {g:Nat} {A0:Option Addr} {c0:Nat} {f0:List Int} {f1:Int} (h:W.heap[g]?=some (.cells #[.slice A0 f0.length c0,.int .i64 f1] 74 (0,0))):W.cell? ⟨g,0,none⟩=some (.slice A0 f0.length c0):=(bkC h 0).trans rfl
theorem cellS74_1 {W:World} {g:Nat} {A0:Option Addr} {c0:Nat} {f0:List Int} {f1:Int} (h:W.heap[g]?=some (.cells #[.slice A0 f0.length c0,.int .i64 f1] 74 (0,0))):W.cell? ⟨g,1,none⟩=some (.int .i64 f1):=(bkC h 1).trans rfl
theorem IsS74.set_1 {w0 W:World} {g:Nat} {f0:List Int} {f1:Int} (h:IsS74 w0 W g f0 f1) (x:Int):IsS74 w0 (W.setCell ⟨g,1,none⟩ (.int .i64 x)) g f0 x:=by
 obtain ⟨A0,c0,hb,hg,hr0⟩:=h
 exact ⟨A0,c0,by simpa using blk_set hb 1 (.int .i64 x),hg,hr0⟩
theorem IsS74.new (w0 W:World) (A0:Option Addr) (c0:Nat) (f0:List Int) (f1:Int) (hB:Below w0.heap.size w0 W) (hr0:Kd.C (Kd.int .u8) w0 A0 f0.length f0):IsS74 w0 (W.alloc (.cells #[.slice A0 f0.length c0,.int .i64 f1] 74)) W.heap.size f0 f1:=⟨A0,c0,by simpa using heap_alloc_new W _,hB.size,hr0⟩
def spec_reader_pick.j0:Nat→Int→Bool→List Int→Int→Option (Int × Int)
 | 0,_,_,_,_=>none
 | k+1,x1,x24,x1000,x1001=>if x24=true then (some (0,x1001)) else (if (wrap64 (x1001 - 1))<(x1000.length:Int) then (if 0≤(wrap64 (x1001 - 1)) then (if x1=0 then (none) else (some (Int.tmod (wrap64 (rd x1000 (wrap64 (x1001 - 1)))) x1,x1001))) else (none)) else (if (x1000.length:Int)=0 then (none) else (if 0≤(Int.tmod (wrap64 (x1001 - 1)) (x1000.length:Int)) then (if (Int.tmod (wrap64 (x1001 - 1)) (x1000.length:Int))<(x1000.length:Int) then (if 0≤(Int.tmod (wrap64 ((wrap64 ((wrap64 (x1001 - 1)) * 7))+3)) (x1000.length:Int)) then (if (Int.tmod (wrap64 ((wrap64 ((wrap64 (x1001 - 1)) * 7))+3)) (x1000.length:Int))<(x1000.length:Int) then (if x1=0 then (none) else (some (Int.tmod (Go.bits .xor .i64 (wrap64 ((wrap64 ((wrap64 ((wrap64 ((wrap64 (rd x1000 (Int.tmod (wrap64 (x1001 - 1)) (x1000.length:Int)))) * 131))+(wrap64 ((wrap64 (rd x1000 (Int.tmod (wrap64 ((wrap64 ((wrap64 (x1001 - 1)) * 7))+3)) (x1000.length:Int)))) * 1117))))+(wrap64 ((wrap64 (x1001 - 1)) * 29))))+(wrap64 ((wrap64 (Int.tdiv (wrap64 (x1001 - 1)) (x1000.length:Int))) * 53)))) (wrap64 (Int.tdiv (wrap64 ((wrap64 ((wrap64 ((wrap64 ((wrap64 (rd x1000 (Int.tmod (wrap64 (x1001 - 1)) (x1000.length:Int)))) * 131))+(wrap64 ((wrap64 (rd x1000 (Int.tmod (wrap64 ((wrap64 ((wrap64 (x1001 - 1)) * 7))+3)) (x1000.length:Int)))) * 1117))))+(wrap64 ((wrap64 (x1001 - 1)) * 29))))+(wrap64 ((wrap64 (Int.tdiv (wrap64 (x1001 - 1)) (x1000.length:Int))) * 53)))) 64))) x1,x1001))) else (none)) else (none)) else (none)) else (none))))
def spec_reader_pick.f (k:Nat) (s0_0:List Int) (s0_1:Int) (a1:Int):Option (Int × Int):=if a1<1 then (spec_reader_pick.j0 k a1 true s0_0 (wrap64 (s0_1+1))) else (spec_reader_pick.j0 k a1 ((s0_0.length:Int) == 0) s0_0 (wrap64 (s0_1+1)))
set_option maxRecDepth 100000 in
theorem spec_reader_pick.mono_l:∀ k,(∀ y0 y1 y2 y3,LeO (spec_reader_pick.j0 k y0 y1 y2 y3) (spec_reader_pick.j0 (k+1) y0 y1 y2 y3))
 | 0=>fun _ _ _ _ r h=>(by cases h)
 | k+1=>by
  have ih0:=spec_reader_pick.mono_l k
  ·intro y0 y1 y2 y3
   unfold spec_reader_pick.j0
   repeat' first
   | (with_reducible exact ih0 _ _ _ _)
   | (with_reducible exact LeO.refl _)
   | (with_reducible exact LeO.none _)
   | (with_reducible refine LeO.ite ?_ ?_)
   | (with_reducible refine LeO.bind ?_ (fun _=>?_))
   | exact ih0 _ _ _ _
   | exact LeO.none _
   | refine LeO.ite ?_ ?_
   | refine LeO.bind ?_ (fun _=>?_)
set_option maxRecDepth 100000 in
theorem spec_reader_pick.mono:∀ a0 a1 a2 k,LeO (spec_reader_pick.f k a0 a1 a2) (spec_reader_pick.f (k+1) a0 a1 a2):=by
 intro a0 a1 a2 k
 have ih0:=spec_reader_pick.mono_l k
 unfold spec_reader_pick.f
 repeat' first
   | (with_reducible exact ih0 _ _ _ _)
   | (with_reducible exact LeO.refl _)
   | (with_reducible exact LeO.none _)
   | (with_reducible refine LeO.ite ?_ ?_)
   | (with_reducible refine LeO.bind ?_ (fun _=>?_))
   | exact ih0 _ _ _ _
   | exact LeO.none _
   | refine LeO.ite ?_ ?_
   | refine LeO.bind ?_ (fun _=>?_)
set_option maxHeartbeats 8000000 in
set_option maxRecDepth 100000 in
theorem spec_reader_pick.calls (k:Nat) (g:Nat) (s0_0:List Int) (s0_1:Int) (a1:Int) (r1:Int) (r2:Int) (w0 w:World) (hI:IsS74 w0 w g s0_0 s0_1) (hB:Below w0.heap.size w0 w) (h:spec_reader_pick.f k s0_0 s0_1 a1=some (r1,r2)) :
  Calls Try.prog 65 #[.pointer (some ⟨g,0,none⟩),.int .i64 a1] w fun e w'=>e=.returned (.int .i64 r1)∧IsS74 w0 w' g s0_0 r2∧Below w0.heap.size w0 w'∧KeepBut w w' g none:=by
 have HI0:=As_ hI
 have HK:=As_ (KeepBut.refl w g none)
 have HL:=As_ hB.size
 clear hI
 have HW0:=As_ hB.size
 have HB:=As_ hB
 clear hB
 have H:(if a1<1 then (spec_reader_pick.j0 k a1 true s0_0 (wrap64 (s0_1+1))) else (spec_reader_pick.j0 k a1 ((s0_0.length:Int) == 0) s0_0 (wrap64 (s0_1+1))))=some (r1,r2):=h
 clear h
 have HC3:=As_ H
 clear H
 obtain ⟨ASz4_0,cSz4_0,HGz4,hgz4,HSz4_0⟩:=HI0.out
 have hcz4_0:=cellS74_0 HGz4
 have hcz4_1:=cellS74_1 HGz4
 have hfz4_1:=bkF HGz4 1
 clear HGz4 hgz4
 go_enter Try.func65,Try.ntmps65
 go_upto_region 2 with (fail)
 repeat (go_quiet (fail);go_upto_region 2 with (fail))
 go_cut [24] (fun v24 wc=>∃ (kq:Nat) (x24_2:Bool),v24=.bool x24_2∧Aside0 (spec_reader_pick.j0 kq a1 x24_2 s0_0 (wrap64 (s0_1+1))=some (r1,r2))∧Aside0 (kq≤k)∧Aside0 (IsS74 w0 wc g s0_0 (wrap64 (s0_1+1)))∧Aside0 (KeepBut w wc g none)∧Aside0 (Below w0.heap.size w0 wc))
 case first=>
  have H:=HC3.out
  clear HC3
  by_cases c5:a1<1
  ·rw [if_pos c5] at H
   have c5b0:decide (a1<1)=true:=deT c5
   clear c5
   (first|rw [c5b0]|(simp only [i64_w,i32_w];rw [c5b0])|skip)
   have H':=As_ H
   clear H
   go_wp2
   repeat (go_quiet (fail);try go_wp2)
   go_meet
   case rel=>exact ⟨_,(true),zT_,H',⟨by first|omega|exact Nat.le_refl _⟩,⟨by repeat (first|(with_reducible first|exact HI0.out|apply IsS74.alloc|apply IsS74.drewN|apply IsS74.drew|apply IsS74.set_1)|exact HI0.out)⟩,⟨zkp0 HK.out⟩,⟨zb1 HB.out (IsS74.ge HI0.out)⟩⟩
  rw [if_neg c5] at H
  have c5b0:decide (a1<1)=false:=deF c5
  clear c5
  (first|rw [c5b0]|(simp only [i64_w,i32_w];rw [c5b0])|skip)
  have H':=As_ H
  clear H
  obtain ⟨ASz6_0,cSz6_0,HGz6,hgz6,HSz6_0⟩:=HI0.out
  have hcz6_0:=cellS74_0 HGz6
  have hcz6_1:=cellS74_1 HGz6
  have hfz6_1:=bkF HGz6 1
  clear HGz6 hgz6
  go_wp2
  repeat (go_quiet (fail);try go_wp2)
  go_meet
  case rel=>exact ⟨_,(((s0_0.length:Int) == 0)),zT_,H',⟨by first|omega|exact Nat.le_refl _⟩,⟨by repeat (first|(with_reducible first|exact HI0.out|apply IsS74.alloc|apply IsS74.drewN|apply IsS74.drew|apply IsS74.set_1)|exact HI0.out)⟩,⟨zkp0 HK.out⟩,⟨zb1 HB.out (IsS74.ge HI0.out)⟩⟩
 case rest=>
  clear HC3
  obtain ⟨kq,x24_2,rfl,HA,HJ2,HI0,HK,HB⟩:=hcut
  cases kq with
  | zero=>exact absurd HA.out (fun h_=>(by cases h_))
  | succ kj2=>
   have H:=HA.out
   clear HA
   simp only [spec_reader_pick.j0] at H
   by_cases c7:x24_2=true
   ·subst c7
    have H1:(some (0,(wrap64 (s0_1+1))))=some (r1,r2):=by rw [if_pos rfl] at H;exact H
    clear H
    have H:=H1
    clear H1
    simp only [Option.some.injEq,Prod.mk.injEq] at H
    obtain ⟨rfl,rfl⟩:=H
    go_wp2
    repeat (go_quiet (fail);try go_wp2)
    go_ret
    exact ⟨zE_,by repeat (first|(with_reducible first|exact HI0.out|apply IsS74.alloc|apply IsS74.drewN|apply IsS74.drew|apply IsS74.set_1)|exact HI0.out),zb1 HB.out (IsS74.ge HI0.out),zkp0 HK.out⟩
   replace c7:=Bool.eq_false_iff.mpr c7
   subst c7
   have H1:(if (wrap64 ((wrap64 (s0_1+1)) - 1))<(s0_0.length:Int) then (if 0≤(wrap64 ((wrap64 (s0_1+1)) - 1)) then (if a1=0 then (none) else (some (Int.tmod (wrap64 (rd s0_0 (wrap64 ((wrap64 (s0_1+1)) - 1)))) a1,(wrap64 (s0_1+1))))) else (none)) else (if (s0_0.length:Int)=0 then (none) else (if 0≤(Int.tmod (wrap64 ((wrap64 (s0_1+1)) - 1)) (s0_0.length:Int)) then (if (Int.tmod (wrap64 ((wrap64 (s0_1+1)) - 1)) (s0_0.length:Int))<(s0_0.length:Int) then (if 0≤(Int.tmod (wrap64 ((wrap64 ((wrap64 ((wrap64 (s0_1+1)) - 1)) * 7))+3)) (s0_0.length:Int)) then (if (Int.tmod (wrap64 ((wrap64 ((wrap64 ((wrap64 (s0_1+1)) - 1)) * 7))+3)) (s0_0.length:Int))<(s0_0.length:Int) then (if a1=0 then (none) else (some (Int.tmod (Go.bits .xor .i64 (wrap64 ((wrap64 ((wrap64 ((wrap64 ((wrap64 (rd s0_0 (Int.tmod (wrap64 ((wrap64 (s0_1+1)) - 1)) (s0_0.length:Int)))) * 131))+(wrap64 ((wrap64 (rd s0_0 (Int.tmod (wrap64 ((wrap64 ((wrap64 ((wrap64 (s0_1+1)) - 1)) * 7))+3)) (s0_0.length:Int)))) * 1117))))+(wrap64 ((wrap64 ((wrap64 (s0_1+1)) - 1)) * 29))))+(wrap64 ((wrap64 (Int.tdiv (wrap64 ((wrap64 (s0_1+1)) - 1)) (s0_0.length:Int))) * 53)))) (wrap64 (Int.tdiv (wrap64 ((wrap64 ((wrap64 ((wrap64 ((wrap64 (rd s0_0 (Int.tmod (wrap64 ((wrap64 (s0_1+1)) - 1)) (s0_0.length:Int)))) * 131))+(wrap64 ((wrap64 (rd s0_0 (Int.tmod (wrap64 ((wrap64 ((wrap64 ((wrap64 (s0_1+1)) - 1)) * 7))+3)) (s0_0.length:Int)))) * 1117))))+(wrap64 ((wrap64 ((wrap64 (s0_1+1)) - 1)) * 29))))+(wrap64 ((wrap64 (Int.tdiv (wrap64 ((wrap64 (s0_1+1)) - 1)) (s0_0.length:Int))) * 53)))) 64))) a1,(wrap64 (s0_1+1))))) else (none)) else (none)) else (none)) else (none))))=some (r1,r2):=by rw [if_neg (show ¬ (false=true) by decide)] at H;exact H
   clear H
   have H:=H1
   clear H1
   by_cases c8:(wrap64 ((wrap64 (s0_1+1)) - 1))<(s0_0.length:Int)
   ·rw [if_pos c8] at H
    have c8b0:decide ((wrap64 ((wrap64 (s0_1+1)) - 1))<(s0_0.length:Int))=true:=deT c8
    clear c8
    obtain ⟨ji9,hji9⟩:∃ j_:Int,(wrap64 ((wrap64 (s0_1+1)) - 1))=j_:=⟨_,rfl⟩
    replace H:(if 0≤(ji9) then (if a1=0 then (none) else (some (Int.tmod (wrap64 (rd s0_0 (ji9))) a1,(wrap64 (s0_1+1))))) else (none))=some (r1,r2):=by first|(rw [hji9] at H;exact H)|(simp only [hji9] at H ⊢;exact H)
    (try rw [hji9] at c8b0)
    have hji9w:(IntKind.i64.wrap ((wrap64 (s0_1+1)) - 1))=ji9:=(i64_w _).trans hji9
    by_cases c10:0≤(ji9)
    rotate_left
    ·rw [if_neg c10] at H
     exact absurd H (by simp)
    rw [if_pos c10] at H
    have c10b0:decide (0≤(ji9))=true:=deT c10
    clear c10
    by_cases c11:a1=0
    ·rw [if_pos c11] at H
     exact absurd H (by simp)
    rw [if_neg c11] at H
    have c11b0:(a1 == 0)=false:=beq_eq_false_iff_ne.mpr c11
    have c11b1:(a1 != 0)=true:=bne_iff_ne.mpr c11
    simp only [Option.some.injEq,Prod.mk.injEq] at H
    obtain ⟨rfl,rfl⟩:=H
    obtain ⟨ASz12_0,cSz12_0,HGz12,hgz12,HSz12_0⟩:=HI0.out
    have hcz12_0:=cellS74_0 HGz12
    have hcz12_1:=cellS74_1 HGz12
    have hfz12_1:=bkF HGz12 1
    clear HGz12 hgz12
    have p101:0≤((ji9):Int):=odT zA_
    have q101:(ji9)<(s0_0.length:Int):=odT zA_
    obtain ⟨ad101,e101,hx101_0⟩:=Kd.at_int HSz12_0 (ji9) p101 q101
    cases e101
    replace hx101_0:=pw_cell_below HB.out hx101_0
    replace p101:=eq_true p101
    replace q101:=eq_true q101
    go_wp2
    repeat (go_quiet (fail);try go_wp2)
    go_ret
    exact ⟨by first|rfl|(simp [errW_none,errW_some] <;> rfl)|(simp only [← hji9];first|rfl|(simp [errW_none,errW_some] <;> rfl))|(simp [*,errW_none,errW_some] <;> rfl),by repeat (first|(with_reducible first|exact HI0.out|apply IsS74.alloc|apply IsS74.drewN|apply IsS74.drew|apply IsS74.set_1)|exact HI0.out),zb1 HB.out (IsS74.ge HI0.out),zkp0 HK.out⟩
   rw [if_neg c8] at H
   have c8b0:decide ((wrap64 ((wrap64 (s0_1+1)) - 1))<(s0_0.length:Int))=false:=deF c8
   clear c8
   by_cases c13:(s0_0.length:Int)=0
   ·rw [if_pos c13] at H
    exact absurd H (by simp)
   rw [if_neg c13] at H
   have c13b0:((s0_0.length:Int) == 0)=false:=beq_eq_false_iff_ne.mpr c13
   have c13b1:((s0_0.length:Int) != 0)=true:=bne_iff_ne.mpr c13
   have c13b2:¬ (s0_0=[]):=fun h_=>c13 (by rw [h_];rfl)
   obtain ⟨ji14,hji14⟩:∃ j_:Int,(Int.tmod (wrap64 ((wrap64 (s0_1+1)) - 1)) (s0_0.length:Int))=j_:=⟨_,rfl⟩
   replace H:(if 0≤(ji14) then (if (ji14)<(s0_0.length:Int) then (if 0≤(Int.tmod (wrap64 ((wrap64 ((wrap64 ((wrap64 (s0_1+1)) - 1)) * 7))+3)) (s0_0.length:Int)) then (if (Int.tmod (wrap64 ((wrap64 ((wrap64 ((wrap64 (s0_1+1)) - 1)) * 7))+3)) (s0_0.length:Int))<(s0_0.length:Int) then (if a1=0 then (none) else (some (Int.tmod (Go.bits .xor .i64 (wrap64 ((wrap64 ((wrap64 ((wrap64 ((wrap64 (rd s0_0 (ji14))) * 131))+(wrap64 ((wrap64 (rd s0_0 (Int.tmod (wrap64 ((wrap64 ((wrap64 ((wrap64 (s0_1+1)) - 1)) * 7))+3)) (s0_0.length:Int)))) * 1117))))+(wrap64 ((wrap64 ((wrap64 (s0_1+1)) - 1)) * 29))))+(wrap64 ((wrap64 (Int.tdiv (wrap64 ((wrap64 (s0_1+1)) - 1)) (s0_0.length:Int))) * 53)))) (wrap64 (Int.tdiv (wrap64 ((wrap64 ((wrap64 ((wrap64 ((wrap64 (rd s0_0 (ji14))) * 131))+(wrap64 ((wrap64 (rd s0_0 (Int.tmod (wrap64 ((wrap64 ((wrap64 ((wrap64 (s0_1+1)) - 1)) * 7))+3)) (s0_0.length:Int)))) * 1117))))+(wrap64 ((wrap64 ((wrap64 (s0_1+1)) - 1)) * 29))))+(wrap64 ((wrap64 (Int.tdiv (wrap64 ((wrap64 (s0_1+1)) - 1)) (s0_0.length:Int))) * 53)))) 64))) a1,(wrap64 (s0_1+1))))) else (none)) else (none)) else (none)) else (none))=some (r1,r2):=by first|(rw [hji14] at H;exact H)|(simp only [hji14] at H ⊢;exact H)
   by_cases c15:0≤(ji14)
   rotate_left
   ·rw [if_neg c15] at H
    exact absurd H (by simp)
   rw [if_pos c15] at H
   have c15b0:decide (0≤(ji14))=true:=deT c15
   clear c15
   by_cases c16:(ji14)<(s0_0.length:Int)
   rotate_left
   ·rw [if_neg c16] at H
    exact absurd H (by simp)
   rw [if_pos c16] at H
   have c16b0:decide ((ji14)<(s0_0.length:Int))=true:=deT c16
   clear c16
   obtain ⟨ji17,hji17⟩:∃ j_:Int,(Int.tmod (wrap64 ((wrap64 ((wrap64 ((wrap64 (s0_1+1)) - 1)) * 7))+3)) (s0_0.length:Int))=j_:=⟨_,rfl⟩
   replace H:(if 0≤(ji17) then (if (ji17)<(s0_0.length:Int) then (if a1=0 then (none) else (some (Int.tmod (Go.bits .xor .i64 (wrap64 ((wrap64 ((wrap64 ((wrap64 ((wrap64 (rd s0_0 (ji14))) * 131))+(wrap64 ((wrap64 (rd s0_0 (ji17))) * 1117))))+(wrap64 ((wrap64 ((wrap64 (s0_1+1)) - 1)) * 29))))+(wrap64 ((wrap64 (Int.tdiv (wrap64 ((wrap64 (s0_1+1)) - 1)) (s0_0.length:Int))) * 53)))) (wrap64 (Int.tdiv (wrap64 ((wrap64 ((wrap64 ((wrap64 ((wrap64 (rd s0_0 (ji14))) * 131))+(wrap64 ((wrap64 (rd s0_0 (ji17))) * 1117))))+(wrap64 ((wrap64 ((wrap64 (s0_1+1)) - 1)) * 29))))+(wrap64 ((wrap64 (Int.tdiv (wrap64 ((wrap64 (s0_1+1)) - 1)) (s0_0.length:Int))) * 53)))) 64))) a1,(wrap64 (s0_1+1))))) else (none)) else (none))=some (r1,r2):=by first|(rw [hji17] at H;exact H)|(simp only [hji17] at H ⊢;exact H)
   by_cases c18:0≤(ji17)
   rotate_left
   ·rw [if_neg c18] at H
    exact absurd H (by simp)
   rw [if_pos c18] at H
   have c18b0:decide (0≤(ji17))=true:=deT c18
   clear c18
   by_cases c19:(ji17)<(s0_0.length:Int)
   rotate_left
   ·rw [if_neg c19] at H
    exact absurd H (by simp)
   rw [if_pos c19] at H
   have c19b0:decide ((ji17)<(s0_0.length:Int))=true:=deT c19
   clear c19
   by_cases c20:a1=0
   ·rw [if_pos c20] at H
    exact absurd H (by simp)
   rw [if_neg c20] at H
   have c20b0:(a1 == 0)=false:=beq_eq_false_iff_ne.mpr c20
   have c20b1:(a1 != 0)=true:=bne_iff_ne.mpr c20
   simp only [Option.some.injEq,Prod.mk.injEq] at H
   obtain ⟨rfl,rfl⟩:=H
   obtain ⟨ASz21_0,cSz21_0,HGz21,hgz21,HSz21_0⟩:=HI0.out
   have hcz21_0:=cellS74_0 HGz21
   have hcz21_1:=cellS74_1 HGz21
   have hfz21_1:=bkF HGz21 1
   clear HGz21 hgz21
   have p102:0≤((ji14):Int):=odT zA_
   have q102:(ji14)<(s0_0.length:Int):=odT zA_
   obtain ⟨ad102,e102,hx102_0⟩:=Kd.at_int HSz21_0 (ji14) p102 q102
   cases e102
   replace hx102_0:=pw_cell_below HB.out hx102_0
   replace p102:=eq_true p102
   replace q102:=eq_true q102
   have p103:0≤((ji17):Int):=odT zA_
   have q103:(ji17)<(s0_0.length:Int):=odT zA_
   obtain ⟨ad103,e103,hx103_0⟩:=Kd.at_int HSz21_0 (ji17) p103 q103
   obtain rfl:ad102=ad103:=(by injection e103)
   replace hx103_0:=pw_cell_below HB.out hx103_0
   replace p103:=eq_true p103
   replace q103:=eq_true q103
   go_wp2
   repeat (go_quiet (fail);try go_wp2)
   go_ret
   exact ⟨by first|rfl|(simp [errW_none,errW_some] <;> rfl)|(simp only [← hji14,← hji17];first|rfl|(simp [errW_none,errW_some] <;> rfl))|(simp [*,errW_none,errW_some] <;> rfl),by repeat (first|(with_reducible first|exact HI0.out|apply IsS74.alloc|apply IsS74.drewN|apply IsS74.drew|apply IsS74.set_1)|exact HI0.out),zb1 HB.out (IsS74.ge HI0.out),zkp0 HK.out⟩
theorem zi74_0 {P Q:Prop} (h:P) (f:P→Q:=by intro h_;repeat (first | (with_reducible first | exact h_ | apply IsS74.alloc | apply IsS74.drewN | apply IsS74.drew | apply IsS74.set_1) | exact h_)):Q:=f h
theorem zi74_1 {P Q A:Prop} (h:P) (a:A) (f:P→A→Q:=by intro h_ a_;repeat (first | (with_reducible first | exact h_ | apply IsS74.alloc | apply IsS74.drewN | apply IsS74.drew | apply IsS74.set_1 | refine IsS74.far ?_ a_ _) | exact h_)):Q:=f h a
theorem zi74_2 {P Q A B:Prop} (h:P) (a:A) (b:B) (f:P→A→B→Q:=by intro h_ a_ b_;repeat (first | (with_reducible first | exact h_ | apply IsS74.alloc | apply IsS74.drewN | apply IsS74.drew | apply IsS74.set_1 | refine IsS74.far ?_ a_ _ | refine IsS74.far ?_ b_ _) | exact h_)):Q:=f h a b
theorem zi74_3 {P Q A B C:Prop} (h:P) (a:A) (b:B) (c:C) (f:P→A→B→C→Q:=by intro h_ a_ b_ c_;repeat (first | (with_reducible first | exact h_ | apply IsS74.alloc | apply IsS74.drewN | apply IsS74.drew | apply IsS74.set_1 | refine IsS74.far ?_ a_ _ | refine IsS74.far ?_ b_ _ | refine IsS74.far ?_ c_ _) | exact h_)):Q:=f h a b c
theorem zi74_4 {P Q A B C D:Prop} (h:P) (a:A) (b:B) (c:C) (d:D) (f:P→A→B→C→D→Q:=by intro h_ a_ b_ c_ d_;repeat (first | (with_reducible first | exact h_ | apply IsS74.alloc | apply IsS74.drewN | apply IsS74.drew | apply IsS74.set_1 | refine IsS74.far ?_ a_ _ | refine IsS74.far ?_ b_ _ | refine IsS74.far ?_ c_ _ | refine IsS74.far ?_ d_ _) | exact h_)):Q:=f h a b c d
theorem zi74_5 {P Q A B C D E:Prop} (h:P) (a:A) (b:B) (c:C) (d:D) (e:E) (f:P→A→B→C→D→E→Q:=by intro h_ a_ b_ c_ d_ e_;repeat (first | (with_reducible first | exact h_ | apply IsS74.alloc | apply IsS74.drewN | apply IsS74.drew | apply IsS74.set_1 | refine IsS74.far ?_ a_ _ | refine IsS74.far ?_ b_ _ | refine IsS74.far ?_ c_ _ | refine IsS74.far ?_ d_ _ | refine IsS74.far ?_ e_ _) | exact h_)):Q:=f h a b c d e
theorem zi74_6 {P Q A B C D E G:Prop} (h:P) (a:A) (b:B) (c:C) (d:D) (e:E) (g:G) (f:P→A→B→C→D→E→G→Q:=by intro h_ a_ b_ c_ d_ e_ g_;repeat (first | (with_reducible first | exact h_ | apply IsS74.alloc | apply IsS74.drewN | apply IsS74.drew | apply IsS74.set_1 | refine IsS74.far ?_ a_ _ | refine IsS74.far ?_ b_ _ | refine IsS74.far ?_ c_ _ | refine IsS74.far ?_ d_ _ | refine IsS74.far ?_ e_ _ | refine IsS74.far ?_ g_ _) | exact h_)):Q:=f h a b c d e g
def spec_reader_one.f (k:Nat) (s0_0:List Int) (s0_1:Int) (l1:List Int):Option (Int × Int):=(spec_reader_pick.f k s0_0 s0_1 (l1.length:Int)).bind fun bt104=>(if 0≤bt104.1 then (if bt104.1<(l1.length:Int) then (some (rd l1 bt104.1,bt104.2)) else (none)) else (none))
set_option maxRecDepth 100000 in
theorem spec_reader_one.mono:∀ a0 a1 a2 k,LeO (spec_reader_one.f k a0 a1 a2) (spec_reader_one.f (k+1) a0 a1 a2):=by
 intro a0 a1 a2 k
 unfold spec_reader_one.f
 repeat' first
   | (with_reducible exact spec_reader_pick.mono _ _ _ _)
   | (with_reducible exact LeO.refl _)
   | (with_reducible exact LeO.none _)
   | (with_reducible refine LeO.ite ?_ ?_)
   | (with_reducible refine LeO.bind ?_ (fun _=>?_))
   | exact spec_reader_pick.mono _ _ _ _
   | exact LeO.none _
   | refine LeO.ite ?_ ?_
   | refine LeO.bind ?_ (fun _=>?_)
set_option maxHeartbeats 8000000 in
set_option maxRecDepth 100000 in
theorem spec_reader_one.calls (k:Nat) (g:Nat) (s0_0:List Int) (s0_1:Int) (A1:Option Addr) (c1:Nat) (l1:List Int) (r1:Int) (r2:Int) (w0 w:World) (hI:IsS74 w0 w g s0_0 s0_1) (hB:Below w0.heap.size w0 w) (hr1:Kd.C (Kd.int .i64) w A1 l1.length l1) (hc1:l1.length≤c1) (hf1:∀ ad,A1=some ad→0<l1.length→ad.block≠g) (h:spec_reader_one.f k s0_0 s0_1 l1=some (r1,r2)) :
  Calls Try.prog 67 #[.pointer (some ⟨g,0,none⟩),.slice A1 l1.length c1] w fun e w'=>e=.returned (.int .i64 r1)∧IsS74 w0 w' g s0_0 r2∧Below w0.heap.size w0 w'∧KeepBut w w' g none:=by
 have HR1:=As_ hr1
 have HC1:=As_ hc1
 clear hr1 hc1
 have HI0:=As_ hI
 have HK:=As_ (KeepBut.refl w g none)
 have HL:=As_ hB.size
 clear hI
 have HW0:=As_ hB.size
 have HB:=As_ hB
 clear hB
 have H:((spec_reader_pick.f k s0_0 s0_1 (l1.length:Int)).bind fun bt104=>(if 0≤bt104.1 then (if bt104.1<(l1.length:Int) then (some (rd l1 bt104.1,bt104.2)) else (none)) else (none)))=some (r1,r2):=h
 clear h
 replace H:=obS H
 obtain ⟨⟨t104,t105⟩,A30,H⟩:=H
 replace H:(if 0≤t104 then (if t104<(l1.length:Int) then (some (rd l1 t104,t105)) else (none)) else (none))=some (r1,r2):=H
 have A3:=As_ A30
 clear A30
 by_cases c4:0≤t104
 rotate_left
 ·rw [if_neg c4] at H
  exact absurd H (by simp)
 rw [if_pos c4] at H
 have c4b0:decide (0≤t104)=true:=deT c4
 clear c4
 by_cases c5:t104<(l1.length:Int)
 rotate_left
 ·rw [if_neg c5] at H
  exact absurd H (by simp)
 rw [if_pos c5] at H
 have c5b0:decide (t104<(l1.length:Int))=true:=deT c5
 clear c5
 simp only [Option.some.injEq,Prod.mk.injEq] at H
 obtain ⟨rfl,rfl⟩:=H
 go_enter Try.func67,Try.ntmps67
 go_wp2_with (first|((with_reducible refine gate_callee (f:=65) rfl ?_);refine goesL_ (some 9) rfl rfl Try.func65 (by kernel_rfl) rfl #[.pointer (some ⟨g,0,none⟩),.int .i64 (l1.length:Int)] rfl zM_ ?_;(with_reducible refine (spec_reader_pick.calls k g s0_0 s0_1 (l1.length:Int) t104 t105 w0 _ ?side1 ?side2 A3.out).mono ?_);(case side1=>exact zi74_0 HI0.out);(case side2=>exact zb1 HB.out (IsS74.ge HI0.out));rintro e w6 ⟨rfl,hi,hb,hk⟩;refine ⟨_,rfl,?_⟩;have n0_:=As_ (KeepBut.trans (zkp0 HK.out) hk (.inl rfl));have n1_:=As_ (hb);have n2_:=As_ (hi);clear HK HB HI0;revert n0_ n1_ n2_;intro HK HB HI0;have p106:0≤(t104:Int):=odT zA_;have q106:t104<(l1.length:Int):=odT zA_;obtain ⟨ad106,e106,hx106_0⟩:=Kd.at_int HR1.out t104 p106 q106;cases e106;replace hx106_0:=keep_cell HK.out hx106_0 (by first|(rw [add_block];exact hf1 _ rfl (by omega))|exact hf1 _ rfl (by omega)|exact hf1 ad106 rfl (by omega));replace p106:=eq_true p106;replace q106:=eq_true q106))
 go_ret
 exact ⟨zE_,zi74_0 HI0.out,zb1 HB.out (IsS74.ge HI0.out),zkp0 HK.out⟩
mutual
def spec_someNode.j0:Nat→Int→Bool→List Int→Int→Option (Int × Int × List Int × Int)
 | 0,_,_,_,_=>none
 | k+1,x4,x18,x1000,x1001=>if x18=true then (some (2,0,([]:List Int),x1001)) else (if x4=4 then (spec_someNode.j1 k x4 (x4 == 4) x1000 x1001) else (spec_someNode.j1 k x4 (x4 == 5) x1000 x1001))
def spec_someNode.j1:Nat→Int→Bool→List Int→Int→Option (Int × Int × List Int × Int)
 | 0,_,_,_,_=>none
 | k+1,x4,x22,x1000,x1001=>if x22=true then (some (3,0,([]:List Int),x1001)) else (if x4=6 then (some (4,0,([]:List Int),x1001)) else ((spec_reader_pick.f k x1000 x1001 3).bind fun bt119=>(some (5,bt119.1,([]:List Int),bt119.2))))
end
def spec_someNode.f (k:Nat) (s0_0:List Int) (s0_1:Int):Option (Int × Int × List Int × Int):=(spec_reader_pick.f k s0_0 s0_1 8).bind fun bt108=>(if bt108.1=0 then ((spec_reader_pick.f k s0_0 bt108.2 250).bind fun bt110=>((spec_reader_one.f k s0_0 bt110.2 (([5,127,128,999,bt110.1]:List Int))).bind fun bt115=>(some (0,bt115.1,([]:List Int),bt115.2)))) else (if bt108.1=1 then ((spec_reader_pick.f k s0_0 bt108.2 3).bind fun bt117=>(some (1,bt117.1,([]:List Int),bt117.2))) else (if bt108.1=2 then (spec_someNode.j0 k bt108.1 (bt108.1 == 2) s0_0 bt108.2) else (spec_someNode.j0 k bt108.1 (bt108.1 == 3) s0_0 bt108.2))))
set_option maxRecDepth 100000 in
theorem spec_someNode.mono_l:∀ k,(∀ y0 y1 y2 y3,LeO (spec_someNode.j0 k y0 y1 y2 y3) (spec_someNode.j0 (k+1) y0 y1 y2 y3))∧(∀ y0 y1 y2 y3,LeO (spec_someNode.j1 k y0 y1 y2 y3) (spec_someNode.j1 (k+1) y0 y1 y2 y3))
 | 0=>⟨fun _ _ _ _ r h=>(by cases h),fun _ _ _ _ r h=>(by cases h)⟩
 | k+1=>by
  obtain ⟨ih0,ih1⟩:=spec_someNode.mono_l k
  refine ⟨?_,?_⟩
  ·intro y0 y1 y2 y3
   unfold spec_someNode.j0
   repeat' first
   | (with_reducible exact ih0 _ _ _ _)
   | (with_reducible exact ih1 _ _ _ _)
   | (with_reducible exact spec_reader_one.mono _ _ _ _)
   | (with_reducible exact spec_reader_pick.mono _ _ _ _)
   | (with_reducible exact LeO.refl _)
   | (with_reducible exact LeO.none _)
   | (with_reducible refine LeO.ite ?_ ?_)
   | (with_reducible refine LeO.bind ?_ (fun _=>?_))
   | exact ih0 _ _ _ _
   | exact ih1 _ _ _ _
   | exact spec_reader_one.mono _ _ _ _
   | exact spec_reader_pick.mono _ _ _ _
   | exact LeO.none _
   | refine LeO.ite ?_ ?_
   | refine LeO.bind ?_ (fun _=>?_)
  ·intro y0 y1 y2 y3
   unfold spec_someNode.j1
   repeat' first
   | (with_reducible exact ih0 _ _ _ _)
   | (with_reducible exact ih1 _ _ _ _)
   | (with_reducible exact spec_reader_one.mono _ _ _ _)
   | (with_reducible exact spec_reader_pick.mono _ _ _ _)
   | (with_reducible exact LeO.refl _)
   | (with_reducible exact LeO.none _)
   | (with_reducible refine LeO.ite ?_ ?_)
   | (with_reducible refine LeO.bind ?_ (fun _=>?_))
   | exact ih0 _ _ _ _
   | exact ih1 _ _ _ _
   | exact spec_reader_one.mono _ _ _ _
   | exact spec_reader_pick.mono _ _ _ _
   | exact LeO.none _
   | refine LeO.ite ?_ ?_
   | refine LeO.bind ?_ (fun _=>?_)
set_option maxRecDepth 100000 in
theorem spec_someNode.mono:∀ a0 a1 k,LeO (spec_someNode.f k a0 a1) (spec_someNode.f (k+1) a0 a1):=by
 intro a0 a1 k
 obtain ⟨ih0,ih1⟩:=spec_someNode.mono_l k
 unfold spec_someNode.f
 repeat' first
   | (with_reducible exact ih0 _ _ _ _)
   | (with_reducible exact ih1 _ _ _ _)
   | (with_reducible exact spec_reader_one.mono _ _ _ _)
   | (with_reducible exact spec_reader_pick.mono _ _ _ _)
   | (with_reducible exact LeO.refl _)
   | (with_reducible exact LeO.none _)
   | (with_reducible refine LeO.ite ?_ ?_)
   | (with_reducible refine LeO.bind ?_ (fun _=>?_))
   | exact ih0 _ _ _ _
   | exact ih1 _ _ _ _
   | exact spec_reader_one.mono _ _ _ _
   | exact spec_reader_pick.mono _ _ _ _
   | exact LeO.none _
   | refine LeO.ite ?_ ?_
   | refine LeO.bind ?_ (fun _=>?_)
set_option maxHeartbeats 8000000 in
set_option maxRecDepth 100000 in
theorem spec_someNode.calls (k:Nat) (g:Nat) (s0_0:List Int) (s0_1:Int) (r1:Int) (r2:Int) (r3:List Int) (r4:Int) (w0 w:World) (hI:IsS74 w0 w g s0_0 s0_1) (hB:Below w0.heap.size w0 w) (h:spec_someNode.f k s0_0 s0_1=some (r1,r2,r3,r4)) :
  Calls Try.prog 96 #[.pointer (some ⟨g,0,none⟩)] w fun e w'=>∃ v2_:Value,v2_=.slice none 0 0∧e=.returned (.agg #[.int .i64 r1,.int .i64 r2,v2_])∧Kd.R (Kd.int .i64) 3 w' w.heap.size (fun _=>True) v2_ r3∧IsS74 w0 w' g s0_0 r4∧Below w0.heap.size w0 w'∧KeepBut w w' g none:=by
 have hu58:=Try.underlying58
 have HI0:=As_ hI
 have HK:=As_ (KeepBut.refl w g none)
 have HL:=As_ hB.size
 clear hI
 have HW0:=As_ hB.size
 have HB:=As_ hB
 clear hB
 have H:((spec_reader_pick.f k s0_0 s0_1 8).bind fun bt108=>(if bt108.1=0 then ((spec_reader_pick.f k s0_0 bt108.2 250).bind fun bt110=>((spec_reader_one.f k s0_0 bt110.2 (([5,127,128,999,bt110.1]:List Int))).bind fun bt115=>(some (0,bt115.1,([]:List Int),bt115.2)))) else (if bt108.1=1 then ((spec_reader_pick.f k s0_0 bt108.2 3).bind fun bt117=>(some (1,bt117.1,([]:List Int),bt117.2))) else (if bt108.1=2 then (spec_someNode.j0 k bt108.1 (bt108.1 == 2) s0_0 bt108.2) else (spec_someNode.j0 k bt108.1 (bt108.1 == 3) s0_0 bt108.2)))))=some (r1,r2,r3,r4):=h
 clear h
 replace H:=obS H
 obtain ⟨⟨t108,t109⟩,A20,H⟩:=H
 replace H:(if t108=0 then ((spec_reader_pick.f k s0_0 t109 250).bind fun bt110=>((spec_reader_one.f k s0_0 bt110.2 (([5,127,128,999,bt110.1]:List Int))).bind fun bt115=>(some (0,bt115.1,([]:List Int),bt115.2)))) else (if t108=1 then ((spec_reader_pick.f k s0_0 t109 3).bind fun bt117=>(some (1,bt117.1,([]:List Int),bt117.2))) else (if t108=2 then (spec_someNode.j0 k t108 (t108 == 2) s0_0 t109) else (spec_someNode.j0 k t108 (t108 == 3) s0_0 t109))))=some (r1,r2,r3,r4):=H
 have A2:=As_ A20
 clear A20
 by_cases c3:t108=0
 ·rw [if_pos c3] at H
  have c3b0:(t108 == 0)=true:=beq_iff_eq.mpr c3
  have c3b1:(t108 != 0)=false:=bne_eq_false_iff_eq.mpr c3
  clear c3
  replace H:=obS H
  obtain ⟨⟨t110,t111⟩,A40,H⟩:=H
  replace H:((spec_reader_one.f k s0_0 t111 (([5,127,128,999,t110]:List Int))).bind fun bt115=>(some (0,bt115.1,([]:List Int),bt115.2)))=some (r1,r2,r3,r4):=H
  have A4:=As_ A40
  clear A40
  obtain ⟨y112,hy112⟩:∃ y_:List Int,y_=(([5,127,128,999,t110]:List Int)):=⟨_,rfl⟩
  replace H:((spec_reader_one.f k s0_0 t111 y112).bind fun bt115=>(some (0,bt115.1,([]:List Int),bt115.2)))=some (r1,r2,r3,r4):=zH_ H hy112
  have Ny112:=As_ hy112
  clear hy112
  replace H:=obS H
  obtain ⟨⟨t115,t116⟩,A50,H⟩:=H
  replace H:(some (0,t115,([]:List Int),t116))=some (r1,r2,r3,r4):=H
  have A5:=As_ A50
  clear A50
  simp only [Option.some.injEq,Prod.mk.injEq] at H
  obtain ⟨rfl,rfl,rfl,rfl⟩:=H
  go_enter Try.func96,Try.ntmps96
  go_wp2_with (first|((with_reducible refine gate_dst (N:=2) rfl ?_);refine box_event ?hg (N:=2) ?hd (cs:=#[.int .i64 0,.int .i64 0,.slice none 0 0]) (t:=58) ?hr ?_;(case hd=>rfl);(case hg=>rfl);(case hr=>go_simp <;> rfl);intro gb107 hg w6 hbox hb;have n0_:=As_ (IsS74.below (zi74_0 HI0.out) hb);have n1_:=As_ (KeepBut.trans (zkp0 HK.out) (KeepBut.of_below hb g none) (.inl rfl));have n2_:=As_ (bwT (zb1 HB.out (IsS74.ge HI0.out)) hb);have n3_:=As_ (hbox);have n4_:=As_ ((by rw [hg];exact (keep_size (w:=w) (g:=g) (row:=none) (zkp0 HK.out)):w.heap.size≤gb107));have n5_:=As_ ((Nat.le_trans HW0.out (by rw [hg];exact (keep_size (w:=w) (g:=g) (row:=none) (zkp0 HK.out)):w.heap.size≤gb107):w0.heap.size≤gb107));have n6_:=As_ ((by rw [hg];exact Nat.ne_of_lt (IsS74.lt (show IsS74 w0 _ g s0_0 s0_1 from zi74_0 HI0.out)):g≠gb107));have n7_:=As_ ((by rw [hg];exact Nat.ne_of_gt (IsS74.lt (show IsS74 w0 _ g s0_0 s0_1 from zi74_0 HI0.out)):gb107≠g));clear HI0 HK HB;revert n0_ n1_ n2_ n3_ n4_ n5_ n6_ n7_;intro HI0 HK HB BK107 GW107 GE107 NB0_107 NB107_0;clear hb hbox hg)|((with_reducible refine gate_callee (f:=65) rfl ?_);refine goesL_ (some 4) rfl rfl Try.func65 (by kernel_rfl) rfl #[.pointer (some ⟨g,0,none⟩),.int .i64 8] rfl zM_ ?_;(with_reducible refine (spec_reader_pick.calls k g s0_0 s0_1 8 t108 t109 w0 _ ?side1 ?side2 A2.out).mono ?_);(case side1=>exact zi74_1 HI0.out NB0_107.out);(case side2=>exact zb2 HB.out (IsS74.ge HI0.out) GE107.out);rintro e w7 ⟨rfl,hi,hb,hk⟩;refine ⟨_,rfl,?_⟩;have n0_:=As_ (KeepBut.blk hk (g':=gb107) (o:=.cells #[.int .i64 0,.int .i64 0,.slice none 0 0] 58 (0,0)) (zk_ BK107.out) NB107_0.out (by simp));have n1_:=As_ (KeepBut.trans (zkp1 HK.out GW107.out) hk (.inl rfl));have n2_:=As_ (hb);have n3_:=As_ (hi);clear BK107 HK HB HI0;revert n0_ n1_ n2_ n3_;intro BK107 HK HB HI0)|((with_reducible refine gate_callee (f:=65) rfl ?_);refine goesL_ (some 9) rfl rfl Try.func65 (by kernel_rfl) rfl #[.pointer (some ⟨g,0,none⟩),.int .i64 250] rfl zM_ ?_;(with_reducible refine (spec_reader_pick.calls k g s0_0 t109 250 t110 t111 w0 _ ?side1 ?side2 A4.out).mono ?_);(case side1=>exact zi74_1 HI0.out NB0_107.out);(case side2=>exact zb2 HB.out (IsS74.ge HI0.out) GE107.out);rintro e w8 ⟨rfl,hi,hb,hk⟩;refine ⟨_,rfl,?_⟩;have n0_:=As_ (KeepBut.blk hk (g':=gb107) (o:=.cells #[.int .i64 0,.int .i64 0,.slice none 0 0] 58 (0,0)) (zk_ BK107.out) NB107_0.out (by simp));have n1_:=As_ (KeepBut.trans (zkp1 HK.out GW107.out) hk (.inl rfl));have n2_:=As_ (hb);have n3_:=As_ (hi);clear BK107 HK HB HI0;revert n0_ n1_ n2_ n3_;intro BK107 HK HB HI0)|((with_reducible refine gate_dst (N:=10) rfl ?_);refine Kd.R_lit (Kd.int .i64) _ 3 ?hg (N:=10) ?hd (xs:=([5,127,128,999,t110]:List Int)) (inner:=[.int .i64 5,.int .i64 127,.int .i64 128,.int .i64 999,.int .i64 t110]) (ok:=fun _=>True) (okp:=fun _=>True) ?hr ?hp (fun _ hk=>hk) trivial (Below.refl _ _) (Nat.le_refl _) (by simp) ?_;(case hd=>rfl);(case hg=>rfl);(case hr=>go_simp <;> rfl);(case hp=>exact (Reps.one (show Kd.M (Kd.int .i64) _ _ _ 5 [.int .i64 5] from rfl) (Reps.one (show Kd.M (Kd.int .i64) _ _ _ 127 [.int .i64 127] from rfl) (Reps.one (show Kd.M (Kd.int .i64) _ _ _ 128 [.int .i64 128] from rfl) (Reps.one (show Kd.M (Kd.int .i64) _ _ _ 999 [.int .i64 999] from rfl) (Reps.one (show Kd.M (Kd.int .i64) _ _ _ t110 [.int .i64 t110] from rfl) (Reps.none _ _)))))));intro v113 w9 ho10 hb hg_ hnew_;clear hg_ hnew_;(first|rw [← Ny112.out] at ho10|(simp only [Int.reduceToNat] at ho10;rw [← Ny112.out] at ho10));have n0_:=As_ (Kd.R_lower ho10 (keep_size (w:=w) (g:=g) (row:=none) (zkp1 HK.out GW107.out)));have n1_:=As_ (IsS74.below (zi74_1 HI0.out NB0_107.out) hb);have n2_:=As_ (zkb BK107.out hb);have n3_:=As_ (KeepBut.trans (zkp1 HK.out GW107.out) (KeepBut.of_below hb g none) (.inl rfl));have n4_:=As_ (bwT (zb2 HB.out (IsS74.ge HI0.out) GE107.out) hb);clear HI0 BK107 HK HB;revert n0_ n1_ n2_ n3_ n4_;intro HO114 HI0 BK107 HK HB;clear hb ho10;obtain ⟨Ao11,co11,eo11⟩:=Kd.R_slice HO114.out;subst eo11)|((with_reducible refine gate_callee (f:=67) rfl ?_);refine goesL_ (some 11) rfl rfl Try.func67 (by kernel_rfl) rfl #[.pointer (some ⟨g,0,none⟩),.slice Ao11 y112.length co11] rfl zM_ ?_;(with_reducible refine (spec_reader_one.calls k g s0_0 t111 _ _ y112 t115 t116 w0 _ ?side1 ?side2 ?side3 ?side4 ?side5 A5.out).mono ?_);(case side1=>exact zi74_1 HI0.out NB0_107.out);(case side2=>exact zb2 HB.out (IsS74.ge HI0.out) GE107.out);(case side3=>exact zC_ (Kd.R_reads' HO114.out).2.2);(case side4=>exact (Kd.R_reads' HO114.out).2.1);(case side5=>exact far_slice (IsS74.own_ne HI0.out HO114.out (by decide)));rintro e w12 ⟨rfl,hi,hb,hk⟩;refine ⟨_,rfl,?_⟩;have n0_:=As_ (KeepBut.blk hk (g':=gb107) (o:=.cells #[.int .i64 0,.int .i64 0,.slice none 0 0] 58 (0,0)) (zk_ BK107.out) NB107_0.out (by simp));have n1_:=As_ (Kd.R_mono (Kd.R_keep (IsS74.apart (show IsS74 w0 _ g s0_0 t111 from zi74_1 HI0.out NB0_107.out) (zR_ HO114.out) (by decide)) hk (fun _ h=>h.2)) (fun _ h=>h.1));have n2_:=As_ (KeepBut.trans (zkp1 HK.out GW107.out) hk (.inl rfl));have n3_:=As_ (hb);have n4_:=As_ (hi);clear BK107 HO114 HK HB HI0;revert n0_ n1_ n2_ n3_ n4_;intro BK107 HO114 HK HB HI0;have hnb13:=NB107_0.out;have hnc13:=NB0_107.out;obtain ⟨hcz14_0,hcz14_1,hcz14_2,hfz14_0,hfz14_1,hfz14_2⟩:=bk3 BK107.out))
  refine bodyPost_ret (results_cell_row rfl _ _ gb107 58 #[.int .i64 0,.int .i64 t115,.slice none 0 0] (0,0) _ rfl (by (with_reducible repeat first|apply bkN|apply bkD|apply bkA);refine blk_put (cs:=#[.int .i64 0,.int .i64 t115,.slice none 0 0]) ?_ 2 _ rfl;(with_reducible repeat first|apply bkN|apply bkD|apply bkA);refine blk_put (cs:=#[.int .i64 0,.int .i64 0,.slice none 0 0]) ?_ 1 _ rfl;(with_reducible repeat first|apply bkN|apply bkD|apply bkA);refine blk_put (cs:=#[.int .i64 0,.int .i64 0,.slice none 0 0]) ?_ 0 _ rfl;(with_reducible repeat first|apply bkN|apply bkD|apply bkA);exact BK107.out) Try.underlying58 rfl (by kernel_rfl)) rfl ?_
  exact ⟨_,rfl,zE_,by first|exact Kd.R_nil _ _ _ _ _|exact Kd.N_nil _ _ _ _ _|exact Kd.V_nil _ _ _ _ _|exact Kd.Q_nil _ _ _ _ _|exact Kd.S_nil _ _ _ _ _,zi74_1 HI0.out NB0_107.out,zb2 HB.out (IsS74.ge HI0.out) GE107.out,zkp1 HK.out GW107.out⟩
 rw [if_neg c3] at H
 have c3b0:(t108 == 0)=false:=beq_eq_false_iff_ne.mpr c3
 have c3b1:(t108 != 0)=true:=bne_iff_ne.mpr c3
 by_cases c15:t108=1
 ·rw [if_pos c15] at H
  have c15b0:(t108 == 1)=true:=beq_iff_eq.mpr c15
  have c15b1:(t108 != 1)=false:=bne_eq_false_iff_eq.mpr c15
  clear c15
  replace H:=obS H
  obtain ⟨⟨t117,t118⟩,A160,H⟩:=H
  replace H:(some (1,t117,([]:List Int),t118))=some (r1,r2,r3,r4):=H
  have A16:=As_ A160
  clear A160
  simp only [Option.some.injEq,Prod.mk.injEq] at H
  obtain ⟨rfl,rfl,rfl,rfl⟩:=H
  go_enter Try.func96,Try.ntmps96
  go_wp2_with (first|((with_reducible refine gate_dst (N:=2) rfl ?_);refine box_event ?hg (N:=2) ?hd (cs:=#[.int .i64 0,.int .i64 0,.slice none 0 0]) (t:=58) ?hr ?_;(case hd=>rfl);(case hg=>rfl);(case hr=>go_simp <;> rfl);intro gb107 hg w17 hbox hb;have n0_:=As_ (IsS74.below (zi74_0 HI0.out) hb);have n1_:=As_ (KeepBut.trans (zkp0 HK.out) (KeepBut.of_below hb g none) (.inl rfl));have n2_:=As_ (bwT (zb1 HB.out (IsS74.ge HI0.out)) hb);have n3_:=As_ (hbox);have n4_:=As_ ((by rw [hg];exact (keep_size (w:=w) (g:=g) (row:=none) (zkp0 HK.out)):w.heap.size≤gb107));have n5_:=As_ ((Nat.le_trans HW0.out (by rw [hg];exact (keep_size (w:=w) (g:=g) (row:=none) (zkp0 HK.out)):w.heap.size≤gb107):w0.heap.size≤gb107));have n6_:=As_ ((by rw [hg];exact Nat.ne_of_lt (IsS74.lt (show IsS74 w0 _ g s0_0 s0_1 from zi74_0 HI0.out)):g≠gb107));have n7_:=As_ ((by rw [hg];exact Nat.ne_of_gt (IsS74.lt (show IsS74 w0 _ g s0_0 s0_1 from zi74_0 HI0.out)):gb107≠g));clear HI0 HK HB;revert n0_ n1_ n2_ n3_ n4_ n5_ n6_ n7_;intro HI0 HK HB BK107 GW107 GE107 NB0_107 NB107_0;clear hb hbox hg)|((with_reducible refine gate_callee (f:=65) rfl ?_);refine goesL_ (some 4) rfl rfl Try.func65 (by kernel_rfl) rfl #[.pointer (some ⟨g,0,none⟩),.int .i64 8] rfl zM_ ?_;(with_reducible refine (spec_reader_pick.calls k g s0_0 s0_1 8 t108 t109 w0 _ ?side1 ?side2 A2.out).mono ?_);(case side1=>exact zi74_1 HI0.out NB0_107.out);(case side2=>exact zb2 HB.out (IsS74.ge HI0.out) GE107.out);rintro e w18 ⟨rfl,hi,hb,hk⟩;refine ⟨_,rfl,?_⟩;have n0_:=As_ (KeepBut.blk hk (g':=gb107) (o:=.cells #[.int .i64 0,.int .i64 0,.slice none 0 0] 58 (0,0)) (zk_ BK107.out) NB107_0.out (by simp));have n1_:=As_ (KeepBut.trans (zkp1 HK.out GW107.out) hk (.inl rfl));have n2_:=As_ (hb);have n3_:=As_ (hi);clear BK107 HK HB HI0;revert n0_ n1_ n2_ n3_;intro BK107 HK HB HI0)|((with_reducible refine gate_callee (f:=65) rfl ?_);refine goesL_ (some 16) rfl rfl Try.func65 (by kernel_rfl) rfl #[.pointer (some ⟨g,0,none⟩),.int .i64 3] rfl zM_ ?_;(with_reducible refine (spec_reader_pick.calls k g s0_0 t109 3 t117 t118 w0 _ ?side1 ?side2 A16.out).mono ?_);(case side1=>exact zi74_1 HI0.out NB0_107.out);(case side2=>exact zb2 HB.out (IsS74.ge HI0.out) GE107.out);rintro e w19 ⟨rfl,hi,hb,hk⟩;refine ⟨_,rfl,?_⟩;have n0_:=As_ (KeepBut.blk hk (g':=gb107) (o:=.cells #[.int .i64 0,.int .i64 0,.slice none 0 0] 58 (0,0)) (zk_ BK107.out) NB107_0.out (by simp));have n1_:=As_ (KeepBut.trans (zkp1 HK.out GW107.out) hk (.inl rfl));have n2_:=As_ (hb);have n3_:=As_ (hi);clear BK107 HK HB HI0;revert n0_ n1_ n2_ n3_;intro BK107 HK HB HI0;have hnb20:=NB107_0.out;have hnc20:=NB0_107.out;obtain ⟨hcz21_0,hcz21_1,hcz21_2,hfz21_0,hfz21_1,hfz21_2⟩:=bk3 BK107.out))
  refine bodyPost_ret (results_cell_row rfl _ _ gb107 58 #[.int .i64 1,.int .i64 t117,.slice none 0 0] (0,0) _ rfl (by (with_reducible repeat first|apply bkN|apply bkD|apply bkA);refine blk_put (cs:=#[.int .i64 1,.int .i64 t117,.slice none 0 0]) ?_ 2 _ rfl;(with_reducible repeat first|apply bkN|apply bkD|apply bkA);refine blk_put (cs:=#[.int .i64 1,.int .i64 0,.slice none 0 0]) ?_ 1 _ rfl;(with_reducible repeat first|apply bkN|apply bkD|apply bkA);refine blk_put (cs:=#[.int .i64 0,.int .i64 0,.slice none 0 0]) ?_ 0 _ rfl;(with_reducible repeat first|apply bkN|apply bkD|apply bkA);exact BK107.out) Try.underlying58 rfl (by kernel_rfl)) rfl ?_
  exact ⟨_,rfl,zE_,by first|exact Kd.R_nil _ _ _ _ _|exact Kd.N_nil _ _ _ _ _|exact Kd.V_nil _ _ _ _ _|exact Kd.Q_nil _ _ _ _ _|exact Kd.S_nil _ _ _ _ _,zi74_1 HI0.out NB0_107.out,zb2 HB.out (IsS74.ge HI0.out) GE107.out,zkp1 HK.out GW107.out⟩
 rw [if_neg c15] at H
 have c15b0:(t108 == 1)=false:=beq_eq_false_iff_ne.mpr c15
 have c15b1:(t108 != 1)=true:=bne_iff_ne.mpr c15
 have HC22:=As_ H
 clear H
 go_enter Try.func96,Try.ntmps96
 go_upto_if 18 with (first|((with_reducible refine gate_dst (N:=2) rfl ?_);refine box_event ?hg (N:=2) ?hd (cs:=#[.int .i64 0,.int .i64 0,.slice none 0 0]) (t:=58) ?hr ?_;(case hd=>rfl);(case hg=>rfl);(case hr=>go_simp <;> rfl);intro gb107 hg w23 hbox hb;have n0_:=As_ (IsS74.below (zi74_0 HI0.out) hb);have n1_:=As_ (KeepBut.trans (zkp0 HK.out) (KeepBut.of_below hb g none) (.inl rfl));have n2_:=As_ (bwT (zb1 HB.out (IsS74.ge HI0.out)) hb);have n3_:=As_ (hbox);have n4_:=As_ ((by rw [hg];exact (keep_size (w:=w) (g:=g) (row:=none) (zkp0 HK.out)):w.heap.size≤gb107));have n5_:=As_ ((Nat.le_trans HW0.out (by rw [hg];exact (keep_size (w:=w) (g:=g) (row:=none) (zkp0 HK.out)):w.heap.size≤gb107):w0.heap.size≤gb107));have n6_:=As_ ((by rw [hg];exact Nat.ne_of_lt (IsS74.lt (show IsS74 w0 _ g s0_0 s0_1 from zi74_0 HI0.out)):g≠gb107));have n7_:=As_ ((by rw [hg];exact Nat.ne_of_gt (IsS74.lt (show IsS74 w0 _ g s0_0 s0_1 from zi74_0 HI0.out)):gb107≠g));clear HI0 HK HB;revert n0_ n1_ n2_ n3_ n4_ n5_ n6_ n7_;intro HI0 HK HB BK107 GW107 GE107 NB0_107 NB107_0;clear hb hbox hg)|((with_reducible refine gate_callee (f:=65) rfl ?_);refine goesL_ (some 4) rfl rfl Try.func65 (by kernel_rfl) rfl #[.pointer (some ⟨g,0,none⟩),.int .i64 8] rfl zM_ ?_;(with_reducible refine (spec_reader_pick.calls k g s0_0 s0_1 8 t108 t109 w0 _ ?side1 ?side2 A2.out).mono ?_);(case side1=>exact zi74_1 HI0.out NB0_107.out);(case side2=>exact zb2 HB.out (IsS74.ge HI0.out) GE107.out);rintro e w24 ⟨rfl,hi,hb,hk⟩;refine ⟨_,rfl,?_⟩;have n0_:=As_ (KeepBut.blk hk (g':=gb107) (o:=.cells #[.int .i64 0,.int .i64 0,.slice none 0 0] 58 (0,0)) (zk_ BK107.out) NB107_0.out (by simp));have n1_:=As_ (KeepBut.trans (zkp1 HK.out GW107.out) hk (.inl rfl));have n2_:=As_ (hb);have n3_:=As_ (hi);clear BK107 HK HB HI0;revert n0_ n1_ n2_ n3_;intro BK107 HK HB HI0))
 (try simp only [Act.put,List.setIfInBounds_toArray,List.set_cons_zero,List.set_cons_succ])
 go_cut [18] (fun v18 wc=>∃ (kq:Nat) (x18_21:Bool),v18=.bool x18_21∧Aside0 (spec_someNode.j0 kq t108 x18_21 s0_0 t109=some (r1,r2,r3,r4))∧Aside0 (kq≤k)∧Aside0 (wc.heap[gb107]?=some (.cells #[.int .i64 0,.int .i64 0,(.slice none 0 0)] 58 (0,0)))∧Aside0 (IsS74 w0 wc g s0_0 t109)∧Aside0 (KeepBut w wc g none)∧Aside0 (Below w0.heap.size w0 wc))
 case first=>
  have H:=HC22.out
  clear HC22
  by_cases c25:t108=2
  rotate_left
  ·rw [if_neg c25] at H
   have c25b0:(t108 == 2)=false:=beq_eq_false_iff_ne.mpr c25
   have c25b1:(t108 != 2)=true:=bne_iff_ne.mpr c25
   (first|rw [c25b0]|(simp only [i64_w,i32_w];rw [c25b0])|skip)
   have H':=As_ H
   clear H
   go_wp2
   go_meet
   case rel=>exact ⟨_,((t108 == 3)),zT_,H',⟨by first|omega|exact Nat.le_refl _⟩,⟨by (with_reducible repeat first|apply bkN|apply bkD|apply bkA);exact BK107.out⟩,⟨zi74_1 HI0.out NB0_107.out⟩,⟨zkp1 HK.out GW107.out⟩,⟨zb2 HB.out (IsS74.ge HI0.out) GE107.out⟩⟩
  rw [if_pos c25] at H
  have c25b0:(t108 == 2)=true:=beq_iff_eq.mpr c25
  have c25b1:(t108 != 2)=false:=bne_eq_false_iff_eq.mpr c25
  clear c25
  (first|rw [c25b0]|(simp only [i64_w,i32_w];rw [c25b0])|skip)
  have H':=As_ H
  clear H
  go_wp2
  go_meet
  case rel=>exact ⟨_,((t108 == 2)),zT_,H',⟨by first|omega|exact Nat.le_refl _⟩,⟨by (with_reducible repeat first|apply bkN|apply bkD|apply bkA);exact BK107.out⟩,⟨zi74_1 HI0.out NB0_107.out⟩,⟨zkp1 HK.out GW107.out⟩,⟨zb2 HB.out (IsS74.ge HI0.out) GE107.out⟩⟩
 case rest=>
  clear HC22
  obtain ⟨kq,x18_21,rfl,HA,HJ21,BK107,HI0,HK,HB⟩:=hcut
  cases kq with
  | zero=>exact absurd HA.out (fun h_=>(by cases h_))
  | succ kj21=>
   have H:=HA.out
   clear HA
   simp only [spec_someNode.j0] at H
   by_cases c26:x18_21=true
   ·subst c26
    have H1:(some (2,0,([]:List Int),t109))=some (r1,r2,r3,r4):=by rw [if_pos rfl] at H;exact H
    clear H
    have H:=H1
    clear H1
    simp only [Option.some.injEq,Prod.mk.injEq] at H
    obtain ⟨rfl,rfl,rfl,rfl⟩:=H
    have hnb27:=NB107_0.out
    have hnc27:=NB0_107.out
    obtain ⟨hcz28_0,hcz28_1,hcz28_2,hfz28_0,hfz28_1,hfz28_2⟩:=bk3 BK107.out
    go_wp2
    refine bodyPost_ret (results_cell_row rfl _ _ gb107 58 #[.int .i64 2,.int .i64 0,.slice none 0 0] (0,0) _ rfl (by (with_reducible repeat first|apply bkN|apply bkD|apply bkA);refine blk_put (cs:=#[.int .i64 2,.int .i64 0,.slice none 0 0]) ?_ 2 _ rfl;(with_reducible repeat first|apply bkN|apply bkD|apply bkA);refine blk_put (cs:=#[.int .i64 2,.int .i64 0,.slice none 0 0]) ?_ 1 _ rfl;(with_reducible repeat first|apply bkN|apply bkD|apply bkA);refine blk_put (cs:=#[.int .i64 0,.int .i64 0,.slice none 0 0]) ?_ 0 _ rfl;(with_reducible repeat first|apply bkN|apply bkD|apply bkA);exact BK107.out) Try.underlying58 rfl (by kernel_rfl)) rfl ?_
    exact ⟨_,rfl,zE_,by first|exact Kd.R_nil _ _ _ _ _|exact Kd.N_nil _ _ _ _ _|exact Kd.V_nil _ _ _ _ _|exact Kd.Q_nil _ _ _ _ _|exact Kd.S_nil _ _ _ _ _,zi74_1 HI0.out NB0_107.out,zb2 HB.out (IsS74.ge HI0.out) GE107.out,zkp1 HK.out GW107.out⟩
   replace c26:=Bool.eq_false_iff.mpr c26
   subst c26
   have H1:(if t108=4 then (spec_someNode.j1 kj21 t108 (t108 == 4) s0_0 t109) else (spec_someNode.j1 kj21 t108 (t108 == 5) s0_0 t109))=some (r1,r2,r3,r4):=by rw [if_neg (show ¬ (false=true) by decide)] at H;exact H
   clear H
   have H:=H1
   clear H1
   have HC29:=As_ H
   clear H
   go_upto_if 22 with (fail)
   go_cut [22] (fun v22 wc=>∃ (kq:Nat) (x22_28:Bool),v22=.bool x22_28∧Aside0 (spec_someNode.j1 kq t108 x22_28 s0_0 t109=some (r1,r2,r3,r4))∧Aside0 (kq≤kj21)∧Aside0 (wc.heap[gb107]?=some (.cells #[.int .i64 0,.int .i64 0,(.slice none 0 0)] 58 (0,0)))∧Aside0 (IsS74 w0 wc g s0_0 t109)∧Aside0 (KeepBut w wc g none)∧Aside0 (Below w0.heap.size w0 wc))
   case first=>
    have H:=HC29.out
    clear HC29
    by_cases c30:t108=4
    rotate_left
    ·rw [if_neg c30] at H
     have c30b0:(t108 == 4)=false:=beq_eq_false_iff_ne.mpr c30
     have c30b1:(t108 != 4)=true:=bne_iff_ne.mpr c30
     (first|rw [c30b0]|(simp only [i64_w,i32_w];rw [c30b0])|skip)
     have H':=As_ H
     clear H
     go_wp2
     go_meet
     case rel=>exact ⟨_,((t108 == 5)),zT_,H',⟨by have:=HJ21.out;first|omega|exact Nat.le_refl _⟩,⟨by (with_reducible repeat first|apply bkN|apply bkD|apply bkA);exact BK107.out⟩,⟨zi74_1 HI0.out NB0_107.out⟩,⟨zkp1 HK.out GW107.out⟩,⟨zb2 HB.out (IsS74.ge HI0.out) GE107.out⟩⟩
    rw [if_pos c30] at H
    have c30b0:(t108 == 4)=true:=beq_iff_eq.mpr c30
    have c30b1:(t108 != 4)=false:=bne_eq_false_iff_eq.mpr c30
    clear c30
    (first|rw [c30b0]|(simp only [i64_w,i32_w];rw [c30b0])|skip)
    have H':=As_ H
    clear H
    go_wp2
    go_meet
    case rel=>exact ⟨_,((t108 == 4)),zT_,H',⟨by have:=HJ21.out;first|omega|exact Nat.le_refl _⟩,⟨by (with_reducible repeat first|apply bkN|apply bkD|apply bkA);exact BK107.out⟩,⟨zi74_1 HI0.out NB0_107.out⟩,⟨zkp1 HK.out GW107.out⟩,⟨zb2 HB.out (IsS74.ge HI0.out) GE107.out⟩⟩
   case rest=>
    clear HC29
    obtain ⟨kq,x22_28,rfl,HA,HJ28,BK107,HI0,HK,HB⟩:=hcut
    cases kq with
    | zero=>exact absurd HA.out (fun h_=>(by cases h_))
    | succ kj28=>
     have H:=HA.out
     clear HA
     simp only [spec_someNode.j1] at H
     by_cases c31:x22_28=true
     ·subst c31
      have H1:(some (3,0,([]:List Int),t109))=some (r1,r2,r3,r4):=by rw [if_pos rfl] at H;exact H
      clear H
      have H:=H1
      clear H1
      simp only [Option.some.injEq,Prod.mk.injEq] at H
      obtain ⟨rfl,rfl,rfl,rfl⟩:=H
      have hnb32:=NB107_0.out
      have hnc32:=NB0_107.out
      obtain ⟨hcz33_0,hcz33_1,hcz33_2,hfz33_0,hfz33_1,hfz33_2⟩:=bk3 BK107.out
      go_wp2
      refine bodyPost_ret (results_cell_row rfl _ _ gb107 58 #[.int .i64 3,.int .i64 0,.slice none 0 0] (0,0) _ rfl (by (with_reducible repeat first|apply bkN|apply bkD|apply bkA);refine blk_put (cs:=#[.int .i64 3,.int .i64 0,.slice none 0 0]) ?_ 2 _ rfl;(with_reducible repeat first|apply bkN|apply bkD|apply bkA);refine blk_put (cs:=#[.int .i64 3,.int .i64 0,.slice none 0 0]) ?_ 1 _ rfl;(with_reducible repeat first|apply bkN|apply bkD|apply bkA);refine blk_put (cs:=#[.int .i64 0,.int .i64 0,.slice none 0 0]) ?_ 0 _ rfl;(with_reducible repeat first|apply bkN|apply bkD|apply bkA);exact BK107.out) Try.underlying58 rfl (by kernel_rfl)) rfl ?_
      exact ⟨_,rfl,zE_,by first|exact Kd.R_nil _ _ _ _ _|exact Kd.N_nil _ _ _ _ _|exact Kd.V_nil _ _ _ _ _|exact Kd.Q_nil _ _ _ _ _|exact Kd.S_nil _ _ _ _ _,zi74_1 HI0.out NB0_107.out,zb2 HB.out (IsS74.ge HI0.out) GE107.out,zkp1 HK.out GW107.out⟩
     replace c31:=Bool.eq_false_iff.mpr c31
     subst c31
     have H1:(if t108=6 then (some (4,0,([]:List Int),t109)) else ((spec_reader_pick.f kj28 s0_0 t109 3).bind fun bt119=>(some (5,bt119.1,([]:List Int),bt119.2))))=some (r1,r2,r3,r4):=by rw [if_neg (show ¬ (false=true) by decide)] at H;exact H
     clear H
     have H:=H1
     clear H1
     by_cases c34:t108=6
     ·rw [if_pos c34] at H
      have c34b0:(t108 == 6)=true:=beq_iff_eq.mpr c34
      have c34b1:(t108 != 6)=false:=bne_eq_false_iff_eq.mpr c34
      clear c34
      simp only [Option.some.injEq,Prod.mk.injEq] at H
      obtain ⟨rfl,rfl,rfl,rfl⟩:=H
      have hnb35:=NB107_0.out
      have hnc35:=NB0_107.out
      obtain ⟨hcz36_0,hcz36_1,hcz36_2,hfz36_0,hfz36_1,hfz36_2⟩:=bk3 BK107.out
      go_wp2
      refine bodyPost_ret (results_cell_row rfl _ _ gb107 58 #[.int .i64 4,.int .i64 0,.slice none 0 0] (0,0) _ rfl (by (with_reducible repeat first|apply bkN|apply bkD|apply bkA);refine blk_put (cs:=#[.int .i64 4,.int .i64 0,.slice none 0 0]) ?_ 2 _ rfl;(with_reducible repeat first|apply bkN|apply bkD|apply bkA);refine blk_put (cs:=#[.int .i64 4,.int .i64 0,.slice none 0 0]) ?_ 1 _ rfl;(with_reducible repeat first|apply bkN|apply bkD|apply bkA);refine blk_put (cs:=#[.int .i64 0,.int .i64 0,.slice none 0 0]) ?_ 0 _ rfl;(with_reducible repeat first|apply bkN|apply bkD|apply bkA);exact BK107.out) Try.underlying58 rfl (by kernel_rfl)) rfl ?_
      exact ⟨_,rfl,zE_,by first|exact Kd.R_nil _ _ _ _ _|exact Kd.N_nil _ _ _ _ _|exact Kd.V_nil _ _ _ _ _|exact Kd.Q_nil _ _ _ _ _|exact Kd.S_nil _ _ _ _ _,zi74_1 HI0.out NB0_107.out,zb2 HB.out (IsS74.ge HI0.out) GE107.out,zkp1 HK.out GW107.out⟩
     rw [if_neg c34] at H
     have c34b0:(t108 == 6)=false:=beq_eq_false_iff_ne.mpr c34
     have c34b1:(t108 != 6)=true:=bne_iff_ne.mpr c34
     replace H:=obS H
     obtain ⟨⟨t119,t120⟩,A370,H⟩:=H
     replace H:(some (5,t119,([]:List Int),t120))=some (r1,r2,r3,r4):=H
     have A37:=As_ A370
     clear A370
     simp only [Option.some.injEq,Prod.mk.injEq] at H
     obtain ⟨rfl,rfl,rfl,rfl⟩:=H
     go_wp2_with (first|((with_reducible refine gate_callee (f:=65) rfl ?_);refine goesL_ (some 30) rfl rfl Try.func65 (by kernel_rfl) rfl #[.pointer (some ⟨g,0,none⟩),.int .i64 3] rfl zM_ ?_;(with_reducible refine (spec_reader_pick.calls kj28 g s0_0 t109 3 t119 t120 w0 _ ?side1 ?side2 A37.out).mono ?_);(case side1=>exact zi74_1 HI0.out NB0_107.out);(case side2=>exact zb2 HB.out (IsS74.ge HI0.out) GE107.out);rintro e w38 ⟨rfl,hi,hb,hk⟩;refine ⟨_,rfl,?_⟩;have n0_:=As_ (KeepBut.blk hk (g':=gb107) (o:=.cells #[.int .i64 0,.int .i64 0,.slice none 0 0] 58 (0,0)) (zk_ BK107.out) NB107_0.out (by simp));have n1_:=As_ (KeepBut.trans (zkp1 HK.out GW107.out) hk (.inl rfl));have n2_:=As_ (hb);have n3_:=As_ (hi);clear BK107 HK HB HI0;revert n0_ n1_ n2_ n3_;intro BK107 HK HB HI0;have hnb39:=NB107_0.out;have hnc39:=NB0_107.out;obtain ⟨hcz40_0,hcz40_1,hcz40_2,hfz40_0,hfz40_1,hfz40_2⟩:=bk3 BK107.out))
     refine bodyPost_ret (results_cell_row rfl _ _ gb107 58 #[.int .i64 5,.int .i64 t119,.slice none 0 0] (0,0) _ rfl (by (with_reducible repeat first|apply bkN|apply bkD|apply bkA);refine blk_put (cs:=#[.int .i64 5,.int .i64 t119,.slice none 0 0]) ?_ 2 _ rfl;(with_reducible repeat first|apply bkN|apply bkD|apply bkA);refine blk_put (cs:=#[.int .i64 5,.int .i64 0,.slice none 0 0]) ?_ 1 _ rfl;(with_reducible repeat first|apply bkN|apply bkD|apply bkA);refine blk_put (cs:=#[.int .i64 0,.int .i64 0,.slice none 0 0]) ?_ 0 _ rfl;(with_reducible repeat first|apply bkN|apply bkD|apply bkA);exact BK107.out) Try.underlying58 rfl (by kernel_rfl)) rfl ?_
     exact ⟨_,rfl,zE_,by first|exact Kd.R_nil _ _ _ _ _|exact Kd.N_nil _ _ _ _ _|exact Kd.V_nil _ _ _ _ _|exact Kd.Q_nil _ _ _ _ _|exact Kd.S_nil _ _ _ _ _,zi74_1 HI0.out NB0_107.out,zb2 HB.out (IsS74.ge HI0.out) GE107.out,zkp1 HK.out GW107.out⟩
end Go.Proofs.Ytapaegcombfafaa.Q
