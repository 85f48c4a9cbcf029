import Derived.Test.YtfhakhbmbnbneaaQ0
import Derived.Laws.EntriesVeiled
import Derived.Test.YtfhakhbmbnbneaaHmap
namespace Go.Proofs.Ytfhakhbmbnbneaa.Q
open Go.RowKit Go.Proofs.YtfhakhbmbnbneaaW.PrintWords Go.Proofs.YtfhakhbmbnbneaaW.PrintLast Go.Proofs.YtfhakhbmbnbneaaW.PrintMore
attribute [local go_sem] max2_int min2_int max_two min_two max_three min_three max_four min_four
set_option linter.unusedVariables false
set_option linter.unusedSimpArgs false
mutual
def impl_reachOf.walk:Nat→List (S45)→Int→List Int→Option (List Int)
 | 0,_,_,_=>none
 | k+1,l,i,S=>if 0≤i then (if i<(l.length:Int) then (if i∈S then (some S) else (if S.length<17592186044416 then (impl_reachOf.kids k l (rd_T45 l i).f2 0 (S++[i])) else none)) else none) else none
def impl_reachOf.kids:Nat→List (S45)→List Int→Int→List Int→Option (List Int)
 | 0,_,_,_,_=>none
 | k+1,l,q,x,S=>if x<(q.length:Int) then (if 0≤x then ((impl_reachOf.walk k l (rd q x) S).bind fun S'=>impl_reachOf.kids k l q (wrap64 (x+1)) S') else none) else (some S)
end
def impl_reachOf.f (k:Nat) (l0_0:List (S45)) (a0_1:Int):Option (List Int):=impl_reachOf.walk k l0_0 a0_1 []
set_option maxRecDepth 100000 in
theorem impl_reachOf.mono_l:∀ k,(∀ y0 y1 y2,LeO (impl_reachOf.walk k y0 y1 y2) (impl_reachOf.walk (k+1) y0 y1 y2))∧(∀ y0 y1 y2 y3,LeO (impl_reachOf.kids k y0 y1 y2 y3) (impl_reachOf.kids (k+1) y0 y1 y2 y3))
 | 0=>⟨fun _ _ _ r h=>(by simp [impl_reachOf.walk] at h),fun _ _ _ _ r h=>(by simp [impl_reachOf.kids] at h)⟩
 | k+1=>by
  obtain ⟨ih0,ih1⟩:=impl_reachOf.mono_l k
  refine ⟨?_,?_⟩
  ·intro y0 y1 y2
   unfold impl_reachOf.walk
   repeat' first
   | (with_reducible exact ih1 _ _ _ _)
   | (with_reducible exact LeO.refl _)
   | (with_reducible exact LeO.none _)
   | (with_reducible refine LeO.ite ?_ ?_)
   | exact ih1 _ _ _ _
   | exact LeO.none _
   | refine LeO.ite ?_ ?_
  ·intro y0 y1 y2 y3
   unfold impl_reachOf.kids
   repeat' first
   | (with_reducible exact ih0 _ _ _)
   | (with_reducible exact ih1 _ _ _ _)
   | (with_reducible exact LeO.refl _)
   | (with_reducible exact LeO.none _)
   | (with_reducible refine LeO.ite ?_ ?_)
   | (with_reducible refine LeO.bind ?_ (fun _=>?_))
   | exact ih0 _ _ _
   | exact ih1 _ _ _ _
   | exact LeO.none _
   | refine LeO.ite ?_ ?_
   | refine LeO.bind ?_ (fun _=>?_)
theorem impl_reachOf.mono:∀ a0 a1 k,LeO (impl_reachOf.f k a0 a1) (impl_reachOf.f (k+1) a0 a1):=by
 intro a0 a1 k
 unfold impl_reachOf.f
 exact (impl_reachOf.mono_l k).1 _ _ _
theorem impl_reachOf.zero_bool (w:World):(zeroValue 4).run Try.prog w=.ok (.bool false) w:=by kernel_rfl
theorem impl_reachOf.wf_of {x:Int} {n:Nat} (h0:0≤x) (h1:x<(n:Int)) (hn:n≤9223372036854775807):(Lit.int .i64 x).wf=true:=by
 simp [Lit.wf,IntKind.min,IntKind.max,IntKind.bits,IntKind.signed]
 omega
def impl_reachOf.Inv (l:List (S45)) (A:Option Addr) (c:Nat) (root:Int) (gs go gg gw bm:Nat) (w0 w:World) (S:List Int) (vout:Value):Prop:=
 w.heap[gs]?=some (.cells #[.map (some bm)] 86 (0,0))∧w.heap[go]?=some (.cells #[vout] 37 (0,0))∧w.heap[gg]?=some (.cells #[.slice A l.length c,.int .i64 root] 29 (0,0)) ∧
 w.heap[gw]?=some (.cells #[.func (.func 92) #[] #[.pointer (some ⟨gs,0,none⟩),.pointer (some ⟨go,0,none⟩),.pointer (some ⟨gg,0,none⟩),.pointer (some ⟨gw,0,none⟩)]] 87 (0,0)) ∧
 SetIs Try.prog 3 4 w bm S∧Kd.R (Kd.int .i64) 3 w w0.heap.size (fun k=>k≠gs∧k≠go∧k≠gg∧k≠gw∧k≠bm) vout S∧Below w0.heap.size w0 w
def impl_reachOf.Five (gs go gg gw bm:Nat) (w0:World):Prop:=w0.heap.size≤gs∧w0.heap.size≤go∧w0.heap.size≤gg∧w0.heap.size≤gw∧w0.heap.size≤bm∧gs≠go∧gs≠gg∧gs≠gw∧gs≠bm∧go≠gg∧go≠gw∧go≠bm∧gg≠gw∧gg≠bm∧gw≠bm
set_option maxHeartbeats 8000000 in
set_option maxRecDepth 100000 in
theorem impl_reachOf.lit (l:List (S45)) (A:Option Addr) (c:Nat) (root:Int) (gs go gg gw bm:Nat) (w0:World) (hr:Kd.C k45 w0 A l.length l) (hc:l.length≤c) (h5:impl_reachOf.Five gs go gg gw bm w0) (k:Nat) :
  ∀ (i:Int) (S r:List Int) (vout:Value) (w:World),impl_reachOf.Inv l A c root gs go gg gw bm w0 w S vout→impl_reachOf.walk k l i S=some r →
   Calls Try.prog 92 #[.int .i64 i,.pointer (some ⟨gs,0,none⟩),.pointer (some ⟨go,0,none⟩),.pointer (some ⟨gg,0,none⟩),.pointer (some ⟨gw,0,none⟩)] w fun e w'=>e=.returned (.tuple #[])∧∃ vout',impl_reachOf.Inv l A c root gs go gg gw bm w0 w' r vout':=by
 induction k using Nat.strongRecOn with
 | _ k ih=>
 intro i S r vout w hI h
 cases k with
 | zero=>exact absurd h (by simp [impl_reachOf.walk])
 | succ k=>
 unfold impl_reachOf.walk at h
 by_cases c0:0≤i
 rotate_left
 ·rw [if_neg c0] at h
  cases h
 rw [if_pos c0] at h
 by_cases c1:i<(l.length:Int)
 rotate_left
 ·rw [if_neg c1] at h
  cases h
 rw [if_pos c1] at h
 have hmax:l.length≤9223372036854775807:=Kd.C_max hr
 have hwf:=As_ (impl_reachOf.wf_of c0 c1 hmax)
 have HI:=As_ hI
 have H5:=As_ h5
 obtain ⟨hbs,hbo,hbg,hbw,hset,hrow,hbel⟩:=hI
 have BKs:=As_ hbs
 have BKo:=As_ hbo
 have BKg:=As_ hbg
 have BKw:=As_ hbw
 have HS:=As_ hset
 have HO:=As_ hrow
 have HB:=As_ hbel
 have hczs:w.cell? ⟨gs,0,none⟩=some (.map (some bm)):=(bkC hbs 0).trans rfl
 have hfzs:=bkF hbs 0
 by_cases c2:i∈S
 ·rw [if_pos c2] at h
  obtain rfl:=Option.some.inj h
  have cb:decide (i∈S)=true:=deT c2
  have hlk:=hset.lookup Try.underlying86 Try.underlying3 Try.underlying4 (impl_reachOf.zero_bool w) hwf.out
  rw [cb] at hlk
  clear hbs hbo hbg hbw hset hrow hbel h5
  go_enter Try.func92,Try.ntmps92
  go_wp2
  first|go_end0|((try simp only [Exit.inBlock,Exit.then]);refine bodyPost_ret (results_none rfl _ _ _) rfl ?_)
  exact ⟨rfl,vout,HI.out⟩
 rw [if_neg c2] at h
 by_cases c3:S.length<17592186044416
 rotate_left
 ·rw [if_neg c3] at h
  cases h
 rw [if_pos c3] at h
 have cb:decide (i∈S)=false:=deF c2
 have hlk:=hset.lookup Try.underlying86 Try.underlying3 Try.underlying4 (impl_reachOf.zero_bool w) hwf.out
 rw [cb] at hlk
 have HLT:=As_ c3
 have HAdd:=As_ (show addTo S i=S++[i] by unfold addTo;rw [if_neg c2])
 obtain ⟨y,hy⟩:∃ y_:List Int,y_=S++[i]:=⟨_,rfl⟩
 rw [← hy] at h
 have Ny:=As_ hy
 clear hy
 have H':=As_ h
 have hR:=As_ hr
 obtain ⟨g1,g2,g3,g4,g5,n1,n2,n3,n4,n5,n6,n7,n8,n9,n10⟩:=h5
 have G5:=As_ g5
 obtain ⟨Ao,co,eo⟩:=Kd.R_slice hrow
 subst eo
 obtain ⟨ad,A2,c2,eA,hx0,hx1,hx2,hl2,hk2⟩:=at_T45 hr i c0 c1
 subst eA
 have HX2:=As_ hx2
 have HK2:=As_ hk2
 have p5:=eq_true c0
 have q5:=eq_true c1
 clear hx0 hx1 hx2 hk2 hbs hbo hbg hbw hset hrow hbel h HI g1 g2 g3 g4 g5 n1 n2 n3 n4 n5 n6 n7 n8 n9 n10
 go_enter Try.func92,Try.ntmps92
 go_wp2_with (first|(at_mapUpdate;refine wpList_set_update _ rfl _ _ _ 86 rfl 3 4 Try.underlying86 Try.underlying3 Try.underlying4 bm S rfl HS.out (Nat.lt_of_lt_of_le HLT.out (by decide)) i rfl rfl hwf.out ?_;intro w2 hs2 ht2;have k1:=As_ (show SetIs Try.prog 3 4 w2 bm y by rw [Ny.out,← HAdd.out];exact hs2);have k2:=As_ (Kd.R_grown HO.out ht2.grown (fun k_ hk_ he_=>hk_.2.2.2.2 (by injection he_)));have k3:=As_ (show Below w0.heap.size w0 w2 from HB.out.grown ht2.grown HB.out.size (fun j hj=>by cases hj;exact G5.out));have k4:=As_ ((ht2.grown.block gs (blk_lt BKs.out) (by have:=H5.out;unfold impl_reachOf.Five at this;intro e;injection e;omega)).trans BKs.out);have k5:=As_ ((ht2.grown.block go (blk_lt BKo.out) (by have:=H5.out;unfold impl_reachOf.Five at this;intro e;injection e;omega)).trans BKo.out);have k6:=As_ ((ht2.grown.block gg (blk_lt BKg.out) (by have:=H5.out;unfold impl_reachOf.Five at this;intro e;injection e;omega)).trans BKg.out);have k7:=As_ ((ht2.grown.block gw (blk_lt BKw.out) (by have:=H5.out;unfold impl_reachOf.Five at this;intro e;injection e;omega)).trans BKw.out);clear HS HO HB BKs BKo BKg BKw;have HS:=k1;have HO:=k2;have HB:=k3;have BKs:=k4;have BKo:=k5;have BKg:=k6;have BKw:=k7;clear k1 k2 k3 k4 k5 k6 k7 hs2 ht2;have hczo:w2.cell? ⟨go,0,none⟩=some (.slice Ao S.length co):=(bkC BKo.out 0).trans rfl;have hfzo:=bkF BKo.out 0)|((with_reducible refine gate_builtin (b:=.append) (xs:=#[.tmp 13,.tmp 15]) rfl ?_);at_builtin;refine Kd.R_append (Kd.int .i64) (w0:=w0) w0.heap.size rfl (.tmp 13) (.tmp 15) 37 3 (.int .i64 0) 8 rfl Try.underlying37 info3 rfl (by decide) (by omega) (.slice Ao S.length co) S i [.int .i64 i] (fun k=>k≠gs∧k≠go∧k≠gg∧k≠gw∧k≠bm) (fun _=>False) rfl rfl ?aP (fun _ hk=>hk.elim) ?aF ?aO ?aB ?aS ?aL ?_;(case aP=>exact rfl);(case aB=>exact (zb0 HB.out));(case aF=>exact (fun k_ hk_=>by have q1:=blk_lt BKs.out;have q2:=blk_lt BKo.out;have q3:=blk_lt BKg.out;have q4:=blk_lt BKw.out;have q5:=HS.out.lt;(try simp only [World.alloc,Array.size_push] at hk_);exact ⟨by omega,by omega,by omega,by omega,by omega⟩));(case aO=>exact (zR_ HO.out));(case aS=>exact (bwZ (zb0 HB.out)));(case aL=>have:=HLT.out;omega);intro v3 w3 ho hb hg hat;rw [← Ny.out] at ho;have k1:=As_ (HS.out.kept hg (fun he=>(HO.out.1 bm he.symm).2.2.2.2 rfl));have k3:=As_ hb;have k4:=As_ ((hg.block gs (blk_lt BKs.out) (fun he=>(HO.out.1 gs he.symm).1 rfl)).trans BKs.out);have k5:=As_ ((hg.block go (blk_lt BKo.out) (fun he=>(HO.out.1 go he.symm).2.1 rfl)).trans BKo.out);have k6:=As_ ((hg.block gg (blk_lt BKg.out) (fun he=>(HO.out.1 gg he.symm).2.2.1 rfl)).trans BKg.out);have k7:=As_ ((hg.block gw (blk_lt BKw.out) (fun he=>(HO.out.1 gw he.symm).2.2.2.1 rfl)).trans BKw.out);have k2:=As_ ho;clear HS HO HB BKs BKo BKg BKw;have HS:=k1;have HO:=k2;have HB:=k3;have BKs:=k4;have BKo:=k5;have BKg:=k6;have BKw:=k7;clear k1 k2 k3 k4 k5 k6 k7 ho hb hg hat;obtain ⟨A3,c3,e3⟩:=Kd.R_slice HO.out;subst e3;have hczo3:w3.cell? ⟨go,0,none⟩=some (.slice Ao S.length co):=(bkC BKo.out 0).trans rfl;have hfzo3:=bkF BKo.out 0)|((with_reducible refine gate_store (t:=37) (p:=2) rfl ?_);refine store_event (t:=37) (p:=2) (v:=?vo_w4) (w1:=w3.setCell ⟨go,0,none⟩ (.slice A3 y.length c3)) ?hg ?ho ?hn ?hr ?_;(case ho=>rfl);(case hg=>rfl);(case hn=>rfl);(case hr=>go_simp <;> rfl);intro w4 hw;have HF:=As_ (show impl_reachOf.Five gs go gg gw bm w0 from H5.out);have k1:=As_ (show SetIs Try.prog 3 4 w4 bm y from (by rw [hw];exact HS.out.setCell (by have:=H5.out;unfold impl_reachOf.Five at this;intro e;(try dsimp only at e);omega) _));have k2:=As_ (show Kd.R (Kd.int .i64) 3 w4 w0.heap.size (fun k=>k≠gs∧k≠go∧k≠gg∧k≠gw∧k≠bm) (.slice A3 y.length c3) y from (by rw [hw];exact Kd.R_far (p:=⟨go,0,none⟩) HO.out (fun k hk=>hk.2.1) _));have k3:=As_ (show Below w0.heap.size w0 w4 from (by rw [hw];exact bwS HB.out (by have:=H5.out;unfold impl_reachOf.Five at this;exact this.2.1)));have k4:=As_ (show w4.heap[gs]?=some (.cells #[.map (some bm)] 86 (0,0)) from (by rw [hw];exact blk_far BKs.out (by have:=H5.out;unfold impl_reachOf.Five at this;(try dsimp only);omega) _));have k5:=As_ (show w4.heap[go]?=some (.cells #[.slice A3 y.length c3] 37 (0,0)) from (by rw [hw];exact blk_put (cs:=#[.slice Ao S.length co]) BKo.out 0 _ rfl));have k6:=As_ (show w4.heap[gg]?=some (.cells #[.slice (some ad) l.length c,.int .i64 root] 29 (0,0)) from (by rw [hw];exact blk_far BKg.out (by have:=H5.out;unfold impl_reachOf.Five at this;(try dsimp only);omega) _));have k7:=As_ (show w4.heap[gw]?=some (.cells #[.func (.func 92) #[] #[.pointer (some ⟨gs,0,none⟩),.pointer (some ⟨go,0,none⟩),.pointer (some ⟨gg,0,none⟩),.pointer (some ⟨gw,0,none⟩)]] 87 (0,0)) from (by rw [hw];exact blk_far BKw.out (by have:=H5.out;unfold impl_reachOf.Five at this;(try dsimp only);omega) _));clear HS HO HB BKs BKo BKg BKw;have HS:=k1;have HO:=k2;have HB:=k3;have BKs:=k4;have BKo:=k5;have BKg:=k6;have BKw:=k7;clear k1 k2 k3 k4 k5 k6 k7 hw HF;have hczg:w4.cell? ⟨gg,0,none⟩=some (.slice (some ad) l.length c):=(bkC BKg.out 0).trans rfl;have hfzg:=bkF BKg.out 0;have hxk:=(HB.out.cell (bwL w0 _ HX2.out)).trans HX2.out))
 go_loopg [24] k (fun kq v24 w'=>∃ (x:Int) (S1:List Int) (v1:Value),v24=.int .i64 x∧Aside0 (impl_reachOf.kids kq l (rd_T45 l i).f2 x S1=some r)∧Aside0 (kq≤k)∧Aside0 (impl_reachOf.Inv l (some ad) c root gs go gg gw bm w0 w' S1 v1))
 case atStart=>exact ⟨0,y,_,rfl,H',⟨Nat.le_refl _⟩,⟨BKs.out,BKo.out,BKg.out,BKw.out,HS.out,HO.out,HB.out⟩⟩
 case round=>
  clear H'
  obtain ⟨x,S1,v1,rfl,HA,HK1,HI⟩:=hrel
  cases gk with
  | zero=>exact absurd HA.out (by simp [impl_reachOf.kids])
  | succ k1=>
   have H:=HA.out
   clear HA
   unfold impl_reachOf.kids at H
   by_cases d0:x<((rd_T45 l i).f2.length:Int)
   rotate_left
   ·rw [if_neg d0] at H
    obtain rfl:=Option.some.inj H
    have d0b:decide (x<((rd_T45 l i).f2.length:Int))=false:=deF d0
    go_wp2
    first|go_end0|((try simp only [Exit.inBlock,Exit.then]);refine bodyPost_ret (results_none rfl _ _ _) rfl ?_)
    exact ⟨rfl,v1,HI.out⟩
   rw [if_pos d0] at H
   by_cases d1:0≤x
   rotate_left
   ·rw [if_neg d1] at H
    cases H
   rw [if_pos d1] at H
   obtain ⟨S2,A30,H⟩:=obS H
   have A3':=As_ A30
   have H':=As_ H
   clear A30 H
   obtain ⟨ad2,e2,hxe⟩:=Kd.at_int HK2.out x d1 d0
   subst e2
   have hbw2:=HI.out.2.2.2.1
   have hb2:=HI.out.2.2.2.2.2.2
   have hxe2:=(hb2.cell (bwL w0 _ hxe)).trans hxe
   have hczw:wr.cell? ⟨gw,0,none⟩=some (.func (.func 92) #[] #[.pointer (some ⟨gs,0,none⟩),.pointer (some ⟨go,0,none⟩),.pointer (some ⟨gg,0,none⟩),.pointer (some ⟨gw,0,none⟩)]):=(bkC hbw2 0).trans rfl
   have hfzw:=bkF hbw2 0
   have d0b:decide (x<((rd_T45 l i).f2.length:Int))=true:=deT d0
   have p6:=eq_true d1
   have q6:=eq_true d0
   clear hbw2 hb2 hxe
   go_wp2_with (go_at_call 92;(with_reducible refine (ih k1 (by have:=HK1.out;omega) (rd (rd_T45 l i).f2 x) S1 S2 v1 _ HI.out A3'.out).mono ?_);rintro e w9 ⟨rfl,v2,hI2⟩;have HI2:=As_ hI2;clear hI2)
   go_roundg k1
   case measure=>have:=HK1.out;omega
   case rel=>exact ⟨wrap64 (x+1),S2,v2,(by first|rfl|(simp;done)),H',⟨by have:=HK1.out;omega⟩,HI2⟩
set_option maxHeartbeats 8000000 in
set_option maxRecDepth 100000 in
theorem impl_reachOf.calls (k:Nat) (A0_0:Option Addr) (c0_0:Nat) (l0_0:List (S45)) (a0_1:Int) (r:List Int) (w:World) (hr0_0:Kd.C k45 w A0_0 l0_0.length l0_0) (hc0_0:l0_0.length≤c0_0) (h:impl_reachOf.f k l0_0 a0_1=some r) :
  Calls Try.prog 63 #[.agg #[.slice A0_0 l0_0.length c0_0,.int .i64 a0_1]] w fun e w'=>∃ v0_:Value,e=.returned (v0_)∧Kd.R (Kd.int .i64) 3 w' w.heap.size (fun _=>True) v0_ r∧Below w.heap.size w w':=by
 have hu:=Try.underlying29
 have hmm:=@run_makeMap Try.prog
 have HR:=As_ hr0_0
 have HC:=As_ hc0_0
 have A:=As_ (show impl_reachOf.walk k l0_0 a0_1 []=some r from h)
 clear hr0_0 hc0_0 h
 obtain ⟨y0,hy0⟩:∃ y_:List Int,y_=[]:=⟨_,rfl⟩
 have Ny:=As_ hy0
 clear hy0
 go_enter Try.func63,Try.ntmps63
 go_wp2_with (first|((with_reducible refine gate_dst (N:=1) rfl ?_);refine box_event ?hg (N:=1) ?hd (cs:=#[.slice A0_0 l0_0.length c0_0,.int .i64 a0_1]) (t:=29) ?hr ?_;(case hd=>rfl);(case hg=>rfl);(case hr=>go_simp <;> rfl);intro gg hg w1 hbox hb;have HB:=As_ hb;have BKg:=As_ hbox;have Gg:=As_ (show w.heap.size≤gg by rw [hg];exact Nat.le_refl _);clear hb hbox hg)|((with_reducible refine gate_dst (N:=6) rfl ?_);refine Kd.R_lit (Kd.int .i64) _ 3 ?hg (N:=6) ?hd (xs:=([]:List Int)) (inner:=[]) (ok:=fun _=>True) (okp:=fun _=>True) ?hr ?hp (fun _ hk=>hk) trivial (Below.refl _ _) (Nat.le_refl _) (by simp) ?_;(case hd=>rfl);(case hg=>rfl);(case hr=>go_simp <;> rfl);(case hp=>exact (Reps.none _ _));intro v6 w2 ho hb hg_ hnew_;clear hg_ hnew_;(first|rw [← Ny.out] at ho|(simp only [Int.reduceToNat] at ho;rw [← Ny.out] at ho));have k1:=As_ (Kd.R_lower (Kd.R_mono (ok':=fun k_=>k_≠gg∧k_<w2.heap.size) (Kd.R_bound ho) (fun k_ hk_=>⟨fun e_=>by have q1:=blk_lt BKg.out;have q2:=hk_.2.1;omega,hk_.2.2.1⟩)) (bwZ HB.out));have k2:=As_ (blk_below BKg.out hb);have k3:=As_ (bwT HB.out hb);clear HB BKg;have HO:=k1;have BKg:=k2;have HB:=k3;clear k1 k2 k3 ho hb;obtain ⟨A6,c6,e6⟩:=Kd.R_slice HO.out;subst e6)|((with_reducible refine gate_dst (N:=3) rfl ?_);refine box_event ?hg (N:=3) ?hd (cs:=#[.slice none 0 0]) (t:=37) ?hr ?_;(case hd=>rfl);(case hg=>rfl);(case hr=>go_simp <;> rfl);intro go hg w3 hbox hb;have k1:=As_ (show Kd.R (Kd.int .i64) 3 w3 w.heap.size (fun k_=>k_≠gg∧k_<go) (.slice A6 y0.length c6) y0 by rw [hg];exact Kd.R_below HO.out hb);have k2:=As_ (blk_below BKg.out hb);have k3:=As_ (bwT HB.out hb);have Go:=As_ (show w.heap.size≤go∧gg<go by rw [hg];exact ⟨bwZ HB.out,blk_lt BKg.out⟩);clear HB BKg HO;have HO:=k1;have BKg:=k2;have HB:=k3;have BKo:=As_ hbox;clear k1 k2 k3 hg hb hbox;have hczo3:w3.cell? ⟨go,0,none⟩=some (.slice none 0 0):=(bkC BKo.out 0).trans rfl;have hfzo3:=bkF BKo.out 0)|((with_reducible refine gate_store (t:=37) (p:=3) rfl ?_);refine store_event (t:=37) (p:=3) (v:=?vo_w4) (w1:=w3.setCell ⟨go,0,none⟩ (.slice A6 y0.length c6)) ?hg ?ho ?hn ?hr ?_;(case ho=>rfl);(case hg=>rfl);(case hn=>rfl);(case hr=>go_simp <;> rfl);intro w4 hw;have k1:=As_ (show Kd.R (Kd.int .i64) 3 w4 w.heap.size (fun k_=>k_≠gg∧k_<go) (.slice A6 y0.length c6) y0 from (by rw [hw];exact Kd.R_far (p:=⟨go,0,none⟩) HO.out (fun k hk=>Nat.ne_of_lt hk.2) _));have k2:=As_ (show w4.heap[gg]?=some (.cells #[.slice A0_0 l0_0.length c0_0,.int .i64 a0_1] 29 (0,0)) from (by rw [hw];exact blk_far BKg.out (by have:=Go.out;(try dsimp only);omega) _));have k3:=As_ (show Below w.heap.size w w4 from (by rw [hw];exact bwS HB.out Go.out.1));have k4:=As_ (show w4.heap[go]?=some (.cells #[.slice A6 y0.length c6] 37 (0,0)) from (by rw [hw];exact blk_put (cs:=#[.slice none 0 0]) BKo.out 0 _ rfl));clear HB BKg HO BKo;have HO:=k1;have BKg:=k2;have HB:=k3;have BKo:=k4;clear k1 k2 k3 k4 hw;have HM:=As_ (SetIs.made (P:=Try.prog) (k:=3) (e:=4) w4))|((with_reducible refine gate_dst (N:=4) rfl ?_);refine box_event ?hg (N:=4) ?hd (cs:=#[.map none]) (t:=86) ?hr ?_;(case hd=>rfl);(case hg=>rfl);(case hr=>go_simp <;> rfl);intro gs hg w5 hbox hb;have hsz:(w4.alloc (.map #[] 0)).heap.size=w4.heap.size+1:=(by first|(simp;done)|(simp only [World.alloc,Array.size_push]));have k1:=As_ (Kd.R_below (Kd.R_alloc HO.out _) hb);have k2:=As_ (blk_below (bkA BKg.out _) hb);have k3:=As_ (bwT (bwA HB.out _) hb);have k4:=As_ (blk_below (bkA BKo.out _) hb);have k5:=As_ (HM.out.below hb);have Gs:=As_ (show w.heap.size≤gs∧gg<gs∧go<gs∧w4.heap.size<gs∧w.heap.size≤w4.heap.size∧gg<w4.heap.size∧go<w4.heap.size from (by have q1:=bwZ HB.out;have q2:=blk_lt BKg.out;have q3:=blk_lt BKo.out;rw [hg,hsz];omega));clear HO BKg HB BKo HM;have HO:=k1;have BKg:=k2;have HB:=k3;have BKo:=k4;have HM:=k5;have BKs:=As_ hbox;clear k1 k2 k3 k4 k5 hg hb hbox hsz;have hczs5:w5.cell? ⟨gs,0,none⟩=some (.map none):=(bkC BKs.out 0).trans rfl;have hfzs5:=bkF BKs.out 0)|((with_reducible refine gate_store (t:=86) (p:=4) rfl ?_);refine store_event (t:=86) (p:=4) (v:=?vo_w6) (w1:=w5.setCell ⟨gs,0,none⟩ (.map (some w4.heap.size))) ?hg ?ho ?hn ?hr ?_;(case ho=>rfl);(case hg=>rfl);(case hn=>rfl);(case hr=>go_simp <;> rfl);intro w6 hw;have k1:=As_ (show Kd.R (Kd.int .i64) 3 w6 w.heap.size (fun k_=>k_≠gg∧k_<go) (.slice A6 y0.length c6) y0 from (by rw [hw];exact Kd.R_far (p:=⟨gs,0,none⟩) HO.out (fun k hk=>(by have q1:=Gs.out;have q2:=hk.2;(try dsimp only);omega)) _));have k2:=As_ (show w6.heap[gg]?=some (.cells #[.slice A0_0 l0_0.length c0_0,.int .i64 a0_1] 29 (0,0)) from (by rw [hw];exact blk_far BKg.out (by have:=Gs.out;(try dsimp only);omega) _));have k3:=As_ (show Below w.heap.size w w6 from (by rw [hw];exact bwS HB.out Gs.out.1));have k4:=As_ (show w6.heap[go]?=some (.cells #[.slice A6 y0.length c6] 37 (0,0)) from (by rw [hw];exact blk_far BKo.out (by have:=Gs.out;(try dsimp only);omega) _));have k5:=As_ (show SetIs Try.prog 3 4 w6 w4.heap.size [] from (by rw [hw];exact HM.out.setCell (by have:=Gs.out;(try dsimp only);omega) _));have k6:=As_ (show w6.heap[gs]?=some (.cells #[.map (some w4.heap.size)] 86 (0,0)) from (by rw [hw];exact blk_put (cs:=#[.map none]) BKs.out 0 _ rfl));clear HO BKg HB BKo HM BKs;have HO:=k1;have BKg:=k2;have HB:=k3;have BKo:=k4;have HM:=k5;have BKs:=k6;clear k1 k2 k3 k4 k5 k6 hw)|((with_reducible refine gate_dst (N:=5) rfl ?_);refine box_event ?hg (N:=5) ?hd (cs:=#[.nilFunc]) (t:=87) ?hr ?_;(case hd=>rfl);(case hg=>rfl);(case hr=>go_simp <;> rfl);intro gw hg w7 hbox hb;have k1:=As_ (Kd.R_below HO.out hb);have k2:=As_ (blk_below BKg.out hb);have k3:=As_ (bwT HB.out hb);have k4:=As_ (blk_below BKo.out hb);have k5:=As_ (HM.out.below hb);have k6:=As_ (blk_below BKs.out hb);have Gw:=As_ (show gs<gw from (by have q1:=blk_lt BKs.out;rw [hg];exact q1));clear HO BKg HB BKo HM BKs;have HO:=k1;have BKg:=k2;have HB:=k3;have BKo:=k4;have HM:=k5;have BKs:=k6;have BKw:=As_ hbox;clear k1 k2 k3 k4 k5 k6 hg hb hbox;have hczw7:w7.cell? ⟨gw,0,none⟩=some .nilFunc:=(bkC BKw.out 0).trans rfl;have hfzw7:=bkF BKw.out 0)|((with_reducible refine gate_store (t:=87) (p:=5) rfl ?_);refine store_event (t:=87) (p:=5) (v:=?vo_w8) (w1:=w7.setCell ⟨gw,0,none⟩ (.func (.func 92) #[] #[.pointer (some ⟨gs,0,none⟩),.pointer (some ⟨go,0,none⟩),.pointer (some ⟨gg,0,none⟩),.pointer (some ⟨gw,0,none⟩)])) ?hg ?ho ?hn ?hr ?_;(case ho=>rfl);(case hg=>rfl);(case hn=>rfl);(case hr=>go_simp <;> rfl);intro w8 hw;have HFive:impl_reachOf.Five gs go gg gw w4.heap.size w:=(by have q1:=Gs.out;have q2:=Gw.out;have q3:=Go.out;have q4:=Gg.out;unfold impl_reachOf.Five;omega);have k1:=As_ (show Kd.R (Kd.int .i64) 3 w8 w.heap.size (fun k=>k≠gs∧k≠go∧k≠gg∧k≠gw∧k≠w4.heap.size) (.slice A6 y0.length c6) y0 from (by rw [hw];exact Kd.R_mono (Kd.R_far (p:=⟨gw,0,none⟩) HO.out (fun k hk=>(by have q1:=Gs.out;have q5:=Gw.out;have q2:=hk.2;(try dsimp only);omega)) _) (fun k hk=>(by have q1:=Gs.out;have q5:=Gw.out;have q2:=hk.2;have q3:=hk.1;exact ⟨by omega,by omega,q3,by omega,by omega⟩))));have k2:=As_ (show w8.heap[gg]?=some (.cells #[.slice A0_0 l0_0.length c0_0,.int .i64 a0_1] 29 (0,0)) from (by rw [hw];exact blk_far BKg.out (by have:=Gs.out;have q:=Gw.out;(try dsimp only);omega) _));have k3:=As_ (show Below w.heap.size w w8 from (by rw [hw];exact bwS HB.out (by have:=Gs.out;have q:=Gw.out;(try dsimp only);omega)));have k4:=As_ (show w8.heap[go]?=some (.cells #[.slice A6 y0.length c6] 37 (0,0)) from (by rw [hw];exact blk_far BKo.out (by have:=Gs.out;have q:=Gw.out;(try dsimp only);omega) _));have k5:=As_ (show SetIs Try.prog 3 4 w8 w4.heap.size [] from (by rw [hw];exact HM.out.setCell (by have:=Gs.out;have q:=Gw.out;(try dsimp only);omega) _));have k6:=As_ (show w8.heap[gs]?=some (.cells #[.map (some w4.heap.size)] 86 (0,0)) from (by rw [hw];exact blk_far BKs.out (by have:=Gs.out;have q:=Gw.out;(try dsimp only);omega) _));have k7:=As_ (show w8.heap[gw]?=some (.cells #[(.func (.func 92) #[] #[.pointer (some ⟨gs,0,none⟩),.pointer (some ⟨go,0,none⟩),.pointer (some ⟨gg,0,none⟩),.pointer (some ⟨gw,0,none⟩)])] 87 (0,0)) from (by rw [hw];exact blk_put (cs:=#[.nilFunc]) BKw.out 0 _ rfl));clear HO BKg HB BKo HM BKs BKw;have HInv:=As_ (show impl_reachOf.Inv l0_0 A0_0 c0_0 a0_1 gs go gg gw w4.heap.size w w8 [] (.slice A6 y0.length c6) from ⟨k6.out,k4.out,k2.out,k7.out,k5.out,(by have q:=k1.out;rw [Ny.out] at q ⊢;exact q),k3.out⟩);have hczw8:w8.cell? ⟨gw,0,none⟩=some (.func (.func 92) #[] #[.pointer (some ⟨gs,0,none⟩),.pointer (some ⟨go,0,none⟩),.pointer (some ⟨gg,0,none⟩),.pointer (some ⟨gw,0,none⟩)]):=(bkC k7.out 0).trans rfl;have hfzw8:=bkF k7.out 0;have hczg8:w8.cell? ⟨gg,1,none⟩=some (.int .i64 a0_1):=(bkC k2.out 1).trans rfl;have hfzg8:=bkF k2.out 1;clear k1 k2 k3 k4 k5 k6 k7 hw)|(go_at_call 92;(with_reducible refine (impl_reachOf.lit l0_0 A0_0 c0_0 a0_1 gs go gg gw w4.heap.size w HR.out HC.out HFive k a0_1 [] r _ _ HInv.out A.out).mono ?_);rintro e w9 ⟨rfl,v9,hI9⟩;obtain ⟨_,hbo9,_,_,_,hR9,hB9⟩:=hI9;obtain ⟨A9,c9,e9⟩:=Kd.R_slice hR9;subst e9;have HR9:=As_ hR9;have HB9:=As_ hB9;have hczo9:w9.cell? ⟨go,0,none⟩=some (.slice A9 r.length c9):=(bkC hbo9 0).trans rfl;have hfzo9:=bkF hbo9 0;clear hbo9 hR9 hB9))
 go_ret
 exact ⟨_,rfl,Kd.R_mono HR9.out (fun _ _=>trivial),HB9.out⟩
end Go.Proofs.Ytfhakhbmbnbneaa.Q
