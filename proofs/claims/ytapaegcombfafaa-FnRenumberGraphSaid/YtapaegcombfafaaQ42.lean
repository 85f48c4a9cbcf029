import Derived.Test.YtapaegcombfafaaQ0
import Derived.Laws.EntriesVeiled
import Derived.Test.YtapaegcombfafaaHlit
import Derived.Test.YtapaegcombfafaaHtab
namespace Go.Proofs.Ytapaegcombfafaa.Q
open Go.RowKit Go.Proofs.YtapaegcombfafaaW.PrintWords Go.Proofs.YtapaegcombfafaaW.PrintLast Go.Proofs.YtapaegcombfafaaW.PrintMore
attribute [local go_sem] max2_int min2_int max_two min_two max_three min_three max_four min_four
set_option linter.unusedVariables false
set_option linter.unusedSimpArgs false
mutual
def impl_codesOf.walk:Nat→List (S58)→Int→List Int→List (Int × Int)→Option (List Int × List (Int × Int))
 | 0,_,_,_,_=>none
 | k+1,l,i,S,T=>if 0≤i then (if i<(l.length:Int) then (if S.length<17592186044000 then (if (T.lookup i).isSome=true then (some (S++[-1,(T.lookup i).getD 0],T)) else (if T.length<17592186044000 then (if (rd_T58 l i).f0=0 then (impl_codesOf.kids k l (rd_T58 l i).f2 0 (S++[(rd_T58 l i).f0,(rd_T58 l i).f1,((rd_T58 l i).f2.length:Int)]) T) else (impl_codesOf.kids k l (rd_T58 l i).f2 0 (S++[(rd_T58 l i).f0,(rd_T58 l i).f1,((rd_T58 l i).f2.length:Int)]) (T++[(i,(T.length:Int))]))) else none)) else none) else none) else none
def impl_codesOf.kids:Nat→List (S58)→List Int→Int→List Int→List (Int × Int)→Option (List Int × List (Int × Int))
 | 0,_,_,_,_,_=>none
 | k+1,l,q,x,S,T=>if x<(q.length:Int) then (if 0≤x then ((impl_codesOf.walk k l (rd q x) S T).bind fun b=>impl_codesOf.kids k l q (wrap64 (x+1)) b.1 b.2) else none) else (some (S,T))
end
def impl_codesOf.roots:Nat→List (S58)→List Int→Int→List Int→List (Int × Int)→Option (List Int)
 | 0,_,_,_,_,_=>none
 | k+1,l,q,x,S,T=>if x<(q.length:Int) then (if 0≤x then ((impl_codesOf.walk k l (rd q x) S T).bind fun b=>impl_codesOf.roots k l q (wrap64 (x+1)) b.1 b.2) else none) else (some S)
def impl_codesOf.f (k:Nat) (l0:List (S58)) (l1:List Int):Option (List Int):=impl_codesOf.roots k l0 l1 0 [] []
set_option maxRecDepth 100000 in
theorem impl_codesOf.mono_l:∀ k,(∀ y0 y1 y2 y3,LeO (impl_codesOf.walk k y0 y1 y2 y3) (impl_codesOf.walk (k+1) y0 y1 y2 y3))∧(∀ y0 y1 y2 y3 y4,LeO (impl_codesOf.kids k y0 y1 y2 y3 y4) (impl_codesOf.kids (k+1) y0 y1 y2 y3 y4))
 | 0=>⟨fun _ _ _ _ r h=>(by simp [impl_codesOf.walk] at h),fun _ _ _ _ _ r h=>(by simp [impl_codesOf.kids] at h)⟩
 | k+1=>by
  obtain ⟨ih0,ih1⟩:=impl_codesOf.mono_l k
  refine ⟨?_,?_⟩
  ·intro y0 y1 y2 y3
   unfold impl_codesOf.walk
   repeat' first
   | (with_reducible exact ih1 _ _ _ _ _)
   | (with_reducible exact LeO.refl _)
   | (with_reducible exact LeO.none _)
   | (with_reducible refine LeO.ite ?_ ?_)
   | exact ih1 _ _ _ _ _
   | exact LeO.none _
   | refine LeO.ite ?_ ?_
  ·intro y0 y1 y2 y3 y4
   unfold impl_codesOf.kids
   repeat' first
   | (with_reducible exact ih0 _ _ _ _)
   | (with_reducible exact ih1 _ _ _ _ _)
   | (with_reducible exact LeO.refl _)
   | (with_reducible exact LeO.none _)
   | (with_reducible refine LeO.ite ?_ ?_)
   | (with_reducible refine LeO.bind ?_ (fun _=>?_))
   | exact ih0 _ _ _ _
   | exact ih1 _ _ _ _ _
   | exact LeO.none _
   | refine LeO.ite ?_ ?_
   | refine LeO.bind ?_ (fun _=>?_)
set_option maxRecDepth 100000 in
theorem impl_codesOf.mono_r:∀ k y0 y1 y2 y3 y4,LeO (impl_codesOf.roots k y0 y1 y2 y3 y4) (impl_codesOf.roots (k+1) y0 y1 y2 y3 y4)
 | 0,_,_,_,_,_=>fun r h=>(by simp [impl_codesOf.roots] at h)
 | k+1,y0,y1,y2,y3,y4=>by
  have ih:=impl_codesOf.mono_r k
  have ih0:=(impl_codesOf.mono_l k).1
  unfold impl_codesOf.roots
  repeat' first
  | (with_reducible exact ih0 _ _ _ _)
  | (with_reducible exact ih _ _ _ _ _)
  | (with_reducible exact LeO.refl _)
  | (with_reducible exact LeO.none _)
  | (with_reducible refine LeO.ite ?_ ?_)
  | (with_reducible refine LeO.bind ?_ (fun _=>?_))
  | exact ih0 _ _ _ _
  | exact ih _ _ _ _ _
  | exact LeO.none _
  | refine LeO.ite ?_ ?_
  | refine LeO.bind ?_ (fun _=>?_)
theorem impl_codesOf.mono:∀ a0 a1 k,LeO (impl_codesOf.f k a0 a1) (impl_codesOf.f (k+1) a0 a1):=by
 intro a0 a1 k
 unfold impl_codesOf.f
 exact impl_codesOf.mono_r _ _ _ _ _ _
theorem impl_codesOf.zero_int (w:World):(zeroValue 3).run Try.prog w=.ok (.int .i64 0) w:=by kernel_rfl
theorem impl_codesOf.wf_of {x:Int} {n:Nat} (h0:0≤x) (h1:x<(n:Int)) (hn:n≤9223372036854775807):(Lit.int .i64 x).wf=true:=by
 simp [Lit.wf,IntKind.min,IntKind.max,IntKind.bits,IntKind.signed]
 omega
theorem impl_codesOf.wf_len {n:Nat} (hn:n<9223372036854775807):(Lit.int .i64 (n:Int)).wf=true:=by
 simp [Lit.wf,IntKind.min,IntKind.max,IntKind.bits,IntKind.signed]
 omega
def impl_codesOf.Inv (l:List (S58)) (A:Option Addr) (c:Nat) (gs go gg gw bm:Nat) (w0 w:World) (S:List Int) (T:List (Int × Int)) (vout:Value):Prop:=
 w.heap[gs]?=some (.cells #[.map (some bm)] 75 (0,0))∧w.heap[go]?=some (.cells #[vout] 26 (0,0))∧w.heap[gg]?=some (.cells #[.slice A l.length c] 23 (0,0)) ∧
 w.heap[gw]?=some (.cells #[.func (.func 76) #[] #[.pointer (some ⟨gs,0,none⟩),.pointer (some ⟨go,0,none⟩),.pointer (some ⟨gg,0,none⟩),.pointer (some ⟨gw,0,none⟩)]] 76 (0,0)) ∧
 TabIs Try.prog 3 3 w bm iv iv T∧Kd.R (Kd.int .i64) 3 w w0.heap.size (fun k=>k≠gs∧k≠go∧k≠gg∧k≠gw∧k≠bm) vout S∧Below w0.heap.size w0 w
def impl_codesOf.Five (gs go gg gw bm:Nat) (w0:World):Prop:=w0.heap.size≤gs∧w0.heap.size≤go∧w0.heap.size≤gg∧w0.heap.size≤gw∧w0.heap.size≤bm∧gs≠go∧gs≠gg∧gs≠gw∧gs≠bm∧go≠gg∧go≠gw∧go≠bm∧gg≠gw∧gg≠bm∧gw≠bm
set_option maxHeartbeats 8000000 in
set_option maxRecDepth 100000 in
theorem impl_codesOf.lit (l:List (S58)) (A:Option Addr) (c:Nat) (gs go gg gw bm:Nat) (w0:World) (hr:Kd.C k58 w0 A l.length l) (hc:l.length≤c) (h5:impl_codesOf.Five gs go gg gw bm w0) (k:Nat) :
  ∀ (i:Int) (S:List Int) (T:List (Int × Int)) (r:List Int) (rT:List (Int × Int)) (vout:Value) (w:World),impl_codesOf.Inv l A c gs go gg gw bm w0 w S T vout→impl_codesOf.walk k l i S T=some (r,rT) →
   Calls Try.prog 76 #[.int .i64 i,.pointer (some ⟨gs,0,none⟩),.pointer (some ⟨go,0,none⟩),.pointer (some ⟨gg,0,none⟩),.pointer (some ⟨gw,0,none⟩)] w fun e w'=>e=.returned (.tuple #[])∧∃ vout',impl_codesOf.Inv l A c gs go gg gw bm w0 w' r rT vout':=by
 induction k using Nat.strongRecOn with
 | _ k ih=>
 intro i S T r rT vout w hI h
 cases k with
 | zero=>exact absurd h (by simp [impl_codesOf.walk])
 | succ k=>
 unfold impl_codesOf.walk at h
 by_cases c0:0≤i
 rotate_left
 ·rw [if_neg c0] at h
  cases h
 rw [if_pos c0] at h
 by_cases c1:i<(l.length:Int)
 rotate_left
 ·rw [if_neg c1] at h
  cases h
 rw [if_pos c1] at h
 by_cases c2:S.length<17592186044000
 rotate_left
 ·rw [if_neg c2] at h
  cases h
 rw [if_pos c2] at h
 have HLT:=As_ c2
 clear c2
 have hmax:l.length≤9223372036854775807:=Kd.C_max hr
 have hwf:=As_ (impl_codesOf.wf_of c0 c1 hmax)
 obtain ⟨ad,A2,c2,eA,hx0,hx1,hx2,hl2,hk2⟩:=at_T58 hr i c0 c1
 subst eA
 have H5:=As_ h5
 have hR:=As_ hr
 obtain ⟨hbs,hbo,hbg,hbw,hset,hrow,hbel⟩:=hI
 obtain ⟨Ao,co,eo⟩:=Kd.R_slice hrow
 subst eo
 have G5:=As_ h5.2.2.2.2.1
 have BKs:=As_ hbs
 have BKo:=As_ hbo
 have BKg:=As_ hbg
 have BKw:=As_ hbw
 have HS:=As_ hset
 have HO:=As_ hrow
 have HB:=As_ hbel
 have hczs:w.cell? ⟨gs,0,none⟩=some (.map (some bm)):=(bkC hbs 0).trans rfl
 have hfzs:=bkF hbs 0
 have hczo:w.cell? ⟨go,0,none⟩=some (.slice Ao S.length co):=(bkC hbo 0).trans rfl
 have hfzo:=bkF hbo 0
 have hczg:w.cell? ⟨gg,0,none⟩=some (.slice (some ad) l.length c):=(bkC hbg 0).trans rfl
 have hfzg:=bkF hbg 0
 have p5:=eq_true c0
 have q5:=eq_true c1
 replace hx0:=(hbel.cell (bwL w0 _ hx0)).trans hx0
 replace hx1:=(hbel.cell (bwL w0 _ hx1)).trans hx1
 replace hx2:=(hbel.cell (bwL w0 _ hx2)).trans hx2
 have HK2:=As_ hk2
 clear hk2 hbs hbo hbg hbw hset hrow hbel
 by_cases c3:(T.lookup i).isSome=true
 ·rw [if_pos c3] at h
  obtain ⟨n,hn⟩:∃ n_:Int,T.lookup i=some n_:=Option.isSome_iff_exists.1 c3
  rw [hn,Option.getD_some] at h
  have HSome:=As_ hn
  clear hn c3
  obtain ⟨y,hy⟩:∃ y_:List Int,y_=S++[-1,n]:=⟨_,rfl⟩
  rw [← hy] at h
  have Ny:=As_ hy
  clear hy h5
  simp only [Option.some.injEq,Prod.mk.injEq] at h
  obtain ⟨rfl,rfl⟩:=h
  go_enter Try.func76,Try.ntmps76
  go_wp2_with (first|(at_lookup;refine wpList_tab_lookup_ok _ rfl _ _ 75 rfl 3 3 (Go.Maps.int_keyed Try.underlying3) Try.underlying75 (impl_codesOf.zero_int _) (plainElem_int Try.underlying3 (by decide)) bm iv iv T rfl HS.out i (.int .i64 i) rfl (Go.Maps.keyOf_int_mk Try.underlying3 hwf.out) (.int .i64 n) true (by unfold tabAt;rw [HSome.out];rfl) (by rw [HSome.out];rfl) ?_)|((with_reducible refine gate_builtin (b:=.append) (xs:=#[.tmp 18,.tmp 20]) rfl ?_);at_builtin;refine R_append_lit (w0:=w0) w0.heap.size rfl (.tmp 18) (.tmp 20) 26 3 rfl Try.underlying26 info3 (.slice Ao S.length co) S [-1,n] (fun k=>k≠gs∧k≠go∧k≠gg∧k≠gw∧k≠bm) rfl rfl ?aF ?aO ?aB ?aS ?aL ?_;(case aB=>exact (zb0 HB.out));(case aF=>exact (fun k_ hk_=>by have q1:=blk_lt BKs.out;have q2:=blk_lt BKo.out;have q3:=blk_lt BKg.out;have q4:=blk_lt BKw.out;have q5:=HS.out.lt;(try simp only [World.alloc,Array.size_push] at hk_);exact ⟨by omega,by omega,by omega,by omega,by omega⟩));(case aO=>exact (zR_ HO.out));(case aS=>exact (bwZ (zb0 HB.out)));(case aL=>(have:=HLT.out;simp only [List.length_cons,List.length_nil];omega));intro v3 w3 ho hb hg hat;rw [← Ny.out] at ho;have kk1:=As_ (HS.out.kept hg (fun he=>(HO.out.1 bm he.symm).2.2.2.2 rfl));have kk2:=As_ ho;have kk3:=As_ hb;have kk4:=As_ ((hg.block gs (blk_lt BKs.out) (fun he=>(HO.out.1 gs he.symm).1 rfl)).trans BKs.out);have kk5:=As_ ((hg.block go (blk_lt BKo.out) (fun he=>(HO.out.1 go he.symm).2.1 rfl)).trans BKo.out);have kk6:=As_ ((hg.block gg (blk_lt BKg.out) (fun he=>(HO.out.1 gg he.symm).2.2.1 rfl)).trans BKg.out);have kk7:=As_ ((hg.block gw (blk_lt BKw.out) (fun he=>(HO.out.1 gw he.symm).2.2.2.1 rfl)).trans BKw.out);clear HS HO HB BKs BKo BKg BKw;have HS:=kk1;have HO:=kk2;have HB:=kk3;have BKs:=kk4;have BKo:=kk5;have BKg:=kk6;have BKw:=kk7;clear kk1 kk2 kk3 kk4 kk5 kk6 kk7 ho hb hg hat;obtain ⟨A3,c3,e3⟩:=Kd.R_slice HO.out;subst e3;have hczo3:w3.cell? ⟨go,0,none⟩=some (.slice Ao S.length co):=(bkC BKo.out 0).trans rfl;have hfzo3:=bkF BKo.out 0)|((with_reducible refine gate_store (t:=26) (p:=2) rfl ?_);refine store_event (t:=26) (p:=2) (v:=?vo_w4) (w1:=w3.setCell ⟨go,0,none⟩ (.slice A3 y.length c3)) ?hg ?ho ?hn ?hr ?_;(case ho=>rfl);(case hg=>rfl);(case hn=>rfl);(case hr=>go_simp <;> rfl);intro w4 hw;have kk1:=As_ (show TabIs Try.prog 3 3 w4 bm iv iv T from (by rw [hw];exact HS.out.setCell (by have:=H5.out;unfold impl_codesOf.Five at this;(try dsimp only);omega) _));have kk2:=As_ (show Kd.R (Kd.int .i64) 3 w4 w0.heap.size (fun k=>k≠gs∧k≠go∧k≠gg∧k≠gw∧k≠bm) (.slice A3 y.length c3) y from (by rw [hw];exact Kd.R_far (p:=⟨go,0,none⟩) HO.out (fun k hk=>hk.2.1) _));have kk3:=As_ (show Below w0.heap.size w0 w4 from (by rw [hw];exact bwS HB.out (by have:=H5.out;unfold impl_codesOf.Five at this;exact this.2.1)));have kk4:=As_ (show w4.heap[gs]?=some (.cells #[.map (some bm)] 75 (0,0)) from (by rw [hw];exact blk_far BKs.out (by have:=H5.out;unfold impl_codesOf.Five at this;(try dsimp only);omega) _));have kk5:=As_ (show w4.heap[go]?=some (.cells #[.slice A3 y.length c3] 26 (0,0)) from (by rw [hw];exact blk_put (cs:=#[.slice Ao S.length co]) BKo.out 0 _ rfl));have kk6:=As_ (show w4.heap[gg]?=some (.cells #[.slice (some ad) l.length c] 23 (0,0)) from (by rw [hw];exact blk_far BKg.out (by have:=H5.out;unfold impl_codesOf.Five at this;(try dsimp only);omega) _));have kk7:=As_ (show w4.heap[gw]?=some (.cells #[(.func (.func 76) #[] #[.pointer (some ⟨gs,0,none⟩),.pointer (some ⟨go,0,none⟩),.pointer (some ⟨gg,0,none⟩),.pointer (some ⟨gw,0,none⟩)])] 76 (0,0)) from (by rw [hw];exact blk_far BKw.out (by have:=H5.out;unfold impl_codesOf.Five at this;(try dsimp only);omega) _));clear HS HO HB BKs BKo BKg BKw;have HS:=kk1;have HO:=kk2;have HB:=kk3;have BKs:=kk4;have BKo:=kk5;have BKg:=kk6;have BKw:=kk7;clear kk1 kk2 kk3 kk4 kk5 kk6 kk7 hw))
  first|go_end0|((try simp only [Exit.inBlock,Exit.then]);refine bodyPost_ret (results_none rfl _ _ _) rfl ?_)
  exact ⟨rfl,_,BKs.out,BKo.out,BKg.out,BKw.out,HS.out,HO.out,HB.out⟩
 rw [if_neg c3] at h
 have hn:T.lookup i=none:=by
  cases hn:T.lookup i with
  | none=>rfl
  | some n=>exact absurd (by rw [hn];rfl) c3
 have HNone:=As_ hn
 clear hn c3
 by_cases c6:T.length<17592186044000
 rotate_left
 ·rw [if_neg c6] at h
  cases h
 rw [if_pos c6] at h
 have HLS:=As_ c6
 clear c6 h5
 by_cases c4:(rd_T58 l i).f0=0
 ·rw [if_pos c4] at h
  obtain ⟨T',hT'⟩:∃ t_:List (Int × Int),t_=T:=⟨_,rfl⟩
  rw [← hT'] at h
  have NT:=As_ hT'
  clear hT'
  obtain ⟨y,hy⟩:∃ y_:List Int,y_=S++[(rd_T58 l i).f0,(rd_T58 l i).f1,((rd_T58 l i).f2.length:Int)]:=⟨_,rfl⟩
  rw [← hy] at h
  have Ny:=As_ hy
  clear hy
  have H':=As_ h
  clear h
  have cf:((rd_T58 l i).f0 != 0)=false:=(by rw [c4];rfl)
  clear c4
  go_enter Try.func76,Try.ntmps76
  go_wp2_with (first|(at_lookup;refine wpList_tab_lookup_ok _ rfl _ _ 75 rfl 3 3 (Go.Maps.int_keyed Try.underlying3) Try.underlying75 (impl_codesOf.zero_int _) (plainElem_int Try.underlying3 (by decide)) bm iv iv T rfl HS.out i (.int .i64 i) rfl (Go.Maps.keyOf_int_mk Try.underlying3 hwf.out) (.int .i64 0) false (by unfold tabAt;rw [HNone.out]) (by rw [HNone.out];rfl) ?_)|((with_reducible refine gate_dst (N:=8) rfl ?_);refine box_event ?hg (N:=8) ?hd (cs:=#[.int .i64 0,.int .i64 0,.slice none 0 0]) (t:=58) ?hr ?_;(case hd=>rfl);(case hg=>rfl);(case hr=>go_simp <;> rfl);intro gx hg wx hbox hb;have kk1:=As_ (HS.out.below hb);have kk2:=As_ (show Kd.R (Kd.int .i64) 3 wx w0.heap.size (fun k=>(k≠gs∧k≠go∧k≠gg∧k≠gw∧k≠bm)∧k<gx) (.slice Ao S.length co) S from (by rw [hg];exact Kd.R_mono (Kd.R_below (Kd.R_bound HO.out) hb) (fun k_ hk_=>⟨hk_.1,hk_.2.2.1⟩)));have kk3:=As_ (bwT HB.out hb);have kk4:=As_ (blk_below BKs.out hb);have kk5:=As_ (blk_below BKo.out hb);have kk6:=As_ (blk_below BKg.out hb);have kk7:=As_ (blk_below BKw.out hb);have Nx:=As_ (show gs<gx∧go<gx∧gg<gx∧gw<gx∧bm<gx∧w0.heap.size≤gx from (by rw [hg];exact ⟨blk_lt BKs.out,blk_lt BKo.out,blk_lt BKg.out,blk_lt BKw.out,HS.out.lt,bwZ HB.out⟩));have BKx:=As_ hbox;clear HS HO HB BKs BKo BKg BKw;have HS:=kk1;have HO:=kk2;have HB:=kk3;have BKs:=kk4;have BKo:=kk5;have BKg:=kk6;have BKw:=kk7;clear kk1 kk2 kk3 kk4 kk5 kk6 kk7 hg hb hbox;have hczx0:wx.cell? ⟨gx,0,none⟩=some (.int .i64 0):=(bkC BKx.out 0).trans rfl;have hczx1:wx.cell? ⟨gx,1,none⟩=some (.int .i64 0):=(bkC BKx.out 1).trans rfl;have hczx2:wx.cell? ⟨gx,2,none⟩=some (.slice none 0 0):=(bkC BKx.out 2).trans rfl;have hfzx0:=bkF BKx.out 0;have hfzx1:=bkF BKx.out 1;have hfzx2:=bkF BKx.out 2)|((with_reducible refine gate_store (t:=58) (p:=8) rfl ?_);refine store_event (t:=58) (p:=8) (v:=?vo_wyz) (w1:=((wx.setCell ⟨gx,0,none⟩ (.int .i64 (rd_T58 l i).f0)).setCell ⟨gx,1,none⟩ (.int .i64 (rd_T58 l i).f1)).setCell ⟨gx,2,none⟩ (.slice A2 (rd_T58 l i).f2.length c2)) ?hg ?ho ?hn ?hr ?_;(case ho=>rfl);(case hg=>rfl);(case hn=>rfl);(case hr=>go_simp <;> rfl);intro wy hw;have kk1:=As_ (show TabIs Try.prog 3 3 wy bm iv iv T from (by rw [hw];refine TabIs.setCell (TabIs.setCell (TabIs.setCell HS.out ?_ _) ?_ _) ?_ _ <;> (have:=Nx.out;(try dsimp only);omega)));have kk2:=As_ (show Kd.R (Kd.int .i64) 3 wy w0.heap.size (fun k=>(k≠gs∧k≠go∧k≠gg∧k≠gw∧k≠bm)∧k<gx) (.slice Ao S.length co) S from (by rw [hw];exact Kd.R_far (p:=⟨gx,2,none⟩) (Kd.R_far (p:=⟨gx,1,none⟩) (Kd.R_far (p:=⟨gx,0,none⟩) HO.out (fun k hk=>Nat.ne_of_lt hk.2) _) (fun k hk=>Nat.ne_of_lt hk.2) _) (fun k hk=>Nat.ne_of_lt hk.2) _));have kk3:=As_ (show Below w0.heap.size w0 wy from (by rw [hw];exact bwS (bwS (bwS HB.out (by have:=Nx.out;(try dsimp only);omega)) (by have:=Nx.out;(try dsimp only);omega)) (by have:=Nx.out;(try dsimp only);omega)));have kk4:=As_ (show wy.heap[gs]?=some (.cells #[.map (some bm)] 75 (0,0)) from (by rw [hw];refine blk_far (blk_far (blk_far BKs.out ?_ _) ?_ _) ?_ _ <;> (have:=Nx.out;(try dsimp only);omega)));have kk5:=As_ (show wy.heap[go]?=some (.cells #[.slice Ao S.length co] 26 (0,0)) from (by rw [hw];refine blk_far (blk_far (blk_far BKo.out ?_ _) ?_ _) ?_ _ <;> (have:=Nx.out;(try dsimp only);omega)));have kk6:=As_ (show wy.heap[gg]?=some (.cells #[.slice (some ad) l.length c] 23 (0,0)) from (by rw [hw];refine blk_far (blk_far (blk_far BKg.out ?_ _) ?_ _) ?_ _ <;> (have:=Nx.out;(try dsimp only);omega)));have kk7:=As_ (show wy.heap[gw]?=some (.cells #[(.func (.func 76) #[] #[.pointer (some ⟨gs,0,none⟩),.pointer (some ⟨go,0,none⟩),.pointer (some ⟨gg,0,none⟩),.pointer (some ⟨gw,0,none⟩)])] 76 (0,0)) from (by rw [hw];refine blk_far (blk_far (blk_far BKw.out ?_ _) ?_ _) ?_ _ <;> (have:=Nx.out;(try dsimp only);omega)));have kx:=As_ (show wy.heap[gx]?=some (.cells #[.int .i64 (rd_T58 l i).f0,.int .i64 (rd_T58 l i).f1,.slice A2 (rd_T58 l i).f2.length c2] 58 (0,0)) from (by rw [hw];exact blk_put (cs:=#[.int .i64 (rd_T58 l i).f0,.int .i64 (rd_T58 l i).f1,.slice none 0 0]) (blk_put (cs:=#[.int .i64 (rd_T58 l i).f0,.int .i64 0,.slice none 0 0]) (blk_put (cs:=#[.int .i64 0,.int .i64 0,.slice none 0 0]) BKx.out 0 _ rfl) 1 _ rfl) 2 _ rfl));clear BKx;have BKx:=kx;clear kx HS HO HB BKs BKo BKg BKw;have HS:=kk1;have HO:=kk2;have HB:=kk3;have BKs:=kk4;have BKo:=kk5;have BKg:=kk6;have BKw:=kk7;clear kk1 kk2 kk3 kk4 kk5 kk6 kk7;have HOx:=As_ (show ∀ k_:Nat,(Value.slice Ao S.length co).ownBlock=some k_→k_<gx from (fun k_ h_=>(HO.out.1 k_ h_).2));have HO1:=As_ (Kd.R_mono HO.out (fun k_ hk_=>hk_.1));clear HO;have HO:=HO1;clear HO1 hw;have hcy0:wy.cell? ⟨gx,0,none⟩=some (.int .i64 (rd_T58 l i).f0):=(bkC BKx.out 0).trans rfl;have hcy1:wy.cell? ⟨gx,1,none⟩=some (.int .i64 (rd_T58 l i).f1):=(bkC BKx.out 1).trans rfl;have hcy2:wy.cell? ⟨gx,2,none⟩=some (.slice A2 (rd_T58 l i).f2.length c2):=(bkC BKx.out 2).trans rfl;have hfy0:=bkF BKx.out 0;have hfy1:=bkF BKx.out 1;have hfy2:=bkF BKx.out 2;have hcys:wy.cell? ⟨gs,0,none⟩=some (.map (some bm)):=(bkC BKs.out 0).trans rfl;have hfys:=bkF BKs.out 0;have hcyo:wy.cell? ⟨go,0,none⟩=some (.slice Ao S.length co):=(bkC BKo.out 0).trans rfl;have hfyo:=bkF BKo.out 0;have kk1:=As_ (show TabIs Try.prog 3 3 wy bm iv iv T' from (by rw [NT.out];exact HS.out));clear HS;have HS:=kk1;clear kk1)|((with_reducible refine gate_builtin (b:=.append) (xs:=#[.tmp 33,.tmp 41]) rfl ?_);at_builtin;refine R_append_lit (w0:=w0) w0.heap.size rfl (.tmp 33) (.tmp 41) 26 3 rfl Try.underlying26 info3 (.slice Ao S.length co) S [(rd_T58 l i).f0,(rd_T58 l i).f1,((rd_T58 l i).f2.length:Int)] (fun k=>k≠gs∧k≠go∧k≠gg∧k≠gw∧k≠bm) rfl rfl ?aF ?aO ?aB ?aS ?aL ?_;(case aB=>exact (zb0 HB.out));(case aF=>exact (fun k_ hk_=>by have q1:=blk_lt BKs.out;have q2:=blk_lt BKo.out;have q3:=blk_lt BKg.out;have q4:=blk_lt BKw.out;have q5:=HS.out.lt;(try simp only [World.alloc,Array.size_push] at hk_);exact ⟨by omega,by omega,by omega,by omega,by omega⟩));(case aO=>exact (zR_ HO.out));(case aS=>exact (bwZ (zb0 HB.out)));(case aL=>(have:=HLT.out;simp only [List.length_cons,List.length_nil];omega));intro v3 w3 ho hb hg hat;rw [← Ny.out] at ho;have kk1:=As_ (HS.out.kept hg (fun he=>(HO.out.1 bm he.symm).2.2.2.2 rfl));have kk2:=As_ ho;have kk3:=As_ hb;have kk4:=As_ ((hg.block gs (blk_lt BKs.out) (fun he=>(HO.out.1 gs he.symm).1 rfl)).trans BKs.out);have kk5:=As_ ((hg.block go (blk_lt BKo.out) (fun he=>(HO.out.1 go he.symm).2.1 rfl)).trans BKo.out);have kk6:=As_ ((hg.block gg (blk_lt BKg.out) (fun he=>(HO.out.1 gg he.symm).2.2.1 rfl)).trans BKg.out);have kk7:=As_ ((hg.block gw (blk_lt BKw.out) (fun he=>(HO.out.1 gw he.symm).2.2.2.1 rfl)).trans BKw.out);have kx:=As_ ((hg.block gx (blk_lt BKx.out) (fun he=>by have q1:=HOx.out gx he.symm;omega)).trans BKx.out);clear BKx;have BKx:=kx;clear kx HOx HS HO HB BKs BKo BKg BKw;have HS:=kk1;have HO:=kk2;have HB:=kk3;have BKs:=kk4;have BKo:=kk5;have BKg:=kk6;have BKw:=kk7;clear kk1 kk2 kk3 kk4 kk5 kk6 kk7 ho hb hg hat;obtain ⟨A3,c3,e3⟩:=Kd.R_slice HO.out;subst e3;have hczo3:w3.cell? ⟨go,0,none⟩=some (.slice Ao S.length co):=(bkC BKo.out 0).trans rfl;have hfzo3:=bkF BKo.out 0)|((with_reducible refine gate_store (t:=26) (p:=2) rfl ?_);refine store_event (t:=26) (p:=2) (v:=?vo_w4z) (w1:=w3.setCell ⟨go,0,none⟩ (.slice A3 y.length c3)) ?hg ?ho ?hn ?hr ?_;(case ho=>rfl);(case hg=>rfl);(case hn=>rfl);(case hr=>go_simp <;> rfl);intro w4 hw;have kk1:=As_ (show TabIs Try.prog 3 3 w4 bm iv iv T' from (by rw [hw];exact HS.out.setCell (by have:=H5.out;unfold impl_codesOf.Five at this;(try dsimp only);omega) _));have kk2:=As_ (show Kd.R (Kd.int .i64) 3 w4 w0.heap.size (fun k=>k≠gs∧k≠go∧k≠gg∧k≠gw∧k≠bm) (.slice A3 y.length c3) y from (by rw [hw];exact Kd.R_far (p:=⟨go,0,none⟩) HO.out (fun k hk=>hk.2.1) _));have kk3:=As_ (show Below w0.heap.size w0 w4 from (by rw [hw];exact bwS HB.out (by have:=H5.out;unfold impl_codesOf.Five at this;exact this.2.1)));have kk4:=As_ (show w4.heap[gs]?=some (.cells #[.map (some bm)] 75 (0,0)) from (by rw [hw];exact blk_far BKs.out (by have:=H5.out;unfold impl_codesOf.Five at this;(try dsimp only);omega) _));have kk5:=As_ (show w4.heap[go]?=some (.cells #[.slice A3 y.length c3] 26 (0,0)) from (by rw [hw];exact blk_put (cs:=#[.slice Ao S.length co]) BKo.out 0 _ rfl));have kk6:=As_ (show w4.heap[gg]?=some (.cells #[.slice (some ad) l.length c] 23 (0,0)) from (by rw [hw];exact blk_far BKg.out (by have:=H5.out;unfold impl_codesOf.Five at this;(try dsimp only);omega) _));have kk7:=As_ (show w4.heap[gw]?=some (.cells #[(.func (.func 76) #[] #[.pointer (some ⟨gs,0,none⟩),.pointer (some ⟨go,0,none⟩),.pointer (some ⟨gg,0,none⟩),.pointer (some ⟨gw,0,none⟩)])] 76 (0,0)) from (by rw [hw];exact blk_far BKw.out (by have:=H5.out;unfold impl_codesOf.Five at this;(try dsimp only);omega) _));have kx:=As_ (show w4.heap[gx]?=some (.cells #[.int .i64 (rd_T58 l i).f0,.int .i64 (rd_T58 l i).f1,.slice A2 (rd_T58 l i).f2.length c2] 58 (0,0)) from (by rw [hw];exact blk_far BKx.out (by have:=Nx.out;(try dsimp only);omega) _));clear BKx;have BKx:=kx;clear kx HS HO HB BKs BKo BKg BKw;have HS:=kk1;have HO:=kk2;have HB:=kk3;have BKs:=kk4;have BKo:=kk5;have BKg:=kk6;have BKw:=kk7;clear kk1 kk2 kk3 kk4 kk5 kk6 kk7 hw;have hczx4:w4.cell? ⟨gx,2,none⟩=some (.slice A2 (rd_T58 l i).f2.length c2):=(bkC BKx.out 2).trans rfl;have hfzx4:=bkF BKx.out 2))
  go_loopg [46] k (fun kq v46 w'=>∃ (x:Int) (S1:List Int) (T1:List (Int × Int)) (v1:Value),v46=.int .i64 x∧Aside0 (impl_codesOf.kids kq l (rd_T58 l i).f2 x S1 T1=some (r,rT))∧Aside0 (kq≤k)∧Aside0 (impl_codesOf.Inv l (some ad) c gs go gg gw bm w0 w' S1 T1 v1))
  case atStart=>exact ⟨0,y,T',_,rfl,H',⟨Nat.le_refl _⟩,⟨BKs.out,BKo.out,BKg.out,BKw.out,HS.out,HO.out,HB.out⟩⟩
  case round=>
   clear H'
   obtain ⟨x,S1,T1,v1,rfl,HA,HK1,HI⟩:=hrel
   cases gk with
   | zero=>exact absurd HA.out (by simp [impl_codesOf.kids])
   | succ k1=>
    have H:=HA.out
    clear HA
    unfold impl_codesOf.kids at H
    by_cases d0:x<((rd_T58 l i).f2.length:Int)
    rotate_left
    ·rw [if_neg d0] at H
     simp only [Option.some.injEq,Prod.mk.injEq] at H
     obtain ⟨rfl,rfl⟩:=H
     have d0b:decide (x<((rd_T58 l i).f2.length:Int))=false:=deF d0
     go_wp2
     first|go_end0|((try simp only [Exit.inBlock,Exit.then]);refine bodyPost_ret (results_none rfl _ _ _) rfl ?_)
     exact ⟨rfl,v1,HI.out⟩
    rw [if_pos d0] at H
    by_cases d1:0≤x
    rotate_left
    ·rw [if_neg d1] at H
     cases H
    rw [if_pos d1] at H
    obtain ⟨⟨S2,T2⟩,A30,H⟩:=obS H
    have A3':=As_ A30
    have H':=As_ H
    clear A30 H
    obtain ⟨ad2,e2,hxe⟩:=Kd.at_int HK2.out x d1 d0
    subst e2
    have hbw2:=HI.out.2.2.2.1
    have hb2:=HI.out.2.2.2.2.2.2
    have hxe2:=(hb2.cell (bwL w0 _ hxe)).trans hxe
    have hczw:wr.cell? ⟨gw,0,none⟩=some (.func (.func 76) #[] #[.pointer (some ⟨gs,0,none⟩),.pointer (some ⟨go,0,none⟩),.pointer (some ⟨gg,0,none⟩),.pointer (some ⟨gw,0,none⟩)]):=(bkC hbw2 0).trans rfl
    have hfzw:=bkF hbw2 0
    have d0b:decide (x<((rd_T58 l i).f2.length:Int))=true:=deT d0
    have p6:=eq_true d1
    have q6:=eq_true d0
    clear hbw2 hb2 hxe
    go_wp2_with (go_at_call 76;(with_reducible refine (ih k1 (by have:=HK1.out;omega) (rd (rd_T58 l i).f2 x) S1 T1 S2 T2 v1 _ HI.out A3'.out).mono ?_);rintro e w9 ⟨rfl,v2,hI2⟩;have HI2:=As_ hI2;clear hI2)
    go_roundg k1
    case measure=>have:=HK1.out;omega
    case rel=>exact ⟨wrap64 (x+1),S2,T2,v2,(by first|rfl|(simp;done)),H',⟨by have:=HK1.out;omega⟩,HI2⟩
 rw [if_neg c4] at h
 obtain ⟨T',hT'⟩:∃ t_:List (Int × Int),t_=T++[(i,(T.length:Int))]:=⟨_,rfl⟩
 rw [← hT'] at h
 have NT:=As_ hT'
 clear hT'
 obtain ⟨y,hy⟩:∃ y_:List Int,y_=S++[(rd_T58 l i).f0,(rd_T58 l i).f1,((rd_T58 l i).f2.length:Int)]:=⟨_,rfl⟩
 rw [← hy] at h
 have Ny:=As_ hy
 clear hy
 have H':=As_ h
 clear h
 have cf:((rd_T58 l i).f0 != 0)=true:=(by simp only [bne_iff_ne,ne_eq];exact c4)
 clear c4
 go_enter Try.func76,Try.ntmps76
 go_wp2_with (first|(at_lookup;refine wpList_tab_lookup_ok _ rfl _ _ 75 rfl 3 3 (Go.Maps.int_keyed Try.underlying3) Try.underlying75 (impl_codesOf.zero_int _) (plainElem_int Try.underlying3 (by decide)) bm iv iv T rfl HS.out i (.int .i64 i) rfl (Go.Maps.keyOf_int_mk Try.underlying3 hwf.out) (.int .i64 0) false (by unfold tabAt;rw [HNone.out]) (by rw [HNone.out];rfl) ?_)|((with_reducible refine gate_dst (N:=8) rfl ?_);refine box_event ?hg (N:=8) ?hd (cs:=#[.int .i64 0,.int .i64 0,.slice none 0 0]) (t:=58) ?hr ?_;(case hd=>rfl);(case hg=>rfl);(case hr=>go_simp <;> rfl);intro gx hg wx hbox hb;have kk1:=As_ (HS.out.below hb);have kk2:=As_ (show Kd.R (Kd.int .i64) 3 wx w0.heap.size (fun k=>(k≠gs∧k≠go∧k≠gg∧k≠gw∧k≠bm)∧k<gx) (.slice Ao S.length co) S from (by rw [hg];exact Kd.R_mono (Kd.R_below (Kd.R_bound HO.out) hb) (fun k_ hk_=>⟨hk_.1,hk_.2.2.1⟩)));have kk3:=As_ (bwT HB.out hb);have kk4:=As_ (blk_below BKs.out hb);have kk5:=As_ (blk_below BKo.out hb);have kk6:=As_ (blk_below BKg.out hb);have kk7:=As_ (blk_below BKw.out hb);have Nx:=As_ (show gs<gx∧go<gx∧gg<gx∧gw<gx∧bm<gx∧w0.heap.size≤gx from (by rw [hg];exact ⟨blk_lt BKs.out,blk_lt BKo.out,blk_lt BKg.out,blk_lt BKw.out,HS.out.lt,bwZ HB.out⟩));have BKx:=As_ hbox;clear HS HO HB BKs BKo BKg BKw;have HS:=kk1;have HO:=kk2;have HB:=kk3;have BKs:=kk4;have BKo:=kk5;have BKg:=kk6;have BKw:=kk7;clear kk1 kk2 kk3 kk4 kk5 kk6 kk7 hg hb hbox;have hczx0:wx.cell? ⟨gx,0,none⟩=some (.int .i64 0):=(bkC BKx.out 0).trans rfl;have hczx1:wx.cell? ⟨gx,1,none⟩=some (.int .i64 0):=(bkC BKx.out 1).trans rfl;have hczx2:wx.cell? ⟨gx,2,none⟩=some (.slice none 0 0):=(bkC BKx.out 2).trans rfl;have hfzx0:=bkF BKx.out 0;have hfzx1:=bkF BKx.out 1;have hfzx2:=bkF BKx.out 2)|((with_reducible refine gate_store (t:=58) (p:=8) rfl ?_);refine store_event (t:=58) (p:=8) (v:=?vo_wyn) (w1:=((wx.setCell ⟨gx,0,none⟩ (.int .i64 (rd_T58 l i).f0)).setCell ⟨gx,1,none⟩ (.int .i64 (rd_T58 l i).f1)).setCell ⟨gx,2,none⟩ (.slice A2 (rd_T58 l i).f2.length c2)) ?hg ?ho ?hn ?hr ?_;(case ho=>rfl);(case hg=>rfl);(case hn=>rfl);(case hr=>go_simp <;> rfl);intro wy hw;have kk1:=As_ (show TabIs Try.prog 3 3 wy bm iv iv T from (by rw [hw];refine TabIs.setCell (TabIs.setCell (TabIs.setCell HS.out ?_ _) ?_ _) ?_ _ <;> (have:=Nx.out;(try dsimp only);omega)));have kk2:=As_ (show Kd.R (Kd.int .i64) 3 wy w0.heap.size (fun k=>(k≠gs∧k≠go∧k≠gg∧k≠gw∧k≠bm)∧k<gx) (.slice Ao S.length co) S from (by rw [hw];exact Kd.R_far (p:=⟨gx,2,none⟩) (Kd.R_far (p:=⟨gx,1,none⟩) (Kd.R_far (p:=⟨gx,0,none⟩) HO.out (fun k hk=>Nat.ne_of_lt hk.2) _) (fun k hk=>Nat.ne_of_lt hk.2) _) (fun k hk=>Nat.ne_of_lt hk.2) _));have kk3:=As_ (show Below w0.heap.size w0 wy from (by rw [hw];exact bwS (bwS (bwS HB.out (by have:=Nx.out;(try dsimp only);omega)) (by have:=Nx.out;(try dsimp only);omega)) (by have:=Nx.out;(try dsimp only);omega)));have kk4:=As_ (show wy.heap[gs]?=some (.cells #[.map (some bm)] 75 (0,0)) from (by rw [hw];refine blk_far (blk_far (blk_far BKs.out ?_ _) ?_ _) ?_ _ <;> (have:=Nx.out;(try dsimp only);omega)));have kk5:=As_ (show wy.heap[go]?=some (.cells #[.slice Ao S.length co] 26 (0,0)) from (by rw [hw];refine blk_far (blk_far (blk_far BKo.out ?_ _) ?_ _) ?_ _ <;> (have:=Nx.out;(try dsimp only);omega)));have kk6:=As_ (show wy.heap[gg]?=some (.cells #[.slice (some ad) l.length c] 23 (0,0)) from (by rw [hw];refine blk_far (blk_far (blk_far BKg.out ?_ _) ?_ _) ?_ _ <;> (have:=Nx.out;(try dsimp only);omega)));have kk7:=As_ (show wy.heap[gw]?=some (.cells #[(.func (.func 76) #[] #[.pointer (some ⟨gs,0,none⟩),.pointer (some ⟨go,0,none⟩),.pointer (some ⟨gg,0,none⟩),.pointer (some ⟨gw,0,none⟩)])] 76 (0,0)) from (by rw [hw];refine blk_far (blk_far (blk_far BKw.out ?_ _) ?_ _) ?_ _ <;> (have:=Nx.out;(try dsimp only);omega)));have kx:=As_ (show wy.heap[gx]?=some (.cells #[.int .i64 (rd_T58 l i).f0,.int .i64 (rd_T58 l i).f1,.slice A2 (rd_T58 l i).f2.length c2] 58 (0,0)) from (by rw [hw];exact blk_put (cs:=#[.int .i64 (rd_T58 l i).f0,.int .i64 (rd_T58 l i).f1,.slice none 0 0]) (blk_put (cs:=#[.int .i64 (rd_T58 l i).f0,.int .i64 0,.slice none 0 0]) (blk_put (cs:=#[.int .i64 0,.int .i64 0,.slice none 0 0]) BKx.out 0 _ rfl) 1 _ rfl) 2 _ rfl));clear BKx;have BKx:=kx;clear kx HS HO HB BKs BKo BKg BKw;have HS:=kk1;have HO:=kk2;have HB:=kk3;have BKs:=kk4;have BKo:=kk5;have BKg:=kk6;have BKw:=kk7;clear kk1 kk2 kk3 kk4 kk5 kk6 kk7;have HOx:=As_ (show ∀ k_:Nat,(Value.slice Ao S.length co).ownBlock=some k_→k_<gx from (fun k_ h_=>(HO.out.1 k_ h_).2));have HO1:=As_ (Kd.R_mono HO.out (fun k_ hk_=>hk_.1));clear HO;have HO:=HO1;clear HO1 hw;have hcy0:wy.cell? ⟨gx,0,none⟩=some (.int .i64 (rd_T58 l i).f0):=(bkC BKx.out 0).trans rfl;have hcy1:wy.cell? ⟨gx,1,none⟩=some (.int .i64 (rd_T58 l i).f1):=(bkC BKx.out 1).trans rfl;have hcy2:wy.cell? ⟨gx,2,none⟩=some (.slice A2 (rd_T58 l i).f2.length c2):=(bkC BKx.out 2).trans rfl;have hfy0:=bkF BKx.out 0;have hfy1:=bkF BKx.out 1;have hfy2:=bkF BKx.out 2;have hcys:wy.cell? ⟨gs,0,none⟩=some (.map (some bm)):=(bkC BKs.out 0).trans rfl;have hfys:=bkF BKs.out 0;have hcyo:wy.cell? ⟨go,0,none⟩=some (.slice Ao S.length co):=(bkC BKo.out 0).trans rfl;have hfyo:=bkF BKo.out 0)|(at_len;refine wpList_tab_len _ rfl _ 75 rfl 3 3 Try.underlying75 bm iv iv T rfl HS.out ?_)|(at_mapUpdate;refine wpList_tab_update _ rfl _ _ _ 75 rfl 3 3 (Go.Maps.int_keyed Try.underlying3) Try.underlying75 bm iv iv T rfl HS.out (Nat.lt_of_lt_of_le HLS.out (by decide)) i (T.length:Int) (.int .i64 i) (.lit (.int .i64 (T.length:Int))) rfl rfl (Go.Maps.keyOf_int_mk Try.underlying3 hwf.out) (plainElem_int Try.underlying3 (impl_codesOf.wf_len (Nat.lt_trans HLS.out (by decide)))) HNone.out (fun a_ h_=>iv_inj h_) ?_;intro w2 hs2 ht2;have kk1:=As_ (show TabIs Try.prog 3 3 w2 bm iv iv T' from (by rw [NT.out];exact hs2));have kk2:=As_ (Kd.R_grown HO.out ht2.grown (fun k_ hk_ he_=>hk_.2.2.2.2 (by injection he_)));have kk3:=As_ (show Below w0.heap.size w0 w2 from HB.out.grown ht2.grown HB.out.size (fun j hj=>by cases hj;exact G5.out));have kk4:=As_ ((ht2.grown.block gs (blk_lt BKs.out) (by have:=H5.out;unfold impl_codesOf.Five at this;intro e;injection e;omega)).trans BKs.out);have kk5:=As_ ((ht2.grown.block go (blk_lt BKo.out) (by have:=H5.out;unfold impl_codesOf.Five at this;intro e;injection e;omega)).trans BKo.out);have kk6:=As_ ((ht2.grown.block gg (blk_lt BKg.out) (by have:=H5.out;unfold impl_codesOf.Five at this;intro e;injection e;omega)).trans BKg.out);have kk7:=As_ ((ht2.grown.block gw (blk_lt BKw.out) (by have:=H5.out;unfold impl_codesOf.Five at this;intro e;injection e;omega)).trans BKw.out);have kx:=As_ ((ht2.grown.block gx (blk_lt BKx.out) (by have:=Nx.out;intro e;injection e;omega)).trans BKx.out);clear BKx;have BKx:=kx;clear kx HS HO HB BKs BKo BKg BKw;have HS:=kk1;have HO:=kk2;have HB:=kk3;have BKs:=kk4;have BKo:=kk5;have BKg:=kk6;have BKw:=kk7;clear kk1 kk2 kk3 kk4 kk5 kk6 kk7 hs2 ht2;have hcu0:w2.cell? ⟨gx,0,none⟩=some (.int .i64 (rd_T58 l i).f0):=(bkC BKx.out 0).trans rfl;have hcu1:w2.cell? ⟨gx,1,none⟩=some (.int .i64 (rd_T58 l i).f1):=(bkC BKx.out 1).trans rfl;have hcu2:w2.cell? ⟨gx,2,none⟩=some (.slice A2 (rd_T58 l i).f2.length c2):=(bkC BKx.out 2).trans rfl;have hfu0:=bkF BKx.out 0;have hfu1:=bkF BKx.out 1;have hfu2:=bkF BKx.out 2;have hcuo:w2.cell? ⟨go,0,none⟩=some (.slice Ao S.length co):=(bkC BKo.out 0).trans rfl;have hfuo:=bkF BKo.out 0)|((with_reducible refine gate_builtin (b:=.append) (xs:=#[.tmp 33,.tmp 41]) rfl ?_);at_builtin;refine R_append_lit (w0:=w0) w0.heap.size rfl (.tmp 33) (.tmp 41) 26 3 rfl Try.underlying26 info3 (.slice Ao S.length co) S [(rd_T58 l i).f0,(rd_T58 l i).f1,((rd_T58 l i).f2.length:Int)] (fun k=>k≠gs∧k≠go∧k≠gg∧k≠gw∧k≠bm) rfl rfl ?aF ?aO ?aB ?aS ?aL ?_;(case aB=>exact (zb0 HB.out));(case aF=>exact (fun k_ hk_=>by have q1:=blk_lt BKs.out;have q2:=blk_lt BKo.out;have q3:=blk_lt BKg.out;have q4:=blk_lt BKw.out;have q5:=HS.out.lt;(try simp only [World.alloc,Array.size_push] at hk_);exact ⟨by omega,by omega,by omega,by omega,by omega⟩));(case aO=>exact (zR_ HO.out));(case aS=>exact (bwZ (zb0 HB.out)));(case aL=>(have:=HLT.out;simp only [List.length_cons,List.length_nil];omega));intro v3 w3 ho hb hg hat;rw [← Ny.out] at ho;have kk1:=As_ (HS.out.kept hg (fun he=>(HO.out.1 bm he.symm).2.2.2.2 rfl));have kk2:=As_ ho;have kk3:=As_ hb;have kk4:=As_ ((hg.block gs (blk_lt BKs.out) (fun he=>(HO.out.1 gs he.symm).1 rfl)).trans BKs.out);have kk5:=As_ ((hg.block go (blk_lt BKo.out) (fun he=>(HO.out.1 go he.symm).2.1 rfl)).trans BKo.out);have kk6:=As_ ((hg.block gg (blk_lt BKg.out) (fun he=>(HO.out.1 gg he.symm).2.2.1 rfl)).trans BKg.out);have kk7:=As_ ((hg.block gw (blk_lt BKw.out) (fun he=>(HO.out.1 gw he.symm).2.2.2.1 rfl)).trans BKw.out);have kx:=As_ ((hg.block gx (blk_lt BKx.out) (fun he=>by have q1:=HOx.out gx he.symm;omega)).trans BKx.out);clear BKx;have BKx:=kx;clear kx HOx HS HO HB BKs BKo BKg BKw;have HS:=kk1;have HO:=kk2;have HB:=kk3;have BKs:=kk4;have BKo:=kk5;have BKg:=kk6;have BKw:=kk7;clear kk1 kk2 kk3 kk4 kk5 kk6 kk7 ho hb hg hat;obtain ⟨A3,c3,e3⟩:=Kd.R_slice HO.out;subst e3;have hczo3:w3.cell? ⟨go,0,none⟩=some (.slice Ao S.length co):=(bkC BKo.out 0).trans rfl;have hfzo3:=bkF BKo.out 0)|((with_reducible refine gate_store (t:=26) (p:=2) rfl ?_);refine store_event (t:=26) (p:=2) (v:=?vo_w4n) (w1:=w3.setCell ⟨go,0,none⟩ (.slice A3 y.length c3)) ?hg ?ho ?hn ?hr ?_;(case ho=>rfl);(case hg=>rfl);(case hn=>rfl);(case hr=>go_simp <;> rfl);intro w4 hw;have kk1:=As_ (show TabIs Try.prog 3 3 w4 bm iv iv T' from (by rw [hw];exact HS.out.setCell (by have:=H5.out;unfold impl_codesOf.Five at this;(try dsimp only);omega) _));have kk2:=As_ (show Kd.R (Kd.int .i64) 3 w4 w0.heap.size (fun k=>k≠gs∧k≠go∧k≠gg∧k≠gw∧k≠bm) (.slice A3 y.length c3) y from (by rw [hw];exact Kd.R_far (p:=⟨go,0,none⟩) HO.out (fun k hk=>hk.2.1) _));have kk3:=As_ (show Below w0.heap.size w0 w4 from (by rw [hw];exact bwS HB.out (by have:=H5.out;unfold impl_codesOf.Five at this;exact this.2.1)));have kk4:=As_ (show w4.heap[gs]?=some (.cells #[.map (some bm)] 75 (0,0)) from (by rw [hw];exact blk_far BKs.out (by have:=H5.out;unfold impl_codesOf.Five at this;(try dsimp only);omega) _));have kk5:=As_ (show w4.heap[go]?=some (.cells #[.slice A3 y.length c3] 26 (0,0)) from (by rw [hw];exact blk_put (cs:=#[.slice Ao S.length co]) BKo.out 0 _ rfl));have kk6:=As_ (show w4.heap[gg]?=some (.cells #[.slice (some ad) l.length c] 23 (0,0)) from (by rw [hw];exact blk_far BKg.out (by have:=H5.out;unfold impl_codesOf.Five at this;(try dsimp only);omega) _));have kk7:=As_ (show w4.heap[gw]?=some (.cells #[(.func (.func 76) #[] #[.pointer (some ⟨gs,0,none⟩),.pointer (some ⟨go,0,none⟩),.pointer (some ⟨gg,0,none⟩),.pointer (some ⟨gw,0,none⟩)])] 76 (0,0)) from (by rw [hw];exact blk_far BKw.out (by have:=H5.out;unfold impl_codesOf.Five at this;(try dsimp only);omega) _));have kx:=As_ (show w4.heap[gx]?=some (.cells #[.int .i64 (rd_T58 l i).f0,.int .i64 (rd_T58 l i).f1,.slice A2 (rd_T58 l i).f2.length c2] 58 (0,0)) from (by rw [hw];exact blk_far BKx.out (by have:=Nx.out;(try dsimp only);omega) _));clear BKx;have BKx:=kx;clear kx HS HO HB BKs BKo BKg BKw;have HS:=kk1;have HO:=kk2;have HB:=kk3;have BKs:=kk4;have BKo:=kk5;have BKg:=kk6;have BKw:=kk7;clear kk1 kk2 kk3 kk4 kk5 kk6 kk7 hw;have hczx4:w4.cell? ⟨gx,2,none⟩=some (.slice A2 (rd_T58 l i).f2.length c2):=(bkC BKx.out 2).trans rfl;have hfzx4:=bkF BKx.out 2))
 go_loopg [46] k (fun kq v46 w'=>∃ (x:Int) (S1:List Int) (T1:List (Int × Int)) (v1:Value),v46=.int .i64 x∧Aside0 (impl_codesOf.kids kq l (rd_T58 l i).f2 x S1 T1=some (r,rT))∧Aside0 (kq≤k)∧Aside0 (impl_codesOf.Inv l (some ad) c gs go gg gw bm w0 w' S1 T1 v1))
 case atStart=>exact ⟨0,y,T',_,rfl,H',⟨Nat.le_refl _⟩,⟨BKs.out,BKo.out,BKg.out,BKw.out,HS.out,HO.out,HB.out⟩⟩
 case round=>
  clear H'
  obtain ⟨x,S1,T1,v1,rfl,HA,HK1,HI⟩:=hrel
  cases gk with
  | zero=>exact absurd HA.out (by simp [impl_codesOf.kids])
  | succ k1=>
   have H:=HA.out
   clear HA
   unfold impl_codesOf.kids at H
   by_cases d0:x<((rd_T58 l i).f2.length:Int)
   rotate_left
   ·rw [if_neg d0] at H
    simp only [Option.some.injEq,Prod.mk.injEq] at H
    obtain ⟨rfl,rfl⟩:=H
    have d0b:decide (x<((rd_T58 l i).f2.length:Int))=false:=deF d0
    go_wp2
    first|go_end0|((try simp only [Exit.inBlock,Exit.then]);refine bodyPost_ret (results_none rfl _ _ _) rfl ?_)
    exact ⟨rfl,v1,HI.out⟩
   rw [if_pos d0] at H
   by_cases d1:0≤x
   rotate_left
   ·rw [if_neg d1] at H
    cases H
   rw [if_pos d1] at H
   obtain ⟨⟨S2,T2⟩,A30,H⟩:=obS H
   have A3':=As_ A30
   have H':=As_ H
   clear A30 H
   obtain ⟨ad2,e2,hxe⟩:=Kd.at_int HK2.out x d1 d0
   subst e2
   have hbw2:=HI.out.2.2.2.1
   have hb2:=HI.out.2.2.2.2.2.2
   have hxe2:=(hb2.cell (bwL w0 _ hxe)).trans hxe
   have hczw:wr.cell? ⟨gw,0,none⟩=some (.func (.func 76) #[] #[.pointer (some ⟨gs,0,none⟩),.pointer (some ⟨go,0,none⟩),.pointer (some ⟨gg,0,none⟩),.pointer (some ⟨gw,0,none⟩)]):=(bkC hbw2 0).trans rfl
   have hfzw:=bkF hbw2 0
   have d0b:decide (x<((rd_T58 l i).f2.length:Int))=true:=deT d0
   have p6:=eq_true d1
   have q6:=eq_true d0
   clear hbw2 hb2 hxe
   go_wp2_with (go_at_call 76;(with_reducible refine (ih k1 (by have:=HK1.out;omega) (rd (rd_T58 l i).f2 x) S1 T1 S2 T2 v1 _ HI.out A3'.out).mono ?_);rintro e w9 ⟨rfl,v2,hI2⟩;have HI2:=As_ hI2;clear hI2)
   go_roundg k1
   case measure=>have:=HK1.out;omega
   case rel=>exact ⟨wrap64 (x+1),S2,T2,v2,(by first|rfl|(simp;done)),H',⟨by have:=HK1.out;omega⟩,HI2⟩
set_option maxHeartbeats 8000000 in
set_option maxRecDepth 100000 in
theorem impl_codesOf.calls (k:Nat) (A0:Option Addr) (c0:Nat) (l0:List (S58)) (A1:Option Addr) (c1:Nat) (l1:List Int) (r:List Int) (w:World) (hr0:Kd.C k58 w A0 l0.length l0) (hc0:l0.length≤c0) (hr1:Kd.C (Kd.int .i64) w A1 l1.length l1) (hc1:l1.length≤c1) (h:impl_codesOf.f k l0 l1=some r) :
  Calls Try.prog 42 #[.slice A0 l0.length c0,.slice A1 l1.length c1] w fun e w'=>∃ v0_:Value,e=.returned (v0_)∧Kd.R (Kd.int .i64) 3 w' w.heap.size (fun _=>True) v0_ r∧Below w.heap.size w w':=by
 have hmm:=@run_makeMap Try.prog
 have HR:=As_ hr0
 have HC:=As_ hc0
 have HR1:=As_ hr1
 have HC1:=As_ hc1
 have H':=As_ (show impl_codesOf.roots k l0 l1 0 [] []=some r from h)
 clear hr0 hc0 hr1 hc1 h
 obtain ⟨y0,hy0⟩:∃ y_:List Int,y_=[]:=⟨_,rfl⟩
 have Ny:=As_ hy0
 clear hy0
 go_enter Try.func42,Try.ntmps42
 go_wp2_with (first|((with_reducible refine gate_dst (N:=2) rfl ?_);refine box_event ?hg (N:=2) ?hd (cs:=#[.slice A0 l0.length c0]) (t:=23) ?hr ?_;(case hd=>rfl);(case hg=>rfl);(case hr=>go_simp <;> rfl);intro gg hg w1 hbox hb;have HB:=As_ hb;have BKg:=As_ hbox;have Gg:=As_ (show w.heap.size≤gg by rw [hg];exact Nat.le_refl _);clear hb hbox hg)|((with_reducible refine gate_dst (N:=10) rfl ?_);refine Kd.R_lit (Kd.int .i64) _ 3 ?hg (N:=10) ?hd (xs:=([]:List Int)) (inner:=[]) (ok:=fun _=>True) (okp:=fun _=>True) ?hr ?hp (fun _ hk=>hk) trivial (Below.refl _ _) (Nat.le_refl _) (by simp) ?_;(case hd=>rfl);(case hg=>rfl);(case hr=>go_simp <;> rfl);(case hp=>exact (Reps.none _ _));intro v6 w2 ho hb hg_ hnew_;clear hg_ hnew_;(first|rw [← Ny.out] at ho|(simp only [Int.reduceToNat] at ho;rw [← Ny.out] at ho));have k1:=As_ (Kd.R_lower (Kd.R_mono (ok':=fun k_=>k_≠gg∧k_<w2.heap.size) (Kd.R_bound ho) (fun k_ hk_=>⟨fun e_=>by have q1:=blk_lt BKg.out;have q2:=hk_.2.1;omega,hk_.2.2.1⟩)) (bwZ HB.out));have k2:=As_ (blk_below BKg.out hb);have k3:=As_ (bwT HB.out hb);clear HB BKg;have HO:=k1;have BKg:=k2;have HB:=k3;clear k1 k2 k3 ho hb;obtain ⟨A6,c6,e6⟩:=Kd.R_slice HO.out;subst e6)|((with_reducible refine gate_dst (N:=5) rfl ?_);refine box_event ?hg (N:=5) ?hd (cs:=#[.slice none 0 0]) (t:=26) ?hr ?_;(case hd=>rfl);(case hg=>rfl);(case hr=>go_simp <;> rfl);intro go hg w3 hbox hb;have k1:=As_ (show Kd.R (Kd.int .i64) 3 w3 w.heap.size (fun k_=>k_≠gg∧k_<go) (.slice A6 y0.length c6) y0 by rw [hg];exact Kd.R_below HO.out hb);have k2:=As_ (blk_below BKg.out hb);have k3:=As_ (bwT HB.out hb);have Go:=As_ (show w.heap.size≤go∧gg<go by rw [hg];exact ⟨bwZ HB.out,blk_lt BKg.out⟩);clear HB BKg HO;have HO:=k1;have BKg:=k2;have HB:=k3;have BKo:=As_ hbox;clear k1 k2 k3 hg hb hbox;have hczo3:w3.cell? ⟨go,0,none⟩=some (.slice none 0 0):=(bkC BKo.out 0).trans rfl;have hfzo3:=bkF BKo.out 0)|((with_reducible refine gate_store (t:=26) (p:=5) rfl ?_);refine store_event (t:=26) (p:=5) (v:=?vo_w4) (w1:=w3.setCell ⟨go,0,none⟩ (.slice A6 y0.length c6)) ?hg ?ho ?hn ?hr ?_;(case ho=>rfl);(case hg=>rfl);(case hn=>rfl);(case hr=>go_simp <;> rfl);intro w4 hw;have k1:=As_ (show Kd.R (Kd.int .i64) 3 w4 w.heap.size (fun k_=>k_≠gg∧k_<go) (.slice A6 y0.length c6) y0 from (by rw [hw];exact Kd.R_far (p:=⟨go,0,none⟩) HO.out (fun k hk=>Nat.ne_of_lt hk.2) _));have k2:=As_ (show w4.heap[gg]?=some (.cells #[.slice A0 l0.length c0] 23 (0,0)) from (by rw [hw];exact blk_far BKg.out (by have:=Go.out;(try dsimp only);omega) _));have k3:=As_ (show Below w.heap.size w w4 from (by rw [hw];exact bwS HB.out Go.out.1));have k4:=As_ (show w4.heap[go]?=some (.cells #[.slice A6 y0.length c6] 26 (0,0)) from (by rw [hw];exact blk_put (cs:=#[.slice none 0 0]) BKo.out 0 _ rfl));clear HB BKg HO BKo;have HO:=k1;have BKg:=k2;have HB:=k3;have BKo:=k4;clear k1 k2 k3 k4 hw;have HM:=As_ (TabIs.made (P:=Try.prog) (k:=3) (e:=3) w4 iv iv))|((with_reducible refine gate_dst (N:=6) rfl ?_);refine box_event ?hg (N:=6) ?hd (cs:=#[.map none]) (t:=75) ?hr ?_;(case hd=>rfl);(case hg=>rfl);(case hr=>go_simp <;> rfl);intro gs hg w5 hbox hb;have hsz:(w4.alloc (.map #[] 0)).heap.size=w4.heap.size+1:=(by first|(simp;done)|(simp only [World.alloc,Array.size_push]));have k1:=As_ (Kd.R_below (Kd.R_alloc HO.out _) hb);have k2:=As_ (blk_below (bkA BKg.out _) hb);have k3:=As_ (bwT (bwA HB.out _) hb);have k4:=As_ (blk_below (bkA BKo.out _) hb);have k5:=As_ (HM.out.below hb);have Gs:=As_ (show w.heap.size≤gs∧gg<gs∧go<gs∧w4.heap.size<gs∧w.heap.size≤w4.heap.size∧gg<w4.heap.size∧go<w4.heap.size from (by have q1:=bwZ HB.out;have q2:=blk_lt BKg.out;have q3:=blk_lt BKo.out;rw [hg,hsz];omega));clear HO BKg HB BKo HM;have HO:=k1;have BKg:=k2;have HB:=k3;have BKo:=k4;have HM:=k5;have BKs:=As_ hbox;clear k1 k2 k3 k4 k5 hg hb hbox hsz;have hczs5:w5.cell? ⟨gs,0,none⟩=some (.map none):=(bkC BKs.out 0).trans rfl;have hfzs5:=bkF BKs.out 0)|((with_reducible refine gate_store (t:=75) (p:=6) rfl ?_);refine store_event (t:=75) (p:=6) (v:=?vo_w6) (w1:=w5.setCell ⟨gs,0,none⟩ (.map (some w4.heap.size))) ?hg ?ho ?hn ?hr ?_;(case ho=>rfl);(case hg=>rfl);(case hn=>rfl);(case hr=>go_simp <;> rfl);intro w6 hw;have k1:=As_ (show Kd.R (Kd.int .i64) 3 w6 w.heap.size (fun k_=>k_≠gg∧k_<go) (.slice A6 y0.length c6) y0 from (by rw [hw];exact Kd.R_far (p:=⟨gs,0,none⟩) HO.out (fun k hk=>(by have q1:=Gs.out;have q2:=hk.2;(try dsimp only);omega)) _));have k2:=As_ (show w6.heap[gg]?=some (.cells #[.slice A0 l0.length c0] 23 (0,0)) from (by rw [hw];exact blk_far BKg.out (by have:=Gs.out;(try dsimp only);omega) _));have k3:=As_ (show Below w.heap.size w w6 from (by rw [hw];exact bwS HB.out Gs.out.1));have k4:=As_ (show w6.heap[go]?=some (.cells #[.slice A6 y0.length c6] 26 (0,0)) from (by rw [hw];exact blk_far BKo.out (by have:=Gs.out;(try dsimp only);omega) _));have k5:=As_ (show TabIs Try.prog 3 3 w6 w4.heap.size iv iv [] from (by rw [hw];exact HM.out.setCell (by have:=Gs.out;(try dsimp only);omega) _));have k6:=As_ (show w6.heap[gs]?=some (.cells #[.map (some w4.heap.size)] 75 (0,0)) from (by rw [hw];exact blk_put (cs:=#[.map none]) BKs.out 0 _ rfl));clear HO BKg HB BKo HM BKs;have HO:=k1;have BKg:=k2;have HB:=k3;have BKo:=k4;have HM:=k5;have BKs:=k6;clear k1 k2 k3 k4 k5 k6 hw)|((with_reducible refine gate_dst (N:=7) rfl ?_);refine box_event ?hg (N:=7) ?hd (cs:=#[.nilFunc]) (t:=76) ?hr ?_;(case hd=>rfl);(case hg=>rfl);(case hr=>go_simp <;> rfl);intro gw hg w7 hbox hb;have k1:=As_ (Kd.R_below HO.out hb);have k2:=As_ (blk_below BKg.out hb);have k3:=As_ (bwT HB.out hb);have k4:=As_ (blk_below BKo.out hb);have k5:=As_ (HM.out.below hb);have k6:=As_ (blk_below BKs.out hb);have Gw:=As_ (show gs<gw from (by have q1:=blk_lt BKs.out;rw [hg];exact q1));clear HO BKg HB BKo HM BKs;have HO:=k1;have BKg:=k2;have HB:=k3;have BKo:=k4;have HM:=k5;have BKs:=k6;have BKw:=As_ hbox;clear k1 k2 k3 k4 k5 k6 hg hb hbox;have hczw7:w7.cell? ⟨gw,0,none⟩=some .nilFunc:=(bkC BKw.out 0).trans rfl;have hfzw7:=bkF BKw.out 0)|((with_reducible refine gate_store (t:=76) (p:=7) rfl ?_);refine store_event (t:=76) (p:=7) (v:=?vo_w8) (w1:=w7.setCell ⟨gw,0,none⟩ (.func (.func 76) #[] #[.pointer (some ⟨gs,0,none⟩),.pointer (some ⟨go,0,none⟩),.pointer (some ⟨gg,0,none⟩),.pointer (some ⟨gw,0,none⟩)])) ?hg ?ho ?hn ?hr ?_;(case ho=>rfl);(case hg=>rfl);(case hn=>rfl);(case hr=>go_simp <;> rfl);intro w8 hw;have HFive:impl_codesOf.Five gs go gg gw w4.heap.size w:=(by have q1:=Gs.out;have q2:=Gw.out;have q3:=Go.out;have q4:=Gg.out;unfold impl_codesOf.Five;omega);have k1:=As_ (show Kd.R (Kd.int .i64) 3 w8 w.heap.size (fun k=>k≠gs∧k≠go∧k≠gg∧k≠gw∧k≠w4.heap.size) (.slice A6 y0.length c6) y0 from (by rw [hw];exact Kd.R_mono (Kd.R_far (p:=⟨gw,0,none⟩) HO.out (fun k hk=>(by have q1:=Gs.out;have q5:=Gw.out;have q2:=hk.2;(try dsimp only);omega)) _) (fun k hk=>(by have q1:=Gs.out;have q5:=Gw.out;have q2:=hk.2;have q3:=hk.1;exact ⟨by omega,by omega,q3,by omega,by omega⟩))));have k2:=As_ (show w8.heap[gg]?=some (.cells #[.slice A0 l0.length c0] 23 (0,0)) from (by rw [hw];exact blk_far BKg.out (by have:=Gs.out;have q:=Gw.out;(try dsimp only);omega) _));have k3:=As_ (show Below w.heap.size w w8 from (by rw [hw];exact bwS HB.out (by have:=Gs.out;have q:=Gw.out;(try dsimp only);omega)));have k4:=As_ (show w8.heap[go]?=some (.cells #[.slice A6 y0.length c6] 26 (0,0)) from (by rw [hw];exact blk_far BKo.out (by have:=Gs.out;have q:=Gw.out;(try dsimp only);omega) _));have k5:=As_ (show TabIs Try.prog 3 3 w8 w4.heap.size iv iv [] from (by rw [hw];exact HM.out.setCell (by have:=Gs.out;have q:=Gw.out;(try dsimp only);omega) _));have k6:=As_ (show w8.heap[gs]?=some (.cells #[.map (some w4.heap.size)] 75 (0,0)) from (by rw [hw];exact blk_far BKs.out (by have:=Gs.out;have q:=Gw.out;(try dsimp only);omega) _));have k7:=As_ (show w8.heap[gw]?=some (.cells #[(.func (.func 76) #[] #[.pointer (some ⟨gs,0,none⟩),.pointer (some ⟨go,0,none⟩),.pointer (some ⟨gg,0,none⟩),.pointer (some ⟨gw,0,none⟩)])] 76 (0,0)) from (by rw [hw];exact blk_put (cs:=#[.nilFunc]) BKw.out 0 _ rfl));clear HO BKg HB BKo HM BKs BKw;have HInv:=As_ (show impl_codesOf.Inv l0 A0 c0 gs go gg gw w4.heap.size w w8 [] [] (.slice A6 y0.length c6) from ⟨k6.out,k4.out,k2.out,k7.out,k5.out,(by have q:=k1.out;rw [Ny.out] at q ⊢;exact q),k3.out⟩);clear k1 k2 k3 k4 k5 k6 k7 hw))
 have HF:=As_ HFive
 clear HFive
 go_loopg [15] k (fun kq v15 w'=>∃ (x:Int) (S1:List Int) (T1:List (Int × Int)) (v1:Value),v15=.int .i64 x∧Aside0 (impl_codesOf.roots kq l0 l1 x S1 T1=some r)∧Aside0 (kq≤k)∧Aside0 (impl_codesOf.Inv l0 A0 c0 gs go gg gw w4.heap.size w w' S1 T1 v1))
 case atStart=>exact ⟨0,[],[],_,rfl,H',⟨Nat.le_refl _⟩,HInv⟩
 case round=>
  clear H'
  clear HInv
  obtain ⟨x,S1,T1,v1,rfl,HA,HK1,HI⟩:=hrel
  cases gk with
  | zero=>exact absurd HA.out (by simp [impl_codesOf.roots])
  | succ k1=>
   have H:=HA.out
   clear HA
   unfold impl_codesOf.roots at H
   by_cases d0:x<(l1.length:Int)
   rotate_left
   ·rw [if_neg d0] at H
    obtain rfl:=Option.some.inj H
    have d0b:decide (x<(l1.length:Int))=false:=deF d0
    obtain ⟨_,hbo9,_,_,_,hR9,hB9⟩:=HI.out
    obtain ⟨A9,c9,e9⟩:=Kd.R_slice hR9
    subst e9
    have HR9:=As_ hR9
    have HB9:=As_ hB9
    have hczo9:wr.cell? ⟨go,0,none⟩=some (.slice A9 S1.length c9):=(bkC hbo9 0).trans rfl
    have hfzo9:=bkF hbo9 0
    clear hbo9 hR9 hB9
    go_wp2
    go_ret
    exact ⟨_,rfl,Kd.R_mono HR9.out (fun _ _=>trivial),HB9.out⟩
   rw [if_pos d0] at H
   by_cases d1:0≤x
   rotate_left
   ·rw [if_neg d1] at H
    cases H
   rw [if_pos d1] at H
   obtain ⟨⟨S2,T2⟩,A30,H⟩:=obS H
   have A3':=As_ A30
   have H':=As_ H
   clear A30 H
   obtain ⟨ad2,e2,hxe⟩:=Kd.at_int HR1.out x d1 d0
   subst e2
   have hbw2:=HI.out.2.2.2.1
   have hb2:=HI.out.2.2.2.2.2.2
   have hxe2:=(hb2.cell (bwL w _ hxe)).trans hxe
   have hczw:wr.cell? ⟨gw,0,none⟩=some (.func (.func 76) #[] #[.pointer (some ⟨gs,0,none⟩),.pointer (some ⟨go,0,none⟩),.pointer (some ⟨gg,0,none⟩),.pointer (some ⟨gw,0,none⟩)]):=(bkC hbw2 0).trans rfl
   have hfzw:=bkF hbw2 0
   have d0b:decide (x<(l1.length:Int))=true:=deT d0
   have p6:=eq_true d1
   have q6:=eq_true d0
   clear hbw2 hb2 hxe
   go_wp2_with (go_at_call 76;(with_reducible refine (impl_codesOf.lit l0 A0 c0 gs go gg gw w4.heap.size w HR.out HC.out HF.out k1 (rd l1 x) S1 T1 S2 T2 v1 _ HI.out A3'.out).mono ?_);rintro e w9 ⟨rfl,v2,hI2⟩;have HI2:=As_ hI2;clear hI2)
   go_roundg k1
   case measure=>have:=HK1.out;omega
   case rel=>exact ⟨wrap64 (x+1),S2,T2,v2,(by first|rfl|(simp;done)),H',⟨by have:=HK1.out;omega⟩,HI2⟩
end Go.Proofs.Ytapaegcombfafaa.Q
