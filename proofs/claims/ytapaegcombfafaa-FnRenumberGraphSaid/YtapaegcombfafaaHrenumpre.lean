/- A graph renumbered is the graph of its nodes by the list of the old places; and renumbered back it is the graph. -/
import Derived.Test.YtapaegcombfafaaHrenum
import Derived.Test.YtapaegcombfafaaHcodepre
import Derived.Test.YtapaegcombfafaaQ30
import Derived.Test.YtapaegcombfafaaQ31
import Derived.Test.YtapaegcombfafaaQ42
namespace Go.Proofs.Ytapaegcombfafaa.Q
open Go.RowKit Go.Proofs.YtapaegcombfafaaW.PrintWords
set_option linter.unusedVariables false
set_option linter.unusedSimpArgs false
theorem ndAt {g:List Nd} {i:Nat} (hi:i<g.length):nd g (i:Int)=g[i]:=by
 show rd_T58 g (i:Int)=_
 rw [rdG,getD_lt zNd hi]
structure Perm (n:Nat) (o:List Int):Prop where
 len:o.length=n
 rng:∀ x∈o,0≤x∧x<(n:Int)
 nodup:o.Nodup
theorem order_perm {g:List Nd} {o:List Int} (h:orderB g o=true):Perm g.length o:=by
 unfold orderB at h
 rw [Bool.and_eq_true,Bool.and_eq_true] at h
 obtain ⟨⟨h1,h2⟩,h3⟩:=h
 have hl:=of_decide_eq_true h1
 refine ⟨hl,fun x hx=>?_,?_⟩
 ·have:=List.all_eq_true.1 h2 x hx
  rw [Bool.and_eq_true,decide_eq_true_eq,decide_eq_true_eq,hl] at this
  exact this
 ·unfold List.Nodup
  rw [List.pairwise_iff_getElem]
  intro i j hi hj hij e
  have:=List.all_eq_true.1 h3 j (List.mem_range.2 hj)
  unfold freeAt at this
  have:=of_decide_eq_true this
  rw [getD_lt 0 hj] at this
  refine this ?_
  rw [← e]
  exact List.mem_take_iff_getElem.2 ⟨i,by omega,rfl⟩
theorem perm_order {g:List Nd} {o:List Int} (h:Perm g.length o):orderB g o=true:=by
 unfold orderB
 rw [Bool.and_eq_true,Bool.and_eq_true,h.len]
 refine ⟨⟨decide_eq_true rfl,List.all_eq_true.2 (fun x hx=>?_)⟩,List.all_eq_true.2 (fun i hi=>?_)⟩
 ·rw [Bool.and_eq_true,decide_eq_true_eq,decide_eq_true_eq]
  exact h.rng x hx
 ·have hi2:i<o.length:=by rw [h.len];exact List.mem_range.1 hi
  unfold freeAt
  rw [getD_lt 0 hi2]
  refine decide_eq_true (fun hm=>?_)
  obtain ⟨j,hj,e⟩:=List.mem_take_iff_getElem.1 hm
  have hn:=h.nodup
  unfold List.Nodup at hn
  rw [List.pairwise_iff_getElem] at hn
  exact hn j i (by omega) hi2 (by omega) e
theorem Perm.mem {n:Nat} {o:List Int} (h:Perm n o) {x:Int} (h0:0≤x) (h1:x<(n:Int)):x∈o:=by
 have key:∀ i,i≤o.length→free n (o.take i)+i≤n:=by
  intro i
  induction i with
  | zero=>intro _;have:=free_le n ([]:List Int);rw [List.take_zero];omega
  | succ i ih=>
   intro hi
   have hi2:i<o.length:=by omega
   have hr:=h.rng _ (List.getElem_mem hi2)
   have:=free_add n (o.take i) o[i] hr.1 hr.2 (fun hm=>by
    obtain ⟨j,hj,e⟩:=List.mem_take_iff_getElem.1 hm
    have hn:=h.nodup
    unfold List.Nodup at hn
    rw [List.pairwise_iff_getElem] at hn
    exact hn j i (by omega) hi2 (by omega) e)
   rw [List.take_succ_eq_append_getElem hi2]
   have:=ih (by omega)
   omega
 have h2:=key o.length (Nat.le_refl _)
 rw [List.take_length,h.len] at h2
 refine Classical.byContradiction (fun hn=>?_)
 have:=free_pos n o x h0 h1 hn
 omega
def backL (n:Nat) (o:List Int):List Int:=(List.range n).map (fun (m:Nat)=>placeOf o (m:Int))
theorem backL_len (n:Nat) (o:List Int):(backL n o).length=n:=by simp [backL]
theorem backL_at {n:Nat} {o:List Int} {m:Nat} (hm:m<(backL n o).length):(backL n o)[m]=placeOf o (m:Int):=by simp [backL]
theorem perm_at {n:Nat} {o:List Int} (h:Perm n o) {x:Int} (h0:0≤x) (h1:x<(n:Int)):∃ i,∃ hi:i<o.length,o[i]=x∧placeOf o x=(i:Int):=by
 obtain ⟨i,hi,e⟩:=List.getElem_of_mem (h.mem h0 h1)
 exact ⟨i,hi,e,by rw [← e];exact placeOf_nth h.nodup hi⟩
theorem back_perm {n:Nat} {o:List Int} (h:Perm n o):Perm n (backL n o):=by
 refine ⟨backL_len n o,fun x hx=>?_,?_⟩
 ·obtain ⟨m,hm,rfl⟩:=List.getElem_of_mem hx
  have hm2:m<n:=by rw [backL_len] at hm;exact hm
  obtain ⟨i,hi,e,e2⟩:=perm_at h (x:=(m:Int)) (by omega) (by omega)
  rw [backL_at,e2]
  have:=h.len
  omega
 ·unfold List.Nodup
  rw [List.pairwise_iff_getElem]
  intro a b ha hb hab e
  rw [backL_at,backL_at] at e
  have ha2:a<n:=by rw [backL_len] at ha;exact ha
  have hb2:b<n:=by rw [backL_len] at hb;exact hb
  obtain ⟨i,hi,e1,e2⟩:=perm_at h (x:=(a:Int)) (by omega) (by omega)
  obtain ⟨j,hj,e3,e4⟩:=perm_at h (x:=(b:Int)) (by omega) (by omega)
  rw [e2,e4] at e
  have:i=j:=by omega
  subst this
  omega
theorem place_back {n:Nat} {o:List Int} (h:Perm n o) {i:Nat} (hi:i<o.length):placeOf (backL n o) (i:Int)=o[i]:=by
 have hr:=h.rng _ (List.getElem_mem hi)
 have hm:(o[i]).toNat<(backL n o).length:=by rw [backL_len];omega
 have h2:=placeOf_nth (back_perm h).nodup hm
 rw [backL_at,show (((o[i]).toNat:Nat):Int)=o[i] by omega,placeOf_nth h.nodup hi] at h2
 exact h2
theorem back_back {n:Nat} {o:List Int} (h:Perm n o):backL n (backL n o)=o:=by
 refine List.ext_getElem (by rw [backL_len,h.len]) (fun i h1 h2=>?_)
 rw [backL_at,place_back h h2]
theorem laid_at {g:List Nd} {o:List Int} (h:Perm g.length o):∀ i,i≤o.length→∀ j,(hj:j<o.length)→j<i→(laid g o i).getD (o[j]).toNat zNd=mappedN o (g.getD j zNd)
 | 0,_,_,_,h2=>by omega
 | i+1,hi,j,hj,h2=>by
  have hr:=h.rng _ (List.getElem_mem hj)
  have hi2:i<o.length:=by omega
  have hr2:=h.rng _ (List.getElem_mem hi2)
  have hl:=h.len
  show ((laid g o i).set (o.getD i 0).toNat (mappedN o (g.getD i zNd))).getD _ zNd=_
  rw [getD_lt 0 hi2,List.getD_eq_getElem?_getD]
  by_cases e:j=i
  ·subst e
   rw [List.getElem?_set_self (by rw [laid_len];omega)]
   rfl
  ·have hn:=h.nodup
   unfold List.Nodup at hn
   rw [List.pairwise_iff_getElem] at hn
   have hne:=hn j i hj hi2 (by omega)
   rw [List.getElem?_set_ne (by omega),← List.getD_eq_getElem?_getD]
   exact laid_at h i (by omega) j hj (by omega)
theorem laid_pruned {g:List Nd} {o:List Int} (hk:KidsIn g) (h:Perm g.length o):laid g o o.length=prunedL g (backL g.length o):=by
 have hl:=h.len
 refine List.ext_getElem (by rw [laid_len,prunedL_len,backL_len,hl]) (fun m h1 h2=>?_)
 have hm:m<g.length:=by rw [prunedL_len,backL_len] at h2;exact h2
 obtain ⟨i,hi,e1,e2⟩:=perm_at h (x:=(m:Int)) (by omega) (by omega)
 have h3:=laid_at h o.length (Nat.le_refl _) i hi hi
 rw [e1,Int.toNat_natCast,getD_lt zNd h1] at h3
 rw [h3]
 have h4:=pr_nd g (backL g.length o) (m:=m) (by rw [backL_len];exact hm)
 rw [ndAt h2,backL_at,e2,ndAt (show i<g.length by omega)] at h4
 rw [h4,getD_lt zNd (show i<g.length by omega)]
 unfold mappedN placedN
 congr 1
 refine List.map_congr_left (fun k hk2=>?_)
 have hin:=hk.mem (i:=(i:Int)) (by omega) (by omega) (x:=k) (by rw [ndAt (show i<g.length by omega)];exact hk2)
 obtain ⟨n,rfl⟩:=Int.eq_ofNat_of_zero_le hin.1
 have hn:n<o.length:=by omega
 rw [place_back h hn,Int.toNat_natCast,getD_lt 0 hn]
theorem pruned_back {g:List Nd} {o:List Int} (hk:KidsIn g) (h:Perm g.length o):prunedL (prunedL g (backL g.length o)) o=g:=by
 have hl:=h.len
 refine List.ext_getElem (by rw [prunedL_len,hl]) (fun i h1 h2=>?_)
 have hi:i<o.length:=by omega
 have hr:=h.rng _ (List.getElem_mem hi)
 have h4:=pr_nd (prunedL g (backL g.length o)) o hi
 rw [ndAt h1] at h4
 have hb:(o[i]).toNat<(backL g.length o).length:=by rw [backL_len];omega
 have h5:=pr_nd g (backL g.length o) hb
 rw [backL_at,show (((o[i]).toNat:Nat):Int)=o[i] by omega,placeOf_nth h.nodup hi] at h5
 rw [h4,h5,ndAt h2]
 have hm:∀ k∈g[i].f2,placeOf o (placeOf (backL g.length o) k)=k:=fun k hk2=>by
  have hin:=hk.mem (i:=(i:Int)) (by omega) (by omega) (x:=k) (by rw [ndAt h2];exact hk2)
  obtain ⟨n,rfl⟩:=Int.eq_ofNat_of_zero_le hin.1
  have hn:n<o.length:=by omega
  rw [place_back h hn,placeOf_nth h.nodup hn]
 unfold placedN
 simp only [List.map_map]
 have e:List.map (placeOf o∘placeOf (backL g.length o)) g[i].f2=g[i].f2:=by
  conv=>rhs;rw [← List.map_id g[i].f2]
  exact List.map_congr_left (fun k hk2=>hm k hk2)
 rw [e]
noncomputable def renumV (g:List Nd) (r:Int) (o:List Int):List Nd × Int:=if vGraph g r=true∧orderB g o=true then (laid g o o.length,o.getD r.toNat 0) else ([],0)
theorem renum_val (g:List Nd) (r:Int) (o:List Int) (hg:g.length≤1048576) (hk:∀ x∈g,x.f2.length≤1048576) (ho:o.length≤1048576) :
  Ev (fun k=>spec_RenumberGraph.f k g r o) (renumV g r o)∧Ev (fun k=>impl_RenumberGraph.f k g r o) (renumV g r o):=by
 unfold spec_RenumberGraph.f impl_RenumberGraph.f
 have hs:=spec_validGraph_ev g r (by omega) (fun x hx=>by have:=hk x hx;omega)
 have hi:=impl_ValidGraph_ev g r (by omega)
 have no_s:∀ {b:Bool},b=true→Ev (fun k=>spec_RenumberGraph.j0 k o b g r) ([],0):=fun hb=>Ev.step (fun k=>by simp only [spec_RenumberGraph.j0];rw [if_pos hb]) (Ev.now _)
 have no_i:∀ {b:Bool},b=true→Ev (fun k=>impl_RenumberGraph.j0 k o b g r) ([],0):=fun hb=>Ev.step (fun k=>by simp only [impl_RenumberGraph.j0];rw [if_pos hb]) (Ev.now _)
 cases hv:vGraph g r with
 | false=>
  rw [hv] at hs hi
  rw [show renumV g r o=([],0) by unfold renumV;rw [if_neg (fun z=>by rw [hv] at z;cases z.1)]]
  exact ⟨Ev.bind hs (Ev.ite_neg (by decide) (no_s rfl)),Ev.bind hi (Ev.ite_neg (by decide) (no_i rfl))⟩
 | true=>
  rw [hv] at hs hi
  obtain ⟨⟨p1,p2,p3,p4⟩,p5,p6,_⟩:=vGraph_parts hv
  by_cases hl:o.length=g.length
  ·have hle:((o.length:Int)=(g.length:Int)):=by omega
   have hne:((o.length:Int) != (g.length:Int))=false:=by rw [hle];simp
   have w1:wrap64 ((o.length:Int) - 1)=(o.length:Int) - 1:=w64 (by omega)
   have hall:=allIn_ev o 0 ((o.length:Int) - 1) (by omega)
   have hsame:(o.all fun x=>decide (0≤x) && decide (x≤(o.length:Int) - 1))=(o.all fun x=>decide (0≤x) && decide (x<(o.length:Int))):=by
    congr 1
    funext x
    congr 1
    rw [decide_eq_decide]
    omega
   rw [hsame,← w1] at hall
   have hI:=renum_i g r o p2 p5 p3 p4 hl
   have hI2:Ev (fun k=>impl_RenumberGraph.j0 k o false g r) _:=Ev.step (fun k=>by simp only [impl_RenumberGraph.j0];rw [if_neg (by decide)]) hI
   cases hr:(o.all fun x=>decide (0≤x) && decide (x<(o.length:Int))) with
   | false=>
    rw [hr] at hall hI2
    rw [show renumV g r o=([],0) by unfold renumV;rw [if_neg (fun z=>by unfold orderB at z;rw [hr] at z;simp at z)]]
    refine ⟨Ev.bind hs (Ev.ite_pos rfl (Ev.ite_pos hle (Ev.bind hall (no_s rfl)))),Ev.bind hi (Ev.ite_pos rfl ?_)⟩
    rw [hne]
    exact hI2
   | true=>
    have hS:=renum_s g r o (o.getD r.toNat 0) p2 p5 hl hr
    rw [hr] at hall hI2
    have hS2:Ev (fun k=>spec_RenumberGraph.j0 k o (!true) g r) _:=Ev.step (fun k=>by simp only [spec_RenumberGraph.j0];rw [if_neg (by decide),if_pos (by omega),if_pos (by omega),if_pos p3,if_pos (by omega),show ((o.length:Int)).toNat=o.length from rfl];rfl) hS
    rw [Bool.true_and] at hI2
    by_cases hn:(List.range o.length).all (freeAt o)=true
    ·rw [if_pos hn] at hI2 hS2
     rw [show renumV g r o=(laid g o o.length,o.getD r.toNat 0) by unfold renumV;rw [if_pos ⟨hv,by unfold orderB;rw [hr,hn,decide_eq_true hl];rfl⟩]]
     refine ⟨Ev.bind hs (Ev.ite_pos rfl (Ev.ite_pos hle (Ev.bind hall hS2))),Ev.bind hi (Ev.ite_pos rfl ?_)⟩
     rw [hne]
     exact hI2
    ·rw [if_neg hn] at hI2 hS2
     rw [show renumV g r o=([],0) by unfold renumV;rw [if_neg (fun z=>hn (by have:=z.2;unfold orderB at this;rw [Bool.and_eq_true] at this;exact this.2))]]
     refine ⟨Ev.bind hs (Ev.ite_pos rfl (Ev.ite_pos hle (Ev.bind hall hS2))),Ev.bind hi (Ev.ite_pos rfl ?_)⟩
     rw [hne]
     exact hI2
  ·have hle:¬ ((o.length:Int)=(g.length:Int)):=by omega
   have hne:((o.length:Int) != (g.length:Int))=true:=by rw [bne_iff_ne];exact hle
   rw [show renumV g r o=([],0) by unfold renumV;rw [if_neg (fun z=>hl (order_perm z.2).len)]]
   refine ⟨Ev.bind hs (Ev.ite_pos rfl (Ev.ite_neg hle (no_s rfl))),Ev.bind hi (Ev.ite_pos rfl ?_)⟩
   exact no_i hne
end Go.Proofs.Ytapaegcombfafaa.Q
