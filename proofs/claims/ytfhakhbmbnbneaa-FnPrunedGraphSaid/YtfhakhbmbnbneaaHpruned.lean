/- Nodes told anew: with other numbers of their kids; and a graph of the nodes that are reached. -/
import Derived.Test.YtfhakhbmbnbneaaHreach
import Derived.Test.YtfhakhbmbnbneaaHmapped
import Derived.Test.YtfhakhbmbnbneaaQ56
import Derived.Test.YtfhakhbmbnbneaaQ57
namespace Go.Proofs.Ytfhakhbmbnbneaa.Q
open Go.RowKit Go.Proofs.YtfhakhbmbnbneaaW.PrintWords
set_option linter.unusedVariables false
set_option linter.unusedSimpArgs false
def placedN (list:List Int) (x:Nd):Nd:=⟨x.f0,x.f1,x.f2.map (placeOf list)⟩
def prunedL (g:List Nd) (list:List Int):List Nd:=list.map (fun i=>placedN list (nd g i))
theorem prunedL_len (g:List Nd) (list:List Int):(prunedL g list).length=list.length:=by simp [prunedL]
def orderOf (n:Nat) (list:List Int) (m:Nat):List Int:=(List.range n).map (fun (k:Nat)=>if (k:Int)∈list.take m then placeOf list (k:Int) else 0)
theorem orderOf_len (n:Nat) (list:List Int) (m:Nat):(orderOf n list m).length=n:=by simp [orderOf]
theorem orderOf_at {n:Nat} {list:List Int} (m:Nat) {k:Int} (h0:0≤k) (h1:k<(n:Int)):(orderOf n list m).getD k.toNat 0=if k∈list.take m then placeOf list k else 0:=by
 obtain ⟨j,rfl⟩:=Int.eq_ofNat_of_zero_le h0
 have hj:j<n:=by omega
 rw [Int.toNat_natCast,getD_lt 0 (by rw [orderOf_len];exact hj)]
 simp [orderOf]
theorem placeOf_nth {list:List Int} (hd:list.Nodup) {m:Nat} (hm:m<list.length):placeOf list list[m]=(m:Int):=by
 unfold placeOf
 rw [List.Nodup.idxOf_getElem hd m hm,if_pos hm]
theorem orderOf_set (n:Nat) (list:List Int) (hd:list.Nodup) (m:Nat) (hm:m<list.length) (h0:0≤list[m]) (h1:list[m]<(n:Int)) :
  (orderOf n list m).set (list[m]).toNat (m:Int)=orderOf n list (m+1):=by
 refine List.ext_getElem (by rw [List.length_set,orderOf_len,orderOf_len]) (fun j hj1 hj2=>?_)
 rw [List.length_set,orderOf_len] at hj1
 rw [List.getElem_set]
 by_cases hj:(list[m]).toNat=j
 ·have hjm:(j:Int)=list[m]:=by omega
  rw [if_pos hj]
  simp only [orderOf,List.getElem_map,List.getElem_range]
  rw [if_pos (by rw [hjm,List.take_succ_eq_append_getElem hm];exact List.mem_append_right _ (List.mem_singleton.2 rfl)),hjm,placeOf_nth hd hm]
 ·rw [if_neg hj]
  simp only [orderOf,List.getElem_map,List.getElem_range]
  have hne:(j:Int)≠list[m]:=by omega
  have e:((j:Int)∈list.take (m+1))=((j:Int)∈list.take m):=by
   rw [List.take_succ_eq_append_getElem hm,List.mem_append,List.mem_singleton]
   simp only [hne,or_false]
  simp only [e]
theorem impl_pruned_ev (g:List Nd) (root:Int) (list:List Int) (hg:g.length≤12) (hk:KidsIn g) (hr:Ev (fun k=>impl_reachOf.f k g root) list) (hl:list.length≤12) (hd:list.Nodup) (hin:∀ x∈list,0≤x∧x<(g.length:Int)) (hc:∀ x∈list,∀ k∈(nd g x).f2,k∈list) :
  Ev (fun k=>impl_pruned.f k g root) (prunedL g list,0):=by
 unfold impl_pruned.f
 refine Ev.bind hr (Ev.ite_pos (by omega) (Ev.ite_pos (by omega) ?_))
 have hmid:Ev (fun k=>impl_pruned.l1 k (orderOf g.length list list.length) list (list.length:Int) 0 g root [] 0) (prunedL g list,0):=by
  have h:=ev_steps (L:=fun k (b:List Nd) i=>impl_pruned.l1 k (orderOf g.length list list.length) list (list.length:Int) i g root b 0) (n:=list.length) (fun i=>(prunedL g list).take i) (r:=(prunedL g list,0)) (fun i hi r hr2=>?_) ?_
  ·simpa using h
  ·have hx:=hin list[i] (List.getElem_mem hi)
   have hkl:=hk.few hx.1 hx.2
   refine Ev.step (fun k=>by simp only [impl_pruned.l1];rw [if_pos (by omega),if_pos (by omega),if_pos (by omega),rdN,getD_lt 0 hi,if_pos hx.1,if_pos hx.2]) ?_
   refine Ev.bind (mapped_ev (nd g list[i]) _ (by omega) (fun k hk2=>by rw [orderOf_len];exact hk.mem hx.1 hx.2 hk2)) ?_
   have hpl:=prunedL_len g list
   refine Ev.ite_pos (by rw [List.length_take];omega) ?_
   rw [w64s hi (by omega)]
   refine Ev.congr (fun k=>?_) hr2
   congr 1
   rw [take_getD zNd (by omega)]
   congr 2
   rw [getD_lt zNd (by omega)]
   simp only [prunedL,List.getElem_map,placedN,mappedN]
   congr 1
   refine List.map_congr_left (fun k hk2=>?_)
   have hki:=hk.mem hx.1 hx.2 hk2
   rw [orderOf_at _ hki.1 hki.2,List.take_length,if_pos (hc _ (List.getElem_mem hi) k hk2)]
  ·refine Ev.step (fun k=>by simp only [impl_pruned.l1];rw [if_neg (by omega)]) (Ev.at (Ev.now _) ?_)
   rw [← prunedL_len g list,List.take_length]
 have h:=ev_steps (L:=fun k (b:List Int) i=>impl_pruned.l0 k list b list (list.length:Int) i g root) (n:=list.length) (fun i=>orderOf g.length list i) (r:=(prunedL g list,0)) (fun i hi r hr2=>?_) ?_
 ·have e:List.replicate ((g.length:Int):Int).toNat 0=orderOf g.length list 0:=by
   simp only [orderOf,List.take_zero,List.not_mem_nil,if_false,Int.toNat_natCast]
   rw [List.map_const',List.length_range]
  rw [e]
  exact h
 ·have hx:=hin list[i] (List.getElem_mem hi)
  refine Ev.step (fun k=>by simp only [impl_pruned.l0];rw [if_pos (by omega),if_pos (by omega),if_pos (by omega),rdN,getD_lt 0 hi,if_pos hx.1,orderOf_len,if_pos hx.2,w64s hi (by omega),orderOf_set g.length list hd i hi hx.1 hx.2]) hr2
 ·exact Ev.step (fun k=>by simp only [impl_pruned.l0];rw [if_neg (by omega)]) hmid
theorem spec_pruned_ev (g:List Nd) (root:Int) (list:List Int) (hg:g.length≤12) (hk:KidsIn g) (hr:Ev (fun k=>spec_reach.f k g root root []) list) (hl:list.length≤12) (hin:∀ x∈list,0≤x∧x<(g.length:Int)) :
  Ev (fun k=>spec_pruned.f k g root) (prunedL g list,0):=by
 unfold spec_pruned.f
 refine Ev.bind hr ?_
 have hpl:=prunedL_len g list
 have h:=ev_steps (L:=fun k (b:List Nd) i=>spec_pruned.l0 k list i g root b 0) (n:=list.length) (fun i=>(prunedL g list).take i) (r:=(prunedL g list,0)) (fun i hi r hr2=>?_) ?_
 ·simpa using h
 ·have hx:=hin list[i] (List.getElem_mem hi)
  have hkl:=hk.few hx.1 hx.2
  refine Ev.step (fun k=>by simp only [spec_pruned.l0];rw [if_pos (by omega),if_pos (by omega),rdN,getD_lt 0 hi,if_pos hx.1,if_pos hx.2]) ?_
  have hlen:(placedN list (nd g list[i])).f2.length=(nd g list[i]).f2.length:=by simp [placedN]
  have h2:=ev_steps (L:=fun k (b:List Int) j=>spec_pruned.l1 k list (i:Int) j g root ((prunedL g list).take i) 0 (nd g list[i]).f0 (nd g list[i]).f1 (nd g list[i]).f2 (nd g list[i]).f0 (nd g list[i]).f1 b) (n:=(nd g list[i]).f2.length) (fun j=>((placedN list (nd g list[i])).f2).take j) (r:=r) (fun j hj r2 hr3=>?_) ?_
  ·simpa using h2
  ·refine Ev.step (fun k=>by simp only [spec_pruned.l1];rw [if_pos (by omega),if_pos (by omega),rdN,getD_lt 0 hj]) ?_
   refine Ev.bind (placeIn_ev list _ (by omega)) (Ev.ite_pos (by rw [List.length_take];omega) ?_)
   rw [w64s hj (by omega)]
   refine Ev.congr (fun k=>?_) hr3
   congr 1
   rw [take_getD 0 (by omega)]
   congr 2
   rw [getD_lt 0 (by omega)]
   simp [placedN]
  ·refine Ev.step (fun k=>by simp only [spec_pruned.l1];rw [if_neg (by omega)]) ?_
   refine Ev.ite_pos (by rw [List.length_take];omega) ?_
   rw [w64s hi (by omega)]
   refine Ev.congr (fun k=>?_) hr2
   congr 1
   rw [take_getD zNd (by omega)]
   congr 2
   rw [getD_lt zNd (by omega),← hlen,List.take_length]
   simp [prunedL,placedN]
 ·refine Ev.step (fun k=>by simp only [spec_pruned.l0];rw [if_neg (by omega)]) (Ev.at (Ev.now _) ?_)
  rw [← hpl,List.take_length]
end Go.Proofs.Ytfhakhbmbnbneaa.Q
