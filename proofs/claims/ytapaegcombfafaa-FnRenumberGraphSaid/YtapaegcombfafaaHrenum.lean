/- A graph with new numbers of its nodes, by both. -/
import Derived.Test.YtapaegcombfafaaHcircle
import Derived.Test.YtapaegcombfafaaHmapped
import Derived.Test.YtapaegcombfafaaQ30
import Derived.Test.YtapaegcombfafaaQ31
namespace Go.Proofs.Ytapaegcombfafaa.Q
open Go.RowKit Go.Proofs.YtapaegcombfafaaW.PrintWords
set_option linter.unusedVariables false
set_option linter.unusedSimpArgs false
theorem ev_until {β ρ:Type} {L:Nat→β→Int→Option ρ} {n:Nat} {p:Nat→Bool} (B:Nat→β) {bad fin:ρ}
  (hs:∀ i:Nat,i<n→p i=true→∀ r,Ev (fun k=>L k (B (i+1)) ((i+1:Nat):Int)) r→Ev (fun k=>L k (B i) (i:Int)) r)
  (hf:∀ i:Nat,i<n→p i=false→Ev (fun k=>L k (B i) (i:Int)) bad)
  (he:(∀ i:Nat,i<n→p i=true)→Ev (fun k=>L k (B n) (n:Int)) fin):Ev (fun k=>L k (B 0) 0) (if (List.range n).all p then fin else bad):=by
 have key:∀ d i,n - i=d→i≤n→(∀ j:Nat,j<i→p j=true)→Ev (fun k=>L k (B i) (i:Int)) (if (List.range n).all p then fin else bad):=by
  intro d
  induction d with
  | zero=>
   intro i hd hi hp
   have e:i=n:=by omega
   subst e
   rw [if_pos (List.all_eq_true.2 (fun x hx=>hp x (List.mem_range.1 hx)))]
   exact he hp
  | succ d ih=>
   intro i hd hi hp
   by_cases h:p i=true
   ·exact hs i (by omega) h _ (ih (i+1) (by omega) (by omega) (fun j hj=>by
     by_cases hji:j=i
     ·rw [hji];exact h
     ·exact hp j (by omega)))
   ·have h2:p i=false:=by simpa using h
    rw [if_neg (fun ha=>h (List.all_eq_true.1 ha i (List.mem_range.2 (by omega))))]
    exact hf i (by omega) h2
 exact key n 0 (by omega) (by omega) (fun j hj=>by omega)
def laid (g:List Nd) (o:List Int):Nat→List Nd
 | 0=>List.replicate o.length zNd
 | i+1=>(laid g o i).set (o.getD i 0).toNat (mappedN o (g.getD i zNd))
theorem laid_len (g:List Nd) (o:List Int):∀ i,(laid g o i).length=o.length
 | 0=>List.length_replicate
 | i+1=>by rw [laid,List.length_set];exact laid_len g o i
theorem laid_kids (g:List Nd) (o:List Int) (m:Nat) (hk:∀ x∈g,x.f2.length≤m):∀ i,∀ x∈laid g o i,x.f2.length≤m
 | 0=>fun x hx=>by rw [laid,List.mem_replicate] at hx;rw [hx.2];exact Nat.zero_le _
 | i+1=>fun x hx=>by
  rcases List.mem_or_eq_of_mem_set hx with hx | hx
  ·exact laid_kids g o m hk i x hx
  ·subst hx
   show (List.map _ _).length≤m
   rw [List.length_map]
   by_cases hi:i<g.length
   ·rw [getD_lt zNd hi];exact hk _ (List.getElem_mem hi)
   ·rw [List.getD_eq_getElem?_getD,List.getElem?_eq_none (by omega)];exact Nat.zero_le _
def freeAt (o:List Int) (i:Nat):Bool:=decide (o.getD i 0∉o.take i)
def orderB (g:List Nd) (o:List Int):Bool:=decide (o.length=g.length) && (o.all fun x=>decide (0≤x) && decide (x<(o.length:Int))) && (List.range o.length).all (freeAt o)
def renumN (g:List Nd) (r:Int) (o:List Int):List Nd × Int:=if orderB g o then (laid g o o.length,o.getD r.toNat 0) else ([],0)
theorem renum_in (g:List Nd) (r:Int) (o:List Int) (acc:List Nd) (root a b:Int) {i:Nat} (hi:i<g.length) (hg:g.length≤1000) (ho:o.length=g.length) (ha:acc.length=o.length)
  (hk:∀ k∈g[i].f2,0≤k∧k<(o.length:Int)) (hl:g[i].f2.length≤1000) (h0:0≤o.getD i 0) (h1:o.getD i 0<(o.length:Int)) {res:List Nd × Int}
  (h:Ev (fun k=>spec_RenumberGraph.l0 k o ((i+1:Nat):Int) g r (acc.set (o.getD i 0).toNat ⟨a,b,(mappedN o g[i]).f2⟩) root) res) :
  Ev (fun k=>spec_RenumberGraph.l1 k o (i:Int) 0 g r acc root a b []) res:=by
 have h2:=ev_steps (L:=fun k (c:List Int) j=>spec_RenumberGraph.l1 k o (i:Int) j g r acc root a b c) (n:=g[i].f2.length) (fun j=>((mappedN o g[i]).f2).take j) (r:=res) (fun j hj q hq=>?_) ?_
 ·simpa using h2
 ·have hin:=hk g[i].f2[j] (List.getElem_mem hj)
  have hl2:(mappedN o g[i]).f2.length=g[i].f2.length:=by simp [mappedN]
  refine Ev.step (fun k=>by simp only [spec_RenumberGraph.l1];rw [if_pos (by omega),if_pos (by omega),rdG,getD_lt zNd hi,if_pos (by omega),if_pos (by omega),rdN,getD_lt 0 hj,if_pos hin.1,if_pos hin.2,if_pos (by rw [List.length_take];omega),w64s hj (by omega)]) ?_
  refine Ev.congr (fun k=>?_) hq
  congr 1
  rw [take_getD 0 (by omega)]
  congr 2
  rw [getD_lt 0 (by omega)]
  simp [mappedN,rd]
 ·have hl2:(mappedN o g[i]).f2.length=g[i].f2.length:=by simp [mappedN]
  refine Ev.step (fun k=>by simp only [spec_RenumberGraph.l1];rw [if_pos (by omega),if_pos (by omega),rdG,getD_lt zNd hi,if_neg (by omega),if_pos (by omega),rdN,if_pos h0,if_pos (by omega),w64s hi (by omega)]) ?_
  refine Ev.congr (fun k=>?_) h
  rw [← hl2,List.take_length]
theorem inRange_at {o:List Int} (h:(o.all fun x=>decide (0≤x) && decide (x<(o.length:Int)))=true) {i:Nat} (hi:i<o.length):0≤o.getD i 0∧o.getD i 0<(o.length:Int):=by
 have:=List.all_eq_true.1 h o[i] (List.getElem_mem hi)
 rw [getD_lt 0 hi]
 simpa using this
theorem renum_s (g:List Nd) (r:Int) (o:List Int) (root:Int) (hg:g.length≤12) (hk:KidsIn g) (ho:o.length=g.length) (hr:(o.all fun x=>decide (0≤x) && decide (x<(o.length:Int)))=true) :
  Ev (fun k=>spec_RenumberGraph.l0 k o 0 g r (List.replicate o.length zNd) root) (if (List.range o.length).all (freeAt o) then (laid g o o.length,root) else ([],0)):=by
 refine ev_until (L:=fun k (b:List Nd) i=>spec_RenumberGraph.l0 k o i g r b root) (n:=o.length) (p:=freeAt o) (laid g o) (fun i hi hp res h=>?_) (fun i hi hp=>?_) (fun _=>?_)
 ·obtain ⟨h0,h1⟩:=inRange_at hr hi
  have hig:i<g.length:=by omega
  have hn:¬ placeOf (o.take i) (o.getD i 0)≥0:=by rw [placeOf_pos];simpa [freeAt] using hp
  have e:nd g (i:Int)=g[i]:=by
   show rd_T58 g (i:Int)=_
   rw [rdG,getD_lt zNd hig]
  refine Ev.step (fun k=>by simp only [spec_RenumberGraph.l0];rw [if_pos (by omega),if_pos (by omega),if_pos (by omega),rdN,show ((i:Int)).toNat=i from rfl]) ?_
  refine Ev.bind (placeIn_ev (o.take i) (o.getD i 0) (by rw [List.length_take];omega)) (Ev.ite_neg hn (Ev.ite_pos (by omega) ?_))
  have hf:=hk.few (i:=(i:Int)) (by omega) (by omega)
  rw [e] at hf
  refine renum_in g r o _ root _ _ hig (by omega) ho (laid_len g o i) (fun x hx=>?_) (by omega) h0 h1 ?_
  ·have:=hk.mem (i:=(i:Int)) (by omega) (by omega) (x:=x) (by rw [e];exact hx)
   omega
  ·refine Ev.congr (fun k=>?_) h
   rw [laid,getD_lt zNd hig,rdG,getD_lt zNd hig]
   rfl
 ·have hn:placeOf (o.take i) (o.getD i 0)≥0:=by rw [placeOf_pos];simpa [freeAt] using hp
  refine Ev.step (fun k=>by simp only [spec_RenumberGraph.l0];rw [if_pos (by omega),if_pos (by omega),if_pos (by omega),rdN,show ((i:Int)).toNat=i from rfl]) ?_
  exact Ev.bind (placeIn_ev (o.take i) (o.getD i 0) (by rw [List.length_take];omega)) (Ev.ite_pos hn (Ev.now _))
 ·exact Ev.step (fun k=>by simp only [spec_RenumberGraph.l0];rw [if_neg (by omega)]) (Ev.now _)
theorem renum_i2 (g:List Nd) (o:List Int) (root:Int) (hg:g.length≤12) (hk:KidsIn g) (ho:o.length=g.length) (hr:(o.all fun x=>decide (0≤x) && decide (x<(o.length:Int)))=true) :
  Ev (fun k=>impl_RenumberGraph.l1 k o g (g.length:Int) 0 (List.replicate o.length zNd) root) (laid g o o.length,root):=by
 refine ev_steps (L:=fun k (b:List Nd) i=>impl_RenumberGraph.l1 k o g (g.length:Int) i b root) (n:=o.length) (laid g o) (r:=(laid g o o.length,root)) (fun i hi res h=>?_) ?_
 ·obtain ⟨h0,h1⟩:=inRange_at hr hi
  have hig:i<g.length:=by omega
  have e:nd g (i:Int)=g[i]:=by
   show rd_T58 g (i:Int)=_
   rw [rdG,getD_lt zNd hig]
  have hf:=hk.few (i:=(i:Int)) (by omega) (by omega)
  rw [e] at hf
  refine Ev.step (fun k=>by simp only [impl_RenumberGraph.l1];rw [if_pos (by omega),if_pos (by omega),if_pos (by omega),if_pos (by omega),rdG,getD_lt zNd hig,rdN]) ?_
  refine Ev.bind (mapped_ev g[i] o (by omega) (fun x hx=>?_)) (Ev.ite_pos h0 (Ev.ite_pos (by rw [laid_len];omega) ?_))
  ·have:=hk.mem (i:=(i:Int)) (by omega) (by omega) (x:=x) (by rw [e];exact hx)
   omega
  ·rw [w64s hi (by omega)]
   refine Ev.congr (fun k=>?_) h
   rw [laid,getD_lt zNd hig]
   rfl
 ·exact Ev.step (fun k=>by simp only [impl_RenumberGraph.l1];rw [if_neg (by omega)]) (Ev.now _)
theorem renum_i (g:List Nd) (r:Int) (o:List Int) (hg:g.length≤12) (hk:KidsIn g) (h0:0≤r) (h1:r<(g.length:Int)) (ho:o.length=g.length) :
  Ev (fun k=>impl_RenumberGraph.l0 k o o (o.length:Int) 0 g r) (if (o.all fun x=>decide (0≤x) && decide (x<(o.length:Int))) && (List.range o.length).all (freeAt o) then (laid g o o.length,o.getD r.toNat 0) else ([],0)):=by
 have hb:((o.all fun x=>decide (0≤x) && decide (x<(o.length:Int))) && (List.range o.length).all (freeAt o))=(List.range o.length).all (fun i=>(decide (0≤o.getD i 0) && decide (o.getD i 0<(o.length:Int))) && freeAt o i):=by
  rw [Bool.eq_iff_iff,Bool.and_eq_true,List.all_eq_true,List.all_eq_true,List.all_eq_true]
  constructor
  ·rintro ⟨ha,hb⟩ i hi
   have hi2:=List.mem_range.1 hi
   obtain ⟨q0,q1⟩:=inRange_at (List.all_eq_true.2 ha) hi2
   rw [hb i hi,decide_eq_true q0,decide_eq_true q1]
   rfl
  ·intro hall
   refine ⟨fun x hx=>?_,fun i hi=>?_⟩
   ·obtain ⟨i,hi,rfl⟩:=List.getElem_of_mem hx
    have:=hall i (List.mem_range.2 hi)
    rw [Bool.and_eq_true,getD_lt 0 hi] at this
    exact this.1
   ·have:=hall i hi
    rw [Bool.and_eq_true] at this
    exact this.2
 rw [hb]
 refine ev_until (L:=fun k (_:Unit) i=>impl_RenumberGraph.l0 k o o (o.length:Int) i g r) (n:=o.length) (fun _=>()) (fun i hi hp res h=>?_) (fun i hi hp=>?_) (fun hp=>?_)
 ·rw [Bool.and_eq_true,Bool.and_eq_true] at hp
  obtain ⟨⟨q0,q1⟩,q2⟩:=hp
  have q0:=of_decide_eq_true q0
  have q1:=of_decide_eq_true q1
  have q2:o.getD i 0∉o.take i:=of_decide_eq_true q2
  refine Ev.step (fun k=>by simp only [impl_RenumberGraph.l0];rw [if_pos (by omega),if_pos (by omega),if_pos (by omega),rdN,if_neg (by omega),if_neg (by omega),if_pos (by omega),show ((i:Int)).toNat=i from rfl,w64s hi (by omega)]) ?_
  exact Ev.bind (contains_ev (o.take i) (o.getD i 0) (by rw [List.length_take];omega)) (Ev.ite_neg (by simpa using q2) h)
 ·by_cases q0:o.getD i 0<0
  ·exact Ev.step (fun k=>by simp only [impl_RenumberGraph.l0];rw [if_pos (by omega),if_pos (by omega),if_pos (by omega),rdN,if_pos q0]) (Ev.now _)
  by_cases q1:o.getD i 0≥(o.length:Int)
  ·exact Ev.step (fun k=>by simp only [impl_RenumberGraph.l0];rw [if_pos (by omega),if_pos (by omega),if_pos (by omega),rdN,if_neg q0,if_pos q1]) (Ev.now _)
  have q2:o.getD i 0∈o.take i:=by
   by_cases q2:o.getD i 0∈o.take i
   ·exact q2
   ·rw [decide_eq_true (show 0≤o.getD i 0 by omega),decide_eq_true (show o.getD i 0<(o.length:Int) by omega),freeAt,decide_eq_true q2] at hp
    cases hp
  refine Ev.step (fun k=>by simp only [impl_RenumberGraph.l0];rw [if_pos (by omega),if_pos (by omega),if_pos (by omega),rdN,if_neg q0,if_neg q1,if_pos (by omega),show ((i:Int)).toNat=i from rfl]) ?_
  exact Ev.bind (contains_ev (o.take i) (o.getD i 0) (by rw [List.length_take];omega)) (Ev.ite_pos (by simpa using q2) (Ev.now _))
 ·have hr:(o.all fun x=>decide (0≤x) && decide (x<(o.length:Int)))=true:=by
   rw [List.all_eq_true]
   intro x hx
   obtain ⟨i,hi,rfl⟩:=List.getElem_of_mem hx
   have:=hp i hi
   rw [Bool.and_eq_true,getD_lt 0 hi] at this
   exact this.1
  refine Ev.step (fun k=>by simp only [impl_RenumberGraph.l0];rw [if_neg (by omega),if_pos (by omega),if_pos (by omega),if_pos h0,if_pos (by omega),show ((o.length:Int)).toNat=o.length from rfl]) ?_
  have:=renum_i2 g o (o.getD r.toNat 0) hg hk ho hr
  exact this
theorem renum_both (g:List Nd) (r:Int) (o:List Int) (hg:g.length≤1048576) (hk:∀ x∈g,x.f2.length≤1048576) (ho:o.length≤1048576) :
  ∃ (q:List Nd) (s:Int),Ev (fun k=>spec_RenumberGraph.f k g r o) (q,s)∧Ev (fun k=>impl_RenumberGraph.f k g r o) (q,s)∧q.length≤1048576∧∀ x∈q,x.f2.length≤1048576:=by
 unfold spec_RenumberGraph.f impl_RenumberGraph.f
 have hs:=spec_validGraph_ev g r (by omega) (fun x hx=>by have:=hk x hx;omega)
 have hi:=impl_ValidGraph_ev g r (by omega)
 have no_s:∀ {b:Bool},b=true→Ev (fun k=>spec_RenumberGraph.j0 k o b g r) ([],0):=fun hb=>Ev.step (fun k=>by simp only [spec_RenumberGraph.j0];rw [if_pos hb]) (Ev.now _)
 have no_i:∀ {b:Bool},b=true→Ev (fun k=>impl_RenumberGraph.j0 k o b g r) ([],0):=fun hb=>Ev.step (fun k=>by simp only [impl_RenumberGraph.j0];rw [if_pos hb]) (Ev.now _)
 cases hv:vGraph g r with
 | false=>
  rw [hv] at hs hi
  exact ⟨[],0,Ev.bind hs (Ev.ite_neg (by decide) (no_s rfl)),Ev.bind hi (Ev.ite_neg (by decide) (no_i rfl)),by simp,by simp⟩
 | true=>
  rw [hv] at hs hi
  obtain ⟨⟨p1,p2,p3,p4⟩,p5,p6,_⟩:=vGraph_parts hv
  by_cases hl:o.length=g.length
  ·have hle:((o.length:Int)=(g.length:Int)):=by omega
   have hne:((o.length:Int) != (g.length:Int))=false:=by rw [hle];simp
   have w1:wrap64 ((o.length:Int) - 1)=(o.length:Int) - 1:=w64 (by omega)
   have hall:=allIn_ev o 0 ((o.length:Int) - 1) (by omega)
   have hsame:(o.all fun x=>decide (0≤x) && decide (x≤(o.length:Int) - 1))=(o.all fun x=>decide (0≤x) && decide (x<(o.length:Int))):=by
    congr 1
    funext x
    congr 1
    rw [decide_eq_decide]
    omega
   rw [hsame,← w1] at hall
   have hI:=renum_i g r o p2 p5 p3 p4 hl
   have hI2:Ev (fun k=>impl_RenumberGraph.j0 k o false g r) _:=Ev.step (fun k=>by simp only [impl_RenumberGraph.j0];rw [if_neg (by decide)]) hI
   cases hr:(o.all fun x=>decide (0≤x) && decide (x<(o.length:Int))) with
   | false=>
    rw [hr] at hall hI2
    refine ⟨[],0,Ev.bind hs (Ev.ite_pos rfl (Ev.ite_pos hle (Ev.bind hall (no_s rfl)))),Ev.bind hi (Ev.ite_pos rfl ?_),by simp,by simp⟩
    rw [hne]
    exact hI2
   | true=>
    have hS:=renum_s g r o (o.getD r.toNat 0) p2 p5 hl hr
    rw [hr] at hall hI2
    have hS2:Ev (fun k=>spec_RenumberGraph.j0 k o (!true) g r) _:=Ev.step (fun k=>by simp only [spec_RenumberGraph.j0];rw [if_neg (by decide),if_pos (by omega),if_pos (by omega),if_pos p3,if_pos (by omega),show ((o.length:Int)).toNat=o.length from rfl];rfl) hS
    rw [Bool.true_and] at hI2
    by_cases hn:(List.range o.length).all (freeAt o)=true
    ·rw [if_pos hn] at hI2 hS2
     refine ⟨_,_,Ev.bind hs (Ev.ite_pos rfl (Ev.ite_pos hle (Ev.bind hall hS2))),Ev.bind hi (Ev.ite_pos rfl ?_),by rw [laid_len];omega,laid_kids g o _ hk _⟩
     rw [hne]
     exact hI2
    ·rw [if_neg hn] at hI2 hS2
     refine ⟨_,_,Ev.bind hs (Ev.ite_pos rfl (Ev.ite_pos hle (Ev.bind hall hS2))),Ev.bind hi (Ev.ite_pos rfl ?_),by simp,by simp⟩
     rw [hne]
     exact hI2
  ·have hle:¬ ((o.length:Int)=(g.length:Int)):=by omega
   have hne:((o.length:Int) != (g.length:Int))=true:=by rw [bne_iff_ne];exact hle
   refine ⟨[],0,Ev.bind hs (Ev.ite_pos rfl (Ev.ite_neg hle (no_s rfl))),Ev.bind hi (Ev.ite_pos rfl ?_),by simp,by simp⟩
   exact no_i hne
end Go.Proofs.Ytapaegcombfafaa.Q
