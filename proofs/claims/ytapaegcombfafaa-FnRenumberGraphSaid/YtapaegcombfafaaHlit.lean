/- Numbers written out behind a row: append(xs, a, b, ..). -/
import Derived.Test.YtapaegcombfafaaQ0
import Derived.WalkKit
namespace Go.Proofs.Ytapaegcombfafaa.Q
open Go.RowKit Go.Proofs.YtapaegcombfafaaW.PrintWords
set_option linter.unusedVariables false
set_option linter.unusedSimpArgs false
theorem reads_lit (W:World) (e:Nat) (ys:List Int) (hy:ys.length≤9223372036854775807):ReadsRow (fun (x:Int) (cs:List Value)=>cs=[.int .i64 x]) 1 (W.alloc (.cells (ys.map (Value.int .i64)).toArray e)) (some ⟨W.heap.size,0,none⟩) ys.length ys:=by
 refine ⟨rfl,hy,fun _=>⟨_,rfl,fun j p hp=>⟨[.int .i64 p],rfl,rfl,fun i u hu=>?_⟩⟩⟩
 have hi:i=0:=by
  cases i with
  | zero=>rfl
  | succ i=>simp at hu
 subst hi
 simp at hu
 subst hu
 have h1:(W.alloc (.cells (ys.map (Value.int .i64)).toArray e)).heap[W.heap.size]?=some (.cells (ys.map (Value.int .i64)).toArray e (0,0)):=heap_alloc_new W _
 have h2:=blk_cell (g:=W.heap.size) h1 (j * 1+0)
 have h3:(⟨W.heap.size,0,none⟩:Addr).add (j * 1+0)=⟨W.heap.size,j * 1+0,none⟩:=by
  simp [Addr.add];first | done | omega | (intro e;exact e.symm)
 rw [h3,h2]
 have hl:=(List.getElem?_eq_some_iff.1 hp)
 obtain ⟨hl,he⟩:=hl
 simp [he,hl]
section
variable {P:Program} {ops:Array Oper} {rest:List Oper} {o:Oper} {a:Act} {Q:Exit→Act→World→Prop}
theorem R_append_lit {w0 W:World} (base:Nat) (hgd:o.guard=none) (s x:Operand) (t e:TypeId)
  (ho:o.op=.call { callee:=.builtin .append,args:=#[s,x],argTypes:=#[t,t] })
  (ht:P.underlying t=some (.slice e)) (hinfo:(P.info? e).map (fun i=>(i.zero,i.size,i.bytes))=some (some (.int .i64 0),1,8))
  (v:Value) (xs ys:List Int) (ok:Nat→Prop) (hs:a.eval s=v) (hx:a.eval x=.slice (some ⟨W.heap.size,0,none⟩) ys.length ys.length) (hfresh:∀ k,W.heap.size≤k→ok k)
  (HO:(Kd.int .i64).R e W base ok v xs) (HB:Below base w0 W) (hbase:base≤W.heap.size) (hl:(xs.length+ys.length) * 8≤140737488355328)
  (h:∀ v1 w1,(Kd.int .i64).R e w1 base ok v1 (xs++ys)→Below base w0 w1→W.grownBy w1 v.ownBlock→(v1.ownBlock=v.ownBlock∨∃ b,v1.ownBlock=some b∧W.heap.size≤b)→wpList P ops Q rest (a.put o.dst v1) w1) :
  wpList P ops Q (o :: rest) a (W.alloc (.cells (ys.map (Value.int .i64)).toArray e)):=by
 have hsz:(W.alloc (.cells (ys.map (Value.int .i64)).toArray e)).heap.size=W.heap.size+1:=by simp only [World.alloc,Array.size_push]
 refine Kd.R_append_rows (Kd.int .i64) (Rr:=fun (x:Int) (cs:List Value)=>cs=[.int .i64 x]) base hgd s x t e (.int .i64 0) 8 ho ht hinfo rfl (by decide) (by decide) v xs ys _ ys.length ys.length ok (fun _=>False) hs hx (Kd.R_alloc HO _) (reads_lit W e ys (by omega)) (fun x cs h=>h) (fun _ hk=>hk.elim) (fun k hk=>hfresh k (by omega)) (HB.alloc hbase _) (by omega) hl ?_
 intro v1 w1 hr hb hg hat
 refine h v1 w1 hr hb (World.grownBy.trans (World.grownBy_alloc W _ _) hg) ?_
 rcases hat with hat | ⟨b,hb1,hb2⟩
 ·exact .inl hat
 ·exact .inr ⟨b,hb1,by omega⟩
end
end Go.Proofs.Ytapaegcombfafaa.Q
