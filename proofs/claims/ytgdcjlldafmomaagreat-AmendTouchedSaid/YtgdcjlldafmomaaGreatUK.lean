/- part -/
import Derived.Test.YtgdcjlldafmomaaGreatF7
import Derived.Test.YtgdcjlldafmomaaGreatA5
noncomputable section
namespace Go.Proofs.YtgdcjlldafmomaaGreat
open Go.Ax Go.Proofs Go.Sort Go.Shelf Go.Maps
def ins(x:Int):Ze→Ze
 |[]=>[x]
 |y::l=>if x≤y then x::y::l else y::ins x l
def sy:Ze→Ze
 |[]=>[]
 |x::l=>ins x (sy l)
theorem sA(x:Int):∀l,(ins x l).Perm (x::l)
 |[]=>List.Perm.refl _
 |
  y::l=>by
  unfold ins
  split
  ·exact List.Perm.refl _
  ·exact(List.Perm.cons y (sA x l)).trans (List.Perm.swap x y l)
theorem kF:∀l,(sy l).Perm l
 |[]=>List.Perm.refl _
 |x::l=>(sA x _).trans (List.Perm.cons x (kF l))
theorem sB(x:Int):∀l:Ze,l.Pairwise (·≤·)→(ins x l).Pairwise (·≤·)
 |[],_=>List.pairwise_singleton _ _
 |
  y::l,h=>by
  unfold ins
  have h1:=fun z(hz:z∈l)=>List.rel_of_pairwise_cons h hz
  split
  ·rename_i hx
   exact List.Pairwise.cons (fun z hz=>by rcases List.mem_cons.1 hz with rfl|hz;exact hx;have:=h1 z hz;omega) h
  ·rename_i hx
   refine List.Pairwise.cons (fun z hz=>?_) (sB x l (List.Pairwise.of_cons h))
   rcases List.mem_cons.1 ((sA x l).mem_iff.1 hz) with rfl|hz
   ·omega
   ·exact h1 z hz
theorem nY:∀l,(sy l).Pairwise (·≤·)
 |[]=>List.Pairwise.nil
 |x::l=>sB x _ (nY l)
theorem EF{β:Type}(es:List (Int×β)):ji es=sy (es.map (·.1)):=by
 have h1:=mergeSort_of_perm_i (kF (es.map (·.1)))
 unfold ji
 rw[←h1]
 exact List.mergeSort_of_pairwise ((nY _).imp fun h=>cu h)
def nZ(a0:Zm):Option (Zm×Ze):=
 if a0.length*8≤aE then some (a0,sy (a0.map (·.1))) else none
theorem Ln{a0:Zm}{r:Zm×Ze}(h:nZ a0=some r):BY a0=some r:=by
 unfold nZ at h
 unfold BY yB
 split at h
 ·rename_i hl;rw[aA hl,←h,EF];rfl
 ·cases h
def Hj:aW:=aF G [.tmp 2] 44 [(.func 73 .nil (.cons (pP 0) .nil))] [(0,(.var (.map (.int .i64) .bool) (.mp 1))),(1,(.map (.int .i64) .bool))] 49 PO [0,1,23] (.bE (u1 nZ))
theorem Hk:hS Hj:=aW.sub M7 fun _ _ h=>Ln h
end Go.Proofs.YtgdcjlldafmomaaGreat
