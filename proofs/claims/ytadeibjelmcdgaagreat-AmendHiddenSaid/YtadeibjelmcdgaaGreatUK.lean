/- The keys of a map, sorted, in place of the library's sort. No condition. -/
import Derived.Test.YtadeibjelmcdgaaGreatFK
noncomputable section
namespace Go.Proofs.YtadeibjelmcdgaaGreat
open Go.Ax Go.Proofs Go.Sort Go.Shelf Go.Maps
def ins(x:Int):List Int→List Int
 |[]=>[x]
 |y::l=>if x≤y then x::y::l else y::ins x l
def rM:List Int→List Int
 |[]=>[]
 |x::l=>ins x (rM l)
theorem nn(x:Int):∀l,(ins x l).Perm (x::l)
 |[]=>List.Perm.refl _
 |
  y::l=>by
  unfold ins
  split
  ·exact List.Perm.refl _
  ·exact(List.Perm.cons y (nn x l)).trans (List.Perm.swap x y l)
theorem np:∀l,(rM l).Perm l
 |[]=>List.Perm.refl _
 |x::l=>(nn x _).trans (List.Perm.cons x (np l))
theorem nr(x:Int):∀l:List Int,l.Pairwise (·≤·)→(ins x l).Pairwise (·≤·)
 |[],_=>List.pairwise_singleton _ _
 |
  y::l,h=>by
  unfold ins
  have h1:=fun z(hz:z∈l)=>List.rel_of_pairwise_cons h hz
  split
  ·rename_i hx
   exact List.Pairwise.cons (fun z hz=>by rcases List.mem_cons.1 hz with rfl|hz;exact hx;have:=h1 z hz;omega) h
  ·rename_i hx
   refine List.Pairwise.cons (fun z hz=>?_) (nr x l (List.Pairwise.of_cons h))
   rcases List.mem_cons.1 ((nn x l).mem_iff.1 hz) with rfl|hz
   ·omega
   ·exact h1 z hz
theorem kn:∀l,(rM l).Pairwise (·≤·)
 |[]=>List.Pairwise.nil
 |x::l=>nr x _ (kn l)
theorem An{β:Type}(es:List (Int×β)):fN es=rM (es.map (·.1)):=by
 have h1:=mergeSort_of_perm_i (np (es.map (·.1)))
 unfold fN
 rw[←h1]
 exact List.mergeSort_of_pairwise ((kn _).imp fun h=>decide_eq_true h)
def mu(a0:List (Int×Bool)):Option ((List (Int×Bool))×(List Int)):=
 if a0.length*8≤aF then some (a0,rM (a0.map (·.1))) else none
theorem FN{a0:List (Int×Bool)}{r:(List (Int×Bool))×(List Int)}(h:mu a0=some r):tE a0=some r:=by
 unfold mu at h
 unfold tE sU
 split at h
 ·rename_i hl;rw[if_pos hl,←h,An];rfl
 ·cases h
def vL:aH:=aB G [.tmp 2] 56 [(.func 100 .nil (.cons (.ptr 0 []) .nil))] [(0,(.var (.map (.int .i64) .bool) (.mp 1))),(1,(.map (.int .i64) .bool))] 49 H6 [0,1,23] (.bE (fun d=>mu d.1))
theorem C8:vL.holds Tryz.prog gl:=aH.sub F4 fun _ _ h=>FN h
end Go.Proofs.YtadeibjelmcdgaaGreat
