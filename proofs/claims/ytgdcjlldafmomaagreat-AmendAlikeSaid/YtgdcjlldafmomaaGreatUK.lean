/- part -/
import Derived.Test.YtgdcjlldafmomaaGreatF9
import Derived.Test.YtgdcjlldafmomaaGreatA5
noncomputable section
namespace Go.Proofs.YtgdcjlldafmomaaGreat
open Go.Ax Go.Proofs Go.Sort Go.Shelf Go.Maps
def ins(x:Int):Ze→Ze
 |[]=>[x]
 |y::l=>if x≤y then x::y::l else y::ins x l
def yf:Ze→Ze
 |[]=>[]
 |x::l=>ins x (yf l)
theorem sB(x:Int):∀l,(ins x l).Perm (x::l)
 |[]=>List.Perm.refl _
 |
  y::l=>by
  unfold ins
  split
  ·exact List.Perm.refl _
  ·exact(List.Perm.cons y (sB x l)).trans (List.Perm.swap x y l)
theorem sC:∀l,(yf l).Perm l
 |[]=>List.Perm.refl _
 |x::l=>(sB x _).trans (List.Perm.cons x (sC l))
theorem sD(x:Int):∀l:Ze,l.Pairwise (·≤·)→(ins x l).Pairwise (·≤·)
 |[],_=>List.pairwise_singleton _ _
 |
  y::l,h=>by
  unfold ins
  have h1:=fun z(hz:z∈l)=>List.rel_of_pairwise_cons h hz
  split
  ·rename_i hx
   exact List.Pairwise.cons (fun z hz=>by rcases List.mem_cons.1 hz with rfl|hz;exact hx;have:=h1 z hz;omega) h
  ·rename_i hx
   refine List.Pairwise.cons (fun z hz=>?_) (sD x l (List.Pairwise.of_cons h))
   rcases List.mem_cons.1 ((sB x l).mem_iff.1 hz) with rfl|hz
   ·omega
   ·exact h1 z hz
theorem ow:∀l,(yf l).Pairwise (·≤·)
 |[]=>List.Pairwise.nil
 |x::l=>sD x _ (ow l)
theorem D4{β:Type}(es:List (Int×β)):jy es=yf (es.map (·.1)):=by
 have h1:=mergeSort_of_perm_i (sC (es.map (·.1)))
 unfold jy
 rw[←h1]
 exact List.mergeSort_of_pairwise ((ow _).imp fun h=>cC h)
def rF(a0:Zn):Option (Zn×Ze):=
 if a0.length*8≤aE then some (a0,yf (a0.map (·.1))) else none
theorem KD{a0:Zn}{r:Zn×Ze}(h:rF a0=some r):Bw a0=some r:=by
 unfold rF at h
 unfold Bw yw
 split at h
 ·rename_i hl;rw[aA hl,←h,D4];rfl
 ·cases h
def Gy:aW:=aF G [.tmp 2] 44 [(.func 73 .nil (.cons (pP 0) .nil))] [(0,(.var (.map (.int .i64) .bool) (.mp 1))),(1,(.map (.int .i64) .bool))] 49 ON [0,1,23] (.bH (u1 rF))
theorem Gz:hS Gy:=aW.sub Mf fun _ _ h=>KD h
end Go.Proofs.YtgdcjlldafmomaaGreat
