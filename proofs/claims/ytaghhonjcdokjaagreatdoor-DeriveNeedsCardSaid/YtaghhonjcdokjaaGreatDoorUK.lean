/- part -/
import Derived.Test.YtaghhonjcdokjaaGreatDoorFA
import Derived.Test.YtaghhonjcdokjaaGreatDoorA5
noncomputable section
namespace Go.Proofs.YtaghhonjcdokjaaGreatDoor
open Go.Ax Go.Proofs Go.Sort Go.Shelf Go.Maps
def ins(x:Int):Zf→Zf
 |[]=>[x]
 |y::l=>if x≤y then x::y::l else y::ins x l
def wU:Zf→Zf
 |[]=>[]
 |x::l=>ins x (wU l)
theorem uh(x:Int):∀l,(ins x l).Perm (x::l)
 |[]=>List.Perm.refl _
 |
  y::l=>by
  unfold ins
  split
  ·exact List.Perm.refl _
  ·exact(List.Perm.cons y (uh x l)).trans (List.Perm.swap x y l)
theorem ll:∀l,(wU l).Perm l
 |[]=>List.Perm.refl _
 |x::l=>(uh x _).trans (List.Perm.cons x (ll l))
theorem ui(x:Int):∀l:Zf,l.Pairwise (·≤·)→(ins x l).Pairwise (·≤·)
 |[],_=>List.pairwise_singleton _ _
 |
  y::l,h=>by
  unfold ins
  have h1:=fun z(hz:z∈l)=>List.rel_of_pairwise_cons h hz
  split
  ·rename_i hx
   exact List.Pairwise.cons (fun z hz=>by rcases List.mem_cons.1 hz with rfl|hz;exact hx;have:=h1 z hz;omega) h
  ·rename_i hx
   refine List.Pairwise.cons (fun z hz=>?_) (ui x l (List.Pairwise.of_cons h))
   rcases List.mem_cons.1 ((uh x l).mem_iff.1 hz) with rfl|hz
   ·omega
   ·exact h1 z hz
theorem px:∀l,(wU l).Pairwise (·≤·)
 |[]=>List.Pairwise.nil
 |x::l=>ui x _ (px l)
theorem HY{β:Type}(es:List (Int×β)):jJ es=wU (es.map (·.1)):=by
 have h1:=mergeSort_of_perm_i (ll (es.map (·.1)))
 unfold jJ
 rw[←h1]
 exact List.mergeSort_of_pairwise ((px _).imp fun h=>cU h)
def nv(a0:ZR):Option (ZR×Zf):=
 if a0.length*8≤aG then some (a0,wU (a0.map (·.1))) else none
theorem PV{a0:ZR}{r:ZR×Zf}(h:nv a0=some r):CC a0=some r:=by
 unfold nv at h
 unfold CC AZ
 split at h
 ·rename_i hl;rw[aA hl,←h,HY];rfl
 ·cases h
def K0:aX:=aE G [.tmp 2] 19 [(.func 40 .nil (.cons (pP 0) .nil))] [(0,(.var (.map (.int .i64) (.int .i64)) (.mp 1))),(1,(.map (.int .i64) (.int .i64)))] 49 Tw [0,1,23] (.bC (u1 nv))
theorem K1:hS K0:=aX.sub Qq fun _ _ h=>PV h
end Go.Proofs.YtaghhonjcdokjaaGreatDoor
