/- The keys of a map, sorted, in place of the library's sort. No condition. -/
import Derived.Test.YtgdcjlldafmomaaGreatF9
import Derived.Test.YtgdcjlldafmomaaGreatA5
noncomputable section
namespace Go.Proofs.YtgdcjlldafmomaaGreat
open Go.Ax Go.Proofs Go.Sort Go.Shelf Go.Maps
def ins(x:Int):Zf→Zf
 |[]=>[x]
 |y::l=>if x≤y then x::y::l else y::ins x l
def vJ:Zf→Zf
 |[]=>[]
 |x::l=>ins x (vJ l)
theorem pM(x:Int):∀l,(ins x l).Perm (x::l)
 |[]=>List.Perm.refl _
 |
  y::l=>by
  unfold ins
  split
  ·exact List.Perm.refl _
  ·exact(List.Perm.cons y (pM x l)).trans (List.Perm.swap x y l)
theorem pN:∀l,(vJ l).Perm l
 |[]=>List.Perm.refl _
 |x::l=>(pM x _).trans (List.Perm.cons x (pN l))
theorem pO(x:Int):∀l:Zf,l.Pairwise (·≤·)→(ins x l).Pairwise (·≤·)
 |[],_=>List.pairwise_singleton _ _
 |
  y::l,h=>by
  unfold ins
  have h1:=fun z(hz:z∈l)=>List.rel_of_pairwise_cons h hz
  split
  ·rename_i hx
   exact List.Pairwise.cons (fun z hz=>by rcases List.mem_cons.1 hz with rfl|hz;exact hx;have:=h1 z hz;omega) h
  ·rename_i hx
   refine List.Pairwise.cons (fun z hz=>?_) (pO x l (List.Pairwise.of_cons h))
   rcases List.mem_cons.1 ((pM x l).mem_iff.1 hz) with rfl|hz
   ·omega
   ·exact h1 z hz
theorem lU:∀l,(vJ l).Pairwise (·≤·)
 |[]=>List.Pairwise.nil
 |x::l=>pO x _ (lU l)
theorem Ch{β:Type}(es:List (Int×β)):gO es=vJ (es.map (·.1)):=by
 have h1:=mergeSort_of_perm_i (pN (es.map (·.1)))
 unfold gO
 rw[←h1]
 exact List.mergeSort_of_pairwise ((lU _).imp fun h=>decide_eq_true h)
def oL(a0:Zn):Option (Zn×Zf):=
 if a0.length*8≤aC then some (a0,vJ (a0.map (·.1))) else none
theorem I2{a0:Zn}{r:Zn×Zf}(h:oL a0=some r):zu a0=some r:=by
 unfold oL at h
 unfold zu wa
 split at h
 ·rename_i hl;rw[if_pos hl,←h,Ch];rfl
 ·cases h
def EC:aT:=aD G [.tmp 2] 44 [(.func 73 .nil (.cons (pP 0) .nil))] [(0,(.var (.map (.int .i64) .bool) (.mp 1))),(1,(.map (.int .i64) .bool))] 49 M7 [0,1,23] (.bx (u1 oL))
theorem ED:hS EC:=aT.sub Kx fun _ _ h=>I2 h
end Go.Proofs.YtgdcjlldafmomaaGreat
