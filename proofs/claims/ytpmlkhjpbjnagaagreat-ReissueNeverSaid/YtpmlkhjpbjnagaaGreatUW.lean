/- part -/
import Derived.Test.YtpmlkhjpbjnagaaGreatF8
import Derived.Test.YtpmlkhjpbjnagaaGreatA5
noncomputable section
namespace Go.Proofs.YtpmlkhjpbjnagaaGreat
open Go.Ax
def vf:Nat→Zg×List (cN×mq)×Zl→Ct:=aL fun rec2 ⟨c,a,b⟩=>if List.isEmpty a=true then((A7 b).bind fun y3=>some y3) else@wM _ _ (@instDecidableEqList _ (Ty.Ie bp)) a fun x4 l5=>Option.bind (α:=Bool) (if !(bT aK x4.1 (aX c)) then(some true) else((f73 x4.2.2.2.2.1 (((((aP aK bp x4.1 (aX c)).2).2).2).1)).bind fun y6=>some (!y6))) fun v7=>if v7=true then(if(List.length b+List.length [x4.2])*48≤aH then(rec2 (c,l5,b++[x4.2])) else none) else(rec2 (c,l5,b))
theorem JV:∀n u,Le (vf n u) (M6 n u):=Le.iter (fun r s hrs u=>by
 split
 try dsimp only
 repeat' first|with_reducible exact Le.refl _|exact hrs _|refine Le.bind ?_ (fun a=>?_)|refine Le.join ?_ (fun a=>?_)|refine Le.ite (fun _=>?_) (fun _=>?_)|refine Le.up ?_ |refine Le.any (fun a l=>?_)|refine Le.perm (fun ys=>?_)|(split;try dsimp only))
def D5(a0:Zg)(a1:Zg):Ct:=
 vf (List.length (aX a0)+1) (a1,aX a0,([]:Zl))
theorem UW{a0 a1}:Le (D5 a0 a1) (f54 a0 a1):=by
 unfold D5 f54
 repeat' first|with_reducible exact Le.refl _|exact JV _ _|refine Le.bind ?_ (fun a=>?_)|refine Le.join ?_ (fun a=>?_)|refine Le.ite (fun _=>?_) (fun _=>?_)|refine Le.up ?_ |refine Le.any (fun a l=>?_)|refine Le.perm (fun ys=>?_)|(split;try dsimp only)
def adT:bh:=aF G [.tmp 4] 54 [(.val (.map aK bp)),(.val (.map aK bp))] [] 79 Yp [] (.br (u2 D5))
theorem P0:hS adT:=bh.sub x54 fun _ _ h=>UW _ h
end Go.Proofs.YtpmlkhjpbjnagaaGreat
