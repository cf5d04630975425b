/- part -/
import Derived.Test.YtpmlkhjpbjnagaaGreatF8
import Derived.Test.YtpmlkhjpbjnagaaGreatA5
noncomputable section
namespace Go.Proofs.YtpmlkhjpbjnagaaGreat
open Go.Ax
def uW:Nat→Zg×List (cL×k9)×Zn→Ec:=aL fun rec2 ⟨c,a,b⟩=>if List.isEmpty a=true then((A2 b).bind fun y3=>some y3) else@wE _ _ (@instDecidableEqList _ (Ty.HT br)) a fun x4 l5=>Option.bind (α:=Bool) (if !(bT aJ x4.1 (aX c)) then(some true) else((f73 x4.2.2.2.2.1 (((((aP aJ br x4.1 (aX c)).2).2).2).1)).bind fun y6=>some (!y6))) fun v7=>if v7=true then(if(List.length b+List.length [x4.2])*48≤aH then(rec2 (c,l5,b++[x4.2])) else none) else(rec2 (c,l5,b))
theorem JF:∀n u,Le (uW n u) (Mz n u):=Le.iter (fun r s hrs u=>by
 split
 try dsimp only
 repeat' first|with_reducible exact Le.refl _|exact hrs _|refine Le.bind ?_ (fun a=>?_)|refine Le.join ?_ (fun a=>?_)|refine Le.ite (fun _=>?_) (fun _=>?_)|refine Le.up ?_ |refine Le.any (fun a l=>?_)|refine Le.perm (fun ys=>?_)|(split;try dsimp only))
def DU(a0:Zg)(a1:Zg):Ec:=
 uW (List.length (aX a0)+1) (a1,aX a0,([]:Zn))
theorem Uy{a0 a1}:Le (DU a0 a1) (f54 a0 a1):=by
 unfold DU f54
 repeat' first|with_reducible exact Le.refl _|exact JF _ _|refine Le.bind ?_ (fun a=>?_)|refine Le.join ?_ (fun a=>?_)|refine Le.ite (fun _=>?_) (fun _=>?_)|refine Le.up ?_ |refine Le.any (fun a l=>?_)|refine Le.perm (fun ys=>?_)|(split;try dsimp only)
def adF:aZ:=aG G [.tmp 4] 54 [(.val (.map aJ br)),(.val (.map aJ br))] [] 79 Ym [] (.bq (u2 DU))
theorem Pw:hS adF:=aZ.sub x54 fun _ _ h=>Uy _ h
end Go.Proofs.YtpmlkhjpbjnagaaGreat
