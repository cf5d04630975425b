/- part -/
import Derived.Test.YtpmlkhjpbjnagaaGreatF8
import Derived.Test.YtpmlkhjpbjnagaaGreatA5
noncomputable section
namespace Go.Proofs.YtpmlkhjpbjnagaaGreat
open Go.Ax
def uI:Nat→Zg×List (cM×l7)×Zl→B8:=aL fun rec2 ⟨c,a,b⟩=>if List.isEmpty a=true then((AN b).bind fun y3=>some y3) else@wg _ _ (@instDecidableEqList _ (Ty.HJ bp)) a fun x4 l5=>Option.bind (α:=Bool) (if !(bT aK x4.1 (aY c)) then(some true) else((f73 x4.2.2.2.2.1 (((((aQ aK bp x4.1 (aY c)).2).2).2).1)).bind fun y6=>some (!y6))) fun v7=>if v7=true then(if(List.length b+List.length [x4.2])*48≤aH then(rec2 (c,l5,b++[x4.2])) else none) else(rec2 (c,l5,b))
theorem Jv:∀n u,Le (uI n u) (Mt n u):=Le.iter (fun r s hrs u=>by
 split
 try dsimp only
 repeat' first|with_reducible exact Le.refl _|exact hrs _|refine Le.bind ?_ (fun a=>?_)|refine Le.join ?_ (fun a=>?_)|refine Le.ite (fun _=>?_) (fun _=>?_)|refine Le.up ?_ |refine Le.any (fun a l=>?_)|refine Le.perm (fun ys=>?_)|(split;try dsimp only))
def DH(a0:Zg)(a1:Zg):B8:=
 uI (List.length (aY a0)+1) (a1,aY a0,([]:Zl))
theorem Uq{a0 a1}:Le (DH a0 a1) (f54 a0 a1):=by
 unfold DH f54
 repeat' first|with_reducible exact Le.refl _|exact Jv _ _|refine Le.bind ?_ (fun a=>?_)|refine Le.join ?_ (fun a=>?_)|refine Le.ite (fun _=>?_) (fun _=>?_)|refine Le.up ?_ |refine Le.any (fun a l=>?_)|refine Le.perm (fun ys=>?_)|(split;try dsimp only)
def adr:aZ:=aF G [.tmp 4] 54 [(.val (.map aK bp)),(.val (.map aK bp))] [] 79 XW [] (.br (u2 DH))
theorem Pq:hS adr:=aZ.sub x54 fun _ _ h=>Uq _ h
end Go.Proofs.YtpmlkhjpbjnagaaGreat
