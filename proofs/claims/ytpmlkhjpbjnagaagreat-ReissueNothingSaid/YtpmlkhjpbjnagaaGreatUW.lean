/- part -/
import Derived.Test.YtpmlkhjpbjnagaaGreatF8
import Derived.Test.YtpmlkhjpbjnagaaGreatA5
noncomputable section
namespace Go.Proofs.YtpmlkhjpbjnagaaGreat
open Go.Ax
def tW:Nat→Zh×List (cF×mi)×Zm→ZV:=aK fun rec2 ⟨c,a,b⟩=>if List.isEmpty a=true then(Option.bind (zE b) fun y3=>some y3) else@uW _ _ (@instDecidableEqList _ (Ty.mf bN)) a fun x4 l5=>Option.bind (α:=Bool) (if(!(cC aF x4.1 (bE c)))=true then(some true) else(Option.bind (MH x4.2.2.2.2.1 (((((aQ aF bN x4.1 (bE c)).2).2).2).1)) fun y6=>some (!y6))) fun v7=>if v7=true then(if(List.length b+List.length [x4.2])*48≤aG then(rec2 (c,l5,b++[x4.2])) else none) else(rec2 (c,l5,b))
theorem HX:∀n u,Le (tW n u) (Lm n u):=Le.iter (fun r s hrs u=>by
 split
 try dsimp only
 repeat' first|with_reducible exact Le.refl _|exact hrs _|refine Le.bind ?_ (fun a=>?_)|refine Le.join ?_ (fun a=>?_)|refine Le.ite (fun _=>?_) (fun _=>?_)|refine Le.up ?_ |refine Le.any (fun a l=>?_)|refine Le.perm (fun ys=>?_)|(split;try dsimp only))
def HY(a0:Zh)(a1:Zh):ZV:=
 tW (List.length (bE a0)+1) (a1,bE a0,([]:Zm))
theorem T4{a0 a1}:Le (HY a0 a1) (f54 a0 a1):=by
 unfold HY f54
 repeat' first|with_reducible exact Le.refl _|exact HX _ _|refine Le.bind ?_ (fun a=>?_)|refine Le.join ?_ (fun a=>?_)|refine Le.ite (fun _=>?_) (fun _=>?_)|refine Le.up ?_ |refine Le.any (fun a l=>?_)|refine Le.perm (fun ys=>?_)|(split;try dsimp only)
def ad2:aX:=aE G [.tmp 4] 54 [(.val (.map aF bN)),(.val (.map aF bN))] [] 79 XU [] (.bH (u2 HY))
theorem XV:hS ad2:=aX.sub x54 fun _ _ h=>T4 _ h
end Go.Proofs.YtpmlkhjpbjnagaaGreat
