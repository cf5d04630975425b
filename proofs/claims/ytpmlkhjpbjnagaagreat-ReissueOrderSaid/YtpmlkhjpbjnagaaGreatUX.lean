/- part -/
import Derived.Test.YtpmlkhjpbjnagaaGreatFA
import Derived.Test.YtpmlkhjpbjnagaaGreatA5
noncomputable section
namespace Go.Proofs.YtpmlkhjpbjnagaaGreat
open Go.Ax
def lJ:Nat→Zad→Zl:=aL fun rec4 ⟨b,c,d,a⟩=>if List.isEmpty a=true then(aI (U:=Unit) (jS (Int.toNat (b.length:Int)+1) (b,(b.length:Int),0,c,d)) fun _v5=>some true) else@wE _ _ instDecidableEqBool a fun x10 l11=>(f59 x10.1).bind fun y12=>if decide ((0:Int)<(aP bw (.int .i64) y12 c)) then((f59 x10.1).bind fun y13=>if d.length+1≤aH then(rec4 (b,c,aY bw y13 true d,l11)) else none) else(rec4 (b,c,d,l11))
theorem A3:∀n u,Le (lJ n u) (zS n u):=Le.iter (fun r s hrs u=>by
 split
 try dsimp only
 repeat' first|with_reducible exact Le.refl _|exact hrs _|refine Le.bind ?_ (fun a=>?_)|refine Le.join ?_ (fun a=>?_)|refine Le.ite (fun _=>?_) (fun _=>?_)|refine Le.up ?_ |refine Le.any (fun a l=>?_)|refine Le.perm (fun ys=>?_)|(split;try dsimp only))
def lK:Nat→Ze×Zg×Zg×Zad→Zl:=aL fun rec2 ⟨f,g,b,c,d,e,a⟩=>if List.isEmpty a=true then(lJ (List.length (aX b)+1) (c,d,e,aX b)) else@wE _ _ instDecidableEqBool a fun lb l15=>(f59 lb.1).bind fun y16=>if bl bw y16 (lb.1.1,lb.1.2.1,())=true then(if d.length+1≤aH then(if bT bw (lb.1.1,lb.1.2.1,()) (aY bw (lb.1.1,lb.1.2.1,()) (aP bw (.int .i64) (lb.1.1,lb.1.2.1,()) d) d)=true then(mZ (.int .i64) (aP bw (.int .i64) y16 d) (aP bw (.int .i64) y16 (aY bw (lb.1.1,lb.1.2.1,()) (aP bw (.int .i64) (lb.1.1,lb.1.2.1,()) d) d)) (mZ (.int .i64) (bp ((aP bw (.int .i64) y16 d)+(1:Int))) (bp ((aP bw (.int .i64) y16 d)+(1:Int))) (rec2 (f,g,b,c,aY bw (lb.1.1,lb.1.2.1,()) (bp ((aP bw (.int .i64) y16 d)+(1:Int))) (aY bw (lb.1.1,lb.1.2.1,()) (aP bw (.int .i64) (lb.1.1,lb.1.2.1,()) d) d),e,l15)))) else none) else none) else none
theorem A4:∀n u,Le (lK n u) (zT n u):=Le.iter (fun r s hrs u=>by
 split
 try dsimp only
 repeat' first|with_reducible exact Le.refl _|exact hrs _|exact A3 _ _|refine Le.bind ?_ (fun a=>?_)|refine Le.join ?_ (fun a=>?_)|refine Le.ite (fun _=>?_) (fun _=>?_)|refine Le.up ?_ |refine Le.any (fun a l=>?_)|refine Le.perm (fun ys=>?_)|(split;try dsimp only))
def j8(a0:Ze)(a1:Zg)(a2:Zg)(a3:Zo):Zl:=
 lK (List.length (aX a1)+1) (a0,a1,a2,a3,([]:List (rN×Int)),([]:List (rN×Bool)),aX a1)
theorem JG{a0 a1 a2 a3}:Le (j8 a0 a1 a2 a3) (GB a0 a1 a2 a3):=by
 simp_all[j8,GB,A4]
def Px:aZ:=aG G [.tmp 4] 35 [(.iv (.cons (.val (.slice 8 (.int .i64))) (.cons (.val (.map aJ br)) (.cons (.val (.map aJ br)) (.cons (.dK (.aT .ptr)) .nil))))),(.val (.slice 32 bB))] [] 127 Y4 [] (.bq (u4 j8))
theorem A5:hS Px:=aZ.sub VH fun _ _ h=>JG _ h
end Go.Proofs.YtpmlkhjpbjnagaaGreat
