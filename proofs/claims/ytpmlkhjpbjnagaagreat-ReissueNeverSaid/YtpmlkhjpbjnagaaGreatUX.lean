/- part -/
import Derived.Test.YtpmlkhjpbjnagaaGreatFA
import Derived.Test.YtpmlkhjpbjnagaaGreatA5
noncomputable section
namespace Go.Proofs.YtpmlkhjpbjnagaaGreat
open Go.Ax
def lM:Nat→Zae→Zm:=aL fun rec4 ⟨b,c,d,a⟩=>if List.isEmpty a=true then(aI (U:=Unit) (jV (Int.toNat (b.length:Int)+1) (b,(b.length:Int),0,c,d)) fun _v5=>some true) else@wM _ _ instDecidableEqBool a fun WT l11=>(f59 WT.1).bind fun y12=>if decide ((0:Int)<(aP bw (.int .i64) y12 c)) then((f59 WT.1).bind fun y13=>if d.length+1≤aH then(rec4 (b,c,aZ bw y13 true d,l11)) else none) else(rec4 (b,c,d,l11))
theorem A8:∀n u,Le (lM n u) (Ab n u):=Le.iter (fun r s hrs u=>by
 split
 try dsimp only
 repeat' first|with_reducible exact Le.refl _|exact hrs _|refine Le.bind ?_ (fun a=>?_)|refine Le.join ?_ (fun a=>?_)|refine Le.ite (fun _=>?_) (fun _=>?_)|refine Le.up ?_ |refine Le.any (fun a l=>?_)|refine Le.perm (fun ys=>?_)|(split;try dsimp only))
def lN:Nat→Ze×Zg×Zg×Zae→Zm:=aL fun rec2 ⟨f,g,b,c,d,e,a⟩=>if List.isEmpty a=true then(lM (List.length (aX b)+1) (c,d,e,aX b)) else@wM _ _ instDecidableEqBool a fun kD l15=>(f59 kD.1).bind fun y16=>if bl bw y16 (kD.1.1,kD.1.2.1,())=true then(if d.length+1≤aH then(if bT bw (kD.1.1,kD.1.2.1,()) (aZ bw (kD.1.1,kD.1.2.1,()) (aP bw (.int .i64) (kD.1.1,kD.1.2.1,()) d) d)=true then(nf (.int .i64) (aP bw (.int .i64) y16 d) (aP bw (.int .i64) y16 (aZ bw (kD.1.1,kD.1.2.1,()) (aP bw (.int .i64) (kD.1.1,kD.1.2.1,()) d) d)) (nf (.int .i64) (bq ((aP bw (.int .i64) y16 d)+(1:Int))) (bq ((aP bw (.int .i64) y16 d)+(1:Int))) (rec2 (f,g,b,c,aZ bw (kD.1.1,kD.1.2.1,()) (bq ((aP bw (.int .i64) y16 d)+(1:Int))) (aZ bw (kD.1.1,kD.1.2.1,()) (aP bw (.int .i64) (kD.1.1,kD.1.2.1,()) d) d),e,l15)))) else none) else none) else none
theorem A9:∀n u,Le (lN n u) (Ac n u):=Le.iter (fun r s hrs u=>by
 split
 try dsimp only
 repeat' first|with_reducible exact Le.refl _|exact hrs _|exact A8 _ _|refine Le.bind ?_ (fun a=>?_)|refine Le.join ?_ (fun a=>?_)|refine Le.ite (fun _=>?_) (fun _=>?_)|refine Le.up ?_ |refine Le.any (fun a l=>?_)|refine Le.perm (fun ys=>?_)|(split;try dsimp only))
def kf(a0:Ze)(a1:Zg)(a2:Zg)(a3:Zp):Zm:=
 lN (List.length (aX a1)+1) (a0,a1,a2,a3,([]:List (rQ×Int)),([]:List (rQ×Bool)),aX a1)
theorem JW{a0 a1 a2 a3}:Le (kf a0 a1 a2 a3) (GR a0 a1 a2 a3):=by
 simp_all[kf,GR,A9]
def P1:bh:=aF G [.tmp 4] 35 [(.iy (.cons (.val (.slice 8 (.int .i64))) (.cons (.val (.map aK bp)) (.cons (.val (.map aK bp)) (.cons (.dK (.aT .ptr)) .nil))))),(.val (.slice 32 bD))] [] 127 aaj [] (.br (u4 kf))
theorem Ba:hS P1:=bh.sub V9 fun _ _ h=>JW _ h
end Go.Proofs.YtpmlkhjpbjnagaaGreat
