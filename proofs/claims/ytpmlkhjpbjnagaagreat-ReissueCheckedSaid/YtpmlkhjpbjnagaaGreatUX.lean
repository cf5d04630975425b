/- part -/
import Derived.Test.YtpmlkhjpbjnagaaGreatFA
import Derived.Test.YtpmlkhjpbjnagaaGreatA5
noncomputable section
namespace Go.Proofs.YtpmlkhjpbjnagaaGreat
open Go.Ax
def lv:Nat→Zae→Zm:=aL fun rec4 ⟨b,c,d,a⟩=>if List.isEmpty a=true then(aI (U:=Unit) (jP (Int.toNat (b.length:Int)+1) (b,(b.length:Int),0,c,d)) fun _v5=>some true) else@wg _ _ instDecidableEqBool a fun Wo l11=>(f59 Wo.1).bind fun y12=>if decide ((0:Int)<(aQ bw (.int .i64) y12 c)) then((f59 Wo.1).bind fun y13=>if d.length+1≤aH then(rec4 (b,c,aX bw y13 true d,l11)) else none) else(rec4 (b,c,d,l11))
theorem AO:∀n u,Le (lv n u) (zD n u):=Le.iter (fun r s hrs u=>by
 split
 try dsimp only
 repeat' first|with_reducible exact Le.refl _|exact hrs _|refine Le.bind ?_ (fun a=>?_)|refine Le.join ?_ (fun a=>?_)|refine Le.ite (fun _=>?_) (fun _=>?_)|refine Le.up ?_ |refine Le.any (fun a l=>?_)|refine Le.perm (fun ys=>?_)|(split;try dsimp only))
def lz:Nat→Zf×Zg×Zg×Zae→Zm:=aL fun rec2 ⟨f,g,b,c,d,e,a⟩=>if List.isEmpty a=true then(lv (List.length (aY b)+1) (c,d,e,aY b)) else@wg _ _ instDecidableEqBool a fun ku l15=>(f59 ku.1).bind fun y16=>if bl bw y16 (ku.1.1,ku.1.2.1,())=true then(if d.length+1≤aH then(if bT bw (ku.1.1,ku.1.2.1,()) (aX bw (ku.1.1,ku.1.2.1,()) (aQ bw (.int .i64) (ku.1.1,ku.1.2.1,()) d) d)=true then(mN (.int .i64) (aQ bw (.int .i64) y16 d) (aQ bw (.int .i64) y16 (aX bw (ku.1.1,ku.1.2.1,()) (aQ bw (.int .i64) (ku.1.1,ku.1.2.1,()) d) d)) (mN (.int .i64) (bq ((aQ bw (.int .i64) y16 d)+(1:Int))) (bq ((aQ bw (.int .i64) y16 d)+(1:Int))) (rec2 (f,g,b,c,aX bw (ku.1.1,ku.1.2.1,()) (bq ((aQ bw (.int .i64) y16 d)+(1:Int))) (aX bw (ku.1.1,ku.1.2.1,()) (aQ bw (.int .i64) (ku.1.1,ku.1.2.1,()) d) d),e,l15)))) else none) else none) else none
theorem AP:∀n u,Le (lz n u) (zG n u):=Le.iter (fun r s hrs u=>by
 split
 try dsimp only
 repeat' first|with_reducible exact Le.refl _|exact hrs _|exact AO _ _|refine Le.bind ?_ (fun a=>?_)|refine Le.join ?_ (fun a=>?_)|refine Le.ite (fun _=>?_) (fun _=>?_)|refine Le.up ?_ |refine Le.any (fun a l=>?_)|refine Le.perm (fun ys=>?_)|(split;try dsimp only))
def j5(a0:Zf)(a1:Zg)(a2:Zg)(a3:Zp):Zm:=
 lz (List.length (aY a1)+1) (a0,a1,a2,a3,([]:List (rz×Int)),([]:List (rz×Bool)),aY a1)
theorem Jw{a0 a1 a2 a3}:Le (j5 a0 a1 a2 a3) (Gs a0 a1 a2 a3):=by
 simp_all[j5,Gs,AP]
def Pr:aZ:=aF G [.tmp 4] 35 [(.ir (.cons (.val (.slice 8 (.int .i64))) (.cons (.val (.map aK bp)) (.cons (.val (.map aK bp)) (.cons (.dH (.aT .ptr)) .nil))))),(.val (.slice 32 bC))] [] 127 Y3 [] (.br (u4 j5))
theorem AR:hS Pr:=aZ.sub VD fun _ _ h=>Jw _ h
end Go.Proofs.YtpmlkhjpbjnagaaGreat
