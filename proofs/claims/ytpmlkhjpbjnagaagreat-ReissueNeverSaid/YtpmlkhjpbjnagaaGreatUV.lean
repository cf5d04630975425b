/- part -/
import Derived.Test.YtpmlkhjpbjnagaaGreatF9
import Derived.Test.YtpmlkhjpbjnagaaGreatA5
noncomputable section
namespace Go.Proofs.YtpmlkhjpbjnagaaGreat
open Go.Ax
def fS:Nat→ZN×ZI→Option (cL ZI (Nat×Nat×ZI)):=aL fun rec6 ⟨a,b⟩=>if List.isEmpty a=true then(some (.brk b)) else@wM _ _ (Tb (@instDecidableEqList _ (Ty.Ie dJ)) (@instDecidableEqProd _ _ instDecidableEqNat (@instDecidableEqProd _ _ instDecidableEqNat (@instDecidableEqList _ (Ty.Ie dJ))))) a fun x7 l8=>@wN _ _ (Tb (@instDecidableEqList _ (Ty.Ie dJ)) (@instDecidableEqProd _ _ instDecidableEqNat (@instDecidableEqProd _ _ instDecidableEqNat (@instDecidableEqList _ (Ty.Ie dJ))))) (List.length b) b fun q9=>if(List.length q9+List.length [x7.1])*32≤aH then(rec6 (l8,uz (gz dJ) (q9++[x7.1]))) else none
theorem yu:∀n u,Le (fS n u) (xP n u):=Le.iter (fun r s hrs u=>by
 split
 try dsimp only
 repeat' first|with_reducible exact Le.refl _|exact hrs _|refine Le.bind ?_ (fun a=>?_)|refine Le.join ?_ (fun a=>?_)|refine Le.ite (fun _=>?_) (fun _=>?_)|refine Le.up ?_ |refine Le.any (fun a l=>?_)|refine Le.perm (fun ys=>?_)|(split;try dsimp only))
theorem Sx:∀(n:Nat)(es:ZN)(c:ZI) (o),fS n (es,c)=some o→∃d,o= .brk d:=by
 intro n
 induction n with
 |zero=>intro es c o h;cases h
 |
  succ n ih=>
  intro es c o h
  unfold fS at ih h
  rw[aN] at h
  generalize aL _ n=rec at ih h
  dsimp only at h
  split at h
  ·grind
  ·rename_i hne
   obtain⟨h1,h2⟩:=nX h
   have h0:=h2 0 (List.length_pos_iff.2 h1)
   have h3:=pB h0 c (List.Perm.refl _)
   grind
def rV(l:Zp)(n:Int)(force:Option ZN)(last:ZI):Option ZI:=
 if decide (n<(l.length:Int)) then some last else (fS (List.length (aX force)+1) (aX force,last)).bind fun r=>match r with
  | .brk x=>some x
  | .ret _=>none
abbrev Yv(l:Zp)(y:YC):ZS:=fun d=>oJ l y d.1 d.2.1 d.2.2.1 d.2.2.2.1 d.2.2.2.2.1 d.2.2.2.2.2.1
theorem I6(y:YC){l:Zp}{n:Int}{force:Option ZN}{last amZ:ZI}(h:rV l n force last=some amZ):
 Yv l y (n,force,y,0,y.gs 1,last,())=some (true,y,0,y.gs 1,amZ):=by
 show oJ l y n force y 0 (y.gs 1) last=_
 unfold oJ
 unfold rV at h
 rw[gv]
 simp only[cj]
 split at h
 ·simp_all[aG]
 ·rename_i hc
  rw[aC hc]
  obtain⟨r,h1,h2⟩:=bind_some h
  obtain⟨d,rfl⟩:=Sx _ _ _ _ h1
  cases h2
  rw[yu _ _ _ h1,aG]
  simp_all
def Sy(l:Zp)(known:Option ZD):Nat→Int→ZN→ZI→Option ZI
 |0,_,_,_=>none
 |n+1,v,z,last=>if decide (v<(l.length:Int)) then(if 0≤v then(if v<(l.length:Int) then(if(bT bD (nth bD l v) (aX known))=true then(if(((aP bD dJ (nth bD l v) (aX known)).2).1)=true then(if z.length+1≤aH then
  ((rV l (bq (v+(1:Int))) (some (aZ dJ (aP bD dJ (nth bD l v) (aX known)) true z)) last).bind fun amZ=>Sy l known n (bq (v+(1:Int))) (aZ dJ (aP bD dJ (nth bD l v) (aX known)) true z) amZ) else none)
  else((rV l (bq (v+(1:Int))) (some (iZ dJ (aP bD dJ (nth bD l v) (aX known)) z)) last).bind fun amZ=>Sy l known n (bq (v+(1:Int))) (iZ dJ (aP bD dJ (nth bD l v) (aX known)) z) amZ))
  else((rV l (bq (v+(1:Int))) (some z) last).bind fun amZ=>Sy l known n (bq (v+(1:Int))) z amZ)) else none) else none) else some last
theorem VH(
 y:YC) (l:Zp) (known:Option ZD) (q:Ze) (r:bz) (s:Zb) (t u:Int) (v:Bool) (w:Zc) (x:Unit) (y1 z1:Zg) (aa:Zh) (ab:Zf) (ac:Zd):
 ∀(n:Nat)(i:Int)(force:ZN)(last amZ:ZI),Sy l known n i force last=some amZ→
  tk y.l (Yv l y) n (y.l,known,l,(l.length:Int),i,y,0,y.gs 1,q,r,s,t,u,v,w,x,y1,z1,aa,ab,ac,l,force,last)=some (.brk (y,0,y.gs 1,q,r,s,t,u,v,w,x,y1,z1,aa,ab,ac,l,amZ)):=by
 intro n
 induction n with
 |zero=>intro i force last amZ h;cases h
 |
  succ n ih=>
  intro i force last amZ h
  unfold tk at ih ⊢
  rw[aN]
  generalize aL _ n=rec at ih ⊢
  dsimp only
  simp only[Sy] at h
  split at h
  ·rename_i h1
   split at h
   ·rename_i h2
    split at h
    ·rename_i h3
     rw[aA h1,aA h2,aA h3]
     split at h
     ·rename_i h4
      rw[aA h4]
      split at h
      ·rename_i h5
       rw[aA h5]
       split at h
       ·rename_i h6
        obtain⟨m,e1,e2⟩:=bind_some h
        simp_all[I6]
       grind
      ·rename_i h5
       rw[aC h5]
       obtain⟨m,e1,e2⟩:=bind_some h
       simp_all[I6]
     ·rename_i h4
      rw[aC h4]
      obtain⟨m,e1,e2⟩:=bind_some h
      simp_all[I6]
    grind
   grind
  grind
def VI(l:Zp)(known:Option ZD):Nat→ZN→List (cN×mq)→ZI→Option ZI
 |0,_,_,_=>none
 |n+1,force,es,last=>if List.isEmpty es=true then((rV l (0:Int) (some force) last).bind fun amZ=>Sy l known (Int.toNat (l.length:Int)+1) (0:Int) force amZ) else wM es fun x m=>if force.length+1≤aH then VI l known n (aZ dJ (x.1,(false,())) true force) m last else none
theorem VJ(y:YC)(l:Zp)(known:Option ZD)(q:Ze)(r:bz)(s:Zb)(t u:Int)(v:Bool)(w:Zc)(x:Unit)(y1 z1:Zg)(aa:Zh)(ab:Zf)(ac:Zd):
 ∀(n:Nat)(es:List (cN×mq))(force:ZN)(last amZ:ZI),VI l known n force es last=some amZ→
  tn y.l (Yv l y) n (y.l,known,y,0,y.gs 1,last,q,r,s,t,u,v,w,x,y1,z1,aa,ab,ac,l,force,es)=some (y,0,y.gs 1,q,r,s,t,u,v,w,x,y1,z1,aa,ab,ac,l,amZ):=by
 intro n
 induction n with
 |zero=>intro es force last amZ h;cases h
 |
  succ n ih=>
  intro es force last amZ h
  unfold tn at ih ⊢
  rw[aN]
  generalize aL _ n=rec at ih ⊢
  dsimp only
  simp only[VI] at h
  split at h
  ·rename_i h1
   rw[aA h1,aA rfl]
   obtain⟨m,e1,e2⟩:=bind_some h
   simp_all[I6,VH,aG]
  ·rename_i h1
   rw[aC h1]
   obtain⟨g1,g2⟩:=nX h
   refine qT g1 fun i hi=>?_<;>grind
def oK(a0:bz)(a1:Ze)(a2:Int)(a3:Int)(a4:Int)(a5:Zp):Ct:=
 (fb a0 a1 a2 a3 a4).bind fun⟨a,e,f,g,h,i,j,k,m,b,c,p,n,o⟩=>if !a then none else
 (nK b c e f g h i j k m n o p).bind fun⟨st,b1,c1,e1,f1,g1,h1,i1,j1,k1,m1,n1,o1,p1⟩=>
 (nJ b1 c1 e1 f1 g1 h1 i1 j1 k1 m1 n1 o1 p1).bind fun⟨fr,b2,c2,e2,f2,g2,h2,i2,j2,k2,m2,n2,o2,p2⟩=>
 (f58 st fr).bind fun kn=>
 (VI a5 kn (List.length (aX b2)+1) ([]:ZN) (aX b2) ([]:ZI)).bind fun last=>
 @wN _ _ (@instDecidableEqList _ (Ty.Ie bp)) (List.length last) last fun q=>(B4 q).bind fun ys=>
 aI (U:=Zl) (l7 (Int.toNat (ys.length:Int)+1) ((ys.length:Int),0,e2,f2,g2,h2,i2,j2,k2,m2,b2,c2,p2,n2,o2,ys,([]:Zl))) fun v=>some v
theorem J4{a0 a1 a2 a3 a4 a5}:Le (oK a0 a1 a2 a3 a4 a5) (GN a0 a1 a2 a3 a4 a5):=by
 intro r h
 unfold oK at h
 obtain⟨⟨a,e,f,g,h',i,j,k,m,b,c,p,n,o⟩,e22,h⟩:=bind_some h
 unfold GN
 rw[e22,aM]
 dsimp only at h ⊢
 split at h
 ·cases h
 rename_i ha
 rw[aC ha]
 unfold GK
 rw[aM]
 dsimp only
 obtain⟨⟨st,b1,c1,e1,f1,g1,h1,i1,j1,k1,m1,n1,o1,p1⟩,e25,h⟩:=bind_some h
 obtain⟨⟨fr,b2,c2,e2,f2,g2,h2,i2,j2,k2,m2,n2,o2,p2⟩,e23,h⟩:=bind_some h
 obtain⟨kn,e58,h⟩:=bind_some h
 obtain⟨last,eV,h⟩:=bind_some h
 rw[qS (r:=.brk (e2,f2,g2,h2,i2,j2,k2,m2,b2,c2,p2,n2,o2,last)),aG]
 ·dsimp only
  exact Le.perm (fun ys=>Le.refl _) r h
 ·intro y
  have key:=VJ y a5 kn e2 f2 g2 h2 i2 j2 k2 m2 b2 c2 p2 n2 o2 _ _ _ _ _ eV
  unfold GL
  rw[e25,aM]
  dsimp only
  rw[e23,aM]
  dsimp only
  rw[e58,aM]
  erw[key]
  simp_all[gv]
def Sz:bh:=aF G [.tmp 12] 13 [(.val fI),(.val (.slice 8 (.int .i64))),vI,vI,vI,(.val (.slice 32 bD))] [] 123 Sw [] (.br (u6 oK))
theorem SC:hS Sz:=bh.sub VF fun _ _ h=>J4 _ h
end Go.Proofs.YtpmlkhjpbjnagaaGreat
