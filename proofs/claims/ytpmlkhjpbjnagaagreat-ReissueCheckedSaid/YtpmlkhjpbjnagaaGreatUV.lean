/- part -/
import Derived.Test.YtpmlkhjpbjnagaaGreatF9
import Derived.Test.YtpmlkhjpbjnagaaGreatA5
noncomputable section
namespace Go.Proofs.YtpmlkhjpbjnagaaGreat
open Go.Ax
def fO:Nat→ZN×ZI→Option (cK ZI (Nat×Nat×ZI)):=aL fun rec6 ⟨a,b⟩=>if List.isEmpty a=true then(some (.brk b)) else@wg _ _ (Sw (@instDecidableEqList _ (Ty.HJ dG)) (@instDecidableEqProd _ _ instDecidableEqNat (@instDecidableEqProd _ _ instDecidableEqNat (@instDecidableEqList _ (Ty.HJ dG))))) a fun x7 l8=>@wi _ _ (Sw (@instDecidableEqList _ (Ty.HJ dG)) (@instDecidableEqProd _ _ instDecidableEqNat (@instDecidableEqProd _ _ instDecidableEqNat (@instDecidableEqList _ (Ty.HJ dG))))) (List.length b) b fun q9=>if(List.length q9+List.length [x7.1])*32≤aH then(rec6 (l8,ua (gq dG) (q9++[x7.1]))) else none
theorem xZ:∀n u,Le (fO n u) (xr n u):=Le.iter (fun r s hrs u=>by
 split
 try dsimp only
 repeat' first|with_reducible exact Le.refl _|exact hrs _|refine Le.bind ?_ (fun a=>?_)|refine Le.join ?_ (fun a=>?_)|refine Le.ite (fun _=>?_) (fun _=>?_)|refine Le.up ?_ |refine Le.any (fun a l=>?_)|refine Le.perm (fun ys=>?_)|(split;try dsimp only))
theorem RS:∀(n:Nat)(es:ZN)(c:ZI) (o),fO n (es,c)=some o→∃d,o= .brk d:=by
 intro n
 induction n with
 |zero=>intro es c o h;cases h
 |
  succ n ih=>
  intro es c o h
  unfold fO at ih h
  rw[aN] at h
  generalize aL _ n=rec at ih h
  dsimp only at h
  split at h
  ·grind
  ·rename_i hne
   obtain⟨h1,h2⟩:=nC h
   have h0:=h2 0 (List.length_pos_iff.2 h1)
   have h3:=oZ h0 c (List.Perm.refl _)
   grind
def rV(l:Zp)(n:Int)(force:Option ZN)(last:ZI):Option ZI:=
 if decide (n<(l.length:Int)) then some last else (fO (List.length (aY force)+1) (aY force,last)).bind fun r=>match r with
  | .brk x=>some x
  | .ret _=>none
abbrev Yv(l:Zp)(y:YC):ZS:=fun d=>oh l y d.1 d.2.1 d.2.2.1 d.2.2.2.1 d.2.2.2.2.1 d.2.2.2.2.2.1
theorem ID(y:YC){l:Zp}{n:Int}{force:Option ZN}{last amy:ZI}(h:rV l n force last=some amy):
 Yv l y (n,force,y,0,y.gs 1,last,())=some (true,y,0,y.gs 1,amy):=by
 show oh l y n force y 0 (y.gs 1) last=_
 unfold oh
 unfold rV at h
 rw[gk]
 simp only[cj]
 split at h
 ·simp_all[aG]
 ·rename_i hc
  rw[aC hc]
  obtain⟨r,h1,h2⟩:=bind_some h
  obtain⟨d,rfl⟩:=RS _ _ _ _ h1
  cases h2
  rw[xZ _ _ _ h1,aG]
  simp_all
def RU(l:Zp)(known:Option ZD):Nat→Int→ZN→ZI→Option ZI
 |0,_,_,_=>none
 |n+1,v,z,last=>if decide (v<(l.length:Int)) then(if 0≤v then(if v<(l.length:Int) then(if(bT bC (nth bC l v) (aY known))=true then(if(((aQ bC dG (nth bC l v) (aY known)).2).1)=true then(if z.length+1≤aH then
  ((rV l (bq (v+(1:Int))) (some (aX dG (aQ bC dG (nth bC l v) (aY known)) true z)) last).bind fun amy=>RU l known n (bq (v+(1:Int))) (aX dG (aQ bC dG (nth bC l v) (aY known)) true z) amy) else none)
  else((rV l (bq (v+(1:Int))) (some (iU dG (aQ bC dG (nth bC l v) (aY known)) z)) last).bind fun amy=>RU l known n (bq (v+(1:Int))) (iU dG (aQ bC dG (nth bC l v) (aY known)) z) amy))
  else((rV l (bq (v+(1:Int))) (some z) last).bind fun amy=>RU l known n (bq (v+(1:Int))) z amy)) else none) else none) else some last
theorem Vd(
 y:YC) (l:Zp) (known:Option ZD) (q:Zf) (r:bz) (s:Zb) (t u:Int) (v:Bool) (w:Zc) (x:Unit) (y1 z1:Zg) (aa:Zh) (ab:Ze) (ac:Zd):
 ∀(n:Nat)(i:Int)(force:ZN)(last amy:ZI),RU l known n i force last=some amy→
  sJ y.l (Yv l y) n (y.l,known,l,(l.length:Int),i,y,0,y.gs 1,q,r,s,t,u,v,w,x,y1,z1,aa,ab,ac,l,force,last)=some (.brk (y,0,y.gs 1,q,r,s,t,u,v,w,x,y1,z1,aa,ab,ac,l,amy)):=by
 intro n
 induction n with
 |zero=>intro i force last amy h;cases h
 |
  succ n ih=>
  intro i force last amy h
  unfold sJ at ih ⊢
  rw[aN]
  generalize aL _ n=rec at ih ⊢
  dsimp only
  simp only[RU] at h
  split at h
  ·rename_i h1
   split at h
   ·rename_i h2
    split at h
    ·rename_i h3
     rw[aA h1,aA h2,aA h3]
     split at h
     ·rename_i h4
      rw[aA h4]
      split at h
      ·rename_i h5
       rw[aA h5]
       split at h
       ·rename_i h6
        obtain⟨m,e1,e2⟩:=bind_some h
        simp_all[ID]
       grind
      ·rename_i h5
       rw[aC h5]
       obtain⟨m,e1,e2⟩:=bind_some h
       simp_all[ID]
     ·rename_i h4
      rw[aC h4]
      obtain⟨m,e1,e2⟩:=bind_some h
      simp_all[ID]
    grind
   grind
  grind
def Ve(l:Zp)(known:Option ZD):Nat→ZN→List (cM×l7)→ZI→Option ZI
 |0,_,_,_=>none
 |n+1,force,es,last=>if List.isEmpty es=true then((rV l (0:Int) (some force) last).bind fun amy=>RU l known (Int.toNat (l.length:Int)+1) (0:Int) force amy) else wg es fun x m=>if force.length+1≤aH then Ve l known n (aX dG (x.1,(false,())) true force) m last else none
theorem Vf(y:YC)(l:Zp)(known:Option ZD)(q:Zf)(r:bz)(s:Zb)(t u:Int)(v:Bool)(w:Zc)(x:Unit)(y1 z1:Zg)(aa:Zh)(ab:Ze)(ac:Zd):
 ∀(n:Nat)(es:List (cM×l7))(force:ZN)(last amy:ZI),Ve l known n force es last=some amy→
  sK y.l (Yv l y) n (y.l,known,y,0,y.gs 1,last,q,r,s,t,u,v,w,x,y1,z1,aa,ab,ac,l,force,es)=some (y,0,y.gs 1,q,r,s,t,u,v,w,x,y1,z1,aa,ab,ac,l,amy):=by
 intro n
 induction n with
 |zero=>intro es force last amy h;cases h
 |
  succ n ih=>
  intro es force last amy h
  unfold sK at ih ⊢
  rw[aN]
  generalize aL _ n=rec at ih ⊢
  dsimp only
  simp only[Ve] at h
  split at h
  ·rename_i h1
   rw[aA h1,aA rfl]
   obtain⟨m,e1,e2⟩:=bind_some h
   simp_all[ID,Vd,aG]
  ·rename_i h1
   rw[aC h1]
   obtain⟨g1,g2⟩:=nC h
   refine qD g1 fun i hi=>?_<;>grind
def oi(a0:bz)(a1:Zf)(a2:Int)(a3:Int)(a4:Int)(a5:Zp):B8:=
 (fV a0 a1 a2 a3 a4).bind fun⟨a,e,f,g,h,i,j,k,m,b,c,p,n,o⟩=>if !a then none else
 (pI b c e f g h i j k m n o p).bind fun⟨st,b1,c1,e1,f1,g1,h1,i1,j1,k1,m1,n1,o1,p1⟩=>
 (pF b1 c1 e1 f1 g1 h1 i1 j1 k1 m1 n1 o1 p1).bind fun⟨fr,b2,c2,e2,f2,g2,h2,i2,j2,k2,m2,n2,o2,p2⟩=>
 (f58 st fr).bind fun kn=>
 (Ve a5 kn (List.length (aY b2)+1) ([]:ZN) (aY b2) ([]:ZI)).bind fun last=>
 @wi _ _ (@instDecidableEqList _ (Ty.HJ bp)) (List.length last) last fun q=>(BM q).bind fun ys=>
 aI (U:=Zl) (lM (Int.toNat (ys.length:Int)+1) ((ys.length:Int),0,e2,f2,g2,h2,i2,j2,k2,m2,b2,c2,p2,n2,o2,ys,([]:Zl))) fun v=>some v
theorem JG{a0 a1 a2 a3 a4 a5}:Le (oi a0 a1 a2 a3 a4 a5) (Gq a0 a1 a2 a3 a4 a5):=by
 intro r h
 unfold oi at h
 obtain⟨⟨a,e,f,g,h',i,j,k,m,b,c,p,n,o⟩,e22,h⟩:=bind_some h
 unfold Gq
 rw[e22,aM]
 dsimp only at h ⊢
 split at h
 ·cases h
 rename_i ha
 rw[aC ha]
 unfold Gm
 rw[aM]
 dsimp only
 obtain⟨⟨st,b1,c1,e1,f1,g1,h1,i1,j1,k1,m1,n1,o1,p1⟩,e25,h⟩:=bind_some h
 obtain⟨⟨fr,b2,c2,e2,f2,g2,h2,i2,j2,k2,m2,n2,o2,p2⟩,e23,h⟩:=bind_some h
 obtain⟨kn,e58,h⟩:=bind_some h
 obtain⟨last,eV,h⟩:=bind_some h
 rw[qC (r:=.brk (e2,f2,g2,h2,i2,j2,k2,m2,b2,c2,p2,n2,o2,last)),aG]
 ·dsimp only
  exact Le.perm (fun ys=>Le.refl _) r h
 ·intro y
  have key:=Vf y a5 kn e2 f2 g2 h2 i2 j2 k2 m2 b2 c2 p2 n2 o2 _ _ _ _ _ eV
  unfold Gn
  rw[e25,aM]
  dsimp only
  rw[e23,aM]
  dsimp only
  rw[e58,aM]
  erw[key]
  simp_all[gk]
def RW:aZ:=aF G [.tmp 12] 13 [(.val fE),(.val (.slice 8 (.int .i64))),vI,vI,vI,(.val (.slice 32 bC))] [] 123 RR [] (.br (u6 oi))
theorem RX:hS RW:=aZ.sub Vb fun _ _ h=>JG _ h
end Go.Proofs.YtpmlkhjpbjnagaaGreat
