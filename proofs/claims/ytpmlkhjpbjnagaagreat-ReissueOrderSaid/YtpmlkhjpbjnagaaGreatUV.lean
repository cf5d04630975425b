/- part -/
import Derived.Test.YtpmlkhjpbjnagaaGreatF9
import Derived.Test.YtpmlkhjpbjnagaaGreatA5
noncomputable section
namespace Go.Proofs.YtpmlkhjpbjnagaaGreat
open Go.Ax
def fN:Nat→ZN×ZI→Option (cJ ZI (Nat×Nat×ZI)):=aL fun rec6 ⟨a,b⟩=>if List.isEmpty a=true then(some (.brk b)) else@wE _ _ (SE (@instDecidableEqList _ (Ty.HT dJ)) (@instDecidableEqProd _ _ instDecidableEqNat (@instDecidableEqProd _ _ instDecidableEqNat (@instDecidableEqList _ (Ty.HT dJ))))) a fun x7 l8=>@wG _ _ (SE (@instDecidableEqList _ (Ty.HT dJ)) (@instDecidableEqProd _ _ instDecidableEqNat (@instDecidableEqProd _ _ instDecidableEqNat (@instDecidableEqList _ (Ty.HT dJ))))) (List.length b) b fun q9=>if(List.length q9+List.length [x7.1])*32≤aH then(rec6 (l8,uu (gv dJ) (q9++[x7.1]))) else none
theorem yl:∀n u,Le (fN n u) (xI n u):=Le.iter (fun r s hrs u=>by
 split
 try dsimp only
 repeat' first|with_reducible exact Le.refl _|exact hrs _|refine Le.bind ?_ (fun a=>?_)|refine Le.join ?_ (fun a=>?_)|refine Le.ite (fun _=>?_) (fun _=>?_)|refine Le.up ?_ |refine Le.any (fun a l=>?_)|refine Le.perm (fun ys=>?_)|(split;try dsimp only))
theorem R3:∀(n:Nat)(es:ZN)(c:ZI) (o),fN n (es,c)=some o→∃d,o= .brk d:=by
 intro n
 induction n with
 |zero=>intro es c o h;cases h
 |
  succ n ih=>
  intro es c o h
  unfold fN at ih h
  rw[aN] at h
  generalize aL _ n=rec at ih h
  dsimp only at h
  split at h
  ·grind
  ·rename_i hne
   obtain⟨h1,h2⟩:=nT h
   have h0:=h2 0 (List.length_pos_iff.2 h1)
   have h3:=pz h0 c (List.Perm.refl _)
   grind
def rV(l:Zo)(n:Int)(force:Option ZN)(last:ZI):Option ZI:=
 if decide (n<(l.length:Int)) then some last else (fN (List.length (aX force)+1) (aX force,last)).bind fun r=>match r with
  | .brk x=>some x
  | .ret _=>none
abbrev Yv(l:Zo)(y:YC):ZS:=fun d=>oF l y d.1 d.2.1 d.2.2.1 d.2.2.2.1 d.2.2.2.2.1 d.2.2.2.2.2.1
theorem IM(y:YC){l:Zo}{n:Int}{force:Option ZN}{last amr:ZI}(h:rV l n force last=some amr):
 Yv l y (n,force,y,0,y.gs 1,last,())=some (true,y,0,y.gs 1,amr):=by
 show oF l y n force y 0 (y.gs 1) last=_
 unfold oF
 unfold rV at h
 rw[gp]
 simp only[cj]
 split at h
 ·simp_all[aF]
 ·rename_i hc
  rw[aC hc]
  obtain⟨r,h1,h2⟩:=bind_some h
  obtain⟨d,rfl⟩:=R3 _ _ _ _ h1
  cases h2
  rw[yl _ _ _ h1,aF]
  simp_all
def R4(l:Zo)(known:Option ZD):Nat→Int→ZN→ZI→Option ZI
 |0,_,_,_=>none
 |n+1,v,z,last=>if decide (v<(l.length:Int)) then(if 0≤v then(if v<(l.length:Int) then(if(bT bB (nth bB l v) (aX known))=true then(if(((aP bB dJ (nth bB l v) (aX known)).2).1)=true then(if z.length+1≤aH then
  ((rV l (bp (v+(1:Int))) (some (aY dJ (aP bB dJ (nth bB l v) (aX known)) true z)) last).bind fun amr=>R4 l known n (bp (v+(1:Int))) (aY dJ (aP bB dJ (nth bB l v) (aX known)) true z) amr) else none)
  else((rV l (bp (v+(1:Int))) (some (iX dJ (aP bB dJ (nth bB l v) (aX known)) z)) last).bind fun amr=>R4 l known n (bp (v+(1:Int))) (iX dJ (aP bB dJ (nth bB l v) (aX known)) z) amr))
  else((rV l (bp (v+(1:Int))) (some z) last).bind fun amr=>R4 l known n (bp (v+(1:Int))) z amr)) else none) else none) else some last
theorem Vi(
 y:YC) (l:Zo) (known:Option ZD) (q:Ze) (r:bz) (s:Zb) (t u:Int) (v:Bool) (w:Zc) (x:Unit) (y1 z1:Zg) (aa:Zh) (ab:Zf) (ac:Zd):
 ∀(n:Nat)(i:Int)(force:ZN)(last amr:ZI),R4 l known n i force last=some amr→
  sY y.l (Yv l y) n (y.l,known,l,(l.length:Int),i,y,0,y.gs 1,q,r,s,t,u,v,w,x,y1,z1,aa,ab,ac,l,force,last)=some (.brk (y,0,y.gs 1,q,r,s,t,u,v,w,x,y1,z1,aa,ab,ac,l,amr)):=by
 intro n
 induction n with
 |zero=>intro i force last amr h;cases h
 |
  succ n ih=>
  intro i force last amr h
  unfold sY at ih ⊢
  rw[aN]
  generalize aL _ n=rec at ih ⊢
  dsimp only
  simp only[R4] at h
  split at h
  ·rename_i h1
   split at h
   ·rename_i h2
    split at h
    ·rename_i h3
     rw[aA h1,aA h2,aA h3]
     split at h
     ·rename_i h4
      rw[aA h4]
      split at h
      ·rename_i h5
       rw[aA h5]
       split at h
       ·rename_i h6
        obtain⟨m,e1,e2⟩:=bind_some h
        simp_all[IM]
       grind
      ·rename_i h5
       rw[aC h5]
       obtain⟨m,e1,e2⟩:=bind_some h
       simp_all[IM]
     ·rename_i h4
      rw[aC h4]
      obtain⟨m,e1,e2⟩:=bind_some h
      simp_all[IM]
    grind
   grind
  grind
def Vj(l:Zo)(known:Option ZD):Nat→ZN→List (cL×k9)→ZI→Option ZI
 |0,_,_,_=>none
 |n+1,force,es,last=>if List.isEmpty es=true then((rV l (0:Int) (some force) last).bind fun amr=>R4 l known (Int.toNat (l.length:Int)+1) (0:Int) force amr) else wE es fun x m=>if force.length+1≤aH then Vj l known n (aY dJ (x.1,(false,())) true force) m last else none
theorem Vk(y:YC)(l:Zo)(known:Option ZD)(q:Ze)(r:bz)(s:Zb)(t u:Int)(v:Bool)(w:Zc)(x:Unit)(y1 z1:Zg)(aa:Zh)(ab:Zf)(ac:Zd):
 ∀(n:Nat)(es:List (cL×k9))(force:ZN)(last amr:ZI),Vj l known n force es last=some amr→
  sZ y.l (Yv l y) n (y.l,known,y,0,y.gs 1,last,q,r,s,t,u,v,w,x,y1,z1,aa,ab,ac,l,force,es)=some (y,0,y.gs 1,q,r,s,t,u,v,w,x,y1,z1,aa,ab,ac,l,amr):=by
 intro n
 induction n with
 |zero=>intro es force last amr h;cases h
 |
  succ n ih=>
  intro es force last amr h
  unfold sZ at ih ⊢
  rw[aN]
  generalize aL _ n=rec at ih ⊢
  dsimp only
  simp only[Vj] at h
  split at h
  ·rename_i h1
   rw[aA h1,aA rfl]
   obtain⟨m,e1,e2⟩:=bind_some h
   simp_all[IM,Vi,aF]
  ·rename_i h1
   rw[aC h1]
   obtain⟨g1,g2⟩:=nT h
   refine qQ g1 fun i hi=>?_<;>grind
def oG(a0:bz)(a1:Ze)(a2:Int)(a3:Int)(a4:Int)(a5:Zo):Ec:=
 (fv a0 a1 a2 a3 a4).bind fun⟨a,e,f,g,h,i,j,k,m,b,c,p,n,o⟩=>if !a then none else
 (nG b c e f g h i j k m n o p).bind fun⟨st,b1,c1,e1,f1,g1,h1,i1,j1,k1,m1,n1,o1,p1⟩=>
 (nF b1 c1 e1 f1 g1 h1 i1 j1 k1 m1 n1 o1 p1).bind fun⟨fr,b2,c2,e2,f2,g2,h2,i2,j2,k2,m2,n2,o2,p2⟩=>
 (f58 st fr).bind fun kn=>
 (Vj a5 kn (List.length (aX b2)+1) ([]:ZN) (aX b2) ([]:ZI)).bind fun last=>
 @wG _ _ (@instDecidableEqList _ (Ty.HT br)) (List.length last) last fun q=>(B0 q).bind fun ys=>
 aI (U:=Zn) (lY (Int.toNat (ys.length:Int)+1) ((ys.length:Int),0,e2,f2,g2,h2,i2,j2,k2,m2,b2,c2,p2,n2,o2,ys,([]:Zn))) fun v=>some v
theorem JP{a0 a1 a2 a3 a4 a5}:Le (oG a0 a1 a2 a3 a4 a5) (Gz a0 a1 a2 a3 a4 a5):=by
 intro r h
 unfold oG at h
 obtain⟨⟨a,e,f,g,h',i,j,k,m,b,c,p,n,o⟩,e22,h⟩:=bind_some h
 unfold Gz
 rw[e22,aM]
 dsimp only at h ⊢
 split at h
 ·cases h
 rename_i ha
 rw[aC ha]
 unfold Gw
 rw[aM]
 dsimp only
 obtain⟨⟨st,b1,c1,e1,f1,g1,h1,i1,j1,k1,m1,n1,o1,p1⟩,e25,h⟩:=bind_some h
 obtain⟨⟨fr,b2,c2,e2,f2,g2,h2,i2,j2,k2,m2,n2,o2,p2⟩,e23,h⟩:=bind_some h
 obtain⟨kn,e58,h⟩:=bind_some h
 obtain⟨last,eV,h⟩:=bind_some h
 rw[qP (r:=.brk (e2,f2,g2,h2,i2,j2,k2,m2,b2,c2,p2,n2,o2,last)),aF]
 ·dsimp only
  exact Le.perm (fun ys=>Le.refl _) r h
 ·intro y
  have key:=Vk y a5 kn e2 f2 g2 h2 i2 j2 k2 m2 b2 c2 p2 n2 o2 _ _ _ _ _ eV
  unfold Gx
  rw[e25,aM]
  dsimp only
  rw[e23,aM]
  dsimp only
  rw[e58,aM]
  erw[key]
  simp_all[gp]
def R5:aZ:=aG G [.tmp 12] 13 [(.val fF),(.val (.slice 8 (.int .i64))),vI,vI,vI,(.val (.slice 32 bB))] [] 123 R0 [] (.bq (u6 oG))
theorem R6:hS R5:=aZ.sub Vh fun _ _ h=>JP _ h
end Go.Proofs.YtpmlkhjpbjnagaaGreat
