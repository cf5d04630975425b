/- part -/
import Derived.Test.YtpmlkhjpbjnagaaGreatFA
import Derived.Test.YtpmlkhjpbjnagaaGreatA5
noncomputable section
namespace Go.Proofs.YtpmlkhjpbjnagaaGreat
open Go.Ax
def j9:Nat→ZR×Zv→Option (cH Zv (Nat×Nat×Zv)):=aK fun anC ⟨a,b⟩=>if List.isEmpty a=true then(some (.bA b)) else@uW _ _ (Sf (@instDecidableEqList _ (Ty.mf dX)) (@instDecidableEqProd _ _ instDecidableEqNat (@instDecidableEqProd _ _ instDecidableEqNat (@instDecidableEqList _ (Ty.mf dX))))) a fun x7 l8=>@BM _ _ (Sf (@instDecidableEqList _ (Ty.mf dX)) (@instDecidableEqProd _ _ instDecidableEqNat (@instDecidableEqProd _ _ instDecidableEqNat (@instDecidableEqList _ (Ty.mf dX))))) (List.length b) b fun q9=>if(List.length q9+List.length [x7.1])*32≤aG then(anC (l8,Hz (xR dX) (q9++[x7.1]))) else none
theorem xj:∀n u,Le (j9 n u) (wL n u):=Le.iter (fun r s hrs u=>by
 split
 try dsimp only
 repeat' first|with_reducible exact Le.refl _|exact hrs _|refine Le.bind ?_ (fun a=>?_)|refine Le.join ?_ (fun a=>?_)|refine Le.ite (fun _=>?_) (fun _=>?_)|refine Le.up ?_ |refine Le.any (fun a l=>?_)|refine Le.perm (fun ys=>?_)|(split;try dsimp only))
theorem Rw:∀(n:Nat)(es:ZR)(c:Zv) (o),j9 n (es,c)=some o→∃d,o= .bA d:=by
 intro n
 induction n with
 |zero=>intro es c o h;cases h
 |
  succ n ih=>
  intro es c o h
  unfold j9 at ih h
  rw[aN] at h
  generalize aK _ n=rec at ih h
  dsimp only at h
  split at h
  ·cases h;exact⟨c,rfl⟩
  ·rename_i hne
   obtain⟨h1,h2⟩:=nD h
   have h0:=h2 0 (List.length_pos_iff.2 h1)
   have h3:=oP h0 c (List.Perm.refl _)
   split at h3
   ·exact ih _ _ _ h3
   ·cases h3
def rV(l:Zp)(n:Int)(force:Option ZR)(last:Zv):Option Zv:=
 if(decide (n<(List.length l:Int)))=true then some last else Option.bind (j9 (List.length (bE force)+1) (bE force,last)) fun r=>match r with
  | .bA x=>some x
  | .ret _=>none
abbrev Yv(l:Zp)(y:YC):ZZ:=fun d=>nY l y d.1 d.2.1 d.2.2.1 d.2.2.2.1 d.2.2.2.2.1 d.2.2.2.2.2.1
theorem G8(y:YC){l:Zp}{n:Int}{force:Option ZR}{last anv:Zv}(h:rV l n force last=some anv):
 Yv l y (n,force,y,0,y.gs 1,last,())=some (true,y,0,y.gs 1,anv):=by
 show nY l y n force y 0 (y.gs 1) last=_
 unfold nY
 unfold rV at h
 rw[fh]
 simp only[bU]
 split at h
 ·rename_i hc
  cases h
  rw[aA hc,aI]
  simp[Nat.beq]
 ·rename_i hc
  rw[aC hc]
  obtain⟨r,h1,h2⟩:=bind_some h
  obtain⟨d,rfl⟩:=Rw _ _ _ _ h1
  cases h2
  rw[xj _ _ _ h1,aI]
  simp[Nat.beq]
def Wz(l:Zp)(known:Option ZH):Nat→Int→ZR→Zv→Option Zv
 |0,_,_,_=>none
 |n+1,v,z,last=>if(decide (v<(List.length l:Int)))=true then(if 0≤v then(if v<(List.length l:Int) then(if(cC bY (nth bY l v) (bE known))=true then(if(((aQ bY dX (nth bY l v) (bE known)).2).1)=true then(if List.length z+1≤aG then
  (Option.bind (rV l (aZ (v+(1:Int))) (some (bC dX (aQ bY dX (nth bY l v) (bE known)) true z)) last) fun anv=>Wz l known n (aZ (v+(1:Int))) (bC dX (aQ bY dX (nth bY l v) (bE known)) true z) anv) else none)
  else(Option.bind (rV l (aZ (v+(1:Int))) (some (mZ dX (aQ bY dX (nth bY l v) (bE known)) z)) last) fun anv=>Wz l known n (aZ (v+(1:Int))) (mZ dX (aQ bY dX (nth bY l v) (bE known)) z) anv))
  else(Option.bind (rV l (aZ (v+(1:Int))) (some z) last) fun anv=>Wz l known n (aZ (v+(1:Int))) z anv)) else none) else none) else some last
theorem Vv(
 y:YC) (l:Zp) (known:Option ZH) (q:Zg) (r:bL) (s:Zc) (t u:Int) (v:Bool) (w:Zd) (x:Unit) (y1 z1:Zh) (aa:Zi) (ab:Zf) (ac:Ze):
 ∀(n:Nat)(i:Int)(force:ZR)(last anv:Zv),Wz l known n i force last=some anv→
  rX y.l (Yv l y) n (y.l,known,l,(List.length l:Int),i,y,0,y.gs 1,q,r,s,t,u,v,w,x,y1,z1,aa,ab,ac,l,force,last)=some (.bA (y,0,y.gs 1,q,r,s,t,u,v,w,x,y1,z1,aa,ab,ac,l,anv)):=by
 intro n
 induction n with
 |zero=>intro i force last anv h;cases h
 |
  succ n ih=>
  intro i force last anv h
  unfold rX at ih ⊢
  rw[aN]
  generalize aK _ n=rec at ih ⊢
  dsimp only
  simp only[Wz] at h
  split at h
  ·rename_i h1
   split at h
   ·rename_i h2
    split at h
    ·rename_i h3
     rw[aA h1,aA h2,aA h3]
     split at h
     ·rename_i h4
      rw[aA h4]
      split at h
      ·rename_i h5
       rw[aA h5]
       split at h
       ·rename_i h6
        obtain⟨m,e1,e2⟩:=bind_some h
        rw[aA h6,aA rfl,G8 y e1,aL]
        dsimp only
        rw[aC (by decide)]
        exact ih _ _ _ _ e2
       ·cases h
      ·rename_i h5
       rw[aC h5]
       obtain⟨m,e1,e2⟩:=bind_some h
       rw[aA rfl,G8 y e1,aL]
       dsimp only
       rw[aC (by decide)]
       exact ih _ _ _ _ e2
     ·rename_i h4
      rw[aC h4]
      obtain⟨m,e1,e2⟩:=bind_some h
      rw[aA rfl,G8 y e1,aL]
      dsimp only
      rw[aC (by decide)]
      exact ih _ _ _ _ e2
    ·cases h
   ·cases h
  ·rename_i h1
   cases h
   rw[aC h1]
def pV2(l:Zp)(known:Option ZH):Nat→ZR→List (cF×mi)→Zv→Option Zv
 |0,_,_,_=>none
 |n+1,force,es,last=>if List.isEmpty es=true then(Option.bind (rV l (0:Int) (some force) last) fun anv=>Wz l known (Int.toNat (List.length l:Int)+1) (0:Int) force anv) else uW es fun x m=>if List.length force+1≤aG then pV2 l known n (bC dX (x.1,(false,())) true force) m last else none
theorem Vw(y:YC)(l:Zp)(known:Option ZH)(q:Zg)(r:bL)(s:Zc)(t u:Int)(v:Bool)(w:Zd)(x:Unit)(y1 z1:Zh)(aa:Zi)(ab:Zf)(ac:Ze):
 ∀(n:Nat)(es:List (cF×mi))(force:ZR)(last anv:Zv),pV2 l known n force es last=some anv→
  rY y.l (Yv l y) n (y.l,known,y,0,y.gs 1,last,q,r,s,t,u,v,w,x,y1,z1,aa,ab,ac,l,force,es)=some (y,0,y.gs 1,q,r,s,t,u,v,w,x,y1,z1,aa,ab,ac,l,anv):=by
 intro n
 induction n with
 |zero=>intro es force last anv h;cases h
 |
  succ n ih=>
  intro es force last anv h
  unfold rY at ih ⊢
  rw[aN]
  generalize aK _ n=rec at ih ⊢
  dsimp only
  simp only[pV2] at h
  split at h
  ·rename_i h1
   rw[aA h1,aA rfl]
   obtain⟨m,e1,e2⟩:=bind_some h
   rw[G8 y e1,aL]
   dsimp only
   rw[aC (by decide),Vv y l known q r s t u v w x y1 z1 aa ab ac _ _ _ _ _ e2,aI]
  ·rename_i h1
   rw[aC h1]
   obtain⟨g1,g2⟩:=nD h
   refine tO g1 fun i hi=>?_
   have h2:=g2 i hi
   split at h2
   ·rename_i h3
    rw[aA h3]
    exact ih _ _ _ _ h2
   ·cases h2
def uj(a0:bL)(a1:Zg)(a2:Int)(a3:Int)(a4:Int)(a5:Zp):ZV:=
 Option.bind (iF a0 a1 a2 a3 a4) fun⟨a,e,f,g,h,i,j,k,m,b,c,p,n,o⟩=>if(!a)=true then none else
 Option.bind (lL b c e f g h i j k m n o p) fun⟨st,b1,c1,e1,f1,g1,h1,i1,j1,k1,m1,n1,o1,p1⟩=>
 Option.bind (po b1 c1 e1 f1 g1 h1 i1 j1 k1 m1 n1 o1 p1) fun⟨fr,b2,c2,e2,f2,g2,h2,i2,j2,k2,m2,n2,o2,p2⟩=>
 Option.bind (f58 st fr) fun kn=>
 Option.bind (pV2 a5 kn (List.length (bE b2)+1) ([]:ZR) (bE b2) ([]:Zv)) fun last=>
 @BM _ _ (@instDecidableEqList _ (Ty.mf bN)) (List.length last) last fun q=>Option.bind (ER q) fun ys=>
 aH (U:=Zm) (wM (Int.toNat (List.length ys:Int)+1) ((List.length ys:Int),0,e2,f2,g2,h2,i2,j2,k2,m2,b2,c2,p2,n2,o2,ys,([]:Zm))) fun v=>some v
theorem Iu{a0 a1 a2 a3 a4 a5}:Le (uj a0 a1 a2 a3 a4 a5) (ES a0 a1 a2 a3 a4 a5):=by
 intro r h
 unfold uj at h
 obtain⟨⟨a,e,f,g,h',i,j,k,m,b,c,p,n,o⟩,e22,h⟩:=bind_some h
 unfold ES
 rw[e22,aL]
 dsimp only at h ⊢
 split at h
 ·cases h
 rename_i ha
 rw[aC ha]
 unfold EN
 rw[aL]
 dsimp only
 obtain⟨⟨st,b1,c1,e1,f1,g1,h1,i1,j1,k1,m1,n1,o1,p1⟩,e25,h⟩:=bind_some h
 obtain⟨⟨fr,b2,c2,e2,f2,g2,h2,i2,j2,k2,m2,n2,o2,p2⟩,e23,h⟩:=bind_some h
 obtain⟨kn,e58,h⟩:=bind_some h
 obtain⟨last,eV,h⟩:=bind_some h
 rw[nC (r:=.bA (e2,f2,g2,h2,i2,j2,k2,m2,b2,c2,p2,n2,o2,last)),aI]
 ·dsimp only
  exact Le.perm (fun ys=>Le.refl _) r h
 ·intro y
  have key:=Vw y a5 kn e2 f2 g2 h2 i2 j2 k2 m2 b2 c2 p2 n2 o2 _ _ _ _ _ eV
  unfold EO
  rw[e25,aL]
  dsimp only
  rw[e23,aL]
  dsimp only
  rw[e58,aL]
  erw[key]
  rw[aL]
  dsimp only
  rw[fh,aA rfl]
def Rx:aX:=aE G [.tmp 12] 13 [(.val fX),(.val (.slice 8 (.int .i64))),vI,vI,vI,(.val (.slice 32 bY))] [] 123 Rz [] (.bH (u6 uj))
theorem Ry:hS Rx:=aX.sub Vy fun _ _ h=>Iu _ h
end Go.Proofs.YtpmlkhjpbjnagaaGreat
