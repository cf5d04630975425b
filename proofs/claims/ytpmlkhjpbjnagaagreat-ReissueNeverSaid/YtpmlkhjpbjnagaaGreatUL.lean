/- part -/
import Derived.Test.YtpmlkhjpbjnagaaGreatF7
import Derived.Test.YtpmlkhjpbjnagaaGreatA5
noncomputable section
namespace Go.Proofs.YtpmlkhjpbjnagaaGreat
open Go.Ax
abbrev Ix:=Zb
theorem yz(u:Int×Int×bz×Ix×Int×Int×Bool×(Zc)×Unit×(Zf)×(Zd)×(Zh)×cN×Cs×(Zz)):
 ∀(n:Nat)(a:Int)(c:Zz) (o),kE n (u.1,a,u.2.2.1,u.2.2.2.1,u.2.2.2.2.1,u.2.2.2.2.2.1,u.2.2.2.2.2.2.1,u.2.2.2.2.2.2.2.1,u.2.2.2.2.2.2.2.2.1,u.2.2.2.2.2.2.2.2.2.1,u.2.2.2.2.2.2.2.2.2.2.1,u.2.2.2.2.2.2.2.2.2.2.2.1,u.2.2.2.2.2.2.2.2.2.2.2.2.1,u.2.2.2.2.2.2.2.2.2.2.2.2.2.1,c)=some o→
  ∃w,o= .brk (u.2.2.1,u.2.2.2.1,u.2.2.2.2.1,u.2.2.2.2.2.1,u.2.2.2.2.2.2.1,u.2.2.2.2.2.2.2.1,u.2.2.2.2.2.2.2.2.1,u.2.2.2.2.2.2.2.2.2.1,u.2.2.2.2.2.2.2.2.2.2.1,u.2.2.2.2.2.2.2.2.2.2.2.1,u.2.2.2.2.2.2.2.2.2.2.2.2.2.1,w):=by
 intro n
 induction n with
 |zero=>intro a c o h;cases h
 |
  succ n ih=>
  intro a c o h
  unfold kE at ih h
  rw[aN] at h
  generalize aL _ n=rec at ih h
  simp only at h
  split at h
  ·split at h
   ·exact ih _ _ _ h
   grind
  ·cases h<;>grind
theorem Cu{a0:cN}{a1:bz}{a2:Ix}{a3:Int}{a4:Int}{a5:Bool}{a6:Zc}{a7:Unit}{a8:Zf}{a9:Zd}{a10:Zh}{r}
 (h:gG a0 a1 a2 a3 a4 a5 a6 a7 a8 a9 a10=some r):∃w,r=(a1,a2,a3,a4,a5,a6,a7,a8,a9,a10,w):=by
 unfold gG at h
 rcases FA h with⟨d,hd,h⟩|hd
 ·have key:∃k w,d=(a1,a2,a3,a4,a5,a6,a7,a8,a9,a10,k,w):=by
   obtain⟨v2,_,hd⟩:=bind_some hd
   split at hd
   ·split at hd
    ·split at hd
     ·obtain⟨w,e⟩:=yz ((List.length ((((((nth bF a1.1.1.2.2.1 a0.1).2).2).2).2).1):Int),0,a1,a2,a3,a4,a5,a6,a7,a8,a9,a10,a0,a1.1,[]) _ 0 [] _ hd
      simp_all
     grind
    grind
   ·cases hd<;>grind
  obtain⟨k,w,rfl⟩:=key
  grind
 ·obtain⟨v2,_,hd⟩:=bind_some hd
  split at hd
  ·split at hd
   ·split at hd
    ·obtain⟨w,e⟩:=yz ((List.length ((((((nth bF a1.1.1.2.2.1 a0.1).2).2).2).2).1):Int),0,a1,a2,a3,a4,a5,a6,a7,a8,a9,a10,a0,a1.1,[]) _ 0 [] _ hd
     cases e
    grind
   grind
  grind
def lkC:type_of% jg:=fun q0 q1 a0 a1 a2 a3 a4 a5 a6 a7 a8 a9 a10=>
 if(
  bT aK a0 a8)=true then jg q0 q1 a0 a1 a2 a3 a4 a5 a6 a7 a8 a9 a10 else if(aP (.int .i64) .bool a0.1 (aX a6))=true then jg q0 q1 a0 a1 a2 a3 a4 a5 a6 a7 a8 a9 a10 else
  (gG a0 a1 a2 a3 a4 a5 a6 a7 a8 a9 a10).bind fun⟨_,_,_,_,_,_,_,_,_,_,k⟩=>(f87 k a0.1 a0.2.1 a0.2.2.1 a3 a4).bind fun⟨n,m,l⟩=>(nF l).bind fun y4=>
   (im a10 y4 a1 a2 a3 a4 a5 a6 a7 a8 a9).bind fun⟨_,z,aa,ab,ac,ad,ae,af,y,ak,al⟩=>
    if y.length+1≤aH then(some (z,aa,ab,ac,ad,ae,af,aZ aK a0 (m,((0:Int),(([]:Zl),(n,())))) y,ak,(m,((0:Int),(([]:Zl),(n,())))),al)) else none
theorem TA:∀q0 q1 a0 a1 a2 a3 a4 a5 a6 a7 a8 a9 a10,lkC q0 q1 a0 a1 a2 a3 a4 a5 a6 a7 a8 a9 a10=jg q0 q1 a0 a1 a2 a3 a4 a5 a6 a7 a8 a9 a10:=by
 intro q0 q1 a0 a1 a2 a3 a4 a5 a6 a7 a8 a9 a10
 unfold lkC
 by_cases h1:bT aK a0 a8=true
 ·grind
 ·rw[aC h1]
  by_cases h2:aP (.int .i64) .bool a0.1 (aX a6)=true
  ·grind
  ·rw[aC h2]
   unfold jg
   rw[aC h1,aC h2]
   cases hb:gG a0 a1 a2 a3 a4 a5 a6 a7 a8 a9 a10 with
   |none=>rfl
   |
    some x=>
    obtain⟨w,rfl⟩:=Cu hb
    simp only[aM,iJ]
    cases h10:f87 w a0.1 a0.2.1 a0.2.2.1 a3 a4 with
    |none=>rfl
    |
     some x=>
     simp only[aM]
     cases h4:nF x.2.2 with
     |none=>rfl
     |
      some y4=>
      simp only[aM]
      cases h3:im a10 y4 a1 a2 a3 a4 a5 a6 a7 a8 a9 with
      |none=>rfl
      |some z=>trivial
abbrev LA0:=cN×bz×Ix×Int×Int×Bool×(Zc)×Unit×(Zf)×(Zd)×(Zh)×Unit
abbrev LK0:=LA0→Option (bz×Ix×Int×Int×Bool×(Zc)×Unit×(Zf)×(Zd)×N6×(Zh))
abbrev LA1:=dt×Int×(Zl)×bz×Ix×Int×Int×Bool×(Zc)×Unit×(Zf)×(Zd)×(Zh)×Unit
abbrev LK1:=LA1→Option (Bool×dt×Int×bz×Ix×Int×Int×Bool×(Zc)×Unit×(Zf)×(Zd)×(Zl)×(Zh))
def gC:Nat→LK0×LK1:=@Nat.rec (fun _=>LK0×LK1) (fun _=>none,fun _=>none) (fun _ ih=>(fun d=>lkC ih.1 ih.2 d.1 d.2.1 d.2.2.1 d.2.2.2.1 d.2.2.2.2.1 d.2.2.2.2.2.1 d.2.2.2.2.2.2.1 d.2.2.2.2.2.2.2.1 d.2.2.2.2.2.2.2.2.1 d.2.2.2.2.2.2.2.2.2.1 d.2.2.2.2.2.2.2.2.2.2.1,fun d=>jy ih.1 ih.2 d.1 d.2.1 d.2.2.1 d.2.2.2.1 d.2.2.2.2.1 d.2.2.2.2.2.1 d.2.2.2.2.2.2.1 d.2.2.2.2.2.2.2.1 d.2.2.2.2.2.2.2.2.1 d.2.2.2.2.2.2.2.2.2.1 d.2.2.2.2.2.2.2.2.2.2.1 d.2.2.2.2.2.2.2.2.2.2.2.1 d.2.2.2.2.2.2.2.2.2.2.2.2.1))
theorem SO(n:Nat):gC n=fc n:=by
 induction n with
 |zero=>rfl
 |
  succ n ih=>
  show((fun d:LA0=>lkC (gC n).1 (gC n).2 d.1 d.2.1 d.2.2.1 d.2.2.2.1 d.2.2.2.2.1 d.2.2.2.2.2.1 d.2.2.2.2.2.2.1 d.2.2.2.2.2.2.2.1 d.2.2.2.2.2.2.2.2.1 d.2.2.2.2.2.2.2.2.2.1 d.2.2.2.2.2.2.2.2.2.2.1),(fun d:LA1=>jy (gC n).1 (gC n).2 d.1 d.2.1 d.2.2.1 d.2.2.2.1 d.2.2.2.2.1 d.2.2.2.2.2.1 d.2.2.2.2.2.2.1 d.2.2.2.2.2.2.2.1 d.2.2.2.2.2.2.2.2.1 d.2.2.2.2.2.2.2.2.2.1 d.2.2.2.2.2.2.2.2.2.2.1 d.2.2.2.2.2.2.2.2.2.2.2.1 d.2.2.2.2.2.2.2.2.2.2.2.2.1))=((fun d:LA0=>jg (fc n).1 (fc n).2 d.1 d.2.1 d.2.2.1 d.2.2.2.1 d.2.2.2.2.1 d.2.2.2.2.2.1 d.2.2.2.2.2.2.1 d.2.2.2.2.2.2.2.1 d.2.2.2.2.2.2.2.2.1 d.2.2.2.2.2.2.2.2.2.1 d.2.2.2.2.2.2.2.2.2.2.1),(fun d:LA1=>jy (fc n).1 (fc n).2 d.1 d.2.1 d.2.2.1 d.2.2.2.1 d.2.2.2.2.1 d.2.2.2.2.2.1 d.2.2.2.2.2.2.1 d.2.2.2.2.2.2.2.1 d.2.2.2.2.2.2.2.2.1 d.2.2.2.2.2.2.2.2.2.1 d.2.2.2.2.2.2.2.2.2.2.1 d.2.2.2.2.2.2.2.2.2.2.2.1 d.2.2.2.2.2.2.2.2.2.2.2.2.1))
  grind [TA]
def dO(a0:cN)(a1:bz)(a2:Ix)(a3:Int)(a4:Int)(a5:Bool)(a6:Zc)(a7:Unit)(a8:Zf)(a9:Zd)(a10:Zh):Option (bz×Ix×Int×Int×Bool×(Zc)×Unit×(Zf)×(Zd)×N6×(Zh)):=
 if(
  bT aK a0 a8)=true then lZ a0 a1 a2 a3 a4 a5 a6 a7 a8 a9 a10 else if(aP (.int .i64) .bool a0.1 (aX a6))=true then(gC iB).1 (a0,a1,a2,a3,a4,a5,a6,a7,a8,a9,a10,()) else
  (gG a0 a1 a2 a3 a4 a5 a6 a7 a8 a9 a10).bind fun⟨_,_,_,_,_,_,_,_,_,_,k⟩=>(f87 k a0.1 a0.2.1 a0.2.2.1 a3 a4).bind fun⟨n,m,l⟩=>(nF l).bind fun y4=>
   (im a10 y4 a1 a2 a3 a4 a5 a6 a7 a8 a9).bind fun⟨_,z,aa,ab,ac,ad,ae,af,y,ak,al⟩=>
    if y.length+1≤aH then(some (z,aa,ab,ac,ad,ae,af,aZ aK a0 (m,((0:Int),(([]:Zl),(n,())))) y,ak,(m,((0:Int),(([]:Zl),(n,())))),al)) else none
theorem Kr{a0:cN}{a1:bz}{a2:Ix}{a3:Int}{a4:Int}{a5:Bool}{a6:Zc}{a7:Unit}{a8:Zf}{a9:Zd}{a10:Zh}{r}
 (h:dO a0 a1 a2 a3 a4 a5 a6 a7 a8 a9 a10=some r):lZ a0 a1 a2 a3 a4 a5 a6 a7 a8 a9 a10=some r:=by
 unfold dO at h
 split at h
 ·exact h
 ·rename_i h1
  split at h
  ·rw[SO] at h
   exact h
  ·have e:lZ a0 a1 a2 a3 a4 a5 a6 a7 a8 a9 a10=jg (fc 18446744073709551615).1 (fc 18446744073709551615).2 a0 a1 a2 a3 a4 a5 a6 a7 a8 a9 a10:=rfl
   rw[e]
   unfold jg
   rw[aC h1]
   rename_i h2
   rw[aC h2]
   cases hb:gG a0 a1 a2 a3 a4 a5 a6 a7 a8 a9 a10 with
   |none=>grind
   |
    some x=>
    obtain⟨w,rfl⟩:=Cu hb
    rw[hb] at h
    simp only[aM,iJ] at h ⊢
    cases h10:f87 w a0.1 a0.2.1 a0.2.2.1 a3 a4 with
    |none=>grind
    |
     some x=>
     rw[h10] at h
     simp only[aM] at h ⊢
     cases h4:nF x.2.2 with
     |none=>grind
     |
      some y4=>
      rw[h4] at h
      simp only[aM] at h ⊢
      cases h3:im a10 y4 a1 a2 a3 a4 a5 a6 a7 a8 a9 with
      |none=>grind
      |
       some z=>
       grind [aG]
def Ks:bh:=aF G [.cell 4 79] 62 [(pP 0),(.val aK)] [(0,(fB 1 2 3)),(1,(.map aK eF)),(2,(.map aR .bool)),(3,(.row 110 40 aR))] 115 EA [0,1,2,93] (.br (Nr dO))
theorem Cv:hS Ks:=bh.sub Si fun _ _ h=>Kr h
end Go.Proofs.YtpmlkhjpbjnagaaGreat
