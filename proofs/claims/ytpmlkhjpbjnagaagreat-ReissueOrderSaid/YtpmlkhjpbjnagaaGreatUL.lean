/- part -/
import Derived.Test.YtpmlkhjpbjnagaaGreatF7
import Derived.Test.YtpmlkhjpbjnagaaGreatA5
noncomputable section
namespace Go.Proofs.YtpmlkhjpbjnagaaGreat
open Go.Ax
abbrev Ix:=Zb
theorem yq(u:Int×Int×bz×Ix×Int×Int×Bool×(Zc)×Unit×(Zf)×(Zd)×(Zh)×cL×Cj×(Zz)):
 ∀(n:Nat)(a:Int)(c:Zz) (o),kA n (u.1,a,u.2.2.1,u.2.2.2.1,u.2.2.2.2.1,u.2.2.2.2.2.1,u.2.2.2.2.2.2.1,u.2.2.2.2.2.2.2.1,u.2.2.2.2.2.2.2.2.1,u.2.2.2.2.2.2.2.2.2.1,u.2.2.2.2.2.2.2.2.2.2.1,u.2.2.2.2.2.2.2.2.2.2.2.1,u.2.2.2.2.2.2.2.2.2.2.2.2.1,u.2.2.2.2.2.2.2.2.2.2.2.2.2.1,c)=some o→
  ∃w,o= .brk (u.2.2.1,u.2.2.2.1,u.2.2.2.2.1,u.2.2.2.2.2.1,u.2.2.2.2.2.2.1,u.2.2.2.2.2.2.2.1,u.2.2.2.2.2.2.2.2.1,u.2.2.2.2.2.2.2.2.2.1,u.2.2.2.2.2.2.2.2.2.2.1,u.2.2.2.2.2.2.2.2.2.2.2.1,u.2.2.2.2.2.2.2.2.2.2.2.2.2.1,w):=by
 intro n
 induction n with
 |zero=>intro a c o h;cases h
 |
  succ n ih=>
  intro a c o h
  unfold kA at ih h
  rw[aN] at h
  generalize aL _ n=rec at ih h
  simp only at h
  split at h
  ·split at h
   ·exact ih _ _ _ h
   grind
  ·cases h<;>grind
theorem Ck{a0:cL}{a1:bz}{a2:Ix}{a3:Int}{a4:Int}{a5:Bool}{a6:Zc}{a7:Unit}{a8:Zf}{a9:Zd}{a10:Zh}{r}
 (h:gB a0 a1 a2 a3 a4 a5 a6 a7 a8 a9 a10=some r):∃w,r=(a1,a2,a3,a4,a5,a6,a7,a8,a9,a10,w):=by
 unfold gB at h
 rcases Fj h with⟨d,hd,h⟩|hd
 ·have key:∃k w,d=(a1,a2,a3,a4,a5,a6,a7,a8,a9,a10,k,w):=by
   obtain⟨v2,_,hd⟩:=bind_some hd
   split at hd
   ·split at hd
    ·split at hd
     ·obtain⟨w,e⟩:=yq ((List.length ((((((nth bF a1.1.1.2.2.1 a0.1).2).2).2).2).1):Int),0,a1,a2,a3,a4,a5,a6,a7,a8,a9,a10,a0,a1.1,[]) _ 0 [] _ hd
      simp_all
     grind
    grind
   ·cases hd<;>grind
  obtain⟨k,w,rfl⟩:=key
  grind
 ·obtain⟨v2,_,hd⟩:=bind_some hd
  split at hd
  ·split at hd
   ·split at hd
    ·obtain⟨w,e⟩:=yq ((List.length ((((((nth bF a1.1.1.2.2.1 a0.1).2).2).2).2).1):Int),0,a1,a2,a3,a4,a5,a6,a7,a8,a9,a10,a0,a1.1,[]) _ 0 [] _ hd
     cases e
    grind
   grind
  grind
def lkC:type_of% je:=fun q0 q1 a0 a1 a2 a3 a4 a5 a6 a7 a8 a9 a10=>
 if(
  bT aJ a0 a8)=true then je q0 q1 a0 a1 a2 a3 a4 a5 a6 a7 a8 a9 a10 else if(aP (.int .i64) .bool a0.1 (aX a6))=true then je q0 q1 a0 a1 a2 a3 a4 a5 a6 a7 a8 a9 a10 else
  (gB a0 a1 a2 a3 a4 a5 a6 a7 a8 a9 a10).bind fun⟨_,_,_,_,_,_,_,_,_,_,k⟩=>(f87 k a0.1 a0.2.1 a0.2.2.1 a3 a4).bind fun⟨n,m,l⟩=>(nC l).bind fun y4=>
   (ik a10 y4 a1 a2 a3 a4 a5 a6 a7 a8 a9).bind fun⟨_,z,aa,ab,ac,ad,ae,af,y,ak,al⟩=>
    if y.length+1≤aH then(some (z,aa,ab,ac,ad,ae,af,aY aJ a0 (m,((0:Int),(([]:Zn),(n,())))) y,ak,(m,((0:Int),(([]:Zn),(n,())))),al)) else none
theorem S8:∀q0 q1 a0 a1 a2 a3 a4 a5 a6 a7 a8 a9 a10,lkC q0 q1 a0 a1 a2 a3 a4 a5 a6 a7 a8 a9 a10=je q0 q1 a0 a1 a2 a3 a4 a5 a6 a7 a8 a9 a10:=by
 intro q0 q1 a0 a1 a2 a3 a4 a5 a6 a7 a8 a9 a10
 unfold lkC
 by_cases h1:bT aJ a0 a8=true
 ·grind
 ·rw[aC h1]
  by_cases h2:aP (.int .i64) .bool a0.1 (aX a6)=true
  ·grind
  ·rw[aC h2]
   unfold je
   rw[aC h1,aC h2]
   cases hb:gB a0 a1 a2 a3 a4 a5 a6 a7 a8 a9 a10 with
   |none=>rfl
   |
    some x=>
    obtain⟨w,rfl⟩:=Ck hb
    simp only[aM,iG]
    cases h10:f87 w a0.1 a0.2.1 a0.2.2.1 a3 a4 with
    |none=>rfl
    |
     some x=>
     simp only[aM]
     cases h4:nC x.2.2 with
     |none=>rfl
     |
      some y4=>
      simp only[aM]
      cases h3:ik a10 y4 a1 a2 a3 a4 a5 a6 a7 a8 a9 with
      |none=>rfl
      |some z=>trivial
abbrev LA0:=cL×bz×Ix×Int×Int×Bool×(Zc)×Unit×(Zf)×(Zd)×(Zh)×Unit
abbrev LK0:=LA0→Option (bz×Ix×Int×Int×Bool×(Zc)×Unit×(Zf)×(Zd)×MV×(Zh))
abbrev LA1:=dr×Int×(Zn)×bz×Ix×Int×Int×Bool×(Zc)×Unit×(Zf)×(Zd)×(Zh)×Unit
abbrev LK1:=LA1→Option (Bool×dr×Int×bz×Ix×Int×Int×Bool×(Zc)×Unit×(Zf)×(Zd)×(Zn)×(Zh))
def gC:Nat→LK0×LK1:=@Nat.rec (fun _=>LK0×LK1) (fun _=>none,fun _=>none) (fun _ ih=>(fun d=>lkC ih.1 ih.2 d.1 d.2.1 d.2.2.1 d.2.2.2.1 d.2.2.2.2.1 d.2.2.2.2.2.1 d.2.2.2.2.2.2.1 d.2.2.2.2.2.2.2.1 d.2.2.2.2.2.2.2.2.1 d.2.2.2.2.2.2.2.2.2.1 d.2.2.2.2.2.2.2.2.2.2.1,fun d=>jv ih.1 ih.2 d.1 d.2.1 d.2.2.1 d.2.2.2.1 d.2.2.2.2.1 d.2.2.2.2.2.1 d.2.2.2.2.2.2.1 d.2.2.2.2.2.2.2.1 d.2.2.2.2.2.2.2.2.1 d.2.2.2.2.2.2.2.2.2.1 d.2.2.2.2.2.2.2.2.2.2.1 d.2.2.2.2.2.2.2.2.2.2.2.1 d.2.2.2.2.2.2.2.2.2.2.2.2.1))
theorem Si(n:Nat):gC n=eW n:=by
 induction n with
 |zero=>rfl
 |
  succ n ih=>
  show((fun d:LA0=>lkC (gC n).1 (gC n).2 d.1 d.2.1 d.2.2.1 d.2.2.2.1 d.2.2.2.2.1 d.2.2.2.2.2.1 d.2.2.2.2.2.2.1 d.2.2.2.2.2.2.2.1 d.2.2.2.2.2.2.2.2.1 d.2.2.2.2.2.2.2.2.2.1 d.2.2.2.2.2.2.2.2.2.2.1),(fun d:LA1=>jv (gC n).1 (gC n).2 d.1 d.2.1 d.2.2.1 d.2.2.2.1 d.2.2.2.2.1 d.2.2.2.2.2.1 d.2.2.2.2.2.2.1 d.2.2.2.2.2.2.2.1 d.2.2.2.2.2.2.2.2.1 d.2.2.2.2.2.2.2.2.2.1 d.2.2.2.2.2.2.2.2.2.2.1 d.2.2.2.2.2.2.2.2.2.2.2.1 d.2.2.2.2.2.2.2.2.2.2.2.2.1))=((fun d:LA0=>je (eW n).1 (eW n).2 d.1 d.2.1 d.2.2.1 d.2.2.2.1 d.2.2.2.2.1 d.2.2.2.2.2.1 d.2.2.2.2.2.2.1 d.2.2.2.2.2.2.2.1 d.2.2.2.2.2.2.2.2.1 d.2.2.2.2.2.2.2.2.2.1 d.2.2.2.2.2.2.2.2.2.2.1),(fun d:LA1=>jv (eW n).1 (eW n).2 d.1 d.2.1 d.2.2.1 d.2.2.2.1 d.2.2.2.2.1 d.2.2.2.2.2.1 d.2.2.2.2.2.2.1 d.2.2.2.2.2.2.2.1 d.2.2.2.2.2.2.2.2.1 d.2.2.2.2.2.2.2.2.2.1 d.2.2.2.2.2.2.2.2.2.2.1 d.2.2.2.2.2.2.2.2.2.2.2.1 d.2.2.2.2.2.2.2.2.2.2.2.2.1))
  grind [S8]
def dD(a0:cL)(a1:bz)(a2:Ix)(a3:Int)(a4:Int)(a5:Bool)(a6:Zc)(a7:Unit)(a8:Zf)(a9:Zd)(a10:Zh):Option (bz×Ix×Int×Int×Bool×(Zc)×Unit×(Zf)×(Zd)×MV×(Zh)):=
 if(
  bT aJ a0 a8)=true then lV a0 a1 a2 a3 a4 a5 a6 a7 a8 a9 a10 else if(aP (.int .i64) .bool a0.1 (aX a6))=true then(gC iZ).1 (a0,a1,a2,a3,a4,a5,a6,a7,a8,a9,a10,()) else
  (gB a0 a1 a2 a3 a4 a5 a6 a7 a8 a9 a10).bind fun⟨_,_,_,_,_,_,_,_,_,_,k⟩=>(f87 k a0.1 a0.2.1 a0.2.2.1 a3 a4).bind fun⟨n,m,l⟩=>(nC l).bind fun y4=>
   (ik a10 y4 a1 a2 a3 a4 a5 a6 a7 a8 a9).bind fun⟨_,z,aa,ab,ac,ad,ae,af,y,ak,al⟩=>
    if y.length+1≤aH then(some (z,aa,ab,ac,ad,ae,af,aY aJ a0 (m,((0:Int),(([]:Zn),(n,())))) y,ak,(m,((0:Int),(([]:Zn),(n,())))),al)) else none
theorem Kc{a0:cL}{a1:bz}{a2:Ix}{a3:Int}{a4:Int}{a5:Bool}{a6:Zc}{a7:Unit}{a8:Zf}{a9:Zd}{a10:Zh}{r}
 (h:dD a0 a1 a2 a3 a4 a5 a6 a7 a8 a9 a10=some r):lV a0 a1 a2 a3 a4 a5 a6 a7 a8 a9 a10=some r:=by
 unfold dD at h
 split at h
 ·exact h
 ·rename_i h1
  split at h
  ·rw[Si] at h
   exact h
  ·have e:lV a0 a1 a2 a3 a4 a5 a6 a7 a8 a9 a10=je (eW 18446744073709551615).1 (eW 18446744073709551615).2 a0 a1 a2 a3 a4 a5 a6 a7 a8 a9 a10:=rfl
   rw[e]
   unfold je
   rw[aC h1]
   rename_i h2
   rw[aC h2]
   cases hb:gB a0 a1 a2 a3 a4 a5 a6 a7 a8 a9 a10 with
   |none=>grind
   |
    some x=>
    obtain⟨w,rfl⟩:=Ck hb
    rw[hb] at h
    simp only[aM,iG] at h ⊢
    cases h10:f87 w a0.1 a0.2.1 a0.2.2.1 a3 a4 with
    |none=>grind
    |
     some x=>
     rw[h10] at h
     simp only[aM] at h ⊢
     cases h4:nC x.2.2 with
     |none=>grind
     |
      some y4=>
      rw[h4] at h
      simp only[aM] at h ⊢
      cases h3:ik a10 y4 a1 a2 a3 a4 a5 a6 a7 a8 a9 with
      |none=>grind
      |
       some z=>
       grind [aF]
def Kd:aZ:=aG G [.cell 4 79] 62 [(pP 0),(.val aJ)] [(0,(fB 1 2 3)),(1,(.map aJ eE)),(2,(.map aR .bool)),(3,(.row 110 40 aR))] 115 Er [0,1,2,93] (.bq (MW dD))
theorem vD:hS Kd:=aZ.sub RJ fun _ _ h=>Kc h
end Go.Proofs.YtpmlkhjpbjnagaaGreat
