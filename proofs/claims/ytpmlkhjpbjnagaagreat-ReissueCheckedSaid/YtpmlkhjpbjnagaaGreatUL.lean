/- part -/
import Derived.Test.YtpmlkhjpbjnagaaGreatF7
import Derived.Test.YtpmlkhjpbjnagaaGreatA5
noncomputable section
namespace Go.Proofs.YtpmlkhjpbjnagaaGreat
open Go.Ax
abbrev Ix:=Zb
theorem ye(u:Int×Int×bz×Ix×Int×Int×Bool×(Zc)×Unit×(Ze)×(Zd)×(Zh)×cM×B7×(Zz)):
 ∀(n:Nat)(a:Int)(c:Zz) (o),kv n (u.1,a,u.2.2.1,u.2.2.2.1,u.2.2.2.2.1,u.2.2.2.2.2.1,u.2.2.2.2.2.2.1,u.2.2.2.2.2.2.2.1,u.2.2.2.2.2.2.2.2.1,u.2.2.2.2.2.2.2.2.2.1,u.2.2.2.2.2.2.2.2.2.2.1,u.2.2.2.2.2.2.2.2.2.2.2.1,u.2.2.2.2.2.2.2.2.2.2.2.2.1,u.2.2.2.2.2.2.2.2.2.2.2.2.2.1,c)=some o→
  ∃w,o= .brk (u.2.2.1,u.2.2.2.1,u.2.2.2.2.1,u.2.2.2.2.2.1,u.2.2.2.2.2.2.1,u.2.2.2.2.2.2.2.1,u.2.2.2.2.2.2.2.2.1,u.2.2.2.2.2.2.2.2.2.1,u.2.2.2.2.2.2.2.2.2.2.1,u.2.2.2.2.2.2.2.2.2.2.2.1,u.2.2.2.2.2.2.2.2.2.2.2.2.2.1,w):=by
 intro n
 induction n with
 |zero=>intro a c o h;cases h
 |
  succ n ih=>
  intro a c o h
  unfold kv at ih h
  rw[aN] at h
  generalize aL _ n=rec at ih h
  simp only at h
  split at h
  ·split at h
   ·exact ih _ _ _ h
   grind
  ·cases h<;>grind
theorem B9{a0:cM}{a1:bz}{a2:Ix}{a3:Int}{a4:Int}{a5:Bool}{a6:Zc}{a7:Unit}{a8:Ze}{a9:Zd}{a10:Zh}{r}
 (h:gz a0 a1 a2 a3 a4 a5 a6 a7 a8 a9 a10=some r):∃w,r=(a1,a2,a3,a4,a5,a6,a7,a8,a9,a10,w):=by
 unfold gz at h
 rcases E6 h with⟨d,hd,h⟩|hd
 ·have key:∃k w,d=(a1,a2,a3,a4,a5,a6,a7,a8,a9,a10,k,w):=by
   obtain⟨v2,_,hd⟩:=bind_some hd
   split at hd
   ·split at hd
    ·split at hd
     ·obtain⟨w,e⟩:=ye ((List.length ((((((nth bF a1.1.1.2.2.1 a0.1).2).2).2).2).1):Int),0,a1,a2,a3,a4,a5,a6,a7,a8,a9,a10,a0,a1.1,[]) _ 0 [] _ hd
      simp_all
     grind
    grind
   ·cases hd<;>grind
  obtain⟨k,w,rfl⟩:=key
  grind
 ·obtain⟨v2,_,hd⟩:=bind_some hd
  split at hd
  ·split at hd
   ·split at hd
    ·obtain⟨w,e⟩:=ye ((List.length ((((((nth bF a1.1.1.2.2.1 a0.1).2).2).2).2).1):Int),0,a1,a2,a3,a4,a5,a6,a7,a8,a9,a10,a0,a1.1,[]) _ 0 [] _ hd
     cases e
    grind
   grind
  grind
def lkC:type_of% i7:=fun q0 q1 a0 a1 a2 a3 a4 a5 a6 a7 a8 a9 a10=>
 if(
  bT aK a0 a8)=true then i7 q0 q1 a0 a1 a2 a3 a4 a5 a6 a7 a8 a9 a10 else if(aQ (.int .i64) .bool a0.1 (aY a6))=true then i7 q0 q1 a0 a1 a2 a3 a4 a5 a6 a7 a8 a9 a10 else
  (gz a0 a1 a2 a3 a4 a5 a6 a7 a8 a9 a10).bind fun⟨_,_,_,_,_,_,_,_,_,_,k⟩=>(f87 k a0.1 a0.2.1 a0.2.2.1 a3 a4).bind fun⟨n,m,l⟩=>(nj l).bind fun y4=>
   (ia a10 y4 a1 a2 a3 a4 a5 a6 a7 a8 a9).bind fun⟨_,z,aa,ab,ac,ad,ae,af,y,ak,al⟩=>
    if y.length+1≤aH then(some (z,aa,ab,ac,ad,ae,af,aX aK a0 (m,((0:Int),(([]:Zl),(n,())))) y,ak,(m,((0:Int),(([]:Zl),(n,())))),al)) else none
theorem S3:∀q0 q1 a0 a1 a2 a3 a4 a5 a6 a7 a8 a9 a10,lkC q0 q1 a0 a1 a2 a3 a4 a5 a6 a7 a8 a9 a10=i7 q0 q1 a0 a1 a2 a3 a4 a5 a6 a7 a8 a9 a10:=by
 intro q0 q1 a0 a1 a2 a3 a4 a5 a6 a7 a8 a9 a10
 unfold lkC
 by_cases h1:bT aK a0 a8=true
 ·grind
 ·rw[aC h1]
  by_cases h2:aQ (.int .i64) .bool a0.1 (aY a6)=true
  ·grind
  ·rw[aC h2]
   unfold i7
   rw[aC h1,aC h2]
   cases hb:gz a0 a1 a2 a3 a4 a5 a6 a7 a8 a9 a10 with
   |none=>rfl
   |
    some x=>
    obtain⟨w,rfl⟩:=B9 hb
    simp only[aM,iF]
    cases h10:f87 w a0.1 a0.2.1 a0.2.2.1 a3 a4 with
    |none=>rfl
    |
     some x=>
     simp only[aM]
     cases h4:nj x.2.2 with
     |none=>rfl
     |
      some y4=>
      simp only[aM]
      cases h3:ia a10 y4 a1 a2 a3 a4 a5 a6 a7 a8 a9 with
      |none=>rfl
      |some z=>trivial
abbrev LA0:=cM×bz×Ix×Int×Int×Bool×(Zc)×Unit×(Ze)×(Zd)×(Zh)×Unit
abbrev LK0:=LA0→Option (bz×Ix×Int×Int×Bool×(Zc)×Unit×(Ze)×(Zd)×NG×(Zh))
abbrev LA1:=dn×Int×(Zl)×bz×Ix×Int×Int×Bool×(Zc)×Unit×(Ze)×(Zd)×(Zh)×Unit
abbrev LK1:=LA1→Option (Bool×dn×Int×bz×Ix×Int×Int×Bool×(Zc)×Unit×(Ze)×(Zd)×(Zl)×(Zh))
def gC:Nat→LK0×LK1:=@Nat.rec (fun _=>LK0×LK1) (fun _=>none,fun _=>none) (fun _ ih=>(fun d=>lkC ih.1 ih.2 d.1 d.2.1 d.2.2.1 d.2.2.2.1 d.2.2.2.2.1 d.2.2.2.2.2.1 d.2.2.2.2.2.2.1 d.2.2.2.2.2.2.2.1 d.2.2.2.2.2.2.2.2.1 d.2.2.2.2.2.2.2.2.2.1 d.2.2.2.2.2.2.2.2.2.2.1,fun d=>jq ih.1 ih.2 d.1 d.2.1 d.2.2.1 d.2.2.2.1 d.2.2.2.2.1 d.2.2.2.2.2.1 d.2.2.2.2.2.2.1 d.2.2.2.2.2.2.2.1 d.2.2.2.2.2.2.2.2.1 d.2.2.2.2.2.2.2.2.2.1 d.2.2.2.2.2.2.2.2.2.2.1 d.2.2.2.2.2.2.2.2.2.2.2.1 d.2.2.2.2.2.2.2.2.2.2.2.2.1))
theorem R9(n:Nat):gC n=eU n:=by
 induction n with
 |zero=>rfl
 |
  succ n ih=>
  show((fun d:LA0=>lkC (gC n).1 (gC n).2 d.1 d.2.1 d.2.2.1 d.2.2.2.1 d.2.2.2.2.1 d.2.2.2.2.2.1 d.2.2.2.2.2.2.1 d.2.2.2.2.2.2.2.1 d.2.2.2.2.2.2.2.2.1 d.2.2.2.2.2.2.2.2.2.1 d.2.2.2.2.2.2.2.2.2.2.1),(fun d:LA1=>jq (gC n).1 (gC n).2 d.1 d.2.1 d.2.2.1 d.2.2.2.1 d.2.2.2.2.1 d.2.2.2.2.2.1 d.2.2.2.2.2.2.1 d.2.2.2.2.2.2.2.1 d.2.2.2.2.2.2.2.2.1 d.2.2.2.2.2.2.2.2.2.1 d.2.2.2.2.2.2.2.2.2.2.1 d.2.2.2.2.2.2.2.2.2.2.2.1 d.2.2.2.2.2.2.2.2.2.2.2.2.1))=((fun d:LA0=>i7 (eU n).1 (eU n).2 d.1 d.2.1 d.2.2.1 d.2.2.2.1 d.2.2.2.2.1 d.2.2.2.2.2.1 d.2.2.2.2.2.2.1 d.2.2.2.2.2.2.2.1 d.2.2.2.2.2.2.2.2.1 d.2.2.2.2.2.2.2.2.2.1 d.2.2.2.2.2.2.2.2.2.2.1),(fun d:LA1=>jq (eU n).1 (eU n).2 d.1 d.2.1 d.2.2.1 d.2.2.2.1 d.2.2.2.2.1 d.2.2.2.2.2.1 d.2.2.2.2.2.2.1 d.2.2.2.2.2.2.2.1 d.2.2.2.2.2.2.2.2.1 d.2.2.2.2.2.2.2.2.2.1 d.2.2.2.2.2.2.2.2.2.2.1 d.2.2.2.2.2.2.2.2.2.2.2.1 d.2.2.2.2.2.2.2.2.2.2.2.2.1))
  grind [S3]
def dL(a0:cM)(a1:bz)(a2:Ix)(a3:Int)(a4:Int)(a5:Bool)(a6:Zc)(a7:Unit)(a8:Ze)(a9:Zd)(a10:Zh):Option (bz×Ix×Int×Int×Bool×(Zc)×Unit×(Ze)×(Zd)×NG×(Zh)):=
 if(
  bT aK a0 a8)=true then lK a0 a1 a2 a3 a4 a5 a6 a7 a8 a9 a10 else if(aQ (.int .i64) .bool a0.1 (aY a6))=true then(gC iw).1 (a0,a1,a2,a3,a4,a5,a6,a7,a8,a9,a10,()) else
  (gz a0 a1 a2 a3 a4 a5 a6 a7 a8 a9 a10).bind fun⟨_,_,_,_,_,_,_,_,_,_,k⟩=>(f87 k a0.1 a0.2.1 a0.2.2.1 a3 a4).bind fun⟨n,m,l⟩=>(nj l).bind fun y4=>
   (ia a10 y4 a1 a2 a3 a4 a5 a6 a7 a8 a9).bind fun⟨_,z,aa,ab,ac,ad,ae,af,y,ak,al⟩=>
    if y.length+1≤aH then(some (z,aa,ab,ac,ad,ae,af,aX aK a0 (m,((0:Int),(([]:Zl),(n,())))) y,ak,(m,((0:Int),(([]:Zl),(n,())))),al)) else none
theorem J2{a0:cM}{a1:bz}{a2:Ix}{a3:Int}{a4:Int}{a5:Bool}{a6:Zc}{a7:Unit}{a8:Ze}{a9:Zd}{a10:Zh}{r}
 (h:dL a0 a1 a2 a3 a4 a5 a6 a7 a8 a9 a10=some r):lK a0 a1 a2 a3 a4 a5 a6 a7 a8 a9 a10=some r:=by
 unfold dL at h
 split at h
 ·exact h
 ·rename_i h1
  split at h
  ·rw[R9] at h
   exact h
  ·have e:lK a0 a1 a2 a3 a4 a5 a6 a7 a8 a9 a10=i7 (eU 18446744073709551615).1 (eU 18446744073709551615).2 a0 a1 a2 a3 a4 a5 a6 a7 a8 a9 a10:=rfl
   rw[e]
   unfold i7
   rw[aC h1]
   rename_i h2
   rw[aC h2]
   cases hb:gz a0 a1 a2 a3 a4 a5 a6 a7 a8 a9 a10 with
   |none=>grind
   |
    some x=>
    obtain⟨w,rfl⟩:=B9 hb
    rw[hb] at h
    simp only[aM,iF] at h ⊢
    cases h10:f87 w a0.1 a0.2.1 a0.2.2.1 a3 a4 with
    |none=>grind
    |
     some x=>
     rw[h10] at h
     simp only[aM] at h ⊢
     cases h4:nj x.2.2 with
     |none=>grind
     |
      some y4=>
      rw[h4] at h
      simp only[aM] at h ⊢
      cases h3:ia a10 y4 a1 a2 a3 a4 a5 a6 a7 a8 a9 with
      |none=>grind
      |
       some z=>
       grind [aG]
def J3:aZ:=aF G [.cell 4 79] 62 [(pP 0),(.val aK)] [(0,(fB 1 2 3)),(1,(.map aK eE)),(2,(.map aR .bool)),(3,(.row 110 40 aR))] 115 Ef [0,1,2,93] (.br (MN dL))
theorem Ca:hS J3:=aZ.sub Rw fun _ _ h=>J2 h
end Go.Proofs.YtpmlkhjpbjnagaaGreat
