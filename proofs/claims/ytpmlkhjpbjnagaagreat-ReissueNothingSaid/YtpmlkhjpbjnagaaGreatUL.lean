/- part -/
import Derived.Test.YtpmlkhjpbjnagaaGreatF7
import Derived.Test.YtpmlkhjpbjnagaaGreatA5
noncomputable section
namespace Go.Proofs.YtpmlkhjpbjnagaaGreat
open Go.Ax
abbrev Ix:=Zc
theorem xp(u:Int×Int×bL×Ix×Int×Int×Bool×(Zd)×Unit×(Zf)×(Ze)×(Zi)×cF×Ba×(Zn)):
 ∀(n:Nat)(a:Int)(c:Zn) (o),kr n (u.1,a,u.2.2.1,u.2.2.2.1,u.2.2.2.2.1,u.2.2.2.2.2.1,u.2.2.2.2.2.2.1,u.2.2.2.2.2.2.2.1,u.2.2.2.2.2.2.2.2.1,u.2.2.2.2.2.2.2.2.2.1,u.2.2.2.2.2.2.2.2.2.2.1,u.2.2.2.2.2.2.2.2.2.2.2.1,u.2.2.2.2.2.2.2.2.2.2.2.2.1,u.2.2.2.2.2.2.2.2.2.2.2.2.2.1,c)=some o→
  ∃w,o= .bA (u.2.2.1,u.2.2.2.1,u.2.2.2.2.1,u.2.2.2.2.2.1,u.2.2.2.2.2.2.1,u.2.2.2.2.2.2.2.1,u.2.2.2.2.2.2.2.2.1,u.2.2.2.2.2.2.2.2.2.1,u.2.2.2.2.2.2.2.2.2.2.1,u.2.2.2.2.2.2.2.2.2.2.2.1,u.2.2.2.2.2.2.2.2.2.2.2.2.2.1,w):=by
 intro n
 induction n with
 |zero=>intro a c o h;cases h
 |
  succ n ih=>
  intro a c o h
  unfold kr at ih h
  rw[aN] at h
  generalize aK _ n=rec at ih h
  simp only at h
  split at h
  ·split at h
   ·exact ih _ _ _ h
   ·cases h
  ·cases h;exact⟨c,rfl⟩
theorem Bc{a0:cF}{a1:bL}{a2:Ix}{a3:Int}{a4:Int}{a5:Bool}{a6:Zd}{a7:Unit}{a8:Zf}{a9:Ze}{a10:Zi}{r}
 (h:gF a0 a1 a2 a3 a4 a5 a6 a7 a8 a9 a10=some r):∃w,r=(a1,a2,a3,a4,a5,a6,a7,a8,a9,a10,w):=by
 unfold gF at h
 rcases DP h with⟨d,hd,h⟩|hd
 ·have key:∃k w,d=(a1,a2,a3,a4,a5,a6,a7,a8,a9,a10,k,w):=by
   obtain⟨v2,_,hd⟩:=bind_some hd
   split at hd
   ·split at hd
    ·split at hd
     ·obtain⟨w,e⟩:=xp ((List.length ((((((nth bR a1.1.1.2.2.1 a0.1).2).2).2).2).1):Int),0,a1,a2,a3,a4,a5,a6,a7,a8,a9,a10,a0,a1.1,[]) _ 0 [] _ hd
      cases e;exact⟨_,_,rfl⟩
     ·cases hd
    ·cases hd
   ·cases hd;exact⟨_,_,rfl⟩
  obtain⟨k,w,rfl⟩:=key
  cases h;exact⟨_,rfl⟩
 ·obtain⟨v2,_,hd⟩:=bind_some hd
  split at hd
  ·split at hd
   ·split at hd
    ·obtain⟨w,e⟩:=xp ((List.length ((((((nth bR a1.1.1.2.2.1 a0.1).2).2).2).2).1):Int),0,a1,a2,a3,a4,a5,a6,a7,a8,a9,a10,a0,a1.1,[]) _ 0 [] _ hd
     cases e
    ·cases hd
   ·cases hd
  ·cases hd
def lkC:type_of% i7:=fun q0 q1 a0 a1 a2 a3 a4 a5 a6 a7 a8 a9 a10=>
 if(
  cC aF a0 a8)=true then i7 q0 q1 a0 a1 a2 a3 a4 a5 a6 a7 a8 a9 a10 else if(aQ (.int .i64) .bool a0.1 (bE a6))=true then i7 q0 q1 a0 a1 a2 a3 a4 a5 a6 a7 a8 a9 a10 else
  Option.bind (gF a0 a1 a2 a3 a4 a5 a6 a7 a8 a9 a10) fun⟨_,_,_,_,_,_,_,_,_,_,k⟩=>Option.bind (Em k a0.1 a0.2.1 a0.2.2.1 a3 a4) fun⟨n,m,l⟩=>Option.bind (ng l) fun y4=>
   Option.bind (ij a10 y4 a1 a2 a3 a4 a5 a6 a7 a8 a9) fun⟨_,z,aa,ab,ac,ad,ae,af,y,ak,al⟩=>
    if List.length y+1≤aG then(some (z,aa,ab,ac,ad,ae,af,bC aF a0 (m,((0:Int),(([]:Zm),(n,())))) y,ak,(m,((0:Int),(([]:Zm),(n,())))),al)) else none
theorem SD:∀q0 q1 a0 a1 a2 a3 a4 a5 a6 a7 a8 a9 a10,lkC q0 q1 a0 a1 a2 a3 a4 a5 a6 a7 a8 a9 a10=i7 q0 q1 a0 a1 a2 a3 a4 a5 a6 a7 a8 a9 a10:=by
 intro q0 q1 a0 a1 a2 a3 a4 a5 a6 a7 a8 a9 a10
 unfold lkC
 by_cases h1:cC aF a0 a8=true
 ·rw[aA h1]
 ·rw[aC h1]
  by_cases h2:aQ (.int .i64) .bool a0.1 (bE a6)=true
  ·rw[aA h2]
  ·rw[aC h2]
   unfold i7
   rw[aC h1,aC h2]
   cases hb:gF a0 a1 a2 a3 a4 a5 a6 a7 a8 a9 a10 with
   |none=>rfl
   |
    some x=>
    obtain⟨w,rfl⟩:=Bc hb
    simp only[aL,iD]
    cases h10:Em w a0.1 a0.2.1 a0.2.2.1 a3 a4 with
    |none=>rfl
    |
     some x=>
     simp only[aL]
     cases h4:ng x.2.2 with
     |none=>rfl
     |
      some y4=>
      simp only[aL]
      cases h3:ij a10 y4 a1 a2 a3 a4 a5 a6 a7 a8 a9 with
      |none=>rfl
      |some z=>simp only[aL,aI]
abbrev LA0:=cF×bL×Ix×Int×Int×Bool×(Zd)×Unit×(Zf)×(Ze)×(Zi)×Unit
abbrev LK0:=LA0→Option (bL×Ix×Int×Int×Bool×(Zd)×Unit×(Zf)×(Ze)×MN×(Zi))
abbrev LA1:=dD×Int×(Zm)×bL×Ix×Int×Int×Bool×(Zd)×Unit×(Zf)×(Ze)×(Zi)×Unit
abbrev LK1:=LA1→Option (Bool×dD×Int×bL×Ix×Int×Int×Bool×(Zd)×Unit×(Zf)×(Ze)×(Zm)×(Zi))
def gC:Nat→LK0×LK1:=@Nat.rec (fun _=>LK0×LK1) (fun _=>none,fun _=>none) (fun _ ih=>(fun d=>lkC ih.1 ih.2 d.1 d.2.1 d.2.2.1 d.2.2.2.1 d.2.2.2.2.1 d.2.2.2.2.2.1 d.2.2.2.2.2.2.1 d.2.2.2.2.2.2.2.1 d.2.2.2.2.2.2.2.2.1 d.2.2.2.2.2.2.2.2.2.1 d.2.2.2.2.2.2.2.2.2.2.1,fun d=>jt ih.1 ih.2 d.1 d.2.1 d.2.2.1 d.2.2.2.1 d.2.2.2.2.1 d.2.2.2.2.2.1 d.2.2.2.2.2.2.1 d.2.2.2.2.2.2.2.1 d.2.2.2.2.2.2.2.2.1 d.2.2.2.2.2.2.2.2.2.1 d.2.2.2.2.2.2.2.2.2.2.1 d.2.2.2.2.2.2.2.2.2.2.2.1 d.2.2.2.2.2.2.2.2.2.2.2.2.1))
theorem RS(n:Nat):gC n=fe n:=by
 induction n with
 |zero=>rfl
 |
  succ n ih=>
  show((fun d:LA0=>lkC (gC n).1 (gC n).2 d.1 d.2.1 d.2.2.1 d.2.2.2.1 d.2.2.2.2.1 d.2.2.2.2.2.1 d.2.2.2.2.2.2.1 d.2.2.2.2.2.2.2.1 d.2.2.2.2.2.2.2.2.1 d.2.2.2.2.2.2.2.2.2.1 d.2.2.2.2.2.2.2.2.2.2.1),(fun d:LA1=>jt (gC n).1 (gC n).2 d.1 d.2.1 d.2.2.1 d.2.2.2.1 d.2.2.2.2.1 d.2.2.2.2.2.1 d.2.2.2.2.2.2.1 d.2.2.2.2.2.2.2.1 d.2.2.2.2.2.2.2.2.1 d.2.2.2.2.2.2.2.2.2.1 d.2.2.2.2.2.2.2.2.2.2.1 d.2.2.2.2.2.2.2.2.2.2.2.1 d.2.2.2.2.2.2.2.2.2.2.2.2.1))=((fun d:LA0=>i7 (fe n).1 (fe n).2 d.1 d.2.1 d.2.2.1 d.2.2.2.1 d.2.2.2.2.1 d.2.2.2.2.2.1 d.2.2.2.2.2.2.1 d.2.2.2.2.2.2.2.1 d.2.2.2.2.2.2.2.2.1 d.2.2.2.2.2.2.2.2.2.1 d.2.2.2.2.2.2.2.2.2.2.1),(fun d:LA1=>jt (fe n).1 (fe n).2 d.1 d.2.1 d.2.2.1 d.2.2.2.1 d.2.2.2.2.1 d.2.2.2.2.2.1 d.2.2.2.2.2.2.1 d.2.2.2.2.2.2.2.1 d.2.2.2.2.2.2.2.2.1 d.2.2.2.2.2.2.2.2.2.1 d.2.2.2.2.2.2.2.2.2.2.1 d.2.2.2.2.2.2.2.2.2.2.2.1 d.2.2.2.2.2.2.2.2.2.2.2.2.1))
  rw[ih]
  congr 1
  funext d
  exact SD ..
def d6(a0:cF)(a1:bL)(a2:Ix)(a3:Int)(a4:Int)(a5:Bool)(a6:Zd)(a7:Unit)(a8:Zf)(a9:Ze)(a10:Zi):Option (bL×Ix×Int×Int×Bool×(Zd)×Unit×(Zf)×(Ze)×MN×(Zi)):=
 if(
  cC aF a0 a8)=true then lG a0 a1 a2 a3 a4 a5 a6 a7 a8 a9 a10 else if(aQ (.int .i64) .bool a0.1 (bE a6))=true then(gC eP).1 (a0,a1,a2,a3,a4,a5,a6,a7,a8,a9,a10,()) else
  Option.bind (gF a0 a1 a2 a3 a4 a5 a6 a7 a8 a9 a10) fun⟨_,_,_,_,_,_,_,_,_,_,k⟩=>Option.bind (Em k a0.1 a0.2.1 a0.2.2.1 a3 a4) fun⟨n,m,l⟩=>Option.bind (ng l) fun y4=>
   Option.bind (ij a10 y4 a1 a2 a3 a4 a5 a6 a7 a8 a9) fun⟨_,z,aa,ab,ac,ad,ae,af,y,ak,al⟩=>
    if List.length y+1≤aG then(some (z,aa,ab,ac,ad,ae,af,bC aF a0 (m,((0:Int),(([]:Zm),(n,())))) y,ak,(m,((0:Int),(([]:Zm),(n,())))),al)) else none
theorem I2{a0:cF}{a1:bL}{a2:Ix}{a3:Int}{a4:Int}{a5:Bool}{a6:Zd}{a7:Unit}{a8:Zf}{a9:Ze}{a10:Zi}{r}
 (h:d6 a0 a1 a2 a3 a4 a5 a6 a7 a8 a9 a10=some r):lG a0 a1 a2 a3 a4 a5 a6 a7 a8 a9 a10=some r:=by
 unfold d6 at h
 split at h
 ·exact h
 ·rename_i h1
  split at h
  ·rw[RS] at h
   exact h
  ·have e:lG a0 a1 a2 a3 a4 a5 a6 a7 a8 a9 a10=i7 (fe 18446744073709551615).1 (fe 18446744073709551615).2 a0 a1 a2 a3 a4 a5 a6 a7 a8 a9 a10:=rfl
   rw[e]
   unfold i7
   rw[aC h1]
   rename_i h2
   rw[aC h2]
   cases hb:gF a0 a1 a2 a3 a4 a5 a6 a7 a8 a9 a10 with
   |none=>rw[hb] at h;cases h
   |
    some x=>
    obtain⟨w,rfl⟩:=Bc hb
    rw[hb] at h
    simp only[aL,iD] at h ⊢
    cases h10:Em w a0.1 a0.2.1 a0.2.2.1 a3 a4 with
    |none=>rw[h10] at h;cases h
    |
     some x=>
     rw[h10] at h
     simp only[aL] at h ⊢
     cases h4:ng x.2.2 with
     |none=>rw[h4] at h;cases h
     |
      some y4=>
      rw[h4] at h
      simp only[aL] at h ⊢
      cases h3:ij a10 y4 a1 a2 a3 a4 a5 a6 a7 a8 a9 with
      |none=>rw[h3] at h;cases h
      |
       some z=>
       rw[h3] at h
       simp only[aL,aI] at h ⊢
       exact h
def I3:aX:=aE G [.cell 4 79] 62 [(pP 0),(.val aF)] [(0,(fB 1 2 3)),(1,(.map aF dZ)),(2,(.map aM .bool)),(3,(.row 110 40 aM))] 115 C5 [0,1,2,93] (.bH (LO d6))
theorem Bd:hS I3:=aX.sub Q6 fun _ _ h=>I2 h
end Go.Proofs.YtpmlkhjpbjnagaaGreat
