/- part -/
import Derived.Test.YtkhfnbfpgcjllaaGreatDoorF9
import Derived.Test.YtkhfnbfpgcjllaaGreatDoorA5
noncomputable section
namespace Go.Proofs.YtkhfnbfpgcjllaaGreatDoor
open Go.Ax
abbrev Ix:=Zc
theorem Bm(u:Int×Int×aV×Ix×Int×Int×Bool×(Ze)×Unit×(Zk)×(Zj)×(Zi)×hJ×GH×(Zh)):
 ∀(n:Nat)(a:Int)(c:Zh) (o),iT n (u.1,a,u.2.2.1,u.2.2.2.1,u.2.2.2.2.1,u.2.2.2.2.2.1,u.2.2.2.2.2.2.1,u.2.2.2.2.2.2.2.1,u.2.2.2.2.2.2.2.2.1,u.2.2.2.2.2.2.2.2.2.1,u.2.2.2.2.2.2.2.2.2.2.1,u.2.2.2.2.2.2.2.2.2.2.2.1,u.2.2.2.2.2.2.2.2.2.2.2.2.1,u.2.2.2.2.2.2.2.2.2.2.2.2.2.1,c)=some o→
  ∃w,o= .aS (u.2.2.1,u.2.2.2.1,u.2.2.2.2.1,u.2.2.2.2.2.1,u.2.2.2.2.2.2.1,u.2.2.2.2.2.2.2.1,u.2.2.2.2.2.2.2.2.1,u.2.2.2.2.2.2.2.2.2.1,u.2.2.2.2.2.2.2.2.2.2.1,u.2.2.2.2.2.2.2.2.2.2.2.1,u.2.2.2.2.2.2.2.2.2.2.2.2.2.1,w):=by
 intro n
 induction n with
 |zero=>intro a c o h;cases h
 |
  succ n ih=>
  intro a c o h
  unfold iT at ih h
  rw[aK] at h
  generalize aL _ n=rec at ih h
  simp only at h
  split at h
  ·split at h
   ·exact ih _ _ _ h
   ·cases h
  ·cases h;exact⟨c,rfl⟩
theorem Ez{a0:hJ}{a1:aV}{a2:Ix}{a3:Int}{a4:Int}{a5:Bool}{a6:Ze}{a7:Unit}{a8:Zk}{a9:Zj}{a10:Zi}{r}
 (h:d9 a0 a1 a2 a3 a4 a5 a6 a7 a8 a9 a10=some r):∃w,r=(a1,a2,a3,a4,a5,a6,a7,a8,a9,a10,w):=by
 unfold d9 at h
 rcases IK h with⟨d,hd,h⟩|hd
 ·have key:∃k w,d=(a1,a2,a3,a4,a5,a6,a7,a8,a9,a10,k,w):=by
   obtain⟨v2,_,hd⟩:=bind_some hd
   split at hd
   ·split at hd
    ·split at hd
     ·obtain⟨w,e⟩:=Bm ((List.length ((((((nth aU a1.1.1.2.2.1 a0.1).2).2).2).2).1):Int),0,a1,a2,a3,a4,a5,a6,a7,a8,a9,a10,a0,a1.1,[]) _ 0 [] _ hd
      cases e;exact⟨_,_,rfl⟩
     ·cases hd
    ·cases hd
   ·cases hd;exact⟨_,_,rfl⟩
  obtain⟨k,w,rfl⟩:=key
  cases h;exact⟨_,rfl⟩
 ·obtain⟨v2,_,hd⟩:=bind_some hd
  split at hd
  ·split at hd
   ·split at hd
    ·obtain⟨w,e⟩:=Bm ((List.length ((((((nth aU a1.1.1.2.2.1 a0.1).2).2).2).2).1):Int),0,a1,a2,a3,a4,a5,a6,a7,a8,a9,a10,a0,a1.1,[]) _ 0 [] _ hd
     cases e
    ·cases hd
   ·cases hd
  ·cases hd
def lkC:type_of% js:=fun q0 q1 a0 a1 a2 a3 a4 a5 a6 a7 a8 a9 a10=>
 if(
  ep aR a0 a8)=true then js q0 q1 a0 a1 a2 a3 a4 a5 a6 a7 a8 a9 a10 else if(aO (.int .i64) .bool a0.1 (bA a6))=true then js q0 q1 a0 a1 a2 a3 a4 a5 a6 a7 a8 a9 a10 else
  Option.bind (d9 a0 a1 a2 a3 a4 a5 a6 a7 a8 a9 a10) fun⟨_,_,_,_,_,_,_,_,_,_,k⟩=>Option.bind (mU k a0.1 a0.2.1 a0.2.2.1 a3 a4) fun⟨n,m,l⟩=>Option.bind (lb l) fun y4=>
   Option.bind (gq a10 y4 a1 a2 a3 a4 a5 a6 a7 a8 a9) fun⟨_,z,aa,ab,ac,ad,ae,af,y,ak,al⟩=>
    if List.length y+1≤aF then(some (z,aa,ab,ac,ad,ae,af,bK aR a0 (m,((0:Int),(([]:Zo),(n,())))) y,ak,(m,((0:Int),(([]:Zo),(n,())))),al)) else none
theorem UY:∀q0 q1 a0 a1 a2 a3 a4 a5 a6 a7 a8 a9 a10,lkC q0 q1 a0 a1 a2 a3 a4 a5 a6 a7 a8 a9 a10=js q0 q1 a0 a1 a2 a3 a4 a5 a6 a7 a8 a9 a10:=by
 intro q0 q1 a0 a1 a2 a3 a4 a5 a6 a7 a8 a9 a10
 unfold lkC
 by_cases h1:ep aR a0 a8=true
 ·rw[aA h1]
 ·rw[aB h1]
  by_cases h2:aO (.int .i64) .bool a0.1 (bA a6)=true
  ·rw[aA h2]
  ·rw[aB h2]
   unfold js
   rw[aB h1,aB h2]
   cases hb:d9 a0 a1 a2 a3 a4 a5 a6 a7 a8 a9 a10 with
   |none=>rfl
   |
    some x=>
    obtain⟨w,rfl⟩:=Ez hb
    simp only[aD,dW]
    cases h10:mU w a0.1 a0.2.1 a0.2.2.1 a3 a4 with
    |none=>rfl
    |
     some x=>
     simp only[aD]
     cases h4:lb x.2.2 with
     |none=>rfl
     |
      some y4=>
      simp only[aD]
      cases h3:gq a10 y4 a1 a2 a3 a4 a5 a6 a7 a8 a9 with
      |none=>rfl
      |some z=>simp only[aD,aC]
abbrev LA0:=hJ×aV×Ix×Int×Int×Bool×(Ze)×Unit×(Zk)×(Zj)×(Zi)×Unit
abbrev LK0:=LA0→Option (aV×Ix×Int×Int×Bool×(Ze)×Unit×(Zk)×(Zj)×xw×(Zi))
abbrev LA1:=eU×Int×(Zo)×aV×Ix×Int×Int×Bool×(Ze)×Unit×(Zk)×(Zj)×(Zi)×Unit
abbrev LK1:=LA1→Option (Bool×eU×Int×aV×Ix×Int×Int×Bool×(Ze)×Unit×(Zk)×(Zj)×(Zo)×(Zi))
def gC:Nat→LK0×LK1:=@Nat.rec (fun _=>LK0×LK1) (fun _=>none,fun _=>none) (fun _ ih=>(fun d=>lkC ih.1 ih.2 d.1 d.2.1 d.2.2.1 d.2.2.2.1 d.2.2.2.2.1 d.2.2.2.2.2.1 d.2.2.2.2.2.2.1 d.2.2.2.2.2.2.2.1 d.2.2.2.2.2.2.2.2.1 d.2.2.2.2.2.2.2.2.2.1 d.2.2.2.2.2.2.2.2.2.2.1,fun d=>fU ih.1 ih.2 d.1 d.2.1 d.2.2.1 d.2.2.2.1 d.2.2.2.2.1 d.2.2.2.2.2.1 d.2.2.2.2.2.2.1 d.2.2.2.2.2.2.2.1 d.2.2.2.2.2.2.2.2.1 d.2.2.2.2.2.2.2.2.2.1 d.2.2.2.2.2.2.2.2.2.2.1 d.2.2.2.2.2.2.2.2.2.2.2.1 d.2.2.2.2.2.2.2.2.2.2.2.2.1))
theorem EA(n:Nat):gC n=du n:=by
 induction n with
 |zero=>rfl
 |
  succ n ih=>
  show((fun d:LA0=>lkC (gC n).1 (gC n).2 d.1 d.2.1 d.2.2.1 d.2.2.2.1 d.2.2.2.2.1 d.2.2.2.2.2.1 d.2.2.2.2.2.2.1 d.2.2.2.2.2.2.2.1 d.2.2.2.2.2.2.2.2.1 d.2.2.2.2.2.2.2.2.2.1 d.2.2.2.2.2.2.2.2.2.2.1),(fun d:LA1=>fU (gC n).1 (gC n).2 d.1 d.2.1 d.2.2.1 d.2.2.2.1 d.2.2.2.2.1 d.2.2.2.2.2.1 d.2.2.2.2.2.2.1 d.2.2.2.2.2.2.2.1 d.2.2.2.2.2.2.2.2.1 d.2.2.2.2.2.2.2.2.2.1 d.2.2.2.2.2.2.2.2.2.2.1 d.2.2.2.2.2.2.2.2.2.2.2.1 d.2.2.2.2.2.2.2.2.2.2.2.2.1))=((fun d:LA0=>js (du n).1 (du n).2 d.1 d.2.1 d.2.2.1 d.2.2.2.1 d.2.2.2.2.1 d.2.2.2.2.2.1 d.2.2.2.2.2.2.1 d.2.2.2.2.2.2.2.1 d.2.2.2.2.2.2.2.2.1 d.2.2.2.2.2.2.2.2.2.1 d.2.2.2.2.2.2.2.2.2.2.1),(fun d:LA1=>fU (du n).1 (du n).2 d.1 d.2.1 d.2.2.1 d.2.2.2.1 d.2.2.2.2.1 d.2.2.2.2.2.1 d.2.2.2.2.2.2.1 d.2.2.2.2.2.2.2.1 d.2.2.2.2.2.2.2.2.1 d.2.2.2.2.2.2.2.2.2.1 d.2.2.2.2.2.2.2.2.2.2.1 d.2.2.2.2.2.2.2.2.2.2.2.1 d.2.2.2.2.2.2.2.2.2.2.2.2.1))
  rw[ih]
  congr 1
  funext d
  exact UY ..
def cF(a0:hJ)(a1:aV)(a2:Ix)(a3:Int)(a4:Int)(a5:Bool)(a6:Ze)(a7:Unit)(a8:Zk)(a9:Zj)(a10:Zi):Option (aV×Ix×Int×Int×Bool×(Ze)×Unit×(Zk)×(Zj)×xw×(Zi)):=
 if(
  ep aR a0 a8)=true then iD a0 a1 a2 a3 a4 a5 a6 a7 a8 a9 a10 else if(aO (.int .i64) .bool a0.1 (bA a6))=true then(gC dA).1 (a0,a1,a2,a3,a4,a5,a6,a7,a8,a9,a10,()) else
  Option.bind (d9 a0 a1 a2 a3 a4 a5 a6 a7 a8 a9 a10) fun⟨_,_,_,_,_,_,_,_,_,_,k⟩=>Option.bind (mU k a0.1 a0.2.1 a0.2.2.1 a3 a4) fun⟨n,m,l⟩=>Option.bind (lb l) fun y4=>
   Option.bind (gq a10 y4 a1 a2 a3 a4 a5 a6 a7 a8 a9) fun⟨_,z,aa,ab,ac,ad,ae,af,y,ak,al⟩=>
    if List.length y+1≤aF then(some (z,aa,ab,ac,ad,ae,af,bK aR a0 (m,((0:Int),(([]:Zo),(n,())))) y,ak,(m,((0:Int),(([]:Zo),(n,())))),al)) else none
theorem yR{a0:hJ}{a1:aV}{a2:Ix}{a3:Int}{a4:Int}{a5:Bool}{a6:Ze}{a7:Unit}{a8:Zk}{a9:Zj}{a10:Zi}{r}
 (h:cF a0 a1 a2 a3 a4 a5 a6 a7 a8 a9 a10=some r):iD a0 a1 a2 a3 a4 a5 a6 a7 a8 a9 a10=some r:=by
 unfold cF at h
 split at h
 ·exact h
 ·rename_i h1
  split at h
  ·rw[EA] at h
   exact h
  ·have e:iD a0 a1 a2 a3 a4 a5 a6 a7 a8 a9 a10=js (du 18446744073709551615).1 (du 18446744073709551615).2 a0 a1 a2 a3 a4 a5 a6 a7 a8 a9 a10:=rfl
   rw[e]
   unfold js
   rw[aB h1]
   rename_i h2
   rw[aB h2]
   cases hb:d9 a0 a1 a2 a3 a4 a5 a6 a7 a8 a9 a10 with
   |none=>rw[hb] at h;cases h
   |
    some x=>
    obtain⟨w,rfl⟩:=Ez hb
    rw[hb] at h
    simp only[aD,dW] at h ⊢
    cases h10:mU w a0.1 a0.2.1 a0.2.2.1 a3 a4 with
    |none=>rw[h10] at h;cases h
    |
     some x=>
     rw[h10] at h
     simp only[aD] at h ⊢
     cases h4:lb x.2.2 with
     |none=>rw[h4] at h;cases h
     |
      some y4=>
      rw[h4] at h
      simp only[aD] at h ⊢
      cases h3:gq a10 y4 a1 a2 a3 a4 a5 a6 a7 a8 a9 with
      |none=>rw[h3] at h;cases h
      |
       some z=>
       rw[h3] at h
       simp only[aD,aC] at h ⊢
       exact h
def Mu:bH:=aI G [.cell 4 86] 52 [(pP 0),(.val aR)] [(0,(fB 1 2 3)),(1,(.map aR fA)),(2,(.map bN .bool)),(3,(.row 84 40 bN))] 115 Jm [0,1,2,93] (.bZ (Ii cF))
theorem mh:hS Mu:=bH.sub T6 fun _ _ h=>yR h
end Go.Proofs.YtkhfnbfpgcjllaaGreatDoor
