/- Looking for a credential, without what only says that nothing else was changed. No condition. -/
import Derived.Test.YtadeibjelmcdgaaGreatFL
noncomputable section
namespace Go.Proofs.YtadeibjelmcdgaaGreat
open Go.Ax
abbrev Ix:=Option (List (aW×(List aM)))
theorem pS(u:Int×Int×bH×Ix×Int×Int×Bool×(Option (List (Int×Bool)))×Unit×(List (aW×bJ))×(List (aT×Bool))×(List aT)×aW×BB×(List aM)):
 ∀(n:Nat)(a:Int)(c:List aM) (o),jP n (u.1,a,u.2.2.1,u.2.2.2.1,u.2.2.2.2.1,u.2.2.2.2.2.1,u.2.2.2.2.2.2.1,u.2.2.2.2.2.2.2.1,u.2.2.2.2.2.2.2.2.1,u.2.2.2.2.2.2.2.2.2.1,u.2.2.2.2.2.2.2.2.2.2.1,u.2.2.2.2.2.2.2.2.2.2.2.1,u.2.2.2.2.2.2.2.2.2.2.2.2.1,u.2.2.2.2.2.2.2.2.2.2.2.2.2.1,c)=some o→
  ∃w,o= .brk (u.2.2.1,u.2.2.2.1,u.2.2.2.2.1,u.2.2.2.2.2.1,u.2.2.2.2.2.2.1,u.2.2.2.2.2.2.2.1,u.2.2.2.2.2.2.2.2.1,u.2.2.2.2.2.2.2.2.2.1,u.2.2.2.2.2.2.2.2.2.2.1,u.2.2.2.2.2.2.2.2.2.2.2.1,u.2.2.2.2.2.2.2.2.2.2.2.2.2.1,w):=by
 intro n
 induction n with
 |zero=>intro a c o h;cases h
 |
  succ n ih=>
  intro a c o h
  unfold jP at ih h
  rw[bx] at h
  generalize aL _ n=rec at ih h
  simp only at h
  split at h
  ·split at h
   ·exact ih _ _ _ h
   ·cases h
  ·cases h;exact⟨c,rfl⟩
theorem zL{a0:aW}{a1:bH}{a2:Ix}{a3:Int}{a4:Int}{a5:Bool}{a6:Option (List (Int×Bool))}{a7:Unit}{a8:List (aW×bJ)}{a9:List (aT×Bool)}{R9:List aT}{r}
 (h:ji a0 a1 a2 a3 a4 a5 a6 a7 a8 a9 R9=some r):∃w,r=(a1,a2,a3,a4,a5,a6,a7,a8,a9,R9,w):=by
 unfold ji at h
 rcases uW h with⟨d,hd,h⟩|hd
 ·have key:∃k w,d=(a1,a2,a3,a4,a5,a6,a7,a8,a9,R9,k,w):=by
   obtain⟨v2,_,hd⟩:=bind_some hd
   split at hd
   ·split at hd
    ·split at hd
     ·obtain⟨w,e⟩:=pS ((List.length ((((((nth db a1.1.1.2.2.1 a0.1).2).2).2).2).1):Int),0,a1,a2,a3,a4,a5,a6,a7,a8,a9,R9,a0,a1.1,[]) _ 0 [] _ hd
      cases e;exact⟨_,_,rfl⟩
     ·cases hd
    ·cases hd
   ·cases hd;exact⟨_,_,rfl⟩
  obtain⟨k,w,rfl⟩:=key
  cases h;exact⟨_,rfl⟩
 ·obtain⟨v2,_,hd⟩:=bind_some hd
  split at hd
  ·split at hd
   ·split at hd
    ·obtain⟨w,e⟩:=pS ((List.length ((((((nth db a1.1.1.2.2.1 a0.1).2).2).2).2).1):Int),0,a1,a2,a3,a4,a5,a6,a7,a8,a9,R9,a0,a1.1,[]) _ 0 [] _ hd
     cases e
    ·cases hd
   ·cases hd
  ·cases hd
def kZ(a0:aW)(a1:bH)(a2:Ix)(a3:Int)(a4:Int)(a5:Bool)(a6:Option (List (Int×Bool)))(a7:Unit)(a8:List (aW×bJ))(a9:List (aT×Bool))(R9:List aT):Option (bH×Ix×Int×Int×Bool×(Option (List (Int×Bool)))×Unit×(List (aW×bJ))×(List (aT×Bool))×bJ×(List aT)):=
 if(
  dh bC a0 a8)=true then none else if(cI (.int .i64) .bool a0.1 (ew a6))=true then none else
  Option.bind (ji a0 a1 a2 a3 a4 a5 a6 a7 a8 a9 R9) fun⟨_,_,_,_,_,_,_,_,_,_,k⟩=>Option.bind (f10 k a0.1 a0.2.1 a0.2.2.1 a3 a4) fun⟨n,m,l⟩=>Option.bind (mr l) fun y4=>
   Option.bind (gH R9 y4 a1 a2 a3 a4 a5 a6 a7 a8 a9) fun⟨_,z,aa,ab,ac,ad,ae,af,y,ak,al⟩=>
    if List.length y+1≤aF then(some (z,aa,ab,ac,ad,ae,af,cj bC a0 (m,((0:Int),(([]:List tj),(n,())))) y,ak,(m,((0:Int),(([]:List tj),(n,())))),al)) else none
theorem Hm{a0:aW}{a1:bH}{a2:Ix}{a3:Int}{a4:Int}{a5:Bool}{a6:Option (List (Int×Bool))}{a7:Unit}{a8:List (aW×bJ)}{a9:List (aT×Bool)}{R9:List aT}{r}
 (h:kZ a0 a1 a2 a3 a4 a5 a6 a7 a8 a9 R9=some r):vM a0 a1 a2 a3 a4 a5 a6 a7 a8 a9 R9=some r:=by
 show qg (tD 18446744073709551615) a0 a1 a2 a3 a4 a5 a6 a7 a8 a9 R9=some r
 unfold kZ at h
 unfold qg
 split at h
 ·cases h
 ·rename_i h1
  rw[if_neg h1]
  split at h
  ·cases h
  ·rename_i h2
   rw[if_neg h2]
   cases hb:ji a0 a1 a2 a3 a4 a5 a6 a7 a8 a9 R9 with
   |none=>rw[hb] at h;cases h
   |
    some x=>
    obtain⟨w,rfl⟩:=zL hb
    rw[hb] at h
    simp only[Option.bind_some,uV] at h ⊢
    cases Sy:f10 w a0.1 a0.2.1 a0.2.2.1 a3 a4 with
    |none=>rw[Sy] at h;cases h
    |
     some x=>
     rw[Sy] at h
     simp only[Option.bind_some] at h ⊢
     cases h4:mr x.2.2 with
     |none=>rw[h4] at h;cases h
     |
      some y4=>
      rw[h4] at h
      simp only[Option.bind_some] at h ⊢
      cases h3:gH R9 y4 a1 a2 a3 a4 a5 a6 a7 a8 a9 with
      |none=>rw[h3] at h;cases h
      |
       some z=>
       rw[h3] at h
       simp only[Option.bind_some,aR] at h ⊢
       exact h
def th:aH:=aB G [.cell 4 142] 59 [(.ptr 0 []),(.val bC)] [(0,(.var cF (.cons (.val bS) (.cons (.val (.map bC (.slice 64 aP))) (.cons (.val (.int .i64)) (.cons (.val (.int .i64)) (.cons (.val .bool) (.cons (.val (.map (.int .i64) .bool)) (.cons (.mp 1) (.cons (.mp 2) (.cons (.own 3) (.val .unit)))))))))))),(1,(.map bC cE)),(2,(.map bw .bool)),(3,(.row 83 40 bw))] 115 tC [0,1,2,81] (.bE fun d=>kZ d.1 d.2.1 d.2.2.1 d.2.2.2.1 d.2.2.2.2.1 d.2.2.2.2.2.1 d.2.2.2.2.2.2.1 d.2.2.2.2.2.2.2.1 d.2.2.2.2.2.2.2.2.1 d.2.2.2.2.2.2.2.2.2.1 d.2.2.2.2.2.2.2.2.2.2.1)
theorem CK:th.holds Tryz.prog gl:=aH.sub Da fun _ _ h=>Hm h
end Go.Proofs.YtadeibjelmcdgaaGreat
