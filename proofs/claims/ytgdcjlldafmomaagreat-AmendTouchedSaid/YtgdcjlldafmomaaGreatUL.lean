/- part -/
import Derived.Test.YtgdcjlldafmomaaGreatF9
import Derived.Test.YtgdcjlldafmomaaGreatA5
noncomputable section
namespace Go.Proofs.YtgdcjlldafmomaaGreat
open Go.Ax
abbrev Ix:=Zd
theorem vR(u:Int×Int×bT×Ix×Int×Int×Bool×(Zf)×Unit×(Zj)×(Zh)×(Zi)×gX×EE×(Zk)):
 ∀(n:Nat)(a:Int)(c:Zk) (o),kC n (u.1,a,u.2.2.1,u.2.2.2.1,u.2.2.2.2.1,u.2.2.2.2.2.1,u.2.2.2.2.2.2.1,u.2.2.2.2.2.2.2.1,u.2.2.2.2.2.2.2.2.1,u.2.2.2.2.2.2.2.2.2.1,u.2.2.2.2.2.2.2.2.2.2.1,u.2.2.2.2.2.2.2.2.2.2.2.1,u.2.2.2.2.2.2.2.2.2.2.2.2.1,u.2.2.2.2.2.2.2.2.2.2.2.2.2.1,c)=some o→
  ∃w,o= .brk (u.2.2.1,u.2.2.2.1,u.2.2.2.2.1,u.2.2.2.2.2.1,u.2.2.2.2.2.2.1,u.2.2.2.2.2.2.2.1,u.2.2.2.2.2.2.2.2.1,u.2.2.2.2.2.2.2.2.2.1,u.2.2.2.2.2.2.2.2.2.2.1,u.2.2.2.2.2.2.2.2.2.2.2.1,u.2.2.2.2.2.2.2.2.2.2.2.2.2.1,w):=by
 intro n
 induction n with
 |zero=>intro a c o h;cases h
 |
  succ n ih=>
  intro a c o h
  unfold kC at ih h
  rw[aM] at h
  generalize aK _ n=rec at ih h
  simp only at h
  split at h
  ·split at h
   ·exact ih _ _ _ h
   ·cases h
  ·cases h;exact⟨c,rfl⟩
theorem GA{a0:gX}{a1:bT}{a2:Ix}{a3:Int}{a4:Int}{a5:Bool}{a6:Zf}{a7:Unit}{a8:Zj}{a9:Zh}{a10:Zi}{r}
 (h:iu a0 a1 a2 a3 a4 a5 a6 a7 a8 a9 a10=some r):∃w,r=(a1,a2,a3,a4,a5,a6,a7,a8,a9,a10,w):=by
 unfold iu at h
 rcases Bq h with⟨d,hd,h⟩|hd
 ·have key:∃k w,d=(a1,a2,a3,a4,a5,a6,a7,a8,a9,a10,k,w):=by
   obtain⟨v2,_,hd⟩:=bind_some hd
   split at hd
   ·split at hd
    ·split at hd
     ·obtain⟨w,e⟩:=vR ((List.length ((((((nth bG a1.1.1.2.2.1 a0.1).2).2).2).2).1):Int),0,a1,a2,a3,a4,a5,a6,a7,a8,a9,a10,a0,a1.1,[]) _ 0 [] _ hd
      cases e;exact⟨_,_,rfl⟩
     ·cases hd
    ·cases hd
   ·cases hd;exact⟨_,_,rfl⟩
  obtain⟨k,w,rfl⟩:=key
  cases h;exact⟨_,rfl⟩
 ·obtain⟨v2,_,hd⟩:=bind_some hd
  split at hd
  ·split at hd
   ·split at hd
    ·obtain⟨w,e⟩:=vR ((List.length ((((((nth bG a1.1.1.2.2.1 a0.1).2).2).2).2).1):Int),0,a1,a2,a3,a4,a5,a6,a7,a8,a9,a10,a0,a1.1,[]) _ 0 [] _ hd
     cases e
    ·cases hd
   ·cases hd
  ·cases hd
def eB(a0:gX)(a1:bT)(a2:Ix)(a3:Int)(a4:Int)(a5:Bool)(a6:Zf)(a7:Unit)(a8:Zj)(a9:Zh)(a10:Zi):Option (bT×Ix×Int×Int×Bool×(Zf)×Unit×(Zj)×(Zh)×uN×(Zi)):=
 if(
  ck bx a0 a8)=true then jY a0 a1 a2 a3 a4 a5 a6 a7 a8 a9 a10 else if(bw (.int .i64) .bool a0.1 (bM a6))=true then jY a0 a1 a2 a3 a4 a5 a6 a7 a8 a9 a10 else
  Option.bind (iu a0 a1 a2 a3 a4 a5 a6 a7 a8 a9 a10) fun⟨_,_,_,_,_,_,_,_,_,_,k⟩=>Option.bind (f33 k a0.1 a0.2.1 a0.2.2.1 a3 a4) fun⟨n,m,l⟩=>Option.bind (qq l) fun y4=>
   Option.bind (jb a10 y4 a1 a2 a3 a4 a5 a6 a7 a8 a9) fun⟨_,z,aa,ab,ac,ad,ae,af,y,ak,al⟩=>
    if List.length y+1≤aE then(some (z,aa,ab,ac,ad,ae,af,bB bx a0 (m,((0:Int),(([]:ZB),(n,())))) y,ak,(m,((0:Int),(([]:ZB),(n,())))),al)) else none
theorem GB{a0:gX}{a1:bT}{a2:Ix}{a3:Int}{a4:Int}{a5:Bool}{a6:Zf}{a7:Unit}{a8:Zj}{a9:Zh}{a10:Zi}{r}
 (h:eB a0 a1 a2 a3 a4 a5 a6 a7 a8 a9 a10=some r):jY a0 a1 a2 a3 a4 a5 a6 a7 a8 a9 a10=some r:=by
 unfold eB at h
 split at h
 ·exact h
 ·rename_i h1
  split at h
  ·exact h
  ·have e:jY a0 a1 a2 a3 a4 a5 a6 a7 a8 a9 a10=qm (gS 18446744073709551615).1 (gS 18446744073709551615).2 a0 a1 a2 a3 a4 a5 a6 a7 a8 a9 a10:=rfl
   rw[e]
   unfold qm
   rw[aC h1]
   rename_i h2
   rw[aC h2]
   cases hb:iu a0 a1 a2 a3 a4 a5 a6 a7 a8 a9 a10 with
   |none=>rw[hb] at h;cases h
   |
    some x=>
    obtain⟨w,rfl⟩:=GA hb
    rw[hb] at h
    simp only[aJ,jx] at h ⊢
    cases h10:f33 w a0.1 a0.2.1 a0.2.2.1 a3 a4 with
    |none=>rw[h10] at h;cases h
    |
     some x=>
     rw[h10] at h
     simp only[aJ] at h ⊢
     cases h4:qq x.2.2 with
     |none=>rw[h4] at h;cases h
     |
      some y4=>
      rw[h4] at h
      simp only[aJ] at h ⊢
      cases h3:jb a10 y4 a1 a2 a3 a4 a5 a6 a7 a8 a9 with
      |none=>rw[h3] at h;cases h
      |
       some z=>
       rw[h3] at h
       simp only[aJ,aH] at h ⊢
       exact h
def GC:aW:=aF G [.cell 4 135] 47 [(pP 0),(.val bx)] [(0,(fB 1 2 3)),(1,(.map bx cj)),(2,(.map bC .bool)),(3,(.row 74 40 bC))] 115 B6 [0,1,2,93] (.bE (IV eB))
theorem zZ:hS GC:=aW.sub KB fun _ _ h=>GB h
end Go.Proofs.YtgdcjlldafmomaaGreat
