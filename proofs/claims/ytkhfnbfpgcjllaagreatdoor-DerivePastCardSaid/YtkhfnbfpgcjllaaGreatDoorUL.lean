/- part -/
import Derived.Test.YtkhfnbfpgcjllaaGreatDoorF9
import Derived.Test.YtkhfnbfpgcjllaaGreatDoorA5
noncomputable section
namespace Go.Proofs.YtkhfnbfpgcjllaaGreatDoor
open Go.Ax
abbrev Ix:=Zc
theorem Be(u:Int×Int×aU×Ix×Int×Int×Bool×(Ze)×Unit×(Zk)×(Zi)×(Zh)×iw×GA×(Zj)):
 ∀(n:Nat)(a:Int)(c:Zj) (o),iM n (u.1,a,u.2.2.1,u.2.2.2.1,u.2.2.2.2.1,u.2.2.2.2.2.1,u.2.2.2.2.2.2.1,u.2.2.2.2.2.2.2.1,u.2.2.2.2.2.2.2.2.1,u.2.2.2.2.2.2.2.2.2.1,u.2.2.2.2.2.2.2.2.2.2.1,u.2.2.2.2.2.2.2.2.2.2.2.1,u.2.2.2.2.2.2.2.2.2.2.2.2.1,u.2.2.2.2.2.2.2.2.2.2.2.2.2.1,c)=some o→
  ∃w,o= .aX (u.2.2.1,u.2.2.2.1,u.2.2.2.2.1,u.2.2.2.2.2.1,u.2.2.2.2.2.2.1,u.2.2.2.2.2.2.2.1,u.2.2.2.2.2.2.2.2.1,u.2.2.2.2.2.2.2.2.2.1,u.2.2.2.2.2.2.2.2.2.2.1,u.2.2.2.2.2.2.2.2.2.2.2.1,u.2.2.2.2.2.2.2.2.2.2.2.2.2.1,w):=by
 intro n
 induction n with
 |zero=>intro a c o h;cases h
 |
  succ n ih=>
  intro a c o h
  unfold iM at ih h
  rw[aK] at h
  generalize aL _ n=rec at ih h
  simp only at h
  split at h
  ·split at h
   ·exact ih _ _ _ h
   ·cases h
  ·cases h;exact⟨c,rfl⟩
theorem Et{a0:iw}{a1:aU}{a2:Ix}{a3:Int}{a4:Int}{a5:Bool}{a6:Ze}{a7:Unit}{a8:Zk}{a9:Zi}{a10:Zh}{r}
 (h:d6 a0 a1 a2 a3 a4 a5 a6 a7 a8 a9 a10=some r):∃w,r=(a1,a2,a3,a4,a5,a6,a7,a8,a9,a10,w):=by
 unfold d6 at h
 rcases IG h with⟨d,hd,h⟩|hd
 ·have key:∃k w,d=(a1,a2,a3,a4,a5,a6,a7,a8,a9,a10,k,w):=by
   obtain⟨v2,_,hd⟩:=bind_some hd
   split at hd
   ·split at hd
    ·split at hd
     ·obtain⟨w,e⟩:=Be ((List.length ((((((nth aR a1.1.1.2.2.1 a0.1).2).2).2).2).1):Int),0,a1,a2,a3,a4,a5,a6,a7,a8,a9,a10,a0,a1.1,[]) _ 0 [] _ hd
      cases e;exact⟨_,_,rfl⟩
     ·cases hd
    ·cases hd
   ·cases hd;exact⟨_,_,rfl⟩
  obtain⟨k,w,rfl⟩:=key
  cases h;exact⟨_,rfl⟩
 ·obtain⟨v2,_,hd⟩:=bind_some hd
  split at hd
  ·split at hd
   ·split at hd
    ·obtain⟨w,e⟩:=Be ((List.length ((((((nth aR a1.1.1.2.2.1 a0.1).2).2).2).2).1):Int),0,a1,a2,a3,a4,a5,a6,a7,a8,a9,a10,a0,a1.1,[]) _ 0 [] _ hd
     cases e
    ·cases hd
   ·cases hd
  ·cases hd
def lkC:type_of% jc:=fun q0 q1 a0 a1 a2 a3 a4 a5 a6 a7 a8 a9 a10=>
 if(
  ek aQ a0 a8)=true then jc q0 q1 a0 a1 a2 a3 a4 a5 a6 a7 a8 a9 a10 else if(aO (.int .i64) .bool a0.1 (bC a6))=true then jc q0 q1 a0 a1 a2 a3 a4 a5 a6 a7 a8 a9 a10 else
  Option.bind (d6 a0 a1 a2 a3 a4 a5 a6 a7 a8 a9 a10) fun⟨_,_,_,_,_,_,_,_,_,_,k⟩=>Option.bind (mM k a0.1 a0.2.1 a0.2.2.1 a3 a4) fun⟨n,m,l⟩=>Option.bind (kX l) fun y4=>
   Option.bind (gj a10 y4 a1 a2 a3 a4 a5 a6 a7 a8 a9) fun⟨_,z,aa,ab,ac,ad,ae,af,y,ak,al⟩=>
    if List.length y+1≤aF then(some (z,aa,ab,ac,ad,ae,af,bJ aQ a0 (m,((0:Int),(([]:Zp),(n,())))) y,ak,(m,((0:Int),(([]:Zp),(n,())))),al)) else none
theorem UR:∀q0 q1 a0 a1 a2 a3 a4 a5 a6 a7 a8 a9 a10,lkC q0 q1 a0 a1 a2 a3 a4 a5 a6 a7 a8 a9 a10=jc q0 q1 a0 a1 a2 a3 a4 a5 a6 a7 a8 a9 a10:=by
 intro q0 q1 a0 a1 a2 a3 a4 a5 a6 a7 a8 a9 a10
 unfold lkC
 by_cases h1:ek aQ a0 a8=true
 ·rw[aA h1]
 ·rw[aB h1]
  by_cases h2:aO (.int .i64) .bool a0.1 (bC a6)=true
  ·rw[aA h2]
  ·rw[aB h2]
   unfold jc
   rw[aB h1,aB h2]
   cases hb:d6 a0 a1 a2 a3 a4 a5 a6 a7 a8 a9 a10 with
   |none=>rfl
   |
    some x=>
    obtain⟨w,rfl⟩:=Et hb
    simp only[aD,dU]
    cases h10:mM w a0.1 a0.2.1 a0.2.2.1 a3 a4 with
    |none=>rfl
    |
     some x=>
     simp only[aD]
     cases h4:kX x.2.2 with
     |none=>rfl
     |
      some y4=>
      simp only[aD]
      cases h3:gj a10 y4 a1 a2 a3 a4 a5 a6 a7 a8 a9 with
      |none=>rfl
      |some z=>simp only[aD,aC]
abbrev LA0:=iw×aU×Ix×Int×Int×Bool×(Ze)×Unit×(Zk)×(Zi)×(Zh)×Unit
abbrev LK0:=LA0→Option (aU×Ix×Int×Int×Bool×(Ze)×Unit×(Zk)×(Zi)×xi×(Zh))
abbrev LA1:=eQ×Int×(Zp)×aU×Ix×Int×Int×Bool×(Ze)×Unit×(Zk)×(Zi)×(Zh)×Unit
abbrev LK1:=LA1→Option (Bool×eQ×Int×aU×Ix×Int×Int×Bool×(Ze)×Unit×(Zk)×(Zi)×(Zp)×(Zh))
def gC:Nat→LK0×LK1:=@Nat.rec (fun _=>LK0×LK1) (fun _=>none,fun _=>none) (fun _ ih=>(fun d=>lkC ih.1 ih.2 d.1 d.2.1 d.2.2.1 d.2.2.2.1 d.2.2.2.2.1 d.2.2.2.2.2.1 d.2.2.2.2.2.2.1 d.2.2.2.2.2.2.2.1 d.2.2.2.2.2.2.2.2.1 d.2.2.2.2.2.2.2.2.2.1 d.2.2.2.2.2.2.2.2.2.2.1,fun d=>fO ih.1 ih.2 d.1 d.2.1 d.2.2.1 d.2.2.2.1 d.2.2.2.2.1 d.2.2.2.2.2.1 d.2.2.2.2.2.2.1 d.2.2.2.2.2.2.2.1 d.2.2.2.2.2.2.2.2.1 d.2.2.2.2.2.2.2.2.2.1 d.2.2.2.2.2.2.2.2.2.2.1 d.2.2.2.2.2.2.2.2.2.2.2.1 d.2.2.2.2.2.2.2.2.2.2.2.2.1))
theorem Eu(n:Nat):gC n=du n:=by
 induction n with
 |zero=>rfl
 |
  succ n ih=>
  show((fun d:LA0=>lkC (gC n).1 (gC n).2 d.1 d.2.1 d.2.2.1 d.2.2.2.1 d.2.2.2.2.1 d.2.2.2.2.2.1 d.2.2.2.2.2.2.1 d.2.2.2.2.2.2.2.1 d.2.2.2.2.2.2.2.2.1 d.2.2.2.2.2.2.2.2.2.1 d.2.2.2.2.2.2.2.2.2.2.1),(fun d:LA1=>fO (gC n).1 (gC n).2 d.1 d.2.1 d.2.2.1 d.2.2.2.1 d.2.2.2.2.1 d.2.2.2.2.2.1 d.2.2.2.2.2.2.1 d.2.2.2.2.2.2.2.1 d.2.2.2.2.2.2.2.2.1 d.2.2.2.2.2.2.2.2.2.1 d.2.2.2.2.2.2.2.2.2.2.1 d.2.2.2.2.2.2.2.2.2.2.2.1 d.2.2.2.2.2.2.2.2.2.2.2.2.1))=((fun d:LA0=>jc (du n).1 (du n).2 d.1 d.2.1 d.2.2.1 d.2.2.2.1 d.2.2.2.2.1 d.2.2.2.2.2.1 d.2.2.2.2.2.2.1 d.2.2.2.2.2.2.2.1 d.2.2.2.2.2.2.2.2.1 d.2.2.2.2.2.2.2.2.2.1 d.2.2.2.2.2.2.2.2.2.2.1),(fun d:LA1=>fO (du n).1 (du n).2 d.1 d.2.1 d.2.2.1 d.2.2.2.1 d.2.2.2.2.1 d.2.2.2.2.2.1 d.2.2.2.2.2.2.1 d.2.2.2.2.2.2.2.1 d.2.2.2.2.2.2.2.2.1 d.2.2.2.2.2.2.2.2.2.1 d.2.2.2.2.2.2.2.2.2.2.1 d.2.2.2.2.2.2.2.2.2.2.2.1 d.2.2.2.2.2.2.2.2.2.2.2.2.1))
  rw[ih]
  congr 1
  funext d
  exact UR ..
def da(a0:iw)(a1:aU)(a2:Ix)(a3:Int)(a4:Int)(a5:Bool)(a6:Ze)(a7:Unit)(a8:Zk)(a9:Zi)(a10:Zh):Option (aU×Ix×Int×Int×Bool×(Ze)×Unit×(Zk)×(Zi)×xi×(Zh)):=
 if(
  ek aQ a0 a8)=true then iz a0 a1 a2 a3 a4 a5 a6 a7 a8 a9 a10 else if(aO (.int .i64) .bool a0.1 (bC a6))=true then(gC dG).1 (a0,a1,a2,a3,a4,a5,a6,a7,a8,a9,a10,()) else
  Option.bind (d6 a0 a1 a2 a3 a4 a5 a6 a7 a8 a9 a10) fun⟨_,_,_,_,_,_,_,_,_,_,k⟩=>Option.bind (mM k a0.1 a0.2.1 a0.2.2.1 a3 a4) fun⟨n,m,l⟩=>Option.bind (kX l) fun y4=>
   Option.bind (gj a10 y4 a1 a2 a3 a4 a5 a6 a7 a8 a9) fun⟨_,z,aa,ab,ac,ad,ae,af,y,ak,al⟩=>
    if List.length y+1≤aF then(some (z,aa,ab,ac,ad,ae,af,bJ aQ a0 (m,((0:Int),(([]:Zp),(n,())))) y,ak,(m,((0:Int),(([]:Zp),(n,())))),al)) else none
theorem yH{a0:iw}{a1:aU}{a2:Ix}{a3:Int}{a4:Int}{a5:Bool}{a6:Ze}{a7:Unit}{a8:Zk}{a9:Zi}{a10:Zh}{r}
 (h:da a0 a1 a2 a3 a4 a5 a6 a7 a8 a9 a10=some r):iz a0 a1 a2 a3 a4 a5 a6 a7 a8 a9 a10=some r:=by
 unfold da at h
 split at h
 ·exact h
 ·rename_i h1
  split at h
  ·rw[Eu] at h
   exact h
  ·have e:iz a0 a1 a2 a3 a4 a5 a6 a7 a8 a9 a10=jc (du 18446744073709551615).1 (du 18446744073709551615).2 a0 a1 a2 a3 a4 a5 a6 a7 a8 a9 a10:=rfl
   rw[e]
   unfold jc
   rw[aB h1]
   rename_i h2
   rw[aB h2]
   cases hb:d6 a0 a1 a2 a3 a4 a5 a6 a7 a8 a9 a10 with
   |none=>rw[hb] at h;cases h
   |
    some x=>
    obtain⟨w,rfl⟩:=Et hb
    rw[hb] at h
    simp only[aD,dU] at h ⊢
    cases h10:mM w a0.1 a0.2.1 a0.2.2.1 a3 a4 with
    |none=>rw[h10] at h;cases h
    |
     some x=>
     rw[h10] at h
     simp only[aD] at h ⊢
     cases h4:kX x.2.2 with
     |none=>rw[h4] at h;cases h
     |
      some y4=>
      rw[h4] at h
      simp only[aD] at h ⊢
      cases h3:gj a10 y4 a1 a2 a3 a4 a5 a6 a7 a8 a9 with
      |none=>rw[h3] at h;cases h
      |
       some z=>
       rw[h3] at h
       simp only[aD,aC] at h ⊢
       exact h
def Mp:bG:=aG G [.cell 4 86] 52 [(pP 0),(.val aQ)] [(0,(fB 1 2 3)),(1,(.map aQ fq)),(2,(.map bP .bool)),(3,(.row 84 40 bP))] 115 Ji [0,1,2,93] (.bY (Ib da))
theorem l4:hS Mp:=bG.sub TZ fun _ _ h=>yH h
end Go.Proofs.YtkhfnbfpgcjllaaGreatDoor
