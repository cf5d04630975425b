/- part -/
import Derived.Test.YtaghhonjcdokjaaGreatDoorF9
import Derived.Test.YtaghhonjcdokjaaGreatDoorA5
noncomputable section
namespace Go.Proofs.YtaghhonjcdokjaaGreatDoor
open Go.Ax
abbrev Ix:=Zg
theorem xR(u:Int×Int×cD×Ix×Int×Int×Bool×(Ze)×Unit×(Zk)×(Zh)×(Zl)×j7×B3×(Zy)):
 ∀(n:Nat)(a:Int)(c:Zy) (o),kN n (u.1,a,u.2.2.1,u.2.2.2.1,u.2.2.2.2.1,u.2.2.2.2.2.1,u.2.2.2.2.2.2.1,u.2.2.2.2.2.2.2.1,u.2.2.2.2.2.2.2.2.1,u.2.2.2.2.2.2.2.2.2.1,u.2.2.2.2.2.2.2.2.2.2.1,u.2.2.2.2.2.2.2.2.2.2.2.1,u.2.2.2.2.2.2.2.2.2.2.2.2.1,u.2.2.2.2.2.2.2.2.2.2.2.2.2.1,c)=some o→
  ∃w,o= .brk (u.2.2.1,u.2.2.2.1,u.2.2.2.2.1,u.2.2.2.2.2.1,u.2.2.2.2.2.2.1,u.2.2.2.2.2.2.2.1,u.2.2.2.2.2.2.2.2.1,u.2.2.2.2.2.2.2.2.2.1,u.2.2.2.2.2.2.2.2.2.2.1,u.2.2.2.2.2.2.2.2.2.2.2.1,u.2.2.2.2.2.2.2.2.2.2.2.2.2.1,w):=by
 intro n
 induction n with
 |zero=>intro a c o h;cases h
 |
  succ n ih=>
  intro a c o h
  unfold kN at ih h
  rw[aO] at h
  generalize aM _ n=rec at ih h
  simp only at h
  split at h
  ·split at h
   ·exact ih _ _ _ h
   ·cases h
  ·cases h;exact⟨c,rfl⟩
theorem BG{a0:j7}{a1:cD}{a2:Ix}{a3:Int}{a4:Int}{a5:Bool}{a6:Ze}{a7:Unit}{a8:Zk}{a9:Zh}{a10:Zl}{r}
 (h:gN a0 a1 a2 a3 a4 a5 a6 a7 a8 a9 a10=some r):∃w,r=(a1,a2,a3,a4,a5,a6,a7,a8,a9,a10,w):=by
 unfold gN at h
 rcases Cp h with⟨d,hd,h⟩|hd
 ·have key:∃k w,d=(a1,a2,a3,a4,a5,a6,a7,a8,a9,a10,k,w):=by
   obtain⟨v2,_,hd⟩:=bind_some hd
   split at hd
   ·split at hd
    ·split at hd
     ·obtain⟨w,e⟩:=xR ((List.length ((((((nth aU a1.1.1.2.2.1 a0.1).2).2).2).2).1):Int),0,a1,a2,a3,a4,a5,a6,a7,a8,a9,a10,a0,a1.1,[]) _ 0 [] _ hd
      cases e;exact⟨_,_,rfl⟩
     ·cases hd
    ·cases hd
   ·cases hd;exact⟨_,_,rfl⟩
  obtain⟨k,w,rfl⟩:=key
  cases h;exact⟨_,rfl⟩
 ·obtain⟨v2,_,hd⟩:=bind_some hd
  split at hd
  ·split at hd
   ·split at hd
    ·obtain⟨w,e⟩:=xR ((List.length ((((((nth aU a1.1.1.2.2.1 a0.1).2).2).2).2).1):Int),0,a1,a2,a3,a4,a5,a6,a7,a8,a9,a10,a0,a1.1,[]) _ 0 [] _ hd
     cases e
    ·cases hd
   ·cases hd
  ·cases hd
def Vm:type_of% jn:=fun q0 q1 a0 a1 a2 a3 a4 a5 a6 a7 a8 a9 a10=>
 if(
  de bS a0 a8)=true then jn q0 q1 a0 a1 a2 a3 a4 a5 a6 a7 a8 a9 a10 else if(bE (.int .i64) .bool a0.1 (bK a6))=true then jn q0 q1 a0 a1 a2 a3 a4 a5 a6 a7 a8 a9 a10 else
  Option.bind (gN a0 a1 a2 a3 a4 a5 a6 a7 a8 a9 a10) fun⟨_,_,_,_,_,_,_,_,_,_,k⟩=>Option.bind (f77 k a0.1 a0.2.1 a0.2.2.1 a3 a4) fun⟨n,m,l⟩=>Option.bind (ng l) fun y4=>
   Option.bind (iu a10 y4 a1 a2 a3 a4 a5 a6 a7 a8 a9) fun⟨_,z,aa,ab,ac,ad,ae,af,y,ak,al⟩=>
    if List.length y+1≤aG then(some (z,aa,ab,ac,ad,ae,af,bF bS a0 (m,((0:Int),(([]:ZG),(n,())))) y,ak,(m,((0:Int),(([]:ZG),(n,())))),al)) else none
theorem R7:∀q0 q1 a0 a1 a2 a3 a4 a5 a6 a7 a8 a9 a10,Vm q0 q1 a0 a1 a2 a3 a4 a5 a6 a7 a8 a9 a10=jn q0 q1 a0 a1 a2 a3 a4 a5 a6 a7 a8 a9 a10:=by
 intro q0 q1 a0 a1 a2 a3 a4 a5 a6 a7 a8 a9 a10
 unfold Vm
 by_cases h1:de bS a0 a8=true
 ·rw[aA h1]
 ·rw[aD h1]
  by_cases h2:bE (.int .i64) .bool a0.1 (bK a6)=true
  ·rw[aA h2]
  ·rw[aD h2]
   unfold jn
   rw[aD h1,aD h2]
   cases hb:gN a0 a1 a2 a3 a4 a5 a6 a7 a8 a9 a10 with
   |none=>rfl
   |
    some x=>
    obtain⟨w,rfl⟩:=BG hb
    simp only[aK,iK]
    cases h10:f77 w a0.1 a0.2.1 a0.2.2.1 a3 a4 with
    |none=>rfl
    |
     some x=>
     simp only[aK]
     cases h4:ng x.2.2 with
     |none=>rfl
     |
      some y4=>
      simp only[aK]
      cases h3:iu a10 y4 a1 a2 a3 a4 a5 a6 a7 a8 a9 with
      |none=>rfl
      |some z=>simp only[aK,aJ]
abbrev LA0:=j7×cD×Ix×Int×Int×Bool×(Ze)×Unit×(Zk)×(Zh)×(Zl)×Unit
abbrev LK0:=LA0→Option (cD×Ix×Int×Int×Bool×(Ze)×Unit×(Zk)×(Zh)×IJ×(Zl))
abbrev LA1:=iA×Int×(ZG)×cD×Ix×Int×Int×Bool×(Ze)×Unit×(Zk)×(Zh)×(Zl)×Unit
abbrev LK1:=LA1→Option (Bool×iA×Int×cD×Ix×Int×Int×Bool×(Ze)×Unit×(Zk)×(Zh)×(ZG)×(Zl))
def gC:Nat→LK0×LK1:=@Nat.rec (fun _=>LK0×LK1) (fun _=>none,fun _=>none) (fun _ ih=>(fun d=>Vm ih.1 ih.2 d.1 d.2.1 d.2.2.1 d.2.2.2.1 d.2.2.2.2.1 d.2.2.2.2.2.1 d.2.2.2.2.2.2.1 d.2.2.2.2.2.2.2.1 d.2.2.2.2.2.2.2.2.1 d.2.2.2.2.2.2.2.2.2.1 d.2.2.2.2.2.2.2.2.2.2.1,fun d=>jz ih.1 ih.2 d.1 d.2.1 d.2.2.1 d.2.2.2.1 d.2.2.2.2.1 d.2.2.2.2.2.1 d.2.2.2.2.2.2.1 d.2.2.2.2.2.2.2.1 d.2.2.2.2.2.2.2.2.1 d.2.2.2.2.2.2.2.2.2.1 d.2.2.2.2.2.2.2.2.2.2.1 d.2.2.2.2.2.2.2.2.2.2.2.1 d.2.2.2.2.2.2.2.2.2.2.2.2.1))
theorem PI(n:Nat):gC n=fe n:=by
 induction n with
 |zero=>rfl
 |
  succ n ih=>
  show((fun d:LA0=>Vm (gC n).1 (gC n).2 d.1 d.2.1 d.2.2.1 d.2.2.2.1 d.2.2.2.2.1 d.2.2.2.2.2.1 d.2.2.2.2.2.2.1 d.2.2.2.2.2.2.2.1 d.2.2.2.2.2.2.2.2.1 d.2.2.2.2.2.2.2.2.2.1 d.2.2.2.2.2.2.2.2.2.2.1),(fun d:LA1=>jz (gC n).1 (gC n).2 d.1 d.2.1 d.2.2.1 d.2.2.2.1 d.2.2.2.2.1 d.2.2.2.2.2.1 d.2.2.2.2.2.2.1 d.2.2.2.2.2.2.2.1 d.2.2.2.2.2.2.2.2.1 d.2.2.2.2.2.2.2.2.2.1 d.2.2.2.2.2.2.2.2.2.2.1 d.2.2.2.2.2.2.2.2.2.2.2.1 d.2.2.2.2.2.2.2.2.2.2.2.2.1))=((fun d:LA0=>jn (fe n).1 (fe n).2 d.1 d.2.1 d.2.2.1 d.2.2.2.1 d.2.2.2.2.1 d.2.2.2.2.2.1 d.2.2.2.2.2.2.1 d.2.2.2.2.2.2.2.1 d.2.2.2.2.2.2.2.2.1 d.2.2.2.2.2.2.2.2.2.1 d.2.2.2.2.2.2.2.2.2.2.1),(fun d:LA1=>jz (fe n).1 (fe n).2 d.1 d.2.1 d.2.2.1 d.2.2.2.1 d.2.2.2.2.1 d.2.2.2.2.2.1 d.2.2.2.2.2.2.1 d.2.2.2.2.2.2.2.1 d.2.2.2.2.2.2.2.2.1 d.2.2.2.2.2.2.2.2.2.1 d.2.2.2.2.2.2.2.2.2.2.1 d.2.2.2.2.2.2.2.2.2.2.2.1 d.2.2.2.2.2.2.2.2.2.2.2.2.1))
  rw[ih]
  congr 1
  funext d
  exact R7 ..
def iy(a0:j7)(a1:cD)(a2:Ix)(a3:Int)(a4:Int)(a5:Bool)(a6:Ze)(a7:Unit)(a8:Zk)(a9:Zh)(a10:Zl):Option (cD×Ix×Int×Int×Bool×(Ze)×Unit×(Zk)×(Zh)×IJ×(Zl)):=
 if(
  de bS a0 a8)=true then lv a0 a1 a2 a3 a4 a5 a6 a7 a8 a9 a10 else if(bE (.int .i64) .bool a0.1 (bK a6))=true then(gC gn).1 (a0,a1,a2,a3,a4,a5,a6,a7,a8,a9,a10,()) else
  Option.bind (gN a0 a1 a2 a3 a4 a5 a6 a7 a8 a9 a10) fun⟨_,_,_,_,_,_,_,_,_,_,k⟩=>Option.bind (f77 k a0.1 a0.2.1 a0.2.2.1 a3 a4) fun⟨n,m,l⟩=>Option.bind (ng l) fun y4=>
   Option.bind (iu a10 y4 a1 a2 a3 a4 a5 a6 a7 a8 a9) fun⟨_,z,aa,ab,ac,ad,ae,af,y,ak,al⟩=>
    if List.length y+1≤aG then(some (z,aa,ab,ac,ad,ae,af,bF bS a0 (m,((0:Int),(([]:ZG),(n,())))) y,ak,(m,((0:Int),(([]:ZG),(n,())))),al)) else none
theorem Ki{a0:j7}{a1:cD}{a2:Ix}{a3:Int}{a4:Int}{a5:Bool}{a6:Ze}{a7:Unit}{a8:Zk}{a9:Zh}{a10:Zl}{r}
 (h:iy a0 a1 a2 a3 a4 a5 a6 a7 a8 a9 a10=some r):lv a0 a1 a2 a3 a4 a5 a6 a7 a8 a9 a10=some r:=by
 unfold iy at h
 split at h
 ·exact h
 ·rename_i h1
  split at h
  ·rw[PI] at h
   exact h
  ·have e:lv a0 a1 a2 a3 a4 a5 a6 a7 a8 a9 a10=jn (fe 18446744073709551615).1 (fe 18446744073709551615).2 a0 a1 a2 a3 a4 a5 a6 a7 a8 a9 a10:=rfl
   rw[e]
   unfold jn
   rw[aD h1]
   rename_i h2
   rw[aD h2]
   cases hb:gN a0 a1 a2 a3 a4 a5 a6 a7 a8 a9 a10 with
   |none=>rw[hb] at h;cases h
   |
    some x=>
    obtain⟨w,rfl⟩:=BG hb
    rw[hb] at h
    simp only[aK,iK] at h ⊢
    cases h10:f77 w a0.1 a0.2.1 a0.2.2.1 a3 a4 with
    |none=>rw[h10] at h;cases h
    |
     some x=>
     rw[h10] at h
     simp only[aK] at h ⊢
     cases h4:ng x.2.2 with
     |none=>rw[h4] at h;cases h
     |
      some y4=>
      rw[h4] at h
      simp only[aK] at h ⊢
      cases h3:iu a10 y4 a1 a2 a3 a4 a5 a6 a7 a8 a9 with
      |none=>rw[h3] at h;cases h
      |
       some z=>
       rw[h3] at h
       simp only[aK,aJ] at h ⊢
       exact h
def Kj:aX:=aE G [.cell 4 88] 42 [(pP 0),(.val bS)] [(0,(fB 1 2 3)),(1,(.map bS fC)),(2,(.map bJ .bool)),(3,(.row 64 40 bJ))] 115 CK [0,1,2,93] (.bC (ET iy))
theorem BH:hS Kj:=aX.sub LA fun _ _ h=>Ki h
end Go.Proofs.YtaghhonjcdokjaaGreatDoor
