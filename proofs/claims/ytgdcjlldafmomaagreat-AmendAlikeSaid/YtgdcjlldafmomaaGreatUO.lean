/- part -/
import Derived.Test.YtgdcjlldafmomaaGreatF4
import Derived.Test.YtgdcjlldafmomaaGreatA5
noncomputable section
namespace Go.Proofs.YtgdcjlldafmomaaGreat
open Go.Ax
theorem b3O(y:YC)(x:Int)(acc:Ze)(h:(acc.length+1)*8≤aE):gD y x y 0 (y.gs 1) acc=some (true,y,0,y.gs 1,acc++[x]):=by
 unfold gD
 rw[eR]
 simp only[bC,dE,jA,cZ,aA h,aH,Nat.beq]
theorem Ks:fJ=18446744073709551614+1+1:=rfl
abbrev Jt(y:YC):ZE:=fun d=>gD y d.1 d.2.1 d.2.2.1 d.2.2.2.1 d.2.2.2.2.1
theorem l9O(y:YC):eM y.l (Jt y) fJ (y.l,[[]],y,0,y.gs 1,[0],[0],[])=some (.brk (y,0,y.gs 1,[0])):=by
 unfold eM
 rw[Ks,aM]
 have h1:f150 [0]=some 1:=by kernel_rfl
 have h2:oZ [0]=some (0,[]):=by kernel_rfl
 have h3:f150 []=some 0:=by kernel_rfl
 have h4:eH y.l (Jt y) (Int.toNat (List.length (nth (.slice 8 (.int .i64)) [[]] 0):Int)+1) (y.l,[[]],nth (.slice 8 (.int .i64)) [[]] 0,(List.length (nth (.slice 8 (.int .i64)) [[]] 0):Int),0,y,0,y.gs 1,[0],[0],[])=some (.brk (y.l,[[]],y,0,y.gs 1,[0],[0],[])):=by kernel_rfl
 have h5:Jt y (0,y,0,y.gs 1,[],())=some (true,y,0,y.gs 1,[0]):=b3O y 0 [] (by decide)
 have d1:decide ((0:Int)<1)=true:=rfl
 have d0:decide ((0:Int)<0)=false:=rfl
 have hl:((0:Int)<(List.length [([]:Ze)]:Int))=True:=by simp
 simp only[h1,h2,h5,d1,hl,aH,aI,bC,kA,cm,bP,jW,h4]
 rw[aM]
 simp only[h3,d0,aH,cm,bP]
theorem UR(y:YC):eM y.l (Jt y) fJ (y.l,[],y,0,y.gs 1,[],[],[])=some (.brk (y,0,y.gs 1,[])):=by
 unfold eM
 rw[Ks,aM]
 have h3:f150 []=some 0:=by kernel_rfl
 simp only[h3,aH,show decide ((0:Int)<0)=false from rfl,cm,bP]
theorem LJ(y:YC)(m:Option ZN)(hm:bU m= []):
 jf y.l (Jt y) y.l (1,m,()) y 0 (y.gs 1) []=some (y,0,y.gs 1,[0]):=by
 have hm:m=none∨m=some []:=by
  cases m with
  |none=>exact Or.inl rfl
  |some l=>exact Or.inr (cV some hm)
 unfold jf
 have h1:f148 (1,m,())=some [[]]:=by rcases hm with rfl|rfl<;>kernel_rfl
 have h2:eK y.l (Jt y) (Int.toNat 1+1) (y.l,(1,m,()),[[]],1,0,y,0,y.gs 1,[],List.replicate (Int.toNat 1) (0:Int),([]:Ze))=some (.brk (y.l,[[]],y,0,y.gs 1,[],[0],[0])):=by rcases hm with rfl|rfl<;>kernel_rfl
 simp only[h1,aH,h2,aI,l9O]
 rfl
theorem Ju(y:YC)(m:Option ZN)(hm:bU m= []):
 jf y.l (Jt y) y.l (0,m,()) y 0 (y.gs 1) []=some (y,0,y.gs 1,[]):=by
 have hm:m=none∨m=some []:=by
  cases m with
  |none=>exact Or.inl rfl
  |some l=>exact Or.inr (cV some hm)
 unfold jf
 have h1:f148 (0,m,())=some []:=by rcases hm with rfl|rfl<;>kernel_rfl
 have h2:eK y.l (Jt y) (Int.toNat 0+1) (y.l,(0,m,()),[],0,0,y,0,y.gs 1,[],List.replicate (Int.toNat 0) (0:Int),([]:Ze))=some (.brk (y.l,[],y,0,y.gs 1,[],[],[])):=by rcases hm with rfl|rfl<;>kernel_rfl
 simp only[h1,aH,h2,aI,UR]
 rfl
def sr(g:dW):Option Ze:=if List.isEmpty (bU g.2.1)=true then(if g.1=0 then some [] else if g.1=1 then some [0] else mj g) else mj g
theorem FY{g:dW}{r:Ze}(h:∀y:YC,jf y.l (Jt y) y.l g y 0 (y.gs 1) []=some (y,0,y.gs 1,r)):mj g=some r:=by
 unfold mj rZ
 rw[mK (r:=.brk r)]
 ·rfl
 ·intro y
  erw[h y]
  simp only[aH,eR,bC]
theorem zz(g:dW):sr g=mj g:=by
 obtain⟨n,m,u⟩:=g
 unfold sr
 split
 ·rename_i hm0
  have hm:bU m= []:=List.isEmpty_iff.1 hm0
  split
  ·rename_i hn
   have hn:n=0:=hn
   subst hn
   exact(FY fun y=>Ju y m hm).symm
  ·split
   ·rename_i hn
    have hn:n=1:=hn
    subst hn
    exact(FY fun y=>LJ y m hm).symm
   ·rfl
 ·rfl
def Jv:aW:=aF G [.tmp 2] 71 [(.func 147 .nil (.cons (.bN lV) .nil))] [] 45 Ns [] (.bH (u1 sr))
theorem Jw:hS Jv:=aW.sub Lg fun _ _ h=>(zz _).symm.trans h
end Go.Proofs.YtgdcjlldafmomaaGreat
