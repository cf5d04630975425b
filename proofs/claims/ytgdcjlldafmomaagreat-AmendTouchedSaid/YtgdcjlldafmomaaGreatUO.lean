/- part -/
import Derived.Test.YtgdcjlldafmomaaGreatF6
import Derived.Test.YtgdcjlldafmomaaGreatA5
noncomputable section
namespace Go.Proofs.YtgdcjlldafmomaaGreat
open Go.Ax
theorem b3O(y:YC)(x:Int)(acc:Ze)(h:(acc.length+1)*8≤aE):gi y x y 0 (y.gs 1) acc=some (true,y,0,y.gs 1,acc++[x]):=by
 unfold gi
 rw[eP]
 simp only[bH,dH,jK,dN,aA h,aJ,Nat.beq]
theorem Lg:gD=18446744073709551614+1+1:=rfl
abbrev Jo(y:YC):ZE:=fun d=>gi y d.1 d.2.1 d.2.2.1 d.2.2.2.1 d.2.2.2.2.1
theorem l9O(y:YC):eG y.l (Jo y) gD (y.l,[[]],y,0,y.gs 1,[0],[0],[])=some (.brk (y,0,y.gs 1,[0])):=by
 unfold eG
 rw[Lg,aM]
 have h1:f150 [0]=some 1:=by kernel_rfl
 have h2:pg [0]=some (0,[]):=by kernel_rfl
 have h3:f150 []=some 0:=by kernel_rfl
 have h4:eC y.l (Jo y) (Int.toNat (List.length (nth (.slice 8 (.int .i64)) [[]] 0):Int)+1) (y.l,[[]],nth (.slice 8 (.int .i64)) [[]] 0,(List.length (nth (.slice 8 (.int .i64)) [[]] 0):Int),0,y,0,y.gs 1,[0],[0],[])=some (.brk (y.l,[[]],y,0,y.gs 1,[0],[0],[])):=by kernel_rfl
 have h5:Jo y (0,y,0,y.gs 1,[],())=some (true,y,0,y.gs 1,[0]):=b3O y 0 [] (by decide)
 have d1:decide ((0:Int)<1)=true:=rfl
 have d0:decide ((0:Int)<0)=false:=rfl
 have hl:((0:Int)<(List.length [([]:Ze)]:Int))=True:=by simp
 simp only[h1,h2,h5,d1,hl,aJ,aH,bH,oq,cJ,bY,kg,h4]
 rw[aM]
 simp only[h3,d0,aJ,cJ,bY]
theorem TT(y:YC):eG y.l (Jo y) gD (y.l,[],y,0,y.gs 1,[],[],[])=some (.brk (y,0,y.gs 1,[])):=by
 unfold eG
 rw[Lg,aM]
 have h3:f150 []=some 0:=by kernel_rfl
 simp only[h3,aJ,show decide ((0:Int)<0)=false from rfl,cJ,bY]
theorem Mr(y:YC)(m:Option ZN)(hm:bM m= []):
 iV y.l (Jo y) y.l (1,m,()) y 0 (y.gs 1) []=some (y,0,y.gs 1,[0]):=by
 have hm:m=none∨m=some []:=by
  cases m with
  |none=>exact Or.inl rfl
  |some l=>exact Or.inr (congrArg some hm)
 unfold iV
 have h1:f148 (1,m,())=some [[]]:=by rcases hm with rfl|rfl<;>kernel_rfl
 have h2:eF y.l (Jo y) (Int.toNat 1+1) (y.l,(1,m,()),[[]],1,0,y,0,y.gs 1,[],List.replicate (Int.toNat 1) (0:Int),([]:Ze))=some (.brk (y.l,[[]],y,0,y.gs 1,[],[0],[0])):=by rcases hm with rfl|rfl<;>kernel_rfl
 simp only[h1,aJ,h2,aH,l9O]
 rfl
theorem Jp(y:YC)(m:Option ZN)(hm:bM m= []):
 iV y.l (Jo y) y.l (0,m,()) y 0 (y.gs 1) []=some (y,0,y.gs 1,[]):=by
 have hm:m=none∨m=some []:=by
  cases m with
  |none=>exact Or.inl rfl
  |some l=>exact Or.inr (congrArg some hm)
 unfold iV
 have h1:f148 (0,m,())=some []:=by rcases hm with rfl|rfl<;>kernel_rfl
 have h2:eF y.l (Jo y) (Int.toNat 0+1) (y.l,(0,m,()),[],0,0,y,0,y.gs 1,[],List.replicate (Int.toNat 0) (0:Int),([]:Ze))=some (.brk (y.l,[],y,0,y.gs 1,[],[],[])):=by rcases hm with rfl|rfl<;>kernel_rfl
 simp only[h1,aJ,h2,aH,TT]
 rfl
def sf(g:dR):Option Ze:=if List.isEmpty (bM g.2.1)=true then(if g.1=0 then some [] else if g.1=1 then some [0] else lM g) else lM g
theorem Gy{g:dR}{r:Ze}(h:∀y:YC,iV y.l (Jo y) y.l g y 0 (y.gs 1) []=some (y,0,y.gs 1,r)):lM g=some r:=by
 unfold lM rF
 rw[mF (r:=.brk r)]
 ·rfl
 ·intro y
  erw[h y]
  simp only[aJ,eP,bH]
theorem zY(g:dR):sf g=lM g:=by
 obtain⟨n,m,u⟩:=g
 unfold sf
 split
 ·rename_i hm0
  have hm:bM m= []:=List.isEmpty_iff.1 hm0
  split
  ·rename_i hn
   have hn:n=0:=hn
   subst hn
   exact(Gy fun y=>Jp y m hm).symm
  ·split
   ·rename_i hn
    have hn:n=1:=hn
    subst hn
    exact(Gy fun y=>Mr y m hm).symm
   ·rfl
 ·rfl
def Jq:aW:=aF G [.tmp 2] 71 [(.func 147 .nil (.cons (.bL lH) .nil))] [] 45 NV [] (.bE (u1 sf))
theorem Jr:hS Jq:=aW.sub Lm fun _ _ h=>(zY _).symm.trans h
end Go.Proofs.YtgdcjlldafmomaaGreat
