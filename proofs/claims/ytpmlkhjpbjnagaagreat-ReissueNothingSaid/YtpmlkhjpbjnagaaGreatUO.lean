/- part -/
import Derived.Test.YtpmlkhjpbjnagaaGreatF4
import Derived.Test.YtpmlkhjpbjnagaaGreatA5
noncomputable section
namespace Go.Proofs.YtpmlkhjpbjnagaaGreat
open Go.Ax
theorem b3O(y:YC)(x:Int)(acc:Zg)(h:(acc.length+1)*8≤aG):gG y x y 0 (y.gs 1) acc=some (true,y,0,y.gs 1,acc++[x]):=by
 unfold gG
 rw[fh]
 simp only[bU,d9,lO,dV,aA h,aL,Nat.beq]
theorem YV:eP=18446744073709551614+1+1:=rfl
abbrev LS(y:YC):ZO:=fun d=>gG y d.1 d.2.1 d.2.2.1 d.2.2.2.1 d.2.2.2.2.1
theorem ahX(y:YC):fc y.l (LS y) eP (y.l,[],y,0,y.gs 1,[],[],[])=some (.bA (y,0,y.gs 1,[])):=by
 unfold fc
 rw[YV,aN]
 have h3:CE []=some 0:=by kernel_rfl
 simp only[h3,aL,show decide ((0:Int)<0)=false from rfl,dr,cT]
theorem Re(y:YC)(m:Option ZY)(hm:bE m= []):
 jq y.l (LS y) y.l (0,m,()) y 0 (y.gs 1) []=some (y,0,y.gs 1,[]):=by
 have hm:m=none∨m=some []:=by
  cases m with
  |none=>exact Or.inl rfl
  |some l=>exact Or.inr (congrArg some hm)
 unfold jq
 have h1:Ey (0,m,())=some []:=by rcases hm with rfl|rfl<;>kernel_rfl
 have h2:fb y.l (LS y) (Int.toNat 0+1) (y.l,(0,m,()),[],0,0,y,0,y.gs 1,[],List.replicate (Int.toNat 0) (0:Int),([]:Zg))=some (.bA (y.l,[],y,0,y.gs 1,[],[],[])):=by rcases hm with rfl|rfl<;>kernel_rfl
 simp only[h1,aL,h2,aI,ahX]
 rfl
def UB:ZY→Bool
 |[(k,some [(x,b)])]=>decide (k=0)&&(decide (x=1)&&b)
 |_=>false
theorem Rf:∀{m:ZY},UB m=true→m= [(0,some [(1,true)])]
 |
  [(k,some [(x,b)])],h=>by
  unfold UB at h
  rw[bB,bB] at h
  obtain⟨h1,h2,h3⟩:=h
  rw[gM h1,gM h2,h3]
 |[],h=>by cases h
 |[(_,none)],h=>by cases h
 |[(_,some [])],h=>by cases h
 |[(_,some (_::_::_))],h=>by cases h
 |(_,none)::_::_,h=>by cases h
 |(_,some [])::_::_,h=>by cases h
 |(_,some [_])::_::_,h=>by cases h
 |(_,some (_::_::_))::_::_,h=>by cases h
abbrev gR:ef:=(2,some [((0:Int),some [((1:Int),true)])],())
theorem u6R(b c:Int)(d:ef):lD 2 (0,b,c,d,[[],[]],[(1,true)])=some (.bA (b,c,d,[[],[0]])):=by
 unfold lD
 rw[show(2:Nat)=1+1 from rfl,aN]
 dsimp only
 rw[aC (by decide)]
 refine tO (by decide) fun i hi=>?_
 have e:i=0:=by rw[db] at hi;omega
 subst e
 rfl
theorem UC:Ey gR=some [[],[0]]:=by
 have h0:∀b c:Int,lD (List.length (bE (aQ (.int .i64) (.map (.int .i64) .bool) (0:Int) (bE gR.2.1)))+1) (0,b,c,gR,[[],[]],bE (aQ (.int .i64) (.map (.int .i64) .bool) (0:Int) (bE gR.2.1)))=some (.bA (b,c,gR,[[],[0]])):=fun b c=>u6R b c gR
 have h1:∀b c:Int,lD (List.length (bE (aQ (.int .i64) (.map (.int .i64) .bool) (1:Int) (bE gR.2.1)))+1) (1,b,c,gR,[[],[0]],bE (aQ (.int .i64) (.map (.int .i64) .bool) (1:Int) (bE gR.2.1)))=some (.bA (b,c,gR,[[],[0]])):=fun _ _=>rfl
 have e:lE 3 (2,0,gR,[[],[]])=some (.bA [[],[0]]):=by
  unfold lE
  rw[show(3:Nat)=0+1+1+1 from rfl,aN]
  dsimp only
  rw[aA (by decide),h0,aI]
  dsimp only
  rw[aN,show aZ ((0:Int)+(1:Int))=1 from rfl]
  dsimp only
  rw[aA (by decide),h1,aI]
  dsimp only
  rw[aN,show aZ ((1:Int)+(1:Int))=2 from rfl]
  dsimp only
  rw[aC (by decide)]
 unfold Ey
 have e':lE (Int.toNat gR.1+1) (gR.1,0,gR,List.replicate (Int.toNat gR.1) [])=some (.bA [[],[0]]):=e
 rw[aA (by decide),aA (by decide),aA (by decide),e',aI]
theorem ahY(y:YC):fc y.l (LS y) eP (y.l,[[],[0]],y,0,y.gs 1,[1,0],[1],[])=some (.bA (y,0,y.gs 1,[1,0])):=by
 unfold fc
 rw[show eP=18446744073709551613+1+1+1 from rfl,aN]
 have h1:CE [1]=some 1:=by kernel_rfl
 have h1':CE [0]=some 1:=by kernel_rfl
 have h2:nB [1]=some (1,[]):=by kernel_rfl
 have h2':nB [0]=some (0,[]):=by kernel_rfl
 have h3:CE []=some 0:=by kernel_rfl
 have h4:eE y.l (LS y) (Int.toNat (List.length (nth (.slice 8 (.int .i64)) [[],[0]] 1):Int)+1) (y.l,[[],[0]],nth (.slice 8 (.int .i64)) [[],[0]] 1,(List.length (nth (.slice 8 (.int .i64)) [[],[0]] 1):Int),0,y,0,y.gs 1,[1,0],[1],[])=some (.bA (y.l,[[],[0]],y,0,y.gs 1,[0,0],[1],[0])):=by kernel_rfl
 have h4':eE y.l (LS y) (Int.toNat (List.length (nth (.slice 8 (.int .i64)) [[],[0]] 0):Int)+1) (y.l,[[],[0]],nth (.slice 8 (.int .i64)) [[],[0]] 0,(List.length (nth (.slice 8 (.int .i64)) [[],[0]] 0):Int),0,y,0,y.gs 1,[0,0],[1,0],[])=some (.bA (y.l,[[],[0]],y,0,y.gs 1,[0,0],[1,0],[])):=by kernel_rfl
 have h5:LS y (1,y,0,y.gs 1,[],())=some (true,y,0,y.gs 1,[1]):=b3O y 1 [] (by decide)
 have h5':LS y (0,y,0,y.gs 1,[1],())=some (true,y,0,y.gs 1,[1,0]):=b3O y 0 [1] (by decide)
 have d1:decide ((0:Int)<1)=true:=rfl
 have d0:decide ((0:Int)<0)=false:=rfl
 have hl:((0:Int)<(List.length [[],[(0:Int)]]:Int))=True:=by simp
 have hl':((1:Int)<(List.length [[],[(0:Int)]]:Int))=True:=by simp
 have p1:((0:Int)≤1)=True:=by simp
 simp only[h1,h2,h5,d1,hl',p1,aL,aI,bU,Bool.not_true,dr,cT,h4]
 rw[aN]
 simp only[h1',h2',h5',d1,hl,aL,aI,bU,Bool.not_true,dr,cT,jU,h4']
 rw[aN]
 simp only[h3,d0,aL,dr,cT]
theorem UD(y:YC):jq y.l (LS y) y.l gR y 0 (y.gs 1) []=some (y,0,y.gs 1,[1,0]):=by
 unfold jq
 have h2:fb y.l (LS y) (Int.toNat 2+1) (y.l,gR,[[],[0]],2,0,y,0,y.gs 1,[],List.replicate (Int.toNat 2) (0:Int),([]:Zg))=some (.bA (y.l,[[],[0]],y,0,y.gs 1,[],[1,0],[1])):=by kernel_rfl
 simp only[UC,aL,h2,aI,ahY]
 rfl
def qO(g:ef):Option Zg:=if List.isEmpty (bE g.2.1)=true then(if g.1=0 then some [] else jr g) else if g.1=2 then(if UB (bE g.2.1)=true then some [1,0] else jr g) else jr g
theorem G2{g:ef}{r:Zg}(h:∀y:YC,jq y.l (LS y) y.l g y 0 (y.gs 1) []=some (y,0,y.gs 1,r)):jr g=some r:=by
 unfold jr tM
 rw[nC (r:=.bA r)]
 ·rfl
 ·intro y
  erw[h y]
  simp only[aL,fh,bU]
theorem yx(g:ef):qO g=jr g:=by
 obtain⟨n,m,u⟩:=g
 unfold qO
 split
 ·rename_i hm0
  have hm:bE m= []:=List.isEmpty_iff.1 hm0
  split
  ·rename_i hn
   have hn:n=0:=hn
   subst hn
   exact(G2 fun y=>Re y m hm).symm
  ·rfl
 ·split
  ·rename_i hn
   have hn:n=2:=hn
   subst hn
   split
   ·rename_i h2
    have hm:=Rf h2
    cases m with
    |none=>cases hm
    |
     some l=>
     have hm:l= [(0,some [(1,true)])]:=hm
     subst hm
     exact(G2 UD).symm
   ·rfl
  ·rfl
def LU:aX:=aE G [.tmp 2] 143 [(.func 201 .nil (.cons (.cb oh) .nil))] [] 45 Xd [] (.bH (u1 qO))
theorem LV:hS LU:=aX.sub N1 fun _ _ h=>(yx _).symm.trans h
end Go.Proofs.YtpmlkhjpbjnagaaGreat
