/- part -/
import Derived.Test.YtkhfnbfpgcjllaaGreatDoorF6
import Derived.Test.YtkhfnbfpgcjllaaGreatDoorA5
noncomputable section
namespace Go.Proofs.YtkhfnbfpgcjllaaGreatDoor
open Go.Ax
theorem b3O(y:YC)(x:Int)(acc:Zd)(h:(acc.length+1)*8≤aF):kA y x y 0 (y.gs 1) acc=some (true,y,0,y.gs 1,acc++[x]):=by
 unfold kA
 rw[gw]
 simp only[cC,da,fO,ek,aA h,aD,Nat.beq]
theorem UE:dA=18446744073709551614+1+1:=rfl
abbrev GK(y:YC):ZO:=fun d=>kA y d.1 d.2.1 d.2.2.1 d.2.2.2.1 d.2.2.2.2.1
theorem l9O(y:YC):gP y.l (GK y) dA (y.l,[[]],y,0,y.gs 1,[0],[0],[])=some (.aS (y,0,y.gs 1,[0])):=by
 unfold gP
 rw[UE,aK]
 have h1:A5 [0]=some 1:=by kernel_rfl
 have h2:pY [0]=some (0,[]):=by kernel_rfl
 have h3:A5 []=some 0:=by kernel_rfl
 have h4:gF y.l (GK y) (Int.toNat (List.length (nth (.slice 8 (.int .i64)) [[]] 0):Int)+1) (y.l,[[]],nth (.slice 8 (.int .i64)) [[]] 0,(List.length (nth (.slice 8 (.int .i64)) [[]] 0):Int),(0:Int),y,0,y.gs 1,[0],[0],[])=some (.aS (y.l,[[]],y,0,y.gs 1,[0],[0],[])):=by kernel_rfl
 have h5:GK y (0,y,0,y.gs 1,[],())=some (true,y,0,y.gs 1,[0]):=b3O y 0 [] (by decide)
 have d1:decide ((0:Int)<1)=true:=rfl
 have d0:decide ((0:Int)<0)=false:=rfl
 have hl:((0:Int)<(List.length [([]:Zd)]:Int))=True:=by simp
 simp only[h1,h2,h5,d1,hl,aD,aC,cC,tC,dv,dc,fQ,h4]
 rw[aK]
 simp only[h3,d0,aD,dv,dc]
theorem ahw(y:YC):gP y.l (GK y) dA (y.l,[],y,0,y.gs 1,[],[],[])=some (.aS (y,0,y.gs 1,[])):=by
 unfold gP
 rw[UE,aK]
 have h3:A5 []=some 0:=by kernel_rfl
 simp only[h3,aD,show decide ((0:Int)<0)=false from rfl,dv,dc]
theorem WA(y:YC)(m:Option ZS)(hm:bA m= []):
 lf y.l (GK y) y.l (1,m,()) y 0 (y.gs 1) []=some (y,0,y.gs 1,[0]):=by
 have hm:m=none∨m=some []:=by
  cases m with
  |none=>exact Or.inl rfl
  |some l=>exact Or.inr (congrArg some hm)
 unfold lf
 have h1:EB (1,m,())=some [[]]:=by rcases hm with rfl|rfl<;>kernel_rfl
 have h2:iv y.l (GK y) (Int.toNat 1+1) (y.l,(1,m,()),[[]],1,(0:Int),y,0,y.gs 1,[],List.replicate (Int.toNat 1) (0:Int),([]:Zd))=some (.aS (y.l,[[]],y,0,y.gs 1,[],[0],[0])):=by rcases hm with rfl|rfl<;>kernel_rfl
 simp only[h1,aD,h2,aC,l9O]
 rfl
theorem Sa(y:YC)(m:Option ZS)(hm:bA m= []):
 lf y.l (GK y) y.l (0,m,()) y 0 (y.gs 1) []=some (y,0,y.gs 1,[]):=by
 have hm:m=none∨m=some []:=by
  cases m with
  |none=>exact Or.inl rfl
  |some l=>exact Or.inr (congrArg some hm)
 unfold lf
 have h1:EB (0,m,())=some []:=by rcases hm with rfl|rfl<;>kernel_rfl
 have h2:iv y.l (GK y) (Int.toNat 0+1) (y.l,(0,m,()),[],0,(0:Int),y,0,y.gs 1,[],List.replicate (Int.toNat 0) (0:Int),([]:Zd))=some (.aS (y.l,[],y,0,y.gs 1,[],[],[])):=by rcases hm with rfl|rfl<;>kernel_rfl
 simp only[h1,aD,h2,aC,ahw]
 rfl
def WC:ZS→Bool
 |[(k,some [(x,b)])]=>decide (k=1)&&(decide (x=0)&&b)
 |_=>false
theorem Sb:∀{m:ZS},WC m=true→m= [(1,some [(0,true)])]
 |
  [(k,some [(x,b)])],h=>by
  unfold WC at h
  rw[bP,bP] at h
  obtain⟨h1,h2,h3⟩:=h
  rw[bY h1,bY h2,h3]
 |[],h=>by cases h
 |[(_,none)],h=>by cases h
 |[(_,some [])],h=>by cases h
 |[(_,some (_::_::_))],h=>by cases h
 |(_,none)::_::_,h=>by cases h
 |(_,some [])::_::_,h=>by cases h
 |(_,some [_])::_::_,h=>by cases h
 |(_,some (_::_::_))::_::_,h=>by cases h
abbrev gO:gV:=(2,some [((1:Int),some [((0:Int),true)])],())
theorem u6O(b c:Int)(d:gV):pv 2 (1,b,c,d,[[],[]],[(0,true)])=some (.aS (b,c,d,[[1],[]])):=by
 unfold pv
 rw[show(2:Nat)=1+1 from rfl,aK]
 dsimp only
 rw[aB (by decide)]
 refine Lm (by decide) fun i hi=>?_
 have e:i=0:=by rw[bD] at hi;omega
 subst e
 rfl
theorem WD:EB gO=some [[1],[]]:=by
 have h0:∀b c:Int,pv (List.length (bA (aO (.int .i64) (.map (.int .i64) .bool) (0:Int) (bA gO.2.1)))+1) (0,b,c,gO,[[],[]],bA (aO (.int .i64) (.map (.int .i64) .bool) (0:Int) (bA gO.2.1)))=some (.aS (b,c,gO,[[],[]])):=fun _ _=>rfl
 have h1:∀b c:Int,pv (List.length (bA (aO (.int .i64) (.map (.int .i64) .bool) (1:Int) (bA gO.2.1)))+1) (1,b,c,gO,[[],[]],bA (aO (.int .i64) (.map (.int .i64) .bool) (1:Int) (bA gO.2.1)))=some (.aS (b,c,gO,[[1],[]])):=fun b c=>u6O b c gO
 have e:pw 3 (2,0,gO,[[],[]])=some (.aS [[1],[]]):=by
  unfold pw
  rw[show(3:Nat)=0+1+1+1 from rfl,aK]
  dsimp only
  rw[aA (by decide),h0,aC]
  dsimp only
  rw[aK,show aQ ((0:Int)+(1:Int))=1 from rfl]
  dsimp only
  rw[aA (by decide),h1,aC]
  dsimp only
  rw[aK,show aQ ((1:Int)+(1:Int))=2 from rfl]
  dsimp only
  rw[aB (by decide)]
 unfold EB
 have e':pw (Int.toNat gO.1+1) (gO.1,(0:Int),gO,List.replicate (Int.toNat gO.1) [])=some (.aS [[1],[]]):=e
 rw[aA (by decide),aA (by decide),aA (by decide),e',aC]
theorem ahx(y:YC):gP y.l (GK y) dA (y.l,[[1],[]],y,0,y.gs 1,[0,1],[0],[])=some (.aS (y,0,y.gs 1,[0,1])):=by
 unfold gP
 rw[show dA=18446744073709551613+1+1+1 from rfl,aK]
 have h1:A5 [0]=some 1:=by kernel_rfl
 have h1':A5 [1]=some 1:=by kernel_rfl
 have h2:pY [0]=some (0,[]):=by kernel_rfl
 have h2':pY [1]=some (1,[]):=by kernel_rfl
 have h3:A5 []=some 0:=by kernel_rfl
 have h4:gF y.l (GK y) (Int.toNat (List.length (nth (.slice 8 (.int .i64)) [[1],[]] 0):Int)+1) (y.l,[[1],[]],nth (.slice 8 (.int .i64)) [[1],[]] 0,(List.length (nth (.slice 8 (.int .i64)) [[1],[]] 0):Int),(0:Int),y,0,y.gs 1,[0,1],[0],[])=some (.aS (y.l,[[1],[]],y,0,y.gs 1,[0,0],[0],[1])):=by kernel_rfl
 have h4':gF y.l (GK y) (Int.toNat (List.length (nth (.slice 8 (.int .i64)) [[1],[]] 1):Int)+1) (y.l,[[1],[]],nth (.slice 8 (.int .i64)) [[1],[]] 1,(List.length (nth (.slice 8 (.int .i64)) [[1],[]] 1):Int),(0:Int),y,0,y.gs 1,[0,0],[0,1],[])=some (.aS (y.l,[[1],[]],y,0,y.gs 1,[0,0],[0,1],[])):=by kernel_rfl
 have h5:GK y (0,y,0,y.gs 1,[],())=some (true,y,0,y.gs 1,[0]):=b3O y 0 [] (by decide)
 have h5':GK y (1,y,0,y.gs 1,[0],())=some (true,y,0,y.gs 1,[0,1]):=b3O y 1 [0] (by decide)
 have d1:decide ((0:Int)<1)=true:=rfl
 have d0:decide ((0:Int)<0)=false:=rfl
 have hl:((0:Int)<(List.length [[(1:Int)],[]]:Int))=True:=by simp
 have hl':((1:Int)<(List.length [[(1:Int)],[]]:Int))=True:=by simp
 have p1:((0:Int)≤1)=True:=by simp
 simp only[h1,h2,h5,d1,hl,aD,aC,cC,tC,dv,dc,fQ,h4]
 rw[aK]
 simp only[h1',h2',h5',d1,hl',p1,aD,aC,cC,tC,dv,dc,h4']
 rw[aK]
 simp only[h3,d0,aD,dv,dc]
theorem WE(y:YC):lf y.l (GK y) y.l gO y 0 (y.gs 1) []=some (y,0,y.gs 1,[0,1]):=by
 unfold lf
 have h2:iv y.l (GK y) (Int.toNat 2+1) (y.l,gO,[[1],[]],2,(0:Int),y,0,y.gs 1,[],List.replicate (Int.toNat 2) (0:Int),([]:Zd))=some (.aS (y.l,[[1],[]],y,0,y.gs 1,[],[0,1],[0])):=by kernel_rfl
 simp only[WD,aD,h2,aC,ahx]
 rfl
def yp(g:gV):Option Zd:=if List.isEmpty (bA g.2.1)=true then(if g.1=0 then some [] else if g.1=1 then some [0] else pZ g) else if g.1=2 then(if WC (bA g.2.1)=true then some [0,1] else pZ g) else pZ g
theorem Ik{g:gV}{r:Zd}(h:∀y:YC,lf y.l (GK y) y.l g y 0 (y.gs 1) []=some (y,0,y.gs 1,r)):pZ g=some r:=by
 unfold pZ yn
 rw[oz (r:=.aS r)]
 ·rfl
 ·intro y
  erw[h y]
  simp only[aD,gw,cC]
theorem Fx(g:gV):yp g=pZ g:=by
 obtain⟨n,m,u⟩:=g
 unfold yp
 split
 ·rename_i hm0
  have hm:bA m= []:=List.isEmpty_iff.1 hm0
  split
  ·rename_i hn
   have hn:n=0:=hn
   subst hn
   exact(Ik fun y=>Sa y m hm).symm
  ·split
   ·rename_i hn
    have hn:n=1:=hn
    subst hn
    exact(Ik fun y=>WA y m hm).symm
   ·rfl
 ·split
  ·rename_i hn
   have hn:n=2:=hn
   subst hn
   split
   ·rename_i h2
    have hm:=Sb h2
    cases m with
    |none=>cases hm
    |
     some l=>
     have hm:l= [(1,some [(0,true)])]:=hm
     subst hm
     exact(Ik WE).symm
   ·rfl
  ·rfl
def Sd:bH:=aI G [.tmp 2] 95 [(.func 154 .nil (.cons (.dk rj) .nil))] [] 45 aal [] (.bZ (u1 yp))
theorem Se:hS Sd:=bH.sub Wt fun _ _ h=>(Fx _).symm.trans h
end Go.Proofs.YtkhfnbfpgcjllaaGreatDoor
