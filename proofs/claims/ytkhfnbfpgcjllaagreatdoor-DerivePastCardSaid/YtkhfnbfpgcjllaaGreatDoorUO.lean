/- part -/
import Derived.Test.YtkhfnbfpgcjllaaGreatDoorF6
import Derived.Test.YtkhfnbfpgcjllaaGreatDoorA5
noncomputable section
namespace Go.Proofs.YtkhfnbfpgcjllaaGreatDoor
open Go.Ax
theorem b3O(y:YC)(x:Int)(acc:Zd)(h:(acc.length+1)*8≤aF):kq y x y 0 (y.gs 1) acc=some (true,y,0,y.gs 1,acc++[x]):=by
 unfold kq
 rw[gn]
 simp only[cu,db,fZ,d9,aA h,aD,Nat.beq]
theorem Uy:dG=18446744073709551614+1+1:=rfl
abbrev GC(y:YC):ZN:=fun d=>kq y d.1 d.2.1 d.2.2.1 d.2.2.2.1 d.2.2.2.2.1
theorem l9O(y:YC):gI y.l (GC y) dG (y.l,[[]],y,0,y.gs 1,[0],[0],[])=some (.aX (y,0,y.gs 1,[0])):=by
 unfold gI
 rw[Uy,aK]
 have h1:AX [0]=some 1:=by kernel_rfl
 have h2:pK [0]=some (0,[]):=by kernel_rfl
 have h3:AX []=some 0:=by kernel_rfl
 have h4:gw y.l (GC y) (Int.toNat (List.length (nth (.slice 8 (.int .i64)) [[]] 0):Int)+1) (y.l,[[]],nth (.slice 8 (.int .i64)) [[]] 0,(List.length (nth (.slice 8 (.int .i64)) [[]] 0):Int),(0:Int),y,0,y.gs 1,[0],[0],[])=some (.aX (y.l,[[]],y,0,y.gs 1,[0],[0],[])):=by kernel_rfl
 have h5:GC y (0,y,0,y.gs 1,[],())=some (true,y,0,y.gs 1,[0]):=b3O y 0 [] (by decide)
 have d1:decide ((0:Int)<1)=true:=rfl
 have d0:decide ((0:Int)<0)=false:=rfl
 have hl:((0:Int)<(List.length [([]:Zd)]:Int))=True:=by simp
 simp only[h1,h2,h5,d1,hl,aD,aC,cu,tj,dv,dc,fL,h4]
 rw[aK]
 simp only[h3,d0,aD,dv,dc]
theorem ahq(y:YC):gI y.l (GC y) dG (y.l,[],y,0,y.gs 1,[],[],[])=some (.aX (y,0,y.gs 1,[])):=by
 unfold gI
 rw[Uy,aK]
 have h3:AX []=some 0:=by kernel_rfl
 simp only[h3,aD,show decide ((0:Int)<0)=false from rfl,dv,dc]
theorem Wv(y:YC)(m:Option ZR)(hm:bC m= []):
 kZ y.l (GC y) y.l (1,m,()) y 0 (y.gs 1) []=some (y,0,y.gs 1,[0]):=by
 have hm:m=none∨m=some []:=by
  cases m with
  |none=>exact Or.inl rfl
  |some l=>exact Or.inr (congrArg some hm)
 unfold kZ
 have h1:Ev (1,m,())=some [[]]:=by rcases hm with rfl|rfl<;>kernel_rfl
 have h2:il y.l (GC y) (Int.toNat 1+1) (y.l,(1,m,()),[[]],1,(0:Int),y,0,y.gs 1,[],List.replicate (Int.toNat 1) (0:Int),([]:Zd))=some (.aX (y.l,[[]],y,0,y.gs 1,[],[0],[0])):=by rcases hm with rfl|rfl<;>kernel_rfl
 simp only[h1,aD,h2,aC,l9O]
 rfl
theorem R5(y:YC)(m:Option ZR)(hm:bC m= []):
 kZ y.l (GC y) y.l (0,m,()) y 0 (y.gs 1) []=some (y,0,y.gs 1,[]):=by
 have hm:m=none∨m=some []:=by
  cases m with
  |none=>exact Or.inl rfl
  |some l=>exact Or.inr (congrArg some hm)
 unfold kZ
 have h1:Ev (0,m,())=some []:=by rcases hm with rfl|rfl<;>kernel_rfl
 have h2:il y.l (GC y) (Int.toNat 0+1) (y.l,(0,m,()),[],0,(0:Int),y,0,y.gs 1,[],List.replicate (Int.toNat 0) (0:Int),([]:Zd))=some (.aX (y.l,[],y,0,y.gs 1,[],[],[])):=by rcases hm with rfl|rfl<;>kernel_rfl
 simp only[h1,aD,h2,aC,ahq]
 rfl
def Ww:ZR→Bool
 |[(k,some [(x,b)])]=>decide (k=1)&&(decide (x=0)&&b)
 |_=>false
theorem R6:∀{m:ZR},Ww m=true→m= [(1,some [(0,true)])]
 |
  [(k,some [(x,b)])],h=>by
  unfold Ww at h
  rw[bM,bM] at h
  obtain⟨h1,h2,h3⟩:=h
  rw[bX h1,bX h2,h3]
 |[],h=>by cases h
 |[(_,none)],h=>by cases h
 |[(_,some [])],h=>by cases h
 |[(_,some (_::_::_))],h=>by cases h
 |(_,none)::_::_,h=>by cases h
 |(_,some [])::_::_,h=>by cases h
 |(_,some [_])::_::_,h=>by cases h
 |(_,some (_::_::_))::_::_,h=>by cases h
abbrev gO:gN:=(2,some [((1:Int),some [((0:Int),true)])],())
theorem u6O(b c:Int)(d:gN):o9 2 (1,b,c,d,[[],[]],[(0,true)])=some (.aX (b,c,d,[[1],[]])):=by
 unfold o9
 rw[show(2:Nat)=1+1 from rfl,aK]
 dsimp only
 rw[aB (by decide)]
 refine Lh (by decide) fun i hi=>?_
 have e:i=0:=by rw[bF] at hi;omega
 subst e
 rfl
theorem Wx:Ev gO=some [[1],[]]:=by
 have h0:∀b c:Int,o9 (List.length (bC (aO (.int .i64) (.map (.int .i64) .bool) (0:Int) (bC gO.2.1)))+1) (0,b,c,gO,[[],[]],bC (aO (.int .i64) (.map (.int .i64) .bool) (0:Int) (bC gO.2.1)))=some (.aX (b,c,gO,[[],[]])):=fun _ _=>rfl
 have h1:∀b c:Int,o9 (List.length (bC (aO (.int .i64) (.map (.int .i64) .bool) (1:Int) (bC gO.2.1)))+1) (1,b,c,gO,[[],[]],bC (aO (.int .i64) (.map (.int .i64) .bool) (1:Int) (bC gO.2.1)))=some (.aX (b,c,gO,[[1],[]])):=fun b c=>u6O b c gO
 have e:pa 3 (2,0,gO,[[],[]])=some (.aX [[1],[]]):=by
  unfold pa
  rw[show(3:Nat)=0+1+1+1 from rfl,aK]
  dsimp only
  rw[aA (by decide),h0,aC]
  dsimp only
  rw[aK,show aV ((0:Int)+(1:Int))=1 from rfl]
  dsimp only
  rw[aA (by decide),h1,aC]
  dsimp only
  rw[aK,show aV ((1:Int)+(1:Int))=2 from rfl]
  dsimp only
  rw[aB (by decide)]
 unfold Ev
 have e':pa (Int.toNat gO.1+1) (gO.1,(0:Int),gO,List.replicate (Int.toNat gO.1) [])=some (.aX [[1],[]]):=e
 rw[aA (by decide),aA (by decide),aA (by decide),e',aC]
theorem ahr(y:YC):gI y.l (GC y) dG (y.l,[[1],[]],y,0,y.gs 1,[0,1],[0],[])=some (.aX (y,0,y.gs 1,[0,1])):=by
 unfold gI
 rw[show dG=18446744073709551613+1+1+1 from rfl,aK]
 have h1:AX [0]=some 1:=by kernel_rfl
 have h1':AX [1]=some 1:=by kernel_rfl
 have h2:pK [0]=some (0,[]):=by kernel_rfl
 have h2':pK [1]=some (1,[]):=by kernel_rfl
 have h3:AX []=some 0:=by kernel_rfl
 have h4:gw y.l (GC y) (Int.toNat (List.length (nth (.slice 8 (.int .i64)) [[1],[]] 0):Int)+1) (y.l,[[1],[]],nth (.slice 8 (.int .i64)) [[1],[]] 0,(List.length (nth (.slice 8 (.int .i64)) [[1],[]] 0):Int),(0:Int),y,0,y.gs 1,[0,1],[0],[])=some (.aX (y.l,[[1],[]],y,0,y.gs 1,[0,0],[0],[1])):=by kernel_rfl
 have h4':gw y.l (GC y) (Int.toNat (List.length (nth (.slice 8 (.int .i64)) [[1],[]] 1):Int)+1) (y.l,[[1],[]],nth (.slice 8 (.int .i64)) [[1],[]] 1,(List.length (nth (.slice 8 (.int .i64)) [[1],[]] 1):Int),(0:Int),y,0,y.gs 1,[0,0],[0,1],[])=some (.aX (y.l,[[1],[]],y,0,y.gs 1,[0,0],[0,1],[])):=by kernel_rfl
 have h5:GC y (0,y,0,y.gs 1,[],())=some (true,y,0,y.gs 1,[0]):=b3O y 0 [] (by decide)
 have h5':GC y (1,y,0,y.gs 1,[0],())=some (true,y,0,y.gs 1,[0,1]):=b3O y 1 [0] (by decide)
 have d1:decide ((0:Int)<1)=true:=rfl
 have d0:decide ((0:Int)<0)=false:=rfl
 have hl:((0:Int)<(List.length [[(1:Int)],[]]:Int))=True:=by simp
 have hl':((1:Int)<(List.length [[(1:Int)],[]]:Int))=True:=by simp
 have p1:((0:Int)≤1)=True:=by simp
 simp only[h1,h2,h5,d1,hl,aD,aC,cu,tj,dv,dc,fL,h4]
 rw[aK]
 simp only[h1',h2',h5',d1,hl',p1,aD,aC,cu,tj,dv,dc,h4']
 rw[aK]
 simp only[h3,d0,aD,dv,dc]
theorem Wy(y:YC):kZ y.l (GC y) y.l gO y 0 (y.gs 1) []=some (y,0,y.gs 1,[0,1]):=by
 unfold kZ
 have h2:il y.l (GC y) (Int.toNat 2+1) (y.l,gO,[[1],[]],2,(0:Int),y,0,y.gs 1,[],List.replicate (Int.toNat 2) (0:Int),([]:Zd))=some (.aX (y.l,[[1],[]],y,0,y.gs 1,[],[0,1],[0])):=by kernel_rfl
 simp only[Wx,aD,h2,aC,ahr]
 rfl
def yf(g:gN):Option Zd:=if List.isEmpty (bC g.2.1)=true then(if g.1=0 then some [] else if g.1=1 then some [0] else pL g) else if g.1=2 then(if Ww (bC g.2.1)=true then some [0,1] else pL g) else pL g
theorem Ie{g:gN}{r:Zd}(h:∀y:YC,kZ y.l (GC y) y.l g y 0 (y.gs 1) []=some (y,0,y.gs 1,r)):pL g=some r:=by
 unfold pL yd
 rw[oh (r:=.aX r)]
 ·rfl
 ·intro y
  erw[h y]
  simp only[aD,gn,cu]
theorem Fp(g:gN):yf g=pL g:=by
 obtain⟨n,m,u⟩:=g
 unfold yf
 split
 ·rename_i hm0
  have hm:bC m= []:=List.isEmpty_iff.1 hm0
  split
  ·rename_i hn
   have hn:n=0:=hn
   subst hn
   exact(Ie fun y=>R5 y m hm).symm
  ·split
   ·rename_i hn
    have hn:n=1:=hn
    subst hn
    exact(Ie fun y=>Wv y m hm).symm
   ·rfl
 ·split
  ·rename_i hn
   have hn:n=2:=hn
   subst hn
   split
   ·rename_i h2
    have hm:=R6 h2
    cases m with
    |none=>cases hm
    |
     some l=>
     have hm:l= [(1,some [(0,true)])]:=hm
     subst hm
     exact(Ie Wy).symm
   ·rfl
  ·rfl
def R7:bG:=aG G [.tmp 2] 95 [(.func 154 .nil (.cons (.dk qS) .nil))] [] 45 aah [] (.bY (u1 yf))
theorem R8:hS R7:=bG.sub Wn fun _ _ h=>(Fp _).symm.trans h
end Go.Proofs.YtkhfnbfpgcjllaaGreatDoor
