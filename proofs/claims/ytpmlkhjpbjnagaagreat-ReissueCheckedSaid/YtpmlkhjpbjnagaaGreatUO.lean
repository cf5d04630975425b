/- part -/
import Derived.Test.YtpmlkhjpbjnagaaGreatF4
import Derived.Test.YtpmlkhjpbjnagaaGreatA5
noncomputable section
namespace Go.Proofs.YtpmlkhjpbjnagaaGreat
open Go.Ax
theorem Yt(y:YC)(x:Int)(acc:Zf)(h:(acc.length+1)*8≤aH):gD y x y 0 (y.gs 1) acc=some (true,y,0,y.gs 1,acc++[x]):=by
 simp_all[gD,gk]
theorem Yu:iw=18446744073709551614+1+1:=rfl
abbrev xY(y:YC):ZK:=fun d=>gD y d.1 d.2.1 d.2.2.1 d.2.2.2.1 d.2.2.2.2.1
theorem l9O(y:YC):dQ y.l (xY y) iw (y.l,[[]],y,0,y.gs 1,[0],[0],[])=some (.brk (y,0,y.gs 1,[0])):=by
 unfold dQ
 rw[Yu,aN]
 have h1:f204 [0]=some 1:=by trivial
 have h2:jj [0]=some (0,[]):=by trivial
 have h3:f204 []=some 0:=by trivial
 have h4:cZ y.l (xY y) (Int.toNat (List.length (nth (.slice 8 (.int .i64)) [[]] 0):Int)+1) (y.l,[[]],nth (.slice 8 (.int .i64)) [[]] 0,(List.length (nth (.slice 8 (.int .i64)) [[]] 0):Int),0,y,0,y.gs 1,[0],[0],[])=some (.brk (y.l,[[]],y,0,y.gs 1,[0],[0],[])):=by trivial
 have h5:xY y (0,y,0,y.gs 1,[],())=some (true,y,0,y.gs 1,[0]):=Yt y 0 [] (by decide)
 have d1:decide ((0:Int)<1)=true:=rfl
 have d0:decide ((0:Int)<0)=false:=rfl
 have hl:((0:Int)<(List.length [([]:Zf)]:Int))=True:=by simp
 simp only[h1,h2,h5,d1,hl,aM,aG,cj,Bool.not_true,eJ,dz,mr,h4]
 trivial
theorem UM(y:YC)(m:Option ZO)(hm:aY m= []):
 gw y.l (xY y) y.l (1,m,()) y 0 (y.gs 1) []=some (y,0,y.gs 1,[0]):=by
 have hm:m=none∨m=some []:=by
  cases m with
  |none=>grind
  |some l=>exact Or.inr (congrArg some hm)
 unfold gw
 have h1:f202 (1,m,())=some [[]]:=by rcases hm with rfl|rfl<;>kernel_rfl
 have h2:ew y.l (xY y) (Int.toNat 1+1) (y.l,(1,m,()),[[]],1,0,y,0,y.gs 1,[],List.replicate (Int.toNat 1) (0:Int),([]:Zf))=some (.brk (y.l,[[]],y,0,y.gs 1,[],[0],[0])):=by rcases hm with rfl|rfl<;>kernel_rfl
 simp only[h1,aM,h2,aG,l9O]
 rfl
theorem RA(y:YC)(m:Option ZO)(_hm:aY m= []):
 gw y.l (xY y) y.l (0,m,()) y 0 (y.gs 1) []=some (y,0,y.gs 1,[]):=by
 trivial
def UN:ZO→Bool
 |[(k,some [(x,b)])]=>decide (k=1)&&(decide (x=0)&&b)
 |_=>false
theorem RE:∀{m:ZO},UN m=true→m= [(1,some [(0,true)])]
 |
  [(k,some [(x,b)])],h=>by
  simp_all[UN]
 |[],h=>by cases h
 |[(_,none)],h=>by cases h
 |[(_,some [])],h=>by cases h
 |[(_,some (_::_::_))],h=>by cases h
 |(_,none)::_::_,h=>by cases h
 |(_,some [])::_::_,h=>by cases h
 |(_,some [_])::_::_,h=>by cases h
 |(_,some (_::_::_))::_::_,h=>by cases h
abbrev gO:dK:=(2,some [((1:Int),some [((0:Int),true)])],())
theorem u6O(b c:Int)(d:dK):hJ 2 (1,b,c,d,[[],[]],[(0,true)])=some (.brk (b,c,d,[[1],[]])):=by
 unfold hJ
 rw[show(2:Nat)=1+1 from rfl,aN]
 dsimp only
 rw[aC (by decide)]
 refine qD (by decide) fun i hi=>?_
 have e:i=0:=by grind
 subst e
 rfl
theorem UP:f202 gO=some [[1],[]]:=by
 have h0:∀b c:Int,hJ (List.length (aY (aQ (.int .i64) (.map (.int .i64) .bool) (0:Int) (aY gO.2.1)))+1) (0,b,c,gO,[[],[]],aY (aQ (.int .i64) (.map (.int .i64) .bool) (0:Int) (aY gO.2.1)))=some (.brk (b,c,gO,[[],[]])):=fun _ _=>rfl
 have h1:∀b c:Int,hJ (List.length (aY (aQ (.int .i64) (.map (.int .i64) .bool) (1:Int) (aY gO.2.1)))+1) (1,b,c,gO,[[],[]],aY (aQ (.int .i64) (.map (.int .i64) .bool) (1:Int) (aY gO.2.1)))=some (.brk (b,c,gO,[[1],[]])):=fun b c=>u6O b c gO
 have e:jo 3 (2,0,gO,[[],[]])=some (.brk [[1],[]]):=by
  unfold jo
  rw[show(3:Nat)=0+1+1+1 from rfl,aN]
  dsimp only
  rw[aA (by decide),h0,aG]
  dsimp only
  rw[aN,show bq ((0:Int)+(1:Int))=1 from rfl]
  dsimp only
  rw[aA (by decide),h1,aG]
  trivial
 unfold f202
 have e':jo (Int.toNat gO.1+1) (gO.1,0,gO,List.replicate (Int.toNat gO.1) [])=some (.brk [[1],[]]):=e
 rw[aA (by decide),aA (by decide),aA (by decide),e',aG]
theorem ahf(y:YC):dQ y.l (xY y) iw (y.l,[[1],[]],y,0,y.gs 1,[0,1],[0],[])=some (.brk (y,0,y.gs 1,[0,1])):=by
 unfold dQ
 rw[show iw=18446744073709551613+1+1+1 from rfl,aN]
 have h1:f204 [0]=some 1:=by trivial
 have h1':f204 [1]=some 1:=by trivial
 have h2:jj [0]=some (0,[]):=by trivial
 have h2':jj [1]=some (1,[]):=by trivial
 have h3:f204 []=some 0:=by trivial
 have h4:cZ y.l (xY y) (Int.toNat (List.length (nth (.slice 8 (.int .i64)) [[1],[]] 0):Int)+1) (y.l,[[1],[]],nth (.slice 8 (.int .i64)) [[1],[]] 0,(List.length (nth (.slice 8 (.int .i64)) [[1],[]] 0):Int),0,y,0,y.gs 1,[0,1],[0],[])=some (.brk (y.l,[[1],[]],y,0,y.gs 1,[0,0],[0],[1])):=by trivial
 have h4':cZ y.l (xY y) (Int.toNat (List.length (nth (.slice 8 (.int .i64)) [[1],[]] 1):Int)+1) (y.l,[[1],[]],nth (.slice 8 (.int .i64)) [[1],[]] 1,(List.length (nth (.slice 8 (.int .i64)) [[1],[]] 1):Int),0,y,0,y.gs 1,[0,0],[0,1],[])=some (.brk (y.l,[[1],[]],y,0,y.gs 1,[0,0],[0,1],[])):=by trivial
 have h5:xY y (0,y,0,y.gs 1,[],())=some (true,y,0,y.gs 1,[0]):=Yt y 0 [] (by decide)
 have h5':xY y (1,y,0,y.gs 1,[0],())=some (true,y,0,y.gs 1,[0,1]):=Yt y 1 [0] (by decide)
 have d1:decide ((0:Int)<1)=true:=rfl
 have d0:decide ((0:Int)<0)=false:=rfl
 have hl:((0:Int)<(List.length [[(1:Int)],[]]:Int))=True:=by simp
 have hl':((1:Int)<(List.length [[(1:Int)],[]]:Int))=True:=by simp
 have p1:((0:Int)≤1)=True:=by simp
 simp only[h1,h2,h5,d1,hl,aM,aG,cj,Bool.not_true,eJ,dz,mr,h4]
 rw[aN]
 simp only[h1',h2',h5',d1,hl',p1,aM,aG,cj,Bool.not_true,eJ,dz,h4']
 trivial
theorem UQ(y:YC):gw y.l (xY y) y.l gO y 0 (y.gs 1) []=some (y,0,y.gs 1,[0,1]):=by
 unfold gw
 have h2:ew y.l (xY y) (Int.toNat 2+1) (y.l,gO,[[1],[]],2,0,y,0,y.gs 1,[],List.replicate (Int.toNat 2) (0:Int),([]:Zf))=some (.brk (y.l,[[1],[]],y,0,y.gs 1,[],[0,1],[0])):=by trivial
 simp only[UP,aM,h2,aG,ahf]
 rfl
def UR:ZO→Bool
 |[(k,some [(x,b)])]=>decide (k=0)&&(decide (x=1)&&b)
 |_=>false
theorem RI:∀{m:ZO},UR m=true→m= [(0,some [(1,true)])]
 |
  [(k,some [(x,b)])],h=>by
  simp_all[UR]
 |[],h=>by cases h
 |[(_,none)],h=>by cases h
 |[(_,some [])],h=>by cases h
 |[(_,some (_::_::_))],h=>by cases h
 |(_,none)::_::_,h=>by cases h
 |(_,some [])::_::_,h=>by cases h
 |(_,some [_])::_::_,h=>by cases h
 |(_,some (_::_::_))::_::_,h=>by cases h
abbrev gR:dK:=(2,some [((0:Int),some [((1:Int),true)])],())
theorem u6R(b c:Int)(d:dK):hJ 2 (0,b,c,d,[[],[]],[(1,true)])=some (.brk (b,c,d,[[],[0]])):=by
 unfold hJ
 rw[show(2:Nat)=1+1 from rfl,aN]
 dsimp only
 rw[aC (by decide)]
 refine qD (by decide) fun i hi=>?_
 have e:i=0:=by grind
 subst e
 rfl
theorem US:f202 gR=some [[],[0]]:=by
 have h0:∀b c:Int,hJ (List.length (aY (aQ (.int .i64) (.map (.int .i64) .bool) (0:Int) (aY gR.2.1)))+1) (0,b,c,gR,[[],[]],aY (aQ (.int .i64) (.map (.int .i64) .bool) (0:Int) (aY gR.2.1)))=some (.brk (b,c,gR,[[],[0]])):=fun b c=>u6R b c gR
 have h1:∀b c:Int,hJ (List.length (aY (aQ (.int .i64) (.map (.int .i64) .bool) (1:Int) (aY gR.2.1)))+1) (1,b,c,gR,[[],[0]],aY (aQ (.int .i64) (.map (.int .i64) .bool) (1:Int) (aY gR.2.1)))=some (.brk (b,c,gR,[[],[0]])):=fun _ _=>rfl
 have e:jo 3 (2,0,gR,[[],[]])=some (.brk [[],[0]]):=by
  unfold jo
  rw[show(3:Nat)=0+1+1+1 from rfl,aN]
  dsimp only
  rw[aA (by decide),h0,aG]
  trivial
 unfold f202
 have e':jo (Int.toNat gR.1+1) (gR.1,0,gR,List.replicate (Int.toNat gR.1) [])=some (.brk [[],[0]]):=e
 rw[aA (by decide),aA (by decide),aA (by decide),e',aG]
theorem ahg(y:YC):dQ y.l (xY y) iw (y.l,[[],[0]],y,0,y.gs 1,[1,0],[1],[])=some (.brk (y,0,y.gs 1,[1,0])):=by
 unfold dQ
 rw[show iw=18446744073709551613+1+1+1 from rfl,aN]
 have h1:f204 [1]=some 1:=by trivial
 have h1':f204 [0]=some 1:=by trivial
 have h2:jj [1]=some (1,[]):=by trivial
 have h2':jj [0]=some (0,[]):=by trivial
 have h3:f204 []=some 0:=by trivial
 have h4:cZ y.l (xY y) (Int.toNat (List.length (nth (.slice 8 (.int .i64)) [[],[0]] 1):Int)+1) (y.l,[[],[0]],nth (.slice 8 (.int .i64)) [[],[0]] 1,(List.length (nth (.slice 8 (.int .i64)) [[],[0]] 1):Int),0,y,0,y.gs 1,[1,0],[1],[])=some (.brk (y.l,[[],[0]],y,0,y.gs 1,[0,0],[1],[0])):=by trivial
 have h4':cZ y.l (xY y) (Int.toNat (List.length (nth (.slice 8 (.int .i64)) [[],[0]] 0):Int)+1) (y.l,[[],[0]],nth (.slice 8 (.int .i64)) [[],[0]] 0,(List.length (nth (.slice 8 (.int .i64)) [[],[0]] 0):Int),0,y,0,y.gs 1,[0,0],[1,0],[])=some (.brk (y.l,[[],[0]],y,0,y.gs 1,[0,0],[1,0],[])):=by trivial
 have h5:xY y (1,y,0,y.gs 1,[],())=some (true,y,0,y.gs 1,[1]):=Yt y 1 [] (by decide)
 have h5':xY y (0,y,0,y.gs 1,[1],())=some (true,y,0,y.gs 1,[1,0]):=Yt y 0 [1] (by decide)
 have d1:decide ((0:Int)<1)=true:=rfl
 have d0:decide ((0:Int)<0)=false:=rfl
 have hl:((0:Int)<(List.length [[],[(0:Int)]]:Int))=True:=by simp
 have hl':((1:Int)<(List.length [[],[(0:Int)]]:Int))=True:=by simp
 have p1:((0:Int)≤1)=True:=by simp
 simp only[h1,h2,h5,d1,hl',p1,aM,aG,cj,Bool.not_true,eJ,dz,h4]
 rw[aN]
 simp only[h1',h2',h5',d1,hl,aM,aG,cj,Bool.not_true,eJ,dz,mr,h4']
 trivial
theorem UT(y:YC):gw y.l (xY y) y.l gR y 0 (y.gs 1) []=some (y,0,y.gs 1,[1,0]):=by
 unfold gw
 have h2:ew y.l (xY y) (Int.toNat 2+1) (y.l,gR,[[],[0]],2,0,y,0,y.gs 1,[],List.replicate (Int.toNat 2) (0:Int),([]:Zf))=some (.brk (y.l,[[],[0]],y,0,y.gs 1,[],[1,0],[1])):=by trivial
 simp only[US,aM,h2,aG,ahg]
 rfl
def rA(g:dK):Option Zf:=if List.isEmpty (aY g.2.1)=true then(if g.1=0 then some [] else if g.1=1 then some [0] else jn g) else if g.1=2 then(if UN (aY g.2.1)=true then some [0,1] else if UR (aY g.2.1)=true then some [1,0] else jn g) else jn g
theorem BK{g:dK}{r:Zf}(h:∀y:YC,gw y.l (xY y) y.l g y 0 (y.gs 1) []=some (y,0,y.gs 1,r)):jn g=some r:=by
 unfold jn uC
 rw[qC (r:=.brk r)]
 ·rfl
 simp_all[gk]
theorem zz(g:dK):rA g=jn g:=by
 obtain⟨n,m,u⟩:=g
 unfold rA
 split
 ·grind [BK,RA,UM]
 ·split
  ·rename_i hn
   have hn:n=2:=hn
   subst hn
   split
   ·rename_i h2
    have hm:=RE h2
    cases m with
    |none=>cases hm
    |
     some l=>
     have hm:l= [(1,some [(0,true)])]:=hm
     grind [BK,UQ]
   ·split
    ·rename_i h2
     have hm:=RI h2
     cases m with
     |none=>cases hm
     |
      some l=>
      have hm:l= [(0,some [(1,true)])]:=hm
      grind [BK,UT]
    ·rfl
  ·rfl
def MQ:aZ:=aF G [.tmp 2] 143 [(.func 201 .nil (.cons (.cc ot) .nil))] [] 45 Xh [] (.br (u1 rA))
theorem MR:hS MQ:=aZ.sub OT fun _ _ h=>(zz _).symm.trans h
end Go.Proofs.YtpmlkhjpbjnagaaGreat
