/- part -/
import Derived.Test.YtpmlkhjpbjnagaaGreatF4
import Derived.Test.YtpmlkhjpbjnagaaGreatA5
noncomputable section
namespace Go.Proofs.YtpmlkhjpbjnagaaGreat
open Go.Ax
theorem YW(y:YC)(x:Int)(acc:Ze)(h:(acc.length+1)*8≤aH):gK y x y 0 (y.gs 1) acc=some (true,y,0,y.gs 1,acc++[x]):=by
 simp_all[gK,gv]
theorem YX:iB=18446744073709551614+1+1:=rfl
abbrev yr(y:YC):ZK:=fun d=>gK y d.1 d.2.1 d.2.2.1 d.2.2.2.1 d.2.2.2.2.1
theorem l9O(y:YC):dS y.l (yr y) iB (y.l,[[]],y,0,y.gs 1,[0],[0],[])=some (.brk (y,0,y.gs 1,[0])):=by
 unfold dS
 rw[YX,aN]
 have h1:f204 [0]=some 1:=by trivial
 have h2:jv [0]=some (0,[]):=by trivial
 have h3:f204 []=some 0:=by trivial
 have h4:da y.l (yr y) (Int.toNat (List.length (nth (.slice 8 (.int .i64)) [[]] 0):Int)+1) (y.l,[[]],nth (.slice 8 (.int .i64)) [[]] 0,(List.length (nth (.slice 8 (.int .i64)) [[]] 0):Int),0,y,0,y.gs 1,[0],[0],[])=some (.brk (y.l,[[]],y,0,y.gs 1,[0],[0],[])):=by trivial
 have h5:yr y (0,y,0,y.gs 1,[],())=some (true,y,0,y.gs 1,[0]):=YW y 0 [] (by decide)
 have d1:decide ((0:Int)<1)=true:=rfl
 have d0:decide ((0:Int)<0)=false:=rfl
 have hl:((0:Int)<(List.length [([]:Ze)]:Int))=True:=by simp
 simp only[h1,h2,h5,d1,hl,aM,aG,cj,Bool.not_true,eM,dB,mL,h4]
 trivial
theorem Vh(y:YC)(m:Option ZO)(hm:aX m= []):
 gE y.l (yr y) y.l (1,m,()) y 0 (y.gs 1) []=some (y,0,y.gs 1,[0]):=by
 have hm:m=none∨m=some []:=by
  cases m with
  |none=>grind
  |some l=>exact Or.inr (congrArg some hm)
 unfold gE
 have h1:f202 (1,m,())=some [[]]:=by rcases hm with rfl|rfl<;>kernel_rfl
 have h2:eB y.l (yr y) (Int.toNat 1+1) (y.l,(1,m,()),[[]],1,0,y,0,y.gs 1,[],List.replicate (Int.toNat 1) (0:Int),([]:Ze))=some (.brk (y.l,[[]],y,0,y.gs 1,[],[0],[0])):=by rcases hm with rfl|rfl<;>kernel_rfl
 simp only[h1,aM,h2,aG,l9O]
 rfl
theorem Sm(y:YC)(m:Option ZO)(_hm:aX m= []):
 gE y.l (yr y) y.l (0,m,()) y 0 (y.gs 1) []=some (y,0,y.gs 1,[]):=by
 trivial
def Vi:ZO→Bool
 |[(k,some [(x,b)])]=>decide (k=1)&&(decide (x=0)&&b)
 |_=>false
theorem Sn:∀{m:ZO},Vi m=true→m= [(1,some [(0,true)])]
 |
  [(k,some [(x,b)])],h=>by
  simp_all[Vi]
 |[],h=>by cases h
 |[(_,none)],h=>by cases h
 |[(_,some [])],h=>by cases h
 |[(_,some (_::_::_))],h=>by cases h
 |(_,none)::_::_,h=>by cases h
 |(_,some [])::_::_,h=>by cases h
 |(_,some [_])::_::_,h=>by cases h
 |(_,some (_::_::_))::_::_,h=>by cases h
abbrev gO:dN:=(2,some [((1:Int),some [((0:Int),true)])],())
theorem u6O(b c:Int)(d:dN):il 2 (1,b,c,d,[[],[]],[(0,true)])=some (.brk (b,c,d,[[1],[]])):=by
 unfold il
 rw[show(2:Nat)=1+1 from rfl,aN]
 dsimp only
 rw[aC (by decide)]
 refine qT (by decide) fun i hi=>?_
 have e:i=0:=by grind
 subst e
 rfl
theorem Vj:f202 gO=some [[1],[]]:=by
 have h0:∀b c:Int,il (List.length (aX (aP (.int .i64) (.map (.int .i64) .bool) (0:Int) (aX gO.2.1)))+1) (0,b,c,gO,[[],[]],aX (aP (.int .i64) (.map (.int .i64) .bool) (0:Int) (aX gO.2.1)))=some (.brk (b,c,gO,[[],[]])):=fun _ _=>rfl
 have h1:∀b c:Int,il (List.length (aX (aP (.int .i64) (.map (.int .i64) .bool) (1:Int) (aX gO.2.1)))+1) (1,b,c,gO,[[],[]],aX (aP (.int .i64) (.map (.int .i64) .bool) (1:Int) (aX gO.2.1)))=some (.brk (b,c,gO,[[1],[]])):=fun b c=>u6O b c gO
 have e:jx 3 (2,0,gO,[[],[]])=some (.brk [[1],[]]):=by
  unfold jx
  rw[show(3:Nat)=0+1+1+1 from rfl,aN]
  dsimp only
  rw[aA (by decide),h0,aG]
  dsimp only
  rw[aN,show bq ((0:Int)+(1:Int))=1 from rfl]
  dsimp only
  rw[aA (by decide),h1,aG]
  trivial
 unfold f202
 have e':jx (Int.toNat gO.1+1) (gO.1,0,gO,List.replicate (Int.toNat gO.1) [])=some (.brk [[1],[]]):=e
 rw[aA (by decide),aA (by decide),aA (by decide),e',aG]
theorem ahG(y:YC):dS y.l (yr y) iB (y.l,[[1],[]],y,0,y.gs 1,[0,1],[0],[])=some (.brk (y,0,y.gs 1,[0,1])):=by
 unfold dS
 rw[show iB=18446744073709551613+1+1+1 from rfl,aN]
 have h1:f204 [0]=some 1:=by trivial
 have h1':f204 [1]=some 1:=by trivial
 have h2:jv [0]=some (0,[]):=by trivial
 have h2':jv [1]=some (1,[]):=by trivial
 have h3:f204 []=some 0:=by trivial
 have h4:da y.l (yr y) (Int.toNat (List.length (nth (.slice 8 (.int .i64)) [[1],[]] 0):Int)+1) (y.l,[[1],[]],nth (.slice 8 (.int .i64)) [[1],[]] 0,(List.length (nth (.slice 8 (.int .i64)) [[1],[]] 0):Int),0,y,0,y.gs 1,[0,1],[0],[])=some (.brk (y.l,[[1],[]],y,0,y.gs 1,[0,0],[0],[1])):=by trivial
 have h4':da y.l (yr y) (Int.toNat (List.length (nth (.slice 8 (.int .i64)) [[1],[]] 1):Int)+1) (y.l,[[1],[]],nth (.slice 8 (.int .i64)) [[1],[]] 1,(List.length (nth (.slice 8 (.int .i64)) [[1],[]] 1):Int),0,y,0,y.gs 1,[0,0],[0,1],[])=some (.brk (y.l,[[1],[]],y,0,y.gs 1,[0,0],[0,1],[])):=by trivial
 have h5:yr y (0,y,0,y.gs 1,[],())=some (true,y,0,y.gs 1,[0]):=YW y 0 [] (by decide)
 have h5':yr y (1,y,0,y.gs 1,[0],())=some (true,y,0,y.gs 1,[0,1]):=YW y 1 [0] (by decide)
 have d1:decide ((0:Int)<1)=true:=rfl
 have d0:decide ((0:Int)<0)=false:=rfl
 have hl:((0:Int)<(List.length [[(1:Int)],[]]:Int))=True:=by simp
 have hl':((1:Int)<(List.length [[(1:Int)],[]]:Int))=True:=by simp
 have p1:((0:Int)≤1)=True:=by simp
 simp only[h1,h2,h5,d1,hl,aM,aG,cj,Bool.not_true,eM,dB,mL,h4]
 rw[aN]
 simp only[h1',h2',h5',d1,hl',p1,aM,aG,cj,Bool.not_true,eM,dB,h4']
 trivial
theorem Vk(y:YC):gE y.l (yr y) y.l gO y 0 (y.gs 1) []=some (y,0,y.gs 1,[0,1]):=by
 unfold gE
 have h2:eB y.l (yr y) (Int.toNat 2+1) (y.l,gO,[[1],[]],2,0,y,0,y.gs 1,[],List.replicate (Int.toNat 2) (0:Int),([]:Ze))=some (.brk (y.l,[[1],[]],y,0,y.gs 1,[],[0,1],[0])):=by trivial
 simp only[Vj,aM,h2,aG,ahG]
 rfl
def Vl:ZO→Bool
 |[(k,some [(x,b)])]=>decide (k=0)&&(decide (x=1)&&b)
 |_=>false
theorem Sq:∀{m:ZO},Vl m=true→m= [(0,some [(1,true)])]
 |
  [(k,some [(x,b)])],h=>by
  simp_all[Vl]
 |[],h=>by cases h
 |[(_,none)],h=>by cases h
 |[(_,some [])],h=>by cases h
 |[(_,some (_::_::_))],h=>by cases h
 |(_,none)::_::_,h=>by cases h
 |(_,some [])::_::_,h=>by cases h
 |(_,some [_])::_::_,h=>by cases h
 |(_,some (_::_::_))::_::_,h=>by cases h
abbrev gR:dN:=(2,some [((0:Int),some [((1:Int),true)])],())
theorem u6R(b c:Int)(d:dN):il 2 (0,b,c,d,[[],[]],[(1,true)])=some (.brk (b,c,d,[[],[0]])):=by
 unfold il
 rw[show(2:Nat)=1+1 from rfl,aN]
 dsimp only
 rw[aC (by decide)]
 refine qT (by decide) fun i hi=>?_
 have e:i=0:=by grind
 subst e
 rfl
theorem Vm:f202 gR=some [[],[0]]:=by
 have h0:∀b c:Int,il (List.length (aX (aP (.int .i64) (.map (.int .i64) .bool) (0:Int) (aX gR.2.1)))+1) (0,b,c,gR,[[],[]],aX (aP (.int .i64) (.map (.int .i64) .bool) (0:Int) (aX gR.2.1)))=some (.brk (b,c,gR,[[],[0]])):=fun b c=>u6R b c gR
 have h1:∀b c:Int,il (List.length (aX (aP (.int .i64) (.map (.int .i64) .bool) (1:Int) (aX gR.2.1)))+1) (1,b,c,gR,[[],[0]],aX (aP (.int .i64) (.map (.int .i64) .bool) (1:Int) (aX gR.2.1)))=some (.brk (b,c,gR,[[],[0]])):=fun _ _=>rfl
 have e:jx 3 (2,0,gR,[[],[]])=some (.brk [[],[0]]):=by
  unfold jx
  rw[show(3:Nat)=0+1+1+1 from rfl,aN]
  dsimp only
  rw[aA (by decide),h0,aG]
  trivial
 unfold f202
 have e':jx (Int.toNat gR.1+1) (gR.1,0,gR,List.replicate (Int.toNat gR.1) [])=some (.brk [[],[0]]):=e
 rw[aA (by decide),aA (by decide),aA (by decide),e',aG]
theorem ahH(y:YC):dS y.l (yr y) iB (y.l,[[],[0]],y,0,y.gs 1,[1,0],[1],[])=some (.brk (y,0,y.gs 1,[1,0])):=by
 unfold dS
 rw[show iB=18446744073709551613+1+1+1 from rfl,aN]
 have h1:f204 [1]=some 1:=by trivial
 have h1':f204 [0]=some 1:=by trivial
 have h2:jv [1]=some (1,[]):=by trivial
 have h2':jv [0]=some (0,[]):=by trivial
 have h3:f204 []=some 0:=by trivial
 have h4:da y.l (yr y) (Int.toNat (List.length (nth (.slice 8 (.int .i64)) [[],[0]] 1):Int)+1) (y.l,[[],[0]],nth (.slice 8 (.int .i64)) [[],[0]] 1,(List.length (nth (.slice 8 (.int .i64)) [[],[0]] 1):Int),0,y,0,y.gs 1,[1,0],[1],[])=some (.brk (y.l,[[],[0]],y,0,y.gs 1,[0,0],[1],[0])):=by trivial
 have h4':da y.l (yr y) (Int.toNat (List.length (nth (.slice 8 (.int .i64)) [[],[0]] 0):Int)+1) (y.l,[[],[0]],nth (.slice 8 (.int .i64)) [[],[0]] 0,(List.length (nth (.slice 8 (.int .i64)) [[],[0]] 0):Int),0,y,0,y.gs 1,[0,0],[1,0],[])=some (.brk (y.l,[[],[0]],y,0,y.gs 1,[0,0],[1,0],[])):=by trivial
 have h5:yr y (1,y,0,y.gs 1,[],())=some (true,y,0,y.gs 1,[1]):=YW y 1 [] (by decide)
 have h5':yr y (0,y,0,y.gs 1,[1],())=some (true,y,0,y.gs 1,[1,0]):=YW y 0 [1] (by decide)
 have d1:decide ((0:Int)<1)=true:=rfl
 have d0:decide ((0:Int)<0)=false:=rfl
 have hl:((0:Int)<(List.length [[],[(0:Int)]]:Int))=True:=by simp
 have hl':((1:Int)<(List.length [[],[(0:Int)]]:Int))=True:=by simp
 have p1:((0:Int)≤1)=True:=by simp
 simp only[h1,h2,h5,d1,hl',p1,aM,aG,cj,Bool.not_true,eM,dB,h4]
 rw[aN]
 simp only[h1',h2',h5',d1,hl,aM,aG,cj,Bool.not_true,eM,dB,mL,h4']
 trivial
theorem Vn(y:YC):gE y.l (yr y) y.l gR y 0 (y.gs 1) []=some (y,0,y.gs 1,[1,0]):=by
 unfold gE
 have h2:eB y.l (yr y) (Int.toNat 2+1) (y.l,gR,[[],[0]],2,0,y,0,y.gs 1,[],List.replicate (Int.toNat 2) (0:Int),([]:Ze))=some (.brk (y.l,[[],[0]],y,0,y.gs 1,[],[1,0],[1])):=by trivial
 simp only[Vm,aM,h2,aG,ahH]
 rfl
def rR(g:dN):Option Ze:=if List.isEmpty (aX g.2.1)=true then(if g.1=0 then some [] else if g.1=1 then some [0] else jw g) else if g.1=2 then(if Vi (aX g.2.1)=true then some [0,1] else if Vl (aX g.2.1)=true then some [1,0] else jw g) else jw g
theorem B2{g:dN}{r:Ze}(h:∀y:YC,gE y.l (yr y) y.l g y 0 (y.gs 1) []=some (y,0,y.gs 1,r)):jw g=some r:=by
 unfold jw uW
 rw[qS (r:=.brk r)]
 ·rfl
 simp_all[gv]
theorem zW(g:dN):rR g=jw g:=by
 obtain⟨n,m,u⟩:=g
 unfold rR
 split
 ·grind [B2,Sm,Vh]
 ·split
  ·rename_i hn
   have hn:n=2:=hn
   subst hn
   split
   ·rename_i h2
    have hm:=Sn h2
    cases m with
    |none=>cases hm
    |
     some l=>
     have hm:l= [(1,some [(0,true)])]:=hm
     grind [B2,Vk]
   ·split
    ·rename_i h2
     have hm:=Sq h2
     cases m with
     |none=>cases hm
     |
      some l=>
      have hm:l= [(0,some [(1,true)])]:=hm
      grind [B2,Vn]
    ·rfl
  ·rfl
def Nt:bh:=aF G [.tmp 2] 143 [(.func 201 .nil (.cons (.cd oO) .nil))] [] 45 XH [] (.br (u1 rR))
theorem Nu:hS Nt:=bh.sub Pt fun _ _ h=>(zW _).symm.trans h
end Go.Proofs.YtpmlkhjpbjnagaaGreat
