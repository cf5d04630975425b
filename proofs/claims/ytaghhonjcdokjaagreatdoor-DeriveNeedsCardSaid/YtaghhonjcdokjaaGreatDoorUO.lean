/- part -/
import Derived.Test.YtaghhonjcdokjaaGreatDoorF6
import Derived.Test.YtaghhonjcdokjaaGreatDoorA5
noncomputable section
namespace Go.Proofs.YtaghhonjcdokjaaGreatDoor
open Go.Ax
theorem WG(y:YC)(x:Int)(acc:Zf)(h:(acc.length+1)*8≤aG):iR y x y 0 (y.gs 1) acc=some (true,y,0,y.gs 1,acc++[x]):=by
 unfold iR
 rw[iZ]
 simp only[bZ,fc,qf,dY,aA h,aK,Nat.beq]
theorem Px:gn=18446744073709551614+1+1:=rfl
abbrev B5(y:YC):ZL:=fun d=>iR y d.1 d.2.1 d.2.2.1 d.2.2.2.1 d.2.2.2.2.1
theorem l9O(y:YC):dR y.l (B5 y) gn (y.l,[[]],y,0,y.gs 1,[0],[0],[])=some (.brk (y,0,y.gs 1,[0])):=by
 unfold dR
 rw[Px,aO]
 have h1:f123 [0]=some 1:=by kernel_rfl
 have h2:lO [0]=some (0,[]):=by kernel_rfl
 have h3:f123 []=some 0:=by kernel_rfl
 have h4:dN y.l (B5 y) (Int.toNat (List.length (nth (.slice 8 (.int .i64)) [[]] 0):Int)+1) (y.l,[[]],nth (.slice 8 (.int .i64)) [[]] 0,(List.length (nth (.slice 8 (.int .i64)) [[]] 0):Int),(0:Int),y,0,y.gs 1,[0],[0],[])=some (.brk (y.l,[[]],y,0,y.gs 1,[0],[0],[])):=by kernel_rfl
 have h5:B5 y (0,y,0,y.gs 1,[],())=some (true,y,0,y.gs 1,[0]):=WG y 0 [] (by decide)
 have d1:decide ((0:Int)<1)=true:=rfl
 have d0:decide ((0:Int)<0)=false:=rfl
 have hl:((0:Int)<(List.length [([]:Zf)]:Int))=True:=by simp
 simp only[h1,h2,h5,d1,hl,aK,aJ,bZ,Bool.not_true,dL,cW,mV,h4]
 rw[aO]
 simp only[h3,d0,aK,dL,cW]
theorem WH(y:YC):dR y.l (B5 y) gn (y.l,[],y,0,y.gs 1,[],[],[])=some (.brk (y,0,y.gs 1,[])):=by
 unfold dR
 rw[Px,aO]
 have h3:f123 []=some 0:=by kernel_rfl
 simp only[h3,aK,show decide ((0:Int)<0)=false from rfl,dL,cW]
theorem Qr(y:YC)(m:Option ZO)(hm:bK m= []):
 iv y.l (B5 y) y.l (1,m,()) y 0 (y.gs 1) []=some (y,0,y.gs 1,[0]):=by
 have hm:m=none∨m=some []:=by
  cases m with
  |none=>exact Or.inl rfl
  |some l=>exact Or.inr (congrArg some hm)
 unfold iv
 have h1:f22 (1,m,())=some [[]]:=by rcases hm with rfl|rfl<;>kernel_rfl
 have h2:eG y.l (B5 y) (Int.toNat 1+1) (y.l,(1,m,()),[[]],1,(0:Int),y,0,y.gs 1,[],List.replicate (Int.toNat 1) (0:Int),([]:Zf))=some (.brk (y.l,[[]],y,0,y.gs 1,[],[0],[0])):=by rcases hm with rfl|rfl<;>kernel_rfl
 simp only[h1,aK,h2,aJ,l9O]
 rfl
theorem LC(y:YC)(m:Option ZO)(hm:bK m= []):
 iv y.l (B5 y) y.l (0,m,()) y 0 (y.gs 1) []=some (y,0,y.gs 1,[]):=by
 have hm:m=none∨m=some []:=by
  cases m with
  |none=>exact Or.inl rfl
  |some l=>exact Or.inr (congrArg some hm)
 unfold iv
 have h1:f22 (0,m,())=some []:=by rcases hm with rfl|rfl<;>kernel_rfl
 have h2:eG y.l (B5 y) (Int.toNat 0+1) (y.l,(0,m,()),[],0,(0:Int),y,0,y.gs 1,[],List.replicate (Int.toNat 0) (0:Int),([]:Zf))=some (.brk (y.l,[],y,0,y.gs 1,[],[],[])):=by rcases hm with rfl|rfl<;>kernel_rfl
 simp only[h1,aK,h2,aJ,WH]
 rfl
def Qs:ZO→Bool
 |[(k,some [(x,b)])]=>decide (k=1)&&(decide (x=0)&&b)
 |_=>false
theorem LD:∀{m:ZO},Qs m=true→m= [(1,some [(0,true)])]
 |
  [(k,some [(x,b)])],h=>by
  unfold Qs at h
  rw[aW,aW] at h
  obtain⟨h1,h2,h3⟩:=h
  rw[ki h1,ki h2,h3]
 |[],h=>by cases h
 |[(_,none)],h=>by cases h
 |[(_,some [])],h=>by cases h
 |[(_,some (_::_::_))],h=>by cases h
 |(_,none)::_::_,h=>by cases h
 |(_,some [])::_::_,h=>by cases h
 |(_,some [_])::_::_,h=>by cases h
 |(_,some (_::_::_))::_::_,h=>by cases h
abbrev gO:jf:=(2,some [((1:Int),some [((0:Int),true)])],())
theorem u6O(b c:Int)(d:jf):oW 2 (1,b,c,d,[[],[]],[(0,true)])=some (.brk (b,c,d,[[1],[]])):=by
 unfold oW
 rw[show(2:Nat)=1+1 from rfl,aO]
 dsimp only
 rw[aD (by decide)]
 refine E8 (by decide) fun i hi=>?_
 have e:i=0:=by rw[cY] at hi;omega
 subst e
 rfl
theorem Qt:f22 gO=some [[1],[]]:=by
 have h0:∀b c:Int,oW (List.length (bK (bE (.int .i64) (.map (.int .i64) .bool) (0:Int) (bK gO.2.1)))+1) (0,b,c,gO,[[],[]],bK (bE (.int .i64) (.map (.int .i64) .bool) (0:Int) (bK gO.2.1)))=some (.brk (b,c,gO,[[],[]])):=fun _ _=>rfl
 have h1:∀b c:Int,oW (List.length (bK (bE (.int .i64) (.map (.int .i64) .bool) (1:Int) (bK gO.2.1)))+1) (1,b,c,gO,[[],[]],bK (bE (.int .i64) (.map (.int .i64) .bool) (1:Int) (bK gO.2.1)))=some (.brk (b,c,gO,[[1],[]])):=fun b c=>u6O b c gO
 have e:oX 3 (2,0,gO,[[],[]])=some (.brk [[1],[]]):=by
  unfold oX
  rw[show(3:Nat)=0+1+1+1 from rfl,aO]
  dsimp only
  rw[aA (by decide),h0,aJ]
  dsimp only
  rw[aO,show bB ((0:Int)+(1:Int))=1 from rfl]
  dsimp only
  rw[aA (by decide),h1,aJ]
  dsimp only
  rw[aO,show bB ((1:Int)+(1:Int))=2 from rfl]
  dsimp only
  rw[aD (by decide)]
 unfold f22
 have e':oX (Int.toNat gO.1+1) (gO.1,(0:Int),gO,List.replicate (Int.toNat gO.1) [])=some (.brk [[1],[]]):=e
 rw[aA (by decide),aA (by decide),aA (by decide),e',aJ]
theorem WI(y:YC):dR y.l (B5 y) gn (y.l,[[1],[]],y,0,y.gs 1,[0,1],[0],[])=some (.brk (y,0,y.gs 1,[0,1])):=by
 unfold dR
 rw[show gn=18446744073709551613+1+1+1 from rfl,aO]
 have h1:f123 [0]=some 1:=by kernel_rfl
 have h1':f123 [1]=some 1:=by kernel_rfl
 have h2:lO [0]=some (0,[]):=by kernel_rfl
 have h2':lO [1]=some (1,[]):=by kernel_rfl
 have h3:f123 []=some 0:=by kernel_rfl
 have h4:dN y.l (B5 y) (Int.toNat (List.length (nth (.slice 8 (.int .i64)) [[1],[]] 0):Int)+1) (y.l,[[1],[]],nth (.slice 8 (.int .i64)) [[1],[]] 0,(List.length (nth (.slice 8 (.int .i64)) [[1],[]] 0):Int),(0:Int),y,0,y.gs 1,[0,1],[0],[])=some (.brk (y.l,[[1],[]],y,0,y.gs 1,[0,0],[0],[1])):=by kernel_rfl
 have h4':dN y.l (B5 y) (Int.toNat (List.length (nth (.slice 8 (.int .i64)) [[1],[]] 1):Int)+1) (y.l,[[1],[]],nth (.slice 8 (.int .i64)) [[1],[]] 1,(List.length (nth (.slice 8 (.int .i64)) [[1],[]] 1):Int),(0:Int),y,0,y.gs 1,[0,0],[0,1],[])=some (.brk (y.l,[[1],[]],y,0,y.gs 1,[0,0],[0,1],[])):=by kernel_rfl
 have h5:B5 y (0,y,0,y.gs 1,[],())=some (true,y,0,y.gs 1,[0]):=WG y 0 [] (by decide)
 have h5':B5 y (1,y,0,y.gs 1,[0],())=some (true,y,0,y.gs 1,[0,1]):=WG y 1 [0] (by decide)
 have d1:decide ((0:Int)<1)=true:=rfl
 have d0:decide ((0:Int)<0)=false:=rfl
 have hl:((0:Int)<(List.length [[(1:Int)],[]]:Int))=True:=by simp
 have hl':((1:Int)<(List.length [[(1:Int)],[]]:Int))=True:=by simp
 have p1:((0:Int)≤1)=True:=by simp
 simp only[h1,h2,h5,d1,hl,aK,aJ,bZ,Bool.not_true,dL,cW,mV,h4]
 rw[aO]
 simp only[h1',h2',h5',d1,hl',p1,aK,aJ,bZ,Bool.not_true,dL,cW,h4']
 rw[aO]
 simp only[h3,d0,aK,dL,cW]
theorem Qu(y:YC):iv y.l (B5 y) y.l gO y 0 (y.gs 1) []=some (y,0,y.gs 1,[0,1]):=by
 unfold iv
 have h2:eG y.l (B5 y) (Int.toNat 2+1) (y.l,gO,[[1],[]],2,(0:Int),y,0,y.gs 1,[],List.replicate (Int.toNat 2) (0:Int),([]:Zf))=some (.brk (y.l,[[1],[]],y,0,y.gs 1,[],[0,1],[0])):=by kernel_rfl
 simp only[Qt,aK,h2,aJ,WI]
 rfl
def s9(g:jf):Option Zf:=if List.isEmpty (bK g.2.1)=true then(if g.1=0 then some [] else if g.1=1 then some [0] else lP g) else if g.1=2 then(if Qs (bK g.2.1)=true then some [0,1] else lP g) else lP g
theorem CD{g:jf}{r:Zf}(h:∀y:YC,iv y.l (B5 y) y.l g y 0 (y.gs 1) []=some (y,0,y.gs 1,r)):lP g=some r:=by
 unfold lP zO
 rw[tc (r:=.brk r)]
 ·rfl
 ·intro y
  erw[h y]
  simp only[aK,iZ,bZ]
theorem AX(g:jf):s9 g=lP g:=by
 obtain⟨n,m,u⟩:=g
 unfold s9
 split
 ·rename_i hm0
  have hm:bK m= []:=List.isEmpty_iff.1 hm0
  split
  ·rename_i hn
   have hn:n=0:=hn
   subst hn
   exact(CD fun y=>LC y m hm).symm
  ·split
   ·rename_i hn
    have hn:n=1:=hn
    subst hn
    exact(CD fun y=>Qr y m hm).symm
   ·rfl
 ·split
  ·rename_i hn
   have hn:n=2:=hn
   subst hn
   split
   ·rename_i h2
    have hm:=LD h2
    cases m with
    |none=>cases hm
    |
     some l=>
     have hm:l= [(1,some [(0,true)])]:=hm
     subst hm
     exact(CD Qu).symm
   ·rfl
  ·rfl
def LF:aX:=aE G [.tmp 2] 38 [(.func 121 .nil (.cons (.cI xe) .nil))] [] 45 UD [] (.bC (u1 s9))
theorem LG:hS LF:=aX.sub RY fun _ _ h=>(AX _).symm.trans h
end Go.Proofs.YtaghhonjcdokjaaGreatDoor
