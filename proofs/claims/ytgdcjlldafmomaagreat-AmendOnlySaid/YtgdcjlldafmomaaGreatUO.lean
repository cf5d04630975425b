/- The order of at most one schema that needs nothing, in place of the printed function. No condition. -/
import Derived.Test.YtgdcjlldafmomaaGreatF4
import Derived.Test.YtgdcjlldafmomaaGreatA5
noncomputable section
namespace Go.Proofs.YtgdcjlldafmomaaGreat
open Go.Ax
theorem Yt(y:YC)(x:Int)(acc:Zf)(h:(acc.length+1)*8≤aC):eV y x y 0 (y.gs 1) acc=some (true,y,0,y.gs 1,acc++[x]):=by
 unfold eV
 rw[dK]
 simp only[if_true,List.length_cons,List.length_nil,Nat.zero_add,if_pos h,Option.bind_some,Nat.beq]
theorem IP:ff=18446744073709551614+1+1:=rfl
abbrev HG(y:YC):ZG:=fun d=>eV y d.1 d.2.1 d.2.2.1 d.2.2.2.1 d.2.2.2.2.1
theorem Yu(y:YC):dE y.l (HG y) ff (y.l,[[]],y,0,y.gs 1,[0],[0],[])=some (.brk (y,0,y.gs 1,[0])):=by
 unfold dE
 rw[IP,aP]
 have h1:f150 [0]=some 1:=by kernel_rfl
 have h2:mq [0]=some (0,[]):=by kernel_rfl
 have h3:f150 []=some 0:=by kernel_rfl
 have h4:dB y.l (HG y) (Int.toNat (List.length (nth (.slice 8 (.int .i64)) [[]] 0):Int)+1) (y.l,[[]],nth (.slice 8 (.int .i64)) [[]] 0,(List.length (nth (.slice 8 (.int .i64)) [[]] 0):Int),(0:Int),y,0,y.gs 1,[0],[0],[])=some (.brk (y.l,[[]],y,0,y.gs 1,[0],[0],[])):=by kernel_rfl
 have h5:HG y (0,y,0,y.gs 1,[],())=some (true,y,0,y.gs 1,[0]):=Yt y 0 [] (by decide)
 have d1:decide ((0:Int)<1)=true:=rfl
 have d0:decide ((0:Int)<0)=false:=rfl
 have hl:((0:Int)<(List.length [([]:Zf)]:Int))=True:=by simp
 simp only[h1,h2,h5,d1,hl,Option.bind_some,aG,if_true,Bool.not_true,Bool.false_eq_true,if_false,Int.le_refl,h4]
 rw[aP]
 simp only[h3,d0,Option.bind_some,Bool.false_eq_true,if_false]
theorem Tg(y:YC):dE y.l (HG y) ff (y.l,[],y,0,y.gs 1,[],[],[])=some (.brk (y,0,y.gs 1,[])):=by
 unfold dE
 rw[IP,aP]
 have h3:f150 []=some 0:=by kernel_rfl
 simp only[h3,Option.bind_some,show decide ((0:Int)<0)=false from rfl,Bool.false_eq_true,if_false]
theorem J4(y:YC)(m:Option ZN)(hm:bT m= []):
 gw y.l (HG y) y.l (1,m,()) y 0 (y.gs 1) []=some (y,0,y.gs 1,[0]):=by
 have hm:m=none∨m=some []:=by
  cases m with
  |none=>exact Or.inl rfl
  |some l=>exact Or.inr (congrArg some hm)
 unfold gw
 have h1:f148 (1,m,())=some [[]]:=by rcases hm with rfl|rfl<;>kernel_rfl
 have h2:dD y.l (HG y) (Int.toNat 1+1) (y.l,(1,m,()),[[]],1,(0:Int),y,0,y.gs 1,[],List.replicate (Int.toNat 1) (0:Int),([]:Zf))=some (.brk (y.l,[[]],y,0,y.gs 1,[],[0],[0])):=by rcases hm with rfl|rfl<;>kernel_rfl
 simp only[h1,Option.bind_some,h2,aG,Yu]
 rfl
theorem HH(y:YC)(m:Option ZN)(hm:bT m= []):
 gw y.l (HG y) y.l (0,m,()) y 0 (y.gs 1) []=some (y,0,y.gs 1,[]):=by
 have hm:m=none∨m=some []:=by
  cases m with
  |none=>exact Or.inl rfl
  |some l=>exact Or.inr (congrArg some hm)
 unfold gw
 have h1:f148 (0,m,())=some []:=by rcases hm with rfl|rfl<;>kernel_rfl
 have h2:dD y.l (HG y) (Int.toNat 0+1) (y.l,(0,m,()),[],0,(0:Int),y,0,y.gs 1,[],List.replicate (Int.toNat 0) (0:Int),([]:Zf))=some (.brk (y.l,[],y,0,y.gs 1,[],[],[])):=by rcases hm with rfl|rfl<;>kernel_rfl
 simp only[h1,Option.bind_some,h2,aG,Tg]
 rfl
def pE(g:dm):Option Zf:=if List.isEmpty (bT g.2.1)=true then(if g.1=0 then some [] else if g.1=1 then some [0] else j6 g) else j6 g
theorem D5{g:dm}{r:Zf}(h:∀y:YC,gw y.l (HG y) y.l g y 0 (y.gs 1) []=some (y,0,y.gs 1,r)):j6 g=some r:=by
 unfold j6 ph
 rw[kE (r:=.brk r)]
 ·rfl
 ·intro y
  erw[h y]
  simp only[Option.bind_some,dK,if_true]
theorem xg(g:dm):pE g=j6 g:=by
 obtain⟨n,m,u⟩:=g
 unfold pE
 split
 ·rename_i hm0
  have hm:bT m= []:=List.isEmpty_iff.1 hm0
  split
  ·rename_i hn
   have hn:n=0:=hn
   subst hn
   exact(D5 fun y=>HH y m hm).symm
  ·split
   ·rename_i hn
    have hn:n=1:=hn
    subst hn
    exact(D5 fun y=>J4 y m hm).symm
   ·rfl
 ·rfl
def HI:aT:=aD G [.tmp 2] 71 [(.func 147 .nil (.cons (.bD jR) .nil))] [] 45 LM [] (.bx (u1 pE))
theorem HJ:hS HI:=aT.sub JD fun _ _ h=>(xg _).symm.trans h
end Go.Proofs.YtgdcjlldafmomaaGreat
