/- The order of at most one schema that needs nothing, in place of the printed function. No condition. -/
import Derived.Test.YtadeibjelmcdgaaGreatFO
noncomputable section
namespace Go.Proofs.YtadeibjelmcdgaaGreat
open Go.Ax
theorem Ik(y:YC)(x:Int)(acc:List Int)(h:(acc.length+1)*8≤aF):hT y x y 0 (y.gs 1) acc=some (true,y,0,y.gs 1,acc++[x]):=by
 unfold hT
 rw[dP]
 simp only[if_true,List.length_cons,List.length_nil,Nat.zero_add,if_pos h,Option.bind_some,Nat.beq]
theorem wi:dQ=18446744073709551614+1+1:=rfl
abbrev Yc(y:YC):Int×YC×Nat×Nat×(List Int)×Unit→Option (Bool×YC×Nat×Nat×(List Int)):=fun d=>hT y d.1 d.2.1 d.2.2.1 d.2.2.2.1 d.2.2.2.2.1
theorem Il(y:YC):fH y.l (Yc y) dQ (y.l,[[]],y,0,y.gs 1,[0],[0],[])=some (.brk (y,0,y.gs 1,[0])):=by
 unfold fH
 rw[wi,bx]
 have h1:f148 [0]=some 1:=by kernel_rfl
 have h2:qH [0]=some (0,[]):=by kernel_rfl
 have h3:f148 []=some 0:=by kernel_rfl
 have h4:lR y.l (Yc y) (Int.toNat (List.length (nth (.slice 8 (.int .i64)) [[]] 0):Int)+1) (y.l,[[]],nth (.slice 8 (.int .i64)) [[]] 0,(List.length (nth (.slice 8 (.int .i64)) [[]] 0):Int),(0:Int),y,0,y.gs 1,[0],[],[0])=some (.brk (y.l,[[]],y,0,y.gs 1,[0],[],[0])):=by kernel_rfl
 have h5:Yc y (0,y,0,y.gs 1,[],())=some (true,y,0,y.gs 1,[0]):=Ik y 0 [] (by decide)
 have d1:decide ((0:Int)<1)=true:=rfl
 have d0:decide ((0:Int)<0)=false:=rfl
 have hl:((0:Int)<(List.length [([]:List Int)]:Int))=True:=by simp
 simp only[h1,h2,h5,d1,hl,Option.bind_some,aR,if_true,Bool.not_true,Bool.false_eq_true,if_false,Int.le_refl,h4]
 rw[bx]
 simp only[h3,d0,Option.bind_some,Bool.false_eq_true,if_false]
theorem Gg(y:YC):fH y.l (Yc y) dQ (y.l,[],y,0,y.gs 1,[],[],[])=some (.brk (y,0,y.gs 1,[])):=by
 unfold fH
 rw[wi,bx]
 have h3:f148 []=some 0:=by kernel_rfl
 simp only[h3,Option.bind_some,show decide ((0:Int)<0)=false from rfl,Bool.false_eq_true,if_false]
theorem Gi(y:YC)(m:Option (List (Int×(Option (List (Int×Bool))))))(hm:ew m= []):
 hN y.l (Yc y) y.l (1,m,()) y 0 (y.gs 1) []=some (y,0,y.gs 1,[0]):=by
 have hm:m=none∨m=some []:=by
  cases m with
  |none=>exact Or.inl rfl
  |some l=>exact Or.inr (congrArg some hm)
 unfold hN
 have h1:f146 (1,m,())=some [[]]:=by rcases hm with rfl|rfl<;>kernel_rfl
 have h2:j0 y.l (Yc y) (Int.toNat 1+1) (y.l,(1,m,()),[[]],1,(0:Int),y,0,y.gs 1,[],List.replicate (Int.toNat 1) (0:Int),([]:List Int))=some (.brk (y.l,[[]],y,0,y.gs 1,[],[0],[0])):=by rcases hm with rfl|rfl<;>kernel_rfl
 simp only[h1,Option.bind_some,h2,aR,Il]
 rfl
theorem Dz(y:YC)(m:Option (List (Int×(Option (List (Int×Bool))))))(hm:ew m= []):
 hN y.l (Yc y) y.l (0,m,()) y 0 (y.gs 1) []=some (y,0,y.gs 1,[]):=by
 have hm:m=none∨m=some []:=by
  cases m with
  |none=>exact Or.inl rfl
  |some l=>exact Or.inr (congrArg some hm)
 unfold hN
 have h1:f146 (0,m,())=some []:=by rcases hm with rfl|rfl<;>kernel_rfl
 have h2:j0 y.l (Yc y) (Int.toNat 0+1) (y.l,(0,m,()),[],0,(0:Int),y,0,y.gs 1,[],List.replicate (Int.toNat 0) (0:Int),([]:List Int))=some (.brk (y.l,[],y,0,y.gs 1,[],[],[])):=by rcases hm with rfl|rfl<;>kernel_rfl
 simp only[h1,Option.bind_some,h2,aR,Gg]
 rfl
def mA(g:jx):Option (List Int):=if List.isEmpty (ew g.2.1)=true then(if g.1=0 then some [] else if g.1=1 then some [0] else none) else none
theorem Bf{g:jx}{r:List Int}(h:∀y:YC,hN y.l (Yc y) y.l g y 0 (y.gs 1) []=some (y,0,y.gs 1,r)):qK g=some r:=by
 unfold qK qJ
 rw[kQ (r:=.brk r)]
 ·rfl
 ·intro y
  erw[h y]
  simp only[Option.bind_some,dP,if_true]
theorem Gj{g:jx}{r:List Int}(h:mA g=some r):qK g=some r:=by
 obtain⟨n,m,u⟩:=g
 unfold mA at h
 split at h
 ·rename_i hm0
  have hm:ew m= []:=List.isEmpty_iff.1 hm0
  split at h
  ·rename_i hn;cases h;subst hn;exact Bf fun y=>Dz y m hm
  ·split at h
   ·rename_i hn;cases h;subst hn;exact Bf fun y=>Gi y m hm
   ·cases h
 ·cases h
def wj:aH:=aB G [.tmp 2] 87 [(.func 145 .nil (.cons (.aZ gD) .nil))] [] 45 IK [] (.bE (fun d=>mA d.1))
theorem DA:wj.holds Tryz.prog gl:=aH.sub GI fun _ _ h=>Gj h
end Go.Proofs.YtadeibjelmcdgaaGreat
