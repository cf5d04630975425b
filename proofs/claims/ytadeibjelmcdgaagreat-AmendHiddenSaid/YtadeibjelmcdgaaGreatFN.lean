/- Made by program (dec6.py): walks -/
import Derived.Test.YtadeibjelmcdgaaGreatUA
noncomputable section
namespace Go.Proofs.YtadeibjelmcdgaaGreat
open Go.Ax
def f45(a0:cq)(a1:Int)(a2:Int):Option (Bool×zo):=
 aG (U:=Int×Int×cq×Int×Int×Int×(List UInt8)×Int) (Option.bind (α:=Bool) (if(decide (a1<(0:Int)))=true then(some true) else(if(decide ((List.length a0.1.2.2.1:Int)≤a1))=true then(some true) else(if(decide (a2<(0:Int)))=true then(some true) else(if 0≤a1 then(if a1<(List.length a0.1.2.2.1:Int) then(some (decide ((List.length ((((((nth db a0.1.2.2.1 a1).2).2).2).2).1):Int)≤a2))) else none) else none)))) fun v2=>if v2=true then(ei (some (false,((0:Int),((0:Int),((0:Int),([],((0:Int),(([]:List (List UInt8)),()))))))))) else(some (.brk (a1,a2,a0,(0:Int),(0:Int),(0:Int),[],(0:Int))))) fun⟨a,c,b,_,_,_,_,_⟩=>if 0≤a then(if a<(List.length b.1.2.2.1:Int) then(if 0≤c then(if c<(List.length ((((((nth db b.1.2.2.1 a).2).2).2).2).1):Int) then(some (true,((nth gn ((((((nth db b.1.2.2.1 a).2).2).2).2).1) c).2).1)) else none) else none) else none) else none
def Pl:SS:=⟨46,86,[(1,(.val (.int .i64))),(2,(.val (.int .i64))),(3,(.ptr 19 [])),(6,(.ptr 22 []))],[(19,(.var cA (.val cA))),(22,(.var xS (.cons (.val (.int .i64)) (.cons (.val (.int .i64)) (.cons (.val (.int .i64)) (.cons (.val .str) (.cons (.val (.int .i64)) (.cons .aS .nil))))))))],[]⟩
def Pm:SS:=⟨46,86,[(6,(.ptr 22 [])),(7,(.val .bool))],[(22,(.var xS (.val xS)))],[]⟩
def N8:aH:=aB G [.cell 6 96,.tmp 7] 45 [(.val cA),(.val (.int .i64)),(.val (.int .i64))] [] 86 Pm [] (.bE (fun d=>f45 d.1 d.2.1 d.2.2.1))
theorem Pn:N8.holds Tryz.prog gl:=
 aH.of tied (H:=⟨[(1,⟨[],[],[],some [(33,.bool)],[],[],[]⟩)],[(3,Pl)],[],[],[],[]⟩) (hold (l:=[]) trivial) aE rfl Tryz.call45 Tryz.func45 rfl rfl rfl rfl (fun _=>by kernel_rfl) (fun _=>by kernel_rfl)
def F5:Option (List (Option Nat)):=
 some [none,some 110,some 111,some 112,some 113]
def Po:SS:=⟨2,42,[(0,(.ptr 16 []))],[(16,(.var (.fns 5) (.val (.fns 5))))],[]⟩
def AI:aH:=aB G [.cell 0 161] 70 [] [] 42 Po [] (.bE (fun _=>F5))
theorem F6:AI.holds Tryz.prog gl:=
 aH.of tied (H:=⟨[],[],[],[],[],[]⟩) (hold (l:=[]) trivial) aE rfl Tryz.call70 Tryz.func70 rfl rfl rfl rfl (fun _=>by kernel_rfl) (fun _=>by kernel_rfl)
def qk:Nat→((List (List UInt8))×Int×Int×(List ((List UInt8)×Bool)))→Option (ct Unit Bool):=aL fun Rt ⟨c,b,a,d⟩=>if(decide (a<b))=true then(if 0≤a then(if a<(List.length c:Int) then(if(cI .str .bool (nth .str c a) d)=true then(ei (some false)) else(if List.length d+1≤aF then(Rt (c,b,bM (a+(1:Int)),cj .str (nth .str c a) true d)) else none)) else none) else none) else(some (.brk ()))
def f114(a0:List (List UInt8)):Option Bool:=
 aG (U:=Unit) (qk (Int.toNat (List.length a0:Int)+1) (a0,(List.length a0:Int),(0:Int),([]:List ((List UInt8)×Bool)))) fun _v1=>some true
def Pp:SS:=⟨21,61,[],[],[]⟩
def Pq:SS:=⟨21,61,[(3,(.mp 24)),(9,(.val (.slice 16 .str))),(10,(.val (.int .i64))),(11,(.val (.int .i64)))],[(24,(.map .str .bool))],[]⟩
def Pr:SS:=⟨21,61,[(2,(.val .bool))],[],[]⟩
def H7:aH:=aB G [.tmp 2] 114 [(.val (.slice 16 .str))] [] 61 Pr [] (.bE (fun d=>f114 d.1))
theorem KY:H7.holds Tryz.prog gl:=
 aH.of tied (H:=⟨[],[(9,Pp)],[],[(3,⟨Pq,fun u2=>Int.toNat u2.2.1+1⟩)],[],[]⟩) (hold (l:=[]) trivial) aE rfl Tryz.call114 Tryz.func114 rfl rfl rfl rfl (fun _=>by kernel_rfl) (fun _=>by kernel_rfl)
def f113(a0:zo)(_a1:Int):Option Bool:=
 Option.bind (α:=Bool) (if(decide (a0.2.1=(0:Int)))=true then(if(decide (a0.2.2.1=(bM ((List.length a0.2.2.2.2.2.1:Int) -(1:Int)))))=true then(if(decide (a0.2.2.2.2.1=(-1:Int)))=true then(if(decide ((1:Int)≤(List.length a0.2.2.2.2.2.1:Int)))=true then(if(decide ((List.length a0.2.2.2.2.2.1:Int)≤(16:Int)))=true then(Option.bind (f114 a0.2.2.2.2.2.1) fun y1=>some y1) else(some false)) else(some false)) else(some false)) else(some false)) else(some false)) fun v2=>some v2
def Ps:SS:=⟨39,79,[(4,(.val .bool))],[],[]⟩
def H8:aH:=aB G [.tmp 4] 113 [(.val xS),(.val (.int .i64))] [] 79 Ps [] (.bE (fun d=>f113 d.1 d.2.1))
theorem KZ:H8.holds Tryz.prog gl:=
 aH.of tied (H:=⟨[(1,⟨[],[],[⟨[0],[],[],[],[]⟩],some [(4,.bool)],[],[],[]⟩)],[],[],[],[],[]⟩) (hold (l:=[H7]) ⟨KY,trivial⟩) aE rfl Tryz.call113 Tryz.func113 rfl rfl rfl rfl (fun _=>by kernel_rfl) (fun _=>by kernel_rfl)
def f112(a0:zo)(_a1:Int):Option Bool:=
 Option.bind (α:=Bool) (if(decide (a0.2.1=(0:Int)))=true then(if(decide (a0.2.2.1=(4095:Int)))=true then(if(decide (a0.2.2.2.2.1=(-1:Int)))=true then(some (decide ((List.length a0.2.2.2.2.2.1:Int)=(0:Int)))) else(some false)) else(some false)) else(some false)) fun v1=>some v1
def N9:SS:=⟨24,64,[(4,(.val .bool))],[],[]⟩
def H9:aH:=aB G [.tmp 4] 112 [(.val xS),(.val (.int .i64))] [] 64 N9 [] (.bE (fun d=>f112 d.1 d.2.1))
theorem K0:H9.holds Tryz.prog gl:=
 aH.of tied (H:=⟨[(1,⟨[],[],[],some [(4,.bool)],[],[],[]⟩)],[],[],[],[],[]⟩) (hold (l:=[]) trivial) aE rfl Tryz.call112 Tryz.func112 rfl rfl rfl rfl (fun _=>by kernel_rfl) (fun _=>by kernel_rfl)
def f111(a0:zo)(_a1:Int):Option Bool:=
 Option.bind (α:=Bool) (if(decide (a0.2.1=(0:Int)))=true then(if(decide (a0.2.2.1=(1023:Int)))=true then(if(decide (a0.2.2.2.2.1=(-1:Int)))=true then(some (decide ((List.length a0.2.2.2.2.2.1:Int)=(0:Int)))) else(some false)) else(some false)) else(some false)) fun v1=>some v1
def Ia:aH:=aB G [.tmp 4] 111 [(.val xS),(.val (.int .i64))] [] 64 N9 [] (.bE (fun d=>f111 d.1 d.2.1))
theorem K1:Ia.holds Tryz.prog gl:=
 aH.of tied (H:=⟨[(1,⟨[],[],[],some [(4,.bool)],[],[],[]⟩)],[],[],[],[],[]⟩) (hold (l:=[]) trivial) aE rfl Tryz.call111 Tryz.func111 rfl rfl rfl rfl (fun _=>by kernel_rfl) (fun _=>by kernel_rfl)
def f110(a0:zo)(a1:Int):Option Bool:=
 Option.bind (α:=Bool) (if(decide ((0:Int)≤a0.2.1))=true then(if(decide (a0.2.1≤a0.2.2.1))=true then(if(decide (a0.2.2.1≤(1048576:Int)))=true then(if(decide ((-1:Int)≤a0.2.2.2.2.1))=true then(if(decide (a0.2.2.2.2.1<a1))=true then(some (decide ((List.length a0.2.2.2.2.2.1:Int)=(0:Int)))) else(some false)) else(some false)) else(some false)) else(some false)) else(some false)) fun v1=>some v1
def Pt:SS:=⟨37,77,[(4,(.val .bool))],[],[]⟩
def Ib:aH:=aB G [.tmp 4] 110 [(.val xS),(.val (.int .i64))] [] 77 Pt [] (.bE (fun d=>f110 d.1 d.2.1))
theorem K2:Ib.holds Tryz.prog gl:=
 aH.of tied (H:=⟨[(1,⟨[],[],[],some [(4,.bool)],[],[],[]⟩)],[],[],[],[],[]⟩) (hold (l:=[]) trivial) aE rfl Tryz.call110 Tryz.func110 rfl rfl rfl rfl (fun _=>by kernel_rfl) (fun _=>by kernel_rfl)
def f46(a0:cq)(a1:zo):Option Bool:=
 aG (U:=cq×zo) (Option.bind (α:=Bool) (if(decide (a1.1<(1:Int)))=true then(some true) else(some (decide ((4:Int)<a1.1)))) fun v2=>if v2=true then(ei (some false)) else(some (.brk (a0,a1)))) fun⟨b,a⟩=>if 0≤a.1 then(if a.1<(5:Int) then(if a.1=(0:Int) then none else(if a.1=(1:Int) then(Option.bind (f110 a (List.length b.1.2.1:Int)) fun y6=>some y6) else(if a.1=(2:Int) then(Option.bind (f111 a (List.length b.1.2.1:Int)) fun y5=>some y5) else(if a.1=(3:Int) then(Option.bind (f112 a (List.length b.1.2.1:Int)) fun y4=>some y4) else(if a.1=(4:Int) then(Option.bind (f113 a (List.length b.1.2.1:Int)) fun y3=>some y3) else none))))) else none) else none
def Pu:SS:=⟨23,63,[(2,(.ptr 18 [])),(3,(.ptr 19 []))],[(18,(.var cA (.val cA))),(19,(.var xS (.val xS)))],[]⟩
def Pv:SS:=⟨23,63,[(4,(.val .bool))],[],[]⟩
def K3:aH:=aB G [.tmp 4] 46 [(.val cA),(.val xS)] [] 63 Pv [] (.bE (fun d=>f46 d.1 d.2.1))
theorem Oa:K3.holds Tryz.prog gl:=
 aH.of tied (H:=⟨[(1,⟨[],[],[],some [(12,.bool)],[],[],[]⟩),(3,⟨[],[],[⟨[0],[],[],[],[]⟩,⟨[1,2,3,4],[],[],[],[]⟩],none,[],[],[]⟩)],[(3,Pu)],[],[],[],[]⟩) (hold (l:=[AI,H8,H9,Ia,Ib]) ⟨F6,KZ,K0,K1,K2,trivial⟩) aE rfl Tryz.call46 Tryz.func46 rfl rfl rfl rfl (fun _=>by kernel_rfl) (fun _=>by kernel_rfl)
def f28(a0:dr)(a1:Int)(a2:Int)(a3:Int):Option Bool:=
 Option.bind (f45 (a0,()) a1 a2) fun⟨a,b⟩=>Option.bind (α:=Bool) (if a=true then(Option.bind (f46 (a0,()) b) fun y2=>if y2=true then(if(decide (b.2.1≤a3))=true then(some (decide (a3≤b.2.2.1))) else(some false)) else(some false)) else(some false)) fun v3=>some v3
def Pw:SS:=⟨38,78,[(8,(.val .bool))],[],[]⟩
def Ob:aH:=aB G [.tmp 8] 28 [(.val dq),(.val (.int .i64)),(.val (.int .i64)),(.val (.int .i64))] [] 78 Pw [] (.bE (fun d=>f28 d.1 d.2.1 d.2.2.1 d.2.2.2.1))
theorem Px:Ob.holds Tryz.prog gl:=
 aH.of tied (H:=⟨[(2,⟨[],[],[⟨[0],[],[],[],[]⟩],none,[],[],[]⟩),(3,⟨[],[],[⟨[1],[],[],[],[]⟩],some [(8,.bool)],[],[],[]⟩)],[],[],[],[],[]⟩) (hold (l:=[N8,K3]) ⟨Pn,Oa,trivial⟩) aE rfl Tryz.call28 Tryz.func28 rfl rfl rfl rfl (fun _=>by kernel_rfl) (fun _=>by kernel_rfl)
def K4(a0:Int)(a1:Int)(a2:Int)(a3:Int)(a4:Int)(a5:bH)(a6:Int)(a7:dr):Option (Int×Bool×Int×Int×Int×Int×bH×Int×dr×(List aT)):=
 Option.bind (f18 a1 a2 a3 a0) fun y1=>if List.length [(y1,(a4,(bM (a4+(1:Int)),())))]*40≤aF then(Option.bind (zi a5.2.1 y1 a4 a6) fun⟨b,a⟩=>Option.bind (α:=Int×Bool) (if a=true then(Option.bind (f28 a7 a1 a0 b) fun y3=>some (b,y3)) else(some (b,false))) fun⟨c,d⟩=>some (c,d,a1,a2,a3,a4,a5,a6,a7,[(y1,(a4,(bM (a4+(1:Int)),())))])) else none
def ql(a0:Int)(a1:Int)(a2:Int)(a3:Int)(a4:Int)(a5:bH)(a6:Int)(a7:dr)(a8:List aT):Option (Int×Bool×Int×Int×Int×Int×bH×Int×dr×(List aT)):=
 Option.bind (f18 a1 a2 a3 a0) fun y1=>if(List.length a8+List.length [(y1,(a4,(bM (a4+(1:Int)),())))])*40≤aF then(Option.bind (zi a5.2.1 y1 a4 a6) fun⟨b,a⟩=>Option.bind (α:=Int×Bool) (if a=true then(Option.bind (f28 a7 a1 a0 b) fun y3=>some (b,y3)) else(some (b,false))) fun⟨c,d⟩=>some (c,d,a1,a2,a3,a4,a5,a6,a7,a8++[(y1,(a4,(bM (a4+(1:Int)),())))])) else none
def Py:SS:=⟨44,84,[(10,(.val (.int .i64))),(11,(.val .bool))],[(0,(.var (.int .i64) (.val (.int .i64)))),(1,(.var (.int .i64) (.val (.int .i64)))),(2,(.var (.int .i64) (.val (.int .i64)))),(3,(.var (.slice 40 bw) (.own 41))),(4,(.var (.int .i64) (.val (.int .i64)))),(5,(.var bS (.val bS))),(6,(.var (.int .i64) (.val (.int .i64)))),(7,(.var dq (.val dq))),(41,(.row 83 40 bw))],[]⟩
def AJ:aH:=aB G [.tmp 10,.tmp 11] 26 [(.val (.int .i64)),(.ptr 0 []),(.ptr 1 []),(.ptr 2 []),(.ptr 3 []),(.ptr 4 []),(.ptr 5 []),(.ptr 6 []),(.ptr 7 [])] [(0,(.var (.int .i64) (.val (.int .i64)))),(1,(.var (.int .i64) (.val (.int .i64)))),(2,(.var (.int .i64) (.val (.int .i64)))),(3,(.var (.slice 40 bw) (.own 8))),(4,(.var (.int .i64) (.val (.int .i64)))),(5,(.var bS (.val bS))),(6,(.var (.int .i64) (.val (.int .i64)))),(7,(.var dq (.val dq))),(8,(.row 83 40 bw))] 84 Py [0,1,2,3,4,5,6,7,41] (.bE (fun d=>ql d.1 d.2.1 d.2.2.1 d.2.2.2.1 d.2.2.2.2.1 d.2.2.2.2.2.1 d.2.2.2.2.2.2.1 d.2.2.2.2.2.2.2.1 d.2.2.2.2.2.2.2.2.1))
theorem F7:AJ.holds Tryz.prog gl:=
 aH.of tied (H:=⟨[(1,⟨[],[],[⟨[0],[],[],[],[]⟩],none,[],[],[]⟩),(3,⟨[],[],[⟨[1],[],[],[],[]⟩],none,[],[],[]⟩),(4,⟨[],[],[⟨[2],[],[],[],[]⟩],some [(10,(.int .i64)),(11,.bool)],[],[],[]⟩)],[],[],[],[],[]⟩) (hold (l:=[MW,Ip,Ob]) ⟨OL,Lb,Px,trivial⟩) aE rfl Tryz.call26 Tryz.func26 rfl rfl rfl rfl (fun _=>by kernel_rfl) (fun _=>by kernel_rfl)
def nv:Nat→(Int×bH×Int×Int×Int×Int×Int×Int×Int×Int×dr×(List Int)×(List aT))→Option (ct (Int×Int×Int×Int×Int×Int×(List Int)×(List aT)) (Bool×tj×(List aT))):=aL fun rec7 ⟨m,q,k,n,o,p,r,u,v,w,l,t,s⟩=>if 0≤k then(if k<(List.length l.2.2.1:Int) then(if(decide (m<(List.length ((((((nth db l.2.2.1 k).2).2).2).2).1):Int)))=true then(Option.bind (ql m k n o p q r l s) fun⟨c,a,e,f,g,h,d,i,j,b⟩=>if(!a)=true then(ei (some (false,((0:Int),((0:Int),((0:Int),(([]:List Int),())))),b))) else(if(List.length t+List.length [c])*8≤aF then(rec7 (bM (m+(1:Int)),d,e,f,g,h,i,u,v,w,j,t++[c],b)) else none)) else(some (.brk (k,n,o,u,v,w,t,s)))) else none) else none
def f10(a0:bH)(a1:Int)(a2:Int)(a3:Int)(a4:Int)(a5:Int):Option (Bool×tj×(List aT)):=
 aG (U:=bH×Int×Int×Int×Int×Int×Int×Int×Int×dr) (Option.bind (α:=Bool) (Option.bind (f25 a0.1.1 a1) fun y2=>if(!y2)=true then(some true) else(Option.bind (f17 a2 a3) fun y3=>if(!y3)=true then(some true) else(if(decide (a4<(0:Int)))=true then(some true) else(some (decide ((1024:Int)≤a4)))))) fun v4=>if v4=true then(ei (some (false,((0:Int),((0:Int),((0:Int),(([]:List Int),())))),([]:List aT)))) else(some (.brk (a0,a1,a2,a3,a4,a5,(0:Int),(0:Int),(0:Int),a0.1.1)))) fun⟨a,b,c,d,e,f,g,h,i,j⟩=>aG (U:=Int×Int×Int×Int×Int×Int×(List Int)×(List aT)) (nv dQ ((1:Int),a,b,c,d,e,f,g,h,i,j,[c],([]:List aT))) fun⟨k,l,m,_,_,_,n,o⟩=>some (true,(k,(l,(m,(n,())))),o)
def Pz:SS:=⟨77,117,[(6,(.ptr 22 [])),(7,(.ptr 23 [])),(8,(.ptr 24 [])),(9,(.ptr 25 [])),(10,(.ptr 26 [])),(11,(.ptr 27 [])),(12,(.ptr 28 [])),(13,(.ptr 29 [])),(15,(.ptr 31 []))],[(22,(.var bS (.val bS))),(23,(.var (.int .i64) (.val (.int .i64)))),(24,(.var (.int .i64) (.val (.int .i64)))),(25,(.var (.int .i64) (.val (.int .i64)))),(26,(.var (.int .i64) (.val (.int .i64)))),(27,(.var (.int .i64) (.val (.int .i64)))),(28,(.var po (.cons (.val (.int .i64)) (.cons (.val (.int .i64)) (.cons (.val (.int .i64)) (.cons .aS .nil)))))),(29,(.var (.slice 40 bw) .aS)),(31,(.var dq (.val dq)))],[]⟩
def PA:SS:=⟨77,117,[(7,(.ptr 23 [])),(8,(.ptr 24 [])),(9,(.ptr 25 [])),(12,(.ptr 28 [])),(13,(.ptr 29 [])),(17,(.own 95))],[(23,(.var (.int .i64) (.val (.int .i64)))),(24,(.var (.int .i64) (.val (.int .i64)))),(25,(.var (.int .i64) (.val (.int .i64)))),(28,(.var po (.cons (.val (.int .i64)) (.cons (.val (.int .i64)) (.cons (.val (.int .i64)) (.cons .aS .nil)))))),(29,(.var (.slice 40 bw) (.own 96))),(95,(.row 3 8 (.int .i64))),(96,(.row 83 40 bw))],[]⟩
def PB:SS:=⟨77,117,[(7,(.ptr 23 [])),(8,(.ptr 24 [])),(9,(.ptr 25 [])),(12,(.ptr 28 [])),(13,(.ptr 29 [])),(15,(.ptr 31 [])),(16,(.func 26 .nil (.cons (.ptr 23 []) (.cons (.ptr 24 []) (.cons (.ptr 25 []) (.cons (.ptr 29 []) (.cons (.ptr 26 []) (.cons (.ptr 22 []) (.cons (.ptr 27 []) (.cons (.ptr 31 []) .nil)))))))))),(17,(.own 93)),(18,(.val (.int .i64)))],[(22,(.var bS (.val bS))),(23,(.var (.int .i64) (.val (.int .i64)))),(24,(.var (.int .i64) (.val (.int .i64)))),(25,(.var (.int .i64) (.val (.int .i64)))),(26,(.var (.int .i64) (.val (.int .i64)))),(27,(.var (.int .i64) (.val (.int .i64)))),(28,(.var po (.cons (.val (.int .i64)) (.cons (.val (.int .i64)) (.cons (.val (.int .i64)) (.cons .aS .nil)))))),(29,(.var (.slice 40 bw) (.own 94))),(31,(.var dq (.val dq))),(93,(.row 3 8 (.int .i64))),(94,(.row 83 40 bw))],[]⟩
def PC:SS:=⟨77,117,[(12,(.ptr 28 [])),(13,(.ptr 29 [])),(14,(.val .bool))],[(28,(.var po (.val po))),(29,(.var (.slice 40 bw) (.val (.slice 40 bw))))],[]⟩
def Ho:aH:=aB G [.cell 12 56,.cell 13 52,.tmp 14] 10 [(.val bS),(.val (.int .i64)),(.val (.int .i64)),(.val (.int .i64)),(.val (.int .i64)),(.val (.int .i64))] [] 117 PC [] (.bE (fun d=>f10 d.1 d.2.1 d.2.2.1 d.2.2.2.1 d.2.2.2.2.1 d.2.2.2.2.2.1))
theorem Ic:Ho.holds Tryz.prog gl:=
 aH.of tied (H:=⟨[(2,⟨[],[],[⟨[0],[],[],[],[]⟩,⟨[1],[],[],[],[]⟩],some [(41,.bool)],[],[],[]⟩),(9,⟨[],[],[⟨[2],[(0,23),(1,24),(2,25),(3,29),(4,26),(5,22),(6,27),(7,31),(8,94)],[(41,76)],[],[]⟩],none,[],[],[]⟩)],[(4,Pz),(13,PA)],[],[(7,⟨PB,fun _=>dQ⟩)],[],[]⟩) (hold (l:=[OI,MV,AJ]) ⟨QT,OJ,F7,trivial⟩) aE rfl Tryz.call10 Tryz.func10 rfl rfl rfl rfl (fun _=>by kernel_rfl) (fun _=>by kernel_rfl)
def f43(a0:bH)(a1:Int)(a2:Int)(a3:Int)(a4:Int)(a5:Int):Option ((List aT)×Bool×tj):=
 Option.bind (f68 a0.1.1 a1) fun y1=>if 0≤y1 then(if y1<(2:Int) then(if y1=(0:Int) then(Option.bind (f10 a0 a1 a2 a3 a4 a5) fun⟨b,c,a⟩=>some (a,b,c)) else(if y1=(1:Int) then(Option.bind (f66 a0 a1 a2 a3 a4 a5) fun⟨d,e,f⟩=>some (d,e,f)) else none)) else none) else none
def PD:SS:=⟨34,74,[(12,(.ptr 28 [])),(13,(.val (.slice 40 bw))),(14,(.val .bool))],[(28,(.var po (.val po)))],[]⟩
def Oc:aH:=aB G [.cell 12 56,.tmp 13,.tmp 14] 43 [(.val bS),(.val (.int .i64)),(.val (.int .i64)),(.val (.int .i64)),(.val (.int .i64)),(.val (.int .i64))] [] 74 PD [] (.bE (fun d=>f43 d.1 d.2.1 d.2.2.1 d.2.2.2.1 d.2.2.2.2.1 d.2.2.2.2.2.1))
theorem PE:Oc.holds Tryz.prog gl:=
 aH.of tied (H:=⟨[(2,⟨[],[],[⟨[0],[],[],[],[]⟩,⟨[1,2],[],[],[],[]⟩],none,[],[],[]⟩)],[],[],[],[],[]⟩) (hold (l:=[OG,OH,Ho]) ⟨QM,QO,Ic,trivial⟩) aE rfl Tryz.call43 Tryz.func43 rfl rfl rfl rfl (fun _=>by kernel_rfl) (fun _=>by kernel_rfl)
def tF:Nat→((List aT)×Bool×(List Int)×Int×Int×eY×tj×(List Int))→Option (ct ((List aT)×Bool×(List Int)) ((List Int)×(List aT)×Bool)):=aL fun rec4 ⟨h,d,c,b,a,f,e,g⟩=>if(decide (a<b))=true then(if 0≤a then(if a<(List.length c:Int) then(Option.bind (α:=Bool) (if(!d)=true then(some true) else(if(decide ((List.length e.2.2.2.1:Int)≤(nth (.int .i64) c a)))=true then(some true) else(if 0≤(nth (.int .i64) c a) then(if(nth (.int .i64) c a)<(List.length e.2.2.2.1:Int) then(if 0≤a then(if a<(List.length f.2.2.2.2.2.2.2.2.1:Int) then(some (!decide ((nth (.int .i64) e.2.2.2.1 (nth (.int .i64) c a))=(nth (.int .i64) f.2.2.2.2.2.2.2.2.1 a)))) else none) else none) else none) else none))) fun v5=>if v5=true then(if(List.length g+List.length [nth (.int .i64) c a])*8≤aF then(rec4 (h,d,c,b,bM (a+(1:Int)),f,e,g++[nth (.int .i64) c a])) else none) else(rec4 (h,d,c,b,bM (a+(1:Int)),f,e,g))) else none) else none) else(some (.brk (h,d,g)))
def f24(a0:bH)(a1:eY)(a2:Int):Option ((List Int)×(List aT)×Bool):=
 Option.bind (f43 a0 a1.2.2.1 a1.2.2.2.1 a1.2.2.2.2.1 a1.2.2.2.2.2.1 a2) fun⟨a,b,c⟩=>aG (U:=(List aT)×Bool×(List Int)) (tF (Int.toNat (List.length a1.2.2.2.2.2.2.2.1:Int)+1) (a,b,a1.2.2.2.2.2.2.2.1,(List.length a1.2.2.2.2.2.2.2.1:Int),(0:Int),a1,c,([]:List Int))) fun⟨e,f,d⟩=>some (d,e,f)
def PG:SS:=⟨65,105,[(6,(.own 82)),(7,(.val (.slice 40 bw))),(8,(.val .bool))],[(82,(.row 3 8 (.int .i64)))],[]⟩
def PH:SS:=⟨65,105,[(4,(.ptr 20 [])),(6,(.own 81)),(7,(.val (.slice 40 bw))),(8,(.val .bool)),(9,(.ptr 25 [])),(28,(.val (.slice 8 (.int .i64)))),(29,(.val (.int .i64))),(30,(.val (.int .i64)))],[(20,(.var ep (.val ep))),(25,(.var po (.val po))),(81,(.row 3 8 (.int .i64)))],[]⟩
def PI:SS:=⟨65,105,[(6,(.val (.slice 8 (.int .i64)))),(7,(.val (.slice 40 bw))),(8,(.val .bool))],[],[]⟩
def Jw:aH:=aB G [.tmp 6,.tmp 7,.tmp 8] 24 [(.val bS),(.val ep),(.val (.int .i64))] [] 105 PI [] (.bE (fun d=>f24 d.1 d.2.1 d.2.2.1))
theorem K5:Jw.holds Tryz.prog gl:=
 aH.of tied (H:=⟨[(1,⟨[],[],[⟨[0],[],[],[],[]⟩],none,[],[],[]⟩),(5,⟨[],[],[],some [(56,.bool)],[],[],[]⟩)],[(8,PG)],[],[(3,⟨PH,fun u3=>Int.toNat u3.2.2.2.1+1⟩)],[],[]⟩) (hold (l:=[Oc]) ⟨PE,trivial⟩) aE rfl Tryz.call24 Tryz.func24 rfl rfl rfl rfl (fun _=>by kernel_rfl) (fun _=>by kernel_rfl)
def f9(a0:bH)(a1:eY)(a2:Int):Option (Bool×(List aT)):=
 Option.bind (f23 a1) fun y1=>if(!y1)=true then(some (false,([]:List aT))) else(Option.bind (f24 a0 a1 a2) fun⟨b,c,a⟩=>Option.bind (α:=Bool×(List aT)) (if a=true then(some (decide ((List.length b:Int)=(0:Int)),c)) else(some (false,c))) fun⟨d,e⟩=>some (d,e))
def PJ:SS:=⟨28,68,[(6,(.val .bool)),(7,(.val (.slice 40 bw)))],[],[]⟩
def c9:aH:=aB G [.tmp 6,.tmp 7] 9 [(.val bS),(.val ep),(.val (.int .i64))] [] 68 PJ [] (.bE (fun d=>f9 d.1 d.2.1 d.2.2.1))
theorem x9:c9.holds Tryz.prog gl:=
 aH.of tied (H:=⟨[(1,⟨[],[],[⟨[0],[],[],[],[]⟩],none,[],[],[]⟩),(3,⟨[],[],[⟨[1],[],[],[],[]⟩],none,[],[],[]⟩),(4,⟨[],[],[],some [(6,.bool),(7,(.slice 40 bw))],[],[],[]⟩)],[],[],[],[],[]⟩) (hold (l:=[MU,Jw]) ⟨OE,K5,trivial⟩) aE rfl Tryz.call9 Tryz.func9 rfl rfl rfl rfl (fun _=>by kernel_rfl) (fun _=>by kernel_rfl)
def f13(a0:bH)(a1:eY)(a2:Int):Option (List Int):=
 Option.bind (f23 a1) fun y1=>if(!y1)=true then none else(Option.bind (f24 a0 a1 a2) fun⟨a,_,_⟩=>some a)
def PK:SS:=⟨22,62,[(6,(.val (.slice 8 (.int .i64))))],[],[]⟩
def Od:aH:=aB G [.tmp 6] 13 [(.val bS),(.val ep),(.val (.int .i64))] [] 62 PK [] (.bE (fun d=>f13 d.1 d.2.1 d.2.2.1))
theorem PL:Od.holds Tryz.prog gl:=
 aH.of tied (H:=⟨[(1,⟨[],[],[⟨[0],[],[],[],[]⟩],none,[],[],[]⟩),(2,⟨[],[],[],none,[(0,9999)],[],[]⟩),(3,⟨[],[],[⟨[1],[],[],[],[]⟩],none,[],[],[]⟩)],[],[],[],[],[]⟩) (hold (l:=[MU,Jw]) ⟨OE,K5,trivial⟩) aE rfl Tryz.call13 Tryz.func13 rfl rfl rfl rfl (fun _=>by kernel_rfl) (fun _=>by kernel_rfl)
def tG(a0:bH)(a1:List eY)(a2:Int)(a3:Int):Option (bH×(List eY)×Int×Int):=
 some (a0,a1,a2,a3)
def PN:SS:=⟨10,50,[(8,(.func 47 .nil (.cons (.ptr 21 []) (.cons (.ptr 20 []) (.cons (.ptr 22 []) (.cons (.ptr 23 []) .nil))))))],[(20,(.var bS (.val bS))),(21,(.var (.slice 104 ep) (.val (.slice 104 ep)))),(22,(.var (.int .i64) (.val (.int .i64)))),(23,(.var (.int .i64) (.val (.int .i64))))],[]⟩
def AK:aH:=aB G [.tmp 8] 29 [(.val bS),(.val (.slice 104 ep)),(.val (.int .i64)),(.val (.int .i64))] [] 50 PN [20,21,22,23] (.bE (fun d=>tG d.1 d.2.1 d.2.2.1 d.2.2.2.1))
theorem F8:AK.holds Tryz.prog gl:=
 aH.of tied (H:=⟨[],[],[],[],[],[]⟩) (hold (l:=[]) trivial) aE rfl Tryz.call29 Tryz.func29 rfl rfl rfl rfl (fun _=>by kernel_rfl) (fun _=>by kernel_rfl)
def lh(l_:Nat)(Y_:eY×(List Int)×YC×Nat×Nat×(List nN)×Unit→Option (Bool×YC×Nat×Nat×(List nN))):Nat→(Nat×(List eY)×Int×Int×YC×Nat×Nat×bH×(List eY)×Int×Int×(List nN))→Option (ct (YC×Nat×Nat×bH×(List eY)×Int×Int×(List nN)) (YC×Nat×Nat×bH×(List eY)×Int×Int×(List nN))):=aL fun Rt ⟨s,p,o,n,t,u,v,q,w,r,x,y⟩=>if(decide (n<o))=true then(if 0≤n then(if n<(List.length p:Int) then(Option.bind (f9 q (nth ep p n) r) fun⟨a,_⟩=>if(!a)=true then(Rt (s,p,o,bM (n+(1:Int)),t,u,v,q,w,r,x,y)) else(Option.bind (f24 q (nth ep p n) x) fun⟨c,_,b⟩=>if(!b)=true then(if s=l_ then(Option.bind (Y_ (nth ep p n,c,t,u,v,y,())) fun⟨d,e,f,g,h⟩=>if(!d)=true then(ei (some (e,f,g,q,w,r,x,h))) else(Rt (s,p,o,bM (n+(1:Int)),e,f,g,q,w,r,x,h))) else none) else(if(decide ((0:Int)<(List.length c:Int)))=true then(if s=l_ then(Option.bind (Y_ (nth ep p n,c,t,u,v,y,())) fun⟨i,j,k,l,m⟩=>if(!i)=true then(ei (some (j,k,l,q,w,r,x,m))) else(Rt (s,p,o,bM (n+(1:Int)),j,k,l,q,w,r,x,m))) else none) else(Rt (s,p,o,bM (n+(1:Int)),t,u,v,q,w,r,x,y))))) else none) else none) else(some (.brk (t,u,v,q,w,r,x,y)))
def tH(l_:Nat)(Y_:eY×(List Int)×YC×Nat×Nat×(List nN)×Unit→Option (Bool×YC×Nat×Nat×(List nN)))(a0:Nat)(a1:YC)(a2:Nat)(a3:Nat)(a4:List nN)(a5:bH)(a6:List eY)(a7:Int)(a8:Int):Option (YC×Nat×Nat×bH×(List eY)×Int×Int×(List nN)):=
 aG (U:=YC×Nat×Nat×bH×(List eY)×Int×Int×(List nN)) (lh l_ Y_ (Int.toNat (List.length a6:Int)+1) (a0,a6,(List.length a6:Int),(0:Int),a1,a2,a3,a5,a6,a7,a8,a4)) fun⟨a,b,c,d,e,f,g,h⟩=>some (a,b,c,d,e,f,g,h)
def PO:SS:=⟨51,91,[],[(0,.lp),(1,(.tv (.slice 40 kc) (.own 69))),(3,(.var bS (.val bS))),(4,(.var (.slice 104 ep) (.val (.slice 104 ep)))),(5,(.var (.int .i64) (.val (.int .i64)))),(6,(.var (.int .i64) (.val (.int .i64)))),(69,(.row 66 40 kc))],[]⟩
def PQ:SS:=⟨51,91,[(0,.pN),(2,(.ptr 3 [])),(3,(.ptr 5 [])),(4,(.ptr 6 [])),(13,(.val (.slice 104 ep))),(14,(.val (.int .i64))),(15,(.val (.int .i64)))],[(0,.lp),(1,(.tv (.slice 40 kc) (.own 68))),(3,(.var bS (.val bS))),(4,(.var (.slice 104 ep) (.val (.slice 104 ep)))),(5,(.var (.int .i64) (.val (.int .i64)))),(6,(.var (.int .i64) (.val (.int .i64)))),(68,(.row 66 40 kc))],[]⟩
def PR:SS:=⟨51,91,[],[(0,.lp),(1,(.tv (.slice 40 kc) (.own 70))),(3,(.var bS (.val bS))),(4,(.var (.slice 104 ep) (.val (.slice 104 ep)))),(5,(.var (.int .i64) (.val (.int .i64)))),(6,(.var (.int .i64) (.val (.int .i64)))),(70,(.row 66 40 kc))],[]⟩
def tI:IC:=⟨[(.val ep),(.val (.slice 8 (.int .i64)))],[(0,.lp),(1,(.tv (.slice 40 kc) (.own 2))),(2,(.row 66 40 kc))],68,0,[(1,(.tv (.slice 40 kc) (.own 42))),(42,(.row 66 40 kc))],fun l f=>aB G [] 47 [.pN,(.ptr 4 []),(.ptr 3 []),(.ptr 5 []),(.ptr 6 [])] [(0,.lp),(1,(.tv (.slice 40 kc) (.own 2))),(2,(.row 66 40 kc)),(3,(.var bS (.val bS))),(4,(.var (.slice 104 ep) (.val (.slice 104 ep)))),(5,(.var (.int .i64) (.val (.int .i64)))),(6,(.var (.int .i64) (.val (.int .i64))))] 91 PR [0,1,3,4,5,6,70] (.bE (fun d=>tH l f d.1 d.2.1 d.2.2.1 d.2.2.2.1 d.2.2.2.2.1 d.2.2.2.2.2.1 d.2.2.2.2.2.2.1 d.2.2.2.2.2.2.2.1 d.2.2.2.2.2.2.2.2.1))⟩
theorem F9:tI.holds Tryz.prog gl:=fun B hB l f hY=>
 aH.of tied (H:=⟨[(3,⟨[],[],[⟨[1],[],[],[],[]⟩],none,[],[],[]⟩),(5,⟨[],[],[⟨[2],[],[],[],[]⟩],none,[],[],[]⟩),(6,⟨[],[],[⟨[0],[(0,0),(1,1),(2,68)],[(42,67)],[],[]⟩],none,[],[],[]⟩)],[],[(0,PO)],[(1,⟨PQ,fun u2=>Int.toNat u2.2.2.1+1⟩)],[],[]⟩) (hold (l:=[IC.Y tI l f,c9,Jw]) ⟨hY,x9.up rfl (fun _ _=>trivial),K5.up rfl (fun _ _=>trivial),trivial⟩) aE rfl Tryz.call47 Tryz.func47 rfl rfl rfl rfl (fun _=>by kernel_rfl) (fun _=>by kernel_rfl)
def qm(y_:YC)(b4_0:eY)(b4_1:List Int)(yt:YC)(yj:Nat)(g1:Nat)(c4_0:List nN):Option (Bool×YC×Nat×Nat×(List nN)):=
 zN yt y_ (if yj=0 then(if g1=y_.gs 1 then(Option.bind (α:=Nat×Nat×(List nN)) (if(List.length c4_0+List.length [(b4_0.1,(b4_0.2.1,(b4_1,())))])*40≤aF then(some (0,y_.gs 1,c4_0++[(b4_0.1,(b4_0.2.1,(b4_1,())))])) else none) fun r_=>if r_.2.1=y_.gs 1 then(some (Nat.beq r_.1 0,y_,r_.1,r_.2.1,r_.2.2)) else none) else none) else none)
def f11(a0:bH)(a1:List eY)(a2:Int)(a3:Int):Option (List nN):=
 aG (U:=List nN) (Option.bind (tG a0 a1 a2 a3) fun⟨a,b,c,e⟩=>oq fun y3=>Option.bind (tH y3.l (fun d=>qm y3 d.1 d.2.1 d.2.2.1 d.2.2.2.1 d.2.2.2.2.1 d.2.2.2.2.2.1) y3.l y3 0 (y3.gs 1) ([]:List nN) a b c e) fun⟨f,g,_,_,_,_,_,h⟩=>zN f y3 (if g=0 then(some (.brk h)) else none)) fun v1=>some v1
def PT:SS:=⟨28,68,[(8,(.ptr 24 []))],[(24,(.var (.slice 40 kc) (.own 50))),(48,.nR),(50,(.row 66 40 kc))],[(.mp 48)]⟩
def PU:SS:=⟨28,68,[(8,(.ptr 24 [])),(15,(.func 47 .nil (.cons (.ptr 44 []) (.cons (.ptr 31 []) (.cons (.ptr 45 []) (.cons (.ptr 46 []) .nil))))))],[(24,(.var (.slice 40 kc) (.own 47))),(31,(.var bS (.val bS))),(44,(.var (.slice 104 ep) (.val (.slice 104 ep)))),(45,(.var (.int .i64) (.val (.int .i64)))),(46,(.var (.int .i64) (.val (.int .i64)))),(47,(.row 66 40 kc))],[]⟩
def PV:SS:=⟨28,68,[],[(1,(.var (.slice 40 kc) (.own 42))),(42,(.row 66 40 kc))],[]⟩
def Oe:SS:=⟨28,68,[(8,(.ptr 24 []))],[(24,(.var (.slice 40 kc) (.val (.slice 40 kc))))],[]⟩
def PW:aH:=aB G [.cell 8 59] 11 [(.val bS),(.val (.slice 104 ep)),(.val (.int .i64)),(.val (.int .i64))] [] 68 Oe [] (.bE (fun d=>f11 d.1 d.2.1 d.2.2.1 d.2.2.2.1))
theorem PX:PW.holds Tryz.prog gl:=
 aH.of tied (H:=⟨[(1,⟨[],[],[⟨[0],[],[(20,31),(21,44),(22,45),(23,46)],[],[]⟩],none,[],[],[]⟩)],[(5,PT)],[],[],[],[(4,⟨0,48,49,[(1,(.slice 40 kc))],[(24,1)],[],[(0,49),(1,24),(2,47),(3,31),(4,44),(5,45),(6,46)],[(70,50)],PU,PV⟩)]⟩) (hold (l:=[AK]) ⟨F8,trivial⟩) (pE (L:=[tI]) ⟨F9,trivial⟩) rfl Tryz.call11 Tryz.func11 rfl rfl rfl rfl (fun _=>by kernel_rfl) (fun _=>by kernel_rfl)
end Go.Proofs.YtadeibjelmcdgaaGreat
