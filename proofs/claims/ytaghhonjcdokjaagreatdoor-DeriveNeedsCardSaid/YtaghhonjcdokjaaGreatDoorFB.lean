/- part -/
import Derived.Test.YtaghhonjcdokjaaGreatDoorUK
noncomputable section
namespace Go.Proofs.YtaghhonjcdokjaaGreatDoor
open Go.Ax
def f7(a0:cH)(a1:Int):Option (Zf×Int):=
 Option.bind (f17 a0) fun⟨a,b⟩=>if(!decide (a=(0:Int)))=true then(some (([]:Zf),a)) else(Option.bind (f18 b a1) fun y2=>if(!y2)=true then(some (([]:Zf),1)) else(Option.bind (f22 b) fun y3=>Option.bind (uJ b y3 a1) fun y4=>Option.bind (CB y4) fun y5=>Option.bind (nv y5) fun⟨_,c⟩=>some (c,0)))
def adB:SS:=⟨26,66,[(4,.val (.slice 8 (.int .i64))),tI 5],[],[]⟩
def c7:aX:=aE G [.tmp 4,.tmp 5] 7 [.val fW,vI] [] 66 adB [] (.bC (u2 f7))
theorem x7:hS c7:=
 cO (hR [hA 1 0,hA 4 1,hE 6 [cA 2,cB 3 [] [(33,39)],cB 4 [(0,39)] [(17,40)],cB 5 [(0,40),(1,39)] [(23,41)]]]) (hq x17 (hq x18 (hq x22 (hq Qm (hq Qo (hq K1 hz)))))) aH Tryz.call7 Tryz.func7
def JX:Nat→Zl×Zl×Int→Zx:=aM fun ahA ⟨b,c,a⟩=>if(decide (a<(List.length b:Int)))=true then(if 0≤a then(if a<(List.length b:Int) then(if 0≤a then(if a<(List.length c:Int) then(if(!aY bJ (nth bJ b a) (nth bJ c a))=true then(cw (some false)) else(ahA (b,c,bB (a+1)))) else none) else none) else none) else none) else(some (.brk ()))
def f10(a0:Zl)(a1:Zl):Zo:=
 if(!decide ((List.length a0:Int)=(List.length a1:Int)))=true then(some false) else(aI (U:=Unit) (JX gn (a0,a1,0)) fun _=>some true)
def adC:SS:=⟨26,66,[],[],[]⟩
def adD:SS:=⟨26,66,[(0,.val (.slice 40 bJ)),(1,.val (.slice 40 bJ)),tI 5],[],[]⟩
def adE:SS:=⟨26,66,[(4,vB)],[],[]⟩
def c10:aX:=aE G [.tmp 4] 10 [.val (.slice 40 bJ),.val (.slice 40 bJ)] [] 66 adE [] (.bC (u2 f10))
theorem x10:hS c10:=
 cO ⟨[],[(8,adC)],[],[(4,⟨adD,fun _=>gn⟩)],[],[]⟩ hz aH Tryz.call10 Tryz.func10
def DP:Nat→Int×Int×Int×Int×Zy×Int×Int×Zf×Int×Int×cD×B3×Unit×nV×Zy→Option (cV (Int×Int×Int×Int×Zy×SQ) (cV (Int×Int×SQ) Bool)):=aM fun rec12 ⟨d,g,h,i,j,k,l,c,b,a,m,n,o,f,e⟩=>if(decide (a<b))=true then(if 0≤a then(if a<(List.length c:Int) then(if(decide ((nth (.int .i64) c a)=d))=true then(if(List.length e+List.length [f])*64≤aG then(some (.brk (d,g,h,i,j,k,l,m,n,o,e++[f]))) else none) else(rec12 (d,g,h,i,j,k,l,c,b,bB (a+1),m,n,o,f,e))) else none) else none) else(some (.brk (d,g,h,i,j,k,l,m,n,o,e)))
def JY:Nat→Int×Int×Int×Int×Zy×SQ→Option (cV (Int×Int×SQ) Bool):=aM fun rec8 ⟨r,s,t,u,p,o,n,q,v,w,x⟩=>if(decide (n<o))=true then(aI (U:=Int×Int×Int×Int×Zy×SQ) (if 0≤n then(if n<(List.length p:Int) then(Option.bind (f7 q.1.1 (nth dq p n).1.1) fun⟨b,a⟩=>if(!decide (a=(0:Int)))=true then(some (.brk (r,s,t,u,p,o,n,q,v,w,x))) else(DP (Int.toNat (List.length b:Int)+1) (r,s,t,u,p,o,n,b,(List.length b:Int),0,q,v,w,nth dq p n,x))) else none) else none) fun⟨c,d,e,f,g,h,i,j,k,l,m⟩=>rec8 (c,d,e,f,g,h,bB (i+1),j,k,l,m)) else(some (.brk (r,s,t,u,q,v,w,x)))
def f3(a0:cD)(a1:Int)(a2:Int)(a3:Int)(a4:Int):Zo:=
 Option.bind (f4) fun y1=>if(!y1)=true then(some false) else(aI (U:=Int×Int×Int×Int×cD) (Option.bind (α:=Bool) (Option.bind (f5 a0) fun y3=>if(!y3)=true then(some true) else(Option.bind (f6 a0.1) fun y4=>some (!decide (y4=(0:Int))))) fun v5=>if v5=true then(cw (some true)) else(some (.brk (a1,a2,a3,a4,a0)))) fun⟨b,c,d,e,a⟩=>aI (U:=Int×Int×SQ) (JY (Int.toNat (List.length a.2.1:Int)+1) (b,c,d,e,a.2.1,(List.length a.2.1:Int),0,a,a.1,a.2.2,([]:Zy))) fun⟨g,h,i,j,f,k,m,l⟩=>Option.bind (f8 f g h i j) fun⟨o,p,n⟩=>Option.bind (f8 (k,l,m) g h i j) fun⟨r,s,q⟩=>Option.bind (α:=Bool) (Option.bind (f9 n q) fun y15=>if y15=true then(Option.bind (f10 o r) fun y16=>if y16=true then(some (p==s)) else(some false)) else(some false)) fun v17=>some v17)
def adG:SS:=⟨106,146,[tI 1,tI 2,tI 3,tI 4,tP 5 21],[(21,bV iY)],[]⟩
def adH:SS:=⟨106,146,[tI 1,tI 2,tI 3,tI 4,tP 5 21,tP 11 27,(38,.val (.slice 64 dq)),tI 39,tI 40],[(21,bV iY),(27,.var iY (.cons (.val B2) (.cons (.own 122) (.val .unit)))),(122,.row 45 64 dq)],[]⟩
def adI:SS:=⟨106,146,[tI 1,tI 2,tI 3,tI 4,tP 5 21,tP 11 27],[(21,bV iY),(27,.var iY (.cons (.val B2) (.cons (.own 124) (.val .unit)))),(124,.row 45 64 dq)],[]⟩
def adJ:SS:=⟨106,146,[tI 1,tI 2,tI 3,tI 4,tP 5 21,tP 11 27,(38,.val (.slice 64 dq)),tI 39,tI 40],[(21,bV iY),(27,.var iY (.cons (.val B2) (.cons (.own 123) (.val .unit)))),(123,.row 45 64 dq)],[]⟩
def adK:SS:=⟨106,146,[tI 1,tI 2,tI 3,tI 4,tP 5 21,tP 11 27,tP 13 29,(38,.val (.slice 64 dq)),tI 39,tI 40,(56,.val (.slice 8 (.int .i64))),tI 57,tI 58],[(21,bV iY),(27,.var iY (.cons (.val B2) (.cons (.own 123) (.val .unit)))),(29,bV dq),(123,.row 45 64 dq)],[]⟩
def adL:SS:=⟨106,146,[(10,vB)],[],[]⟩
def c3:aX:=aE G [.tmp 10] 3 [.val iY,vI,vI,vI,vI] [] 146 adL [] (.bC (fun d=>f3 d.1 d.2.1 d.2.2.1 d.2.2.2.1 d.2.2.2.2.1))
theorem x3:hS c3:=
 cO ⟨[hA 1 0,hD 3 34 [cA 1,cA 2],hA 10 3,hA 19 4,(20,⟨[.freeze 124 (.slice 64 dq)],[],[⟨[4],[],[],[],[]⟩],none,[],[],[]⟩),hD 21 10 [cA 5,cA 6]],[(5,adG),(18,adH),(19,adI)],[],[(8,⟨adJ,fun u7=>Int.toNat u7.2.2.2.2.2.1+1⟩),(13,⟨adK,fun ET=>Int.toNat ET.2.2.2.2.2.2.2.2.1+1⟩)],[],[]⟩ (hq x4 (hq x5 (hq x6 (hq x7 (hq x8 (hq x9 (hq x10 hz))))))) aH Tryz.call3 Tryz.func3
end Go.Proofs.YtaghhonjcdokjaaGreatDoor
