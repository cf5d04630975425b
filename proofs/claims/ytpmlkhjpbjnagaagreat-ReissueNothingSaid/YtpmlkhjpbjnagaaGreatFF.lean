/- part -/
import Derived.Test.YtpmlkhjpbjnagaaGreatUD
noncomputable section
namespace Go.Proofs.YtpmlkhjpbjnagaaGreat
open Go.Ax
def uk:Nat→Int×Int×Zc×Zi×Int×Int×ZM×Int×Int×kS×Rb→Option (cH (Int×Int×Zc×Zi×Int×Int×Rb) (cH Unit Bool)):=aK fun rec11 ⟨e,f,g,h,i,j,c,b,a,d,k⟩=>if(decide (a<b))=true then(if 0≤a then(if a<(c.length:Int) then(if(decide ((imax (nth bQ c a).1 d.2.1)<(qj (nth bQ c a).2.1 d.2.2.1)))=true then(cw (cw (some false))) else(rec11 (e,f,g,h,i,j,c,b,aZ (a+1),d,k))) else none) else none) else(some (.bA (e,f,g,h,i,j,k)))
def Mp:Nat→Int×Int×Zc×Zi×Int×Int×Rb→Zy:=aK fun rec4 ⟨v,w,u,s,r,q,t⟩=>if(decide (q<r))=true then(aH (U:=Int×Int×Zc×Zi×Int×Int×Rb) (if 0≤q then(if q<(s.length:Int) then(aH (U:=Int×Int×Zc×Zi×Int×Int×kS×cF×Rb) (if(!(cC aF (nth aM s q).1 t))=true then(Option.bind (ig (aQ aF (.slice 64 aW) (nth aM s q).1 (bE u)) (nth aM s q).1 v) fun y7=>Option.bind (ig (aQ aF (.slice 64 aW) (nth aM s q).1 (bE u)) (nth aM s q).1 w) fun y8=>Option.bind (lH y7 y8) fun y9=>if t.length+1≤aG then(some (.bA (v,w,u,s,r,q,nth aM s q,(nth aM s q).1,bC aF (nth aM s q).1 y9 t))) else none) else(some (.bA (v,w,u,s,r,q,nth aM s q,(nth aM s q).1,t)))) fun⟨c,d,e,f,g,h,i,a,b⟩=>uk (Int.toNat (List.length (aQ aF (.slice 16 bQ) a b):Int)+1) (c,d,e,f,g,h,aQ aF (.slice 16 bQ) a b,(List.length (aQ aF (.slice 16 bQ) a b):Int),0,i,b)) else none) else none) fun⟨j,k,l,m,n,o,p⟩=>rec4 (j,k,l,m,n,aZ (o+1),p)) else(some (.bA ()))
def Z9(a0:Zn)(a1:Zi)(a2:Int)(a3:Int):Zo:=
 Option.bind (Y1 a0) fun y1=>aH (U:=Unit) (Mp (Int.toNat (a1.length:Int)+1) (a2,a3,y1,a1,(a1.length:Int),0,([]:Rb))) fun _=>some true
def aja:SS:=⟨73,113,[tI 2,tI 3,(9,.val (.map aF (.slice 64 aW))),(10,.mp 36),tP 12 28,tP 13 29,(21,.val (.slice 40 aM)),tI 22,tI 23],[(28,bV aM),(29,bV aF),(36,.map aF (.slice 16 bQ))],[]⟩
def aaa:SS:=⟨73,113,[tI 2,tI 3,(9,.val (.map aF (.slice 64 aW))),(10,.mp 36),(21,.val (.slice 40 aM)),tI 22,tI 23],[(36,.map aF (.slice 16 bQ))],[]⟩
def ajb:SS:=⟨73,113,[],[],[]⟩
def ajc:SS:=⟨73,113,[tI 2,tI 3,(9,.val (.map aF (.slice 64 aW))),(10,.mp 36),tP 12 28,(21,.val (.slice 40 aM)),tI 22,tI 23,(54,.val (.slice 16 bQ)),tI 55,tI 56],[(28,bV aM),(36,.map aF (.slice 16 bQ))],[]⟩
def ajd:SS:=⟨73,113,[(8,vB)],[],[]⟩
def c17:aX:=aE G [.tmp 8] 17 [.val (.slice 64 aW),.val (.slice 40 aM),vI,vI] [] 113 ajd [] (.bH (u4 Z9))
theorem x17:hS c17:=
 cO ⟨[hA 1 0,(9,⟨[],[(14,44,.aS .ptr),(14,50,.aS .ptr)],[⟨[1],[],[(28,60)],[],[]⟩,⟨[1],[],[(28,66)],[],[]⟩,⟨[2],[],[],[],[]⟩],none,[],[],[]⟩)],[(10,aja),(16,aaa),(17,ajb)],[],[(4,⟨aaa,fun u3=>Int.toNat u3.2.2.2.2.1+1⟩),(11,⟨ajc,fun u10=>Int.toNat u10.2.2.2.2.2.2.2.1+1⟩)],[],[]⟩ (hq x46 (hq QN (hq Q9 hz))) aJ Tryz.call17 Tryz.func17
def Mq:Nat→Zg×Int×Int×Int×Zg×Int×Int×bL×Zi→Option (cH (Zg×Int×Int×Int×bL×Zi) Bool):=aK fun rec9 ⟨i,f,g,j,d,c,b,e,h⟩=>if(decide (b<c))=true then(if 0≤b then(if b<(d.length:Int) then(Option.bind (f16 e (nth qr d b) f g) fun⟨_,a⟩=>if(h.length+a.length)*40≤aG then(rec9 (i,f,g,j,d,c,aZ (b+1),e,h++a)) else none) else none) else none) else(some (.bA (i,f,g,j,e,h)))
def f6(a0:bL)(a1:Zg)(a2:Int)(a3:Int)(a4:Int):Zo:=
 Option.bind (f7) fun y1=>if(!y1)=true then(some false) else(Option.bind (G5 a0 a1) fun y2=>if(!y2)=true then(some true) else(aH (U:=Zg×Int×Int×Int×bL) (Option.bind (α:=Bool) (Option.bind (V2 a0 a1 a2 a3 a3) fun y4=>if(!decide ((y4.length:Int)=(0:Int)))=true then(some true) else(Option.bind (f9 a0 a1 a2 a4 a4) fun y5=>some (!decide ((y5.length:Int)=(0:Int))))) fun v6=>if v6=true then(cw (some false)) else(some (.bA (a1,a2,a3,a4,a0)))) fun⟨a,b,c,d,e⟩=>aH (U:=Zg×Int×Int×Int×bL×Zi) (Mq (Int.toNat (a.length:Int)+1) (a,b,c,d,a,(a.length:Int),0,e,([]:Zi))) fun⟨j,k,h,i,f,g⟩=>Option.bind (Z9 f.2.1 g h i) fun y11=>if(!y11)=true then(some true) else(Option.bind (α:=Bool) (Option.bind (V2 f j k h i) fun y12=>if(decide ((y12.length:Int)=(0:Int)))=true then(Option.bind (f9 f j k h i) fun y13=>some (decide ((y13.length:Int)=(0:Int)))) else(some false)) fun v14=>some v14)))
def aje:SS:=⟨83,123,[(1,.val (.slice 8 qr)),tI 2,tI 3,tI 4,tP 5 21],[(21,bV fX)],[]⟩
def ajf:SS:=⟨83,123,[(1,.val (.slice 8 qr)),tI 2,tI 3,tI 4,tP 5 21,(11,.own 100)],[(21,bV fX),(100,.row 110 40 aM)],[]⟩
def ajg:SS:=⟨83,123,[(1,.val (.slice 8 qr)),tI 2,tI 3,tI 4,tP 5 21,(11,.own 99),(40,.val (.slice 8 qr)),tI 41,tI 42],[(21,bV fX),(99,.row 110 40 aM)],[]⟩
def ajh:SS:=⟨83,123,[(10,vB)],[],[]⟩
def c6:aX:=aE G [.tmp 10] 6 [.val fX,.val (.slice 8 qr),vI,vI,vI] [] 123 ajh [] (.bH (u5 f6))
theorem x6:hS c6:=
 cO ⟨[hA 1 0,hA 3 1,hD 5 39 [cA 2,cA 3],hA 11 4,hA 14 5,hD 16 10 [cA 2,cA 3]],[(7,aje),(14,ajf)],[],[(9,⟨ajg,fun u8=>Int.toNat u8.2.2.2.2.2.1+1⟩)],[],[]⟩ (hq x7 (hq Y0 (hq x15 (hq x9 (hq x16 (hq x17 hz)))))) aJ Tryz.call6 Tryz.func6
end Go.Proofs.YtpmlkhjpbjnagaaGreat
