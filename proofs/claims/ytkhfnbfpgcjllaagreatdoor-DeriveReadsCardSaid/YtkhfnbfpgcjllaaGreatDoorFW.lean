/- part -/
import Derived.Test.YtkhfnbfpgcjllaaGreatDoorUo
noncomputable section
namespace Go.Proofs.YtkhfnbfpgcjllaaGreatDoor
open Go.Ax
def nV:ZX:=aL fun apn ⟨e,f,g,h,i,j,c,b,a,d,k⟩=>if(decide (a<b))=true then(if 0≤a then(if a<(List.length c:Int) then(if(decide ((imax (nth fS c a).1 d.2.1)<(rp (nth fS c a).2.1 d.2.2.1)))=true then(cN (cN (some false))) else(apn (e,f,g,h,i,j,c,b,aQ (a+1),d,k))) else none) else none) else(some (.aS (e,f,g,h,i,j,k)))
def we:Nat→ZL→Zu:=aL fun api ⟨v,w,u,s,r,q,t⟩=>if(decide (q<r))=true then(aG (U:=ZL) (if 0≤q then(if q<(List.length s:Int) then(aG (U:=Int×Int×Zc×Zi×Int×Int×oE×hJ×Ny) (if(!(ep aR (nth bN s q).1 t))=true then(Option.bind (fa (aO aR (.slice 64 aN) (nth bN s q).1 (bA u)) (nth bN s q).1 v) fun y7=>Option.bind (fa (aO aR (.slice 64 aN) (nth bN s q).1 (bA u)) (nth bN s q).1 w) fun y8=>Option.bind (ij y7 y8) fun y9=>if List.length t+1≤aF then(some (.aS (v,w,u,s,r,q,nth bN s q,(nth bN s q).1,bK aR (nth bN s q).1 y9 t))) else none) else(some (.aS (v,w,u,s,r,q,nth bN s q,(nth bN s q).1,t)))) fun⟨c,d,e,f,g,h,i,a,b⟩=>nV (Int.toNat (List.length (aO aR (.slice 16 fS) a b):Int)+1) (c,d,e,f,g,h,aO aR (.slice 16 fS) a b,(List.length (aO aR (.slice 16 fS) a b):Int),0,i,b)) else none) else none) fun⟨j,k,l,m,n,o,p⟩=>api (j,k,l,m,n,aQ (o+1),p)) else(some (.aS ()))
def Ln(a0:Zh)(a1:Zi)(a2:Int)(a3:Int):Zm:=
 Option.bind (PJ a0) fun y1=>aG (U:=Unit) (we (Int.toNat (List.length a1:Int)+1) (a2,a3,y1,a1,(List.length a1:Int),0,([]:Ny))) fun _=>some true
def adf:SS:=⟨73,113,[tI 2,tI 3,(9,.val (.map aR (.slice 64 aN))),(10,.mp 36),tP 12 28,tP 13 29,(21,.val (.slice 40 bN)),tI 22,tI 23],[(28,bV bN),(29,bV aR),(36,.map aR (.slice 16 fS))],[]⟩
def X3:SS:=⟨73,113,[tI 2,tI 3,(9,.val (.map aR (.slice 64 aN))),(10,.mp 36),(21,.val (.slice 40 bN)),tI 22,tI 23],[(36,.map aR (.slice 16 fS))],[]⟩
def adg:SS:=⟨73,113,[],[],[]⟩
def adh:SS:=⟨73,113,[tI 2,tI 3,(9,.val (.map aR (.slice 64 aN))),(10,.mp 36),tP 12 28,(21,.val (.slice 40 bN)),tI 22,tI 23,(54,.val (.slice 16 fS)),tI 55,tI 56],[(28,bV bN),(36,.map aR (.slice 16 fS))],[]⟩
def adi:SS:=⟨73,113,[(8,vB)],[],[]⟩
def c23:bH:=aI G [.tmp 8] 23 [.val (.slice 64 aN),.val (.slice 40 bN),vI,vI] [] 113 adi [] (.bZ (u4 Ln))
theorem x23:hS c23:=
 cO ⟨[hA 1 0,(9,⟨[],[(14,44,.aY .ptr),(14,50,.aY .ptr)],[⟨[1],[],[(28,60)],[],[]⟩,⟨[1],[],[(28,66)],[],[]⟩,⟨[2],[],[],[],[]⟩],none,[],[],[]⟩)],[(10,adf),(16,X3),(17,adg)],[],[(4,⟨X3,fun u3=>Int.toNat u3.2.2.2.2.1+1⟩),(11,⟨adh,fun u10=>Int.toNat u10.2.2.2.2.2.2.2.1+1⟩)],[],[]⟩ (hq x44 (hq yo (hq yg hz))) aJ Tryz.call23 Tryz.func23
def f6(a0:aV)(a1:Int)(a2:Int)(a3:Int)(a4:Int)(a5:Int):Zm:=
 Option.bind (f7) fun y1=>if(!y1)=true then(some false) else(Option.bind (f8 a0) fun y2=>if(!y2)=true then(some true) else(Option.bind (f9 a0 a1 a2 a3 a4) fun⟨a,c,b⟩=>aG (U:=Int×Int×Int×Int×aV) (Option.bind (Ln a0.2.1 a a4 a5) fun y5=>if y5=true then(Option.bind (f9 a0 a1 a2 a3 a5) fun⟨e,f,d⟩=>Option.bind (xL a0 a1 a2 a3 a4) fun⟨g,h,i⟩=>Option.bind (xL a0 a1 a2 a3 a5) fun⟨j,k,l⟩=>Option.bind (α:=Bool) (Option.bind (oI b d) fun y9=>if(!y9)=true then(some true) else(Option.bind (A4 a e) fun y10=>if(!y10)=true then(some true) else(if(!(c==f))=true then(some true) else(if(!decide (g=j))=true then(some true) else(Option.bind (A3 h k) fun y11=>if(!y11)=true then(some true) else(if(!(i==l))=true then(some true) else(some (!(i==c))))))))) fun v12=>if v12=true then(cN (some false)) else(some (.aS (a2,a3,a4,a5,a0)))) else(some (.aS (a2,a3,a4,a5,a0)))) fun⟨n,o,p,q,m⟩=>Option.bind (tn m n o p) fun⟨s,r⟩=>Option.bind (Ln m.2.1 r p q) fun y14=>if(!y14)=true then(some true) else(Option.bind (tn m n o q) fun⟨t,u⟩=>Option.bind (α:=Bool) (Option.bind (A3 s t) fun y16=>if y16=true then(Option.bind (A4 r u) fun y17=>some y17) else(some false)) fun v18=>some v18)))
def adj:SS:=⟨147,187,[tI 2,tI 3,tI 4,tI 5,tP 6 22],[(22,bV gH)],[]⟩
def adk:SS:=⟨147,187,[(12,vB)],[],[]⟩
def c6:bH:=aI G [.tmp 12] 6 [.val gH,vI,vI,vI,vI,vI] [] 187 adk [] (.bZ (u6 f6))
theorem x6:hS c6:=
 cO ⟨[hA 1 0,hA 3 1,hA 5 2,hA 6 3,hA 7 2,hA 8 4,hA 9 4,hD 10 115 [cA 5,cA 6,cA 7],hA 12 8,hA 13 3,hA 15 8,hD 16 12 [cA 7,cA 6]],[(12,adj)],[],[],[],[]⟩ (hq x7 (hq x8 (hq x9 (hq x23 (hq Pz (hq Mw (hq x22 (hq x21 (hq PI hz))))))))) aJ Tryz.call6 Tryz.func6
end Go.Proofs.YtkhfnbfpgcjllaaGreatDoor
