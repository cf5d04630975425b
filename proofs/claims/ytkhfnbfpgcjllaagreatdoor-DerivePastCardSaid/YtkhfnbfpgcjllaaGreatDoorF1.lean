/- part -/
import Derived.Test.YtkhfnbfpgcjllaaGreatDoorBase
noncomputable section
namespace Go.Proofs.YtkhfnbfpgcjllaaGreatDoor
open Go.Ax
def Tz:Nat→Int×k8→Option (dR k8 k8):=aL fun aoK ⟨a,b⟩=>if(decide (a<(26:Int)))=true then(if 0≤(aV ((65:Int)+a)) then(if(aV ((65:Int)+a))<(256:Int) then(if 0≤(aV ((97:Int)+a)) then(if(aV ((97:Int)+a))<(256:Int) then(aoK (aV (a+1),List.set (List.set b (Int.toNat (aV ((65:Int)+a))) (2:Int)) (Int.toNat (aV ((97:Int)+a))) (2:Int))) else none) else none) else none) else none) else(some (.aX b))
def TA:Nat→Int×k8→Option (dR k8 k8):=aL fun rec6 ⟨a,b⟩=>if(decide (a<(10:Int)))=true then(if 0≤(aV ((48:Int)+a)) then(if(aV ((48:Int)+a))<(256:Int) then(rec6 (aV (a+1),List.set b (Int.toNat (aV ((48:Int)+a))) (3:Int))) else none) else none) else(some (.aX b))
def Pb:Nat→Zd×Int×Int×k8→Option (dR k8 k8):=aL fun rec9 ⟨c,b,a,d⟩=>if(decide (a<b))=true then(if 0≤a then(if a<(List.length c:Int) then(if 0≤(nth (.int .u8) c a) then(if(nth (.int .u8) c a)<(256:Int) then(rec9 (c,b,aV (a+1),List.set d (Int.toNat (nth (.int .u8) c a)) (1:Int))) else none) else none) else none) else none) else(some (.aX d))
def Pc:Nat→Zd×Int×Int×k8→Option (dR k8 k8):=aL fun rec12 ⟨c,b,a,d⟩=>if(decide (a<b))=true then(if 0≤a then(if a<(List.length c:Int) then(if 0≤(nth (.int .u8) c a) then(if(nth (.int .u8) c a)<(256:Int) then(rec12 (c,b,aV (a+1),List.set d (Int.toNat (nth (.int .u8) c a)) (4:Int))) else none) else none) else none) else none) else(some (.aX d))
def aa9:Option k8:=
 aI (U:=k8) (Tz (Int.toNat (26:Int)+1) (0,Ty.aH jo)) fun v1=>aI (U:=k8) (TA (Int.toNat (10:Int)+1) (0,v1)) fun v4=>aI (U:=k8) (if 0<List.length [(32:Int),9,10,(13:Int)] then(Pb (Int.toNat (List.length [(32:Int),9,10,(13:Int)]:Int)+1) ([(32:Int),9,10,(13:Int)],(List.length [(32:Int),9,10,(13:Int)]:Int),0,v4)) else none) fun v7=>aI (U:=k8) (if 0<List.length [(123:Int),125,40,41,59,44,61,35,47,60,33,45,46,58,(43:Int)] then(Pc (Int.toNat (List.length [(123:Int),125,40,41,59,44,61,35,47,60,33,45,46,58,(43:Int)]:Int)+1) ([(123:Int),125,40,41,59,44,61,35,47,60,33,45,46,58,(43:Int)],(List.length [(123:Int),125,40,41,59,44,61,35,47,60,33,45,46,58,(43:Int)]:Int),0,v7)) else none) fun v10=>some v10
def s1:SS:=⟨45,85,[tP 0 16],[(16,bV jo)],[]⟩
def s2:SS:=⟨45,85,[tP 0 16,tI 7],[(16,bV jo)],[]⟩
def s3:SS:=⟨45,85,[tP 0 16,tI 17],[(16,bV jo)],[]⟩
def s4:SS:=⟨45,85,[tP 0 16,(25,.val (.slice 1 (.int .u8))),tI 26,tI 27],[(16,bV jo)],[]⟩
def s5:SS:=⟨45,85,[tP 0 16,(35,.val (.slice 1 (.int .u8))),tI 36,tI 37],[(16,bV jo)],[]⟩
def aba:bG:=aG G [.cell 0 300] 170 [] [] 85 s1 [] (.bY (fun _=>aa9))
theorem akd:hS aba:=
 cO ⟨[],[(6,s1),(11,s1),(16,s1),(21,s1)],[],[(2,⟨s2,fun _=>Int.toNat (26:Int)+1⟩),(7,⟨s3,fun _=>Int.toNat (10:Int)+1⟩),(12,⟨s4,fun u8=>Int.toNat u8.2.1+1⟩),(17,⟨s5,fun Ib=>Int.toNat Ib.2.1+1⟩)],[],[]⟩ hz aJ Tryz.call170 Tryz.func170
def abb(a0:Zf)(a1:Zf):Zm:=
 Option.bind (α:=Bool) (if(decide ((List.length a1:Int)≤(List.length a0:Int)))=true then(if 0≤(List.length a1:Int) then(if(List.length a1:Int)≤(List.length a0:Int) then(some (decide ((fp a0 0 (Int.toNat (List.length a1:Int)))=a1))) else none) else none) else(some false)) fun v1=>some v1
def s6:SS:=⟨18,58,[(4,vB)],[],[]⟩
def ake:bG:=aG G [.tmp 4] 245 [.val .str,.val .str] [] 58 s6 [] (.bY (u2 abb))
theorem akf:hS ake:=
 cO (hR [hD 1 4 []]) hz aJ Tryz.call245 Tryz.func245
def Xj(a0:Zf)(a1:Zf):Zm:=
 Option.bind (abb a0 a1) fun y1=>some y1
def s7:SS:=⟨8,48,[(4,vB)],[],[]⟩
def akg:bG:=aG G [.tmp 4] 235 [.val .str,.val .str] [] 48 s7 [] (.bY (u2 Xj))
theorem akh:hS akg:=
 cO (hR [hA 1 0]) (hq akf hz) aJ Tryz.call235 Tryz.func235
def acN(a0:Zf)(a1:Int)(a2:k8):Option ZF:=
 if 0≤a1 then(if a1≤(List.length a0:Int) then(Option.bind (Xj (fp a0 (Int.toNat a1) (List.length a0)) [47,47]) fun y1=>if y1=true then none else(if 0≤a1 then(if a1≤(aV (a1+1)) then(if(aV (a1+1))≤(List.length a0:Int) then(Option.bind (f233_s1 (3,fp a0 (Int.toNat a1) (Int.toNat (aV (a1+1))),0,0,()) (1:Int) a0 a1 a2) fun⟨a,b,c,d⟩=>some (a,b,c,d)) else none) else none) else none)) else none) else none
def yy(a0:Wq)(a1:Int)(a2:Zf)(a3:Int)(a4:k8)(a5:Zq):Option ZF:=
 if(List.length a5+List.length [(a0.1,a0.2.1,a0.2.2.1,a3,a0.2.2.2.2)])*40≤aF then(some (a2,aV (a3+a1),a4,a5++[(a0.1,a0.2.1,a0.2.2.1,a3,a0.2.2.2.2)])) else none
def s24:SS:=⟨29,69,[],[(0,.var kM (.cons (.val .str) (.cons vI (.cons (.val jo) (.cons (.own 34) .nil))))),(34,.row 235 40 cC)],[]⟩
def TB:bG:=aG G [] 233 [pP 0,.val cC,vI] [(0,.var kM (.cons (.val .str) (.cons vI (.cons (.val jo) (.cons (.own 1) .nil))))),(1,.row 235 40 cC)] 69 s24 [0,34] (.bY (u6 yy))
theorem Ei:hS TB:=
 cO (hR []) hz aJ Tryz.call233 Tryz.func233
def KM(a0:Zf)(a1:Int)(a2:k8)(a3:Zq):Option ZF:=
 if 0≤a1 then(if a1≤(List.length a0:Int) then(Option.bind (Xj (fp a0 (Int.toNat a1) (List.length a0)) [47,47]) fun y1=>if y1=true then none else(if 0≤a1 then(if a1≤(aV (a1+1)) then(if(aV (a1+1))≤(List.length a0:Int) then(Option.bind (yy (3,fp a0 (Int.toNat a1) (Int.toNat (aV (a1+1))),0,0,()) (1:Int) a0 a1 a2 a3) fun⟨a,b,c,d⟩=>some (a,b,c,d)) else none) else none) else none)) else none) else none
def s25:SS:=⟨39,79,[],[(0,.var kM (.cons (.val .str) (.cons vI (.cons (.val jo) (.cons (.own 54) .nil))))),(54,.row 235 40 cC)],[]⟩
def KN:bG:=aG G [] 175 [pP 0] [(0,.var kM (.cons (.val .str) (.cons vI (.cons (.val jo) (.cons (.own 1) .nil))))),(1,.row 235 40 cC)] 79 s25 [0,54] (.bY (u4 KM))
theorem TC:hS KN:=
 cO (hR [hA 0 0,(1,⟨[],[],[],none,[(0,9999)],[],[]⟩),hE 2 [cB 1 [(0,0),(1,1)] [(34,54)]]]) (hq akh (hq Ei hz)) aJ Tryz.call175 Tryz.func175
def KQ(a0:Int)(a1:Zf)(a2:Int)(a3:k8)(a4:Zq):Option (Bool×ZF):=
 if 0≤a0 then(if a0<(256:Int) then(some (decide ((nth (.int .i64) a3 a0)=(3:Int)),a1,a2,a3,a4)) else none) else none
def s26:SS:=⟨11,51,[(3,vB)],[(0,.var (.aW .ptr) (pP 1)),(1,.var kM (.cons (.val .str) (.cons vI (.cons (.val jo) (.cons (.own 2) .nil))))),(2,.row 235 40 cC)],[]⟩
def TE:bG:=aG G [.tmp 3] 234 [.val (.int .u8),pP 0] [(0,.var (.aW .ptr) (pP 1)),(1,.var kM (.cons (.val .str) (.cons vI (.cons (.val jo) (.cons (.own 2) .nil))))),(2,.row 235 40 cC)] 51 s26 [0,1,2] (.bY (u5 KQ))
theorem TF:hS TE:=
 cO (hR []) hz aJ Tryz.call234 Tryz.func234
def Jj:Nat→Int×ZF→Option (dR (Int×ZF) (Zf×ZF)):=aL fun aoK ⟨f,g,h,i,j⟩=>if(decide (f<(List.length g:Int)))=true then(if 0≤f then(if f<(List.length g:Int) then(Option.bind (KQ (rV g f) g h i j) fun⟨a,b,c,d,e⟩=>if a=true then(aoK (aV (f+1),b,c,d,e)) else(some (.aX (f,b,c,d,e)))) else none) else none) else(some (.aX (f,g,h,i,j)))
def KR(a0:Zf)(a1:Int)(a2:k8)(a3:Zq):Option (Zf×ZF):=
 aI (U:=Int×ZF) (Jj dG (a1,a0,a1,a2,a3)) fun⟨b,c,a,d,e⟩=>if 0≤a then(if a≤b then(if b≤(List.length c:Int) then(some (fp c (Int.toNat a) (Int.toNat b),c,a,d,e)) else none) else none) else none
def s27:SS:=⟨39,79,[tP 0 0,tI 5],[(0,.var kM (.cons (.val .str) (.cons vI (.cons (.val jo) (.cons (.own 2) .nil))))),(1,.var (.aW .ptr) (pP 0)),(2,.row 235 40 cC)],[]⟩
def s28:SS:=⟨39,79,[tP 0 0,(1,.func 234 .nil (.cons (pP 1) .nil)),tI 5],[(0,.var kM (.cons (.val .str) (.cons vI (.cons (.val jo) (.cons (.own 2) .nil))))),(1,.var (.aW .ptr) (pP 0)),(2,.row 235 40 cC)],[]⟩
def s29:SS:=⟨39,79,[(4,.val .str)],[(0,.var kM (.cons (.val .str) (.cons vI (.cons (.val jo) (.cons (.own 2) .nil))))),(1,.var (.aW .ptr) (pP 0)),(2,.row 235 40 cC)],[]⟩
def TH:bG:=aG G [.tmp 4] 231 [pP 0,.func 234 .nil (.cons (pP 1) .nil)] [(0,.var kM (.cons (.val .str) (.cons vI (.cons (.val jo) (.cons (.own 2) .nil))))),(1,.var (.aW .ptr) (pP 0)),(2,.row 235 40 cC)] 79 s29 [0,1,2] (.bY (u4 KR))
theorem TI:hS TH:=
 cO ⟨[hE 2 [cB 0 [(0,1),(1,0),(2,2)] []]],[(4,s27)],[],[(2,⟨s28,fun _=>dG⟩)],[],[]⟩ (hq TF hz) aJ Tryz.call231 Tryz.func231
def Jk:Nat→Zf×Int×Int×Int×ZF→Option (dR (Zf×Int×ZF) ZF):=aL fun apg ⟨c,d,b,a,e,f,g,h⟩=>if(decide (a<b))=true then(if 0≤a then(if a<(List.length c:Int) then(Option.bind (α:=Bool) (if(gtI (1099511627776:Int) (aV ((aV ((10:Int)*d))+(aV (IntKind.u8.wrap ((rV c a) -(48:Int)))))))=true then(some true) else(if(decide ((0:Int)<a))=true then(if(0:Int)<(List.length c:Int) then(some (decide ((rV c (0:Int))=(48:Int)))) else none) else(some false))) fun v5=>if v5=true then none else(apg (c,aV ((aV ((10:Int)*d))+(aV (IntKind.u8.wrap ((rV c a) -(48:Int))))),b,aV (a+1),e,f,g,h))) else none) else none) else(some (.aX (c,d,e,f,g,h)))
def KT(a0:Zf)(a1:Int)(a2:k8)(a3:Zq):Option ZF:=
 Option.bind (KR a0 a1 a2 a3) fun⟨a,b,c,d,e⟩=>aI (U:=Zf×Int×ZF) (Jk (Int.toNat (List.length a:Int)+1) (a,0,(List.length a:Int),0,b,c,d,e)) fun⟨g,f,h,i,j,k⟩=>Option.bind (yy (2,[],f,0,()) (List.length g:Int) h i j k) fun⟨l,m,n,o⟩=>some (l,m,n,o)
def s30:SS:=⟨44,84,[tP 1 17,(2,.val .str),tI 3],[(0,.var kM (.cons (.val .str) (.cons vI (.cons (.val jo) (.cons (.own 1) .nil))))),(1,.row 235 40 cC),(17,.var (.aW .ptr) (pP 0))],[]⟩
def s31:SS:=⟨44,84,[tP 1 17,(2,.val .str),tI 3,tI 9,tI 10],[(0,.var kM (.cons (.val .str) (.cons vI (.cons (.val jo) (.cons (.own 1) .nil))))),(1,.row 235 40 cC),(17,.var (.aW .ptr) (pP 0))],[]⟩
def s32:SS:=⟨44,84,[],[(0,.var kM (.cons (.val .str) (.cons vI (.cons (.val jo) (.cons (.own 59) .nil))))),(59,.row 235 40 cC)],[]⟩
def KU:bG:=aG G [] 174 [pP 0] [(0,.var kM (.cons (.val .str) (.cons vI (.cons (.val jo) (.cons (.own 1) .nil))))),(1,.row 235 40 cC)] 84 s32 [0,59] (.bY (u4 KT))
theorem TJ:hS KU:=
 cO ⟨[hE 1 [cB 0 [(0,0),(1,17),(2,1)] []],hD 7 31 [],(8,⟨[],[],[],none,[(0,9999)],[],[]⟩),hE 10 [cB 1 [(0,0),(1,1)] [(34,59)]]],[(10,s30)],[],[(4,⟨s31,fun u3=>Int.toNat u3.2.2.1+1⟩)],[],[]⟩ (hq TI (hq Ei hz)) aJ Tryz.call174 Tryz.func174
def KV(a0:Int)(a1:Zf)(a2:Int)(a3:k8)(a4:Zq):Option (Bool×ZF):=
 Option.bind (α:=Bool) (if 0≤a0 then(if a0<(256:Int) then(if(decide ((nth (.int .i64) a3 a0)=(2:Int)))=true then(some true) else(if 0≤a0 then(if a0<(256:Int) then(if(decide ((nth (.int .i64) a3 a0)=(3:Int)))=true then(some true) else(some (decide (a0=(95:Int))))) else none) else none)) else none) else none) fun v1=>some (v1,a1,a2,a3,a4)
def s33:SS:=⟨24,64,[(3,vB)],[(0,.var (.aW .ptr) (pP 1)),(1,.var kM (.cons (.val .str) (.cons vI (.cons (.val jo) (.cons (.own 2) .nil))))),(2,.row 235 40 cC)],[]⟩
def TK:bG:=aG G [.tmp 3] 232 [.val (.int .u8),pP 0] [(0,.var (.aW .ptr) (pP 1)),(1,.var kM (.cons (.val .str) (.cons vI (.cons (.val jo) (.cons (.own 2) .nil))))),(2,.row 235 40 cC)] 64 s33 [0,1,2] (.bY (u5 KV))
theorem TL:hS TK:=
 cO (hR [hD 1 3 []]) hz aJ Tryz.call232 Tryz.func232
def Jl:Nat→Int×ZF→Option (dR (Int×ZF) (Zf×ZF)):=aL fun aoK ⟨f,g,h,i,j⟩=>if(decide (f<(List.length g:Int)))=true then(if 0≤f then(if f<(List.length g:Int) then(Option.bind (KV (rV g f) g h i j) fun⟨a,b,c,d,e⟩=>if a=true then(aoK (aV (f+1),b,c,d,e)) else(some (.aX (f,b,c,d,e)))) else none) else none) else(some (.aX (f,g,h,i,j)))
def KW(a0:Zf)(a1:Int)(a2:k8)(a3:Zq):Option (Zf×ZF):=
 aI (U:=Int×ZF) (Jl dG (a1,a0,a1,a2,a3)) fun⟨b,c,a,d,e⟩=>if 0≤a then(if a≤b then(if b≤(List.length c:Int) then(some (fp c (Int.toNat a) (Int.toNat b),c,a,d,e)) else none) else none) else none
def s34:SS:=⟨39,79,[tP 0 0,tI 5],[(0,.var kM (.cons (.val .str) (.cons vI (.cons (.val jo) (.cons (.own 2) .nil))))),(1,.var (.aW .ptr) (pP 0)),(2,.row 235 40 cC)],[]⟩
def s35:SS:=⟨39,79,[tP 0 0,(1,.func 232 .nil (.cons (pP 1) .nil)),tI 5],[(0,.var kM (.cons (.val .str) (.cons vI (.cons (.val jo) (.cons (.own 2) .nil))))),(1,.var (.aW .ptr) (pP 0)),(2,.row 235 40 cC)],[]⟩
def s36:SS:=⟨39,79,[(4,.val .str)],[(0,.var kM (.cons (.val .str) (.cons vI (.cons (.val jo) (.cons (.own 2) .nil))))),(1,.var (.aW .ptr) (pP 0)),(2,.row 235 40 cC)],[]⟩
def TM:bG:=aG G [.tmp 4] 231 [pP 0,.func 232 .nil (.cons (pP 1) .nil)] [(0,.var kM (.cons (.val .str) (.cons vI (.cons (.val jo) (.cons (.own 2) .nil))))),(1,.var (.aW .ptr) (pP 0)),(2,.row 235 40 cC)] 79 s36 [0,1,2] (.bY (u4 KW))
theorem TN:hS TM:=
 cO ⟨[hE 2 [cB 0 [(0,1),(1,0),(2,2)] []]],[(4,s34)],[],[(2,⟨s35,fun _=>dG⟩)],[],[]⟩ (hq TL hz) aJ Tryz.call231 Tryz.func231
def KX(a0:Zf)(a1:Int)(a2:k8)(a3:Zq):Option ZF:=
 Option.bind (KW a0 a1 a2 a3) fun⟨a,b,c,d,e⟩=>if(decide ((32:Int)<(List.length a:Int)))=true then none else(Option.bind (yy (1,a,0,0,()) (List.length a:Int) b c d e) fun⟨f,g,h,i⟩=>some (f,g,h,i))
def s37:SS:=⟨20,60,[],[(0,.var kM (.cons (.val .str) (.cons vI (.cons (.val jo) (.cons (.own 35) .nil))))),(35,.row 235 40 cC)],[]⟩
def KY:bG:=aG G [] 173 [pP 0] [(0,.var kM (.cons (.val .str) (.cons vI (.cons (.val jo) (.cons (.own 1) .nil))))),(1,.row 235 40 cC)] 60 s37 [0,35] (.bY (u4 KX))
theorem TO:hS KY:=
 cO (hR [hE 1 [cB 0 [(0,0),(1,17),(2,1)] []],(3,⟨[],[],[],none,[(0,9999)],[],[]⟩),hE 4 [cB 1 [(0,0),(1,1)] [(34,35)]]]) (hq TN (hq Ei hz)) aJ Tryz.call173 Tryz.func173
def KZ(a0:Zf)(a1:Int)(a2:k8)(a3:Zq):Option ZF:=
 some (a0,aV (a1+1),a2,a3)
def s38:SS:=⟨9,49,[],[(0,.var kM (.cons (.val .str) (.cons vI (.cons (.val jo) (.cons (.own 1) .nil))))),(1,.row 235 40 cC)],[]⟩
def K0:bG:=aG G [] 172 [pP 0] [(0,.var kM (.cons (.val .str) (.cons vI (.cons (.val jo) (.cons (.own 1) .nil))))),(1,.row 235 40 cC)] 49 s38 [0,1] (.bY (u4 KZ))
theorem TP:hS K0:=
 cO (hR []) hz aJ Tryz.call172 Tryz.func172
def K1(_a0:Zf)(a1:Int)(_a2:k8)(_a3:Zq):Option (Sum (Int×Unit) ZF):=
 some (.inl (a1,()))
def s39:SS:=⟨7,47,[],[(0,.var kM (.cons (.val .str) (.cons vI (.cons (.val jo) (.cons (.own 1) .nil))))),(1,.row 235 40 cC)],[]⟩
def K2:bG:=aG G [] 171 [pP 0] [(0,.var kM (.cons (.val .str) (.cons vI (.cons (.val jo) (.cons (.own 1) .nil))))),(1,.row 235 40 cC)] 47 s39 [0,1] (.nZ (.iface 297 vI) (fun d=>K1 d.1 d.2.1 d.2.2.1 d.2.2.2.1))
theorem TQ:hS K2:=
 bG.GD tied (H:=⟨[],[],[],[],[],[]⟩) (hold (l:=[]) trivial) aJ rfl Tryz.call171 Tryz.func171 rfl rfl rfl rfl (fun _=>by kernel_rfl) (fun _=>by kernel_rfl)
def Gk(q0:Int):Option ZP:=
 some (q0,90)
def s40:SS:=⟨18,58,[],[(0,.var (.slice 40 cC) .aM),(1,bI),(2,bI)],[]⟩
def Gl:iP:=⟨169,[.ptr 0 [],.ptr 1 [],.ptr 2 []],[(0,.var (.slice 40 cC) (.gM (.slice 40 cC))),(1,.var (.int .i64) (.gM (.int .i64))),(2,.var (.int .i64) (.gM (.int .i64)))],58,.iface 297 (.val (.int .i64)),s40,fun r=>pick [0,1,2] (SS.st s40 y0 r).hp,fun _=>none,fun _ q=>Gk q.1⟩
theorem Pd:Gl.holds Tryz.prog gl:=
 iP.GD tied (H:=⟨[],[],[],[],[],[]⟩) (hold (l:=[]) trivial) rfl Tryz.call169 Tryz.func169 rfl rfl rfl rfl rfl rfl rfl rfl rfl rfl rfl rfl (fun _=>by kernel_rfl) (fun _ _=>by kernel_rfl)
def Gm(a0:Int)(a1:Int)(a2:Zq):Option (Int×Int×Zq):=
 some (a0,a1,a2)
def s41:SS:=⟨18,58,[],[(0,.var (.slice 40 cC) (.own 3)),(1,bI),(2,bI),(3,.row 235 40 cC)],[]⟩
def Gn:iP:=⟨169,[.ptr 0 [],.ptr 1 [],.ptr 2 []],[(0,.var (.slice 40 cC) (.own 3)),(1,.var (.int .i64) (.val (.int .i64))),(2,.var (.int .i64) (.val (.int .i64))),(3,.row 235 40 cC)],58,.kS,s41,fun r=>pick [0,1,2,3] (SS.st s41 y0 r).hp,fun d=>Gm d.1 d.2.1 d.2.2.1,fun _ _=>none⟩
theorem Pe:Gn.holds Tryz.prog gl:=
 iP.ofN tied (H:=⟨[],[],[],[],[],[]⟩) (hold (l:=[]) trivial) rfl Tryz.call169 Tryz.func169 rfl rfl rfl rfl rfl rfl rfl rfl rfl rfl rfl rfl (fun _=>by kernel_rfl) (fun _=>by kernel_rfl)
def TR:Nat→Zf×Int×Int×ZF→Option (dR (Int×Int×ZF) (Zq×ZP)):=aL fun apg ⟨x,ab,ac,z,w,y,aa⟩=>if(decide (w<(List.length x:Int)))=true then(if 0≤w then(if w<(List.length x:Int) then(if 0≤(rV x w) then(if(rV x w)<(256:Int) then(if 0≤(nth (.int .i64) y (rV x w)) then(if(nth (.int .i64) y (rV x w))<(5:Int) then(if nth (.int .i64) y (rV x w)=(0:Int) then(gQ (K1 z w y aa) (fun p10=>cU (Option.bind (Gk p10.1) fun⟨a,b⟩=>some (([]:Zq),a,b))) fun⟨c,d,e,f⟩=>apg (x,ab,ac,c,d,e,f)) else(if nth (.int .i64) y (rV x w)=(1:Int) then(Option.bind (KZ z w y aa) fun⟨g,h,i,j⟩=>apg (x,ab,ac,g,h,i,j)) else(if nth (.int .i64) y (rV x w)=(2:Int) then(Option.bind (KX z w y aa) fun⟨k,l,m,n⟩=>apg (x,ab,ac,k,l,m,n)) else(if nth (.int .i64) y (rV x w)=(3:Int) then(Option.bind (KT z w y aa) fun⟨o,p,q,r⟩=>apg (x,ab,ac,o,p,q,r)) else(if nth (.int .i64) y (rV x w)=(4:Int) then(Option.bind (KM z w y aa) fun⟨s,t,u,v⟩=>apg (x,ab,ac,s,t,u,v)) else none))))) else none) else none) else none) else none) else none) else none) else(some (.aX (ab,ac,z,w,y,aa)))
def abc(a0:Zf):Option (Zq×ZP):=
 if(decide ((65536:Int)<(List.length a0:Int)))=true then(some (([]:Zq),0,2)) else(Option.bind (aa9) fun y1=>aI (U:=Int×Int×ZF) (TR dG (a0,0,0,a0,0,y1,([]:Zq))) fun⟨_,_,_,_,_,a⟩=>Option.bind (Gm (0:Int) (0:Int) a) fun⟨c,d,b⟩=>some (b,c,d))
def s42:SS:=⟨51,91,[tP 2 18,tP 3 19,tP 4 20,tP 5 30],[(18,.var (.slice 40 cC) .aM),(19,bI),(20,bI),(30,.var kM (.cons (.val .str) (.cons vI (.cons (.val jo) (.cons (.own 70) .nil))))),(70,.row 235 40 cC)],[.func 169 .nil (.cons (pP 18) (.cons (pP 19) (.cons (pP 20) .nil)))]⟩
def s43:SS:=⟨51,91,[(0,.val .str),tP 2 18,tP 3 19,tP 4 20,tP 5 30,tP 6 22],[(18,.var (.slice 40 cC) .aM),(19,bI),(20,bI),(22,.var (.fns 5) (.cons (.func 171 (.cons (pP 30) .nil) .nil) (.cons (.func 172 (.cons (pP 30) .nil) .nil) (.cons (.func 173 (.cons (pP 30) .nil) .nil) (.cons (.func 174 (.cons (pP 30) .nil) .nil) (.cons (.func 175 (.cons (pP 30) .nil) .nil) .nil)))))),(30,.var kM (.cons (.val .str) (.cons vI (.cons (.val jo) (.cons (.own 69) .nil))))),(69,.row 235 40 cC)],[.func 169 .nil (.cons (pP 18) (.cons (pP 19) (.cons (pP 20) .nil)))]⟩
def s44:SS:=⟨51,91,[tP 2 18,tP 3 19,tP 4 20],[(18,.var (.slice 40 cC) (.val (.slice 40 cC))),(19,bI),(20,bI)],[]⟩
def abd:bG:=aG G [.cell 2 223,.cell 3 3,.cell 4 56] 111 [.val .str] [] 91 s44 [] (.bY (u1 abc))
theorem akk:hS abd:=
 bG.ofD tied (H:=⟨[hA 4 0,hE 7 [⟨[1,2,3,4,5],[(0,30),(1,69)],[(54,62),(59,67),(35,68)],[],[]⟩]],[(8,s42)],[],[(6,⟨s43,fun _=>dG⟩)],[],[]⟩) (hold (l:=[aba,KN,KU,KY,K0,K2]) ⟨akd,TC,TJ,TO,TP,TQ,trivial⟩) (C:=Gn) Pe (ps:=[(0,18),(1,19),(2,20),(3,70)]) (D:=Gl) Pd (qs:=[(0,18),(1,19),(2,20)]) (jk:=[18,19,20]) rfl Tryz.call111 Tryz.func111 rfl rfl rfl rfl (fun _=>by kernel_rfl) (fun _=>by kernel_rfl)
def abe(a0:wC)(a1:Int):Zm:=
 Option.bind (α:=Bool) (if(decide (a0.1≤a1))=true then(some (decide (a1≤a0.2.1))) else(some false)) fun v1=>some v1
def s63:SS:=⟨15,55,[(4,vB)],[],[]⟩
def akl:bG:=aG G [.tmp 4] 238 [.val g7,vI] [] 55 s63 [] (.bY (u2 abe))
theorem akm:hS akl:=
 cO (hR [hD 1 4 []]) hz aJ Tryz.call238 Tryz.func238
end Go.Proofs.YtkhfnbfpgcjllaaGreatDoor
