/- part -/
import Derived.Test.YtkhfnbfpgcjllaaGreatDoorBase
noncomputable section
namespace Go.Proofs.YtkhfnbfpgcjllaaGreatDoor
open Go.Ax
def TF:Nat→Int×kT→Option (dN kT kT):=aL fun aoP ⟨a,b⟩=>if(decide (a<(26:Int)))=true then(if 0≤(aQ ((65:Int)+a)) then(if(aQ ((65:Int)+a))<(256:Int) then(if 0≤(aQ ((97:Int)+a)) then(if(aQ ((97:Int)+a))<(256:Int) then(aoP (aQ (a+1),List.set (List.set b (Int.toNat (aQ ((65:Int)+a))) (2:Int)) (Int.toNat (aQ ((97:Int)+a))) (2:Int))) else none) else none) else none) else none) else(some (.aS b))
def TH:Nat→Int×kT→Option (dN kT kT):=aL fun rec6 ⟨a,b⟩=>if(decide (a<(10:Int)))=true then(if 0≤(aQ ((48:Int)+a)) then(if(aQ ((48:Int)+a))<(256:Int) then(rec6 (aQ (a+1),List.set b (Int.toNat (aQ ((48:Int)+a))) (3:Int))) else none) else none) else(some (.aS b))
def Pf:Nat→Zd×Int×Int×kT→Option (dN kT kT):=aL fun rec9 ⟨c,b,a,d⟩=>if(decide (a<b))=true then(if 0≤a then(if a<(List.length c:Int) then(if 0≤(nth (.int .u8) c a) then(if(nth (.int .u8) c a)<(256:Int) then(rec9 (c,b,aQ (a+1),List.set d (Int.toNat (nth (.int .u8) c a)) (1:Int))) else none) else none) else none) else none) else(some (.aS d))
def Pg:Nat→Zd×Int×Int×kT→Option (dN kT kT):=aL fun rec12 ⟨c,b,a,d⟩=>if(decide (a<b))=true then(if 0≤a then(if a<(List.length c:Int) then(if 0≤(nth (.int .u8) c a) then(if(nth (.int .u8) c a)<(256:Int) then(rec12 (c,b,aQ (a+1),List.set d (Int.toNat (nth (.int .u8) c a)) (4:Int))) else none) else none) else none) else none) else(some (.aS d))
def abe:Option kT:=
 aG (U:=kT) (TF (Int.toNat (26:Int)+1) (0,Ty.aH jA)) fun v1=>aG (U:=kT) (TH (Int.toNat (10:Int)+1) (0,v1)) fun v4=>aG (U:=kT) (if 0<List.length [(32:Int),9,10,(13:Int)] then(Pf (Int.toNat (List.length [(32:Int),9,10,(13:Int)]:Int)+1) ([(32:Int),9,10,(13:Int)],(List.length [(32:Int),9,10,(13:Int)]:Int),0,v4)) else none) fun v7=>aG (U:=kT) (if 0<List.length [(123:Int),125,40,41,59,44,61,35,47,60,33,45,46,58,(43:Int)] then(Pg (Int.toNat (List.length [(123:Int),125,40,41,59,44,61,35,47,60,33,45,46,58,(43:Int)]:Int)+1) ([(123:Int),125,40,41,59,44,61,35,47,60,33,45,46,58,(43:Int)],(List.length [(123:Int),125,40,41,59,44,61,35,47,60,33,45,46,58,(43:Int)]:Int),0,v7)) else none) fun v10=>some v10
def s1:SS:=⟨45,85,[tP 0 16],[(16,bV jA)],[]⟩
def s2:SS:=⟨45,85,[tP 0 16,tI 7],[(16,bV jA)],[]⟩
def s3:SS:=⟨45,85,[tP 0 16,tI 17],[(16,bV jA)],[]⟩
def s4:SS:=⟨45,85,[tP 0 16,(25,.val (.slice 1 (.int .u8))),tI 26,tI 27],[(16,bV jA)],[]⟩
def s5:SS:=⟨45,85,[tP 0 16,(35,.val (.slice 1 (.int .u8))),tI 36,tI 37],[(16,bV jA)],[]⟩
def abf:bH:=aI G [.cell 0 300] 170 [] [] 85 s1 [] (.bZ (fun _=>abe))
theorem akj:hS abf:=
 cO ⟨[],[(6,s1),(11,s1),(16,s1),(21,s1)],[],[(2,⟨s2,fun _=>Int.toNat (26:Int)+1⟩),(7,⟨s3,fun _=>Int.toNat (10:Int)+1⟩),(12,⟨s4,fun u8=>Int.toNat u8.2.1+1⟩),(17,⟨s5,fun Ii=>Int.toNat Ii.2.1+1⟩)],[],[]⟩ hz aJ Tryz.call170 Tryz.func170
def abg(a0:Zf)(a1:Zf):Zm:=
 Option.bind (α:=Bool) (if(decide ((List.length a1:Int)≤(List.length a0:Int)))=true then(if 0≤(List.length a1:Int) then(if(List.length a1:Int)≤(List.length a0:Int) then(some (decide ((fy a0 0 (Int.toNat (List.length a1:Int)))=a1))) else none) else none) else(some false)) fun v1=>some v1
def s6:SS:=⟨18,58,[(4,vB)],[],[]⟩
def akk:bH:=aI G [.tmp 4] 245 [.val .str,.val .str] [] 58 s6 [] (.bZ (u2 abg))
theorem akl:hS akk:=
 cO (hR [hD 1 4 []]) hz aJ Tryz.call245 Tryz.func245
def Xo(a0:Zf)(a1:Zf):Zm:=
 Option.bind (abg a0 a1) fun y1=>some y1
def s7:SS:=⟨8,48,[(4,vB)],[],[]⟩
def akm:bH:=aI G [.tmp 4] 235 [.val .str,.val .str] [] 48 s7 [] (.bZ (u2 Xo))
theorem akn:hS akm:=
 cO (hR [hA 1 0]) (hq akl hz) aJ Tryz.call235 Tryz.func235
def TI(a0:R6)(a1:Int)(a2:Zf)(a3:Int)(a4:kT):Option ZH:=
 if List.length [(a0.1,a0.2.1,a0.2.2.1,a3,a0.2.2.2.2)]*40≤aF then(some (a2,aQ (a3+a1),a4,[(a0.1,a0.2.1,a0.2.2.1,a3,a0.2.2.2.2)])) else none
def acS(a0:Zf)(a1:Int)(a2:kT):Option ZH:=
 if 0≤a1 then(if a1≤(List.length a0:Int) then(Option.bind (Xo (fy a0 (Int.toNat a1) (List.length a0)) [47,47]) fun y1=>if y1=true then none else(if 0≤a1 then(if a1≤(aQ (a1+1)) then(if(aQ (a1+1))≤(List.length a0:Int) then(Option.bind (TI (3,fy a0 (Int.toNat a1) (Int.toNat (aQ (a1+1))),0,0,()) (1:Int) a0 a1 a2) fun⟨a,b,c,d⟩=>some (a,b,c,d)) else none) else none) else none)) else none) else none
def yH(a0:R6)(a1:Int)(a2:Zf)(a3:Int)(a4:kT)(a5:Zq):Option ZH:=
 if(List.length a5+List.length [(a0.1,a0.2.1,a0.2.2.1,a3,a0.2.2.2.2)])*40≤aF then(some (a2,aQ (a3+a1),a4,a5++[(a0.1,a0.2.1,a0.2.2.1,a3,a0.2.2.2.2)])) else none
def s24:SS:=⟨29,69,[],[(0,.var kS (.cons (.val .str) (.cons vI (.cons (.val jA) (.cons (.own 34) .nil))))),(34,.row 235 40 cE)],[]⟩
def TJ:bH:=aI G [] 233 [pP 0,.val cE,vI] [(0,.var kS (.cons (.val .str) (.cons vI (.cons (.val jA) (.cons (.own 1) .nil))))),(1,.row 235 40 cE)] 69 s24 [0,34] (.bZ (u6 yH))
theorem Eo:hS TJ:=
 cO (hR []) hz aJ Tryz.call233 Tryz.func233
def KT(a0:Zf)(a1:Int)(a2:kT)(a3:Zq):Option ZH:=
 if 0≤a1 then(if a1≤(List.length a0:Int) then(Option.bind (Xo (fy a0 (Int.toNat a1) (List.length a0)) [47,47]) fun y1=>if y1=true then none else(if 0≤a1 then(if a1≤(aQ (a1+1)) then(if(aQ (a1+1))≤(List.length a0:Int) then(Option.bind (yH (3,fy a0 (Int.toNat a1) (Int.toNat (aQ (a1+1))),0,0,()) (1:Int) a0 a1 a2 a3) fun⟨a,b,c,d⟩=>some (a,b,c,d)) else none) else none) else none)) else none) else none
def s25:SS:=⟨39,79,[],[(0,.var kS (.cons (.val .str) (.cons vI (.cons (.val jA) (.cons (.own 54) .nil))))),(54,.row 235 40 cE)],[]⟩
def KU:bH:=aI G [] 175 [pP 0] [(0,.var kS (.cons (.val .str) (.cons vI (.cons (.val jA) (.cons (.own 1) .nil))))),(1,.row 235 40 cE)] 79 s25 [0,54] (.bZ (u4 KT))
theorem TK:hS KU:=
 cO (hR [hA 0 0,(1,⟨[],[],[],none,[(0,9999)],[],[]⟩),hE 2 [cB 1 [(0,0),(1,1)] [(34,54)]]]) (hq akn (hq Eo hz)) aJ Tryz.call175 Tryz.func175
def KV(a0:Int)(a1:Zf)(a2:Int)(a3:kT)(a4:Zq):Option (Bool×ZH):=
 if 0≤a0 then(if a0<(256:Int) then(some (decide ((nth (.int .i64) a3 a0)=(3:Int)),a1,a2,a3,a4)) else none) else none
def s26:SS:=⟨11,51,[(3,vB)],[(0,.var (.aY .ptr) (pP 1)),(1,.var kS (.cons (.val .str) (.cons vI (.cons (.val jA) (.cons (.own 2) .nil))))),(2,.row 235 40 cE)],[]⟩
def TL:bH:=aI G [.tmp 3] 234 [.val (.int .u8),pP 0] [(0,.var (.aY .ptr) (pP 1)),(1,.var kS (.cons (.val .str) (.cons vI (.cons (.val jA) (.cons (.own 2) .nil))))),(2,.row 235 40 cE)] 51 s26 [0,1,2] (.bZ (u5 KV))
theorem TM:hS TL:=
 cO (hR []) hz aJ Tryz.call234 Tryz.func234
def Jn:Nat→Int×ZH→Option (dN (Int×ZH) (Zf×ZH)):=aL fun aoP ⟨f,g,h,i,j⟩=>if(decide (f<(List.length g:Int)))=true then(if 0≤f then(if f<(List.length g:Int) then(Option.bind (KV (sk g f) g h i j) fun⟨a,b,c,d,e⟩=>if a=true then(aoP (aQ (f+1),b,c,d,e)) else(some (.aS (f,b,c,d,e)))) else none) else none) else(some (.aS (f,g,h,i,j)))
def KW(a0:Zf)(a1:Int)(a2:kT)(a3:Zq):Option (Zf×ZH):=
 aG (U:=Int×ZH) (Jn dA (a1,a0,a1,a2,a3)) fun⟨b,c,a,d,e⟩=>if 0≤a then(if a≤b then(if b≤(List.length c:Int) then(some (fy c (Int.toNat a) (Int.toNat b),c,a,d,e)) else none) else none) else none
def s27:SS:=⟨39,79,[tP 0 0,tI 5],[(0,.var kS (.cons (.val .str) (.cons vI (.cons (.val jA) (.cons (.own 2) .nil))))),(1,.var (.aY .ptr) (pP 0)),(2,.row 235 40 cE)],[]⟩
def s28:SS:=⟨39,79,[tP 0 0,(1,.func 234 .nil (.cons (pP 1) .nil)),tI 5],[(0,.var kS (.cons (.val .str) (.cons vI (.cons (.val jA) (.cons (.own 2) .nil))))),(1,.var (.aY .ptr) (pP 0)),(2,.row 235 40 cE)],[]⟩
def s29:SS:=⟨39,79,[(4,.val .str)],[(0,.var kS (.cons (.val .str) (.cons vI (.cons (.val jA) (.cons (.own 2) .nil))))),(1,.var (.aY .ptr) (pP 0)),(2,.row 235 40 cE)],[]⟩
def TN:bH:=aI G [.tmp 4] 231 [pP 0,.func 234 .nil (.cons (pP 1) .nil)] [(0,.var kS (.cons (.val .str) (.cons vI (.cons (.val jA) (.cons (.own 2) .nil))))),(1,.var (.aY .ptr) (pP 0)),(2,.row 235 40 cE)] 79 s29 [0,1,2] (.bZ (u4 KW))
theorem TO:hS TN:=
 cO ⟨[hE 2 [cB 0 [(0,1),(1,0),(2,2)] []]],[(4,s27)],[],[(2,⟨s28,fun _=>dA⟩)],[],[]⟩ (hq TM hz) aJ Tryz.call231 Tryz.func231
def Jo:Nat→Zf×Int×Int×Int×ZH→Option (dN (Zf×Int×ZH) ZH):=aL fun api ⟨c,d,b,a,e,f,g,h⟩=>if(decide (a<b))=true then(if 0≤a then(if a<(List.length c:Int) then(Option.bind (α:=Bool) (if(gtI (1099511627776:Int) (aQ ((aQ ((10:Int)*d))+(aQ (IntKind.u8.wrap ((sk c a) -(48:Int)))))))=true then(some true) else(if(decide ((0:Int)<a))=true then(if(0:Int)<(List.length c:Int) then(some (decide ((sk c (0:Int))=(48:Int)))) else none) else(some false))) fun v5=>if v5=true then none else(api (c,aQ ((aQ ((10:Int)*d))+(aQ (IntKind.u8.wrap ((sk c a) -(48:Int))))),b,aQ (a+1),e,f,g,h))) else none) else none) else(some (.aS (c,d,e,f,g,h)))
def KX(a0:Zf)(a1:Int)(a2:kT)(a3:Zq):Option ZH:=
 Option.bind (KW a0 a1 a2 a3) fun⟨a,b,c,d,e⟩=>aG (U:=Zf×Int×ZH) (Jo (Int.toNat (List.length a:Int)+1) (a,0,(List.length a:Int),0,b,c,d,e)) fun⟨g,f,h,i,j,k⟩=>Option.bind (yH (2,[],f,0,()) (List.length g:Int) h i j k) fun⟨l,m,n,o⟩=>some (l,m,n,o)
def s30:SS:=⟨44,84,[tP 1 17,(2,.val .str),tI 3],[(0,.var kS (.cons (.val .str) (.cons vI (.cons (.val jA) (.cons (.own 1) .nil))))),(1,.row 235 40 cE),(17,.var (.aY .ptr) (pP 0))],[]⟩
def s31:SS:=⟨44,84,[tP 1 17,(2,.val .str),tI 3,tI 9,tI 10],[(0,.var kS (.cons (.val .str) (.cons vI (.cons (.val jA) (.cons (.own 1) .nil))))),(1,.row 235 40 cE),(17,.var (.aY .ptr) (pP 0))],[]⟩
def s32:SS:=⟨44,84,[],[(0,.var kS (.cons (.val .str) (.cons vI (.cons (.val jA) (.cons (.own 59) .nil))))),(59,.row 235 40 cE)],[]⟩
def KY:bH:=aI G [] 174 [pP 0] [(0,.var kS (.cons (.val .str) (.cons vI (.cons (.val jA) (.cons (.own 1) .nil))))),(1,.row 235 40 cE)] 84 s32 [0,59] (.bZ (u4 KX))
theorem TP:hS KY:=
 cO ⟨[hE 1 [cB 0 [(0,0),(1,17),(2,1)] []],hD 7 31 [],(8,⟨[],[],[],none,[(0,9999)],[],[]⟩),hE 10 [cB 1 [(0,0),(1,1)] [(34,59)]]],[(10,s30)],[],[(4,⟨s31,fun u3=>Int.toNat u3.2.2.1+1⟩)],[],[]⟩ (hq TO (hq Eo hz)) aJ Tryz.call174 Tryz.func174
def KZ(a0:Int)(a1:Zf)(a2:Int)(a3:kT)(a4:Zq):Option (Bool×ZH):=
 Option.bind (α:=Bool) (if 0≤a0 then(if a0<(256:Int) then(if(decide ((nth (.int .i64) a3 a0)=(2:Int)))=true then(some true) else(if 0≤a0 then(if a0<(256:Int) then(if(decide ((nth (.int .i64) a3 a0)=(3:Int)))=true then(some true) else(some (decide (a0=(95:Int))))) else none) else none)) else none) else none) fun v1=>some (v1,a1,a2,a3,a4)
def s33:SS:=⟨24,64,[(3,vB)],[(0,.var (.aY .ptr) (pP 1)),(1,.var kS (.cons (.val .str) (.cons vI (.cons (.val jA) (.cons (.own 2) .nil))))),(2,.row 235 40 cE)],[]⟩
def TQ:bH:=aI G [.tmp 3] 232 [.val (.int .u8),pP 0] [(0,.var (.aY .ptr) (pP 1)),(1,.var kS (.cons (.val .str) (.cons vI (.cons (.val jA) (.cons (.own 2) .nil))))),(2,.row 235 40 cE)] 64 s33 [0,1,2] (.bZ (u5 KZ))
theorem TR:hS TQ:=
 cO (hR [hD 1 3 []]) hz aJ Tryz.call232 Tryz.func232
def Jp:Nat→Int×ZH→Option (dN (Int×ZH) (Zf×ZH)):=aL fun aoP ⟨f,g,h,i,j⟩=>if(decide (f<(List.length g:Int)))=true then(if 0≤f then(if f<(List.length g:Int) then(Option.bind (KZ (sk g f) g h i j) fun⟨a,b,c,d,e⟩=>if a=true then(aoP (aQ (f+1),b,c,d,e)) else(some (.aS (f,b,c,d,e)))) else none) else none) else(some (.aS (f,g,h,i,j)))
def K0(a0:Zf)(a1:Int)(a2:kT)(a3:Zq):Option (Zf×ZH):=
 aG (U:=Int×ZH) (Jp dA (a1,a0,a1,a2,a3)) fun⟨b,c,a,d,e⟩=>if 0≤a then(if a≤b then(if b≤(List.length c:Int) then(some (fy c (Int.toNat a) (Int.toNat b),c,a,d,e)) else none) else none) else none
def s34:SS:=⟨39,79,[tP 0 0,tI 5],[(0,.var kS (.cons (.val .str) (.cons vI (.cons (.val jA) (.cons (.own 2) .nil))))),(1,.var (.aY .ptr) (pP 0)),(2,.row 235 40 cE)],[]⟩
def s35:SS:=⟨39,79,[tP 0 0,(1,.func 232 .nil (.cons (pP 1) .nil)),tI 5],[(0,.var kS (.cons (.val .str) (.cons vI (.cons (.val jA) (.cons (.own 2) .nil))))),(1,.var (.aY .ptr) (pP 0)),(2,.row 235 40 cE)],[]⟩
def s36:SS:=⟨39,79,[(4,.val .str)],[(0,.var kS (.cons (.val .str) (.cons vI (.cons (.val jA) (.cons (.own 2) .nil))))),(1,.var (.aY .ptr) (pP 0)),(2,.row 235 40 cE)],[]⟩
def TS:bH:=aI G [.tmp 4] 231 [pP 0,.func 232 .nil (.cons (pP 1) .nil)] [(0,.var kS (.cons (.val .str) (.cons vI (.cons (.val jA) (.cons (.own 2) .nil))))),(1,.var (.aY .ptr) (pP 0)),(2,.row 235 40 cE)] 79 s36 [0,1,2] (.bZ (u4 K0))
theorem TT:hS TS:=
 cO ⟨[hE 2 [cB 0 [(0,1),(1,0),(2,2)] []]],[(4,s34)],[],[(2,⟨s35,fun _=>dA⟩)],[],[]⟩ (hq TR hz) aJ Tryz.call231 Tryz.func231
def K1(a0:Zf)(a1:Int)(a2:kT)(a3:Zq):Option ZH:=
 Option.bind (K0 a0 a1 a2 a3) fun⟨a,b,c,d,e⟩=>if(decide ((32:Int)<(List.length a:Int)))=true then none else(Option.bind (yH (1,a,0,0,()) (List.length a:Int) b c d e) fun⟨f,g,h,i⟩=>some (f,g,h,i))
def s37:SS:=⟨20,60,[],[(0,.var kS (.cons (.val .str) (.cons vI (.cons (.val jA) (.cons (.own 35) .nil))))),(35,.row 235 40 cE)],[]⟩
def K2:bH:=aI G [] 173 [pP 0] [(0,.var kS (.cons (.val .str) (.cons vI (.cons (.val jA) (.cons (.own 1) .nil))))),(1,.row 235 40 cE)] 60 s37 [0,35] (.bZ (u4 K1))
theorem TU:hS K2:=
 cO (hR [hE 1 [cB 0 [(0,0),(1,17),(2,1)] []],(3,⟨[],[],[],none,[(0,9999)],[],[]⟩),hE 4 [cB 1 [(0,0),(1,1)] [(34,35)]]]) (hq TT (hq Eo hz)) aJ Tryz.call173 Tryz.func173
def K3(a0:Zf)(a1:Int)(a2:kT)(a3:Zq):Option ZH:=
 some (a0,aQ (a1+1),a2,a3)
def s38:SS:=⟨9,49,[],[(0,.var kS (.cons (.val .str) (.cons vI (.cons (.val jA) (.cons (.own 1) .nil))))),(1,.row 235 40 cE)],[]⟩
def K4:bH:=aI G [] 172 [pP 0] [(0,.var kS (.cons (.val .str) (.cons vI (.cons (.val jA) (.cons (.own 1) .nil))))),(1,.row 235 40 cE)] 49 s38 [0,1] (.bZ (u4 K3))
theorem TV:hS K4:=
 cO (hR []) hz aJ Tryz.call172 Tryz.func172
def K5(_a0:Zf)(a1:Int)(_a2:kT)(_a3:Zq):Option (Sum (Int×Unit) ZH):=
 some (.inl (a1,()))
def s39:SS:=⟨7,47,[],[(0,.var kS (.cons (.val .str) (.cons vI (.cons (.val jA) (.cons (.own 1) .nil))))),(1,.row 235 40 cE)],[]⟩
def K6:bH:=aI G [] 171 [pP 0] [(0,.var kS (.cons (.val .str) (.cons vI (.cons (.val jA) (.cons (.own 1) .nil))))),(1,.row 235 40 cE)] 47 s39 [0,1] (.oi (.iface 297 vI) (fun d=>K5 d.1 d.2.1 d.2.2.1 d.2.2.2.1))
theorem TW:hS K6:=
 bH.GL tied (H:=⟨[],[],[],[],[],[]⟩) (hold (l:=[]) trivial) aJ rfl Tryz.call171 Tryz.func171 rfl rfl rfl rfl (fun _=>by kernel_rfl) (fun _=>by kernel_rfl)
def Gq(q0:Int):Option ZP:=
 some (q0,90)
def s40:SS:=⟨18,58,[],[(0,.var (.slice 40 cE) .aM),(1,bI),(2,bI)],[]⟩
def Gr:iV:=⟨169,[.ptr 0 [],.ptr 1 [],.ptr 2 []],[(0,.var (.slice 40 cE) (.gU (.slice 40 cE))),(1,.var (.int .i64) (.gU (.int .i64))),(2,.var (.int .i64) (.gU (.int .i64)))],58,.iface 297 (.val (.int .i64)),s40,fun r=>pick [0,1,2] (SS.st s40 y0 r).hp,fun _=>none,fun _ q=>Gq q.1⟩
theorem Ph:Gr.holds Tryz.prog gl:=
 iV.GL tied (H:=⟨[],[],[],[],[],[]⟩) (hold (l:=[]) trivial) rfl Tryz.call169 Tryz.func169 rfl rfl rfl rfl rfl rfl rfl rfl rfl rfl rfl rfl (fun _=>by kernel_rfl) (fun _ _=>by kernel_rfl)
def Gs(a0:Int)(a1:Int)(a2:Zq):Option (Int×Int×Zq):=
 some (a0,a1,a2)
def s41:SS:=⟨18,58,[],[(0,.var (.slice 40 cE) (.own 3)),(1,bI),(2,bI),(3,.row 235 40 cE)],[]⟩
def Gt:iV:=⟨169,[.ptr 0 [],.ptr 1 [],.ptr 2 []],[(0,.var (.slice 40 cE) (.own 3)),(1,.var (.int .i64) (.val (.int .i64))),(2,.var (.int .i64) (.val (.int .i64))),(3,.row 235 40 cE)],58,.kZ,s41,fun r=>pick [0,1,2,3] (SS.st s41 y0 r).hp,fun d=>Gs d.1 d.2.1 d.2.2.1,fun _ _=>none⟩
theorem Pj:Gt.holds Tryz.prog gl:=
 iV.ofN tied (H:=⟨[],[],[],[],[],[]⟩) (hold (l:=[]) trivial) rfl Tryz.call169 Tryz.func169 rfl rfl rfl rfl rfl rfl rfl rfl rfl rfl rfl rfl (fun _=>by kernel_rfl) (fun _=>by kernel_rfl)
def TX:Nat→Zf×Int×Int×ZH→Option (dN (Int×Int×ZH) (Zq×ZP)):=aL fun api ⟨x,ab,ac,z,w,y,aa⟩=>if(decide (w<(List.length x:Int)))=true then(if 0≤w then(if w<(List.length x:Int) then(if 0≤(sk x w) then(if(sk x w)<(256:Int) then(if 0≤(nth (.int .i64) y (sk x w)) then(if(nth (.int .i64) y (sk x w))<(5:Int) then(if nth (.int .i64) y (sk x w)=(0:Int) then(gX (K5 z w y aa) (fun p10=>cN (Option.bind (Gq p10.1) fun⟨a,b⟩=>some (([]:Zq),a,b))) fun⟨c,d,e,f⟩=>api (x,ab,ac,c,d,e,f)) else(if nth (.int .i64) y (sk x w)=(1:Int) then(Option.bind (K3 z w y aa) fun⟨g,h,i,j⟩=>api (x,ab,ac,g,h,i,j)) else(if nth (.int .i64) y (sk x w)=(2:Int) then(Option.bind (K1 z w y aa) fun⟨k,l,m,n⟩=>api (x,ab,ac,k,l,m,n)) else(if nth (.int .i64) y (sk x w)=(3:Int) then(Option.bind (KX z w y aa) fun⟨o,p,q,r⟩=>api (x,ab,ac,o,p,q,r)) else(if nth (.int .i64) y (sk x w)=(4:Int) then(Option.bind (KT z w y aa) fun⟨s,t,u,v⟩=>api (x,ab,ac,s,t,u,v)) else none))))) else none) else none) else none) else none) else none) else none) else(some (.aS (ab,ac,z,w,y,aa)))
def abh(a0:Zf):Option (Zq×ZP):=
 if(decide ((65536:Int)<(List.length a0:Int)))=true then(some (([]:Zq),0,2)) else(Option.bind (abe) fun y1=>aG (U:=Int×Int×ZH) (TX dA (a0,0,0,a0,0,y1,([]:Zq))) fun⟨_,_,_,_,_,a⟩=>Option.bind (Gs (0:Int) (0:Int) a) fun⟨c,d,b⟩=>some (b,c,d))
def s42:SS:=⟨51,91,[tP 2 18,tP 3 19,tP 4 20,tP 5 30],[(18,.var (.slice 40 cE) .aM),(19,bI),(20,bI),(30,.var kS (.cons (.val .str) (.cons vI (.cons (.val jA) (.cons (.own 70) .nil))))),(70,.row 235 40 cE)],[.func 169 .nil (.cons (pP 18) (.cons (pP 19) (.cons (pP 20) .nil)))]⟩
def s43:SS:=⟨51,91,[(0,.val .str),tP 2 18,tP 3 19,tP 4 20,tP 5 30,tP 6 22],[(18,.var (.slice 40 cE) .aM),(19,bI),(20,bI),(22,.var (.fns 5) (.cons (.func 171 (.cons (pP 30) .nil) .nil) (.cons (.func 172 (.cons (pP 30) .nil) .nil) (.cons (.func 173 (.cons (pP 30) .nil) .nil) (.cons (.func 174 (.cons (pP 30) .nil) .nil) (.cons (.func 175 (.cons (pP 30) .nil) .nil) .nil)))))),(30,.var kS (.cons (.val .str) (.cons vI (.cons (.val jA) (.cons (.own 69) .nil))))),(69,.row 235 40 cE)],[.func 169 .nil (.cons (pP 18) (.cons (pP 19) (.cons (pP 20) .nil)))]⟩
def s44:SS:=⟨51,91,[tP 2 18,tP 3 19,tP 4 20],[(18,.var (.slice 40 cE) (.val (.slice 40 cE))),(19,bI),(20,bI)],[]⟩
def abi:bH:=aI G [.cell 2 223,.cell 3 3,.cell 4 56] 111 [.val .str] [] 91 s44 [] (.bZ (u1 abh))
theorem akq:hS abi:=
 bH.ofD tied (H:=⟨[hA 4 0,hE 7 [⟨[1,2,3,4,5],[(0,30),(1,69)],[(54,62),(59,67),(35,68)],[],[]⟩]],[(8,s42)],[],[(6,⟨s43,fun _=>dA⟩)],[],[]⟩) (hold (l:=[abf,KU,KY,K2,K4,K6]) ⟨akj,TK,TP,TU,TV,TW,trivial⟩) (C:=Gt) Pj (ps:=[(0,18),(1,19),(2,20),(3,70)]) (D:=Gr) Ph (qs:=[(0,18),(1,19),(2,20)]) (jk:=[18,19,20]) rfl Tryz.call111 Tryz.func111 rfl rfl rfl rfl (fun _=>by kernel_rfl) (fun _=>by kernel_rfl)
def abj(a0:uc)(a1:Int):Zm:=
 Option.bind (α:=Bool) (if(decide (a0.1≤a1))=true then(some (decide (a1≤a0.2.1))) else(some false)) fun v1=>some v1
def s63:SS:=⟨15,55,[(4,vB)],[],[]⟩
def akr:bH:=aI G [.tmp 4] 238 [.val fS,vI] [] 55 s63 [] (.bZ (u2 abj))
theorem aks:hS akr:=
 cO (hR [hD 1 4 []]) hz aJ Tryz.call238 Tryz.func238
end Go.Proofs.YtkhfnbfpgcjllaaGreatDoor
