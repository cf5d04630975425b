/- part -/
import Derived.Test.YtaghhonjcdokjaaGreatDoorBase
noncomputable section
namespace Go.Proofs.YtaghhonjcdokjaaGreatDoor
open Go.Ax
def Ow:Nat→Int×gX→Option (cV gX gX):=aM fun ahA ⟨a,b⟩=>if(decide (a<(26:Int)))=true then(if 0≤(bB ((65:Int)+a)) then(if(bB ((65:Int)+a))<(256:Int) then(if 0≤(bB ((97:Int)+a)) then(if(bB ((97:Int)+a))<(256:Int) then(ahA (bB (a+1),List.set (List.set b (Int.toNat (bB ((65:Int)+a))) (2:Int)) (Int.toNat (bB ((97:Int)+a))) (2:Int))) else none) else none) else none) else none) else(some (.brk b))
def Ox:Nat→Int×gX→Option (cV gX gX):=aM fun rec6 ⟨a,b⟩=>if(decide (a<(10:Int)))=true then(if 0≤(bB ((48:Int)+a)) then(if(bB ((48:Int)+a))<(256:Int) then(rec6 (bB (a+1),List.set b (Int.toNat (bB ((48:Int)+a))) (3:Int))) else none) else none) else(some (.brk b))
def Km:Nat→Zf×Int×Int×gX→Option (cV gX gX):=aM fun rec9 ⟨c,b,a,d⟩=>if(decide (a<b))=true then(if 0≤a then(if a<(List.length c:Int) then(if 0≤(nth (.int .u8) c a) then(if(nth (.int .u8) c a)<(256:Int) then(rec9 (c,b,bB (a+1),List.set d (Int.toNat (nth (.int .u8) c a)) (1:Int))) else none) else none) else none) else none) else(some (.brk d))
def Kn:Nat→Zf×Int×Int×gX→Option (cV gX gX):=aM fun rec12 ⟨c,b,a,d⟩=>if(decide (a<b))=true then(if 0≤a then(if a<(List.length c:Int) then(if 0≤(nth (.int .u8) c a) then(if(nth (.int .u8) c a)<(256:Int) then(rec12 (c,b,bB (a+1),List.set d (Int.toNat (nth (.int .u8) c a)) (4:Int))) else none) else none) else none) else none) else(some (.brk d))
def f155:Option gX:=
 aI (U:=gX) (Ow (Int.toNat (26:Int)+1) (0,Ty.aC fJ)) fun v1=>aI (U:=gX) (Ox (Int.toNat (10:Int)+1) (0,v1)) fun v4=>aI (U:=gX) (if 0<List.length [(32:Int),9,10,(13:Int)] then(Km (Int.toNat (List.length [(32:Int),9,10,(13:Int)]:Int)+1) ([(32:Int),9,10,(13:Int)],(List.length [(32:Int),9,10,(13:Int)]:Int),0,v4)) else none) fun v7=>aI (U:=gX) (if 0<List.length [(123:Int),125,40,41,59,44,61,35,47,60,33,45,46,58,(43:Int)] then(Kn (Int.toNat (List.length [(123:Int),125,40,41,59,44,61,35,47,60,33,45,46,58,(43:Int)]:Int)+1) ([(123:Int),125,40,41,59,44,61,35,47,60,33,45,46,58,(43:Int)],(List.length [(123:Int),125,40,41,59,44,61,35,47,60,33,45,46,58,(43:Int)]:Int),0,v7)) else none) fun v10=>some v10
def s1:SS:=⟨45,85,[tP 0 16],[(16,bV fJ)],[]⟩
def s2:SS:=⟨45,85,[tP 0 16,tI 7],[(16,bV fJ)],[]⟩
def s3:SS:=⟨45,85,[tP 0 16,tI 17],[(16,bV fJ)],[]⟩
def s4:SS:=⟨45,85,[tP 0 16,(25,.val (.slice 1 (.int .u8))),tI 26,tI 27],[(16,bV fJ)],[]⟩
def s5:SS:=⟨45,85,[tP 0 16,(35,.val (.slice 1 (.int .u8))),tI 36,tI 37],[(16,bV fJ)],[]⟩
def UK:aX:=aE G [.cell 0 280] 155 [] [] 85 s1 [] (.bC (fun _=>f155))
theorem adQ:hS UK:=
 cO ⟨[],[(6,s1),(11,s1),(16,s1),(21,s1)],[],[(2,⟨s2,fun _=>Int.toNat (26:Int)+1⟩),(7,⟨s3,fun _=>Int.toNat (10:Int)+1⟩),(12,⟨s4,fun u8=>Int.toNat u8.2.1+1⟩),(17,⟨s5,fun ET=>Int.toNat ET.2.1+1⟩)],[],[]⟩ hz aH Tryz.call155 Tryz.func155
def f250(a0:Zd)(a1:Zd):Zo:=
 Option.bind (α:=Bool) (if(decide ((List.length a1:Int)≤(List.length a0:Int)))=true then(if 0≤(List.length a1:Int) then(if(List.length a1:Int)≤(List.length a0:Int) then(some (decide ((dG a0 0 (Int.toNat (List.length a1:Int)))=a1))) else none) else none) else(some false)) fun v1=>some v1
def s6:SS:=⟨18,58,[(4,vB)],[],[]⟩
def adR:aX:=aE G [.tmp 4] 250 [.val .str,.val .str] [] 58 s6 [] (.bC (u2 f250))
theorem adS:hS adR:=
 cO (hR [hD 1 4 []]) hz aH Tryz.call250 Tryz.func250
def f229(a0:Zd)(a1:Zd):Zo:=
 Option.bind (f250 a0 a1) fun y1=>some y1
def s7:SS:=⟨8,48,[(4,vB)],[],[]⟩
def adT:aX:=aE G [.tmp 4] 229 [.val .str,.val .str] [] 48 s7 [] (.bC (u2 f229))
theorem adU:hS adT:=
 cO (hR [hA 1 0]) (hq adS hz) aH Tryz.call229 Tryz.func229
def Oy(a0:Li)(a1:Int)(a2:Zd)(a3:Int)(a4:gX):Option ZE:=
 if List.length [(a0.1,a0.2.1,a0.2.2.1,a3,a0.2.2.2.2)]*40≤aG then(some (a2,bB (a3+a1),a4,[(a0.1,a0.2.1,a0.2.2.1,a3,a0.2.2.2.2)])) else none
def Vn(a0:Zd)(a1:Int)(a2:gX):Option ZE:=
 if 0≤a1 then(if a1≤(List.length a0:Int) then(Option.bind (f229 (dG a0 (Int.toNat a1) (List.length a0)) [47,47]) fun y1=>if y1=true then none else(if 0≤a1 then(if a1≤(bB (a1+1)) then(if(bB (a1+1))≤(List.length a0:Int) then(Option.bind (Oy (3,dG a0 (Int.toNat a1) (Int.toNat (bB (a1+1))),0,0,()) (1:Int) a0 a1 a2) fun⟨a,b,c,d⟩=>some (a,b,c,d)) else none) else none) else none)) else none) else none
def tO(a0:Li)(a1:Int)(a2:Zd)(a3:Int)(a4:gX)(a5:Zm):Option ZE:=
 if(List.length a5+List.length [(a0.1,a0.2.1,a0.2.2.1,a3,a0.2.2.2.2)])*40≤aG then(some (a2,bB (a3+a1),a4,a5++[(a0.1,a0.2.1,a0.2.2.1,a3,a0.2.2.2.2)])) else none
def s24:SS:=⟨29,69,[],[(0,.var gW (.cons (.val .str) (.cons vI (.cons (.val fJ) (.cons (.own 34) .nil))))),(34,.row 190 40 bA)],[]⟩
def Oz:aX:=aE G [] 227 [pP 0,.val bA,vI] [(0,.var gW (.cons (.val .str) (.cons vI (.cons (.val fJ) (.cons (.own 1) .nil))))),(1,.row 190 40 bA)] 69 s24 [0,34] (.bC (u6 tO))
theorem zP:hS Oz:=
 cO (hR []) hz aH Tryz.call227 Tryz.func227
def Ga(a0:Zd)(a1:Int)(a2:gX)(a3:Zm):Option ZE:=
 if 0≤a1 then(if a1≤(List.length a0:Int) then(Option.bind (f229 (dG a0 (Int.toNat a1) (List.length a0)) [47,47]) fun y1=>if y1=true then none else(if 0≤a1 then(if a1≤(bB (a1+1)) then(if(bB (a1+1))≤(List.length a0:Int) then(Option.bind (tO (3,dG a0 (Int.toNat a1) (Int.toNat (bB (a1+1))),0,0,()) (1:Int) a0 a1 a2 a3) fun⟨a,b,c,d⟩=>some (a,b,c,d)) else none) else none) else none)) else none) else none
def s25:SS:=⟨39,79,[],[(0,.var gW (.cons (.val .str) (.cons vI (.cons (.val fJ) (.cons (.own 54) .nil))))),(54,.row 190 40 bA)],[]⟩
def Gb:aX:=aE G [] 160 [pP 0] [(0,.var gW (.cons (.val .str) (.cons vI (.cons (.val fJ) (.cons (.own 1) .nil))))),(1,.row 190 40 bA)] 79 s25 [0,54] (.bC (u4 Ga))
theorem OA:hS Gb:=
 cO (hR [hA 0 0,(1,⟨[],[],[],none,[(0,9999)],[],[]⟩),hE 2 [cB 1 [(0,0),(1,1)] [(34,54)]]]) (hq adU (hq zP hz)) aH Tryz.call160 Tryz.func160
def Gc(a0:Int)(a1:Zd)(a2:Int)(a3:gX)(a4:Zm):Option (Bool×ZE):=
 if 0≤a0 then(if a0<(256:Int) then(some (decide ((nth (.int .i64) a3 a0)=(3:Int)),a1,a2,a3,a4)) else none) else none
def s26:SS:=⟨11,51,[(3,vB)],[(0,.var (.aP .ptr) (pP 1)),(1,.var gW (.cons (.val .str) (.cons vI (.cons (.val fJ) (.cons (.own 2) .nil))))),(2,.row 190 40 bA)],[]⟩
def OB:aX:=aE G [.tmp 3] 228 [.val (.int .u8),pP 0] [(0,.var (.aP .ptr) (pP 1)),(1,.var gW (.cons (.val .str) (.cons vI (.cons (.val fJ) (.cons (.own 2) .nil))))),(2,.row 190 40 bA)] 51 s26 [0,1,2] (.bC (u5 Gc))
theorem OC:hS OB:=
 cO (hR []) hz aH Tryz.call228 Tryz.func228
def D0:Nat→Int×ZE→Option (cV (Int×ZE) (Zd×ZE)):=aM fun ahA ⟨f,g,h,i,j⟩=>if(decide (f<(List.length g:Int)))=true then(if 0≤f then(if f<(List.length g:Int) then(Option.bind (Gc (mI g f) g h i j) fun⟨a,b,c,d,e⟩=>if a=true then(ahA (bB (f+1),b,c,d,e)) else(some (.brk (f,b,c,d,e)))) else none) else none) else(some (.brk (f,g,h,i,j)))
def Ge(a0:Zd)(a1:Int)(a2:gX)(a3:Zm):Option (Zd×ZE):=
 aI (U:=Int×ZE) (D0 gn (a1,a0,a1,a2,a3)) fun⟨b,c,a,d,e⟩=>if 0≤a then(if a≤b then(if b≤(List.length c:Int) then(some (dG c (Int.toNat a) (Int.toNat b),c,a,d,e)) else none) else none) else none
def s27:SS:=⟨39,79,[tP 0 0,tI 5],[(0,.var gW (.cons (.val .str) (.cons vI (.cons (.val fJ) (.cons (.own 2) .nil))))),(1,.var (.aP .ptr) (pP 0)),(2,.row 190 40 bA)],[]⟩
def s28:SS:=⟨39,79,[tP 0 0,(1,.func 228 .nil (.cons (pP 1) .nil)),tI 5],[(0,.var gW (.cons (.val .str) (.cons vI (.cons (.val fJ) (.cons (.own 2) .nil))))),(1,.var (.aP .ptr) (pP 0)),(2,.row 190 40 bA)],[]⟩
def s29:SS:=⟨39,79,[(4,.val .str)],[(0,.var gW (.cons (.val .str) (.cons vI (.cons (.val fJ) (.cons (.own 2) .nil))))),(1,.var (.aP .ptr) (pP 0)),(2,.row 190 40 bA)],[]⟩
def OD:aX:=aE G [.tmp 4] 225 [pP 0,.func 228 .nil (.cons (pP 1) .nil)] [(0,.var gW (.cons (.val .str) (.cons vI (.cons (.val fJ) (.cons (.own 2) .nil))))),(1,.var (.aP .ptr) (pP 0)),(2,.row 190 40 bA)] 79 s29 [0,1,2] (.bC (u4 Ge))
theorem OE:hS OD:=
 cO ⟨[hE 2 [cB 0 [(0,1),(1,0),(2,2)] []]],[(4,s27)],[],[(2,⟨s28,fun _=>gn⟩)],[],[]⟩ (hq OC hz) aH Tryz.call225 Tryz.func225
def D1:Nat→Zd×Int×Int×Int×ZE→Option (cV (Zd×Int×ZE) ZE):=aM fun ahZ ⟨c,d,b,a,e,f,g,h⟩=>if(decide (a<b))=true then(if 0≤a then(if a<(List.length c:Int) then(Option.bind (α:=Bool) (if(gtI (1099511627776:Int) (bB ((bB ((10:Int)*d))+(bB (IntKind.u8.wrap ((mI c a) -(48:Int)))))))=true then(some true) else(if(decide ((0:Int)<a))=true then(if(0:Int)<(List.length c:Int) then(some (decide ((mI c (0:Int))=(48:Int)))) else none) else(some false))) fun v5=>if v5=true then none else(ahZ (c,bB ((bB ((10:Int)*d))+(bB (IntKind.u8.wrap ((mI c a) -(48:Int))))),b,bB (a+1),e,f,g,h))) else none) else none) else(some (.brk (c,d,e,f,g,h)))
def Gf(a0:Zd)(a1:Int)(a2:gX)(a3:Zm):Option ZE:=
 Option.bind (Ge a0 a1 a2 a3) fun⟨a,b,c,d,e⟩=>aI (U:=Zd×Int×ZE) (D1 (Int.toNat (List.length a:Int)+1) (a,0,(List.length a:Int),0,b,c,d,e)) fun⟨g,f,h,i,j,k⟩=>Option.bind (tO (2,[],f,0,()) (List.length g:Int) h i j k) fun⟨l,m,n,o⟩=>some (l,m,n,o)
def s30:SS:=⟨44,84,[tP 1 17,(2,.val .str),tI 3],[(0,.var gW (.cons (.val .str) (.cons vI (.cons (.val fJ) (.cons (.own 1) .nil))))),(1,.row 190 40 bA),(17,.var (.aP .ptr) (pP 0))],[]⟩
def s31:SS:=⟨44,84,[tP 1 17,(2,.val .str),tI 3,tI 9,tI 10],[(0,.var gW (.cons (.val .str) (.cons vI (.cons (.val fJ) (.cons (.own 1) .nil))))),(1,.row 190 40 bA),(17,.var (.aP .ptr) (pP 0))],[]⟩
def s32:SS:=⟨44,84,[],[(0,.var gW (.cons (.val .str) (.cons vI (.cons (.val fJ) (.cons (.own 59) .nil))))),(59,.row 190 40 bA)],[]⟩
def Gg:aX:=aE G [] 159 [pP 0] [(0,.var gW (.cons (.val .str) (.cons vI (.cons (.val fJ) (.cons (.own 1) .nil))))),(1,.row 190 40 bA)] 84 s32 [0,59] (.bC (u4 Gf))
theorem OF:hS Gg:=
 cO ⟨[hE 1 [cB 0 [(0,0),(1,17),(2,1)] []],hD 7 31 [],(8,⟨[],[],[],none,[(0,9999)],[],[]⟩),hE 10 [cB 1 [(0,0),(1,1)] [(34,59)]]],[(10,s30)],[],[(4,⟨s31,fun u3=>Int.toNat u3.2.2.1+1⟩)],[],[]⟩ (hq OE (hq zP hz)) aH Tryz.call159 Tryz.func159
def Gi(a0:Int)(a1:Zd)(a2:Int)(a3:gX)(a4:Zm):Option (Bool×ZE):=
 Option.bind (α:=Bool) (if 0≤a0 then(if a0<(256:Int) then(if(decide ((nth (.int .i64) a3 a0)=(2:Int)))=true then(some true) else(if 0≤a0 then(if a0<(256:Int) then(if(decide ((nth (.int .i64) a3 a0)=(3:Int)))=true then(some true) else(some (decide (a0=(95:Int))))) else none) else none)) else none) else none) fun v1=>some (v1,a1,a2,a3,a4)
def s33:SS:=⟨24,64,[(3,vB)],[(0,.var (.aP .ptr) (pP 1)),(1,.var gW (.cons (.val .str) (.cons vI (.cons (.val fJ) (.cons (.own 2) .nil))))),(2,.row 190 40 bA)],[]⟩
def OG:aX:=aE G [.tmp 3] 226 [.val (.int .u8),pP 0] [(0,.var (.aP .ptr) (pP 1)),(1,.var gW (.cons (.val .str) (.cons vI (.cons (.val fJ) (.cons (.own 2) .nil))))),(2,.row 190 40 bA)] 64 s33 [0,1,2] (.bC (u5 Gi))
theorem OH:hS OG:=
 cO (hR [hD 1 3 []]) hz aH Tryz.call226 Tryz.func226
def D2:Nat→Int×ZE→Option (cV (Int×ZE) (Zd×ZE)):=aM fun ahA ⟨f,g,h,i,j⟩=>if(decide (f<(List.length g:Int)))=true then(if 0≤f then(if f<(List.length g:Int) then(Option.bind (Gi (mI g f) g h i j) fun⟨a,b,c,d,e⟩=>if a=true then(ahA (bB (f+1),b,c,d,e)) else(some (.brk (f,b,c,d,e)))) else none) else none) else(some (.brk (f,g,h,i,j)))
def Gj(a0:Zd)(a1:Int)(a2:gX)(a3:Zm):Option (Zd×ZE):=
 aI (U:=Int×ZE) (D2 gn (a1,a0,a1,a2,a3)) fun⟨b,c,a,d,e⟩=>if 0≤a then(if a≤b then(if b≤(List.length c:Int) then(some (dG c (Int.toNat a) (Int.toNat b),c,a,d,e)) else none) else none) else none
def s34:SS:=⟨39,79,[tP 0 0,tI 5],[(0,.var gW (.cons (.val .str) (.cons vI (.cons (.val fJ) (.cons (.own 2) .nil))))),(1,.var (.aP .ptr) (pP 0)),(2,.row 190 40 bA)],[]⟩
def s35:SS:=⟨39,79,[tP 0 0,(1,.func 226 .nil (.cons (pP 1) .nil)),tI 5],[(0,.var gW (.cons (.val .str) (.cons vI (.cons (.val fJ) (.cons (.own 2) .nil))))),(1,.var (.aP .ptr) (pP 0)),(2,.row 190 40 bA)],[]⟩
def s36:SS:=⟨39,79,[(4,.val .str)],[(0,.var gW (.cons (.val .str) (.cons vI (.cons (.val fJ) (.cons (.own 2) .nil))))),(1,.var (.aP .ptr) (pP 0)),(2,.row 190 40 bA)],[]⟩
def OI:aX:=aE G [.tmp 4] 225 [pP 0,.func 226 .nil (.cons (pP 1) .nil)] [(0,.var gW (.cons (.val .str) (.cons vI (.cons (.val fJ) (.cons (.own 2) .nil))))),(1,.var (.aP .ptr) (pP 0)),(2,.row 190 40 bA)] 79 s36 [0,1,2] (.bC (u4 Gj))
theorem OJ:hS OI:=
 cO ⟨[hE 2 [cB 0 [(0,1),(1,0),(2,2)] []]],[(4,s34)],[],[(2,⟨s35,fun _=>gn⟩)],[],[]⟩ (hq OH hz) aH Tryz.call225 Tryz.func225
def Gk(a0:Zd)(a1:Int)(a2:gX)(a3:Zm):Option ZE:=
 Option.bind (Gj a0 a1 a2 a3) fun⟨a,b,c,d,e⟩=>if(decide ((32:Int)<(List.length a:Int)))=true then none else(Option.bind (tO (1,a,0,0,()) (List.length a:Int) b c d e) fun⟨f,g,h,i⟩=>some (f,g,h,i))
def s37:SS:=⟨20,60,[],[(0,.var gW (.cons (.val .str) (.cons vI (.cons (.val fJ) (.cons (.own 35) .nil))))),(35,.row 190 40 bA)],[]⟩
def Gl:aX:=aE G [] 158 [pP 0] [(0,.var gW (.cons (.val .str) (.cons vI (.cons (.val fJ) (.cons (.own 1) .nil))))),(1,.row 190 40 bA)] 60 s37 [0,35] (.bC (u4 Gk))
theorem OL:hS Gl:=
 cO (hR [hE 1 [cB 0 [(0,0),(1,17),(2,1)] []],(3,⟨[],[],[],none,[(0,9999)],[],[]⟩),hE 4 [cB 1 [(0,0),(1,1)] [(34,35)]]]) (hq OJ (hq zP hz)) aH Tryz.call158 Tryz.func158
def Gm(a0:Zd)(a1:Int)(a2:gX)(a3:Zm):Option ZE:=
 some (a0,bB (a1+1),a2,a3)
def s38:SS:=⟨9,49,[],[(0,.var gW (.cons (.val .str) (.cons vI (.cons (.val fJ) (.cons (.own 1) .nil))))),(1,.row 190 40 bA)],[]⟩
def Gn:aX:=aE G [] 157 [pP 0] [(0,.var gW (.cons (.val .str) (.cons vI (.cons (.val fJ) (.cons (.own 1) .nil))))),(1,.row 190 40 bA)] 49 s38 [0,1] (.bC (u4 Gm))
theorem ON:hS Gn:=
 cO (hR []) hz aH Tryz.call157 Tryz.func157
def Gp(_a0:Zd)(a1:Int)(_a2:gX)(_a3:Zm):Option (Sum (Int×Unit) ZE):=
 some (.inl (a1,()))
def s39:SS:=⟨7,47,[],[(0,.var gW (.cons (.val .str) (.cons vI (.cons (.val fJ) (.cons (.own 1) .nil))))),(1,.row 190 40 bA)],[]⟩
def Gq:aX:=aE G [] 156 [pP 0] [(0,.var gW (.cons (.val .str) (.cons vI (.cons (.val fJ) (.cons (.own 1) .nil))))),(1,.row 190 40 bA)] 47 s39 [0,1] (.j4 (.iface 277 vI) (fun d=>Gp d.1 d.2.1 d.2.2.1 d.2.2.2.1))
theorem OO:hS Gq:=
 aX.B1 tied (H:=⟨[],[],[],[],[],[]⟩) (hold (l:=[]) trivial) aH rfl Tryz.call156 Tryz.func156 rfl rfl rfl rfl (fun _=>by kernel_rfl) (fun _=>by kernel_rfl)
def BL(q0:Int):Option ZD:=
 some (q0,90)
def s40:SS:=⟨18,58,[],[(0,.var (.slice 40 bA) .aF),(1,bI),(2,bI)],[]⟩
def BM:eU:=⟨154,[.ptr 0 [],.ptr 1 [],.ptr 2 []],[(0,.var (.slice 40 bA) (.dU (.slice 40 bA))),(1,.var (.int .i64) (.dU (.int .i64))),(2,.var (.int .i64) (.dU (.int .i64)))],58,.iface 277 (.val (.int .i64)),s40,fun r=>pick [0,1,2] (SS.st s40 y0 r).hp,fun _=>none,fun _ q=>BL q.1⟩
theorem Ko:BM.holds Tryz.prog gl:=
 eU.B1 tied (H:=⟨[],[],[],[],[],[]⟩) (hold (l:=[]) trivial) rfl Tryz.call154 Tryz.func154 rfl rfl rfl rfl rfl rfl rfl rfl rfl rfl rfl rfl (fun _=>by kernel_rfl) (fun _ _=>by kernel_rfl)
def BO(a0:Int)(a1:Int)(a2:Zm):Option (Int×Int×Zm):=
 some (a0,a1,a2)
def s41:SS:=⟨18,58,[],[(0,.var (.slice 40 bA) (.own 3)),(1,bI),(2,bI),(3,.row 190 40 bA)],[]⟩
def BP:eU:=⟨154,[.ptr 0 [],.ptr 1 [],.ptr 2 []],[(0,.var (.slice 40 bA) (.own 3)),(1,.var (.int .i64) (.val (.int .i64))),(2,.var (.int .i64) (.val (.int .i64))),(3,.row 190 40 bA)],58,.hJ,s41,fun r=>pick [0,1,2,3] (SS.st s41 y0 r).hp,fun d=>BO d.1 d.2.1 d.2.2.1,fun _ _=>none⟩
theorem Kp:BP.holds Tryz.prog gl:=
 eU.WJ tied (H:=⟨[],[],[],[],[],[]⟩) (hold (l:=[]) trivial) rfl Tryz.call154 Tryz.func154 rfl rfl rfl rfl rfl rfl rfl rfl rfl rfl rfl rfl (fun _=>by kernel_rfl) (fun _=>by kernel_rfl)
def R9:Nat→Zd×Int×Int×ZE→Option (cV (Int×Int×ZE) (Zm×ZD)):=aM fun ahZ ⟨x,ab,ac,z,w,y,aa⟩=>if(decide (w<(List.length x:Int)))=true then(if 0≤w then(if w<(List.length x:Int) then(if 0≤(mI x w) then(if(mI x w)<(256:Int) then(if 0≤(nth (.int .i64) y (mI x w)) then(if(nth (.int .i64) y (mI x w))<(5:Int) then(if nth (.int .i64) y (mI x w)=(0:Int) then(dV (Gp z w y aa) (fun p10=>cw (Option.bind (BL p10.1) fun⟨a,b⟩=>some (([]:Zm),a,b))) fun⟨c,d,e,f⟩=>ahZ (x,ab,ac,c,d,e,f)) else(if nth (.int .i64) y (mI x w)=(1:Int) then(Option.bind (Gm z w y aa) fun⟨g,h,i,j⟩=>ahZ (x,ab,ac,g,h,i,j)) else(if nth (.int .i64) y (mI x w)=(2:Int) then(Option.bind (Gk z w y aa) fun⟨k,l,m,n⟩=>ahZ (x,ab,ac,k,l,m,n)) else(if nth (.int .i64) y (mI x w)=(3:Int) then(Option.bind (Gf z w y aa) fun⟨o,p,q,r⟩=>ahZ (x,ab,ac,o,p,q,r)) else(if nth (.int .i64) y (mI x w)=(4:Int) then(Option.bind (Ga z w y aa) fun⟨s,t,u,v⟩=>ahZ (x,ab,ac,s,t,u,v)) else none))))) else none) else none) else none) else none) else none) else none) else(some (.brk (ab,ac,z,w,y,aa)))
def f81(a0:Zd):Option (Zm×ZD):=
 if(decide ((65536:Int)<(List.length a0:Int)))=true then(some (([]:Zm),0,2)) else(Option.bind (f155) fun y1=>aI (U:=Int×Int×ZE) (R9 gn (a0,0,0,a0,0,y1,([]:Zm))) fun⟨_,_,_,_,_,a⟩=>Option.bind (BO (0:Int) (0:Int) a) fun⟨c,d,b⟩=>some (b,c,d))
def s42:SS:=⟨51,91,[tP 2 18,tP 3 19,tP 4 20,tP 5 30],[(18,.var (.slice 40 bA) .aF),(19,bI),(20,bI),(30,.var gW (.cons (.val .str) (.cons vI (.cons (.val fJ) (.cons (.own 70) .nil))))),(70,.row 190 40 bA)],[.func 154 .nil (.cons (pP 18) (.cons (pP 19) (.cons (pP 20) .nil)))]⟩
def s43:SS:=⟨51,91,[(0,.val .str),tP 2 18,tP 3 19,tP 4 20,tP 5 30,tP 6 22],[(18,.var (.slice 40 bA) .aF),(19,bI),(20,bI),(22,.var (.fns 5) (.cons (.func 156 (.cons (pP 30) .nil) .nil) (.cons (.func 157 (.cons (pP 30) .nil) .nil) (.cons (.func 158 (.cons (pP 30) .nil) .nil) (.cons (.func 159 (.cons (pP 30) .nil) .nil) (.cons (.func 160 (.cons (pP 30) .nil) .nil) .nil)))))),(30,.var gW (.cons (.val .str) (.cons vI (.cons (.val fJ) (.cons (.own 69) .nil))))),(69,.row 190 40 bA)],[.func 154 .nil (.cons (pP 18) (.cons (pP 19) (.cons (pP 20) .nil)))]⟩
def s44:SS:=⟨51,91,[tP 2 18,tP 3 19,tP 4 20],[(18,.var (.slice 40 bA) (.val (.slice 40 bA))),(19,bI),(20,bI)],[]⟩
def c81:aX:=aE G [.cell 2 178,.cell 3 3,.cell 4 38] 81 [.val .str] [] 91 s44 [] (.bC (u1 f81))
theorem x81:hS c81:=
 aX.WK tied (H:=⟨[hA 4 0,hE 7 [⟨[1,2,3,4,5],[(0,30),(1,69)],[(54,62),(59,67),(35,68)],[],[]⟩]],[(8,s42)],[],[(6,⟨s43,fun _=>gn⟩)],[],[]⟩) (hold (l:=[UK,Gb,Gg,Gl,Gn,Gq]) ⟨adQ,OA,OF,OL,ON,OO,trivial⟩) (C:=BP) Kp (ps:=[(0,18),(1,19),(2,20),(3,70)]) (D:=BM) Ko (qs:=[(0,18),(1,19),(2,20)]) (jk:=[18,19,20]) rfl Tryz.call81 Tryz.func81 rfl rfl rfl rfl (fun _=>by kernel_rfl) (fun _=>by kernel_rfl)
def f232(a0:SP)(a1:Int):Zo:=
 Option.bind (α:=Bool) (if(decide (a0.1≤a1))=true then(some (decide (a1≤a0.2.1))) else(some false)) fun v1=>some v1
def s63:SS:=⟨15,55,[(4,vB)],[],[]⟩
def adV:aX:=aE G [.tmp 4] 232 [.val AU,vI] [] 55 s63 [] (.bC (u2 f232))
theorem adW:hS adV:=
 cO (hR [hD 1 4 []]) hz aH Tryz.call232 Tryz.func232
end Go.Proofs.YtaghhonjcdokjaaGreatDoor
