/- part -/
import Derived.Test.YtpmlkhjpbjnagaaGreatBase
noncomputable section
namespace Go.Proofs.YtpmlkhjpbjnagaaGreat
open Go.Ax
def f18:Option bz:=
 aI (U:=ZM×ZG) (some (.brk ([[105]],[([97],[105],0,1,[([115,101,108,102],(3,0,4095,[],(-1:Int),([]:ZM),()),Ty.aD Em,()),([110],(1,0,9,[],(-1:Int),([]:ZM),()),Ty.aD Em,())],([]:GH),()),([98],[105],0,1,[([115,101,108,102],(3,0,4095,[],(-1:Int),([]:ZM),()),Ty.aD Em,()),([110],(1,0,9,[],(-1:Int),([]:ZM),()),Ty.aD Em,())],([]:GH),())]))) fun⟨a,b⟩=>aI (U:=ZM×ZG×Zo) (some (.brk (a,b,[([97],0,[([120],[98],1,([],[],(-1:Int),0,0,()),())],([]:ZB),[([110],1,([120],[110],0,1,0,()),())],())]))) fun⟨c,d,e⟩=>some (((c,([]:Zw),d,e,([]:ZJ),([]:ZE),()),[(1:Int),(0:Int)],()),[((1,3,1,()),4,(0,1024,()),2,0,()),((1,3,1,()),5,(0,1024,()),9,0,())],())
def s1:SS:=⟨43,83,[tP 0 16,tP 3 19],[(16,.var fI (.cons (.cons (.cons .bn (.cons .bn (.cons .bn (.cons .bn (.cons .bn (.cons .bn .nil)))))) (.cons .bn .nil)) (.cons .bn .nil))),(19,.var iN (.cons (.own 26) (.cons .bn (.cons (.own 35) (.cons .bn (.cons .bn (.cons .bn .nil))))))),(26,.row 9 16 .str),(35,.row 126 96 bF)],[]⟩
def s2:SS:=⟨43,83,[tP 0 16,tP 3 19],[(16,.var fI (.cons (.cons (.cons .bn (.cons .bn (.cons .bn (.cons .bn (.cons .bn (.cons .bn .nil)))))) (.cons .bn .nil)) (.cons .bn .nil))),(19,.var iN (.cons (.own 26) (.cons .bn (.cons (.own 35) (.cons (.own 44) (.cons .bn (.cons .bn .nil))))))),(26,.row 9 16 .str),(35,.row 126 96 bF),(44,.row 137 96 bG)],[]⟩
def s3:SS:=⟨43,83,[tP 0 16],[(16,bV fI)],[]⟩
def c18:bh:=aF G [.cell 0 35] 18 [] [] 83 s3 [] (.br (fun _=>f18))
theorem x18:hS c18:=
 cO ⟨[(3,⟨[],[(9,14,bF),(9,18,bF)],[],none,[],[],[]⟩),(4,⟨[],[(7,27,bG)],[],none,[],[],[]⟩)],[(4,s1),(5,s2)],[],[],[],[]⟩ hz aJ Tryz.call18 Tryz.func18
def f223(a0:Zi):Option Zi:=
 some a0
def s4:SS:=⟨4,44,[(2,.val .str)],[],[]⟩
def agT:bh:=aF G [.tmp 2] 223 [.val .str] [] 44 s4 [] (.br (u1 f223))
theorem agU:hS agT:=
 cO (hR []) hz aJ Tryz.call223 Tryz.func223
def Gy:Nat→Bool×ZM×Int×Int×Zq→W6:=aL fun amC ⟨e,c,b,a,d⟩=>if decide (a<b) then(if 0≤a then(if a<(c.length:Int) then((f223 (nth .str c a)).bind fun y4=>if(bT .str y4 d)=true then(amC (true,c,b,bq (a+1),d)) else((f223 (nth .str c a)).bind fun y5=>if d.length+1≤aH then(amC (e,c,b,bq (a+1),aZ .str y5 a d)) else none)) else none) else none) else(some (.brk (e,d)))
def BJ(a0:ZM):Option (Za×Bool):=
 aI (U:=Bool×Zq) (Gy (Int.toNat (a0.length:Int)+1) (false,a0,(a0.length:Int),0,([]:Zq))) fun⟨b,a⟩=>some (some a,b)
def s5:SS:=⟨37,77,[(4,.mp 28),(5,vB)],[(28,.map .str (.int .i64))],[]⟩
def s6:SS:=⟨37,77,[(1,.func 223 .nil .nil),(4,.mp 28),(5,vB),(13,.val (.slice 16 .str)),tI 14,tI 15],[(28,.map .str (.int .i64))],[]⟩
def s7:SS:=⟨37,77,[(4,vM),(5,vB)],[],[]⟩
def Rh:bh:=aF G [.tmp 4,.tmp 5] 222 [.val (.slice 16 .str),.func 223 .nil .nil] [] 77 s7 [] (.br (u1 BJ))
theorem Rj:hS Rh:=
 cO ⟨[hA 5 0,hA 8 0],[(10,s5)],[],[(3,⟨s6,fun u2=>Int.toNat u2.2.2.1+1⟩)],[],[]⟩ (hq agU hz) aJ Tryz.call222 Tryz.func222
def f225(a0:gU):Option Zi:=
 some a0.1
def s8:SS:=⟨5,45,[(2,.val .str)],[],[]⟩
def agV:bh:=aF G [.tmp 2] 225 [.val aU] [] 45 s8 [] (.br (u1 f225))
theorem agW:hS agV:=
 cO (hR []) hz aJ Tryz.call225 Tryz.func225
def Gz:Nat→Bool×Zw×Int×Int×Zq→W6:=aL fun amC ⟨e,c,b,a,d⟩=>if decide (a<b) then(if 0≤a then(if a<(c.length:Int) then((f225 (nth aU c a)).bind fun y4=>if(bT .str y4 d)=true then(amC (true,c,b,bq (a+1),d)) else((f225 (nth aU c a)).bind fun y5=>if d.length+1≤aH then(amC (e,c,b,bq (a+1),aZ .str y5 a d)) else none)) else none) else none) else(some (.brk (e,d)))
def BK(a0:Zw):Option (Za×Bool):=
 aI (U:=Bool×Zq) (Gz (Int.toNat (a0.length:Int)+1) (false,a0,(a0.length:Int),0,([]:Zq))) fun⟨b,a⟩=>some (some a,b)
def s9:SS:=⟨37,77,[(4,.mp 28),(5,vB)],[(28,.map .str (.int .i64))],[]⟩
def s10:SS:=⟨37,77,[(1,.func 225 .nil .nil),(4,.mp 28),(5,vB),(13,.val (.slice 56 aU)),tI 14,tI 15],[(28,.map .str (.int .i64))],[]⟩
def s11:SS:=⟨37,77,[(4,vM),(5,vB)],[],[]⟩
def Rk:bh:=aF G [.tmp 4,.tmp 5] 224 [.val (.slice 56 aU),.func 225 .nil .nil] [] 77 s11 [] (.br (u1 BK))
theorem Rl:hS Rk:=
 cO ⟨[hA 5 0,hA 8 0],[(10,s9)],[],[(3,⟨s10,fun u2=>Int.toNat u2.2.2.1+1⟩)],[],[]⟩ (hq agW hz) aJ Tryz.call224 Tryz.func224
def f227(a0:l6):Option Zi:=
 some a0.1
def s12:SS:=⟨5,45,[(2,.val .str)],[],[]⟩
def agX:bh:=aF G [.tmp 2] 227 [.val bF] [] 45 s12 [] (.br (u1 f227))
theorem agY:hS agX:=
 cO (hR []) hz aJ Tryz.call227 Tryz.func227
def GA:Nat→Bool×ZG×Int×Int×Zq→W6:=aL fun amC ⟨e,c,b,a,d⟩=>if decide (a<b) then(if 0≤a then(if a<(c.length:Int) then((f227 (nth bF c a)).bind fun y4=>if(bT .str y4 d)=true then(amC (true,c,b,bq (a+1),d)) else((f227 (nth bF c a)).bind fun y5=>if d.length+1≤aH then(amC (e,c,b,bq (a+1),aZ .str y5 a d)) else none)) else none) else none) else(some (.brk (e,d)))
def BL(a0:ZG):Option (Za×Bool):=
 aI (U:=Bool×Zq) (GA (Int.toNat (a0.length:Int)+1) (false,a0,(a0.length:Int),0,([]:Zq))) fun⟨b,a⟩=>some (some a,b)
def s13:SS:=⟨37,77,[(4,.mp 28),(5,vB)],[(28,.map .str (.int .i64))],[]⟩
def s14:SS:=⟨37,77,[(1,.func 227 .nil .nil),(4,.mp 28),(5,vB),(13,.val (.slice 96 bF)),tI 14,tI 15],[(28,.map .str (.int .i64))],[]⟩
def s15:SS:=⟨37,77,[(4,vM),(5,vB)],[],[]⟩
def Rm:bh:=aF G [.tmp 4,.tmp 5] 226 [.val (.slice 96 bF),.func 227 .nil .nil] [] 77 s15 [] (.br (u1 BL))
theorem Ro:hS Rm:=
 cO ⟨[hA 5 0,hA 8 0],[(10,s13)],[],[(3,⟨s14,fun u2=>Int.toNat u2.2.2.1+1⟩)],[],[]⟩ (hq agY hz) aJ Tryz.call226 Tryz.func226
def f229(a0:oP):Option Zi:=
 some a0.1
def s16:SS:=⟨5,45,[(2,.val .str)],[],[]⟩
def agZ:bh:=aF G [.tmp 2] 229 [.val dL] [] 45 s16 [] (.br (u1 f229))
theorem ag0:hS agZ:=
 cO (hR []) hz aJ Tryz.call229 Tryz.func229
def GB:Nat→Bool×ZE×Int×Int×Zq→W6:=aL fun amC ⟨e,c,b,a,d⟩=>if decide (a<b) then(if 0≤a then(if a<(c.length:Int) then((f229 (nth dL c a)).bind fun y4=>if(bT .str y4 d)=true then(amC (true,c,b,bq (a+1),d)) else((f229 (nth dL c a)).bind fun y5=>if d.length+1≤aH then(amC (e,c,b,bq (a+1),aZ .str y5 a d)) else none)) else none) else none) else(some (.brk (e,d)))
def BM(a0:ZE):Option (Za×Bool):=
 aI (U:=Bool×Zq) (GB (Int.toNat (a0.length:Int)+1) (false,a0,(a0.length:Int),0,([]:Zq))) fun⟨b,a⟩=>some (some a,b)
def s17:SS:=⟨37,77,[(4,.mp 28),(5,vB)],[(28,.map .str (.int .i64))],[]⟩
def s18:SS:=⟨37,77,[(1,.func 229 .nil .nil),(4,.mp 28),(5,vB),(13,.val (.slice 48 dL)),tI 14,tI 15],[(28,.map .str (.int .i64))],[]⟩
def s19:SS:=⟨37,77,[(4,vM),(5,vB)],[],[]⟩
def Rp:bh:=aF G [.tmp 4,.tmp 5] 228 [.val (.slice 48 dL),.func 229 .nil .nil] [] 77 s19 [] (.br (u1 BM))
theorem Rq:hS Rp:=
 cO ⟨[hA 5 0,hA 8 0],[(10,s17)],[],[(3,⟨s18,fun u2=>Int.toNat u2.2.2.1+1⟩)],[],[]⟩ (hq ag0 hz) aJ Tryz.call228 Tryz.func228
def f231(a0:J3):Option Zi:=
 some a0.1
def s20:SS:=⟨5,45,[(2,.val .str)],[],[]⟩
def ag1:bh:=aF G [.tmp 2] 231 [.val bP] [] 45 s20 [] (.br (u1 f231))
theorem ag2:hS ag1:=
 cO (hR []) hz aJ Tryz.call231 Tryz.func231
def GC:Nat→Bool×ZH×Int×Int×Zq→W6:=aL fun amC ⟨e,c,b,a,d⟩=>if decide (a<b) then(if 0≤a then(if a<(c.length:Int) then((f231 (nth bP c a)).bind fun y4=>if(bT .str y4 d)=true then(amC (true,c,b,bq (a+1),d)) else((f231 (nth bP c a)).bind fun y5=>if d.length+1≤aH then(amC (e,c,b,bq (a+1),aZ .str y5 a d)) else none)) else none) else none) else(some (.brk (e,d)))
def BN(a0:ZH):Option (Za×Bool):=
 aI (U:=Bool×Zq) (GC (Int.toNat (a0.length:Int)+1) (false,a0,(a0.length:Int),0,([]:Zq))) fun⟨b,a⟩=>some (some a,b)
def s21:SS:=⟨37,77,[(4,.mp 28),(5,vB)],[(28,.map .str (.int .i64))],[]⟩
def s22:SS:=⟨37,77,[(1,.func 231 .nil .nil),(4,.mp 28),(5,vB),(13,.val (.slice 120 bP)),tI 14,tI 15],[(28,.map .str (.int .i64))],[]⟩
def s23:SS:=⟨37,77,[(4,vM),(5,vB)],[],[]⟩
def Rr:bh:=aF G [.tmp 4,.tmp 5] 230 [.val (.slice 120 bP),.func 231 .nil .nil] [] 77 s23 [] (.br (u1 BN))
theorem Rt:hS Rr:=
 cO ⟨[hA 5 0,hA 8 0],[(10,s21)],[],[(3,⟨s22,fun u2=>Int.toNat u2.2.2.1+1⟩)],[],[]⟩ (hq ag2 hz) aJ Tryz.call230 Tryz.func230
def f233(a0:B1):Option Zi:=
 some a0.1
def s24:SS:=⟨5,45,[(2,.val .str)],[],[]⟩
def ag3:bh:=aF G [.tmp 2] 233 [.val aQ] [] 45 s24 [] (.br (u1 f233))
theorem ag4:hS ag3:=
 cO (hR []) hz aJ Tryz.call233 Tryz.func233
def GD:Nat→Bool×Zy×Int×Int×Zq→W6:=aL fun amC ⟨e,c,b,a,d⟩=>if decide (a<b) then(if 0≤a then(if a<(c.length:Int) then((f233 (nth aQ c a)).bind fun y4=>if(bT .str y4 d)=true then(amC (true,c,b,bq (a+1),d)) else((f233 (nth aQ c a)).bind fun y5=>if d.length+1≤aH then(amC (e,c,b,bq (a+1),aZ .str y5 a d)) else none)) else none) else none) else(some (.brk (e,d)))
def BO(a0:Zy):Option (Za×Bool):=
 aI (U:=Bool×Zq) (GD (Int.toNat (a0.length:Int)+1) (false,a0,(a0.length:Int),0,([]:Zq))) fun⟨b,a⟩=>some (some a,b)
def s25:SS:=⟨37,77,[(4,.mp 28),(5,vB)],[(28,.map .str (.int .i64))],[]⟩
def s26:SS:=⟨37,77,[(1,.func 233 .nil .nil),(4,.mp 28),(5,vB),(13,.val (.slice 96 aQ)),tI 14,tI 15],[(28,.map .str (.int .i64))],[]⟩
def s27:SS:=⟨37,77,[(4,vM),(5,vB)],[],[]⟩
def Rv:bh:=aF G [.tmp 4,.tmp 5] 232 [.val (.slice 96 aQ),.func 233 .nil .nil] [] 77 s27 [] (.br (u1 BO))
theorem Rw:hS Rv:=
 cO ⟨[hA 5 0,hA 8 0],[(10,s25)],[],[(3,⟨s26,fun u2=>Int.toNat u2.2.2.1+1⟩)],[],[]⟩ (hq ag4 hz) aJ Tryz.call232 Tryz.func232
def kj:Nat→Bool×ZG×Int×Int×cu×Sk→Option (cL (Bool×cu×Sk) (Bool×Sk)):=aL fun rec10 ⟨g,e,d,c,h,i,j,k,f⟩=>if decide (c<d) then(if 0≤c then(if c<(e.length:Int) then((BN (nth bF e c).2.2.2.2.1).bind fun⟨a,b⟩=>if(List.length f+List.length [a])*8≤aH then(Option.bind (α:=Bool) (if g=true then(some true) else(some b)) fun v12=>rec10 (v12,e,d,bq (c+1),h,i,j,k,f++[a])) else none) else none) else none) else(some (.brk (g,h,i,j,k,f)))
def ko:Nat→Bool×Zo×Int×Int×Sk→Option (cL (Bool×Sk) (Bool×Sk)):=aL fun rec15 ⟨e,d,c,b,f,g,h,i⟩=>if decide (b<c) then(if 0≤b then(if b<(d.length:Int) then((BO (nth bG d b).2.2.1).bind fun⟨_,a⟩=>Option.bind (α:=Bool) (if e=true then(some true) else(some a)) fun v17=>rec15 (v17,d,c,bq (b+1),f,g,h,i)) else none) else none) else(some (.brk (e,f,g,h,i)))
def vD(a0:cu):Option (Bool×Sk):=
 (BJ a0.1).bind fun⟨b,a⟩=>(BK a0.2.1).bind fun⟨d,c⟩=>Option.bind (α:=Bool) (if a=true then(some true) else(some c)) fun v3=>(BL a0.2.2.1).bind fun⟨f,e⟩=>Option.bind (α:=Bool) (if v3=true then(some true) else(some e)) fun v5=>(BM a0.2.2.2.2.2.1).bind fun⟨_,g⟩=>Option.bind (α:=Bool) (if v5=true then(some true) else(some g)) fun v7=>aI (U:=Bool×cu×Sk) (kj (Int.toNat (a0.2.2.1.length:Int)+1) (v7,a0.2.2.1,(a0.2.2.1.length:Int),0,a0,b,d,f,([]:Zx))) fun⟨i,h,j,k,l,m⟩=>aI (U:=Bool×Sk) (ko (Int.toNat (h.2.2.2.1.length:Int)+1) (i,h.2.2.2.1,(h.2.2.2.1.length:Int),0,j,k,l,m)) fun⟨n,o,p,q,r⟩=>some (n,o,p,q,r)
def s28:SS:=⟨108,148,[tP 1 17,tP 2 30,(3,vB)],[(17,bV iN),(30,rB 125),(125,.row 306 8 (.map .str (.int .i64)))],[]⟩
def YK:List (Nat×de):=[(30,rB 125),(125,.row 306 8 (.map .str (.int .i64)))]
def s29:SS:=⟨108,148,[tP 2 30,(3,vB)],YK,[]⟩
def s30:SS:=⟨108,148,[tP 1 17,tP 2 30,(3,vB),(61,.val (.slice 96 bF)),tI 62,tI 63],[(17,bV iN),(30,rB 124),(124,.row 306 8 (.map .str (.int .i64)))],[]⟩
def s31:SS:=⟨108,148,[tP 2 30,(3,vB),(89,.val (.slice 96 bG)),tI 90,tI 91],YK,[]⟩
def IJ:bh:=aF G [.tmp 2,.tmp 3] 170 [.val iN] [] 148 s29 [30,125] (.br (u1 vD))
theorem Rx:hS IJ:=
 cO ⟨[hA 3 0,hA 4 1,hD 5 3 [],hA 6 2,hD 7 3 [],hA 8 3,hD 9 3 [],hA 13 4,hD 15 3 [],hA 20 5,hD 21 3 []],[(17,s28),(23,s29)],[],[(11,⟨s30,fun u9=>Int.toNat u9.2.2.1+1⟩),(18,⟨s31,fun Vf=>Int.toNat Vf.2.2.1+1⟩)],[],[]⟩ (hq Rj (hq Rl (hq Ro (hq Rq (hq Rt (hq Rw hz)))))) aJ Tryz.call170 Tryz.func170
def BP(a0:ZM):Option ZM:=
 if(List.length ([]:ZM)+a0.length)*16≤aH then some a0 else none
def s32:SS:=⟨8,48,[(2,.own 23)],[(23,.row 9 16 .str)],[]⟩
def IK:bh:=aF G [.tmp 2] 172 [.val (.slice 16 .str)] [] 48 s32 [23] (.br (u1 BP))
theorem Ry:hS IK:=
 bh.kX tied (H:=⟨[],[],[],[],[],[]⟩) (hold (l:=[]) trivial) rfl (.tmp 0) 3 4 22 22 9 16 .str (fun d=>d.1) (fun d=>⟨(.val (.slice 16 .str) d.1)::.bot::.bn::List.replicate 5 .bot,List.replicate 48 none,[]⟩) Tryz.call172 Tryz.func172 rfl rfl rfl rfl rfl rfl rfl rfl rfl rfl (by kernel_rfl) (fun _=>by kernel_rfl) (fun _=>by kernel_rfl) (fun _=>rfl) (fun _=>by kernel_rfl) (fun _ _=>by kernel_rfl) (fun d h=>by obtain⟨x,y⟩:=d;cases(h:x= []);kernel_rfl) (fun _=>by kernel_rfl)
def BQ(a0:Zw):Option Zw:=
 if(List.length ([]:Zw)+a0.length)*56≤aH then some a0 else none
def s33:SS:=⟨8,48,[(2,.own 23)],[(23,.row 241 56 aU)],[]⟩
def IL:bh:=aF G [.tmp 2] 173 [.val (.slice 56 aU)] [] 48 s33 [23] (.br (u1 BQ))
theorem Rz:hS IL:=
 bh.kX tied (H:=⟨[],[],[],[],[],[]⟩) (hold (l:=[]) trivial) rfl (.tmp 0) 3 4 23 23 241 56 aU (fun d=>d.1) (fun d=>⟨(.val (.slice 56 aU) d.1)::.bot::.bn::List.replicate 5 .bot,List.replicate 48 none,[]⟩) Tryz.call173 Tryz.func173 rfl rfl rfl rfl rfl rfl rfl rfl rfl rfl (by kernel_rfl) (fun _=>by kernel_rfl) (fun _=>by kernel_rfl) (fun _=>rfl) (fun _=>by kernel_rfl) (fun _ _=>by kernel_rfl) (fun d h=>by obtain⟨x,y⟩:=d;cases(h:x= []);kernel_rfl) (fun _=>by kernel_rfl)
def BR(a0:ZG):Option ZG:=
 if(List.length ([]:ZG)+a0.length)*96≤aH then some a0 else none
def s34:SS:=⟨8,48,[(2,.own 23)],[(23,.row 126 96 bF)],[]⟩
def IM:bh:=aF G [.tmp 2] 174 [.val (.slice 96 bF)] [] 48 s34 [23] (.br (u1 BR))
theorem RA:hS IM:=
 bh.kX tied (H:=⟨[],[],[],[],[],[]⟩) (hold (l:=[]) trivial) rfl (.tmp 0) 3 4 24 24 126 96 bF (fun d=>d.1) (fun d=>⟨(.val (.slice 96 bF) d.1)::.bot::.bn::List.replicate 5 .bot,List.replicate 48 none,[]⟩) Tryz.call174 Tryz.func174 rfl rfl rfl rfl rfl rfl rfl rfl rfl rfl (by kernel_rfl) (fun _=>by kernel_rfl) (fun _=>by kernel_rfl) (fun _=>rfl) (fun _=>by kernel_rfl) (fun _ _=>by kernel_rfl) (fun d h=>by obtain⟨x,y⟩:=d;cases(h:x= []);kernel_rfl) (fun _=>by kernel_rfl)
def BT(a0:Zo):Option Zo:=
 if(List.length ([]:Zo)+a0.length)*96≤aH then some a0 else none
def s35:SS:=⟨8,48,[(2,.own 23)],[(23,.row 137 96 bG)],[]⟩
def IN:bh:=aF G [.tmp 2] 175 [.val (.slice 96 bG)] [] 48 s35 [23] (.br (u1 BT))
theorem RE:hS IN:=
 bh.kX tied (H:=⟨[],[],[],[],[],[]⟩) (hold (l:=[]) trivial) rfl (.tmp 0) 3 4 25 25 137 96 bG (fun d=>d.1) (fun d=>⟨(.val (.slice 96 bG) d.1)::.bot::.bn::List.replicate 5 .bot,List.replicate 48 none,[]⟩) Tryz.call175 Tryz.func175 rfl rfl rfl rfl rfl rfl rfl rfl rfl rfl (by kernel_rfl) (fun _=>by kernel_rfl) (fun _=>by kernel_rfl) (fun _=>rfl) (fun _=>by kernel_rfl) (fun _ _=>by kernel_rfl) (fun d h=>by obtain⟨x,y⟩:=d;cases(h:x= []);kernel_rfl) (fun _=>by kernel_rfl)
def BU(a0:ZJ):Option ZJ:=
 if(List.length ([]:ZJ)+a0.length)*72≤aH then some a0 else none
def s36:SS:=⟨8,48,[(2,.own 23)],[(23,.row 256 72 gA)],[]⟩
def IP:bh:=aF G [.tmp 2] 176 [.val (.slice 72 gA)] [] 48 s36 [23] (.br (u1 BU))
theorem RI:hS IP:=
 bh.kX tied (H:=⟨[],[],[],[],[],[]⟩) (hold (l:=[]) trivial) rfl (.tmp 0) 3 4 26 26 256 72 gA (fun d=>d.1) (fun d=>⟨(.val (.slice 72 gA) d.1)::.bot::.bn::List.replicate 5 .bot,List.replicate 48 none,[]⟩) Tryz.call176 Tryz.func176 rfl rfl rfl rfl rfl rfl rfl rfl rfl rfl (by kernel_rfl) (fun _=>by kernel_rfl) (fun _=>by kernel_rfl) (fun _=>rfl) (fun _=>by kernel_rfl) (fun _ _=>by kernel_rfl) (fun d h=>by obtain⟨x,y⟩:=d;cases(h:x= []);kernel_rfl) (fun _=>by kernel_rfl)
def BV(a0:ZE):Option ZE:=
 if(List.length ([]:ZE)+a0.length)*48≤aH then some a0 else none
def s37:SS:=⟨8,48,[(2,.own 23)],[(23,.row 249 48 dL)],[]⟩
def IQ:bh:=aF G [.tmp 2] 177 [.val (.slice 48 dL)] [] 48 s37 [23] (.br (u1 BV))
theorem RJ:hS IQ:=
 bh.kX tied (H:=⟨[],[],[],[],[],[]⟩) (hold (l:=[]) trivial) rfl (.tmp 0) 3 4 27 27 249 48 dL (fun d=>d.1) (fun d=>⟨(.val (.slice 48 dL) d.1)::.bot::.bn::List.replicate 5 .bot,List.replicate 48 none,[]⟩) Tryz.call177 Tryz.func177 rfl rfl rfl rfl rfl rfl rfl rfl rfl rfl (by kernel_rfl) (fun _=>by kernel_rfl) (fun _=>by kernel_rfl) (fun _=>rfl) (fun _=>by kernel_rfl) (fun _ _=>by kernel_rfl) (fun d h=>by obtain⟨x,y⟩:=d;cases(h:x= []);kernel_rfl) (fun _=>by kernel_rfl)
def f234(a0:Za)(a1:Zi):Option (Sum ZX Int):=
 if !(bT .str a1 (aX a0)) then(some (.inl ((),()))) else(some (.inr (aP .str (.int .i64) a1 (aX a0))))
def s38:SS:=⟨18,58,[tI 4],[],[]⟩
def yp:bh:=aF G [.tmp 4] 234 [vM,.val .str] [] 58 s38 [] (.kC (.iface 295 (.val .unit)) (u2 f234))
theorem BW:hS yp:=
 bh.Kp tied (H:=⟨[],[],[],[],[],[]⟩) (hold (l:=[]) trivial) aJ rfl Tryz.call234 Tryz.func234 rfl rfl rfl rfl (fun _=>by kernel_rfl) (fun _=>by kernel_rfl)
def xJ:Nat→Int×Int×Vg→Option (cL Vg (Sum ZX Vg)):=aL fun amC ⟨t,s,v,w,x,u,y⟩=>if decide (s<t) then(if 0≤s then(if s<(u.length:Int) then(if decide ((nth aU u s).2.1= []) then(amC (t,bq (s+1),v,w,x,List.set (List.set u (Int.toNat s) ((nth aU u s).1,(nth aU u s).2.1,(nth aU u s).2.2.1,s,(nth aU u s).2.2.2.2)) (Int.toNat s) ((nth aU (List.set u (Int.toNat s) ((nth aU u s).1,(nth aU u s).2.1,(nth aU u s).2.2.1,s,(nth aU u s).2.2.2.2)) s).1,(nth aU (List.set u (Int.toNat s) ((nth aU u s).1,(nth aU u s).2.1,(nth aU u s).2.2.1,s,(nth aU u s).2.2.2.2)) s).2.1,(nth aU (List.set u (Int.toNat s) ((nth aU u s).1,(nth aU u s).2.1,(nth aU u s).2.2.1,s,(nth aU u s).2.2.2.2)) s).2.2.1,(nth aU (List.set u (Int.toNat s) ((nth aU u s).1,(nth aU u s).2.1,(nth aU u s).2.2.1,s,(nth aU u s).2.2.2.2)) s).2.2.2.1,1,(nth aU (List.set u (Int.toNat s) ((nth aU u s).1,(nth aU u s).2.1,(nth aU u s).2.2.1,s,(nth aU u s).2.2.2.2)) s).2.2.2.2.2),y)) else(fh (f234 w (nth aU u s).2.1) (fun p8=>bU (some (.inl (p8.1,())))) fun y4=>aI (U:=Nat×Int×Int×Int×Vg) (if decide (s≤y4) then(bU (bU (some (.inl ((),()))))) else(some (.brk (Int.toNat s,y4,t,s,v,w,x,u,y)))) fun⟨c,a,d,e,f,g,h,b,i⟩=>aI (U:=Nat×Int×Int×Int×Vg) (if 0≤a then(if a<(b.length:Int) then(some (.brk (c,a,d,e,f,g,h,List.set (List.set b c ((List.getD b c (Ty.aD aU)).1,(List.getD b c (Ty.aD aU)).2.1,(List.getD b c (Ty.aD aU)).2.2.1,(nth aU b a).2.2.2.1,(List.getD b c (Ty.aD aU)).2.2.2.2)) c ((List.getD (List.set b c ((List.getD b c (Ty.aD aU)).1,(List.getD b c (Ty.aD aU)).2.1,(List.getD b c (Ty.aD aU)).2.2.1,(nth aU b a).2.2.2.1,(List.getD b c (Ty.aD aU)).2.2.2.2)) c (Ty.aD aU)).1,(List.getD (List.set b c ((List.getD b c (Ty.aD aU)).1,(List.getD b c (Ty.aD aU)).2.1,(List.getD b c (Ty.aD aU)).2.2.1,(nth aU b a).2.2.2.1,(List.getD b c (Ty.aD aU)).2.2.2.2)) c (Ty.aD aU)).2.1,(List.getD (List.set b c ((List.getD b c (Ty.aD aU)).1,(List.getD b c (Ty.aD aU)).2.1,(List.getD b c (Ty.aD aU)).2.2.1,(nth aU b a).2.2.2.1,(List.getD b c (Ty.aD aU)).2.2.2.2)) c (Ty.aD aU)).2.2.1,(List.getD (List.set b c ((List.getD b c (Ty.aD aU)).1,(List.getD b c (Ty.aD aU)).2.1,(List.getD b c (Ty.aD aU)).2.2.1,(nth aU b a).2.2.2.1,(List.getD b c (Ty.aD aU)).2.2.2.2)) c (Ty.aD aU)).2.2.2.1,0,(List.getD (List.set b c ((List.getD b c (Ty.aD aU)).1,(List.getD b c (Ty.aD aU)).2.1,(List.getD b c (Ty.aD aU)).2.2.1,(nth aU b a).2.2.2.1,(List.getD b c (Ty.aD aU)).2.2.2.2)) c (Ty.aD aU)).2.2.2.2.2),i))) else none) else none) fun⟨k,l,m,n,o,p,q,j,r⟩=>Option.bind (α:=Bool) (if decide ((2:Int)≤(List.getD j k (Ty.aD aU)).2.2.1) then(if decide ((List.getD j k (Ty.aD aU)).2.2.1≤(1000:Int)) then(if 0≤l then(if l<(j.length:Int) then(some (decide ((bq ((List.getD j k (Ty.aD aU)).2.2.1*(nth aU j l).2.2.2.2.1))≤(1099511627776:Int)))) else none) else none) else(some false)) else(some false)) fun v7=>if v7=true then(if 0≤l then(if l<(j.length:Int) then(amC (m,bq (n+1),o,p,q,List.set j k ((List.getD j k (Ty.aD aU)).1,(List.getD j k (Ty.aD aU)).2.1,(List.getD j k (Ty.aD aU)).2.2.1,(List.getD j k (Ty.aD aU)).2.2.2.1,bq ((List.getD j k (Ty.aD aU)).2.2.1*(nth aU j l).2.2.2.2.1),(List.getD j k (Ty.aD aU)).2.2.2.2.2),r)) else none) else none) else(amC (m,bq (n+1),o,p,q,j,r)))) else none) else none) else(some (.brk (v,w,x,u,y)))
def vE(a0:Za)(a1:Za)(a2:Za)(a3:Zw)(a4:Zx):Option (Sum ZX Vg):=
 aI (U:=Vg) (xJ (Int.toNat (a3.length:Int)+1) ((a3.length:Int),0,a0,a1,a2,a3,a4)) fun⟨a,b,c,d,e⟩=>some (.inr (a,b,c,d,e))
def Lz9:List (Nat×de):=[(0,rB 2),(1,.row 241 56 aU),(2,.row 306 8 (.map .str (.int .i64)))]
def s39:SS:=⟨91,131,[tP 0 0,(1,.own 1),(5,.ptr 1 [.idx]),tI 6,tI 8,tI 9],Lz9,[]⟩
def s40:SS:=⟨91,131,[],Lz9,[]⟩
def s41:SS:=⟨91,131,[tP 0 0,(1,.own 1),tI 8,tI 9],Lz9,[]⟩
def IS:bh:=aF G [] 178 [pP 0,.own 1] Lz9 131 s40 [0,1,2] (.kC (.iface 295 (.val .unit)) (u5 vE))
theorem RL:hS IS:=
 bh.Kp tied (H:=⟨[hA 6 0,hD 10 76 []],[(9,s39),(10,s39)],[(0,s40)],[(1,⟨s41,fun u2=>Int.toNat u2.1+1⟩)],[],[]⟩) (hold (l:=[yp]) ⟨BW,trivial⟩) aJ rfl Tryz.call178 Tryz.func178 rfl rfl rfl rfl (fun _=>by kernel_rfl) (fun _=>by kernel_rfl)
def BX(a0:ZH):Option ZH:=
 if(List.length ([]:ZH)+a0.length)*120≤aH then some a0 else none
def s43:SS:=⟨8,48,[(2,.own 23)],[(23,.row 122 120 bP)],[]⟩
def IT:bh:=aF G [.tmp 2] 235 [.val (.slice 120 bP)] [] 48 s43 [23] (.br (u1 BX))
theorem RN:hS IT:=
 bh.kX tied (H:=⟨[],[],[],[],[],[]⟩) (hold (l:=[]) trivial) rfl (.tmp 0) 3 4 123 123 122 120 bP (fun d=>d.1) (fun d=>⟨(.val (.slice 120 bP) d.1)::.bot::.bn::List.replicate 5 .bot,List.replicate 48 none,[]⟩) Tryz.call235 Tryz.func235 rfl rfl rfl rfl rfl rfl rfl rfl rfl rfl (by kernel_rfl) (fun _=>by kernel_rfl) (fun _=>by kernel_rfl) (fun _=>rfl) (fun _=>by kernel_rfl) (fun _ _=>by kernel_rfl) (fun d h=>by obtain⟨x,y⟩:=d;cases(h:x= []);kernel_rfl) (fun _=>by kernel_rfl)
def BY(a0:GH):Option GH:=
 if(List.length ([]:GH)+a0.length)*72≤aH then some a0 else none
def s45:SS:=⟨8,48,[(2,.own 23)],[(23,.row 324 72 fC)],[]⟩
def IU:bh:=aF G [.tmp 2] 236 [.val (.slice 72 fC)] [] 48 s45 [23] (.br (u1 BY))
theorem RQ:hS IU:=
 bh.kX tied (H:=⟨[],[],[],[],[],[]⟩) (hold (l:=[]) trivial) rfl (.tmp 0) 3 4 124 124 324 72 fC (fun d=>d.1) (fun d=>⟨(.val (.slice 72 fC) d.1)::.bot::.bn::List.replicate 5 .bot,List.replicate 48 none,[]⟩) Tryz.call236 Tryz.func236 rfl rfl rfl rfl rfl rfl rfl rfl rfl rfl (by kernel_rfl) (fun _=>by kernel_rfl) (fun _=>by kernel_rfl) (fun _=>rfl) (fun _=>by kernel_rfl) (fun _ _=>by kernel_rfl) (fun d h=>by obtain⟨x,y⟩:=d;cases(h:x= []);kernel_rfl) (fun _=>by kernel_rfl)
def xL:Nat→Za×Int×Int×Zab→Option (cL (Za×Zab) (Sum ZX Zv)):=aL fun am5 ⟨t,r,q,u,v,w,x,y,z,aa,ab,ac,ad,ae,s⟩=>if decide (q<r) then(if 0≤q then(if q<(s.length:Int) then(aI (U:=Za×Nat×Int×Int×Zab) (some (.brk (t,Int.toNat q,r,q,u,v,w,x,y,z,aa,ab,ac,ad,ae,List.set s (Int.toNat q) ((nth bP s q).1,((nth bP s q).2.1.1,(nth bP s q).2.1.2.1,(nth bP s q).2.1.2.2.1,(nth bP s q).2.1.2.2.2.1,(-1:Int),(nth bP s q).2.1.2.2.2.2.2),(nth bP s q).2.2)))) fun⟨d,b,e,f,g,c,h,i,j,k,l,m,n,o,p,a⟩=>Option.bind (α:=Bool) (if decide ((List.getD a b (Ty.aD bP)).2.1.1=(1:Int)) then(some (!decide ((List.getD a b (Ty.aD bP)).2.1.2.2.2.1= []))) else(some false)) fun v7=>if v7=true then(fh (f234 c (List.getD a b (Ty.aD bP)).2.1.2.2.2.1) (fun p9=>bU (some (.inl (p9.1,())))) fun y8=>am5 (d,e,bq (f+1),g,c,h,i,j,k,l,m,n,o,p,List.set a b ((List.getD a b (Ty.aD bP)).1,((List.getD a b (Ty.aD bP)).2.1.1,(List.getD a b (Ty.aD bP)).2.1.2.1,(List.getD a b (Ty.aD bP)).2.1.2.2.1,(List.getD a b (Ty.aD bP)).2.1.2.2.2.1,y8,(List.getD a b (Ty.aD bP)).2.1.2.2.2.2.2),(List.getD a b (Ty.aD bP)).2.2))) else(am5 (d,e,bq (f+1),g,c,h,i,j,k,l,m,n,o,p,a))) else none) else none) else(some (.brk (t,u,v,w,x,y,z,aa,ab,ac,ad,ae,s)))
def uh:Nat→Za×Int×Int×ZM×ZA→Option (cL (Za×ZA) (cL (Za×ZA) (cL Zv (Sum ZX Zv)))):=aL fun rec17 ⟨d,f,g,c,b,a,h,i,j,k,l,m,n,o,p,q,r,s,t,u,v,w,x,e⟩=>if decide (a<b) then(if 0≤a then(if a<(c.length:Int) then(fh (f234 d (nth .str c a)) (fun p19=>bU (bU (bU (some (.inl (p19.1,())))))) fun y18=>if(List.length e+List.length [y18])*8≤aH then(rec17 (d,f,g,c,b,bq (a+1),h,i,j,k,l,m,n,o,p,q,r,s,t,u,v,w,x,e++[y18])) else none) else none) else none) else(some (.brk (d,f,g,h,i,j,k,l,m,n,o,p,q,r,s,t,u,v,w,x,e)))
def ui:Nat→Za×Int×Int×Zv→Option (cL Zv (Sum ZX Zv)):=aL fun rec13 ⟨av,ar,aq,aw,ax,ay,az,a0,a1,a2,a3,a4,a5,a6,a7,au⟩=>if decide (aq<ar) then(aI (U:=Za×ZA) (if 0≤aq then(if aq<(au.length:Int) then(aI (U:=Za×ZA) (uh (Int.toNat (List.length (nth fC au aq).1:Int)+1) (av,ar,aq,(nth fC au aq).1,(List.length (nth fC au aq).1:Int),0,aw,ax,ay,az,a0,a1,a2,a3,a4,a5,a6,a7,au,Int.toNat aq,(nth fC au aq).1,(nth fC au aq).2.1,(nth fC au aq).2.2.2,([]:Ze))) fun⟨a,c,d,e,f,g,h,i,j,k,l,m,n,o,p,q,r,s,b,t,u⟩=>fh (f234 a b) (fun p21=>bU (bU (some (.inl (p21.1,()))))) fun y20=>some (.brk (a,c,d,e,f,g,h,i,j,k,l,m,n,o,p,q,r,s,b,(y20,t.2),u))) else none) else none) fun⟨v,w,x,y,z,aa,ab,ac,ad,ae,af,ag,ah,ai,aj,ak,al,am,an,ap,ao⟩=>rec13 (v,w,bq (x+1),y,z,aa,ab,ac,ad,ae,af,ag,ah,ai,aj,List.set ak al (am,an,ao,ap))) else(some (.brk (aw,ax,ay,az,a0,a1,a2,a3,a4,a5,a6,a7,au)))
def vF(a0:Za)(a1:Za)(a2:Za)(a3:Za)(a4:ZG)(a5:Nat)(a6:l6)(a7:Zx):Option (Sum ZX Zv):=
 fh (f234 a1 a6.2.1) (fun p22=>some (.inl (p22.1,()))) fun y1=>(BX a6.2.2.2.2.1).bind fun y2=>aI (U:=Za×Zab) (xL (Int.toNat (y2.length:Int)+1) (a0,(y2.length:Int),0,a1,a2,a3,a4,a5,a6.1,a6.2.1,y1,a6.2.2.2.1,a6.2.2.2.2.2,a7,y2)) fun⟨b,c,d,e,f,g,h,i,j,k,a,l,m⟩=>(BY a.1).bind fun y10=>aI (U:=Zv) (ui (Int.toNat (y10.length:Int)+1) (b,(y10.length:Int),0,c,d,e,f,g,h,i,j,k,a.2,l,m,y10)) fun⟨n,o,p,q,r,s,t,u,v,w,x,y,z⟩=>some (.inr (n,o,p,q,r,s,t,u,v,w,x,y,z))
def U7:List (Nat×de):=[(0,rB 2),(1,.cI 126 96 bF (.cons (.val .str) (.cons (.val .str) (.cons vI (.cons vI (.cons (.own 45) (.val (.pair (.slice 72 fC) .unit)))))))),(2,.row 306 8 (.map .str (.int .i64))),(45,.row 122 120 bP)]
def s46:SS:=⟨132,172,[tP 0 0,(1,.ptr 1 [.cD 1]),(2,vM),(7,.ptr 45 [.idx,.cD 1]),tI 36,tI 37],U7,[]⟩
def s47:SS:=⟨132,172,[(1,.ptr 1 [.cD 1]),(2,vM)],U7,[]⟩
def YL:List (Nat×de):=[(0,rB 2),(1,.cI 126 96 bF (.cons (.val .str) (.cons (.val .str) (.cons vI (.cons vI (.cons (.own 45) (.cons (.own 96) (.val .unit)))))))),(2,.row 306 8 (.map .str (.int .i64))),(45,.row 122 120 bP),(96,.cI 324 72 fC (.cons (.val (.slice 16 .str)) (.cons (.val .str) (.cons (.own 149) (.val (.pair (.int .i64) .unit)))))),(149,.row 3 8 (.int .i64))]
def s48:SS:=⟨132,172,[(1,.ptr 1 [.cD 1]),(2,vM),(9,.ptr 96 [.cD 1]),tI 87,tI 88],YL,[]⟩
def YM:List (Nat×Sh):=[(1,.ptr 1 [.cD 1]),(2,vM),tI 87,tI 88]
def s49:SS:=⟨132,172,YM,YL,[]⟩
def YN:List (Nat×de):=[(0,rB 2),(1,.cI 126 96 bF (.cons (.val .str) (.cons (.val .str) (.cons vI (.cons vI (.cons (.own 45) (.cons (.own 96) (.val .unit)))))))),(2,.row 306 8 (.map .str (.int .i64))),(45,.row 122 120 bP),(96,.row 324 72 fC)]
def s50:SS:=⟨132,172,[],YN,[]⟩
def s51:SS:=⟨132,172,[tP 0 0,(1,.ptr 1 [.cD 1]),(2,vM),tI 36,tI 37],U7,[]⟩
def s52:SS:=⟨132,172,YM,YN,[]⟩
def s53:SS:=⟨132,172,[(1,.ptr 1 [.cD 1]),(2,vM),(9,.ptr 96 [.cD 1]),tI 87,tI 88,(103,.val (.slice 16 .str)),tI 104,tI 105],[(0,rB 2),(1,.cI 126 96 bF (.cons (.val .str) (.cons (.val .str) (.cons vI (.cons vI (.cons (.own 45) (.cons (.own 96) (.val .unit)))))))),(2,.row 306 8 (.map .str (.int .i64))),(45,.row 122 120 bP),(96,.cI 324 72 fC (.cons (.val (.slice 16 .str)) (.cons (.val .str) (.cons (.own 148) (.val (.pair (.int .i64) .unit)))))),(148,.row 3 8 (.int .i64))],[]⟩
def IV:bh:=aF G [] 179 [pP 0,.ptr 1 [.cD 1],vM] [(0,rB 2),(1,.cI 126 96 bF (.val bF)),(2,.row 306 8 (.map .str (.int .i64)))] 172 s50 [0,1,2,45,96] (.kC (.iface 295 (.val .unit)) (u8 vF))
theorem RR:hS IV:=
 bh.Kp tied (H:=⟨[hA 0 0,hE 1 [cB 1 [] [(23,45)]],hD 7 61 [],hA 8 0,hE 10 [cB 2 [] [(23,96)]],(15,⟨[],[],[],none,[(96,9)],[],[]⟩),hA 19 0,hA 21 0,(22,⟨[.freeze 149 (.slice 8 (.int .i64)),.k9 96],[],[],none,[],[],[]⟩)],[(7,s46),(10,s47),(21,s48),(22,s49)],[(2,s50)],[(3,⟨s51,fun u4=>Int.toNat u4.2.1+1⟩),(12,⟨s52,fun Ns=>Int.toNat Ns.2.1+1⟩),(17,⟨s53,fun u16=>Int.toNat u16.2.2.2.2.1+1⟩)],[],[]⟩) (hold (l:=[yp,IT,IU]) ⟨BW,RN,RQ,trivial⟩) aJ rfl Tryz.call179 Tryz.func179 rfl rfl rfl rfl (fun _=>by kernel_rfl) (fun _=>by kernel_rfl)
def lh(_q0:Unit):ZV:=
 some (110:Int)
def s54:SS:=⟨17,57,[],[(0,.var iN (.cons .bn (.cons .bn (.cons .bn (.cons .bn (.cons .bn (.cons .bn .nil))))))),(1,bI)],[]⟩
def El:gu:=⟨171,[.ptr 0 [],.ptr 1 []],[(0,.var iN (.dK iN)),(1,.var (.int .i64) (.dK (.int .i64)))],57,.iface 295 (.val .unit),s54,fun r=>pick [0,1] (SS.st s54 y0 r).hp,fun _=>none,fun _ q=>lh q.1⟩
theorem Nq:El.holds Tryz.prog gl:=
 gu.Kp tied (H:=⟨[],[],[],[],[],[]⟩) (hold (l:=[]) trivial) rfl Tryz.call171 Tryz.func171 rfl rfl rfl rfl rfl rfl rfl rfl rfl rfl rfl rfl (fun _=>by kernel_rfl) (fun _ _=>by kernel_rfl)
def BZ(a0:Zy):Option Zy:=
 if(List.length ([]:Zy)+a0.length)*96≤aH then some a0 else none
def s56:SS:=⟨8,48,[(2,.own 23)],[(23,.row 130 96 aQ)],[]⟩
def IW:bh:=aF G [.tmp 2] 237 [.val (.slice 96 aQ)] [] 48 s56 [23] (.br (u1 BZ))
theorem RS:hS IW:=
 bh.kX tied (H:=⟨[],[],[],[],[],[]⟩) (hold (l:=[]) trivial) rfl (.tmp 0) 3 4 131 131 130 96 aQ (fun d=>d.1) (fun d=>⟨(.val (.slice 96 aQ) d.1)::.bot::.bn::List.replicate 5 .bot,List.replicate 48 none,[]⟩) Tryz.call237 Tryz.func237 rfl rfl rfl rfl rfl rfl rfl rfl rfl rfl (by kernel_rfl) (fun _=>by kernel_rfl) (fun _=>by kernel_rfl) (fun _=>rfl) (fun _=>by kernel_rfl) (fun _ _=>by kernel_rfl) (fun d h=>by obtain⟨x,y⟩:=d;cases(h:x= []);kernel_rfl) (fun _=>by kernel_rfl)
def vG(a0:Nat)(a1:Zy)(a2:Zq)(a3:Za)(a4:Za)(a5:Za)(a6:Zo)(a7:Nat)(a8:Zi)(a9:Int)(a10:ZB×ZC×Unit)(a11:Zx):Option (Sum ZX Zaw):=
 aI (U:=Nat×Zaw) (some (.brk (a0,List.set (List.set a1 a0 ((List.getD a1 a0 (Ty.aD aQ)).1,(List.getD a1 a0 (Ty.aD aQ)).2.1,(List.getD a1 a0 (Ty.aD aQ)).2.2.1,((List.getD a1 a0 (Ty.aD aQ)).2.2.2.1.1,(List.getD a1 a0 (Ty.aD aQ)).2.2.2.1.2.1,(-1:Int),(List.getD a1 a0 (Ty.aD aQ)).2.2.2.1.2.2.2),(List.getD a1 a0 (Ty.aD aQ)).2.2.2.2)) a0 ((List.getD (List.set a1 a0 ((List.getD a1 a0 (Ty.aD aQ)).1,(List.getD a1 a0 (Ty.aD aQ)).2.1,(List.getD a1 a0 (Ty.aD aQ)).2.2.1,((List.getD a1 a0 (Ty.aD aQ)).2.2.2.1.1,(List.getD a1 a0 (Ty.aD aQ)).2.2.2.1.2.1,(-1:Int),(List.getD a1 a0 (Ty.aD aQ)).2.2.2.1.2.2.2),(List.getD a1 a0 (Ty.aD aQ)).2.2.2.2)) a0 (Ty.aD aQ)).1,(List.getD (List.set a1 a0 ((List.getD a1 a0 (Ty.aD aQ)).1,(List.getD a1 a0 (Ty.aD aQ)).2.1,(List.getD a1 a0 (Ty.aD aQ)).2.2.1,((List.getD a1 a0 (Ty.aD aQ)).2.2.2.1.1,(List.getD a1 a0 (Ty.aD aQ)).2.2.2.1.2.1,(-1:Int),(List.getD a1 a0 (Ty.aD aQ)).2.2.2.1.2.2.2),(List.getD a1 a0 (Ty.aD aQ)).2.2.2.2)) a0 (Ty.aD aQ)).2.1,(List.getD (List.set a1 a0 ((List.getD a1 a0 (Ty.aD aQ)).1,(List.getD a1 a0 (Ty.aD aQ)).2.1,(List.getD a1 a0 (Ty.aD aQ)).2.2.1,((List.getD a1 a0 (Ty.aD aQ)).2.2.2.1.1,(List.getD a1 a0 (Ty.aD aQ)).2.2.2.1.2.1,(-1:Int),(List.getD a1 a0 (Ty.aD aQ)).2.2.2.1.2.2.2),(List.getD a1 a0 (Ty.aD aQ)).2.2.2.2)) a0 (Ty.aD aQ)).2.2.1,((List.getD (List.set a1 a0 ((List.getD a1 a0 (Ty.aD aQ)).1,(List.getD a1 a0 (Ty.aD aQ)).2.1,(List.getD a1 a0 (Ty.aD aQ)).2.2.1,((List.getD a1 a0 (Ty.aD aQ)).2.2.2.1.1,(List.getD a1 a0 (Ty.aD aQ)).2.2.2.1.2.1,(-1:Int),(List.getD a1 a0 (Ty.aD aQ)).2.2.2.1.2.2.2),(List.getD a1 a0 (Ty.aD aQ)).2.2.2.2)) a0 (Ty.aD aQ)).2.2.2.1.1,(List.getD (List.set a1 a0 ((List.getD a1 a0 (Ty.aD aQ)).1,(List.getD a1 a0 (Ty.aD aQ)).2.1,(List.getD a1 a0 (Ty.aD aQ)).2.2.1,((List.getD a1 a0 (Ty.aD aQ)).2.2.2.1.1,(List.getD a1 a0 (Ty.aD aQ)).2.2.2.1.2.1,(-1:Int),(List.getD a1 a0 (Ty.aD aQ)).2.2.2.1.2.2.2),(List.getD a1 a0 (Ty.aD aQ)).2.2.2.2)) a0 (Ty.aD aQ)).2.2.2.1.2.1,(List.getD (List.set a1 a0 ((List.getD a1 a0 (Ty.aD aQ)).1,(List.getD a1 a0 (Ty.aD aQ)).2.1,(List.getD a1 a0 (Ty.aD aQ)).2.2.1,((List.getD a1 a0 (Ty.aD aQ)).2.2.2.1.1,(List.getD a1 a0 (Ty.aD aQ)).2.2.2.1.2.1,(-1:Int),(List.getD a1 a0 (Ty.aD aQ)).2.2.2.1.2.2.2),(List.getD a1 a0 (Ty.aD aQ)).2.2.2.2)) a0 (Ty.aD aQ)).2.2.2.1.2.2.1,0,(List.getD (List.set a1 a0 ((List.getD a1 a0 (Ty.aD aQ)).1,(List.getD a1 a0 (Ty.aD aQ)).2.1,(List.getD a1 a0 (Ty.aD aQ)).2.2.1,((List.getD a1 a0 (Ty.aD aQ)).2.2.2.1.1,(List.getD a1 a0 (Ty.aD aQ)).2.2.2.1.2.1,(-1:Int),(List.getD a1 a0 (Ty.aD aQ)).2.2.2.1.2.2.2),(List.getD a1 a0 (Ty.aD aQ)).2.2.2.2)) a0 (Ty.aD aQ)).2.2.2.1.2.2.2.2),(List.getD (List.set a1 a0 ((List.getD a1 a0 (Ty.aD aQ)).1,(List.getD a1 a0 (Ty.aD aQ)).2.1,(List.getD a1 a0 (Ty.aD aQ)).2.2.1,((List.getD a1 a0 (Ty.aD aQ)).2.2.2.1.1,(List.getD a1 a0 (Ty.aD aQ)).2.2.2.1.2.1,(-1:Int),(List.getD a1 a0 (Ty.aD aQ)).2.2.2.1.2.2.2),(List.getD a1 a0 (Ty.aD aQ)).2.2.2.2)) a0 (Ty.aD aQ)).2.2.2.2),a2,a3,a4,a5,a6,a7,a8,a9,a10,a11))) fun⟨b,a,c,d,e,f,g,h,i,j,k,l⟩=>if !decide ((List.getD a b (Ty.aD aQ)).2.2.2.1.1= []) then(aI (U:=Nat×Zaw) (fh (f234 (some c) (List.getD a b (Ty.aD aQ)).2.2.2.1.1) (fun p4=>bU (some (.inl (p4.1,())))) fun y3=>some (.brk (b,List.set a b ((List.getD a b (Ty.aD aQ)).1,(List.getD a b (Ty.aD aQ)).2.1,(List.getD a b (Ty.aD aQ)).2.2.1,((List.getD a b (Ty.aD aQ)).2.2.2.1.1,(List.getD a b (Ty.aD aQ)).2.2.2.1.2.1,y3,(List.getD a b (Ty.aD aQ)).2.2.2.1.2.2.2),(List.getD a b (Ty.aD aQ)).2.2.2.2),c,d,e,f,g,h,i,j,k,l))) fun⟨n,m,p,q,r,s,t,u,v,w,x,o⟩=>if 0≤(List.getD m n (Ty.aD aQ)).2.2.2.1.2.2.1 then(if(List.getD m n (Ty.aD aQ)).2.2.2.1.2.2.1<(m.length:Int) then(if 0≤(nth aQ m (List.getD m n (Ty.aD aQ)).2.2.2.1.2.2.1).2.2.1 then(if(nth aQ m (List.getD m n (Ty.aD aQ)).2.2.2.1.2.2.1).2.2.1<(o.length:Int) then(fh (f234 (nth (.map .str (.int .i64)) o (nth aQ m (List.getD m n (Ty.aD aQ)).2.2.2.1.2.2.1).2.2.1) (List.getD m n (Ty.aD aQ)).2.2.2.1.2.1) (fun p6=>some (.inl (p6.1,()))) fun y5=>some (.inr (List.set m n ((List.getD m n (Ty.aD aQ)).1,(List.getD m n (Ty.aD aQ)).2.1,(List.getD m n (Ty.aD aQ)).2.2.1,((List.getD m n (Ty.aD aQ)).2.2.2.1.1,(List.getD m n (Ty.aD aQ)).2.2.2.1.2.1,(List.getD m n (Ty.aD aQ)).2.2.2.1.2.2.1,y5,(List.getD m n (Ty.aD aQ)).2.2.2.1.2.2.2.2),(List.getD m n (Ty.aD aQ)).2.2.2.2),p,q,r,s,t,u,v,w,x,o))) else none) else none) else none) else none) else(some (.inr (a,c,d,e,f,g,h,i,j,k,l)))
def RU:List (Nat×de):=[(0,.row 130 96 aQ),(1,.var (.map .str (.int .i64)) (.mp 4)),(2,.var (.aT .ptr) (pP 5)),(3,.var (.aT .ptr) (.ptr 6 [.cD 1])),(4,.map .str (.int .i64)),(5,rB 7),(6,.cI 137 96 bG (.cons (.val .str) (.cons vI (.cons (.own 0) (.val (.pair (.slice 120 aV) (.pair (.slice 80 bu) .unit))))))),(7,.row 306 8 (.map .str (.int .i64)))]
def s57:SS:=⟨50,90,[(0,.ptr 0 [.idx,.cD 3]),tP 1 1,tP 2 2,tP 3 3],RU,[]⟩
def s58:SS:=⟨50,90,[(0,.ptr 0 [.idx,.cD 3]),tP 2 2,tP 3 3],RU,[]⟩
def s59:SS:=⟨50,90,[],RU,[]⟩
def IY:bh:=aF G [] 238 [.ptr 0 [.idx,.cD 3],pP 1,pP 2,pP 3] RU 90 s59 [0,1,2,3,4,5,6,7] (.kC (.iface 295 (.val .unit)) (Ns vG))
theorem RW:hS IY:=
 bh.Kp tied (H:=⟨[hA 2 0,hA 3 0],[(1,s57),(3,s58)],[],[],[],[]⟩) (hold (l:=[yp]) ⟨BW,trivial⟩) aJ rfl Tryz.call238 Tryz.func238 rfl rfl rfl rfl (fun _=>by kernel_rfl) (fun _=>by kernel_rfl)
def B0(a0:ZB):Option ZB:=
 if(List.length ([]:ZB)+a0.length)*120≤aH then some a0 else none
def s61:SS:=⟨8,48,[(2,.own 23)],[(23,.row 317 120 aV)],[]⟩
def IZ:bh:=aF G [.tmp 2] 239 [.val (.slice 120 aV)] [] 48 s61 [23] (.br (u1 B0))
theorem RX:hS IZ:=
 bh.kX tied (H:=⟨[],[],[],[],[],[]⟩) (hold (l:=[]) trivial) rfl (.tmp 0) 3 4 135 135 317 120 aV (fun d=>d.1) (fun d=>⟨(.val (.slice 120 aV) d.1)::.bot::.bn::List.replicate 5 .bot,List.replicate 48 none,[]⟩) Tryz.call239 Tryz.func239 rfl rfl rfl rfl rfl rfl rfl rfl rfl rfl (by kernel_rfl) (fun _=>by kernel_rfl) (fun _=>by kernel_rfl) (fun _=>rfl) (fun _=>by kernel_rfl) (fun _ _=>by kernel_rfl) (fun d h=>by obtain⟨x,y⟩:=d;cases(h:x= []);kernel_rfl) (fun _=>by kernel_rfl)
def vH(a0:Nat)(a1:ZB)(a2:Zq)(a3:Za)(a4:Za)(a5:Za)(a6:Zo)(a7:Nat)(a8:Zi)(a9:Int)(a10:ZC×Unit)(a11:Zx)(a12:Zy):Option (Sum ZX ZP):=
 aI (U:=Nat×ZP) (some (.brk (a0,List.set (List.set a1 a0 ((List.getD a1 a0 (Ty.aD aV)).1,((List.getD a1 a0 (Ty.aD aV)).2.1.1,(List.getD a1 a0 (Ty.aD aV)).2.1.2.1,(-1:Int),(List.getD a1 a0 (Ty.aD aV)).2.1.2.2.2),(List.getD a1 a0 (Ty.aD aV)).2.2)) a0 ((List.getD (List.set a1 a0 ((List.getD a1 a0 (Ty.aD aV)).1,((List.getD a1 a0 (Ty.aD aV)).2.1.1,(List.getD a1 a0 (Ty.aD aV)).2.1.2.1,(-1:Int),(List.getD a1 a0 (Ty.aD aV)).2.1.2.2.2),(List.getD a1 a0 (Ty.aD aV)).2.2)) a0 (Ty.aD aV)).1,((List.getD (List.set a1 a0 ((List.getD a1 a0 (Ty.aD aV)).1,((List.getD a1 a0 (Ty.aD aV)).2.1.1,(List.getD a1 a0 (Ty.aD aV)).2.1.2.1,(-1:Int),(List.getD a1 a0 (Ty.aD aV)).2.1.2.2.2),(List.getD a1 a0 (Ty.aD aV)).2.2)) a0 (Ty.aD aV)).2.1.1,(List.getD (List.set a1 a0 ((List.getD a1 a0 (Ty.aD aV)).1,((List.getD a1 a0 (Ty.aD aV)).2.1.1,(List.getD a1 a0 (Ty.aD aV)).2.1.2.1,(-1:Int),(List.getD a1 a0 (Ty.aD aV)).2.1.2.2.2),(List.getD a1 a0 (Ty.aD aV)).2.2)) a0 (Ty.aD aV)).2.1.2.1,(List.getD (List.set a1 a0 ((List.getD a1 a0 (Ty.aD aV)).1,((List.getD a1 a0 (Ty.aD aV)).2.1.1,(List.getD a1 a0 (Ty.aD aV)).2.1.2.1,(-1:Int),(List.getD a1 a0 (Ty.aD aV)).2.1.2.2.2),(List.getD a1 a0 (Ty.aD aV)).2.2)) a0 (Ty.aD aV)).2.1.2.2.1,0,(List.getD (List.set a1 a0 ((List.getD a1 a0 (Ty.aD aV)).1,((List.getD a1 a0 (Ty.aD aV)).2.1.1,(List.getD a1 a0 (Ty.aD aV)).2.1.2.1,(-1:Int),(List.getD a1 a0 (Ty.aD aV)).2.1.2.2.2),(List.getD a1 a0 (Ty.aD aV)).2.2)) a0 (Ty.aD aV)).2.1.2.2.2.2),(List.getD (List.set a1 a0 ((List.getD a1 a0 (Ty.aD aV)).1,((List.getD a1 a0 (Ty.aD aV)).2.1.1,(List.getD a1 a0 (Ty.aD aV)).2.1.2.1,(-1:Int),(List.getD a1 a0 (Ty.aD aV)).2.1.2.2.2),(List.getD a1 a0 (Ty.aD aV)).2.2)) a0 (Ty.aD aV)).2.2),a2,a3,a4,a5,a6,a7,a8,a9,a10,a11,a12))) fun⟨b,a,c,d,e,f,g,h,i,j,k,l,m⟩=>if !decide ((List.getD a b (Ty.aD aV)).2.1.1= []) then(aI (U:=Nat×ZP) (fh (f234 (some c) (List.getD a b (Ty.aD aV)).2.1.1) (fun p4=>bU (some (.inl (p4.1,())))) fun y3=>some (.brk (b,List.set a b ((List.getD a b (Ty.aD aV)).1,((List.getD a b (Ty.aD aV)).2.1.1,(List.getD a b (Ty.aD aV)).2.1.2.1,y3,(List.getD a b (Ty.aD aV)).2.1.2.2.2),(List.getD a b (Ty.aD aV)).2.2),c,d,e,f,g,h,i,j,k,l,m))) fun⟨o,n,r,s,t,u,v,w,x,y,z,q,p⟩=>if 0≤(List.getD n o (Ty.aD aV)).2.1.2.2.1 then(if(List.getD n o (Ty.aD aV)).2.1.2.2.1<(p.length:Int) then(if 0≤(nth aQ p (List.getD n o (Ty.aD aV)).2.1.2.2.1).2.2.1 then(if(nth aQ p (List.getD n o (Ty.aD aV)).2.1.2.2.1).2.2.1<(q.length:Int) then(fh (f234 (nth (.map .str (.int .i64)) q (nth aQ p (List.getD n o (Ty.aD aV)).2.1.2.2.1).2.2.1) (List.getD n o (Ty.aD aV)).2.1.2.1) (fun p6=>some (.inl (p6.1,()))) fun y5=>some (.inr (List.set n o ((List.getD n o (Ty.aD aV)).1,((List.getD n o (Ty.aD aV)).2.1.1,(List.getD n o (Ty.aD aV)).2.1.2.1,(List.getD n o (Ty.aD aV)).2.1.2.2.1,y5,(List.getD n o (Ty.aD aV)).2.1.2.2.2.2),(List.getD n o (Ty.aD aV)).2.2),r,s,t,u,v,w,x,y,z,q,p))) else none) else none) else none) else none) else(some (.inr (a,c,d,e,f,g,h,i,j,k,l,m)))
def U8:List (Nat×de):=[(0,.row 317 120 aV),(1,.var (.map .str (.int .i64)) (.mp 4)),(2,.var (.aT .ptr) (pP 5)),(3,.var (.aT .ptr) (.ptr 6 [.cD 1])),(4,.map .str (.int .i64)),(5,rB 7),(6,.cI 137 96 bG (.cons (.val .str) (.cons vI (.cons (.own 8) (.cons (.own 0) (.val (.pair (.slice 80 bu) .unit))))))),(7,.row 306 8 (.map .str (.int .i64))),(8,.row 130 96 aQ)]
def s62:SS:=⟨50,90,[(0,.ptr 0 [.idx,.cD 1]),tP 1 1,tP 2 2,tP 3 3],U8,[]⟩
def s63:SS:=⟨50,90,[(0,.ptr 0 [.idx,.cD 1]),tP 2 2,tP 3 3],U8,[]⟩
def s64:SS:=⟨50,90,[],U8,[]⟩
def I0:bh:=aF G [] 238 [.ptr 0 [.idx,.cD 1],pP 1,pP 2,pP 3] U8 90 s64 [0,1,2,3,4,5,6,7,8] (.kC (.iface 295 (.val .unit)) (I5 vH))
theorem RY:hS I0:=
 bh.Kp tied (H:=⟨[hA 2 0,hA 3 0],[(1,s62),(3,s63)],[],[],[],[]⟩) (hold (l:=[yp]) ⟨BW,trivial⟩) aJ rfl Tryz.call238 Tryz.func238 rfl rfl rfl rfl (fun _=>by kernel_rfl) (fun _=>by kernel_rfl)
end Go.Proofs.YtpmlkhjpbjnagaaGreat
