/- part -/
import Derived.Test.YtpmlkhjpbjnagaaGreatBase
noncomputable section
namespace Go.Proofs.YtpmlkhjpbjnagaaGreat
open Go.Ax
def f18:Option bL:=
 aH (U:=ZQ×ZK) (some (.bA ([[105]],[([97],[105],0,1,[([115,101,108,102],(3,0,4095,[],(-1:Int),([]:ZQ),()),Ty.aD CL,()),([110],(1,0,9,[],(-1:Int),([]:ZQ),()),Ty.aD CL,())],([]:EG),()),([98],[105],0,1,[([115,101,108,102],(3,0,4095,[],(-1:Int),([]:ZQ),()),Ty.aD CL,()),([110],(1,0,9,[],(-1:Int),([]:ZQ),()),Ty.aD CL,())],([]:EG),())]))) fun⟨a,b⟩=>aH (U:=ZQ×ZK×Zq) (some (.bA (a,b,[([97],0,[([120],[98],1,([],[],(-1:Int),0,0,()),())],([]:ZE),[([110],1,([120],[110],0,1,0,()),())],())]))) fun⟨c,d,e⟩=>some (((c,([]:Zz),d,e,([]:ZN),([]:ZI),()),[(1:Int),(0:Int)],()),[((1,3,1,()),4,(0,1024,()),2,0,()),((1,3,1,()),5,(0,1024,()),9,0,())],())
def s1:SS:=⟨43,83,[tP 0 16,tP 3 19],[(16,.var fX (.cons (.cons (.cons .bF (.cons .bF (.cons .bF (.cons .bF (.cons .bF (.cons .bF .nil)))))) (.cons .bF .nil)) (.cons .bF .nil))),(19,.var iI (.cons (.own 26) (.cons .bF (.cons (.own 35) (.cons .bF (.cons .bF (.cons .bF .nil))))))),(26,.row 9 16 .str),(35,.row 126 96 bR)],[]⟩
def s2:SS:=⟨43,83,[tP 0 16,tP 3 19],[(16,.var fX (.cons (.cons (.cons .bF (.cons .bF (.cons .bF (.cons .bF (.cons .bF (.cons .bF .nil)))))) (.cons .bF .nil)) (.cons .bF .nil))),(19,.var iI (.cons (.own 26) (.cons .bF (.cons (.own 35) (.cons (.own 44) (.cons .bF (.cons .bF .nil))))))),(26,.row 9 16 .str),(35,.row 126 96 bR),(44,.row 137 96 bZ)],[]⟩
def s3:SS:=⟨43,83,[tP 0 16],[(16,bV fX)],[]⟩
def c18:aX:=aE G [.cell 0 35] 18 [] [] 83 s3 [] (.bH (fun _=>f18))
theorem x18:hS c18:=
 cO ⟨[(3,⟨[],[(9,14,bR),(9,18,bR)],[],none,[],[],[]⟩),(4,⟨[],[(7,27,bZ)],[],none,[],[],[]⟩)],[(4,s1),(5,s2)],[],[],[],[]⟩ hz aJ Tryz.call18 Tryz.func18
def P7(a0:Zj):Option Zj:=
 some a0
def s4:SS:=⟨4,44,[(2,.val .str)],[],[]⟩
def ag2:aX:=aE G [.tmp 2] 223 [.val .str] [] 44 s4 [] (.bH (u1 P7))
theorem ag3:hS ag2:=
 cO (hR []) hz aJ Tryz.call223 Tryz.func223
def Ez:Nat→Bool×ZQ×Int×Int×Zs→Wx:=aK fun am3 ⟨e,c,b,a,d⟩=>if(decide (a<b))=true then(if 0≤a then(if a<(c.length:Int) then(Option.bind (P7 (nth .str c a)) fun y4=>if(cC .str y4 d)=true then(am3 (true,c,b,aZ (a+1),d)) else(Option.bind (P7 (nth .str c a)) fun y5=>if d.length+1≤aG then(am3 (e,c,b,aZ (a+1),bC .str y5 a d)) else none)) else none) else none) else(some (.bA (e,d)))
def Aq(a0:ZQ):Option (Za×Bool):=
 aH (U:=Bool×Zs) (Ez (Int.toNat (a0.length:Int)+1) (false,a0,(a0.length:Int),0,([]:Zs))) fun⟨b,a⟩=>some (some a,b)
def s5:SS:=⟨37,77,[(4,.mp 28),(5,vB)],[(28,.map .str qr)],[]⟩
def s6:SS:=⟨37,77,[(1,.func 223 .nil .nil),(4,.mp 28),(5,vB),(13,.val (.slice 16 .str)),tI 14,tI 15],[(28,.map .str qr)],[]⟩
def s7:SS:=⟨37,77,[(4,vM),(5,vB)],[],[]⟩
def P8:aX:=aE G [.tmp 4,.tmp 5] 222 [.val (.slice 16 .str),.func 223 .nil .nil] [] 77 s7 [] (.bH (u1 Aq))
theorem P9:hS P8:=
 cO ⟨[hA 5 0,hA 8 0],[(10,s5)],[],[(3,⟨s6,fun u2=>Int.toNat u2.2.2.1+1⟩)],[],[]⟩ (hq ag3 hz) aJ Tryz.call222 Tryz.func222
def Qa(a0:gQ):Option Zj:=
 some a0.1
def s8:SS:=⟨5,45,[(2,.val .str)],[],[]⟩
def ag4:aX:=aE G [.tmp 2] 225 [.val aT] [] 45 s8 [] (.bH (u1 Qa))
theorem ag5:hS ag4:=
 cO (hR []) hz aJ Tryz.call225 Tryz.func225
def EA:Nat→Bool×Zz×Int×Int×Zs→Wx:=aK fun am3 ⟨e,c,b,a,d⟩=>if(decide (a<b))=true then(if 0≤a then(if a<(c.length:Int) then(Option.bind (Qa (nth aT c a)) fun y4=>if(cC .str y4 d)=true then(am3 (true,c,b,aZ (a+1),d)) else(Option.bind (Qa (nth aT c a)) fun y5=>if d.length+1≤aG then(am3 (e,c,b,aZ (a+1),bC .str y5 a d)) else none)) else none) else none) else(some (.bA (e,d)))
def Ar(a0:Zz):Option (Za×Bool):=
 aH (U:=Bool×Zs) (EA (Int.toNat (a0.length:Int)+1) (false,a0,(a0.length:Int),0,([]:Zs))) fun⟨b,a⟩=>some (some a,b)
def s9:SS:=⟨37,77,[(4,.mp 28),(5,vB)],[(28,.map .str qr)],[]⟩
def s10:SS:=⟨37,77,[(1,.func 225 .nil .nil),(4,.mp 28),(5,vB),(13,.val (.slice 56 aT)),tI 14,tI 15],[(28,.map .str qr)],[]⟩
def s11:SS:=⟨37,77,[(4,vM),(5,vB)],[],[]⟩
def Qb:aX:=aE G [.tmp 4,.tmp 5] 224 [.val (.slice 56 aT),.func 225 .nil .nil] [] 77 s11 [] (.bH (u1 Ar))
theorem Qc:hS Qb:=
 cO ⟨[hA 5 0,hA 8 0],[(10,s9)],[],[(3,⟨s10,fun u2=>Int.toNat u2.2.2.1+1⟩)],[],[]⟩ (hq ag5 hz) aJ Tryz.call224 Tryz.func224
def Qd(a0:lJ):Option Zj:=
 some a0.1
def s12:SS:=⟨5,45,[(2,.val .str)],[],[]⟩
def ag6:aX:=aE G [.tmp 2] 227 [.val bR] [] 45 s12 [] (.bH (u1 Qd))
theorem ag7:hS ag6:=
 cO (hR []) hz aJ Tryz.call227 Tryz.func227
def EB:Nat→Bool×ZK×Int×Int×Zs→Wx:=aK fun am3 ⟨e,c,b,a,d⟩=>if(decide (a<b))=true then(if 0≤a then(if a<(c.length:Int) then(Option.bind (Qd (nth bR c a)) fun y4=>if(cC .str y4 d)=true then(am3 (true,c,b,aZ (a+1),d)) else(Option.bind (Qd (nth bR c a)) fun y5=>if d.length+1≤aG then(am3 (e,c,b,aZ (a+1),bC .str y5 a d)) else none)) else none) else none) else(some (.bA (e,d)))
def As(a0:ZK):Option (Za×Bool):=
 aH (U:=Bool×Zs) (EB (Int.toNat (a0.length:Int)+1) (false,a0,(a0.length:Int),0,([]:Zs))) fun⟨b,a⟩=>some (some a,b)
def s13:SS:=⟨37,77,[(4,.mp 28),(5,vB)],[(28,.map .str qr)],[]⟩
def s14:SS:=⟨37,77,[(1,.func 227 .nil .nil),(4,.mp 28),(5,vB),(13,.val (.slice 96 bR)),tI 14,tI 15],[(28,.map .str qr)],[]⟩
def s15:SS:=⟨37,77,[(4,vM),(5,vB)],[],[]⟩
def Qe:aX:=aE G [.tmp 4,.tmp 5] 226 [.val (.slice 96 bR),.func 227 .nil .nil] [] 77 s15 [] (.bH (u1 As))
theorem Qf:hS Qe:=
 cO ⟨[hA 5 0,hA 8 0],[(10,s13)],[],[(3,⟨s14,fun u2=>Int.toNat u2.2.2.1+1⟩)],[],[]⟩ (hq ag7 hz) aJ Tryz.call226 Tryz.func226
def Qg(a0:oi):Option Zj:=
 some a0.1
def s16:SS:=⟨5,45,[(2,.val .str)],[],[]⟩
def ag8:aX:=aE G [.tmp 2] 229 [.val dY] [] 45 s16 [] (.bH (u1 Qg))
theorem ag9:hS ag8:=
 cO (hR []) hz aJ Tryz.call229 Tryz.func229
def EC:Nat→Bool×ZI×Int×Int×Zs→Wx:=aK fun am3 ⟨e,c,b,a,d⟩=>if(decide (a<b))=true then(if 0≤a then(if a<(c.length:Int) then(Option.bind (Qg (nth dY c a)) fun y4=>if(cC .str y4 d)=true then(am3 (true,c,b,aZ (a+1),d)) else(Option.bind (Qg (nth dY c a)) fun y5=>if d.length+1≤aG then(am3 (e,c,b,aZ (a+1),bC .str y5 a d)) else none)) else none) else none) else(some (.bA (e,d)))
def At(a0:ZI):Option (Za×Bool):=
 aH (U:=Bool×Zs) (EC (Int.toNat (a0.length:Int)+1) (false,a0,(a0.length:Int),0,([]:Zs))) fun⟨b,a⟩=>some (some a,b)
def s17:SS:=⟨37,77,[(4,.mp 28),(5,vB)],[(28,.map .str qr)],[]⟩
def s18:SS:=⟨37,77,[(1,.func 229 .nil .nil),(4,.mp 28),(5,vB),(13,.val (.slice 48 dY)),tI 14,tI 15],[(28,.map .str qr)],[]⟩
def s19:SS:=⟨37,77,[(4,vM),(5,vB)],[],[]⟩
def Qh:aX:=aE G [.tmp 4,.tmp 5] 228 [.val (.slice 48 dY),.func 229 .nil .nil] [] 77 s19 [] (.bH (u1 At))
theorem Qi:hS Qh:=
 cO ⟨[hA 5 0,hA 8 0],[(10,s17)],[],[(3,⟨s18,fun u2=>Int.toNat u2.2.2.1+1⟩)],[],[]⟩ (hq ag9 hz) aJ Tryz.call228 Tryz.func228
def Qj(a0:Ih):Option Zj:=
 some a0.1
def s20:SS:=⟨5,45,[(2,.val .str)],[],[]⟩
def aha:aX:=aE G [.tmp 2] 231 [.val ck] [] 45 s20 [] (.bH (u1 Qj))
theorem ahb:hS aha:=
 cO (hR []) hz aJ Tryz.call231 Tryz.func231
def ED:Nat→Bool×ZL×Int×Int×Zs→Wx:=aK fun am3 ⟨e,c,b,a,d⟩=>if(decide (a<b))=true then(if 0≤a then(if a<(c.length:Int) then(Option.bind (Qj (nth ck c a)) fun y4=>if(cC .str y4 d)=true then(am3 (true,c,b,aZ (a+1),d)) else(Option.bind (Qj (nth ck c a)) fun y5=>if d.length+1≤aG then(am3 (e,c,b,aZ (a+1),bC .str y5 a d)) else none)) else none) else none) else(some (.bA (e,d)))
def Au(a0:ZL):Option (Za×Bool):=
 aH (U:=Bool×Zs) (ED (Int.toNat (a0.length:Int)+1) (false,a0,(a0.length:Int),0,([]:Zs))) fun⟨b,a⟩=>some (some a,b)
def s21:SS:=⟨37,77,[(4,.mp 28),(5,vB)],[(28,.map .str qr)],[]⟩
def s22:SS:=⟨37,77,[(1,.func 231 .nil .nil),(4,.mp 28),(5,vB),(13,.val (.slice 120 ck)),tI 14,tI 15],[(28,.map .str qr)],[]⟩
def s23:SS:=⟨37,77,[(4,vM),(5,vB)],[],[]⟩
def Qk:aX:=aE G [.tmp 4,.tmp 5] 230 [.val (.slice 120 ck),.func 231 .nil .nil] [] 77 s23 [] (.bH (u1 Au))
theorem Ql:hS Qk:=
 cO ⟨[hA 5 0,hA 8 0],[(10,s21)],[],[(3,⟨s22,fun u2=>Int.toNat u2.2.2.1+1⟩)],[],[]⟩ (hq ahb hz) aJ Tryz.call230 Tryz.func230
def Qm(a0:AJ):Option Zj:=
 some a0.1
def s24:SS:=⟨5,45,[(2,.val .str)],[],[]⟩
def ahc:aX:=aE G [.tmp 2] 233 [.val aO] [] 45 s24 [] (.bH (u1 Qm))
theorem ahd:hS ahc:=
 cO (hR []) hz aJ Tryz.call233 Tryz.func233
def EE:Nat→Bool×ZC×Int×Int×Zs→Wx:=aK fun am3 ⟨e,c,b,a,d⟩=>if(decide (a<b))=true then(if 0≤a then(if a<(c.length:Int) then(Option.bind (Qm (nth aO c a)) fun y4=>if(cC .str y4 d)=true then(am3 (true,c,b,aZ (a+1),d)) else(Option.bind (Qm (nth aO c a)) fun y5=>if d.length+1≤aG then(am3 (e,c,b,aZ (a+1),bC .str y5 a d)) else none)) else none) else none) else(some (.bA (e,d)))
def Av(a0:ZC):Option (Za×Bool):=
 aH (U:=Bool×Zs) (EE (Int.toNat (a0.length:Int)+1) (false,a0,(a0.length:Int),0,([]:Zs))) fun⟨b,a⟩=>some (some a,b)
def s25:SS:=⟨37,77,[(4,.mp 28),(5,vB)],[(28,.map .str qr)],[]⟩
def s26:SS:=⟨37,77,[(1,.func 233 .nil .nil),(4,.mp 28),(5,vB),(13,.val (.slice 96 aO)),tI 14,tI 15],[(28,.map .str qr)],[]⟩
def s27:SS:=⟨37,77,[(4,vM),(5,vB)],[],[]⟩
def Qn:aX:=aE G [.tmp 4,.tmp 5] 232 [.val (.slice 96 aO),.func 233 .nil .nil] [] 77 s27 [] (.bH (u1 Av))
theorem Qo:hS Qn:=
 cO ⟨[hA 5 0,hA 8 0],[(10,s25)],[],[(3,⟨s26,fun u2=>Int.toNat u2.2.2.1+1⟩)],[],[]⟩ (hq ahd hz) aJ Tryz.call232 Tryz.func232
def j6:Nat→Bool×ZK×Int×Int×cM×Rc→Option (cH (Bool×cM×Rc) (Bool×Rc)):=aK fun rec10 ⟨g,e,d,c,h,i,j,k,f⟩=>if(decide (c<d))=true then(if 0≤c then(if c<(e.length:Int) then(Option.bind (Au (nth bR e c).2.2.2.2.1) fun⟨a,b⟩=>if(f.length+List.length [a])*8≤aG then(Option.bind (α:=Bool) (if g=true then(some true) else(some b)) fun v12=>rec10 (v12,e,d,aZ (c+1),h,i,j,k,f++[a])) else none) else none) else none) else(some (.bA (g,h,i,j,k,f)))
def j7:Nat→Bool×Zq×Int×Int×Rc→Option (cH (Bool×Rc) (Bool×Rc)):=aK fun rec15 ⟨e,d,c,b,f,g,h,i⟩=>if(decide (b<c))=true then(if 0≤b then(if b<(d.length:Int) then(Option.bind (Av (nth bZ d b).2.2.1) fun⟨_,a⟩=>Option.bind (α:=Bool) (if e=true then(some true) else(some a)) fun v17=>rec15 (v17,d,c,aZ (b+1),f,g,h,i)) else none) else none) else(some (.bA (e,f,g,h,i)))
def ud(a0:cM):Option (Bool×Rc):=
 Option.bind (Aq a0.1) fun⟨b,a⟩=>Option.bind (Ar a0.2.1) fun⟨d,c⟩=>Option.bind (α:=Bool) (if a=true then(some true) else(some c)) fun v3=>Option.bind (As a0.2.2.1) fun⟨f,e⟩=>Option.bind (α:=Bool) (if v3=true then(some true) else(some e)) fun v5=>Option.bind (At a0.2.2.2.2.2.1) fun⟨_,g⟩=>Option.bind (α:=Bool) (if v5=true then(some true) else(some g)) fun v7=>aH (U:=Bool×cM×Rc) (j6 (Int.toNat (List.length a0.2.2.1:Int)+1) (v7,a0.2.2.1,(List.length a0.2.2.1:Int),0,a0,b,d,f,([]:ZB))) fun⟨i,h,j,k,l,m⟩=>aH (U:=Bool×Rc) (j7 (Int.toNat (List.length h.2.2.2.1:Int)+1) (i,h.2.2.2.1,(List.length h.2.2.2.1:Int),0,j,k,l,m)) fun⟨n,o,p,q,r⟩=>some (n,o,p,q,r)
def s28:SS:=⟨108,148,[tP 1 17,tP 2 30,(3,vB)],[(17,bV iI),(30,rB 125),(125,.row 306 8 (.map .str qr))],[]⟩
def Yh:List (Nat×dj):=[(30,rB 125),(125,.row 306 8 (.map .str qr))]
def s29:SS:=⟨108,148,[tP 2 30,(3,vB)],Yh,[]⟩
def s30:SS:=⟨108,148,[tP 1 17,tP 2 30,(3,vB),(61,.val (.slice 96 bR)),tI 62,tI 63],[(17,bV iI),(30,rB 124),(124,.row 306 8 (.map .str qr))],[]⟩
def s31:SS:=⟨108,148,[tP 2 30,(3,vB),(89,.val (.slice 96 bZ)),tI 90,tI 91],Yh,[]⟩
def GH:aX:=aE G [.tmp 2,.tmp 3] 170 [.val iI] [] 148 s29 [30,125] (.bH (u1 ud))
theorem Qp:hS GH:=
 cO ⟨[hA 3 0,hA 4 1,hD 5 3 [],hA 6 2,hD 7 3 [],hA 8 3,hD 9 3 [],hA 13 4,hD 15 3 [],hA 20 5,hD 21 3 []],[(17,s28),(23,s29)],[],[(11,⟨s30,fun u9=>Int.toNat u9.2.2.1+1⟩),(18,⟨s31,fun MO=>Int.toNat MO.2.2.1+1⟩)],[],[]⟩ (hq P9 (hq Qc (hq Qf (hq Qi (hq Ql (hq Qo hz)))))) aJ Tryz.call170 Tryz.func170
def Aw(a0:ZQ):Option ZQ:=
 if(List.length ([]:ZQ)+a0.length)*16≤aG then some a0 else none
def s32:SS:=⟨8,48,[(2,.own 23)],[(23,.row 9 16 .str)],[]⟩
def GI:aX:=aE G [.tmp 2] 172 [.val (.slice 16 .str)] [] 48 s32 [23] (.bH (u1 Aw))
theorem Qq:hS GI:=
 aX.kD tied (H:=⟨[],[],[],[],[],[]⟩) (hold (l:=[]) trivial) rfl (.tmp 0) 3 4 22 22 9 16 .str (fun d=>d.1) (fun d=>⟨(.val (.slice 16 .str) d.1)::.bot::.bF::List.replicate 5 .bot,List.replicate 48 none,[]⟩) Tryz.call172 Tryz.func172 rfl rfl rfl rfl rfl rfl rfl rfl rfl rfl (by kernel_rfl) (fun _=>by kernel_rfl) (fun _=>by kernel_rfl) (fun _=>rfl) (fun _=>by kernel_rfl) (fun _ _=>by kernel_rfl) (fun d h=>by obtain⟨x,y⟩:=d;cases(h:x= []);kernel_rfl) (fun _=>by kernel_rfl)
def Ay(a0:Zz):Option Zz:=
 if(List.length ([]:Zz)+a0.length)*56≤aG then some a0 else none
def s33:SS:=⟨8,48,[(2,.own 23)],[(23,.row 241 56 aT)],[]⟩
def GJ:aX:=aE G [.tmp 2] 173 [.val (.slice 56 aT)] [] 48 s33 [23] (.bH (u1 Ay))
theorem Qr:hS GJ:=
 aX.kD tied (H:=⟨[],[],[],[],[],[]⟩) (hold (l:=[]) trivial) rfl (.tmp 0) 3 4 23 23 241 56 aT (fun d=>d.1) (fun d=>⟨(.val (.slice 56 aT) d.1)::.bot::.bF::List.replicate 5 .bot,List.replicate 48 none,[]⟩) Tryz.call173 Tryz.func173 rfl rfl rfl rfl rfl rfl rfl rfl rfl rfl (by kernel_rfl) (fun _=>by kernel_rfl) (fun _=>by kernel_rfl) (fun _=>rfl) (fun _=>by kernel_rfl) (fun _ _=>by kernel_rfl) (fun d h=>by obtain⟨x,y⟩:=d;cases(h:x= []);kernel_rfl) (fun _=>by kernel_rfl)
def Az(a0:ZK):Option ZK:=
 if(List.length ([]:ZK)+a0.length)*96≤aG then some a0 else none
def s34:SS:=⟨8,48,[(2,.own 23)],[(23,.row 126 96 bR)],[]⟩
def GK:aX:=aE G [.tmp 2] 174 [.val (.slice 96 bR)] [] 48 s34 [23] (.bH (u1 Az))
theorem Qs:hS GK:=
 aX.kD tied (H:=⟨[],[],[],[],[],[]⟩) (hold (l:=[]) trivial) rfl (.tmp 0) 3 4 24 24 126 96 bR (fun d=>d.1) (fun d=>⟨(.val (.slice 96 bR) d.1)::.bot::.bF::List.replicate 5 .bot,List.replicate 48 none,[]⟩) Tryz.call174 Tryz.func174 rfl rfl rfl rfl rfl rfl rfl rfl rfl rfl (by kernel_rfl) (fun _=>by kernel_rfl) (fun _=>by kernel_rfl) (fun _=>rfl) (fun _=>by kernel_rfl) (fun _ _=>by kernel_rfl) (fun d h=>by obtain⟨x,y⟩:=d;cases(h:x= []);kernel_rfl) (fun _=>by kernel_rfl)
def AA(a0:Zq):Option Zq:=
 if(List.length ([]:Zq)+a0.length)*96≤aG then some a0 else none
def s35:SS:=⟨8,48,[(2,.own 23)],[(23,.row 137 96 bZ)],[]⟩
def GL:aX:=aE G [.tmp 2] 175 [.val (.slice 96 bZ)] [] 48 s35 [23] (.bH (u1 AA))
theorem Qt:hS GL:=
 aX.kD tied (H:=⟨[],[],[],[],[],[]⟩) (hold (l:=[]) trivial) rfl (.tmp 0) 3 4 25 25 137 96 bZ (fun d=>d.1) (fun d=>⟨(.val (.slice 96 bZ) d.1)::.bot::.bF::List.replicate 5 .bot,List.replicate 48 none,[]⟩) Tryz.call175 Tryz.func175 rfl rfl rfl rfl rfl rfl rfl rfl rfl rfl (by kernel_rfl) (fun _=>by kernel_rfl) (fun _=>by kernel_rfl) (fun _=>rfl) (fun _=>by kernel_rfl) (fun _ _=>by kernel_rfl) (fun d h=>by obtain⟨x,y⟩:=d;cases(h:x= []);kernel_rfl) (fun _=>by kernel_rfl)
def AB(a0:ZN):Option ZN:=
 if(List.length ([]:ZN)+a0.length)*72≤aG then some a0 else none
def s36:SS:=⟨8,48,[(2,.own 23)],[(23,.row 256 72 gA)],[]⟩
def GM:aX:=aE G [.tmp 2] 176 [.val (.slice 72 gA)] [] 48 s36 [23] (.bH (u1 AB))
theorem Qu:hS GM:=
 aX.kD tied (H:=⟨[],[],[],[],[],[]⟩) (hold (l:=[]) trivial) rfl (.tmp 0) 3 4 26 26 256 72 gA (fun d=>d.1) (fun d=>⟨(.val (.slice 72 gA) d.1)::.bot::.bF::List.replicate 5 .bot,List.replicate 48 none,[]⟩) Tryz.call176 Tryz.func176 rfl rfl rfl rfl rfl rfl rfl rfl rfl rfl (by kernel_rfl) (fun _=>by kernel_rfl) (fun _=>by kernel_rfl) (fun _=>rfl) (fun _=>by kernel_rfl) (fun _ _=>by kernel_rfl) (fun d h=>by obtain⟨x,y⟩:=d;cases(h:x= []);kernel_rfl) (fun _=>by kernel_rfl)
def AD(a0:ZI):Option ZI:=
 if(List.length ([]:ZI)+a0.length)*48≤aG then some a0 else none
def s37:SS:=⟨8,48,[(2,.own 23)],[(23,.row 249 48 dY)],[]⟩
def GN:aX:=aE G [.tmp 2] 177 [.val (.slice 48 dY)] [] 48 s37 [23] (.bH (u1 AD))
theorem Qv:hS GN:=
 aX.kD tied (H:=⟨[],[],[],[],[],[]⟩) (hold (l:=[]) trivial) rfl (.tmp 0) 3 4 27 27 249 48 dY (fun d=>d.1) (fun d=>⟨(.val (.slice 48 dY) d.1)::.bot::.bF::List.replicate 5 .bot,List.replicate 48 none,[]⟩) Tryz.call177 Tryz.func177 rfl rfl rfl rfl rfl rfl rfl rfl rfl rfl (by kernel_rfl) (fun _=>by kernel_rfl) (fun _=>by kernel_rfl) (fun _=>rfl) (fun _=>by kernel_rfl) (fun _ _=>by kernel_rfl) (fun d h=>by obtain⟨x,y⟩:=d;cases(h:x= []);kernel_rfl) (fun _=>by kernel_rfl)
def ib(a0:Za)(a1:Zj):Option (Sum AK Int):=
 if(!(cC .str a1 (bE a0)))=true then(some (.inl ((),()))) else(some (.inr (aQ .str qr a1 (bE a0))))
def s38:SS:=⟨18,58,[tI 4],[],[]⟩
def xi:aX:=aE G [.tmp 4] 234 [vM,.val .str] [] 58 s38 [] (.kq (.iface 295 (.val .unit)) (u2 ib))
theorem AE:hS xi:=
 aX.IT tied (H:=⟨[],[],[],[],[],[]⟩) (hold (l:=[]) trivial) aJ rfl Tryz.call234 Tryz.func234 rfl rfl rfl rfl (fun _=>by kernel_rfl) (fun _=>by kernel_rfl)
def wE:Nat→Int×Int×UA→Option (cH UA (Sum AK UA)):=aK fun am3 ⟨t,s,v,w,x,u,y⟩=>if(decide (s<t))=true then(if 0≤s then(if s<(u.length:Int) then(if(decide ((nth aT u s).2.1= []))=true then(am3 (t,aZ (s+1),v,w,x,List.set (List.set u (Int.toNat s) ((nth aT u s).1,(nth aT u s).2.1,(nth aT u s).2.2.1,s,(nth aT u s).2.2.2.2)) (Int.toNat s) ((nth aT (List.set u (Int.toNat s) ((nth aT u s).1,(nth aT u s).2.1,(nth aT u s).2.2.1,s,(nth aT u s).2.2.2.2)) s).1,(nth aT (List.set u (Int.toNat s) ((nth aT u s).1,(nth aT u s).2.1,(nth aT u s).2.2.1,s,(nth aT u s).2.2.2.2)) s).2.1,(nth aT (List.set u (Int.toNat s) ((nth aT u s).1,(nth aT u s).2.1,(nth aT u s).2.2.1,s,(nth aT u s).2.2.2.2)) s).2.2.1,(nth aT (List.set u (Int.toNat s) ((nth aT u s).1,(nth aT u s).2.1,(nth aT u s).2.2.1,s,(nth aT u s).2.2.2.2)) s).2.2.2.1,1,(nth aT (List.set u (Int.toNat s) ((nth aT u s).1,(nth aT u s).2.1,(nth aT u s).2.2.1,s,(nth aT u s).2.2.2.2)) s).2.2.2.2.2),y)) else(fj (ib w (nth aT u s).2.1) (fun p8=>cw (some (.inl (p8.1,())))) fun y4=>aH (U:=Nat×Int×Int×Int×UA) (if(decide (s≤y4))=true then(cw (cw (some (.inl ((),()))))) else(some (.bA (Int.toNat s,y4,t,s,v,w,x,u,y)))) fun⟨c,a,d,e,f,g,h,b,i⟩=>aH (U:=Nat×Int×Int×Int×UA) (if 0≤a then(if a<(b.length:Int) then(some (.bA (c,a,d,e,f,g,h,List.set (List.set b c ((List.getD b c (Ty.aD aT)).1,(List.getD b c (Ty.aD aT)).2.1,(List.getD b c (Ty.aD aT)).2.2.1,(nth aT b a).2.2.2.1,(List.getD b c (Ty.aD aT)).2.2.2.2)) c ((List.getD (List.set b c ((List.getD b c (Ty.aD aT)).1,(List.getD b c (Ty.aD aT)).2.1,(List.getD b c (Ty.aD aT)).2.2.1,(nth aT b a).2.2.2.1,(List.getD b c (Ty.aD aT)).2.2.2.2)) c (Ty.aD aT)).1,(List.getD (List.set b c ((List.getD b c (Ty.aD aT)).1,(List.getD b c (Ty.aD aT)).2.1,(List.getD b c (Ty.aD aT)).2.2.1,(nth aT b a).2.2.2.1,(List.getD b c (Ty.aD aT)).2.2.2.2)) c (Ty.aD aT)).2.1,(List.getD (List.set b c ((List.getD b c (Ty.aD aT)).1,(List.getD b c (Ty.aD aT)).2.1,(List.getD b c (Ty.aD aT)).2.2.1,(nth aT b a).2.2.2.1,(List.getD b c (Ty.aD aT)).2.2.2.2)) c (Ty.aD aT)).2.2.1,(List.getD (List.set b c ((List.getD b c (Ty.aD aT)).1,(List.getD b c (Ty.aD aT)).2.1,(List.getD b c (Ty.aD aT)).2.2.1,(nth aT b a).2.2.2.1,(List.getD b c (Ty.aD aT)).2.2.2.2)) c (Ty.aD aT)).2.2.2.1,0,(List.getD (List.set b c ((List.getD b c (Ty.aD aT)).1,(List.getD b c (Ty.aD aT)).2.1,(List.getD b c (Ty.aD aT)).2.2.1,(nth aT b a).2.2.2.1,(List.getD b c (Ty.aD aT)).2.2.2.2)) c (Ty.aD aT)).2.2.2.2.2),i))) else none) else none) fun⟨k,l,m,n,o,p,q,j,r⟩=>Option.bind (α:=Bool) (if(decide ((2:Int)≤(List.getD j k (Ty.aD aT)).2.2.1))=true then(if(decide ((List.getD j k (Ty.aD aT)).2.2.1≤(1000:Int)))=true then(if 0≤l then(if l<(j.length:Int) then(some (decide ((aZ ((List.getD j k (Ty.aD aT)).2.2.1*(nth aT j l).2.2.2.2.1))≤(1099511627776:Int)))) else none) else none) else(some false)) else(some false)) fun v7=>if v7=true then(if 0≤l then(if l<(j.length:Int) then(am3 (m,aZ (n+1),o,p,q,List.set j k ((List.getD j k (Ty.aD aT)).1,(List.getD j k (Ty.aD aT)).2.1,(List.getD j k (Ty.aD aT)).2.2.1,(List.getD j k (Ty.aD aT)).2.2.2.1,aZ ((List.getD j k (Ty.aD aT)).2.2.1*(nth aT j l).2.2.2.2.1),(List.getD j k (Ty.aD aT)).2.2.2.2.2),r)) else none) else none) else(am3 (m,aZ (n+1),o,p,q,j,r)))) else none) else none) else(some (.bA (v,w,x,u,y)))
def ue(a0:Za)(a1:Za)(a2:Za)(a3:Zz)(a4:ZB):Option (Sum AK UA):=
 aH (U:=UA) (wE (Int.toNat (a3.length:Int)+1) ((a3.length:Int),0,a0,a1,a2,a3,a4)) fun⟨a,b,c,d,e⟩=>some (.inr (a,b,c,d,e))
def Qw:List (Nat×dj):=[(0,rB 2),(1,.row 241 56 aT),(2,.row 306 8 (.map .str qr))]
def s39:SS:=⟨91,131,[tP 0 0,(1,.own 1),(5,.ptr 1 [.idx]),tI 6,tI 8,tI 9],Qw,[]⟩
def s40:SS:=⟨91,131,[],Qw,[]⟩
def s41:SS:=⟨91,131,[tP 0 0,(1,.own 1),tI 8,tI 9],Qw,[]⟩
def GO:aX:=aE G [] 178 [pP 0,.own 1] Qw 131 s40 [0,1,2] (.kq (.iface 295 (.val .unit)) (u5 ue))
theorem Qx:hS GO:=
 aX.IT tied (H:=⟨[hA 6 0,hD 10 76 []],[(9,s39),(10,s39)],[(0,s40)],[(1,⟨s41,fun u2=>Int.toNat u2.1+1⟩)],[],[]⟩) (hold (l:=[xi]) ⟨AE,trivial⟩) aJ rfl Tryz.call178 Tryz.func178 rfl rfl rfl rfl (fun _=>by kernel_rfl) (fun _=>by kernel_rfl)
def AF(a0:ZL):Option ZL:=
 if(List.length ([]:ZL)+a0.length)*120≤aG then some a0 else none
def s43:SS:=⟨8,48,[(2,.own 23)],[(23,.row 122 120 ck)],[]⟩
def GP:aX:=aE G [.tmp 2] 235 [.val (.slice 120 ck)] [] 48 s43 [23] (.bH (u1 AF))
theorem Qz:hS GP:=
 aX.kD tied (H:=⟨[],[],[],[],[],[]⟩) (hold (l:=[]) trivial) rfl (.tmp 0) 3 4 123 123 122 120 ck (fun d=>d.1) (fun d=>⟨(.val (.slice 120 ck) d.1)::.bot::.bF::List.replicate 5 .bot,List.replicate 48 none,[]⟩) Tryz.call235 Tryz.func235 rfl rfl rfl rfl rfl rfl rfl rfl rfl rfl (by kernel_rfl) (fun _=>by kernel_rfl) (fun _=>by kernel_rfl) (fun _=>rfl) (fun _=>by kernel_rfl) (fun _ _=>by kernel_rfl) (fun d h=>by obtain⟨x,y⟩:=d;cases(h:x= []);kernel_rfl) (fun _=>by kernel_rfl)
def AG(a0:EG):Option EG:=
 if(List.length ([]:EG)+a0.length)*72≤aG then some a0 else none
def s45:SS:=⟨8,48,[(2,.own 23)],[(23,.row 324 72 fH)],[]⟩
def GQ:aX:=aE G [.tmp 2] 236 [.val (.slice 72 fH)] [] 48 s45 [23] (.bH (u1 AG))
theorem QA:hS GQ:=
 aX.kD tied (H:=⟨[],[],[],[],[],[]⟩) (hold (l:=[]) trivial) rfl (.tmp 0) 3 4 124 124 324 72 fH (fun d=>d.1) (fun d=>⟨(.val (.slice 72 fH) d.1)::.bot::.bF::List.replicate 5 .bot,List.replicate 48 none,[]⟩) Tryz.call236 Tryz.func236 rfl rfl rfl rfl rfl rfl rfl rfl rfl rfl (by kernel_rfl) (fun _=>by kernel_rfl) (fun _=>by kernel_rfl) (fun _=>rfl) (fun _=>by kernel_rfl) (fun _ _=>by kernel_rfl) (fun d h=>by obtain⟨x,y⟩:=d;cases(h:x= []);kernel_rfl) (fun _=>by kernel_rfl)
def wG:Nat→Za×Int×Int×Zaf→Option (cH (Za×Zaf) (Sum AK Zx)):=aK fun anz ⟨t,r,q,u,v,w,x,y,z,aa,ab,ac,ad,ae,s⟩=>if(decide (q<r))=true then(if 0≤q then(if q<(s.length:Int) then(aH (U:=Za×Nat×Int×Int×Zaf) (some (.bA (t,Int.toNat q,r,q,u,v,w,x,y,z,aa,ab,ac,ad,ae,List.set s (Int.toNat q) ((nth ck s q).1,((nth ck s q).2.1.1,(nth ck s q).2.1.2.1,(nth ck s q).2.1.2.2.1,(nth ck s q).2.1.2.2.2.1,(-1:Int),(nth ck s q).2.1.2.2.2.2.2),(nth ck s q).2.2)))) fun⟨d,b,e,f,g,c,h,i,j,k,l,m,n,o,p,a⟩=>Option.bind (α:=Bool) (if(decide ((List.getD a b (Ty.aD ck)).2.1.1=(1:Int)))=true then(some (!decide ((List.getD a b (Ty.aD ck)).2.1.2.2.2.1= []))) else(some false)) fun v7=>if v7=true then(fj (ib c (List.getD a b (Ty.aD ck)).2.1.2.2.2.1) (fun p9=>cw (some (.inl (p9.1,())))) fun y8=>anz (d,e,aZ (f+1),g,c,h,i,j,k,l,m,n,o,p,List.set a b ((List.getD a b (Ty.aD ck)).1,((List.getD a b (Ty.aD ck)).2.1.1,(List.getD a b (Ty.aD ck)).2.1.2.1,(List.getD a b (Ty.aD ck)).2.1.2.2.1,(List.getD a b (Ty.aD ck)).2.1.2.2.2.1,y8,(List.getD a b (Ty.aD ck)).2.1.2.2.2.2.2),(List.getD a b (Ty.aD ck)).2.2))) else(anz (d,e,aZ (f+1),g,c,h,i,j,k,l,m,n,o,p,a))) else none) else none) else(some (.bA (t,u,v,w,x,y,z,aa,ab,ac,ad,ae,s)))
def sS:Nat→Za×Int×Int×ZQ×ZD→Option (cH (Za×ZD) (cH (Za×ZD) (cH Zx (Sum AK Zx)))):=aK fun rec17 ⟨d,f,g,c,b,a,h,i,j,k,l,m,n,o,p,q,r,s,t,u,v,w,x,e⟩=>if(decide (a<b))=true then(if 0≤a then(if a<(c.length:Int) then(fj (ib d (nth .str c a)) (fun p19=>cw (cw (cw (some (.inl (p19.1,())))))) fun y18=>if(e.length+List.length [y18])*8≤aG then(rec17 (d,f,g,c,b,aZ (a+1),h,i,j,k,l,m,n,o,p,q,r,s,t,u,v,w,x,e++[y18])) else none) else none) else none) else(some (.bA (d,f,g,h,i,j,k,l,m,n,o,p,q,r,s,t,u,v,w,x,e)))
def sT:Nat→Za×Int×Int×Zx→Option (cH Zx (Sum AK Zx)):=aK fun rec13 ⟨av,ar,aq,aw,ax,ay,az,a0,a1,a2,a3,a4,a5,a6,a7,au⟩=>if(decide (aq<ar))=true then(aH (U:=Za×ZD) (if 0≤aq then(if aq<(au.length:Int) then(aH (U:=Za×ZD) (sS (Int.toNat (List.length (nth fH au aq).1:Int)+1) (av,ar,aq,(nth fH au aq).1,(List.length (nth fH au aq).1:Int),0,aw,ax,ay,az,a0,a1,a2,a3,a4,a5,a6,a7,au,Int.toNat aq,(nth fH au aq).1,(nth fH au aq).2.1,(nth fH au aq).2.2.2,([]:Zg))) fun⟨a,c,d,e,f,g,h,i,j,k,l,m,n,o,p,q,r,s,b,t,u⟩=>fj (ib a b) (fun p21=>cw (cw (some (.inl (p21.1,()))))) fun y20=>some (.bA (a,c,d,e,f,g,h,i,j,k,l,m,n,o,p,q,r,s,b,(y20,t.2),u))) else none) else none) fun⟨v,w,x,y,z,aa,ab,ac,ad,ae,af,ag,ah,ai,aj,ak,al,am,an,ap,ao⟩=>rec13 (v,w,aZ (x+1),y,z,aa,ab,ac,ad,ae,af,ag,ah,ai,aj,List.set ak al (am,an,ao,ap))) else(some (.bA (aw,ax,ay,az,a0,a1,a2,a3,a4,a5,a6,a7,au)))
def uf(a0:Za)(a1:Za)(a2:Za)(a3:Za)(a4:ZK)(a5:Nat)(a6:lJ)(a7:ZB):Option (Sum AK Zx):=
 fj (ib a1 a6.2.1) (fun p22=>some (.inl (p22.1,()))) fun y1=>Option.bind (AF a6.2.2.2.2.1) fun y2=>aH (U:=Za×Zaf) (wG (Int.toNat (y2.length:Int)+1) (a0,(y2.length:Int),0,a1,a2,a3,a4,a5,a6.1,a6.2.1,y1,a6.2.2.2.1,a6.2.2.2.2.2,a7,y2)) fun⟨b,c,d,e,f,g,h,i,j,k,a,l,m⟩=>Option.bind (AG a.1) fun y10=>aH (U:=Zx) (sT (Int.toNat (y10.length:Int)+1) (b,(y10.length:Int),0,c,d,e,f,g,h,i,j,k,a.2,l,m,y10)) fun⟨n,o,p,q,r,s,t,u,v,w,x,y,z⟩=>some (.inr (n,o,p,q,r,s,t,u,v,w,x,y,z))
def Ul:List (Nat×dj):=[(0,rB 2),(1,.cY 126 96 bR (.cons (.val .str) (.cons (.val .str) (.cons vI (.cons vI (.cons (.own 45) (.val (.pair (.slice 72 fH) .unit)))))))),(2,.row 306 8 (.map .str qr)),(45,.row 122 120 ck)]
def s46:SS:=⟨132,172,[tP 0 0,(1,.ptr 1 [.cV 1]),(2,vM),(7,.ptr 45 [.idx,.cV 1]),tI 36,tI 37],Ul,[]⟩
def s47:SS:=⟨132,172,[(1,.ptr 1 [.cV 1]),(2,vM)],Ul,[]⟩
def Yi:List (Nat×dj):=[(0,rB 2),(1,.cY 126 96 bR (.cons (.val .str) (.cons (.val .str) (.cons vI (.cons vI (.cons (.own 45) (.cons (.own 96) (.val .unit)))))))),(2,.row 306 8 (.map .str qr)),(45,.row 122 120 ck),(96,.cY 324 72 fH (.cons (.val (.slice 16 .str)) (.cons (.val .str) (.cons (.own 149) (.val (.pair qr .unit)))))),(149,.row 3 8 qr)]
def s48:SS:=⟨132,172,[(1,.ptr 1 [.cV 1]),(2,vM),(9,.ptr 96 [.cV 1]),tI 87,tI 88],Yi,[]⟩
def Yj:List (Nat×Sh):=[(1,.ptr 1 [.cV 1]),(2,vM),tI 87,tI 88]
def s49:SS:=⟨132,172,Yj,Yi,[]⟩
def Yk:List (Nat×dj):=[(0,rB 2),(1,.cY 126 96 bR (.cons (.val .str) (.cons (.val .str) (.cons vI (.cons vI (.cons (.own 45) (.cons (.own 96) (.val .unit)))))))),(2,.row 306 8 (.map .str qr)),(45,.row 122 120 ck),(96,.row 324 72 fH)]
def s50:SS:=⟨132,172,[],Yk,[]⟩
def s51:SS:=⟨132,172,[tP 0 0,(1,.ptr 1 [.cV 1]),(2,vM),tI 36,tI 37],Ul,[]⟩
def s52:SS:=⟨132,172,Yj,Yk,[]⟩
def s53:SS:=⟨132,172,[(1,.ptr 1 [.cV 1]),(2,vM),(9,.ptr 96 [.cV 1]),tI 87,tI 88,(103,.val (.slice 16 .str)),tI 104,tI 105],[(0,rB 2),(1,.cY 126 96 bR (.cons (.val .str) (.cons (.val .str) (.cons vI (.cons vI (.cons (.own 45) (.cons (.own 96) (.val .unit)))))))),(2,.row 306 8 (.map .str qr)),(45,.row 122 120 ck),(96,.cY 324 72 fH (.cons (.val (.slice 16 .str)) (.cons (.val .str) (.cons (.own 148) (.val (.pair qr .unit)))))),(148,.row 3 8 qr)],[]⟩
def GR:aX:=aE G [] 179 [pP 0,.ptr 1 [.cV 1],vM] [(0,rB 2),(1,.cY 126 96 bR (.val bR)),(2,.row 306 8 (.map .str qr))] 172 s50 [0,1,2,45,96] (.kq (.iface 295 (.val .unit)) (u8 uf))
theorem QB:hS GR:=
 aX.IT tied (H:=⟨[hA 0 0,hE 1 [cB 1 [] [(23,45)]],hD 7 61 [],hA 8 0,hE 10 [cB 2 [] [(23,96)]],(15,⟨[],[],[],none,[(96,9)],[],[]⟩),hA 19 0,hA 21 0,(22,⟨[.freeze 149 (.slice 8 qr),.kF 96],[],[],none,[],[],[]⟩)],[(7,s46),(10,s47),(21,s48),(22,s49)],[(2,s50)],[(3,⟨s51,fun u4=>Int.toNat u4.2.1+1⟩),(12,⟨s52,fun LR=>Int.toNat LR.2.1+1⟩),(17,⟨s53,fun u16=>Int.toNat u16.2.2.2.2.1+1⟩)],[],[]⟩) (hold (l:=[xi,GP,GQ]) ⟨AE,Qz,QA,trivial⟩) aJ rfl Tryz.call179 Tryz.func179 rfl rfl rfl rfl (fun _=>by kernel_rfl) (fun _=>by kernel_rfl)
def kP(_q0:Unit):ZW:=
 some (110:Int)
def s54:SS:=⟨17,57,[],[(0,.var iI (.cons .bF (.cons .bF (.cons .bF (.cons .bF (.cons .bF (.cons .bF .nil))))))),(1,bI)],[]⟩
def CI:gw:=⟨171,[.ptr 0 [],.ptr 1 []],[(0,.var iI (.fF iI)),(1,.var qr (.fF qr))],57,.iface 295 (.val .unit),s54,fun r=>pick [0,1] (SS.st s54 y0 r).hp,fun _=>none,fun _ q=>kP q.1⟩
theorem LM:CI.holds Tryz.prog gl:=
 gw.IT tied (H:=⟨[],[],[],[],[],[]⟩) (hold (l:=[]) trivial) rfl Tryz.call171 Tryz.func171 rfl rfl rfl rfl rfl rfl rfl rfl rfl rfl rfl rfl (fun _=>by kernel_rfl) (fun _ _=>by kernel_rfl)
def AH(a0:ZC):Option ZC:=
 if(List.length ([]:ZC)+a0.length)*96≤aG then some a0 else none
def s56:SS:=⟨8,48,[(2,.own 23)],[(23,.row 130 96 aO)],[]⟩
def GS:aX:=aE G [.tmp 2] 237 [.val (.slice 96 aO)] [] 48 s56 [23] (.bH (u1 AH))
theorem QC:hS GS:=
 aX.kD tied (H:=⟨[],[],[],[],[],[]⟩) (hold (l:=[]) trivial) rfl (.tmp 0) 3 4 131 131 130 96 aO (fun d=>d.1) (fun d=>⟨(.val (.slice 96 aO) d.1)::.bot::.bF::List.replicate 5 .bot,List.replicate 48 none,[]⟩) Tryz.call237 Tryz.func237 rfl rfl rfl rfl rfl rfl rfl rfl rfl rfl (by kernel_rfl) (fun _=>by kernel_rfl) (fun _=>by kernel_rfl) (fun _=>rfl) (fun _=>by kernel_rfl) (fun _ _=>by kernel_rfl) (fun d h=>by obtain⟨x,y⟩:=d;cases(h:x= []);kernel_rfl) (fun _=>by kernel_rfl)
def ug(a0:Nat)(a1:ZC)(a2:Zs)(a3:Za)(a4:Za)(a5:Za)(a6:Zq)(a7:Nat)(a8:Zj)(a9:Int)(a10:ZE×ZG×Unit)(a11:ZB):Option (Sum AK ZaE):=
 aH (U:=Nat×ZaE) (some (.bA (a0,List.set (List.set a1 a0 ((List.getD a1 a0 (Ty.aD aO)).1,(List.getD a1 a0 (Ty.aD aO)).2.1,(List.getD a1 a0 (Ty.aD aO)).2.2.1,((List.getD a1 a0 (Ty.aD aO)).2.2.2.1.1,(List.getD a1 a0 (Ty.aD aO)).2.2.2.1.2.1,(-1:Int),(List.getD a1 a0 (Ty.aD aO)).2.2.2.1.2.2.2),(List.getD a1 a0 (Ty.aD aO)).2.2.2.2)) a0 ((List.getD (List.set a1 a0 ((List.getD a1 a0 (Ty.aD aO)).1,(List.getD a1 a0 (Ty.aD aO)).2.1,(List.getD a1 a0 (Ty.aD aO)).2.2.1,((List.getD a1 a0 (Ty.aD aO)).2.2.2.1.1,(List.getD a1 a0 (Ty.aD aO)).2.2.2.1.2.1,(-1:Int),(List.getD a1 a0 (Ty.aD aO)).2.2.2.1.2.2.2),(List.getD a1 a0 (Ty.aD aO)).2.2.2.2)) a0 (Ty.aD aO)).1,(List.getD (List.set a1 a0 ((List.getD a1 a0 (Ty.aD aO)).1,(List.getD a1 a0 (Ty.aD aO)).2.1,(List.getD a1 a0 (Ty.aD aO)).2.2.1,((List.getD a1 a0 (Ty.aD aO)).2.2.2.1.1,(List.getD a1 a0 (Ty.aD aO)).2.2.2.1.2.1,(-1:Int),(List.getD a1 a0 (Ty.aD aO)).2.2.2.1.2.2.2),(List.getD a1 a0 (Ty.aD aO)).2.2.2.2)) a0 (Ty.aD aO)).2.1,(List.getD (List.set a1 a0 ((List.getD a1 a0 (Ty.aD aO)).1,(List.getD a1 a0 (Ty.aD aO)).2.1,(List.getD a1 a0 (Ty.aD aO)).2.2.1,((List.getD a1 a0 (Ty.aD aO)).2.2.2.1.1,(List.getD a1 a0 (Ty.aD aO)).2.2.2.1.2.1,(-1:Int),(List.getD a1 a0 (Ty.aD aO)).2.2.2.1.2.2.2),(List.getD a1 a0 (Ty.aD aO)).2.2.2.2)) a0 (Ty.aD aO)).2.2.1,((List.getD (List.set a1 a0 ((List.getD a1 a0 (Ty.aD aO)).1,(List.getD a1 a0 (Ty.aD aO)).2.1,(List.getD a1 a0 (Ty.aD aO)).2.2.1,((List.getD a1 a0 (Ty.aD aO)).2.2.2.1.1,(List.getD a1 a0 (Ty.aD aO)).2.2.2.1.2.1,(-1:Int),(List.getD a1 a0 (Ty.aD aO)).2.2.2.1.2.2.2),(List.getD a1 a0 (Ty.aD aO)).2.2.2.2)) a0 (Ty.aD aO)).2.2.2.1.1,(List.getD (List.set a1 a0 ((List.getD a1 a0 (Ty.aD aO)).1,(List.getD a1 a0 (Ty.aD aO)).2.1,(List.getD a1 a0 (Ty.aD aO)).2.2.1,((List.getD a1 a0 (Ty.aD aO)).2.2.2.1.1,(List.getD a1 a0 (Ty.aD aO)).2.2.2.1.2.1,(-1:Int),(List.getD a1 a0 (Ty.aD aO)).2.2.2.1.2.2.2),(List.getD a1 a0 (Ty.aD aO)).2.2.2.2)) a0 (Ty.aD aO)).2.2.2.1.2.1,(List.getD (List.set a1 a0 ((List.getD a1 a0 (Ty.aD aO)).1,(List.getD a1 a0 (Ty.aD aO)).2.1,(List.getD a1 a0 (Ty.aD aO)).2.2.1,((List.getD a1 a0 (Ty.aD aO)).2.2.2.1.1,(List.getD a1 a0 (Ty.aD aO)).2.2.2.1.2.1,(-1:Int),(List.getD a1 a0 (Ty.aD aO)).2.2.2.1.2.2.2),(List.getD a1 a0 (Ty.aD aO)).2.2.2.2)) a0 (Ty.aD aO)).2.2.2.1.2.2.1,0,(List.getD (List.set a1 a0 ((List.getD a1 a0 (Ty.aD aO)).1,(List.getD a1 a0 (Ty.aD aO)).2.1,(List.getD a1 a0 (Ty.aD aO)).2.2.1,((List.getD a1 a0 (Ty.aD aO)).2.2.2.1.1,(List.getD a1 a0 (Ty.aD aO)).2.2.2.1.2.1,(-1:Int),(List.getD a1 a0 (Ty.aD aO)).2.2.2.1.2.2.2),(List.getD a1 a0 (Ty.aD aO)).2.2.2.2)) a0 (Ty.aD aO)).2.2.2.1.2.2.2.2),(List.getD (List.set a1 a0 ((List.getD a1 a0 (Ty.aD aO)).1,(List.getD a1 a0 (Ty.aD aO)).2.1,(List.getD a1 a0 (Ty.aD aO)).2.2.1,((List.getD a1 a0 (Ty.aD aO)).2.2.2.1.1,(List.getD a1 a0 (Ty.aD aO)).2.2.2.1.2.1,(-1:Int),(List.getD a1 a0 (Ty.aD aO)).2.2.2.1.2.2.2),(List.getD a1 a0 (Ty.aD aO)).2.2.2.2)) a0 (Ty.aD aO)).2.2.2.2),a2,a3,a4,a5,a6,a7,a8,a9,a10,a11))) fun⟨b,a,c,d,e,f,g,h,i,j,k,l⟩=>if(!decide ((List.getD a b (Ty.aD aO)).2.2.2.1.1= []))=true then(aH (U:=Nat×ZaE) (fj (ib (some c) (List.getD a b (Ty.aD aO)).2.2.2.1.1) (fun p4=>cw (some (.inl (p4.1,())))) fun y3=>some (.bA (b,List.set a b ((List.getD a b (Ty.aD aO)).1,(List.getD a b (Ty.aD aO)).2.1,(List.getD a b (Ty.aD aO)).2.2.1,((List.getD a b (Ty.aD aO)).2.2.2.1.1,(List.getD a b (Ty.aD aO)).2.2.2.1.2.1,y3,(List.getD a b (Ty.aD aO)).2.2.2.1.2.2.2),(List.getD a b (Ty.aD aO)).2.2.2.2),c,d,e,f,g,h,i,j,k,l))) fun⟨n,m,p,q,r,s,t,u,v,w,x,o⟩=>if 0≤(List.getD m n (Ty.aD aO)).2.2.2.1.2.2.1 then(if(List.getD m n (Ty.aD aO)).2.2.2.1.2.2.1<(m.length:Int) then(if 0≤(nth aO m (List.getD m n (Ty.aD aO)).2.2.2.1.2.2.1).2.2.1 then(if(nth aO m (List.getD m n (Ty.aD aO)).2.2.2.1.2.2.1).2.2.1<(o.length:Int) then(fj (ib (nth (.map .str qr) o (nth aO m (List.getD m n (Ty.aD aO)).2.2.2.1.2.2.1).2.2.1) (List.getD m n (Ty.aD aO)).2.2.2.1.2.1) (fun p6=>some (.inl (p6.1,()))) fun y5=>some (.inr (List.set m n ((List.getD m n (Ty.aD aO)).1,(List.getD m n (Ty.aD aO)).2.1,(List.getD m n (Ty.aD aO)).2.2.1,((List.getD m n (Ty.aD aO)).2.2.2.1.1,(List.getD m n (Ty.aD aO)).2.2.2.1.2.1,(List.getD m n (Ty.aD aO)).2.2.2.1.2.2.1,y5,(List.getD m n (Ty.aD aO)).2.2.2.1.2.2.2.2),(List.getD m n (Ty.aD aO)).2.2.2.2),p,q,r,s,t,u,v,w,x,o))) else none) else none) else none) else none) else(some (.inr (a,c,d,e,f,g,h,i,j,k,l)))
def QD:List (Nat×dj):=[(0,.row 130 96 aO),(1,.var (.map .str qr) (.mp 4)),(2,.var (.aS .ptr) (pP 5)),(3,.var (.aS .ptr) (.ptr 6 [.cV 1])),(4,.map .str qr),(5,rB 7),(6,.cY 137 96 bZ (.cons (.val .str) (.cons vI (.cons (.own 0) (.val (.pair (.slice 120 aU) (.pair (.slice 80 bJ) .unit))))))),(7,.row 306 8 (.map .str qr))]
def s57:SS:=⟨50,90,[(0,.ptr 0 [.idx,.cV 3]),tP 1 1,tP 2 2,tP 3 3],QD,[]⟩
def s58:SS:=⟨50,90,[(0,.ptr 0 [.idx,.cV 3]),tP 2 2,tP 3 3],QD,[]⟩
def s59:SS:=⟨50,90,[],QD,[]⟩
def GU:aX:=aE G [] 238 [.ptr 0 [.idx,.cV 3],pP 1,pP 2,pP 3] QD 90 s59 [0,1,2,3,4,5,6,7] (.kq (.iface 295 (.val .unit)) (LR ug))
theorem QE:hS GU:=
 aX.IT tied (H:=⟨[hA 2 0,hA 3 0],[(1,s57),(3,s58)],[],[],[],[]⟩) (hold (l:=[xi]) ⟨AE,trivial⟩) aJ rfl Tryz.call238 Tryz.func238 rfl rfl rfl rfl (fun _=>by kernel_rfl) (fun _=>by kernel_rfl)
def AI(a0:ZE):Option ZE:=
 if(List.length ([]:ZE)+a0.length)*120≤aG then some a0 else none
def s61:SS:=⟨8,48,[(2,.own 23)],[(23,.row 317 120 aU)],[]⟩
def GV:aX:=aE G [.tmp 2] 239 [.val (.slice 120 aU)] [] 48 s61 [23] (.bH (u1 AI))
theorem QF:hS GV:=
 aX.kD tied (H:=⟨[],[],[],[],[],[]⟩) (hold (l:=[]) trivial) rfl (.tmp 0) 3 4 135 135 317 120 aU (fun d=>d.1) (fun d=>⟨(.val (.slice 120 aU) d.1)::.bot::.bF::List.replicate 5 .bot,List.replicate 48 none,[]⟩) Tryz.call239 Tryz.func239 rfl rfl rfl rfl rfl rfl rfl rfl rfl rfl (by kernel_rfl) (fun _=>by kernel_rfl) (fun _=>by kernel_rfl) (fun _=>rfl) (fun _=>by kernel_rfl) (fun _ _=>by kernel_rfl) (fun d h=>by obtain⟨x,y⟩:=d;cases(h:x= []);kernel_rfl) (fun _=>by kernel_rfl)
def uh(a0:Nat)(a1:ZE)(a2:Zs)(a3:Za)(a4:Za)(a5:Za)(a6:Zq)(a7:Nat)(a8:Zj)(a9:Int)(a10:ZG×Unit)(a11:ZB)(a12:ZC):Option (Sum AK ZT):=
 aH (U:=Nat×ZT) (some (.bA (a0,List.set (List.set a1 a0 ((List.getD a1 a0 (Ty.aD aU)).1,((List.getD a1 a0 (Ty.aD aU)).2.1.1,(List.getD a1 a0 (Ty.aD aU)).2.1.2.1,(-1:Int),(List.getD a1 a0 (Ty.aD aU)).2.1.2.2.2),(List.getD a1 a0 (Ty.aD aU)).2.2)) a0 ((List.getD (List.set a1 a0 ((List.getD a1 a0 (Ty.aD aU)).1,((List.getD a1 a0 (Ty.aD aU)).2.1.1,(List.getD a1 a0 (Ty.aD aU)).2.1.2.1,(-1:Int),(List.getD a1 a0 (Ty.aD aU)).2.1.2.2.2),(List.getD a1 a0 (Ty.aD aU)).2.2)) a0 (Ty.aD aU)).1,((List.getD (List.set a1 a0 ((List.getD a1 a0 (Ty.aD aU)).1,((List.getD a1 a0 (Ty.aD aU)).2.1.1,(List.getD a1 a0 (Ty.aD aU)).2.1.2.1,(-1:Int),(List.getD a1 a0 (Ty.aD aU)).2.1.2.2.2),(List.getD a1 a0 (Ty.aD aU)).2.2)) a0 (Ty.aD aU)).2.1.1,(List.getD (List.set a1 a0 ((List.getD a1 a0 (Ty.aD aU)).1,((List.getD a1 a0 (Ty.aD aU)).2.1.1,(List.getD a1 a0 (Ty.aD aU)).2.1.2.1,(-1:Int),(List.getD a1 a0 (Ty.aD aU)).2.1.2.2.2),(List.getD a1 a0 (Ty.aD aU)).2.2)) a0 (Ty.aD aU)).2.1.2.1,(List.getD (List.set a1 a0 ((List.getD a1 a0 (Ty.aD aU)).1,((List.getD a1 a0 (Ty.aD aU)).2.1.1,(List.getD a1 a0 (Ty.aD aU)).2.1.2.1,(-1:Int),(List.getD a1 a0 (Ty.aD aU)).2.1.2.2.2),(List.getD a1 a0 (Ty.aD aU)).2.2)) a0 (Ty.aD aU)).2.1.2.2.1,0,(List.getD (List.set a1 a0 ((List.getD a1 a0 (Ty.aD aU)).1,((List.getD a1 a0 (Ty.aD aU)).2.1.1,(List.getD a1 a0 (Ty.aD aU)).2.1.2.1,(-1:Int),(List.getD a1 a0 (Ty.aD aU)).2.1.2.2.2),(List.getD a1 a0 (Ty.aD aU)).2.2)) a0 (Ty.aD aU)).2.1.2.2.2.2),(List.getD (List.set a1 a0 ((List.getD a1 a0 (Ty.aD aU)).1,((List.getD a1 a0 (Ty.aD aU)).2.1.1,(List.getD a1 a0 (Ty.aD aU)).2.1.2.1,(-1:Int),(List.getD a1 a0 (Ty.aD aU)).2.1.2.2.2),(List.getD a1 a0 (Ty.aD aU)).2.2)) a0 (Ty.aD aU)).2.2),a2,a3,a4,a5,a6,a7,a8,a9,a10,a11,a12))) fun⟨b,a,c,d,e,f,g,h,i,j,k,l,m⟩=>if(!decide ((List.getD a b (Ty.aD aU)).2.1.1= []))=true then(aH (U:=Nat×ZT) (fj (ib (some c) (List.getD a b (Ty.aD aU)).2.1.1) (fun p4=>cw (some (.inl (p4.1,())))) fun y3=>some (.bA (b,List.set a b ((List.getD a b (Ty.aD aU)).1,((List.getD a b (Ty.aD aU)).2.1.1,(List.getD a b (Ty.aD aU)).2.1.2.1,y3,(List.getD a b (Ty.aD aU)).2.1.2.2.2),(List.getD a b (Ty.aD aU)).2.2),c,d,e,f,g,h,i,j,k,l,m))) fun⟨o,n,r,s,t,u,v,w,x,y,z,q,p⟩=>if 0≤(List.getD n o (Ty.aD aU)).2.1.2.2.1 then(if(List.getD n o (Ty.aD aU)).2.1.2.2.1<(p.length:Int) then(if 0≤(nth aO p (List.getD n o (Ty.aD aU)).2.1.2.2.1).2.2.1 then(if(nth aO p (List.getD n o (Ty.aD aU)).2.1.2.2.1).2.2.1<(q.length:Int) then(fj (ib (nth (.map .str qr) q (nth aO p (List.getD n o (Ty.aD aU)).2.1.2.2.1).2.2.1) (List.getD n o (Ty.aD aU)).2.1.2.1) (fun p6=>some (.inl (p6.1,()))) fun y5=>some (.inr (List.set n o ((List.getD n o (Ty.aD aU)).1,((List.getD n o (Ty.aD aU)).2.1.1,(List.getD n o (Ty.aD aU)).2.1.2.1,(List.getD n o (Ty.aD aU)).2.1.2.2.1,y5,(List.getD n o (Ty.aD aU)).2.1.2.2.2.2),(List.getD n o (Ty.aD aU)).2.2),r,s,t,u,v,w,x,y,z,q,p))) else none) else none) else none) else none) else(some (.inr (a,c,d,e,f,g,h,i,j,k,l,m)))
def Um:List (Nat×dj):=[(0,.row 317 120 aU),(1,.var (.map .str qr) (.mp 4)),(2,.var (.aS .ptr) (pP 5)),(3,.var (.aS .ptr) (.ptr 6 [.cV 1])),(4,.map .str qr),(5,rB 7),(6,.cY 137 96 bZ (.cons (.val .str) (.cons vI (.cons (.own 8) (.cons (.own 0) (.val (.pair (.slice 80 bJ) .unit))))))),(7,.row 306 8 (.map .str qr)),(8,.row 130 96 aO)]
def s62:SS:=⟨50,90,[(0,.ptr 0 [.idx,.cV 1]),tP 1 1,tP 2 2,tP 3 3],Um,[]⟩
def s63:SS:=⟨50,90,[(0,.ptr 0 [.idx,.cV 1]),tP 2 2,tP 3 3],Um,[]⟩
def s64:SS:=⟨50,90,[],Um,[]⟩
def GW:aX:=aE G [] 238 [.ptr 0 [.idx,.cV 1],pP 1,pP 2,pP 3] Um 90 s64 [0,1,2,3,4,5,6,7,8] (.kq (.iface 295 (.val .unit)) (IZ uh))
theorem QG:hS GW:=
 aX.IT tied (H:=⟨[hA 2 0,hA 3 0],[(1,s62),(3,s63)],[],[],[],[]⟩) (hold (l:=[xi]) ⟨AE,trivial⟩) aJ rfl Tryz.call238 Tryz.func238 rfl rfl rfl rfl (fun _=>by kernel_rfl) (fun _=>by kernel_rfl)
end Go.Proofs.YtpmlkhjpbjnagaaGreat
