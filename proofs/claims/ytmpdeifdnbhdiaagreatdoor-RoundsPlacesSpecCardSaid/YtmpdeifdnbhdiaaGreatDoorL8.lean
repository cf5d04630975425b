/- The program's digest is that of the concrete machine. No condition beyond what each theorem states. -/
import Derived.Test.YtmpdeifdnbhdiaaGreatDoorL7
import Derived.Test.YtmpdeifdnbhdiaaGreatDoorA5
namespace Go.Proofs.YtmpdeifdnbhdiaaGreatDoor
open Go.Abs
abbrev up(l:List Nat):List Int:=l.map Int.ofNat
theorem vu(l:List Nat):(up l).length=l.length:=by simp[up]
theorem J7{l:List Nat}(h:Cm.yW l):gN (up l):=by
 intro x hx
 obtain⟨n,hn,rfl⟩:=List.mem_map.1 hx
 have:=h n hn
 constructor
 ·exact Int.natCast_nonneg n
 ·show((n:Nat):Int)<256
  omega
theorem Ai{l:List Nat}{i:Nat}(h:i<(up l).length):(up l)[i]=((l.getD i 0:Nat):Int):=by
 have h':i<l.length:=by simpa[up] using h
 simp[up,List.getD_eq_getElem?_getD,h']
theorem Aj{l:List Nat}{b:Nat}(h:∀x∈l,x<b)(h0:0<b)(i:Nat):l.getD i 0<b:=by
 rw[List.getD_eq_getElem?_getD]
 cases hi:l[i]? with
 |none=>simpa using h0
 |some x=>exact h x (List.mem_of_getElem? hi)
theorem Ak(A:List Nat)(y k:Nat):List.set (up (A++List.replicate (k+1) 0)) A.length ((y:Nat):Int)=up ((A++[y])++List.replicate k 0):=by
 have:List.set (up (A++List.replicate (k+1) 0)) A.length ((y:Nat):Int)=up (List.set (A++List.replicate (k+1) 0) A.length y):=by
  show List.set (List.map Int.ofNat _) A.length (Int.ofNat y)=List.map Int.ofNat _
  rw[List.map_set]
 rw[this,List.set_append_right _ _ (Nat.le_refl _),Nat.sub_self]
 simp[List.replicate_succ]
theorem Bb{l:List Nat}{i:Nat}(h:i<l.length):l.drop i=l.getD i 0::l.drop (i+1):=by
 rw[List.drop_eq_getElem_cons h,List.getD_eq_getElem?_getD,List.getElem?_eq_getElem h];rfl
theorem DJ(a0:aQ)(b:List Nat)(hb:Cm.yW b)(hl:b.length=64):∀d n i,16 -i=d→i≤16→d<n→gj a0 (up b) n ((i:Nat):Int) (up (Cm.gv i b++List.replicate (64 -i) 0))=some (up (Cm.gv 16 b++List.replicate 48 0)):=by
 intro d
 induction d with
 |
  zero=>
  intro n i hd hi hn
  obtain⟨n,rfl⟩:∃m,n=m+1:=⟨n -1,by omega⟩
  have:i=16:=by omega
  subst this
  simp only[gj]
  rw[if_neg (by rw[decide_eq_true_eq];omega)]
 |
  succ d ih=>
  intro n i hd hi hn
  obtain⟨n,rfl⟩:∃m,n=m+1:=⟨n -1,by omega⟩
  have hi16:i<16:=by omega
  simp only[gj]
  rw[if_pos (by rw[decide_eq_true_eq];omega)]
  have e1:al ((4:Int)*(i:Int))=((4*i:Nat):Int):=by rw[aN (by omega) (by omega)];omega
  have e2:al (((4*i:Nat):Int)+4)=((4*i+4:Nat):Int):=by rw[aN (by omega) (by omega)];omega
  have hl':(up b).length=64:=by rw[vu,hl]
  rw[e1,e2,if_pos (by rw[hl'];omega),Int.toNat_natCast,Int.toNat_natCast,KA (up b) (4*i) (by omega)]
  rw[Ai,Ai,Ai,Ai]
  have g:=Aj (b:=256) hb (by omega)
  rw[Kz _ _ _ _ (g _) (g _) (g _) (g _),bs,if_pos (by omega),Int.toNat_natCast,aE (by omega)]
  have e3:64 -i=(63 -i)+1:=by omega
  have hlen:(Cm.gv i b).length=i:=Cm.my i b
  have hs:=Ak (Cm.gv i b) (word (b.getD (4*i) 0) (b.getD (4*i+1) 0) (b.getD (4*i+2) 0) (b.getD (4*i+3) 0)) (63 -i)
  rw[hlen,←e3] at hs
  rw[hs]
  have:=ih n (i+1) (by omega) (by omega) (by omega)
  rw[Cm.sq,show 64 -(i+1)=63 -i by omega] at this
  exact this
theorem rJ{a k:Nat}(ha:a<Cm.cw)(h2:k≤31):da ((a:Nat):Int) ((k:Nat):Int)=some ((Cm.cE a k:Nat):Int):=by
 rw[kf _ k h2]
 exact congrArg some (Cm.On ha h2)
theorem DK(a0:aQ){ws:List Nat}(hw:Cm.cM ws)(hl:ws.length=16):∀d n k,48 -k=d→k≤48→d<n→gk a0 n ((16+k:Nat):Int) (up (Cm.Wl ws k++List.replicate (48 -k) 0))=some (up (Cm.Wl ws 48)):=by
 intro d
 induction d with
 |
  zero=>
  intro n k hd hk hn
  obtain⟨n,rfl⟩:∃m,n=m+1:=⟨n -1,by omega⟩
  have:k=48:=by omega
  subst this
  simp only[gk]
  rw[if_neg (by rw[decide_eq_true_eq];omega)]
  simp
 |
  succ d ih=>
  intro n k hd hk hn
  obtain⟨n,rfl⟩:∃m,n=m+1:=⟨n -1,by omega⟩
  have hk48:k<48:=by omega
  have hwl:=Cm.qa hl k
  have hwd:=Cm.BO hw k
  have e15:al (((16+k:Nat):Int) -15)=((k+1:Nat):Int):=by rw[aN (by omega) (by omega)];omega
  have e2:al (((16+k:Nat):Int) -2)=((k+14:Nat):Int):=by rw[aN (by omega) (by omega)];omega
  have e16:al (((16+k:Nat):Int) -16)=((k:Nat):Int):=by rw[aN (by omega) (by omega)];omega
  have e7:al (((16+k:Nat):Int) -7)=((k+9:Nat):Int):=by rw[aN (by omega) (by omega)];omega
  have hlen:(Cm.Wl ws k++List.replicate (48 -k) 0).length=64:=by rw[List.length_append,hwl,List.length_replicate];omega
  have at_:∀j,j<16+k→nth (.int .u32) (up (Cm.Wl ws k++List.replicate (48 -k) 0)) ((j:Nat):Int)=(((Cm.Wl ws k).getD j 0:Nat):Int):=by
   intro j hj
   rw[Cm.IU (by omega),List.getD_eq_getElem?_getD,List.getElem?_append_left (by omega),←List.getD_eq_getElem?_getD]
  have lt:=Aj (b:=Cm.cw) hwd (by decide)
  have p7:∀{a:Nat},a<Cm.cw→da ((a:Nat):Int) 7=some ((Cm.cE a 7:Nat):Int):=fun h=>rJ (k:=7) h (by omega)
  have p18:∀{a:Nat},a<Cm.cw→da ((a:Nat):Int) 18=some ((Cm.cE a 18:Nat):Int):=fun h=>rJ (k:=18) h (by omega)
  have p17:∀{a:Nat},a<Cm.cw→da ((a:Nat):Int) 17=some ((Cm.cE a 17:Nat):Int):=fun h=>rJ (k:=17) h (by omega)
  have p19:∀{a:Nat},a<Cm.cw→da ((a:Nat):Int) 19=some ((Cm.cE a 19:Nat):Int):=fun h=>rJ (k:=19) h (by omega)
  simp only[gk]
  rw[if_pos (by rw[decide_eq_true_eq];omega),e15,e2,e16,e7,if_pos (by omega),if_pos (by omega),if_pos (by omega),at_ (k+1) (by omega),at_ (k+14) (by omega),at_ k (by omega),at_ (k+9) (by omega)]
  rw[p7 (lt _),bs,p18 (lt _),bs,if_pos (by omega),p17 (lt _),bs,p19 (lt _),bs,if_pos (by omega),Int.toNat_natCast,show((16+k:Nat):Int)+1=((16+(k+1):Nat):Int) by omega,aN (by omega) (by omega)]
  have l7:=Cm.fZ (lt (k+1)) (k:=7) (by omega) (by omega)
  have l18:=Cm.fZ (lt (k+1)) (k:=18) (by omega) (by omega)
  have l17:=Cm.fZ (lt (k+14)) (k:=17) (by omega) (by omega)
  have l19:=Cm.fZ (lt (k+14)) (k:=19) (by omega) (by omega)
  have s3:Int.fdiv (((Cm.Wl ws k).getD (k+1) 0:Nat):Int) (2^(min (Int.toNat (3:Int)) 32))=(((Cm.Wl ws k).getD (k+1) 0 >>> 3:Nat):Int):=Cm.oH _ 3
  have s10:Int.fdiv (((Cm.Wl ws k).getD (k+14) 0:Nat):Int) (2^(min (Int.toNat (10:Int)) 32))=(((Cm.Wl ws k).getD (k+14) 0 >>> 10:Nat):Int):=Cm.oH _ 10
  rw[s3,s10,Cm.oX l7 l18,Cm.oX (Cm.lO l7 l18) (Cm.xU (lt _) 3),Cm.oX l17 l19,Cm.oX (Cm.lO l17 l19) (Cm.xU (lt _) 10),Cm.BM,Cm.mz,Cm.BM,Cm.mz,Cm.BM,Cm.mz]
  have hs:=Ak (Cm.Wl ws k) (Cm.nw ((Cm.Wl ws k).getD k 0) ((Cm.Wl ws k).getD (k+1) 0) ((Cm.Wl ws k).getD (k+9) 0) ((Cm.Wl ws k).getD (k+14) 0)) (47 -k)
  rw[hwl,show 47 -k+1=48 -k by omega] at hs
  have hnw:((((Cm.Wl ws k).getD k 0+(Cm.cE ((Cm.Wl ws k).getD (k+1) 0) 7 ^^^ Cm.cE ((Cm.Wl ws k).getD (k+1) 0) 18 ^^^ (Cm.Wl ws k).getD (k+1) 0 >>> 3)) % Cm.cw+(Cm.Wl ws k).getD (k+9) 0) % Cm.cw+(Cm.cE ((Cm.Wl ws k).getD (k+14) 0) 17 ^^^ Cm.cE ((Cm.Wl ws k).getD (k+14) 0) 19 ^^^ (Cm.Wl ws k).getD (k+14) 0 >>> 10)) % Cm.cw=Cm.nw ((Cm.Wl ws k).getD k 0) ((Cm.Wl ws k).getD (k+1) 0) ((Cm.Wl ws k).getD (k+9) 0) ((Cm.Wl ws k).getD (k+14) 0):=by
   show _=((Cm.Wl ws k).getD k 0+(Cm.cE ((Cm.Wl ws k).getD (k+1) 0) 7 ^^^ Cm.cE ((Cm.Wl ws k).getD (k+1) 0) 18 ^^^ (Cm.Wl ws k).getD (k+1) 0 >>> 3)+((Cm.Wl ws k).getD (k+9) 0+(Cm.cE ((Cm.Wl ws k).getD (k+14) 0) 17 ^^^ Cm.cE ((Cm.Wl ws k).getD (k+14) 0) 19 ^^^ (Cm.Wl ws k).getD (k+14) 0 >>> 10))) % Cm.cw
   simp only[Cm.cw]
   omega
  rw[hnw,hs]
  have:=ih n (k+1) (by omega) (by omega) (by omega)
  rw[show 48 -(k+1)=47 -k by omega] at this
  exact this
theorem rK:gV=up Cm.jJ:=by kernel_rfl
def Qw(s:Cm.S8):Int×Int×Int×Int×Int×Int×Int×Int:=((s.a:Int),(s.b:Int),(s.c:Int),(s.d:Int),(s.e:Int),(s.f:Int),(s.g:Int),(s.h:Int))
theorem Bc(a0:aQ){ws:List Nat}(_hw:Cm.cM ws)(hl:ws.length=16):∀d n i(s:Cm.S8),64 -i=d→i≤64→d<n→Cm.cM s.l→
 dC a0 (up (Cm.Wl ws 48)) gV n ((s.a:Nat):Int) ((s.b:Nat):Int) ((s.c:Nat):Int) ((s.d:Nat):Int) ((s.e:Nat):Int) ((s.f:Nat):Int) ((s.g:Nat):Int) ((s.h:Nat):Int) ((i:Nat):Int)=some (Qw (Cm.vV (Cm.jJ.drop i) s (fun j=>Cm.Wf ws (i+j)))):=by
 intro d
 induction d with
 |
  zero=>
  intro n i s hd hi hn hs
  obtain⟨n,rfl⟩:∃m,n=m+1:=⟨n -1,by omega⟩
  have:i=64:=by omega
  subst this
  simp only[dC]
  rw[if_neg (by rw[decide_eq_true_eq];omega)]
  rfl
 |
  succ d ih=>
  intro n i s hd hi hn hs
  obtain⟨n,rfl⟩:∃m,n=m+1:=⟨n -1,by omega⟩
  have hi64:i<64:=by omega
  obtain⟨a,b,c,dd,e,f,g,h⟩:=s
  have h1:=hs.head
  have h2:=hs.tail.head
  have h3:=hs.tail.tail.head
  have h4:=hs.tail.tail.tail.head
  have h5:=hs.tail.tail.tail.tail.head
  have h6:=hs.tail.tail.tail.tail.tail.head
  have h7:=hs.tail.tail.tail.tail.tail.tail.head
  have hkl:Cm.jJ.length=64:=by decide
  have hwl:=Cm.qa hl 48
  have ek:nth (.int .u32) gV ((i:Nat):Int)=((Cm.jJ.getD i 0:Nat):Int):=by rw[rK];exact Cm.IU (by rw[hkl];omega)
  have ew:nth (.int .u32) (up (Cm.Wl ws 48)) ((i:Nat):Int)=((Cm.Wf ws i:Nat):Int):=by rw[Cm.IU (by omega),Cm.Kx hl (by omega)]
  have p:∀{x:Nat}(k:Nat),x<Cm.cw→k≤31→da ((x:Nat):Int) ((k:Nat):Int)=some ((Cm.cE x k:Nat):Int):=fun k h h2=>rJ h h2
  have p6:=p 6 h5 (by omega)
  have p11:=p 11 h5 (by omega)
  have p25:=p 25 h5 (by omega)
  have p2:=p 2 h1 (by omega)
  have p13:=p 13 h1 (by omega)
  have p22:=p 22 h1 (by omega)
  have r:∀{x:Nat}(k:Nat),x<Cm.cw→1≤k→k≤31→Cm.cE x k<Cm.cw:=fun k h h1 h2=>Cm.fZ h h1 h2
  have hmax:IntKind.u32.max=((4294967295:Nat):Int):=rfl
  have hnot:(4294967295:Nat)<Cm.cw:=by decide
  simp only[dC]
  rw[if_pos (by rw[decide_eq_true_eq];omega),show(6:Int)=((6:Nat):Int) from rfl,p6,bs,show(11:Int)=((11:Nat):Int) from rfl,p11,bs,show(25:Int)=((25:Nat):Int) from rfl,p25,bs,if_pos (by omega),show(2:Int)=((2:Nat):Int) from rfl,p2,bs,show(13:Int)=((13:Nat):Int) from rfl,p13,bs,show(22:Int)=((22:Nat):Int) from rfl,p22,bs,ek,ew,hmax]
  rw[Cm.oX (r 6 h5 (by omega) (by omega)) (r 11 h5 (by omega) (by omega)),Cm.oX (Cm.lO (r 6 h5 (by omega) (by omega)) (r 11 h5 (by omega) (by omega))) (r 25 h5 (by omega) (by omega)),
   Cm.oX (r 2 h1 (by omega) (by omega)) (r 13 h1 (by omega) (by omega)),Cm.oX (Cm.lO (r 2 h1 (by omega) (by omega)) (r 13 h1 (by omega) (by omega))) (r 22 h1 (by omega) (by omega)),
   Cm.BN h5 h6,Cm.oX hnot h5,Cm.BN (Cm.lO hnot h5) h7,Cm.oX (Cm.lP h5) (Cm.lP (Cm.lO hnot h5)),
   Cm.BN h1 h2,Cm.BN h1 h3,Cm.BN h2 h3,Cm.oX (Cm.lP h1) (Cm.lP h1),Cm.oX (Cm.lO (Cm.lP h1) (Cm.lP h1)) (Cm.lP h2)]
  simp only[Cm.BM,Cm.mz]
  rw[aE (by omega)]
  have nxs:=Cm.S8.BE hs (Cm.jJ.getD i 0) (Cm.Wf ws i)
  have:=ih n (i+1) (Cm.S8.nx ⟨a,b,c,dd,e,f,g,h⟩ (Cm.jJ.getD i 0) (Cm.Wf ws i)) (by omega) (by omega) (by omega) nxs
  have hdrop:=Bb (l:=Cm.jJ) (i:=i) (by rw[hkl];omega)
  rw[hdrop,Cm.AA]
  generalize Cm.jJ.drop (i+1)=ks at this
  generalize Cm.jJ.getD i 0=kk at this
  obtain⟨r1,r2,r3,r4,r5,r6⟩:=Cm.Ot ⟨a,b,c,dd,e,f,g,h⟩ kk (Cm.Wf ws i)
  rw[Cm.Oo,Cm.Oq,r1,r2,r3,r4,r5,r6] at this
  rw[Cm.QD,Cm.QE]
  exact this
end Go.Proofs.YtmpdeifdnbhdiaaGreatDoor
