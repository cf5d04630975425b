/- The program's digest is that of the concrete machine: blocks, padding, bytes. No condition beyond what each theorem states. -/
import Derived.Test.YtmpdeifdnbhdiaaGreatDoorL8
namespace Go.Proofs.YtmpdeifdnbhdiaaGreatDoor
open Go.Abs
theorem Ak(s:Cm.S8):up s.l= [((s.a:Nat):Int),((s.b:Nat):Int),((s.c:Nat):Int),((s.d:Nat):Int),((s.e:Nat):Int),((s.f:Nat):Int),((s.g:Nat):Int),((s.h:Nat):Int)]:=rfl
theorem Ev{s:Cm.S8}{b:List Nat}(hs:Cm.cF s.l)(hb:Cm.xv b)(hl:b.length=64):cmp (up s.l) (up b)=up (Cm.yN s b).l:=by
 have hw:=Cm.oV (n:=16) hb
 have hwl:=Cm.lN 16 b
 have q1:=B0 (up s.l) b hb hl 16 cS 0 rfl (by omega) (by simp only[cS];omega)
 have q2:=B1 (up s.l) hw hwl 48 cS 0 rfl (by omega) (by simp only[cS];omega)
 have q3:=zB (up s.l) hw hwl 64 cS 0 s rfl (by omega) (by simp only[cS];omega) hs
 have e0:up (Cm.fO 0 b++List.replicate (64 -0) 0)=List.replicate 64 (0:Int):=by
  show List.map Int.ofNat (List.replicate 64 0)=_
  rw[List.map_replicate];rfl
 rw[e0] at q1
 obtain⟨m0,m1,m2,m3,m4,m5,m6,m7⟩:=n32 ((s.a:Nat):Int) ((s.b:Nat):Int) ((s.c:Nat):Int) ((s.d:Nat):Int) ((s.e:Nat):Int) ((s.f:Nat):Int) ((s.g:Nat):Int) ((s.h:Nat):Int)
 rw[←Ak] at m0 m1 m2 m3 m4 m5 m6 m7
 have hr:Cm.sd Cm.jk s (Cm.fO 16 b)=Cm.ug (Cm.jk.drop 0) s (fun j=>Cm.Wf (Cm.fO 16 b) (0+j)):=Cm.xw hwl Cm.jk s 0
 unfold cmp f119
 have c0:((0:Nat):Int)=0:=rfl
 have c16:((16+0:Nat):Int)=16:=rfl
 rw[c0] at q1 q3
 rw[c16] at q2
 rw[q1,bs]
 rw[show up (Cm.fO 16 b++List.replicate 48 0)=up (Cm.Wl (Cm.fO 16 b) 0++List.replicate (48 -0) 0) from rfl,q2,bs,Gi,bs,m0,m1,m2,m3,m4,m5,m6,m7,q3,bs,←hr]
 simp only[Kb,Cm.Ah,Cm.lO]
 rfl
theorem Ew:∀(q:Nat)(s:Cm.S8)(l:List Nat),Cm.cF s.l→Cm.xv l→64*q≤l.length→run q (up s.l) (up l)=up (Cm.yO q s l).l:=by
 intro q
 induction q with
 |zero=>intro s l _ _ _;rfl
 |
  succ q ih=>
  intro s l hs hb hl
  have ht:(l.take 64).length=64:=by rw[List.length_take];omega
  have hbt:Cm.xv (l.take 64):=fun x hx=>hb x (List.mem_of_mem_take hx)
  have e1:(up l).take 64=up (l.take 64):=by simp[up,List.map_take]
  have e2:(up l).drop 64=up (l.drop 64):=by simp[up,List.map_drop]
  have e3:Cm.yN s (l.take 64)=Cm.yN s l:=by
   show s.add (Cm.sd Cm.jk s (Cm.fO 16 (l.take 64)))=s.add (Cm.sd Cm.jk s (Cm.fO 16 l))
   rw[Cm.qX 16 64 l (by omega)]
  simp only[run]
  rw[e1,e2,Ev hs hbt ht,e3,ih (Cm.yN s l) (l.drop 64) (Cm.ub s l) (fun x hx=>hb x (List.mem_of_mem_drop hx)) (by rw[List.length_drop];omega)]
  rfl
theorem nG(n i:Nat)(hn:n≤100000)(hi:8*i≤64):lb n i=(((8*n) >>> (8*i) % 256:Nat):Int):=by
 unfold lb
 have e1:IntKind.u64.wrap ((n:Int)*8)=((8*n:Nat):Int):=by
  rw[wW (by omega) (by omega)];omega
 rw[e1,Nat.min_eq_left hi,Cm.nF,Cm.oY]
theorem Al(n:Nat)(hn:n≤100000):gi n=up (Cm.mK 8 (8*n)):=by
 have e:Cm.mK 8 (8*n)= [(8*n) >>> 56 % 256,(8*n) >>> 48 % 256,(8*n) >>> 40 % 256,(8*n) >>> 32 % 256,(8*n) >>> 24 % 256,(8*n) >>> 16 % 256,(8*n) >>> 8 % 256,(8*n) >>> 0 % 256]:=by
  simp only[Cm.mK,←Nat.shiftRight_add]
  rfl
 rw[e]
 unfold gi
 rw[nG n 7 hn (by omega),nG n 6 hn (by omega),nG n 5 hn (by omega),nG n 4 hn (by omega),nG n 3 hn (by omega),nG n 2 hn (by omega),nG n 1 hn (by omega),nG n 0 hn (by omega)]
 rfl
theorem Ey(T:List Nat)(h:T.length≤100000):pad (up T)=up (Cm.sg T):=by
 unfold pad Cm.sg
 rw[tL,Al _ h]
 have hz:cO T.length=63 -(T.length+8) % 64:=by unfold cO;omega
 rw[hz]
 show _=List.map Int.ofNat _
 rw[List.map_append,List.map_cons,List.map_append,List.map_replicate]
 rfl
theorem Ez(x:Nat):Cm.F8 x= [x >>> 24 % 256,x >>> 16 % 256,x >>> 8 % 256,x >>> 0 % 256]:=by
 unfold Cm.F8
 simp only[Cm.mK,←Nat.shiftRight_add]
 rfl
def qC(x:Int):List Int:=[IntKind.u8.wrap (Int.fdiv x (2^24)),IntKind.u8.wrap (Int.fdiv x (2^16)),IntKind.u8.wrap (Int.fdiv x (2^8)),IntKind.u8.wrap (Int.fdiv x (2^0))]
theorem EA(x0 x1 x2 x3 x4 x5 x6 x7:Int):fw [x0,x1,x2,x3,x4,x5,x6,x7] (Int.toNat (32:Int)+1) (0:Int) (Ty.bu aC)=some (qC x0++(qC x1++(qC x2++(qC x3++(qC x4++(qC x5++(qC x6++qC x7))))))):=by kernel_rfl
theorem gZ(x:Nat):qC ((x:Nat):Int)=up (Cm.F8 x):=by
 unfold qC
 rw[Ez,Cm.nF,Cm.nF,Cm.nF,Cm.nF,Cm.oY,Cm.oY,Cm.oY,Cm.oY]
 rfl
theorem DS:[(1779033703:Int),(3144134277:Int),(1013904242:Int),(2773480762:Int),(1359893119:Int),(2600822924:Int),(528734635:Int),(1541459225:Int)]=up Cm.H0.l:=rfl
theorem xx:∀ps:List (List Nat),(ps.map up).flatten=up ps.flatten
 |[]=>rfl
 |
  p::ps=>by
  rw[List.map_cons,List.flatten_cons,List.flatten_cons,xx ps]
  show _=List.map Int.ofNat _
  rw[List.map_append]
theorem EB(ps:List (List Nat))(d:List Nat)(h1:ps.length≤1000)(h2:ps.flatten.length≤60000)(hb:∀p∈ps,∀x∈p,x<256)(hd:Cm.CO ps.flatten=some d):f42 (ps.map up)=some (up d):=by
 have hbf:Cm.xv ps.flatten:=by
  intro x hx
  obtain⟨l,hl,hx⟩:=List.mem_flatten.1 hx
  exact hb l hl x hx
 have hds:=Cm.Ep hbf h2 hd
 have hbi:∀x∈ps.map up,jG x:=by
  intro x hx
  obtain⟨p,hp,rfl⟩:=List.mem_map.1 hx
  exact FK (hb p hp)
 have hfl:=xx ps
 obtain⟨g,_⟩:=KF (ps.map up) [(1779033703:Int),(3144134277:Int),(1013904242:Int),(2773480762:Int),(1359893119:Int),(2600822924:Int),(528734635:Int),(1541459225:Int)] rfl (by simp;omega) hbi (by rw[hfl,tL];omega)
 rw[hfl,tL,Ey _ (by omega),DS,Ew _ _ _ Cm.Ae (Cm.uf hbf) (by rw[Cm.ue];omega)] at g
 unfold f42
 rw[DS,g,bs,Ak,EA,bs,hds]
 unfold Cm.F9
 rw[gZ,gZ,gZ,gZ,gZ,gZ,gZ,gZ]
 congr 1
end Go.Proofs.YtmpdeifdnbhdiaaGreatDoor
