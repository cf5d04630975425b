/- The program's digest is that of the concrete machine: blocks, padding, bytes. No condition beyond what each theorem states. -/
import Derived.Test.YtmpdeifdnbhdiaaGreatDoorL8
namespace Go.Proofs.YtmpdeifdnbhdiaaGreatDoor
open Go.Abs
theorem BQ(s:Cm.S8):up s.l= [((s.a:Nat):Int),((s.b:Nat):Int),((s.c:Nat):Int),((s.d:Nat):Int),((s.e:Nat):Int),((s.f:Nat):Int),((s.g:Nat):Int),((s.h:Nat):Int)]:=rfl
theorem IW{s:Cm.S8}{b:List Nat}(hs:Cm.cM s.l)(hb:Cm.yW b)(hl:b.length=64):cmp (up s.l) (up b)=up (Cm.Aw s b).l:=by
 have hw:=Cm.pY (n:=16) hb
 have hwl:=Cm.my 16 b
 have q1:=DJ (up s.l) b hb hl 16 bC 0 rfl (by omega) (by simp only[bC];omega)
 have q2:=DK (up s.l) hw hwl 48 bC 0 rfl (by omega) (by simp only[bC];omega)
 have q3:=Bc (up s.l) hw hwl 64 bC 0 s rfl (by omega) (by simp only[bC];omega) hs
 have e0:up (Cm.gv 0 b++List.replicate (64 -0) 0)=List.replicate 64 (0:Int):=by
  show List.map Int.ofNat (List.replicate 64 0)=_
  rw[List.map_replicate];rfl
 rw[e0] at q1
 obtain⟨m0,m1,m2,m3,m4,m5,m6,m7⟩:=n32 ((s.a:Nat):Int) ((s.b:Nat):Int) ((s.c:Nat):Int) ((s.d:Nat):Int) ((s.e:Nat):Int) ((s.f:Nat):Int) ((s.g:Nat):Int) ((s.h:Nat):Int)
 rw[←BQ] at m0 m1 m2 m3 m4 m5 m6 m7
 have hr:Cm.tR Cm.jJ s (Cm.gv 16 b)=Cm.vV (Cm.jJ.drop 0) s (fun j=>Cm.Wf (Cm.gv 16 b) (0+j)):=Cm.yX hwl Cm.jJ s 0
 unfold cmp wR
 have c0:((0:Nat):Int)=0:=rfl
 have c16:((16+0:Nat):Int)=16:=rfl
 rw[c0] at q1 q3
 rw[c16] at q2
 rw[q1,bs]
 rw[show up (Cm.gv 16 b++List.replicate 48 0)=up (Cm.Wl (Cm.gv 16 b) 0++List.replicate (48 -0) 0) from rfl,q2,bs,KF,bs,m0,m1,m2,m3,m4,m5,m6,m7,q3,bs,←hr]
 simp only[Qw,Cm.BM,Cm.mz]
 rfl
theorem IX:∀(q:Nat)(s:Cm.S8)(l:List Nat),Cm.cM s.l→Cm.yW l→64*q≤l.length→run q (up s.l) (up l)=up (Cm.Ax q s l).l:=by
 intro q
 induction q with
 |zero=>intro s l _ _ _;rfl
 |
  succ q ih=>
  intro s l hs hb hl
  have ht:(l.take 64).length=64:=by rw[List.length_take];omega
  have hbt:Cm.yW (l.take 64):=fun x hx=>hb x (List.mem_of_mem_take hx)
  have e1:(up l).take 64=up (l.take 64):=by simp[up,List.map_take]
  have e2:(up l).drop 64=up (l.drop 64):=by simp[up,List.map_drop]
  have e3:Cm.Aw s (l.take 64)=Cm.Aw s l:=by
   show s.add (Cm.tR Cm.jJ s (Cm.gv 16 (l.take 64)))=s.add (Cm.tR Cm.jJ s (Cm.gv 16 l))
   rw[Cm.sr 16 64 l (by omega)]
  simp only[run]
  rw[e1,e2,IW hs hbt ht,e3,ih (Cm.Aw s l) (l.drop 64) (Cm.vQ s l) (fun x hx=>hb x (List.mem_of_mem_drop hx)) (by rw[List.length_drop];omega)]
  rfl
theorem oI(n i:Nat)(hn:n≤100000)(hi:8*i≤64):lb n i=(((8*n) >>> (8*i) % 256:Nat):Int):=by
 unfold lb
 have e1:IntKind.u64.wrap ((n:Int)*8)=((8*n:Nat):Int):=by
  rw[uN (by omega) (by omega)];omega
 rw[e1,Nat.min_eq_left hi,Cm.oH,Cm.p9]
theorem BR(n:Nat)(hn:n≤100000):fJ n=up (Cm.nG 8 (8*n)):=by
 have e:Cm.nG 8 (8*n)= [(8*n) >>> 56 % 256,(8*n) >>> 48 % 256,(8*n) >>> 40 % 256,(8*n) >>> 32 % 256,(8*n) >>> 24 % 256,(8*n) >>> 16 % 256,(8*n) >>> 8 % 256,(8*n) >>> 0 % 256]:=by
  simp only[Cm.nG,←Nat.shiftRight_add]
  rfl
 rw[e]
 unfold fJ
 rw[oI n 7 hn (by omega),oI n 6 hn (by omega),oI n 5 hn (by omega),oI n 4 hn (by omega),oI n 3 hn (by omega),oI n 2 hn (by omega),oI n 1 hn (by omega),oI n 0 hn (by omega)]
 rfl
theorem IY(T:List Nat)(h:T.length≤100000):pad (up T)=up (Cm.tT T):=by
 unfold pad Cm.tT
 rw[vu,BR _ h]
 have hz:cD T.length=63 -(T.length+8) % 64:=by unfold cD;omega
 rw[hz]
 show _=List.map Int.ofNat _
 rw[List.map_append,List.map_cons,List.map_append,List.map_replicate]
 rfl
theorem IZ(x:Nat):Cm.Kt x= [x >>> 24 % 256,x >>> 16 % 256,x >>> 8 % 256,x >>> 0 % 256]:=by
 unfold Cm.Kt
 simp only[Cm.nG,←Nat.shiftRight_add]
 rfl
def rO(x:Int):List Int:=[IntKind.u8.wrap (Int.fdiv x (2^24)),IntKind.u8.wrap (Int.fdiv x (2^16)),IntKind.u8.wrap (Int.fdiv x (2^8)),IntKind.u8.wrap (Int.fdiv x (2^0))]
theorem I0(x0 x1 x2 x3 x4 x5 x6 x7:Int):dY [x0,x1,x2,x3,x4,x5,x6,x7] (Int.toNat (32:Int)+1) (0:Int) (Ty.aX aD)=some (rO x0++(rO x1++(rO x2++(rO x3++(rO x4++(rO x5++(rO x6++rO x7))))))):=by kernel_rfl
theorem iA(x:Nat):rO ((x:Nat):Int)=up (Cm.Kt x):=by
 unfold rO
 rw[IZ,Cm.oH,Cm.oH,Cm.oH,Cm.oH,Cm.p9,Cm.p9,Cm.p9,Cm.p9]
 rfl
theorem F0:[(1779033703:Int),(3144134277:Int),(1013904242:Int),(2773480762:Int),(1359893119:Int),(2600822924:Int),(528734635:Int),(1541459225:Int)]=up Cm.H0.l:=rfl
theorem yY:∀ps:List (List Nat),(ps.map up).flatten=up ps.flatten
 |[]=>rfl
 |
  p::ps=>by
  rw[List.map_cons,List.flatten_cons,List.flatten_cons,yY ps]
  show _=List.map Int.ofNat _
  rw[List.map_append]
theorem I2(ps:List (List Nat))(d:List Nat)(h1:ps.length≤1000)(h2:ps.flatten.length≤60000)(hb:∀p∈ps,∀x∈p,x<256)(hd:Cm.EE ps.flatten=some d):f42 (ps.map up)=some (up d):=by
 have hbf:Cm.yW ps.flatten:=by
  intro x hx
  obtain⟨l,hl,hx⟩:=List.mem_flatten.1 hx
  exact hb l hl x hx
 have hds:=Cm.IS hbf h2 hd
 have hbi:∀x∈ps.map up,gN x:=by
  intro x hx
  obtain⟨p,hp,rfl⟩:=List.mem_map.1 hx
  exact J7 (hb p hp)
 have hfl:=yY ps
 obtain⟨g,_⟩:=Qn (ps.map up) [(1779033703:Int),(3144134277:Int),(1013904242:Int),(2773480762:Int),(1359893119:Int),(2600822924:Int),(528734635:Int),(1541459225:Int)] rfl (by simp;omega) hbi (by rw[hfl,vu];omega)
 rw[hfl,vu,IY _ (by omega),F0,IX _ _ _ Cm.BJ (Cm.vU hbf) (by rw[Cm.vT];omega)] at g
 unfold f42
 rw[F0,g,bs,BQ,I0,bs,hds]
 unfold Cm.Ku
 rw[iA,iA,iA,iA,iA,iA,iA,iA]
 congr 1
end Go.Proofs.YtmpdeifdnbhdiaaGreatDoor
