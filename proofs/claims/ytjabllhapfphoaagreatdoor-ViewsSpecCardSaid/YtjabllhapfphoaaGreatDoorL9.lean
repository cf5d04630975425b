/- The program's digest is that of the concrete machine: blocks, padding, bytes. No condition beyond what each theorem states. -/
import Derived.Test.YtjabllhapfphoaaGreatDoorL8
namespace Go.Proofs.YtjabllhapfphoaaGreatDoor
open Go.Abs
theorem Bv(s:Cm.S8):up s.l= [((s.a:Nat):Int),((s.b:Nat):Int),((s.c:Nat):Int),((s.d:Nat):Int),((s.e:Nat):Int),((s.f:Nat):Int),((s.g:Nat):Int),((s.h:Nat):Int)]:=rfl
theorem F5{s:Cm.S8}{b:List Nat}(hs:Cm.c5 s.l)(hb:Cm.yS b)(hl:b.length=64):cmp (up s.l) (up b)=up (Cm.Ag s b).l:=by
 have hw:=Cm.qq (n:=16) hb
 have hwl:=Cm.m9 16 b
 have q1:=Bp (up s.l) b hb hl 16 bX 0 rfl (by omega) (by simp only[bX];omega)
 have q2:=Bq (up s.l) hw hwl 48 bX 0 rfl (by omega) (by simp only[bX];omega)
 have q3:=zY (up s.l) hw hwl 64 bX 0 s rfl (by omega) (by simp only[bX];omega) hs
 have e0:up (Cm.gi 0 b++List.replicate (64 -0) 0)=List.replicate 64 (0:Int):=by
  show List.map Int.ofNat (List.replicate 64 0)=_
  rw[List.map_replicate];rfl
 rw[e0] at q1
 obtain⟨m0,m1,m2,m3,m4,m5,m6,m7⟩:=Ka ((s.a:Nat):Int) ((s.b:Nat):Int) ((s.c:Nat):Int) ((s.d:Nat):Int) ((s.e:Nat):Int) ((s.f:Nat):Int) ((s.g:Nat):Int) ((s.h:Nat):Int)
 rw[←Bv] at m0 m1 m2 m3 m4 m5 m6 m7
 have hr:Cm.ub Cm.jq s (Cm.gi 16 b)=Cm.wm (Cm.jq.drop 0) s (fun j=>Cm.Wf (Cm.gi 16 b) (0+j)):=Cm.yU hwl Cm.jq s 0
 unfold cmp f281
 have c0:((0:Nat):Int)=0:=rfl
 have c16:((16+0:Nat):Int)=16:=rfl
 rw[c0] at q1 q3
 rw[c16] at q2
 rw[q1,bs]
 rw[show up (Cm.gi 16 b++List.replicate 48 0)=up (Cm.Wl (Cm.gi 16 b) 0++List.replicate (48 -0) 0) from rfl,q2,bs,GY,bs,m0,m1,m2,m3,m4,m5,m6,m7,q3,bs,←hr]
 simp only[KD,Cm.B3,Cm.nc]
 rfl
theorem F6:∀(q:Nat)(s:Cm.S8)(l:List Nat),Cm.c5 s.l→Cm.yS l→64*q≤l.length→run q (up s.l) (up l)=up (Cm.Ah q s l).l:=by
 intro q
 induction q with
 |zero=>intro s l _ _ _;rfl
 |
  succ q ih=>
  intro s l hs hb hl
  have ht:(l.take 64).length=64:=by rw[List.length_take];omega
  have hbt:Cm.yS (l.take 64):=fun x hx=>hb x (List.mem_of_mem_take hx)
  have e1:(up l).take 64=up (l.take 64):=by simp[up,List.map_take]
  have e2:(up l).drop 64=up (l.drop 64):=by simp[up,List.map_drop]
  have e3:Cm.Ag s (l.take 64)=Cm.Ag s l:=by
   show s.add (Cm.ub Cm.jq s (Cm.gi 16 (l.take 64)))=s.add (Cm.ub Cm.jq s (Cm.gi 16 l))
   rw[Cm.sJ 16 64 l (by omega)]
  simp only[run]
  rw[e1,e2,F5 hs hbt ht,e3,ih (Cm.Ag s l) (l.drop 64) (Cm.wc s l) (fun x hx=>hb x (List.mem_of_mem_drop hx)) (by rw[List.length_drop];omega)]
  rfl
theorem oK(n i:Nat)(hn:n≤100000)(hi:8*i≤64):lb n i=(((8*n) >>> (8*i) % 256:Nat):Int):=by
 unfold lb
 have e1:IntKind.u64.wrap ((n:Int)*8)=((8*n:Nat):Int):=by
  rw[uf (by omega) (by omega)];omega
 rw[e1,Nat.min_eq_left hi,Cm.oL,Cm.qw]
theorem Bw(n:Nat)(hn:n≤100000):fD n=up (Cm.n8 8 (8*n)):=by
 have e:Cm.n8 8 (8*n)= [(8*n) >>> 56 % 256,(8*n) >>> 48 % 256,(8*n) >>> 40 % 256,(8*n) >>> 32 % 256,(8*n) >>> 24 % 256,(8*n) >>> 16 % 256,(8*n) >>> 8 % 256,(8*n) >>> 0 % 256]:=by
  simp only[Cm.n8,←Nat.shiftRight_add]
  rfl
 rw[e]
 unfold fD
 rw[oK n 7 hn (by omega),oK n 6 hn (by omega),oK n 5 hn (by omega),oK n 4 hn (by omega),oK n 3 hn (by omega),oK n 2 hn (by omega),oK n 1 hn (by omega),oK n 0 hn (by omega)]
 rfl
theorem F7(T:List Nat)(h:T.length≤100000):pad (up T)=up (Cm.ud T):=by
 unfold pad Cm.ud
 rw[tR,Bw _ h]
 have hz:cQ T.length=63 -(T.length+8) % 64:=by unfold cQ;omega
 rw[hz]
 show _=List.map Int.ofNat _
 rw[List.map_append,List.map_cons,List.map_append,List.map_replicate]
 rfl
theorem F8(x:Nat):Cm.Ik x= [x >>> 24 % 256,x >>> 16 % 256,x >>> 8 % 256,x >>> 0 % 256]:=by
 unfold Cm.Ik
 simp only[Cm.n8,←Nat.shiftRight_add]
 rfl
def rI(x:Int):List Int:=[IntKind.u8.wrap (Int.fdiv x (2^24)),IntKind.u8.wrap (Int.fdiv x (2^16)),IntKind.u8.wrap (Int.fdiv x (2^8)),IntKind.u8.wrap (Int.fdiv x (2^0))]
theorem F9(x0 x1 x2 x3 x4 x5 x6 x7:Int):c7 [x0,x1,x2,x3,x4,x5,x6,x7] (Int.toNat (32:Int)+1) (0:Int) (Ty.aS ao)=some (rI x0++(rI x1++(rI x2++(rI x3++(rI x4++(rI x5++(rI x6++rI x7))))))):=by kernel_rfl
theorem ix(x:Nat):rI ((x:Nat):Int)=up (Cm.Ik x):=by
 unfold rI
 rw[F8,Cm.oL,Cm.oL,Cm.oL,Cm.oL,Cm.qw,Cm.qw,Cm.qw,Cm.qw]
 rfl
theorem E6:[(1779033703:Int),(3144134277:Int),(1013904242:Int),(2773480762:Int),(1359893119:Int),(2600822924:Int),(528734635:Int),(1541459225:Int)]=up Cm.H0.l:=rfl
theorem yM:∀ps:List (List Nat),(ps.map up).flatten=up ps.flatten
 |[]=>rfl
 |
  p::ps=>by
  rw[List.map_cons,List.flatten_cons,List.flatten_cons,yM ps]
  show _=List.map Int.ofNat _
  rw[List.map_append]
theorem DN(ps:List (List Nat))(d:List Nat)(h1:ps.length≤1000)(h2:ps.flatten.length≤60000)(hb:∀p∈ps,∀x∈p,x<256)(hd:Cm.C2 ps.flatten=some d):f125 (ps.map up)=some (up d):=by
 have hbf:Cm.yS ps.flatten:=by
  intro x hx
  obtain⟨l,hl,hx⟩:=List.mem_flatten.1 hx
  exact hb l hl x hx
 have hds:=Cm.Gt hbf h2 hd
 have hbi:∀x∈ps.map up,gE x:=by
  intro x hx
  obtain⟨p,hp,rfl⟩:=List.mem_map.1 hx
  exact F1 (hb p hp)
 have hfl:=yM ps
 obtain⟨g,_⟩:=IE (ps.map up) [(1779033703:Int),(3144134277:Int),(1013904242:Int),(2773480762:Int),(1359893119:Int),(2600822924:Int),(528734635:Int),(1541459225:Int)] rfl (by simp;omega) hbi (by rw[hfl,tR];omega)
 rw[hfl,tR,F7 _ (by omega),E6,F6 _ _ _ Cm.BZ (Cm.wj hbf) (by rw[Cm.wh];omega)] at g
 unfold f125
 rw[E6,g,bs,Bv,F9,bs,hds]
 unfold Cm.Il
 rw[ix,ix,ix,ix,ix,ix,ix,ix]
 congr 1
end Go.Proofs.YtjabllhapfphoaaGreatDoor
