/- ViewsSpec: what compares compares. No condition beyond what each theorem states. -/
import Derived.Test.YtjabllhapfphoaaGreatDoorV2
import Derived.Test.YtjabllhapfphoaaGreatDoorE4
namespace Go.Proofs.YtjabllhapfphoaaGreatDoor
open Go.Abs
theorem ph{α:Type}(g:α→α→Bool):∀{xs ys:List α},xs.length≠ys.length→iL g xs ys=false
 |[],[],h=>absurd rfl h
 |[],_::_,_=>rfl
 |_::_,[],_=>rfl
 |x::xs,y::ys,h=>by simp only[iL];rw[ph g (by simpa using h)];simp
theorem Dv{α:Type}{b c:Bool}{x y z:α}(h:b=true→x=if c=true then y else z):(if b=true then x else z)=if(b&&c)=true then y else z:=by
 cases b
 ·rfl
 ·exact h rfl
theorem xr{t:Ty}(F:Nat→Int→Option (c6 Unit Bool))(g:t.den→t.den→Bool)(xs ys:List t.den)(hl:xs.length=ys.length)(hm:xs.length≤az)
 (hs:∀n(i:Nat)(h1:i<xs.length)(h2:i<ys.length),F (n+1) (i:Int)=if g xs[i] ys[i]=true then F n (aP ((i:Int)+1)) else some (.ret false))
 (he:∀n,F (n+1) ((xs.length:Nat):Int)=some (.bh ())):
 ∀n(i:Nat),i≤xs.length→xs.length -i<n→F n (i:Int)=if iL g (xs.drop i) (ys.drop i)=true then some (.bh ()) else some (.ret false):=by
 have hB:=bu
 intro n
 induction n with
 |zero=>intro i _ h;omega
 |
  succ n ih=>
  intro i hi hn
  by_cases h:i<xs.length
  ·rw[hs n i h (by omega),List.drop_eq_getElem_cons h,List.drop_eq_getElem_cons (show i<ys.length by omega)]
   simp only[iL]
   exact Dv fun _=>by rw[aJ (by omega),ih (i+1) (by omega) (by omega)]
  ·have e:i=xs.length:=by omega
   subst e
   rw[he,List.drop_length,hl,List.drop_length]
   rfl
theorem tQ{t:Ty}(F:Nat→Int→Option (c6 Unit Bool))(g:t.den→t.den→Bool)(xs ys:List t.den)(fuel:Nat)(K:c6 Unit Bool→Option Bool)(hf:xs.length<fuel)(hm:xs.length≤az)
 (hs:∀n(i:Nat)(h1:i<xs.length)(h2:i<ys.length),F (n+1) (i:Int)=if g xs[i] ys[i]=true then F n (aP ((i:Int)+1)) else some (.ret false))
 (he:∀n,F (n+1) ((xs.length:Nat):Int)=some (.bh ())) (k1:∀u,K (.bh u)=some true) (k2:∀b,K (.ret b)=some b):
 (if(!decide ((List.length xs:Int)=(List.length ys:Int)))=true then(some false) else(Option.bind (F fuel (0:Int)) K))=some (iL g xs ys):=by
 by_cases hl:xs.length=ys.length
 ·have h:=xr F g xs ys hl hm hs he fuel 0 (Nat.zero_le _) (by omega)
  have h:F fuel 0=_:=h
  rw[if_neg (by simp[hl]),h]
  simp only[List.drop_zero]
  cases iL g xs ys with
  |false=>rw[if_neg (by simp),bs,k2]
  |true=>rw[if_pos rfl,bs,k1]
 ·rw[if_pos (by rw[decide_eq_false (by omega)];rfl),ph g hl]
theorem db{b c:Bool}{x:Option Bool}(h:x=some c):(if b=true then x else some false)=some (b&&c):=by
 cases b
 ·rfl
 ·exact h
theorem Bk{α:Type}{x:Option α}{c:α}(h:x=some c):(Option.bind x fun o=>some o)=some c:=by rw[h];rfl
theorem FV{α β:Type}{x:Option α}{c:α}{f:α→Option β}{d:Option β}(h:x=some c)(k:f c=d):Option.bind x f=d:=by rw[h];exact k
theorem vJ{n:Nat}(h:n≤az):n<bX:=by have:=bu;simp only[bX];omega
theorem gC{i n:Nat}(h:i<n):decide ((i:Int)<(n:Int))=true:=by rw[decide_eq_true_eq];omega
theorem gD{n:Nat}:¬decide ((n:Int)<(n:Int))=true:=by rw[decide_eq_true_eq];omega
theorem fA{i n:Nat}(h:i<n):0≤(i:Int)∧(i:Int)<(n:Int):=by omega
theorem mS{i n:Nat}(h:i<n):(i:Int)<(n:Int):=by omega
theorem j6{α:Type}{b:Bool}{x y:α}:(if(!b)=true then y else x)=if b=true then x else y:=by cases b<;>rfl
theorem IN(a b:List aU)(h:a.length≤az):f31 a b=some (iL (av ao) a b):=by
 unfold f31
 refine tQ (t:=ao) (kv a b) (av ao) a b bX _ (vJ h) h ?_ (fun n=>?_) (fun _=>rfl) (fun _=>rfl)
 ·intro n i h1 h2
  simp only[kv]
  rw[if_pos (gC h1),if_pos (fA h1),if_pos (mS h2),aR (t:=ao) h1,aR (t:=ao) h2,j6]
 ·simp only[kv];rw[if_neg gD]
theorem Jl(a b:List aU)(h:a.length≤az):f36 a b=some (iL (av ao) a b):=by
 unfold f36
 refine tQ (t:=ao) (kz a b) (av ao) a b (a.length+1) _ (by omega) h ?_ (fun n=>?_) (fun _=>rfl) (fun _=>rfl)
 ·intro n i h1 h2
  simp only[kz]
  rw[if_pos (gC h1),if_pos (fA h1),if_pos (mS h2),aR (t:=ao) h1,aR (t:=ao) h2,j6]
 ·simp only[kz];rw[if_neg gD]
def sn(x y:Int):Bool:=decide (x=y)
theorem KB(a b:List Int)(h:a.length≤az):f65 a b=some (iL sn a b):=by
 unfold f65
 refine tQ (t:=.int .i64) (ky a b) sn a b (a.length+1) _ (by omega) h ?_ (fun n=>?_) (fun _=>rfl) (fun _=>rfl)
 ·intro n i h1 h2
  simp only[ky]
  rw[if_pos (gC h1),if_pos (fA h1),if_pos (mS h2),aR (t:=.int .i64) h1,aR (t:=.int .i64) h2,j6];rfl
 ·simp only[ky];rw[if_neg gD]
theorem Hp(a b:List Int)(h:a.length≤az):f130 a b=some (iL sn a b):=by
 unfold f130
 refine tQ (t:=.int .i64) (iu a b) sn a b bX _ (vJ h) h ?_ (fun n=>?_) (fun _=>rfl) (fun _=>rfl)
 ·intro n i h1 h2
  simp only[iu]
  rw[if_pos (gC h1),if_pos (fA h1),if_pos (mS h2),aR (t:=.int .i64) h1,aR (t:=.int .i64) h2,j6];rfl
 ·simp only[iu];rw[if_neg gD]
theorem K7(a b:List Int)(h:a.length≤az):f29 a b=some (iL sn a b):=by
 unfold f29
 refine tQ (t:=.int .i64) (ku a b) sn a b bX _ (vJ h) h ?_ (fun n=>?_) (fun _=>rfl) (fun _=>rfl)
 ·intro n i h1 h2
  simp only[ku]
  rw[if_pos (gC h1),if_pos (fA h1),if_pos (mS h2),aR (t:=.int .i64) h1,aR (t:=.int .i64) h2,j6];rfl
 ·simp only[ku];rw[if_neg gD]
def Dw(x y:lZ):Bool:=sn x.1 y.1&&(iL (av ao) x.2.1 y.2.1&&iL (av ao) x.2.2.1 y.2.2.1)
theorem Dx{s:lZ}(h:wf fw s):s.2.1.length≤az∧s.2.2.1.length≤az:=⟨h.2.1.2.1,h.2.2.1.2.1⟩
theorem K8(x y:lZ)(h:wf fw x):f67 x y=some (Dw x y):=by
 unfold f67
 exact Bk (db (FV (Jl _ _ (Dx h).1) (db (Bk (Jl _ _ (Dx h).2)))))
theorem Jm(x y:lZ)(h:wf fw x):f220 x y=some (Dw x y):=by
 unfold f220
 exact Bk (db (FV (IN _ _ (Dx h).1) (db (Bk (IN _ _ (Dx h).2)))))
theorem K9(a b:List lZ)(h:wf (.slice 56 fw) a):qe a b=some (iL Dw a b):=by
 unfold qe
 refine tQ (t:=fw) (eW a b) Dw a b (a.length+1) _ (by omega) h.2.1 ?_ (fun n=>?_) (fun _=>rfl) (fun _=>rfl)
 ·intro n i h1 h2
  simp only[eW]
  rw[if_pos (gC h1),if_pos (fA h1),if_pos (mS h2),aR (t:=fw) h1,aR (t:=fw) h2,K8 _ _ (h.2.2 _ (List.getElem_mem _)),bs,j6]
 ·simp only[eW];rw[if_neg gD]
theorem Jn(a b:List lZ)(h:wf (.slice 56 fw) a):f131 a b=some (iL Dw a b):=by
 unfold f131
 refine tQ (t:=fw) (iw a b) Dw a b bX _ (vJ h.2.1) h.2.1 ?_ (fun n=>?_) (fun _=>rfl) (fun _=>rfl)
 ·intro n i h1 h2
  simp only[iw]
  rw[if_pos (gC h1),if_pos (fA h1),if_pos (mS h2),aR (t:=fw) h1,aR (t:=fw) h2,Jm _ _ (h.2.2 _ (List.getElem_mem _)),bs,j6]
 ·simp only[iw];rw[if_neg gD]
def Bl(x y:l3):Bool:=sn x.1 y.1&&(sn x.2.1 y.2.1&&(sn x.2.2.1 y.2.2.1&&(sn x.2.2.2.1 y.2.2.2.1&&(av ao x.2.2.2.2.1 y.2.2.2.2.1&&(iL sn x.2.2.2.2.2.1 y.2.2.2.2.2.1&&(iL sn x.2.2.2.2.2.2.1 y.2.2.2.2.2.2.1&&(sn x.2.2.2.2.2.2.2.1 y.2.2.2.2.2.2.2.1&&(av ao x.2.2.2.2.2.2.2.2.1 y.2.2.2.2.2.2.2.2.1&&iL Dw x.2.2.2.2.2.2.2.2.2.1 y.2.2.2.2.2.2.2.2.2.1))))))))
theorem Dy{s:l3}(h:wf a8 s):s.2.2.2.2.2.1.length≤az∧s.2.2.2.2.2.2.1.length≤az∧wf (.slice 56 fw) s.2.2.2.2.2.2.2.2.2.1:=by
 obtain⟨_,_,_,_,_,h6,h7,_,_,h10,_⟩:=h
 exact⟨h6.2.1,h7.2.1,h10⟩
theorem La(x y:l3)(h:wf a8 x):f33 x y=some (Bl x y):=by
 obtain⟨h1,h2,h3⟩:=Dy h
 unfold f33
 exact Bk (db (db (db (db (db (FV (KB _ _ h1) (db (FV (KB _ _ h2) (db (db (db (Bk (K9 _ _ h3)))))))))))))
theorem Lb(x y:l3)(h:wf a8 x):f68 x y=some (Bl x y):=by
 obtain⟨h1,h2,h3⟩:=Dy h
 unfold f68
 exact Bk (db (db (db (db (db (FV (Hp _ _ h1) (db (FV (Hp _ _ h2) (db (db (db (Bk (Jn _ _ h3)))))))))))))
theorem Lc(a b:List l3)(h:wf (.slice 176 a8) a):qc a b=some (iL Bl a b):=by
 unfold qc
 refine tQ (t:=a8) (eU a b) Bl a b (a.length+1) _ (by omega) h.2.1 ?_ (fun n=>?_) (fun _=>rfl) (fun _=>rfl)
 ·intro n i h1 h2
  simp only[eU]
  rw[if_pos (gC h1),if_pos (fA h1),if_pos (mS h2),aR (t:=a8) h1,aR (t:=a8) h2,La _ _ (h.2.2 _ (List.getElem_mem _)),bs,j6]
 ·simp only[eU];rw[if_neg gD]
def qs(x y:List aU):Bool:=iL (av ao) x y
theorem Ld(a b:List (List aU))(h:wf (.slice 24 (.slice 32 ao)) a):qd a b=some (iL qs a b):=by
 unfold qd
 refine tQ (t:=.slice 32 ao) (eV a b) qs a b (a.length+1) _ (by omega) h.2.1 ?_ (fun n=>?_) (fun _=>rfl) (fun _=>rfl)
 ·intro n i h1 h2
  simp only[eV]
  rw[if_pos (gC h1),if_pos (fA h1),if_pos (mS h2),aR (t:=.slice 32 ao) h1,aR (t:=.slice 32 ao) h2]
  unfold f35
  rw[Jl _ _ (h.2.2 _ (List.getElem_mem _)).2.1,bs,bs,j6];rfl
 ·simp only[eV];rw[if_neg gD]
def FW(x y:cI):Bool:=sn x.1 y.1&&(sn x.2.1 y.2.1&&(av ao x.2.2.1 y.2.2.1&&(av ao x.2.2.2.1 y.2.2.2.1&&(iL Bl x.2.2.2.2.1 y.2.2.2.2.1&&iL qs x.2.2.2.2.2.1 y.2.2.2.2.2.1))))
theorem FX{p:cI}(h:wf aI p):wf (.slice 176 a8) p.2.2.2.2.1∧wf (.slice 24 (.slice 32 ao)) p.2.2.2.2.2.1:=by
 obtain⟨_,_,_,_,h5,h6,_⟩:=h
 exact⟨h5,h6⟩
theorem KC(x y:cI)(h:wf aI x):f13 x y=some (FW x y):=by
 obtain⟨h1,h2⟩:=FX h
 unfold f13
 exact Bk (db (db (db (db (FV (Lc _ _ h1) (db (Bk (Ld _ _ h2))))))))
theorem FY(x y:cI)(h:wf aI x)(hl:x.2.2.2.2.1.length=y.2.2.2.2.1.length):jy x y bX 0=if iL Bl x.2.2.2.2.1 y.2.2.2.2.1=true then some (.bh ()) else some (.ret false):=by
 obtain⟨h,_⟩:=FX h
 have:=xr (t:=a8) (jy x y) Bl x.2.2.2.2.1 y.2.2.2.2.1 hl h.2.1
  (fun n i h1 h2=>by
   simp only[jy]
   rw[if_pos (gC h1),if_pos (fA h1),if_pos (mS h2),aR (t:=a8) h1,aR (t:=a8) h2,Lb _ _ (h.2.2 _ (List.getElem_mem _)),bs,j6])
  (fun n=>by simp only[jy];rw[if_neg gD]) bX 0 (Nat.zero_le _) (by have:=vJ h.2.1;omega)
 simpa using this
theorem FZ(x y:cI)(h:wf aI x)(hl:x.2.2.2.2.2.1.length=y.2.2.2.2.2.1.length):jz x y bX 0=if iL qs x.2.2.2.2.2.1 y.2.2.2.2.2.1=true then some (.bh ()) else some (.ret false):=by
 obtain⟨_,h⟩:=FX h
 have:=xr (t:=.slice 32 ao) (jz x y) qs x.2.2.2.2.2.1 y.2.2.2.2.2.1 hl h.2.1
  (fun n i h1 h2=>by
   simp only[jz]
   rw[if_pos (gC h1),if_pos (fA h1),if_pos (mS h2),aR (t:=.slice 32 ao) h1,aR (t:=.slice 32 ao) h2,IN _ _ (h.2.2 _ (List.getElem_mem _)).2.1,bs,j6];rfl)
  (fun n=>by simp only[jz];rw[if_neg gD]) bX 0 (Nat.zero_le _) (by have:=vJ h.2.1;omega)
 simpa using this
theorem Jo(x y:cI)(h:wf aI x):f14 x y=some (FW x y):=by
 unfold f14 f37
 refine Bk ?_
 by_cases c1:x.2.2.2.2.1.length=y.2.2.2.2.1.length
 ·by_cases c2:x.2.2.2.2.2.1.length=y.2.2.2.2.2.1.length
  ·rw[FY x y h c1,FZ x y h c2,c1,c2]
   unfold FW sn
   cases decide (x.1=y.1)<;>cases decide (x.2.1=y.2.1)<;>cases av ao x.2.2.1 y.2.2.1<;>cases av ao x.2.2.2.1 y.2.2.2.1<;>cases iL Bl x.2.2.2.2.1 y.2.2.2.2.1<;>cases iL qs x.2.2.2.2.2.1 y.2.2.2.2.2.1<;>simp[bs]
  ·unfold FW sn
   rw[ph qs c2,c1]
   have c2:¬(x.2.2.2.2.2.1.length:Int)=(y.2.2.2.2.2.1.length:Int):=by omega
   rw[decide_eq_false c2]
   cases decide (x.1=y.1)<;>cases decide (x.2.1=y.2.1)<;>cases av ao x.2.2.1 y.2.2.1<;>cases av ao x.2.2.2.1 y.2.2.2.1<;>simp[bs]
 ·unfold FW sn
  rw[ph Bl c1]
  have c1:¬(x.2.2.2.2.1.length:Int)=(y.2.2.2.2.1.length:Int):=by omega
  rw[decide_eq_false c1]
  cases decide (x.1=y.1)<;>cases decide (x.2.1=y.2.1)<;>cases av ao x.2.2.1 y.2.2.1<;>cases av ao x.2.2.2.1 y.2.2.2.1<;>simp[bs]
theorem kr(x:Int):sn x x=true:=decide_eq_true rfl
theorem Dz(x:List aU):qs x x=true:=dB (cN ao) x
theorem Bm(x:lZ):Dw x x=true:=by
 unfold Dw;rw[kr,dB (cN ao),dB (cN ao)];rfl
theorem Bn(x:l3):Bl x x=true:=by
 unfold Bl;simp only[kr,cN,dB kr,dB Bm,Bool.and_self]
theorem Bo(x:cI):FW x x=true:=by
 unfold FW;simp only[kr,cN,dB Bn,dB Dz,Bool.and_self]
end Go.Proofs.YtjabllhapfphoaaGreatDoor
