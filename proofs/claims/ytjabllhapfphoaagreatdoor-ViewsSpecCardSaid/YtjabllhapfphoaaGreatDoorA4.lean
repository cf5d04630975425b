/- The machines: what it means to be walked or run, part 4. No condition. -/
import Derived.Test.YtjabllhapfphoaaGreatDoorA3
import Derived.ChangeKeysEq
import Derived.Laws.BytesString
import Derived.MapKept
namespace Go.Cm
section
variable{P:Program} {E:Env} {w:World}
noncomputable def uK(x:V)(y:Nat):Option Nat:=x.int fun _ n=>Fj n fun n=>bF (Nat.ble n y) (some n)
theorem AJ{x:V}{y n:Nat}{vx:Value}(hx:RV E x vx)(h:uK x y=some n)(c:BoundsCode):(Instr.sliceBound vx y c).run P w= .ok n w∧n≤y:=by
 obtain⟨k,m,rfl,h⟩:=bc h
 obtain⟨m',rfl,h⟩:=ic h
 obtain⟨h0,hq⟩:=al h
 cases hq
 simp only[RV] at hx
 subst hx
 have h0:=Nat.le_of_ble_eq_true h0
 refine⟨?_,h0⟩
 have:(0:Int)≤Int.ofNat n∧Int.ofNat n≤(y:Int):=⟨Int.natCast_nonneg n,by simpa using h0⟩
 simp only[Instr.sliceBound,asIntOf,Sem.run_bind,Sem.run_pure,Result.andThen_ok,if_pos this]
 rfl
def RO(E:Env):Option V→Option Value→Prop
 |none,none=>True
 |some x,some v=>RV E x v
 |_,_=>False
noncomputable def mw(x:Option V)(y d:Nat):Option Nat:=@Option.rec V (fun _=>Option Nat) (some d) (fun x=>uK x y) x
theorem eO{isS:Bool}{len cap h l:Nat}{lo hi:Option V}{vlo vhi:Option Value}(r1:RO E lo vlo)(r2:RO E hi vhi)(hh:mw hi cap len=some h)(hl:mw lo h 0=some l):(Instr.sliceBounds isS len cap vlo vhi none).run P w= .ok (l,h,cap) w∧l≤h∧(len≤cap→h≤cap):=by
 have e1:(match vhi,(none:Option Value) with
  |some v,some _=>Instr.sliceBound v cap .slice3B
  |some v,none=>Instr.sliceBound v cap (if isS then .sliceAcap else .sliceAlen)
  |none,none=>pure len
  |none,some _=>stuck "Slice: max without high" :Sem Nat).run P w= .ok h w∧(len≤cap→h≤cap):=by
  cases hi with
  |
   none=>
   cases vhi with
   |none=>cases(show some len=some h from hh);exact⟨rfl,fun h=>h⟩
   |some v=>exact r2.elim
  |
   some x=>
   cases vhi with
   |none=>exact r2.elim
   |
    some v=>
    have:=AJ (P:=P) (w:=w) (show RV E x v from r2) (show uK x cap=some h from hh) (if isS then .sliceAcap else .sliceAlen)
    exact⟨this.1,fun _=>this.2⟩
 have e2:(match vlo with
  |some v=>Instr.sliceBound v h .sliceB
  |none=>pure 0:Sem Nat).run P w= .ok l w∧l≤h:=by
  cases lo with
  |
   none=>
   cases vlo with
   |none=>cases(show some 0=some l from hl);exact⟨rfl,Nat.zero_le _⟩
   |some v=>exact r1.elim
  |
   some x=>
   cases vlo with
   |none=>exact r1.elim
   |
    some v=>
    have:=AJ (P:=P) (w:=w) (show RV E x v from r1) (show uK x h=some l from hl) .sliceB
    exact this
 refine⟨?_,e2.2,e1.2⟩
 unfold Instr.sliceBounds
 cases vhi<;>cases vlo<;>(simp only[Sem.run_bind,Sem.run_pure,Result.andThen_ok,Result.ok.injEq,and_true] at e1 e2 ⊢;obtain⟨e1a,_⟩:=e1;obtain⟨e2a,_⟩:=e2;first|(subst e1a;subst e2a;simp;done)|(subst e1a;simp[e2a];done)|(subst e2a;simp[e1a];done)|(simp[e1a,e2a];done))
noncomputable def AK{α:Type}(n:Nat):List α→List α:=@Nat.rec (fun _=>List α→List α) (fun l=>l) (fun _ ih l=>@List.rec α (fun _=>List α) [] (fun _ t _=>ih t) l) n
theorem uL{α:Type}:∀(n:Nat)(l:List α),AK n l=l.drop n
 |0,l=>rfl
 |n+1,[]=>rfl
 |n+1,_::l=>by show AK n l=_;rw[uL n l];rfl
noncomputable def takeN{α:Type}(n:Nat):List α→List α:=@Nat.rec (fun _=>List α→List α) (fun _=>[]) (fun _ ih l=>@List.rec α (fun _=>List α) [] (fun a t _=>a::ih t) l) n
theorem uM{α:Type}:∀(n:Nat)(l:List α),takeN n l=l.take n
 |0,l=>rfl
 |n+1,[]=>rfl
 |n+1,a::l=>by show a::takeN n l=_;rw[uM n l];rfl
noncomputable def my{α:Type}(l:List α):Nat:=@List.rec α (fun _=>Nat) 0 (fun _ _ ih=>Nat.succ ih) l
theorem im{α:Type}:∀l:List α,my l=l.length
 |[]=>rfl
 |_::l=>by show Nat.succ (my l)=_;rw[im l];rfl
theorem iO(l:List Nat):(eB l).size=l.length:=by show(eB l).data.size=_;simp[eB]
theorem ow(l:List Nat)(a b:Nat):(eB l).extract a b=eB ((l.drop a).take (b -a)):=by
 apply ByteArray.ext
 rw[ByteArray.data_extract]
 apply Array.ext'
 simp[eB,List.extract,List.map_drop,List.map_take]
noncomputable def kQ(P:Program)(t:TypeId)(x:V)(lo hi:Option V):Option V:=
 bO (P.underlying t) fun d=>match d with
  | .array n e=>bO (P.info? e) fun i=>x.ptr fun b o=>bO (mw hi n n) fun h=>bO (mw lo h 0) fun l=>bF (dr (Nat.beq n l)) (fN (Nat.add o (Nat.mul l i.size)) fun o'=>fN (Nat.sub h l) fun n'=>fN (Nat.sub n l) fun c'=>some (.sl b o' n' c'))
  | .slice e=>bO (P.info? e) fun i=>x.uJ
   (fun b o n c=>bF (Nat.ble n c) (bO (mw hi c n) fun h=>bO (mw lo h 0) fun l=>bF (dr (Nat.beq c l)) (fN (Nat.add o (Nat.mul l i.size)) fun o'=>fN (Nat.sub h l) fun n'=>fN (Nat.sub c l) fun c'=>some (.sl b o' n' c'))))
   (fun b o n z=>bF (Nat.beq z i.size) (bO (mw hi n n) fun h=>bO (mw lo h 0) fun l=>@Bool.rec (fun _=>Option V) (bF (Nat.beq l n) (some .se)) (fN (Nat.add o (Nat.mul l i.size)) fun o'=>fN (Nat.sub h l) fun n'=>some (.su b o' n' z)) (Nat.ble (Nat.succ l) n)))
   (bO (mw hi 0 0) fun h=>bO (mw lo h 0) fun _=>some .ns)
  | .string=>x.str fun s=>bO (mw hi (my s) (my s)) fun h=>bO (mw lo h 0) fun l=>some (.s (takeN (Nat.sub h l) (AK l s)))
  |_=>none
theorem yh{x:Option V}{y d n:Nat}(h:mw x y d=some n){vx:Option Value}(r:RO E x vx){z:Nat}(hy:y≤z):mw x z d=some n:=by
 cases x with
 |none=>exact h
 |
  some x=>
  have h:uK x y=some n:=h
  obtain⟨k,m,rfl,h⟩:=bc h
  obtain⟨m',rfl,h⟩:=ic h
  obtain⟨h0,hq⟩:=al h
  cases hq
  have h0:=Nat.le_of_ble_eq_true h0
  show(bF (Nat.ble n z) (some n))=some n
  rw[Nat.ble_eq_true_of_le (Nat.le_trans h0 hy)];rfl
theorem lP{t:TypeId}{x r:V}{lo hi:Option V}{vx:Value}{vlo vhi:Option Value}(hx:RV E x vx)(r1:RO E lo vlo)(r2:RO E hi vhi)(h:kQ P t x lo hi=some r):∃v,(Instr.sliceAt t vx vlo vhi none).run P w= .ok v w∧RV E r v:=by
 obtain⟨d,hd,h⟩:=ab h
 cases d with
 |
  array n e=>
  obtain⟨i,hi',h⟩:=ab h
  obtain⟨b,o,hxe,h⟩:=eC h
  obtain⟨h1,e1,h⟩:=ab h
  obtain⟨l1,e2,h⟩:=ab h
  obtain⟨h0,h⟩:=al h
  rw[cF,cF,cF] at h
  cases h
  subst hxe
  simp only[RV] at hx
  obtain⟨g,hg,rfl⟩:=hx
  obtain⟨q1,q2,q3⟩:=eO (P:=P) (w:=w) (isS:=false) r1 r2 e1 e2
  have hne:¬n=l1:=fun e=>by subst e;simp[fu] at h0
  refine⟨.slice (some ⟨g,o+l1*i.size,none⟩) (h1 -l1) (n -l1),?_,by simp only[RV];exact⟨g,hg,rfl⟩⟩
  simp[Instr.sliceAt,aw hd,Instr.sureAddr,q1,aY hi',hne,dP]
 |
  slice e=>
  obtain⟨i,hi',h⟩:=ab h
  have key:∀v,(Instr.slice t vx vlo vhi none).run P w= .ok v w→(Instr.sliceAt t vx vlo vhi none).run P w= .ok v w:=by
   intro v hv
   simp only[Instr.sliceAt,Sem.run_bind,aw hd,Result.andThen_ok]
   exact hv
  rcases cP h with⟨b,o,n,c,hxe,h⟩|⟨b,o,n,z,hxe,h⟩|⟨hxe,h⟩
  ·obtain⟨hnc,h⟩:=al h
   obtain⟨h1,e1,h⟩:=ab h
   obtain⟨l1,e2,h⟩:=ab h
   obtain⟨h0,h⟩:=al h
   rw[cF,cF,cF] at h
   cases h
   subst hxe
   simp only[RV] at hx
   obtain⟨g,hg,rfl⟩:=hx
   obtain⟨q1,q2,q3⟩:=eO (P:=P) (w:=w) (isS:=true) r1 r2 e1 e2
   have hne:¬c=l1:=fun e=>by subst e;simp[fu] at h0
   refine⟨.slice (some ⟨g,o+l1*i.size,none⟩) (h1 -l1) (c -l1),key _ ?_,by simp only[RV];exact⟨g,hg,rfl⟩⟩
   simp[Instr.slice,aw hd,q1,aY hi',hne,dP]
  ·obtain⟨hz,h⟩:=al h
   obtain⟨h1,e1,h⟩:=ab h
   obtain⟨l1,e2,hq⟩:=ab h
   subst hxe
   have hz:=bK hz
   simp only[RV] at hx
   obtain⟨g,c,hg,rfl,hc1,hc2⟩:=hx
   cases h0:Nat.ble (Nat.succ l1) n with
   |
    false=>
    rw[h0] at hq
    obtain⟨hln,hse⟩:=al (show bF (Nat.beq l1 n) (some V.se)=some r from hq)
    cases hse
    have hln:=bK hln
    subst hln
    obtain⟨q1,q2,q3⟩:=eO (P:=P) (w:=w) (isS:=true) (cap:=c) r1 r2 (yh e1 r2 hc1) e2
    have hh:h1≤l1:=by
     obtain⟨_,_,q⟩:=eO (P:=P) (w:=w) (isS:=true) (len:=l1) (cap:=l1) r1 r2 e1 e2
     exact q (Nat.le_refl _)
    have hh1:h1=l1:=by omega
    subst hh1
    refine⟨.slice (some (if c=h1 then⟨g,o,none⟩ else⟨g,o+h1*i.size,none⟩)) 0 (c -h1),key _ ?_,by simp only[RV];exact⟨_,_,rfl⟩⟩
    by_cases hc:c=h1
    ·subst hc
     simp[Instr.slice,aw hd,q1,aY hi']
    ·simp[Instr.slice,aw hd,q1,aY hi',hc,dP]
   |true=>
   rw[h0] at hq
   have hq:(fN (Nat.add o (Nat.mul l1 i.size)) fun o'=>fN (Nat.sub h1 l1) fun n'=>some (V.su b o' n' z))=some r:=hq
   rw[cF,cF] at hq
   cases hq
   have h0:=Nat.le_of_ble_eq_true h0
   have hh:h1≤n:=by
    obtain⟨_,_,q⟩:=eO (P:=P) (w:=w) (isS:=true) (len:=n) (cap:=n) r1 r2 e1 e2
    exact q (Nat.le_refl _)
   obtain⟨q1,q2,q3⟩:=eO (P:=P) (w:=w) (isS:=true) (cap:=c) r1 r2 (yh e1 r2 hc1) e2
   have hne:¬c=l1:=by omega
   refine⟨.slice (some ⟨g,o+l1*i.size,none⟩) (h1 -l1) (c -l1),key _ ?_,?_⟩
   ·simp[Instr.slice,aw hd,q1,aY hi',hne,dP]
   ·simp only[RV]
    refine⟨g,c -l1,hg,rfl,?_,?_⟩
    ·show h1 -l1≤c -l1;omega
    ·rw[←hc2,hz]
     show o+l1*i.size+(c -l1)*i.size=_
     rw[Nat.add_assoc,←Nat.add_mul]
     congr 2;omega
  ·obtain⟨h1,e1,h⟩:=ab h
   obtain⟨l1,e2,h⟩:=ab h
   cases h
   subst hxe
   simp only[RV] at hx
   subst hx
   obtain⟨q1,q2,q3⟩:=eO (P:=P) (w:=w) (isS:=true) (len:=0) (cap:=0) r1 r2 e1 e2
   have z1:h1=0:=Nat.le_zero.1 (q3 (Nat.le_refl _))
   have z2:l1=0:=by omega
   subst z1;subst z2
   refine⟨.slice none 0 0,key _ ?_,by simp only[RV]⟩
   simp[Instr.slice,aw hd,q1,aY hi']
 |
  string=>
  obtain⟨s,hxe,h⟩:=dC h
  obtain⟨h1,e1,h⟩:=ab h
  obtain⟨l1,e2,h⟩:=ab h
  cases h
  subst hxe
  simp only[RV] at hx
  obtain⟨hs,rfl⟩:=hx
  rw[im] at e1
  obtain⟨q1,q2,q3⟩:=eO (P:=P) (w:=w) (isS:=false) r1 r2 e1 e2
  refine⟨.string ((eB s).extract l1 h1),?_,?_⟩
  ·rw[←iO] at q1
   simp[Instr.sliceAt,Instr.slice,aw hd,q1]
  ·simp only[RV]
   rw[uM,uL,ow]
   exact⟨fun x hx=>hs x (List.mem_of_mem_drop (List.mem_of_mem_take hx)),rfl⟩
 |_=>cases h
noncomputable def AL(es:Es):Nat:=@Es.rec (fun _=>Nat) 0 (fun _ _ _ _ ih=>Nat.succ ih) es
theorem uH.len:∀{es:Es}{l:List MapEntry},uH E es l→AL es=l.length
 | .nil,l,h=>by have h:l= []:=h;subst h;rfl
 | .cons k v n es,l,⟨e,r,h1,_,_,_,h5⟩=>by subst h1;show Nat.succ (AL es)=_;rw[uH.len h5];rfl
noncomputable def ak.w7{α:Type}(k:ak)(f:Es→Nat→Option α):Option α:=
 @ak.casesOn (fun _=>Option α) k (fun _ _=>none) (fun _ _=>none) f (fun _ _ _ _=>none) (fun _ _=>none) (fun _ _ _ _ _ _ _ _ _=>none) none
theorem iP{α:Type}{k:ak}{f:Es→Nat→Option α}{y:α}(h:k.w7 f=some y):∃es c,k= .m es c∧f es c=some y:=by
 cases k<;>first|exact⟨_,_,rfl,h⟩|cases h
noncomputable def rT(P:Program)(hb:Id→Option ak)(t:TypeId)(x:V):Option V:=
 bO (P.underlying t) fun d=>match d with
  | .slice _=>@Bool.rec (fun _=>Option V) (x.uJ (fun _ _ n _=>some (.i .i64 (.ofNat n))) (fun _ _ n _=>some (.i .i64 (.ofNat n))) (some (.i .i64 (.ofNat 0)))) (some (.i .i64 (.ofNat 0))) x.rr
  | .string=>x.str fun s=>fN (my s) fun n=>some (.i .i64 (.ofNat n))
  | .map _ _=>x.mp (fun b=>bO (hb b) fun k=>k.w7 fun es _=>fN (AL es) fun n=>some (.i .i64 (.ofNat n))) (some (.i .i64 (.ofNat 0)))
  |_=>none
theorem pD{hp:T ak}{hb:Id→Option ak}(hH:RH E hp w)(hB:∀b k,hb b=some k→get b hp=some k){t ty:TypeId}{x r:V}{vx:Value}(hx:RV E x vx)(h:rT P hb t x=some r):∃v,(Builtin.len_ #[t] ty #[vx]).run P w= .ok v w∧RV E r v:=by
 obtain⟨d,hd,h⟩:=ab h
 cases d with
 |
  slice e=>
  cases hse:x.rr with
  |
   true=>
   rw[hse] at h
   cases(show some (V.i .i64 (.ofNat 0))=some r from h)
   have:=lg hse;subst this
   simp only[RV] at hx
   obtain⟨a,c,rfl⟩:=hx
   exact⟨goInt (0:Nat),by simp[Builtin.len_,aw hd],by simp only[RV];rfl⟩
  |false=>
  rw[hse] at h
  rcases cP h with⟨b,o,n,c,hxe,h⟩|⟨b,o,n,z,hxe,h⟩|⟨hxe,h⟩
  ·cases h;subst hxe
   simp only[RV] at hx
   obtain⟨g,hg,rfl⟩:=hx
   exact⟨goInt n,by simp[Builtin.len_,aw hd],by simp only[RV];rfl⟩
  ·cases h;subst hxe
   simp only[RV] at hx
   obtain⟨g,c,hg,rfl,_⟩:=hx
   exact⟨goInt n,by simp[Builtin.len_,aw hd],by simp only[RV];rfl⟩
  ·cases h;subst hxe
   simp only[RV] at hx
   subst hx
   exact⟨goInt (0:Nat),by simp[Builtin.len_,aw hd],by simp only[RV];rfl⟩
 |
  string=>
  obtain⟨s,hxe,h⟩:=dC h
  rw[cF,im] at h
  cases h
  subst hxe
  simp only[RV] at hx
  obtain⟨hs,rfl⟩:=hx
  exact⟨goInt (eB s).size,by simp[Builtin.len_,aw hd],by simp only[RV];rw[iO];rfl⟩
 |
  map a b=>
  rcases nB h with⟨b',hxe,h⟩|⟨hxe,h⟩
  ·obtain⟨k,hk,h⟩:=ab h
   obtain⟨es,ck,hke,h⟩:=iP h
   rw[cF] at h
   cases h
   subst hxe;subst hke
   simp only[RV] at hx
   obtain⟨g,hg,rfl⟩:=hx
   obtain⟨g',o,h1,h2,l,rfl,h3⟩:=hH.bL b' _ (hB b' _ hk)
   rw[hg] at h1;cases h1
   refine⟨goInt l.size,by simp[Builtin.len_,aw hd,getObj,Sem.run,h2],?_⟩
   simp only[RV];rw[h3.len];simp;rfl
  ·cases h;subst hxe
   simp only[RV] at hx
   subst hx
   exact⟨goInt (0:Nat),by simp[Builtin.len_,aw hd],by simp only[RV];rfl⟩
 |_=>cases h
end
end Go.Cm
namespace Go.Cm
section
variable{P:Program} {E:Env} {w:World}
def CW:TypeDesc→Bool
 | .slice _| .string=>true
 |_=>false
theorem j9{t t2 ty e:TypeId}{i:TypeInfo}{z:Value}{d2:TypeDesc}(ht:P.underlying t=some (.slice e))(h2:P.underlying t2=some d2)(hd2:CW d2=true)(hi:P.info? e=some i)(hz:i.zero=some z)
 (base:Option Addr) (sLen sCap n:Nat) (x:Value) (old new:Array Value) (hlen:(Builtin.lenOf x).run P w= .ok n w) (hnew:(Builtin.firstCells i.size n x).run P w.drew= .ok new w.drew) (hold:(Builtin.firstCells i.size sLen (.slice base sLen sCap)).run P w.drew= .ok old w.drew)
 (hg:sCap<sLen+n) (h63:((sLen+n:Nat):Int)≤9223372036854775807) (hfit:Builtin.nextslicecap (sLen+n) sCap*i.bytes≤281474976710656):
 (Builtin.append_ #[t,t2] ty #[.slice base sLen sCap,x]).run P w= .ok (.slice (some ⟨w.heap.size,0,none⟩) (sLen+n) (grownCap w (sLen+n) sCap e)) (w.drew.alloc (.cells (old++new++Builtin.zeroCells z.cells (grownCap w (sLen+n) sCap e -(sLen+n))) e)):=by
 have hn:¬(sLen+n≤sCap):=by omega
 have h63':¬(9223372036854775807<((sLen:Int)+(n:Int))):=by omega
 have h48':¬(281474976710656<Builtin.nextslicecap (sLen+n) sCap*i.bytes):=by omega
 cases d2 with
 |slice e2=>simp[Builtin.append_,aw ht,aw h2,aY hi,jj hi,rz hi hz,hlen,hn,h63',h48',Question.forced,hnew,hold,newRow,grownCap]
 |string=>simp[Builtin.append_,aw ht,aw h2,aY hi,jj hi,rz hi hz,hlen,hn,h63',h48',Question.forced,hnew,hold,newRow,grownCap]
 |_=>cases hd2
theorem mz{t t2 ty e:TypeId}{i:TypeInfo}{d2:TypeDesc}(ht:P.underlying t=some (.slice e))(h2:P.underlying t2=some d2)(hd2:CW d2=true)(hi:P.info? e=some i)
 (a:Addr) (sLen sCap n:Nat) (x:Value) (new:Array Value) {w':World} (hlen:(Builtin.lenOf x).run P w= .ok n w) (hnew:(Builtin.firstCells i.size n x).run P w= .ok new w) (hst:(storeCells (a.add (sLen*i.size)) new.toList).run P w= .ok () w') (hg:sLen+n≤sCap):
 (Builtin.append_ #[t,t2] ty #[.slice (some a) sLen sCap,x]).run P w= .ok (.slice (some a) (sLen+n) sCap) w':=by
 cases d2 with
 |slice e2=>simp[Builtin.append_,aw ht,aw h2,aY hi,hlen,hg,hnew,hst]
 |string=>simp[Builtin.append_,aw ht,aw h2,aY hi,hlen,hg,hnew,hst]
 |_=>cases hd2
theorem jn{t t2 ty e:TypeId}{i:TypeInfo}{d2:TypeDesc}(ht:P.underlying t=some (.slice e))(h2:P.underlying t2=some d2)(hd2:CW d2=true)(hi:P.info? e=some i)
 (base:Option Addr) (sLen sCap:Nat) (x:Value) (hlen:(Builtin.lenOf x).run P w= .ok 0 w) (hnew:(Builtin.firstCells i.size 0 x).run P w= .ok #[] w) (hg:sLen≤sCap):
 (Builtin.append_ #[t,t2] ty #[.slice base sLen sCap,x]).run P w= .ok (.slice base sLen sCap) w:=by
 cases base<;>cases d2<;>first
  |(cases hd2;done)
  |(simp[Builtin.append_,aw ht,aw h2,aY hi,hlen,hg,hnew,storeCells];done)
noncomputable def ll(s:List Nat):V:=@List.rec Nat (fun _=>V) .nil (fun n _ ih=>.cons (.i .u8 (.ofNat n)) ih) s
theorem pb:∀{s:List Nat},(∀x∈s,x<256)→aQ E (ll s) (s.map fun b=>Value.int .u8 ((UInt8.ofNat b).toNat:Int))∧(ll s).bU=true
 |[],_=>⟨by simp[ll,aQ],rfl⟩
 |
  b::s,h=>by
  obtain⟨h1,h2⟩:=pb (s:=s) (fun x hx=>h x (List.mem_cons_of_mem _ hx))
  have hb:=h b (List.mem_cons_self ..)
  refine⟨aQ.aG.2 ⟨_,_,rfl,?_,h1⟩,by show(V.one _&&(ll s).bU)=true;rw[h2];rfl⟩
  simp only[RV]
  congr 1
  simp;omega
noncomputable def G1{α:Type}(hb:Id→Option ak)(size:Nat)(x:V)(f:Nat→V→Option α):Option α:=
 @V.casesOn (fun _=>Option α) x (fun _=>none) (fun _ _=>none) (fun s=>bF (Nat.beq size 1) (fN (my s) fun n=>f n (ll s))) (fun _ _=>none) none
  (fun b o n _=>bO (hb b) fun k=>k.cells fun l=>bO (cA o (Nat.mul n size) l) fun c=>f n c) (fun b o n _=>bO (hb b) fun k=>k.cells fun l=>bO (cA o (Nat.mul n size) l) fun c=>f n c) (f 0 .nil) (f 0 .nil)
  (fun _=>none) none (fun _ _ _=>none) (fun _=>none) none (fun _ _=>none) none (fun _=>none) (fun _=>none) none none (fun _ _=>none)
theorem CX{α:Type}{hp:T ak}{hb:Id→Option ak}(hH:RH E hp w)(hB:∀b k,hb b=some k→get b hp=some k){size:Nat}{x:V}{f:Nat→V→Option α}{y:α}{vx:Value}(hx:RV E x vx)(h:G1 hb size x f=some y):
 ∃n c new,f n c=some y∧(Builtin.lenOf vx).run P w= .ok n w∧(∀w':World,w'.heap=w.heap→(Builtin.firstCells size n vx).run P w'= .ok new w')∧aQ E c new.toList∧c.bU=true∧new.size=n*size:=by
 have row:∀(b:Id)(o n cap g:Nat),E.g b=some g→(bO (hb b) fun k=>k.cells fun l=>bO (cA o (Nat.mul n size) l) fun c=>f n c)=some y→
  ∃n' c new,f n' c=some y∧(Builtin.lenOf (.slice (some ⟨g,o,none⟩) n cap)).run P w= .ok n' w∧(∀w':World,w'.heap=w.heap→(Builtin.firstCells size n' (.slice (some ⟨g,o,none⟩) n cap)).run P w'= .ok new w')∧aQ E c new.toList∧c.bU=true∧new.size=n'*size:=by
  intro b o n cap g hg h
  obtain⟨k,hk,h⟩:=ab h
  obtain⟨l,e,hke,h⟩:=bV h
  obtain⟨c,hc,h⟩:=ab h
  obtain⟨g',ob,h1,h2,h3⟩:=hH.bL b k (hB b k hk)
  rw[hg] at h1;cases h1
  obtain⟨cs,fz,xs,ys,rfl,q1,q2,q3,q4,q5,_⟩:=RB.cells hke h3
  obtain⟨n1,n2,n3⟩:=hJ q2 hc
  have n1:o+n*size≤xs.length:=n1
  have hsz:o+n*size≤cs.size:=by
   have:=congrArg List.length q1
   simp at this;omega
  have he:(cs.toList.drop o).take (n*size)=(xs.drop o).take (n*size):=by
   rw[q1,List.drop_append_of_le_length (by omega),List.take_append_of_le_length (by simp;omega)]
  refine⟨n,c,((cs.toList.drop o).take (n*size)).toArray,h,by simp[Builtin.lenOf],fun w' hw'=>?_,by rw[he];exact n2,n3 q3,by simp;omega⟩
  exact fM (P:=P) (w:=w') (by rw[hw'];exact h2) hsz
 cases x<;>first|(cases h;done)|skip
 ·rename_i s
  obtain⟨h0,hq⟩:=al (show bF (Nat.beq size 1) (fN (my s) fun n=>f n (ll s))=some y from h)
  rw[cF,im] at hq
  have h0:=bK h0
  subst h0
  simp only[RV] at hx
  obtain⟨hs,rfl⟩:=hx
  obtain⟨c1,c2⟩:=pb (E:=E) hs
  refine⟨s.length,ll s,((eB s).data.map fun b=>Value.int .u8 (b.toNat:Int)),hq,by simp[Builtin.lenOf,iO],fun w' _=>?_,?_,c2,by simp[eB]⟩
  ·have hx:((eB s).extract 0 s.length)=eB s:=by
    rw[ow];simp
   simp only[Builtin.firstCells,hx];rfl
  ·have:((eB s).data.map fun b=>Value.int .u8 (b.toNat:Int)).toList=s.map fun b=>Value.int .u8 ((UInt8.ofNat b).toNat:Int):=by
    simp[eB,Function.comp_def]
   rw[this];exact c1
 ·rename_i b o n cap
  simp only[RV] at hx
  obtain⟨g,hg,rfl⟩:=hx
  exact row b o n cap g hg h
 ·rename_i b o n z
  simp only[RV] at hx
  obtain⟨g,cap,hg,rfl,_⟩:=hx
  exact row b o n cap g hg h
 ·simp only[RV] at hx
  subst hx
  exact⟨0,.nil, #[],h,by simp[Builtin.lenOf],fun w' _=>by simp[Builtin.firstCells],by simp[aQ],rfl,by simp⟩
 ·simp only[RV] at hx
  obtain⟨a,c,rfl⟩:=hx
  exact⟨0,.nil, #[],h,by simp[Builtin.lenOf],fun w' _=>by simp[Builtin.firstCells,loadCells,loadCellsFrom],by simp[aQ],rfl,by simp⟩
theorem RH.swap{L:Nat}{hp:T ak}{nx:Id}(h:RH E hp w)(hf:bW L nx E)(hL:num nx<L){b:Id}{k0 k:ak}(hb:get b hp=some k0){g n:Nat}{o:Obj}(w':World)(hs:w.heap.size≤w'.heap.size)(hold:∀i,i<w.heap.size→E.g b≠some i→w'.heap[i]? =w.heap[i]?)(ho:w'.os=w.os)(ht:Tp w w')(hu:w'.output=w.output)
 (hg:E.g b=some g∨w.heap.size≤g) (hgo:w'.heap[g]? =some o) (E':Env) (hE:E'=⟨fun c=>if c=nx then some g else E.g c,fun c=>if c=nx then n else E.n c⟩) (hk:RB E' nx k o):
 RH E' (put (some k) nx (put none b hp)) w'∧bW L (lO nx) E'∧Ex hp nx E w (put (some k) nx (put none b hp)) (lO nx) E' w'∧E.le E'∧E'.g nx=some g:=by
 have hle:E.le E':=by
  intro c i hc
  have hne:c≠nx:=fun e=>by subst e;rw[hf c (Nat.le_refl _) hL] at hc;cases hc
  subst hE
  exact⟨by simp only[if_neg hne];exact hc,by simp only[if_neg hne]⟩
 have hnew:E'.g nx=some g:=by subst hE;simp
 have holdE:∀c,c≠nx→E'.g c=E.g c∧E'.n c=E.n c:=fun c hc=>by subst hE;simp[hc]
 have hlt:∀c k i,get c hp=some k→E.g c=some i→i<w.heap.size:=by
  intro c k i hc hi
  obtain⟨g',o',h1,h2,_⟩:=h.bL c k hc
  rw[hi] at h1;cases h1
  exact(Array.getElem?_eq_some_iff.1 h2).1
 have old:∀c k',c≠nx→get c (put (some k) nx (put none b hp))=some k'→get c hp=some k'∧c≠b:=by
  intro c k' hne hc
  rw[fK _ hne,cz] at hc
  split at hc
  ·cases hc
  ·rename_i e;exact⟨hc,e⟩
 have hno:∀c k' i,get c hp=some k'→c≠b→E.g c=some i→i≠g:=by
  intro c k' i hc hcb hi e
  subst e
  rcases hg with h1|h1
  ·exact hcb (h.sep c b k' k0 i hc hb hi h1)
  ·have:=hlt c k' i hc hi;omega
 refine⟨⟨?_,?_⟩,?_,⟨ho,ht,hu,hs,?_,?_,by rw[cG];omega,?_⟩,hle,hnew⟩
 ·intro c k' hc
  by_cases e:c=nx
  ·subst e
   rw[bJ] at hc;cases hc
   exact⟨g,o,hnew,hgo,hk⟩
  ·obtain⟨q1,q2⟩:=old c k' e hc
   obtain⟨i,o',h1,h2,h3⟩:=h.bL c k' q1
   refine⟨i,o',(hle c i h1).1,?_,h3.mono hle (holdE c e).2⟩
   rw[hold i (hlt c k' i q1 h1) (fun e'=>q2 (h.sep c b k' k0 i q1 hb h1 e'))];exact h2
 ·intro c c' k1 k2 i hc hc' g1 g2
  by_cases e:c=nx
  ·by_cases e':c'=nx
   ·rw[e,e']
   ·obtain⟨q1,q2⟩:=old c' k2 e' hc'
    subst e;rw[hnew] at g1;cases g1
    rw[(holdE c' e').1] at g2
    exact absurd rfl (hno c' k2 g q1 q2 g2)
  ·obtain⟨q1,q2⟩:=old c k1 e hc
   rw[(holdE c e).1] at g1
   by_cases e':c'=nx
   ·subst e';rw[hnew] at g2;cases g2
    exact absurd rfl (hno c k1 g q1 q2 g1)
   ·obtain⟨q1',q2'⟩:=old c' k2 e' hc'
    rw[(holdE c' e').1] at g2
    exact h.sep c c' k1 k2 i q1 q1' g1 g2
 ·intro c h1 h2
  rw[cG] at h1
  have hne:c≠nx:=fun e=>by subst e;omega
  rw[(holdE c hne).1]
  exact hf c (by omega) h2
 ·intro i hi hn
  exact hold i hi (fun e=>hn ⟨b,k0,hb,e⟩)
 ·rintro i ⟨c,k',hc,hi⟩
  by_cases e:c=nx
  ·subst e;rw[hnew] at hi;cases hi
   exact hg.imp (fun h1=>⟨b,k0,hb,h1⟩) id
  ·obtain⟨q1,q2⟩:=old c k' e hc
   rw[(holdE c e).1] at hi
   exact Or.inl ⟨c,k',q1,hi⟩
 ·intro c hc
  rw[cG] at hc
  have hne:c≠nx:=fun e=>by subst e;omega
  exact holdE c hne
end
end Go.Cm
namespace Go.Cm
section
variable{P:Program} {E:Env} {w:World}
theorem w8(w:World)(o:Obj){j:Nat}(h:j<w.heap.size):(w.alloc o).heap[j]? =w.heap[j]? :=by
 show(w.heap.push o)[j]? =_
 rw[Array.getElem?_push,if_neg (by omega)]
noncomputable def ak.uO{α:Type}(k:ak)(f:V→TypeId→Option α):Option α:=
 @ak.casesOn (fun _=>Option α) k (fun _ _=>none) f (fun _ _=>none) (fun _ _ _ _=>none) (fun _ _=>none) (fun _ _ _ _ _ _ _ _ _=>none) none
theorem CY{α:Type}{k:ak}{f:V→TypeId→Option α}{y:α}(h:k.uO f=some y):∃l e,k= .u l e∧f l e=some y:=by
 cases k<;>first|exact⟨_,_,rfl,h⟩|cases h
noncomputable def yi(hb:Id→Option ak)(nx:Id)(e:TypeId)(size n:Nat)(c s:V):Option bM:=
 s.uJ
  (fun b o l cap=>bO (hb b) fun k=>k.cells fun ol=>
   @Bool.rec (fun _=>Option bM)
    (bF (Nat.ble (Nat.add l n) 1000000) (bO (cA o (Nat.mul l size) ol) fun oc=>fN (Nat.add l n) fun m=>fC (ij oc c) fun r=>some (.nw (.su nx 0 m size) (.u r e))))
    (fN (Nat.add l n) fun m=>bO (wQ (Nat.add o (Nat.mul l size)) c ol) fun l'=>some (.ch (.sl b o m cap) b (k.bC l')))
    (Nat.ble (Nat.add l n) cap))
  (fun b o l z=>bF (Nat.beq o 0) (bF (Nat.beq z size) (bF (Nat.ble (Nat.add l n) 1000000) (bO (hb b) fun k=>k.uO fun ol e'=>bF (Nat.beq e' e) (bF (Nat.beq (ot ol) (Nat.mul l size)) (fN (Nat.add l n) fun m=>fC (ij ol c) fun r=>some (.mv (.su nx 0 m size) b (.u r e))))))))
  (bF (Nat.ble n 1000000) (some (.nw (.su nx 0 n size) (.u c e))))
noncomputable def iQ(P:Program)(hb:Id→Option ak)(nx:Id)(t t2:TypeId)(s x:V):Option bM:=
 bO (P.underlying t) fun d=>match d with
  | .slice e=>bO (P.underlying t2) fun d2=>bF (CW d2) (bO (P.info? e) fun i=>bF (Nat.ble i.bytes 1000000) (bO (zeroV P e) fun z=>z.CD fun zc=>bF (Nat.beq (ot zc) i.size) (G1 hb i.size x fun n c=>
   @Bool.rec (fun _=>Option bM) (yi hb nx e i.size n c s) (s.uJ (fun _ _ l cap=>bF (Nat.ble l cap) (some (.v s))) (fun _ _ _ _=>some (.v s)) (some (.v s))) (Nat.beq n 0))))
  |_=>none
theorem uN{L:Nat}{hp:T ak}{nx:Id}(hH:RH E hp w)(hF:bW L nx E)(hL:num (lO nx)≤L){e:TypeId}{size need cap:Nat}{oc c:V}{old new zs:Array Value}(h1:aQ E oc old.toList)(o1:oc.bU=true)(h2:aQ E c new.toList)(o2:c.bU=true)(hz:old.size+new.size+zs.size=cap*size)(hc:need≤cap):
 ∃E',RV E' (.su nx 0 need size) (.slice (some ⟨w.heap.size,0,none⟩) need cap)∧RH E' (put (some (.u (ij oc c) e)) nx hp) (w.drew.alloc (.cells (old++new++zs) e))∧bW L (lO nx) E'∧Ex hp nx E w (put (some (.u (ij oc c) e)) nx hp) (lO nx) E' (w.drew.alloc (.cells (old++new++zs) e)):=by
 rw[cG] at hL
 obtain⟨E',hE'⟩:∃E':Env,E'=⟨fun b=>if b=nx then some w.heap.size else E.g b,fun b=>if b=nx then(old++new++zs).size else E.n b⟩:=⟨_,rfl⟩
 have hle:E.le E':=by
  intro b g hb
  have hne:b≠nx:=fun e'=>by subst e';rw[hF b (Nat.le_refl _) (by omega)] at hb;cases hb
  subst hE'
  exact⟨by simp only[if_neg hne];exact hb,by simp only[if_neg hne]⟩
 have hn:E'.n nx=(old++new++zs).size:=by subst hE';simp
 obtain⟨a1,a2,a3,a4,a5⟩:=hH.fresh hF (by omega) (k:=.u (ij oc c) e) (o:=.cells (old++new++zs) e) (n:=(old++new++zs).size) (w.drew.alloc (.cells (old++new++zs) e)) rfl rfl (Tp.s rfl rfl) rfl E' hE'
  ⟨old++new++zs,(0,0),old.toList++new.toList,zs.toList,rfl,by simp,(h1.app h2).mono hle,nz o1 o2,Or.inl rfl,hn⟩
 refine⟨_,?_,a1,a2,a3⟩
 simp only[RV]
 refine⟨_,cap,a5,rfl,hc,?_⟩
 rw[hn,Array.size_append,Array.size_append]
 omega
theorem ka{L:Nat}{hp:T ak}{nx:Id}{hb:Id→Option ak}(hH:RH E hp w)(hF:bW L nx E)(hB:∀b k,hb b=some k→get b hp=some k){t t2 ty:TypeId}{s x:V}{vs vx:Value}(hs:RV E s vs)(hx:RV E x vx){ef:bM}(h:iQ P hb nx t t2 s x=some ef):
 pM P L hp nx E w ef (Builtin.append_ #[t,t2] ty #[vs,vx]):=by
 obtain⟨d,hd,h⟩:=ab h
 cases d with
 |
  slice e=>
  obtain⟨d2,hd2,h⟩:=ab h
  obtain⟨hsrc,h⟩:=al h
  obtain⟨i,hi,h⟩:=ab h
  obtain⟨hby,h⟩:=al h
  obtain⟨z,hz,h⟩:=ab h
  have hz':=hz
  obtain⟨i',hi',hz'⟩:=ab hz'
  rw[hi] at hi';cases hi'
  obtain⟨zv,hzv,hz'⟩:=ab hz'
  have hzr:RV E z zv:=CH hz'
  obtain⟨zc,h,zc1,zc2⟩:=hZ h hzr
  obtain⟨hzl,h⟩:=al h
  have hzs:zv.cells.size=i.size:=by rw[←bK hzl,zc1.len];simp
  obtain⟨n,c,new,h,s1,s2,s3,s4,s5⟩:=CX (P:=P) hH hB hx h
  have hby:=Nat.le_of_ble_eq_true hby
  cases hn:Nat.beq n 0 with
  |
   true=>
   rw[hn] at h
   have hn:=bK hn
   subst hn
   have s2':=s2 w rfl
   have e0:new= #[]:=by rw[←Array.size_eq_zero_iff];omega
   subst e0
   intro _
   rcases cP (show s.uJ (fun _ _ l cap=>bF (Nat.ble l cap) (some (.v s))) (fun _ _ _ _=>some (.v s)) (some (.v s))=some ef from h) with⟨b,o,l,cap,he,h⟩|⟨b,o,l,zz,he,h⟩|⟨he,h⟩
   ·obtain⟨h0,h⟩:=al h
    cases h
    subst he
    have hs0:=hs
    simp only[RV] at hs
    obtain⟨g,hg,rfl⟩:=hs
    exact⟨_,w,E,jn hd hd2 hsrc hi _ _ _ _ s1 s2' (Nat.le_of_ble_eq_true h0),hs0,hH,hF,Ex.refl _ _ _ _⟩
   ·cases h
    subst he
    have hs0:=hs
    simp only[RV] at hs
    obtain⟨g,cap,hg,rfl,h0,_⟩:=hs
    exact⟨_,w,E,jn hd hd2 hsrc hi _ _ _ _ s1 s2' h0,hs0,hH,hF,Ex.refl _ _ _ _⟩
   ·cases h
    subst he
    have hs0:=hs
    simp only[RV] at hs
    subst hs
    exact⟨_,w,E,jn hd hd2 hsrc hi _ _ _ _ s1 s2' (Nat.le_refl _),hs0,hH,hF,Ex.refl _ _ _ _⟩
  |
   false=>
   rw[hn] at h
   have hn0:0<n:=by
    rcases Nat.eq_zero_or_pos n with h0|h0
    ·subst h0;simp at hn
    ·exact h0
   have zsz:∀m,(Builtin.zeroCells zv.cells m).size=m*i.size:=by intro m;rw[size_zeroCells,hzs]
   have fit:∀m old,old<m→m≤1000000→((m:Nat):Int)≤9223372036854775807∧Builtin.nextslicecap m old*i.bytes≤281474976710656:=by
    intro m old h1 h2
    refine⟨by omega,growslice_fits h1 ?_⟩
    have:m*i.bytes≤1000000*1000000:=Nat.mul_le_mul h2 hby
    omega
   rcases cP (show yi hb nx e i.size n c s=some ef from h) with⟨b,o,l,cap,he,hq⟩|⟨b,o,l,zz,he,hq⟩|⟨he,hq⟩
   ·obtain⟨k,hk,hq⟩:=ab hq
    obtain⟨ol,e',hke,hq⟩:=bV hq
    subst he
    simp only[RV] at hs
    obtain⟨g,hg,rfl⟩:=hs
    obtain⟨g',ob,h1,h2,h3⟩:=hH.bL b k (hB b k hk)
    rw[hg] at h1;cases h1
    obtain⟨cs,fz,xs,ys,rfl,q1,q2,q3,q4,q5,q6⟩:=RB.cells hke h3
    have hxs:xs.length+ys.length=cs.size:=by have:=congrArg List.length q1;simp at this;omega
    cases hroom:Nat.ble (Nat.add l n) cap with
    |
     false=>
     rw[hroom] at hq
     obtain⟨hm,hq⟩:=al (show bF (Nat.ble (Nat.add l n) 1000000) (bO (cA o (Nat.mul l i.size) ol) fun oc=>fN (Nat.add l n) fun m=>fC (ij oc c) fun r=>some (.nw (.su nx 0 m i.size) (.u r e)))=some ef from hq)
     obtain⟨oc,hoc,hq⟩:=ab hq
     rw[cF,kL] at hq
     cases hq
     have hm:l+n≤1000000:=Nat.le_of_ble_eq_true hm
     have hroom:cap<l+n:=by
      rw[uD] at hroom
      have:¬(l+n≤cap):=by simpa using hroom
      omega
     obtain⟨n1,n2,n3⟩:=hJ q2 hoc
     have n1:o+l*i.size≤xs.length:=n1
     have he:(cs.toList.drop o).take (l*i.size)=(xs.drop o).take (l*i.size):=by
      rw[q1,List.drop_append_of_le_length (by omega),List.take_append_of_le_length (by simp;omega)]
     intro hL
     have hfit:=fit (l+n) cap hroom hm
     have hrun:=j9 (P:=P) (w:=w) (ty:=ty) hd hd2 hsrc hi hzv (some ⟨g,o,none⟩) l cap n vx ((cs.toList.drop o).take (l*i.size)).toArray new s1 (s2 w.drew rfl) (fM (P:=P) (w:=w.drew) h2 (by omega)) hroom hfit.1 hfit.2
     have hge:=grownCap_ge w (l+n) cap e
     obtain⟨E',r1,r2,r3,r4⟩:=uN (e:=e) (size:=i.size) (need:=l+n) (cap:=grownCap w (l+n) cap e) (zs:=Builtin.zeroCells zv.cells (grownCap w (l+n) cap e -(l+n))) hH hF hL (old:=((cs.toList.drop o).take (l*i.size)).toArray) (by rw[he];exact n2) (n3 q3) s3 s4
      (by rw[zsz,s5];simp only[List.size_toArray,List.length_take,List.length_drop,Array.length_toList];rw[Nat.min_eq_left (by omega),←Nat.add_mul,←Nat.add_mul];congr 1;omega) hge
     exact⟨_,_,E',hrun,r1,r2,r3,r4⟩
    |
     true=>
     rw[hroom] at hq
     have hq:(fN (Nat.add l n) fun m=>bO (wQ (Nat.add o (Nat.mul l i.size)) c ol) fun l'=>some (bM.ch (.sl b o m cap) b (k.bC l')))=some ef:=hq
     rw[cF] at hq
     obtain⟨l',hl',hq⟩:=ab hq
     cases hq
     have hroom:l+n≤cap:=Nat.le_of_ble_eq_true hroom
     obtain⟨n1,n2,n3⟩:=nA s3 q2 hl'
     have n1:o+l*i.size+new.toList.length≤xs.length:=n1
     obtain⟨cs',r1,r2⟩:=hM (P:=P) (o:=o+l*i.size) (i:=0) h2 (vs:=new.toList) (by omega) q4 (s3.nC s4)
     have hlen:cs'.size=cs.size:=by
      have:=congrArg List.length r2
      simp only[List.length_append,List.length_take,List.length_drop,Array.length_toList] at this n1
      omega
     have hcs:cs'.toList=(xs.take (o+l*i.size)++new.toList++xs.drop (o+l*i.size+new.toList.length))++ys:=by
      rw[r2,q1]
      simp only[Nat.add_zero]
      rw[List.take_append_of_le_length (by omega),List.drop_append_of_le_length (by omega)]
      simp
     have hrb:RB E b (k.bC l') (.cells cs' e' fz):=by
      rcases hke with rfl|rfl
      ·have:=q6 rfl;subst this
       rw[List.append_nil] at hcs
       exact⟨cs',fz,rfl,by rw[hcs];exact n2,n3 s4 q3,by rw[hlen];exact q4,by rw[q5,hlen]⟩
      ·exact⟨cs',fz,_,ys,rfl,hcs,n2,n3 s4 q3,by rw[hlen];exact q4,by rw[q5,hlen]⟩
     obtain⟨t1,t2'⟩:=hH.change (nx:=nx) (k:=k.bC l') (hB b k hk) hg (w.bC g (.cells cs' e' fz)) rfl rfl (Tp.r rfl rfl) rfl hrb
     intro _
     have hrun:=mz (P:=P) (w:=w) (ty:=ty) hd hd2 hsrc hi ⟨g,o,none⟩ l cap n vx new s1 (s2 w rfl) (by rw[dP];exact r1) hroom
     refine⟨_,_,E,hrun,?_,t1,hF,t2'⟩
     show RV E (.sl b o (l+n) cap) _
     simp only[RV]
     exact⟨g,hg,rfl⟩
   ·obtain⟨ho,hq⟩:=al hq
    obtain⟨hzz,hq⟩:=al hq
    obtain⟨hm,hq⟩:=al hq
    obtain⟨k,hk,hq⟩:=ab hq
    obtain⟨ol,e',hke,hq⟩:=CY hq
    obtain⟨hee,hq⟩:=al hq
    obtain⟨hol,hq⟩:=al hq
    rw[cF,kL] at hq
    cases hq
    have ho:=bK ho
    have hzz:=bK hzz
    have hee:=bK hee
    have hm:l+n≤1000000:=Nat.le_of_ble_eq_true hm
    subst he;subst hke;subst ho;subst hzz;subst hee
    simp only[RV] at hs
    obtain⟨g,cap,hg,rfl,hcap,hcn⟩:=hs
    obtain⟨g',ob,h1,h2,cs,fz,xs,ys,rfl,q1,q2,q3,q4,q5⟩:=hH.bL b _ (hB b _ hk)
    rw[hg] at h1;cases h1
    have hol:xs.length=l*i.size:=by rw[←q2.len];exact bK hol
    have hxs:xs.length+ys.length=cs.size:=by have:=congrArg List.length q1;simp at this;omega
    have hcs:cs.size=cap*i.size:=by omega
    intro hL
    have hL':num nx<L:=by have:num (lO nx)≤L:=hL;rw[cG] at this;omega
    by_cases hroom:l+n≤cap
    ·have hfits:l*i.size+n*i.size≤cap*i.size:=by rw[←Nat.add_mul];exact Nat.mul_le_mul_right _ hroom
     have hnl:new.toList.length=n*i.size:=by rw[Array.length_toList];exact s5
     obtain⟨cs',r1,r2⟩:=hM (P:=P) (o:=l*i.size) (i:=0) h2 (vs:=new.toList) (by omega) q4 (s3.nC s4)
     have hlen:cs'.size=cs.size:=by
      have:=congrArg List.length r2
      simp only[List.length_append,List.length_take,List.length_drop,Array.length_toList] at this
      rw[Array.length_toList] at hnl
      omega
     have hcs':cs'.toList=(xs++new.toList)++cs.toList.drop (l*i.size+new.toList.length):=by
      rw[r2]
      simp only[Nat.add_zero]
      congr 2
      rw[q1,List.take_append_of_le_length (by omega),List.take_of_length_le (by omega)]
     have hrun:=mz (P:=P) (w:=w) (ty:=ty) hd hd2 hsrc hi ⟨g,0,none⟩ l cap n vx new s1 (s2 w rfl) (by rw[dP,Nat.zero_add];exact r1) hroom
     have hlt:g<w.heap.size:=(Array.getElem?_eq_some_iff.1 h2).1
     obtain⟨E',hE'⟩:∃E':Env,E'=⟨fun b=>if b=nx then some g else E.g b,fun b=>if b=nx then cs'.size else E.n b⟩:=⟨_,rfl⟩
     have hEn:E'.n nx=cs'.size:=by subst hE';simp
     have hle:E.le E':=by
      intro b' g' hb'
      have hne:b'≠nx:=fun e''=>by subst e'';rw[hF b' (Nat.le_refl _) hL'] at hb';cases hb'
      subst hE'
      exact⟨by simp only[if_neg hne];exact hb',by simp only[if_neg hne]⟩
     obtain⟨t1,t2',t3,t4,t5⟩:=hH.swap hF hL' (k:=.u (ij ol c) e') (hB b _ hk) (g:=g) (n:=cs'.size) (o:=.cells cs' e' fz) (w.bC g (.cells cs' e' fz)) (by simp[World.bC])
      (fun j _ hne=>by simp only[World.bC];rw[Array.getElem?_setIfInBounds,if_neg (fun ee=>hne (by rw[←ee];exact hg))]) rfl (Tp.r rfl rfl) rfl (Or.inl hg) (by simp[World.bC,hlt]) E' hE'
      ⟨cs',fz,_,_,rfl,hcs',(q2.app s3).mono hle,nz q3 s4,by rw[hlen];exact q4,hEn⟩
     refine⟨_,_,_,hrun,?_,t1,t2',t3⟩
     show RV _ (.su nx 0 (l+n) i.size) _
     simp only[RV]
     refine⟨g,cap,t5,rfl,hroom,?_⟩
     rw[hEn]
     omega
    ·have hroom':cap<l+n:=by omega
     have hfit:=fit (l+n) cap hroom' hm
     have hold:(Builtin.firstCells i.size l (.slice (some ⟨g,0,none⟩) l cap)).run P w.drew= .ok xs.toArray w.drew:=by
      have:=fM (P:=P) (w:=w.drew) (g:=g) (o:=0) (n:=l*i.size) h2 (by omega)
      rw[List.drop_zero,q1,List.take_append_of_le_length (by omega),List.take_of_length_le (by omega)] at this
      exact this
     have hrun:=j9 (P:=P) (w:=w) (ty:=ty) hd hd2 hsrc hi hzv (some ⟨g,0,none⟩) l cap n vx xs.toArray new s1 (s2 w.drew rfl) hold hroom' hfit.1 hfit.2
     have hge:=grownCap_ge w (l+n) cap e'
     have hnl:new.size=n*i.size:=s5
     have hsz:(xs.toArray++new++Builtin.zeroCells zv.cells (grownCap w (l+n) cap e' -(l+n))).size=grownCap w (l+n) cap e'*i.size:=by
      rw[Array.size_append,Array.size_append,zsz,hnl]
      simp only[List.size_toArray,hol]
      rw[←Nat.add_mul,←Nat.add_mul];congr 1;omega
     obtain⟨E',hE'⟩:∃E':Env,E'=⟨fun b=>if b=nx then some w.heap.size else E.g b,fun b=>if b=nx then(xs.toArray++new++Builtin.zeroCells zv.cells (grownCap w (l+n) cap e' -(l+n))).size else E.n b⟩:=⟨_,rfl⟩
     have hEn:E'.n nx=(xs.toArray++new++Builtin.zeroCells zv.cells (grownCap w (l+n) cap e' -(l+n))).size:=by subst hE';simp
     have hle:E.le E':=by
      intro b' g' hb'
      have hne:b'≠nx:=fun e''=>by subst e'';rw[hF b' (Nat.le_refl _) hL'] at hb';cases hb'
      subst hE'
      exact⟨by simp only[if_neg hne];exact hb',by simp only[if_neg hne]⟩
     obtain⟨t1,t2',t3,t4,t5⟩:=hH.swap hF hL' (k:=.u (ij ol c) e') (hB b _ hk) (g:=w.heap.size) (n:=(xs.toArray++new++Builtin.zeroCells zv.cells (grownCap w (l+n) cap e' -(l+n))).size) (o:=.cells (xs.toArray++new++Builtin.zeroCells zv.cells (grownCap w (l+n) cap e' -(l+n))) e') (w.drew.alloc (.cells (xs.toArray++new++Builtin.zeroCells zv.cells (grownCap w (l+n) cap e' -(l+n))) e')) (by simp)
      (fun j hj _=>w8 w.drew _ hj) rfl (Tp.s rfl rfl) rfl (Or.inr (Nat.le_refl _)) (heap_alloc_new w.drew _) E' hE'
      ⟨_,(0,0),xs++new.toList,(Builtin.zeroCells zv.cells (grownCap w (l+n) cap e' -(l+n))).toList,rfl,by simp,(q2.app s3).mono hle,nz q3 s4,Or.inl rfl,hEn⟩
     refine⟨_,_,_,hrun,?_,t1,t2',t3⟩
     show RV _ (.su nx 0 (l+n) i.size) _
     simp only[RV]
     refine⟨w.heap.size,_,t5,rfl,hge,?_⟩
     rw[hEn,hsz];omega
   ·obtain⟨hm,hq⟩:=al hq
    cases hq
    subst he
    simp only[RV] at hs
    subst hs
    have hm:n≤1000000:=Nat.le_of_ble_eq_true hm
    intro hL
    have hfit:=fit n 0 hn0 hm
    have hrun:=j9 (P:=P) (w:=w) (ty:=ty) hd hd2 hsrc hi hzv none 0 0 n vx #[] new s1 (s2 w.drew rfl) (by simp[Builtin.firstCells]) (by omega) (by simpa using hfit.1) (by simpa using hfit.2)
    rw[Nat.zero_add] at hrun
    have hge:=grownCap_ge w n 0 e
    obtain⟨E',r1,r2,r3,r4⟩:=uN (e:=e) (size:=i.size) (need:=n) (cap:=grownCap w n 0 e) (zs:=Builtin.zeroCells zv.cells (grownCap w n 0 e -n)) hH hF hL (oc:=.nil) (old:= #[]) (by simp[aQ]) rfl s3 s4
     (by rw[zsz,s5];simp only[List.size_toArray,List.length_nil,Nat.zero_add];rw[←Nat.add_mul];congr 1;omega) hge
    exact⟨_,_,E',hrun,r1,r2,r3,r4⟩
 |_=>cases h
end
end Go.Cm
namespace Go.Cm
section
variable{P:Program} {E:Env} {w:World}
noncomputable def Fz(x:V):V→Option Bool:=
 @V.rec (fun _=>V→Option Bool) (fun _ _=>none) (fun _ _ _=>none) (fun _ _=>none) (fun _ _ _=>none) (fun _=>none) (fun _ _ _ _ _=>none) (fun _ _ _ _ _=>none) (fun _=>none) (fun _=>none) (fun _ _=>none) (fun _=>none) (fun _ _ _ _ _ _=>none) (fun _ _=>none) (fun _=>none) (fun _ _ _ _=>none) (fun _=>none) (fun _ _ _=>none) (fun _ _ _=>none) (fun _=>none)
  (fun y=>y.split (some true) (fun _ _=>none) none)
  (fun a _ _ ih y=>y.split none (fun b m=>a.int fun k i=>b.int fun k' j=>bF (zw k k') (@Bool.rec (fun _=>Option Bool) (some false) (ih m) (zu i j))) none) x
theorem cB{α:Type}{x:V}{n:Option α}{f:V→V→Option α}{y:α}(h:x.split n f none=some y):(x= .nil∧n=some y)∨∃a l,x= .cons a l∧f a l=some y:=by
 cases x<;>first|exact Or.inl ⟨rfl,h⟩|exact Or.inr ⟨_,_,rfl,h⟩|cases h
theorem rU{d:Nat}{e:TypeId}{k0 k:IntKind}{a b:Int}(he:P.underlying e=some (.int k0)):(Op.equalIn (d+1) e (.int k a) (.int k b)).run P w= .ok (zu a b) w:=by
 simp[Op.equalIn,aw he,kM]
theorem FA{d:Nat}{e:TypeId}{k0:IntKind}(he:P.underlying e=some (.int k0)){xs ys:Array Value}:∀{l m:V}{i n:Nat}{b:Bool},aQ E l (xs.toList.drop i)→aQ E m (ys.toList.drop i)→ot l=n→Fz l m=some b→
 (Op.eqItems (d+1) e 1 xs ys (List.range' i n)).run P w= .ok b w:=by
 intro l
 induction l with
 |
  nil=>
  intro m i n b h1 h2 hn h
  have hn:0=n:=hn
  subst hn
  rcases cB (show m.split (some true) (fun _ _=>none) none=some b from h) with⟨rfl,h⟩|⟨_,_,_,h⟩
  ·cases h;simp[Op.eqItems]
  ·cases h
 |
  cons a l _ ih=>
  intro m i n b h1 h2 hn h
  have hn:Nat.succ (ot l)=n:=hn
  subst hn
  obtain⟨c,m',rfl,h⟩:=bQ (show m.split none (fun b' m'=>a.int fun k i=>b'.int fun k' j=>bF (zw k k') (@Bool.rec (fun _=>Option Bool) (some false) (Fz l m') (zu i j))) none=some b from h)
  obtain⟨k,x,rfl,h⟩:=bc h
  obtain⟨k',y,rfl,h⟩:=bc h
  obtain⟨hk,hz⟩:=al h
  have:=iJ hk;subst this
  obtain⟨v,r,e1,v1,v2⟩:=aQ.aG.1 h1
  obtain⟨u,s,e2,u1,u2⟩:=aQ.aG.1 h2
  simp only[RV] at v1 u1
  subst v1;subst u1
  have hx:xs[i]? =some (.int k x):=by
   have:=congrArg (·[0]?) e1
   simpa using this
  have hy:ys[i]? =some (.int k y):=by
   have:=congrArg (·[0]?) e2
   simpa using this
  have hr:r=xs.toList.drop (i+1):=by
   have:=congrArg (List.drop 1) e1
   simpa using this.symm
  have hs:s=ys.toList.drop (i+1):=by
   have:=congrArg (List.drop 1) e2
   simpa using this.symm
  subst hr;subst hs
  rw[List.range'_succ]
  simp only[Op.eqItems,Nat.mul_one]
  have p1:(part e xs i).run P w= .ok (.int k x) w:=by simp[part,eZ he,kN,hx]
  have p2:(part e ys i).run P w= .ok (.int k y) w:=by simp[part,eZ he,kN,hy]
  simp only[Sem.run_bind,p1,p2,Result.andThen_ok,rU he]
  cases hq:zu x y with
  |
   false=>
   rw[hq] at hz
   cases(show some false=some b from hz)
   simp
  |
   true=>
   rw[hq] at hz
   have:=ih v2 u2 rfl (show Fz l m'=some b from hz)
   simpa using this
 |_=>intro m i n b h1;simp[aQ] at h1
noncomputable def mA(P:Program)(t:TypeId)(x y:V):Option Bool:=
 bO (
  P.underlying t) fun d=>match d with
  | .int _=>x.int fun k a=>y.int fun k' b=>bF (zw k k') (some (zu a b))
  | .string=>x.str fun a=>y.str fun b=>some (CP a b)
  | .bool=>x.bool fun a=>y.bool fun b=>some (@Bool.rec (fun _=>Bool) (dr b) b a)
  |
   .array n e=>bO (P.underlying e) fun de=>match de with
   | .int _=>bO (P.info? e) fun i=>bF (Nat.beq i.size 1) (x.ag fun l=>y.ag fun m=>bF (Nat.beq (ot l) n) (Fz l m))
   |_=>none
  |_=>none
theorem s8{d:Nat}{t:TypeId}{x y:V}{vx vy:Value}{b:Bool}(hx:RV E x vx)(hy:RV E y vy)(h:mA P t x y=some b):(Op.equalIn (d+2) t vx vy).run P w= .ok b w:=by
 obtain⟨dd,hd,h_1⟩:=ab h
 cases dd with
 |
  int k0=>
  obtain⟨k,a,rfl,h_2⟩:=bc h_1
  obtain⟨k',c,rfl,h_3⟩:=bc h_2
  obtain⟨hk,h_4⟩:=al h_3
  have:=iJ hk;subst this
  cases h_4
  simp only[RV] at hx hy
  subst hx;subst hy
  exact rU hd
 |
  string=>
  obtain⟨a,rfl,h_5⟩:=dC h_1
  obtain⟨c,rfl,h_6⟩:=dC h_5
  cases h_6
  simp only[RV] at hx hy
  obtain⟨h1,rfl⟩:=hx
  obtain⟨h2,rfl⟩:=hy
  have:((eB a).toList==(eB c).toList)=CP a c:=by
   rw[ou,jU,jU]
   by_cases e:a=c
   ·subst e;simp
   ·simp only[e,decide_false]
    simpa using fun hh=>e (pA h1 h2 hh)
  rw[run_equalIn_string w (d+1) t _ _ hd,this]
 |
  bool=>
  obtain⟨a,rfl,h_7⟩:=cT h_1
  obtain⟨c,rfl,h_8⟩:=cT h_7
  cases h_8
  simp only[RV] at hx hy
  subst hx;subst hy
  rw[run_equalIn_bool' w (d+1) t _ _ hd]
  cases a<;>cases c<;>rfl
 |
  array n e=>
  obtain⟨de,he,h_9⟩:=ab h_1
  cases de with
  |
   int k0=>
   obtain⟨i,hi,h_10⟩:=ab h_9
   obtain⟨h1,h_11⟩:=al h_10
   obtain⟨l,rfl,h_12⟩:=eJ h_11
   obtain⟨m,rfl,h_13⟩:=eJ h_12
   obtain⟨h2,h_14⟩:=al h_13
   simp only[RV] at hx hy
   obtain⟨a,rfl,x1,x2⟩:=hx
   obtain⟨c,rfl,y1,y2⟩:=hy
   rw[run_equalIn_array w (d+1) a c hd hi]
   have hc:P.cellsOf e=1:=by simp[Program.cellsOf,hi,bK h1]
   rw[hc,List.range_eq_range']
   exact FA he (i:=0) (by simpa using x1) (by simpa using y1) (bK h2) h_14
  |_=>cases h_9
 |_=>cases h_1
noncomputable def zG(op:BinOp)(b:Bool):Option V:=match op with
 | .eql=>some (.b b)
 | .neq=>some (.b (dr b))
 |_=>none
noncomputable def yj(d:TypeDesc)(x y:V):Option Bool:=match d,x,y with
 | .slice _,.sl _ _ _ _,.ns=>some false
 | .slice _,.su _ _ _ _,.ns=>some false
 | .slice _,.ns,.ns=>some true
 | .slice _,.se,.ns=>some false
 | .func _ _ _,.fn _ _ _,.nf=>some false
 | .func _ _ _,.nf,.nf=>some true
 | .interface _,.EE _ _,.ni=>some false
 | .interface _,.ni,.ni=>some true
 | .map _ _,.m _,.nm=>some false
 | .map _ _,.nm,.nm=>some true
 | .pointer _,.p _ _,.np=>some false
 | .pointer _,.np,.np=>some true
 |_,_,_=>none
theorem AM{dp:Nat}{t:TypeId}{d:TypeDesc}{x y:V}{vx vy:Value}{b:Bool}(hd:P.underlying t=some d)(hx:RV E x vx)(hy:RV E y vy)(h:yj d x y=some b):(Op.equalIn (dp+1) t vx vy).run P w= .ok b w:=by
 unfold yj at h
 split at h<;>first|(cases h;done)|skip
 all_goals
  cases h
  simp only[RV] at hx hy
  subst hy
  first
   |(subst hx;simp[Op.equalIn,aw hd];done)
   |(obtain⟨_,_,rfl⟩:=hx;simp[Op.equalIn,aw hd];done)
   |(obtain⟨_,rfl,_⟩:=hx;simp[Op.equalIn,aw hd];done)
   |(obtain⟨_,_,rfl,_⟩:=hx;simp[Op.equalIn,aw hd];done)
   |(obtain⟨_,_,_,rfl,_⟩:=hx;simp[Op.equalIn,aw hd];done)
def zH:Operand→Bool
 | .const _=>true
 |_=>false
noncomputable def dQ(P:Program)(cst:Bool)(op:BinOp)(t:TypeId)(x y:V):Option V:=
 bF cst (bO (P.underlying t) fun d=>bO (yj d x y) fun b=>zG op b)
noncomputable def ES(P:Program)(op:BinOp)(t:TypeId)(x y:V):Option V:=
 bF (dr (P.eqGuardType P.depth t)) (x.ag fun _=>y.ag fun _=>bO (mA P t x y) fun b=>zG op b)
noncomputable def oz(P:Program)(cst:Bool)(op:BinOp)(t:TypeId)(x y:V):Option V:=
 @V.casesOn (fun _=>Option V) x (fun _=>y.bool fun _=>bO (mA P t x y) fun b=>zG op b) (fun k a=>y.int fun k' b=>@Bool.rec (fun _=>Option V) (bF (zw k k') (wT op k a b)) (pB op k a b) (uF op)) (fun a=>y.str fun b=>zx op a b)
  (fun _ _=>dQ P cst op t x y) (dQ P cst op t x y) (fun _ _ _ _=>dQ P cst op t x y) (fun _ _ _ _=>dQ P cst op t x y) (dQ P cst op t x y) (dQ P cst op t x y) (fun _=>dQ P cst op t x y) (dQ P cst op t x y) (fun _ _ _=>dQ P cst op t x y) (fun _=>none) (dQ P cst op t x y) (fun _ _=>dQ P cst op t x y) (dQ P cst op t x y)
  (fun _=>ES P op t x y) (fun _=>none) none none (fun _ _=>none)
theorem jo{op:BinOp}{t:TypeId}{vx vy:Value}{b:Bool}{r:V}(h:zG op b=some r)(he:(Op.equal t vx vy).run P w= .ok b w)(h1:binOp .eql t vx vy=(do pure (.bool (←Op.equal t vx vy))))(h2:binOp .neq t vx vy=(do pure (.bool (!(←Op.equal t vx vy))))):∃v,(binOp op t vx vy).run P w= .ok v w∧RV E r v:=by
 cases op<;>simp only[zG] at h<;>cases h
 ·exact⟨.bool b,by rw[h1];simp[he],by simp only[RV]⟩
 ·exact⟨.bool (!b),by rw[h2];simp[he],by simp only[RV,fu]⟩
theorem w9{cst:Bool}{op:BinOp}{t:TypeId}{x y r:V}{vx vy:Value}{ox oy:Operand}(hc:cst=true→zH ox=true∨zH oy=true)(hx:RV E x vx)(hy:RV E y vy)(h:dQ P cst op t x y=some r):
 (eqGuard op t ox oy vx vy).run P w= .ok () w∧∃v,(binOp op t vx vy).run P w= .ok v w∧RV E r v:=by
 obtain⟨hc',h⟩:=al h
 obtain⟨d,hd,h⟩:=ab h
 obtain⟨b,hb,h⟩:=ab h
 have he:=AM (P:=P) (w:=w) (dp:=9999) hd hx hy hb
 have hcc:=hc hc'
 have gd:(eqGuard op t ox oy .nilIface .nilIface).run P w= .ok () w:=by
  unfold eqGuard
  rcases hcc with h0|h0
  ·cases ox<;>simp[zH] at h0
   split<;>simp
  ·cases oy<;>simp[zH] at h0
   split<;>simp
 unfold yj at hb
 split at hb<;>first|(cases hb;done)|skip
 all_goals
  cases hb
  simp only[RV] at hx hy
  subst hy
  first
   |(subst hx;exact⟨by first|exact gd|(unfold eqGuard;split<;>simp),jo h he rfl rfl⟩)
   |(obtain⟨_,_,rfl⟩:=hx;exact⟨by unfold eqGuard;split<;>simp,jo h he rfl rfl⟩)
   |(obtain⟨_,rfl,_⟩:=hx;exact⟨by unfold eqGuard;split<;>simp,jo h he rfl rfl⟩)
   |(obtain⟨_,_,rfl,_⟩:=hx;exact⟨by unfold eqGuard;split<;>simp,jo h he rfl rfl⟩)
   |(obtain⟨_,_,_,rfl,_⟩:=hx;exact⟨by unfold eqGuard;split<;>simp,jo h he rfl rfl⟩)
theorem pE{cst:Bool}{op:BinOp}{t:TypeId}{x y r:V}{vx vy:Value}{ox oy:Operand}(hc:cst=true→zH ox=true∨zH oy=true)(hx:RV E x vx)(hy:RV E y vy)(h:oz P cst op t x y=some r):
 (eqGuard op t ox oy vx vy).run P w= .ok () w∧∃v,(binOp op t vx vy).run P w= .ok v w∧RV E r v:=by
 cases x with
 |
  b a=>
  obtain⟨c,rfl,h_1⟩:=cT (show(y.bool fun _=>bO (mA P t (.b a) y) fun b=>zG op b)=some r from h)
  obtain⟨b,hb,h_2⟩:=ab h_1
  have he:=s8 (w:=w) (d:=9998) hx hy hb
  simp only[RV] at hx hy
  subst hx;subst hy
  exact⟨by unfold eqGuard;split<;>simp,jo h_2 he rfl rfl⟩
 |
  i k a=>
  obtain⟨k',c,rfl,h_3⟩:=bc (show(y.int fun k' b=>@Bool.rec (fun _=>Option V) (bF (zw k k') (wT op k a b)) (pB op k a b) (uF op))=some r from h)
  simp only[RV] at hx hy
  subst hx;subst hy
  refine⟨by unfold eqGuard;split<;>simp,?_⟩
  cases hs:uF op with
  |true=>rw[hs] at h_3;exact xZ h_3
  |
   false=>
   rw[hs] at h_3
   obtain⟨hk,h_4⟩:=al (show bF (zw k k') (wT op k a c)=some r from h_3)
   have:=iJ hk;subst this
   exact CA h_4
 |
  s a=>
  obtain⟨c,rfl,h_5⟩:=dC (show(y.str fun b=>zx op a b)=some r from h)
  simp only[RV] at hx hy
  obtain⟨h1,rfl⟩:=hx
  obtain⟨h2,rfl⟩:=hy
  exact⟨by unfold eqGuard;split<;>simp,CC h1 h2 h_5⟩
 |
  agg l=>
  obtain⟨hg,h_6⟩:=al (show ES P op t (.agg l) y=some r from h)
  obtain⟨l',e,h_7⟩:=eJ h_6
  cases e
  obtain⟨m,rfl,h_8⟩:=eJ h_7
  obtain⟨b,hb,h_9⟩:=ab h_8
  have he:=s8 (w:=w) (d:=9998) hx hy hb
  simp only[RV] at hx hy
  obtain⟨a,rfl,x1,x2⟩:=hx
  obtain⟨c,rfl,y1,y2⟩:=hy
  have hg:P.eqGuardType P.depth t=false:=by rw[fu] at hg;simpa using hg
  exact⟨run_eqGuard_agg w _ t ox oy a c hg,jo h_9 he rfl rfl⟩
 |yl b=>cases h
 |c8 l=>cases h
 |un=>cases h
 |nil=>cases h
 |cons a l=>cases h
 |_=>exact w9 hc hx hy h
end
end Go.Cm
namespace Go.Cm
noncomputable def AN{α:Type}(p:Id):(Id→α)→α:=
 @List.rec Bool (fun _=>(Id→α)→α) (fun k=>k []) (fun b _ ih k=>ih fun l=>@Bool.rec (fun _=>α) (k (false::l)) (k (true::l)) b) p
theorem lQ{α:Type}:∀(p:Id)(k:Id→α),AN p k=k p
 |[],_=>rfl
 |
  b::p,k=>by
  show AN p (fun l=>@Bool.rec (fun _=>α) (k (false::l)) (k (true::l)) b)=_
  rw[lQ p];cases b<;>rfl
noncomputable def dD{α β:Type}(v:Option α)(p:Id):T α→(T α→β)→β:=
 @List.rec Bool (fun _=>T α→(T α→β)→β) (fun t k=>@T.rec α (fun _=>β) (k (.n .e v .e)) (fun l _ r _ _=>k (.n l v r)) t)
  (fun b _ ih t k=>@T.rec α (fun _=>β) (@Bool.rec (fun _=>β) (ih .e fun x=>k (.n x none .e)) (ih .e fun x=>k (.n .e none x)) b)
   (fun l x r _ _=>@Bool.rec (fun _=>β) (ih l fun y=>k (.n y x r)) (ih r fun y=>k (.n l x y)) b) t) p
theorem cj{α β:Type}(v:Option α):∀(p:Id)(t:T α)(k:T α→β),dD v p t k=k (put v p t)
 |[],t,k=>by cases t<;>rfl
 |
  b::p,t,k=>by
  have ih:=fun t(k:T α→β)=>cj v p t k
  cases t with
  |e=>cases b<;>exact ih _ _
  |n l x r=>cases b<;>exact ih _ _
noncomputable def V.CZ{α:Type}(x:V)(f:FuncId→V→V→Option α)(g:Id→Option α):Option α:=
 @V.casesOn (fun _=>Option α) x (fun _=>none) (fun _ _=>none) (fun _=>none) (fun _ _=>none) none (fun _ _ _ _=>none) (fun _ _ _ _=>none) none none (fun _=>none) none f g none (fun _ _=>none) none (fun _=>none) (fun _=>none) none none (fun _ _=>none)
noncomputable def V.C0{α:Type}(x:V)(f:TypeId→V→Option α)(n:Option α):Option α:=
 @V.casesOn (fun _=>Option α) x (fun _=>none) (fun _ _=>none) (fun _=>none) (fun _ _=>none) none (fun _ _ _ _=>none) (fun _ _ _ _=>none) none none (fun _=>none) none (fun _ _ _=>none) (fun _=>none) none f n (fun _=>none) (fun _=>none) none none (fun _ _=>none)
noncomputable def pF(x:V):Option V:=
 @V.casesOn (fun _=>Option V) x (fun _=>some x) (fun _ _=>some x) (fun _=>some x) (fun _ _=>some x) none (fun _ _ _ _=>some x) (fun _ _ _ _=>some x) (some x) (some x) (fun _=>some x) (some x) (fun _ _ _=>some x) (fun _=>some x) none (fun _ _=>some x) none (fun _=>some x) (fun _=>none) none none (fun _ _=>none)
noncomputable def zI(op:UnOp)(x:V):Option V:=match op with
 | .not=>x.bool fun b=>some (.b (dr b))
 | .neg=>x.int fun k n=>xY k (ru k (Int.sub 0 n))
 |_=>none
noncomputable def bytesOf(l:V):Option (List Nat):=
 @V.rec (fun _=>Option (List Nat)) (fun _=>none) (fun _ _=>none) (fun _=>none) (fun _ _=>none) none (fun _ _ _ _=>none) (fun _ _ _ _=>none) none none (fun _=>none) none (fun _ _ _ _ _=>none) (fun _=>none) none (fun _ _ _=>none) none (fun _ _=>none) (fun _ _=>none) none (some [])
  (fun a _ _ ih=>a.int fun k n=>bF (zw k .u8) (Fj n fun n=>bF (Nat.ble n 255) (bO ih fun r=>some (n::r)))) l
noncomputable def uP{α:Type}(hb:Id→Option ak)(x:V)(f:List Nat→Option α):Option α:=
 @Bool.rec (fun _=>Option α) (x.uJ (fun b o n _=>bO (hb b) fun k=>k.cells fun l=>bO (cA o n l) fun c=>bO (bytesOf c) f)
  (fun b o n _=>bO (hb b) fun k=>k.cells fun l=>bO (cA o n l) fun c=>bO (bytesOf c) f) (f [])) (f []) x.rr
noncomputable def C1(P:Program)(e:TypeId):Bool:=match P.underlying e with
 |some (.int .u8)=>true
 |_=>false
noncomputable def nG(P:Program)(hb:Id→Option ak)(nx:Id)(src dst:TypeId)(x:V):Option bM:=
 bO (
  P.underlying src) fun s=>bO (P.underlying dst) fun d=>match d with
  | .int k=>x.int fun _ n=>bO (xY k (ru k n)) fun r=>some (.v r)
  |
   .string=>match s with
   | .slice e=>bF (C1 P e) (uP hb x fun l=>some (.v (.s l)))
   |_=>none
  | .slice e=>bF (C1 P e) (@Bool.rec (fun _=>Option bM) (x.str fun s=>fN (my s) fun n=>fC (ll s) fun c=>some (.nw (.su nx 0 n 1) (.u c e)))
   (match s with
    | .slice _=>x.uJ (fun b _ _ _=>bO (hb b) fun k=>k.cells fun _=>some (.ch x b k)) (fun b _ _ _=>bO (hb b) fun k=>k.cells fun _=>some (.ch x b k)) none
    |_=>none) (Nat.beq src dst))
  |_=>none
noncomputable def yk(P:Program)(t:TypeId):Bool:=match P.underlying t with
 |some (.interface _)=>true
 |none=>true
 |_=>false
noncomputable def ym(P:Program)(t:TypeId)(x:V):Option V:=bF (dr (yk P t)) (some (.EE t x))
noncomputable def AO(ok:Bool)(v:V)(b:Bool):V:=@Bool.rec (fun _=>V) v (.c8 (.cons v (.cons (.b b) .nil))) ok
noncomputable def uQ(P:Program)(asserted:TypeId)(ok:Bool)(x:V):Option V:=
 bF (dr (yk P asserted)) (x.C0 (fun t v=>@Bool.rec (fun _=>Option V) (bF ok (bO (zeroV P asserted) fun z=>some (AO true z false))) (some (AO ok v true)) (Nat.beq t asserted)) (bF ok (bO (zeroV P asserted) fun z=>some (AO true z false))))
noncomputable def yn(P:Program)(nx:Id)(t:TypeId)(r:Option V):Option bM:=
 @Option.rec V (fun _=>Option bM) (some (.nw (.m nx) (.m .nil 0))) (fun x=>x.int fun _ _=>bO (P.underlying t) fun d=>match d with
  | .map _ _=>some (.nw (.m nx) (.m .nil 0))
  |_=>none) r
noncomputable def rV(P:Program)(nx:Id)(t:TypeId)(l c:V):Option bM:=
 bO (P.underlying t) fun d=>match d with
  | .slice e=>bO (P.info? e) fun i=>l.int fun _ l=>Fj l fun l=>c.int fun _ c=>Fj c fun c=>bF (Nat.ble l c) (bF (Nat.ble c 1000000) (bF (Nat.ble i.bytes 100000) (bO (EI P e i.size c) fun r=>fC r fun r=>some (.nw (.sl nx 0 l c) (.c r e)))))
  |_=>none
noncomputable def pG(P:Program)(kt:TypeId)(k:V)(es:Es):Option (Option V):=
 @Es.rec (fun _=>Option (Option V)) (some none) (fun k' v _ _ ih=>bO (mA P kt k k') fun b=>@Bool.rec (fun _=>Option (Option V)) ih (some (some v)) b) es
noncomputable def iR(P:Program)(hb:Id→Option ak)(t:TypeId)(x k:V)(ok:Bool):Option V:=
 bO (P.underlying t) fun d=>match d with
  | .map kt e=>bO (mA P kt k k) fun kk=>bF kk (x.mp (fun b=>bO (hb b) fun bl=>bl.w7 fun es _=>bO (pG P kt k es) fun r=>@Option.rec V (fun _=>Option V) (bO (zeroV P e) fun z=>some (AO ok z false)) (fun v=>some (AO ok v true)) r)
   (bO (zeroV P e) fun z=>some (AO ok z false)))
  |_=>none
noncomputable def oA(P:Program)(kt:TypeId)(k v:V)(ck:Nat)(es:Es):Option Es:=
 @Es.rec (fun _=>Option Es) (some (.cons k v ck .nil)) (fun k' v' n l ih=>bO (mA P kt k k') fun b=>@Bool.rec (fun _=>Option Es) (bO ih fun r=>some (.cons k' v' n r)) (some (.cons k v n l)) b) es
noncomputable def uR(P:Program)(hb:Id→Option ak)(t:TypeId)(x k v:V):Option bM:=
 bO (P.underlying t) fun d=>match d with
  | .map kt _=>bO (mA P kt k k) fun kk=>bF kk (x.mp (fun b=>bO (hb b) fun bl=>bl.w7 fun es ck=>bO (pG P kt k es) fun r=>bO (oA P kt k v ck es) fun es'=>@Option.rec V (fun _=>Option bM) (fN (Nat.succ ck) fun ck'=>some (.ch .un b (.m es' ck'))) (fun _=>some (.ch .un b (.m es' ck))) r) none)
  |_=>none
noncomputable def yo(P:Program)(hb:Id→Option ak)(nx:Id)(t:TypeId)(x:V):Option bM:=
 bO (P.underlying t) fun d=>match d with
  | .map _ _=>x.mp (fun b=>bO (hb b) fun bl=>bl.w7 fun _ ck=>some (.nw (.p nx 0) (.it (some b) ck [] ck))) (some (.nw (.p nx 0) (.it none 0 [] 0)))
  |_=>none
noncomputable def ak.Kv{α:Type}(k:ak)(f:Option Id→Nat→List Nat→Nat→Option α):Option α:=
 @ak.casesOn (fun _=>Option α) k (fun _ _=>none) (fun _ _=>none) (fun _ _=>none) f (fun _ _=>none) (fun _ _ _ _ _ _ _ _ _=>none) none
noncomputable def s9(n:Nat)(l:List Nat):Bool:=@List.rec Nat (fun _=>Bool) false (fun a _ ih=>@Bool.rec (fun _=>Bool) ih true (Nat.beq a n)) l
noncomputable def nH(seen:List Nat)(es:Es):Es:=
 @Es.rec (fun _=>Es) .nil (fun k v n _ ih=>@Bool.rec (fun _=>Es) (.cons k v n ih) ih (s9 n seen)) es
noncomputable def yp(n:Nat)(es:Es):Bool:=@Es.rec (fun _=>Bool) false (fun _ _ b _ ih=>@Bool.rec (fun _=>Bool) ih true (Nat.ble (Nat.succ b) n)) es
noncomputable def xa(seen:List Nat)(last:Nat)(es:Es):Bool:=
 @List.casesOn Nat (fun _=>Bool) seen true fun _ _=>@Es.casesOn (fun _=>Bool) es true fun _ _ _ _=>yp last es
noncomputable def AP(hb:Id→Option ak)(x:V)(str:Bool):Option bM:=
 bF (dr str) (x.ptr fun b o=>bF (Nat.beq o 0) (bO (hb b) fun bl=>bl.Kv fun m since seen last=>
  @Option.rec Id (fun _=>Option bM) (some (.v (.c8 (.cons (.b false) .nil))))
   (fun mb=>bO (hb mb) fun ml=>ml.w7 fun es ck=>bF (xa seen last es) (
    @Es.casesOn (fun _=>Option bM) (nH seen es) (some (.v (.c8 (.cons (.b false) .nil))))
     (fun k v n l=>@Es.casesOn (fun _=>Option bM) l (bF (Nat.ble (Nat.succ n) since) (some (.ch (.c8 (.cons (.b true) (.cons k (.cons v .nil)))) b (.it (some mb) since (seen++[n]) ck)))) (fun _ _ _ _=>none)))) m))
noncomputable def rW(x:V)(i:Nat):Option V:=x.tu fun l=>oZ i l
noncomputable def rX(xs:V):Option V:=xs.split none (fun a l=>a.int fun k n=>l.split none (fun b m=>b.int fun k' n'=>m.split (bF (zw k k') (some (.i k (@Bool.rec (fun _=>Int) n n' (EG n n'))))) (fun _ _=>none) none) none) none
noncomputable def rY(xs:V):Option V:=xs.split none (fun a l=>a.int fun k n=>l.split none (fun b m=>b.int fun k' n'=>m.split (bF (zw k k') (some (.i k (@Bool.rec (fun _=>Int) n n' (EG n' n))))) (fun _ _=>none) none) none) none
noncomputable def FB(x:V):Option Nat:=@Bool.rec (fun _=>Option Nat) (x.uJ (fun _ _ n _=>some n) (fun _ _ n _=>some n) (some 0)) (some 0) x.rr
noncomputable def FC(hb:Id→Option ak)(z:Nat)(x:V):Option V:=
 @Bool.rec (fun _=>Option V) (x.uJ (fun b o _ _=>bO (hb b) fun k=>k.cells fun l=>cA o z l) (fun b o _ _=>bO (hb b) fun k=>k.cells fun l=>cA o z l) (bF (Nat.beq z 0) (some .nil))) (bF (Nat.beq z 0) (some .nil)) x.rr
noncomputable def mB(hb:Id→Option ak)(size n:Nat)(s:V)(b:Id)(o l:Nat):Option bM:=
 fN (@Bool.rec (fun _=>Nat) l n (Nat.ble n l)) fun m=>bO (hb b) fun k=>k.cells fun ol=>bO (FC hb (Nat.mul m size) s) fun c=>bO (wQ o c ol) fun l'=>some (.ch (.i .i64 (.ofNat m)) b (k.bC l'))
noncomputable def nI(P:Program)(hb:Id→Option ak)(t:TypeId)(d s:V):Option bM:=
 bO (P.underlying t) fun dd=>match dd with
  | .slice e=>bO (P.info? e) fun i=>bO (FB s) fun n=>d.uJ (fun b o l _=>mB hb i.size n s b o l) (fun b o l _=>mB hb i.size n s b o l) none
  |_=>none
end Go.Cm
namespace Go.Cm
noncomputable def m32(x:Nat):Nat:=Nat.mod x 4294967296
noncomputable def wd(s i:Nat):Nat:=Nat.mod (Nat.shiftRight s i) 4294967296
noncomputable def AQ(i j k y:Nat):Nat:=Nat.mod (Nat.xor (Nat.xor (Nat.shiftRight y i) (Nat.shiftRight y j)) (Nat.shiftRight y k)) 4294967296
noncomputable def AR(i j k x y:Nat):Nat:=Nat.xor (Nat.mod (Nat.xor (Nat.shiftRight y i) (Nat.shiftRight y j)) 4294967296) (Nat.shiftRight x k)
noncomputable def tc(x:Nat):Nat:=Nat.mul x 4294967297
noncomputable def I9(e f g:Nat):Nat:=Nat.xor g (Nat.land e (Nat.xor f g))
noncomputable def Ja(a b c:Nat):Nat:=Nat.lor (Nat.land a b) (Nat.land c (Nat.lor a b))
noncomputable def t1(k s w e:Nat):Nat:=Nat.add (Nat.add (Nat.add (wd s 224) (AQ 6 11 25 (tc e))) (I9 e (wd s 160) (wd s 192))) (Nat.add k (wd w 0))
noncomputable def t2(s a:Nat):Nat:=Nat.add (AQ 2 13 22 (tc a)) (Ja a (wd s 32) (wd s 64))
noncomputable def II(s t u:Nat):Nat:=Nat.add (Nat.add (m32 (Nat.add t u)) (Nat.mul (Nat.mod s 79228162514264337593543950336) 4294967296)) (Nat.mul (Nat.add (m32 (Nat.add (wd s 96) t)) (Nat.mul (Nat.mod (Nat.shiftRight s 128) 79228162514264337593543950336) 4294967296)) 340282366920938463463374607431768211456)
noncomputable def Jb(w x y:Nat):Nat:=m32 (Nat.add (Nat.add (wd w 0) (AR 7 18 3 x (tc x))) (Nat.add (wd w 288) (AR 17 19 10 y (tc y))))
noncomputable def Jc(w:Nat):Nat:=Nat.add (Nat.shiftRight w 32) (Nat.mul (Jb w (wd w 32) (wd w 448)) 3121748550315992231381597229793166305748598142664971150859156959625371738819765620120306103063491971159826931121406622895447975679288285306290176)
noncomputable def rounds(ks:List Nat):Nat→Nat→Nat:=
 @List.rec Nat (fun _=>Nat→Nat→Nat) (fun s _=>s) (fun k _ ih s w=>fN (t1 k s w (wd s 128)) fun t=>fN (II s t (t2 s (wd s 0))) fun s=>fN (Jc w) fun w=>ih s w) ks
noncomputable def AS(n:Nat):Nat→Nat→Nat:=@Nat.rec (fun _=>Nat→Nat→Nat) (fun _ _=>0) (fun _ ih a b=>Nat.add (m32 (Nat.add a b)) (Nat.mul (ih (Nat.shiftRight a 32) (Nat.shiftRight b 32)) 4294967296)) n
def jq:List Nat:=[1116352408,1899447441,3049323471,3921009573,961987163,1508970993,2453635748,2870763221,3624381080,310598401,607225278,1426881987,1925078388,2162078206,2614888103,3248222580,3835390401,4022224774,264347078,604807628,770255983,1249150122,1555081692,1996064986,2554220882,2821834349,2952996808,3210313671,3336571891,3584528711,113926993,338241895,666307205,773529912,1294757372,1396182291,1695183700,1986661051,2177026350,2456956037,2730485921,2820302411,3259730800,3345764771,3516065817,3600352804,4094571909,275423344,430227734,506948616,659060556,883997877,958139571,1322822218,1537002063,1747873779,1955562222,2024104815,2227730452,2361852424,2428436474,2756734187,3204031479,3329325298]
noncomputable def words{α:Type}(n:Nat):List Nat→(Nat→List Nat→Option α)→Option α:=
 @Nat.rec (fun _=>List Nat→(Nat→List Nat→Option α)→Option α) (fun l k=>k 0 l)
  (fun _ ih l k=>@List.casesOn Nat (fun _=>Option α) l none fun a l=>@List.casesOn Nat (fun _=>Option α) l none fun b l=>@List.casesOn Nat (fun _=>Option α) l none fun c l=>@List.casesOn Nat (fun _=>Option α) l none fun d l=>
   ih l fun w l=>fN (Nat.add (Nat.add (Nat.mul (Nat.add (Nat.mul (Nat.add (Nat.mul a 256) b) 256) c) 256) d) (Nat.mul w 4294967296)) fun w=>k w l) n
noncomputable def blocks(n:Nat):List Nat→Nat→Option Nat:=
 @Nat.rec (fun _=>List Nat→Nat→Option Nat) (fun _ _=>none)
  (fun _ ih l h=>@List.casesOn Nat (fun _=>Option Nat) l (some h) fun x m=>words 16 (x::m) fun w l=>fN (rounds jq h w) fun s=>fN (AS 8 h s) fun h=>ih l h) n
noncomputable def zJ{α:Type}(l m:List α):List α:=@List.rec α (fun _=>List α) m (fun a _ ih=>a::ih) l
noncomputable def cQ(n:Nat)(l:List Nat):List Nat:=@Nat.rec (fun _=>List Nat) l (fun _ ih=>0::ih) n
noncomputable def lR(n:Nat):Nat→List Nat→List Nat:=@Nat.rec (fun _=>Nat→List Nat→List Nat) (fun _ l=>l) (fun _ ih x l=>fN (Nat.mod x 256) fun y=>fN (Nat.shiftRight x 8) fun z=>ih z (y::l)) n
noncomputable def pad(l:List Nat):List Nat:=fN (my l) fun n=>zJ l (128::cQ (Nat.sub 63 (Nat.mod (Nat.add n 8) 64)) (lR 8 (Nat.mul 8 n) []))
noncomputable def GJ(n:Nat):Nat→List Nat:=@Nat.rec (fun _=>Nat→List Nat) (fun _=>[]) (fun _ ih s=>lR 4 (wd s 0) (ih (Nat.shiftRight s 32))) n
noncomputable def C2(l:List Nat):Option (List Nat):=bO (blocks 1000 (pad l) 41557658498906279274860226408925318911382702236748615442085426012007055353447) fun r=>some (GJ 8 r)
end Go.Cm
namespace Go.Cm
inductive Xt where
 |iF
 |ext (i:Nat)
 |ret
inductive Rs where
 |mk (x:Xt) (tm:T V) (hp:T ak) (nx:Id) (df:V)
abbrev dx:=Code→FuncId→Nat→T V→T ak→Id→V→Option Rs
abbrev iG:=T V→T ak→Id→V→Option Rs
noncomputable def Ay{α:Type}(r:Option Rs)(k:Xt→T V→T ak→Id→V→Option α):Option α:=
 @Option.rec Rs (fun _=>Option α) none (fun r=>@Rs.casesOn (fun _=>Option α) r k) r
noncomputable def fy(tm:T V)(o:Operand):Option V:=
 @Operand.casesOn (fun _=>Option V) o (fun t=>get (aN t) tm) (fun v=>cV v) (fun _=>none) (fun f=>some (.fn f .nil .nil))
noncomputable def iS(tm:T V)(l:List Operand):Option V:=
 @List.rec Operand (fun _=>Option V) (some .nil) (fun o _ ih=>bO (fy tm o) fun v=>bO ih fun r=>some (.cons v r)) l
noncomputable def C3(tm:T V)(l:List (Nat×Operand)):Option (List (Nat×V)):=
 @List.rec (Nat×Operand) (fun _=>Option (List (Nat×V))) (some []) (fun o _ ih=>bO (fy tm o.2) fun v=>bO ih fun r=>some ((o.1,v)::r)) l
noncomputable def C4(tm:T V)(o:Option Operand):Option (Option V):=
 @Option.rec Operand (fun _=>Option (Option V)) (some none) (fun o=>bO (fy tm o) fun v=>some (some v)) o
noncomputable def gz{β:Type}(d:Option Tmp)(v:Option V)(tm:T V)(k:T V→β):β:=
 @Option.rec Tmp (fun _=>β) (k tm) (fun t=>dD v (aN t) tm k) d
noncomputable def nJ(e:bM)(d:Option Tmp)(tm:T V)(hp:T ak)(nx:Id)(df:V)(k:iG):Option Rs:=
 @bM.casesOn (fun _=>Option Rs) e (fun x=>gz d (some x) tm fun tm=>k tm hp nx df)
  (fun x b=>gz d (some x) tm fun tm=>dD (some b) nx hp fun hp=>AN (lO nx) fun nx=>k tm hp nx df)
  (fun x b bl=>gz d (some x) tm fun tm=>dD (some bl) b hp fun hp=>k tm hp nx df)
  (fun x b bl=>gz d (some x) tm fun tm=>dD none b hp fun hp=>dD (some bl) nx hp fun hp=>AN (lO nx) fun nx=>k tm hp nx df)
noncomputable def vE(x:Option V):Option bM:=bO x fun x=>some (.v x)
noncomputable def FD(P:Program)(gl:List V)(t:TypeId)(g:Nat):Option bM:=
 bO (eD gl g) fun x=>x.ag fun l=>bO (P.underlying t) fun d=>bF (kN d) (bO (P.info? t) fun i=>bF (Nat.beq (ot l) i.size) (some (.v (.agg l))))
abbrev C5:=T V→(Id→Option ak)→Id→Option bM
inductive Jd where
 |mk (f:C5)
noncomputable def lS(P:Program)(gl:List V)(op:Op):Jd:=
 match op with
 | .move x| .assign x=>.mk fun tm _ _=>vE (fy tm x)
 | .pick c a b=>.mk fun tm _ _=>bO (fy tm c) fun c=>c.bool fun c=>@Bool.rec (fun _=>Option bM) (vE (fy tm b)) (vE (fy tm a)) c
 | .alloc t=>.mk fun _ _ nx=>zA P nx t
 | .box t x=>.mk fun tm _ nx=>bO (fy tm x) fun x=>Fi nx t x
 | .build t ps=>.mk fun tm _ _=>bO (C3 tm ps.toList) fun ps=>vE (kY P t ps)
 | .buildSlice t n ps=>.mk fun tm _ nx=>bO (C3 tm ps.toList) fun ps=>dR P nx t n ps
 |
  .load t a=>match a with
  | .global g=>.mk fun _ _ _=>FD P gl t g
  |_=>.mk fun tm hb _=>bO (fy tm a) fun a=>vE (dL P hb t a)
 | .store t a x=>.mk fun tm hb _=>bO (fy tm a) fun a=>bO (fy tm x) fun x=>bO (kT P hb t a x) fun r=>some (.ch .un r.1 r.2)
 | .nilCheck x=>.mk fun tm _ _=>bO (fy tm x) fun x=>vE (pF x)
 | .binOp op t x y _=>.mk fun tm _ _=>bO (fy tm x) fun a=>bO (fy tm y) fun b=>vE (oz P (@Bool.rec (fun _=>Bool) (zH y) true (zH x)) op t a b)
 | .unOp op _ x=>.mk fun tm _ _=>bO (fy tm x) fun x=>vE (zI op x)
 | .convert s d x=>.mk fun tm hb nx=>bO (fy tm x) fun x=>nG P hb nx s d x
 | .makeInterface t x=>.mk fun tm _ _=>bO (fy tm x) fun x=>vE (ym P t x)
 |
  .makeFunc fn fs cs=>match fn with
  | .func f=>.mk fun tm _ _=>bO (iS tm fs.toList) fun fs=>bO (iS tm cs.toList) fun cs=>some (.v (.fn f fs cs))
  |_=>.mk fun _ _ _=>none
 | .makeMap t r=>.mk fun tm _ nx=>bO (C4 tm r) fun r=>yn P nx t r
 | .makeSlice t l c=>.mk fun tm _ nx=>bO (fy tm l) fun l=>bO (fy tm c) fun c=>rV P nx t l c
 |
  .slice t x lo hi mx=>match mx with
  |none=>.mk fun tm _ _=>bO (fy tm x) fun x=>bO (C4 tm lo) fun lo=>bO (C4 tm hi) fun hi=>vE (kQ P t x lo hi)
  |_=>.mk fun _ _ _=>none
 | .fieldAddr t x i=>.mk fun tm _ _=>bO (fy tm x) fun x=>vE (dM P t x i)
 | .field t x i=>.mk fun tm _ _=>bO (fy tm x) fun x=>vE (zE P t x i)
 | .indexAddr t x i=>.mk fun tm _ _=>bO (fy tm x) fun x=>bO (fy tm i) fun i=>vE (eR P t x i)
 | .index t x i=>.mk fun tm _ _=>bO (fy tm x) fun x=>bO (fy tm i) fun i=>vE (ld P t x i)
 | .lookup t x i ok=>.mk fun tm hb _=>bO (fy tm x) fun x=>bO (fy tm i) fun i=>vE (iR P hb t x i ok)
 | .mapUpdate t m k x| .insert t m k x=>.mk fun tm hb _=>bO (fy tm m) fun m=>bO (fy tm k) fun k=>bO (fy tm x) fun x=>uR P hb t m k x
 | .range t x=>.mk fun tm hb nx=>bO (fy tm x) fun x=>yo P hb nx t x
 | .next x s=>.mk fun tm hb _=>bO (fy tm x) fun x=>AP hb x s
 | .typeAssert x _ t ok=>.mk fun tm _ _=>bO (fy tm x) fun x=>vE (uQ P t ok x)
 | .extract x i=>.mk fun tm _ _=>bO (fy tm x) fun x=>vE (rW x i)
 |_=>.mk fun _ _ _=>none
noncomputable def zK{α:Type}(l:V)(f:V→V→Option α):Option α:=l.split none f none
noncomputable def fE(P:Program)(hb:Id→Option ak)(nx:Id)(b:Builtin)(ts:List TypeId)(a:V):Option bM:=
 match b with
 | .len=>zK a fun x _=>bO (eD ts 0) fun t=>vE (rT P hb t x)
 | .append=>zK a fun s r=>zK r fun x _=>bO (eD ts 0) fun t=>bO (eD ts 1) fun t2=>iQ P hb nx t t2 s x
 | .copy=>zK a fun s r=>zK r fun x _=>bO (eD ts 0) fun t=>nI P hb t s x
 | .max=>vE (rX a)
 | .min=>vE (rY a)
 |_=>none
noncomputable def uS{β:Type}(args:V):Id→T V→(T V→β)→β:=
 @V.rec (fun _=>Id→T V→(T V→β)→β) (fun _ _ t k=>k t) (fun _ _ _ t k=>k t) (fun _ _ t k=>k t) (fun _ _ _ t k=>k t) (fun _ t k=>k t) (fun _ _ _ _ _ t k=>k t) (fun _ _ _ _ _ t k=>k t) (fun _ t k=>k t) (fun _ t k=>k t) (fun _ _ t k=>k t) (fun _ t k=>k t) (fun _ _ _ _ _ _ t k=>k t) (fun _ _ t k=>k t) (fun _ t k=>k t) (fun _ _ _ _ t k=>k t) (fun _ t k=>k t) (fun _ _ _ t k=>k t) (fun _ _ _ t k=>k t) (fun _ t k=>k t) (fun _ t k=>k t)
  (fun a _ _ ih p t k=>dD (some a) p t fun t=>AN (lO p) fun p=>ih p t k) args
noncomputable def mC(P:Program)(hp:T ak)(tm:T V)(l:List ResultVar):Option V:=
 @List.rec ResultVar (fun _=>Option V) (some .nil) (fun r _ ih=>bO (@ResultVar.casesOn (fun _=>Option V) r (fun t=>get (aN t) tm) (fun a t=>bO (get (aN a) tm) fun p=>dL P (fun b=>get b hp) t p)) fun v=>bO ih fun l=>some (.cons v l)) l
noncomputable def one(l:V):V:=l.split (.c8 l) (fun a m=>m.split a (fun _ _=>.c8 l) a) (.c8 l)
noncomputable def ak.C6(k:ak):Bool:=@ak.casesOn (fun _=>Bool) k (fun _ _=>false) (fun _ _=>false) (fun _ _=>false) (fun _ _ _ _=>false) (fun _ _=>false) (fun _ _ _ _ _ _ _ _ _=>false) true
noncomputable def ak.FE{α:Type}(k:ak)(f:LoopState→Option Code→FuncId→T V→Nat→Array Tmp→Code→Code→Id→Option α):Option α:=
 @ak.casesOn (fun _=>Option α) k (fun _ _=>none) (fun _ _=>none) (fun _ _=>none) (fun _ _ _ _=>none) (fun _ _=>none) f none
noncomputable def AT(x:V):Bool:=@V.casesOn (fun _=>Bool) x (fun _=>true) (fun _ _=>true) (fun _=>true) (fun _ _=>true) true (fun _ _ n c=>Nat.ble n c) (fun _ _ _ _=>true) true true (fun _=>true) true (fun _ _ _=>true) (fun _=>true) true (fun _ _=>true) true (fun _=>true) (fun _=>true) true true (fun _ _=>true)
noncomputable def AU(hp:T ak)(l:V):Option (List Nat):=
 @V.rec (fun _=>Option (List Nat)) (fun _=>none) (fun _ _=>none) (fun _=>none) (fun _ _=>none) none (fun _ _ _ _=>none) (fun _ _ _ _=>none) none none (fun _=>none) none (fun _ _ _ _ _=>none) (fun _=>none) none (fun _ _ _=>none) none (fun _ _=>none) (fun _ _=>none) none (some [])
  (fun a _ _ ih=>bF (AT a) (uP (fun b=>get b hp) a fun x=>bO ih fun r=>some (zJ x r))) l
noncomputable def AW(hp:T ak)(b:Id)(o n:Nat):Option V:=
 bF (Nat.ble n 1000) (bO (get b hp) fun k=>k.cells fun l=>bO (cA o n l) fun c=>bO (AU hp c) fun s=>bF (Nat.ble (my s) 60000) (bO (C2 s) fun d=>fC (ll d) fun r=>some (.agg r)))
noncomputable def rZ(hp:T ak)(args:V):Option V:=
 args.split none (fun x r=>r.split (x.uJ (fun b o n c=>bF (Nat.ble n c) (AW hp b o n)) (fun b o n _=>AW hp b o n) (bO (C2 []) fun d=>fC (ll d) fun r=>some (.agg r))) (fun _ _=>none) none) none
noncomputable def tag(x:V):Nat:=@V.casesOn (fun _=>Nat) x (fun _=>0) (fun _ _=>1) (fun _=>2) (fun _ _=>3) 4 (fun _ _ _ _=>5) (fun _ _ _ _=>6) 7 8 (fun _=>9) 10 (fun _ _ _=>11) (fun _=>12) 13 (fun _ _=>14) 15 (fun _=>16) (fun _=>17) 18 19 (fun _ _=>20)
noncomputable def bq(a b:Bool):Bool:=@Bool.rec (fun _=>Bool) false b a
noncomputable def FF(a b:Bool):Bool:=@Bool.rec (fun _=>Bool) (dr b) b a
noncomputable def fB(x:V):V→Option Bool:=
 @V.rec (fun _=>V→Option Bool) (fun b y=>y.bool fun c=>some (FF b c)) (fun k n y=>y.int fun k' m=>some (bq (zw k k') (zu n m))) (fun l y=>y.str fun m=>some (CP l m)) (fun b o y=>y.ptr fun c p=>some (bq (jT b c) (Nat.beq o p)))
  (fun y=>some (Nat.beq (tag y) 4)) (fun b o l c y=>y.uJ (fun b' o' l' c'=>some (bq (jT b b') (bq (Nat.beq o o') (bq (Nat.beq l l') (Nat.beq c c'))))) (fun _ _ _ _=>none) none) (fun b o l c y=>y.uJ (fun _ _ _ _=>none) (fun b' o' l' c'=>some (bq (jT b b') (bq (Nat.beq o o') (bq (Nat.beq l l') (Nat.beq c c'))))) none)
  (fun y=>some (Nat.beq (tag y) 7)) (fun y=>some (Nat.beq (tag y) 8)) (fun b y=>y.mp (fun c=>some (jT b c)) none) (fun y=>some (Nat.beq (tag y) 10))
  (fun f _ _ ia ib y=>y.CZ (fun g c d=>bO (ia c) fun p=>bO (ib d) fun q=>some (bq (Nat.beq f g) (bq p q))) fun _=>none) (fun _ _=>none) (fun y=>some (Nat.beq (tag y) 13))
  (fun t _ ih y=>y.C0 (fun t' v=>bO (ih v) fun p=>some (bq (Nat.beq t t') p)) none) (fun y=>some (Nat.beq (tag y) 15)) (fun _ ih y=>y.ag ih) (fun _ ih y=>y.tu ih) (fun _=>none)
  (fun y=>y.split (some true) (fun _ _=>none) none) (fun _ _ ia il y=>y.split none (fun b m=>bO (ia b) fun p=>bO (il m) fun q=>some (bq p q)) none) x
noncomputable def isTrue(o:Option Bool):Bool:=@Option.rec Bool (fun _=>Bool) false (fun b=>b) o
structure Hk where
 h:Nat
 t:List (Nat×V×V)
noncomputable def lu(t:List (Nat×V×V))(f:Nat)(a:V):Option V:=
 @List.rec (Nat×V×V) (fun _=>Option V) none (fun e _ ih=>@Bool.rec (fun _=>Option V) ih (@Bool.rec (fun _=>Option V) ih (some e.2.2) (isTrue (fB e.2.1 a))) (Nat.beq e.1 f)) t
noncomputable def iT(P:Program)(hf:Hk)(ih:dx)(oR:V→T ak→Id→(T ak→Id→Option Rs)→Option Rs)(f:FuncId)(args:V)(hp:T ak)(nx:Id)(k:V→T ak→Id→Option Rs):Option Rs:=
 @Bool.rec (fun _=>Option Rs)
  (@Option.rec V (fun _=>Option Rs) (bO (eD P.funcs.toList f) fun fn=>bO fn.body fun c=>uS args [] .e fun tm=>Ay (ih c f fn.ntmps tm hp nx .nil) fun x tm hp nx df=>
   @Xt.casesOn (fun _=>Option Rs) x (oR df hp nx fun hp nx=>bO (mC P hp tm fn.results.toList) fun v=>k (one v) hp nx) (fun _=>none) (oR df hp nx fun hp nx=>bO (mC P hp tm fn.results.toList) fun v=>k (one v) hp nx)) (fun v=>k v hp nx) (lu hf.t f args))
  (bO (rZ hp args) fun v=>k v hp nx) (Nat.beq f hf.h)
noncomputable def FG(o:Op):Bool:=match o with
 |
  .call c=>match c.callee with
  |
   .builtin b=>match b with
   | .recover=>c.args.isEmpty
   |_=>false
  |_=>false
 |_=>false
noncomputable def FH(o:Op):Option Tmp:=match o with
 |
  .assign x=>match x with
  | .tmp t=>some t
  |_=>none
 |_=>none
noncomputable def AX(l:List Oper):Option (Tmp×Tmp):=match l with
 |[o0,o1]=>bF (FG o0.op) (bF o0.guard.isNone (bF o1.guard.isNone (bO o0.dst fun t5=>bO o1.dst fun t2=>bO (FH o1.op) fun t=>bF (Nat.beq t t5) (some (t5,t2)))))
 |_=>none
noncomputable def pH(c:Code):Option (Tmp×Tmp×Code):=match c with
 |
  .seq a rest=>match a with
  | .region _ ops d=>bF (dr d) (bO (AX ops.toList) fun p=>some (p.1,p.2,rest))
  |_=>none
 |_=>none
noncomputable def C7(P:Program)(ih:dx)(f:FuncId)(args:V)(hp:T ak)(nx:Id)(k:T ak→Id→Option Rs):Option Rs:=
 bO (eD P.funcs.toList f) fun fn=>bO fn.body fun c=>bO (pH c) fun s=>bF (Nat.ble (Nat.succ s.1) fn.ntmps) (bF (Nat.ble (Nat.succ s.2.1) fn.ntmps) (uS args [] .e fun tm=>dD (some .ni) (aN s.1) tm fun tm=>dD (some .ni) (aN s.2.1) tm fun tm=>
  Ay (ih s.2.2 f fn.ntmps tm hp nx .nil) fun x tm hp nx df=>@Xt.casesOn (fun _=>Option Rs) x (df.split (bO (mC P hp tm fn.results.toList) fun _=>k hp nx) (fun _ _=>none) none) (fun _=>none) (df.split (bO (mC P hp tm fn.results.toList) fun _=>k hp nx) (fun _ _=>none) none)))
noncomputable def iU(P:Program)(ih:dx)(df:V):T ak→Id→(T ak→Id→Option Rs)→Option Rs:=
 @V.rec (fun _=>T ak→Id→(T ak→Id→Option Rs)→Option Rs) (fun _ _ _ _=>none) (fun _ _ _ _ _=>none) (fun _ _ _ _=>none) (fun _ _ _ _ _=>none) (fun _ _ _=>none) (fun _ _ _ _ _ _ _=>none) (fun _ _ _ _ _ _ _=>none) (fun _ _ _=>none) (fun _ _ _=>none) (fun _ _ _ _=>none) (fun _ _ _=>none) (fun _ _ _ _ _ _ _ _=>none) (fun _ _ _ _=>none) (fun _ _ _=>none) (fun _ _ _ _ _ _=>none) (fun _ _ _=>none) (fun _ _ _ _ _=>none) (fun _ _ _ _ _=>none) (fun _ _ _=>none)
  (fun hp nx k=>k hp nx)
  (fun a _ _ rest hp nx k=>@Bool.rec (fun _=>Option Rs)
   (a.CZ (fun f fs cs=>fC (ij fs cs) fun args=>C7 P ih f args hp nx fun hp nx=>rest hp nx k) fun _=>none)
   (a.mp (fun b=>bO (get b hp) fun bl=>bF bl.C6 (dD none b hp fun hp=>rest hp nx k)) none) (@Option.rec Bool (fun _=>Bool) false (fun b=>b) (a.mp (fun _=>some true) none))) df
noncomputable def FI{α:Type}(sz:Nat)(ps:List Tmp):V→T V→(T V→Option α)→Option α:=
 @List.rec Tmp (fun _=>V→T V→(T V→Option α)→Option α) (fun a t k=>a.split (k t) (fun _ _=>none) none) (fun p _ ih a t k=>a.split none (fun x r=>bF (Nat.ble (Nat.succ p) sz) (dD (some x) (aN p) t fun t=>ih r t k)) none) ps
noncomputable def FJ(b:Id)(k:V→T ak→Id→Option Rs)(x:Xt)(hp:T ak)(nx:Id):Option Rs:=
 bO (
  get b hp) fun bl=>bl.FE fun _ _ fn tm sz ps asg body d=>
  @Xt.casesOn (fun _=>Option Rs) x (dD (some (.lp .ready none fn tm sz ps asg body d)) b hp fun hp=>k (.b true) hp nx)
   (fun i=>dD (some (.lp .done (some (.exit i)) fn tm sz ps asg body d)) b hp fun hp=>k (.b false) hp nx)
   (dD (some (.lp .done (some .ret) fn tm sz ps asg body d)) b hp fun hp=>k (.b false) hp nx)
noncomputable def ET(ih:dx)(b:Id)(k:V→T ak→Id→Option Rs)(fn sz:Nat)(body:Code)(t:T V)(hp:T ak)(nx:Id)(df:V):Option Rs:=
 bO (get b hp) fun bl=>bl.FE fun st pe fn' tm sz' ps asg body' d=>@LoopState.casesOn (fun _=>Option Rs) st
  (dD (some (.lp .busy pe fn' tm sz' ps asg body' d)) b hp fun hp=>Ay (ih body fn sz t hp nx df) fun x _ hp nx _=>FJ b k x hp nx) none none none
noncomputable def AY(ih:dx)(b:Id)(args:V)(hp:T ak)(nx:Id)(k:V→T ak→Id→Option Rs):Option Rs:=
 bO (get b hp) fun bl=>bl.FE fun _ _ fn tm sz ps asg body _=>
  FI sz ps.toList args tm fun t=>Ay (ih asg fn sz t hp nx (.yl b)) fun x t hp nx df=>@Xt.casesOn (fun _=>Option Rs) x (ET ih b k fn sz body t hp nx df) (fun _=>none) none
noncomputable def uT(P:Program)(hf:Hk)(ih:dx)(fv args:V)(hp:T ak)(nx:Id)(k:V→T ak→Id→Option Rs):Option Rs:=
 fv.CZ (fun f fs cs=>fC (ij fs (ij args cs)) fun a=>iT P hf ih (iU P ih) f a hp nx k) fun b=>AY ih b args hp nx k
noncomputable def eb(l:List Method)(name:String):Option Method:=
 @List.rec Method (fun _=>Option Method) none (fun m _ ih=>@Bool.rec (fun _=>Option Method) ih (some m) (m.name==name)) l
noncomputable def yq(P:Program)(t:TypeId):Option (Option TypeId):=bO (P.underlying t) fun d=>match d with
 | .pointer e=>some (some e)
 |_=>some none
noncomputable def nK(P:Program)(hb:Id→Option ak)(t:TypeId)(v:V)(name:String):Option (FuncId×V):=
 bO (
  P.info? t) fun i=>bO (eb i.methods.toList name) fun m=>bO m.func fun fp=>match m.path.toList with
  |[]=>bO (yq P t) fun e=>@Option.rec TypeId (fun _=>Option (FuncId×V)) (@Bool.rec (fun _=>Option (FuncId×V)) (some (fp.1,v)) none fp.2)
   (fun _=>@Bool.rec (fun _=>Option (FuncId×V)) none (some (fp.1,v)) fp.2) e
  |
   [s]=>bF s.deref (bO (dM P s.struct v s.index) fun p=>bO (P.underlying s.struct) fun d=>match d with
   | .struct fs=>bO (eD fs.toList s.index) fun f=>bO (yq P f.type) fun e=>@Option.rec TypeId (fun _=>Option (FuncId×V)) (@Bool.rec (fun _=>Option (FuncId×V)) (bO (dL P hb f.type p) fun x=>some (fp.1,x)) (some (fp.1,p)) fp.2) (fun _=>none) e
   |_=>none)
  |_=>none
noncomputable def want(ops:List Oper)(tm:T V)(g:Option (Nat×Bool)):Option Bool:=
 @Option.rec (Nat×Bool) (fun _=>Option Bool) (some true) (fun p=>bO (eD ops p.1) fun o=>bO o.dst fun d=>bO (get (aN d) tm) fun v=>v.bool fun b=>some (@Bool.rec (fun _=>Bool) (dr p.2) p.2 b)) g
inductive FK where
 |op (f:C5)
 |blt (b:Builtin) (args:List Operand) (ts:List TypeId)
 |val (f:Operand) (args:List Operand)
 |inv (r:Operand) (name:String) (args:List Operand)
 |oR (f:Operand) (args:List Operand)
 |no
noncomputable def Je(s:Jd):FK:=@Jd.casesOn (fun _=>FK) s fun f=>.op f
noncomputable def di(P:Program)(gl:List V)(o:Op):FK:=
 match o with
 |
  .call c=>match c.callee with
  | .builtin b=>.blt b c.args.toList c.argTypes.toList
  | .value f=>.val f c.args.toList
  | .invoke r name=>.inv r name c.args.toList
 |
  .defer c=>match c.callee with
  | .value f=>.oR f c.args.toList
  |_=>.no
 |_=>Je (lS P gl o)
noncomputable def Kw(dst:Option Tmp)(tm:T V)(hp:T ak)(nx:Id)(df:V)(k:iG)(f:C5):Option Rs:=bO (f tm (fun b=>get b hp) nx) fun e=>nJ e dst tm hp nx df k
noncomputable def G2(P:Program)(dst:Option Tmp)(tm:T V)(hp:T ak)(nx:Id)(df:V)(k:iG)(b:Builtin)(args:List Operand)(ts:List TypeId):Option Rs:=
 bO (iS tm args) fun a=>bO (fE P (fun b=>get b hp) nx b ts a) fun e=>nJ e dst tm hp nx df k
noncomputable def G3(P:Program)(hf:Hk)(ih:dx)(dst:Option Tmp)(tm:T V)(hp:T ak)(nx:Id)(df:V)(k:iG)(f:Operand)(args:List Operand):Option Rs:=
 bO (fy tm f) fun fv=>bO (iS tm args) fun a=>uT P hf ih fv a hp nx fun v hp nx=>gz dst (some v) tm fun tm=>k tm hp nx df
noncomputable def G4(P:Program)(hf:Hk)(ih:dx)(dst:Option Tmp)(tm:T V)(hp:T ak)(nx:Id)(df:V)(k:iG)(r:Operand)(name:String)(args:List Operand):Option Rs:=
 bO (fy tm r) fun r=>bO (iS tm args) fun a=>r.C0 (fun t v=>bO (nK P (fun b=>get b hp) t v name) fun fx=>iT P hf ih (iU P ih) fx.1 (.cons fx.2 a) hp nx fun v hp nx=>gz dst (some v) tm fun tm=>k tm hp nx df) none
noncomputable def Jf(df:V):Bool:=df.split true (fun _ _=>true) false
noncomputable def G5(dst:Option Tmp)(tm:T V)(hp:T ak)(nx:Id)(df:V)(k:iG)(f:Operand)(args:List Operand):Option Rs:=
 bO (fy tm f) fun fv=>bO (iS tm args) fun a=>bF (Jf df) (fv.CZ (fun f fs cs=>a.split (gz dst none tm fun tm=>k tm hp nx (.cons (.fn f fs cs) df)) (fun _ _=>none) none) fun _=>none)
noncomputable def G6(P:Program)(gl:List V)(hf:Hk)(ih:dx)(o:Oper)(tm:T V)(hp:T ak)(nx:Id)(df:V)(k:iG):Option Rs:=
 @FK.casesOn (fun _=>Option Rs) (di P gl o.op) (Kw o.dst tm hp nx df k) (G2 P o.dst tm hp nx df k) (G3 P hf ih o.dst tm hp nx df k) (G4 P hf ih o.dst tm hp nx df k) (G5 o.dst tm hp nx df k) none
noncomputable def lT(sz:Nat)(d:Option Tmp):Bool:=@Option.rec Tmp (fun _=>Bool) true (fun t=>Nat.ble (Nat.succ t) sz) d
noncomputable def zL(P:Program)(gl:List V)(hf:Hk)(ih:dx)(sz:Nat)(all:List Oper)(ops:List Oper):iG:=
 @List.rec Oper (fun _=>iG) (fun tm hp nx df=>some (.mk .iF tm hp nx df))
  (fun o _ rest tm hp nx df=>bF (lT sz o.dst) (bO (want all tm o.guard) fun w=>@Bool.rec (fun _=>Option Rs) (gz o.dst none tm fun tm=>rest tm hp nx df) (G6 P gl hf ih o tm hp nx df rest) w)) ops
noncomputable def AZ(a b:Option ak):Bool:=
 @Option.rec ak (fun _=>Bool) (@Option.rec ak (fun _=>Bool) true (fun _=>false) b)
  (fun a=>@Option.rec ak (fun _=>Bool) false (fun b=>
   @ak.casesOn (fun _=>Bool) a (fun l e=>@ak.casesOn (fun _=>Bool) b (fun m e'=>bq (Nat.beq e e') (isTrue (fB l m))) (fun _ _=>false) (fun _ _=>false) (fun _ _ _ _=>false) (fun _ _=>false) (fun _ _ _ _ _ _ _ _ _=>false) false)
    (fun l e=>@ak.casesOn (fun _=>Bool) b (fun _ _=>false) (fun m e'=>bq (Nat.beq e e') (isTrue (fB l m))) (fun _ _=>false) (fun _ _ _ _=>false) (fun _ _=>false) (fun _ _ _ _ _ _ _ _ _=>false) false)
    (fun _ _=>false) (fun _ _ _ _=>false) (fun _ _=>false) (fun _ _ _ _ _ _ _ _ _=>false) false) b) a
noncomputable def IJ(x:V)(l:List Id):List Id:=
 @V.casesOn (fun _=>List Id) x (fun _=>l) (fun _ _=>l) (fun _=>l) (fun b _=>b::l) l (fun b _ _ _=>b::l) (fun b _ _ _=>b::l) l l (fun b=>b::l) l (fun _ _ _=>l) (fun _=>l) l (fun _ _=>l) l (fun _=>l) (fun _=>l) l l (fun _ _=>l)
noncomputable def Jg(o:Operand)(l:List Tmp):List Tmp:=@Operand.casesOn (fun _=>List Tmp) o (fun t=>t::l) (fun _=>l) (fun _=>l) (fun _=>l)
noncomputable def G7(o:Oper):List Tmp:=
 @List.rec Operand (fun _=>List Tmp) (@Option.rec (Nat×Bool) (fun _=>List Tmp) [] (fun _=>[]) o.guard) (fun x _ ih=>Jg x ih) o.op.operands.toList
noncomputable def uI{β:Type}(tm:T V)(ts:List Tmp):(T V→List Id→β)→β:=
 @List.rec Tmp (fun _=>(T V→List Id→β)→β) (fun k=>k .e []) (fun t _ ih k=>ih fun m l=>@Option.rec V (fun _=>β) (k m l) (fun v=>dD (some v) (aN t) m fun m=>k m (IJ v l)) (get (aN t) tm)) ts
noncomputable def pI(b:Id)(l:List Id):Bool:=@List.rec Id (fun _=>Bool) false (fun a _ ih=>@Bool.rec (fun _=>Bool) ih true (jT a b)) l
noncomputable def CN(l:List Id)(hp:T ak)(b:Id):Option ak:=@Bool.rec (fun _=>Option ak) none (get b hp) (pI b l)
inductive Rc where
 |pl (i:Nat) (rd wr:List Id) (lc:Option (Id×Nat×Nat))
 |cl (i:Nat) (Kc du:T ak)
noncomputable def fF(e:bM)(nx:Id):List Id:=@bM.casesOn (fun _=>List Id) e (fun _=>[]) (fun _ _=>[nx]) (fun _ b _=>[b]) (fun _ b _=>[b,nx])
noncomputable def oB(e:bM)(l:List Id):Bool:=@bM.casesOn (fun _=>Bool) e (fun _=>true) (fun _ _=>true) (fun _ b _=>pI b l) (fun _ b _=>pI b l)
noncomputable def allI(p:Id→Bool)(l:List Id):Bool:=@List.rec Id (fun _=>Bool) true (fun a _ ih=>bq (p a) ih) l
noncomputable def gI(l:List Id)(m:List Id):Bool:=allI (fun b=>dr (pI b l)) m
noncomputable def Az(hp:T ak)(b:Id):Bool:=@Option.rec ak (fun _=>Bool) true (fun _=>false) (get b hp)
noncomputable def A0(o n:Nat)(a b:Option ak):Bool:=
 isTrue (bO a fun a=>bO b fun b=>a.cells fun l=>b.cells fun m=>bO (cA o n l) fun x=>bO (cA o n m) fun y=>fB x y)
noncomputable def nL(lc:Option (Id×Nat×Nat))(h0 h1:T ak)(c:Id):Bool:=
 @Bool.rec (fun _=>Bool) (@Option.rec (Id×Nat×Nat) (fun _=>Bool) false (fun p=>bq (jT p.1 c) (A0 p.2.1 p.2.2 (get c h0) (get c h1))) lc) true (AZ (get c h0) (get c h1))
noncomputable def G8(rd wr:List Id)(lc:Option (Id×Nat×Nat))(h0 h1:T ak):Bool:=bq (allI (fun c=>bq (Az h0 c) (Az h1 c)) wr) (allI (nL lc h0 h1) rd)
noncomputable def indep(a b:Rc):Bool:=
 @Rc.casesOn (fun _=>Bool) a
  (fun _ rd wr lc=>@Rc.casesOn (fun _=>Bool) b (fun _ rd' wr' _=>bq (gI wr rd') (bq (gI wr wr') (gI wr' rd))) (fun _ h0 h1=>G8 rd wr lc h0 h1))
  (fun _ h0 h1=>@Rc.casesOn (fun _=>Bool) b (fun _ rd wr lc=>G8 rd wr lc h0 h1) (fun _ _ _=>false))
noncomputable def EU(a:Rc):Nat:=@Rc.casesOn (fun _=>Nat) a (fun i _ _ _=>i) (fun i _ _=>i)
noncomputable def cU(m:Nat)(r:Rc)(rs:List Rc):Bool:=
 @List.rec Rc (fun _=>Bool) true (fun a _ ih=>bq (@Bool.rec (fun _=>Bool) (indep a r) true (Nat.testBit m (EU a))) ih) rs
noncomputable def G9(all:List Oper)(g:Option (Nat×Bool))(l:List Tmp):List Tmp:=
 @Option.rec (Nat×Bool) (fun _=>List Tmp) l (fun p=>@Option.rec Oper (fun _=>List Tmp) l (fun o=>@Option.rec Tmp (fun _=>List Tmp) l (fun t=>t::l) o.dst) (eD all p.1)) g
structure Pe where
 i:Nat
 o:Oper
 m:Nat
 ts:List Tmp
def A1(o:Op):Bool:=match o with
 |
  .call c=>match c.callee with
  | .builtin _=>false
  |_=>true
 |_=>false
def tg(acc:List Nat)(o:Oper):Nat:=o.after.toList.foldl (fun s e=>if Region.binds .any e then s ||| 2^e.on ||| acc.getD e.on 0 else s) 0
def fe:List Oper→List Nat→List Nat
 |[],acc=>acc
 |o::l,acc=>fe l (acc++[tg acc o])
def Ha(ops:List Oper)(ms:List Nat):List Nat:=
 let n:=ops.length
 let front:=(List.range n).foldl (fun acc c=>if A1 ((ops[c]?).map (·.op) |>.getD (.waits 0)) then acc++(List.range n).filter (fun k=>((ms.getD c 0).testBit k||k==c)&& !acc.contains k) else acc) []
 front++(List.range n).filter (fun k=> !front.contains k)
noncomputable def sa(d:Option Tmp)(l:List Tmp):Bool:=@Option.rec Tmp (fun _=>Bool) false (fun t=>s9 t l) d
noncomputable def A2(d e:Option Tmp):Bool:=@Option.rec Tmp (fun _=>Bool) false (fun t=>@Option.rec Tmp (fun _=>Bool) false (fun u=>Nat.beq t u) e) d
noncomputable def jr(a b:Pe):Bool:=bq (dr (sa a.o.dst b.ts)) (bq (dr (sa b.o.dst a.ts)) (dr (A2 a.o.dst b.o.dst)))
noncomputable def kR(p:Pe)(l:List Pe):Bool:=@List.rec Pe (fun _=>Bool) true (fun a _ ih=>bq (@Bool.rec (fun _=>Bool) (jr a p) true (Nat.testBit p.m a.i)) ih) l
noncomputable def Hb(all:List Oper)(ms:List Nat)(i:Nat):Option Pe:=bO (eD all i) fun o=>some ⟨i,o,ms.getD i 0,G9 all o.guard (G7 o)⟩
noncomputable def A3(all:List Oper)(ms:List Nat)(ord:List Nat):Nat→List Pe→Option (List Pe):=
 @List.rec Nat (fun _=>Nat→List Pe→Option (List Pe)) (fun done _acc=>bF (Nat.beq done (Nat.sub (Nat.pow 2 (my all)) 1)) (some []))
  (fun i _ ih done acc=>bO (Hb all ms i) fun p=>bF (Nat.beq (Nat.land p.m done) p.m) (bF (dr (Nat.testBit done i)) (bF (kR p acc) (bO (ih (Nat.lor done (Nat.pow 2 i)) (p::acc)) fun l=>some (p::l))))) ord
noncomputable def xb(all:List Oper):Option (List Pe):=A3 all (fe all []) (Ha all (fe all [])) 0 []
def Hc(o:Op):Bool:=match o with
 | .load _ _| .store _ _ _| .convert _ _ _| .lookup _ _ _ _| .mapUpdate _ _ _ _| .insert _ _ _ _| .range _ _| .next _ _=>true
 |
  .call c=>match c.callee with
  |
   .builtin b=>match b with
   | .append| .copy=>true
   |_=>false
  |_=>true
 |_=>false
noncomputable def IK{β:Type}(o:Op)(ids:List Id)(k:List Id→β):β:=@Bool.rec (fun _=>β) (k []) (k ids) (Hc o)
noncomputable def K1(P:Program)(t:TypeId):Option Nat:=bO (P.underlying t) fun d=>bO (P.info? t) fun i=>some (@Bool.rec (fun _=>Nat) 1 i.size (kN d))
noncomputable def rD(P:Program)(tm:T V)(op:Op):Option (Id×Nat×Nat):=match op with
 | .load t a=>bO (fy tm a) fun v=>v.ptr fun b o=>bO (K1 P t) fun n=>some (b,o,n)
 |_=>none
noncomputable def mD(P:Program)(gl:List V)(hf:Hk)(ih:dx)(sz:Nat)(all:List Oper)(pl:List Pe):List Rc→iG:=
 @List.rec Pe (fun _=>List Rc→iG) (fun _ tm hp nx df=>some (.mk .iF tm hp nx df))
  (fun p _ rest rs tm hp nx df=>bF (lT sz p.o.dst) (bO (want all tm p.o.guard) fun w=>@Bool.rec (fun _=>Option Rs)
   (gz p.o.dst none tm fun tm=>rest (.pl p.i [] [] none::rs) tm hp nx df)
   (uI tm p.ts fun tmr ids0=>IK p.o.op ids0 fun ids=>@FK.casesOn (fun _=>Option Rs) (di P gl p.o.op)
    (fun f=>bO (f tmr (CN ids hp) nx) fun e=>bF (oB e ids) (bF (cU p.m (.pl p.i ids (fF e nx) (rD P tmr p.o.op)) rs) (nJ e p.o.dst tm hp nx df (rest (.pl p.i ids (fF e nx) (rD P tmr p.o.op)::rs)))))
    (fun b args ts=>bO (iS tmr args) fun a=>bO (fE P (CN ids hp) nx b ts a) fun e=>bF (oB e ids) (bF (cU p.m (.pl p.i ids (fF e nx) none) rs) (nJ e p.o.dst tm hp nx df (rest (.pl p.i ids (fF e nx) none::rs)))))
    (fun f args=>bO (fy tmr f) fun fv=>bO (iS tmr args) fun a=>uT P hf ih fv a hp nx fun v du eo=>bF (cU p.m (.cl p.i hp du) rs) (gz p.o.dst (some v) tm fun tm=>rest (.cl p.i hp du::rs) tm du eo df))
    (fun r name args=>bO (fy tmr r) fun r=>bO (iS tmr args) fun a=>r.C0 (fun t v=>bO (nK P (fun b=>get b hp) t v name) fun fx=>iT P hf ih (iU P ih) fx.1 (.cons fx.2 a) hp nx fun v du eo=>bF (cU p.m (.cl p.i hp du) rs) (gz p.o.dst (some v) tm fun tm=>rest (.cl p.i hp du::rs) tm du eo df)) none)
    (fun _ _=>none) none) w)) pl
noncomputable def Hd(pe:Option Code)(tm:T V)(hp:T ak)(nx:Id)(df:V):Option Rs:=
 bO pe fun c=>@Code.casesOn (fun _=>Option Rs) c none (fun _ _ _=>none) (fun _ _=>none) (fun _ _ _=>none) (fun _ _=>none) (fun _=>none) (fun _ _ _ _=>none) (fun i=>some (.mk (.ext i) tm hp nx df)) (fun _=>none) (fun _=>none) (fun _=>none) (some (.mk .ret tm hp nx df)) (fun _=>none)
noncomputable def C8(l:Id)(tm:T V)(df:V)(hp:T ak)(nx:Id):Option Rs:=
 bO (get l hp) fun bl=>bl.FE fun st pe _ _ _ _ _ _ _=>@LoopState.casesOn (fun _=>Option Rs) st (dD none l hp fun hp=>@Option.rec Code (fun _=>Option Rs) (some (.mk .iF tm hp nx df)) (fun _=>none) pe) none (dD none l hp fun hp=>Hd pe tm hp nx df) none
noncomputable def Jh(P:Program)(gl:List V)(hf:Hk)(ih:dx)(_:Nat)(ops:Array Oper)(d:Bool)(_:FuncId)(sz:Nat):iG:=
 @Bool.rec (fun _=>iG) (zL P gl hf ih sz ops.toList ops.toList) (fun tm hp nx df=>bO (xb ops.toList) fun pl=>mD P gl hf ih sz ops.toList pl [] tm hp nx df) d
noncomputable def He(ih:dx)(a b:Code)(fid sz:Nat)(tm:T V)(hp:T ak)(nx:Id)(df:V):Option Rs:=
 Ay (ih a fid sz tm hp nx df) fun x tm hp nx df=>@Xt.casesOn (fun _=>Option Rs) x (ih b fid sz tm hp nx df) (fun i=>some (.mk (.ext i) tm hp nx df)) (some (.mk .ret tm hp nx df))
noncomputable def EV(ih:dx)(c:Operand)(a b:Code)(fid sz:Nat)(tm:T V)(hp:T ak)(nx:Id)(df:V):Option Rs:=
 bO (fy tm c) fun v=>v.bool fun t=>@Bool.rec (fun _=>Option Rs) (ih b fid sz tm hp nx df) (ih a fid sz tm hp nx df) t
noncomputable def A4(ih:dx)(id:Nat)(a:Code)(fid sz:Nat)(tm:T V)(hp:T ak)(nx:Id)(df:V):Option Rs:=
 Ay (ih a fid sz tm hp nx df) fun x tm hp nx df=>@Xt.casesOn (fun _=>Option Rs) x (some (.mk .iF tm hp nx df)) (fun i=>@Bool.rec (fun _=>Option Rs) (some (.mk (.ext i) tm hp nx df)) (some (.mk .iF tm hp nx df)) (Nat.beq i id)) (some (.mk .ret tm hp nx df))
noncomputable def EW(ih:dx)(a:Code)(fid sz:Nat)(tm:T V)(hp:T ak)(nx:Id)(df:V):Option Rs:=
 Ay (ih a fid sz tm hp nx df) fun x tm hp nx df=>@Xt.casesOn (fun _=>Option Rs) x (ih (.loop a) fid sz tm hp nx df) (fun i=>some (.mk (.ext i) tm hp nx df)) (some (.mk .ret tm hp nx df))
noncomputable def yr(P:Program)(hf:Hk)(ih:dx)(ps:Array Tmp)(asg body:Code)(fid sz:Nat)(tm:T V)(hp:T ak)(nx:Id)(df:V)(g:FuncId)(fs cs:V):Option Rs:=
 dD (some .df) nx hp fun hp=>AN (lO nx) fun l=>dD (some (.lp .ready none fid tm sz ps asg body nx)) l hp fun hp=>AN (lO l) fun nx'=>
  fC (ij fs (.cons (.yl l) cs)) fun a=>iT P hf ih (iU P ih) g a hp nx' fun _ hp nx'=>C8 l tm (.cons (.m nx) df) hp nx'
noncomputable def yt(P:Program)(hf:Hk)(ih:dx)(ps:Array Tmp)(asg body:Code)(fid sz:Nat)(tm:T V)(hp:T ak)(nx:Id)(df:V)(g:FuncId)(fs cs:V)(d:Id):Option Rs:=
 dD (some (.lp .ready none fid tm sz ps asg body d)) nx hp fun hp=>AN (lO nx) fun nx'=>
  fC (ij fs (.cons (.yl nx) cs)) fun a=>iT P hf ih (iU P ih) g a hp nx' fun _ hp nx'=>C8 nx tm df hp nx'
noncomputable def Hf(P:Program)(hf:Hk)(ih:dx)(f:Operand)(ps:Array Tmp)(asg body:Code)(fid sz:Nat)(tm:T V)(hp:T ak)(nx:Id)(df:V):Option Rs:=
 bO (fy tm f) fun fv=>fv.CZ (fun g fs cs=>df.split (yr P hf ih ps asg body fid sz tm hp nx df g fs cs) (fun _ _=>yr P hf ih ps asg body fid sz tm hp nx df g fs cs) (df.CZ (fun _ _ _=>none) fun lb=>bO (get lb hp) fun bl=>bl.FE fun _ _ _ _ _ _ _ _ d=>yt P hf ih ps asg body fid sz tm hp nx df g fs cs d)) fun _=>none
noncomputable def EX(_ _:Nat)(tm:T V)(hp:T ak)(nx:Id)(df:V):Option Rs:=some (.mk .iF tm hp nx df)
noncomputable def Hg(i:Nat)(_ _:Nat)(tm:T V)(hp:T ak)(nx:Id)(df:V):Option Rs:=some (.mk (.ext i) tm hp nx df)
noncomputable def Ji(_ _:Nat)(tm:T V)(hp:T ak)(nx:Id)(df:V):Option Rs:=some (.mk .ret tm hp nx df)
noncomputable def Kx(_ _:Nat)(_:T V)(_:T ak)(_:Id)(_:V):Option Rs:=none
noncomputable def A5(P:Program)(gl:List V)(hf:Hk)(ih:dx):dx:=fun c=>
 @Code.casesOn (fun _=>Nat→Nat→iG) c EX (Jh P gl hf ih) (He ih) (EV ih) (A4 ih) (EW ih) (Hf P hf ih) Hg ih (fun _=>EX) (fun _=>Kx) Ji (fun _=>Kx)
noncomputable def exec(P:Program)(gl:List V)(hf:Hk)(n:Nat):dx:=
 @Nat.rec (fun _=>dx) (fun _ _ _ _ _ _ _=>none) (fun _ ih=>A5 P gl hf ih) n
end Go.Cm
namespace Go.Cm
section
variable{P:Program} {E:Env} {w:World}
theorem kb{α:Type}{x:V}{f:FuncId→V→V→Option α}{g:Id→Option α}{y:α}(h:x.CZ f g=some y):(∃n a b,x= .fn n a b∧f n a b=some y)∨(∃b,x= .yl b∧g b=some y):=by
 cases x<;>first|exact Or.inl ⟨_,_,_,rfl,h⟩|exact Or.inr ⟨_,rfl,h⟩|cases h
theorem mE{α:Type}{x:V}{f:TypeId→V→Option α}{n:Option α}{y:α}(h:x.C0 f n=some y):(∃t v,x= .EE t v∧f t v=some y)∨(x= .ni∧n=some y):=by
 cases x<;>first|exact Or.inl ⟨_,_,rfl,h⟩|exact Or.inr ⟨rfl,h⟩|cases h
theorem aT{tm:T V}{a:Act}{o:Operand}{x:V}(hT:RT E tm a.tmps)(h:fy tm o=some x):RV E x (a.eval o):=by
 cases o with
 |
  tmp t=>
  obtain⟨u,h1,h2⟩:=hT _ _ (show get (aN t) tm=some x from h)
  rw[cO] at h1
  have:a.eval (.tmp t)=u:=by simp[Act.eval,h1]
  rw[this];exact h2
 |const v=>exact CH (show cV v=some x from h)
 |global g=>cases h
 |
  func f=>
  cases h
  simp only[RV,Act.eval]
  exact⟨#[], #[],rfl,by simp[aQ],by simp[aQ]⟩
theorem eE{tm:T V}{a:Act}(hT:RT E tm a.tmps):∀{l:List Operand}{x:V},iS tm l=some x→aQ E x (l.map a.eval)
 |[],x,h=>by cases h;simp[aQ]
 |
  o::l,x,h=>by
  obtain⟨v,h1,h⟩:=ab (show(bO (fy tm o) fun v=>bO (iS tm l) fun r=>some (.cons v r))=some x from h)
  obtain⟨r,h2,h⟩:=ab h
  cases h
  exact aQ.aG.2 ⟨_,_,rfl,aT hT h1,eE hT h2⟩
theorem th{tm:T V}{a:Act}(hT:RT E tm a.tmps):∀{l:List (Nat×Operand)}{x:List (Nat×V)},C3 tm l=some x→ID E x (l.map fun p=>(p.1,a.eval p.2))
 |[],x,h=>by cases h;rfl
 |
  o::l,x,h=>by
  obtain⟨v,h1,h⟩:=ab (show(bO (fy tm o.2) fun v=>bO (C3 tm l) fun r=>some ((o.1,v)::r))=some x from h)
  obtain⟨r,h2,h⟩:=ab h
  cases h
  exact⟨_,_,rfl,aT hT h1,th hT h2⟩
theorem tj{tm:T V}{a:Act}(hT:RT E tm a.tmps){o:Option Operand}{x:Option V}(h:C4 tm o=some x):RO E x (o.map a.eval):=by
 cases o with
 |none=>cases h;trivial
 |
  some o=>
  obtain⟨v,h1,h⟩:=ab (show(bO (fy tm o) fun v=>some (some v))=some x from h)
  cases h
  exact aT hT h1
theorem rE{x r:V}{v:Value}{o:Oper}{y:Operand}{ρ:Operand→Value}(ho:o.op= .nilCheck y)(hv:ρ y=v)(hx:RV E x v)(h:pF x=some r):(execOp ρ o).run P w= .ok (.value v) w∧r=x:=by
 unfold execOp
 rw[ho]
 simp only[hv]
 cases x<;>first
  |(cases h;done)
  |(cases h;simp only[RV] at hx;subst hx;exact⟨rfl,rfl⟩)
  |(cases h;simp only[RV] at hx;obtain⟨_,rfl⟩:=hx;exact⟨rfl,rfl⟩)
  |(cases h;simp only[RV] at hx;obtain⟨_,_,rfl⟩:=hx;exact⟨rfl,rfl⟩)
  |(cases h;simp only[RV] at hx;obtain⟨_,rfl,_⟩:=hx;exact⟨rfl,rfl⟩)
  |(cases h;simp only[RV] at hx;obtain⟨_,_,rfl,_⟩:=hx;exact⟨rfl,rfl⟩)
  |(cases h;simp only[RV] at hx;obtain⟨_,_,_,rfl,_⟩:=hx;exact⟨rfl,rfl⟩)
theorem tk{op:UnOp}{x r:V}{v:Value}(hx:RV E x v)(h:zI op x=some r):∃u,(Op.unary op v).run P w= .ok u w∧RV E r u:=by
 cases op with
 |
  not=>
  obtain⟨b,rfl,h⟩:=cT h
  cases h
  simp only[RV] at hx
  subst hx
  exact⟨.bool !b,rfl,by simp only[RV,fu]⟩
 |
  neg=>
  obtain⟨k,n,rfl,h⟩:=bc h
  have:=ft h;subst this
  simp only[RV] at hx
  subst hx
  exact⟨.int k (k.wrap (0 -n)),by simp[Op.unary,Op.intArith],by simp only[RV];rw[gp];rfl⟩
 |_=>cases h
theorem uU{t:TypeId}(h:dr (yk P t)=true):∃d,P.underlying t=some d∧∀m,d≠.interface m:=by
 unfold yk at h
 split at h
 ·cases h
 ·cases h
 ·rename_i o hn hno
  cases ho:P.underlying t with
  |none=>exact absurd ho hno
  |some d=>exact⟨d,rfl,fun m e=>hn m (by rw[ho,e])⟩
theorem xc{t:TypeId}{x r:V}{v:Value}(hx:RV E x v)(h:ym P t x=some r):(Instr.makeInterface t v).run P w= .ok (.iface t v) w∧RV E r (.iface t v):=by
 obtain⟨h1,h⟩:=al h
 cases h
 obtain⟨d,hd,hn⟩:=uU h1
 refine⟨?_,by simp only[RV];exact⟨v,rfl,hx⟩⟩
 simp only[Instr.makeInterface,Sem.run_bind,aw hd,Result.andThen_ok]
 cases d<;>first|rfl|exact absurd rfl (hn _)
theorem tn{ok:Bool}{v:V}{u:Value}{b:Bool}(h:RV E v u):RV E (AO ok v b) (if ok then .tuple #[u,.bool b] else u):=by
 cases ok with
 |false=>exact h
 |
  true=>
  show RV E (.c8 _) _
  simp only[RV,if_true]
  exact⟨_,rfl,aQ.aG.2 ⟨_,_,rfl,h,aQ.aG.2 ⟨_,_,rfl,by simp only[RV],by simp[aQ]⟩⟩⟩
theorem uV{xt t:TypeId}{ok:Bool}{x r:V}{v:Value}(hx:RV E x v)(h:uQ P t ok x=some r):∃u,(Instr.typeAssert v xt t ok).run P w= .ok u w∧RV E r u:=by
 obtain⟨h1,h⟩:=al h
 obtain⟨d,hd,hn⟩:=uU h1
 have fails:∀s dy m,(bF ok (bO (zeroV P t) fun z=>some (AO true z false))=some r)→∃u,((do if ok then pure (.tuple #[←zeroValue t,.bool false]) else runtimePanic (.typeAssertion s dy t m)):Sem Value).run P w= .ok u w∧RV E r u:=by
  intro s dy m hf
  obtain⟨hok,hf⟩:=al hf
  obtain⟨z,hz,hf⟩:=ab hf
  cases hf
  obtain⟨u,z1,z2⟩:=kO (E:=E) (w:=w) hz
  subst hok
  exact⟨.tuple #[u,.bool false],by simp[z1],tn (ok:=true) z2⟩
 rcases mE h with⟨t',y,rfl,g2⟩|⟨rfl,g2⟩
 ·simp only[RV] at hx
  obtain⟨u,rfl,hu⟩:=hx
  cases hb:Nat.beq t' t with
  |
   true=>
   rw[hb] at g2
   cases(show some (AO ok y true)=some r from g2)
   have:=bK hb;subst this
   refine⟨_,?_,tn hu⟩
   simp only[Instr.typeAssert,Sem.run_bind,aw hd,Result.andThen_ok]
   cases d<;>first|(simp;done)|exact absurd rfl (hn _)
  |
   false=>
   rw[hb] at g2
   have hne:t'≠t:=fun e=>by subst e;simp at hb
   obtain⟨q,q1,q2⟩:=fails (some xt) (some t') "" g2
   refine⟨q,?_,q2⟩
   simp only[Instr.typeAssert,Sem.run_bind,aw hd,Result.andThen_ok]
   cases d<;>first|(simp only[if_neg hne];exact q1)|exact absurd rfl (hn _)
 ·simp only[RV] at hx
  subst hx
  obtain⟨q,q1,q2⟩:=fails (some xt) none "" g2
  refine⟨q,?_,q2⟩
  simp only[Instr.typeAssert,Sem.run_bind,aw hd,Result.andThen_ok]
  cases d<;>first|exact q1|exact absurd rfl (hn _)
theorem tp{x r:V}{i:Nat}{v:Value}(hx:RV E x v)(h:rW x i=some r):∃u,(Instr.extract v i).run P w= .ok u w∧RV E r u:=by
 obtain⟨l,rfl,h⟩:=zt h
 simp only[RV] at hx
 obtain⟨a,rfl,ha⟩:=hx
 obtain⟨u,h1,h2,_⟩:=uB ha h
 exact⟨u,by
  have:a[i]? =some u:=by simpa using h1
  simp[Instr.extract,this],h2⟩
theorem pJ{ts:Array TypeId}{ty:TypeId}{xs r:V}{vs:List Value}(hx:aQ E xs vs)(h:rX xs=some r):∃u,(Builtin.max_ ts ty vs.toArray).run P w= .ok u w∧RV E r u:=by
 obtain⟨a,l,rfl,g1⟩:=bQ h
 obtain⟨k,n,rfl,g2⟩:=bc g1
 obtain⟨b,m,rfl,g3⟩:=bQ g2
 obtain⟨k',n',rfl,g4⟩:=bc g3
 rcases cB g4 with⟨rfl,g5⟩|⟨_,_,_,g5⟩
 ·obtain⟨hk,g6⟩:=al g5
  cases g6
  have:=iJ hk;subst this
  obtain⟨v,t,rfl,h1,h2⟩:=aQ.aG.1 hx
  obtain⟨v',t',rfl,h3,h4⟩:=aQ.aG.1 h2
  rw[aQ.da] at h4;subst h4
  simp only[RV] at h1 h3
  subst h1;subst h3
  refine⟨.int k (if n'>n then n' else n),by simp[Builtin.max_,Builtin.max2],?_⟩
  simp only[RV,uE]
  by_cases hc:n<n'
  ·simp[hc]
  ·simp[hc]
 ·cases g5
theorem pK{ts:Array TypeId}{ty:TypeId}{xs r:V}{vs:List Value}(hx:aQ E xs vs)(h:rY xs=some r):∃u,(Builtin.min_ ts ty vs.toArray).run P w= .ok u w∧RV E r u:=by
 obtain⟨a,l,rfl,g1⟩:=bQ h
 obtain⟨k,n,rfl,g2⟩:=bc g1
 obtain⟨b,m,rfl,g3⟩:=bQ g2
 obtain⟨k',n',rfl,g4⟩:=bc g3
 rcases cB g4 with⟨rfl,g5⟩|⟨_,_,_,g5⟩
 ·obtain⟨hk,g6⟩:=al g5
  cases g6
  have:=iJ hk;subst this
  obtain⟨v,t,rfl,h1,h2⟩:=aQ.aG.1 hx
  obtain⟨v',t',rfl,h3,h4⟩:=aQ.aG.1 h2
  rw[aQ.da] at h4;subst h4
  simp only[RV] at h1 h3
  subst h1;subst h3
  refine⟨.int k (if n'<n then n' else n),by simp[Builtin.min_,Builtin.min2],?_⟩
  simp only[RV,uE]
  by_cases hc:n'<n
  ·simp[hc]
  ·simp[hc]
 ·cases g5
end
end Go.Cm
namespace Go.Cm
section
variable{P:Program} {E:Env} {w:World}
theorem uW(w:World){e:TypeId}{cs:Array Value}:(newRow e cs).run P w= .ok ⟨w.heap.size,0,none⟩ (w.alloc (.cells cs e)):=by
 have:(newRow e cs).run P w= .ok ⟨w.heap.size,0,none⟩ {w with heap:=w.heap.push (.cells cs e)}:=by simp[newRow]
 exact this
theorem yu{e:TypeId}(h:C1 P e=true):P.underlying e=some (.int .u8):=by
 unfold C1 at h
 split at h
 ·assumption
 ·cases h
theorem pL:∀{l:V}{vs:List Value}{s:List Nat},aQ E l vs→bytesOf l=some s→(∀x∈s,x<256)∧vs=s.map (fun n:Nat=>Value.int .u8 (Int.ofNat n)):=by
 intro l
 induction l with
 |
  nil=>
  intro vs s h k
  rw[aQ.da] at h;subst h
  cases(show some []=some s from k)
  exact⟨fun x hx=>(by cases hx),rfl⟩
 |
  cons a l _ ih=>
  intro vs s h k
  obtain⟨v,r,rfl,h1,h2⟩:=aQ.aG.1 h
  obtain⟨kk,n,rfl,k1⟩:=bc (show(a.int fun k n=>bF (zw k .u8) (Fj n fun n=>bF (Nat.ble n 255) (bO (bytesOf l) fun r=>some (n::r))))=some s from k)
  obtain⟨hk,k2⟩:=al k1
  obtain⟨m,rfl,k3⟩:=ic k2
  obtain⟨hm,k4⟩:=al k3
  obtain⟨t,ht,k5⟩:=ab k4
  cases k5
  have:=iJ hk;subst this
  obtain⟨i1,i2⟩:=ih h2 ht
  simp only[RV] at h1
  subst h1;subst i2
  have hm:=Nat.le_of_ble_eq_true hm
  refine⟨fun x hx=>?_,rfl⟩
  rcases List.mem_cons.1 hx with e|e
  ·omega
  ·exact i1 x e
 |_=>intro vs s h;simp[aQ] at h
theorem uX:∀(s:List Nat)(r:ByteArray),(s.map fun n:Nat=>Int.ofNat n).foldl (fun r n=>r.push (UInt8.ofNat n.toNat)) r=r++eB s
 |[],r=>by apply ByteArray.ext;simp[eB]
 |
  n::s,r=>by
  simp only[List.map_cons,List.foldl_cons]
  rw[uX s]
  apply ByteArray.ext
  simp[eB,ByteArray.push]
theorem C9{α:Type}{hp:T ak}{hb:Id→Option ak}(hH:RH E hp w)(hB:∀b k,hb b=some k→get b hp=some k){x:V}{f:List Nat→Option α}{y:α}{vx:Value}(hx:RV E x vx)(h:uP hb x f=some y):
 ∃s,f s=some y∧(∀x∈s,x<256)∧(Conv.bytesToString vx).run P w= .ok (.string (eB s)) w:=by
 have row:∀(b:Id)(o n cap g:Nat),E.g b=some g→(bO (hb b) fun k=>k.cells fun l=>bO (cA o n l) fun c=>bO (bytesOf c) f)=some y→
  ∃s,f s=some y∧(∀x∈s,x<256)∧(Conv.bytesToString (.slice (some ⟨g,o,none⟩) n cap)).run P w= .ok (.string (eB s)) w:=by
  intro b o n cap g hg h
  obtain⟨k,hk,h1⟩:=ab h
  obtain⟨l,e,hke,h2⟩:=bV h1
  obtain⟨c,hc,h3⟩:=ab h2
  obtain⟨s,hs,h4⟩:=ab h3
  obtain⟨g',ob,e1,e2,e3⟩:=hH.bL b k (hB b k hk)
  rw[hg] at e1;cases e1
  obtain⟨cs,fz,xs,ys,rfl,q1,q2,q3,q4,q5,_⟩:=RB.cells hke e3
  obtain⟨n1,n2,n3⟩:=hJ q2 hc
  have hsz:o+n≤cs.size:=by
   have:=congrArg List.length q1
   simp at this;omega
  have he:(cs.toList.drop o).take n=(xs.drop o).take n:=by
   rw[q1,List.drop_append_of_le_length (by omega),List.take_append_of_le_length (by simp;omega)]
  obtain⟨i1,i2⟩:=pL n2 hs
  refine⟨s,h4,i1,?_⟩
  rw[run_bytesToString w ⟨g,o,none⟩ n cap (s.map fun n:Nat=>Int.ofNat n) (by
   rw[fM e2 hsz,he,i2];simp[Function.comp_def])]
  rw[uX]
  congr 3
 unfold uP at h
 cases hse:x.rr with
 |
  true=>
  rw[hse] at h
  have:=lg hse;subst this
  simp only[RV] at hx
  obtain⟨a,c,rfl⟩:=hx
  refine⟨[],h,fun x hx=>(by cases hx),?_⟩
  rw[run_bytesToString w a 0 c [] (by simp[loadCells,loadCellsFrom])]
  rfl
 |
  false=>
  rw[hse] at h
  rcases cP h with⟨b,o,n,c,rfl,h⟩|⟨b,o,n,z,rfl,h⟩|⟨rfl,h⟩
  ·simp only[RV] at hx
   obtain⟨g,hg,rfl⟩:=hx
   exact row b o n c g hg h
  ·simp only[RV] at hx
   obtain⟨g,c,hg,rfl,_⟩:=hx
   exact row b o n c g hg h
  ·simp only[RV] at hx
   subst hx
   exact⟨[],h,fun x hx=>(by cases hx),rfl⟩
theorem zM{hp:T ak}{nx:Id}(hH:RH E hp w){b:Id}{k:ak}{l:V}{e:TypeId}(hk:get b hp=some k)(hke:k= .c l e∨k= .u l e){g o:Nat}(hg:E.g b=some g):
 ∃w',(markStringish ⟨g,o,none⟩).run P w= .ok () w'∧RH E (put (some k) b hp) w'∧Ex hp nx E w (put (some k) b hp) nx E w':=by
 obtain⟨g',ob,e1,e2,e3⟩:=hH.bL b k hk
 rw[hg] at e1;cases e1
 obtain⟨cs,fz,xs,ys,rfl,q1,q2,q3,q4,q5,q6⟩:=RB.cells hke e3
 obtain⟨fz',hfz',hth⟩:∃fz',fz'=(if fz.1==fz.2 then(cs.size,cs.size+1) else(min fz.1 cs.size,max fz.2 (cs.size+1)))∧wS cs.size fz':=by
  refine⟨_,rfl,?_⟩
  by_cases h:fz.1=fz.2
  ·rw[if_pos (by simpa using h)];exact Or.inr (Nat.le_refl _)
  ·rw[if_neg (by simpa using h)]
   rcases q4 with h'|h'
   ·exact absurd h' h
   ·exact Or.inr (by simp;omega)
 have hrun:(markStringish ⟨g,o,none⟩).run P w= .ok () (w.bC g (.cells cs e fz')):=by
  have hsh:w.shape? g=some (e,cs.size):=by simp[World.shape?,e2]
  simp only[markStringish,Sem.run_bind,run_shape,hsh,Result.andThen_ok,run_freeze]
  congr 1
  simp only[World.freeze,World.bC]
  rw[if_neg (by decide)]
  congr 1
  apply Array.ext_getElem?
  intro i
  rw[Array.getElem?_modify,Array.getElem?_setIfInBounds]
  have hlt:g<w.heap.size:=(Array.getElem?_eq_some_iff.1 e2).1
  split
  ·rename_i e';subst e'
   rw[e2,hfz']
   obtain⟨lo,hi⟩:=fz
   simp
  ·rfl
 have hrb:RB E b k (.cells cs e fz'):=by
  rcases hke with rfl|rfl
  ·have:=q6 rfl;subst this
   rw[List.append_nil] at q1
   exact⟨cs,fz',rfl,by rw[q1];exact q2,q3,hth,q5⟩
  ·exact⟨cs,fz',xs,ys,rfl,q1,q2,q3,hth,q5⟩
 obtain⟨s1,s2⟩:=hH.change (nx:=nx) (k:=k) hk hg (w.bC g (.cells cs e fz')) rfl rfl (Tp.r rfl rfl) rfl hrb
 exact⟨_,hrun,s1,s2⟩
theorem nM{L:Nat}{hp:T ak}{nx:Id}{hb:Id→Option ak}(hH:RH E hp w)(hF:bW L nx E)(hB:∀b k,hb b=some k→get b hp=some k){src dst:TypeId}{x:V}{vx:Value}(hx:RV E x vx){ef:bM}(h:nG P hb nx src dst x=some ef):
 pM P L hp nx E w ef (convert src dst vx):=by
 obtain⟨s,hs,h1⟩:=ab h
 obtain⟨d,hd,h2⟩:=ab h1
 cases d with
 |
  int k=>
  obtain⟨k0,n,rfl,h3⟩:=bc h2
  obtain⟨r,hr,h4⟩:=ab h3
  cases h4
  have:=ft hr;subst this
  simp only[RV] at hx
  subst hx
  refine pM.same hH hF (v:=.int k (k.wrap n)) ?_ (by simp only[RV];rw[gp])
  simp only[convert,Sem.run_bind,aw hs,aw hd,Result.andThen_ok]
  rfl
 |
  string=>
  cases s with
  |
   slice e=>
   obtain⟨hu,h3⟩:=al h2
   obtain⟨l,h4,h5,h6⟩:=C9 (P:=P) hH hB hx h3
   cases h4
   have he:=yu hu
   refine pM.same hH hF (v:=.string (eB l)) ?_ (by simp only[RV];exact⟨h5,trivial⟩)
   have hsl:∃a n c,vx= .slice a n c:=by
    unfold uP at h3
    cases hse:x.rr with
    |
     true=>
     have:=lg hse;subst this
     simp only[RV] at hx
     obtain⟨a,c,rfl⟩:=hx
     exact⟨_,_,_,rfl⟩
    |
     false=>
     rw[hse] at h3
     rcases cP h3 with⟨b,o,n,c,rfl,_⟩|⟨b,o,n,z,rfl,_⟩|⟨rfl,_⟩
     ·simp only[RV] at hx;obtain⟨g,_,rfl⟩:=hx;exact⟨_,_,_,rfl⟩
     ·simp only[RV] at hx;obtain⟨g,c,_,rfl,_⟩:=hx;exact⟨_,_,_,rfl⟩
     ·simp only[RV] at hx;subst hx;exact⟨_,_,_,rfl⟩
   obtain⟨a,n,c,rfl⟩:=hsl
   cases a<;>simp only[convert,Sem.run_bind,aw hs,aw hd,aw he,Result.andThen_ok]<;>exact h6
  |_=>cases h2
 |
  slice e=>
  obtain⟨hu,h3⟩:=al h2
  have he:=yu hu
  cases hsd:Nat.beq src dst with
  |
   true=>
   rw[hsd] at h3
   have hsd:=bK hsd
   subst hsd
   cases s with
   |
    slice e'=>
    have hee:e=e':=by rw[hs] at hd;cases hd;rfl
    subst hee
    have done:∀(b:Id)(o n c g:Nat),E.g b=some g→(bO (hb b) fun k=>k.cells fun _=>some (bM.ch x b k))=some ef→RV E x (.slice (some ⟨g,o,none⟩) n c)→pM P L hp nx E w ef (convert src src (.slice (some ⟨g,o,none⟩) n c)):=by
     intro b o n c g hg h4 hxv
     obtain⟨k,hk,h5⟩:=ab h4
     obtain⟨l,e2,hke,h6⟩:=bV h5
     cases h6
     intro hL
     obtain⟨w',r1,r2,r3⟩:=zM (P:=P) (nx:=nx) hH (hB b k hk) hke (o:=o) hg
     refine⟨.slice (some ⟨g,o,none⟩) n c,w',E,?_,hxv,r2,hF,r3⟩
     simp only[convert,Sem.run_bind,aw hs,aw he,Result.andThen_ok,beq_self_eq_true]
     simp[r1]
    rcases cP (show x.uJ (fun b _ _ _=>bO (hb b) fun k=>k.cells fun _=>some (bM.ch x b k)) (fun b _ _ _=>bO (hb b) fun k=>k.cells fun _=>some (bM.ch x b k)) none=some ef from h3) with⟨b,o,n,c,hxe,h4⟩|⟨b,o,n,z,hxe,h4⟩|⟨_,h4⟩
    ·have hx':=hx
     rw[hxe] at hx'
     simp only[RV] at hx'
     obtain⟨g,hg,rfl⟩:=hx'
     exact done b o n c g hg h4 hx
    ·have hx':=hx
     rw[hxe] at hx'
     simp only[RV] at hx'
     obtain⟨g,c,hg,rfl,_⟩:=hx'
     exact done b o n c g hg h4 hx
    ·cases h4
   |_=>cases h3
  |
   false=>
   rw[hsd] at h3
   obtain⟨l,rfl,h4⟩:=dC (show(x.str fun s=>fN (my s) fun n=>fC (ll s) fun c=>some (bM.nw (.su nx 0 n 1) (.u c e)))=some ef from h3)
   rw[cF,im,kL] at h4
   cases h4
   simp only[RV] at hx
   obtain⟨hl,rfl⟩:=hx
   intro hL
   have hL:num (lO nx)≤L:=hL
   obtain⟨c1,c2⟩:=pb (E:=E) hl
   obtain⟨cap,hcap⟩:∃cap,cap=(Question.appendCap (eB l).size 0 e).cut (w.tape w.drawn (.appendCap (eB l).size 0 e)):=⟨_,rfl⟩
   have hge:l.length≤cap:=by rw[hcap,iO];simp[Question.cut]
   have hrow:aQ E (ll l) ((eB l).data.map fun b=>Value.int .u8 (b.toNat:Int)).toList:=by
    have:((eB l).data.map fun b=>Value.int .u8 (b.toNat:Int)).toList=l.map fun b=>Value.int .u8 ((UInt8.ofNat b).toNat:Int):=by
     simp[eB,Function.comp_def]
    rw[this];exact c1
   obtain⟨cs,hcs⟩:∃cs:Array Value,cs=((eB l).data.map fun b=>Value.int .u8 (b.toNat:Int))++Array.replicate (cap -(eB l).size) (.int .u8 0):=⟨_,rfl⟩
   have hsz:cs.size=cap:=by rw[hcs,iO];simp[eB];omega
   obtain⟨E',hE'⟩:∃E':Env,E'=⟨fun b=>if b=nx then some w.heap.size else E.g b,fun b=>if b=nx then cap else E.n b⟩:=⟨_,rfl⟩
   rw[cG] at hL
   have hle:E.le E':=by
    intro b g hb
    have hne:b≠nx:=fun e'=>by subst e';rw[hF b (Nat.le_refl _) (by omega)] at hb;cases hb
    subst hE'
    exact⟨by simp only[if_neg hne];exact hb,by simp only[if_neg hne]⟩
   have hn:E'.n nx=cs.size:=by subst hE';simp[hsz]
   obtain⟨a1,a2,a3,a4,a5⟩:=hH.fresh hF (by omega) (k:=.u (ll l) e) (o:=.cells cs e (cs.size,cs.size+1)) (n:=cap) (w.drew.alloc (.cells cs e (cs.size,cs.size+1))) rfl rfl (Tp.s rfl rfl) rfl E' hE'
    ⟨cs,_,_,_,rfl,by rw[hcs,Array.toList_append],hrow.mono hle,c2,Or.inr (Nat.le_refl _),hn⟩
   refine⟨.slice (some ⟨w.heap.size,0,none⟩) (eB l).size cap,_,E',?_,?_,a1,a2,a3⟩
   ·have hne:¬src=dst:=fun e=>by subst e;simp at hsd
    have hrun:(Conv.stringToBytes e (eB l)).run P w= .ok (.slice (some ⟨w.heap.size,0,none⟩) (eB l).size cap) (w.drew.alloc (.cells cs e (cs.size,cs.size+1))):=by
     simp only[Conv.stringToBytes,Sem.run_bind,run_choose_drew,Question.forced,Bool.false_eq_true,if_false,Result.andThen_ok]
     rw[←hcap,←hcs]
     have hsh:(w.drew.alloc (.cells cs e)).shape? w.heap.size=some (e,cs.size):=by
      have:(w.drew.alloc (.cells cs e)).heap[w.heap.size]? =some (.cells cs e):=heap_alloc_new w.drew _
      unfold World.shape?
      rw[this]
     have hfr:(w.drew.alloc (.cells cs e)).freeze ⟨w.heap.size,cs.size,none⟩ 1=w.drew.alloc (.cells cs e (cs.size,cs.size+1)):=by
      simp only[World.freeze,World.alloc,World.drew]
      rw[if_neg (by decide)]
      congr 1
      apply Array.ext_getElem?
      intro i
      rw[Array.getElem?_modify,Array.getElem?_push,Array.getElem?_push]
      by_cases hi:i=w.heap.size
      ·subst hi;simp
      ·rw[if_neg hi,if_neg hi,if_neg (fun e=>hi e.symm)]
     have hnr:(newRow e cs).run P w.drew= .ok ⟨w.heap.size,0,none⟩ (w.drew.alloc (.cells cs e)):=by
      exact uW w.drew
     simp only[hnr,Result.andThen_ok,markStringish,Sem.run_bind,run_shape,hsh,run_freeze,hfr,Sem.run_pure]
    cases s<;>simp only[convert,Sem.run_bind,aw hs,aw hd,aw he,Result.andThen_ok]<;>exact hrun
   ·show RV E' (.su nx 0 l.length 1) _
    simp only[RV]
    exact⟨_,cap,a5,by rw[iO],hge,by rw[hn,hsz];omega⟩
 |_=>cases h2
end
end Go.Cm
namespace Go.Cm
section
variable{P:Program} {E:Env} {w:World}
theorem yv{a b:List Nat}(ha:∀x∈a,x<256)(hb:∀x∈b,x<256):(eB a==eB b)=decide (a=b):=by
 have e1:(eB a==eB b)=((a.map UInt8.ofNat).toArray==(b.map UInt8.ofNat).toArray):=rfl
 rw[e1,Bool.eq_iff_iff]
 simp only[beq_iff_eq,decide_eq_true_eq]
 constructor
 ·intro h;exact pA ha hb (by simpa using congrArg Array.toList h)
 ·intro h;rw[h]
theorem A6{xs ys:List Value}:∀{l m:V},aQ E l xs→aQ E m ys→Fz l m=some true→xs=ys∧∀v∈xs,∃k n,v= .int k n:=by
 intro l
 induction l generalizing xs ys with
 |
  nil=>
  intro m h1 h2 h
  rcases cB (show m.split (some true) (fun _ _=>none) none=some true from h) with⟨rfl,_⟩|⟨_,_,_,h⟩
  ·rw[aQ.da] at h1 h2;subst h1;subst h2;exact⟨rfl,fun v hv=>by cases hv⟩
  ·cases h
 |
  cons a l _ ih=>
  intro m h1 h2 h
  obtain⟨c,m',rfl,g1⟩:=bQ (show m.split none (fun b' m'=>a.int fun k i=>b'.int fun k' j=>bF (zw k k') (@Bool.rec (fun _=>Option Bool) (some false) (Fz l m') (zu i j))) none=some true from h)
  obtain⟨k,x,rfl,g2⟩:=bc g1
  obtain⟨k',y,rfl,g3⟩:=bc g2
  obtain⟨hk,g4⟩:=al g3
  have:=iJ hk;subst this
  obtain⟨v,r,rfl,v1,v2⟩:=aQ.aG.1 h1
  obtain⟨u,s,rfl,u1,u2⟩:=aQ.aG.1 h2
  simp only[RV] at v1 u1
  subst v1;subst u1
  cases hq:zu x y with
  |false=>rw[hq] at g4;cases g4
  |
   true=>
   rw[hq] at g4
   obtain⟨i1,i2⟩:=ih v2 u2 (show Fz l m'=some true from g4)
   rw[kM] at hq
   have hxy:x=y:=by simpa using hq
   subst hxy;subst i1
   refine⟨rfl,fun v hv=>?_⟩
   rcases List.mem_cons.1 hv with e|e
   ·exact⟨_,_,e⟩
   ·exact i2 v e
 |_=>intro m h1;simp[aQ] at h1
theorem lv{n:Nat}:∀(l:List Value),(∀v∈l,∃k n,v= .int k n)→(l.zip l).all (fun(x,y)=>Instr.sameBits n x y)=true
 |[],_=>rfl
 |
  v::l,h=>by
  obtain⟨k,m,rfl⟩:=h v (List.mem_cons_self ..)
  simp only[List.zip_cons_cons,List.all_cons,Bool.and_eq_true]
  exact⟨by simp[Instr.sameBits],lv l (fun u hu=>h u (List.mem_cons_of_mem _ hu))⟩
theorem zN{t:TypeId}{x y:V}{vx vy:Value}(hx:RV E x vx)(hy:RV E y vy)(h:mA P t x y=some true):vx=vy∧Instr.sameBits 10000 vx vx=true:=by
 obtain⟨dd,hd,h_1⟩:=ab h
 cases dd with
 |
  int k0=>
  obtain⟨k,a,rfl,h_2⟩:=bc h_1
  obtain⟨k',c,rfl,h_3⟩:=bc h_2
  obtain⟨hk,h_4⟩:=al h_3
  have:=iJ hk;subst this
  simp only[RV] at hx hy
  subst hx;subst hy
  have h_5:=Option.some.inj h_4
  rw[kM] at h_5
  have:a=c:=by simpa using h_5
  subst this
  exact⟨rfl,by simp[Instr.sameBits]⟩
 |
  string=>
  obtain⟨a,rfl,h_5⟩:=dC h_1
  obtain⟨c,rfl,h_6⟩:=dC h_5
  have h_7:=Option.some.inj h_6
  rw[ou] at h_7
  have:a=c:=by simpa using h_7
  subst this
  simp only[RV] at hx hy
  obtain⟨q1,rfl⟩:=hx
  obtain⟨_,rfl⟩:=hy
  refine⟨rfl,?_⟩
  show(eB a==eB a)=true
  rw[yv q1 q1];simp
 |
  bool=>
  obtain⟨a,rfl,h_7⟩:=cT h_1
  obtain⟨c,rfl,h_8⟩:=cT h_7
  simp only[RV] at hx hy
  subst hx;subst hy
  have:a=c:=by
   have:=Option.some.inj h_8
   cases a<;>cases c<;>first|rfl|cases this
  subst this
  exact⟨rfl,by simp[Instr.sameBits]⟩
 |
  array n e=>
  obtain⟨de,he,h_9⟩:=ab h_1
  cases de with
  |
   int k0=>
   obtain⟨i,hi,h_10⟩:=ab h_9
   obtain⟨h1,h_11⟩:=al h_10
   obtain⟨l,rfl,h_12⟩:=eJ h_11
   obtain⟨m,rfl,h_13⟩:=eJ h_12
   obtain⟨h2,h_14⟩:=al h_13
   simp only[RV] at hx hy
   obtain⟨a,rfl,x1,x2⟩:=hx
   obtain⟨c,rfl,y1,y2⟩:=hy
   obtain⟨q1,q2⟩:=A6 x1 y1 h_14
   have:a=c:=Array.ext' q1
   subst this
   refine⟨rfl,?_⟩
   show(a.size==a.size&&(a.toList.zip a.toList).all fun(x,y)=>Instr.sameBits 9999 x y)=true
   rw[lv _ q2];simp
  |_=>cases h_9
 |_=>cases h_1
theorem eP{em:Bool}{t:TypeId}{x:V}{v:Value}{d:Nat}(hx:RV E x v)(h:mA P t x x=some true):(Instr.checkKey em (d+2) t v).run P w= .ok () w:=by
 obtain⟨dd,hd,h_1⟩:=ab h
 rw[Instr.checkKey]
 simp only[Sem.run_bind,aw hd,Result.andThen_ok]
 cases dd with
 |int k0=>rfl
 |string=>rfl
 |bool=>rfl
 |
  array n e=>
  obtain⟨de,he,h_9⟩:=ab h_1
  cases de with
  |
   int k0=>
   obtain⟨i,hi,h_10⟩:=ab h_9
   obtain⟨h1,h_11⟩:=al h_10
   obtain⟨l,rfl,h_12⟩:=eJ h_11
   obtain⟨m,hm,h_13⟩:=eJ h_12
   obtain⟨h2,h_14⟩:=al h_13
   simp only[RV] at hx
   obtain⟨a,rfl,x1,x2⟩:=hx
   have hlen:a.size=n:=by have:=x1.len;rw[bK h2] at this;simpa using this.symm
   have h1:=bK h1
   simp only[Std.Legacy.Range.forIn_eq_forIn_range',Std.Legacy.Range.size,Nat.sub_zero,Nat.add_one_sub_one,Nat.div_one]
   have key:∀(is:List Nat),(∀j∈is,j<n)→(forIn is PUnit.unit fun i _=>do
    Instr.checkKey em (d+1) e (←part e a (i*(←sizeOf e)))
    pure (ForInStep.yield PUnit.unit):Sem PUnit).run P w= .ok () w:=by
    intro is
    induction is with
    |nil=>intro _;simp
    |
     cons j is ihl=>
     intro hj
     have hjn:=hj j (by simp)
     have p1:(part e a (j*i.size)).run P w= .ok a[j] w:=by
      rw[h1]
      simp[part,eZ he,kN,hlen,hjn]
     have p2:(Instr.checkKey em (d+1) e a[j]).run P w= .ok () w:=by
      rw[Instr.checkKey]
      simp only[Sem.run_bind,aw he,Result.andThen_ok]
      rfl
     simp only[List.forIn_cons,Sem.run_bind,aY hi,Result.andThen_ok,p1,p2,Sem.run_pure]
     exact ihl (fun j' hj'=>hj j' (by simp[hj']))
   have:=key (List.range' 0 n) (fun j hj=>by simp at hj;omega)
   simp only[Sem.run_bind,this,Result.andThen_ok,Sem.run_pure]
  |_=>cases h_9
 |_=>cases h_1
theorem xd{t:TypeId}{d:TypeDesc}(hd:P.underlying t=some d){x y:V}{vx vy:Value}{b:Bool}(hx:RV E x vx)(hy:RV E y vy)(h:mA P t x y=some b):Instr.sameNow d vx vy=some b∨Instr.sameNow d vx vy=none:=by
 obtain⟨dd,hd',h_1⟩:=ab h
 rw[hd] at hd';cases hd'
 cases d with
 |
  int k0=>
  obtain⟨k,a,rfl,h_2⟩:=bc h_1
  obtain⟨k',c,rfl,h_3⟩:=bc h_2
  obtain⟨hk,h_4⟩:=al h_3
  have:=iJ hk;subst this
  cases h_4
  simp only[RV] at hx hy
  subst hx;subst hy
  left;simp[Instr.sameNow,kM]
 |
  string=>
  obtain⟨a,rfl,h_5⟩:=dC h_1
  obtain⟨c,rfl,h_6⟩:=dC h_5
  cases h_6
  simp only[RV] at hx hy
  obtain⟨h1,rfl⟩:=hx
  obtain⟨h2,rfl⟩:=hy
  left
  simp only[Instr.sameNow,ou]
  rw[yv h1 h2]
 |
  bool=>
  obtain⟨a,rfl,h_7⟩:=cT h_1
  obtain⟨c,rfl,h_8⟩:=cT h_7
  cases h_8
  simp only[RV] at hx hy
  subst hx;subst hy
  left
  cases a<;>cases c<;>rfl
 |_=>right;rfl
theorem tq{kt:TypeId}{d:TypeDesc}(hd:P.underlying kt=some d){k:V}{v:Value}(hk:RV E k v):∀{es:Es}{l:List MapEntry}{r:Option V},uH E es l→pG P kt k es=some r→
 (r=none→(∀i,(Instr.findAsking kt v l i).run P w= .ok none w)∧(∀i,Instr.findNow d v l i=some none∨Instr.findNow d v l i=none)∧∀x u ck es',RV E x u→oA P kt k x ck es=some es'→uH E es' (l++[{key:=v,val:=u,born:=ck}]))∧
 (∀y,r=some y→∃j e,l[j]? =some e∧RV E y e.val∧e.key=v∧Instr.sameBits 10000 v v=true∧(∀i,(Instr.findAsking kt v l i).run P w= .ok (some (i+j,e.val)) w)∧(∀i,Instr.findNow d v l i=some (some (i+j,e.val))∨Instr.findNow d v l i=none)∧
  ∀x u ck es',RV E x u→oA P kt k x ck es=some es'→uH E es' (l.modify j fun e=>{e with key:=v,val:=u}))
 |
  .nil,l,r,h,hf=>by
  have h:l= []:=h
  subst h
  cases(show some none=some r from hf)
  refine⟨fun _=>⟨fun i=>by simp[Instr.findAsking],fun i=>Or.inl rfl,fun x u ck es' hx hs=>?_⟩,fun y hy=>by cases hy⟩
  cases(show some (Es.cons k x ck .nil)=some es' from hs)
  exact⟨_,_,rfl,hk,hx,rfl,rfl⟩
 |
  .cons k' v' n es,l,r,⟨e,t,hl,h1,h2,h3,h4⟩,hf=>by
  subst hl
  obtain⟨b,hb,hf⟩:=ab (show(bO (mA P kt k k') fun b=>@Bool.rec (fun _=>Option (Option V)) (pG P kt k es) (some (some v')) b)=some r from hf)
  have heq:=s8 (P:=P) (w:=w) (d:=9998) hk h1 hb
  have hnow:=xd hd hk h1 hb
  cases b with
  |
   true=>
   cases(show some (some v')=some r from hf)
   obtain⟨s1,s2⟩:=zN hk h1 hb
   refine⟨fun h=>(by cases h),fun y hy=>?_⟩
   cases hy
   refine⟨0,e,rfl,h2,s1.symm,s2,fun i=>?_,fun i=>?_,fun x u ck es' hx hs=>?_⟩
   ·simp only[Instr.findAsking,Sem.run_bind,show(Op.equal kt v e.key).run P w= .ok true w from heq,Result.andThen_ok]
    simp
   ·simp only[Instr.findNow]
    rcases hnow with hn|hn<;>simp[hn]
   ·have hs:(bO (mA P kt k k') fun b=>@Bool.rec (fun _=>Option Es) (bO (oA P kt k x ck es) fun r=>some (Es.cons k' v' n r)) (some (Es.cons k x n es)) b)=some es':=hs
    rw[hb] at hs
    cases(show some (Es.cons k x n es)=some es' from hs)
    exact⟨{e with key:=v,val:=u},t,by simp[List.modify],hk,hx,h3,h4⟩
  |
   false=>
   obtain⟨i1,i2⟩:=tq hd hk h4 (show pG P kt k es=some r from hf)
   have aj:∀x ck es',oA P kt k x ck (.cons k' v' n es)=some es'→∃r,oA P kt k x ck es=some r∧es'= .cons k' v' n r:=by
    intro x ck es' hs
    have hs:(bO (mA P kt k k') fun b=>@Bool.rec (fun _=>Option Es) (bO (oA P kt k x ck es) fun r=>some (Es.cons k' v' n r)) (some (Es.cons k x n es)) b)=some es':=hs
    rw[hb] at hs
    obtain⟨r,hr,hs⟩:=ab (show(bO (oA P kt k x ck es) fun r=>some (Es.cons k' v' n r))=some es' from hs)
    cases hs
    exact⟨r,hr,rfl⟩
   have hask:∀i,(Instr.findAsking kt v (e::t) i).run P w=(Instr.findAsking kt v t (i+1)).run P w:=by
    intro i
    simp only[Instr.findAsking,Sem.run_bind,show(Op.equal kt v e.key).run P w= .ok false w from heq,Result.andThen_ok]
    simp
   refine⟨fun hr=>?_,fun y hy=>?_⟩
   ·obtain⟨a1,a2,a3⟩:=i1 hr
    refine⟨fun i=>by rw[hask];exact a1 _,fun i=>?_,fun x u ck es' hx hs=>?_⟩
    ·simp only[Instr.findNow]
     rcases hnow with hn|hn<;>simp only[hn]
     ·exact a2 _
     ·exact Or.inr trivial
    ·obtain⟨r',hr',rfl⟩:=aj x ck es' hs
     exact⟨e,t++_,rfl,h1,h2,h3,a3 x u ck r' hx hr'⟩
   ·obtain⟨j,e',a1,a2,a3,a4,a5,a6,a7⟩:=i2 y hy
    refine⟨j+1,e',by simpa using a1,a2,a3,a4,fun i=>?_,fun i=>?_,fun x u ck es' hx hs=>?_⟩
    ·rw[hask,a5];congr 3;omega
    ·simp only[Instr.findNow]
     rcases hnow with hn|hn<;>simp only[hn]
     ·have:=a6 (i+1)
      rw[show i+1+j=i+(j+1) from by omega] at this
      exact this
     ·exact Or.inr trivial
    ·obtain⟨r',hr',rfl⟩:=aj x ck es' hs
     exact⟨e,t.modify j _,by simp[List.modify],h1,h2,h3,a7 x u ck r' hx hr'⟩
theorem iq{kt:TypeId}{d:TypeDesc}(hd:P.underlying kt=some d){v:Value}{l:List MapEntry}{q:Option (Nat×Value)}(h1:(Instr.findAsking kt v l 0).run P w= .ok q w)(h2:Instr.findNow d v l 0=some q∨Instr.findNow d v l 0=none):(Instr.findKey kt v l).run P w= .ok q w:=by
 simp only[Instr.findKey,Sem.run_bind,aw hd,Result.andThen_ok]
 rcases h2 with h|h
 ·rw[h];rfl
 ·rw[h];exact h1
end
end Go.Cm
namespace Go.Cm
section
variable{P:Program} {E:Env} {w:World}
theorem gJ{g ck:Nat}{l:Array MapEntry}(h:w.heap[g]? =some (.map l ck)):(getObj g).run P w= .ok (.map l ck) w:=by simp[getObj,Sem.run,h]
theorem uY{g ck:Nat}{l:Array MapEntry}(o:Obj)(h:w.heap[g]? =some (.map l ck)):(setObj g o).run P w= .ok () {w with heap:=w.heap.setIfInBounds g o}:=by simp[setObj,Sem.run,h]
theorem tw{hp:T ak}(hH:RH E hp w){b:Id}{es:Es}{ck:Nat}(hb:get b hp=some (.m es ck)){g:Nat}(hg:E.g b=some g):∃l:Array MapEntry,w.heap[g]? =some (.map l ck)∧uH E es l.toList:=by
 obtain⟨g',o,h1,h2,l,rfl,h3⟩:=hH.bL b _ hb
 rw[hg] at h1;cases h1
 exact⟨l,h2,h3⟩
theorem kc{hp:T ak}{hb:Id→Option ak}(hH:RH E hp w)(hB:∀b k,hb b=some k→get b hp=some k){t:TypeId}{x k r:V}{ok:Bool}{vx vk:Value}(hx:RV E x vx)(hk:RV E k vk)(h:iR P hb t x k ok=some r):
 ∃v,(Instr.lookup t vx vk ok).run P w= .ok v w∧RV E r v:=by
 obtain⟨d,hd,h1⟩:=ab h
 cases d with
 |
  map kt e=>
  obtain⟨kk,hkk,h2⟩:=ab h1
  obtain⟨hkt,h3⟩:=al h2
  subst hkt
  have hck:∀em,(Instr.checkKey em 10000 kt vk).run P w= .ok () w:=fun em=>eP (d:=9998) hk hkk
  obtain⟨dk,hdk,_⟩:=ab hkk
  have zero:(bO (zeroV P e) fun z=>some (AO ok z false))=some r→∃z,(zeroValue e).run P w= .ok z w∧RV E r (if ok then .tuple #[z,.bool false] else z):=by
   intro hz
   obtain⟨z,hz1,hz2⟩:=ab hz
   cases hz2
   obtain⟨v,z1,z2⟩:=kO (E:=E) (w:=w) hz1
   exact⟨v,z1,tn z2⟩
  rcases nB h3 with⟨b,rfl,h4⟩|⟨rfl,h4⟩
  ·obtain⟨bl,hbl,h5⟩:=ab h4
   obtain⟨es,ck,rfl,h6⟩:=iP h5
   obtain⟨q,hq,h7⟩:=ab h6
   simp only[RV] at hx
   obtain⟨g,hg,rfl⟩:=hx
   obtain⟨l,hl,hre⟩:=tw hH (hB b _ hbl) hg
   obtain⟨f1,f2⟩:=tq (P:=P) (w:=w) hdk hk hre hq
   cases q with
   |
    none=>
    obtain⟨a1,a2,_⟩:=f1 rfl
    obtain⟨z,z1,z2⟩:=zero h7
    refine⟨_,?_,z2⟩
    simp only[Instr.lookup,Sem.run_bind,aw hd,Result.andThen_ok,gJ hl,Sem.run_pure,hck,iq hdk (a1 0) (a2 0),z1]
   |
    some y=>
    cases(show some (AO ok y true)=some r from h7)
    obtain⟨j,e',b1,b2,b3,b4,b5,b6,_⟩:=f2 y rfl
    refine⟨_,?_,tn b2⟩
    simp only[Instr.lookup,Sem.run_bind,aw hd,Result.andThen_ok,gJ hl,Sem.run_pure,hck,iq hdk (b5 0) (b6 0)]
  ·simp only[RV] at hx
   subst hx
   obtain⟨z,z1,z2⟩:=zero h4
   refine⟨_,?_,z2⟩
   have hf:(Instr.findKey kt vk []).run P w= .ok none w:=by simp[Instr.findKey,aw hdk,Instr.findNow]
   simp only[Instr.lookup,Sem.run_bind,aw hd,Result.andThen_ok,Sem.run_pure,hck]
   simp only[hf,Result.andThen_ok,Sem.run_bind,z1,Sem.run_pure]
 |_=>cases h1
def IL(P:Program)(L:Nat)(hp:T ak)(nx:Id)(E:Env)(w:World)(e:bM)(s:Sem Unit):Prop:=
 num (e.nx nx)≤L→∃w' E',s.run P w= .ok () w'∧RV E' e.val undef∧RH E' (e.hp nx hp) w'∧bW L (e.nx nx) E'∧Ex hp nx E w (e.hp nx hp) (e.nx nx) E' w'
theorem oC{L:Nat}{hp:T ak}{nx:Id}{hb:Id→Option ak}(hH:RH E hp w)(hF:bW L nx E)(hB:∀b k,hb b=some k→get b hp=some k){t:TypeId}{x k y:V}{vx vk vy:Value}(hx:RV E x vx)(hk:RV E k vk)(hy:RV E y vy){ef:bM}(h:uR P hb t x k y=some ef):
 IL P L hp nx E w ef (Instr.mapUpdate t vx vk vy):=by
 obtain⟨d,hd,h1⟩:=ab h
 cases d with
 |
  map kt e=>
  obtain⟨kk,hkk,h2⟩:=ab h1
  obtain⟨hkt,h3⟩:=al h2
  subst hkt
  have hck:∀em,(Instr.checkKey em 10000 kt vk).run P w= .ok () w:=fun em=>eP (d:=9998) hk hkk
  obtain⟨dk,hdk,_⟩:=ab hkk
  rcases nB h3 with⟨b,rfl,h4⟩|⟨_,h4⟩
  ·obtain⟨bl,hbl,h5⟩:=ab h4
   obtain⟨es,ck,rfl,h6⟩:=iP h5
   obtain⟨q,hq,h7⟩:=ab h6
   obtain⟨es',hes',h8⟩:=ab h7
   simp only[RV] at hx
   obtain⟨g,hg,rfl⟩:=hx
   obtain⟨l,hl,hre⟩:=tw hH (hB b _ hbl) hg
   obtain⟨f1,f2⟩:=tq (P:=P) (w:=w) hdk hk hre hq
   intro hL
   cases q with
   |
    none=>
    obtain⟨a1,a2,a3⟩:=f1 rfl
    have h8:(fN (Nat.succ ck) fun ck'=>some (bM.ch .un b (.m es' ck')))=some ef:=h8
    rw[cF] at h8
    cases h8
    have hrb:RB E b (.m es' (ck+1)) (.map (l.push {key:=vk,val:=vy,born:=ck}) (ck+1)):=⟨_,rfl,by simpa using a3 y vy ck es' hy hes'⟩
    obtain⟨s1,s2⟩:=hH.change (nx:=nx) (k:=.m es' (ck+1)) (hB b _ hbl) hg {w with heap:=w.heap.setIfInBounds g (.map (l.push {key:=vk,val:=vy,born:=ck}) (ck+1))} rfl rfl (Tp.r rfl rfl) rfl hrb
    refine⟨_,E,?_,by simp[bM.val,RV],s1,hF,s2⟩
    simp only[Instr.mapUpdate,Sem.run_bind,aw hd,Result.andThen_ok,gJ hl,hck,iq hdk (a1 0) (a2 0),uY _ hl]
   |
    some z=>
    cases(show some (bM.ch .un b (.m es' ck))=some ef from h8)
    obtain⟨j,e',b1,b2,b3,b4,b5,b6,b7⟩:=f2 z rfl
    have hj:l[j]? =some e':=by simpa using b1
    have hrb:RB E b (.m es' ck) (.map (l.modify j fun e=>{e with key:=vk,val:=vy}) ck):=⟨_,rfl,by simpa using b7 y vy ck es' hy hes'⟩
    obtain⟨s1,s2⟩:=hH.change (nx:=nx) (k:=.m es' ck) (hB b _ hbl) hg {w with heap:=w.heap.setIfInBounds g (.map (l.modify j fun e=>{e with key:=vk,val:=vy}) ck)} rfl rfl (Tp.r rfl rfl) rfl hrb
    refine⟨_,E,?_,by simp[bM.val,RV],s1,hF,s2⟩
    have hkeep:(Instr.keyThatStays vk vk).run P w= .ok vk w:=by simp[Instr.keyThatStays,b4]
    simp only[Instr.mapUpdate,Sem.run_bind,aw hd,Result.andThen_ok,gJ hl,hck,iq hdk (b5 0) (b6 0),Nat.zero_add,hj,Option.map_some,Option.getD_some,b3,hkeep,uY _ hl]
  ·cases h4
 |_=>cases h1
theorem xe{L:Nat}{hp:T ak}{nx:Id}(hH:RH E hp w)(hF:bW L nx E){t:TypeId}{r:Option V}{vr:Option Value}(hr:RO E r vr){ef:bM}(h:yn P nx t r=some ef):
 pM P L hp nx E w ef (Instr.makeMap t vr):=by
 have hef:ef= .nw (.m nx) (.m .nil 0)∧(∀x,r=some x→∃k n kt vt,x= .i k n∧P.underlying t=some (.map kt vt)):=by
  cases r with
  |none=>cases(show some (bM.nw (.m nx) (.m .nil 0))=some ef from h);exact⟨rfl,fun x hx=>by cases hx⟩
  |
   some x=>
   obtain⟨k,n,hxe,h1⟩:=bc (show(x.int fun _ _=>bO (P.underlying t) fun d=>match d with
    | .map _ _=>some (bM.nw (.m nx) (.m .nil 0))
    |_=>none)=some ef from h)
   obtain⟨d,hd,h2⟩:=ab h1
   cases d with
   |
    map kt vt=>
    cases h2
    exact⟨rfl,fun y hy=>by cases hy;exact⟨k,n,kt,vt,hxe,hd⟩⟩
   |_=>cases h2
 obtain⟨hef,hint⟩:=hef
 subst hef
 intro hL
 have hL:num (lO nx)≤L:=hL
 rw[cG] at hL
 obtain⟨E',hE'⟩:∃E':Env,E'=⟨fun b=>if b=nx then some w.heap.size else E.g b,fun b=>if b=nx then 0 else E.n b⟩:=⟨_,rfl⟩
 obtain⟨a1,a2,a3,a4,a5⟩:=hH.fresh hF (by omega) (k:=.m .nil 0) (o:=.map #[] 0) (n:=0) (w.alloc (.map #[] 0)) rfl rfl (Tp.r rfl rfl) rfl E' hE' ⟨#[],rfl,rfl⟩
 refine⟨.map (some w.heap.size),_,E',?_,by show RV E' (.m nx) _;simp only[RV];exact⟨_,a5,rfl⟩,a1,a2,a3⟩
 cases r with
 |
  none=>
  cases vr with
  |none=>simp[Instr.makeMap]
  |some v=>exact hr.elim
 |
  some x=>
  cases vr with
  |none=>exact hr.elim
  |
   some v=>
   obtain⟨k,n,kt,vt,rfl,ht⟩:=hint x rfl
   have hr:RV E (.i k n) v:=hr
   simp only[RV] at hr
   subst hr
   simp[Instr.makeMap,aw ht,asInt,asIntOf]
theorem tx{L:Nat}{hp:T ak}{nx:Id}(hH:RH E hp w)(hF:bW L nx E){t:TypeId}{x y:V}{vx vy:Value}(hx:RV E x vx)(hy:RV E y vy){ef:bM}(h:rV P nx t x y=some ef):
 pM P L hp nx E w ef (Instr.makeSlice t vx vy):=by
 obtain⟨d,hd,h1⟩:=ab h
 cases d with
 |
  slice e=>
  obtain⟨i,hi,h2⟩:=ab h1
  obtain⟨k1,n1,rfl,h3⟩:=bc h2
  obtain⟨l,rfl,h4⟩:=ic h3
  obtain⟨k2,n2,rfl,h5⟩:=bc h4
  obtain⟨c,rfl,h6⟩:=ic h5
  obtain⟨hlc,h7⟩:=al h6
  obtain⟨hc,h8⟩:=al h7
  obtain⟨hbt,h9⟩:=al h8
  obtain⟨r,hr,h10⟩:=ab h9
  rw[kL] at h10
  cases h10
  simp only[RV] at hx hy
  subst hx;subst hy
  have hlc:=Nat.le_of_ble_eq_true hlc
  have hc:=Nat.le_of_ble_eq_true hc
  have hbt:=Nat.le_of_ble_eq_true hbt
  intro hL
  obtain⟨z,z1,z2,z3⟩:=zD (E:=E) hr w
  obtain⟨E',a1,a2,a3,a4,a5,a6,a7⟩:=lk (P:=P) hH hF hL e z2 z3
  refine⟨.slice (some ⟨w.heap.size,0,none⟩) l c,_,E',?_,by show RV E' (.sl nx 0 l c) _;simp only[RV];exact⟨_,a2,rfl⟩,a5,a6,a7⟩
  have hprod:i.bytes*c≤100000*1000000:=Nat.mul_le_mul hbt hc
  have hw:∀m:Nat,m≤1000000→IntKind.i64.wrap (m:Int)=(m:Int):=by
   intro m hm
   rw[←gp]
   have:IntKind.wrap .i64 (m:Int)=m:=by
    simp only[IntKind.wrap,IntKind.signed,IntKind.bits]
    first
     |omega
     |(simp;omega)
   rw[gp];exact this
  have e1:=hw l (by omega)
  have e2:=hw c hc
  have ncond:¬((decide ((c:Int)<0)||decide ((i.bytes:Int)*(c:Int)>2^48))||decide ((l:Int)<0)||decide ((l:Int)>(c:Int)))=true:=by
   simp only[Bool.or_eq_true,decide_eq_true_eq,not_or]
   refine⟨⟨⟨by omega,?_⟩,by omega⟩,by omega⟩
   have h0:((i.bytes*c:Nat):Int)≤((100000000000:Nat):Int):=Int.ofNat_le.2 hprod
   rw[Int.natCast_mul] at h0
   have h1:(2:Int)^48=281474976710656:=by decide
   rw[h1]
   omega
  have hroom:(askRoom (c*i.bytes)).run P w= .ok () w:=by
   unfold askRoom
   split
   ·rfl
   ·rfl
  simp only[Instr.makeSlice,Sem.run_bind,aw hd,Result.andThen_ok,asInt,asIntOf,Sem.run_pure,jj hi,Int.ofNat_eq_natCast,e1,e2,if_neg ncond,Int.toNat_natCast,hroom,aY hi]
  rcases z1 with⟨y1,y2⟩|⟨y1,v,y2,y3⟩
  ·subst y2
   simp only[if_pos y1,Sem.run_pure,Result.andThen_ok,Sem.run_bind,a1]
  ·subst y3
   simp only[if_neg y1,Sem.run_pure,Result.andThen_ok,Sem.run_bind,y2,a1]
 |_=>cases h1
end
end Go.Cm
namespace Go.Cm
section
variable{P:Program} {E:Env} {w:World}
theorem xf{L:Nat}{hp:T ak}{nx:Id}{hb:Id→Option ak}(hH:RH E hp w)(hF:bW L nx E)(hB:∀b k,hb b=some k→get b hp=some k){t:TypeId}{x:V}{vx:Value}(hx:RV E x vx){ef:bM}(h:yo P hb nx t x=some ef):
 pM P L hp nx E w ef (Instr.range t vx):=by
 obtain⟨d,hd,h1⟩:=ab h
 cases d with
 |
  map kt vt=>
  have fin:∀(k:ak)(o:Obj)(v:Value),(∀E':Env,E.le E'→RB E' nx k o)→ef= .nw (.p nx 0) k→(Instr.range t v).run P w= .ok (.pointer (some ⟨w.heap.size,0,none⟩)) (w.alloc o)→pM P L hp nx E w ef (Instr.range t v):=by
   intro k o v hk he hrun hL
   subst he
   have hL:num (lO nx)≤L:=hL
   rw[cG] at hL
   obtain⟨E',hE'⟩:∃E':Env,E'=⟨fun b=>if b=nx then some w.heap.size else E.g b,fun b=>if b=nx then 0 else E.n b⟩:=⟨_,rfl⟩
   have hle:E.le E':=by
    intro b g hb
    have hne:b≠nx:=fun e'=>by subst e';rw[hF b (Nat.le_refl _) (by omega)] at hb;cases hb
    subst hE'
    exact⟨by simp only[if_neg hne];exact hb,by simp only[if_neg hne]⟩
   obtain⟨a1,a2,a3,a4,a5⟩:=hH.fresh hF (by omega) (k:=k) (o:=o) (n:=0) (w.alloc o) rfl rfl (Tp.r rfl rfl) rfl E' hE' (hk E' hle)
   exact⟨_,_,E',hrun,by show RV E' (.p nx 0) _;simp only[RV];exact⟨_,a5,rfl⟩,a1,a2,a3⟩
  rcases nB h1 with⟨b,rfl,h2⟩|⟨rfl,h2⟩
  ·obtain⟨bl,hbl,h3⟩:=ab h2
   obtain⟨es,ck,rfl,h4⟩:=iP h3
   simp only[RV] at hx
   obtain⟨g,hg,rfl⟩:=hx
   obtain⟨l,hl,hre⟩:=tw hH (hB b _ hbl) hg
   refine fin (.it (some b) ck [] ck) (.mapIter (some g) ck #[] ck) _ (fun E' hle=>⟨g,(hle b g hg).1,rfl⟩) (Option.some.inj h4).symm ?_
   simp[Instr.range,aw hd,gJ hl]
  ·simp only[RV] at hx
   subst hx
   refine fin (.it none 0 [] 0) (.mapIter none 0 #[] 0) _ (fun E' hle=>rfl) (Option.some.inj h2).symm ?_
   simp[Instr.range,aw hd]
 |_=>cases h1
theorem A7{α:Type}{k:ak}{f:Option Id→Nat→List Nat→Nat→Option α}{y:α}(h:k.Kv f=some y):∃m a s l,k= .it m a s l∧f m a s l=some y:=by
 cases k<;>first|exact⟨_,_,_,_,rfl,h⟩|cases h
theorem yw(n:Nat):∀l:List Nat,s9 n l=decide (n∈l)
 |[]=>by simp[s9]
 |
  a::l=>by
  show@Bool.rec (fun _=>Bool) (s9 n l) true (Nat.beq a n)=_
  rw[yw n l,uC]
  by_cases h:a=n
  ·subst h;simp
  ·have h':¬n=a:=fun e=>h e.symm
   simp[h,h']
theorem sb{seen:List Nat}:∀{es:Es}{l:List MapEntry},uH E es l→uH E (nH seen es) (l.filter fun e=> !seen.contains e.born)
 | .nil,l,h=>by have h:l= []:=h;subst h;rfl
 |
  .cons k v n es,l,⟨e,r,hl,h1,h2,h3,h4⟩=>by
  subst hl
  have ih:=sb (seen:=seen) h4
  show uH E (@Bool.rec (fun _=>Es) (.cons k v n (nH seen es)) (nH seen es) (s9 n seen)) _
  rw[yw]
  by_cases hm:n∈seen
  ·simp only[hm,decide_true]
   rw[List.filter_cons_of_neg (by simp[h3,hm])];exact ih
  ·simp only[hm,decide_false]
   rw[List.filter_cons_of_pos (by simp[h3,hm])]
   exact⟨e,_,rfl,h1,h2,h3,ih⟩
theorem uZ{n:Nat}:∀{es:Es}{l:List MapEntry},uH E es l→yp n es=true→¬(l.all fun e=>decide (e.born≥n))=true
 | .nil,l,h,ho=>by cases ho
 |
  .cons k v b es,l,⟨e,r,hl,h1,h2,h3,h4⟩,ho=>by
  subst hl
  have ho:@Bool.rec (fun _=>Bool) (yp n es) true (Nat.ble (Nat.succ b) n)=true:=ho
  simp only[List.all_cons,Bool.and_eq_true,decide_eq_true_eq,not_and]
  intro hge
  cases hb:Nat.ble (Nat.succ b) n with
  |true=>have:=Nat.le_of_ble_eq_true hb;omega
  |false=>rw[hb] at ho;exact uZ h4 ho
theorem zO{seen:List Nat}{last:Nat}{es:Es}{l:Array MapEntry}(hre:uH E es l.toList)(h:xa seen last es=true):¬((!seen.toArray.isEmpty&& !l.isEmpty&&l.all (·.born≥last))=true):=by
 cases seen with
 |nil=>simp
 |
  cons a s=>
  cases es with
  |
   nil=>
   have:l.toList= []:=hre
   have:l= #[]:=Array.ext' this
   subst this;simp
  |
   cons k v n es=>
   have:=uZ hre (show yp last (.cons k v n es)=true from h)
   simp only[Bool.and_eq_true,not_and]
   intro _ hh
   apply this
   rw[←hh];simp
theorem zP{L:Nat}{hp:T ak}{nx:Id}{hb:Id→Option ak}(hH:RH E hp w)(hF:bW L nx E)(hB:∀b k,hb b=some k→get b hp=some k){x:V}{vx:Value}{str:Bool}{ty:TypeId}(hx:RV E x vx){ef:bM}(h:AP hb x str=some ef):
 pM P L hp nx E w ef (Instr.next vx str ty):=by
 obtain⟨hs,h1⟩:=al h
 have hs:str=false:=by cases str;rfl;cases hs
 subst hs
 obtain⟨b,o,rfl,h2⟩:=eC h1
 obtain⟨ho,h3⟩:=al h2
 have ho:=bK ho
 subst ho
 obtain⟨bl,hbl,h4⟩:=ab h3
 obtain⟨m,since,seen,last,rfl,h5⟩:=A7 h4
 simp only[RV] at hx
 obtain⟨g,hg,rfl⟩:=hx
 obtain⟨g',ob,e1,e2,e3⟩:=hH.bL b _ (hB b _ hbl)
 rw[hg] at e1;cases e1
 have over:RV E (.c8 (.cons (.b false) .nil)) (.tuple #[.bool false]):=by
  simp only[RV]
  exact⟨_,rfl,aQ.aG.2 ⟨_,_,rfl,by simp only[RV],by simp[aQ]⟩⟩
 cases m with
 |
  none=>
  cases(show some (bM.v (.c8 (.cons (.b false) .nil)))=some ef from h5)
  have e3:ob= .mapIter none since seen.toArray last:=e3
  subst e3
  refine pM.same hH hF (v:=.tuple #[.bool false]) ?_ over
  simp[Instr.next,getObj,Sem.run,e2]
 |
  some mb=>
  obtain⟨gm,hgm,rfl⟩:=e3
  obtain⟨ml,hml,h6⟩:=ab (show(bO (hb mb) fun ml=>ml.w7 fun es ck=>bF (xa seen last es) (
   @Es.casesOn (fun _=>Option bM) (nH seen es) (some (.v (.c8 (.cons (.b false) .nil))))
    (fun k v n l=>@Es.casesOn (fun _=>Option bM) l (bF (Nat.ble (Nat.succ n) since) (some (.ch (.c8 (.cons (.b true) (.cons k (.cons v .nil)))) b (.it (some mb) since (seen++[n]) ck)))) (fun _ _ _ _=>none))))=some ef from h5)
  obtain⟨es,ck,rfl,h7⟩:=iP h6
  obtain⟨hok,h8⟩:=al h7
  obtain⟨l,hl,hre⟩:=tw hH (hB mb _ hml) hgm
  have hleft:=sb (seen:=seen) hre
  have hno:=zO hre hok
  have hgi:(getObj g).run P w= .ok (.mapIter (some gm) since seen.toArray last) w:=by simp[getObj,Sem.run,e2]
  have hfil:l.filter (fun e=> !seen.toArray.contains e.born)=(l.toList.filter fun e=> !seen.contains e.born).toArray:=by
   apply Array.ext'
   simp
  cases hq:nH seen es with
  |
   nil=>
   rw[hq] at h8 hleft
   cases(show some (bM.v (.c8 (.cons (.b false) .nil)))=some ef from h8)
   have hnil:(l.toList.filter fun e=> !seen.contains e.born)= []:=hleft
   refine pM.same hH hF (v:=.tuple #[.bool false]) ?_ over
   simp only[Instr.next,Sem.run_bind,hgi,Result.andThen_ok,gJ hl,if_neg hno]
   rw[hfil,hnil]
   simp[choose,Sem.run,Question.forced]
  |
   cons k v n es'=>
   rw[hq] at h8 hleft
   cases es' with
   |cons _ _ _ _=>cases h8
   |
    nil=>
    obtain⟨hn,h9⟩:=al (show bF (Nat.ble (Nat.succ n) since) (some (bM.ch (.c8 (.cons (.b true) (.cons k (.cons v .nil)))) b (.it (some mb) since (seen++[n]) ck)))=some ef from h8)
    cases h9
    have hn:=Nat.le_of_ble_eq_true hn
    obtain⟨e,r,hl1,q1,q2,q3,q4⟩:=hleft
    have q4:r= []:=q4
    subst q4
    intro hL
    have hrb:RB E b (.it (some mb) since (seen++[n]) ck) (.mapIter (some gm) since (seen.toArray.push e.born) ck):=⟨gm,hgm,by rw[q3];simp⟩
    obtain⟨s1,s2⟩:=hH.change (nx:=nx) (k:=.it (some mb) since (seen++[n]) ck) (hB b _ hbl) hg {w with heap:=w.heap.setIfInBounds g (.mapIter (some gm) since (seen.toArray.push e.born) ck)} rfl rfl (Tp.r rfl rfl) rfl hrb
    refine⟨.tuple #[.bool true,e.key,e.val],_,E,?_,?_,s1,hF,s2⟩
    ·have aj:∀o,(setObj g o).run P w= .ok () {w with heap:=w.heap.setIfInBounds g o}:=fun o=>by simp[setObj,Sem.run,e2]
     simp only[Instr.next,Sem.run_bind,hgi,Result.andThen_ok,gJ hl,if_neg hno]
     rw[hfil,hl1]
     have hlt:e.born<since:=by omega
     have hge:¬since≤e.born:=by omega
     simp[hlt,hge,choose,Sem.run,Question.forced,aj]
    ·show RV E (.c8 _) _
     simp only[RV]
     exact⟨_,rfl,aQ.aG.2 ⟨_,_,rfl,by simp only[RV],aQ.aG.2 ⟨_,_,rfl,q1,aQ.aG.2 ⟨_,_,rfl,q2,by simp[aQ]⟩⟩⟩⟩
theorem Da{x:V}{v:Value}{n:Nat}(hx:RV E x v)(h:FB x=some n):(Builtin.lenOf v).run P w= .ok n w∧∃a c,v= .slice a n c:=by
 unfold FB at h
 cases hse:x.rr with
 |
  true=>
  rw[hse] at h
  cases(show some 0=some n from h)
  have:=lg hse;subst this
  simp only[RV] at hx
  obtain⟨a,c,rfl⟩:=hx
  exact⟨rfl,_,_,rfl⟩
 |
  false=>
  rw[hse] at h
  rcases cP h with⟨b,o,n',c,rfl,h1⟩|⟨b,o,n',z,rfl,h1⟩|⟨rfl,h1⟩
  ·cases h1;simp only[RV] at hx;obtain⟨g,_,rfl⟩:=hx;exact⟨rfl,_,_,rfl⟩
  ·cases h1;simp only[RV] at hx;obtain⟨g,c,_,rfl,_⟩:=hx;exact⟨rfl,_,_,rfl⟩
  ·cases h1;simp only[RV] at hx;subst hx;exact⟨rfl,_,_,rfl⟩
theorem Db{hp:T ak}{hb:Id→Option ak}(hH:RH E hp w)(hB:∀b k,hb b=some k→get b hp=some k){x c:V}{v:Value}{m size:Nat}(hx:RV E x v)(h:FC hb (Nat.mul m size) x=some c):
 ∃cs:Array Value,(Builtin.firstCells size m v).run P w= .ok cs w∧aQ E c cs.toList∧c.bU=true:=by
 have row:∀(b:Id)(o g:Nat)(n cap:Nat),E.g b=some g→(bO (hb b) fun k=>k.cells fun l=>cA o (Nat.mul m size) l)=some c→
  ∃cs:Array Value,(Builtin.firstCells size m (.slice (some ⟨g,o,none⟩) n cap)).run P w= .ok cs w∧aQ E c cs.toList∧c.bU=true:=by
  intro b o g n cap hg h
  obtain⟨k,hk,h1⟩:=ab h
  obtain⟨l,e,hke,h2⟩:=bV h1
  obtain⟨g',ob,e1,e2,e3⟩:=hH.bL b k (hB b k hk)
  rw[hg] at e1;cases e1
  obtain⟨cs,fz,xs,ys,rfl,q1,q2,q3,q4,q5,_⟩:=RB.cells hke e3
  obtain⟨n1,n2,n3⟩:=hJ q2 h2
  have n1:o+m*size≤xs.length:=n1
  have hsz:o+m*size≤cs.size:=by
   have:=congrArg List.length q1
   simp at this;omega
  have he:(cs.toList.drop o).take (m*size)=(xs.drop o).take (m*size):=by
   rw[q1,List.drop_append_of_le_length (by omega),List.take_append_of_le_length (by simp;omega)]
  exact⟨_,fM e2 hsz,by simpa[he] using n2,n3 q3⟩
 unfold FC at h
 cases hse:x.rr with
 |
  true=>
  rw[hse] at h
  obtain⟨hz,h1⟩:=al (show bF (Nat.beq (Nat.mul m size) 0) (some V.nil)=some c from h)
  cases h1
  have hz:m*size=0:=bK hz
  have:=lg hse;subst this
  simp only[RV] at hx
  obtain⟨a,c,rfl⟩:=hx
  exact⟨#[],by simp[Builtin.firstCells,hz,loadCells,loadCellsFrom],by simp[aQ],rfl⟩
 |
  false=>
  rw[hse] at h
  rcases cP h with⟨b,o,n',c',rfl,h1⟩|⟨b,o,n',z,rfl,h1⟩|⟨rfl,h1⟩
  ·simp only[RV] at hx;obtain⟨g,hg,rfl⟩:=hx;exact row b o g _ _ hg h1
  ·simp only[RV] at hx;obtain⟨g,c',hg,rfl,_⟩:=hx;exact row b o g _ _ hg h1
  ·obtain⟨hz,h2⟩:=al h1
   cases h2
   simp only[RV] at hx;subst hx
   exact⟨#[],by simp[Builtin.firstCells],by simp[aQ],rfl⟩
theorem nN{L:Nat}{hp:T ak}{nx:Id}{hb:Id→Option ak}(hH:RH E hp w)(hF:bW L nx E)(hB:∀b k,hb b=some k→get b hp=some k){t t2 ty:TypeId}{x y:V}{vx vy:Value}(hx:RV E x vx)(hy:RV E y vy){ef:bM}(h:nI P hb t x y=some ef):
 pM P L hp nx E w ef (Builtin.copy_ #[t,t2] ty #[vx,vy]):=by
 obtain⟨d,hd,h1⟩:=ab h
 cases d with
 |
  slice e=>
  obtain⟨i,hi,h2⟩:=ab h1
  obtain⟨n,hn,h3⟩:=ab h2
  obtain⟨hlen,_⟩:=Da (P:=P) (w:=w) hy hn
  have done:∀(b:Id)(o l cap g:Nat),E.g b=some g→mB hb i.size n y b o l=some ef→pM P L hp nx E w ef (Builtin.copy_ #[t,t2] ty #[.slice (some ⟨g,o,none⟩) l cap,vy]):=by
   intro b o l cap g hg h4
   unfold mB at h4
   rw[cF] at h4
   obtain⟨m,hm⟩:∃m,m=@Bool.rec (fun _=>Nat) l n (Nat.ble n l):=⟨_,rfl⟩
   rw[←hm] at h4
   have hmin:Nat.min n l=m:=by
    rw[hm,uD]
    by_cases hc:n≤l
    ·simp[hc]
    ·simp[hc,Nat.min_def]
   obtain⟨k,hk,h5⟩:=ab h4
   obtain⟨ol,e',hke,h6⟩:=bV h5
   obtain⟨c,hc,h7⟩:=ab h6
   obtain⟨l',hl',h8⟩:=ab h7
   cases h8
   obtain⟨src,s1,s2,s3⟩:=Db (P:=P) (w:=w) hH hB hy hc
   obtain⟨g',ob,e1,e2,e3⟩:=hH.bL b k (hB b k hk)
   rw[hg] at e1;cases e1
   obtain⟨cs,fz,xs,ys,rfl,q1,q2,q3,q4,q5,q6⟩:=RB.cells hke e3
   obtain⟨n1,n2,n3⟩:=nA s2 q2 hl'
   have hsz:xs.length+ys.length=cs.size:=by have:=congrArg List.length q1;simp at this;omega
   obtain⟨cs',r1,r2⟩:=hM (P:=P) (o:=o) (i:=0) e2 (vs:=src.toList) (by omega) q4 (s2.nC s3)
   have hlen':cs'.size=cs.size:=by
    have:=congrArg List.length r2
    simp at this n1;omega
   have hcs:cs'.toList=(xs.take o++src.toList++xs.drop (o+src.toList.length))++ys:=by
    rw[r2,q1]
    simp only[Nat.add_zero]
    rw[List.take_append_of_le_length (by omega),List.drop_append_of_le_length (by omega)]
    simp
   have hrb:RB E b (k.bC l') (.cells cs' e' fz):=by
    rcases hke with rfl|rfl
    ·have:=q6 rfl;subst this
     rw[List.append_nil] at hcs
     exact⟨cs',fz,rfl,by rw[hcs];exact n2,n3 s3 q3,by rw[hlen'];exact q4,by rw[q5,hlen']⟩
    ·exact⟨cs',fz,_,ys,rfl,hcs,n2,n3 s3 q3,by rw[hlen'];exact q4,by rw[q5,hlen']⟩
   intro hL
   obtain⟨t1,t2⟩:=hH.change (nx:=nx) (k:=k.bC l') (hB b k hk) hg (w.bC g (.cells cs' e' fz)) rfl rfl (Tp.r rfl rfl) rfl hrb
   refine⟨goInt m,_,E,?_,by show RV E (.i .i64 (.ofNat m)) _;simp only[RV];rfl,t1,hF,t2⟩
   simp[Builtin.copy_,aw hd,hlen,aY hi,hmin,s1,r1]
  rcases cP h3 with⟨b,o,l,c,rfl,h4⟩|⟨b,o,l,z,rfl,h4⟩|⟨_,h4⟩
  ·simp only[RV] at hx;obtain⟨g,hg,rfl⟩:=hx;exact done b o l c g hg h4
  ·simp only[RV] at hx;obtain⟨g,c,hg,rfl,_⟩:=hx;exact done b o l c g hg h4
  ·cases h4
 |_=>cases h1
end
end Go.Cm
namespace Go.Cm
def GL(gl:List V)(hp:T ak)(E:Env)(w:World):Prop:=
 ∀g x,eD gl g=some x→¬Own hp E g∧∃l cs e fz,x= .agg l∧w.heap[g]? =some (.cells cs e fz)∧(∃xs ys,cs.toList=xs++ys∧∀E,aQ E l xs)∧l.bU=true
theorem GL.step{gl:List V}{hp hp':T ak}{nx nx':Id}{E E':Env}{w w':World}(h:GL gl hp E w)(x:Ex hp nx E w hp' nx' E' w'):GL gl hp' E' w':=by
 intro g y hy
 obtain⟨h1,l,cs,e,fz,h2,h3,h4⟩:=h g y hy
 have hlt:g<w.heap.size:=(Array.getElem?_eq_some_iff.1 h3).1
 refine⟨fun ho=>?_,l,cs,e,fz,h2,?_,h4⟩
 ·rcases x.own g ho with h|h
  ·exact h1 h
  ·omega
 ·rw[x.kept g hlt h1];exact h3
def rF(P:Program)(L:Nat)(hp:T ak)(nx:Id)(E:Env)(w:World)(e:bM)(s:Sem Next):Prop:=
 num (e.nx nx)≤L→∃n v w' E',s.run P w= .ok n w'∧(n= .value v∨(n= .skip∧v=undef))∧RV E' e.val v∧RH E' (e.hp nx hp) w'∧bW L (e.nx nx) E'∧Ex hp nx E w (e.hp nx hp) (e.nx nx) E' w'
section
variable{P:Program} {E:Env} {w:World} {L:Nat} {hp:T ak} {nx:Id}
theorem pM.n{e:bM}{s:Sem Value}(h:pM P L hp nx E w e s):rF P L hp nx E w e (do pure (.value (←s))):=by
 intro hL
 obtain⟨v,w',E',h1,h2⟩:=h hL
 exact⟨.value v,v,w',E',by simp[h1],Or.inl rfl,h2⟩
theorem IL.n{e:bM}{s:Sem Unit}(h:IL P L hp nx E w e s):rF P L hp nx E w e (do s;pure .skip):=by
 intro hL
 obtain⟨w',E',h1,h2⟩:=h hL
 exact⟨.skip,undef,w',E',by simp[h1],Or.inr ⟨rfl,rfl⟩,h2⟩
theorem rF.same(hH:RH E hp w)(hF:bW L nx E){x:V}{s:Sem Next}{v:Value}(h1:s.run P w= .ok (.value v) w)(h2:RV E x v):rF P L hp nx E w (.v x) s:=
 fun _=>⟨.value v,v,w,E,h1,Or.inl rfl,h2,hH,hF,Ex.refl _ _ _ _⟩
theorem ir{x:Option V}{e:bM}(h:vE x=some e):∃v,x=some v∧e= .v v:=by
 obtain⟨v,h1,h2⟩:=ab h
 cases h2
 exact⟨v,h1,rfl⟩
theorem yx{gl:List V}{tm:T V}{a:Act}{hb:Id→Option ak}(hT:RT E tm a.tmps)(hH:RH E hp w)(hF:bW L nx E)(hB:∀b k,hb b=some k→get b hp=some k)(hG:GL gl hp E w){o:Oper}{f:C5}(hf:lS P gl o.op= .mk f){e:bM}(h:f tm hb nx=some e):
 rF P L hp nx E w e (execOp a.eval o):=by
 have val:∀{r:Option V}{s:Sem Value},vE r=some e→(∀x,r=some x→∃v,s.run P w= .ok v w∧RV E x v)→rF P L hp nx E w e (do pure (.value (←s))):=by
  intro r s h1 h2
  obtain⟨x,h3,rfl⟩:=ir h1
  obtain⟨v,h4,h5⟩:=h2 x h3
  exact(pM.same hH hF h4 h5).n
 cases hop:o.op<;>simp only[lS,hop] at hf
 case move x=>
  cases hf
  obtain⟨y,h1,rfl⟩:=ir h
  exact rF.same hH hF (by simp[execOp,hop]) (aT hT h1)
 case assign x=>
  cases hf
  obtain⟨y,h1,rfl⟩:=ir h
  exact rF.same hH hF (by simp[execOp,hop]) (aT hT h1)
 case pick c x y=>
  cases hf
  obtain⟨cv,h1,h2⟩:=ab h
  obtain⟨b,rfl,h3⟩:=cT h2
  have hc:=aT hT h1
  simp only[RV] at hc
  cases b with
  |
   true=>
   obtain⟨z,h4,rfl⟩:=ir (show vE (fy tm x)=some e from h3)
   exact rF.same hH hF (v:=a.eval x) (by simp[execOp,hop,asBool,hc]) (aT hT h4)
  |
   false=>
   obtain⟨z,h4,rfl⟩:=ir (show vE (fy tm y)=some e from h3)
   exact rF.same hH hF (v:=a.eval y) (by simp[execOp,hop,asBool,hc]) (aT hT h4)
 case alloc t=>
  cases hf
  have:=(yc (P:=P) hH hF h (.tuple #[])).n
  simpa only[execOp,hop] using this
 case box t x=>
  cases hf
  obtain⟨y,h1,h2⟩:=ab h
  have:=(CI (P:=P) hH hF (aT hT h1) h2).n
  simpa only[execOp,hop] using this
 case build t ps=>
  cases hf
  obtain⟨y,h1,h2⟩:=ab h
  have hps:=th hT h1
  have:=val h2 (fun x hx=>yd (P:=P) (w:=w) (vs:=ps.map fun(i,x)=>(i,a.eval x)) (by simpa using hps) hx)
  simpa only[execOp,hop] using this
 case buildSlice t n ps=>
  cases hf
  obtain⟨y,h1,h2⟩:=ab h
  have hps:=th hT h1
  have:=(pa (P:=P) (vs:=ps.map fun(i,x)=>(i,a.eval x)) hH hF (by simpa using hps) h2).n
  simpa only[execOp,hop] using this
 case load t x=>
  cases x with
  |
   global g=>
   cases hf
   obtain⟨y,h1,h2⟩:=ab h
   obtain⟨l,rfl,h3⟩:=eJ h2
   obtain⟨d,hd,h4⟩:=ab h3
   obtain⟨hag,h5⟩:=al h4
   obtain⟨i,hi,h6⟩:=ab h5
   obtain⟨hsz,h7⟩:=al h6
   cases h7
   obtain⟨_,l',cs,e,fz,q1,q2,⟨xs,ys,q5,q3⟩,q4⟩:=hG g _ h1
   cases q1
   have hcs:xs.length=i.size:=by have:=(q3 E).len;rw[bK hsz] at this;exact this.symm
   have hle:i.size≤cs.size:=by
    have:=congrArg List.length q5
    simp at this;omega
   refine rF.same hH hF (v:=.agg xs.toArray) ?_ (by simp only[RV];exact⟨xs.toArray,rfl,by simpa using q3 E,q4⟩)
   have hl:=fM (P:=P) (w:=w) (o:=0) (n:=i.size) q2 (by omega)
   have hcut:((cs.toList.drop 0).take i.size).toArray=xs.toArray:=by
    rw[q5,←hcs];simp
   rw[hcut] at hl
   simp[execOp,hop,Act.eval,Instr.loadAt,Instr.sureAddr,loadVar,eZ hd,hag,aY hi,hl]
  |
   _=>
   cases hf
   obtain⟨y,h1,h2⟩:=ab h
   have:=val h2 (fun x hx=>gG (P:=P) (w:=w) hH hB (aT hT h1) hx)
   simpa only[execOp,hop] using this
 case store t x y=>
  cases hf
  obtain⟨p,h1,h2⟩:=ab h
  obtain⟨v,h3,h4⟩:=ab h2
  obtain⟨r,h5,h6⟩:=ab h4
  cases h6
  have hU:IL P L hp nx E w (.ch .un r.1 r.2) (Instr.storeAt t (a.eval x) (a.eval y)):=by
   intro hL
   obtain⟨w',s1,s2,s3⟩:=yb (P:=P) (nx:=nx) hH hB (aT hT h1) (aT hT h3) (b:=r.1) (k':=r.2) h5
   exact⟨w',E,s1,by simp[bM.val,RV],s2,hF,s3⟩
  have:=hU.n
  simpa only[execOp,hop] using this
 case nilCheck x=>
  cases hf
  obtain⟨y,h1,h2⟩:=ab h
  obtain⟨z,h3,rfl⟩:=ir h2
  obtain⟨q1,q2⟩:=rE (P:=P) (w:=w) hop rfl (aT hT h1) h3
  subst q2
  exact rF.same hH hF q1 (aT hT h1)
 case binOp op t x y ty=>
  cases hf
  obtain⟨u,h1,h2⟩:=ab h
  obtain⟨v,h3,h4⟩:=ab h2
  obtain⟨z,h5,rfl⟩:=ir h4
  have hc:@Bool.rec (fun _=>Bool) (zH y) true (zH x)=true→zH x=true∨zH y=true:=by
   intro hh
   cases hx:zH x with
   |true=>exact Or.inl rfl
   |false=>rw[hx] at hh;exact Or.inr hh
  obtain⟨g1,r,g2,g3⟩:=pE (P:=P) (w:=w) (ox:=x) (oy:=y) hc (aT hT h1) (aT hT h3) h5
  exact rF.same hH hF (v:=r) (by simp[execOp,hop,g1,g2]) g3
 case unOp op t x=>
  cases hf
  obtain⟨u,h1,h2⟩:=ab h
  have:=val h2 (fun z hz=>tk (P:=P) (w:=w) (aT hT h1) hz)
  simpa only[execOp,hop] using this
 case convert s d x=>
  cases hf
  obtain⟨u,h1,h2⟩:=ab h
  have:=(nM (P:=P) hH hF hB (aT hT h1) h2).n
  simpa only[execOp,hop] using this
 case makeInterface t x=>
  cases hf
  obtain⟨u,h1,h2⟩:=ab h
  have:=val h2 (fun z hz=>⟨_,xc (P:=P) (w:=w) (aT hT h1) hz⟩)
  simpa only[execOp,hop] using this
 case makeFunc fn fs cs=>
  cases fn with
  |
   func g=>
   cases hf
   obtain⟨u,h1,h2⟩:=ab h
   obtain⟨v,h3,h4⟩:=ab h2
   cases h4
   refine rF.same hH hF (v:=.func (.func g) (fs.map a.eval) (cs.map a.eval)) (by simp[execOp,hop,Instr.makeFunc]) ?_
   simp only[RV]
   exact⟨_,_,rfl,by simpa using eE hT h1,by simpa using eE hT h3⟩
  |_=>cases hf;cases h
 case makeMap t r=>
  cases hf
  obtain⟨u,h1,h2⟩:=ab h
  have:=(xe (P:=P) hH hF (tj hT h1) h2).n
  simpa only[execOp,hop] using this
 case makeSlice t l c=>
  cases hf
  obtain⟨u,h1,h2⟩:=ab h
  obtain⟨v,h3,h4⟩:=ab h2
  have:=(tx (P:=P) hH hF (aT hT h1) (aT hT h3) h4).n
  simpa only[execOp,hop] using this
 case slice t x lo hi mx=>
  cases mx with
  |
   none=>
   cases hf
   obtain⟨u,h1,h2⟩:=ab h
   obtain⟨v,h3,h4⟩:=ab h2
   obtain⟨z,h5,h6⟩:=ab h4
   have:=val h6 (fun y hy=>lP (P:=P) (w:=w) (aT hT h1) (tj hT h3) (tj hT h5) hy)
   simpa only[execOp,hop,Option.map_none] using this
  |some m=>cases hf;cases h
 case fieldAddr t x i=>
  cases hf
  obtain⟨u,h1,h2⟩:=ab h
  have:=val h2 (fun z hz=>gO (P:=P) (w:=w) (aT hT h1) hz)
  simpa only[execOp,hop] using this
 case field t x i=>
  cases hf
  obtain⟨u,h1,h2⟩:=ab h
  have:=val h2 (fun z hz=>ye (P:=P) (w:=w) (aT hT h1) hz)
  simpa only[execOp,hop] using this
 case indexAddr t x i=>
  cases hf
  obtain⟨u,h1,h2⟩:=ab h
  obtain⟨v,h3,h4⟩:=ab h2
  have:=val h4 (fun z hz=>gP (P:=P) (w:=w) (aT hT h1) (aT hT h3) hz)
  simpa only[execOp,hop] using this
 case index t x i=>
  cases hf
  obtain⟨u,h1,h2⟩:=ab h
  obtain⟨v,h3,h4⟩:=ab h2
  have:=val h4 (fun z hz=>mf (P:=P) (w:=w) (aT hT h1) (aT hT h3) hz)
  simpa only[execOp,hop] using this
 case lookup t x i ok=>
  cases hf
  obtain⟨u,h1,h2⟩:=ab h
  obtain⟨v,h3,h4⟩:=ab h2
  have:=val h4 (fun z hz=>kc (P:=P) (w:=w) hH hB (aT hT h1) (aT hT h3) hz)
  simpa only[execOp,hop] using this
 case mapUpdate t m k x=>
  cases hf
  obtain⟨u,h1,h2⟩:=ab h
  obtain⟨v,h3,h4⟩:=ab h2
  obtain⟨z,h5,h6⟩:=ab h4
  have:=(oC (P:=P) hH hF hB (aT hT h1) (aT hT h3) (aT hT h5) h6).n
  simpa only[execOp,hop] using this
 case insert t m k x=>
  cases hf
  obtain⟨u,h1,h2⟩:=ab h
  obtain⟨v,h3,h4⟩:=ab h2
  obtain⟨z,h5,h6⟩:=ab h4
  have:=(oC (P:=P) hH hF hB (aT hT h1) (aT hT h3) (aT hT h5) h6).n
  simpa only[execOp,hop] using this
 case range t x=>
  cases hf
  obtain⟨u,h1,h2⟩:=ab h
  have:=(xf (P:=P) hH hF hB (aT hT h1) h2).n
  simpa only[execOp,hop] using this
 case next x s=>
  cases hf
  obtain⟨u,h1,h2⟩:=ab h
  have:=(zP (P:=P) (ty:=o.type) hH hF hB (aT hT h1) h2).n
  simpa only[execOp,hop] using this
 case typeAssert x xt t ok=>
  cases hf
  obtain⟨u,h1,h2⟩:=ab h
  have:=val h2 (fun z hz=>uV (P:=P) (w:=w) (xt:=xt) (aT hT h1) hz)
  simpa only[execOp,hop] using this
 case extract x i=>
  cases hf
  obtain⟨u,h1,h2⟩:=ab h
  have:=val h2 (fun z hz=>tp (P:=P) (w:=w) (aT hT h1) hz)
  simpa only[execOp,hop] using this
 all_goals(cases hf;cases h)
end
end Go.Cm
namespace Go.Cm
section
variable{P:Program} {E:Env} {w:World} {L:Nat} {hp:T ak} {nx:Id}
theorem iV{α:Type}{l:V}{f:V→V→Option α}{y:α}(h:zK l f=some y):∃a r,l= .cons a r∧f a r=some y:=bQ h
theorem Hh{α:Type}{l:List α}{a b:α}(h0:eD l 0=some a)(h1:eD l 1=some b):l[0]? =some a∧l[1]? =some b:=by
 rw[dZ] at h0 h1;exact⟨h0,h1⟩
theorem mF{hb:Id→Option ak}(hH:RH E hp w)(hF:bW L nx E)(hB:∀b k,hb b=some k→get b hp=some k){b:Builtin}{ts:Array TypeId}{ty:TypeId}{cs:Array Bool}{x:V}{vs:Array Value}(hx:aQ E x vs.toList){e:bM}(h:fE P hb nx b ts.toList x=some e):
 rF P L hp nx E w e (builtin b ts ty cs vs):=by
 have val:∀{r:Option V}{s:Sem Value},vE r=some e→(∀x,r=some x→∃v,s.run P w= .ok v w∧RV E x v)→rF P L hp nx E w e (do pure (.value (←s))):=by
  intro r s h1 h2
  obtain⟨x,h3,rfl⟩:=ir h1
  obtain⟨v,h4,h5⟩:=h2 x h3
  exact(pM.same hH hF h4 h5).n
 obtain⟨vs⟩:=vs
 obtain⟨ts⟩:=ts
 simp only at hx h
 cases b<;>simp only[fE] at h<;>first|(cases h;done)|skip
 ·
  obtain⟨s,r,rfl,h1⟩:=iV h
  obtain⟨y,r',rfl,h2⟩:=iV h1
  obtain⟨t,ht,h3⟩:=ab h2
  obtain⟨t2,ht2,h4⟩:=ab h3
  obtain⟨q1,q2⟩:=Hh ht ht2
  obtain⟨v,vr,rfl,v1,v2⟩:=aQ.aG.1 hx
  obtain⟨u,ur,rfl,u1,u2⟩:=aQ.aG.1 v2
  have:=(ka (P:=P) (ty:=ty) hH hF hB v1 u1 h4).n
  have he:Builtin.append_ ⟨ts⟩ ty ⟨v::u::ur⟩=Builtin.append_ #[t,t2] ty #[v,u]:=by
   unfold Builtin.append_
   simp[q1,q2]
  show rF P L hp nx E w e (do pure (.value (←Builtin.append_ ⟨ts⟩ ty ⟨v::u::ur⟩)))
  rw[he];exact this
 ·
  obtain⟨s,r,rfl,h1⟩:=iV h
  obtain⟨y,r',rfl,h2⟩:=iV h1
  obtain⟨t,ht,h3⟩:=ab h2
  rw[dZ] at ht
  obtain⟨v,vr,rfl,v1,v2⟩:=aQ.aG.1 hx
  obtain⟨u,ur,rfl,u1,u2⟩:=aQ.aG.1 v2
  have:=(nN (P:=P) (ty:=ty) (t2:=t) hH hF hB v1 u1 h3).n
  have he:Builtin.copy_ ⟨ts⟩ ty ⟨v::u::ur⟩=Builtin.copy_ #[t,t] ty #[v,u]:=by
   unfold Builtin.copy_
   simp[ht]
  show rF P L hp nx E w e (do pure (.value (←Builtin.copy_ ⟨ts⟩ ty ⟨v::u::ur⟩)))
  rw[he];exact this
 ·
  obtain⟨s,r,rfl,h1⟩:=iV h
  obtain⟨t,ht,h2⟩:=ab h1
  rw[dZ] at ht
  obtain⟨v,vr,rfl,v1,v2⟩:=aQ.aG.1 hx
  have:=val h2 (fun z hz=>pD (P:=P) (w:=w) (ty:=ty) hH hB v1 hz)
  have he:Builtin.len_ ⟨ts⟩ ty ⟨v::vr⟩=Builtin.len_ #[t] ty #[v]:=by
   unfold Builtin.len_
   simp[ht]
  show rF P L hp nx E w e (do pure (.value (←Builtin.len_ ⟨ts⟩ ty ⟨v::vr⟩)))
  rw[he];exact this
 ·
  exact val h (fun z hz=>pJ (P:=P) (w:=w) hx hz)
 ·
  exact val h (fun z hz=>pK (P:=P) (w:=w) hx hz)
theorem A8{tm:T V}{a:Array Value}(h:RT E tm a){t:Nat}{x:V}{v:Value}(hx:RV E x v)(ht:t<a.size):RT E (put (some x) (aN t) tm) (a.setIfInBounds t v):=by
 intro p y hp
 rw[cz] at hp
 split at hp
 ·rename_i e;subst e;cases hp
  exact⟨v,by rw[cO];simp[ht],hx⟩
 ·rename_i hne
  obtain⟨u,h1,h2⟩:=h p y hp
  refine⟨u,?_,h2⟩
  rw[Array.getElem?_setIfInBounds,if_neg (fun e=>hne (ny (by rw[cO];exact e.symm)))]
  exact h1
theorem Dc{tm:T V}{a:Array Value}(h:RT E tm a){t:Nat}{v:Value}:RT E (put none (aN t) tm) (a.setIfInBounds t v):=by
 intro p y hp
 rw[cz] at hp
 split at hp
 ·cases hp
 ·rename_i hne
  obtain⟨u,h1,h2⟩:=h p y hp
  refine⟨u,?_,h2⟩
  rw[Array.getElem?_setIfInBounds,if_neg (fun e=>hne (ny (by rw[cO];exact e.symm)))]
  exact h1
noncomputable def AA(d:Option Tmp)(v:Option V)(tm:T V):T V:=@Option.rec Tmp (fun _=>T V) tm (fun t=>put v (aN t) tm) d
theorem eF{β:Type}(d:Option Tmp)(v:Option V)(tm:T V)(k:T V→β):gz d v tm k=k (AA d v tm):=by
 cases d with
 |none=>rfl
 |some t=>exact cj v (aN t) tm k
def Ky(d:Option Tmp)(n:Nat):Prop:=∀t,d=some t→t<n
theorem tz{tm:T V}{a:Act}(h:RT E tm a.tmps){d:Option Tmp}{x:V}{v:Value}(hx:RV E x v)(hd:Ky d a.tmps.size):RT E (AA d (some x) tm) (a.put d v).tmps:=by
 cases d with
 |none=>exact h
 |some t=>exact A8 h hx (hd t rfl)
theorem u9{tm:T V}{a:Act}(h:RT E tm a.tmps){d:Option Tmp}{v:Value}:RT E (AA d none tm) (a.put d v).tmps:=by
 cases d with
 |none=>exact h
 |some t=>exact Dc h
theorem kS{e:bM}{d:Option Tmp}{tm:T V}{df:V}{k:iG}{R:Rs}(h:nJ e d tm hp nx df k=some R):k (AA d (some e.val) tm) (e.hp nx hp) (e.nx nx) df=some R:=by
 cases e with
 |v x=>rw[show nJ (.v x) d tm hp nx df k=gz d (some x) tm fun tm=>k tm hp nx df from rfl,eF] at h;exact h
 |
  nw x b=>
  rw[show nJ (.nw x b) d tm hp nx df k=gz d (some x) tm fun tm=>dD (some b) nx hp fun hp=>AN (lO nx) fun nx=>k tm hp nx df from rfl,eF,cj,lQ] at h
  exact h
 |
  ch x b bl=>
  rw[show nJ (.ch x b bl) d tm hp nx df k=gz d (some x) tm fun tm=>dD (some bl) b hp fun hp=>k tm hp nx df from rfl,eF,cj] at h
  exact h
 |
  mv x b bl=>
  rw[show nJ (.mv x b bl) d tm hp nx df k=gz d (some x) tm fun tm=>dD none b hp fun hp=>dD (some bl) nx hp fun hp=>AN (lO nx) fun nx=>k tm hp nx df from rfl,eF,cj,cj,lQ] at h
  exact h
end
end Go.Cm
namespace Go.Cm
abbrev Fr(r:Option Nat):Fence:={fn:=fun _=>True,depth:=none,alive:=false,round:=r}
structure Ok(gl:List V)(L sz:Nat)(tm:T V)(hp:T ak)(nx:Id)(E:Env)(a:Act)(w:World):Prop where
 vt:RT E tm a.tmps
 vs:sz≤a.tmps.size
 vh:RH E hp w
 vf:bW L nx E
 vg:GL gl hp E w
def RF(r:Option Nat)(E:Env)(df:V)(ds:List Deferred):Prop:=
 (r=none∧RD E df ds)∨∃b l,df= .yl b∧r=some l∧E.g b=some l∧ds= []
theorem RF.mono{r:Option Nat}{E E':Env}(h:E.le E'){df:V}{ds:List Deferred}(k:RF r E df ds):RF r E' df ds:=by
 rcases k with⟨h1,h2⟩|⟨b,l,h1,h2,h3,h4⟩
 ·exact Or.inl ⟨h1,h2.mono h⟩
 ·exact Or.inr ⟨b,l,h1,h2,(h b l h3).1,h4⟩
def pN:Xt→Exit
 | .iF=>.normal
 | .ext i=>.exit i
 | .ret=>.ret
def ep(P:Program)(gl:List V)(c:Code)(sz:Nat)(tm:T V)(hp:T ak)(nx:Id)(df:V)(x:Xt)(tm':T V)(hp':T ak)(nx':Id)(df':V):Prop:=
 num nx≤num nx'∧∀(r:Option Nat)(L:Nat)(E:Env)(a:Act)(w:World),num nx'≤L→Ok gl L sz tm hp nx E a w→RF r E df a.defers→∀Q:Exit→Act→World→Prop,
  (∀E' a' w',Ok gl L sz tm' hp' nx' E' a' w'→RF r E' df' a'.defers→Ex hp nx E w hp' nx' E' w'→Q (pN x) a' w')→c.wpIn (Fr r) 0 P Q a w
def rG(P:Program)(gl:List V)(ex:dx):Prop:=
 ∀c fid sz tm hp nx df x tm' hp' nx' df',ex c fid sz tm hp nx df=some (.mk x tm' hp' nx' df')→ep P gl c sz tm hp nx df x tm' hp' nx' df'
def js(P:Program)(gl:List V)(o:Oper)(sz:Nat)(tm:T V)(hp:T ak)(nx:Id)(df:V)(tm':T V)(hp':T ak)(nx':Id)(df':V):Prop:=
 num nx≤num nx'∧∀(r:Option Nat)(L:Nat)(E:Env)(a:Act)(w:World),num nx'≤L→Ok gl L sz tm hp nx E a w→RF r E df a.defers→∀(K:Act→World→Prop)(Q:Exit→Act→World→Prop),
  (∀E' a' w',Ok gl L sz tm' hp' nx' E' a' w'→RF r E' df' a'.defers→Ex hp nx E w hp' nx' E' w'→K a' w')→o.wpIn (Fr r) 0 P a w K Q
section
variable{P:Program} {gl:List V}
theorem tA(e:bM)(nx:Id):num nx≤num (e.nx nx):=by
 cases e<;>simp only[bM.nx]<;>first|exact Nat.le_refl _|(rw[cG];omega)
theorem fX(a:Act)(d:Option Tmp)(v:Value):(a.put d v).tmps.size=a.tmps.size:=by
 cases d<;>simp[Act.put]
theorem put_defers(a:Act)(d:Option Tmp)(v:Value):(a.put d v).defers=a.defers:=by
 cases d<;>simp[Act.put]
theorem yz{sz:Nat}{d:Option Tmp}(h:lT sz d=true){n:Nat}(hn:sz≤n):Ky d n:=by
 intro t ht
 subst ht
 have:Nat.succ t≤sz:=Nat.le_of_ble_eq_true h
 exact Nat.lt_of_lt_of_le this hn
theorem Ok.Kz{L sz:Nat}{tm:T V}{hp hp':T ak}{nx nx':Id}{E E':Env}{a:Act}{w w':World}(h:Ok gl L sz tm hp nx E a w)(hL:num nx'≤L){d:Option Tmp}(hd:lT sz d=true){x:V}{v:Value}(hx:RV E' x v)(hH:RH E' hp' w')(hF:bW L nx' E')(hX:Ex hp nx E w hp' nx' E' w'):
 Ok gl L sz (AA d (some x) tm) hp' nx' E' (a.put d v) w':=
 ⟨tz (h.vt.mono (hX.le h.vf hL)) hx (yz hd h.vs),by rw[fX];exact h.vs,hH,hF,h.vg.step hX⟩
theorem pO{op:Op}{f:C5}(h:di P gl op= .op f):lS P gl op= .mk f∧(∀c,op≠.defer c)∧∀c,op≠.call c:=by
 cases op<;>simp only[di] at h
 case call c=>split at h<;>cases h
 case defer c=>split at h<;>cases h
 all_goals
  refine⟨?_,(by intro c hc;cases hc),(by intro c hc;cases hc)⟩
  cases hs:lS P gl _ with
  |mk g=>rw[hs] at h;cases h;rfl
theorem EY{o:Oper}{sz:Nat}{tm:T V}{hp:T ak}{nx:Id}{df:V}{e:bM}(hnd:∀c,o.op≠.defer c)(hd:lT sz o.dst=true)
 (h:∀L E a w,num (e.nx nx)≤L→Ok gl L sz tm hp nx E a w→rF P L hp nx E w e (execOp a.eval o)):js P gl o sz tm hp nx df (AA o.dst (some e.val) tm) (e.hp nx hp) (e.nx nx) df:=by
 refine⟨tA e nx,?_⟩
 intro r L E a w hL hok hrf K Q hK
 obtain⟨n,v,w',E',h1,h2,h3,h4,h5,h6⟩:=h L E a w hL hok hL
 unfold Oper.wpIn
 refine⟨fun _ _=>trivial,?_⟩
 rw[Oper.semAt_eq _ _ _ hnd,h1]
 have hle:=h6.le hok.vf hL
 have fin:=hK E' (a.put o.dst v) w' (hok.Kz hL hd h3 h4 h5 h6) (by rw[put_defers];exact hrf.mono hle) h6
 rcases h2 with h2|⟨h2,h2'⟩
 ·subst h2;exact fin
 ·subst h2;subst h2';exact fin
theorem FL{o:Oper}{sz:Nat}{tm:T V}{hp:T ak}{nx:Id}{df:V}{k:iG}{f:C5}{R:Rs}(hc:di P gl o.op= .op f)(hd:lT sz o.dst=true)(h:Kw o.dst tm hp nx df k f=some R):
 ∃tm' hp' nx' df',k tm' hp' nx' df'=some R∧js P gl o sz tm hp nx df tm' hp' nx' df':=by
 obtain⟨e,h1,h2⟩:=ab h
 obtain⟨c1,c2,c3⟩:=pO hc
 refine⟨_,_,_,_,kS h2,EY c2 hd ?_⟩
 intro L E a w hL hok
 exact yx hok.vt hok.vh hok.vf (fun _ _ hb=>hb) hok.vg c1 h1
theorem sc{op:Op}{b:Builtin}{args:List Operand}{ts:List TypeId}(h:di P gl op= .blt b args ts):∃c,op= .call c∧c.callee= .builtin b∧c.args.toList=args∧c.argTypes.toList=ts:=by
 cases op<;>simp only[di] at h
 case call c=>
  split at h
  ·rename_i b' hb';cases h;exact⟨c,rfl,hb',rfl,rfl⟩
  ·cases h
  ·cases h
 case defer c=>split at h<;>cases h
 all_goals(cases hs:lS P gl _ with|mk g=>rw[hs] at h;cases h)
theorem Dd{o:Oper}{sz:Nat}{tm:T V}{hp:T ak}{nx:Id}{df:V}{k:iG}{b:Builtin}{args:List Operand}{ts:List TypeId}{R:Rs}(hc:di P gl o.op= .blt b args ts)(hd:lT sz o.dst=true)(h:G2 P o.dst tm hp nx df k b args ts=some R):
 ∃tm' hp' nx' df',k tm' hp' nx' df'=some R∧js P gl o sz tm hp nx df tm' hp' nx' df':=by
 obtain⟨x,h1,h2⟩:=ab h
 obtain⟨e,h3,h4⟩:=ab h2
 obtain⟨c,c1,c2,c3,c4⟩:=sc hc
 subst c3;subst c4
 refine⟨_,_,_,_,kS h4,EY (by rw[c1];intro c hc;cases hc) hd ?_⟩
 intro L E a w hL hok
 have hx:=eE hok.vt h1
 have:=mF (P:=P) (ty:=o.type) (cs:=c.args.map fun| .const _=>true|_=>false) (vs:=c.args.map a.eval) hok.vh hok.vf (fun _ _ hb=>hb) (by simpa using hx) h3
 intro hL'
 obtain⟨n,v,w',E',g1,g2⟩:=this hL'
 refine⟨n,v,w',E',?_,g2⟩
 simp only[execOp,c1,resolve,c2,Sem.run_bind,Sem.run_pure,Result.andThen_ok,invoke]
 exact g1
theorem tB{ops:Array Oper}{tm:T V}{E:Env}{a:Act}(hT:RT E tm a.tmps){o:Oper}{b:Bool}(h:want ops.toList tm o.guard=some b):Region.wanted o (yielded ops a.tmps)=b:=by
 unfold Region.wanted
 cases hg:o.guard with
 |none=>rw[hg] at h;cases(show some true=some b from h);rfl
 |
  some p=>
  rw[hg] at h
  obtain⟨o',h1,h2⟩:=ab (show(bO (eD ops.toList p.1) fun o=>bO o.dst fun d=>bO (get (aN d) tm) fun v=>v.bool fun b=>some (@Bool.rec (fun _=>Bool) (dr p.2) p.2 b))=some b from h)
  obtain⟨d,h3,h4⟩:=ab h2
  obtain⟨v,h5,h6⟩:=ab h4
  obtain⟨c,rfl,h7⟩:=cT h6
  obtain⟨u,u1,u2⟩:=hT _ _ h5
  rw[cO] at u1
  simp only[RV] at u2
  subst u2
  rw[dZ] at h1
  have hy:yielded ops a.tmps p.1=some c:=by
   have:ops[p.1]? =some o':=by simpa using h1
   simp[yielded,this,h3,u1]
  obtain⟨j,want⟩:=p
  simp only at hy h7 ⊢
  rw[hy]
  cases h7
  cases c<;>cases want<;>rfl
theorem tD{hf:Hk}{ih:dx}{sz:Nat}{ops:Array Oper}(hop:∀o tm hp nx df k R,lT sz o.dst=true→G6 P gl hf ih o tm hp nx df k=some R→∃tm' hp' nx' df',k tm' hp' nx' df'=some R∧js P gl o sz tm hp nx df tm' hp' nx' df'):
 ∀(l:List Oper)(i:Nat),ops.toList.drop i=l→∀tm hp nx df x tm' hp' nx' df',zL P gl hf ih sz ops.toList l tm hp nx df=some (.mk x tm' hp' nx' df')→x= .iF∧num nx≤num nx'∧
  ∀(r:Option Nat)(L:Nat)(E:Env)(a:Act)(w:World),num nx'≤L→Ok gl L sz tm hp nx E a w→RF r E df a.defers→∀Q:Exit→Act→World→Prop,
   (∀E' a' w',Ok gl L sz tm' hp' nx' E' a' w'→RF r E' df' a'.defers→Ex hp nx E w hp' nx' E' w'→Q .normal a' w')→wpOpsIn (Fr r) 0 P ops Q ((List.range l.length).map (·+i)) a w
 |
  [],i,hl,tm,hp,nx,df,x,tm',hp',nx',df',h=>by
  cases(show some (Rs.mk .iF tm hp nx df)=some (.mk x tm' hp' nx' df') from h)
  refine⟨rfl,Nat.le_refl _,?_⟩
  intro r L E a w hL hok hrf Q hQ
  exact hQ E a w hok hrf (Ex.refl _ _ _ _)
 |
  o::l,i,hl,tm,hp,nx,df,x,tm',hp',nx',df',h=>by
  obtain⟨hd,h1⟩:=al (show bF (lT sz o.dst) (bO (want ops.toList tm o.guard) fun w=>@Bool.rec (fun _=>Option Rs) (gz o.dst none tm fun tm=>zL P gl hf ih sz ops.toList l tm hp nx df) (G6 P gl hf ih o tm hp nx df (zL P gl hf ih sz ops.toList l)) w)=some (.mk x tm' hp' nx' df') from h)
  obtain⟨wt,hw,h2⟩:=ab h1
  have hi:ops[i]? =some o:=by
   have:=congrArg (·[0]?) hl
   simpa using this
  have hl':ops.toList.drop (i+1)=l:=by
   have:=congrArg (List.drop 1) hl
   simpa using this
  have e:(List.range (o::l).length).map (·+i)=i::(List.range l.length).map (·+(i+1)):=by
   rw[List.length_cons,List.range_succ_eq_map]
   simp only[List.map_cons,Nat.zero_add,List.map_map]
   congr 1
   apply List.map_congr_left
   intro x _
   simp;omega
  cases wt with
  |
   true=>
   obtain⟨jZ,du,eo,df1,h3,h4,h5⟩:=hop o tm hp nx df _ _ hd h2
   obtain⟨i1,i2,i3⟩:=tD hop l (i+1) hl' jZ du eo df1 x tm' hp' nx' df' h3
   refine⟨i1,Nat.le_trans h4 i2,?_⟩
   intro r L E a w hL hok hrf Q hQ
   rw[e,wpOpsIn_cons]
   unfold wpOpIn
   simp only[hi,tB hok.vt hw,if_true]
   refine h5 r L E a w (Nat.le_trans i2 hL) hok hrf _ Q ?_
   intro E' a' w' k1 k2 k3
   exact i3 r L E' a' w' hL k1 k2 Q (fun E2 a2 w2 q1 q2 q3=>hQ E2 a2 w2 q1 q2 (k3.trans q3))
  |
   false=>
   have h3:gz o.dst none tm (fun tm=>zL P gl hf ih sz ops.toList l tm hp nx df)=some (.mk x tm' hp' nx' df'):=h2
   rw[eF] at h3
   obtain⟨i1,i2,i3⟩:=tD hop l (i+1) hl' _ hp nx df x tm' hp' nx' df' h3
   refine⟨i1,i2,?_⟩
   intro r L E a w hL hok hrf Q hQ
   rw[e,wpOpsIn_cons]
   unfold wpOpIn
   simp only[hi,tB hok.vt hw,Bool.false_eq_true,if_false]
   refine⟨fun _ _=>trivial,?_⟩
   exact i3 r L E (a.put o.dst undef) w hL ⟨u9 hok.vt,by rw[fX];exact hok.vs,hok.vh,hok.vf,hok.vg⟩ (by rw[put_defers];exact hrf) Q hQ
end
end Go.Cm
namespace Go.Cm
section
variable{P:Program} {gl:List V} {E:Env} {w:World}
theorem De{k:ak}(h:k.C6=true):k= .df:=by cases k<;>first|rfl|cases h
theorem kf{α:Type}{k:ak}{f:LoopState→Option Code→FuncId→T V→Nat→Array Tmp→Code→Code→Id→Option α}{y:α}(h:k.FE f=some y):∃st pe fn tm sz ps asg body d,k= .lp st pe fn tm sz ps asg body d∧f st pe fn tm sz ps asg body d=some y:=by
 cases k<;>first|exact⟨_,_,_,_,_,_,_,_,_,rfl,h⟩|cases h
theorem fg{α:Type}{r:Option Rs}{k:Xt→T V→T ak→Id→V→Option α}{y:α}(h:Ay r k=some y):∃x tm hp nx df,r=some (.mk x tm hp nx df)∧k x tm hp nx df=some y:=by
 cases r with
 |none=>cases h
 |some r=>cases r with|mk x tm hp nx df=>exact⟨x,tm,hp,nx,df,rfl,h⟩
theorem RH.shut{hp:T ak}{nx:Id}(h:RH E hp w){b:Id}{k0:ak}{g:Nat}{o:Obj}(hb:get b hp=some k0)(hg:E.g b=some g)(w':World)(hs:w'.heap=w.heap.setIfInBounds g o)(ho:w'.os=w.os)(ht:Tp w w')(hu:w'.output=w.output):
 RH E (put none b hp) w'∧Ex hp nx E w (put none b hp) nx E w':=by
 have key:∀b' k',get b' (put none b hp)=some k'→b'≠b∧get b' hp=some k':=by
  intro b' k' hb'
  rw[cz] at hb'
  split at hb'
  ·cases hb'
  ·rename_i hne;exact⟨hne,hb'⟩
 refine⟨⟨?_,?_⟩,⟨ho,ht,hu,by rw[hs];simp,?_,?_,Nat.le_refl _,fun _ _=>⟨rfl,rfl⟩⟩⟩
 ·intro b' k' hb'
  obtain⟨hne,hb1⟩:=key b' k' hb'
  obtain⟨g',o',h1,h2,h3⟩:=h.bL b' k' hb1
  refine⟨g',o',h1,?_,h3⟩
  have:g≠g':=fun e=>hne (by subst e;exact h.sep b' b k' k0 g hb1 hb h1 hg)
  rw[hs,Array.getElem?_setIfInBounds,if_neg this];exact h2
 ·intro b1 b2 k1 k2 g' h1 h2 g1 g2
  exact h.sep b1 b2 k1 k2 g' (key b1 k1 h1).2 (key b2 k2 h2).2 g1 g2
 ·intro g' hg' hn
  have:g≠g':=fun e=>hn (by subst e;exact⟨b,k0,hb,hg⟩)
  rw[hs,Array.getElem?_setIfInBounds,if_neg this]
 ·rintro g' ⟨b',k',hb',hg'⟩
  exact Or.inl ⟨b',k',(key b' k' hb').2,hg'⟩
noncomputable def bT(args:V):Id→T V→T V:=
 @V.rec (fun _=>Id→T V→T V) (fun _ _ t=>t) (fun _ _ _ t=>t) (fun _ _ t=>t) (fun _ _ _ t=>t) (fun _ t=>t) (fun _ _ _ _ _ t=>t) (fun _ _ _ _ _ t=>t) (fun _ t=>t) (fun _ t=>t) (fun _ _ t=>t) (fun _ t=>t) (fun _ _ _ _ _ _ t=>t) (fun _ _ t=>t) (fun _ t=>t) (fun _ _ _ _ t=>t) (fun _ t=>t) (fun _ _ _ t=>t) (fun _ _ _ t=>t) (fun _ t=>t) (fun _ t=>t)
  (fun a _ _ ih p t=>ih (lO p) (put (some a) p t)) args
theorem va{β:Type}:∀(args:V)(p:Id)(t:T V)(k:T V→β),uS args p t k=k (bT args p t):=by
 intro args
 induction args with
 |
  cons a l _ ih=>
  intro p t k
  show dD (some a) p t (fun t=>AN (lO p) fun p=>uS l p t k)=_
  rw[cj,lQ,ih];rfl
 |_=>intro p t k;rfl
theorem Hj{arr:Array Value}:∀{args:V}{vs:List Value}{p:Id}{t:T V},aQ E args vs→RT E t arr→(∀(i:Nat)(v:Value),vs[i]? =some v→arr[num p+i]? =some v)→RT E (bT args p t) arr:=by
 intro args
 induction args with
 |nil=>intro vs p t h ht _;exact ht
 |
  cons a l _ ih=>
  intro vs p t h ht hv
  obtain⟨v,r,rfl,h1,h2⟩:=aQ.aG.1 h
  show RT E (bT l (lO p) (put (some a) p t)) arr
  refine ih h2 ?_ ?_
  ·intro q y hq
   rw[cz] at hq
   split at hq
   ·rename_i e;subst e;cases hq
    exact⟨v,by have:=hv 0 v rfl;simpa using this,h1⟩
   ·exact ht q y hq
  ·intro i u hu
   rw[cG]
   have:=hv (i+1) u (by simpa using hu)
   rw[show num p+1+i=num p+(i+1) from by omega];exact this
 |_=>intro vs p t h;simp[aQ] at h
theorem pP{args:V}{vs:List Value}{n:Nat}(h:aQ E args vs):RT E (bT args [] .e) (vs.toArray++Array.replicate (n -vs.toArray.size) undef)∧n≤(vs.toArray++Array.replicate (n -vs.toArray.size) undef).size:=by
 refine⟨Hj h (fun p v hp=>by rw[gw] at hp;cases hp) ?_,by simp;omega⟩
 intro i v hv
 have hlt:i<vs.length:=(List.getElem?_eq_some_iff.1 hv).1
 show(vs.toArray++_)[0+i]? =some v
 rw[Nat.zero_add,Array.getElem?_append,if_pos (by simpa using hlt)]
 simpa using hv
theorem yA{hp:T ak}{tm:T V}{a:Array Value}(hT:RT E tm a)(hH:RH E hp w):∀{l:List ResultVar}{x:V},mC P hp tm l=some x→∃vs:List Value,(l.mapM (Abs.lM a)).run P w= .ok vs w∧aQ E x vs
 |[],x,h=>by cases h;exact⟨[],by simp,by simp[aQ]⟩
 |
  r::l,x,h=>by
  obtain⟨v,h1,h2⟩:=ab (show(bO (@ResultVar.casesOn (fun _=>Option V) r (fun t=>get (aN t) tm) (fun a t=>bO (get (aN a) tm) fun p=>dL P (fun b=>get b hp) t p)) fun v=>bO (mC P hp tm l) fun l=>some (.cons v l))=some x from h)
  obtain⟨m,h3,h4⟩:=ab h2
  cases h4
  obtain⟨vs,i1,i2⟩:=yA hT hH h3
  have hone:∃u,(Abs.lM a r).run P w= .ok u w∧RV E v u:=by
   cases r with
   |
    tmp t=>
    obtain⟨u,u1,u2⟩:=hT _ _ (show get (aN t) tm=some v from h1)
    rw[cO] at u1
    exact⟨u,by simp[Abs.lM,u1],u2⟩
   |
    cell c t=>
    obtain⟨p,p1,p2⟩:=ab (show(bO (get (aN c) tm) fun p=>dL P (fun b=>get b hp) t p)=some v from h1)
    obtain⟨u,u1,u2⟩:=hT _ _ p1
    rw[cO] at u1
    obtain⟨z,z1,z2⟩:=gG (P:=P) (w:=w) hH (fun _ _ hb=>hb) u2 p2
    obtain⟨b,o,rfl,_⟩:=eC p2
    simp only[RV] at u2
    obtain⟨g,hg,rfl⟩:=u2
    refine⟨z,?_,z2⟩
    simp only[Abs.lM,Sem.run_bind]
    have:a.getD c undef= .pointer (some ⟨g,o,none⟩):=by simp[u1]
    rw[this]
    simpa[asAddr,Instr.loadAt,Instr.sureAddr] using z1
  obtain⟨u,u1,u2⟩:=hone
  exact⟨u::vs,by simp[List.mapM_cons,u1,i1],aQ.aG.2 ⟨_,_,rfl,u2,i2⟩⟩
theorem lU{hp:T ak}{tm:T V}{a:Array Value}(hT:RT E tm a)(hH:RH E hp w){fn:Func}{x:V}(h:mC P hp tm fn.results.toList=some x):∃u,(results fn a).run P w= .ok u w∧RV E (one x) u:=by
 obtain⟨vs,h1,h2⟩:=yA (P:=P) (w:=w) hT hH h
 have hm:(fn.results.mapM (Abs.lM a)).run P w= .ok vs.toArray w:=by
  rw[Array.mapM_eq_mapM_toList]
  simp only[Sem.run_map]
  rw[h1];rfl
 rw[Abs.mi]
 simp only[Sem.run_bind,hm,Result.andThen_ok,Sem.run_pure]
 refine⟨_,rfl,?_⟩
 have c8:∀{y:V},aQ E y vs→vs.length≠1→RV E (.c8 y) (if h:vs.toArray.size=1 then vs.toArray[0] else .tuple vs.toArray):=by
  intro y hy hne
  rw[dif_neg (by simpa using hne)]
  simp only[RV]
  exact⟨_,rfl,hy⟩
 cases x with
 |
  nil=>
  rw[aQ.da] at h2;subst h2
  exact c8 (by simp[aQ]) (by simp)
 |
  cons b m=>
  obtain⟨v,r,rfl,v1,v2⟩:=aQ.aG.1 h2
  cases m with
  |
   nil=>
   rw[aQ.da] at v2;subst v2
   show RV E b _
   simpa using v1
  |
   cons c m'=>
   obtain⟨v',r',rfl,_,_⟩:=aQ.aG.1 v2
   exact c8 h2 (by simp)
  |_=>simp[aQ] at v2
 |_=>simp[aQ] at h2
end
end Go.Cm
namespace Go.Cm
section
variable{P:Program} {gl:List V} {ih:dx}
theorem Df{o:Op}(h:FG o=true):∃ts,o= .call {callee:=.builtin .recover,args:= #[],argTypes:=ts}:=by
 cases o<;>simp only[FG] at h<;>first|(cases h;done)|skip
 rename_i c
 obtain⟨ce,as,ts⟩:=c
 cases ce<;>simp only at h<;>first|(cases h;done)|skip
 rename_i b
 cases b<;>simp only at h<;>first|(cases h;done)|skip
 refine⟨ts,?_⟩
 have:as= #[]:=by simpa using h
 subst this;rfl
theorem Dh{o:Op}{t:Tmp}(h:FH o=some t):o= .assign (.tmp t):=by
 cases o<;>simp only[FH] at h<;>first|(cases h;done)|skip
 rename_i x
 cases x<;>simp only at h<;>first|(cases h;done)|skip
 cases h;rfl
theorem vj{c:Code}{t5 t2:Tmp}{rest:Code}(h:pH c=some (t5,t2,rest)):∃rid o0 o1 ts,c= .seq (.region rid #[o0,o1] false) rest∧o0.op= .call {callee:=.builtin .recover,args:= #[],argTypes:=ts}∧o0.dst=some t5∧o0.guard=none∧o1.op= .assign (.tmp t5)∧o1.dst=some t2∧o1.guard=none:=by
 cases c<;>simp only[pH] at h<;>first|(cases h;done)|skip
 rename_i a rest'
 cases a<;>simp only at h<;>first|(cases h;done)|skip
 rename_i rid ops d
 obtain⟨hd,h1⟩:=al h
 obtain⟨p,hp,h2⟩:=ab h1
 cases h2
 have hd:d=false:=by cases d;rfl;cases hd
 subst hd
 obtain⟨l⟩:=ops
 simp only at hp
 unfold AX at hp
 split at hp
 ·rename_i o0 o1
  obtain⟨g1,g2⟩:=al hp
  obtain⟨g3,g4⟩:=al g2
  obtain⟨g5,g6⟩:=al g4
  obtain⟨t5',g7,g8⟩:=ab g6
  obtain⟨t2',g9,g10⟩:=ab g8
  obtain⟨t,g11,g12⟩:=ab g10
  obtain⟨g13,g14⟩:=al g12
  cases g14
  obtain⟨ts,q⟩:=Df g1
  have:=Dh g11
  have e:t=t5':=bK g13
  subst e
  exact⟨rid,o0,o1,ts,rfl,q,g7,by simpa using g3,this,g9,by simpa using g5⟩
 ·cases hp
theorem FM{E:Env}{ds:List Deferred}(h:RD E .nil ds):ds= []:=h
theorem Di(hI:rG P gl ih){f:FuncId}{args:V}{hp:T ak}{nx:Id}{k:T ak→Id→Option Rs}{R:Rs}(h:C7 P ih f args hp nx k=some R):
 ∃hp' nx',k hp' nx'=some R∧(∃fn,P.funcs[f]? =some fn∧fn.body≠none)∧num nx≤num nx'∧∀L E w vs,num nx'≤L→aQ E args vs→RH E hp w→bW L nx E→GL gl hp E w→
  CallsDIn Fence.wide 0 P f vs.toArray .returning w (fun e u w'=>u= .returning∧(∃v,e= .returned v)∧∃E',RH E' hp' w'∧bW L nx' E'∧Ex hp nx E w hp' nx' E' w'):=by
 obtain⟨fn,hfn,h1⟩:=ab h
 obtain⟨c,hc,h2⟩:=ab h1
 obtain⟨s,hs,h3⟩:=ab h2
 obtain⟨b5,h4⟩:=al h3
 obtain⟨b2,h5⟩:=al h4
 obtain⟨t5,t2,rest⟩:=s
 simp only at hs b5 b2 h5
 rw[va,cj,cj] at h5
 obtain⟨x,tm',hp',nx',df',hrun,h6⟩:=fg h5
 obtain⟨s1,s2⟩:=hI _ _ _ _ _ _ _ _ _ _ _ _ hrun
 rw[dZ] at hfn
 have hf':P.funcs[f]? =some fn:=by simpa using hfn
 obtain⟨rid,o0,o1,ts,e0,e1,e2,e3,e4,e5,e6⟩:=vj hs
 have fin:∃y,df'= .nil∧mC P hp' tm' fn.results.toList=some y∧k hp' nx'=some R∧(pN x= .normal∨pN x= .ret):=by
  cases x with
  |
   iF=>
   rcases cB (show df'.split (bO (mC P hp' tm' fn.results.toList) fun _=>k hp' nx') (fun _ _=>none) none=some R from h6) with⟨q1,q2⟩|⟨_,_,_,q⟩
   ·obtain⟨y,y1,y2⟩:=ab q2
    exact⟨y,q1,y1,y2,Or.inl rfl⟩
   ·cases q
  |ext i=>cases h6
  |
   ret=>
   rcases cB (show df'.split (bO (mC P hp' tm' fn.results.toList) fun _=>k hp' nx') (fun _ _=>none) none=some R from h6) with⟨q1,q2⟩|⟨_,_,_,q⟩
   ·obtain⟨y,y1,y2⟩:=ab q2
    exact⟨y,q1,y1,y2,Or.inr rfl⟩
   ·cases q
 obtain⟨y,hdf,hy,hk,hx⟩:=fin
 refine⟨hp',nx',hk,⟨fn,hf',by rw[hc];simp⟩,s1,?_⟩
 intro L E w vs hL hv hH hF hG
 refine callsDIn_of_wpSIn (F:=Fence.wide) hf' (by rw[hc,e0]) trivial ?_
 intro c0 cs hm
 obtain⟨fr1,fr2⟩:=pP (n:=fn.ntmps) hv
 refine wpSIn_seq (wpSIn_region ?_)
 show wpOpsSIn _ _ _ _ _ [0,1] _ _ _
 have w0:∀y,Region.wanted o0 y=true:=by intro y;simp[Region.wanted,e3]
 have w1:∀y,Region.wanted o1 y=true:=by intro y;simp[Region.wanted,e6]
 have x0:∀ρ:Operand→Value,(execOp ρ o0).run P w= .ok .recover w:=by
  intro ρ
  simp[execOp,e1,resolve,invoke,builtin]
 have hrc:recoverD (c0::cs)=none:=by simp[recoverD,hm]
 have ei0:(#[o0,o1]:Array Oper)[0]? =some o0:=rfl
 have ei1:(#[o0,o1]:Array Oper)[1]? =some o1:=rfl
 have b5:t5<fn.ntmps:=Nat.le_of_ble_eq_true b5
 have b2:t2<fn.ntmps:=Nat.le_of_ble_eq_true b2
 simp only[wpOpsSIn,ei0,ei1,w0,w1,if_true,x0,hrc]
 refine⟨fun _ _=>trivial,fun _ _=>trivial,?_⟩
 have hnil:RV E .ni .nilIface:=by simp only[RV]
 have g1:=tz (a:={tmps:=vs.toArray++Array.replicate (fn.ntmps -vs.toArray.size) undef,defers:=[]}) fr1 (d:=some t5) hnil (fun t ht=>by cases ht;exact Nat.lt_of_lt_of_le b5 fr2)
 have hev:((({tmps:=vs.toArray++Array.replicate (fn.ntmps -vs.toArray.size) undef,defers:=[]}:Act).put o0.dst .nilIface).eval (.tmp t5))= .nilIface:=by
  rw[e2]
  have hsz:t5<(vs.toArray++Array.replicate (fn.ntmps -vs.toArray.size) undef).size:=Nat.lt_of_lt_of_le b5 fr2
  simp only[Act.put,Act.eval]
  rw[Array.getD_eq_getD_getElem?,Array.getElem?_setIfInBounds]
  rw[if_pos rfl,if_pos hsz];rfl
 have x1:(execOp (({tmps:=vs.toArray++Array.replicate (fn.ntmps -vs.toArray.size) undef,defers:=[]}:Act).put o0.dst .nilIface).eval o1).run P w= .ok (.value .nilIface) w:=by
  simp only[execOp,e4]
  rw[hev]
  rfl
 rw[x1]
 simp only
 have g2:=tz g1 (d:=some t2) hnil (fun t ht=>by cases ht;rw[fX];exact Nat.lt_of_lt_of_le b2 fr2)
 rw[e2,e5]
 have hc0:(c0::cs)={c0 with mode:=.returning}::cs:=by rw[←hm]
 refine wpSIn_of_wpIn (F:=Fence.wide) rfl ?_
 refine s2 none L E _ w hL ⟨g2,by rw[fX,fX];exact fr2,hH,hF,hG⟩ (Or.inl ⟨rfl,by rw[put_defers,put_defers];rfl⟩) _ ?_
 intro E' a' w' k1 k2 k3
 have hd:a'.defers= []:=by
  rcases k2 with⟨_,k2⟩|⟨_,_,_,k2,_⟩
  ·rw[hdf] at k2;exact FM k2
  ·cases k2
 obtain⟨u,u1,u2⟩:=lU (P:=P) (w:=w') k1.vt k1.vh hy
 rcases hx with hx|hx
 ·rw[hx]
  exact⟨hd,.returning,hc0,u,u1,rfl,⟨u,rfl⟩,E',k1.vh,k1.vf,k3⟩
 ·rw[hx]
  exact⟨hd,.returning,hc0,u,u1,rfl,⟨u,rfl⟩,E',k1.vh,k1.vf,k3⟩
def pQ(P:Program):Prop:=∀f fn,P.funcs[f]? =some fn→fn.body≠none→∀vs w,(callFunc f vs).run P w= .ok (.enter f vs) w
theorem Dj(hI:rG P gl ih)(hE:pQ P):∀{df:V}{hp:T ak}{nx:Id}{k:T ak→Id→Option Rs}{R:Rs},iU P ih df hp nx k=some R→
 ∃hp' nx',k hp' nx'=some R∧num nx≤num nx'∧∀(fn:Func)(tmps:Array Value)(Rr:Ending→World→Prop) L E w ds,num nx'≤L→RD E df ds→RH E hp w→bW L nx E→GL gl hp E w→
  (∀E' w',RH E' hp' w'→bW L nx' E'→Ex hp nx E w hp' nx' E' w'→LeavesIn (Fr none) 0 P fn tmps Rr [] .returning w')→LeavesInM (Fr none) 0 P fn tmps Rr ds .returning w:=by
 intro df
 induction df with
 |
  nil=>
  intro hp nx k R h
  refine⟨hp,nx,h,Nat.le_refl _,?_⟩
  intro fn tmps Rr L E w ds hL hd hH hF hG hK
  have hd:ds= []:=hd
  subst hd
  exact hK E w hH hF (Ex.refl _ _ _ _)
 |
  cons a l _ ihl=>
  intro hp nx k R h
  have h:(@Bool.rec (fun _=>Option Rs)
   (a.CZ (fun f fs cs=>fC (ij fs cs) fun args=>C7 P ih f args hp nx fun hp nx=>iU P ih l hp nx k) fun _=>none)
   (a.mp (fun b=>bO (get b hp) fun bl=>bF bl.C6 (dD none b hp fun hp=>iU P ih l hp nx k)) none) (@Option.rec Bool (fun _=>Bool) false (fun b=>b) (a.mp (fun _=>some true) none)))=some R:=h
  cases a with
  |
   m b=>
   obtain⟨bl,hbl,h1⟩:=ab (show(bO (get b hp) fun bl=>bF bl.C6 (dD none b hp fun hp=>iU P ih l hp nx k))=some R from h)
   obtain⟨hdf,h2⟩:=al h1
   have:=De hdf;subst this
   rw[cj] at h2
   obtain⟨hp',nx',i1,i2,i3⟩:=ihl h2
   refine⟨hp',nx',i1,i2,?_⟩
   intro fn tmps Rr L E w ds hL hd hH hF hG hK
   obtain⟨d,r,g,rfl,hg,rfl,hr⟩:=hd
   obtain⟨g',o,q1,q2,q3⟩:=hH.bL b _ hbl
   rw[hg] at q1;cases q1
   have q3:o= .deferred (some []):=q3
   subst q3
   obtain⟨s1,s2⟩:=hH.shut (nx:=nx) (o:=.deferred none) hbl hg (w.putObj g (.deferred none)) rfl rfl (Tp.r rfl rfl) rfl
   refine⟨by simp,Or.inl ⟨g,_,rfl,run_takeDeferred q2,?_⟩⟩
   exact i3 fn tmps Rr L E _ r hL hr s1 hF (hG.step s2) (fun E' w' k1 k2 k3=>hK E' w' k1 k2 (s2.trans k3))
  |
   fn f fs cs=>
   have h1:(fC (ij fs cs) fun args=>C7 P ih f args hp nx fun hp nx=>iU P ih l hp nx k)=some R:=h
   rw[kL] at h1
   obtain⟨du,eo,j1,⟨fd,j2,j3⟩,j4,j5⟩:=Di hI h1
   obtain⟨hp',nx',i1,i2,i3⟩:=ihl j1
   refine⟨hp',nx',i1,Nat.le_trans j4 i2,?_⟩
   intro fn tmps Rr L E w ds hL hd hH hF hG hK
   obtain⟨d,r,a,c,rfl,rfl,hfs,hcs,hr⟩:=hd
   have hv:aQ E (ij fs cs) (a.toList++c.toList):=hfs.app hcs
   have hcall:=j5 L E w (a.toList++c.toList) (Nat.le_trans i2 hL) hv hH hF hG
   have harr:(a.toList++c.toList).toArray=a++c:=by apply Array.ext';simp
   rw[harr] at hcall
   refine⟨by simp,Or.inr ⟨fun h=>(by cases h),.func f,c,f,a++c,rfl,?_,fun _ _=>trivial,CallsDIn.mono (F:=Fence.wide) hcall ?_⟩⟩
   ·simp only[invoke];exact hE f fd j2 j3 _ _
   ·rintro e u w' ⟨rfl,⟨v,rfl⟩,E',k1,k2,k3⟩
    have hle:=k3.le hF (Nat.le_trans i2 hL)
    exact i3 fn tmps Rr L E' w' r hL (hr.mono hle) k1 k2 (hG.step k3) (fun E2 w2 q1 q2 q3=>hK E2 w2 q1 q2 (k3.trans q3))
  |_=>cases h
 |_=>intro hp nx k R h;cases h
def fh(P:Program)(gl:List V)(f:FuncId)(args:V)(hp:T ak)(nx:Id)(v:V)(hp':T ak)(nx':Id):Prop:=
 (∀vs w,(callFunc f vs).run P w= .ok (.enter f vs) w)∧num nx≤num nx'∧∀L E w vs,num nx'≤L→aQ E args vs→RH E hp w→bW L nx E→GL gl hp E w→
  CallsIn Fence.wide 0 P f vs.toArray w (fun e w'=>∃u E',e= .returned u∧RV E' v u∧RH E' hp' w'∧bW L nx' E'∧Ex hp nx E w hp' nx' E' w')
theorem iW(hI:rG P gl ih)(hE:pQ P){hf:Hk}(hHash:∀args hp v,rZ hp args=some v→∀nx,fh P gl hf.h args hp nx v hp nx)(hTab:∀f args v,lu hf.t f args=some v→∀hp nx,fh P gl f args hp nx v hp nx){f:FuncId}{args:V}{hp:T ak}{nx:Id}{k:V→T ak→Id→Option Rs}{R:Rs}(h:iT P hf ih (iU P ih) f args hp nx k=some R):
 ∃v hp' nx',k v hp' nx'=some R∧fh P gl f args hp nx v hp' nx':=by
 unfold iT at h
 cases hb:Nat.beq f hf.h with
 |
  true=>
  rw[hb] at h
  have:=bK hb;subst this
  obtain⟨v,h1,h2⟩:=ab (show(bO (rZ hp args) fun v=>k v hp nx)=some R from h)
  exact⟨v,hp,nx,h2,hHash args hp v h1 nx⟩
 |
  false=>
  rw[hb] at h
  have h0:@Option.rec V (fun _=>Option Rs) (bO (eD P.funcs.toList f) fun fn=>bO fn.body fun c=>uS args [] .e fun tm=>Ay (ih c f fn.ntmps tm hp nx .nil) fun x tm hp nx df=>
   @Xt.casesOn (fun _=>Option Rs) x (iU P ih df hp nx fun hp nx=>bO (mC P hp tm fn.results.toList) fun v=>k (one v) hp nx) (fun _=>none) (iU P ih df hp nx fun hp nx=>bO (mC P hp tm fn.results.toList) fun v=>k (one v) hp nx)) (fun v=>k v hp nx) (lu hf.t f args)=some R:=h
  cases hlk:lu hf.t f args with
  |
   some v=>
   rw[hlk] at h0
   exact⟨v,hp,nx,h0,hTab f args v hlk hp nx⟩
  |none=>
  rw[hlk] at h0
  obtain⟨fn,hfn,h1⟩:=ab h0
  obtain⟨c,hc,h2⟩:=ab h1
  rw[va] at h2
  obtain⟨x,jZ,du,eo,df1,hrun,h3⟩:=fg h2
  obtain⟨s1,s2⟩:=hI _ _ _ _ _ _ _ _ _ _ _ _ hrun
  rw[dZ] at hfn
  have hf':P.funcs[f]? =some fn:=by simpa using hfn
  have hx:(pN x= .normal∨pN x= .ret)∧(iU P ih df1 du eo fun hp nx=>bO (mC P hp jZ fn.results.toList) fun v=>k (one v) hp nx)=some R:=by
   cases x with
   |iF=>exact⟨Or.inl rfl,h3⟩
   |ext i=>cases h3
   |ret=>exact⟨Or.inr rfl,h3⟩
  obtain⟨hx,h4⟩:=hx
  obtain⟨ov,rS,d1,d2,d3⟩:=Dj hI hE h4
  obtain⟨y,y1,y2⟩:=ab d1
  refine⟨one y,ov,rS,y2,hE f fn hf' (by rw[hc];simp),Nat.le_trans s1 d2,?_⟩
  intro L E w vs hL hv hH hF hG
  refine callsIn_of_wp_marks (F:=Fence.wide) hf' hc trivial ?_ rfl
  obtain⟨fr1,fr2⟩:=pP (n:=fn.ntmps) hv
  refine s2 none L E {tmps:=vs.toArray++Array.replicate (fn.ntmps -vs.toArray.size) undef,defers:=[]} w (Nat.le_trans d2 hL) ⟨fr1,fr2,hH,hF,hG⟩ (Or.inl ⟨rfl,show RD E .nil [] from rfl⟩) _ ?_
  intro E1 a1 w1 k1 k2 k3
  have hrd:RD E1 df1 a1.defers:=by
   rcases k2 with⟨_,k2⟩|⟨_,_,_,k2,_⟩
   ·exact k2
   ·cases k2
  have leave:LeavesInM (Fr none) 0 P fn a1.tmps (fun e w'=>∃u E',e= .returned u∧RV E' (one y) u∧RH E' ov w'∧bW L rS E'∧Ex hp nx E w ov rS E' w') a1.defers .returning w1:=by
   refine d3 fn a1.tmps _ L E1 w1 a1.defers hL hrd k1.vh k1.vf k1.vg ?_
   intro E2 w2 q1 q2 q3
   have hle:=q3.le k1.vf hL
   obtain⟨u,u1,u2⟩:=lU (P:=P) (w:=w2) (k1.vt.mono hle) q1 y1
   exact⟨u,u1,u,E2,rfl,u2,q1,q2,k3.trans q3⟩
  rcases hx with hx|hx
  ·rw[hx];exact leave
  ·rw[hx];exact leave
end
end Go.Cm
namespace Go.Cm
section
variable{P:Program} {gl:List V} {ih:dx}
theorem yB{α:Type}{sz:Nat}:∀{ps:List Tmp}{args:V}{t:T V}{k:T V→Option α}{y:α},FI sz ps args t k=some y→
 ∃t',k t'=some y∧∀(E:Env)(vs:List Value)(arr:Array Value),aQ E args vs→RT E t arr→sz≤arr.size→
  vs.length=ps.length∧RT E t' ((ps.zip vs).foldl (fun t(p:Nat×Value)=>t.setIfInBounds p.1 p.2) arr)∧((ps.zip vs).foldl (fun t(p:Nat×Value)=>t.setIfInBounds p.1 p.2) arr).size=arr.size
 |
  [],args,t,k,y,h=>by
  rcases cB (show args.split (k t) (fun _ _=>none) none=some y from h) with⟨rfl,h1⟩|⟨_,_,_,h1⟩
  ·refine⟨t,h1,?_⟩
   intro E vs arr hv ht _
   rw[aQ.da] at hv;subst hv
   exact⟨rfl,ht,rfl⟩
  ·cases h1
 |
  p::ps,args,t,k,y,h=>by
  obtain⟨x,r,rfl,h1⟩:=bQ (show args.split none (fun x r=>bF (Nat.ble (Nat.succ p) sz) (dD (some x) (aN p) t fun t=>FI sz ps r t k)) none=some y from h)
  obtain⟨hp,h2⟩:=al h1
  rw[cj] at h2
  obtain⟨t',i1,i2⟩:=yB h2
  refine⟨t',i1,?_⟩
  intro E vs arr hv ht hsz
  obtain⟨v,vr,rfl,v1,v2⟩:=aQ.aG.1 hv
  have hlt:p<arr.size:=Nat.lt_of_lt_of_le (Nat.le_of_ble_eq_true hp) hsz
  obtain⟨j1,j2,j3⟩:=i2 E vr (arr.setIfInBounds p v) v2 (A8 ht v1 hlt) (by simpa using hsz)
  exact⟨by simp[j1],by simpa using j2,by simpa using j3⟩
theorem vn{E:Env}{w:World}{hp:T ak}(hH:RH E hp w){b:Id}{st:LoopState}{pe:Option Code}{fn:FuncId}{tm:T V}{sz:Nat}{ps:Array Tmp}{asg body:Code}{d:Id}(hb:get b hp=some (.lp st pe fn tm sz ps asg body d)){l:Nat}(hg:E.g b=some l):
 ∃a g f0,w.heap[l]? =some (.loop {state:=st,pending:=pe,fn:=f0,tmps:=a,params:=ps,assign:=asg,body:=body,defers:=g})∧RT E tm a∧sz≤a.size∧E.g d=some g:=by
 obtain⟨g',o,h1,h2,a,g,f0,rfl,h3,h4,h5⟩:=hH.bL b _ hb
 rw[hg] at h1;cases h1
 exact⟨a,g,f0,h2,h3,h4,h5⟩
def Dk(P:Program)(gl:List V)(b:Id)(args:V)(hp:T ak)(nx:Id)(v:V)(hp':T ak)(nx':Id):Prop:=
 num nx≤num nx'∧∀L E w vs l,num nx'≤L→aQ E args vs→RH E hp w→bW L nx E→GL gl hp E w→E.g b=some l→
  ∃fn tmps asg body,(Instr.yield l vs.toArray).run P w= .ok (.round l fn tmps asg body) w∧RoundIn Fence.wide 0 P l fn tmps asg body w (fun e w'=>∃u E',e= .returned u∧RV E' v u∧RH E' hp' w'∧bW L nx' E'∧Ex hp nx E w hp' nx' E' w')
theorem Dl{b:Id}{k:V→T ak→Id→Option Rs}{x:Xt}{hp:T ak}{nx:Id}{R:Rs}(h:FJ b k x hp nx=some R):
 ∃v hp',k v hp' nx=some R∧∀E w l,RH E hp w→E.g b=some l→∃jump u w',(pN x= .normal∧jump=none∨(∃i,pN x= .exit i∧jump=some (.exit i))∨pN x= .ret∧jump=some .ret)∧(Instr.endRound l jump).run P w= .ok u w'∧RV E v u∧RH E hp' w'∧Ex hp nx E w hp' nx E w':=by
 obtain⟨bl,hbl,h1⟩:=ab h
 obtain⟨st,pe,fn,tm,sz,ps,asg,body,d,rfl,h2⟩:=kf h1
 have fin:∀(jump:Option Code)(E:Env)(w:World)(l:Nat),RH E hp w→E.g b=some l→∃u w',(Instr.endRound l jump).run P w= .ok u w'∧u= .bool jump.isNone∧
  RH E (put (some (.lp (if jump.isNone then .ready else .done) jump fn tm sz ps asg body d)) b hp) w'∧Ex hp nx E w (put (some (.lp (if jump.isNone then .ready else .done) jump fn tm sz ps asg body d)) b hp) nx E w':=by
  intro jump E w l hH hg
  obtain⟨a,g,f0,q1,q2,q3,q4⟩:=vn hH hbl hg
  obtain⟨s1,s2⟩:=hH.change (nx:=nx) (k:=.lp (if jump.isNone then .ready else .done) jump fn tm sz ps asg body d) hbl hg (w.putObj l (.loop {state:=if jump.isNone then .ready else .done,pending:=jump,fn:=f0,tmps:=a,params:=ps,assign:=asg,body:=body,defers:=g})) rfl rfl (Tp.r rfl rfl) rfl ⟨a,g,f0,rfl,q2,q3,q4⟩
  exact⟨_,_,run_endRound (P:=P) jump q1,rfl,s1,s2⟩
 cases x with
 |
  iF=>
  have h3:dD (some (.lp .ready none fn tm sz ps asg body d)) b hp (fun hp=>k (.b true) hp nx)=some R:=h2
  rw[cj] at h3
  refine⟨.b true,_,h3,?_⟩
  intro E w l hH hg
  obtain⟨u,w',r1,r2,r3,r4⟩:=fin none E w l hH hg
  exact⟨none,u,w',Or.inl ⟨rfl,rfl⟩,r1,by rw[r2];simp only[RV];rfl,r3,r4⟩
 |
  ext i=>
  have h3:dD (some (.lp .done (some (.exit i)) fn tm sz ps asg body d)) b hp (fun hp=>k (.b false) hp nx)=some R:=h2
  rw[cj] at h3
  refine⟨.b false,_,h3,?_⟩
  intro E w l hH hg
  obtain⟨u,w',r1,r2,r3,r4⟩:=fin (some (.exit i)) E w l hH hg
  exact⟨some (.exit i),u,w',Or.inr (Or.inl ⟨i,rfl,rfl⟩),r1,by rw[r2];simp only[RV];rfl,r3,r4⟩
 |
  ret=>
  have h3:dD (some (.lp .done (some .ret) fn tm sz ps asg body d)) b hp (fun hp=>k (.b false) hp nx)=some R:=h2
  rw[cj] at h3
  refine⟨.b false,_,h3,?_⟩
  intro E w l hH hg
  obtain⟨u,w',r1,r2,r3,r4⟩:=fin (some .ret) E w l hH hg
  exact⟨some .ret,u,w',Or.inr (Or.inr ⟨rfl,rfl⟩),r1,by rw[r2];simp only[RV];rfl,r3,r4⟩
theorem sd(hI:rG P gl ih){b:Id}{args:V}{hp:T ak}{nx:Id}{k:V→T ak→Id→Option Rs}{R:Rs}(h:AY ih b args hp nx k=some R):
 ∃v hp' nx',k v hp' nx'=some R∧Dk P gl b args hp nx v hp' nx':=by
 obtain⟨bl,hbl,h1⟩:=ab h
 obtain⟨st,pe,fn,tm,sz,ps,asg,body,d,rfl,h2⟩:=kf h1
 obtain⟨t',h3,aj⟩:=yB h2
 obtain⟨x1,jZ,du,eo,df1,run1,h4⟩:=fg h3
 have hx1:x1= .iF∧ET ih b k fn sz body jZ du eo df1=some R:=by
  cases x1 with
  |iF=>exact⟨rfl,h4⟩
  |ext i=>cases h4
  |ret=>cases h4
 obtain⟨rfl,h5⟩:=hx1
 obtain⟨bl1,hbl1,h6⟩:=ab h5
 obtain⟨st1,pe1,fn1,tmB,sz1,ps1,asg1,body1,d1,rfl,h7⟩:=kf h6
 have hst:st1= .ready∧(dD (some (.lp .busy pe1 fn1 tmB sz1 ps1 asg1 body1 d1)) b du fun hp=>Ay (ih body fn sz jZ hp eo df1) fun x _ hp nx _=>FJ b k x hp nx)=some R:=by
  cases st1 with
  |ready=>exact⟨rfl,h7⟩
  |_=>cases h7
 obtain⟨rfl,h8⟩:=hst
 rw[cj] at h8
 obtain⟨x2,Ax,ov,rS,df2,run2,h9⟩:=fg h8
 obtain⟨v,hp',hk,hend⟩:=Dl (P:=P) h9
 obtain⟨a1,a2⟩:=hI _ _ _ _ _ _ _ _ _ _ _ _ run1
 obtain⟨b1,b2⟩:=hI _ _ _ _ _ _ _ _ _ _ _ _ run2
 refine⟨v,hp',rS,hk,Nat.le_trans a1 b1,?_⟩
 intro L E w vs l hL hv hH hF hG hg
 obtain⟨arr,g,f0,q1,q2,q3,q4⟩:=vn hH hbl hg
 obtain⟨j1,j2,j3⟩:=aj E vs arr hv q2 q3
 have hps:vs.toArray.size=ps.size:=by simpa using j1
 refine⟨f0,_,asg,body,run_yield q1 hps,roundIn_of_wpIn (F:=Fence.wide) trivial ?_⟩
 have hzip:(ps.zip vs.toArray).foldl (fun t (p,v)=>t.setIfInBounds p v) arr=(ps.toList.zip vs).foldl (fun t(p:Nat×Value)=>t.setIfInBounds p.1 p.2) arr:=by
  rw[←Array.foldl_toList]
  congr 1
  simp
 have hL1:num eo≤L:=Nat.le_trans b1 hL
 show asg.wpIn (Fr (some l)) 0 P _ {tmps:=(ps.zip vs.toArray).foldl (fun t (p,v)=>t.setIfInBounds p v) arr,defers:=[]} w
 rw[hzip]
 refine a2 (some l) L E _ w hL1 ⟨j2,by rw[j3];exact q3,hH,hF,hG⟩ (Or.inr ⟨b,l,rfl,rfl,hg,rfl⟩) _ ?_
 intro E1 c1 w1 k1 k2 k3
 have le1:=k3.le hF hL1
 have hg1:=(le1 b l hg).1
 obtain⟨arr1,gg1,f1,p1,p2,p3,p4⟩:=vn k1.vh hbl1 hg1
 obtain⟨s1,s2⟩:=k1.vh.change (nx:=eo) (k:=.lp .busy pe1 fn1 tmB sz1 ps1 asg1 body1 d1) hbl1 hg1 (w1.putObj l (.loop {state:=.busy,pending:=pe1,fn:=f1,tmps:=arr1,params:=ps1,assign:=asg1,body:=body1,defers:=gg1})) rfl rfl (Tp.r rfl rfl) rfl ⟨arr1,gg1,f1,rfl,p2,p3,p4⟩
 refine⟨_,run_beginRound p1 rfl,?_⟩
 refine b2 (some l) L E1 c1 _ hL ⟨k1.vt,k1.vs,s1,k1.vf,k1.vg.step s2⟩ k2 _ ?_
 intro E2 c2 w2 m1 m2 m3
 have le2:=m3.le k1.vf hL
 have hg2:=(le2 b l hg1).1
 obtain⟨jump,u,w',e1,e2,e3,e4,e5⟩:=hend E2 w2 l m1.vh hg2
 have fin:∃u' E',Ending.returned u= .returned u'∧RV E' v u'∧RH E' hp' w'∧bW L rS E'∧Ex hp nx E w hp' rS E' w':=
  ⟨u,E2,rfl,e3,e4,m1.vf,((k3.trans s2).trans m3).trans e5⟩
 rcases e1 with⟨e1,rfl⟩|⟨i,e1,rfl⟩|⟨e1,rfl⟩
 ·rw[e1];exact⟨u,w',e2,fin⟩
 ·rw[e1];exact⟨u,w',e2,fin⟩
 ·rw[e1];exact⟨u,w',e2,fin⟩
theorem Dm{lI:Id}{tm:T V}{df:V}{hp:T ak}{nx:Id}{x:Xt}{tm':T V}{hp':T ak}{nx':Id}{df':V}(h:C8 lI tm df hp nx=some (.mk x tm' hp' nx' df')):
 tm'=tm∧nx'=nx∧df'=df∧∀E w l,RH E hp w→E.g lI=some l→∃jump w4,(Instr.endLoop l).run P w= .ok jump w4∧RH E hp' w4∧Ex hp nx E w hp' nx E w4∧
  ∀(r:Option Nat)(Q:Exit→Act→World→Prop)(a:Act),Q (pN x) a w4→(match jump with|none=>Q .normal a w4|some c=>c.wpIn (Fr r) 0 P Q a w4):=by
 obtain⟨bl,hbl,h1⟩:=ab h
 obtain⟨st,pe,fn,tmL,sz,ps,asg,body,d,rfl,h2⟩:=kf h1
 have fin:st≠.busy→∀E w l,RH E hp w→E.g lI=some l→∃w4,(Instr.endLoop l).run P w= .ok pe w4∧RH E (put none lI hp) w4∧Ex hp nx E w (put none lI hp) nx E w4:=by
  intro hst E w l hH hg
  obtain⟨a,g,f0,q1,q2,q3,q4⟩:=vn hH hbl hg
  obtain⟨s1,s2⟩:=hH.shut (nx:=nx) (o:=.loop {state:=.exhausted,pending:=pe,fn:=f0,tmps:=a,params:=ps,assign:=asg,body:=body,defers:=g}) hbl hg (w.putObj l (.loop {state:=.exhausted,pending:=pe,fn:=f0,tmps:=a,params:=ps,assign:=asg,body:=body,defers:=g})) rfl rfl (Tp.r rfl rfl) rfl
  exact⟨_,run_endLoop q1 hst,s1,s2⟩
 cases st with
 |
  ready=>
  have h3:(dD none lI hp fun hp=>@Option.rec Code (fun _=>Option Rs) (some (.mk .iF tm hp nx df)) (fun _=>none) pe)=some (.mk x tm' hp' nx' df'):=h2
  rw[cj] at h3
  cases pe with
  |some c=>cases h3
  |
   none=>
   cases h3
   refine⟨rfl,rfl,rfl,?_⟩
   intro E w l hH hg
   obtain⟨w4,r1,r2,r3⟩:=fin (by simp) E w l hH hg
   exact⟨none,w4,r1,r2,r3,fun r Q a hq=>hq⟩
 |
  done=>
  have h3:(dD none lI hp fun hp=>Hd pe tm hp nx df)=some (.mk x tm' hp' nx' df'):=h2
  rw[cj] at h3
  obtain⟨c,hc,h4⟩:=ab h3
  subst hc
  cases c with
  |
   exit i=>
   cases(show some (Rs.mk (.ext i) tm (put none lI hp) nx df)=some (.mk x tm' hp' nx' df') from h4)
   refine⟨rfl,rfl,rfl,?_⟩
   intro E w l hH hg
   obtain⟨w4,r1,r2,r3⟩:=fin (by simp) E w l hH hg
   exact⟨_,w4,r1,r2,r3,fun r Q a hq=>wpIn_exit hq⟩
  |
   ret=>
   cases(show some (Rs.mk .ret tm (put none lI hp) nx df)=some (.mk x tm' hp' nx' df') from h4)
   refine⟨rfl,rfl,rfl,?_⟩
   intro E w l hH hg
   obtain⟨w4,r1,r2,r3⟩:=fin (by simp) E w l hH hg
   exact⟨_,w4,r1,r2,r3,fun r Q a hq=>wpIn_ret hq⟩
  |_=>cases h4
 |_=>cases h2
end
end Go.Cm
