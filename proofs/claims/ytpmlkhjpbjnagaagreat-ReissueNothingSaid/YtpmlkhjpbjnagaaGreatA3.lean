/- The machines: what it means to be walked or run, part 3. No condition. -/
import Derived.Test.YtpmlkhjpbjnagaaGreatA2
import Derived.Laws.IdiomRangeMap
namespace Go.Ax
def qj(a b:Int):Int:=if b<a then b else a
def imax(a b:Int):Int:=if a<b then b else a
def KK:AV→AV→Option AV
 | .val (.int k) a,.val (.int k') b=>if Nat.beq (IntKind.code k) (IntKind.code k') then some (.val (.int k) (qj a b)) else none
 |_,_=>none
def KL:AV→AV→Option AV
 | .val (.int k) a,.val (.int k') b=>if Nat.beq (IntKind.code k) (IntKind.code k') then some (.val (.int k) (imax a b)) else none
 |_,_=>none
theorem KM{P:Program}{E:Env}{w:World}{x y r:AV}{vx vy:Value}{ts:Array TypeId}{t:TypeId}(hx:RV E w x vx)(hy:RV E w y vy)(h:KK x y=some r):∃v,(Builtin.min_ ts t #[vx,vy]).run P w= .ok v w∧RV E w r v:=by
 unfold KK at h
 split at h
 ·rename_i k a k' b
  split at h
  ·rename_i hk
   cases h
   have:=IntKind.iS (bT hk)
   subst this
   obtain⟨rfl,h1⟩:=RV.dp hx
   obtain⟨rfl,h2⟩:=RV.dp hy
   refine⟨.int k (qj a b),by trivial,RV.int ?_⟩
   grind [qj]
  grind
 grind
theorem KN{P:Program}{E:Env}{w:World}{x y r:AV}{vx vy:Value}{ts:Array TypeId}{t:TypeId}(hx:RV E w x vx)(hy:RV E w y vy)(h:KL x y=some r):∃v,(Builtin.max_ ts t #[vx,vy]).run P w= .ok v w∧RV E w r v:=by
 unfold KL at h
 split at h
 ·rename_i k a k' b
  split at h
  ·rename_i hk
   cases h
   have:=IntKind.iS (bT hk)
   subst this
   obtain⟨rfl,h1⟩:=RV.dp hx
   obtain⟨rfl,h2⟩:=RV.dp hy
   refine⟨.int k (imax a b),by trivial,RV.int ?_⟩
   grind [imax]
  grind
 grind
def Oo(s:List UInt8)(i:Int):Int:=((s.getD i.toNat 0).toNat:Int)
def tU(G:cd)(t:TypeId)(x i:AV):Option (AV×List VC):=
 match G.at t with
 |
  some td=>match td.ty,x,i with
  | .str,.val .str s,.val (.int _) n=>some (.val (.int .u8) (Oo s n),[vc ((0:Int)≤n),vc (@LT.lt Int _ n (List.length s:Int))])
  | .fns m,.val (.fns m') xs,.val (.int _) n=>if Nat.beq m m' then some (Hq (List.getD xs (Int.toNat n) none),[vc ((0:Int)≤n),vc (@LT.lt Int _ n (m:Int))]) else none
  | .arr m u,.val (.arr m' u') xs,.val (.int _) n=>if Nat.beq m m'&&Ty.same u u' then some (.val u' (List.getD xs (Int.toNat n) u'.aD),[vc ((0:Int)≤n),vc (@LT.lt Int _ n (m:Int))]) else none
  |_,_,_=>none
 |none=>none
theorem Oq{E:Env}{w:World}(o:Option Nat):RV E w (Hq o) (Dj o):=by
 cases o with
 |none=>exact RV.eI (Or.inr ⟨rfl,rfl⟩)
 |some f=>exact RV.eI (Or.inr ⟨rfl, #[], #[],rfl,rfl,rfl,rfl,rfl⟩)
theorem RV.KQ{E:Env}{w:World}{s:List UInt8}{v:Value}(h:RV E w (.val .str s) v):v= .string ⟨s.toArray⟩:=by
 rcases RV.iZ rfl h with⟨hh,_⟩|⟨_,hh⟩
 ·cases hh
 ·have:=hh.1
  grind
theorem KR{P:Program}{G:cd}(T:bM P G){t:TypeId}{td:TD}(ht:G.at t=some td){E:Env}{w:World}{cs:Array Value}{off:Nat}{u:AV}(hc:RC E w u ((cs.toList.drop off).take td.ty.size))(hu:u.cK td.ty=true)(hb:off+td.ty.size≤cs.size):
 ∃v,(part t cs off).run P w= .ok v w∧RV E w u v:=by
 have ha:=AV.oL hu
 by_cases am9:td.ty.isAgg=true
 ·refine⟨.agg (cs.extract off (off+td.ty.size)),?_,RV.eI (Or.inl ⟨by grind,_,rfl,?_⟩)⟩
  ·simp[part,T.isAgg ht,T.size ht,am9]
  simp_all
 ·have hagg':td.ty.isAgg=false:=by grind
  have h1:td.ty.size=1:=by cases h:td.ty<;>rw[h] at hagg'<;>simp[Ty.isAgg] at hagg'<;>rfl
  rw[h1] at hc hb
  have hlt:off<cs.size:=by omega
  have e:(cs.toList.drop off).take 1= [cs[off]]:=by
   grind [kA]
  rw[e] at hc
  exact⟨cs[off],by simp[part,T.isAgg ht,hagg',Array.getElem?_eq_getElem hlt],RV.eI (Or.inr ⟨by grind,hc⟩)⟩
theorem DV{P:Program}{G:cd}(T:bM P G){E:Env}{w:World}{t:TypeId}{x i r:AV}{vx vi:Value}{vc:List VC}(hx:RV E w x vx)(hi:RV E w i vi)(h:tU G t x i=some (r,vc))(hvc:dQ vc):
 ∃v,(Instr.index t vx vi).run P w= .ok v w∧RV E w r v:=by
 unfold tU at h
 split at h
 ·rename_i td ht
  split at h
  ·rename_i s k n hty
   cases h
   obtain⟨q1,q2,_⟩:=hvc
   replace q1:(0:Int)≤_:=q1
   obtain⟨rfl,_⟩:=RV.dp hi
   have:=RV.KQ hx
   subst this
   have hu:=T.strOf ht hty
   have hl:n.toNat<s.length:=by omega
   have hg:(⟨s.toArray⟩:ByteArray)[n.toNat]? =some s[n.toNat]:=by
    show(if h:n.toNat<s.toArray.size then some _ else none)=_
    rw[dif_pos (by grind)]
    rfl
   refine⟨.int .u8 (s[n.toNat].toNat:Int),?_,?_⟩
   ·simp_all[Instr.index,asIntOf,run_underlying]
   ·have:Oo s n=(s[n.toNat].toNat:Int):=by
     grind [Oo]
    rw[this]
    refine RV.int ?_
    have:=s[n.toNat].toNat_lt
    have h1:IntKind.u8.min=0:=by decide
    have h2:IntKind.u8.max=255:=by decide
    omega
  ·rename_i m m' xs k n hty
   split at h
   ·rename_i hm
    cases h
    have:=bT hm
    subst this
    obtain⟨q1,q2,_⟩:=hvc
    replace q1:(0:Int)≤_:=q1
    obtain⟨rfl,_⟩:=RV.dp hi
    obtain⟨te,hu,he,hte⟩:=T.JM ht hty
    rcases RV.iZ rfl hx with⟨_,cs,rfl,hr⟩|⟨hh,_⟩
    ·obtain⟨hl,hcs⟩:=hr
     have hl':n.toNat<xs.length:=by omega
     have hsz:=T.size he w
     rw[hte] at hsz
     have hag:=T.isAgg he w
     rw[hte] at hag
     have hc:cs[n.toNat]? =some (Dj (List.getD xs n.toNat none)):=by
      rw[←Array.getElem?_toList,hcs,List.getElem?_map,pF,mq hl']
      rfl
     refine⟨Dj (List.getD xs n.toNat none),?_,Oq _⟩
     have hin:(0:Int)≤n∧n<(m:Int):=⟨q1,q2⟩
     simp[Instr.index,asIntOf,run_underlying hu,hin,part,hag,hsz,Ty.size,Ty.isAgg,hc]
    trivial
   grind
  ·rename_i m u m' u' xs k n hty
   split at h
   ·rename_i hm
    cases h
    simp only[bB] at hm
    have e1:=bT hm.1
    have e2:=Ty.aB hm.2
    subst e1;subst e2
    obtain⟨q1,q2,_⟩:=hvc
    replace q1:(0:Int)≤_:=q1
    obtain⟨rfl,_⟩:=RV.dp hi
    obtain⟨te,hu,he,hte⟩:=T.pN ht hty
    rcases RV.iZ rfl hx with⟨_,cs,rfl,hr⟩|⟨hh,_⟩
    ·obtain⟨hl,hcs⟩:=hr
     have hl':n.toNat<xs.length:=by omega
     have anr:=aY.get (r:=Rel w E.S u) (n:=u.size) (fun _ _ h=>Rel.len h) u.aD n.toNat hcs hl'
     have hlen:=aY.len (n:=u.size) (fun _ _ h=>Rel.len h) hcs
     have hb:n.toNat*te.ty.size+te.ty.size≤cs.size:=by
      rw[hte,←pE,hlen]
      have:=gK u.size hl'
      grind
     have hsz:=T.size he w
     obtain⟨v,hv,hrv⟩:=KR (P:=P) T he (E:=E) (w:=w) (cs:=cs) (off:=n.toNat*te.ty.size) (u:=.val u (List.getD xs n.toNat u.aD)) (by rw[hte];trivial) (by rw[hte];exact Ty.di _) hb
     simp_all[Instr.index,asIntOf,run_underlying]
    trivial
   grind
  grind
 grind
def zq{α:Type}:Option α→Bool
 |none=>true
 |some _=>false
def DW:AV→AV→Option (Bool×gq)
 | .gW,.gW=>some (true,.iface)
 | .iface _ _,.gW=>some (false,.iface)
 | .fC,.fC=>some (true,.ptr)
 | .ptr _ _,.fC=>some (false,.ptr)
 | .cb _ _,.fC=>some (false,.ptr)
 | .eA,.eA=>some (true,.map)
 | .mp _,.eA=>some (false,.map)
 | .val (.map _ _) y,.eA=>some (zq y,.map)
 | .fD,.fD=>some (true,.func)
 | .func _ _ _,.fD=>some (false,.func)
 | .nq c,.eA=>some (c,.map)
 |_,_=>none
def eF:TypeDesc→Option gq
 | .interface _=>some .iface
 | .pointer _=>some .ptr
 | .map _ _=>some .map
 | .func _ _ _=>some .func
 |_=>none
def isConst:Operand→Bool
 | .const _=>true
 |_=>false
def zr(d:TypeDesc)(k:gq):Bool:=
 match eF d with
 |some k'=>Nat.beq (gq.code k) (gq.code k')
 |none=>false
theorem yd{d:TypeDesc}{k:gq}(h:zr d k=true):eF d=some k:=by
 grind [zr,gq.iS,bT]
def KT(P:Program)(t:TypeId)(op:BinOp)(oy:Operand)(x y:AV):Option AV:=
 match op,DW x y,P.underlying t with
 | .eql,some (b,k),some d=>if isConst oy&&zr d k then some (.val .bool b) else none
 | .neq,some (b,k),some d=>if isConst oy&&zr d k then some (.val .bool (!b)) else none
 |_,_,_=>none
theorem RV.vE{E:Env}{w:World}{v:Value}(h:RV E w .gW v):v= .nilIface:=by
 rcases RV.iZ rfl h with⟨hh,_⟩|⟨_,hh⟩
 ·cases hh
 ·simpa[RC] using hh
theorem RV.qk{E:Env}{w:World}{v:Value}(h:RV E w .fC v):v= .pointer none:=by
 rcases RV.iZ rfl h with⟨hh,_⟩|⟨_,hh⟩
 ·cases hh
 ·simpa[RC] using hh
theorem RV.mP{E:Env}{w:World}{v:Value}(h:RV E w .eA v):v= .map none:=by
 rcases RV.iZ rfl h with⟨hh,_⟩|⟨_,hh⟩
 ·cases hh
 ·simpa[RC] using hh
theorem RV.vF{E:Env}{w:World}{v:Value}(h:RV E w .fD v):v= .nilFunc:=by
 rcases RV.iZ rfl h with⟨hh,_⟩|⟨_,hh⟩
 ·cases hh
 ·simpa[RC] using hh
theorem ye{P:Program}{E:Env}{w:World}{t:TypeId}{d:TypeDesc}{x y:AV}{vx vy:Value}{b:Bool}{k:gq}(hu:P.underlying t=some d)(hk:eF d=some k)(hx:RV E w x vx)(hy:RV E w y vy)(h:DW x y=some (b,k)):
 (Op.equal t vx vy).run P w= .ok b w∧(∀(op:BinOp)(ox oy:Operand),isConst oy=true→(eqGuard op t ox oy vx vy).run P w= .ok () w)∧(binOp .eql t vx vy).run P w= .ok (.bool b) w∧(binOp .neq t vx vy).run P w= .ok (.bool (!b)) w:=by
 have e0:Op.maxDepth=9999+1:=rfl
 have fin:(Op.equal t vx vy).run P w= .ok b w→(∀(op:BinOp)(ox oy:Operand),isConst oy=true→(eqGuard op t ox oy vx vy).run P w= .ok () w)→binOp .eql t vx vy=(do pure (.bool (←Op.equal t vx vy)))→binOp .neq t vx vy=(do pure (.bool (!(←Op.equal t vx vy))))→
  (Op.equal t vx vy).run P w= .ok b w∧(∀(op:BinOp)(ox oy:Operand),isConst oy=true→(eqGuard op t ox oy vx vy).run P w= .ok () w)∧(binOp .eql t vx vy).run P w= .ok (.bool b) w∧(binOp .neq t vx vy).run P w= .ok (.bool (!b)) w:=by
  simp_all
 have gd:∀(op:BinOp)(ox oy:Operand),isConst oy=true→(eqGuard op t ox oy .nilIface .nilIface).run P w= .ok () w:=by
  intro op ox oy hc
  cases oy with
  |const c=>cases op<;>simp[eqGuard]
  |_=>trivial
 unfold DW at h
 split at h<;>cases h
 ·obtain rfl:=RV.vE hx
  obtain rfl:=RV.vE hy
  cases d<;>simp[eF] at hk
  exact fin (by rw[Op.equal,e0,Op.equalIn];simp[run_underlying hu]) gd rfl rfl
 ·rename_i ti v
  obtain⟨u,rfl⟩:∃u,vx= .iface ti u:=by
   rcases RV.iZ rfl hx with⟨hh,_⟩|⟨_,hh⟩
   ·cases hh
   ·obtain⟨u,e,_⟩:=hh;grind
  obtain rfl:=RV.vE hy
  cases d<;>simp[eF] at hk
  exact fin (by rw[Op.equal,e0,Op.equalIn];simp[run_underlying hu]) (by simp_all[eqGuard]) rfl rfl
 ·obtain rfl:=RV.qk hx
  obtain rfl:=RV.qk hy
  cases d<;>simp[eF] at hk
  exact fin (by rw[Op.equal,e0,Op.equalIn];simp[run_underlying hu]) (by simp_all[eqGuard]) rfl rfl
 ·obtain⟨a,rfl⟩:∃a,vx= .pointer (some a):=by
   rcases RV.iZ rfl hx with⟨hh,_⟩|⟨_,hh⟩
   ·cases hh
   ·obtain⟨g,_,e,_⟩:=hh;grind
  obtain rfl:=RV.qk hy
  cases d<;>simp[eF] at hk
  exact fin (by rw[Op.equal,e0,Op.equalIn];simp[run_underlying hu]) (by simp_all[eqGuard]) rfl rfl
 ·obtain⟨a,rfl⟩:∃a,vx= .pointer (some a):=by
   rcases RV.iZ rfl hx with⟨hh,_⟩|⟨_,hh⟩
   ·cases hh
   ·obtain⟨bb,o,cs,e,_⟩:=hh;grind
  obtain rfl:=RV.qk hy
  cases d<;>simp[eF] at hk
  exact fin (by rw[Op.equal,e0,Op.equalIn];simp[run_underlying hu]) (by simp_all[eqGuard]) rfl rfl
 ·obtain rfl:=RV.mP hx
  obtain rfl:=RV.mP hy
  cases d<;>simp[eF] at hk
  exact fin (by rw[Op.equal,e0,Op.equalIn];simp[run_underlying hu]) (by simp_all[eqGuard]) rfl rfl
 ·obtain⟨a,rfl⟩:∃a,vx= .map (some a):=by
   rcases RV.iZ rfl hx with⟨hh,_⟩|⟨_,hh⟩
   ·cases hh
   ·obtain⟨g,_,e⟩:=hh;grind
  obtain rfl:=RV.mP hy
  cases d<;>simp[eF] at hk
  exact fin (by rw[Op.equal,e0,Op.equalIn];simp[run_underlying hu]) (by simp_all[eqGuard]) rfl rfl
 ·rename_i k' v' y'
  obtain⟨a,e,hr⟩:=RV.atom rfl hx
  simp at e;subst e
  obtain rfl:=RV.mP hy
  cases d<;>simp[eF] at hk
  rcases hr with⟨rfl,rfl⟩|⟨es,g,en,clock,rfl,rfl,_⟩
  ·exact fin (by rw[Op.equal,e0,Op.equalIn];simp[run_underlying hu,zq]) (by simp_all[eqGuard]) rfl rfl
  ·exact fin (by rw[Op.equal,e0,Op.equalIn];simp[run_underlying hu,zq]) (by simp_all[eqGuard]) rfl rfl
 ·obtain rfl:=RV.vF hx
  obtain rfl:=RV.vF hy
  cases d<;>simp[eF] at hk
  exact fin (by rw[Op.equal,e0,Op.equalIn];simp[run_underlying hu]) (by simp_all[eqGuard]) rfl rfl
 ·obtain⟨f,c1,c2,rfl⟩:∃f c1 c2,vx= .func f c1 c2:=by
   rcases RV.iZ rfl hx with⟨hh,_⟩|⟨_,hh⟩
   ·cases hh
   ·obtain⟨c1,c2,e,_⟩:=hh;grind
  obtain rfl:=RV.vF hy
  cases d<;>simp[eF] at hk
  exact fin (by rw[Op.equal,e0,Op.equalIn];simp[run_underlying hu]) (by simp_all[eqGuard]) rfl rfl
 ·obtain⟨a,rfl,ha⟩:∃a:Option Nat,vx= .map a∧(a=none↔b=true):=by
   rcases RV.iZ rfl hx with⟨hh,_⟩|⟨_,hh⟩
   ·cases hh
   ·obtain⟨a,e,ha⟩:=hh;grind
  obtain rfl:=RV.mP hy
  cases d<;>simp[eF] at hk
  cases a with
  |
   none=>
   have hb:=ha.1 rfl;subst hb
   exact fin (by rw[Op.equal,e0,Op.equalIn];simp[run_underlying hu]) (by simp_all[eqGuard]) rfl rfl
  |
   some g=>
   have hb:b=false:=by
    grind
   subst hb
   exact fin (by rw[Op.equal,e0,Op.equalIn];simp[run_underlying hu]) (by simp_all[eqGuard]) rfl rfl
theorem KU{P:Program}{E:Env}{w:World}{t:TypeId}{op:BinOp}{ox oy:Operand}{x y r:AV}{vx vy:Value}(hx:RV E w x vx)(hy:RV E w y vy)(h:KT P t op oy x y=some r):
 (eqGuard op t ox oy vx vy).run P w= .ok () w∧∃v,(binOp op t vx vy).run P w= .ok v w∧RV E w r v:=by
 unfold KT at h
 split at h
 ·rename_i b k d hn hd
  split at h
  ·rename_i hc
   cases h
   simp only[bB] at hc
   obtain⟨hc1,hc2⟩:=hc
   obtain⟨_,h2,h3,_⟩:=ye hd (yd hc2) hx hy hn
   grind [RV.bool]
  grind
 ·rename_i b k d hn hd
  split at h
  ·rename_i hc
   cases h
   simp only[bB] at hc
   obtain⟨hc1,hc2⟩:=hc
   obtain⟨_,h2,_,h3⟩:=ye hd (yd hc2) hx hy hn
   grind [RV.bool]
  grind
 grind
def AV.zt:AV→Option Nat
 | .func (.func f) .nil .nil=>some f
 |_=>none
theorem DX{E:Env}{w:World}{x:AV}{v:Value}{f:Nat}(h:x.zt=some f)(hx:RV E w x v):v=Dj (some f):=by
 unfold AV.zt at h
 split at h
 ·cases h
  rcases RV.iZ rfl hx with⟨hh,_⟩|⟨_,hh⟩
  ·cases hh
  ·obtain⟨a,b,e,h1,h2,_⟩:=hh
   have ha:a= #[]:=by apply lQ;trivial
   have hb:b= #[]:=by apply lQ;trivial
   subst ha;subst hb
   exact(List.cons.inj e).1
 grind
def Gi:List (Option Nat)→List (Nat×AV)→Option (List (Option Nat))
 |xs,[]=>some xs
 |
  xs,(i,v)::l=>match v.zt with
  |some f=>if Nat.blt i xs.length then Gi (xs.set i (some f)) l else none
  |none=>none
theorem B8{E:Env}{w:World}:
 ∀{ps:List (Nat×AV)}{vs:List (Nat×Value)}{xs ys:List (Option Nat)}{cells:Array Value},RP E w ps vs→cells.toList=xs.map Dj→Gi xs ps=some ys→
  ∃am5,Instr.fill (fun i=>some (i*1,1)) cells vs=some am5∧am5.toList=ys.map Dj∧ys.length=xs.length
 |
  [],[],xs,ys,cells,_,hr,h=>by
  cases h;exact⟨cells,rfl,hr,rfl⟩
 |[],_::_,_,_,_,h,_,_=>h.elim
 |_::_,[],_,_,_,h,_,_=>h.elim
 |
  (i,x)::ps,(j,v)::vs,xs,ys,cells,⟨e,hx,hps⟩,hr,h=>by
  simp only at e;subst e
  simp only[Gi] at h
  split at h
  ·rename_i f hf
   split at h
   ·rename_i hi
    have hi:i<xs.length:=by simp_all
    have hv:v=Dj (some f):=DX hf hx
    have hsz:cells.size=xs.length:=by rw[←pE,hr,im]
    obtain⟨am5,f1,f2⟩:=nM (fun i=>some (i*1,1)) cells i (i*1) 1 v vs rfl (by rw[hv];rfl) (by omega)
    rw[f1]
    have aR:am5.toList=(xs.set i (some f)).map Dj:=by
     simp_all[List.set_eq_take_append_cons_drop,Dj,Value.cells]
    obtain⟨c2,g1,g2,g3⟩:=B8 hps aR h
    exact⟨c2,g1,g2,by rw[g3,cj]⟩
   grind
  grind
def vG(n:Nat):Nat→List (Nat×AV)→Option AV
 |k,[]=>if Nat.beq k n then some .nil else none
 |k,(i,.func f a b)::l=>if Nat.beq i k then(vG n (k+1) l).map (.cons (.func f a b)) else none
 |_,_=>none
theorem rJ{E:Env}{w:World}{n:Nat}:
 ∀{ps:List (Nat×AV)}{vs:List (Nat×Value)}{k:Nat}{r:AV}{cells:Array Value},RP E w ps vs→cells.size=n→vG n k ps=some r→
  ∃am5,Instr.fill (fun i=>some (i*1,1)) cells vs=some am5∧am5.size=n∧am5.toList.take k=cells.toList.take k∧k≤n∧RC E w r (am5.toList.drop k)∧r.isAgg=true
 |
  [],[],k,r,cells,_,hn,h=>by
  unfold vG at h
  split at h
  case isFalse=>cases h
  rename_i h1
  have:=bT h1
  cases h
  exact⟨cells,rfl,hn,rfl,by omega,by show List.drop k cells.toList= [];rw[pJ (by simp;omega)],rfl⟩
 |[],_::_,_,_,_,h,_,_=>h.elim
 |_::_,[],_,_,_,h,_,_=>h.elim
 |
  (i,x)::ps,(j,v)::vs,k,r,cells,⟨e,hx,hps⟩,hn,h=>by
  simp only at e;subst e
  unfold vG at h
  split at h
  ·rename_i e;cases e
  ·rename_i f a b l e
   cases e
   split at h
   case isFalse=>cases h
   rename_i h1
   have:=bT h1
   subst this
   obtain⟨y,hy,rfl⟩:=Option.map_eq_some_iff.1 h
   have hv:RC E w (.func f a b) [v]:=by
    rcases RV.iZ rfl hx with⟨hh,_⟩|⟨_,hh⟩
    ·cases hh
    ·exact hh
   have hc:v.cells.toList= [v]:=by
    obtain⟨_,_,e,_⟩:=hv
    cases(List.cons.inj e).1
    rfl
   have hlt:i+1≤n:=by
    obtain⟨_,_,_,_,g4,_⟩:=rJ (cells:=cells) hps hn hy
    exact g4
   obtain⟨c1,f1,f2⟩:=nM (fun i=>some (i*1,1)) cells i (i*1) 1 v vs rfl (by rw[←pE,hc];rfl) (by omega)
   rw[f1]
   have hl1:c1.size=n:=by rw[←pE,f2];simp[hc];omega
   obtain⟨c2,g1,g2,g3,_,g5,_⟩:=rJ (cells:=c1) hps hl1 hy
   have e1:c1.toList.take (i+1)=cells.toList.take i++[v]:=by
    rw[f2,hc,Nat.mul_one,sm,List.take_append,gJ (by simp;omega)]
    simp
    rw[show i+1 -min i cells.size=1 by omega]
    rfl
   have hlen:(cells.toList.take i).length=i:=by simp;omega
   have e2:c2.toList.take i=cells.toList.take i:=by
    have:c2.toList.take i=(c2.toList.take (i+1)).take i:=by rw[sq,pK (by omega)]
    rw[this,g3,e1,List.take_append_of_le_length (by omega),sq,Nat.min_self]
   have e3:c2.toList.drop i= [v]++c2.toList.drop (i+1):=by
    have:c2.toList.drop i=(c2.toList.take (i+1)).drop i++c2.toList.drop (i+1):=by
     rw[←List.drop_append_of_le_length (by simp;omega),lM]
    rw[this,g3,e1,List.drop_append_of_le_length (by omega),pJ (by omega)]
    rfl
   exact⟨c2,g1,g2,e2,by omega,by rw[e3];exact⟨[v],_,rfl,hv,g5⟩,rfl⟩
  ·cases h
def vH(G:cd)(t:TypeId)(ps:List (Nat×AV)):Option AV:=
 match G.at t with
 |
  some td=>match td.ty with
  |
   .fns n=>match Gi (List.replicate n none) ps with
   |some xs=>some (.val (.fns n) xs)
   |none=>vG n 0 ps
  |_=>none
 |none=>none
theorem DY{P:Program}{G:cd}(T:bM P G){E:Env}{w:World}{t:TypeId}{ps:List (Nat×AV)}{vs:Array (Nat×Value)}(hp:RP E w ps vs.toList){r:AV}(h:vH G t ps=some r):
 ∃v,(Instr.build t vs).run P w= .ok v w∧RV E w r v:=by
 unfold vH at h
 split at h
 ·rename_i td ht
  obtain⟨z,hz,hz1,hz2⟩:=T.zero ht w
  split at h
  ·rename_i n hty
   obtain⟨te,h1,h2,h3⟩:=T.JM ht hty
   have hsz:=T.size h2 w
   rw[h3] at hsz
   rw[hty] at hz1
   have hrel:RC E w (Ty.zero (.fns n)) z.cells.toList:=(fS (E:=E) (w:=w) hz1).1
   have hrel2:z.cells.toList=(List.replicate n none).map Dj:=hrel.2
   split at h
   ·rename_i xs hxs
    cases h
    obtain⟨am5,f1,f2,f3⟩:=B8 hp hrel2 hxs
    refine⟨.agg am5,?_,RV.eI (Or.inl ⟨rfl,am5,rfl,⟨by grind,f2⟩⟩)⟩
    simp_all[Instr.build,underlying,Ty.size]
   ·have hcs:z.cells.size=n:=by rw[←pE,hrel2];simp
    obtain⟨am5,f1,f2,_,_,f3,f4⟩:=rJ hp hcs h
    refine⟨.agg am5,?_,RV.eI (Or.inl ⟨f4,am5,rfl,f3⟩)⟩
    simp_all[Instr.build,underlying,Ty.size]
  grind
 grind
def Gj(G:cd)(t:TypeId):Option (Ty×Ty):=
 match G.at t with
 |
  some td=>match G.at td.e,G.at td.e2 with
  |some k,some v=>if td.ty.mD&&k.ty.keyed then some (k.ty,v.ty) else none
  |_,_=>none
 |none=>none
def isInt:AV→Bool
 | .val (.int _) _=>true
 |_=>false
def TR:Option AV→Bool
 |some y=>isInt y
 |none=>true
def oU(G:cd)(d:Nat)(t:TypeId)(x:Option AV):Option fK:=
 match Gj G t with
 |some (kt,vt)=>if TR x then some ⟨.mp d,[(d,some (.map kt vt []))],[d],[]⟩ else none
 |none=>none
theorem xe{P:Program}{G:cd}(T:bM P G){gl:Ctx}{σ:St}{E:Env}{a:Act}{w:World}(h:cp gl σ E a w){d:Nat}{t:TypeId}{r:fK}{x:Option AV}{rs:Option Value}(hrs:RO E w x rs)(he:oU G d t x=some r)(hfr:∀b∈r.fr,σ.fresh b):
 ∃v w' E',(Instr.makeMap t rs).run P w= .ok v w'∧cp gl {σ with hp:=aR σ.hp r.hw} E' a w'∧RV E' w' r.v v∧Ext gl.md (bK σ.hp E) E w (bK (aR σ.hp r.hw) E') E' w':=by
 unfold oU at he
 split at he
 ·rename_i kt vt hm
  split at he
  ·rename_i hx
   cases he
   have h1:∃ke ve,P.underlying t=some (.map ke ve):=by
    unfold Gj at hm
    split at hm
    ·rename_i td ht
     split at hm
     ·rename_i k v hk hv
      split at hm
      ·rename_i hc
       cases hm
       simp only[bB] at hc
       exact⟨_,_,T.mapOf ht hc.1⟩
      grind
     grind
    grind
   obtain⟨ke,ve,h1⟩:=h1
   have hf:=hfr d (by simp)
   obtain⟨g1,x1⟩:=h.fresh (w':=w.alloc (.map #[] 0)) hf (g:=some w.heap.size) (sv:=undef) (t:=.unit) (k:=.map kt vt []) rfl (Tp.r rfl rfl) rfl (by simp) (fun i hi=>by grind [heap_alloc_old]) (fun i hi=>by grind)
    ⟨by simp,by grind,w.heap.size, #[],0,by simp[Env.at],heap_alloc_new w _,trivial,by simp,by simp⟩
   refine⟨.map (some w.heap.size),_,_,?_,g1,RV.eI (Or.inr ⟨rfl,w.heap.size,by simp[Env.at],rfl⟩),x1⟩
   cases rs with
   |none=>trivial
   |
    some v=>
    cases x with
    |none=>trivial
    |
     some y=>
     have hv:RV E w y v:=hrs
     cases y with
     |
      val ty n=>
      cases ty with
      |
       int k=>
       obtain⟨rfl,_⟩:=RV.dp hv
       simp[Instr.makeMap,run_underlying h1,asInt,asIntOf]
      |_=>trivial
     |_=>trivial
  grind
 grind
def vJ(P:Program)(G:cd)(d:Nat)(op:Op)(ev:Operand→AV):Option fK:=
 match op with
 | .build t ps=>(vH G t (nO ev ps)).map .one
 | .binOp o t x y _=>(KT P t o y (ev x) (ev y)).map .one
 | .index t x i=>(tU G t (ev x) (ev i)).map .MK
 | .makeMap t x=>oU G d t (x.map ev)
 | .call {callee:=.builtin .min,args:=⟨[x,y]⟩,argTypes:=_}=>(KK (ev x) (ev y)).map .one
 | .call {callee:=.builtin .max,args:=⟨[x,y]⟩,argTypes:=_}=>(KL (ev x) (ev y)).map .one
 | .makeFunc (.func _) _ _=>some (.one .fx)
 |_=>none
theorem KV{P:Program}{G:cd}(T:bM P G){gl:Ctx}{σ:St}{E:Env}{a:Act}{w:World}(h:cp gl σ E a w){o:Oper}{d:Nat}{ev:Operand→AV}{r:fK}
 (hev:∀x∈o.op.operands.toList,RV E w (ev x) (a.eval x)) (he:vJ P G d o.op ev=some r) (hvc:dQ r.vc) (hfr:∀b∈r.fr,σ.fresh b):cm P gl σ E a w o r:=by
 unfold vJ at he
 split at he
 ·rename_i t ps hop
  obtain⟨u,hu,rfl⟩:=Option.map_eq_some_iff.1 he
  have hp:RP E w (nO ev ps) (ps.map fun(i,x)=>(i,a.eval x)).toList:=by
   rw[Array.toList_map]
   refine lB (fun x hx=>hev x.2 ?_)
   simp only[hop,Op.operands,List.mem_map]
   grind
  obtain⟨v,h1,h2⟩:=DY T hp hu
  exact cm.same h (v:=v) (by simp[execOp,hop,h1]) h2
 ·rename_i bo t x y t2 hop
  obtain⟨u,hu,rfl⟩:=Option.map_eq_some_iff.1 he
  obtain⟨h0,v,h1,h2⟩:=KU (P:=P) (ox:=x) (hev x (by simp[hop,Op.operands])) (hev y (by simp[hop,Op.operands])) hu
  exact cm.same h (v:=v) (by simp[execOp,hop,h0,h1]) h2
 ·rename_i t x i hop
  obtain⟨⟨u,vc⟩,hu,rfl⟩:=Option.map_eq_some_iff.1 he
  obtain⟨v,h1,h2⟩:=DV T (hev x (by simp[hop,Op.operands])) (hev i (by simp[hop,Op.operands])) hu hvc
  exact cm.same h (v:=v) (by simp[execOp,hop,h1]) h2
 ·rename_i t x hop
  obtain⟨v,w',E',h1,h2,h3,h4⟩:=xe T h (rs:=x.map a.eval) (zP (fun y hy=>hev y (by simp[hop,Op.operands,hy]))) he hfr
  exact⟨_,v,w',E',by simp[execOp,hop,h1],Or.inl rfl,h2,h3,h4⟩
 ·rename_i x y ts hop
  obtain⟨u,hu,rfl⟩:=Option.map_eq_some_iff.1 he
  obtain⟨v,h1,h2⟩:=KM (P:=P) (ts:=ts) (t:=o.type) (hev x (by simp[hop,Op.operands,Call.operands])) (hev y (by simp[hop,Op.operands,Call.operands])) hu
  exact cm.same h (v:=v) (by simp[execOp,hop,resolve,invoke,builtin,h1]) h2
 ·rename_i x y ts hop
  obtain⟨u,hu,rfl⟩:=Option.map_eq_some_iff.1 he
  obtain⟨v,h1,h2⟩:=KN (P:=P) (ts:=ts) (t:=o.type) (hev x (by simp[hop,Op.operands,Call.operands])) (hev y (by simp[hop,Op.operands,Call.operands])) hu
  exact cm.same h (v:=v) (by simp[execOp,hop,resolve,invoke,builtin,h1]) h2
 ·rename_i f fs cs hop
  cases he
  exact cm.same h (v:=.func (.func f) (fs.map a.eval) (cs.map a.eval)) (by simp[execOp,hop,Instr.makeFunc]) (RV.eI (Or.inr ⟨rfl,_,_,_,rfl⟩))
 grind
end Go.Ax
namespace Go.Ax
def zu(G:cd)(t:TypeId)(x:AV):Option AV:=
 match G.at t with
 |some td=>if x.plain&& !Ty.same td.ty (.aS .iface) then some (.iface t x) else none
 |none=>none
def vK(G:cd)(x:AV)(s:TypeId):Option AV:=
 match x,G.at s with
 | .iface t v,some td=>if Nat.beq t s&&v.plain&& !Ty.same td.ty (.aS .iface) then some (.gm (.cons v (.cons (.val .bool true) .nil))) else none
 |_,_=>none
def vL(G:cd)(op:Op)(ev:Operand→AV):Option fK:=
 match op with
 | .makeInterface t x=>(zu G t (ev x)).map .one
 | .typeAssert x _ s true=>(vK G (ev x) s).map .one
 |_=>none
theorem bM.Gk{P:Program}{G:cd}(T:bM P G){t:TypeId}{td:TD}(h:G.at t=some td)(hn:Ty.same td.ty (.aS .iface)=false):∃d,P.underlying t=some d∧∀x,d≠.interface x:=by
 obtain⟨ii,d,_,h1,_,h2,_⟩:=T.info h
 grind [cG]
theorem DZ{P:Program}{G:cd}(T:bM P G){E:Env}{w:World}{t:TypeId}{x r:AV}{v:Value}(hx:RV E w x v)(h:zu G t x=some r):∃u,(Instr.makeInterface t v).run P w= .ok u w∧RV E w r u:=by
 unfold zu at h
 split at h
 ·rename_i td htd
  split at h
  ·rename_i hc
   cases h
   simp only[bB,gV] at hc
   obtain⟨d,h1,h2⟩:=T.Gk htd hc.2
   refine⟨.iface t v,?_,?_⟩
   ·simp_all[Instr.makeInterface,underlying]
   ·refine RV.eI (Or.inr ⟨rfl,v,rfl,?_⟩)
    rcases RV.iZ hc.1 hx with⟨e,cs,e1,e2⟩|⟨e,e2⟩<;>grind
  grind
 grind
theorem B9{P:Program}{G:cd}(T:bM P G){E:Env}{w:World}{s xt:TypeId}{x r:AV}{v:Value}(hx:RV E w x v)(h:vK G x s=some r):∃u,(Instr.typeAssert v xt s true).run P w= .ok u w∧RV E w r u:=by
 unfold vK at h
 split at h
 ·rename_i t a td htd
  split at h
  ·rename_i hc
   cases h
   simp only[bB,gV] at hc
   obtain⟨⟨hc1,hc2⟩,hc3⟩:=hc
   have hc1:=bT hc1
   subst hc1
   obtain⟨d,h1,h2⟩:=T.Gk htd hc3
   obtain⟨y,e,hy⟩:=RV.atom rfl hx
   simp at e
   subst e
   have hy0:cE E w a y:=by
    trivial
   refine⟨.tuple #[y,.bool true],?_,?_⟩
   ·simp_all[Instr.typeAssert,underlying]
   ·exact⟨#[y,.bool true],rfl,hy0,Or.inr ⟨rfl,by trivial⟩,rfl⟩
  grind
 grind
theorem KW{P:Program}{G:cd}(T:bM P G){gl:Ctx}{σ:St}{E:Env}{a:Act}{w:World}(h:cp gl σ E a w){o:Oper}{ev:Operand→AV}{r:fK}
 (hev:∀x∈o.op.operands.toList,RV E w (ev x) (a.eval x)) (he:vL G o.op ev=some r):cm P gl σ E a w o r:=by
 unfold vL at he
 split at he
 ·rename_i t x hop
  obtain⟨u,hu,rfl⟩:=Option.map_eq_some_iff.1 he
  obtain⟨v,h1,h2⟩:=DZ T (hev x (by simp[hop,Op.operands])) hu
  exact cm.same h (v:=v) (by simp[execOp,hop,h1]) h2
 ·rename_i x xt s hop
  obtain⟨u,hu,rfl⟩:=Option.map_eq_some_iff.1 he
  obtain⟨v,h1,h2⟩:=B9 (xt:=xt) T (hev x (by simp[hop,Op.operands])) hu
  exact cm.same h (v:=v) (by simp[execOp,hop,h1]) h2
 grind
end Go.Ax
namespace Go.Ax
section
variable{P:Program} {G:cd} (T:bM P G) {E:Env} {w:World} {α:Type} {kt:Ty}
def RK(E:Env)(w:World)(kt:Ty):List MapEntry→List (kt.den×α)→Prop
 |[],[]=>True
 |e::es,x::xs=>cE E w (.val kt x.1) e.key∧RK E w kt es xs
 |_,_=>False
theorem RK.at:∀{es:List (kt.den×α)}{en:List MapEntry},en.length=es.length→(∀(i:Nat) x,es[i]? =some x→∃m,en[i]? =some m∧cE E w (.val kt x.1) m.key)→RK E w kt en es
 |[],[],_,_=>trivial
 |[],_::_,hl,_=>by simp at hl
 |_::_,[],hl,_=>by simp at hl
 |
  x::es,m::en,hl,h=>by
  obtain⟨u,h1,h2⟩:=h 0 x rfl
  simp at h1;subst h1
  exact⟨h2,RK.at (by simpa using hl) (fun i y hy=>by simpa using h (i+1) y (by simpa using hy))⟩
def yf(l:List MapEntry)(i0:Nat):Option (Nat×α)→Option (Nat×Value)→Prop
 |none,none=>True
 |some x,some y=>x.1=y.1∧i0≤x.1∧∃e,l[x.1 -i0]? =some e∧e.val=y.2
 |_,_=>False
theorem yf.up{e:MapEntry}{l:List MapEntry}{i:Nat}{x:Option (Nat×α)}{y:Option (Nat×Value)}(h:yf l (i+1) x y):yf (e::l) i x y:=by
 cases x with
 |
  none=>cases y with
  |none=>trivial
  |some _=>trivial
 |
  some x=>cases y with
  |none=>trivial
  |
   some y=>
   obtain⟨h1,h2,m,h3,h4⟩:=h
   refine⟨h1,by omega,m,?_,h4⟩<;>grind
include T in
theorem sN{t:TypeId}{td:TD}(ht:G.at t=some td)(he:iH P G 40 t td.ty=true){k:td.ty.den}{v:Value}(hv:cE E w (.val td.ty k) v):∀{l:List MapEntry}{es:List (td.ty.den×α)}(i:Nat),RK E w td.ty l es→
 ∃r,(Instr.findAsking t v l i).run P w= .ok r w∧yf l i (cz td.ty k es i) r
 |[],[],i,_=>⟨none,by trivial,trivial⟩
 |[],_::_,_,h=>h.elim
 |_::_,[],_,h=>h.elim
 |
  e::l,x::es,i,⟨h1,h3⟩=>by
  have hq:(Op.equal t v e.key).run P w= .ok (bD td.ty k x.1) w:=tY T (E:=E) (w:=w) (Op.maxDepth -40) 40 t td ht he k x.1 v e.key hv h1
  cases hb:bD td.ty k x.1 with
  |true=>exact⟨some (i,e.val),by simp[Instr.findAsking,hq,hb],by simp only[cz,hb,bU];exact⟨rfl,dc _,e,by simp,rfl⟩⟩
  |
   false=>
   obtain⟨r,r1,r2⟩:=sN ht he hv (i+1) h3
   exact⟨r,by simp[Instr.findAsking,hq,hb,r1],by simp only[cz,hb];exact r2.up⟩
theorem Ca{d:TypeDesc}{k:kt.den}{v:Value}(hv:cE E w (.val kt k) v):∀{l:List MapEntry}{es:List (kt.den×α)}(i:Nat){r:Option (Nat×Value)},RK E w kt l es→Instr.findNow d v l i=some r→yf l i (cz kt k es i) r
 |[],[],i,r,_,h=>by simp[Instr.findNow] at h;subst h;trivial
 |[],_::_,_,_,h,_=>h.elim
 |_::_,[],_,_,h,_=>h.elim
 |
  e::l,x::es,i,r,⟨h1,h3⟩,h=>by
  simp only[Instr.findNow] at h
  split at h
  ·rename_i hs
   have:=lz hv h1 hs
   cases h
   simp only[cz,←this,bU];exact⟨rfl,dc _,e,by simp,rfl⟩
  ·rename_i hs
   have:=lz hv h1 hs
   simp only[cz,←this,dr,cT]
   exact(Ca hv (i+1) h3 h).up
  ·cases h
include T in
theorem Cb{t:TypeId}{td:TD}(ht:G.at t=some td)(he:iH P G 40 t td.ty=true){k:td.ty.den}{v:Value}(hv:cE E w (.val td.ty k) v){l:List MapEntry}{es:List (td.ty.den×α)}(h:RK E w td.ty l es):
 ∃r,(Instr.findKey t v l).run P w= .ok r w∧yf l 0 (cz td.ty k es 0) r:=by
 obtain⟨ii,dd,_,hu,_⟩:=T.info ht
 unfold Instr.findKey
 simp only[Sem.run_bind,run_underlying hu,Result.andThen_ok]
 split
 ·rename_i r hr
  exact⟨r,rfl,Ca hv 0 h hr⟩
 ·exact sN T ht he hv 0 h
end
theorem oV{α:Type}{kt:Ty}(hk:kt.keyed=true){k:kt.den}:∀{es:List (kt.den×α)}{i j:Nat}{y:α},cz kt k es i=some (j,y)→i≤j∧es[j -i]? =some (k,y)
 |[],i,j,y,h=>by trivial
 |
  x::es,i,j,y,h=>by
  simp only[cz] at h
  split at h
  ·rename_i hb
   cases h
   simp_all[cn]
  ·obtain⟨h1,h2⟩:=oV hk h
   grind
theorem oW{α:Type}{kt:Ty}(hk:kt.keyed=true){k:kt.den}:∀{es:List (kt.den×α)}{i:Nat},cz kt k es i=none→k∉es.map (·.1)
 |[],i,h=>by simp
 |
  x::es,i,h=>by
  simp only[cz] at h
  split at h
  ·cases h
  ·rename_i hb
   have h2:=oW hk h
   simp_all[cn]
theorem ql{α:Type}{kt:Ty}(hk:kt.keyed=true){k:kt.den}{y:α}:∀{es:List (kt.den×α)}{i:Nat}{z:α},(es.map (·.1)).Nodup→es[i]? =some (k,z)→bC kt k y es=es.set i (k,y)
 |[],i,z,_,h=>by simp at h
 |
  x::es,0,z,_,h=>by
  simp_all[bC,cn]
 |
  x::es,i+1,z,hn,h=>by
  simp only[uF] at h
  simp only[d8,mr] at hn
  have hne:bD kt k x.1=false:=by
   cases hb:bD kt k x.1 with
   |false=>rfl
   |
    true=>
    have e:=(cn hk _ _).1 hb
    exact absurd (List.mem_map.2 ⟨_,je h,e⟩) hn.1
  simp only[bC,hne,List.set_cons_succ]
  rw[ql hk hn.2 h];rfl
theorem mQ{α:Type}{kt:Ty}(hk:kt.keyed=true){k:kt.den}{y:α}:∀{es:List (kt.den×α)},k∉es.map (·.1)→bC kt k y es=es++[(k,y)]
 |[],_=>rfl
 |
  x::es,h=>by
  simp only[d8,fJ,not_or] at h
  have hne:bD kt k x.1=false:=by
   cases hb:bD kt k x.1 with
   |false=>rfl
   |true=>exact absurd ((cn hk _ _).1 hb) h.1
  simp only[bC,hne]
  rw[mQ hk h.2];rfl
theorem rK{α:Type}{kt:Ty}{k:kt.den}{es:List (kt.den×α)}(hn:(es.map (·.1)).Nodup){i j:Nat}{y z:α}(h1:es[i]? =some (k,y))(h2:es[j]? =some (k,z)):i=j:=by
 have hi:i<(es.map (·.1)).length:=by grind
 have e1:(es.map (·.1))[i]? =some k:=by grind
 have e2:(es.map (·.1))[j]? =some k:=by grind
 grind [List.getElem?_inj]
theorem fU{α:Type}{kt:Ty}(hk:kt.keyed=true){k:kt.den}:∀{es:List (kt.den×α)},cC kt k es=true↔k∈es.map (·.1)
 |[]=>by simp[cC]
 |
  x::es=>by
  simp only[cC,fQ,d8,fJ,fU hk,cn hk]
end Go.Ax
namespace Go.Ax
def Ty.Ot:Ty→Bool
 | .map _ _| .slice _ _=>true
 |_=>false
def Ty.xf:Ty→Bool
 | .map _ _=>true
 |_=>false
theorem zv{P:Program}{G:cd}(T:bM P G){t:TypeId}{td:TD}(ht:G.at t=some td)(hs:td.ty.Ot=true)(w:World):(zeroValue t).run P w= .ok (zeroV td.ty) w:=by
 obtain⟨z,z1,z2,z3⟩:=T.zero ht w
 rw[z1]
 congr 1
 cases hty:td.ty with
 |
  slice bs u=>
  rw[hty] at z2 z3
  cases z with
  |agg cs=>trivial
  |
   slice a n c=>
   have z2:isZero (.slice bs u) (.slice a n c)=true:=z2
   cases a with
   |some _=>trivial
   |
    none=>
    simp only[isZero,bB] at z2
    have e1:=bT z2.1.2;have e2:=bT z2.2
    subst e1;subst e2;rfl
  |_=>trivial
 |
  map k u=>
  rw[hty] at z2 z3
  cases z with
  |agg cs=>trivial
  |
   map a=>
   have z2:isZero (.map k u) (.map a)=true:=z2
   cases a with
   |some _=>trivial
   |none=>rfl
  |_=>trivial
 |_=>rw[hty] at hs;trivial
theorem dn.adw{w:World}{S:Nat→Prop}{e:TypeId}{t:Ty}{v:Value}{og:Option Nat}{x:t.den}(ht:t.xf=true)(h:dn w S e t v og x):∃g,v= .map (some g):=by
 cases t with
 |map k u=>obtain⟨es',_,_,_,gg,_,_,_,e,_⟩:=h;grind
 |_=>cases ht
theorem yg{t:Ty}(ht:t.xf=true):zeroV t= .map none:=by
 cases t with
 |map k u=>rfl
 |_=>cases ht
theorem KX{t:Ty}(ht:t.xf=true):t.Ot=true:=by
 cases t with
 |map k u=>rfl
 |_=>cases ht
def qm(P:Program)(G:cd)(hb:Nat→Option aP)(t:TypeId)(x i:AV):Option (AV×List VC):=
 match jO G t,x with
 |
  some (ke,_,kt,vt),.mp b=>match hb b with
  |some (.pmap k u es _ f)=>if h:Ty.same k kt=true∧Ty.same u vt=true then(match i.bO kt,f with
   |some k',some (kx,v,_)=>if i.plain&&v.plain&& !v.isAgg&&u.Ot then some (v,[vc (iH P G 40 ke kt=true),vc (bD kt k' (Ty.aB h.1▸kx:kt.den)=true)]) else none
   |some k',none=>if i.plain&&u.xf then some (.nq (!(cC kt k' (Ty.aB h.1▸es:List (kt.den×u.den)))),[vc (iH P G 40 ke kt=true)]) else none
   |_,_=>none) else none
  |_=>none
 |_,_=>none
theorem nK{P:Program}{G:cd}(T:bM P G){E:Env}{w:World}{b:Nat}{ke:TypeId}{kd:TD}{vt:Ty}{es:List (kd.ty.den×vt.den)}{e2:TypeId}{f:Option (kd.ty.den×AV×Bool)}(hk:kd.ty.keyed=true)(h4:G.at ke=some kd)(he:iH P G 40 ke kd.ty=true)
 (hrb:RB E w b (.pmap kd.ty vt es e2 f)) {k':kd.ty.den} {vi:Value} (hkv:cE E w (.val kd.ty k') vi):
 ∃g en clock r,E.g b=some g∧w.heap[g]? =some (.map en clock)∧(∀em,(Instr.checkKey em 10000 ke vi).run P w= .ok () w)∧(Instr.findKey ke vi en.toList).run P w= .ok r w∧
  ((r=none∧k'∉es.map (·.1))∨∃i y m,r=some (i,m.val)∧es[i]? =some (k',y)∧en[i]? =some m):=by
 obtain⟨h1,h2,h3,g,en,clock,og,q1,q2,q3,q4,q5,q6,q7,q8⟩:=hrb
 have hrk:RK E w kd.ty en.toList es:=RK.at (by grind) (fun i x hx=>by
  grind)
 obtain⟨r,r1,r2⟩:=Cb T h4 he hkv hrk
 refine⟨g,en,clock,r,q1,q2,fun em=>fW T (E:=E) (w:=w) em 9960 40 ke kd h4 he k' vi hkv,r1,?_⟩
 cases hf:cz kd.ty k' es 0 with
 |
  none=>
  rw[hf] at r2
  cases r with
  |none=>exact Or.inl ⟨rfl,oW hk hf⟩
  |some _=>trivial
 |
  some p=>
  obtain⟨i,y⟩:=p
  rw[hf] at r2
  cases r with
  |none=>trivial
  |
   some q=>
   obtain⟨i',u⟩:=q
   obtain⟨e1,_,m,e2,e3⟩:=r2
   simp only[Nat.sub_zero] at e1 e2 e3
   subst e1;subst e3
   have:=(oV hk hf).2
   grind
theorem D0{P:Program}{G:cd}(T:bM P G){gl:Ctx}{E:Env}{w:World}{hp:List (Option aP)}(hw:HW gl E w hp){hb:Nat→Option aP}(hB:HB hb hp){t:TypeId}{x i:AV}{vx vi:Value}(hx:RV E w x vx)(hi:RV E w i vi){r:AV}{vcs:List VC}(h:qm P G hb t x i=some (r,vcs))(hvc:dQ vcs):
 ∃v,(Instr.lookup t vx vi false).run P w= .ok v w∧RV E w r v:=by
 unfold qm at h
 split at h
 ·rename_i ke ve kt vt b hm
  obtain⟨hu,hke,_,⟨kd,h4,h5⟩,⟨vd,h6,h7⟩⟩:=fZ T hm
  subst h5;subst h7
  split at h
  ·rename_i k u es e2 f hbk
   split at h
   ·rename_i hc
    obtain⟨c1,c2⟩:=hc
    have e1:=Ty.aB c1;subst e1
    have e2':=Ty.aB c2;subst e2'
    have hrb:=hw.cX b _ (hB b _ hbk)
    obtain⟨g0,hg0,ex⟩:=RV.atom rfl hx
    simp at ex;subst ex
    split at h
    ·rename_i k' kx v pr hk'
     split at h
     ·rename_i hpl
      simp only[dk,gU] at h
      obtain⟨er,ev⟩:=h
      subst ev
      rw[←er]
      simp only[bB,gV] at hpl
      obtain⟨⟨⟨p1,p2⟩,p3⟩,p4⟩:=hpl
      obtain⟨he,hkx,_⟩:=hvc
      have hkx:k'=kx:=(cn hke _ _).1 hkx
      subst hkx
      have hkv:=cE.bO hk' (RV.iZ p1 hi)
      obtain⟨g,en,clock,r,q1,q2,q3,q4,q5⟩:=nK T hke h4 he hrb hkv
      rw[q1] at hg0
      have hg0:=iR hg0
      subst hg0
      have anr:(getObj g).run P w= .ok (.map en clock) w:=by simp[getObj,Sem.run,q2]
      obtain⟨z1,z2,z3,g',en',anc,og,y1,y2,y3,y4,y5,y6,y7,y8⟩:=hrb
      rw[q1] at y1;cases y1
      rw[q2] at y2;cases y2
      rcases q5 with⟨e,hn⟩|⟨j,y,m,e,s1,s2⟩
      ·subst e
       refine⟨zeroV vd.ty,by simp only[Instr.lookup,Sem.run_bind,run_underlying hu,Result.andThen_ok,Sem.run_pure,anr,q3,q4,zv T h6 p4];rfl,RV.eI (Or.inr ⟨p3,?_⟩)⟩
       cases pr<;>grind
      ·subst e
       obtain⟨m',t1,_,t3,_⟩:=y7 j _ s1
       rw[s2] at t1;cases t1
       exact⟨m.val,by simp only[Instr.lookup,Sem.run_bind,run_underlying hu,Result.andThen_ok,Sem.run_pure,anr,q3,q4];rfl,RV.eI (Or.inr ⟨p3,(t3 v pr rfl).2⟩)⟩
     grind
    ·rename_i k' hk'
     split at h
     ·rename_i hpl
      cases h
      simp only[bB] at hpl
      obtain⟨p1,p4⟩:=hpl
      obtain⟨he,_⟩:=hvc
      have hkv:=cE.bO hk' (RV.iZ p1 hi)
      obtain⟨g,en,clock,r,q1,q2,q3,q4,q5⟩:=nK T hke h4 he hrb hkv
      rw[q1] at hg0
      have hg0:=iR hg0
      subst hg0
      have anr:(getObj g).run P w= .ok (.map en clock) w:=by simp[getObj,Sem.run,q2]
      obtain⟨z1,z2,z3,g',en',anc,og,y1,y2,y3,y4,y5,y6,y7,y8⟩:=hrb
      rw[q1] at y1;cases y1
      rw[q2] at y2;cases y2
      have hz:=zv T h6 (KX p4) w
      rcases q5 with⟨e,hn⟩|⟨j,y,m,e,s1,s2⟩
      ·subst e
       refine⟨zeroV vd.ty,by simp only[Instr.lookup,Sem.run_bind,run_underlying hu,Result.andThen_ok,Sem.run_pure,anr,q3,q4,hz];rfl,RV.eI (Or.inr ⟨rfl,none,by rw[yg p4],?_⟩)⟩
       grind [fU]
      ·subst e
       obtain⟨m',t1,_,_,t4⟩:=y7 j _ s1
       rw[s2] at t1;cases t1
       obtain⟨gg,hmv⟩:=(t4 (fun v pr hv=>by cases hv)).adw p4
       refine⟨m.val,by simp only[Instr.lookup,Sem.run_bind,run_underlying hu,Result.andThen_ok,Sem.run_pure,anr,q3,q4];rfl,RV.eI (Or.inr ⟨rfl,some gg,by rw[hmv],?_⟩)⟩
       have hm:cC kd.ty k' es=true:=(fU hke).2 (List.mem_map.2 ⟨_,je s1,rfl⟩)
       grind
     grind
    grind
   grind
  grind
 grind
end Go.Ax
namespace Go.Ax
def oB(kt vt:Ty)(kx:kt.den)(es:List (kt.den×vt.den)):Bool→List (kt.den×vt.den)
 |true=>es
 |false=>bC kt kx vt.aD es
def D1(P:Program)(G:cd)(hb:Nat→Option aP)(t:TypeId)(x k v:AV):Option fK:=
 match jO G t,x with
 |
  some (ke,_,kt,vt),.mp b=>match hb b with
  |some (.pmap k0 u es e2 (some (kx,_,pr)))=>if h:Ty.same k0 kt=true∧Ty.same u vt=true then(match k.bO kt with
   |some k'=>if k.plain&&v.plain&& !v.isAgg&&v.cK u then some ⟨.bot,[(b,some (.pmap k0 u (oB k0 u kx es pr) e2 (some (kx,v,true))))],[],[vc (iH P G 40 ke kt=true),vc (bD kt k' (Ty.aB h.1▸kx:kt.den)=true),vc (es.length+1≤aG)]⟩ else none
   |none=>none) else none
  |_=>none
 |_,_=>none
theorem sO{en:Array MapEntry}{i:Nat}{f:MapEntry→MapEntry}(hf:∀e,(f e).born=e.born):(en.modify i f).toList.map (·.born)=en.toList.map (·.born):=by
 rw[Array.toList_modify]
 apply List.ext_getElem?
 grind
theorem Gl{E:Env}{w:World}{b:Nat}{kt vt:Ty}{es:List (kt.den×vt.den)}{e2:TypeId}{v0 v:AV}{pr:Bool}{kx:kt.den}(hke:kt.keyed=true)(hrb:PM E w b kt vt es e2 (some (kx,v0,pr))){g:Nat}{en:Array MapEntry}{clock:Nat}(q1:E.g b=some g)(q2:w.heap[g]? =some (.map en clock))(hn:kx∉es.map (·.1))
 {vk vv:Value} (hkv:cE E w (.val kt kx) vk) (hvv:RC E w v [vv]) (hc:v.cK vt=true) (hlen:es.length+1≤aG) (kpo:∀o,bS E w E (w.putObj g o)):
 pr=false∧es.length=en.size∧PM E (w.putObj g (.map (en.push {key:=vk,val:=vv,born:=clock}) (clock+1))) b kt vt (bC kt kx vt.aD es) e2 (some (kx,v,true)):=by
 obtain⟨z1,z2,z3,g',en',anc,og,y1,y2,y3,y4,y5,y6,y7,y8⟩:=hrb
 rw[q1] at y1;cases y1
 rw[q2] at y2;cases y2
 have hlt:g<w.heap.size:=(Array.getElem?_eq_some_iff.1 q2).1
 have sub:∀o j(t:Ty)(u:Value)(x:t.den),dn w E.S e2 t u (og j) x→dn (w.putObj g o) E.S e2 t u (og j) x:=fun o j t u x hs=>
  dn.mono (kpo o).w (kpo o).S (fun gg hgg=>World.putObj_heap_other (y5.own j gg hgg).2) hs
 have hpr:pr=false:=by
  cases pr<;>grind
 refine⟨hpr,y6.symm,?_⟩
 have hes:bC kt kx vt.aD es=es++[(kx,vt.aD)]:=mQ hke hn
 refine⟨dw hke z1,cI dt hlen,fun kx' v' pr' hv'=>by grind,g,_,_,fun j=>if j=es.length then none else og j,q1,World.putObj_heap_same hlt,?_,?_,⟨?_,?_⟩,?_,?_,?_⟩
 ·grind
 ·grind
 ·intro j u hj
  have hj:(if j=es.length then none else og j)=some u:=hj
  split at hj
  ·cases hj
  ·exact y5.own j u hj
 ·intro j j' u hj hj'
  have hj:(if j=es.length then none else og j)=some u:=hj
  have hj':(if j'=es.length then none else og j')=some u:=hj'
  split at hj
  ·cases hj
  ·split at hj'
   ·cases hj'
   ·exact y5.inj j j' u hj hj'
 ·grind
 ·rw[hes]
  intro j x hx
  by_cases hj:j<es.length
  ·rw[List.getElem?_append_left hj] at hx
   obtain⟨m,t1,t2,t3,t4⟩:=y7 j x hx
   have hne:j≠es.length:=by omega
   have hxk:x.1≠kx:=fun e=>hn (List.mem_map.2 ⟨x,je hx,e⟩)
   refine⟨m,by rw[Array.getElem?_push_lt (by rw[y6];exact hj)];have t1:=t1;rw[Array.getElem?_eq_getElem (by rw[y6];exact hj)] at t1;exact t1,cE.mono (kpo _) (fun _ hb=>by cases hb) t2,fun v' pr' hv'=>(by cases hv';exact absurd rfl hxk),fun _=>?_⟩<;>grind
  ·have hj2:j=es.length:=by
    grind
   subst hj2
   simp at hx;subst hx
   refine⟨{key:=vk,val:=vv,born:=clock},by grind,cE.mono (kpo _) (fun _ hb=>by cases hb) hkv,fun v' pr' hv'=>?_,fun hv'=>absurd rfl (hv' v true)⟩
   cases hv'
   exact⟨aA rfl,RC.mono (kpo _) (fun _ _=>⟨rfl,rfl,rfl⟩) hvv⟩
 grind
theorem D2{E:Env}{w:World}{b:Nat}{kt vt:Ty}{es:List (kt.den×vt.den)}{e2:TypeId}{v0 v:AV}{pr:Bool}{kx:kt.den}(hke:kt.keyed=true)(hrb:PM E w b kt vt es e2 (some (kx,v0,pr))){g:Nat}{en:Array MapEntry}{clock:Nat}(q1:E.g b=some g)(q2:w.heap[g]? =some (.map en clock))
 {i:Nat} {y:vt.den} {m:MapEntry} (s1:es[i]? =some (kx,y)) (s2:en[i]? =some m) (f:MapEntry→MapEntry) (hf:∀e,(f e).born=e.born) (hkv:cE E w (.val kt kx) (f m).key) (hvv:RC E w v [(f m).val]) (hc:v.cK vt=true) (kpo:∀o,bS E w E (w.putObj g o)):
 (∃y',oB kt vt kx es pr=es.set i (kx,y'))∧cE E w (.val kt kx) m.key∧RC E w v0 [m.val]∧PM E (w.putObj g (.map (en.modify i f) clock)) b kt vt (oB kt vt kx es pr) e2 (some (kx,v,true)):=by
 obtain⟨z1,z2,z3,g',en',anc,og,y1,y2,y3,y4,y5,y6,y7,y8⟩:=hrb
 rw[q1] at y1;cases y1
 rw[q2] at y2;cases y2
 have hlt:g<w.heap.size:=(Array.getElem?_eq_some_iff.1 q2).1
 have sub:∀o j(t:Ty)(u:Value)(x:t.den),dn w E.S e2 t u (og j) x→dn (w.putObj g o) E.S e2 t u (og j) x:=fun o j t u x hs=>
  dn.mono (kpo o).w (kpo o).S (fun gg hgg=>World.putObj_heap_other (y5.own j gg hgg).2) hs
 obtain⟨m',t1,t2,t3,t4⟩:=y7 i _ s1
 rw[s2] at t1;cases t1
 have hi:i<es.length:=(List.getElem?_eq_some_iff.1 s1).1
 have hog:og i=none:=(t3 v0 pr rfl).1
 have hes:∃y',oB kt vt kx es pr=es.set i (kx,y'):=by
  cases pr with
  |
   true=>
   refine⟨y,?_⟩
   show es=_
   apply List.ext_getElem?
   grind
  |false=>exact⟨vt.aD,ql hke z1 s1⟩
 refine⟨hes,t2,(t3 v0 pr rfl).2,?_⟩
 obtain⟨y',hes⟩:=hes
 have hnd:((oB kt vt kx es pr).map (·.1)).Nodup:=by
  cases pr with
  |true=>exact z1
  |false=>exact dw hke z1
 refine⟨hnd,by grind,fun kx' v' pr' hv'=>by grind,g,_,_,og,q1,World.putObj_heap_same hlt,?_,?_,y5,?_,?_,?_⟩
 ·intro x hx
  have hb:x.born∈(en.modify i f).toList.map (·.born):=List.mem_map.2 ⟨x,hx,rfl⟩
  grind [sO]
 ·rw[sO hf];exact y4
 ·grind
 ·rw[hes]
  intro j x hx
  rw[dm] at hx
  by_cases hne:i=j
  ·subst hne
   rw[aA rfl,aA hi] at hx
   cases hx
   refine⟨f m,by grind,cE.mono (kpo _) (fun _ hb=>by cases hb) hkv,fun v' pr' hv'=>?_,fun hv'=>absurd rfl (hv' v true)⟩
   cases hv'
   exact⟨hog,RC.mono (kpo _) (fun _ _=>⟨rfl,rfl,rfl⟩) hvv⟩
  ·rw[aC hne] at hx
   obtain⟨m2,t1,t2,t3,t4⟩:=y7 j x hx
   have hxk:x.1≠kx:=fun e=>by
    grind [rK]
   refine⟨m2,by rw[Array.getElem?_modify,aC hne];exact t1,cE.mono (kpo _) (fun _ hb=>by cases hb) t2,fun v' pr' hv'=>(by cases hv';exact absurd rfl hxk),fun _=>?_⟩<;>grind
 ·intro kx' v'
  refine⟨fun hf=>(by cases hf),fun hf=>?_⟩
  cases hf
  rw[hes]
  exact List.mem_map.2 ⟨(kx,y'),je (i:=i) (by grind),rfl⟩
theorem HK{P:Program}{G:cd}(T:bM P G){gl:Ctx}{σ:St}{E:Env}{a:Act}{w:World}(h:cp gl σ E a w){hb:Nat→Option aP}(hB:HB hb σ.hp){t:TypeId}{x k v:AV}{vx vk vv:Value}(hx:RV E w x vx)(hk:RV E w k vk)(hv:RV E w v vv){r:fK}(he:D1 P G hb t x k v=some r)(hvc:dQ r.vc):
 ∃w',(Instr.mapUpdate t vx vk vv).run P w= .ok () w'∧cp gl {σ with hp:=aR σ.hp r.hw} E a w'∧RV E w' r.v undef∧Ext gl.md (bK σ.hp E) E w (bK (aR σ.hp r.hw) E) E w':=by
 unfold D1 at he
 split at he
 ·rename_i ke ve kt vt b hm
  obtain⟨hu,hke,_,⟨kd,h4,h5⟩,⟨vd,h6,h7⟩⟩:=fZ T hm
  subst h5;subst h7
  split at he
  ·rename_i k0 u es e2 kx v0 pr hbk0
   split at he
   ·rename_i hc
    obtain⟨c1,c2⟩:=hc
    have e1:=Ty.aB c1;subst e1
    have e2':=Ty.aB c2;subst e2'
    split at he
    ·rename_i k' hk'
     split at he
     ·rename_i hpl
      cases he
      simp only[bB,gV] at hpl
      obtain⟨⟨⟨p1,p2⟩,p3⟩,p4⟩:=hpl
      obtain⟨he,hkx,hlen,_⟩:=hvc
      have hkx:k'=kx:=(cn hke _ _).1 hkx
      subst hkx
      have hkv:cE E w (.val kd.ty k') vk:=cE.bO hk' (RV.iZ p1 hk)
      have hvv:RC E w v [vv]:=by
       rcases RV.iZ p2 hv with⟨hh,_⟩|⟨_,hh⟩<;>grind
      have hbk:=hB b _ hbk0
      have hrb:=h.hw.cX b _ hbk
      obtain⟨g0,hg0,ex⟩:=RV.atom rfl hx
      simp at ex;subst ex
      obtain⟨g,en,clock,r,q1,q2,q3,q4,q5⟩:=nK T hke h4 he hrb hkv
      rw[q1] at hg0
      have hg0:=iR hg0
      subst hg0
      have anr:(getObj g).run P w= .ok (.map en clock) w:=by simp[getObj,Sem.run,q2]
      have aR:∀o,(setObj g o).run P w= .ok () (w.putObj g o):=fun o=>by simp[setObj,Sem.run,q2,World.putObj]
      have kpo:∀o,bS E w E (w.putObj g o):=fun o=>⟨fun i hi=>World.putObj_heap_other (fun e=>h.hw.kf b _ g hbk q1 (e▸hi)),fun _ h=>h⟩
      have key:∃en' anc,(Instr.mapUpdate t (.map (some g)) vk vv).run P w= .ok () (w.putObj g (.map en' anc))∧RB E (w.putObj g (.map en' anc)) b (.pmap kd.ty vd.ty (oB kd.ty vd.ty k' es pr) e2 (some (k',v,true))):=by
       rcases q5 with⟨e,hn⟩|⟨i,y,m,e,s1,s2⟩
       ·subst e
        obtain⟨hpr,_,hpm⟩:=Gl hke hrb q1 q2 hn hkv hvv p4 hlen kpo
        subst hpr
        exact⟨_,_,by simp_all[Instr.mapUpdate,run_underlying],hpm⟩
       ·subst e
        obtain⟨_,t2,_,hpm⟩:=D2 hke hrb q1 q2 s1 s2 (fun e=>{e with key:=vk,val:=vv}) (fun _=>rfl) hkv hvv p4 kpo
        obtain⟨f1,f2⟩:=cE.fn hke t2 hkv
        have hold:((en[i]?).map (·.key)).getD vk=m.key:=by grind
        have hstay:(Instr.keyThatStays (((en[i]?).map (·.key)).getD vk) vk).run P w= .ok vk w:=by
         simp_all[Instr.keyThatStays]
        exact⟨_,_,by simp_all[Instr.mapUpdate,run_underlying],hpm⟩
      obtain⟨en',anc,k1,hrb2⟩:=key
      have kp:=kpo (.map en' anc)
      have hw2:=h.hw.write hbk (by simp) (fun i hi=>World.putObj_heap_other (fun e=>hi (by grind))) hrb2
      refine⟨_,k1,h.carry kp (fun _ _=>⟨rfl,rfl,rfl⟩) hw2,trivial,⟨rfl,Tp.r rfl rfl,rfl,by simp,?_,fun _ h=>h,fun _ h=>Or.inl h,fun i hi=>Or.inl (bK.i3 hbk hi),fun _ _=>⟨rfl,rfl,rfl⟩⟩⟩
      intro i hi ho
      exact World.putObj_heap_other (fun e=>ho ⟨b,_,hbk,by rw[e];exact Or.inl q1⟩)
     grind
    grind
   grind
  grind
 grind
end Go.Ax
namespace Go.Ax
def vN(P:Program)(G:cd)(op:Op)(ev:Operand→AV)(hb:Nat→Option aP):Option fK:=
 match op with
 | .lookup t x i false=>(qm P G hb t (ev x) (ev i)).map .MK
 | .mapUpdate t x k v=>D1 P G hb t (ev x) (ev k) (ev v)
 |_=>none
theorem KY{P:Program}{G:cd}(T:bM P G){gl:Ctx}{σ:St}{E:Env}{a:Act}{w:World}(h:cp gl σ E a w){o:Oper}{ev:Operand→AV}{hb:Nat→Option aP}(hB:HB hb σ.hp){r:fK}
 (hev:∀x∈o.op.operands.toList,RV E w (ev x) (a.eval x)) (he:vN P G o.op ev hb=some r) (hvc:dQ r.vc):cm P gl σ E a w o r:=by
 unfold vN at he
 split at he
 ·rename_i t x i hop
  obtain⟨⟨u,vc⟩,hu,rfl⟩:=Option.map_eq_some_iff.1 he
  obtain⟨v,h1,h2⟩:=D0 T h.hw hB (hev x (by simp[hop,Op.operands])) (hev i (by simp[hop,Op.operands])) hu hvc
  exact cm.same h (v:=v) (by simp[execOp,hop,h1]) h2
 ·rename_i t x k v hop
  obtain⟨w',h1,h2,h3,h4⟩:=HK T h hB (hev x (by simp[hop,Op.operands])) (hev k (by simp[hop,Op.operands])) (hev v (by simp[hop,Op.operands])) he hvc
  exact⟨_,undef,w',E,by simp[execOp,hop,h1],Or.inr ⟨rfl,rfl⟩,h2,h3,h4⟩
 grind
end Go.Ax
namespace Go.Ax
def zw(G:cd)(d:Nat)(t:TypeId)(x:AV):Option fK:=
 match jO G t with
 |
  some (_,_,kt,vt)=>match x with
  | .val (.map k v) y=>some ⟨.ptr d [],[(d,some (.ko k v (bE y) none))],[d],[]⟩
  | .eA=>some ⟨.ptr d [],[(d,some (.ko kt vt [] none))],[d],[]⟩
  |_=>none
 |none=>none
def zx(hb:Nat→Option aP)(x:AV):Option AV:=
 match x with
 |
  .ptr b []=>match hb b with
  |some (.ko k v _ (some c))=>some (.gm (.cons (.val k c.1) (.cons (.val v c.2) .nil)))
  |_=>none
 |_=>none
theorem HL(en:Array MapEntry):jV en #[]=en:=by simp[jV]
theorem zz{P:Program}(w:World)(g bm since:Nat)(seen:Array Nat)(es:Array MapEntry)(clock:Nat)(e:MapEntry)(hg:w.heap[g]? =some (.mapIter (some bm) since (seen.push e.born) clock))(hb:w.heap[bm]? =some (.map es clock))(he:e∈es.toList)(hn:(es.toList.map (·.born)).Nodup):
 (Instr.entry (.pointer (some ⟨g,0,none⟩))).run P w= .ok (.tuple #[e.key,e.val]) w:=by
 have hf:es.find? (·.born==e.born)=some e:=by rw[←Array.find?_toList];exact find_born e es.toList hn he
 simp_all[Instr.entry,getObj,Sem.run]
theorem D3{P:Program}{G:cd}(T:bM P G){gl:Ctx}{σ:St}{E:Env}{a:Act}{w:World}(h:cp gl σ E a w){d:Nat}{t:TypeId}{x:AV}{vx:Value}{r:fK}(hx:RV E w x vx)(he:zw G d t x=some r)(hfr:∀b∈r.fr,σ.fresh b):
 ∃v w' E',(Instr.range t vx).run P w= .ok v w'∧cp gl {σ with hp:=aR σ.hp r.hw} E' a w'∧RV E' w' r.v v∧Ext gl.md (bK σ.hp E) E w (bK (aR σ.hp r.hw) E') E' w':=by
 unfold zw at he
 split at he
 ·rename_i ke ve kt vt hm
  obtain⟨hu,_⟩:=fZ T hm
  have nilc:∀(k v:Ty),(∀b∈[d],σ.fresh b)→∃v' w' E',(Instr.range t (.map none)).run P w= .ok v' w'∧cp gl {σ with hp:=aR σ.hp [(d,some (.ko k v [] none))]} E' a w'∧RV E' w' (.ptr d []) v'∧Ext gl.md (bK σ.hp E) E w (bK (aR σ.hp [(d,some (.ko k v [] none))]) E') E' w':=by
   intro k v hf
   have hf:=hf d (by simp)
   obtain⟨g1,x1⟩:=h.fresh (w':=w.alloc (.mapIter none 0 #[] 0)) hf (g:=some w.heap.size) (sv:=undef) (t:=.unit) (k:=.ko k v [] none) rfl (Tp.r rfl rfl) rfl (by simp) (fun i hi=>heap_alloc_old w _ hi) (fun i hi=>by grind)
    ⟨w.heap.size,none,0, #[],0,by simp[Env.at],heap_alloc_new w _,Or.inl ⟨rfl,rfl,rfl⟩⟩
   exact⟨_,_,_,run_range_nilMap w t ke ve hu,g1,RV.eI (Or.inr ⟨rfl,w.heap.size,by simp[Env.at],by simp[Env.at,Ty.off],by simp[Env.at,Ty.valid]⟩),x1⟩
  split at he
  ·rename_i k v y
   cases he
   obtain⟨a',e,hr⟩:=RV.atom rfl hx
   simp at e;subst e
   rcases hr with⟨rfl,rfl⟩|⟨es,g,en,clock,rfl,rfl,r1,r2,r3,_,_,r4,r5⟩
   ·exact nilc k v hfr
   ·have hf:=hfr d (by simp)
    have hgl:=h.hw.slt g r1
    have kp:bS E w (E.at d (some w.heap.size) undef .unit) (w.alloc (.mapIter (some g) clock #[] clock)):=⟨fun b hb=>heap_alloc_old w _ (h.hw.slt b hb),fun b hb=>hb⟩
    obtain⟨g1,x1⟩:=h.fresh (w':=w.alloc (.mapIter (some g) clock #[] clock)) hf (g:=some w.heap.size) (sv:=undef) (t:=.unit) (k:=.ko k v es none) rfl (Tp.r rfl rfl) rfl (by simp) (fun i hi=>heap_alloc_old w _ hi) (fun i hi=>by grind)
     ⟨w.heap.size,some g,clock, #[],clock,by simp[Env.at],heap_alloc_new w _,Or.inr ⟨g,en,rfl,r1,by rw[heap_alloc_old w _ hgl];exact r2,rfl,r4,r5,by grind [HL,RM.mono,RM.of],fun x hx=>by cases hx⟩⟩
    exact⟨_,_,_,run_range_map w t ke ve g en clock hu r2,g1,RV.eI (Or.inr ⟨rfl,w.heap.size,by simp[Env.at],by simp[Env.at,Ty.off],by simp[Env.at,Ty.valid]⟩),x1⟩
  ·cases he
   obtain rfl:vx= .map none:=by have:=RV.atom rfl hx;simpa[RC] using this
   simp_all
  grind
 grind
theorem D4{P:Program}{gl:Ctx}{E:Env}{w:World}{hp:List (Option aP)}(hw:HW gl E w hp){hb:Nat→Option aP}(hB:HB hb hp){x r:AV}{vx:Value}(hx:RV E w x vx)(he:zx hb x=some r):∃v,(Instr.entry vx).run P w= .ok v w∧RV E w r v:=by
 unfold zx at he
 split at he
 ·rename_i b
  split at he
  ·rename_i k v rest c hk
   cases he
   obtain⟨g,om,since,seen,c0,q1,q2,q3⟩:=hw.cX b _ (hB b _ hk)
   obtain⟨g',hg',ev,_⟩:=RV.atom rfl hx
   rw[q1] at hg';cases hg'
   simp at ev;subst ev
   rcases q3 with⟨_,_,h⟩|⟨bm,en,rfl,r2,r3,rfl,r5,r6,r7,r8⟩
   ·cases h
   ·obtain⟨e,s0,rfl,t2,t3,t4⟩:=r8 c rfl
    exact⟨_,by grind [Ty.off,zz], #[e.key,e.val],rfl,t3,t4,rfl⟩
  grind
 grind
def vO(G:cd)(d:Nat)(op:Op)(ev:Operand→AV)(hb:Nat→Option aP):Option fK:=
 match op with
 | .range t x=>zw G d t (ev x)
 | .entry x=>(zx hb (ev x)).map .one
 |_=>none
theorem KZ{P:Program}{G:cd}(T:bM P G){gl:Ctx}{σ:St}{E:Env}{a:Act}{w:World}(h:cp gl σ E a w){o:Oper}{d:Nat}{ev:Operand→AV}{hb:Nat→Option aP}(hB:HB hb σ.hp){r:fK}
 (hev:∀x∈o.op.operands.toList,RV E w (ev x) (a.eval x)) (he:vO G d o.op ev hb=some r) (hfr:∀b∈r.fr,σ.fresh b):cm P gl σ E a w o r:=by
 unfold vO at he
 split at he
 ·rename_i t x hop
  obtain⟨v,w',E',h1,h2,h3,h4⟩:=D3 T (P:=P) h (hev x (by simp[hop,Op.operands])) he hfr
  exact⟨_,v,w',E',by simp[execOp,hop,h1],Or.inl rfl,h2,h3,h4⟩
 ·rename_i x hop
  obtain⟨u,hu,rfl⟩:=Option.map_eq_some_iff.1 he
  obtain⟨v,h1,h2⟩:=D4 (P:=P) h.hw hB (hev x (by simp[hop,Op.operands])) hu
  exact cm.same h (v:=v) (by simp[execOp,hop,h1]) h2
 grind
end Go.Ax
namespace Go.Ax
end Go.Ax
namespace Go.Ax
end Go.Ax
namespace Go.Ax
def D5(P:Program)(G:cd)(hb:Nat→Option aP)(t:TypeId)(x k:AV):Option fK:=
 match jO G t,x with
 |
  some (ke,_,kt,vt),.mp b=>match hb b with
  |some (.gr k0 u es e2 kx v pr)=>if h:Ty.same k0 kt=true∧Ty.same u vt=true then(match k.bO kt with
   |some k'=>if k.plain&&v.plain&& !v.isAgg&&v.cK u&&u.Ot then some ⟨.gm (.cons v (.cons (.eK b) .nil)),[(b,some (.gr k0 u (oB k0 u kx es pr) e2 kx v true))],[],[vc (iH P G 40 ke kt=true),vc (bD kt k' (Ty.aB h.1▸kx:kt.den)=true),vc (es.length+1≤aG)]⟩ else none
   |none=>none) else none
  |_=>none
 |_,_=>none
theorem qn{P:Program}{w:World}{t ke ve:TypeId}{vk:Value}{g clock:Nat}{en:Array MapEntry}(hu:P.underlying t=some (.map ke ve))(anr:w.heap[g]? =some (.map en clock))(q3:(Instr.checkKey false 10000 ke vk).run P w= .ok () w):
 (∀z,(zeroValue ve).run P w= .ok z w→(Instr.findKey ke vk en.toList).run P w= .ok none w→(Instr.mapEntry t (.map (some g)) vk).run P w= .ok (.tuple #[z,goInt clock]) (w.putObj g (.map (en.push {key:=vk,val:=z,born:=clock}) (clock+1))))∧
 ∀i m,en[i]? =some m→(Instr.findKey ke vk en.toList).run P w= .ok (some (i,m.val)) w→(Instr.keyThatStays m.key vk).run P w= .ok vk w→(Instr.mapEntry t (.map (some g)) vk).run P w= .ok (.tuple #[m.val,goInt m.born]) (w.putObj g (.map (en.modify i fun e=>{e with key:=vk}) clock)):=by
 simp_all[getObj,Sem.run,setObj,World.putObj,Instr.mapEntry,run_underlying]
theorem HM{P:Program}{G:cd}(T:bM P G){gl:Ctx}{σ:St}{E:Env}{a:Act}{w:World}(h:cp gl σ E a w){hb:Nat→Option aP}(hB:HB hb σ.hp){t:TypeId}{x k:AV}{vx vk:Value}(hx:RV E w x vx)(hk:RV E w k vk){r:fK}(he:D5 P G hb t x k=some r)(hvc:dQ r.vc):
 ∃v w',(Instr.mapEntry t vx vk).run P w= .ok v w'∧cp gl {σ with hp:=aR σ.hp r.hw} E a w'∧RV E w' r.v v∧Ext gl.md (bK σ.hp E) E w (bK (aR σ.hp r.hw) E) E w':=by
 unfold D5 at he
 split at he
 case h_2=>cases he
 rename_i ke ve kt vt b hm
 obtain⟨hu,hke,_,⟨kd,h4,h5⟩,⟨vd,h6,h7⟩⟩:=fZ T hm
 subst h5;subst h7
 split at he
 case h_2=>cases he
 rename_i k0 u es e2 kx v pr hbk0
 split at he
 case isFalse=>cases he
 rename_i hc
 obtain⟨c1,c2⟩:=hc
 have e1:=Ty.aB c1;subst e1
 have e2':=Ty.aB c2;subst e2'
 split at he
 case h_2=>cases he
 rename_i k' hk'
 split at he
 case isFalse=>cases he
 rename_i hpl
 cases he
 simp only[bB,gV] at hpl
 obtain⟨⟨⟨⟨p1,p2⟩,p3⟩,p4⟩,p5⟩:=hpl
 obtain⟨he,hkx,hlen,_⟩:=hvc
 have hkx:k'=kx:=(cn hke _ _).1 hkx
 subst hkx
 have hkv:cE E w (.val kd.ty k') vk:=cE.bO hk' (RV.iZ p1 hk)
 have hbk:=hB b _ hbk0
 obtain⟨hrb,n,g9,en9,clock9,n1,n2,n3,n4,n5⟩:=h.hw.cX b _ hbk
 obtain⟨g0,hg0,ex⟩:=RV.atom rfl hx
 simp at ex;subst ex
 obtain⟨g,en,clock,r,q1,q2,q3,q4,q5⟩:=nK T hke h4 he hrb hkv
 rw[q1] at hg0;have hg0:=iR hg0;subst hg0
 rw[q1] at n2;have n2:=iR n2;subst n2
 rw[q2] at n3;cases n3
 have kpo:∀o,bS E w E (w.putObj g o):=fun o=>⟨fun i hi=>World.putObj_heap_other (fun e=>h.hw.kf b _ g hbk q1 (e▸hi)),fun _ h=>h⟩
 have hlt:g<w.heap.size:=(Array.getElem?_eq_some_iff.1 q2).1
 obtain⟨R1,R2⟩:=qn hu q2 (q3 false)
 have tupOK:∀(w':World)(vv:Value),RC E w' v [vv]→RV E w' (.gm (.cons v (.cons (.eK b) .nil))) (.tuple #[vv,goInt n]):=by
  intro w' vv hv
  exact⟨#[vv,goInt n],rfl,Or.inr ⟨p3,hv⟩,Or.inr ⟨rfl,by rw[n1];rfl,n,n1⟩,rfl⟩
 have fin:∀(vv:Value)(en':Array MapEntry)(anc:Nat),RC E w v [vv]→(Instr.mapEntry t (.map (some g)) vk).run P w= .ok (.tuple #[vv,goInt n]) (w.putObj g (.map en' anc))→RB E (w.putObj g (.map en' anc)) b (.gr kd.ty vd.ty (oB kd.ty vd.ty k' es pr) e2 k' v true)→
  ∃v' w',(Instr.mapEntry t (.map (some g)) vk).run P w= .ok v' w'∧cp gl {σ with hp:=aR σ.hp [(b,some (.gr kd.ty vd.ty (oB kd.ty vd.ty k' es pr) e2 k' v true))]} E a w'∧RV E w' (.gm (.cons v (.cons (.eK b) .nil))) v'∧Ext gl.md (bK σ.hp E) E w (bK (aR σ.hp [(b,some (.gr kd.ty vd.ty (oB kd.ty vd.ty k' es pr) e2 k' v true))]) E) E w':=by
  intro vv en' anc hv anj hrb2
  have hw2:=h.hw.write hbk (by simp) (fun i hi=>World.putObj_heap_other (fun e=>hi (by grind))) hrb2
  refine⟨_,_,anj,h.carry (kpo _) (fun _ _=>⟨rfl,rfl,rfl⟩) hw2,tupOK _ _ (RC.mono (kpo _) (fun _ _=>⟨rfl,rfl,rfl⟩) hv),⟨rfl,Tp.r rfl rfl,rfl,by simp,?_,fun _ h=>h,fun _ h=>Or.inl h,fun i hi=>Or.inl (bK.i3 hbk hi),fun _ _=>⟨rfl,rfl,rfl⟩⟩⟩
  intro i hi ho
  exact World.putObj_heap_other (fun e=>ho ⟨b,_,hbk,by rw[e];exact Or.inl q1⟩)
 have hpm:=hrb
 obtain⟨z1,z2,z3,g',en',anc,og,y1,y2,y3,y4,y5,y6,y7,y8⟩:=hpm
 rw[q1] at y1;cases y1
 rw[q2] at y2;cases y2
 rcases q5 with⟨e,hn⟩|⟨i,y,m,e,s1,s2⟩
 ·subst e
  have hpr:pr=false:=by
   grind
  subst hpr
  have hvv:RC E w v [zeroV vd.ty]:=(y8 _ v).1 rfl hn
  obtain⟨_,hsz,hpm⟩:=Gl hke hrb q1 q2 hn hkv hvv p4 hlen kpo
  have hnc:=n4 hn
  refine fin (zeroV vd.ty) _ _ hvv (by grind [zv]) ⟨hpm,n,g,_,_,n1,q1,World.putObj_heap_same hlt,?_,?_⟩
  ·intro hh;exact absurd (by show k'∈(bC kd.ty k' vd.ty.aD es).map (·.1);rw[mQ hke hn];simp) hh
  ·intro j m' y' hj hm'
   have hj:(bC kd.ty k' vd.ty.aD es)[j]? =some (k',y'):=hj
   grind [mQ]
 ·subst e
  obtain⟨m',t1,t2,t3,t4⟩:=y7 i _ s1
  rw[s2] at t1;cases t1
  have hvv:=(t3 v pr rfl).2
  obtain⟨f1,f2⟩:=cE.fn hke t2 hkv
  have hstay:(Instr.keyThatStays m.key vk).run P w= .ok vk w:=by
   rw[Instr.keyThatStays,←f1,aA f2];simp
  have hb:=n5 i m y s1 s2
  obtain⟨⟨y',hes⟩,_,_,hpm⟩:=D2 hke hrb q1 q2 s1 s2 (fun e=>{e with key:=vk}) (fun _=>rfl) hkv hvv p4 kpo
  have hi:i<es.length:=(List.getElem?_eq_some_iff.1 s1).1
  refine fin m.val _ _ hvv (by grind) ⟨hpm,n,g,_,_,n1,q1,World.putObj_heap_same hlt,?_,?_⟩
  ·intro hh
   refine absurd ?_ hh
   rw[hes]
   exact List.mem_map.2 ⟨(k',y'),je (i:=i) (by grind),rfl⟩
  grind
def D6(hb:Nat→Option aP)(x s y:AV):Option fK:=
 match x,s with
 |
  .mp b,.eK c=>match hb b with
  |some (.gr k0 u es e2 kx _ true)=>if Nat.beq b c&&k0.keyed&&y.plain&& !y.isAgg&&y.cK u then some ⟨.bot,[(b,some (.gr k0 u es e2 kx y true))],[],[]⟩ else none
  |_=>none
 |_,_=>none
theorem vP{en:Array MapEntry}(h:(en.toList.map (·.born)).Nodup){i j:Nat}{m m':MapEntry}(h1:en[i]? =some m)(h2:en[j]? =some m')(hb:m.born=m'.born):i=j:=by
 grind [List.pairwise_iff_getElem]
theorem HN{P:Program}{gl:Ctx}{σ:St}{E:Env}{a:Act}{w:World}(h:cp gl σ E a w){hb:Nat→Option aP}(hB:HB hb σ.hp){t:TypeId}{x s y:AV}{vx vs vy:Value}(hx:RV E w x vx)(hs:RV E w s vs)(hy:RV E w y vy){r:fK}(he:D6 hb x s y=some r):
 ∃w',(Instr.entryStore t vx vs vy).run P w= .ok () w'∧cp gl {σ with hp:=aR σ.hp r.hw} E a w'∧RV E w' r.v undef∧Ext gl.md (bK σ.hp E) E w (bK (aR σ.hp r.hw) E) E w':=by
 unfold D6 at he
 split at he
 case h_2=>cases he
 rename_i b c
 split at he
 case h_2=>cases he
 rename_i k0 u es e2 kx v0 hbk0
 split at he
 case isFalse=>cases he
 rename_i hpl
 cases he
 simp only[bB,gV] at hpl
 obtain⟨⟨⟨⟨p0,hke⟩,p2⟩,p3⟩,p4⟩:=hpl
 have p0:=bT p0;subst p0
 have hyv:RC E w y [vy]:=by
  rcases RV.iZ p2 hy with⟨hh,_⟩|⟨_,hh⟩<;>grind
 have hbk:=hB b _ hbk0
 obtain⟨hrb,n,g,en,clock,n1,q1,q2,n4,n5⟩:=h.hw.cX b _ hbk
 obtain⟨g0,hg0,ex⟩:=RV.atom rfl hx
 simp at ex;subst ex
 rw[q1] at hg0;have hg0:=iR hg0;subst hg0
 obtain⟨es1,_⟩:=RV.atom rfl hs
 simp at es1;subst es1
 have kpo:∀o,bS E w E (w.putObj g o):=fun o=>⟨fun i hi=>World.putObj_heap_other (fun e=>h.hw.kf b _ g hbk q1 (e▸hi)),fun _ h=>h⟩
 have hlt:g<w.heap.size:=(Array.getElem?_eq_some_iff.1 q2).1
 have hpm:=hrb
 obtain⟨z1,z2,z3,g',en',anc,og,y1,y2,y3,y4,y5,y6,y7,y8⟩:=hpm
 rw[q1] at y1;cases y1
 rw[q2] at y2;cases y2
 have hin:=(y8 kx v0).2 rfl
 obtain⟨z,hz,ez⟩:=List.mem_map.1 hin
 obtain⟨zk,zy⟩:=z
 simp only at ez;subst ez
 obtain⟨i,s1⟩:=List.getElem?_of_mem hz
 obtain⟨m,s2,t2,t3,t4⟩:=y7 i _ s1
 have hb:=n5 i m zy s1 s2
 obtain⟨⟨y',hes⟩,_,_,hpm⟩:=D2 hke hrb q1 q2 s1 s2 (fun e=>{e with val:=vy}) (fun _=>rfl) t2 hyv p4 kpo
 have hfind:en.findIdx? (fun e=>(e.born:Int)==(n:Int))=some i:=by
  rw[Array.findIdx?_eq_some_iff_getElem]
  obtain⟨hi,hm⟩:=Array.getElem?_eq_some_iff.1 s2
  refine⟨hi,by grind,fun j hj=>?_⟩
  intro hbj
  have hj2:en[j]? =some en[j]:=by simp
  grind [vP]
 have h1:(getObj g).run P w= .ok (.map en clock) w:=by simp[getObj,Sem.run,q2]
 have aR:∀o,(setObj g o).run P w= .ok () (w.putObj g o):=fun o=>by simp[setObj,Sem.run,q2,World.putObj]
 have anj:(Instr.entryStore t (.map (some g)) (E.sv b) vy).run P w= .ok () (w.putObj g (.map (en.modify i fun e=>{e with val:=vy}) clock)):=by
  grind [Instr.entryStore,Sem.run_bind,Result.andThen_ok,asInt,asIntOf]
 have hw2:=h.hw.write (k':=.gr k0 u es e2 zk y true) hbk (by simp) (fun i hi=>World.putObj_heap_other (fun e=>hi (by grind))) (w':=w.putObj g (.map (en.modify i fun e=>{e with val:=vy}) clock)) ⟨hpm,n,g,_,_,n1,q1,World.putObj_heap_same hlt,fun hh=>absurd hin hh,by
  grind⟩
 refine⟨_,anj,h.carry (kpo _) (fun _ _=>⟨rfl,rfl,rfl⟩) hw2,trivial,⟨rfl,Tp.r rfl rfl,rfl,by simp,?_,fun _ h=>h,fun _ h=>Or.inl h,fun i hi=>Or.inl (bK.i3 hbk hi),fun _ _=>⟨rfl,rfl,rfl⟩⟩⟩
 intro i hi ho
 exact World.putObj_heap_other (fun e=>ho ⟨b,_,hbk,by rw[e];exact Or.inl q1⟩)
end Go.Ax
namespace Go.Ax
theorem RM.idx{E:Env}{w:World}{k v:Ty}:∀{l:List MapEntry}{xs:List (k.den×v.den)}{i:Nat}{x:k.den×v.den},RM E w k v l xs→xs[i]? =some x→∃m,l[i]? =some m∧cE E w (.val k x.1) m.key∧cE E w (.val v x.2) m.val
 |[],[],_,_,_,h=>by simp at h
 |[],_::_,_,_,h,_=>h.elim
 |_::_,[],_,_,h,_=>h.elim
 |
  e::l,y::xs,0,x,⟨h1,h2,_⟩,h=>by
  simp at h;subst h
  exact⟨e,rfl,h1,h2⟩
 |
  e::l,y::xs,i+1,x,⟨_,_,h3⟩,h=>by
  simp at h
  obtain⟨m,q1,q2⟩:=RM.idx (i:=i) h3 h
  exact⟨m,by simpa using q1,q2⟩
theorem xg{P:Program}{w:World}{t ke ve:TypeId}{vk v0:Value}{g clock i:Nat}{m:MapEntry}{en:Array MapEntry}(hu:P.underlying t=some (.map ke ve))(anr:w.heap[g]? =some (.map en clock))(q3:(Instr.checkKey false 10000 ke vk).run P w= .ok () w)
 (h1:en[i]? =some m) (h2:(Instr.findKey ke vk en.toList).run P w= .ok (some (i,v0)) w) (h3:(Instr.keyThatStays m.key vk).run P w= .ok vk w):(Instr.mapEntry t (.map (some g)) vk).run P w= .ok (.tuple #[v0,goInt m.born]) (w.putObj g (.map (en.modify i fun e=>{e with key:=vk}) clock)):=by
 simp_all[getObj,Sem.run,setObj,World.putObj,Instr.mapEntry,run_underlying]
def D7(P:Program)(G:cd)(hb:Nat→Option aP)(t:TypeId)(x k:AV):Option fK:=
 match jO G t,x with
 |
  some (ke,_,kt,vt),.mp b=>match hb b with
  |some (.mw k0 u es kx)=>if h:Ty.same k0 kt=true∧Ty.same u vt=true then(match k.bO kt with
   |some k'=>if k.plain then some ⟨.gm (.cons (.val u (aQ k0 u kx es)) (.cons (.eK b) .nil)),[(b,some (.mw k0 u (bC k0 kx (aQ k0 u kx es) es) kx))],[],[vc (iH P G 40 ke kt=true),vc (bD kt k' (Ty.aB h.1▸kx:kt.den)=true),vc (es.length+1≤aG)]⟩ else none
   |none=>none) else none
  |_=>none
 |_,_=>none
theorem K0{kt vt:Ty}{k:kt.den}:∀{es:List (kt.den×vt.den)},cz kt k es 0=none→aQ kt vt k es=vt.aD:=by
 have:∀(es:List (kt.den×vt.den))(i:Nat),cz kt k es i=none→aQ kt vt k es=vt.aD:=by
  intro es
  induction es with
  |nil=>intro _ _;rfl
  |
   cons e es ih=>
   intro i h
   simp only[cz] at h
   split at h
   ·cases h
   ·rename_i hb
    simp only[aQ,hb]
    exact ih _ h
 intro es h
 exact this es 0 h
theorem yh{kt:Ty}{α:Type}(hk:kt.keyed=true){k:kt.den}{es:List (kt.den×α)}{i:Nat}{z:α}:cz kt k es 0=some (i,z)→es[i]? =some (k,z):=by
 have:∀(es:List (kt.den×α))(j i:Nat)(z:α),cz kt k es j=some (i,z)→j≤i∧es[i -j]? =some (k,z):=by
  intro es
  induction es with
  |nil=>intro j i z h;cases h
  |
   cons e es ih=>
   intro j i z h
   simp only[cz] at h
   split at h
   ·rename_i hb
    have:=(cn hk _ _).1 hb
    cases h
    exact⟨dc _,by simp[this]⟩
   ·obtain⟨h1,h2⟩:=ih _ _ _ h
    refine⟨by omega,?_⟩
    obtain⟨d,rfl⟩:∃d,i=j+1+d:=⟨i -(j+1),by omega⟩
    simpa[ot,show j+1+d -j=d+1 by omega] using h2
 intro h
 simpa using(this es 0 i z h).2
theorem K1{kt vt:Ty}{k:kt.den}{es:List (kt.den×vt.den)}{i:Nat}{z:vt.den}(h:cz kt k es 0=some (i,z)):aQ kt vt k es=z:=by
 have:=rR (vt:=vt) (k:=k) (es:=es) (i:=0)
 rw[h] at this
 simp only[Option.map_some] at this
 split at this
 ·exact(iR this).symm
 ·cases this
theorem mR{kt:Ty}{α:Type}(hk:kt.keyed=true){k:kt.den}:∀{es:List (kt.den×α)}{i:Nat},cz kt k es i=none→k∉es.map (·.1)
 |[],_,_=>by simp
 |
  e::es,i,h=>by
  simp only[cz] at h
  split at h
  ·cases h
  ·rename_i hb
   simp only[d8,fJ,not_or]
   exact⟨fun e1=>hb ((cn hk _ _).2 e1),mR hk h⟩
theorem vQ{kt:Ty}{α:Type}{k:kt.den}{y:α}:∀{es:List (kt.den×α)}{i:Nat},cz kt k es i=none→bC kt k y es=es++[(k,y)]
 |[],_,_=>rfl
 |
  e::es,i,h=>by
  simp only[cz] at h
  split at h
  ·cases h
  ·rename_i hb
   simp only[bC,hb]
   simp[vQ h]
theorem HO{P:Program}{G:cd}(T:bM P G){gl:Ctx}{σ:St}{E:Env}{a:Act}{w:World}(h:cp gl σ E a w){hb:Nat→Option aP}(hB:HB hb σ.hp){t:TypeId}{x k:AV}{vx vk:Value}(hx:RV E w x vx)(hk:RV E w k vk){r:fK}(he:D7 P G hb t x k=some r)(hvc:dQ r.vc):
 ∃v w',(Instr.mapEntry t vx vk).run P w= .ok v w'∧cp gl {σ with hp:=aR σ.hp r.hw} E a w'∧RV E w' r.v v∧Ext gl.md (bK σ.hp E) E w (bK (aR σ.hp r.hw) E) E w':=by
 unfold D7 at he
 split at he
 case h_2=>cases he
 rename_i ke ve kt vt b hm
 obtain⟨hu,hke,_,⟨kd,h4,h5⟩,⟨vd,h6,h7⟩⟩:=fZ T hm
 subst h5;subst h7
 split at he
 case h_2=>cases he
 rename_i k0 u es kx hbk0
 split at he
 case isFalse=>cases he
 rename_i hc
 obtain⟨c1,c2⟩:=hc
 have e1:=Ty.aB c1;subst e1
 have e2:=Ty.aB c2;subst e2
 split at he
 case h_2=>cases he
 rename_i k' hk'
 split at he
 case isFalse=>cases he
 rename_i p1
 cases he
 obtain⟨he,hkx,hlen,_⟩:=hvc
 have hkx:k'=kx:=(cn hke _ _).1 hkx
 subst hkx
 have hkv:cE E w (.val kd.ty k') vk:=cE.bO hk' (RV.iZ p1 hk)
 have hbk:=hB b _ hbk0
 obtain⟨q1,q2,g,en,clock,q3,q4,q5,q6,q7,n,n1,n2,n3⟩:=h.hw.cX b _ hbk
 obtain⟨g0,hg0,ex⟩:=RV.atom rfl hx
 simp at ex;subst ex
 rw[q3] at hg0;have hg0:=iR hg0;subst hg0
 obtain⟨r,r1,r2⟩:=lA T h4 he hkv q5
 have hck:=fW T (E:=E) (w:=w) false 9960 40 ke kd h4 he k' vk hkv
 have hlt:g<w.heap.size:=(Array.getElem?_eq_some_iff.1 q4).1
 have kpo:∀o,bS E w E (w.putObj g o):=fun o=>⟨fun i hi=>World.putObj_heap_other (fun e=>h.hw.kf b _ g hbk q3 (e▸hi)),fun _ h=>h⟩
 obtain⟨R1,R2⟩:=qn hu q4 hck
 have fin:∀(vv:Value)(en':Array MapEntry)(anc:Nat),cE E w (.val vd.ty (aQ kd.ty vd.ty k' es)) vv→(Instr.mapEntry t (.map (some g)) vk).run P w= .ok (.tuple #[vv,goInt n]) (w.putObj g (.map en' anc))→
  RB E (w.putObj g (.map en' anc)) b (.mw kd.ty vd.ty (bC kd.ty k' (aQ kd.ty vd.ty k' es) es) k')→
  ∃v' w',(Instr.mapEntry t (.map (some g)) vk).run P w= .ok v' w'∧cp gl {σ with hp:=aR σ.hp [(b,some (.mw kd.ty vd.ty (bC kd.ty k' (aQ kd.ty vd.ty k' es) es) k'))]} E a w'∧RV E w' (.gm (.cons (.val vd.ty (aQ kd.ty vd.ty k' es)) (.cons (.eK b) .nil))) v'∧Ext gl.md (bK σ.hp E) E w (bK (aR σ.hp [(b,some (.mw kd.ty vd.ty (bC kd.ty k' (aQ kd.ty vd.ty k' es) es) k'))]) E) E w':=by
  intro vv en' anc hv anj hrb2
  have hw2:=h.hw.write hbk (by simp) (fun i hi=>World.putObj_heap_other (fun e=>hi (by grind))) hrb2
  refine⟨_,_,anj,h.carry (kpo _) (fun _ _=>⟨rfl,rfl,rfl⟩) hw2,⟨#[vv,goInt n],rfl,cE.mono (kpo _) (fun _ _=>⟨rfl,rfl,rfl⟩) hv,Or.inr ⟨rfl,by rw[n1];rfl,n,n1⟩,rfl⟩,⟨rfl,Tp.r rfl rfl,rfl,by simp,?_,fun _ h=>h,fun _ h=>Or.inl h,fun i hi=>Or.inl (bK.i3 hbk hi),fun _ _=>⟨rfl,rfl,rfl⟩⟩⟩
  intro i hi ho
  exact World.putObj_heap_other (fun e=>ho ⟨b,_,hbk,by rw[e];exact Or.inl q3⟩)
 cases hf:cz kd.ty k' es 0 with
 |
  none=>
  rw[hf] at r2
  cases r with
  |some _=>trivial
  |
   none=>
   have hnm:=mR hke hf
   have hn:n=clock:=n2 hnm
   obtain⟨z,z1,z2,z3⟩:=T.zero h6 w
   have hz:cE E w (.val vd.ty vd.ty.aD) z:=by
    have hr:=(fS (E:=E) (w:=w) z2).2 (by assumption)
    cases z with
    |agg cs=>exact Or.inl ⟨by simp only[Dm] at z3;exact z3.symm,cs,rfl,hr⟩
    |_=>exact Or.inr ⟨by simp only[Dm] at z3;exact z3.symm,by trivial⟩
   have hg0:=K0 hf
   refine fin z (en.push {key:=vk,val:=z,born:=clock}) (clock+1) (by rw[hg0];exact hz) (by rw[hn];exact R1 z z1 r1) ⟨dw hke q1,cI dt hlen,g,_,_,q3,World.putObj_heap_same hlt,?_,?_,?_,n,n1,?_,?_⟩
   ·refine RM.mono (kpo _) ?_
    rw[Array.toList_push]
    exact RM.push hkv (by rw[hg0];exact hz) q5 hf
   ·intro x hx
    rw[Array.toList_push] at hx
    rcases List.mem_append.1 hx with hx|hx
    ·have:=q6 x hx;omega
    ·simp at hx;subst hx;simp
   ·rw[Array.toList_push,oq,List.nodup_append]
    refine⟨q7,by simp,?_⟩
    intro x hx y hy
    obtain⟨e,he,rfl⟩:=List.mem_map.1 hx
    have:=q6 e he
    simp at hy;subst hy;omega
   ·intro hh
    refine absurd ?_ hh
    rw[vQ hf];simp
   ·intro i m y hi hm'
    rw[vQ hf] at hi
    have hsz:en.size=es.length:=by have:=RM.len q5;simpa using this
    by_cases hil:i<es.length
    ·rw[List.getElem?_append_left hil] at hi
     exact absurd (List.mem_map.2 ⟨_,je hi,rfl⟩) hnm
    ·have:i=es.length:=by
      have:=(List.getElem?_eq_some_iff.1 hi).1
      simp at this;omega
     subst this
     rw[←hsz,Array.getElem?_push_size] at hm'
     cases hm'
     exact hn.symm
 |
  some p=>
  obtain⟨i,y⟩:=p
  rw[hf] at r2
  cases r with
  |none=>trivial
  |
   some q=>
   obtain⟨i',v0⟩:=q
   obtain⟨e1,e2⟩:=r2
   simp only at e1 e2
   subst e1
   have s1:=yh hke hf
   obtain⟨m,s2,s3,s4⟩:=RM.idx q5 s1
   have s2':en[i]? =some m:=by simpa using s2
   have hy:=K1 hf
   have hb:=n3 i m y s1 s2'
   obtain⟨f1,f2⟩:=cE.fn hke s3 hkv
   have hstay:(Instr.keyThatStays m.key vk).run P w= .ok vk w:=by
    rw[Instr.keyThatStays,←f1,aA f2];simp
   have aR:bC kd.ty k' y es=es:=by
    rw[ql hke q1 s1]
    apply List.ext_getElem?
    intro j
    rw[dm]
    grind
   have hset2:bC kd.ty k' (aQ kd.ty vd.ty k' es) es=es:=by rw[hy];exact aR
   have hgl:∀(j:Nat)(m':MapEntry),(en.modify i fun e=>{e with key:=vk})[j]? =some m'→∃m0:MapEntry,en[j]? =some m0∧m'.born=m0.born:=by
    intro j m' hj
    rw[Array.getElem?_modify] at hj
    grind
   refine fin v0 (en.modify i fun e=>{e with key:=vk}) clock (by rw[hy];exact e2) (by rw[←hb];exact xg hu q4 hck s2' r1 hstay) ?_
   rw[hset2]
   refine⟨q1,q2,g,_,_,q3,World.putObj_heap_same hlt,?_,?_,?_,n,n1,fun hh=>absurd (List.mem_map.2 ⟨_,je s1,rfl⟩) hh,?_⟩
   ·refine RM.mono (kpo _) ?_
    obtain⟨t1,_⟩:=RM.OJ (i:=0) (j:=i) hke hkv s4 q5 (by rw[dV];exact hf)
    rw[aR] at t1
    rw[Array.toList_modify]
    have:en.toList.modify i (fun e=>{e with key:=vk})=en.toList.modify i (fun e=>{e with key:=vk,val:=m.val}):=by
     apply List.ext_getElem?
     intro j
     rw[List.getElem?_modify,List.getElem?_modify]
     grind
    rw[this];exact t1
   ·intro x hx
    obtain⟨j,hj⟩:=List.getElem?_of_mem hx
    obtain⟨m0,h1,h2⟩:=hgl j x (by rw[←Array.getElem?_toList];exact hj)
    rw[h2]
    exact q6 m0 (je (i:=j) (by simpa using h1))
   ·have:(en.modify i fun e=>{e with key:=vk}).toList.map (·.born)=en.toList.map (·.born):=by
     rw[Array.toList_modify]
     apply List.ext_getElem?
     grind
    rw[this];exact q7
   ·intro j m' y' hj hm'
    have e:=rK q1 hj s1
    subst e
    obtain⟨m0,h1,h2⟩:=hgl _ m' hm'
    rw[s2'] at h1;cases h1
    rw[h2];exact hb
def D8(_G:cd)(hb:Nat→Option aP)(x s y:AV):Option fK:=
 match x,s with
 |
  .mp b,.eK c=>match hb b with
  |
   some (.mw k0 u es kx)=>match y.bO u with
   |some y'=>if Nat.beq b c&&k0.keyed&&y.plain then some ⟨.bot,[(b,some (.map k0 u (bC k0 kx y' es)))],[],[vc (cC k0 kx es=true)]⟩ else none
   |none=>none
  |_=>none
 |_,_=>none
theorem K2{kt:Ty}{α:Type}(_hk:kt.keyed=true){k:kt.den}:∀{es:List (kt.den×α)},cC kt k es=true→∃i z,cz kt k es 0=some (i,z):=by
 have:∀(es:List (kt.den×α))(j:Nat),cC kt k es=true→∃i z,cz kt k es j=some (i,z):=by
  intro es
  induction es with
  |nil=>intro j h;cases h
  |
   cons e es ih=>
   intro j h
   simp only[cC,fQ] at h
   simp only[cz]
   split
   ·exact⟨_,_,rfl⟩
   ·rename_i hb
    exact ih _ (h.resolve_left hb)
 intro es h
 exact this es 0 h
theorem HP{P:Program}{G:cd}{gl:Ctx}{σ:St}{E:Env}{a:Act}{w:World}(h:cp gl σ E a w){hb:Nat→Option aP}(hB:HB hb σ.hp){t:TypeId}{x s y:AV}{vx vs vy:Value}(hx:RV E w x vx)(hs:RV E w s vs)(hy:RV E w y vy){r:fK}(he:D8 G hb x s y=some r)(hvc:dQ r.vc):
 ∃w',(Instr.entryStore t vx vs vy).run P w= .ok () w'∧cp gl {σ with hp:=aR σ.hp r.hw} E a w'∧RV E w' r.v undef∧Ext gl.md (bK σ.hp E) E w (bK (aR σ.hp r.hw) E) E w':=by
 unfold D8 at he
 split at he
 case h_2=>cases he
 rename_i b c
 split at he
 case h_2=>cases he
 rename_i k0 u es kx hbk0
 split at he
 case h_2=>cases he
 rename_i y' hy'
 split at he
 case isFalse=>cases he
 rename_i hpl
 cases he
 obtain⟨hmh,_⟩:=hvc
 simp only[bB] at hpl
 obtain⟨⟨p0,hke⟩,p2⟩:=hpl
 have p0:=bT p0;subst p0
 have hyv:cE E w (.val u y') vy:=cE.bO hy' (RV.iZ p2 hy)
 have hbk:=hB b _ hbk0
 obtain⟨q1,q2,g,en,clock,q3,q4,q5,q6,q7,n,n1,n2,n3⟩:=h.hw.cX b _ hbk
 obtain⟨g0,hg0,ex⟩:=RV.atom rfl hx
 simp at ex;subst ex
 rw[q3] at hg0;have hg0:=iR hg0;subst hg0
 obtain⟨es1,_⟩:=RV.atom rfl hs
 simp at es1;subst es1
 have kpo:∀o,bS E w E (w.putObj g o):=fun o=>⟨fun i hi=>World.putObj_heap_other (fun e=>h.hw.kf b _ g hbk q3 (e▸hi)),fun _ h=>h⟩
 have hlt:g<w.heap.size:=(Array.getElem?_eq_some_iff.1 q4).1
 obtain⟨i,z,hf⟩:=K2 hke hmh
 have s1:=yh hke hf
 obtain⟨m,s2,s3,s4⟩:=RM.idx q5 s1
 have s2':en[i]? =some m:=by simpa using s2
 have hb:=n3 i m z s1 s2'
 have hfind:en.findIdx? (fun e=>(e.born:Int)==(n:Int))=some i:=by
  rw[Array.findIdx?_eq_some_iff_getElem]
  obtain⟨hi,hm⟩:=Array.getElem?_eq_some_iff.1 s2'
  refine⟨hi,by grind,fun j hj=>?_⟩
  intro hbj
  have hj2:en[j]? =some en[j]:=by simp
  grind [vP]
 have h1:(getObj g).run P w= .ok (.map en clock) w:=by simp[getObj,Sem.run,q4]
 have aR:∀o,(setObj g o).run P w= .ok () (w.putObj g o):=fun o=>by simp[setObj,Sem.run,q4,World.putObj]
 have anj:(Instr.entryStore t (.map (some g)) (E.sv b) vy).run P w= .ok () (w.putObj g (.map (en.modify i fun e=>{e with val:=vy}) clock)):=by
  grind [Instr.entryStore,Sem.run_bind,Result.andThen_ok,asInt,asIntOf]
 have hrb:RB E (w.putObj g (.map (en.modify i fun e=>{e with val:=vy}) clock)) b (.map k0 u (bC k0 kx y' es)):=by
  have hgl:∀(j:Nat)(m':MapEntry),(en.modify i fun e=>{e with val:=vy})[j]? =some m'→∃m0:MapEntry,en[j]? =some m0∧m'.born=m0.born:=by
   intro j m' hj
   rw[Array.getElem?_modify] at hj
   grind
  have hl:(bC k0 kx y' es).length=es.length:=by rw[ql hke q1 s1];simp
  refine⟨dw hke q1,by rw[hl];exact q2,g,_,_,q3,World.putObj_heap_same hlt,?_,?_,?_⟩
  ·refine RM.mono (kpo _) ?_
   obtain⟨t1,_⟩:=RM.OJ (i:=0) (j:=i) hke s3 hyv q5 (by rw[dV];exact hf)
   rw[Array.toList_modify]
   have:en.toList.modify i (fun e=>{e with val:=vy})=en.toList.modify i (fun e=>{e with key:=m.key,val:=vy}):=by
    apply List.ext_getElem?
    intro j
    rw[List.getElem?_modify,List.getElem?_modify]
    grind
   rw[this];exact t1
  ·intro x hx
   obtain⟨j,hj⟩:=List.getElem?_of_mem hx
   obtain⟨m0,h1,h2⟩:=hgl j x (by rw[←Array.getElem?_toList];exact hj)
   rw[h2]
   exact q6 m0 (je (i:=j) (by simpa using h1))
  ·have:(en.modify i fun e=>{e with val:=vy}).toList.map (·.born)=en.toList.map (·.born):=by
    rw[Array.toList_modify]
    apply List.ext_getElem?
    grind
   rw[this];exact q7
 have hw2:=h.hw.write (k':=.map k0 u (bC k0 kx y' es)) hbk (by simp) (fun i hi=>World.putObj_heap_other (fun e=>hi (by grind))) (w':=w.putObj g (.map (en.modify i fun e=>{e with val:=vy}) clock)) hrb
 refine⟨_,anj,h.carry (kpo _) (fun _ _=>⟨rfl,rfl,rfl⟩) hw2,trivial,⟨rfl,Tp.r rfl rfl,rfl,by simp,?_,fun _ h=>h,fun _ h=>Or.inl h,fun i hi=>Or.inl (bK.i3 hbk hi),fun _ _=>⟨rfl,rfl,rfl⟩⟩⟩
 intro i hi ho
 exact World.putObj_heap_other (fun e=>ho ⟨b,_,hbk,by rw[e];exact Or.inl q3⟩)
end Go.Ax
namespace Go.Ax
def Gm:Ty→Bool
 | .aS .func=>true
 |_=>false
theorem K3{t:Ty}(h:Gm t=true):t= .aS .func:=by
 grind [Gm]
def TS(k0:Ty)(k:k0.den):List (k0.den×AV)→List VC
 |[]=>[]
 |x::l=>vc (bD k0 k x.1=false)::TS k0 k l
def Ou(P:Program)(G:cd)(td:TD)(b:Nat)(k0:Ty)(l:List (k0.den×AV))(k v:AV):Option fK:=
 match G.at td.e,k.bO k0 with
 |some kd,some k'=>if td.ty.mD&&k0.keyed&&Ty.same k0 kd.ty&&k.plain&&v.plain&& !v.isAgg then some ⟨.bot,[(b,some (.il k0 (l++[(k',v)])))],[],vc (iH P G 40 td.e k0=true)::vc (l.length+1≤aG)::TS k0 k' l⟩ else none
 |_,_=>none
def D9(P:Program)(G:cd)(hb:Nat→Option aP)(t:TypeId)(x k v:AV):Option fK:=
 match G.at t,x with
 |
  some td,.mp b=>match hb b with
  |some (.map k0 u [])=>if Gm u then Ou P G td b k0 [] k v else none
  |some (.il k0 l)=>Ou P G td b k0 l k v
  |_=>none
 |_,_=>none
def okF(ok:Bool)(x:AV)(b:Bool):AV:=match ok with
 |true=>.gm (.cons x (.cons (.val .bool b) .nil))
 |false=>x
def lV(ok:Bool)(k0:Ty)(k:k0.den):List (k0.den×AV)→AV
 |[]=>okF ok .fD false
 |x::l=>if bD k0 k x.1=true then okF ok x.2 true else lV ok k0 k l
def tV(P:Program)(G:cd)(hb:Nat→Option aP)(ok:Bool)(t:TypeId)(x k:AV):Option (AV×List VC):=
 match G.at t,x with
 |
  some td,.mp b=>match hb b with
  |
   some (.il k0 l)=>match G.at td.e,G.at td.e2,k.bO k0 with
   |some kd,some vd,some k'=>if td.ty.mD&&k0.keyed&&Ty.same k0 kd.ty&&k.plain&&Gm vd.ty then some (lV ok k0 k' l,[vc (iH P G 40 td.e k0=true)]) else none
   |_,_,_=>none
  |_=>none
 |_,_=>none
theorem RF.rk{E:Env}{w:World}{k:Ty}:∀{en:List MapEntry}{l:List (k.den×AV)},RF E w k en l→RK E w k en l
 |[],[],_=>trivial
 |[],_::_,h=>h.elim
 |_::_,[],h=>h.elim
 |_::_,_::_,h=>⟨h.1,RF.rk h.2.2.2⟩
theorem RF.get{E:Env}{w:World}{k:Ty}:∀{en:List MapEntry}{l:List (k.den×AV)}{i:Nat}{x:k.den×AV},RF E w k en l→l[i]? =some x→∃m,en[i]? =some m∧RC E w x.2 [m.val]∧x.2.isAgg=false
 |[],[],i,x,_,hx=>by grind
 |[],_::_,_,_,h,_=>h.elim
 |_::_,[],_,_,h,_=>h.elim
 |m::_,_::_,0,x,h,hx=>by simp at hx;subst hx;exact⟨m,rfl,h.2.1,h.2.2.1⟩
 |_::_,_::_,i+1,x,h,hx=>by simpa using RF.get h.2.2.2 (by simpa using hx)
theorem RF.snoc{E:Env}{w:World}{k:Ty}{m:MapEntry}{x:k.den×AV}(h1:cE E w (.val k x.1) m.key)(h2:RC E w x.2 [m.val])(h3:x.2.isAgg=false):∀{en:List MapEntry}{l:List (k.den×AV)},RF E w k en l→RF E w k (en++[m]) (l++[x])
 |[],[],_=>⟨h1,h2,h3,trivial⟩
 |[],_::_,h=>h.elim
 |_::_,[],h=>h.elim
 |_::_,_::_,h=>⟨h.1,h.2.1,h.2.2.1,RF.snoc h1 h2 h3 h.2.2.2⟩
theorem Gn{k0:Ty}(hk:k0.keyed=true){k:k0.den}:∀{l:List (k0.den×AV)},dQ (TS k0 k l)→k∉l.map (·.1)
 |[],_=>by simp
 |
  x::l,⟨h1,h2⟩=>by
  have h1:bD k0 k x.1=false:=h1
  simp only[d8,fJ,not_or]
  refine⟨fun e=>?_,Gn hk h2⟩
  rw[(cn hk _ _).2 e] at h1;cases h1
theorem Cc{ok:Bool}{k0:Ty}(hk:k0.keyed=true){k:k0.den}:∀{l:List (k0.den×AV)}{i:Nat}{v:AV},(l.map (·.1)).Nodup→l[i]? =some (k,v)→lV ok k0 k l=okF ok v true
 |[],i,v,_,h=>by simp at h
 |x::l,0,v,_,h=>by simp_all[lV,cn]
 |
  x::l,i+1,v,hn,h=>by
  simp only[d8,mr] at hn
  have hm:l[i]? =some (k,v):=by grind
  have hne:¬bD k0 k x.1=true:=fun e=>hn.1 (by rw[←(cn hk _ _).1 e];grind)
  simp only[lV];rw[aC hne];exact Cc hk hn.2 hm
theorem Cd{ok:Bool}{k0:Ty}(hk:k0.keyed=true){k:k0.den}:∀{l:List (k0.den×AV)},k∉l.map (·.1)→lV ok k0 k l=okF ok .fD false
 |[],_=>rfl
 |
  x::l,h=>by
  simp only[d8,fJ,not_or] at h
  simp only[lV];rw[aC (fun e=>h.1 ((cn hk _ _).1 e))];exact Cd hk h.2
theorem Gp{P:Program}{G:cd}(T:bM P G){E:Env}{w:World}{td kd:TD}{k0:Ty}{l:List (k0.den×AV)}{en:List MapEntry}(hk:k0.keyed=true)(h4:G.at td.e=some kd)(hs:Ty.same k0 kd.ty=true)(he:iH P G 40 td.e k0=true)(hr:RF E w k0 en l){k':k0.den}{vk:Value}(hkv:cE E w (.val k0 k') vk):
 (∀em,(Instr.checkKey em 10000 td.e vk).run P w= .ok () w)∧∃r,(Instr.findKey td.e vk en).run P w= .ok r w∧((r=none∧k'∉l.map (·.1))∨∃i v m,r=some (i,m.val)∧l[i]? =some (k',v)∧en[i]? =some m):=by
 have e:=Ty.aB hs
 subst e
 refine⟨fun em=>fW T (E:=E) (w:=w) em 9960 40 _ kd h4 he k' vk hkv,?_⟩
 obtain⟨r,r1,r2⟩:=Cb T h4 he hkv hr.rk
 refine⟨r,r1,?_⟩
 cases hf:cz kd.ty k' l 0 with
 |
  none=>
  rw[hf] at r2
  cases r with
  |none=>exact Or.inl ⟨rfl,oW hk hf⟩
  |some _=>trivial
 |
  some p=>
  obtain⟨i,y⟩:=p
  rw[hf] at r2
  cases r with
  |none=>trivial
  |
   some q=>
   obtain⟨i',u⟩:=q
   obtain⟨e1,_,m,e2,e3⟩:=r2
   simp only[Nat.sub_zero] at e1 e2 e3
   subst e1;subst e3
   have:=(oV hk hf).2
   grind
theorem Gq{P:Program}{G:cd}(T:bM P G){gl:Ctx}{σ:St}{E:Env}{a:Act}{w:World}(h:cp gl σ E a w){t:TypeId}{td:TD}(ht:G.at t=some td){b:Nat}{k0:Ty}{l:List (k0.den×AV)}{k v:AV}{vk vv:Value}(hk:RV E w k vk)(hv:RV E w v vv){r:fK}(he:Ou P G td b k0 l k v=some r)(hvc:dQ r.vc)
 {kb:aP} (hbk:σ.hp[b]? =some (some kb)) (hrb:RB E w b (.il k0 l)) {g:Nat} (hg:E.g b=some g):
 ∃w',(Instr.mapUpdate t (.map (some g)) vk vv).run P w= .ok () w'∧cp gl {σ with hp:=aR σ.hp r.hw} E a w'∧RV E w' r.v undef∧Ext gl.md (bK σ.hp E) E w (bK (aR σ.hp r.hw) E) E w':=by
 unfold Ou at he
 split at he
 case h_2=>cases he
 rename_i kd k' h4 hk'
 split at he
 case isFalse=>cases he
 rename_i hc
 cases he
 simp only[bB,gV] at hc
 obtain⟨⟨⟨⟨⟨c1,c2⟩,c3⟩,c4⟩,c5⟩,c6⟩:=hc
 obtain⟨he,hlen,hdif⟩:=hvc
 have hn:=Gn c2 hdif
 have hu:=T.mapOf ht c1
 have hkv:cE E w (.val k0 k') vk:=cE.bO hk' (RV.iZ c4 hk)
 have hvv:RC E w v [vv]:=by
  rcases RV.iZ c5 hv with⟨hh,_⟩|⟨_,hh⟩<;>grind
 obtain⟨z1,z2,g',en,clock,q1,q2,q3⟩:=hrb
 rw[hg] at q1;cases q1
 obtain⟨k1,r,k2,k3⟩:=Gp T c2 h4 c3 he q3 hkv
 rcases k3 with⟨e,_⟩|⟨i,y,m,_,s1,_⟩
 case inr=>grind
 subst e
 have h1:(getObj g).run P w= .ok (.map en clock) w:=by simp[getObj,Sem.run,q2]
 have aR:∀o,(setObj g o).run P w= .ok () (w.putObj g o):=fun o=>by simp[setObj,Sem.run,q2,World.putObj]
 have hlt:g<w.heap.size:=(Array.getElem?_eq_some_iff.1 q2).1
 have kpo:∀o,bS E w E (w.putObj g o):=fun o=>⟨fun i hi=>World.putObj_heap_other (fun e=>h.hw.kf b _ g hbk hg (e▸hi)),fun _ h=>h⟩
 have anj:(Instr.mapUpdate t (.map (some g)) vk vv).run P w= .ok () (w.putObj g (.map (en.push {key:=vk,val:=vv,born:=clock}) (clock+1))):=by
  simp_all[Instr.mapUpdate,run_underlying]
 have hw2:=h.hw.write (k':=.il k0 (l++[(k',v)])) hbk (by simp) (fun i hi=>World.putObj_heap_other (fun e=>hi (by grind))) (w':=w.putObj g (.map (en.push {key:=vk,val:=vv,born:=clock}) (clock+1))) ⟨by
  grind,by grind,g,_,_,hg,World.putObj_heap_same hlt,by
  rw[Array.toList_push]
  exact RF.snoc (cE.mono (kpo _) (fun _ hb=>by cases hb) hkv) (RC.mono (kpo _) (fun _ _=>⟨rfl,rfl,rfl⟩) hvv) c6 (RF.mono (kpo _) (fun _ _=>⟨rfl,rfl,rfl⟩) q3)⟩
 refine⟨_,anj,h.carry (kpo _) (fun _ _=>⟨rfl,rfl,rfl⟩) hw2,trivial,⟨rfl,Tp.r rfl rfl,rfl,by simp,?_,fun _ h=>h,fun _ h=>Or.inl h,fun i hi=>Or.inl (bK.i3 hbk hi),fun _ _=>⟨rfl,rfl,rfl⟩⟩⟩
 intro i hi ho
 exact World.putObj_heap_other (fun e=>ho ⟨b,_,hbk,by rw[e];exact Or.inl hg⟩)
theorem HQ{P:Program}{G:cd}(T:bM P G){gl:Ctx}{σ:St}{E:Env}{a:Act}{w:World}(h:cp gl σ E a w){hb:Nat→Option aP}(hB:HB hb σ.hp){t:TypeId}{x k v:AV}{vx vk vv:Value}(hx:RV E w x vx)(hk:RV E w k vk)(hv:RV E w v vv){r:fK}(he:D9 P G hb t x k v=some r)(hvc:dQ r.vc):
 ∃w',(Instr.mapUpdate t vx vk vv).run P w= .ok () w'∧cp gl {σ with hp:=aR σ.hp r.hw} E a w'∧RV E w' r.v undef∧Ext gl.md (bK σ.hp E) E w (bK (aR σ.hp r.hw) E) E w':=by
 unfold D9 at he
 split at he
 case h_2=>cases he
 rename_i td b ht
 obtain⟨g0,hg0,ex⟩:=RV.atom rfl hx
 simp at ex;subst ex
 split at he
 ·rename_i k0 u hbk0
  split at he
  case isFalse=>cases he
  have hbk:=hB b _ hbk0
  obtain⟨z1,z2,g,en,clock,q1,q2,q3,_⟩:=h.hw.cX b _ hbk
  refine Gq T h ht hk hv he hvc hbk ⟨by simp,by simp,g,en,clock,q1,q2,?_⟩ hg0
  cases hen:en.toList with
  |nil=>trivial
  |cons m l=>rw[hen] at q3;exact q3.elim
 ·rename_i k0 l hbk0
  have hbk:=hB b _ hbk0
  exact Gq T h ht hk hv he hvc hbk (h.hw.cX b _ hbk) hg0
 ·cases he
theorem Ea{P:Program}{G:cd}(T:bM P G){gl:Ctx}{E:Env}{w:World}{hp:List (Option aP)}(hw:HW gl E w hp){hb:Nat→Option aP}(hB:HB hb hp){ok:Bool}{t:TypeId}{x k:AV}{vx vk:Value}(hx:RV E w x vx)(hk:RV E w k vk){r:AV}{vcs:List VC}(h:tV P G hb ok t x k=some (r,vcs))(hvc:dQ vcs):
 ∃v,(Instr.lookup t vx vk ok).run P w= .ok v w∧RV E w r v:=by
 unfold tV at h
 split at h
 case h_2=>cases h
 rename_i td b ht
 split at h
 case h_2=>cases h
 rename_i k0 l hbk0
 split at h
 case h_2=>cases h
 rename_i kd vd k' h4 h6 hk'
 split at h
 case isFalse=>cases h
 rename_i hc
 cases h
 simp only[bB] at hc
 obtain⟨⟨⟨⟨c1,c2⟩,c3⟩,c4⟩,c5⟩:=hc
 obtain⟨he,_⟩:=hvc
 have hu:=T.mapOf ht c1
 have hkv:cE E w (.val k0 k') vk:=cE.bO hk' (RV.iZ c4 hk)
 obtain⟨g0,hg0,ex⟩:=RV.atom rfl hx
 simp at ex;subst ex
 obtain⟨z1,z2,g,en,clock,q1,q2,q3⟩:=hw.cX b _ (hB b _ hbk0)
 rw[q1] at hg0;cases hg0
 obtain⟨k1,rr,k2,k3⟩:=Gp T c2 h4 c3 he q3 hkv
 have h1:(getObj g0).run P w= .ok (.map en clock) w:=by simp[getObj,Sem.run,q2]
 rcases k3 with⟨e,hn⟩|⟨i,y,m,e,s1,s2⟩
 ·subst e
  obtain⟨z,y1,y2,y3⟩:=T.zero h6 w
  have hz:=K3 c5
  rw[hz] at y2 y3
  have hzz:RC E w .fD [z]:=by
   have:=(fS (E:=E) (w:=w) y2).1
   cases z with
   |agg cs=>trivial
   |_=>trivial
  rw[Cd c2 hn]
  cases ok with
  |
   true=>
   refine⟨.tuple #[z,.bool false],by simp only[Instr.lookup,Sem.run_bind,run_underlying hu,Result.andThen_ok,Sem.run_pure,h1,k1,k2,y1];rfl,?_⟩
   exact⟨#[z,.bool false],rfl,Or.inr ⟨rfl,hzz⟩,RV.bool,rfl⟩
  |
   false=>
   refine⟨z,by simp only[Instr.lookup,Sem.run_bind,run_underlying hu,Result.andThen_ok,Sem.run_pure,h1,k1,k2,y1];rfl,?_⟩
   exact RV.eI (Or.inr ⟨rfl,hzz⟩)
 ·subst e
  obtain⟨m',r1,r2,r3⟩:=RF.get q3 s1
  rw[s2] at r1;cases r1
  rw[Cc c2 z1 s1]
  cases ok with
  |
   true=>
   refine⟨.tuple #[m.val,.bool true],by simp only[Instr.lookup,Sem.run_bind,run_underlying hu,Result.andThen_ok,Sem.run_pure,h1,k1,k2];rfl,?_⟩
   exact⟨#[m.val,.bool true],rfl,Or.inr ⟨r3,r2⟩,RV.bool,rfl⟩
  |
   false=>
   refine⟨m.val,by simp only[Instr.lookup,Sem.run_bind,run_underlying hu,Result.andThen_ok,Sem.run_pure,h1,k1,k2];rfl,?_⟩
   exact RV.eI (Or.inr ⟨r3,r2⟩)
def vR(P:Program)(G:cd)(op:Op)(ev:Operand→AV)(hb:Nat→Option aP):Option fK:=
 match op with
 |
  .mapEntry t x k=>match D5 P G hb t (ev x) (ev k) with
  |some e=>some e
  |none=>D7 P G hb t (ev x) (ev k)
 |
  .entryStore _ x s y=>match D6 hb (ev x) (ev s) (ev y) with
  |some e=>some e
  |none=>D8 G hb (ev x) (ev s) (ev y)
 | .insert t x k v=>D9 P G hb t (ev x) (ev k) (ev v)
 | .lookup t x k ok=>(tV P G hb ok t (ev x) (ev k)).map .MK
 |_=>none
theorem K4{P:Program}{G:cd}(T:bM P G){gl:Ctx}{σ:St}{E:Env}{a:Act}{w:World}(h:cp gl σ E a w){o:Oper}{ev:Operand→AV}{hb:Nat→Option aP}(hB:HB hb σ.hp){r:fK}
 (hev:∀x∈o.op.operands.toList,RV E w (ev x) (a.eval x)) (he:vR P G o.op ev hb=some r) (hvc:dQ r.vc):cm P gl σ E a w o r:=by
 unfold vR at he
 split at he
 ·rename_i t x k hop
  split at he
  ·rename_i e hp
   cases he
   obtain⟨v,w',h1,h2,h3,h4⟩:=HM T h hB (hev x (by simp[hop,Op.operands])) (hev k (by simp[hop,Op.operands])) hp hvc
   exact⟨_,v,w',E,by simp[execOp,hop,h1],Or.inl rfl,h2,h3,h4⟩
  ·obtain⟨v,w',h1,h2,h3,h4⟩:=HO T h hB (hev x (by simp[hop,Op.operands])) (hev k (by simp[hop,Op.operands])) he hvc
   exact⟨_,v,w',E,by simp[execOp,hop,h1],Or.inl rfl,h2,h3,h4⟩
 ·rename_i t x s y hop
  split at he
  ·rename_i e hp
   cases he
   obtain⟨w',h1,h2,h3,h4⟩:=HN (P:=P) (t:=t) h hB (hev x (by simp[hop,Op.operands])) (hev s (by simp[hop,Op.operands])) (hev y (by simp[hop,Op.operands])) hp
   exact⟨_,undef,w',E,by simp[execOp,hop,h1],Or.inr ⟨rfl,rfl⟩,h2,h3,h4⟩
  ·obtain⟨w',h1,h2,h3,h4⟩:=HP (P:=P) (G:=G) (t:=t) h hB (hev x (by simp[hop,Op.operands])) (hev s (by simp[hop,Op.operands])) (hev y (by simp[hop,Op.operands])) he hvc
   exact⟨_,undef,w',E,by simp[execOp,hop,h1],Or.inr ⟨rfl,rfl⟩,h2,h3,h4⟩
 ·rename_i t x k v hop
  obtain⟨w',h1,h2,h3,h4⟩:=HQ T h hB (hev x (by simp[hop,Op.operands])) (hev k (by simp[hop,Op.operands])) (hev v (by simp[hop,Op.operands])) he hvc
  exact⟨_,undef,w',E,by simp[execOp,hop,h1],Or.inr ⟨rfl,rfl⟩,h2,h3,h4⟩
 ·rename_i t x k ok hop
  obtain⟨⟨u,vc⟩,hu,rfl⟩:=Option.map_eq_some_iff.1 he
  obtain⟨v,h1,h2⟩:=Ea T h.hw hB (hev x (by simp[hop,Op.operands])) (hev k (by simp[hop,Op.operands])) hu hvc
  exact cm.same h (v:=v) (by simp[execOp,hop,h1]) h2
 grind
end Go.Ax
noncomputable section
namespace Go.Ax
def gy(need:List Nat)(hp:List (Option aP))(b:Nat):Option aP:=if cJ b need then(hp[b]?).join else none
def K5:Operand→List Nat
 | .tmp t=>[t]
 |_=>[]
def slotsOf(l:List Operand):List Nat:=l.flatMap K5
def kI(ops:Array Oper)(o:Oper):Option Nat:=
 match o.guard with
 |none=>none
 |some (j,_)=>(ops[j]?).bind (·.dst)
def XJ:Bool→Bool→Bool
 |true,b=>b
 |false,b=> !b
def guardOf(ops:Array Oper)(tm:List AV)(o:Oper):Option Bool:=
 match o.guard with
 |none=>some true
 |
  some (j,want)=>match(ops[j]?).bind (·.dst) with
  |
   some t=>match tm[t]? with
   |some (.val .bool b)=>some (XJ b want)
   |some (.gm .nil)=>some false
   |_=>none
  |none=>none
def So:Option Nat→Nat
 |some d=>d+16
 |none=>16
def lk:Op→Bool
 | .call {callee:=.builtin _, .. }=>false
 | .call _=>true
 |_=>false
def mS(P:Program)(G:cd)(d:Nat)(op:Op)(ev:Operand→AV)(hb:Nat→Option aP):Option fK:=
 match Dx P G d op ev hb with
 |some e=>some e
 |
  none=>match wu P G d op ev hb with
  |some e=>some e
  |
   none=>match vJ P G d op ev with
   |some e=>some e
   |
    none=>match vL G op ev with
    |some e=>some e
    |
     none=>match vN P G op ev hb with
     |some e=>some e
     |
      none=>match vO G d op ev hb with
      |some e=>some e
      |none=>vR P G op ev hb
theorem K6{P:Program}{G:cd}{d:Nat}{op:Op}{ev:Operand→AV}{hb:Nat→Option aP}{r:fK}(h:mS P G d op ev hb=some r):∀c,op≠.defer c:=by
 grind [mS,Dx,wu,vJ,vL,vN,vO,vR]
theorem Ce{P:Program}{G:cd}(T:bM P G){gl:Ctx}{σ:St}{E:Env}{a:Act}{w:World}(h:cp gl σ E a w){o:Oper}{d:Nat}{ev:Operand→AV}{hb:Nat→Option aP}(hB:HB hb σ.hp){r:fK}
 (hev:∀x∈o.op.operands.toList,RV E w (ev x) (a.eval x)) (hids:∀x∈o.op.operands.toList,∀b∈(ev x).ids,b∈σ.ids) (he:mS P G d o.op ev hb=some r) (hvc:dQ r.vc) (hfr:∀b∈r.fr,σ.fresh b):cm P gl σ E a w o r:=by
 grind [mS,JU,Lq,KV,KW,KY,KZ,K4]
theorem Cf{P:Program}{G:cd}{d:Nat}{ok:Bool}{t:TypeId}{x k:Operand}{ev:Operand→AV}{hb:Nat→Option aP}{r:fK}(h:mS P G d (.lookup t x k ok) ev hb=some r){b:Nat}{k0:Ty}{l:List (k0.den×AV)}{k':k0.den}(hx:ev x= .mp b)(hbk:∀kb,hb b=some kb→kb= .il k0 l)(hk:(ev k).bO k0=some k'):r.v=lV ok k0 k' l:=by
 have h2:wu P G d (.lookup t x k ok) ev hb=none:=by
  show(m9 P G hb t (ev x) (ev k) ok).map fK.MK=none
  grind [m9,qz,zN]
 have h5:vN P G (.lookup t x k ok) ev hb=none:=by
  cases ok with
  |true=>rfl
  |
   false=>
   show(qm P G hb t (ev x) (ev k)).map fK.MK=none
   unfold qm
   grind
 unfold mS at h
 rw[show Dx P G d (.lookup t x k ok) ev hb=none from rfl,h2,show vJ P G d (.lookup t x k ok) ev=none from rfl,show vL G (.lookup t x k ok) ev=none from rfl,h5,show vO G d (.lookup t x k ok) ev hb=none from rfl] at h
 simp only[vR,fN] at h
 obtain⟨⟨u,vc⟩,hu,rfl⟩:=h
 unfold tV at hu
 rw[hx] at hu
 split at hu
 case h_2=>cases hu
 rename_i td b' ht heq
 cases heq
 split at hu
 case h_2=>cases hu
 rename_i k0' l' hh
 have:=hbk _ hh
 cases this
 split at hu
 case h_2=>cases hu
 rename_i kd vd k2 _ _ hk2
 rw[hk] at hk2;cases hk2
 split at hu
 ·cases hu;rfl
 grind
def jg(us:List Nat)(hb:Nat→Option aP):List (Nat×Option aP)→List (Nat×Option aP)×List VC
 |[]=>([],[])
 |
  x::l=>match x.2 with
  |some k=>if cJ x.1 us then((jg us hb l).1,⟨hb x.1=some k,Classical.propDecidable _⟩::(jg us hb l).2) else(x::(jg us hb l).1,(jg us hb l).2)
  |none=>(x::(jg us hb l).1,(jg us hb l).2)
theorem oX{us:List Nat}{hb:Nat→Option aP}{hp0:List (Option aP)}(hB:HB hb hp0):∀{l:List (Nat×Option aP)}{hp:List (Option aP)},(∀b∈l.map (·.1),hp[b]? =hp0[b]?)→(l.map (·.1)).Nodup→dQ (jg us hb l).2→aR hp (jg us hb l).1=aR hp l
 |[],_,_,_,_=>rfl
 |
  (b,k)::l,hp,h,hn,hv=>by
  simp only[d8,mr] at hn
  have BP:dQ (jg us hb l).2→aR (hp.set b k) (jg us hb l).1=aR (hp.set b k) l:=fun hv=>oX hB (fun c hc=>by
   have:b≠c:=fun e=>hn.1 (e▸hc)
   rw[List.getElem?_set_ne this]
   exact h c (d7 _ hc)) hn.2 hv
  cases k with
  |none=>simp only[jg] at hv ⊢;exact BP hv
  |
   some k=>
   by_cases hu:cJ b us=true
   ·simp only[jg,aA hu] at hv ⊢
    have e:hp[b]? =some (some k):=by
     rw[h b (dE ..)]
     exact hB b k hv.1
    have e2:hp.set b (some k)=hp:=by
     apply List.ext_getElem?
     intro i
     rw[dm]
     split
     ·rename_i hi;subst hi
      obtain⟨hlt,_⟩:=List.getElem?_eq_some_iff.1 e
      rw[aA hlt,e]
     ·rfl
    show aR hp (jg us hb l).1=aR (hp.set b (some k)) l
    rw[e2]
    exact oX hB (fun c hc=>h c (d7 _ hc)) hn.2 hv.2
   ·simp only[jg,aC hu] at hv ⊢
    exact BP hv
theorem dQ.app:∀{l m:List VC},dQ (l++m)→dQ l∧dQ m
 |[],_,h=>⟨trivial,h⟩
 |_::_,_,h=>⟨⟨h.1,(dQ.app h.2).1⟩,(dQ.app h.2).2⟩
def vS(r:CR)(hb:Nat→Option aP)(x:fK×List Prop):Option (fK×List Prop):=match r.us with
 |[]=>some x
 |us=>if !r.kq&&kj (x.1.hw.map (·.1)) then some (⟨x.1.v,(jg us hb x.1.hw).1,x.1.fr,x.1.vc++(jg us hb x.1.hw).2⟩,x.2) else none
theorem K7{r:CR}{hb:Nat→Option aP}{hp:List (Option aP)}(hB:HB hb hp){x y:fK×List Prop}(h:vS r hb x=some y)(hv:dQ y.1.vc):y.1.v=x.1.v∧y.1.fr=x.1.fr∧y.2=x.2∧aR hp y.1.hw=aR hp x.1.hw:=by
 unfold vS at h
 split at h
 ·grind
 ·split at h
  ·rename_i hc
   cases h
   simp only[bB] at hc
   exact⟨rfl,rfl,rfl,oX hB (fun _ _=>rfl) (f8 hc.2) (dQ.app hv).2⟩
  grind
theorem Ov{r:CR}{hb:Nat→Option aP}{x y:fK×List Prop}(h:vS r hb x=some y):y.2=x.2:=by
 grind [vS]
theorem HR{r:CR}(hp:r.kq=true){hb:Nat→Option aP}{x y:fK×List Prop}(h:vS r hb x=some y):y=x:=by
 grind [vS]
def mT(P:Program)(G:cd)(gl:Ctx)(d:Nat)(r:CR)(op:Op)(ev:Operand→AV)(hb:Nat→Option aP):Option (fK×List Prop):=
 match op with
 |
  .call c=>match c.callee with
  | .builtin _=>(mS P G d (.call c) ev hb).map fun e=>(e,[])
  |_=>Option.bind (pd P G gl r ev hb c) (vS r hb)
 |op=>(mS P G d op ev hb).map fun e=>(e,[])
def lkT:List (Nat×Ty)→Nat→Option Ty
 |[],_=>none
 |(t,ty)::l,x=>if Nat.beq t x then some ty else lkT l x
def HS(hb:Nat→Option aP)(z:List (Nat×Ty))(ev:Operand→AV):Operand→AV
 |
  .tmp t=>match lkT z t with
  |
   some ty=>match view hb (ev (.tmp t)) false ty with
   |some (y,_)=>if(ev (.tmp t)).plain then y else .bot
   |none=>.bot
  |none=>ev (.tmp t)
 |x=>ev x
def kJ(hb:Nat→Option aP)(ev:Operand→AV):List (Nat×Ty)→List Nat
 |[]=>[]
 |
  (t,ty)::l=>(match view hb (ev (.tmp t)) false ty with
  |some (_,m)=>m
  |none=>[])++kJ hb ev l
def l7(ev:Operand→AV):List (Nat×Ty)→List Nat
 |[]=>[]
 |(t,_)::l=>(ev (.tmp t)).ids++l7 ev l
def eQ:List Nat→List (Nat×Option aP)
 |[]=>[]
 |b::l=>(b,none)::eQ l
def K8:List (Nat×Ty)→List Nat
 |[]=>[]
 |(t,_)::l=>t::K8 l
def Sp:List (Nat×Nat×Ty)→Nat→List (Nat×Ty)
 |[],_=>[]
 |(j,t,ty)::l,i=>if Nat.beq j i then(t,ty)::Sp l i else Sp l i
def eg(P:Program)(G:cd)(gl:Ctx)(ops:Array Oper)(r:CR)(z:List (Nat×Ty))(σ:St)(i:Nat):Option (aV×List VC×List Prop):=
 match ops[i]? with
 |none=>none
 |
  some o=>
  match guardOf ops σ.tm o with
  |none=>none
  |some false=>some (⟨(kI ops o).toList,[],[],o.dst,.gm .nil,[]⟩,[],[])
  |
   some true=>
   match z with
   |
    []=>(match mT P G gl (So o.dst) r o.op (bP gl σ.tm) (gy (sD o.op (bP gl σ.tm)++r.ps.map (·.2)) σ.hp) with
    |none=>none
    |some (e,ob)=>some (⟨slotsOf o.op.operands.toList++(kI ops o).toList,sD o.op (bP gl σ.tm)++r.ps.map (·.2),e.fr,o.dst,e.v,e.hw⟩,e.vc,ob))
   |
    z=>(match mT P G gl (So o.dst) r o.op (HS (gy (l7 (bP gl σ.tm) z) σ.hp) z (bP gl σ.tm)) (gy (sD o.op (HS (gy (l7 (bP gl σ.tm) z) σ.hp) z (bP gl σ.tm))++r.ps.map (·.2)) (aR σ.hp (eQ (kJ (gy (l7 (bP gl σ.tm) z) σ.hp) (bP gl σ.tm) z)))) with
    |none=>none
    |some (e,ob)=>some (⟨slotsOf o.op.operands.toList++K8 z++(kI ops o).toList,l7 (bP gl σ.tm) z++(sD o.op (HS (gy (l7 (bP gl σ.tm) z) σ.hp) z (bP gl σ.tm))++r.ps.map (·.2)),e.fr,o.dst,e.v,eQ (kJ (gy (l7 (bP gl σ.tm) z) σ.hp) (bP gl σ.tm) z)++e.hw⟩,e.vc,ob))
theorem fY{gl:Ctx}{σ:St}{E:Env}{a:Act}{w:World}(h:cp gl σ E a w){ops:Array Oper}{o:Oper}{c:Bool}(hc:guardOf ops σ.tm o=some c):Region.wanted o (yielded ops a.tmps)=c:=by
 unfold guardOf at hc
 unfold Region.wanted
 split at hc
 ·grind
 ·rename_i j want hg
  rw[hg]
  split at hc
  ·rename_i t ht
   have hy:∀v,a.tmps[t]? =some v→yielded ops a.tmps j=(match v with| .bool b=>some b|_=>none):=by
    grind [yielded]
   split at hc
   ·rename_i b hb
    cases hc
    have hlt:t<a.tmps.size:=by rw[h.len];grind
    have hr:=h.tm t _ hb a.tmps[t] (by grind)
    have hv:=RV.eB hr
    simp only
    rw[hy a.tmps[t] (by grind),hv]
    cases want<;>cases b<;>rfl
   ·rename_i hb
    cases hc
    have hlt:t<a.tmps.size:=by rw[h.len];grind
    obtain⟨vs,e,_⟩:=h.tm t _ hb a.tmps[t] (by grind)
    simp_all
   grind
  grind
theorem iV{gl:Ctx}{σ σ':St}{rt rb:List Nat}(ha:iT σ σ' rt rb){x:Operand}(hx:∀t∈K5 x,t∈rt):bP gl σ'.tm x=bP gl σ.tm x:=by
 cases x with
 |tmp t=>simp only[bP];rw[ha.tm t (hx t (by simp[K5]))]
 |_=>rfl
theorem gz{σ σ':St}{rt rb:List Nat}(ha:iT σ σ' rt rb){ops:Array Oper}{o:Oper}(hx:∀t∈(kI ops o).toList,t∈rt):guardOf ops σ'.tm o=guardOf ops σ.tm o:=by
 unfold guardOf
 unfold kI at hx
 split
 ·rfl
 ·rename_i j want hg
  rw[hg] at hx
  simp only at hx
  split
  ·rename_i t ht
   rw[ht] at hx
   rw[ha.tm t (hx t (by simp))]
  ·rfl
theorem kK{σ σ':St}{rt need:List Nat}(ha:iT σ σ' rt need):HB (gy need σ.hp) σ'.hp:=by
 intro b k hk
 unfold gy at hk
 split at hk
 ·rename_i hn
  have hm:b∈need:=by
   have key:∀l:List Nat,cJ b l=true→b∈l:=by
    intro l
    induction l with
    |nil=>intro h;cases h
    |
     cons x l ih=>
     intro h
     simp only[cJ,fQ] at h
     rcases h with h|h<;>simp_all
   grind
  rw[ha.hp b hm]
  grind
 grind
theorem uT.wp{P:Program}{gl:Ctx}{σ:St}{E:Env}{a:Act}{w:World}{o:Oper}{r:fK}(h:uT P gl σ E a w o r){K:Act→World→Prop}{Q:Exit→Act→World→Prop}{x:AV}
 (hx:∀E' w' v,RV E' w' r.v v→RV E' w' x v) (hk:∀E' a' w',cp gl (({σ with hp:=aR σ.hp r.hw}:St).put o.dst x) E' a' w'→Ext gl.md (bK σ.hp E) E w (bK (aR σ.hp r.hw) E') E' w'→K a' w'):o.wpIn (Wd gl) 0 P a w K Q:=
 h K Q (fun E' v w' h1 h2 h3=>hk E' _ w' (h1.put o.dst (hx E' w' v h2)) h3)
theorem Cg{P:Program}{G:cd}(T:bM P G){gl:Ctx}{σ:St}{E:Env}{a:Act}{w:World}(h:cp gl σ E a w){o:Oper}{d:Nat}{x:CR}(anx:x.kq=false){ev:Operand→AV}{hb:Nat→Option aP}(hB:HB hb σ.hp){r:fK}{ob:List Prop}
 (hev:∀x∈o.op.operands.toList,RV E w (ev x) (a.eval x)) (hids:∀x∈o.op.operands.toList,∀b∈(ev x).ids,b∈σ.ids) (he:mT P G gl d x o.op ev hb=some (r,ob)) (hvc:dQ r.vc) (hob:∀p∈ob,p) (hfr:∀b∈r.fr,σ.fresh b):uT P gl σ E a w o r:=by
 unfold mT at he
 split at he
 ·rename_i c hop
  split at he
  ·simp only[fN,gU] at he
   obtain⟨e,he,rfl,_⟩:=he
   exact(Ce T h hB hev hids (by rw[hop];exact he) hvc hfr).to (by grind)
  ·simp only[so] at he
   obtain⟨⟨e,ob'⟩,he,hk⟩:=he
   obtain⟨k1,k2,k3,k4⟩:=K7 hB hk hvc
   simp only at k1 k2 k3 k4
   subst k3
   have:=H7 T h hop hB anx hev he hob (by grind)
   intro K Q hK
   refine this K Q ?_<;>grind
 ·simp only[fN,gU] at he
  obtain⟨e,he,rfl,_⟩:=he
  exact(Ce T h hB hev hids he hvc hfr).to (K6 he)
theorem mU:∀(l m:List (Nat×Option aP))(hp:List (Option aP)),aR hp (l++m)=aR (aR hp l) m
 |[],_,_=>rfl
 |(b,k)::l,m,hp=>by simp only[List.cons_append,aR];exact mU l m _
theorem dH:∀{l:List Nat}{hp:List (Option aP)}{b:Nat}{k:aP},(aR hp (eQ l))[b]? =some (some k)→b∉l∧hp[b]? =some (some k)
 |[],hp,b,k,h=>⟨by simp,h⟩
 |
  c::l,hp,b,k,h=>by
  simp only[eQ,aR] at h
  obtain⟨h1,h2⟩:=dH h
  grind
theorem cp.zap{gl:Ctx}{σ:St}{E:Env}{a:Act}{w:World}(h:cp gl σ E a w){l:List Nat}(hl:∀b∈l,∃k,σ.hp[b]? =some (some k)):
 cp gl {σ with hp:=aR σ.hp (eQ l)} (E.de l) a w∧Ext gl.md (bK σ.hp E) E w (bK (aR σ.hp (eQ l)) (E.de l)) (E.de l) w:=by
 have hk:bS E w (E.de l) w:=Env.dR l
 have on:∀ids,E.on (E.de l) ids:=fun ids b _=>⟨rfl,rfl,rfl⟩
 refine⟨⟨h.len,fun i x hi v hv=>RV.mono hk (on _) (h.tm i x hi v hv),⟨?_,?_,?_,?_,h.hw.gZ hk,fun b k g hb=>h.hw.sZ b k g (dH hb).2⟩,RD.mono hk (fun _ _=>on _) h.df⟩,⟨rfl,Tp.r rfl rfl,rfl,dc _,fun _ _ _=>rfl,fun g hg=>Or.inl hg,?_,?_,fun _ _=>⟨rfl,rfl,rfl⟩⟩⟩
 ·intro b k hb
  exact RB.mono hk (on _) (fun _ _=>rfl) (fun _ _ h=>h) (h.hw.cX b k (dH hb).2)
 ·intro b b' k k' g hb hb' h1 h2
  exact h.hw.eH b b' k k' g (dH hb).2 (dH hb').2 h1 h2
 ·intro b k g hb hg hs
  obtain⟨h1,h2⟩:=dH hb
  rcases hs with hs|⟨c,hc,e⟩
  ·exact h.hw.dL b k g h2 hg hs
  ·obtain⟨k',hk'⟩:=hl c hc
   have:=h.hw.eH c b k' k g hk' h2 (Or.inl e) hg
   grind
 ·rintro g (hs|⟨c,hc,e⟩)
  ·exact h.hw.slt g hs
  ·obtain⟨k',hk'⟩:=hl c hc
   exact bK.below h.hw ⟨c,k',hk',Or.inl e⟩
 ·rintro g (hs|⟨c,hc,e⟩)
  ·grind
  ·obtain⟨k',hk'⟩:=hl c hc
   exact Or.inr (Or.inl ⟨c,k',hk',Or.inl e⟩)
 ·rintro g ⟨b,k,hb,hg⟩
  exact Or.inl ⟨b,k,(dH hb).2,hg⟩
theorem oY{hb:Nat→Option aP}{ev:Operand→AV}:∀{z:List (Nat×Ty)}{b:Nat},b∈kJ hb ev z→∃k,hb b=some k
 |[],b,h=>by cases h
 |
  (t,ty)::l,b,h=>by
  simp only[kJ,jB] at h
  rcases h with h|h
  ·split at h
   ·rename_i y m hv;exact rQ hv b h
   ·cases h
  ·exact oY h
theorem Ch{hb:Nat→Option aP}{ev:Operand→AV}{t:Nat}{ty:Ty}{y:AV}{m:List Nat}(hv:view hb (ev (.tmp t)) false ty=some (y,m)):∀{z:List (Nat×Ty)},lkT z t=some ty→∀b∈m,b∈kJ hb ev z
 |[],h,b,hbm=>by cases h
 |
  (t',ty')::l,h,b,hbm=>by
  simp only[lkT] at h
  simp only[kJ,jB]
  split at h
  ·rename_i e
   have e:=bT e
   subst e;cases h
   left;rw[hv];exact hbm
  ·exact Or.inr (Ch hv h b hbm)
theorem K9{gl:Ctx}{σ:St}{E:Env}{a:Act}{w:World}(h:cp gl σ E a w){hb:Nat→Option aP}(hB:HB hb σ.hp){z:List (Nat×Ty)}{ev:Operand→AV}{x:Operand}(hx:RV E w (ev x) (a.eval x)):RV (E.de (kJ hb ev z)) w (HS hb z ev x) (a.eval x):=by
 have hk:bS E w (E.de (kJ hb ev z)) w:=Env.dR _
 have triv:RV (E.de (kJ hb ev z)) w (ev x) (a.eval x):=RV.mono hk (fun b _=>⟨rfl,rfl,rfl⟩) hx
 unfold HS
 split
 ·rename_i t
  split
  ·rename_i ty hty
   split
   ·rename_i y m hv
    split
    ·rename_i hp
     have h1:=Cq h.hw hB hv (RV.iZ hp hx)
     refine RV.eI (cE.mono (E:=E.de m) (Env.iy (fun b hb'=>Ch hv hty b hb')) (fun b _=>⟨rfl,rfl,rfl⟩) h1)
    trivial
   trivial
  grind
 grind
theorem Ow{hb:Nat→Option aP}{z:List (Nat×Ty)}{ev:Operand→AV}{x:Operand}:∀b∈(HS hb z ev x).ids,b∈(ev x).ids:=by
 unfold HS
 intro b hb'
 split at hb'
 ·split at hb'
  ·split at hb'
   ·rename_i y m hv
    split at hb'
    ·rw[rT hv] at hb';cases hb'
    trivial
   trivial
  grind
 grind
theorem HT{σ:St}{l:List Nat}{d:Nat}(h:σ.fresh d):({σ with hp:=aR σ.hp (eQ l)}:St).fresh d:=by
 refine⟨?_,fun k hk=>h.2.1 k (dH hk).2,h.2.2⟩
 have h1:=k8.1 h.1
 exact k8.2 ⟨h1.1,h1.2.1,fun i k hk=>h1.2.2 i k (dH hk).2⟩
theorem kL{P:Program}{G:cd}(T:bM P G){gl:Ctx}{ops:Array Oper}{r:CR}(anx:r.kq=false){z:List (Nat×Ty)}{σ:St}{i:Nat}{f:aV}{vc:List VC}{ob:List Prop}(h:eg P G gl ops r z σ i=some (f,vc,ob))(hvc:dQ vc)(hob:∀p∈ob,p):oM P gl ops i f σ:=by
 unfold eg at h
 split at h
 ·cases h
 ·rename_i o ho
  split at h
  ·cases h
  ·rename_i hc
   cases h
   intro σ' ha hfr E a w hg K Q hK
   unfold wpOpIn
   simp only[ho]
   have hw:=fY hg (ops:=ops) (o:=o) (c:=false) (by grind [gz])
   rw[hw]
   simp only[dr,cT]
   exact⟨fun _ _=>trivial,hK E _ w (hg.put o.dst ⟨#[],rfl,rfl⟩) (by rw[g7];exact Ext.refl _ _ _)⟩
  ·rename_i hc
   split at h
   ·split at h
    ·cases h
    ·rename_i e ob he
     cases h
     intro σ' ha hfr E a w hg K Q hK
     unfold wpOpIn
     simp only[ho]
     have hw:=fY hg (ops:=ops) (o:=o) (c:=true) (by grind [gz])
     rw[hw]
     simp only[bU]
     have ex:∀u,u∈o.op.operands.toList→bP gl σ'.tm u=bP gl σ.tm u:=fun u hu=>iV ha (fun t ht=>by grind [slotsOf])
     have hs:uT P gl σ' E a w o e:=by
      refine Cg T hg anx (kK ha) (ev:=bP gl σ.tm) ?_ ?_ he hvc hob hfr
      ·grind [gv]
      grind [xG]
     exact hs.wp (x:=e.v) (fun _ _ _ h=>h) (fun E' a' w' h1 h2=>hK E' a' w' h1 (by rw[g7];exact h2))
   ·split at h
    ·cases h
    ·rename_i e ob he
     cases h
     intro σ' ha hfr E a w hg K Q hK
     unfold wpOpIn
     simp only[ho]
     have hw:=fY hg (ops:=ops) (o:=o) (c:=true) (by grind [gz])
     rw[hw]
     simp only[bU]
     have ex:∀u,u∈o.op.operands.toList→bP gl σ'.tm u=bP gl σ.tm u:=fun u hu=>iV ha (fun t ht=>by grind [slotsOf])
     have ha1:iT σ σ' [] (l7 (bP gl σ.tm) z):=⟨ha.tl,ha.hl,fun _ h=>(List.not_mem_nil h).elim,fun b hb=>ha.hp b (List.mem_append.2 (Or.inl hb))⟩
     have hB1:=kK ha1
     generalize hl:kJ (gy (l7 (bP gl σ.tm) z) σ.hp) (bP gl σ.tm) z=l at he hK
     have hlk:∀b∈l,∃k,σ'.hp[b]? =some (some k):=by
      intro b hb
      rw[←hl] at hb
      obtain⟨k,hk⟩:=oY hb
      exact⟨k,hB1 b k hk⟩
     obtain⟨g1,x1⟩:=hg.zap hlk
     have ha2:iT {σ with hp:=aR σ.hp (eQ l)} {σ' with hp:=aR σ'.hp (eQ l)} [] (sD o.op (HS (gy (l7 (bP gl σ.tm) z) σ.hp) z (bP gl σ.tm))++r.ps.map (·.2)):=
      ⟨ha.tl,by simp only[kC];exact ha.hl,fun _ h=>(List.not_mem_nil h).elim,fun b hb=>iw ha.hl (ha.hp b (List.mem_append.2 (Or.inr hb)))⟩
     have hs:uT P gl {σ' with hp:=aR σ'.hp (eQ l)} (E.de l) a w o e:=by
      refine Cg T g1 anx (kK ha2) (ev:=HS (gy (l7 (bP gl σ.tm) z) σ.hp) z (bP gl σ.tm)) ?_ ?_ he hvc hob (fun b hb=>HT (hfr b hb))
      ·grind [gv,K9]
      ·intro x hx b hb
       have hb:=Ow b hb
       rw[←ex x hx] at hb
       exact xG (σ:={σ' with hp:=aR σ'.hp (eQ l)}) b hb
     refine hs.wp (x:=e.v) (fun _ _ _ h=>h) (fun E' a' w' h1 h2=>hK E' a' w' ?_ ?_)
     ·grind [mU,St.app]
     ·rw[g7];simp only[mU];exact x1.trans h2
def Ci(P:Program)(gl:Ctx)(ops:Array Oper)(i:Nat)(f:aV)(σ:St):Prop:=
 ∀σ',iT σ σ' f.rt f.rb→∀E a w,cp gl σ' E a w→∀(K:Act→World→Prop)(Q:Exit→Act→World→Prop),
  (∀E' u w',cp gl {σ' with hp:=aR σ'.hp f.hw} E' a w'→RV E' w' f.v u→Ext gl.md (bK σ'.hp E) E w (bK (aR σ'.hp f.hw) E') E' w'→Q (.panic [{v:=u,recovered:=false}]) a w')→wpOpIn (Wd gl) 0 P ops Q i K a w
theorem yi{P:Program}{G:cd}(T:bM P G){gl:Ctx}{σ:St}{E:Env}{a:Act}{w:World}(h:cp gl σ E a w){o:Oper}{d:Nat}{x:CR}(anx:x.kq=true)(hcl:lk o.op=true){ev:Operand→AV}{hb:Nat→Option aP}(hB:HB hb σ.hp){r:fK}{ob:List Prop}
 (hev:∀x∈o.op.operands.toList,RV E w (ev x) (a.eval x)) (he:mT P G gl d x o.op ev hb=some (r,ob)) (hob:∀p∈ob,p) (hfr:∀b∈r.fr,σ.fresh b) {K:Act→World→Prop} {Q:Exit→Act→World→Prop}
 (hQ:∀E' v w',cp gl {σ with hp:=aR σ.hp r.hw} E' a w'→RV E' w' r.v v→Ext gl.md (bK σ.hp E) E w (bK (aR σ.hp r.hw) E') E' w'→Q (.panic [{v:=v,recovered:=false}]) a w'):o.wpIn (Wd gl) 0 P a w K Q:=by
 unfold mT at he
 split at he
 ·rename_i c hop
  split at he
  ·rename_i b hb'
   rw[hop] at hcl
   obtain⟨ca,asz,ts⟩:=c
   grind [lk]
  ·simp only[so] at he
   grind [HR,wD]
 simp_all[lk]
theorem Eb{P:Program}{G:cd}(T:bM P G){gl:Ctx}{ops:Array Oper}{r:CR}(anx:r.kq=true){z:List (Nat×Ty)}{σ:St}{i:Nat}{f:aV}{vc:List VC}{ob:List Prop}{o:Oper}(ho:ops[i]? =some o)(hgd:guardOf ops σ.tm o=some true)(hcl:lk o.op=true)
 (h:eg P G gl ops r z σ i=some (f,vc,ob)) (hob:∀p∈ob,p) (hnf:f.fr= []):Ci P gl ops i f σ:=by
 unfold eg at h
 simp only[ho,hgd] at h
 split at h
 ·split at h
  ·cases h
  ·rename_i e ob he
   cases h
   simp only at hnf
   intro σ' ha E a w hg K Q hQ
   unfold wpOpIn
   simp only[ho]
   have hw:=fY hg (ops:=ops) (o:=o) (c:=true) (by grind [gz])
   rw[hw]
   simp only[bU]
   have ex:∀u,u∈o.op.operands.toList→bP gl σ'.tm u=bP gl σ.tm u:=fun u hu=>iV ha (fun t ht=>by grind [slotsOf])
   refine yi T hg anx hcl (kK ha) (ev:=bP gl σ.tm) ?_ he hob (fun b hb=>by grind) hQ
   grind [gv]
 ·split at h
  ·cases h
  ·rename_i e ob he
   cases h
   simp only at hnf
   intro σ' ha E a w hg K Q hQ
   unfold wpOpIn
   simp only[ho]
   have hw:=fY hg (ops:=ops) (o:=o) (c:=true) (by grind [gz])
   rw[hw]
   simp only[bU]
   have ex:∀u,u∈o.op.operands.toList→bP gl σ'.tm u=bP gl σ.tm u:=fun u hu=>iV ha (fun t ht=>by grind [slotsOf])
   have ha1:iT σ σ' [] (l7 (bP gl σ.tm) z):=⟨ha.tl,ha.hl,fun _ h=>(List.not_mem_nil h).elim,fun b hb=>ha.hp b (List.mem_append.2 (Or.inl hb))⟩
   have hB1:=kK ha1
   generalize hl:kJ (gy (l7 (bP gl σ.tm) z) σ.hp) (bP gl σ.tm) z=l at he hQ
   have hlk:∀b∈l,∃k,σ'.hp[b]? =some (some k):=by
    intro b hb
    rw[←hl] at hb
    obtain⟨k,hk⟩:=oY hb
    exact⟨k,hB1 b k hk⟩
   obtain⟨g1,x1⟩:=hg.zap hlk
   have ha2:iT {σ with hp:=aR σ.hp (eQ l)} {σ' with hp:=aR σ'.hp (eQ l)} [] (sD o.op (HS (gy (l7 (bP gl σ.tm) z) σ.hp) z (bP gl σ.tm))++r.ps.map (·.2)):=
    ⟨ha.tl,by simp only[kC];exact ha.hl,fun _ h=>(List.not_mem_nil h).elim,fun b hb=>iw ha.hl (ha.hp b (List.mem_append.2 (Or.inr hb)))⟩
   refine yi T g1 anx hcl (kK ha2) (ev:=HS (gy (l7 (bP gl σ.tm) z) σ.hp) z (bP gl σ.tm)) ?_ he hob (fun b hb=>by grind) ?_
   ·grind [gv,K9]
   ·intro E' u w' q1 q2 q3
    refine hQ E' u w' ?_ q2 ?_
    ·simp only[mU] at q1 ⊢;exact q1
    ·simp only[mU];exact x1.trans q3
def vT(ops:Array Oper)(i:Nat):Bool:=
 match ops[i]? with
 |some o=>lk o.op
 |none=>false
def La:List Oper→Nat→Bool
 |[],_=>false
 |o::l,i=>(match o.guard with|some (j,_)=>Nat.beq i j|none=>false)||La l i
end Go.Ax
namespace Go.Ax
section
variable{P:Program} {b:Frame} {a:Act} {k:List Item} {cs:List Frame} {w:World}
theorem gP{c:Code}:step P (lone (b.atR a (.code (.scope c)::k)) cs w)= .next (lone (b.atR a (.code c::.inScope c::k)) cs w):=
 step_lone_go (by trivial)
theorem xh{c:Code}:step P (lone (b.atR a (.inScope c::k)) cs w)= .next (lone (b.atR a k) cs w):=
 step_lone_go (by trivial)
def noGoto(Q:Exit→Act→World→Prop):Exit→Act→World→Prop
 | .goto _,_,_=>False
 |e,a,w=>Q e a w
theorem Ec{F:Fence}{n:Nat}{Q:Exit→Act→World→Prop}{c:Code}(h:c.wpIn F n P (noGoto Q) a w):(Code.scope c).wpIn F n P Q a w:=by
 intro b k cs hro hb hr
 have h0:(lone (b.atR a (.code (.scope c)::k)) cs w).fenced P F:=fenced_calm hb hr rfl
 obtain⟨e,a₁,w₁,hq,harr⟩:=h b (.inScope c::k) cs hro hb hr
 cases e with
 |normal=>exact⟨.normal,a₁,w₁,hq,.head h0 gP (StepsIn.trans harr (.one (fenced_calm hb hr rfl) xh))⟩
 |
  exit id=>
  have hx:exitTo id (.inScope c::k)=exitTo id k:=by trivial
  exact⟨.exit id,a₁,w₁,hq,fun k' hk=>.head h0 gP (harr.1 k' (by grind)),
   fun hr' hk=>let⟨k₁,h1,h2⟩:=harr.2 hr' (by grind);⟨k₁,h1,.head h0 gP h2⟩⟩
 |goto l=>trivial
 |ret=>exact⟨_,a₁,w₁,hq,.of_steps (.one h0 gP) harr⟩
 |panic ch=>exact⟨_,a₁,w₁,hq,.of_steps (.one h0 gP) harr⟩
 |outgrown=>exact⟨_,a₁,w₁,hq,.of_steps (.one h0 gP) harr⟩
end
inductive fV where
 |normal
 |exit (id:Nat)
 |ret
 |panic (v:AV)
def ExR(E:Env)(w:World):fV→Exit→Prop
 | .normal,.normal=>True
 | .exit i,.exit j=>i=j
 | .ret,.ret=>True
 | .panic x,.panic chain=>∃u,chain= [{v:=u,recovered:=false}]∧cE E w x u
 |_,_=>False
def qo(gl:Ctx)(Q:fV→St→Prop)(σ:St)(E:Env)(w:World)(ex:Exit)(a':Act)(w':World):Prop:=
 ∃x σ' E',ExR E' w' x ex∧Q x σ'∧cp gl σ' E' a' w'∧Ext gl.md (bK σ.hp E) E w (bK σ'.hp E') E' w'
def cZ(P:Program)(gl:Ctx)(c:Code)(σ:St)(Q:fV→St→Prop):Prop:=
 ∀E a w,cp gl σ E a w→c.wpIn (Wd gl) 0 P (qo gl Q σ E w) a w
section
variable{P:Program} {gl:Ctx} {σ:St} {Q:fV→St→Prop}
theorem cZ.mono{c:Code}{Q':fV→St→Prop}(h:cZ P gl c σ Q)(hq:∀x σ',Q x σ'→Q' x σ'):cZ P gl c σ Q':=
 fun E a w hg=>wpIn_mono (h E a w hg) (fun _ _ _ ⟨x,σ',E',h1,h2,h3⟩=>⟨x,σ',E',h1,hq _ _ h2,h3⟩)
theorem cZ.skip(h:Q .normal σ):cZ P gl .skip σ Q:=fun E _a _w hg=>wpIn_skip ⟨.normal,σ,E,trivial,h,hg,Ext.refl _ _ _⟩
theorem cZ.label{l:Nat}(h:Q .normal σ):cZ P gl (.label l) σ Q:=fun E _a _w hg=>wpIn_label ⟨.normal,σ,E,trivial,h,hg,Ext.refl _ _ _⟩
theorem cZ.scope{c:Code}(h:cZ P gl c σ Q):cZ P gl (.scope c) σ Q:=fun E a w hg=>Ec (wpIn_mono (h E a w hg) fun ex a' w' hp=>by
 cases ex with
 |goto l=>obtain⟨x,_,_,h1,_⟩:=hp;cases x<;>exact h1.elim
 |_=>exact hp)
theorem cZ.exit{i:Nat}(h:Q (.exit i) σ):cZ P gl (.exit i) σ Q:=fun E _a _w hg=>wpIn_exit ⟨.exit i,σ,E,rfl,h,hg,Ext.refl _ _ _⟩
theorem cZ.ret(h:Q .ret σ):cZ P gl .ret σ Q:=fun E _a _w hg=>wpIn_ret ⟨.ret,σ,E,trivial,h,hg,Ext.refl _ _ _⟩
def XK(P:Program)(gl:Ctx)(y:Code)(Q:fV→St→Prop):fV→St→Prop
 | .normal,σ=>cZ P gl y σ Q
 |x,σ=>Q x σ
theorem cZ.seq{x y:Code}(h:cZ P gl x σ (XK P gl y Q)):cZ P gl (.seq x y) σ Q:=by
 intro E a w hg
 refine wpIn_seq (wpIn_mono (h E a w hg) ?_)
 rintro ex a1 w1 ⟨x1,σ1,E1,h1,h2,h3,h4⟩
 cases ex with
 |
  normal=>
  cases x1 with
  |
   normal=>
   refine wpIn_mono (h2 E1 a1 w1 h3) ?_
   rintro e2 a2 w2 ⟨x2,σ2,E2,k1,k2,k3,k4⟩
   exact⟨x2,σ2,E2,k1,k2,k3,h4.trans k4⟩
  |_=>trivial
 |
  _=>
  cases x1 with
  |normal=>trivial
  |_=>exact⟨_,σ1,E1,h1,h2,h3,h4⟩
theorem cZ.cond{c:Operand}{x y:Code}{b:Bool}(hc:bP gl σ.tm c= .val .bool b)(ht:b=true→cZ P gl x σ Q)(hf:b=false→cZ P gl y σ Q):cZ P gl (.cond c x y) σ Q:=by
 intro E a w hg
 have hv:=gv hg c
 rw[hc] at hv
 exact wpIn_cond_split (RV.eB hv) (fun h=>ht h E a w hg) (fun h=>hf h E a w hg)
def zA(id:Nat)(Q:fV→St→Prop):fV→St→Prop
 | .exit i,σ=>if i=id then Q .normal σ else Q (.exit i) σ
 |x,σ=>Q x σ
theorem cZ.block{id:Nat}{c:Code}(h:cZ P gl c σ (zA id Q)):cZ P gl (.block id c) σ Q:=by
 intro E a w hg
 refine wpIn_block (wpIn_mono (h E a w hg) ?_)
 rintro ex a1 w1 ⟨x1,σ1,E1,h1,h2,h3,h4⟩
 cases ex with
 |
  exit i=>
  cases x1 with
  |
   exit j=>
   have e:j=i:=h1
   subst e
   simp only[zA] at h2
   simp only[Exit.inBlock]
   split
   ·rename_i e;rw[aA e] at h2;exact⟨.normal,σ1,E1,trivial,h2,h3,h4⟩
   ·rename_i e;rw[aC e] at h2;exact⟨.exit j,σ1,E1,rfl,h2,h3,h4⟩
  |_=>trivial
 |_=>cases x1<;>first|exact h1.elim|exact⟨_,σ1,E1,h1,h2,h3,h4⟩
def XL(R:Nat→St→Prop)(n:Nat)(Q:fV→St→Prop):fV→St→Prop
 | .normal,σ=>∃m,m<n∧R m σ
 |x,σ=>Q x σ
theorem cZ.loop{c:Code}(R:Nat→St→Prop)(hR:∀n σ,R n σ→cZ P gl c σ (XL R n Q)){n:Nat}(h0:R n σ):cZ P gl (.loop c) σ Q:=by
 intro E0 a0 w0 hg0 b k cs hro hb hr0
 have key:∀n σ1 E1 a1 w1,R n σ1→cp gl σ1 E1 a1 w1→Ext gl.md (bK σ.hp E0) E0 w0 (bK σ1.hp E1) E1 w1→
  ∃e a' w',qo gl Q σ E0 w0 e a' w'∧ArrivesIn (Machine.fenced P (Wd gl)) P (lone (b.atR a1 (.code c::.inLoop c::k)) cs w1) b k cs e a' w':=by
  intro n
  induction n using Nat.strongRecOn with
  |
   _ n ih=>
   intro σ1 E1 a1 w1 hr hg hx
   obtain⟨e,a2,w2,⟨x,σ2,E2,h1,h2,h3,h4⟩,harr⟩:=hR n σ1 hr E1 a1 w1 hg b (.inLoop c::k) cs hro hb hr0
   cases e with
   |
    normal=>
    cases x with
    |
     normal=>
     obtain⟨m,hm,hr2⟩:=h2
     obtain⟨e₂,a₂,w₂,hq₂,harr₂⟩:=ih m hm σ2 E2 a2 w2 hr2 h3 (hx.trans h4)
     exact⟨e₂,a₂,w₂,hq₂,.of_steps (StepsIn.trans harr (.one (fenced_calm hb hr0 rfl) stepR_inLoop)) harr₂⟩
    |_=>trivial
   |exit id=>exact⟨_,a2,w2,⟨x,σ2,E2,h1,by cases x<;>first|trivial|exact h2,h3,hx.trans h4⟩,.pass (x:=.inLoop c) rfl (fun _ _=>.inl (by simp)) harr⟩
   |goto l=>cases x<;>exact h1.elim
   |ret=>exact⟨_,a2,w2,⟨x,σ2,E2,h1,by cases x<;>first|trivial|exact h2,h3,hx.trans h4⟩,.pass (x:=.inLoop c) rfl (fun _ _=>.inl (by simp)) harr⟩
   |panic ch=>exact⟨_,a2,w2,⟨x,σ2,E2,h1,by cases x<;>first|trivial|exact h2,h3,hx.trans h4⟩,.pass (x:=.inLoop c) rfl (fun _ _=>.inl (by simp)) harr⟩
   |outgrown=>cases x<;>exact h1.elim
 obtain⟨e,a',w',hq,harr⟩:=key n σ E0 a0 w0 h0 hg0 (Ext.refl _ _ _)
 exact⟨e,a',w',hq,.of_steps (.one (fenced_calm hb hr0 rfl) stepR_loop) harr⟩
def ll(G:cd)(σ:St):List ResultVar→Option (List AV)
 |[]=>some []
 |
  .tmp t::l=>match σ.tm[t]?,ll G σ l with
  |some x,some xs=>if x.plain then some (x::xs) else none
  |_,_=>none
 |
  .cell t ty::l=>match σ.tm[t]?,ll G σ l with
  |
   some x,some xs=>match uL G (fun b=>(σ.hp[b]?).join) ty x with
   |some y=>if y.plain then some (y::xs) else none
   |none=>none
  |_,_=>none
def AV.ofList:List AV→AV
 |[]=>.nil
 |x::l=>.cons x (AV.ofList l)
def ji(G:cd)(rs:List ResultVar)(σ:St):Option AV:=
 match ll G σ rs with
 |some [x]=>some x
 |some l=>some (.gm (AV.ofList l))
 |none=>none
def prune:List (Option aP)→List Bool→List (Option aP)
 |x::l,true::m=>x::prune l m
 |_::l,false::m=>none::prune l m
 |_,[]=>[]
 |[],_=>[]
theorem jw{b:Nat}{k:aP}:∀{l:List (Option aP)}{m:List Bool},(prune l m)[b]? =some (some k)→l[b]? =some (some k):=by
 intro l
 induction l generalizing b with
 |nil=>intro m h;cases m<;>simp[prune] at h
 |
  cons x l ih=>
  intro m h
  cases m with
  |nil=>trivial
  |
   cons y m=>
   cases b with
   |zero=>cases y<;>simp[prune] at h;grind
   |succ b=>cases y<;>simp[prune] at h<;>simpa using ih h
theorem HW.prune{E:Env}{w:World}{hp:List (Option aP)}(h:HW gl E w hp)(m:List Bool):HW gl E w (Ax.prune hp m) where
 cX:=fun b k hb=>h.cX b k (jw hb)
 eH:=fun b b' k k' g h1 h2=>h.eH b b' k k' g (jw h1) (jw h2)
 dL:=fun b k g h1=>h.dL b k g (jw h1)
 sZ:=fun b k g h1=>h.sZ b k g (jw h1)
 slt:=h.slt
 gl:=h.gl
def Cj(tmps:Array Value):ResultVar→Sem Value
 | .tmp t=>pure (tmps.getD t undef)
 | .cell c t=>do loadVar t (←asAddr (tmps.getD c undef))
theorem vU(fn:Func)(tmps:Array Value):results fn tmps=(do
 let vs ←fn.results.mapM (Cj tmps)
 pure (if h:vs.size=1 then vs[0] else .tuple vs)):=by
 trivial
theorem oZ{G:cd}(T:bM P G){E:Env}{a:Act}{w:World}(hg:cp gl σ E a w):∀{rs:List ResultVar}{xs:List AV},ll G σ rs=some xs→
 ∃vs:List Value,(rs.mapM (Cj a.tmps)).run P w= .ok vs w∧RT E w (AV.ofList xs) vs∧vs.length=xs.length
 |[],xs,h=>by cases h;exact⟨[],by simp,rfl,rfl⟩
 |
  .tmp t::l,xs,h=>by
  unfold ll at h
  split at h
  ·rename_i x xs' hx hl
   split at h
   ·rename_i hp
    cases h
    obtain⟨vs,h1,h2,h3⟩:=oZ T hg hl
    have hlt:t<a.tmps.size:=by rw[hg.len];exact(List.getElem?_eq_some_iff.1 hx).1
    have hv:=hg.tm t _ hx a.tmps[t] (by simp[hlt])
    refine⟨a.tmps[t]::vs,?_,⟨RV.iZ hp hv,h2⟩,by simp[h3]⟩
    simp only[List.mapM_cons,Sem.run_bind,Cj,Sem.run_pure,Result.andThen_ok,h1]
    simp[hlt]
   ·cases h
  ·cases h
 |
  .cell t ty::l,xs,h=>by
  unfold ll at h
  split at h
  ·rename_i x xs' hx hl
   split at h
   ·rename_i y hy
    split at h
    ·rename_i hp
     cases h
     obtain⟨vs,h1,h2,h3⟩:=oZ T hg hl
     have hlt:t<a.tmps.size:=by rw[hg.len];exact(List.getElem?_eq_some_iff.1 hx).1
     have hv:=hg.tm t _ hx a.tmps[t] (by simp[hlt])
     have hB:HB (fun b=>(σ.hp[b]?).join) σ.hp:=by
      intro b k hk
      cases hh:σ.hp[b]? with
      |none=>simp[hh] at hk
      |some z=>simp[hh] at hk;rw[hk]
     obtain⟨u,h4,h5⟩:=rp T hg.hw hB hv hy
     have h4':(do loadVar ty (←asAddr (a.tmps.getD t undef)):Sem Value).run P w= .ok u w:=by
      have e:a.tmps.getD t undef=a.tmps[t]:=by simp[hlt]
      rw[e]
      simp only[Instr.loadAt,Sem.run_bind] at h4 ⊢
      cases hq:a.tmps[t] with
      |
       pointer p=>
       cases p with
       |some ad=>rw[hq] at h4;simpa[Instr.sureAddr,asAddr] using h4
       |none=>rw[hq] at h4;simp[Instr.sureAddr] at h4
      |_=>rw[hq] at h4;simp[Instr.sureAddr] at h4
     refine⟨u::vs,?_,⟨RV.iZ hp h5,h2⟩,by simp[h3]⟩
     simp only[List.mapM_cons,Sem.run_bind,Cj]
     simp only[Sem.run_bind] at h4'
     rw[h4']
     simp only[Result.andThen_ok,h1,Sem.run_pure]
    ·cases h
   ·cases h
  ·cases h
end
end Go.Ax
namespace Go.Ax
theorem qp{P:Program}{G:cd}(T:bM P G){gl:Ctx}{σ:St}{E:Env}{a:Act}{w:World}(hg:cp gl σ E a w){fn:Func}{x:AV}(h:ji G fn.results.toList σ=some x):∃v,(results fn a.tmps).run P w= .ok v w∧RV E w x v:=by
 have key:∀xs,ll G σ fn.results.toList=some xs→∃vs:Array Value,(fn.results.mapM (Cj a.tmps)).run P w= .ok vs w∧RT E w (AV.ofList xs) vs.toList∧vs.toList.length=xs.length:=by
  intro xs hx
  obtain⟨vs,h1,h2,h3⟩:=oZ T hg hx
  simp_all[Array.mapM_eq_mapM_toList]
 unfold ji at h
 split at h
 ·rename_i y hy
  cases h
  obtain⟨vs,h1,h2,h3⟩:=key _ hy
  obtain⟨l⟩:=vs
  cases l with
  |nil=>grind
  |
   cons v l=>
   cases l with
   |cons _ _=>grind
   |
    nil=>
    refine⟨v,?_,RV.eI h2.1⟩
    simp_all[vU]
 ·rename_i xs hne hxs
  cases h
  obtain⟨vs,h1,h2,h3⟩:=key _ hxs
  refine⟨.tuple vs,?_,⟨vs,rfl,h2⟩⟩
  rw[vU]
  simp only[Sem.run_bind]
  rw[h1]
  have:¬vs.size=1:=by
   intro e
   rw[pE,e] at h3
   match xs,h3 with
   |[y],_=>grind
  simp_all
 grind
end Go.Ax
namespace Go.Ax
def Wk(gl:Ctx)(σ σ':St):Prop:=
 ∀E a w,cp gl σ E a w→∃E',cp gl σ' E' a w∧Ext gl.md (bK σ.hp E) E w (bK σ'.hp E') E' w
theorem Wk.refl(gl:Ctx)(σ:St):Wk gl σ σ:=fun E _ _ h=>⟨E,h,Ext.refl _ _ _⟩
theorem Wk.trans{gl:Ctx}{σ σ1 σ2:St}(h:Wk gl σ σ1)(k:Wk gl σ1 σ2):Wk gl σ σ2:=fun E a w hg=>by
 obtain⟨E1,g1,x1⟩:=h E a w hg
 obtain⟨E2,g2,x2⟩:=k E1 a w g1
 exact⟨E2,g2,x1.trans x2⟩
def sP(ts:List Nat):Nat→List AV→List AV
 |_,[]=>[]
 |i,x::l=>(if cJ i ts then x else .bot)::sP ts (i+1) l
def yk(bs:List Nat):Nat→List (Option aP)→List (Option aP)
 |_,[]=>[]
 |i,x::l=>(if cJ i bs then x else none)::yk bs (i+1) l
theorem yl{ts:List Nat}:∀{l:List AV}{i j:Nat}{x:AV},(sP ts i l)[j]? =some x→x= .bot∨l[j]? =some x
 |[],i,j,x,h=>by trivial
 |
  y::l,i,0,x,h=>by
  grind [sP]
 |
  y::l,i,j+1,x,h=>by
  simp only[sP,uF] at h
  simpa using yl h
theorem ym{ts:List Nat}:∀{l:List AV}{i:Nat},(sP ts i l).length=l.length
 |[],_=>rfl
 |_::l,i=>by simp[sP,ym (l:=l)]
theorem rL{bs:List Nat}{k:aP}:∀{l:List (Option aP)}{i j:Nat},(yk bs i l)[j]? =some (some k)→l[j]? =some (some k)
 |[],i,j,h=>by trivial
 |
  y::l,i,0,h=>by
  grind [yk]
 |
  y::l,i,j+1,h=>by
  simp only[yk,uF] at h
  simpa using rL h
theorem HW.less{gl:Ctx}{E:Env}{w:World}{hp hp':List (Option aP)}(h:HW gl E w hp)(hs:∀(b:Nat)(k:aP),hp'[b]? =some (some k)→hp[b]? =some (some k)):HW gl E w hp' where
 cX:=fun b k hb=>h.cX b k (hs b k hb)
 eH:=fun b b' k k' g h1 h2=>h.eH b b' k k' g (hs _ _ h1) (hs _ _ h2)
 dL:=fun b k g h1=>h.dL b k g (hs _ _ h1)
 sZ:=fun b k g h1=>h.sZ b k g (hs _ _ h1)
 slt:=h.slt
 gl:=h.gl
theorem Wk.BP(gl:Ctx)(σ:St)(ts bs:List Nat):Wk gl σ ⟨sP ts 0 σ.tm,yk bs 0 σ.hp,σ.df⟩:=by
 intro E a w h
 refine⟨E,⟨by rw[ym];exact h.len,?_,h.hw.less (fun b k hb=>rL hb),h.df⟩,{Ext.refl (bK σ.hp E) E w with own:=?_ }⟩
 ·intro i x hx v hv
  rcases yl hx with e|e
  ·subst e;trivial
  ·exact h.tm i x e v hv
 ·rintro g ⟨b,k,hb,hg⟩
  exact Or.inl ⟨b,k,rL hb,hg⟩
theorem Wk.Kb{gl:Ctx}{σ:St}{s:Nat}{t:Ty}{x:AV}{y:t.den}(hx:σ.tm[s]? =some x)(hy:x.bO t=some y):Wk gl σ {σ with tm:=σ.tm.set s (.val t y)}:=by
 intro E a w h
 refine⟨E,⟨by simp[h.len],?_,h.hw,h.df⟩,Ext.refl _ _ _⟩
 intro i z hz v hv
 rw[dm] at hz
 split at hz
 ·rename_i e;subst e
  split at hz
  ·cases hz
   have hr:=h.tm s x hx v hv
   have hp:x.plain=true:=by cases x<;>first|rfl|(cases t<;>simp[AV.bO] at hy)
   exact RV.eI (cE.bO hy (RV.iZ hp hr))
  ·cases hz
 ·exact h.tm i z hz v hv
theorem Wk.DC{gl:Ctx}{σ:St}{b:Nat}{t:Ty}{v:AV}{y:t.den}(hb:σ.hp[b]? =some (some (.var t v)))(hy:v.bO t=some y):Wk gl σ {σ with hp:=σ.hp.set b (some (.var t (.val t y)))}:=by
 intro E a w h
 have hk:=h.hw.cX b _ hb
 obtain⟨h1,h2,g,c,e,h3,h4,h5⟩:=hk
 have hw:=h.hw.write (w':=w) (k':=.var t (.val t y)) hb rfl (fun _ _=>rfl) ⟨h1,Ty.di t,g,c,e,h3,h4,RC.bO hy h5⟩
 refine⟨E,⟨h.len,h.tm,hw,h.df⟩,{Ext.refl (bK σ.hp E) E w with own:=?_ }⟩
 grind [bK.set]
theorem Wk.adx{gl:Ctx}{σ:St}{b:Nat}{e:TypeId}{bs:Nat}{t:Ty}{xs:List t.den}{i:Nat}{v:AV}{y:t.den}(hb:σ.hp[b]? =some (some (.cY e bs t xs i v)))(hy:v.bO t=some y):Wk gl σ {σ with hp:=σ.hp.set b (some (.cY e bs t xs i (.val t y)))}:=by
 intro E a w h
 obtain⟨h1,h2,h3,h4,h5,h6,g,cap,c,q1,q2,q3,q4,q5,q6,q7,q8,q9⟩:=h.hw.cX b _ hb
 have hw:=h.hw.write (w':=w) (k':=.cY e bs t xs i (.val t y)) hb rfl (fun _ _=>rfl) ⟨h1,h2,h3,h4,h5,Ty.di t,g,cap,c,q1,q2,q3,q4,q5,q6,q7,RC.bO hy q8,q9⟩
 refine⟨E,⟨h.len,h.tm,hw,h.df⟩,{Ext.refl (bK σ.hp E) E w with own:=?_ }⟩
 grind [bK.set]
theorem Wk.mcl{gl:Ctx}{σ:St}{b:Nat}{k v:Ty}{rest:List (k.den×v.den)}{c:Option (k.den×v.den)}(hb:σ.hp[b]? =some (some (.ko k v rest c))):Wk gl σ {σ with hp:=σ.hp.set b (some (.ko k v rest none))}:=by
 intro E a w h
 obtain⟨g,om,since,seen,c0,q1,q2,q3⟩:=h.hw.cX b _ hb
 have hw:=h.hw.write (w':=w) (k':=.ko k v rest none) hb rfl (fun _ _=>rfl) ⟨g,om,since,seen,c0,q1,q2,q3.imp (fun h=>⟨h.1,h.2.1,rfl⟩) (fun⟨bm,en,r1,r2,r3,r4,r5,r6,r7,_⟩=>⟨bm,en,r1,r2,r3,r4,r5,r6,r7,fun x hx=>by cases hx⟩)⟩
 refine⟨E,⟨h.len,h.tm,hw,h.df⟩,{Ext.refl (bK σ.hp E) E w with own:=?_ }⟩
 grind [bK.set]
def Ed(φ:AV→Option AV):List AV→List AV
 |[]=>[]
 |x::l=>(if x.plain then(match φ x with|some y=>y|none=>.bot) else .bot)::Ed φ l
def okD:AV→AV→Bool
 | .mp _,.mp _=>true
 | .mp _,_=>false
 |_,_=>true
def xf(φ:AV→Option AV):List AV→Option (List AV)
 |[]=>some []
 |
  x::l=>match φ x,xf φ l with
  |some y,some m=>if okD x y then some (y::m) else none
  |_,_=>none
def Ox{K:Type}(φ:AV→Option AV):List (K×AV)→Option (List (K×AV))
 |[]=>some []
 |
  (k,x)::l=>match φ x,Ox φ l with
  |some y,some m=>some ((k,y)::m)
  |_,_=>none
def i5(φ:AV→Option AV):Option aP→Option (Option aP)
 |
  some (.var t v)=>match φ v with
  |some u=>if u.cK t then some (some (.var t u)) else none
  |none=>none
 |
  some (.tv g t v)=>match φ v with
  |some u=>if u.cK t then some (some (.tv g t u)) else none
  |none=>none
 |
  some (.cY e bs t xs i v)=>match φ v with
  |some u=>if u.cK t then some (some (.cY e bs t xs i u)) else none
  |none=>none
 |
  some (.dh e bs t xs e2 (some (i,v)))=>match φ v with
  |some u=>if u.cK t then some (some (.dh e bs t xs e2 (some (i,u)))) else none
  |none=>none
 |
  some (.pmap k t es e2 (some (i,v,p)))=>match φ v with
  |some u=>if u.cK t then some (some (.pmap k t es e2 (some (i,u,p)))) else none
  |none=>none
 |some (.gr ..)=>none
 |some (.mw ..)=>none
 |some (.il k l)=>(Ox φ l).map fun l=>some (.il k l)
 |k=>some k
def Oy(φ:AV→Option AV):List (Option aP)→Option (List (Option aP))
 |[]=>some []
 |
  k::l=>match i5 φ k,Oy φ l with
  |some k',some m=>some (k'::m)
  |_,_=>none
theorem jK{φ:AV→Option AV}:∀{l:List AV},(Ed φ l).length=l.length
 |[]=>rfl
 |_::l=>by simp[Ed,jK (l:=l)]
theorem jL{φ:AV→Option AV}:∀{l:List AV}{i:Nat}{y:AV},(Ed φ l)[i]? =some y→y= .bot∨∃x,l[i]? =some x∧x.plain=true∧φ x=some y
 |[],i,y,h=>by trivial
 |
  x::l,0,y,h=>by
  simp only[Ed,List.getElem?_cons_zero,dk] at h
  grind
 |
  x::l,i+1,y,h=>by
  simp only[Ed,uF] at h
  simpa using jL h
theorem jM{φ:AV→Option AV}:∀{l m:List (Option aP)},Oy φ l=some m→∀{i:Nat}{k:aP},m[i]? =some (some k)→∃k0,l[i]? =some (some k0)∧i5 φ (some k0)=some (some k)
 |[],m,h,i,k,hk=>by cases h;grind
 |
  x::l,m,h,i,k,hk=>by
  simp only[Oy] at h
  split at h
  ·rename_i k' m' h1 h2
   cases h
   cases i with
   |
    zero=>
    simp at hk
    subst hk
    cases x with
    |none=>simp[i5] at h1
    |some x=>grind
   |succ i=>obtain⟨k0,e1,e2⟩:=jM h2 (i:=i) (by simpa using hk);exact⟨k0,by simpa using e1,e2⟩
  grind
def St.gk(φ:AV→Option AV)(σ:St):Option St:=
 match Oy φ σ.hp,xf φ σ.df with
 |some hp,some df=>some ⟨Ed φ σ.tm,hp,df⟩
 |_,_=>none
structure Good(E E':Env)(w:World)(φ:AV→Option AV):Prop where
 rc:∀x y vs,φ x=some y→RC E w x vs→RC E' w y vs
 agg:∀x y,φ x=some y→y.isAgg=x.isAgg
 fn:∀fn fs cs y,φ (.func fn fs cs)=some y→∃fs' cs',y= .func fn fs' cs'∧φ fs=some fs'∧φ cs=some cs'∧fs'.atoms=true∧cs'.atoms=true
 mp:∀b b',φ (.mp b)=some (.mp b')→E'.g b'=E.g b
theorem Good.RV{E E':Env}{w:World}{φ:AV→Option AV}(g:Good E E' w φ){x y:AV}{v:Value}(h:φ x=some y)(hr:cE E w x v):cE E' w y v:=by
 rcases hr with⟨h1,cs,e,h2⟩|⟨h1,h2⟩
 ·exact Or.inl ⟨by rw[g.agg x y h];exact h1,cs,e,g.rc x y _ h h2⟩
 ·exact Or.inr ⟨by rw[g.agg x y h];exact h1,g.rc x y _ h h2⟩
theorem Good.RD{E E':Env}{w:World}{φ:AV→Option AV}(g:Good E E' w φ):∀{l m:List AV}{ds:List Deferred},xf φ l=some m→Ax.RD E w l ds→Ax.RD E' w m ds
 |
  [],m,ds,h,hr=>by
  cases h
  cases ds with
  |nil=>trivial
  |cons _ _=>trivial
 |
  x::l,m,ds,h,hr=>by
  simp only[xf] at h
  split at h
  ·rename_i y m' h1 h2
   split at h
   case isFalse=>cases h
   rename_i gx
   cases h
   cases ds with
   |nil=>cases x<;>exact hr.elim
   |
    cons d ds=>
    cases x with
    |
     func fn fs cs=>
     obtain⟨fs',cs',e,k1,k2,k3,k4⟩:=g.fn fn fs cs y h1
     subst e
     obtain⟨⟨f,c,e,r1,r2,r3,r4⟩,r5⟩:=hr
     exact⟨⟨f,c,e,g.rc _ _ _ k1 r1,g.rc _ _ _ k2 r2,k3,k4⟩,g.RD h2 r5⟩
    |
     mp b=>
     cases y<;>simp[okD] at gx
     rename_i b'
     have k1:=g.mp b b' h1
     obtain⟨⟨i,e1,e2⟩,r5⟩:=hr
     exact⟨⟨i,by grind,e2⟩,g.RD h2 r5⟩
    |_=>trivial
  grind
theorem Good.RF{E E':Env}{w:World}{φ:AV→Option AV}(g:Good E E' w φ)(hS:∀b,E.S b→E'.S b){kt:Ty}:∀{en:List MapEntry}{l l':List (kt.den×AV)},Ox φ l=some l'→Ax.RF E w kt en l→Ax.RF E' w kt en l'∧l'.map (·.1)=l.map (·.1)
 |[],[],l',h,hr=>by cases h;trivial
 |[],_::_,_,h,hr=>hr.elim
 |_::_,[],_,h,hr=>hr.elim
 |
  e::en,(k,x)::l,l',h,hr=>by
  simp only[Ox] at h
  split at h
  ·rename_i y m h1 h2
   cases h
   obtain⟨r1,r2,r3,r4⟩:=hr
   obtain⟨q1,q2⟩:=g.RF hS h2 r4
   exact⟨⟨cE.mono ⟨fun _ _=>rfl,hS⟩ (fun _ hb=>by cases hb) r1,g.rc _ _ _ h1 r2,by rw[g.agg _ _ h1];exact r3,q1⟩,by simp[q2]⟩
  grind
theorem Good.RB{E E':Env}{w:World}{φ:AV→Option AV}(g:Good E E' w φ)(hS:∀b,E.S b→E'.S b){b b':Nat}{k k':aP}(hg:E'.g b'=E.g b)(hsv:E'.sv b'=E.sv b)(hbt:E'.bt b'=E.bt b)(hP:k.Tk=true→∀g,E.P b g→E'.P b' g)(hk:i5 φ (some k)=some (some k'))(h:Ax.RB E w b k):Ax.RB E' w b' k':=by
 have kp:bS E w E' w:=⟨fun _ _=>rfl,hS⟩
 cases k with
 |
  var t v=>
  simp only[i5] at hk
  split at hk
  ·rename_i u hu
   split at hk
   ·rename_i hc
    cases hk
    obtain⟨h1,h2,i,c,e,h3,h4,h5⟩:=h
    exact⟨by grind,hc,i,c,e,by grind,h4,g.rc v u _ hu h5⟩
   grind
  grind
 |
  row e bs t xs=>
  simp only[i5,dk] at hk;subst hk
  obtain⟨h1,h2,h3,h4,a,cap,h5,h6,h7⟩:=h
  refine⟨by grind,h2,h3,h4,a,cap,by grind,h6,?_⟩
  rcases h7 with⟨h7,h8,h9⟩|⟨i,c,h7,h8,h9,h10,h11,h12⟩
  ·grind
  ·exact Or.inr ⟨i,c,by grind,h8,h9,h10,h11,aY.mono (fun _ _=>Rel.mono kp.w kp.S) h12⟩
 |
  map kt vt es=>
  simp only[i5,dk] at hk;subst hk
  obtain⟨h1,h1',i,en,clock,h2,h3,h4,h5,h6⟩:=h
  exact⟨h1,h1',i,en,clock,by grind,h3,RM.mono kp h4,h5,h6⟩
 |
  gu e bs t xs=>
  simp only[i5,dk] at hk;subst hk
  obtain⟨ys,hp,h1,h2,h3,h4,a,cap,h5,h6,h7⟩:=h
  refine⟨ys,hp,by grind,h2,h3,h4,a,cap,by grind,h6,?_⟩
  rcases h7 with⟨h7,h8,h9⟩|⟨i,c,h7,h8,h9,h10,h11,h12⟩
  ·grind
  ·exact Or.inr ⟨i,c,by grind,h8,h9,h10,h11,aY.mono (fun _ _=>Rel.mono kp.w kp.S) h12⟩
 |
  ko k v rest cur=>
  simp only[i5,dk] at hk;subst hk
  obtain⟨gg,om,since,seen,c0,q1,q2,q3⟩:=h
  refine⟨gg,om,since,seen,c0,by grind,q2,q3.imp id ?_⟩
  rintro⟨bm,en,r1,r2,r3,r4,r5,r6,r7,r8⟩
  refine⟨bm,en,r1,kp.S bm r2,r3,r4,r5,r6,RM.mono kp r7,fun x hx=>?_⟩
  obtain⟨e,s0,t1,t2,t3,t4⟩:=r8 x hx
  exact⟨e,s0,t1,t2,cE.mono kp (fun _ hb=>by cases hb) t3,cE.mono kp (fun _ hb=>by cases hb) t4⟩
 |
  dh e bs t xs e2' f=>
  cases f with
  |
   none=>
   simp only[i5,dk] at hk;subst hk
   obtain⟨h1,h2,h3,h4,h5,gg,cap,c,og,q1,q2,q3,q4,q5,q6,q7,q8⟩:=h
   refine⟨by grind,h2,h3,h4,h5,gg,cap,c,og,by grind,q2,by grind,q4,q5,q6,q7.mono (hP rfl),fun i x hx=>?_⟩
   obtain⟨u,r1,r2,r3⟩:=q8 i x hx
   exact⟨u,r1,fun v hv=>(by cases hv),fun hv=>dn.mono kp.w kp.S (fun _ _=>rfl) (r3 (fun v hv=>by cases hv))⟩
  |
   some f=>
   obtain⟨j,v⟩:=f
   simp only[i5] at hk
   split at hk
   ·rename_i u hu
    split at hk
    ·rename_i hc
     cases hk
     obtain⟨h1,h2,h3,h4,h5,gg,cap,c,og,q1,q2,q3,q4,q5,q6,q7,q8⟩:=h
     refine⟨by rw[hbt];exact h1,h2,h3,h4,fun i v' hv=>by grind,gg,cap,c,og,by grind,q2,by grind,q4,q5,q6,q7.mono (hP rfl),fun i x hx=>?_⟩
     obtain⟨u',r1,r2,r3⟩:=q8 i x hx
     refine⟨u',r1,fun v' hv=>?_,fun hv=>dn.mono kp.w kp.S (fun _ _=>rfl) (r3 (fun v' hv'=>by grind))⟩
     cases hv
     exact⟨(r2 v rfl).1,g.rc v u _ hu (r2 v rfl).2⟩
    grind
   grind
 |
  pmap kt t es e2' f=>
  cases f with
  |
   none=>
   simp only[i5,dk] at hk;subst hk
   obtain⟨h1,h2,h3,gg,en,clock,og,q1,q2,q3,q4,q5,q6,q7,q8⟩:=h
   refine⟨h1,h2,h3,gg,en,clock,og,by grind,q2,q3,q4,q5.mono (hP rfl),q6,fun i x hx=>?_,fun kx v=>⟨fun hf=>(by cases hf),fun hf=>(by cases hf)⟩⟩
   obtain⟨m,r1,r2,r3,r4⟩:=q7 i x hx
   exact⟨m,r1,cE.mono kp (fun _ hb=>by cases hb) r2,fun v pr hv=>(by cases hv),fun hv=>dn.mono kp.w kp.S (fun _ _=>rfl) (r4 (fun v pr hv=>by cases hv))⟩
  |
   some f=>
   obtain⟨j,v,p⟩:=f
   simp only[i5] at hk
   split at hk
   ·rename_i u hu
    split at hk
    ·rename_i hc
     cases hk
     obtain⟨h1,h2,h3,gg,en,clock,og,q1,q2,q3,q4,q5,q6,q7,q8⟩:=h
     refine⟨h1,h2,fun kx v' pr hv=>by grind,gg,en,clock,og,by grind,q2,q3,q4,q5.mono (hP rfl),q6,fun i x hx=>?_,fun kx v'=>⟨fun hf hn=>?_,fun hf=>?_⟩⟩
     ·obtain⟨m,r1,r2,r3,r4⟩:=q7 i x hx
      refine⟨m,r1,cE.mono kp (fun _ hb=>by cases hb) r2,fun v' pr hv=>?_,fun hv=>dn.mono kp.w kp.S (fun _ _=>rfl) (r4 (fun v' pr hv'=>by grind))⟩
      cases hv
      exact⟨(r3 v _ rfl).1,g.rc v u _ hu (r3 v _ rfl).2⟩
     ·cases hf
      exact g.rc v u _ hu ((q8 _ v).1 rfl hn)
     grind
    grind
   grind
 |gr k t es e2' kx v pr=>trivial
 |mw k t es kx=>trivial
 |
  il kt l=>
  simp only[i5,fN] at hk
  obtain⟨l',hl,e⟩:=hk
  cases e
  obtain⟨h1,h2,gg,en,clock,q1,q2,q3⟩:=h
  obtain⟨r1,r2⟩:=g.RF hS hl q3
  refine⟨by grind,?_,gg,en,clock,by grind,q2,r1⟩
  have:=congrArg List.length r2
  grind
 |lp l r=>simp only[i5,dk] at hk;subst hk;exact⟨by rw[hg];exact h.1,h.2⟩
 |sY=>simp only[i5,dk] at hk;subst hk;obtain⟨i,h1,h2⟩:=h;exact⟨i,by grind,h2⟩
 |
  tv gg t v=>
  simp only[i5] at hk
  split at hk
  ·rename_i u hu
   split at hk
   ·rename_i hc
    cases hk
    obtain⟨h0,h1,h2,c,e,h4,h5⟩:=h
    exact⟨by grind,by grind,hc,c,e,h4,g.rc v u _ hu h5⟩
   grind
  grind
 |
  cY e bs t xs i v=>
  simp only[i5] at hk
  split at hk
  ·rename_i u hu
   split at hk
   ·rename_i hc
    cases hk
    obtain⟨h1,h2,h3,h4,h5,h6,gg,cap,c,q1,q2,q3,q4,q5,q6,q7,q8,q9⟩:=h
    exact⟨by grind,h2,h3,h4,h5,hc,gg,cap,c,by grind,q2,by grind,q4,q5,q6,aY.mono (fun _ _=>Rel.mono kp.w kp.S) q7,g.rc v u _ hu q8,aY.mono (fun _ _=>Rel.mono kp.w kp.S) q9⟩
   grind
  grind
def fz(hb:Nat→Option aP)(b:Nat)(t:Ty):AV→Option AV
 | .own c=>if Nat.beq c b then(view hb (.own c) false t).map (·.1) else some (.own c)
 | .ju c lo len=>if Nat.beq c b then(view hb (.ju c lo len) false t).map (·.1) else some (.ju c lo len)
 | .jj c p lo len=>if Nat.beq c b then(view hb (.jj c p lo len) false t).map (·.1) else some (.jj c p lo len)
 | .ptr c p=>if Nat.beq c b then(view hb (.ptr c p) false t).map (·.1) else some (.ptr c p)
 | .mp c=>if Nat.beq c b then(view hb (.mp c) false t).map (·.1) else some (.mp c)
 |
  .func fn fs cs=>match fz hb b t fs,fz hb b t cs with
  |some f,some c=>if f.atoms&&c.atoms then some (.func fn f c) else none
  |_,_=>none
 |
  .iface u v=>match fz hb b t v with
  |some x=>some (.iface u x)
  |none=>none
 |
  .cons x y=>match fz hb b t x,fz hb b t y with
  |some u,some v=>some (.cons u v)
  |_,_=>none
 | .bot=>none
 | .gm _=>none
 | .opt _ _=>none
 |x=>some x
theorem ln{hb:Nat→Option aP}{x y:AV}{t:Ty}{l:List Nat}{b:Nat}(hx:x= .own b∨(∃lo len,x= .ju b lo len)∨(∃p lo len,x= .jj b p lo len)∨(∃p,x= .ptr b p))(h:view hb x false t=some (y,l)):l= [b]:=by
 rcases hx with rfl|⟨lo,len,rfl⟩|⟨p,lo,len,rfl⟩|⟨p,rfl⟩
 ·have h':(match fL hb b with|some ⟨bs,t,xs⟩=>some (AV.val (.slice bs t) xs,[b])|none=>none)=some (y,l):=by trivial
  grind
 ·have h':(match fL hb b with|some ⟨bs,t,xs⟩=>some (AV.val (.slice bs t) ((xs.drop lo).take len),[b])|none=>none)=some (y,l):=by trivial
  grind
 ·cases t with
  |
   slice bs t=>
   grind [view]
  |_=>trivial
 ·have h':(match hb b with
   |
    some k=>match ou k p,(jf k).sub p with
    |
     some u,some s=>match u.bO s with
     |some y=>some (AV.cb s y,[b])
     |none=>none
    |_,_=>none
   |none=>none)=some (y,l):=by trivial
  grind
theorem Oz{gl:Ctx}{E:Env}{w:World}{hp:List (Option aP)}(hw:HW gl E w hp){hb:Nat→Option aP}(hB:HB hb hp)(b:Nat)(t:Ty):Good E (E.de [b]) w (fz hb b t) where
 mp:=by
  intro c y h
  simp only[fz] at h
  split at h
  ·obtain⟨⟨z,l⟩,h1,h2⟩:=Option.map_eq_some_iff.1 h
   have:=rT h1
   grind [AV.ids]
  ·cases h;rfl
 rc:=
  by
  have kp:bS E w (E.de [b]) w:=Env.dR [b]
  intro x
  induction x with
  |
   own c=>
   intro y vs h hr
   simp only[fz] at h
   split at h
   ·rename_i e;have e:=bT e;subst e
    obtain⟨⟨z,l⟩,h1,rfl⟩:=Option.map_eq_some_iff.1 h
    have:=ln (Or.inl rfl) h1;grind [lq]
   ·cases h;trivial
  |
   ju c lo len=>
   intro y vs h hr
   simp only[fz] at h
   split at h
   ·rename_i e;have e:=bT e;subst e
    obtain⟨⟨z,l⟩,h1,rfl⟩:=Option.map_eq_some_iff.1 h
    have:=ln (Or.inr (Or.inl ⟨lo,len,rfl⟩)) h1;grind [lq]
   ·cases h;trivial
  |
   jj c p lo len=>
   intro y vs h hr
   simp only[fz] at h
   split at h
   ·rename_i e;have e:=bT e;subst e
    obtain⟨⟨z,l⟩,h1,rfl⟩:=Option.map_eq_some_iff.1 h
    have:=ln (Or.inr (Or.inr (Or.inl ⟨p,lo,len,rfl⟩))) h1;grind [lq]
   ·cases h;trivial
  |
   ptr c p=>
   intro y vs h hr
   simp only[fz] at h
   split at h
   ·rename_i e;have e:=bT e;subst e
    obtain⟨⟨z,l⟩,h1,rfl⟩:=Option.map_eq_some_iff.1 h
    have:=ln (Or.inr (Or.inr (Or.inr ⟨p,rfl⟩))) h1;grind [lq]
   ·cases h;trivial
  |
   mp c=>
   intro y vs h hr
   simp only[fz] at h
   split at h
   ·rename_i e;have e:=bT e;subst e
    obtain⟨⟨z,l⟩,h1,rfl⟩:=Option.map_eq_some_iff.1 h
    have:l= [c]:=by
     have h':(match hb c with
      |some (.map k v es)=>some (AV.val (.map k v) (some es),[c])
      |_=>none)=some (z,l):=by trivial
     grind
    grind [lq]
   ·cases h;trivial
  |
   func fn fs cs ih1 ih2=>
   intro y vs h hr
   simp only[fz] at h
   split at h
   ·rename_i f c h1 h2
    split at h
    ·rename_i ha
     cases h
     simp only[bB] at ha
     obtain⟨f',c',e,r1,r2,_,_⟩:=hr
     exact⟨f',c',e,ih1 f _ h1 r1,ih2 c _ h2 r2,ha.1,ha.2⟩
    grind
   grind
  |
   iface u v ih=>
   intro y vs h hr
   simp only[fz] at h
   split at h
   ·rename_i z hz
    cases h
    obtain⟨x,e,hr⟩:=hr
    refine⟨x,e,?_⟩
    have am9:=fzAgg v z hz
    grind
   grind
  |
   cons a c ih1 ih2=>
   intro y vs h hr
   simp only[fz] at h
   split at h
   ·rename_i u v h1 h2
    cases h
    obtain⟨v1,v2,e,r1,r2⟩:=hr
    exact⟨v1,v2,e,ih1 u _ h1 r1,ih2 v _ h2 r2⟩
   grind
  |bot=>intro y vs h;trivial
  |gm l=>intro y vs h;trivial
  |opt c v=>intro y vs h;trivial
  |_=>intro y vs h hr;simp only[fz,dk] at h;subst h;exact RC.mono kp (fun _ _=>⟨rfl,rfl,rfl⟩) hr
 agg:=fun x y h=>fzAgg x y h
 fn:=by
  intro fn fs cs y h
  simp only[fz] at h
  grind
where
 fzAgg {hb:Nat→Option aP} {b:Nat} {t:Ty} (x y:AV) (h:fz hb b t x=some y):y.isAgg=x.isAgg:=by
  cases x with
  |
   own c=>
   simp only[fz] at h
   split at h
   ·simp only[fN] at h;obtain⟨⟨z,l⟩,h1,rfl⟩:=h;exact iG h1
   grind
  |
   ju c lo len=>
   simp only[fz] at h
   split at h
   ·simp only[fN] at h;obtain⟨⟨z,l⟩,h1,rfl⟩:=h;exact iG h1
   grind
  |
   jj c p lo len=>
   simp only[fz] at h
   split at h
   ·simp only[fN] at h;obtain⟨⟨z,l⟩,h1,rfl⟩:=h;exact iG h1
   grind
  |
   ptr c p=>
   simp only[fz] at h
   split at h
   ·simp only[fN] at h;obtain⟨⟨z,l⟩,h1,rfl⟩:=h;exact iG h1
   grind
  |
   mp c=>
   simp only[fz] at h
   split at h
   ·simp only[fN] at h;obtain⟨⟨z,l⟩,h1,rfl⟩:=h;exact iG h1
   grind
  |
   func fn fs cs=>
   simp only[fz] at h
   split at h
   ·split at h
    ·cases h;rfl
    grind
   grind
  |
   iface u v=>
   simp only[fz] at h
   split at h
   ·cases h;rfl
   grind
  |
   cons a c=>
   simp only[fz] at h
   split at h
   ·cases h;rfl
   grind
  |bot=>trivial
  |gm l=>trivial
  |opt c v=>trivial
  |_=>grind [fz]
def eG(hp:List (Option aP))(b:Nat):Option aP:=(hp[b]?).join
theorem cq(hp:List (Option aP)):HB (eG hp) hp:=by
 intro b k hk
 grind [eG]
def freeze(b:Nat)(t:Ty)(σ:St):Option St:=
 match eG σ.hp b with
 |some _=>St.gk (fz (eG σ.hp) b t) {σ with hp:=σ.hp.set b none}
 |none=>none
theorem Wk.freeze{gl:Ctx}{b:Nat}{t:Ty}{σ σ':St}(h:Ax.freeze b t σ=some σ'):Wk gl σ σ':=by
 intro E a w hg
 unfold Ax.freeze at h
 split at h
 ·rename_i k hk
  have hbk:=cq σ.hp b k hk
  unfold St.gk at h
  split at h
  ·rename_i hp' df' h1 h2
   cases h
   have anD:=Oz hg.hw (cq σ.hp) b t
   have hSle:∀i,E.S i→(E.de [b]).S i:=fun i hi=>Or.inl hi
   have src:∀(i:Nat)(k':aP),hp'[i]? =some (some k')→∃k0,i≠b∧σ.hp[i]? =some (some k0)∧i5 (fz (eG σ.hp) b t) (some k0)=some (some k'):=by
    grind [jM]
   refine⟨E.de [b],⟨?_,?_,⟨?_,?_,?_,?_,hg.hw.gZ (Env.dR [b]),fun i k' g' hi hp=>by obtain⟨k0,_,e1,_⟩:=src i k' hi;exact hg.hw.sZ i k0 g' e1 hp⟩,anD.RD h2 hg.df⟩,⟨rfl,Tp.r rfl rfl,rfl,dc _,fun _ _ _=>rfl,hSle,?_,?_,fun _ _=>⟨rfl,rfl,rfl⟩⟩⟩
   ·simp only[jK];exact hg.len
   ·intro i y hy v hv
    rcases jL hy with e|⟨x,e1,e2,e3⟩
    ·subst e;trivial
    ·exact RV.eI (anD.RV e3 (RV.iZ e2 (hg.tm i x e1 v hv)))
   ·intro i k' hi
    obtain⟨k0,_,e1,e2⟩:=src i k' hi
    exact anD.RB hSle (b:=i) (b':=i) rfl rfl rfl (fun _ _ h=>h) e2 (hg.hw.cX i k0 e1)
   ·intro i j k1 k2 g' hi hj g1 g2
    obtain⟨k3,_,e1,_⟩:=src i k1 hi
    obtain⟨k4,_,e2,_⟩:=src j k2 hj
    exact hg.hw.eH i j k3 k4 g' e1 e2 g1 g2
   ·intro i k' g' hi hgi hs
    obtain⟨k0,hne,e1,_⟩:=src i k' hi
    rcases hs with hs|⟨c,hc,e⟩
    ·exact hg.hw.dL i k0 g' e1 hgi hs
    ·simp at hc;subst hc
     exact hne (hg.hw.eH i c k0 k g' e1 hbk hgi (Or.inl e))
   ·intro g' hs
    rcases hs with hs|⟨c,hc,e⟩
    ·exact hg.hw.slt g' hs
    ·simp at hc;subst hc
     exact bK.below hg.hw ⟨c,k,hbk,Or.inl e⟩
   ·intro g' hs
    rcases hs with hs|⟨c,hc,e⟩
    ·grind
    ·simp at hc;subst hc
     exact Or.inr (Or.inl ⟨c,k,hbk,Or.inl e⟩)
   ·rintro g' ⟨i,k',hi,hgi⟩
    obtain⟨k0,_,e1,_⟩:=src i k' hi
    exact Or.inl ⟨i,k0,e1,hgi⟩
  grind
 grind
end Go.Ax
namespace Go.Ax
def HU(b:Nat):AV→Bool
 | .ju c _ _| .jj c _ _ _| .ptr c _=> !Nat.beq c b
 | .func _ fs cs=>HU b fs&&HU b cs&&fs.atoms&&cs.atoms
 | .iface _ v=>HU b v
 | .cons a c=>HU b a&&HU b c
 | .bot| .gm _| .opt _ _=>false
 |_=>true
def ir(b:Nat)(x:AV):Option AV:=if HU b x then some x else none
def Env.re(E:Env)(b:Nat)(t:Ty):Env:={E with bt:=fun c=>if c=b then t else E.bt c}
theorem Env.Ck{E:Env}{b c:Nat}{t:Ty}(h:c≠b):(E.re b t).bt c=E.bt c:=by simp[Env.re,h]
theorem Env.Gr{E:Env}{b:Nat}{t:Ty}:(E.re b t).bt b=t:=by simp[Env.re]
theorem Lb{E:Env}{w:World}{b:Nat}{t:Ty}:∀{x:AV}{vs:List Value},HU b x=true→RC E w x vs→RC (E.re b t) w x vs:=by
 intro x
 have ne:∀{c:Nat},(!Nat.beq c b)=true→c≠b:=fun h e=>by simp_all
 induction x with
 |ju c lo len=>intro vs h hr;simp only[RC];rw[Env.Ck (ne h)];exact hr
 |jj c p lo len=>intro vs h hr;simp only[RC];rw[Env.Ck (ne h)];exact hr
 |ptr c p=>intro vs h hr;simp only[RC];rw[Env.Ck (ne h)];exact hr
 |
  func fn fs cs ih1 ih2=>
  intro vs h hr
  simp only[HU,bB] at h
  obtain⟨f,c,e,h1,h2,h3,h4⟩:=hr
  exact⟨f,c,e,ih1 h.1.1.1 h1,ih2 h.1.1.2 h2,h3,h4⟩
 |
  iface u v ih=>
  intro vs h hr
  obtain⟨x,e,hr⟩:=hr
  refine⟨x,e,?_⟩
  rcases hr with⟨h1,cs,e2,h3⟩|⟨h1,h3⟩
  ·exact Or.inl ⟨h1,cs,e2,ih h h3⟩
  ·exact Or.inr ⟨h1,ih h h3⟩
 |
  cons a c ih1 ih2=>
  intro vs h hr
  simp only[HU,bB] at h
  obtain⟨v1,v2,e,h1,h2⟩:=hr
  exact⟨v1,v2,e,ih1 h.1 h1,ih2 h.2 h2⟩
 |bot=>intro vs h;trivial
 |gm l=>intro vs h;trivial
 |opt c v=>intro vs h;trivial
 |_=>intro vs h hr;exact hr
theorem zB{E:Env}{w:World}{b:Nat}{t:Ty}:Good E (E.re b t) w (ir b) where
 rc:=by
  grind [ir,Lb]
 agg:=by
  grind [ir]
 mp:=by
  intro c y h
  unfold ir at h
  split at h
  ·cases h;rfl
  grind
 fn:=by
  intro fn fs cs y h
  unfold ir at h
  split at h
  ·rename_i hn
   cases h
   simp only[HU,bB] at hn
   exact⟨fs,cs,rfl,by unfold ir;grind,by unfold ir;grind,hn.1.2,hn.2⟩
  grind
theorem cp.re{gl:Ctx}{σ:St}{E:Env}{a:Act}{w:World}(hg:cp gl σ E a w){b:Nat}{k k':aP}{ty:Ty}{σ1:St}(hb:σ.hp[b]? =some (some k))(h16:16≤b)(hm:St.gk (ir b) {σ with hp:=σ.hp.set b none}=some σ1)(hk:RB (E.re b ty) w b k'):
 cp gl {σ1 with hp:=σ1.hp.set b (some k')} (E.re b ty) a w∧Ext gl.md (bK σ.hp E) E w (bK (σ1.hp.set b (some k')) (E.re b ty)) (E.re b ty) w:=by
 have anD:=zB (E:=E) (w:=w) (b:=b) (t:=ty)
 unfold St.gk at hm
 split at hm
 ·rename_i hp' df' h3 h4
  cases hm
  have src:∀(i:Nat)(k2:aP),(hp'.set b (some k'))[i]? =some (some k2)→(i=b∧k'=k2)∨(i≠b∧∃k0,σ.hp[i]? =some (some k0)∧i5 (ir b) (some k0)=some (some k2)):=by
   intro i k2 hi
   rw[dm] at hi
   split at hi
   ·grind
   ·rename_i hne
    obtain⟨k0,e1,e2⟩:=jM h3 hi
    grind
  have any:∀(i:Nat)(k2:aP),(hp'.set b (some k'))[i]? =some (some k2)→∃k0,σ.hp[i]? =some (some k0):=by
   grind
  refine⟨⟨?_,?_,⟨?_,?_,?_,hg.hw.slt,hg.hw.gl,?_⟩,anD.RD h4 hg.df⟩,⟨rfl,Tp.r rfl rfl,rfl,dc _,fun _ _ _=>rfl,fun _ h=>h,fun _ h=>Or.inl h,?_,fun i hi=>⟨rfl,rfl,Env.Ck (by omega)⟩⟩⟩
  ·simp only[jK];exact hg.len
  ·intro i y hy v hv
   rcases jL hy with e|⟨x,e1,e2,e3⟩
   ·subst e;trivial
   ·exact RV.eI (anD.RV e3 (RV.iZ e2 (hg.tm i x e1 v hv)))
  ·intro i k2 hi
   rcases src i k2 hi with⟨e,e'⟩|⟨e1,k0,e3,e4⟩
   ·grind
   ·exact anD.RB (fun _ h=>h) (b:=i) (b':=i) rfl rfl (Env.Ck e1) (fun _ _ h=>h) e4 (hg.hw.cX i k0 e3)
  ·intro i j k2 k3 g hi hj g1 g2
   obtain⟨k4,e1⟩:=any i k2 hi
   obtain⟨k5,e2⟩:=any j k3 hj
   exact hg.hw.eH i j k4 k5 g e1 e2 g1 g2
  ·intro i k2 g hi hgi hs
   obtain⟨k4,e1⟩:=any i k2 hi
   exact hg.hw.dL i k4 g e1 hgi hs
  ·intro i k2 g hi hgi
   obtain⟨k4,e1⟩:=any i k2 hi
   exact hg.hw.sZ i k4 g e1 hgi
  ·rintro g ⟨i,k2,hi,hgi⟩
   obtain⟨k4,e1⟩:=any i k2 hi
   exact Or.inl ⟨i,k4,e1,hgi⟩
 grind
def qq(b:Nat):Bool:=Nat.ble 16 b
def kF(b:Nat)(σ:St):Option St:=
 match eG σ.hp b with
 |
  some (.cY e bs t xs i v)=>match v.bO t with
  |
   some y=>if qq b then(match St.gk (ir b) {σ with hp:=σ.hp.set b none} with
   |some σ1=>some {σ1 with hp:=σ1.hp.set b (some (.row e bs t (xs.set i y)))}
   |none=>none) else none
  |none=>none
 |_=>none
theorem aY.join{α:Type}{r:List Value→α→Prop}:∀{xs ys:List α}{vs us:List Value},aY r vs xs→aY r us ys→aY r (vs++us) (xs++ys)
 |[],ys,vs,us,h,k=>by simp[aY] at h;grind
 |
  x::xs,ys,vs,us,⟨v1,v2,e,h1,h2⟩,k=>by
  subst e
  exact⟨v1,v2++us,by simp,h1,aY.join h2 k⟩
theorem HV{α:Type}{xs:List α}{i:Nat}{y:α}(h:i<xs.length):xs.set i y=xs.take i++y::xs.drop (i+1):=by
 rw[List.set_eq_take_append_cons_drop,aA h]
theorem Wk.kF{gl:Ctx}{b:Nat}{σ σ':St}(h:Ax.kF b σ=some σ'):Wk gl σ σ':=by
 intro E a w hg
 unfold Ax.kF at h
 split at h
 ·rename_i e bs t xs i v hb
  have hb:=cq σ.hp b _ hb
  split at h
  ·rename_i y hy
   split at h
   ·rename_i h16
    split at h
    ·rename_i σ1 hm
     cases h
     obtain⟨h1,h2,h3,h4,h5,h6,g,cap,c,q1,q2,q3,q4,q5,q6,q7,q8,q9⟩:=hg.hw.cX b _ hb
     obtain⟨r1,r2⟩:=hg.re (k':=.row e bs t (xs.set i y)) (ty:=.arr xs.length t) hb (fI h16) hm (by
      refine⟨by rw[Env.Gr,cj],by grind,by grind,h5,some ⟨g,0,none⟩,cap,by rw[cj];exact q1,q2,Or.inr ⟨g,c,q3,rfl,q4,q5,by grind,?_⟩⟩
      rw[cj,HV h2]
      have hmid:Rel w E.S t ((c.toList.drop (i*t.size)).take t.size) y:=RC.bO hy q8
      have hsp:c.toList.take (xs.length*t.size)=c.toList.take (i*t.size)++((c.toList.drop (i*t.size)).take t.size++(c.toList.drop ((i+1)*t.size)).take ((xs.length -(i+1))*t.size)):=by
       have e1:xs.length*t.size=i*t.size+(t.size+(xs.length -(i+1))*t.size):=by
        rw[←Nat.add_assoc,show i*t.size+t.size=(i+1)*t.size from by grind,←gj]
        grind
       simp_all[List.take_add,gj]
      rw[hsp]
      exact aY.join q7 ⟨_,_,rfl,hmid,q9⟩)
     grind
    grind
   grind
  grind
 grind
def yn(b i:Nat)(σ:St):Option St:=
 match eG σ.hp b with
 |some (.row e bs t xs)=>if qq b then(match St.gk (ir b) {σ with hp:=σ.hp.set b none} with
  |some σ1=>some {σ1 with hp:=σ1.hp.set b (some (.cY e bs t xs i (.val t (xs.getD i t.aD))))}
  |none=>none) else none
 |_=>none
theorem aY.split{w:World}{S:Nat→Prop}{t:Ty}{xs:List t.den}{cs:List Value}{i:Nat}(h:aY (Rel w S t) cs xs)(hi:i<xs.length):
 aY (Rel w S t) (cs.take (i*t.size)) (xs.take i)∧Rel w S t ((cs.drop (i*t.size)).take t.size) (xs.getD i t.aD)∧aY (Rel w S t) (cs.drop ((i+1)*t.size)) (xs.drop (i+1)):=
 ⟨aY.take (fun _ _=>Rel.len) i h,by grind [aY.get,Rel.len],aY.drop (fun _ _=>Rel.len) (i+1) h⟩
theorem Cn{gl:Ctx}{b i:Nat}{σ σ':St}(h:yn b i σ=some σ'){E:Env}{a:Act}{w:World}(hg:cp gl σ E a w)(hi:∀e bs t xs,eG σ.hp b=some (.row e bs t xs)→i<xs.length):
 ∃n t,E.bt b= .arr n t∧cp gl σ' (E.re b (mA i n t)) a w∧Ext gl.md (bK σ.hp E) E w (bK σ'.hp (E.re b (mA i n t))) (E.re b (mA i n t)) w:=by
 unfold yn at h
 split at h
 ·rename_i e bs t xs hb0
  have hb:=cq σ.hp b _ hb0
  have hi:=hi _ _ _ _ hb0
  split at h
  ·rename_i h16
   split at h
   ·rename_i σ1 hm
    cases h
    obtain⟨h1,h2,h3,h4,ad,cap,h5,h6,h7⟩:=hg.hw.cX b _ hb
    rcases h7 with⟨_,_,h9⟩|⟨g,c,h7,h8,h9,h10,h11,h12⟩
    ·grind
    ·subst h8
     refine⟨xs.length,t,h1,?_⟩
     refine hg.re hb (fI h16) hm ⟨Env.Gr,hi,h2,h3,h4,Ty.di t,g,cap,c,h5,h6,h7,h9,h10,h11,?_,?_,?_⟩
     ·obtain⟨q1,_,_⟩:=aY.split h12 hi
      rw[sq,pK (gK _ (by omega))] at q1
      exact q1
     ·obtain⟨_,q2,_⟩:=aY.split h12 hi
      rw[mu,sq,pK (by rw[←Nat.sub_mul];exact Nat.le_mul_of_pos_left _ (by omega))] at q2
      exact q2
     ·obtain⟨_,_,q3⟩:=aY.split h12 hi
      rw[mu,←Nat.sub_mul] at q3
      exact q3
   grind
  grind
 grind
theorem Wk.ady{gl:Ctx}{b i:Nat}{σ σ':St}(h:yn b i σ=some σ')(hi:∀e bs t xs,eG σ.hp b=some (.row e bs t xs)→i<xs.length):Wk gl σ σ':=by
 intro E a w hg
 grind [Cn]
theorem Wk.adz{gl:Ctx}{b i s:Nat}{σ σ':St}(hs:σ.tm[s]? =some (.ptr b [.idx i]))(h:yn b i σ=some σ'):Wk gl σ {σ' with tm:=σ'.tm.set s (.ptr b [.cV 1])}:=by
 intro E a w hg
 have hlt:s<a.tmps.size:=by rw[hg.len];grind
 obtain⟨g,hgb,e,hv⟩:=RV.atom rfl (hg.tm s _ hs a.tmps[s] (by grind))
 obtain⟨n,t,hbt,h1,h2⟩:=Cn h hg (fun e bs t xs hb=>by
  have hk:=hg.hw.cX b _ (cq σ.hp b _ hb)
  have:=hk.1
  rw[this] at hv
  exact hv.1)
 refine⟨_,⟨by simp only[cj];exact h1.len,?_,h1.hw,h1.df⟩,h2⟩
 intro j x hx v hv'
 simp only[dm] at hx
 split at hx
 ·rename_i e';subst e'
  split at hx
  ·cases hx
   rw[Array.getElem?_eq_getElem hlt] at hv'
   cases hv'
   simp at e
   refine RV.eI (Or.inr ⟨rfl,g,hgb,?_,?_⟩)
   ·grind [Env.Gr,mA,Ty.off,Ty.size]
   ·rw[Env.Gr];exact Ty.gO t
  grind
 ·exact h1.tm j x hx v hv'
end Go.Ax
namespace Go.Ax
def XM(d:Nat)(x:AV):Bool:=x.ids.all fun c=> !Nat.beq c d
def lW(b d:Nat)(x:AV):Option AV:=if HU b x&&XM d x then some x else none
theorem Lc{d:Nat}{x:AV}(h:XM d x=true):∀c∈x.ids,c≠d:=fun c hc e=>by
 simp only[XM,lP] at h
 have:=h c hc
 simp_all
def Env.pull(E:Env)(b d:Nat)(og:Option Nat)(v:Value)(td tb:Ty):Env where
 g:=fun c=>if c=d then og else E.g c
 sv:=fun c=>if c=d then v else E.sv c
 bt:=fun c=>if c=d then td else if c=b then tb else E.bt c
 S:=E.S
 P:=fun c x=>c≠d∧E.P c x∧(c=b→og≠some x)
theorem Env.Gs{E:Env}{b d:Nat}{og:Option Nat}{v:Value}{td tb:Ty}{c:Nat}(h1:c≠d)(h2:c≠b):(E.pull b d og v td tb).g c=E.g c∧(E.pull b d og v td tb).sv c=E.sv c∧(E.pull b d og v td tb).bt c=E.bt c:=by simp[Env.pull,h1,h2]
theorem Env.mV{E:Env}{b d:Nat}{og:Option Nat}{v:Value}{td tb:Ty}{c x:Nat}(h:c≠d)(k:(E.pull b d og v td tb).has c x):E.has c x:=by
 rcases k with k|k
 ·exact Or.inl (by simpa[Env.pull,h] using k)
 ·exact Or.inr k.2.1
theorem Env.qt{E:Env}{b d:Nat}{og:Option Nat}{v:Value}{td tb:Ty}{x:Nat}(k:(E.pull b d og v td tb).has d x):og=some x:=by
 rcases k with k|k
 ·simpa[Env.pull] using k
 ·exact absurd rfl k.1
theorem OA{E:Env}{w:World}{b d:Nat}{og:Option Nat}{v:Value}{td tb:Ty}{x:AV}{vs:List Value}(h1:HU b x=true)(h2:XM d x=true)(hr:RC E w x vs):RC (E.pull b d og v td tb) w x vs:=by
 have:=Lb (t:=tb) h1 hr
 refine RC.mono (E:=E.re b tb) (E':=E.pull b d og v td tb) (w:=w) ⟨fun _ _=>rfl,fun _ h=>h⟩ (fun c hc=>?_) this
 grind [Lc,Env.pull,Env.re]
theorem Ld{E:Env}{w:World}{b d:Nat}{og:Option Nat}{v:Value}{td tb:Ty}:Good E (E.pull b d og v td tb) w (lW b d) where
 rc:=by
  intro x y vs h hr
  unfold lW at h
  split at h
  ·simp_all[OA]
  grind
 agg:=by
  grind [lW]
 mp:=by
  intro c y h
  unfold lW at h
  split at h
  ·rename_i hn
   cases h
   simp only[bB] at hn
   have:=Lc hn.2 c (by simp[AV.ids])
   simp[Env.pull,this]
  grind
 fn:=by
  intro fn fs cs y h
  unfold lW at h
  split at h
  ·rename_i hn
   cases h
   simp only[bB,HU] at hn
   have h2:=hn.2
   simp only[XM,AV.ids,List.all_append,bB] at h2
   exact⟨fs,cs,rfl,by unfold lW;rw[aA];simp only[bB];exact⟨hn.1.1.1.1,h2.1⟩,by unfold lW;rw[aA];simp only[bB];exact⟨hn.1.1.1.2,h2.2⟩,hn.1.1.2,hn.1.2⟩
  grind
theorem cp.pull{gl:Ctx}{σ:St}{E:Env}{a:Act}{w:World}(hg:cp gl σ E a w){b d:Nat}{k k1 k2:aP}{og:Option Nat}{v:Value}{td tb:Ty}{σ1:St}(hb:σ.hp[b]? =some (some k))(h16:16≤b)(hbd:b≠d)(hd:σ.fresh d)
 (hP:∀x,og=some x→E.P b x∧E.g b≠some x) (hm:St.gk (lW b d) {σ with hp:=σ.hp.set b none}=some σ1) (hk1:RB (E.pull b d og v td tb) w b k1) (hk2:RB (E.pull b d og v td tb) w d k2):
 cp gl {σ1 with hp:=(σ1.hp.set b (some k1)).set d (some k2)} (E.pull b d og v td tb) a w∧Ext gl.md (bK σ.hp E) E w (bK ((σ1.hp.set b (some k1)).set d (some k2)) (E.pull b d og v td tb)) (E.pull b d og v td tb) w:=by
 have anD:=Ld (E:=E) (w:=w) (b:=b) (d:=d) (og:=og) (v:=v) (td:=td) (tb:=tb)
 have h16d:=hd.2.2
 unfold St.gk at hm
 split at hm
 ·rename_i hp' df' h3 h4
  cases hm
  have src:∀(i:Nat)(k3:aP),((hp'.set b (some k1)).set d (some k2))[i]? =some (some k3)→(i=d∧k2=k3)∨(i≠d∧i=b∧k1=k3)∨(i≠d∧i≠b∧∃k0,σ.hp[i]? =some (some k0)∧i5 (lW b d) (some k0)=some (some k3)):=by
   intro i k3 hi
   rw[dm] at hi
   split at hi
   ·grind
   ·rename_i hne0
    have hne0:i≠d:=fun e=>hne0 e.symm
    rw[dm] at hi
    split at hi
    ·grind
    ·rename_i hne
     obtain⟨k0,e1,e2⟩:=jM h3 hi
     grind
  have any:∀(i:Nat)(k3:aP),((hp'.set b (some k1)).set d (some k2))[i]? =some (some k3)→i≠d→∃k0,σ.hp[i]? =some (some k0):=by
   grind
  have old:∀x i,i≠d→(E.pull b d og v td tb).has i x→og=some x→∀k0,σ.hp[i]? =some (some k0)→False:=by
   intro x i hi hh ho k0 hk0
   obtain⟨p1,p2⟩:=hP x ho
   have e:=hg.hw.eH b i k k0 x hb hk0 (Or.inr p1) (Env.mV hi hh)
   subst e
   rcases hh with hh|hh
   ·grind [Env.pull]
   ·exact hh.2.2 rfl ho
  refine⟨⟨?_,?_,⟨?_,?_,?_,hg.hw.slt,hg.hw.gl,?_⟩,anD.RD h4 hg.df⟩,⟨rfl,Tp.r rfl rfl,rfl,dc _,fun _ _ _=>rfl,fun _ h=>h,fun _ h=>Or.inl h,?_,fun i hi=>Env.Gs (by omega) (by omega)⟩⟩
  ·simp only[jK];exact hg.len
  ·intro i y hy u hu
   rcases jL hy with e|⟨x,e1,e2,e3⟩
   ·subst e;trivial
   ·exact RV.eI (anD.RV e3 (RV.iZ e2 (hg.tm i x e1 u hu)))
  ·intro i k3 hi
   rcases src i k3 hi with⟨e,e'⟩|⟨_,e,e'⟩|⟨e0,e1,k0,e3,e4⟩
   ·grind
   ·grind
   ·obtain⟨z1,z2,z3⟩:=Env.Gs (E:=E) (og:=og) (v:=v) (td:=td) (tb:=tb) e0 e1
    exact anD.RB (fun _ h=>h) (b:=i) (b':=i) z1 z2 z3 (fun _ x hx=>⟨e0,hx,fun e=>absurd e e1⟩) e4 (hg.hw.cX i k0 e3)
  ·intro i j k3 k4 x hi hj g1 g2
   by_cases e:i=d<;>by_cases e':j=d
   ·grind
   ·grind [Env.qt]
   ·grind [Env.qt]
   ·obtain⟨k5,f1⟩:=any i k3 hi e
    obtain⟨k6,f2⟩:=any j k4 hj e'
    exact hg.hw.eH i j k5 k6 x f1 f2 (Env.mV e g1) (Env.mV e' g2)
  ·intro i k3 x hi hx hs
   by_cases e:i=d
   ·subst e
    exact hg.hw.dL b k x hb (Or.inr (hP x (Env.qt hx)).1) hs
   ·obtain⟨k5,f1⟩:=any i k3 hi e
    exact hg.hw.dL i k5 x f1 (Env.mV e hx) hs
  ·intro i k3 x hi hx
   obtain⟨k5,f1⟩:=any i k3 hi hx.1
   exact hg.hw.sZ i k5 x f1 hx.2.1
  ·rintro x ⟨i,k3,hi,hx⟩
   by_cases e:i=d
   ·subst e
    exact Or.inl ⟨b,k,hb,Or.inr (hP x (Env.qt hx)).1⟩
   ·obtain⟨k5,f1⟩:=any i k3 hi e
    exact Or.inl ⟨i,k5,f1,Env.mV e hx⟩
 grind
def Env.take(E:Env)(b d:Nat)(tb:Ty):Env:=
 {E with bt:=fun c=>if c=b then tb else E.bt c,P:=fun c x=>E.P c x∨(c=b∧E.has d x)}
theorem Env.Co{E:Env}{b d:Nat}{tb:Ty}{c x:Nat}(h:(E.take b d tb).has c x):E.has c x∨(c=b∧E.has d x):=by
 rcases h with h|h|h
 ·exact Or.inl (Or.inl h)
 ·exact Or.inl (Or.inr h)
 grind
theorem Lf{E:Env}{w:World}{b d:Nat}{tb:Ty}:Good E (E.take b d tb) w (ir b) where
 rc:=by
  intro x y vs h hr
  unfold ir at h
  split at h
  ·rename_i hn;cases h
   exact RC.mono (E:=E.re b tb) (E':=E.take b d tb) (w:=w) ⟨fun _ _=>rfl,fun _ h=>h⟩ (fun _ _=>⟨rfl,rfl,rfl⟩) (Lb hn hr)
  grind
 agg:=(zB (E:=E) (w:=w) (b:=b) (t:=tb)).agg
 mp:=(zB (E:=E) (w:=w) (b:=b) (t:=tb)).mp
 fn:=(zB (E:=E) (w:=w) (b:=b) (t:=tb)).fn
theorem cp.take{gl:Ctx}{σ:St}{E:Env}{a:Act}{w:World}(hg:cp gl σ E a w){b d:Nat}{k k1 k2:aP}{tb:Ty}{σ1:St}(hb:σ.hp[b]? =some (some k))(h16:16≤b)(hbd:b≠d)(hd:σ.hp[d]? =some (some k2))
 (hm:St.gk (ir b) {σ with hp:=(σ.hp.set b none).set d none}=some σ1) (hk1:RB (E.take b d tb) w b k1):
 cp gl {σ1 with hp:=σ1.hp.set b (some k1)} (E.take b d tb) a w∧Ext gl.md (bK σ.hp E) E w (bK (σ1.hp.set b (some k1)) (E.take b d tb)) (E.take b d tb) w:=by
 have anD:=Lf (E:=E) (w:=w) (b:=b) (d:=d) (tb:=tb)
 unfold St.gk at hm
 split at hm
 ·rename_i hp' df' h3 h4
  cases hm
  have src:∀(i:Nat)(k3:aP),(hp'.set b (some k1))[i]? =some (some k3)→(i=b∧k1=k3)∨(i≠d∧i≠b∧∃k0,σ.hp[i]? =some (some k0)∧i5 (ir b) (some k0)=some (some k3)):=by
   intro i k3 hi
   rw[dm] at hi
   split at hi
   ·grind
   ·rename_i hne
    obtain⟨k0,e1,e2⟩:=jM h3 hi
    grind
  have own:∀(i:Nat)(k3:aP)(x:Nat),(hp'.set b (some k1))[i]? =some (some k3)→(E.take b d tb).has i x→∃j k0,σ.hp[j]? =some (some k0)∧E.has j x∧((i=b∧(j=b∨j=d))∨(i≠b∧i≠d∧j=i)):=by
   intro i k3 x hi hx
   rcases src i k3 hi with⟨e,_⟩|⟨e0,e1,k0,e3,_⟩
   ·subst e
    rcases Env.Co hx with h|⟨_,h⟩<;>grind
   ·rcases Env.Co hx with h|⟨e,_⟩<;>grind
  refine⟨⟨?_,?_,⟨?_,?_,?_,hg.hw.slt,hg.hw.gl,?_⟩,anD.RD h4 hg.df⟩,⟨rfl,Tp.r rfl rfl,rfl,dc _,fun _ _ _=>rfl,fun _ h=>h,fun _ h=>Or.inl h,?_,fun i hi=>⟨rfl,rfl,by simp[Env.take];grind⟩⟩⟩
  ·simp only[jK];exact hg.len
  ·intro i y hy u hu
   rcases jL hy with e|⟨x,e1,e2,e3⟩
   ·subst e;trivial
   ·exact RV.eI (anD.RV e3 (RV.iZ e2 (hg.tm i x e1 u hu)))
  ·intro i k3 hi
   rcases src i k3 hi with⟨e,e'⟩|⟨e0,e1,k0,e3,e4⟩
   ·grind
   ·exact anD.RB (fun _ h=>h) (b:=i) (b':=i) rfl rfl (by simp[Env.take,e1]) (fun _ x hx=>Or.inl hx) e4 (hg.hw.cX i k0 e3)
  ·intro i j k3 k4 x hi hj g1 g2
   obtain⟨i',k5,f1,f2,f3⟩:=own i k3 x hi g1
   obtain⟨j',k6,f4,f5,f6⟩:=own j k4 x hj g2
   have e:=hg.hw.eH i' j' k5 k6 x f1 f4 f2 f5
   grind
  ·intro i k3 x hi hx
   obtain⟨j,k0,f1,f2,_⟩:=own i k3 x hi hx
   exact hg.hw.dL j k0 x f1 f2
  ·intro i k3 x hi hx
   obtain⟨j,k0,f1,f2,_⟩:=own i k3 x hi (Or.inr hx)
   exact hg.hw.below f1 f2
  ·rintro x ⟨i,k3,hi,hx⟩
   obtain⟨j,k0,f1,f2,_⟩:=own i k3 x hi hx
   exact Or.inl ⟨j,k0,f1,f2⟩
 grind
end Go.Ax
namespace Go.Ax
def Lg(b i d:Nat)(σ:St):Option St:=
 match eG σ.hp b with
 |some (.dh e bs (.slice bs2 t2) xs e2 none)=>if qq b&&σ.fG d&& !Nat.beq b d then(match St.gk (lW b d) {σ with hp:=σ.hp.set b none} with
  |some σ1=>some {σ1 with hp:=(σ1.hp.set b (some (.dh e bs (.slice bs2 t2) xs e2 (some (i,.own d))))).set d (some (.row e2 bs2 t2 (List.getD xs i [])))}
  |none=>none) else none
 |_=>none
theorem dn.Lh{w:World}{S:Nat→Prop}{e:TypeId}{bs:Nat}{t:Ty}{v:Value}{og:Option Nat}{xs:List t.den}(h:dn w S e (.slice bs t) v og xs):R7 w S e bs t v og xs:=h
theorem Wk.Lg{gl:Ctx}{b i d:Nat}{σ σ':St}(h:Ax.Lg b i d σ=some σ')(hi:∀e bs t xs e2 f,eG σ.hp b=some (.dh e bs t xs e2 f)→i<xs.length):Wk gl σ σ':=by
 intro E a w hg
 unfold Ax.Lg at h
 split at h
 ·rename_i e bs bs2 t2 xs e2 hb0
  have hb:=cq σ.hp b _ hb0
  have hi:=hi _ _ _ _ _ _ hb0
  split at h
  ·rename_i hc
   simp only[bB] at hc
   obtain⟨⟨h16,hfr⟩,hbd⟩:=hc
   have hbd:b≠d:=fun e=>by simp_all
   split at h
   ·rename_i σ1 hm
    cases h
    obtain⟨h1,h2,h3,h4,h5,g,cap,c,og,q1,q2,q3,q4,q5,q6,q7,q8⟩:=hg.hw.cX b _ hb
    have hxi:xs[i]? =some (List.getD xs i []):=by grind
    obtain⟨u,r1,_,r3⟩:=q8 i _ hxi
    obtain⟨s1,s2,s3,av,cv,s4,s5,s6⟩:=(r3 (fun v hv=>by cases hv)).Lh
    refine⟨_,hg.pull (og:=og i) (v:=u) (td:=.arr (List.length (List.getD xs i [])) t2) (tb:=mA i xs.length (.slice bs2 t2)) hb (fI h16) hbd (St.ee hfr) ?_ hm ?_ ?_⟩
    ·intro x hx
     exact⟨(q7.own i x hx).1,fun e=>by rw[q3] at e;cases e;exact(q7.own i _ hx).2 rfl⟩
    ·refine⟨by simp[Env.pull,hbd,uG],h2,h3,h4,fun i' v' hv'=>by cases hv';trivial,g,cap,c,fun j=>if j=i then none else og j,by simp[Env.pull,hbd];exact q1,q2,by simp[Env.pull,hbd];exact q3,q4,q5,q6,⟨?_,?_⟩,?_⟩
     ·intro j x hx
      have hx:(if j=i then none else og j)=some x:=hx
      split at hx
      ·cases hx
      ·rename_i hne
       obtain⟨k1,k2⟩:=q7.own j x hx
       exact⟨⟨hbd,k1,fun _ ho=>hne (q7.inj j i x hx ho)⟩,k2⟩
     ·intro j j' x hx hx'
      have hx:(if j=i then none else og j)=some x:=hx
      have hx':(if j'=i then none else og j')=some x:=hx'
      split at hx
      ·cases hx
      ·split at hx'
       ·cases hx'
       ·exact q7.inj j j' x hx hx'
     ·intro j x hx
      obtain⟨z,p1,p2,p3⟩:=q8 j x hx
      refine⟨z,p1,fun v' hv'=>?_,fun hv'=>?_⟩
      ·cases hv'
       rw[r1] at p1;cases p1
       refine⟨aA rfl,by show[u]= [(if d=d then u else E.sv d)];grind,av,List.length (List.getD xs i []),cv,?_⟩
       show(if d=d then u else E.sv d)=_
       grind
      ·have hne:j≠i:=fun e=>by grind
       simp only[hne,cT]
       exact dn.mono (fun _ _=>rfl) (fun _ h=>h) (fun _ _=>rfl) (p3 (fun v hv=>by cases hv))
    ·refine⟨by simp[Env.pull],s1,s2,s3,av,cv,by simp[Env.pull];exact s4,s5,?_⟩
     grind [Env.pull]
   grind
  grind
 grind
def qd(b:Nat)(σ:St):Option St:=
 match eG σ.hp b with
 |
  some (.dh e bs (.slice bs2 t2) xs e2 (some (i,.own d)))=>match eG σ.hp d with
  |some (.row e3 bs3 t3 ys)=>if hc:Ty.same t3 t2=true then(if Nat.beq e3 e2&&Nat.beq bs3 bs2&&qq b&& !Nat.beq b d then(match St.gk (ir b) {σ with hp:=(σ.hp.set b none).set d none} with
   |some σ1=>some {σ1 with hp:=σ1.hp.set b (some (.dh e bs (.slice bs2 t2) (List.set xs i (Ty.aB hc▸ys)) e2 none))}
   |none=>none) else none) else none
  |_=>none
 |_=>none
theorem Wk.qd{gl:Ctx}{b:Nat}{σ σ':St}(h:Ax.qd b σ=some σ'):Wk gl σ σ':=by
 intro E a w hg
 unfold Ax.qd at h
 split at h
 ·rename_i e bs bs2 t2 xs e2 i d hb0
  have hb:=cq σ.hp b _ hb0
  split at h
  ·rename_i e3 bs3 t3 ys hd0
   have hd:=cq σ.hp d _ hd0
   split at h
   ·rename_i hc
    have et:=Ty.aB hc
    subst et
    split at h
    ·rename_i hc2
     simp only[bB] at hc2
     obtain⟨⟨⟨c1,c2⟩,h16⟩,hbd⟩:=hc2
     have e1:=bT c1;have e2':=bT c2
     subst e1;subst e2'
     have hbd:b≠d:=fun e=>by grind
     split at h
     ·rename_i σ1 hm
      cases h
      obtain⟨h1,h2,h3,h4,h5,g,cap,c,og,q1,q2,q3,q4,q5,q6,q7,q8⟩:=hg.hw.cX b _ hb
      obtain⟨s0,s1,s2,s3,av,cv,s4,s5,s6⟩:=hg.hw.cX d _ hd
      obtain⟨hi,_⟩:=h5 i _ rfl
      refine⟨_,hg.take (tb:=.arr xs.length (.slice bs3 t3)) hb (fI h16) hbd hd hm ?_⟩
      refine⟨by simp[Env.take,uG],h2,by grind,by grind,fun i' v' hv'=>(by cases hv'),g,cap,c,fun j=>if j=i then E.g d else og j,by rw[cj];exact q1,q2,q3,q4,q5,by grind,⟨?_,?_⟩,?_⟩
      ·intro j x hx
       have hx:(if j=i then E.g d else og j)=some x:=hx
       split at hx
       ·refine⟨Or.inr ⟨rfl,Or.inl hx⟩,fun e=>?_⟩
        subst e
        exact hbd (hg.hw.sep b d _ _ x hb hd q3 hx)
       ·exact⟨Or.inl (q7.own j x hx).1,(q7.own j x hx).2⟩
      ·intro j j' x hx hx'
       have hx:(if j=i then E.g d else og j)=some x:=hx
       have hx':(if j'=i then E.g d else og j')=some x:=hx'
       split at hx<;>split at hx'
       ·grind
       ·exact absurd (hg.hw.eH b d _ _ x hb hd (Or.inr (q7.own j' x hx').1) (Or.inl hx)) hbd
       ·exact absurd (hg.hw.eH b d _ _ x hb hd (Or.inr (q7.own j x hx).1) (Or.inl hx')) hbd
       ·exact q7.inj j j' x hx hx'
      ·intro j x hx
       rw[dm] at hx
       by_cases e:i=j
       ·subst e
        rw[aA rfl,aA hi] at hx
        cases hx
        obtain⟨z,p1,p2,p3⟩:=q8 i (xs.getD i []) (by grind)
        obtain⟨_,p2,_⟩:=p2 _ rfl
        have ez:z=E.sv d:=by grind
        refine⟨z,p1,fun v hv=>(by cases hv),fun _=>?_⟩
        simp only[bU]
        refine⟨s1,s2,s3,av,cv,by grind,s5,?_⟩
        trivial
       ·rw[aC e] at hx
        obtain⟨z,p1,p2,p3⟩:=q8 j x hx
        refine⟨z,p1,fun v hv=>(by cases hv),fun _=>?_⟩
        have e':j≠i:=fun e'=>e e'.symm
        simp only[e',cT]
        exact p3 (fun v hv=>by grind)
     grind
    grind
   grind
  grind
 grind
end Go.Ax
namespace Go.Ax
def Env.vV(E:Env)(b:Nat)(R:Nat→Prop):Env:=
 {E with S:=fun g=>E.S g∨R g,P:=fun c x=>c≠b∧E.P c x}
theorem Env.mW{E:Env}{b:Nat}{R:Nat→Prop}{c x:Nat}(h:(E.vV b R).has c x):E.has c x:=h.imp id (fun k=>k.2)
theorem cp.vV{gl:Ctx}{σ:St}{E:Env}{a:Act}{w:World}(hg:cp gl σ E a w){b:Nat}{k k':aP}{R:Nat→Prop}(hb:σ.hp[b]? =some (some k))(hR:∀x,R x→E.P b x∧E.g b≠some x)(hk:RB (E.vV b R) w b k'):
 cp gl {σ with hp:=σ.hp.set b (some k')} (E.vV b R) a w∧Ext gl.md (bK σ.hp E) E w (bK (σ.hp.set b (some k')) (E.vV b R)) (E.vV b R) w:=by
 have kp:bS E w (E.vV b R) w:=⟨fun _ _=>rfl,fun _ h=>Or.inl h⟩
 have src:∀(i:Nat)(k3:aP),(σ.hp.set b (some k'))[i]? =some (some k3)→(i=b∧k'=k3)∨(i≠b∧σ.hp[i]? =some (some k3)):=by
  grind
 have any:∀(i:Nat)(k3:aP),(σ.hp.set b (some k'))[i]? =some (some k3)→∃k0,σ.hp[i]? =some (some k0):=by
  grind
 refine⟨hg.carry kp (fun _ _=>⟨rfl,rfl,rfl⟩) ⟨?_,?_,?_,?_,hg.hw.gZ kp,?_⟩,⟨rfl,Tp.r rfl rfl,rfl,dc _,fun _ _ _=>rfl,fun _ h=>Or.inl h,?_,?_,fun _ _=>⟨rfl,rfl,rfl⟩⟩⟩
 ·intro i k3 hi
  rcases src i k3 hi with⟨e,e'⟩|⟨e,e'⟩
  ·grind
  ·exact RB.mono kp (fun _ _=>⟨rfl,rfl,rfl⟩) (fun _ _=>rfl) (fun _ x hx=>⟨e,hx⟩) (hg.hw.cX i k3 e')
 ·intro i j k3 k4 x hi hj g1 g2
  obtain⟨k5,f1⟩:=any i k3 hi
  obtain⟨k6,f2⟩:=any j k4 hj
  exact hg.hw.eH i j k5 k6 x f1 f2 (Env.mW g1) (Env.mW g2)
 ·intro i k3 x hi hx hs
  obtain⟨k5,f1⟩:=any i k3 hi
  rcases hs with hs|hs
  ·exact hg.hw.dL i k5 x f1 (Env.mW hx) hs
  ·obtain⟨r1,r2⟩:=hR x hs
   have e:=hg.hw.eH b i k k5 x hb f1 (Or.inr r1) (Env.mW hx)
   subst e
   rcases hx with hx|hx
   ·trivial
   ·exact hx.1 rfl
 ·rintro x (hs|hs)
  ·exact hg.hw.slt x hs
  ·exact hg.hw.sZ b k x hb (hR x hs).1
 ·intro i k3 x hi hx
  obtain⟨k5,f1⟩:=any i k3 hi
  exact hg.hw.sZ i k5 x f1 hx.2
 ·rintro x (hs|hs)
  ·grind
  ·exact Or.inr (Or.inl ⟨b,k,hb,Or.inr (hR x hs).1⟩)
 ·rintro x ⟨i,k3,hi,hx⟩
  obtain⟨k5,f1⟩:=any i k3 hi
  exact Or.inl ⟨i,k5,f1,Env.mW hx⟩
theorem dn.rel{w:World}{S S':Nat→Prop}{e:TypeId}(hS:∀b,S b→S' b){t:Ty}{v:Value}{og:Option Nat}{x:t.den}(hg:∀g,og=some g→S' g)(h:dn w S e t v og x):Rel w S' t [v] x:=by
 cases t with
 |
  slice bs t=>
  obtain⟨h1,h2,h3,a,cap,h4,h5,h6⟩:=h
  subst h4
  rcases h6 with⟨⟨k1,k2⟩,k3,k4⟩|⟨g,c,k1,k2,k3,k4,k5,k6⟩
  ·subst k4;exact⟨a,cap,rfl,gL _,h1,h2,Or.inl rfl⟩
  ·refine⟨a,cap,rfl,k5,h1,h2,Or.inr ⟨g,0,_,k2,hg g k1,?_,aY.mono (fun _ _=>Rel.mono (fun _ _=>rfl) hS) k6⟩⟩
   have:=px.of_heap k3 0 (List.length x*t.size)
   grind
 |
  map k u=>
  obtain⟨es,h0,h1,h2,g,en,clock,h3,h4,h5,h6,h7,h8⟩:=h
  subst h0;subst h4
  exact⟨some g,rfl,Or.inr ⟨es,g,en,clock,rfl,rfl,hg g h3,h5,jR.mono (fun _ _=>ik.mono (fun _ _=>Rel.mono (fun _ _=>rfl) hS)) (fun _ _=>ik.mono (fun _ _=>Rel.mono (fun _ _=>rfl) hS)) h6,h1,h2,h7,h8⟩⟩
 |_=>trivial
def IV(b:Nat)(σ:St):Option St:=
 match eG σ.hp b with
 |some (.dh e bs t xs _ none)=>some {σ with hp:=σ.hp.set b (some (.row e bs t xs))}
 |some (.pmap k t es _ none)=>if t.isAgg then none else some {σ with hp:=σ.hp.set b (some (.map k t es))}
 |_=>none
theorem aY.at{α:Type}{r:List Value→α→Prop}:∀{xs:List α}{cs:List Value},cs.length=xs.length→(∀(i:Nat)(x:α),xs[i]? =some x→∃u,cs[i]? =some u∧r [u] x)→aY r cs xs
 |[],cs,hl,_=>List.eq_nil_of_length_eq_zero hl
 |x::xs,[],hl,_=>by simp at hl
 |
  x::xs,c::cs,hl,h=>by
  obtain⟨u,h1,h2⟩:=h 0 x rfl
  simp at h1;subst h1
  exact⟨[c],cs,rfl,h2,aY.at (by simpa using hl) (fun i y hy=>by simpa using h (i+1) y (by simpa using hy))⟩
theorem RM.at{E:Env}{w:World}{k v:Ty}:∀{es:List (k.den×v.den)}{en:List MapEntry},en.length=es.length→(∀(i:Nat) x,es[i]? =some x→∃m,en[i]? =some m∧cE E w (.val k x.1) m.key∧cE E w (.val v x.2) m.val)→RM E w k v en es
 |[],[],_,_=>trivial
 |[],_::_,hl,_=>by simp at hl
 |_::_,[],hl,_=>by simp at hl
 |
  x::es,m::en,hl,h=>by
  obtain⟨u,h1,h2,h3⟩:=h 0 x rfl
  simp at h1;subst h1
  exact⟨h2,h3,RM.at (by simpa using hl) (fun i y hy=>by simpa using h (i+1) y (by simpa using hy))⟩
theorem Wk.IV{gl:Ctx}{b:Nat}{σ σ':St}(h:Ax.IV b σ=some σ'):Wk gl σ σ':=by
 intro E a w hg
 unfold Ax.IV at h
 split at h
 ·rename_i e bs t xs e2 hb0
  have hb:=cq σ.hp b _ hb0
  cases h
  obtain⟨h1,h2,h3,h4,h5,g,cap,c,og,q1,q2,q3,q4,q5,q6,q7,q8⟩:=hg.hw.cX b _ hb
  obtain⟨r1,r2⟩:=hg.vV (k':=.row e bs t xs) (R:=fun x=>∃i,og i=some x) hb (fun x ⟨i,hi⟩=>⟨(q7.own i x hi).1,fun e=>by rw[q3] at e;cases e;exact(q7.own i _ hi).2 rfl⟩) (by
   refine⟨h1,h3,h4,by omega,some ⟨g,0,none⟩,cap,q1,q2,Or.inr ⟨g,c,q3,rfl,q4,by grind,q6,?_⟩⟩
   rw[h2,Nat.mul_one]
   refine aY.at (by grind) (fun i x hx=>?_)
   have hi:=(List.getElem?_eq_some_iff.1 hx).1
   obtain⟨u,p1,_,p3⟩:=q8 i x hx
   refine⟨u,by grind,?_⟩
   exact dn.rel (fun b hb=>Or.inl hb) (fun x hx=>Or.inr ⟨i,hx⟩) (p3 (fun v hv=>by cases hv)))
  grind
 ·rename_i k t es e2 hb0
  have hb:=cq σ.hp b _ hb0
  split at h
  ·cases h
  ·rename_i am9
   cases h
   obtain⟨h1,h2,h3,g,en,clock,og,q1,q2,q3,q4,q5,q6,q7,q8⟩:=hg.hw.cX b _ hb
   have kp:bS E w (E.vV b fun x=>∃i,og i=some x) w:=⟨fun _ _=>rfl,fun _ h=>Or.inl h⟩
   obtain⟨r1,r2⟩:=hg.vV (k':=.map k t es) (R:=fun x=>∃i,og i=some x) hb (fun x ⟨i,hi⟩=>⟨(q5.own i x hi).1,fun e=>by rw[q1] at e;cases e;exact(q5.own i _ hi).2 rfl⟩) (by
    refine⟨h1,h2,g,en,clock,q1,q2,RM.at (by grind) (fun i x hx=>?_),q3,q4⟩
    obtain⟨m,p1,p2,_,p4⟩:=q7 i x hx
    refine⟨m,by grind,cE.mono kp (fun _ hb=>by cases hb) p2,Or.inr ⟨by simpa[AV.isAgg] using am9,?_⟩⟩
    exact dn.rel (fun b hb=>Or.inl hb) (fun x hx=>Or.inr ⟨i,hx⟩) (p4 (fun v pr hv=>by cases hv)))
   grind
 grind
def Kc(b:Nat)(e2:TypeId)(σ:St):Option St:=
 match eG σ.hp b with
 |some (.map k t [])=>some {σ with hp:=σ.hp.set b (some (.pmap k t [] e2 none))}
 |_=>none
theorem Wk.Kc{gl:Ctx}{b:Nat}{e2:TypeId}{σ σ':St}(h:Ax.Kc b e2 σ=some σ'):Wk gl σ σ':=by
 intro E a w hg
 unfold Ax.Kc at h
 split at h
 ·rename_i k t hb0
  have hb:=cq σ.hp b _ hb0
  cases h
  obtain⟨h1,h2,g,en,clock,q1,q2,q3,q4,q5⟩:=hg.hw.cX b _ hb
  obtain⟨r1,r2⟩:=hg.vV (k':=.pmap k t [] e2 none) (R:=fun _=>False) hb (fun x hx=>hx.elim) (by
   have hn:en.toList= []:=by
    cases he:en.toList with
    |nil=>rfl
    |cons _ _=>rw[he] at q3;trivial
   have hs:en.size=0:=by simp_all
   exact⟨h1,h2,fun kx v pr hv=>(by cases hv),g,en,clock,fun _=>none,q1,q2,q4,q5,⟨fun i u hu=>(by cases hu),fun i j u hu=>(by cases hu)⟩,hs,fun i x hx=>by grind,fun kx v=>⟨fun hf=>(by cases hf),fun hf=>(by cases hf)⟩⟩)
  grind
 grind
end Go.Ax
namespace Go.Ax
theorem qv{kt vt:Ty}(hk:kt.keyed=true){k:kt.den}:∀{es:List (kt.den×vt.den)},cC kt k es=true→∃i:Nat,es[i]? =some (k,aQ kt vt k es)
 |[],h=>by trivial
 |
  x::es,h=>by
  simp only[cC,fQ] at h
  cases hb:bD kt k x.1 with
  |true=>exact⟨0,by simp_all[aQ,cn]⟩
  |
   false=>
   rw[hb] at h
   obtain⟨i,hi⟩:=qv hk (h.resolve_left (by simp))
   exact⟨i+1,by grind [aQ]⟩
theorem zC{kt vt:Ty}{k:kt.den}:∀{es:List (kt.den×vt.den)},cC kt k es=false→aQ kt vt k es=vt.aD
 |[],_=>rfl
 |
  x::es,h=>by
  simp only[cC,Bool.or_eq_false_iff] at h
  simp only[aQ,h.1,dr,cT]
  exact zC h.2
theorem yo{E:Env}{w:World}{b d:Nat}{kt t:Ty}{es:List (kt.den×t.den)}{e2:TypeId}(hrb:RB E w b (.pmap kt t es e2 none))(hbd:b≠d){kx:kt.den}{y:t.den}{i:Nat}(hi:es[i]? =some (kx,y)):
 ∃u og,dn w E.S e2 t u og y∧(∀x,og=some x→E.P b x∧E.g b≠some x)∧
  ∀v pr td tb,v.cK t=true→RC (E.pull b d og u td tb) w v [u]→RB (E.pull b d og u td tb) w b (.pmap kt t es e2 (some (kx,v,pr))):=by
 obtain⟨z1,z2,z3,g,en,clock,og,y1,y2,y3,y4,y5,y6,y7,y8⟩:=hrb
 obtain⟨m,t1,t2,_,t4⟩:=y7 i _ hi
 refine⟨m.val,og i,t4 (fun v pr hv=>by cases hv),fun x hx=>⟨(y5.own i x hx).1,fun e=>by rw[y1] at e;cases e;exact(y5.own i _ hx).2 rfl⟩,?_⟩
 intro v pr td tb hc hr
 have kp:bS E w (E.pull b d (og i) m.val td tb) w:=⟨fun _ _=>rfl,fun _ h=>h⟩
 refine⟨z1,z2,fun kx' v' pr' hv'=>by grind,g,en,clock,fun j=>if j=i then none else og j,by simp[Env.pull,hbd];exact y1,y2,y3,y4,⟨?_,?_⟩,y6,?_,?_⟩
 ·intro j x hx
  have hx:(if j=i then none else og j)=some x:=hx
  split at hx
  ·cases hx
  ·rename_i hne
   obtain⟨k1,k2⟩:=y5.own j x hx
   exact⟨⟨hbd,k1,fun _ ho=>hne (y5.inj j i x hx ho)⟩,k2⟩
 ·intro j j' x hx hx'
  have hx:(if j=i then none else og j)=some x:=hx
  have hx':(if j'=i then none else og j')=some x:=hx'
  split at hx
  ·cases hx
  ·split at hx'
   ·cases hx'
   ·exact y5.inj j j' x hx hx'
 ·intro j x hx
  obtain⟨m2,p1,p2,_,p4⟩:=y7 j x hx
  refine⟨m2,p1,cE.mono kp (fun _ hb=>by cases hb) p2,fun v' pr' hv'=>?_,fun hv'=>?_⟩
  ·obtain⟨xk,xv⟩:=x
   simp only[dk,gU] at hv'
   obtain⟨e1,e2,e3⟩:=hv'
   subst e1;subst e2
   have e:=rK z1 hi hx
   grind
  ·have hne:j≠i:=fun e=>by
    grind
   simp only[hne,cT]
   exact dn.mono (fun _ _=>rfl) (fun _ h=>h) (fun _ _=>rfl) (p4 (fun v pr hv=>by cases hv))
 grind
theorem Ee{E:Env}{w:World}{b d:Nat}{kt t:Ty}{es:List (kt.den×t.den)}{e2:TypeId}(hrb:RB E w b (.pmap kt t es e2 none))(hbd:b≠d){kx:kt.den}(hn:kx∉es.map (·.1)){v:AV}{u:Value}{td tb:Ty}(hc:v.cK t=true)(hr:RC (E.pull b d none u td tb) w v [zeroV t]):
 RB (E.pull b d none u td tb) w b (.pmap kt t es e2 (some (kx,v,false))):=by
 obtain⟨z1,z2,z3,g,en,clock,og,y1,y2,y3,y4,y5,y6,y7,y8⟩:=hrb
 have kp:bS E w (E.pull b d none u td tb) w:=⟨fun _ _=>rfl,fun _ h=>h⟩
 refine⟨z1,z2,fun kx' v' pr' hv'=>by grind,g,en,clock,og,by simp[Env.pull,hbd];exact y1,y2,y3,y4,y5.mono (fun x hx=>⟨hbd,hx,fun _=>by simp⟩),y6,?_,?_⟩
 ·intro j x hx
  obtain⟨m2,p1,p2,_,p4⟩:=y7 j x hx
  refine⟨m2,p1,cE.mono kp (fun _ hb=>by cases hb) p2,fun v' pr' hv'=>?_,fun hv'=>dn.mono (fun _ _=>rfl) (fun _ h=>h) (fun _ _=>rfl) (p4 (fun v pr hv=>by cases hv))⟩<;>grind
 grind
theorem yp{E:Env}{w:World}{b d:Nat}{kt t tb:Ty}(hk:kt.keyed=true){es:List (kt.den×t.den)}{e2:TypeId}{kx:kt.den}{v:AV}(hrb:RB E w b (.pmap kt t es e2 (some (kx,v,true)))){y:t.den}(anq:∀u,RC E w v [u]→dn w E.S e2 t u (E.g d) y)
 (hsep:∀x,E.has b x→¬E.has d x):RB (E.take b d tb) w b (.pmap kt t (bC kt kx y es) e2 none):=by
 obtain⟨z1,z2,z3,g,en,clock,og,y1,y2,y3,y4,y5,y6,y7,y8⟩:=hrb
 have hin:=(y8 kx v).2 rfl
 obtain⟨⟨kx',y0⟩,hm,e⟩:=List.mem_map.1 hin
 have e:kx'=kx:=e
 subst e
 obtain⟨i,hi⟩:=List.mem_iff_getElem?.1 hm
 have hlt:i<es.length:=(List.getElem?_eq_some_iff.1 hi).1
 have hes:=ql hk (y:=y) z1 hi
 have kp:bS E w (E.take b d tb) w:=⟨fun _ _=>rfl,fun _ h=>h⟩
 refine⟨dw hk z1,by grind,fun kx' v' pr' hv'=>(by cases hv'),g,en,clock,fun j=>if j=i then E.g d else og j,y1,y2,y3,y4,⟨?_,?_⟩,by grind,?_,fun kx' v'=>⟨fun hf=>(by cases hf),fun hf=>(by cases hf)⟩⟩
 ·intro j x hx
  have hx:(if j=i then E.g d else og j)=some x:=hx
  split at hx
  ·exact⟨Or.inr ⟨rfl,Or.inl hx⟩,fun e=>by subst e;exact hsep x (Or.inl y1) (Or.inl hx)⟩
  ·exact⟨Or.inl (y5.own j x hx).1,(y5.own j x hx).2⟩
 ·intro j j' x hx hx'
  have hx:(if j=i then E.g d else og j)=some x:=hx
  have hx':(if j'=i then E.g d else og j')=some x:=hx'
  split at hx<;>split at hx'
  ·grind
  ·exact absurd (Or.inl hx) (hsep x (Or.inr (y5.own j' x hx').1))
  ·exact absurd (Or.inl hx') (hsep x (Or.inr (y5.own j x hx).1))
  ·exact y5.inj j j' x hx hx'
 ·rw[hes]
  intro j x hx
  rw[dm] at hx
  by_cases hne:i=j
  ·subst hne
   rw[aA rfl,aA hlt] at hx
   cases hx
   obtain⟨m,p1,p2,p3,_⟩:=y7 i _ hi
   refine⟨m,p1,cE.mono kp (fun _ hb=>by cases hb) p2,fun v' pr' hv'=>(by cases hv'),fun _=>?_⟩
   simp only[bU]
   exact anq _ (p3 v true rfl).2
  ·rw[aC hne] at hx
   obtain⟨m,p1,p2,p3,p4⟩:=y7 j x hx
   have hxk:x.1≠kx':=fun e=>by
    grind [rK]
   have hne':j≠i:=fun e=>hne e.symm
   refine⟨m,p1,cE.mono kp (fun _ hb=>by cases hb) p2,fun v' pr' hv'=>(by cases hv'),fun _=>?_⟩
   simp only[hne',cT]
   exact p4 (fun v' pr' hv'=>by grind)
end Go.Ax
namespace Go.Ax
def Li(mode b d:Nat)(kt:Ty)(kx:kt.den)(σ:St):Option (List VC×St):=
 match mode,eG σ.hp b with
 |0,some (.pmap k u es e2 none)=>if h:Ty.same k kt=true then(if k.keyed&&qq b&&u.xf&&AV.cK .eA u then some ([vc (cC k (Ty.aB h▸kx:k.den) es=false)],{σ with hp:=σ.hp.set b (some (.pmap k u es e2 (some ((Ty.aB h▸kx:k.den),.eA,false))))}) else none) else none
 |1,some (.pmap k (.map k2 v2) es e2 none)=>if h:Ty.same k kt=true then(if k.keyed&&qq b&&σ.fG d&& !Nat.beq b d then(match St.gk (lW b d) {σ with hp:=σ.hp.set b none} with
  |some σ1=>some ([vc (cC k (Ty.aB h▸kx:k.den) es=true)],{σ1 with hp:=(σ1.hp.set b (some (.pmap k (.map k2 v2) es e2 (some ((Ty.aB h▸kx:k.den),.mp d,true))))).set d (some (.map k2 v2 (bE (aQ k (.map k2 v2) (Ty.aB h▸kx:k.den) es))))})
  |none=>none) else none) else none
 |2,some (.pmap k (.slice bs t2) es e2 none)=>if h:Ty.same k kt=true then(if k.keyed&&qq b&&σ.fG d&& !Nat.beq b d&&Nat.blt 0 t2.size then(match St.gk (lW b d) {σ with hp:=σ.hp.set b none} with
  |some σ1=>some ([],{σ1 with hp:=(σ1.hp.set b (some (.pmap k (.slice bs t2) es e2 (some ((Ty.aB h▸kx:k.den),.own d,false))))).set d (some (.row e2 bs t2 (aQ k (.slice bs t2) (Ty.aB h▸kx:k.den) es)))})
  |none=>none) else none) else none
 |_,_=>none
theorem RB.TT{E:Env}{w:World}{d:Nat}{e:TypeId}{bs:Nat}{t:Ty}(hp:0<t.size)(h1:E.bt d= .arr 0 t)(h2:E.sv d= .slice none 0 0)(h3:E.g d=none):RB E w d (.row e bs t []):=
 ⟨h1,by simp,by simp,hp,none,0,h2,gL _,Or.inl ⟨⟨rfl,rfl⟩,h3,rfl⟩⟩
theorem Wk.Li{gl:Ctx}{mode b d:Nat}{kt:Ty}{kx:kt.den}{σ σ':St}{vcs:List VC}(h:Ax.Li mode b d kt kx σ=some (vcs,σ'))(hvc:dQ vcs):Wk gl σ σ':=by
 intro E a w hg
 unfold Ax.Li at h
 split at h
 ·rename_i k u es e2 hb0
  have hb:=cq σ.hp b _ hb0
  split at h
  ·rename_i hs
   have et:=Ty.aB hs
   subst et
   split at h
   ·rename_i hc
    cases h
    simp only[bB] at hc
    obtain⟨⟨⟨hk,h16⟩,hm⟩,hcf⟩:=hc
    have hn:cC k kx es=false:=hvc.1
    have hn':kx∉es.map (·.1):=fun hm=>by rw[(fU hk).2 hm] at hn;cases hn
    obtain⟨z1,z2,z3,g,en,clock,og,y1,y2,y3,y4,y5,y6,y7,y8⟩:=hg.hw.cX b _ hb
    have hw:=hg.hw.write (w':=w) (k':=.pmap k u es e2 (some (kx,.eA,false))) hb rfl (fun _ _=>rfl) (by
     refine⟨z1,z2,fun kx' v' pr' hv'=>by grind,g,en,clock,og,y1,y2,y3,y4,y5,y6,?_,?_⟩
     ·grind
     ·intro kx' v'
      refine⟨fun hf _=>?_,fun hf=>?_⟩<;>cases hf
      rw[yg hm];rfl)
    exact⟨E,hg.carry ⟨fun _ _=>rfl,fun _ h=>h⟩ (fun _ _=>⟨rfl,rfl,rfl⟩) hw,{Ext.refl (md:=gl.md) (bK σ.hp E) E w with own:=fun g hg'=>Or.inl (bK.set hb hg')}⟩
   grind
  grind
 ·rename_i k k2 v2 es e2 hb0
  have hb:=cq σ.hp b _ hb0
  split at h
  ·rename_i hs
   have et:=Ty.aB hs
   subst et
   split at h
   ·rename_i hc
    simp only[bB] at hc
    obtain⟨⟨⟨hk,h16⟩,hfr⟩,hbd⟩:=hc
    have hbd:b≠d:=fun e=>by simp_all
    split at h
    ·rename_i σ1 hm
     cases h
     have hn:cC k kx es=true:=hvc.1
     obtain⟨i,hi⟩:=qv (vt:=.map k2 v2) hk hn
     obtain⟨u,og,s1,s2,s3⟩:=yo (hg.hw.cX b _ hb) hbd hi
     obtain⟨es',e0,m1,m2,g,en,clock,m3,m4,m5,m6,m7,m8⟩:=s1
     have ge:(E.pull b d og u .unit .unit).g d=some g:=by simp[Env.pull];exact m3
     refine⟨_,hg.pull (og:=og) (v:=u) (td:=.unit) (tb:=.unit) hb (fI h16) hbd (St.ee hfr) s2 hm (s3 (.mp d) true .unit .unit rfl ⟨g,ge,by rw[m4]⟩) ?_⟩
     rw[e0]
     exact⟨m1,m2,g,en,clock,ge,m5,RM.of (E:=E.pull b d og u .unit .unit) m6,m7,m8⟩
    grind
   grind
  grind
 ·rename_i k bs t2 es e2 hb0
  have hb:=cq σ.hp b _ hb0
  split at h
  ·rename_i hs
   have et:=Ty.aB hs
   subst et
   split at h
   ·rename_i hc
    simp only[bB] at hc
    obtain⟨⟨⟨⟨hk,h16⟩,hfr⟩,hbd⟩,hpos⟩:=hc
    have hbd:b≠d:=fun e=>by simp_all
    have hpos:0<t2.size:=by simp_all
    split at h
    ·rename_i σ1 hm
     cases h
     cases hn:cC k kx es with
     |
      true=>
      obtain⟨i,hi⟩:=qv (vt:=.slice bs t2) hk hn
      obtain⟨u,og,s1,s2,s3⟩:=yo (hg.hw.cX b _ hb) hbd hi
      obtain⟨q1,q2,q3,av,cv,q4,q5,q6⟩:=s1.Lh
      refine⟨_,hg.pull (og:=og) (v:=u) (td:=.arr (List.length (aQ k (.slice bs t2) kx es)) t2) (tb:=.unit) hb (fI h16) hbd (St.ee hfr) s2 hm (s3 (.own d) false _ .unit rfl ⟨by simp[Env.pull],av,List.length (aQ k (.slice bs t2) kx es),cv,by simp[Env.pull];exact q4⟩) ?_⟩
      refine⟨by simp[Env.pull],q1,q2,q3,av,cv,by simp[Env.pull];exact q4,q5,?_⟩
      grind [Env.pull]
     |
      false=>
      have hn':kx∉es.map (·.1):=fun hm=>by rw[(fU hk).2 hm] at hn;cases hn
      have e0:aQ k (.slice bs t2) kx es= []:=zC hn
      rw[e0]
      refine⟨_,hg.pull (og:=none) (v:=.slice none 0 0) (td:=.arr 0 t2) (tb:=.unit) hb (fI h16) hbd (St.ee hfr) (fun x hx=>by cases hx) hm (Ee (hg.hw.cX b _ hb) hbd hn' rfl ⟨by simp[Env.pull,zeroV],none,0,0,by simp[Env.pull]⟩) ?_⟩
      grind [RB.TT,Env.pull]
    grind
   grind
  grind
 grind
def lT(b:Nat)(σ:St):Option St:=
 match eG σ.hp b with
 |
  some (.pmap k (.slice bs2 t2) es e2 (some (kx,.own d,true)))=>match eG σ.hp d with
  |some (.row e3 bs3 t3 ys)=>if hc:Ty.same t3 t2=true then(if k.keyed&&Nat.beq e3 e2&&Nat.beq bs3 bs2&&qq b&& !Nat.beq b d then(match St.gk (ir b) {σ with hp:=(σ.hp.set b none).set d none} with
   |some σ1=>some {σ1 with hp:=σ1.hp.set b (some (.pmap k (.slice bs2 t2) (bC k kx (Ty.aB hc▸ys:List t2.den) es) e2 none))}
   |none=>none) else none) else none
  |_=>none
 |
  some (.pmap k (.map k2 v2) es e2 (some (kx,.mp d,true)))=>match eG σ.hp d with
  |some (.map k3 v3 ys)=>if hc:Ty.same k3 k2=true∧Ty.same v3 v2=true then(if k.keyed&&qq b&& !Nat.beq b d then(match St.gk (ir b) {σ with hp:=(σ.hp.set b none).set d none} with
   |some σ1=>some {σ1 with hp:=σ1.hp.set b (some (.pmap k (.map k2 v2) (bC k kx (some (Ty.aB hc.1▸Ty.aB hc.2▸ys:List (k2.den×v2.den))) es) e2 none))}
   |none=>none) else none) else none
  |_=>none
 |_=>none
theorem Wk.lT{gl:Ctx}{b:Nat}{σ σ':St}(h:Ax.lT b σ=some σ'):Wk gl σ σ':=by
 intro E a w hg
 unfold Ax.lT at h
 split at h
 ·rename_i k bs2 t2 es e2 kx d hb0
  have hb:=cq σ.hp b _ hb0
  split at h
  ·rename_i e3 bs3 t3 ys hd0
   have hd:=cq σ.hp d _ hd0
   split at h
   ·rename_i hc
    have et:=Ty.aB hc
    subst et
    split at h
    ·rename_i hc2
     simp only[bB] at hc2
     obtain⟨⟨⟨⟨hk,c1⟩,c2⟩,h16⟩,hbd⟩:=hc2
     have e1:=bT c1;have e2':=bT c2
     subst e1;subst e2'
     have hbd:b≠d:=fun e=>by grind
     split at h
     ·rename_i σ1 hm
      cases h
      refine⟨_,hg.take (tb:=.unit) hb (fI h16) hbd hd hm (yp hk (hg.hw.cX b _ hb) ?_ (fun x h1 h2=>hbd (hg.hw.eH b d _ _ x hb hd h1 h2)))⟩
      intro u hu
      obtain⟨s0,s1,s2,s3,av,cv,s4,s5,s6⟩:=hg.hw.cX d _ hd
      obtain⟨hu,_⟩:=hu
      have eu:u=E.sv d:=by grind
      refine⟨s1,s2,s3,av,cv,by rw[eu];exact s4,s5,?_⟩<;>grind
     grind
    grind
   grind
  grind
 ·rename_i k k2 v2 es e2 kx d hb0
  have hb:=cq σ.hp b _ hb0
  split at h
  ·rename_i k3 v3 ys hd0
   have hd:=cq σ.hp d _ hd0
   split at h
   ·rename_i hc
    obtain⟨hc1,hc2⟩:=hc
    have et:=Ty.aB hc1
    subst et
    have et2:=Ty.aB hc2
    subst et2
    split at h
    ·rename_i hc2
     simp only[bB] at hc2
     obtain⟨⟨hk,h16⟩,hbd⟩:=hc2
     have hbd:b≠d:=fun e=>by grind
     split at h
     ·rename_i σ1 hm
      cases h
      refine⟨_,hg.take (tb:=.unit) hb (fI h16) hbd hd hm (yp hk (hg.hw.cX b _ hb) ?_ (fun x h1 h2=>hbd (hg.hw.eH b d _ _ x hb hd h1 h2)))⟩
      intro u hu
      obtain⟨s1,s2,g,en,clock,s3,s4,s5,s6,s7⟩:=hg.hw.cX d _ hd
      obtain⟨g',hg',eu⟩:=hu
      rw[s3] at hg';cases hg'
      have eu:u= .map (some g):=by grind
      exact⟨ys,rfl,s1,s2,g,en,clock,s3,eu,s4,RM.to s5,s6,s7⟩
     grind
    grind
   grind
  grind
 grind
end Go.Ax
