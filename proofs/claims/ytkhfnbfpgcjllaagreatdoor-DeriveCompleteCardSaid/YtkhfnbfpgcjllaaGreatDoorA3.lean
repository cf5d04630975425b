/- The machines: what it means to be walked or run, part 3. No condition. -/
import Derived.Test.YtkhfnbfpgcjllaaGreatDoorA2
import Derived.Laws.IdiomRangeMap
namespace Go.Ax
def rp(a b:Int):Int:=if b<a then b else a
def imax(a b:Int):Int:=if a<b then b else a
def Ov:AV→AV→Option AV
 | .val (.int k) a,.val (.int k') b=>if Nat.beq (IntKind.code k) (IntKind.code k') then some (.val (.int k) (rp a b)) else none
 |_,_=>none
def Ow:AV→AV→Option AV
 | .val (.int k) a,.val (.int k') b=>if Nat.beq (IntKind.code k) (IntKind.code k') then some (.val (.int k) (imax a b)) else none
 |_,_=>none
theorem Ox{P:Program}{E:Env}{w:World}{x y r:AV}{vx vy:Value}{ts:Array TypeId}{t:TypeId}(hx:RV E w x vx)(hy:RV E w y vy)(h:Ov x y=some r):∃v,(Builtin.min_ ts t #[vx,vy]).run P w= .ok v w∧RV E w r v:=by
 unfold Ov at h
 split at h
 ·rename_i k a k' b
  split at h
  ·rename_i hk
   cases h
   have:=IntKind.mn (dm hk)
   subst this
   obtain⟨rfl,h1⟩:=RV.fw hx
   obtain⟨rfl,h2⟩:=RV.fw hy
   refine⟨.int k (rp a b),by trivial,RV.int ?_⟩
   grind [rp]
  grind
 grind
theorem Oy{P:Program}{E:Env}{w:World}{x y r:AV}{vx vy:Value}{ts:Array TypeId}{t:TypeId}(hx:RV E w x vx)(hy:RV E w y vy)(h:Ow x y=some r):∃v,(Builtin.max_ ts t #[vx,vy]).run P w= .ok v w∧RV E w r v:=by
 unfold Ow at h
 split at h
 ·rename_i k a k' b
  split at h
  ·rename_i hk
   cases h
   have:=IntKind.mn (dm hk)
   subst this
   obtain⟨rfl,h1⟩:=RV.fw hx
   obtain⟨rfl,h2⟩:=RV.fw hy
   refine⟨.int k (imax a b),by trivial,RV.int ?_⟩
   grind [imax]
  grind
 grind
def sk(s:List UInt8)(i:Int):Int:=((s.getD i.toNat 0).toNat:Int)
def yE(G:dq)(t:TypeId)(x i:AV):Option (AV×List VC):=
 match G.at t with
 |
  some td=>match td.ty,x,i with
  | .str,.val .str s,.val (.int _) n=>some (.val (.int .u8) (sk s n),[vc ((0:Int)≤n),vc (@LT.lt Int _ n (List.length s:Int))])
  | .fns m,.val (.fns m') xs,.val (.int _) n=>if Nat.beq m m' then some (LF (List.getD xs (Int.toNat n) none),[vc ((0:Int)≤n),vc (@LT.lt Int _ n (m:Int))]) else none
  | .arr m u,.val (.arr m' u') xs,.val (.int _) n=>if Nat.beq m m'&&Ty.same u u' then some (.val u' (List.getD xs (Int.toNat n) u'.aH),[vc ((0:Int)≤n),vc (@LT.lt Int _ n (m:Int))]) else none
  |_,_,_=>none
 |none=>none
theorem Ti{E:Env}{w:World}(o:Option Nat):RV E w (LF o) (HQ o):=by
 cases o with
 |none=>exact RV.gZ (Or.inr ⟨rfl,rfl⟩)
 |some f=>exact RV.gZ (Or.inr ⟨rfl, #[], #[],rfl,rfl,rfl,rfl,rfl⟩)
theorem RV.Oz{E:Env}{w:World}{s:List UInt8}{v:Value}(h:RV E w (.val .str s) v):v= .string ⟨s.toArray⟩:=by
 rcases RV.mN rfl h with⟨hh,_⟩|⟨_,hh⟩
 ·cases hh
 ·have:=hh.1
  grind
theorem OA{P:Program}{G:dq}(T:cQ P G){t:TypeId}{td:TD}(ht:G.at t=some td){E:Env}{w:World}{cs:Array Value}{off:Nat}{u:AV}(hc:RC E w u ((cs.toList.drop off).take td.ty.size))(hu:u.dY td.ty=true)(hb:off+td.ty.size≤cs.size):
 ∃v,(part t cs off).run P w= .ok v w∧RV E w u v:=by
 have ha:=AV.lL hu
 by_cases ao2:td.ty.isAgg=true
 ·refine⟨.agg (cs.extract off (off+td.ty.size)),?_,RV.gZ (Or.inl ⟨by grind,_,rfl,?_⟩)⟩
  ·simp[part,T.isAgg ht,T.size ht,ao2]
  simp_all
 ·have hagg':td.ty.isAgg=false:=by grind
  have h1:td.ty.size=1:=by cases h:td.ty<;>rw[h] at hagg'<;>simp[Ty.isAgg] at hagg'<;>rfl
  rw[h1] at hc hb
  have hlt:off<cs.size:=by omega
  have e:(cs.toList.drop off).take 1= [cs[off]]:=by
   grind [iA]
  rw[e] at hc
  exact⟨cs[off],by simp[part,T.isAgg ht,hagg',Array.getElem?_eq_getElem hlt],RV.gZ (Or.inr ⟨by grind,hc⟩)⟩
theorem IZ{P:Program}{G:dq}(T:cQ P G){E:Env}{w:World}{t:TypeId}{x i r:AV}{vx vi:Value}{vc:List VC}(hx:RV E w x vx)(hi:RV E w i vi)(h:yE G t x i=some (r,vc))(hvc:gm vc):
 ∃v,(Instr.index t vx vi).run P w= .ok v w∧RV E w r v:=by
 unfold yE at h
 split at h
 ·rename_i td ht
  split at h
  ·rename_i s k n hty
   cases h
   obtain⟨q1,q2,_⟩:=hvc
   replace q1:(0:Int)≤_:=q1
   obtain⟨rfl,_⟩:=RV.fw hi
   have:=RV.Oz hx
   subst this
   have hu:=T.strOf ht hty
   have hl:n.toNat<s.length:=by omega
   have hg:(⟨s.toArray⟩:ByteArray)[n.toNat]? =some s[n.toNat]:=by
    show(if h:n.toNat<s.toArray.size then some _ else none)=_
    rw[dif_pos (by grind)]
    rfl
   refine⟨.int .u8 (s[n.toNat].toNat:Int),?_,?_⟩
   ·simp_all[Instr.index,asIntOf,run_underlying]
   ·have:sk s n=(s[n.toNat].toNat:Int):=by
     grind [sk]
    rw[this]
    refine RV.int ?_
    have:=s[n.toNat].toNat_lt
    have h1:IntKind.u8.min=0:=by decide
    have h2:IntKind.u8.max=255:=by decide
    omega
  ·rename_i m m' xs k n hty
   split at h
   ·rename_i hm
    cases h
    have:=dm hm
    subst this
    obtain⟨q1,q2,_⟩:=hvc
    replace q1:(0:Int)≤_:=q1
    obtain⟨rfl,_⟩:=RV.fw hi
    obtain⟨te,hu,he,hte⟩:=T.M6 ht hty
    rcases RV.mN rfl hx with⟨_,cs,rfl,hr⟩|⟨hh,_⟩
    ·obtain⟨hl,hcs⟩:=hr
     have hl':n.toNat<xs.length:=by omega
     have hsz:=T.size he w
     rw[hte] at hsz
     have hag:=T.isAgg he w
     rw[hte] at hag
     have hc:cs[n.toNat]? =some (HQ (List.getD xs n.toNat none)):=by
      rw[←Array.getElem?_toList,hcs,List.getElem?_map,uQ,rF hl']
      rfl
     refine⟨HQ (List.getD xs n.toNat none),?_,Ti _⟩
     have hin:(0:Int)≤n∧n<(m:Int):=⟨q1,q2⟩
     simp[Instr.index,asIntOf,run_underlying hu,hin,part,hag,hsz,Ty.size,Ty.isAgg,hc]
    trivial
   grind
  ·rename_i m u m' u' xs k n hty
   split at h
   ·rename_i hm
    cases h
    simp only[bP] at hm
    have e1:=dm hm.1
    have e2:=Ty.aE hm.2
    subst e1;subst e2
    obtain⟨q1,q2,_⟩:=hvc
    replace q1:(0:Int)≤_:=q1
    obtain⟨rfl,_⟩:=RV.fw hi
    obtain⟨te,hu,he,hte⟩:=T.uU ht hty
    rcases RV.mN rfl hx with⟨_,cs,rfl,hr⟩|⟨hh,_⟩
    ·obtain⟨hl,hcs⟩:=hr
     have hl':n.toNat<xs.length:=by omega
     have apf:=bO.get (r:=Rel w E.S u) (n:=u.size) (fun _ _ h=>Rel.len h) u.aH n.toNat hcs hl'
     have hlen:=bO.len (n:=u.size) (fun _ _ h=>Rel.len h) hcs
     have hb:n.toNat*te.ty.size+te.ty.size≤cs.size:=by
      rw[hte,←tp,hlen]
      have:=ju u.size hl'
      grind
     have hsz:=T.size he w
     obtain⟨v,hv,hrv⟩:=OA (P:=P) T he (E:=E) (w:=w) (cs:=cs) (off:=n.toNat*te.ty.size) (u:=.val u (List.getD xs n.toNat u.aH)) (by rw[hte];trivial) (by rw[hte];exact Ty.fh _) hb
     simp_all[Instr.index,asIntOf,run_underlying]
    trivial
   grind
  grind
 grind
def D3{α:Type}:Option α→Bool
 |none=>true
 |some _=>false
def I0:AV→AV→Option (Bool×j7)
 | .kZ,.kZ=>some (true,.iface)
 | .iface _ _,.kZ=>some (false,.iface)
 | .kv,.kv=>some (true,.ptr)
 | .ptr _ _,.kv=>some (false,.ptr)
 | .dk _ _,.kv=>some (false,.ptr)
 | .ia,.ia=>some (true,.map)
 | .mp _,.ia=>some (false,.map)
 | .val (.map _ _) y,.ia=>some (D3 y,.map)
 | .jD,.jD=>some (true,.func)
 | .func _ _ _,.jD=>some (false,.func)
 | .nq c,.ia=>some (c,.map)
 |_,_=>none
def ik:TypeDesc→Option j7
 | .interface _=>some .iface
 | .pointer _=>some .ptr
 | .map _ _=>some .map
 | .func _ _ _=>some .func
 |_=>none
def isConst:Operand→Bool
 | .const _=>true
 |_=>false
def D4(d:TypeDesc)(k:j7):Bool:=
 match ik d with
 |some k'=>Nat.beq (j7.code k) (j7.code k')
 |none=>false
theorem BR{d:TypeDesc}{k:j7}(h:D4 d k=true):ik d=some k:=by
 grind [D4,j7.mn,dm]
def OB(P:Program)(t:TypeId)(op:BinOp)(oy:Operand)(x y:AV):Option AV:=
 match op,I0 x y,P.underlying t with
 | .eql,some (b,k),some d=>if isConst oy&&D4 d k then some (.val .bool b) else none
 | .neq,some (b,k),some d=>if isConst oy&&D4 d k then some (.val .bool (!b)) else none
 |_,_,_=>none
theorem RV.AB{E:Env}{w:World}{v:Value}(h:RV E w .kZ v):v= .nilIface:=by
 rcases RV.mN rfl h with⟨hh,_⟩|⟨_,hh⟩
 ·cases hh
 ·simpa[RC] using hh
theorem RV.vL{E:Env}{w:World}{v:Value}(h:RV E w .kv v):v= .pointer none:=by
 rcases RV.mN rfl h with⟨hh,_⟩|⟨_,hh⟩
 ·cases hh
 ·simpa[RC] using hh
theorem RV.sm{E:Env}{w:World}{v:Value}(h:RV E w .ia v):v= .map none:=by
 rcases RV.mN rfl h with⟨hh,_⟩|⟨_,hh⟩
 ·cases hh
 ·simpa[RC] using hh
theorem RV.AD{E:Env}{w:World}{v:Value}(h:RV E w .jD v):v= .nilFunc:=by
 rcases RV.mN rfl h with⟨hh,_⟩|⟨_,hh⟩
 ·cases hh
 ·simpa[RC] using hh
theorem BT{P:Program}{E:Env}{w:World}{t:TypeId}{d:TypeDesc}{x y:AV}{vx vy:Value}{b:Bool}{k:j7}(hu:P.underlying t=some d)(hk:ik d=some k)(hx:RV E w x vx)(hy:RV E w y vy)(h:I0 x y=some (b,k)):
 (Op.equal t vx vy).run P w= .ok b w∧(∀(op:BinOp)(ox oy:Operand),isConst oy=true→(eqGuard op t ox oy vx vy).run P w= .ok () w)∧(binOp .eql t vx vy).run P w= .ok (.bool b) w∧(binOp .neq t vx vy).run P w= .ok (.bool (!b)) w:=by
 have e0:Op.maxDepth=9999+1:=rfl
 have fin:(Op.equal t vx vy).run P w= .ok b w→(∀(op:BinOp)(ox oy:Operand),isConst oy=true→(eqGuard op t ox oy vx vy).run P w= .ok () w)→binOp .eql t vx vy=(do pure (.bool (←Op.equal t vx vy)))→binOp .neq t vx vy=(do pure (.bool (!(←Op.equal t vx vy))))→
  (Op.equal t vx vy).run P w= .ok b w∧(∀(op:BinOp)(ox oy:Operand),isConst oy=true→(eqGuard op t ox oy vx vy).run P w= .ok () w)∧(binOp .eql t vx vy).run P w= .ok (.bool b) w∧(binOp .neq t vx vy).run P w= .ok (.bool (!b)) w:=by
  simp_all
 have gd:∀(op:BinOp)(ox oy:Operand),isConst oy=true→(eqGuard op t ox oy .nilIface .nilIface).run P w= .ok () w:=by
  intro op ox oy hc
  cases oy with
  |const c=>cases op<;>simp[eqGuard]
  |_=>trivial
 unfold I0 at h
 split at h<;>cases h
 ·obtain rfl:=RV.AB hx
  obtain rfl:=RV.AB hy
  cases d<;>simp[ik] at hk
  exact fin (by rw[Op.equal,e0,Op.equalIn];simp[run_underlying hu]) gd rfl rfl
 ·rename_i ti v
  obtain⟨u,rfl⟩:∃u,vx= .iface ti u:=by
   rcases RV.mN rfl hx with⟨hh,_⟩|⟨_,hh⟩
   ·cases hh
   ·obtain⟨u,e,_⟩:=hh;grind
  obtain rfl:=RV.AB hy
  cases d<;>simp[ik] at hk
  exact fin (by rw[Op.equal,e0,Op.equalIn];simp[run_underlying hu]) (by simp_all[eqGuard]) rfl rfl
 ·obtain rfl:=RV.vL hx
  obtain rfl:=RV.vL hy
  cases d<;>simp[ik] at hk
  exact fin (by rw[Op.equal,e0,Op.equalIn];simp[run_underlying hu]) (by simp_all[eqGuard]) rfl rfl
 ·obtain⟨a,rfl⟩:∃a,vx= .pointer (some a):=by
   rcases RV.mN rfl hx with⟨hh,_⟩|⟨_,hh⟩
   ·cases hh
   ·obtain⟨g,_,e,_⟩:=hh;grind
  obtain rfl:=RV.vL hy
  cases d<;>simp[ik] at hk
  exact fin (by rw[Op.equal,e0,Op.equalIn];simp[run_underlying hu]) (by simp_all[eqGuard]) rfl rfl
 ·obtain⟨a,rfl⟩:∃a,vx= .pointer (some a):=by
   rcases RV.mN rfl hx with⟨hh,_⟩|⟨_,hh⟩
   ·cases hh
   ·obtain⟨bb,o,cs,e,_⟩:=hh;grind
  obtain rfl:=RV.vL hy
  cases d<;>simp[ik] at hk
  exact fin (by rw[Op.equal,e0,Op.equalIn];simp[run_underlying hu]) (by simp_all[eqGuard]) rfl rfl
 ·obtain rfl:=RV.sm hx
  obtain rfl:=RV.sm hy
  cases d<;>simp[ik] at hk
  exact fin (by rw[Op.equal,e0,Op.equalIn];simp[run_underlying hu]) (by simp_all[eqGuard]) rfl rfl
 ·obtain⟨a,rfl⟩:∃a,vx= .map (some a):=by
   rcases RV.mN rfl hx with⟨hh,_⟩|⟨_,hh⟩
   ·cases hh
   ·obtain⟨g,_,e⟩:=hh;grind
  obtain rfl:=RV.sm hy
  cases d<;>simp[ik] at hk
  exact fin (by rw[Op.equal,e0,Op.equalIn];simp[run_underlying hu]) (by simp_all[eqGuard]) rfl rfl
 ·rename_i k' v' y'
  obtain⟨a,e,hr⟩:=RV.atom rfl hx
  simp at e;subst e
  obtain rfl:=RV.sm hy
  cases d<;>simp[ik] at hk
  rcases hr with⟨rfl,rfl⟩|⟨es,g,en,clock,rfl,rfl,_⟩
  ·exact fin (by rw[Op.equal,e0,Op.equalIn];simp[run_underlying hu,D3]) (by simp_all[eqGuard]) rfl rfl
  ·exact fin (by rw[Op.equal,e0,Op.equalIn];simp[run_underlying hu,D3]) (by simp_all[eqGuard]) rfl rfl
 ·obtain rfl:=RV.AD hx
  obtain rfl:=RV.AD hy
  cases d<;>simp[ik] at hk
  exact fin (by rw[Op.equal,e0,Op.equalIn];simp[run_underlying hu]) (by simp_all[eqGuard]) rfl rfl
 ·obtain⟨f,c1,c2,rfl⟩:∃f c1 c2,vx= .func f c1 c2:=by
   rcases RV.mN rfl hx with⟨hh,_⟩|⟨_,hh⟩
   ·cases hh
   ·obtain⟨c1,c2,e,_⟩:=hh;grind
  obtain rfl:=RV.AD hy
  cases d<;>simp[ik] at hk
  exact fin (by rw[Op.equal,e0,Op.equalIn];simp[run_underlying hu]) (by simp_all[eqGuard]) rfl rfl
 ·obtain⟨a,rfl,ha⟩:∃a:Option Nat,vx= .map a∧(a=none↔b=true):=by
   rcases RV.mN rfl hx with⟨hh,_⟩|⟨_,hh⟩
   ·cases hh
   ·obtain⟨a,e,ha⟩:=hh;grind
  obtain rfl:=RV.sm hy
  cases d<;>simp[ik] at hk
  cases a with
  |
   none=>
   have hb:=ha.1 rfl;subst hb
   exact fin (by rw[Op.equal,e0,Op.equalIn];simp[run_underlying hu]) (by simp_all[eqGuard]) rfl rfl
  |
   some g=>
   have hb:b=false:=by
    grind
   subst hb
   exact fin (by rw[Op.equal,e0,Op.equalIn];simp[run_underlying hu]) (by simp_all[eqGuard]) rfl rfl
theorem OC{P:Program}{E:Env}{w:World}{t:TypeId}{op:BinOp}{ox oy:Operand}{x y r:AV}{vx vy:Value}(hx:RV E w x vx)(hy:RV E w y vy)(h:OB P t op oy x y=some r):
 (eqGuard op t ox oy vx vy).run P w= .ok () w∧∃v,(binOp op t vx vy).run P w= .ok v w∧RV E w r v:=by
 unfold OB at h
 split at h
 ·rename_i b k d hn hd
  split at h
  ·rename_i hc
   cases h
   simp only[bP] at hc
   obtain⟨hc1,hc2⟩:=hc
   obtain⟨_,h2,h3,_⟩:=BT hd (BR hc2) hx hy hn
   grind [RV.bool]
  grind
 ·rename_i b k d hn hd
  split at h
  ·rename_i hc
   cases h
   simp only[bP] at hc
   obtain⟨hc1,hc2⟩:=hc
   obtain⟨_,h2,_,h3⟩:=BT hd (BR hc2) hx hy hn
   grind [RV.bool]
  grind
 grind
def AV.D5:AV→Option Nat
 | .func (.func f) .nil .nil=>some f
 |_=>none
theorem I1{E:Env}{w:World}{x:AV}{v:Value}{f:Nat}(h:x.D5=some f)(hx:RV E w x v):v=HQ (some f):=by
 unfold AV.D5 at h
 split at h
 ·cases h
  rcases RV.mN rfl hx with⟨hh,_⟩|⟨_,hh⟩
  ·cases hh
  ·obtain⟨a,b,e,h1,h2,_⟩:=hh
   have ha:a= #[]:=by apply ni;trivial
   have hb:b= #[]:=by apply ni;trivial
   subst ha;subst hb
   exact(List.cons.inj e).1
 grind
def KB:List (Option Nat)→List (Nat×AV)→Option (List (Option Nat))
 |xs,[]=>some xs
 |
  xs,(i,v)::l=>match v.D5 with
  |some f=>if Nat.blt i xs.length then KB (xs.set i (some f)) l else none
  |none=>none
theorem F3{E:Env}{w:World}:
 ∀{ps:List (Nat×AV)}{vs:List (Nat×Value)}{xs ys:List (Option Nat)}{cells:Array Value},RP E w ps vs→cells.toList=xs.map HQ→KB xs ps=some ys→
  ∃aoX,Instr.fill (fun i=>some (i*1,1)) cells vs=some aoX∧aoX.toList=ys.map HQ∧ys.length=xs.length
 |
  [],[],xs,ys,cells,_,hr,h=>by
  cases h;exact⟨cells,rfl,hr,rfl⟩
 |[],_::_,_,_,_,h,_,_=>h.elim
 |_::_,[],_,_,_,h,_,_=>h.elim
 |
  (i,x)::ps,(j,v)::vs,xs,ys,cells,⟨e,hx,hps⟩,hr,h=>by
  simp only at e;subst e
  simp only[KB] at h
  split at h
  ·rename_i f hf
   split at h
   ·rename_i hi
    have hi:i<xs.length:=by simp_all
    have hv:v=HQ (some f):=I1 hf hx
    have hsz:cells.size=xs.length:=by rw[←tp,hr,gv]
    obtain⟨aoX,f1,f2⟩:=sS (fun i=>some (i*1,1)) cells i (i*1) 1 v vs rfl (by rw[hv];rfl) (by omega)
    rw[f1]
    have bJ:aoX.toList=(xs.set i (some f)).map HQ:=by
     simp_all[List.set_eq_take_append_cons_drop,HQ,Value.cells]
    obtain⟨c2,g1,g2,g3⟩:=F3 hps bJ h
    exact⟨c2,g1,g2,by rw[g3,cP]⟩
   grind
  grind
def AE(n:Nat):Nat→List (Nat×AV)→Option AV
 |k,[]=>if Nat.beq k n then some .nil else none
 |k,(i,.func f a b)::l=>if Nat.beq i k then(AE n (k+1) l).map (.cons (.func f a b)) else none
 |_,_=>none
theorem xa{E:Env}{w:World}{n:Nat}:
 ∀{ps:List (Nat×AV)}{vs:List (Nat×Value)}{k:Nat}{r:AV}{cells:Array Value},RP E w ps vs→cells.size=n→AE n k ps=some r→
  ∃aoX,Instr.fill (fun i=>some (i*1,1)) cells vs=some aoX∧aoX.size=n∧aoX.toList.take k=cells.toList.take k∧k≤n∧RC E w r (aoX.toList.drop k)∧r.isAgg=true
 |
  [],[],k,r,cells,_,hn,h=>by
  unfold AE at h
  split at h
  case isFalse=>cases h
  rename_i h1
  have:=dm h1
  cases h
  exact⟨cells,rfl,hn,rfl,by omega,by show List.drop k cells.toList= [];rw[qO (by simp;omega)],rfl⟩
 |[],_::_,_,_,_,h,_,_=>h.elim
 |_::_,[],_,_,_,h,_,_=>h.elim
 |
  (i,x)::ps,(j,v)::vs,k,r,cells,⟨e,hx,hps⟩,hn,h=>by
  simp only at e;subst e
  unfold AE at h
  split at h
  ·rename_i e;cases e
  ·rename_i f a b l e
   cases e
   split at h
   case isFalse=>cases h
   rename_i h1
   have:=dm h1
   subst this
   obtain⟨y,hy,rfl⟩:=Option.map_eq_some_iff.1 h
   have hv:RC E w (.func f a b) [v]:=by
    rcases RV.mN rfl hx with⟨hh,_⟩|⟨_,hh⟩
    ·cases hh
    ·exact hh
   have hc:v.cells.toList= [v]:=by
    obtain⟨_,_,e,_⟩:=hv
    cases(List.cons.inj e).1
    rfl
   have hlt:i+1≤n:=by
    obtain⟨_,_,_,_,g4,_⟩:=xa (cells:=cells) hps hn hy
    exact g4
   obtain⟨c1,f1,f2⟩:=sS (fun i=>some (i*1,1)) cells i (i*1) 1 v vs rfl (by rw[←tp,hc];rfl) (by omega)
   rw[f1]
   have hl1:c1.size=n:=by rw[←tp,f2];simp[hc];omega
   obtain⟨c2,g1,g2,g3,_,g5,_⟩:=xa (cells:=c1) hps hl1 hy
   have e1:c1.toList.take (i+1)=cells.toList.take i++[v]:=by
    rw[f2,hc,Nat.mul_one,iH,List.take_append,j6 (by simp;omega)]
    simp
    rw[show i+1 -min i cells.size=1 by omega]
    rfl
   have hlen:(cells.toList.take i).length=i:=by simp;omega
   have e2:c2.toList.take i=cells.toList.take i:=by
    have:c2.toList.take i=(c2.toList.take (i+1)).take i:=by rw[tB,rG (by omega)]
    rw[this,g3,e1,ET (by omega),tB,Nat.min_self]
   have e3:c2.toList.drop i= [v]++c2.toList.drop (i+1):=by
    have:c2.toList.drop i=(c2.toList.take (i+1)).drop i++c2.toList.drop (i+1):=by
     rw[←List.drop_append_of_le_length (by simp;omega),oL]
    rw[this,g3,e1,List.drop_append_of_le_length (by omega),qO (by omega)]
    rfl
   exact⟨c2,g1,g2,e2,by omega,by rw[e3];exact⟨[v],_,rfl,hv,g5⟩,rfl⟩
  ·cases h
def AF(G:dq)(t:TypeId)(ps:List (Nat×AV)):Option AV:=
 match G.at t with
 |
  some td=>match td.ty with
  |
   .fns n=>match KB (List.replicate n none) ps with
   |some xs=>some (.val (.fns n) xs)
   |none=>AE n 0 ps
  |_=>none
 |none=>none
theorem I2{P:Program}{G:dq}(T:cQ P G){E:Env}{w:World}{t:TypeId}{ps:List (Nat×AV)}{vs:Array (Nat×Value)}(hp:RP E w ps vs.toList){r:AV}(h:AF G t ps=some r):
 ∃v,(Instr.build t vs).run P w= .ok v w∧RV E w r v:=by
 unfold AF at h
 split at h
 ·rename_i td ht
  obtain⟨z,hz,hz1,hz2⟩:=T.zero ht w
  split at h
  ·rename_i n hty
   obtain⟨te,h1,h2,h3⟩:=T.M6 ht hty
   have hsz:=T.size h2 w
   rw[h3] at hsz
   rw[hty] at hz1
   have apD:RC E w (Ty.zero (.fns n)) z.cells.toList:=(jF (E:=E) (w:=w) hz1).1
   have hrel2:z.cells.toList=(List.replicate n none).map HQ:=apD.2
   split at h
   ·rename_i xs hxs
    cases h
    obtain⟨aoX,f1,f2,f3⟩:=F3 hp hrel2 hxs
    refine⟨.agg aoX,?_,RV.gZ (Or.inl ⟨rfl,aoX,rfl,⟨by grind,f2⟩⟩)⟩
    simp_all[Instr.build,underlying,Ty.size]
   ·have hcs:z.cells.size=n:=by rw[←tp,hrel2];simp
    obtain⟨aoX,f1,f2,_,_,f3,f4⟩:=xa hp hcs h
    refine⟨.agg aoX,?_,RV.gZ (Or.inl ⟨f4,aoX,rfl,f3⟩)⟩
    simp_all[Instr.build,underlying,Ty.size]
  grind
 grind
def KC(G:dq)(t:TypeId):Option (Ty×Ty):=
 match G.at t with
 |
  some td=>match G.at td.e,G.at td.e2 with
  |some k,some v=>if td.ty.rK&&k.ty.keyed then some (k.ty,v.ty) else none
  |_,_=>none
 |none=>none
def isInt:AV→Bool
 | .val (.int _) _=>true
 |_=>false
def W2:Option AV→Bool
 |some y=>isInt y
 |none=>true
def uq(G:dq)(d:Nat)(t:TypeId)(x:Option AV):Option jv:=
 match KC G t with
 |some (kt,vt)=>if W2 x then some ⟨.mp d,[(d,some (.map kt vt []))],[d],[]⟩ else none
 |none=>none
theorem Bj{P:Program}{G:dq}(T:cQ P G){gl:Ctx}{σ:St}{E:Env}{a:Act}{w:World}(h:dE gl σ E a w){d:Nat}{t:TypeId}{r:jv}{x:Option AV}{rs:Option Value}(hrs:RO E w x rs)(he:uq G d t x=some r)(hfr:∀b∈r.fr,σ.fresh b):
 ∃v w' E',(Instr.makeMap t rs).run P w= .ok v w'∧dE gl {σ with hp:=bJ σ.hp r.hw} E' a w'∧RV E' w' r.v v∧Ext gl.md (cU σ.hp E) E w (cU (bJ σ.hp r.hw) E') E' w':=by
 unfold uq at he
 split at he
 ·rename_i kt vt hm
  split at he
  ·rename_i hx
   cases he
   have h1:∃ke ve,P.underlying t=some (.map ke ve):=by
    unfold KC at hm
    split at hm
    ·rename_i td ht
     split at hm
     ·rename_i k v hk hv
      split at hm
      ·rename_i hc
       cases hm
       simp only[bP] at hc
       exact⟨_,_,T.mapOf ht hc.1⟩
      grind
     grind
    grind
   obtain⟨ke,ve,h1⟩:=h1
   have hf:=hfr d (by simp)
   obtain⟨g1,x1⟩:=h.fresh (w':=w.alloc (.map #[] 0)) hf (g:=some w.heap.size) (sv:=undef) (t:=.unit) (k:=.map kt vt []) rfl (Tp.r rfl rfl) rfl (by simp) (fun i hi=>by grind [heap_alloc_old]) (fun i hi=>by grind)
    ⟨by simp,by grind,w.heap.size, #[],0,by simp[Env.at],heap_alloc_new w _,trivial,by simp,by simp⟩
   refine⟨.map (some w.heap.size),_,_,?_,g1,RV.gZ (Or.inr ⟨rfl,w.heap.size,by simp[Env.at],rfl⟩),x1⟩
   cases rs with
   |none=>trivial
   |
    some v=>
    cases x with
    |none=>trivial
    |
     some y=>
     have hv:RV E w y v:=hrs
     cases y with
     |
      val ty n=>
      cases ty with
      |
       int k=>
       obtain⟨rfl,_⟩:=RV.fw hv
       simp[Instr.makeMap,run_underlying h1,asInt,asIntOf]
      |_=>trivial
     |_=>trivial
  grind
 grind
def AG(P:Program)(G:dq)(d:Nat)(op:Op)(ev:Operand→AV):Option jv:=
 match op with
 | .build t ps=>(AF G t (sU ev ps)).map .one
 | .binOp o t x y _=>(OB P t o y (ev x) (ev y)).map .one
 | .index t x i=>(yE G t (ev x) (ev i)).map .PC
 | .makeMap t x=>uq G d t (x.map ev)
 | .call {callee:=.builtin .min,args:=⟨[x,y]⟩,argTypes:=_}=>(Ov (ev x) (ev y)).map .one
 | .call {callee:=.builtin .max,args:=⟨[x,y]⟩,argTypes:=_}=>(Ow (ev x) (ev y)).map .one
 | .makeFunc (.func _) _ _=>some (.one .fx)
 |_=>none
theorem OD{P:Program}{G:dq}(T:cQ P G){gl:Ctx}{σ:St}{E:Env}{a:Act}{w:World}(h:dE gl σ E a w){o:Oper}{d:Nat}{ev:Operand→AV}{r:jv}
 (hev:∀x∈o.op.operands.toList,RV E w (ev x) (a.eval x)) (he:AG P G d o.op ev=some r) (hvc:gm r.vc) (hfr:∀b∈r.fr,σ.fresh b):dz P gl σ E a w o r:=by
 unfold AG at he
 split at he
 ·rename_i t ps hop
  obtain⟨u,hu,rfl⟩:=Option.map_eq_some_iff.1 he
  have hp:RP E w (sU ev ps) (ps.map fun(i,x)=>(i,a.eval x)).toList:=by
   rw[Array.toList_map]
   refine pU (fun x hx=>hev x.2 ?_)
   simp only[hop,Op.operands,List.mem_map]
   grind
  obtain⟨v,h1,h2⟩:=I2 T hp hu
  exact dz.same h (v:=v) (by simp[execOp,hop,h1]) h2
 ·rename_i bo t x y t2 hop
  obtain⟨u,hu,rfl⟩:=Option.map_eq_some_iff.1 he
  obtain⟨h0,v,h1,h2⟩:=OC (P:=P) (ox:=x) (hev x (by simp[hop,Op.operands])) (hev y (by simp[hop,Op.operands])) hu
  exact dz.same h (v:=v) (by simp[execOp,hop,h0,h1]) h2
 ·rename_i t x i hop
  obtain⟨⟨u,vc⟩,hu,rfl⟩:=Option.map_eq_some_iff.1 he
  obtain⟨v,h1,h2⟩:=IZ T (hev x (by simp[hop,Op.operands])) (hev i (by simp[hop,Op.operands])) hu hvc
  exact dz.same h (v:=v) (by simp[execOp,hop,h1]) h2
 ·rename_i t x hop
  obtain⟨v,w',E',h1,h2,h3,h4⟩:=Bj T h (rs:=x.map a.eval) (Dh (fun y hy=>hev y (by simp[hop,Op.operands,hy]))) he hfr
  exact⟨_,v,w',E',by simp[execOp,hop,h1],Or.inl rfl,h2,h3,h4⟩
 ·rename_i x y ts hop
  obtain⟨u,hu,rfl⟩:=Option.map_eq_some_iff.1 he
  obtain⟨v,h1,h2⟩:=Ox (P:=P) (ts:=ts) (t:=o.type) (hev x (by simp[hop,Op.operands,Call.operands])) (hev y (by simp[hop,Op.operands,Call.operands])) hu
  exact dz.same h (v:=v) (by simp[execOp,hop,resolve,invoke,builtin,h1]) h2
 ·rename_i x y ts hop
  obtain⟨u,hu,rfl⟩:=Option.map_eq_some_iff.1 he
  obtain⟨v,h1,h2⟩:=Oy (P:=P) (ts:=ts) (t:=o.type) (hev x (by simp[hop,Op.operands,Call.operands])) (hev y (by simp[hop,Op.operands,Call.operands])) hu
  exact dz.same h (v:=v) (by simp[execOp,hop,resolve,invoke,builtin,h1]) h2
 ·rename_i f fs cs hop
  cases he
  exact dz.same h (v:=.func (.func f) (fs.map a.eval) (cs.map a.eval)) (by simp[execOp,hop,Instr.makeFunc]) (RV.gZ (Or.inr ⟨rfl,_,_,_,rfl⟩))
 grind
end Go.Ax
namespace Go.Ax
def D6(G:dq)(t:TypeId)(x:AV):Option AV:=
 match G.at t with
 |some td=>if x.plain&& !Ty.same td.ty (.aY .iface) then some (.iface t x) else none
 |none=>none
def AH(G:dq)(x:AV)(s:TypeId):Option AV:=
 match x,G.at s with
 | .iface t v,some td=>if Nat.beq t s&&v.plain&& !Ty.same td.ty (.aY .iface) then some (.ky (.cons v (.cons (.val .bool true) .nil))) else none
 |_,_=>none
def AI(G:dq)(op:Op)(ev:Operand→AV):Option jv:=
 match op with
 | .makeInterface t x=>(D6 G t (ev x)).map .one
 | .typeAssert x _ s true=>(AH G (ev x) s).map .one
 |_=>none
theorem cQ.KD{P:Program}{G:dq}(T:cQ P G){t:TypeId}{td:TD}(h:G.at t=some td)(hn:Ty.same td.ty (.aY .iface)=false):∃d,P.underlying t=some d∧∀x,d≠.interface x:=by
 obtain⟨ii,d,_,h1,_,h2,_⟩:=T.info h
 grind [d7]
theorem I3{P:Program}{G:dq}(T:cQ P G){E:Env}{w:World}{t:TypeId}{x r:AV}{v:Value}(hx:RV E w x v)(h:D6 G t x=some r):∃u,(Instr.makeInterface t v).run P w= .ok u w∧RV E w r u:=by
 unfold D6 at h
 split at h
 ·rename_i td htd
  split at h
  ·rename_i hc
   cases h
   simp only[bP,lF] at hc
   obtain⟨d,h1,h2⟩:=T.KD htd hc.2
   refine⟨.iface t v,?_,?_⟩
   ·simp_all[Instr.makeInterface,underlying]
   ·refine RV.gZ (Or.inr ⟨rfl,v,rfl,?_⟩)
    rcases RV.mN hc.1 hx with⟨e,cs,e1,e2⟩|⟨e,e2⟩<;>grind
  grind
 grind
theorem F4{P:Program}{G:dq}(T:cQ P G){E:Env}{w:World}{s xt:TypeId}{x r:AV}{v:Value}(hx:RV E w x v)(h:AH G x s=some r):∃u,(Instr.typeAssert v xt s true).run P w= .ok u w∧RV E w r u:=by
 unfold AH at h
 split at h
 ·rename_i t a td htd
  split at h
  ·rename_i hc
   cases h
   simp only[bP,lF] at hc
   obtain⟨⟨hc1,hc2⟩,hc3⟩:=hc
   have hc1:=dm hc1
   subst hc1
   obtain⟨d,h1,h2⟩:=T.KD htd hc3
   obtain⟨y,e,hy⟩:=RV.atom rfl hx
   simp at e
   subst e
   have hy0:ew E w a y:=by
    trivial
   refine⟨.tuple #[y,.bool true],?_,?_⟩
   ·simp_all[Instr.typeAssert,underlying]
   ·exact⟨#[y,.bool true],rfl,hy0,Or.inr ⟨rfl,by trivial⟩,rfl⟩
  grind
 grind
theorem OE{P:Program}{G:dq}(T:cQ P G){gl:Ctx}{σ:St}{E:Env}{a:Act}{w:World}(h:dE gl σ E a w){o:Oper}{ev:Operand→AV}{r:jv}
 (hev:∀x∈o.op.operands.toList,RV E w (ev x) (a.eval x)) (he:AI G o.op ev=some r):dz P gl σ E a w o r:=by
 unfold AI at he
 split at he
 ·rename_i t x hop
  obtain⟨u,hu,rfl⟩:=Option.map_eq_some_iff.1 he
  obtain⟨v,h1,h2⟩:=I3 T (hev x (by simp[hop,Op.operands])) hu
  exact dz.same h (v:=v) (by simp[execOp,hop,h1]) h2
 ·rename_i x xt s hop
  obtain⟨u,hu,rfl⟩:=Option.map_eq_some_iff.1 he
  obtain⟨v,h1,h2⟩:=F4 (xt:=xt) T (hev x (by simp[hop,Op.operands])) hu
  exact dz.same h (v:=v) (by simp[execOp,hop,h1]) h2
 grind
end Go.Ax
namespace Go.Ax
section
variable{P:Program} {G:dq} (T:cQ P G) {E:Env} {w:World} {α:Type} {kt:Ty}
def RK(E:Env)(w:World)(kt:Ty):List MapEntry→List (kt.den×α)→Prop
 |[],[]=>True
 |e::es,x::xs=>ew E w (.val kt x.1) e.key∧RK E w kt es xs
 |_,_=>False
theorem RK.at:∀{es:List (kt.den×α)}{en:List MapEntry},en.length=es.length→(∀(i:Nat) x,es[i]? =some x→∃m,en[i]? =some m∧ew E w (.val kt x.1) m.key)→RK E w kt en es
 |[],[],_,_=>trivial
 |[],_::_,hl,_=>by simp at hl
 |_::_,[],hl,_=>by simp at hl
 |
  x::es,m::en,hl,h=>by
  obtain⟨u,h1,h2⟩:=h 0 x rfl
  simp at h1;subst h1
  exact⟨h2,RK.at (by simpa using hl) (fun i y hy=>by simpa using h (i+1) y (by simpa using hy))⟩
def BU(l:List MapEntry)(i0:Nat):Option (Nat×α)→Option (Nat×Value)→Prop
 |none,none=>True
 |some x,some y=>x.1=y.1∧i0≤x.1∧∃e,l[x.1 -i0]? =some e∧e.val=y.2
 |_,_=>False
theorem BU.up{e:MapEntry}{l:List MapEntry}{i:Nat}{x:Option (Nat×α)}{y:Option (Nat×Value)}(h:BU l (i+1) x y):BU (e::l) i x y:=by
 cases x with
 |
  none=>cases y with
  |none=>trivial
  |some _=>trivial
 |
  some x=>cases y with
  |none=>trivial
  |
   some y=>
   obtain⟨h1,h2,m,h3,h4⟩:=h
   refine⟨h1,by omega,m,?_,h4⟩<;>grind
include T in
theorem xE{t:TypeId}{td:TD}(ht:G.at t=some td)(he:mD P G 40 t td.ty=true){k:td.ty.den}{v:Value}(hv:ew E w (.val td.ty k) v):∀{l:List MapEntry}{es:List (td.ty.den×α)}(i:Nat),RK E w td.ty l es→
 ∃r,(Instr.findAsking t v l i).run P w= .ok r w∧BU l i (gN td.ty k es i) r
 |[],[],i,_=>⟨none,by trivial,trivial⟩
 |[],_::_,_,h=>h.elim
 |_::_,[],_,h=>h.elim
 |
  e::l,x::es,i,⟨h1,h3⟩=>by
  have hq:(Op.equal t v e.key).run P w= .ok (bM td.ty k x.1) w:=yi T (E:=E) (w:=w) (Op.maxDepth -40) 40 t td ht he k x.1 v e.key hv h1
  cases hb:bM td.ty k x.1 with
  |true=>exact⟨some (i,e.val),by simp[Instr.findAsking,hq,hb],by simp only[gN,hb,cC];exact⟨rfl,cV _,e,by simp,rfl⟩⟩
  |
   false=>
   obtain⟨r,r1,r2⟩:=xE ht he hv (i+1) h3
   exact⟨r,by simp[Instr.findAsking,hq,hb,r1],by simp only[gN,hb];exact r2.up⟩
theorem F5{d:TypeDesc}{k:kt.den}{v:Value}(hv:ew E w (.val kt k) v):∀{l:List MapEntry}{es:List (kt.den×α)}(i:Nat){r:Option (Nat×Value)},RK E w kt l es→Instr.findNow d v l i=some r→BU l i (gN kt k es i) r
 |[],[],i,r,_,h=>by simp[Instr.findNow] at h;subst h;trivial
 |[],_::_,_,_,h,_=>h.elim
 |_::_,[],_,_,h,_=>h.elim
 |
  e::l,x::es,i,r,⟨h1,h3⟩,h=>by
  simp only[Instr.findNow] at h
  split at h
  ·rename_i hs
   have:=pS hv h1 hs
   cases h
   simp only[gN,←this,cC];exact⟨rfl,cV _,e,by simp,rfl⟩
  ·rename_i hs
   have:=pS hv h1 hs
   simp only[gN,←this,dv,dc]
   exact(F5 hv (i+1) h3 h).up
  ·cases h
include T in
theorem F6{t:TypeId}{td:TD}(ht:G.at t=some td)(he:mD P G 40 t td.ty=true){k:td.ty.den}{v:Value}(hv:ew E w (.val td.ty k) v){l:List MapEntry}{es:List (td.ty.den×α)}(h:RK E w td.ty l es):
 ∃r,(Instr.findKey t v l).run P w= .ok r w∧BU l 0 (gN td.ty k es 0) r:=by
 obtain⟨ii,dd,_,hu,_⟩:=T.info ht
 unfold Instr.findKey
 simp only[Sem.run_bind,run_underlying hu,Result.andThen_ok]
 split
 ·rename_i r hr
  exact⟨r,rfl,F5 hv 0 h hr⟩
 ·exact xE T ht he hv 0 h
end
theorem ur{α:Type}{kt:Ty}(hk:kt.keyed=true){k:kt.den}:∀{es:List (kt.den×α)}{i j:Nat}{y:α},gN kt k es i=some (j,y)→i≤j∧es[j -i]? =some (k,y)
 |[],i,j,y,h=>by trivial
 |
  x::es,i,j,y,h=>by
  simp only[gN] at h
  split at h
  ·rename_i hb
   cases h
   simp_all[dT]
  ·obtain⟨h1,h2⟩:=ur hk h
   grind
theorem uu{α:Type}{kt:Ty}(hk:kt.keyed=true){k:kt.den}:∀{es:List (kt.den×α)}{i:Nat},gN kt k es i=none→k∉es.map (·.1)
 |[],i,h=>by simp
 |
  x::es,i,h=>by
  simp only[gN] at h
  split at h
  ·cases h
  ·rename_i hb
   have h2:=uu hk h
   simp_all[dT]
theorem D7{α:Type}{kt:Ty}(hk:kt.keyed=true){k:kt.den}{y:α}:∀{es:List (kt.den×α)}{i:Nat}{z:α},(es.map (·.1)).Nodup→es[i]? =some (k,z)→bK kt k y es=es.set i (k,y)
 |[],i,z,_,h=>by simp at h
 |
  x::es,0,z,_,h=>by
  simp_all[bK,dT]
 |
  x::es,i+1,z,hn,h=>by
  simp only[zg] at h
  simp only[fp,lE] at hn
  have hne:bM kt k x.1=false:=by
   cases hb:bM kt k x.1 with
   |false=>rfl
   |
    true=>
    have e:=(dT hk _ _).1 hb
    exact absurd (List.mem_map.2 ⟨_,n8 h,e⟩) hn.1
  simp only[bK,hne,List.set_cons_succ]
  rw[D7 hk hn.2 h];rfl
theorem mA{α:Type}{kt:Ty}(hk:kt.keyed=true){k:kt.den}{y:α}:∀{es:List (kt.den×α)},k∉es.map (·.1)→bK kt k y es=es++[(k,y)]
 |[],_=>rfl
 |
  x::es,h=>by
  simp only[fp,eN,not_or] at h
  have hne:bM kt k x.1=false:=by
   cases hb:bM kt k x.1 with
   |false=>rfl
   |true=>exact absurd ((dT hk _ _).1 hb) h.1
  simp only[bK,hne]
  rw[mA hk h.2];rfl
theorem D8{α:Type}{kt:Ty}{k:kt.den}{es:List (kt.den×α)}(hn:(es.map (·.1)).Nodup){i j:Nat}{y z:α}(h1:es[i]? =some (k,y))(h2:es[j]? =some (k,z)):i=j:=by
 have hi:i<(es.map (·.1)).length:=by grind
 have e1:(es.map (·.1))[i]? =some k:=by grind
 have e2:(es.map (·.1))[j]? =some k:=by grind
 grind [List.getElem?_inj]
theorem il{α:Type}{kt:Ty}(hk:kt.keyed=true){k:kt.den}:∀{es:List (kt.den×α)},ep kt k es=true↔k∈es.map (·.1)
 |[]=>by simp[ep]
 |
  x::es=>by
  simp only[ep,jV,fp,eN,il hk,dT hk]
end Go.Ax
namespace Go.Ax
def Ty.Tj:Ty→Bool
 | .map _ _| .slice _ _=>true
 |_=>false
def Ty.Bk:Ty→Bool
 | .map _ _=>true
 |_=>false
theorem D9{P:Program}{G:dq}(T:cQ P G){t:TypeId}{td:TD}(ht:G.at t=some td)(hs:td.ty.Tj=true)(w:World):(zeroValue t).run P w= .ok (zeroV td.ty) w:=by
 obtain⟨z,z1,z2,z3⟩:=T.zero ht w
 rw[z1]
 congr 1
 cases hty:td.ty with
 |
  slice bs u=>
  rw[hty] at z2 z3
  cases z with
  |agg cs=>trivial
  |
   slice a n c=>
   have z2:isZero (.slice bs u) (.slice a n c)=true:=z2
   cases a with
   |some _=>trivial
   |
    none=>
    simp only[isZero,bP] at z2
    have e1:=dm z2.1.2;have e2:=dm z2.2
    subst e1;subst e2;rfl
  |_=>trivial
 |
  map k u=>
  rw[hty] at z2 z3
  cases z with
  |agg cs=>trivial
  |
   map a=>
   have z2:isZero (.map k u) (.map a)=true:=z2
   cases a with
   |some _=>trivial
   |none=>rfl
  |_=>trivial
 |_=>rw[hty] at hs;trivial
theorem fq.aiX{w:World}{S:Nat→Prop}{e:TypeId}{t:Ty}{v:Value}{og:Option Nat}{x:t.den}(ht:t.Bk=true)(h:fq w S e t v og x):∃g,v= .map (some g):=by
 cases t with
 |map k u=>obtain⟨es',_,_,_,gg,_,_,_,e,_⟩:=h;grind
 |_=>cases ht
theorem BV{t:Ty}(ht:t.Bk=true):zeroV t= .map none:=by
 cases t with
 |map k u=>rfl
 |_=>cases ht
theorem OF{t:Ty}(ht:t.Bk=true):t.Tj=true:=by
 cases t with
 |map k u=>rfl
 |_=>cases ht
def vN(P:Program)(G:dq)(hb:Nat→Option aX)(t:TypeId)(x i:AV):Option (AV×List VC):=
 match pT G t,x with
 |
  some (ke,_,kt,vt),.mp b=>match hb b with
  |some (.pmap k u es _ f)=>if h:Ty.same k kt=true∧Ty.same u vt=true then(match i.de kt,f with
   |some k',some (kx,v,_)=>if i.plain&&v.plain&& !v.isAgg&&u.Tj then some (v,[vc (mD P G 40 ke kt=true),vc (bM kt k' (Ty.aE h.1▸kx:kt.den)=true)]) else none
   |some k',none=>if i.plain&&u.Bk then some (.nq (!(ep kt k' (Ty.aE h.1▸es:List (kt.den×u.den)))),[vc (mD P G 40 ke kt=true)]) else none
   |_,_=>none) else none
  |_=>none
 |_,_=>none
theorem tj{P:Program}{G:dq}(T:cQ P G){E:Env}{w:World}{b:Nat}{ke:TypeId}{kd:TD}{vt:Ty}{es:List (kd.ty.den×vt.den)}{e2:TypeId}{f:Option (kd.ty.den×AV×Bool)}(hk:kd.ty.keyed=true)(h4:G.at ke=some kd)(he:mD P G 40 ke kd.ty=true)
 (hrb:RB E w b (.pmap kd.ty vt es e2 f)) {k':kd.ty.den} {vi:Value} (hkv:ew E w (.val kd.ty k') vi):
 ∃g en clock r,E.g b=some g∧w.heap[g]? =some (.map en clock)∧(∀em,(Instr.checkKey em 10000 ke vi).run P w= .ok () w)∧(Instr.findKey ke vi en.toList).run P w= .ok r w∧
  ((r=none∧k'∉es.map (·.1))∨∃i y m,r=some (i,m.val)∧es[i]? =some (k',y)∧en[i]? =some m):=by
 obtain⟨h1,h2,h3,g,en,clock,og,q1,q2,q3,q4,q5,q6,q7,q8⟩:=hrb
 have hrk:RK E w kd.ty en.toList es:=RK.at (by grind) (fun i x hx=>by
  grind)
 obtain⟨r,r1,r2⟩:=F6 T h4 he hkv hrk
 refine⟨g,en,clock,r,q1,q2,fun em=>mu T (E:=E) (w:=w) em 9960 40 ke kd h4 he k' vi hkv,r1,?_⟩
 cases hf:gN kd.ty k' es 0 with
 |
  none=>
  rw[hf] at r2
  cases r with
  |none=>exact Or.inl ⟨rfl,uu hk hf⟩
  |some _=>trivial
 |
  some p=>
  obtain⟨i,y⟩:=p
  rw[hf] at r2
  cases r with
  |none=>trivial
  |
   some q=>
   obtain⟨i',u⟩:=q
   obtain⟨e1,_,m,e2,e3⟩:=r2
   simp only[Nat.sub_zero] at e1 e2 e3
   subst e1;subst e3
   have:=(ur hk hf).2
   grind
theorem I4{P:Program}{G:dq}(T:cQ P G){gl:Ctx}{E:Env}{w:World}{hp:List (Option aX)}(hw:HW gl E w hp){hb:Nat→Option aX}(hB:HB hb hp){t:TypeId}{x i:AV}{vx vi:Value}(hx:RV E w x vx)(hi:RV E w i vi){r:AV}{vcs:List VC}(h:vN P G hb t x i=some (r,vcs))(hvc:gm vcs):
 ∃v,(Instr.lookup t vx vi false).run P w= .ok v w∧RV E w r v:=by
 unfold vN at h
 split at h
 ·rename_i ke ve kt vt b hm
  obtain⟨hu,hke,_,⟨kd,h4,h5⟩,⟨vd,h6,h7⟩⟩:=lQ T hm
  subst h5;subst h7
  split at h
  ·rename_i k u es e2 f hbk
   split at h
   ·rename_i hc
    obtain⟨c1,c2⟩:=hc
    have e1:=Ty.aE c1;subst e1
    have e2':=Ty.aE c2;subst e2'
    have hrb:=hw.eJ b _ (hB b _ hbk)
    obtain⟨g0,hg0,ex⟩:=RV.atom rfl hx
    simp at ex;subst ex
    split at h
    ·rename_i k' kx v pr hk'
     split at h
     ·rename_i hpl
      simp only[fG,jb] at h
      obtain⟨er,ev⟩:=h
      subst ev
      rw[←er]
      simp only[bP,lF] at hpl
      obtain⟨⟨⟨p1,p2⟩,p3⟩,p4⟩:=hpl
      obtain⟨he,hkx,_⟩:=hvc
      have hkx:k'=kx:=(dT hke _ _).1 hkx
      subst hkx
      have hkv:=ew.de hk' (RV.mN p1 hi)
      obtain⟨g,en,clock,r,q1,q2,q3,q4,q5⟩:=tj T hke h4 he hrb hkv
      rw[q1] at hg0
      have hg0:=fP hg0
      subst hg0
      have apf:(getObj g).run P w= .ok (.map en clock) w:=by simp[getObj,Sem.run,q2]
      obtain⟨z1,z2,z3,g',en',apb,og,y1,y2,y3,y4,y5,y6,y7,y8⟩:=hrb
      rw[q1] at y1;cases y1
      rw[q2] at y2;cases y2
      rcases q5 with⟨e,hn⟩|⟨j,y,m,e,s1,s2⟩
      ·subst e
       refine⟨zeroV vd.ty,by simp only[Instr.lookup,Sem.run_bind,run_underlying hu,Result.andThen_ok,Sem.run_pure,apf,q3,q4,D9 T h6 p4];rfl,RV.gZ (Or.inr ⟨p3,?_⟩)⟩
       cases pr<;>grind
      ·subst e
       obtain⟨m',t1,_,t3,_⟩:=y7 j _ s1
       rw[s2] at t1;cases t1
       exact⟨m.val,by simp only[Instr.lookup,Sem.run_bind,run_underlying hu,Result.andThen_ok,Sem.run_pure,apf,q3,q4];rfl,RV.gZ (Or.inr ⟨p3,(t3 v pr rfl).2⟩)⟩
     grind
    ·rename_i k' hk'
     split at h
     ·rename_i hpl
      cases h
      simp only[bP] at hpl
      obtain⟨p1,p4⟩:=hpl
      obtain⟨he,_⟩:=hvc
      have hkv:=ew.de hk' (RV.mN p1 hi)
      obtain⟨g,en,clock,r,q1,q2,q3,q4,q5⟩:=tj T hke h4 he hrb hkv
      rw[q1] at hg0
      have hg0:=fP hg0
      subst hg0
      have apf:(getObj g).run P w= .ok (.map en clock) w:=by simp[getObj,Sem.run,q2]
      obtain⟨z1,z2,z3,g',en',apb,og,y1,y2,y3,y4,y5,y6,y7,y8⟩:=hrb
      rw[q1] at y1;cases y1
      rw[q2] at y2;cases y2
      have hz:=D9 T h6 (OF p4) w
      rcases q5 with⟨e,hn⟩|⟨j,y,m,e,s1,s2⟩
      ·subst e
       refine⟨zeroV vd.ty,by simp only[Instr.lookup,Sem.run_bind,run_underlying hu,Result.andThen_ok,Sem.run_pure,apf,q3,q4,hz];rfl,RV.gZ (Or.inr ⟨rfl,none,by rw[BV p4],?_⟩)⟩
       grind [il]
      ·subst e
       obtain⟨m',t1,_,_,t4⟩:=y7 j _ s1
       rw[s2] at t1;cases t1
       obtain⟨gg,hmv⟩:=(t4 (fun v pr hv=>by cases hv)).aiX p4
       refine⟨m.val,by simp only[Instr.lookup,Sem.run_bind,run_underlying hu,Result.andThen_ok,Sem.run_pure,apf,q3,q4];rfl,RV.gZ (Or.inr ⟨rfl,some gg,by rw[hmv],?_⟩)⟩
       have hm:ep kd.ty k' es=true:=(il hke).2 (List.mem_map.2 ⟨_,n8 s1,rfl⟩)
       grind
     grind
    grind
   grind
  grind
 grind
end Go.Ax
namespace Go.Ax
def tO(kt vt:Ty)(kx:kt.den)(es:List (kt.den×vt.den)):Bool→List (kt.den×vt.den)
 |true=>es
 |false=>bK kt kx vt.aH es
def I5(P:Program)(G:dq)(hb:Nat→Option aX)(t:TypeId)(x k v:AV):Option jv:=
 match pT G t,x with
 |
  some (ke,_,kt,vt),.mp b=>match hb b with
  |some (.pmap k0 u es e2 (some (kx,_,pr)))=>if h:Ty.same k0 kt=true∧Ty.same u vt=true then(match k.de kt with
   |some k'=>if k.plain&&v.plain&& !v.isAgg&&v.dY u then some ⟨.bot,[(b,some (.pmap k0 u (tO k0 u kx es pr) e2 (some (kx,v,true))))],[],[vc (mD P G 40 ke kt=true),vc (bM kt k' (Ty.aE h.1▸kx:kt.den)=true),vc (es.length+1≤aF)]⟩ else none
   |none=>none) else none
  |_=>none
 |_,_=>none
theorem xF{en:Array MapEntry}{i:Nat}{f:MapEntry→MapEntry}(hf:∀e,(f e).born=e.born):(en.modify i f).toList.map (·.born)=en.toList.map (·.born):=by
 rw[Array.toList_modify]
 apply List.ext_getElem?
 grind
theorem KE{E:Env}{w:World}{b:Nat}{kt vt:Ty}{es:List (kt.den×vt.den)}{e2:TypeId}{v0 v:AV}{pr:Bool}{kx:kt.den}(hke:kt.keyed=true)(hrb:PM E w b kt vt es e2 (some (kx,v0,pr))){g:Nat}{en:Array MapEntry}{clock:Nat}(q1:E.g b=some g)(q2:w.heap[g]? =some (.map en clock))(hn:kx∉es.map (·.1))
 {vk vv:Value} (hkv:ew E w (.val kt kx) vk) (hvv:RC E w v [vv]) (hc:v.dY vt=true) (hlen:es.length+1≤aF) (kpo:∀o,di E w E (w.putObj g o)):
 pr=false∧es.length=en.size∧PM E (w.putObj g (.map (en.push {key:=vk,val:=vv,born:=clock}) (clock+1))) b kt vt (bK kt kx vt.aH es) e2 (some (kx,v,true)):=by
 obtain⟨z1,z2,z3,g',en',apb,og,y1,y2,y3,y4,y5,y6,y7,y8⟩:=hrb
 rw[q1] at y1;cases y1
 rw[q2] at y2;cases y2
 have hlt:g<w.heap.size:=(Array.getElem?_eq_some_iff.1 q2).1
 have sub:∀o j(t:Ty)(u:Value)(x:t.den),fq w E.S e2 t u (og j) x→fq (w.putObj g o) E.S e2 t u (og j) x:=fun o j t u x hs=>
  fq.mono (kpo o).w (kpo o).S (fun gg hgg=>World.putObj_heap_other (y5.own j gg hgg).2) hs
 have hpr:pr=false:=by
  cases pr<;>grind
 refine⟨hpr,y6.symm,?_⟩
 have hes:bK kt kx vt.aH es=es++[(kx,vt.aH)]:=mA hke hn
 refine⟨fJ hke z1,cW dp hlen,fun kx' v' pr' hv'=>by grind,g,_,_,fun j=>if j=es.length then none else og j,q1,World.putObj_heap_same hlt,?_,?_,⟨?_,?_⟩,?_,?_,?_⟩
 ·grind
 ·grind
 ·intro j u hj
  have hj:(if j=es.length then none else og j)=some u:=hj
  split at hj
  ·cases hj
  ·exact y5.own j u hj
 ·intro j j' u hj hj'
  have hj:(if j=es.length then none else og j)=some u:=hj
  have hj':(if j'=es.length then none else og j')=some u:=hj'
  split at hj
  ·cases hj
  ·split at hj'
   ·cases hj'
   ·exact y5.inj j j' u hj hj'
 ·grind
 ·rw[hes]
  intro j x hx
  by_cases hj:j<es.length
  ·rw[List.getElem?_append_left hj] at hx
   obtain⟨m,t1,t2,t3,t4⟩:=y7 j x hx
   have hne:j≠es.length:=by omega
   have hxk:x.1≠kx:=fun e=>hn (List.mem_map.2 ⟨x,n8 hx,e⟩)
   refine⟨m,by rw[Array.getElem?_push_lt (by rw[y6];exact hj)];have t1:=t1;rw[Array.getElem?_eq_getElem (by rw[y6];exact hj)] at t1;exact t1,ew.mono (kpo _) (fun _ hb=>by cases hb) t2,fun v' pr' hv'=>(by cases hv';exact absurd rfl hxk),fun _=>?_⟩<;>grind
  ·have hj2:j=es.length:=by
    grind
   subst hj2
   simp at hx;subst hx
   refine⟨{key:=vk,val:=vv,born:=clock},by grind,ew.mono (kpo _) (fun _ hb=>by cases hb) hkv,fun v' pr' hv'=>?_,fun hv'=>absurd rfl (hv' v true)⟩
   cases hv'
   exact⟨aA rfl,RC.mono (kpo _) (fun _ _=>⟨rfl,rfl,rfl⟩) hvv⟩
 grind
theorem I6{E:Env}{w:World}{b:Nat}{kt vt:Ty}{es:List (kt.den×vt.den)}{e2:TypeId}{v0 v:AV}{pr:Bool}{kx:kt.den}(hke:kt.keyed=true)(hrb:PM E w b kt vt es e2 (some (kx,v0,pr))){g:Nat}{en:Array MapEntry}{clock:Nat}(q1:E.g b=some g)(q2:w.heap[g]? =some (.map en clock))
 {i:Nat} {y:vt.den} {m:MapEntry} (s1:es[i]? =some (kx,y)) (s2:en[i]? =some m) (f:MapEntry→MapEntry) (hf:∀e,(f e).born=e.born) (hkv:ew E w (.val kt kx) (f m).key) (hvv:RC E w v [(f m).val]) (hc:v.dY vt=true) (kpo:∀o,di E w E (w.putObj g o)):
 (∃y',tO kt vt kx es pr=es.set i (kx,y'))∧ew E w (.val kt kx) m.key∧RC E w v0 [m.val]∧PM E (w.putObj g (.map (en.modify i f) clock)) b kt vt (tO kt vt kx es pr) e2 (some (kx,v,true)):=by
 obtain⟨z1,z2,z3,g',en',apb,og,y1,y2,y3,y4,y5,y6,y7,y8⟩:=hrb
 rw[q1] at y1;cases y1
 rw[q2] at y2;cases y2
 have hlt:g<w.heap.size:=(Array.getElem?_eq_some_iff.1 q2).1
 have sub:∀o j(t:Ty)(u:Value)(x:t.den),fq w E.S e2 t u (og j) x→fq (w.putObj g o) E.S e2 t u (og j) x:=fun o j t u x hs=>
  fq.mono (kpo o).w (kpo o).S (fun gg hgg=>World.putObj_heap_other (y5.own j gg hgg).2) hs
 obtain⟨m',t1,t2,t3,t4⟩:=y7 i _ s1
 rw[s2] at t1;cases t1
 have hi:i<es.length:=(List.getElem?_eq_some_iff.1 s1).1
 have hog:og i=none:=(t3 v0 pr rfl).1
 have hes:∃y',tO kt vt kx es pr=es.set i (kx,y'):=by
  cases pr with
  |
   true=>
   refine⟨y,?_⟩
   show es=_
   apply List.ext_getElem?
   grind
  |false=>exact⟨vt.aH,D7 hke z1 s1⟩
 refine⟨hes,t2,(t3 v0 pr rfl).2,?_⟩
 obtain⟨y',hes⟩:=hes
 have hnd:((tO kt vt kx es pr).map (·.1)).Nodup:=by
  cases pr with
  |true=>exact z1
  |false=>exact fJ hke z1
 refine⟨hnd,by grind,fun kx' v' pr' hv'=>by grind,g,_,_,og,q1,World.putObj_heap_same hlt,?_,?_,y5,?_,?_,?_⟩
 ·intro x hx
  have hb:x.born∈(en.modify i f).toList.map (·.born):=List.mem_map.2 ⟨x,hx,rfl⟩
  grind [xF]
 ·rw[xF hf];exact y4
 ·grind
 ·rw[hes]
  intro j x hx
  rw[fY] at hx
  by_cases hne:i=j
  ·subst hne
   rw[aA rfl,aA hi] at hx
   cases hx
   refine⟨f m,by grind,ew.mono (kpo _) (fun _ hb=>by cases hb) hkv,fun v' pr' hv'=>?_,fun hv'=>absurd rfl (hv' v true)⟩
   cases hv'
   exact⟨hog,RC.mono (kpo _) (fun _ _=>⟨rfl,rfl,rfl⟩) hvv⟩
  ·rw[aB hne] at hx
   obtain⟨m2,t1,t2,t3,t4⟩:=y7 j x hx
   have hxk:x.1≠kx:=fun e=>by
    grind [D8]
   refine⟨m2,by rw[Array.getElem?_modify,aB hne];exact t1,ew.mono (kpo _) (fun _ hb=>by cases hb) t2,fun v' pr' hv'=>(by cases hv';exact absurd rfl hxk),fun _=>?_⟩<;>grind
 ·intro kx' v'
  refine⟨fun hf=>(by cases hf),fun hf=>?_⟩
  cases hf
  rw[hes]
  exact List.mem_map.2 ⟨(kx,y'),n8 (i:=i) (by grind),rfl⟩
theorem Mf{P:Program}{G:dq}(T:cQ P G){gl:Ctx}{σ:St}{E:Env}{a:Act}{w:World}(h:dE gl σ E a w){hb:Nat→Option aX}(hB:HB hb σ.hp){t:TypeId}{x k v:AV}{vx vk vv:Value}(hx:RV E w x vx)(hk:RV E w k vk)(hv:RV E w v vv){r:jv}(he:I5 P G hb t x k v=some r)(hvc:gm r.vc):
 ∃w',(Instr.mapUpdate t vx vk vv).run P w= .ok () w'∧dE gl {σ with hp:=bJ σ.hp r.hw} E a w'∧RV E w' r.v undef∧Ext gl.md (cU σ.hp E) E w (cU (bJ σ.hp r.hw) E) E w':=by
 unfold I5 at he
 split at he
 ·rename_i ke ve kt vt b hm
  obtain⟨hu,hke,_,⟨kd,h4,h5⟩,⟨vd,h6,h7⟩⟩:=lQ T hm
  subst h5;subst h7
  split at he
  ·rename_i k0 u es e2 kx v0 pr hbk0
   split at he
   ·rename_i hc
    obtain⟨c1,c2⟩:=hc
    have e1:=Ty.aE c1;subst e1
    have e2':=Ty.aE c2;subst e2'
    split at he
    ·rename_i k' hk'
     split at he
     ·rename_i hpl
      cases he
      simp only[bP,lF] at hpl
      obtain⟨⟨⟨p1,p2⟩,p3⟩,p4⟩:=hpl
      obtain⟨he,hkx,hlen,_⟩:=hvc
      have hkx:k'=kx:=(dT hke _ _).1 hkx
      subst hkx
      have hkv:ew E w (.val kd.ty k') vk:=ew.de hk' (RV.mN p1 hk)
      have hvv:RC E w v [vv]:=by
       rcases RV.mN p2 hv with⟨hh,_⟩|⟨_,hh⟩<;>grind
      have hbk:=hB b _ hbk0
      have hrb:=h.hw.eJ b _ hbk
      obtain⟨g0,hg0,ex⟩:=RV.atom rfl hx
      simp at ex;subst ex
      obtain⟨g,en,clock,r,q1,q2,q3,q4,q5⟩:=tj T hke h4 he hrb hkv
      rw[q1] at hg0
      have hg0:=fP hg0
      subst hg0
      have apf:(getObj g).run P w= .ok (.map en clock) w:=by simp[getObj,Sem.run,q2]
      have bJ:∀o,(setObj g o).run P w= .ok () (w.putObj g o):=fun o=>by simp[setObj,Sem.run,q2,World.putObj]
      have kpo:∀o,di E w E (w.putObj g o):=fun o=>⟨fun i hi=>World.putObj_heap_other (fun e=>h.hw.oM b _ g hbk q1 (e▸hi)),fun _ h=>h⟩
      have key:∃en' apb,(Instr.mapUpdate t (.map (some g)) vk vv).run P w= .ok () (w.putObj g (.map en' apb))∧RB E (w.putObj g (.map en' apb)) b (.pmap kd.ty vd.ty (tO kd.ty vd.ty k' es pr) e2 (some (k',v,true))):=by
       rcases q5 with⟨e,hn⟩|⟨i,y,m,e,s1,s2⟩
       ·subst e
        obtain⟨hpr,_,hpm⟩:=KE hke hrb q1 q2 hn hkv hvv p4 hlen kpo
        subst hpr
        exact⟨_,_,by simp_all[Instr.mapUpdate,run_underlying],hpm⟩
       ·subst e
        obtain⟨_,t2,_,hpm⟩:=I6 hke hrb q1 q2 s1 s2 (fun e=>{e with key:=vk,val:=vv}) (fun _=>rfl) hkv hvv p4 kpo
        obtain⟨f1,f2⟩:=ew.fn hke t2 hkv
        have hold:((en[i]?).map (·.key)).getD vk=m.key:=by grind
        have hstay:(Instr.keyThatStays (((en[i]?).map (·.key)).getD vk) vk).run P w= .ok vk w:=by
         simp_all[Instr.keyThatStays]
        exact⟨_,_,by simp_all[Instr.mapUpdate,run_underlying],hpm⟩
      obtain⟨en',apb,k1,hrb2⟩:=key
      have kp:=kpo (.map en' apb)
      have hw2:=h.hw.write hbk (by simp) (fun i hi=>World.putObj_heap_other (fun e=>hi (by grind))) hrb2
      refine⟨_,k1,h.carry kp (fun _ _=>⟨rfl,rfl,rfl⟩) hw2,trivial,⟨rfl,Tp.r rfl rfl,rfl,by simp,?_,fun _ h=>h,fun _ h=>Or.inl h,fun i hi=>Or.inl (cU.rN hbk hi),fun _ _=>⟨rfl,rfl,rfl⟩⟩⟩
      intro i hi ho
      exact World.putObj_heap_other (fun e=>ho ⟨b,_,hbk,by rw[e];exact Or.inl q1⟩)
     grind
    grind
   grind
  grind
 grind
end Go.Ax
namespace Go.Ax
def AJ(P:Program)(G:dq)(op:Op)(ev:Operand→AV)(hb:Nat→Option aX):Option jv:=
 match op with
 | .lookup t x i false=>(vN P G hb t (ev x) (ev i)).map .PC
 | .mapUpdate t x k v=>I5 P G hb t (ev x) (ev k) (ev v)
 |_=>none
theorem OG{P:Program}{G:dq}(T:cQ P G){gl:Ctx}{σ:St}{E:Env}{a:Act}{w:World}(h:dE gl σ E a w){o:Oper}{ev:Operand→AV}{hb:Nat→Option aX}(hB:HB hb σ.hp){r:jv}
 (hev:∀x∈o.op.operands.toList,RV E w (ev x) (a.eval x)) (he:AJ P G o.op ev hb=some r) (hvc:gm r.vc):dz P gl σ E a w o r:=by
 unfold AJ at he
 split at he
 ·rename_i t x i hop
  obtain⟨⟨u,vc⟩,hu,rfl⟩:=Option.map_eq_some_iff.1 he
  obtain⟨v,h1,h2⟩:=I4 T h.hw hB (hev x (by simp[hop,Op.operands])) (hev i (by simp[hop,Op.operands])) hu hvc
  exact dz.same h (v:=v) (by simp[execOp,hop,h1]) h2
 ·rename_i t x k v hop
  obtain⟨w',h1,h2,h3,h4⟩:=Mf T h hB (hev x (by simp[hop,Op.operands])) (hev k (by simp[hop,Op.operands])) (hev v (by simp[hop,Op.operands])) he hvc
  exact⟨_,undef,w',E,by simp[execOp,hop,h1],Or.inr ⟨rfl,rfl⟩,h2,h3,h4⟩
 grind
end Go.Ax
namespace Go.Ax
def Ea(G:dq)(d:Nat)(t:TypeId)(x:AV):Option jv:=
 match pT G t with
 |
  some (_,_,kt,vt)=>match x with
  | .val (.map k v) y=>some ⟨.ptr d [],[(d,some (.qX k v (bA y) none))],[d],[]⟩
  | .ia=>some ⟨.ptr d [],[(d,some (.qX kt vt [] none))],[d],[]⟩
  |_=>none
 |none=>none
def Eb(hb:Nat→Option aX)(x:AV):Option AV:=
 match x with
 |
  .ptr b []=>match hb b with
  |some (.qX k v _ (some c))=>some (.ky (.cons (.val k c.1) (.cons (.val v c.2) .nil)))
  |_=>none
 |_=>none
theorem Mg(en:Array MapEntry):od en #[]=en:=by simp[od]
theorem Ec{P:Program}(w:World)(g bm since:Nat)(seen:Array Nat)(es:Array MapEntry)(clock:Nat)(e:MapEntry)(hg:w.heap[g]? =some (.mapIter (some bm) since (seen.push e.born) clock))(hb:w.heap[bm]? =some (.map es clock))(he:e∈es.toList)(hn:(es.toList.map (·.born)).Nodup):
 (Instr.entry (.pointer (some ⟨g,0,none⟩))).run P w= .ok (.tuple #[e.key,e.val]) w:=by
 have hf:es.find? (·.born==e.born)=some e:=by rw[←Array.find?_toList];exact find_born e es.toList hn he
 simp_all[Instr.entry,getObj,Sem.run]
theorem I7{P:Program}{G:dq}(T:cQ P G){gl:Ctx}{σ:St}{E:Env}{a:Act}{w:World}(h:dE gl σ E a w){d:Nat}{t:TypeId}{x:AV}{vx:Value}{r:jv}(hx:RV E w x vx)(he:Ea G d t x=some r)(hfr:∀b∈r.fr,σ.fresh b):
 ∃v w' E',(Instr.range t vx).run P w= .ok v w'∧dE gl {σ with hp:=bJ σ.hp r.hw} E' a w'∧RV E' w' r.v v∧Ext gl.md (cU σ.hp E) E w (cU (bJ σ.hp r.hw) E') E' w':=by
 unfold Ea at he
 split at he
 ·rename_i ke ve kt vt hm
  obtain⟨hu,_⟩:=lQ T hm
  have nilc:∀(k v:Ty),(∀b∈[d],σ.fresh b)→∃v' w' E',(Instr.range t (.map none)).run P w= .ok v' w'∧dE gl {σ with hp:=bJ σ.hp [(d,some (.qX k v [] none))]} E' a w'∧RV E' w' (.ptr d []) v'∧Ext gl.md (cU σ.hp E) E w (cU (bJ σ.hp [(d,some (.qX k v [] none))]) E') E' w':=by
   intro k v hf
   have hf:=hf d (by simp)
   obtain⟨g1,x1⟩:=h.fresh (w':=w.alloc (.mapIter none 0 #[] 0)) hf (g:=some w.heap.size) (sv:=undef) (t:=.unit) (k:=.qX k v [] none) rfl (Tp.r rfl rfl) rfl (by simp) (fun i hi=>heap_alloc_old w _ hi) (fun i hi=>by grind)
    ⟨w.heap.size,none,0, #[],0,by simp[Env.at],heap_alloc_new w _,Or.inl ⟨rfl,rfl,rfl⟩⟩
   exact⟨_,_,_,run_range_nilMap w t ke ve hu,g1,RV.gZ (Or.inr ⟨rfl,w.heap.size,by simp[Env.at],by simp[Env.at,Ty.off],by simp[Env.at,Ty.valid]⟩),x1⟩
  split at he
  ·rename_i k v y
   cases he
   obtain⟨a',e,hr⟩:=RV.atom rfl hx
   simp at e;subst e
   rcases hr with⟨rfl,rfl⟩|⟨es,g,en,clock,rfl,rfl,r1,r2,r3,_,_,r4,r5⟩
   ·exact nilc k v hfr
   ·have hf:=hfr d (by simp)
    have hgl:=h.hw.slt g r1
    have kp:di E w (E.at d (some w.heap.size) undef .unit) (w.alloc (.mapIter (some g) clock #[] clock)):=⟨fun b hb=>heap_alloc_old w _ (h.hw.slt b hb),fun b hb=>hb⟩
    obtain⟨g1,x1⟩:=h.fresh (w':=w.alloc (.mapIter (some g) clock #[] clock)) hf (g:=some w.heap.size) (sv:=undef) (t:=.unit) (k:=.qX k v es none) rfl (Tp.r rfl rfl) rfl (by simp) (fun i hi=>heap_alloc_old w _ hi) (fun i hi=>by grind)
     ⟨w.heap.size,some g,clock, #[],clock,by simp[Env.at],heap_alloc_new w _,Or.inr ⟨g,en,rfl,r1,by rw[heap_alloc_old w _ hgl];exact r2,rfl,r4,r5,by grind [Mg,RM.mono,RM.of],fun x hx=>by cases hx⟩⟩
    exact⟨_,_,_,run_range_map w t ke ve g en clock hu r2,g1,RV.gZ (Or.inr ⟨rfl,w.heap.size,by simp[Env.at],by simp[Env.at,Ty.off],by simp[Env.at,Ty.valid]⟩),x1⟩
  ·cases he
   obtain rfl:vx= .map none:=by have:=RV.atom rfl hx;simpa[RC] using this
   simp_all
  grind
 grind
theorem I8{P:Program}{gl:Ctx}{E:Env}{w:World}{hp:List (Option aX)}(hw:HW gl E w hp){hb:Nat→Option aX}(hB:HB hb hp){x r:AV}{vx:Value}(hx:RV E w x vx)(he:Eb hb x=some r):∃v,(Instr.entry vx).run P w= .ok v w∧RV E w r v:=by
 unfold Eb at he
 split at he
 ·rename_i b
  split at he
  ·rename_i k v rest c hk
   cases he
   obtain⟨g,om,since,seen,c0,q1,q2,q3⟩:=hw.eJ b _ (hB b _ hk)
   obtain⟨g',hg',ev,_⟩:=RV.atom rfl hx
   rw[q1] at hg';cases hg'
   simp at ev;subst ev
   rcases q3 with⟨_,_,h⟩|⟨bm,en,rfl,r2,r3,rfl,r5,r6,r7,r8⟩
   ·cases h
   ·obtain⟨e,s0,rfl,t2,t3,t4⟩:=r8 c rfl
    exact⟨_,by grind [Ty.off,Ec], #[e.key,e.val],rfl,t3,t4,rfl⟩
  grind
 grind
def AK(G:dq)(d:Nat)(op:Op)(ev:Operand→AV)(hb:Nat→Option aX):Option jv:=
 match op with
 | .range t x=>Ea G d t (ev x)
 | .entry x=>(Eb hb (ev x)).map .one
 |_=>none
theorem OH{P:Program}{G:dq}(T:cQ P G){gl:Ctx}{σ:St}{E:Env}{a:Act}{w:World}(h:dE gl σ E a w){o:Oper}{d:Nat}{ev:Operand→AV}{hb:Nat→Option aX}(hB:HB hb σ.hp){r:jv}
 (hev:∀x∈o.op.operands.toList,RV E w (ev x) (a.eval x)) (he:AK G d o.op ev hb=some r) (hfr:∀b∈r.fr,σ.fresh b):dz P gl σ E a w o r:=by
 unfold AK at he
 split at he
 ·rename_i t x hop
  obtain⟨v,w',E',h1,h2,h3,h4⟩:=I7 T (P:=P) h (hev x (by simp[hop,Op.operands])) he hfr
  exact⟨_,v,w',E',by simp[execOp,hop,h1],Or.inl rfl,h2,h3,h4⟩
 ·rename_i x hop
  obtain⟨u,hu,rfl⟩:=Option.map_eq_some_iff.1 he
  obtain⟨v,h1,h2⟩:=I8 (P:=P) h.hw hB (hev x (by simp[hop,Op.operands])) hu
  exact dz.same h (v:=v) (by simp[execOp,hop,h1]) h2
 grind
end Go.Ax
namespace Go.Ax
def Ed(G:dq)(hb:Nat→Option aX)(s d:TypeId)(x:AV):Option jv:=
 match G.at s,x with
 |
  some ts,.own b=>match ts.ty,hb b with
  | .slice 1 (.int .u8),some (.row _ 1 (.int .u8) xs)=>if Nat.beq s d then some ⟨.val (.slice 1 (.int .u8)) xs,[(b,none)],[],[vc (0<xs.length)]⟩ else none
  |_,_=>none
 |_,_=>none
theorem dE.gone{gl:Ctx}{σ:St}{E:Env}{a:Act}{w w':World}(h:dE gl σ E a w){b:Nat}{k:aX}(hbk:σ.hp[b]? =some (some k)){g:Nat}(hg:E.g b=some g)(hos:w'.os=w.os)(hta:Tp gl.md w w')(hou:w'.output=w.output)(hsz:w'.heap.size=w.heap.size)
 (hold:∀i,i≠g→w'.heap[i]? =w.heap[i]?):
 dE gl {σ with hp:=σ.hp.set b none} {E with S:=fun i=>E.S i∨i=g} a w'∧Ext gl.md (cU σ.hp E) E w (cU (σ.hp.set b none) {E with S:=fun i=>E.S i∨i=g}) {E with S:=fun i=>E.S i∨i=g} w':=by
 have hng:∀i,E.S i→i≠g:=fun i hi e=>h.hw.oM b k i hbk (by grind) hi
 have kp:di E w {E with S:=fun i=>E.S i∨i=g} w':=⟨fun i hi=>hold i (hng i hi),fun b hb=>Or.inl hb⟩
 have get:∀(c:Nat)(k':aX),(σ.hp.set b none)[c]? =some (some k')→c≠b∧σ.hp[c]? =some (some k'):=by
  grind
 have ne:∀(c:Nat)(k':aX)(g':Nat),(σ.hp.set b none)[c]? =some (some k')→E.has c g'→g'≠g:=by
  intro c k' g' hc hg' e
  obtain⟨h1,h2⟩:=get c k' hc
  subst e
  exact h1 (h.hw.gY c b k' k g' h2 hbk hg' (Or.inl hg))
 have hw:HW gl {E with S:=fun i=>E.S i∨i=g} w' (σ.hp.set b none):=by
  refine⟨fun c k' hc=>RB.mono kp (fun _ _=>⟨rfl,rfl,rfl⟩) (fun g' hg'=>hold g' (ne c k' g' hc hg')) (fun _ _ h=>h) (h.hw.eJ c k' (get c k' hc).2),fun c c' k1 k2 g' h1 h2=>h.hw.gY c c' k1 k2 g' (get c k1 h1).2 (get c' k2 h2).2,?_,?_,h.hw.kz kp,fun c k' g' hc hg'=>by have:=h.hw.xi c k' g' (get c k' hc).2 hg';omega⟩
  ·rintro c k' g' hc hg' (hs|hs)
   ·exact h.hw.fZ c k' g' (get c k' hc).2 hg' hs
   ·exact ne c k' g' hc hg' hs
  ·rintro g' (hs|hs)
   ·have:=h.hw.slt g' hs;omega
   ·have:=cU.below h.hw ⟨b,k,hbk,Or.inl hg⟩;omega
 refine⟨h.carry kp (fun _ _=>⟨rfl,rfl,rfl⟩) hw,hos,hta,hou,by omega,fun g' _ hn=>hold g' (fun e=>hn ⟨b,k,hbk,by rw[e];exact Or.inl hg⟩),fun g' hg'=>Or.inl hg',?_,?_,fun _ _=>⟨rfl,rfl,rfl⟩⟩
 ·rintro g' (hs|hs)
  ·grind
  ·subst hs;exact Or.inr (Or.inl ⟨b,k,hbk,Or.inl hg⟩)
 ·rintro g' ⟨c,k',hc,hg'⟩
  exact Or.inl ⟨c,k',(get c k' hc).2,hg'⟩
theorem I9{P:Program}{G:dq}(T:cQ P G){gl:Ctx}{σ:St}{E:Env}{a:Act}{w:World}(h:dE gl σ E a w){hb:Nat→Option aX}(hB:HB hb σ.hp){s d:TypeId}{x:AV}{r:jv}{vx:Value}(hx:RV E w x vx)(he:Ed G hb s d x=some r)(hvc:gm r.vc):
 ∃v w' E',(convert s d vx).run P w= .ok v w'∧dE gl {σ with hp:=bJ σ.hp r.hw} E' a w'∧RV E' w' r.v v∧Ext gl.md (cU σ.hp E) E w (cU (bJ σ.hp r.hw) E') E' w':=by
 unfold Ed at he
 split at he
 ·rename_i ts b hs
  split at he
  ·rename_i e xs h1 hk
   split at he
   ·rename_i hsd
    cases he
    have hsd:=dm hsd
    subst hsd
    have hlen:0<List.length xs:=hvc.1
    have hbk:=hB b _ hk
    obtain⟨_,r1,r2,_,ad,cap,r3,r4,r5⟩:=h.hw.eJ b _ hbk
    rcases r5 with⟨_,_,r5⟩|⟨g,c,q1,q2,q3,q4,q5,q6⟩
    ·grind
    subst q2
    have hvx:vx= .slice (some ⟨g,0,none⟩) (List.length xs) cap:=by
     have:=RV.atom rfl hx
     grind [RC]
    subst hvx
    obtain⟨te,ie,u1,u2,u3,u4,u5,_⟩:=T.eK hs h1
    have u6:=T.intOf u2 u3
    have hlt:g<w.heap.size:=cU.below h.hw ⟨b,_,hbk,Or.inl q1⟩
    have hsame:(w.freeze ⟨g,c.size,none⟩ 1).heap[g]? =some (.cells c e (c.size,c.size+1)):=by
     simp only[World.freeze,Nat.one_ne_zero,dc,Array.getElem?_modify,cC,q3]
     rfl
    have hold:∀i,i≠g→(w.freeze ⟨g,c.size,none⟩ 1).heap[i]? =w.heap[i]? :=by
     intro i hi
     simp only[World.freeze,Nat.one_ne_zero,dc,Array.getElem?_modify,aB (fun e=>hi (Eq.symm e))]
    have hsz:(w.freeze ⟨g,c.size,none⟩ 1).heap.size=w.heap.size:=by
     simp[World.freeze]
    obtain⟨g1,g2⟩:=h.gone hbk q1 (w':=w.freeze ⟨g,c.size,none⟩ 1) (by trivial) (Tp.r (by trivial) (by trivial)) (by trivial) hsz hold
    refine⟨.slice (some ⟨g,0,none⟩) (List.length xs) cap,w.freeze ⟨g,c.size,none⟩ 1,_,?_,g1,?_,g2⟩
    ·have hsh:w.shape? g=some (e,c.size):=by simp[World.shape?,q3]
     simp[convert,underlying,u1,u6,markStringish,hsh]
    ·have q7:c.size=cap:=by rw[q4];show cap*1=cap;omega
     refine RV.gZ (Or.inr ⟨rfl,some ⟨g,0,none⟩,cap,rfl,q5,r1,r2,Or.inr ⟨g,0,c.toList.take (List.length xs*Ty.size (.int .u8)),rfl,Or.inr rfl,?_,bO.mono (fun _ _=>Rel.flat rfl) q6⟩⟩)
     intro j v hj
     rw[Addr.ka,ek]
     show World.cell? _ _=_
     unfold World.cell?
     grind
   grind
  grind
 grind
end Go.Ax
namespace Go.Ax
def Ee(G:dq)(t:TypeId)(x:AV)(i:Nat):Option AV:=
 match G.at t with
 |
  some td=>match td.ty.sub [.d6 i],x.get [.d6 i] with
  |some _,some u=>if x.plain&&x.dY td.ty then some u else none
  |_,_=>none
 |none=>none
theorem Ja{P:Program}{G:dq}(T:cQ P G){E:Env}{w:World}{t:TypeId}{x u:AV}{i:Nat}{vx:Value}(hx:RV E w x vx)(h:Ee G t x i=some u):
 ∃v,(Instr.field t vx i).run P w= .ok v w∧RV E w u v:=by
 unfold Ee at h
 split at h
 ·rename_i td ht
  split at h
  ·rename_i s u' hs hg
   split at h
   ·rename_i hc
    cases h
    simp only[bP] at hc
    obtain⟨fs,f,tf,h1,h2,h3,h4,h5,h6,ape⟩:=T.struct ht hs
    have ao2:td.ty.isAgg=true:=by
     cases hty:td.ty with
     |pair a b=>rfl
     |arr n a=>rfl
     |_=>rw[hty] at hs;trivial
    rcases RV.mN hc.1 hx with⟨_,cs,rfl,hrc⟩|⟨ha,_⟩
    ·obtain⟨s',e1,e2,e3,e4⟩:=AV.jn hrc hc.2 ape hg
     rw[hs] at e1;cases e1
     rw[←h5] at e3 e4
     have hl:=RC.len e4
     by_cases ha:s.isAgg=true
     ·refine⟨.agg (cs.extract f.offset (f.offset+s.size)),?_,RV.gZ (Or.inl ⟨by rw[AV.lL e2];exact ha,_,rfl,?_⟩)⟩
      ·simp[Instr.field,underlying,h1,h2,asAgg,part,T.isAgg h3,T.size h3,h4,ha]
      simp_all
     ·have ha':s.isAgg=false:=by grind
      have hs1:s.size=1:=by cases hh:s<;>rw[hh] at ha'<;>simp[Ty.isAgg] at ha'<;>rfl
      rw[hs1] at e3 e4
      have hlt:f.offset<cs.size:=by
       grind
      have e5:(cs.toList.drop f.offset).take 1= [cs[f.offset]]:=by
       grind [iA]
      rw[e5] at e4
      refine⟨cs[f.offset],?_,RV.gZ (Or.inr ⟨by rw[AV.lL e2];exact ha',e4⟩)⟩
      simp[Instr.field,underlying,h1,h2,asAgg,part,T.isAgg h3,h4,ha',hlt]
    grind [AV.lL]
   grind
  grind
 grind
end Go.Ax
namespace Go.Ax
def Jb(P:Program)(G:dq)(hb:Nat→Option aX)(t:TypeId)(x k:AV):Option jv:=
 match pT G t,x with
 |
  some (ke,_,kt,vt),.mp b=>match hb b with
  |some (.j8 k0 u es e2 kx v pr)=>if h:Ty.same k0 kt=true∧Ty.same u vt=true then(match k.de kt with
   |some k'=>if k.plain&&v.plain&& !v.isAgg&&v.dY u&&u.Tj then some ⟨.ky (.cons v (.cons (.jc b) .nil)),[(b,some (.j8 k0 u (tO k0 u kx es pr) e2 kx v true))],[],[vc (mD P G 40 ke kt=true),vc (bM kt k' (Ty.aE h.1▸kx:kt.den)=true),vc (es.length+1≤aF)]⟩ else none
   |none=>none) else none
  |_=>none
 |_,_=>none
theorem Ef{P:Program}{w:World}{t ke ve:TypeId}{vk:Value}{g clock:Nat}{en:Array MapEntry}(hu:P.underlying t=some (.map ke ve))(apf:w.heap[g]? =some (.map en clock))(q3:(Instr.checkKey false 10000 ke vk).run P w= .ok () w):
 (∀z,(zeroValue ve).run P w= .ok z w→(Instr.findKey ke vk en.toList).run P w= .ok none w→(Instr.mapEntry t (.map (some g)) vk).run P w= .ok (.tuple #[z,goInt clock]) (w.putObj g (.map (en.push {key:=vk,val:=z,born:=clock}) (clock+1))))∧
 ∀i m,en[i]? =some m→(Instr.findKey ke vk en.toList).run P w= .ok (some (i,m.val)) w→(Instr.keyThatStays m.key vk).run P w= .ok vk w→(Instr.mapEntry t (.map (some g)) vk).run P w= .ok (.tuple #[m.val,goInt m.born]) (w.putObj g (.map (en.modify i fun e=>{e with key:=vk}) clock)):=by
 simp_all[getObj,Sem.run,setObj,World.putObj,Instr.mapEntry,run_underlying]
theorem Mh{P:Program}{G:dq}(T:cQ P G){gl:Ctx}{σ:St}{E:Env}{a:Act}{w:World}(h:dE gl σ E a w){hb:Nat→Option aX}(hB:HB hb σ.hp){t:TypeId}{x k:AV}{vx vk:Value}(hx:RV E w x vx)(hk:RV E w k vk){r:jv}(he:Jb P G hb t x k=some r)(hvc:gm r.vc):
 ∃v w',(Instr.mapEntry t vx vk).run P w= .ok v w'∧dE gl {σ with hp:=bJ σ.hp r.hw} E a w'∧RV E w' r.v v∧Ext gl.md (cU σ.hp E) E w (cU (bJ σ.hp r.hw) E) E w':=by
 unfold Jb at he
 split at he
 case h_2=>cases he
 rename_i ke ve kt vt b hm
 obtain⟨hu,hke,_,⟨kd,h4,h5⟩,⟨vd,h6,h7⟩⟩:=lQ T hm
 subst h5;subst h7
 split at he
 case h_2=>cases he
 rename_i k0 u es e2 kx v pr hbk0
 split at he
 case isFalse=>cases he
 rename_i hc
 obtain⟨c1,c2⟩:=hc
 have e1:=Ty.aE c1;subst e1
 have e2':=Ty.aE c2;subst e2'
 split at he
 case h_2=>cases he
 rename_i k' hk'
 split at he
 case isFalse=>cases he
 rename_i hpl
 cases he
 simp only[bP,lF] at hpl
 obtain⟨⟨⟨⟨p1,p2⟩,p3⟩,p4⟩,p5⟩:=hpl
 obtain⟨he,hkx,hlen,_⟩:=hvc
 have hkx:k'=kx:=(dT hke _ _).1 hkx
 subst hkx
 have hkv:ew E w (.val kd.ty k') vk:=ew.de hk' (RV.mN p1 hk)
 have hbk:=hB b _ hbk0
 obtain⟨hrb,n,g9,en9,clock9,n1,n2,n3,n4,n5⟩:=h.hw.eJ b _ hbk
 obtain⟨g0,hg0,ex⟩:=RV.atom rfl hx
 simp at ex;subst ex
 obtain⟨g,en,clock,r,q1,q2,q3,q4,q5⟩:=tj T hke h4 he hrb hkv
 rw[q1] at hg0;have hg0:=fP hg0;subst hg0
 rw[q1] at n2;have n2:=fP n2;subst n2
 rw[q2] at n3;cases n3
 have kpo:∀o,di E w E (w.putObj g o):=fun o=>⟨fun i hi=>World.putObj_heap_other (fun e=>h.hw.oM b _ g hbk q1 (e▸hi)),fun _ h=>h⟩
 have hlt:g<w.heap.size:=(Array.getElem?_eq_some_iff.1 q2).1
 obtain⟨R1,R2⟩:=Ef hu q2 (q3 false)
 have tupOK:∀(w':World)(vv:Value),RC E w' v [vv]→RV E w' (.ky (.cons v (.cons (.jc b) .nil))) (.tuple #[vv,goInt n]):=by
  intro w' vv hv
  exact⟨#[vv,goInt n],rfl,Or.inr ⟨p3,hv⟩,Or.inr ⟨rfl,by rw[n1];rfl,n,n1⟩,rfl⟩
 have fin:∀(vv:Value)(en':Array MapEntry)(apb:Nat),RC E w v [vv]→(Instr.mapEntry t (.map (some g)) vk).run P w= .ok (.tuple #[vv,goInt n]) (w.putObj g (.map en' apb))→RB E (w.putObj g (.map en' apb)) b (.j8 kd.ty vd.ty (tO kd.ty vd.ty k' es pr) e2 k' v true)→
  ∃v' w',(Instr.mapEntry t (.map (some g)) vk).run P w= .ok v' w'∧dE gl {σ with hp:=bJ σ.hp [(b,some (.j8 kd.ty vd.ty (tO kd.ty vd.ty k' es pr) e2 k' v true))]} E a w'∧RV E w' (.ky (.cons v (.cons (.jc b) .nil))) v'∧Ext gl.md (cU σ.hp E) E w (cU (bJ σ.hp [(b,some (.j8 kd.ty vd.ty (tO kd.ty vd.ty k' es pr) e2 k' v true))]) E) E w':=by
  intro vv en' apb hv apa hrb2
  have hw2:=h.hw.write hbk (by simp) (fun i hi=>World.putObj_heap_other (fun e=>hi (by grind))) hrb2
  refine⟨_,_,apa,h.carry (kpo _) (fun _ _=>⟨rfl,rfl,rfl⟩) hw2,tupOK _ _ (RC.mono (kpo _) (fun _ _=>⟨rfl,rfl,rfl⟩) hv),⟨rfl,Tp.r rfl rfl,rfl,by simp,?_,fun _ h=>h,fun _ h=>Or.inl h,fun i hi=>Or.inl (cU.rN hbk hi),fun _ _=>⟨rfl,rfl,rfl⟩⟩⟩
  intro i hi ho
  exact World.putObj_heap_other (fun e=>ho ⟨b,_,hbk,by rw[e];exact Or.inl q1⟩)
 have hpm:=hrb
 obtain⟨z1,z2,z3,g',en',apb,og,y1,y2,y3,y4,y5,y6,y7,y8⟩:=hpm
 rw[q1] at y1;cases y1
 rw[q2] at y2;cases y2
 rcases q5 with⟨e,hn⟩|⟨i,y,m,e,s1,s2⟩
 ·subst e
  have hpr:pr=false:=by
   grind
  subst hpr
  have hvv:RC E w v [zeroV vd.ty]:=(y8 _ v).1 rfl hn
  obtain⟨_,hsz,hpm⟩:=KE hke hrb q1 q2 hn hkv hvv p4 hlen kpo
  have hnc:=n4 hn
  refine fin (zeroV vd.ty) _ _ hvv (by grind [D9]) ⟨hpm,n,g,_,_,n1,q1,World.putObj_heap_same hlt,?_,?_⟩
  ·intro hh;exact absurd (by show k'∈(bK kd.ty k' vd.ty.aH es).map (·.1);rw[mA hke hn];simp) hh
  ·intro j m' y' hj hm'
   have hj:(bK kd.ty k' vd.ty.aH es)[j]? =some (k',y'):=hj
   grind [mA]
 ·subst e
  obtain⟨m',t1,t2,t3,t4⟩:=y7 i _ s1
  rw[s2] at t1;cases t1
  have hvv:=(t3 v pr rfl).2
  obtain⟨f1,f2⟩:=ew.fn hke t2 hkv
  have hstay:(Instr.keyThatStays m.key vk).run P w= .ok vk w:=by
   rw[Instr.keyThatStays,←f1,aA f2];simp
  have hb:=n5 i m y s1 s2
  obtain⟨⟨y',hes⟩,_,_,hpm⟩:=I6 hke hrb q1 q2 s1 s2 (fun e=>{e with key:=vk}) (fun _=>rfl) hkv hvv p4 kpo
  have hi:i<es.length:=(List.getElem?_eq_some_iff.1 s1).1
  refine fin m.val _ _ hvv (by grind) ⟨hpm,n,g,_,_,n1,q1,World.putObj_heap_same hlt,?_,?_⟩
  ·intro hh
   refine absurd ?_ hh
   rw[hes]
   exact List.mem_map.2 ⟨(k',y'),n8 (i:=i) (by grind),rfl⟩
  grind
def Jc(hb:Nat→Option aX)(x s y:AV):Option jv:=
 match x,s with
 |
  .mp b,.jc c=>match hb b with
  |some (.j8 k0 u es e2 kx _ true)=>if Nat.beq b c&&k0.keyed&&y.plain&& !y.isAgg&&y.dY u then some ⟨.bot,[(b,some (.j8 k0 u es e2 kx y true))],[],[]⟩ else none
  |_=>none
 |_,_=>none
theorem Jd{en:Array MapEntry}(h:(en.toList.map (·.born)).Nodup){i j:Nat}{m m':MapEntry}(h1:en[i]? =some m)(h2:en[j]? =some m')(hb:m.born=m'.born):i=j:=by
 grind [List.pairwise_iff_getElem]
theorem Mi{P:Program}{gl:Ctx}{σ:St}{E:Env}{a:Act}{w:World}(h:dE gl σ E a w){hb:Nat→Option aX}(hB:HB hb σ.hp){t:TypeId}{x s y:AV}{vx vs vy:Value}(hx:RV E w x vx)(hs:RV E w s vs)(hy:RV E w y vy){r:jv}(he:Jc hb x s y=some r):
 ∃w',(Instr.entryStore t vx vs vy).run P w= .ok () w'∧dE gl {σ with hp:=bJ σ.hp r.hw} E a w'∧RV E w' r.v undef∧Ext gl.md (cU σ.hp E) E w (cU (bJ σ.hp r.hw) E) E w':=by
 unfold Jc at he
 split at he
 case h_2=>cases he
 rename_i b c
 split at he
 case h_2=>cases he
 rename_i k0 u es e2 kx v0 hbk0
 split at he
 case isFalse=>cases he
 rename_i hpl
 cases he
 simp only[bP,lF] at hpl
 obtain⟨⟨⟨⟨p0,hke⟩,p2⟩,p3⟩,p4⟩:=hpl
 have p0:=dm p0;subst p0
 have hyv:RC E w y [vy]:=by
  rcases RV.mN p2 hy with⟨hh,_⟩|⟨_,hh⟩<;>grind
 have hbk:=hB b _ hbk0
 obtain⟨hrb,n,g,en,clock,n1,q1,q2,n4,n5⟩:=h.hw.eJ b _ hbk
 obtain⟨g0,hg0,ex⟩:=RV.atom rfl hx
 simp at ex;subst ex
 rw[q1] at hg0;have hg0:=fP hg0;subst hg0
 obtain⟨es1,_⟩:=RV.atom rfl hs
 simp at es1;subst es1
 have kpo:∀o,di E w E (w.putObj g o):=fun o=>⟨fun i hi=>World.putObj_heap_other (fun e=>h.hw.oM b _ g hbk q1 (e▸hi)),fun _ h=>h⟩
 have hlt:g<w.heap.size:=(Array.getElem?_eq_some_iff.1 q2).1
 have hpm:=hrb
 obtain⟨z1,z2,z3,g',en',apb,og,y1,y2,y3,y4,y5,y6,y7,y8⟩:=hpm
 rw[q1] at y1;cases y1
 rw[q2] at y2;cases y2
 have hin:=(y8 kx v0).2 rfl
 obtain⟨z,hz,ez⟩:=List.mem_map.1 hin
 obtain⟨zk,zy⟩:=z
 simp only at ez;subst ez
 obtain⟨i,s1⟩:=List.getElem?_of_mem hz
 obtain⟨m,s2,t2,t3,t4⟩:=y7 i _ s1
 have hb:=n5 i m zy s1 s2
 obtain⟨⟨y',hes⟩,_,_,hpm⟩:=I6 hke hrb q1 q2 s1 s2 (fun e=>{e with val:=vy}) (fun _=>rfl) t2 hyv p4 kpo
 have hfind:en.findIdx? (fun e=>(e.born:Int)==(n:Int))=some i:=by
  rw[Array.findIdx?_eq_some_iff_getElem]
  obtain⟨hi,hm⟩:=Array.getElem?_eq_some_iff.1 s2
  refine⟨hi,by grind,fun j hj=>?_⟩
  intro hbj
  have hj2:en[j]? =some en[j]:=by simp
  grind [Jd]
 have h1:(getObj g).run P w= .ok (.map en clock) w:=by simp[getObj,Sem.run,q2]
 have bJ:∀o,(setObj g o).run P w= .ok () (w.putObj g o):=fun o=>by simp[setObj,Sem.run,q2,World.putObj]
 have apa:(Instr.entryStore t (.map (some g)) (E.sv b) vy).run P w= .ok () (w.putObj g (.map (en.modify i fun e=>{e with val:=vy}) clock)):=by
  grind [Instr.entryStore,Sem.run_bind,Result.andThen_ok,asInt,asIntOf]
 have hw2:=h.hw.write (k':=.j8 k0 u es e2 zk y true) hbk (by simp) (fun i hi=>World.putObj_heap_other (fun e=>hi (by grind))) (w':=w.putObj g (.map (en.modify i fun e=>{e with val:=vy}) clock)) ⟨hpm,n,g,_,_,n1,q1,World.putObj_heap_same hlt,fun hh=>absurd hin hh,by
  grind⟩
 refine⟨_,apa,h.carry (kpo _) (fun _ _=>⟨rfl,rfl,rfl⟩) hw2,trivial,⟨rfl,Tp.r rfl rfl,rfl,by simp,?_,fun _ h=>h,fun _ h=>Or.inl h,fun i hi=>Or.inl (cU.rN hbk hi),fun _ _=>⟨rfl,rfl,rfl⟩⟩⟩
 intro i hi ho
 exact World.putObj_heap_other (fun e=>ho ⟨b,_,hbk,by rw[e];exact Or.inl q1⟩)
end Go.Ax
namespace Go.Ax
def KF:Ty→Bool
 | .aY .func=>true
 |_=>false
theorem OI{t:Ty}(h:KF t=true):t= .aY .func:=by
 grind [KF]
def W3(k0:Ty)(k:k0.den):List (k0.den×AV)→List VC
 |[]=>[]
 |x::l=>vc (bM k0 k x.1=false)::W3 k0 k l
def Tk(P:Program)(G:dq)(td:TD)(b:Nat)(k0:Ty)(l:List (k0.den×AV))(k v:AV):Option jv:=
 match G.at td.e,k.de k0 with
 |some kd,some k'=>if td.ty.rK&&k0.keyed&&Ty.same k0 kd.ty&&k.plain&&v.plain&& !v.isAgg then some ⟨.bot,[(b,some (.k7 k0 (l++[(k',v)])))],[],vc (mD P G 40 td.e k0=true)::vc (l.length+1≤aF)::W3 k0 k' l⟩ else none
 |_,_=>none
def Je(P:Program)(G:dq)(hb:Nat→Option aX)(t:TypeId)(x k v:AV):Option jv:=
 match G.at t,x with
 |
  some td,.mp b=>match hb b with
  |some (.map k0 u [])=>if KF u then Tk P G td b k0 [] k v else none
  |some (.k7 k0 l)=>Tk P G td b k0 l k v
  |_=>none
 |_,_=>none
def okF(ok:Bool)(x:AV)(b:Bool):AV:=match ok with
 |true=>.ky (.cons x (.cons (.val .bool b) .nil))
 |false=>x
def qV(ok:Bool)(k0:Ty)(k:k0.den):List (k0.den×AV)→AV
 |[]=>okF ok .jD false
 |x::l=>if bM k0 k x.1=true then okF ok x.2 true else qV ok k0 k l
def yF(P:Program)(G:dq)(hb:Nat→Option aX)(ok:Bool)(t:TypeId)(x k:AV):Option (AV×List VC):=
 match G.at t,x with
 |
  some td,.mp b=>match hb b with
  |
   some (.k7 k0 l)=>match G.at td.e,G.at td.e2,k.de k0 with
   |some kd,some vd,some k'=>if td.ty.rK&&k0.keyed&&Ty.same k0 kd.ty&&k.plain&&KF vd.ty then some (qV ok k0 k' l,[vc (mD P G 40 td.e k0=true)]) else none
   |_,_,_=>none
  |_=>none
 |_,_=>none
theorem RF.rk{E:Env}{w:World}{k:Ty}:∀{en:List MapEntry}{l:List (k.den×AV)},RF E w k en l→RK E w k en l
 |[],[],_=>trivial
 |[],_::_,h=>h.elim
 |_::_,[],h=>h.elim
 |_::_,_::_,h=>⟨h.1,RF.rk h.2.2.2⟩
theorem RF.get{E:Env}{w:World}{k:Ty}:∀{en:List MapEntry}{l:List (k.den×AV)}{i:Nat}{x:k.den×AV},RF E w k en l→l[i]? =some x→∃m,en[i]? =some m∧RC E w x.2 [m.val]∧x.2.isAgg=false
 |[],[],i,x,_,hx=>by grind
 |[],_::_,_,_,h,_=>h.elim
 |_::_,[],_,_,h,_=>h.elim
 |m::_,_::_,0,x,h,hx=>by simp at hx;subst hx;exact⟨m,rfl,h.2.1,h.2.2.1⟩
 |_::_,_::_,i+1,x,h,hx=>by simpa using RF.get h.2.2.2 (by simpa using hx)
theorem RF.snoc{E:Env}{w:World}{k:Ty}{m:MapEntry}{x:k.den×AV}(h1:ew E w (.val k x.1) m.key)(h2:RC E w x.2 [m.val])(h3:x.2.isAgg=false):∀{en:List MapEntry}{l:List (k.den×AV)},RF E w k en l→RF E w k (en++[m]) (l++[x])
 |[],[],_=>⟨h1,h2,h3,trivial⟩
 |[],_::_,h=>h.elim
 |_::_,[],h=>h.elim
 |_::_,_::_,h=>⟨h.1,h.2.1,h.2.2.1,RF.snoc h1 h2 h3 h.2.2.2⟩
theorem KG{k0:Ty}(hk:k0.keyed=true){k:k0.den}:∀{l:List (k0.den×AV)},gm (W3 k0 k l)→k∉l.map (·.1)
 |[],_=>by simp
 |
  x::l,⟨h1,h2⟩=>by
  have h1:bM k0 k x.1=false:=h1
  simp only[fp,eN,not_or]
  refine⟨fun e=>?_,KG hk h2⟩
  rw[(dT hk _ _).2 e] at h1;cases h1
theorem F7{ok:Bool}{k0:Ty}(hk:k0.keyed=true){k:k0.den}:∀{l:List (k0.den×AV)}{i:Nat}{v:AV},(l.map (·.1)).Nodup→l[i]? =some (k,v)→qV ok k0 k l=okF ok v true
 |[],i,v,_,h=>by simp at h
 |x::l,0,v,_,h=>by simp_all[qV,dT]
 |
  x::l,i+1,v,hn,h=>by
  simp only[fp,lE] at hn
  have hm:l[i]? =some (k,v):=by grind
  have hne:¬bM k0 k x.1=true:=fun e=>hn.1 (by rw[←(dT hk _ _).1 e];grind)
  simp only[qV];rw[aB hne];exact F7 hk hn.2 hm
theorem F8{ok:Bool}{k0:Ty}(hk:k0.keyed=true){k:k0.den}:∀{l:List (k0.den×AV)},k∉l.map (·.1)→qV ok k0 k l=okF ok .jD false
 |[],_=>rfl
 |
  x::l,h=>by
  simp only[fp,eN,not_or] at h
  simp only[qV];rw[aB (fun e=>h.1 ((dT hk _ _).1 e))];exact F8 hk h.2
theorem KH{P:Program}{G:dq}(T:cQ P G){E:Env}{w:World}{td kd:TD}{k0:Ty}{l:List (k0.den×AV)}{en:List MapEntry}(hk:k0.keyed=true)(h4:G.at td.e=some kd)(hs:Ty.same k0 kd.ty=true)(he:mD P G 40 td.e k0=true)(hr:RF E w k0 en l){k':k0.den}{vk:Value}(hkv:ew E w (.val k0 k') vk):
 (∀em,(Instr.checkKey em 10000 td.e vk).run P w= .ok () w)∧∃r,(Instr.findKey td.e vk en).run P w= .ok r w∧((r=none∧k'∉l.map (·.1))∨∃i v m,r=some (i,m.val)∧l[i]? =some (k',v)∧en[i]? =some m):=by
 have e:=Ty.aE hs
 subst e
 refine⟨fun em=>mu T (E:=E) (w:=w) em 9960 40 _ kd h4 he k' vk hkv,?_⟩
 obtain⟨r,r1,r2⟩:=F6 T h4 he hkv hr.rk
 refine⟨r,r1,?_⟩
 cases hf:gN kd.ty k' l 0 with
 |
  none=>
  rw[hf] at r2
  cases r with
  |none=>exact Or.inl ⟨rfl,uu hk hf⟩
  |some _=>trivial
 |
  some p=>
  obtain⟨i,y⟩:=p
  rw[hf] at r2
  cases r with
  |none=>trivial
  |
   some q=>
   obtain⟨i',u⟩:=q
   obtain⟨e1,_,m,e2,e3⟩:=r2
   simp only[Nat.sub_zero] at e1 e2 e3
   subst e1;subst e3
   have:=(ur hk hf).2
   grind
theorem KJ{P:Program}{G:dq}(T:cQ P G){gl:Ctx}{σ:St}{E:Env}{a:Act}{w:World}(h:dE gl σ E a w){t:TypeId}{td:TD}(ht:G.at t=some td){b:Nat}{k0:Ty}{l:List (k0.den×AV)}{k v:AV}{vk vv:Value}(hk:RV E w k vk)(hv:RV E w v vv){r:jv}(he:Tk P G td b k0 l k v=some r)(hvc:gm r.vc)
 {kb:aX} (hbk:σ.hp[b]? =some (some kb)) (hrb:RB E w b (.k7 k0 l)) {g:Nat} (hg:E.g b=some g):
 ∃w',(Instr.mapUpdate t (.map (some g)) vk vv).run P w= .ok () w'∧dE gl {σ with hp:=bJ σ.hp r.hw} E a w'∧RV E w' r.v undef∧Ext gl.md (cU σ.hp E) E w (cU (bJ σ.hp r.hw) E) E w':=by
 unfold Tk at he
 split at he
 case h_2=>cases he
 rename_i kd k' h4 hk'
 split at he
 case isFalse=>cases he
 rename_i hc
 cases he
 simp only[bP,lF] at hc
 obtain⟨⟨⟨⟨⟨c1,c2⟩,c3⟩,c4⟩,c5⟩,c6⟩:=hc
 obtain⟨he,hlen,hdif⟩:=hvc
 have hn:=KG c2 hdif
 have hu:=T.mapOf ht c1
 have hkv:ew E w (.val k0 k') vk:=ew.de hk' (RV.mN c4 hk)
 have hvv:RC E w v [vv]:=by
  rcases RV.mN c5 hv with⟨hh,_⟩|⟨_,hh⟩<;>grind
 obtain⟨z1,z2,g',en,clock,q1,q2,q3⟩:=hrb
 rw[hg] at q1;cases q1
 obtain⟨k1,r,k2,k3⟩:=KH T c2 h4 c3 he q3 hkv
 rcases k3 with⟨e,_⟩|⟨i,y,m,_,s1,_⟩
 case inr=>grind
 subst e
 have h1:(getObj g).run P w= .ok (.map en clock) w:=by simp[getObj,Sem.run,q2]
 have bJ:∀o,(setObj g o).run P w= .ok () (w.putObj g o):=fun o=>by simp[setObj,Sem.run,q2,World.putObj]
 have hlt:g<w.heap.size:=(Array.getElem?_eq_some_iff.1 q2).1
 have kpo:∀o,di E w E (w.putObj g o):=fun o=>⟨fun i hi=>World.putObj_heap_other (fun e=>h.hw.oM b _ g hbk hg (e▸hi)),fun _ h=>h⟩
 have apa:(Instr.mapUpdate t (.map (some g)) vk vv).run P w= .ok () (w.putObj g (.map (en.push {key:=vk,val:=vv,born:=clock}) (clock+1))):=by
  simp_all[Instr.mapUpdate,run_underlying]
 have hw2:=h.hw.write (k':=.k7 k0 (l++[(k',v)])) hbk (by simp) (fun i hi=>World.putObj_heap_other (fun e=>hi (by grind))) (w':=w.putObj g (.map (en.push {key:=vk,val:=vv,born:=clock}) (clock+1))) ⟨by
  grind,by grind,g,_,_,hg,World.putObj_heap_same hlt,by
  rw[Array.toList_push]
  exact RF.snoc (ew.mono (kpo _) (fun _ hb=>by cases hb) hkv) (RC.mono (kpo _) (fun _ _=>⟨rfl,rfl,rfl⟩) hvv) c6 (RF.mono (kpo _) (fun _ _=>⟨rfl,rfl,rfl⟩) q3)⟩
 refine⟨_,apa,h.carry (kpo _) (fun _ _=>⟨rfl,rfl,rfl⟩) hw2,trivial,⟨rfl,Tp.r rfl rfl,rfl,by simp,?_,fun _ h=>h,fun _ h=>Or.inl h,fun i hi=>Or.inl (cU.rN hbk hi),fun _ _=>⟨rfl,rfl,rfl⟩⟩⟩
 intro i hi ho
 exact World.putObj_heap_other (fun e=>ho ⟨b,_,hbk,by rw[e];exact Or.inl hg⟩)
theorem Mj{P:Program}{G:dq}(T:cQ P G){gl:Ctx}{σ:St}{E:Env}{a:Act}{w:World}(h:dE gl σ E a w){hb:Nat→Option aX}(hB:HB hb σ.hp){t:TypeId}{x k v:AV}{vx vk vv:Value}(hx:RV E w x vx)(hk:RV E w k vk)(hv:RV E w v vv){r:jv}(he:Je P G hb t x k v=some r)(hvc:gm r.vc):
 ∃w',(Instr.mapUpdate t vx vk vv).run P w= .ok () w'∧dE gl {σ with hp:=bJ σ.hp r.hw} E a w'∧RV E w' r.v undef∧Ext gl.md (cU σ.hp E) E w (cU (bJ σ.hp r.hw) E) E w':=by
 unfold Je at he
 split at he
 case h_2=>cases he
 rename_i td b ht
 obtain⟨g0,hg0,ex⟩:=RV.atom rfl hx
 simp at ex;subst ex
 split at he
 ·rename_i k0 u hbk0
  split at he
  case isFalse=>cases he
  have hbk:=hB b _ hbk0
  obtain⟨z1,z2,g,en,clock,q1,q2,q3,_⟩:=h.hw.eJ b _ hbk
  refine KJ T h ht hk hv he hvc hbk ⟨by simp,by simp,g,en,clock,q1,q2,?_⟩ hg0
  cases hen:en.toList with
  |nil=>trivial
  |cons m l=>rw[hen] at q3;exact q3.elim
 ·rename_i k0 l hbk0
  have hbk:=hB b _ hbk0
  exact KJ T h ht hk hv he hvc hbk (h.hw.eJ b _ hbk) hg0
 ·cases he
theorem Jf{P:Program}{G:dq}(T:cQ P G){gl:Ctx}{E:Env}{w:World}{hp:List (Option aX)}(hw:HW gl E w hp){hb:Nat→Option aX}(hB:HB hb hp){ok:Bool}{t:TypeId}{x k:AV}{vx vk:Value}(hx:RV E w x vx)(hk:RV E w k vk){r:AV}{vcs:List VC}(h:yF P G hb ok t x k=some (r,vcs))(hvc:gm vcs):
 ∃v,(Instr.lookup t vx vk ok).run P w= .ok v w∧RV E w r v:=by
 unfold yF at h
 split at h
 case h_2=>cases h
 rename_i td b ht
 split at h
 case h_2=>cases h
 rename_i k0 l hbk0
 split at h
 case h_2=>cases h
 rename_i kd vd k' h4 h6 hk'
 split at h
 case isFalse=>cases h
 rename_i hc
 cases h
 simp only[bP] at hc
 obtain⟨⟨⟨⟨c1,c2⟩,c3⟩,c4⟩,c5⟩:=hc
 obtain⟨he,_⟩:=hvc
 have hu:=T.mapOf ht c1
 have hkv:ew E w (.val k0 k') vk:=ew.de hk' (RV.mN c4 hk)
 obtain⟨g0,hg0,ex⟩:=RV.atom rfl hx
 simp at ex;subst ex
 obtain⟨z1,z2,g,en,clock,q1,q2,q3⟩:=hw.eJ b _ (hB b _ hbk0)
 rw[q1] at hg0;cases hg0
 obtain⟨k1,rr,k2,k3⟩:=KH T c2 h4 c3 he q3 hkv
 have h1:(getObj g0).run P w= .ok (.map en clock) w:=by simp[getObj,Sem.run,q2]
 rcases k3 with⟨e,hn⟩|⟨i,y,m,e,s1,s2⟩
 ·subst e
  obtain⟨z,y1,y2,y3⟩:=T.zero h6 w
  have hz:=OI c5
  rw[hz] at y2 y3
  have hzz:RC E w .jD [z]:=by
   have:=(jF (E:=E) (w:=w) y2).1
   cases z with
   |agg cs=>trivial
   |_=>trivial
  rw[F8 c2 hn]
  cases ok with
  |
   true=>
   refine⟨.tuple #[z,.bool false],by simp only[Instr.lookup,Sem.run_bind,run_underlying hu,Result.andThen_ok,Sem.run_pure,h1,k1,k2,y1];rfl,?_⟩
   exact⟨#[z,.bool false],rfl,Or.inr ⟨rfl,hzz⟩,RV.bool,rfl⟩
  |
   false=>
   refine⟨z,by simp only[Instr.lookup,Sem.run_bind,run_underlying hu,Result.andThen_ok,Sem.run_pure,h1,k1,k2,y1];rfl,?_⟩
   exact RV.gZ (Or.inr ⟨rfl,hzz⟩)
 ·subst e
  obtain⟨m',r1,r2,r3⟩:=RF.get q3 s1
  rw[s2] at r1;cases r1
  rw[F7 c2 z1 s1]
  cases ok with
  |
   true=>
   refine⟨.tuple #[m.val,.bool true],by simp only[Instr.lookup,Sem.run_bind,run_underlying hu,Result.andThen_ok,Sem.run_pure,h1,k1,k2];rfl,?_⟩
   exact⟨#[m.val,.bool true],rfl,Or.inr ⟨r3,r2⟩,RV.bool,rfl⟩
  |
   false=>
   refine⟨m.val,by simp only[Instr.lookup,Sem.run_bind,run_underlying hu,Result.andThen_ok,Sem.run_pure,h1,k1,k2];rfl,?_⟩
   exact RV.gZ (Or.inr ⟨r3,r2⟩)
def AL(P:Program)(G:dq)(op:Op)(ev:Operand→AV)(hb:Nat→Option aX):Option jv:=
 match op with
 | .mapEntry t x k=>Jb P G hb t (ev x) (ev k)
 | .entryStore _ x s y=>Jc hb (ev x) (ev s) (ev y)
 | .insert t x k v=>Je P G hb t (ev x) (ev k) (ev v)
 | .lookup t x k ok=>(yF P G hb ok t (ev x) (ev k)).map .PC
 | .convert s d x=>Ed G hb s d (ev x)
 | .field t x i=>(Ee G t (ev x) i).map .one
 |_=>none
theorem OJ{P:Program}{G:dq}(T:cQ P G){gl:Ctx}{σ:St}{E:Env}{a:Act}{w:World}(h:dE gl σ E a w){o:Oper}{ev:Operand→AV}{hb:Nat→Option aX}(hB:HB hb σ.hp){r:jv}
 (hev:∀x∈o.op.operands.toList,RV E w (ev x) (a.eval x)) (he:AL P G o.op ev hb=some r) (hvc:gm r.vc):dz P gl σ E a w o r:=by
 unfold AL at he
 split at he
 ·rename_i t x k hop
  obtain⟨v,w',h1,h2,h3,h4⟩:=Mh T h hB (hev x (by simp[hop,Op.operands])) (hev k (by simp[hop,Op.operands])) he hvc
  exact⟨_,v,w',E,by simp[execOp,hop,h1],Or.inl rfl,h2,h3,h4⟩
 ·rename_i t x s y hop
  obtain⟨w',h1,h2,h3,h4⟩:=Mi (P:=P) (t:=t) h hB (hev x (by simp[hop,Op.operands])) (hev s (by simp[hop,Op.operands])) (hev y (by simp[hop,Op.operands])) he
  exact⟨_,undef,w',E,by simp[execOp,hop,h1],Or.inr ⟨rfl,rfl⟩,h2,h3,h4⟩
 ·rename_i t x k v hop
  obtain⟨w',h1,h2,h3,h4⟩:=Mj T h hB (hev x (by simp[hop,Op.operands])) (hev k (by simp[hop,Op.operands])) (hev v (by simp[hop,Op.operands])) he hvc
  exact⟨_,undef,w',E,by simp[execOp,hop,h1],Or.inr ⟨rfl,rfl⟩,h2,h3,h4⟩
 ·rename_i t x k ok hop
  obtain⟨⟨u,vc⟩,hu,rfl⟩:=Option.map_eq_some_iff.1 he
  obtain⟨v,h1,h2⟩:=Jf T h.hw hB (hev x (by simp[hop,Op.operands])) (hev k (by simp[hop,Op.operands])) hu hvc
  exact dz.same h (v:=v) (by simp[execOp,hop,h1]) h2
 ·rename_i s d x hop
  obtain⟨v,w',E',h1,h2,h3,h4⟩:=I9 T h hB (hev x (by simp[hop,Op.operands])) he hvc
  exact⟨_,v,w',E',by simp[execOp,hop,h1],Or.inl rfl,h2,h3,h4⟩
 ·rename_i t x i hop
  obtain⟨u,hu,rfl⟩:=Option.map_eq_some_iff.1 he
  obtain⟨v,h1,h2⟩:=Ja T (hev x (by simp[hop,Op.operands])) hu
  exact dz.same h (v:=v) (by simp[execOp,hop,h1]) h2
 grind
end Go.Ax
noncomputable section
namespace Go.Ax
theorem xG:∀{l m:List VC},gm (l++m)→gm l∧gm m
 |[],_,h=>⟨trivial,h⟩
 |_::_l,_,h=>⟨⟨h.1,(xG h.2).1⟩,(xG h.2).2⟩
def kg(need:List Nat)(hp:List (Option aX))(b:Nat):Option aX:=if eB b need then(hp[b]?).join else none
def OL:Operand→List Nat
 | .tmp t=>[t]
 |_=>[]
def slotsOf(l:List Operand):List Nat:=l.flatMap OL
def oX(ops:Array Oper)(o:Oper):Option Nat:=
 match o.guard with
 |none=>none
 |some (j,_)=>(ops[j]?).bind (·.dst)
def aa2:Bool→Bool→Bool
 |true,b=>b
 |false,b=> !b
def guardOf(ops:Array Oper)(tm:List AV)(o:Oper):Option Bool:=
 match o.guard with
 |none=>some true
 |
  some (j,want)=>match(ops[j]?).bind (·.dst) with
  |
   some t=>match tm[t]? with
   |some (.val .bool b)=>some (aa2 b want)
   |some (.ky .nil)=>some false
   |_=>none
  |none=>none
def UR:Option Nat→Nat
 |some d=>d+16
 |none=>16
def qC:Op→Bool
 | .call {callee:=.builtin _, .. }=>false
 | .call _=>true
 |_=>false
def so(P:Program)(G:dq)(d:Nat)(op:Op)(ev:Operand→AV)(hb:Nat→Option aX):Option jv:=
 match H5 P G d op ev hb with
 |some e=>some e
 |
  none=>match zM P G d op ev hb with
  |some e=>some e
  |
   none=>match AG P G d op ev with
   |some e=>some e
   |
    none=>match AI G op ev with
    |some e=>some e
    |
     none=>match AJ P G op ev hb with
     |some e=>some e
     |
      none=>match AK G d op ev hb with
      |some e=>some e
      |none=>AL P G op ev hb
theorem ON{P:Program}{G:dq}{d:Nat}{op:Op}{ev:Operand→AV}{hb:Nat→Option aX}{r:jv}(h:so P G d op ev hb=some r):∀c,op≠.defer c:=by
 grind [so,H5,zM,AG,AI,AJ,AK,AL]
theorem F9{P:Program}{G:dq}(T:cQ P G){gl:Ctx}{σ:St}{E:Env}{a:Act}{w:World}(h:dE gl σ E a w){o:Oper}{d:Nat}{ev:Operand→AV}{hb:Nat→Option aX}(hB:HB hb σ.hp){r:jv}
 (hev:∀x∈o.op.operands.toList,RV E w (ev x) (a.eval x)) (hids:∀x∈o.op.operands.toList,∀b∈(ev x).ids,b∈σ.ids) (he:so P G d o.op ev hb=some r) (hvc:gm r.vc) (hfr:∀b∈r.fr,σ.fresh b):dz P gl σ E a w o r:=by
 grind [so,Ng,Np,OD,OE,OG,OH,OJ]
theorem Ga{P:Program}{G:dq}{d:Nat}{ok:Bool}{t:TypeId}{x k:Operand}{ev:Operand→AV}{hb:Nat→Option aX}{r:jv}(h:so P G d (.lookup t x k ok) ev hb=some r){b:Nat}{k0:Ty}{l:List (k0.den×AV)}{k':k0.den}(hx:ev x= .mp b)(hbk:∀kb,hb b=some kb→kb= .k7 k0 l)(hk:(ev k).de k0=some k'):r.v=qV ok k0 k' l:=by
 have h2:zM P G d (.lookup t x k ok) ev hb=none:=by
  show(rR P G hb t (ev x) (ev k) ok).map jv.PC=none
  grind [rR,BC]
 have h5:AJ P G (.lookup t x k ok) ev hb=none:=by
  cases ok with
  |true=>rfl
  |
   false=>
   show(vN P G hb t (ev x) (ev k)).map jv.PC=none
   unfold vN
   grind
 unfold so at h
 rw[show H5 P G d (.lookup t x k ok) ev hb=none from rfl,h2,show AG P G d (.lookup t x k ok) ev=none from rfl,show AI G (.lookup t x k ok) ev=none from rfl,h5,show AK G d (.lookup t x k ok) ev hb=none from rfl] at h
 simp only[AL,jz] at h
 obtain⟨⟨u,vc⟩,hu,rfl⟩:=h
 unfold yF at hu
 rw[hx] at hu
 split at hu
 case h_2=>cases hu
 rename_i td b' ht heq
 cases heq
 split at hu
 case h_2=>cases hu
 rename_i k0' l' hh
 have:=hbk _ hh
 cases this
 split at hu
 case h_2=>cases hu
 rename_i kd vd k2 _ _ hk2
 rw[hk] at hk2;cases hk2
 split at hu
 ·cases hu;rfl
 grind
def mI(us:List Nat)(hb:Nat→Option aX):List (Nat×Option aX)→List (Nat×Option aX)×List VC
 |[]=>([],[])
 |
  x::l=>match x.2 with
  |some k=>if eB x.1 us then((mI us hb l).1,⟨hb x.1=some k,Classical.propDecidable _⟩::(mI us hb l).2) else(x::(mI us hb l).1,(mI us hb l).2)
  |none=>(x::(mI us hb l).1,(mI us hb l).2)
theorem uv{us:List Nat}{hb:Nat→Option aX}{hp0:List (Option aX)}(hB:HB hb hp0):∀{l:List (Nat×Option aX)}{hp:List (Option aX)},(∀b∈l.map (·.1),hp[b]? =hp0[b]?)→(l.map (·.1)).Nodup→gm (mI us hb l).2→bJ hp (mI us hb l).1=bJ hp l
 |[],_,_,_,_=>rfl
 |
  (b,k)::l,hp,h,hn,hv=>by
  simp only[fp,lE] at hn
  have FA:gm (mI us hb l).2→bJ (hp.set b k) (mI us hb l).1=bJ (hp.set b k) l:=fun hv=>uv hB (fun c hc=>by
   have:b≠c:=fun e=>hn.1 (e▸hc)
   rw[List.getElem?_set_ne this]
   exact h c (dH _ hc)) hn.2 hv
  cases k with
  |none=>simp only[mI] at hv ⊢;exact FA hv
  |
   some k=>
   by_cases hu:eB b us=true
   ·simp only[mI,aA hu] at hv ⊢
    have e:hp[b]? =some (some k):=by
     rw[h b (dx ..)]
     exact hB b k hv.1
    have e2:hp.set b (some k)=hp:=by
     apply List.ext_getElem?
     intro i
     rw[fY]
     split
     ·rename_i hi;subst hi
      obtain⟨hlt,_⟩:=List.getElem?_eq_some_iff.1 e
      rw[aA hlt,e]
     ·rfl
    show bJ hp (mI us hb l).1=bJ (hp.set b (some k)) l
    rw[e2]
    exact uv hB (fun c hc=>h c (dH _ hc)) hn.2 hv.2
   ·simp only[mI,aB hu] at hv ⊢
    exact FA hv
theorem gm.app:∀{l m:List VC},gm (l++m)→gm l∧gm m
 |[],_,h=>⟨trivial,h⟩
 |_::_,_,h=>⟨⟨h.1,(gm.app h.2).1⟩,(gm.app h.2).2⟩
def AM(r:CR)(hb:Nat→Option aX)(x:jv×List Prop):Option (jv×List Prop):=match r.us with
 |[]=>some x
 |us=>if !r.oi&&oD (x.1.hw.map (·.1)) then some (⟨x.1.v,(mI us hb x.1.hw).1,x.1.fr,x.1.vc++(mI us hb x.1.hw).2⟩,x.2) else none
theorem OO{r:CR}{hb:Nat→Option aX}{hp:List (Option aX)}(hB:HB hb hp){x y:jv×List Prop}(h:AM r hb x=some y)(hv:gm y.1.vc):y.1.v=x.1.v∧y.1.fr=x.1.fr∧y.2=x.2∧bJ hp y.1.hw=bJ hp x.1.hw:=by
 unfold AM at h
 split at h
 ·grind
 ·split at h
  ·rename_i hc
   cases h
   simp only[bP] at hc
   exact⟨rfl,rfl,rfl,uv hB (fun _ _=>rfl) (jR hc.2) (gm.app hv).2⟩
  grind
theorem Tl{r:CR}{hb:Nat→Option aX}{x y:jv×List Prop}(h:AM r hb x=some y):y.2=x.2:=by
 grind [AM]
theorem Mk{r:CR}(hp:r.oi=true){hb:Nat→Option aX}{x y:jv×List Prop}(h:AM r hb x=some y):y=x:=by
 grind [AM]
def sq(P:Program)(G:dq)(gl:Ctx)(d:Nat)(r:CR)(op:Op)(ev:Operand→AV)(hb:Nat→Option aX):Option (jv×List Prop):=
 match op with
 |
  .call c=>match c.callee with
  | .builtin _=>(so P G d (.call c) ev hb).map fun e=>(e,[])
  |_=>Option.bind (t8 P G gl r ev hb c) (AM r hb)
 |op=>(so P G d op ev hb).map fun e=>(e,[])
def lkT:List (Nat×Ty)→Nat→Option Ty
 |[],_=>none
 |(t,ty)::l,x=>if Nat.beq t x then some ty else lkT l x
def Ml(hb:Nat→Option aX)(z:List (Nat×Ty))(ev:Operand→AV):Operand→AV
 |
  .tmp t=>match lkT z t with
  |
   some ty=>match view hb (ev (.tmp t)) false ty with
   |some (y,_)=>if(ev (.tmp t)).plain then y else .bot
   |none=>.bot
  |none=>ev (.tmp t)
 |x=>ev x
def oY(hb:Nat→Option aX)(ev:Operand→AV):List (Nat×Ty)→List Nat
 |[]=>[]
 |
  (t,ty)::l=>(match view hb (ev (.tmp t)) false ty with
  |some (_,m)=>m
  |none=>[])++oY hb ev l
def rq(ev:Operand→AV):List (Nat×Ty)→List Nat
 |[]=>[]
 |(t,_)::l=>(ev (.tmp t)).ids++rq ev l
def iC:List Nat→List (Nat×Option aX)
 |[]=>[]
 |b::l=>(b,none)::iC l
def OP:List (Nat×Ty)→List Nat
 |[]=>[]
 |(t,_)::l=>t::OP l
def US:List (Nat×Nat×Ty)→Nat→List (Nat×Ty)
 |[],_=>[]
 |(j,t,ty)::l,i=>if Nat.beq j i then(t,ty)::US l i else US l i
def g7(P:Program)(G:dq)(gl:Ctx)(ops:Array Oper)(r:CR)(z:List (Nat×Ty))(σ:St)(i:Nat):Option (bL×List VC×List Prop):=
 match ops[i]? with
 |none=>none
 |
  some o=>
  match guardOf ops σ.tm o with
  |none=>none
  |some false=>some (⟨(oX ops o).toList,[],[],o.dst,.ky .nil,[]⟩,[],[])
  |
   some true=>
   match z with
   |
    []=>(match sq P G gl (UR o.dst) r o.op (db gl σ.tm) (kg (xq o.op (db gl σ.tm)++r.ps.map (·.2)) σ.hp) with
    |none=>none
    |some (e,ob)=>some (⟨slotsOf o.op.operands.toList++(oX ops o).toList,xq o.op (db gl σ.tm)++r.ps.map (·.2),e.fr,o.dst,e.v,e.hw⟩,e.vc,ob))
   |
    z=>(match sq P G gl (UR o.dst) r o.op (Ml (kg (rq (db gl σ.tm) z) σ.hp) z (db gl σ.tm)) (kg (xq o.op (Ml (kg (rq (db gl σ.tm) z) σ.hp) z (db gl σ.tm))++r.ps.map (·.2)) (bJ σ.hp (iC (oY (kg (rq (db gl σ.tm) z) σ.hp) (db gl σ.tm) z)))) with
    |none=>none
    |some (e,ob)=>some (⟨slotsOf o.op.operands.toList++OP z++(oX ops o).toList,rq (db gl σ.tm) z++(xq o.op (Ml (kg (rq (db gl σ.tm) z) σ.hp) z (db gl σ.tm))++r.ps.map (·.2)),e.fr,o.dst,e.v,iC (oY (kg (rq (db gl σ.tm) z) σ.hp) (db gl σ.tm) z)++e.hw⟩,e.vc,ob))
theorem jT{gl:Ctx}{σ:St}{E:Env}{a:Act}{w:World}(h:dE gl σ E a w){ops:Array Oper}{o:Oper}{c:Bool}(hc:guardOf ops σ.tm o=some c):Region.wanted o (yielded ops a.tmps)=c:=by
 unfold guardOf at hc
 unfold Region.wanted
 split at hc
 ·grind
 ·rename_i j want hg
  rw[hg]
  split at hc
  ·rename_i t ht
   have hy:∀v,a.tmps[t]? =some v→yielded ops a.tmps j=(match v with| .bool b=>some b|_=>none):=by
    grind [yielded]
   split at hc
   ·rename_i b hb
    cases hc
    have hlt:t<a.tmps.size:=by rw[h.len];grind
    have hr:=h.tm t _ hb a.tmps[t] (by grind)
    have hv:=RV.ib hr
    simp only
    rw[hy a.tmps[t] (by grind),hv]
    cases want<;>cases b<;>rfl
   ·rename_i hb
    cases hc
    have hlt:t<a.tmps.size:=by rw[h.len];grind
    obtain⟨vs,e,_⟩:=h.tm t _ hb a.tmps[t] (by grind)
    simp_all
   grind
  grind
theorem mB{gl:Ctx}{σ σ':St}{rt rb:List Nat}(ha:mo σ σ' rt rb){x:Operand}(hx:∀t∈OL x,t∈rt):db gl σ'.tm x=db gl σ.tm x:=by
 cases x with
 |tmp t=>simp only[db];rw[ha.tm t (hx t (by simp[OL]))]
 |_=>rfl
theorem ki{σ σ':St}{rt rb:List Nat}(ha:mo σ σ' rt rb){ops:Array Oper}{o:Oper}(hx:∀t∈(oX ops o).toList,t∈rt):guardOf ops σ'.tm o=guardOf ops σ.tm o:=by
 unfold guardOf
 unfold oX at hx
 split
 ·rfl
 ·rename_i j want hg
  rw[hg] at hx
  simp only at hx
  split
  ·rename_i t ht
   rw[ht] at hx
   rw[ha.tm t (hx t (by simp))]
  ·rfl
theorem oZ{σ σ':St}{rt need:List Nat}(ha:mo σ σ' rt need):HB (kg need σ.hp) σ'.hp:=by
 intro b k hk
 unfold kg at hk
 split at hk
 ·rename_i hn
  have hm:b∈need:=by
   have key:∀l:List Nat,eB b l=true→b∈l:=by
    intro l
    induction l with
    |nil=>intro h;cases h
    |
     cons x l ih=>
     intro h
     simp only[eB,jV] at h
     rcases h with h|h<;>simp_all
   grind
  rw[ha.hp b hm]
  grind
 grind
theorem zw.wp{P:Program}{gl:Ctx}{σ:St}{E:Env}{a:Act}{w:World}{o:Oper}{r:jv}(h:zw P gl σ E a w o r){K:Act→World→Prop}{Q:Exit→Act→World→Prop}{x:AV}
 (hx:∀E' w' v,RV E' w' r.v v→RV E' w' x v) (hk:∀E' a' w',dE gl (({σ with hp:=bJ σ.hp r.hw}:St).put o.dst x) E' a' w'→Ext gl.md (cU σ.hp E) E w (cU (bJ σ.hp r.hw) E') E' w'→K a' w'):o.wpIn (Wd gl) 0 P a w K Q:=
 h K Q (fun E' v w' h1 h2 h3=>hk E' _ w' (h1.put o.dst (hx E' w' v h2)) h3)
theorem Gb{P:Program}{G:dq}(T:cQ P G){gl:Ctx}{σ:St}{E:Env}{a:Act}{w:World}(h:dE gl σ E a w){o:Oper}{d:Nat}{x:CR}(apm:x.oi=false){ev:Operand→AV}{hb:Nat→Option aX}(hB:HB hb σ.hp){r:jv}{ob:List Prop}
 (hev:∀x∈o.op.operands.toList,RV E w (ev x) (a.eval x)) (hids:∀x∈o.op.operands.toList,∀b∈(ev x).ids,b∈σ.ids) (he:sq P G gl d x o.op ev hb=some (r,ob)) (hvc:gm r.vc) (hob:∀p∈ob,p) (hfr:∀b∈r.fr,σ.fresh b):zw P gl σ E a w o r:=by
 unfold sq at he
 split at he
 ·rename_i c hop
  split at he
  ·simp only[jz,jb] at he
   obtain⟨e,he,rfl,_⟩:=he
   exact(F9 T h hB hev hids (by rw[hop];exact he) hvc hfr).to (by grind)
  ·simp only[xh] at he
   obtain⟨⟨e,ob'⟩,he,hk⟩:=he
   obtain⟨k1,k2,k3,k4⟩:=OO hB hk hvc
   simp only at k1 k2 k3 k4
   subst k3
   have:=LY T h hop hB apm hev he hob (by grind)
   intro K Q hK
   refine this K Q ?_<;>grind
 ·simp only[jz,jb] at he
  obtain⟨e,he,rfl,_⟩:=he
  exact(F9 T h hB hev hids he hvc hfr).to (ON he)
theorem sr:∀(l m:List (Nat×Option aX))(hp:List (Option aX)),bJ hp (l++m)=bJ (bJ hp l) m
 |[],_,_=>rfl
 |(b,k)::l,m,hp=>by simp only[List.cons_append,bJ];exact sr l m _
theorem gk:∀{l:List Nat}{hp:List (Option aX)}{b:Nat}{k:aX},(bJ hp (iC l))[b]? =some (some k)→b∉l∧hp[b]? =some (some k)
 |[],hp,b,k,h=>⟨by simp,h⟩
 |
  c::l,hp,b,k,h=>by
  simp only[iC,bJ] at h
  obtain⟨h1,h2⟩:=gk h
  grind
theorem dE.zap{gl:Ctx}{σ:St}{E:Env}{a:Act}{w:World}(h:dE gl σ E a w){l:List Nat}(hl:∀b∈l,∃k,σ.hp[b]? =some (some k)):
 dE gl {σ with hp:=bJ σ.hp (iC l)} (E.eQ l) a w∧Ext gl.md (cU σ.hp E) E w (cU (bJ σ.hp (iC l)) (E.eQ l)) (E.eQ l) w:=by
 have hk:di E w (E.eQ l) w:=Env.gA l
 have on:∀ids,E.on (E.eQ l) ids:=fun ids b _=>⟨rfl,rfl,rfl⟩
 refine⟨⟨h.len,fun i x hi v hv=>RV.mono hk (on _) (h.tm i x hi v hv),⟨?_,?_,?_,?_,h.hw.kz hk,fun b k g hb=>h.hw.xi b k g (gk hb).2⟩,RD.mono hk (fun _ _=>on _) h.df⟩,⟨rfl,Tp.r rfl rfl,rfl,cV _,fun _ _ _=>rfl,fun g hg=>Or.inl hg,?_,?_,fun _ _=>⟨rfl,rfl,rfl⟩⟩⟩
 ·intro b k hb
  exact RB.mono hk (on _) (fun _ _=>rfl) (fun _ _ h=>h) (h.hw.eJ b k (gk hb).2)
 ·intro b b' k k' g hb hb' h1 h2
  exact h.hw.gY b b' k k' g (gk hb).2 (gk hb').2 h1 h2
 ·intro b k g hb hg hs
  obtain⟨h1,h2⟩:=gk hb
  rcases hs with hs|⟨c,hc,e⟩
  ·exact h.hw.fZ b k g h2 hg hs
  ·obtain⟨k',hk'⟩:=hl c hc
   have:=h.hw.gY c b k' k g hk' h2 (Or.inl e) hg
   grind
 ·rintro g (hs|⟨c,hc,e⟩)
  ·exact h.hw.slt g hs
  ·obtain⟨k',hk'⟩:=hl c hc
   exact cU.below h.hw ⟨c,k',hk',Or.inl e⟩
 ·rintro g (hs|⟨c,hc,e⟩)
  ·grind
  ·obtain⟨k',hk'⟩:=hl c hc
   exact Or.inr (Or.inl ⟨c,k',hk',Or.inl e⟩)
 ·rintro g ⟨b,k,hb,hg⟩
  exact Or.inl ⟨b,k,(gk hb).2,hg⟩
theorem uw{hb:Nat→Option aX}{ev:Operand→AV}:∀{z:List (Nat×Ty)}{b:Nat},b∈oY hb ev z→∃k,hb b=some k
 |[],b,h=>by cases h
 |
  (t,ty)::l,b,h=>by
  simp only[oY,j5] at h
  rcases h with h|h
  ·split at h
   ·rename_i y m hv;exact wL hv b h
   ·cases h
  ·exact uw h
theorem Gc{hb:Nat→Option aX}{ev:Operand→AV}{t:Nat}{ty:Ty}{y:AV}{m:List Nat}(hv:view hb (ev (.tmp t)) false ty=some (y,m)):∀{z:List (Nat×Ty)},lkT z t=some ty→∀b∈m,b∈oY hb ev z
 |[],h,b,hbm=>by cases h
 |
  (t',ty')::l,h,b,hbm=>by
  simp only[lkT] at h
  simp only[oY,j5]
  split at h
  ·rename_i e
   have e:=dm e
   subst e;cases h
   left;rw[hv];exact hbm
  ·exact Or.inr (Gc hv h b hbm)
theorem OQ{gl:Ctx}{σ:St}{E:Env}{a:Act}{w:World}(h:dE gl σ E a w){hb:Nat→Option aX}(hB:HB hb σ.hp){z:List (Nat×Ty)}{ev:Operand→AV}{x:Operand}(hx:RV E w (ev x) (a.eval x)):RV (E.eQ (oY hb ev z)) w (Ml hb z ev x) (a.eval x):=by
 have hk:di E w (E.eQ (oY hb ev z)) w:=Env.gA _
 have triv:RV (E.eQ (oY hb ev z)) w (ev x) (a.eval x):=RV.mono hk (fun b _=>⟨rfl,rfl,rfl⟩) hx
 unfold Ml
 split
 ·rename_i t
  split
  ·rename_i ty hty
   split
   ·rename_i y m hv
    split
    ·rename_i hp
     have h1:=Fb h.hw hB hv (RV.mN hp hx)
     refine RV.gZ (ew.mono (E:=E.eQ m) (Env.lO (fun b hb'=>Gc hv hty b hb')) (fun b _=>⟨rfl,rfl,rfl⟩) h1)
    trivial
   trivial
  grind
 grind
theorem Tm{hb:Nat→Option aX}{z:List (Nat×Ty)}{ev:Operand→AV}{x:Operand}:∀b∈(Ml hb z ev x).ids,b∈(ev x).ids:=by
 unfold Ml
 intro b hb'
 split at hb'
 ·split at hb'
  ·split at hb'
   ·rename_i y m hv
    split at hb'
    ·rw[wO hv] at hb';cases hb'
    trivial
   trivial
  grind
 grind
theorem Mm{σ:St}{l:List Nat}{d:Nat}(h:σ.fresh d):({σ with hp:=bJ σ.hp (iC l)}:St).fresh d:=by
 refine⟨?_,fun k hk=>h.2.1 k (gk hk).2,h.2.2⟩
 have h1:=pJ.1 h.1
 exact pJ.2 ⟨h1.1,h1.2.1,fun i k hk=>h1.2.2 i k (gk hk).2⟩
theorem o9{P:Program}{G:dq}(T:cQ P G){gl:Ctx}{ops:Array Oper}{r:CR}(apm:r.oi=false){z:List (Nat×Ty)}{σ:St}{i:Nat}{f:bL}{vc:List VC}{ob:List Prop}(h:g7 P G gl ops r z σ i=some (f,vc,ob))(hvc:gm vc)(hob:∀p∈ob,p):tY P gl ops i f σ:=by
 unfold g7 at h
 split at h
 ·cases h
 ·rename_i o ho
  split at h
  ·cases h
  ·rename_i hc
   cases h
   intro σ' ha hfr E a w hg K Q hK
   unfold wpOpIn
   simp only[ho]
   have hw:=jT hg (ops:=ops) (o:=o) (c:=false) (by grind [ki])
   rw[hw]
   simp only[dv,dc]
   exact⟨fun _ _=>trivial,hK E _ w (hg.put o.dst ⟨#[],rfl,rfl⟩) (by rw[k9];exact Ext.refl _ _ _)⟩
  ·rename_i hc
   split at h
   ·split at h
    ·cases h
    ·rename_i e ob he
     cases h
     intro σ' ha hfr E a w hg K Q hK
     unfold wpOpIn
     simp only[ho]
     have hw:=jT hg (ops:=ops) (o:=o) (c:=true) (by grind [ki])
     rw[hw]
     simp only[cC]
     have ex:∀u,u∈o.op.operands.toList→db gl σ'.tm u=db gl σ.tm u:=fun u hu=>mB ha (fun t ht=>by grind [slotsOf])
     have hs:zw P gl σ' E a w o e:=by
      refine Gb T hg apm (oZ ha) (ev:=db gl σ.tm) ?_ ?_ he hvc hob hfr
      ·grind [j9]
      grind [Bu]
     exact hs.wp (x:=e.v) (fun _ _ _ h=>h) (fun E' a' w' h1 h2=>hK E' a' w' h1 (by rw[k9];exact h2))
   ·split at h
    ·cases h
    ·rename_i e ob he
     cases h
     intro σ' ha hfr E a w hg K Q hK
     unfold wpOpIn
     simp only[ho]
     have hw:=jT hg (ops:=ops) (o:=o) (c:=true) (by grind [ki])
     rw[hw]
     simp only[cC]
     have ex:∀u,u∈o.op.operands.toList→db gl σ'.tm u=db gl σ.tm u:=fun u hu=>mB ha (fun t ht=>by grind [slotsOf])
     have ha1:mo σ σ' [] (rq (db gl σ.tm) z):=⟨ha.tl,ha.hl,fun _ h=>(List.not_mem_nil h).elim,fun b hb=>ha.hp b (List.mem_append.2 (Or.inl hb))⟩
     have hB1:=oZ ha1
     generalize hl:oY (kg (rq (db gl σ.tm) z) σ.hp) (db gl σ.tm) z=l at he hK
     have hlk:∀b∈l,∃k,σ'.hp[b]? =some (some k):=by
      intro b hb
      rw[←hl] at hb
      obtain⟨k,hk⟩:=uw hb
      exact⟨k,hB1 b k hk⟩
     obtain⟨g1,x1⟩:=hg.zap hlk
     have ha2:mo {σ with hp:=bJ σ.hp (iC l)} {σ' with hp:=bJ σ'.hp (iC l)} [] (xq o.op (Ml (kg (rq (db gl σ.tm) z) σ.hp) z (db gl σ.tm))++r.ps.map (·.2)):=
      ⟨ha.tl,by simp only[oO];exact ha.hl,fun _ h=>(List.not_mem_nil h).elim,fun b hb=>lN ha.hl (ha.hp b (List.mem_append.2 (Or.inr hb)))⟩
     have hs:zw P gl {σ' with hp:=bJ σ'.hp (iC l)} (E.eQ l) a w o e:=by
      refine Gb T g1 apm (oZ ha2) (ev:=Ml (kg (rq (db gl σ.tm) z) σ.hp) z (db gl σ.tm)) ?_ ?_ he hvc hob (fun b hb=>Mm (hfr b hb))
      ·grind [j9,OQ]
      ·intro x hx b hb
       have hb:=Tm b hb
       rw[←ex x hx] at hb
       exact Bu (σ:={σ' with hp:=bJ σ'.hp (iC l)}) b hb
     refine hs.wp (x:=e.v) (fun _ _ _ h=>h) (fun E' a' w' h1 h2=>hK E' a' w' ?_ ?_)
     ·grind [sr,St.app]
     ·rw[k9];simp only[sr];exact x1.trans h2
def Ge(P:Program)(gl:Ctx)(ops:Array Oper)(i:Nat)(f:bL)(σ:St):Prop:=
 ∀σ',mo σ σ' f.rt f.rb→∀E a w,dE gl σ' E a w→∀(K:Act→World→Prop)(Q:Exit→Act→World→Prop),
  (∀E' u w',dE gl {σ' with hp:=bJ σ'.hp f.hw} E' a w'→RV E' w' f.v u→Ext gl.md (cU σ'.hp E) E w (cU (bJ σ'.hp f.hw) E') E' w'→Q (.panic [{v:=u,recovered:=false}]) a w')→wpOpIn (Wd gl) 0 P ops Q i K a w
theorem BW{P:Program}{G:dq}(T:cQ P G){gl:Ctx}{σ:St}{E:Env}{a:Act}{w:World}(h:dE gl σ E a w){o:Oper}{d:Nat}{x:CR}(apm:x.oi=true)(hcl:qC o.op=true){ev:Operand→AV}{hb:Nat→Option aX}(hB:HB hb σ.hp){r:jv}{ob:List Prop}
 (hev:∀x∈o.op.operands.toList,RV E w (ev x) (a.eval x)) (he:sq P G gl d x o.op ev hb=some (r,ob)) (hob:∀p∈ob,p) (hfr:∀b∈r.fr,σ.fresh b) {K:Act→World→Prop} {Q:Exit→Act→World→Prop}
 (hQ:∀E' v w',dE gl {σ with hp:=bJ σ.hp r.hw} E' a w'→RV E' w' r.v v→Ext gl.md (cU σ.hp E) E w (cU (bJ σ.hp r.hw) E') E' w'→Q (.panic [{v:=v,recovered:=false}]) a w'):o.wpIn (Wd gl) 0 P a w K Q:=by
 unfold sq at he
 split at he
 ·rename_i c hop
  split at he
  ·rename_i b hb'
   rw[hop] at hcl
   obtain⟨ca,asz,ts⟩:=c
   grind [qC]
  ·simp only[xh] at he
   grind [Mk,zQ]
 simp_all[qC]
theorem Jg{P:Program}{G:dq}(T:cQ P G){gl:Ctx}{ops:Array Oper}{r:CR}(apm:r.oi=true){z:List (Nat×Ty)}{σ:St}{i:Nat}{f:bL}{vc:List VC}{ob:List Prop}{o:Oper}(ho:ops[i]? =some o)(hgd:guardOf ops σ.tm o=some true)(hcl:qC o.op=true)
 (h:g7 P G gl ops r z σ i=some (f,vc,ob)) (hob:∀p∈ob,p) (hnf:f.fr= []):Ge P gl ops i f σ:=by
 unfold g7 at h
 simp only[ho,hgd] at h
 split at h
 ·split at h
  ·cases h
  ·rename_i e ob he
   cases h
   simp only at hnf
   intro σ' ha E a w hg K Q hQ
   unfold wpOpIn
   simp only[ho]
   have hw:=jT hg (ops:=ops) (o:=o) (c:=true) (by grind [ki])
   rw[hw]
   simp only[cC]
   have ex:∀u,u∈o.op.operands.toList→db gl σ'.tm u=db gl σ.tm u:=fun u hu=>mB ha (fun t ht=>by grind [slotsOf])
   refine BW T hg apm hcl (oZ ha) (ev:=db gl σ.tm) ?_ he hob (fun b hb=>by grind) hQ
   grind [j9]
 ·split at h
  ·cases h
  ·rename_i e ob he
   cases h
   simp only at hnf
   intro σ' ha E a w hg K Q hQ
   unfold wpOpIn
   simp only[ho]
   have hw:=jT hg (ops:=ops) (o:=o) (c:=true) (by grind [ki])
   rw[hw]
   simp only[cC]
   have ex:∀u,u∈o.op.operands.toList→db gl σ'.tm u=db gl σ.tm u:=fun u hu=>mB ha (fun t ht=>by grind [slotsOf])
   have ha1:mo σ σ' [] (rq (db gl σ.tm) z):=⟨ha.tl,ha.hl,fun _ h=>(List.not_mem_nil h).elim,fun b hb=>ha.hp b (List.mem_append.2 (Or.inl hb))⟩
   have hB1:=oZ ha1
   generalize hl:oY (kg (rq (db gl σ.tm) z) σ.hp) (db gl σ.tm) z=l at he hQ
   have hlk:∀b∈l,∃k,σ'.hp[b]? =some (some k):=by
    intro b hb
    rw[←hl] at hb
    obtain⟨k,hk⟩:=uw hb
    exact⟨k,hB1 b k hk⟩
   obtain⟨g1,x1⟩:=hg.zap hlk
   have ha2:mo {σ with hp:=bJ σ.hp (iC l)} {σ' with hp:=bJ σ'.hp (iC l)} [] (xq o.op (Ml (kg (rq (db gl σ.tm) z) σ.hp) z (db gl σ.tm))++r.ps.map (·.2)):=
    ⟨ha.tl,by simp only[oO];exact ha.hl,fun _ h=>(List.not_mem_nil h).elim,fun b hb=>lN ha.hl (ha.hp b (List.mem_append.2 (Or.inr hb)))⟩
   refine BW T g1 apm hcl (oZ ha2) (ev:=Ml (kg (rq (db gl σ.tm) z) σ.hp) z (db gl σ.tm)) ?_ he hob (fun b hb=>by grind) ?_
   ·grind [j9,OQ]
   ·intro E' u w' q1 q2 q3
    refine hQ E' u w' ?_ q2 ?_
    ·simp only[sr] at q1 ⊢;exact q1
    ·simp only[sr];exact x1.trans q3
def AN(ops:Array Oper)(i:Nat):Bool:=
 match ops[i]? with
 |some o=>qC o.op
 |none=>false
def OR:List Oper→Nat→Bool
 |[],_=>false
 |o::l,i=>(match o.guard with|some (j,_)=>Nat.beq i j|none=>false)||OR l i
end Go.Ax
namespace Go.Ax
section
variable{P:Program} {b:Frame} {a:Act} {k:List Item} {cs:List Frame} {w:World}
theorem kR{c:Code}:step P (lone (b.atR a (.code (.scope c)::k)) cs w)= .next (lone (b.atR a (.code c::.inScope c::k)) cs w):=
 step_lone_go (by trivial)
theorem Bl{c:Code}:step P (lone (b.atR a (.inScope c::k)) cs w)= .next (lone (b.atR a k) cs w):=
 step_lone_go (by trivial)
def noGoto(Q:Exit→Act→World→Prop):Exit→Act→World→Prop
 | .goto _,_,_=>False
 |e,a,w=>Q e a w
theorem Jh{F:Fence}{n:Nat}{Q:Exit→Act→World→Prop}{c:Code}(h:c.wpIn F n P (noGoto Q) a w):(Code.scope c).wpIn F n P Q a w:=by
 intro b k cs hro hb hr
 have h0:(lone (b.atR a (.code (.scope c)::k)) cs w).fenced P F:=fenced_calm hb hr rfl
 obtain⟨e,a₁,w₁,hq,apA⟩:=h b (.inScope c::k) cs hro hb hr
 cases e with
 |normal=>exact⟨.normal,a₁,w₁,hq,.head h0 kR (StepsIn.trans apA (.one (fenced_calm hb hr rfl) Bl))⟩
 |
  exit id=>
  have hx:exitTo id (.inScope c::k)=exitTo id k:=by trivial
  exact⟨.exit id,a₁,w₁,hq,fun k' hk=>.head h0 kR (apA.1 k' (by grind)),
   fun hr' hk=>let⟨k₁,h1,h2⟩:=apA.2 hr' (by grind);⟨k₁,h1,.head h0 kR h2⟩⟩
 |goto l=>trivial
 |ret=>exact⟨_,a₁,w₁,hq,.of_steps (.one h0 kR) apA⟩
 |panic ch=>exact⟨_,a₁,w₁,hq,.of_steps (.one h0 kR) apA⟩
 |outgrown=>exact⟨_,a₁,w₁,hq,.of_steps (.one h0 kR) apA⟩
end
inductive jU where
 |normal
 |exit (id:Nat)
 |ret
 |panic (v:AV)
def ExR(E:Env)(w:World):jU→Exit→Prop
 | .normal,.normal=>True
 | .exit i,.exit j=>i=j
 | .ret,.ret=>True
 | .panic x,.panic chain=>∃u,chain= [{v:=u,recovered:=false}]∧ew E w x u
 |_,_=>False
def vO(gl:Ctx)(Q:jU→St→Prop)(σ:St)(E:Env)(w:World)(ex:Exit)(a':Act)(w':World):Prop:=
 ∃x σ' E',ExR E' w' x ex∧Q x σ'∧dE gl σ' E' a' w'∧Ext gl.md (cU σ.hp E) E w (cU σ'.hp E') E' w'
def eV(P:Program)(gl:Ctx)(c:Code)(σ:St)(Q:jU→St→Prop):Prop:=
 ∀E a w,dE gl σ E a w→c.wpIn (Wd gl) 0 P (vO gl Q σ E w) a w
section
variable{P:Program} {gl:Ctx} {σ:St} {Q:jU→St→Prop}
theorem eV.mono{c:Code}{Q':jU→St→Prop}(h:eV P gl c σ Q)(hq:∀x σ',Q x σ'→Q' x σ'):eV P gl c σ Q':=
 fun E a w hg=>wpIn_mono (h E a w hg) (fun _ _ _ ⟨x,σ',E',h1,h2,h3⟩=>⟨x,σ',E',h1,hq _ _ h2,h3⟩)
theorem eV.skip(h:Q .normal σ):eV P gl .skip σ Q:=fun E _a _w hg=>wpIn_skip ⟨.normal,σ,E,trivial,h,hg,Ext.refl _ _ _⟩
theorem eV.label{l:Nat}(h:Q .normal σ):eV P gl (.label l) σ Q:=fun E _a _w hg=>wpIn_label ⟨.normal,σ,E,trivial,h,hg,Ext.refl _ _ _⟩
theorem eV.scope{c:Code}(h:eV P gl c σ Q):eV P gl (.scope c) σ Q:=fun E a w hg=>Jh (wpIn_mono (h E a w hg) fun ex a' w' hp=>by
 cases ex with
 |goto l=>obtain⟨x,_,_,h1,_⟩:=hp;cases x<;>exact h1.elim
 |_=>exact hp)
theorem eV.exit{i:Nat}(h:Q (.exit i) σ):eV P gl (.exit i) σ Q:=fun E _a _w hg=>wpIn_exit ⟨.exit i,σ,E,rfl,h,hg,Ext.refl _ _ _⟩
theorem eV.ret(h:Q .ret σ):eV P gl .ret σ Q:=fun E _a _w hg=>wpIn_ret ⟨.ret,σ,E,trivial,h,hg,Ext.refl _ _ _⟩
def aa3(P:Program)(gl:Ctx)(y:Code)(Q:jU→St→Prop):jU→St→Prop
 | .normal,σ=>eV P gl y σ Q
 |x,σ=>Q x σ
theorem eV.seq{x y:Code}(h:eV P gl x σ (aa3 P gl y Q)):eV P gl (.seq x y) σ Q:=by
 intro E a w hg
 refine wpIn_seq (wpIn_mono (h E a w hg) ?_)
 rintro ex a1 w1 ⟨x1,σ1,E1,h1,h2,h3,h4⟩
 cases ex with
 |
  normal=>
  cases x1 with
  |
   normal=>
   refine wpIn_mono (h2 E1 a1 w1 h3) ?_
   rintro e2 a2 w2 ⟨x2,σ2,E2,k1,k2,k3,k4⟩
   exact⟨x2,σ2,E2,k1,k2,k3,h4.trans k4⟩
  |_=>trivial
 |
  _=>
  cases x1 with
  |normal=>trivial
  |_=>exact⟨_,σ1,E1,h1,h2,h3,h4⟩
theorem eV.cond{c:Operand}{x y:Code}{b:Bool}(hc:db gl σ.tm c= .val .bool b)(ht:b=true→eV P gl x σ Q)(hf:b=false→eV P gl y σ Q):eV P gl (.cond c x y) σ Q:=by
 intro E a w hg
 have hv:=j9 hg c
 rw[hc] at hv
 exact wpIn_cond_split (RV.ib hv) (fun h=>ht h E a w hg) (fun h=>hf h E a w hg)
def Eg(id:Nat)(Q:jU→St→Prop):jU→St→Prop
 | .exit i,σ=>if i=id then Q .normal σ else Q (.exit i) σ
 |x,σ=>Q x σ
theorem eV.block{id:Nat}{c:Code}(h:eV P gl c σ (Eg id Q)):eV P gl (.block id c) σ Q:=by
 intro E a w hg
 refine wpIn_block (wpIn_mono (h E a w hg) ?_)
 rintro ex a1 w1 ⟨x1,σ1,E1,h1,h2,h3,h4⟩
 cases ex with
 |
  exit i=>
  cases x1 with
  |
   exit j=>
   have e:j=i:=h1
   subst e
   simp only[Eg] at h2
   simp only[Exit.inBlock]
   split
   ·rename_i e;rw[aA e] at h2;exact⟨.normal,σ1,E1,trivial,h2,h3,h4⟩
   ·rename_i e;rw[aB e] at h2;exact⟨.exit j,σ1,E1,rfl,h2,h3,h4⟩
  |_=>trivial
 |_=>cases x1<;>first|exact h1.elim|exact⟨_,σ1,E1,h1,h2,h3,h4⟩
def aa4(R:Nat→St→Prop)(n:Nat)(Q:jU→St→Prop):jU→St→Prop
 | .normal,σ=>∃m,m<n∧R m σ
 |x,σ=>Q x σ
theorem eV.loop{c:Code}(R:Nat→St→Prop)(hR:∀n σ,R n σ→eV P gl c σ (aa4 R n Q)){n:Nat}(h0:R n σ):eV P gl (.loop c) σ Q:=by
 intro E0 a0 w0 hg0 b k cs hro hb hr0
 have key:∀n σ1 E1 a1 w1,R n σ1→dE gl σ1 E1 a1 w1→Ext gl.md (cU σ.hp E0) E0 w0 (cU σ1.hp E1) E1 w1→
  ∃e a' w',vO gl Q σ E0 w0 e a' w'∧ArrivesIn (Machine.fenced P (Wd gl)) P (lone (b.atR a1 (.code c::.inLoop c::k)) cs w1) b k cs e a' w':=by
  intro n
  induction n using Nat.strongRecOn with
  |
   _ n ih=>
   intro σ1 E1 a1 w1 hr hg hx
   obtain⟨e,a2,w2,⟨x,σ2,E2,h1,h2,h3,h4⟩,apA⟩:=hR n σ1 hr E1 a1 w1 hg b (.inLoop c::k) cs hro hb hr0
   cases e with
   |
    normal=>
    cases x with
    |
     normal=>
     obtain⟨m,hm,hr2⟩:=h2
     obtain⟨e₂,a₂,w₂,hq₂,harr₂⟩:=ih m hm σ2 E2 a2 w2 hr2 h3 (hx.trans h4)
     exact⟨e₂,a₂,w₂,hq₂,.of_steps (StepsIn.trans apA (.one (fenced_calm hb hr0 rfl) stepR_inLoop)) harr₂⟩
    |_=>trivial
   |exit id=>exact⟨_,a2,w2,⟨x,σ2,E2,h1,by cases x<;>first|trivial|exact h2,h3,hx.trans h4⟩,.pass (x:=.inLoop c) rfl (fun _ _=>.inl (by simp)) apA⟩
   |goto l=>cases x<;>exact h1.elim
   |ret=>exact⟨_,a2,w2,⟨x,σ2,E2,h1,by cases x<;>first|trivial|exact h2,h3,hx.trans h4⟩,.pass (x:=.inLoop c) rfl (fun _ _=>.inl (by simp)) apA⟩
   |panic ch=>exact⟨_,a2,w2,⟨x,σ2,E2,h1,by cases x<;>first|trivial|exact h2,h3,hx.trans h4⟩,.pass (x:=.inLoop c) rfl (fun _ _=>.inl (by simp)) apA⟩
   |outgrown=>cases x<;>exact h1.elim
 obtain⟨e,a',w',hq,apA⟩:=key n σ E0 a0 w0 h0 hg0 (Ext.refl _ _ _)
 exact⟨e,a',w',hq,.of_steps (.one (fenced_calm hb hr0 rfl) stepR_loop) apA⟩
def qD(G:dq)(σ:St):List ResultVar→Option (List AV)
 |[]=>some []
 |
  .tmp t::l=>match σ.tm[t]?,qD G σ l with
  |some x,some xs=>if x.plain then some (x::xs) else none
  |_,_=>none
 |
  .cell t ty::l=>match σ.tm[t]?,qD G σ l with
  |
   some x,some xs=>match zn G (fun b=>(σ.hp[b]?).join) ty x with
   |some y=>if y.plain then some (y::xs) else none
   |none=>none
  |_,_=>none
def AV.ofList:List AV→AV
 |[]=>.nil
 |x::l=>.cons x (AV.ofList l)
def mJ(G:dq)(rs:List ResultVar)(σ:St):Option AV:=
 match qD G σ rs with
 |some [x]=>some x
 |some l=>some (.ky (AV.ofList l))
 |none=>none
def prune:List (Option aX)→List Bool→List (Option aX)
 |x::l,true::m=>x::prune l m
 |_::l,false::m=>none::prune l m
 |_,[]=>[]
 |[],_=>[]
theorem mW{b:Nat}{k:aX}:∀{l:List (Option aX)}{m:List Bool},(prune l m)[b]? =some (some k)→l[b]? =some (some k):=by
 intro l
 induction l generalizing b with
 |nil=>intro m h;cases m<;>simp[prune] at h
 |
  cons x l ih=>
  intro m h
  cases m with
  |nil=>trivial
  |
   cons y m=>
   cases b with
   |zero=>cases y<;>simp[prune] at h;grind
   |succ b=>cases y<;>simp[prune] at h<;>simpa using ih h
theorem HW.prune{E:Env}{w:World}{hp:List (Option aX)}(h:HW gl E w hp)(m:List Bool):HW gl E w (Ax.prune hp m) where
 eJ:=fun b k hb=>h.eJ b k (mW hb)
 gY:=fun b b' k k' g h1 h2=>h.gY b b' k k' g (mW h1) (mW h2)
 fZ:=fun b k g h1=>h.fZ b k g (mW h1)
 xi:=fun b k g h1=>h.xi b k g (mW h1)
 slt:=h.slt
 gl:=h.gl
def Gf(tmps:Array Value):ResultVar→Sem Value
 | .tmp t=>pure (tmps.getD t undef)
 | .cell c t=>do loadVar t (←asAddr (tmps.getD c undef))
theorem AO(fn:Func)(tmps:Array Value):results fn tmps=(do
 let vs ←fn.results.mapM (Gf tmps)
 pure (if h:vs.size=1 then vs[0] else .tuple vs)):=by
 trivial
theorem ux{G:dq}(T:cQ P G){E:Env}{a:Act}{w:World}(hg:dE gl σ E a w):∀{rs:List ResultVar}{xs:List AV},qD G σ rs=some xs→
 ∃vs:List Value,(rs.mapM (Gf a.tmps)).run P w= .ok vs w∧RT E w (AV.ofList xs) vs∧vs.length=xs.length
 |[],xs,h=>by cases h;exact⟨[],by simp,rfl,rfl⟩
 |
  .tmp t::l,xs,h=>by
  unfold qD at h
  split at h
  ·rename_i x xs' hx hl
   split at h
   ·rename_i hp
    cases h
    obtain⟨vs,h1,h2,h3⟩:=ux T hg hl
    have hlt:t<a.tmps.size:=by rw[hg.len];exact(List.getElem?_eq_some_iff.1 hx).1
    have hv:=hg.tm t _ hx a.tmps[t] (by simp[hlt])
    refine⟨a.tmps[t]::vs,?_,⟨RV.mN hp hv,h2⟩,by simp[h3]⟩
    simp only[List.mapM_cons,Sem.run_bind,Gf,Sem.run_pure,Result.andThen_ok,h1]
    simp[hlt]
   ·cases h
  ·cases h
 |
  .cell t ty::l,xs,h=>by
  unfold qD at h
  split at h
  ·rename_i x xs' hx hl
   split at h
   ·rename_i y hy
    split at h
    ·rename_i hp
     cases h
     obtain⟨vs,h1,h2,h3⟩:=ux T hg hl
     have hlt:t<a.tmps.size:=by rw[hg.len];exact(List.getElem?_eq_some_iff.1 hx).1
     have hv:=hg.tm t _ hx a.tmps[t] (by simp[hlt])
     have hB:HB (fun b=>(σ.hp[b]?).join) σ.hp:=by
      intro b k hk
      cases hh:σ.hp[b]? with
      |none=>simp[hh] at hk
      |some z=>simp[hh] at hk;rw[hk]
     obtain⟨u,h4,h5⟩:=wH T hg.hw hB hv hy
     have h4':(do loadVar ty (←asAddr (a.tmps.getD t undef)):Sem Value).run P w= .ok u w:=by
      have e:a.tmps.getD t undef=a.tmps[t]:=by simp[hlt]
      rw[e]
      simp only[Instr.loadAt,Sem.run_bind] at h4 ⊢
      cases hq:a.tmps[t] with
      |
       pointer p=>
       cases p with
       |some ad=>rw[hq] at h4;simpa[Instr.sureAddr,asAddr] using h4
       |none=>rw[hq] at h4;simp[Instr.sureAddr] at h4
      |_=>rw[hq] at h4;simp[Instr.sureAddr] at h4
     refine⟨u::vs,?_,⟨RV.mN hp h5,h2⟩,by simp[h3]⟩
     simp only[List.mapM_cons,Sem.run_bind,Gf]
     simp only[Sem.run_bind] at h4'
     rw[h4']
     simp only[Result.andThen_ok,h1,Sem.run_pure]
    ·cases h
   ·cases h
  ·cases h
end
end Go.Ax
namespace Go.Ax
theorem vP{P:Program}{G:dq}(T:cQ P G){gl:Ctx}{σ:St}{E:Env}{a:Act}{w:World}(hg:dE gl σ E a w){fn:Func}{x:AV}(h:mJ G fn.results.toList σ=some x):∃v,(results fn a.tmps).run P w= .ok v w∧RV E w x v:=by
 have key:∀xs,qD G σ fn.results.toList=some xs→∃vs:Array Value,(fn.results.mapM (Gf a.tmps)).run P w= .ok vs w∧RT E w (AV.ofList xs) vs.toList∧vs.toList.length=xs.length:=by
  intro xs hx
  obtain⟨vs,h1,h2,h3⟩:=ux T hg hx
  simp_all[Array.mapM_eq_mapM_toList]
 unfold mJ at h
 split at h
 ·rename_i y hy
  cases h
  obtain⟨vs,h1,h2,h3⟩:=key _ hy
  obtain⟨l⟩:=vs
  cases l with
  |nil=>grind
  |
   cons v l=>
   cases l with
   |cons _ _=>grind
   |
    nil=>
    refine⟨v,?_,RV.gZ h2.1⟩
    simp_all[AO]
 ·rename_i xs hne hxs
  cases h
  obtain⟨vs,h1,h2,h3⟩:=key _ hxs
  refine⟨.tuple vs,?_,⟨vs,rfl,h2⟩⟩
  rw[AO]
  simp only[Sem.run_bind]
  rw[h1]
  have:¬vs.size=1:=by
   intro e
   rw[tp,e] at h3
   match xs,h3 with
   |[y],_=>grind
  simp_all
 grind
end Go.Ax
namespace Go.Ax
def Wk(gl:Ctx)(σ σ':St):Prop:=
 ∀E a w,dE gl σ E a w→∃E',dE gl σ' E' a w∧Ext gl.md (cU σ.hp E) E w (cU σ'.hp E') E' w
theorem Wk.refl(gl:Ctx)(σ:St):Wk gl σ σ:=fun E _ _ h=>⟨E,h,Ext.refl _ _ _⟩
theorem Wk.trans{gl:Ctx}{σ σ1 σ2:St}(h:Wk gl σ σ1)(k:Wk gl σ1 σ2):Wk gl σ σ2:=fun E a w hg=>by
 obtain⟨E1,g1,x1⟩:=h E a w hg
 obtain⟨E2,g2,x2⟩:=k E1 a w g1
 exact⟨E2,g2,x1.trans x2⟩
def xH(ts:List Nat):Nat→List AV→List AV
 |_,[]=>[]
 |i,x::l=>(if eB i ts then x else .bot)::xH ts (i+1) l
def BX(bs:List Nat):Nat→List (Option aX)→List (Option aX)
 |_,[]=>[]
 |i,x::l=>(if eB i bs then x else none)::BX bs (i+1) l
theorem BY{ts:List Nat}:∀{l:List AV}{i j:Nat}{x:AV},(xH ts i l)[j]? =some x→x= .bot∨l[j]? =some x
 |[],i,j,x,h=>by trivial
 |
  y::l,i,0,x,h=>by
  grind [xH]
 |
  y::l,i,j+1,x,h=>by
  simp only[xH,zg] at h
  simpa using BY h
theorem BZ{ts:List Nat}:∀{l:List AV}{i:Nat},(xH ts i l).length=l.length
 |[],_=>rfl
 |_::l,i=>by simp[xH,BZ (l:=l)]
theorem xb{bs:List Nat}{k:aX}:∀{l:List (Option aX)}{i j:Nat},(BX bs i l)[j]? =some (some k)→l[j]? =some (some k)
 |[],i,j,h=>by trivial
 |
  y::l,i,0,h=>by
  grind [BX]
 |
  y::l,i,j+1,h=>by
  simp only[BX,zg] at h
  simpa using xb h
theorem HW.less{gl:Ctx}{E:Env}{w:World}{hp hp':List (Option aX)}(h:HW gl E w hp)(hs:∀(b:Nat)(k:aX),hp'[b]? =some (some k)→hp[b]? =some (some k)):HW gl E w hp' where
 eJ:=fun b k hb=>h.eJ b k (hs b k hb)
 gY:=fun b b' k k' g h1 h2=>h.gY b b' k k' g (hs _ _ h1) (hs _ _ h2)
 fZ:=fun b k g h1=>h.fZ b k g (hs _ _ h1)
 xi:=fun b k g h1=>h.xi b k g (hs _ _ h1)
 slt:=h.slt
 gl:=h.gl
theorem Wk.FA(gl:Ctx)(σ:St)(ts bs:List Nat):Wk gl σ ⟨xH ts 0 σ.tm,BX bs 0 σ.hp,σ.df⟩:=by
 intro E a w h
 refine⟨E,⟨by rw[BZ];exact h.len,?_,h.hw.less (fun b k hb=>xb hb),h.df⟩,{Ext.refl (cU σ.hp E) E w with own:=?_ }⟩
 ·intro i x hx v hv
  rcases BY hx with e|e
  ·subst e;trivial
  ·exact h.tm i x e v hv
 ·rintro g ⟨b,k,hb,hg⟩
  exact Or.inl ⟨b,k,xb hb,hg⟩
theorem Wk.NO{gl:Ctx}{σ:St}{s:Nat}{t:Ty}{x:AV}{y:t.den}(hx:σ.tm[s]? =some x)(hy:x.de t=some y):Wk gl σ {σ with tm:=σ.tm.set s (.val t y)}:=by
 intro E a w h
 refine⟨E,⟨by simp[h.len],?_,h.hw,h.df⟩,Ext.refl _ _ _⟩
 intro i z hz v hv
 rw[fY] at hz
 split at hz
 ·rename_i e;subst e
  split at hz
  ·cases hz
   have hr:=h.tm s x hx v hv
   have hp:x.plain=true:=by cases x<;>first|rfl|(cases t<;>simp[AV.de] at hy)
   exact RV.gZ (ew.de hy (RV.mN hp hr))
  ·cases hz
 ·exact h.tm i z hz v hv
theorem Wk.Iw{gl:Ctx}{σ:St}{b:Nat}{t:Ty}{v:AV}{y:t.den}(hb:σ.hp[b]? =some (some (.var t v)))(hy:v.de t=some y):Wk gl σ {σ with hp:=σ.hp.set b (some (.var t (.val t y)))}:=by
 intro E a w h
 have hk:=h.hw.eJ b _ hb
 obtain⟨h1,h2,g,c,e,h3,h4,h5⟩:=hk
 have hw:=h.hw.write (w':=w) (k':=.var t (.val t y)) hb rfl (fun _ _=>rfl) ⟨h1,Ty.fh t,g,c,e,h3,h4,RC.de hy h5⟩
 refine⟨E,⟨h.len,h.tm,hw,h.df⟩,{Ext.refl (cU σ.hp E) E w with own:=?_ }⟩
 grind [cU.set]
theorem Wk.aiY{gl:Ctx}{σ:St}{b:Nat}{e:TypeId}{bs:Nat}{t:Ty}{xs:List t.den}{i:Nat}{v:AV}{y:t.den}(hb:σ.hp[b]? =some (some (.dB e bs t xs i v)))(hy:v.de t=some y):Wk gl σ {σ with hp:=σ.hp.set b (some (.dB e bs t xs i (.val t y)))}:=by
 intro E a w h
 obtain⟨h1,h2,h3,h4,h5,h6,g,cap,c,q1,q2,q3,q4,q5,q6,q7,q8,q9⟩:=h.hw.eJ b _ hb
 have hw:=h.hw.write (w':=w) (k':=.dB e bs t xs i (.val t y)) hb rfl (fun _ _=>rfl) ⟨h1,h2,h3,h4,h5,Ty.fh t,g,cap,c,q1,q2,q3,q4,q5,q6,q7,RC.de hy q8,q9⟩
 refine⟨E,⟨h.len,h.tm,hw,h.df⟩,{Ext.refl (cU σ.hp E) E w with own:=?_ }⟩
 grind [cU.set]
theorem Wk.mcl{gl:Ctx}{σ:St}{b:Nat}{k v:Ty}{rest:List (k.den×v.den)}{c:Option (k.den×v.den)}(hb:σ.hp[b]? =some (some (.qX k v rest c))):Wk gl σ {σ with hp:=σ.hp.set b (some (.qX k v rest none))}:=by
 intro E a w h
 obtain⟨g,om,since,seen,c0,q1,q2,q3⟩:=h.hw.eJ b _ hb
 have hw:=h.hw.write (w':=w) (k':=.qX k v rest none) hb rfl (fun _ _=>rfl) ⟨g,om,since,seen,c0,q1,q2,q3.imp (fun h=>⟨h.1,h.2.1,rfl⟩) (fun⟨bm,en,r1,r2,r3,r4,r5,r6,r7,_⟩=>⟨bm,en,r1,r2,r3,r4,r5,r6,r7,fun x hx=>by cases hx⟩)⟩
 refine⟨E,⟨h.len,h.tm,hw,h.df⟩,{Ext.refl (cU σ.hp E) E w with own:=?_ }⟩
 grind [cU.set]
def Ji(φ:AV→Option AV):List AV→List AV
 |[]=>[]
 |x::l=>(if x.plain then(match φ x with|some y=>y|none=>.bot) else .bot)::Ji φ l
def okD:AV→AV→Bool
 | .mp _,.mp _=>true
 | .mp _,_=>false
 |_,_=>true
def Bk(φ:AV→Option AV):List AV→Option (List AV)
 |[]=>some []
 |
  x::l=>match φ x,Bk φ l with
  |some y,some m=>if okD x y then some (y::m) else none
  |_,_=>none
def Tn{K:Type}(φ:AV→Option AV):List (K×AV)→Option (List (K×AV))
 |[]=>some []
 |
  (k,x)::l=>match φ x,Tn φ l with
  |some y,some m=>some ((k,y)::m)
  |_,_=>none
def mS(φ:AV→Option AV):Option aX→Option (Option aX)
 |
  some (.var t v)=>match φ v with
  |some u=>if u.dY t then some (some (.var t u)) else none
  |none=>none
 |
  some (.tv g t v)=>match φ v with
  |some u=>if u.dY t then some (some (.tv g t u)) else none
  |none=>none
 |
  some (.dB e bs t xs i v)=>match φ v with
  |some u=>if u.dY t then some (some (.dB e bs t xs i u)) else none
  |none=>none
 |
  some (.eW e bs t xs e2 (some (i,v)))=>match φ v with
  |some u=>if u.dY t then some (some (.eW e bs t xs e2 (some (i,u)))) else none
  |none=>none
 |
  some (.pmap k t es e2 (some (i,v,p)))=>match φ v with
  |some u=>if u.dY t then some (some (.pmap k t es e2 (some (i,u,p)))) else none
  |none=>none
 |some (.j8 ..)=>none
 |some (.k7 k l)=>(Tn φ l).map fun l=>some (.k7 k l)
 |k=>some k
def To(φ:AV→Option AV):List (Option aX)→Option (List (Option aX))
 |[]=>some []
 |
  k::l=>match mS φ k,To φ l with
  |some k',some m=>some (k'::m)
  |_,_=>none
theorem nN{φ:AV→Option AV}:∀{l:List AV},(Ji φ l).length=l.length
 |[]=>rfl
 |_::l=>by simp[Ji,nN (l:=l)]
theorem nO{φ:AV→Option AV}:∀{l:List AV}{i:Nat}{y:AV},(Ji φ l)[i]? =some y→y= .bot∨∃x,l[i]? =some x∧x.plain=true∧φ x=some y
 |[],i,y,h=>by trivial
 |
  x::l,0,y,h=>by
  simp only[Ji,List.getElem?_cons_zero,fG] at h
  grind
 |
  x::l,i+1,y,h=>by
  simp only[Ji,zg] at h
  simpa using nO h
theorem nP{φ:AV→Option AV}:∀{l m:List (Option aX)},To φ l=some m→∀{i:Nat}{k:aX},m[i]? =some (some k)→∃k0,l[i]? =some (some k0)∧mS φ (some k0)=some (some k)
 |[],m,h,i,k,hk=>by cases h;grind
 |
  x::l,m,h,i,k,hk=>by
  simp only[To] at h
  split at h
  ·rename_i k' m' h1 h2
   cases h
   cases i with
   |
    zero=>
    simp at hk
    subst hk
    cases x with
    |none=>simp[mS] at h1
    |some x=>grind
   |succ i=>obtain⟨k0,e1,e2⟩:=nP h2 (i:=i) (by simpa using hk);exact⟨k0,by simpa using e1,e2⟩
  grind
def St.kj(φ:AV→Option AV)(σ:St):Option St:=
 match To φ σ.hp,Bk φ σ.df with
 |some hp,some df=>some ⟨Ji φ σ.tm,hp,df⟩
 |_,_=>none
structure Good(E E':Env)(w:World)(φ:AV→Option AV):Prop where
 rc:∀x y vs,φ x=some y→RC E w x vs→RC E' w y vs
 agg:∀x y,φ x=some y→y.isAgg=x.isAgg
 fn:∀fn fs cs y,φ (.func fn fs cs)=some y→∃fs' cs',y= .func fn fs' cs'∧φ fs=some fs'∧φ cs=some cs'∧fs'.atoms=true∧cs'.atoms=true
 mp:∀b b',φ (.mp b)=some (.mp b')→E'.g b'=E.g b
theorem Good.RV{E E':Env}{w:World}{φ:AV→Option AV}(g:Good E E' w φ){x y:AV}{v:Value}(h:φ x=some y)(hr:ew E w x v):ew E' w y v:=by
 rcases hr with⟨h1,cs,e,h2⟩|⟨h1,h2⟩
 ·exact Or.inl ⟨by rw[g.agg x y h];exact h1,cs,e,g.rc x y _ h h2⟩
 ·exact Or.inr ⟨by rw[g.agg x y h];exact h1,g.rc x y _ h h2⟩
theorem Good.RD{E E':Env}{w:World}{φ:AV→Option AV}(g:Good E E' w φ):∀{l m:List AV}{ds:List Deferred},Bk φ l=some m→Ax.RD E w l ds→Ax.RD E' w m ds
 |
  [],m,ds,h,hr=>by
  cases h
  cases ds with
  |nil=>trivial
  |cons _ _=>trivial
 |
  x::l,m,ds,h,hr=>by
  simp only[Bk] at h
  split at h
  ·rename_i y m' h1 h2
   split at h
   case isFalse=>cases h
   rename_i iq
   cases h
   cases ds with
   |nil=>cases x<;>exact hr.elim
   |
    cons d ds=>
    cases x with
    |
     func fn fs cs=>
     obtain⟨fs',cs',e,k1,k2,k3,k4⟩:=g.fn fn fs cs y h1
     subst e
     obtain⟨⟨f,c,e,r1,r2,r3,r4⟩,r5⟩:=hr
     exact⟨⟨f,c,e,g.rc _ _ _ k1 r1,g.rc _ _ _ k2 r2,k3,k4⟩,g.RD h2 r5⟩
    |
     mp b=>
     cases y<;>simp[okD] at iq
     rename_i b'
     have k1:=g.mp b b' h1
     obtain⟨⟨i,e1,e2⟩,r5⟩:=hr
     exact⟨⟨i,by grind,e2⟩,g.RD h2 r5⟩
    |_=>trivial
  grind
theorem Good.RF{E E':Env}{w:World}{φ:AV→Option AV}(g:Good E E' w φ)(hS:∀b,E.S b→E'.S b){kt:Ty}:∀{en:List MapEntry}{l l':List (kt.den×AV)},Tn φ l=some l'→Ax.RF E w kt en l→Ax.RF E' w kt en l'∧l'.map (·.1)=l.map (·.1)
 |[],[],l',h,hr=>by cases h;trivial
 |[],_::_,_,h,hr=>hr.elim
 |_::_,[],_,h,hr=>hr.elim
 |
  e::en,(k,x)::l,l',h,hr=>by
  simp only[Tn] at h
  split at h
  ·rename_i y m h1 h2
   cases h
   obtain⟨r1,r2,r3,r4⟩:=hr
   obtain⟨q1,q2⟩:=g.RF hS h2 r4
   exact⟨⟨ew.mono ⟨fun _ _=>rfl,hS⟩ (fun _ hb=>by cases hb) r1,g.rc _ _ _ h1 r2,by rw[g.agg _ _ h1];exact r3,q1⟩,by simp[q2]⟩
  grind
theorem Good.RB{E E':Env}{w:World}{φ:AV→Option AV}(g:Good E E' w φ)(hS:∀b,E.S b→E'.S b){b b':Nat}{k k':aX}(hg:E'.g b'=E.g b)(hsv:E'.sv b'=E.sv b)(hbt:E'.bt b'=E.bt b)(hP:k.V7=true→∀g,E.P b g→E'.P b' g)(hk:mS φ (some k)=some (some k'))(h:Ax.RB E w b k):Ax.RB E' w b' k':=by
 have kp:di E w E' w:=⟨fun _ _=>rfl,hS⟩
 cases k with
 |
  var t v=>
  simp only[mS] at hk
  split at hk
  ·rename_i u hu
   split at hk
   ·rename_i hc
    cases hk
    obtain⟨h1,h2,i,c,e,h3,h4,h5⟩:=h
    exact⟨by grind,hc,i,c,e,by grind,h4,g.rc v u _ hu h5⟩
   grind
  grind
 |
  row e bs t xs=>
  simp only[mS,fG] at hk;subst hk
  obtain⟨h1,h2,h3,h4,a,cap,h5,h6,h7⟩:=h
  refine⟨by grind,h2,h3,h4,a,cap,by grind,h6,?_⟩
  rcases h7 with⟨h7,h8,h9⟩|⟨i,c,h7,h8,h9,h10,h11,h12⟩
  ·grind
  ·exact Or.inr ⟨i,c,by grind,h8,h9,h10,h11,bO.mono (fun _ _=>Rel.mono kp.w kp.S) h12⟩
 |
  map kt vt es=>
  simp only[mS,fG] at hk;subst hk
  obtain⟨h1,h1',i,en,clock,h2,h3,h4,h5,h6⟩:=h
  exact⟨h1,h1',i,en,clock,by grind,h3,RM.mono kp h4,h5,h6⟩
 |
  qX k v rest cur=>
  simp only[mS,fG] at hk;subst hk
  obtain⟨gg,om,since,seen,c0,q1,q2,q3⟩:=h
  refine⟨gg,om,since,seen,c0,by grind,q2,q3.imp id ?_⟩
  rintro⟨bm,en,r1,r2,r3,r4,r5,r6,r7,r8⟩
  refine⟨bm,en,r1,kp.S bm r2,r3,r4,r5,r6,RM.mono kp r7,fun x hx=>?_⟩
  obtain⟨e,s0,t1,t2,t3,t4⟩:=r8 x hx
  exact⟨e,s0,t1,t2,ew.mono kp (fun _ hb=>by cases hb) t3,ew.mono kp (fun _ hb=>by cases hb) t4⟩
 |
  eW e bs t xs e2' f=>
  cases f with
  |
   none=>
   simp only[mS,fG] at hk;subst hk
   obtain⟨h1,h2,h3,h4,h5,gg,cap,c,og,q1,q2,q3,q4,q5,q6,q7,q8⟩:=h
   refine⟨by grind,h2,h3,h4,h5,gg,cap,c,og,by grind,q2,by grind,q4,q5,q6,q7.mono (hP rfl),fun i x hx=>?_⟩
   obtain⟨u,r1,r2,r3⟩:=q8 i x hx
   exact⟨u,r1,fun v hv=>(by cases hv),fun hv=>fq.mono kp.w kp.S (fun _ _=>rfl) (r3 (fun v hv=>by cases hv))⟩
  |
   some f=>
   obtain⟨j,v⟩:=f
   simp only[mS] at hk
   split at hk
   ·rename_i u hu
    split at hk
    ·rename_i hc
     cases hk
     obtain⟨h1,h2,h3,h4,h5,gg,cap,c,og,q1,q2,q3,q4,q5,q6,q7,q8⟩:=h
     refine⟨by rw[hbt];exact h1,h2,h3,h4,fun i v' hv=>by grind,gg,cap,c,og,by grind,q2,by grind,q4,q5,q6,q7.mono (hP rfl),fun i x hx=>?_⟩
     obtain⟨u',r1,r2,r3⟩:=q8 i x hx
     refine⟨u',r1,fun v' hv=>?_,fun hv=>fq.mono kp.w kp.S (fun _ _=>rfl) (r3 (fun v' hv'=>by grind))⟩
     cases hv
     exact⟨(r2 v rfl).1,g.rc v u _ hu (r2 v rfl).2⟩
    grind
   grind
 |
  pmap kt t es e2' f=>
  cases f with
  |
   none=>
   simp only[mS,fG] at hk;subst hk
   obtain⟨h1,h2,h3,gg,en,clock,og,q1,q2,q3,q4,q5,q6,q7,q8⟩:=h
   refine⟨h1,h2,h3,gg,en,clock,og,by grind,q2,q3,q4,q5.mono (hP rfl),q6,fun i x hx=>?_,fun kx v=>⟨fun hf=>(by cases hf),fun hf=>(by cases hf)⟩⟩
   obtain⟨m,r1,r2,r3,r4⟩:=q7 i x hx
   exact⟨m,r1,ew.mono kp (fun _ hb=>by cases hb) r2,fun v pr hv=>(by cases hv),fun hv=>fq.mono kp.w kp.S (fun _ _=>rfl) (r4 (fun v pr hv=>by cases hv))⟩
  |
   some f=>
   obtain⟨j,v,p⟩:=f
   simp only[mS] at hk
   split at hk
   ·rename_i u hu
    split at hk
    ·rename_i hc
     cases hk
     obtain⟨h1,h2,h3,gg,en,clock,og,q1,q2,q3,q4,q5,q6,q7,q8⟩:=h
     refine⟨h1,h2,fun kx v' pr hv=>by grind,gg,en,clock,og,by grind,q2,q3,q4,q5.mono (hP rfl),q6,fun i x hx=>?_,fun kx v'=>⟨fun hf hn=>?_,fun hf=>?_⟩⟩
     ·obtain⟨m,r1,r2,r3,r4⟩:=q7 i x hx
      refine⟨m,r1,ew.mono kp (fun _ hb=>by cases hb) r2,fun v' pr hv=>?_,fun hv=>fq.mono kp.w kp.S (fun _ _=>rfl) (r4 (fun v' pr hv'=>by grind))⟩
      cases hv
      exact⟨(r3 v _ rfl).1,g.rc v u _ hu (r3 v _ rfl).2⟩
     ·cases hf
      exact g.rc v u _ hu ((q8 _ v).1 rfl hn)
     grind
    grind
   grind
 |j8 k t es e2' kx v pr=>trivial
 |
  k7 kt l=>
  simp only[mS,jz] at hk
  obtain⟨l',hl,e⟩:=hk
  cases e
  obtain⟨h1,h2,gg,en,clock,q1,q2,q3⟩:=h
  obtain⟨r1,r2⟩:=g.RF hS hl q3
  refine⟨by grind,?_,gg,en,clock,by grind,q2,r1⟩
  have:=congrArg List.length r2
  grind
 |lp l r=>simp only[mS,fG] at hk;subst hk;exact⟨by rw[hg];exact h.1,h.2⟩
 |AZ=>simp only[mS,fG] at hk;subst hk;obtain⟨i,h1,h2⟩:=h;exact⟨i,by grind,h2⟩
 |
  tv gg t v=>
  simp only[mS] at hk
  split at hk
  ·rename_i u hu
   split at hk
   ·rename_i hc
    cases hk
    obtain⟨h0,h1,h2,c,e,h4,h5⟩:=h
    exact⟨by grind,by grind,hc,c,e,h4,g.rc v u _ hu h5⟩
   grind
  grind
 |
  dB e bs t xs i v=>
  simp only[mS] at hk
  split at hk
  ·rename_i u hu
   split at hk
   ·rename_i hc
    cases hk
    obtain⟨h1,h2,h3,h4,h5,h6,gg,cap,c,q1,q2,q3,q4,q5,q6,q7,q8,q9⟩:=h
    exact⟨by grind,h2,h3,h4,h5,hc,gg,cap,c,by grind,q2,by grind,q4,q5,q6,bO.mono (fun _ _=>Rel.mono kp.w kp.S) q7,g.rc v u _ hu q8,bO.mono (fun _ _=>Rel.mono kp.w kp.S) q9⟩
   grind
  grind
def fz(hb:Nat→Option aX)(b:Nat)(t:Ty):AV→Option AV
 | .own c=>if Nat.beq c b then(view hb (.own c) false t).map (·.1) else some (.own c)
 | .nQ c lo len=>if Nat.beq c b then(view hb (.nQ c lo len) false t).map (·.1) else some (.nQ c lo len)
 | .mL c p lo len=>if Nat.beq c b then(view hb (.mL c p lo len) false t).map (·.1) else some (.mL c p lo len)
 | .ptr c p=>if Nat.beq c b then(view hb (.ptr c p) false t).map (·.1) else some (.ptr c p)
 | .mp c=>if Nat.beq c b then(view hb (.mp c) false t).map (·.1) else some (.mp c)
 |
  .func fn fs cs=>match fz hb b t fs,fz hb b t cs with
  |some f,some c=>if f.atoms&&c.atoms then some (.func fn f c) else none
  |_,_=>none
 |
  .iface u v=>match fz hb b t v with
  |some x=>some (.iface u x)
  |none=>none
 |
  .cons x y=>match fz hb b t x,fz hb b t y with
  |some u,some v=>some (.cons u v)
  |_,_=>none
 | .bot=>none
 | .ky _=>none
 | .opt _ _=>none
 |x=>some x
theorem qE{hb:Nat→Option aX}{x y:AV}{t:Ty}{l:List Nat}{b:Nat}(hx:x= .own b∨(∃lo len,x= .nQ b lo len)∨(∃p lo len,x= .mL b p lo len)∨(∃p,x= .ptr b p))(h:view hb x false t=some (y,l)):l= [b]:=by
 rcases hx with rfl|⟨lo,len,rfl⟩|⟨p,lo,len,rfl⟩|⟨p,rfl⟩
 ·have h':(match jw hb b with|some ⟨bs,t,xs⟩=>some (AV.val (.slice bs t) xs,[b])|none=>none)=some (y,l):=by trivial
  grind
 ·have h':(match jw hb b with|some ⟨bs,t,xs⟩=>some (AV.val (.slice bs t) ((xs.drop lo).take len),[b])|none=>none)=some (y,l):=by trivial
  grind
 ·cases t with
  |
   slice bs t=>
   grind [view]
  |_=>trivial
 ·have h':(match hb b with
   |
    some k=>match tE k p,(mG k).sub p with
    |
     some u,some s=>match u.de s with
     |some y=>some (AV.dk s y,[b])
     |none=>none
    |_,_=>none
   |none=>none)=some (y,l):=by trivial
  grind
theorem Tq{gl:Ctx}{E:Env}{w:World}{hp:List (Option aX)}(hw:HW gl E w hp){hb:Nat→Option aX}(hB:HB hb hp)(b:Nat)(t:Ty):Good E (E.eQ [b]) w (fz hb b t) where
 mp:=by
  intro c y h
  simp only[fz] at h
  split at h
  ·obtain⟨⟨z,l⟩,h1,h2⟩:=Option.map_eq_some_iff.1 h
   have:=wO h1
   grind [AV.ids]
  ·cases h;rfl
 rc:=
  by
  have kp:di E w (E.eQ [b]) w:=Env.gA [b]
  intro x
  induction x with
  |
   own c=>
   intro y vs h hr
   simp only[fz] at h
   split at h
   ·rename_i e;have e:=dm e;subst e
    obtain⟨⟨z,l⟩,h1,rfl⟩:=Option.map_eq_some_iff.1 h
    have:=qE (Or.inl rfl) h1;grind [pM]
   ·cases h;trivial
  |
   nQ c lo len=>
   intro y vs h hr
   simp only[fz] at h
   split at h
   ·rename_i e;have e:=dm e;subst e
    obtain⟨⟨z,l⟩,h1,rfl⟩:=Option.map_eq_some_iff.1 h
    have:=qE (Or.inr (Or.inl ⟨lo,len,rfl⟩)) h1;grind [pM]
   ·cases h;trivial
  |
   mL c p lo len=>
   intro y vs h hr
   simp only[fz] at h
   split at h
   ·rename_i e;have e:=dm e;subst e
    obtain⟨⟨z,l⟩,h1,rfl⟩:=Option.map_eq_some_iff.1 h
    have:=qE (Or.inr (Or.inr (Or.inl ⟨p,lo,len,rfl⟩))) h1;grind [pM]
   ·cases h;trivial
  |
   ptr c p=>
   intro y vs h hr
   simp only[fz] at h
   split at h
   ·rename_i e;have e:=dm e;subst e
    obtain⟨⟨z,l⟩,h1,rfl⟩:=Option.map_eq_some_iff.1 h
    have:=qE (Or.inr (Or.inr (Or.inr ⟨p,rfl⟩))) h1;grind [pM]
   ·cases h;trivial
  |
   mp c=>
   intro y vs h hr
   simp only[fz] at h
   split at h
   ·rename_i e;have e:=dm e;subst e
    obtain⟨⟨z,l⟩,h1,rfl⟩:=Option.map_eq_some_iff.1 h
    have:l= [c]:=by
     have h':(match hb c with
      |some (.map k v es)=>some (AV.val (.map k v) (some es),[c])
      |_=>none)=some (z,l):=by trivial
     grind
    grind [pM]
   ·cases h;trivial
  |
   func fn fs cs ih1 ih2=>
   intro y vs h hr
   simp only[fz] at h
   split at h
   ·rename_i f c h1 h2
    split at h
    ·rename_i ha
     cases h
     simp only[bP] at ha
     obtain⟨f',c',e,r1,r2,_,_⟩:=hr
     exact⟨f',c',e,ih1 f _ h1 r1,ih2 c _ h2 r2,ha.1,ha.2⟩
    grind
   grind
  |
   iface u v ih=>
   intro y vs h hr
   simp only[fz] at h
   split at h
   ·rename_i z hz
    cases h
    obtain⟨x,e,hr⟩:=hr
    refine⟨x,e,?_⟩
    have ao2:=fzAgg v z hz
    grind
   grind
  |
   cons a c ih1 ih2=>
   intro y vs h hr
   simp only[fz] at h
   split at h
   ·rename_i u v h1 h2
    cases h
    obtain⟨v1,v2,e,r1,r2⟩:=hr
    exact⟨v1,v2,e,ih1 u _ h1 r1,ih2 v _ h2 r2⟩
   grind
  |bot=>intro y vs h;trivial
  |ky l=>intro y vs h;trivial
  |opt c v=>intro y vs h;trivial
  |_=>intro y vs h hr;simp only[fz,fG] at h;subst h;exact RC.mono kp (fun _ _=>⟨rfl,rfl,rfl⟩) hr
 agg:=fun x y h=>fzAgg x y h
 fn:=by
  intro fn fs cs y h
  simp only[fz] at h
  grind
where
 fzAgg {hb:Nat→Option aX} {b:Nat} {t:Ty} (x y:AV) (h:fz hb b t x=some y):y.isAgg=x.isAgg:=by
  cases x with
  |
   own c=>
   simp only[fz] at h
   split at h
   ·simp only[jz] at h;obtain⟨⟨z,l⟩,h1,rfl⟩:=h;exact lP h1
   grind
  |
   nQ c lo len=>
   simp only[fz] at h
   split at h
   ·simp only[jz] at h;obtain⟨⟨z,l⟩,h1,rfl⟩:=h;exact lP h1
   grind
  |
   mL c p lo len=>
   simp only[fz] at h
   split at h
   ·simp only[jz] at h;obtain⟨⟨z,l⟩,h1,rfl⟩:=h;exact lP h1
   grind
  |
   ptr c p=>
   simp only[fz] at h
   split at h
   ·simp only[jz] at h;obtain⟨⟨z,l⟩,h1,rfl⟩:=h;exact lP h1
   grind
  |
   mp c=>
   simp only[fz] at h
   split at h
   ·simp only[jz] at h;obtain⟨⟨z,l⟩,h1,rfl⟩:=h;exact lP h1
   grind
  |
   func fn fs cs=>
   simp only[fz] at h
   split at h
   ·split at h
    ·cases h;rfl
    grind
   grind
  |
   iface u v=>
   simp only[fz] at h
   split at h
   ·cases h;rfl
   grind
  |
   cons a c=>
   simp only[fz] at h
   split at h
   ·cases h;rfl
   grind
  |bot=>trivial
  |ky l=>trivial
  |opt c v=>trivial
  |_=>grind [fz]
def iS(hp:List (Option aX))(b:Nat):Option aX:=(hp[b]?).join
theorem dU(hp:List (Option aX)):HB (iS hp) hp:=by
 intro b k hk
 grind [iS]
def freeze(b:Nat)(t:Ty)(σ:St):Option St:=
 match iS σ.hp b with
 |some _=>St.kj (fz (iS σ.hp) b t) {σ with hp:=σ.hp.set b none}
 |none=>none
theorem Wk.freeze{gl:Ctx}{b:Nat}{t:Ty}{σ σ':St}(h:Ax.freeze b t σ=some σ'):Wk gl σ σ':=by
 intro E a w hg
 unfold Ax.freeze at h
 split at h
 ·rename_i k hk
  have hbk:=dU σ.hp b k hk
  unfold St.kj at h
  split at h
  ·rename_i hp' df' h1 h2
   cases h
   have apx:=Tq hg.hw (dU σ.hp) b t
   have hSle:∀i,E.S i→(E.eQ [b]).S i:=fun i hi=>Or.inl hi
   have src:∀(i:Nat)(k':aX),hp'[i]? =some (some k')→∃k0,i≠b∧σ.hp[i]? =some (some k0)∧mS (fz (iS σ.hp) b t) (some k0)=some (some k'):=by
    grind [nP]
   refine⟨E.eQ [b],⟨?_,?_,⟨?_,?_,?_,?_,hg.hw.kz (Env.gA [b]),fun i k' g' hi hp=>by obtain⟨k0,_,e1,_⟩:=src i k' hi;exact hg.hw.xi i k0 g' e1 hp⟩,apx.RD h2 hg.df⟩,⟨rfl,Tp.r rfl rfl,rfl,cV _,fun _ _ _=>rfl,hSle,?_,?_,fun _ _=>⟨rfl,rfl,rfl⟩⟩⟩
   ·simp only[nN];exact hg.len
   ·intro i y hy v hv
    rcases nO hy with e|⟨x,e1,e2,e3⟩
    ·subst e;trivial
    ·exact RV.gZ (apx.RV e3 (RV.mN e2 (hg.tm i x e1 v hv)))
   ·intro i k' hi
    obtain⟨k0,_,e1,e2⟩:=src i k' hi
    exact apx.RB hSle (b:=i) (b':=i) rfl rfl rfl (fun _ _ h=>h) e2 (hg.hw.eJ i k0 e1)
   ·intro i j k1 k2 g' hi hj g1 g2
    obtain⟨k3,_,e1,_⟩:=src i k1 hi
    obtain⟨k4,_,e2,_⟩:=src j k2 hj
    exact hg.hw.gY i j k3 k4 g' e1 e2 g1 g2
   ·intro i k' g' hi hgi hs
    obtain⟨k0,hne,e1,_⟩:=src i k' hi
    rcases hs with hs|⟨c,hc,e⟩
    ·exact hg.hw.fZ i k0 g' e1 hgi hs
    ·simp at hc;subst hc
     exact hne (hg.hw.gY i c k0 k g' e1 hbk hgi (Or.inl e))
   ·intro g' hs
    rcases hs with hs|⟨c,hc,e⟩
    ·exact hg.hw.slt g' hs
    ·simp at hc;subst hc
     exact cU.below hg.hw ⟨c,k,hbk,Or.inl e⟩
   ·intro g' hs
    rcases hs with hs|⟨c,hc,e⟩
    ·grind
    ·simp at hc;subst hc
     exact Or.inr (Or.inl ⟨c,k,hbk,Or.inl e⟩)
   ·rintro g' ⟨i,k',hi,hgi⟩
    obtain⟨k0,_,e1,_⟩:=src i k' hi
    exact Or.inl ⟨i,k0,e1,hgi⟩
  grind
 grind
end Go.Ax
namespace Go.Ax
def Mn(b:Nat):AV→Bool
 | .nQ c _ _| .mL c _ _ _| .ptr c _=> !Nat.beq c b
 | .func _ fs cs=>Mn b fs&&Mn b cs&&fs.atoms&&cs.atoms
 | .iface _ v=>Mn b v
 | .cons a c=>Mn b a&&Mn b c
 | .bot| .ky _| .opt _ _=>false
 |_=>true
def lH(b:Nat)(x:AV):Option AV:=if Mn b x then some x else none
def Env.re(E:Env)(b:Nat)(t:Ty):Env:={E with bt:=fun c=>if c=b then t else E.bt c}
theorem Env.Gg{E:Env}{b c:Nat}{t:Ty}(h:c≠b):(E.re b t).bt c=E.bt c:=by simp[Env.re,h]
theorem Env.KK{E:Env}{b:Nat}{t:Ty}:(E.re b t).bt b=t:=by simp[Env.re]
theorem OS{E:Env}{w:World}{b:Nat}{t:Ty}:∀{x:AV}{vs:List Value},Mn b x=true→RC E w x vs→RC (E.re b t) w x vs:=by
 intro x
 have ne:∀{c:Nat},(!Nat.beq c b)=true→c≠b:=fun h e=>by simp_all
 induction x with
 |nQ c lo len=>intro vs h hr;simp only[RC];rw[Env.Gg (ne h)];exact hr
 |mL c p lo len=>intro vs h hr;simp only[RC];rw[Env.Gg (ne h)];exact hr
 |ptr c p=>intro vs h hr;simp only[RC];rw[Env.Gg (ne h)];exact hr
 |
  func fn fs cs ih1 ih2=>
  intro vs h hr
  simp only[Mn,bP] at h
  obtain⟨f,c,e,h1,h2,h3,h4⟩:=hr
  exact⟨f,c,e,ih1 h.1.1.1 h1,ih2 h.1.1.2 h2,h3,h4⟩
 |
  iface u v ih=>
  intro vs h hr
  obtain⟨x,e,hr⟩:=hr
  refine⟨x,e,?_⟩
  rcases hr with⟨h1,cs,e2,h3⟩|⟨h1,h3⟩
  ·exact Or.inl ⟨h1,cs,e2,ih h h3⟩
  ·exact Or.inr ⟨h1,ih h h3⟩
 |
  cons a c ih1 ih2=>
  intro vs h hr
  simp only[Mn,bP] at h
  obtain⟨v1,v2,e,h1,h2⟩:=hr
  exact⟨v1,v2,e,ih1 h.1 h1,ih2 h.2 h2⟩
 |bot=>intro vs h;trivial
 |ky l=>intro vs h;trivial
 |opt c v=>intro vs h;trivial
 |_=>intro vs h hr;exact hr
theorem Eh{E:Env}{w:World}{b:Nat}{t:Ty}:Good E (E.re b t) w (lH b) where
 rc:=by
  grind [lH,OS]
 agg:=by
  grind [lH]
 mp:=by
  intro c y h
  unfold lH at h
  split at h
  ·cases h;rfl
  grind
 fn:=by
  intro fn fs cs y h
  unfold lH at h
  split at h
  ·rename_i hn
   cases h
   simp only[Mn,bP] at hn
   exact⟨fs,cs,rfl,by unfold lH;grind,by unfold lH;grind,hn.1.2,hn.2⟩
  grind
theorem dE.re{gl:Ctx}{σ:St}{E:Env}{a:Act}{w:World}(hg:dE gl σ E a w){b:Nat}{k k':aX}{ty:Ty}{σ1:St}(hb:σ.hp[b]? =some (some k))(h16:16≤b)(hm:St.kj (lH b) {σ with hp:=σ.hp.set b none}=some σ1)(hk:RB (E.re b ty) w b k'):
 dE gl {σ1 with hp:=σ1.hp.set b (some k')} (E.re b ty) a w∧Ext gl.md (cU σ.hp E) E w (cU (σ1.hp.set b (some k')) (E.re b ty)) (E.re b ty) w:=by
 have apx:=Eh (E:=E) (w:=w) (b:=b) (t:=ty)
 unfold St.kj at hm
 split at hm
 ·rename_i hp' df' h3 h4
  cases hm
  have src:∀(i:Nat)(k2:aX),(hp'.set b (some k'))[i]? =some (some k2)→(i=b∧k'=k2)∨(i≠b∧∃k0,σ.hp[i]? =some (some k0)∧mS (lH b) (some k0)=some (some k2)):=by
   intro i k2 hi
   rw[fY] at hi
   split at hi
   ·grind
   ·rename_i hne
    obtain⟨k0,e1,e2⟩:=nP h3 hi
    grind
  have any:∀(i:Nat)(k2:aX),(hp'.set b (some k'))[i]? =some (some k2)→∃k0,σ.hp[i]? =some (some k0):=by
   grind
  refine⟨⟨?_,?_,⟨?_,?_,?_,hg.hw.slt,hg.hw.gl,?_⟩,apx.RD h4 hg.df⟩,⟨rfl,Tp.r rfl rfl,rfl,cV _,fun _ _ _=>rfl,fun _ h=>h,fun _ h=>Or.inl h,?_,fun i hi=>⟨rfl,rfl,Env.Gg (by omega)⟩⟩⟩
  ·simp only[nN];exact hg.len
  ·intro i y hy v hv
   rcases nO hy with e|⟨x,e1,e2,e3⟩
   ·subst e;trivial
   ·exact RV.gZ (apx.RV e3 (RV.mN e2 (hg.tm i x e1 v hv)))
  ·intro i k2 hi
   rcases src i k2 hi with⟨e,e'⟩|⟨e1,k0,e3,e4⟩
   ·grind
   ·exact apx.RB (fun _ h=>h) (b:=i) (b':=i) rfl rfl (Env.Gg e1) (fun _ _ h=>h) e4 (hg.hw.eJ i k0 e3)
  ·intro i j k2 k3 g hi hj g1 g2
   obtain⟨k4,e1⟩:=any i k2 hi
   obtain⟨k5,e2⟩:=any j k3 hj
   exact hg.hw.gY i j k4 k5 g e1 e2 g1 g2
  ·intro i k2 g hi hgi hs
   obtain⟨k4,e1⟩:=any i k2 hi
   exact hg.hw.fZ i k4 g e1 hgi hs
  ·intro i k2 g hi hgi
   obtain⟨k4,e1⟩:=any i k2 hi
   exact hg.hw.xi i k4 g e1 hgi
  ·rintro g ⟨i,k2,hi,hgi⟩
   obtain⟨k4,e1⟩:=any i k2 hi
   exact Or.inl ⟨i,k4,e1,hgi⟩
 grind
def vQ(b:Nat):Bool:=Nat.ble 16 b
def oR(b:Nat)(σ:St):Option St:=
 match iS σ.hp b with
 |
  some (.dB e bs t xs i v)=>match v.de t with
  |
   some y=>if vQ b then(match St.kj (lH b) {σ with hp:=σ.hp.set b none} with
   |some σ1=>some {σ1 with hp:=σ1.hp.set b (some (.row e bs t (xs.set i y)))}
   |none=>none) else none
  |none=>none
 |_=>none
theorem bO.join{α:Type}{r:List Value→α→Prop}:∀{xs ys:List α}{vs us:List Value},bO r vs xs→bO r us ys→bO r (vs++us) (xs++ys)
 |[],ys,vs,us,h,k=>by simp[bO] at h;grind
 |
  x::xs,ys,vs,us,⟨v1,v2,e,h1,h2⟩,k=>by
  subst e
  exact⟨v1,v2++us,by simp,h1,bO.join h2 k⟩
theorem Mo{α:Type}{xs:List α}{i:Nat}{y:α}(h:i<xs.length):xs.set i y=xs.take i++y::xs.drop (i+1):=by
 rw[List.set_eq_take_append_cons_drop,aA h]
theorem Wk.oR{gl:Ctx}{b:Nat}{σ σ':St}(h:Ax.oR b σ=some σ'):Wk gl σ σ':=by
 intro E a w hg
 unfold Ax.oR at h
 split at h
 ·rename_i e bs t xs i v hb
  have hb:=dU σ.hp b _ hb
  split at h
  ·rename_i y hy
   split at h
   ·rename_i h16
    split at h
    ·rename_i σ1 hm
     cases h
     obtain⟨h1,h2,h3,h4,h5,h6,g,cap,c,q1,q2,q3,q4,q5,q6,q7,q8,q9⟩:=hg.hw.eJ b _ hb
     obtain⟨r1,r2⟩:=hg.re (k':=.row e bs t (xs.set i y)) (ty:=.arr xs.length t) hb (jt h16) hm (by
      refine⟨by rw[Env.KK,cP],by grind,by grind,h5,some ⟨g,0,none⟩,cap,by rw[cP];exact q1,q2,Or.inr ⟨g,c,q3,rfl,q4,q5,by grind,?_⟩⟩
      rw[cP,Mo h2]
      have hmid:Rel w E.S t ((c.toList.drop (i*t.size)).take t.size) y:=RC.de hy q8
      have hsp:c.toList.take (xs.length*t.size)=c.toList.take (i*t.size)++((c.toList.drop (i*t.size)).take t.size++(c.toList.drop ((i+1)*t.size)).take ((xs.length -(i+1))*t.size)):=by
       have e1:xs.length*t.size=i*t.size+(t.size+(xs.length -(i+1))*t.size):=by
        rw[←Nat.add_assoc,show i*t.size+t.size=(i+1)*t.size from by grind,←iW]
        grind
       simp_all[List.take_add,iW]
      rw[hsp]
      exact bO.join q7 ⟨_,_,rfl,hmid,q9⟩)
     grind
    grind
   grind
  grind
 grind
def B0(b i:Nat)(σ:St):Option St:=
 match iS σ.hp b with
 |some (.row e bs t xs)=>if vQ b then(match St.kj (lH b) {σ with hp:=σ.hp.set b none} with
  |some σ1=>some {σ1 with hp:=σ1.hp.set b (some (.dB e bs t xs i (.val t (xs.getD i t.aH))))}
  |none=>none) else none
 |_=>none
theorem bO.split{w:World}{S:Nat→Prop}{t:Ty}{xs:List t.den}{cs:List Value}{i:Nat}(h:bO (Rel w S t) cs xs)(hi:i<xs.length):
 bO (Rel w S t) (cs.take (i*t.size)) (xs.take i)∧Rel w S t ((cs.drop (i*t.size)).take t.size) (xs.getD i t.aH)∧bO (Rel w S t) (cs.drop ((i+1)*t.size)) (xs.drop (i+1)):=
 ⟨bO.take (fun _ _=>Rel.len) i h,by grind [bO.get,Rel.len],bO.drop (fun _ _=>Rel.len) (i+1) h⟩
theorem Gi{gl:Ctx}{b i:Nat}{σ σ':St}(h:B0 b i σ=some σ'){E:Env}{a:Act}{w:World}(hg:dE gl σ E a w)(hi:∀e bs t xs,iS σ.hp b=some (.row e bs t xs)→i<xs.length):
 ∃n t,E.bt b= .arr n t∧dE gl σ' (E.re b (rH i n t)) a w∧Ext gl.md (cU σ.hp E) E w (cU σ'.hp (E.re b (rH i n t))) (E.re b (rH i n t)) w:=by
 unfold B0 at h
 split at h
 ·rename_i e bs t xs hb0
  have hb:=dU σ.hp b _ hb0
  have hi:=hi _ _ _ _ hb0
  split at h
  ·rename_i h16
   split at h
   ·rename_i σ1 hm
    cases h
    obtain⟨h1,h2,h3,h4,ad,cap,h5,h6,h7⟩:=hg.hw.eJ b _ hb
    rcases h7 with⟨_,_,h9⟩|⟨g,c,h7,h8,h9,h10,h11,h12⟩
    ·grind
    ·subst h8
     refine⟨xs.length,t,h1,?_⟩
     refine hg.re hb (jt h16) hm ⟨Env.KK,hi,h2,h3,h4,Ty.fh t,g,cap,c,h5,h6,h7,h9,h10,h11,?_,?_,?_⟩
     ·obtain⟨q1,_,_⟩:=bO.split h12 hi
      rw[tB,rG (ju _ (by omega))] at q1
      exact q1
     ·obtain⟨_,q2,_⟩:=bO.split h12 hi
      rw[qP,tB,rG (by rw[←Nat.sub_mul];exact Nat.le_mul_of_pos_left _ (by omega))] at q2
      exact q2
     ·obtain⟨_,_,q3⟩:=bO.split h12 hi
      rw[qP,←Nat.sub_mul] at q3
      exact q3
   grind
  grind
 grind
theorem Wk.aiZ{gl:Ctx}{b i:Nat}{σ σ':St}(h:B0 b i σ=some σ')(hi:∀e bs t xs,iS σ.hp b=some (.row e bs t xs)→i<xs.length):Wk gl σ σ':=by
 intro E a w hg
 grind [Gi]
theorem Wk.ai0{gl:Ctx}{b i s:Nat}{σ σ':St}(hs:σ.tm[s]? =some (.ptr b [.idx i]))(h:B0 b i σ=some σ'):Wk gl σ {σ' with tm:=σ'.tm.set s (.ptr b [.d6 1])}:=by
 intro E a w hg
 have hlt:s<a.tmps.size:=by rw[hg.len];grind
 obtain⟨g,hgb,e,hv⟩:=RV.atom rfl (hg.tm s _ hs a.tmps[s] (by grind))
 obtain⟨n,t,hbt,h1,h2⟩:=Gi h hg (fun e bs t xs hb=>by
  have hk:=hg.hw.eJ b _ (dU σ.hp b _ hb)
  have:=hk.1
  rw[this] at hv
  exact hv.1)
 refine⟨_,⟨by simp only[cP];exact h1.len,?_,h1.hw,h1.df⟩,h2⟩
 intro j x hx v hv'
 simp only[fY] at hx
 split at hx
 ·rename_i e';subst e'
  split at hx
  ·cases hx
   rw[Array.getElem?_eq_getElem hlt] at hv'
   cases hv'
   simp at e
   refine RV.gZ (Or.inr ⟨rfl,g,hgb,?_,?_⟩)
   ·grind [Env.KK,rH,Ty.off,Ty.size]
   ·rw[Env.KK];exact Ty.kO t
  grind
 ·exact h1.tm j x hx v hv'
end Go.Ax
namespace Go.Ax
def noI(d:Nat)(x:AV):Bool:=x.ids.all fun c=> !Nat.beq c d
def qW(b d:Nat)(x:AV):Option AV:=if Mn b x&&noI d x then some x else none
theorem OT{d:Nat}{x:AV}(h:noI d x=true):∀c∈x.ids,c≠d:=fun c hc e=>by
 simp only[noI,ng] at h
 have:=h c hc
 simp_all
def Env.pull(E:Env)(b d:Nat)(og:Option Nat)(v:Value)(td tb:Ty):Env where
 g:=fun c=>if c=d then og else E.g c
 sv:=fun c=>if c=d then v else E.sv c
 bt:=fun c=>if c=d then td else if c=b then tb else E.bt c
 S:=E.S
 P:=fun c x=>c≠d∧E.P c x∧(c=b→og≠some x)
theorem Env.KL{E:Env}{b d:Nat}{og:Option Nat}{v:Value}{td tb:Ty}{c:Nat}(h1:c≠d)(h2:c≠b):(E.pull b d og v td tb).g c=E.g c∧(E.pull b d og v td tb).sv c=E.sv c∧(E.pull b d og v td tb).bt c=E.bt c:=by simp[Env.pull,h1,h2]
theorem Env.su{E:Env}{b d:Nat}{og:Option Nat}{v:Value}{td tb:Ty}{c x:Nat}(h:c≠d)(k:(E.pull b d og v td tb).has c x):E.has c x:=by
 rcases k with k|k
 ·exact Or.inl (by simpa[Env.pull,h] using k)
 ·exact Or.inr k.2.1
theorem Env.vR{E:Env}{b d:Nat}{og:Option Nat}{v:Value}{td tb:Ty}{x:Nat}(k:(E.pull b d og v td tb).has d x):og=some x:=by
 rcases k with k|k
 ·simpa[Env.pull] using k
 ·exact absurd rfl k.1
theorem Tr{E:Env}{w:World}{b d:Nat}{og:Option Nat}{v:Value}{td tb:Ty}{x:AV}{vs:List Value}(h1:Mn b x=true)(h2:noI d x=true)(hr:RC E w x vs):RC (E.pull b d og v td tb) w x vs:=by
 have:=OS (t:=tb) h1 hr
 refine RC.mono (E:=E.re b tb) (E':=E.pull b d og v td tb) (w:=w) ⟨fun _ _=>rfl,fun _ h=>h⟩ (fun c hc=>?_) this
 grind [OT,Env.pull,Env.re]
theorem OU{E:Env}{w:World}{b d:Nat}{og:Option Nat}{v:Value}{td tb:Ty}:Good E (E.pull b d og v td tb) w (qW b d) where
 rc:=by
  intro x y vs h hr
  unfold qW at h
  split at h
  ·simp_all[Tr]
  grind
 agg:=by
  grind [qW]
 mp:=by
  intro c y h
  unfold qW at h
  split at h
  ·rename_i hn
   cases h
   simp only[bP] at hn
   have:=OT hn.2 c (by simp[AV.ids])
   simp[Env.pull,this]
  grind
 fn:=by
  intro fn fs cs y h
  unfold qW at h
  split at h
  ·rename_i hn
   cases h
   simp only[bP,Mn] at hn
   have h2:=hn.2
   simp only[noI,AV.ids,List.all_append,bP] at h2
   exact⟨fs,cs,rfl,by unfold qW;rw[aA];simp only[bP];exact⟨hn.1.1.1.1,h2.1⟩,by unfold qW;rw[aA];simp only[bP];exact⟨hn.1.1.1.2,h2.2⟩,hn.1.1.2,hn.1.2⟩
  grind
theorem dE.pull{gl:Ctx}{σ:St}{E:Env}{a:Act}{w:World}(hg:dE gl σ E a w){b d:Nat}{k k1 k2:aX}{og:Option Nat}{v:Value}{td tb:Ty}{σ1:St}(hb:σ.hp[b]? =some (some k))(h16:16≤b)(hbd:b≠d)(hd:σ.fresh d)
 (hP:∀x,og=some x→E.P b x∧E.g b≠some x) (hm:St.kj (qW b d) {σ with hp:=σ.hp.set b none}=some σ1) (hk1:RB (E.pull b d og v td tb) w b k1) (hk2:RB (E.pull b d og v td tb) w d k2):
 dE gl {σ1 with hp:=(σ1.hp.set b (some k1)).set d (some k2)} (E.pull b d og v td tb) a w∧Ext gl.md (cU σ.hp E) E w (cU ((σ1.hp.set b (some k1)).set d (some k2)) (E.pull b d og v td tb)) (E.pull b d og v td tb) w:=by
 have apx:=OU (E:=E) (w:=w) (b:=b) (d:=d) (og:=og) (v:=v) (td:=td) (tb:=tb)
 have h16d:=hd.2.2
 unfold St.kj at hm
 split at hm
 ·rename_i hp' df' h3 h4
  cases hm
  have src:∀(i:Nat)(k3:aX),((hp'.set b (some k1)).set d (some k2))[i]? =some (some k3)→(i=d∧k2=k3)∨(i≠d∧i=b∧k1=k3)∨(i≠d∧i≠b∧∃k0,σ.hp[i]? =some (some k0)∧mS (qW b d) (some k0)=some (some k3)):=by
   intro i k3 hi
   rw[fY] at hi
   split at hi
   ·grind
   ·rename_i hne0
    have hne0:i≠d:=fun e=>hne0 e.symm
    rw[fY] at hi
    split at hi
    ·grind
    ·rename_i hne
     obtain⟨k0,e1,e2⟩:=nP h3 hi
     grind
  have any:∀(i:Nat)(k3:aX),((hp'.set b (some k1)).set d (some k2))[i]? =some (some k3)→i≠d→∃k0,σ.hp[i]? =some (some k0):=by
   grind
  have old:∀x i,i≠d→(E.pull b d og v td tb).has i x→og=some x→∀k0,σ.hp[i]? =some (some k0)→False:=by
   intro x i hi hh ho k0 hk0
   obtain⟨p1,p2⟩:=hP x ho
   have e:=hg.hw.gY b i k k0 x hb hk0 (Or.inr p1) (Env.su hi hh)
   subst e
   rcases hh with hh|hh
   ·grind [Env.pull]
   ·exact hh.2.2 rfl ho
  refine⟨⟨?_,?_,⟨?_,?_,?_,hg.hw.slt,hg.hw.gl,?_⟩,apx.RD h4 hg.df⟩,⟨rfl,Tp.r rfl rfl,rfl,cV _,fun _ _ _=>rfl,fun _ h=>h,fun _ h=>Or.inl h,?_,fun i hi=>Env.KL (by omega) (by omega)⟩⟩
  ·simp only[nN];exact hg.len
  ·intro i y hy u hu
   rcases nO hy with e|⟨x,e1,e2,e3⟩
   ·subst e;trivial
   ·exact RV.gZ (apx.RV e3 (RV.mN e2 (hg.tm i x e1 u hu)))
  ·intro i k3 hi
   rcases src i k3 hi with⟨e,e'⟩|⟨_,e,e'⟩|⟨e0,e1,k0,e3,e4⟩
   ·grind
   ·grind
   ·obtain⟨z1,z2,z3⟩:=Env.KL (E:=E) (og:=og) (v:=v) (td:=td) (tb:=tb) e0 e1
    exact apx.RB (fun _ h=>h) (b:=i) (b':=i) z1 z2 z3 (fun _ x hx=>⟨e0,hx,fun e=>absurd e e1⟩) e4 (hg.hw.eJ i k0 e3)
  ·intro i j k3 k4 x hi hj g1 g2
   by_cases e:i=d<;>by_cases e':j=d
   ·grind
   ·grind [Env.vR]
   ·grind [Env.vR]
   ·obtain⟨k5,f1⟩:=any i k3 hi e
    obtain⟨k6,f2⟩:=any j k4 hj e'
    exact hg.hw.gY i j k5 k6 x f1 f2 (Env.su e g1) (Env.su e' g2)
  ·intro i k3 x hi hx hs
   by_cases e:i=d
   ·subst e
    exact hg.hw.fZ b k x hb (Or.inr (hP x (Env.vR hx)).1) hs
   ·obtain⟨k5,f1⟩:=any i k3 hi e
    exact hg.hw.fZ i k5 x f1 (Env.su e hx) hs
  ·intro i k3 x hi hx
   obtain⟨k5,f1⟩:=any i k3 hi hx.1
   exact hg.hw.xi i k5 x f1 hx.2.1
  ·rintro x ⟨i,k3,hi,hx⟩
   by_cases e:i=d
   ·subst e
    exact Or.inl ⟨b,k,hb,Or.inr (hP x (Env.vR hx)).1⟩
   ·obtain⟨k5,f1⟩:=any i k3 hi e
    exact Or.inl ⟨i,k5,f1,Env.su e hx⟩
 grind
def Env.take(E:Env)(b d:Nat)(tb:Ty):Env:=
 {E with bt:=fun c=>if c=b then tb else E.bt c,P:=fun c x=>E.P c x∨(c=b∧E.has d x)}
theorem Env.Gj{E:Env}{b d:Nat}{tb:Ty}{c x:Nat}(h:(E.take b d tb).has c x):E.has c x∨(c=b∧E.has d x):=by
 rcases h with h|h|h
 ·exact Or.inl (Or.inl h)
 ·exact Or.inl (Or.inr h)
 grind
theorem OV{E:Env}{w:World}{b d:Nat}{tb:Ty}:Good E (E.take b d tb) w (lH b) where
 rc:=by
  intro x y vs h hr
  unfold lH at h
  split at h
  ·rename_i hn;cases h
   exact RC.mono (E:=E.re b tb) (E':=E.take b d tb) (w:=w) ⟨fun _ _=>rfl,fun _ h=>h⟩ (fun _ _=>⟨rfl,rfl,rfl⟩) (OS hn hr)
  grind
 agg:=(Eh (E:=E) (w:=w) (b:=b) (t:=tb)).agg
 mp:=(Eh (E:=E) (w:=w) (b:=b) (t:=tb)).mp
 fn:=(Eh (E:=E) (w:=w) (b:=b) (t:=tb)).fn
theorem dE.take{gl:Ctx}{σ:St}{E:Env}{a:Act}{w:World}(hg:dE gl σ E a w){b d:Nat}{k k1 k2:aX}{tb:Ty}{σ1:St}(hb:σ.hp[b]? =some (some k))(h16:16≤b)(hbd:b≠d)(hd:σ.hp[d]? =some (some k2))
 (hm:St.kj (lH b) {σ with hp:=(σ.hp.set b none).set d none}=some σ1) (hk1:RB (E.take b d tb) w b k1):
 dE gl {σ1 with hp:=σ1.hp.set b (some k1)} (E.take b d tb) a w∧Ext gl.md (cU σ.hp E) E w (cU (σ1.hp.set b (some k1)) (E.take b d tb)) (E.take b d tb) w:=by
 have apx:=OV (E:=E) (w:=w) (b:=b) (d:=d) (tb:=tb)
 unfold St.kj at hm
 split at hm
 ·rename_i hp' df' h3 h4
  cases hm
  have src:∀(i:Nat)(k3:aX),(hp'.set b (some k1))[i]? =some (some k3)→(i=b∧k1=k3)∨(i≠d∧i≠b∧∃k0,σ.hp[i]? =some (some k0)∧mS (lH b) (some k0)=some (some k3)):=by
   intro i k3 hi
   rw[fY] at hi
   split at hi
   ·grind
   ·rename_i hne
    obtain⟨k0,e1,e2⟩:=nP h3 hi
    grind
  have own:∀(i:Nat)(k3:aX)(x:Nat),(hp'.set b (some k1))[i]? =some (some k3)→(E.take b d tb).has i x→∃j k0,σ.hp[j]? =some (some k0)∧E.has j x∧((i=b∧(j=b∨j=d))∨(i≠b∧i≠d∧j=i)):=by
   intro i k3 x hi hx
   rcases src i k3 hi with⟨e,_⟩|⟨e0,e1,k0,e3,_⟩
   ·subst e
    rcases Env.Gj hx with h|⟨_,h⟩<;>grind
   ·rcases Env.Gj hx with h|⟨e,_⟩<;>grind
  refine⟨⟨?_,?_,⟨?_,?_,?_,hg.hw.slt,hg.hw.gl,?_⟩,apx.RD h4 hg.df⟩,⟨rfl,Tp.r rfl rfl,rfl,cV _,fun _ _ _=>rfl,fun _ h=>h,fun _ h=>Or.inl h,?_,fun i hi=>⟨rfl,rfl,by simp[Env.take];grind⟩⟩⟩
  ·simp only[nN];exact hg.len
  ·intro i y hy u hu
   rcases nO hy with e|⟨x,e1,e2,e3⟩
   ·subst e;trivial
   ·exact RV.gZ (apx.RV e3 (RV.mN e2 (hg.tm i x e1 u hu)))
  ·intro i k3 hi
   rcases src i k3 hi with⟨e,e'⟩|⟨e0,e1,k0,e3,e4⟩
   ·grind
   ·exact apx.RB (fun _ h=>h) (b:=i) (b':=i) rfl rfl (by simp[Env.take,e1]) (fun _ x hx=>Or.inl hx) e4 (hg.hw.eJ i k0 e3)
  ·intro i j k3 k4 x hi hj g1 g2
   obtain⟨i',k5,f1,f2,f3⟩:=own i k3 x hi g1
   obtain⟨j',k6,f4,f5,f6⟩:=own j k4 x hj g2
   have e:=hg.hw.gY i' j' k5 k6 x f1 f4 f2 f5
   grind
  ·intro i k3 x hi hx
   obtain⟨j,k0,f1,f2,_⟩:=own i k3 x hi hx
   exact hg.hw.fZ j k0 x f1 f2
  ·intro i k3 x hi hx
   obtain⟨j,k0,f1,f2,_⟩:=own i k3 x hi (Or.inr hx)
   exact hg.hw.below f1 f2
  ·rintro x ⟨i,k3,hi,hx⟩
   obtain⟨j,k0,f1,f2,_⟩:=own i k3 x hi hx
   exact Or.inl ⟨j,k0,f1,f2⟩
 grind
end Go.Ax
namespace Go.Ax
def OW(b i d:Nat)(σ:St):Option St:=
 match iS σ.hp b with
 |some (.eW e bs (.slice bs2 t2) xs e2 none)=>if vQ b&&σ.jo d&& !Nat.beq b d then(match St.kj (qW b d) {σ with hp:=σ.hp.set b none} with
  |some σ1=>some {σ1 with hp:=(σ1.hp.set b (some (.eW e bs (.slice bs2 t2) xs e2 (some (i,.own d))))).set d (some (.row e2 bs2 t2 (List.getD xs i [])))}
  |none=>none) else none
 |_=>none
theorem fq.OX{w:World}{S:Nat→Prop}{e:TypeId}{bs:Nat}{t:Ty}{v:Value}{og:Option Nat}{xs:List t.den}(h:fq w S e (.slice bs t) v og xs):Uy w S e bs t v og xs:=h
theorem Wk.OW{gl:Ctx}{b i d:Nat}{σ σ':St}(h:Ax.OW b i d σ=some σ')(hi:∀e bs t xs e2 f,iS σ.hp b=some (.eW e bs t xs e2 f)→i<xs.length):Wk gl σ σ':=by
 intro E a w hg
 unfold Ax.OW at h
 split at h
 ·rename_i e bs bs2 t2 xs e2 hb0
  have hb:=dU σ.hp b _ hb0
  have hi:=hi _ _ _ _ _ _ hb0
  split at h
  ·rename_i hc
   simp only[bP] at hc
   obtain⟨⟨h16,hfr⟩,hbd⟩:=hc
   have hbd:b≠d:=fun e=>by simp_all
   split at h
   ·rename_i σ1 hm
    cases h
    obtain⟨h1,h2,h3,h4,h5,g,cap,c,og,q1,q2,q3,q4,q5,q6,q7,q8⟩:=hg.hw.eJ b _ hb
    have hxi:xs[i]? =some (List.getD xs i []):=by grind
    obtain⟨u,r1,_,r3⟩:=q8 i _ hxi
    obtain⟨s1,s2,s3,av,cv,s4,s5,s6⟩:=(r3 (fun v hv=>by cases hv)).OX
    refine⟨_,hg.pull (og:=og i) (v:=u) (td:=.arr (List.length (List.getD xs i [])) t2) (tb:=rH i xs.length (.slice bs2 t2)) hb (jt h16) hbd (St.gL hfr) ?_ hm ?_ ?_⟩
    ·intro x hx
     exact⟨(q7.own i x hx).1,fun e=>by rw[q3] at e;cases e;exact(q7.own i _ hx).2 rfl⟩
    ·refine⟨by simp[Env.pull,hbd,zh],h2,h3,h4,fun i' v' hv'=>by cases hv';trivial,g,cap,c,fun j=>if j=i then none else og j,by simp[Env.pull,hbd];exact q1,q2,by simp[Env.pull,hbd];exact q3,q4,q5,q6,⟨?_,?_⟩,?_⟩
     ·intro j x hx
      have hx:(if j=i then none else og j)=some x:=hx
      split at hx
      ·cases hx
      ·rename_i hne
       obtain⟨k1,k2⟩:=q7.own j x hx
       exact⟨⟨hbd,k1,fun _ ho=>hne (q7.inj j i x hx ho)⟩,k2⟩
     ·intro j j' x hx hx'
      have hx:(if j=i then none else og j)=some x:=hx
      have hx':(if j'=i then none else og j')=some x:=hx'
      split at hx
      ·cases hx
      ·split at hx'
       ·cases hx'
       ·exact q7.inj j j' x hx hx'
     ·intro j x hx
      obtain⟨z,p1,p2,p3⟩:=q8 j x hx
      refine⟨z,p1,fun v' hv'=>?_,fun hv'=>?_⟩
      ·cases hv'
       rw[r1] at p1;cases p1
       refine⟨aA rfl,by show[u]= [(if d=d then u else E.sv d)];grind,av,List.length (List.getD xs i []),cv,?_⟩
       show(if d=d then u else E.sv d)=_
       grind
      ·have hne:j≠i:=fun e=>by grind
       simp only[hne,dc]
       exact fq.mono (fun _ _=>rfl) (fun _ h=>h) (fun _ _=>rfl) (p3 (fun v hv=>by cases hv))
    ·refine⟨by simp[Env.pull],s1,s2,s3,av,cv,by simp[Env.pull];exact s4,s5,?_⟩
     grind [Env.pull]
   grind
  grind
 grind
def vr(b:Nat)(σ:St):Option St:=
 match iS σ.hp b with
 |
  some (.eW e bs (.slice bs2 t2) xs e2 (some (i,.own d)))=>match iS σ.hp d with
  |some (.row e3 bs3 t3 ys)=>if hc:Ty.same t3 t2=true then(if Nat.beq e3 e2&&Nat.beq bs3 bs2&&vQ b&& !Nat.beq b d then(match St.kj (lH b) {σ with hp:=(σ.hp.set b none).set d none} with
   |some σ1=>some {σ1 with hp:=σ1.hp.set b (some (.eW e bs (.slice bs2 t2) (List.set xs i (Ty.aE hc▸ys)) e2 none))}
   |none=>none) else none) else none
  |_=>none
 |_=>none
theorem Wk.vr{gl:Ctx}{b:Nat}{σ σ':St}(h:Ax.vr b σ=some σ'):Wk gl σ σ':=by
 intro E a w hg
 unfold Ax.vr at h
 split at h
 ·rename_i e bs bs2 t2 xs e2 i d hb0
  have hb:=dU σ.hp b _ hb0
  split at h
  ·rename_i e3 bs3 t3 ys hd0
   have hd:=dU σ.hp d _ hd0
   split at h
   ·rename_i hc
    have et:=Ty.aE hc
    subst et
    split at h
    ·rename_i hc2
     simp only[bP] at hc2
     obtain⟨⟨⟨c1,c2⟩,h16⟩,hbd⟩:=hc2
     have e1:=dm c1;have e2':=dm c2
     subst e1;subst e2'
     have hbd:b≠d:=fun e=>by grind
     split at h
     ·rename_i σ1 hm
      cases h
      obtain⟨h1,h2,h3,h4,h5,g,cap,c,og,q1,q2,q3,q4,q5,q6,q7,q8⟩:=hg.hw.eJ b _ hb
      obtain⟨s0,s1,s2,s3,av,cv,s4,s5,s6⟩:=hg.hw.eJ d _ hd
      obtain⟨hi,_⟩:=h5 i _ rfl
      refine⟨_,hg.take (tb:=.arr xs.length (.slice bs3 t3)) hb (jt h16) hbd hd hm ?_⟩
      refine⟨by simp[Env.take,zh],h2,by grind,by grind,fun i' v' hv'=>(by cases hv'),g,cap,c,fun j=>if j=i then E.g d else og j,by rw[cP];exact q1,q2,q3,q4,q5,by grind,⟨?_,?_⟩,?_⟩
      ·intro j x hx
       have hx:(if j=i then E.g d else og j)=some x:=hx
       split at hx
       ·refine⟨Or.inr ⟨rfl,Or.inl hx⟩,fun e=>?_⟩
        subst e
        exact hbd (hg.hw.sep b d _ _ x hb hd q3 hx)
       ·exact⟨Or.inl (q7.own j x hx).1,(q7.own j x hx).2⟩
      ·intro j j' x hx hx'
       have hx:(if j=i then E.g d else og j)=some x:=hx
       have hx':(if j'=i then E.g d else og j')=some x:=hx'
       split at hx<;>split at hx'
       ·grind
       ·exact absurd (hg.hw.gY b d _ _ x hb hd (Or.inr (q7.own j' x hx').1) (Or.inl hx)) hbd
       ·exact absurd (hg.hw.gY b d _ _ x hb hd (Or.inr (q7.own j x hx).1) (Or.inl hx')) hbd
       ·exact q7.inj j j' x hx hx'
      ·intro j x hx
       rw[fY] at hx
       by_cases e:i=j
       ·subst e
        rw[aA rfl,aA hi] at hx
        cases hx
        obtain⟨z,p1,p2,p3⟩:=q8 i (xs.getD i []) (by grind)
        obtain⟨_,p2,_⟩:=p2 _ rfl
        have ez:z=E.sv d:=by grind
        refine⟨z,p1,fun v hv=>(by cases hv),fun _=>?_⟩
        simp only[cC]
        refine⟨s1,s2,s3,av,cv,by grind,s5,?_⟩
        trivial
       ·rw[aB e] at hx
        obtain⟨z,p1,p2,p3⟩:=q8 j x hx
        refine⟨z,p1,fun v hv=>(by cases hv),fun _=>?_⟩
        have e':j≠i:=fun e'=>e e'.symm
        simp only[e',dc]
        exact p3 (fun v hv=>by grind)
     grind
    grind
   grind
  grind
 grind
end Go.Ax
namespace Go.Ax
def Env.AP(E:Env)(b:Nat)(R:Nat→Prop):Env:=
 {E with S:=fun g=>E.S g∨R g,P:=fun c x=>c≠b∧E.P c x}
theorem Env.sx{E:Env}{b:Nat}{R:Nat→Prop}{c x:Nat}(h:(E.AP b R).has c x):E.has c x:=h.imp id (fun k=>k.2)
theorem dE.AP{gl:Ctx}{σ:St}{E:Env}{a:Act}{w:World}(hg:dE gl σ E a w){b:Nat}{k k':aX}{R:Nat→Prop}(hb:σ.hp[b]? =some (some k))(hR:∀x,R x→E.P b x∧E.g b≠some x)(hk:RB (E.AP b R) w b k'):
 dE gl {σ with hp:=σ.hp.set b (some k')} (E.AP b R) a w∧Ext gl.md (cU σ.hp E) E w (cU (σ.hp.set b (some k')) (E.AP b R)) (E.AP b R) w:=by
 have kp:di E w (E.AP b R) w:=⟨fun _ _=>rfl,fun _ h=>Or.inl h⟩
 have src:∀(i:Nat)(k3:aX),(σ.hp.set b (some k'))[i]? =some (some k3)→(i=b∧k'=k3)∨(i≠b∧σ.hp[i]? =some (some k3)):=by
  grind
 have any:∀(i:Nat)(k3:aX),(σ.hp.set b (some k'))[i]? =some (some k3)→∃k0,σ.hp[i]? =some (some k0):=by
  grind
 refine⟨hg.carry kp (fun _ _=>⟨rfl,rfl,rfl⟩) ⟨?_,?_,?_,?_,hg.hw.kz kp,?_⟩,⟨rfl,Tp.r rfl rfl,rfl,cV _,fun _ _ _=>rfl,fun _ h=>Or.inl h,?_,?_,fun _ _=>⟨rfl,rfl,rfl⟩⟩⟩
 ·intro i k3 hi
  rcases src i k3 hi with⟨e,e'⟩|⟨e,e'⟩
  ·grind
  ·exact RB.mono kp (fun _ _=>⟨rfl,rfl,rfl⟩) (fun _ _=>rfl) (fun _ x hx=>⟨e,hx⟩) (hg.hw.eJ i k3 e')
 ·intro i j k3 k4 x hi hj g1 g2
  obtain⟨k5,f1⟩:=any i k3 hi
  obtain⟨k6,f2⟩:=any j k4 hj
  exact hg.hw.gY i j k5 k6 x f1 f2 (Env.sx g1) (Env.sx g2)
 ·intro i k3 x hi hx hs
  obtain⟨k5,f1⟩:=any i k3 hi
  rcases hs with hs|hs
  ·exact hg.hw.fZ i k5 x f1 (Env.sx hx) hs
  ·obtain⟨r1,r2⟩:=hR x hs
   have e:=hg.hw.gY b i k k5 x hb f1 (Or.inr r1) (Env.sx hx)
   subst e
   rcases hx with hx|hx
   ·trivial
   ·exact hx.1 rfl
 ·rintro x (hs|hs)
  ·exact hg.hw.slt x hs
  ·exact hg.hw.xi b k x hb (hR x hs).1
 ·intro i k3 x hi hx
  obtain⟨k5,f1⟩:=any i k3 hi
  exact hg.hw.xi i k5 x f1 hx.2
 ·rintro x (hs|hs)
  ·grind
  ·exact Or.inr (Or.inl ⟨b,k,hb,Or.inr (hR x hs).1⟩)
 ·rintro x ⟨i,k3,hi,hx⟩
  obtain⟨k5,f1⟩:=any i k3 hi
  exact Or.inl ⟨i,k5,f1,Env.sx hx⟩
theorem fq.rel{w:World}{S S':Nat→Prop}{e:TypeId}(hS:∀b,S b→S' b){t:Ty}{v:Value}{og:Option Nat}{x:t.den}(hg:∀g,og=some g→S' g)(h:fq w S e t v og x):Rel w S' t [v] x:=by
 cases t with
 |
  slice bs t=>
  obtain⟨h1,h2,h3,a,cap,h4,h5,h6⟩:=h
  subst h4
  rcases h6 with⟨⟨k1,k2⟩,k3,k4⟩|⟨g,c,k1,k2,k3,k4,k5,k6⟩
  ·subst k4;exact⟨a,cap,rfl,cX _,h1,h2,Or.inl rfl⟩
  ·refine⟨a,cap,rfl,k5,h1,h2,Or.inr ⟨g,0,_,k2,hg g k1,?_,bO.mono (fun _ _=>Rel.mono (fun _ _=>rfl) hS) k6⟩⟩
   have:=tX.of_heap k3 0 (List.length x*t.size)
   grind
 |
  map k u=>
  obtain⟨es,h0,h1,h2,g,en,clock,h3,h4,h5,h6,h7,h8⟩:=h
  subst h0;subst h4
  exact⟨some g,rfl,Or.inr ⟨es,g,en,clock,rfl,rfl,hg g h3,h5,nT.mono (fun _ _=>lB.mono (fun _ _=>Rel.mono (fun _ _=>rfl) hS)) (fun _ _=>lB.mono (fun _ _=>Rel.mono (fun _ _=>rfl) hS)) h6,h1,h2,h7,h8⟩⟩
 |_=>trivial
def Ms(b:Nat)(σ:St):Option St:=
 match iS σ.hp b with
 |some (.eW e bs t xs _ none)=>some {σ with hp:=σ.hp.set b (some (.row e bs t xs))}
 |some (.pmap k t es _ none)=>if t.isAgg then none else some {σ with hp:=σ.hp.set b (some (.map k t es))}
 |_=>none
theorem bO.at{α:Type}{r:List Value→α→Prop}:∀{xs:List α}{cs:List Value},cs.length=xs.length→(∀(i:Nat)(x:α),xs[i]? =some x→∃u,cs[i]? =some u∧r [u] x)→bO r cs xs
 |[],cs,hl,_=>ES hl
 |x::xs,[],hl,_=>by simp at hl
 |
  x::xs,c::cs,hl,h=>by
  obtain⟨u,h1,h2⟩:=h 0 x rfl
  simp at h1;subst h1
  exact⟨[c],cs,rfl,h2,bO.at (by simpa using hl) (fun i y hy=>by simpa using h (i+1) y (by simpa using hy))⟩
theorem RM.at{E:Env}{w:World}{k v:Ty}:∀{es:List (k.den×v.den)}{en:List MapEntry},en.length=es.length→(∀(i:Nat) x,es[i]? =some x→∃m,en[i]? =some m∧ew E w (.val k x.1) m.key∧ew E w (.val v x.2) m.val)→RM E w k v en es
 |[],[],_,_=>trivial
 |[],_::_,hl,_=>by simp at hl
 |_::_,[],hl,_=>by simp at hl
 |
  x::es,m::en,hl,h=>by
  obtain⟨u,h1,h2,h3⟩:=h 0 x rfl
  simp at h1;subst h1
  exact⟨h2,h3,RM.at (by simpa using hl) (fun i y hy=>by simpa using h (i+1) y (by simpa using hy))⟩
theorem Wk.Ms{gl:Ctx}{b:Nat}{σ σ':St}(h:Ax.Ms b σ=some σ'):Wk gl σ σ':=by
 intro E a w hg
 unfold Ax.Ms at h
 split at h
 ·rename_i e bs t xs e2 hb0
  have hb:=dU σ.hp b _ hb0
  cases h
  obtain⟨h1,h2,h3,h4,h5,g,cap,c,og,q1,q2,q3,q4,q5,q6,q7,q8⟩:=hg.hw.eJ b _ hb
  obtain⟨r1,r2⟩:=hg.AP (k':=.row e bs t xs) (R:=fun x=>∃i,og i=some x) hb (fun x ⟨i,hi⟩=>⟨(q7.own i x hi).1,fun e=>by rw[q3] at e;cases e;exact(q7.own i _ hi).2 rfl⟩) (by
   refine⟨h1,h3,h4,by omega,some ⟨g,0,none⟩,cap,q1,q2,Or.inr ⟨g,c,q3,rfl,q4,by grind,q6,?_⟩⟩
   rw[h2,Nat.mul_one]
   refine bO.at (by grind) (fun i x hx=>?_)
   have hi:=(List.getElem?_eq_some_iff.1 hx).1
   obtain⟨u,p1,_,p3⟩:=q8 i x hx
   refine⟨u,by grind,?_⟩
   exact fq.rel (fun b hb=>Or.inl hb) (fun x hx=>Or.inr ⟨i,hx⟩) (p3 (fun v hv=>by cases hv)))
  grind
 ·rename_i k t es e2 hb0
  have hb:=dU σ.hp b _ hb0
  split at h
  ·cases h
  ·rename_i ao2
   cases h
   obtain⟨h1,h2,h3,g,en,clock,og,q1,q2,q3,q4,q5,q6,q7,q8⟩:=hg.hw.eJ b _ hb
   have kp:di E w (E.AP b fun x=>∃i,og i=some x) w:=⟨fun _ _=>rfl,fun _ h=>Or.inl h⟩
   obtain⟨r1,r2⟩:=hg.AP (k':=.map k t es) (R:=fun x=>∃i,og i=some x) hb (fun x ⟨i,hi⟩=>⟨(q5.own i x hi).1,fun e=>by rw[q1] at e;cases e;exact(q5.own i _ hi).2 rfl⟩) (by
    refine⟨h1,h2,g,en,clock,q1,q2,RM.at (by grind) (fun i x hx=>?_),q3,q4⟩
    obtain⟨m,p1,p2,_,p4⟩:=q7 i x hx
    refine⟨m,by grind,ew.mono kp (fun _ hb=>by cases hb) p2,Or.inr ⟨by simpa[AV.isAgg] using ao2,?_⟩⟩
    exact fq.rel (fun b hb=>Or.inl hb) (fun x hx=>Or.inr ⟨i,hx⟩) (p4 (fun v pr hv=>by cases hv)))
   grind
 grind
def NP(b:Nat)(e2:TypeId)(σ:St):Option St:=
 match iS σ.hp b with
 |some (.map k t [])=>some {σ with hp:=σ.hp.set b (some (.pmap k t [] e2 none))}
 |_=>none
theorem Wk.NP{gl:Ctx}{b:Nat}{e2:TypeId}{σ σ':St}(h:Ax.NP b e2 σ=some σ'):Wk gl σ σ':=by
 intro E a w hg
 unfold Ax.NP at h
 split at h
 ·rename_i k t hb0
  have hb:=dU σ.hp b _ hb0
  cases h
  obtain⟨h1,h2,g,en,clock,q1,q2,q3,q4,q5⟩:=hg.hw.eJ b _ hb
  obtain⟨r1,r2⟩:=hg.AP (k':=.pmap k t [] e2 none) (R:=fun _=>False) hb (fun x hx=>hx.elim) (by
   have hn:en.toList= []:=by
    cases he:en.toList with
    |nil=>rfl
    |cons _ _=>rw[he] at q3;trivial
   have hs:en.size=0:=by simp_all
   exact⟨h1,h2,fun kx v pr hv=>(by cases hv),g,en,clock,fun _=>none,q1,q2,q4,q5,⟨fun i u hu=>(by cases hu),fun i j u hu=>(by cases hu)⟩,hs,fun i x hx=>by grind,fun kx v=>⟨fun hf=>(by cases hf),fun hf=>(by cases hf)⟩⟩)
  grind
 grind
end Go.Ax
namespace Go.Ax
theorem ow{kt vt:Ty}(hk:kt.keyed=true){k:kt.den}:∀{es:List (kt.den×vt.den)},ep kt k es=true→∃i:Nat,es[i]? =some (k,aO kt vt k es)
 |[],h=>by trivial
 |
  x::es,h=>by
  simp only[ep,jV] at h
  cases hb:bM kt k x.1 with
  |true=>exact⟨0,by simp_all[aO,dT]⟩
  |
   false=>
   rw[hb] at h
   obtain⟨i,hi⟩:=ow hk (h.resolve_left (by simp))
   exact⟨i+1,by grind [aO]⟩
theorem Ei{kt vt:Ty}{k:kt.den}:∀{es:List (kt.den×vt.den)},ep kt k es=false→aO kt vt k es=vt.aH
 |[],_=>rfl
 |
  x::es,h=>by
  simp only[ep,Bool.or_eq_false_iff] at h
  simp only[aO,h.1,dv,dc]
  exact Ei h.2
theorem B1{E:Env}{w:World}{b d:Nat}{kt t:Ty}{es:List (kt.den×t.den)}{e2:TypeId}(hrb:RB E w b (.pmap kt t es e2 none))(hbd:b≠d){kx:kt.den}{y:t.den}{i:Nat}(hi:es[i]? =some (kx,y)):
 ∃u og,fq w E.S e2 t u og y∧(∀x,og=some x→E.P b x∧E.g b≠some x)∧
  ∀v pr td tb,v.dY t=true→RC (E.pull b d og u td tb) w v [u]→RB (E.pull b d og u td tb) w b (.pmap kt t es e2 (some (kx,v,pr))):=by
 obtain⟨z1,z2,z3,g,en,clock,og,y1,y2,y3,y4,y5,y6,y7,y8⟩:=hrb
 obtain⟨m,t1,t2,_,t4⟩:=y7 i _ hi
 refine⟨m.val,og i,t4 (fun v pr hv=>by cases hv),fun x hx=>⟨(y5.own i x hx).1,fun e=>by rw[y1] at e;cases e;exact(y5.own i _ hx).2 rfl⟩,?_⟩
 intro v pr td tb hc hr
 have kp:di E w (E.pull b d (og i) m.val td tb) w:=⟨fun _ _=>rfl,fun _ h=>h⟩
 refine⟨z1,z2,fun kx' v' pr' hv'=>by grind,g,en,clock,fun j=>if j=i then none else og j,by simp[Env.pull,hbd];exact y1,y2,y3,y4,⟨?_,?_⟩,y6,?_,?_⟩
 ·intro j x hx
  have hx:(if j=i then none else og j)=some x:=hx
  split at hx
  ·cases hx
  ·rename_i hne
   obtain⟨k1,k2⟩:=y5.own j x hx
   exact⟨⟨hbd,k1,fun _ ho=>hne (y5.inj j i x hx ho)⟩,k2⟩
 ·intro j j' x hx hx'
  have hx:(if j=i then none else og j)=some x:=hx
  have hx':(if j'=i then none else og j')=some x:=hx'
  split at hx
  ·cases hx
  ·split at hx'
   ·cases hx'
   ·exact y5.inj j j' x hx hx'
 ·intro j x hx
  obtain⟨m2,p1,p2,_,p4⟩:=y7 j x hx
  refine⟨m2,p1,ew.mono kp (fun _ hb=>by cases hb) p2,fun v' pr' hv'=>?_,fun hv'=>?_⟩
  ·obtain⟨xk,xv⟩:=x
   simp only[fG,jb] at hv'
   obtain⟨e1,e2,e3⟩:=hv'
   subst e1;subst e2
   have e:=D8 z1 hi hx
   grind
  ·have hne:j≠i:=fun e=>by
    grind
   simp only[hne,dc]
   exact fq.mono (fun _ _=>rfl) (fun _ h=>h) (fun _ _=>rfl) (p4 (fun v pr hv=>by cases hv))
 grind
theorem Jj{E:Env}{w:World}{b d:Nat}{kt t:Ty}{es:List (kt.den×t.den)}{e2:TypeId}(hrb:RB E w b (.pmap kt t es e2 none))(hbd:b≠d){kx:kt.den}(hn:kx∉es.map (·.1)){v:AV}{u:Value}{td tb:Ty}(hc:v.dY t=true)(hr:RC (E.pull b d none u td tb) w v [zeroV t]):
 RB (E.pull b d none u td tb) w b (.pmap kt t es e2 (some (kx,v,false))):=by
 obtain⟨z1,z2,z3,g,en,clock,og,y1,y2,y3,y4,y5,y6,y7,y8⟩:=hrb
 have kp:di E w (E.pull b d none u td tb) w:=⟨fun _ _=>rfl,fun _ h=>h⟩
 refine⟨z1,z2,fun kx' v' pr' hv'=>by grind,g,en,clock,og,by simp[Env.pull,hbd];exact y1,y2,y3,y4,y5.mono (fun x hx=>⟨hbd,hx,fun _=>by simp⟩),y6,?_,?_⟩
 ·intro j x hx
  obtain⟨m2,p1,p2,_,p4⟩:=y7 j x hx
  refine⟨m2,p1,ew.mono kp (fun _ hb=>by cases hb) p2,fun v' pr' hv'=>?_,fun hv'=>fq.mono (fun _ _=>rfl) (fun _ h=>h) (fun _ _=>rfl) (p4 (fun v pr hv=>by cases hv))⟩<;>grind
 grind
theorem B2{E:Env}{w:World}{b d:Nat}{kt t tb:Ty}(hk:kt.keyed=true){es:List (kt.den×t.den)}{e2:TypeId}{kx:kt.den}{v:AV}(hrb:RB E w b (.pmap kt t es e2 (some (kx,v,true)))){y:t.den}(apk:∀u,RC E w v [u]→fq w E.S e2 t u (E.g d) y)
 (hsep:∀x,E.has b x→¬E.has d x):RB (E.take b d tb) w b (.pmap kt t (bK kt kx y es) e2 none):=by
 obtain⟨z1,z2,z3,g,en,clock,og,y1,y2,y3,y4,y5,y6,y7,y8⟩:=hrb
 have hin:=(y8 kx v).2 rfl
 obtain⟨⟨kx',y0⟩,hm,e⟩:=List.mem_map.1 hin
 have e:kx'=kx:=e
 subst e
 obtain⟨i,hi⟩:=List.mem_iff_getElem?.1 hm
 have hlt:i<es.length:=(List.getElem?_eq_some_iff.1 hi).1
 have hes:=D7 hk (y:=y) z1 hi
 have kp:di E w (E.take b d tb) w:=⟨fun _ _=>rfl,fun _ h=>h⟩
 refine⟨fJ hk z1,by grind,fun kx' v' pr' hv'=>(by cases hv'),g,en,clock,fun j=>if j=i then E.g d else og j,y1,y2,y3,y4,⟨?_,?_⟩,by grind,?_,fun kx' v'=>⟨fun hf=>(by cases hf),fun hf=>(by cases hf)⟩⟩
 ·intro j x hx
  have hx:(if j=i then E.g d else og j)=some x:=hx
  split at hx
  ·exact⟨Or.inr ⟨rfl,Or.inl hx⟩,fun e=>by subst e;exact hsep x (Or.inl y1) (Or.inl hx)⟩
  ·exact⟨Or.inl (y5.own j x hx).1,(y5.own j x hx).2⟩
 ·intro j j' x hx hx'
  have hx:(if j=i then E.g d else og j)=some x:=hx
  have hx':(if j'=i then E.g d else og j')=some x:=hx'
  split at hx<;>split at hx'
  ·grind
  ·exact absurd (Or.inl hx) (hsep x (Or.inr (y5.own j' x hx').1))
  ·exact absurd (Or.inl hx') (hsep x (Or.inr (y5.own j x hx).1))
  ·exact y5.inj j j' x hx hx'
 ·rw[hes]
  intro j x hx
  rw[fY] at hx
  by_cases hne:i=j
  ·subst hne
   rw[aA rfl,aA hlt] at hx
   cases hx
   obtain⟨m,p1,p2,p3,_⟩:=y7 i _ hi
   refine⟨m,p1,ew.mono kp (fun _ hb=>by cases hb) p2,fun v' pr' hv'=>(by cases hv'),fun _=>?_⟩
   simp only[cC]
   exact apk _ (p3 v true rfl).2
  ·rw[aB hne] at hx
   obtain⟨m,p1,p2,p3,p4⟩:=y7 j x hx
   have hxk:x.1≠kx':=fun e=>by
    grind [D8]
   have hne':j≠i:=fun e=>hne e.symm
   refine⟨m,p1,ew.mono kp (fun _ hb=>by cases hb) p2,fun v' pr' hv'=>(by cases hv'),fun _=>?_⟩
   simp only[hne',dc]
   exact p4 (fun v' pr' hv'=>by grind)
end Go.Ax
namespace Go.Ax
def OY(mode b d:Nat)(kt:Ty)(kx:kt.den)(σ:St):Option (List VC×St):=
 match mode,iS σ.hp b with
 |0,some (.pmap k u es e2 none)=>if h:Ty.same k kt=true then(if k.keyed&&vQ b&&u.Bk&&AV.dY .ia u then some ([vc (ep k (Ty.aE h▸kx:k.den) es=false)],{σ with hp:=σ.hp.set b (some (.pmap k u es e2 (some ((Ty.aE h▸kx:k.den),.ia,false))))}) else none) else none
 |1,some (.pmap k (.map k2 v2) es e2 none)=>if h:Ty.same k kt=true then(if k.keyed&&vQ b&&σ.jo d&& !Nat.beq b d then(match St.kj (qW b d) {σ with hp:=σ.hp.set b none} with
  |some σ1=>some ([vc (ep k (Ty.aE h▸kx:k.den) es=true)],{σ1 with hp:=(σ1.hp.set b (some (.pmap k (.map k2 v2) es e2 (some ((Ty.aE h▸kx:k.den),.mp d,true))))).set d (some (.map k2 v2 (bA (aO k (.map k2 v2) (Ty.aE h▸kx:k.den) es))))})
  |none=>none) else none) else none
 |2,some (.pmap k (.slice bs t2) es e2 none)=>if h:Ty.same k kt=true then(if k.keyed&&vQ b&&σ.jo d&& !Nat.beq b d&&Nat.blt 0 t2.size then(match St.kj (qW b d) {σ with hp:=σ.hp.set b none} with
  |some σ1=>some ([],{σ1 with hp:=(σ1.hp.set b (some (.pmap k (.slice bs t2) es e2 (some ((Ty.aE h▸kx:k.den),.own d,false))))).set d (some (.row e2 bs t2 (aO k (.slice bs t2) (Ty.aE h▸kx:k.den) es)))})
  |none=>none) else none) else none
 |_,_=>none
theorem RB.W4{E:Env}{w:World}{d:Nat}{e:TypeId}{bs:Nat}{t:Ty}(hp:0<t.size)(h1:E.bt d= .arr 0 t)(h2:E.sv d= .slice none 0 0)(h3:E.g d=none):RB E w d (.row e bs t []):=
 ⟨h1,by simp,by simp,hp,none,0,h2,cX _,Or.inl ⟨⟨rfl,rfl⟩,h3,rfl⟩⟩
theorem Wk.OY{gl:Ctx}{mode b d:Nat}{kt:Ty}{kx:kt.den}{σ σ':St}{vcs:List VC}(h:Ax.OY mode b d kt kx σ=some (vcs,σ'))(hvc:gm vcs):Wk gl σ σ':=by
 intro E a w hg
 unfold Ax.OY at h
 split at h
 ·rename_i k u es e2 hb0
  have hb:=dU σ.hp b _ hb0
  split at h
  ·rename_i hs
   have et:=Ty.aE hs
   subst et
   split at h
   ·rename_i hc
    cases h
    simp only[bP] at hc
    obtain⟨⟨⟨hk,h16⟩,hm⟩,hcf⟩:=hc
    have hn:ep k kx es=false:=hvc.1
    have hn':kx∉es.map (·.1):=fun hm=>by rw[(il hk).2 hm] at hn;cases hn
    obtain⟨z1,z2,z3,g,en,clock,og,y1,y2,y3,y4,y5,y6,y7,y8⟩:=hg.hw.eJ b _ hb
    have hw:=hg.hw.write (w':=w) (k':=.pmap k u es e2 (some (kx,.ia,false))) hb rfl (fun _ _=>rfl) (by
     refine⟨z1,z2,fun kx' v' pr' hv'=>by grind,g,en,clock,og,y1,y2,y3,y4,y5,y6,?_,?_⟩
     ·grind
     ·intro kx' v'
      refine⟨fun hf _=>?_,fun hf=>?_⟩<;>cases hf
      rw[BV hm];rfl)
    exact⟨E,hg.carry ⟨fun _ _=>rfl,fun _ h=>h⟩ (fun _ _=>⟨rfl,rfl,rfl⟩) hw,{Ext.refl (md:=gl.md) (cU σ.hp E) E w with own:=fun g hg'=>Or.inl (cU.set hb hg')}⟩
   grind
  grind
 ·rename_i k k2 v2 es e2 hb0
  have hb:=dU σ.hp b _ hb0
  split at h
  ·rename_i hs
   have et:=Ty.aE hs
   subst et
   split at h
   ·rename_i hc
    simp only[bP] at hc
    obtain⟨⟨⟨hk,h16⟩,hfr⟩,hbd⟩:=hc
    have hbd:b≠d:=fun e=>by simp_all
    split at h
    ·rename_i σ1 hm
     cases h
     have hn:ep k kx es=true:=hvc.1
     obtain⟨i,hi⟩:=ow (vt:=.map k2 v2) hk hn
     obtain⟨u,og,s1,s2,s3⟩:=B1 (hg.hw.eJ b _ hb) hbd hi
     obtain⟨es',e0,m1,m2,g,en,clock,m3,m4,m5,m6,m7,m8⟩:=s1
     have ge:(E.pull b d og u .unit .unit).g d=some g:=by simp[Env.pull];exact m3
     refine⟨_,hg.pull (og:=og) (v:=u) (td:=.unit) (tb:=.unit) hb (jt h16) hbd (St.gL hfr) s2 hm (s3 (.mp d) true .unit .unit rfl ⟨g,ge,by rw[m4]⟩) ?_⟩
     rw[e0]
     exact⟨m1,m2,g,en,clock,ge,m5,RM.of (E:=E.pull b d og u .unit .unit) m6,m7,m8⟩
    grind
   grind
  grind
 ·rename_i k bs t2 es e2 hb0
  have hb:=dU σ.hp b _ hb0
  split at h
  ·rename_i hs
   have et:=Ty.aE hs
   subst et
   split at h
   ·rename_i hc
    simp only[bP] at hc
    obtain⟨⟨⟨⟨hk,h16⟩,hfr⟩,hbd⟩,hpos⟩:=hc
    have hbd:b≠d:=fun e=>by simp_all
    have hpos:0<t2.size:=by simp_all
    split at h
    ·rename_i σ1 hm
     cases h
     cases hn:ep k kx es with
     |
      true=>
      obtain⟨i,hi⟩:=ow (vt:=.slice bs t2) hk hn
      obtain⟨u,og,s1,s2,s3⟩:=B1 (hg.hw.eJ b _ hb) hbd hi
      obtain⟨q1,q2,q3,av,cv,q4,q5,q6⟩:=s1.OX
      refine⟨_,hg.pull (og:=og) (v:=u) (td:=.arr (List.length (aO k (.slice bs t2) kx es)) t2) (tb:=.unit) hb (jt h16) hbd (St.gL hfr) s2 hm (s3 (.own d) false _ .unit rfl ⟨by simp[Env.pull],av,List.length (aO k (.slice bs t2) kx es),cv,by simp[Env.pull];exact q4⟩) ?_⟩
      refine⟨by simp[Env.pull],q1,q2,q3,av,cv,by simp[Env.pull];exact q4,q5,?_⟩
      grind [Env.pull]
     |
      false=>
      have hn':kx∉es.map (·.1):=fun hm=>by rw[(il hk).2 hm] at hn;cases hn
      have e0:aO k (.slice bs t2) kx es= []:=Ei hn
      rw[e0]
      refine⟨_,hg.pull (og:=none) (v:=.slice none 0 0) (td:=.arr 0 t2) (tb:=.unit) hb (jt h16) hbd (St.gL hfr) (fun x hx=>by cases hx) hm (Jj (hg.hw.eJ b _ hb) hbd hn' rfl ⟨by simp[Env.pull,zeroV],none,0,0,by simp[Env.pull]⟩) ?_⟩
      grind [RB.W4,Env.pull]
    grind
   grind
  grind
 grind
def qT(b:Nat)(σ:St):Option St:=
 match iS σ.hp b with
 |
  some (.pmap k (.slice bs2 t2) es e2 (some (kx,.own d,true)))=>match iS σ.hp d with
  |some (.row e3 bs3 t3 ys)=>if hc:Ty.same t3 t2=true then(if k.keyed&&Nat.beq e3 e2&&Nat.beq bs3 bs2&&vQ b&& !Nat.beq b d then(match St.kj (lH b) {σ with hp:=(σ.hp.set b none).set d none} with
   |some σ1=>some {σ1 with hp:=σ1.hp.set b (some (.pmap k (.slice bs2 t2) (bK k kx (Ty.aE hc▸ys:List t2.den) es) e2 none))}
   |none=>none) else none) else none
  |_=>none
 |
  some (.pmap k (.map k2 v2) es e2 (some (kx,.mp d,true)))=>match iS σ.hp d with
  |some (.map k3 v3 ys)=>if hc:Ty.same k3 k2=true∧Ty.same v3 v2=true then(if k.keyed&&vQ b&& !Nat.beq b d then(match St.kj (lH b) {σ with hp:=(σ.hp.set b none).set d none} with
   |some σ1=>some {σ1 with hp:=σ1.hp.set b (some (.pmap k (.map k2 v2) (bK k kx (some (Ty.aE hc.1▸Ty.aE hc.2▸ys:List (k2.den×v2.den))) es) e2 none))}
   |none=>none) else none) else none
  |_=>none
 |_=>none
theorem Wk.qT{gl:Ctx}{b:Nat}{σ σ':St}(h:Ax.qT b σ=some σ'):Wk gl σ σ':=by
 intro E a w hg
 unfold Ax.qT at h
 split at h
 ·rename_i k bs2 t2 es e2 kx d hb0
  have hb:=dU σ.hp b _ hb0
  split at h
  ·rename_i e3 bs3 t3 ys hd0
   have hd:=dU σ.hp d _ hd0
   split at h
   ·rename_i hc
    have et:=Ty.aE hc
    subst et
    split at h
    ·rename_i hc2
     simp only[bP] at hc2
     obtain⟨⟨⟨⟨hk,c1⟩,c2⟩,h16⟩,hbd⟩:=hc2
     have e1:=dm c1;have e2':=dm c2
     subst e1;subst e2'
     have hbd:b≠d:=fun e=>by grind
     split at h
     ·rename_i σ1 hm
      cases h
      refine⟨_,hg.take (tb:=.unit) hb (jt h16) hbd hd hm (B2 hk (hg.hw.eJ b _ hb) ?_ (fun x h1 h2=>hbd (hg.hw.gY b d _ _ x hb hd h1 h2)))⟩
      intro u hu
      obtain⟨s0,s1,s2,s3,av,cv,s4,s5,s6⟩:=hg.hw.eJ d _ hd
      obtain⟨hu,_⟩:=hu
      have eu:u=E.sv d:=by grind
      refine⟨s1,s2,s3,av,cv,by rw[eu];exact s4,s5,?_⟩<;>grind
     grind
    grind
   grind
  grind
 ·rename_i k k2 v2 es e2 kx d hb0
  have hb:=dU σ.hp b _ hb0
  split at h
  ·rename_i k3 v3 ys hd0
   have hd:=dU σ.hp d _ hd0
   split at h
   ·rename_i hc
    obtain⟨hc1,hc2⟩:=hc
    have et:=Ty.aE hc1
    subst et
    have et2:=Ty.aE hc2
    subst et2
    split at h
    ·rename_i hc2
     simp only[bP] at hc2
     obtain⟨⟨hk,h16⟩,hbd⟩:=hc2
     have hbd:b≠d:=fun e=>by grind
     split at h
     ·rename_i σ1 hm
      cases h
      refine⟨_,hg.take (tb:=.unit) hb (jt h16) hbd hd hm (B2 hk (hg.hw.eJ b _ hb) ?_ (fun x h1 h2=>hbd (hg.hw.gY b d _ _ x hb hd h1 h2)))⟩
      intro u hu
      obtain⟨s1,s2,g,en,clock,s3,s4,s5,s6,s7⟩:=hg.hw.eJ d _ hd
      obtain⟨g',hg',eu⟩:=hu
      rw[s3] at hg';cases hg'
      have eu:u= .map (some g):=by grind
      exact⟨ys,rfl,s1,s2,g,en,clock,s3,eu,s4,RM.to s5,s6,s7⟩
     grind
    grind
   grind
  grind
 grind
end Go.Ax
namespace Go.Ax
def Mt(b:Nat):AV→Bool
 | .own c| .nQ c _ _| .jc c=> !Nat.beq c b
 | .func _ fs cs=>Mt b fs&&Mt b cs&&fs.atoms&&cs.atoms
 | .iface _ v=>Mt b v
 | .cons a c=>Mt b a&&Mt b c
 | .bot| .ky _| .opt _ _=>false
 |_=>true
def tQ(b:Nat)(x:AV):Option AV:=if Mt b x then some x else none
def Env.rs(E:Env)(b:Nat)(v:Value):Env:={E with sv:=fun c=>if c=b then v else E.sv c}
theorem Env.Gk{E:Env}{b c:Nat}{v:Value}(h:c≠b):(E.rs b v).sv c=E.sv c:=by simp[Env.rs,h]
theorem OZ{E:Env}{w:World}{b:Nat}{u:Value}:∀{x:AV}{vs:List Value},Mt b x=true→RC E w x vs→RC (E.rs b u) w x vs:=by
 intro x
 have ne:∀{c:Nat},(!Nat.beq c b)=true→c≠b:=fun h e=>by simp_all
 induction x with
 |nQ c lo len=>intro vs h hr;simp only[RC];rw[Env.Gk (ne h)];exact hr
 |own c=>intro vs h hr;simp only[RC];rw[Env.Gk (ne h)];exact hr
 |jc c=>intro vs h hr;simp only[RC];rw[Env.Gk (ne h)];exact hr
 |
  func fn fs cs ih1 ih2=>
  intro vs h hr
  simp only[Mt,bP] at h
  obtain⟨f,c,e,h1,h2,h3,h4⟩:=hr
  exact⟨f,c,e,ih1 h.1.1.1 h1,ih2 h.1.1.2 h2,h3,h4⟩
 |
  iface t v ih=>
  intro vs h hr
  obtain⟨x,e,hr⟩:=hr
  refine⟨x,e,?_⟩
  rcases hr with⟨h1,cs,e2,h3⟩|⟨h1,h3⟩
  ·exact Or.inl ⟨h1,cs,e2,ih h h3⟩
  ·exact Or.inr ⟨h1,ih h h3⟩
 |
  cons a c ih1 ih2=>
  intro vs h hr
  simp only[Mt,bP] at h
  obtain⟨v1,v2,e,h1,h2⟩:=hr
  exact⟨v1,v2,e,ih1 h.1 h1,ih2 h.2 h2⟩
 |bot=>intro vs h;trivial
 |ky l=>intro vs h;trivial
 |opt c v=>intro vs h;trivial
 |_=>intro vs h hr;exact hr
theorem W5{E:Env}{w:World}{b:Nat}{v:Value}:Good E (E.rs b v) w (tQ b) where
 rc:=by
  grind [tQ,OZ]
 agg:=by
  grind [tQ]
 mp:=by
  intro c y h
  unfold tQ at h
  split at h
  ·cases h;rfl
  grind
 fn:=by
  intro fn fs cs y h
  unfold tQ at h
  split at h
  ·rename_i hn
   cases h
   simp only[Mt,bP] at hn
   exact⟨fs,cs,rfl,by unfold tQ;grind,by unfold tQ;grind,hn.1.2,hn.2⟩
  grind
theorem dE.rs{gl:Ctx}{σ:St}{E:Env}{a:Act}{w:World}(hg:dE gl σ E a w){b:Nat}{k k':aX}{ty:Value}{σ1:St}(hb:σ.hp[b]? =some (some k))(h16:16≤b)(hm:St.kj (tQ b) {σ with hp:=σ.hp.set b none}=some σ1)(hk:RB (E.rs b ty) w b k'):
 dE gl {σ1 with hp:=σ1.hp.set b (some k')} (E.rs b ty) a w∧Ext gl.md (cU σ.hp E) E w (cU (σ1.hp.set b (some k')) (E.rs b ty)) (E.rs b ty) w:=by
 have apx:=W5 (E:=E) (w:=w) (b:=b) (v:=ty)
 unfold St.kj at hm
 split at hm
 ·rename_i hp' df' h3 h4
  cases hm
  have src:∀(i:Nat)(k2:aX),(hp'.set b (some k'))[i]? =some (some k2)→(i=b∧k'=k2)∨(i≠b∧∃k0,σ.hp[i]? =some (some k0)∧mS (tQ b) (some k0)=some (some k2)):=by
   intro i k2 hi
   rw[fY] at hi
   split at hi
   ·grind
   ·rename_i hne
    obtain⟨k0,e1,e2⟩:=nP h3 hi
    grind
  have any:∀(i:Nat)(k2:aX),(hp'.set b (some k'))[i]? =some (some k2)→∃k0,σ.hp[i]? =some (some k0):=by
   grind
  refine⟨⟨?_,?_,⟨?_,?_,?_,hg.hw.slt,hg.hw.gl,?_⟩,apx.RD h4 hg.df⟩,⟨rfl,Tp.r rfl rfl,rfl,cV _,fun _ _ _=>rfl,fun _ h=>h,fun _ h=>Or.inl h,?_,fun i hi=>⟨rfl,Env.Gk (by omega),rfl⟩⟩⟩
  ·simp only[nN];exact hg.len
  ·intro i y hy v hv
   rcases nO hy with e|⟨x,e1,e2,e3⟩
   ·subst e;trivial
   ·exact RV.gZ (apx.RV e3 (RV.mN e2 (hg.tm i x e1 v hv)))
  ·intro i k2 hi
   rcases src i k2 hi with⟨e,e'⟩|⟨e1,k0,e3,e4⟩
   ·grind
   ·exact apx.RB (fun _ h=>h) (b:=i) (b':=i) rfl (Env.Gk e1) rfl (fun _ _ h=>h) e4 (hg.hw.eJ i k0 e3)
  ·intro i j k2 k3 g hi hj g1 g2
   obtain⟨k4,e1⟩:=any i k2 hi
   obtain⟨k5,e2⟩:=any j k3 hj
   exact hg.hw.gY i j k4 k5 g e1 e2 g1 g2
  ·intro i k2 g hi hgi hs
   obtain⟨k4,e1⟩:=any i k2 hi
   exact hg.hw.fZ i k4 g e1 hgi hs
  ·intro i k2 g hi hgi
   obtain⟨k4,e1⟩:=any i k2 hi
   exact hg.hw.xi i k4 g e1 hgi
  ·rintro g ⟨i,k2,hi,hgi⟩
   obtain⟨k4,e1⟩:=any i k2 hi
   exact Or.inl ⟨i,k4,e1,hgi⟩
 grind
def uy(b:Nat)(σ:St):Option St:=
 match iS σ.hp b with
 |
  some (.pmap k t es e2 (some (kx,v,pr)))=>if Nat.ble 16 b&&k.keyed&&Mt b v then(match St.kj (tQ b) {σ with hp:=σ.hp.set b none} with
  |some σ1=>some {σ1 with hp:=σ1.hp.set b (some (.j8 k t es e2 kx v pr))}
  |none=>none) else none
 |_=>none
def sy(b:Nat)(σ:St):Option St:=
 match iS σ.hp b with
 |some (.j8 k t es e2 kx v pr)=>some {σ with hp:=σ.hp.set b (some (.pmap k t es e2 (some (kx,v,pr))))}
 |_=>none
theorem PM.rs{E:Env}{w:World}{b:Nat}{u:Value}{kt t:Ty}{es:List (kt.den×t.den)}{e2:TypeId}{kx:kt.den}{v:AV}{pr:Bool}(hn:Mt b v=true)(h:PM E w b kt t es e2 (some (kx,v,pr))):PM (E.rs b u) w b kt t es e2 (some (kx,v,pr)):=by
 obtain⟨h1,h2,h3,g,en,clock,og,q1,q2,q3,q4,q5,q6,q7,q8⟩:=h
 refine⟨h1,h2,h3,g,en,clock,og,q1,q2,q3,q4,q5,q6,fun i x hx=>?_,fun kx' v'=>⟨fun hf hnn=>?_,(q8 kx' v').2⟩⟩
 ·obtain⟨m,r1,r2,r3,r4⟩:=q7 i x hx
  refine⟨m,r1,ew.mono (E:=E) (E':=E.rs b u) ⟨fun _ _=>rfl,fun _ h=>h⟩ (fun _ hb=>by cases hb) r2,fun v' pr' hv'=>?_,fun hv'=>r4 hv'⟩
  grind [OZ]
 grind [OZ]
theorem Wk.uy{gl:Ctx}{b:Nat}{σ σ':St}(h:Ax.uy b σ=some σ'):Wk gl σ σ':=by
 intro E a w hg
 unfold Ax.uy at h
 split at h
 case h_2=>cases h
 rename_i k t es e2 kx v pr hb0
 have hb:=dU σ.hp b _ hb0
 split at h
 case isFalse=>cases h
 rename_i hc
 simp only[bP] at hc
 obtain⟨⟨c1,c2⟩,c3⟩:=hc
 split at h
 case h_2=>cases h
 rename_i σ1 hm
 cases h
 have hpm:PM E w b k t es e2 (some (kx,v,pr)):=hg.hw.eJ b _ hb
 have hpm':=hpm
 obtain⟨z1,z2,z3,g,en,clock,og,y1,y2,y3,y4,y5,y6,y7,y8⟩:=hpm'
 have key:∃n:Nat,(kx∉es.map (·.1)→n=clock)∧∀(i:Nat)(m:MapEntry)(y:t.den),es[i]? =some (kx,y)→en[i]? =some m→m.born=n:=by
  by_cases hin:kx∈es.map (·.1)
  ·obtain⟨⟨zk,zy⟩,hz,ez⟩:=List.mem_map.1 hin
   simp only at ez;subst ez
   obtain⟨i,s1⟩:=List.getElem?_of_mem hz
   obtain⟨m,s2,_⟩:=y7 i _ s1
   refine⟨m.born,fun hh=>absurd hin hh,fun j m' y hj hm'=>?_⟩
   grind [D8]
  ·refine⟨clock,fun _=>rfl,fun j m' y hj _=>?_⟩<;>grind
 obtain⟨n,k1,k2⟩:=key
 refine⟨_,hg.rs (ty:=.int .i64 n) hb (jt c1) hm ⟨hpm.rs c3,n,g,en,clock,by simp[Env.rs],y1,y2,k1,k2⟩⟩
theorem Wk.sy{gl:Ctx}{b:Nat}{σ σ':St}(h:Ax.sy b σ=some σ'):Wk gl σ σ':=by
 intro E a w hg
 unfold Ax.sy at h
 split at h
 ·rename_i k t es e2 kx v pr hb0
  have hb:=dU σ.hp b _ hb0
  cases h
  obtain⟨hpm,_⟩:=hg.hw.eJ b _ hb
  have hw:=hg.hw.write (w':=w) (k':=.pmap k t es e2 (some (kx,v,pr))) hb rfl (fun _ _=>rfl) hpm
  exact⟨E,hg.carry ⟨fun _ _=>rfl,fun _ h=>h⟩ (fun _ _=>⟨rfl,rfl,rfl⟩) hw,{Ext.refl (md:=gl.md) (cU σ.hp E) E w with own:=fun g hg'=>Or.inl (cU.set hb hg')}⟩
 grind
end Go.Ax
