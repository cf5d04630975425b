/- The machines: what it means to be walked or run, part 2. No condition. -/
import Derived.Test.YtgdcjlldafmomaaGreatA1
import Derived.Laws.MakeOwn
import Derived.Laws.IdiomStrings
import Derived.Laws.Slices
import Derived.Laws.StructEq
import Derived.ChangeKeysEq
import Derived.RangeFuncRecord
namespace Go.Ax
structure fj where
 v:AV
 hw:List (Nat×Option aN)
 fr:List Nat
 vc:List VC
def fj.one(v:AV):fj:=⟨v,[],[],[]⟩
def fj.Gw(x:AV×List VC):fj:=⟨x.1,[],[],x.2⟩
def MB(op:UnOp):AV→Option AV
 |
  .val .bool b=>match op with
  | .not=>some (.val .bool (!b))
  |_=>none
 |
  .val (.int k) n=>match op with
  | .neg=>some (.val (.int k) (k.wrap (0 -n)))
  | .xor=>some (.val (.int k) (fC .xor k (if k.signed then-1 else k.max) n))
  |_=>none
 |_=>none
def BE(G:bT)(s d:TypeId)(x:AV):Option AV:=
 match x,G.at s,G.at d with
 |
  .val (.int _) n,some _,some td=>match td.ty with
  | .int k=>some (.val (.int k) (k.wrap n))
  |_=>none
 |_,_,_=>none
def AV.nth:AV→Nat→Option AV
 | .cons a _,0=>some a
 | .cons _ b,n+1=>b.nth n
 |_,_=>none
def AV.JX:AV→Bool
 | .bot| .opt _ _=>false
 |_=>true
def BF(P:Program)(G:bT)(d:Nat)(op:Op)(ev:Operand→AV)(hb:Nat→Option aN):Option fj:=
 match op with
 | .move x| .assign x=>if(ev x).JX then some (.one (ev x)) else none
 | .alloc e=>(G.at e).map fun td=>⟨.ptr d [],[(d,some (.var td.ty td.ty.zero))],[d],[]⟩
 |
  .box e x=>match G.at e with
  |some td=>if(ev x).plain&&(ev x).bW td.ty then some ⟨.ptr d [],[(d,some (.var td.ty (ev x)))],[d],[]⟩ else none
  |none=>none
 | .load t a=>(sW G hb t (ev a)).map .one
 | .store t a x=>if(ev x).plain then(wJ G hb t (ev a) (ev x)).map fun y=>⟨.bot,[(y.1,some y.2)],[],[]⟩ else none
 |
  .nilCheck x=>match ev x with
  | .ptr b p=>some (.one (.ptr b p))
  | .bN t y=>some (.one (.bN t y))
  |_=>none
 | .binOp o t x y _=>(yC P t o (ev x) (ev y)).map .Gw
 | .unOp o _ x=>(MB o (ev x)).map .one
 | .convert s t x=>(BE G s t (ev x)).map .one
 | .fieldAddr t x i=>(gH G hb t i (ev x)).map .one
 | .indexAddr t x i=>(j5 G hb t (ev x) (ev i)).map .Gw
 |
  .extract x i=>match ev x with
  | .gC l=>(l.nth i).map .one
  |_=>none
 |
  .pick c x y=>match ev c with
  | .val .bool true=>if(ev x).plain then some (.one (ev x)) else none
  | .val .bool false=>if(ev y).plain then some (.one (ev y)) else none
  |_=>none
 | .call {callee:=.builtin .len,args:=⟨[x]⟩,argTypes:=⟨[t]⟩}=>(EK G hb t (ev x)).map .one
 |_=>none
def qZ(op:Op)(ev:Operand→AV):List Nat:=
 match op with
 | .load _ a| .store _ a _| .fieldAddr _ a _| .indexAddr _ a _| .slice _ a _ _ _| .convert _ _ a| .lookup _ a _ _| .mapUpdate _ a _ _| .insert _ a _ _| .mapEntry _ a _| .entryStore _ a _ _| .entry a=>(ev a).ids
 | .call c=>c.operands.toList.flatMap fun x=>(ev x).ids
 |_=>[]
def bX(P:Program)(gl:Ctx)(σ:St)(E:Env)(a:Act)(w:World)(o:Oper)(r:fj):Prop:=
 ∃nx v w' E',(execOp a.eval o).run P w= .ok nx w'∧(nx= .value v∨(nx= .skip∧v=undef))∧cd gl {σ with hp:=aO σ.hp r.hw} E' a w'∧RV E' w' r.v v∧
  Ext gl.md (Own σ.hp E) E w (Own (aO σ.hp r.hw) E') E' w'
theorem bX.same{P:Program}{gl:Ctx}{σ:St}{E:Env}{a:Act}{w:World}{o:Oper}{x:AV}{vc:List VC}(h:cd gl σ E a w){v:Value}(hr:(execOp a.eval o).run P w= .ok (.value v) w)(hv:RV E w x v):bX P gl σ E a w o ⟨x,[],[],vc⟩:=
 ⟨_,v,w,E,hr,Or.inl rfl,h,hv,Ext.refl _ _ _⟩
theorem JY{P:Program}{E:Env}{w:World}{op:UnOp}{x r:AV}{vx:Value}(hx:RV E w x vx)(h:MB op x=some r):∃v,(Op.unary op vx).run P w= .ok v w∧RV E w r v:=by
 unfold MB at h
 split at h
 ·have:=RV.dU hx;subst this
  split at h<;>cases h
  exact⟨_,by simp[Op.unary],RV.bool⟩
 ·obtain⟨rfl,_⟩:=RV.dh hx
  split at h<;>cases h
  ·exact⟨_,by simp[Op.unary,Op.intArith],RV.int (dz _ _)⟩
  ·exact⟨_,by simp[Op.unary,Op.intBits];rfl,RV.int (dz _ _)⟩
 ·cases h
theorem bB.intOf{P:Program}{G:bT}(T:bB P G){t:TypeId}{td:TD}(h:G.at t=some td){k:IntKind}(hs:td.ty= .int k):P.underlying t=some (.int k):=by
 obtain⟨ii,d,_,h1,_,h2,_⟩:=T.info h
 have abJ:=dm h2
 rw[h1]
 cases hd:d with
 |int k'=>subst hd;simp only[cj] at h2;have:=Ty.aB h2;rw[hs] at this;cases this;rfl
 |struct fs=>subst hd;simp only[dt] at abJ;rw[hs] at abJ;cases abJ
 |array n e=>subst hd;simp only[dt] at abJ;rw[hs] at abJ;cases abJ
 |
  slice e=>
  subst hd
  simp only[cj] at h2
  rw[ek] at h2
  rcases h2 with h2|h2
  ·have:=Ty.aB h2;rw[hs] at this;cases this
  simp only[aV] at h2
  obtain⟨_,h2⟩:=h2
  split at h2
  ·rename_i e1 _ _;rw[hs] at e1;cases e1
  ·cases h2
 |map k e=>subst hd;have:=(jc h2).1;rw[hs] at this;cases this
 |
  _=>
  subst hd
  simp only[cj] at h2
  first
   |(have:=Ty.aB h2;rw[hs] at this;cases this)
   |cases h2
theorem DV{P:Program}{G:bT}(T:bB P G){E:Env}{w:World}{s d:TypeId}{x r:AV}{vx:Value}(hx:RV E w x vx)(h:BE G s d x=some r):∃v,(convert s d vx).run P w= .ok v w∧RV E w r v:=by
 unfold BE at h
 split at h
 ·rename_i k n ts td hs hd
  split at h
  ·rename_i k' hk
   cases h
   obtain⟨rfl,_⟩:=RV.dh hx
   obtain⟨_,ds,_,h1,_⟩:=T.info hs
   have h2:=T.intOf hd hk
   exact⟨_,by simp[convert,underlying,h1,h2,Conv.intToInt],RV.int (dz _ _)⟩
  ·cases h
 ·cases h
theorem RT.nth{E:Env}{w:World}:∀{l:AV}{vs:List Value}{i:Nat}{x:AV},RT E w l vs→l.nth i=some x→∃v,vs[i]? =some v∧cF E w x v:=by
 intro l
 induction l with
 |
  cons a b ih1 ih2=>
  intro vs i x h hn
  cases vs with
  |nil=>exact h.elim
  |
   cons v vs=>
   cases i with
   |zero=>cases hn;exact⟨v,rfl,h.1⟩
   |succ i=>obtain⟨u,h1,h2⟩:=ih2 h.2 hn;exact⟨u,by simpa using h1,h2⟩
 |_=>intro vs i x h hn;simp[AV.nth] at hn
theorem uH{P:Program}{E:Env}{w:World}{op:BinOp}{t:TypeId}{x y:Operand}{vx vy:Value}{ax ay r:AV}{vc:List VC}(hx:RV E w ax vx)(hy:RV E w ay vy)(h:yC P t op ax ay=some (r,vc)):(eqGuard op t x y vx vy).run P w= .ok () w:=by
 unfold yC at h
 split at h
 ·obtain⟨rfl,_⟩:=RV.dh hx
  obtain⟨rfl,_⟩:=RV.dh hy
  unfold eqGuard;split<;>simp
 ·have:=RV.dU hx;subst this
  have:=RV.dU hy;subst this
  unfold eqGuard;split<;>simp
 ·obtain⟨rfl,_⟩:=RV.gu hx
  obtain⟨rfl,_⟩:=RV.gu hy
  unfold eqGuard;split<;>simp
 ·cases h
theorem Gk{P:Program}{G:bT}(T:bB P G){gl:Ctx}{σ:St}{E:Env}{a:Act}{w:World}(h:cd gl σ E a w){o:Oper}{d:Nat}{ev:Operand→AV}{hb:Nat→Option aN}(hB:HB hb σ.hp){r:fj}
 (hev:∀x∈o.op.operands.toList,RV E w (ev x) (a.eval x)) (ack:∀x∈o.op.operands.toList,∀b∈(ev x).ids,b∈σ.ids) (he:BF P G d o.op ev hb=some r) (hvc:dH r.vc) (hfr:∀b∈r.fr,σ.fresh b):bX P gl σ E a w o r:=by
 unfold BF at he
 split at he
 ·rename_i x hop
  split at he
  ·rename_i hp
   cases he
   exact bX.same h (v:=a.eval x) (by simp[execOp,hop]) (hev x (by simp[hop,Op.operands]))
  ·cases he
 ·rename_i x hop
  split at he
  ·rename_i hp
   cases he
   exact bX.same h (v:=a.eval x) (by simp[execOp,hop]) (hev x (by simp[hop,Op.operands]))
  ·cases he
 ·rename_i e hop
  obtain⟨td,htd,rfl⟩:=Option.map_eq_some_iff.1 he
  obtain⟨v,w',E',h1,h2,h3,h4⟩:=Dv T h (hfr d (by simp)) htd (.tuple #[])
  exact⟨_,v,w',E',by simp[execOp,hop,h1],Or.inl rfl,h2,h3,h4⟩
 ·rename_i e x hop
  split at he
  ·rename_i td htd
   split at he
   ·rename_i hc
    cases he
    simp only[aV] at hc
    have hf:=hfr d (by simp)
    obtain⟨v,w',E',h1,h2,h3,h4⟩:=HH (P:=P) (e:=e) h hf (RV.js hc.1 (hev x (by simp[hop,Op.operands]))) hc.2 (fun hm=>hf.1 (ack x (by simp[hop,Op.operands]) d hm))
    exact⟨_,v,w',E',by simp[execOp,hop,h1],Or.inl rfl,h2,h3,h4⟩
   ·cases he
  ·cases he
 ·rename_i t x hop
  obtain⟨u,hu,rfl⟩:=Option.map_eq_some_iff.1 he
  obtain⟨v,h1,h2⟩:=pY T h.hw hB (hev x (by simp[hop,Op.operands])) hu
  exact bX.same h (v:=v) (by simp[execOp,hop,h1]) h2
 ·rename_i t x y hop
  split at he
  ·rename_i hp
   obtain⟨⟨b,k⟩,hk,rfl⟩:=Option.map_eq_some_iff.1 he
   obtain⟨w',h1,h2,h3⟩:=yG T h hB (hev x (by simp[hop,Op.operands])) (RV.js hp (hev y (by simp[hop,Op.operands]))) hk
   exact⟨_,undef,w',E,by simp[execOp,hop,h1],Or.inr ⟨rfl,rfl⟩,h2,trivial,h3⟩
  ·cases he
 ·rename_i x hop
  split at he
  ·rename_i b p hx
   cases he
   have hr:=hev x (by simp[hop,Op.operands])
   rw[hx] at hr
   obtain⟨g,hg,e,_⟩:=RV.atom rfl hr
   simp at e
   exact bX.same h (v:=a.eval x) (by simp[execOp,hop,e]) hr
  ·rename_i t y hx
   cases he
   have hr:=hev x (by simp[hop,Op.operands])
   rw[hx] at hr
   obtain⟨b,o',cs,e,_⟩:=RV.atom rfl hr
   simp at e
   exact bX.same h (v:=a.eval x) (by simp[execOp,hop,e]) hr
  ·cases he
 ·rename_i bo t x y t2 hop
  obtain⟨⟨u,vc⟩,hu,rfl⟩:=Option.map_eq_some_iff.1 he
  obtain⟨v,h1,h2⟩:=EI (P:=P) (t:=t) (hev x (by simp[hop,Op.operands])) (hev y (by simp[hop,Op.operands])) hu hvc
  have hgd:=uH (P:=P) (t:=t) (x:=x) (y:=y) (hev x (by simp[hop,Op.operands])) (hev y (by simp[hop,Op.operands])) hu
  exact bX.same h (v:=v) (by simp[execOp,hop,hgd,h1]) h2
 ·rename_i uo t x hop
  obtain⟨u,hu,rfl⟩:=Option.map_eq_some_iff.1 he
  obtain⟨v,h1,h2⟩:=JY (P:=P) (hev x (by simp[hop,Op.operands])) hu
  exact bX.same h (v:=v) (by simp[execOp,hop,h1]) h2
 ·rename_i s t x hop
  obtain⟨u,hu,rfl⟩:=Option.map_eq_some_iff.1 he
  obtain⟨v,h1,h2⟩:=DV T (hev x (by simp[hop,Op.operands])) hu
  exact bX.same h (v:=v) (by simp[execOp,hop,h1]) h2
 ·rename_i t x i hop
  obtain⟨u,hu,rfl⟩:=Option.map_eq_some_iff.1 he
  obtain⟨v,h1,h2⟩:=mc T h.hw hB (hev x (by simp[hop,Op.operands])) hu
  exact bX.same h (v:=v) (by simp[execOp,hop,h1]) h2
 ·rename_i t x i hop
  obtain⟨⟨u,vc⟩,hu,rfl⟩:=Option.map_eq_some_iff.1 he
  obtain⟨v,h1,h2⟩:=sY T h.hw hB (hev x (by simp[hop,Op.operands])) (hev i (by simp[hop,Op.operands])) hu hvc
  exact bX.same h (v:=v) (by simp[execOp,hop,h1]) h2
 ·rename_i x i hop
  split at he
  ·rename_i l hx
   obtain⟨u,hu,rfl⟩:=Option.map_eq_some_iff.1 he
   have hr:=hev x (by simp[hop,Op.operands])
   rw[hx] at hr
   obtain⟨vs,e,hr⟩:=hr
   obtain⟨v,h1,h2⟩:=RT.nth hr hu
   exact bX.same h (v:=v) (by simp[execOp,hop,Instr.extract,e];rw[show vs[i]? =some v from by simpa using h1];simp) (RV.dO h2)
  ·cases he
 ·rename_i c x y hop
  split at he
  ·rename_i hc
   split at he
   ·cases he
    have hr:=hev c (by simp[hop,Op.operands])
    rw[hc] at hr
    have hb:=RV.dU hr
    exact bX.same h (v:=a.eval x) (by simp[execOp,hop,hb,asBool]) (hev x (by simp[hop,Op.operands]))
   ·cases he
  ·rename_i hc
   split at he
   ·cases he
    have hr:=hev c (by simp[hop,Op.operands])
    rw[hc] at hr
    have hb:=RV.dU hr
    exact bX.same h (v:=a.eval y) (by simp[execOp,hop,hb,asBool]) (hev y (by simp[hop,Op.operands]))
   ·cases he
  ·cases he
 ·rename_i x t hop
  obtain⟨u,hu,rfl⟩:=Option.map_eq_some_iff.1 he
  obtain⟨v,h1,h2⟩:=EL T (ty:=o.type) h.hw hB (hev x (by simp[hop,Op.operands,Call.operands])) hu
  refine bX.same h (v:=v) ?_ h2
  simp[execOp,hop,resolve,invoke,builtin,h1]
 ·cases he
def tL(P:Program)(gl:Ctx)(σ:St)(E:Env)(a:Act)(w:World)(o:Oper)(r:fj):Prop:=
 ∀(K:Act→World→Prop)(Q:Exit→Act→World→Prop),(∀E' v w',cd gl {σ with hp:=aO σ.hp r.hw} E' a w'→RV E' w' r.v v→Ext gl.md (Own σ.hp E) E w (Own (aO σ.hp r.hw) E') E' w'→K (a.put o.dst v) w')→o.wpIn (Wd gl) 0 P a w K Q
theorem bX.to{P:Program}{gl:Ctx}{σ:St}{E:Env}{a:Act}{w:World}{o:Oper}{r:fj}(h:bX P gl σ E a w o r)(hnd:∀c,o.op≠.defer c):tL P gl σ E a w o r:=by
 intro K Q hk
 obtain⟨nx,v,w',E',h1,h2,h3,h4,h5⟩:=h
 unfold Oper.wpIn
 refine⟨fun _ _=>trivial,?_⟩
 rw[Oper.semAt_eq _ _ _ hnd,h1]
 rcases h2 with h2|⟨h2,h2'⟩
 ·subst h2;exact hk E' v w' h3 h4 h5
 ·subst h2;subst h2';exact hk E' undef w' h3 h4 h5
def kN(E:Env)(w:World):List AV→List Value→Prop
 |[],[]=>True
 |x::xs,v::vs=>RV E w x v∧kN E w xs vs
 |_,_=>False
inductive uf where
 |ret (x:AV)
 |kr (x:AV)
def uI(E:Env)(w:World):uf→Ending→Prop
 | .ret x,.returned v=>RV E w x v
 | .kr x,.panicked chain=>∃u,chain= [{v:=u,recovered:=false}]∧cF E w x u
 |_,_=>False
def rj(P:Program)(gl:Ctx)(f:FuncId)(args:List AV)(H:List (Option aN))(r:uf)(H':List (Option aN)):Prop:=
 ∀E w vs,kN E w args vs→HW gl E w H→Calls P f vs.toArray w (fun e w'=>∃E',uI E' w' r e∧HW gl E' w' H'∧Ext gl.md (Own H E) E w (Own H' E') E' w')
theorem kN.get{E:Env}{w:World}:∀{xs:List AV}{vs:List Value},kN E w xs vs→xs.length=vs.length∧∀(i:Nat)(x:AV)(v:Value),xs[i]? =some x→vs[i]? =some v→RV E w x v
 |[],[],_=>⟨rfl,fun i x v h=>by simp at h⟩
 |[],_::_,h=>h.elim
 |_::_,[],h=>h.elim
 |
  x::xs,v::vs,⟨h1,h2⟩=>by
  obtain⟨e,hh⟩:=kN.get h2
  refine⟨by simp[e],?_⟩
  intro i y u hy hu
  cases i with
  |zero=>simp at hy hu;subst hy;subst hu;exact h1
  |succ i=>exact hh i y u (by simpa using hy) (by simpa using hu)
def Fc(P:Program)(gl:Ctx)(f:FuncId)(args:List AV)(H:List (Option aN))(r:uf)(H':List (Option aN)):Prop:=
 (∀vs w,(callFunc f vs).run P w= .ok (.enter f vs) w)∧rj P gl f args H r H'
def Fy(P:Program)(gl:Ctx)(l:Nat)(args:List AV)(H:List (Option aN))(r:uf)(H':List (Option aN)):Prop:=
 ∀E w vs,kN E w args vs→HW gl E w H→∃fn tmps assign body,(Instr.yield l vs.toArray).run P w= .ok (.round l fn tmps assign body) w∧
  RoundIn Fence.wide 0 P l fn tmps assign body w (fun e w'=>∃E',uI E' w' r e∧HW gl E' w' H'∧Ext gl.md (Own H E) E w (Own H' E') E' w')
def Eo(P:Program)(gl:Ctx)(fn:Fn)(args:List AV)(H:List (Option aN))(r:uf)(H':List (Option aN)):Prop:=
 match fn with
 | .func f=>Fc P gl f args H r H'
 | .yield l=>Fy P gl l args H r H'
 |_=>False
def MC:Fn→AV→AV→Bool
 | .func _,_,_=>true
 | .yield _,.nil,.nil=>true
 |_,_,_=>false
def AV.toList:AV→List AV
 | .cons a b=>a::b.toList
 |_=>[]
def fk(hb:Nat→Option aN)(b:Nat):Option ((_:Nat)×(t:Ty)×List t.den):=
 match hb b with
 |some (.row _ bs t xs)=>some ⟨bs,t,xs⟩
 |_=>none
def view(hb:Nat→Option aN):AV→Bool→Ty→Option (AV×List Nat)
 | .val t x,_,_=>some (.val t x,[])
 | .bA,_,.slice bs t=>some (.val (.slice bs t) [],[])
 |
  .own b,_,_=>match fk hb b with
  |some ⟨bs,t,xs⟩=>some (.val (.slice bs t) xs,[b])
  |none=>none
 |
  .jR b lo len,_,_=>match fk hb b with
  |some ⟨bs,t,xs⟩=>some (.val (.slice bs t) ((xs.drop lo).take len),[b])
  |none=>none
 |
  .jb b p lo len,_,.slice bs _=>match hb b with
  |
   some (.var _ v)=>match v.get p with
   |some (.val (.arr n t) xs)=>if Nat.ble (n*bs) aE&&Nat.ble n aE then some (.val (.slice bs t) ((List.drop lo xs).take len),[b]) else none
   |_=>none
  |_=>none
 |
  .ptr b p,_,_=>match hb b with
  |
   some k=>match kC k p,(iP k).sub p with
   |
    some u,some s=>match u.bL s with
    |some y=>some (.bN s y,[b])
    |none=>none
   |_,_=>none
  |none=>none
 | .bN t x,_,_=>some (.bN t x,[])
 |
  .mp b,_,_=>match hb b with
  |some (.map k v es)=>some (.val (.map k v) (some es),[b])
  |_=>none
 |
  .func fn fs cs,_,_=>match view hb fs true .unit,view hb cs true .unit with
  |some (f,l),some (c,m)=>if f.atoms&&c.atoms then some (.func fn f c,l++m) else none
  |_,_=>none
 |
  .cons a b,true,_=>match view hb a false .unit,view hb b true .unit with
  |some (x,l),some (y,m)=>some (.cons x y,l++m)
  |_,_=>none
 |
  .cons a b,false,.pair s t=>match view hb a false s,view hb b false t with
  |some (.val s' x,l),some (.val t' y,m)=>some (.val (.pair s' t') (x,y),l++m)
  |_,_=>none
 | .nil,true,_=>some (.nil,[])
 | .nil,false,_=>some (.val .unit (),[])
 | .gB,_,_=>some (.gB,[])
 | .fy,_,_=>some (.fy,[])
 | .dc f t x,_,_=>some (.dc f t x,[])
 |_,_,_=>none
def Env.cU(E:Env)(l:List Nat):Env:={E with S:=fun g=>E.S g∨∃b∈l,E.g b=some g}
theorem Env.dC{E:Env}{w:World}(l:List Nat):bM E w (E.cU l) w:=⟨fun _ _=>rfl,fun _ h=>Or.inl h⟩
theorem Env.iC{E:Env}{w:World}{l m:List Nat}(h:∀b∈l,b∈m):bM (E.cU l) w (E.cU m) w:=
 ⟨fun _ _=>rfl,fun _g hg=>hg.imp id (fun⟨b,hb,e⟩=>⟨b,h b hb,e⟩)⟩
theorem ot.take{w:World}{a:Addr}{cs:List Value}(h:ot w a cs)(n:Nat):ot w a (cs.take n):=by
 intro j v hj
 rw[oN] at hj
 split at hj
 ·exact h j v hj
 ·cases hj
theorem aT.drop{α:Type}{r:List Value→α→Prop}{n:Nat}(hn:∀vs x,r vs x→vs.length=n):∀{xs:List α}{vs:List Value}(k:Nat),aT r vs xs→aT r (vs.drop (k*n)) (xs.drop k)
 |xs,vs,0,h=>by simpa using h
 |[],vs,k+1,h=>by simp[aT] at h;subst h;simp[aT]
 |
  x::xs,vs,k+1,⟨v1,v2,e,h1,h2⟩=>by
  subst e
  have:=aT.drop hn k h2
  rw[List.drop_succ_cons,List.drop_append,ma (by rw[hn _ _ h1,cM];omega),gO,hn _ _ h1]
  rw[show(k+1)*n -n=k*n from by rw[cM];omega]
  exact this
theorem aT.take{α:Type}{r:List Value→α→Prop}{n:Nat}(hn:∀vs x,r vs x→vs.length=n):∀{xs:List α}{vs:List Value}(k:Nat),aT r vs xs→aT r (vs.take (k*n)) (xs.take k)
 |xs,vs,0,h=>by simp[aT]
 |[],vs,k+1,h=>by simp[aT] at h;subst h;simp[aT]
 |
  x::xs,vs,k+1,⟨v1,v2,e,h1,h2⟩=>by
  subst e
  have:=aT.take hn k h2
  rw[List.take_succ_cons]
  refine⟨v1,v2.take (k*n),?_,h1,this⟩
  rw[List.take_append,fb (by rw[hn _ _ h1,cM];omega),hn _ _ h1]
  congr 2
  rw[cM];omega
theorem aT.part{w:World}{S:Nat→Prop}{t:Ty}{xs:List t.den}{g o:Nat}{cs:List Value}(hr:ot w ⟨g,o,none⟩ cs)(h:aT (Rel w S t) cs xs)(lo len:Nat):
 ∃cs',ot w ⟨g,o+lo*t.size,none⟩ cs'∧aT (Rel w S t) cs' ((xs.drop lo).take len):=
 ⟨_,hr.sub (lo*t.size) (len*t.size),aT.take (fun _ _ h=>Rel.len h) len (aT.drop (fun _ _ h=>Rel.len h) lo h)⟩
end Go.Ax
namespace Go.Ax
theorem jn{hb:Nat→Option aN}{b bs:Nat}{t:Ty}{xs:List t.den}(h:fk hb b=some ⟨bs,t,xs⟩):∃e,hb b=some (.row e bs t xs):=by
 unfold fk at h
 split at h
 ·rename_i e bs' t' xs' hk
  cases h
  exact⟨e,hk⟩
 ·cases h
theorem lu{gl:Ctx}{E:Env}{w:World}{hp:List (Option aN)}(hw:HW gl E w hp){hb:Nat→Option aN}(hB:HB hb hp):∀{x:AV}{m:Bool}{t:Ty}{y:AV}{l:List Nat}{vs:List Value},view hb x m t=some (y,l)→RC E w x vs→RC (E.cU l) w y vs:=by
 intro x
 induction x with
 |val t x=>intro m u y l vs h hr;simp only[view,cE,ff] at h;obtain⟨rfl,rfl⟩:=h;exact RC.mono (Env.dC []) (fun b hb=>by cases hb) (a:=.val t x) hr
 |
  bA=>
  intro m u y l vs h hr
  cases u with
  |
   slice bs t=>
   cases m<;>(simp only[view,cE,ff] at h;obtain⟨rfl,rfl⟩:=h;exact⟨none,0,by simpa[RC] using hr,cq _,by simp,by simp,Or.inl rfl⟩)
  |_=>cases m<;>simp[view] at h
 |
  own b=>
  intro m u y l vs h hr
  have h':(match fk hb b with|some ⟨bs,t,xs⟩=>some (AV.val (.slice bs t) xs,[b])|none=>none)=some (y,l):=by cases m<;>cases u<;>exact h
  split at h'
  ·rename_i bs t xs hv
   cases h'
   obtain⟨e,hk⟩:=jn hv
   obtain⟨h1,h2,h3,h4,a,cap,h5,h6,h7⟩:=hw.cH b _ (hB b _ hk)
   obtain⟨hr,_⟩:=hr
   rw[h5] at hr
   rcases h7 with⟨h7,h8,h9⟩|⟨g,c,h7,h8,h9,h10,h11,h12⟩
   ·subst h9;obtain⟨rfl,rfl⟩:=h7
    exact⟨none,0,hr,by simp,h2,h3,Or.inl rfl⟩
   ·refine⟨a,cap,hr,h11,h2,h3,Or.inr ⟨g,0,_,h8,Or.inr ⟨b,by simp,h7⟩,?_,aT.mono (fun _ _ h=>Rel.mono (Env.dC [b]).w (Env.dC [b] (w:=w)).S h) h12⟩⟩
    have:=ot.of_heap h9 0 (xs.length*t.size)
    simpa using this
  ·cases h'
 |
  jR b lo len=>
  intro m u y l vs h hr
  have h':(match fk hb b with|some ⟨bs,t,xs⟩=>some (AV.val (.slice bs t) ((xs.drop lo).take len),[b])|none=>none)=some (y,l):=by cases m<;>cases u<;>exact h
  split at h'
  ·rename_i bs t xs hv
   cases h'
   obtain⟨e,hk⟩:=jn hv
   obtain⟨h1,h2,h3,h4,a,cap,h5,h6,h7⟩:=hw.cH b _ (hB b _ hk)
   obtain⟨a',c',n,tt,r1,r2,r3,r4,a2,r5,r6⟩:=hr
   rw[h1] at r1;cases r1
   rw[h5] at r2;cases r2
   have hlen:((xs.drop lo).take len).length=len:=by simp;omega
   have hb1:len*bs≤aE:=da (fv _ (by omega)) h2
   refine⟨_,_,by rw[hlen];exact r5,by rw[hlen];omega,by rw[hlen];exact hb1,by rw[hlen];omega,?_⟩
   rcases mb len with hz|hz
   ·subst hz;exact Or.inl (by simp)
   ·rcases h7 with⟨h7,h8,h9⟩|⟨g,c,h7,h8,h9,h10,h11,h12⟩
    ·subst h9;simp at r3;omega
    ·subst h8
     have hr0:=ot.of_heap h9 0 (xs.length*t.size)
     simp only[eS] at hr0
     obtain⟨cs',q1,q2⟩:=aT.part hr0 h12 lo len
     refine Or.inr ⟨g,0+lo*t.size,cs',?_,Or.inr ⟨b,by simp,h7⟩,q1,aT.mono (fun _ _ h=>Rel.mono (Env.dC [b]).w (Env.dC [b] (w:=w)).S h) q2⟩
     rcases r6 with r6|r6
     ·omega
     ·rw[r6]
      simp only[Option.map_some,cE]
      unfold Addr.add;split<;>simp_all
  ·cases h'
 |
  jb b p lo len=>
  intro m u y l vs h hr
  cases u with
  |
   slice bs u=>
   have h':(match hb b with
    |
     some (.var _ v)=>match v.get p with
     |some (.val (.arr n t) xs)=>if Nat.ble (n*bs) aE&&Nat.ble n aE then some (AV.val (.slice bs t) ((List.drop lo xs).take len),[b]) else none
     |_=>none
    |_=>none)=some (y,l):=by cases m<;>exact h
   split at h'
   ·rename_i tt v hk
    split at h'
    ·rename_i n t xs hv
     split at h'
     ·rename_i hc
      cases h'
      simp only[aV] at hc
      have hc1:=fc hc.1
      have hc2:=fc hc.2
      obtain⟨n2,t2,r1,r2,r3,a,cap,e,r4,r5⟩:=hr
      have hkb:=hw.cH b _ (hB b _ hk)
      obtain⟨g,s,cs,q1,q2,q3,q4,q5⟩:=oP hkb r2 (u:=.val (.arr n t) xs) hv
      rw[r1] at q2;cases q2
      have:=Ty.aB (by simpa[AV.bW] using q3)
      cases this
      obtain⟨q5a,q5b⟩:=q5
      have hlen:((List.drop lo xs).take len).length=len:=by simp;omega
      have hb1:len*bs≤aE:=da (fv _ (by omega)) hc1
      refine⟨a,cap,by rw[hlen];exact e,by rw[hlen];exact r4,by rw[hlen];exact hb1,by rw[hlen];omega,?_⟩
      rcases r5 with r5|⟨g',r5,r6⟩
      ·subst r5;exact Or.inl (by simp)
      ·rw[q1] at r5;cases r5
       obtain⟨cs',z1,z2⟩:=aT.part q4 q5b lo len
       exact Or.inr ⟨g,_,cs',r6,Or.inr ⟨b,by simp,q1⟩,z1,aT.mono (fun _ _ h=>Rel.mono (Env.dC [b]).w (Env.dC [b] (w:=w)).S h) z2⟩
     ·cases h'
    ·cases h'
   ·cases h'
  |_=>cases m<;>simp[view] at h
 |
  ptr b p=>
  intro m u y l vs h hr
  have h':(match hb b with
   |
    some k=>match kC k p,(iP k).sub p with
    |
     some u,some s=>match u.bL s with
     |some y=>some (AV.bN s y,[b])
     |none=>none
    |_,_=>none
   |none=>none)=some (y,l):=by cases m<;>cases u<;>exact h
  split at h'
  ·rename_i k hk
   split at h'
   ·rename_i u' s hu hs
    split at h'
    ·rename_i z hz
     cases h'
     obtain⟨g,r1,r2,r3⟩:=hr
     obtain⟨g',s',cs,q1,q2,q3,q4,q5⟩:=oP (hw.cH b _ (hB b _ hk)) r3 hu
     rw[r1] at q1;cases q1
     exact⟨g,_,cs,r2,Or.inr ⟨b,by simp,r1⟩,q4,Rel.mono (Env.dC [b]).w (Env.dC [b] (w:=w)).S (RC.bL hz q5)⟩
    ·cases h'
   ·cases h'
  ·cases h'
 |
  bN t x=>
  intro m u y l vs h hr
  have h':some (AV.bN t x,([]:List Nat))=some (y,l):=by cases m<;>cases u<;>exact h
  cases h'
  exact RC.mono (Env.dC []) (fun b hb=>by cases hb) hr
 |
  mp b=>
  intro m u y l vs h hr
  have h':(match hb b with
   |some (.map k v es)=>some (AV.val (.map k v) (some es),[b])
   |_=>none)=some (y,l):=by cases m<;>cases u<;>exact h
  split at h'
  ·rename_i k v es hk
   cases h'
   obtain⟨g,r1,r2⟩:=hr
   obtain⟨n1,n2,g',en,clock,q1,q2,q3,q4,q5⟩:=hw.cH b _ (hB b _ hk)
   rw[r1] at q1;cases q1
   exact⟨some g,r2,Or.inr ⟨es,g,en,clock,rfl,rfl,Or.inr ⟨b,by simp,r1⟩,q2,jS.mono (fun _ _=>gQ.mono (fun _ _=>Rel.mono (Env.dC [b]).w (Env.dC [b] (w:=w)).S)) (fun _ _=>gQ.mono (fun _ _=>Rel.mono (Env.dC [b]).w (Env.dC [b] (w:=w)).S)) (RM.to q3),n1,n2,q4,q5⟩⟩
  ·cases h'
 |
  dc f t x=>
  intro m u y l vs h hr
  have h':some (AV.dc f t x,([]:List Nat))=some (y,l):=by cases m<;>cases u<;>exact h
  cases h'
  exact RC.mono (Env.dC []) (fun b hb=>by cases hb) hr
 |
  func fn fs cs ih1 ih2=>
  intro m u y l vs h hr
  have h':(match view hb fs true .unit,view hb cs true .unit with
   |some (f,l),some (c,m)=>if f.atoms&&c.atoms then some (AV.func fn f c,l++m) else none
   |_,_=>none)=some (y,l):=by cases m<;>cases u<;>exact h
  split at h'
  ·rename_i f l1 c l2 hf hc
   split at h'
   ·rename_i ha
    cases h'
    simp only[aV] at ha
    obtain⟨f',c',e,r1,r2,r3,r4⟩:=hr
    have q1:=RC.mono (Env.iC (by simp;intro b h;exact Or.inl h):bM (E.cU l1) w (E.cU (l1++l2)) w) (fun _ _=>⟨rfl,rfl,rfl⟩) (ih1 hf r1)
    have q2:=RC.mono (Env.iC (by simp;intro b h;exact Or.inr h):bM (E.cU l2) w (E.cU (l1++l2)) w) (fun _ _=>⟨rfl,rfl,rfl⟩) (ih2 hc r2)
    exact⟨f',c',e,q1,q2,ha.1,ha.2⟩
   ·cases h'
  ·cases h'
 |
  cons a b ih1 ih2=>
  intro m u y l vs h hr
  obtain⟨v1,v2,e,r1,r2⟩:=hr
  cases m with
  |
   true=>
   have h':(match view hb a false .unit,view hb b true .unit with
    |some (x,l),some (y,m)=>some (AV.cons x y,l++m)
    |_,_=>none)=some (y,l):=by cases u<;>exact h
   split at h'
   ·rename_i x l1 z l2 h1 h2
    cases h'
    have q1:=RC.mono (Env.iC (by simp;intro b h;exact Or.inl h):bM (E.cU l1) w (E.cU (l1++l2)) w) (fun _ _=>⟨rfl,rfl,rfl⟩) (ih1 h1 r1)
    have q2:=RC.mono (Env.iC (by simp;intro b h;exact Or.inr h):bM (E.cU l2) w (E.cU (l1++l2)) w) (fun _ _=>⟨rfl,rfl,rfl⟩) (ih2 h2 r2)
    exact⟨v1,v2,e,q1,q2⟩
   ·cases h'
  |
   false=>
   cases u with
   |
    pair s t=>
    simp only[view] at h
    split at h
    ·rename_i s' x l1 t' z l2 h1 h2
     cases h
     have q1:=RC.mono (Env.iC (by simp;intro b h;exact Or.inl h):bM (E.cU l1) w (E.cU (l1++l2)) w) (fun _ _=>⟨rfl,rfl,rfl⟩) (ih1 h1 r1)
     have q2:=RC.mono (Env.iC (by simp;intro b h;exact Or.inr h):bM (E.cU l2) w (E.cU (l1++l2)) w) (fun _ _=>⟨rfl,rfl,rfl⟩) (ih2 h2 r2)
     exact⟨v1,v2,e,q1,q2⟩
    ·cases h
   |_=>simp[view] at h
 |
  nil=>
  intro m u y l vs h hr
  cases m with
  |true=>
   have h':some (AV.nil,([]:List Nat))=some (y,l):=by cases u<;>exact h
   cases h';exact hr
  |false=>
   have h':some (AV.val .unit (),([]:List Nat))=some (y,l):=by cases u<;>exact h
   cases h';exact hr
 |gB=>
  intro m u y l vs h hr;have h':some (AV.gB,([]:List Nat))=some (y,l):=by cases m<;>cases u<;>exact h
  cases h';exact hr
 |fy=>
  intro m u y l vs h hr;have h':some (AV.fy,([]:List Nat))=some (y,l):=by cases m<;>cases u<;>exact h
  cases h';exact hr
 |_=>intro m u y l vs h hr;cases m<;>cases u<;>simp[view] at h
theorem iD{hb:Nat→Option aN}{x y:AV}{t:Ty}{l:List Nat}(h:view hb x false t=some (y,l)):y.isAgg=x.isAgg:=by
 cases x with
 |val t x=>simp only[view,cE,ff] at h;rw[←h.1]
 |bA=>cases t<;>simp[view] at h;rw[←h.1];rfl
 |
  own b=>
  have h':(match fk hb b with|some ⟨bs,t,xs⟩=>some (AV.val (.slice bs t) xs,[b])|none=>none)=some (y,l):=by cases t<;>exact h
  split at h'<;>cases h';rfl
 |
  jR b lo len=>
  have h':(match fk hb b with|some ⟨bs,t,xs⟩=>some (AV.val (.slice bs t) ((xs.drop lo).take len),[b])|none=>none)=some (y,l):=by cases t<;>exact h
  split at h'<;>cases h';rfl
 |
  jb b p lo len=>
  cases t with
  |
   slice bs t=>
   simp only[view] at h
   split at h
   ·split at h
    ·split at h
     ·cases h;rfl
     ·cases h
    ·cases h
   ·cases h
  |_=>simp[view] at h
 |
  ptr b p=>
  have h':(match hb b with
   |
    some k=>match kC k p,(iP k).sub p with
    |
     some u,some s=>match u.bL s with
     |some y=>some (AV.bN s y,[b])
     |none=>none
    |_,_=>none
   |none=>none)=some (y,l):=by cases t<;>exact h
  split at h'
  ·split at h'
   ·split at h'
    ·cases h';rfl
    ·cases h'
   ·cases h'
  ·cases h'
 |bN t' x=>
  have h':some (AV.bN t' x,([]:List Nat))=some (y,l):=by cases t<;>exact h
  cases h';rfl
 |
  func fn fs cs=>
  have h':(match view hb fs true .unit,view hb cs true .unit with
   |some (f,l),some (c,m)=>if f.atoms&&c.atoms then some (AV.func fn f c,l++m) else none
   |_,_=>none)=some (y,l):=by cases t<;>exact h
  split at h'
  ·split at h'
   ·cases h';rfl
   ·cases h'
  ·cases h'
 |
  cons a b=>
  cases t with
  |
   pair s t=>
   simp only[view] at h
   split at h
   ·cases h;rfl
   ·cases h
  |_=>simp[view] at h
 |nil=>
  have h':some (AV.val .unit (),([]:List Nat))=some (y,l):=by cases t<;>exact h
  cases h';rfl
 |gB=>
  have h':some (AV.gB,([]:List Nat))=some (y,l):=by cases t<;>exact h
  cases h';rfl
 |fy=>
  have h':some (AV.fy,([]:List Nat))=some (y,l):=by cases t<;>exact h
  cases h';rfl
 |
  mp b=>
  have h':(match hb b with
   |some (.map k v es)=>some (AV.val (.map k v) (some es),[b])
   |_=>none)=some (y,l):=by cases t<;>exact h
  split at h'
  ·cases h';rfl
  ·cases h'
 |dc f u x=>
  have h':some (AV.dc f u x,([]:List Nat))=some (y,l):=by cases t<;>exact h
  cases h';rfl
 |_=>cases t<;>simp[view] at h
theorem zE{gl:Ctx}{E:Env}{w:World}{hp:List (Option aN)}(hw:HW gl E w hp){hb:Nat→Option aN}(hB:HB hb hp){x y:AV}{t:Ty}{l:List Nat}{v:Value}(h:view hb x false t=some (y,l))(hr:cF E w x v):cF (E.cU l) w y v:=by
 have ha:=iD h
 rcases hr with⟨h1,cs,e,h2⟩|⟨h1,h2⟩
 ·exact Or.inl ⟨by rw[ha];exact h1,cs,e,lu hw hB h h2⟩
 ·exact Or.inr ⟨by rw[ha];exact h1,lu hw hB h h2⟩
theorem qq{hb:Nat→Option aN}:∀{x:AV}{m:Bool}{t:Ty}{y:AV}{l:List Nat},view hb x m t=some (y,l)→∀b∈l,∃k,hb b=some k:=by
 intro x
 induction x with
 |
  own b=>
  intro m t y l h
  have h':(match fk hb b with|some ⟨bs,t,xs⟩=>some (AV.val (.slice bs t) xs,[b])|none=>none)=some (y,l):=by cases m<;>cases t<;>exact h
  split at h'<;>cases h'
  rename_i hv
  obtain⟨e,hk⟩:=jn hv
  intro c hc;simp at hc;subst hc;exact⟨_,hk⟩
 |
  jR b lo len=>
  intro m t y l h
  have h':(match fk hb b with|some ⟨bs,t,xs⟩=>some (AV.val (.slice bs t) ((xs.drop lo).take len),[b])|none=>none)=some (y,l):=by cases m<;>cases t<;>exact h
  split at h'<;>cases h'
  rename_i hv
  obtain⟨e,hk⟩:=jn hv
  intro c hc;simp at hc;subst hc;exact⟨_,hk⟩
 |
  jb b p lo len=>
  intro m t y l h
  cases t with
  |
   slice bs u=>
   have h':(match hb b with
    |
     some (.var _ v)=>match v.get p with
     |some (.val (.arr n t) xs)=>if Nat.ble (n*bs) aE&&Nat.ble n aE then some (AV.val (.slice bs t) ((List.drop lo xs).take len),[b]) else none
     |_=>none
    |_=>none)=some (y,l):=by cases m<;>exact h
   split at h'
   ·rename_i hk
    split at h'
    ·split at h'
     ·cases h';intro c hc;simp at hc;subst hc;exact⟨_,hk⟩
     ·cases h'
    ·cases h'
   ·cases h'
  |_=>cases m<;>simp[view] at h
 |
  ptr b p=>
  intro m t y l h
  have h':(match hb b with
   |
    some k=>match kC k p,(iP k).sub p with
    |
     some u,some s=>match u.bL s with
     |some y=>some (AV.bN s y,[b])
     |none=>none
    |_,_=>none
   |none=>none)=some (y,l):=by cases m<;>cases t<;>exact h
  split at h'
  ·rename_i hk
   split at h'
   ·split at h'
    ·cases h';intro c hc;simp at hc;subst hc;exact⟨_,hk⟩
    ·cases h'
   ·cases h'
  ·cases h'
 |
  func fn fs cs ih1 ih2=>
  intro m t y l h
  have h':(match view hb fs true .unit,view hb cs true .unit with
   |some (f,l),some (c,m)=>if f.atoms&&c.atoms then some (AV.func fn f c,l++m) else none
   |_,_=>none)=some (y,l):=by cases m<;>cases t<;>exact h
  split at h'
  ·rename_i h1 h2
   split at h'
   ·cases h'
    intro c hc
    rcases List.mem_append.1 hc with hc|hc
    ·exact ih1 h1 c hc
    ·exact ih2 h2 c hc
   ·cases h'
  ·cases h'
 |
  cons a b ih1 ih2=>
  intro m t y l h
  cases m with
  |
   true=>
   have h':(match view hb a false .unit,view hb b true .unit with
    |some (x,l),some (y,m)=>some (AV.cons x y,l++m)
    |_,_=>none)=some (y,l):=by cases t<;>exact h
   split at h'
   ·rename_i h1 h2
    cases h'
    intro c hc
    rcases List.mem_append.1 hc with hc|hc
    ·exact ih1 h1 c hc
    ·exact ih2 h2 c hc
   ·cases h'
  |
   false=>
   cases t with
   |
    pair s t=>
    simp only[view] at h
    split at h
    ·rename_i h1 h2
     cases h
     intro c hc
     rcases List.mem_append.1 hc with hc|hc
     ·exact ih1 h1 c hc
     ·exact ih2 h2 c hc
    ·cases h
   |_=>simp[view] at h
 |
  mp b=>
  intro m t y l h
  have h':(match hb b with
   |some (.map k v es)=>some (AV.val (.map k v) (some es),[b])
   |_=>none)=some (y,l):=by cases m<;>cases t<;>exact h
  split at h'
  ·rename_i k v es hk
   cases h'
   intro c hc
   simp only[l9] at hc
   subst hc
   exact⟨_,hk⟩
  ·cases h'
 |
  _=>
  intro m t y l h
  cases m<;>cases t<;>simp[view] at h<;>(try (intro b hb;rw[h.2] at hb;cases hb))
def AV.eT:AV→Bool
 | .val t _=>t.flat
 | .cons a b=>a.eT&&b.eT
 | .nil=>true
 | .gC l=>l.eT
 | .iface _ v=>v.eT
 | .gB| .dT| .fy| .iu| .bA=>true
 |_=>false
theorem RC.flat{E E':Env}{w w':World}:∀{a:AV}{vs:List Value},a.eT=true→RC E w a vs→RC E' w' a vs:=by
 intro a
 induction a with
 |val t x=>intro vs hf h;exact Rel.flat hf h
 |
  cons a b ih1 ih2=>
  intro vs hf h
  simp only[AV.eT,aV] at hf
  obtain⟨v1,v2,e,h1,h2⟩:=h
  exact⟨v1,v2,e,ih1 hf.1 h1,ih2 hf.2 h2⟩
 |nil=>intro vs _ h;exact h
 |gB=>intro vs _ h;exact h
 |dT=>intro vs _ h;exact h
 |fy=>intro vs _ h;exact h
 |iu=>intro vs _ h;exact h
 |bA=>intro vs _ h;exact h
 |gC l ih=>intro vs _ h;exact h.elim
 |
  iface u v ih=>
  intro vs hf h
  obtain⟨x,e,h⟩:=h
  refine⟨x,e,?_⟩
  rcases h with⟨h1,cs,h2,h3⟩|⟨h1,h2⟩
  ·exact Or.inl ⟨h1,cs,h2,ih hf h3⟩
  ·exact Or.inr ⟨h1,ih hf h2⟩
 |_=>intro vs hf;simp[AV.eT] at hf
theorem cF.flat{E E':Env}{w w':World}{a:AV}{v:Value}(hf:a.eT=true)(h:cF E w a v):cF E' w' a v:=by
 rcases h with⟨h1,cs,e,h2⟩|⟨h1,h2⟩
 ·exact Or.inl ⟨h1,cs,e,RC.flat hf h2⟩
 ·exact Or.inr ⟨h1,RC.flat hf h2⟩
theorem RT.flat{E E':Env}{w w':World}:∀{a:AV}{vs:List Value},a.eT=true→RT E w a vs→RT E' w' a vs:=by
 intro a
 induction a with
 |
  cons a b ih1 ih2=>
  intro vs hf h
  simp only[AV.eT,aV] at hf
  cases vs with
  |nil=>exact h.elim
  |cons v vs=>exact⟨cF.flat hf.1 h.1,ih2 hf.2 h.2⟩
 |nil=>intro vs _ h;exact h
 |_=>intro vs _ h;exact h.elim
theorem RV.flat{E E':Env}{w w':World}{a:AV}{v:Value}(hf:a.eT=true)(h:RV E w a v):RV E' w' a v:=by
 cases a with
 |bot=>trivial
 |gC l=>obtain⟨vs,e,h⟩:=h;exact⟨vs,e,RT.flat hf h⟩
 |opt c a=>simp[AV.eT] at hf
 |_=>exact cF.flat hf h
def rf(G:bT)(ev:Operand→AV)(x:Operand×TypeId):AV×Ty:=(ev x.1,match x.1,G.at x.2 with| .const _,_=>.unit|_,some td=>td.ty|_,none=>.unit)
theorem kN.append{E:Env}{w:World}:∀{xs ys:List AV}{vs us:List Value},kN E w xs vs→kN E w ys us→kN E w (xs++ys) (vs++us)
 |[],_,[],_,_,h=>h
 |[],_,_::_,_,h,_=>h.elim
 |_::_,_,[],_,h,_=>h.elim
 |_::_,_,_::_,_,h,k=>⟨h.1,kN.append h.2 k⟩
theorem kN.atoms{E:Env}{w:World}:∀{l:AV}{vs:List Value},l.atoms=true→RC E w l vs→kN E w l.toList vs:=by
 intro l
 induction l with
 |
  cons a b ih1 ih2=>
  intro vs ha h
  simp only[AV.atoms,aV] at ha
  obtain⟨v1,v2,e,h1,h2⟩:=h
  subst e
  have hl:=RC.len h1
  have hs:a.size=1:=by
   cases a with
   |val t x=>cases t<;>simp[AV.atom,Ty.isAgg] at ha<;>rfl
   |_=>first|rfl|simp[AV.atom] at ha
  rw[hs] at hl
  obtain⟨v,rfl⟩:∃v,v1= [v]:=by
   match v1,hl with
   |[v],_=>exact⟨v,rfl⟩
  refine⟨RV.dO (Or.inr ⟨?_,h1⟩),ih2 ha.2 h2⟩
  cases a with
  |val t x=>cases t<;>simp[AV.atom,Ty.isAgg] at ha<;>rfl
  |_=>first|rfl|simp[AV.atom] at ha
 |nil=>intro vs _ h;simp only[RC] at h;subst h;trivial
 |_=>intro vs ha;simp[AV.atoms] at ha
theorem kN.map{E:Env}{w:World}{ev:Operand→AV}{ρ:Operand→Value}:∀(l:List Operand),(∀x∈l,RV E w (ev x) (ρ x))→kN E w (l.map ev) (l.map ρ)
 |[],_=>trivial
 |x::l,h=>⟨h x (cK ..),kN.map l (fun y hy=>h y (dr _ hy))⟩
end Go.Ax
namespace Go.Ax
theorem vK(off:Nat):∀(cs:List Value)(k:Nat)(c:Array Value),off+k+cs.length≤c.size→
 ((cs.zipIdx k).foldl (fun(cs:Array Value)(x:Value×Nat)=>cs.setIfInBounds (off+x.2) x.1) c).toList=c.toList.take (off+k)++cs++c.toList.drop (off+k+cs.length)
 |[],k,c,_=>by simp
 |
  x::cs,k,c,h=>by
  simp only[dE] at h
  rw[List.zipIdx_cons,List.foldl_cons,vK off cs (k+1) _ (by simp;omega)]
  simp only[Array.toList_setIfInBounds,dE]
  have hl:off+k<c.toList.length:=by simp;omega
  rw[show off+(k+1)=off+k+1 from by omega,List.take_set,List.drop_set_of_lt (by omega)]
  rw[show off+k+1+cs.length=off+k+(cs.length+1) from by omega]
  rw[List.take_succ_eq_append_getElem hl]
  rw[List.set_append_right _ _ (by simp;omega)]
  simp only[fe]
  rw[iN (by omega)]
  simp
theorem qt(place:Nat→Option (Nat×Nat))(cells:Array Value)(i off size:Nat)(v:Value)(rest:List (Nat×Value))(hp:place i=some (off,size))(hs:v.cells.size=size)(hb:off+size≤cells.size):
 ∃abM:Array Value,Instr.fill place cells ((i,v)::rest)=Instr.fill place abM rest∧abM.toList=cells.toList.take off++v.cells.toList++cells.toList.drop (off+size):=by
 refine⟨(v.cells.toList.zipIdx 0).foldl (fun(cs:Array Value)(x:Value×Nat)=>cs.setIfInBounds (off+x.2) x.1) cells,?_,?_⟩
 rotate_left
 ·have:=vK off v.cells.toList 0 cells (by simpa[hs] using hb)
  simp only[Nat.add_zero,fR,hs] at this
  exact this
 ·simp only[Instr.fill,hp]
  rw[aC (by simp[hs];omega)]
  congr 1
  rw[←Array.foldl_toList]
  congr 1
  simp
def RP(E:Env)(w:World):List (Nat×AV)→List (Nat×Value)→Prop
 |[],[]=>True
 |x::xs,v::vs=>x.1=v.1∧RV E w x.2 v.2∧RP E w xs vs
 |_,_=>False
def De(t:Ty):AV→List (Nat×AV)→Option AV
 |a,[]=>some a
 |
  a,(i,v)::l=>match t.sub [.cD i] with
  |
   some s=>if v.plain&&Nat.beq v.size s.size then(match a.set [.cD i] v with
   |some a'=>if a'.bW t then De t a' l else none
   |none=>none) else none
  |none=>none
def zG(t:Ty):List t.den→List (Nat×AV)→Option (List t.den)
 |xs,[]=>some xs
 |
  xs,(i,v)::l=>if v.plain then(match v.bL t with
  |some y=>if Nat.blt i xs.length then zG t (xs.set i y) l else none
  |none=>none) else none
def AV.BG:AV→Bool
 | .bA=>true
 | .cons a b=>a.BG||b.BG
 |_=>false
def AV.norm(a:AV)(t:Ty):AV:=if a.BG then a else match a.bL t with
 |some y=>.val t y
 |none=>a
def xV(G:bT)(t:TypeId)(ps:List (Nat×AV)):Option AV:=
 match G.at t with
 |
  some td=>match td.ty with
  | .arr n u=>if u.pure then(zG u (List.replicate n u.aD) ps).map fun xs=>.val (.arr n u) xs else none
  | .pair a b=>(De (.pair a b) (Ty.zero (.pair a b)) ps).map (AV.norm · (.pair a b))
  |
   .unit=>match ps with
   |[]=>some (.val .unit ())
   |_=>none
  |_=>none
 |none=>none
theorem zH{E:Env}{w:World}{t:Ty}{place:Nat→Option (Nat×Nat)}(hpl:∀i s,t.sub [.cD i]=some s→place i=some (t.off [.cD i],s.size)∧t.valid [.cD i]):
 ∀{ps:List (Nat×AV)}{vs:List (Nat×Value)}{a r:AV}{cells:Array Value},RP E w ps vs→RC E w a cells.toList→a.bW t=true→De t a ps=some r→
  ∃abM,Instr.fill place cells vs=some abM∧RC E w r abM.toList∧r.bW t=true
 |
  [],[],a,r,cells,_,hr,hc,h=>by
  cases h;exact⟨cells,rfl,hr,hc⟩
 |[],_::_,_,_,_,h,_,_,_=>h.elim
 |_::_,[],_,_,_,h,_,_,_=>h.elim
 |
  (i,x)::ps,(j,v)::vs,a,r,cells,⟨e,hx,hps⟩,hr,hc,h=>by
  simp only at e;subst e
  simp only[De] at h
  split at h
  ·rename_i s hs
   split at h
   ·rename_i hcond
    simp only[aV] at hcond
    split at h
    ·rename_i a' ha'
     split at h
     ·rename_i hc'
      obtain⟨p1,p2⟩:=hpl i s hs
      have hxc:=(RV.js hcond.1 hx).cells
      have hlen:=RC.len hxc
      have hsz:=bQ hcond.2
      obtain⟨s',e1,e2,e3,e4⟩:=AV.kX hxc hr hc p2 (fun s' hs'=>by rw[hs] at hs';cases hs';omega) ha'
      rw[hs] at e1;cases e1
      obtain⟨abM,f1,f2⟩:=qt place cells i _ s.size v vs p1 (by rw[←e2,fR]) (by simpa using e3)
      rw[f1]
      rw[←f2] at e4
      exact zH hpl hps e4 hc' h
     ·cases h
    ·cases h
   ·cases h
  ·cases h
theorem ug{E:Env}{w:World}{t:Ty}:
 ∀{ps:List (Nat×AV)}{vs:List (Nat×Value)}{xs ys:List t.den}{cells:Array Value},RP E w ps vs→aT (Rel w E.S t) cells.toList xs→zG t xs ps=some ys→
  ∃abM,Instr.fill (fun i=>some (i*t.size,t.size)) cells vs=some abM∧aT (Rel w E.S t) abM.toList ys∧ys.length=xs.length
 |
  [],[],xs,ys,cells,_,hr,h=>by
  cases h;exact⟨cells,rfl,hr,rfl⟩
 |[],_::_,_,_,_,h,_,_=>h.elim
 |_::_,[],_,_,_,h,_,_=>h.elim
 |
  (i,x)::ps,(j,v)::vs,xs,ys,cells,⟨e,hx,hps⟩,hr,h=>by
  simp only at e;subst e
  simp only[zG] at h
  split at h
  ·rename_i hpl
   split at h
   ·rename_i y hy
    split at h
    ·rename_i hi
     have hi:i<xs.length:=by simp[Nat.blt] at hi;omega
     have hxc:=(RV.js hpl hx).cells
     have acf:=RC.bL hy hxc
     have aO:=aT.set (r:=Rel w E.S t) (n:=t.size) (fun _ _ h=>Rel.len h) acf i hr hi
     have hlen:=Rel.len acf
     have hcl:=aT.len (n:=t.size) (fun _ _ h=>Rel.len h) hr
     have hb:(i+1)*t.size≤xs.length*t.size:=fv _ hi
     rw[cM,Nat.one_mul] at hb
     obtain⟨abM,f1,f2⟩:=qt (fun i=>some (i*t.size,t.size)) cells i (i*t.size) t.size v vs rfl (by rw[←hlen,fR]) (by rw[←fR,hcl];exact hb)
     rw[f1]
     rw[←f2] at aO
     obtain⟨c2,g1,g2,g3⟩:=ug hps aO h
     exact⟨c2,g1,g2,by rw[g3,bF]⟩
    ·cases h
   ·cases h
  ·cases h
theorem AV.DW{a:AV}{t:Ty}(h:a.bW t=true):(a.norm t).bW t=true:=by
 unfold AV.norm;split
 ·exact h
 split
 ·exact Ty.db _
 ·exact h
theorem RC.norm{E:Env}{w:World}{a:AV}{t:Ty}{cs:List Value}(h:RC E w a cs):RC E w (a.norm t) cs:=by
 unfold AV.norm;split
 ·exact h
 split
 ·rename_i y hy;exact RC.bL hy h
 ·exact h
theorem bB.structOf{P:Program}{G:bT}(T:bB P G){t:TypeId}{td:TD}(h:G.at t=some td){a b:Ty}(hs:td.ty= .pair a b):∃fs,P.underlying t=some (.struct fs)∧bR G fs.toList 0 td.ty=true:=by
 obtain⟨ii,d,_,h1,_,h2,_⟩:=T.info h
 have abJ:=dm h2
 cases hd:d with
 |struct fs=>subst hd;exact⟨fs,h1,h2⟩
 |
  array n e=>
  subst hd
  simp only[cj] at h2
  rw[ek] at h2
  rcases h2 with h2|h2
  ·split at h2
   ·rename_i e1 _;rw[hs] at e1;cases e1
   ·cases h2
  simp only[aV] at h2
  obtain⟨_,h2⟩:=h2
  split at h2
  ·rename_i e1 _ _;rw[hs] at e1;cases e1
  ·cases h2
 |
  _=>
  subst hd
  simp only[dt] at abJ
  rw[hs] at abJ;cases abJ
theorem pD{G:bT}:∀{fs:List Field}{o:Nat}{t:Ty},bR G fs o t=true→∀f∈fs,∃td,G.at f.type=some td
 |[],_,_,_,f,hf=>by cases hf
 |
  g::fs,o,t,h,f,hf=>by
  cases t with
  |
   pair a b=>
   simp only[bR,aV] at h
   obtain⟨⟨⟨h1,_⟩,_⟩,h4⟩:=h
   cases hf with
   |
    head=>
    split at h1
    ·rename_i td htd;exact⟨td,htd⟩
    ·cases h1
   |tail _ hf=>exact pD h4 f hf
  |_=>simp[bR] at h
theorem nF{α β:Type}{P:Program}{w:World}(g:α→Sem β)(f:α→β):∀(l:List α),(∀x∈l,(g x).run P w= .ok (f x) w)→(l.mapM g).run P w= .ok (l.map f) w
 |[],_=>by simp
 |
  x::l,h=>by
  simp only[List.mapM_cons,Sem.run_bind,h x (cK ..),Result.andThen_ok,nF g f l (fun y hy=>h y (dr _ hy)),Sem.run_pure,dp]
theorem Gl{α β:Type}{P:Program}{w:World}(g:α→Sem β)(f:α→β)(l:Array α)(h:∀x∈l.toList,(g x).run P w= .ok (f x) w):(l.mapM g).run P w= .ok (l.map f) w:=by
 rw[Array.mapM_eq_mapM_toList,Sem.run_map,nF g f l.toList h]
 simp only[Result.andThen_ok]
 congr 1
 apply fw
 simp
theorem run_build{P:Program}{G:bT}(T:bB P G){E:Env}{w:World}{t:TypeId}{ps:List (Nat×AV)}{vs:Array (Nat×Value)}(hp:RP E w ps vs.toList){r:AV}(h:xV G t ps=some r):
 ∃v,(Instr.build t vs).run P w= .ok v w∧RV E w r v:=by
 unfold xV at h
 split at h
 ·rename_i td ht
  obtain⟨z,hz,hz1,hz2⟩:=T.zero ht w
  split at h
  ·rename_i n u hty
   split at h
   ·rename_i hpure
    obtain⟨xs,hxs,rfl⟩:=Option.map_eq_some_iff.1 h
    obtain⟨te,h1,h2,h3⟩:=T.oQ ht hty
    have hsz:=T.size h2 w
    rw[h3] at hsz
    rw[hty] at hz1
    have acf:=(fA (E:=E) (w:=w) hz1).2 hpure
    obtain⟨abM,f1,f2,f3⟩:=ug hp acf.2 (xs:=List.replicate n u.aD) hxs
    refine⟨.agg abM,?_,RV.dO (Or.inl ⟨rfl,abM,rfl,⟨by rw[f3,fO],f2⟩⟩)⟩
    simp[Instr.build,hz,underlying,h1,hsz,f1]
   ·cases h
  ·rename_i a b hty
   obtain⟨r',hr',rfl⟩:=Option.map_eq_some_iff.1 h
   obtain⟨fs,h1,h2⟩:=T.structOf ht hty
   rw[hty] at hz1 h2
   have hrc:=(fA (E:=E) (w:=w) hz1).1
   have hpl:∀i s,(Ty.pair a b).sub [.cD i]=some s→((fs.map fun f=>(f.offset,((G.at f.type).map (·.ty.size)).getD 0))[i]?)=some ((Ty.pair a b).off [.cD i],s.size)∧(Ty.pair a b).valid [.cD i]:=by
    intro i s hs
    obtain⟨f,tf,e1,e2,e3,e4,e5,e6⟩:=kZ h2 hs
    refine⟨?_,e6⟩
    have e1':fs[i]? =some f:=by simpa using e1
    simp only[Array.getElem?_map,e1',Option.map_some,e2,Option.getD_some,e3,e4,cZ]
   have hm:(fs.mapM fun f=>do pure (f.offset,←sizeOf f.type):Sem _).run P w= .ok (fs.map fun f=>(f.offset,((G.at f.type).map (·.ty.size)).getD 0)) w:=by
    refine Gl _ _ fs ?_
    intro f hf
    obtain⟨tf,htf⟩:=pD h2 f hf
    simp[T.size htf,htf]
   obtain⟨abM,f1,f2,f3⟩:=zH hpl hp hrc (Ty.pU _) hr'
   refine⟨.agg abM,?_,RV.dO (Or.inl ⟨?_,abM,rfl,RC.norm f2⟩)⟩
   ·simp only[Instr.build,Sem.run_bind,hz,Result.andThen_ok,underlying,run_program,h1,Sem.run_pure,hm]
    rw[f1]
    simp
   ·rw[AV.iv (AV.DW f3)];rfl
  ·rename_i hty
   split at h
   ·cases h
    have hvs:vs= #[]:=by
     apply fw
     cases hv:vs.toList with
     |nil=>rfl
     |cons _ _=>rw[hv] at hp;exact hp.elim
    subst hvs
    obtain⟨ii,d,_,h1,_,h2,_⟩:=T.info ht
    have abJ:=dm h2
    rw[hty] at abJ hz1
    have hrc:=(fA (E:=E) (w:=w) hz1).1
    cases hd:d with
    |
     struct fs=>
     subst hd
     simp only[cj,hty] at h2
     have hfs:fs= #[]:=by
      apply fw
      cases hf:fs.toList with
      |nil=>rfl
      |cons f l=>rw[hf] at h2;simp[bR] at h2
     subst hfs
     refine⟨.agg z.cells,?_,RV.dO (Or.inl ⟨rfl,z.cells,rfl,hrc⟩)⟩
     simp[Instr.build,hz,underlying,h1,Instr.fill]
    |
     array n e=>
     subst hd
     simp[cj,hty] at h2
    |_=>subst hd;simp[dt,Ty.isAgg] at abJ
   ·cases h
  ·cases h
 ·cases h
def lv(G:bT)(d:Nat)(t:TypeId)(len:Nat)(ps:List (Nat×AV)):Option (AV×aN):=
 match G.at t with
 |
  some td=>match td.ty with
  | .slice bs u=>if u.pure&&Nat.ble (len*u.size) 16777216&&Nat.ble (len*bs) aE&&Nat.ble len aE then(zG u (List.replicate len u.aD) ps).map fun xs=>(.own d,.row td.e bs u xs) else none
  |_=>none
 |none=>none
theorem qv{w:World}{S:Nat→Prop}{u:Ty}{z:List Value}(hz:Rel w S u z u.aD)(_hu:0<u.size)(len:Nat)(zc:Array Value)(hzc:zc.toList=z):
 aT (Rel w S u) ((Array.range (len*u.size)).map (zc[· % zc.size]!)).toList (List.replicate len u.aD):=by
 have hl:=Rel.len hz
 have hs:zc.size=u.size:=by rw[←hl,←hzc,fR]
 refine aT.yA u.aD u.size len _ (by simp) ?_
 intro i hi
 have:((((Array.range (len*u.size)).map (zc[· % zc.size]!)).toList.drop (i*u.size)).take u.size)=z:=by
  apply List.ext_getElem?
  intro j
  rw[oN]
  by_cases hj:j<u.size
  ·rw[aA hj,List.getElem?_drop]
   have hb:(i+1)*u.size≤len*u.size:=fv _ hi
   rw[cM,Nat.one_mul] at hb
   have hij:i*u.size+j<len*u.size:=by omega
   simp only[Array.getElem?_toList,Array.getElem?_map]
   rw[Array.getElem?_range,aA hij]
   simp only[Option.map_some]
   have hm:(i*u.size+j) % u.size=j:=by rw[Nat.mul_comm,Nat.mul_add_mod];exact Nat.mod_eq_of_lt hj
   rw[hs,hm,←hzc,Array.getElem?_toList]
   have hjz:j<zc.size:=by omega
   simp[hjz]
  ·rw[aC hj]
   rw[List.getElem?_eq_none (by omega)]
 rw[this];exact hz
theorem rz{P:Program}{G:bT}(T:bB P G){gl:Ctx}{σ:St}{E:Env}{a:Act}{w:World}(h:cd gl σ E a w){d:Nat}(hf:σ.fresh d){t:TypeId}{len:Nat}{ps:List (Nat×AV)}{vs:Array (Nat×Value)}(hp:RP E w ps vs.toList){r:AV}{k:aN}(hb:lv G d t len ps=some (r,k)):
 ∃v w' E',(Instr.buildSlice t len vs).run P w= .ok v w'∧cd gl (σ.cH d (some k)) E' a w'∧RV E' w' r v∧Ext gl.md (Own σ.hp E) E w (Own (σ.cH d (some k)).hp E') E' w':=by
 unfold lv at hb
 split at hb
 ·rename_i td ht
  split at hb
  ·rename_i bs u hty
   split at hb
   ·rename_i hc
    simp only[aV] at hc
    obtain⟨⟨⟨hpure,hc1⟩,hc2⟩,hc3⟩:=hc
    have hc1:=fc hc1
    have hc2:=fc hc2
    have hc3:=fc hc3
    obtain⟨xs,hxs,e⟩:=Option.map_eq_some_iff.1 hb
    cases e
    obtain⟨te,ie,h1,h2,h3,h4,h5,h6,h7⟩:=T.cP ht hty
    obtain⟨z,hz,hz1,hz2⟩:=T.zero h2 w
    have hsz:=T.size h2 w
    rw[h3] at hsz hz1
    have acf:=(fA (E:=E) (w:=w) hz1).2 hpure
    have hmade:=qv acf h6 len z.cells rfl
    obtain⟨abM,f1,f2,f3⟩:=ug hp hmade hxs
    rw[fO] at f3
    have hcl:abM.size=len*u.size:=by
     have:=aT.len (n:=u.size) (fun _ _ h=>Rel.len h) f2
     rw[fR] at this;rw[this,f3]
    have abW:(Instr.buildSlice t len vs).run P w= .ok (.slice (some ⟨w.heap.size,0,none⟩) len len) {w with heap:=w.heap.push (.cells abM td.e)}:=by
     have NQ:¬(len*u.size>2^24):=by
      show¬(len*u.size>16777216);omega
     by_cases hn:len*u.size=0
     ·have e0:len=0:=by
       rcases Nat.mul_eq_zero.1 hn with h|h
       ·exact h
       ·omega
      subst e0
      have f1':Instr.fill (fun i=>some (i*u.size,u.size)) ((Array.range (0*u.size)).map ((#[]:Array Value)[· % (#[]:Array Value).size]!)) vs.toList=some abM:=by
       have:(Array.range (0*u.size)).map (z.cells[· % z.cells.size]!)= #[]:=by simp
       rw[this] at f1
       have:(Array.range (0*u.size)).map ((#[]:Array Value)[· % (#[]:Array Value).size]!)= #[]:=by simp
       rw[this];exact f1
      simp only[Instr.buildSlice,Sem.run_bind,underlying,run_program,Result.andThen_ok,h1,Sem.run_pure,hsz,aC NQ,aA hn]
      rw[f1']
      simp[newRow]
     ·simp only[Instr.buildSlice,Sem.run_bind,underlying,run_program,Result.andThen_ok,h1,Sem.run_pure,hsz,aC NQ,aC hn,hz]
      rw[f1]
      simp[newRow]
    have kp:bM E w (E.at d (some w.heap.size) (.slice (some ⟨w.heap.size,0,none⟩) len len) (.arr len u)) {w with heap:=w.heap.push (.cells abM td.e)}:=⟨fun b hb=>iF _ _ _ (h.hw.slt b hb),fun b hb=>hb⟩
    obtain⟨q1,q2⟩:=h.fresh hf (w':={w with heap:=w.heap.push (.cells abM td.e)}) (g:=some w.heap.size) (sv:=.slice (some ⟨w.heap.size,0,none⟩) len len) (t:=.arr len u) (k:=.row td.e bs u xs) rfl (Tp.r rfl rfl) rfl (by simp) (fun i hi=>iF _ _ _ hi) (fun i hi=>by cases hi;exact cq _)
     (by
      refine⟨by simp[Env.at,f3],by rw[f3];exact hc2,by rw[f3];exact hc3,h6,some ⟨w.heap.size,0,none⟩,len,by simp[Env.at,f3],?_,Or.inr ⟨w.heap.size,abM,by simp[Env.at],rfl,nw _ _,hcl,by omega,?_⟩⟩
      ·unfold aE at hc3;unfold maxLen;omega
      ·rw[f3,←hcl,fb (by simp)]
       exact aT.mono (fun _ _=>Rel.mono kp.w kp.S) f2)
    exact⟨_,_,_,abW,q1,RV.dO (Or.inr ⟨rfl,by simp[Env.at],some ⟨w.heap.size,0,none⟩,len,len,by simp[Env.at]⟩),q2⟩
   ·cases hb
  ·cases hb
 ·cases hb
end Go.Ax
namespace Go.Ax
def Gm(hb:Nat→Option aN)(bs:Nat)(u:Ty):AV→Option (List u.den)
 | .val (.slice bs' u') xs=>if h:Ty.same u' u=true then if Nat.beq bs' bs then some (Ty.aB h▸xs) else none else none
 | .bA=>some []
 |
  .own b=>match hb b with
  |some (.row _ bs' u' xs)=>if h:Ty.same u' u=true then if Nat.beq bs' bs then some (Ty.aB h▸xs) else none else none
  |_=>none
 |
  .jR b lo len=>match hb b with
  |some (.row _ bs' u' xs)=>if h:Ty.same u' u=true then if Nat.beq bs' bs then some (Ty.aB h▸((xs.drop lo).take len)) else none else none
  |_=>none
 |
  .jb b p lo len=>match hb b with
  |
   some (.var _ v)=>match v.get p with
   |some (.val (.arr n u') xs)=>if h:Ty.same u' u=true then if Nat.ble (n*bs) aE&&Nat.ble n aE then some (Ty.aB h▸((List.drop lo xs).take len)) else none else none
   |_=>none
  |_=>none
 |_=>none
def OW(E:Env)(w:World)(bs:Nat)(u:Ty)(v:Value)(xs:List u.den):Prop:=
 ∃a cap,v= .slice a xs.length cap∧xs.length≤cap∧xs.length*bs≤aE∧xs.length≤aE∧
  (xs= []∨∃g o cs,a=some ⟨g,o,none⟩∧ot w ⟨g,o,none⟩ cs∧aT (Rel w E.S u) cs xs)
theorem xW{gl:Ctx}{E:Env}{w:World}{hp:List (Option aN)}(hw:HW gl E w hp){hb:Nat→Option aN}(hB:HB hb hp){bs:Nat}{u:Ty}{x:AV}{v:Value}{xs:List u.den}(hx:RV E w x v)(h:Gm hb bs u x=some xs):OW E w bs u v xs:=by
 unfold Gm at h
 split at h
 ·rename_i bs' u' ys
  split at h
  ·rename_i hs
   split at h
   ·rename_i hb'
    have e:=Ty.aB hs
    subst e
    have:=bQ hb';subst this
    cases h
    obtain⟨a,cap,e,h1,h2,h3,h4⟩:=RV.atom rfl hx
    simp at e;subst e
    refine⟨a,cap,rfl,h1,h2,h3,h4.imp id ?_⟩
    rintro⟨b,o,cs,e1,_,e3,e4⟩
    exact⟨b,o,cs,e1,e3,e4⟩
   ·cases h
  ·cases h
 ·cases h
  have hx:=RV.atom rfl hx
  simp[RC] at hx;subst hx
  exact⟨none,0,rfl,cq _,by simp,by simp,Or.inl rfl⟩
 ·rename_i b
  split at h
  ·rename_i e0 bs' u' ys hk
   split at h
   ·rename_i hs
    split at h
    ·rename_i hb'
     have e:=Ty.aB hs
     subst e
     have:=bQ hb';subst this
     cases h
     have hx:=RV.atom rfl hx
     obtain⟨hr,_⟩:=hx
     simp at hr
     obtain⟨h1,h2,h3,h4,a,cap,h5,h6,h7⟩:=hw.cH b _ (hB b _ hk)
     rw[h5] at hr
     subst hr
     rcases h7 with⟨⟨h7,_⟩,h8,h9⟩|⟨g,c,h7,h8,h9,h10,h11,h12⟩
     ·subst h9;exact⟨a,cap,rfl,by simp,h2,h3,Or.inl rfl⟩
     ·refine⟨a,cap,rfl,h11,h2,h3,Or.inr ⟨g,0,_,h8,?_,h12⟩⟩
      have:=ot.of_heap h9 0 (List.length ys*u'.size)
      simpa using this
    ·cases h
   ·cases h
  ·cases h
 ·rename_i b lo len
  split at h
  ·rename_i e0 bs' u' ys hk
   split at h
   ·rename_i hs
    split at h
    ·rename_i hb'
     have e:=Ty.aB hs
     subst e
     have:=bQ hb';subst this
     cases h
     obtain⟨a',c',n,tt,r1,r2,r3,r4,a2,r5,r6⟩:=RV.atom rfl hx
     simp at r5;subst r5
     obtain⟨h1,h2,h3,h4,a,cap,h5,h6,h7⟩:=hw.cH b _ (hB b _ hk)
     rw[h1] at r1;cases r1
     rw[h5] at r2;cases r2
     have hlen:((ys.drop lo).take len).length=len:=by simp;omega
     have hb1:len*bs'≤aE:=da (fv _ (by omega)) h2
     refine⟨_,_,by rw[hlen],by rw[hlen];omega,by rw[hlen];exact hb1,by rw[hlen];omega,?_⟩
     rcases mb len with hz|hz
     ·subst hz;exact Or.inl (by simp)
     ·rcases h7 with⟨h7,h8,h9⟩|⟨g,c,h7,h8,h9,h10,h11,h12⟩
      ·subst h9;simp at r3;omega
      ·subst h8
       have hr0:=ot.of_heap h9 0 (ys.length*u'.size)
       simp only[eS] at hr0
       obtain⟨cs',q1,q2⟩:=aT.part hr0 h12 lo len
       refine Or.inr ⟨g,0+lo*u'.size,cs',?_,q1,q2⟩
       rcases r6 with r6|r6
       ·omega
       ·rw[r6]
        simp only[Option.map_some,cE]
        unfold Addr.add;split<;>simp_all
    ·cases h
   ·cases h
  ·cases h
 ·rename_i b p lo len
  split at h
  ·rename_i tt v' hk
   split at h
   ·rename_i n u' ys hv
    split at h
    ·rename_i hs
     split at h
     ·rename_i hc
      have e:=Ty.aB hs
      subst e
      cases h
      simp only[aV] at hc
      have hc1:=fc hc.1
      have hc2:=fc hc.2
      obtain⟨n2,t2,r1,r2,r3,a,cap,e,r4,r5⟩:=RV.atom rfl hx
      simp at e;subst e
      have hkb:=hw.cH b _ (hB b _ hk)
      obtain⟨g,s,cs,q1,q2,q3,q4,q5⟩:=oP hkb r2 (u:=.val (.arr n u') ys) hv
      rw[r1] at q2;cases q2
      have:=Ty.aB (by simpa[AV.bW] using q3)
      cases this
      obtain⟨q5a,q5b⟩:=q5
      have hlen:((List.drop lo ys).take len).length=len:=by simp;omega
      have hb1:len*bs≤aE:=da (fv _ (by omega)) hc1
      refine⟨a,cap,by rw[hlen],by rw[hlen];exact r4,by rw[hlen];exact hb1,by rw[hlen];omega,?_⟩
      rcases r5 with r5|⟨g',r5,r6⟩
      ·subst r5;exact Or.inl (by simp)
      ·rw[q1] at r5;cases r5
       obtain⟨cs',z1,z2⟩:=aT.part q4 q5b lo len
       exact Or.inr ⟨g,_,cs',r6,z1,z2⟩
     ·cases h
    ·cases h
   ·cases h
  ·cases h
 ·cases h
def uh(G:bT)(hb:Nat→Option aN)(d:Nat)(t t2:TypeId)(s x:AV):Option (fj):=
 match G.at t with
 |
  some td=>match td.ty with
  |
   .slice bs u=>if Nat.beq t t2 then(match Gm hb bs u x with
   |
    some ys=>match s with
    | .bA=>some ⟨.own d,[(d,some (.row td.e bs u ys))],[d],[vc (ys.length*bs≤aE)]⟩
    |
     .own b=>match hb b with
     |some (.row e' bs' u' xs)=>if h:Ty.same u' u=true then if Nat.beq bs' bs&&Nat.beq e' td.e&& !Nat.beq b d then some ⟨.own d,[(b,none),(d,some (.row td.e bs u ((Ty.aB h▸xs:List u.den)++ys)))],[d],[vc ((xs.length+ys.length)*bs≤aE)]⟩ else none else none
     |_=>none
    |_=>none
   |none=>none) else none
  |_=>none
 |none=>none
theorem rA{P:Program}{w:World}{t ty e:TypeId}{i:TypeInfo}(ht:P.underlying t=some (.slice e))(hi:P.info? e=some i)(a a2:Option Addr)(n cap c:Nat)(hn:n≤cap):
 (Builtin.append_ #[t,t] ty #[.slice a n cap,.slice a2 0 c]).run P w= .ok (.slice a n cap) w:=by
 have hf:(Builtin.firstCells i.size 0 (.slice a2 0 c)).run P w= .ok #[] w:=by
  cases a2<;>simp[Builtin.firstCells,loadCells,loadCellsFrom]
 cases a with
 |none=>simp[Builtin.append_,run_underlying ht,sizeOf,typeInfo,hi,Builtin.lenOf,hn,hf]
 |some a=>simp[Builtin.append_,run_underlying ht,sizeOf,typeInfo,hi,Builtin.lenOf,hn,hf,storeCells]
theorem aT.cells_one{w:World}{S:Nat→Prop}{u:Ty}{cs:List Value}{xs:List u.den}(h:aT (Rel w S u) cs xs):∀v∈cs,v.oneCell'=true:=
 Rel.one (t:=.arr xs.length u) (x:=xs) (w:=w) (S:=S) ⟨rfl,h⟩
def nG(E:Env)(w0 w:World)(e:TypeId)(u:Ty)(v:Value)(g:Option Nat)(xs:List u.den):Prop:=
 (v= .slice none 0 0∧xs= []∧g=none)∨
 ∃i cap cur,g=some i∧v= .slice (some ⟨i,0,none⟩) xs.length cap∧w.heap[i]? =some (.cells cur e (0,0))∧xs.length≤cap∧cap≤maxLen∧cur.size=cap*u.size∧aT (Rel w0 E.S u) (cur.toList.take (xs.length*u.size)) xs
theorem ui{P:Program}{gl:Ctx}{G:bT}(T:bB P G){w:World}{E:Env}{t ty:TypeId}{td:TD}(ht:G.at t=some td){bs:Nat}{u:Ty}(hty:td.ty= .slice bs u)
 {v x:Value} {g:Option Nat} {xs ys:List u.den} (hv:nG E w w td.e u v g xs) (hx:OW E w bs u x ys) (hb:(xs.length+ys.length)*bs≤aE):
 ∃v' w' g',(Builtin.append_ #[t,t] ty #[v,x]).run P w= .ok v' w'∧nG E w w' td.e u v' g' (xs++ys)∧w'.os=w.os∧Tp gl.md w w'∧w'.output=w.output∧w.heap.size≤w'.heap.size∧
  (∀k,k<w.heap.size→g≠some k→w'.heap[k]? =w.heap[k]?)∧(∀k,g'=some k→g=some k∨w.heap.size≤k):=by
 obtain⟨te,ie,h1,h2,h3,h4,h5,h6,h7⟩:=T.cP ht hty
 obtain⟨a,c,rfl,hc1,hc2,hc3,hx⟩:=hx
 have hmn:xs.length+ys.length≤aE:=da (Nat.le_mul_of_pos_right _ h7) hb
 obtain⟨i',d',h1i,_,hsz,_,z,hz,hz1,_⟩:=T.info h2
 rw[h4] at h1i;cases h1i
 rw[h3] at hsz hz1
 have hzl:z.cells.size=u.size:=by
  have:=RC.len (fA (E:=E) (w:=w) hz1).1
  have h0:=AV.dR (Ty.pU u)
  rw[fR] at this;omega
 rcases mb ys.length with hm|hm
 ·have hy:ys= []:=nk hm
  subst hy
  have hn:∃ad n cap,v= .slice ad n cap∧n≤cap:=by
   rcases hv with⟨e,_,_⟩|⟨i,cap,cur,_,e,_,h,_⟩
   ·exact⟨none,0,0,e,cq _⟩
   ·exact⟨_,_,cap,e,h⟩
  obtain⟨ad,n,cap,e,hn⟩:=hn
  refine⟨v,w,g,?_,by rw[eG];exact hv,rfl,Tp.r rfl rfl,rfl,cq _,fun _ _ _=>rfl,fun k hk=>Or.inl hk⟩
  rw[e]
  exact rA h1 h4 ad a n cap c hn
 ·rcases hx with hx|⟨ga,oa,cs,rfl,hr,acf⟩
  ·subst hx;simp at hm
  ·have hl:cs.length=ys.length*ie.size:=by rw[hsz];exact aT.len (fun _ _ h=>Rel.len h) acf
   have mx:aE≤maxLen:=by unfold aE maxLen;omega
   have hbb:(xs.length+ys.length)*ie.bytes≤140737488355328:=by rw[h5];exact hb
   have grown:∀(old:Nat)(os:List Value),aT (Rel w E.S u) os xs→
    nG E w (w.drew.alloc (.cells (os.toArray++cs.toArray++Builtin.zeroCells z.cells (grownCap w (xs.length+ys.length) old td.e -(xs.length+ys.length))) td.e)) td.e u
     (.slice (some ⟨w.heap.size,0,none⟩) (xs.length+ys.length) (grownCap w (xs.length+ys.length) old td.e)) (some w.heap.size) (xs++ys):=by
    intro old os hos
    have hge:=grownCap_ge w (xs.length+ys.length) old td.e
    have hol:os.length=xs.length*u.size:=aT.len (fun _ _ h=>Rel.len h) hos
    refine Or.inr ⟨w.heap.size,_,_,rfl,by rw[cN],heap_alloc_new w.drew _,by rw[cN];exact hge,grownCap_le_maxLen w _ _ _ (by omega),?_,?_⟩
    ·simp only[Array.size_append,oJ,size_zeroCells,hzl,hol,hl,hsz,←cM]
     congr 1;omega
    ·have hall:=aT.append hos acf
     simp only[Array.toList_append,cN]
     rw[uT (by simp[hol,hl,hsz,cM])]
     rw[fb (by simp[hol,hl,hsz,cM])]
     simpa using hall
   rcases hv with⟨rfl,rfl,rfl⟩|⟨i,cap,cur,rfl,rfl,hg,hnc,hcm,hcs,hrelx⟩
   ·have hbb0:ys.length*ie.bytes≤140737488355328:=by simpa using hbb
    have hr':=run_append_nil (P:=P) w t ty td.e ie z h1 h4 hz ⟨ga,oa,none⟩ ys.length c cs hl hr hm (by unfold aE at hmn;omega) (by omega)
    have hgr:=grown 0 [] rfl
    simp only[jA,cZ,gO] at hgr ⊢
    refine⟨_,_,some w.heap.size,hr',?_,rfl,Tp.s rfl rfl,rfl,by simp,fun k hk _=>heap_alloc_old w.drew _ k hk,fun k hk=>by cases hk;exact Or.inr (cq _)⟩
    simpa using hgr
   ·by_cases hroom:xs.length+ys.length≤cap
    ·have hfit:xs.length*ie.size+cs.length≤cur.size:=by rw[hl,hcs,hsz,←cM];exact fv _ hroom
     have hr':=run_append_room (P:=P) w t ty td.e ie h1 h4 i xs.length cap cur hg ⟨ga,oa,none⟩ ys.length c cs hl hr (aT.cells_one acf) hroom hfit
     refine⟨_,_,some i,hr',Or.inr ⟨i,cap,_,rfl,by rw[cN],setRow_heap w i cur _ td.e _ hg,by rw[cN];exact hroom,hcm,?_,?_⟩,rfl,Tp.r rfl rfl,rfl,by simp,fun k _ hk=>setRow_other w i k _ (fun e=>hk (by rw[e])),fun k hk=>Or.inl hk⟩
     ·simp only[oJ,cN,fe,jY,fR]
      omega
     ·rw[hsz] at hfit ⊢
      have hol:(cur.toList.take (xs.length*u.size)).length=xs.length*u.size:=by simp;omega
      rw[cN]
      rw[uT (by simp[hl,hsz,cM];omega)]
      rw[fb (by simp[hl,hsz,cM];omega)]
      exact aT.append hrelx acf
    ·have holds:∀j v,(cur.toList.take (xs.length*u.size))[j]? =some v→w.cell? ((⟨i,0,none⟩:Addr).add j)=some v:=by
      have:=ot.of_heap hg 0 (xs.length*u.size)
      rw[eS] at this;exact this
     have hol:(cur.toList.take (xs.length*u.size)).length=xs.length*ie.size:=by
      rw[hsz];exact aT.len (fun _ _ h=>Rel.len h) hrelx
     have hr':=run_append_grow (P:=P) w t ty td.e ie z h1 h4 hz ⟨i,0,none⟩ xs.length cap _ hol holds ⟨ga,oa,none⟩ ys.length c cs hl hr (by omega) (by unfold aE at hmn;omega) (growslice_fits (by omega) hbb)
     exact⟨_,_,some w.heap.size,hr',grown cap _ hrelx,rfl,Tp.s rfl rfl,rfl,by simp,fun k hk _=>heap_alloc_old w.drew _ k hk,fun k hk=>by cases hk;exact Or.inr (cq _)⟩
theorem HW.swap{gl:Ctx}{E:Env}{w w':World}{hp:List (Option aN)}(h:HW gl E w hp){b d:Nat}{k k':aN}{g:Option Nat}{sv:Value}{t:Ty}(hb:hp[b]? =some (some k))(hbd:b≠d)
 (hsz:w.heap.size≤w'.heap.size) (hold:∀i,i<w.heap.size→E.g b≠some i→w'.heap[i]? =w.heap[i]?) (ack:∀(c:Nat)(k':aN),hp[c]? =some (some k')→d∉k'.ids)
 (hg:∀i,g=some i→E.g b=some i∨w.heap.size≤i) (hk:RB (E.at d g sv t) w' d k'):HW gl (E.at d g sv t) w' ((hp.set b none).set d (some k')):=by
 have kp:bM E w (E.at d g sv t) w':=⟨fun i hi=>hold i (h.slt i hi) (fun e=>h.jT b k i hb e hi),fun b hb=>hb⟩
 have old:∀(c:Nat)(k2:aN),c≠d→((hp.set b none).set d (some k'))[c]? =some (some k2)→hp[c]? =some (some k2)∧c≠b:=by
  intro c k2 hne hc
  rw[bK,aC (fun e=>hne e.symm),bK] at hc
  split at hc
  ·split at hc<;>cases hc
  ·rename_i e;exact⟨hc,fun e'=>e e'.symm⟩
 have hno:∀(c:Nat)(k2:aN)(i:Nat),hp[c]? =some (some k2)→c≠b→E.has c i→g≠some i:=by
  intro c k2 i hc hcb hgi e
  rcases hg i e with h1|h1
  ·exact hcb (h.dN c b k2 k i hc hb hgi (Or.inl h1))
  ·have:=Own.below h ⟨c,k2,hc,hgi⟩;omega
 refine⟨?_,?_,?_,fun i hi=>sR (h.slt i hi) hsz,h.fT kp,?_⟩
 ·intro c k2 hc
  by_cases e:c=d
  ·subst e
   rw[bK] at hc
   simp only[bC] at hc
   split at hc
   ·cases hc;exact hk
   ·cases hc
  ·obtain⟨hc',hcb⟩:=old c k2 e hc
   refine RB.mono kp (Env.yz ?_) ?_ (fun _ g hg=>by simpa[Env.at,e] using hg) (h.cH c k2 hc')
   ·intro hm
    cases hm with
    |head=>exact e rfl
    |tail _ hm=>exact ack c k2 hc' hm
   ·intro i hi
    exact hold i (Own.below h ⟨c,k2,hc',hi⟩) (fun e'=>hcb (h.dN c b k2 k i hc' hb hi (Or.inl e')))
 ·intro c c' k1 k2 i hc hc' g1 g2
  by_cases e:c=d<;>by_cases e':c'=d
  ·rw[e,e']
  ·subst e
   obtain⟨q1,q2⟩:=old c' k2 e' hc'
   exact absurd (Env.j4.1 g1) (hno c' k2 i q1 q2 ((Env.iU e').1 g2))
  ·subst e'
   obtain⟨q1,q2⟩:=old c k1 e hc
   exact absurd (Env.j4.1 g2) (hno c k1 i q1 q2 ((Env.iU e).1 g1))
  ·exact h.dN c c' k1 k2 i (old c k1 e hc).1 (old c' k2 e' hc').1 ((Env.iU e).1 g1) ((Env.iU e').1 g2)
 ·intro c k1 i hc g1 hs
  by_cases e:c=d
  ·subst e
   rcases hg i (Env.j4.1 g1) with h1|h1
   ·exact h.jT b k i hb h1 hs
   ·have:=h.slt i hs;omega
  ·exact h.dq c k1 i (old c k1 e hc).1 ((Env.iU e).1 g1) hs
 ·intro c k1 i hc g1
  by_cases e:c=d
  ·subst e;simp[Env.at] at g1
  ·have g1:E.P c i:=by simpa[Env.at,e] using g1
   exact sR (h.qG c k1 i (old c k1 e hc).1 g1) hsz
theorem cd.swap{gl:Ctx}{σ:St}{E:Env}{a:Act}{w w':World}(h:cd gl σ E a w){b d:Nat}{k k':aN}{g:Option Nat}{sv:Value}{t:Ty}(hf:σ.fresh d)(hb:σ.hp[b]? =some (some k))(hbd:b≠d)
 (hos:w'.os=w.os) (hta:Tp gl.md w w') (hou:w'.output=w.output) (hsz:w.heap.size≤w'.heap.size) (hold:∀i,i<w.heap.size→E.g b≠some i→w'.heap[i]? =w.heap[i]?)
 (hg:∀i,g=some i→E.g b=some i∨w.heap.size≤i) (hk:RB (E.at d g sv t) w' d k'):
 cd gl {σ with hp:=aO σ.hp [(b,none),(d,some k')]} (E.at d g sv t) a w'∧Ext gl.md (Own σ.hp E) E w (Own (aO σ.hp [(b,none),(d,some k')]) (E.at d g sv t)) (E.at d g sv t) w':=by
 have kp:bM E w (E.at d g sv t) w':=⟨fun i hi=>hold i (h.hw.slt i hi) (fun e=>h.hw.jT b k i hb e hi),fun b hb=>hb⟩
 have hw:=h.hw.swap (w':=w') (sv:=sv) (t:=t) hb hbd hsz hold (fun c k' hk hm=>hf.1 (St.wH hk d hm)) hg hk
 refine⟨h.carry kp (Env.yz hf.1) hw,hos,hta,hou,hsz,?_,fun i hi=>hi,fun i hi=>Or.inl hi,?_,Env.EG hf.2.2⟩
 ·intro i hi hn
  exact hold i hi (fun e=>hn ⟨b,k,hb,Or.inl e⟩)
 ·rintro i ⟨c,k2,hc,hgi⟩
  simp only[aO] at hc
  by_cases e:c=d
  ·subst e
   exact(hg i (Env.j4.1 hgi)).imp (fun h1=>⟨b,k,hb,Or.inl h1⟩) id
  ·have hgi:=(Env.iU e).1 hgi
   rw[bK,aC (fun e'=>e e'.symm),bK] at hc
   split at hc
   ·split at hc<;>cases hc
   ·exact Or.inl ⟨c,k2,hc,hgi⟩
theorem nG.RB{E:Env}{w w':World}{e:TypeId}{bs:Nat}{u:Ty}{v:Value}{g:Option Nat}{xs:List u.den}{d:Nat}(h:nG E w w' e u v g xs)(hu:0<u.size)(hb:xs.length*bs≤aE)(hm:xs.length≤aE)(kp:bM E w (E.at d g v (.arr xs.length u)) w'):
 RB (E.at d g v (.arr xs.length u)) w' d (.row e bs u xs)∧RV (E.at d g v (.arr xs.length u)) w' (.own d) v:=by
 rcases h with⟨rfl,rfl,rfl⟩|⟨i,cap,cur,rfl,rfl,h1,h2,h3,h4,h5⟩
 ·refine⟨⟨by simp[Env.at],by simp,by simp,hu,none,0,by simp[Env.at],by simp[maxLen],Or.inl ⟨⟨rfl,rfl⟩,by simp[Env.at],rfl⟩⟩,RV.dO (Or.inr ⟨rfl,by simp[Env.at],none,0,0,by simp[Env.at]⟩)⟩
 ·refine⟨⟨by simp[Env.at],hb,hm,hu,some ⟨i,0,none⟩,cap,by simp[Env.at],h3,Or.inr ⟨i,cur,by simp[Env.at],rfl,h1,h4,h2,aT.mono (fun _ _=>Rel.mono kp.w kp.S) h5⟩⟩,RV.dO (Or.inr ⟨rfl,by simp[Env.at],some ⟨i,0,none⟩,xs.length,cap,by simp[Env.at]⟩)⟩
theorem zI{P:Program}{G:bT}(T:bB P G){gl:Ctx}{σ:St}{E:Env}{a:Act}{w:World}(h:cd gl σ E a w){hb:Nat→Option aN}(hB:HB hb σ.hp){d:Nat}{t t2 ty:TypeId}{s x:AV}{vs vx:Value}(hs:RV E w s vs)(hx:RV E w x vx){r:fj}
 (he:uh G hb d t t2 s x=some r) (hvc:dH r.vc) (hfr:∀b∈r.fr,σ.fresh b):
 ∃v w' E',(Builtin.append_ #[t,t2] ty #[vs,vx]).run P w= .ok v w'∧cd gl {σ with hp:=aO σ.hp r.hw} E' a w'∧RV E' w' r.v v∧Ext gl.md (Own σ.hp E) E w (Own (aO σ.hp r.hw) E') E' w':=by
 unfold uh at he
 split at he
 ·rename_i td ht
  split at he
  ·rename_i bs u hty
   split at he
   ·rename_i ht2
    have:=bQ ht2;subst this
    obtain⟨te,ie,h1,h2,h3,h4,h5,h6,h7⟩:=T.cP ht hty
    split at he
    ·rename_i ys hys
     have hsl:=xW h.hw hB hx hys
     split at he
     ·cases he
      have hbd:ys.length*bs≤aE:=hvc.1
      have hs:=RV.atom rfl hs
      simp[RC] at hs;subst hs
      obtain⟨v',w',g',r1,r2,r3,r4,r5,r6,r7,r8⟩:=ui (P:=P) T (ty:=ty) ht hty (xs:=[]) (g:=none) (Or.inl ⟨rfl,rfl,rfl⟩) hsl (by simpa using hbd)
      simp only[gO] at r2
      have kp:bM E w (E.at d g' v' (.arr ys.length u)) w':=⟨fun i hi=>r7 i (h.hw.slt i hi) (by simp),fun _ h=>h⟩
      obtain⟨q1,q2⟩:=nG.RB (bs:=bs) (d:=d) r2 h6 hbd (da (Nat.le_mul_of_pos_right _ h7) hbd) kp
      obtain⟨z1,z2⟩:=h.fresh (hfr d (by simp)) (w':=w') (g:=g') (sv:=v') (t:=.arr ys.length u) (k:=.row td.e bs u ys) r3 r4 r5 r6 (fun i hi=>r7 i hi (by simp)) (fun i hi=>(r8 i hi).resolve_left (by simp)) q1
      exact⟨v',w',_,r1,z1,q2,z2⟩
     ·rename_i b
      split at he
      ·rename_i e' bs' u' xs hk
       split at he
       ·rename_i hsame
        split at he
        ·rename_i hc
         simp only[aV,iM] at hc
         have e:=Ty.aB hsame
         subst e
         have:=bQ hc.1.1;subst this
         have:=bQ hc.1.2;subst this
         have hne:b≠d:=fun e=>by subst e;simp at hc
         cases he
         have hbd:(xs.length+ys.length)*bs'≤aE:=hvc.1
         have hs:=RV.atom rfl hs
         obtain⟨hs,_⟩:=hs
         simp at hs;subst hs
         have hkb:=hB b _ hk
         obtain⟨b1,b2,b3,b4,ad,cap,b5,b6,b7⟩:=h.hw.cH b _ hkb
         have hrow:nG E w w td.e u' (E.sv b) (E.g b) xs:=by
          rw[b5]
          rcases b7 with⟨⟨b7,b7'⟩,b8,b9⟩|⟨i,cur,b7,b8,b9,b10,b11,b12⟩
          ·subst b9;subst b7;subst b7';exact Or.inl ⟨rfl,rfl,b8⟩
          ·subst b8;exact Or.inr ⟨i,cap,cur,b7,rfl,b9,b11,b6,b10,b12⟩
         obtain⟨v',w',g',r1,r2,r3,r4,r5,r6,r7,r8⟩:=ui (P:=P) T (ty:=ty) ht hty hrow hsl hbd
         have kp:bM E w (E.at d g' v' (.arr (xs++ys).length u')) w':=⟨fun i hi=>r7 i (h.hw.slt i hi) (fun e=>h.hw.jT b _ i hkb e hi),fun _ h=>h⟩
         have hlen:(xs++ys).length=xs.length+ys.length:=cN
         obtain⟨q1,q2⟩:=nG.RB (bs:=bs') (d:=d) r2 h6 (by rw[hlen];exact hbd) (by rw[hlen];exact da (Nat.le_mul_of_pos_right _ h7) hbd) kp
         obtain⟨z1,z2⟩:=h.swap (hfr d (by simp)) hkb hne r3 r4 r5 r6 r7 r8 q1
         exact⟨v',w',_,r1,z1,q2,z2⟩
        ·cases he
       ·cases he
      ·cases he
     ·cases he
    ·cases he
   ·cases he
  ·cases he
 ·cases he
end Go.Ax
namespace Go.Ax
def xF:Option AV→Option (Option Int)
 |none=>some none
 |some (.val (.int _) i)=>some (some i)
 |some _=>none
def RO(E:Env)(w:World):Option AV→Option Value→Prop
 |none,none=>True
 |some x,some v=>RV E w x v
 |_,_=>False
def cz(lo hi mx:Option Int)(n:Nat):Nat×Nat×List VC:=
 match lo,hi,mx with
 |none,none,none=>(0,n,[])
 |some l,none,none=>(l.toNat,n,[vc (0≤l),vc (l≤n)])
 |none,some h,none=>(0,h.toNat,[vc (0≤h),vc (h≤n)])
 |some l,some h,none=>(l.toNat,h.toNat,[vc (0≤l),vc (l≤h),vc (h≤n)])
 |none,some h,some m=>(0,h.toNat,[vc (0≤h),vc (h≤m),vc (m≤n)])
 |some l,some h,some m=>(l.toNat,h.toNat,[vc (0≤l),vc (l≤h),vc (h≤m),vc (m≤n)])
 |_,none,some _=>(0,0,[vc False])
theorem rC{P:Program}{E:Env}{w:World}{lo hi mx:Option AV}{vl vh vm:Option Value}{l h m:Option Int}(hl:RO E w lo vl)(hh:RO E w hi vh)(hm:RO E w mx vm)(el:xF lo=some l)(eh:xF hi=some h)(em:xF mx=some m)
 (Es:Bool) (n cap:Nat) (hn:n≤cap) (hvc:dH (cz l h m n).2.2):
 ∃mm,(Instr.sliceBounds Es n cap vl vh vm).run P w= .ok ((cz l h m n).1,(cz l h m n).2.1,mm) w∧(cz l h m n).1≤(cz l h m n).2.1∧(cz l h m n).2.1≤n∧(cz l h m n).2.1≤mm∧mm≤cap∧(m=none→mm=cap):=by
 have key:∀{x:Option AV}{v:Option Value}{i:Option Int},RO E w x v→xF x=some i→(i=none∧v=none)∨∃k j,i=some j∧v=some (.int k j):=by
  intro x v i hr hb
  cases x with
  |
   none=>cases v with
   |none=>cases hb;exact Or.inl ⟨rfl,rfl⟩
   |some v=>exact hr.elim
  |
   some x=>cases v with
   |none=>exact hr.elim
   |
    some v=>
    cases x with
    |
     val t y=>
     cases t<;>simp[xF] at hb
     rename_i k
     obtain⟨rfl,_⟩:=RV.dh hr
     exact Or.inr ⟨k,y,hb.symm,rfl⟩
    |_=>simp[xF] at hb
 rcases key hl el with⟨rfl,rfl⟩|⟨kl,jl,rfl,rfl⟩<;>rcases key hh eh with⟨rfl,rfl⟩|⟨kh,jh,rfl,rfl⟩<;>rcases key hm em with⟨rfl,rfl⟩|⟨km,jm,rfl,rfl⟩
 ·exact⟨cap,by simp[Instr.sliceBounds,cz],by simp[cz],by simp[cz],by simpa[cz] using hn,cq _,fun _=>rfl⟩
 ·exact hvc.1.elim
 ·obtain⟨h1,h2,_⟩:=hvc
  refine⟨cap,?_,by simp[cz],by simp[cz];omega,by simp[cz];omega,cq _,fun _=>rfl⟩
  have b1:(jh:Int)≤cap:=by omega
  simp[Instr.sliceBounds,cz,run_sliceBound (P:=P) w kh jh cap _ h1 b1]
 ·obtain⟨h1,h2,h3,_⟩:=hvc
  refine⟨jm.toNat,?_,by simp[cz],by simp[cz];omega,by simp[cz];omega,by omega,fun h=>by cases h⟩
  have b1:(jm:Int)≤cap:=by omega
  have b2:(jh:Int)≤(jm.toNat:Nat):=by omega
  simp[Instr.sliceBounds,cz,run_sliceBound (P:=P) w km jm cap _ (by omega) b1,run_sliceBound (P:=P) w kh jh jm.toNat _ h1 b2]
 ·obtain⟨h1,h2,_⟩:=hvc
  refine⟨cap,?_,by simp[cz];omega,by simp[cz],by simp[cz];omega,cq _,fun _=>rfl⟩
  simp[Instr.sliceBounds,cz,run_sliceBound (P:=P) w kl jl n _ h1 h2]
 ·exact hvc.1.elim
 ·obtain⟨h1,h2,h3,_⟩:=hvc
  refine⟨cap,?_,by simp[cz];omega,by simp[cz];omega,by simp[cz];omega,cq _,fun _=>rfl⟩
  have b1:(jh:Int)≤cap:=by omega
  have b2:(jl:Int)≤(jh.toNat:Nat):=by omega
  simp[Instr.sliceBounds,cz,run_sliceBound (P:=P) w kh jh cap _ (by omega) b1,run_sliceBound (P:=P) w kl jl jh.toNat _ h1 b2]
 ·obtain⟨h1,h2,h3,h4,_⟩:=hvc
  refine⟨jm.toNat,?_,by simp[cz];omega,by simp[cz];omega,by simp[cz];omega,by omega,fun h=>by cases h⟩
  have b1:(jm:Int)≤cap:=by omega
  have b2:(jh:Int)≤(jm.toNat:Nat):=by omega
  have b3:(jl:Int)≤(jh.toNat:Nat):=by omega
  simp[Instr.sliceBounds,cz,run_sliceBound (P:=P) w km jm cap _ (by omega) b1,run_sliceBound (P:=P) w kh jh jm.toNat _ (by omega) b2,run_sliceBound (P:=P) w kl jl jh.toNat _ h1 b3]
def hJ{α:Type}(xs:List α)(l h:Nat):List α:=(xs.drop l).take (h -l)
def zJ(G:bT)(hb:Nat→Option aN)(t:TypeId)(x:AV)(l h m:Option Int):Option (AV×List VC):=
 match G.at t with
 |
  some td=>
  match td.ty,x with
  | .slice bs u,.val (.slice bs' u') xs=>if Nat.beq bs bs'&&Ty.same u u' then some (.val (.slice bs' u') (hJ xs (cz l h m xs.length).1 (cz l h m xs.length).2.1),(cz l h m xs.length).2.2) else none
  | .slice _ _,.bA=>some (.bA,(cz l h m 0).2.2)
  |
   .slice _ u,.own b=>match hb b,m with
   |some (.row _ _ u' xs),none=>if Ty.same u u' then some (.jR b (cz l h none xs.length).1 ((cz l h none xs.length).2.1 -(cz l h none xs.length).1),(cz l h none xs.length).2.2) else none
   |_,_=>none
  |
   .slice _ u,.jR b lo len=>match hb b,m with
   |some (.row _ _ u' _),none=>if Ty.same u u' then some (.jR b (lo+(cz l h none len).1) ((cz l h none len).2.1 -(cz l h none len).1),(cz l h none len).2.2) else none
   |_,_=>none
  |
   .slice _ u,.jb b p lo len=>match hb b with
   |
    some (.var tt _)=>match tt.sub p with
    |some (.arr _ u')=>if Ty.same u u' then some (.jb b p (lo+(cz l h m len).1) ((cz l h m len).2.1 -(cz l h m len).1),(cz l h m len).2.2) else none
    |_=>none
   |_=>none
  |
   .arr n u,.ptr b p=>match hb b with
   |
    some k=>match(iP k).sub p with
    |some (.arr n' u')=>if Ty.same u u'&&Nat.beq n n' then some (.jb b p (cz l h m n).1 ((cz l h m n).2.1 -(cz l h m n).1),(cz l h m n).2.2) else none
    |_=>none
   |_=>none
  | .arr n u,.bN (.arr n' u') xs=>if Ty.same u u'&&Nat.beq n n'&&Nat.ble (n*td.e2) aE&&Nat.ble n aE then some (.val (.slice td.e2 u') (hJ xs (cz l h m n).1 (cz l h m n).2.1),(cz l h m n).2.2) else none
  |
   .str,.val .str s=>match m with
   |none=>some (.val .str (hJ s (cz l h none s.length).1 (cz l h none s.length).2.1),(cz l h none s.length).2.2)
   |some _=>none
  |_,_=>none
 |none=>none
def xX(G:bT)(hb:Nat→Option aN)(t:TypeId)(x:AV)(lo hi mx:Option AV):Option (AV×List VC):=
 match xF lo,xF hi,xF mx with
 |some l,some h,some m=>zJ G hb t x l h m
 |_,_,_=>none
theorem Addr.gr(g o k:Nat):((⟨g,o,none⟩:Addr).add k)=⟨g,o+k,none⟩:=by
 unfold Addr.add;split<;>simp_all
theorem ia{P:Program}{w:World}{t e:TypeId}{sz n cap L H mm:Nat}{a:Option Addr}{vl vh vm:Option Value}(h1:P.underlying t=some (.slice e))(hsz:(sizeOf e).run P w= .ok sz w)(hb:(Instr.sliceBounds true n cap vl vh vm).run P w= .ok (L,H,mm) w):
 (Instr.sliceAt t (.slice a n cap) vl vh vm).run P w= .ok (.slice (if mm=L then a else a.map (·.add (L*sz))) (H -L) (mm -L)) w:=by
 simp[Instr.sliceAt,Instr.slice,underlying,h1,hb,hsz]
theorem pE{P:Program}{w:World}{t e:TypeId}{sz n L H mm:Nat}{a:Addr}{vl vh vm:Option Value}(h1:P.underlying t=some (.array n e))(hsz:(sizeOf e).run P w= .ok sz w)(hb:(Instr.sliceBounds false n n vl vh vm).run P w= .ok (L,H,mm) w):
 (Instr.sliceAt t (.pointer (some a)) vl vh vm).run P w= .ok (.slice (some (if mm=L then a else a.add (L*sz))) (H -L) (mm -L)) w:=by
 simp[Instr.sliceAt,Instr.sureAddr,underlying,h1,hb,hsz]
theorem BH{P:Program}{G:bT}(T:bB P G){gl:Ctx}{E:Env}{w:World}{hp:List (Option aN)}(hw:HW gl E w hp){hb:Nat→Option aN}(hB:HB hb hp){t:TypeId}{x u:AV}{vx:Value}{lo hi mx:Option AV}{vl vh vm:Option Value}{vc:List VC}
 (hx:RV E w x vx) (hl:RO E w lo vl) (hh:RO E w hi vh) (hm:RO E w mx vm) (he:xX G hb t x lo hi mx=some (u,vc)) (hvc:dH vc):
 ∃v,(Instr.sliceAt t vx vl vh vm).run P w= .ok v w∧RV E w u v:=by
 unfold xX at he
 split at he
 ·rename_i l h m el eh em
  have B:=fun Es n cap hn hv=>rC (P:=P) hl hh hm el eh em Es n cap hn hv
  unfold zJ at he
  split at he
  ·rename_i td ht
   split at he
   ·rename_i bs u bs' u' xs hty
    split at he
    ·rename_i hc
     cases he
     simp only[aV] at hc
     have:=bQ hc.1;subst this
     have:=Ty.aB hc.2;subst this
     obtain⟨te,ie,h1,h2,h3,h4,h5,h6,h7⟩:=T.cP ht hty
     have hsz:=T.size h2 w
     rw[h3] at hsz
     obtain⟨a,cap,e,q1,q2,q3,q4⟩:=RV.atom rfl hx
     simp at e;subst e
     obtain⟨mm,b1,b2,b3,b4,b5,b6⟩:=B true xs.length cap q1 hvc
     generalize (cz l h m xs.length).1=L at*
     generalize (cz l h m xs.length).2.1=H at*
     refine⟨_,ia h1 hsz b1,?_⟩
     have hlen:(hJ xs L H).length=H -L:=by simp[hJ];omega
     refine RV.dO (Or.inr ⟨rfl,_,_,by rw[hlen],by rw[hlen];omega,by rw[hlen];exact da (fv _ (by omega)) q2,by rw[hlen];omega,?_⟩)
     rcases mb (H -L) with hz|hz
     ·exact Or.inl (nk (by rw[hlen];exact hz))
     ·rcases q4 with q4|⟨b,o,cs,e1,e2,e3,e4⟩
      ·subst q4;simp at b3;omega
      ·subst e1
       obtain⟨cs',z1,z2⟩:=aT.part e3 e4 L (H -L)
       refine Or.inr ⟨b,o+L*u.size,cs',?_,e2,z1,z2⟩
       rw[aC (by omega)]
       simp[Addr.gr]
    ·cases he
   ·rename_i hty
    cases he
    obtain⟨te,ie,h1,h2,h3,h4,h5,h6,h7⟩:=T.cP ht hty
    have hsz:=T.size h2 w
    have hx:=RV.atom rfl hx
    simp[RC] at hx;subst hx
    obtain⟨mm,b1,b2,b3,b4,b5,b6⟩:=B true 0 0 (cq _) hvc
    generalize (cz l h m 0).1=L at*
    generalize (cz l h m 0).2.1=H at*
    have:L=0:=by omega
    have:H=0:=by omega
    have:mm=0:=by omega
    subst_vars
    exact⟨.slice none 0 0,by rw[ia h1 hsz b1];simp,RV.dO (Or.inr ⟨rfl,rfl⟩)⟩
   ·rename_i bs u b hty
    split at he
    ·rename_i e0 bs0 u' xs hk
     split at he
     ·rename_i hc
      cases he
      have:=Ty.aB hc;subst this
      obtain⟨te,ie,h1,h2,h3,h4,h5,h6,h7⟩:=T.cP ht hty
      have hsz:=T.size h2 w
      rw[h3] at hsz
      have hx:=RV.atom rfl hx
      obtain⟨hx,_⟩:=hx
      simp at hx;subst hx
      obtain⟨q1,q2,q3,q4,a,cap,q5,q6,q7⟩:=hw.cH b _ (hB b _ hk)
      have hnc:xs.length≤cap:=by
       rcases q7 with⟨_,_,q9⟩|⟨_,_,_,_,_,_,q11,_⟩
       ·subst q9;simp
       ·exact q11
      obtain⟨mm,b1,b2,b3,b4,b5,b6⟩:=B true xs.length cap hnc hvc
      have:=b6 rfl;subst this
      generalize (cz l h none xs.length).1=L at*
      generalize (cz l h none xs.length).2.1=H at*
      rw[q5]
      refine⟨_,ia h1 hsz b1,RV.dO (Or.inr ⟨rfl,a,mm,xs.length,u,q1,q5,by omega,hnc,_,rfl,?_⟩)⟩
      by_cases hL:L=0
      ·refine Or.inr ?_
       split
       ·subst hL
        rcases q7 with⟨⟨_,q9⟩,_⟩|⟨g,cc,q7,q8,_⟩
        ·rw[q9];rfl
        ·rw[q8];simp[Addr.gr]
       ·rfl
      ·rcases mb (H -L) with hz|hz
       ·exact Or.inl ⟨hz,hL⟩
       ·exact Or.inr (by rw[aC (by omega)])
     ·cases he
    ·cases he
   ·rename_i bs u b lo' len hty
    split at he
    ·rename_i e0 bs0 u' xs hk
     split at he
     ·rename_i hc
      cases he
      have:=Ty.aB hc;subst this
      obtain⟨te,ie,h1,h2,h3,h4,h5,h6,h7⟩:=T.cP ht hty
      have hsz:=T.size h2 w
      rw[h3] at hsz
      obtain⟨a,c,n,tt,r1,r2,r3,r4,a2,e,r6⟩:=RV.atom rfl hx
      simp at e;subst e
      obtain⟨q1,q2,q3,q4,a',cap,q5,q6,q7⟩:=hw.cH b _ (hB b _ hk)
      rw[q1] at r1;cases r1
      obtain⟨mm,b1,b2,b3,b4,b5,b6⟩:=B true len (c -lo') (by omega) hvc
      have:=b6 rfl;subst this
      generalize (cz l h none len).1=L at*
      generalize (cz l h none len).2.1=H at*
      refine⟨_,ia h1 hsz b1,RV.dO (Or.inr ⟨rfl,a,c,xs.length,u,q1,r2,by omega,r4,_,by rw[Nat.sub_sub],?_⟩)⟩
      by_cases hL:lo'+L=0
      ·have h1:lo'=0:=by omega
       have h2:L=0:=by omega
       subst h1;subst h2
       refine Or.inr ?_
       rcases r6 with r6|r6
       ·exact absurd rfl r6.2
       ·rw[r6]
        rw[r2] at q5;cases q5
        rcases q7 with⟨⟨_,q9⟩,_⟩|⟨g,cc,q7,q8,_⟩
        ·rw[q9];split<;>rfl
        ·rw[q8];split<;>simp[Addr.gr]
      rcases mb (H -L) with hz|hz
      ·exact Or.inl ⟨hz,hL⟩
      ·refine Or.inr ?_
       rw[aC (by omega)]
       rcases r6 with r6|r6
       ·omega
       ·rw[r6]
        rcases q7 with⟨_,_,q9⟩|⟨g,cc,q7,q8,q9,q10,q11,q12⟩
        ·subst q9;simp at r3;omega
        ·rw[r2] at q5;cases q5
         subst q8
         simp[Addr.gr,cM]
     ·cases he
    ·cases he
   ·rename_i bs u b p lo' len hty
    split at he
    ·rename_i tt v hk
     split at he
     ·rename_i n u' abU
      split at he
      ·rename_i hc
       cases he
       have:=Ty.aB hc;subst this
       obtain⟨te,ie,h1,h2,h3,h4,h5,h6,h7⟩:=T.cP ht hty
       have hsz:=T.size h2 w
       rw[h3] at hsz
       obtain⟨n2,t2,r1,r2,r3,a,cap,e,r4,r5⟩:=RV.atom rfl hx
       simp at e;subst e
       obtain⟨q1,_⟩:=hw.cH b _ (hB b _ hk)
       have r1':=r1
       rw[q1,abU] at r1';cases r1'
       obtain⟨mm,b1,b2,b3,b4,b5,b6⟩:=B true len cap r4 hvc
       generalize (cz l h m len).1=L at*
       generalize (cz l h m len).2.1=H at*
       refine⟨_,ia h1 hsz b1,RV.dO (Or.inr ⟨rfl,n,u,r1,r2,by omega,_,_,rfl,by omega,?_⟩)⟩
       rcases mb (H -L) with hz|hz
       ·exact Or.inl hz
       ·rcases r5 with r5|⟨g,r5,r6⟩
        ·omega
        ·refine Or.inr ⟨g,r5,?_⟩
         rw[aC (by omega),r6]
         simp[Addr.gr,cM,Nat.add_assoc]
      ·cases he
     ·cases he
    ·cases he
   ·rename_i n u b p hty
    split at he
    ·rename_i kk hk
     split at he
     ·rename_i n' u' abU
      split at he
      ·rename_i hc
       cases he
       simp only[aV] at hc
       have:=Ty.aB hc.1;subst this
       have:=bQ hc.2;subst this
       obtain⟨te,h1,h2,h3⟩:=T.oQ ht hty
       have hsz:=T.size h2 w
       rw[h3] at hsz
       obtain⟨g,hg,e,hv⟩:=RV.atom rfl hx
       simp at e;subst e
       have hbt:=RB.bt (hw.cH b kk (hB b kk hk)) (mP (q:=.idx 0) (s:=u) abU (by simp[Ty.sub,Ty.BX]))
       rw[←hbt] at abU
       obtain⟨mm,b1,b2,b3,b4,b5,b6⟩:=B false n n (cq _) hvc
       generalize (cz l h m n).1=L at*
       generalize (cz l h m n).2.1=H at*
       refine⟨_,pE h1 hsz b1,RV.dO (Or.inr ⟨rfl,n,u,abU,hv,by omega,_,_,rfl,by omega,?_⟩)⟩
       rcases mb (H -L) with hz|hz
       ·exact Or.inl hz
       ·refine Or.inr ⟨g,hg,?_⟩
        rw[aC (by omega)]
        simp[Addr.gr]
      ·cases he
     ·cases he
    ·cases he
   ·rename_i n u n' u' xs hty
    split at he
    ·rename_i hc
     cases he
     simp only[aV] at hc
     have:=Ty.aB hc.1.1.1;subst this
     have:=bQ hc.1.1.2;subst this
     have hc1:=fc hc.1.2
     have hc2:=fc hc.2
     obtain⟨te,h1,h2,h3⟩:=T.oQ ht hty
     have hsz:=T.size h2 w
     rw[h3] at hsz
     obtain⟨b,o,cs,e,q1,q2,q3⟩:=RV.atom rfl hx
     simp at e;subst e
     obtain⟨hn,q3⟩:=q3
     obtain⟨mm,b1,b2,b3,b4,b5,b6⟩:=B false n n (cq _) hvc
     generalize (cz l h m n).1=L at*
     generalize (cz l h m n).2.1=H at*
     have hlen:(hJ xs L H).length=H -L:=by simp[hJ];omega
     refine⟨_,pE h1 hsz b1,RV.dO (Or.inr ⟨rfl,_,_,by rw[hlen],by rw[hlen];omega,by rw[hlen];exact da (fv _ (by omega)) hc1,by rw[hlen];omega,?_⟩)⟩
     rcases mb (H -L) with hz|hz
     ·exact Or.inl (nk (by rw[hlen];exact hz))
     ·obtain⟨cs',z1,z2⟩:=aT.part q2 q3 L (H -L)
      refine Or.inr ⟨b,o+L*u.size,cs',?_,q1,z1,z2⟩
      rw[aC (by omega)]
      simp[Addr.gr]
    ·cases he
   ·rename_i s hty
    split at he
    ·cases he
     have h1:=T.strOf ht hty
     obtain⟨rfl,h2⟩:=RV.gu hx
     obtain⟨mm,b1,b2,b3,b4,b5,b6⟩:=B false s.length s.length (cq _) hvc
     have hvm:vm=none:=by
      cases vm with
      |none=>rfl
      |
       some v=>
       cases mx with
       |none=>exact hm.elim
       |some x=>cases x<;>first|(simp[xF] at em;done)|(rename_i t y;cases t<;>simp[xF] at em)
     subst hvm
     generalize (cz l h none s.length).1=L at*
     generalize (cz l h none s.length).2.1=H at*
     refine⟨.string ((⟨s.toArray⟩:ByteArray).extract L H),by simp[Instr.sliceAt,Instr.slice,underlying,h1,rM,b1],?_⟩
     have:(⟨s.toArray⟩:ByteArray).extract L H=⟨(hJ s L H).toArray⟩:=by
      apply ByteArray.ext
      rw[ByteArray.data_extract]
      apply fw
      simp[hJ,List.extract_eq_take_drop]
     rw[this]
     refine RV.str ?_
     have:(hJ s L H).length=H -L:=by simp[hJ];omega
     omega
    ·cases he
   ·cases he
  ·cases he
 ·cases he
end Go.Ax
namespace Go.Ax
def lz(G:bT)(d:Nat)(t:TypeId)(l c:Int):Option fj:=
 match G.at t with
 |
  some td=>match td.ty with
  | .slice bs u=>if u.pure then some ⟨.own d,[(d,some (.row td.e bs u (List.replicate l.toNat u.aD)))],[d],[vc (0≤l),vc (l≤c),vc (c*(bs:Int)≤aE)]⟩ else none
  |_=>none
 |none=>none
def lA(G:bT)(d:Nat)(t:TypeId)(l c:Int):Option fj:=
 match G.at t with
 |
  some td=>match td.ty with
  |
   .slice bs (.slice bs2 t2)=>match G.at td.e with
   |some te=>if t2.pure&&Nat.blt 0 t2.size then some ⟨.own d,[(d,some (.cL td.e bs (.slice bs2 t2) (List.replicate l.toNat []) te.e none))],[d],[vc (0≤l),vc (l≤c),vc (c*(bs:Int)≤aE)]⟩ else none
   |none=>none
  |_=>none
 |none=>none
def mD(G:bT)(d:Nat)(t:TypeId):AV→AV→Option fj
 |
  .val (.int _) l,.val (.int _) c=>match lA G d t l c with
  |some r=>some r
  |none=>lz G d t l c
 |_,_=>none
theorem uj{w:World}{S:Nat→Prop}{u:Ty}{cs:List Value}{n m:Nat}(h:aT (Rel w S u) cs (List.replicate n u.aD))(hm:m≤n):aT (Rel w S u) (cs.take (m*u.size)) (List.replicate m u.aD):=by
 have:=aT.take (n:=u.size) (fun _ _ h=>Rel.len h) m h
 rwa [List.take_replicate,iN hm] at this
theorem rD{P:Program}{G:bT}(T:bB P G){gl:Ctx}{σ:St}{E:Env}{a:Act}{w:World}(h:cd gl σ E a w){d:Nat}{t:TypeId}{k k':IntKind}{l c:Int}{r:fj}
 (he:lz G d t l c=some r) (hvc:dH r.vc) (hfr:∀b∈r.fr,σ.fresh b):
 ∃v w' E',(Instr.makeSlice t (.int k l) (.int k' c)).run P w= .ok v w'∧cd gl {σ with hp:=aO σ.hp r.hw} E' a w'∧RV E' w' r.v v∧Ext gl.md (Own σ.hp E) E w (Own (aO σ.hp r.hw) E') E' w':=by
 unfold lz at he
 split at he
 ·rename_i td ht
  split at he
  ·rename_i bs u hty
   split at he
   ·rename_i hpure
    cases he
    obtain⟨v1,v2,v3,_⟩:=hvc
    obtain⟨te,ie,h1,h2,h3,h4,h5,h6,h7⟩:=T.cP ht hty
    obtain⟨i',d',h1i,_,hsz,_,z,hz,hz1,_⟩:=T.info h2
    rw[h4] at h1i;cases h1i
    rw[h3] at hsz hz1
    have hcm:(c:Int)≤aE:=Int.le_trans (by
     have:c*1≤c*(bs:Int):=Int.mul_le_mul_of_nonneg_left (by omega) (by omega)
     omega) v3
    have hb':(ie.bytes:Int)*c≤281474976710656:=by
     rw[h5,Int.mul_comm];unfold aE at v3;omega
    have abW:=run_make (P:=P) w t td.e ie z h1 h4 hz k k' l c v1 v2 hb' (by unfold aE at hcm;omega)
    rw[hsz] at abW
    have acf:=(fA (E:=E) (w:=w) hz1).2 hpure
    have hmade:=qv acf h6 c.toNat z.cells rfl
    have hcells:(madeCells z.cells (c.toNat*u.size))=((Array.range (c.toNat*u.size)).map (z.cells[· % z.cells.size]!)):=by
     simp[madeCells]
    rw[hcells] at abW
    have hle:l.toNat≤c.toNat:=by omega
    have hrow:nG E w (w.alloc (.cells ((Array.range (c.toNat*u.size)).map (z.cells[· % z.cells.size]!)) td.e)) td.e u (.slice (some ⟨w.heap.size,0,none⟩) l.toNat c.toNat) (some w.heap.size) (List.replicate l.toNat u.aD):=by
     refine Or.inr ⟨w.heap.size,c.toNat,_,rfl,by simp,heap_alloc_new w _,by simpa using hle,?_,by simp,?_⟩
     ·unfold aE at hcm;unfold maxLen;omega
     ·rw[fO]
      exact uj hmade hle
    have kp:bM E w (E.at d (some w.heap.size) (.slice (some ⟨w.heap.size,0,none⟩) l.toNat c.toNat) (.arr (List.replicate l.toNat u.aD).length u)) (w.alloc (.cells ((Array.range (c.toNat*u.size)).map (z.cells[· % z.cells.size]!)) td.e)):=
     ⟨fun b hb=>heap_alloc_old w _ b (h.hw.slt b hb),fun b hb=>hb⟩
    have hlb:l.toNat*bs≤aE:=by
     have:((l.toNat*bs:Nat):Int)≤c*(bs:Int):=by
      rw[Int.natCast_mul]
      exact Int.mul_le_mul_of_nonneg_right (by omega) (by omega)
     omega
    obtain⟨q1,q2⟩:=nG.RB (bs:=bs) (d:=d) hrow h6 (by simpa using hlb) (by simp;omega) kp
    obtain⟨z1,z2⟩:=h.fresh (hfr d (by simp)) (w':=w.alloc _) (g:=some w.heap.size) rfl (Tp.r rfl rfl) rfl (by simp) (fun i hi=>heap_alloc_old w _ i hi) (fun i hi=>by cases hi;exact cq _) q1
    exact⟨_,_,_,abW,z1,q2,z2⟩
   ·cases he
  ·cases he
 ·cases he
theorem rE{P:Program}{G:bT}(T:bB P G){gl:Ctx}{σ:St}{E:Env}{a:Act}{w:World}(h:cd gl σ E a w){d:Nat}{t:TypeId}{k k':IntKind}{l c:Int}{r:fj}
 (he:lA G d t l c=some r) (hvc:dH r.vc) (hfr:∀b∈r.fr,σ.fresh b):
 ∃v w' E',(Instr.makeSlice t (.int k l) (.int k' c)).run P w= .ok v w'∧cd gl {σ with hp:=aO σ.hp r.hw} E' a w'∧RV E' w' r.v v∧Ext gl.md (Own σ.hp E) E w (Own (aO σ.hp r.hw) E') E' w':=by
 unfold lA at he
 split at he
 ·rename_i td ht
  split at he
  ·rename_i bs bs2 u hty
   split at he
   ·rename_i te hte
    split at he
    ·rename_i hpure
     cases he
     simp only[aV] at hpure
     have hpos:0<u.size:=by have:=hpure.2;simp[Nat.blt] at this;omega
     obtain⟨v1,v2,v3,_⟩:=hvc
     obtain⟨te',ie,h1,h2,h3,h4,h5,h6,h7⟩:=T.cP ht hty
     obtain⟨i',d',h1i,_,hsz,_,z,hz,hz1,_⟩:=T.info h2
     rw[h4] at h1i;cases h1i
     rw[h3] at hsz hz1
     have hcm:(c:Int)≤aE:=Int.le_trans (by
      have:c*1≤c*(bs:Int):=Int.mul_le_mul_of_nonneg_left (by omega) (by omega)
      omega) v3
     have hb':(ie.bytes:Int)*c≤281474976710656:=by
      rw[h5,Int.mul_comm];unfold aE at v3;omega
     have abW:=run_make (P:=P) w t td.e ie z h1 h4 hz k k' l c v1 v2 hb' (by unfold aE at hcm;omega)
     rw[hsz] at abW
     have hzc:z.cells= #[Value.slice none 0 0]:=by
      cases hl:z.cells.toList with
      |nil=>rw[hl] at hz1;simp[kB] at hz1
      |
       cons y ys=>
       cases ys with
       |cons _ _=>rw[hl] at hz1;simp[kB] at hz1
       |
        nil=>
        rw[hl] at hz1
        have hz1:isZero (.slice bs2 u) y=true:=hz1
        apply fw
        rw[hl]
        cases y with
        |
         slice a n m=>
         cases a with
         |some _=>simp[isZero] at hz1
         |none=>cases n<;>cases m<;>simp_all[isZero]
        |_=>simp[isZero] at hz1
     have hcells:(madeCells z.cells (c.toNat*(Ty.slice bs2 u).size))=((Array.range c.toNat).map (fun _=>Value.slice none 0 0)):=by
      rw[hzc]
      have:(Ty.slice bs2 u).size=1:=rfl
      rw[this,Nat.mul_one]
      apply Array.ext
      ·simp[madeCells]
      ·intro i hi hi2
       simp[madeCells,Nat.mod_one]
     rw[hcells] at abW
     have hlb:l.toNat*bs≤aE:=by
      have:((l.toNat*bs:Nat):Int)≤c*(bs:Int):=by
       rw[Int.natCast_mul]
       exact Int.mul_le_mul_of_nonneg_right (by omega) (by omega)
      omega
     obtain⟨z1,z2⟩:=h.fresh (hfr d (by simp)) (w':=w.alloc (.cells ((Array.range c.toNat).map (fun _=>Value.slice none 0 0)) td.e)) (g:=some w.heap.size) (sv:=.slice (some ⟨w.heap.size,0,none⟩) l.toNat c.toNat) (t:=.arr l.toNat (.slice bs2 u))
      (k:=.cL td.e bs (.slice bs2 u) (List.replicate l.toNat []) te.e none) rfl (Tp.r rfl rfl) rfl (by simp) (fun i hi=>heap_alloc_old w _ i hi) (fun i hi=>by cases hi;exact cq _)
      (by
       refine⟨by simp[Env.at,nv],rfl,by simpa using hlb,by simp;omega,fun i v hv=>(by cases hv),w.heap.size,c.toNat,_,fun _=>none,by simp[Env.at],by unfold aE at hcm;unfold maxLen;omega,by simp[Env.at],heap_alloc_new w _,by simp,by simp;omega,⟨fun i u hu=>(by cases hu),fun i j u hu=>(by cases hu)⟩,?_⟩
       intro i x hx
       rw[jX] at hx
       split at hx
       ·rename_i hi
        cases hx
        refine⟨.slice none 0 0,?_,fun v hv=>(by cases hv),fun _=>⟨by simp,by simp,hpos,none,0,rfl,gG _,Or.inl ⟨⟨rfl,rfl⟩,rfl,rfl⟩⟩⟩
        rw[Array.getElem?_map,Array.getElem?_range]
        rw[aA (by omega)];rfl
       ·cases hx)
     exact⟨_,_,_,abW,z1,RV.dO (Or.inr ⟨rfl,by simp[RC,Env.at]⟩),z2⟩
    ·cases he
   ·cases he
  ·cases he
 ·cases he
theorem uk{P:Program}{G:bT}(T:bB P G){gl:Ctx}{σ:St}{E:Env}{a:Act}{w:World}(h:cd gl σ E a w){d:Nat}{t:TypeId}{l c:AV}{vl vc:Value}(hl:RV E w l vl)(hc:RV E w c vc){r:fj}
 (he:mD G d t l c=some r) (hvc:dH r.vc) (hfr:∀b∈r.fr,σ.fresh b):
 ∃v w' E',(Instr.makeSlice t vl vc).run P w= .ok v w'∧cd gl {σ with hp:=aO σ.hp r.hw} E' a w'∧RV E' w' r.v v∧Ext gl.md (Own σ.hp E) E w (Own (aO σ.hp r.hw) E') E' w':=by
 unfold mD at he
 split at he
 ·obtain⟨rfl,_⟩:=RV.dh hl
  obtain⟨rfl,_⟩:=RV.dh hc
  split at he
  ·rename_i hp
   cases he
   exact rE T h hp hvc hfr
  ·exact rD T h he hvc hfr
 ·cases he
def bytesOf(s:List UInt8):List Int:=s.map fun b=>(b.toNat:Int)
def strOf(xs:List Int):List UInt8:=xs.map fun n=>UInt8.ofNat n.toNat
def xY(G:bT)(hb:Nat→Option aN)(s d:TypeId)(x:AV):Option AV:=
 match G.at s,G.at d with
 |
  some ts,some td=>match ts.ty,td.ty,x with
  | .str,.slice 1 (.int .u8),.val .str y=>(match G.at td.e with|some te=>if Ty.same te.ty (.int .u8) then some (.val (.slice 1 (.int .u8)) (bytesOf y)) else none|none=>none)
  | .str,.str,.val .str y=>some (.val .str y)
  | .slice 1 (.int .u8),.str,x=>(Gm hb 1 (.int .u8) x).map fun xs=>.val .str (strOf xs)
  |_,_,_=>none
 |_,_=>none
theorem cd.MD{gl:Ctx}{σ:St}{E:Env}{a:Act}{w w':World}(h:cd gl σ E a w)(hos:w'.os=w.os)(hta:Tp gl.md w w')(hou:w'.output=w.output)(hsz:w'.heap.size=w.heap.size+1)(hold:∀i,i<w.heap.size→w'.heap[i]? =w.heap[i]?):
 cd gl σ {E with S:=fun i=>E.S i∨i=w.heap.size} a w'∧Ext gl.md (Own σ.hp E) E w (Own σ.hp {E with S:=fun i=>E.S i∨i=w.heap.size}) {E with S:=fun i=>E.S i∨i=w.heap.size} w':=by
 have kp:bM E w {E with S:=fun i=>E.S i∨i=w.heap.size} w':=⟨fun b hb=>hold b (h.hw.slt b hb),fun b hb=>Or.inl hb⟩
 have hw:HW gl {E with S:=fun i=>E.S i∨i=w.heap.size} w' σ.hp:=by
  refine⟨fun b k hb=>RB.mono kp (fun _ _=>⟨rfl,rfl,rfl⟩) (fun g hg=>hold g (Own.below h.hw ⟨b,k,hb,hg⟩)) (fun _ _ h=>h) (h.hw.cH b k hb),h.hw.dN,?_,?_,h.hw.fT kp,fun b k g hb hg=>by have:=h.hw.qG b k g hb hg;omega⟩
  ·rintro b k g hb hg (hs|hs)
   ·exact h.hw.dq b k g hb hg hs
   ·have:=Own.below h.hw ⟨b,k,hb,hg⟩;omega
  ·rintro g (hs|hs)
   ·have:=h.hw.slt g hs;omega
   ·omega
 refine⟨h.carry kp (fun _ _=>⟨rfl,rfl,rfl⟩) hw,hos,hta,hou,by omega,fun g hg _=>hold g hg,fun g hg=>Or.inl hg,?_,fun g hg=>Or.inl hg,fun _ _=>⟨rfl,rfl,rfl⟩⟩
 rintro g (hs|hs)
 ·exact Or.inl hs
 ·exact Or.inr (Or.inr (by omega))
theorem vL{w:World}{S:Nat→Prop}:∀(l:List UInt8),aT (Rel w S (.int .u8)) (l.map fun b=>Value.int .u8 (b.toNat:Int)) (bytesOf l)
 |[]=>rfl
 |b::l=>⟨[.int .u8 (b.toNat:Int)],l.map fun b=>Value.int .u8 (b.toNat:Int),rfl,⟨rfl,by
  have h1:IntKind.u8.min=0:=by decide
  have h2:IntKind.u8.max=255:=by decide
  have:=b.toNat_lt
  constructor
  ·show IntKind.u8.min≤(b.toNat:Int);omega
  ·show(b.toNat:Int)≤IntKind.u8.max;omega⟩,vL l⟩
theorem um{w:World}{S:Nat→Prop}:∀{xs:List Int}{cs:List Value},aT (Rel w S (.int .u8)) cs xs→cs=(strOf xs).map fun b=>Value.int .u8 (b.toNat:Int)
 |[],cs,h=>h
 |
  x::xs,cs,⟨v1,v2,e,h1,h2⟩=>by
  obtain⟨h3,h4,h5⟩:=h1
  subst e;subst h3
  rw[um h2]
  have a1:IntKind.u8.min=0:=by decide
  have a2:IntKind.u8.max=255:=by decide
  have h4:(0:Int)≤x:=by rw[a1] at h4;exact h4
  have h5:x≤255:=by rw[a2] at h5;exact h5
  have:((UInt8.ofNat x.toNat).toNat:Int)=x:=by
   rw[UInt8.toNat_ofNat',Nat.mod_eq_of_lt (by omega)];omega
  show _= [Value.int .u8 ((UInt8.ofNat x.toNat).toNat:Int)]++_
  rw[this];rfl
theorem BI{P:Program}{G:bT}(T:bB P G){gl:Ctx}{σ:St}{E:Env}{a:Act}{w:World}(h:cd gl σ E a w){hb:Nat→Option aN}(hB:HB hb σ.hp){s d:TypeId}{x r:AV}{vx:Value}(hx:RV E w x vx)(he:xY G hb s d x=some r):
 ∃v w' E',(convert s d vx).run P w= .ok v w'∧cd gl σ E' a w'∧RV E' w' r v∧Ext gl.md (Own σ.hp E) E w (Own σ.hp E') E' w':=by
 unfold xY at he
 split at he
 ·rename_i ts td hs hd
  split at he
  ·rename_i y h1 h2
   split at he
   ·rename_i te hte
    split at he
    ·rename_i hsame
     cases he
     obtain⟨rfl,hy⟩:=RV.gu hx
     have u1:=T.strOf hs h1
     obtain⟨te',ie,u2,u3,u4,u5,u6,_⟩:=T.cP hd h2
     have u7:=T.intOf u3 u4
     have hr:=run_bytes_of_string (P:=P) w s d td.e ⟨y.toArray⟩ u1 u2 u7
     obtain⟨g1,g2⟩:=h.MD (w':=w.drew.alloc (.cells (bytesRow ⟨y.toArray⟩ (grownCap w (ByteArray.size ⟨y.toArray⟩) 0 td.e)) td.e ((bytesRow ⟨y.toArray⟩ (grownCap w (ByteArray.size ⟨y.toArray⟩) 0 td.e)).size,(bytesRow ⟨y.toArray⟩ (grownCap w (ByteArray.size ⟨y.toArray⟩) 0 td.e)).size+1))) rfl (Tp.s rfl rfl) rfl (by simp) (fun i hi=>heap_alloc_old w.drew _ i hi)
     refine⟨_,_,_,hr,g1,?_,g2⟩
     have hge:=grownCap_ge w (ByteArray.size ⟨y.toArray⟩) 0 td.e
     have hl:(bytesOf y).length=y.length:=by simp[bytesOf]
     refine RV.dO (Or.inr ⟨rfl,some ⟨w.heap.size,0,none⟩,_,by rw[hl,rM],by rw[hl,←rM];exact hge,by rw[hl];omega,by rw[hl];exact hy,Or.inr ⟨w.heap.size,0,y.map fun b=>Value.int .u8 (b.toNat:Int),rfl,Or.inr rfl,?_,vL y⟩⟩)
     intro j v hj
     rw[Addr.gr,cZ]
     have hc:=World.cell?_alloc_mark w.drew (bytesRow ⟨y.toArray⟩ (grownCap w (ByteArray.size ⟨y.toArray⟩) 0 td.e)) td.e ((bytesRow ⟨y.toArray⟩ (grownCap w (ByteArray.size ⟨y.toArray⟩) 0 td.e)).size,(bytesRow ⟨y.toArray⟩ (grownCap w (ByteArray.size ⟨y.toArray⟩) 0 td.e)).size+1) j
     rw[show w.drew.heap.size=w.heap.size from rfl] at hc
     rw[hc]
     have hjl:j<y.length:=by have:=(List.getElem?_eq_some_iff.1 hj).1;simpa using this
     rw[bytesRow_at _ _ j (by simpa using hjl)]
     rw[List.getElem?_map,il hjl] at hj
     simpa using hj
    ·cases he
   ·cases he
  ·rename_i y h1 h2
   cases he
   obtain⟨rfl,hy⟩:=RV.gu hx
   have u1:=T.strOf hs h1
   have u2:=T.strOf hd h2
   exact⟨_,w,E,by simp[convert,underlying,u1,u2],h,hx,Ext.refl _ _ _⟩
  ·rename_i h1 h2
   obtain⟨xs,hxs,rfl⟩:=Option.map_eq_some_iff.1 he
   obtain⟨ad,cap,rfl,q1,q2,q3,q4⟩:=xW h.hw hB hx hxs
   obtain⟨te,ie,u1,u2,u3,u4,u5,_⟩:=T.cP hs h1
   have u6:=T.intOf u2 u3
   have u7:=T.strOf hd h2
   have hl:(strOf xs).length=List.length xs:=by simp[strOf]
   refine⟨.string ⟨(strOf xs).toArray⟩,w,E,?_,h,RV.str (by rw[hl];exact q3),Ext.refl _ _ _⟩
   rcases q4 with q4|⟨g,o,cs,rfl,q5,q6⟩
   ·subst q4
    cases ad with
    |none=>simp[convert,underlying,u1,u6,u7,Conv.bytesToString,strOf];rfl
    |
     some ad=>
     have:=run_convert_bytes_back (P:=P) w s d ts.e ad cap [] u1 u6 u7 (fun j hj=>by simp at hj)
     exact this
   ·have hcs:=um q6
    have:=run_convert_bytes_back (P:=P) w s d ts.e ⟨g,o,none⟩ cap (strOf xs) u1 u6 u7 (fun j hj=>by
     refine q5 j _ ?_
     rw[hcs,List.getElem?_map,il hj];rfl)
    rw[hl] at this
    exact this
  ·cases he
 ·cases he
end Go.Ax
namespace Go.Ax
def Gn{α:Type}(xs ys:List α)(lo:Nat):List α:=xs.take lo++ys++xs.drop (lo+ys.length)
theorem JZ{α:Type}{xs ys:List α}{lo:Nat}(h:lo+ys.length≤xs.length):(Gn xs ys lo).length=xs.length:=by
 simp only[Gn,cN,fe,jY];omega
theorem aT.Gn{α:Type}{r:List Value→α→Prop}{n:Nat}(hn:∀vs x,r vs x→vs.length=n){xs ys:List α}{cs us:List Value}{lo:Nat}(hx:aT r cs xs)(hy:aT r us ys):
 aT r (cs.take (lo*n)++us++cs.drop ((lo+ys.length)*n)) (Ax.Gn xs ys lo):=
 aT.append (aT.append (aT.take hn lo hx) hy) (aT.drop hn (lo+ys.length) hx)
theorem ME{α:Type}(cs us:List α)(o m a:Nat)(_h:o+m≤cs.length)(ha:a+us.length≤m):
 cs.take o++(((cs.drop o).take m).take a++us++((cs.drop o).take m).drop (a+us.length))++cs.drop (o+m)=cs.take (o+a)++us++cs.drop (o+a+us.length):=by
 have h1:((cs.drop o).take m).take a=(cs.drop o).take a:=by rw[kz,iN (by omega)]
 have h2:((cs.drop o).take m).drop (a+us.length)++cs.drop (o+m)=cs.drop (o+a+us.length):=by
  rw[lF,gP]
  have:cs.drop (o+m)=(cs.drop (o+(a+us.length))).drop (m -(a+us.length)):=by rw[gP];congr 1;omega
  rw[this,iI]
  congr 1;omega
 rw[h1,jV,jV,h2,←jV,←jV,List.take_add]
theorem Gp{P:Program}{gl:Ctx}{σ:St}{E:Env}{a:Act}{w:World}(h:cd gl σ E a w){b:Nat}{tt:Ty}{v v':AV}(hb:σ.hp[b]? =some (some (.var tt v))){p:Path}(hv:(E.bt b).valid p){n:Nat}{u:Ty}{xs:List u.den}
 (hg:v.get p=some (.val (.arr n u) xs)) {ys:List u.den} {us:List Value} (hu:aT (Rel w E.S u) us ys) {lo:Nat} (hlo:lo+ys.length≤n) (hs:v.set p (.val (.arr n u) (Gn xs ys lo))=some v') (hc:v'.bW tt=true):
 ∃g w',E.g b=some g∧(storeCells ⟨g,(E.bt b).off p+lo*u.size,none⟩ us 0).run P w= .ok () w'∧cd gl {σ with hp:=σ.hp.set b (some (.var tt v'))} E a w'∧Ext gl.md (Own σ.hp E) E w (Own (σ.hp.set b (some (.var tt v'))) E) E w':=by
 have hk:=h.hw.cH b _ hb
 obtain⟨h1,h2,g,c,e,h3,h4,h5⟩:=hk
 rw[h1] at hv ⊢
 obtain⟨s,q1,q2,q3,q4⟩:=AV.eV h5 h2 hv hg
 have hse:s= .arr n u:=(Ty.aB (by simpa[AV.bW] using q2)).symm
 subst hse
 obtain⟨hxl,hxr⟩:=q4
 have hul:us.length=ys.length*u.size:=aT.len (fun _ _ h=>Rel.len h) hu
 have hnew:RC E w (.val (.arr n u) (Gn xs ys lo)) ((((c.toList.drop (tt.off p)).take (n*u.size)).take (lo*u.size))++us++(((c.toList.drop (tt.off p)).take (n*u.size)).drop ((lo+ys.length)*u.size))):=
  ⟨by rw[JZ (by rw[hxl];exact hlo)];exact hxl,aT.Gn (fun _ _ h=>Rel.len h) hxr hu⟩
 have hnl:=RC.len hnew
 obtain⟨s',p1,p2,p3,p4⟩:=AV.kX hnew h5 h2 hv (fun s' hs'=>by rw[q1] at hs';cases hs';exact hnl) hs
 rw[q1] at p1;cases p1
 have hm:lo*u.size+us.length≤n*u.size:=by rw[hul,←cM];exact fv _ hlo
 have hsz:(Ty.arr n u).size=n*u.size:=rfl
 rw[hsz] at p3 p4
 have hcs:=ME c.toList us (tt.off p) (n*u.size) (lo*u.size) p3 hm
 rw[show(lo+ys.length)*u.size=lo*u.size+us.length from by rw[hul,cM]] at p4
 rw[hcs] at p4
 rw[fR] at p3
 have hst:=run_storeCells_at P g (tt.off p+lo*u.size) e us 0 c w h4 (by omega) (aT.cells_one hu)
 have kp:bM E w E (w.setRow g (c.toList.take (tt.off p+lo*u.size+0)++us++c.toList.drop (tt.off p+lo*u.size+0+us.length)).toArray):=
  ⟨fun i hi=>setRow_other w g i _ (fun e=>h.hw.jT b _ g hb h3 (e▸hi)),fun _ h=>h⟩
 have hrb:RB E (w.setRow g (c.toList.take (tt.off p+lo*u.size+0)++us++c.toList.drop (tt.off p+lo*u.size+0+us.length)).toArray) b (.var tt v'):=
  ⟨h1,hc,g,_,e,h3,setRow_heap w g c _ e _ h4,by simpa using RC.mono kp (fun _ _=>⟨rfl,rfl,rfl⟩) p4⟩
 have hw2:=h.hw.write hb (by simp) (fun i hi=>setRow_other w g i _ (fun e=>hi (by rw[e];exact h3))) hrb
 refine⟨g,_,h3,hst,h.carry kp (fun _ _=>⟨rfl,rfl,rfl⟩) hw2,⟨rfl,Tp.r rfl rfl,rfl,by simp,?_,fun _ h=>h,fun _ h=>Or.inl h,fun i hi=>Or.inl (Own.mf hb hi),fun _ _=>⟨rfl,rfl,rfl⟩⟩⟩
 intro i hi ho
 exact setRow_other w g i _ (fun e=>ho ⟨b,_,hb,by rw[e];exact Or.inl h3⟩)
def Df(hb:Nat→Option aN)(b:Nat)(p:Path):Option ((_tt:Ty)×AV×(_n:Nat)×(u:Ty)×List u.den):=
 match hb b with
 |
  some (.var tt v)=>match v.get p with
  |some (.val (.arr n u) xs)=>some ⟨tt,v,n,u,xs⟩
  |_=>none
 |_=>none
def BJ(G:bT)(hb:Nat→Option aN)(t:TypeId)(x y:AV):Option fj:=
 match G.at t with
 |
  some td=>match td.ty,x with
  |
   .slice bs u,.jb b p lo len=>match Df hb b p with
   |
    some ⟨tt,v,n,u',xs⟩=>match Gm hb bs u' y with
    |
     some ys=>match v.set p (.val (.arr n u') (Gn xs (ys.take (min ys.length len)) lo)) with
     |some v'=>if Ty.same u u'&&v'.bW tt&&Nat.ble n aE then some ⟨i6 (min ys.length len),[(b,some (.var tt v'))],[],[]⟩ else none
     |none=>none
    |none=>none
   |none=>none
  |_,_=>none
 |none=>none
theorem DX{P:Program}{G:bT}(T:bB P G){gl:Ctx}{σ:St}{E:Env}{a:Act}{w:World}(h:cd gl σ E a w){hb:Nat→Option aN}(hB:HB hb σ.hp){t t2 ty:TypeId}{x y:AV}{vx vy:Value}(hx:RV E w x vx)(hy:RV E w y vy){r:fj}(he:BJ G hb t x y=some r):
 ∃v w',(Builtin.copy_ #[t,t2] ty #[vx,vy]).run P w= .ok v w'∧cd gl {σ with hp:=aO σ.hp r.hw} E a w'∧RV E w' r.v v∧Ext gl.md (Own σ.hp E) E w (Own (aO σ.hp r.hw) E) E w':=by
 unfold BJ at he
 split at he
 ·rename_i td ht
  split at he
  ·rename_i bs u b p lo len hty
   split at he
   ·rename_i tt v n u' xs acb
    split at he
    ·rename_i ys hys
     split at he
     ·rename_i v' aO
      split at he
      ·rename_i hc
       cases he
       simp only[aV] at hc
       obtain⟨⟨c1,c2⟩,c3⟩:=hc
       have e:=Ty.aB c1;subst e
       unfold Df at acb
       split at acb
       ·rename_i tt0 v0 hbk
        split at acb
        ·rename_i n0 u0 xs0 abT
         cases acb
         obtain⟨te,ie,h1,h2,h3,h4,h5,h6,h7⟩:=T.cP ht hty
         obtain⟨i',d',h1i,_,hsz,_⟩:=T.info h2
         rw[h4] at h1i;cases h1i
         rw[h3] at hsz
         obtain⟨n1,t1,r1,r2,r3,ad,cap,rx,r4,r5⟩:=RV.atom rfl hx
         simp at rx;subst rx
         have hbt:E.bt b=tt:=(h.hw.cH b _ (hB b _ hbk)).1
         have hr1:n1=n∧t1=u:=by
          obtain⟨q1,q2,g,c,e,q3,q4,q5⟩:=h.hw.cH b _ (hB b _ hbk)
          rw[hbt] at r1 r2
          obtain⟨s,z1,z2,_⟩:=AV.eV q5 q2 r2 abT
          have hse:=(Ty.aB (by simpa[AV.bW] using z2)).symm
          rw[hse] at z1
          rw[z1] at r1;cases r1;exact⟨rfl,rfl⟩
         obtain⟨e1,e2⟩:=hr1;subst e1;subst e2
         obtain⟨ay,cy,ry,ry1,ry2,ry3,ry4⟩:=xW h.hw hB hy hys
         subst ry
         have hk:(ys.take (min ys.length len)).length=min ys.length len:=by rw[fe];omega
         have hnm:=fc c3
         rcases mb (min ys.length len) with hz|hz
         ·
          have hy0:ys.take (min ys.length len)= []:=nk (by omega)
          have hspl:Gn xs (ys.take (min ys.length len)) lo=xs:=by rw[hy0];simp[Gn]
          obtain⟨g,w',w1,w2,w3,w4⟩:=Gp (P:=P) h (hB b _ hbk) r2 abT (ys:=ys.take (min ys.length len)) (us:=[]) (by rw[hy0];rfl) (lo:=lo) (by omega) aO c2
          have hw':w'=w:=by simp[storeCells] at w2;exact w2.symm
          subst hw'
          have abW:(Builtin.copy_ #[t,t2] ty #[.slice ad len cap,.slice ay ys.length cy]).run P w'= .ok (goInt ((min ys.length len:Nat):Int)) w':=by
           have hz':Nat.min ys.length len=0:=hz
           have hf:∀ay:Option Addr,(Builtin.firstCells ie.size 0 (.slice ay ys.length cy)).run P w'= .ok #[] w':=by
            intro ay
            cases ay with
            |none=>exact run_firstCells_none ..
            |some a=>simpa using run_firstCells_some (P:=P) (w:=w') ie.size 0 a ys.length cy [] (by simp) (by intro j v h;simp at h)
           have hz2:((min ys.length len:Nat):Int)=0:=by rw[hz];rfl
           have hmin:Nat.min ys.length len=min ys.length len:=rfl
           simp only[hmin] at hz'
           rw[hz]
           simp[Builtin.copy_,underlying,h1,sizeOf,typeInfo,h4,Builtin.lenOf,hmin,hz,hf]
           cases ad<;>simp[storeCells]
          exact⟨_,w',abW,w3,RV.len (by omega),w4⟩
         ·have hys0:ys≠[]:=by intro e;subst e;simp at hz
          rcases ry4 with ry4|⟨gy,oy,cs,ea,hr,acf⟩
          ·exact absurd ry4 hys0
          ·subst ea
           have hl0:len≠0:=by omega
           rcases r5 with r5|⟨gx,rg,ra⟩
           ·exact absurd r5 hl0
           ·subst ra
            have hcl:(cs.take (min ys.length len*t1.size)).length=min ys.length len*ie.size:=by
             have:=aT.len (fun _ _ h=>Rel.len h) acf
             rw[fe,this,hsz,iN (fv _ (by omega))]
            have hrel':=aT.take (n:=t1.size) (fun _ _ h=>Rel.len h) (min ys.length len) acf
            obtain⟨g,w',w1,w2,w3,w4⟩:=Gp (P:=P) h (hB b _ hbk) r2 abT hrel' (lo:=lo) (by omega) aO c2
            rw[rg] at w1;cases w1
            have hf:=run_firstCells_some (P:=P) (w:=w) ie.size (min ys.length len) ⟨gy,oy,none⟩ ys.length cy (cs.take (min ys.length len*t1.size)) hcl (hr.take _)
            have abW:(Builtin.copy_ #[t,t2] ty #[.slice (some ⟨gx,(E.bt b).off p+lo*t1.size,none⟩) len cap,.slice (some ⟨gy,oy,none⟩) ys.length cy]).run P w= .ok (goInt ((min ys.length len:Nat):Int)) w':=by
             have hmin:Nat.min ys.length len=min ys.length len:=rfl
             simp[Builtin.copy_,underlying,h1,sizeOf,typeInfo,h4,Builtin.lenOf,hmin,hf,w2]
            exact⟨_,w',abW,w3,RV.len (by omega),w4⟩
        ·cases acb
       ·cases acb
      ·cases he
     ·cases he
    ·cases he
   ·cases he
  ·cases he
 ·cases he
def xZ(G:bT)(hb:Nat→Option aN)(t:TypeId)(x:AV):Option fj:=
 match G.at t with
 |
  some td=>match td.ty,x with
  |
   .slice _ u,.jb b p lo len=>match Df hb b p with
   |
    some ⟨tt,v,n,u',xs⟩=>match v.set p (.val (.arr n u') (Gn xs (List.replicate len u'.aD) lo)) with
    |some v'=>if Ty.same u u'&&v'.bW tt&&u'.pure then some ⟨.bot,[(b,some (.var tt v'))],[],[]⟩ else none
    |none=>none
   |none=>none
  |_,_=>none
 |none=>none
theorem BK{P:Program}{G:bT}(T:bB P G){gl:Ctx}{σ:St}{E:Env}{a:Act}{w:World}(h:cd gl σ E a w){hb:Nat→Option aN}(hB:HB hb σ.hp){t ty:TypeId}{x:AV}{vx:Value}(hx:RV E w x vx){r:fj}(he:xZ G hb t x=some r):
 ∃v w',(Builtin.clear_ #[t] ty #[vx]).run P w= .ok v w'∧cd gl {σ with hp:=aO σ.hp r.hw} E a w'∧RV E w' r.v v∧Ext gl.md (Own σ.hp E) E w (Own (aO σ.hp r.hw) E) E w':=by
 unfold xZ at he
 split at he
 ·rename_i td ht
  split at he
  ·rename_i bs u b p lo len hty
   split at he
   ·rename_i tt v n u' xs acb
    split at he
    ·rename_i v' aO
     split at he
     ·rename_i hc
      cases he
      simp only[aV] at hc
      obtain⟨⟨c1,c2⟩,c3⟩:=hc
      have e:=Ty.aB c1;subst e
      unfold Df at acb
      split at acb
      ·rename_i tt0 v0 hbk
       split at acb
       ·rename_i n0 u0 xs0 abT
        cases acb
        obtain⟨te,ie,h1,h2,h3,h4,h5,h6,h7⟩:=T.cP ht hty
        obtain⟨i',d',h1i,_,hsz,_,z,hz,hz1,_⟩:=T.info h2
        rw[h4] at h1i;cases h1i
        rw[h3] at hsz hz1
        obtain⟨n1,t1,r1,r2,r3,ad,cap,rx,r4,r5⟩:=RV.atom rfl hx
        simp at rx;subst rx
        have hbt:E.bt b=tt:=(h.hw.cH b _ (hB b _ hbk)).1
        have hr1:n1=n∧t1=u:=by
         obtain⟨q1,q2,g,c,e,q3,q4,q5⟩:=h.hw.cH b _ (hB b _ hbk)
         rw[hbt] at r1 r2
         obtain⟨s,z1,z2,_⟩:=AV.eV q5 q2 r2 abT
         have hse:=(Ty.aB (by simpa[AV.bW] using z2)).symm
         rw[hse] at z1
         rw[z1] at r1;cases r1;exact⟨rfl,rfl⟩
        obtain⟨e1,e2⟩:=hr1;subst e1;subst e2
        have acf:=(fA (E:=E) (w:=w) hz1).2 c3
        have hzl:z.cells.size=t1.size:=by rw[←fR];exact Rel.len acf
        have hmade:=qv acf h6 len z.cells rfl
        obtain⟨g,w',w1,w2,w3,w4⟩:=Gp (P:=P) h (hB b _ hbk) r2 abT hmade (lo:=lo) (by rw[fO];omega) aO c2
        refine⟨.tuple #[],w',?_,w3,trivial,w4⟩
        rcases mb len with hz0|hz0
        ·subst hz0
         have hw':w'=w:=by simp[storeCells] at w2;exact w2.symm
         subst hw'
         cases ad<;>simp[Builtin.clear_,underlying,h1]
        ·rcases r5 with r5|⟨gx,rg,ra⟩
         ·omega
         ·subst ra
          rw[rg] at w1;cases w1
          have hzv:(zeroValue td.e).run P w= .ok z w:=by simp[zeroValue,typeInfo,h4,hz]
          obtain⟨m,rfl⟩:∃m,len=m+1:=⟨len -1,by omega⟩
          simp[Builtin.clear_,underlying,h1,hzv,Builtin.zeroCells,hzl]
          simp only[hzl,Array.toList_map,Array.toList_range] at w2
          rw[w2];rfl
       ·cases acb
      ·cases acb
     ·cases he
    ·cases he
   ·cases he
  ·cases he
 ·cases he
end Go.Ax
namespace Go.Ax
def ye{α:Type}(f:α→α→Bool):List α→List α→Bool
 |[],[]=>true
 |x::xs,y::ys=>f x y&&ye f xs ys
 |_,_=>false
def MQ{α:Type}(f:List α→List α→Bool):Option (List α)→Option (List α)→Bool
 |none,none=>true
 |some x,some y=>f x y
 |_,_=>false
theorem J0{α:Type}{f:List α→List α→Bool}(hf:∀x y,f x y=true↔x=y):∀(x y:Option (List α)),MQ f x y=true↔x=y
 |none,none=>by simp[MQ]
 |none,some _=>by simp[MQ]
 |some _,none=>by simp[MQ]
 |some x,some y=>by simp[MQ,hf]
def aX:(t:Ty)→t.den→t.den→Bool
 | .int _,x,y=>decide (@Eq Int x y)
 | .bool,x,y=>decide (@Eq Bool x y)
 | .str,x,y=>decide (@Eq (List UInt8) x y)
 | .arr _ t,x,y=>ye (aX t) x y
 | .slice _ t,x,y=>ye (aX t) x y
 | .pair a b,x,y=>aX a x.1 y.1&&aX b x.2 y.2
 | .unit,_,_=>true
 | .aR _,_,_=>true
 | .fns _,x,y=>decide (@Eq (List (Option Nat)) x y)
 | .map a b,x,y=>MQ (ye fun p q=>aX a p.1 q.1&&aX b p.2 q.2) x y
theorem sy{α:Type}{f:α→α→Bool}(hf:∀x y,f x y=true↔x=y):∀(xs ys:List α),ye f xs ys=true↔xs=ys
 |[],[]=>by simp[ye]
 |[],_::_=>by simp[ye]
 |_::_,[]=>by simp[ye]
 |x::xs,y::ys=>by simp[ye,hf,sy hf xs ys]
theorem fM:∀(t:Ty)(x y:t.den),aX t x y=true↔x=y:=by
 intro t
 induction t with
 |int k=>intro x y;simp[aX]
 |bool=>intro x y;simp[aX]
 |str=>intro x y;simp[aX]
 |arr n t ih=>intro x y;exact sy ih x y
 |slice n t ih=>intro x y;exact sy ih x y
 |pair a b ih1 ih2=>intro x y;simp[aX,ih1,ih2,Prod.ext_iff]
 |unit=>intro x y;simp[aX]
 |aR k=>intro x y;simp[aX]
 |fns n=>intro x y;simp[aX]
 |map a b ih1 ih2=>intro x y;exact J0 (sy (fun p q=>by simp[ih1,ih2,Prod.ext_iff])) x y
def DY(k:TypeId→Ty→Bool):List Field→Ty→Bool
 |[],.unit=>true
 |f::fs,.pair a b=> !(f.name== "_")&&k f.type a&&DY k fs b
 |_,_=>false
def iS(P:Program)(G:bT):Nat→TypeId→Ty→Bool
 |0,_,_=>false
 |
  n+1,t,ty=>match G.at t with
  |
   some td=>Ty.same td.ty ty&&(match ty with
   | .int _| .bool| .str=>true
   | .arr _ u=>iS P G n td.e u
   | .pair a b=> !P.stoodInHeld t&&(match P.underlying t with|some (.struct fs)=>DY (iS P G n) fs.toList (.pair a b)|_=>false)
   |_=>false)
  |none=>false
section
variable{P:Program} {G:bT} (T:bB P G) {E:Env} {w:World}
include T
theorem ng{t:TypeId}{td:TD}(ht:G.at t=some td){x:td.ty.den}{cs:Array Value}{off:Nat}(h:Rel w E.S td.ty ((cs.toList.drop off).take td.ty.size) x)(hl:off+td.ty.size≤cs.size):
 ∃v,(part t cs off).run P w= .ok v w∧cF E w (.val td.ty x) v:=by
 by_cases ha:td.ty.isAgg=true
 ·refine⟨.agg (cs.extract off (off+td.ty.size)),by simp[part,T.isAgg ht,T.size ht,ha],Or.inl ⟨ha,_,rfl,?_⟩⟩
  rw[Array.toList_extract,List.extract_eq_take_drop,oM]
  exact h
 ·have ha':td.ty.isAgg=false:=by simpa using ha
  have h1:td.ty.size=1:=by cases h:td.ty<;>rw[h] at ha'<;>simp[Ty.isAgg] at ha'<;>rfl
  rw[h1] at h hl
  have hlt:off<cs.size:=by omega
  refine⟨cs[off],by simp[part,T.isAgg ht,ha',hlt],Or.inr ⟨ha',?_⟩⟩
  have:(cs.toList.drop off).take 1= [cs[off]]:=by
   rw[jz (by simpa using hlt)];simp
  rw[this] at h;exact h
def EqAt(P:Program)(E:Env)(w:World)(d:Nat)(t:TypeId)(ty:Ty):Prop:=
 ∀(x y:ty.den)(vx vy:Value),cF E w (.val ty x) vx→cF E w (.val ty y) vy→(Op.equalIn d t vx vy).run P w= .ok (aX ty x y) w
theorem ri{d:Nat}{k:TypeId→Ty→Bool}(hk:∀t td,G.at t=some td→k t td.ty=true→EqAt P E w d t td.ty){cx cy:Array Value}:
 ∀(fs:List Field)(ty:Ty)(off:Nat)(x y:ty.den),bR G fs off ty=true→DY k fs ty=true→off+ty.size≤cx.size→off+ty.size≤cy.size→
  Rel w E.S ty ((cx.toList.drop off).take ty.size) x→Rel w E.S ty ((cy.toList.drop off).take ty.size) y→(Op.eqFields d cx cy fs).run P w= .ok (aX ty x y) w
 |
  [],ty,off,x,y,hf,he,_,_,_,_=>by
  cases ty<;>simp[bR] at hf
  simp[Op.eqFields,aX]
 |
  f::fs,ty,off,x,y,hf,he,hlx,hly,hx,hy=>by
  cases ty with
  |
   pair a b=>
   simp only[bR,aV] at hf
   obtain⟨⟨⟨h1,h2⟩,h3⟩,h4⟩:=hf
   simp only[DY,aV,iM,beq_eq_false_iff_ne] at he
   obtain⟨⟨e1,e2⟩,e3⟩:=he
   split at h1
   ·rename_i td htd
    have:=Ty.aB h1;subst this
    have h2:=bQ h2
    simp only[Ty.size] at hlx hly hx hy
    obtain⟨v1,v2,ex,hx1,hx2⟩:=hx
    obtain⟨u1,u2,ey,hy1,hy2⟩:=hy
    have lx1:=Rel.len hx1
    have ly1:=Rel.len hy1
    have cut:∀(c:Array Value)(v1 v2:List Value),(c.toList.drop off).take (td.ty.size+b.size)=v1++v2→v1.length=td.ty.size→
     (c.toList.drop off).take td.ty.size=v1∧(c.toList.drop (off+td.ty.size)).take b.size=v2:=by
     intro c v1 v2 e hl
     constructor
     ·have:((c.toList.drop off).take (td.ty.size+b.size)).take td.ty.size=v1:=by rw[e,←hl];simp
      rwa [kz,iN (by omega)] at this
     ·have:((c.toList.drop off).take (td.ty.size+b.size)).drop td.ty.size=v2:=by rw[e,←hl];simp
      rwa [lF,gP,oM] at this
    obtain⟨cx1,cx2⟩:=cut cx v1 v2 ex lx1
    obtain⟨cy1,cy2⟩:=cut cy u1 u2 ey ly1
    rw[←cx1] at hx1;rw[←cx2] at hx2;rw[←cy1] at hy1;rw[←cy2] at hy2
    obtain⟨vx,p1,p2⟩:=ng T htd hx1 (by omega)
    obtain⟨vy,p3,p4⟩:=ng T htd hy1 (by omega)
    have heq:=hk f.type td htd e2 x.1 y.1 vx vy p2 p4
    have hrest:=ri hk fs b (off+td.ty.size) x.2 y.2 h4 e3 (by omega) (by omega) hx2 hy2
    simp only[Op.eqFields,Sem.run_ite,aA e1,Sem.run_bind,h2,p1,p3,Result.andThen_ok,heq]
    cases hq:aX td.ty x.1 y.1 with
    |false=>simp[aX,hq]
    |true=>simp only[kA,cm,bP,hrest,aX,hq,Bool.true_and]
   ·cases h1
  |_=>simp[bR] at hf
theorem uq{d:Nat}{e:TypeId}{te:TD}(hte:G.at e=some te)(hk:EqAt P E w d e te.ty){cx cy:Array Value}:
 ∀(n i:Nat)(xs ys:List te.ty.den),xs.length=n→ys.length=n→(i+n)*te.ty.size≤cx.size→(i+n)*te.ty.size≤cy.size→
  aT (Rel w E.S te.ty) ((cx.toList.drop (i*te.ty.size)).take (n*te.ty.size)) xs→aT (Rel w E.S te.ty) ((cy.toList.drop (i*te.ty.size)).take (n*te.ty.size)) ys→
  (Op.eqItems d e te.ty.size cx cy (List.range' i n)).run P w= .ok (ye (aX te.ty) xs ys) w
 |
  0,i,xs,ys,hx,hy,_,_,_,_=>by
  have e1:=nk hx
  have e2:=nk hy
  subst e1;subst e2
  simp[Op.eqItems,ye]
 |
  n+1,i,x::xs,y::ys,hx,hy,hlx,hly,⟨v1,v2,ex,hx1,hx2⟩,⟨u1,u2,ey,hy1,hy2⟩=>by
  have lx1:=Rel.len hx1
  have ly1:=Rel.len hy1
  have hb:(i+(n+1))*te.ty.size=(i+1+n)*te.ty.size:=by congr 1;omega
  have hb2:(i+1+n)*te.ty.size=i*te.ty.size+te.ty.size+n*te.ty.size:=by rw[cM,cM,Nat.one_mul]
  have cut:∀(c:Array Value)(v1 v2:List Value),(c.toList.drop (i*te.ty.size)).take ((n+1)*te.ty.size)=v1++v2→v1.length=te.ty.size→
   (c.toList.drop (i*te.ty.size)).take te.ty.size=v1∧(c.toList.drop ((i+1)*te.ty.size)).take (n*te.ty.size)=v2:=by
   intro c v1 v2 e hl
   have hn:(n+1)*te.ty.size=te.ty.size+n*te.ty.size:=by rw[cM,Nat.one_mul,Nat.add_comm]
   rw[hn] at e
   constructor
   ·have:((c.toList.drop (i*te.ty.size)).take (te.ty.size+n*te.ty.size)).take te.ty.size=v1:=by rw[e,←hl];simp
    rwa [kz,iN (by omega)] at this
   ·have:((c.toList.drop (i*te.ty.size)).take (te.ty.size+n*te.ty.size)).drop te.ty.size=v2:=by rw[e,←hl];simp
    rwa [lF,gP,oM,show i*te.ty.size+te.ty.size=(i+1)*te.ty.size from by rw[cM,Nat.one_mul]] at this
  obtain⟨cx1,cx2⟩:=cut cx v1 v2 ex lx1
  obtain⟨cy1,cy2⟩:=cut cy u1 u2 ey ly1
  rw[←cx1] at hx1;rw[←cx2] at hx2;rw[←cy1] at hy1;rw[←cy2] at hy2
  obtain⟨vx,p1,p2⟩:=ng T hte hx1 (by omega)
  obtain⟨vy,p3,p4⟩:=ng T hte hy1 (by omega)
  have heq:=hk x y vx vy p2 p4
  have hrest:=uq hte hk n (i+1) xs ys (by simpa using hx) (by simpa using hy) (by omega) (by omega) hx2 hy2
  rw[List.range'_succ]
  simp only[Op.eqItems,Sem.run_bind,p1,p3,Result.andThen_ok,heq]
  cases hq:aX te.ty x y with
  |false=>simp[ye,hq]
  |true=>simp only[kA,cm,bP,ye,hq,Bool.true_and];simpa using hrest
 |n+1,i,[],_,hx,_,_,_,_,_=>by simp at hx
 |n+1,i,_::_,[],_,hy,_,_,_,_=>by simp at hy
theorem sA(d:Nat):∀(n:Nat)(t:TypeId)(td:TD),G.at t=some td→iS P G n t td.ty=true→EqAt P E w (d+n) t td.ty
 |0,t,td,ht,h=>by simp[iS] at h
 |
  n+1,t,td,ht,h=>by
  have ih:=fun t td ht h=>sA d n t td ht h
  unfold iS at h
  rw[ht] at h
  simp only[aV] at h
  obtain⟨_,h⟩:=h
  intro x y vx vy hx hy
  rw[show d+(n+1)=(d+n)+1 from rfl]
  obtain⟨ty,te,te2⟩:=td
  simp only at h x y hx hy
  cases ty with
  |
   int k=>
   have hu:=T.intOf ht rfl
   obtain⟨rfl,_⟩:=RV.dh (RV.dO hx)
   obtain⟨rfl,_⟩:=RV.dh (RV.dO hy)
   rw[run_equalIn_int w (d+n) t k k _ _ hu]
   simp[aX];rfl
  |
   bool=>
   have hu:P.underlying t=some .bool:=by
    obtain⟨ii,dd,_,h1,_,h2,_⟩:=T.info ht
    have abJ:=dm h2
    rw[h1]
    cases hd:dd with
    |bool=>rfl
    |struct fs=>subst hd;simp[dt,Ty.isAgg] at abJ
    |array n e=>subst hd;simp[dt,Ty.isAgg] at abJ
    |slice e=>subst hd;simp[cj,Ty.same] at h2
    |map k e=>subst hd;simp[cj,Ty.same] at h2
    |_=>subst hd;simp[cj,Ty.same] at h2
   have:=RV.dU (RV.dO hx);subst this
   have:=RV.dU (RV.dO hy);subst this
   rw[run_equalIn_bool' w (d+n) t _ _ hu]
   simp[aX];rfl
  |
   str=>
   have hu:=T.strOf ht rfl
   obtain⟨rfl,_⟩:=RV.gu (RV.dO hx)
   obtain⟨rfl,_⟩:=RV.gu (RV.dO hy)
   rw[run_equalIn_string w (d+n) t _ _ hu]
   have:∀(a b:List UInt8),(a==b)=decide (a=b):=fun a b=>by
    by_cases h:a=b
    ·subst h;simp
    ·simp[h]
   simp only[ByteArray.toList_mk,aX]
   exact cV (fun b=>Result.ok b w) (this x y)
  |
   arr m u=>
   obtain⟨tde,h1,h2,h3⟩:=T.oQ ht rfl
   simp only at h h1 h2 h3
   subst h3
   have hk:=ih te tde h2 h
   obtain⟨ie,_,hi,_,hsz,_⟩:=T.info h2
   rcases hx with⟨_,cx,rfl,hx1,hx2⟩|⟨hx,_⟩
   ·rcases hy with⟨_,cy,rfl,hy1,hy2⟩|⟨hy,_⟩
    ·rw[run_equalIn_array w (d+n) cx cy h1 hi]
     have hcell:P.cellsOf te=tde.ty.size:=by simp[Program.cellsOf,hi,hsz]
     rw[hcell,List.range_eq_range']
     have lx:=aT.len (n:=tde.ty.size) (fun _ _ h=>Rel.len h) hx2
     have ly:=aT.len (n:=tde.ty.size) (fun _ _ h=>Rel.len h) hy2
     rw[fR] at lx ly
     rw[hx1] at lx;rw[hy1] at ly
     refine uq T h2 hk m 0 x y hx1 hy1 (by rw[cZ,lx];exact cq _) (by rw[cZ,ly];exact cq _) ?_ ?_
     ·simp only[Nat.zero_mul,eS];rw[fb (by simp[lx])];exact hx2
     ·simp only[Nat.zero_mul,eS];rw[fb (by simp[ly])];exact hy2
    ·simp[AV.isAgg,Ty.isAgg] at hy
   ·simp[AV.isAgg,Ty.isAgg] at hx
  |
   pair a b=>
   obtain⟨fs,h1,h2⟩:=T.structOf ht rfl
   simp only[aV,h1] at h
   obtain⟨e1,e2⟩:=h
   have hfo:P.fieldsOf t=fs:=by simp[Program.fieldsOf,h1]
   rcases hx with⟨_,cx,rfl,hx⟩|⟨hx,_⟩
   ·rcases hy with⟨_,cy,rfl,hy⟩|⟨hy,_⟩
    ·rw[run_equalIn_struct w (d+n) t cx cy (by rw[hfo];exact h1) (by simpa using e1),hfo]
     have lx:=Rel.len hx
     have ly:=Rel.len hy
     rw[fR] at lx ly
     refine ri T ih fs.toList (.pair a b) 0 x y h2 e2 (by omega) (by omega) ?_ ?_
     ·rw[eS,fb (by simp[lx])];exact hx
     ·rw[eS,fb (by simp[ly])];exact hy
    ·simp[AV.isAgg,Ty.isAgg] at hy
   ·simp[AV.isAgg,Ty.isAgg] at hx
  |_=>simp at h
end
def MF(P:Program)(G:bT)(op:BinOp)(t:TypeId):AV→AV→Option (AV×List VC)
 |
  .val u x,.val v y=>match G.at t with
  |
   some td=>if h:Ty.same u td.ty&&Ty.same v td.ty&&td.ty.isAgg then(match op with
   | .eql=>some (.val .bool (aX td.ty (Ty.aB (by simp at h;exact h.1.1)▸x) (Ty.aB (by simp at h;exact h.1.2)▸y)),[vc (iS P G 40 t td.ty=true),vc (P.eqGuardType P.depth t=false)])
   | .neq=>some (.val .bool (!aX td.ty (Ty.aB (by simp at h;exact h.1.1)▸x) (Ty.aB (by simp at h;exact h.1.2)▸y)),[vc (iS P G 40 t td.ty=true),vc (P.eqGuardType P.depth t=false)])
   |_=>none) else none
  |none=>none
 |_,_=>none
theorem J1{P:Program}{G:bT}(T:bB P G){E:Env}{w:World}{op:BinOp}{t:TypeId}{x y:AV}{vx vy:Value}{ox oy:Operand}{r:AV}{vc:List VC}(hx:RV E w x vx)(hy:RV E w y vy)(h:MF P G op t x y=some (r,vc))(hvc:dH vc):
 (eqGuard op t ox oy vx vy).run P w= .ok () w∧∃v,(binOp op t vx vy).run P w= .ok v w∧RV E w r v:=by
 unfold MF at h
 split at h
 ·rename_i u x v y
  split at h
  ·rename_i td ht
   split at h
   ·rename_i hc
    simp only[aV] at hc
    have e1:=Ty.aB hc.1.1
    have e2:=Ty.aB hc.1.2
    subst e1;subst e2
    have hx0:cF E w (.val td.ty x) vx:=RV.js rfl hx
    have hy0:cF E w (.val td.ty y) vy:=RV.js rfl hy
    have main:iS P G 40 t td.ty=true→P.eqGuardType P.depth t=false→∃cx cy,vx= .agg cx∧vy= .agg cy∧(Op.equalIn 10000 t vx vy).run P w= .ok (aX td.ty x y) w:=by
     intro q1 _
     have:=sA T (E:=E) (w:=w) 9960 40 t td ht q1 x y vx vy hx0 hy0
     rcases hx0 with⟨_,cx,ex,_⟩|⟨hq,_⟩
     ·rcases hy0 with⟨_,cy,ey,_⟩|⟨hq,_⟩
      ·exact⟨cx,cy,ex,ey,this⟩
      ·simp[AV.isAgg,hc.2] at hq
     ·simp[AV.isAgg,hc.2] at hq
    split at h
    ·cases h
     obtain⟨q1,q2,_⟩:=hvc
     obtain⟨cx,cy,rfl,rfl,q3⟩:=main q1 q2
     refine⟨run_eqGuard_agg w _ t ox oy cx cy q2,_,by rw[run_eql_struct,q3];rfl,RV.bool⟩
    ·cases h
     obtain⟨q1,q2,_⟩:=hvc
     obtain⟨cx,cy,rfl,rfl,q3⟩:=main q1 q2
     refine⟨run_eqGuard_agg w _ t ox oy cx cy q2,_,by rw[run_neq_struct,q3];rfl,RV.bool⟩
    ·cases h
   ·cases h
  ·cases h
 ·cases h
end Go.Ax
namespace Go.Ax
def dG{α:Type}(kt:Ty)(k:kt.den):List (kt.den×α)→Nat→Option (Nat×α)
 |[],_=>none
 |e::es,i=>if aX kt k e.1 then some (i,e.2) else dG kt k es (i+1)
def cJ{α:Type}(kt:Ty)(k:kt.den):List (kt.den×α)→Bool
 |[]=>false
 |e::es=>aX kt k e.1||cJ kt k es
def bz(kt vt:Ty)(k:kt.den):List (kt.den×vt.den)→vt.den
 |[]=>vt.aD
 |e::es=>if aX kt k e.1 then e.2 else bz kt vt k es
def bE{α:Type}(kt:Ty)(k:kt.den)(v:α):List (kt.den×α)→List (kt.den×α)
 |[]=>[(k,v)]
 |e::es=>if aX kt k e.1 then(k,v)::es else e::bE kt k v es
def Ty.keyed:Ty→Bool
 | .int _| .bool| .str| .unit=>true
 | .arr _ t=>t.keyed
 | .pair a b=>a.keyed&&b.keyed
 |_=>false
theorem Gq{α:Type}{f:α→α→Bool}(h:∀x y,f x y=true↔x=y):∀(xs ys:List α),ye f xs ys=true↔xs=ys
 |[],[]=>by simp[ye]
 |[],_::_=>by simp[ye]
 |_::_,[]=>by simp[ye]
 |x::xs,y::ys=>by simp[ye,h,Gq h xs ys]
theorem cu:∀{t:Ty},t.keyed=true→∀(x y:t.den),aX t x y=true↔x=y
 | .int _,_,x,y=>by simp[aX]
 | .bool,_,x,y=>by simp[aX]
 | .str,_,x,y=>by simp[aX]
 | .arr _ t,h,x,y=>Gq (fun a b=>cu (t:=t) h a b) x y
 |
  .pair a b,h,x,y=>by
  simp only[Ty.keyed,aV] at h
  simp only[aX,aV,cu h.1,cu h.2]
  exact⟨fun e=>Prod.ext e.1 e.2,fun e=>by rw[e];exact⟨rfl,rfl⟩⟩
 | .unit,_,x,y=>by simp[aX]
 | .slice _ _,h,_,_=>by simp[Ty.keyed] at h
 | .aR _,h,_,_=>by simp[Ty.keyed] at h
 | .fns _,h,_,_=>by simp[Ty.keyed] at h
theorem aT.fn{α:Type}{r:List Value→α→Prop}{n:Nat}(hn:∀vs x,r vs x→vs.length=n)(h:∀vs us x,r vs x→r us x→vs=us):∀{xs:List α}{vs us:List Value},aT r vs xs→aT r us xs→vs=us
 |[],vs,us,h1,h2=>by simp[aT] at h1 h2;rw[h1,h2]
 |x::xs,_,_,⟨a1,a2,e1,r1,r2⟩,⟨b1,b2,e2,s1,s2⟩=>by rw[e1,e2,h _ _ x r1 s1,aT.fn hn h r2 s2]
theorem Rel.fn{w:World}{S:Nat→Prop}:∀{t:Ty},t.keyed=true→∀(vs us:List Value)(x:t.den),Rel w S t vs x→Rel w S t us x→vs=us
 | .int _,_,vs,us,x,h1,h2=>by rw[h1.1,h2.1]
 | .bool,_,vs,us,x,h1,h2=>by simp only[Rel] at h1 h2;rw[h1,h2]
 | .str,_,vs,us,x,h1,h2=>by rw[h1.1,h2.1]
 | .arr _ t,h,vs,us,x,h1,h2=>aT.fn (fun _ _=>Rel.len) (fun a b y=>Rel.fn (t:=t) h a b y) h1.2 h2.2
 |
  .pair a b,h,vs,us,x,⟨a1,a2,e1,r1,r2⟩,⟨b1,b2,e2,s1,s2⟩=>by
  simp only[Ty.keyed,aV] at h
  rw[e1,e2,Rel.fn h.1 _ _ _ r1 s1,Rel.fn h.2 _ _ _ r2 s2]
 | .unit,_,vs,us,x,h1,h2=>by simp only[Rel] at h1 h2;rw[h1,h2]
 | .slice _ _,h,_,_,_,_,_=>by simp[Ty.keyed] at h
 | .aR _,h,_,_,_,_,_=>by simp[Ty.keyed] at h
 | .fns _,h,_,_,_,_,_=>by simp[Ty.keyed] at h
def Value.bare:Value→Bool
 | .int _ _| .bool _| .string _=>true
 |_=>false
theorem Rel.bare{w:World}{S:Nat→Prop}:∀{t:Ty},t.keyed=true→∀(vs:List Value)(x:t.den),Rel w S t vs x→∀v∈vs,Value.bare v=true
 | .int _,_,vs,x,h,v,hv=>by rw[h.1] at hv;simp at hv;subst hv;rfl
 | .bool,_,vs,x,h,v,hv=>by simp only[Rel] at h;rw[h] at hv;simp at hv;subst hv;rfl
 | .str,_,vs,x,h,v,hv=>by rw[h.1] at hv;simp at hv;subst hv;rfl
 |
  .arr _ t,h,vs,x,h1,v,hv=>by
  have key:∀(xs:List t.den)(vs:List Value),aT (Rel w S t) vs xs→∀v∈vs,Value.bare v=true:=by
   intro xs
   induction xs with
   |nil=>intro vs h v hv;simp[aT] at h;subst h;cases hv
   |
    cons y ys ih=>
    rintro vs ⟨a1,a2,e1,r1,r2⟩ v hv
    rw[e1] at hv
    rcases List.mem_append.1 hv with hv|hv
    ·exact Rel.bare (t:=t) h _ _ r1 v hv
    ·exact ih _ r2 v hv
  exact key x vs h1.2 v hv
 |
  .pair a b,h,vs,x,⟨a1,a2,e1,r1,r2⟩,v,hv=>by
  simp only[Ty.keyed,aV] at h
  rw[e1] at hv
  rcases List.mem_append.1 hv with hv|hv
  ·exact Rel.bare h.1 _ _ r1 v hv
  ·exact Rel.bare h.2 _ _ r2 v hv
 | .unit,_,vs,x,h,v,hv=>by simp only[Rel] at h;rw[h] at hv;cases hv
 | .slice _ _,h,_,_,_,_,_=>by simp[Ty.keyed] at h
 | .aR _,h,_,_,_,_,_=>by simp[Ty.keyed] at h
 | .fns _,h,_,_,_,_,_=>by simp[Ty.keyed] at h
theorem nH{n:Nat}{v:Value}(h:Value.bare v=true):Instr.sameBits n v v=true:=by
 cases v with
 |int k m=>cases n<;>simp[Instr.sameBits]
 |bool b=>cases n<;>simp[Instr.sameBits]
 |
  string s=>
  have:(s==s)=true:=by
   have:(s.data==s.data)=true:=by simp
   exact this
  cases n<;>simp only[Instr.sameBits]<;>exact this
 |_=>simp[Value.bare] at h
theorem cF.fn{E:Env}{w:World}{t:Ty}(hk:t.keyed=true){x:t.den}{v u:Value}(hv:cF E w (.val t x) v)(hu:cF E w (.val t x) u):v=u∧Instr.sameBits 10000 v v=true:=by
 rcases hv with⟨h1,cs,e,h2⟩|⟨h1,h2⟩
 ·rcases hu with⟨k1,ds,e',k2⟩|⟨k1,_⟩
  ·have:=Rel.fn hk _ _ _ h2 k2
   have e2:cs=ds:=fw this
   subst e;subst e';subst e2
   refine⟨rfl,?_⟩
   show Instr.sameBits (9999+1) _ _=true
   simp only[Instr.sameBits,beq_self_eq_true,Bool.true_and,ky]
   intro p hp
   have hb:=Rel.bare hk _ _ h2
   have:p.1=p.2∧p.1∈cs.toList:=by
    have key:∀(l:List Value)(p:Value×Value),p∈l.zip l→p.1=p.2∧p.1∈l:=by
     intro l
     induction l with
     |nil=>intro p hp;cases hp
     |
      cons x l ih=>
      intro p hp
      rcases List.mem_cons.1 hp with hp|hp
      ·subst hp;simp
      ·exact⟨(ih p hp).1,dr _ (ih p hp).2⟩
    exact key _ p hp
   obtain⟨p1,p2⟩:=p
   simp only at this ⊢
   rw[←this.1]
   exact nH (hb p1 this.2)
  ·rw[h1] at k1;cases k1
 ·rcases hu with⟨k1,_⟩|⟨k1,k2⟩
  ·rw[h1] at k1;cases k1
  ·have:=Rel.fn hk _ _ _ h2 k2
   simp at this
   exact⟨this,nH (Rel.bare hk _ _ h2 v (by simp))⟩
section
variable{P:Program} {G:bT} (T:bB P G) {E:Env} {w:World}
include T
theorem iT(em:Bool)(d:Nat):∀(n:Nat)(t:TypeId)(td:TD),G.at t=some td→iS P G n t td.ty=true→∀(x:td.ty.den)(v:Value),cF E w (.val td.ty x) v→(Instr.checkKey em (d+n) t v).run P w= .ok () w
 |0,t,td,ht,h=>by simp[iS] at h
 |
  n+1,t,td,ht,h=>by
  have ih:=fun t td ht h=>iT em d n t td ht h
  unfold iS at h
  rw[ht] at h
  simp only[aV] at h
  obtain⟨_,h⟩:=h
  intro x v hx
  rw[show d+(n+1)=(d+n)+1 from rfl,Instr.checkKey]
  obtain⟨ii,dd,_,hu,_,hdo,_⟩:=T.info ht
  obtain⟨ty,te,te2⟩:=td
  simp only at h x hx hdo
  cases ty with
  |
   int k=>
   have hu:=T.intOf ht rfl
   simp[underlying,hu]
  |
   bool=>
   cases dd<;>simp[cj,Ty.same] at hdo
   ·simp[underlying,hu]
   ·rename_i fs;exact absurd hdo (by generalize fs.toList=l;cases l<;>simp[bR])
  |
   str=>
   have hu:=T.strOf ht rfl
   simp[underlying,hu]
  |
   arr m u=>
   obtain⟨tde,h1,h2,h3⟩:=T.oQ ht rfl
   simp only at h h1 h2 h3
   subst h3
   obtain⟨ie,_,hi,_,hsz,_⟩:=T.info h2
   rcases hx with⟨_,cx,rfl,hx1,hx2⟩|⟨hx,_⟩
   ·simp only[Sem.run_bind,run_underlying h1,Result.andThen_ok,Std.Legacy.Range.forIn_eq_forIn_range',Std.Legacy.Range.size,Nat.sub_zero,Nat.add_one_sub_one,Nat.div_one]
    have lx:=aT.len (n:=tde.ty.size) (fun _ _ h=>Rel.len h) hx2
    rw[fR,hx1] at lx
    have each:∀j,j<m→∃a,(part te cx (j*tde.ty.size)).run P w= .ok a w∧(Instr.checkKey em (d+n) te a).run P w= .ok () w:=by
     intro j hj
     have hr:=aT.get (fun _ _=>Rel.len) tde.ty.aD j hx2 (by omega)
     have hb:(j+1)*tde.ty.size≤m*tde.ty.size:=fv _ hj
     rw[cM,Nat.one_mul] at hb
     obtain⟨a,p1,p2⟩:=ng T h2 hr (by omega)
     exact⟨a,p1,ih te tde h2 h _ a p2⟩
    have key:∀(is:List Nat),(∀j∈is,j<m)→(forIn is PUnit.unit fun i _=>do
     Instr.checkKey em (d+n) te (←part te cx (i*(←sizeOf te)))
     pure (ForInStep.yield PUnit.unit):Sem PUnit).run P w= .ok () w:=by
     intro is
     induction is with
     |nil=>intro _;simp
     |
      cons j is ihl=>
      intro hj
      obtain⟨a,p1,p2⟩:=each j (hj j (by simp))
      simp only[List.forIn_cons,Sem.run_bind,T.size h2,Result.andThen_ok,p1,p2,Sem.run_pure]
      exact ihl (fun y hy=>hj y (by simp[hy]))
    rw[key _ (fun j hj=>by rw[List.mem_range'] at hj;obtain⟨i,h1,h2⟩:=hj;omega)];rfl
   ·simp[AV.isAgg,Ty.isAgg] at hx
  |
   pair a b=>
   obtain⟨fs,h1,h2⟩:=T.structOf ht rfl
   simp only[aV,h1] at h
   obtain⟨e1,e2⟩:=h
   rcases hx with⟨_,cx,rfl,hx⟩|⟨hx,_⟩
   ·simp only[Sem.run_bind,run_underlying h1,Result.andThen_ok]
    rw[←Array.forIn_toList]
    have lx:=Rel.len hx
    rw[fR] at lx
    have key:∀(fs:List Field)(ty:Ty)(off:Nat)(x:ty.den),bR G fs off ty=true→DY (iS P G n) fs ty=true→off+ty.size≤cx.size→Rel w E.S ty ((cx.toList.drop off).take ty.size) x→
     (forIn fs PUnit.unit fun f _=>if f.name≠ "_" then(do
      let v ←part f.type cx f.offset
      Instr.checkKey em (d+n) f.type v
      pure (ForInStep.yield PUnit.unit)) else pure (ForInStep.yield PUnit.unit):Sem PUnit).run P w= .ok () w:=by
     intro fs
     induction fs with
     |nil=>intro ty off x _ _ _ _;simp
     |
      cons f fs ihl=>
      intro ty off x hf he hlx hx
      cases ty with
      |
       pair a b=>
       simp only[bR,aV] at hf
       obtain⟨⟨⟨g1,g2⟩,g3⟩,g4⟩:=hf
       simp only[DY,aV,iM,beq_eq_false_iff_ne] at he
       obtain⟨⟨q1,q2⟩,q3⟩:=he
       split at g1
       ·rename_i td htd
        have:=Ty.aB g1;subst this
        have g2:=bQ g2
        simp only[Ty.size] at hlx hx
        obtain⟨v1,v2,ex,hx1,hx2⟩:=hx
        have lx1:=Rel.len hx1
        have c1:(cx.toList.drop off).take td.ty.size=v1:=by
         have:((cx.toList.drop off).take (td.ty.size+b.size)).take td.ty.size=v1:=by rw[ex,←lx1];simp
         rwa [kz,iN (by omega)] at this
        have c2:(cx.toList.drop (off+td.ty.size)).take b.size=v2:=by
         have:((cx.toList.drop off).take (td.ty.size+b.size)).drop td.ty.size=v2:=by rw[ex,←lx1];simp
         rwa [lF,gP,oM] at this
        rw[←c1] at hx1;rw[←c2] at hx2
        obtain⟨a,p1,p2⟩:=ng T htd hx1 (by omega)
        have p3:=ih f.type td htd q2 x.1 a p2
        have hrest:=ihl b (off+td.ty.size) x.2 g4 q3 (by omega) hx2
        simp only[List.forIn_cons,Sem.run_bind,aA q1,g2,p1,Result.andThen_ok,p3,Sem.run_pure]
        exact hrest
       ·cases g1
      |_=>simp[bR] at hf
    rw[key fs.toList (.pair a b) 0 x h2 e2 (by omega) (by rw[eS,fb (by simp[lx])];exact hx)];rfl
   ·simp[AV.isAgg,Ty.isAgg] at hx
  |_=>simp at h
end
end Go.Ax
namespace Go.Ax
section
variable{P:Program} {G:bT} (T:bB P G) {E:Env} {w:World}
def Gr(E:Env)(w:World)(vt:Ty):Option (Nat×vt.den)→Option (Nat×Value)→Prop
 |none,none=>True
 |some x,some y=>x.1=y.1∧cF E w (.val vt x.2) y.2
 |_,_=>False
include T in
theorem nI{t:TypeId}{td:TD}(ht:G.at t=some td)(he:iS P G 40 t td.ty=true){vt:Ty}{k:td.ty.den}{v:Value}(hv:cF E w (.val td.ty k) v):∀{l:List MapEntry}{es:List (td.ty.den×vt.den)}(i:Nat),RM E w td.ty vt l es→
 ∃r,(Instr.findAsking t v l i).run P w= .ok r w∧Gr E w vt (dG td.ty k es i) r
 |[],[],i,_=>⟨none,by simp[Instr.findAsking],trivial⟩
 |[],_::_,_,h=>h.elim
 |_::_,[],_,h=>h.elim
 |
  e::l,x::es,i,⟨h1,h2,h3⟩=>by
  have hq:(Op.equal t v e.key).run P w= .ok (aX td.ty k x.1) w:=sA T (E:=E) (w:=w) (Op.maxDepth -40) 40 t td ht he k x.1 v e.key hv h1
  cases hb:aX td.ty k x.1 with
  |true=>exact⟨some (i,e.val),by simp[Instr.findAsking,hq,hb],by simp only[dG,hb,bC];exact⟨rfl,h2⟩⟩
  |
   false=>
   obtain⟨r,r1,r2⟩:=nI ht he hv (i+1) h3
   exact⟨r,by simp[Instr.findAsking,hq,hb,r1],by simp only[dG,hb];exact r2⟩
theorem lB{d:TypeDesc}{kt:Ty}{x y:kt.den}{v u:Value}{b:Bool}(hv:cF E w (.val kt x) v)(hu:cF E w (.val kt y) u)(h:Instr.sameNow d v u=some b):b=aX kt x y:=by
 cases kt with
 |
  int k=>
  obtain⟨rfl,_⟩:=RV.dh (RV.dO hv)
  obtain⟨rfl,_⟩:=RV.dh (RV.dO hu)
  cases d<;>simp[Instr.sameNow] at h
  subst h;simp[aX];rfl
 |
  bool=>
  have:=RV.dU (RV.dO hv);subst this
  have:=RV.dU (RV.dO hu);subst this
  cases d<;>simp[Instr.sameNow] at h
  subst h;simp[aX];rfl
 |
  str=>
  obtain⟨rfl,_⟩:=RV.gu (RV.dO hv)
  obtain⟨rfl,_⟩:=RV.gu (RV.dO hu)
  cases d<;>simp[Instr.sameNow] at h
  subst h
  have:∀(a b:List UInt8),((⟨a.toArray⟩:ByteArray)==⟨b.toArray⟩)=decide (a=b):=fun a b=>by
   have e1:((⟨a.toArray⟩:ByteArray)==⟨b.toArray⟩)=(a.toArray==b.toArray):=rfl
   rw[e1]
   by_cases h:a=b
   ·subst h;simp
   ·have:¬(a.toArray=b.toArray):=fun e=>h (by simpa using e)
    simp[h]
  simp only[aX]
  exact this x y
 |
  _=>
  rcases hv with⟨h1,cs,e,_⟩|⟨h1,h2⟩
  ·subst e;cases d<;>simp[Instr.sameNow] at h
  ·first
    |(simp[AV.isAgg,Ty.isAgg] at h1;done)
    |(simp only[RC,Rel] at h2;obtain⟨a,c,e,_⟩:=h2;simp at e;subst e;cases d<;>simp[Instr.sameNow] at h;done)
    |(simp only[RC,Rel] at h2;obtain⟨a,e,_⟩:=h2;simp at e;subst e;cases d<;>simp[Instr.sameNow] at h;done)
    |exact h2.elim
theorem ur{d:TypeDesc}{kt vt:Ty}{k:kt.den}{v:Value}(hv:cF E w (.val kt k) v):∀{l:List MapEntry}{es:List (kt.den×vt.den)}(i:Nat){r:Option (Nat×Value)},RM E w kt vt l es→Instr.findNow d v l i=some r→Gr E w vt (dG kt k es i) r
 |[],[],i,r,_,h=>by simp[Instr.findNow] at h;subst h;trivial
 |[],_::_,_,_,h,_=>h.elim
 |_::_,[],_,_,h,_=>h.elim
 |
  e::l,x::es,i,r,⟨h1,h2,h3⟩,h=>by
  simp only[Instr.findNow] at h
  split at h
  ·rename_i hs
   have:=lB hv h1 hs
   cases h
   simp only[dG,←this,bC];exact⟨rfl,h2⟩
  ·rename_i hs
   have:=lB hv h1 hs
   simp only[dG,←this,cm,bP]
   exact ur hv (i+1) h3 h
  ·cases h
include T in
theorem uu{t:TypeId}{td:TD}(ht:G.at t=some td)(he:iS P G 40 t td.ty=true){vt:Ty}{k:td.ty.den}{v:Value}(hv:cF E w (.val td.ty k) v){l:List MapEntry}{es:List (td.ty.den×vt.den)}(h:RM E w td.ty vt l es):
 ∃r,(Instr.findKey t v l).run P w= .ok r w∧Gr E w vt (dG td.ty k es 0) r:=by
 obtain⟨ii,dd,_,hu,_⟩:=T.info ht
 unfold Instr.findKey
 simp only[Sem.run_bind,run_underlying hu,Result.andThen_ok]
 split
 ·rename_i r hr
  exact⟨r,rfl,ur hv 0 h hr⟩
 ·exact nI T ht he hv 0 h
end
theorem vN{vt kt:Ty}{k:kt.den}:∀{es:List (kt.den×vt.den)}{i:Nat},(dG kt k es i).map (·.2)=if cJ kt k es then some (bz kt vt k es) else none
 |[],_=>rfl
 |
  e::es,i=>by
  simp only[dG,cJ,bz]
  by_cases hb:aX kt k e.1=true
  ·simp[hb]
  ·have hb':aX kt k e.1=false:=by simpa using hb
   rw[aC hb,vN (es:=es) (i:=i+1)]
   simp only[hb',Bool.false_or,cm,bP]
theorem zM{α:Type}{kt:Ty}{k:kt.den}:∀{es:List (kt.den×α)}{i j:Nat}{y:α},dG kt k es i=some (j,y)→i≤j
 |[],_,_,_,h=>by cases h
 |
  e::es,i,j,y,h=>by
  simp only[dG] at h
  split at h
  ·cases h;exact cq _
  ·exact Nat.le_of_succ_le (zM h)
theorem RM.OX{E:Env}{w:World}{kt vt:Ty}{k:kt.den}{y:vt.den}{v u:Value}(hk:kt.keyed=true)(hv:cF E w (.val kt k) v)(hu:cF E w (.val vt y) u):∀{l:List MapEntry}{es:List (kt.den×vt.den)}{i j:Nat}{z:vt.den},
 RM E w kt vt l es→dG kt k es i=some (i+j,z)→RM E w kt vt (l.modify j fun e=>{e with key:=v,val:=u}) (bE kt k y es)∧(∃e,l[j]? =some e∧cF E w (.val kt k) e.key)
 |[],[],_,_,_,_,h=>by cases h
 |[],_::_,_,_,_,h,_=>h.elim
 |_::_,[],_,_,_,h,_=>h.elim
 |
  e::l,x::es,i,j,z,⟨h1,h2,h3⟩,h=>by
  simp only[dG] at h
  split at h
  ·rename_i hb
   have hj:j=0:=by simp at h;omega
   subst hj
   have hx:=(cu hk _ _).1 hb
   refine⟨?_,e,rfl,by rw[hx];exact h1⟩
   simp only[bE,hb,bC]
   exact⟨hv,hu,h3⟩
  ·rename_i hb
   have:=zM h
   obtain⟨j,rfl⟩:∃m,j=m+1:=⟨j -1,by omega⟩
   rw[show i+(j+1)=(i+1)+j from by omega] at h
   obtain⟨r1,r2⟩:=RM.OX hk hv hu h3 h
   simp only[bE,hb]
   exact⟨⟨h1,h2,r1⟩,by simpa using r2⟩
theorem RM.push{E:Env}{w:World}{kt vt:Ty}{k:kt.den}{y:vt.den}{v u:Value}{n:Nat}(hv:cF E w (.val kt k) v)(hu:cF E w (.val vt y) u):∀{l:List MapEntry}{es:List (kt.den×vt.den)}{i:Nat},
 RM E w kt vt l es→dG kt k es i=none→RM E w kt vt (l++[{key:=v,val:=u,born:=n}]) (bE kt k y es)
 |[],[],_,_,_=>⟨hv,hu,trivial⟩
 |[],_::_,_,h,_=>h.elim
 |_::_,[],_,h,_=>h.elim
 |
  e::l,x::es,i,⟨h1,h2,h3⟩,h=>by
  simp only[dG] at h
  split at h
  ·cases h
  ·rename_i hb
   simp only[bE,hb]
   exact⟨h1,h2,RM.push hv hu h3 h⟩
theorem zN{α:Type}{kt:Ty}{k x:kt.den}{y:α}:∀{es:List (kt.den×α)},x∈(bE kt k y es).map (·.1)→x=k∨x∈es.map (·.1)
 |[],h=>by simp[bE] at h;exact Or.inl h
 |
  e::es,h=>by
  simp only[bE] at h
  split at h
  ·simp only[dp,eA] at h ⊢
   rcases h with h|h
   ·exact Or.inl h
   ·exact Or.inr (Or.inr h)
  ·simp only[dp,eA] at h ⊢
   rcases h with h|h
   ·exact Or.inr (Or.inl h)
   ·exact(zN h).imp id Or.inr
theorem dL{α:Type}{kt:Ty}(hk:kt.keyed=true){k:kt.den}{y:α}:∀{es:List (kt.den×α)},(es.map (·.1)).Nodup→((bE kt k y es).map (·.1)).Nodup
 |[],_=>by simp[bE]
 |
  e::es,h=>by
  simp only[dp,nn] at h
  simp only[bE]
  split
  ·rename_i hb
   have:=(cu hk _ _).1 hb
   simp only[dp,nn]
   exact⟨by rw[this];exact h.1,h.2⟩
  ·rename_i hb
   simp only[dp,nn]
   refine⟨fun hm=>?_,dL hk h.2⟩
   rcases zN hm with e1|e1
   ·exact hb ((cu hk _ _).2 e1.symm)
   ·exact h.1 e1
theorem dA{α:Type}{kt:Ty}{k:kt.den}{y:α}:∀{es:List (kt.den×α)},(bE kt k y es).length≤es.length+1
 |[]=>by simp[bE]
 |
  e::es=>by
  simp only[bE]
  split
  ·simp
  ·have:=dA (k:=k) (y:=y) (es:=es);simp;omega
def jQ(G:bT)(t:TypeId):Option (TypeId×TypeId×Ty×Ty):=
 match G.at t with
 |
  some td=>match G.at td.e,G.at td.e2 with
  |some k,some v=>if td.ty.isMap&&k.ty.keyed&&v.ty.pure then some (td.e,td.e2,k.ty,v.ty) else none
  |_,_=>none
 |none=>none
theorem iE{P:Program}{G:bT}(T:bB P G){t ke ve:TypeId}{kt vt:Ty}(h:jQ G t=some (ke,ve,kt,vt)):P.underlying t=some (.map ke ve)∧kt.keyed=true∧vt.pure=true∧(∃k,G.at ke=some k∧k.ty=kt)∧(∃v,G.at ve=some v∧v.ty=vt):=by
 unfold jQ at h
 split at h
 ·rename_i td ht
  split at h
  ·rename_i k v hk hv
   split at h
   ·rename_i hc
    cases h
    simp only[aV] at hc
    exact⟨T.mapOf ht hc.1.1,hc.1.2,hc.2,⟨k,hk,rfl⟩,⟨v,hv,rfl⟩⟩
   ·cases h
  ·cases h
 ·cases h
def qw(G:bT)(d:Nat)(t:TypeId):Option fj:=
 match jQ G t with
 |some (_,_,kt,vt)=>some ⟨.mp d,[(d,some (.map kt vt []))],[d],[]⟩
 |none=>none
theorem ya{P:Program}{G:bT}(T:bB P G){gl:Ctx}{σ:St}{E:Env}{a:Act}{w:World}(h:cd gl σ E a w){d:Nat}{t:TypeId}{r:fj}{rs:Option Value}(hrs:∀v,rs=some v→∃k n,v= .int k n)(he:qw G d t=some r)(hfr:∀b∈r.fr,σ.fresh b):
 ∃v w' E',(Instr.makeMap t rs).run P w= .ok v w'∧cd gl {σ with hp:=aO σ.hp r.hw} E' a w'∧RV E' w' r.v v∧Ext gl.md (Own σ.hp E) E w (Own (aO σ.hp r.hw) E') E' w':=by
 unfold qw at he
 split at he
 ·rename_i ke ve kt vt hm
  cases he
  obtain⟨h1,_⟩:=iE T hm
  have hf:=hfr d (by simp)
  obtain⟨g1,x1⟩:=h.fresh (w':=w.alloc (.map #[] 0)) hf (g:=some w.heap.size) (sv:=undef) (t:=.unit) (k:=.map kt vt []) rfl (Tp.r rfl rfl) rfl (by simp) (fun i hi=>heap_alloc_old w _ i hi) (fun i hi=>by cases hi;exact cq _)
   ⟨by simp,by simp[aE],w.heap.size, #[],0,by simp[Env.at],heap_alloc_new w _,trivial,by simp,by simp⟩
  refine⟨.map (some w.heap.size),_,_,?_,g1,RV.dO (Or.inr ⟨rfl,w.heap.size,by simp[Env.at],rfl⟩),x1⟩
  cases rs with
  |none=>simp[Instr.makeMap]
  |
   some v=>
   obtain⟨k,n,e⟩:=hrs v rfl
   subst e
   simp[Instr.makeMap,run_underlying h1,asInt,asIntOf]
 ·cases he
def vO(hb:Nat→Option aN)(kt vt:Ty):AV→Option (List (kt.den×vt.den))
 | .dT=>some []
 |
  .mp b=>match hb b with
  |some (.map k v es)=>if h:Ty.same k kt=true∧Ty.same v vt=true then some (Ty.aB h.1▸Ty.aB h.2▸es) else none
  |_=>none
 | .val (.map k v) y=>if h:Ty.same k kt=true∧Ty.same v vt=true then some (Ty.aB h.1▸Ty.aB h.2▸bU y) else none
 |_=>none
def yb(ok:Bool)(kt vt:Ty)(k:kt.den)(es:List (kt.den×vt.den)):AV:=
 match ok with
 |true=>.gC (.cons (.val vt (bz kt vt k es)) (.cons (.val .bool (cJ kt k es)) .nil))
 |false=>.val vt (bz kt vt k es)
def mE(P:Program)(G:bT)(hb:Nat→Option aN)(t:TypeId)(x i:AV)(ok:Bool):Option (AV×List VC):=
 match jQ G t with
 |
  some (ke,_,kt,vt)=>match vO hb kt vt x,i.bL kt with
  |some es,some k=>if i.plain then some (yb ok kt vt k es,[vc (iS P G 40 ke kt=true)]) else none
  |_,_=>none
 |none=>none
theorem Gs{gl:Ctx}{E:Env}{w:World}{hp:List (Option aN)}(hw:HW gl E w hp){hb:Nat→Option aN}(hB:HB hb hp){kt vt:Ty}{x:AV}{v:Value}{es:List (kt.den×vt.den)}(hx:RV E w x v)(h:vO hb kt vt x=some es):
 (v= .map none∧es= [])∨∃g en clock,v= .map (some g)∧w.heap[g]? =some (.map en clock)∧RM E w kt vt en.toList es:=by
 unfold vO at h
 split at h
 ·cases h
  have:=RV.atom rfl hx
  simp[RC] at this
  exact Or.inl ⟨this,rfl⟩
 ·split at h
  ·rename_i k v' es' hk
   split at h
   ·rename_i hc
    obtain⟨c1,c2⟩:=hc
    have e1:=Ty.aB c1;subst e1
    have e2:=Ty.aB c2;subst e2
    cases h
    obtain⟨g,hg,e⟩:=RV.atom rfl hx
    simp at e
    obtain⟨_,_,g',en,clock,r1,r2,r3,_⟩:=hw.cH _ _ (hB _ _ hk)
    rw[hg] at r1;cases r1
    exact Or.inr ⟨g,en,clock,e,r2,r3⟩
   ·cases h
  ·cases h
 ·rename_i k v' y
  split at h
  ·rename_i hc
   obtain⟨c1,c2⟩:=hc
   have e1:=Ty.aB c1;subst e1
   have e2:=Ty.aB c2;subst e2
   cases h
   obtain⟨a,e,hr⟩:=RV.atom rfl hx
   simp at e;subst e
   rcases hr with⟨rfl,rfl⟩|⟨es,g,en,clock,rfl,rfl,_,r2,r3,_⟩
   ·exact Or.inl ⟨rfl,rfl⟩
   ·exact Or.inr ⟨g,en,clock,rfl,r2,RM.of r3⟩
  ·cases h
 ·cases h
theorem zO{P:Program}{G:bT}(T:bB P G){gl:Ctx}{E:Env}{w:World}{hp:List (Option aN)}(hw:HW gl E w hp){hb:Nat→Option aN}(hB:HB hb hp){t:TypeId}{x i:AV}{ok:Bool}{vx vi:Value}(hx:RV E w x vx)(hi:RV E w i vi){r:AV}{vc:List VC}(h:mE P G hb t x i ok=some (r,vc))(hvc:dH vc):
 ∃v,(Instr.lookup t vx vi ok).run P w= .ok v w∧RV E w r v:=by
 unfold mE at h
 split at h
 ·rename_i ke ve kt vt hm
  split at h
  ·rename_i es k hes hk
   split at h
   ·rename_i hpl
    cases h
    obtain⟨h1,h2,h3,⟨kd,h4,h5⟩,⟨vd,h6,h7⟩⟩:=iE T hm
    subst h5;subst h7
    obtain⟨he,_⟩:=hvc
    have hkv:cF E w (.val kd.ty k) vi:=cF.bL hk (RV.js hpl hi)
    have hck:=iT T (E:=E) (w:=w)
    have hz:∃z,(zeroValue ve).run P w= .ok z w∧cF E w (.val vd.ty vd.ty.aD) z:=by
     obtain⟨z,z1,z2,z3⟩:=T.zero h6 w
     have hr:=(fA (E:=E) (w:=w) z2).2 h3
     refine⟨z,z1,?_⟩
     cases z with
     |agg cs=>exact Or.inl ⟨by simp only[yB] at z3;exact z3.symm,cs,rfl,hr⟩
     |_=>exact Or.inr ⟨by simp only[yB] at z3;exact z3.symm,by simp[Value.cells] at hr;exact hr⟩
    obtain⟨z,z1,z2⟩:=hz
    have fin:∀(en:Array MapEntry),RM E w kd.ty vd.ty en.toList es→∃r,(Instr.checkKey en.isEmpty 10000 ke vi).run P w= .ok () w∧(Instr.findKey ke vi en.toList).run P w= .ok r w∧
     ((r=none∧RV E w (yb ok kd.ty vd.ty k es) (if ok then Value.tuple #[z,.bool false] else z))∨(∃q,r=some q∧RV E w (yb ok kd.ty vd.ty k es) (if ok then Value.tuple #[q.2,.bool true] else q.2))):=by
     intro en hen
     obtain⟨r,r1,r2⟩:=uu T h4 he hkv hen
     have hc:=hck en.isEmpty 9960 40 ke kd h4 he k vi hkv
     have hmg:=vN (vt:=vd.ty) (k:=k) (es:=es) (i:=0)
     have nh:cJ kd.ty k es=false→bz kd.ty vd.ty k es=vd.ty.aD:=by
      generalize es=es
      induction es with
      |nil=>intro _;rfl
      |
       cons e es ih=>
       intro hh
       simp only[cJ,Bool.or_eq_false_iff] at hh
       simp only[bz,hh.1,cm,bP]
       exact ih hh.2
     have done:∀(v:Value)(b:Bool),cF E w (.val vd.ty (bz kd.ty vd.ty k es)) v→b=cJ kd.ty k es→RV E w (yb ok kd.ty vd.ty k es) (if ok then Value.tuple #[v,.bool b] else v):=by
      intro v b k1 k2
      subst k2
      cases ok with
      |true=>exact⟨_,rfl,k1,Or.inr ⟨rfl,rfl⟩,rfl⟩
      |false=>exact RV.dO k1
     revert r2 hmg
     generalize dG kd.ty k es 0=m
     intro r2 hmg
     cases m with
     |
      none=>
      cases r with
      |some _=>exact r2.elim
      |
       none=>
       have hnh:cJ kd.ty k es=false:=by
        cases hh:cJ kd.ty k es with
        |false=>rfl
        |true=>rw[hh] at hmg;simp at hmg
       exact⟨none,hc,r1,Or.inl ⟨rfl,done z false (by rw[nh hnh];exact z2) hnh.symm⟩⟩
     |
      some p=>
      cases r with
      |none=>exact r2.elim
      |
       some q=>
       have hnh:cJ kd.ty k es=true:=by
        cases hh:cJ kd.ty k es with
        |true=>rfl
        |false=>rw[hh] at hmg;simp at hmg
       rw[hnh] at hmg
       simp at hmg
       exact⟨some q,hc,r1,Or.inr ⟨q,rfl,done q.2 true (by rw[←hmg];exact r2.2) hnh.symm⟩⟩
    rcases Gs hw hB hx hes with⟨e1,e2⟩|⟨g,en,clock,e1,e2,e3⟩
    ·subst e1;subst e2
     obtain⟨r,k1,k2,k3⟩:=fin #[] trivial
     rcases k3 with⟨e,k3⟩|⟨q,e,k3⟩
     ·subst e
      exact⟨_,by simp only[Instr.lookup,Sem.run_bind,run_underlying h1,Result.andThen_ok,Sem.run_pure,k1,k2,z1],k3⟩
     ·subst e
      exact⟨_,by simp only[Instr.lookup,Sem.run_bind,run_underlying h1,Result.andThen_ok,Sem.run_pure,k1,k2],k3⟩
    ·subst e1
     obtain⟨r,k1,k2,k3⟩:=fin en e3
     have abT:(getObj g).run P w= .ok (.map en clock) w:=by simp[getObj,Sem.run,e2]
     rcases k3 with⟨e,k3⟩|⟨q,e,k3⟩
     ·subst e
      exact⟨_,by simp only[Instr.lookup,Sem.run_bind,run_underlying h1,Result.andThen_ok,Sem.run_pure,abT,k1,k2,z1],k3⟩
     ·subst e
      exact⟨_,by simp only[Instr.lookup,Sem.run_bind,run_underlying h1,Result.andThen_ok,Sem.run_pure,abT,k1,k2],k3⟩
   ·cases h
  ·cases h
 ·cases h
def ki(P:Program)(G:bT)(hb:Nat→Option aN)(t:TypeId)(x k v:AV):Option fj:=
 match jQ G t,x with
 |
  some (ke,_,kt,vt),.mp b=>match vO hb kt vt (.mp b),k.bL kt,v.bL vt with
  |some es,some k',some v'=>if k.plain&&v.plain then some ⟨.bot,[(b,some (.map kt vt (bE kt k' v' es)))],[],[vc (iS P G 40 ke kt=true),vc (es.length+1≤aE)]⟩ else none
  |_,_,_=>none
 |_,_=>none
theorem mF{P:Program}{G:bT}(T:bB P G){gl:Ctx}{σ:St}{E:Env}{a:Act}{w:World}(h:cd gl σ E a w){hb:Nat→Option aN}(hB:HB hb σ.hp){t:TypeId}{x k v:AV}{vx vk vv:Value}(hx:RV E w x vx)(hk:RV E w k vk)(hv:RV E w v vv){r:fj}(he:ki P G hb t x k v=some r)(hvc:dH r.vc):
 ∃w',(Instr.mapUpdate t vx vk vv).run P w= .ok () w'∧cd gl {σ with hp:=aO σ.hp r.hw} E a w'∧RV E w' r.v undef∧Ext gl.md (Own σ.hp E) E w (Own (aO σ.hp r.hw) E) E w':=by
 unfold ki at he
 split at he
 ·rename_i ke ve kt vt b hm
  split at he
  ·rename_i es k' v' hes hk' hv'
   split at he
   ·rename_i hpl
    cases he
    simp only[aV] at hpl
    obtain⟨he,hlen,_⟩:=hvc
    obtain⟨h1,h2,h3,⟨kd,h4,h5⟩,⟨vd,h6,h7⟩⟩:=iE T hm
    subst h5;subst h7
    have hkv:cF E w (.val kd.ty k') vk:=cF.bL hk' (RV.js hpl.1 hk)
    have hvv:cF E w (.val vd.ty v') vv:=cF.bL hv' (RV.js hpl.2 hv)
    have hbk:∃es0,hb b=some (.map kd.ty vd.ty es0)∧es0=es:=by
     simp only[vO] at hes
     split at hes
     ·rename_i k0 v0 es0 hb0
      split at hes
      ·rename_i hc
       obtain⟨c1,c2⟩:=hc
       have e1:=Ty.aB c1;have e2:=Ty.aB c2
       cases e1;cases e2
       cases hes
       exact⟨_,hb0,rfl⟩
      ·cases hes
     ·cases hes
    obtain⟨es0,hb0,e0⟩:=hbk
    subst e0
    have hbk:=hB b _ hb0
    obtain⟨q1,q2,g,en,clock,q3,q4,q5,q6,q7⟩:=h.hw.cH b _ hbk
    obtain⟨g',hg',e⟩:=RV.atom rfl hx
    simp at e;subst e
    rw[q3] at hg';cases hg'
    obtain⟨r,r1,r2⟩:=uu T h4 he hkv q5
    have hc:=iT T (E:=E) (w:=w) false 9960 40 ke kd h4 he k' vk hkv
    have abT:(getObj g).run P w= .ok (.map en clock) w:=by simp[getObj,Sem.run,q4]
    have hlt:g<w.heap.size:=(Array.getElem?_eq_some_iff.1 q4).1
    have key:∃en' ab0,(Instr.mapUpdate t (.map (some g)) vk vv).run P w= .ok () (w.putObj g (.map en' ab0))∧RM E w kd.ty vd.ty en'.toList (bE kd.ty k' v' es0)∧(∀x∈en'.toList,x.born<ab0)∧(en'.toList.map (·.born)).Nodup:=by
     have aO:∀o,(setObj g o).run P w= .ok () (w.putObj g o):=fun o=>by simp[setObj,Sem.run,q4,World.putObj]
     cases hf:dG kd.ty k' es0 0 with
     |
      none=>
      rw[hf] at r2
      cases r with
      |some _=>exact r2.elim
      |
       none=>
       refine⟨en.push {key:=vk,val:=vv,born:=clock},clock+1,?_,?_,?_,?_⟩
       ·simp only[Instr.mapUpdate,Sem.run_bind,run_underlying h1,Result.andThen_ok,abT,hc,r1,aO]
       ·rw[Array.toList_push];exact RM.push hkv hvv q5 hf
       ·intro x hx
        rw[Array.toList_push] at hx
        rcases List.mem_append.1 hx with hx|hx
        ·exact Nat.lt_succ_of_lt (q6 x hx)
        ·simp at hx;subst hx;exact Nat.lt_succ_self _
       ·rw[Array.toList_push,np]
        refine List.nodup_append.2 ⟨q7,by simp,?_⟩
        intro x hx y hy
        simp at hy
        obtain⟨z,hz,ez⟩:=List.mem_map.1 hx
        have:=q6 z hz
        omega
     |
      some p=>
      obtain⟨i,y⟩:=p
      rw[hf] at r2
      cases r with
      |none=>exact r2.elim
      |
       some q=>
       obtain⟨i',u⟩:=q
       obtain⟨e1,e2⟩:=r2
       simp only at e1 e2
       subst e1
       obtain⟨t1,e0,t2,t3⟩:=RM.OX (i:=0) (j:=i) h2 hkv hvv q5 (by rw[cZ];exact hf)
       obtain⟨f1,f2⟩:=cF.fn h2 t3 hkv
       have hold:((en[i]?).map (·.key)).getD vk=e0.key:=by
        have:en[i]? =some e0:=by simpa using t2
        rw[this];rfl
       have hstay:(Instr.keyThatStays (((en[i]?).map (·.key)).getD vk) vk).run P w= .ok vk w:=by
        rw[hold,Instr.keyThatStays,←f1,aA f2];simp
       refine⟨en.modify i fun e=>{e with key:=vk,val:=vv},clock,?_,?_,?_,?_⟩
       ·simp only[Instr.mapUpdate,Sem.run_bind,run_underlying h1,Result.andThen_ok,abT,hc,r1,hstay,aO]
       ·rw[Array.toList_modify];exact t1
       ·intro x hx
        rw[Array.toList_modify] at hx
        obtain⟨j,hj⟩:=List.mem_iff_getElem?.1 hx
        rw[List.getElem?_modify] at hj
        cases hj0:en.toList[j]? with
        |none=>rw[hj0] at hj;simp at hj
        |
         some z=>
         rw[hj0] at hj
         have hz:=q6 z (fP hj0)
         simp at hj
         subst hj
         split<;>exact hz
       ·have:(en.modify i fun e=>{e with key:=vk,val:=vv}).toList.map (·.born)=en.toList.map (·.born):=by
         rw[Array.toList_modify]
         apply List.ext_getElem?
         intro j
         simp only[List.getElem?_map,List.getElem?_modify]
         cases en.toList[j]? with
         |none=>rfl
         |some z=>simp;split<;>rfl
        rw[this];exact q7
    obtain⟨en',ab0,k1,k2,k3,k4⟩:=key
    have kp:bM E w E (w.putObj g (.map en' ab0)):=⟨fun i hi=>World.putObj_heap_other (fun e=>h.hw.jT b _ g hbk q3 (e▸hi)),fun _ h=>h⟩
    have hrb:RB E (w.putObj g (.map en' ab0)) b (.map kd.ty vd.ty (bE kd.ty k' v' es0)):=
     ⟨dL h2 q1,da dA hlen,g,en',ab0,q3,World.putObj_heap_same hlt,RM.mono kp k2,k3,k4⟩
    have hw2:=h.hw.write hbk (by simp) (fun i hi=>World.putObj_heap_other (fun e=>hi (by rw[e];exact q3))) hrb
    refine⟨_,k1,h.carry kp (fun _ _=>⟨rfl,rfl,rfl⟩) hw2,trivial,⟨rfl,Tp.r rfl rfl,rfl,by simp,?_,fun _ h=>h,fun _ h=>Or.inl h,fun i hi=>Or.inl (Own.mf hbk hi),fun _ _=>⟨rfl,rfl,rfl⟩⟩⟩
    intro i hi ho
    exact World.putObj_heap_other (fun e=>ho ⟨b,_,hbk,by rw[e];exact Or.inl q3⟩)
   ·cases he
  ·cases he
 ·cases he
end Go.Ax
namespace Go.Ax
def iH:List AV→AV
 |[]=>.nil
 |x::l=>.cons x (iH l)
def uv(fn:Fn)(fs cs:List AV):Option AV:=
 if(iH fs).atoms&&(iH cs).atoms then some (.func fn (iH fs) (iH cs)) else(match fn,fs,cs with
  | .func f,[.val t x],[]=>if t.isAgg then some (.dc f t x) else none
  |_,_,_=>none)
theorem oo{E:Env}{w:World}:∀{l:List Operand}{ev:Operand→AV}{f:Operand→Value},(∀x∈l,RV E w (ev x) (f x))→(iH (l.map ev)).atoms=true→RC E w (iH (l.map ev)) (l.map f)
 |[],_,_,_,_=>rfl
 |
  x::l,ev,f,h,ha=>by
  simp only[dp,iH,AV.atoms,aV] at ha ⊢
  exact⟨[f x],l.map f,rfl,RV.atom ha.1 (h x (cK ..)),oo (fun y hy=>h y (dr _ hy)) ha.2⟩
def ni(ev:Operand→AV)(ps:Array (Nat×Operand)):List (Nat×AV):=ps.toList.map fun x=>(x.1,ev x.2)
theorem lC{E:Env}{w:World}{ev:Operand→AV}{f:Operand→Value}:∀{ps:List (Nat×Operand)},(∀x∈ps,RV E w (ev x.2) (f x.2))→RP E w (ps.map fun x=>(x.1,ev x.2)) (ps.map fun x=>(x.1,f x.2))
 |[],_=>trivial
 |x::_l,h=>⟨rfl,h x (cK ..),lC (fun y hy=>h y (dr _ hy))⟩
def uw(P:Program)(G:bT)(d:Nat)(op:Op)(ev:Operand→AV)(hb:Nat→Option aN):Option fj:=
 match op with
 | .build t ps=>(xV G t (ni ev ps)).map .one
 | .buildSlice t n ps=>(lv G d t n (ni ev ps)).map fun y=>⟨y.1,[(d,some y.2)],[d],[]⟩
 | .makeFunc fn fs cs=>(uv fn (fs.toList.map ev) (cs.toList.map ev)).map .one
 | .slice t x lo hi mx=>(xX G hb t (ev x) (lo.map ev) (hi.map ev) (mx.map ev)).map .Gw
 | .makeSlice t l c=>mD G d t (ev l) (ev c)
 | .convert s t x=>(xY G hb s t (ev x)).map .one
 | .binOp o t x y _=>(MF P G o t (ev x) (ev y)).map .Gw
 | .call {callee:=.builtin .append,args:=⟨[x,y]⟩,argTypes:=⟨[t,t2]⟩}=>uh G hb d t t2 (ev x) (ev y)
 | .call {callee:=.builtin .copy,args:=⟨[x,y]⟩,argTypes:=⟨[t,_]⟩}=>BJ G hb t (ev x) (ev y)
 | .call {callee:=.builtin .clear,args:=⟨[x]⟩,argTypes:=⟨[t]⟩}=>xZ G hb t (ev x)
 | .makeMap t none=>qw G d t
 | .lookup t x i ok=>(mE P G hb t (ev x) (ev i) ok).map .Gw
 | .mapUpdate t x k v=>ki P G hb t (ev x) (ev k) (ev v)
 | .insert t x k v=>ki P G hb t (ev x) (ev k) (ev v)
 |_=>none
theorem yc{E:Env}{w:World}{ev:Operand→AV}{f:Operand→Value}{o:Option Operand}(h:∀x,o=some x→RV E w (ev x) (f x)):RO E w (o.map ev) (o.map f):=by
 cases o with
 |none=>trivial
 |some x=>exact h x rfl
theorem Gt{P:Program}{G:bT}(T:bB P G){gl:Ctx}{σ:St}{E:Env}{a:Act}{w:World}(h:cd gl σ E a w){o:Oper}{d:Nat}{ev:Operand→AV}{hb:Nat→Option aN}(hB:HB hb σ.hp){r:fj}
 (hev:∀x∈o.op.operands.toList,RV E w (ev x) (a.eval x)) (he:uw P G d o.op ev hb=some r) (hvc:dH r.vc) (hfr:∀b∈r.fr,σ.fresh b):bX P gl σ E a w o r:=by
 unfold uw at he
 split at he
 ·rename_i t ps hop
  obtain⟨u,hu,rfl⟩:=Option.map_eq_some_iff.1 he
  have hp:RP E w (ni ev ps) (ps.map fun(i,x)=>(i,a.eval x)).toList:=by
   rw[Array.toList_map]
   refine lC (fun x hx=>hev x.2 ?_)
   simp only[hop,Op.operands,List.mem_map]
   exact⟨x,hx,rfl⟩
  obtain⟨v,h1,h2⟩:=run_build T hp hu
  exact bX.same h (v:=v) (by simp[execOp,hop,h1]) h2
 ·rename_i t n ps hop
  obtain⟨⟨u,k⟩,hu,rfl⟩:=Option.map_eq_some_iff.1 he
  have hp:RP E w (ni ev ps) (ps.map fun(i,x)=>(i,a.eval x)).toList:=by
   rw[Array.toList_map]
   refine lC (fun x hx=>hev x.2 ?_)
   simp only[hop,Op.operands,List.mem_map]
   exact⟨x,hx,rfl⟩
  obtain⟨v,w',E',h1,h2,h3,h4⟩:=rz T h (hfr d (by simp)) hp hu
  exact⟨_,v,w',E',by simp[execOp,hop,h1],Or.inl rfl,h2,h3,h4⟩
 ·rename_i fn fs cs hop
  obtain⟨u,hu,rfl⟩:=Option.map_eq_some_iff.1 he
  unfold uv at hu
  split at hu
  ·rename_i hc
   cases hu
   simp only[aV] at hc
   have h1:RC E w (iH (fs.toList.map ev)) (fs.toList.map a.eval):=oo (fun x hx=>hev x (by simp only[hop,Op.operands,Array.toList_append,gA];exact Or.inl hx)) hc.1
   have h2:RC E w (iH (cs.toList.map ev)) (cs.toList.map a.eval):=oo (fun x hx=>hev x (by simp only[hop,Op.operands,Array.toList_append,gA];exact Or.inr hx)) hc.2
   exact bX.same h (v:=.func fn (fs.map a.eval) (cs.map a.eval)) (by simp[execOp,hop,Instr.makeFunc]) (RV.dO (Or.inr ⟨rfl,fs.map a.eval,cs.map a.eval,rfl,by rw[Array.toList_map];exact h1,by rw[Array.toList_map];exact h2,hc.1,hc.2⟩))
  ·split at hu
   ·rename_i f t x e1 e2
    split at hu
    ·rename_i ha
     cases hu
     obtain⟨o,ho,hx⟩:∃o,fs.toList= [o]∧ev o= .val t x:=by
      revert e1
      cases fs.toList with
      |nil=>intro e1;simp at e1
      |
       cons o l=>
       intro e1
       simp only[dp,List.cons.injEq,List.map_eq_nil_iff] at e1
       exact⟨o,by rw[e1.2],e1.1⟩
     have hcs:cs.toList= []:=List.map_eq_nil_iff.1 e2
     have hv:=hev o (by simp only[hop,Op.operands,Array.toList_append,gA];exact Or.inl (by rw[ho];simp))
     rw[hx] at hv
     have hv0:cF E w (.val t x) (a.eval o):=hv
     rcases hv0 with⟨_,cl,e,acf⟩|⟨hn,_⟩
     ·refine bX.same h (v:=.func (.func f) (fs.map a.eval) (cs.map a.eval)) (by simp[execOp,hop,Instr.makeFunc]) (RV.dO (Or.inr ⟨rfl,ha,cl,?_,acf⟩))
      have e3:fs.map a.eval= #[.agg cl]:=by apply fw;rw[Array.toList_map,ho];simp[e]
      have e4:cs.map a.eval= #[]:=by apply fw;rw[Array.toList_map,hcs];rfl
      rw[e3,e4]
     ·rw[AV.isAgg] at hn;rw[ha] at hn;cases hn
    ·cases hu
   ·cases hu
 ·rename_i t x lo hi mx hop
  obtain⟨⟨u,vc⟩,hu,rfl⟩:=Option.map_eq_some_iff.1 he
  have mem:∀y,y=x∨lo=some y∨hi=some y∨mx=some y→RV E w (ev y) (a.eval y):=by
   intro y hy
   refine hev y ?_
   simp only[hop,Op.operands]
   rcases hy with rfl|rfl|rfl|rfl<;>simp
  obtain⟨v,h1,h2⟩:=BH T h.hw hB (mem x (Or.inl rfl)) (yc (f:=a.eval) fun y hy=>mem y (Or.inr (Or.inl hy))) (yc (f:=a.eval) fun y hy=>mem y (Or.inr (Or.inr (Or.inl hy)))) (yc (f:=a.eval) fun y hy=>mem y (Or.inr (Or.inr (Or.inr hy)))) hu hvc
  exact bX.same h (v:=v) (by simp[execOp,hop,h1]) h2
 ·rename_i t l c hop
  obtain⟨v,w',E',h1,h2,h3,h4⟩:=uk T h (hev l (by simp[hop,Op.operands])) (hev c (by simp[hop,Op.operands])) he hvc hfr
  exact⟨_,v,w',E',by simp[execOp,hop,h1],Or.inl rfl,h2,h3,h4⟩
 ·rename_i s t x hop
  obtain⟨u,hu,rfl⟩:=Option.map_eq_some_iff.1 he
  obtain⟨v,w',E',h1,h2,h3,h4⟩:=BI T h hB (hev x (by simp[hop,Op.operands])) hu
  exact⟨_,v,w',E',by simp[execOp,hop,h1],Or.inl rfl,h2,h3,h4⟩
 ·rename_i bo t x y t2 hop
  obtain⟨⟨u,vc⟩,hu,rfl⟩:=Option.map_eq_some_iff.1 he
  obtain⟨h0,v,h1,h2⟩:=J1 T (ox:=x) (oy:=y) (hev x (by simp[hop,Op.operands])) (hev y (by simp[hop,Op.operands])) hu hvc
  exact bX.same h (v:=v) (by simp[execOp,hop,h0,h1]) h2
 ·rename_i x y t t2 hop
  obtain⟨v,w',E',h1,h2,h3,h4⟩:=zI T (ty:=o.type) h hB (hev x (by simp[hop,Op.operands,Call.operands])) (hev y (by simp[hop,Op.operands,Call.operands])) he hvc hfr
  refine⟨_,v,w',E',?_,Or.inl rfl,h2,h3,h4⟩
  simp[execOp,hop,resolve,invoke,builtin,h1]
 ·rename_i x y t t2 hop
  obtain⟨v,w',h1,h2,h3,h4⟩:=DX T (t2:=t2) (ty:=o.type) h hB (hev x (by simp[hop,Op.operands,Call.operands])) (hev y (by simp[hop,Op.operands,Call.operands])) he
  refine⟨_,v,w',E,?_,Or.inl rfl,h2,h3,h4⟩
  simp[execOp,hop,resolve,invoke,builtin,h1]
 ·rename_i x t hop
  obtain⟨v,w',h1,h2,h3,h4⟩:=BK T (ty:=o.type) h hB (hev x (by simp[hop,Op.operands,Call.operands])) he
  refine⟨_,v,w',E,?_,Or.inl rfl,h2,h3,h4⟩
  simp[execOp,hop,resolve,invoke,builtin,h1]
 ·rename_i t hop
  obtain⟨v,w',E',h1,h2,h3,h4⟩:=ya T (P:=P) (rs:=none) h (fun v hv=>by cases hv) he hfr
  exact⟨_,v,w',E',by simp[execOp,hop,h1],Or.inl rfl,h2,h3,h4⟩
 ·rename_i t x i ok hop
  obtain⟨⟨u,vc⟩,hu,rfl⟩:=Option.map_eq_some_iff.1 he
  obtain⟨v,h1,h2⟩:=zO T h.hw hB (hev x (by simp[hop,Op.operands])) (hev i (by simp[hop,Op.operands])) hu hvc
  exact bX.same h (v:=v) (by simp[execOp,hop,h1]) h2
 ·rename_i t x k v hop
  obtain⟨w',h1,h2,h4,h3⟩:=mF T h hB (hev x (by simp[hop,Op.operands])) (hev k (by simp[hop,Op.operands])) (hev v (by simp[hop,Op.operands])) he hvc
  exact⟨_,undef,w',E,by simp[execOp,hop,h1],Or.inr ⟨rfl,rfl⟩,h2,h4,h3⟩
 ·rename_i t x k v hop
  obtain⟨w',h1,h2,h4,h3⟩:=mF T h hB (hev x (by simp[hop,Op.operands])) (hev k (by simp[hop,Op.operands])) (hev v (by simp[hop,Op.operands])) he hvc
  exact⟨_,undef,w',E,by simp[execOp,hop,h1],Or.inr ⟨rfl,rfl⟩,h2,h4,h3⟩
 ·cases he
end Go.Ax
namespace Go.Ax
def kR:List (Nat×Nat)→Nat→Option Nat
 |[],_=>none
 |(a,b)::l,x=>if Nat.beq a x then some b else kR l x
def AV.dY(m:List (Nat×Nat)):AV→Option AV
 | .own b=>(kR m b).map .own
 | .jR b lo len=>(kR m b).map fun c=>.jR c lo len
 | .jb b p lo len=>(kR m b).map fun c=>.jb c p lo len
 | .ptr b p=>(kR m b).map fun c=>.ptr c p
 | .mp b=>(kR m b).map .mp
 |
  .func fn fs cs=>match fs.dY m,cs.dY m with
  |some f,some c=>if f.atoms&&c.atoms then some (.func fn f c) else none
  |_,_=>none
 |
  .iface t v=>match v.dY m with
  |some u=>if u.isAgg==v.isAgg then some (.iface t u) else none
  |none=>none
 |
  .cons a b=>match a.dY m,b.dY m with
  |some x,some y=>some (.cons x y)
  |_,_=>none
 | .gC l=>(l.dY m).map .gC
 | .opt _ _=>none
 | .eP _=>none
 |x=>some x
structure Rn(m:List (Nat×Nat))(E E':Env):Prop where
 at':∀b c,kR m b=some c→E'.g c=E.g b∧E'.sv c=E.sv b∧E'.bt c=E.bt b
 S:∀g,E.S g→E'.S g
theorem AV.J2{m:List (Nat×Nat)}{x y:AV}(h:x.dY m=some y):y.isAgg=x.isAgg:=by
 cases x with
 |own b=>simp only[AV.dY,fm] at h;obtain⟨c,_,rfl⟩:=h;rfl
 |jR b lo len=>simp only[AV.dY,fm] at h;obtain⟨c,_,rfl⟩:=h;rfl
 |jb b p lo len=>simp only[AV.dY,fm] at h;obtain⟨c,_,rfl⟩:=h;rfl
 |ptr b p=>simp only[AV.dY,fm] at h;obtain⟨c,_,rfl⟩:=h;rfl
 |mp b=>simp only[AV.dY,fm] at h;obtain⟨c,_,rfl⟩:=h;rfl
 |
  func fn fs cs=>
  simp only[AV.dY] at h
  split at h
  ·split at h
   ·cases h;rfl
   ·cases h
  ·cases h
 |
  iface t v=>
  simp only[AV.dY] at h
  split at h
  ·split at h
   ·cases h;rfl
   ·cases h
  ·cases h
 |
  cons a b=>
  simp only[AV.dY] at h
  split at h
  ·cases h;rfl
  ·cases h
 |gC l=>simp only[AV.dY,fm] at h;obtain⟨c,_,rfl⟩:=h;rfl
 |opt c v=>simp[AV.dY] at h
 |eP c=>simp[AV.dY] at h
 |_=>simp only[AV.dY,cE] at h;subst h;rfl
theorem RC.dY{m:List (Nat×Nat)}{E E':Env}{w:World}(r:Rn m E E'):∀{x y:AV}{vs:List Value},x.dY m=some y→RC E w x vs→RC E' w y vs:=by
 intro x
 have kp:bM E w E' w:=⟨fun _ _=>rfl,r.S⟩
 induction x with
 |
  own b=>
  intro y vs h hr
  simp only[AV.dY,fm] at h
  obtain⟨c,hc,rfl⟩:=h
  obtain⟨_,e2,_⟩:=r.at' b c hc
  simp only[RC] at hr ⊢
  rw[e2];exact hr
 |
  jR b lo len=>
  intro y vs h hr
  simp only[AV.dY,fm] at h
  obtain⟨c,hc,rfl⟩:=h
  obtain⟨_,e2,e3⟩:=r.at' b c hc
  obtain⟨a,c',n,t,hr⟩:=hr
  exact⟨a,c',n,t,by rw[e3,e2];exact hr⟩
 |
  jb b p lo len=>
  intro y vs h hr
  simp only[AV.dY,fm] at h
  obtain⟨c,hc,rfl⟩:=h
  obtain⟨e1,e2,e3⟩:=r.at' b c hc
  obtain⟨n,t,hr⟩:=hr
  exact⟨n,t,by rw[e3,e1];exact hr⟩
 |
  ptr b p=>
  intro y vs h hr
  simp only[AV.dY,fm] at h
  obtain⟨c,hc,rfl⟩:=h
  obtain⟨e1,e2,e3⟩:=r.at' b c hc
  obtain⟨g,hr⟩:=hr
  exact⟨g,by rw[e1,e3];exact hr⟩
 |
  mp b=>
  intro y vs h hr
  simp only[AV.dY,fm] at h
  obtain⟨c,hc,rfl⟩:=h
  obtain⟨e1,e2,e3⟩:=r.at' b c hc
  obtain⟨g,hr⟩:=hr
  exact⟨g,by rw[e1];exact hr⟩
 |
  func fn fs cs ih1 ih2=>
  intro y vs h hr
  simp only[AV.dY] at h
  split at h
  ·rename_i f c hf hc
   split at h
   ·rename_i ha
    cases h
    simp only[aV] at ha
    obtain⟨f',c',e,r1,r2,r3,r4⟩:=hr
    exact⟨f',c',e,ih1 hf r1,ih2 hc r2,ha.1,ha.2⟩
   ·cases h
  ·cases h
 |
  iface t v ih=>
  intro y vs h hr
  simp only[AV.dY] at h
  split at h
  ·rename_i u hu
   split at h
   ·rename_i ha
    cases h
    have ha:u.isAgg=v.isAgg:=by simpa using ha
    obtain⟨x,e,hr⟩:=hr
    refine⟨x,e,?_⟩
    rcases hr with⟨h1,cs,h2,h3⟩|⟨h1,h2⟩
    ·exact Or.inl ⟨by rw[ha];exact h1,cs,h2,ih hu h3⟩
    ·exact Or.inr ⟨by rw[ha];exact h1,ih hu h2⟩
   ·cases h
  ·cases h
 |
  cons a b ih1 ih2=>
  intro y vs h hr
  simp only[AV.dY] at h
  split at h
  ·rename_i x' y' h1 h2
   cases h
   obtain⟨v1,v2,e,r1,r2⟩:=hr
   exact⟨v1,v2,e,ih1 h1 r1,ih2 h2 r2⟩
  ·cases h
 |gC l=>intro y vs h hr;exact hr.elim
 |opt c v=>intro y vs h hr;exact hr.elim
 |val t x=>intro y vs h hr;simp only[AV.dY,cE] at h;subst h;exact Rel.mono kp.w kp.S hr
 |bN t x=>intro y vs h hr;simp only[AV.dY,cE] at h;subst h;exact RC.mono kp (fun b hb=>by cases hb) (a:=.bN t x) hr
 |dc f t x=>intro y vs h hr;simp only[AV.dY,cE] at h;subst h;exact RC.mono kp (fun b hb=>by cases hb) (a:=.dc f t x) hr
 |eP c=>intro y vs h;simp[AV.dY] at h
 |_=>intro y vs h hr;simp only[AV.dY,cE] at h;subst h;exact hr
theorem cF.dY{m:List (Nat×Nat)}{E E':Env}{w:World}(r:Rn m E E'){x y:AV}{v:Value}(h:x.dY m=some y)(hr:cF E w x v):cF E' w y v:=by
 have ha:=AV.J2 h
 rcases hr with⟨h1,cs,e,h2⟩|⟨h1,h2⟩
 ·exact Or.inl ⟨by rw[ha];exact h1,cs,e,RC.dY r h h2⟩
 ·exact Or.inr ⟨by rw[ha];exact h1,RC.dY r h h2⟩
theorem RT.dY{m:List (Nat×Nat)}{E E':Env}{w:World}(r:Rn m E E'):∀{x y:AV}{vs:List Value},x.dY m=some y→RT E w x vs→RT E' w y vs:=by
 intro x
 induction x with
 |
  cons a b ih1 ih2=>
  intro y vs h hr
  simp only[AV.dY] at h
  split at h
  ·rename_i x' y' h1 h2
   cases h
   cases vs with
   |nil=>exact hr.elim
   |cons v vs=>exact⟨cF.dY r h1 hr.1,ih2 h2 hr.2⟩
  ·cases h
 |nil=>intro y vs h hr;simp only[AV.dY,cE] at h;subst h;exact hr
 |_=>intro y vs h hr;exact hr.elim
theorem RV.dY{m:List (Nat×Nat)}{E E':Env}{w:World}(r:Rn m E E'){x y:AV}{v:Value}(h:x.dY m=some y)(hr:RV E w x v):RV E' w y v:=by
 cases x with
 |bot=>simp only[AV.dY,cE] at h;subst h;trivial
 |
  gC l=>
  simp only[AV.dY,fm] at h
  obtain⟨l',h,rfl⟩:=h
  obtain⟨vs,e,hr⟩:=hr
  exact⟨vs,e,RT.dY r h hr⟩
 |opt c a=>simp[AV.dY] at h
 |_=>exact RV.dO (cF.dY r h hr)
def aN.dY(m:List (Nat×Nat)):aN→Option aN
 |
  .var t v=>match v.dY m with
  |some u=>if u.bW t then some (.var t u) else none
  |none=>none
 |
  .tv g t v=>match v.dY m with
  |some u=>if u.bW t then some (.tv g t u) else none
  |none=>none
 |
  .bZ e bs t xs i v=>match v.dY m with
  |some u=>if u.bW t then some (.bZ e bs t xs i u) else none
  |none=>none
 | .cL _ _ _ _ _ (some _)| .pmap _ _ _ _ (some _)| .fY .. | .ig .. =>none
 |k=>some k
theorem RB.dY{m:List (Nat×Nat)}{E E':Env}{w:World}(r:Rn m E E'){b c:Nat}(hc:E'.g c=E.g b∧E'.sv c=E.sv b∧E'.bt c=E.bt b){k k':aN}(hP:k.EC=true→∀g,E.P b g→E'.P c g)(h:k.dY m=some k')(hk:RB E w b k):RB E' w c k':=by
 obtain⟨e1,e2,e3⟩:=hc
 have kp:bM E w E' w:=⟨fun _ _=>rfl,r.S⟩
 cases k with
 |
  var t v=>
  simp only[aN.dY] at h
  split at h
  ·rename_i u hu
   split at h
   ·rename_i hconf
    cases h
    obtain⟨h1,h2,g,c',e,h3,h4,h5⟩:=hk
    exact⟨by rw[e3];exact h1,hconf,g,c',e,by rw[e1];exact h3,h4,RC.dY r hu h5⟩
   ·cases h
  ·cases h
 |
  row e bs t xs=>
  simp only[aN.dY,cE] at h;subst h
  obtain⟨h1,h2,h3,h4,a,cap,h5,h6,h7⟩:=hk
  refine⟨by rw[e3];exact h1,h2,h3,h4,a,cap,by rw[e2];exact h5,h6,?_⟩
  rcases h7 with⟨h7,h8,h9⟩|⟨g,c',h7,h8,h9,h10,h11,h12⟩
  ·exact Or.inl ⟨h7,by rw[e1];exact h8,h9⟩
  ·exact Or.inr ⟨g,c',by rw[e1];exact h7,h8,h9,h10,h11,aT.mono (fun _ _=>Rel.mono kp.w kp.S) h12⟩
 |
  map kt vt es=>
  simp only[aN.dY,cE] at h;subst h
  obtain⟨h1,h1',g,en,clock,h2,h3,h4,h5,h6⟩:=hk
  exact⟨h1,h1',g,en,clock,by rw[e1];exact h2,h3,RM.mono kp h4,h5,h6⟩
 |
  lP k v rest cur=>
  simp only[aN.dY,cE] at h;subst h
  obtain⟨g,om,since,seen,c0,q1,q2,q3⟩:=hk
  refine⟨g,om,since,seen,c0,by rw[e1];exact q1,q2,q3.imp id ?_⟩
  rintro⟨bm,en,r1,r2,r3,r4,r5,r6,r7,r8⟩
  refine⟨bm,en,r1,kp.S bm r2,r3,r4,r5,r6,RM.mono kp r7,fun x hx=>?_⟩
  obtain⟨e,s0,t1,t2,t3,t4⟩:=r8 x hx
  exact⟨e,s0,t1,t2,cF.mono kp (fun _ hb=>by cases hb) t3,cF.mono kp (fun _ hb=>by cases hb) t4⟩
 |
  cL e bs t xs e2' f=>
  cases f with
  |some f=>simp[aN.dY] at h
  |
   none=>
   simp only[aN.dY,cE] at h;subst h
   obtain⟨h1,h2,h3,h4,h5,g,cap,c',og,q1,q2,q3,q4,q5,q6,q7,q8⟩:=hk
   refine⟨by rw[e3];exact h1,h2,h3,h4,h5,g,cap,c',og,by rw[e2];exact q1,q2,by rw[e1];exact q3,q4,q5,q6,q7.mono (hP rfl),fun i x hx=>?_⟩
   obtain⟨u,r1,r2,r3⟩:=q8 i x hx
   exact⟨u,r1,fun v hv=>(by cases hv),fun hv=>de.mono kp.w kp.S (fun _ _=>rfl) (r3 (fun v hv=>by cases hv))⟩
 |
  pmap kt t es e2' f=>
  cases f with
  |some f=>simp[aN.dY] at h
  |
   none=>
   simp only[aN.dY,cE] at h;subst h
   obtain⟨h1,h2,h3,g,en,clock,og,q1,q2,q3,q4,q5,q6,q7,q8⟩:=hk
   refine⟨h1,h2,h3,g,en,clock,og,by rw[e1];exact q1,q2,q3,q4,q5.mono (hP rfl),q6,fun i x hx=>?_,fun kx v=>⟨fun hf=>(by cases hf),fun hf=>(by cases hf)⟩⟩
   obtain⟨m,r1,r2,r3,r4⟩:=q7 i x hx
   exact⟨m,r1,cF.mono kp (fun _ hb=>by cases hb) r2,fun v pr hv=>(by cases hv),fun hv=>de.mono kp.w kp.S (fun _ _=>rfl) (r4 (fun v pr hv=>by cases hv))⟩
 |fY kt t es e2' kx v pr=>simp[aN.dY] at h
 |ig kt l=>simp[aN.dY] at h
 |lp l r=>simp only[aN.dY,cE] at h;subst h;exact⟨by rw[e1];exact hk.1,hk.2⟩
 |sS=>simp only[aN.dY,cE] at h;subst h;obtain⟨g,h1,h2⟩:=hk;exact⟨g,by rw[e1];exact h1,h2⟩
 |
  tv g t v=>
  simp only[aN.dY] at h
  split at h
  ·rename_i u hu
   split at h
   ·rename_i hconf
    cases h
    obtain⟨h0,h1,h2,c',e,h4,h5⟩:=hk
    exact⟨by rw[e1];exact h0,by rw[e3];exact h1,hconf,c',e,h4,RC.dY r hu h5⟩
   ·cases h
  ·cases h
 |
  bZ e bs t xs i v=>
  simp only[aN.dY] at h
  split at h
  ·rename_i u hu
   split at h
   ·rename_i hconf
    cases h
    obtain⟨h1,h2,h3,h4,h5,h6,g,cap,c',q1,q2,q3,q4,q5,q6,q7,q8,q9⟩:=hk
    exact⟨by rw[e3];exact h1,h2,h3,h4,h5,hconf,g,cap,c',by rw[e2];exact q1,q2,by rw[e1];exact q3,q4,q5,q6,aT.mono (fun _ _=>Rel.mono kp.w kp.S) q7,RC.dY r hu q8,aT.mono (fun _ _=>Rel.mono kp.w kp.S) q9⟩
   ·cases h
  ·cases h
theorem qx{hb:Nat→Option aN}:∀{x:AV}{m:Bool}{t:Ty}{y:AV}{l:List Nat},view hb x m t=some (y,l)→y.ids= []:=by
 intro x
 induction x with
 |val u x=>intro m t y l h;simp only[view,cE,ff] at h;rw[←h.1];rfl
 |bA=>intro m t y l h;cases m<;>cases t<;>simp[view] at h<;>(rw[←h.1];rfl)
 |
  own b=>
  intro m t y l h
  have h':(match fk hb b with|some ⟨bs,t,xs⟩=>some (AV.val (.slice bs t) xs,[b])|none=>none)=some (y,l):=by cases m<;>cases t<;>exact h
  split at h'<;>cases h';rfl
 |
  jR b lo len=>
  intro m t y l h
  have h':(match fk hb b with|some ⟨bs,t,xs⟩=>some (AV.val (.slice bs t) ((xs.drop lo).take len),[b])|none=>none)=some (y,l):=by cases m<;>cases t<;>exact h
  split at h'<;>cases h';rfl
 |
  jb b p lo len=>
  intro m t y l h
  cases t with
  |
   slice bs u=>
   have h':(match hb b with
    |
     some (.var _ v)=>match v.get p with
     |some (.val (.arr n t) xs)=>if Nat.ble (n*bs) aE&&Nat.ble n aE then some (AV.val (.slice bs t) ((List.drop lo xs).take len),[b]) else none
     |_=>none
    |_=>none)=some (y,l):=by cases m<;>exact h
   split at h'
   ·split at h'
    ·split at h'
     ·cases h';rfl
     ·cases h'
    ·cases h'
   ·cases h'
  |_=>cases m<;>simp[view] at h
 |
  ptr b p=>
  intro m t y l h
  have h':(match hb b with
   |
    some k=>match kC k p,(iP k).sub p with
    |
     some u,some s=>match u.bL s with
     |some y=>some (AV.bN s y,[b])
     |none=>none
    |_,_=>none
   |none=>none)=some (y,l):=by cases m<;>cases t<;>exact h
  split at h'
  ·split at h'
   ·split at h'
    ·cases h';rfl
    ·cases h'
   ·cases h'
  ·cases h'
 |bN u x=>
  intro m t y l h;have h':some (AV.bN u x,([]:List Nat))=some (y,l):=by cases m<;>cases t<;>exact h
  cases h';rfl
 |
  func fn fs cs ih1 ih2=>
  intro m t y l h
  have h':(match view hb fs true .unit,view hb cs true .unit with
   |some (f,l),some (c,m)=>if f.atoms&&c.atoms then some (AV.func fn f c,l++m) else none
   |_,_=>none)=some (y,l):=by cases m<;>cases t<;>exact h
  split at h'
  ·rename_i h1 h2
   split at h'
   ·cases h'
    simp only[AV.ids,ih1 h1,ih2 h2,eG]
   ·cases h'
  ·cases h'
 |
  cons a b ih1 ih2=>
  intro m t y l h
  cases m with
  |
   true=>
   have h':(match view hb a false .unit,view hb b true .unit with
    |some (x,l),some (y,m)=>some (AV.cons x y,l++m)
    |_,_=>none)=some (y,l):=by cases t<;>exact h
   split at h'
   ·rename_i h1 h2
    cases h'
    simp only[AV.ids,ih1 h1,ih2 h2,eG]
   ·cases h'
  |
   false=>
   cases t with
   |
    pair s t=>
    simp only[view] at h
    split at h
    ·cases h;rfl
    ·cases h
   |_=>simp[view] at h
 |nil=>intro m t y l h;cases m<;>cases t<;>simp[view] at h<;>(rw[←h.1];rfl)
 |gB=>
  intro m t y l h;have h':some (AV.gB,([]:List Nat))=some (y,l):=by cases m<;>cases t<;>exact h
  cases h';rfl
 |fy=>
  intro m t y l h;have h':some (AV.fy,([]:List Nat))=some (y,l):=by cases m<;>cases t<;>exact h
  cases h';rfl
 |
  mp b=>
  intro m t y l h
  have h':(match hb b with
   |some (.map k v es)=>some (AV.val (.map k v) (some es),[b])
   |_=>none)=some (y,l):=by cases m<;>cases t<;>exact h
  split at h'
  ·cases h';rfl
  ·cases h'
 |
  dc f u x=>
  intro m t y l h
  have h':some (AV.dc f u x,([]:List Nat))=some (y,l):=by cases m<;>cases t<;>exact h
  cases h';rfl
 |_=>intro m t y l h;cases m<;>cases t<;>simp[view] at h
def MG(φ:List (Nat×Nat))(hb:Nat→Option aN)(x:AV)(t:Ty):Option (AV×List Nat):=
 if x.ids.isEmpty then(match view hb x false t with
  |some r=>some r
  |none=>(x.dY φ).map fun y=>(y,[]))
 else match x.dY φ with
  |some y=>some (y,[])
  |none=>view hb x false t
def lO(φ:List (Nat×Nat))(hb:Nat→Option aN):List (AV×Ty)→Option (List AV×List Nat)
 |[]=>some ([],[])
 |
  (x,t)::l=>if x.plain then(match MG φ hb x t,lO φ hb l with
  |some (y,m),some (ys,ms)=>some (y::ys,m++ms)
  |_,_=>none) else none
theorem mG{gl:Ctx}{E E0:Env}{w:World}{hp:List (Option aN)}(hw:HW gl E w hp){hb:Nat→Option aN}(hB:HB hb hp){φ:List (Nat×Nat)}(hφ:∀b c,kR φ b=some c→E0.g c=E.g b∧E0.sv c=E.sv b∧E0.bt c=E.bt b):
 ∀{l:List (AV×Ty)}{ys:List AV}{ms:List Nat}{vs:List Value},lO φ hb l=some (ys,ms)→(∀g,(E.cU ms).S g→E0.S g)→kN E w (l.map (·.1)) vs→kN E0 w ys vs
 |
  [],ys,ms,vs,h,_,hr=>by
  cases h
  cases vs with
  |nil=>trivial
  |cons _ _=>exact hr.elim
 |
  (x,t)::l,ys,ms,vs,h,hS,hr=>by
  unfold lO at h
  split at h
  ·rename_i hp
   split at h
   ·rename_i y m ys' ms' h1 h2
    cases h
    cases vs with
    |nil=>exact hr.elim
    |
     cons v vs=>
     have hS1:∀g,(E.cU m).S g→E0.S g:=fun g hg=>hS g (hg.imp id (fun⟨b,hb,e⟩=>⟨b,List.mem_append.2 (Or.inl hb),e⟩))
     have hS2:∀g,(E.cU ms').S g→E0.S g:=fun g hg=>hS g (hg.imp id (fun⟨b,hb,e⟩=>⟨b,List.mem_append.2 (Or.inr hb),e⟩))
     refine⟨?_,mG hw hB hφ h2 hS2 hr.2⟩
     have hview:view hb x false t=some (y,m)→RV E0 w y v:=fun hv=>by
      have k1:=zE hw hB hv (RV.js hp hr.1)
      exact RV.dO (cF.mono (E:=E.cU m) (E':=E0) ⟨fun _ _=>rfl,hS1⟩ (by rw[qx hv];intro b hb;cases hb) k1)
     unfold MG at h1
     split at h1
     ·split at h1
      ·rename_i r hr';cases h1;exact hview hr'
      ·obtain⟨z,hz,e⟩:=Option.map_eq_some_iff.1 h1
       cases e
       exact RV.dY ⟨hφ,fun g hg=>hS1 g (Or.inl hg)⟩ hz hr.1
     ·split at h1
      ·rename_i z hz
       cases h1
       exact RV.dY ⟨hφ,fun g hg=>hS1 g (Or.inl hg)⟩ hz hr.1
      ·exact hview h1
   ·cases h
  ·cases h
theorem lD{φ:List (Nat×Nat)}{hb:Nat→Option aN}:∀{l:List (AV×Ty)}{ys:List AV}{ms:List Nat},lO φ hb l=some (ys,ms)→∀b∈ms,∃k,hb b=some k
 |[],ys,ms,h=>by cases h;intro b hb;cases hb
 |
  (x,t)::l,ys,ms,h=>by
  unfold lO at h
  split at h
  ·split at h
   ·rename_i y m ys' ms' h1 h2
    cases h
    intro b hb'
    rcases List.mem_append.1 hb' with hb'|hb'
    ·unfold MG at h1
     split at h1
     ·split at h1
      ·rename_i r hr';cases h1;exact qq hr' b hb'
      ·obtain⟨z,hz,e⟩:=Option.map_eq_some_iff.1 h1
       cases e
       cases hb'
     ·split at h1
      ·cases h1;cases hb'
      ·exact qq h1 b hb'
    ·exact lD h2 b hb'
   ·cases h
  ·cases h
def iZ(φ:List (Nat×Nat))(hb:Nat→Option aN):List (Nat×Nat)→Option (List (Nat×Option aN))
 |[]=>some []
 |
  (i,b)::l=>match hb b with
  |
   some k=>match k.dY φ,iZ φ hb l with
   |some k',some m=>some ((i,some k')::m)
   |_,_=>none
  |none=>none
theorem oq{φ:List (Nat×Nat)}{hb:Nat→Option aN}:∀{l:List (Nat×Nat)}{m:List (Nat×Option aN)}{i:Nat}{k:aN},iZ φ hb l=some m→(i,some k)∈m→∃b k0,(i,b)∈l∧hb b=some k0∧k0.dY φ=some k
 |[],m,i,k,h,hm=>by cases h;cases hm
 |
  (j,b)::l,m,i,k,h,hm=>by
  unfold iZ at h
  split at h
  ·rename_i k0 hk0
   split at h
   ·rename_i k' m' h1 h2
    cases h
    cases hm with
    |head=>exact⟨b,k0,cK ..,hk0,h1⟩
    |
     tail _ hm=>
     obtain⟨b',k1,q1,q2,q3⟩:=oq h2 hm
     exact⟨b',k1,dr _ q1,q2,q3⟩
   ·cases h
  ·cases h
theorem dS{c:Nat}{k:aN}:∀{l:List (Nat×Option aN)}{hp:List (Option aN)},(aO hp l)[c]? =some (some k)→(c,some k)∈l∨(c∉wrote l∧hp[c]? =some (some k))
 |[],hp,h=>Or.inr ⟨by simp[wrote],h⟩
 |
  (b,o)::l,hp,h=>by
  rw[aO] at h
  rcases dS h with h1|⟨h1,h2⟩
  ·exact Or.inl (dr _ h1)
  ·rw[bK] at h2
   split at h2
   ·rename_i e;subst e
    split at h2
    ·cases h2;exact Or.inl (cK ..)
    ·cases h2
   ·rename_i e
    refine Or.inr ⟨?_,h2⟩
    simp only[wrote,eA,not_or]
    exact⟨fun e'=>e e'.symm,h1⟩
def kq:List Nat→Bool
 |[]=>true
 |x::l=> !cT x l&&kq l
theorem fN:∀{l:List Nat},kq l=true→l.Nodup
 |[],_=>List.nodup_nil
 |
  x::l,h=>by
  simp only[kq,aV,iM] at h
  exact List.nodup_cons.2 ⟨eJ h.1,fN h.2⟩
theorem pF:∀{l:List (Nat×Nat)}{a b:Nat},kR l a=some b→(a,b)∈l
 |[],a,b,h=>by cases h
 |
  (x,y)::l,a,b,h=>by
  unfold kR at h
  split at h
  ·rename_i e;cases h;rw[bQ e];exact cK ..
  ·exact dr _ (pF h)
theorem dX:∀{l:List (Nat×Nat)}{a b:Nat},(l.map (·.1)).Nodup→(a,b)∈l→kR l a=some b
 |
  (x,y)::l,a,b,hn,hm=>by
  simp only[dp,nn] at hn
  unfold kR
  cases hm with
  |head=>simp
  |
   tail _ hm=>
   have:x≠a:=fun e=>hn.1 (e▸List.mem_map.2 ⟨(a,b),hm,rfl⟩)
   have hb:Nat.beq x a=false:=by
    cases h:Nat.beq x a with
    |false=>rfl
    |true=>exact absurd (bQ h) this
   rw[hb]
   exact dX hn.2 hm
def swp(l:List (Nat×Nat)):List (Nat×Nat):=l.map fun x=>(x.2,x.1)
theorem jo{l:List (Nat×Nat)}{a b:Nat}:(a,b)∈swp l↔(b,a)∈l:=by
 unfold swp
 constructor
 ·intro h
  obtain⟨⟨x,y⟩,h1,h2⟩:=List.mem_map.1 h
  cases h2;exact h1
 ·intro h;exact List.mem_map.2 ⟨(b,a),h,rfl⟩
def Ph:List (Nat×aN)→Nat→Option aN
 |[],_=>none
 |(i,k)::l,x=>if Nat.beq i x then some k else Ph l x
theorem Dg:∀{l:List (Nat×aN)}{a:Nat}{k:aN},Ph l a=some k→(a,k)∈l
 |[],a,b,h=>by cases h
 |
  (x,y)::l,a,b,h=>by
  unfold Ph at h
  split at h
  ·rename_i e;cases h;rw[bQ e];exact cK ..
  ·exact dr _ (Dg h)
def dk(m:Nat)(out:List (Nat×aN)):List (Option aN):=aO (List.replicate m none) (out.map fun x=>(x.1,some x.2))
theorem yd{m:Nat}:∀{out:List (Nat×aN)}{hp:List (Option aN)}{i:Nat}{k:aN},(out.map (·.1)).Nodup→(i,k)∈out→i<hp.length→(aO hp (out.map fun x=>(x.1,some x.2)))[i]? =some (some k)
 |
  (j,k')::out,hp,i,k,hn,hm,hl=>by
  simp only[dp,nn] at hn
  rw[dp,aO]
  cases hm with
  |
   head=>
   have hw:∀(l:List (Nat×aN)),j∉l.map (·.1)→j∉wrote (l.map fun x=>(x.1,some x.2)):=by
    intro l
    induction l with
    |nil=>simp[wrote]
    |cons x l ih=>intro h;simp only[dp,wrote,eA,not_or] at h ⊢;exact⟨h.1,ih h.2⟩
   rw[ee (hw out hn.1),bK]
   simp[hl]
  |tail _ hm=>exact yd (m:=m) hn.2 hm (by simpa using hl)
end Go.Ax
