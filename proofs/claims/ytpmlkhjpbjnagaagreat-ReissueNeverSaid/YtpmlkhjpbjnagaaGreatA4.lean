/- The machines: what it means to be walked or run, part 4. No condition. -/
import Derived.Test.YtpmlkhjpbjnagaaGreatA3
import Derived.Laws.Cover3
import Derived.RangeFuncRecord
import Derived.RecoverIn
namespace Go.Ax
@[reducible] def prod:List Type→Type
 |[]=>Unit
 |t::l=>t×prod l
@[reducible] def fU:List Type→Type
 |[]=>Unit
 |[t]=>t
 |t::u::l=>t×fU (u::l)
def Tc:(l:List Type)→prod l→fU l
 |[],_=>()
 |[_],d=>d.1
 |_::u::l,d=>(d.1,Tc (u::l) d.2)
def rT:(l:List Type)→fU l→prod l
 |[],_=>()
 |[_],d=>(d,())
 |_::u::l,d=>(d.1,rT (u::l) d.2)
variable{α:Type}
theorem no{e:α}{p:Prop}(h:(none:Option α)=some e):p:=by cases h
theorem qN:∀(l:List Type)(d:prod l),rT l (Tc l d)=d
 |[],_=>rfl
 |[_],_=>rfl
 |_::u::l,d=>by show(d.1,rT (u::l) (Tc (u::l) d.2))=d;rw[qN (u::l) d.2]
inductive WV where
 |cD (n:Nat)
 |idx
inductive Sh where
 |val (t:Ty)
 |bn
 |own (b:Nat)
 |ku (b:Nat)
 |ptr (b:Nat) (p:List WV)
 |cd (t:Ty)
 |iy (s:Sh)
 |mp (b:Nat)
 |eP
 |dX
 |fv
 |hJ
 |func (f:FuncId) (fs cs:Sh)
 |Du
 |iface (t:TypeId) (v:Sh)
 |cons (a b:Sh)
 |nil
 |fx0
 |dK (t:Ty)
 |fy (f:FuncId) (t:Ty)
inductive de where
 |var (t:Ty) (s:Sh)
 |row (e:TypeId) (bs:Nat) (t:Ty)
 |map (k v:Ty)
 |lp
 |uS
 |tv (t:Ty) (s:Sh)
 |cI (e:TypeId) (bs:Nat) (t:Ty) (s:Sh)
 |cT (e:TypeId) (bs:Nat) (t:Ty) (e2:TypeId)
 |pmap (k t:Ty) (e2:TypeId)
 |kB (k v:Ty)
 |iu (k:Ty) (l:List (k.den×FuncId))
 |gq (e:TypeId) (bs:Nat) (t:Ty)
def pH:List WV→List Type→List Type
 |[],l=>l
 | .cD _::p,l=>pH p l
 | .idx::p,l=>Nat::pH p l
def pV:(p:List WV)→{l:List Type}→prod (pH p l)→Path
 |[],_,_=>[]
 | .cD n::p,_,d=>.cD n::pV p d
 | .idx::p,_,d=>.idx d.1::pV p d.2
def pR:(p:List WV)→{l:List Type}→prod (pH p l)→prod l
 |[],_,d=>d
 | .cD _::p,_,d=>pR p d
 | .idx::p,_,d=>pR p d.2
def pG:(p:List WV)→{l:List Type}→Path→prod l→Option (prod (pH p l))
 |[],_,[],d=>some d
 | .cD n::p,_,.cD m::q,d=>if Nat.beq n m then pG p q d else none
 |
  .idx::p,_,.idx i::q,d=>match pG p q d with
  |some e=>some (i,e)
  |none=>none
 |_,_,_,_=>none
theorem LM:∀{p:List WV}{l:List Type}{q:Path}{d:prod l}{e:prod (pH p l)},pG p q d=some e→pV p e=q∧pR p e=d
 |
  [],l,q,d,e,h=>by
  cases q with
  |nil=>cases(kN h:d=e);trivial
  |cons s q=>trivial
 |
  .cD n::p,l,q,d,e,h=>by
  cases q with
  |nil=>trivial
  |
   cons s q=>
   cases s with
   |
    cD m=>
    obtain⟨hb,h0⟩:=bK h
    have hb:=bM hb
    subst hb
    obtain⟨h1,h2⟩:=LM (p:=p) h0
    exact⟨by simp only[pV];rw[h1],h2⟩
   |idx i=>trivial
 |
  .idx::p,l,q,d,e,h=>by
  cases q with
  |nil=>simp[pG] at h
  |
   cons s q=>
   cases s with
   |cD m=>simp[pG] at h
   |
    idx i=>
    simp only[pG] at h
    split at h
    ·rename_i e' he
     cases h
     obtain⟨h1,h2⟩:=LM (p:=p) he
     exact⟨by simp only[pV];rw[h1],h2⟩
    ·cases h
def Sh.H:Sh→List Type→List Type
 | .val t,l=>t.den::l
 | .fy _ t,l=>t.den::l
 | .ku _,l=>Nat::Nat::l
 | .ptr _ p,l=>pH p l
 | .cd t,l=>t.den::l
 | .Du,l=>Nat::l
 | .func _ fs cs,l=>fs.H (cs.H l)
 | .iface _ v,l=>v.H l
 | .iy v,l=>v.H l
 | .cons a b,l=>a.H (b.H l)
 |_,l=>l
def Sh.R:(s:Sh)→{l:List Type}→prod (s.H l)→prod l
 | .val _,_,d=>d.2
 | .fy _ _,_,d=>d.2
 | .ku _,_,d=>d.2.2
 | .ptr _ p,_,d=>pR p d
 | .cd _,_,d=>d.2
 | .Du,_,d=>d.2
 | .func _ fs cs,_,d=>cs.R (fs.R d)
 | .iface _ v,_,d=>v.R d
 | .iy v,_,d=>v.R d
 | .cons a b,_,d=>b.R (a.R d)
 | .bn,_,d| .own _,_,d| .mp _,_,d| .eP,_,d| .dX,_,d| .fv,_,d| .hJ,_,d| .nil,_,d| .dK _,_,d| .fx0,_,d=>d
def Sh.V(y:YC):(s:Sh)→{l:List Type}→prod (s.H l)→AV
 | .val t,_,d=>.val t d.1
 | .fy f t,_,d=>.fy f t d.1
 | .ku b,_,d=>.ku b d.1 d.2.1
 | .ptr b p,_,d=>.ptr b (pV p d)
 | .cd t,_,d=>.cd t d.1
 | .func f fs cs,_,d=>.func (.func f) (fs.V y d) (cs.V y (fs.R d))
 | .iface t v,_,d=>.iface t (v.V y d)
 | .iy v,_,d=>.iy (v.V y d)
 | .cons a b,_,d=>.cons (a.V y d) (b.V y (a.R d))
 | .bn,_,_=>.bn
 | .own b,_,_=>.own b
 | .mp b,_,_=>.mp b
 | .eP,_,_=>.eP
 | .dX,_,_=>.dX
 | .fv,_,_=>.fv
 | .hJ,_,_=>.hJ
 | .Du,_,d=>.func (.yield d.1) .nil .nil
 | .nil,_,_=>.nil
 | .fx0,_,_=>.fx
 | .dK t,_,_=>.dK t
def mi{t u:Ty}(h:Ty.same u t=true)(x:u.den):t.den:=Ty.aB h▸x
theorem ze{t u:Ty}(h:Ty.same u t=true)(x:u.den):AV.val t (mi h x)= .val u x:=by
 have e:=Ty.aB h
 subst e;rfl
theorem Fk{f:FuncId}{t u:Ty}(h:Ty.same u t=true)(x:u.den):AV.fy f t (mi h x)= .fy f u x:=by
 have e:=Ty.aB h
 subst e;rfl
theorem Fl{t u:Ty}(h:Ty.same u t=true)(x:u.den):AV.cd t (mi h x)= .cd u x:=by
 have e:=Ty.aB h
 subst e;rfl
def Sh.G:(s:Sh)→{l:List Type}→AV→prod l→Option (prod (s.H l))
 |
  .val t,_,x,d=>match x with
  | .val u x=>if h:Ty.same u t=true then some (mi h x,d) else none
  |_=>none
 |
  .fy f t,_,x,d=>match x with
  | .fy g u x=>if Nat.beq f g then(if h:Ty.same u t=true then some (mi h x,d) else none) else none
  |_=>none
 |
  .cd t,_,x,d=>match x with
  | .cd u x=>if h:Ty.same u t=true then some (mi h x,d) else none
  |_=>none
 |
  .ku b,_,x,d=>match x with
  | .ku c i j=>if Nat.beq b c then some (i,j,d) else none
  |_=>none
 |
  .ptr b p,_,x,d=>match x with
  | .ptr c q=>if Nat.beq b c then pG p q d else none
  |_=>none
 |
  .func f fs cs,_,x,d=>match x with
  |
   .func (.func g) xs ys=>if Nat.beq f g then(match cs.G ys d with
   |some e=>fs.G xs e
   |none=>none) else none
  |_=>none
 |
  .Du,_,x,d=>match x with
  | .func (.yield g) .nil .nil=>some (g,d)
  |_=>none
 |
  .iface t v,_,x,d=>match x with
  | .iface u x=>if Nat.beq t u then v.G x d else none
  |_=>none
 |
  .iy v,_,x,d=>match x with
  | .iy x=>v.G x d
  |_=>none
 |
  .cons a b,_,x,d=>match x with
  |
   .cons x y=>(match b.G y d with
   |some e=>a.G x e
   |none=>none)
  |_=>none
 |
  .bn,_,x,d=>match x with
  | .bn=>some d
  |_=>none
 |
  .eP,_,x,d=>match x with
  | .eP=>some d
  |_=>none
 |
  .dX,_,x,d=>match x with
  | .dX=>some d
  |_=>none
 |
  .fv,_,x,d=>match x with
  | .fv=>some d
  |_=>none
 |
  .hJ,_,x,d=>match x with
  | .hJ=>some d
  |_=>none
 |
  .nil,_,x,d=>match x with
  | .nil=>some d
  |_=>none
 |
  .fx0,_,x,d=>match x with
  | .fx=>some d
  |_=>none
 |
  .own b,_,x,d=>match x with
  | .own c=>if Nat.beq b c then some d else none
  |_=>none
 |
  .mp b,_,x,d=>match x with
  | .mp c=>if Nat.beq b c then some d else none
  |_=>none
 |
  .dK t,_,x,d=>match x with
  | .dK u=>if Ty.same t u then some d else none
  |_=>none
set_option maxHeartbeats 2000000 in
theorem Sh.yg(y:YC):∀{s:Sh}{l:List Type}{x:AV}{d:prod l}{e:prod (s.H l)},s.G x d=some e→s.V y e=x∧s.R e=d:=by
 intro s
 induction s with
 |
  val t=>
  intro l x d e h
  cases x<;>first|exact no h|skip
  rename_i u z
  replace h:(if hh:Ty.same u t=true then some (mi hh z,d) else none)=some e:=h
  split at h
  ·rename_i hs;cases h;exact⟨ze hs _,rfl⟩
  ·cases h
 |
  cd t=>
  intro l x d e h
  cases x<;>first|exact no h|skip
  rename_i u z
  replace h:(if hh:Ty.same u t=true then some (mi hh z,d) else none)=some e:=h
  split at h
  ·rename_i hs;cases h;exact⟨Fl hs _,rfl⟩
  ·cases h
 |
  fy f t=>
  intro l x d e h
  cases x<;>first|exact no h|skip
  rename_i g u z
  replace h:(if Nat.beq f g then(if hh:Ty.same u t=true then some (mi hh z,d) else none) else none)=some e:=h
  split at h
  ·rename_i hf
   have:=bM hf;subst this
   split at h
   ·rename_i hs;cases h;exact⟨Fk hs _,rfl⟩
   ·cases h
  ·cases h
 |
  ku b=>
  intro l x d e h
  cases x<;>first|exact no h|skip
  rename_i c i j
  replace h:(if Nat.beq b c then some (i,j,d) else none)=some e:=h
  split at h
  ·rename_i hs;cases h;have:=bM hs;subst this;trivial
  ·cases h
 |
  ptr b p=>
  intro l x d e h
  cases x<;>first|exact no h|skip
  rename_i c q
  replace h:(if Nat.beq b c then pG p q d else none)=some e:=h
  obtain⟨hs,h0⟩:=bK h
  have:=bM hs;subst this
  obtain⟨h1,h2⟩:=LM h0
  exact⟨by simp only[Sh.V];rw[h1],h2⟩
 |
  func f fs cs ih1 ih2=>
  intro l x d e h
  cases x with
  |
   func g xs ys=>
   cases g with
   |
    func g=>
    replace h:(if Nat.beq f g then(match cs.G ys d with
     |some e=>fs.G xs e
     |none=>none) else none)=some e:=h
    split at h
    ·rename_i hs
     have:=bM hs;subst this
     split at h
     ·rename_i e' he
      obtain⟨a1,a2⟩:=ih2 he
      obtain⟨b1,b2⟩:=ih1 h
      grind [Sh.V,Sh.R]
     ·cases h
    ·cases h
   |_=>exact no h
  |_=>exact no h
 |
  iy v ih=>
  intro l x d e h
  cases x<;>first|exact no h|skip
  rename_i z
  replace h:v.G z d=some e:=h
  obtain⟨b1,b2⟩:=ih h
  exact⟨by simp only[Sh.V];rw[b1],b2⟩
 |
  iface t v ih=>
  intro l x d e h
  cases x<;>first|exact no h|skip
  rename_i u z
  replace h:(if Nat.beq t u then v.G z d else none)=some e:=h
  obtain⟨hs,h0⟩:=bK h
  have:=bM hs;subst this
  obtain⟨b1,b2⟩:=ih h0
  exact⟨by simp only[Sh.V];rw[b1],b2⟩
 |
  cons a b ih1 ih2=>
  intro l x d e h
  cases x<;>first|exact no h|skip
  rename_i x y'
  replace h:(match b.G y' d with
   |some e=>a.G x e
   |none=>none)=some e:=h
  split at h
  ·rename_i e' he
   obtain⟨a1,a2⟩:=ih2 he
   obtain⟨b1,b2⟩:=ih1 h
   grind [Sh.V,Sh.R]
  ·cases h
 |
  own b=>
  intro l x d e h
  cases x<;>first|exact no h|skip
  rename_i c
  replace h:(if Nat.beq b c then some d else none)=some e:=h
  split at h
  ·rename_i hs;cases h;have:=bM hs;subst this;trivial
  ·cases h
 |
  mp b=>
  intro l x d e h
  cases x<;>first|exact no h|skip
  rename_i c
  replace h:(if Nat.beq b c then some d else none)=some e:=h
  split at h
  ·rename_i hs;cases h;have:=bM hs;subst this;trivial
  ·cases h
 |
  dK t=>
  intro l x d e h
  cases x<;>first|exact no h|skip
  rename_i u
  replace h:(if Ty.same t u then some d else none)=some e:=h
  split at h
  ·rename_i hs;cases h;have:=Ty.aB hs;subst this;trivial
  ·cases h
 |
  Du=>
  intro l x d e h
  cases x with
  |
   func g xs ys=>
   cases g with
   |
    yield g=>
    cases xs<;>first|exact no h|skip
    cases ys<;>first|exact no h|skip
    replace h:some (g,d)=some e:=h
    cases h;trivial
   |_=>exact no h
  |_=>exact no h
 |
  _=>
  intro l x d e h
  cases x<;>first|exact no h|skip
  replace h:some d=some e:=h
  cases h
  exact⟨rfl,rfl⟩
def de.H:de→List Type→List Type
 | .var _ s,l=>s.H l
 | .row _ _ t,l=>List t.den::l
 | .map k v,l=>List (k.den×v.den)::l
 | .lp,l=>YC::Nat::l
 | .uS,l=>l
 | .tv _ s,l=>Nat::s.H l
 | .cI _ _ t s,l=>List t.den::Nat::s.H l
 | .cT _ _ t _,l=>List t.den::l
 | .pmap k t _,l=>List (k.den×t.den)::l
 | .kB k v,l=>List (k.den×v.den)::l
 | .iu _ _,l=>l
 | .gq _ _ t,l=>List t.den::l
def de.R:(s:de)→{l:List Type}→prod (s.H l)→prod l
 | .var _ s,_,d=>s.R d
 | .row _ _ _,_,d=>d.2
 | .map _ _,_,d=>d.2
 | .lp,_,d=>d.2.2
 | .uS,_,d=>d
 | .tv _ s,_,d=>s.R d.2
 | .cI _ _ _ s,_,d=>s.R d.2.2
 | .cT _ _ _ _,_,d=>d.2
 | .pmap _ _ _,_,d=>d.2
 | .kB _ _,_,d=>d.2
 | .iu _ _,_,d=>d
 | .gq _ _ _,_,d=>d.2
def XN{k:Ty}:List (k.den×FuncId)→List (k.den×AV)
 |[]=>[]
 |x::l=>(x.1,.func (.func x.2) .nil .nil)::XN l
def Px{k:Ty}:List (k.den×AV)→List (k.den×FuncId)→Bool
 |[],[]=>true
 |
  x::l,z::m=>(match x.2 with
  | .func (.func f) .nil .nil=>Nat.beq f z.2
  |_=>false)&&bl k x.1 z.1&&Px l m
 |_,_=>false
theorem HU{k:Ty}(hk:k.keyed=true):∀{l:List (k.den×AV)}{m:List (k.den×FuncId)},Px l m=true→XN m=l
 |[],[],_=>rfl
 |[],_::_,h=>by cases h
 |_::_,[],h=>by cases h
 |
  x::l,z::m,h=>by
  simp only[Px,bj] at h
  obtain⟨⟨h1,h2⟩,h3⟩:=h
  have e:=(bO hk _ _).1 h2
  obtain⟨x1,x2⟩:=x
  simp only at e h1
  split at h1
  ·have:=bM h1
   subst this;subst e
   simp only[XN]
   rw[HU hk h3]
  ·cases h1
def de.V(y:YC):(s:de)→{l:List Type}→prod (s.H l)→aO
 | .var t s,_,d=>.var t (s.V y d)
 | .row e bs t,_,d=>.row e bs t d.1
 | .map k v,_,d=>.map k v d.1
 | .lp,_,d=>.lp d.1 d.2.1
 | .uS,_,_=>.uS
 | .tv t s,_,d=>.tv d.1 t (s.V y d.2)
 | .cI e bs t s,_,d=>.cI e bs t d.1 d.2.1 (s.V y d.2.2)
 | .cT e bs t e2,_,d=>.cT e bs t d.1 e2 none
 | .pmap k t e2,_,d=>.pmap k t d.1 e2 none
 | .kB k v,_,d=>.kB k v d.1 none
 | .iu k l,_,_=>.iu k (XN l)
 | .gq e bs t,_,d=>.gq e bs t d.1
def HV{t u:Ty}(h:Ty.same u t=true)(x:List u.den):List t.den:=Ty.aB h▸x
def LN{t u t' u':Ty}(h:Ty.same u t=true)(h':Ty.same u' t'=true)(x:List (u.den×u'.den)):List (t.den×t'.den):=Ty.aB h▸Ty.aB h'▸x
def XO{t u:Ty}(h:Ty.same u t=true)(x:List (u.den×AV)):List (t.den×AV):=Ty.aB h▸x
def de.G:(s:de)→{l:List Type}→aO→prod l→Option (prod (s.H l))
 | .var t s,_,.var u x,d=>if Ty.same u t then s.G x d else none
 | .row e bs t,_,.row e' bs' u xs,d=>if Nat.beq e e'&&Nat.beq bs bs' then(if h:Ty.same u t=true then some (HV h xs,d) else none) else none
 | .map k v,_,.map k' v' es,d=>if h:Ty.same k' k=true then(if h':Ty.same v' v=true then some (LN h h' es,d) else none) else none
 | .uS,_,.uS,d=>some d
 | .lp,_,.lp y j,d=>some (y,j,d)
 |
  .tv t s,_,.tv g u x,d=>if Ty.same u t then(match s.G x d with
  |some r=>some (g,r)
  |none=>none) else none
 |
  .cI e bs t s,_,.cI e' bs' u xs i x,d=>if Nat.beq e e'&&Nat.beq bs bs' then(if h:Ty.same u t=true then(match s.G x d with
  |some r=>some (HV h xs,i,r)
  |none=>none) else none) else none
 | .cT e bs t e2,_,.cT e' bs' u xs e2' none,d=>if Nat.beq e e'&&Nat.beq bs bs'&&Nat.beq e2 e2' then(if h:Ty.same u t=true then some (HV h xs,d) else none) else none
 | .pmap k t e2,_,.pmap k' t' es e2' none,d=>if Nat.beq e2 e2' then(if h:Ty.same k' k=true then(if h':Ty.same t' t=true then some (LN h h' es,d) else none) else none) else none
 | .kB k v,_,.kB k' v' es none,d=>if h:Ty.same k' k=true then(if h':Ty.same v' v=true then some (LN h h' es,d) else none) else none
 | .iu k l,_,.iu k' l',d=>if h:Ty.same k' k=true then(if k.keyed&&Px (XO h l') l then some d else none) else none
 | .gq e bs t,_,.gq e' bs' u xs,d=>if Nat.beq e e'&&Nat.beq bs bs' then(if h:Ty.same u t=true then some (HV h xs,d) else none) else none
 |_,_,_,_=>none
theorem de.yg(y:YC){s:de}{l:List Type}{x:aO}{d:prod l}{e:prod (s.H l)}(h:s.G x d=some e):s.V y e=x∧s.R e=d:=by
 cases s with
 |
  var t s=>
  cases x<;>simp only[de.G] at h<;>try cases h
  obtain⟨hs,h0⟩:=bK h
  have:=Ty.aB hs;subst this
  obtain⟨h1,h2⟩:=Sh.yg y h0
  exact⟨by simp only[de.V];rw[h1],h2⟩
 |
  row e bs t=>
  cases x<;>simp only[de.G] at h<;>try cases h
  split at h
  ·rename_i hs
   simp only[bj] at hs
   have e1:=bM hs.1;subst e1
   have e2:=bM hs.2;subst e2
   split at h
   ·rename_i ht
    cases h
    have e3:=Ty.aB ht;subst e3
    trivial
   grind
  grind
 |
  gq e bs t=>
  cases x<;>simp only[de.G] at h<;>try cases h
  split at h
  ·rename_i hs
   simp only[bj] at hs
   have e1:=bM hs.1;subst e1
   have e2:=bM hs.2;subst e2
   split at h
   ·rename_i ht
    cases h
    have e3:=Ty.aB ht;subst e3
    trivial
   grind
  grind
 |
  map k v=>
  cases x<;>simp only[de.G] at h<;>try cases h
  split at h
  ·rename_i hs
   split at h
   ·rename_i ht
    cases h
    have e1:=Ty.aB hs;subst e1
    have e3:=Ty.aB ht;subst e3
    trivial
   grind
  grind
 |uS=>cases x<;>simp only[de.G] at h<;>cases h;trivial
 |lp=>cases x<;>simp only[de.G] at h<;>cases h;trivial
 |
  tv t s=>
  cases x<;>simp only[de.G] at h<;>try cases h
  obtain⟨hs,h0⟩:=bK h
  have:=Ty.aB hs;subst this
  split at h0
  ·rename_i r hr
   cases h0
   obtain⟨h1,h2⟩:=Sh.yg y hr
   exact⟨by simp only[de.V];rw[h1],h2⟩
  grind
 |
  cI e0 bs t s=>
  cases x with
  |
   cI e' bs' u xs i v=>
   simp only[de.G] at h
   obtain⟨hs,h0⟩:=bK h
   clear h
   simp only[bj] at hs
   have e1:=bM hs.1;subst e1
   have e2:=bM hs.2;subst e2
   by_cases ht:Ty.same u t=true
   ·rw[dif_pos ht] at h0
    cases hr:s.G v d with
    |none=>grind
    |
     some r=>
     rw[hr] at h0
     cases h0
     have e3:=Ty.aB ht;subst e3
     obtain⟨g1,g2⟩:=Sh.yg y hr
     exact⟨by simp only[de.V];rw[g1];rfl,g2⟩
   grind
  |_=>trivial
 |
  cT e bs t e2=>
  cases x with
  |
   cT e' bs' u xs e2' f=>
   cases f with
   |some f=>trivial
   |
    none=>
    simp only[de.G] at h
    obtain⟨hs,h0⟩:=bK h
    clear h
    simp only[bj] at hs
    have e1:=bM hs.1.1;subst e1
    have e2:=bM hs.1.2;subst e2
    have e3:=bM hs.2;subst e3
    by_cases ht:Ty.same u t=true
    ·rw[dif_pos ht] at h0
     cases h0
     have e3:=Ty.aB ht;subst e3
     trivial
    grind
  |_=>trivial
 |
  pmap k t e2=>
  cases x with
  |
   pmap k' t' es e2' f=>
   cases f with
   |some f=>trivial
   |
    none=>
    simp only[de.G] at h
    obtain⟨hs,h0⟩:=bK h
    clear h
    have e3:=bM hs;subst e3
    by_cases ht:Ty.same k' k=true
    ·rw[dif_pos ht] at h0
     by_cases ht':Ty.same t' t=true
     ·rw[dif_pos ht'] at h0
      cases h0
      have e3:=Ty.aB ht;subst e3
      have e4:=Ty.aB ht';subst e4
      trivial
     grind
    grind
  |_=>trivial
 |
  kB k v=>
  cases x with
  |
   kB k' v' es c=>
   cases c with
   |some c=>trivial
   |
    none=>
    simp only[de.G] at h
    by_cases ht:Ty.same k' k=true
    ·rw[dif_pos ht] at h
     by_cases ht':Ty.same v' v=true
     ·rw[dif_pos ht'] at h
      cases h
      have e3:=Ty.aB ht;subst e3
      have e4:=Ty.aB ht';subst e4
      trivial
     grind
    grind
  |_=>trivial
 |
  iu k l=>
  cases x with
  |
   iu k' l'=>
   simp only[de.G] at h
   by_cases ht:Ty.same k' k=true
   ·rw[dif_pos ht] at h
    split at h
    ·rename_i hc
     cases h
     simp only[bj] at hc
     have e3:=Ty.aB ht;subst e3
     refine⟨?_,rfl⟩
     show aO.iu _ (XN l)=_
     rw[HU hc.1 hc.2]
     rfl
    grind
   grind
  |_=>trivial
def WW:List (Nat×Sh)→List Type→List Type
 |[],l=>l
 |(_,s)::m,l=>s.H (WW m l)
def tmV(y:YC):(m:List (Nat×Sh))→{l:List Type}→prod (WW m l)→List (Nat×AV)
 |[],_,_=>[]
 |(i,s)::m,_,d=>(i,s.V y d)::tmV y m (s.R d)
def XP:(m:List (Nat×Sh))→{l:List Type}→prod (WW m l)→prod l
 |[],_,d=>d
 |(_,s)::m,_,d=>XP m (s.R d)
def tmG:(m:List (Nat×Sh))→{l:List Type}→List AV→prod l→Option (prod (WW m l))
 |[],_,_,d=>some d
 |
  (i,s)::m,_,tm,d=>match tm[i]? with
  |
   some x=>match tmG m tm d with
   |some e=>s.G x e
   |none=>none
  |none=>none
theorem LO(y:YC):∀{m:List (Nat×Sh)}{l:List Type}{tm:List AV}{d:prod l}{e:prod (WW m l)},tmG m tm d=some e→(∀i x,(i,x)∈tmV y m e→tm[i]? =some x)∧XP m e=d
 |[],l,tm,d,e,h=>by cases h;exact⟨(fun i x hx=>by cases hx),rfl⟩
 |
  (i,s)::m,l,tm,d,e,h=>by
  simp only[tmG] at h
  split at h
  ·rename_i x hx
   split at h
   ·rename_i e' he
    obtain⟨h1,h2⟩:=LO y he
    obtain⟨g1,g2⟩:=Sh.yg y h
    refine⟨?_,by simp only[XP];grind⟩
    intro j z hz
    simp only[tmV,fg,iv] at hz
    grind
   grind
  grind
def iz:List (Nat×de)→List Type→List Type
 |[],l=>l
 |(_,s)::m,l=>s.H (iz m l)
def oU(y:YC):(m:List (Nat×de))→{l:List Type}→prod (iz m l)→List (Nat×aO)
 |[],_,_=>[]
 |(i,s)::m,_,d=>(i,s.V y d)::oU y m (s.R d)
def WZ:(m:List (Nat×de))→{l:List Type}→prod (iz m l)→prod l
 |[],_,d=>d
 |(_,s)::m,_,d=>WZ m (s.R d)
def XQ:(m:List (Nat×de))→{l:List Type}→List (Option aO)→prod l→Option (prod (iz m l))
 |[],_,_,d=>some d
 |
  (i,s)::m,_,hp,d=>match hp[i]? with
  |
   some (some x)=>match XQ m hp d with
   |some e=>s.G x e
   |none=>none
  |_=>none
theorem Fm(y:YC):∀{m:List (Nat×de)}{l:List Type}{hp:List (Option aO)}{d:prod l}{e:prod (iz m l)},XQ m hp d=some e→(∀i x,(i,x)∈oU y m e→hp[i]? =some (some x))∧WZ m e=d
 |[],l,hp,d,e,h=>by cases h;exact⟨(fun i x hx=>by cases hx),rfl⟩
 |
  (i,s)::m,l,hp,d,e,h=>by
  simp only[XQ] at h
  split at h
  ·rename_i x hx
   split at h
   ·rename_i e' he
    obtain⟨h1,h2⟩:=Fm y he
    obtain⟨g1,g2⟩:=de.yg y h
    refine⟨?_,by simp only[WZ];grind⟩
    intro j z hz
    simp only[oU,fg,iv] at hz
    grind
   grind
  grind
def tU:List Sh→List Type→List Type
 |[],l=>l
 |s::m,l=>s.H (tU m l)
def x8(y:YC):(m:List Sh)→{l:List Type}→prod (tU m l)→List AV
 |[],_,_=>[]
 |s::m,_,d=>s.V y d::x8 y m (s.R d)
def AN:(m:List Sh)→{l:List Type}→prod (tU m l)→prod l
 |[],_,d=>d
 |s::m,_,d=>AN m (s.R d)
def Um:(m:List Sh)→{l:List Type}→List AV→prod l→Option (prod (tU m l))
 |[],_,[],d=>some d
 |
  s::m,_,x::xs,d=>match Um m xs d with
  |some e=>s.G x e
  |none=>none
 |_,_,_,_=>none
theorem AO(y:YC):∀{m:List Sh}{l:List Type}{xs:List AV}{d:prod l}{e:prod (tU m l)},Um m xs d=some e→x8 y m e=xs∧AN m e=d
 |
  [],l,xs,d,e,h=>by
  cases xs with
  |nil=>cases h;trivial
  |cons _ _=>trivial
 |
  s::m,l,xs,d,e,h=>by
  cases xs with
  |nil=>simp[Um] at h
  |
   cons x xs=>
   simp only[Um] at h
   split at h
   ·rename_i e' he
    obtain⟨h1,h2⟩:=AO y he
    obtain⟨g1,g2⟩:=Sh.yg y h
    exact⟨by simp only[x8];rw[g1,g2,h1],by simp only[AN];rw[g2,h2]⟩
   ·cases h
structure SS where
 nt:Nat
 nh:Nat
 tm:List (Nat×Sh)
 hp:List (Nat×de)
 df:List Sh
def SS.H(S:SS):List Type:=WW S.tm (iz S.hp (tU S.df []))
@[reducible] def SS.T (S:SS):Type:=fU S.H
def dg:List (Nat×aO)→List (Nat×Option aO)
 |[]=>[]
 |(i,k)::l=>(i,some k)::dg l
theorem tV{i:Nat}{k:Option aO}:∀{l:List (Nat×aO)},(i,k)∈dg l→∃b,k=some b∧(i,b)∈l
 |[],h=>by cases h
 |
  (j,b)::l,h=>by
  simp only[dg,fg,iv] at h
  rcases h with⟨rfl,rfl⟩|h
  ·grind
  ·obtain⟨b',e,hm⟩:=tV h
   exact⟨b',e,dj _ hm⟩
def SS.mB(S:SS)(y:YC)(d:prod S.H):St:=
 ⟨nw (tmV y S.tm d) (List.replicate S.nt .bot),nw (dg (oU y S.hp (Ax.XP S.tm d))) (List.replicate S.nh none),x8 y S.df (WZ S.hp (Ax.XP S.tm d))⟩
def SS.st(S:SS)(y:YC)(t:S.T):St:=S.mB y (rT S.H t)
def SS.get(S:SS)(σ:St):Option S.T:=
 if Nat.beq σ.tm.length S.nt&&Nat.beq σ.hp.length S.nh then(match Um S.df (l:=[]) σ.df () with
  |
   some d1=>match XQ S.hp σ.hp d1 with
   |
    some d2=>match tmG S.tm σ.tm d2 with
    |some d3=>some (Tc S.H d3)
    |none=>none
   |none=>none
  |none=>none) else none
theorem pC:∀{l:List (Nat×α)}{m:List α},(nw l m).length=m.length
 |[],_=>rfl
 |(i,x)::l,m=>by rw[nw,pC,jj]
theorem lD{i:Nat}{x:α}:∀{l:List (Nat×α)}{m:List α},(nw l m)[i]? =some x→(i,x)∈l∨m[i]? =some x
 |[],_,h=>Or.inr h
 |
  (j,z)::l,m,h=>by
  rw[nw] at h
  rcases lD h with h|h
  ·exact Or.inl (dj _ h)
  ·rw[dv] at h
   split at h
   ·rename_i e
    split at h
    ·cases h;subst e;exact Or.inl (cm ..)
    ·cases h
   ·exact Or.inr h
variable{σ:St}
theorem Wk.sub{gl:Ctx}{σ':St}(hl:σ'.tm.length=σ.tm.length)(ht:∀(i:Nat)(x:AV),σ'.tm[i]? =some x→x= .bot∨σ.tm[i]? =some x)
 (hh:∀(b:Nat)(k:aO),σ'.hp[b]? =some (some k)→σ.hp[b]? =some (some k)) (hd:σ'.df=σ.df):Wk gl σ σ':=by
 intro E a w h
 refine⟨E,⟨by rw[hl];exact h.len,?_,h.hw.less hh,by rw[hd];exact h.df⟩,{Ext.refl (bx σ.hp E) E w with own:=?_ }⟩
 ·intro i x hx v hv
  rcases ht i x hx with e|e
  ·subst e;trivial
  ·exact h.tm i x e v hv
 ·rintro g ⟨b,k,hb,hg⟩
  exact Or.inl ⟨b,k,hh b k hb,hg⟩
theorem SS.gI{gl:Ctx}{S:SS}{y:YC}{t:S.T}(h:S.get σ=some t):Wk gl σ (S.st y t):=by
 unfold SS.get at h
 split at h
 ·rename_i hc
  simp only[bj] at hc
  have l1:=bM hc.1
  have l2:=bM hc.2
  split at h
  ·rename_i d1 h1
   split at h
   ·rename_i d2 h2
    split at h
    ·rename_i d3 h3
     cases h
     have e0:S.st y (Tc S.H d3)=S.mB y d3:=congrArg (S.mB y) (qN S.H d3)
     refine Eq.mpr (congrArg (Wk gl σ) e0) ?_
     obtain⟨a1,a2⟩:=AO y h1
     obtain⟨b1,b2⟩:=Fm y h2
     obtain⟨c1,c2⟩:=LO y h3
     refine Wk.sub ?_ ?_ ?_ ?_
     ·grind [SS.mB,pC]
     ·intro i x hx
      simp only[SS.mB] at hx
      rcases lD hx with hx|hx<;>grind
     ·intro b k hk
      simp only[SS.mB] at hk
      rcases lD hk with hk|hk
      ·grind [tV]
      grind
     grind [SS.mB]
    grind
   grind
  grind
 grind
inductive Nd where
 |frz (b:Nat) (t:Ty)
 |Fo (c b:Nat)
 |own (c:Nat) (p:Path)
 |pur
def AV.owned:AV→Option Nat
 | .own b| .ku b _ _| .mp b=>some b
 |
  .cons a b=>match a.owned with
  |some c=>some c
  |none=>b.owned
 |_=>none
def adn:Path→Path
 | .cD n::p=>.cD (n+1)::p
 |p=>p
def Fp:List Nd→List Nd
 |[]=>[]
 | .own c p::l=>.own c (adn p)::Fp l
 |n::l=>n::Fp l
def LR:List Nd→List Nd
 |[]=>[]
 | .own c p::l=>.own c (.cD 0::p)::LR l
 |n::l=>n::LR l
def mj:Sh→AV→List Nd
 |
  .val t,x=>match x.owned with
  |some b=>[.frz b t]
  |
   none=>match x with
   | .val _ _=>[]
   |_=>[.pur]
 | .cd t,.ptr b _=>[.frz b t]
 | .own c,.own b=>[.Fo c b]
 | .own c,.bn=>[.own c []]
 | .ptr c _,.ptr b _=>[.Fo c b]
 | .ku c,.ku b _ _=>[.Fo c b]
 | .mp c,.mp b=>[.Fo c b]
 | .cons a b,.cons x y=>LR (mj a x)++Fp (mj b y)
 | .func _ a b,.func _ x y=>mj a x++mj b y
 | .iface _ a,.iface _ x=>mj a x
 |_,_=>[]
def HX:de→aO→List Nd
 | .var _ s,.var _ x=>mj s x
 | .tv _ s,.tv _ _ x=>mj s x
 | .cI _ _ _ s,.cI _ _ _ _ _ x=>mj s x
 | .kB _ _,.kB _ _ _ (some _)=>[.pur]
 |_,_=>[]
def lkN{α:Type}:List (Nat×α)→Nat→Option α
 |[],_=>none
 |(i,x)::l,j=>if Nat.beq i j then some x else lkN l j
def HY:List Nd→List (Nat×Nat)
 |[]=>[]
 | .Fo c b::l=>(c,b)::HY l
 |_::l=>HY l
def XR:List Nd→Option (Nat×Ty)
 |[]=>none
 | .frz b t::_=>some (b,t)
 |_::l=>XR l
def Td:List (Nat×Sh)→List AV→List Nd
 |[],_=>[]
 |
  (i,s)::l,tm=>(match tm[i]? with
  |some x=>mj s x
  |none=>[])++Td l tm
def Te:List Sh→List AV→List Nd
 |s::l,x::xs=>mj s x++Te l xs
 |_,_=>[]
def HZ(hp:List (Nat×de))(σ:List (Option aO)):Nat→List (Nat×Nat)→List (Nat×Nat)→List Nd→List (Nat×Nat)×List Nd
 |0,_,done,nd=>(done,nd)
 |_+1,[],done,nd=>(done,nd)
 |
  n+1,(c,b)::todo,done,nd=>
  match lkN done c with
  |some _=>HZ hp σ n todo done nd
  |
   none=>
   match lkN hp c,σ[b]? with
   |some s,some (some k)=>HZ hp σ n (HY (HX s k)++todo) ((c,b)::done) (nd++HX s k)
   |_,_=>HZ hp σ n todo ((c,b)::done) nd
def pinned:List (Nat×de)→List (Option aO)→List (Nat×Nat)
 |[],_=>[]
 |
  (c,s)::l,σ=>if Nat.blt c 16 then(c,c)::pinned l σ else(match s with
  | .uS=>(c,c)::pinned l σ
  |_=>pinned l σ)
def H3(S:SS)(σ:St):List (Nat×Nat)×List Nd:=
 let n0:=Td S.tm σ.tm++Te S.df σ.df
 HZ S.hp σ.hp 200 (HY n0++pinned S.hp σ.hp) [] n0
def ado(hp:List (Option aO))(b:Nat)(t:Ty):Ty:=
 match hp[b]? with
 |some (some (.row _ bs u _))=>.slice bs u
 |
  _=>match t with
  | .slice bs u=>.slice bs u
  |_=>.slice 1 (.int .u8)
def H4(S:SS):Nat→St→Option St
 |0,_=>none
 |
  n+1,σ=>match XR (H3 S σ).2 with
  |none=>some σ
  |
   some (b,t)=>match freeze b (ado σ.hp b t) σ with
   |some σ'=>H4 S n σ'
   |none=>none
def Un:List AV→List Nat
 |[]=>[]
 |x::l=>x.ids++Un l
def Uq:List (Option aO)→Nat→List Nat
 |[],_=>[]
 |some k::l,i=>i::(k.ids++Uq l (i+1))
 |none::l,i=>Uq l (i+1)
def LS:List (Nat×Nat)→List (Nat×Nat)
 |[]=>[]
 |(c,b)::l=>if Nat.beq c b then LS l else(c,b)::LS l
def LU(used:List Nat):List (Nat×Nat)→List (Nat×Nat)→Option (Nat×Nat×List (Nat×Nat))
 |[],_=>none
 |(c,b)::l,acc=>if cq c used then LU used l ((c,b)::acc) else some (c,b,acc++l)
def XS(b x:Nat):List (Nat×Nat)→List (Nat×Nat)
 |[]=>[]
 |(c,d)::l=>(c,if Nat.beq d b then x else d)::XS b x l
def zf(top:Nat):Nat→List (Nat×Nat)→St→Option St
 |_,[],σ=>some σ
 |0,_,_=>none
 |
  n+1,(c,b)::mv,σ=>
  match LU (Un σ.tm++Un σ.df++Uq σ.hp 0) ((c,b)::mv) [] with
  |
   some (c',b',rest)=>match rename b' c' σ with
   |some σ'=>zf top n rest σ'
   |none=>none
  |
   none=>match rename b top σ with
   |some σ'=>zf top n (XS b top ((c,b)::mv)) σ'
   |none=>none
def LV(hp:List (Nat×de))(c:Nat)(f:TypeId→Nat→Ty→Gh)(σ:St):Option St:=
 match lkN hp c with
 |some (.row e bs t)=>(f e bs t).go σ
 |_=>none
def zg(hp:List (Nat×de))(f:Nat→Path→TypeId→Nat→Ty→Gh):List Nd→St→Option St
 |[],σ=>some σ
 |
  .own c p::l,σ=>match LV hp c (f c p) σ with
  |some σ'=>zg hp f l σ'
  |none=>none
 |_::l,σ=>zg hp f l σ
def AP(hp:List (Nat×de)):List (Nat×Sh)→St→Option St
 |[],σ=>some σ
 |
  (i,s)::l,σ=>match σ.tm[i]? with
  |
   some x=>match zg hp (fun c _ e bs t=>.yn i c e bs t) (mj s x) σ with
   |some σ'=>AP hp l σ'
   |none=>none
  |none=>none
def wO(hp:List (Nat×de)):List (Nat×de)→St→Option St
 |[],σ=>some σ
 |
  (i,s)::l,σ=>match σ.hp[i]? with
  |
   some (some k)=>match zg hp (fun c p e bs t=>.sP i p c e bs t) (HX s k) σ with
   |some σ'=>wO hp l σ'
   |none=>none
  |_=>wO hp l σ
def Fq:List Nd→Bool
 |[]=>false
 | .pur::_=>true
 |_::l=>Fq l
def sF:List (Nat×Sh)→St→Option St
 |[],σ=>some σ
 |
  (i,.val t)::l,σ=>match σ.tm[i]? with
  |
   some x=>if Fq (mj (.val t) x) then(match(Gh.MK i t).go σ with
   |some σ'=>sF l σ'
   |none=>none) else sF l σ
  |none=>none
 |_::l,σ=>sF l σ
def sG:List (Nat×de)→St→Option St
 |[],σ=>some σ
 |
  (i,s)::l,σ=>match σ.hp[i]? with
  |
   some (some k)=>if Fq (HX s k) then(match(Gh.F3 i).go σ with
   |some σ'=>sG l σ'
   |none=>none) else sG l σ
  |_=>sG l σ
def XT:List (Nat×Sh)→List Nat
 |[]=>[]
 |(i,_)::l=>i::XT l
def XU:List (Nat×Nat)→List Nat
 |[]=>[]
 |(_,b)::l=>b::XU l
def SS.uX(
 S:SS) (σ:St):Option S.T:=
 match H4 S 40 σ with
 |none=>none
 |
  some σ1=>
  let m:=(H3 S σ1).1
  match(Gh.D0 (XT S.tm) (XU m)).go σ1 with
  |none=>none
  |
   some σ2=>match zf (S.nh -1) 60 (LS m) σ2 with
   |none=>none
   |
    some σ3=>match AP S.hp S.tm σ3 with
    |none=>none
    |
     some σ4=>match wO S.hp S.hp σ4 with
     |none=>none
     |
      some σ5=>match sF S.tm σ5 with
      |none=>none
      |
       some σ6=>match sG S.hp σ6 with
       |none=>none
       |some σ7=>S.get σ7
section
variable{gl:Ctx}
theorem Dv{S:SS}:∀{n:Nat}{σ σ':St},H4 S n σ=some σ'→Wk gl σ σ'
 |0,_,_,h=>by cases h
 |
  n+1,σ,σ',h=>by
  simp only[H4] at h
  split at h
  ·cases h;exact Wk.refl gl σ
  ·split at h
   ·rename_i σ1 h1;exact(Wk.freeze h1).trans (Dv h)
   ·cases h
theorem wP{top:Nat}:∀{n:Nat}{mv:List (Nat×Nat)}{σ σ':St},zf top n mv σ=some σ'→Wk gl σ σ'
 |
  _,[],σ,σ',h=>by
  grind [zf,Wk.refl]
 |0,_::_,_,_,h=>by trivial
 |
  n+1,(c,b)::mv,σ,σ',h=>by
  simp only[zf] at h
  split at h
  ·split at h
   ·rename_i σ1 h1;exact(Wk.rename h1).trans (wP h)
   ·cases h
  ·split at h
   ·rename_i σ1 h1;exact(Wk.rename h1).trans (wP h)
   ·cases h
theorem kV{hp:List (Nat×de)}{f:Nat→Path→TypeId→Nat→Ty→Gh}:∀{l:List Nd}{σ σ':St},zg hp f l σ=some σ'→Wk gl σ σ'
 |[],σ,σ',h=>by cases h;exact Wk.refl gl σ
 |
  .own c p::l,σ,σ',h=>by
  simp only[zg] at h
  split at h
  ·rename_i σ1 h1
   unfold LV at h1
   split at h1
   ·exact(Gh.ok h1).trans (kV h)
   ·cases h1
  ·cases h
 | .frz _ _::l,σ,σ',h=>kV (l:=l) h
 | .Fo _ _::l,σ,σ',h=>kV (l:=l) h
 | .pur::l,σ,σ',h=>kV (l:=l) h
theorem zh{hp:List (Nat×de)}:∀{l:List (Nat×Sh)}{σ σ':St},AP hp l σ=some σ'→Wk gl σ σ'
 |[],σ,σ',h=>by cases h;exact Wk.refl gl σ
 |
  (i,s)::l,σ,σ',h=>by
  simp only[AP] at h
  split at h
  ·split at h
   ·rename_i σ1 h1;exact(kV h1).trans (zh h)
   ·cases h
  ·cases h
theorem sH{hp:List (Nat×de)}:∀{l:List (Nat×de)}{σ σ':St},wO hp l σ=some σ'→Wk gl σ σ'
 |[],σ,σ',h=>by cases h;exact Wk.refl gl σ
 |
  (i,s)::l,σ,σ',h=>by
  simp only[wO] at h
  split at h
  ·split at h
   ·rename_i σ1 h1;exact(kV h1).trans (sH h)
   ·cases h
  ·exact sH (l:=l) h
theorem nZ:∀{l:List (Nat×Sh)}{σ σ':St},sF l σ=some σ'→Wk gl σ σ'
 |[],σ,σ',h=>by cases h;exact Wk.refl gl σ
 |
  (i,s)::l,σ,σ',h=>by
  cases s with
  |
   val t=>
   simp only[sF] at h
   split at h
   ·split at h
    ·split at h
     ·rename_i σ1 h1;exact(Gh.ok h1).trans (nZ h)
     ·cases h
    ·exact nZ (l:=l) h
   ·cases h
  |_=>exact nZ (l:=l) h
theorem n9:∀{l:List (Nat×de)}{σ σ':St},sG l σ=some σ'→Wk gl σ σ'
 |[],σ,σ',h=>by cases h;exact Wk.refl gl σ
 |
  (i,s)::l,σ,σ',h=>by
  simp only[sG] at h
  split at h
  ·split at h
   ·split at h
    ·rename_i σ1 h1;exact(Gh.ok h1).trans (n9 h)
    ·cases h
   ·exact n9 (l:=l) h
  ·exact n9 (l:=l) h
theorem SS.iI{S:SS}{y:YC}{σ:St}{t:S.T}(h:S.uX σ=some t):Wk gl σ (S.st y t):=by
 unfold SS.uX at h
 split at h
 ·cases h
 rename_i σ1 h1
 simp only at h
 split at h
 ·cases h
 rename_i σ2 h2
 split at h
 ·cases h
 rename_i σ3 h3
 split at h
 ·cases h
 rename_i σ4 h4
 split at h
 ·cases h
 rename_i σ5 h5
 split at h
 ·cases h
 rename_i σ6 h6
 split at h
 ·cases h
 rename_i σ7 h7
 exact((((((Dv h1).trans (Gh.ok h2)).trans (wP h3)).trans (zh h4)).trans (sH h5)).trans (nZ h6)).trans ((n9 h7).trans (SS.gI h))
end
def Fs:aO:=.row 0 0 .unit []
variable{E:Env}{w:World}
theorem H5{b:Nat}(h:RB E w b Fs):False:=by
 have h:=h.2.2.2.1
 trivial
def wQ(f:aW)(z:Nat):aW:=⟨f.rt,f.rb,[],none,.bot,[(z,some Fs)]⟩
def H6(z:Nat):aW:=⟨[],[z],[],none,.bot,[]⟩
def jL(fs:List aW)(f:aW)(z:Nat)(gs:List aW):List aW:=fs++wQ f z::gs
def Ft(P:Program)(gl:Ctx)(ops:Array Oper)(z:Nat)(j:Nat)(g:aW)(σ:St):Prop:=px P gl ops j g σ∨(g=H6 z∧σ.hp[z]? =some (some Fs))
def oc:List Nat→List AV→List AV
 |[],tm=>tm
 |d::l,tm=>oc l (tm.set d .bot)
theorem tW:∀{l:List Nat}{tm:List AV},(oc l tm).length=tm.length
 |[],_=>rfl
 |d::l,tm=>by unfold oc;rw[tW];simp
theorem tX{i:Nat}{x:AV}:∀{l:List Nat}{tm:List AV},(oc l tm)[i]? =some x→x= .bot∨(i∉l∧tm[i]? =some x)
 |[],_,h=>Or.inr ⟨by simp,h⟩
 |
  d::l,tm,h=>by
  unfold oc at h
  rcases tX h with h|⟨hl,h⟩<;>grind
def wR(fs:List aW)(f:aW)(z:Nat)(gs:List aW)(σ:St):St:=
 ⟨oc (dstsOf (jL fs f z gs)) σ.tm,aS (aS σ.hp f.hw) (eI (ky (jL fs f z gs))),σ.df⟩
variable{OK:Nat→aW→St→Prop}
theorem bW.app:∀{fs gs:List aW}{i:Nat}{σ σ1 σ':St},bW OK i fs σ σ1→bW OK (i+fs.length) gs σ1 σ'→bW OK i (fs++gs) σ σ'
 |[],gs,i,σ,σ1,σ',h,k=>by grind [bW]
 |f::fs,gs,i,σ,σ1,σ',⟨h1,h2,h3⟩,k=>⟨h1,h2,bW.app h3 (by grind)⟩
theorem bW.hl:∀{fs:List aW}{i:Nat}{σ σ':St},bW OK i fs σ σ'→σ'.hp.length=σ.hp.length
 |[],_,_,_,h=>by simp only[bW] at h;grind
 |f::fs,_,σ,_,⟨_,_,h⟩=>by rw[bW.hl h,sC]
def Py(z:Nat)(gs:List aW):Bool:=gs.all fun g=> !cq z (wrote g.hw)
theorem bW.at{z:Nat}{k:Option aO}:∀{fs:List aW}{i:Nat}{σ σ':St},bW OK i fs σ σ'→Py z fs=true→σ.hp[z]? =some k→σ'.hp[z]? =some k
 |[],_,_,_,h,_,hz=>by grind [bW]
 |
  f::fs,_,σ,_,⟨_,_,h⟩,hn,hz=>by
  simp only[Py,List.all_cons,bj,gZ] at hn
  refine bW.at h (by simpa[Py] using hn.2) ?_
  rw[ig,eA (fun hm=>by rw[mY hm] at hn;cases hn.1)]
  exact hz
variable{P:Program}{Q:fQ→St→Prop}{id:Nat}
theorem wS{G:bN}(T:bA P G){gl:Ctx}{ops:Array Oper}{draw:Bool}{fs gs:List aW}{f:aW}{z:Nat}{σp σe:St}
 (hc:qB P gl ops 0 fs σ σp) (hp:DY P gl ops fs.length f σp) (hg2:bW (Ft P gl ops z) (fs.length+1) gs (σp.app (wQ f z)) σe) (hnz:Py z gs=true) (hz:z<σ.hp.length) (hn:fs.length+1+gs.length=ops.size) (fT:draw=true→(mf none ops (jL fs f z gs)&&iX σ (jL fs f z gs))=true)
 (hpl:f.v.plain=true) (hq:Q (.panic f.v) (wR fs f z gs σ)):cJ P gl (.region id ops draw) σ Q:=by
 intro E a w hg
 have hzp:(σp.app (wQ f z)).hp[z]? =some (some Fs):=by
  rw[ig]
  simp only[wQ,aS,dv,cj]
  rw[aA (by rw[bW.hl hc];exact hz)]
 have hze:=bW.at hg2 hnz hzp
 have hlen:(jL fs f z gs).length=ops.size:=by simp[jL];omega
 have rest:∀(V:St→Env→World→Prop)(Q:Exit→Act→World→Prop) j g σ1,Ft P gl ops z j g σ1→N1 P gl ops Q V j g σ1:=by
  intro V Q j g σ1 h
  rcases h with h|⟨rfl,h⟩
  ·exact h.q
  ·intro σ' ha _ E a w hg
   have:σ'.hp[z]? =some (some Fs):=by rw[ha.hp z (by simp[H6]),h]
   exact(H5 (hg.hw.cQ z _ this)).elim
 have total:∀Q':Exit→Act→World→Prop,(∀σ2 E2 w2 E' u w',xZ gl (dstsOf (jL fs f z gs)) (ky (jL fs f z gs)) σ E w σ2 E2 w2→∀a',bQ gl {σ2 with hp:=aS σ2.hp f.hw} E' a' w'→RV E' w' f.v u→Ext gl.md (bx σ2.hp E2) E2 w2 (bx (aS σ2.hp f.hw) E') E' w'→Q' (.panic [{v:=u,recovered:=false}]) a' w')→
  bW (N1 P gl ops Q' (xZ gl (dstsOf (jL fs f z gs)) (ky (jL fs f z gs)) σ E w)) 0 (jL fs f z gs) σ σe:=by
  intro Q' hQ'
  refine bW.app (hc.mono fun _ _ _=>px.q) ⟨?_,(fun d hd=>by cases hd),?_⟩
  ·rw[eN]
   intro σ2 ha _ E2 a2 w2 hg2 hv2 K _
   exact hp σ2 ha E2 a2 w2 hg2 K Q' (fun E' u w' q1 q2 q3=>hQ' σ2 E2 w2 E' u w' hv2 a2 q1 q2 q3)
  ·rw[eN]
   exact hg2.mono (rest _ _)
 have post:∀σ2 E2 w2 E' u w',xZ gl (dstsOf (jL fs f z gs)) (ky (jL fs f z gs)) σ E w σ2 E2 w2→∀a',bQ gl {σ2 with hp:=aS σ2.hp f.hw} E' a' w'→RV E' w' f.v u→Ext gl.md (bx σ2.hp E2) E2 w2 (bx (aS σ2.hp f.hw) E') E' w'→qY gl Q σ E w (.panic [{v:=u,recovered:=false}]) a' w':=by
  intro σ2 E2 w2 E' u w' hv a' q1 q2 q3
  have hwk2:bQ gl (wR fs f z gs σ) E' a' w'∧Ext gl.md (bx (aS σ2.hp f.hw) E') E' w' (bx (wR fs f z gs σ).hp E') E' w':=by
   refine⟨⟨?_,?_,q1.hw.less ?_,?_⟩,{Ext.refl (bx (aS σ2.hp f.hw) E') E' w' with own:=?_ }⟩
   ·simp only[wR,tW];rw[q1.len];exact hv.tl
   ·intro i x hx v hv'
    rcases tX hx with hx|⟨hi,hx⟩
    ·subst hx;trivial
    ·exact q1.tm i x (by show σ2.tm[i]? =some x;rw[hv.tm i hi];exact hx) v hv'
   ·intro b k hk
    obtain⟨hb,hk⟩:=dx hk
    show(aS σ2.hp f.hw)[b]? =_
    rw[iF hv.hl (hv.hp b hb)]
    exact hk
   ·show RD E' w' σ.df a'.defers
    rw[←hv.df];exact q1.df
   ·rintro g ⟨b,k,hk,hgb⟩
    obtain⟨hb,hk⟩:=dx hk
    refine Or.inl ⟨b,k,?_,hgb⟩
    rw[iF hv.hl (hv.hp b hb)]
    exact hk
  exact⟨.panic f.v,wR fs f z gs σ,E',⟨u,rfl,RV.jq hpl q2⟩,hq,hwk2.1,(hv.ext.trans q3).trans hwk2.2⟩
 have noend:∀E' a' w',bQ gl σe E' a' w'→False:=fun E' a' w' h=>H5 (h.hw.cQ z _ hze)
 cases draw with
 |false=>exact tL hlen (total _ post) hg (fun E' a' w' h _=>(noend E' a' w' h).elim)
 |
  true=>
  have fT:=fT rfl
  simp only[bj] at fT
  exact tO T fT.1 fT.2 (fun _ _ _ _ h=>by cases h) (total _ post) hg (fun E' a' w' h _=>(noend E' a' w' h).elim)
theorem LW{g:Nat}{a:Option Nat}{b:Nat}{c:Array Nat}{d:Nat}{o':Obj}(h:w.heap[g]? =some (.mapIter a b c d)):(setObj g o').run P w= .ok () (w.putObj g o'):=by simp[setObj,Sem.run,h,World.putObj]
theorem Dw(w:World)(ty:TypeId)(g bm since c0:Nat)(seen:Array Nat)(es:Array MapEntry)(clock:Nat)(hg:w.heap[g]? =some (.mapIter (some bm) since seen c0))(hb:w.heap[bm]? =some (.map es clock))(hold:∀x∈es.toList,x.born<since)(hsc:since≤c0):
 ((leftOf es seen).size=0∧(Instr.next (.pointer (some ⟨g,0,none⟩)) false ty).run P w= .ok (.tuple #[.bool false]) w)∨
 ∃e∈(leftOf es seen).toList,∃w1:World,(w1=w∨w1=w.drew)∧(Instr.next (.pointer (some ⟨g,0,none⟩)) false ty).run P w= .ok (.tuple #[.bool true,e.key,e.val]) (w1.putObj g (.mapIter (some bm) since (seen.push e.born) clock)):=by
 simp only[Instr.next,getObj,Sem.run_bind,Sem.run,hg,hb,Result.andThen,next_test_false seen es since c0 hold hsc,eM,dB]
 unfold leftOf
 have hmem:∀x∈(Array.filter (fun e=> !seen.contains e.born) es).toList,x.born<since:=fun x hx=>hold x (by grind)
 generalize Array.filter (fun e=> !seen.contains e.born) es=L at hmem ⊢
 have e1:L.filter (fun x=>decide (x.born<since))=L:=Array.filter_eq_self.2 (fun x hx=>by grind)
 have e2:L.filter (fun x=>decide (x.born≥since))= #[]:=by
  simp_all
 simp only[e1,e2,Array.append_empty]
 by_cases h0:L.size=0
 ·simp_all[Question.forced]
 ·right
  have hne:L.isEmpty=false:=by grind
  simp only[hne,eM,dB,Array.empty_append,Array.size_map]
  have hch:∃(j:Nat)(w1:World),j<L.size∧(w1=w∨w1=w.drew)∧(choose (Question.mapNext L.size)).run P w= .ok j w1:=by
   by_cases hf:L.size≤1
   ·exact⟨0,w,by omega,Or.inl rfl,by simp[choose,Sem.run,Question.forced,hf]⟩
   ·exact⟨_,w.drew,Nat.mod_lt _ (by omega),Or.inr rfl,by
     simp only[choose,Sem.run,Question.forced,j5,hf,dB,Question.cut]
     rfl⟩
  obtain⟨j,w1,hj,hal,amQ⟩:=hch
  refine⟨L[j],by simp,w1,hal,?_⟩
  have hg1:w1.heap[g]? =some (.mapIter (some bm) since seen c0):=by
   rcases hal with e|e
   ·grind
   ·rw[e];exact hg
  simp only[amQ,Array.getElem?_map,Array.getElem?_eq_getElem hj,Option.map_some,Sem.run_bind,LW hg1,Result.andThen]
  rfl
theorem Fu{en:Array MapEntry}{seen:Array Nat}(hn:(en.toList.map (·.born)).Nodup){i:Nat}{e:MapEntry}(he:(j8 en seen).toList[i]? =some e):(j8 en (seen.push e.born)).toList=(j8 en seen).toList.eraseIdx i:=by
 have key:∀(l:List MapEntry)(i:Nat)(e:MapEntry),(l.map (·.born)).Nodup→l[i]? =some e→l.filter (fun x=> !(x.born==e.born))=l.eraseIdx i:=by
  intro l
  induction l with
  |nil=>grind
  |
   cons x l ih=>
   intro i e hn h
   have hn':x.born∉l.map (·.born)∧(l.map (·.born)).Nodup:=List.nodup_cons.1 hn
   cases i with
   |
    zero=>
    simp_all
   |
    succ i=>
    grind
 have hl:(j8 en (seen.push e.born)).toList=(j8 en seen).toList.filter (fun x=> !(x.born==e.born)):=by
  simp only[j8,Array.toList_filter,List.filter_filter]
  grind
 grind [j8]
theorem RM.ats{k v:Ty}:∀{es:List MapEntry}{xs:List (k.den×v.den)},RM E w k v es xs→es.length=xs.length∧(∀(i:Nat)(e:MapEntry)(x:k.den×v.den),es[i]? =some e→xs[i]? =some x→bZ E w (.val k x.1) e.key∧bZ E w (.val v x.2) e.val)∧∀i,RM E w k v (es.eraseIdx i) (xs.eraseIdx i)
 |[],[],_=>⟨rfl,fun i e x h=>by simp at h,fun i=>by simp[RM]⟩
 |[],_::_,h=>h.elim
 |_::_,[],h=>h.elim
 |
  e::es,x::xs,⟨h1,h2,h3⟩=>by
  obtain⟨a,b,c⟩:=RM.ats h3
  refine⟨by simp[a],?_,?_⟩
  ·grind
  ·intro i
   cases i with
   |zero=>grind
   |succ i=>simpa using⟨h1,h2,c i⟩
noncomputable def ux{A R:Type}(xs:List A)(K:A→List A→Option R):Option R:=
 @dite _ (∃r,∀i(h:i<xs.length),K xs[i] (xs.eraseIdx i)=some r) (Classical.propDecidable _) (fun h=>some h.choose) (fun _=>none)
theorem Jz{A R:Type}{xs:List A}{K:A→List A→Option R}{r:R}(h:ux xs K=some r)(i:Nat)(hi:i<xs.length):K xs[i] (xs.eraseIdx i)=some r:=by
 unfold ux at h
 split at h<;>grind
variable{o1:Oper}
theorem cJ.next{gl:Ctx}{o0:Oper}{s d d1 b:Nat}{kt vt:Ty}{rest:List (kt.den×vt.den)}{cur:Option (kt.den×vt.den)}
 (h0:o0.op= .next (.tmp s) false) (hg0:o0.guard=none) (hd0:o0.dst=some d) (h1:o1.op= .extract (.tmp d) 0) (hg1:o1.guard=none) (hd1:o1.dst=some d1)
 (hs:σ.tm[s]? =some (.ptr b [])) (hb:σ.hp[b]? =some (some (.kB kt vt rest cur))) (hl:Nat.blt d σ.tm.length=true)
 (hq0:rest= []→Q .normal ((σ.put (some d) .bot).put (some d1) (.val .bool false)))
 (hq1:∀i(hi:i<rest.length),Q .normal ((({σ with hp:=σ.hp.set b (some (.kB kt vt (rest.eraseIdx i) (some rest[i])))}:St).put (some d) .bot).put (some d1) (.val .bool true))):
 cJ P gl (.region id #[o0,o1] false) σ Q:=by
 intro E a w hg
 obtain⟨g,om,since,seen,c0,q1,q2,q3⟩:=hg.hw.cQ b _ hb
 have hlt:d<a.tmps.size:=by rw[hg.len];simp_all
 have hx:a.eval (.tmp s)= .pointer (some ⟨g,0,none⟩):=by
  have hv:=gr hg (.tmp s)
  have:bC gl σ.tm (.tmp s)= .ptr b []:=by simp[bC,hs]
  rw[this] at hv
  obtain⟨g',hg',ev,_⟩:=RV.atom rfl hv
  grind [Ty.off]
 have w0:∀z,Region.wanted o0 z=true:=fun z=>by simp[Region.wanted,hg0]
 have w1:∀z,Region.wanted o1 z=true:=fun z=>by simp[Region.wanted,hg1]
 refine wpIn_region ?_
 have hr:List.range (#[o0,o1]:Array Oper).size= [0,1]:=rfl
 rw[hr]
 have fin:∀(vs:Array Value)(x:Bool)(w':World)(σ':St),(Instr.next (.pointer (some ⟨g,0,none⟩)) false o0.type).run P w= .ok (.tuple vs) w'→vs[0]? =some (.bool x)→bQ gl σ' E a w'→Ext gl.md (bx σ.hp E) E w (bx σ'.hp E) E w'→
  Q .normal ((σ'.put (some d) .bot).put (some d1) (.val .bool x))→wpOpsIn (Wd gl) 0 P #[o0,o1] (qY gl Q σ E w) [0,1] a w:=by
  intro vs x w' σ' amQ hv0 hg' hext hq
  simp only[wpOpsIn,List.getElem?_toArray,List.getElem?_cons_zero,we,w0,cj]
  refine⟨fun _ _=>trivial,?_⟩
  rw[Oper.semAt_eq _ _ _ (by grind)]
  have r1:(execOp a.eval o0).run P w= .ok (.value (.tuple vs)) w':=by simp[execOp,h0,hx,amQ]
  rw[r1,Oper.uponIn_value,hd0]
  simp only[w1,cj]
  refine⟨fun _ _=>trivial,?_⟩
  rw[Oper.semAt_eq _ _ _ (by grind)]
  have hev:(a.put (some d) (.tuple vs)).eval (.tmp d)= .tuple vs:=by simp[Act.eval,Act.put,hlt]
  have r2:(execOp (a.put (some d) (.tuple vs)).eval o1).run P w'= .ok (.value (.bool x)) w':=by
   simp_all[execOp,Instr.extract]
  rw[r2,Oper.uponIn_value,hd1]
  have ga:=hg'.put (some d) (x:=.bot) (v:=.tuple vs) trivial
  have gb:=ga.put (some d1) (x:=.val .bool x) (v:=.bool x) RV.bool
  exact⟨.normal,_,E,trivial,hq,gb,hext⟩
 have nextNil:om=none→rest= []→wpOpsIn (Wd gl) 0 P #[o0,o1] (qY gl Q σ E w) [0,1] a w:=by
  intro e1 e2
  subst e1
  refine fin #[.bool false] false w σ ?_ rfl hg (Ext.refl _ _ _) (hq0 e2)
  simp only[Instr.next,getObj,Sem.run_bind,Sem.run,q2,Result.andThen]
  rfl
 rcases q3 with⟨e1,e2,_⟩|⟨bm,en,e1,r2,r3,e4,r5,r6,r7,r8⟩
 ·grind
 ·subst e1;subst e4
  obtain⟨m1,m2,m3⟩:=RM.ats r7
  rcases Dw (P:=P) w o0.type g bm since since seen en since q2 r3 r5 (dP _) with⟨z,amQ⟩|⟨e,he,w1',hw1,amQ⟩
  ·have hr0:rest= []:=by
    grind [leftOf,j8]
   exact fin #[.bool false] false w σ amQ rfl hg (Ext.refl _ _ _) (hq0 hr0)
  ·have he:e∈(j8 en seen).toList:=he
   obtain⟨i,hi,hie⟩:=List.mem_iff_getElem.1 he
   have hie':(j8 en seen).toList[i]? =some e:=by grind
   have hir:i<rest.length:=by grind
   have hrm:=Fu r6 hie'
   have hen:e∈en.toList:=by
    grind [j8]
   obtain⟨k1,k2⟩:=m2 i e rest[i] hie' (yP hir)
   have hh:w1'.heap=w.heap:=by rcases hw1 with e|e<;>rw[e]<;>rfl
   have hlg:g<w1'.heap.size:=by grind
   have hne:bm≠g:=fun e=>by grind
   have hoth:∀j,j≠g→(w1'.putObj g (.mapIter (some bm) since (seen.push e.born) since)).heap[j]? =w.heap[j]? :=fun j hj=>by
    grind [World.putObj_heap_other]
   have kp:bE E w E (w1'.putObj g (.mapIter (some bm) since (seen.push e.born) since)):=⟨fun j hj=>hoth j (fun e=>hg.hw.jI b _ g hb q1 (e▸hj)),fun _ h=>h⟩
   have hrb:RB E (w1'.putObj g (.mapIter (some bm) since (seen.push e.born) since)) b (.kB kt vt (rest.eraseIdx i) (some rest[i])):=by
    refine⟨g,some bm,since,seen.push e.born,since,q1,World.putObj_heap_same hlg,Or.inr ⟨bm,en,rfl,r2,by grind,rfl,r5,r6,?_,?_⟩⟩
    ·rw[hrm];exact RM.mono kp (m3 i)
    ·intro x hx
     cases hx
     exact⟨e,seen,rfl,hen,bZ.mono kp (fun _ hb=>by cases hb) k1,bZ.mono kp (fun _ hb=>by cases hb) k2⟩
   have hw2:=hg.hw.write (w':=w1'.putObj g (.mapIter (some bm) since (seen.push e.born) since)) hb (by simp_all) (fun j hj=>hoth j (fun e=>hj (by grind))) hrb
   refine fin #[.bool true,e.key,e.val] true _ {σ with hp:=σ.hp.set b (some (.kB kt vt (rest.eraseIdx i) (some rest[i])))} amQ rfl (hg.carry kp (fun _ _=>⟨rfl,rfl,rfl⟩) hw2) ⟨?_,?_,?_,?_,?_,fun _ h=>h,fun _ h=>Or.inl h,fun i hi=>Or.inl (bx.set hb hi),fun _ _=>⟨rfl,rfl,rfl⟩⟩ (hq1 i hir)
   ·rcases hw1 with e|e<;>rw[e]<;>rfl
   ·rcases hw1 with e|e
    ·rw[e];exact Tp.r rfl rfl
    ·rw[e];exact Tp.s rfl rfl
   ·rcases hw1 with e|e<;>rw[e]<;>rfl
   ·simp_all
   ·intro j hj ho
    exact hoth j (fun e=>ho ⟨b,_,hb,by rw[e];exact Or.inl q1⟩)
theorem cJ.Pz{gl:Ctx}{o2:Oper}{y:Code}(x:Operand)(d1 d2:Nat)(t t2 e:TypeId)(bs:Nat)(u:Ty)(xs:List u.den)
 (h1:o1.op= .move x) (hd1:o1.dst=some d1) (hg1:o1.guard=none) (h2:o2.op= .binOp .eql t (.tmp d1) (.const (.slice none 0 0)) t2) (hd2:o2.dst=some d2) (hg2:o2.guard=none)
 (hx:bC gl σ.tm x= .val (.slice bs u) xs) (ht:P.underlying t=some (.slice e)) (hl:Nat.blt d1 σ.tm.length=true)
 (h:∀b:Bool,(b=true→xs= [])→cJ P gl y ((σ.put (some d1) (.val (.slice bs u) xs)).put (some d2) (.val .bool b)) Q):cJ P gl (.seq (.region id #[o1,o2] false) y) σ Q:=by
 intro E a w hg
 have hv:=gr hg x
 rw[hx] at hv
 obtain⟨ad,cap,hve,_,_,_,hor⟩:=RV.atom rfl hv
 simp at hve
 have hlt:d1<a.tmps.size:=by rw[hg.len];simp[Nat.blt] at hl;omega
 refine wpIn_seq (wpIn_region ?_)
 have hr:List.range (#[o1,o2]:Array Oper).size= [0,1]:=rfl
 rw[hr]
 have w1:∀z,Region.wanted o1 z=true:=fun z=>by simp[Region.wanted,hg1]
 have w2:∀z,Region.wanted o2 z=true:=fun z=>by simp[Region.wanted,hg2]
 have ga:=hg.put (some d1) hv
 have hb:ad.isNone=true→xs= []:=by
  intro hn
  rcases hor with h0|⟨b,o,cs,e1,_⟩
  ·exact h0
  ·subst e1;cases hn
 have gb:=ga.put (some d2) (x:=.val .bool ad.isNone) (v:=.bool ad.isNone) (RV.eS (Or.inr ⟨rfl,rfl⟩))
 have hfin:=h ad.isNone hb E _ w gb
 simp only[wpOpsIn,List.getElem?_toArray,List.getElem?_cons_zero,we,w1,cj]
 refine⟨fun _ _=>trivial,?_⟩
 rw[Oper.semAt_eq _ _ _ (by rw[h1];intro c hc;cases hc)]
 have r1:(execOp a.eval o1).run P w= .ok (.value (a.eval x)) w:=by simp[execOp,h1]
 rw[r1,Oper.uponIn_value,hd1]
 simp only[w2,cj]
 refine⟨fun _ _=>trivial,?_⟩
 rw[Oper.semAt_eq _ _ _ (by rw[h2];intro c hc;cases hc)]
 have hev:(a.put (some d1) (a.eval x)).eval (.tmp d1)= .slice ad xs.length cap:=by
  have:(a.put (some d1) (a.eval x)).eval (.tmp d1)=a.eval x:=by
   generalize a.eval x=v
   simp[Act.eval,Act.put,hlt]
  rw[this,hve]
 have r2:(execOp (a.put (some d1) (a.eval x)).eval o2).run P w= .ok (.value (.bool ad.isNone)) w:=by
  have hq:=run_equal_slice_nil (P:=P) w t e ad xs.length cap ht
  have hc:(a.put (some d1) (a.eval x)).eval (.const (.slice none 0 0))= .slice none 0 0:=rfl
  simp[execOp,h2,hev,hc,eqGuard,binOp,hq]
 rw[r2,Oper.uponIn_value,hd2]
 simp only[Exit.then]
 refine wpIn_mono hfin ?_
 rintro ex a' w' ⟨x',σ',E',k1,k2,k3,k4⟩
 exact⟨x',σ',E',k1,k2,k3,k4⟩
variable{hp:List (Option aO)}
theorem HW.frame{gl:Ctx}(h:HW gl E w hp){g:Nat}{o:Obj}(hS:¬E.S g)(hO:¬bx hp E g):bE E w E (w.putObj g o)∧HW gl E (w.putObj g o) hp:=by
 have kp:bE E w E (w.putObj g o):=⟨fun b hb=>World.putObj_heap_other (fun e=>hS (e▸hb)),fun _ h=>h⟩
 exact⟨kp,fun b k hb=>RB.mono kp (fun _ _=>⟨rfl,rfl,rfl⟩) (fun i hi=>World.putObj_heap_other (fun e=>hO ⟨b,k,hb,by grind⟩)) (fun _ _ h=>h) (h.cQ b k hb),h.ew,h.dC,fun i hi=>by simpa using h.slt i hi,h.gJ kp,fun b k g hb hg=>by simpa using h.uu b k g hb hg⟩
theorem bQ.frame{gl:Ctx}{a:Act}(h:bQ gl σ E a w){g:Nat}{o:Obj}(hS:¬E.S g)(hO:¬bx σ.hp E g):bQ gl σ E a (w.putObj g o):=by
 obtain⟨kp,hw⟩:=h.hw.frame (o:=o) hS hO
 exact h.carry kp (fun _ _=>⟨rfl,rfl,rfl⟩) hw
variable{O:Nat→Prop}
theorem Ext.put{gl:Ctx}{g:Nat}{o:Obj}(h:O g):Ext gl.md O E w O E (w.putObj g o):=
 ⟨rfl,Tp.r rfl rfl,rfl,by simp,fun i _ hi=>World.putObj_heap_other (fun e=>hi (e▸h)),fun _ h=>h,fun _ h=>Or.inl h,fun _ h=>Or.inl h,fun _ _=>⟨rfl,rfl,rfl⟩⟩
theorem lE{b c:Nat}{k:aO}(h:(hp.set b none)[c]? =some (some k)):c≠b∧hp[c]? =some (some k):=by
 grind
theorem HW.drop{gl:Ctx}(h:HW gl E w hp)(b:Nat):HW gl E w (hp.set b none):=h.less (fun _ _ hc=>(lE hc).2)
theorem bx.drop{b g:Nat}(h:bx (hp.set b none) E g):bx hp E g:=by
 obtain⟨c,k,h1,h2⟩:=h
 exact⟨c,k,(lE h1).2,h2⟩
theorem bQ.shut{gl:Ctx}{a:Act}(h:bQ gl σ E a w){b g:Nat}{k:aO}(hb:σ.hp[b]? =some (some k))(hg:E.g b=some g)(o:Obj):
 bQ gl {σ with hp:=σ.hp.set b none} E a (w.putObj g o)∧Ext gl.md (bx σ.hp E) E w (bx (σ.hp.set b none) E) E (w.putObj g o):=by
 have hS:¬E.S g:=h.hw.jI b k g hb hg
 have hO:¬bx (σ.hp.set b none) E g:=by
  rintro⟨c,k',hc,hgc⟩
  obtain⟨h1,h2⟩:=lE hc
  exact h1 (h.hw.ew c b k' k g h2 hb hgc (Or.inl hg))
 have h1:bQ gl {σ with hp:=σ.hp.set b none} E a w:=⟨h.len,h.tm,h.hw.drop b,h.df⟩
 refine⟨h1.frame hS hO,?_⟩
 have:=Ext.put (gl:=gl) (O:=bx σ.hp E) (E:=E) (w:=w) (o:=o) ⟨b,k,hb,Or.inl hg⟩
 exact{this with own:=fun i hi=>Or.inl (bx.drop hi)}
def marks:List AV→List (Option aO)→Option (List (Option aO))
 |[],hp=>some hp
 |
  .mp b::l,hp=>match eD hp b with
  |some .uS=>marks l (hp.set b none)
  |_=>none
 |_,_=>none
theorem H7{gl:Ctx}{fn:Func}{R:Ending→World→Prop}{tmps:Array Value}:∀(df:List AV){tm:List AV}{hp hp':List (Option aO)}{E:Env}{ds:List Deferred}{w:World},
 bQ gl ⟨tm,hp,df⟩ E ⟨tmps,ds⟩ w→marks df hp=some hp'→(∀w',bQ gl ⟨tm,hp',[]⟩ E ⟨tmps,[]⟩ w'→Ext gl.md (bx hp E) E w (bx hp' E) E w'→LeavesIn (Wd gl) 0 P fn tmps R [] .returning w')→LeavesInM (Wd gl) 0 P fn tmps R ds .returning w
 |
  [],tm,hp,hp',E,ds,w,h,hm,hk=>by
  cases hm
  have:ds= []:=by
   have:=h.df
   cases ds with
   |nil=>rfl
   |cons _ _=>trivial
  subst this
  exact hk w h (Ext.refl _ _ _)
 |
  x::l,tm,hp,hp',E,ds,w,h,hm,hk=>by
  cases x with
  |
   mp b=>
   simp only[marks] at hm
   split at hm
   ·rename_i hb
    have hbk:=bR hp b _ hb
    cases ds with
    |nil=>exact h.df.elim
    |
     cons d ds=>
     obtain⟨⟨g,hg,hd⟩,hrest⟩:=h.df
     obtain⟨g',hg',hh⟩:=h.hw.cQ b _ hbk
     rw[hg] at hg';cases hg'
     have h0:bQ gl ⟨tm,hp,l⟩ E ⟨tmps,ds⟩ w:=⟨h.len,h.tm,h.hw,hrest⟩
     obtain⟨g1,x1⟩:=h0.shut hbk hg (.deferred none)
     refine⟨by simp,Or.inl ⟨g,_,by rw[hd],run_takeDeferred hh,?_⟩⟩
     exact H7 l g1 hm (fun w' k1 k2=>hk w' k1 (x1.trans k2))
   ·cases hm
  |_=>simp[marks] at hm
def Ctx.wB(gl:Ctx)(B:(Nat→Prop)→World→Prop)(hB:∀{S S':Nat→Prop}{w w':World},(∀b,S b→w'.heap[b]? =w.heap[b]?)→(∀b,S b→S' b)→B S w→B S' w'):Ctx:=⟨gl.gl,B,hB,none,gl.md⟩
def Ctx.uy(gl:Ctx)(l:Nat):Ctx:=⟨gl.gl,fun _ _=>True,fun _ _ _=>trivial,some l,gl.md⟩
def jmp(jl:List Code):Nat→Option Code
 |0=>none
 |j+1=>jl[j]?
def fE(fn:FuncId)(tmps:Array Value)(ps:Array Tmp)(assign body:Code)(D:Nat)(jl:List Code)(j:Nat):Loop:=
 {state:=if Nat.beq j 0 then .ready else .done,pending:=jmp jl j,fn,tmps,params:=ps,assign,body,defers:=D}
def AV.oV(m:List (Nat×Nat)):AV→Option AV
 | .ptr b p=>(oA m b).map fun c=>.ptr c p
 |
  .func fn fs cs=>match fs.oV m,cs.oV m with
  |some f,some c=>if f.atoms&&c.atoms then some (.func fn f c) else none
  |_,_=>none
 |
  .cons a b=>match a.oV m,b.oV m with
  |some x,some y=>some (.cons x y)
  |_,_=>none
 | .val t x=>some (.val t x)
 | .cd t x=>some (.cd t x)
 | .iy v=>some (.iy v)
 | .bn=>some .bn
 | .eP=>some .eP
 | .dX=>some .dX
 | .fv=>some .fv
 | .fy f t x=>some (.fy f t x)
 | .hJ=>some .hJ
 | .nil=>some .nil
 |_=>none
structure RnP(m:List (Nat×Nat))(E:Env)(w:World)(E':Env)(w':World):Prop where
 at':∀b c,oA m b=some c→E'.g c=E.g b∧E'.bt c=E.bt b
 k:bE E w E' w'
theorem AV.H8{m:List (Nat×Nat)}{x y:AV}(h:x.oV m=some y):y.isAgg=x.isAgg:=by
 cases x with
 |ptr b p=>simp only[AV.oV,gW] at h;obtain⟨c,_,rfl⟩:=h;rfl
 |
  func fn fs cs=>
  simp only[AV.oV] at h
  split at h
  ·split at h
   ·cases h;rfl
   grind
  grind
 |
  cons a b=>
  simp only[AV.oV] at h
  split at h
  ·cases h;rfl
  grind
 |_=>simp[AV.oV] at h<;>subst h<;>rfl
variable{E':Env}{w':World}
theorem RC.oV{m:List (Nat×Nat)}(r:RnP m E w E' w'):∀{x y:AV}{vs:List Value},x.oV m=some y→RC E w x vs→RC E' w' y vs:=by
 intro x
 induction x with
 |
  ptr b p=>
  intro y vs h hr
  simp only[AV.oV,gW] at h
  obtain⟨c,hc,rfl⟩:=h
  obtain⟨e1,e2⟩:=r.at' b c hc
  obtain⟨g,h1,h2,h3⟩:=hr
  exact⟨g,by grind,by grind,by grind⟩
 |
  func fn fs cs ih1 ih2=>
  intro y vs h hr
  simp only[AV.oV] at h
  split at h
  ·rename_i f c h1 h2
   split at h
   ·rename_i ha
    cases h
    simp only[bj] at ha
    obtain⟨f',c',e,r1,r2,_,_⟩:=hr
    exact⟨f',c',e,ih1 h1 r1,ih2 h2 r2,ha.1,ha.2⟩
   grind
  grind
 |
  cons a b ih1 ih2=>
  intro y vs h hr
  simp only[AV.oV] at h
  split at h
  ·rename_i x y h1 h2
   cases h
   obtain⟨v1,v2,e,r1,r2⟩:=hr
   exact⟨v1,v2,e,ih1 h1 r1,ih2 h2 r2⟩
  grind
 |val t x=>intro y vs h hr;simp only[AV.oV,cX] at h;subst h;exact RC.mono (a:=.val t x) r.k (fun _ hb=>by cases hb) hr
 |cd t x=>intro y vs h hr;simp only[AV.oV,cX] at h;subst h;exact RC.mono (a:=.cd t x) r.k (fun _ hb=>by cases hb) hr
 |iy v=>intro y vs h hr;simp only[AV.oV,cX] at h;subst h;exact RC.mono (a:=.iy v) r.k (fun _ hb=>by cases hb) hr
 |bn=>intro y vs h hr;simp only[AV.oV,cX] at h;subst h;exact hr
 |eP=>intro y vs h hr;simp only[AV.oV,cX] at h;subst h;exact hr
 |dX=>intro y vs h hr;simp only[AV.oV,cX] at h;subst h;exact hr
 |fv=>intro y vs h hr;simp only[AV.oV,cX] at h;subst h;exact hr
 |fy f t x=>intro y vs h hr;simp only[AV.oV,cX] at h;subst h;obtain⟨ha,cs,h1,h2⟩:=hr;exact⟨ha,cs,h1,Rel.mono r.k.w r.k.S h2⟩
 |hJ=>intro y vs h hr;simp only[AV.oV,cX] at h;subst h;exact hr
 |nil=>intro y vs h hr;simp only[AV.oV,cX] at h;subst h;exact hr
 |_=>intro y vs h hr;trivial
theorem RV.oV{m:List (Nat×Nat)}(r:RnP m E w E' w'){x y:AV}{v:Value}(h:x.oV m=some y)(hr:RV E w x v):RV E' w' y v:=by
 have hp:x.plain=true:=by cases x<;>simp[AV.oV] at h<;>rfl
 have h0:=RV.jq hp hr
 refine RV.eS ?_
 rcases h0 with⟨h1,cs,e,h2⟩|⟨h1,h2⟩
 ·exact Or.inl ⟨by rw[AV.H8 h];exact h1,cs,e,RC.oV r h h2⟩
 ·exact Or.inr ⟨by rw[AV.H8 h];exact h1,RC.oV r h h2⟩
def LX(m:List (Nat×Nat)):List AV→List AV
 |[]=>[]
 |x::l=>(match x.oV m with|some y=>y|none=>.bot)::LX m l
theorem H9{m:List (Nat×Nat)}:∀{l:List AV},(LX m l).length=l.length
 |[]=>rfl
 |_::l=>by simp[LX,H9 (l:=l)]
theorem Ia{m:List (Nat×Nat)}:∀{l:List AV}{i:Nat}{y:AV},(LX m l)[i]? =some y→y= .bot∨∃x,l[i]? =some x∧x.oV m=some y
 |[],i,y,h=>by trivial
 |
  x::l,0,y,h=>by
  simp only[LX,List.getElem?_cons_zero,cX] at h
  grind
 |
  x::l,i+1,y,h=>by
  simp only[LX,we] at h
  simpa using Ia h
def tY:List (Nat×AV)→List AV→List AV
 |[],l=>l
 |(t,x)::r,l=>tY r (l.set t x)
theorem Dx:∀{ps:List Nat}{args:List AV}{vs:List Value}{tm:List AV}{tmps:Array Value},lz E w args vs→tmps.size=tm.length→(∀(i:Nat)(x:AV),tm[i]? =some x→∀v,tmps[i]? =some v→RV E w x v)→
 ((ps.zip vs).foldl (fun t(p:Nat×Value)=>t.setIfInBounds p.1 p.2) tmps).size=(tY (ps.zip args) tm).length∧
 (∀(i:Nat)(x:AV),(tY (ps.zip args) tm)[i]? =some x→∀v,((ps.zip vs).foldl (fun t(p:Nat×Value)=>t.setIfInBounds p.1 p.2) tmps)[i]? =some v→RV E w x v)
 |[],args,vs,tm,tmps,_,hs,ht=>by trivial
 |p::ps,[],[],tm,tmps,_,hs,ht=>by trivial
 |p::ps,[],_::_,tm,tmps,h,hs,ht=>h.elim
 |p::ps,_::_,[],tm,tmps,h,hs,ht=>h.elim
 |
  p::ps,a::args,v::vs,tm,tmps,⟨h1,h2⟩,hs,ht=>by
  simp only[List.zip_cons_cons,List.foldl_cons,tY]
  refine Dx h2 (by simp[hs]) ?_<;>grind
def mu(i:Nat):List (Nat×Ty)→Bool
 |[]=>false
 |(j,_)::l=>Nat.beq i j||mu i l
def nc(gs:Nat→Nat)(ti:List (Nat×Ty))(i:Nat):aO→aO
 | .var t v=>if mu i ti then .tv (gs i) t v else .var t v
 |k=>k
def tie(gs:Nat→Nat)(ti:List (Nat×Ty)):Nat→List (Option aO)→List (Option aO)
 |_,[]=>[]
 |s,none::l=>none::tie gs ti (s+1) l
 |s,some k::l=>some (nc gs ti s k)::tie gs ti (s+1) l
theorem oe{gs:Nat→Nat}{ti:List (Nat×Ty)}:∀{l:List (Option aO)}{s:Nat},(tie gs ti s l).length=l.length
 |[],_=>rfl
 |none::l,s=>by simp[tie,oe (l:=l)]
 |some _::l,s=>by simp[tie,oe (l:=l)]
theorem iR{gs:Nat→Nat}{ti:List (Nat×Ty)}:∀{l:List (Option aO)}{s i:Nat}{k:aO},(tie gs ti s l)[i]? =some (some k)→∃k0,l[i]? =some (some k0)∧k=nc gs ti (s+i) k0
 |[],s,i,k,h=>by trivial
 |none::l,s,0,k,h=>by simp[tie] at h
 |some x::l,s,0,k,h=>by simp_all[tie]
 |
  none::l,s,i+1,k,h=>by
  obtain⟨k0,h1,h2⟩:=iR (l:=l) (by simpa[tie] using h)
  exact⟨k0,by simpa using h1,by rw[h2];congr 1;omega⟩
 |
  some x::l,s,i+1,k,h=>by
  obtain⟨k0,h1,h2⟩:=iR (l:=l) (by simpa[tie] using h)
  exact⟨k0,by simpa using h1,by rw[h2];congr 1;omega⟩
theorem AR{gs:Nat→Nat}{ti:List (Nat×Ty)}:∀{l:List (Option aO)}{s i:Nat}{k:aO},l[i]? =some (some k)→(tie gs ti s l)[i]? =some (some (nc gs ti (s+i) k))
 |[],s,i,k,h=>by simp at h
 |none::l,s,0,k,h=>by simp at h
 |some x::l,s,0,k,h=>by simp at h;subst h;rfl
 |
  none::l,s,i+1,k,h=>by
  have:=AR (gs:=gs) (ti:=ti) (s:=s+1) (l:=l) (i:=i) (k:=k) (by grind)
  grind [tie]
 |
  some x::l,s,i+1,k,h=>by
  have:=AR (gs:=gs) (ti:=ti) (s:=s+1) (l:=l) (i:=i) (k:=k) (by grind)
  grind [tie]
variable{ti:List (Nat×Ty)}{gs:Nat→Nat}
theorem RB.XW{i:Nat}{k:aO}(h:RB E w i (nc gs ti i k)):RB E w i k:=by
 cases k with
 |
  var t v=>
  simp only[nc] at h
  split at h
  ·obtain⟨h0,h1,h2,c,e,h4,h5⟩:=h;exact⟨h1,h2,_,c,e,h0,h4,h5⟩
  grind
 |_=>exact h
theorem RB.tie{i:Nat}{k:aO}(h:RB E w i k)(hg:mu i ti=true→E.g i=some (gs i)):RB E w i (nc gs ti i k):=by
 cases k with
 |
  var t v=>
  simp only[nc]
  split
  ·rename_i hh
   obtain⟨h1,h2,g,c,e,h3,h4,h5⟩:=h
   have:=hg hh
   rw[this] at h3;cases h3
   exact⟨this,h1,h2,c,e,h4,h5⟩
  grind
 |_=>exact h
def qO(hp:List (Option aO)):List (Nat×Ty)→Bool
 |[]=>true
 |(i,t)::l=>(match hp[i]? with|some (some (.var t' _))=>Ty.same t' t|_=>false)&&Nat.blt i 16&&qO hp l
theorem wT{i:Nat}:∀{ti:List (Nat×Ty)},qO hp ti=true→mu i ti=true→i<16∧∃t v,hp[i]? =some (some (.var t v))∧(i,t)∈ti
 |[],_,h=>by cases h
 |
  (j,t)::l,h,hi=>by
  simp only[qO,bj] at h
  simp only[mu,fK] at hi
  rcases hi with hi|hi
  ·have e:=bM hi;subst e
   refine⟨by simp_all,?_⟩
   grind [Ty.aB]
  ·obtain⟨h1,t',v,h2,h3⟩:=wT h.2 hi
   grind
def XX(P:Program)(gl:Ctx)(y:Code)(Q:fQ→St→Prop):fQ→St→Prop
 | .normal,σ=>cJ P gl y σ Q
 |_,_=>False
def XY(gl:Ctx)(jl:List Code)(j:Nat)(H:List (Option aO)):fQ→St→Prop
 | .normal,σ=>j=0∧∃σ' m,Wk gl σ σ'∧prune σ'.hp m=H
 | .ret,σ=>(j≠0∧jmp jl j=some .ret)∧∃σ' m,Wk gl σ σ'∧prune σ'.hp m=H
 | .exit i,σ=>(j≠0∧jmp jl j=some (.exit i))∧∃σ' m,Wk gl σ σ'∧prune σ'.hp m=H
 |_,_=>False
variable{C':Ctx}
theorem HW.ctx{C:Ctx}(h:HW C E w hp)(hg:C'.gl=C.gl)(hb:C'.B E.S w):HW C' E w hp:=
 ⟨h.cQ,h.ew,h.dC,h.slt,⟨by rw[hg];exact h.gl.1,hb⟩,h.uu⟩
theorem Ext.add{gl:Ctx}{O':Nat→Prop}(h:Ext gl.md O E w O' E' w')(l:Nat):Ext gl.md (fun g=>O g∨g=l) E w (fun g=>O' g∨g=l) E' w' where
 os:=h.os
 tape:=h.tape
 output:=h.output
 size:=h.size
 kept:=fun g hg ho=>h.kept g hg (fun x=>ho (Or.inl x))
 sle:=h.sle
 mQ:=fun g hg=>(h.mQ g hg).imp id (fun x=>x.imp Or.inl id)
 own:=fun g hg=>by
  rcases hg with hg|hg
  ·exact(h.own g hg).imp Or.inl id
  grind
 Jt:=h.Jt
variable{ps:Array Tmp}{assign:Code}{body:Code}{H':List (Option aO)}
theorem Fy.PA{gl:Ctx}{a:Act}(hg:bQ gl σ E a w){B:(Nat→Prop)→World→Prop}{hB:∀{S S':Nat→Prop}{w w':World},(∀b,S b→w'.heap[b]? =w.heap[b]?)→(∀b,S b→S' b)→B S w→B S' w'}
 (hBu:∀S' w',B S' w'→(∀b,E.S b→S' b)∧(∀b,E.S b→w'.heap[b]? =w.heap[b]?)) {l D k0:Nat} {fn:FuncId}     {m:List (Nat×Nat)} {jl:List Code}
 (hti:∀b i,oA m b=some i→mu i ti=true∧E.g b=some (gs i)∧∀t,(i,t)∈ti→E.bt b=t)
 {args:List AV} {H:List (Option aO)} {j:Nat} (hps:ps.size=args.length) (hk:Nat.blt k0 16=true) (hkt:mu k0 ti=false) (h0:H[k0]? =some none) (h0':H'[k0]? =some none) (ht:qO H ti=true) (_ht':qO H' ti=true)
 (amQ:cJ P (gl.uy l) assign ⟨tY (ps.toList.zip args) (LX m σ.tm),H,[]⟩ (XX P (gl.uy l) body (XY (gl.uy l) jl j H'))):
 Fy P (gl.wB B hB) l args ((tie gs ti 0 H).set k0 (some (.lp ⟨l,gs,fE fn a.tmps ps assign body D jl⟩ 0))) (.ret (.val .bool (Nat.beq j 0))) ((tie gs ti 0 H').set k0 (some (.lp ⟨l,gs,fE fn a.tmps ps assign body D jl⟩ j))):=by
 intro E1 w1 vs hv hW
 have hk16:k0<16:=by simp_all
 have lenH:k0<(tie gs ti 0 H).length:=by grind [oe]
 have lenH':k0<(tie gs ti 0 H').length:=by grind [oe]
 have hlp:((tie gs ti 0 H).set k0 (some (.lp ⟨l,gs,fE fn a.tmps ps assign body D jl⟩ 0)))[k0]? =some (some (.lp ⟨l,gs,fE fn a.tmps ps assign body D jl⟩ 0)):=by
  grind
 obtain⟨hgl,hrec⟩:E1.g k0=some l∧w1.heap[l]? =some (.loop (fE fn a.tmps ps assign body D jl 0)):=hW.cQ k0 _ hlp
 have at1:∀(i:Nat)(k:aO),H[i]? =some (some k)→i≠k0∧((tie gs ti 0 H).set k0 (some (.lp ⟨l,gs,fE fn a.tmps ps assign body D jl⟩ 0)))[i]? =some (some (nc gs ti i k)):=by
  intro i k hi
  have hne:i≠k0:=fun e=>by grind
  refine⟨hne,?_⟩
  rw[dv,aC (fun e=>hne e.symm)]
  simp_all[AR]
 have hSl:¬E1.S l:=hW.jI k0 _ l hlp hgl
 have hW1:HW (gl.uy l) E1 w1 H:=by
  refine⟨?_,?_,?_,hW.slt,⟨hW.gl.1,trivial⟩,fun i k g hi=>hW.uu i _ g (at1 i k hi).2⟩
  ·intro i k hi;exact(hW.cQ i _ (at1 i k hi).2).XW
  ·intro i i' k k' g hi hi' g1 g2;exact hW.ew i i' _ _ g (at1 i k hi).2 (at1 i' k' hi').2 g1 g2
  ·intro i k g hi g1;exact hW.dC i _ g (at1 i k hi).2 g1
 have hOl:¬bx H E1 l:=by
  rintro⟨i,k,hi,hgi⟩
  exact(at1 i k hi).1 (hW.ew i k0 _ _ l (at1 i k hi).2 hlp hgi (Or.inl hgl))
 have hgi:∀i,mu i ti=true→i<16∧E1.g i=some (gs i):=by
  intro i hi
  obtain⟨h1,t,v,h2,_⟩:=wT ht hi
  have:=hW.cQ i _ (at1 i _ h2).2
  simp only[nc,hi,cj] at this
  exact⟨h1,this.1⟩
 obtain⟨b1,b2⟩:=hBu E1.S w1 hW.gl.2
 have hrnp:RnP m E w E1 w1:=by
  refine⟨?_,⟨b2,b1⟩⟩
  intro b i hbi
  obtain⟨c1,c2,c3⟩:=hti b i hbi
  obtain⟨_,t,v,h2,h3⟩:=wT ht c1
  have:=hW1.cQ i _ h2
  exact⟨by grind,by rw[this.1,c3 t h3]⟩
 obtain⟨hl,_⟩:=hv.get
 have hframe:bQ (gl.uy l) ⟨tY (ps.toList.zip args) (LX m σ.tm),H,[]⟩ E1 {tmps:=(ps.zip vs.toArray).foldl (fun t (p,v)=>t.setIfInBounds p v) a.tmps,defers:=[]} w1:=by
  have hzip:(ps.zip vs.toArray).foldl (fun t (p,v)=>t.setIfInBounds p v) a.tmps=(ps.toList.zip vs).foldl (fun t(p:Nat×Value)=>t.setIfInBounds p.1 p.2) a.tmps:=by
   rw[←Array.foldl_toList]
   congr 1
   simp
  have:=Dx (ps:=ps.toList) (tm:=LX m σ.tm) (tmps:=a.tmps) hv (by rw[H9];exact hg.len) (fun i x hx v hv'=>by
   rcases Ia hx with e|⟨y,h1,h2⟩
   ·subst e;trivial
   ·exact RV.oV hrnp h2 (hg.tm i y h1 v hv'))
  rw[hzip]
  exact⟨this.1,this.2,hW1,trivial⟩
 refine⟨fn,_,assign,body,run_yield hrec (by simp[fE,←hl,hps]),roundIn_of_wpIn (F:=Fence.wide) trivial ?_⟩
 refine wpIn_mono (amQ E1 _ w1 hframe) ?_
 rintro ex a2 w2 ⟨x,σ2,E2,q1,q2,q3,q4⟩
 cases ex with
 |
  normal=>
  cases x with
  |
   normal=>
   simp only[Exit.then]
   have hlt:l<w1.heap.size:=(Array.getElem?_eq_some_iff.1 hrec).1
   have hrec2:w2.heap[l]? =some (.loop (fE fn a.tmps ps assign body D jl 0)):=by rw[q4.kept l hlt hOl];grind
   have notO:∀{hp:List (Option aO)}{E':Env}{w':World},Ext gl.md (bx H E1) E1 w1 (bx hp E') E' w'→¬bx hp E' l∧¬E'.S l:=by
    intro hp E' w' hx
    constructor
    ·intro ho;rcases hx.own l ho with h|h<;>grind
    ·intro hs;rcases hx.mQ l hs with h|h|h<;>grind
   obtain⟨n1,n2⟩:=notO q4
   refine⟨w2.putObj l (.loop {fE fn a.tmps ps assign body D jl 0 with state:=.busy}),run_beginRound hrec2 rfl,?_⟩
   have g2:=q3.frame (o:=.loop {fE fn a.tmps ps assign body D jl 0 with state:=.busy}) n2 n1
   refine wpIn_mono (q2 E2 a2 _ g2) ?_
   rintro ex a3 w3 ⟨x3,σ3,E3,r1,r2,r3,r4⟩
   have lt2:l<w2.heap.size:=(Array.getElem?_eq_some_iff.1 hrec2).1
   have hbusy:w3.heap[l]? =some (.loop {fE fn a.tmps ps assign body D jl 0 with state:=.busy}):=by
    rw[r4.kept l (by simpa using lt2) n1]
    exact World.putObj_heap_same lt2
   have fin:∀(jump:Option Code),jump=jmp jl j→(jump.isNone=Nat.beq j 0)→(∃σ' mm,Wk (gl.uy l) σ3 σ'∧prune σ'.hp mm=H')→
    ∃v w',(Instr.endRound l jump).run P w3= .ok v w'∧∃E',AI E' w' (.ret (.val .bool (Nat.beq j 0))) (.returned v)∧HW (gl.wB B hB) E' w' ((tie gs ti 0 H').set k0 (some (.lp ⟨l,gs,fE fn a.tmps ps assign body D jl⟩ j)))∧
     Ext gl.md (bx ((tie gs ti 0 H).set k0 (some (.lp ⟨l,gs,fE fn a.tmps ps assign body D jl⟩ 0))) E1) E1 w1 (bx ((tie gs ti 0 H').set k0 (some (.lp ⟨l,gs,fE fn a.tmps ps assign body D jl⟩ j))) E') E' w':=by
    rintro jump hj hjn ⟨σ4,mm,hwk,hpr⟩
    obtain⟨E4,g4,x4⟩:=hwk E3 a3 w3 r3
    have hlt3:l<w3.heap.size:=(Array.getElem?_eq_some_iff.1 hbusy).1
    have hnew:({({fE fn a.tmps ps assign body D jl 0 with state:=.busy}:Loop) with state:=if jump.isNone then .ready else .done,pending:=jump}:Loop)=fE fn a.tmps ps assign body D jl j:=by
     grind [fE]
    have hend:=run_endRound (P:=P) jump hbusy
    rw[hnew,hjn] at hend
    have X:=((((q4.add l).trans (Ext.put (o:=.loop {fE fn a.tmps ps assign body D jl 0 with state:=.busy}) (Or.inr rfl))).trans (r4.add l)).trans (x4.add l)).trans (Ext.put (o:=.loop (fE fn a.tmps ps assign body D jl j)) (Or.inr rfl))
    have w4:HW (gl.uy l) E4 w3 H':=by rw[←hpr];exact g4.hw.prune mm
    have sub4:∀g,bx H' E4 g→bx σ4.hp E4 g:=by
     rintro g ⟨b,k,hb,hgb⟩
     rw[←hpr] at hb
     exact⟨b,k,jB hb,hgb⟩
    have n4:¬bx H' E4 l∧¬E4.S l:=by
     have hx:Ext gl.md (bx H E1) E1 w1 (bx σ2.hp E2) E2 w2:=q4
     obtain⟨m1,m2⟩:=notO hx
     have m3:¬bx σ3.hp E3 l∧¬E3.S l:=by
      constructor
      ·intro ho;rcases r4.own l ho with h|h
       ·grind
       ·simp at h;omega
      ·intro hs;rcases r4.mQ l hs with h|h|h
       ·grind
       ·grind
       ·simp at h;omega
     constructor
     ·intro ho;rcases x4.own l (sub4 l ho) with h|h<;>grind
     ·intro hs;rcases x4.mQ l hs with h|h|h<;>grind
    obtain⟨kp,wf⟩:=w4.frame (o:=.loop (fE fn a.tmps ps assign body D jl j)) n4.2 n4.1
    have gk0:E4.g k0=some l:=by rw[(X.Jt k0 hk16).1];exact hgl
    have at4:∀(i:Nat)(k:aO),((tie gs ti 0 H').set k0 (some (.lp ⟨l,gs,fE fn a.tmps ps assign body D jl⟩ j)))[i]? =some (some k)→(i=k0∧k= .lp ⟨l,gs,fE fn a.tmps ps assign body D jl⟩ j)∨(i≠k0∧∃k',H'[i]? =some (some k')∧k=nc gs ti i k'):=by
     intro i k hi
     rw[dv] at hi
     split at hi
     ·grind
     ·rename_i e
      obtain⟨k',h1,h2⟩:=iR hi
      grind
    have ne4:∀(i:Nat)(k:aO),H'[i]? =some (some k)→¬E4.has i l:=fun i k hi e=>n4.1 ⟨i,k,hi,e⟩
    obtain⟨E5,hE5⟩:∃E5:Env,E5={E4 with P:=fun b g=>b≠k0∧E4.P b g}:=⟨_,rfl⟩
    have e5g:∀b,E5.g b=E4.g b:=fun b=>by rw[hE5]
    have e5S:E5.S=E4.S:=by rw[hE5]
    have e5h:∀b g,E5.has b g→E4.has b g:=fun b g h=>h.imp (fun x=>by grind) (fun x=>by rw[hE5] at x;exact x.2)
    have e5k:∀g,E5.has k0 g→g=l:=fun g h=>by
     rcases h with h|h
     ·grind
     ·rw[hE5] at h;grind
    have kp5:∀w:World,bE E4 w E5 w:=fun w=>⟨fun _ _=>rfl,fun g hg=>by grind⟩
    refine⟨_,_,hend,E5,RV.bool,⟨?_,?_,?_,fun g hg=>wf.slt g (by grind),⟨fun x hx=>?_,?_⟩,?_⟩,?_⟩
    ·intro i k hi
     rcases at4 i k hi with⟨e1,e2⟩|⟨hne,k',h1,h2⟩
     ·subst e1;subst e2
      exact⟨by grind,World.putObj_heap_same hlt3⟩
     ·subst h2
      exact RB.mono (kp5 _) (fun b _=>by rw[hE5];grind) (fun _ _=>rfl) (fun _ g hg=>by rw[hE5];grind) ((wf.cQ i k' h1).tie (fun hh=>by obtain⟨c1,c2⟩:=hgi i hh;rw[(X.Jt i c1).1];exact c2))
    ·intro i i' k k' g hi hi' j1 j2
     rcases at4 i k hi with⟨e1,e2⟩|⟨hne,k2,h1,h2⟩
     ·grind
     ·rcases at4 i' k' hi' with⟨e1',e2'⟩|⟨hne',k2',h1',h2'⟩
      ·grind
      ·exact wf.ew i i' k2 k2' g h1 h1' (e5h _ _ j1) (e5h _ _ j2)
    ·intro i k g hi g1
     rw[e5S]
     rcases at4 i k hi with⟨e1,e2⟩|⟨hne,k2,h1,h2⟩
     ·grind
     ·exact wf.dC i k2 g h1 (e5h _ _ g1)
    ·obtain⟨y1,y2⟩:=wf.gl.1 x hx
     grind
    ·refine hB ?_ (fun b hb=>by rw[e5S];exact X.sle b hb) hW.gl.2
     intro b hb
     refine X.kept b (hW.slt b hb) ?_
     rintro(⟨i,k,hi,hgi'⟩|e)
     ·exact hW.dC i _ b (at1 i k hi).2 hgi' hb
     grind
    ·intro i k g hi g1
     rcases at4 i k hi with⟨e1,e2⟩|⟨hne,k2,h1,h2⟩
     ·subst e1;grind
     ·exact wf.uu i k2 g h1 (by rw[hE5] at g1;grind)
    ·refine⟨X.os,X.tape,X.output,X.size,?_,fun g hg=>by rw[e5S];exact X.sle g hg,?_,?_,fun b hb=>by rw[hE5];exact X.Jt b hb⟩
     ·intro g hgl' ho
      refine X.kept g hgl' ?_
      rintro(⟨i,k,hi,hgi'⟩|e)
      ·exact ho ⟨i,_,(at1 i k hi).2,hgi'⟩
      ·subst e;exact ho ⟨k0,_,hlp,Or.inl hgl⟩
     ·intro g hs
      rw[e5S] at hs
      rcases X.mQ g hs with h|h|h
      ·grind
      ·rcases h with⟨i,k,hi,hgi'⟩|e
       ·exact Or.inr (Or.inl ⟨i,_,(at1 i k hi).2,hgi'⟩)
       grind
      grind
     ·rintro g ⟨i,k,hi,hgi'⟩
      have:bx σ4.hp E4 g∨g=l:=by
       rcases at4 i k hi with⟨e1,e2⟩|⟨hne,k2,h1,h2⟩
       ·grind
       ·exact Or.inl (sub4 g ⟨i,k2,h1,e5h _ _ hgi'⟩)
      rcases X.own g this with h|h
      ·rcases h with⟨i,k,hi,hgi'⟩|e
       ·exact Or.inl ⟨i,_,(at1 i k hi).2,hgi'⟩
       ·subst e;exact Or.inl ⟨k0,_,hlp,Or.inl hgl⟩
      grind
   cases ex with
   |
    normal=>
    cases x3 with
    |normal=>obtain⟨e,hh⟩:=r2;subst e;exact fin none rfl rfl hh
    |_=>trivial
   |
    ret=>
    cases x3 with
    |
     ret=>
     obtain⟨⟨e,e2⟩,hh⟩:=r2
     exact fin (some .ret) e2.symm (by cases j with|zero=>grind|succ j=>rfl) hh
    |_=>trivial
   |
    exit i=>
    cases x3 with
    |
     exit i'=>
     have e0:i'=i:=r1
     subst e0
     obtain⟨⟨e,e2⟩,hh⟩:=r2
     exact fin (some (.exit i')) e2.symm (by cases j with|zero=>grind|succ j=>rfl) hh
    |_=>trivial
   |panic chain=>cases x3<;>first|trivial|trivial
   |goto t=>cases x3<;>exact r1.elim
   |outgrown=>cases x3<;>exact r1.elim
  |_=>trivial
 |ret=>cases x<;>first|trivial|trivial
 |exit i=>cases x<;>first|trivial|trivial
 |panic chain=>cases x<;>first|trivial|trivial
 |goto t=>cases x<;>exact q1.elim
 |outgrown=>cases x<;>exact q1.elim
def Fx(P:Program)(gl:Ctx)(tm:List AV)(ps:Array Tmp)(assign body:Code)(k0:Nat)(ti:List (Nat×Ty))(m:List (Nat×Nat))(jl:List Code)(C:Ctx)(y:YC):Prop:=
 ∀(args:List AV)(H H':List (Option aO))(j:Nat),ps.size=args.length→H[k0]? =some none→H'[k0]? =some none→qO H ti=true→qO H' ti=true→
  cJ P (gl.uy y.l) assign ⟨tY (ps.toList.zip args) (LX m tm),H,[]⟩ (XX P (gl.uy y.l) body (XY (gl.uy y.l) jl j H'))→
  Fy P C y.l args ((tie y.gs ti 0 H).set k0 (some (.lp y 0))) (.ret (.val .bool (Nat.beq j 0))) ((tie y.gs ti 0 H').set k0 (some (.lp y j)))
def gsC(gs:Nat→Nat)(m:List (Nat×Nat))(b:Nat):Nat:=match oA m b with|some i=>gs i|none=>0
def XZ:List (Nat×Nat)→List (Nat×Ty)
 |[]=>[]
 |(b,_)::l=>(b,.unit)::XZ l
theorem Dy{b:Nat}:∀{m:List (Nat×Nat)},mu b (XZ m)=true→∃i,oA m b=some i
 |[],h=>by cases h
 |
  (c,i)::l,h=>by
  simp only[XZ,mu,fK] at h
  unfold oA
  split
  ·grind
  ·rename_i hn
   rcases h with h|h
   ·exact absurd (by rw[bM h];exact Nat.beq_refl c) hn
   ·exact Dy h
def X0(hp:List (Option aO))(ti:List (Nat×Ty)):List (Nat×Nat)→Bool
 |[]=>true
 |(b,i)::l=>(match hp[b]? with|some (some (.var t _))=>mu i ti&&(ti.all fun x=> !Nat.beq x.1 i||Ty.same x.2 t)|_=>false)&&X0 hp ti l
theorem LY:∀{m:List (Nat×Nat)},X0 hp ti m=true→∀b i,(b,i)∈m→mu i ti=true∧∃t v,hp[b]? =some (some (.var t v))∧∀t',(i,t')∈ti→t'=t
 |[],_,b,i,h=>by cases h
 |
  (c,k)::l,hm,b,i,h=>by
  simp only[X0,bj] at hm
  rcases List.mem_cons.1 h with e|h
  ·cases e
   have h1:=hm.1
   split at h1
   ·rename_i t v hv
    simp only[bj,j6] at h1
    refine⟨h1.1,t,v,hv,fun t' ht'=>?_⟩
    have:=h1.2 _ ht'
    simp at this
    exact Ty.aB this
   grind
  ·exact LY hm.2 b i h
def LZ:List (Option aO)→List (Option aO)
 |[]=>[]
 |some (.tv _ t v)::l=>some (.var t v)::LZ l
 |x::l=>x::LZ l
theorem ka:∀{l:List (Option aO)}{i:Nat}{k:aO},(LZ l)[i]? =some (some k)→∃k',l[i]? =some (some k')∧(k'=k∨∃g t v,k'= .tv g t v∧k= .var t v)
 |[],i,k,h=>by trivial
 |
  x::l,0,k,h=>by
  unfold LZ at h
  grind
 |
  x::l,i+1,k,h=>by
  unfold LZ at h
  split at h
  ·cases(by assumption:_=_)
  ·rename_i heq;cases heq;simpa using ka (by simpa using h)
  ·rename_i heq;cases heq;simpa using ka (by simpa using h)
theorem bQ.LZ{gl:Ctx}{a:Act}(h:bQ gl σ E a w):bQ gl {σ with hp:=Ax.LZ σ.hp} E a w∧Ext gl.md (bx σ.hp E) E w (bx (Ax.LZ σ.hp) E) E w:=by
 refine⟨⟨h.len,h.tm,⟨?_,?_,?_,h.hw.slt,h.hw.gl,?_⟩,h.df⟩,{Ext.refl (bx σ.hp E) E w with own:=?_ }⟩
 ·intro b k hb
  obtain⟨k',h1,h2⟩:=ka hb
  have:=h.hw.cQ b k' h1
  rcases h2 with e|⟨g,t,v,e1,e2⟩
  ·grind
  ·subst e1;subst e2
   obtain⟨q0,q1,q2,c,e,q4,q5⟩:=this
   exact⟨q1,q2,g,c,e,q0,q4,q5⟩
 ·intro b b' k k' g hb hb' g1 g2
  obtain⟨k1,h1,_⟩:=ka hb
  obtain⟨k2,h2,_⟩:=ka hb'
  exact h.hw.ew b b' k1 k2 g h1 h2 g1 g2
 ·intro b k g hb g1
  obtain⟨k1,h1,_⟩:=ka hb
  exact h.hw.dC b k1 g h1 g1
 ·intro b k g hb g1
  obtain⟨k1,h1,_⟩:=ka hb
  exact h.hw.uu b k1 g h1 g1
 ·rintro g ⟨b,k,hb,g1⟩
  obtain⟨k1,h1,_⟩:=ka hb
  exact Or.inl ⟨b,k1,h1,g1⟩
theorem bQ.tie{gl:Ctx}{a:Act}(h:bQ gl σ E a w)(hg:∀b,mu b ti=true→E.g b=some (gs b)):bQ gl {σ with hp:=Ax.tie gs ti 0 σ.hp} E a w∧Ext gl.md (bx σ.hp E) E w (bx (Ax.tie gs ti 0 σ.hp) E) E w:=by
 refine⟨⟨h.len,h.tm,⟨?_,?_,?_,h.hw.slt,h.hw.gl,?_⟩,h.df⟩,{Ext.refl (bx σ.hp E) E w with own:=?_ }⟩
 ·intro b k hb
  obtain⟨k',h1,h2⟩:=iR hb
  rw[eN] at h2
  subst h2
  exact(h.hw.cQ b k' h1).tie (hg b)
 ·intro b b' k k' g hb hb' g1 g2
  obtain⟨k1,h1,_⟩:=iR hb
  obtain⟨k2,h2,_⟩:=iR hb'
  exact h.hw.ew b b' k1 k2 g h1 h2 g1 g2
 ·intro b k g hb g1
  obtain⟨k1,h1,_⟩:=iR hb
  exact h.hw.dC b k1 g h1 g1
 ·intro b k g hb g1
  obtain⟨k1,h1,_⟩:=iR hb
  exact h.hw.uu b k1 g h1 g1
 ·rintro g ⟨b,k,hb,g1⟩
  obtain⟨k1,h1,_⟩:=iR hb
  exact Or.inl ⟨b,k1,h1,g1⟩
theorem Fz{d e:Nat}{k:aO}(hk:k.ids= [])(h:σ.fresh d)(hne:d≠e):({σ with hp:=σ.hp.set e (some k)}:St).fresh d:=by
 have h1:=lv.1 h.1
 refine⟨lv.2 ⟨h1.1,h1.2.1,?_⟩,?_,h.2.2⟩
 ·grind
 ·intro k' hi
  rw[dv,aC (fun x=>hne x.symm)] at hi
  exact h.2.1 k' hi
def sI(y:YC)(m:List (Nat×Nat))(dI lI:Nat)(hp:List (Option aO)):List (Option aO):=tie (gsC y.gs m) (XZ m) 0 ((hp.set dI (some .uS)).set lI (some (.lp y 0)))
structure adr(σ:St)(y:YC)(m:List (Nat×Nat))(dI lI j:Nat)(cs:AV)(cr:CR)(L:List AV)(ins:List (Nat×Option aO))(hpF:List (Option aO)):Prop where
 hr:cr.r= .fU .nil
 hL:mo (swp cr.al) (eD (sI y m dI lI σ.hp)) (((.func (.yield y.l) .nil .nil,Ty.unit))::cs.toList.map (fun x=>(x,Ty.unit)))=some (L,[])
 j0:jf (swp cr.al) (eD (sI y m dI lI σ.hp)) cr.ps=some ins
 fT:Bi cr []=true
 hns:((cr.ns.map (·.2)).all (fun b=>({σ with hp:=sI y m dI lI σ.hp,df:=.mp dI::σ.df}:St).fA b))=true
 hF1:(aS (sI y m dI lI σ.hp) (mz (cr.al++cr.ns) cr.out (cr.ps++cr.ns)))[lI]? =some (some (.lp y j))
 hF2:LZ ((aS (sI y m dI lI σ.hp) (mz (cr.al++cr.ns) cr.out (cr.ps++cr.ns))).set lI none)=hpF
theorem cJ.rangeFunc{gl:Ctx}{g:Operand}(hro:gl.ro=none){gf:FuncId}{cs:AV}(hg:bC gl σ.tm g= .func (.func gf) .nil cs)
 (dI lI k0:Nat) (hd:σ.fA dI=true) (hl:σ.fA lI=true) (hne:Nat.beq dI lI=false) (hk:Nat.blt k0 16=true)
 (ti:List (Nat×Ty)) (m:List (Nat×Nat)) (hkt:mu k0 ti=false) (hm:X0 σ.hp ti m=true) (hmn:kA (m.map (·.2))=true) (jl:List Code) (hcs:cs.atoms=true)
 (hy:∀y:YC,∃j cr L ins hpF,adr σ y m dI lI j cs cr L ins hpF∧
  (∀B hB,Fx P gl σ.tm ps assign body k0 ti m jl (gl.wB B hB) y→Fc P (gl.wB B hB) gf L (aS (List.replicate cr.m none) ins) (.ret (.fU .nil)) (cY cr.m cr.out))∧
  (match jmp jl j with|none=>Q .normal ⟨σ.tm,hpF,.mp dI::σ.df⟩|some c=>cJ P gl c ⟨σ.tm,hpF,.mp dI::σ.df⟩ Q)):cJ P gl (.rangeFunc g ps assign body) σ Q:=by
 intro E a w hG
 refine wpIn_rangeFunc ?_
 intro fn _
 have hfd:=St.dR hd
 have hfl:=St.dR hl
 have hnd:lI≠dI:=fun e=>by simp_all
 obtain⟨rec,hrec⟩:∃rec:Nat→Loop,rec=fE fn a.tmps ps assign body w.heap.size jl:=⟨_,rfl⟩
 have hrec0:rec 0={state:=.ready,pending:=none,fn:=fn,tmps:=a.tmps,params:=ps,assign:=assign,body:=body,defers:=w.heap.size}:=by rw[hrec];rfl
 obtain⟨gs,hgs⟩:∃gs:Nat→Nat,gs=fun i=>match oA (swp m) i with|some b=>(E.g b).getD 0|none=>0:=⟨_,rfl⟩
 obtain⟨j,cr,L,ins,hpF,⟨hr,hL,j0,fT,hns,hF1,hF2⟩,hit,hq⟩:=hy ⟨w.heap.size+1,gs,rec⟩
 obtain⟨g1,x1⟩:=hG.fresh (w':=w.alloc (.deferred (some []))) hfd (g:=some w.heap.size) (sv:=undef) (t:=.unit) (k:=.uS) rfl (Tp.r rfl rfl) rfl (by simp) (fun i hi=>heap_alloc_old w _ hi) (fun i hi=>by grind)
  ⟨w.heap.size,by simp[Env.at],heap_alloc_new w _⟩
 have hs1:(w.alloc (.deferred (some []))).heap.size=w.heap.size+1:=by simp
 obtain⟨g2,x2⟩:=g1.fresh (w':=(w.alloc (.deferred (some []))).alloc (.loop (rec 0))) (d:=lI) (Fz rfl hfl hnd) (g:=some (w.heap.size+1)) (sv:=undef) (t:=.unit) (k:=.lp ⟨w.heap.size+1,gs,rec⟩ 0) rfl (Tp.r rfl rfl) rfl (by simp) (fun i hi=>heap_alloc_old _ _ hi) (fun i hi=>by grind)
  ⟨by simp[Env.at],by have:=heap_alloc_new (w.alloc (.deferred (some []))) (.loop (rec 0));grind⟩
 generalize hw2:(w.alloc (.deferred (some []))).alloc (.loop (rec 0))=w2 at g2 x2
 generalize hE2:(E.at dI (some w.heap.size) undef .unit).at lI (some (w.heap.size+1)) undef .unit=E2 at g2 x2
 have hE2g:∀b,b≠dI→b≠lI→E2.g b=E.g b:=fun b h1 h2=>by rw[←hE2];simp[Env.at,h1,h2]
 have hE2d:E2.g dI=some w.heap.size:=by rw[←hE2];simp[Env.at,Ne.symm hnd]
 have hE2S:E2.S=E.S:=by rw[←hE2];rfl
 have x12:=x1.trans x2
 have hmu:∀b i,oA m b=some i→mu i ti=true∧E.g b=some (gs i)∧(∀t,(i,t)∈ti→E.bt b=t)∧b≠dI∧b≠lI:=by
  intro b i hbi
  have hmem:=rA hbi
  obtain⟨h1,t,v,h2,h3⟩:=LY hm b i hmem
  obtain⟨r1,r2,gg,c,e,r3,_⟩:=hG.hw.cQ b _ h2
  have hlk:oA (swp m) i=some b:=eJ (by grind [fZ,swp,Function.comp_def]) (ki.2 hmem)
  refine⟨h1,by grind,fun t' ht'=>by grind,fun e=>?_,fun e=>?_⟩
  ·subst e;exact hfd.2.1 _ h2
  ·subst e;exact hfl.2.1 _ h2
 obtain⟨g3,x3⟩:=g2.tie (gs:=gsC gs m) (ti:=XZ m) (by
  grind [Dy,gsC])
 have g4:bQ gl ⟨σ.tm,sI ⟨w.heap.size+1,gs,rec⟩ m dI lI σ.hp,.mp dI::σ.df⟩ E2 {a with defers:={target:=.collected w.heap.size,args:= #[]}::a.defers} w2:=
  ⟨g3.len,g3.tm,g3.hw,⟨⟨w.heap.size,hE2d,rfl⟩,g3.df⟩⟩
 have hv0:=gr g4 g
 simp only at hv0
 rw[hg] at hv0
 obtain⟨f',c',hev,r1,r2,_,_⟩:=RV.atom rfl hv0
 simp at hev
 have hf':f'= #[]:=by apply mb;exact r1
 subst hf'
 have hav:a.eval g= .func (.func gf) #[] c':=by trivial
 obtain⟨B,hBd⟩:∃B:(Nat→Prop)→World→Prop,B=fun S' w'=>(∀b,E.S b→S' b)∧(∀b,E.S b→w'.heap[b]? =w.heap[b]?):=⟨_,rfl⟩
 have hB:∀{S S':Nat→Prop}{w w':World},(∀b,S b→w'.heap[b]? =w.heap[b]?)→(∀b,S b→S' b)→B S w→B S' w':=by
  simp_all
 have hof:Fx P gl σ.tm ps assign body k0 ti m jl (gl.wB B hB) ⟨w.heap.size+1,gs,rec⟩:=by
  intro args H H' j' h1 h2 h3 h4 h5 h6
  rw[hrec]
  exact Fy.PA hG (fun S' w' h=>by grind) (fun b i hbi=>⟨(hmu b i hbi).1,(hmu b i hbi).2.1,(hmu b i hbi).2.2.1⟩) h1 hk hkt h2 h3 h4 h5 h6
 obtain⟨amV,hfn⟩:=hit B hB hof
 have hbb:=bR (sI ⟨w.heap.size+1,gs,rec⟩ m dI lI σ.hp)
 obtain⟨hφ,hwi⟩:=vn (lent:=[]) g4 hbb (fun b hb=>by cases hb) (j0) (fT)
 have hargs:lz E2 w2 ((((.func (.yield (w.heap.size+1)) .nil .nil,Ty.unit))::cs.toList.map (fun x=>(x,Ty.unit))).map (·.1)) (Value.func (.yield (w.heap.size+1)) #[] #[]::c'.toList):=by
  refine⟨RV.eS (Or.inr ⟨rfl, #[], #[],rfl,rfl,rfl,rfl,rfl⟩),?_⟩
  have:=lz.atoms hcs r2
  have e1:∀l:List AV,(l.map (fun x=>(x,Ty.unit))).map (fun x:AV×Ty=>x.1)=l:=by intro l;induction l<;>simp_all
  grind
 have hv:=nD g4.hw hbb hφ (hL) (fun g hg=>hg) hargs
 have hSe:(E2.cH []).S=fun g=>E.S g∨∃b∈([]:List Nat),E2.g b=some g:=by simp only[Env.cH,hE2S]
 have hwB:HW (gl.wB B hB) (E2.to cr.al (E2.cH []).S) w2 (aS (List.replicate cr.m none) (ins)):=by
  refine hwi.ctx rfl ?_
  show B _ w2
  rw[hBd]
  refine⟨fun b hb=>by show(E2.cH []).S b;grind,fun b hb=>?_⟩
  exact x12.kept b (hG.hw.slt b hb) (fun⟨c,k,hc,hgc⟩=>hG.hw.dC c k b hc hgc hb)
 have hcalls:=hfn _ w2 _ hv hwB
 refine⟨w.heap.size+1,[{target:=.collected w.heap.size,args:= #[]}],w2,{target:=.fn (.func gf) c',args:= #[.func (.yield (w.heap.size+1)) #[] #[]]},w2,gf, #[.func (.yield (w.heap.size+1)) #[] #[]]++c',w2,?_,?_,fun _ _=>trivial,?_,fun h=>(by cases h),?_⟩
 ·simp_all[run_enterLoop_outer]
 ·simp only[resolve,hav]
  simp[go_sem]
 ·simp[invoke,amV]
 ·have e0:(Value.func (.yield (w.heap.size+1)) #[] #[]::c'.toList).toArray= #[.func (.yield (w.heap.size+1)) #[] #[]]++c':=by simp_all
  rw[e0] at hcalls
  have h1:CallsIn Fence.wide 0 P gf _ w2 _:=callsIn_wide.2 hcalls
  refine CallsIn.mono (F:=Wd gl) h1 ?_
  rintro ed w3 ⟨E',hR,hW',hX⟩
  cases ed with
  |panicked ch=>trivial
  |outgrown=>trivial
  |
   returned v=>
   have hWg:HW gl E' w3 (cY cr.m cr.out):=by
    refine hW'.ctx rfl ?_
    have hbs:B E'.S w3:=hW'.gl.2
    rw[hBd] at hbs
    exact gl.mono hbs.2 hbs.1 hG.hw.gl.2
   have hfr:∀b∈cr.ns.map (·.2),(⟨σ.tm,sI ⟨w.heap.size+1,gs,rec⟩ m dI lI σ.hp,.mp dI::σ.df⟩:St).fresh b:=by
    grind [St.dR]
   have hrr:=hr
   obtain⟨E3,k1,_,k3⟩:=lb (lent:=[]) g4 hbb (fun b hb=>by cases hb) (j0) (fT) hfr hWg hX (r':=.fU .nil) (by rw[hrr];rfl) (v:=v) (by rw[hrr];exact hR)
   have f1:=hF1;have f2:=hF2
   obtain⟨q1,q2⟩:=k1.hw.cQ lI _ f1
   obtain⟨k4,x4⟩:=k1.shut f1 q1 (.loop {rec j with state:=.exhausted})
   obtain⟨k5,x5⟩:=k4.LZ
   simp only[f2] at k5 x5
   have hst:(rec j).state≠.busy:=by rw[hrec];simp only[fE];grind
   refine⟨(rec j).pending,_,run_endLoop q2 hst,?_⟩
   have hpe:(rec j).pending=jmp jl j:=by rw[hrec];rfl
   have X:=(((x12.trans x3).trans k3).trans x4).trans x5
   generalize hwF:w3.putObj (w.heap.size+1) (.loop {rec j with state:=.exhausted})=wF at k5 X
   generalize (rec j).pending=pe at hpe
   subst hpe
   revert hq
   cases jmp jl j with
   |
    none=>
    intro hq
    exact⟨.normal,_,E3,trivial,hq,k5,X⟩
   |
    some c=>
    intro hq
    refine wpIn_mono (hq E3 _ _ k5) ?_
    rintro ex a5 w5 ⟨x,σ5,E5,z1,z2,z3,z4⟩
    exact⟨x,σ5,E5,z1,z2,z3,X.trans z4⟩
theorem Fc.up{C:Ctx}{f:FuncId}{A:List AV}{H:List (Option aO)}{r:yf}(hg:C'.gl=C.gl)(hC:∀S w,C.B S w)(h:Fc P C f A H r H')(hm:C'.md=C.md:=by rfl):Fc P C' f A H r H':=by
 refine⟨h.1,fun E w vs hv hw=>?_⟩
 have:=h.2 E w vs hv (hw.ctx hg.symm (hC _ _))
 intro cs
 obtain⟨e,w',fr,⟨E',r1,r2,r3⟩,rest⟩:=this cs
 rw[←hm] at r3
 exact⟨e,w',fr,⟨E',r1,r2.ctx hg (hw.gJ (hw.kept r3)).2,r3⟩,rest⟩
end Go.Ax
noncomputable section
namespace Go.Ax
def y0:YC:=⟨0,fun n=>n,fun _=>default⟩
inductive CF(D T:Type) where
 |br (f:D→Option T)
 |kC (s:Sh) (f:D→Option (Sum (prod (s.H [])) T))
def fh{A B R:Type}(x:Option (Sum A B))(kp:A→Option R)(k:B→Option R):Option R:=
 Option.bind x fun r=>match r with
  | .inl a=>kp a
  | .inr b=>k b
theorem JA{A B R:Type}{x:Option (Sum A B)}{kp:A→Option R}{k:B→Option R}{r:R}(h:fh x kp k=some r):(∃a,x=some (.inl a)∧kp a=some r)∨∃b,x=some (.inr b)∧k b=some r:=by
 unfold fh at h
 cases x<;>grind
def CF.run{D T R:Type}:CF D T→D→(T→Option R)→(AV→Option R)→Option R
 | .br f,d,K,_=>Option.bind (f d) fun r=>K r
 | .kC s f,d,K,KP=>fh (f d) (fun p=>KP (s.V y0 p)) fun r=>K r
def CF.X1{D T:Type}:CF D T→D→T→Prop
 | .br f,d,r=>f d=some r
 | .kC _ f,d,r=>f d=some (.inr r)
def CF.X2{D T:Type}:CF D T→D→AV→Prop
 | .br _,_,_=>False
 | .kC s f,d,x=>∃p,f d=some (.inl p)∧x=s.V y0 p
theorem CF.Dz{D T R:Type}{c:CF D T}{d:D}{K:T→Option R}{KP:AV→Option R}{r:R}(h:c.run d K KP=some r):(∃y,c.X1 d y∧K y=some r)∨∃x,c.X2 d x∧KP x=some r:=by
 cases c with
 |br f=>obtain⟨y,h1,h2⟩:=bind_some h;exact Or.inl ⟨y,h1,h2⟩
 |
  kC s f=>
  rcases JA h with⟨p,h1,h2⟩|⟨y,h1,h2⟩
  ·exact Or.inr ⟨_,⟨p,h1,rfl⟩,h2⟩
  ·exact Or.inl ⟨y,h1,h2⟩
structure bh where
 fn:Fn
 A:List Sh
 B:List (Nat×de)
 m:Nat
 F:SS
 res:F.T→AV
 out:F.T→List (Nat×aO)
 f:CF (prod (tU A (iz B []))) F.T
abbrev bh.D(C:bh):Type:=prod (tU C.A (iz C.B []))
def bh.args(C:bh)(d:C.D):List AV:=x8 y0 C.A d
def bh.ins(C:bh)(d:C.D):List (Nat×Option aO):=dg (oU y0 C.B (AN C.A d))
structure bh.holds(P:Program)(gl:Ctx)(C:bh):Prop where
 ret:∀d r,C.f.X1 d r→LB P gl C.fn (C.args d) (aS (List.replicate C.m none) (C.ins d)) (.ret (C.res r)) (cY C.m (C.out r))
 kC:∀d x,C.f.X2 d x→LB P gl C.fn (C.args d) (aS (List.replicate C.m none) (C.ins d)) (.kC x) (cY C.m [])
def PB:(m:List (Nat×de))→{l:List Type}→List (Nat×Option aO)→prod l→Option (prod (iz m l))
 |[],_,[],d=>some d
 |
  (i,s)::m,_,(j,some k)::hp,d=>if Nat.beq i j then(match PB m hp d with
  |some e=>s.G k e
  |none=>none) else none
 |_,_,_,_=>none
theorem AT(y:YC):∀{m:List (Nat×de)}{l:List Type}{hp:List (Nat×Option aO)}{d:prod l}{e:prod (iz m l)},PB m hp d=some e→dg (oU y m e)=hp∧WZ m e=d
 |
  [],l,hp,d,e,h=>by
  cases hp with
  |nil=>cases h;trivial
  |cons _ _=>trivial
 |
  (i,s)::m,l,hp,d,e,h=>by
  match hp,h with
  |[],h=>trivial
  |(j,none)::hp,h=>trivial
  |
   (j,some k)::hp,h=>
   obtain⟨hs,h0⟩:=bK h
   have:=bM hs;subst this
   split at h0
   ·rename_i e' he
    obtain⟨h1,h2⟩:=AT y he
    obtain⟨g1,g2⟩:=de.yg y h0
    exact⟨by simp only[oU,dg];rw[g1,g2,h1],by simp only[WZ];rw[g2,h2]⟩
   grind
def bh.get(C:bh)(L:List AV)(I:List (Nat×Option aO)):Option C.D:=
 match PB C.B (l:=[]) I () with
 |some d=>Um C.A L d
 |none=>none
variable{L:List AV}{I:List (Nat×Option aO)}
theorem bh.gI{C:bh}{d:C.D}(h:C.get L I=some d):C.args d=L∧C.ins d=I:=by
 unfold bh.get at h
 split at h
 ·rename_i d1 h1
  obtain⟨a1,a2⟩:=AT y0 h1
  obtain⟨b1,b2⟩:=AO y0 h
  exact⟨b1,by unfold bh.ins;grind⟩
 grind
structure CH where
 W0:List Nat
 ps:List (Nat×Nat)
 ns:List (Nat×Nat)
 ks:List (Nat×Nat):=[]
 us:List Nat:=[]
def CH.al(ch:CH):List (Nat×Nat):=match ch.ks with
 |[]=>ch.ps
 |k::ks=>ch.ps++k::ks
inductive KS where
 |t (s:Nat)
 |c (s:Nat) (p:Path)
 |two (a b:KS)
def KS.get(σ:St):KS→Option AV
 | .t s=>σ.tm[s]?
 |
  .two a b=>match KS.get σ a,KS.get σ b with
  |some (.val ty x),some (.val tz y)=>some (.val (.pair ty (.pair tz .unit)) (x,y,()))
  |_,_=>none
 |
  .c s p=>match σ.tm[s]? with
  |
   some (.ptr b q)=>match eD σ.hp b with
   |some (.var _ v)=>v.get (q++p)
   |_=>none
  |_=>none
inductive PF where
 |row (b d:Nat) (k:KS)
 |map (mode b d:Nat) (k:KS)
 |eQ (b:Nat)
 |X3 (b:Nat) (k:KS)
 |W1 (b:Nat)
structure RH where
 pre:List Gh
 zs:List (Nat×Nat×Ty)
 cs:List CH
 mg:Option (List (Nat×Ty)):=none
 foc:List (Nat×Nat):=[]
 pf:List PF:=[]
 post:List Gh:=[]
structure LH where
 S:SS
 fuel:S.T→Nat
structure PC where
 ic:Nat
 dI:Nat
 lI:Nat
 ti:List (Nat×Ty)
 m:List (Nat×Nat)
 jl:List Code
 ps:List (Nat×Nat)
 ns:List (Nat×Nat)
 S:SS
 E:SS
structure Hs where
 reg:List (Nat×RH)
 join:List (Nat×SS)
 cQ:List (Nat×SS)
 loop:List (Nat×LH)
 unr:List (Nat×Nat)
 Cq:List (Nat×PC):=[]
def ifs{R:Type}:List VC→Option R→Option R
 |[],x=>x
 |v::l,x=>@ite _ v.p v.d (ifs l x) none
theorem fj{R:Type}{r:R}:∀{l:List VC}{x:Option R},ifs l x=some r→dD l∧x=some r
 |[],x,h=>⟨trivial,h⟩
 |
  v::l,x,h=>by
  unfold ifs at h
  by_cases hp:v.p
  ·rw[@if_pos _ v.d hp] at h
   obtain⟨h1,h2⟩:=fj h
   trivial
  grind
def qP(G:bN)(al ps:List (Nat×Nat))(ev:Operand→AV)(hb:Nat→Option aO)(c:Call):Option (Fn×List AV×List (Nat×Option aO)):=
 match c.callee with
 |
  .value cf=>match Nf (ev cf) with
  |
   some (fn,fl,cl)=>
   match mo (swp al) hb (fl.map (fun x=>(x,Ty.unit))++(c.args.toList.zip c.argTypes.toList).map (uf G ev)++cl.map (fun x=>(x,Ty.unit))),jf (swp al) hb ps with
   |some (L,_),some ins=>some (fn,L,ins)
   |_,_=>none
  |_=>none
 |
  .invoke rv name=>match IB G hb name (ev rv) with
  |
   some (f,x,xt)=>
   match mo (swp al) hb ((x,xt)::(c.args.toList.zip c.argTypes.toList).map (uf G ev)),jf (swp al) hb ps with
   |some (L,_),some ins=>some (.func f,L,ins)
   |_,_=>none
  |_=>none
 |_=>none
def JB(P:Program)(gl:Ctx)(cr:CR)(x:Option (Fn×List AV×List (Nat×Option aO))):Prop:=
 ∀fn L ins,x=some (fn,L,ins)→LB P gl fn L (aS (List.replicate cr.m none) ins) cr.fin (cY cr.m cr.out)
variable{P:Program}{cr:CR}{ob:List Prop}{ev:Operand→AV}{hb:Nat→Option aO}
theorem wU{G:bN}{gl:Ctx}{c:Call}{e:fF}(h:pU P G gl cr ev hb c=some (e,ob))(hob:JB P gl cr (qP G cr.al cr.ps ev hb c)):∀p∈ob,p:=by
 unfold pU at h
 split at h
 ·rename_i cf hcf
  split at h
  ·rename_i fn fl cl hfv
   split at h
   ·rename_i L lent ins r' hL j0 hr'
    split at h
    ·cases h
     intro p hp
     simp only[mJ] at hp
     subst hp
     refine hob fn L ins ?_
     grind [qP]
    grind
   grind
  grind
 ·rename_i rv name hcf
  split at h
  ·rename_i f x xt hfv
   split at h
   ·rename_i L lent ins r' hL j0 hr'
    split at h
    ·cases h
     intro p hp
     simp only[mJ] at hp
     subst hp
     refine hob (.func f) L ins ?_
     grind [qP]
    grind
   grind
  grind
 grind
def wV(G:bN)(gl:Ctx)(ops:Array Oper)(al ps:List (Nat×Nat))(us:List Nat)(z:List (Nat×Ty))(σ:St)(i:Nat):Option (Fn×List AV×List (Nat×Option aO)):=
 match ops[i]? with
 |none=>none
 |
  some o=>match o.op with
  |
   .call c=>match z with
   |[]=>qP G al ps (bC gl σ.tm) (gx (tR o.op (bC gl σ.tm)++(ps.map (·.2)++us)) σ.hp) c
   |z=>qP G al ps (JQ (gx (mw (bC gl σ.tm) z) σ.hp) z (bC gl σ.tm)) (gx (tR o.op (JQ (gx (mw (bC gl σ.tm) z) σ.hp) z (bC gl σ.tm))++(ps.map (·.2)++us)) (aS σ.hp (eI (kZ (gx (mw (bC gl σ.tm) z) σ.hp) (bC gl σ.tm) z)))) c
  |_=>none
theorem DA{G:bN}{gl:Ctx}{d:Nat}{op:Op}{e:fF}(h:oX P G gl d cr op ev hb=some (e,ob)):
 ob= []∨∃c e',op= .call c∧lK op=true∧pU P G gl cr ev hb c=some (e',ob):=by
 unfold oX at h
 split at h
 ·rename_i c
  split at h
  ·simp only[gW,iv] at h
   grind
  ·rename_i hb
   simp only[tJ] at h
   obtain⟨⟨e',ob'⟩,h,hk⟩:=h
   have:=PT hk
   simp only at this
   subst this
   refine Or.inr ⟨c,e',rfl,?_,h⟩
   obtain⟨callee,args,tys⟩:=c
   cases callee with
   |builtin b=>grind
   |value _=>rfl
   |invoke _ _=>rfl
 ·simp only[gW,iv] at h
  grind
variable{σ:St}{ops:Array Oper}
theorem kW{G:bN}{gl:Ctx}{z:List (Nat×Ty)}{i:Nat}{f:aW}{vc:List VC}(h:eC P G gl ops cr z σ i=some (f,vc,ob))(hob:xg ops i=true→JB P gl cr (wV G gl ops cr.al cr.ps cr.us z σ i)):∀p∈ob,p:=by
 unfold eC at h
 split at h
 ·cases h
 ·rename_i o ho
  have hat:xg ops i=lK o.op:=by unfold xg;rw[ho]
  split at h
  ·cases h
  ·grind
  ·split at h
   ·split at h
    ·cases h
    ·rename_i e ob' he
     cases h
     rcases DA he with rfl|⟨c,e',hop,hc,he'⟩
     ·grind
     grind [wU,wV,CR.pb]
   ·rename_i hz
    split at h
    ·cases h
    ·rename_i e ob' he
     cases h
     rcases DA he with rfl|⟨c,e',hop,hc,he'⟩
     ·grind
     ·refine wU he' ?_
      simp_all[wV,CR.pb]
def fnK{R:Type}:Fn→Fn→Option R→Option R→Option R
 | .func f,.func g,K,E=>if Nat.beq f g then K else E
 | .yield l,.yield l',K,_=>ifs [vc (l=l')] K
 |_,_,_,E=>E
theorem DB{R:Type}{f g:Fn}{K E:Option R}{r:R}(h:fnK f g K E=some r):(f=g∧K=some r)∨E=some r:=by
 cases f with
 |
  func f=>
  cases g with
  |
   func g=>
   grind [fnK,bM]
  |_=>exact Or.inr h
 |
  yield l=>
  cases g with
  |
   yield l'=>
   obtain⟨h1,h2⟩:=fj h
   exact Or.inl ⟨by rw[h1.1],h2⟩
  |_=>exact Or.inr h
 |_=>exact Or.inr h
noncomputable def DC(a b:aO){R:Type}(x:Option R):Option R:=@ite _ (some a=some b) (Classical.propDecidable _) x none
theorem iJ{a:aO}{R:Type}{x:Option R}:DC a a x=x:=aA rfl
def DD{R:Type}(Γ:List bh)(ps ns ks:List (Nat×Nat))(us:List Nat)(fn:Fn)(L:List AV)(I:List (Nat×Option aO))(K:CR→Option R):List Nat→Option R
 |[]=>none
 |
  c::l=>match Γ[c]? with
  |
   some C=>fnK fn C.fn (match C.get L I with
   |some d=>C.f.run d (fun r=>K ⟨C.res r,ps,ns,C.out r,C.m,false,ks,us⟩) fun x=>K ⟨x,ps,[],[],C.m,true,ks,us⟩
   |none=>DD Γ ps ns ks us fn L I K l) (DD Γ ps ns ks us fn L I K l)
  |none=>none
def L0(Γ:List bh)(ch:CH)(x:Option (Fn×List AV×List (Nat×Option aO))){R:Type}(K:CR→Option R):Option R:=
 match x with
 |some (fn,L,I)=>DD Γ ch.ps ch.ns ch.ks ch.us fn L I K ch.W0
 |none=>none
variable{Γ:List bh}{ps:List (Nat×Nat)}
theorem wW{gl:Ctx}(hΓ:∀C∈Γ,C.holds P gl){ns ks:List (Nat×Nat)}{us:List Nat}{fn:Fn}{R:Type}{K:CR→Option R}{r:R}:∀{l:List Nat},DD Γ ps ns ks us fn L I K l=some r→
 ∃cr,K cr=some r∧cr.ps=ps∧cr.ks=ks∧cr.us=us∧JB P gl cr (some (fn,L,I))
 |[],h=>by cases h
 |
  c::l,h=>by
  unfold DD at h
  split at h
  ·rename_i C hC
   rcases DB h with⟨hf,h⟩|h
   ·split at h
    ·rename_i d hd
     obtain⟨h1,h2⟩:=bh.gI hd
     have hC:=hΓ C (kL hC)
     have key:∀(cr:CR),K cr=some r→cr.ps=ps→cr.ks=ks→cr.us=us→LB P gl C.fn (C.args d) (aS (List.replicate cr.m none) (C.ins d)) cr.fin (cY cr.m cr.out)→∃cr,K cr=some r∧cr.ps=ps∧cr.ks=ks∧cr.us=us∧JB P gl cr (some (fn,L,I)):=by
      intro cr h hp hk hu hh
      refine⟨cr,h,hp,hk,hu,?_⟩
      intro fn' L' I' e
      grind
     rcases CF.Dz h with⟨y,hy,h⟩|⟨x,hx,h⟩
     ·exact key _ h rfl rfl rfl (hC.ret d y hy)
     ·exact key _ h rfl rfl rfl (hC.kC d x hx)
    ·exact wW hΓ h
   ·exact wW hΓ h
  grind
variable{ch:CH}
theorem L4{gl:Ctx}(hΓ:∀C∈Γ,C.holds P gl){x:Option (Fn×List AV×List (Nat×Option aO))}{R:Type}{K:CR→Option R}{r:R}(h:L0 Γ ch x K=some r):
 ∃cr,K cr=some r∧cr.ps=ch.ps∧cr.ks=ch.ks∧cr.us=ch.us∧JB P gl cr x:=by
 unfold L0 at h
 split at h
 ·exact wW hΓ h
 grind
theorem CH.Tf(h1:cr.ps=ch.ps)(h2:cr.ks=ch.ks):cr.al=ch.al:=by
 obtain⟨_,ps,_,_,_,_,ks,_⟩:=cr
 obtain⟨_,ps',_,ks',_⟩:=ch
 cases h1
 cases h2
 trivial
def X4:CR:=⟨.bot,[],[],[],0,false,[],[]⟩
def PD{R:Type}(s:Bool)(f:aW)(K:aW→Option R):Option R:=
 match s with
 |false=>K f
 |
  true=>match f.v with
  | .val .bool e=>if e=true then K {f with v:=.val .bool true} else K {f with v:=.val .bool false}
  |_=>K f
theorem zi{R:Type}{s:Bool}{f:aW}{K:aW→Option R}{r:R}(h:PD s f K=some r):K f=some r:=by
 unfold PD at h
 split at h
 ·exact h
 ·split at h
  ·rename_i e he
   obtain⟨rt,rb,fr,dst,v,hw⟩:=f
   grind
  grind
def PE{R:Type}:List (Option Nat)→Nat→Int→aW→(aW→Option R)→Option R
 |[],_,_,_,_=>none
 |g::gs,n,e,f,K=>if e=(n:Int) then K {f with v:=Jr g} else PE gs (n+1) e f K
def L5{R:Type}(ok:Bool)(k0:Ty)(k:k0.den)(f:aW)(K:aW→Option R):List (k0.den×AV)→Option R
 |[]=>K {f with v:=okF ok .fv false}
 |x::l=>if bl k0 k x.1=true then K {f with v:=okF ok x.2 true} else L5 ok k0 k f K l
theorem zj{R:Type}{ok:Bool}{k0:Ty}{k:k0.den}{f:aW}{K:aW→Option R}{r:R}:∀{l:List (k0.den×AV)},f.v=ml ok k0 k l→L5 ok k0 k f K l=some r→K f=some r
 |
  [],hv,h=>by
  simp only[ml] at hv
  simp only[L5] at h
  rw[←hv] at h;exact h
 |
  x::l,hv,h=>by
  simp only[ml] at hv
  simp only[L5] at h
  split at h
  ·rename_i hb;rw[aA hb] at hv;rw[←hv] at h;exact h
  ·rename_i hb;rw[aC hb] at hv;exact zj hv h
def Ur{R:Type}(gl:Ctx)(ops:Array Oper)(σ:St)(i:Nat)(f:aW)(K:aW→Option R):Option R:=
 match ops[i]? with
 |
  some o=>match o.guard,o.op with
  |
   none,.index _ x j=>match bC gl σ.tm x,bC gl σ.tm j with
   | .val (.fns _) xs,.val (.int _) e=>PE xs 0 e f K
   |_,_=>K f
  |
   none,.lookup _ x k ok=>match bC gl σ.tm x with
   |
    .mp b=>match eD σ.hp b with
    |
     some (.iu k0 l)=>match(bC gl σ.tm k).bB k0 with
     |some k'=>L5 ok k0 k' f K l
     |none=>K f
    |_=>K f
   |_=>K f
  |_,_=>K f
 |none=>K f
theorem zl{R:Type}{f:aW}{K:aW→Option R}{r:R}{ys:List (Option Nat)}{e:Int}(hv:f.v=Jr (ys.getD e.toNat none)):∀{xs:List (Option Nat)}{n:Nat},(∀k,ys.getD (n+k) none=xs.getD k none)→PE xs n e f K=some r→K f=some r
 |[],_,_,h=>by cases h
 |
  g::gs,n,hx,h=>by
  unfold PE at h
  split at h
  ·rename_i he
   subst he
   have:ys.getD n none=g:=by simpa using hx 0
   rw[jF,this] at hv
   rw[←hv] at h
   exact h
  ·refine zl hv (fun k=>?_) h
   have:=hx (k+1)
   rw[show n+1+k=n+(k+1) by omega,this]
   simp
theorem JC{G:bN}{R:Type}{gl:Ctx}{i:Nat}{f:aW}{vc:List VC}{K:aW→Option R}{r:R}(hs:eC P G gl ops cr [] σ i=some (f,vc,ob))(h:Ur gl ops σ i f K=some r):K f=some r:=by
 unfold Ur at h
 split at h
 ·rename_i o ho
  split at h
  ·rename_i t x j hg hop
   split at h
   ·rename_i n xs k e hx hj
    have hv:f.v=Jr (xs.getD e.toNat none):=by
     unfold eC at hs
     rw[ho] at hs
     simp only[guardOf,hg,hop] at hs
     simp only[oX,qX,Jy,zP,zU,zV,zt,zu,zw,hx,hj] at hs
     split at hs
     ·cases hs
     ·rename_i e' ob' he
      cases hs
      simp only[gW,iv] at he
      obtain⟨a,ha,rfl,rfl⟩:=he
      split at ha
      case h_2=>cases ha
      rename_i a' ha'
      cases ha
      simp only[gW] at ha'
      obtain⟨b,hb,rfl⟩:=ha'
      unfold vo at hb
      split at hb
      ·split at hb
       ·rename_i m m' ys k' n' h1 h2 h3
        cases h2;cases h3
        split at hb
        ·cases hb;rfl
        grind
       ·grind
       grind
      grind
    exact zl hv (fun k=>by simp) h
   grind
  ·rename_i t x k ok hg hop
   split at h
   ·rename_i b hx
    split at h
    ·rename_i k0 l hbk
     split at h
     ·rename_i k' hk
      have hv:f.v=ml ok k0 k' l:=by
       grind [eC,guardOf,oX,gW,DV,eD,gx]
      exact zj hv h
     grind
    grind
   grind
  grind
 grind
def X6{R:Type}(gl:Ctx)(ops:Array Oper)(σ:St)(i:Nat)(z:List (Nat×Ty))(f:aW)(K:aW→Option R):Option R:=
 match z with
 |[]=>Ur gl ops σ i f (fun f=>PD (MJ ops.toList i) f K)
 |_::_=>PD (MJ ops.toList i) f K
section
variable(P:Program) (G:bN) (gl:Ctx) (Γ:List bh)
def sJ(ops:Array Oper)(σ:St)(i:Nat):Bool:=
 match ops[i]? with
 |
  some o=>match guardOf ops σ.tm o with
  |some b=>b
  |none=>false
 |none=>false
def DE(ops:Array Oper){R:Type}(i:Nat)(σ:St)(z:List (Nat×Ty))(x:Option (aW×List VC×List Prop))(K:aW→Option R):Option R:=
 match x with
 |some (f,vcs,_)=>if f.fr.all σ.fA then ifs vcs (X6 gl ops σ i z f K) else none
 |none=>none
def L6(gl:Ctx)(ops:Array Oper)(σ:St)(i:Nat):Option aW:=
 match ops[i]? with
 |
  some o=>match o.guard,o.op with
  |
   none,.panic x=>match bC gl σ.tm x with
   | .iface t v=>some ⟨slotsOf [x],[],[],none,.iface t v,[]⟩
   |_=>none
  |_,_=>none
 |none=>none
def X7{R:Type}(x:Option (aW×List VC×List Prop))(KP:aW→Option R):Option R:=
 match x with
 |some (f,_,_)=>if f.fr.isEmpty then KP f else none
 |none=>none
def lG(ops:Array Oper)(zs:List (Nat×Nat×Ty)){R:Type}(K:List aW→St→Option R)(KP:List aW→aW→St→Option R):Nat→Nat→List CH→St→List aW→Option R
 |0,_,_,σ,fs=>K fs σ
 |
  n+1,i,cs,σ,fs=>
  if xg ops i&&sJ ops σ i then(match cs with
   |
    ch::cs'=>L0 Γ ch (wV G gl ops ch.al ch.ps ch.us (Tn zs i) σ i) fun cr=>match cr.kC with
    |false=>DE gl ops i σ (Tn zs i) (eC P G gl ops cr (Tn zs i) σ i) fun f=>lG ops zs K KP n (i+1) cs' (σ.app f) (f::fs)
    |true=>X7 (eC P G gl ops cr (Tn zs i) σ i) fun f=>KP fs f σ
   |[]=>none)
  else match L6 gl ops σ i with
  |some f=>KP fs f σ
  |none=>DE gl ops i σ (Tn zs i) (eC P G gl ops X4 (Tn zs i) σ i) fun f=>lG ops zs K KP n (i+1) (if xg ops i then cs.tail else cs) (σ.app f) (f::fs)
end
theorem wX{G:bN}{gl:Ctx}{z:List (Nat×Ty)}{i:Nat}{f:aW}{vc:List VC}{o:Oper}(h:eC P G gl ops cr z σ i=some (f,vc,ob))(ho:ops[i]? =some o):f.dst=o.dst:=by
 grind [eC]
theorem DF{G:bN}{gl:Ctx}{R:Type}{i:Nat}{z:List (Nat×Ty)}{K:aW→Option R}{r:R}{f:aW}{vc:List VC}(hs:eC P G gl ops cr z σ i=some (f,vc,ob))(h:X6 gl ops σ i z f K=some r):K f=some r:=by
 cases z with
 |nil=>exact zi (JC hs h)
 |cons _ _=>exact zi h
theorem wY{G:bN}(T:bA P G){gl:Ctx}{R:Type}{i:Nat}{z:List (Nat×Ty)}{K:aW→Option R}{r:R}(am4:cr.kC=false)(hob:xg ops i=true→JB P gl cr (wV G gl ops cr.al cr.ps cr.us z σ i))(h:DE gl ops i σ z (eC P G gl ops cr z σ i) K=some r):
 ∃f,(px P gl ops i f σ∧∀o,ops[i]? =some o→f.dst=o.dst)∧(∀d∈f.fr,σ.fresh d)∧K f=some r:=by
 unfold DE at h
 split at h
 ·rename_i f vcs ob hs
  obtain⟨hf,h⟩:=bK h
  grind [fj,k8,kW,wX,DF,St.dR]
 grind
theorem PG{G:bN}{gl:Ctx}{i:Nat}{z:List (Nat×Ty)}{f:aW}{vc:List VC}(h:eC P G gl ops cr z σ i=some (f,vc,ob))(hg:sJ ops σ i=false):ob= []:=by
 grind [eC,sJ]
theorem L7{gl:Ctx}{i:Nat}{f:aW}(h:L6 gl ops σ i=some f):DY P gl ops i f σ:=by
 unfold L6 at h
 split at h
 ·rename_i o ho
  split at h
  ·rename_i x hgd hop
   split at h
   ·rename_i t v hx
    cases h
    intro σ' ha E a w hg K Q hQ
    unfold wpOpIn
    simp only[ho]
    have hw:=fV hg (ops:=ops) (o:=o) (c:=true) (by unfold guardOf;rw[hgd])
    rw[hw]
    simp only[cj]
    have hv:=gr hg x
    rw[iY ha (x:=x) (fun t ht=>by grind [slotsOf]),hx] at hv
    obtain⟨u,e,_⟩:=RV.atom rfl hv
    simp at e
    unfold Oper.wpIn
    refine⟨fun _ _=>trivial,?_⟩
    rw[Oper.semAt_eq _ _ _ (by grind)]
    have amQ:(execOp a.eval o).run P w= .halt (.panic (a.eval x)) w:=by
     simp[execOp,hop,e,Instr.panic]
    rw[amQ]
    exact hQ E (a.eval x) w hg hv (Ext.refl _ _ _)
   grind
  grind
 grind
theorem DG{i:Nat}(h1:xg ops i=true)(h2:sJ ops σ i=true):∃o,ops[i]? =some o∧guardOf ops σ.tm o=some true∧lK o.op=true:=by
 grind [sJ,xg]
theorem pD{G:bN}(T:bA P G){gl:Ctx}(hΓ:∀C∈Γ,C.holds P gl){zs:List (Nat×Nat×Ty)}{R:Type}{K:List aW→St→Option R}{KP:List aW→aW→St→Option R}{r:R}:
 ∀{n i:Nat}{cs:List CH}{σ:St}{fs:List aW},lG P G gl Γ ops zs K KP n i cs σ fs=some r→
  (∃gs σ',qB P gl ops i gs σ σ'∧gs.length=n∧(∀(k:Nat)(f:aW)(o:Oper),gs[k]? =some f→ops[i+k]? =some o→f.dst=o.dst)∧K (gs.reverse++fs) σ'=some r)∨
  ∃gs f σ',qB P gl ops i gs σ σ'∧gs.length<n∧DY P gl ops (i+gs.length) f σ'∧KP (gs.reverse++fs) f σ'=some r
 |0,i,cs,σ,fs,h=>Or.inl ⟨[],σ,rfl,rfl,(fun k f o h=>by simp at h),h⟩
 |
  n+1,i,cs,σ,fs,h=>by
  unfold lG at h
  have fin:∀{f:aW}{cs':List CH},(px P gl ops i f σ∧∀o,ops[i]? =some o→f.dst=o.dst)→(∀d∈f.fr,σ.fresh d)→lG P G gl Γ ops zs K KP n (i+1) cs' (σ.app f) (f::fs)=some r→
   (∃gs σ',qB P gl ops i gs σ σ'∧gs.length=n+1∧(∀(k:Nat)(f:aW)(o:Oper),gs[k]? =some f→ops[i+k]? =some o→f.dst=o.dst)∧K (gs.reverse++fs) σ'=some r)∨
   ∃gs f σ',qB P gl ops i gs σ σ'∧gs.length<n+1∧DY P gl ops (i+gs.length) f σ'∧KP (gs.reverse++fs) f σ'=some r:=by
   intro f cs' h1 h2 h3
   rcases pD T hΓ h3 with⟨gs,σ',k1,k2,kd,k3⟩|⟨gs,f',σ',k1,k2,kp,k3⟩
   ·refine Or.inl ⟨f::gs,σ',⟨h1.1,h2,k1⟩,by simp[k2],?_,by simpa using k3⟩<;>grind
   ·exact Or.inr ⟨f::gs,f',σ',⟨h1.1,h2,k1⟩,by grind,by grind,by grind⟩
  split at h
  ·rename_i hcg
   simp only[bj] at hcg
   split at h
   ·rename_i ch cs'
    obtain⟨cr,h,hps,hks,hus,hob⟩:=L4 hΓ h
    split at h
    ·rename_i am4
     obtain⟨f,h1,h2,h3⟩:=wY T am4 (fun _=>by rw[hps,hus,CH.Tf hps hks];exact hob) h
     grind
    ·rename_i am4
     unfold X7 at h
     split at h
     ·rename_i f vcs ob hs
      obtain⟨hf,h⟩:=bK h
      obtain⟨o,ho,hgd,hcl⟩:=DG hcg.1 hcg.2
      exact Or.inr ⟨[],f,σ,rfl,by simp,F1 T am4 ho hgd hcl hs (kW hs (fun _=>by rw[hps,hus,CH.Tf hps hks];exact hob)) (by grind),by grind⟩
     grind
   grind
  ·rename_i hc
   split at h
   ·rename_i f hf
    exact Or.inr ⟨[],f,σ,rfl,by simp,L7 hf,by grind⟩
   ·cases ho:xg ops i with
    |
     false=>
     rw[ho] at h
     obtain⟨f,h1,h2,h3⟩:=wY T rfl (fun e=>by grind) h
     grind
    |
     true=>
     rw[ho] at h hc
     have hg:sJ ops σ i=false:=by grind
     unfold DE at h
     split at h
     ·rename_i f vcs ob hs
      obtain⟨hf,h⟩:=bK h
      obtain⟨hv,h⟩:=fj h
      refine fin ⟨k8 T rfl hs hv (by rw[PG hs hg];grind),fun o ho=>wX hs ho⟩ ?_ (DF hs h)
      grind [St.dR]
     grind
section
variable(P:Program) (G:bN) (gl:Ctx)
def oh(ops:Array Oper)(draw:Bool)(z p:Nat)(masks:List Nat){R:Type}(K:List aW→Option R):Nat→Nat→St→List aW→Option R
 |0,_,_,gs=>K gs.reverse
 |
  n+1,j,σ,gs=>if !draw||(masks.getD j 0).testBit p then oh ops draw z p masks K n (j+1) σ (H6 z::gs)
  else if xg ops j then none else match eC P G gl ops X4 [] σ j with
   |some (f,vcs,_)=>if f.fr.isEmpty&&Py z [f] then ifs vcs (oh ops draw z p masks K n (j+1) (σ.app f) (f::gs)) else none
   |none=>none
end
theorem pE{G:bN}(T:bA P G){gl:Ctx}{draw:Bool}{z p:Nat}{masks:List Nat}{R:Type}{K:List aW→Option R}{r:R}:∀{n j:Nat}{σ:St}{gs:List aW},oh P G gl ops draw z p masks K n j σ gs=some r→
 ∃ms σ',(σ.hp[z]? =some (some Fs)→bW (Ft P gl ops z) j ms σ σ')∧ms.length=n∧Py z ms=true∧K (gs.reverse++ms)=some r
 |0,j,σ,gs,h=>⟨[],σ,fun _=>rfl,rfl,rfl,by simpa[oh] using h⟩
 |
  n+1,j,σ,gs,h=>by
  unfold oh at h
  split at h
  ·obtain⟨ms,σ',h1,h2,h3,h4⟩:=pE T h
   refine⟨H6 z::ms,σ',fun hz=>⟨Or.inr ⟨rfl,hz⟩,(fun d hd=>by cases hd),h1 hz⟩,by simp[h2],by simp only[Py,List.all_cons,bj] at h3 ⊢;exact⟨rfl,h3⟩,by simpa using h4⟩<;>grind
  ·split at h
   ·cases h
   ·rename_i ho
    split at h
    ·rename_i f vcs ob hs
     obtain⟨hf,h⟩:=bK h
     obtain⟨hv,h⟩:=fj h
     simp only[bj,List.isEmpty_iff] at hf
     obtain⟨ms,σ',h1,h2,h3,h4⟩:=pE T h
     have hob:=kW (cr:=X4) hs (fun e=>absurd e ho)
     have hnz:Py z (f::ms)=true:=by
      simp_all[Py]
     refine⟨f::ms,σ',fun hz=>⟨Or.inl (k8 T rfl hs hv hob),(fun d hd=>by grind),h1 ?_⟩,by simp[h2],hnz,by grind⟩
     have hq:bW (fun _ _ _=>True) j [f] σ (σ.app f):=⟨trivial,(fun d hd=>by grind),rfl⟩
     exact bW.at hq hf.2 hz
    grind
def X8{α:Type}:List (Nat×α)→Nat→Option α
 |[],_=>none
 |(i,x)::l,j=>if Nat.beq i j then some x else X8 l j
def sK:Code→Option Nat
 | .region id _ _=>some id
 |
  .seq a b=>match sK a with
  |some i=>some i
  |none=>sK b
 |
  .cond _ a b=>match sK a with
  |some i=>some i
  |none=>sK b
 | .block _ c| .loop c| .scope c=>sK c
 |_=>none
def PH{α:Type}(l:List (Nat×α))(c:Code):Option α:=
 match sK c with
 |some i=>X8 l i
 |none=>none
def aL{U R:Type}(F:(U→Option R)→U→Option R)(n:Nat):U→Option R:=
 @Nat.rec (fun _=>U→Option R) (fun _=>none) (fun _ ih=>F ih) n
def aI{U R:Type}(x:Option (cL U R))(f:U→Option R):Option R:=
 Option.bind x fun o=>match o with
  | .brk d=>f d
  | .ret r=>some r
def bU{U R:Type}(x:Option R):Option (cL U R):=x.map .ret
variable{U:Type}
theorem FA{R:Type}{x:Option (cL U R)}{f:U→Option R}{r:R}(h:aI x f=some r):(∃d,x=some (.brk d)∧f d=some r)∨x=some (.ret r):=by
 obtain⟨o,ho,h⟩:=bind_some h
 grind
def PI(ops:Array Oper):Bool:=ops.toList.any fun o=>match o.op with
 | .defer _=>true
 |_=>false
def yh{R:Type}(F:YC→Option R):Option R:=
 @dite _ (∃r,∀y,F y=some r) (Classical.propDecidable _) (fun h=>some h.choose) fun _=>none
theorem JD{R:Type}{F:YC→Option R}{r:R}(h:yh F=some r)(y:YC):F y=some r:=by
 unfold yh at h
 split at h<;>grind
def N3{R:Type}(a b:YC)(x:Option R):Option R:=@ite _ (a=b) (Classical.propDecidable _) x none
structure IC where
 A:List Sh
 B:List (Nat×de)
 m:Nat
 k0:Nat
 R:List (Nat×de)
 W0:Nat→(prod (tU A (iz B []))→Option (fU (Bool::YC::Nat::iz R [])))→bh
def IC.T(C:IC):List Type:=Bool::YC::Nat::iz C.R []
def IC.Y(C:IC)(l:Nat)(f:prod (tU C.A (iz C.B []))→Option (fU C.T)):bh:=
 ⟨.yield l,C.A,C.B,C.m,⟨1,C.m,[(0,.val .bool)],(C.k0,.lp)::C.R,[]⟩,fun r=>.val .bool (rT C.T r).1,fun r=>(C.k0,.lp (rT C.T r).2.1 (rT C.T r).2.2.1)::oU y0 C.R (rT C.T r).2.2.2,.br f⟩
def IC.holds(P:Program)(gl:Ctx)(C:IC):Prop:=∀B hB l f,(C.Y l f).holds P (gl.wB B hB)→(C.W0 l f).holds P (gl.wB B hB)
def FB:Option aO→Bool
 |some (.tv _ _ _)=>true
 |_=>false
def yi:List (Option aO)→Bool
 |[]=>true
 |x::l=> !FB x&&yi l
theorem Ib:∀{l:List (Option aO)},yi l=true→∀(i g:Nat)(t:Ty)(v:AV),l[i]? ≠some (some (.tv g t v))
 |[],_,i,g,t,v=>by simp
 |
  x::l,h,i,g,t,v=>by
  simp only[yi,bj] at h
  cases i with
  |zero=>intro e;simp at e;subst e;exact absurd h.1 (by simp[FB])
  |succ i=>simpa using Ib h.2 i g t v
def L8(y:YC)(ti:List (Nat×Ty))(k0:Nat):Nat→List (Option aO)→Option (List VC×List (Option aO))
 |_,[]=>some ([],[])
 |
  i,x::l=>match L8 y ti k0 (i+1) l with
  |none=>none
  |
   some (vs,H)=>if Nat.beq i k0 then(match x with
    |some (.lp y' j)=>some (⟨y'=y,Classical.propDecidable _⟩::vc (j=0)::vs,none::H)
    |_=>none)
   else match x with
    |none=>some (vs,none::H)
    |some (.tv g t v)=>if mu i ti then some (vc (g=y.gs i)::vs,some (.var t v)::H) else none
    |some (.var t v)=>if mu i ti then none else some (vs,some (.var t v)::H)
    |some k=>some (vs,some k::H)
variable{ti:List (Nat×Ty)}
theorem uY{y:YC}{k0:Nat}:∀{X:List (Option aO)}{s:Nat}{vs:List VC}{H:List (Option aO)},L8 y ti k0 s X=some (vs,H)→dD vs→
 H.length=X.length∧(∀i,s+i=k0→i<X.length→X[i]? =some (some (.lp y 0))∧H[i]? =some none)∧(∀i,s+i≠k0→X[i]? =(tie y.gs ti s H)[i]?)∧yi H=true
 |[],s,vs,H,h,_=>by cases h;exact⟨rfl,fun i _ hi=>by grind,fun i _=>rfl,rfl⟩
 |
  x::l,s,vs,H,h,hv=>by
  unfold L8 at h
  split at h
  ·cases h
  ·rename_i vs' H' hr
   have step:∀{k:Option aO}{k':Option aO},dD vs'→Nat.beq s k0=false→x=k→(∀L,(tie y.gs ti s (k'::L))=k::tie y.gs ti (s+1) L)→FB k'=false→(k'::H').length=(x::l).length∧(∀i,s+i=k0→i<(x::l).length→(x::l)[i]? =some (some (.lp y 0))∧(k'::H')[i]? =some none)∧(∀i,s+i≠k0→(x::l)[i]? =(tie y.gs ti s (k'::H'))[i]?)∧yi (k'::H')=true:=by
    intro k k' hv' hb hx ht hnt
    obtain⟨h1,h2,h3,h4⟩:=uY hr hv'
    have hne:s≠k0:=fun e=>by rw[e,Nat.beq_refl] at hb;cases hb
    refine⟨by simp[h1],?_,?_,by simp[yi,hnt,h4]⟩
    ·intro i hi hl
     cases i with
     |zero=>exact absurd hi hne
     |succ i=>exact h2 i (by omega) (by simpa using hl)
    ·intro i hi
     rw[ht,hx]
     cases i with
     |zero=>rfl
     |succ i=>simpa using h3 i (by omega)
   split at h
   ·rename_i hb
    have hs:=bM hb
    subst hs
    split at h
    ·rename_i y' j
     cases h
     obtain⟨e1,e2,hv'⟩:=hv
     have e1:y'=y:=e1
     have e2:j=0:=e2
     subst e1;subst e2
     obtain⟨h1,h2,h3,h4⟩:=uY hr hv'
     refine⟨by simp[h1],?_,?_,by simp[yi,FB,h4]⟩
     ·intro i hi _
      have:i=0:=by omega
      subst this
      exact⟨rfl,rfl⟩
     ·intro i hi
      cases i with
      |zero=>exact absurd rfl hi
      |succ i=>simpa[tie] using h3 i (by omega)
    ·cases h
   ·rename_i hb
    have hb:Nat.beq s k0=false:=by cases hq:Nat.beq s k0 with|false=>rfl|true=>exact absurd hq hb
    split at h
    ·cases h;exact step hv hb rfl (fun L=>rfl) rfl
    ·rename_i g t v
     obtain⟨ht,h⟩:=bK h
     cases h
     obtain⟨e1,hv'⟩:=hv
     have e1:g=y.gs s:=e1
     subst e1
     exact step hv' hb rfl (fun L=>by simp[tie,nc,ht]) rfl
    ·rename_i t v
     split at h
     ·cases h
     ·rename_i ht
      cases h;exact step hv hb rfl (fun L=>by simp[tie,nc,ht]) rfl
    ·rename_i k n1 n2
     cases h
     refine step hv hb rfl (fun L=>?_) ?_
     ·cases k with
      |var t v=>exact absurd rfl (n2 t v)
      |_=>rfl
     ·cases k with
      |tv g t v=>exact absurd rfl (n1 g t v)
      |_=>rfl
def zm(p:Code→Bool):List Code→Nat→Option Nat
 |[],_=>none
 |c::l,n=>if p c then some n else zm p l (n+1)
def Tg:Code→Bool
 | .ret=>true
 |_=>false
def L9(i:Nat):Code→Bool
 | .exit j=>Nat.beq i j
 |_=>false
def Us(jl:List Code):fQ→Option Nat
 | .normal=>some 0
 | .ret=>zm Tg jl 1
 | .exit i=>zm (L9 i) jl 1
 | .panic _=>none
theorem DH{p:Code→Bool}:∀{l:List Code}{n j:Nat},zm p l n=some j→n≤j∧∃c,l[j -n]? =some c∧p c=true
 |[],_,_,h=>by cases h
 |
  c::l,n,j,h=>by
  unfold zm at h
  split at h
  ·grind
  ·obtain⟨h1,c',h2,h3⟩:=DH h
   grind
variable{jl:List Code}
theorem zn{p:Code→Bool}{j:Nat}(h:zm p jl 1=some j):j≠0∧∃c,jmp jl j=some c∧p c=true:=by
 obtain⟨h1,c,h2,h3⟩:=DH h
 refine⟨by omega,c,?_,h3⟩
 cases j with
 |zero=>omega
 |succ j=>trivial
def Ut{R:Type}(c:Code)(σ:St)(k:fQ→St→Option R):Option R:=
 match c with
 | .ret=>k .ret σ
 | .exit i=>k (.exit i) σ
 |_=>none
def PJ{R:Type}(σ:St)(k:fQ→St→Option R)(j:Nat):List Code→Nat→Option R
 |[],_=>none
 |c::l,n=>if j=n then Ut c σ k else PJ σ k j l (n+1)
def Uv{R:Type}(jl:List Code)(j:Nat)(σ:St)(k:fQ→St→Option R):Option R:=if j=0 then k .normal σ else PJ σ k j jl 1
theorem Ic{R:Type}{k:fQ→St→Option R}{j:Nat}{r:R}:∀{l:List Code}{n:Nat},PJ σ k j l n=some r→n≤j∧∃c,l[j -n]? =some c∧Ut c σ k=some r
 |[],_,h=>by cases h
 |
  c::l,n,h=>by
  unfold PJ at h
  split at h
  ·grind
  ·obtain⟨h1,c',h2,h3⟩:=Ic h
   grind
theorem PK{gl:Ctx}{R:Type}{j:Nat}{k:fQ→St→Option R}{r:R}(h:Uv jl j σ k=some r):match jmp jl j with
 |none=>k .normal σ=some r
 |some c=>cJ P gl c σ (fun e σ'=>k e σ'=some r):=by
 unfold Uv at h
 split at h
 ·rename_i hj;subst hj;exact h
 ·obtain⟨h1,c,h2,h3⟩:=Ic h
  have hj:jmp jl j=some c:=by
   cases j with
   |zero=>omega
   |succ j=>simpa[jmp] using h2
  rw[hj]
  simp only
  unfold Ut at h3
  split at h3
  ·exact cJ.ret h3
  ·exact cJ.exit h3
  ·cases h3
def Ma(y:YC)(rh:PC)(C:IC):fQ→St→Option (fU (Nat::iz C.R [])):=fun e σ=>
 match Us rh.jl e,rh.E.uX σ with
 |
  some j,some u=>if yi (rh.E.st y0 u).hp&&Nat.ble C.m (rh.E.st y0 u).hp.length then(match XQ C.R (l:=[]) (tie y.gs rh.ti 0 (rh.E.st y0 u).hp) () with
  |some e=>some (Tc (Nat::iz C.R []) (j,e))
  |none=>none) else none
 |_,_=>none
def W2(y:YC)(rh:PC)(C:IC)(ps:Array Tmp)(σ:St)(wA wB:St→(fQ→St→Option (fU (Nat::iz C.R [])))→Option (fU (Nat::iz C.R []))):prod (tU C.A (iz C.B []))→Option (fU C.T):=fun d=>
 match L8 y rh.ti C.k0 0 (aS (List.replicate C.m none) (dg (oU y0 C.B (AN C.A d)))) with
 |
  some (vcs,H0)=>ifs vcs (if Nat.beq ps.size (x8 y0 C.A d).length&&qO H0 rh.ti then(Option.bind (wA ⟨tY (ps.toList.zip (x8 y0 C.A d)) (LX rh.m σ.tm),H0,[]⟩ (fun e σ1=>match e with
  | .normal=>wB σ1 (Ma y rh C)
  |_=>none)) fun r=>match L8 y rh.ti C.m 0 (cY C.m (oU y0 C.R (rT (Nat::iz C.R []) r).2)) with
  |some (vs,H1)=>ifs vs (if qO H1 rh.ti then some (Tc C.T (Nat.beq (rT (Nat::iz C.R []) r).1 0,y,(rT (Nat::iz C.R []) r).1,(rT (Nat::iz C.R []) r).2)) else none)
  |none=>none) else none)
 |none=>none
def Uw(σ:St)(rh:PC)(C:IC)(cs:AV):Bool:=
 σ.fA rh.dI&&σ.fA rh.lI&& !Nat.beq rh.dI rh.lI&&Nat.blt C.k0 16&&Nat.blt C.k0 C.m&& !mu C.k0 rh.ti&&X0 σ.hp rh.ti rh.m&&kA (rh.m.map (·.2))&&cs.atoms&&C.R.all fun x=> !Nat.beq x.1 C.k0
def Th(σ:St)(y:YC)(rh:PC)(cr:CR){R:Type}(k:fQ→St→Option R):Option R:=
 match cr.r with
 |
  .fU .nil=>if Bi cr []&&((cr.ns.map (·.2)).all (fun b=>({σ with hp:=sI y rh.m rh.dI rh.lI σ.hp,df:=.mp rh.dI::σ.df}:St).fA b)) then(match(aS (sI y rh.m rh.dI rh.lI σ.hp) (mz (cr.al++cr.ns) cr.out (cr.ps++cr.ns)))[rh.lI]? with
  |some (some (.lp y' j))=>ifs [⟨y'=y,Classical.propDecidable _⟩] (Uv rh.jl j ⟨σ.tm,LZ ((aS (sI y rh.m rh.dI rh.lI σ.hp) (mz (cr.al++cr.ns) cr.out (cr.ps++cr.ns))).set rh.lI none),.mp rh.dI::σ.df⟩ k)
  |_=>none) else none
 |_=>none
def Ux(σ:St)(y:YC)(rh:PC)(gf:FuncId)(cs:AV)(C2:bh){R:Type}(k:fQ→St→Option R):Option R:=
 match mo (swp rh.ps) (eD (sI y rh.m rh.dI rh.lI σ.hp)) (((.func (.yield y.l) .nil .nil,Ty.unit))::cs.toList.map (fun x=>(x,Ty.unit))),jf (swp rh.ps) (eD (sI y rh.m rh.dI rh.lI σ.hp)) rh.ps with
 |
  some (L,[]),some ins=>fnK (.func gf) C2.fn (match C2.get L ins with
  |some d=>C2.f.run d (fun r=>Th σ y rh ⟨C2.res r,rh.ps,rh.ns,C2.out r,C2.m,false,[],[]⟩ k) (fun _=>none)
  |none=>none) none
 |_,_=>none
section
variable(P:Program) (G:bN) (gl:Ctx) (fr:Bool) (H:Hs) (Γ:List bh)
def forget:List Oper→List AV→List AV
 |[],tm=>tm
 |
  o::l,tm=>forget l (match o.dst with
  |some d=>tm.set d .bot
  |none=>tm)
def Uy:List (Nat×Ty)→List Type
 |[]=>[]
 |(_,t)::l=>t.den::Uy l
def mgG:(l:List (Nat×Ty))→List AV→Option (prod (Uy l))
 |[],_=>some ()
 |
  (i,t)::l,tm=>match tm[i]? with
  |
   some (.val u x)=>if h:Ty.same u t=true then(match mgG l tm with
   |some d=>some (mi h x,d)
   |none=>none) else none
  |_=>none
def mgV:(l:List (Nat×Ty))→prod (Uy l)→List (Nat×AV)
 |[],_=>[]
 |(i,t)::l,d=>(i,.val t d.1)::mgV l d.2
def X9(ops:Array Oper)(l:List (Nat×Ty))(σ:St)(t:fU (Uy l)):St:={σ with tm:=nw (mgV l (rT (Uy l) t)) (forget ops.toList σ.tm)}
def Ty.Ie:(t:Ty)→DecidableEq t.den
 | .int _=>inferInstanceAs (DecidableEq Int)
 | .bool=>inferInstanceAs (DecidableEq Bool)
 | .str=>inferInstanceAs (DecidableEq (List UInt8))
 | .arr _ t=>@instDecidableEqList _ t.Ie
 | .slice _ t=>@instDecidableEqList _ t.Ie
 | .pair a b=>@instDecidableEqProd _ _ a.Ie b.Ie
 | .unit=>inferInstanceAs (DecidableEq Unit)
 | .aT _=>inferInstanceAs (DecidableEq Unit)
 | .fns _=>inferInstanceAs (DecidableEq (List (Option Nat)))
 | .map k v=>@Option.instDecidableEq _ (@instDecidableEqList _ (@instDecidableEqProd _ _ k.Ie v.Ie))
def uZ:Path→Path→Bool
 |[],[]=>true
 | .cD a::p,.cD b::q=>Nat.beq a b&&uZ p q
 |_,_=>false
theorem wZ:∀{p q:Path},uZ p q=true→p=q
 |[],[],_=>rfl
 |
  .cD a::p,.cD b::q,h=>by
  simp only[uZ,bj] at h
  rw[bM h.1,wZ h.2]
def nf(t:Ty)(x y:t.den){R:Type}(K:Option R):Option R:=@ite _ (x=y) (t.Ie x y) K none
def Mb:AV→AV→Option (List VC)
 | .val t x,.val u y=>if h:Ty.same u t=true then some [⟨x=mi h y,t.Ie _ _⟩] else none
 | .bn,.bn=>some []
 | .own b,.own c=>if Nat.beq b c then some [] else none
 | .ptr b p,.ptr c q=>if Nat.beq b c&&uZ p q then some [] else none
 |_,_=>none
def Ig{R:Type}(ops:Array Oper)(σ:St)(fs:List aW)(j:Nat)(K:Option R):List Nat→Option R
 |[]=>K
 |
  i::l=>if xg ops i then none else match fs[i]?,eC P G gl ops X4 [] (cw (fun x=>decide (x<j+1)) 0 fs σ) i with
  |
   some f,some (g,vcs,_)=>match Mb f.v g.v with
   |some vs=>if f.hw.isEmpty&&g.hw.isEmpty&&f.fr.isEmpty&&g.fr.isEmpty&&decide (f.rt=g.rt)&&decide (f.rb=g.rb)&&decide (f.dst=g.dst) then ifs (vcs++vs) (Ig ops σ fs j K l) else none
   |none=>none
  |_,_=>none
def Mc{R:Type}(lt:Option (List Nat×Nat))(ops:Array Oper)(σ:St)(fs:List aW)(K:Option R):Option R:=
 match lt with
 |none=>K
 |some (l,j)=>Ig P G gl ops σ fs j K l
def PN{R:Type}(lt:Option (List Nat×Nat))(ops:Array Oper)(draw:Bool)(σ:St)(k:St→Option R)(fs:List aW)(σ':St):Option R:=
 if draw then(if mf lt ops fs.reverse&&iX σ fs.reverse then Mc P G gl lt ops σ fs.reverse (k σ') else none) else k σ'
def JE(fs:List aW):Bool:=fs.all fun f=>f.hw.isEmpty
def Md{R:Type}(ops:Array Oper)(draw:Bool)(σ:St)(k:fQ→St→Option R)(fs:List aW)(f:aW)(σp:St):Option R:=
 if Nat.blt (σ.hp.length -1) σ.hp.length&&f.v.plain then
  oh P G gl ops draw (σ.hp.length -1) fs.length (if draw then sD ops.toList [] else[]) (fun gs=>
   if draw then(if mf none ops (jL fs.reverse f (σ.hp.length -1) gs)&&iX σ (jL fs.reverse f (σ.hp.length -1) gs) then k (.panic f.v) (wR fs.reverse f (σ.hp.length -1) gs σ) else none)
   else k (.panic f.v) (wR fs.reverse f (σ.hp.length -1) gs σ)) (ops.size -fs.length -1) (fs.length+1) (σp.app (wQ f (σ.hp.length -1))) [] else none
def FC(ops:Array Oper)(draw:Bool)(σ:St):Option St:=
 match draw,ops with
 |
  false,⟨[o0,o1]⟩=>if lK o0.op then none else match eC P G gl ops X4 [] σ 0 with
  |
   some (f,[],_)=>match f.fr.all σ.fA,o1.op,o1.guard,o1.dst with
   |
    true,.defer {callee:=.value x,args:=⟨[]⟩,argTypes:=⟨[]⟩},none,none=>match bC gl (σ.app f).tm x with
    | .func fn .nil cs=>some {σ.app f with df:=.func fn .nil cs::(σ.app f).df}
    |_=>none
   |_,_,_,_=>none
  |_=>none
 |_,_=>none
def FD(ops:Array Oper):Option (Nat×Nat×Nat):=
 match ops with
 |
  ⟨[o0,o1]⟩=>match o0.op,o0.guard,o0.dst,o1.op,o1.guard,o1.dst with
  | .next (.tmp s) false,none,some d,.extract (.tmp d') 0,none,some d1=>if Nat.beq d' d then some (s,d,d1) else none
  |_,_,_,_,_,_=>none
 |_=>none
def Me(s d d1:Nat){R:Type}(σ:St)(k:fQ→St→Option R):Option R:=
 match σ.tm[s]? with
 |
  some (.ptr b [])=>match eD σ.hp b with
  |
   some (.kB kt vt rest _)=>if Nat.blt d σ.tm.length then(if rest.isEmpty=true then k .normal ((σ.put (some d) .bot).put (some d1) (.val .bool false))
   else ux rest fun x l=>k .normal ((({σ with hp:=σ.hp.set b (some (.kB kt vt l (some x)))}:St).put (some d) .bot).put (some d1) (.val .bool true))) else none
  |_=>none
 |_=>none
def qQ(ops:Array Oper)(draw:Bool)(zs:List (Nat×Nat×Ty))(cs:List CH)(mg:Option (List (Nat×Ty)))(lt:Option (List Nat×Nat)){R:Type}(σ:St)(k:fQ→St→Option R):Option R:=
 if PI ops then(if fr then(match FC P G gl ops draw σ with
  |some σ'=>k .normal σ'
  |none=>none) else none) else
 match if draw then none else FD ops with
 |some (s,d,d1)=>Me s d d1 σ k
 |none=>match mg with
 |none=>lG P G gl Γ ops zs (PN P G gl lt ops draw σ (k .normal)) (Md P G gl ops draw σ k) ops.size 0 cs σ []
 |some l=>Option.bind (lG P G gl Γ ops zs (fun fs σ'=>if JE fs then PN P G gl lt ops draw σ (fun σ'=>(mgG l σ'.tm).map (Tc (Uy l))) fs σ' else none) (fun _ _ _=>none) ops.size 0 cs σ []) fun d=>k .normal (X9 ops l σ d)
def Mf{R:Type}:List (Nat×Nat)→St→(St→Option R)→Option R
 |[],σ,K=>K σ
 |
  (b,s)::l,σ,K=>match σ.tm[s]?,eD σ.hp b with
  |
   some (.val (.int _) n),some (.row _ _ _ xs)=>ifs [vc (0≤n),vc (n<xs.length)] (match zC b n.toNat σ with
   |some σ'=>Mf l σ' K
   |none=>none)
  |
   some (.ptr c [.idx i]),some (.row _ _ _ _)=>if Nat.beq c b then(match zC b i σ with
   |some σ'=>Mf l {σ' with tm:=σ'.tm.set s (.ptr b [.cD 1])} K
   |none=>none) else none
  |_,_=>none
def Ko{R:Type}:List PF→St→(St→Option R)→Option R
 |[],σ,K=>K σ
 |
  .row b d k::l,σ,K=>match k.get σ,eD σ.hp b with
  |
   some (.val (.int _) n),some (.cT _ _ _ xs _ _)=>ifs [vc (0≤n),vc (n<xs.length)] (match MQ b n.toNat d σ with
   |some σ'=>Ko l σ' K
   |none=>none)
  |_,_=>none
 |
  .map mode b d k::l,σ,K=>match k.get σ with
  |
   some (.val t x)=>match MU mode b d t x σ with
   |some (vcs,σ')=>ifs vcs (Ko l σ' K)
   |none=>none
  |_=>none
 |
  .eQ b::l,σ,K=>match pM b σ with
  |some σ'=>Ko l σ' K
  |none=>none
 |
  .X3 b k::l,σ,K=>match k.get σ with
  |
   some (.val t x)=>match MW b t x σ with
   |some σ'=>Ko l σ' K
   |none=>none
  |_=>none
 |
  .W1 b::l,σ,K=>match eD σ.hp b with
  |some (.gq e bs t xs)=>ue xs fun ys=>Ko l {σ with hp:=σ.hp.set b (some (.row e bs t ys))} K
  |_=>none
def Ti{R:Type}(l:List Gh)(k:fQ→St→Option R):fQ→St→Option R
 |
  .normal,σ=>match W3 l σ with
  |some σ'=>k .normal σ'
  |none=>none
 |e,σ=>k e σ
def dig:Nat→Nat→List Nat
 |0,_=>[]
 |
  n+1,c=>match c with
  |0=>[]
  |c=>(c % 1000 -1)::dig n (c / 1000)
def ltOf(H:Hs)(id:Nat):Option (List Nat×Nat):=match X8 H.unr (1000000+id) with
 |some c=>some (dig 9 (c / 1000),c % 1000 -1)
 |none=>none
def AU(id:Nat)(ops:Array Oper)(draw:Bool){R:Type}(σ:St)(k:fQ→St→Option R):Option R:=
 match X8 H.reg id with
 |none=>qQ P G gl fr Γ ops draw [] [] none (ltOf H id) σ k
 |
  some rh=>match W3 rh.pre σ with
  |some σ0=>Mf rh.foc σ0 fun σ0=>Ko rh.pf σ0 fun σ0=>qQ P G gl fr Γ ops draw rh.zs rh.cs rh.mg (ltOf H id) σ0 (Ti rh.post k)
  |none=>none
def toJ{R:Type}(S:SS)(k:fQ→St→Option R):fQ→St→Option (cL S.T R)
 | .normal,σ=>(S.uX σ).map .brk
 |e,σ=>bU (k e σ)
def toB{R:Type}(id:Nat)(S:SS)(k:fQ→St→Option R):fQ→St→Option (cL S.T R)
 | .normal,σ=>(S.uX σ).map .brk
 | .exit i,σ=>if Nat.beq i id then(S.uX σ).map .brk else bU (k (.exit i) σ)
 |e,σ=>bU (k e σ)
def unB{R:Type}(id:Nat)(k:fQ→St→Option R):fQ→St→Option R
 | .exit i,σ=>if Nat.beq i id then k .normal σ else k (.exit i) σ
 |e,σ=>k e σ
def Ih{R:Type}(w:St→(fQ→St→Option R)→Option R)(k:fQ→St→Option R):Nat→St→Option R
 |0,_=>none
 |
  n+1,σ=>w σ fun e σ'=>match e with
  | .normal=>Ih w k n σ'
  |e=>k e σ'
end
section
variable(P:Program) (G:bN) (I:List IC) (H:Hs) (Γ:List bh)
def walk:Code→Ctx→Bool→{R:Type}→St→(fQ→St→Option R)→Option R
 | .skip,_,_,_,σ,k=>k .normal σ
 | .label _,_,_,_,σ,k=>k .normal σ
 | .scope c,gl,fr,_,σ,k=>walk c gl fr σ k
 | .exit i,_,_,_,σ,k=>k (.exit i) σ
 | .ret,_,_,_,σ,k=>k .ret σ
 | .region id ops draw,gl,fr,_,σ,k=>AU P G gl fr H Γ id ops draw σ k
 |
  .seq x z,gl,fr,_,σ,k=>match PH H.join z with
  |
   none=>walk x gl fr σ fun e σ'=>match e with
   | .normal=>walk z gl fr σ' k
   |e=>k e σ'
  |some S=>aI (walk x gl fr σ (toJ S k)) fun d=>walk z gl fr (S.st y0 d) k
 |
  .cond c x z,gl,fr,_,σ,k=>match bC gl σ.tm c with
  | .val .bool b=>if b=true then walk x gl fr σ k else walk z gl fr σ k
  |_=>none
 |
  .block id c,gl,fr,_,σ,k=>match X8 H.cQ id with
  |none=>walk c gl fr σ (unB id k)
  |some S=>aI (walk c gl fr σ (toB id S k)) fun d=>k .normal (S.st y0 d)
 |
  .loop c,gl,fr,_,σ,k=>match PH H.unr c with
  |some n=>Ih (fun σ k=>walk c gl fr σ k) k n σ
  |
   none=>match PH H.loop c with
   |none=>none
   |
    some L=>match L.S.uX σ with
    |none=>none
    |
     some u=>aL (fun rec u=>walk c gl fr (L.S.st y0 u) fun e σ'=>match e with
     | .normal=>Option.bind (L.S.uX σ') rec
     |e=>k e σ') (L.fuel u) u
 |
  .rangeFunc g ps assign body,gl,fr,_,σ,k=>if fr then(match PH H.Cq body with
  |none=>none
  |
   some rh=>match I[rh.ic]?,rh.S.uX σ with
   |
    some C,some u=>match bC gl (rh.S.st y0 u).tm g with
    |
     .func (.func gf) .nil cs=>if Uw (rh.S.st y0 u) rh C cs then
      yh fun y=>Ux (rh.S.st y0 u) y rh gf cs (C.W0 y.l (W2 y rh C ps (rh.S.st y0 u) (fun σ1 k1=>walk assign (gl.uy y.l) false σ1 k1) (fun σ1 k1=>walk body (gl.uy y.l) false σ1 k1))) k
     else none
    |_=>none
   |_,_=>none) else none
 |_,_,_,_,_,_=>none
end
theorem w6:∀{l:List Oper}{tm:List AV},(forget l tm).length=tm.length
 |[],_=>rfl
 |
  o::l,tm=>by
  unfold forget
  rw[w6]
  split<;>simp
theorem w7{i:Nat}{x:AV}:∀{l:List Oper}{tm:List AV},(forget l tm)[i]? =some x→x= .bot∨(tm[i]? =some x∧∀o∈l,o.dst≠some i)
 |[],_,h=>Or.inr ⟨h,fun _ ho=>by cases ho⟩
 |
  o::l,tm,h=>by
  unfold forget at h
  rcases w7 h with h|⟨h,hl⟩<;>grind
theorem Mg:∀{l:List (Nat×Ty)}{tm:List AV}{d:prod (Uy l)},mgG l tm=some d→∀i x,(i,x)∈mgV l d→tm[i]? =some x
 |[],_,_,_,i,x,hx=>by cases hx
 |
  (j,t)::l,tm,d,h,i,x,hx=>by
  unfold mgG at h
  split at h
  ·rename_i u z hz
   split at h
   ·rename_i hs
    split at h
    ·rename_i d' hd'
     cases h
     simp only[mgV,fg,iv] at hx
     rcases hx with⟨rfl,rfl⟩|hx
     ·rw[hz,ze hs]
     ·exact Mg hd' i x hx
    grind
   grind
  grind
theorem DI{gl:Ctx}:∀{fs:List aW}{i:Nat}{σ σ':St},qB P gl ops i fs σ σ'→JE fs=true→(∀(k:Nat)(f:aW)(o:Oper),fs[k]? =some f→ops[i+k]? =some o→f.dst=o.dst)→i+fs.length≤ops.size→
 σ'.hp=σ.hp∧σ'.df=σ.df∧σ'.tm.length=σ.tm.length∧∀t,(∀o∈ops.toList,o.dst≠some t)→σ'.tm[t]? =σ.tm[t]?
 |[],i,σ,σ',h,_,_,_=>by simp_all[bW]
 |
  f::fs,i,σ,σ',⟨_,_,h3⟩,hn,hd,hl=>by
  simp only[JE,List.all_cons,bj,List.isEmpty_iff] at hn
  obtain⟨a,b,c,d⟩:=DI h3 (by simpa[JE] using hn.2) (fun k f' o h1 h2=>hd (k+1) f' o (by grind) (by grind)) (by grind)
  refine⟨by rw[a,ig,hn.1];rfl,by rw[b,wC],by rw[c,sB],?_⟩
  intro t ht
  rw[d t ht]
  have hlt:i<ops.size:=by grind
  have:=hd 0 f ops[i] rfl (by grind)
  grind [ij]
variable{α:Type}{β:Type}
theorem map_some{x:Option α}{f:α→β}{r:β}(h:x.map f=some r):∃a,x=some a∧f a=r:=by
 simp_all
theorem cJ.Ya{gl:Ctx}{c:Code}{Q:fQ→St→Prop}(h:cJ P gl c σ (fun e σ'=>match e with| .panic v=>Q (.panic v) σ'|e=>∃σ2,Wk gl σ' σ2∧Q e σ2)):cJ P gl c σ Q:=by
 intro E a w hg
 refine wpIn_mono (h E a w hg) ?_
 rintro ex a' w' ⟨x,σ',E',h1,h2,h3,h4⟩
 cases x with
 |panic v=>exact⟨_,σ',E',h1,h2,h3,h4⟩
 |
  normal=>
  obtain⟨σ2,hw,hq⟩:=h2
  obtain⟨E2,g2,x2⟩:=hw E' a' w' h3
  cases ex<;>first|exact h1.elim|exact⟨.normal,σ2,E2,trivial,hq,g2,h4.trans x2⟩
 |
  exit i=>
  obtain⟨σ2,hw,hq⟩:=h2
  obtain⟨E2,g2,x2⟩:=hw E' a' w' h3
  cases ex<;>first|trivial|exact⟨.exit i,σ2,E2,h1,hq,g2,h4.trans x2⟩
 |
  ret=>
  obtain⟨σ2,hw,hq⟩:=h2
  obtain⟨E2,g2,x2⟩:=hw E' a' w' h3
  cases ex<;>first|trivial|exact⟨.ret,σ2,E2,trivial,hq,g2,h4.trans x2⟩
section
variable{P:Program} {G:bN} (T:bA P G) {gl:Ctx} {fr:Bool} {H:Hs} {Γ:List bh} (hΓ:∀C∈Γ,C.holds P gl)
include T hΓ
omit hΓ T in
theorem w8{l:List VC}:∀{vs:List VC},dD (vs++l)→dD vs∧dD l
 |[],h=>⟨trivial,h⟩
 |_::_,h=>⟨⟨h.1,(w8 h.2).1⟩,(w8 h.2).2⟩
omit hΓ T in
theorem Mh{a b:AV}{l:List VC}(h:Mb a b=some l)(hv:dD l):a=b:=by
 unfold Mb at h
 split at h
 ·split at h
  ·rename_i hs
   cases h
   have:=Ty.aB hs
   subst this
   have e:=hv.1
   simp only[mi] at e
   rw[e]
  ·cases h
 ·rfl
 ·split at h
  ·rename_i hb;rw[bM hb]
  ·cases h
 ·split at h
  ·rename_i hb
   simp only[bj] at hb
   rw[bM hb.1,wZ hb.2]
  ·cases h
 ·cases h
omit hΓ in
theorem DJ{ops:Array Oper}{R:Type}{σ:St}{fs:List aW}{j:Nat}{K:Option R}{r:R}:∀{l:List Nat},Ig P G gl ops σ fs j K l=some r→(∀i f,i∈l→fs[i]? =some f→px P gl ops i f (cw (fun x=>decide (x<j+1)) 0 fs σ))∧K=some r
 |[],h=>⟨fun i f hi=>(by cases hi),h⟩
 |
  i::l,h=>by
  unfold Ig at h
  split at h
  ·cases h
  rename_i hno
  split at h
  ·rename_i f g vcs ob hf hs
   split at h
   ·rename_i l hl
    obtain⟨hc,h⟩:=bK h
    obtain⟨hv,h⟩:=fj h
    obtain⟨ih,hk⟩:=DJ h
    simp only[bj,List.isEmpty_iff,j5] at hc
    obtain⟨⟨⟨⟨⟨⟨c1,c2⟩,c3⟩,c4⟩,c5⟩,c6⟩,c7⟩:=hc
    have hv1:=w8 hv
    have ev:=Mh hl hv1.2
    have e:f=g:=by
     cases f;cases g;simp_all
    refine⟨fun i' f' e1 e2=>?_,hk⟩
    rcases List.mem_cons.1 e1 with rfl|e1
    ·rw[hf] at e2
     cases e2
     rw[e]
     exact k8 T rfl hs hv1.1 (kW hs fun h=>absurd h hno)
    ·exact ih i' f' e1 e2
   ·cases h
  ·cases h
omit hΓ in
theorem Mi{lt:Option (List Nat×Nat)}{ops:Array Oper}{R:Type}{σ:St}{fs:List aW}{K:Option R}{r:R}(h:Mc P G gl lt ops σ fs K=some r):(∀l i j f,lt=some (l,j)→i∈l→fs[i]? =some f→px P gl ops i f (cw (fun x=>decide (x<j+1)) 0 fs σ))∧K=some r:=by
 unfold Mc at h
 split at h
 ·exact⟨fun l i j f e=>(by cases e),h⟩
 ·rename_i l j
  obtain⟨h1,h2⟩:=DJ T h
  refine⟨fun l' i j' f e hi hf=>?_,h2⟩
  cases e
  exact h1 i f hi hf
omit hΓ in
theorem Ii{lt:Option (List Nat×Nat)}{ops:Array Oper}{draw:Bool}{R:Type}{σ σ':St}{k:St→Option R}{fs:List aW}{r:R}(h:PN P G gl lt ops draw σ k fs σ'=some r):(draw=true→(mf lt ops fs.reverse&&iX σ fs.reverse)=true∧∀l i j f,lt=some (l,j)→i∈l→fs.reverse[i]? =some f→px P gl ops i f (cw (fun x=>decide (x<j+1)) 0 fs.reverse σ))∧k σ'=some r:=by
 unfold PN at h
 cases draw with
 |false=>exact⟨fun e=>(wc e).elim,h⟩
 |
  true=>
  rw[aA rfl] at h
  obtain⟨h1,h2⟩:=bK h
  obtain⟨h3,h4⟩:=Mi T h2
  exact⟨fun _=>⟨h1,h3⟩,h4⟩
omit hΓ in
theorem JF{id:Nat}{ops:Array Oper}{draw:Bool}{σ σ':St}{Q:fQ→St→Prop}(hro:gl.ro=none)(h:FC P G gl ops draw σ=some σ')(hq:Q .normal σ'):cJ P gl (.region id ops draw) σ Q:=by
 unfold FC at h
 split at h
 ·rename_i o0 o1
  split at h
  ·cases h
  rename_i hcl
  split at h
  ·rename_i f ob h0
   split at h
   ·rename_i x hfr ho hg hd
    split at h
    ·rename_i fn cs hv
     cases h
     intro E a w hgm
     refine wpIn_region ?_
     show wpOpsIn _ _ _ _ _ [0,1] _ _
     rw[wpOpsIn_cons]
     have hob:∀p∈ob,p:=kW h0 (fun e=>absurd e (by trivial))
     refine k8 T rfl h0 trivial hob σ (iW.refl _ _ _) (fun d hd=>St.dR ((List.all_eq_true.1 hfr) d hd)) E a w hgm _ _ ?_
     intro E1 a1 w1 hg1 hx1
     rw[wpOpsIn_cons]
     have e1:(#[o0,o1]:Array Oper)[1]? =some o1:=rfl
     unfold wpOpIn
     simp only[e1]
     have hw:Region.wanted o1 (yielded #[o0,o1] a1.tmps)=true:=by simp[Region.wanted,hg]
     rw[aA hw]
     have hv1:=gr hg1 x
     rw[hv] at hv1
     obtain⟨f',c',ev,r1,r2,r3,r4⟩:∃f' c',a1.eval x= .func fn f' c'∧RC E1 w1 .nil f'.toList∧RC E1 w1 cs c'.toList∧AV.nil.atoms=true∧cs.atoms=true:=by
      rcases RV.jq rfl hv1 with⟨hh,_⟩|⟨_,hh⟩
      ·cases hh
      ·obtain⟨f',c',e,q⟩:=hh
       grind
     have hf':f'= #[]:=by apply mb;trivial
     subst hf'
     refine⟨fun _ _=>trivial,?_⟩
     have hs:(o1.semAt (Wd gl).round a1.eval).run P w1= .ok (.defer {target:=.fn fn c',args:= #[]}) w1:=by
      simp_all[Oper.semAt_none,execOp,resolve,Deferred.ofValue]
     rw[hs,Oper.uponIn_defer,hd]
     have hg2:bQ gl {σ.app f with df:=.func fn .nil cs::(σ.app f).df} E1 {a1 with defers:={target:=.fn fn c',args:= #[]}::a1.defers} w1:=
      ⟨hg1.len,hg1.tm,hg1.hw,⟨⟨#[],c',rfl,r1,r2,r3,r4⟩,hg1.df⟩⟩
     exact⟨.normal,_,E1,trivial,hq,hg2,hx1⟩
    grind
   grind
  grind
 grind
omit T hΓ in
theorem Mj{id:Nat}{ops:Array Oper}{s d d1:Nat}(hn:FD ops=some (s,d,d1)){R:Type}{σ:St}{k:fQ→St→Option R}{r:R}(h:Me s d d1 σ k=some r):cJ P gl (.region id ops false) σ (fun e σ'=>k e σ'=some r):=by
 unfold FD at hn
 split at hn
 ·rename_i o0 o1
  split at hn
  ·rename_i s' d' d'' d1' h0 hg0 hd0 h1 hg1 hd1
   obtain⟨hd,hn⟩:=bK hn
   cases hn
   have hd:=bM hd
   subst hd
   unfold Me at h
   split at h
   ·rename_i b hs
    split at h
    ·rename_i kt vt rest cur hb
     obtain⟨hl,h⟩:=bK h
     refine cJ.next h0 hg0 hd0 h1 hg1 hd1 hs (bR _ b _ hb) hl ?_ ?_
     ·grind
     ·intro i hi
      rw[aC (by grind)] at h
      exact Jz h i hi
    grind
   grind
  grind
 grind
variable(hro:fr=true→gl.ro=none)
include hro
theorem tZ{id:Nat}{ops:Array Oper}{draw:Bool}{zs:List (Nat×Nat×Ty)}{cs:List CH}{mg:Option (List (Nat×Ty))}{lt:Option (List Nat×Nat)}{R:Type}{σ:St}{k:fQ→St→Option R}{r:R}(h:qQ P G gl fr Γ ops draw zs cs mg lt σ k=some r):cJ P gl (.region id ops draw) σ (fun e σ'=>k e σ'=some r):=by
 have key:∀{gs:List aW}{σ':St}{Q:fQ→St→Prop},qB P gl ops 0 gs σ σ'→gs.length=ops.size→(draw=true→(mf lt ops gs&&iX σ gs)=true∧∀l i j f,lt=some (l,j)→i∈l→gs[i]? =some f→px P gl ops i f (cw (fun x=>decide (x<j+1)) 0 gs σ))→Q .normal σ'→cJ P gl (.region id ops draw) σ Q:=by
  intro gs σ' Q hc hn fT hq
  cases draw with
  |false=>exact fun E _ _ hg=>Fb hn hc hg (fun E' _ _ h1 h2=>⟨.normal,σ',E',trivial,hq,h1,h2⟩)
  |
   true=>
   obtain⟨fT,hL⟩:=fT rfl
   simp only[bj] at fT
   exact fun E _ _ hg=>Ff T fT.1 fT.2 hL hc hg (fun E' _ _ h1 h2=>⟨.normal,σ',E',trivial,hq,h1,h2⟩)
 unfold qQ at h
 split at h
 ·obtain⟨hf,h⟩:=bK h
  grind [JF]
 split at h
 ·rename_i s d d1 hn
  cases draw with
  |true=>grind
  |false=>rw[aC wc] at hn;exact Mj hn h
 split at h
 ·rcases pD T hΓ h with⟨gs,σ',hc,hn,_,hk⟩|⟨gs,f,σ',hc,hn,hp,hk⟩
  ·simp only[fL] at hk
   obtain⟨h1,h2⟩:=Ii T hk
   simp only[List.reverse_reverse] at h1
   exact key hc hn h1 h2
  ·simp only[fL] at hk
   unfold Md at hk
   simp only[List.reverse_reverse,List.length_reverse] at hk
   obtain⟨h1,h2⟩:=bK hk
   simp only[bj] at h1
   rw[eN] at hp
   have hz:σ.hp.length -1<σ.hp.length:=by simp_all
   obtain⟨ms,σe,k1,k2,k3,k4⟩:=pE T h2
   simp only[List.reverse_nil,List.nil_append] at k4
   have hze:(σ'.app (wQ f (σ.hp.length -1))).hp[σ.hp.length -1]? =some (some Fs):=by
    rw[ig]
    simp only[wQ,aS,dv,cj]
    rw[aA (by rw[bW.hl hc];exact hz)]
   have k1:=k1 hze
   cases draw with
   |false=>exact wS T hc hp k1 k3 hz (by omega) (fun e=>(wc e).elim) h1.2 k4
   |
    true=>
    rw[aA rfl] at k4
    obtain⟨q3,q4⟩:=bK k4
    grind [wS]
 ·rename_i l
  obtain⟨d,hd,h⟩:=bind_some h
  rcases pD T hΓ hd with⟨gs,σ',hc,hn,hdst,hk⟩|⟨_,_,_,_,_,_,hk⟩
  case inr=>cases hk
  simp only[fL] at hk
  obtain⟨hw,hk⟩:=bK hk
  obtain⟨h1,h2⟩:=Ii T hk
  simp only[List.reverse_reverse] at h1
  have hw':JE gs=true:=by simpa[JE] using hw
  obtain⟨e1,e2,e3,e4⟩:=DI hc hw' hdst (by omega)
  obtain⟨t,ht,rfl⟩:=map_some h2
  refine cJ.Ya (key hc hn h1 ⟨_,?_,h⟩)
  grind [Wk.sub,X9,pC,w6,qN,lD,Mg,w7]
omit T hΓ hro in
theorem AW{R:Type}{r:R}{K:St→Option R}:∀{l:List (Nat×Nat)}{σ:St},Mf l σ K=some r→∃σ',Wk gl σ σ'∧K σ'=some r
 |[],σ,h=>⟨σ,Wk.refl gl σ,h⟩
 |
  (b,s)::l,σ,h=>by
  unfold Mf at h
  split at h
  ·rename_i k n e bs t xs hs hb
   obtain⟨hv,h⟩:=fj h
   split at h
   ·rename_i σ1 h1
    obtain⟨σ',h2,h3⟩:=AW h
    refine⟨σ',Wk.trans (Wk.adw h1 ?_) h2,h3⟩
    intro e' bs' t' xs' hb'
    rw[hb] at hb'
    cases hb'
    exact(Int.toNat_lt hv.1).2 hv.2.1
   ·cases h
  ·rename_i c i e bs t xs hs hb
   obtain⟨hc,h⟩:=bK h
   have hc:=bM hc
   subst hc
   split at h
   ·rename_i σ1 h1
    obtain⟨σ',h2,h3⟩:=AW h
    exact⟨σ',Wk.trans (Wk.adx hs h1) h2,h3⟩
   ·cases h
  ·cases h
omit T hΓ hro in
theorem cJ.W1{c:Code}{σ:St}{Q:fQ→St→Prop}{b:Nat}{e:TypeId}{bs:Nat}{t:Ty}{xs:List t.den}(hb:σ.hp[b]? =some (some (.gq e bs t xs)))
 (h:∀ys:List t.den,ys.Perm xs→cJ P gl c {σ with hp:=σ.hp.set b (some (.row e bs t ys))} Q):cJ P gl c σ Q:=by
 intro E a w hg
 obtain⟨ys,hp,g1⟩:=hg.Yj hb
 have x1:Ext gl.md (bx σ.hp E) E w (bx (σ.hp.set b (some (.row e bs t ys))) E) E w:=by rw[bx.same hb];exact Ext.refl _ _ _
 refine wpIn_mono (h ys hp E a w g1) ?_
 rintro ex a2 w2 ⟨x,σ2,E2,h1,h2,h3,h4⟩
 exact⟨x,σ2,E2,h1,h2,h3,x1.trans h4⟩
omit T hΓ hro in
theorem sL{R:Type}{r:R}{K:St→Option R}{c:Code}{Q:fQ→St→Prop}(hK:∀σ',K σ'=some r→cJ P gl c σ' Q):∀{l:List PF}{σ:St},Ko l σ K=some r→cJ P gl c σ Q
 |[],σ,h=>hK σ h
 |
  .row b d k::l,σ,h=>by
  unfold Ko at h
  split at h
  ·rename_i kk n e bs t xs e2 f hs hb
   obtain⟨hv,h⟩:=fj h
   split at h
   ·rename_i σ1 h1
    refine cJ.wk (Wk.MQ h1 ?_) (sL hK h)
    intro e' bs' t' xs' e2' f' hb'
    rw[hb] at hb'
    cases hb'
    exact(Int.toNat_lt hv.1).2 hv.2.1
   grind
  grind
 |
  .map mode b d k::l,σ,h=>by
  unfold Ko at h
  split at h
  ·rename_i t x hs
   split at h
   ·rename_i vcs σ1 h1
    obtain⟨hv,h⟩:=fj h
    exact cJ.wk (Wk.MU h1 hv) (sL hK h)
   grind
  grind
 |
  .eQ b::l,σ,h=>by
  unfold Ko at h
  split at h
  ·rename_i σ1 h1
   exact cJ.wk (Wk.pM h1) (sL hK h)
  grind
 |
  .X3 b k::l,σ,h=>by
  unfold Ko at h
  split at h
  ·rename_i t x hs
   split at h
   ·rename_i σ1 h1
    exact cJ.wk (Wk.MW h1) (sL hK h)
   grind
  grind
 |
  .W1 b::l,σ,h=>by
  unfold Ko at h
  split at h
  ·rename_i e bs t xs hk
   exact cJ.W1 (bR σ.hp b _ hk) (fun ys hp=>sL hK (F7 h hp))
  grind
theorem FE{id:Nat}{ops:Array Oper}{draw:Bool}{R:Type}{σ:St}{k:fQ→St→Option R}{r:R}(h:AU P G gl fr H Γ id ops draw σ k=some r):cJ P gl (.region id ops draw) σ (fun e σ'=>k e σ'=some r):=by
 unfold AU at h
 split at h
 ·exact tZ T hΓ hro h
 ·split at h
  ·rename_i σ0 h0
   obtain⟨σ1,h1,h2⟩:=AW (gl:=gl) h
   refine cJ.post (cJ.gh _ h0 (cJ.wk h1 (sL (fun σ2 h4=>tZ T hΓ hro h4) h2))) ?_ ?_
   ·intro e σ' hne he
    cases e with
    |normal=>grind
    |_=>exact he
   grind [Ti,F8]
  grind
omit hΓ T hro in
theorem Mk{c:Code}{R:Type}{w:St→(fQ→St→Option R)→Option R}(ih:∀{σ:St}{k:fQ→St→Option R}{r:R},w σ k=some r→cJ P gl c σ (fun e σ'=>k e σ'=some r)){k:fQ→St→Option R}{r:R}{n:Nat}{σ:St}
 (h:Ih w k n σ=some r):cJ P gl (.loop c) σ (fun e σ'=>k e σ'=some r):=by
 refine cJ.loop (fun n σ=>Ih w k n σ=some r) ?_ h
 intro n σ1 hn
 cases n with
 |zero=>cases hn
 |
  succ n=>
  refine cJ.mono (ih hn) ?_
  intro e σ2 he
  cases e with
  |normal=>exact⟨n,Nat.lt_succ_self n,he⟩
  |_=>exact he
omit hΓ T hro in
theorem Ml{c:Code}{R U:Type}{r:R}{k:fQ→St→Option R}{F:(U→Option R)→U→Option R}{st:U→St}{uX:St→Option U}(hm:∀σ u,uX σ=some u→Wk gl σ (st u))
 (ih:∀{rec:U→Option R}{u:U},F rec u=some r→cJ P gl c (st u) (fun e σ'=>(match e with| .normal=>Option.bind (uX σ') rec|e=>k e σ')=some r)) {n:Nat} {σ:St} {u:U} (hu:uX σ=some u)
 (h:aL F n u=some r):cJ P gl (.loop c) σ (fun e σ'=>k e σ'=some r):=by
 refine cJ.loop (fun n σ=>∃u,Wk gl σ (st u)∧aL F n u=some r) ?_ ⟨u,hm σ u hu,h⟩
 rintro n σ1 ⟨u1,hw,hn⟩
 cases n with
 |zero=>cases hn
 |
  succ n=>
  refine cJ.wk hw (cJ.mono (ih hn) ?_)
  intro e σ2 he
  cases e with
  |
   normal=>
   obtain⟨u2,h1,h2⟩:=bind_some he
   exact⟨n,Nat.lt_succ_self n,u2,hm σ2 u2 h1,h2⟩
  |_=>exact he
end
variable{C':Ctx}{H':List (Option aO)}
theorem Fy.up{C:Ctx}{l:Nat}{A:List AV}{H:List (Option aO)}{r:yf}(hg:C'.gl=C.gl)(hC:∀S w,C.B S w)(h:Fy P C l A H r H')(hm:C'.md=C.md):Fy P C' l A H r H':=by
 intro E w vs hv hw
 obtain⟨fn,tm,asz,bd,h1,h2⟩:=h E w vs hv (hw.ctx hg.symm (hC _ _))
 refine⟨fn,tm,asz,bd,h1,RoundIn.mono h2 ?_⟩
 rintro e w' ⟨E',r1,r2,r3⟩
 rw[←hm] at r3
 exact⟨E',r1,r2.ctx hg (hw.gJ (hw.kept r3)).2,r3⟩
theorem LB.up{C:Ctx}{fn:Fn}{A:List AV}{H:List (Option aO)}{r:yf}(hg:C'.gl=C.gl)(hC:∀S w,C.B S w)(h:LB P C fn A H r H')(hm:C'.md=C.md):LB P C' fn A H r H':=by
 cases fn with
 |func f=>exact Fc.up hg hC h hm
 |yield l=>exact Fy.up hg hC h hm
 |_=>trivial
theorem bh.holds.up{gl gl':Ctx}{C:bh}(h:C.holds P gl)(hg:gl'.gl=gl.gl)(hB:∀S w,gl.B S w)(hm:gl'.md=gl.md:=by rfl):C.holds P gl':=
 ⟨fun d r hd=>LB.up hg hB (h.ret d r hd) hm,fun d x hd=>LB.up hg hB (h.kC d x hd) hm⟩
theorem Fy.less{C:Ctx}{l:Nat}{A:List AV}{H H1 H2:List (Option aO)}{r:yf}(h:Fy P C l A H r H1)(hs:∀(b:Nat)(k:aO),H2[b]? =some (some k)→H1[b]? =some (some k)):Fy P C l A H r H2:=by
 intro E w vs hv hw
 obtain⟨fn,tm,asz,bd,h1,h2⟩:=h E w vs hv hw
 refine⟨fn,tm,asz,bd,h1,RoundIn.mono h2 ?_⟩
 rintro e w' ⟨E',r1,r2,r3⟩
 exact⟨E',r1,r2.less hs,{r3 with own:=fun g ⟨b,k,hb,hg⟩=>r3.own g ⟨b,k,hs b k hb,hg⟩}⟩
theorem zo:∀{l H:List (Option aO)},H.length≤l.length→(∀(b:Nat)(k:aO),H[b]? =some (some k)→l[b]? =some (some k))→∃m,prune l m=H
 |l,[],_,_=>⟨[],by cases l<;>rfl⟩
 |[],x::H,h,_=>by simp at h
 |
  y::l,x::H,h,hs=>by
  obtain⟨m,hm⟩:=zo (l:=l) (H:=H) (by simpa using h) (fun b k hb=>by simpa using hs (b+1) k (by simpa using hb))
  cases x with
  |none=>exact⟨false::m,by simp[prune,hm]⟩
  |
   some k=>
   have:y=some k:=by simpa using hs 0 k rfl
   exact⟨true::m,by simp[prune,hm,this]⟩
theorem w9{gs:Nat→Nat}{ti:List (Nat×Ty)}:∀{l:List (Option aO)}{s i:Nat},(tie gs ti s l)[i]? =some none→l[i]? =some none
 |[],s,i,h=>by trivial
 |none::l,s,0,h=>rfl
 |some x::l,s,0,h=>by simp[tie] at h
 |none::l,s,i+1,h=>by simpa using w9 (l:=l) (by simpa[tie] using h)
 |some x::l,s,i+1,h=>by simpa using w9 (l:=l) (by simpa[tie] using h)
variable{gs:Nat→Nat}
theorem Mm{i:Nat}{k k':aO}(h1:FB (some k)=false)(h2:FB (some k')=false)(h:nc gs ti i k=nc gs ti i k'):k=k':=by
 cases k with
 |
  var t v=>
  cases k' with
  |
   var t' v'=>
   grind [nc]
  |tv=>trivial
  |_=>grind [nc]
 |tv=>trivial
 |
  _=>
  cases k' with
  |var t' v'=>grind [nc]
  |tv=>trivial
  |_=>exact h
theorem Ij{y:YC}:∀{m:List (Nat×de)}{l:List Type}{d:prod (iz m l)}{b:Nat}{k:aO},(b,k)∈oU y m d→∃s,(b,s)∈m
 |[],_,_,_,_,h=>by cases h
 |
  (i,s)::m,_,d,b,k,h=>by
  simp only[oU,fg,iv] at h
  rcases h with⟨rfl,_⟩|h
  ·grind
  ·obtain⟨s',hs⟩:=Ij h
   exact⟨s',dj _ hs⟩
variable{out:List (Nat×aO)}
theorem fk{m:Nat}{b:Nat}{k:aO}(h:(cY m out)[b]? =some (some k)):(b,k)∈out:=by
 unfold cY at h
 rcases fu h with h|⟨_,h⟩<;>grind
theorem DK{m:Nat}:(cY m out).length=m:=by unfold cY;rw[kQ,tG]
theorem xa{i:Nat}:∀{out:List (Nat×aO)},i∈wrote (out.map fun x=>(x.1,some x.2))→∃k,(i,k)∈out
 |[],h=>by cases h
 |
  (j,k)::out,h=>by
  simp only[dA,wrote,fg] at h
  rcases h with rfl|h
  ·grind
  ·obtain⟨k',hk⟩:=xa h
   exact⟨k',dj _ hk⟩
theorem JG{m i b:Nat}{x:aO}(hi:∀k,(i,k)∉out)(hm:i<m):(cY m ((i,x)::out))[b]? =if b=i then some (some x) else(cY m out)[b]? :=by
 have hw:i∉wrote (out.map fun x=>(x.1,some x.2)):=by
  grind [xa]
 unfold cY
 simp only[dA,aS]
 split
 ·rename_i e
  subst e
  rw[eA hw,dv,aA rfl,aA (by simpa using hm)]
 ·rename_i e
  exact iF (by simp) (by rw[dv,aC (fun e'=>e e'.symm)])
variable{rh:PC}
theorem Mn{gl:Ctx}{y:YC}{C:IC}{e:fQ}{r:fU (Nat::iz C.R [])}(h:Ma y rh C e σ=some r):∃σE,Us rh.jl e=some (rT (Nat::iz C.R []) r).1∧Wk gl σ σE∧yi σE.hp=true∧C.m≤σE.hp.length∧
 ∀i x,(i,x)∈oU y0 C.R (rT (Nat::iz C.R []) r).2→(tie y.gs rh.ti 0 σE.hp)[i]? =some (some x):=by
 unfold Ma at h
 split at h
 ·rename_i j u hj hu
  obtain⟨hc,h⟩:=bK h
  simp only[bj] at hc
  split at h
  ·rename_i d hd
   cases h
   rw[qN]
   exact⟨_,hj,SS.iI hu,hc.1,iU hc.2,(Fm y0 hd).1⟩
  grind
 grind
variable{assign:Code}{body:Code}
theorem Uz{gl Cx:Ctx}{y:YC}{C:IC}{ps:Array Tmp}{wA wB:St→(fQ→St→Option (fU (Nat::iz C.R [])))→Option (fU (Nat::iz C.R []))}
 (hA:∀σ1 k1 r1,wA σ1 k1=some r1→cJ P (gl.uy y.l) assign σ1 (fun e σ'=>k1 e σ'=some r1)) (hB:∀σ1 k1 r1,wB σ1 k1=some r1→cJ P (gl.uy y.l) body σ1 (fun e σ'=>k1 e σ'=some r1))
 (hk:C.k0<C.m) (hR:(C.R.all fun x=> !Nat.beq x.1 C.k0)=true) (hof:Fx P gl σ.tm ps assign body C.k0 rh.ti rh.m rh.jl Cx y):(C.Y y.l (W2 y rh C ps σ wA wB)).holds P Cx:=by
 refine⟨?_,fun _ _ h=>h.elim⟩
 intro d r hd
 have hd':W2 y rh C ps σ wA wB d=some r:=hd
 unfold W2 at hd'
 split at hd'
 case h_2=>cases hd'
 rename_i vcs H0 htok
 obtain⟨hv,hd'⟩:=fj hd'
 obtain⟨hc,hd'⟩:=bK hd'
 simp only[bj] at hc
 obtain⟨r0,hw,hd'⟩:=bind_some hd'
 split at hd'
 case h_2=>cases hd'
 rename_i vs H1 htok1
 obtain⟨hv1,hd'⟩:=fj hd'
 obtain⟨hto,hd'⟩:=bK hd'
 have er:=kN hd'
 obtain⟨t1,t2,t3,t4⟩:=uY htok hv
 obtain⟨u1,u2,u3,u4⟩:=uY htok1 hv1
 rw[DK] at u1
 have lX:(aS (List.replicate C.m none) (dg (oU y0 C.B (AN C.A d)))).length=C.m:=by rw[kQ,tG]
 rw[lX] at t1
 have hnk:∀k,(C.k0,k)∉oU y0 C.R (rT (Nat::iz C.R []) r0).2:=by
  intro k hm
  obtain⟨s,hs⟩:=Ij hm
  have:=(List.all_eq_true.1 hR) _ hs
  simp_all
 have hX0:(cY C.m (oU y0 C.R (rT (Nat::iz C.R []) r0).2))[C.k0]? =some none:=by
  cases h:(cY C.m (oU y0 C.R (rT (Nat::iz C.R []) r0).2))[C.k0]? with
  |none=>grind [DK]
  |
   some x=>
   cases x with
   |none=>rfl
   |some k=>exact absurd (fk h) (hnk k)
 have h10:H1[C.k0]? =some none:=by
  grind [w9]
 have hX1:∀i:Nat,(cY C.m (oU y0 C.R (rT (Nat::iz C.R []) r0).2))[i]? =(tie y.gs rh.ti 0 H1)[i]? :=by
  intro i
  by_cases hi:i=C.m
  ·simp_all[oe]
  grind
 have hF:=hof (x8 y0 C.A d) H0 H1 (rT (Nat::iz C.R []) r0).1 (bM hc.1) (t2 C.k0 (by omega) (by grind)).2 h10 hc.2 hto ?_
 ·show Fy P Cx y.l (x8 y0 C.A d) (aS (List.replicate C.m none) (dg (oU y0 C.B (AN C.A d)))) (.ret (.val .bool (rT C.T r).1)) (cY C.m ((C.k0,.lp (rT C.T r).2.1 (rT C.T r).2.2.1)::oU y0 C.R (rT C.T r).2.2.2))
  have e1:rT C.T r=(Nat.beq (rT (Nat::iz C.R []) r0).1 0,y,(rT (Nat::iz C.R []) r0).1,(rT (Nat::iz C.R []) r0).2):=by rw[←er];exact qN C.T _
  rw[e1]
  have eX:(tie y.gs rh.ti 0 H0).set C.k0 (some (.lp y 0))=aS (List.replicate C.m none) (dg (oU y0 C.B (AN C.A d))):=by
   apply List.ext_getElem?
   intro i
   rw[dv]
   split
   ·simp_all[oe]
   grind
  rw[eX] at hF
  refine hF.less ?_
  intro b k hb
  rw[JG hnk hk] at hb
  grind
 ·refine cJ.mono (hA _ _ _ hw) ?_
  intro e σ1 he
  cases e with
  |
   normal=>
   refine cJ.mono (hB _ _ _ he) ?_
   intro e σ2 he
   obtain⟨σE,q1,q2,q3,q4,q5⟩:=Mn (gl:=gl.uy y.l) he
   have hpr:∃m,prune σE.hp m=H1:=by
    refine zo (by grind) ?_
    intro b k hb
    have hx:=hX1 b
    rw[AR hb,eN] at hx
    have:=q5 b _ (fk hx)
    obtain⟨k0,p1,p2⟩:=iR this
    rw[eN] at p2
    rw[p1]
    have nt:∀{l:List (Option aO)}{k:aO},yi l=true→l[b]? =some (some k)→FB (some k)=false:=by
     intro l k hn hk
     cases k with
     |tv g t v=>exact absurd hk (Ib hn b g t v)
     |_=>rfl
    rw[Mm (nt u4 hb) (nt q3 p1) p2]
   obtain⟨m,hm⟩:=hpr
   cases e with
   |normal=>exact⟨by simpa[Us] using q1.symm,σE,m,q2,hm⟩
   |
    ret=>
    obtain⟨j1,c,j2,j3⟩:=zn q1
    refine⟨⟨j1,?_⟩,σE,m,q2,hm⟩
    grind [Tg]
   |
    exit i=>
    obtain⟨j1,c,j2,j3⟩:=zn q1
    refine⟨⟨j1,?_⟩,σE,m,q2,hm⟩
    rw[j2]
    cases c<;>simp[L9] at j3
    rw[j3]
   |panic v=>trivial
  |_=>cases he
theorem Yb{gl:Ctx}{g:Operand}{ps:Array Tmp}(hro:gl.ro=none){gf:FuncId}{cs:AV}(hg:bC gl σ.tm g= .func (.func gf) .nil cs){C:IC}(fT:Uw σ rh C cs=true)(hC:C.holds P gl)
 {wA wB:YC→St→(fQ→St→Option (fU (Nat::iz C.R [])))→Option (fU (Nat::iz C.R []))}
 (hA:∀y σ1 k1 r1,wA y σ1 k1=some r1→cJ P (gl.uy y.l) assign σ1 (fun e σ'=>k1 e σ'=some r1)) (hB:∀y σ1 k1 r1,wB y σ1 k1=some r1→cJ P (gl.uy y.l) body σ1 (fun e σ'=>k1 e σ'=some r1))
 {R:Type} {k:fQ→St→Option R} {r:R} (h:yh (fun y=>Ux σ y rh gf cs (C.W0 y.l (W2 y rh C ps σ (wA y) (wB y))) k)=some r):cJ P gl (.rangeFunc g ps assign body) σ (fun e σ'=>k e σ'=some r):=by
 unfold Uw at fT
 simp only[bj,gZ] at fT
 obtain⟨⟨⟨⟨⟨⟨⟨⟨⟨c1,c2⟩,c3⟩,c4⟩,c5⟩,c6⟩,c7⟩,c8⟩,c9⟩,c10⟩:=fT
 refine cJ.rangeFunc hro hg rh.dI rh.lI C.k0 c1 c2 c3 c4 rh.ti rh.m c6 c7 c8 rh.jl c9 ?_
 intro y
 have hy:=JD h y
 unfold Ux at hy
 split at hy
 case h_2=>cases hy
 rename_i L ins hL j0
 rcases DB hy with⟨hfn,hy⟩|hy
 case inr=>cases hy
 split at hy
 case h_2=>cases hy
 rename_i d hd
 rcases CF.Dz hy with⟨q,hq,hy⟩|⟨x,hx,hy⟩
 case inr=>cases hy
 obtain⟨d1,d2⟩:=bh.gI hd
 unfold Th at hy
 split at hy
 case h_2=>cases hy
 rename_i hr
 obtain⟨hcr,hy⟩:=bK hy
 simp only[bj] at hcr
 split at hy
 case h_2=>cases hy
 rename_i y' j hlp
 obtain⟨hv,hy⟩:=fj hy
 have hv:y'=y:=hv.1
 subst hv
 refine⟨j,_,L,ins,_,⟨hr,hL,j0,hcr.1,hcr.2,hlp,rfl⟩,?_,?_⟩
 ·intro B hB' hof
  have hh:=hC B hB' y'.l _ (Uz (wA:=wA y') (wB:=wB y') (hA y') (hB y') (by simp_all) c10 hof)
  have:=hh.ret d q hq
  rw[←hfn,d1,d2] at this
  rw[show(C.W0 y'.l (W2 y' rh C ps σ (wA y') (wB y'))).res q= .fU .nil from hr] at this
  trivial
 ·have:=PK (P:=P) (gl:=gl) hy
  grind
section
variable{P:Program} {G:bN} (T:bA P G) {I:List IC} {H:Hs} {Γ:List bh}
include T
theorem kc:∀{c:Code}{gl:Ctx}{fr:Bool}(_hΓ:∀C∈Γ,C.holds P gl)(_hro:fr=true→gl.ro=none)(_hI:fr=true→∀C∈I,C.holds P gl∧∀S w,gl.B S w){R:Type}{σ:St}{k:fQ→St→Option R}{r:R},walk P G I H Γ c gl fr σ k=some r→cJ P gl c σ (fun e σ'=>k e σ'=some r):=by
 intro c
 induction c with
 |skip=>intro gl fr hΓ hro hI R σ k r h;exact cJ.skip h
 |label l=>intro gl fr hΓ hro hI R σ k r h;exact cJ.label h
 |scope c ih=>intro gl fr hΓ hro hI R σ k r h;exact cJ.scope (ih hΓ hro hI h)
 |exit i=>intro gl fr hΓ hro hI R σ k r h;exact cJ.exit h
 |ret=>intro gl fr hΓ hro hI R σ k r h;exact cJ.ret h
 |region id ops draw=>intro gl fr hΓ hro hI R σ k r h;exact FE T hΓ hro h
 |
  seq x z ih1 ih2=>
  intro gl fr hΓ hro hI R σ k r h
  unfold walk at h
  split at h
  ·refine cJ.seq (cJ.mono (ih1 hΓ hro hI h) ?_)
   intro e σ' he
   cases e with
   |normal=>exact ih2 hΓ hro hI he
   |_=>exact he
  ·rename_i S hS
   unfold aI at h
   obtain⟨o,ho,h⟩:=bind_some h
   refine cJ.seq (cJ.mono (ih1 hΓ hro hI ho) ?_)
   intro e σ' he
   cases e with
   |
    normal=>
    obtain⟨d,hd,e⟩:=map_some he
    subst e
    exact cJ.wk (SS.iI hd) (ih2 hΓ hro hI h)
   |
    _=>
    obtain⟨d,hd,e⟩:=map_some he
    subst e
    cases h
    exact hd
 |
  cond c x z ih1 ih2=>
  intro gl fr hΓ hro hI R σ k r h
  unfold walk at h
  split at h
  ·rename_i b hb
   refine cJ.cond hb (fun e=>ih1 hΓ hro hI ?_) (fun e=>ih2 hΓ hro hI ?_)<;>grind
  grind
 |
  block id c ih=>
  intro gl fr hΓ hro hI R σ k r h
  unfold walk at h
  split at h
  ·refine cJ.block (cJ.mono (ih hΓ hro hI h) ?_)
   intro e σ' he
   cases e with
   |
    exit i=>
    simp only[unB] at he
    simp only[A2]
    split at he<;>simp_all
   |_=>exact he
  ·rename_i S hS
   unfold aI at h
   obtain⟨o,ho,h⟩:=bind_some h
   have fin:∀{σ':St},(S.uX σ').map cL.brk=some o→∃σ2,Wk gl σ' σ2∧k .normal σ2=some r:=by
    intro σ' he
    obtain⟨d,hd,e⟩:=map_some he
    grind [SS.iI]
   have oth:∀{e:fQ}{σ':St},(k e σ').map cL.ret=some o→k e σ'=some r:=by
    intro e σ' he
    obtain⟨d,hd,e⟩:=map_some he
    grind
   refine cJ.Ya (cJ.block (cJ.mono (ih hΓ hro hI ho) ?_))
   intro e σ' he
   cases e with
   |normal=>exact fin he
   |
    exit i=>
    simp only[toB] at he
    simp only[A2]
    split at he
    ·rename_i hb;rw[aA (bM hb)];grind
    ·rename_i hb;rw[aC (fun e=>hb (by simp_all))];exact⟨σ',Wk.refl gl σ',oth he⟩
   |ret=>exact⟨σ',Wk.refl gl σ',oth he⟩
   |panic v=>exact oth he
 |
  loop c ih=>
  intro gl fr hΓ hro hI R σ k r h
  unfold walk at h
  split at h
  ·grind [Mk]
  ·split at h
   ·cases h
   ·split at h
    ·cases h
    ·rename_i u hu
     exact Ml (fun σ u=>SS.iI) (fun h=>ih hΓ hro hI h) hu h
 |
  rangeFunc g ps assign body ih1 ih2=>
  intro gl fr hΓ hro hI R σ k r h
  unfold walk at h
  obtain⟨hfr,h⟩:=bK h
  split at h
  ·cases h
  ·rename_i rh hrh
   split at h
   case h_2=>cases h
   rename_i C u hC hu
   split at h
   ·rename_i gf cs hg
    obtain⟨fT,h⟩:=bK h
    obtain⟨hC1,hB⟩:=hI hfr C (kL hC)
    have hA:∀(y:YC)(σ1:St) k1 r1,walk P G I H Γ assign (gl.uy y.l) false (R:=fU (Nat::iz C.R [])) σ1 k1=some r1→cJ P (gl.uy y.l) assign σ1 (fun e σ'=>k1 e σ'=some r1):=
     fun y σ1 k1 r1 h1=>@ih1 (gl.uy y.l) false (fun D hD=>(hΓ D hD).up rfl hB) (fun e=>(wc e).elim) (fun e=>(wc e).elim) _ _ _ _ h1
    have hB':∀(y:YC)(σ1:St) k1 r1,walk P G I H Γ body (gl.uy y.l) false (R:=fU (Nat::iz C.R [])) σ1 k1=some r1→cJ P (gl.uy y.l) body σ1 (fun e σ'=>k1 e σ'=some r1):=
     fun y σ1 k1 r1 h1=>@ih2 (gl.uy y.l) false (fun D hD=>(hΓ D hD).up rfl hB) (fun e=>(wc e).elim) (fun e=>(wc e).elim) _ _ _ _ h1
    exact cJ.wk (SS.iI hu) <| Yb (wA:=fun y σ1 k1=>walk P G I H Γ assign (gl.uy y.l) false σ1 k1) (wB:=fun y σ1 k1=>walk P G I H Γ body (gl.uy y.l) false σ1 k1) (hro hfr) hg fT hC1 hA hB' h
   grind
 |_=>grind [walk]
end
def pick:List Nat→List (Option aO)→List (Nat×aO)
 |[],_=>[]
 |
  b::l,hp=>match hp[b]? with
  |some (some k)=>(b,k)::pick l hp
  |_=>pick l hp
theorem jM{hp:List (Option aO)}:∀{l:List Nat}{b:Nat}{k:aO},(b,k)∈pick l hp→hp[b]? =some (some k)
 |[],_,_,h=>by cases h
 |
  c::l,b,k,h=>by
  simp only[pick] at h
  split at h
  ·rename_i k' hk
   rcases List.mem_cons.1 h with h|h
   ·cases h;exact hk
   ·exact jM h
  ·exact jM h
def aF(G:bN)(rs:List ResultVar)(jN:FuncId)(A:List Sh)(B:List (Nat×de))(m:Nat)(F:SS)(ob:List Nat)(f:CF (prod (tU A (iz B []))) F.T):bh:=
 ⟨.func jN,A,B,m,F,fun r=>(js G rs (F.st y0 r)).getD .bot,fun r=>pick ob (F.st y0 r).hp,f⟩
def UA(F:SS):fQ→St→Option F.T
 | .ret,σ=>F.uX σ
 | .normal,σ=>F.uX σ
 |_,_=>none
def FF(σ:St):Option St:=
 match marks σ.df σ.hp with
 |some hp=>some ⟨σ.tm,hp,[]⟩
 |none=>none
def FH(F:SS):fQ→St→Option F.T
 |
  .ret,σ=>match FF σ with
  |some σ=>F.uX σ
  |none=>none
 |
  .normal,σ=>match FF σ with
  |some σ=>F.uX σ
  |none=>none
 |_,_=>none
def mB(nt m:Nat)(args:List AV)(ins:List (Nat×Option aO)):St:=⟨args++List.replicate (nt -args.length) .bot,aS (List.replicate m none) ins,[]⟩
def Mo{α:Type}:Option α→Bool
 |some _=>true
 |none=>false
theorem ng{x:Option AV}(h:Mo x=true):x=some (x.getD .bot):=by
 cases x with
 |none=>cases h
 |some y=>rfl
variable{F:SS}
theorem u0{gl:Ctx}{e:fQ}{r:F.T}(h:FH F e σ=some r):(e= .ret∨e= .normal)∧∃σ1,FF σ=some σ1∧Wk gl σ1 (F.st y0 r):=by
 cases e with
 |
  ret=>
  simp only[FH] at h
  split at h
  ·simp_all[SS.iI]
  grind
 |
  normal=>
  simp only[FH] at h
  split at h
  ·simp_all[SS.iI]
  grind
 |_=>trivial
variable{σe:St}
theorem AJ.AX{G:bN}(T:bA P G){gl:Ctx}{f:FuncId}{fn:Func}{c:Code}(hf:P.funcs[f]? =some fn)(hb:fn.body=some c)(hro:gl.ro=none){args:List AV}{ins:List (Nat×Option aO)}{m:Nat}{x:AV}
 (h:cJ P gl c (mB fn.ntmps m args ins) (fun e σ=>(e= .ret∨e= .normal)∧∃σ1,FF σ=some σ1∧Wk gl σ1 σe)) (_hd:σe.df= []) (ang:js G fn.results.toList σe=some x) (hout:∀b k,(b,k)∈out→σe.hp[b]? =some (some k)):
 AJ P gl f args (aS (List.replicate m none) ins) (.ret x) (cY m out):=by
 intro E w vs hv hw
 obtain⟨hl,amX⟩:=hv.get
 refine CallsIn.calls (F:=Wd gl) (n:=0) (callsIn_of_wp_marks hf hb trivial ?_ hro) (fun k d hd=>by cases hd)
 have hg:bQ gl (mB fn.ntmps m args ins) E {tmps:=vs.toArray++Array.replicate (fn.ntmps -vs.toArray.size) undef,defers:=[]} w:=by
  refine⟨?_,?_,hw,trivial⟩
  ·grind [mB]
  ·intro i x hx v hv'
   simp only[mB] at hx
   rw[Array.getElem?_append] at hv'
   simp only[List.getElem?_append] at hx
   split at hx
   ·grind
   ·rw[List.getElem?_replicate] at hx
    split at hx
    ·cases hx;trivial
    grind
 refine wpIn_mono (h E _ w hg) ?_
 rintro ex a' w' ⟨e,σ',E',h1,⟨he,σ1,ho,hwk⟩,h3,h4⟩
 have main:LeavesInM (Wd gl) 0 P fn a'.tmps (fun e w'=>∃E',AI E' w' (.ret x) e∧HW gl E' w' (cY m out)∧Ext gl.md (bx (aS (List.replicate m none) ins) E) E w (bx (cY m out) E') E' w') a'.defers .returning w':=by
  unfold FF at ho
  split at ho
  ·rename_i hp1 hm
   cases ho
   refine H7 σ'.df h3 hm (fun w3 k1 k2=>?_)
   obtain⟨E2,g2,x2⟩:=hwk E' _ w3 k1
   obtain⟨v,k3,k4⟩:=qZ T g2 ang
   have hw2:HW gl E2 w3 (cY m out):=g2.hw.less (fun b k hb=>hout b k (fk hb))
   have hx:Ext gl.md (bx (aS (List.replicate m none) ins) E) E w (bx (cY m out) E2) E2 w3:=
    {(h4.trans k2).trans x2 with own:=fun g ⟨b,k,hb,hgb⟩=>((h4.trans k2).trans x2).own g ⟨b,k,hout b k (fk hb),hgb⟩}
   exact⟨v,k3,E2,k4,hw2,hx⟩
  grind
 rcases he with rfl|rfl
 ·cases ex with
  |ret=>trivial
  |_=>trivial
 ·cases ex with
  |normal=>trivial
  |_=>trivial
variable{jN:FuncId}{A:List Sh}{B:List (Nat×de)}{nt:Nat}
theorem bh.of{G:bN}(T:bA P G){gl:Ctx}{I:List IC}{H:Hs}(hΓ:∀C∈Γ,C.holds P gl)(hI:∀C∈I,C.holds P gl∧∀S w,gl.B S w)(hro:gl.ro=none){rs:List ResultVar}{m:Nat}{ob:List Nat}{f:prod (tU A (iz B []))→Option F.T}
 {fn:Func} {c:Code} (amV:∀vs w,(callFunc jN vs).run P w= .ok (.enter jN vs) w) (hf:P.funcs[jN]? =some fn) (hb:fn.body=some c) (hrs:fn.results.toList=rs) (hnt:fn.ntmps=nt) (hF:F.df= [])
 (ang:∀r:F.T,Mo (js G rs (F.st y0 r))=true)
 (h:∀d,f d=walk P G I H Γ c gl true (mB nt m (x8 y0 A d) (dg (oU y0 B (AN A d)))) (FH F)):
 (aF G rs jN A B m F ob (.br f)).holds P gl:=by
 refine⟨?_,fun _ _ h=>h.elim⟩
 intro d r hd
 have hd':f d=some r:=hd
 rw[h d] at hd'
 refine⟨amV,?_⟩
 have amQ:=kc T hΓ (fun _=>hro) (fun _=>hI) hd'
 subst hnt
 refine AJ.AX T hf hb hro (σe:=F.st y0 r) (cJ.mono amQ ?_) ?_ ?_ ?_
 ·intro e σ he
  exact u0 he
 ·show(F.st y0 r).df= []
  simp only[SS.st,SS.mB]
  obtain⟨nt',nh,tm,hp,df⟩:=F
  simp only at hF
  subst hF
  rfl
 ·rw[hrs];exact ng (ang r)
 ·intro b k hbk;exact jM hbk
def xb(s:Sh)(F:SS):fQ→St→Option (Sum (prod (s.H [])) F.T)
 |
  .ret,σ=>match FF σ with
  |some σ=>(F.uX σ).map .inr
  |none=>none
 |
  .normal,σ=>match FF σ with
  |some σ=>(F.uX σ).map .inr
  |none=>none
 |
  .panic v,σ=>match σ.df with
  |[]=>(s.G (l:=[]) v ()).map .inl
  |_=>none
 |_,_=>none
theorem AJ.Mp{gl:Ctx}{f:FuncId}{fn:Func}{c:Code}(hf:P.funcs[f]? =some fn)(hb:fn.body=some c)(hro:gl.ro=none){args:List AV}{ins:List (Nat×Option aO)}{m:Nat}{x:AV}
 (h:cJ P gl c (mB fn.ntmps m args ins) (fun e σ=>e= .panic x∧σ.df= [])):
 AJ P gl f args (aS (List.replicate m none) ins) (.kC x) (cY m []):=by
 intro E w vs hv hw
 obtain⟨hl,amX⟩:=hv.get
 refine CallsIn.calls (F:=Wd gl) (n:=0) (callsIn_of_wp hf hb trivial ?_ hro) (fun k d hd=>by cases hd)
 have hg:bQ gl (mB fn.ntmps m args ins) E {tmps:=vs.toArray++Array.replicate (fn.ntmps -vs.toArray.size) undef,defers:=[]} w:=by
  refine⟨?_,?_,hw,trivial⟩
  ·grind [mB]
  ·intro i x hx v hv'
   simp only[mB] at hx
   rw[Array.getElem?_append] at hv'
   simp only[List.getElem?_append] at hx
   split at hx
   ·grind
   ·rw[List.getElem?_replicate] at hx
    split at hx
    ·cases hx;trivial
    grind
 refine wpIn_mono (h E _ w hg) ?_
 rintro ex a' w' ⟨e,σ',E',h1,⟨rfl,hd⟩,h3,h4⟩
 have hdf:a'.defers= []:=by
  have:=h3.df
  rw[hd] at this
  cases hds:a'.defers with
  |nil=>rfl
  |cons d l=>rw[hds] at this;trivial
 have hw2:HW gl E' w' (cY m []):=h3.hw.less (fun b k hb=>absurd (fk hb) (by simp))
 have hx:Ext gl.md (bx (aS (List.replicate m none) ins) E) E w (bx (cY m []) E') E' w':=
  {h4 with own:=fun g ⟨b,k,hb,hgb⟩=>absurd (fk hb) (by simp)}
 cases ex with
 |panic ch=>exact⟨hdf,E',h1,hw2,hx⟩
 |_=>trivial
theorem bh.Kp{G:bN}(T:bA P G){gl:Ctx}{I:List IC}{H:Hs}(hΓ:∀C∈Γ,C.holds P gl)(hI:∀C∈I,C.holds P gl∧∀S w,gl.B S w)(hro:gl.ro=none){rs:List ResultVar}{m:Nat}{s:Sh}{ob:List Nat}{f:prod (tU A (iz B []))→Option (Sum (prod (s.H [])) F.T)}
 {fn:Func} {c:Code} (amV:∀vs w,(callFunc jN vs).run P w= .ok (.enter jN vs) w) (hf:P.funcs[jN]? =some fn) (hb:fn.body=some c) (hrs:fn.results.toList=rs) (hnt:fn.ntmps=nt) (hF:F.df= [])
 (ang:∀r:F.T,Mo (js G rs (F.st y0 r))=true)
 (h:∀d,f d=walk P G I H Γ c gl true (mB nt m (x8 y0 A d) (dg (oU y0 B (AN A d)))) (xb s F)):
 (aF G rs jN A B m F ob (.kC s f)).holds P gl:=by
 refine⟨?_,?_⟩
 ·intro d r hd
  have hd':f d=some (.inr r):=hd
  rw[h d] at hd'
  refine⟨amV,?_⟩
  have amQ:=kc T hΓ (fun _=>hro) (fun _=>hI) hd'
  subst hnt
  refine AJ.AX T hf hb hro (σe:=F.st y0 r) (cJ.mono amQ ?_) ?_ ?_ ?_
  ·intro e σ he
   cases e with
   |
    ret=>
    simp only[xb] at he
    split at he
    ·rename_i σ1 h1
     obtain⟨y,hy,e⟩:=map_some he
     cases e
     exact⟨Or.inl rfl,σ1,h1,SS.iI hy⟩
    grind
   |
    normal=>
    simp only[xb] at he
    split at he
    ·rename_i σ1 h1
     obtain⟨y,hy,e⟩:=map_some he
     cases e
     exact⟨Or.inr rfl,σ1,h1,SS.iI hy⟩
    grind
   |
    panic v=>
    simp only[xb] at he
    split at he<;>simp_all
   |exit i=>trivial
  ·show(F.st y0 r).df= []
   simp only[SS.st,SS.mB]
   obtain⟨nt',nh,tm,hp,df⟩:=F
   simp only at hF
   subst hF
   rfl
  ·rw[hrs];exact ng (ang r)
  ·intro b k hbk;exact jM hbk
 ·rintro d x ⟨p,hd,rfl⟩
  have hd':f d=some (.inl p):=hd
  rw[h d] at hd'
  refine⟨amV,?_⟩
  have amQ:=kc T hΓ (fun _=>hro) (fun _=>hI) hd'
  subst hnt
  refine AJ.Mp hf hb hro (cJ.mono amQ ?_)
  intro e σ he
  cases e with
  |
   ret=>
   simp only[xb] at he
   split at he<;>simp_all
  |
   normal=>
   simp only[xb] at he
   split at he<;>simp_all
  |
   panic v=>
   simp only[xb] at he
   split at he
   ·rename_i hdf
    obtain⟨y,hy,e⟩:=map_some he
    grind [Sh.yg]
   grind
  |exit i=>trivial
theorem bh.Yd{gl:Ctx}{G:bN}{rs:List ResultVar}{m:Nat}{ob:List Nat}:(aF G rs jN A B m F ob (.br fun _=>none)).holds P gl:=
 ⟨fun _ _ h=>(by trivial),fun _ _ h=>h.elim⟩
theorem bh.sub{gl:Ctx}{G:bN}{rs:List ResultVar}{m:Nat}{ob:List Nat}{f g:prod (tU A (iz B []))→Option F.T}(h:(aF G rs jN A B m F ob (.br f)).holds P gl)(hs:∀d r,g d=some r→f d=some r):(aF G rs jN A B m F ob (.br g)).holds P gl:=
 ⟨fun d r hd=>h.ret d r (hs d r hd),fun _ _ h=>h.elim⟩
def PO{α:Type}:Option α→Option α→Option α
 |some x,_=>some x
 |none,y=>y
theorem Mq{x y:Option α}{r:α}(h:PO x y=some r):x=some r∨y=some r:=by
 cases x with
 |some z=>exact Or.inl h
 |none=>exact Or.inr h
theorem bh.or{gl:Ctx}{G:bN}{rs:List ResultVar}{m:Nat}{ob:List Nat}{f g:prod (tU A (iz B []))→Option F.T}(hf:(aF G rs jN A B m F ob (.br f)).holds P gl)(hg:(aF G rs jN A B m F ob (.br g)).holds P gl):(aF G rs jN A B m F ob (.br fun d=>PO (f d) (g d))).holds P gl:=
 ⟨fun d r hd=>(Mq hd).elim (hf.ret d r) (hg.ret d r),fun _ _ h=>h.elim⟩
def Tj(P:Program)(gl:Ctx):List bh→Prop
 |[]=>True
 |C::l=>C.holds P gl∧Tj P gl l
theorem hold{gl:Ctx}:∀{l:List bh},Tj P gl l→∀C∈l,C.holds P gl
 |[],_,C,h=>by cases h
 |
  D::l,h,C,hC=>by
  rcases List.mem_cons.1 hC with rfl|hC
  ·exact h.1
  ·exact hold h.2 C hC
def Tk(P:Program)(gl:Ctx):List IC→Prop
 |[]=>True
 |C::l=>C.holds P gl∧Tk P gl l
theorem DL{l:List Js}{md:Prop}:∀{L:List IC},Tk P (Ctx.of l md) L→∀C∈L,C.holds P (Ctx.of l md)∧∀S w,(Ctx.of l md).B S w
 |[],_,C,h=>by cases h
 |
  D::L,h,C,hC=>by
  rcases List.mem_cons.1 hC with rfl|hC
  ·exact⟨h.1,fun _ _=>trivial⟩
  ·exact DL h.2 C hC
theorem aJ{gl:Ctx}:∀C∈([]:List IC),C.holds P gl∧∀S w,gl.B S w:=fun C h=>by cases h
def zp(pm:Bool)(u:Value):FrameMode:=if pm then .panicking [{v:=u,recovered:=false}] else .returning
def ni(pm:Bool)(u:Value):FrameMode:=if pm then .panicking [{v:=u,recovered:=true}] else .returning
def UB(P:Program)(gl:Ctx)(f:FuncId)(pm:Bool)(x:AV)(args:List AV)(H H':List (Option aO)):Prop:=
 (∀vs w,(callFunc f vs).run P w= .ok (.enter f vs) w)∧∀E w vs u,lz E w args vs→bZ E w x u→(pm=false→u= .nilIface)→HW gl E w H→
  CallsDIn (Wd gl) 0 P f vs.toArray (zp pm u) w fun e m w'=>m=ni pm u∧(∃v,e= .returned v)∧∃E',HW gl E' w' H'∧Ext gl.md (bx H E) E w (bx H' E') E' w'
variable{pm:Bool}{rid:Nat}{o1:Oper}
theorem UB.UC{G:bN}(T:bA P G){gl:Ctx}{f:FuncId}{x:AV}{fn:Func}{rest:Code}{t5 t2:Nat}{ts:Array TypeId}{o0:Oper}(hcf:∀vs w,(callFunc f vs).run P w= .ok (.enter f vs) w)(hf:P.funcs[f]? =some fn)
 (hb:fn.body=some (.seq (.region rid ops false) rest)) (hro:gl.ro=none) (hops:ops= #[o0,o1]) (h0:o0.op= .call {callee:=.builtin .recover,args:= #[],argTypes:=ts}) (h0d:o0.dst=some t5) (h0g:o0.guard=none)
 (h1:o1.op= .assign (.tmp t5)) (h1d:o1.dst=some t2) (h1g:o1.guard=none) {args:List AV} {ins:List (Nat×Option aO)} {m:Nat}   {r:AV} (ht5:Nat.blt t5 fn.ntmps=true)
 (h:cJ P gl rest (((mB fn.ntmps m args ins).put (some t5) x).put (some t2) x) (fun e σ=>(e= .ret∨e= .normal)∧Wk gl σ σe)) (hd:σe.df= []) (ang:js G fn.results.toList σe=some r) (hout:∀b k,(b,k)∈out→σe.hp[b]? =some (some k)):
 UB P gl f pm x args (aS (List.replicate m none) ins) (cY m out):=by
 refine⟨hcf,?_⟩
 intro E w vs u hv hx hpm hw
 obtain⟨hl,amX⟩:=hv.get
 refine callsDIn_of_wpSIn hf hb trivial ?_
 intro c0 cs hm
 have hg:bQ gl (mB fn.ntmps m args ins) E {tmps:=vs.toArray++Array.replicate (fn.ntmps -vs.toArray.size) undef,defers:=[]} w:=by
  refine⟨?_,?_,hw,trivial⟩
  ·grind [mB]
  ·intro i x hx v hv'
   simp only[mB] at hx
   rw[Array.getElem?_append] at hv'
   simp only[List.getElem?_append] at hx
   split at hx
   ·grind
   ·rw[List.getElem?_replicate] at hx
    split at hx
    ·cases hx;trivial
    grind
 refine wpSIn_seq (wpSIn_region ?_)
 subst hops
 show wpOpsSIn _ _ _ _ _ [0,1] _ _ _
 have w0:∀y,Region.wanted o0 y=true:=by intro y;simp[Region.wanted,h0g]
 have w1:∀y,Region.wanted o1 y=true:=by intro y;simp[Region.wanted,h1g]
 have x0:∀ρ:Operand→Value,(execOp ρ o0).run P w= .ok .recover w:=by
  simp_all[execOp,resolve,invoke,builtin]
 have ei0:(#[o0,o1]:Array Oper)[0]? =some o0:=rfl
 have ei1:(#[o0,o1]:Array Oper)[1]? =some o1:=rfl
 have hu:RV E w x u:=RV.eS hx
 have hg1:=hg.put (some t5) hu
 have hlt:t5<fn.ntmps:=by simp_all
 have hev:((({tmps:=vs.toArray++Array.replicate (fn.ntmps -vs.toArray.size) undef,defers:=[]}:Act).put o0.dst u).eval (.tmp t5))=u:=by
  rw[h0d]
  have hsz:t5<(vs.toArray++Array.replicate (fn.ntmps -vs.toArray.size) undef).size:=by
   grind
  simp_all[Act.put,Act.eval]
 have x1:(execOp (({tmps:=vs.toArray++Array.replicate (fn.ntmps -vs.toArray.size) undef,defers:=[]}:Act).put o0.dst u).eval o1).run P w= .ok (.value u) w:=by
  simp_all[execOp]
 have hg2:=hg1.put (some t2) hu
 suffices hfin:rest.wpSIn (Wd gl) 0 P (bodyPostS P fn c0 cs fun e m_1 w'=>m_1=ni pm u∧(∃v,e= .returned v)∧∃E',HW gl E' w' (cY m out)∧Ext gl.md (bx (aS (List.replicate m none) ins) E) E w (bx (cY m out) E') E' w')
  ((({tmps:=vs.toArray++Array.replicate (fn.ntmps -vs.toArray.size) undef,defers:=[]}:Act).put o0.dst u).put o1.dst u) ({c0 with mode:=ni pm u}::cs) w by
  cases pm with
  |
   true=>
   have hrc:recoverD (c0::cs)=some (u,{c0 with mode:=ni true u}::cs):=by
    simp_all[zp,ni,recoverD]
   simp only[wpOpsSIn,ei0,ei1,w0,w1,cj,x0,hrc]
   refine⟨fun _ _=>trivial,fun _ _=>trivial,?_⟩
   rw[x1]
   trivial
  |
   false=>
   have hu0:=hpm rfl
   subst hu0
   have hrc:recoverD (c0::cs)=none:=by
    simp_all[zp,recoverD]
   have hcc:({c0 with mode:=ni false .nilIface}:Frame)=c0:=by
    simp only[zp,ni,eM,dB] at hm ⊢
    rw[←hm]
   rw[hcc] at hfin
   simp only[wpOpsSIn,ei0,ei1,w0,w1,cj,x0,hrc]
   refine⟨fun _ _=>trivial,fun _ _=>trivial,?_⟩
   rw[x1]
   trivial
 rw[h0d,h1d]
 refine wpSIn_of_wpIn (F:=Wd gl) hro (wpIn_mono (h E _ w hg2) ?_)
 rintro ex a' w' ⟨e,σ',E',q1,⟨he,hwk⟩,q3,q4⟩
 obtain⟨E2,g2,x2⟩:=hwk E' a' w' q3
 obtain⟨v,k1,k2⟩:=qZ T g2 ang
 have hdf:a'.defers= []:=by
  have:=g2.df
  rw[hd] at this
  cases hds:a'.defers with
  |nil=>rfl
  |cons d l=>rw[hds] at this;trivial
 have hw2:HW gl E2 w' (cY m out):=g2.hw.less (fun b k hb=>hout b k (fk hb))
 have hxx:Ext gl.md (bx (aS (List.replicate m none) ins) E) E w (bx (cY m out) E2) E2 w':=by
  have q4':Ext gl.md (bx (aS (List.replicate m none) ins) E) E w (bx σ'.hp E') E' w':=q4
  exact{q4'.trans x2 with own:=fun g ⟨b,k,hb,hgb⟩=>(q4'.trans x2).own g ⟨b,k,hout b k (fk hb),hgb⟩}
 rcases he with rfl|rfl
 ·cases ex with
  |ret=>exact⟨hdf,ni pm u,rfl,v,k1,rfl,⟨v,rfl⟩,E2,hw2,hxx⟩
  |_=>trivial
 ·cases ex with
  |normal=>exact⟨hdf,ni pm u,rfl,v,k1,rfl,⟨v,rfl⟩,E2,hw2,hxx⟩
  |_=>trivial
structure gu where
 jN:FuncId
 A:List Sh
 B:List (Nat×de)
 m:Nat
 s:Sh
 F:SS
 out:F.T→List (Nat×aO)
 n:prod (tU A (iz B []))→Option F.T
 p:prod (tU A (iz B []))→prod (s.H [])→Option F.T
abbrev gu.D(C:gu):Type:=prod (tU C.A (iz C.B []))
def gu.args(C:gu)(d:C.D):List AV:=x8 y0 C.A d
def gu.ins(C:gu)(d:C.D):List (Nat×Option aO):=dg (oU y0 C.B (AN C.A d))
structure gu.holds(P:Program)(gl:Ctx)(C:gu):Prop where
 n:∀d r,C.n d=some r→UB P gl C.jN false .hJ (C.args d) (aS (List.replicate C.m none) (C.ins d)) (cY C.m (C.out r))
 p:∀d q r,C.p d q=some r→UB P gl C.jN true (C.s.V y0 q) (C.args d) (aS (List.replicate C.m none) (C.ins d)) (cY C.m (C.out r))
def gu.get(C:gu)(L:List AV)(I:List (Nat×Option aO)):Option C.D:=
 match PB C.B (l:=[]) I () with
 |some d=>Um C.A L d
 |none=>none
theorem gu.gI{C:gu}{d:C.D}(h:C.get L I=some d):C.args d=L∧C.ins d=I:=by
 unfold gu.get at h
 split at h
 ·rename_i d1 h1
  obtain⟨a1,a2⟩:=AT y0 h1
  obtain⟨b1,b2⟩:=AO y0 h
  exact⟨b1,by unfold gu.ins;grind⟩
 grind
section
variable{P:Program} {G:bN} (T:bA P G) {gl:Ctx} {H:Hs} {Γ:List bh} (hΓ:∀C∈Γ,C.holds P gl) (hro:gl.ro=none) {rs:List ResultVar} {jN:FuncId} {A:List Sh} {B:List (Nat×de)} {m nt:Nat} {s:Sh} {F:SS} {ob:List Nat}
 {n:prod (tU A (iz B []))→Option F.T} {p:prod (tU A (iz B []))→prod (s.H [])→Option F.T} {fn:Func} {ops:Array Oper} {rid:Nat} {rest:Code} {t5 t2:Nat} {ts:Array TypeId} {o0 o1:Oper}
 (amV:∀vs w,(callFunc jN vs).run P w= .ok (.enter jN vs) w) (hf:P.funcs[jN]? =some fn) (hB:fn.body=some (.seq (.region rid ops false) rest)) (hrs:fn.results.toList=rs) (hnt:fn.ntmps=nt)
 (hops:ops= #[o0,o1]) (h0:o0.op= .call {callee:=.builtin .recover,args:= #[],argTypes:=ts}) (h0d:o0.dst=some t5) (h0g:o0.guard=none) (h1:o1.op= .assign (.tmp t5)) (h1d:o1.dst=some t2) (h1g:o1.guard=none) (ht5:Nat.blt t5 nt=true)
 (hF:F.df= []) (ang:∀r:F.T,Mo (js G rs (F.st y0 r))=true)
include T hΓ hro amV hf hB hrs hnt hops h0 h0d h0g h1 h1d h1g ht5 hF ang
theorem gu.of1{pm:Bool}{x:AV}{args:List AV}{ins:List (Nat×Option aO)}{r:F.T}(hw:walk P G [] H Γ rest gl true (((mB nt m args ins).put (some t5) x).put (some t2) x) (UA F)=some r):
 UB P gl jN pm x args (aS (List.replicate m none) ins) (cY m (pick ob (F.st y0 r).hp)):=by
 have hdf:(F.st y0 r).df= []:=by
  simp only[SS.st,SS.mB]
  obtain⟨nt',nh,tm,hp,df⟩:=F
  simp only at hF
  subst hF
  rfl
 subst hnt
 refine UB.UC T amV hf hB hro hops h0 h0d h0g h1 h1d h1g ht5 (cJ.mono (kc T hΓ (fun _=>hro) (fun _=>aJ) hw) ?_) hdf (by rw[hrs];exact ng (ang r)) (fun b k hbk=>jM hbk)
 intro e σ he
 cases e with
 |ret=>exact⟨Or.inl rfl,SS.iI he⟩
 |normal=>exact⟨Or.inr rfl,SS.iI he⟩
 |_=>trivial
theorem gu.ofN(hn:∀d,n d=walk P G [] H Γ rest gl true (((mB nt m (x8 y0 A d) (dg (oU y0 B (AN A d)))).put (some t5) .hJ).put (some t2) .hJ) (UA F)):
 (⟨jN,A,B,m,s,F,fun r=>pick ob (F.st y0 r).hp,n,fun _ _=>none⟩:gu).holds P gl:=by
 refine⟨?_,fun _ _ r h=>no (e:=r) h⟩
 intro d r hd
 have hd':n d=some r:=hd
 rw[hn d] at hd'
 exact gu.of1 T hΓ hro amV hf hB hrs hnt hops h0 h0d h0g h1 h1d h1g ht5 hF ang hd'
theorem gu.Kp(hp:∀d q,p d q=walk P G [] H Γ rest gl true (((mB nt m (x8 y0 A d) (dg (oU y0 B (AN A d)))).put (some t5) (s.V y0 q)).put (some t2) (s.V y0 q)) (UA F)):
 (⟨jN,A,B,m,s,F,fun r=>pick ob (F.st y0 r).hp,fun _=>none,p⟩:gu).holds P gl:=by
 refine⟨fun _ r h=>no (e:=r) h,?_⟩
 intro d q r hd
 have hd':p d q=some r:=hd
 rw[hp d q] at hd'
 exact gu.of1 T hΓ hro amV hf hB hrs hnt hops h0 h0d h0g h1 h1d h1g ht5 hF ang hd'
end
def Il:List Nat→List (Option aO)→List (Option aO)
 |[],hp=>hp
 |
  b::l,hp=>Il l (match hp[b]? with
  |some (some (.var t _))=>hp.set b (some (.var t (.dK t)))
  |_=>hp)
theorem Wk.dK{gl:Ctx}:∀{l:List Nat}{σ:St},Wk gl σ {σ with hp:=Il l σ.hp}
 |[],σ=>Wk.refl gl σ
 |
  b::l,σ=>by
  unfold Il
  split
  ·rename_i t v hb
   have h1:Wk gl σ {σ with hp:=σ.hp.set b (some (.var t (.dK t)))}:=by
    intro E a w h
    obtain⟨h1,h2,g,c,e,h3,h4,h5⟩:=h.hw.cQ b _ hb
    have hlen:=RC.len h5
    have hw:=h.hw.write (w':=w) (k':=.var t (.dK t)) hb rfl (fun _ _=>rfl) ⟨h1,Ty.cV t,g,c,e,h3,h4,⟨by rw[hlen];exact AV.dU h2,RC.one h5⟩⟩
    refine⟨E,⟨h.len,h.tm,hw,h.df⟩,{Ext.refl (bx σ.hp E) E w with own:=?_ }⟩
    grind [bx.set]
   exact h1.trans (Wk.dK (l:=l) (σ:={σ with hp:=σ.hp.set b (some (.var t (.dK t)))}))
  ·exact Wk.dK (l:=l) (σ:=σ)
def Mr(C:gu)(ps:List (Nat×Nat))(F:SS)(h:C.D→Option C.F.T)(σ:St):Option F.T:=
 match σ.df with
 |
  [.func (.func fd) .nil cs]=>match mo (swp ps) (eD σ.hp) (cs.toList.map (fun x=>(x,Ty.unit))),jf (swp ps) (eD σ.hp) ps with
  |
   some (L,lent),some ins=>if Nat.beq fd C.jN&&cs.atoms then(match C.get L ins with
   |some d=>Option.bind (h d) fun r=>if Bi ⟨.bot,ps,[],C.out r,C.m,false,[],[]⟩ lent then F.uX {σ with hp:=aS σ.hp (mz ps (C.out r) ps),df:=[]} else none
   |none=>none) else none
  |_,_=>none
 |_=>none
def Tl(C:gu)(ps:List (Nat×Nat))(D:gu)(qs:List (Nat×Nat))(jk:List Nat)(F:SS):fQ→St→Option F.T
 |
  .ret,σ| .normal,σ=>match σ.df with
  |[]=>F.uX σ
  |_=>Mr C ps F C.n σ
 |
  .panic v,σ=>match v.ids,D.s.G (l:=[]) v () with
  |[],some q=>Mr D qs F (fun d=>D.p d q) {σ with hp:=Il jk σ.hp}
  |_,_=>none
 |_,_=>none
theorem Im{G:bN}(T:bA P G){gl:Ctx}{C:gu}{h:C.D→Option C.F.T}{r:F.T}(hr:Mr C ps F h σ=some r){x:AV}(hx:x.ids= [])
 (hC:∀d y,h d=some y→UB P gl C.jN pm x (C.args d) (aS (List.replicate C.m none) (C.ins d)) (cY C.m (C.out y))) {fn:Func} {z:AV} (hF:F.df= []) (ang:js G fn.results.toList (F.st y0 r)=some z)  (hout:∀b k,(b,k)∈out→(F.st y0 r).hp[b]? =some (some k)) {m:Nat}
 {E:Env} {a:Act} {w:World} (hg:bQ gl σ E a w) {u:Value} (hu:bZ E w x u) (hpm:pm=false→u= .nilIface) {O:Nat→Prop} {E0:Env} {w0:World} (hX0:Ext gl.md O E0 w0 (bx σ.hp E) E w):
 LeavesIn (Wd gl) 0 P fn a.tmps (fun e w'=>∃E',AI E' w' (.ret z) e∧HW gl E' w' (cY m out)∧Ext gl.md O E0 w0 (bx (cY m out) E') E' w') a.defers (zp pm u) w:=by
 have hdfF:(F.st y0 r).df= []:=by
  simp only[SS.st,SS.mB]
  obtain⟨nt',nh,tm,hp,df⟩:=F
  simp only at hF
  subst hF
  rfl
 unfold Mr at hr
 split at hr
 ·rename_i fd cs hdf
  split at hr
  ·rename_i L lent ins hL j0
   obtain⟨hc,hr1⟩:=bK hr
   clear hr
   simp only[bj] at hc
   obtain⟨hfd,hca⟩:=hc
   have hfd:=bM hfd
   subst hfd
   split at hr1
   ·rename_i d hd
    obtain⟨y,hy,hr2⟩:=bind_some hr1
    obtain⟨fT,hr3⟩:=bK hr2
    obtain⟨e1,e2⟩:=gu.gI hd
    obtain⟨hcf,hM⟩:=hC d y hy
    rw[e1,e2] at hM
    have gdf:=hg.df
    rw[hdf] at gdf
    cases hads:a.defers with
    |nil=>rw[hads] at gdf;trivial
    |
     cons dd ds=>
     rw[hads] at gdf
     obtain⟨⟨f',c',ed,q1,q2,_,_⟩,hrest⟩:=gdf
     have hds:ds= []:=by
      cases ds with
      |nil=>rfl
      |cons _ _=>trivial
     subst hds
     have hf':f'= #[]:=by apply mb;trivial
     subst hf'
     subst ed
     have hB:=bR σ.hp
     have hlent:=lV hL
     obtain⟨hφ,hw1⟩:=vn (cr:=⟨.bot,ps,[],C.out y,C.m,false,[],[]⟩) hg hB hlent j0 fT
     have hmap:(cs.toList.map (fun x=>(x,Ty.unit))).map (·.1)=cs.toList:=by
      simp[Function.comp_def]
     have hvv:=nD hg.hw hB hφ hL (fun g hg=>hg) (by rw[hmap];exact lz.atoms hca q2)
     have hu':bZ (E.to ps (E.cH lent).S) w x u:=bZ.mono (E:=E) ⟨fun _ _=>rfl,fun _ h=>Or.inl h⟩ (fun b hb=>by grind) hu
     have amV:=hM _ w _ u hvv hu' hpm hw1
     refine leavesIn_cons (F:=Wd gl) (by unfold zp;split<;>simp) (fun h=>by cases h) (args:=c'.toList.toArray) ?_ (fun _ _=>trivial) (CallsDIn.mono amV ?_)
     ·simp_all[invoke]
     ·rintro e u1 w2 ⟨rfl,⟨v,rfl⟩,E2,hW2,hX2⟩
      obtain⟨E3,g3,_,x3⟩:=lb (cr:=⟨.bot,ps,[],C.out y,C.m,false,[],[]⟩) hg hB hlent j0 fT (fun b hb=>by grind) hW2 hX2 (v:=v) (r':=.bot) rfl trivial
      simp only[fL] at g3 x3
      have g4:bQ gl {σ with hp:=aS σ.hp (mz ps (C.out y) ps),df:=[]} E3 {a with defers:=[]} w2:=⟨g3.len,g3.tm,g3.hw,trivial⟩
      obtain⟨E5,g5,x5⟩:=SS.iI (gl:=gl) hr3 E3 _ w2 g4
      obtain⟨v2,k1,k2⟩:=qZ T g5 ang
      have aS:settle (ni pm u)= .returning:=by
       unfold ni
       cases pm<;>simp[settle]
      show LeavesIn _ _ _ _ _ _ _ _ _
      rw[aS]
      have hw5:HW gl E5 w2 (cY m out):=g5.hw.less (fun b k hb=>hout b k (fk hb))
      have X5:=(hX0.trans x3).trans x5
      exact⟨v2,k1,E5,k2,hw5,{X5 with own:=fun g ⟨b,k,hb,hgb⟩=>X5.own g ⟨b,k,hout b k (fk hb),hgb⟩}⟩
   grind
  grind
 grind
theorem bh.ofD{G:bN}(T:bA P G){gl:Ctx}{H:Hs}(hΓ:∀C∈Γ,C.holds P gl){C:gu}(hC:C.holds P gl){D:gu}(hD:D.holds P gl){qs:List (Nat×Nat)}{jk:List Nat}(hro:gl.ro=none){rs:List ResultVar}{m:Nat}{ob:List Nat}{f:prod (tU A (iz B []))→Option F.T}
 {fn:Func} {c:Code} (amV:∀vs w,(callFunc jN vs).run P w= .ok (.enter jN vs) w) (hf:P.funcs[jN]? =some fn) (hb:fn.body=some c) (hrs:fn.results.toList=rs) (hnt:fn.ntmps=nt) (hF:F.df= [])
 (ang:∀r:F.T,Mo (js G rs (F.st y0 r))=true)
 (h:∀d,f d=walk P G [] H Γ c gl true (mB nt m (x8 y0 A d) (dg (oU y0 B (AN A d)))) (Tl C ps D qs jk F)):
 (aF G rs jN A B m F ob (.br f)).holds P gl:=by
 refine⟨?_,fun _ _ h=>h.elim⟩
 intro d r hd
 have hd':f d=some r:=hd
 rw[h d] at hd'
 refine⟨amV,?_⟩
 have amQ:=kc T hΓ (fun _=>hro) (fun _=>aJ) hd'
 subst hnt
 have hz:js G fn.results.toList (F.st y0 r)=some ((js G rs (F.st y0 r)).getD .bot):=by rw[hrs];exact ng (ang r)
 have hout:∀b k,(b,k)∈pick ob (F.st y0 r).hp→(F.st y0 r).hp[b]? =some (some k):=fun b k hbk=>jM hbk
 intro E w vs hv hw
 obtain⟨hl,amX⟩:=hv.get
 refine CallsIn.calls (F:=Wd gl) (n:=0) (callsIn_of_wp_defers hf hb trivial ?_ hro) (fun k d hd=>by cases hd)
 have hg:bQ gl (mB fn.ntmps m (x8 y0 A d) (dg (oU y0 B (AN A d)))) E {tmps:=vs.toArray++Array.replicate (fn.ntmps -vs.toArray.size) undef,defers:=[]} w:=by
  refine⟨?_,?_,hw,trivial⟩
  ·simp only[mB,Array.size_append,List.size_toArray,Array.size_replicate,kG,tG]
   rw[←hl];rfl
  ·intro i x hx v hv'
   simp only[mB] at hx
   rw[Array.getElem?_append] at hv'
   simp only[List.getElem?_append] at hx
   split at hx
   ·rename_i hi
    have hl':(x8 y0 A d).length=vs.length:=hl
    rw[aA (by grind)] at hv'
    exact amX i x v hx (by grind)
   ·rw[List.getElem?_replicate] at hx
    split at hx
    ·cases hx;trivial
    grind
 refine wpIn_mono (amQ E _ w hg) ?_
 rintro ex a' w' ⟨e,σ',E',h1,he,h3,h4⟩
 have plain:∀{σ:St},σ.df= []→F.uX σ'=some r→bQ gl σ' E' a' w'→a'.defers= []→LeavesIn (Wd gl) 0 P fn a'.tmps (fun e w'=>∃E',AI E' w' (.ret ((js G rs (F.st y0 r)).getD .bot)) e∧HW gl E' w' (cY m (pick ob (F.st y0 r).hp))∧Ext gl.md (bx (aS (List.replicate m none) (dg (oU y0 B (AN A d)))) E) E w (bx (cY m (pick ob (F.st y0 r).hp)) E') E' w') a'.defers .returning w':=by
  intro σ _ hm hg' hds
  obtain⟨E5,g5,x5⟩:=SS.iI (gl:=gl) hm E' a' w' hg'
  obtain⟨v2,k1,k2⟩:=qZ T g5 hz
  rw[hds]
  have hw5:HW gl E5 w' (cY m (pick ob (F.st y0 r).hp)):=g5.hw.less (fun b k hb=>hout b k (fk hb))
  have X5:=h4.trans x5
  exact⟨v2,k1,E5,k2,hw5,{X5 with own:=fun g ⟨b,k,hb,hgb⟩=>X5.own g ⟨b,k,hout b k (fk hb),hgb⟩}⟩
 have leave:(match σ'.df with
  |[]=>F.uX σ'
  |_=>Mr C ps F C.n σ')=some r→LeavesIn (Wd gl) 0 P fn a'.tmps (fun e w'=>∃E',AI E' w' (.ret ((js G rs (F.st y0 r)).getD .bot)) e∧HW gl E' w' (cY m (pick ob (F.st y0 r).hp))∧Ext gl.md (bx (aS (List.replicate m none) (dg (oU y0 B (AN A d)))) E) E w (bx (cY m (pick ob (F.st y0 r).hp)) E') E' w') a'.defers .returning w':=by
  intro he
  cases hd0:σ'.df with
  |
   nil=>
   rw[hd0] at he
   have hds:a'.defers= []:=by
    have:=h3.df
    rw[hd0] at this
    cases hds:a'.defers with
    |nil=>rfl
    |cons d l=>rw[hds] at this;trivial
   grind
  |
   cons x l=>
   rw[hd0] at he
   exact Im T (pm:=false) (x:=.hJ) he rfl (fun d y hy=>hC.n d y hy) hF hz hout h3 (u:=.nilIface) (Or.inr ⟨rfl,rfl⟩) (fun _=>rfl) h4
 cases e with
 |
  ret=>cases ex with
  |ret=>exact leave he
  |_=>trivial
 |
  normal=>cases ex with
  |normal=>exact leave he
  |_=>trivial
 |exit i=>trivial
 |
  panic v=>
  cases ex with
  |
   panic ch=>
   obtain⟨u,e,hu⟩:=h1
   subst e
   simp only[Tl] at he
   split at he
   ·rename_i q hids hq
    have hV:=(Sh.yg y0 hq).1
    obtain⟨E2,g2,x2⟩:=Wk.dK (gl:=gl) (l:=jk) (σ:=σ') E' a' w' h3
    have hu2:bZ E2 w' v u:=bZ.mono (E:=E') (w:=w') ⟨fun b hb=>rfl,x2.sle⟩ (fun b hb=>by grind) hu
    exact Im T (pm:=true) (x:=v) he hids (fun d y hy=>by have:=hD.p d q y hy;grind) hF hz hout g2 hu2 (fun e=>by cases e) (h4.trans x2)
   grind
  |_=>trivial
def ads:fQ→St→Option St
 | .normal,σ=>some σ
 |_,_=>none
def adt(F:SS):fQ→St→Option F.T
 | .ret,σ=>FH F .ret σ
 |_,_=>none
theorem bh.kX{G:bN}(T:bA P G){gl:Ctx}{H:Hs}(hΓ:∀C∈Γ,C.holds P gl)(hro:gl.ro=none){rs:List ResultVar}{m:Nat}{ob:List Nat}{f:prod (tU A (iz B []))→Option F.T}
 {fn:Func} {c0 X Y:Code}  {o2:Oper} (x:Operand) (d1 d2:Nat) (t t2 e:TypeId) (bs:Nat) (u:Ty) (xs:prod (tU A (iz B []))→List u.den) (σ1:prod (tU A (iz B []))→St)
 (amV:∀vs w,(callFunc jN vs).run P w= .ok (.enter jN vs) w) (hf:P.funcs[jN]? =some fn) (hb:fn.body=some (.seq c0 (.seq (.seq (.region rid #[o1,o2] false) (.cond (.tmp d2) X .skip)) Y))) (hrs:fn.results.toList=rs) (hnt:fn.ntmps=nt) (hF:F.df= [])
 (h1:o1.op= .move x) (hd1:o1.dst=some d1) (hg1:o1.guard=none) (h2:o2.op= .binOp .eql t (.tmp d1) (.const (.slice none 0 0)) t2) (hd2:o2.dst=some d2) (hg2:o2.guard=none) (ht:P.underlying t=some (.slice e))
 (ang:∀r:F.T,Mo (js G rs (F.st y0 r))=true)
 (hA:∀d,walk P G [] H Γ c0 gl true (mB nt m (x8 y0 A d) (dg (oU y0 B (AN A d)))) ads=some (σ1 d))
 (hx:∀d,bC gl (σ1 d).tm x= .val (.slice bs u) (xs d)) (hl:∀d,Nat.blt d1 (σ1 d).tm.length=true) (hl2:∀d b,bC gl (((σ1 d).put (some d1) (.val (.slice bs u) (xs d))).put (some d2) (.val .bool b)).tm (.tmp d2)= .val .bool b)
 (hX:∀d,xs d= []→f d=walk P G [] H Γ X gl true (((σ1 d).put (some d1) (.val (.slice bs u) (xs d))).put (some d2) (.val .bool true)) (adt F))
 (hY:∀d,f d=walk P G [] H Γ Y gl true (((σ1 d).put (some d1) (.val (.slice bs u) (xs d))).put (some d2) (.val .bool false)) (FH F)):
 (aF G rs jN A B m F ob (.br f)).holds P gl:=by
 refine⟨?_,fun _ _ h=>h.elim⟩
 intro d r hd
 have hd':f d=some r:=hd
 refine⟨amV,?_⟩
 subst hnt
 refine AJ.AX T hf hb hro (σe:=F.st y0 r) ?_ ?_ ?_ ?_
 ·refine cJ.seq (cJ.mono (kc T hΓ (fun _=>hro) (fun _=>aJ) (hA d)) ?_)
  intro e' σ he
  cases e' with
  |
   normal=>
   have:σ=σ1 d:=kN he
   subst this
   refine cJ.seq ?_
   refine cJ.Pz x d1 d2 t t2 e bs u (xs d) h1 hd1 hg1 h2 hd2 hg2 (hx d) ht (hl d) ?_
   intro b hbx
   cases b with
   |
    true=>
    refine cJ.cond (hl2 d true) (fun _=>?_) (fun e=>by cases e)
    have hw:=hX d (hbx rfl)
    rw[hd'] at hw
    refine cJ.mono (kc T hΓ (fun _=>hro) (fun _=>aJ) hw.symm) ?_
    intro e2 σ2 he2
    cases e2 with
    |ret=>exact u0 he2
    |_=>trivial
   |
    false=>
    refine cJ.cond (hl2 d false) (fun e=>by cases e) (fun _=>cJ.skip ?_)
    have hw:=hY d
    rw[hd'] at hw
    refine cJ.mono (kc T hΓ (fun _=>hro) (fun _=>aJ) hw.symm) ?_
    intro e2 σ2 he2
    cases e2 with
    |ret=>exact u0 he2
    |normal=>exact u0 he2
    |_=>trivial
  |_=>trivial
 ·show(F.st y0 r).df= []
  simp only[SS.st,SS.mB]
  obtain⟨nt',nh,tm,hp,df⟩:=F
  simp only at hF
  subst hF
  rfl
 ·rw[hrs];exact ng (ang r)
 ·intro b k hbk;exact jM hbk
theorem ik{x:Int}(h1:-9223372036854775808≤x)(h2:x≤9223372036854775807):bq x=x:=by
 grind [IntKind.wrap,IntKind.bits,IntKind.signed]
theorem aY{i:Nat}(h:i≤4611686018427387904):bq ((i:Int)+1)=((i+1:Nat):Int):=by
 rw[ik (by omega) (by omega)];rfl
theorem UD{t:Ty}{xs:List t.den}{i:Nat}(h:i<xs.length):nth t xs (i:Int)=xs[i]:=by
 simp[nth,List.getD,h]
variable{kt:Ty}
theorem iK(hk:kt.keyed=true)(k:kt.den):bl kt k k=true:=(bO hk k k).2 rfl
theorem qR(hk:kt.keyed=true){p k:kt.den}(h:p≠k):bl kt p k=false:=by
 grind [bO]
theorem fP(hk:kt.keyed=true)(k:kt.den)(v:α):∀es:List (kt.den×α),bT kt k (aZ kt k v es)=true
 |[]=>by simp[aZ,bT,iK hk]
 |
  e::es=>by
  simp only[aZ]
  split
  ·simp[bT,iK hk]
  ·simp[bT,fP hk k v es]
theorem lH(hk:kt.keyed=true){p k:kt.den}(h:p≠k)(v:α):∀es:List (kt.den×α),bT kt p (aZ kt k v es)=bT kt p es
 |[]=>by simp[aZ,bT,qR hk h]
 |
  e::es=>by
  simp only[aZ]
  split
  ·rename_i he
   have:=(bO hk k e.1).1 he
   rw[this] at h
   simp[bT,this,qR hk h]
  ·simp[bT,lH hk h v es]
variable{vt:Ty}
theorem dw(hk:kt.keyed=true)(k:kt.den)(v:vt.den):∀es:List (kt.den×vt.den),aP kt vt k (aZ kt k v es)=v
 |[]=>by simp[aZ,aP,iK hk]
 |
  e::es=>by
  simp only[aZ]
  split
  ·simp[aP,iK hk]
  ·rename_i he
   simp[aP,he,dw hk k v es]
theorem dG(hk:kt.keyed=true){p k:kt.den}(h:p≠k)(v:vt.den):∀es:List (kt.den×vt.den),aP kt vt p (aZ kt k v es)=aP kt vt p es
 |[]=>by simp[aZ,aP,qR hk h]
 |
  e::es=>by
  simp only[aZ]
  split
  ·rename_i he
   have:=(bO hk k e.1).1 he
   rw[this] at h
   simp[aP,this,qR hk h]
  ·simp[aP,dG hk h v es]
theorem aN{R:Type}(F:(U→Option R)→U→Option R)(n:Nat)(u:U):aL F (n+1) u=F (aL F n) u:=rfl
theorem Ms{R:Type}{F:(U→Option R)→U→Option R}(I:U→Prop)(μ:U→Nat)(Q:U→Option R→Prop)
 (h:∀rec u,I u→(∀u',I u'→μ u'<μ u→Q u' (rec u'))→Q u (F rec u)):∀n u,I u→μ u<n→Q u (aL F n u):=by
 intro n
 induction n with
 |zero=>grind
 |
  succ n ih=>
  grind [aN]
theorem aG{R:Type}(d:U)(f:U→Option R):aI (some (.brk d)) f=f d:=rfl
theorem dp{R:Type}(r:R)(f:U→Option R):aI (some (.ret r)) f=some r:=rfl
theorem gv{R:Type}(y:YC)(x:Option R):N3 y y x=x:=by unfold N3;grind
theorem qS{R:Type}{F:YC→Option R}{r:R}(h:∀y,F y=some r):yh F=some r:=by
 unfold yh
 rw[dif_pos ⟨r,h⟩]
 have hc:=Classical.choose_spec (⟨r,h⟩:∃r,∀y,F y=some r)
 have:=hc y0
 grind
theorem qT{A R:Type}{xs:List A}{K:A→List A→Option R}{r:R}(hne:xs≠[])(h:∀i(hi:i<xs.length),K xs[i] (xs.eraseIdx i)=some r):ux xs K=some r:=by
 unfold ux
 rw[dif_pos ⟨r,h⟩]
 have hc:=Classical.choose_spec (⟨r,h⟩:∃r,∀i(h:i<xs.length),K xs[i] (xs.eraseIdx i)=some r)
 have h0:0<xs.length:=List.length_pos_iff.2 hne
 grind
theorem gd{c:Prop}[Decidable c]{x y:α}(h:c):(if c then x else y)=x:=aA h
theorem cK{t:Ty}{xs:List t.den}{i:Nat}(h:i<xs.length):nth t xs (i:Int)=xs[i]:=UD h
theorem scan{R:Type}{F:(U→Option (cL β R))→U→Option (cL β R)}(len:Nat)(at_:Nat→U)(b:β)(C:Nat→Prop)(P:R→Prop)
 (step:∀rec i,i<len→(C i∧F rec (at_ i)=rec (at_ (i+1)))∨∃r,P r∧F rec (at_ i)=some (.ret r))
 (stop:∀rec,F rec (at_ len)=some (.brk b)):
 ∀n i,i≤len→len -i<n→((∀j,i≤j→j<len→C j)∧aL F n (at_ i)=some (.brk b))∨∃r,P r∧aL F n (at_ i)=some (.ret r):=by
 intro n
 induction n with
 |zero=>grind
 |
  succ n ih=>
  grind [aN]
theorem sM{n:Nat}(h:n≤aH):n<iB:=by
 have h1:aH=140737488355328:=rfl
 have h2:iB=18446744073709551616:=rfl
 omega
theorem ua{R:Type}{F:(U→Option (cL β R))→U→Option (cL β R)}{L:Nat→U→Option (cL β R)}(hL:L=aL F)(len:Nat)(at_:Nat→U)(b:β)(C:Nat→Prop)(P:R→Prop)
 (step:∀rec i,i<len→(C i∧F rec (at_ i)=rec (at_ (i+1)))∨∃r,P r∧F rec (at_ i)=some (.ret r))
 (stop:∀rec,F rec (at_ len)=some (.brk b)) (n:Nat) (hn:len<n):((∀j,j<len→C j)∧L n (at_ 0)=some (.brk b))∨∃r,P r∧L n (at_ 0)=some (.ret r):=by
 subst hL
 rcases scan len at_ b C P step stop n 0 (by omega) (by omega) with⟨h1,h2⟩|h<;>grind
end Go.Ax
