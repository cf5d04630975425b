/- The machines: what it means to be walked or run, part 4. No condition. -/
import Derived.Test.YtpmlkhjpbjnagaaGreatA3
import Derived.Laws.Cover3
import Derived.RangeFuncRecord
import Derived.RecoverIn
namespace Go.Ax
@[reducible] def prod:List Type→Type
 |[]=>Unit
 |t::l=>t×prod l
@[reducible] def fO:List Type→Type
 |[]=>Unit
 |[t]=>t
 |t::u::l=>t×fO (u::l)
def SF:(l:List Type)→prod l→fO l
 |[],_=>()
 |[_],d=>d.1
 |_::u::l,d=>(d.1,SF (u::l) d.2)
def rQ:(l:List Type)→fO l→prod l
 |[],_=>()
 |[_],d=>(d,())
 |_::u::l,d=>(d.1,rQ (u::l) d.2)
variable{α:Type}
theorem no{e:α}{p:Prop}(h:(none:Option α)=some e):p:=by cases h
theorem qK:∀(l:List Type)(d:prod l),rQ l (SF l d)=d
 |[],_=>rfl
 |[_],_=>rfl
 |_::u::l,d=>by show(d.1,rQ (u::l) (SF (u::l) d.2))=d;rw[qK (u::l) d.2]
inductive Wu where
 |cC (n:Nat)
 |idx
inductive Sh where
 |val (t:Ty)
 |bn
 |own (b:Nat)
 |ko (b:Nat)
 |ptr (b:Nat) (p:List Wu)
 |cd (t:Ty)
 |iv (s:Sh)
 |mp (b:Nat)
 |eN
 |dV
 |fp
 |gY
 |func (f:FuncId) (fs cs:Sh)
 |Dj
 |iface (t:TypeId) (v:Sh)
 |cons (a b:Sh)
 |nil
 |fx0
 |dK (t:Ty)
 |fq (f:FuncId) (t:Ty)
inductive de where
 |var (t:Ty) (s:Sh)
 |row (e:TypeId) (bs:Nat) (t:Ty)
 |map (k v:Ty)
 |lp
 |uM
 |tv (t:Ty) (s:Sh)
 |cG (e:TypeId) (bs:Nat) (t:Ty) (s:Sh)
 |cT (e:TypeId) (bs:Nat) (t:Ty) (e2:TypeId)
 |pmap (k t:Ty) (e2:TypeId)
 |ky (k v:Ty)
 |iq (k:Ty) (l:List (k.den×FuncId))
 |gk (e:TypeId) (bs:Nat) (t:Ty)
def pH:List Wu→List Type→List Type
 |[],l=>l
 | .cC _::p,l=>pH p l
 | .idx::p,l=>Nat::pH p l
def pV:(p:List Wu)→{l:List Type}→prod (pH p l)→Path
 |[],_,_=>[]
 | .cC n::p,_,d=>.cC n::pV p d
 | .idx::p,_,d=>.idx d.1::pV p d.2
def pR:(p:List Wu)→{l:List Type}→prod (pH p l)→prod l
 |[],_,d=>d
 | .cC _::p,_,d=>pR p d
 | .idx::p,_,d=>pR p d.2
def pG:(p:List Wu)→{l:List Type}→Path→prod l→Option (prod (pH p l))
 |[],_,[],d=>some d
 | .cC n::p,_,.cC m::q,d=>if Nat.beq n m then pG p q d else none
 |
  .idx::p,_,.idx i::q,d=>match pG p q d with
  |some e=>some (i,e)
  |none=>none
 |_,_,_,_=>none
theorem Ln:∀{p:List Wu}{l:List Type}{q:Path}{d:prod l}{e:prod (pH p l)},pG p q d=some e→pV p e=q∧pR p e=d
 |
  [],l,q,d,e,h=>by
  cases q with
  |nil=>cases(kH h:d=e);trivial
  |cons s q=>trivial
 |
  .cC n::p,l,q,d,e,h=>by
  cases q with
  |nil=>trivial
  |
   cons s q=>
   cases s with
   |
    cC m=>
    obtain⟨hb,h0⟩:=bJ h
    have hb:=bL hb
    subst hb
    obtain⟨h1,h2⟩:=Ln (p:=p) h0
    exact⟨by simp only[pV];rw[h1],h2⟩
   |idx i=>trivial
 |
  .idx::p,l,q,d,e,h=>by
  cases q with
  |nil=>simp[pG] at h
  |
   cons s q=>
   cases s with
   |cC m=>simp[pG] at h
   |
    idx i=>
    simp only[pG] at h
    split at h
    ·rename_i e' he
     cases h
     obtain⟨h1,h2⟩:=Ln (p:=p) he
     exact⟨by simp only[pV];rw[h1],h2⟩
    ·cases h
def Sh.H:Sh→List Type→List Type
 | .val t,l=>t.den::l
 | .fq _ t,l=>t.den::l
 | .ko _,l=>Nat::Nat::l
 | .ptr _ p,l=>pH p l
 | .cd t,l=>t.den::l
 | .Dj,l=>Nat::l
 | .func _ fs cs,l=>fs.H (cs.H l)
 | .iface _ v,l=>v.H l
 | .iv v,l=>v.H l
 | .cons a b,l=>a.H (b.H l)
 |_,l=>l
def Sh.R:(s:Sh)→{l:List Type}→prod (s.H l)→prod l
 | .val _,_,d=>d.2
 | .fq _ _,_,d=>d.2
 | .ko _,_,d=>d.2.2
 | .ptr _ p,_,d=>pR p d
 | .cd _,_,d=>d.2
 | .Dj,_,d=>d.2
 | .func _ fs cs,_,d=>cs.R (fs.R d)
 | .iface _ v,_,d=>v.R d
 | .iv v,_,d=>v.R d
 | .cons a b,_,d=>b.R (a.R d)
 | .bn,_,d| .own _,_,d| .mp _,_,d| .eN,_,d| .dV,_,d| .fp,_,d| .gY,_,d| .nil,_,d| .dK _,_,d| .fx0,_,d=>d
def Sh.V(y:YC):(s:Sh)→{l:List Type}→prod (s.H l)→AV
 | .val t,_,d=>.val t d.1
 | .fq f t,_,d=>.fq f t d.1
 | .ko b,_,d=>.ko b d.1 d.2.1
 | .ptr b p,_,d=>.ptr b (pV p d)
 | .cd t,_,d=>.cd t d.1
 | .func f fs cs,_,d=>.func (.func f) (fs.V y d) (cs.V y (fs.R d))
 | .iface t v,_,d=>.iface t (v.V y d)
 | .iv v,_,d=>.iv (v.V y d)
 | .cons a b,_,d=>.cons (a.V y d) (b.V y (a.R d))
 | .bn,_,_=>.bn
 | .own b,_,_=>.own b
 | .mp b,_,_=>.mp b
 | .eN,_,_=>.eN
 | .dV,_,_=>.dV
 | .fp,_,_=>.fp
 | .gY,_,_=>.gY
 | .Dj,_,d=>.func (.yield d.1) .nil .nil
 | .nil,_,_=>.nil
 | .fx0,_,_=>.fx
 | .dK t,_,_=>.dK t
def mf{t u:Ty}(h:Ty.same u t=true)(x:u.den):t.den:=Ty.aB h▸x
theorem yU{t u:Ty}(h:Ty.same u t=true)(x:u.den):AV.val t (mf h x)= .val u x:=by
 have e:=Ty.aB h
 subst e;rfl
theorem EZ{f:FuncId}{t u:Ty}(h:Ty.same u t=true)(x:u.den):AV.fq f t (mf h x)= .fq f u x:=by
 have e:=Ty.aB h
 subst e;rfl
theorem E6{t u:Ty}(h:Ty.same u t=true)(x:u.den):AV.cd t (mf h x)= .cd u x:=by
 have e:=Ty.aB h
 subst e;rfl
def Sh.G:(s:Sh)→{l:List Type}→AV→prod l→Option (prod (s.H l))
 |
  .val t,_,x,d=>match x with
  | .val u x=>if h:Ty.same u t=true then some (mf h x,d) else none
  |_=>none
 |
  .fq f t,_,x,d=>match x with
  | .fq g u x=>if Nat.beq f g then(if h:Ty.same u t=true then some (mf h x,d) else none) else none
  |_=>none
 |
  .cd t,_,x,d=>match x with
  | .cd u x=>if h:Ty.same u t=true then some (mf h x,d) else none
  |_=>none
 |
  .ko b,_,x,d=>match x with
  | .ko c i j=>if Nat.beq b c then some (i,j,d) else none
  |_=>none
 |
  .ptr b p,_,x,d=>match x with
  | .ptr c q=>if Nat.beq b c then pG p q d else none
  |_=>none
 |
  .func f fs cs,_,x,d=>match x with
  |
   .func (.func g) xs ys=>if Nat.beq f g then(match cs.G ys d with
   |some e=>fs.G xs e
   |none=>none) else none
  |_=>none
 |
  .Dj,_,x,d=>match x with
  | .func (.yield g) .nil .nil=>some (g,d)
  |_=>none
 |
  .iface t v,_,x,d=>match x with
  | .iface u x=>if Nat.beq t u then v.G x d else none
  |_=>none
 |
  .iv v,_,x,d=>match x with
  | .iv x=>v.G x d
  |_=>none
 |
  .cons a b,_,x,d=>match x with
  |
   .cons x y=>(match b.G y d with
   |some e=>a.G x e
   |none=>none)
  |_=>none
 |
  .bn,_,x,d=>match x with
  | .bn=>some d
  |_=>none
 |
  .eN,_,x,d=>match x with
  | .eN=>some d
  |_=>none
 |
  .dV,_,x,d=>match x with
  | .dV=>some d
  |_=>none
 |
  .fp,_,x,d=>match x with
  | .fp=>some d
  |_=>none
 |
  .gY,_,x,d=>match x with
  | .gY=>some d
  |_=>none
 |
  .nil,_,x,d=>match x with
  | .nil=>some d
  |_=>none
 |
  .fx0,_,x,d=>match x with
  | .fx=>some d
  |_=>none
 |
  .own b,_,x,d=>match x with
  | .own c=>if Nat.beq b c then some d else none
  |_=>none
 |
  .mp b,_,x,d=>match x with
  | .mp c=>if Nat.beq b c then some d else none
  |_=>none
 |
  .dK t,_,x,d=>match x with
  | .dK u=>if Ty.same t u then some d else none
  |_=>none
set_option maxHeartbeats 2000000 in
theorem Sh.ya(y:YC):∀{s:Sh}{l:List Type}{x:AV}{d:prod l}{e:prod (s.H l)},s.G x d=some e→s.V y e=x∧s.R e=d:=by
 intro s
 induction s with
 |
  val t=>
  intro l x d e h
  cases x<;>first|exact no h|skip
  rename_i u z
  replace h:(if hh:Ty.same u t=true then some (mf hh z,d) else none)=some e:=h
  split at h
  ·rename_i hs;cases h;exact⟨yU hs _,rfl⟩
  ·cases h
 |
  cd t=>
  intro l x d e h
  cases x<;>first|exact no h|skip
  rename_i u z
  replace h:(if hh:Ty.same u t=true then some (mf hh z,d) else none)=some e:=h
  split at h
  ·rename_i hs;cases h;exact⟨E6 hs _,rfl⟩
  ·cases h
 |
  fq f t=>
  intro l x d e h
  cases x<;>first|exact no h|skip
  rename_i g u z
  replace h:(if Nat.beq f g then(if hh:Ty.same u t=true then some (mf hh z,d) else none) else none)=some e:=h
  split at h
  ·rename_i hf
   have:=bL hf;subst this
   split at h
   ·rename_i hs;cases h;exact⟨EZ hs _,rfl⟩
   ·cases h
  ·cases h
 |
  ko b=>
  intro l x d e h
  cases x<;>first|exact no h|skip
  rename_i c i j
  replace h:(if Nat.beq b c then some (i,j,d) else none)=some e:=h
  split at h
  ·rename_i hs;cases h;have:=bL hs;subst this;trivial
  ·cases h
 |
  ptr b p=>
  intro l x d e h
  cases x<;>first|exact no h|skip
  rename_i c q
  replace h:(if Nat.beq b c then pG p q d else none)=some e:=h
  obtain⟨hs,h0⟩:=bJ h
  have:=bL hs;subst this
  obtain⟨h1,h2⟩:=Ln h0
  exact⟨by simp only[Sh.V];rw[h1],h2⟩
 |
  func f fs cs ih1 ih2=>
  intro l x d e h
  cases x with
  |
   func g xs ys=>
   cases g with
   |
    func g=>
    replace h:(if Nat.beq f g then(match cs.G ys d with
     |some e=>fs.G xs e
     |none=>none) else none)=some e:=h
    split at h
    ·rename_i hs
     have:=bL hs;subst this
     split at h
     ·rename_i e' he
      obtain⟨a1,a2⟩:=ih2 he
      obtain⟨b1,b2⟩:=ih1 h
      grind [Sh.V,Sh.R]
     ·cases h
    ·cases h
   |_=>exact no h
  |_=>exact no h
 |
  iv v ih=>
  intro l x d e h
  cases x<;>first|exact no h|skip
  rename_i z
  replace h:v.G z d=some e:=h
  obtain⟨b1,b2⟩:=ih h
  exact⟨by simp only[Sh.V];rw[b1],b2⟩
 |
  iface t v ih=>
  intro l x d e h
  cases x<;>first|exact no h|skip
  rename_i u z
  replace h:(if Nat.beq t u then v.G z d else none)=some e:=h
  obtain⟨hs,h0⟩:=bJ h
  have:=bL hs;subst this
  obtain⟨b1,b2⟩:=ih h0
  exact⟨by simp only[Sh.V];rw[b1],b2⟩
 |
  cons a b ih1 ih2=>
  intro l x d e h
  cases x<;>first|exact no h|skip
  rename_i x y'
  replace h:(match b.G y' d with
   |some e=>a.G x e
   |none=>none)=some e:=h
  split at h
  ·rename_i e' he
   obtain⟨a1,a2⟩:=ih2 he
   obtain⟨b1,b2⟩:=ih1 h
   grind [Sh.V,Sh.R]
  ·cases h
 |
  own b=>
  intro l x d e h
  cases x<;>first|exact no h|skip
  rename_i c
  replace h:(if Nat.beq b c then some d else none)=some e:=h
  split at h
  ·rename_i hs;cases h;have:=bL hs;subst this;trivial
  ·cases h
 |
  mp b=>
  intro l x d e h
  cases x<;>first|exact no h|skip
  rename_i c
  replace h:(if Nat.beq b c then some d else none)=some e:=h
  split at h
  ·rename_i hs;cases h;have:=bL hs;subst this;trivial
  ·cases h
 |
  dK t=>
  intro l x d e h
  cases x<;>first|exact no h|skip
  rename_i u
  replace h:(if Ty.same t u then some d else none)=some e:=h
  split at h
  ·rename_i hs;cases h;have:=Ty.aB hs;subst this;trivial
  ·cases h
 |
  Dj=>
  intro l x d e h
  cases x with
  |
   func g xs ys=>
   cases g with
   |
    yield g=>
    cases xs<;>first|exact no h|skip
    cases ys<;>first|exact no h|skip
    replace h:some (g,d)=some e:=h
    cases h;trivial
   |_=>exact no h
  |_=>exact no h
 |
  _=>
  intro l x d e h
  cases x<;>first|exact no h|skip
  replace h:some d=some e:=h
  cases h
  exact⟨rfl,rfl⟩
def de.H:de→List Type→List Type
 | .var _ s,l=>s.H l
 | .row _ _ t,l=>List t.den::l
 | .map k v,l=>List (k.den×v.den)::l
 | .lp,l=>YC::Nat::l
 | .uM,l=>l
 | .tv _ s,l=>Nat::s.H l
 | .cG _ _ t s,l=>List t.den::Nat::s.H l
 | .cT _ _ t _,l=>List t.den::l
 | .pmap k t _,l=>List (k.den×t.den)::l
 | .ky k v,l=>List (k.den×v.den)::l
 | .iq _ _,l=>l
 | .gk _ _ t,l=>List t.den::l
def de.R:(s:de)→{l:List Type}→prod (s.H l)→prod l
 | .var _ s,_,d=>s.R d
 | .row _ _ _,_,d=>d.2
 | .map _ _,_,d=>d.2
 | .lp,_,d=>d.2.2
 | .uM,_,d=>d
 | .tv _ s,_,d=>s.R d.2
 | .cG _ _ _ s,_,d=>s.R d.2.2
 | .cT _ _ _ _,_,d=>d.2
 | .pmap _ _ _,_,d=>d.2
 | .ky _ _,_,d=>d.2
 | .iq _ _,_,d=>d
 | .gk _ _ _,_,d=>d.2
def Xp{k:Ty}:List (k.den×FuncId)→List (k.den×AV)
 |[]=>[]
 |x::l=>(x.1,.func (.func x.2) .nil .nil)::Xp l
def O6{k:Ty}:List (k.den×AV)→List (k.den×FuncId)→Bool
 |[],[]=>true
 |
  x::l,z::m=>(match x.2 with
  | .func (.func f) .nil .nil=>Nat.beq f z.2
  |_=>false)&&bl k x.1 z.1&&O6 l m
 |_,_=>false
theorem HE{k:Ty}(hk:k.keyed=true):∀{l:List (k.den×AV)}{m:List (k.den×FuncId)},O6 l m=true→Xp m=l
 |[],[],_=>rfl
 |[],_::_,h=>by cases h
 |_::_,[],h=>by cases h
 |
  x::l,z::m,h=>by
  simp only[O6,bj] at h
  obtain⟨⟨h1,h2⟩,h3⟩:=h
  have e:=(bN hk _ _).1 h2
  obtain⟨x1,x2⟩:=x
  simp only at e h1
  split at h1
  ·have:=bL h1
   subst this;subst e
   simp only[Xp]
   rw[HE hk h3]
  ·cases h1
def de.V(y:YC):(s:de)→{l:List Type}→prod (s.H l)→aO
 | .var t s,_,d=>.var t (s.V y d)
 | .row e bs t,_,d=>.row e bs t d.1
 | .map k v,_,d=>.map k v d.1
 | .lp,_,d=>.lp d.1 d.2.1
 | .uM,_,_=>.uM
 | .tv t s,_,d=>.tv d.1 t (s.V y d.2)
 | .cG e bs t s,_,d=>.cG e bs t d.1 d.2.1 (s.V y d.2.2)
 | .cT e bs t e2,_,d=>.cT e bs t d.1 e2 none
 | .pmap k t e2,_,d=>.pmap k t d.1 e2 none
 | .ky k v,_,d=>.ky k v d.1 none
 | .iq k l,_,_=>.iq k (Xp l)
 | .gk e bs t,_,d=>.gk e bs t d.1
def HF{t u:Ty}(h:Ty.same u t=true)(x:List u.den):List t.den:=Ty.aB h▸x
def Lo{t u t' u':Ty}(h:Ty.same u t=true)(h':Ty.same u' t'=true)(x:List (u.den×u'.den)):List (t.den×t'.den):=Ty.aB h▸Ty.aB h'▸x
def Xq{t u:Ty}(h:Ty.same u t=true)(x:List (u.den×AV)):List (t.den×AV):=Ty.aB h▸x
def de.G:(s:de)→{l:List Type}→aO→prod l→Option (prod (s.H l))
 | .var t s,_,.var u x,d=>if Ty.same u t then s.G x d else none
 | .row e bs t,_,.row e' bs' u xs,d=>if Nat.beq e e'&&Nat.beq bs bs' then(if h:Ty.same u t=true then some (HF h xs,d) else none) else none
 | .map k v,_,.map k' v' es,d=>if h:Ty.same k' k=true then(if h':Ty.same v' v=true then some (Lo h h' es,d) else none) else none
 | .uM,_,.uM,d=>some d
 | .lp,_,.lp y j,d=>some (y,j,d)
 |
  .tv t s,_,.tv g u x,d=>if Ty.same u t then(match s.G x d with
  |some r=>some (g,r)
  |none=>none) else none
 |
  .cG e bs t s,_,.cG e' bs' u xs i x,d=>if Nat.beq e e'&&Nat.beq bs bs' then(if h:Ty.same u t=true then(match s.G x d with
  |some r=>some (HF h xs,i,r)
  |none=>none) else none) else none
 | .cT e bs t e2,_,.cT e' bs' u xs e2' none,d=>if Nat.beq e e'&&Nat.beq bs bs'&&Nat.beq e2 e2' then(if h:Ty.same u t=true then some (HF h xs,d) else none) else none
 | .pmap k t e2,_,.pmap k' t' es e2' none,d=>if Nat.beq e2 e2' then(if h:Ty.same k' k=true then(if h':Ty.same t' t=true then some (Lo h h' es,d) else none) else none) else none
 | .ky k v,_,.ky k' v' es none,d=>if h:Ty.same k' k=true then(if h':Ty.same v' v=true then some (Lo h h' es,d) else none) else none
 | .iq k l,_,.iq k' l',d=>if h:Ty.same k' k=true then(if k.keyed&&O6 (Xq h l') l then some d else none) else none
 | .gk e bs t,_,.gk e' bs' u xs,d=>if Nat.beq e e'&&Nat.beq bs bs' then(if h:Ty.same u t=true then some (HF h xs,d) else none) else none
 |_,_,_,_=>none
theorem de.ya(y:YC){s:de}{l:List Type}{x:aO}{d:prod l}{e:prod (s.H l)}(h:s.G x d=some e):s.V y e=x∧s.R e=d:=by
 cases s with
 |
  var t s=>
  cases x<;>simp only[de.G] at h<;>try cases h
  obtain⟨hs,h0⟩:=bJ h
  have:=Ty.aB hs;subst this
  obtain⟨h1,h2⟩:=Sh.ya y h0
  exact⟨by simp only[de.V];rw[h1],h2⟩
 |
  row e bs t=>
  cases x<;>simp only[de.G] at h<;>try cases h
  split at h
  ·rename_i hs
   simp only[bj] at hs
   have e1:=bL hs.1;subst e1
   have e2:=bL hs.2;subst e2
   split at h
   ·rename_i ht
    cases h
    have e3:=Ty.aB ht;subst e3
    trivial
   grind
  grind
 |
  gk e bs t=>
  cases x<;>simp only[de.G] at h<;>try cases h
  split at h
  ·rename_i hs
   simp only[bj] at hs
   have e1:=bL hs.1;subst e1
   have e2:=bL hs.2;subst e2
   split at h
   ·rename_i ht
    cases h
    have e3:=Ty.aB ht;subst e3
    trivial
   grind
  grind
 |
  map k v=>
  cases x<;>simp only[de.G] at h<;>try cases h
  split at h
  ·rename_i hs
   split at h
   ·rename_i ht
    cases h
    have e1:=Ty.aB hs;subst e1
    have e3:=Ty.aB ht;subst e3
    trivial
   grind
  grind
 |uM=>cases x<;>simp only[de.G] at h<;>cases h;trivial
 |lp=>cases x<;>simp only[de.G] at h<;>cases h;trivial
 |
  tv t s=>
  cases x<;>simp only[de.G] at h<;>try cases h
  obtain⟨hs,h0⟩:=bJ h
  have:=Ty.aB hs;subst this
  split at h0
  ·rename_i r hr
   cases h0
   obtain⟨h1,h2⟩:=Sh.ya y hr
   exact⟨by simp only[de.V];rw[h1],h2⟩
  grind
 |
  cG e0 bs t s=>
  cases x with
  |
   cG e' bs' u xs i v=>
   simp only[de.G] at h
   obtain⟨hs,h0⟩:=bJ h
   clear h
   simp only[bj] at hs
   have e1:=bL hs.1;subst e1
   have e2:=bL hs.2;subst e2
   by_cases ht:Ty.same u t=true
   ·rw[dif_pos ht] at h0
    cases hr:s.G v d with
    |none=>grind
    |
     some r=>
     rw[hr] at h0
     cases h0
     have e3:=Ty.aB ht;subst e3
     obtain⟨g1,g2⟩:=Sh.ya y hr
     exact⟨by simp only[de.V];rw[g1];rfl,g2⟩
   grind
  |_=>trivial
 |
  cT e bs t e2=>
  cases x with
  |
   cT e' bs' u xs e2' f=>
   cases f with
   |some f=>trivial
   |
    none=>
    simp only[de.G] at h
    obtain⟨hs,h0⟩:=bJ h
    clear h
    simp only[bj] at hs
    have e1:=bL hs.1.1;subst e1
    have e2:=bL hs.1.2;subst e2
    have e3:=bL hs.2;subst e3
    by_cases ht:Ty.same u t=true
    ·rw[dif_pos ht] at h0
     cases h0
     have e3:=Ty.aB ht;subst e3
     trivial
    grind
  |_=>trivial
 |
  pmap k t e2=>
  cases x with
  |
   pmap k' t' es e2' f=>
   cases f with
   |some f=>trivial
   |
    none=>
    simp only[de.G] at h
    obtain⟨hs,h0⟩:=bJ h
    clear h
    have e3:=bL hs;subst e3
    by_cases ht:Ty.same k' k=true
    ·rw[dif_pos ht] at h0
     by_cases ht':Ty.same t' t=true
     ·rw[dif_pos ht'] at h0
      cases h0
      have e3:=Ty.aB ht;subst e3
      have e4:=Ty.aB ht';subst e4
      trivial
     grind
    grind
  |_=>trivial
 |
  ky k v=>
  cases x with
  |
   ky k' v' es c=>
   cases c with
   |some c=>trivial
   |
    none=>
    simp only[de.G] at h
    by_cases ht:Ty.same k' k=true
    ·rw[dif_pos ht] at h
     by_cases ht':Ty.same v' v=true
     ·rw[dif_pos ht'] at h
      cases h
      have e3:=Ty.aB ht;subst e3
      have e4:=Ty.aB ht';subst e4
      trivial
     grind
    grind
  |_=>trivial
 |
  iq k l=>
  cases x with
  |
   iq k' l'=>
   simp only[de.G] at h
   by_cases ht:Ty.same k' k=true
   ·rw[dif_pos ht] at h
    split at h
    ·rename_i hc
     cases h
     simp only[bj] at hc
     have e3:=Ty.aB ht;subst e3
     refine⟨?_,rfl⟩
     show aO.iq _ (Xp l)=_
     rw[HE hc.1 hc.2]
     rfl
    grind
   grind
  |_=>trivial
def Wv:List (Nat×Sh)→List Type→List Type
 |[],l=>l
 |(_,s)::m,l=>s.H (Wv m l)
def tmV(y:YC):(m:List (Nat×Sh))→{l:List Type}→prod (Wv m l)→List (Nat×AV)
 |[],_,_=>[]
 |(i,s)::m,_,d=>(i,s.V y d)::tmV y m (s.R d)
def Xr:(m:List (Nat×Sh))→{l:List Type}→prod (Wv m l)→prod l
 |[],_,d=>d
 |(_,s)::m,_,d=>Xr m (s.R d)
def tmG:(m:List (Nat×Sh))→{l:List Type}→List AV→prod l→Option (prod (Wv m l))
 |[],_,_,d=>some d
 |
  (i,s)::m,_,tm,d=>match tm[i]? with
  |
   some x=>match tmG m tm d with
   |some e=>s.G x e
   |none=>none
  |none=>none
theorem Lp(y:YC):∀{m:List (Nat×Sh)}{l:List Type}{tm:List AV}{d:prod l}{e:prod (Wv m l)},tmG m tm d=some e→(∀i x,(i,x)∈tmV y m e→tm[i]? =some x)∧Xr m e=d
 |[],l,tm,d,e,h=>by cases h;exact⟨(fun i x hx=>by cases hx),rfl⟩
 |
  (i,s)::m,l,tm,d,e,h=>by
  simp only[tmG] at h
  split at h
  ·rename_i x hx
   split at h
   ·rename_i e' he
    obtain⟨h1,h2⟩:=Lp y he
    obtain⟨g1,g2⟩:=Sh.ya y h
    refine⟨?_,by simp only[Xr];grind⟩
    intro j z hz
    simp only[tmV,fb,ir] at hz
    grind
   grind
  grind
def iw:List (Nat×de)→List Type→List Type
 |[],l=>l
 |(_,s)::m,l=>s.H (iw m l)
def oS(y:YC):(m:List (Nat×de))→{l:List Type}→prod (iw m l)→List (Nat×aO)
 |[],_,_=>[]
 |(i,s)::m,_,d=>(i,s.V y d)::oS y m (s.R d)
def Ww:(m:List (Nat×de))→{l:List Type}→prod (iw m l)→prod l
 |[],_,d=>d
 |(_,s)::m,_,d=>Ww m (s.R d)
def Xs:(m:List (Nat×de))→{l:List Type}→List (Option aO)→prod l→Option (prod (iw m l))
 |[],_,_,d=>some d
 |
  (i,s)::m,_,hp,d=>match hp[i]? with
  |
   some (some x)=>match Xs m hp d with
   |some e=>s.G x e
   |none=>none
  |_=>none
theorem E7(y:YC):∀{m:List (Nat×de)}{l:List Type}{hp:List (Option aO)}{d:prod l}{e:prod (iw m l)},Xs m hp d=some e→(∀i x,(i,x)∈oS y m e→hp[i]? =some (some x))∧Ww m e=d
 |[],l,hp,d,e,h=>by cases h;exact⟨(fun i x hx=>by cases hx),rfl⟩
 |
  (i,s)::m,l,hp,d,e,h=>by
  simp only[Xs] at h
  split at h
  ·rename_i x hx
   split at h
   ·rename_i e' he
    obtain⟨h1,h2⟩:=E7 y he
    obtain⟨g1,g2⟩:=de.ya y h
    refine⟨?_,by simp only[Ww];grind⟩
    intro j z hz
    simp only[oS,fb,ir] at hz
    grind
   grind
  grind
def tO:List Sh→List Type→List Type
 |[],l=>l
 |s::m,l=>s.H (tO m l)
def xV(y:YC):(m:List Sh)→{l:List Type}→prod (tO m l)→List AV
 |[],_,_=>[]
 |s::m,_,d=>s.V y d::xV y m (s.R d)
def AH:(m:List Sh)→{l:List Type}→prod (tO m l)→prod l
 |[],_,d=>d
 |s::m,_,d=>AH m (s.R d)
def TX:(m:List Sh)→{l:List Type}→List AV→prod l→Option (prod (tO m l))
 |[],_,[],d=>some d
 |
  s::m,_,x::xs,d=>match TX m xs d with
  |some e=>s.G x e
  |none=>none
 |_,_,_,_=>none
theorem AI(y:YC):∀{m:List Sh}{l:List Type}{xs:List AV}{d:prod l}{e:prod (tO m l)},TX m xs d=some e→xV y m e=xs∧AH m e=d
 |
  [],l,xs,d,e,h=>by
  cases xs with
  |nil=>cases h;trivial
  |cons _ _=>trivial
 |
  s::m,l,xs,d,e,h=>by
  cases xs with
  |nil=>simp[TX] at h
  |
   cons x xs=>
   simp only[TX] at h
   split at h
   ·rename_i e' he
    obtain⟨h1,h2⟩:=AI y he
    obtain⟨g1,g2⟩:=Sh.ya y h
    exact⟨by simp only[xV];rw[g1,g2,h1],by simp only[AH];rw[g2,h2]⟩
   ·cases h
structure SS where
 nt:Nat
 nh:Nat
 tm:List (Nat×Sh)
 hp:List (Nat×de)
 df:List Sh
def SS.H(S:SS):List Type:=Wv S.tm (iw S.hp (tO S.df []))
@[reducible] def SS.T (S:SS):Type:=fO S.H
def dg:List (Nat×aO)→List (Nat×Option aO)
 |[]=>[]
 |(i,k)::l=>(i,some k)::dg l
theorem tQ{i:Nat}{k:Option aO}:∀{l:List (Nat×aO)},(i,k)∈dg l→∃b,k=some b∧(i,b)∈l
 |[],h=>by cases h
 |
  (j,b)::l,h=>by
  simp only[dg,fb,ir] at h
  rcases h with⟨rfl,rfl⟩|h
  ·grind
  ·obtain⟨b',e,hm⟩:=tQ h
   exact⟨b',e,dj _ hm⟩
def SS.mw(S:SS)(y:YC)(d:prod S.H):St:=
 ⟨nr (tmV y S.tm d) (List.replicate S.nt .bot),nr (dg (oS y S.hp (Ax.Xr S.tm d))) (List.replicate S.nh none),xV y S.df (Ww S.hp (Ax.Xr S.tm d))⟩
def SS.st(S:SS)(y:YC)(t:S.T):St:=S.mw y (rQ S.H t)
def SS.get(S:SS)(σ:St):Option S.T:=
 if Nat.beq σ.tm.length S.nt&&Nat.beq σ.hp.length S.nh then(match TX S.df (l:=[]) σ.df () with
  |
   some d1=>match Xs S.hp σ.hp d1 with
   |
    some d2=>match tmG S.tm σ.tm d2 with
    |some d3=>some (SF S.H d3)
    |none=>none
   |none=>none
  |none=>none) else none
theorem pA:∀{l:List (Nat×α)}{m:List α},(nr l m).length=m.length
 |[],_=>rfl
 |(i,x)::l,m=>by rw[nr,pA,ji]
theorem lB{i:Nat}{x:α}:∀{l:List (Nat×α)}{m:List α},(nr l m)[i]? =some x→(i,x)∈l∨m[i]? =some x
 |[],_,h=>Or.inr h
 |
  (j,z)::l,m,h=>by
  rw[nr] at h
  rcases lB h with h|h
  ·exact Or.inl (dj _ h)
  ·rw[dt] at h
   split at h
   ·rename_i e
    split at h
    ·cases h;subst e;exact Or.inl (cm ..)
    ·cases h
   ·exact Or.inr h
variable{σ:St}
theorem Wk.sub{gl:Ctx}{σ':St}(hl:σ'.tm.length=σ.tm.length)(ht:∀(i:Nat)(x:AV),σ'.tm[i]? =some x→x= .bot∨σ.tm[i]? =some x)
 (hh:∀(b:Nat)(k:aO),σ'.hp[b]? =some (some k)→σ.hp[b]? =some (some k)) (hd:σ'.df=σ.df):Wk gl σ σ':=by
 intro E a w h
 refine⟨E,⟨by rw[hl];exact h.len,?_,h.hw.less hh,by rw[hd];exact h.df⟩,{Ext.refl (bx σ.hp E) E w with own:=?_ }⟩
 ·intro i x hx v hv
  rcases ht i x hx with e|e
  ·subst e;trivial
  ·exact h.tm i x e v hv
 ·rintro g ⟨b,k,hb,hg⟩
  exact Or.inl ⟨b,k,hh b k hb,hg⟩
theorem SS.gF{gl:Ctx}{S:SS}{y:YC}{t:S.T}(h:S.get σ=some t):Wk gl σ (S.st y t):=by
 unfold SS.get at h
 split at h
 ·rename_i hc
  simp only[bj] at hc
  have l1:=bL hc.1
  have l2:=bL hc.2
  split at h
  ·rename_i d1 h1
   split at h
   ·rename_i d2 h2
    split at h
    ·rename_i d3 h3
     cases h
     have e0:S.st y (SF S.H d3)=S.mw y d3:=congrArg (S.mw y) (qK S.H d3)
     refine Eq.mpr (congrArg (Wk gl σ) e0) ?_
     obtain⟨a1,a2⟩:=AI y h1
     obtain⟨b1,b2⟩:=E7 y h2
     obtain⟨c1,c2⟩:=Lp y h3
     refine Wk.sub ?_ ?_ ?_ ?_
     ·grind [SS.mw,pA]
     ·intro i x hx
      simp only[SS.mw] at hx
      rcases lB hx with hx|hx<;>grind
     ·intro b k hk
      simp only[SS.mw] at hk
      rcases lB hk with hk|hk
      ·grind [tQ]
      grind
     grind [SS.mw]
    grind
   grind
  grind
 grind
inductive Nd where
 |frz (b:Nat) (t:Ty)
 |E8 (c b:Nat)
 |own (c:Nat) (p:Path)
 |pur
def AV.owned:AV→Option Nat
 | .own b| .ko b _ _| .mp b=>some b
 |
  .cons a b=>match a.owned with
  |some c=>some c
  |none=>b.owned
 |_=>none
def acX:Path→Path
 | .cC n::p=>.cC (n+1)::p
 |p=>p
def E9:List Nd→List Nd
 |[]=>[]
 | .own c p::l=>.own c (acX p)::E9 l
 |n::l=>n::E9 l
def Lq:List Nd→List Nd
 |[]=>[]
 | .own c p::l=>.own c (.cC 0::p)::Lq l
 |n::l=>n::Lq l
def mh:Sh→AV→List Nd
 |
  .val t,x=>match x.owned with
  |some b=>[.frz b t]
  |
   none=>match x with
   | .val _ _=>[]
   |_=>[.pur]
 | .cd t,.ptr b _=>[.frz b t]
 | .own c,.own b=>[.E8 c b]
 | .own c,.bn=>[.own c []]
 | .ptr c _,.ptr b _=>[.E8 c b]
 | .ko c,.ko b _ _=>[.E8 c b]
 | .mp c,.mp b=>[.E8 c b]
 | .cons a b,.cons x y=>Lq (mh a x)++E9 (mh b y)
 | .func _ a b,.func _ x y=>mh a x++mh b y
 | .iface _ a,.iface _ x=>mh a x
 |_,_=>[]
def HG:de→aO→List Nd
 | .var _ s,.var _ x=>mh s x
 | .tv _ s,.tv _ _ x=>mh s x
 | .cG _ _ _ s,.cG _ _ _ _ _ x=>mh s x
 | .ky _ _,.ky _ _ _ (some _)=>[.pur]
 |_,_=>[]
def lkN{α:Type}:List (Nat×α)→Nat→Option α
 |[],_=>none
 |(i,x)::l,j=>if Nat.beq i j then some x else lkN l j
def HH:List Nd→List (Nat×Nat)
 |[]=>[]
 | .E8 c b::l=>(c,b)::HH l
 |_::l=>HH l
def Xt:List Nd→Option (Nat×Ty)
 |[]=>none
 | .frz b t::_=>some (b,t)
 |_::l=>Xt l
def SG:List (Nat×Sh)→List AV→List Nd
 |[],_=>[]
 |
  (i,s)::l,tm=>(match tm[i]? with
  |some x=>mh s x
  |none=>[])++SG l tm
def SH:List Sh→List AV→List Nd
 |s::l,x::xs=>mh s x++SH l xs
 |_,_=>[]
def HI(hp:List (Nat×de))(σ:List (Option aO)):Nat→List (Nat×Nat)→List (Nat×Nat)→List Nd→List (Nat×Nat)×List Nd
 |0,_,done,nd=>(done,nd)
 |_+1,[],done,nd=>(done,nd)
 |
  n+1,(c,b)::todo,done,nd=>
  match lkN done c with
  |some _=>HI hp σ n todo done nd
  |
   none=>
   match lkN hp c,σ[b]? with
   |some s,some (some k)=>HI hp σ n (HH (HG s k)++todo) ((c,b)::done) (nd++HG s k)
   |_,_=>HI hp σ n todo ((c,b)::done) nd
def pinned:List (Nat×de)→List (Option aO)→List (Nat×Nat)
 |[],_=>[]
 |
  (c,s)::l,σ=>if Nat.blt c 16 then(c,c)::pinned l σ else(match s with
  | .uM=>(c,c)::pinned l σ
  |_=>pinned l σ)
def HJ(S:SS)(σ:St):List (Nat×Nat)×List Nd:=
 let n0:=SG S.tm σ.tm++SH S.df σ.df
 HI S.hp σ.hp 200 (HH n0++pinned S.hp σ.hp) [] n0
def acY(hp:List (Option aO))(b:Nat)(t:Ty):Ty:=
 match hp[b]? with
 |some (some (.row _ bs u _))=>.slice bs u
 |
  _=>match t with
  | .slice bs u=>.slice bs u
  |_=>.slice 1 (.int .u8)
def HK(S:SS):Nat→St→Option St
 |0,_=>none
 |
  n+1,σ=>match Xt (HJ S σ).2 with
  |none=>some σ
  |
   some (b,t)=>match freeze b (acY σ.hp b t) σ with
   |some σ'=>HK S n σ'
   |none=>none
def TY:List AV→List Nat
 |[]=>[]
 |x::l=>x.ids++TY l
def TZ:List (Option aO)→Nat→List Nat
 |[],_=>[]
 |some k::l,i=>i::(k.ids++TZ l (i+1))
 |none::l,i=>TZ l (i+1)
def Lr:List (Nat×Nat)→List (Nat×Nat)
 |[]=>[]
 |(c,b)::l=>if Nat.beq c b then Lr l else(c,b)::Lr l
def Ls(used:List Nat):List (Nat×Nat)→List (Nat×Nat)→Option (Nat×Nat×List (Nat×Nat))
 |[],_=>none
 |(c,b)::l,acc=>if cq c used then Ls used l ((c,b)::acc) else some (c,b,acc++l)
def Xu(b x:Nat):List (Nat×Nat)→List (Nat×Nat)
 |[]=>[]
 |(c,d)::l=>(c,if Nat.beq d b then x else d)::Xu b x l
def yV(top:Nat):Nat→List (Nat×Nat)→St→Option St
 |_,[],σ=>some σ
 |0,_,_=>none
 |
  n+1,(c,b)::mv,σ=>
  match Ls (TY σ.tm++TY σ.df++TZ σ.hp 0) ((c,b)::mv) [] with
  |
   some (c',b',rest)=>match rename b' c' σ with
   |some σ'=>yV top n rest σ'
   |none=>none
  |
   none=>match rename b top σ with
   |some σ'=>yV top n (Xu b top ((c,b)::mv)) σ'
   |none=>none
def Lt(hp:List (Nat×de))(c:Nat)(f:TypeId→Nat→Ty→Gh)(σ:St):Option St:=
 match lkN hp c with
 |some (.row e bs t)=>(f e bs t).go σ
 |_=>none
def yW(hp:List (Nat×de))(f:Nat→Path→TypeId→Nat→Ty→Gh):List Nd→St→Option St
 |[],σ=>some σ
 |
  .own c p::l,σ=>match Lt hp c (f c p) σ with
  |some σ'=>yW hp f l σ'
  |none=>none
 |_::l,σ=>yW hp f l σ
def AJ(hp:List (Nat×de)):List (Nat×Sh)→St→Option St
 |[],σ=>some σ
 |
  (i,s)::l,σ=>match σ.tm[i]? with
  |
   some x=>match yW hp (fun c _ e bs t=>.yg i c e bs t) (mh s x) σ with
   |some σ'=>AJ hp l σ'
   |none=>none
  |none=>none
def wH(hp:List (Nat×de)):List (Nat×de)→St→Option St
 |[],σ=>some σ
 |
  (i,s)::l,σ=>match σ.hp[i]? with
  |
   some (some k)=>match yW hp (fun c p e bs t=>.sK i p c e bs t) (HG s k) σ with
   |some σ'=>wH hp l σ'
   |none=>none
  |_=>wH hp l σ
def Fb:List Nd→Bool
 |[]=>false
 | .pur::_=>true
 |_::l=>Fb l
def sB:List (Nat×Sh)→St→Option St
 |[],σ=>some σ
 |
  (i,.val t)::l,σ=>match σ.tm[i]? with
  |
   some x=>if Fb (mh (.val t) x) then(match(Gh.Mm i t).go σ with
   |some σ'=>sB l σ'
   |none=>none) else sB l σ
  |none=>none
 |_::l,σ=>sB l σ
def sC:List (Nat×de)→St→Option St
 |[],σ=>some σ
 |
  (i,s)::l,σ=>match σ.hp[i]? with
  |
   some (some k)=>if Fb (HG s k) then(match(Gh.FK i).go σ with
   |some σ'=>sC l σ'
   |none=>none) else sC l σ
  |_=>sC l σ
def Xv:List (Nat×Sh)→List Nat
 |[]=>[]
 |(i,_)::l=>i::Xv l
def Xw:List (Nat×Nat)→List Nat
 |[]=>[]
 |(_,b)::l=>b::Xw l
def SS.uR(
 S:SS) (σ:St):Option S.T:=
 match HK S 40 σ with
 |none=>none
 |
  some σ1=>
  let m:=(HJ S σ1).1
  match(Gh.DO (Xv S.tm) (Xw m)).go σ1 with
  |none=>none
  |
   some σ2=>match yV (S.nh -1) 60 (Lr m) σ2 with
   |none=>none
   |
    some σ3=>match AJ S.hp S.tm σ3 with
    |none=>none
    |
     some σ4=>match wH S.hp S.hp σ4 with
     |none=>none
     |
      some σ5=>match sB S.tm σ5 with
      |none=>none
      |
       some σ6=>match sC S.hp σ6 with
       |none=>none
       |some σ7=>S.get σ7
section
variable{gl:Ctx}
theorem Dk{S:SS}:∀{n:Nat}{σ σ':St},HK S n σ=some σ'→Wk gl σ σ'
 |0,_,_,h=>by cases h
 |
  n+1,σ,σ',h=>by
  simp only[HK] at h
  split at h
  ·cases h;exact Wk.refl gl σ
  ·split at h
   ·rename_i σ1 h1;exact(Wk.freeze h1).trans (Dk h)
   ·cases h
theorem wI{top:Nat}:∀{n:Nat}{mv:List (Nat×Nat)}{σ σ':St},yV top n mv σ=some σ'→Wk gl σ σ'
 |
  _,[],σ,σ',h=>by
  grind [yV,Wk.refl]
 |0,_::_,_,_,h=>by trivial
 |
  n+1,(c,b)::mv,σ,σ',h=>by
  simp only[yV] at h
  split at h
  ·split at h
   ·rename_i σ1 h1;exact(Wk.rename h1).trans (wI h)
   ·cases h
  ·split at h
   ·rename_i σ1 h1;exact(Wk.rename h1).trans (wI h)
   ·cases h
theorem kO{hp:List (Nat×de)}{f:Nat→Path→TypeId→Nat→Ty→Gh}:∀{l:List Nd}{σ σ':St},yW hp f l σ=some σ'→Wk gl σ σ'
 |[],σ,σ',h=>by cases h;exact Wk.refl gl σ
 |
  .own c p::l,σ,σ',h=>by
  simp only[yW] at h
  split at h
  ·rename_i σ1 h1
   unfold Lt at h1
   split at h1
   ·exact(Gh.ok h1).trans (kO h)
   ·cases h1
  ·cases h
 | .frz _ _::l,σ,σ',h=>kO (l:=l) h
 | .E8 _ _::l,σ,σ',h=>kO (l:=l) h
 | .pur::l,σ,σ',h=>kO (l:=l) h
theorem yX{hp:List (Nat×de)}:∀{l:List (Nat×Sh)}{σ σ':St},AJ hp l σ=some σ'→Wk gl σ σ'
 |[],σ,σ',h=>by cases h;exact Wk.refl gl σ
 |
  (i,s)::l,σ,σ',h=>by
  simp only[AJ] at h
  split at h
  ·split at h
   ·rename_i σ1 h1;exact(kO h1).trans (yX h)
   ·cases h
  ·cases h
theorem sD{hp:List (Nat×de)}:∀{l:List (Nat×de)}{σ σ':St},wH hp l σ=some σ'→Wk gl σ σ'
 |[],σ,σ',h=>by cases h;exact Wk.refl gl σ
 |
  (i,s)::l,σ,σ',h=>by
  simp only[wH] at h
  split at h
  ·split at h
   ·rename_i σ1 h1;exact(kO h1).trans (sD h)
   ·cases h
  ·exact sD (l:=l) h
theorem nV:∀{l:List (Nat×Sh)}{σ σ':St},sB l σ=some σ'→Wk gl σ σ'
 |[],σ,σ',h=>by cases h;exact Wk.refl gl σ
 |
  (i,s)::l,σ,σ',h=>by
  cases s with
  |
   val t=>
   simp only[sB] at h
   split at h
   ·split at h
    ·split at h
     ·rename_i σ1 h1;exact(Gh.ok h1).trans (nV h)
     ·cases h
    ·exact nV (l:=l) h
   ·cases h
  |_=>exact nV (l:=l) h
theorem nW:∀{l:List (Nat×de)}{σ σ':St},sC l σ=some σ'→Wk gl σ σ'
 |[],σ,σ',h=>by cases h;exact Wk.refl gl σ
 |
  (i,s)::l,σ,σ',h=>by
  simp only[sC] at h
  split at h
  ·split at h
   ·split at h
    ·rename_i σ1 h1;exact(Gh.ok h1).trans (nW h)
    ·cases h
   ·exact nW (l:=l) h
  ·exact nW (l:=l) h
theorem SS.iF{S:SS}{y:YC}{σ:St}{t:S.T}(h:S.uR σ=some t):Wk gl σ (S.st y t):=by
 unfold SS.uR at h
 split at h
 ·cases h
 rename_i σ1 h1
 simp only at h
 split at h
 ·cases h
 rename_i σ2 h2
 split at h
 ·cases h
 rename_i σ3 h3
 split at h
 ·cases h
 rename_i σ4 h4
 split at h
 ·cases h
 rename_i σ5 h5
 split at h
 ·cases h
 rename_i σ6 h6
 split at h
 ·cases h
 rename_i σ7 h7
 exact((((((Dk h1).trans (Gh.ok h2)).trans (wI h3)).trans (yX h4)).trans (sD h5)).trans (nV h6)).trans ((nW h7).trans (SS.gF h))
end
def Fe:aO:=.row 0 0 .unit []
variable{E:Env}{w:World}
theorem HL{b:Nat}(h:RB E w b Fe):False:=by
 have h:=h.2.2.2.1
 trivial
def wJ(f:aW)(z:Nat):aW:=⟨f.rt,f.rb,[],none,.bot,[(z,some Fe)]⟩
def HM(z:Nat):aW:=⟨[],[z],[],none,.bot,[]⟩
def jI(fs:List aW)(f:aW)(z:Nat)(gs:List aW):List aW:=fs++wJ f z::gs
def Ff(P:Program)(gl:Ctx)(ops:Array Oper)(z:Nat)(j:Nat)(g:aW)(σ:St):Prop:=pv P gl ops j g σ∨(g=HM z∧σ.hp[z]? =some (some Fe))
def nX:List Nat→List AV→List AV
 |[],tm=>tm
 |d::l,tm=>nX l (tm.set d .bot)
theorem tR:∀{l:List Nat}{tm:List AV},(nX l tm).length=tm.length
 |[],_=>rfl
 |d::l,tm=>by unfold nX;rw[tR];simp
theorem tS{i:Nat}{x:AV}:∀{l:List Nat}{tm:List AV},(nX l tm)[i]? =some x→x= .bot∨(i∉l∧tm[i]? =some x)
 |[],_,h=>Or.inr ⟨by simp,h⟩
 |
  d::l,tm,h=>by
  unfold nX at h
  rcases tS h with h|⟨hl,h⟩<;>grind
def wK(fs:List aW)(f:aW)(z:Nat)(gs:List aW)(σ:St):St:=
 ⟨nX (dstsOf (jI fs f z gs)) σ.tm,aS (aS σ.hp f.hw) (eH (kr (jI fs f z gs))),σ.df⟩
variable{OK:Nat→aW→St→Prop}
theorem bU.app:∀{fs gs:List aW}{i:Nat}{σ σ1 σ':St},bU OK i fs σ σ1→bU OK (i+fs.length) gs σ1 σ'→bU OK i (fs++gs) σ σ'
 |[],gs,i,σ,σ1,σ',h,k=>by grind [bU]
 |f::fs,gs,i,σ,σ1,σ',⟨h1,h2,h3⟩,k=>⟨h1,h2,bU.app h3 (by grind)⟩
theorem bU.hl:∀{fs:List aW}{i:Nat}{σ σ':St},bU OK i fs σ σ'→σ'.hp.length=σ.hp.length
 |[],_,_,_,h=>by simp only[bU] at h;grind
 |f::fs,_,σ,_,⟨_,_,h⟩=>by rw[bU.hl h,sx]
def O7(z:Nat)(gs:List aW):Bool:=gs.all fun g=> !cq z (wrote g.hw)
theorem bU.at{z:Nat}{k:Option aO}:∀{fs:List aW}{i:Nat}{σ σ':St},bU OK i fs σ σ'→O7 z fs=true→σ.hp[z]? =some k→σ'.hp[z]? =some k
 |[],_,_,_,h,_,hz=>by grind [bU]
 |
  f::fs,_,σ,_,⟨_,_,h⟩,hn,hz=>by
  simp only[O7,List.all_cons,bj,gX] at hn
  refine bU.at h (by simpa[O7] using hn.2) ?_
  rw[ia,ee (fun hm=>by rw[mV hm] at hn;cases hn.1)]
  exact hz
variable{P:Program}{Q:fL→St→Prop}{id:Nat}
theorem wL{G:bM}(T:bA P G){gl:Ctx}{ops:Array Oper}{draw:Bool}{fs gs:List aW}{f:aW}{z:Nat}{σp σe:St}
 (hc:qz P gl ops 0 fs σ σp) (hp:DL P gl ops fs.length f σp) (hg2:bU (Ff P gl ops z) (fs.length+1) gs (σp.app (wJ f z)) σe) (hnz:O7 z gs=true) (hz:z<σ.hp.length) (hn:fs.length+1+gs.length=ops.size) (fW:draw=true→(mc none ops (jI fs f z gs)&&iV σ (jI fs f z gs))=true)
 (hpl:f.v.plain=true) (hq:Q (.panic f.v) (wK fs f z gs σ)):cI P gl (.region id ops draw) σ Q:=by
 intro E a w hg
 have hzp:(σp.app (wJ f z)).hp[z]? =some (some Fe):=by
  rw[ia]
  simp only[wJ,aS,dt,cj]
  rw[aA (by rw[bU.hl hc];exact hz)]
 have hze:=bU.at hg2 hnz hzp
 have hlen:(jI fs f z gs).length=ops.size:=by simp[jI];omega
 have rest:∀(V:St→Env→World→Prop)(Q:Exit→Act→World→Prop) j g σ1,Ff P gl ops z j g σ1→NF P gl ops Q V j g σ1:=by
  intro V Q j g σ1 h
  rcases h with h|⟨rfl,h⟩
  ·exact h.q
  ·intro σ' ha _ E a w hg
   have:σ'.hp[z]? =some (some Fe):=by rw[ha.hp z (by simp[HM]),h]
   exact(HL (hg.hw.cN z _ this)).elim
 have total:∀Q':Exit→Act→World→Prop,(∀σ2 E2 w2 E' u w',xU gl (dstsOf (jI fs f z gs)) (kr (jI fs f z gs)) σ E w σ2 E2 w2→∀a',bP gl {σ2 with hp:=aS σ2.hp f.hw} E' a' w'→RV E' w' f.v u→Ext gl.md (bx σ2.hp E2) E2 w2 (bx (aS σ2.hp f.hw) E') E' w'→Q' (.panic [{v:=u,recovered:=false}]) a' w')→
  bU (NF P gl ops Q' (xU gl (dstsOf (jI fs f z gs)) (kr (jI fs f z gs)) σ E w)) 0 (jI fs f z gs) σ σe:=by
  intro Q' hQ'
  refine bU.app (hc.mono fun _ _ _=>pv.q) ⟨?_,(fun d hd=>by cases hd),?_⟩
  ·rw[eM]
   intro σ2 ha _ E2 a2 w2 hg2 hv2 K _
   exact hp σ2 ha E2 a2 w2 hg2 K Q' (fun E' u w' q1 q2 q3=>hQ' σ2 E2 w2 E' u w' hv2 a2 q1 q2 q3)
  ·rw[eM]
   exact hg2.mono (rest _ _)
 have post:∀σ2 E2 w2 E' u w',xU gl (dstsOf (jI fs f z gs)) (kr (jI fs f z gs)) σ E w σ2 E2 w2→∀a',bP gl {σ2 with hp:=aS σ2.hp f.hw} E' a' w'→RV E' w' f.v u→Ext gl.md (bx σ2.hp E2) E2 w2 (bx (aS σ2.hp f.hw) E') E' w'→qV gl Q σ E w (.panic [{v:=u,recovered:=false}]) a' w':=by
  intro σ2 E2 w2 E' u w' hv a' q1 q2 q3
  have hwk2:bP gl (wK fs f z gs σ) E' a' w'∧Ext gl.md (bx (aS σ2.hp f.hw) E') E' w' (bx (wK fs f z gs σ).hp E') E' w':=by
   refine⟨⟨?_,?_,q1.hw.less ?_,?_⟩,{Ext.refl (bx (aS σ2.hp f.hw) E') E' w' with own:=?_ }⟩
   ·simp only[wK,tR];rw[q1.len];exact hv.tl
   ·intro i x hx v hv'
    rcases tS hx with hx|⟨hi,hx⟩
    ·subst hx;trivial
    ·exact q1.tm i x (by show σ2.tm[i]? =some x;rw[hv.tm i hi];exact hx) v hv'
   ·intro b k hk
    obtain⟨hb,hk⟩:=dv hk
    show(aS σ2.hp f.hw)[b]? =_
    rw[iC hv.hl (hv.hp b hb)]
    exact hk
   ·show RD E' w' σ.df a'.defers
    rw[←hv.df];exact q1.df
   ·rintro g ⟨b,k,hk,hgb⟩
    obtain⟨hb,hk⟩:=dv hk
    refine Or.inl ⟨b,k,?_,hgb⟩
    rw[iC hv.hl (hv.hp b hb)]
    exact hk
  exact⟨.panic f.v,wK fs f z gs σ,E',⟨u,rfl,RV.jj hpl q2⟩,hq,hwk2.1,(hv.ext.trans q3).trans hwk2.2⟩
 have noend:∀E' a' w',bP gl σe E' a' w'→False:=fun E' a' w' h=>HL (h.hw.cN z _ hze)
 cases draw with
 |false=>exact tF hlen (total _ post) hg (fun E' a' w' h _=>(noend E' a' w' h).elim)
 |
  true=>
  have fW:=fW rfl
  simp only[bj] at fW
  exact tJ T fW.1 fW.2 (fun _ _ _ _ h=>by cases h) (total _ post) hg (fun E' a' w' h _=>(noend E' a' w' h).elim)
theorem Lu{g:Nat}{a:Option Nat}{b:Nat}{c:Array Nat}{d:Nat}{o':Obj}(h:w.heap[g]? =some (.mapIter a b c d)):(setObj g o').run P w= .ok () (w.putObj g o'):=by simp[setObj,Sem.run,h,World.putObj]
theorem Dl(w:World)(ty:TypeId)(g bm since c0:Nat)(seen:Array Nat)(es:Array MapEntry)(clock:Nat)(hg:w.heap[g]? =some (.mapIter (some bm) since seen c0))(hb:w.heap[bm]? =some (.map es clock))(hold:∀x∈es.toList,x.born<since)(hsc:since≤c0):
 ((leftOf es seen).size=0∧(Instr.next (.pointer (some ⟨g,0,none⟩)) false ty).run P w= .ok (.tuple #[.bool false]) w)∨
 ∃e∈(leftOf es seen).toList,∃w1:World,(w1=w∨w1=w.drew)∧(Instr.next (.pointer (some ⟨g,0,none⟩)) false ty).run P w= .ok (.tuple #[.bool true,e.key,e.val]) (w1.putObj g (.mapIter (some bm) since (seen.push e.born) clock)):=by
 simp only[Instr.next,getObj,Sem.run_bind,Sem.run,hg,hb,Result.andThen,next_test_false seen es since c0 hold hsc,eK,dz]
 unfold leftOf
 have hmem:∀x∈(Array.filter (fun e=> !seen.contains e.born) es).toList,x.born<since:=fun x hx=>hold x (by grind)
 generalize Array.filter (fun e=> !seen.contains e.born) es=L at hmem ⊢
 have e1:L.filter (fun x=>decide (x.born<since))=L:=Array.filter_eq_self.2 (fun x hx=>by grind)
 have e2:L.filter (fun x=>decide (x.born≥since))= #[]:=by
  simp_all
 simp only[e1,e2,Array.append_empty]
 by_cases h0:L.size=0
 ·simp_all[Question.forced]
 ·right
  have hne:L.isEmpty=false:=by grind
  simp only[hne,eK,dz,Array.empty_append,Array.size_map]
  have hch:∃(j:Nat)(w1:World),j<L.size∧(w1=w∨w1=w.drew)∧(choose (Question.mapNext L.size)).run P w= .ok j w1:=by
   by_cases hf:L.size≤1
   ·exact⟨0,w,by omega,Or.inl rfl,by simp[choose,Sem.run,Question.forced,hf]⟩
   ·exact⟨_,w.drew,Nat.mod_lt _ (by omega),Or.inr rfl,by
     simp only[choose,Sem.run,Question.forced,qp,hf,dz,Question.cut]
     rfl⟩
  obtain⟨j,w1,hj,hal,amh⟩:=hch
  refine⟨L[j],by simp,w1,hal,?_⟩
  have hg1:w1.heap[g]? =some (.mapIter (some bm) since seen c0):=by
   rcases hal with e|e
   ·grind
   ·rw[e];exact hg
  simp only[amh,Array.getElem?_map,Array.getElem?_eq_getElem hj,Option.map_some,Sem.run_bind,Lu hg1,Result.andThen]
  rfl
theorem Fg{en:Array MapEntry}{seen:Array Nat}(hn:(en.toList.map (·.born)).Nodup){i:Nat}{e:MapEntry}(he:(j4 en seen).toList[i]? =some e):(j4 en (seen.push e.born)).toList=(j4 en seen).toList.eraseIdx i:=by
 have key:∀(l:List MapEntry)(i:Nat)(e:MapEntry),(l.map (·.born)).Nodup→l[i]? =some e→l.filter (fun x=> !(x.born==e.born))=l.eraseIdx i:=by
  intro l
  induction l with
  |nil=>grind
  |
   cons x l ih=>
   intro i e hn h
   have hn':x.born∉l.map (·.born)∧(l.map (·.born)).Nodup:=List.nodup_cons.1 hn
   cases i with
   |
    zero=>
    simp_all
   |
    succ i=>
    grind
 have hl:(j4 en (seen.push e.born)).toList=(j4 en seen).toList.filter (fun x=> !(x.born==e.born)):=by
  simp only[j4,Array.toList_filter,List.filter_filter]
  grind
 grind [j4]
theorem RM.ats{k v:Ty}:∀{es:List MapEntry}{xs:List (k.den×v.den)},RM E w k v es xs→es.length=xs.length∧(∀(i:Nat)(e:MapEntry)(x:k.den×v.den),es[i]? =some e→xs[i]? =some x→bZ E w (.val k x.1) e.key∧bZ E w (.val v x.2) e.val)∧∀i,RM E w k v (es.eraseIdx i) (xs.eraseIdx i)
 |[],[],_=>⟨rfl,fun i e x h=>by simp at h,fun i=>by simp[RM]⟩
 |[],_::_,h=>h.elim
 |_::_,[],h=>h.elim
 |
  e::es,x::xs,⟨h1,h2,h3⟩=>by
  obtain⟨a,b,c⟩:=RM.ats h3
  refine⟨by simp[a],?_,?_⟩
  ·grind
  ·intro i
   cases i with
   |zero=>grind
   |succ i=>simpa using⟨h1,h2,c i⟩
noncomputable def uq{A R:Type}(xs:List A)(K:A→List A→Option R):Option R:=
 @dite _ (∃r,∀i(h:i<xs.length),K xs[i] (xs.eraseIdx i)=some r) (Classical.propDecidable _) (fun h=>some h.choose) (fun _=>none)
theorem Jk{A R:Type}{xs:List A}{K:A→List A→Option R}{r:R}(h:uq xs K=some r)(i:Nat)(hi:i<xs.length):K xs[i] (xs.eraseIdx i)=some r:=by
 unfold uq at h
 split at h<;>grind
variable{o1:Oper}
theorem cI.next{gl:Ctx}{o0:Oper}{s d d1 b:Nat}{kt vt:Ty}{rest:List (kt.den×vt.den)}{cur:Option (kt.den×vt.den)}
 (h0:o0.op= .next (.tmp s) false) (hg0:o0.guard=none) (hd0:o0.dst=some d) (h1:o1.op= .extract (.tmp d) 0) (hg1:o1.guard=none) (hd1:o1.dst=some d1)
 (hs:σ.tm[s]? =some (.ptr b [])) (hb:σ.hp[b]? =some (some (.ky kt vt rest cur))) (hl:Nat.blt d σ.tm.length=true)
 (hq0:rest= []→Q .normal ((σ.put (some d) .bot).put (some d1) (.val .bool false)))
 (hq1:∀i(hi:i<rest.length),Q .normal ((({σ with hp:=σ.hp.set b (some (.ky kt vt (rest.eraseIdx i) (some rest[i])))}:St).put (some d) .bot).put (some d1) (.val .bool true))):
 cI P gl (.region id #[o0,o1] false) σ Q:=by
 intro E a w hg
 obtain⟨g,om,since,seen,c0,q1,q2,q3⟩:=hg.hw.cN b _ hb
 have hlt:d<a.tmps.size:=by rw[hg.len];simp_all
 have hx:a.eval (.tmp s)= .pointer (some ⟨g,0,none⟩):=by
  have hv:=gm hg (.tmp s)
  have:bD gl σ.tm (.tmp s)= .ptr b []:=by simp[bD,hs]
  rw[this] at hv
  obtain⟨g',hg',ev,_⟩:=RV.atom rfl hv
  grind [Ty.off]
 have w0:∀z,Region.wanted o0 z=true:=fun z=>by simp[Region.wanted,hg0]
 have w1:∀z,Region.wanted o1 z=true:=fun z=>by simp[Region.wanted,hg1]
 refine wpIn_region ?_
 have hr:List.range (#[o0,o1]:Array Oper).size= [0,1]:=rfl
 rw[hr]
 have fin:∀(vs:Array Value)(x:Bool)(w':World)(σ':St),(Instr.next (.pointer (some ⟨g,0,none⟩)) false o0.type).run P w= .ok (.tuple vs) w'→vs[0]? =some (.bool x)→bP gl σ' E a w'→Ext gl.md (bx σ.hp E) E w (bx σ'.hp E) E w'→
  Q .normal ((σ'.put (some d) .bot).put (some d1) (.val .bool x))→wpOpsIn (Wd gl) 0 P #[o0,o1] (qV gl Q σ E w) [0,1] a w:=by
  intro vs x w' σ' amh hv0 hg' hext hq
  simp only[wpOpsIn,List.getElem?_toArray,List.getElem?_cons_zero,vV,w0,cj]
  refine⟨fun _ _=>trivial,?_⟩
  rw[Oper.semAt_eq _ _ _ (by grind)]
  have r1:(execOp a.eval o0).run P w= .ok (.value (.tuple vs)) w':=by simp[execOp,h0,hx,amh]
  rw[r1,Oper.uponIn_value,hd0]
  simp only[w1,cj]
  refine⟨fun _ _=>trivial,?_⟩
  rw[Oper.semAt_eq _ _ _ (by grind)]
  have hev:(a.put (some d) (.tuple vs)).eval (.tmp d)= .tuple vs:=by simp[Act.eval,Act.put,hlt]
  have r2:(execOp (a.put (some d) (.tuple vs)).eval o1).run P w'= .ok (.value (.bool x)) w':=by
   simp_all[execOp,Instr.extract]
  rw[r2,Oper.uponIn_value,hd1]
  have ga:=hg'.put (some d) (x:=.bot) (v:=.tuple vs) trivial
  have gb:=ga.put (some d1) (x:=.val .bool x) (v:=.bool x) RV.bool
  exact⟨.normal,_,E,trivial,hq,gb,hext⟩
 have nextNil:om=none→rest= []→wpOpsIn (Wd gl) 0 P #[o0,o1] (qV gl Q σ E w) [0,1] a w:=by
  intro e1 e2
  subst e1
  refine fin #[.bool false] false w σ ?_ rfl hg (Ext.refl _ _ _) (hq0 e2)
  simp only[Instr.next,getObj,Sem.run_bind,Sem.run,q2,Result.andThen]
  rfl
 rcases q3 with⟨e1,e2,_⟩|⟨bm,en,e1,r2,r3,e4,r5,r6,r7,r8⟩
 ·grind
 ·subst e1;subst e4
  obtain⟨m1,m2,m3⟩:=RM.ats r7
  rcases Dl (P:=P) w o0.type g bm since since seen en since q2 r3 r5 (dO _) with⟨z,amh⟩|⟨e,he,w1',hw1,amh⟩
  ·have hr0:rest= []:=by
    grind [leftOf,j4]
   exact fin #[.bool false] false w σ amh rfl hg (Ext.refl _ _ _) (hq0 hr0)
  ·have he:e∈(j4 en seen).toList:=he
   obtain⟨i,hi,hie⟩:=List.mem_iff_getElem.1 he
   have hie':(j4 en seen).toList[i]? =some e:=by grind
   have hir:i<rest.length:=by grind
   have hrm:=Fg r6 hie'
   have hen:e∈en.toList:=by
    grind [j4]
   obtain⟨k1,k2⟩:=m2 i e rest[i] hie' (yG hir)
   have hh:w1'.heap=w.heap:=by rcases hw1 with e|e<;>rw[e]<;>rfl
   have hlg:g<w1'.heap.size:=by grind
   have hne:bm≠g:=fun e=>by grind
   have hoth:∀j,j≠g→(w1'.putObj g (.mapIter (some bm) since (seen.push e.born) since)).heap[j]? =w.heap[j]? :=fun j hj=>by
    grind [World.putObj_heap_other]
   have kp:bE E w E (w1'.putObj g (.mapIter (some bm) since (seen.push e.born) since)):=⟨fun j hj=>hoth j (fun e=>hg.hw.jF b _ g hb q1 (e▸hj)),fun _ h=>h⟩
   have hrb:RB E (w1'.putObj g (.mapIter (some bm) since (seen.push e.born) since)) b (.ky kt vt (rest.eraseIdx i) (some rest[i])):=by
    refine⟨g,some bm,since,seen.push e.born,since,q1,World.putObj_heap_same hlg,Or.inr ⟨bm,en,rfl,r2,by grind,rfl,r5,r6,?_,?_⟩⟩
    ·rw[hrm];exact RM.mono kp (m3 i)
    ·intro x hx
     cases hx
     exact⟨e,seen,rfl,hen,bZ.mono kp (fun _ hb=>by cases hb) k1,bZ.mono kp (fun _ hb=>by cases hb) k2⟩
   have hw2:=hg.hw.write (w':=w1'.putObj g (.mapIter (some bm) since (seen.push e.born) since)) hb (by simp_all) (fun j hj=>hoth j (fun e=>hj (by grind))) hrb
   refine fin #[.bool true,e.key,e.val] true _ {σ with hp:=σ.hp.set b (some (.ky kt vt (rest.eraseIdx i) (some rest[i])))} amh rfl (hg.carry kp (fun _ _=>⟨rfl,rfl,rfl⟩) hw2) ⟨?_,?_,?_,?_,?_,fun _ h=>h,fun _ h=>Or.inl h,fun i hi=>Or.inl (bx.set hb hi),fun _ _=>⟨rfl,rfl,rfl⟩⟩ (hq1 i hir)
   ·rcases hw1 with e|e<;>rw[e]<;>rfl
   ·rcases hw1 with e|e
    ·rw[e];exact Tp.r rfl rfl
    ·rw[e];exact Tp.s rfl rfl
   ·rcases hw1 with e|e<;>rw[e]<;>rfl
   ·simp_all
   ·intro j hj ho
    exact hoth j (fun e=>ho ⟨b,_,hb,by rw[e];exact Or.inl q1⟩)
theorem cI.O8{gl:Ctx}{o2:Oper}{y:Code}(x:Operand)(d1 d2:Nat)(t t2 e:TypeId)(bs:Nat)(u:Ty)(xs:List u.den)
 (h1:o1.op= .move x) (hd1:o1.dst=some d1) (hg1:o1.guard=none) (h2:o2.op= .binOp .eql t (.tmp d1) (.const (.slice none 0 0)) t2) (hd2:o2.dst=some d2) (hg2:o2.guard=none)
 (hx:bD gl σ.tm x= .val (.slice bs u) xs) (ht:P.underlying t=some (.slice e)) (hl:Nat.blt d1 σ.tm.length=true)
 (h:∀b:Bool,(b=true→xs= [])→cI P gl y ((σ.put (some d1) (.val (.slice bs u) xs)).put (some d2) (.val .bool b)) Q):cI P gl (.seq (.region id #[o1,o2] false) y) σ Q:=by
 intro E a w hg
 have hv:=gm hg x
 rw[hx] at hv
 obtain⟨ad,cap,hve,_,_,_,hor⟩:=RV.atom rfl hv
 simp at hve
 have hlt:d1<a.tmps.size:=by rw[hg.len];simp[Nat.blt] at hl;omega
 refine wpIn_seq (wpIn_region ?_)
 have hr:List.range (#[o1,o2]:Array Oper).size= [0,1]:=rfl
 rw[hr]
 have w1:∀z,Region.wanted o1 z=true:=fun z=>by simp[Region.wanted,hg1]
 have w2:∀z,Region.wanted o2 z=true:=fun z=>by simp[Region.wanted,hg2]
 have ga:=hg.put (some d1) hv
 have hb:ad.isNone=true→xs= []:=by
  intro hn
  rcases hor with h0|⟨b,o,cs,e1,_⟩
  ·exact h0
  ·subst e1;cases hn
 have gb:=ga.put (some d2) (x:=.val .bool ad.isNone) (v:=.bool ad.isNone) (RV.eR (Or.inr ⟨rfl,rfl⟩))
 have hfin:=h ad.isNone hb E _ w gb
 simp only[wpOpsIn,List.getElem?_toArray,List.getElem?_cons_zero,vV,w1,cj]
 refine⟨fun _ _=>trivial,?_⟩
 rw[Oper.semAt_eq _ _ _ (by rw[h1];intro c hc;cases hc)]
 have r1:(execOp a.eval o1).run P w= .ok (.value (a.eval x)) w:=by simp[execOp,h1]
 rw[r1,Oper.uponIn_value,hd1]
 simp only[w2,cj]
 refine⟨fun _ _=>trivial,?_⟩
 rw[Oper.semAt_eq _ _ _ (by rw[h2];intro c hc;cases hc)]
 have hev:(a.put (some d1) (a.eval x)).eval (.tmp d1)= .slice ad xs.length cap:=by
  have:(a.put (some d1) (a.eval x)).eval (.tmp d1)=a.eval x:=by
   generalize a.eval x=v
   simp[Act.eval,Act.put,hlt]
  rw[this,hve]
 have r2:(execOp (a.put (some d1) (a.eval x)).eval o2).run P w= .ok (.value (.bool ad.isNone)) w:=by
  have hq:=run_equal_slice_nil (P:=P) w t e ad xs.length cap ht
  have hc:(a.put (some d1) (a.eval x)).eval (.const (.slice none 0 0))= .slice none 0 0:=rfl
  simp[execOp,h2,hev,hc,eqGuard,binOp,hq]
 rw[r2,Oper.uponIn_value,hd2]
 simp only[Exit.then]
 refine wpIn_mono hfin ?_
 rintro ex a' w' ⟨x',σ',E',k1,k2,k3,k4⟩
 exact⟨x',σ',E',k1,k2,k3,k4⟩
variable{hp:List (Option aO)}
theorem HW.frame{gl:Ctx}(h:HW gl E w hp){g:Nat}{o:Obj}(hS:¬E.S g)(hO:¬bx hp E g):bE E w E (w.putObj g o)∧HW gl E (w.putObj g o) hp:=by
 have kp:bE E w E (w.putObj g o):=⟨fun b hb=>World.putObj_heap_other (fun e=>hS (e▸hb)),fun _ h=>h⟩
 exact⟨kp,fun b k hb=>RB.mono kp (fun _ _=>⟨rfl,rfl,rfl⟩) (fun i hi=>World.putObj_heap_other (fun e=>hO ⟨b,k,hb,by grind⟩)) (fun _ _ h=>h) (h.cN b k hb),h.dZ,h.dA,fun i hi=>by simpa using h.slt i hi,h.gG kp,fun b k g hb hg=>by simpa using h.uj b k g hb hg⟩
theorem bP.frame{gl:Ctx}{a:Act}(h:bP gl σ E a w){g:Nat}{o:Obj}(hS:¬E.S g)(hO:¬bx σ.hp E g):bP gl σ E a (w.putObj g o):=by
 obtain⟨kp,hw⟩:=h.hw.frame (o:=o) hS hO
 exact h.carry kp (fun _ _=>⟨rfl,rfl,rfl⟩) hw
variable{O:Nat→Prop}
theorem Ext.put{gl:Ctx}{g:Nat}{o:Obj}(h:O g):Ext gl.md O E w O E (w.putObj g o):=
 ⟨rfl,Tp.r rfl rfl,rfl,by simp,fun i _ hi=>World.putObj_heap_other (fun e=>hi (e▸h)),fun _ h=>h,fun _ h=>Or.inl h,fun _ h=>Or.inl h,fun _ _=>⟨rfl,rfl,rfl⟩⟩
theorem lC{b c:Nat}{k:aO}(h:(hp.set b none)[c]? =some (some k)):c≠b∧hp[c]? =some (some k):=by
 grind
theorem HW.drop{gl:Ctx}(h:HW gl E w hp)(b:Nat):HW gl E w (hp.set b none):=h.less (fun _ _ hc=>(lC hc).2)
theorem bx.drop{b g:Nat}(h:bx (hp.set b none) E g):bx hp E g:=by
 obtain⟨c,k,h1,h2⟩:=h
 exact⟨c,k,(lC h1).2,h2⟩
theorem bP.shut{gl:Ctx}{a:Act}(h:bP gl σ E a w){b g:Nat}{k:aO}(hb:σ.hp[b]? =some (some k))(hg:E.g b=some g)(o:Obj):
 bP gl {σ with hp:=σ.hp.set b none} E a (w.putObj g o)∧Ext gl.md (bx σ.hp E) E w (bx (σ.hp.set b none) E) E (w.putObj g o):=by
 have hS:¬E.S g:=h.hw.jF b k g hb hg
 have hO:¬bx (σ.hp.set b none) E g:=by
  rintro⟨c,k',hc,hgc⟩
  obtain⟨h1,h2⟩:=lC hc
  exact h1 (h.hw.dZ c b k' k g h2 hb hgc (Or.inl hg))
 have h1:bP gl {σ with hp:=σ.hp.set b none} E a w:=⟨h.len,h.tm,h.hw.drop b,h.df⟩
 refine⟨h1.frame hS hO,?_⟩
 have:=Ext.put (gl:=gl) (O:=bx σ.hp E) (E:=E) (w:=w) (o:=o) ⟨b,k,hb,Or.inl hg⟩
 exact{this with own:=fun i hi=>Or.inl (bx.drop hi)}
def marks:List AV→List (Option aO)→Option (List (Option aO))
 |[],hp=>some hp
 |
  .mp b::l,hp=>match eC hp b with
  |some .uM=>marks l (hp.set b none)
  |_=>none
 |_,_=>none
theorem HN{gl:Ctx}{fn:Func}{R:Ending→World→Prop}{tmps:Array Value}:∀(df:List AV){tm:List AV}{hp hp':List (Option aO)}{E:Env}{ds:List Deferred}{w:World},
 bP gl ⟨tm,hp,df⟩ E ⟨tmps,ds⟩ w→marks df hp=some hp'→(∀w',bP gl ⟨tm,hp',[]⟩ E ⟨tmps,[]⟩ w'→Ext gl.md (bx hp E) E w (bx hp' E) E w'→LeavesIn (Wd gl) 0 P fn tmps R [] .returning w')→LeavesInM (Wd gl) 0 P fn tmps R ds .returning w
 |
  [],tm,hp,hp',E,ds,w,h,hm,hk=>by
  cases hm
  have:ds= []:=by
   have:=h.df
   cases ds with
   |nil=>rfl
   |cons _ _=>trivial
  subst this
  exact hk w h (Ext.refl _ _ _)
 |
  x::l,tm,hp,hp',E,ds,w,h,hm,hk=>by
  cases x with
  |
   mp b=>
   simp only[marks] at hm
   split at hm
   ·rename_i hb
    have hbk:=bQ hp b _ hb
    cases ds with
    |nil=>exact h.df.elim
    |
     cons d ds=>
     obtain⟨⟨g,hg,hd⟩,hrest⟩:=h.df
     obtain⟨g',hg',hh⟩:=h.hw.cN b _ hbk
     rw[hg] at hg';cases hg'
     have h0:bP gl ⟨tm,hp,l⟩ E ⟨tmps,ds⟩ w:=⟨h.len,h.tm,h.hw,hrest⟩
     obtain⟨g1,x1⟩:=h0.shut hbk hg (.deferred none)
     refine⟨by simp,Or.inl ⟨g,_,by rw[hd],run_takeDeferred hh,?_⟩⟩
     exact HN l g1 hm (fun w' k1 k2=>hk w' k1 (x1.trans k2))
   ·cases hm
  |_=>simp[marks] at hm
def Ctx.wB(gl:Ctx)(B:(Nat→Prop)→World→Prop)(hB:∀{S S':Nat→Prop}{w w':World},(∀b,S b→w'.heap[b]? =w.heap[b]?)→(∀b,S b→S' b)→B S w→B S' w'):Ctx:=⟨gl.gl,B,hB,none,gl.md⟩
def Ctx.ur(gl:Ctx)(l:Nat):Ctx:=⟨gl.gl,fun _ _=>True,fun _ _ _=>trivial,some l,gl.md⟩
def jmp(jl:List Code):Nat→Option Code
 |0=>none
 |j+1=>jl[j]?
def fy(fn:FuncId)(tmps:Array Value)(ps:Array Tmp)(assign body:Code)(D:Nat)(jl:List Code)(j:Nat):Loop:=
 {state:=if Nat.beq j 0 then .ready else .done,pending:=jmp jl j,fn,tmps,params:=ps,assign,body,defers:=D}
def AV.oT(m:List (Nat×Nat)):AV→Option AV
 | .ptr b p=>(ot m b).map fun c=>.ptr c p
 |
  .func fn fs cs=>match fs.oT m,cs.oT m with
  |some f,some c=>if f.atoms&&c.atoms then some (.func fn f c) else none
  |_,_=>none
 |
  .cons a b=>match a.oT m,b.oT m with
  |some x,some y=>some (.cons x y)
  |_,_=>none
 | .val t x=>some (.val t x)
 | .cd t x=>some (.cd t x)
 | .iv v=>some (.iv v)
 | .bn=>some .bn
 | .eN=>some .eN
 | .dV=>some .dV
 | .fp=>some .fp
 | .fq f t x=>some (.fq f t x)
 | .gY=>some .gY
 | .nil=>some .nil
 |_=>none
structure RnP(m:List (Nat×Nat))(E:Env)(w:World)(E':Env)(w':World):Prop where
 at':∀b c,ot m b=some c→E'.g c=E.g b∧E'.bt c=E.bt b
 k:bE E w E' w'
theorem AV.HO{m:List (Nat×Nat)}{x y:AV}(h:x.oT m=some y):y.isAgg=x.isAgg:=by
 cases x with
 |ptr b p=>simp only[AV.oT,gU] at h;obtain⟨c,_,rfl⟩:=h;rfl
 |
  func fn fs cs=>
  simp only[AV.oT] at h
  split at h
  ·split at h
   ·cases h;rfl
   grind
  grind
 |
  cons a b=>
  simp only[AV.oT] at h
  split at h
  ·cases h;rfl
  grind
 |_=>simp[AV.oT] at h<;>subst h<;>rfl
variable{E':Env}{w':World}
theorem RC.oT{m:List (Nat×Nat)}(r:RnP m E w E' w'):∀{x y:AV}{vs:List Value},x.oT m=some y→RC E w x vs→RC E' w' y vs:=by
 intro x
 induction x with
 |
  ptr b p=>
  intro y vs h hr
  simp only[AV.oT,gU] at h
  obtain⟨c,hc,rfl⟩:=h
  obtain⟨e1,e2⟩:=r.at' b c hc
  obtain⟨g,h1,h2,h3⟩:=hr
  exact⟨g,by grind,by grind,by grind⟩
 |
  func fn fs cs ih1 ih2=>
  intro y vs h hr
  simp only[AV.oT] at h
  split at h
  ·rename_i f c h1 h2
   split at h
   ·rename_i ha
    cases h
    simp only[bj] at ha
    obtain⟨f',c',e,r1,r2,_,_⟩:=hr
    exact⟨f',c',e,ih1 h1 r1,ih2 h2 r2,ha.1,ha.2⟩
   grind
  grind
 |
  cons a b ih1 ih2=>
  intro y vs h hr
  simp only[AV.oT] at h
  split at h
  ·rename_i x y h1 h2
   cases h
   obtain⟨v1,v2,e,r1,r2⟩:=hr
   exact⟨v1,v2,e,ih1 h1 r1,ih2 h2 r2⟩
  grind
 |val t x=>intro y vs h hr;simp only[AV.oT,cX] at h;subst h;exact RC.mono (a:=.val t x) r.k (fun _ hb=>by cases hb) hr
 |cd t x=>intro y vs h hr;simp only[AV.oT,cX] at h;subst h;exact RC.mono (a:=.cd t x) r.k (fun _ hb=>by cases hb) hr
 |iv v=>intro y vs h hr;simp only[AV.oT,cX] at h;subst h;exact RC.mono (a:=.iv v) r.k (fun _ hb=>by cases hb) hr
 |bn=>intro y vs h hr;simp only[AV.oT,cX] at h;subst h;exact hr
 |eN=>intro y vs h hr;simp only[AV.oT,cX] at h;subst h;exact hr
 |dV=>intro y vs h hr;simp only[AV.oT,cX] at h;subst h;exact hr
 |fp=>intro y vs h hr;simp only[AV.oT,cX] at h;subst h;exact hr
 |fq f t x=>intro y vs h hr;simp only[AV.oT,cX] at h;subst h;obtain⟨ha,cs,h1,h2⟩:=hr;exact⟨ha,cs,h1,Rel.mono r.k.w r.k.S h2⟩
 |gY=>intro y vs h hr;simp only[AV.oT,cX] at h;subst h;exact hr
 |nil=>intro y vs h hr;simp only[AV.oT,cX] at h;subst h;exact hr
 |_=>intro y vs h hr;trivial
theorem RV.oT{m:List (Nat×Nat)}(r:RnP m E w E' w'){x y:AV}{v:Value}(h:x.oT m=some y)(hr:RV E w x v):RV E' w' y v:=by
 have hp:x.plain=true:=by cases x<;>simp[AV.oT] at h<;>rfl
 have h0:=RV.jj hp hr
 refine RV.eR ?_
 rcases h0 with⟨h1,cs,e,h2⟩|⟨h1,h2⟩
 ·exact Or.inl ⟨by rw[AV.HO h];exact h1,cs,e,RC.oT r h h2⟩
 ·exact Or.inr ⟨by rw[AV.HO h];exact h1,RC.oT r h h2⟩
def Lv(m:List (Nat×Nat)):List AV→List AV
 |[]=>[]
 |x::l=>(match x.oT m with|some y=>y|none=>.bot)::Lv m l
theorem HP{m:List (Nat×Nat)}:∀{l:List AV},(Lv m l).length=l.length
 |[]=>rfl
 |_::l=>by simp[Lv,HP (l:=l)]
theorem HQ{m:List (Nat×Nat)}:∀{l:List AV}{i:Nat}{y:AV},(Lv m l)[i]? =some y→y= .bot∨∃x,l[i]? =some x∧x.oT m=some y
 |[],i,y,h=>by trivial
 |
  x::l,0,y,h=>by
  simp only[Lv,List.getElem?_cons_zero,cX] at h
  grind
 |
  x::l,i+1,y,h=>by
  simp only[Lv,vV] at h
  simpa using HQ h
def tT:List (Nat×AV)→List AV→List AV
 |[],l=>l
 |(t,x)::r,l=>tT r (l.set t x)
theorem Dm:∀{ps:List Nat}{args:List AV}{vs:List Value}{tm:List AV}{tmps:Array Value},lq E w args vs→tmps.size=tm.length→(∀(i:Nat)(x:AV),tm[i]? =some x→∀v,tmps[i]? =some v→RV E w x v)→
 ((ps.zip vs).foldl (fun t(p:Nat×Value)=>t.setIfInBounds p.1 p.2) tmps).size=(tT (ps.zip args) tm).length∧
 (∀(i:Nat)(x:AV),(tT (ps.zip args) tm)[i]? =some x→∀v,((ps.zip vs).foldl (fun t(p:Nat×Value)=>t.setIfInBounds p.1 p.2) tmps)[i]? =some v→RV E w x v)
 |[],args,vs,tm,tmps,_,hs,ht=>by trivial
 |p::ps,[],[],tm,tmps,_,hs,ht=>by trivial
 |p::ps,[],_::_,tm,tmps,h,hs,ht=>h.elim
 |p::ps,_::_,[],tm,tmps,h,hs,ht=>h.elim
 |
  p::ps,a::args,v::vs,tm,tmps,⟨h1,h2⟩,hs,ht=>by
  simp only[List.zip_cons_cons,List.foldl_cons,tT]
  refine Dm h2 (by simp[hs]) ?_<;>grind
def mo(i:Nat):List (Nat×Ty)→Bool
 |[]=>false
 |(j,_)::l=>Nat.beq i j||mo i l
def mY(gs:Nat→Nat)(ti:List (Nat×Ty))(i:Nat):aO→aO
 | .var t v=>if mo i ti then .tv (gs i) t v else .var t v
 |k=>k
def tie(gs:Nat→Nat)(ti:List (Nat×Ty)):Nat→List (Option aO)→List (Option aO)
 |_,[]=>[]
 |s,none::l=>none::tie gs ti (s+1) l
 |s,some k::l=>some (mY gs ti s k)::tie gs ti (s+1) l
theorem nY{gs:Nat→Nat}{ti:List (Nat×Ty)}:∀{l:List (Option aO)}{s:Nat},(tie gs ti s l).length=l.length
 |[],_=>rfl
 |none::l,s=>by simp[tie,nY (l:=l)]
 |some _::l,s=>by simp[tie,nY (l:=l)]
theorem iP{gs:Nat→Nat}{ti:List (Nat×Ty)}:∀{l:List (Option aO)}{s i:Nat}{k:aO},(tie gs ti s l)[i]? =some (some k)→∃k0,l[i]? =some (some k0)∧k=mY gs ti (s+i) k0
 |[],s,i,k,h=>by trivial
 |none::l,s,0,k,h=>by simp[tie] at h
 |some x::l,s,0,k,h=>by simp_all[tie]
 |
  none::l,s,i+1,k,h=>by
  obtain⟨k0,h1,h2⟩:=iP (l:=l) (by simpa[tie] using h)
  exact⟨k0,by simpa using h1,by rw[h2];congr 1;omega⟩
 |
  some x::l,s,i+1,k,h=>by
  obtain⟨k0,h1,h2⟩:=iP (l:=l) (by simpa[tie] using h)
  exact⟨k0,by simpa using h1,by rw[h2];congr 1;omega⟩
theorem AK{gs:Nat→Nat}{ti:List (Nat×Ty)}:∀{l:List (Option aO)}{s i:Nat}{k:aO},l[i]? =some (some k)→(tie gs ti s l)[i]? =some (some (mY gs ti (s+i) k))
 |[],s,i,k,h=>by simp at h
 |none::l,s,0,k,h=>by simp at h
 |some x::l,s,0,k,h=>by simp at h;subst h;rfl
 |
  none::l,s,i+1,k,h=>by
  have:=AK (gs:=gs) (ti:=ti) (s:=s+1) (l:=l) (i:=i) (k:=k) (by grind)
  grind [tie]
 |
  some x::l,s,i+1,k,h=>by
  have:=AK (gs:=gs) (ti:=ti) (s:=s+1) (l:=l) (i:=i) (k:=k) (by grind)
  grind [tie]
variable{ti:List (Nat×Ty)}{gs:Nat→Nat}
theorem RB.Xx{i:Nat}{k:aO}(h:RB E w i (mY gs ti i k)):RB E w i k:=by
 cases k with
 |
  var t v=>
  simp only[mY] at h
  split at h
  ·obtain⟨h0,h1,h2,c,e,h4,h5⟩:=h;exact⟨h1,h2,_,c,e,h0,h4,h5⟩
  grind
 |_=>exact h
theorem RB.tie{i:Nat}{k:aO}(h:RB E w i k)(hg:mo i ti=true→E.g i=some (gs i)):RB E w i (mY gs ti i k):=by
 cases k with
 |
  var t v=>
  simp only[mY]
  split
  ·rename_i hh
   obtain⟨h1,h2,g,c,e,h3,h4,h5⟩:=h
   have:=hg hh
   rw[this] at h3;cases h3
   exact⟨this,h1,h2,c,e,h4,h5⟩
  grind
 |_=>exact h
def qL(hp:List (Option aO)):List (Nat×Ty)→Bool
 |[]=>true
 |(i,t)::l=>(match hp[i]? with|some (some (.var t' _))=>Ty.same t' t|_=>false)&&Nat.blt i 16&&qL hp l
theorem wM{i:Nat}:∀{ti:List (Nat×Ty)},qL hp ti=true→mo i ti=true→i<16∧∃t v,hp[i]? =some (some (.var t v))∧(i,t)∈ti
 |[],_,h=>by cases h
 |
  (j,t)::l,h,hi=>by
  simp only[qL,bj] at h
  simp only[mo,fG] at hi
  rcases hi with hi|hi
  ·have e:=bL hi;subst e
   refine⟨by simp_all,?_⟩
   grind [Ty.aB]
  ·obtain⟨h1,t',v,h2,h3⟩:=wM h.2 hi
   grind
def Xy(P:Program)(gl:Ctx)(y:Code)(Q:fL→St→Prop):fL→St→Prop
 | .normal,σ=>cI P gl y σ Q
 |_,_=>False
def Xz(gl:Ctx)(jl:List Code)(j:Nat)(H:List (Option aO)):fL→St→Prop
 | .normal,σ=>j=0∧∃σ' m,Wk gl σ σ'∧prune σ'.hp m=H
 | .ret,σ=>(j≠0∧jmp jl j=some .ret)∧∃σ' m,Wk gl σ σ'∧prune σ'.hp m=H
 | .exit i,σ=>(j≠0∧jmp jl j=some (.exit i))∧∃σ' m,Wk gl σ σ'∧prune σ'.hp m=H
 |_,_=>False
variable{C':Ctx}
theorem HW.ctx{C:Ctx}(h:HW C E w hp)(hg:C'.gl=C.gl)(hb:C'.B E.S w):HW C' E w hp:=
 ⟨h.cN,h.dZ,h.dA,h.slt,⟨by rw[hg];exact h.gl.1,hb⟩,h.uj⟩
theorem Ext.add{gl:Ctx}{O':Nat→Prop}(h:Ext gl.md O E w O' E' w')(l:Nat):Ext gl.md (fun g=>O g∨g=l) E w (fun g=>O' g∨g=l) E' w' where
 os:=h.os
 tape:=h.tape
 output:=h.output
 size:=h.size
 kept:=fun g hg ho=>h.kept g hg (fun x=>ho (Or.inl x))
 sle:=h.sle
 mN:=fun g hg=>(h.mN g hg).imp id (fun x=>x.imp Or.inl id)
 own:=fun g hg=>by
  rcases hg with hg|hg
  ·exact(h.own g hg).imp Or.inl id
  grind
 Jd:=h.Jd
variable{ps:Array Tmp}{assign:Code}{body:Code}{H':List (Option aO)}
theorem Fy.O9{gl:Ctx}{a:Act}(hg:bP gl σ E a w){B:(Nat→Prop)→World→Prop}{hB:∀{S S':Nat→Prop}{w w':World},(∀b,S b→w'.heap[b]? =w.heap[b]?)→(∀b,S b→S' b)→B S w→B S' w'}
 (hBu:∀S' w',B S' w'→(∀b,E.S b→S' b)∧(∀b,E.S b→w'.heap[b]? =w.heap[b]?)) {l D k0:Nat} {fn:FuncId}     {m:List (Nat×Nat)} {jl:List Code}
 (hti:∀b i,ot m b=some i→mo i ti=true∧E.g b=some (gs i)∧∀t,(i,t)∈ti→E.bt b=t)
 {args:List AV} {H:List (Option aO)} {j:Nat} (hps:ps.size=args.length) (hk:Nat.blt k0 16=true) (hkt:mo k0 ti=false) (h0:H[k0]? =some none) (h0':H'[k0]? =some none) (ht:qL H ti=true) (_ht':qL H' ti=true)
 (amh:cI P (gl.ur l) assign ⟨tT (ps.toList.zip args) (Lv m σ.tm),H,[]⟩ (Xy P (gl.ur l) body (Xz (gl.ur l) jl j H'))):
 Fy P (gl.wB B hB) l args ((tie gs ti 0 H).set k0 (some (.lp ⟨l,gs,fy fn a.tmps ps assign body D jl⟩ 0))) (.ret (.val .bool (Nat.beq j 0))) ((tie gs ti 0 H').set k0 (some (.lp ⟨l,gs,fy fn a.tmps ps assign body D jl⟩ j))):=by
 intro E1 w1 vs hv hW
 have hk16:k0<16:=by simp_all
 have lenH:k0<(tie gs ti 0 H).length:=by grind [nY]
 have lenH':k0<(tie gs ti 0 H').length:=by grind [nY]
 have hlp:((tie gs ti 0 H).set k0 (some (.lp ⟨l,gs,fy fn a.tmps ps assign body D jl⟩ 0)))[k0]? =some (some (.lp ⟨l,gs,fy fn a.tmps ps assign body D jl⟩ 0)):=by
  grind
 obtain⟨hgl,hrec⟩:E1.g k0=some l∧w1.heap[l]? =some (.loop (fy fn a.tmps ps assign body D jl 0)):=hW.cN k0 _ hlp
 have at1:∀(i:Nat)(k:aO),H[i]? =some (some k)→i≠k0∧((tie gs ti 0 H).set k0 (some (.lp ⟨l,gs,fy fn a.tmps ps assign body D jl⟩ 0)))[i]? =some (some (mY gs ti i k)):=by
  intro i k hi
  have hne:i≠k0:=fun e=>by grind
  refine⟨hne,?_⟩
  rw[dt,aC (fun e=>hne e.symm)]
  simp_all[AK]
 have hSl:¬E1.S l:=hW.jF k0 _ l hlp hgl
 have hW1:HW (gl.ur l) E1 w1 H:=by
  refine⟨?_,?_,?_,hW.slt,⟨hW.gl.1,trivial⟩,fun i k g hi=>hW.uj i _ g (at1 i k hi).2⟩
  ·intro i k hi;exact(hW.cN i _ (at1 i k hi).2).Xx
  ·intro i i' k k' g hi hi' g1 g2;exact hW.dZ i i' _ _ g (at1 i k hi).2 (at1 i' k' hi').2 g1 g2
  ·intro i k g hi g1;exact hW.dA i _ g (at1 i k hi).2 g1
 have hOl:¬bx H E1 l:=by
  rintro⟨i,k,hi,hgi⟩
  exact(at1 i k hi).1 (hW.dZ i k0 _ _ l (at1 i k hi).2 hlp hgi (Or.inl hgl))
 have hgi:∀i,mo i ti=true→i<16∧E1.g i=some (gs i):=by
  intro i hi
  obtain⟨h1,t,v,h2,_⟩:=wM ht hi
  have:=hW.cN i _ (at1 i _ h2).2
  simp only[mY,hi,cj] at this
  exact⟨h1,this.1⟩
 obtain⟨b1,b2⟩:=hBu E1.S w1 hW.gl.2
 have hrnp:RnP m E w E1 w1:=by
  refine⟨?_,⟨b2,b1⟩⟩
  intro b i hbi
  obtain⟨c1,c2,c3⟩:=hti b i hbi
  obtain⟨_,t,v,h2,h3⟩:=wM ht c1
  have:=hW1.cN i _ h2
  exact⟨by grind,by rw[this.1,c3 t h3]⟩
 obtain⟨hl,_⟩:=hv.get
 have hframe:bP (gl.ur l) ⟨tT (ps.toList.zip args) (Lv m σ.tm),H,[]⟩ E1 {tmps:=(ps.zip vs.toArray).foldl (fun t (p,v)=>t.setIfInBounds p v) a.tmps,defers:=[]} w1:=by
  have hzip:(ps.zip vs.toArray).foldl (fun t (p,v)=>t.setIfInBounds p v) a.tmps=(ps.toList.zip vs).foldl (fun t(p:Nat×Value)=>t.setIfInBounds p.1 p.2) a.tmps:=by
   rw[←Array.foldl_toList]
   congr 1
   simp
  have:=Dm (ps:=ps.toList) (tm:=Lv m σ.tm) (tmps:=a.tmps) hv (by rw[HP];exact hg.len) (fun i x hx v hv'=>by
   rcases HQ hx with e|⟨y,h1,h2⟩
   ·subst e;trivial
   ·exact RV.oT hrnp h2 (hg.tm i y h1 v hv'))
  rw[hzip]
  exact⟨this.1,this.2,hW1,trivial⟩
 refine⟨fn,_,assign,body,run_yield hrec (by simp[fy,←hl,hps]),roundIn_of_wpIn (F:=Fence.wide) trivial ?_⟩
 refine wpIn_mono (amh E1 _ w1 hframe) ?_
 rintro ex a2 w2 ⟨x,σ2,E2,q1,q2,q3,q4⟩
 cases ex with
 |
  normal=>
  cases x with
  |
   normal=>
   simp only[Exit.then]
   have hlt:l<w1.heap.size:=(Array.getElem?_eq_some_iff.1 hrec).1
   have hrec2:w2.heap[l]? =some (.loop (fy fn a.tmps ps assign body D jl 0)):=by rw[q4.kept l hlt hOl];grind
   have notO:∀{hp:List (Option aO)}{E':Env}{w':World},Ext gl.md (bx H E1) E1 w1 (bx hp E') E' w'→¬bx hp E' l∧¬E'.S l:=by
    intro hp E' w' hx
    constructor
    ·intro ho;rcases hx.own l ho with h|h<;>grind
    ·intro hs;rcases hx.mN l hs with h|h|h<;>grind
   obtain⟨n1,n2⟩:=notO q4
   refine⟨w2.putObj l (.loop {fy fn a.tmps ps assign body D jl 0 with state:=.busy}),run_beginRound hrec2 rfl,?_⟩
   have g2:=q3.frame (o:=.loop {fy fn a.tmps ps assign body D jl 0 with state:=.busy}) n2 n1
   refine wpIn_mono (q2 E2 a2 _ g2) ?_
   rintro ex a3 w3 ⟨x3,σ3,E3,r1,r2,r3,r4⟩
   have lt2:l<w2.heap.size:=(Array.getElem?_eq_some_iff.1 hrec2).1
   have hbusy:w3.heap[l]? =some (.loop {fy fn a.tmps ps assign body D jl 0 with state:=.busy}):=by
    rw[r4.kept l (by simpa using lt2) n1]
    exact World.putObj_heap_same lt2
   have fin:∀(jump:Option Code),jump=jmp jl j→(jump.isNone=Nat.beq j 0)→(∃σ' mm,Wk (gl.ur l) σ3 σ'∧prune σ'.hp mm=H')→
    ∃v w',(Instr.endRound l jump).run P w3= .ok v w'∧∃E',AD E' w' (.ret (.val .bool (Nat.beq j 0))) (.returned v)∧HW (gl.wB B hB) E' w' ((tie gs ti 0 H').set k0 (some (.lp ⟨l,gs,fy fn a.tmps ps assign body D jl⟩ j)))∧
     Ext gl.md (bx ((tie gs ti 0 H).set k0 (some (.lp ⟨l,gs,fy fn a.tmps ps assign body D jl⟩ 0))) E1) E1 w1 (bx ((tie gs ti 0 H').set k0 (some (.lp ⟨l,gs,fy fn a.tmps ps assign body D jl⟩ j))) E') E' w':=by
    rintro jump hj hjn ⟨σ4,mm,hwk,hpr⟩
    obtain⟨E4,g4,x4⟩:=hwk E3 a3 w3 r3
    have hlt3:l<w3.heap.size:=(Array.getElem?_eq_some_iff.1 hbusy).1
    have hnew:({({fy fn a.tmps ps assign body D jl 0 with state:=.busy}:Loop) with state:=if jump.isNone then .ready else .done,pending:=jump}:Loop)=fy fn a.tmps ps assign body D jl j:=by
     grind [fy]
    have hend:=run_endRound (P:=P) jump hbusy
    rw[hnew,hjn] at hend
    have X:=((((q4.add l).trans (Ext.put (o:=.loop {fy fn a.tmps ps assign body D jl 0 with state:=.busy}) (Or.inr rfl))).trans (r4.add l)).trans (x4.add l)).trans (Ext.put (o:=.loop (fy fn a.tmps ps assign body D jl j)) (Or.inr rfl))
    have w4:HW (gl.ur l) E4 w3 H':=by rw[←hpr];exact g4.hw.prune mm
    have sub4:∀g,bx H' E4 g→bx σ4.hp E4 g:=by
     rintro g ⟨b,k,hb,hgb⟩
     rw[←hpr] at hb
     exact⟨b,k,jy hb,hgb⟩
    have n4:¬bx H' E4 l∧¬E4.S l:=by
     have hx:Ext gl.md (bx H E1) E1 w1 (bx σ2.hp E2) E2 w2:=q4
     obtain⟨m1,m2⟩:=notO hx
     have m3:¬bx σ3.hp E3 l∧¬E3.S l:=by
      constructor
      ·intro ho;rcases r4.own l ho with h|h
       ·grind
       ·simp at h;omega
      ·intro hs;rcases r4.mN l hs with h|h|h
       ·grind
       ·grind
       ·simp at h;omega
     constructor
     ·intro ho;rcases x4.own l (sub4 l ho) with h|h<;>grind
     ·intro hs;rcases x4.mN l hs with h|h|h<;>grind
    obtain⟨kp,wf⟩:=w4.frame (o:=.loop (fy fn a.tmps ps assign body D jl j)) n4.2 n4.1
    have gk0:E4.g k0=some l:=by rw[(X.Jd k0 hk16).1];exact hgl
    have at4:∀(i:Nat)(k:aO),((tie gs ti 0 H').set k0 (some (.lp ⟨l,gs,fy fn a.tmps ps assign body D jl⟩ j)))[i]? =some (some k)→(i=k0∧k= .lp ⟨l,gs,fy fn a.tmps ps assign body D jl⟩ j)∨(i≠k0∧∃k',H'[i]? =some (some k')∧k=mY gs ti i k'):=by
     intro i k hi
     rw[dt] at hi
     split at hi
     ·grind
     ·rename_i e
      obtain⟨k',h1,h2⟩:=iP hi
      grind
    have ne4:∀(i:Nat)(k:aO),H'[i]? =some (some k)→¬E4.has i l:=fun i k hi e=>n4.1 ⟨i,k,hi,e⟩
    obtain⟨E5,hE5⟩:∃E5:Env,E5={E4 with P:=fun b g=>b≠k0∧E4.P b g}:=⟨_,rfl⟩
    have e5g:∀b,E5.g b=E4.g b:=fun b=>by rw[hE5]
    have e5S:E5.S=E4.S:=by rw[hE5]
    have e5h:∀b g,E5.has b g→E4.has b g:=fun b g h=>h.imp (fun x=>by grind) (fun x=>by rw[hE5] at x;exact x.2)
    have e5k:∀g,E5.has k0 g→g=l:=fun g h=>by
     rcases h with h|h
     ·grind
     ·rw[hE5] at h;grind
    have kp5:∀w:World,bE E4 w E5 w:=fun w=>⟨fun _ _=>rfl,fun g hg=>by grind⟩
    refine⟨_,_,hend,E5,RV.bool,⟨?_,?_,?_,fun g hg=>wf.slt g (by grind),⟨fun x hx=>?_,?_⟩,?_⟩,?_⟩
    ·intro i k hi
     rcases at4 i k hi with⟨e1,e2⟩|⟨hne,k',h1,h2⟩
     ·subst e1;subst e2
      exact⟨by grind,World.putObj_heap_same hlt3⟩
     ·subst h2
      exact RB.mono (kp5 _) (fun b _=>by rw[hE5];grind) (fun _ _=>rfl) (fun _ g hg=>by rw[hE5];grind) ((wf.cN i k' h1).tie (fun hh=>by obtain⟨c1,c2⟩:=hgi i hh;rw[(X.Jd i c1).1];exact c2))
    ·intro i i' k k' g hi hi' j1 j2
     rcases at4 i k hi with⟨e1,e2⟩|⟨hne,k2,h1,h2⟩
     ·grind
     ·rcases at4 i' k' hi' with⟨e1',e2'⟩|⟨hne',k2',h1',h2'⟩
      ·grind
      ·exact wf.dZ i i' k2 k2' g h1 h1' (e5h _ _ j1) (e5h _ _ j2)
    ·intro i k g hi g1
     rw[e5S]
     rcases at4 i k hi with⟨e1,e2⟩|⟨hne,k2,h1,h2⟩
     ·grind
     ·exact wf.dA i k2 g h1 (e5h _ _ g1)
    ·obtain⟨y1,y2⟩:=wf.gl.1 x hx
     grind
    ·refine hB ?_ (fun b hb=>by rw[e5S];exact X.sle b hb) hW.gl.2
     intro b hb
     refine X.kept b (hW.slt b hb) ?_
     rintro(⟨i,k,hi,hgi'⟩|e)
     ·exact hW.dA i _ b (at1 i k hi).2 hgi' hb
     grind
    ·intro i k g hi g1
     rcases at4 i k hi with⟨e1,e2⟩|⟨hne,k2,h1,h2⟩
     ·subst e1;grind
     ·exact wf.uj i k2 g h1 (by rw[hE5] at g1;grind)
    ·refine⟨X.os,X.tape,X.output,X.size,?_,fun g hg=>by rw[e5S];exact X.sle g hg,?_,?_,fun b hb=>by rw[hE5];exact X.Jd b hb⟩
     ·intro g hgl' ho
      refine X.kept g hgl' ?_
      rintro(⟨i,k,hi,hgi'⟩|e)
      ·exact ho ⟨i,_,(at1 i k hi).2,hgi'⟩
      ·subst e;exact ho ⟨k0,_,hlp,Or.inl hgl⟩
     ·intro g hs
      rw[e5S] at hs
      rcases X.mN g hs with h|h|h
      ·grind
      ·rcases h with⟨i,k,hi,hgi'⟩|e
       ·exact Or.inr (Or.inl ⟨i,_,(at1 i k hi).2,hgi'⟩)
       grind
      grind
     ·rintro g ⟨i,k,hi,hgi'⟩
      have:bx σ4.hp E4 g∨g=l:=by
       rcases at4 i k hi with⟨e1,e2⟩|⟨hne,k2,h1,h2⟩
       ·grind
       ·exact Or.inl (sub4 g ⟨i,k2,h1,e5h _ _ hgi'⟩)
      rcases X.own g this with h|h
      ·rcases h with⟨i,k,hi,hgi'⟩|e
       ·exact Or.inl ⟨i,_,(at1 i k hi).2,hgi'⟩
       ·subst e;exact Or.inl ⟨k0,_,hlp,Or.inl hgl⟩
      grind
   cases ex with
   |
    normal=>
    cases x3 with
    |normal=>obtain⟨e,hh⟩:=r2;subst e;exact fin none rfl rfl hh
    |_=>trivial
   |
    ret=>
    cases x3 with
    |
     ret=>
     obtain⟨⟨e,e2⟩,hh⟩:=r2
     exact fin (some .ret) e2.symm (by cases j with|zero=>grind|succ j=>rfl) hh
    |_=>trivial
   |
    exit i=>
    cases x3 with
    |
     exit i'=>
     have e0:i'=i:=r1
     subst e0
     obtain⟨⟨e,e2⟩,hh⟩:=r2
     exact fin (some (.exit i')) e2.symm (by cases j with|zero=>grind|succ j=>rfl) hh
    |_=>trivial
   |panic chain=>cases x3<;>first|trivial|trivial
   |goto t=>cases x3<;>exact r1.elim
   |outgrown=>cases x3<;>exact r1.elim
  |_=>trivial
 |ret=>cases x<;>first|trivial|trivial
 |exit i=>cases x<;>first|trivial|trivial
 |panic chain=>cases x<;>first|trivial|trivial
 |goto t=>cases x<;>exact q1.elim
 |outgrown=>cases x<;>exact q1.elim
def Fh(P:Program)(gl:Ctx)(tm:List AV)(ps:Array Tmp)(assign body:Code)(k0:Nat)(ti:List (Nat×Ty))(m:List (Nat×Nat))(jl:List Code)(C:Ctx)(y:YC):Prop:=
 ∀(args:List AV)(H H':List (Option aO))(j:Nat),ps.size=args.length→H[k0]? =some none→H'[k0]? =some none→qL H ti=true→qL H' ti=true→
  cI P (gl.ur y.l) assign ⟨tT (ps.toList.zip args) (Lv m tm),H,[]⟩ (Xy P (gl.ur y.l) body (Xz (gl.ur y.l) jl j H'))→
  Fy P C y.l args ((tie y.gs ti 0 H).set k0 (some (.lp y 0))) (.ret (.val .bool (Nat.beq j 0))) ((tie y.gs ti 0 H').set k0 (some (.lp y j)))
def gsC(gs:Nat→Nat)(m:List (Nat×Nat))(b:Nat):Nat:=match ot m b with|some i=>gs i|none=>0
def XA:List (Nat×Nat)→List (Nat×Ty)
 |[]=>[]
 |(b,_)::l=>(b,.unit)::XA l
theorem Dn{b:Nat}:∀{m:List (Nat×Nat)},mo b (XA m)=true→∃i,ot m b=some i
 |[],h=>by cases h
 |
  (c,i)::l,h=>by
  simp only[XA,mo,fG] at h
  unfold ot
  split
  ·grind
  ·rename_i hn
   rcases h with h|h
   ·exact absurd (by rw[bL h];exact Nat.beq_refl c) hn
   ·exact Dn h
def XB(hp:List (Option aO))(ti:List (Nat×Ty)):List (Nat×Nat)→Bool
 |[]=>true
 |(b,i)::l=>(match hp[b]? with|some (some (.var t _))=>mo i ti&&(ti.all fun x=> !Nat.beq x.1 i||Ty.same x.2 t)|_=>false)&&XB hp ti l
theorem Lw:∀{m:List (Nat×Nat)},XB hp ti m=true→∀b i,(b,i)∈m→mo i ti=true∧∃t v,hp[b]? =some (some (.var t v))∧∀t',(i,t')∈ti→t'=t
 |[],_,b,i,h=>by cases h
 |
  (c,k)::l,hm,b,i,h=>by
  simp only[XB,bj] at hm
  rcases List.mem_cons.1 h with e|h
  ·cases e
   have h1:=hm.1
   split at h1
   ·rename_i t v hv
    simp only[bj,j0] at h1
    refine⟨h1.1,t,v,hv,fun t' ht'=>?_⟩
    have:=h1.2 _ ht'
    simp at this
    exact Ty.aB this
   grind
  ·exact Lw hm.2 b i h
def Lx:List (Option aO)→List (Option aO)
 |[]=>[]
 |some (.tv _ t v)::l=>some (.var t v)::Lx l
 |x::l=>x::Lx l
theorem j6:∀{l:List (Option aO)}{i:Nat}{k:aO},(Lx l)[i]? =some (some k)→∃k',l[i]? =some (some k')∧(k'=k∨∃g t v,k'= .tv g t v∧k= .var t v)
 |[],i,k,h=>by trivial
 |
  x::l,0,k,h=>by
  unfold Lx at h
  grind
 |
  x::l,i+1,k,h=>by
  unfold Lx at h
  split at h
  ·cases(by assumption:_=_)
  ·rename_i heq;cases heq;simpa using j6 (by simpa using h)
  ·rename_i heq;cases heq;simpa using j6 (by simpa using h)
theorem bP.Lx{gl:Ctx}{a:Act}(h:bP gl σ E a w):bP gl {σ with hp:=Ax.Lx σ.hp} E a w∧Ext gl.md (bx σ.hp E) E w (bx (Ax.Lx σ.hp) E) E w:=by
 refine⟨⟨h.len,h.tm,⟨?_,?_,?_,h.hw.slt,h.hw.gl,?_⟩,h.df⟩,{Ext.refl (bx σ.hp E) E w with own:=?_ }⟩
 ·intro b k hb
  obtain⟨k',h1,h2⟩:=j6 hb
  have:=h.hw.cN b k' h1
  rcases h2 with e|⟨g,t,v,e1,e2⟩
  ·grind
  ·subst e1;subst e2
   obtain⟨q0,q1,q2,c,e,q4,q5⟩:=this
   exact⟨q1,q2,g,c,e,q0,q4,q5⟩
 ·intro b b' k k' g hb hb' g1 g2
  obtain⟨k1,h1,_⟩:=j6 hb
  obtain⟨k2,h2,_⟩:=j6 hb'
  exact h.hw.dZ b b' k1 k2 g h1 h2 g1 g2
 ·intro b k g hb g1
  obtain⟨k1,h1,_⟩:=j6 hb
  exact h.hw.dA b k1 g h1 g1
 ·intro b k g hb g1
  obtain⟨k1,h1,_⟩:=j6 hb
  exact h.hw.uj b k1 g h1 g1
 ·rintro g ⟨b,k,hb,g1⟩
  obtain⟨k1,h1,_⟩:=j6 hb
  exact Or.inl ⟨b,k1,h1,g1⟩
theorem bP.tie{gl:Ctx}{a:Act}(h:bP gl σ E a w)(hg:∀b,mo b ti=true→E.g b=some (gs b)):bP gl {σ with hp:=Ax.tie gs ti 0 σ.hp} E a w∧Ext gl.md (bx σ.hp E) E w (bx (Ax.tie gs ti 0 σ.hp) E) E w:=by
 refine⟨⟨h.len,h.tm,⟨?_,?_,?_,h.hw.slt,h.hw.gl,?_⟩,h.df⟩,{Ext.refl (bx σ.hp E) E w with own:=?_ }⟩
 ·intro b k hb
  obtain⟨k',h1,h2⟩:=iP hb
  rw[eM] at h2
  subst h2
  exact(h.hw.cN b k' h1).tie (hg b)
 ·intro b b' k k' g hb hb' g1 g2
  obtain⟨k1,h1,_⟩:=iP hb
  obtain⟨k2,h2,_⟩:=iP hb'
  exact h.hw.dZ b b' k1 k2 g h1 h2 g1 g2
 ·intro b k g hb g1
  obtain⟨k1,h1,_⟩:=iP hb
  exact h.hw.dA b k1 g h1 g1
 ·intro b k g hb g1
  obtain⟨k1,h1,_⟩:=iP hb
  exact h.hw.uj b k1 g h1 g1
 ·rintro g ⟨b,k,hb,g1⟩
  obtain⟨k1,h1,_⟩:=iP hb
  exact Or.inl ⟨b,k1,h1,g1⟩
theorem Fi{d e:Nat}{k:aO}(hk:k.ids= [])(h:σ.fresh d)(hne:d≠e):({σ with hp:=σ.hp.set e (some k)}:St).fresh d:=by
 have h1:=ln.1 h.1
 refine⟨ln.2 ⟨h1.1,h1.2.1,?_⟩,?_,h.2.2⟩
 ·grind
 ·intro k' hi
  rw[dt,aC (fun x=>hne x.symm)] at hi
  exact h.2.1 k' hi
def sE(y:YC)(m:List (Nat×Nat))(dI lI:Nat)(hp:List (Option aO)):List (Option aO):=tie (gsC y.gs m) (XA m) 0 ((hp.set dI (some .uM)).set lI (some (.lp y 0)))
structure ac1(σ:St)(y:YC)(m:List (Nat×Nat))(dI lI j:Nat)(cs:AV)(cr:CR)(L:List AV)(ins:List (Nat×Option aO))(hpF:List (Option aO)):Prop where
 hr:cr.r= .fO .nil
 hL:ml (swp cr.al) (eC (sE y m dI lI σ.hp)) (((.func (.yield y.l) .nil .nil,Ty.unit))::cs.toList.map (fun x=>(x,Ty.unit)))=some (L,[])
 jX:jd (swp cr.al) (eC (sE y m dI lI σ.hp)) cr.ps=some ins
 fW:Bd cr []=true
 hns:((cr.ns.map (·.2)).all (fun b=>({σ with hp:=sE y m dI lI σ.hp,df:=.mp dI::σ.df}:St).fu b))=true
 hF1:(aS (sE y m dI lI σ.hp) (mr (cr.al++cr.ns) cr.out (cr.ps++cr.ns)))[lI]? =some (some (.lp y j))
 hF2:Lx ((aS (sE y m dI lI σ.hp) (mr (cr.al++cr.ns) cr.out (cr.ps++cr.ns))).set lI none)=hpF
theorem cI.rangeFunc{gl:Ctx}{g:Operand}(hro:gl.ro=none){gf:FuncId}{cs:AV}(hg:bD gl σ.tm g= .func (.func gf) .nil cs)
 (dI lI k0:Nat) (hd:σ.fu dI=true) (hl:σ.fu lI=true) (hne:Nat.beq dI lI=false) (hk:Nat.blt k0 16=true)
 (ti:List (Nat×Ty)) (m:List (Nat×Nat)) (hkt:mo k0 ti=false) (hm:XB σ.hp ti m=true) (hmn:kv (m.map (·.2))=true) (jl:List Code) (hcs:cs.atoms=true)
 (hy:∀y:YC,∃j cr L ins hpF,ac1 σ y m dI lI j cs cr L ins hpF∧
  (∀B hB,Fh P gl σ.tm ps assign body k0 ti m jl (gl.wB B hB) y→Fc P (gl.wB B hB) gf L (aS (List.replicate cr.m none) ins) (.ret (.fO .nil)) (cY cr.m cr.out))∧
  (match jmp jl j with|none=>Q .normal ⟨σ.tm,hpF,.mp dI::σ.df⟩|some c=>cI P gl c ⟨σ.tm,hpF,.mp dI::σ.df⟩ Q)):cI P gl (.rangeFunc g ps assign body) σ Q:=by
 intro E a w hG
 refine wpIn_rangeFunc ?_
 intro fn _
 have hfd:=St.dQ hd
 have hfl:=St.dQ hl
 have hnd:lI≠dI:=fun e=>by simp_all
 obtain⟨rec,hrec⟩:∃rec:Nat→Loop,rec=fy fn a.tmps ps assign body w.heap.size jl:=⟨_,rfl⟩
 have hrec0:rec 0={state:=.ready,pending:=none,fn:=fn,tmps:=a.tmps,params:=ps,assign:=assign,body:=body,defers:=w.heap.size}:=by rw[hrec];rfl
 obtain⟨gs,hgs⟩:∃gs:Nat→Nat,gs=fun i=>match ot (swp m) i with|some b=>(E.g b).getD 0|none=>0:=⟨_,rfl⟩
 obtain⟨j,cr,L,ins,hpF,⟨hr,hL,jX,fW,hns,hF1,hF2⟩,hit,hq⟩:=hy ⟨w.heap.size+1,gs,rec⟩
 obtain⟨g1,x1⟩:=hG.fresh (w':=w.alloc (.deferred (some []))) hfd (g:=some w.heap.size) (sv:=undef) (t:=.unit) (k:=.uM) rfl (Tp.r rfl rfl) rfl (by simp) (fun i hi=>heap_alloc_old w _ hi) (fun i hi=>by grind)
  ⟨w.heap.size,by simp[Env.at],heap_alloc_new w _⟩
 have hs1:(w.alloc (.deferred (some []))).heap.size=w.heap.size+1:=by simp
 obtain⟨g2,x2⟩:=g1.fresh (w':=(w.alloc (.deferred (some []))).alloc (.loop (rec 0))) (d:=lI) (Fi rfl hfl hnd) (g:=some (w.heap.size+1)) (sv:=undef) (t:=.unit) (k:=.lp ⟨w.heap.size+1,gs,rec⟩ 0) rfl (Tp.r rfl rfl) rfl (by simp) (fun i hi=>heap_alloc_old _ _ hi) (fun i hi=>by grind)
  ⟨by simp[Env.at],by have:=heap_alloc_new (w.alloc (.deferred (some []))) (.loop (rec 0));grind⟩
 generalize hw2:(w.alloc (.deferred (some []))).alloc (.loop (rec 0))=w2 at g2 x2
 generalize hE2:(E.at dI (some w.heap.size) undef .unit).at lI (some (w.heap.size+1)) undef .unit=E2 at g2 x2
 have hE2g:∀b,b≠dI→b≠lI→E2.g b=E.g b:=fun b h1 h2=>by rw[←hE2];simp[Env.at,h1,h2]
 have hE2d:E2.g dI=some w.heap.size:=by rw[←hE2];simp[Env.at,Ne.symm hnd]
 have hE2S:E2.S=E.S:=by rw[←hE2];rfl
 have x12:=x1.trans x2
 have hmu:∀b i,ot m b=some i→mo i ti=true∧E.g b=some (gs i)∧(∀t,(i,t)∈ti→E.bt b=t)∧b≠dI∧b≠lI:=by
  intro b i hbi
  have hmem:=rq hbi
  obtain⟨h1,t,v,h2,h3⟩:=Lw hm b i hmem
  obtain⟨r1,r2,gg,c,e,r3,_⟩:=hG.hw.cN b _ h2
  have hlk:ot (swp m) i=some b:=eI (by grind [fS,swp,Function.comp_def]) (ka.2 hmem)
  refine⟨h1,by grind,fun t' ht'=>by grind,fun e=>?_,fun e=>?_⟩
  ·subst e;exact hfd.2.1 _ h2
  ·subst e;exact hfl.2.1 _ h2
 obtain⟨g3,x3⟩:=g2.tie (gs:=gsC gs m) (ti:=XA m) (by
  grind [Dn,gsC])
 have g4:bP gl ⟨σ.tm,sE ⟨w.heap.size+1,gs,rec⟩ m dI lI σ.hp,.mp dI::σ.df⟩ E2 {a with defers:={target:=.collected w.heap.size,args:= #[]}::a.defers} w2:=
  ⟨g3.len,g3.tm,g3.hw,⟨⟨w.heap.size,hE2d,rfl⟩,g3.df⟩⟩
 have hv0:=gm g4 g
 simp only at hv0
 rw[hg] at hv0
 obtain⟨f',c',hev,r1,r2,_,_⟩:=RV.atom rfl hv0
 simp at hev
 have hf':f'= #[]:=by apply l9;exact r1
 subst hf'
 have hav:a.eval g= .func (.func gf) #[] c':=by trivial
 obtain⟨B,hBd⟩:∃B:(Nat→Prop)→World→Prop,B=fun S' w'=>(∀b,E.S b→S' b)∧(∀b,E.S b→w'.heap[b]? =w.heap[b]?):=⟨_,rfl⟩
 have hB:∀{S S':Nat→Prop}{w w':World},(∀b,S b→w'.heap[b]? =w.heap[b]?)→(∀b,S b→S' b)→B S w→B S' w':=by
  simp_all
 have hof:Fh P gl σ.tm ps assign body k0 ti m jl (gl.wB B hB) ⟨w.heap.size+1,gs,rec⟩:=by
  intro args H H' j' h1 h2 h3 h4 h5 h6
  rw[hrec]
  exact Fy.O9 hG (fun S' w' h=>by grind) (fun b i hbi=>⟨(hmu b i hbi).1,(hmu b i hbi).2.1,(hmu b i hbi).2.2.1⟩) h1 hk hkt h2 h3 h4 h5 h6
 obtain⟨amn,hfn⟩:=hit B hB hof
 have hbb:=bQ (sE ⟨w.heap.size+1,gs,rec⟩ m dI lI σ.hp)
 obtain⟨hφ,hwi⟩:=uZ (lent:=[]) g4 hbb (fun b hb=>by cases hb) (jX) (fW)
 have hargs:lq E2 w2 ((((.func (.yield (w.heap.size+1)) .nil .nil,Ty.unit))::cs.toList.map (fun x=>(x,Ty.unit))).map (·.1)) (Value.func (.yield (w.heap.size+1)) #[] #[]::c'.toList):=by
  refine⟨RV.eR (Or.inr ⟨rfl, #[], #[],rfl,rfl,rfl,rfl,rfl⟩),?_⟩
  have:=lq.atoms hcs r2
  have e1:∀l:List AV,(l.map (fun x=>(x,Ty.unit))).map (fun x:AV×Ty=>x.1)=l:=by intro l;induction l<;>simp_all
  grind
 have hv:=nA g4.hw hbb hφ (hL) (fun g hg=>hg) hargs
 have hSe:(E2.cE []).S=fun g=>E.S g∨∃b∈([]:List Nat),E2.g b=some g:=by simp only[Env.cE,hE2S]
 have hwB:HW (gl.wB B hB) (E2.to cr.al (E2.cE []).S) w2 (aS (List.replicate cr.m none) (ins)):=by
  refine hwi.ctx rfl ?_
  show B _ w2
  rw[hBd]
  refine⟨fun b hb=>by show(E2.cE []).S b;grind,fun b hb=>?_⟩
  exact x12.kept b (hG.hw.slt b hb) (fun⟨c,k,hc,hgc⟩=>hG.hw.dA c k b hc hgc hb)
 have hcalls:=hfn _ w2 _ hv hwB
 refine⟨w.heap.size+1,[{target:=.collected w.heap.size,args:= #[]}],w2,{target:=.fn (.func gf) c',args:= #[.func (.yield (w.heap.size+1)) #[] #[]]},w2,gf, #[.func (.yield (w.heap.size+1)) #[] #[]]++c',w2,?_,?_,fun _ _=>trivial,?_,fun h=>(by cases h),?_⟩
 ·simp_all[run_enterLoop_outer]
 ·simp only[resolve,hav]
  simp[go_sem]
 ·simp[invoke,amn]
 ·have e0:(Value.func (.yield (w.heap.size+1)) #[] #[]::c'.toList).toArray= #[.func (.yield (w.heap.size+1)) #[] #[]]++c':=by simp_all
  rw[e0] at hcalls
  have h1:CallsIn Fence.wide 0 P gf _ w2 _:=callsIn_wide.2 hcalls
  refine CallsIn.mono (F:=Wd gl) h1 ?_
  rintro ed w3 ⟨E',hR,hW',hX⟩
  cases ed with
  |panicked ch=>trivial
  |outgrown=>trivial
  |
   returned v=>
   have hWg:HW gl E' w3 (cY cr.m cr.out):=by
    refine hW'.ctx rfl ?_
    have hbs:B E'.S w3:=hW'.gl.2
    rw[hBd] at hbs
    exact gl.mono hbs.2 hbs.1 hG.hw.gl.2
   have hfr:∀b∈cr.ns.map (·.2),(⟨σ.tm,sE ⟨w.heap.size+1,gs,rec⟩ m dI lI σ.hp,.mp dI::σ.df⟩:St).fresh b:=by
    grind [St.dQ]
   have hrr:=hr
   obtain⟨E3,k1,_,k3⟩:=kY (lent:=[]) g4 hbb (fun b hb=>by cases hb) (jX) (fW) hfr hWg hX (r':=.fO .nil) (by rw[hrr];rfl) (v:=v) (by rw[hrr];exact hR)
   have f1:=hF1;have f2:=hF2
   obtain⟨q1,q2⟩:=k1.hw.cN lI _ f1
   obtain⟨k4,x4⟩:=k1.shut f1 q1 (.loop {rec j with state:=.exhausted})
   obtain⟨k5,x5⟩:=k4.Lx
   simp only[f2] at k5 x5
   have hst:(rec j).state≠.busy:=by rw[hrec];simp only[fy];grind
   refine⟨(rec j).pending,_,run_endLoop q2 hst,?_⟩
   have hpe:(rec j).pending=jmp jl j:=by rw[hrec];rfl
   have X:=(((x12.trans x3).trans k3).trans x4).trans x5
   generalize hwF:w3.putObj (w.heap.size+1) (.loop {rec j with state:=.exhausted})=wF at k5 X
   generalize (rec j).pending=pe at hpe
   subst hpe
   revert hq
   cases jmp jl j with
   |
    none=>
    intro hq
    exact⟨.normal,_,E3,trivial,hq,k5,X⟩
   |
    some c=>
    intro hq
    refine wpIn_mono (hq E3 _ _ k5) ?_
    rintro ex a5 w5 ⟨x,σ5,E5,z1,z2,z3,z4⟩
    exact⟨x,σ5,E5,z1,z2,z3,X.trans z4⟩
theorem Fc.up{C:Ctx}{f:FuncId}{A:List AV}{H:List (Option aO)}{r:xZ}(hg:C'.gl=C.gl)(hC:∀S w,C.B S w)(h:Fc P C f A H r H')(hm:C'.md=C.md:=by rfl):Fc P C' f A H r H':=by
 refine⟨h.1,fun E w vs hv hw=>?_⟩
 have:=h.2 E w vs hv (hw.ctx hg.symm (hC _ _))
 intro cs
 obtain⟨e,w',fr,⟨E',r1,r2,r3⟩,rest⟩:=this cs
 rw[←hm] at r3
 exact⟨e,w',fr,⟨E',r1,r2.ctx hg (hw.gG (hw.kept r3)).2,r3⟩,rest⟩
end Go.Ax
noncomputable section
namespace Go.Ax
def y0:YC:=⟨0,fun n=>n,fun _=>default⟩
inductive CF(D T:Type) where
 |bq (f:D→Option T)
 |kz (s:Sh) (f:D→Option (Sum (prod (s.H [])) T))
def fc{A B R:Type}(x:Option (Sum A B))(kp:A→Option R)(k:B→Option R):Option R:=
 Option.bind x fun r=>match r with
  | .inl a=>kp a
  | .inr b=>k b
theorem Jl{A B R:Type}{x:Option (Sum A B)}{kp:A→Option R}{k:B→Option R}{r:R}(h:fc x kp k=some r):(∃a,x=some (.inl a)∧kp a=some r)∨∃b,x=some (.inr b)∧k b=some r:=by
 unfold fc at h
 cases x<;>grind
def CF.run{D T R:Type}:CF D T→D→(T→Option R)→(AV→Option R)→Option R
 | .bq f,d,K,_=>Option.bind (f d) fun r=>K r
 | .kz s f,d,K,KP=>fc (f d) (fun p=>KP (s.V y0 p)) fun r=>K r
def CF.XC{D T:Type}:CF D T→D→T→Prop
 | .bq f,d,r=>f d=some r
 | .kz _ f,d,r=>f d=some (.inr r)
def CF.XD{D T:Type}:CF D T→D→AV→Prop
 | .bq _,_,_=>False
 | .kz s f,d,x=>∃p,f d=some (.inl p)∧x=s.V y0 p
theorem CF.Dp{D T R:Type}{c:CF D T}{d:D}{K:T→Option R}{KP:AV→Option R}{r:R}(h:c.run d K KP=some r):(∃y,c.XC d y∧K y=some r)∨∃x,c.XD d x∧KP x=some r:=by
 cases c with
 |bq f=>obtain⟨y,h1,h2⟩:=bind_some h;exact Or.inl ⟨y,h1,h2⟩
 |
  kz s f=>
  rcases Jl h with⟨p,h1,h2⟩|⟨y,h1,h2⟩
  ·exact Or.inr ⟨_,⟨p,h1,rfl⟩,h2⟩
  ·exact Or.inl ⟨y,h1,h2⟩
structure aZ where
 fn:Fn
 A:List Sh
 B:List (Nat×de)
 m:Nat
 F:SS
 res:F.T→AV
 out:F.T→List (Nat×aO)
 f:CF (prod (tO A (iw B []))) F.T
abbrev aZ.D(C:aZ):Type:=prod (tO C.A (iw C.B []))
def aZ.args(C:aZ)(d:C.D):List AV:=xV y0 C.A d
def aZ.ins(C:aZ)(d:C.D):List (Nat×Option aO):=dg (oS y0 C.B (AH C.A d))
structure aZ.holds(P:Program)(gl:Ctx)(C:aZ):Prop where
 ret:∀d r,C.f.XC d r→Lf P gl C.fn (C.args d) (aS (List.replicate C.m none) (C.ins d)) (.ret (C.res r)) (cY C.m (C.out r))
 kz:∀d x,C.f.XD d x→Lf P gl C.fn (C.args d) (aS (List.replicate C.m none) (C.ins d)) (.kz x) (cY C.m [])
def Pa:(m:List (Nat×de))→{l:List Type}→List (Nat×Option aO)→prod l→Option (prod (iw m l))
 |[],_,[],d=>some d
 |
  (i,s)::m,_,(j,some k)::hp,d=>if Nat.beq i j then(match Pa m hp d with
  |some e=>s.G k e
  |none=>none) else none
 |_,_,_,_=>none
theorem AM(y:YC):∀{m:List (Nat×de)}{l:List Type}{hp:List (Nat×Option aO)}{d:prod l}{e:prod (iw m l)},Pa m hp d=some e→dg (oS y m e)=hp∧Ww m e=d
 |
  [],l,hp,d,e,h=>by
  cases hp with
  |nil=>cases h;trivial
  |cons _ _=>trivial
 |
  (i,s)::m,l,hp,d,e,h=>by
  match hp,h with
  |[],h=>trivial
  |(j,none)::hp,h=>trivial
  |
   (j,some k)::hp,h=>
   obtain⟨hs,h0⟩:=bJ h
   have:=bL hs;subst this
   split at h0
   ·rename_i e' he
    obtain⟨h1,h2⟩:=AM y he
    obtain⟨g1,g2⟩:=de.ya y h0
    exact⟨by simp only[oS,dg];rw[g1,g2,h1],by simp only[Ww];rw[g2,h2]⟩
   grind
def aZ.get(C:aZ)(L:List AV)(I:List (Nat×Option aO)):Option C.D:=
 match Pa C.B (l:=[]) I () with
 |some d=>TX C.A L d
 |none=>none
variable{L:List AV}{I:List (Nat×Option aO)}
theorem aZ.gF{C:aZ}{d:C.D}(h:C.get L I=some d):C.args d=L∧C.ins d=I:=by
 unfold aZ.get at h
 split at h
 ·rename_i d1 h1
  obtain⟨a1,a2⟩:=AM y0 h1
  obtain⟨b1,b2⟩:=AI y0 h
  exact⟨b1,by unfold aZ.ins;grind⟩
 grind
structure CH where
 Wx:List Nat
 ps:List (Nat×Nat)
 ns:List (Nat×Nat)
 ks:List (Nat×Nat):=[]
 us:List Nat:=[]
def CH.al(ch:CH):List (Nat×Nat):=match ch.ks with
 |[]=>ch.ps
 |k::ks=>ch.ps++k::ks
inductive KS where
 |t (s:Nat)
 |c (s:Nat) (p:Path)
 |two (a b:KS)
def KS.get(σ:St):KS→Option AV
 | .t s=>σ.tm[s]?
 |
  .two a b=>match KS.get σ a,KS.get σ b with
  |some (.val ty x),some (.val tz y)=>some (.val (.pair ty (.pair tz .unit)) (x,y,()))
  |_,_=>none
 |
  .c s p=>match σ.tm[s]? with
  |
   some (.ptr b q)=>match eC σ.hp b with
   |some (.var _ v)=>v.get (q++p)
   |_=>none
  |_=>none
inductive PF where
 |row (b d:Nat) (k:KS)
 |map (mode b d:Nat) (k:KS)
 |eP (b:Nat)
 |XE (b:Nat) (k:KS)
 |Wy (b:Nat)
structure RH where
 pre:List Gh
 zs:List (Nat×Nat×Ty)
 cs:List CH
 mg:Option (List (Nat×Ty)):=none
 foc:List (Nat×Nat):=[]
 pf:List PF:=[]
 post:List Gh:=[]
structure LH where
 S:SS
 fuel:S.T→Nat
structure Pb where
 ic:Nat
 dI:Nat
 lI:Nat
 ti:List (Nat×Ty)
 m:List (Nat×Nat)
 jl:List Code
 ps:List (Nat×Nat)
 ns:List (Nat×Nat)
 S:SS
 E:SS
structure Hs where
 reg:List (Nat×RH)
 join:List (Nat×SS)
 cN:List (Nat×SS)
 loop:List (Nat×LH)
 unr:List (Nat×Nat)
 Ch:List (Nat×Pb):=[]
def ifs{R:Type}:List VC→Option R→Option R
 |[],x=>x
 |v::l,x=>@ite _ v.p v.d (ifs l x) none
theorem fe{R:Type}{r:R}:∀{l:List VC}{x:Option R},ifs l x=some r→dC l∧x=some r
 |[],x,h=>⟨trivial,h⟩
 |
  v::l,x,h=>by
  unfold ifs at h
  by_cases hp:v.p
  ·rw[@if_pos _ v.d hp] at h
   obtain⟨h1,h2⟩:=fe h
   trivial
  grind
def qM(G:bM)(al ps:List (Nat×Nat))(ev:Operand→AV)(hb:Nat→Option aO)(c:Call):Option (Fn×List AV×List (Nat×Option aO)):=
 match c.callee with
 |
  .value cf=>match MH (ev cf) with
  |
   some (fn,fl,cl)=>
   match ml (swp al) hb (fl.map (fun x=>(x,Ty.unit))++(c.args.toList.zip c.argTypes.toList).map (tZ G ev)++cl.map (fun x=>(x,Ty.unit))),jd (swp al) hb ps with
   |some (L,_),some ins=>some (fn,L,ins)
   |_,_=>none
  |_=>none
 |
  .invoke rv name=>match Ii G hb name (ev rv) with
  |
   some (f,x,xt)=>
   match ml (swp al) hb ((x,xt)::(c.args.toList.zip c.argTypes.toList).map (tZ G ev)),jd (swp al) hb ps with
   |some (L,_),some ins=>some (.func f,L,ins)
   |_,_=>none
  |_=>none
 |_=>none
def Jm(P:Program)(gl:Ctx)(cr:CR)(x:Option (Fn×List AV×List (Nat×Option aO))):Prop:=
 ∀fn L ins,x=some (fn,L,ins)→Lf P gl fn L (aS (List.replicate cr.m none) ins) cr.fin (cY cr.m cr.out)
variable{P:Program}{cr:CR}{ob:List Prop}{ev:Operand→AV}{hb:Nat→Option aO}
theorem wN{G:bM}{gl:Ctx}{c:Call}{e:fA}(h:pS P G gl cr ev hb c=some (e,ob))(hob:Jm P gl cr (qM G cr.al cr.ps ev hb c)):∀p∈ob,p:=by
 unfold pS at h
 split at h
 ·rename_i cf hcf
  split at h
  ·rename_i fn fl cl hfv
   split at h
   ·rename_i L lent ins r' hL jX hr'
    split at h
    ·cases h
     intro p hp
     simp only[mG] at hp
     subst hp
     refine hob fn L ins ?_
     grind [qM]
    grind
   grind
  grind
 ·rename_i rv name hcf
  split at h
  ·rename_i f x xt hfv
   split at h
   ·rename_i L lent ins r' hL jX hr'
    split at h
    ·cases h
     intro p hp
     simp only[mG] at hp
     subst hp
     refine hob (.func f) L ins ?_
     grind [qM]
    grind
   grind
  grind
 grind
def wO(G:bM)(gl:Ctx)(ops:Array Oper)(al ps:List (Nat×Nat))(us:List Nat)(z:List (Nat×Ty))(σ:St)(i:Nat):Option (Fn×List AV×List (Nat×Option aO)):=
 match ops[i]? with
 |none=>none
 |
  some o=>match o.op with
  |
   .call c=>match z with
   |[]=>qM G al ps (bD gl σ.tm) (gr (tL o.op (bD gl σ.tm)++(ps.map (·.2)++us)) σ.hp) c
   |z=>qM G al ps (JA (gr (mq (bD gl σ.tm) z) σ.hp) z (bD gl σ.tm)) (gr (tL o.op (JA (gr (mq (bD gl σ.tm) z) σ.hp) z (bD gl σ.tm))++(ps.map (·.2)++us)) (aS σ.hp (eH (kT (gr (mq (bD gl σ.tm) z) σ.hp) (bD gl σ.tm) z)))) c
  |_=>none
theorem Dq{G:bM}{gl:Ctx}{d:Nat}{op:Op}{e:fA}(h:oV P G gl d cr op ev hb=some (e,ob)):
 ob= []∨∃c e',op= .call c∧lG op=true∧pS P G gl cr ev hb c=some (e',ob):=by
 unfold oV at h
 split at h
 ·rename_i c
  split at h
  ·simp only[gU,ir] at h
   grind
  ·rename_i hb
   simp only[tD] at h
   obtain⟨⟨e',ob'⟩,h,hk⟩:=h
   have:=Pp hk
   simp only at this
   subst this
   refine Or.inr ⟨c,e',rfl,?_,h⟩
   obtain⟨callee,args,tys⟩:=c
   cases callee with
   |builtin b=>grind
   |value _=>rfl
   |invoke _ _=>rfl
 ·simp only[gU,ir] at h
  grind
variable{σ:St}{ops:Array Oper}
theorem kP{G:bM}{gl:Ctx}{z:List (Nat×Ty)}{i:Nat}{f:aW}{vc:List VC}(h:eB P G gl ops cr z σ i=some (f,vc,ob))(hob:xa ops i=true→Jm P gl cr (wO G gl ops cr.al cr.ps cr.us z σ i)):∀p∈ob,p:=by
 unfold eB at h
 split at h
 ·cases h
 ·rename_i o ho
  have hat:xa ops i=lG o.op:=by unfold xa;rw[ho]
  split at h
  ·cases h
  ·grind
  ·split at h
   ·split at h
    ·cases h
    ·rename_i e ob' he
     cases h
     rcases Dq he with rfl|⟨c,e',hop,hc,he'⟩
     ·grind
     grind [wN,wO,CR.pb]
   ·rename_i hz
    split at h
    ·cases h
    ·rename_i e ob' he
     cases h
     rcases Dq he with rfl|⟨c,e',hop,hc,he'⟩
     ·grind
     ·refine wN he' ?_
      simp_all[wO,CR.pb]
def fnK{R:Type}:Fn→Fn→Option R→Option R→Option R
 | .func f,.func g,K,E=>if Nat.beq f g then K else E
 | .yield l,.yield l',K,_=>ifs [vc (l=l')] K
 |_,_,_,E=>E
theorem Dr{R:Type}{f g:Fn}{K E:Option R}{r:R}(h:fnK f g K E=some r):(f=g∧K=some r)∨E=some r:=by
 cases f with
 |
  func f=>
  cases g with
  |
   func g=>
   grind [fnK,bL]
  |_=>exact Or.inr h
 |
  yield l=>
  cases g with
  |
   yield l'=>
   obtain⟨h1,h2⟩:=fe h
   exact Or.inl ⟨by rw[h1.1],h2⟩
  |_=>exact Or.inr h
 |_=>exact Or.inr h
noncomputable def Ds(a b:aO){R:Type}(x:Option R):Option R:=@ite _ (some a=some b) (Classical.propDecidable _) x none
theorem iG{a:aO}{R:Type}{x:Option R}:Ds a a x=x:=aA rfl
def Dt{R:Type}(Γ:List aZ)(ps ns ks:List (Nat×Nat))(us:List Nat)(fn:Fn)(L:List AV)(I:List (Nat×Option aO))(K:CR→Option R):List Nat→Option R
 |[]=>none
 |
  c::l=>match Γ[c]? with
  |
   some C=>fnK fn C.fn (match C.get L I with
   |some d=>C.f.run d (fun r=>K ⟨C.res r,ps,ns,C.out r,C.m,false,ks,us⟩) fun x=>K ⟨x,ps,[],[],C.m,true,ks,us⟩
   |none=>Dt Γ ps ns ks us fn L I K l) (Dt Γ ps ns ks us fn L I K l)
  |none=>none
def Ly(Γ:List aZ)(ch:CH)(x:Option (Fn×List AV×List (Nat×Option aO))){R:Type}(K:CR→Option R):Option R:=
 match x with
 |some (fn,L,I)=>Dt Γ ch.ps ch.ns ch.ks ch.us fn L I K ch.Wx
 |none=>none
variable{Γ:List aZ}{ps:List (Nat×Nat)}
theorem wP{gl:Ctx}(hΓ:∀C∈Γ,C.holds P gl){ns ks:List (Nat×Nat)}{us:List Nat}{fn:Fn}{R:Type}{K:CR→Option R}{r:R}:∀{l:List Nat},Dt Γ ps ns ks us fn L I K l=some r→
 ∃cr,K cr=some r∧cr.ps=ps∧cr.ks=ks∧cr.us=us∧Jm P gl cr (some (fn,L,I))
 |[],h=>by cases h
 |
  c::l,h=>by
  unfold Dt at h
  split at h
  ·rename_i C hC
   rcases Dr h with⟨hf,h⟩|h
   ·split at h
    ·rename_i d hd
     obtain⟨h1,h2⟩:=aZ.gF hd
     have hC:=hΓ C (kF hC)
     have key:∀(cr:CR),K cr=some r→cr.ps=ps→cr.ks=ks→cr.us=us→Lf P gl C.fn (C.args d) (aS (List.replicate cr.m none) (C.ins d)) cr.fin (cY cr.m cr.out)→∃cr,K cr=some r∧cr.ps=ps∧cr.ks=ks∧cr.us=us∧Jm P gl cr (some (fn,L,I)):=by
      intro cr h hp hk hu hh
      refine⟨cr,h,hp,hk,hu,?_⟩
      intro fn' L' I' e
      grind
     rcases CF.Dp h with⟨y,hy,h⟩|⟨x,hx,h⟩
     ·exact key _ h rfl rfl rfl (hC.ret d y hy)
     ·exact key _ h rfl rfl rfl (hC.kz d x hx)
    ·exact wP hΓ h
   ·exact wP hΓ h
  grind
variable{ch:CH}
theorem Lz{gl:Ctx}(hΓ:∀C∈Γ,C.holds P gl){x:Option (Fn×List AV×List (Nat×Option aO))}{R:Type}{K:CR→Option R}{r:R}(h:Ly Γ ch x K=some r):
 ∃cr,K cr=some r∧cr.ps=ch.ps∧cr.ks=ch.ks∧cr.us=ch.us∧Jm P gl cr x:=by
 unfold Ly at h
 split at h
 ·exact wP hΓ h
 grind
theorem CH.SI(h1:cr.ps=ch.ps)(h2:cr.ks=ch.ks):cr.al=ch.al:=by
 obtain⟨_,ps,_,_,_,_,ks,_⟩:=cr
 obtain⟨_,ps',_,ks',_⟩:=ch
 cases h1
 cases h2
 trivial
def XF:CR:=⟨.bot,[],[],[],0,false,[],[]⟩
def Pc{R:Type}(s:Bool)(f:aW)(K:aW→Option R):Option R:=
 match s with
 |false=>K f
 |
  true=>match f.v with
  | .val .bool e=>if e=true then K {f with v:=.val .bool true} else K {f with v:=.val .bool false}
  |_=>K f
theorem yY{R:Type}{s:Bool}{f:aW}{K:aW→Option R}{r:R}(h:Pc s f K=some r):K f=some r:=by
 unfold Pc at h
 split at h
 ·exact h
 ·split at h
  ·rename_i e he
   obtain⟨rt,rb,fr,dst,v,hw⟩:=f
   grind
  grind
def Pd{R:Type}:List (Option Nat)→Nat→Int→aW→(aW→Option R)→Option R
 |[],_,_,_,_=>none
 |g::gs,n,e,f,K=>if e=(n:Int) then K {f with v:=Jb g} else Pd gs (n+1) e f K
def LA{R:Type}(ok:Bool)(k0:Ty)(k:k0.den)(f:aW)(K:aW→Option R):List (k0.den×AV)→Option R
 |[]=>K {f with v:=okF ok .fp false}
 |x::l=>if bl k0 k x.1=true then K {f with v:=okF ok x.2 true} else LA ok k0 k f K l
theorem yZ{R:Type}{ok:Bool}{k0:Ty}{k:k0.den}{f:aW}{K:aW→Option R}{r:R}:∀{l:List (k0.den×AV)},f.v=mi ok k0 k l→LA ok k0 k f K l=some r→K f=some r
 |
  [],hv,h=>by
  simp only[mi] at hv
  simp only[LA] at h
  rw[←hv] at h;exact h
 |
  x::l,hv,h=>by
  simp only[mi] at hv
  simp only[LA] at h
  split at h
  ·rename_i hb;rw[aA hb] at hv;rw[←hv] at h;exact h
  ·rename_i hb;rw[aC hb] at hv;exact yZ hv h
def T0{R:Type}(gl:Ctx)(ops:Array Oper)(σ:St)(i:Nat)(f:aW)(K:aW→Option R):Option R:=
 match ops[i]? with
 |
  some o=>match o.guard,o.op with
  |
   none,.index _ x j=>match bD gl σ.tm x,bD gl σ.tm j with
   | .val (.fns _) xs,.val (.int _) e=>Pd xs 0 e f K
   |_,_=>K f
  |
   none,.lookup _ x k ok=>match bD gl σ.tm x with
   |
    .mp b=>match eC σ.hp b with
    |
     some (.iq k0 l)=>match(bD gl σ.tm k).bC k0 with
     |some k'=>LA ok k0 k' f K l
     |none=>K f
    |_=>K f
   |_=>K f
  |_,_=>K f
 |none=>K f
theorem zb{R:Type}{f:aW}{K:aW→Option R}{r:R}{ys:List (Option Nat)}{e:Int}(hv:f.v=Jb (ys.getD e.toNat none)):∀{xs:List (Option Nat)}{n:Nat},(∀k,ys.getD (n+k) none=xs.getD k none)→Pd xs n e f K=some r→K f=some r
 |[],_,_,h=>by cases h
 |
  g::gs,n,hx,h=>by
  unfold Pd at h
  split at h
  ·rename_i he
   subst he
   have:ys.getD n none=g:=by simpa using hx 0
   rw[jB,this] at hv
   rw[←hv] at h
   exact h
  ·refine zb hv (fun k=>?_) h
   have:=hx (k+1)
   rw[show n+1+k=n+(k+1) by omega,this]
   simp
theorem Jn{G:bM}{R:Type}{gl:Ctx}{i:Nat}{f:aW}{vc:List VC}{K:aW→Option R}{r:R}(hs:eB P G gl ops cr [] σ i=some (f,vc,ob))(h:T0 gl ops σ i f K=some r):K f=some r:=by
 unfold T0 at h
 split at h
 ·rename_i o ho
  split at h
  ·rename_i t x j hg hop
   split at h
   ·rename_i n xs k e hx hj
    have hv:f.v=Jb (xs.getD e.toNat none):=by
     unfold eB at hs
     rw[ho] at hs
     simp only[guardOf,hg,hop] at hs
     simp only[oV,qU,Ji,zD,zL,zM,zj,zl,zn,hx,hj] at hs
     split at hs
     ·cases hs
     ·rename_i e' ob' he
      cases hs
      simp only[gU,ir] at he
      obtain⟨a,ha,rfl,rfl⟩:=he
      split at ha
      case h_2=>cases ha
      rename_i a' ha'
      cases ha
      simp only[gU] at ha'
      obtain⟨b,hb,rfl⟩:=ha'
      unfold u0 at hb
      split at hb
      ·split at hb
       ·rename_i m m' ys k' n' h1 h2 h3
        cases h2;cases h3
        split at hb
        ·cases hb;rfl
        grind
       ·grind
       grind
      grind
    exact zb hv (fun k=>by simp) h
   grind
  ·rename_i t x k ok hg hop
   split at h
   ·rename_i b hx
    split at h
    ·rename_i k0 l hbk
     split at h
     ·rename_i k' hk
      have hv:f.v=mi ok k0 k' l:=by
       grind [eB,guardOf,oV,gU,DI,eC,gr]
      exact yZ hv h
     grind
    grind
   grind
  grind
 grind
def XG{R:Type}(gl:Ctx)(ops:Array Oper)(σ:St)(i:Nat)(z:List (Nat×Ty))(f:aW)(K:aW→Option R):Option R:=
 match z with
 |[]=>T0 gl ops σ i f (fun f=>Pc (Ml ops.toList i) f K)
 |_::_=>Pc (Ml ops.toList i) f K
section
variable(P:Program) (G:bM) (gl:Ctx) (Γ:List aZ)
def sF(ops:Array Oper)(σ:St)(i:Nat):Bool:=
 match ops[i]? with
 |
  some o=>match guardOf ops σ.tm o with
  |some b=>b
  |none=>false
 |none=>false
def Du(ops:Array Oper){R:Type}(i:Nat)(σ:St)(z:List (Nat×Ty))(x:Option (aW×List VC×List Prop))(K:aW→Option R):Option R:=
 match x with
 |some (f,vcs,_)=>if f.fr.all σ.fu then ifs vcs (XG gl ops σ i z f K) else none
 |none=>none
def LB(gl:Ctx)(ops:Array Oper)(σ:St)(i:Nat):Option aW:=
 match ops[i]? with
 |
  some o=>match o.guard,o.op with
  |
   none,.panic x=>match bD gl σ.tm x with
   | .iface t v=>some ⟨slotsOf [x],[],[],none,.iface t v,[]⟩
   |_=>none
  |_,_=>none
 |none=>none
def XH{R:Type}(x:Option (aW×List VC×List Prop))(KP:aW→Option R):Option R:=
 match x with
 |some (f,_,_)=>if f.fr.isEmpty then KP f else none
 |none=>none
def lD(ops:Array Oper)(zs:List (Nat×Nat×Ty)){R:Type}(K:List aW→St→Option R)(KP:List aW→aW→St→Option R):Nat→Nat→List CH→St→List aW→Option R
 |0,_,_,σ,fs=>K fs σ
 |
  n+1,i,cs,σ,fs=>
  if xa ops i&&sF ops σ i then(match cs with
   |
    ch::cs'=>Ly Γ ch (wO G gl ops ch.al ch.ps ch.us (SU zs i) σ i) fun cr=>match cr.kz with
    |false=>Du gl ops i σ (SU zs i) (eB P G gl ops cr (SU zs i) σ i) fun f=>lD ops zs K KP n (i+1) cs' (σ.app f) (f::fs)
    |true=>XH (eB P G gl ops cr (SU zs i) σ i) fun f=>KP fs f σ
   |[]=>none)
  else match LB gl ops σ i with
  |some f=>KP fs f σ
  |none=>Du gl ops i σ (SU zs i) (eB P G gl ops XF (SU zs i) σ i) fun f=>lD ops zs K KP n (i+1) (if xa ops i then cs.tail else cs) (σ.app f) (f::fs)
end
theorem wQ{G:bM}{gl:Ctx}{z:List (Nat×Ty)}{i:Nat}{f:aW}{vc:List VC}{o:Oper}(h:eB P G gl ops cr z σ i=some (f,vc,ob))(ho:ops[i]? =some o):f.dst=o.dst:=by
 grind [eB]
theorem Dv{G:bM}{gl:Ctx}{R:Type}{i:Nat}{z:List (Nat×Ty)}{K:aW→Option R}{r:R}{f:aW}{vc:List VC}(hs:eB P G gl ops cr z σ i=some (f,vc,ob))(h:XG gl ops σ i z f K=some r):K f=some r:=by
 cases z with
 |nil=>exact yY (Jn hs h)
 |cons _ _=>exact yY h
theorem wR{G:bM}(T:bA P G){gl:Ctx}{R:Type}{i:Nat}{z:List (Nat×Ty)}{K:aW→Option R}{r:R}(amw:cr.kz=false)(hob:xa ops i=true→Jm P gl cr (wO G gl ops cr.al cr.ps cr.us z σ i))(h:Du gl ops i σ z (eB P G gl ops cr z σ i) K=some r):
 ∃f,(pv P gl ops i f σ∧∀o,ops[i]? =some o→f.dst=o.dst)∧(∀d∈f.fr,σ.fresh d)∧K f=some r:=by
 unfold Du at h
 split at h
 ·rename_i f vcs ob hs
  obtain⟨hf,h⟩:=bJ h
  grind [fe,kV,kP,wQ,Dv,St.dQ]
 grind
theorem Pe{G:bM}{gl:Ctx}{i:Nat}{z:List (Nat×Ty)}{f:aW}{vc:List VC}(h:eB P G gl ops cr z σ i=some (f,vc,ob))(hg:sF ops σ i=false):ob= []:=by
 grind [eB,sF]
theorem LC{gl:Ctx}{i:Nat}{f:aW}(h:LB gl ops σ i=some f):DL P gl ops i f σ:=by
 unfold LB at h
 split at h
 ·rename_i o ho
  split at h
  ·rename_i x hgd hop
   split at h
   ·rename_i t v hx
    cases h
    intro σ' ha E a w hg K Q hQ
    unfold wpOpIn
    simp only[ho]
    have hw:=fP hg (ops:=ops) (o:=o) (c:=true) (by unfold guardOf;rw[hgd])
    rw[hw]
    simp only[cj]
    have hv:=gm hg x
    rw[iW ha (x:=x) (fun t ht=>by grind [slotsOf]),hx] at hv
    obtain⟨u,e,_⟩:=RV.atom rfl hv
    simp at e
    unfold Oper.wpIn
    refine⟨fun _ _=>trivial,?_⟩
    rw[Oper.semAt_eq _ _ _ (by grind)]
    have amh:(execOp a.eval o).run P w= .halt (.panic (a.eval x)) w:=by
     simp[execOp,hop,e,Instr.panic]
    rw[amh]
    exact hQ E (a.eval x) w hg hv (Ext.refl _ _ _)
   grind
  grind
 grind
theorem Dw{i:Nat}(h1:xa ops i=true)(h2:sF ops σ i=true):∃o,ops[i]? =some o∧guardOf ops σ.tm o=some true∧lG o.op=true:=by
 grind [sF,xa]
theorem pB{G:bM}(T:bA P G){gl:Ctx}(hΓ:∀C∈Γ,C.holds P gl){zs:List (Nat×Nat×Ty)}{R:Type}{K:List aW→St→Option R}{KP:List aW→aW→St→Option R}{r:R}:
 ∀{n i:Nat}{cs:List CH}{σ:St}{fs:List aW},lD P G gl Γ ops zs K KP n i cs σ fs=some r→
  (∃gs σ',qz P gl ops i gs σ σ'∧gs.length=n∧(∀(k:Nat)(f:aW)(o:Oper),gs[k]? =some f→ops[i+k]? =some o→f.dst=o.dst)∧K (gs.reverse++fs) σ'=some r)∨
  ∃gs f σ',qz P gl ops i gs σ σ'∧gs.length<n∧DL P gl ops (i+gs.length) f σ'∧KP (gs.reverse++fs) f σ'=some r
 |0,i,cs,σ,fs,h=>Or.inl ⟨[],σ,rfl,rfl,(fun k f o h=>by simp at h),h⟩
 |
  n+1,i,cs,σ,fs,h=>by
  unfold lD at h
  have fin:∀{f:aW}{cs':List CH},(pv P gl ops i f σ∧∀o,ops[i]? =some o→f.dst=o.dst)→(∀d∈f.fr,σ.fresh d)→lD P G gl Γ ops zs K KP n (i+1) cs' (σ.app f) (f::fs)=some r→
   (∃gs σ',qz P gl ops i gs σ σ'∧gs.length=n+1∧(∀(k:Nat)(f:aW)(o:Oper),gs[k]? =some f→ops[i+k]? =some o→f.dst=o.dst)∧K (gs.reverse++fs) σ'=some r)∨
   ∃gs f σ',qz P gl ops i gs σ σ'∧gs.length<n+1∧DL P gl ops (i+gs.length) f σ'∧KP (gs.reverse++fs) f σ'=some r:=by
   intro f cs' h1 h2 h3
   rcases pB T hΓ h3 with⟨gs,σ',k1,k2,kd,k3⟩|⟨gs,f',σ',k1,k2,kp,k3⟩
   ·refine Or.inl ⟨f::gs,σ',⟨h1.1,h2,k1⟩,by simp[k2],?_,by simpa using k3⟩<;>grind
   ·exact Or.inr ⟨f::gs,f',σ',⟨h1.1,h2,k1⟩,by grind,by grind,by grind⟩
  split at h
  ·rename_i hcg
   simp only[bj] at hcg
   split at h
   ·rename_i ch cs'
    obtain⟨cr,h,hps,hks,hus,hob⟩:=Lz hΓ h
    split at h
    ·rename_i amw
     obtain⟨f,h1,h2,h3⟩:=wR T amw (fun _=>by rw[hps,hus,CH.SI hps hks];exact hob) h
     grind
    ·rename_i amw
     unfold XH at h
     split at h
     ·rename_i f vcs ob hs
      obtain⟨hf,h⟩:=bJ h
      obtain⟨o,ho,hgd,hcl⟩:=Dw hcg.1 hcg.2
      exact Or.inr ⟨[],f,σ,rfl,by simp,FH T amw ho hgd hcl hs (kP hs (fun _=>by rw[hps,hus,CH.SI hps hks];exact hob)) (by grind),by grind⟩
     grind
   grind
  ·rename_i hc
   split at h
   ·rename_i f hf
    exact Or.inr ⟨[],f,σ,rfl,by simp,LC hf,by grind⟩
   ·cases ho:xa ops i with
    |
     false=>
     rw[ho] at h
     obtain⟨f,h1,h2,h3⟩:=wR T rfl (fun e=>by grind) h
     grind
    |
     true=>
     rw[ho] at h hc
     have hg:sF ops σ i=false:=by grind
     unfold Du at h
     split at h
     ·rename_i f vcs ob hs
      obtain⟨hf,h⟩:=bJ h
      obtain⟨hv,h⟩:=fe h
      refine fin ⟨kV T rfl hs hv (by rw[Pe hs hg];grind),fun o ho=>wQ hs ho⟩ ?_ (Dv hs h)
      grind [St.dQ]
     grind
section
variable(P:Program) (G:bM) (gl:Ctx)
def nZ(ops:Array Oper)(draw:Bool)(z p:Nat)(masks:List Nat){R:Type}(K:List aW→Option R):Nat→Nat→St→List aW→Option R
 |0,_,_,gs=>K gs.reverse
 |
  n+1,j,σ,gs=>if !draw||(masks.getD j 0).testBit p then nZ ops draw z p masks K n (j+1) σ (HM z::gs)
  else if xa ops j then none else match eB P G gl ops XF [] σ j with
   |some (f,vcs,_)=>if f.fr.isEmpty&&O7 z [f] then ifs vcs (nZ ops draw z p masks K n (j+1) (σ.app f) (f::gs)) else none
   |none=>none
end
theorem pC{G:bM}(T:bA P G){gl:Ctx}{draw:Bool}{z p:Nat}{masks:List Nat}{R:Type}{K:List aW→Option R}{r:R}:∀{n j:Nat}{σ:St}{gs:List aW},nZ P G gl ops draw z p masks K n j σ gs=some r→
 ∃ms σ',(σ.hp[z]? =some (some Fe)→bU (Ff P gl ops z) j ms σ σ')∧ms.length=n∧O7 z ms=true∧K (gs.reverse++ms)=some r
 |0,j,σ,gs,h=>⟨[],σ,fun _=>rfl,rfl,rfl,by simpa[nZ] using h⟩
 |
  n+1,j,σ,gs,h=>by
  unfold nZ at h
  split at h
  ·obtain⟨ms,σ',h1,h2,h3,h4⟩:=pC T h
   refine⟨HM z::ms,σ',fun hz=>⟨Or.inr ⟨rfl,hz⟩,(fun d hd=>by cases hd),h1 hz⟩,by simp[h2],by simp only[O7,List.all_cons,bj] at h3 ⊢;exact⟨rfl,h3⟩,by simpa using h4⟩<;>grind
  ·split at h
   ·cases h
   ·rename_i ho
    split at h
    ·rename_i f vcs ob hs
     obtain⟨hf,h⟩:=bJ h
     obtain⟨hv,h⟩:=fe h
     simp only[bj,List.isEmpty_iff] at hf
     obtain⟨ms,σ',h1,h2,h3,h4⟩:=pC T h
     have hob:=kP (cr:=XF) hs (fun e=>absurd e ho)
     have hnz:O7 z (f::ms)=true:=by
      simp_all[O7]
     refine⟨f::ms,σ',fun hz=>⟨Or.inl (kV T rfl hs hv hob),(fun d hd=>by grind),h1 ?_⟩,by simp[h2],hnz,by grind⟩
     have hq:bU (fun _ _ _=>True) j [f] σ (σ.app f):=⟨trivial,(fun d hd=>by grind),rfl⟩
     exact bU.at hq hf.2 hz
    grind
def XI{α:Type}:List (Nat×α)→Nat→Option α
 |[],_=>none
 |(i,x)::l,j=>if Nat.beq i j then some x else XI l j
def sG:Code→Option Nat
 | .region id _ _=>some id
 |
  .seq a b=>match sG a with
  |some i=>some i
  |none=>sG b
 |
  .cond _ a b=>match sG a with
  |some i=>some i
  |none=>sG b
 | .block _ c| .loop c| .scope c=>sG c
 |_=>none
def Pf{α:Type}(l:List (Nat×α))(c:Code):Option α:=
 match sG c with
 |some i=>XI l i
 |none=>none
def aL{U R:Type}(F:(U→Option R)→U→Option R)(n:Nat):U→Option R:=
 @Nat.rec (fun _=>U→Option R) (fun _=>none) (fun _ ih=>F ih) n
def aI{U R:Type}(x:Option (cJ U R))(f:U→Option R):Option R:=
 Option.bind x fun o=>match o with
  | .brk d=>f d
  | .ret r=>some r
def bX{U R:Type}(x:Option R):Option (cJ U R):=x.map .ret
variable{U:Type}
theorem Fj{R:Type}{x:Option (cJ U R)}{f:U→Option R}{r:R}(h:aI x f=some r):(∃d,x=some (.brk d)∧f d=some r)∨x=some (.ret r):=by
 obtain⟨o,ho,h⟩:=bind_some h
 grind
def Pg(ops:Array Oper):Bool:=ops.toList.any fun o=>match o.op with
 | .defer _=>true
 |_=>false
def yb{R:Type}(F:YC→Option R):Option R:=
 @dite _ (∃r,∀y,F y=some r) (Classical.propDecidable _) (fun h=>some h.choose) fun _=>none
theorem Jo{R:Type}{F:YC→Option R}{r:R}(h:yb F=some r)(y:YC):F y=some r:=by
 unfold yb at h
 split at h<;>grind
def NH{R:Type}(a b:YC)(x:Option R):Option R:=@ite _ (a=b) (Classical.propDecidable _) x none
structure IC where
 A:List Sh
 B:List (Nat×de)
 m:Nat
 k0:Nat
 R:List (Nat×de)
 Wx:Nat→(prod (tO A (iw B []))→Option (fO (Bool::YC::Nat::iw R [])))→aZ
def IC.T(C:IC):List Type:=Bool::YC::Nat::iw C.R []
def IC.Y(C:IC)(l:Nat)(f:prod (tO C.A (iw C.B []))→Option (fO C.T)):aZ:=
 ⟨.yield l,C.A,C.B,C.m,⟨1,C.m,[(0,.val .bool)],(C.k0,.lp)::C.R,[]⟩,fun r=>.val .bool (rQ C.T r).1,fun r=>(C.k0,.lp (rQ C.T r).2.1 (rQ C.T r).2.2.1)::oS y0 C.R (rQ C.T r).2.2.2,.bq f⟩
def IC.holds(P:Program)(gl:Ctx)(C:IC):Prop:=∀B hB l f,(C.Y l f).holds P (gl.wB B hB)→(C.Wx l f).holds P (gl.wB B hB)
def Fk:Option aO→Bool
 |some (.tv _ _ _)=>true
 |_=>false
def yc:List (Option aO)→Bool
 |[]=>true
 |x::l=> !Fk x&&yc l
theorem HR:∀{l:List (Option aO)},yc l=true→∀(i g:Nat)(t:Ty)(v:AV),l[i]? ≠some (some (.tv g t v))
 |[],_,i,g,t,v=>by simp
 |
  x::l,h,i,g,t,v=>by
  simp only[yc,bj] at h
  cases i with
  |zero=>intro e;simp at e;subst e;exact absurd h.1 (by simp[Fk])
  |succ i=>simpa using HR h.2 i g t v
def LD(y:YC)(ti:List (Nat×Ty))(k0:Nat):Nat→List (Option aO)→Option (List VC×List (Option aO))
 |_,[]=>some ([],[])
 |
  i,x::l=>match LD y ti k0 (i+1) l with
  |none=>none
  |
   some (vs,H)=>if Nat.beq i k0 then(match x with
    |some (.lp y' j)=>some (⟨y'=y,Classical.propDecidable _⟩::vc (j=0)::vs,none::H)
    |_=>none)
   else match x with
    |none=>some (vs,none::H)
    |some (.tv g t v)=>if mo i ti then some (vc (g=y.gs i)::vs,some (.var t v)::H) else none
    |some (.var t v)=>if mo i ti then none else some (vs,some (.var t v)::H)
    |some k=>some (vs,some k::H)
variable{ti:List (Nat×Ty)}
theorem uS{y:YC}{k0:Nat}:∀{X:List (Option aO)}{s:Nat}{vs:List VC}{H:List (Option aO)},LD y ti k0 s X=some (vs,H)→dC vs→
 H.length=X.length∧(∀i,s+i=k0→i<X.length→X[i]? =some (some (.lp y 0))∧H[i]? =some none)∧(∀i,s+i≠k0→X[i]? =(tie y.gs ti s H)[i]?)∧yc H=true
 |[],s,vs,H,h,_=>by cases h;exact⟨rfl,fun i _ hi=>by grind,fun i _=>rfl,rfl⟩
 |
  x::l,s,vs,H,h,hv=>by
  unfold LD at h
  split at h
  ·cases h
  ·rename_i vs' H' hr
   have step:∀{k:Option aO}{k':Option aO},dC vs'→Nat.beq s k0=false→x=k→(∀L,(tie y.gs ti s (k'::L))=k::tie y.gs ti (s+1) L)→Fk k'=false→(k'::H').length=(x::l).length∧(∀i,s+i=k0→i<(x::l).length→(x::l)[i]? =some (some (.lp y 0))∧(k'::H')[i]? =some none)∧(∀i,s+i≠k0→(x::l)[i]? =(tie y.gs ti s (k'::H'))[i]?)∧yc (k'::H')=true:=by
    intro k k' hv' hb hx ht hnt
    obtain⟨h1,h2,h3,h4⟩:=uS hr hv'
    have hne:s≠k0:=fun e=>by rw[e,Nat.beq_refl] at hb;cases hb
    refine⟨by simp[h1],?_,?_,by simp[yc,hnt,h4]⟩
    ·intro i hi hl
     cases i with
     |zero=>exact absurd hi hne
     |succ i=>exact h2 i (by omega) (by simpa using hl)
    ·intro i hi
     rw[ht,hx]
     cases i with
     |zero=>rfl
     |succ i=>simpa using h3 i (by omega)
   split at h
   ·rename_i hb
    have hs:=bL hb
    subst hs
    split at h
    ·rename_i y' j
     cases h
     obtain⟨e1,e2,hv'⟩:=hv
     have e1:y'=y:=e1
     have e2:j=0:=e2
     subst e1;subst e2
     obtain⟨h1,h2,h3,h4⟩:=uS hr hv'
     refine⟨by simp[h1],?_,?_,by simp[yc,Fk,h4]⟩
     ·intro i hi _
      have:i=0:=by omega
      subst this
      exact⟨rfl,rfl⟩
     ·intro i hi
      cases i with
      |zero=>exact absurd rfl hi
      |succ i=>simpa[tie] using h3 i (by omega)
    ·cases h
   ·rename_i hb
    have hb:Nat.beq s k0=false:=by cases hq:Nat.beq s k0 with|false=>rfl|true=>exact absurd hq hb
    split at h
    ·cases h;exact step hv hb rfl (fun L=>rfl) rfl
    ·rename_i g t v
     obtain⟨ht,h⟩:=bJ h
     cases h
     obtain⟨e1,hv'⟩:=hv
     have e1:g=y.gs s:=e1
     subst e1
     exact step hv' hb rfl (fun L=>by simp[tie,mY,ht]) rfl
    ·rename_i t v
     split at h
     ·cases h
     ·rename_i ht
      cases h;exact step hv hb rfl (fun L=>by simp[tie,mY,ht]) rfl
    ·rename_i k n1 n2
     cases h
     refine step hv hb rfl (fun L=>?_) ?_
     ·cases k with
      |var t v=>exact absurd rfl (n2 t v)
      |_=>rfl
     ·cases k with
      |tv g t v=>exact absurd rfl (n1 g t v)
      |_=>rfl
def zd(p:Code→Bool):List Code→Nat→Option Nat
 |[],_=>none
 |c::l,n=>if p c then some n else zd p l (n+1)
def SK:Code→Bool
 | .ret=>true
 |_=>false
def LF(i:Nat):Code→Bool
 | .exit j=>Nat.beq i j
 |_=>false
def T1(jl:List Code):fL→Option Nat
 | .normal=>some 0
 | .ret=>zd SK jl 1
 | .exit i=>zd (LF i) jl 1
 | .panic _=>none
theorem Dx{p:Code→Bool}:∀{l:List Code}{n j:Nat},zd p l n=some j→n≤j∧∃c,l[j -n]? =some c∧p c=true
 |[],_,_,h=>by cases h
 |
  c::l,n,j,h=>by
  unfold zd at h
  split at h
  ·grind
  ·obtain⟨h1,c',h2,h3⟩:=Dx h
   grind
variable{jl:List Code}
theorem ze{p:Code→Bool}{j:Nat}(h:zd p jl 1=some j):j≠0∧∃c,jmp jl j=some c∧p c=true:=by
 obtain⟨h1,c,h2,h3⟩:=Dx h
 refine⟨by omega,c,?_,h3⟩
 cases j with
 |zero=>omega
 |succ j=>trivial
def T3{R:Type}(c:Code)(σ:St)(k:fL→St→Option R):Option R:=
 match c with
 | .ret=>k .ret σ
 | .exit i=>k (.exit i) σ
 |_=>none
def Ph{R:Type}(σ:St)(k:fL→St→Option R)(j:Nat):List Code→Nat→Option R
 |[],_=>none
 |c::l,n=>if j=n then T3 c σ k else Ph σ k j l (n+1)
def T4{R:Type}(jl:List Code)(j:Nat)(σ:St)(k:fL→St→Option R):Option R:=if j=0 then k .normal σ else Ph σ k j jl 1
theorem HS{R:Type}{k:fL→St→Option R}{j:Nat}{r:R}:∀{l:List Code}{n:Nat},Ph σ k j l n=some r→n≤j∧∃c,l[j -n]? =some c∧T3 c σ k=some r
 |[],_,h=>by cases h
 |
  c::l,n,h=>by
  unfold Ph at h
  split at h
  ·grind
  ·obtain⟨h1,c',h2,h3⟩:=HS h
   grind
theorem Pj{gl:Ctx}{R:Type}{j:Nat}{k:fL→St→Option R}{r:R}(h:T4 jl j σ k=some r):match jmp jl j with
 |none=>k .normal σ=some r
 |some c=>cI P gl c σ (fun e σ'=>k e σ'=some r):=by
 unfold T4 at h
 split at h
 ·rename_i hj;subst hj;exact h
 ·obtain⟨h1,c,h2,h3⟩:=HS h
  have hj:jmp jl j=some c:=by
   cases j with
   |zero=>omega
   |succ j=>simpa[jmp] using h2
  rw[hj]
  simp only
  unfold T3 at h3
  split at h3
  ·exact cI.ret h3
  ·exact cI.exit h3
  ·cases h3
def LG(y:YC)(rh:Pb)(C:IC):fL→St→Option (fO (Nat::iw C.R [])):=fun e σ=>
 match T1 rh.jl e,rh.E.uR σ with
 |
  some j,some u=>if yc (rh.E.st y0 u).hp&&Nat.ble C.m (rh.E.st y0 u).hp.length then(match Xs C.R (l:=[]) (tie y.gs rh.ti 0 (rh.E.st y0 u).hp) () with
  |some e=>some (SF (Nat::iw C.R []) (j,e))
  |none=>none) else none
 |_,_=>none
def Wz(y:YC)(rh:Pb)(C:IC)(ps:Array Tmp)(σ:St)(wA wB:St→(fL→St→Option (fO (Nat::iw C.R [])))→Option (fO (Nat::iw C.R []))):prod (tO C.A (iw C.B []))→Option (fO C.T):=fun d=>
 match LD y rh.ti C.k0 0 (aS (List.replicate C.m none) (dg (oS y0 C.B (AH C.A d)))) with
 |
  some (vcs,H0)=>ifs vcs (if Nat.beq ps.size (xV y0 C.A d).length&&qL H0 rh.ti then(Option.bind (wA ⟨tT (ps.toList.zip (xV y0 C.A d)) (Lv rh.m σ.tm),H0,[]⟩ (fun e σ1=>match e with
  | .normal=>wB σ1 (LG y rh C)
  |_=>none)) fun r=>match LD y rh.ti C.m 0 (cY C.m (oS y0 C.R (rQ (Nat::iw C.R []) r).2)) with
  |some (vs,H1)=>ifs vs (if qL H1 rh.ti then some (SF C.T (Nat.beq (rQ (Nat::iw C.R []) r).1 0,y,(rQ (Nat::iw C.R []) r).1,(rQ (Nat::iw C.R []) r).2)) else none)
  |none=>none) else none)
 |none=>none
def T5(σ:St)(rh:Pb)(C:IC)(cs:AV):Bool:=
 σ.fu rh.dI&&σ.fu rh.lI&& !Nat.beq rh.dI rh.lI&&Nat.blt C.k0 16&&Nat.blt C.k0 C.m&& !mo C.k0 rh.ti&&XB σ.hp rh.ti rh.m&&kv (rh.m.map (·.2))&&cs.atoms&&C.R.all fun x=> !Nat.beq x.1 C.k0
def SL(σ:St)(y:YC)(rh:Pb)(cr:CR){R:Type}(k:fL→St→Option R):Option R:=
 match cr.r with
 |
  .fO .nil=>if Bd cr []&&((cr.ns.map (·.2)).all (fun b=>({σ with hp:=sE y rh.m rh.dI rh.lI σ.hp,df:=.mp rh.dI::σ.df}:St).fu b)) then(match(aS (sE y rh.m rh.dI rh.lI σ.hp) (mr (cr.al++cr.ns) cr.out (cr.ps++cr.ns)))[rh.lI]? with
  |some (some (.lp y' j))=>ifs [⟨y'=y,Classical.propDecidable _⟩] (T4 rh.jl j ⟨σ.tm,Lx ((aS (sE y rh.m rh.dI rh.lI σ.hp) (mr (cr.al++cr.ns) cr.out (cr.ps++cr.ns))).set rh.lI none),.mp rh.dI::σ.df⟩ k)
  |_=>none) else none
 |_=>none
def T6(σ:St)(y:YC)(rh:Pb)(gf:FuncId)(cs:AV)(C2:aZ){R:Type}(k:fL→St→Option R):Option R:=
 match ml (swp rh.ps) (eC (sE y rh.m rh.dI rh.lI σ.hp)) (((.func (.yield y.l) .nil .nil,Ty.unit))::cs.toList.map (fun x=>(x,Ty.unit))),jd (swp rh.ps) (eC (sE y rh.m rh.dI rh.lI σ.hp)) rh.ps with
 |
  some (L,[]),some ins=>fnK (.func gf) C2.fn (match C2.get L ins with
  |some d=>C2.f.run d (fun r=>SL σ y rh ⟨C2.res r,rh.ps,rh.ns,C2.out r,C2.m,false,[],[]⟩ k) (fun _=>none)
  |none=>none) none
 |_,_=>none
section
variable(P:Program) (G:bM) (gl:Ctx) (fr:Bool) (H:Hs) (Γ:List aZ)
def forget:List Oper→List AV→List AV
 |[],tm=>tm
 |
  o::l,tm=>forget l (match o.dst with
  |some d=>tm.set d .bot
  |none=>tm)
def T8:List (Nat×Ty)→List Type
 |[]=>[]
 |(_,t)::l=>t.den::T8 l
def mgG:(l:List (Nat×Ty))→List AV→Option (prod (T8 l))
 |[],_=>some ()
 |
  (i,t)::l,tm=>match tm[i]? with
  |
   some (.val u x)=>if h:Ty.same u t=true then(match mgG l tm with
   |some d=>some (mf h x,d)
   |none=>none) else none
  |_=>none
def mgV:(l:List (Nat×Ty))→prod (T8 l)→List (Nat×AV)
 |[],_=>[]
 |(i,t)::l,d=>(i,.val t d.1)::mgV l d.2
def XJ(ops:Array Oper)(l:List (Nat×Ty))(σ:St)(t:fO (T8 l)):St:={σ with tm:=nr (mgV l (rQ (T8 l) t)) (forget ops.toList σ.tm)}
def Ty.HT:(t:Ty)→DecidableEq t.den
 | .int _=>inferInstanceAs (DecidableEq Int)
 | .bool=>inferInstanceAs (DecidableEq Bool)
 | .str=>inferInstanceAs (DecidableEq (List UInt8))
 | .arr _ t=>@instDecidableEqList _ t.HT
 | .slice _ t=>@instDecidableEqList _ t.HT
 | .pair a b=>@instDecidableEqProd _ _ a.HT b.HT
 | .unit=>inferInstanceAs (DecidableEq Unit)
 | .aT _=>inferInstanceAs (DecidableEq Unit)
 | .fns _=>inferInstanceAs (DecidableEq (List (Option Nat)))
 | .map k v=>@Option.instDecidableEq _ (@instDecidableEqList _ (@instDecidableEqProd _ _ k.HT v.HT))
def uT:Path→Path→Bool
 |[],[]=>true
 | .cC a::p,.cC b::q=>Nat.beq a b&&uT p q
 |_,_=>false
theorem wS:∀{p q:Path},uT p q=true→p=q
 |[],[],_=>rfl
 |
  .cC a::p,.cC b::q,h=>by
  simp only[uT,bj] at h
  rw[bL h.1,wS h.2]
def mZ(t:Ty)(x y:t.den){R:Type}(K:Option R):Option R:=@ite _ (x=y) (t.HT x y) K none
def LJ:AV→AV→Option (List VC)
 | .val t x,.val u y=>if h:Ty.same u t=true then some [⟨x=mf h y,t.HT _ _⟩] else none
 | .bn,.bn=>some []
 | .own b,.own c=>if Nat.beq b c then some [] else none
 | .ptr b p,.ptr c q=>if Nat.beq b c&&uT p q then some [] else none
 |_,_=>none
def HU{R:Type}(ops:Array Oper)(σ:St)(fs:List aW)(j:Nat)(K:Option R):List Nat→Option R
 |[]=>K
 |
  i::l=>if xa ops i then none else match fs[i]?,eB P G gl ops XF [] (cw (fun x=>decide (x<j+1)) 0 fs σ) i with
  |
   some f,some (g,vcs,_)=>match LJ f.v g.v with
   |some vs=>if f.hw.isEmpty&&g.hw.isEmpty&&f.fr.isEmpty&&g.fr.isEmpty&&decide (f.rt=g.rt)&&decide (f.rb=g.rb)&&decide (f.dst=g.dst) then ifs (vcs++vs) (HU ops σ fs j K l) else none
   |none=>none
  |_,_=>none
def LK{R:Type}(lt:Option (List Nat×Nat))(ops:Array Oper)(σ:St)(fs:List aW)(K:Option R):Option R:=
 match lt with
 |none=>K
 |some (l,j)=>HU P G gl ops σ fs j K l
def Pk{R:Type}(lt:Option (List Nat×Nat))(ops:Array Oper)(draw:Bool)(σ:St)(k:St→Option R)(fs:List aW)(σ':St):Option R:=
 if draw then(if mc lt ops fs.reverse&&iV σ fs.reverse then LK P G gl lt ops σ fs.reverse (k σ') else none) else k σ'
def Jp(fs:List aW):Bool:=fs.all fun f=>f.hw.isEmpty
def LM{R:Type}(ops:Array Oper)(draw:Bool)(σ:St)(k:fL→St→Option R)(fs:List aW)(f:aW)(σp:St):Option R:=
 if Nat.blt (σ.hp.length -1) σ.hp.length&&f.v.plain then
  nZ P G gl ops draw (σ.hp.length -1) fs.length (if draw then sy ops.toList [] else[]) (fun gs=>
   if draw then(if mc none ops (jI fs.reverse f (σ.hp.length -1) gs)&&iV σ (jI fs.reverse f (σ.hp.length -1) gs) then k (.panic f.v) (wK fs.reverse f (σ.hp.length -1) gs σ) else none)
   else k (.panic f.v) (wK fs.reverse f (σ.hp.length -1) gs σ)) (ops.size -fs.length -1) (fs.length+1) (σp.app (wJ f (σ.hp.length -1))) [] else none
def Fl(ops:Array Oper)(draw:Bool)(σ:St):Option St:=
 match draw,ops with
 |
  false,⟨[o0,o1]⟩=>if lG o0.op then none else match eB P G gl ops XF [] σ 0 with
  |
   some (f,[],_)=>match f.fr.all σ.fu,o1.op,o1.guard,o1.dst with
   |
    true,.defer {callee:=.value x,args:=⟨[]⟩,argTypes:=⟨[]⟩},none,none=>match bD gl (σ.app f).tm x with
    | .func fn .nil cs=>some {σ.app f with df:=.func fn .nil cs::(σ.app f).df}
    |_=>none
   |_,_,_,_=>none
  |_=>none
 |_,_=>none
def Fm(ops:Array Oper):Option (Nat×Nat×Nat):=
 match ops with
 |
  ⟨[o0,o1]⟩=>match o0.op,o0.guard,o0.dst,o1.op,o1.guard,o1.dst with
  | .next (.tmp s) false,none,some d,.extract (.tmp d') 0,none,some d1=>if Nat.beq d' d then some (s,d,d1) else none
  |_,_,_,_,_,_=>none
 |_=>none
def LN(s d d1:Nat){R:Type}(σ:St)(k:fL→St→Option R):Option R:=
 match σ.tm[s]? with
 |
  some (.ptr b [])=>match eC σ.hp b with
  |
   some (.ky kt vt rest _)=>if Nat.blt d σ.tm.length then(if rest.isEmpty=true then k .normal ((σ.put (some d) .bot).put (some d1) (.val .bool false))
   else uq rest fun x l=>k .normal ((({σ with hp:=σ.hp.set b (some (.ky kt vt l (some x)))}:St).put (some d) .bot).put (some d1) (.val .bool true))) else none
  |_=>none
 |_=>none
def qN(ops:Array Oper)(draw:Bool)(zs:List (Nat×Nat×Ty))(cs:List CH)(mg:Option (List (Nat×Ty)))(lt:Option (List Nat×Nat)){R:Type}(σ:St)(k:fL→St→Option R):Option R:=
 if Pg ops then(if fr then(match Fl P G gl ops draw σ with
  |some σ'=>k .normal σ'
  |none=>none) else none) else
 match if draw then none else Fm ops with
 |some (s,d,d1)=>LN s d d1 σ k
 |none=>match mg with
 |none=>lD P G gl Γ ops zs (Pk P G gl lt ops draw σ (k .normal)) (LM P G gl ops draw σ k) ops.size 0 cs σ []
 |some l=>Option.bind (lD P G gl Γ ops zs (fun fs σ'=>if Jp fs then Pk P G gl lt ops draw σ (fun σ'=>(mgG l σ'.tm).map (SF (T8 l))) fs σ' else none) (fun _ _ _=>none) ops.size 0 cs σ []) fun d=>k .normal (XJ ops l σ d)
def LO{R:Type}:List (Nat×Nat)→St→(St→Option R)→Option R
 |[],σ,K=>K σ
 |
  (b,s)::l,σ,K=>match σ.tm[s]?,eC σ.hp b with
  |
   some (.val (.int _) n),some (.row _ _ _ xs)=>ifs [vc (0≤n),vc (n<xs.length)] (match zt b n.toNat σ with
   |some σ'=>LO l σ' K
   |none=>none)
  |
   some (.ptr c [.idx i]),some (.row _ _ _ _)=>if Nat.beq c b then(match zt b i σ with
   |some σ'=>LO l {σ' with tm:=σ'.tm.set s (.ptr b [.cC 1])} K
   |none=>none) else none
  |_,_=>none
def J8{R:Type}:List PF→St→(St→Option R)→Option R
 |[],σ,K=>K σ
 |
  .row b d k::l,σ,K=>match k.get σ,eC σ.hp b with
  |
   some (.val (.int _) n),some (.cT _ _ _ xs _ _)=>ifs [vc (0≤n),vc (n<xs.length)] (match Mr b n.toNat d σ with
   |some σ'=>J8 l σ' K
   |none=>none)
  |_,_=>none
 |
  .map mode b d k::l,σ,K=>match k.get σ with
  |
   some (.val t x)=>match Mu mode b d t x σ with
   |some (vcs,σ')=>ifs vcs (J8 l σ' K)
   |none=>none
  |_=>none
 |
  .eP b::l,σ,K=>match pK b σ with
  |some σ'=>J8 l σ' K
  |none=>none
 |
  .XE b k::l,σ,K=>match k.get σ with
  |
   some (.val t x)=>match Mw b t x σ with
   |some σ'=>J8 l σ' K
   |none=>none
  |_=>none
 |
  .Wy b::l,σ,K=>match eC σ.hp b with
  |some (.gk e bs t xs)=>tY xs fun ys=>J8 l {σ with hp:=σ.hp.set b (some (.row e bs t ys))} K
  |_=>none
def SN{R:Type}(l:List Gh)(k:fL→St→Option R):fL→St→Option R
 |
  .normal,σ=>match WA l σ with
  |some σ'=>k .normal σ'
  |none=>none
 |e,σ=>k e σ
def dig:Nat→Nat→List Nat
 |0,_=>[]
 |
  n+1,c=>match c with
  |0=>[]
  |c=>(c % 1000 -1)::dig n (c / 1000)
def ltOf(H:Hs)(id:Nat):Option (List Nat×Nat):=match XI H.unr (1000000+id) with
 |some c=>some (dig 9 (c / 1000),c % 1000 -1)
 |none=>none
def AN(id:Nat)(ops:Array Oper)(draw:Bool){R:Type}(σ:St)(k:fL→St→Option R):Option R:=
 match XI H.reg id with
 |none=>qN P G gl fr Γ ops draw [] [] none (ltOf H id) σ k
 |
  some rh=>match WA rh.pre σ with
  |some σ0=>LO rh.foc σ0 fun σ0=>J8 rh.pf σ0 fun σ0=>qN P G gl fr Γ ops draw rh.zs rh.cs rh.mg (ltOf H id) σ0 (SN rh.post k)
  |none=>none
def toJ{R:Type}(S:SS)(k:fL→St→Option R):fL→St→Option (cJ S.T R)
 | .normal,σ=>(S.uR σ).map .brk
 |e,σ=>bX (k e σ)
def toB{R:Type}(id:Nat)(S:SS)(k:fL→St→Option R):fL→St→Option (cJ S.T R)
 | .normal,σ=>(S.uR σ).map .brk
 | .exit i,σ=>if Nat.beq i id then(S.uR σ).map .brk else bX (k (.exit i) σ)
 |e,σ=>bX (k e σ)
def unB{R:Type}(id:Nat)(k:fL→St→Option R):fL→St→Option R
 | .exit i,σ=>if Nat.beq i id then k .normal σ else k (.exit i) σ
 |e,σ=>k e σ
def HV{R:Type}(w:St→(fL→St→Option R)→Option R)(k:fL→St→Option R):Nat→St→Option R
 |0,_=>none
 |
  n+1,σ=>w σ fun e σ'=>match e with
  | .normal=>HV w k n σ'
  |e=>k e σ'
end
section
variable(P:Program) (G:bM) (I:List IC) (H:Hs) (Γ:List aZ)
def walk:Code→Ctx→Bool→{R:Type}→St→(fL→St→Option R)→Option R
 | .skip,_,_,_,σ,k=>k .normal σ
 | .label _,_,_,_,σ,k=>k .normal σ
 | .scope c,gl,fr,_,σ,k=>walk c gl fr σ k
 | .exit i,_,_,_,σ,k=>k (.exit i) σ
 | .ret,_,_,_,σ,k=>k .ret σ
 | .region id ops draw,gl,fr,_,σ,k=>AN P G gl fr H Γ id ops draw σ k
 |
  .seq x z,gl,fr,_,σ,k=>match Pf H.join z with
  |
   none=>walk x gl fr σ fun e σ'=>match e with
   | .normal=>walk z gl fr σ' k
   |e=>k e σ'
  |some S=>aI (walk x gl fr σ (toJ S k)) fun d=>walk z gl fr (S.st y0 d) k
 |
  .cond c x z,gl,fr,_,σ,k=>match bD gl σ.tm c with
  | .val .bool b=>if b=true then walk x gl fr σ k else walk z gl fr σ k
  |_=>none
 |
  .block id c,gl,fr,_,σ,k=>match XI H.cN id with
  |none=>walk c gl fr σ (unB id k)
  |some S=>aI (walk c gl fr σ (toB id S k)) fun d=>k .normal (S.st y0 d)
 |
  .loop c,gl,fr,_,σ,k=>match Pf H.unr c with
  |some n=>HV (fun σ k=>walk c gl fr σ k) k n σ
  |
   none=>match Pf H.loop c with
   |none=>none
   |
    some L=>match L.S.uR σ with
    |none=>none
    |
     some u=>aL (fun rec u=>walk c gl fr (L.S.st y0 u) fun e σ'=>match e with
     | .normal=>Option.bind (L.S.uR σ') rec
     |e=>k e σ') (L.fuel u) u
 |
  .rangeFunc g ps assign body,gl,fr,_,σ,k=>if fr then(match Pf H.Ch body with
  |none=>none
  |
   some rh=>match I[rh.ic]?,rh.S.uR σ with
   |
    some C,some u=>match bD gl (rh.S.st y0 u).tm g with
    |
     .func (.func gf) .nil cs=>if T5 (rh.S.st y0 u) rh C cs then
      yb fun y=>T6 (rh.S.st y0 u) y rh gf cs (C.Wx y.l (Wz y rh C ps (rh.S.st y0 u) (fun σ1 k1=>walk assign (gl.ur y.l) false σ1 k1) (fun σ1 k1=>walk body (gl.ur y.l) false σ1 k1))) k
     else none
    |_=>none
   |_,_=>none) else none
 |_,_,_,_,_,_=>none
end
theorem wT:∀{l:List Oper}{tm:List AV},(forget l tm).length=tm.length
 |[],_=>rfl
 |
  o::l,tm=>by
  unfold forget
  rw[wT]
  split<;>simp
theorem wU{i:Nat}{x:AV}:∀{l:List Oper}{tm:List AV},(forget l tm)[i]? =some x→x= .bot∨(tm[i]? =some x∧∀o∈l,o.dst≠some i)
 |[],_,h=>Or.inr ⟨h,fun _ ho=>by cases ho⟩
 |
  o::l,tm,h=>by
  unfold forget at h
  rcases wU h with h|⟨h,hl⟩<;>grind
theorem LR:∀{l:List (Nat×Ty)}{tm:List AV}{d:prod (T8 l)},mgG l tm=some d→∀i x,(i,x)∈mgV l d→tm[i]? =some x
 |[],_,_,_,i,x,hx=>by cases hx
 |
  (j,t)::l,tm,d,h,i,x,hx=>by
  unfold mgG at h
  split at h
  ·rename_i u z hz
   split at h
   ·rename_i hs
    split at h
    ·rename_i d' hd'
     cases h
     simp only[mgV,fb,ir] at hx
     rcases hx with⟨rfl,rfl⟩|hx
     ·rw[hz,yU hs]
     ·exact LR hd' i x hx
    grind
   grind
  grind
theorem Dy{gl:Ctx}:∀{fs:List aW}{i:Nat}{σ σ':St},qz P gl ops i fs σ σ'→Jp fs=true→(∀(k:Nat)(f:aW)(o:Oper),fs[k]? =some f→ops[i+k]? =some o→f.dst=o.dst)→i+fs.length≤ops.size→
 σ'.hp=σ.hp∧σ'.df=σ.df∧σ'.tm.length=σ.tm.length∧∀t,(∀o∈ops.toList,o.dst≠some t)→σ'.tm[t]? =σ.tm[t]?
 |[],i,σ,σ',h,_,_,_=>by simp_all[bU]
 |
  f::fs,i,σ,σ',⟨_,_,h3⟩,hn,hd,hl=>by
  simp only[Jp,List.all_cons,bj,List.isEmpty_iff] at hn
  obtain⟨a,b,c,d⟩:=Dy h3 (by simpa[Jp] using hn.2) (fun k f' o h1 h2=>hd (k+1) f' o (by grind) (by grind)) (by grind)
  refine⟨by rw[a,ia,hn.1];rfl,by rw[b,wj],by rw[c,su],?_⟩
  intro t ht
  rw[d t ht]
  have hlt:i<ops.size:=by grind
  have:=hd 0 f ops[i] rfl (by grind)
  grind [ib]
variable{α:Type}{β:Type}
theorem map_some{x:Option α}{f:α→β}{r:β}(h:x.map f=some r):∃a,x=some a∧f a=r:=by
 simp_all
theorem cI.XK{gl:Ctx}{c:Code}{Q:fL→St→Prop}(h:cI P gl c σ (fun e σ'=>match e with| .panic v=>Q (.panic v) σ'|e=>∃σ2,Wk gl σ' σ2∧Q e σ2)):cI P gl c σ Q:=by
 intro E a w hg
 refine wpIn_mono (h E a w hg) ?_
 rintro ex a' w' ⟨x,σ',E',h1,h2,h3,h4⟩
 cases x with
 |panic v=>exact⟨_,σ',E',h1,h2,h3,h4⟩
 |
  normal=>
  obtain⟨σ2,hw,hq⟩:=h2
  obtain⟨E2,g2,x2⟩:=hw E' a' w' h3
  cases ex<;>first|exact h1.elim|exact⟨.normal,σ2,E2,trivial,hq,g2,h4.trans x2⟩
 |
  exit i=>
  obtain⟨σ2,hw,hq⟩:=h2
  obtain⟨E2,g2,x2⟩:=hw E' a' w' h3
  cases ex<;>first|trivial|exact⟨.exit i,σ2,E2,h1,hq,g2,h4.trans x2⟩
 |
  ret=>
  obtain⟨σ2,hw,hq⟩:=h2
  obtain⟨E2,g2,x2⟩:=hw E' a' w' h3
  cases ex<;>first|trivial|exact⟨.ret,σ2,E2,trivial,hq,g2,h4.trans x2⟩
section
variable{P:Program} {G:bM} (T:bA P G) {gl:Ctx} {fr:Bool} {H:Hs} {Γ:List aZ} (hΓ:∀C∈Γ,C.holds P gl)
include T hΓ
omit hΓ T in
theorem wV{l:List VC}:∀{vs:List VC},dC (vs++l)→dC vs∧dC l
 |[],h=>⟨trivial,h⟩
 |_::_,h=>⟨⟨h.1,(wV h.2).1⟩,(wV h.2).2⟩
omit hΓ T in
theorem LS{a b:AV}{l:List VC}(h:LJ a b=some l)(hv:dC l):a=b:=by
 unfold LJ at h
 split at h
 ·split at h
  ·rename_i hs
   cases h
   have:=Ty.aB hs
   subst this
   have e:=hv.1
   simp only[mf] at e
   rw[e]
  ·cases h
 ·rfl
 ·split at h
  ·rename_i hb;rw[bL hb]
  ·cases h
 ·split at h
  ·rename_i hb
   simp only[bj] at hb
   rw[bL hb.1,wS hb.2]
  ·cases h
 ·cases h
omit hΓ in
theorem Dz{ops:Array Oper}{R:Type}{σ:St}{fs:List aW}{j:Nat}{K:Option R}{r:R}:∀{l:List Nat},HU P G gl ops σ fs j K l=some r→(∀i f,i∈l→fs[i]? =some f→pv P gl ops i f (cw (fun x=>decide (x<j+1)) 0 fs σ))∧K=some r
 |[],h=>⟨fun i f hi=>(by cases hi),h⟩
 |
  i::l,h=>by
  unfold HU at h
  split at h
  ·cases h
  rename_i hno
  split at h
  ·rename_i f g vcs ob hf hs
   split at h
   ·rename_i l hl
    obtain⟨hc,h⟩:=bJ h
    obtain⟨hv,h⟩:=fe h
    obtain⟨ih,hk⟩:=Dz h
    simp only[bj,List.isEmpty_iff,qp] at hc
    obtain⟨⟨⟨⟨⟨⟨c1,c2⟩,c3⟩,c4⟩,c5⟩,c6⟩,c7⟩:=hc
    have hv1:=wV hv
    have ev:=LS hl hv1.2
    have e:f=g:=by
     cases f;cases g;simp_all
    refine⟨fun i' f' e1 e2=>?_,hk⟩
    rcases List.mem_cons.1 e1 with rfl|e1
    ·rw[hf] at e2
     cases e2
     rw[e]
     exact kV T rfl hs hv1.1 (kP hs fun h=>absurd h hno)
    ·exact ih i' f' e1 e2
   ·cases h
  ·cases h
omit hΓ in
theorem LU{lt:Option (List Nat×Nat)}{ops:Array Oper}{R:Type}{σ:St}{fs:List aW}{K:Option R}{r:R}(h:LK P G gl lt ops σ fs K=some r):(∀l i j f,lt=some (l,j)→i∈l→fs[i]? =some f→pv P gl ops i f (cw (fun x=>decide (x<j+1)) 0 fs σ))∧K=some r:=by
 unfold LK at h
 split at h
 ·exact⟨fun l i j f e=>(by cases e),h⟩
 ·rename_i l j
  obtain⟨h1,h2⟩:=Dz T h
  refine⟨fun l' i j' f e hi hf=>?_,h2⟩
  cases e
  exact h1 i f hi hf
omit hΓ in
theorem HX{lt:Option (List Nat×Nat)}{ops:Array Oper}{draw:Bool}{R:Type}{σ σ':St}{k:St→Option R}{fs:List aW}{r:R}(h:Pk P G gl lt ops draw σ k fs σ'=some r):(draw=true→(mc lt ops fs.reverse&&iV σ fs.reverse)=true∧∀l i j f,lt=some (l,j)→i∈l→fs.reverse[i]? =some f→pv P gl ops i f (cw (fun x=>decide (x<j+1)) 0 fs.reverse σ))∧k σ'=some r:=by
 unfold Pk at h
 cases draw with
 |false=>exact⟨fun e=>(vU e).elim,h⟩
 |
  true=>
  rw[aA rfl] at h
  obtain⟨h1,h2⟩:=bJ h
  obtain⟨h3,h4⟩:=LU T h2
  exact⟨fun _=>⟨h1,h3⟩,h4⟩
omit hΓ in
theorem Jq{id:Nat}{ops:Array Oper}{draw:Bool}{σ σ':St}{Q:fL→St→Prop}(hro:gl.ro=none)(h:Fl P G gl ops draw σ=some σ')(hq:Q .normal σ'):cI P gl (.region id ops draw) σ Q:=by
 unfold Fl at h
 split at h
 ·rename_i o0 o1
  split at h
  ·cases h
  rename_i hcl
  split at h
  ·rename_i f ob h0
   split at h
   ·rename_i x hfr ho hg hd
    split at h
    ·rename_i fn cs hv
     cases h
     intro E a w hgm
     refine wpIn_region ?_
     show wpOpsIn _ _ _ _ _ [0,1] _ _
     rw[wpOpsIn_cons]
     have hob:∀p∈ob,p:=kP h0 (fun e=>absurd e (by trivial))
     refine kV T rfl h0 trivial hob σ (iU.refl _ _ _) (fun d hd=>St.dQ ((List.all_eq_true.1 hfr) d hd)) E a w hgm _ _ ?_
     intro E1 a1 w1 hg1 hx1
     rw[wpOpsIn_cons]
     have e1:(#[o0,o1]:Array Oper)[1]? =some o1:=rfl
     unfold wpOpIn
     simp only[e1]
     have hw:Region.wanted o1 (yielded #[o0,o1] a1.tmps)=true:=by simp[Region.wanted,hg]
     rw[aA hw]
     have hv1:=gm hg1 x
     rw[hv] at hv1
     obtain⟨f',c',ev,r1,r2,r3,r4⟩:∃f' c',a1.eval x= .func fn f' c'∧RC E1 w1 .nil f'.toList∧RC E1 w1 cs c'.toList∧AV.nil.atoms=true∧cs.atoms=true:=by
      rcases RV.jj rfl hv1 with⟨hh,_⟩|⟨_,hh⟩
      ·cases hh
      ·obtain⟨f',c',e,q⟩:=hh
       grind
     have hf':f'= #[]:=by apply l9;trivial
     subst hf'
     refine⟨fun _ _=>trivial,?_⟩
     have hs:(o1.semAt (Wd gl).round a1.eval).run P w1= .ok (.defer {target:=.fn fn c',args:= #[]}) w1:=by
      simp_all[Oper.semAt_none,execOp,resolve,Deferred.ofValue]
     rw[hs,Oper.uponIn_defer,hd]
     have hg2:bP gl {σ.app f with df:=.func fn .nil cs::(σ.app f).df} E1 {a1 with defers:={target:=.fn fn c',args:= #[]}::a1.defers} w1:=
      ⟨hg1.len,hg1.tm,hg1.hw,⟨⟨#[],c',rfl,r1,r2,r3,r4⟩,hg1.df⟩⟩
     exact⟨.normal,_,E1,trivial,hq,hg2,hx1⟩
    grind
   grind
  grind
 grind
omit T hΓ in
theorem LV{id:Nat}{ops:Array Oper}{s d d1:Nat}(hn:Fm ops=some (s,d,d1)){R:Type}{σ:St}{k:fL→St→Option R}{r:R}(h:LN s d d1 σ k=some r):cI P gl (.region id ops false) σ (fun e σ'=>k e σ'=some r):=by
 unfold Fm at hn
 split at hn
 ·rename_i o0 o1
  split at hn
  ·rename_i s' d' d'' d1' h0 hg0 hd0 h1 hg1 hd1
   obtain⟨hd,hn⟩:=bJ hn
   cases hn
   have hd:=bL hd
   subst hd
   unfold LN at h
   split at h
   ·rename_i b hs
    split at h
    ·rename_i kt vt rest cur hb
     obtain⟨hl,h⟩:=bJ h
     refine cI.next h0 hg0 hd0 h1 hg1 hd1 hs (bQ _ b _ hb) hl ?_ ?_
     ·grind
     ·intro i hi
      rw[aC (by grind)] at h
      exact Jk h i hi
    grind
   grind
  grind
 grind
variable(hro:fr=true→gl.ro=none)
include hro
theorem tU{id:Nat}{ops:Array Oper}{draw:Bool}{zs:List (Nat×Nat×Ty)}{cs:List CH}{mg:Option (List (Nat×Ty))}{lt:Option (List Nat×Nat)}{R:Type}{σ:St}{k:fL→St→Option R}{r:R}(h:qN P G gl fr Γ ops draw zs cs mg lt σ k=some r):cI P gl (.region id ops draw) σ (fun e σ'=>k e σ'=some r):=by
 have key:∀{gs:List aW}{σ':St}{Q:fL→St→Prop},qz P gl ops 0 gs σ σ'→gs.length=ops.size→(draw=true→(mc lt ops gs&&iV σ gs)=true∧∀l i j f,lt=some (l,j)→i∈l→gs[i]? =some f→pv P gl ops i f (cw (fun x=>decide (x<j+1)) 0 gs σ))→Q .normal σ'→cI P gl (.region id ops draw) σ Q:=by
  intro gs σ' Q hc hn fW hq
  cases draw with
  |false=>exact fun E _ _ hg=>ES hn hc hg (fun E' _ _ h1 h2=>⟨.normal,σ',E',trivial,hq,h1,h2⟩)
  |
   true=>
   obtain⟨fW,hL⟩:=fW rfl
   simp only[bj] at fW
   exact fun E _ _ hg=>EU T fW.1 fW.2 hL hc hg (fun E' _ _ h1 h2=>⟨.normal,σ',E',trivial,hq,h1,h2⟩)
 unfold qN at h
 split at h
 ·obtain⟨hf,h⟩:=bJ h
  grind [Jq]
 split at h
 ·rename_i s d d1 hn
  cases draw with
  |true=>grind
  |false=>rw[aC vU] at hn;exact LV hn h
 split at h
 ·rcases pB T hΓ h with⟨gs,σ',hc,hn,_,hk⟩|⟨gs,f,σ',hc,hn,hp,hk⟩
  ·simp only[fT] at hk
   obtain⟨h1,h2⟩:=HX T hk
   simp only[List.reverse_reverse] at h1
   exact key hc hn h1 h2
  ·simp only[fT] at hk
   unfold LM at hk
   simp only[List.reverse_reverse,List.length_reverse] at hk
   obtain⟨h1,h2⟩:=bJ hk
   simp only[bj] at h1
   rw[eM] at hp
   have hz:σ.hp.length -1<σ.hp.length:=by simp_all
   obtain⟨ms,σe,k1,k2,k3,k4⟩:=pC T h2
   simp only[List.reverse_nil,List.nil_append] at k4
   have hze:(σ'.app (wJ f (σ.hp.length -1))).hp[σ.hp.length -1]? =some (some Fe):=by
    rw[ia]
    simp only[wJ,aS,dt,cj]
    rw[aA (by rw[bU.hl hc];exact hz)]
   have k1:=k1 hze
   cases draw with
   |false=>exact wL T hc hp k1 k3 hz (by omega) (fun e=>(vU e).elim) h1.2 k4
   |
    true=>
    rw[aA rfl] at k4
    obtain⟨q3,q4⟩:=bJ k4
    grind [wL]
 ·rename_i l
  obtain⟨d,hd,h⟩:=bind_some h
  rcases pB T hΓ hd with⟨gs,σ',hc,hn,hdst,hk⟩|⟨_,_,_,_,_,_,hk⟩
  case inr=>cases hk
  simp only[fT] at hk
  obtain⟨hw,hk⟩:=bJ hk
  obtain⟨h1,h2⟩:=HX T hk
  simp only[List.reverse_reverse] at h1
  have hw':Jp gs=true:=by simpa[Jp] using hw
  obtain⟨e1,e2,e3,e4⟩:=Dy hc hw' hdst (by omega)
  obtain⟨t,ht,rfl⟩:=map_some h2
  refine cI.XK (key hc hn h1 ⟨_,?_,h⟩)
  grind [Wk.sub,XJ,pA,wT,qK,lB,LR,wU]
omit T hΓ hro in
theorem AO{R:Type}{r:R}{K:St→Option R}:∀{l:List (Nat×Nat)}{σ:St},LO l σ K=some r→∃σ',Wk gl σ σ'∧K σ'=some r
 |[],σ,h=>⟨σ,Wk.refl gl σ,h⟩
 |
  (b,s)::l,σ,h=>by
  unfold LO at h
  split at h
  ·rename_i k n e bs t xs hs hb
   obtain⟨hv,h⟩:=fe h
   split at h
   ·rename_i σ1 h1
    obtain⟨σ',h2,h3⟩:=AO h
    refine⟨σ',Wk.trans (Wk.adi h1 ?_) h2,h3⟩
    intro e' bs' t' xs' hb'
    rw[hb] at hb'
    cases hb'
    exact(Int.toNat_lt hv.1).2 hv.2.1
   ·cases h
  ·rename_i c i e bs t xs hs hb
   obtain⟨hc,h⟩:=bJ h
   have hc:=bL hc
   subst hc
   split at h
   ·rename_i σ1 h1
    obtain⟨σ',h2,h3⟩:=AO h
    exact⟨σ',Wk.trans (Wk.adj hs h1) h2,h3⟩
   ·cases h
  ·cases h
omit T hΓ hro in
theorem cI.Wy{c:Code}{σ:St}{Q:fL→St→Prop}{b:Nat}{e:TypeId}{bs:Nat}{t:Ty}{xs:List t.den}(hb:σ.hp[b]? =some (some (.gk e bs t xs)))
 (h:∀ys:List t.den,ys.Perm xs→cI P gl c {σ with hp:=σ.hp.set b (some (.row e bs t ys))} Q):cI P gl c σ Q:=by
 intro E a w hg
 obtain⟨ys,hp,g1⟩:=hg.Yg hb
 have x1:Ext gl.md (bx σ.hp E) E w (bx (σ.hp.set b (some (.row e bs t ys))) E) E w:=by rw[bx.same hb];exact Ext.refl _ _ _
 refine wpIn_mono (h ys hp E a w g1) ?_
 rintro ex a2 w2 ⟨x,σ2,E2,h1,h2,h3,h4⟩
 exact⟨x,σ2,E2,h1,h2,h3,x1.trans h4⟩
omit T hΓ hro in
theorem sH{R:Type}{r:R}{K:St→Option R}{c:Code}{Q:fL→St→Prop}(hK:∀σ',K σ'=some r→cI P gl c σ' Q):∀{l:List PF}{σ:St},J8 l σ K=some r→cI P gl c σ Q
 |[],σ,h=>hK σ h
 |
  .row b d k::l,σ,h=>by
  unfold J8 at h
  split at h
  ·rename_i kk n e bs t xs e2 f hs hb
   obtain⟨hv,h⟩:=fe h
   split at h
   ·rename_i σ1 h1
    refine cI.wk (Wk.Mr h1 ?_) (sH hK h)
    intro e' bs' t' xs' e2' f' hb'
    rw[hb] at hb'
    cases hb'
    exact(Int.toNat_lt hv.1).2 hv.2.1
   grind
  grind
 |
  .map mode b d k::l,σ,h=>by
  unfold J8 at h
  split at h
  ·rename_i t x hs
   split at h
   ·rename_i vcs σ1 h1
    obtain⟨hv,h⟩:=fe h
    exact cI.wk (Wk.Mu h1 hv) (sH hK h)
   grind
  grind
 |
  .eP b::l,σ,h=>by
  unfold J8 at h
  split at h
  ·rename_i σ1 h1
   exact cI.wk (Wk.pK h1) (sH hK h)
  grind
 |
  .XE b k::l,σ,h=>by
  unfold J8 at h
  split at h
  ·rename_i t x hs
   split at h
   ·rename_i σ1 h1
    exact cI.wk (Wk.Mw h1) (sH hK h)
   grind
  grind
 |
  .Wy b::l,σ,h=>by
  unfold J8 at h
  split at h
  ·rename_i e bs t xs hk
   exact cI.Wy (bQ σ.hp b _ hk) (fun ys hp=>sH hK (FQ h hp))
  grind
theorem Fo{id:Nat}{ops:Array Oper}{draw:Bool}{R:Type}{σ:St}{k:fL→St→Option R}{r:R}(h:AN P G gl fr H Γ id ops draw σ k=some r):cI P gl (.region id ops draw) σ (fun e σ'=>k e σ'=some r):=by
 unfold AN at h
 split at h
 ·exact tU T hΓ hro h
 ·split at h
  ·rename_i σ0 h0
   obtain⟨σ1,h1,h2⟩:=AO (gl:=gl) h
   refine cI.post (cI.gh _ h0 (cI.wk h1 (sH (fun σ2 h4=>tU T hΓ hro h4) h2))) ?_ ?_
   ·intro e σ' hne he
    cases e with
    |normal=>grind
    |_=>exact he
   grind [SN,FU]
  grind
omit hΓ T hro in
theorem LW{c:Code}{R:Type}{w:St→(fL→St→Option R)→Option R}(ih:∀{σ:St}{k:fL→St→Option R}{r:R},w σ k=some r→cI P gl c σ (fun e σ'=>k e σ'=some r)){k:fL→St→Option R}{r:R}{n:Nat}{σ:St}
 (h:HV w k n σ=some r):cI P gl (.loop c) σ (fun e σ'=>k e σ'=some r):=by
 refine cI.loop (fun n σ=>HV w k n σ=some r) ?_ h
 intro n σ1 hn
 cases n with
 |zero=>cases hn
 |
  succ n=>
  refine cI.mono (ih hn) ?_
  intro e σ2 he
  cases e with
  |normal=>exact⟨n,Nat.lt_succ_self n,he⟩
  |_=>exact he
omit hΓ T hro in
theorem LX{c:Code}{R U:Type}{r:R}{k:fL→St→Option R}{F:(U→Option R)→U→Option R}{st:U→St}{uR:St→Option U}(hm:∀σ u,uR σ=some u→Wk gl σ (st u))
 (ih:∀{rec:U→Option R}{u:U},F rec u=some r→cI P gl c (st u) (fun e σ'=>(match e with| .normal=>Option.bind (uR σ') rec|e=>k e σ')=some r)) {n:Nat} {σ:St} {u:U} (hu:uR σ=some u)
 (h:aL F n u=some r):cI P gl (.loop c) σ (fun e σ'=>k e σ'=some r):=by
 refine cI.loop (fun n σ=>∃u,Wk gl σ (st u)∧aL F n u=some r) ?_ ⟨u,hm σ u hu,h⟩
 rintro n σ1 ⟨u1,hw,hn⟩
 cases n with
 |zero=>cases hn
 |
  succ n=>
  refine cI.wk hw (cI.mono (ih hn) ?_)
  intro e σ2 he
  cases e with
  |
   normal=>
   obtain⟨u2,h1,h2⟩:=bind_some he
   exact⟨n,Nat.lt_succ_self n,u2,hm σ2 u2 h1,h2⟩
  |_=>exact he
end
variable{C':Ctx}{H':List (Option aO)}
theorem Fy.up{C:Ctx}{l:Nat}{A:List AV}{H:List (Option aO)}{r:xZ}(hg:C'.gl=C.gl)(hC:∀S w,C.B S w)(h:Fy P C l A H r H')(hm:C'.md=C.md):Fy P C' l A H r H':=by
 intro E w vs hv hw
 obtain⟨fn,tm,asz,bd,h1,h2⟩:=h E w vs hv (hw.ctx hg.symm (hC _ _))
 refine⟨fn,tm,asz,bd,h1,RoundIn.mono h2 ?_⟩
 rintro e w' ⟨E',r1,r2,r3⟩
 rw[←hm] at r3
 exact⟨E',r1,r2.ctx hg (hw.gG (hw.kept r3)).2,r3⟩
theorem Lf.up{C:Ctx}{fn:Fn}{A:List AV}{H:List (Option aO)}{r:xZ}(hg:C'.gl=C.gl)(hC:∀S w,C.B S w)(h:Lf P C fn A H r H')(hm:C'.md=C.md):Lf P C' fn A H r H':=by
 cases fn with
 |func f=>exact Fc.up hg hC h hm
 |yield l=>exact Fy.up hg hC h hm
 |_=>trivial
theorem aZ.holds.up{gl gl':Ctx}{C:aZ}(h:C.holds P gl)(hg:gl'.gl=gl.gl)(hB:∀S w,gl.B S w)(hm:gl'.md=gl.md:=by rfl):C.holds P gl':=
 ⟨fun d r hd=>Lf.up hg hB (h.ret d r hd) hm,fun d x hd=>Lf.up hg hB (h.kz d x hd) hm⟩
theorem Fy.less{C:Ctx}{l:Nat}{A:List AV}{H H1 H2:List (Option aO)}{r:xZ}(h:Fy P C l A H r H1)(hs:∀(b:Nat)(k:aO),H2[b]? =some (some k)→H1[b]? =some (some k)):Fy P C l A H r H2:=by
 intro E w vs hv hw
 obtain⟨fn,tm,asz,bd,h1,h2⟩:=h E w vs hv hw
 refine⟨fn,tm,asz,bd,h1,RoundIn.mono h2 ?_⟩
 rintro e w' ⟨E',r1,r2,r3⟩
 exact⟨E',r1,r2.less hs,{r3 with own:=fun g ⟨b,k,hb,hg⟩=>r3.own g ⟨b,k,hs b k hb,hg⟩}⟩
theorem zf:∀{l H:List (Option aO)},H.length≤l.length→(∀(b:Nat)(k:aO),H[b]? =some (some k)→l[b]? =some (some k))→∃m,prune l m=H
 |l,[],_,_=>⟨[],by cases l<;>rfl⟩
 |[],x::H,h,_=>by simp at h
 |
  y::l,x::H,h,hs=>by
  obtain⟨m,hm⟩:=zf (l:=l) (H:=H) (by simpa using h) (fun b k hb=>by simpa using hs (b+1) k (by simpa using hb))
  cases x with
  |none=>exact⟨false::m,by simp[prune,hm]⟩
  |
   some k=>
   have:y=some k:=by simpa using hs 0 k rfl
   exact⟨true::m,by simp[prune,hm,this]⟩
theorem wW{gs:Nat→Nat}{ti:List (Nat×Ty)}:∀{l:List (Option aO)}{s i:Nat},(tie gs ti s l)[i]? =some none→l[i]? =some none
 |[],s,i,h=>by trivial
 |none::l,s,0,h=>rfl
 |some x::l,s,0,h=>by simp[tie] at h
 |none::l,s,i+1,h=>by simpa using wW (l:=l) (by simpa[tie] using h)
 |some x::l,s,i+1,h=>by simpa using wW (l:=l) (by simpa[tie] using h)
variable{gs:Nat→Nat}
theorem LY{i:Nat}{k k':aO}(h1:Fk (some k)=false)(h2:Fk (some k')=false)(h:mY gs ti i k=mY gs ti i k'):k=k':=by
 cases k with
 |
  var t v=>
  cases k' with
  |
   var t' v'=>
   grind [mY]
  |tv=>trivial
  |_=>grind [mY]
 |tv=>trivial
 |
  _=>
  cases k' with
  |var t' v'=>grind [mY]
  |tv=>trivial
  |_=>exact h
theorem HY{y:YC}:∀{m:List (Nat×de)}{l:List Type}{d:prod (iw m l)}{b:Nat}{k:aO},(b,k)∈oS y m d→∃s,(b,s)∈m
 |[],_,_,_,_,h=>by cases h
 |
  (i,s)::m,_,d,b,k,h=>by
  simp only[oS,fb,ir] at h
  rcases h with⟨rfl,_⟩|h
  ·grind
  ·obtain⟨s',hs⟩:=HY h
   exact⟨s',dj _ hs⟩
variable{out:List (Nat×aO)}
theorem fg{m:Nat}{b:Nat}{k:aO}(h:(cY m out)[b]? =some (some k)):(b,k)∈out:=by
 unfold cY at h
 rcases fk h with h|⟨_,h⟩<;>grind
theorem DA{m:Nat}:(cY m out).length=m:=by unfold cY;rw[kK,tB]
theorem wX{i:Nat}:∀{out:List (Nat×aO)},i∈wrote (out.map fun x=>(x.1,some x.2))→∃k,(i,k)∈out
 |[],h=>by cases h
 |
  (j,k)::out,h=>by
  simp only[dy,wrote,fb] at h
  rcases h with rfl|h
  ·grind
  ·obtain⟨k',hk⟩:=wX h
   exact⟨k',dj _ hk⟩
theorem Jr{m i b:Nat}{x:aO}(hi:∀k,(i,k)∉out)(hm:i<m):(cY m ((i,x)::out))[b]? =if b=i then some (some x) else(cY m out)[b]? :=by
 have hw:i∉wrote (out.map fun x=>(x.1,some x.2)):=by
  grind [wX]
 unfold cY
 simp only[dy,aS]
 split
 ·rename_i e
  subst e
  rw[ee hw,dt,aA rfl,aA (by simpa using hm)]
 ·rename_i e
  exact iC (by simp) (by rw[dt,aC (fun e'=>e e'.symm)])
variable{rh:Pb}
theorem LZ{gl:Ctx}{y:YC}{C:IC}{e:fL}{r:fO (Nat::iw C.R [])}(h:LG y rh C e σ=some r):∃σE,T1 rh.jl e=some (rQ (Nat::iw C.R []) r).1∧Wk gl σ σE∧yc σE.hp=true∧C.m≤σE.hp.length∧
 ∀i x,(i,x)∈oS y0 C.R (rQ (Nat::iw C.R []) r).2→(tie y.gs rh.ti 0 σE.hp)[i]? =some (some x):=by
 unfold LG at h
 split at h
 ·rename_i j u hj hu
  obtain⟨hc,h⟩:=bJ h
  simp only[bj] at hc
  split at h
  ·rename_i d hd
   cases h
   rw[qK]
   exact⟨_,hj,SS.iF hu,hc.1,iS hc.2,(E7 y0 hd).1⟩
  grind
 grind
variable{assign:Code}{body:Code}
theorem T9{gl Cx:Ctx}{y:YC}{C:IC}{ps:Array Tmp}{wA wB:St→(fL→St→Option (fO (Nat::iw C.R [])))→Option (fO (Nat::iw C.R []))}
 (hA:∀σ1 k1 r1,wA σ1 k1=some r1→cI P (gl.ur y.l) assign σ1 (fun e σ'=>k1 e σ'=some r1)) (hB:∀σ1 k1 r1,wB σ1 k1=some r1→cI P (gl.ur y.l) body σ1 (fun e σ'=>k1 e σ'=some r1))
 (hk:C.k0<C.m) (hR:(C.R.all fun x=> !Nat.beq x.1 C.k0)=true) (hof:Fh P gl σ.tm ps assign body C.k0 rh.ti rh.m rh.jl Cx y):(C.Y y.l (Wz y rh C ps σ wA wB)).holds P Cx:=by
 refine⟨?_,fun _ _ h=>h.elim⟩
 intro d r hd
 have hd':Wz y rh C ps σ wA wB d=some r:=hd
 unfold Wz at hd'
 split at hd'
 case h_2=>cases hd'
 rename_i vcs H0 htok
 obtain⟨hv,hd'⟩:=fe hd'
 obtain⟨hc,hd'⟩:=bJ hd'
 simp only[bj] at hc
 obtain⟨r0,hw,hd'⟩:=bind_some hd'
 split at hd'
 case h_2=>cases hd'
 rename_i vs H1 htok1
 obtain⟨hv1,hd'⟩:=fe hd'
 obtain⟨hto,hd'⟩:=bJ hd'
 have er:=kH hd'
 obtain⟨t1,t2,t3,t4⟩:=uS htok hv
 obtain⟨u1,u2,u3,u4⟩:=uS htok1 hv1
 rw[DA] at u1
 have lX:(aS (List.replicate C.m none) (dg (oS y0 C.B (AH C.A d)))).length=C.m:=by rw[kK,tB]
 rw[lX] at t1
 have hnk:∀k,(C.k0,k)∉oS y0 C.R (rQ (Nat::iw C.R []) r0).2:=by
  intro k hm
  obtain⟨s,hs⟩:=HY hm
  have:=(List.all_eq_true.1 hR) _ hs
  simp_all
 have hX0:(cY C.m (oS y0 C.R (rQ (Nat::iw C.R []) r0).2))[C.k0]? =some none:=by
  cases h:(cY C.m (oS y0 C.R (rQ (Nat::iw C.R []) r0).2))[C.k0]? with
  |none=>grind [DA]
  |
   some x=>
   cases x with
   |none=>rfl
   |some k=>exact absurd (fg h) (hnk k)
 have h10:H1[C.k0]? =some none:=by
  grind [wW]
 have hX1:∀i:Nat,(cY C.m (oS y0 C.R (rQ (Nat::iw C.R []) r0).2))[i]? =(tie y.gs rh.ti 0 H1)[i]? :=by
  intro i
  by_cases hi:i=C.m
  ·simp_all[nY]
  grind
 have hF:=hof (xV y0 C.A d) H0 H1 (rQ (Nat::iw C.R []) r0).1 (bL hc.1) (t2 C.k0 (by omega) (by grind)).2 h10 hc.2 hto ?_
 ·show Fy P Cx y.l (xV y0 C.A d) (aS (List.replicate C.m none) (dg (oS y0 C.B (AH C.A d)))) (.ret (.val .bool (rQ C.T r).1)) (cY C.m ((C.k0,.lp (rQ C.T r).2.1 (rQ C.T r).2.2.1)::oS y0 C.R (rQ C.T r).2.2.2))
  have e1:rQ C.T r=(Nat.beq (rQ (Nat::iw C.R []) r0).1 0,y,(rQ (Nat::iw C.R []) r0).1,(rQ (Nat::iw C.R []) r0).2):=by rw[←er];exact qK C.T _
  rw[e1]
  have eX:(tie y.gs rh.ti 0 H0).set C.k0 (some (.lp y 0))=aS (List.replicate C.m none) (dg (oS y0 C.B (AH C.A d))):=by
   apply List.ext_getElem?
   intro i
   rw[dt]
   split
   ·simp_all[nY]
   grind
  rw[eX] at hF
  refine hF.less ?_
  intro b k hb
  rw[Jr hnk hk] at hb
  grind
 ·refine cI.mono (hA _ _ _ hw) ?_
  intro e σ1 he
  cases e with
  |
   normal=>
   refine cI.mono (hB _ _ _ he) ?_
   intro e σ2 he
   obtain⟨σE,q1,q2,q3,q4,q5⟩:=LZ (gl:=gl.ur y.l) he
   have hpr:∃m,prune σE.hp m=H1:=by
    refine zf (by grind) ?_
    intro b k hb
    have hx:=hX1 b
    rw[AK hb,eM] at hx
    have:=q5 b _ (fg hx)
    obtain⟨k0,p1,p2⟩:=iP this
    rw[eM] at p2
    rw[p1]
    have nt:∀{l:List (Option aO)}{k:aO},yc l=true→l[b]? =some (some k)→Fk (some k)=false:=by
     intro l k hn hk
     cases k with
     |tv g t v=>exact absurd hk (HR hn b g t v)
     |_=>rfl
    rw[LY (nt u4 hb) (nt q3 p1) p2]
   obtain⟨m,hm⟩:=hpr
   cases e with
   |normal=>exact⟨by simpa[T1] using q1.symm,σE,m,q2,hm⟩
   |
    ret=>
    obtain⟨j1,c,j2,j3⟩:=ze q1
    refine⟨⟨j1,?_⟩,σE,m,q2,hm⟩
    grind [SK]
   |
    exit i=>
    obtain⟨j1,c,j2,j3⟩:=ze q1
    refine⟨⟨j1,?_⟩,σE,m,q2,hm⟩
    rw[j2]
    cases c<;>simp[LF] at j3
    rw[j3]
   |panic v=>trivial
  |_=>cases he
theorem XL{gl:Ctx}{g:Operand}{ps:Array Tmp}(hro:gl.ro=none){gf:FuncId}{cs:AV}(hg:bD gl σ.tm g= .func (.func gf) .nil cs){C:IC}(fW:T5 σ rh C cs=true)(hC:C.holds P gl)
 {wA wB:YC→St→(fL→St→Option (fO (Nat::iw C.R [])))→Option (fO (Nat::iw C.R []))}
 (hA:∀y σ1 k1 r1,wA y σ1 k1=some r1→cI P (gl.ur y.l) assign σ1 (fun e σ'=>k1 e σ'=some r1)) (hB:∀y σ1 k1 r1,wB y σ1 k1=some r1→cI P (gl.ur y.l) body σ1 (fun e σ'=>k1 e σ'=some r1))
 {R:Type} {k:fL→St→Option R} {r:R} (h:yb (fun y=>T6 σ y rh gf cs (C.Wx y.l (Wz y rh C ps σ (wA y) (wB y))) k)=some r):cI P gl (.rangeFunc g ps assign body) σ (fun e σ'=>k e σ'=some r):=by
 unfold T5 at fW
 simp only[bj,gX] at fW
 obtain⟨⟨⟨⟨⟨⟨⟨⟨⟨c1,c2⟩,c3⟩,c4⟩,c5⟩,c6⟩,c7⟩,c8⟩,c9⟩,c10⟩:=fW
 refine cI.rangeFunc hro hg rh.dI rh.lI C.k0 c1 c2 c3 c4 rh.ti rh.m c6 c7 c8 rh.jl c9 ?_
 intro y
 have hy:=Jo h y
 unfold T6 at hy
 split at hy
 case h_2=>cases hy
 rename_i L ins hL jX
 rcases Dr hy with⟨hfn,hy⟩|hy
 case inr=>cases hy
 split at hy
 case h_2=>cases hy
 rename_i d hd
 rcases CF.Dp hy with⟨q,hq,hy⟩|⟨x,hx,hy⟩
 case inr=>cases hy
 obtain⟨d1,d2⟩:=aZ.gF hd
 unfold SL at hy
 split at hy
 case h_2=>cases hy
 rename_i hr
 obtain⟨hcr,hy⟩:=bJ hy
 simp only[bj] at hcr
 split at hy
 case h_2=>cases hy
 rename_i y' j hlp
 obtain⟨hv,hy⟩:=fe hy
 have hv:y'=y:=hv.1
 subst hv
 refine⟨j,_,L,ins,_,⟨hr,hL,jX,hcr.1,hcr.2,hlp,rfl⟩,?_,?_⟩
 ·intro B hB' hof
  have hh:=hC B hB' y'.l _ (T9 (wA:=wA y') (wB:=wB y') (hA y') (hB y') (by simp_all) c10 hof)
  have:=hh.ret d q hq
  rw[←hfn,d1,d2] at this
  rw[show(C.Wx y'.l (Wz y' rh C ps σ (wA y') (wB y'))).res q= .fO .nil from hr] at this
  trivial
 ·have:=Pj (P:=P) (gl:=gl) hy
  grind
section
variable{P:Program} {G:bM} (T:bA P G) {I:List IC} {H:Hs} {Γ:List aZ}
include T
theorem j7:∀{c:Code}{gl:Ctx}{fr:Bool}(_hΓ:∀C∈Γ,C.holds P gl)(_hro:fr=true→gl.ro=none)(_hI:fr=true→∀C∈I,C.holds P gl∧∀S w,gl.B S w){R:Type}{σ:St}{k:fL→St→Option R}{r:R},walk P G I H Γ c gl fr σ k=some r→cI P gl c σ (fun e σ'=>k e σ'=some r):=by
 intro c
 induction c with
 |skip=>intro gl fr hΓ hro hI R σ k r h;exact cI.skip h
 |label l=>intro gl fr hΓ hro hI R σ k r h;exact cI.label h
 |scope c ih=>intro gl fr hΓ hro hI R σ k r h;exact cI.scope (ih hΓ hro hI h)
 |exit i=>intro gl fr hΓ hro hI R σ k r h;exact cI.exit h
 |ret=>intro gl fr hΓ hro hI R σ k r h;exact cI.ret h
 |region id ops draw=>intro gl fr hΓ hro hI R σ k r h;exact Fo T hΓ hro h
 |
  seq x z ih1 ih2=>
  intro gl fr hΓ hro hI R σ k r h
  unfold walk at h
  split at h
  ·refine cI.seq (cI.mono (ih1 hΓ hro hI h) ?_)
   intro e σ' he
   cases e with
   |normal=>exact ih2 hΓ hro hI he
   |_=>exact he
  ·rename_i S hS
   unfold aI at h
   obtain⟨o,ho,h⟩:=bind_some h
   refine cI.seq (cI.mono (ih1 hΓ hro hI ho) ?_)
   intro e σ' he
   cases e with
   |
    normal=>
    obtain⟨d,hd,e⟩:=map_some he
    subst e
    exact cI.wk (SS.iF hd) (ih2 hΓ hro hI h)
   |
    _=>
    obtain⟨d,hd,e⟩:=map_some he
    subst e
    cases h
    exact hd
 |
  cond c x z ih1 ih2=>
  intro gl fr hΓ hro hI R σ k r h
  unfold walk at h
  split at h
  ·rename_i b hb
   refine cI.cond hb (fun e=>ih1 hΓ hro hI ?_) (fun e=>ih2 hΓ hro hI ?_)<;>grind
  grind
 |
  block id c ih=>
  intro gl fr hΓ hro hI R σ k r h
  unfold walk at h
  split at h
  ·refine cI.block (cI.mono (ih hΓ hro hI h) ?_)
   intro e σ' he
   cases e with
   |
    exit i=>
    simp only[unB] at he
    simp only[AX]
    split at he<;>simp_all
   |_=>exact he
  ·rename_i S hS
   unfold aI at h
   obtain⟨o,ho,h⟩:=bind_some h
   have fin:∀{σ':St},(S.uR σ').map cJ.brk=some o→∃σ2,Wk gl σ' σ2∧k .normal σ2=some r:=by
    intro σ' he
    obtain⟨d,hd,e⟩:=map_some he
    grind [SS.iF]
   have oth:∀{e:fL}{σ':St},(k e σ').map cJ.ret=some o→k e σ'=some r:=by
    intro e σ' he
    obtain⟨d,hd,e⟩:=map_some he
    grind
   refine cI.XK (cI.block (cI.mono (ih hΓ hro hI ho) ?_))
   intro e σ' he
   cases e with
   |normal=>exact fin he
   |
    exit i=>
    simp only[toB] at he
    simp only[AX]
    split at he
    ·rename_i hb;rw[aA (bL hb)];grind
    ·rename_i hb;rw[aC (fun e=>hb (by simp_all))];exact⟨σ',Wk.refl gl σ',oth he⟩
   |ret=>exact⟨σ',Wk.refl gl σ',oth he⟩
   |panic v=>exact oth he
 |
  loop c ih=>
  intro gl fr hΓ hro hI R σ k r h
  unfold walk at h
  split at h
  ·grind [LW]
  ·split at h
   ·cases h
   ·split at h
    ·cases h
    ·rename_i u hu
     exact LX (fun σ u=>SS.iF) (fun h=>ih hΓ hro hI h) hu h
 |
  rangeFunc g ps assign body ih1 ih2=>
  intro gl fr hΓ hro hI R σ k r h
  unfold walk at h
  obtain⟨hfr,h⟩:=bJ h
  split at h
  ·cases h
  ·rename_i rh hrh
   split at h
   case h_2=>cases h
   rename_i C u hC hu
   split at h
   ·rename_i gf cs hg
    obtain⟨fW,h⟩:=bJ h
    obtain⟨hC1,hB⟩:=hI hfr C (kF hC)
    have hA:∀(y:YC)(σ1:St) k1 r1,walk P G I H Γ assign (gl.ur y.l) false (R:=fO (Nat::iw C.R [])) σ1 k1=some r1→cI P (gl.ur y.l) assign σ1 (fun e σ'=>k1 e σ'=some r1):=
     fun y σ1 k1 r1 h1=>@ih1 (gl.ur y.l) false (fun D hD=>(hΓ D hD).up rfl hB) (fun e=>(vU e).elim) (fun e=>(vU e).elim) _ _ _ _ h1
    have hB':∀(y:YC)(σ1:St) k1 r1,walk P G I H Γ body (gl.ur y.l) false (R:=fO (Nat::iw C.R [])) σ1 k1=some r1→cI P (gl.ur y.l) body σ1 (fun e σ'=>k1 e σ'=some r1):=
     fun y σ1 k1 r1 h1=>@ih2 (gl.ur y.l) false (fun D hD=>(hΓ D hD).up rfl hB) (fun e=>(vU e).elim) (fun e=>(vU e).elim) _ _ _ _ h1
    exact cI.wk (SS.iF hu) <| XL (wA:=fun y σ1 k1=>walk P G I H Γ assign (gl.ur y.l) false σ1 k1) (wB:=fun y σ1 k1=>walk P G I H Γ body (gl.ur y.l) false σ1 k1) (hro hfr) hg fW hC1 hA hB' h
   grind
 |_=>grind [walk]
end
def pick:List Nat→List (Option aO)→List (Nat×aO)
 |[],_=>[]
 |
  b::l,hp=>match hp[b]? with
  |some (some k)=>(b,k)::pick l hp
  |_=>pick l hp
theorem jJ{hp:List (Option aO)}:∀{l:List Nat}{b:Nat}{k:aO},(b,k)∈pick l hp→hp[b]? =some (some k)
 |[],_,_,h=>by cases h
 |
  c::l,b,k,h=>by
  simp only[pick] at h
  split at h
  ·rename_i k' hk
   rcases List.mem_cons.1 h with h|h
   ·cases h;exact hk
   ·exact jJ h
  ·exact jJ h
def aG(G:bM)(rs:List ResultVar)(jK:FuncId)(A:List Sh)(B:List (Nat×de))(m:Nat)(F:SS)(ob:List Nat)(f:CF (prod (tO A (iw B []))) F.T):aZ:=
 ⟨.func jK,A,B,m,F,fun r=>(jo G rs (F.st y0 r)).getD .bot,fun r=>pick ob (F.st y0 r).hp,f⟩
def Ua(F:SS):fL→St→Option F.T
 | .ret,σ=>F.uR σ
 | .normal,σ=>F.uR σ
 |_,_=>none
def Fp(σ:St):Option St:=
 match marks σ.df σ.hp with
 |some hp=>some ⟨σ.tm,hp,[]⟩
 |none=>none
def Fq(F:SS):fL→St→Option F.T
 |
  .ret,σ=>match Fp σ with
  |some σ=>F.uR σ
  |none=>none
 |
  .normal,σ=>match Fp σ with
  |some σ=>F.uR σ
  |none=>none
 |_,_=>none
def mw(nt m:Nat)(args:List AV)(ins:List (Nat×Option aO)):St:=⟨args++List.replicate (nt -args.length) .bot,aS (List.replicate m none) ins,[]⟩
def L0{α:Type}:Option α→Bool
 |some _=>true
 |none=>false
theorem na{x:Option AV}(h:L0 x=true):x=some (x.getD .bot):=by
 cases x with
 |none=>cases h
 |some y=>rfl
variable{F:SS}
theorem uU{gl:Ctx}{e:fL}{r:F.T}(h:Fq F e σ=some r):(e= .ret∨e= .normal)∧∃σ1,Fp σ=some σ1∧Wk gl σ1 (F.st y0 r):=by
 cases e with
 |
  ret=>
  simp only[Fq] at h
  split at h
  ·simp_all[SS.iF]
  grind
 |
  normal=>
  simp only[Fq] at h
  split at h
  ·simp_all[SS.iF]
  grind
 |_=>trivial
variable{σe:St}
theorem AE.AP{G:bM}(T:bA P G){gl:Ctx}{f:FuncId}{fn:Func}{c:Code}(hf:P.funcs[f]? =some fn)(hb:fn.body=some c)(hro:gl.ro=none){args:List AV}{ins:List (Nat×Option aO)}{m:Nat}{x:AV}
 (h:cI P gl c (mw fn.ntmps m args ins) (fun e σ=>(e= .ret∨e= .normal)∧∃σ1,Fp σ=some σ1∧Wk gl σ1 σe)) (_hd:σe.df= []) (amG:jo G fn.results.toList σe=some x) (hout:∀b k,(b,k)∈out→σe.hp[b]? =some (some k)):
 AE P gl f args (aS (List.replicate m none) ins) (.ret x) (cY m out):=by
 intro E w vs hv hw
 obtain⟨hl,amp⟩:=hv.get
 refine CallsIn.calls (F:=Wd gl) (n:=0) (callsIn_of_wp_marks hf hb trivial ?_ hro) (fun k d hd=>by cases hd)
 have hg:bP gl (mw fn.ntmps m args ins) E {tmps:=vs.toArray++Array.replicate (fn.ntmps -vs.toArray.size) undef,defers:=[]} w:=by
  refine⟨?_,?_,hw,trivial⟩
  ·grind [mw]
  ·intro i x hx v hv'
   simp only[mw] at hx
   rw[Array.getElem?_append] at hv'
   simp only[List.getElem?_append] at hx
   split at hx
   ·grind
   ·rw[List.getElem?_replicate] at hx
    split at hx
    ·cases hx;trivial
    grind
 refine wpIn_mono (h E _ w hg) ?_
 rintro ex a' w' ⟨e,σ',E',h1,⟨he,σ1,ho,hwk⟩,h3,h4⟩
 have main:LeavesInM (Wd gl) 0 P fn a'.tmps (fun e w'=>∃E',AD E' w' (.ret x) e∧HW gl E' w' (cY m out)∧Ext gl.md (bx (aS (List.replicate m none) ins) E) E w (bx (cY m out) E') E' w') a'.defers .returning w':=by
  unfold Fp at ho
  split at ho
  ·rename_i hp1 hm
   cases ho
   refine HN σ'.df h3 hm (fun w3 k1 k2=>?_)
   obtain⟨E2,g2,x2⟩:=hwk E' _ w3 k1
   obtain⟨v,k3,k4⟩:=qW T g2 amG
   have hw2:HW gl E2 w3 (cY m out):=g2.hw.less (fun b k hb=>hout b k (fg hb))
   have hx:Ext gl.md (bx (aS (List.replicate m none) ins) E) E w (bx (cY m out) E2) E2 w3:=
    {(h4.trans k2).trans x2 with own:=fun g ⟨b,k,hb,hgb⟩=>((h4.trans k2).trans x2).own g ⟨b,k,hout b k (fg hb),hgb⟩}
   exact⟨v,k3,E2,k4,hw2,hx⟩
  grind
 rcases he with rfl|rfl
 ·cases ex with
  |ret=>trivial
  |_=>trivial
 ·cases ex with
  |normal=>trivial
  |_=>trivial
variable{jK:FuncId}{A:List Sh}{B:List (Nat×de)}{nt:Nat}
theorem aZ.of{G:bM}(T:bA P G){gl:Ctx}{I:List IC}{H:Hs}(hΓ:∀C∈Γ,C.holds P gl)(hI:∀C∈I,C.holds P gl∧∀S w,gl.B S w)(hro:gl.ro=none){rs:List ResultVar}{m:Nat}{ob:List Nat}{f:prod (tO A (iw B []))→Option F.T}
 {fn:Func} {c:Code} (amn:∀vs w,(callFunc jK vs).run P w= .ok (.enter jK vs) w) (hf:P.funcs[jK]? =some fn) (hb:fn.body=some c) (hrs:fn.results.toList=rs) (hnt:fn.ntmps=nt) (hF:F.df= [])
 (amG:∀r:F.T,L0 (jo G rs (F.st y0 r))=true)
 (h:∀d,f d=walk P G I H Γ c gl true (mw nt m (xV y0 A d) (dg (oS y0 B (AH A d)))) (Fq F)):
 (aG G rs jK A B m F ob (.bq f)).holds P gl:=by
 refine⟨?_,fun _ _ h=>h.elim⟩
 intro d r hd
 have hd':f d=some r:=hd
 rw[h d] at hd'
 refine⟨amn,?_⟩
 have amh:=j7 T hΓ (fun _=>hro) (fun _=>hI) hd'
 subst hnt
 refine AE.AP T hf hb hro (σe:=F.st y0 r) (cI.mono amh ?_) ?_ ?_ ?_
 ·intro e σ he
  exact uU he
 ·show(F.st y0 r).df= []
  simp only[SS.st,SS.mw]
  obtain⟨nt',nh,tm,hp,df⟩:=F
  simp only at hF
  subst hF
  rfl
 ·rw[hrs];exact na (amG r)
 ·intro b k hbk;exact jJ hbk
def wY(s:Sh)(F:SS):fL→St→Option (Sum (prod (s.H [])) F.T)
 |
  .ret,σ=>match Fp σ with
  |some σ=>(F.uR σ).map .inr
  |none=>none
 |
  .normal,σ=>match Fp σ with
  |some σ=>(F.uR σ).map .inr
  |none=>none
 |
  .panic v,σ=>match σ.df with
  |[]=>(s.G (l:=[]) v ()).map .inl
  |_=>none
 |_,_=>none
theorem AE.L4{gl:Ctx}{f:FuncId}{fn:Func}{c:Code}(hf:P.funcs[f]? =some fn)(hb:fn.body=some c)(hro:gl.ro=none){args:List AV}{ins:List (Nat×Option aO)}{m:Nat}{x:AV}
 (h:cI P gl c (mw fn.ntmps m args ins) (fun e σ=>e= .panic x∧σ.df= [])):
 AE P gl f args (aS (List.replicate m none) ins) (.kz x) (cY m []):=by
 intro E w vs hv hw
 obtain⟨hl,amp⟩:=hv.get
 refine CallsIn.calls (F:=Wd gl) (n:=0) (callsIn_of_wp hf hb trivial ?_ hro) (fun k d hd=>by cases hd)
 have hg:bP gl (mw fn.ntmps m args ins) E {tmps:=vs.toArray++Array.replicate (fn.ntmps -vs.toArray.size) undef,defers:=[]} w:=by
  refine⟨?_,?_,hw,trivial⟩
  ·grind [mw]
  ·intro i x hx v hv'
   simp only[mw] at hx
   rw[Array.getElem?_append] at hv'
   simp only[List.getElem?_append] at hx
   split at hx
   ·grind
   ·rw[List.getElem?_replicate] at hx
    split at hx
    ·cases hx;trivial
    grind
 refine wpIn_mono (h E _ w hg) ?_
 rintro ex a' w' ⟨e,σ',E',h1,⟨rfl,hd⟩,h3,h4⟩
 have hdf:a'.defers= []:=by
  have:=h3.df
  rw[hd] at this
  cases hds:a'.defers with
  |nil=>rfl
  |cons d l=>rw[hds] at this;trivial
 have hw2:HW gl E' w' (cY m []):=h3.hw.less (fun b k hb=>absurd (fg hb) (by simp))
 have hx:Ext gl.md (bx (aS (List.replicate m none) ins) E) E w (bx (cY m []) E') E' w':=
  {h4 with own:=fun g ⟨b,k,hb,hgb⟩=>absurd (fg hb) (by simp)}
 cases ex with
 |panic ch=>exact⟨hdf,E',h1,hw2,hx⟩
 |_=>trivial
theorem aZ.J9{G:bM}(T:bA P G){gl:Ctx}{I:List IC}{H:Hs}(hΓ:∀C∈Γ,C.holds P gl)(hI:∀C∈I,C.holds P gl∧∀S w,gl.B S w)(hro:gl.ro=none){rs:List ResultVar}{m:Nat}{s:Sh}{ob:List Nat}{f:prod (tO A (iw B []))→Option (Sum (prod (s.H [])) F.T)}
 {fn:Func} {c:Code} (amn:∀vs w,(callFunc jK vs).run P w= .ok (.enter jK vs) w) (hf:P.funcs[jK]? =some fn) (hb:fn.body=some c) (hrs:fn.results.toList=rs) (hnt:fn.ntmps=nt) (hF:F.df= [])
 (amG:∀r:F.T,L0 (jo G rs (F.st y0 r))=true)
 (h:∀d,f d=walk P G I H Γ c gl true (mw nt m (xV y0 A d) (dg (oS y0 B (AH A d)))) (wY s F)):
 (aG G rs jK A B m F ob (.kz s f)).holds P gl:=by
 refine⟨?_,?_⟩
 ·intro d r hd
  have hd':f d=some (.inr r):=hd
  rw[h d] at hd'
  refine⟨amn,?_⟩
  have amh:=j7 T hΓ (fun _=>hro) (fun _=>hI) hd'
  subst hnt
  refine AE.AP T hf hb hro (σe:=F.st y0 r) (cI.mono amh ?_) ?_ ?_ ?_
  ·intro e σ he
   cases e with
   |
    ret=>
    simp only[wY] at he
    split at he
    ·rename_i σ1 h1
     obtain⟨y,hy,e⟩:=map_some he
     cases e
     exact⟨Or.inl rfl,σ1,h1,SS.iF hy⟩
    grind
   |
    normal=>
    simp only[wY] at he
    split at he
    ·rename_i σ1 h1
     obtain⟨y,hy,e⟩:=map_some he
     cases e
     exact⟨Or.inr rfl,σ1,h1,SS.iF hy⟩
    grind
   |
    panic v=>
    simp only[wY] at he
    split at he<;>simp_all
   |exit i=>trivial
  ·show(F.st y0 r).df= []
   simp only[SS.st,SS.mw]
   obtain⟨nt',nh,tm,hp,df⟩:=F
   simp only at hF
   subst hF
   rfl
  ·rw[hrs];exact na (amG r)
  ·intro b k hbk;exact jJ hbk
 ·rintro d x ⟨p,hd,rfl⟩
  have hd':f d=some (.inl p):=hd
  rw[h d] at hd'
  refine⟨amn,?_⟩
  have amh:=j7 T hΓ (fun _=>hro) (fun _=>hI) hd'
  subst hnt
  refine AE.L4 hf hb hro (cI.mono amh ?_)
  intro e σ he
  cases e with
  |
   ret=>
   simp only[wY] at he
   split at he<;>simp_all
  |
   normal=>
   simp only[wY] at he
   split at he<;>simp_all
  |
   panic v=>
   simp only[wY] at he
   split at he
   ·rename_i hdf
    obtain⟨y,hy,e⟩:=map_some he
    grind [Sh.ya]
   grind
  |exit i=>trivial
theorem aZ.XM{gl:Ctx}{G:bM}{rs:List ResultVar}{m:Nat}{ob:List Nat}:(aG G rs jK A B m F ob (.bq fun _=>none)).holds P gl:=
 ⟨fun _ _ h=>(by trivial),fun _ _ h=>h.elim⟩
theorem aZ.sub{gl:Ctx}{G:bM}{rs:List ResultVar}{m:Nat}{ob:List Nat}{f g:prod (tO A (iw B []))→Option F.T}(h:(aG G rs jK A B m F ob (.bq f)).holds P gl)(hs:∀d r,g d=some r→f d=some r):(aG G rs jK A B m F ob (.bq g)).holds P gl:=
 ⟨fun d r hd=>h.ret d r (hs d r hd),fun _ _ h=>h.elim⟩
def Pm{α:Type}:Option α→Option α→Option α
 |some x,_=>some x
 |none,y=>y
theorem L5{x y:Option α}{r:α}(h:Pm x y=some r):x=some r∨y=some r:=by
 cases x with
 |some z=>exact Or.inl h
 |none=>exact Or.inr h
theorem aZ.or{gl:Ctx}{G:bM}{rs:List ResultVar}{m:Nat}{ob:List Nat}{f g:prod (tO A (iw B []))→Option F.T}(hf:(aG G rs jK A B m F ob (.bq f)).holds P gl)(hg:(aG G rs jK A B m F ob (.bq g)).holds P gl):(aG G rs jK A B m F ob (.bq fun d=>Pm (f d) (g d))).holds P gl:=
 ⟨fun d r hd=>(L5 hd).elim (hf.ret d r) (hg.ret d r),fun _ _ h=>h.elim⟩
def SO(P:Program)(gl:Ctx):List aZ→Prop
 |[]=>True
 |C::l=>C.holds P gl∧SO P gl l
theorem hold{gl:Ctx}:∀{l:List aZ},SO P gl l→∀C∈l,C.holds P gl
 |[],_,C,h=>by cases h
 |
  D::l,h,C,hC=>by
  rcases List.mem_cons.1 hC with rfl|hC
  ·exact h.1
  ·exact hold h.2 C hC
def SP(P:Program)(gl:Ctx):List IC→Prop
 |[]=>True
 |C::l=>C.holds P gl∧SP P gl l
theorem DB{l:List Jc}{md:Prop}:∀{L:List IC},SP P (Ctx.of l md) L→∀C∈L,C.holds P (Ctx.of l md)∧∀S w,(Ctx.of l md).B S w
 |[],_,C,h=>by cases h
 |
  D::L,h,C,hC=>by
  rcases List.mem_cons.1 hC with rfl|hC
  ·exact⟨h.1,fun _ _=>trivial⟩
  ·exact DB h.2 C hC
theorem aK{gl:Ctx}:∀C∈([]:List IC),C.holds P gl∧∀S w,gl.B S w:=fun C h=>by cases h
def zg(pm:Bool)(u:Value):FrameMode:=if pm then .panicking [{v:=u,recovered:=false}] else .returning
def nc(pm:Bool)(u:Value):FrameMode:=if pm then .panicking [{v:=u,recovered:=true}] else .returning
def Ub(P:Program)(gl:Ctx)(f:FuncId)(pm:Bool)(x:AV)(args:List AV)(H H':List (Option aO)):Prop:=
 (∀vs w,(callFunc f vs).run P w= .ok (.enter f vs) w)∧∀E w vs u,lq E w args vs→bZ E w x u→(pm=false→u= .nilIface)→HW gl E w H→
  CallsDIn (Wd gl) 0 P f vs.toArray (zg pm u) w fun e m w'=>m=nc pm u∧(∃v,e= .returned v)∧∃E',HW gl E' w' H'∧Ext gl.md (bx H E) E w (bx H' E') E' w'
variable{pm:Bool}{rid:Nat}{o1:Oper}
theorem Ub.Uc{G:bM}(T:bA P G){gl:Ctx}{f:FuncId}{x:AV}{fn:Func}{rest:Code}{t5 t2:Nat}{ts:Array TypeId}{o0:Oper}(hcf:∀vs w,(callFunc f vs).run P w= .ok (.enter f vs) w)(hf:P.funcs[f]? =some fn)
 (hb:fn.body=some (.seq (.region rid ops false) rest)) (hro:gl.ro=none) (hops:ops= #[o0,o1]) (h0:o0.op= .call {callee:=.builtin .recover,args:= #[],argTypes:=ts}) (h0d:o0.dst=some t5) (h0g:o0.guard=none)
 (h1:o1.op= .assign (.tmp t5)) (h1d:o1.dst=some t2) (h1g:o1.guard=none) {args:List AV} {ins:List (Nat×Option aO)} {m:Nat}   {r:AV} (ht5:Nat.blt t5 fn.ntmps=true)
 (h:cI P gl rest (((mw fn.ntmps m args ins).put (some t5) x).put (some t2) x) (fun e σ=>(e= .ret∨e= .normal)∧Wk gl σ σe)) (hd:σe.df= []) (amG:jo G fn.results.toList σe=some r) (hout:∀b k,(b,k)∈out→σe.hp[b]? =some (some k)):
 Ub P gl f pm x args (aS (List.replicate m none) ins) (cY m out):=by
 refine⟨hcf,?_⟩
 intro E w vs u hv hx hpm hw
 obtain⟨hl,amp⟩:=hv.get
 refine callsDIn_of_wpSIn hf hb trivial ?_
 intro c0 cs hm
 have hg:bP gl (mw fn.ntmps m args ins) E {tmps:=vs.toArray++Array.replicate (fn.ntmps -vs.toArray.size) undef,defers:=[]} w:=by
  refine⟨?_,?_,hw,trivial⟩
  ·grind [mw]
  ·intro i x hx v hv'
   simp only[mw] at hx
   rw[Array.getElem?_append] at hv'
   simp only[List.getElem?_append] at hx
   split at hx
   ·grind
   ·rw[List.getElem?_replicate] at hx
    split at hx
    ·cases hx;trivial
    grind
 refine wpSIn_seq (wpSIn_region ?_)
 subst hops
 show wpOpsSIn _ _ _ _ _ [0,1] _ _ _
 have w0:∀y,Region.wanted o0 y=true:=by intro y;simp[Region.wanted,h0g]
 have w1:∀y,Region.wanted o1 y=true:=by intro y;simp[Region.wanted,h1g]
 have x0:∀ρ:Operand→Value,(execOp ρ o0).run P w= .ok .recover w:=by
  simp_all[execOp,resolve,invoke,builtin]
 have ei0:(#[o0,o1]:Array Oper)[0]? =some o0:=rfl
 have ei1:(#[o0,o1]:Array Oper)[1]? =some o1:=rfl
 have hu:RV E w x u:=RV.eR hx
 have hg1:=hg.put (some t5) hu
 have hlt:t5<fn.ntmps:=by simp_all
 have hev:((({tmps:=vs.toArray++Array.replicate (fn.ntmps -vs.toArray.size) undef,defers:=[]}:Act).put o0.dst u).eval (.tmp t5))=u:=by
  rw[h0d]
  have hsz:t5<(vs.toArray++Array.replicate (fn.ntmps -vs.toArray.size) undef).size:=by
   grind
  simp_all[Act.put,Act.eval]
 have x1:(execOp (({tmps:=vs.toArray++Array.replicate (fn.ntmps -vs.toArray.size) undef,defers:=[]}:Act).put o0.dst u).eval o1).run P w= .ok (.value u) w:=by
  simp_all[execOp]
 have hg2:=hg1.put (some t2) hu
 suffices hfin:rest.wpSIn (Wd gl) 0 P (bodyPostS P fn c0 cs fun e m_1 w'=>m_1=nc pm u∧(∃v,e= .returned v)∧∃E',HW gl E' w' (cY m out)∧Ext gl.md (bx (aS (List.replicate m none) ins) E) E w (bx (cY m out) E') E' w')
  ((({tmps:=vs.toArray++Array.replicate (fn.ntmps -vs.toArray.size) undef,defers:=[]}:Act).put o0.dst u).put o1.dst u) ({c0 with mode:=nc pm u}::cs) w by
  cases pm with
  |
   true=>
   have hrc:recoverD (c0::cs)=some (u,{c0 with mode:=nc true u}::cs):=by
    simp_all[zg,nc,recoverD]
   simp only[wpOpsSIn,ei0,ei1,w0,w1,cj,x0,hrc]
   refine⟨fun _ _=>trivial,fun _ _=>trivial,?_⟩
   rw[x1]
   trivial
  |
   false=>
   have hu0:=hpm rfl
   subst hu0
   have hrc:recoverD (c0::cs)=none:=by
    simp_all[zg,recoverD]
   have hcc:({c0 with mode:=nc false .nilIface}:Frame)=c0:=by
    simp only[zg,nc,eK,dz] at hm ⊢
    rw[←hm]
   rw[hcc] at hfin
   simp only[wpOpsSIn,ei0,ei1,w0,w1,cj,x0,hrc]
   refine⟨fun _ _=>trivial,fun _ _=>trivial,?_⟩
   rw[x1]
   trivial
 rw[h0d,h1d]
 refine wpSIn_of_wpIn (F:=Wd gl) hro (wpIn_mono (h E _ w hg2) ?_)
 rintro ex a' w' ⟨e,σ',E',q1,⟨he,hwk⟩,q3,q4⟩
 obtain⟨E2,g2,x2⟩:=hwk E' a' w' q3
 obtain⟨v,k1,k2⟩:=qW T g2 amG
 have hdf:a'.defers= []:=by
  have:=g2.df
  rw[hd] at this
  cases hds:a'.defers with
  |nil=>rfl
  |cons d l=>rw[hds] at this;trivial
 have hw2:HW gl E2 w' (cY m out):=g2.hw.less (fun b k hb=>hout b k (fg hb))
 have hxx:Ext gl.md (bx (aS (List.replicate m none) ins) E) E w (bx (cY m out) E2) E2 w':=by
  have q4':Ext gl.md (bx (aS (List.replicate m none) ins) E) E w (bx σ'.hp E') E' w':=q4
  exact{q4'.trans x2 with own:=fun g ⟨b,k,hb,hgb⟩=>(q4'.trans x2).own g ⟨b,k,hout b k (fg hb),hgb⟩}
 rcases he with rfl|rfl
 ·cases ex with
  |ret=>exact⟨hdf,nc pm u,rfl,v,k1,rfl,⟨v,rfl⟩,E2,hw2,hxx⟩
  |_=>trivial
 ·cases ex with
  |normal=>exact⟨hdf,nc pm u,rfl,v,k1,rfl,⟨v,rfl⟩,E2,hw2,hxx⟩
  |_=>trivial
structure gn where
 jK:FuncId
 A:List Sh
 B:List (Nat×de)
 m:Nat
 s:Sh
 F:SS
 out:F.T→List (Nat×aO)
 n:prod (tO A (iw B []))→Option F.T
 p:prod (tO A (iw B []))→prod (s.H [])→Option F.T
abbrev gn.D(C:gn):Type:=prod (tO C.A (iw C.B []))
def gn.args(C:gn)(d:C.D):List AV:=xV y0 C.A d
def gn.ins(C:gn)(d:C.D):List (Nat×Option aO):=dg (oS y0 C.B (AH C.A d))
structure gn.holds(P:Program)(gl:Ctx)(C:gn):Prop where
 n:∀d r,C.n d=some r→Ub P gl C.jK false .gY (C.args d) (aS (List.replicate C.m none) (C.ins d)) (cY C.m (C.out r))
 p:∀d q r,C.p d q=some r→Ub P gl C.jK true (C.s.V y0 q) (C.args d) (aS (List.replicate C.m none) (C.ins d)) (cY C.m (C.out r))
def gn.get(C:gn)(L:List AV)(I:List (Nat×Option aO)):Option C.D:=
 match Pa C.B (l:=[]) I () with
 |some d=>TX C.A L d
 |none=>none
theorem gn.gF{C:gn}{d:C.D}(h:C.get L I=some d):C.args d=L∧C.ins d=I:=by
 unfold gn.get at h
 split at h
 ·rename_i d1 h1
  obtain⟨a1,a2⟩:=AM y0 h1
  obtain⟨b1,b2⟩:=AI y0 h
  exact⟨b1,by unfold gn.ins;grind⟩
 grind
section
variable{P:Program} {G:bM} (T:bA P G) {gl:Ctx} {H:Hs} {Γ:List aZ} (hΓ:∀C∈Γ,C.holds P gl) (hro:gl.ro=none) {rs:List ResultVar} {jK:FuncId} {A:List Sh} {B:List (Nat×de)} {m nt:Nat} {s:Sh} {F:SS} {ob:List Nat}
 {n:prod (tO A (iw B []))→Option F.T} {p:prod (tO A (iw B []))→prod (s.H [])→Option F.T} {fn:Func} {ops:Array Oper} {rid:Nat} {rest:Code} {t5 t2:Nat} {ts:Array TypeId} {o0 o1:Oper}
 (amn:∀vs w,(callFunc jK vs).run P w= .ok (.enter jK vs) w) (hf:P.funcs[jK]? =some fn) (hB:fn.body=some (.seq (.region rid ops false) rest)) (hrs:fn.results.toList=rs) (hnt:fn.ntmps=nt)
 (hops:ops= #[o0,o1]) (h0:o0.op= .call {callee:=.builtin .recover,args:= #[],argTypes:=ts}) (h0d:o0.dst=some t5) (h0g:o0.guard=none) (h1:o1.op= .assign (.tmp t5)) (h1d:o1.dst=some t2) (h1g:o1.guard=none) (ht5:Nat.blt t5 nt=true)
 (hF:F.df= []) (amG:∀r:F.T,L0 (jo G rs (F.st y0 r))=true)
include T hΓ hro amn hf hB hrs hnt hops h0 h0d h0g h1 h1d h1g ht5 hF amG
theorem gn.of1{pm:Bool}{x:AV}{args:List AV}{ins:List (Nat×Option aO)}{r:F.T}(hw:walk P G [] H Γ rest gl true (((mw nt m args ins).put (some t5) x).put (some t2) x) (Ua F)=some r):
 Ub P gl jK pm x args (aS (List.replicate m none) ins) (cY m (pick ob (F.st y0 r).hp)):=by
 have hdf:(F.st y0 r).df= []:=by
  simp only[SS.st,SS.mw]
  obtain⟨nt',nh,tm,hp,df⟩:=F
  simp only at hF
  subst hF
  rfl
 subst hnt
 refine Ub.Uc T amn hf hB hro hops h0 h0d h0g h1 h1d h1g ht5 (cI.mono (j7 T hΓ (fun _=>hro) (fun _=>aK) hw) ?_) hdf (by rw[hrs];exact na (amG r)) (fun b k hbk=>jJ hbk)
 intro e σ he
 cases e with
 |ret=>exact⟨Or.inl rfl,SS.iF he⟩
 |normal=>exact⟨Or.inr rfl,SS.iF he⟩
 |_=>trivial
theorem gn.ofN(hn:∀d,n d=walk P G [] H Γ rest gl true (((mw nt m (xV y0 A d) (dg (oS y0 B (AH A d)))).put (some t5) .gY).put (some t2) .gY) (Ua F)):
 (⟨jK,A,B,m,s,F,fun r=>pick ob (F.st y0 r).hp,n,fun _ _=>none⟩:gn).holds P gl:=by
 refine⟨?_,fun _ _ r h=>no (e:=r) h⟩
 intro d r hd
 have hd':n d=some r:=hd
 rw[hn d] at hd'
 exact gn.of1 T hΓ hro amn hf hB hrs hnt hops h0 h0d h0g h1 h1d h1g ht5 hF amG hd'
theorem gn.J9(hp:∀d q,p d q=walk P G [] H Γ rest gl true (((mw nt m (xV y0 A d) (dg (oS y0 B (AH A d)))).put (some t5) (s.V y0 q)).put (some t2) (s.V y0 q)) (Ua F)):
 (⟨jK,A,B,m,s,F,fun r=>pick ob (F.st y0 r).hp,fun _=>none,p⟩:gn).holds P gl:=by
 refine⟨fun _ r h=>no (e:=r) h,?_⟩
 intro d q r hd
 have hd':p d q=some r:=hd
 rw[hp d q] at hd'
 exact gn.of1 T hΓ hro amn hf hB hrs hnt hops h0 h0d h0g h1 h1d h1g ht5 hF amG hd'
end
def HZ:List Nat→List (Option aO)→List (Option aO)
 |[],hp=>hp
 |
  b::l,hp=>HZ l (match hp[b]? with
  |some (some (.var t _))=>hp.set b (some (.var t (.dK t)))
  |_=>hp)
theorem Wk.dK{gl:Ctx}:∀{l:List Nat}{σ:St},Wk gl σ {σ with hp:=HZ l σ.hp}
 |[],σ=>Wk.refl gl σ
 |
  b::l,σ=>by
  unfold HZ
  split
  ·rename_i t v hb
   have h1:Wk gl σ {σ with hp:=σ.hp.set b (some (.var t (.dK t)))}:=by
    intro E a w h
    obtain⟨h1,h2,g,c,e,h3,h4,h5⟩:=h.hw.cN b _ hb
    have hlen:=RC.len h5
    have hw:=h.hw.write (w':=w) (k':=.var t (.dK t)) hb rfl (fun _ _=>rfl) ⟨h1,Ty.cV t,g,c,e,h3,h4,⟨by rw[hlen];exact AV.dT h2,RC.one h5⟩⟩
    refine⟨E,⟨h.len,h.tm,hw,h.df⟩,{Ext.refl (bx σ.hp E) E w with own:=?_ }⟩
    grind [bx.set]
   exact h1.trans (Wk.dK (l:=l) (σ:={σ with hp:=σ.hp.set b (some (.var t (.dK t)))}))
  ·exact Wk.dK (l:=l) (σ:=σ)
def L6(C:gn)(ps:List (Nat×Nat))(F:SS)(h:C.D→Option C.F.T)(σ:St):Option F.T:=
 match σ.df with
 |
  [.func (.func fd) .nil cs]=>match ml (swp ps) (eC σ.hp) (cs.toList.map (fun x=>(x,Ty.unit))),jd (swp ps) (eC σ.hp) ps with
  |
   some (L,lent),some ins=>if Nat.beq fd C.jK&&cs.atoms then(match C.get L ins with
   |some d=>Option.bind (h d) fun r=>if Bd ⟨.bot,ps,[],C.out r,C.m,false,[],[]⟩ lent then F.uR {σ with hp:=aS σ.hp (mr ps (C.out r) ps),df:=[]} else none
   |none=>none) else none
  |_,_=>none
 |_=>none
def SQ(C:gn)(ps:List (Nat×Nat))(D:gn)(qs:List (Nat×Nat))(jk:List Nat)(F:SS):fL→St→Option F.T
 |
  .ret,σ| .normal,σ=>match σ.df with
  |[]=>F.uR σ
  |_=>L6 C ps F C.n σ
 |
  .panic v,σ=>match v.ids,D.s.G (l:=[]) v () with
  |[],some q=>L6 D qs F (fun d=>D.p d q) {σ with hp:=HZ jk σ.hp}
  |_,_=>none
 |_,_=>none
theorem H3{G:bM}(T:bA P G){gl:Ctx}{C:gn}{h:C.D→Option C.F.T}{r:F.T}(hr:L6 C ps F h σ=some r){x:AV}(hx:x.ids= [])
 (hC:∀d y,h d=some y→Ub P gl C.jK pm x (C.args d) (aS (List.replicate C.m none) (C.ins d)) (cY C.m (C.out y))) {fn:Func} {z:AV} (hF:F.df= []) (amG:jo G fn.results.toList (F.st y0 r)=some z)  (hout:∀b k,(b,k)∈out→(F.st y0 r).hp[b]? =some (some k)) {m:Nat}
 {E:Env} {a:Act} {w:World} (hg:bP gl σ E a w) {u:Value} (hu:bZ E w x u) (hpm:pm=false→u= .nilIface) {O:Nat→Prop} {E0:Env} {w0:World} (hX0:Ext gl.md O E0 w0 (bx σ.hp E) E w):
 LeavesIn (Wd gl) 0 P fn a.tmps (fun e w'=>∃E',AD E' w' (.ret z) e∧HW gl E' w' (cY m out)∧Ext gl.md O E0 w0 (bx (cY m out) E') E' w') a.defers (zg pm u) w:=by
 have hdfF:(F.st y0 r).df= []:=by
  simp only[SS.st,SS.mw]
  obtain⟨nt',nh,tm,hp,df⟩:=F
  simp only at hF
  subst hF
  rfl
 unfold L6 at hr
 split at hr
 ·rename_i fd cs hdf
  split at hr
  ·rename_i L lent ins hL jX
   obtain⟨hc,hr1⟩:=bJ hr
   clear hr
   simp only[bj] at hc
   obtain⟨hfd,hca⟩:=hc
   have hfd:=bL hfd
   subst hfd
   split at hr1
   ·rename_i d hd
    obtain⟨y,hy,hr2⟩:=bind_some hr1
    obtain⟨fW,hr3⟩:=bJ hr2
    obtain⟨e1,e2⟩:=gn.gF hd
    obtain⟨hcf,hM⟩:=hC d y hy
    rw[e1,e2] at hM
    have gdf:=hg.df
    rw[hdf] at gdf
    cases hads:a.defers with
    |nil=>rw[hads] at gdf;trivial
    |
     cons dd ds=>
     rw[hads] at gdf
     obtain⟨⟨f',c',ed,q1,q2,_,_⟩,hrest⟩:=gdf
     have hds:ds= []:=by
      cases ds with
      |nil=>rfl
      |cons _ _=>trivial
     subst hds
     have hf':f'= #[]:=by apply l9;trivial
     subst hf'
     subst ed
     have hB:=bQ σ.hp
     have hlent:=lR hL
     obtain⟨hφ,hw1⟩:=uZ (cr:=⟨.bot,ps,[],C.out y,C.m,false,[],[]⟩) hg hB hlent jX fW
     have hmap:(cs.toList.map (fun x=>(x,Ty.unit))).map (·.1)=cs.toList:=by
      simp[Function.comp_def]
     have hvv:=nA hg.hw hB hφ hL (fun g hg=>hg) (by rw[hmap];exact lq.atoms hca q2)
     have hu':bZ (E.to ps (E.cE lent).S) w x u:=bZ.mono (E:=E) ⟨fun _ _=>rfl,fun _ h=>Or.inl h⟩ (fun b hb=>by grind) hu
     have amn:=hM _ w _ u hvv hu' hpm hw1
     refine leavesIn_cons (F:=Wd gl) (by unfold zg;split<;>simp) (fun h=>by cases h) (args:=c'.toList.toArray) ?_ (fun _ _=>trivial) (CallsDIn.mono amn ?_)
     ·simp_all[invoke]
     ·rintro e u1 w2 ⟨rfl,⟨v,rfl⟩,E2,hW2,hX2⟩
      obtain⟨E3,g3,_,x3⟩:=kY (cr:=⟨.bot,ps,[],C.out y,C.m,false,[],[]⟩) hg hB hlent jX fW (fun b hb=>by grind) hW2 hX2 (v:=v) (r':=.bot) rfl trivial
      simp only[fT] at g3 x3
      have g4:bP gl {σ with hp:=aS σ.hp (mr ps (C.out y) ps),df:=[]} E3 {a with defers:=[]} w2:=⟨g3.len,g3.tm,g3.hw,trivial⟩
      obtain⟨E5,g5,x5⟩:=SS.iF (gl:=gl) hr3 E3 _ w2 g4
      obtain⟨v2,k1,k2⟩:=qW T g5 amG
      have aS:settle (nc pm u)= .returning:=by
       unfold nc
       cases pm<;>simp[settle]
      show LeavesIn _ _ _ _ _ _ _ _ _
      rw[aS]
      have hw5:HW gl E5 w2 (cY m out):=g5.hw.less (fun b k hb=>hout b k (fg hb))
      have X5:=(hX0.trans x3).trans x5
      exact⟨v2,k1,E5,k2,hw5,{X5 with own:=fun g ⟨b,k,hb,hgb⟩=>X5.own g ⟨b,k,hout b k (fg hb),hgb⟩}⟩
   grind
  grind
 grind
theorem aZ.ofD{G:bM}(T:bA P G){gl:Ctx}{H:Hs}(hΓ:∀C∈Γ,C.holds P gl){C:gn}(hC:C.holds P gl){D:gn}(hD:D.holds P gl){qs:List (Nat×Nat)}{jk:List Nat}(hro:gl.ro=none){rs:List ResultVar}{m:Nat}{ob:List Nat}{f:prod (tO A (iw B []))→Option F.T}
 {fn:Func} {c:Code} (amn:∀vs w,(callFunc jK vs).run P w= .ok (.enter jK vs) w) (hf:P.funcs[jK]? =some fn) (hb:fn.body=some c) (hrs:fn.results.toList=rs) (hnt:fn.ntmps=nt) (hF:F.df= [])
 (amG:∀r:F.T,L0 (jo G rs (F.st y0 r))=true)
 (h:∀d,f d=walk P G [] H Γ c gl true (mw nt m (xV y0 A d) (dg (oS y0 B (AH A d)))) (SQ C ps D qs jk F)):
 (aG G rs jK A B m F ob (.bq f)).holds P gl:=by
 refine⟨?_,fun _ _ h=>h.elim⟩
 intro d r hd
 have hd':f d=some r:=hd
 rw[h d] at hd'
 refine⟨amn,?_⟩
 have amh:=j7 T hΓ (fun _=>hro) (fun _=>aK) hd'
 subst hnt
 have hz:jo G fn.results.toList (F.st y0 r)=some ((jo G rs (F.st y0 r)).getD .bot):=by rw[hrs];exact na (amG r)
 have hout:∀b k,(b,k)∈pick ob (F.st y0 r).hp→(F.st y0 r).hp[b]? =some (some k):=fun b k hbk=>jJ hbk
 intro E w vs hv hw
 obtain⟨hl,amp⟩:=hv.get
 refine CallsIn.calls (F:=Wd gl) (n:=0) (callsIn_of_wp_defers hf hb trivial ?_ hro) (fun k d hd=>by cases hd)
 have hg:bP gl (mw fn.ntmps m (xV y0 A d) (dg (oS y0 B (AH A d)))) E {tmps:=vs.toArray++Array.replicate (fn.ntmps -vs.toArray.size) undef,defers:=[]} w:=by
  refine⟨?_,?_,hw,trivial⟩
  ·simp only[mw,Array.size_append,List.size_toArray,Array.size_replicate,kj,tB]
   rw[←hl];rfl
  ·intro i x hx v hv'
   simp only[mw] at hx
   rw[Array.getElem?_append] at hv'
   simp only[List.getElem?_append] at hx
   split at hx
   ·rename_i hi
    have hl':(xV y0 A d).length=vs.length:=hl
    rw[aA (by grind)] at hv'
    exact amp i x v hx (by grind)
   ·rw[List.getElem?_replicate] at hx
    split at hx
    ·cases hx;trivial
    grind
 refine wpIn_mono (amh E _ w hg) ?_
 rintro ex a' w' ⟨e,σ',E',h1,he,h3,h4⟩
 have plain:∀{σ:St},σ.df= []→F.uR σ'=some r→bP gl σ' E' a' w'→a'.defers= []→LeavesIn (Wd gl) 0 P fn a'.tmps (fun e w'=>∃E',AD E' w' (.ret ((jo G rs (F.st y0 r)).getD .bot)) e∧HW gl E' w' (cY m (pick ob (F.st y0 r).hp))∧Ext gl.md (bx (aS (List.replicate m none) (dg (oS y0 B (AH A d)))) E) E w (bx (cY m (pick ob (F.st y0 r).hp)) E') E' w') a'.defers .returning w':=by
  intro σ _ hm hg' hds
  obtain⟨E5,g5,x5⟩:=SS.iF (gl:=gl) hm E' a' w' hg'
  obtain⟨v2,k1,k2⟩:=qW T g5 hz
  rw[hds]
  have hw5:HW gl E5 w' (cY m (pick ob (F.st y0 r).hp)):=g5.hw.less (fun b k hb=>hout b k (fg hb))
  have X5:=h4.trans x5
  exact⟨v2,k1,E5,k2,hw5,{X5 with own:=fun g ⟨b,k,hb,hgb⟩=>X5.own g ⟨b,k,hout b k (fg hb),hgb⟩}⟩
 have leave:(match σ'.df with
  |[]=>F.uR σ'
  |_=>L6 C ps F C.n σ')=some r→LeavesIn (Wd gl) 0 P fn a'.tmps (fun e w'=>∃E',AD E' w' (.ret ((jo G rs (F.st y0 r)).getD .bot)) e∧HW gl E' w' (cY m (pick ob (F.st y0 r).hp))∧Ext gl.md (bx (aS (List.replicate m none) (dg (oS y0 B (AH A d)))) E) E w (bx (cY m (pick ob (F.st y0 r).hp)) E') E' w') a'.defers .returning w':=by
  intro he
  cases hd0:σ'.df with
  |
   nil=>
   rw[hd0] at he
   have hds:a'.defers= []:=by
    have:=h3.df
    rw[hd0] at this
    cases hds:a'.defers with
    |nil=>rfl
    |cons d l=>rw[hds] at this;trivial
   grind
  |
   cons x l=>
   rw[hd0] at he
   exact H3 T (pm:=false) (x:=.gY) he rfl (fun d y hy=>hC.n d y hy) hF hz hout h3 (u:=.nilIface) (Or.inr ⟨rfl,rfl⟩) (fun _=>rfl) h4
 cases e with
 |
  ret=>cases ex with
  |ret=>exact leave he
  |_=>trivial
 |
  normal=>cases ex with
  |normal=>exact leave he
  |_=>trivial
 |exit i=>trivial
 |
  panic v=>
  cases ex with
  |
   panic ch=>
   obtain⟨u,e,hu⟩:=h1
   subst e
   simp only[SQ] at he
   split at he
   ·rename_i q hids hq
    have hV:=(Sh.ya y0 hq).1
    obtain⟨E2,g2,x2⟩:=Wk.dK (gl:=gl) (l:=jk) (σ:=σ') E' a' w' h3
    have hu2:bZ E2 w' v u:=bZ.mono (E:=E') (w:=w') ⟨fun b hb=>rfl,x2.sle⟩ (fun b hb=>by grind) hu
    exact H3 T (pm:=true) (x:=v) he hids (fun d y hy=>by have:=hD.p d q y hy;grind) hF hz hout g2 hu2 (fun e=>by cases e) (h4.trans x2)
   grind
  |_=>trivial
def ac2:fL→St→Option St
 | .normal,σ=>some σ
 |_,_=>none
def ac3(F:SS):fL→St→Option F.T
 | .ret,σ=>Fq F .ret σ
 |_,_=>none
theorem aZ.kQ{G:bM}(T:bA P G){gl:Ctx}{H:Hs}(hΓ:∀C∈Γ,C.holds P gl)(hro:gl.ro=none){rs:List ResultVar}{m:Nat}{ob:List Nat}{f:prod (tO A (iw B []))→Option F.T}
 {fn:Func} {c0 X Y:Code}  {o2:Oper} (x:Operand) (d1 d2:Nat) (t t2 e:TypeId) (bs:Nat) (u:Ty) (xs:prod (tO A (iw B []))→List u.den) (σ1:prod (tO A (iw B []))→St)
 (amn:∀vs w,(callFunc jK vs).run P w= .ok (.enter jK vs) w) (hf:P.funcs[jK]? =some fn) (hb:fn.body=some (.seq c0 (.seq (.seq (.region rid #[o1,o2] false) (.cond (.tmp d2) X .skip)) Y))) (hrs:fn.results.toList=rs) (hnt:fn.ntmps=nt) (hF:F.df= [])
 (h1:o1.op= .move x) (hd1:o1.dst=some d1) (hg1:o1.guard=none) (h2:o2.op= .binOp .eql t (.tmp d1) (.const (.slice none 0 0)) t2) (hd2:o2.dst=some d2) (hg2:o2.guard=none) (ht:P.underlying t=some (.slice e))
 (amG:∀r:F.T,L0 (jo G rs (F.st y0 r))=true)
 (hA:∀d,walk P G [] H Γ c0 gl true (mw nt m (xV y0 A d) (dg (oS y0 B (AH A d)))) ac2=some (σ1 d))
 (hx:∀d,bD gl (σ1 d).tm x= .val (.slice bs u) (xs d)) (hl:∀d,Nat.blt d1 (σ1 d).tm.length=true) (hl2:∀d b,bD gl (((σ1 d).put (some d1) (.val (.slice bs u) (xs d))).put (some d2) (.val .bool b)).tm (.tmp d2)= .val .bool b)
 (hX:∀d,xs d= []→f d=walk P G [] H Γ X gl true (((σ1 d).put (some d1) (.val (.slice bs u) (xs d))).put (some d2) (.val .bool true)) (ac3 F))
 (hY:∀d,f d=walk P G [] H Γ Y gl true (((σ1 d).put (some d1) (.val (.slice bs u) (xs d))).put (some d2) (.val .bool false)) (Fq F)):
 (aG G rs jK A B m F ob (.bq f)).holds P gl:=by
 refine⟨?_,fun _ _ h=>h.elim⟩
 intro d r hd
 have hd':f d=some r:=hd
 refine⟨amn,?_⟩
 subst hnt
 refine AE.AP T hf hb hro (σe:=F.st y0 r) ?_ ?_ ?_ ?_
 ·refine cI.seq (cI.mono (j7 T hΓ (fun _=>hro) (fun _=>aK) (hA d)) ?_)
  intro e' σ he
  cases e' with
  |
   normal=>
   have:σ=σ1 d:=kH he
   subst this
   refine cI.seq ?_
   refine cI.O8 x d1 d2 t t2 e bs u (xs d) h1 hd1 hg1 h2 hd2 hg2 (hx d) ht (hl d) ?_
   intro b hbx
   cases b with
   |
    true=>
    refine cI.cond (hl2 d true) (fun _=>?_) (fun e=>by cases e)
    have hw:=hX d (hbx rfl)
    rw[hd'] at hw
    refine cI.mono (j7 T hΓ (fun _=>hro) (fun _=>aK) hw.symm) ?_
    intro e2 σ2 he2
    cases e2 with
    |ret=>exact uU he2
    |_=>trivial
   |
    false=>
    refine cI.cond (hl2 d false) (fun e=>by cases e) (fun _=>cI.skip ?_)
    have hw:=hY d
    rw[hd'] at hw
    refine cI.mono (j7 T hΓ (fun _=>hro) (fun _=>aK) hw.symm) ?_
    intro e2 σ2 he2
    cases e2 with
    |ret=>exact uU he2
    |normal=>exact uU he2
    |_=>trivial
  |_=>trivial
 ·show(F.st y0 r).df= []
  simp only[SS.st,SS.mw]
  obtain⟨nt',nh,tm,hp,df⟩:=F
  simp only at hF
  subst hF
  rfl
 ·rw[hrs];exact na (amG r)
 ·intro b k hbk;exact jJ hbk
theorem ig{x:Int}(h1:-9223372036854775808≤x)(h2:x≤9223372036854775807):bp x=x:=by
 grind [IntKind.wrap,IntKind.bits,IntKind.signed]
theorem bk{i:Nat}(h:i≤4611686018427387904):bp ((i:Int)+1)=((i+1:Nat):Int):=by
 rw[ig (by omega) (by omega)];rfl
theorem Ud{t:Ty}{xs:List t.den}{i:Nat}(h:i<xs.length):nth t xs (i:Int)=xs[i]:=by
 simp[nth,List.getD,h]
variable{kt:Ty}
theorem iH(hk:kt.keyed=true)(k:kt.den):bl kt k k=true:=(bN hk k k).2 rfl
theorem qO(hk:kt.keyed=true){p k:kt.den}(h:p≠k):bl kt p k=false:=by
 grind [bN]
theorem fK(hk:kt.keyed=true)(k:kt.den)(v:α):∀es:List (kt.den×α),bT kt k (aY kt k v es)=true
 |[]=>by simp[aY,bT,iH hk]
 |
  e::es=>by
  simp only[aY]
  split
  ·simp[bT,iH hk]
  ·simp[bT,fK hk k v es]
theorem lE(hk:kt.keyed=true){p k:kt.den}(h:p≠k)(v:α):∀es:List (kt.den×α),bT kt p (aY kt k v es)=bT kt p es
 |[]=>by simp[aY,bT,qO hk h]
 |
  e::es=>by
  simp only[aY]
  split
  ·rename_i he
   have:=(bN hk k e.1).1 he
   rw[this] at h
   simp[bT,this,qO hk h]
  ·simp[bT,lE hk h v es]
variable{vt:Ty}
theorem du(hk:kt.keyed=true)(k:kt.den)(v:vt.den):∀es:List (kt.den×vt.den),aP kt vt k (aY kt k v es)=v
 |[]=>by simp[aY,aP,iH hk]
 |
  e::es=>by
  simp only[aY]
  split
  ·simp[aP,iH hk]
  ·rename_i he
   simp[aP,he,du hk k v es]
theorem dF(hk:kt.keyed=true){p k:kt.den}(h:p≠k)(v:vt.den):∀es:List (kt.den×vt.den),aP kt vt p (aY kt k v es)=aP kt vt p es
 |[]=>by simp[aY,aP,qO hk h]
 |
  e::es=>by
  simp only[aY]
  split
  ·rename_i he
   have:=(bN hk k e.1).1 he
   rw[this] at h
   simp[aP,this,qO hk h]
  ·simp[aP,dF hk h v es]
theorem aN{R:Type}(F:(U→Option R)→U→Option R)(n:Nat)(u:U):aL F (n+1) u=F (aL F n) u:=rfl
theorem L7{R:Type}{F:(U→Option R)→U→Option R}(I:U→Prop)(μ:U→Nat)(Q:U→Option R→Prop)
 (h:∀rec u,I u→(∀u',I u'→μ u'<μ u→Q u' (rec u'))→Q u (F rec u)):∀n u,I u→μ u<n→Q u (aL F n u):=by
 intro n
 induction n with
 |zero=>grind
 |
  succ n ih=>
  grind [aN]
theorem aF{R:Type}(d:U)(f:U→Option R):aI (some (.brk d)) f=f d:=rfl
theorem dB{R:Type}(r:R)(f:U→Option R):aI (some (.ret r)) f=some r:=rfl
theorem gp{R:Type}(y:YC)(x:Option R):NH y y x=x:=by unfold NH;grind
theorem qP{R:Type}{F:YC→Option R}{r:R}(h:∀y,F y=some r):yb F=some r:=by
 unfold yb
 rw[dif_pos ⟨r,h⟩]
 have hc:=Classical.choose_spec (⟨r,h⟩:∃r,∀y,F y=some r)
 have:=hc y0
 grind
theorem qQ{A R:Type}{xs:List A}{K:A→List A→Option R}{r:R}(hne:xs≠[])(h:∀i(hi:i<xs.length),K xs[i] (xs.eraseIdx i)=some r):uq xs K=some r:=by
 unfold uq
 rw[dif_pos ⟨r,h⟩]
 have hc:=Classical.choose_spec (⟨r,h⟩:∃r,∀i(h:i<xs.length),K xs[i] (xs.eraseIdx i)=some r)
 have h0:0<xs.length:=List.length_pos_iff.2 hne
 grind
theorem gd{c:Prop}[Decidable c]{x y:α}(h:c):(if c then x else y)=x:=aA h
theorem cP{t:Ty}{xs:List t.den}{i:Nat}(h:i<xs.length):nth t xs (i:Int)=xs[i]:=Ud h
theorem scan{R:Type}{F:(U→Option (cJ β R))→U→Option (cJ β R)}(len:Nat)(at_:Nat→U)(b:β)(C:Nat→Prop)(P:R→Prop)
 (step:∀rec i,i<len→(C i∧F rec (at_ i)=rec (at_ (i+1)))∨∃r,P r∧F rec (at_ i)=some (.ret r))
 (stop:∀rec,F rec (at_ len)=some (.brk b)):
 ∀n i,i≤len→len -i<n→((∀j,i≤j→j<len→C j)∧aL F n (at_ i)=some (.brk b))∨∃r,P r∧aL F n (at_ i)=some (.ret r):=by
 intro n
 induction n with
 |zero=>grind
 |
  succ n ih=>
  grind [aN]
theorem wZ{n:Nat}(h:n≤aH):n<iZ:=by
 have h1:aH=140737488355328:=rfl
 have h2:iZ=18446744073709551616:=rfl
 omega
theorem DC{R:Type}{F:(U→Option (cJ β R))→U→Option (cJ β R)}{L:Nat→U→Option (cJ β R)}(hL:L=aL F)(len:Nat)(at_:Nat→U)(b:β)(C:Nat→Prop)(P:R→Prop)
 (step:∀rec i,i<len→(C i∧F rec (at_ i)=rec (at_ (i+1)))∨∃r,P r∧F rec (at_ i)=some (.ret r))
 (stop:∀rec,F rec (at_ len)=some (.brk b)) (n:Nat) (hn:len<n):((∀j,j<len→C j)∧L n (at_ 0)=some (.brk b))∨∃r,P r∧L n (at_ 0)=some (.ret r):=by
 subst hL
 rcases scan len at_ b C P step stop n 0 (by omega) (by omega) with⟨h1,h2⟩|h<;>grind
end Go.Ax
