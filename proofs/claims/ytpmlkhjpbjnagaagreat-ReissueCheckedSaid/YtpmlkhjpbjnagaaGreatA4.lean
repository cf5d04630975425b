/- The machines: what it means to be walked or run, part 4. No condition. -/
import Derived.Test.YtpmlkhjpbjnagaaGreatA3
import Derived.Laws.Cover3
import Derived.RangeFuncRecord
import Derived.RecoverIn
namespace Go.Ax
@[reducible] def prod:List Type→Type
 |[]=>Unit
 |t::l=>t×prod l
@[reducible] def fP:List Type→Type
 |[]=>Unit
 |[t]=>t
 |t::u::l=>t×fP (u::l)
def Sx:(l:List Type)→prod l→fP l
 |[],_=>()
 |[_],d=>d.1
 |_::u::l,d=>(d.1,Sx (u::l) d.2)
def rD:(l:List Type)→fP l→prod l
 |[],_=>()
 |[_],d=>(d,())
 |_::u::l,d=>(d.1,rD (u::l) d.2)
variable{α:Type}
theorem no{e:α}{p:Prop}(h:(none:Option α)=some e):p:=by cases h
theorem qx:∀(l:List Type)(d:prod l),rD l (Sx l d)=d
 |[],_=>rfl
 |[_],_=>rfl
 |_::u::l,d=>by show(d.1,rD (u::l) (Sx (u::l) d.2))=d;rw[qx (u::l) d.2]
inductive Wq where
 |cw (n:Nat)
 |idx
inductive Sh where
 |val (t:Ty)
 |bn
 |own (b:Nat)
 |kf (b:Nat)
 |ptr (b:Nat) (p:List Wq)
 |cc (t:Ty)
 |ir (s:Sh)
 |mp (b:Nat)
 |eM
 |dV
 |fp
 |gU
 |func (f:FuncId) (fs cs:Sh)
 |C9
 |iface (t:TypeId) (v:Sh)
 |cons (a b:Sh)
 |nil
 |fx0
 |dH (t:Ty)
 |fq (f:FuncId) (t:Ty)
inductive db where
 |var (t:Ty) (s:Sh)
 |row (e:TypeId) (bs:Nat) (t:Ty)
 |map (k v:Ty)
 |lp
 |uy
 |tv (t:Ty) (s:Sh)
 |cH (e:TypeId) (bs:Nat) (t:Ty) (s:Sh)
 |cQ (e:TypeId) (bs:Nat) (t:Ty) (e2:TypeId)
 |pmap (k t:Ty) (e2:TypeId)
 |kq (k v:Ty)
 |ij (k:Ty) (l:List (k.den×FuncId))
 |fZ (e:TypeId) (bs:Nat) (t:Ty)
def pH:List Wq→List Type→List Type
 |[],l=>l
 | .cw _::p,l=>pH p l
 | .idx::p,l=>Nat::pH p l
def pV:(p:List Wq)→{l:List Type}→prod (pH p l)→Path
 |[],_,_=>[]
 | .cw n::p,_,d=>.cw n::pV p d
 | .idx::p,_,d=>.idx d.1::pV p d.2
def pR:(p:List Wq)→{l:List Type}→prod (pH p l)→prod l
 |[],_,d=>d
 | .cw _::p,_,d=>pR p d
 | .idx::p,_,d=>pR p d.2
def pG:(p:List Wq)→{l:List Type}→Path→prod l→Option (prod (pH p l))
 |[],_,[],d=>some d
 | .cw n::p,_,.cw m::q,d=>if Nat.beq n m then pG p q d else none
 |
  .idx::p,_,.idx i::q,d=>match pG p q d with
  |some e=>some (i,e)
  |none=>none
 |_,_,_,_=>none
theorem Li:∀{p:List Wq}{l:List Type}{q:Path}{d:prod l}{e:prod (pH p l)},pG p q d=some e→pV p e=q∧pR p e=d
 |
  [],l,q,d,e,h=>by
  cases q with
  |nil=>cases(kD h:d=e);trivial
  |cons s q=>trivial
 |
  .cw n::p,l,q,d,e,h=>by
  cases q with
  |nil=>trivial
  |
   cons s q=>
   cases s with
   |
    cw m=>
    obtain⟨hb,h0⟩:=bJ h
    have hb:=bL hb
    subst hb
    obtain⟨h1,h2⟩:=Li (p:=p) h0
    exact⟨by simp only[pV];rw[h1],h2⟩
   |idx i=>trivial
 |
  .idx::p,l,q,d,e,h=>by
  cases q with
  |nil=>simp[pG] at h
  |
   cons s q=>
   cases s with
   |cw m=>simp[pG] at h
   |
    idx i=>
    simp only[pG] at h
    split at h
    ·rename_i e' he
     cases h
     obtain⟨h1,h2⟩:=Li (p:=p) he
     exact⟨by simp only[pV];rw[h1],h2⟩
    ·cases h
def Sh.H:Sh→List Type→List Type
 | .val t,l=>t.den::l
 | .fq _ t,l=>t.den::l
 | .kf _,l=>Nat::Nat::l
 | .ptr _ p,l=>pH p l
 | .cc t,l=>t.den::l
 | .C9,l=>Nat::l
 | .func _ fs cs,l=>fs.H (cs.H l)
 | .iface _ v,l=>v.H l
 | .ir v,l=>v.H l
 | .cons a b,l=>a.H (b.H l)
 |_,l=>l
def Sh.R:(s:Sh)→{l:List Type}→prod (s.H l)→prod l
 | .val _,_,d=>d.2
 | .fq _ _,_,d=>d.2
 | .kf _,_,d=>d.2.2
 | .ptr _ p,_,d=>pR p d
 | .cc _,_,d=>d.2
 | .C9,_,d=>d.2
 | .func _ fs cs,_,d=>cs.R (fs.R d)
 | .iface _ v,_,d=>v.R d
 | .ir v,_,d=>v.R d
 | .cons a b,_,d=>b.R (a.R d)
 | .bn,_,d| .own _,_,d| .mp _,_,d| .eM,_,d| .dV,_,d| .fp,_,d| .gU,_,d| .nil,_,d| .dH _,_,d| .fx0,_,d=>d
def Sh.V(y:YC):(s:Sh)→{l:List Type}→prod (s.H l)→AV
 | .val t,_,d=>.val t d.1
 | .fq f t,_,d=>.fq f t d.1
 | .kf b,_,d=>.kf b d.1 d.2.1
 | .ptr b p,_,d=>.ptr b (pV p d)
 | .cc t,_,d=>.cc t d.1
 | .func f fs cs,_,d=>.func (.func f) (fs.V y d) (cs.V y (fs.R d))
 | .iface t v,_,d=>.iface t (v.V y d)
 | .ir v,_,d=>.ir (v.V y d)
 | .cons a b,_,d=>.cons (a.V y d) (b.V y (a.R d))
 | .bn,_,_=>.bn
 | .own b,_,_=>.own b
 | .mp b,_,_=>.mp b
 | .eM,_,_=>.eM
 | .dV,_,_=>.dV
 | .fp,_,_=>.fp
 | .gU,_,_=>.gU
 | .C9,_,d=>.func (.yield d.1) .nil .nil
 | .nil,_,_=>.nil
 | .fx0,_,_=>.fx
 | .dH t,_,_=>.dH t
def lW{t u:Ty}(h:Ty.same u t=true)(x:u.den):t.den:=Ty.aB h▸x
theorem yJ{t u:Ty}(h:Ty.same u t=true)(x:u.den):AV.val t (lW h x)= .val u x:=by
 have e:=Ty.aB h
 subst e;rfl
theorem EO{f:FuncId}{t u:Ty}(h:Ty.same u t=true)(x:u.den):AV.fq f t (lW h x)= .fq f u x:=by
 have e:=Ty.aB h
 subst e;rfl
theorem EP{t u:Ty}(h:Ty.same u t=true)(x:u.den):AV.cc t (lW h x)= .cc u x:=by
 have e:=Ty.aB h
 subst e;rfl
def Sh.G:(s:Sh)→{l:List Type}→AV→prod l→Option (prod (s.H l))
 |
  .val t,_,x,d=>match x with
  | .val u x=>if h:Ty.same u t=true then some (lW h x,d) else none
  |_=>none
 |
  .fq f t,_,x,d=>match x with
  | .fq g u x=>if Nat.beq f g then(if h:Ty.same u t=true then some (lW h x,d) else none) else none
  |_=>none
 |
  .cc t,_,x,d=>match x with
  | .cc u x=>if h:Ty.same u t=true then some (lW h x,d) else none
  |_=>none
 |
  .kf b,_,x,d=>match x with
  | .kf c i j=>if Nat.beq b c then some (i,j,d) else none
  |_=>none
 |
  .ptr b p,_,x,d=>match x with
  | .ptr c q=>if Nat.beq b c then pG p q d else none
  |_=>none
 |
  .func f fs cs,_,x,d=>match x with
  |
   .func (.func g) xs ys=>if Nat.beq f g then(match cs.G ys d with
   |some e=>fs.G xs e
   |none=>none) else none
  |_=>none
 |
  .C9,_,x,d=>match x with
  | .func (.yield g) .nil .nil=>some (g,d)
  |_=>none
 |
  .iface t v,_,x,d=>match x with
  | .iface u x=>if Nat.beq t u then v.G x d else none
  |_=>none
 |
  .ir v,_,x,d=>match x with
  | .ir x=>v.G x d
  |_=>none
 |
  .cons a b,_,x,d=>match x with
  |
   .cons x y=>(match b.G y d with
   |some e=>a.G x e
   |none=>none)
  |_=>none
 |
  .bn,_,x,d=>match x with
  | .bn=>some d
  |_=>none
 |
  .eM,_,x,d=>match x with
  | .eM=>some d
  |_=>none
 |
  .dV,_,x,d=>match x with
  | .dV=>some d
  |_=>none
 |
  .fp,_,x,d=>match x with
  | .fp=>some d
  |_=>none
 |
  .gU,_,x,d=>match x with
  | .gU=>some d
  |_=>none
 |
  .nil,_,x,d=>match x with
  | .nil=>some d
  |_=>none
 |
  .fx0,_,x,d=>match x with
  | .fx=>some d
  |_=>none
 |
  .own b,_,x,d=>match x with
  | .own c=>if Nat.beq b c then some d else none
  |_=>none
 |
  .mp b,_,x,d=>match x with
  | .mp c=>if Nat.beq b c then some d else none
  |_=>none
 |
  .dH t,_,x,d=>match x with
  | .dH u=>if Ty.same t u then some d else none
  |_=>none
set_option maxHeartbeats 2000000 in
theorem Sh.xO(y:YC):∀{s:Sh}{l:List Type}{x:AV}{d:prod l}{e:prod (s.H l)},s.G x d=some e→s.V y e=x∧s.R e=d:=by
 intro s
 induction s with
 |
  val t=>
  intro l x d e h
  cases x<;>first|exact no h|skip
  rename_i u z
  replace h:(if hh:Ty.same u t=true then some (lW hh z,d) else none)=some e:=h
  split at h
  ·rename_i hs;cases h;exact⟨yJ hs _,rfl⟩
  ·cases h
 |
  cc t=>
  intro l x d e h
  cases x<;>first|exact no h|skip
  rename_i u z
  replace h:(if hh:Ty.same u t=true then some (lW hh z,d) else none)=some e:=h
  split at h
  ·rename_i hs;cases h;exact⟨EP hs _,rfl⟩
  ·cases h
 |
  fq f t=>
  intro l x d e h
  cases x<;>first|exact no h|skip
  rename_i g u z
  replace h:(if Nat.beq f g then(if hh:Ty.same u t=true then some (lW hh z,d) else none) else none)=some e:=h
  split at h
  ·rename_i hf
   have:=bL hf;subst this
   split at h
   ·rename_i hs;cases h;exact⟨EO hs _,rfl⟩
   ·cases h
  ·cases h
 |
  kf b=>
  intro l x d e h
  cases x<;>first|exact no h|skip
  rename_i c i j
  replace h:(if Nat.beq b c then some (i,j,d) else none)=some e:=h
  split at h
  ·rename_i hs;cases h;have:=bL hs;subst this;trivial
  ·cases h
 |
  ptr b p=>
  intro l x d e h
  cases x<;>first|exact no h|skip
  rename_i c q
  replace h:(if Nat.beq b c then pG p q d else none)=some e:=h
  obtain⟨hs,h0⟩:=bJ h
  have:=bL hs;subst this
  obtain⟨h1,h2⟩:=Li h0
  exact⟨by simp only[Sh.V];rw[h1],h2⟩
 |
  func f fs cs ih1 ih2=>
  intro l x d e h
  cases x with
  |
   func g xs ys=>
   cases g with
   |
    func g=>
    replace h:(if Nat.beq f g then(match cs.G ys d with
     |some e=>fs.G xs e
     |none=>none) else none)=some e:=h
    split at h
    ·rename_i hs
     have:=bL hs;subst this
     split at h
     ·rename_i e' he
      obtain⟨a1,a2⟩:=ih2 he
      obtain⟨b1,b2⟩:=ih1 h
      grind [Sh.V,Sh.R]
     ·cases h
    ·cases h
   |_=>exact no h
  |_=>exact no h
 |
  ir v ih=>
  intro l x d e h
  cases x<;>first|exact no h|skip
  rename_i z
  replace h:v.G z d=some e:=h
  obtain⟨b1,b2⟩:=ih h
  exact⟨by simp only[Sh.V];rw[b1],b2⟩
 |
  iface t v ih=>
  intro l x d e h
  cases x<;>first|exact no h|skip
  rename_i u z
  replace h:(if Nat.beq t u then v.G z d else none)=some e:=h
  obtain⟨hs,h0⟩:=bJ h
  have:=bL hs;subst this
  obtain⟨b1,b2⟩:=ih h0
  exact⟨by simp only[Sh.V];rw[b1],b2⟩
 |
  cons a b ih1 ih2=>
  intro l x d e h
  cases x<;>first|exact no h|skip
  rename_i x y'
  replace h:(match b.G y' d with
   |some e=>a.G x e
   |none=>none)=some e:=h
  split at h
  ·rename_i e' he
   obtain⟨a1,a2⟩:=ih2 he
   obtain⟨b1,b2⟩:=ih1 h
   grind [Sh.V,Sh.R]
  ·cases h
 |
  own b=>
  intro l x d e h
  cases x<;>first|exact no h|skip
  rename_i c
  replace h:(if Nat.beq b c then some d else none)=some e:=h
  split at h
  ·rename_i hs;cases h;have:=bL hs;subst this;trivial
  ·cases h
 |
  mp b=>
  intro l x d e h
  cases x<;>first|exact no h|skip
  rename_i c
  replace h:(if Nat.beq b c then some d else none)=some e:=h
  split at h
  ·rename_i hs;cases h;have:=bL hs;subst this;trivial
  ·cases h
 |
  dH t=>
  intro l x d e h
  cases x<;>first|exact no h|skip
  rename_i u
  replace h:(if Ty.same t u then some d else none)=some e:=h
  split at h
  ·rename_i hs;cases h;have:=Ty.aB hs;subst this;trivial
  ·cases h
 |
  C9=>
  intro l x d e h
  cases x with
  |
   func g xs ys=>
   cases g with
   |
    yield g=>
    cases xs<;>first|exact no h|skip
    cases ys<;>first|exact no h|skip
    replace h:some (g,d)=some e:=h
    cases h;trivial
   |_=>exact no h
  |_=>exact no h
 |
  _=>
  intro l x d e h
  cases x<;>first|exact no h|skip
  replace h:some d=some e:=h
  cases h
  exact⟨rfl,rfl⟩
def db.H:db→List Type→List Type
 | .var _ s,l=>s.H l
 | .row _ _ t,l=>List t.den::l
 | .map k v,l=>List (k.den×v.den)::l
 | .lp,l=>YC::Nat::l
 | .uy,l=>l
 | .tv _ s,l=>Nat::s.H l
 | .cH _ _ t s,l=>List t.den::Nat::s.H l
 | .cQ _ _ t _,l=>List t.den::l
 | .pmap k t _,l=>List (k.den×t.den)::l
 | .kq k v,l=>List (k.den×v.den)::l
 | .ij _ _,l=>l
 | .fZ _ _ t,l=>List t.den::l
def db.R:(s:db)→{l:List Type}→prod (s.H l)→prod l
 | .var _ s,_,d=>s.R d
 | .row _ _ _,_,d=>d.2
 | .map _ _,_,d=>d.2
 | .lp,_,d=>d.2.2
 | .uy,_,d=>d
 | .tv _ s,_,d=>s.R d.2
 | .cH _ _ _ s,_,d=>s.R d.2.2
 | .cQ _ _ _ _,_,d=>d.2
 | .pmap _ _ _,_,d=>d.2
 | .kq _ _,_,d=>d.2
 | .ij _ _,_,d=>d
 | .fZ _ _ _,_,d=>d.2
def Xn{k:Ty}:List (k.den×FuncId)→List (k.den×AV)
 |[]=>[]
 |x::l=>(x.1,.func (.func x.2) .nil .nil)::Xn l
def OY{k:Ty}:List (k.den×AV)→List (k.den×FuncId)→Bool
 |[],[]=>true
 |
  x::l,z::m=>(match x.2 with
  | .func (.func f) .nil .nil=>Nat.beq f z.2
  |_=>false)&&bl k x.1 z.1&&OY l m
 |_,_=>false
theorem Ht{k:Ty}(hk:k.keyed=true):∀{l:List (k.den×AV)}{m:List (k.den×FuncId)},OY l m=true→Xn m=l
 |[],[],_=>rfl
 |[],_::_,h=>by cases h
 |_::_,[],h=>by cases h
 |
  x::l,z::m,h=>by
  simp only[OY,bj] at h
  obtain⟨⟨h1,h2⟩,h3⟩:=h
  have e:=(bN hk _ _).1 h2
  obtain⟨x1,x2⟩:=x
  simp only at e h1
  split at h1
  ·have:=bL h1
   subst this;subst e
   simp only[Xn]
   rw[Ht hk h3]
  ·cases h1
def db.V(y:YC):(s:db)→{l:List Type}→prod (s.H l)→aO
 | .var t s,_,d=>.var t (s.V y d)
 | .row e bs t,_,d=>.row e bs t d.1
 | .map k v,_,d=>.map k v d.1
 | .lp,_,d=>.lp d.1 d.2.1
 | .uy,_,_=>.uy
 | .tv t s,_,d=>.tv d.1 t (s.V y d.2)
 | .cH e bs t s,_,d=>.cH e bs t d.1 d.2.1 (s.V y d.2.2)
 | .cQ e bs t e2,_,d=>.cQ e bs t d.1 e2 none
 | .pmap k t e2,_,d=>.pmap k t d.1 e2 none
 | .kq k v,_,d=>.kq k v d.1 none
 | .ij k l,_,_=>.ij k (Xn l)
 | .fZ e bs t,_,d=>.fZ e bs t d.1
def Hu{t u:Ty}(h:Ty.same u t=true)(x:List u.den):List t.den:=Ty.aB h▸x
def Lj{t u t' u':Ty}(h:Ty.same u t=true)(h':Ty.same u' t'=true)(x:List (u.den×u'.den)):List (t.den×t'.den):=Ty.aB h▸Ty.aB h'▸x
def Xo{t u:Ty}(h:Ty.same u t=true)(x:List (u.den×AV)):List (t.den×AV):=Ty.aB h▸x
def db.G:(s:db)→{l:List Type}→aO→prod l→Option (prod (s.H l))
 | .var t s,_,.var u x,d=>if Ty.same u t then s.G x d else none
 | .row e bs t,_,.row e' bs' u xs,d=>if Nat.beq e e'&&Nat.beq bs bs' then(if h:Ty.same u t=true then some (Hu h xs,d) else none) else none
 | .map k v,_,.map k' v' es,d=>if h:Ty.same k' k=true then(if h':Ty.same v' v=true then some (Lj h h' es,d) else none) else none
 | .uy,_,.uy,d=>some d
 | .lp,_,.lp y j,d=>some (y,j,d)
 |
  .tv t s,_,.tv g u x,d=>if Ty.same u t then(match s.G x d with
  |some r=>some (g,r)
  |none=>none) else none
 |
  .cH e bs t s,_,.cH e' bs' u xs i x,d=>if Nat.beq e e'&&Nat.beq bs bs' then(if h:Ty.same u t=true then(match s.G x d with
  |some r=>some (Hu h xs,i,r)
  |none=>none) else none) else none
 | .cQ e bs t e2,_,.cQ e' bs' u xs e2' none,d=>if Nat.beq e e'&&Nat.beq bs bs'&&Nat.beq e2 e2' then(if h:Ty.same u t=true then some (Hu h xs,d) else none) else none
 | .pmap k t e2,_,.pmap k' t' es e2' none,d=>if Nat.beq e2 e2' then(if h:Ty.same k' k=true then(if h':Ty.same t' t=true then some (Lj h h' es,d) else none) else none) else none
 | .kq k v,_,.kq k' v' es none,d=>if h:Ty.same k' k=true then(if h':Ty.same v' v=true then some (Lj h h' es,d) else none) else none
 | .ij k l,_,.ij k' l',d=>if h:Ty.same k' k=true then(if k.keyed&&OY (Xo h l') l then some d else none) else none
 | .fZ e bs t,_,.fZ e' bs' u xs,d=>if Nat.beq e e'&&Nat.beq bs bs' then(if h:Ty.same u t=true then some (Hu h xs,d) else none) else none
 |_,_,_,_=>none
theorem db.xO(y:YC){s:db}{l:List Type}{x:aO}{d:prod l}{e:prod (s.H l)}(h:s.G x d=some e):s.V y e=x∧s.R e=d:=by
 cases s with
 |
  var t s=>
  cases x<;>simp only[db.G] at h<;>try cases h
  obtain⟨hs,h0⟩:=bJ h
  have:=Ty.aB hs;subst this
  obtain⟨h1,h2⟩:=Sh.xO y h0
  exact⟨by simp only[db.V];rw[h1],h2⟩
 |
  row e bs t=>
  cases x<;>simp only[db.G] at h<;>try cases h
  split at h
  ·rename_i hs
   simp only[bj] at hs
   have e1:=bL hs.1;subst e1
   have e2:=bL hs.2;subst e2
   split at h
   ·rename_i ht
    cases h
    have e3:=Ty.aB ht;subst e3
    trivial
   grind
  grind
 |
  fZ e bs t=>
  cases x<;>simp only[db.G] at h<;>try cases h
  split at h
  ·rename_i hs
   simp only[bj] at hs
   have e1:=bL hs.1;subst e1
   have e2:=bL hs.2;subst e2
   split at h
   ·rename_i ht
    cases h
    have e3:=Ty.aB ht;subst e3
    trivial
   grind
  grind
 |
  map k v=>
  cases x<;>simp only[db.G] at h<;>try cases h
  split at h
  ·rename_i hs
   split at h
   ·rename_i ht
    cases h
    have e1:=Ty.aB hs;subst e1
    have e3:=Ty.aB ht;subst e3
    trivial
   grind
  grind
 |uy=>cases x<;>simp only[db.G] at h<;>cases h;trivial
 |lp=>cases x<;>simp only[db.G] at h<;>cases h;trivial
 |
  tv t s=>
  cases x<;>simp only[db.G] at h<;>try cases h
  obtain⟨hs,h0⟩:=bJ h
  have:=Ty.aB hs;subst this
  split at h0
  ·rename_i r hr
   cases h0
   obtain⟨h1,h2⟩:=Sh.xO y hr
   exact⟨by simp only[db.V];rw[h1],h2⟩
  grind
 |
  cH e0 bs t s=>
  cases x with
  |
   cH e' bs' u xs i v=>
   simp only[db.G] at h
   obtain⟨hs,h0⟩:=bJ h
   clear h
   simp only[bj] at hs
   have e1:=bL hs.1;subst e1
   have e2:=bL hs.2;subst e2
   by_cases ht:Ty.same u t=true
   ·rw[dif_pos ht] at h0
    cases hr:s.G v d with
    |none=>grind
    |
     some r=>
     rw[hr] at h0
     cases h0
     have e3:=Ty.aB ht;subst e3
     obtain⟨g1,g2⟩:=Sh.xO y hr
     exact⟨by simp only[db.V];rw[g1];rfl,g2⟩
   grind
  |_=>trivial
 |
  cQ e bs t e2=>
  cases x with
  |
   cQ e' bs' u xs e2' f=>
   cases f with
   |some f=>trivial
   |
    none=>
    simp only[db.G] at h
    obtain⟨hs,h0⟩:=bJ h
    clear h
    simp only[bj] at hs
    have e1:=bL hs.1.1;subst e1
    have e2:=bL hs.1.2;subst e2
    have e3:=bL hs.2;subst e3
    by_cases ht:Ty.same u t=true
    ·rw[dif_pos ht] at h0
     cases h0
     have e3:=Ty.aB ht;subst e3
     trivial
    grind
  |_=>trivial
 |
  pmap k t e2=>
  cases x with
  |
   pmap k' t' es e2' f=>
   cases f with
   |some f=>trivial
   |
    none=>
    simp only[db.G] at h
    obtain⟨hs,h0⟩:=bJ h
    clear h
    have e3:=bL hs;subst e3
    by_cases ht:Ty.same k' k=true
    ·rw[dif_pos ht] at h0
     by_cases ht':Ty.same t' t=true
     ·rw[dif_pos ht'] at h0
      cases h0
      have e3:=Ty.aB ht;subst e3
      have e4:=Ty.aB ht';subst e4
      trivial
     grind
    grind
  |_=>trivial
 |
  kq k v=>
  cases x with
  |
   kq k' v' es c=>
   cases c with
   |some c=>trivial
   |
    none=>
    simp only[db.G] at h
    by_cases ht:Ty.same k' k=true
    ·rw[dif_pos ht] at h
     by_cases ht':Ty.same v' v=true
     ·rw[dif_pos ht'] at h
      cases h
      have e3:=Ty.aB ht;subst e3
      have e4:=Ty.aB ht';subst e4
      trivial
     grind
    grind
  |_=>trivial
 |
  ij k l=>
  cases x with
  |
   ij k' l'=>
   simp only[db.G] at h
   by_cases ht:Ty.same k' k=true
   ·rw[dif_pos ht] at h
    split at h
    ·rename_i hc
     cases h
     simp only[bj] at hc
     have e3:=Ty.aB ht;subst e3
     refine⟨?_,rfl⟩
     show aO.ij _ (Xn l)=_
     rw[Ht hc.1 hc.2]
     rfl
    grind
   grind
  |_=>trivial
def Wr:List (Nat×Sh)→List Type→List Type
 |[],l=>l
 |(_,s)::m,l=>s.H (Wr m l)
def tmV(y:YC):(m:List (Nat×Sh))→{l:List Type}→prod (Wr m l)→List (Nat×AV)
 |[],_,_=>[]
 |(i,s)::m,_,d=>(i,s.V y d)::tmV y m (s.R d)
def Xp:(m:List (Nat×Sh))→{l:List Type}→prod (Wr m l)→prod l
 |[],_,d=>d
 |(_,s)::m,_,d=>Xp m (s.R d)
def tmG:(m:List (Nat×Sh))→{l:List Type}→List AV→prod l→Option (prod (Wr m l))
 |[],_,_,d=>some d
 |
  (i,s)::m,_,tm,d=>match tm[i]? with
  |
   some x=>match tmG m tm d with
   |some e=>s.G x e
   |none=>none
  |none=>none
theorem Lk(y:YC):∀{m:List (Nat×Sh)}{l:List Type}{tm:List AV}{d:prod l}{e:prod (Wr m l)},tmG m tm d=some e→(∀i x,(i,x)∈tmV y m e→tm[i]? =some x)∧Xp m e=d
 |[],l,tm,d,e,h=>by cases h;exact⟨(fun i x hx=>by cases hx),rfl⟩
 |
  (i,s)::m,l,tm,d,e,h=>by
  simp only[tmG] at h
  split at h
  ·rename_i x hx
   split at h
   ·rename_i e' he
    obtain⟨h1,h2⟩:=Lk y he
    obtain⟨g1,g2⟩:=Sh.xO y h
    refine⟨?_,by simp only[Xp];grind⟩
    intro j z hz
    simp only[tmV,fa,il] at hz
    grind
   grind
  grind
def iu:List (Nat×db)→List Type→List Type
 |[],l=>l
 |(_,s)::m,l=>s.H (iu m l)
def oE(y:YC):(m:List (Nat×db))→{l:List Type}→prod (iu m l)→List (Nat×aO)
 |[],_,_=>[]
 |(i,s)::m,_,d=>(i,s.V y d)::oE y m (s.R d)
def Ws:(m:List (Nat×db))→{l:List Type}→prod (iu m l)→prod l
 |[],_,d=>d
 |(_,s)::m,_,d=>Ws m (s.R d)
def Xq:(m:List (Nat×db))→{l:List Type}→List (Option aO)→prod l→Option (prod (iu m l))
 |[],_,_,d=>some d
 |
  (i,s)::m,_,hp,d=>match hp[i]? with
  |
   some (some x)=>match Xq m hp d with
   |some e=>s.G x e
   |none=>none
  |_=>none
theorem ER(y:YC):∀{m:List (Nat×db)}{l:List Type}{hp:List (Option aO)}{d:prod l}{e:prod (iu m l)},Xq m hp d=some e→(∀i x,(i,x)∈oE y m e→hp[i]? =some (some x))∧Ws m e=d
 |[],l,hp,d,e,h=>by cases h;exact⟨(fun i x hx=>by cases hx),rfl⟩
 |
  (i,s)::m,l,hp,d,e,h=>by
  simp only[Xq] at h
  split at h
  ·rename_i x hx
   split at h
   ·rename_i e' he
    obtain⟨h1,h2⟩:=ER y he
    obtain⟨g1,g2⟩:=db.xO y h
    refine⟨?_,by simp only[Ws];grind⟩
    intro j z hz
    simp only[oE,fa,il] at hz
    grind
   grind
  grind
def tx:List Sh→List Type→List Type
 |[],l=>l
 |s::m,l=>s.H (tx m l)
def xG(y:YC):(m:List Sh)→{l:List Type}→prod (tx m l)→List AV
 |[],_,_=>[]
 |s::m,_,d=>s.V y d::xG y m (s.R d)
def As:(m:List Sh)→{l:List Type}→prod (tx m l)→prod l
 |[],_,d=>d
 |s::m,_,d=>As m (s.R d)
def TS:(m:List Sh)→{l:List Type}→List AV→prod l→Option (prod (tx m l))
 |[],_,[],d=>some d
 |
  s::m,_,x::xs,d=>match TS m xs d with
  |some e=>s.G x e
  |none=>none
 |_,_,_,_=>none
theorem Au(y:YC):∀{m:List Sh}{l:List Type}{xs:List AV}{d:prod l}{e:prod (tx m l)},TS m xs d=some e→xG y m e=xs∧As m e=d
 |
  [],l,xs,d,e,h=>by
  cases xs with
  |nil=>cases h;trivial
  |cons _ _=>trivial
 |
  s::m,l,xs,d,e,h=>by
  cases xs with
  |nil=>simp[TS] at h
  |
   cons x xs=>
   simp only[TS] at h
   split at h
   ·rename_i e' he
    obtain⟨h1,h2⟩:=Au y he
    obtain⟨g1,g2⟩:=Sh.xO y h
    exact⟨by simp only[xG];rw[g1,g2,h1],by simp only[As];rw[g2,h2]⟩
   ·cases h
structure SS where
 nt:Nat
 nh:Nat
 tm:List (Nat×Sh)
 hp:List (Nat×db)
 df:List Sh
def SS.H(S:SS):List Type:=Wr S.tm (iu S.hp (tx S.df []))
@[reducible] def SS.T (S:SS):Type:=fP S.H
def dc:List (Nat×aO)→List (Nat×Option aO)
 |[]=>[]
 |(i,k)::l=>(i,some k)::dc l
theorem tA{i:Nat}{k:Option aO}:∀{l:List (Nat×aO)},(i,k)∈dc l→∃b,k=some b∧(i,b)∈l
 |[],h=>by cases h
 |
  (j,b)::l,h=>by
  simp only[dc,fa,il] at h
  rcases h with⟨rfl,rfl⟩|h
  ·grind
  ·obtain⟨b',e,hm⟩:=tA h
   exact⟨b',e,dv _ hm⟩
def SS.mi(S:SS)(y:YC)(d:prod S.H):St:=
 ⟨mX (tmV y S.tm d) (List.replicate S.nt .bot),mX (dc (oE y S.hp (Ax.Xp S.tm d))) (List.replicate S.nh none),xG y S.df (Ws S.hp (Ax.Xp S.tm d))⟩
def SS.st(S:SS)(y:YC)(t:S.T):St:=S.mi y (rD S.H t)
def SS.get(S:SS)(σ:St):Option S.T:=
 if Nat.beq σ.tm.length S.nt&&Nat.beq σ.hp.length S.nh then(match TS S.df (l:=[]) σ.df () with
  |
   some d1=>match Xq S.hp σ.hp d1 with
   |
    some d2=>match tmG S.tm σ.tm d2 with
    |some d3=>some (Sx S.H d3)
    |none=>none
   |none=>none
  |none=>none) else none
theorem o9:∀{l:List (Nat×α)}{m:List α},(mX l m).length=m.length
 |[],_=>rfl
 |(i,x)::l,m=>by rw[mX,o9,jc]
theorem lk{i:Nat}{x:α}:∀{l:List (Nat×α)}{m:List α},(mX l m)[i]? =some x→(i,x)∈l∨m[i]? =some x
 |[],_,h=>Or.inr h
 |
  (j,z)::l,m,h=>by
  rw[mX] at h
  rcases lk h with h|h
  ·exact Or.inl (dv _ h)
  ·rw[dq] at h
   split at h
   ·rename_i e
    split at h
    ·cases h;subst e;exact Or.inl (cC ..)
    ·cases h
   ·exact Or.inr h
variable{σ:St}
theorem Wk.sub{gl:Ctx}{σ':St}(hl:σ'.tm.length=σ.tm.length)(ht:∀(i:Nat)(x:AV),σ'.tm[i]? =some x→x= .bot∨σ.tm[i]? =some x)
 (hh:∀(b:Nat)(k:aO),σ'.hp[b]? =some (some k)→σ.hp[b]? =some (some k)) (hd:σ'.df=σ.df):Wk gl σ σ':=by
 intro E a w h
 refine⟨E,⟨by rw[hl];exact h.len,?_,h.hw.less hh,by rw[hd];exact h.df⟩,{Ext.refl (bx σ.hp E) E w with own:=?_ }⟩
 ·intro i x hx v hv
  rcases ht i x hx with e|e
  ·subst e;trivial
  ·exact h.tm i x e v hv
 ·rintro g ⟨b,k,hb,hg⟩
  exact Or.inl ⟨b,k,hh b k hb,hg⟩
theorem SS.gA{gl:Ctx}{S:SS}{y:YC}{t:S.T}(h:S.get σ=some t):Wk gl σ (S.st y t):=by
 unfold SS.get at h
 split at h
 ·rename_i hc
  simp only[bj] at hc
  have l1:=bL hc.1
  have l2:=bL hc.2
  split at h
  ·rename_i d1 h1
   split at h
   ·rename_i d2 h2
    split at h
    ·rename_i d3 h3
     cases h
     have e0:S.st y (Sx S.H d3)=S.mi y d3:=congrArg (S.mi y) (qx S.H d3)
     refine Eq.mpr (congrArg (Wk gl σ) e0) ?_
     obtain⟨a1,a2⟩:=Au y h1
     obtain⟨b1,b2⟩:=ER y h2
     obtain⟨c1,c2⟩:=Lk y h3
     refine Wk.sub ?_ ?_ ?_ ?_
     ·grind [SS.mi,o9]
     ·intro i x hx
      simp only[SS.mi] at hx
      rcases lk hx with hx|hx<;>grind
     ·intro b k hk
      simp only[SS.mi] at hk
      rcases lk hk with hk|hk
      ·grind [tA]
      grind
     grind [SS.mi]
    grind
   grind
  grind
 grind
inductive Nd where
 |frz (b:Nat) (t:Ty)
 |ES (c b:Nat)
 |own (c:Nat) (p:Path)
 |pur
def AV.owned:AV→Option Nat
 | .own b| .kf b _ _| .mp b=>some b
 |
  .cons a b=>match a.owned with
  |some c=>some c
  |none=>b.owned
 |_=>none
def acT:Path→Path
 | .cw n::p=>.cw (n+1)::p
 |p=>p
def ET:List Nd→List Nd
 |[]=>[]
 | .own c p::l=>.own c (acT p)::ET l
 |n::l=>n::ET l
def Ll:List Nd→List Nd
 |[]=>[]
 | .own c p::l=>.own c (.cw 0::p)::Ll l
 |n::l=>n::Ll l
def lY:Sh→AV→List Nd
 |
  .val t,x=>match x.owned with
  |some b=>[.frz b t]
  |
   none=>match x with
   | .val _ _=>[]
   |_=>[.pur]
 | .cc t,.ptr b _=>[.frz b t]
 | .own c,.own b=>[.ES c b]
 | .own c,.bn=>[.own c []]
 | .ptr c _,.ptr b _=>[.ES c b]
 | .kf c,.kf b _ _=>[.ES c b]
 | .mp c,.mp b=>[.ES c b]
 | .cons a b,.cons x y=>Ll (lY a x)++ET (lY b y)
 | .func _ a b,.func _ x y=>lY a x++lY b y
 | .iface _ a,.iface _ x=>lY a x
 |_,_=>[]
def Hv:db→aO→List Nd
 | .var _ s,.var _ x=>lY s x
 | .tv _ s,.tv _ _ x=>lY s x
 | .cH _ _ _ s,.cH _ _ _ _ _ x=>lY s x
 | .kq _ _,.kq _ _ _ (some _)=>[.pur]
 |_,_=>[]
def lkN{α:Type}:List (Nat×α)→Nat→Option α
 |[],_=>none
 |(i,x)::l,j=>if Nat.beq i j then some x else lkN l j
def Hw:List Nd→List (Nat×Nat)
 |[]=>[]
 | .ES c b::l=>(c,b)::Hw l
 |_::l=>Hw l
def Xr:List Nd→Option (Nat×Ty)
 |[]=>none
 | .frz b t::_=>some (b,t)
 |_::l=>Xr l
def Sy:List (Nat×Sh)→List AV→List Nd
 |[],_=>[]
 |
  (i,s)::l,tm=>(match tm[i]? with
  |some x=>lY s x
  |none=>[])++Sy l tm
def Sz:List Sh→List AV→List Nd
 |s::l,x::xs=>lY s x++Sz l xs
 |_,_=>[]
def Hx(hp:List (Nat×db))(σ:List (Option aO)):Nat→List (Nat×Nat)→List (Nat×Nat)→List Nd→List (Nat×Nat)×List Nd
 |0,_,done,nd=>(done,nd)
 |_+1,[],done,nd=>(done,nd)
 |
  n+1,(c,b)::todo,done,nd=>
  match lkN done c with
  |some _=>Hx hp σ n todo done nd
  |
   none=>
   match lkN hp c,σ[b]? with
   |some s,some (some k)=>Hx hp σ n (Hw (Hv s k)++todo) ((c,b)::done) (nd++Hv s k)
   |_,_=>Hx hp σ n todo ((c,b)::done) nd
def pinned:List (Nat×db)→List (Option aO)→List (Nat×Nat)
 |[],_=>[]
 |
  (c,s)::l,σ=>if Nat.blt c 16 then(c,c)::pinned l σ else(match s with
  | .uy=>(c,c)::pinned l σ
  |_=>pinned l σ)
def Hy(S:SS)(σ:St):List (Nat×Nat)×List Nd:=
 let n0:=Sy S.tm σ.tm++Sz S.df σ.df
 Hx S.hp σ.hp 200 (Hw n0++pinned S.hp σ.hp) [] n0
def acU(hp:List (Option aO))(b:Nat)(t:Ty):Ty:=
 match hp[b]? with
 |some (some (.row _ bs u _))=>.slice bs u
 |
  _=>match t with
  | .slice bs u=>.slice bs u
  |_=>.slice 1 (.int .u8)
def Hz(S:SS):Nat→St→Option St
 |0,_=>none
 |
  n+1,σ=>match Xr (Hy S σ).2 with
  |none=>some σ
  |
   some (b,t)=>match freeze b (acU σ.hp b t) σ with
   |some σ'=>Hz S n σ'
   |none=>none
def TT:List AV→List Nat
 |[]=>[]
 |x::l=>x.ids++TT l
def TU:List (Option aO)→Nat→List Nat
 |[],_=>[]
 |some k::l,i=>i::(k.ids++TU l (i+1))
 |none::l,i=>TU l (i+1)
def Lm:List (Nat×Nat)→List (Nat×Nat)
 |[]=>[]
 |(c,b)::l=>if Nat.beq c b then Lm l else(c,b)::Lm l
def Ln(used:List Nat):List (Nat×Nat)→List (Nat×Nat)→Option (Nat×Nat×List (Nat×Nat))
 |[],_=>none
 |(c,b)::l,acc=>if cn c used then Ln used l ((c,b)::acc) else some (c,b,acc++l)
def Xs(b x:Nat):List (Nat×Nat)→List (Nat×Nat)
 |[]=>[]
 |(c,d)::l=>(c,if Nat.beq d b then x else d)::Xs b x l
def yL(top:Nat):Nat→List (Nat×Nat)→St→Option St
 |_,[],σ=>some σ
 |0,_,_=>none
 |
  n+1,(c,b)::mv,σ=>
  match Ln (TT σ.tm++TT σ.df++TU σ.hp 0) ((c,b)::mv) [] with
  |
   some (c',b',rest)=>match rename b' c' σ with
   |some σ'=>yL top n rest σ'
   |none=>none
  |
   none=>match rename b top σ with
   |some σ'=>yL top n (Xs b top ((c,b)::mv)) σ'
   |none=>none
def Lo(hp:List (Nat×db))(c:Nat)(f:TypeId→Nat→Ty→Gh)(σ:St):Option St:=
 match lkN hp c with
 |some (.row e bs t)=>(f e bs t).go σ
 |_=>none
def yM(hp:List (Nat×db))(f:Nat→Path→TypeId→Nat→Ty→Gh):List Nd→St→Option St
 |[],σ=>some σ
 |
  .own c p::l,σ=>match Lo hp c (f c p) σ with
  |some σ'=>yM hp f l σ'
  |none=>none
 |_::l,σ=>yM hp f l σ
def Av(hp:List (Nat×db)):List (Nat×Sh)→St→Option St
 |[],σ=>some σ
 |
  (i,s)::l,σ=>match σ.tm[i]? with
  |
   some x=>match yM hp (fun c _ e bs t=>.xU i c e bs t) (lY s x) σ with
   |some σ'=>Av hp l σ'
   |none=>none
  |none=>none
def wj(hp:List (Nat×db)):List (Nat×db)→St→Option St
 |[],σ=>some σ
 |
  (i,s)::l,σ=>match σ.hp[i]? with
  |
   some (some k)=>match yM hp (fun c p e bs t=>.sr i p c e bs t) (Hv s k) σ with
   |some σ'=>wj hp l σ'
   |none=>none
  |_=>wj hp l σ
def EU:List Nd→Bool
 |[]=>false
 | .pur::_=>true
 |_::l=>EU l
def r9:List (Nat×Sh)→St→Option St
 |[],σ=>some σ
 |
  (i,.val t)::l,σ=>match σ.tm[i]? with
  |
   some x=>if EU (lY (.val t) x) then(match(Gh.Mf i t).go σ with
   |some σ'=>r9 l σ'
   |none=>none) else r9 l σ
  |none=>none
 |_::l,σ=>r9 l σ
def sa:List (Nat×db)→St→Option St
 |[],σ=>some σ
 |
  (i,s)::l,σ=>match σ.hp[i]? with
  |
   some (some k)=>if EU (Hv s k) then(match(Gh.Fx i).go σ with
   |some σ'=>sa l σ'
   |none=>none) else sa l σ
  |_=>sa l σ
def Xt:List (Nat×Sh)→List Nat
 |[]=>[]
 |(i,_)::l=>i::Xt l
def Xu:List (Nat×Nat)→List Nat
 |[]=>[]
 |(_,b)::l=>b::Xu l
def SS.uD(
 S:SS) (σ:St):Option S.T:=
 match Hz S 40 σ with
 |none=>none
 |
  some σ1=>
  let m:=(Hy S σ1).1
  match(Gh.DC (Xt S.tm) (Xu m)).go σ1 with
  |none=>none
  |
   some σ2=>match yL (S.nh -1) 60 (Lm m) σ2 with
   |none=>none
   |
    some σ3=>match Av S.hp S.tm σ3 with
    |none=>none
    |
     some σ4=>match wj S.hp S.hp σ4 with
     |none=>none
     |
      some σ5=>match r9 S.tm σ5 with
      |none=>none
      |
       some σ6=>match sa S.hp σ6 with
       |none=>none
       |some σ7=>S.get σ7
section
variable{gl:Ctx}
theorem Da{S:SS}:∀{n:Nat}{σ σ':St},Hz S n σ=some σ'→Wk gl σ σ'
 |0,_,_,h=>by cases h
 |
  n+1,σ,σ',h=>by
  simp only[Hz] at h
  split at h
  ·cases h;exact Wk.refl gl σ
  ·split at h
   ·rename_i σ1 h1;exact(Wk.freeze h1).trans (Da h)
   ·cases h
theorem wm{top:Nat}:∀{n:Nat}{mv:List (Nat×Nat)}{σ σ':St},yL top n mv σ=some σ'→Wk gl σ σ'
 |
  _,[],σ,σ',h=>by
  grind [yL,Wk.refl]
 |0,_::_,_,_,h=>by trivial
 |
  n+1,(c,b)::mv,σ,σ',h=>by
  simp only[yL] at h
  split at h
  ·split at h
   ·rename_i σ1 h1;exact(Wk.rename h1).trans (wm h)
   ·cases h
  ·split at h
   ·rename_i σ1 h1;exact(Wk.rename h1).trans (wm h)
   ·cases h
theorem kK{hp:List (Nat×db)}{f:Nat→Path→TypeId→Nat→Ty→Gh}:∀{l:List Nd}{σ σ':St},yM hp f l σ=some σ'→Wk gl σ σ'
 |[],σ,σ',h=>by cases h;exact Wk.refl gl σ
 |
  .own c p::l,σ,σ',h=>by
  simp only[yM] at h
  split at h
  ·rename_i σ1 h1
   unfold Lo at h1
   split at h1
   ·exact(Gh.ok h1).trans (kK h)
   ·cases h1
  ·cases h
 | .frz _ _::l,σ,σ',h=>kK (l:=l) h
 | .ES _ _::l,σ,σ',h=>kK (l:=l) h
 | .pur::l,σ,σ',h=>kK (l:=l) h
theorem yN{hp:List (Nat×db)}:∀{l:List (Nat×Sh)}{σ σ':St},Av hp l σ=some σ'→Wk gl σ σ'
 |[],σ,σ',h=>by cases h;exact Wk.refl gl σ
 |
  (i,s)::l,σ,σ',h=>by
  simp only[Av] at h
  split at h
  ·split at h
   ·rename_i σ1 h1;exact(kK h1).trans (yN h)
   ·cases h
  ·cases h
theorem sc{hp:List (Nat×db)}:∀{l:List (Nat×db)}{σ σ':St},wj hp l σ=some σ'→Wk gl σ σ'
 |[],σ,σ',h=>by cases h;exact Wk.refl gl σ
 |
  (i,s)::l,σ,σ',h=>by
  simp only[wj] at h
  split at h
  ·split at h
   ·rename_i σ1 h1;exact(kK h1).trans (sc h)
   ·cases h
  ·exact sc (l:=l) h
theorem nF:∀{l:List (Nat×Sh)}{σ σ':St},r9 l σ=some σ'→Wk gl σ σ'
 |[],σ,σ',h=>by cases h;exact Wk.refl gl σ
 |
  (i,s)::l,σ,σ',h=>by
  cases s with
  |
   val t=>
   simp only[r9] at h
   split at h
   ·split at h
    ·split at h
     ·rename_i σ1 h1;exact(Gh.ok h1).trans (nF h)
     ·cases h
    ·exact nF (l:=l) h
   ·cases h
  |_=>exact nF (l:=l) h
theorem nG:∀{l:List (Nat×db)}{σ σ':St},sa l σ=some σ'→Wk gl σ σ'
 |[],σ,σ',h=>by cases h;exact Wk.refl gl σ
 |
  (i,s)::l,σ,σ',h=>by
  simp only[sa] at h
  split at h
  ·split at h
   ·split at h
    ·rename_i σ1 h1;exact(Gh.ok h1).trans (nG h)
    ·cases h
   ·exact nG (l:=l) h
  ·exact nG (l:=l) h
theorem SS.iE{S:SS}{y:YC}{σ:St}{t:S.T}(h:S.uD σ=some t):Wk gl σ (S.st y t):=by
 unfold SS.uD at h
 split at h
 ·cases h
 rename_i σ1 h1
 simp only at h
 split at h
 ·cases h
 rename_i σ2 h2
 split at h
 ·cases h
 rename_i σ3 h3
 split at h
 ·cases h
 rename_i σ4 h4
 split at h
 ·cases h
 rename_i σ5 h5
 split at h
 ·cases h
 rename_i σ6 h6
 split at h
 ·cases h
 rename_i σ7 h7
 exact((((((Da h1).trans (Gh.ok h2)).trans (wm h3)).trans (yN h4)).trans (sc h5)).trans (nF h6)).trans ((nG h7).trans (SS.gA h))
end
def EV:aO:=.row 0 0 .unit []
variable{E:Env}{w:World}
theorem HA{b:Nat}(h:RB E w b EV):False:=by
 have h:=h.2.2.2.1
 trivial
def wo(f:aW)(z:Nat):aW:=⟨f.rt,f.rb,[],none,.bot,[(z,some EV)]⟩
def HC(z:Nat):aW:=⟨[],[z],[],none,.bot,[]⟩
def jF(fs:List aW)(f:aW)(z:Nat)(gs:List aW):List aW:=fs++wo f z::gs
def EW(P:Program)(gl:Ctx)(ops:Array Oper)(z:Nat)(j:Nat)(g:aW)(σ:St):Prop:=oV P gl ops j g σ∨(g=HC z∧σ.hp[z]? =some (some EV))
def nH:List Nat→List AV→List AV
 |[],tm=>tm
 |d::l,tm=>nH l (tm.set d .bot)
theorem tB:∀{l:List Nat}{tm:List AV},(nH l tm).length=tm.length
 |[],_=>rfl
 |d::l,tm=>by unfold nH;rw[tB];simp
theorem tC{i:Nat}{x:AV}:∀{l:List Nat}{tm:List AV},(nH l tm)[i]? =some x→x= .bot∨(i∉l∧tm[i]? =some x)
 |[],_,h=>Or.inr ⟨by simp,h⟩
 |
  d::l,tm,h=>by
  unfold nH at h
  rcases tC h with h|⟨hl,h⟩<;>grind
def wq(fs:List aW)(f:aW)(z:Nat)(gs:List aW)(σ:St):St:=
 ⟨nH (dstsOf (jF fs f z gs)) σ.tm,aS (aS σ.hp f.hw) (eH (ki (jF fs f z gs))),σ.df⟩
variable{OK:Nat→aW→St→Prop}
theorem bW.app:∀{fs gs:List aW}{i:Nat}{σ σ1 σ':St},bW OK i fs σ σ1→bW OK (i+fs.length) gs σ1 σ'→bW OK i (fs++gs) σ σ'
 |[],gs,i,σ,σ1,σ',h,k=>by grind [bW]
 |f::fs,gs,i,σ,σ1,σ',⟨h1,h2,h3⟩,k=>⟨h1,h2,bW.app h3 (by grind)⟩
theorem bW.hl:∀{fs:List aW}{i:Nat}{σ σ':St},bW OK i fs σ σ'→σ'.hp.length=σ.hp.length
 |[],_,_,_,h=>by simp only[bW] at h;grind
 |f::fs,_,σ,_,⟨_,_,h⟩=>by rw[bW.hl h,rX]
def OZ(z:Nat)(gs:List aW):Bool:=gs.all fun g=> !cn z (wrote g.hw)
theorem bW.at{z:Nat}{k:Option aO}:∀{fs:List aW}{i:Nat}{σ σ':St},bW OK i fs σ σ'→OZ z fs=true→σ.hp[z]? =some k→σ'.hp[z]? =some k
 |[],_,_,_,h,_,hz=>by grind [bW]
 |
  f::fs,_,σ,_,⟨_,_,h⟩,hn,hz=>by
  simp only[OZ,List.all_cons,bj,gS] at hn
  refine bW.at h (by simpa[OZ] using hn.2) ?_
  rw[gX,ep (fun hm=>by rw[mJ hm] at hn;cases hn.1)]
  exact hz
variable{P:Program}{Q:fM→St→Prop}{id:Nat}
theorem wu{G:bM}(T:bA P G){gl:Ctx}{ops:Array Oper}{draw:Bool}{fs gs:List aW}{f:aW}{z:Nat}{σp σe:St}
 (hc:qj P gl ops 0 fs σ σp) (hp:DA P gl ops fs.length f σp) (hg2:bW (EW P gl ops z) (fs.length+1) gs (σp.app (wo f z)) σe) (hnz:OZ z gs=true) (hz:z<σ.hp.length) (hn:fs.length+1+gs.length=ops.size) (gy:draw=true→(lT none ops (jF fs f z gs)&&iS σ (jF fs f z gs))=true)
 (hpl:f.v.plain=true) (hq:Q (.panic f.v) (wq fs f z gs σ)):cI P gl (.region id ops draw) σ Q:=by
 intro E a w hg
 have hzp:(σp.app (wo f z)).hp[z]? =some (some EV):=by
  rw[gX]
  simp only[wo,aS,dq,cj]
  rw[aA (by rw[bW.hl hc];exact hz)]
 have hze:=bW.at hg2 hnz hzp
 have hlen:(jF fs f z gs).length=ops.size:=by simp[jF];omega
 have rest:∀(V:St→Env→World→Prop)(Q:Exit→Act→World→Prop) j g σ1,EW P gl ops z j g σ1→Nz P gl ops Q V j g σ1:=by
  intro V Q j g σ1 h
  rcases h with h|⟨rfl,h⟩
  ·exact h.q
  ·intro σ' ha _ E a w hg
   have:σ'.hp[z]? =some (some EV):=by rw[ha.hp z (by simp[HC]),h]
   exact(HA (hg.hw.cN z _ this)).elim
 have total:∀Q':Exit→Act→World→Prop,(∀σ2 E2 w2 E' u w',xF gl (dstsOf (jF fs f z gs)) (ki (jF fs f z gs)) σ E w σ2 E2 w2→∀a',bQ gl {σ2 with hp:=aS σ2.hp f.hw} E' a' w'→RV E' w' f.v u→Ext gl.md (bx σ2.hp E2) E2 w2 (bx (aS σ2.hp f.hw) E') E' w'→Q' (.panic [{v:=u,recovered:=false}]) a' w')→
  bW (Nz P gl ops Q' (xF gl (dstsOf (jF fs f z gs)) (ki (jF fs f z gs)) σ E w)) 0 (jF fs f z gs) σ σe:=by
  intro Q' hQ'
  refine bW.app (hc.mono fun _ _ _=>oV.q) ⟨?_,(fun d hd=>by cases hd),?_⟩
  ·rw[eK]
   intro σ2 ha _ E2 a2 w2 hg2 hv2 K _
   exact hp σ2 ha E2 a2 w2 hg2 K Q' (fun E' u w' q1 q2 q3=>hQ' σ2 E2 w2 E' u w' hv2 a2 q1 q2 q3)
  ·rw[eK]
   exact hg2.mono (rest _ _)
 have post:∀σ2 E2 w2 E' u w',xF gl (dstsOf (jF fs f z gs)) (ki (jF fs f z gs)) σ E w σ2 E2 w2→∀a',bQ gl {σ2 with hp:=aS σ2.hp f.hw} E' a' w'→RV E' w' f.v u→Ext gl.md (bx σ2.hp E2) E2 w2 (bx (aS σ2.hp f.hw) E') E' w'→qI gl Q σ E w (.panic [{v:=u,recovered:=false}]) a' w':=by
  intro σ2 E2 w2 E' u w' hv a' q1 q2 q3
  have hwk2:bQ gl (wq fs f z gs σ) E' a' w'∧Ext gl.md (bx (aS σ2.hp f.hw) E') E' w' (bx (wq fs f z gs σ).hp E') E' w':=by
   refine⟨⟨?_,?_,q1.hw.less ?_,?_⟩,{Ext.refl (bx (aS σ2.hp f.hw) E') E' w' with own:=?_ }⟩
   ·simp only[wq,tB];rw[q1.len];exact hv.tl
   ·intro i x hx v hv'
    rcases tC hx with hx|⟨hi,hx⟩
    ·subst hx;trivial
    ·exact q1.tm i x (by show σ2.tm[i]? =some x;rw[hv.tm i hi];exact hx) v hv'
   ·intro b k hk
    obtain⟨hb,hk⟩:=dt hk
    show(aS σ2.hp f.hw)[b]? =_
    rw[iB hv.hl (hv.hp b hb)]
    exact hk
   ·show RD E' w' σ.df a'.defers
    rw[←hv.df];exact q1.df
   ·rintro g ⟨b,k,hk,hgb⟩
    obtain⟨hb,hk⟩:=dt hk
    refine Or.inl ⟨b,k,?_,hgb⟩
    rw[iB hv.hl (hv.hp b hb)]
    exact hk
  exact⟨.panic f.v,wq fs f z gs σ,E',⟨u,rfl,RV.jd hpl q2⟩,hq,hwk2.1,(hv.ext.trans q3).trans hwk2.2⟩
 have noend:∀E' a' w',bQ gl σe E' a' w'→False:=fun E' a' w' h=>HA (h.hw.cN z _ hze)
 cases draw with
 |false=>exact tc hlen (total _ post) hg (fun E' a' w' h _=>(noend E' a' w' h).elim)
 |
  true=>
  have gy:=gy rfl
  simp only[bj] at gy
  exact tk T gy.1 gy.2 (fun _ _ _ _ h=>by cases h) (total _ post) hg (fun E' a' w' h _=>(noend E' a' w' h).elim)
theorem Lp{g:Nat}{a:Option Nat}{b:Nat}{c:Array Nat}{d:Nat}{o':Obj}(h:w.heap[g]? =some (.mapIter a b c d)):(setObj g o').run P w= .ok () (w.putObj g o'):=by simp[setObj,Sem.run,h,World.putObj]
theorem Db(w:World)(ty:TypeId)(g bm since c0:Nat)(seen:Array Nat)(es:Array MapEntry)(clock:Nat)(hg:w.heap[g]? =some (.mapIter (some bm) since seen c0))(hb:w.heap[bm]? =some (.map es clock))(hold:∀x∈es.toList,x.born<since)(hsc:since≤c0):
 ((leftOf es seen).size=0∧(Instr.next (.pointer (some ⟨g,0,none⟩)) false ty).run P w= .ok (.tuple #[.bool false]) w)∨
 ∃e∈(leftOf es seen).toList,∃w1:World,(w1=w∨w1=w.drew)∧(Instr.next (.pointer (some ⟨g,0,none⟩)) false ty).run P w= .ok (.tuple #[.bool true,e.key,e.val]) (w1.putObj g (.mapIter (some bm) since (seen.push e.born) clock)):=by
 simp only[Instr.next,getObj,Sem.run_bind,Sem.run,hg,hb,Result.andThen,next_test_false seen es since c0 hold hsc,eJ,dz]
 unfold leftOf
 have hmem:∀x∈(Array.filter (fun e=> !seen.contains e.born) es).toList,x.born<since:=fun x hx=>hold x (by grind)
 generalize Array.filter (fun e=> !seen.contains e.born) es=L at hmem ⊢
 have e1:L.filter (fun x=>decide (x.born<since))=L:=Array.filter_eq_self.2 (fun x hx=>by grind)
 have e2:L.filter (fun x=>decide (x.born≥since))= #[]:=by
  simp_all
 simp only[e1,e2,Array.append_empty]
 by_cases h0:L.size=0
 ·simp_all[Question.forced]
 ·right
  have hne:L.isEmpty=false:=by grind
  simp only[hne,eJ,dz,Array.empty_append,Array.size_map]
  have hch:∃(j:Nat)(w1:World),j<L.size∧(w1=w∨w1=w.drew)∧(choose (Question.mapNext L.size)).run P w= .ok j w1:=by
   by_cases hf:L.size≤1
   ·exact⟨0,w,by omega,Or.inl rfl,by simp[choose,Sem.run,Question.forced,hf]⟩
   ·exact⟨_,w.drew,Nat.mod_lt _ (by omega),Or.inr rfl,by
     simp only[choose,Sem.run,Question.forced,mq,hf,dz,Question.cut]
     rfl⟩
  obtain⟨j,w1,hj,hal,amn⟩:=hch
  refine⟨L[j],by simp,w1,hal,?_⟩
  have hg1:w1.heap[g]? =some (.mapIter (some bm) since seen c0):=by
   rcases hal with e|e
   ·grind
   ·rw[e];exact hg
  simp only[amn,Array.getElem?_map,Array.getElem?_eq_getElem hj,Option.map_some,Sem.run_bind,Lp hg1,Result.andThen]
  rfl
theorem EX{en:Array MapEntry}{seen:Array Nat}(hn:(en.toList.map (·.born)).Nodup){i:Nat}{e:MapEntry}(he:(jY en seen).toList[i]? =some e):(jY en (seen.push e.born)).toList=(jY en seen).toList.eraseIdx i:=by
 have key:∀(l:List MapEntry)(i:Nat)(e:MapEntry),(l.map (·.born)).Nodup→l[i]? =some e→l.filter (fun x=> !(x.born==e.born))=l.eraseIdx i:=by
  intro l
  induction l with
  |nil=>grind
  |
   cons x l ih=>
   intro i e hn h
   have hn':x.born∉l.map (·.born)∧(l.map (·.born)).Nodup:=List.nodup_cons.1 hn
   cases i with
   |
    zero=>
    simp_all
   |
    succ i=>
    grind
 have hl:(jY en (seen.push e.born)).toList=(jY en seen).toList.filter (fun x=> !(x.born==e.born)):=by
  simp only[jY,Array.toList_filter,List.filter_filter]
  grind
 grind [jY]
theorem RM.ats{k v:Ty}:∀{es:List MapEntry}{xs:List (k.den×v.den)},RM E w k v es xs→es.length=xs.length∧(∀(i:Nat)(e:MapEntry)(x:k.den×v.den),es[i]? =some e→xs[i]? =some x→bY E w (.val k x.1) e.key∧bY E w (.val v x.2) e.val)∧∀i,RM E w k v (es.eraseIdx i) (xs.eraseIdx i)
 |[],[],_=>⟨rfl,fun i e x h=>by simp at h,fun i=>by simp[RM]⟩
 |[],_::_,h=>h.elim
 |_::_,[],h=>h.elim
 |
  e::es,x::xs,⟨h1,h2,h3⟩=>by
  obtain⟨a,b,c⟩:=RM.ats h3
  refine⟨by simp[a],?_,?_⟩
  ·grind
  ·intro i
   cases i with
   |zero=>grind
   |succ i=>simpa using⟨h1,h2,c i⟩
noncomputable def tY{A R:Type}(xs:List A)(K:A→List A→Option R):Option R:=
 @dite _ (∃r,∀i(h:i<xs.length),K xs[i] (xs.eraseIdx i)=some r) (Classical.propDecidable _) (fun h=>some h.choose) (fun _=>none)
theorem Ja{A R:Type}{xs:List A}{K:A→List A→Option R}{r:R}(h:tY xs K=some r)(i:Nat)(hi:i<xs.length):K xs[i] (xs.eraseIdx i)=some r:=by
 unfold tY at h
 split at h<;>grind
variable{o1:Oper}
theorem cI.next{gl:Ctx}{o0:Oper}{s d d1 b:Nat}{kt vt:Ty}{rest:List (kt.den×vt.den)}{cur:Option (kt.den×vt.den)}
 (h0:o0.op= .next (.tmp s) false) (hg0:o0.guard=none) (hd0:o0.dst=some d) (h1:o1.op= .extract (.tmp d) 0) (hg1:o1.guard=none) (hd1:o1.dst=some d1)
 (hs:σ.tm[s]? =some (.ptr b [])) (hb:σ.hp[b]? =some (some (.kq kt vt rest cur))) (hl:Nat.blt d σ.tm.length=true)
 (hq0:rest= []→Q .normal ((σ.put (some d) .bot).put (some d1) (.val .bool false)))
 (hq1:∀i(hi:i<rest.length),Q .normal ((({σ with hp:=σ.hp.set b (some (.kq kt vt (rest.eraseIdx i) (some rest[i])))}:St).put (some d) .bot).put (some d1) (.val .bool true))):
 cI P gl (.region id #[o0,o1] false) σ Q:=by
 intro E a w hg
 obtain⟨g,om,since,seen,c0,q1,q2,q3⟩:=hg.hw.cN b _ hb
 have hlt:d<a.tmps.size:=by rw[hg.len];simp_all
 have hx:a.eval (.tmp s)= .pointer (some ⟨g,0,none⟩):=by
  have hv:=gi hg (.tmp s)
  have:bD gl σ.tm (.tmp s)= .ptr b []:=by simp[bD,hs]
  rw[this] at hv
  obtain⟨g',hg',ev,_⟩:=RV.atom rfl hv
  grind [Ty.off]
 have w0:∀z,Region.wanted o0 z=true:=fun z=>by simp[Region.wanted,hg0]
 have w1:∀z,Region.wanted o1 z=true:=fun z=>by simp[Region.wanted,hg1]
 refine wpIn_region ?_
 have hr:List.range (#[o0,o1]:Array Oper).size= [0,1]:=rfl
 rw[hr]
 have fin:∀(vs:Array Value)(x:Bool)(w':World)(σ':St),(Instr.next (.pointer (some ⟨g,0,none⟩)) false o0.type).run P w= .ok (.tuple vs) w'→vs[0]? =some (.bool x)→bQ gl σ' E a w'→Ext gl.md (bx σ.hp E) E w (bx σ'.hp E) E w'→
  Q .normal ((σ'.put (some d) .bot).put (some d1) (.val .bool x))→wpOpsIn (Wd gl) 0 P #[o0,o1] (qI gl Q σ E w) [0,1] a w:=by
  intro vs x w' σ' amn hv0 hg' hext hq
  simp only[wpOpsIn,List.getElem?_toArray,List.getElem?_cons_zero,vK,w0,cj]
  refine⟨fun _ _=>trivial,?_⟩
  rw[Oper.semAt_eq _ _ _ (by grind)]
  have r1:(execOp a.eval o0).run P w= .ok (.value (.tuple vs)) w':=by simp[execOp,h0,hx,amn]
  rw[r1,Oper.uponIn_value,hd0]
  simp only[w1,cj]
  refine⟨fun _ _=>trivial,?_⟩
  rw[Oper.semAt_eq _ _ _ (by grind)]
  have hev:(a.put (some d) (.tuple vs)).eval (.tmp d)= .tuple vs:=by simp[Act.eval,Act.put,hlt]
  have r2:(execOp (a.put (some d) (.tuple vs)).eval o1).run P w'= .ok (.value (.bool x)) w':=by
   simp_all[execOp,Instr.extract]
  rw[r2,Oper.uponIn_value,hd1]
  have ga:=hg'.put (some d) (x:=.bot) (v:=.tuple vs) trivial
  have gb:=ga.put (some d1) (x:=.val .bool x) (v:=.bool x) RV.bool
  exact⟨.normal,_,E,trivial,hq,gb,hext⟩
 have nextNil:om=none→rest= []→wpOpsIn (Wd gl) 0 P #[o0,o1] (qI gl Q σ E w) [0,1] a w:=by
  intro e1 e2
  subst e1
  refine fin #[.bool false] false w σ ?_ rfl hg (Ext.refl _ _ _) (hq0 e2)
  simp only[Instr.next,getObj,Sem.run_bind,Sem.run,q2,Result.andThen]
  rfl
 rcases q3 with⟨e1,e2,_⟩|⟨bm,en,e1,r2,r3,e4,r5,r6,r7,r8⟩
 ·grind
 ·subst e1;subst e4
  obtain⟨m1,m2,m3⟩:=RM.ats r7
  rcases Db (P:=P) w o0.type g bm since since seen en since q2 r3 r5 (dN _) with⟨z,amn⟩|⟨e,he,w1',hw1,amn⟩
  ·have hr0:rest= []:=by
    grind [leftOf,jY]
   exact fin #[.bool false] false w σ amn rfl hg (Ext.refl _ _ _) (hq0 hr0)
  ·have he:e∈(jY en seen).toList:=he
   obtain⟨i,hi,hie⟩:=List.mem_iff_getElem.1 he
   have hie':(jY en seen).toList[i]? =some e:=by grind
   have hir:i<rest.length:=by grind
   have hrm:=EX r6 hie'
   have hen:e∈en.toList:=by
    grind [jY]
   obtain⟨k1,k2⟩:=m2 i e rest[i] hie' (yw hir)
   have hh:w1'.heap=w.heap:=by rcases hw1 with e|e<;>rw[e]<;>rfl
   have hlg:g<w1'.heap.size:=by grind
   have hne:bm≠g:=fun e=>by grind
   have hoth:∀j,j≠g→(w1'.putObj g (.mapIter (some bm) since (seen.push e.born) since)).heap[j]? =w.heap[j]? :=fun j hj=>by
    grind [World.putObj_heap_other]
   have kp:bE E w E (w1'.putObj g (.mapIter (some bm) since (seen.push e.born) since)):=⟨fun j hj=>hoth j (fun e=>hg.hw.jC b _ g hb q1 (e▸hj)),fun _ h=>h⟩
   have hrb:RB E (w1'.putObj g (.mapIter (some bm) since (seen.push e.born) since)) b (.kq kt vt (rest.eraseIdx i) (some rest[i])):=by
    refine⟨g,some bm,since,seen.push e.born,since,q1,World.putObj_heap_same hlg,Or.inr ⟨bm,en,rfl,r2,by grind,rfl,r5,r6,?_,?_⟩⟩
    ·rw[hrm];exact RM.mono kp (m3 i)
    ·intro x hx
     cases hx
     exact⟨e,seen,rfl,hen,bY.mono kp (fun _ hb=>by cases hb) k1,bY.mono kp (fun _ hb=>by cases hb) k2⟩
   have hw2:=hg.hw.write (w':=w1'.putObj g (.mapIter (some bm) since (seen.push e.born) since)) hb (by simp_all) (fun j hj=>hoth j (fun e=>hj (by grind))) hrb
   refine fin #[.bool true,e.key,e.val] true _ {σ with hp:=σ.hp.set b (some (.kq kt vt (rest.eraseIdx i) (some rest[i])))} amn rfl (hg.carry kp (fun _ _=>⟨rfl,rfl,rfl⟩) hw2) ⟨?_,?_,?_,?_,?_,fun _ h=>h,fun _ h=>Or.inl h,fun i hi=>Or.inl (bx.set hb hi),fun _ _=>⟨rfl,rfl,rfl⟩⟩ (hq1 i hir)
   ·rcases hw1 with e|e<;>rw[e]<;>rfl
   ·rcases hw1 with e|e
    ·rw[e];exact Tp.r rfl rfl
    ·rw[e];exact Tp.s rfl rfl
   ·rcases hw1 with e|e<;>rw[e]<;>rfl
   ·simp_all
   ·intro j hj ho
    exact hoth j (fun e=>ho ⟨b,_,hb,by rw[e];exact Or.inl q1⟩)
theorem cI.O0{gl:Ctx}{o2:Oper}{y:Code}(x:Operand)(d1 d2:Nat)(t t2 e:TypeId)(bs:Nat)(u:Ty)(xs:List u.den)
 (h1:o1.op= .move x) (hd1:o1.dst=some d1) (hg1:o1.guard=none) (h2:o2.op= .binOp .eql t (.tmp d1) (.const (.slice none 0 0)) t2) (hd2:o2.dst=some d2) (hg2:o2.guard=none)
 (hx:bD gl σ.tm x= .val (.slice bs u) xs) (ht:P.underlying t=some (.slice e)) (hl:Nat.blt d1 σ.tm.length=true)
 (h:∀b:Bool,(b=true→xs= [])→cI P gl y ((σ.put (some d1) (.val (.slice bs u) xs)).put (some d2) (.val .bool b)) Q):cI P gl (.seq (.region id #[o1,o2] false) y) σ Q:=by
 intro E a w hg
 have hv:=gi hg x
 rw[hx] at hv
 obtain⟨ad,cap,hve,_,_,_,hor⟩:=RV.atom rfl hv
 simp at hve
 have hlt:d1<a.tmps.size:=by rw[hg.len];simp[Nat.blt] at hl;omega
 refine wpIn_seq (wpIn_region ?_)
 have hr:List.range (#[o1,o2]:Array Oper).size= [0,1]:=rfl
 rw[hr]
 have w1:∀z,Region.wanted o1 z=true:=fun z=>by simp[Region.wanted,hg1]
 have w2:∀z,Region.wanted o2 z=true:=fun z=>by simp[Region.wanted,hg2]
 have ga:=hg.put (some d1) hv
 have hb:ad.isNone=true→xs= []:=by
  intro hn
  rcases hor with h0|⟨b,o,cs,e1,_⟩
  ·exact h0
  ·subst e1;cases hn
 have gb:=ga.put (some d2) (x:=.val .bool ad.isNone) (v:=.bool ad.isNone) (RV.eQ (Or.inr ⟨rfl,rfl⟩))
 have hfin:=h ad.isNone hb E _ w gb
 simp only[wpOpsIn,List.getElem?_toArray,List.getElem?_cons_zero,vK,w1,cj]
 refine⟨fun _ _=>trivial,?_⟩
 rw[Oper.semAt_eq _ _ _ (by rw[h1];intro c hc;cases hc)]
 have r1:(execOp a.eval o1).run P w= .ok (.value (a.eval x)) w:=by simp[execOp,h1]
 rw[r1,Oper.uponIn_value,hd1]
 simp only[w2,cj]
 refine⟨fun _ _=>trivial,?_⟩
 rw[Oper.semAt_eq _ _ _ (by rw[h2];intro c hc;cases hc)]
 have hev:(a.put (some d1) (a.eval x)).eval (.tmp d1)= .slice ad xs.length cap:=by
  have:(a.put (some d1) (a.eval x)).eval (.tmp d1)=a.eval x:=by
   generalize a.eval x=v
   simp[Act.eval,Act.put,hlt]
  rw[this,hve]
 have r2:(execOp (a.put (some d1) (a.eval x)).eval o2).run P w= .ok (.value (.bool ad.isNone)) w:=by
  have hq:=run_equal_slice_nil (P:=P) w t e ad xs.length cap ht
  have hc:(a.put (some d1) (a.eval x)).eval (.const (.slice none 0 0))= .slice none 0 0:=rfl
  simp[execOp,h2,hev,hc,eqGuard,binOp,hq]
 rw[r2,Oper.uponIn_value,hd2]
 simp only[Exit.then]
 refine wpIn_mono hfin ?_
 rintro ex a' w' ⟨x',σ',E',k1,k2,k3,k4⟩
 exact⟨x',σ',E',k1,k2,k3,k4⟩
variable{hp:List (Option aO)}
theorem HW.frame{gl:Ctx}(h:HW gl E w hp){g:Nat}{o:Obj}(hS:¬E.S g)(hO:¬bx hp E g):bE E w E (w.putObj g o)∧HW gl E (w.putObj g o) hp:=by
 have kp:bE E w E (w.putObj g o):=⟨fun b hb=>World.putObj_heap_other (fun e=>hS (e▸hb)),fun _ h=>h⟩
 exact⟨kp,fun b k hb=>RB.mono kp (fun _ _=>⟨rfl,rfl,rfl⟩) (fun i hi=>World.putObj_heap_other (fun e=>hO ⟨b,k,hb,by grind⟩)) (fun _ _ h=>h) (h.cN b k hb),h.ee,h.dA,fun i hi=>by simpa using h.slt i hi,h.gB kp,fun b k g hb hg=>by simpa using h.tV b k g hb hg⟩
theorem bQ.frame{gl:Ctx}{a:Act}(h:bQ gl σ E a w){g:Nat}{o:Obj}(hS:¬E.S g)(hO:¬bx σ.hp E g):bQ gl σ E a (w.putObj g o):=by
 obtain⟨kp,hw⟩:=h.hw.frame (o:=o) hS hO
 exact h.carry kp (fun _ _=>⟨rfl,rfl,rfl⟩) hw
variable{O:Nat→Prop}
theorem Ext.put{gl:Ctx}{g:Nat}{o:Obj}(h:O g):Ext gl.md O E w O E (w.putObj g o):=
 ⟨rfl,Tp.r rfl rfl,rfl,by simp,fun i _ hi=>World.putObj_heap_other (fun e=>hi (e▸h)),fun _ h=>h,fun _ h=>Or.inl h,fun _ h=>Or.inl h,fun _ _=>⟨rfl,rfl,rfl⟩⟩
theorem ll{b c:Nat}{k:aO}(h:(hp.set b none)[c]? =some (some k)):c≠b∧hp[c]? =some (some k):=by
 grind
theorem HW.drop{gl:Ctx}(h:HW gl E w hp)(b:Nat):HW gl E w (hp.set b none):=h.less (fun _ _ hc=>(ll hc).2)
theorem bx.drop{b g:Nat}(h:bx (hp.set b none) E g):bx hp E g:=by
 obtain⟨c,k,h1,h2⟩:=h
 exact⟨c,k,(ll h1).2,h2⟩
theorem bQ.shut{gl:Ctx}{a:Act}(h:bQ gl σ E a w){b g:Nat}{k:aO}(hb:σ.hp[b]? =some (some k))(hg:E.g b=some g)(o:Obj):
 bQ gl {σ with hp:=σ.hp.set b none} E a (w.putObj g o)∧Ext gl.md (bx σ.hp E) E w (bx (σ.hp.set b none) E) E (w.putObj g o):=by
 have hS:¬E.S g:=h.hw.jC b k g hb hg
 have hO:¬bx (σ.hp.set b none) E g:=by
  rintro⟨c,k',hc,hgc⟩
  obtain⟨h1,h2⟩:=ll hc
  exact h1 (h.hw.ee c b k' k g h2 hb hgc (Or.inl hg))
 have h1:bQ gl {σ with hp:=σ.hp.set b none} E a w:=⟨h.len,h.tm,h.hw.drop b,h.df⟩
 refine⟨h1.frame hS hO,?_⟩
 have:=Ext.put (gl:=gl) (O:=bx σ.hp E) (E:=E) (w:=w) (o:=o) ⟨b,k,hb,Or.inl hg⟩
 exact{this with own:=fun i hi=>Or.inl (bx.drop hi)}
def marks:List AV→List (Option aO)→Option (List (Option aO))
 |[],hp=>some hp
 |
  .mp b::l,hp=>match eC hp b with
  |some .uy=>marks l (hp.set b none)
  |_=>none
 |_,_=>none
theorem HD{gl:Ctx}{fn:Func}{R:Ending→World→Prop}{tmps:Array Value}:∀(df:List AV){tm:List AV}{hp hp':List (Option aO)}{E:Env}{ds:List Deferred}{w:World},
 bQ gl ⟨tm,hp,df⟩ E ⟨tmps,ds⟩ w→marks df hp=some hp'→(∀w',bQ gl ⟨tm,hp',[]⟩ E ⟨tmps,[]⟩ w'→Ext gl.md (bx hp E) E w (bx hp' E) E w'→LeavesIn (Wd gl) 0 P fn tmps R [] .returning w')→LeavesInM (Wd gl) 0 P fn tmps R ds .returning w
 |
  [],tm,hp,hp',E,ds,w,h,hm,hk=>by
  cases hm
  have:ds= []:=by
   have:=h.df
   cases ds with
   |nil=>rfl
   |cons _ _=>trivial
  subst this
  exact hk w h (Ext.refl _ _ _)
 |
  x::l,tm,hp,hp',E,ds,w,h,hm,hk=>by
  cases x with
  |
   mp b=>
   simp only[marks] at hm
   split at hm
   ·rename_i hb
    have hbk:=bR hp b _ hb
    cases ds with
    |nil=>exact h.df.elim
    |
     cons d ds=>
     obtain⟨⟨g,hg,hd⟩,hrest⟩:=h.df
     obtain⟨g',hg',hh⟩:=h.hw.cN b _ hbk
     rw[hg] at hg';cases hg'
     have h0:bQ gl ⟨tm,hp,l⟩ E ⟨tmps,ds⟩ w:=⟨h.len,h.tm,h.hw,hrest⟩
     obtain⟨g1,x1⟩:=h0.shut hbk hg (.deferred none)
     refine⟨by simp,Or.inl ⟨g,_,by rw[hd],run_takeDeferred hh,?_⟩⟩
     exact HD l g1 hm (fun w' k1 k2=>hk w' k1 (x1.trans k2))
   ·cases hm
  |_=>simp[marks] at hm
def Ctx.wB(gl:Ctx)(B:(Nat→Prop)→World→Prop)(hB:∀{S S':Nat→Prop}{w w':World},(∀b,S b→w'.heap[b]? =w.heap[b]?)→(∀b,S b→S' b)→B S w→B S' w'):Ctx:=⟨gl.gl,B,hB,none,gl.md⟩
def Ctx.tZ(gl:Ctx)(l:Nat):Ctx:=⟨gl.gl,fun _ _=>True,fun _ _ _=>trivial,some l,gl.md⟩
def jmp(jl:List Code):Nat→Option Code
 |0=>none
 |j+1=>jl[j]?
def fy(fn:FuncId)(tmps:Array Value)(ps:Array Tmp)(assign body:Code)(D:Nat)(jl:List Code)(j:Nat):Loop:=
 {state:=if Nat.beq j 0 then .ready else .done,pending:=jmp jl j,fn,tmps,params:=ps,assign,body,defers:=D}
def AV.oF(m:List (Nat×Nat)):AV→Option AV
 | .ptr b p=>(nU m b).map fun c=>.ptr c p
 |
  .func fn fs cs=>match fs.oF m,cs.oF m with
  |some f,some c=>if f.atoms&&c.atoms then some (.func fn f c) else none
  |_,_=>none
 |
  .cons a b=>match a.oF m,b.oF m with
  |some x,some y=>some (.cons x y)
  |_,_=>none
 | .val t x=>some (.val t x)
 | .cc t x=>some (.cc t x)
 | .ir v=>some (.ir v)
 | .bn=>some .bn
 | .eM=>some .eM
 | .dV=>some .dV
 | .fp=>some .fp
 | .fq f t x=>some (.fq f t x)
 | .gU=>some .gU
 | .nil=>some .nil
 |_=>none
structure RnP(m:List (Nat×Nat))(E:Env)(w:World)(E':Env)(w':World):Prop where
 at':∀b c,nU m b=some c→E'.g c=E.g b∧E'.bt c=E.bt b
 k:bE E w E' w'
theorem AV.HE{m:List (Nat×Nat)}{x y:AV}(h:x.oF m=some y):y.isAgg=x.isAgg:=by
 cases x with
 |ptr b p=>simp only[AV.oF,gP] at h;obtain⟨c,_,rfl⟩:=h;rfl
 |
  func fn fs cs=>
  simp only[AV.oF] at h
  split at h
  ·split at h
   ·cases h;rfl
   grind
  grind
 |
  cons a b=>
  simp only[AV.oF] at h
  split at h
  ·cases h;rfl
  grind
 |_=>simp[AV.oF] at h<;>subst h<;>rfl
variable{E':Env}{w':World}
theorem RC.oF{m:List (Nat×Nat)}(r:RnP m E w E' w'):∀{x y:AV}{vs:List Value},x.oF m=some y→RC E w x vs→RC E' w' y vs:=by
 intro x
 induction x with
 |
  ptr b p=>
  intro y vs h hr
  simp only[AV.oF,gP] at h
  obtain⟨c,hc,rfl⟩:=h
  obtain⟨e1,e2⟩:=r.at' b c hc
  obtain⟨g,h1,h2,h3⟩:=hr
  exact⟨g,by grind,by grind,by grind⟩
 |
  func fn fs cs ih1 ih2=>
  intro y vs h hr
  simp only[AV.oF] at h
  split at h
  ·rename_i f c h1 h2
   split at h
   ·rename_i ha
    cases h
    simp only[bj] at ha
    obtain⟨f',c',e,r1,r2,_,_⟩:=hr
    exact⟨f',c',e,ih1 h1 r1,ih2 h2 r2,ha.1,ha.2⟩
   grind
  grind
 |
  cons a b ih1 ih2=>
  intro y vs h hr
  simp only[AV.oF] at h
  split at h
  ·rename_i x y h1 h2
   cases h
   obtain⟨v1,v2,e,r1,r2⟩:=hr
   exact⟨v1,v2,e,ih1 h1 r1,ih2 h2 r2⟩
  grind
 |val t x=>intro y vs h hr;simp only[AV.oF,cW] at h;subst h;exact RC.mono (a:=.val t x) r.k (fun _ hb=>by cases hb) hr
 |cc t x=>intro y vs h hr;simp only[AV.oF,cW] at h;subst h;exact RC.mono (a:=.cc t x) r.k (fun _ hb=>by cases hb) hr
 |ir v=>intro y vs h hr;simp only[AV.oF,cW] at h;subst h;exact RC.mono (a:=.ir v) r.k (fun _ hb=>by cases hb) hr
 |bn=>intro y vs h hr;simp only[AV.oF,cW] at h;subst h;exact hr
 |eM=>intro y vs h hr;simp only[AV.oF,cW] at h;subst h;exact hr
 |dV=>intro y vs h hr;simp only[AV.oF,cW] at h;subst h;exact hr
 |fp=>intro y vs h hr;simp only[AV.oF,cW] at h;subst h;exact hr
 |fq f t x=>intro y vs h hr;simp only[AV.oF,cW] at h;subst h;obtain⟨ha,cs,h1,h2⟩:=hr;exact⟨ha,cs,h1,Rel.mono r.k.w r.k.S h2⟩
 |gU=>intro y vs h hr;simp only[AV.oF,cW] at h;subst h;exact hr
 |nil=>intro y vs h hr;simp only[AV.oF,cW] at h;subst h;exact hr
 |_=>intro y vs h hr;trivial
theorem RV.oF{m:List (Nat×Nat)}(r:RnP m E w E' w'){x y:AV}{v:Value}(h:x.oF m=some y)(hr:RV E w x v):RV E' w' y v:=by
 have hp:x.plain=true:=by cases x<;>simp[AV.oF] at h<;>rfl
 have h0:=RV.jd hp hr
 refine RV.eQ ?_
 rcases h0 with⟨h1,cs,e,h2⟩|⟨h1,h2⟩
 ·exact Or.inl ⟨by rw[AV.HE h];exact h1,cs,e,RC.oF r h h2⟩
 ·exact Or.inr ⟨by rw[AV.HE h];exact h1,RC.oF r h h2⟩
def Lq(m:List (Nat×Nat)):List AV→List AV
 |[]=>[]
 |x::l=>(match x.oF m with|some y=>y|none=>.bot)::Lq m l
theorem HF{m:List (Nat×Nat)}:∀{l:List AV},(Lq m l).length=l.length
 |[]=>rfl
 |_::l=>by simp[Lq,HF (l:=l)]
theorem HG{m:List (Nat×Nat)}:∀{l:List AV}{i:Nat}{y:AV},(Lq m l)[i]? =some y→y= .bot∨∃x,l[i]? =some x∧x.oF m=some y
 |[],i,y,h=>by trivial
 |
  x::l,0,y,h=>by
  simp only[Lq,List.getElem?_cons_zero,cW] at h
  grind
 |
  x::l,i+1,y,h=>by
  simp only[Lq,vK] at h
  simpa using HG h
def tD:List (Nat×AV)→List AV→List AV
 |[],l=>l
 |(t,x)::r,l=>tD r (l.set t x)
theorem Dc:∀{ps:List Nat}{args:List AV}{vs:List Value}{tm:List AV}{tmps:Array Value},lb E w args vs→tmps.size=tm.length→(∀(i:Nat)(x:AV),tm[i]? =some x→∀v,tmps[i]? =some v→RV E w x v)→
 ((ps.zip vs).foldl (fun t(p:Nat×Value)=>t.setIfInBounds p.1 p.2) tmps).size=(tD (ps.zip args) tm).length∧
 (∀(i:Nat)(x:AV),(tD (ps.zip args) tm)[i]? =some x→∀v,((ps.zip vs).foldl (fun t(p:Nat×Value)=>t.setIfInBounds p.1 p.2) tmps)[i]? =some v→RV E w x v)
 |[],args,vs,tm,tmps,_,hs,ht=>by trivial
 |p::ps,[],[],tm,tmps,_,hs,ht=>by trivial
 |p::ps,[],_::_,tm,tmps,h,hs,ht=>h.elim
 |p::ps,_::_,[],tm,tmps,h,hs,ht=>h.elim
 |
  p::ps,a::args,v::vs,tm,tmps,⟨h1,h2⟩,hs,ht=>by
  simp only[List.zip_cons_cons,List.foldl_cons,tD]
  refine Dc h2 (by simp[hs]) ?_<;>grind
def mc(i:Nat):List (Nat×Ty)→Bool
 |[]=>false
 |(j,_)::l=>Nat.beq i j||mc i l
def mM(gs:Nat→Nat)(ti:List (Nat×Ty))(i:Nat):aO→aO
 | .var t v=>if mc i ti then .tv (gs i) t v else .var t v
 |k=>k
def tie(gs:Nat→Nat)(ti:List (Nat×Ty)):Nat→List (Option aO)→List (Option aO)
 |_,[]=>[]
 |s,none::l=>none::tie gs ti (s+1) l
 |s,some k::l=>some (mM gs ti s k)::tie gs ti (s+1) l
theorem nJ{gs:Nat→Nat}{ti:List (Nat×Ty)}:∀{l:List (Option aO)}{s:Nat},(tie gs ti s l).length=l.length
 |[],_=>rfl
 |none::l,s=>by simp[tie,nJ (l:=l)]
 |some _::l,s=>by simp[tie,nJ (l:=l)]
theorem iM{gs:Nat→Nat}{ti:List (Nat×Ty)}:∀{l:List (Option aO)}{s i:Nat}{k:aO},(tie gs ti s l)[i]? =some (some k)→∃k0,l[i]? =some (some k0)∧k=mM gs ti (s+i) k0
 |[],s,i,k,h=>by trivial
 |none::l,s,0,k,h=>by simp[tie] at h
 |some x::l,s,0,k,h=>by simp_all[tie]
 |
  none::l,s,i+1,k,h=>by
  obtain⟨k0,h1,h2⟩:=iM (l:=l) (by simpa[tie] using h)
  exact⟨k0,by simpa using h1,by rw[h2];congr 1;omega⟩
 |
  some x::l,s,i+1,k,h=>by
  obtain⟨k0,h1,h2⟩:=iM (l:=l) (by simpa[tie] using h)
  exact⟨k0,by simpa using h1,by rw[h2];congr 1;omega⟩
theorem Aw{gs:Nat→Nat}{ti:List (Nat×Ty)}:∀{l:List (Option aO)}{s i:Nat}{k:aO},l[i]? =some (some k)→(tie gs ti s l)[i]? =some (some (mM gs ti (s+i) k))
 |[],s,i,k,h=>by simp at h
 |none::l,s,0,k,h=>by simp at h
 |some x::l,s,0,k,h=>by simp at h;subst h;rfl
 |
  none::l,s,i+1,k,h=>by
  have:=Aw (gs:=gs) (ti:=ti) (s:=s+1) (l:=l) (i:=i) (k:=k) (by grind)
  grind [tie]
 |
  some x::l,s,i+1,k,h=>by
  have:=Aw (gs:=gs) (ti:=ti) (s:=s+1) (l:=l) (i:=i) (k:=k) (by grind)
  grind [tie]
variable{ti:List (Nat×Ty)}{gs:Nat→Nat}
theorem RB.Xv{i:Nat}{k:aO}(h:RB E w i (mM gs ti i k)):RB E w i k:=by
 cases k with
 |
  var t v=>
  simp only[mM] at h
  split at h
  ·obtain⟨h0,h1,h2,c,e,h4,h5⟩:=h;exact⟨h1,h2,_,c,e,h0,h4,h5⟩
  grind
 |_=>exact h
theorem RB.tie{i:Nat}{k:aO}(h:RB E w i k)(hg:mc i ti=true→E.g i=some (gs i)):RB E w i (mM gs ti i k):=by
 cases k with
 |
  var t v=>
  simp only[mM]
  split
  ·rename_i hh
   obtain⟨h1,h2,g,c,e,h3,h4,h5⟩:=h
   have:=hg hh
   rw[this] at h3;cases h3
   exact⟨this,h1,h2,c,e,h4,h5⟩
  grind
 |_=>exact h
def qy(hp:List (Option aO)):List (Nat×Ty)→Bool
 |[]=>true
 |(i,t)::l=>(match hp[i]? with|some (some (.var t' _))=>Ty.same t' t|_=>false)&&Nat.blt i 16&&qy hp l
theorem wv{i:Nat}:∀{ti:List (Nat×Ty)},qy hp ti=true→mc i ti=true→i<16∧∃t v,hp[i]? =some (some (.var t v))∧(i,t)∈ti
 |[],_,h=>by cases h
 |
  (j,t)::l,h,hi=>by
  simp only[qy,bj] at h
  simp only[mc,fG] at hi
  rcases hi with hi|hi
  ·have e:=bL hi;subst e
   refine⟨by simp_all,?_⟩
   grind [Ty.aB]
  ·obtain⟨h1,t',v,h2,h3⟩:=wv h.2 hi
   grind
def Xw(P:Program)(gl:Ctx)(y:Code)(Q:fM→St→Prop):fM→St→Prop
 | .normal,σ=>cI P gl y σ Q
 |_,_=>False
def Xx(gl:Ctx)(jl:List Code)(j:Nat)(H:List (Option aO)):fM→St→Prop
 | .normal,σ=>j=0∧∃σ' m,Wk gl σ σ'∧prune σ'.hp m=H
 | .ret,σ=>(j≠0∧jmp jl j=some .ret)∧∃σ' m,Wk gl σ σ'∧prune σ'.hp m=H
 | .exit i,σ=>(j≠0∧jmp jl j=some (.exit i))∧∃σ' m,Wk gl σ σ'∧prune σ'.hp m=H
 |_,_=>False
variable{C':Ctx}
theorem HW.ctx{C:Ctx}(h:HW C E w hp)(hg:C'.gl=C.gl)(hb:C'.B E.S w):HW C' E w hp:=
 ⟨h.cN,h.ee,h.dA,h.slt,⟨by rw[hg];exact h.gl.1,hb⟩,h.tV⟩
theorem Ext.add{gl:Ctx}{O':Nat→Prop}(h:Ext gl.md O E w O' E' w')(l:Nat):Ext gl.md (fun g=>O g∨g=l) E w (fun g=>O' g∨g=l) E' w' where
 os:=h.os
 tape:=h.tape
 output:=h.output
 size:=h.size
 kept:=fun g hg ho=>h.kept g hg (fun x=>ho (Or.inl x))
 sle:=h.sle
 mB:=fun g hg=>(h.mB g hg).imp id (fun x=>x.imp Or.inl id)
 own:=fun g hg=>by
  rcases hg with hg|hg
  ·exact(h.own g hg).imp Or.inl id
  grind
 I3:=h.I3
variable{ps:Array Tmp}{assign:Code}{body:Code}{H':List (Option aO)}
theorem Fy.O3{gl:Ctx}{a:Act}(hg:bQ gl σ E a w){B:(Nat→Prop)→World→Prop}{hB:∀{S S':Nat→Prop}{w w':World},(∀b,S b→w'.heap[b]? =w.heap[b]?)→(∀b,S b→S' b)→B S w→B S' w'}
 (hBu:∀S' w',B S' w'→(∀b,E.S b→S' b)∧(∀b,E.S b→w'.heap[b]? =w.heap[b]?)) {l D k0:Nat} {fn:FuncId}     {m:List (Nat×Nat)} {jl:List Code}
 (hti:∀b i,nU m b=some i→mc i ti=true∧E.g b=some (gs i)∧∀t,(i,t)∈ti→E.bt b=t)
 {args:List AV} {H:List (Option aO)} {j:Nat} (hps:ps.size=args.length) (hk:Nat.blt k0 16=true) (hkt:mc k0 ti=false) (h0:H[k0]? =some none) (h0':H'[k0]? =some none) (ht:qy H ti=true) (_ht':qy H' ti=true)
 (amn:cI P (gl.tZ l) assign ⟨tD (ps.toList.zip args) (Lq m σ.tm),H,[]⟩ (Xw P (gl.tZ l) body (Xx (gl.tZ l) jl j H'))):
 Fy P (gl.wB B hB) l args ((tie gs ti 0 H).set k0 (some (.lp ⟨l,gs,fy fn a.tmps ps assign body D jl⟩ 0))) (.ret (.val .bool (Nat.beq j 0))) ((tie gs ti 0 H').set k0 (some (.lp ⟨l,gs,fy fn a.tmps ps assign body D jl⟩ j))):=by
 intro E1 w1 vs hv hW
 have hk16:k0<16:=by simp_all
 have lenH:k0<(tie gs ti 0 H).length:=by grind [nJ]
 have lenH':k0<(tie gs ti 0 H').length:=by grind [nJ]
 have hlp:((tie gs ti 0 H).set k0 (some (.lp ⟨l,gs,fy fn a.tmps ps assign body D jl⟩ 0)))[k0]? =some (some (.lp ⟨l,gs,fy fn a.tmps ps assign body D jl⟩ 0)):=by
  grind
 obtain⟨hgl,hrec⟩:E1.g k0=some l∧w1.heap[l]? =some (.loop (fy fn a.tmps ps assign body D jl 0)):=hW.cN k0 _ hlp
 have at1:∀(i:Nat)(k:aO),H[i]? =some (some k)→i≠k0∧((tie gs ti 0 H).set k0 (some (.lp ⟨l,gs,fy fn a.tmps ps assign body D jl⟩ 0)))[i]? =some (some (mM gs ti i k)):=by
  intro i k hi
  have hne:i≠k0:=fun e=>by grind
  refine⟨hne,?_⟩
  rw[dq,aC (fun e=>hne e.symm)]
  simp_all[Aw]
 have hSl:¬E1.S l:=hW.jC k0 _ l hlp hgl
 have hW1:HW (gl.tZ l) E1 w1 H:=by
  refine⟨?_,?_,?_,hW.slt,⟨hW.gl.1,trivial⟩,fun i k g hi=>hW.tV i _ g (at1 i k hi).2⟩
  ·intro i k hi;exact(hW.cN i _ (at1 i k hi).2).Xv
  ·intro i i' k k' g hi hi' g1 g2;exact hW.ee i i' _ _ g (at1 i k hi).2 (at1 i' k' hi').2 g1 g2
  ·intro i k g hi g1;exact hW.dA i _ g (at1 i k hi).2 g1
 have hOl:¬bx H E1 l:=by
  rintro⟨i,k,hi,hgi⟩
  exact(at1 i k hi).1 (hW.ee i k0 _ _ l (at1 i k hi).2 hlp hgi (Or.inl hgl))
 have hgi:∀i,mc i ti=true→i<16∧E1.g i=some (gs i):=by
  intro i hi
  obtain⟨h1,t,v,h2,_⟩:=wv ht hi
  have:=hW.cN i _ (at1 i _ h2).2
  simp only[mM,hi,cj] at this
  exact⟨h1,this.1⟩
 obtain⟨b1,b2⟩:=hBu E1.S w1 hW.gl.2
 have hrnp:RnP m E w E1 w1:=by
  refine⟨?_,⟨b2,b1⟩⟩
  intro b i hbi
  obtain⟨c1,c2,c3⟩:=hti b i hbi
  obtain⟨_,t,v,h2,h3⟩:=wv ht c1
  have:=hW1.cN i _ h2
  exact⟨by grind,by rw[this.1,c3 t h3]⟩
 obtain⟨hl,_⟩:=hv.get
 have hframe:bQ (gl.tZ l) ⟨tD (ps.toList.zip args) (Lq m σ.tm),H,[]⟩ E1 {tmps:=(ps.zip vs.toArray).foldl (fun t (p,v)=>t.setIfInBounds p v) a.tmps,defers:=[]} w1:=by
  have hzip:(ps.zip vs.toArray).foldl (fun t (p,v)=>t.setIfInBounds p v) a.tmps=(ps.toList.zip vs).foldl (fun t(p:Nat×Value)=>t.setIfInBounds p.1 p.2) a.tmps:=by
   rw[←Array.foldl_toList]
   congr 1
   simp
  have:=Dc (ps:=ps.toList) (tm:=Lq m σ.tm) (tmps:=a.tmps) hv (by rw[HF];exact hg.len) (fun i x hx v hv'=>by
   rcases HG hx with e|⟨y,h1,h2⟩
   ·subst e;trivial
   ·exact RV.oF hrnp h2 (hg.tm i y h1 v hv'))
  rw[hzip]
  exact⟨this.1,this.2,hW1,trivial⟩
 refine⟨fn,_,assign,body,run_yield hrec (by simp[fy,←hl,hps]),roundIn_of_wpIn (F:=Fence.wide) trivial ?_⟩
 refine wpIn_mono (amn E1 _ w1 hframe) ?_
 rintro ex a2 w2 ⟨x,σ2,E2,q1,q2,q3,q4⟩
 cases ex with
 |
  normal=>
  cases x with
  |
   normal=>
   simp only[Exit.then]
   have hlt:l<w1.heap.size:=(Array.getElem?_eq_some_iff.1 hrec).1
   have hrec2:w2.heap[l]? =some (.loop (fy fn a.tmps ps assign body D jl 0)):=by rw[q4.kept l hlt hOl];grind
   have notO:∀{hp:List (Option aO)}{E':Env}{w':World},Ext gl.md (bx H E1) E1 w1 (bx hp E') E' w'→¬bx hp E' l∧¬E'.S l:=by
    intro hp E' w' hx
    constructor
    ·intro ho;rcases hx.own l ho with h|h<;>grind
    ·intro hs;rcases hx.mB l hs with h|h|h<;>grind
   obtain⟨n1,n2⟩:=notO q4
   refine⟨w2.putObj l (.loop {fy fn a.tmps ps assign body D jl 0 with state:=.busy}),run_beginRound hrec2 rfl,?_⟩
   have g2:=q3.frame (o:=.loop {fy fn a.tmps ps assign body D jl 0 with state:=.busy}) n2 n1
   refine wpIn_mono (q2 E2 a2 _ g2) ?_
   rintro ex a3 w3 ⟨x3,σ3,E3,r1,r2,r3,r4⟩
   have lt2:l<w2.heap.size:=(Array.getElem?_eq_some_iff.1 hrec2).1
   have hbusy:w3.heap[l]? =some (.loop {fy fn a.tmps ps assign body D jl 0 with state:=.busy}):=by
    rw[r4.kept l (by simpa using lt2) n1]
    exact World.putObj_heap_same lt2
   have fin:∀(jump:Option Code),jump=jmp jl j→(jump.isNone=Nat.beq j 0)→(∃σ' mm,Wk (gl.tZ l) σ3 σ'∧prune σ'.hp mm=H')→
    ∃v w',(Instr.endRound l jump).run P w3= .ok v w'∧∃E',Ao E' w' (.ret (.val .bool (Nat.beq j 0))) (.returned v)∧HW (gl.wB B hB) E' w' ((tie gs ti 0 H').set k0 (some (.lp ⟨l,gs,fy fn a.tmps ps assign body D jl⟩ j)))∧
     Ext gl.md (bx ((tie gs ti 0 H).set k0 (some (.lp ⟨l,gs,fy fn a.tmps ps assign body D jl⟩ 0))) E1) E1 w1 (bx ((tie gs ti 0 H').set k0 (some (.lp ⟨l,gs,fy fn a.tmps ps assign body D jl⟩ j))) E') E' w':=by
    rintro jump hj hjn ⟨σ4,mm,hwk,hpr⟩
    obtain⟨E4,g4,x4⟩:=hwk E3 a3 w3 r3
    have hlt3:l<w3.heap.size:=(Array.getElem?_eq_some_iff.1 hbusy).1
    have hnew:({({fy fn a.tmps ps assign body D jl 0 with state:=.busy}:Loop) with state:=if jump.isNone then .ready else .done,pending:=jump}:Loop)=fy fn a.tmps ps assign body D jl j:=by
     grind [fy]
    have hend:=run_endRound (P:=P) jump hbusy
    rw[hnew,hjn] at hend
    have X:=((((q4.add l).trans (Ext.put (o:=.loop {fy fn a.tmps ps assign body D jl 0 with state:=.busy}) (Or.inr rfl))).trans (r4.add l)).trans (x4.add l)).trans (Ext.put (o:=.loop (fy fn a.tmps ps assign body D jl j)) (Or.inr rfl))
    have w4:HW (gl.tZ l) E4 w3 H':=by rw[←hpr];exact g4.hw.prune mm
    have sub4:∀g,bx H' E4 g→bx σ4.hp E4 g:=by
     rintro g ⟨b,k,hb,hgb⟩
     rw[←hpr] at hb
     exact⟨b,k,jt hb,hgb⟩
    have n4:¬bx H' E4 l∧¬E4.S l:=by
     have hx:Ext gl.md (bx H E1) E1 w1 (bx σ2.hp E2) E2 w2:=q4
     obtain⟨m1,m2⟩:=notO hx
     have m3:¬bx σ3.hp E3 l∧¬E3.S l:=by
      constructor
      ·intro ho;rcases r4.own l ho with h|h
       ·grind
       ·simp at h;omega
      ·intro hs;rcases r4.mB l hs with h|h|h
       ·grind
       ·grind
       ·simp at h;omega
     constructor
     ·intro ho;rcases x4.own l (sub4 l ho) with h|h<;>grind
     ·intro hs;rcases x4.mB l hs with h|h|h<;>grind
    obtain⟨kp,wf⟩:=w4.frame (o:=.loop (fy fn a.tmps ps assign body D jl j)) n4.2 n4.1
    have gk0:E4.g k0=some l:=by rw[(X.I3 k0 hk16).1];exact hgl
    have at4:∀(i:Nat)(k:aO),((tie gs ti 0 H').set k0 (some (.lp ⟨l,gs,fy fn a.tmps ps assign body D jl⟩ j)))[i]? =some (some k)→(i=k0∧k= .lp ⟨l,gs,fy fn a.tmps ps assign body D jl⟩ j)∨(i≠k0∧∃k',H'[i]? =some (some k')∧k=mM gs ti i k'):=by
     intro i k hi
     rw[dq] at hi
     split at hi
     ·grind
     ·rename_i e
      obtain⟨k',h1,h2⟩:=iM hi
      grind
    have ne4:∀(i:Nat)(k:aO),H'[i]? =some (some k)→¬E4.has i l:=fun i k hi e=>n4.1 ⟨i,k,hi,e⟩
    obtain⟨E5,hE5⟩:∃E5:Env,E5={E4 with P:=fun b g=>b≠k0∧E4.P b g}:=⟨_,rfl⟩
    have e5g:∀b,E5.g b=E4.g b:=fun b=>by rw[hE5]
    have e5S:E5.S=E4.S:=by rw[hE5]
    have e5h:∀b g,E5.has b g→E4.has b g:=fun b g h=>h.imp (fun x=>by grind) (fun x=>by rw[hE5] at x;exact x.2)
    have e5k:∀g,E5.has k0 g→g=l:=fun g h=>by
     rcases h with h|h
     ·grind
     ·rw[hE5] at h;grind
    have kp5:∀w:World,bE E4 w E5 w:=fun w=>⟨fun _ _=>rfl,fun g hg=>by grind⟩
    refine⟨_,_,hend,E5,RV.bool,⟨?_,?_,?_,fun g hg=>wf.slt g (by grind),⟨fun x hx=>?_,?_⟩,?_⟩,?_⟩
    ·intro i k hi
     rcases at4 i k hi with⟨e1,e2⟩|⟨hne,k',h1,h2⟩
     ·subst e1;subst e2
      exact⟨by grind,World.putObj_heap_same hlt3⟩
     ·subst h2
      exact RB.mono (kp5 _) (fun b _=>by rw[hE5];grind) (fun _ _=>rfl) (fun _ g hg=>by rw[hE5];grind) ((wf.cN i k' h1).tie (fun hh=>by obtain⟨c1,c2⟩:=hgi i hh;rw[(X.I3 i c1).1];exact c2))
    ·intro i i' k k' g hi hi' j1 j2
     rcases at4 i k hi with⟨e1,e2⟩|⟨hne,k2,h1,h2⟩
     ·grind
     ·rcases at4 i' k' hi' with⟨e1',e2'⟩|⟨hne',k2',h1',h2'⟩
      ·grind
      ·exact wf.ee i i' k2 k2' g h1 h1' (e5h _ _ j1) (e5h _ _ j2)
    ·intro i k g hi g1
     rw[e5S]
     rcases at4 i k hi with⟨e1,e2⟩|⟨hne,k2,h1,h2⟩
     ·grind
     ·exact wf.dA i k2 g h1 (e5h _ _ g1)
    ·obtain⟨y1,y2⟩:=wf.gl.1 x hx
     grind
    ·refine hB ?_ (fun b hb=>by rw[e5S];exact X.sle b hb) hW.gl.2
     intro b hb
     refine X.kept b (hW.slt b hb) ?_
     rintro(⟨i,k,hi,hgi'⟩|e)
     ·exact hW.dA i _ b (at1 i k hi).2 hgi' hb
     grind
    ·intro i k g hi g1
     rcases at4 i k hi with⟨e1,e2⟩|⟨hne,k2,h1,h2⟩
     ·subst e1;grind
     ·exact wf.tV i k2 g h1 (by rw[hE5] at g1;grind)
    ·refine⟨X.os,X.tape,X.output,X.size,?_,fun g hg=>by rw[e5S];exact X.sle g hg,?_,?_,fun b hb=>by rw[hE5];exact X.I3 b hb⟩
     ·intro g hgl' ho
      refine X.kept g hgl' ?_
      rintro(⟨i,k,hi,hgi'⟩|e)
      ·exact ho ⟨i,_,(at1 i k hi).2,hgi'⟩
      ·subst e;exact ho ⟨k0,_,hlp,Or.inl hgl⟩
     ·intro g hs
      rw[e5S] at hs
      rcases X.mB g hs with h|h|h
      ·grind
      ·rcases h with⟨i,k,hi,hgi'⟩|e
       ·exact Or.inr (Or.inl ⟨i,_,(at1 i k hi).2,hgi'⟩)
       grind
      grind
     ·rintro g ⟨i,k,hi,hgi'⟩
      have:bx σ4.hp E4 g∨g=l:=by
       rcases at4 i k hi with⟨e1,e2⟩|⟨hne,k2,h1,h2⟩
       ·grind
       ·exact Or.inl (sub4 g ⟨i,k2,h1,e5h _ _ hgi'⟩)
      rcases X.own g this with h|h
      ·rcases h with⟨i,k,hi,hgi'⟩|e
       ·exact Or.inl ⟨i,_,(at1 i k hi).2,hgi'⟩
       ·subst e;exact Or.inl ⟨k0,_,hlp,Or.inl hgl⟩
      grind
   cases ex with
   |
    normal=>
    cases x3 with
    |normal=>obtain⟨e,hh⟩:=r2;subst e;exact fin none rfl rfl hh
    |_=>trivial
   |
    ret=>
    cases x3 with
    |
     ret=>
     obtain⟨⟨e,e2⟩,hh⟩:=r2
     exact fin (some .ret) e2.symm (by cases j with|zero=>grind|succ j=>rfl) hh
    |_=>trivial
   |
    exit i=>
    cases x3 with
    |
     exit i'=>
     have e0:i'=i:=r1
     subst e0
     obtain⟨⟨e,e2⟩,hh⟩:=r2
     exact fin (some (.exit i')) e2.symm (by cases j with|zero=>grind|succ j=>rfl) hh
    |_=>trivial
   |panic chain=>cases x3<;>first|trivial|trivial
   |goto t=>cases x3<;>exact r1.elim
   |outgrown=>cases x3<;>exact r1.elim
  |_=>trivial
 |ret=>cases x<;>first|trivial|trivial
 |exit i=>cases x<;>first|trivial|trivial
 |panic chain=>cases x<;>first|trivial|trivial
 |goto t=>cases x<;>exact q1.elim
 |outgrown=>cases x<;>exact q1.elim
def EY(P:Program)(gl:Ctx)(tm:List AV)(ps:Array Tmp)(assign body:Code)(k0:Nat)(ti:List (Nat×Ty))(m:List (Nat×Nat))(jl:List Code)(C:Ctx)(y:YC):Prop:=
 ∀(args:List AV)(H H':List (Option aO))(j:Nat),ps.size=args.length→H[k0]? =some none→H'[k0]? =some none→qy H ti=true→qy H' ti=true→
  cI P (gl.tZ y.l) assign ⟨tD (ps.toList.zip args) (Lq m tm),H,[]⟩ (Xw P (gl.tZ y.l) body (Xx (gl.tZ y.l) jl j H'))→
  Fy P C y.l args ((tie y.gs ti 0 H).set k0 (some (.lp y 0))) (.ret (.val .bool (Nat.beq j 0))) ((tie y.gs ti 0 H').set k0 (some (.lp y j)))
def gsC(gs:Nat→Nat)(m:List (Nat×Nat))(b:Nat):Nat:=match nU m b with|some i=>gs i|none=>0
def Xy:List (Nat×Nat)→List (Nat×Ty)
 |[]=>[]
 |(b,_)::l=>(b,.unit)::Xy l
theorem Dd{b:Nat}:∀{m:List (Nat×Nat)},mc b (Xy m)=true→∃i,nU m b=some i
 |[],h=>by cases h
 |
  (c,i)::l,h=>by
  simp only[Xy,mc,fG] at h
  unfold nU
  split
  ·grind
  ·rename_i hn
   rcases h with h|h
   ·exact absurd (by rw[bL h];exact Nat.beq_refl c) hn
   ·exact Dd h
def Xz(hp:List (Option aO))(ti:List (Nat×Ty)):List (Nat×Nat)→Bool
 |[]=>true
 |(b,i)::l=>(match hp[b]? with|some (some (.var t _))=>mc i ti&&(ti.all fun x=> !Nat.beq x.1 i||Ty.same x.2 t)|_=>false)&&Xz hp ti l
theorem Lr:∀{m:List (Nat×Nat)},Xz hp ti m=true→∀b i,(b,i)∈m→mc i ti=true∧∃t v,hp[b]? =some (some (.var t v))∧∀t',(i,t')∈ti→t'=t
 |[],_,b,i,h=>by cases h
 |
  (c,k)::l,hm,b,i,h=>by
  simp only[Xz,bj] at hm
  rcases List.mem_cons.1 h with e|h
  ·cases e
   have h1:=hm.1
   split at h1
   ·rename_i t v hv
    simp only[bj,jX] at h1
    refine⟨h1.1,t,v,hv,fun t' ht'=>?_⟩
    have:=h1.2 _ ht'
    simp at this
    exact Ty.aB this
   grind
  ·exact Lr hm.2 b i h
def Ls:List (Option aO)→List (Option aO)
 |[]=>[]
 |some (.tv _ t v)::l=>some (.var t v)::Ls l
 |x::l=>x::Ls l
theorem j0:∀{l:List (Option aO)}{i:Nat}{k:aO},(Ls l)[i]? =some (some k)→∃k',l[i]? =some (some k')∧(k'=k∨∃g t v,k'= .tv g t v∧k= .var t v)
 |[],i,k,h=>by trivial
 |
  x::l,0,k,h=>by
  unfold Ls at h
  grind
 |
  x::l,i+1,k,h=>by
  unfold Ls at h
  split at h
  ·cases(by assumption:_=_)
  ·rename_i heq;cases heq;simpa using j0 (by simpa using h)
  ·rename_i heq;cases heq;simpa using j0 (by simpa using h)
theorem bQ.Ls{gl:Ctx}{a:Act}(h:bQ gl σ E a w):bQ gl {σ with hp:=Ax.Ls σ.hp} E a w∧Ext gl.md (bx σ.hp E) E w (bx (Ax.Ls σ.hp) E) E w:=by
 refine⟨⟨h.len,h.tm,⟨?_,?_,?_,h.hw.slt,h.hw.gl,?_⟩,h.df⟩,{Ext.refl (bx σ.hp E) E w with own:=?_ }⟩
 ·intro b k hb
  obtain⟨k',h1,h2⟩:=j0 hb
  have:=h.hw.cN b k' h1
  rcases h2 with e|⟨g,t,v,e1,e2⟩
  ·grind
  ·subst e1;subst e2
   obtain⟨q0,q1,q2,c,e,q4,q5⟩:=this
   exact⟨q1,q2,g,c,e,q0,q4,q5⟩
 ·intro b b' k k' g hb hb' g1 g2
  obtain⟨k1,h1,_⟩:=j0 hb
  obtain⟨k2,h2,_⟩:=j0 hb'
  exact h.hw.ee b b' k1 k2 g h1 h2 g1 g2
 ·intro b k g hb g1
  obtain⟨k1,h1,_⟩:=j0 hb
  exact h.hw.dA b k1 g h1 g1
 ·intro b k g hb g1
  obtain⟨k1,h1,_⟩:=j0 hb
  exact h.hw.tV b k1 g h1 g1
 ·rintro g ⟨b,k,hb,g1⟩
  obtain⟨k1,h1,_⟩:=j0 hb
  exact Or.inl ⟨b,k1,h1,g1⟩
theorem bQ.tie{gl:Ctx}{a:Act}(h:bQ gl σ E a w)(hg:∀b,mc b ti=true→E.g b=some (gs b)):bQ gl {σ with hp:=Ax.tie gs ti 0 σ.hp} E a w∧Ext gl.md (bx σ.hp E) E w (bx (Ax.tie gs ti 0 σ.hp) E) E w:=by
 refine⟨⟨h.len,h.tm,⟨?_,?_,?_,h.hw.slt,h.hw.gl,?_⟩,h.df⟩,{Ext.refl (bx σ.hp E) E w with own:=?_ }⟩
 ·intro b k hb
  obtain⟨k',h1,h2⟩:=iM hb
  rw[eK] at h2
  subst h2
  exact(h.hw.cN b k' h1).tie (hg b)
 ·intro b b' k k' g hb hb' g1 g2
  obtain⟨k1,h1,_⟩:=iM hb
  obtain⟨k2,h2,_⟩:=iM hb'
  exact h.hw.ee b b' k1 k2 g h1 h2 g1 g2
 ·intro b k g hb g1
  obtain⟨k1,h1,_⟩:=iM hb
  exact h.hw.dA b k1 g h1 g1
 ·intro b k g hb g1
  obtain⟨k1,h1,_⟩:=iM hb
  exact h.hw.tV b k1 g h1 g1
 ·rintro g ⟨b,k,hb,g1⟩
  obtain⟨k1,h1,_⟩:=iM hb
  exact Or.inl ⟨b,k1,h1,g1⟩
theorem EZ{d e:Nat}{k:aO}(hk:k.ids= [])(h:σ.fresh d)(hne:d≠e):({σ with hp:=σ.hp.set e (some k)}:St).fresh d:=by
 have h1:=la.1 h.1
 refine⟨la.2 ⟨h1.1,h1.2.1,?_⟩,?_,h.2.2⟩
 ·grind
 ·intro k' hi
  rw[dq,aC (fun x=>hne x.symm)] at hi
  exact h.2.1 k' hi
def sf(y:YC)(m:List (Nat×Nat))(dI lI:Nat)(hp:List (Option aO)):List (Option aO):=tie (gsC y.gs m) (Xy m) 0 ((hp.set dI (some .uy)).set lI (some (.lp y 0)))
structure acX(σ:St)(y:YC)(m:List (Nat×Nat))(dI lI j:Nat)(cs:AV)(cr:CR)(L:List AV)(ins:List (Nat×Option aO))(hpF:List (Option aO)):Prop where
 hr:cr.r= .fP .nil
 hL:l6 (swp cr.al) (eC (sf y m dI lI σ.hp)) (((.func (.yield y.l) .nil .nil,Ty.unit))::cs.toList.map (fun x=>(x,Ty.unit)))=some (L,[])
 jU:i6 (swp cr.al) (eC (sf y m dI lI σ.hp)) cr.ps=some ins
 gy:A1 cr []=true
 hns:((cr.ns.map (·.2)).all (fun b=>({σ with hp:=sf y m dI lI σ.hp,df:=.mp dI::σ.df}:St).fu b))=true
 hF1:(aS (sf y m dI lI σ.hp) (mf (cr.al++cr.ns) cr.out (cr.ps++cr.ns)))[lI]? =some (some (.lp y j))
 hF2:Ls ((aS (sf y m dI lI σ.hp) (mf (cr.al++cr.ns) cr.out (cr.ps++cr.ns))).set lI none)=hpF
theorem cI.rangeFunc{gl:Ctx}{g:Operand}(hro:gl.ro=none){gf:FuncId}{cs:AV}(hg:bD gl σ.tm g= .func (.func gf) .nil cs)
 (dI lI k0:Nat) (hd:σ.fu dI=true) (hl:σ.fu lI=true) (hne:Nat.beq dI lI=false) (hk:Nat.blt k0 16=true)
 (ti:List (Nat×Ty)) (m:List (Nat×Nat)) (hkt:mc k0 ti=false) (hm:Xz σ.hp ti m=true) (hmn:ko (m.map (·.2))=true) (jl:List Code) (hcs:cs.atoms=true)
 (hy:∀y:YC,∃j cr L ins hpF,acX σ y m dI lI j cs cr L ins hpF∧
  (∀B hB,EY P gl σ.tm ps assign body k0 ti m jl (gl.wB B hB) y→Fc P (gl.wB B hB) gf L (aS (List.replicate cr.m none) ins) (.ret (.fP .nil)) (cX cr.m cr.out))∧
  (match jmp jl j with|none=>Q .normal ⟨σ.tm,hpF,.mp dI::σ.df⟩|some c=>cI P gl c ⟨σ.tm,hpF,.mp dI::σ.df⟩ Q)):cI P gl (.rangeFunc g ps assign body) σ Q:=by
 intro E a w hG
 refine wpIn_rangeFunc ?_
 intro fn _
 have hfd:=St.dP hd
 have hfl:=St.dP hl
 have hnd:lI≠dI:=fun e=>by simp_all
 obtain⟨rec,hrec⟩:∃rec:Nat→Loop,rec=fy fn a.tmps ps assign body w.heap.size jl:=⟨_,rfl⟩
 have hrec0:rec 0={state:=.ready,pending:=none,fn:=fn,tmps:=a.tmps,params:=ps,assign:=assign,body:=body,defers:=w.heap.size}:=by rw[hrec];rfl
 obtain⟨gs,hgs⟩:∃gs:Nat→Nat,gs=fun i=>match nU (swp m) i with|some b=>(E.g b).getD 0|none=>0:=⟨_,rfl⟩
 obtain⟨j,cr,L,ins,hpF,⟨hr,hL,jU,gy,hns,hF1,hF2⟩,hit,hq⟩:=hy ⟨w.heap.size+1,gs,rec⟩
 obtain⟨g1,x1⟩:=hG.fresh (w':=w.alloc (.deferred (some []))) hfd (g:=some w.heap.size) (sv:=undef) (t:=.unit) (k:=.uy) rfl (Tp.r rfl rfl) rfl (by simp) (fun i hi=>heap_alloc_old w _ hi) (fun i hi=>by grind)
  ⟨w.heap.size,by simp[Env.at],heap_alloc_new w _⟩
 have hs1:(w.alloc (.deferred (some []))).heap.size=w.heap.size+1:=by simp
 obtain⟨g2,x2⟩:=g1.fresh (w':=(w.alloc (.deferred (some []))).alloc (.loop (rec 0))) (d:=lI) (EZ rfl hfl hnd) (g:=some (w.heap.size+1)) (sv:=undef) (t:=.unit) (k:=.lp ⟨w.heap.size+1,gs,rec⟩ 0) rfl (Tp.r rfl rfl) rfl (by simp) (fun i hi=>heap_alloc_old _ _ hi) (fun i hi=>by grind)
  ⟨by simp[Env.at],by have:=heap_alloc_new (w.alloc (.deferred (some []))) (.loop (rec 0));grind⟩
 generalize hw2:(w.alloc (.deferred (some []))).alloc (.loop (rec 0))=w2 at g2 x2
 generalize hE2:(E.at dI (some w.heap.size) undef .unit).at lI (some (w.heap.size+1)) undef .unit=E2 at g2 x2
 have hE2g:∀b,b≠dI→b≠lI→E2.g b=E.g b:=fun b h1 h2=>by rw[←hE2];simp[Env.at,h1,h2]
 have hE2d:E2.g dI=some w.heap.size:=by rw[←hE2];simp[Env.at,Ne.symm hnd]
 have hE2S:E2.S=E.S:=by rw[←hE2];rfl
 have x12:=x1.trans x2
 have hmu:∀b i,nU m b=some i→mc i ti=true∧E.g b=some (gs i)∧(∀t,(i,t)∈ti→E.bt b=t)∧b≠dI∧b≠lI:=by
  intro b i hbi
  have hmem:=qS hbi
  obtain⟨h1,t,v,h2,h3⟩:=Lr hm b i hmem
  obtain⟨r1,r2,gg,c,e,r3,_⟩:=hG.hw.cN b _ h2
  have hlk:nU (swp m) i=some b:=eI (by grind [fT,swp,Function.comp_def]) (j7.2 hmem)
  refine⟨h1,by grind,fun t' ht'=>by grind,fun e=>?_,fun e=>?_⟩
  ·subst e;exact hfd.2.1 _ h2
  ·subst e;exact hfl.2.1 _ h2
 obtain⟨g3,x3⟩:=g2.tie (gs:=gsC gs m) (ti:=Xy m) (by
  grind [Dd,gsC])
 have g4:bQ gl ⟨σ.tm,sf ⟨w.heap.size+1,gs,rec⟩ m dI lI σ.hp,.mp dI::σ.df⟩ E2 {a with defers:={target:=.collected w.heap.size,args:= #[]}::a.defers} w2:=
  ⟨g3.len,g3.tm,g3.hw,⟨⟨w.heap.size,hE2d,rfl⟩,g3.df⟩⟩
 have hv0:=gi g4 g
 simp only at hv0
 rw[hg] at hv0
 obtain⟨f',c',hev,r1,r2,_,_⟩:=RV.atom rfl hv0
 simp at hev
 have hf':f'= #[]:=by apply lQ;exact r1
 subst hf'
 have hav:a.eval g= .func (.func gf) #[] c':=by trivial
 obtain⟨B,hBd⟩:∃B:(Nat→Prop)→World→Prop,B=fun S' w'=>(∀b,E.S b→S' b)∧(∀b,E.S b→w'.heap[b]? =w.heap[b]?):=⟨_,rfl⟩
 have hB:∀{S S':Nat→Prop}{w w':World},(∀b,S b→w'.heap[b]? =w.heap[b]?)→(∀b,S b→S' b)→B S w→B S' w':=by
  simp_all
 have hof:EY P gl σ.tm ps assign body k0 ti m jl (gl.wB B hB) ⟨w.heap.size+1,gs,rec⟩:=by
  intro args H H' j' h1 h2 h3 h4 h5 h6
  rw[hrec]
  exact Fy.O3 hG (fun S' w' h=>by grind) (fun b i hbi=>⟨(hmu b i hbi).1,(hmu b i hbi).2.1,(hmu b i hbi).2.2.1⟩) h1 hk hkt h2 h3 h4 h5 h6
 obtain⟨amu,hfn⟩:=hit B hB hof
 have hbb:=bR (sf ⟨w.heap.size+1,gs,rec⟩ m dI lI σ.hp)
 obtain⟨hφ,hwi⟩:=uL (lent:=[]) g4 hbb (fun b hb=>by cases hb) (jU) (gy)
 have hargs:lb E2 w2 ((((.func (.yield (w.heap.size+1)) .nil .nil,Ty.unit))::cs.toList.map (fun x=>(x,Ty.unit))).map (·.1)) (Value.func (.yield (w.heap.size+1)) #[] #[]::c'.toList):=by
  refine⟨RV.eQ (Or.inr ⟨rfl, #[], #[],rfl,rfl,rfl,rfl,rfl⟩),?_⟩
  have:=lb.atoms hcs r2
  have e1:∀l:List AV,(l.map (fun x=>(x,Ty.unit))).map (fun x:AV×Ty=>x.1)=l:=by intro l;induction l<;>simp_all
  grind
 have hv:=ng g4.hw hbb hφ (hL) (fun g hg=>hg) hargs
 have hSe:(E2.cG []).S=fun g=>E.S g∨∃b∈([]:List Nat),E2.g b=some g:=by simp only[Env.cG,hE2S]
 have hwB:HW (gl.wB B hB) (E2.to cr.al (E2.cG []).S) w2 (aS (List.replicate cr.m none) (ins)):=by
  refine hwi.ctx rfl ?_
  show B _ w2
  rw[hBd]
  refine⟨fun b hb=>by show(E2.cG []).S b;grind,fun b hb=>?_⟩
  exact x12.kept b (hG.hw.slt b hb) (fun⟨c,k,hc,hgc⟩=>hG.hw.dA c k b hc hgc hb)
 have hcalls:=hfn _ w2 _ hv hwB
 refine⟨w.heap.size+1,[{target:=.collected w.heap.size,args:= #[]}],w2,{target:=.fn (.func gf) c',args:= #[.func (.yield (w.heap.size+1)) #[] #[]]},w2,gf, #[.func (.yield (w.heap.size+1)) #[] #[]]++c',w2,?_,?_,fun _ _=>trivial,?_,fun h=>(by cases h),?_⟩
 ·simp_all[run_enterLoop_outer]
 ·simp only[resolve,hav]
  simp[go_sem]
 ·simp[invoke,amu]
 ·have e0:(Value.func (.yield (w.heap.size+1)) #[] #[]::c'.toList).toArray= #[.func (.yield (w.heap.size+1)) #[] #[]]++c':=by simp_all
  rw[e0] at hcalls
  have h1:CallsIn Fence.wide 0 P gf _ w2 _:=callsIn_wide.2 hcalls
  refine CallsIn.mono (F:=Wd gl) h1 ?_
  rintro ed w3 ⟨E',hR,hW',hX⟩
  cases ed with
  |panicked ch=>trivial
  |outgrown=>trivial
  |
   returned v=>
   have hWg:HW gl E' w3 (cX cr.m cr.out):=by
    refine hW'.ctx rfl ?_
    have hbs:B E'.S w3:=hW'.gl.2
    rw[hBd] at hbs
    exact gl.mono hbs.2 hbs.1 hG.hw.gl.2
   have hfr:∀b∈cr.ns.map (·.2),(⟨σ.tm,sf ⟨w.heap.size+1,gs,rec⟩ m dI lI σ.hp,.mp dI::σ.df⟩:St).fresh b:=by
    grind [St.dP]
   have hrr:=hr
   obtain⟨E3,k1,_,k3⟩:=kU (lent:=[]) g4 hbb (fun b hb=>by cases hb) (jU) (gy) hfr hWg hX (r':=.fP .nil) (by rw[hrr];rfl) (v:=v) (by rw[hrr];exact hR)
   have f1:=hF1;have f2:=hF2
   obtain⟨q1,q2⟩:=k1.hw.cN lI _ f1
   obtain⟨k4,x4⟩:=k1.shut f1 q1 (.loop {rec j with state:=.exhausted})
   obtain⟨k5,x5⟩:=k4.Ls
   simp only[f2] at k5 x5
   have hst:(rec j).state≠.busy:=by rw[hrec];simp only[fy];grind
   refine⟨(rec j).pending,_,run_endLoop q2 hst,?_⟩
   have hpe:(rec j).pending=jmp jl j:=by rw[hrec];rfl
   have X:=(((x12.trans x3).trans k3).trans x4).trans x5
   generalize hwF:w3.putObj (w.heap.size+1) (.loop {rec j with state:=.exhausted})=wF at k5 X
   generalize (rec j).pending=pe at hpe
   subst hpe
   revert hq
   cases jmp jl j with
   |
    none=>
    intro hq
    exact⟨.normal,_,E3,trivial,hq,k5,X⟩
   |
    some c=>
    intro hq
    refine wpIn_mono (hq E3 _ _ k5) ?_
    rintro ex a5 w5 ⟨x,σ5,E5,z1,z2,z3,z4⟩
    exact⟨x,σ5,E5,z1,z2,z3,X.trans z4⟩
theorem Fc.up{C:Ctx}{f:FuncId}{A:List AV}{H:List (Option aO)}{r:xN}(hg:C'.gl=C.gl)(hC:∀S w,C.B S w)(h:Fc P C f A H r H')(hm:C'.md=C.md:=by rfl):Fc P C' f A H r H':=by
 refine⟨h.1,fun E w vs hv hw=>?_⟩
 have:=h.2 E w vs hv (hw.ctx hg.symm (hC _ _))
 intro cs
 obtain⟨e,w',fr,⟨E',r1,r2,r3⟩,rest⟩:=this cs
 rw[←hm] at r3
 exact⟨e,w',fr,⟨E',r1,r2.ctx hg (hw.gB (hw.kept r3)).2,r3⟩,rest⟩
end Go.Ax
noncomputable section
namespace Go.Ax
def y0:YC:=⟨0,fun n=>n,fun _=>default⟩
inductive CF(D T:Type) where
 |br (f:D→Option T)
 |kr (s:Sh) (f:D→Option (Sum (prod (s.H [])) T))
def fc{A B R:Type}(x:Option (Sum A B))(kp:A→Option R)(k:B→Option R):Option R:=
 Option.bind x fun r=>match r with
  | .inl a=>kp a
  | .inr b=>k b
theorem Jb{A B R:Type}{x:Option (Sum A B)}{kp:A→Option R}{k:B→Option R}{r:R}(h:fc x kp k=some r):(∃a,x=some (.inl a)∧kp a=some r)∨∃b,x=some (.inr b)∧k b=some r:=by
 unfold fc at h
 cases x<;>grind
def CF.run{D T R:Type}:CF D T→D→(T→Option R)→(AV→Option R)→Option R
 | .br f,d,K,_=>Option.bind (f d) fun r=>K r
 | .kr s f,d,K,KP=>fc (f d) (fun p=>KP (s.V y0 p)) fun r=>K r
def CF.XA{D T:Type}:CF D T→D→T→Prop
 | .br f,d,r=>f d=some r
 | .kr _ f,d,r=>f d=some (.inr r)
def CF.XB{D T:Type}:CF D T→D→AV→Prop
 | .br _,_,_=>False
 | .kr s f,d,x=>∃p,f d=some (.inl p)∧x=s.V y0 p
theorem CF.De{D T R:Type}{c:CF D T}{d:D}{K:T→Option R}{KP:AV→Option R}{r:R}(h:c.run d K KP=some r):(∃y,c.XA d y∧K y=some r)∨∃x,c.XB d x∧KP x=some r:=by
 cases c with
 |br f=>obtain⟨y,h1,h2⟩:=bind_some h;exact Or.inl ⟨y,h1,h2⟩
 |
  kr s f=>
  rcases Jb h with⟨p,h1,h2⟩|⟨y,h1,h2⟩
  ·exact Or.inr ⟨_,⟨p,h1,rfl⟩,h2⟩
  ·exact Or.inl ⟨y,h1,h2⟩
structure aZ where
 fn:Fn
 A:List Sh
 B:List (Nat×db)
 m:Nat
 F:SS
 res:F.T→AV
 out:F.T→List (Nat×aO)
 f:CF (prod (tx A (iu B []))) F.T
abbrev aZ.D(C:aZ):Type:=prod (tx C.A (iu C.B []))
def aZ.args(C:aZ)(d:C.D):List AV:=xG y0 C.A d
def aZ.ins(C:aZ)(d:C.D):List (Nat×Option aO):=dc (oE y0 C.B (As C.A d))
structure aZ.holds(P:Program)(gl:Ctx)(C:aZ):Prop where
 ret:∀d r,C.f.XA d r→K9 P gl C.fn (C.args d) (aS (List.replicate C.m none) (C.ins d)) (.ret (C.res r)) (cX C.m (C.out r))
 kr:∀d x,C.f.XB d x→K9 P gl C.fn (C.args d) (aS (List.replicate C.m none) (C.ins d)) (.kr x) (cX C.m [])
def O4:(m:List (Nat×db))→{l:List Type}→List (Nat×Option aO)→prod l→Option (prod (iu m l))
 |[],_,[],d=>some d
 |
  (i,s)::m,_,(j,some k)::hp,d=>if Nat.beq i j then(match O4 m hp d with
  |some e=>s.G k e
  |none=>none) else none
 |_,_,_,_=>none
theorem Ay(y:YC):∀{m:List (Nat×db)}{l:List Type}{hp:List (Nat×Option aO)}{d:prod l}{e:prod (iu m l)},O4 m hp d=some e→dc (oE y m e)=hp∧Ws m e=d
 |
  [],l,hp,d,e,h=>by
  cases hp with
  |nil=>cases h;trivial
  |cons _ _=>trivial
 |
  (i,s)::m,l,hp,d,e,h=>by
  match hp,h with
  |[],h=>trivial
  |(j,none)::hp,h=>trivial
  |
   (j,some k)::hp,h=>
   obtain⟨hs,h0⟩:=bJ h
   have:=bL hs;subst this
   split at h0
   ·rename_i e' he
    obtain⟨h1,h2⟩:=Ay y he
    obtain⟨g1,g2⟩:=db.xO y h0
    exact⟨by simp only[oE,dc];rw[g1,g2,h1],by simp only[Ws];rw[g2,h2]⟩
   grind
def aZ.get(C:aZ)(L:List AV)(I:List (Nat×Option aO)):Option C.D:=
 match O4 C.B (l:=[]) I () with
 |some d=>TS C.A L d
 |none=>none
variable{L:List AV}{I:List (Nat×Option aO)}
theorem aZ.gA{C:aZ}{d:C.D}(h:C.get L I=some d):C.args d=L∧C.ins d=I:=by
 unfold aZ.get at h
 split at h
 ·rename_i d1 h1
  obtain⟨a1,a2⟩:=Ay y0 h1
  obtain⟨b1,b2⟩:=Au y0 h
  exact⟨b1,by unfold aZ.ins;grind⟩
 grind
structure CH where
 Wt:List Nat
 ps:List (Nat×Nat)
 ns:List (Nat×Nat)
 ks:List (Nat×Nat):=[]
 us:List Nat:=[]
def CH.al(ch:CH):List (Nat×Nat):=match ch.ks with
 |[]=>ch.ps
 |k::ks=>ch.ps++k::ks
inductive KS where
 |t (s:Nat)
 |c (s:Nat) (p:Path)
 |two (a b:KS)
def KS.get(σ:St):KS→Option AV
 | .t s=>σ.tm[s]?
 |
  .two a b=>match KS.get σ a,KS.get σ b with
  |some (.val ty x),some (.val tz y)=>some (.val (.pair ty (.pair tz .unit)) (x,y,()))
  |_,_=>none
 |
  .c s p=>match σ.tm[s]? with
  |
   some (.ptr b q)=>match eC σ.hp b with
   |some (.var _ v)=>v.get (q++p)
   |_=>none
  |_=>none
inductive PF where
 |row (b d:Nat) (k:KS)
 |map (mode b d:Nat) (k:KS)
 |eN (b:Nat)
 |XC (b:Nat) (k:KS)
 |Wu (b:Nat)
structure RH where
 pre:List Gh
 zs:List (Nat×Nat×Ty)
 cs:List CH
 mg:Option (List (Nat×Ty)):=none
 foc:List (Nat×Nat):=[]
 pf:List PF:=[]
 post:List Gh:=[]
structure LH where
 S:SS
 fuel:S.T→Nat
structure O5 where
 ic:Nat
 dI:Nat
 lI:Nat
 ti:List (Nat×Ty)
 m:List (Nat×Nat)
 jl:List Code
 ps:List (Nat×Nat)
 ns:List (Nat×Nat)
 S:SS
 E:SS
structure Hs where
 reg:List (Nat×RH)
 join:List (Nat×SS)
 cN:List (Nat×SS)
 loop:List (Nat×LH)
 unr:List (Nat×Nat)
 Cp:List (Nat×O5):=[]
def ifs{R:Type}:List VC→Option R→Option R
 |[],x=>x
 |v::l,x=>@ite _ v.p v.d (ifs l x) none
theorem fe{R:Type}{r:R}:∀{l:List VC}{x:Option R},ifs l x=some r→dC l∧x=some r
 |[],x,h=>⟨trivial,h⟩
 |
  v::l,x,h=>by
  unfold ifs at h
  by_cases hp:v.p
  ·rw[@if_pos _ v.d hp] at h
   obtain⟨h1,h2⟩:=fe h
   trivial
  grind
def qz(G:bM)(al ps:List (Nat×Nat))(ev:Operand→AV)(hb:Nat→Option aO)(c:Call):Option (Fn×List AV×List (Nat×Option aO)):=
 match c.callee with
 |
  .value cf=>match MA (ev cf) with
  |
   some (fn,fl,cl)=>
   match l6 (swp al) hb (fl.map (fun x=>(x,Ty.unit))++(c.args.toList.zip c.argTypes.toList).map (tL G ev)++cl.map (fun x=>(x,Ty.unit))),i6 (swp al) hb ps with
   |some (L,_),some ins=>some (fn,L,ins)
   |_,_=>none
  |_=>none
 |
  .invoke rv name=>match H6 G hb name (ev rv) with
  |
   some (f,x,xt)=>
   match l6 (swp al) hb ((x,xt)::(c.args.toList.zip c.argTypes.toList).map (tL G ev)),i6 (swp al) hb ps with
   |some (L,_),some ins=>some (.func f,L,ins)
   |_,_=>none
  |_=>none
 |_=>none
def Jc(P:Program)(gl:Ctx)(cr:CR)(x:Option (Fn×List AV×List (Nat×Option aO))):Prop:=
 ∀fn L ins,x=some (fn,L,ins)→K9 P gl fn L (aS (List.replicate cr.m none) ins) cr.fin (cX cr.m cr.out)
variable{P:Program}{cr:CR}{ob:List Prop}{ev:Operand→AV}{hb:Nat→Option aO}
theorem wz{G:bM}{gl:Ctx}{c:Call}{e:fA}(h:pz P G gl cr ev hb c=some (e,ob))(hob:Jc P gl cr (qz G cr.al cr.ps ev hb c)):∀p∈ob,p:=by
 unfold pz at h
 split at h
 ·rename_i cf hcf
  split at h
  ·rename_i fn fl cl hfv
   split at h
   ·rename_i L lent ins r' hL jU hr'
    split at h
    ·cases h
     intro p hp
     simp only[mo] at hp
     subst hp
     refine hob fn L ins ?_
     grind [qz]
    grind
   grind
  grind
 ·rename_i rv name hcf
  split at h
  ·rename_i f x xt hfv
   split at h
   ·rename_i L lent ins r' hL jU hr'
    split at h
    ·cases h
     intro p hp
     simp only[mo] at hp
     subst hp
     refine hob (.func f) L ins ?_
     grind [qz]
    grind
   grind
  grind
 grind
def wC(G:bM)(gl:Ctx)(ops:Array Oper)(al ps:List (Nat×Nat))(us:List Nat)(z:List (Nat×Ty))(σ:St)(i:Nat):Option (Fn×List AV×List (Nat×Option aO)):=
 match ops[i]? with
 |none=>none
 |
  some o=>match o.op with
  |
   .call c=>match z with
   |[]=>qz G al ps (bD gl σ.tm) (gn (tp o.op (bD gl σ.tm)++(ps.map (·.2)++us)) σ.hp) c
   |z=>qz G al ps (Jq (gn (me (bD gl σ.tm) z) σ.hp) z (bD gl σ.tm)) (gn (tp o.op (Jq (gn (me (bD gl σ.tm) z) σ.hp) z (bD gl σ.tm))++(ps.map (·.2)++us)) (aS σ.hp (eH (kO (gn (me (bD gl σ.tm) z) σ.hp) (bD gl σ.tm) z)))) c
  |_=>none
theorem Df{G:bM}{gl:Ctx}{d:Nat}{op:Op}{e:fA}(h:oH P G gl d cr op ev hb=some (e,ob)):
 ob= []∨∃c e',op= .call c∧lr op=true∧pz P G gl cr ev hb c=some (e',ob):=by
 unfold oH at h
 split at h
 ·rename_i c
  split at h
  ·simp only[gP,il] at h
   grind
  ·rename_i hb
   simp only[sY] at h
   obtain⟨⟨e',ob'⟩,h,hk⟩:=h
   have:=Ph hk
   simp only at this
   subst this
   refine Or.inr ⟨c,e',rfl,?_,h⟩
   obtain⟨callee,args,tys⟩:=c
   cases callee with
   |builtin b=>grind
   |value _=>rfl
   |invoke _ _=>rfl
 ·simp only[gP,il] at h
  grind
variable{σ:St}{ops:Array Oper}
theorem kL{G:bM}{gl:Ctx}{z:List (Nat×Ty)}{i:Nat}{f:aW}{vc:List VC}(h:eB P G gl ops cr z σ i=some (f,vc,ob))(hob:wS ops i=true→Jc P gl cr (wC G gl ops cr.al cr.ps cr.us z σ i)):∀p∈ob,p:=by
 unfold eB at h
 split at h
 ·cases h
 ·rename_i o ho
  have hat:wS ops i=lr o.op:=by unfold wS;rw[ho]
  split at h
  ·cases h
  ·grind
  ·split at h
   ·split at h
    ·cases h
    ·rename_i e ob' he
     cases h
     rcases Df he with rfl|⟨c,e',hop,hc,he'⟩
     ·grind
     grind [wz,wC,CR.pb]
   ·rename_i hz
    split at h
    ·cases h
    ·rename_i e ob' he
     cases h
     rcases Df he with rfl|⟨c,e',hop,hc,he'⟩
     ·grind
     ·refine wz he' ?_
      simp_all[wC,CR.pb]
def fnK{R:Type}:Fn→Fn→Option R→Option R→Option R
 | .func f,.func g,K,E=>if Nat.beq f g then K else E
 | .yield l,.yield l',K,_=>ifs [vc (l=l')] K
 |_,_,_,E=>E
theorem Dg{R:Type}{f g:Fn}{K E:Option R}{r:R}(h:fnK f g K E=some r):(f=g∧K=some r)∨E=some r:=by
 cases f with
 |
  func f=>
  cases g with
  |
   func g=>
   grind [fnK,bL]
  |_=>exact Or.inr h
 |
  yield l=>
  cases g with
  |
   yield l'=>
   obtain⟨h1,h2⟩:=fe h
   exact Or.inl ⟨by rw[h1.1],h2⟩
  |_=>exact Or.inr h
 |_=>exact Or.inr h
noncomputable def Dh(a b:aO){R:Type}(x:Option R):Option R:=@ite _ (some a=some b) (Classical.propDecidable _) x none
theorem iF{a:aO}{R:Type}{x:Option R}:Dh a a x=x:=aA rfl
def Di{R:Type}(Γ:List aZ)(ps ns ks:List (Nat×Nat))(us:List Nat)(fn:Fn)(L:List AV)(I:List (Nat×Option aO))(K:CR→Option R):List Nat→Option R
 |[]=>none
 |
  c::l=>match Γ[c]? with
  |
   some C=>fnK fn C.fn (match C.get L I with
   |some d=>C.f.run d (fun r=>K ⟨C.res r,ps,ns,C.out r,C.m,false,ks,us⟩) fun x=>K ⟨x,ps,[],[],C.m,true,ks,us⟩
   |none=>Di Γ ps ns ks us fn L I K l) (Di Γ ps ns ks us fn L I K l)
  |none=>none
def Lt(Γ:List aZ)(ch:CH)(x:Option (Fn×List AV×List (Nat×Option aO))){R:Type}(K:CR→Option R):Option R:=
 match x with
 |some (fn,L,I)=>Di Γ ch.ps ch.ns ch.ks ch.us fn L I K ch.Wt
 |none=>none
variable{Γ:List aZ}{ps:List (Nat×Nat)}
theorem wD{gl:Ctx}(hΓ:∀C∈Γ,C.holds P gl){ns ks:List (Nat×Nat)}{us:List Nat}{fn:Fn}{R:Type}{K:CR→Option R}{r:R}:∀{l:List Nat},Di Γ ps ns ks us fn L I K l=some r→
 ∃cr,K cr=some r∧cr.ps=ps∧cr.ks=ks∧cr.us=us∧Jc P gl cr (some (fn,L,I))
 |[],h=>by cases h
 |
  c::l,h=>by
  unfold Di at h
  split at h
  ·rename_i C hC
   rcases Dg h with⟨hf,h⟩|h
   ·split at h
    ·rename_i d hd
     obtain⟨h1,h2⟩:=aZ.gA hd
     have hC:=hΓ C (kB hC)
     have key:∀(cr:CR),K cr=some r→cr.ps=ps→cr.ks=ks→cr.us=us→K9 P gl C.fn (C.args d) (aS (List.replicate cr.m none) (C.ins d)) cr.fin (cX cr.m cr.out)→∃cr,K cr=some r∧cr.ps=ps∧cr.ks=ks∧cr.us=us∧Jc P gl cr (some (fn,L,I)):=by
      intro cr h hp hk hu hh
      refine⟨cr,h,hp,hk,hu,?_⟩
      intro fn' L' I' e
      grind
     rcases CF.De h with⟨y,hy,h⟩|⟨x,hx,h⟩
     ·exact key _ h rfl rfl rfl (hC.ret d y hy)
     ·exact key _ h rfl rfl rfl (hC.kr d x hx)
    ·exact wD hΓ h
   ·exact wD hΓ h
  grind
variable{ch:CH}
theorem Lu{gl:Ctx}(hΓ:∀C∈Γ,C.holds P gl){x:Option (Fn×List AV×List (Nat×Option aO))}{R:Type}{K:CR→Option R}{r:R}(h:Lt Γ ch x K=some r):
 ∃cr,K cr=some r∧cr.ps=ch.ps∧cr.ks=ch.ks∧cr.us=ch.us∧Jc P gl cr x:=by
 unfold Lt at h
 split at h
 ·exact wD hΓ h
 grind
theorem CH.SC(h1:cr.ps=ch.ps)(h2:cr.ks=ch.ks):cr.al=ch.al:=by
 obtain⟨_,ps,_,_,_,_,ks,_⟩:=cr
 obtain⟨_,ps',_,ks',_⟩:=ch
 cases h1
 cases h2
 trivial
def XD:CR:=⟨.bot,[],[],[],0,false,[],[]⟩
def O6{R:Type}(s:Bool)(f:aW)(K:aW→Option R):Option R:=
 match s with
 |false=>K f
 |
  true=>match f.v with
  | .val .bool e=>if e=true then K {f with v:=.val .bool true} else K {f with v:=.val .bool false}
  |_=>K f
theorem yO{R:Type}{s:Bool}{f:aW}{K:aW→Option R}{r:R}(h:O6 s f K=some r):K f=some r:=by
 unfold O6 at h
 split at h
 ·exact h
 ·split at h
  ·rename_i e he
   obtain⟨rt,rb,fr,dst,v,hw⟩:=f
   grind
  grind
def O7{R:Type}:List (Option Nat)→Nat→Int→aW→(aW→Option R)→Option R
 |[],_,_,_,_=>none
 |g::gs,n,e,f,K=>if e=(n:Int) then K {f with v:=I1 g} else O7 gs (n+1) e f K
def Lv{R:Type}(ok:Bool)(k0:Ty)(k:k0.den)(f:aW)(K:aW→Option R):List (k0.den×AV)→Option R
 |[]=>K {f with v:=okF ok .fp false}
 |x::l=>if bl k0 k x.1=true then K {f with v:=okF ok x.2 true} else Lv ok k0 k f K l
theorem yP{R:Type}{ok:Bool}{k0:Ty}{k:k0.den}{f:aW}{K:aW→Option R}{r:R}:∀{l:List (k0.den×AV)},f.v=lZ ok k0 k l→Lv ok k0 k f K l=some r→K f=some r
 |
  [],hv,h=>by
  simp only[lZ] at hv
  simp only[Lv] at h
  rw[←hv] at h;exact h
 |
  x::l,hv,h=>by
  simp only[lZ] at hv
  simp only[Lv] at h
  split at h
  ·rename_i hb;rw[aA hb] at hv;rw[←hv] at h;exact h
  ·rename_i hb;rw[aC hb] at hv;exact yP hv h
def TV{R:Type}(gl:Ctx)(ops:Array Oper)(σ:St)(i:Nat)(f:aW)(K:aW→Option R):Option R:=
 match ops[i]? with
 |
  some o=>match o.guard,o.op with
  |
   none,.index _ x j=>match bD gl σ.tm x,bD gl σ.tm j with
   | .val (.fns _) xs,.val (.int _) e=>O7 xs 0 e f K
   |_,_=>K f
  |
   none,.lookup _ x k ok=>match bD gl σ.tm x with
   |
    .mp b=>match eC σ.hp b with
    |
     some (.ij k0 l)=>match(bD gl σ.tm k).bB k0 with
     |some k'=>Lv ok k0 k' f K l
     |none=>K f
    |_=>K f
   |_=>K f
  |_,_=>K f
 |none=>K f
theorem yQ{R:Type}{f:aW}{K:aW→Option R}{r:R}{ys:List (Option Nat)}{e:Int}(hv:f.v=I1 (ys.getD e.toNat none)):∀{xs:List (Option Nat)}{n:Nat},(∀k,ys.getD (n+k) none=xs.getD k none)→O7 xs n e f K=some r→K f=some r
 |[],_,_,h=>by cases h
 |
  g::gs,n,hx,h=>by
  unfold O7 at h
  split at h
  ·rename_i he
   subst he
   have:ys.getD n none=g:=by simpa using hx 0
   rw[jy,this] at hv
   rw[←hv] at h
   exact h
  ·refine yQ hv (fun k=>?_) h
   have:=hx (k+1)
   rw[show n+1+k=n+(k+1) by omega,this]
   simp
theorem Jd{G:bM}{R:Type}{gl:Ctx}{i:Nat}{f:aW}{vc:List VC}{K:aW→Option R}{r:R}(hs:eB P G gl ops cr [] σ i=some (f,vc,ob))(h:TV gl ops σ i f K=some r):K f=some r:=by
 unfold TV at h
 split at h
 ·rename_i o ho
  split at h
  ·rename_i t x j hg hop
   split at h
   ·rename_i n xs k e hx hj
    have hv:f.v=I1 (xs.getD e.toNat none):=by
     unfold eB at hs
     rw[ho] at hs
     simp only[guardOf,hg,hop] at hs
     simp only[oH,qH,I8,zr,zw,zx,yX,yY,zb,hx,hj] at hs
     split at hs
     ·cases hs
     ·rename_i e' ob' he
      cases hs
      simp only[gP,il] at he
      obtain⟨a,ha,rfl,rfl⟩:=he
      split at ha
      case h_2=>cases ha
      rename_i a' ha'
      cases ha
      simp only[gP] at ha'
      obtain⟨b,hb,rfl⟩:=ha'
      unfold uM at hb
      split at hb
      ·split at hb
       ·rename_i m m' ys k' n' h1 h2 h3
        cases h2;cases h3
        split at hb
        ·cases hb;rfl
        grind
       ·grind
       grind
      grind
    exact yQ hv (fun k=>by simp) h
   grind
  ·rename_i t x k ok hg hop
   split at h
   ·rename_i b hx
    split at h
    ·rename_i k0 l hbk
     split at h
     ·rename_i k' hk
      have hv:f.v=lZ ok k0 k' l:=by
       grind [eB,guardOf,oH,gP,Dx,eC,gn]
      exact yP hv h
     grind
    grind
   grind
  grind
 grind
def XE{R:Type}(gl:Ctx)(ops:Array Oper)(σ:St)(i:Nat)(z:List (Nat×Ty))(f:aW)(K:aW→Option R):Option R:=
 match z with
 |[]=>TV gl ops σ i f (fun f=>O6 (Me ops.toList i) f K)
 |_::_=>O6 (Me ops.toList i) f K
section
variable(P:Program) (G:bM) (gl:Ctx) (Γ:List aZ)
def sh(ops:Array Oper)(σ:St)(i:Nat):Bool:=
 match ops[i]? with
 |
  some o=>match guardOf ops σ.tm o with
  |some b=>b
  |none=>false
 |none=>false
def Dj(ops:Array Oper){R:Type}(i:Nat)(σ:St)(z:List (Nat×Ty))(x:Option (aW×List VC×List Prop))(K:aW→Option R):Option R:=
 match x with
 |some (f,vcs,_)=>if f.fr.all σ.fu then ifs vcs (XE gl ops σ i z f K) else none
 |none=>none
def Lw(gl:Ctx)(ops:Array Oper)(σ:St)(i:Nat):Option aW:=
 match ops[i]? with
 |
  some o=>match o.guard,o.op with
  |
   none,.panic x=>match bD gl σ.tm x with
   | .iface t v=>some ⟨slotsOf [x],[],[],none,.iface t v,[]⟩
   |_=>none
  |_,_=>none
 |none=>none
def XF{R:Type}(x:Option (aW×List VC×List Prop))(KP:aW→Option R):Option R:=
 match x with
 |some (f,_,_)=>if f.fr.isEmpty then KP f else none
 |none=>none
def ln(ops:Array Oper)(zs:List (Nat×Nat×Ty)){R:Type}(K:List aW→St→Option R)(KP:List aW→aW→St→Option R):Nat→Nat→List CH→St→List aW→Option R
 |0,_,_,σ,fs=>K fs σ
 |
  n+1,i,cs,σ,fs=>
  if wS ops i&&sh ops σ i then(match cs with
   |
    ch::cs'=>Lt Γ ch (wC G gl ops ch.al ch.ps ch.us (SL zs i) σ i) fun cr=>match cr.kr with
    |false=>Dj gl ops i σ (SL zs i) (eB P G gl ops cr (SL zs i) σ i) fun f=>ln ops zs K KP n (i+1) cs' (σ.app f) (f::fs)
    |true=>XF (eB P G gl ops cr (SL zs i) σ i) fun f=>KP fs f σ
   |[]=>none)
  else match Lw gl ops σ i with
  |some f=>KP fs f σ
  |none=>Dj gl ops i σ (SL zs i) (eB P G gl ops XD (SL zs i) σ i) fun f=>ln ops zs K KP n (i+1) (if wS ops i then cs.tail else cs) (σ.app f) (f::fs)
end
theorem wE{G:bM}{gl:Ctx}{z:List (Nat×Ty)}{i:Nat}{f:aW}{vc:List VC}{o:Oper}(h:eB P G gl ops cr z σ i=some (f,vc,ob))(ho:ops[i]? =some o):f.dst=o.dst:=by
 grind [eB]
theorem Dk{G:bM}{gl:Ctx}{R:Type}{i:Nat}{z:List (Nat×Ty)}{K:aW→Option R}{r:R}{f:aW}{vc:List VC}(hs:eB P G gl ops cr z σ i=some (f,vc,ob))(h:XE gl ops σ i z f K=some r):K f=some r:=by
 cases z with
 |nil=>exact yO (Jd hs h)
 |cons _ _=>exact yO h
theorem wG{G:bM}(T:bA P G){gl:Ctx}{R:Type}{i:Nat}{z:List (Nat×Ty)}{K:aW→Option R}{r:R}(amD:cr.kr=false)(hob:wS ops i=true→Jc P gl cr (wC G gl ops cr.al cr.ps cr.us z σ i))(h:Dj gl ops i σ z (eB P G gl ops cr z σ i) K=some r):
 ∃f,(oV P gl ops i f σ∧∀o,ops[i]? =some o→f.dst=o.dst)∧(∀d∈f.fr,σ.fresh d)∧K f=some r:=by
 unfold Dj at h
 split at h
 ·rename_i f vcs ob hs
  obtain⟨hf,h⟩:=bJ h
  grind [fe,kQ,kL,wE,Dk,St.dP]
 grind
theorem O8{G:bM}{gl:Ctx}{i:Nat}{z:List (Nat×Ty)}{f:aW}{vc:List VC}(h:eB P G gl ops cr z σ i=some (f,vc,ob))(hg:sh ops σ i=false):ob= []:=by
 grind [eB,sh]
theorem Lx{gl:Ctx}{i:Nat}{f:aW}(h:Lw gl ops σ i=some f):DA P gl ops i f σ:=by
 unfold Lw at h
 split at h
 ·rename_i o ho
  split at h
  ·rename_i x hgd hop
   split at h
   ·rename_i t v hx
    cases h
    intro σ' ha E a w hg K Q hQ
    unfold wpOpIn
    simp only[ho]
    have hw:=fQ hg (ops:=ops) (o:=o) (c:=true) (by unfold guardOf;rw[hgd])
    rw[hw]
    simp only[cj]
    have hv:=gi hg x
    rw[iT ha (x:=x) (fun t ht=>by grind [slotsOf]),hx] at hv
    obtain⟨u,e,_⟩:=RV.atom rfl hv
    simp at e
    unfold Oper.wpIn
    refine⟨fun _ _=>trivial,?_⟩
    rw[Oper.semAt_eq _ _ _ (by grind)]
    have amn:(execOp a.eval o).run P w= .halt (.panic (a.eval x)) w:=by
     simp[execOp,hop,e,Instr.panic]
    rw[amn]
    exact hQ E (a.eval x) w hg hv (Ext.refl _ _ _)
   grind
  grind
 grind
theorem Dl{i:Nat}(h1:wS ops i=true)(h2:sh ops σ i=true):∃o,ops[i]? =some o∧guardOf ops σ.tm o=some true∧lr o.op=true:=by
 grind [sh,wS]
theorem pa{G:bM}(T:bA P G){gl:Ctx}(hΓ:∀C∈Γ,C.holds P gl){zs:List (Nat×Nat×Ty)}{R:Type}{K:List aW→St→Option R}{KP:List aW→aW→St→Option R}{r:R}:
 ∀{n i:Nat}{cs:List CH}{σ:St}{fs:List aW},ln P G gl Γ ops zs K KP n i cs σ fs=some r→
  (∃gs σ',qj P gl ops i gs σ σ'∧gs.length=n∧(∀(k:Nat)(f:aW)(o:Oper),gs[k]? =some f→ops[i+k]? =some o→f.dst=o.dst)∧K (gs.reverse++fs) σ'=some r)∨
  ∃gs f σ',qj P gl ops i gs σ σ'∧gs.length<n∧DA P gl ops (i+gs.length) f σ'∧KP (gs.reverse++fs) f σ'=some r
 |0,i,cs,σ,fs,h=>Or.inl ⟨[],σ,rfl,rfl,(fun k f o h=>by simp at h),h⟩
 |
  n+1,i,cs,σ,fs,h=>by
  unfold ln at h
  have fin:∀{f:aW}{cs':List CH},(oV P gl ops i f σ∧∀o,ops[i]? =some o→f.dst=o.dst)→(∀d∈f.fr,σ.fresh d)→ln P G gl Γ ops zs K KP n (i+1) cs' (σ.app f) (f::fs)=some r→
   (∃gs σ',qj P gl ops i gs σ σ'∧gs.length=n+1∧(∀(k:Nat)(f:aW)(o:Oper),gs[k]? =some f→ops[i+k]? =some o→f.dst=o.dst)∧K (gs.reverse++fs) σ'=some r)∨
   ∃gs f σ',qj P gl ops i gs σ σ'∧gs.length<n+1∧DA P gl ops (i+gs.length) f σ'∧KP (gs.reverse++fs) f σ'=some r:=by
   intro f cs' h1 h2 h3
   rcases pa T hΓ h3 with⟨gs,σ',k1,k2,kd,k3⟩|⟨gs,f',σ',k1,k2,kp,k3⟩
   ·refine Or.inl ⟨f::gs,σ',⟨h1.1,h2,k1⟩,by simp[k2],?_,by simpa using k3⟩<;>grind
   ·exact Or.inr ⟨f::gs,f',σ',⟨h1.1,h2,k1⟩,by grind,by grind,by grind⟩
  split at h
  ·rename_i hcg
   simp only[bj] at hcg
   split at h
   ·rename_i ch cs'
    obtain⟨cr,h,hps,hks,hus,hob⟩:=Lu hΓ h
    split at h
    ·rename_i amD
     obtain⟨f,h1,h2,h3⟩:=wG T amD (fun _=>by rw[hps,hus,CH.SC hps hks];exact hob) h
     grind
    ·rename_i amD
     unfold XF at h
     split at h
     ·rename_i f vcs ob hs
      obtain⟨hf,h⟩:=bJ h
      obtain⟨o,ho,hgd,hcl⟩:=Dl hcg.1 hcg.2
      exact Or.inr ⟨[],f,σ,rfl,by simp,Ft T amD ho hgd hcl hs (kL hs (fun _=>by rw[hps,hus,CH.SC hps hks];exact hob)) (by grind),by grind⟩
     grind
   grind
  ·rename_i hc
   split at h
   ·rename_i f hf
    exact Or.inr ⟨[],f,σ,rfl,by simp,Lx hf,by grind⟩
   ·cases ho:wS ops i with
    |
     false=>
     rw[ho] at h
     obtain⟨f,h1,h2,h3⟩:=wG T rfl (fun e=>by grind) h
     grind
    |
     true=>
     rw[ho] at h hc
     have hg:sh ops σ i=false:=by grind
     unfold Dj at h
     split at h
     ·rename_i f vcs ob hs
      obtain⟨hf,h⟩:=bJ h
      obtain⟨hv,h⟩:=fe h
      refine fin ⟨kQ T rfl hs hv (by rw[O8 hs hg];grind),fun o ho=>wE hs ho⟩ ?_ (Dk hs h)
      grind [St.dP]
     grind
section
variable(P:Program) (G:bM) (gl:Ctx)
def nK(ops:Array Oper)(draw:Bool)(z p:Nat)(masks:List Nat){R:Type}(K:List aW→Option R):Nat→Nat→St→List aW→Option R
 |0,_,_,gs=>K gs.reverse
 |
  n+1,j,σ,gs=>if !draw||(masks.getD j 0).testBit p then nK ops draw z p masks K n (j+1) σ (HC z::gs)
  else if wS ops j then none else match eB P G gl ops XD [] σ j with
   |some (f,vcs,_)=>if f.fr.isEmpty&&OZ z [f] then ifs vcs (nK ops draw z p masks K n (j+1) (σ.app f) (f::gs)) else none
   |none=>none
end
theorem pd{G:bM}(T:bA P G){gl:Ctx}{draw:Bool}{z p:Nat}{masks:List Nat}{R:Type}{K:List aW→Option R}{r:R}:∀{n j:Nat}{σ:St}{gs:List aW},nK P G gl ops draw z p masks K n j σ gs=some r→
 ∃ms σ',(σ.hp[z]? =some (some EV)→bW (EW P gl ops z) j ms σ σ')∧ms.length=n∧OZ z ms=true∧K (gs.reverse++ms)=some r
 |0,j,σ,gs,h=>⟨[],σ,fun _=>rfl,rfl,rfl,by simpa[nK] using h⟩
 |
  n+1,j,σ,gs,h=>by
  unfold nK at h
  split at h
  ·obtain⟨ms,σ',h1,h2,h3,h4⟩:=pd T h
   refine⟨HC z::ms,σ',fun hz=>⟨Or.inr ⟨rfl,hz⟩,(fun d hd=>by cases hd),h1 hz⟩,by simp[h2],by simp only[OZ,List.all_cons,bj] at h3 ⊢;exact⟨rfl,h3⟩,by simpa using h4⟩<;>grind
  ·split at h
   ·cases h
   ·rename_i ho
    split at h
    ·rename_i f vcs ob hs
     obtain⟨hf,h⟩:=bJ h
     obtain⟨hv,h⟩:=fe h
     simp only[bj,List.isEmpty_iff] at hf
     obtain⟨ms,σ',h1,h2,h3,h4⟩:=pd T h
     have hob:=kL (cr:=XD) hs (fun e=>absurd e ho)
     have hnz:OZ z (f::ms)=true:=by
      simp_all[OZ]
     refine⟨f::ms,σ',fun hz=>⟨Or.inl (kQ T rfl hs hv hob),(fun d hd=>by grind),h1 ?_⟩,by simp[h2],hnz,by grind⟩
     have hq:bW (fun _ _ _=>True) j [f] σ (σ.app f):=⟨trivial,(fun d hd=>by grind),rfl⟩
     exact bW.at hq hf.2 hz
    grind
def XG{α:Type}:List (Nat×α)→Nat→Option α
 |[],_=>none
 |(i,x)::l,j=>if Nat.beq i j then some x else XG l j
def sj:Code→Option Nat
 | .region id _ _=>some id
 |
  .seq a b=>match sj a with
  |some i=>some i
  |none=>sj b
 |
  .cond _ a b=>match sj a with
  |some i=>some i
  |none=>sj b
 | .block _ c| .loop c| .scope c=>sj c
 |_=>none
def O9{α:Type}(l:List (Nat×α))(c:Code):Option α:=
 match sj c with
 |some i=>XG l i
 |none=>none
def aL{U R:Type}(F:(U→Option R)→U→Option R)(n:Nat):U→Option R:=
 @Nat.rec (fun _=>U→Option R) (fun _=>none) (fun _ ih=>F ih) n
def aI{U R:Type}(x:Option (cK U R))(f:U→Option R):Option R:=
 Option.bind x fun o=>match o with
  | .brk d=>f d
  | .ret r=>some r
def bU{U R:Type}(x:Option R):Option (cK U R):=x.map .ret
variable{U:Type}
theorem E6{R:Type}{x:Option (cK U R)}{f:U→Option R}{r:R}(h:aI x f=some r):(∃d,x=some (.brk d)∧f d=some r)∨x=some (.ret r):=by
 obtain⟨o,ho,h⟩:=bind_some h
 grind
def Pa(ops:Array Oper):Bool:=ops.toList.any fun o=>match o.op with
 | .defer _=>true
 |_=>false
def xP{R:Type}(F:YC→Option R):Option R:=
 @dite _ (∃r,∀y,F y=some r) (Classical.propDecidable _) (fun h=>some h.choose) fun _=>none
theorem Je{R:Type}{F:YC→Option R}{r:R}(h:xP F=some r)(y:YC):F y=some r:=by
 unfold xP at h
 split at h<;>grind
def NC{R:Type}(a b:YC)(x:Option R):Option R:=@ite _ (a=b) (Classical.propDecidable _) x none
structure IC where
 A:List Sh
 B:List (Nat×db)
 m:Nat
 k0:Nat
 R:List (Nat×db)
 Wt:Nat→(prod (tx A (iu B []))→Option (fP (Bool::YC::Nat::iu R [])))→aZ
def IC.T(C:IC):List Type:=Bool::YC::Nat::iu C.R []
def IC.Y(C:IC)(l:Nat)(f:prod (tx C.A (iu C.B []))→Option (fP C.T)):aZ:=
 ⟨.yield l,C.A,C.B,C.m,⟨1,C.m,[(0,.val .bool)],(C.k0,.lp)::C.R,[]⟩,fun r=>.val .bool (rD C.T r).1,fun r=>(C.k0,.lp (rD C.T r).2.1 (rD C.T r).2.2.1)::oE y0 C.R (rD C.T r).2.2.2,.br f⟩
def IC.holds(P:Program)(gl:Ctx)(C:IC):Prop:=∀B hB l f,(C.Y l f).holds P (gl.wB B hB)→(C.Wt l f).holds P (gl.wB B hB)
def E7:Option aO→Bool
 |some (.tv _ _ _)=>true
 |_=>false
def xQ:List (Option aO)→Bool
 |[]=>true
 |x::l=> !E7 x&&xQ l
theorem HH:∀{l:List (Option aO)},xQ l=true→∀(i g:Nat)(t:Ty)(v:AV),l[i]? ≠some (some (.tv g t v))
 |[],_,i,g,t,v=>by simp
 |
  x::l,h,i,g,t,v=>by
  simp only[xQ,bj] at h
  cases i with
  |zero=>intro e;simp at e;subst e;exact absurd h.1 (by simp[E7])
  |succ i=>simpa using HH h.2 i g t v
def Ly(y:YC)(ti:List (Nat×Ty))(k0:Nat):Nat→List (Option aO)→Option (List VC×List (Option aO))
 |_,[]=>some ([],[])
 |
  i,x::l=>match Ly y ti k0 (i+1) l with
  |none=>none
  |
   some (vs,H)=>if Nat.beq i k0 then(match x with
    |some (.lp y' j)=>some (⟨y'=y,Classical.propDecidable _⟩::vc (j=0)::vs,none::H)
    |_=>none)
   else match x with
    |none=>some (vs,none::H)
    |some (.tv g t v)=>if mc i ti then some (vc (g=y.gs i)::vs,some (.var t v)::H) else none
    |some (.var t v)=>if mc i ti then none else some (vs,some (.var t v)::H)
    |some k=>some (vs,some k::H)
variable{ti:List (Nat×Ty)}
theorem uE{y:YC}{k0:Nat}:∀{X:List (Option aO)}{s:Nat}{vs:List VC}{H:List (Option aO)},Ly y ti k0 s X=some (vs,H)→dC vs→
 H.length=X.length∧(∀i,s+i=k0→i<X.length→X[i]? =some (some (.lp y 0))∧H[i]? =some none)∧(∀i,s+i≠k0→X[i]? =(tie y.gs ti s H)[i]?)∧xQ H=true
 |[],s,vs,H,h,_=>by cases h;exact⟨rfl,fun i _ hi=>by grind,fun i _=>rfl,rfl⟩
 |
  x::l,s,vs,H,h,hv=>by
  unfold Ly at h
  split at h
  ·cases h
  ·rename_i vs' H' hr
   have step:∀{k:Option aO}{k':Option aO},dC vs'→Nat.beq s k0=false→x=k→(∀L,(tie y.gs ti s (k'::L))=k::tie y.gs ti (s+1) L)→E7 k'=false→(k'::H').length=(x::l).length∧(∀i,s+i=k0→i<(x::l).length→(x::l)[i]? =some (some (.lp y 0))∧(k'::H')[i]? =some none)∧(∀i,s+i≠k0→(x::l)[i]? =(tie y.gs ti s (k'::H'))[i]?)∧xQ (k'::H')=true:=by
    intro k k' hv' hb hx ht hnt
    obtain⟨h1,h2,h3,h4⟩:=uE hr hv'
    have hne:s≠k0:=fun e=>by rw[e,Nat.beq_refl] at hb;cases hb
    refine⟨by simp[h1],?_,?_,by simp[xQ,hnt,h4]⟩
    ·intro i hi hl
     cases i with
     |zero=>exact absurd hi hne
     |succ i=>exact h2 i (by omega) (by simpa using hl)
    ·intro i hi
     rw[ht,hx]
     cases i with
     |zero=>rfl
     |succ i=>simpa using h3 i (by omega)
   split at h
   ·rename_i hb
    have hs:=bL hb
    subst hs
    split at h
    ·rename_i y' j
     cases h
     obtain⟨e1,e2,hv'⟩:=hv
     have e1:y'=y:=e1
     have e2:j=0:=e2
     subst e1;subst e2
     obtain⟨h1,h2,h3,h4⟩:=uE hr hv'
     refine⟨by simp[h1],?_,?_,by simp[xQ,E7,h4]⟩
     ·intro i hi _
      have:i=0:=by omega
      subst this
      exact⟨rfl,rfl⟩
     ·intro i hi
      cases i with
      |zero=>exact absurd rfl hi
      |succ i=>simpa[tie] using h3 i (by omega)
    ·cases h
   ·rename_i hb
    have hb:Nat.beq s k0=false:=by cases hq:Nat.beq s k0 with|false=>rfl|true=>exact absurd hq hb
    split at h
    ·cases h;exact step hv hb rfl (fun L=>rfl) rfl
    ·rename_i g t v
     obtain⟨ht,h⟩:=bJ h
     cases h
     obtain⟨e1,hv'⟩:=hv
     have e1:g=y.gs s:=e1
     subst e1
     exact step hv' hb rfl (fun L=>by simp[tie,mM,ht]) rfl
    ·rename_i t v
     split at h
     ·cases h
     ·rename_i ht
      cases h;exact step hv hb rfl (fun L=>by simp[tie,mM,ht]) rfl
    ·rename_i k n1 n2
     cases h
     refine step hv hb rfl (fun L=>?_) ?_
     ·cases k with
      |var t v=>exact absurd rfl (n2 t v)
      |_=>rfl
     ·cases k with
      |tv g t v=>exact absurd rfl (n1 g t v)
      |_=>rfl
def yR(p:Code→Bool):List Code→Nat→Option Nat
 |[],_=>none
 |c::l,n=>if p c then some n else yR p l (n+1)
def SD:Code→Bool
 | .ret=>true
 |_=>false
def Lz(i:Nat):Code→Bool
 | .exit j=>Nat.beq i j
 |_=>false
def TW(jl:List Code):fM→Option Nat
 | .normal=>some 0
 | .ret=>yR SD jl 1
 | .exit i=>yR (Lz i) jl 1
 | .panic _=>none
theorem Dm{p:Code→Bool}:∀{l:List Code}{n j:Nat},yR p l n=some j→n≤j∧∃c,l[j -n]? =some c∧p c=true
 |[],_,_,h=>by cases h
 |
  c::l,n,j,h=>by
  unfold yR at h
  split at h
  ·grind
  ·obtain⟨h1,c',h2,h3⟩:=Dm h
   grind
variable{jl:List Code}
theorem yS{p:Code→Bool}{j:Nat}(h:yR p jl 1=some j):j≠0∧∃c,jmp jl j=some c∧p c=true:=by
 obtain⟨h1,c,h2,h3⟩:=Dm h
 refine⟨by omega,c,?_,h3⟩
 cases j with
 |zero=>omega
 |succ j=>trivial
def TX{R:Type}(c:Code)(σ:St)(k:fM→St→Option R):Option R:=
 match c with
 | .ret=>k .ret σ
 | .exit i=>k (.exit i) σ
 |_=>none
def Pb{R:Type}(σ:St)(k:fM→St→Option R)(j:Nat):List Code→Nat→Option R
 |[],_=>none
 |c::l,n=>if j=n then TX c σ k else Pb σ k j l (n+1)
def TY{R:Type}(jl:List Code)(j:Nat)(σ:St)(k:fM→St→Option R):Option R:=if j=0 then k .normal σ else Pb σ k j jl 1
theorem HI{R:Type}{k:fM→St→Option R}{j:Nat}{r:R}:∀{l:List Code}{n:Nat},Pb σ k j l n=some r→n≤j∧∃c,l[j -n]? =some c∧TX c σ k=some r
 |[],_,h=>by cases h
 |
  c::l,n,h=>by
  unfold Pb at h
  split at h
  ·grind
  ·obtain⟨h1,c',h2,h3⟩:=HI h
   grind
theorem Pc{gl:Ctx}{R:Type}{j:Nat}{k:fM→St→Option R}{r:R}(h:TY jl j σ k=some r):match jmp jl j with
 |none=>k .normal σ=some r
 |some c=>cI P gl c σ (fun e σ'=>k e σ'=some r):=by
 unfold TY at h
 split at h
 ·rename_i hj;subst hj;exact h
 ·obtain⟨h1,c,h2,h3⟩:=HI h
  have hj:jmp jl j=some c:=by
   cases j with
   |zero=>omega
   |succ j=>simpa[jmp] using h2
  rw[hj]
  simp only
  unfold TX at h3
  split at h3
  ·exact cI.ret h3
  ·exact cI.exit h3
  ·cases h3
def LA(y:YC)(rh:O5)(C:IC):fM→St→Option (fP (Nat::iu C.R [])):=fun e σ=>
 match TW rh.jl e,rh.E.uD σ with
 |
  some j,some u=>if xQ (rh.E.st y0 u).hp&&Nat.ble C.m (rh.E.st y0 u).hp.length then(match Xq C.R (l:=[]) (tie y.gs rh.ti 0 (rh.E.st y0 u).hp) () with
  |some e=>some (Sx (Nat::iu C.R []) (j,e))
  |none=>none) else none
 |_,_=>none
def Wv(y:YC)(rh:O5)(C:IC)(ps:Array Tmp)(σ:St)(wA wB:St→(fM→St→Option (fP (Nat::iu C.R [])))→Option (fP (Nat::iu C.R []))):prod (tx C.A (iu C.B []))→Option (fP C.T):=fun d=>
 match Ly y rh.ti C.k0 0 (aS (List.replicate C.m none) (dc (oE y0 C.B (As C.A d)))) with
 |
  some (vcs,H0)=>ifs vcs (if Nat.beq ps.size (xG y0 C.A d).length&&qy H0 rh.ti then(Option.bind (wA ⟨tD (ps.toList.zip (xG y0 C.A d)) (Lq rh.m σ.tm),H0,[]⟩ (fun e σ1=>match e with
  | .normal=>wB σ1 (LA y rh C)
  |_=>none)) fun r=>match Ly y rh.ti C.m 0 (cX C.m (oE y0 C.R (rD (Nat::iu C.R []) r).2)) with
  |some (vs,H1)=>ifs vs (if qy H1 rh.ti then some (Sx C.T (Nat.beq (rD (Nat::iu C.R []) r).1 0,y,(rD (Nat::iu C.R []) r).1,(rD (Nat::iu C.R []) r).2)) else none)
  |none=>none) else none)
 |none=>none
def TZ(σ:St)(rh:O5)(C:IC)(cs:AV):Bool:=
 σ.fu rh.dI&&σ.fu rh.lI&& !Nat.beq rh.dI rh.lI&&Nat.blt C.k0 16&&Nat.blt C.k0 C.m&& !mc C.k0 rh.ti&&Xz σ.hp rh.ti rh.m&&ko (rh.m.map (·.2))&&cs.atoms&&C.R.all fun x=> !Nat.beq x.1 C.k0
def SE(σ:St)(y:YC)(rh:O5)(cr:CR){R:Type}(k:fM→St→Option R):Option R:=
 match cr.r with
 |
  .fP .nil=>if A1 cr []&&((cr.ns.map (·.2)).all (fun b=>({σ with hp:=sf y rh.m rh.dI rh.lI σ.hp,df:=.mp rh.dI::σ.df}:St).fu b)) then(match(aS (sf y rh.m rh.dI rh.lI σ.hp) (mf (cr.al++cr.ns) cr.out (cr.ps++cr.ns)))[rh.lI]? with
  |some (some (.lp y' j))=>ifs [⟨y'=y,Classical.propDecidable _⟩] (TY rh.jl j ⟨σ.tm,Ls ((aS (sf y rh.m rh.dI rh.lI σ.hp) (mf (cr.al++cr.ns) cr.out (cr.ps++cr.ns))).set rh.lI none),.mp rh.dI::σ.df⟩ k)
  |_=>none) else none
 |_=>none
def T0(σ:St)(y:YC)(rh:O5)(gf:FuncId)(cs:AV)(C2:aZ){R:Type}(k:fM→St→Option R):Option R:=
 match l6 (swp rh.ps) (eC (sf y rh.m rh.dI rh.lI σ.hp)) (((.func (.yield y.l) .nil .nil,Ty.unit))::cs.toList.map (fun x=>(x,Ty.unit))),i6 (swp rh.ps) (eC (sf y rh.m rh.dI rh.lI σ.hp)) rh.ps with
 |
  some (L,[]),some ins=>fnK (.func gf) C2.fn (match C2.get L ins with
  |some d=>C2.f.run d (fun r=>SE σ y rh ⟨C2.res r,rh.ps,rh.ns,C2.out r,C2.m,false,[],[]⟩ k) (fun _=>none)
  |none=>none) none
 |_,_=>none
section
variable(P:Program) (G:bM) (gl:Ctx) (fr:Bool) (H:Hs) (Γ:List aZ)
def forget:List Oper→List AV→List AV
 |[],tm=>tm
 |
  o::l,tm=>forget l (match o.dst with
  |some d=>tm.set d .bot
  |none=>tm)
def T1:List (Nat×Ty)→List Type
 |[]=>[]
 |(_,t)::l=>t.den::T1 l
def mgG:(l:List (Nat×Ty))→List AV→Option (prod (T1 l))
 |[],_=>some ()
 |
  (i,t)::l,tm=>match tm[i]? with
  |
   some (.val u x)=>if h:Ty.same u t=true then(match mgG l tm with
   |some d=>some (lW h x,d)
   |none=>none) else none
  |_=>none
def mgV:(l:List (Nat×Ty))→prod (T1 l)→List (Nat×AV)
 |[],_=>[]
 |(i,t)::l,d=>(i,.val t d.1)::mgV l d.2
def XH(ops:Array Oper)(l:List (Nat×Ty))(σ:St)(t:fP (T1 l)):St:={σ with tm:=mX (mgV l (rD (T1 l) t)) (forget ops.toList σ.tm)}
def Ty.HJ:(t:Ty)→DecidableEq t.den
 | .int _=>inferInstanceAs (DecidableEq Int)
 | .bool=>inferInstanceAs (DecidableEq Bool)
 | .str=>inferInstanceAs (DecidableEq (List UInt8))
 | .arr _ t=>@instDecidableEqList _ t.HJ
 | .slice _ t=>@instDecidableEqList _ t.HJ
 | .pair a b=>@instDecidableEqProd _ _ a.HJ b.HJ
 | .unit=>inferInstanceAs (DecidableEq Unit)
 | .aT _=>inferInstanceAs (DecidableEq Unit)
 | .fns _=>inferInstanceAs (DecidableEq (List (Option Nat)))
 | .map k v=>@Option.instDecidableEq _ (@instDecidableEqList _ (@instDecidableEqProd _ _ k.HJ v.HJ))
def uF:Path→Path→Bool
 |[],[]=>true
 | .cw a::p,.cw b::q=>Nat.beq a b&&uF p q
 |_,_=>false
theorem wH:∀{p q:Path},uF p q=true→p=q
 |[],[],_=>rfl
 |
  .cw a::p,.cw b::q,h=>by
  simp only[uF,bj] at h
  rw[bL h.1,wH h.2]
def mN(t:Ty)(x y:t.den){R:Type}(K:Option R):Option R:=@ite _ (x=y) (t.HJ x y) K none
def LB:AV→AV→Option (List VC)
 | .val t x,.val u y=>if h:Ty.same u t=true then some [⟨x=lW h y,t.HJ _ _⟩] else none
 | .bn,.bn=>some []
 | .own b,.own c=>if Nat.beq b c then some [] else none
 | .ptr b p,.ptr c q=>if Nat.beq b c&&uF p q then some [] else none
 |_,_=>none
def HK{R:Type}(ops:Array Oper)(σ:St)(fs:List aW)(j:Nat)(K:Option R):List Nat→Option R
 |[]=>K
 |
  i::l=>if wS ops i then none else match fs[i]?,eB P G gl ops XD [] (cq (fun x=>decide (x<j+1)) 0 fs σ) i with
  |
   some f,some (g,vcs,_)=>match LB f.v g.v with
   |some vs=>if f.hw.isEmpty&&g.hw.isEmpty&&f.fr.isEmpty&&g.fr.isEmpty&&decide (f.rt=g.rt)&&decide (f.rb=g.rb)&&decide (f.dst=g.dst) then ifs (vcs++vs) (HK ops σ fs j K l) else none
   |none=>none
  |_,_=>none
def LC{R:Type}(lt:Option (List Nat×Nat))(ops:Array Oper)(σ:St)(fs:List aW)(K:Option R):Option R:=
 match lt with
 |none=>K
 |some (l,j)=>HK P G gl ops σ fs j K l
def Pd{R:Type}(lt:Option (List Nat×Nat))(ops:Array Oper)(draw:Bool)(σ:St)(k:St→Option R)(fs:List aW)(σ':St):Option R:=
 if draw then(if lT lt ops fs.reverse&&iS σ fs.reverse then LC P G gl lt ops σ fs.reverse (k σ') else none) else k σ'
def Jf(fs:List aW):Bool:=fs.all fun f=>f.hw.isEmpty
def LD{R:Type}(ops:Array Oper)(draw:Bool)(σ:St)(k:fM→St→Option R)(fs:List aW)(f:aW)(σp:St):Option R:=
 if Nat.blt (σ.hp.length -1) σ.hp.length&&f.v.plain then
  nK P G gl ops draw (σ.hp.length -1) fs.length (if draw then rY ops.toList [] else[]) (fun gs=>
   if draw then(if lT none ops (jF fs.reverse f (σ.hp.length -1) gs)&&iS σ (jF fs.reverse f (σ.hp.length -1) gs) then k (.panic f.v) (wq fs.reverse f (σ.hp.length -1) gs σ) else none)
   else k (.panic f.v) (wq fs.reverse f (σ.hp.length -1) gs σ)) (ops.size -fs.length -1) (fs.length+1) (σp.app (wo f (σ.hp.length -1))) [] else none
def E8(ops:Array Oper)(draw:Bool)(σ:St):Option St:=
 match draw,ops with
 |
  false,⟨[o0,o1]⟩=>if lr o0.op then none else match eB P G gl ops XD [] σ 0 with
  |
   some (f,[],_)=>match f.fr.all σ.fu,o1.op,o1.guard,o1.dst with
   |
    true,.defer {callee:=.value x,args:=⟨[]⟩,argTypes:=⟨[]⟩},none,none=>match bD gl (σ.app f).tm x with
    | .func fn .nil cs=>some {σ.app f with df:=.func fn .nil cs::(σ.app f).df}
    |_=>none
   |_,_,_,_=>none
  |_=>none
 |_,_=>none
def E9(ops:Array Oper):Option (Nat×Nat×Nat):=
 match ops with
 |
  ⟨[o0,o1]⟩=>match o0.op,o0.guard,o0.dst,o1.op,o1.guard,o1.dst with
  | .next (.tmp s) false,none,some d,.extract (.tmp d') 0,none,some d1=>if Nat.beq d' d then some (s,d,d1) else none
  |_,_,_,_,_,_=>none
 |_=>none
def LF(s d d1:Nat){R:Type}(σ:St)(k:fM→St→Option R):Option R:=
 match σ.tm[s]? with
 |
  some (.ptr b [])=>match eC σ.hp b with
  |
   some (.kq kt vt rest _)=>if Nat.blt d σ.tm.length then(if rest.isEmpty=true then k .normal ((σ.put (some d) .bot).put (some d1) (.val .bool false))
   else tY rest fun x l=>k .normal ((({σ with hp:=σ.hp.set b (some (.kq kt vt l (some x)))}:St).put (some d) .bot).put (some d1) (.val .bool true))) else none
  |_=>none
 |_=>none
def qA(ops:Array Oper)(draw:Bool)(zs:List (Nat×Nat×Ty))(cs:List CH)(mg:Option (List (Nat×Ty)))(lt:Option (List Nat×Nat)){R:Type}(σ:St)(k:fM→St→Option R):Option R:=
 if Pa ops then(if fr then(match E8 P G gl ops draw σ with
  |some σ'=>k .normal σ'
  |none=>none) else none) else
 match if draw then none else E9 ops with
 |some (s,d,d1)=>LF s d d1 σ k
 |none=>match mg with
 |none=>ln P G gl Γ ops zs (Pd P G gl lt ops draw σ (k .normal)) (LD P G gl ops draw σ k) ops.size 0 cs σ []
 |some l=>Option.bind (ln P G gl Γ ops zs (fun fs σ'=>if Jf fs then Pd P G gl lt ops draw σ (fun σ'=>(mgG l σ'.tm).map (Sx (T1 l))) fs σ' else none) (fun _ _ _=>none) ops.size 0 cs σ []) fun d=>k .normal (XH ops l σ d)
def LG{R:Type}:List (Nat×Nat)→St→(St→Option R)→Option R
 |[],σ,K=>K σ
 |
  (b,s)::l,σ,K=>match σ.tm[s]?,eC σ.hp b with
  |
   some (.val (.int _) n),some (.row _ _ _ xs)=>ifs [vc (0≤n),vc (n<xs.length)] (match zh b n.toNat σ with
   |some σ'=>LG l σ' K
   |none=>none)
  |
   some (.ptr c [.idx i]),some (.row _ _ _ _)=>if Nat.beq c b then(match zh b i σ with
   |some σ'=>LG l {σ' with tm:=σ'.tm.set s (.ptr b [.cw 1])} K
   |none=>none) else none
  |_,_=>none
def JZ{R:Type}:List PF→St→(St→Option R)→Option R
 |[],σ,K=>K σ
 |
  .row b d k::l,σ,K=>match k.get σ,eC σ.hp b with
  |
   some (.val (.int _) n),some (.cQ _ _ _ xs _ _)=>ifs [vc (0≤n),vc (n<xs.length)] (match Mk b n.toNat d σ with
   |some σ'=>JZ l σ' K
   |none=>none)
  |_,_=>none
 |
  .map mode b d k::l,σ,K=>match k.get σ with
  |
   some (.val t x)=>match Mn mode b d t x σ with
   |some (vcs,σ')=>ifs vcs (JZ l σ' K)
   |none=>none
  |_=>none
 |
  .eN b::l,σ,K=>match pq b σ with
  |some σ'=>JZ l σ' K
  |none=>none
 |
  .XC b k::l,σ,K=>match k.get σ with
  |
   some (.val t x)=>match Mp b t x σ with
   |some σ'=>JZ l σ' K
   |none=>none
  |_=>none
 |
  .Wu b::l,σ,K=>match eC σ.hp b with
  |some (.fZ e bs t xs)=>tK xs fun ys=>JZ l {σ with hp:=σ.hp.set b (some (.row e bs t ys))} K
  |_=>none
def SF{R:Type}(l:List Gh)(k:fM→St→Option R):fM→St→Option R
 |
  .normal,σ=>match Ww l σ with
  |some σ'=>k .normal σ'
  |none=>none
 |e,σ=>k e σ
def dig:Nat→Nat→List Nat
 |0,_=>[]
 |
  n+1,c=>match c with
  |0=>[]
  |c=>(c % 1000 -1)::dig n (c / 1000)
def ltOf(H:Hs)(id:Nat):Option (List Nat×Nat):=match XG H.unr (1000000+id) with
 |some c=>some (dig 9 (c / 1000),c % 1000 -1)
 |none=>none
def Az(id:Nat)(ops:Array Oper)(draw:Bool){R:Type}(σ:St)(k:fM→St→Option R):Option R:=
 match XG H.reg id with
 |none=>qA P G gl fr Γ ops draw [] [] none (ltOf H id) σ k
 |
  some rh=>match Ww rh.pre σ with
  |some σ0=>LG rh.foc σ0 fun σ0=>JZ rh.pf σ0 fun σ0=>qA P G gl fr Γ ops draw rh.zs rh.cs rh.mg (ltOf H id) σ0 (SF rh.post k)
  |none=>none
def toJ{R:Type}(S:SS)(k:fM→St→Option R):fM→St→Option (cK S.T R)
 | .normal,σ=>(S.uD σ).map .brk
 |e,σ=>bU (k e σ)
def toB{R:Type}(id:Nat)(S:SS)(k:fM→St→Option R):fM→St→Option (cK S.T R)
 | .normal,σ=>(S.uD σ).map .brk
 | .exit i,σ=>if Nat.beq i id then(S.uD σ).map .brk else bU (k (.exit i) σ)
 |e,σ=>bU (k e σ)
def unB{R:Type}(id:Nat)(k:fM→St→Option R):fM→St→Option R
 | .exit i,σ=>if Nat.beq i id then k .normal σ else k (.exit i) σ
 |e,σ=>k e σ
def HL{R:Type}(w:St→(fM→St→Option R)→Option R)(k:fM→St→Option R):Nat→St→Option R
 |0,_=>none
 |
  n+1,σ=>w σ fun e σ'=>match e with
  | .normal=>HL w k n σ'
  |e=>k e σ'
end
section
variable(P:Program) (G:bM) (I:List IC) (H:Hs) (Γ:List aZ)
def walk:Code→Ctx→Bool→{R:Type}→St→(fM→St→Option R)→Option R
 | .skip,_,_,_,σ,k=>k .normal σ
 | .label _,_,_,_,σ,k=>k .normal σ
 | .scope c,gl,fr,_,σ,k=>walk c gl fr σ k
 | .exit i,_,_,_,σ,k=>k (.exit i) σ
 | .ret,_,_,_,σ,k=>k .ret σ
 | .region id ops draw,gl,fr,_,σ,k=>Az P G gl fr H Γ id ops draw σ k
 |
  .seq x z,gl,fr,_,σ,k=>match O9 H.join z with
  |
   none=>walk x gl fr σ fun e σ'=>match e with
   | .normal=>walk z gl fr σ' k
   |e=>k e σ'
  |some S=>aI (walk x gl fr σ (toJ S k)) fun d=>walk z gl fr (S.st y0 d) k
 |
  .cond c x z,gl,fr,_,σ,k=>match bD gl σ.tm c with
  | .val .bool b=>if b=true then walk x gl fr σ k else walk z gl fr σ k
  |_=>none
 |
  .block id c,gl,fr,_,σ,k=>match XG H.cN id with
  |none=>walk c gl fr σ (unB id k)
  |some S=>aI (walk c gl fr σ (toB id S k)) fun d=>k .normal (S.st y0 d)
 |
  .loop c,gl,fr,_,σ,k=>match O9 H.unr c with
  |some n=>HL (fun σ k=>walk c gl fr σ k) k n σ
  |
   none=>match O9 H.loop c with
   |none=>none
   |
    some L=>match L.S.uD σ with
    |none=>none
    |
     some u=>aL (fun rec u=>walk c gl fr (L.S.st y0 u) fun e σ'=>match e with
     | .normal=>Option.bind (L.S.uD σ') rec
     |e=>k e σ') (L.fuel u) u
 |
  .rangeFunc g ps assign body,gl,fr,_,σ,k=>if fr then(match O9 H.Cp body with
  |none=>none
  |
   some rh=>match I[rh.ic]?,rh.S.uD σ with
   |
    some C,some u=>match bD gl (rh.S.st y0 u).tm g with
    |
     .func (.func gf) .nil cs=>if TZ (rh.S.st y0 u) rh C cs then
      xP fun y=>T0 (rh.S.st y0 u) y rh gf cs (C.Wt y.l (Wv y rh C ps (rh.S.st y0 u) (fun σ1 k1=>walk assign (gl.tZ y.l) false σ1 k1) (fun σ1 k1=>walk body (gl.tZ y.l) false σ1 k1))) k
     else none
    |_=>none
   |_,_=>none) else none
 |_,_,_,_,_,_=>none
end
theorem wI:∀{l:List Oper}{tm:List AV},(forget l tm).length=tm.length
 |[],_=>rfl
 |
  o::l,tm=>by
  unfold forget
  rw[wI]
  split<;>simp
theorem wJ{i:Nat}{x:AV}:∀{l:List Oper}{tm:List AV},(forget l tm)[i]? =some x→x= .bot∨(tm[i]? =some x∧∀o∈l,o.dst≠some i)
 |[],_,h=>Or.inr ⟨h,fun _ ho=>by cases ho⟩
 |
  o::l,tm,h=>by
  unfold forget at h
  rcases wJ h with h|⟨h,hl⟩<;>grind
theorem LJ:∀{l:List (Nat×Ty)}{tm:List AV}{d:prod (T1 l)},mgG l tm=some d→∀i x,(i,x)∈mgV l d→tm[i]? =some x
 |[],_,_,_,i,x,hx=>by cases hx
 |
  (j,t)::l,tm,d,h,i,x,hx=>by
  unfold mgG at h
  split at h
  ·rename_i u z hz
   split at h
   ·rename_i hs
    split at h
    ·rename_i d' hd'
     cases h
     simp only[mgV,fa,il] at hx
     rcases hx with⟨rfl,rfl⟩|hx
     ·rw[hz,yJ hs]
     ·exact LJ hd' i x hx
    grind
   grind
  grind
theorem Dn{gl:Ctx}:∀{fs:List aW}{i:Nat}{σ σ':St},qj P gl ops i fs σ σ'→Jf fs=true→(∀(k:Nat)(f:aW)(o:Oper),fs[k]? =some f→ops[i+k]? =some o→f.dst=o.dst)→i+fs.length≤ops.size→
 σ'.hp=σ.hp∧σ'.df=σ.df∧σ'.tm.length=σ.tm.length∧∀t,(∀o∈ops.toList,o.dst≠some t)→σ'.tm[t]? =σ.tm[t]?
 |[],i,σ,σ',h,_,_,_=>by simp_all[bW]
 |
  f::fs,i,σ,σ',⟨_,_,h3⟩,hn,hd,hl=>by
  simp only[Jf,List.all_cons,bj,List.isEmpty_iff] at hn
  obtain⟨a,b,c,d⟩:=Dn h3 (by simpa[Jf] using hn.2) (fun k f' o h1 h2=>hd (k+1) f' o (by grind) (by grind)) (by grind)
  refine⟨by rw[a,gX,hn.1];rfl,by rw[b,vV],by rw[c,rW],?_⟩
  intro t ht
  rw[d t ht]
  have hlt:i<ops.size:=by grind
  have:=hd 0 f ops[i] rfl (by grind)
  grind [gY]
variable{α:Type}{β:Type}
theorem map_some{x:Option α}{f:α→β}{r:β}(h:x.map f=some r):∃a,x=some a∧f a=r:=by
 simp_all
theorem cI.XI{gl:Ctx}{c:Code}{Q:fM→St→Prop}(h:cI P gl c σ (fun e σ'=>match e with| .panic v=>Q (.panic v) σ'|e=>∃σ2,Wk gl σ' σ2∧Q e σ2)):cI P gl c σ Q:=by
 intro E a w hg
 refine wpIn_mono (h E a w hg) ?_
 rintro ex a' w' ⟨x,σ',E',h1,h2,h3,h4⟩
 cases x with
 |panic v=>exact⟨_,σ',E',h1,h2,h3,h4⟩
 |
  normal=>
  obtain⟨σ2,hw,hq⟩:=h2
  obtain⟨E2,g2,x2⟩:=hw E' a' w' h3
  cases ex<;>first|exact h1.elim|exact⟨.normal,σ2,E2,trivial,hq,g2,h4.trans x2⟩
 |
  exit i=>
  obtain⟨σ2,hw,hq⟩:=h2
  obtain⟨E2,g2,x2⟩:=hw E' a' w' h3
  cases ex<;>first|trivial|exact⟨.exit i,σ2,E2,h1,hq,g2,h4.trans x2⟩
 |
  ret=>
  obtain⟨σ2,hw,hq⟩:=h2
  obtain⟨E2,g2,x2⟩:=hw E' a' w' h3
  cases ex<;>first|trivial|exact⟨.ret,σ2,E2,trivial,hq,g2,h4.trans x2⟩
section
variable{P:Program} {G:bM} (T:bA P G) {gl:Ctx} {fr:Bool} {H:Hs} {Γ:List aZ} (hΓ:∀C∈Γ,C.holds P gl)
include T hΓ
omit hΓ T in
theorem wK{l:List VC}:∀{vs:List VC},dC (vs++l)→dC vs∧dC l
 |[],h=>⟨trivial,h⟩
 |_::_,h=>⟨⟨h.1,(wK h.2).1⟩,(wK h.2).2⟩
omit hΓ T in
theorem LK{a b:AV}{l:List VC}(h:LB a b=some l)(hv:dC l):a=b:=by
 unfold LB at h
 split at h
 ·split at h
  ·rename_i hs
   cases h
   have:=Ty.aB hs
   subst this
   have e:=hv.1
   simp only[lW] at e
   rw[e]
  ·cases h
 ·rfl
 ·split at h
  ·rename_i hb;rw[bL hb]
  ·cases h
 ·split at h
  ·rename_i hb
   simp only[bj] at hb
   rw[bL hb.1,wH hb.2]
  ·cases h
 ·cases h
omit hΓ in
theorem Dp{ops:Array Oper}{R:Type}{σ:St}{fs:List aW}{j:Nat}{K:Option R}{r:R}:∀{l:List Nat},HK P G gl ops σ fs j K l=some r→(∀i f,i∈l→fs[i]? =some f→oV P gl ops i f (cq (fun x=>decide (x<j+1)) 0 fs σ))∧K=some r
 |[],h=>⟨fun i f hi=>(by cases hi),h⟩
 |
  i::l,h=>by
  unfold HK at h
  split at h
  ·cases h
  rename_i hno
  split at h
  ·rename_i f g vcs ob hf hs
   split at h
   ·rename_i l hl
    obtain⟨hc,h⟩:=bJ h
    obtain⟨hv,h⟩:=fe h
    obtain⟨ih,hk⟩:=Dp h
    simp only[bj,List.isEmpty_iff,mq] at hc
    obtain⟨⟨⟨⟨⟨⟨c1,c2⟩,c3⟩,c4⟩,c5⟩,c6⟩,c7⟩:=hc
    have hv1:=wK hv
    have ev:=LK hl hv1.2
    have e:f=g:=by
     cases f;cases g;simp_all
    refine⟨fun i' f' e1 e2=>?_,hk⟩
    rcases List.mem_cons.1 e1 with rfl|e1
    ·rw[hf] at e2
     cases e2
     rw[e]
     exact kQ T rfl hs hv1.1 (kL hs fun h=>absurd h hno)
    ·exact ih i' f' e1 e2
   ·cases h
  ·cases h
omit hΓ in
theorem LM{lt:Option (List Nat×Nat)}{ops:Array Oper}{R:Type}{σ:St}{fs:List aW}{K:Option R}{r:R}(h:LC P G gl lt ops σ fs K=some r):(∀l i j f,lt=some (l,j)→i∈l→fs[i]? =some f→oV P gl ops i f (cq (fun x=>decide (x<j+1)) 0 fs σ))∧K=some r:=by
 unfold LC at h
 split at h
 ·exact⟨fun l i j f e=>(by cases e),h⟩
 ·rename_i l j
  obtain⟨h1,h2⟩:=Dp T h
  refine⟨fun l' i j' f e hi hf=>?_,h2⟩
  cases e
  exact h1 i f hi hf
omit hΓ in
theorem HM{lt:Option (List Nat×Nat)}{ops:Array Oper}{draw:Bool}{R:Type}{σ σ':St}{k:St→Option R}{fs:List aW}{r:R}(h:Pd P G gl lt ops draw σ k fs σ'=some r):(draw=true→(lT lt ops fs.reverse&&iS σ fs.reverse)=true∧∀l i j f,lt=some (l,j)→i∈l→fs.reverse[i]? =some f→oV P gl ops i f (cq (fun x=>decide (x<j+1)) 0 fs.reverse σ))∧k σ'=some r:=by
 unfold Pd at h
 cases draw with
 |false=>exact⟨fun e=>(vJ e).elim,h⟩
 |
  true=>
  rw[aA rfl] at h
  obtain⟨h1,h2⟩:=bJ h
  obtain⟨h3,h4⟩:=LM T h2
  exact⟨fun _=>⟨h1,h3⟩,h4⟩
omit hΓ in
theorem Jg{id:Nat}{ops:Array Oper}{draw:Bool}{σ σ':St}{Q:fM→St→Prop}(hro:gl.ro=none)(h:E8 P G gl ops draw σ=some σ')(hq:Q .normal σ'):cI P gl (.region id ops draw) σ Q:=by
 unfold E8 at h
 split at h
 ·rename_i o0 o1
  split at h
  ·cases h
  rename_i hcl
  split at h
  ·rename_i f ob h0
   split at h
   ·rename_i x hfr ho hg hd
    split at h
    ·rename_i fn cs hv
     cases h
     intro E a w hgm
     refine wpIn_region ?_
     show wpOpsIn _ _ _ _ _ [0,1] _ _
     rw[wpOpsIn_cons]
     have hob:∀p∈ob,p:=kL h0 (fun e=>absurd e (by trivial))
     refine kQ T rfl h0 trivial hob σ (iR.refl _ _ _) (fun d hd=>St.dP ((List.all_eq_true.1 hfr) d hd)) E a w hgm _ _ ?_
     intro E1 a1 w1 hg1 hx1
     rw[wpOpsIn_cons]
     have e1:(#[o0,o1]:Array Oper)[1]? =some o1:=rfl
     unfold wpOpIn
     simp only[e1]
     have hw:Region.wanted o1 (yielded #[o0,o1] a1.tmps)=true:=by simp[Region.wanted,hg]
     rw[aA hw]
     have hv1:=gi hg1 x
     rw[hv] at hv1
     obtain⟨f',c',ev,r1,r2,r3,r4⟩:∃f' c',a1.eval x= .func fn f' c'∧RC E1 w1 .nil f'.toList∧RC E1 w1 cs c'.toList∧AV.nil.atoms=true∧cs.atoms=true:=by
      rcases RV.jd rfl hv1 with⟨hh,_⟩|⟨_,hh⟩
      ·cases hh
      ·obtain⟨f',c',e,q⟩:=hh
       grind
     have hf':f'= #[]:=by apply lQ;trivial
     subst hf'
     refine⟨fun _ _=>trivial,?_⟩
     have hs:(o1.semAt (Wd gl).round a1.eval).run P w1= .ok (.defer {target:=.fn fn c',args:= #[]}) w1:=by
      simp_all[Oper.semAt_none,execOp,resolve,Deferred.ofValue]
     rw[hs,Oper.uponIn_defer,hd]
     have hg2:bQ gl {σ.app f with df:=.func fn .nil cs::(σ.app f).df} E1 {a1 with defers:={target:=.fn fn c',args:= #[]}::a1.defers} w1:=
      ⟨hg1.len,hg1.tm,hg1.hw,⟨⟨#[],c',rfl,r1,r2,r3,r4⟩,hg1.df⟩⟩
     exact⟨.normal,_,E1,trivial,hq,hg2,hx1⟩
    grind
   grind
  grind
 grind
omit T hΓ in
theorem LN{id:Nat}{ops:Array Oper}{s d d1:Nat}(hn:E9 ops=some (s,d,d1)){R:Type}{σ:St}{k:fM→St→Option R}{r:R}(h:LF s d d1 σ k=some r):cI P gl (.region id ops false) σ (fun e σ'=>k e σ'=some r):=by
 unfold E9 at hn
 split at hn
 ·rename_i o0 o1
  split at hn
  ·rename_i s' d' d'' d1' h0 hg0 hd0 h1 hg1 hd1
   obtain⟨hd,hn⟩:=bJ hn
   cases hn
   have hd:=bL hd
   subst hd
   unfold LF at h
   split at h
   ·rename_i b hs
    split at h
    ·rename_i kt vt rest cur hb
     obtain⟨hl,h⟩:=bJ h
     refine cI.next h0 hg0 hd0 h1 hg1 hd1 hs (bR _ b _ hb) hl ?_ ?_
     ·grind
     ·intro i hi
      rw[aC (by grind)] at h
      exact Ja h i hi
    grind
   grind
  grind
 grind
variable(hro:fr=true→gl.ro=none)
include hro
theorem tE{id:Nat}{ops:Array Oper}{draw:Bool}{zs:List (Nat×Nat×Ty)}{cs:List CH}{mg:Option (List (Nat×Ty))}{lt:Option (List Nat×Nat)}{R:Type}{σ:St}{k:fM→St→Option R}{r:R}(h:qA P G gl fr Γ ops draw zs cs mg lt σ k=some r):cI P gl (.region id ops draw) σ (fun e σ'=>k e σ'=some r):=by
 have key:∀{gs:List aW}{σ':St}{Q:fM→St→Prop},qj P gl ops 0 gs σ σ'→gs.length=ops.size→(draw=true→(lT lt ops gs&&iS σ gs)=true∧∀l i j f,lt=some (l,j)→i∈l→gs[i]? =some f→oV P gl ops i f (cq (fun x=>decide (x<j+1)) 0 gs σ))→Q .normal σ'→cI P gl (.region id ops draw) σ Q:=by
  intro gs σ' Q hc hn gy hq
  cases draw with
  |false=>exact fun E _ _ hg=>EH hn hc hg (fun E' _ _ h1 h2=>⟨.normal,σ',E',trivial,hq,h1,h2⟩)
  |
   true=>
   obtain⟨gy,hL⟩:=gy rfl
   simp only[bj] at gy
   exact fun E _ _ hg=>EJ T gy.1 gy.2 hL hc hg (fun E' _ _ h1 h2=>⟨.normal,σ',E',trivial,hq,h1,h2⟩)
 unfold qA at h
 split at h
 ·obtain⟨hf,h⟩:=bJ h
  grind [Jg]
 split at h
 ·rename_i s d d1 hn
  cases draw with
  |true=>grind
  |false=>rw[aC vJ] at hn;exact LN hn h
 split at h
 ·rcases pa T hΓ h with⟨gs,σ',hc,hn,_,hk⟩|⟨gs,f,σ',hc,hn,hp,hk⟩
  ·simp only[fH] at hk
   obtain⟨h1,h2⟩:=HM T hk
   simp only[List.reverse_reverse] at h1
   exact key hc hn h1 h2
  ·simp only[fH] at hk
   unfold LD at hk
   simp only[List.reverse_reverse,List.length_reverse] at hk
   obtain⟨h1,h2⟩:=bJ hk
   simp only[bj] at h1
   rw[eK] at hp
   have hz:σ.hp.length -1<σ.hp.length:=by simp_all
   obtain⟨ms,σe,k1,k2,k3,k4⟩:=pd T h2
   simp only[List.reverse_nil,List.nil_append] at k4
   have hze:(σ'.app (wo f (σ.hp.length -1))).hp[σ.hp.length -1]? =some (some EV):=by
    rw[gX]
    simp only[wo,aS,dq,cj]
    rw[aA (by rw[bW.hl hc];exact hz)]
   have k1:=k1 hze
   cases draw with
   |false=>exact wu T hc hp k1 k3 hz (by omega) (fun e=>(vJ e).elim) h1.2 k4
   |
    true=>
    rw[aA rfl] at k4
    obtain⟨q3,q4⟩:=bJ k4
    grind [wu]
 ·rename_i l
  obtain⟨d,hd,h⟩:=bind_some h
  rcases pa T hΓ hd with⟨gs,σ',hc,hn,hdst,hk⟩|⟨_,_,_,_,_,_,hk⟩
  case inr=>cases hk
  simp only[fH] at hk
  obtain⟨hw,hk⟩:=bJ hk
  obtain⟨h1,h2⟩:=HM T hk
  simp only[List.reverse_reverse] at h1
  have hw':Jf gs=true:=by simpa[Jf] using hw
  obtain⟨e1,e2,e3,e4⟩:=Dn hc hw' hdst (by omega)
  obtain⟨t,ht,rfl⟩:=map_some h2
  refine cI.XI (key hc hn h1 ⟨_,?_,h⟩)
  grind [Wk.sub,XH,o9,wI,qx,lk,LJ,wJ]
omit T hΓ hro in
theorem AA{R:Type}{r:R}{K:St→Option R}:∀{l:List (Nat×Nat)}{σ:St},LG l σ K=some r→∃σ',Wk gl σ σ'∧K σ'=some r
 |[],σ,h=>⟨σ,Wk.refl gl σ,h⟩
 |
  (b,s)::l,σ,h=>by
  unfold LG at h
  split at h
  ·rename_i k n e bs t xs hs hb
   obtain⟨hv,h⟩:=fe h
   split at h
   ·rename_i σ1 h1
    obtain⟨σ',h2,h3⟩:=AA h
    refine⟨σ',Wk.trans (Wk.ac2 h1 ?_) h2,h3⟩
    intro e' bs' t' xs' hb'
    rw[hb] at hb'
    cases hb'
    exact(Int.toNat_lt hv.1).2 hv.2.1
   ·cases h
  ·rename_i c i e bs t xs hs hb
   obtain⟨hc,h⟩:=bJ h
   have hc:=bL hc
   subst hc
   split at h
   ·rename_i σ1 h1
    obtain⟨σ',h2,h3⟩:=AA h
    exact⟨σ',Wk.trans (Wk.ac3 hs h1) h2,h3⟩
   ·cases h
  ·cases h
omit T hΓ hro in
theorem cI.Wu{c:Code}{σ:St}{Q:fM→St→Prop}{b:Nat}{e:TypeId}{bs:Nat}{t:Ty}{xs:List t.den}(hb:σ.hp[b]? =some (some (.fZ e bs t xs)))
 (h:∀ys:List t.den,ys.Perm xs→cI P gl c {σ with hp:=σ.hp.set b (some (.row e bs t ys))} Q):cI P gl c σ Q:=by
 intro E a w hg
 obtain⟨ys,hp,g1⟩:=hg.XP hb
 have x1:Ext gl.md (bx σ.hp E) E w (bx (σ.hp.set b (some (.row e bs t ys))) E) E w:=by rw[bx.same hb];exact Ext.refl _ _ _
 refine wpIn_mono (h ys hp E a w g1) ?_
 rintro ex a2 w2 ⟨x,σ2,E2,h1,h2,h3,h4⟩
 exact⟨x,σ2,E2,h1,h2,h3,x1.trans h4⟩
omit T hΓ hro in
theorem sk{R:Type}{r:R}{K:St→Option R}{c:Code}{Q:fM→St→Prop}(hK:∀σ',K σ'=some r→cI P gl c σ' Q):∀{l:List PF}{σ:St},JZ l σ K=some r→cI P gl c σ Q
 |[],σ,h=>hK σ h
 |
  .row b d k::l,σ,h=>by
  unfold JZ at h
  split at h
  ·rename_i kk n e bs t xs e2 f hs hb
   obtain⟨hv,h⟩:=fe h
   split at h
   ·rename_i σ1 h1
    refine cI.wk (Wk.Mk h1 ?_) (sk hK h)
    intro e' bs' t' xs' e2' f' hb'
    rw[hb] at hb'
    cases hb'
    exact(Int.toNat_lt hv.1).2 hv.2.1
   grind
  grind
 |
  .map mode b d k::l,σ,h=>by
  unfold JZ at h
  split at h
  ·rename_i t x hs
   split at h
   ·rename_i vcs σ1 h1
    obtain⟨hv,h⟩:=fe h
    exact cI.wk (Wk.Mn h1 hv) (sk hK h)
   grind
  grind
 |
  .eN b::l,σ,h=>by
  unfold JZ at h
  split at h
  ·rename_i σ1 h1
   exact cI.wk (Wk.pq h1) (sk hK h)
  grind
 |
  .XC b k::l,σ,h=>by
  unfold JZ at h
  split at h
  ·rename_i t x hs
   split at h
   ·rename_i σ1 h1
    exact cI.wk (Wk.Mp h1) (sk hK h)
   grind
  grind
 |
  .Wu b::l,σ,h=>by
  unfold JZ at h
  split at h
  ·rename_i e bs t xs hk
   exact cI.Wu (bR σ.hp b _ hk) (fun ys hp=>sk hK (FC h hp))
  grind
theorem Fb{id:Nat}{ops:Array Oper}{draw:Bool}{R:Type}{σ:St}{k:fM→St→Option R}{r:R}(h:Az P G gl fr H Γ id ops draw σ k=some r):cI P gl (.region id ops draw) σ (fun e σ'=>k e σ'=some r):=by
 unfold Az at h
 split at h
 ·exact tE T hΓ hro h
 ·split at h
  ·rename_i σ0 h0
   obtain⟨σ1,h1,h2⟩:=AA (gl:=gl) h
   refine cI.post (cI.gh _ h0 (cI.wk h1 (sk (fun σ2 h4=>tE T hΓ hro h4) h2))) ?_ ?_
   ·intro e σ' hne he
    cases e with
    |normal=>grind
    |_=>exact he
   grind [SF,FD]
  grind
omit hΓ T hro in
theorem LO{c:Code}{R:Type}{w:St→(fM→St→Option R)→Option R}(ih:∀{σ:St}{k:fM→St→Option R}{r:R},w σ k=some r→cI P gl c σ (fun e σ'=>k e σ'=some r)){k:fM→St→Option R}{r:R}{n:Nat}{σ:St}
 (h:HL w k n σ=some r):cI P gl (.loop c) σ (fun e σ'=>k e σ'=some r):=by
 refine cI.loop (fun n σ=>HL w k n σ=some r) ?_ h
 intro n σ1 hn
 cases n with
 |zero=>cases hn
 |
  succ n=>
  refine cI.mono (ih hn) ?_
  intro e σ2 he
  cases e with
  |normal=>exact⟨n,Nat.lt_succ_self n,he⟩
  |_=>exact he
omit hΓ T hro in
theorem LR{c:Code}{R U:Type}{r:R}{k:fM→St→Option R}{F:(U→Option R)→U→Option R}{st:U→St}{uD:St→Option U}(hm:∀σ u,uD σ=some u→Wk gl σ (st u))
 (ih:∀{rec:U→Option R}{u:U},F rec u=some r→cI P gl c (st u) (fun e σ'=>(match e with| .normal=>Option.bind (uD σ') rec|e=>k e σ')=some r)) {n:Nat} {σ:St} {u:U} (hu:uD σ=some u)
 (h:aL F n u=some r):cI P gl (.loop c) σ (fun e σ'=>k e σ'=some r):=by
 refine cI.loop (fun n σ=>∃u,Wk gl σ (st u)∧aL F n u=some r) ?_ ⟨u,hm σ u hu,h⟩
 rintro n σ1 ⟨u1,hw,hn⟩
 cases n with
 |zero=>cases hn
 |
  succ n=>
  refine cI.wk hw (cI.mono (ih hn) ?_)
  intro e σ2 he
  cases e with
  |
   normal=>
   obtain⟨u2,h1,h2⟩:=bind_some he
   exact⟨n,Nat.lt_succ_self n,u2,hm σ2 u2 h1,h2⟩
  |_=>exact he
end
variable{C':Ctx}{H':List (Option aO)}
theorem Fy.up{C:Ctx}{l:Nat}{A:List AV}{H:List (Option aO)}{r:xN}(hg:C'.gl=C.gl)(hC:∀S w,C.B S w)(h:Fy P C l A H r H')(hm:C'.md=C.md):Fy P C' l A H r H':=by
 intro E w vs hv hw
 obtain⟨fn,tm,asz,bd,h1,h2⟩:=h E w vs hv (hw.ctx hg.symm (hC _ _))
 refine⟨fn,tm,asz,bd,h1,RoundIn.mono h2 ?_⟩
 rintro e w' ⟨E',r1,r2,r3⟩
 rw[←hm] at r3
 exact⟨E',r1,r2.ctx hg (hw.gB (hw.kept r3)).2,r3⟩
theorem K9.up{C:Ctx}{fn:Fn}{A:List AV}{H:List (Option aO)}{r:xN}(hg:C'.gl=C.gl)(hC:∀S w,C.B S w)(h:K9 P C fn A H r H')(hm:C'.md=C.md):K9 P C' fn A H r H':=by
 cases fn with
 |func f=>exact Fc.up hg hC h hm
 |yield l=>exact Fy.up hg hC h hm
 |_=>trivial
theorem aZ.holds.up{gl gl':Ctx}{C:aZ}(h:C.holds P gl)(hg:gl'.gl=gl.gl)(hB:∀S w,gl.B S w)(hm:gl'.md=gl.md:=by rfl):C.holds P gl':=
 ⟨fun d r hd=>K9.up hg hB (h.ret d r hd) hm,fun d x hd=>K9.up hg hB (h.kr d x hd) hm⟩
theorem Fy.less{C:Ctx}{l:Nat}{A:List AV}{H H1 H2:List (Option aO)}{r:xN}(h:Fy P C l A H r H1)(hs:∀(b:Nat)(k:aO),H2[b]? =some (some k)→H1[b]? =some (some k)):Fy P C l A H r H2:=by
 intro E w vs hv hw
 obtain⟨fn,tm,asz,bd,h1,h2⟩:=h E w vs hv hw
 refine⟨fn,tm,asz,bd,h1,RoundIn.mono h2 ?_⟩
 rintro e w' ⟨E',r1,r2,r3⟩
 exact⟨E',r1,r2.less hs,{r3 with own:=fun g ⟨b,k,hb,hg⟩=>r3.own g ⟨b,k,hs b k hb,hg⟩}⟩
theorem yT:∀{l H:List (Option aO)},H.length≤l.length→(∀(b:Nat)(k:aO),H[b]? =some (some k)→l[b]? =some (some k))→∃m,prune l m=H
 |l,[],_,_=>⟨[],by cases l<;>rfl⟩
 |[],x::H,h,_=>by simp at h
 |
  y::l,x::H,h,hs=>by
  obtain⟨m,hm⟩:=yT (l:=l) (H:=H) (by simpa using h) (fun b k hb=>by simpa using hs (b+1) k (by simpa using hb))
  cases x with
  |none=>exact⟨false::m,by simp[prune,hm]⟩
  |
   some k=>
   have:y=some k:=by simpa using hs 0 k rfl
   exact⟨true::m,by simp[prune,hm,this]⟩
theorem wL{gs:Nat→Nat}{ti:List (Nat×Ty)}:∀{l:List (Option aO)}{s i:Nat},(tie gs ti s l)[i]? =some none→l[i]? =some none
 |[],s,i,h=>by trivial
 |none::l,s,0,h=>rfl
 |some x::l,s,0,h=>by simp[tie] at h
 |none::l,s,i+1,h=>by simpa using wL (l:=l) (by simpa[tie] using h)
 |some x::l,s,i+1,h=>by simpa using wL (l:=l) (by simpa[tie] using h)
variable{gs:Nat→Nat}
theorem LS{i:Nat}{k k':aO}(h1:E7 (some k)=false)(h2:E7 (some k')=false)(h:mM gs ti i k=mM gs ti i k'):k=k':=by
 cases k with
 |
  var t v=>
  cases k' with
  |
   var t' v'=>
   grind [mM]
  |tv=>trivial
  |_=>grind [mM]
 |tv=>trivial
 |
  _=>
  cases k' with
  |var t' v'=>grind [mM]
  |tv=>trivial
  |_=>exact h
theorem HN{y:YC}:∀{m:List (Nat×db)}{l:List Type}{d:prod (iu m l)}{b:Nat}{k:aO},(b,k)∈oE y m d→∃s,(b,s)∈m
 |[],_,_,_,_,h=>by cases h
 |
  (i,s)::m,_,d,b,k,h=>by
  simp only[oE,fa,il] at h
  rcases h with⟨rfl,_⟩|h
  ·grind
  ·obtain⟨s',hs⟩:=HN h
   exact⟨s',dv _ hs⟩
variable{out:List (Nat×aO)}
theorem fg{m:Nat}{b:Nat}{k:aO}(h:(cX m out)[b]? =some (some k)):(b,k)∈out:=by
 unfold cX at h
 rcases fk h with h|⟨_,h⟩<;>grind
theorem Dq{m:Nat}:(cX m out).length=m:=by unfold cX;rw[kH,sV]
theorem wM{i:Nat}:∀{out:List (Nat×aO)},i∈wrote (out.map fun x=>(x.1,some x.2))→∃k,(i,k)∈out
 |[],h=>by cases h
 |
  (j,k)::out,h=>by
  simp only[dy,wrote,fa] at h
  rcases h with rfl|h
  ·grind
  ·obtain⟨k',hk⟩:=wM h
   exact⟨k',dv _ hk⟩
theorem Jh{m i b:Nat}{x:aO}(hi:∀k,(i,k)∉out)(hm:i<m):(cX m ((i,x)::out))[b]? =if b=i then some (some x) else(cX m out)[b]? :=by
 have hw:i∉wrote (out.map fun x=>(x.1,some x.2)):=by
  grind [wM]
 unfold cX
 simp only[dy,aS]
 split
 ·rename_i e
  subst e
  rw[ep hw,dq,aA rfl,aA (by simpa using hm)]
 ·rename_i e
  exact iB (by simp) (by rw[dq,aC (fun e'=>e e'.symm)])
variable{rh:O5}
theorem LU{gl:Ctx}{y:YC}{C:IC}{e:fM}{r:fP (Nat::iu C.R [])}(h:LA y rh C e σ=some r):∃σE,TW rh.jl e=some (rD (Nat::iu C.R []) r).1∧Wk gl σ σE∧xQ σE.hp=true∧C.m≤σE.hp.length∧
 ∀i x,(i,x)∈oE y0 C.R (rD (Nat::iu C.R []) r).2→(tie y.gs rh.ti 0 σE.hp)[i]? =some (some x):=by
 unfold LA at h
 split at h
 ·rename_i j u hj hu
  obtain⟨hc,h⟩:=bJ h
  simp only[bj] at hc
  split at h
  ·rename_i d hd
   cases h
   rw[qx]
   exact⟨_,hj,SS.iE hu,hc.1,iP hc.2,(ER y0 hd).1⟩
  grind
 grind
variable{assign:Code}{body:Code}
theorem T3{gl Cx:Ctx}{y:YC}{C:IC}{ps:Array Tmp}{wA wB:St→(fM→St→Option (fP (Nat::iu C.R [])))→Option (fP (Nat::iu C.R []))}
 (hA:∀σ1 k1 r1,wA σ1 k1=some r1→cI P (gl.tZ y.l) assign σ1 (fun e σ'=>k1 e σ'=some r1)) (hB:∀σ1 k1 r1,wB σ1 k1=some r1→cI P (gl.tZ y.l) body σ1 (fun e σ'=>k1 e σ'=some r1))
 (hk:C.k0<C.m) (hR:(C.R.all fun x=> !Nat.beq x.1 C.k0)=true) (hof:EY P gl σ.tm ps assign body C.k0 rh.ti rh.m rh.jl Cx y):(C.Y y.l (Wv y rh C ps σ wA wB)).holds P Cx:=by
 refine⟨?_,fun _ _ h=>h.elim⟩
 intro d r hd
 have hd':Wv y rh C ps σ wA wB d=some r:=hd
 unfold Wv at hd'
 split at hd'
 case h_2=>cases hd'
 rename_i vcs H0 htok
 obtain⟨hv,hd'⟩:=fe hd'
 obtain⟨hc,hd'⟩:=bJ hd'
 simp only[bj] at hc
 obtain⟨r0,hw,hd'⟩:=bind_some hd'
 split at hd'
 case h_2=>cases hd'
 rename_i vs H1 htok1
 obtain⟨hv1,hd'⟩:=fe hd'
 obtain⟨hto,hd'⟩:=bJ hd'
 have er:=kD hd'
 obtain⟨t1,t2,t3,t4⟩:=uE htok hv
 obtain⟨u1,u2,u3,u4⟩:=uE htok1 hv1
 rw[Dq] at u1
 have lX:(aS (List.replicate C.m none) (dc (oE y0 C.B (As C.A d)))).length=C.m:=by rw[kH,sV]
 rw[lX] at t1
 have hnk:∀k,(C.k0,k)∉oE y0 C.R (rD (Nat::iu C.R []) r0).2:=by
  intro k hm
  obtain⟨s,hs⟩:=HN hm
  have:=(List.all_eq_true.1 hR) _ hs
  simp_all
 have hX0:(cX C.m (oE y0 C.R (rD (Nat::iu C.R []) r0).2))[C.k0]? =some none:=by
  cases h:(cX C.m (oE y0 C.R (rD (Nat::iu C.R []) r0).2))[C.k0]? with
  |none=>grind [Dq]
  |
   some x=>
   cases x with
   |none=>rfl
   |some k=>exact absurd (fg h) (hnk k)
 have h10:H1[C.k0]? =some none:=by
  grind [wL]
 have hX1:∀i:Nat,(cX C.m (oE y0 C.R (rD (Nat::iu C.R []) r0).2))[i]? =(tie y.gs rh.ti 0 H1)[i]? :=by
  intro i
  by_cases hi:i=C.m
  ·simp_all[nJ]
  grind
 have hF:=hof (xG y0 C.A d) H0 H1 (rD (Nat::iu C.R []) r0).1 (bL hc.1) (t2 C.k0 (by omega) (by grind)).2 h10 hc.2 hto ?_
 ·show Fy P Cx y.l (xG y0 C.A d) (aS (List.replicate C.m none) (dc (oE y0 C.B (As C.A d)))) (.ret (.val .bool (rD C.T r).1)) (cX C.m ((C.k0,.lp (rD C.T r).2.1 (rD C.T r).2.2.1)::oE y0 C.R (rD C.T r).2.2.2))
  have e1:rD C.T r=(Nat.beq (rD (Nat::iu C.R []) r0).1 0,y,(rD (Nat::iu C.R []) r0).1,(rD (Nat::iu C.R []) r0).2):=by rw[←er];exact qx C.T _
  rw[e1]
  have eX:(tie y.gs rh.ti 0 H0).set C.k0 (some (.lp y 0))=aS (List.replicate C.m none) (dc (oE y0 C.B (As C.A d))):=by
   apply List.ext_getElem?
   intro i
   rw[dq]
   split
   ·simp_all[nJ]
   grind
  rw[eX] at hF
  refine hF.less ?_
  intro b k hb
  rw[Jh hnk hk] at hb
  grind
 ·refine cI.mono (hA _ _ _ hw) ?_
  intro e σ1 he
  cases e with
  |
   normal=>
   refine cI.mono (hB _ _ _ he) ?_
   intro e σ2 he
   obtain⟨σE,q1,q2,q3,q4,q5⟩:=LU (gl:=gl.tZ y.l) he
   have hpr:∃m,prune σE.hp m=H1:=by
    refine yT (by grind) ?_
    intro b k hb
    have hx:=hX1 b
    rw[Aw hb,eK] at hx
    have:=q5 b _ (fg hx)
    obtain⟨k0,p1,p2⟩:=iM this
    rw[eK] at p2
    rw[p1]
    have nt:∀{l:List (Option aO)}{k:aO},xQ l=true→l[b]? =some (some k)→E7 (some k)=false:=by
     intro l k hn hk
     cases k with
     |tv g t v=>exact absurd hk (HH hn b g t v)
     |_=>rfl
    rw[LS (nt u4 hb) (nt q3 p1) p2]
   obtain⟨m,hm⟩:=hpr
   cases e with
   |normal=>exact⟨by simpa[TW] using q1.symm,σE,m,q2,hm⟩
   |
    ret=>
    obtain⟨j1,c,j2,j3⟩:=yS q1
    refine⟨⟨j1,?_⟩,σE,m,q2,hm⟩
    grind [SD]
   |
    exit i=>
    obtain⟨j1,c,j2,j3⟩:=yS q1
    refine⟨⟨j1,?_⟩,σE,m,q2,hm⟩
    rw[j2]
    cases c<;>simp[Lz] at j3
    rw[j3]
   |panic v=>trivial
  |_=>cases he
theorem XJ{gl:Ctx}{g:Operand}{ps:Array Tmp}(hro:gl.ro=none){gf:FuncId}{cs:AV}(hg:bD gl σ.tm g= .func (.func gf) .nil cs){C:IC}(gy:TZ σ rh C cs=true)(hC:C.holds P gl)
 {wA wB:YC→St→(fM→St→Option (fP (Nat::iu C.R [])))→Option (fP (Nat::iu C.R []))}
 (hA:∀y σ1 k1 r1,wA y σ1 k1=some r1→cI P (gl.tZ y.l) assign σ1 (fun e σ'=>k1 e σ'=some r1)) (hB:∀y σ1 k1 r1,wB y σ1 k1=some r1→cI P (gl.tZ y.l) body σ1 (fun e σ'=>k1 e σ'=some r1))
 {R:Type} {k:fM→St→Option R} {r:R} (h:xP (fun y=>T0 σ y rh gf cs (C.Wt y.l (Wv y rh C ps σ (wA y) (wB y))) k)=some r):cI P gl (.rangeFunc g ps assign body) σ (fun e σ'=>k e σ'=some r):=by
 unfold TZ at gy
 simp only[bj,gS] at gy
 obtain⟨⟨⟨⟨⟨⟨⟨⟨⟨c1,c2⟩,c3⟩,c4⟩,c5⟩,c6⟩,c7⟩,c8⟩,c9⟩,c10⟩:=gy
 refine cI.rangeFunc hro hg rh.dI rh.lI C.k0 c1 c2 c3 c4 rh.ti rh.m c6 c7 c8 rh.jl c9 ?_
 intro y
 have hy:=Je h y
 unfold T0 at hy
 split at hy
 case h_2=>cases hy
 rename_i L ins hL jU
 rcases Dg hy with⟨hfn,hy⟩|hy
 case inr=>cases hy
 split at hy
 case h_2=>cases hy
 rename_i d hd
 rcases CF.De hy with⟨q,hq,hy⟩|⟨x,hx,hy⟩
 case inr=>cases hy
 obtain⟨d1,d2⟩:=aZ.gA hd
 unfold SE at hy
 split at hy
 case h_2=>cases hy
 rename_i hr
 obtain⟨hcr,hy⟩:=bJ hy
 simp only[bj] at hcr
 split at hy
 case h_2=>cases hy
 rename_i y' j hlp
 obtain⟨hv,hy⟩:=fe hy
 have hv:y'=y:=hv.1
 subst hv
 refine⟨j,_,L,ins,_,⟨hr,hL,jU,hcr.1,hcr.2,hlp,rfl⟩,?_,?_⟩
 ·intro B hB' hof
  have hh:=hC B hB' y'.l _ (T3 (wA:=wA y') (wB:=wB y') (hA y') (hB y') (by simp_all) c10 hof)
  have:=hh.ret d q hq
  rw[←hfn,d1,d2] at this
  rw[show(C.Wt y'.l (Wv y' rh C ps σ (wA y') (wB y'))).res q= .fP .nil from hr] at this
  trivial
 ·have:=Pc (P:=P) (gl:=gl) hy
  grind
section
variable{P:Program} {G:bM} (T:bA P G) {I:List IC} {H:Hs} {Γ:List aZ}
include T
theorem j4:∀{c:Code}{gl:Ctx}{fr:Bool}(_hΓ:∀C∈Γ,C.holds P gl)(_hro:fr=true→gl.ro=none)(_hI:fr=true→∀C∈I,C.holds P gl∧∀S w,gl.B S w){R:Type}{σ:St}{k:fM→St→Option R}{r:R},walk P G I H Γ c gl fr σ k=some r→cI P gl c σ (fun e σ'=>k e σ'=some r):=by
 intro c
 induction c with
 |skip=>intro gl fr hΓ hro hI R σ k r h;exact cI.skip h
 |label l=>intro gl fr hΓ hro hI R σ k r h;exact cI.label h
 |scope c ih=>intro gl fr hΓ hro hI R σ k r h;exact cI.scope (ih hΓ hro hI h)
 |exit i=>intro gl fr hΓ hro hI R σ k r h;exact cI.exit h
 |ret=>intro gl fr hΓ hro hI R σ k r h;exact cI.ret h
 |region id ops draw=>intro gl fr hΓ hro hI R σ k r h;exact Fb T hΓ hro h
 |
  seq x z ih1 ih2=>
  intro gl fr hΓ hro hI R σ k r h
  unfold walk at h
  split at h
  ·refine cI.seq (cI.mono (ih1 hΓ hro hI h) ?_)
   intro e σ' he
   cases e with
   |normal=>exact ih2 hΓ hro hI he
   |_=>exact he
  ·rename_i S hS
   unfold aI at h
   obtain⟨o,ho,h⟩:=bind_some h
   refine cI.seq (cI.mono (ih1 hΓ hro hI ho) ?_)
   intro e σ' he
   cases e with
   |
    normal=>
    obtain⟨d,hd,e⟩:=map_some he
    subst e
    exact cI.wk (SS.iE hd) (ih2 hΓ hro hI h)
   |
    _=>
    obtain⟨d,hd,e⟩:=map_some he
    subst e
    cases h
    exact hd
 |
  cond c x z ih1 ih2=>
  intro gl fr hΓ hro hI R σ k r h
  unfold walk at h
  split at h
  ·rename_i b hb
   refine cI.cond hb (fun e=>ih1 hΓ hro hI ?_) (fun e=>ih2 hΓ hro hI ?_)<;>grind
  grind
 |
  block id c ih=>
  intro gl fr hΓ hro hI R σ k r h
  unfold walk at h
  split at h
  ·refine cI.block (cI.mono (ih hΓ hro hI h) ?_)
   intro e σ' he
   cases e with
   |
    exit i=>
    simp only[unB] at he
    simp only[AH]
    split at he<;>simp_all
   |_=>exact he
  ·rename_i S hS
   unfold aI at h
   obtain⟨o,ho,h⟩:=bind_some h
   have fin:∀{σ':St},(S.uD σ').map cK.brk=some o→∃σ2,Wk gl σ' σ2∧k .normal σ2=some r:=by
    intro σ' he
    obtain⟨d,hd,e⟩:=map_some he
    grind [SS.iE]
   have oth:∀{e:fM}{σ':St},(k e σ').map cK.ret=some o→k e σ'=some r:=by
    intro e σ' he
    obtain⟨d,hd,e⟩:=map_some he
    grind
   refine cI.XI (cI.block (cI.mono (ih hΓ hro hI ho) ?_))
   intro e σ' he
   cases e with
   |normal=>exact fin he
   |
    exit i=>
    simp only[toB] at he
    simp only[AH]
    split at he
    ·rename_i hb;rw[aA (bL hb)];grind
    ·rename_i hb;rw[aC (fun e=>hb (by simp_all))];exact⟨σ',Wk.refl gl σ',oth he⟩
   |ret=>exact⟨σ',Wk.refl gl σ',oth he⟩
   |panic v=>exact oth he
 |
  loop c ih=>
  intro gl fr hΓ hro hI R σ k r h
  unfold walk at h
  split at h
  ·grind [LO]
  ·split at h
   ·cases h
   ·split at h
    ·cases h
    ·rename_i u hu
     exact LR (fun σ u=>SS.iE) (fun h=>ih hΓ hro hI h) hu h
 |
  rangeFunc g ps assign body ih1 ih2=>
  intro gl fr hΓ hro hI R σ k r h
  unfold walk at h
  obtain⟨hfr,h⟩:=bJ h
  split at h
  ·cases h
  ·rename_i rh hrh
   split at h
   case h_2=>cases h
   rename_i C u hC hu
   split at h
   ·rename_i gf cs hg
    obtain⟨gy,h⟩:=bJ h
    obtain⟨hC1,hB⟩:=hI hfr C (kB hC)
    have hA:∀(y:YC)(σ1:St) k1 r1,walk P G I H Γ assign (gl.tZ y.l) false (R:=fP (Nat::iu C.R [])) σ1 k1=some r1→cI P (gl.tZ y.l) assign σ1 (fun e σ'=>k1 e σ'=some r1):=
     fun y σ1 k1 r1 h1=>@ih1 (gl.tZ y.l) false (fun D hD=>(hΓ D hD).up rfl hB) (fun e=>(vJ e).elim) (fun e=>(vJ e).elim) _ _ _ _ h1
    have hB':∀(y:YC)(σ1:St) k1 r1,walk P G I H Γ body (gl.tZ y.l) false (R:=fP (Nat::iu C.R [])) σ1 k1=some r1→cI P (gl.tZ y.l) body σ1 (fun e σ'=>k1 e σ'=some r1):=
     fun y σ1 k1 r1 h1=>@ih2 (gl.tZ y.l) false (fun D hD=>(hΓ D hD).up rfl hB) (fun e=>(vJ e).elim) (fun e=>(vJ e).elim) _ _ _ _ h1
    exact cI.wk (SS.iE hu) <| XJ (wA:=fun y σ1 k1=>walk P G I H Γ assign (gl.tZ y.l) false σ1 k1) (wB:=fun y σ1 k1=>walk P G I H Γ body (gl.tZ y.l) false σ1 k1) (hro hfr) hg gy hC1 hA hB' h
   grind
 |_=>grind [walk]
end
def pick:List Nat→List (Option aO)→List (Nat×aO)
 |[],_=>[]
 |
  b::l,hp=>match hp[b]? with
  |some (some k)=>(b,k)::pick l hp
  |_=>pick l hp
theorem jG{hp:List (Option aO)}:∀{l:List Nat}{b:Nat}{k:aO},(b,k)∈pick l hp→hp[b]? =some (some k)
 |[],_,_,h=>by cases h
 |
  c::l,b,k,h=>by
  simp only[pick] at h
  split at h
  ·rename_i k' hk
   rcases List.mem_cons.1 h with h|h
   ·cases h;exact hk
   ·exact jG h
  ·exact jG h
def aF(G:bM)(rs:List ResultVar)(jH:FuncId)(A:List Sh)(B:List (Nat×db))(m:Nat)(F:SS)(ob:List Nat)(f:CF (prod (tx A (iu B []))) F.T):aZ:=
 ⟨.func jH,A,B,m,F,fun r=>(jf G rs (F.st y0 r)).getD .bot,fun r=>pick ob (F.st y0 r).hp,f⟩
def T4(F:SS):fM→St→Option F.T
 | .ret,σ=>F.uD σ
 | .normal,σ=>F.uD σ
 |_,_=>none
def Fe(σ:St):Option St:=
 match marks σ.df σ.hp with
 |some hp=>some ⟨σ.tm,hp,[]⟩
 |none=>none
def Ff(F:SS):fM→St→Option F.T
 |
  .ret,σ=>match Fe σ with
  |some σ=>F.uD σ
  |none=>none
 |
  .normal,σ=>match Fe σ with
  |some σ=>F.uD σ
  |none=>none
 |_,_=>none
def mi(nt m:Nat)(args:List AV)(ins:List (Nat×Option aO)):St:=⟨args++List.replicate (nt -args.length) .bot,aS (List.replicate m none) ins,[]⟩
def LV{α:Type}:Option α→Bool
 |some _=>true
 |none=>false
theorem mO{x:Option AV}(h:LV x=true):x=some (x.getD .bot):=by
 cases x with
 |none=>cases h
 |some y=>rfl
variable{F:SS}
theorem uG{gl:Ctx}{e:fM}{r:F.T}(h:Ff F e σ=some r):(e= .ret∨e= .normal)∧∃σ1,Fe σ=some σ1∧Wk gl σ1 (F.st y0 r):=by
 cases e with
 |
  ret=>
  simp only[Ff] at h
  split at h
  ·simp_all[SS.iE]
  grind
 |
  normal=>
  simp only[Ff] at h
  split at h
  ·simp_all[SS.iE]
  grind
 |_=>trivial
variable{σe:St}
theorem Ap.AB{G:bM}(T:bA P G){gl:Ctx}{f:FuncId}{fn:Func}{c:Code}(hf:P.funcs[f]? =some fn)(hb:fn.body=some c)(hro:gl.ro=none){args:List AV}{ins:List (Nat×Option aO)}{m:Nat}{x:AV}
 (h:cI P gl c (mi fn.ntmps m args ins) (fun e σ=>(e= .ret∨e= .normal)∧∃σ1,Fe σ=some σ1∧Wk gl σ1 σe)) (_hd:σe.df= []) (amN:jf G fn.results.toList σe=some x) (hout:∀b k,(b,k)∈out→σe.hp[b]? =some (some k)):
 Ap P gl f args (aS (List.replicate m none) ins) (.ret x) (cX m out):=by
 intro E w vs hv hw
 obtain⟨hl,amw⟩:=hv.get
 refine CallsIn.calls (F:=Wd gl) (n:=0) (callsIn_of_wp_marks hf hb trivial ?_ hro) (fun k d hd=>by cases hd)
 have hg:bQ gl (mi fn.ntmps m args ins) E {tmps:=vs.toArray++Array.replicate (fn.ntmps -vs.toArray.size) undef,defers:=[]} w:=by
  refine⟨?_,?_,hw,trivial⟩
  ·grind [mi]
  ·intro i x hx v hv'
   simp only[mi] at hx
   rw[Array.getElem?_append] at hv'
   simp only[List.getElem?_append] at hx
   split at hx
   ·grind
   ·rw[List.getElem?_replicate] at hx
    split at hx
    ·cases hx;trivial
    grind
 refine wpIn_mono (h E _ w hg) ?_
 rintro ex a' w' ⟨e,σ',E',h1,⟨he,σ1,ho,hwk⟩,h3,h4⟩
 have main:LeavesInM (Wd gl) 0 P fn a'.tmps (fun e w'=>∃E',Ao E' w' (.ret x) e∧HW gl E' w' (cX m out)∧Ext gl.md (bx (aS (List.replicate m none) ins) E) E w (bx (cX m out) E') E' w') a'.defers .returning w':=by
  unfold Fe at ho
  split at ho
  ·rename_i hp1 hm
   cases ho
   refine HD σ'.df h3 hm (fun w3 k1 k2=>?_)
   obtain⟨E2,g2,x2⟩:=hwk E' _ w3 k1
   obtain⟨v,k3,k4⟩:=qJ T g2 amN
   have hw2:HW gl E2 w3 (cX m out):=g2.hw.less (fun b k hb=>hout b k (fg hb))
   have hx:Ext gl.md (bx (aS (List.replicate m none) ins) E) E w (bx (cX m out) E2) E2 w3:=
    {(h4.trans k2).trans x2 with own:=fun g ⟨b,k,hb,hgb⟩=>((h4.trans k2).trans x2).own g ⟨b,k,hout b k (fg hb),hgb⟩}
   exact⟨v,k3,E2,k4,hw2,hx⟩
  grind
 rcases he with rfl|rfl
 ·cases ex with
  |ret=>trivial
  |_=>trivial
 ·cases ex with
  |normal=>trivial
  |_=>trivial
variable{jH:FuncId}{A:List Sh}{B:List (Nat×db)}{nt:Nat}
theorem aZ.of{G:bM}(T:bA P G){gl:Ctx}{I:List IC}{H:Hs}(hΓ:∀C∈Γ,C.holds P gl)(hI:∀C∈I,C.holds P gl∧∀S w,gl.B S w)(hro:gl.ro=none){rs:List ResultVar}{m:Nat}{ob:List Nat}{f:prod (tx A (iu B []))→Option F.T}
 {fn:Func} {c:Code} (amu:∀vs w,(callFunc jH vs).run P w= .ok (.enter jH vs) w) (hf:P.funcs[jH]? =some fn) (hb:fn.body=some c) (hrs:fn.results.toList=rs) (hnt:fn.ntmps=nt) (hF:F.df= [])
 (amN:∀r:F.T,LV (jf G rs (F.st y0 r))=true)
 (h:∀d,f d=walk P G I H Γ c gl true (mi nt m (xG y0 A d) (dc (oE y0 B (As A d)))) (Ff F)):
 (aF G rs jH A B m F ob (.br f)).holds P gl:=by
 refine⟨?_,fun _ _ h=>h.elim⟩
 intro d r hd
 have hd':f d=some r:=hd
 rw[h d] at hd'
 refine⟨amu,?_⟩
 have amn:=j4 T hΓ (fun _=>hro) (fun _=>hI) hd'
 subst hnt
 refine Ap.AB T hf hb hro (σe:=F.st y0 r) (cI.mono amn ?_) ?_ ?_ ?_
 ·intro e σ he
  exact uG he
 ·show(F.st y0 r).df= []
  simp only[SS.st,SS.mi]
  obtain⟨nt',nh,tm,hp,df⟩:=F
  simp only at hF
  subst hF
  rfl
 ·rw[hrs];exact mO (amN r)
 ·intro b k hbk;exact jG hbk
def wN(s:Sh)(F:SS):fM→St→Option (Sum (prod (s.H [])) F.T)
 |
  .ret,σ=>match Fe σ with
  |some σ=>(F.uD σ).map .inr
  |none=>none
 |
  .normal,σ=>match Fe σ with
  |some σ=>(F.uD σ).map .inr
  |none=>none
 |
  .panic v,σ=>match σ.df with
  |[]=>(s.G (l:=[]) v ()).map .inl
  |_=>none
 |_,_=>none
theorem Ap.LW{gl:Ctx}{f:FuncId}{fn:Func}{c:Code}(hf:P.funcs[f]? =some fn)(hb:fn.body=some c)(hro:gl.ro=none){args:List AV}{ins:List (Nat×Option aO)}{m:Nat}{x:AV}
 (h:cI P gl c (mi fn.ntmps m args ins) (fun e σ=>e= .panic x∧σ.df= [])):
 Ap P gl f args (aS (List.replicate m none) ins) (.kr x) (cX m []):=by
 intro E w vs hv hw
 obtain⟨hl,amw⟩:=hv.get
 refine CallsIn.calls (F:=Wd gl) (n:=0) (callsIn_of_wp hf hb trivial ?_ hro) (fun k d hd=>by cases hd)
 have hg:bQ gl (mi fn.ntmps m args ins) E {tmps:=vs.toArray++Array.replicate (fn.ntmps -vs.toArray.size) undef,defers:=[]} w:=by
  refine⟨?_,?_,hw,trivial⟩
  ·grind [mi]
  ·intro i x hx v hv'
   simp only[mi] at hx
   rw[Array.getElem?_append] at hv'
   simp only[List.getElem?_append] at hx
   split at hx
   ·grind
   ·rw[List.getElem?_replicate] at hx
    split at hx
    ·cases hx;trivial
    grind
 refine wpIn_mono (h E _ w hg) ?_
 rintro ex a' w' ⟨e,σ',E',h1,⟨rfl,hd⟩,h3,h4⟩
 have hdf:a'.defers= []:=by
  have:=h3.df
  rw[hd] at this
  cases hds:a'.defers with
  |nil=>rfl
  |cons d l=>rw[hds] at this;trivial
 have hw2:HW gl E' w' (cX m []):=h3.hw.less (fun b k hb=>absurd (fg hb) (by simp))
 have hx:Ext gl.md (bx (aS (List.replicate m none) ins) E) E w (bx (cX m []) E') E' w':=
  {h4 with own:=fun g ⟨b,k,hb,hgb⟩=>absurd (fg hb) (by simp)}
 cases ex with
 |panic ch=>exact⟨hdf,E',h1,hw2,hx⟩
 |_=>trivial
theorem aZ.J0{G:bM}(T:bA P G){gl:Ctx}{I:List IC}{H:Hs}(hΓ:∀C∈Γ,C.holds P gl)(hI:∀C∈I,C.holds P gl∧∀S w,gl.B S w)(hro:gl.ro=none){rs:List ResultVar}{m:Nat}{s:Sh}{ob:List Nat}{f:prod (tx A (iu B []))→Option (Sum (prod (s.H [])) F.T)}
 {fn:Func} {c:Code} (amu:∀vs w,(callFunc jH vs).run P w= .ok (.enter jH vs) w) (hf:P.funcs[jH]? =some fn) (hb:fn.body=some c) (hrs:fn.results.toList=rs) (hnt:fn.ntmps=nt) (hF:F.df= [])
 (amN:∀r:F.T,LV (jf G rs (F.st y0 r))=true)
 (h:∀d,f d=walk P G I H Γ c gl true (mi nt m (xG y0 A d) (dc (oE y0 B (As A d)))) (wN s F)):
 (aF G rs jH A B m F ob (.kr s f)).holds P gl:=by
 refine⟨?_,?_⟩
 ·intro d r hd
  have hd':f d=some (.inr r):=hd
  rw[h d] at hd'
  refine⟨amu,?_⟩
  have amn:=j4 T hΓ (fun _=>hro) (fun _=>hI) hd'
  subst hnt
  refine Ap.AB T hf hb hro (σe:=F.st y0 r) (cI.mono amn ?_) ?_ ?_ ?_
  ·intro e σ he
   cases e with
   |
    ret=>
    simp only[wN] at he
    split at he
    ·rename_i σ1 h1
     obtain⟨y,hy,e⟩:=map_some he
     cases e
     exact⟨Or.inl rfl,σ1,h1,SS.iE hy⟩
    grind
   |
    normal=>
    simp only[wN] at he
    split at he
    ·rename_i σ1 h1
     obtain⟨y,hy,e⟩:=map_some he
     cases e
     exact⟨Or.inr rfl,σ1,h1,SS.iE hy⟩
    grind
   |
    panic v=>
    simp only[wN] at he
    split at he<;>simp_all
   |exit i=>trivial
  ·show(F.st y0 r).df= []
   simp only[SS.st,SS.mi]
   obtain⟨nt',nh,tm,hp,df⟩:=F
   simp only at hF
   subst hF
   rfl
  ·rw[hrs];exact mO (amN r)
  ·intro b k hbk;exact jG hbk
 ·rintro d x ⟨p,hd,rfl⟩
  have hd':f d=some (.inl p):=hd
  rw[h d] at hd'
  refine⟨amu,?_⟩
  have amn:=j4 T hΓ (fun _=>hro) (fun _=>hI) hd'
  subst hnt
  refine Ap.LW hf hb hro (cI.mono amn ?_)
  intro e σ he
  cases e with
  |
   ret=>
   simp only[wN] at he
   split at he<;>simp_all
  |
   normal=>
   simp only[wN] at he
   split at he<;>simp_all
  |
   panic v=>
   simp only[wN] at he
   split at he
   ·rename_i hdf
    obtain⟨y,hy,e⟩:=map_some he
    grind [Sh.xO]
   grind
  |exit i=>trivial
theorem aZ.XK{gl:Ctx}{G:bM}{rs:List ResultVar}{m:Nat}{ob:List Nat}:(aF G rs jH A B m F ob (.br fun _=>none)).holds P gl:=
 ⟨fun _ _ h=>(by trivial),fun _ _ h=>h.elim⟩
theorem aZ.sub{gl:Ctx}{G:bM}{rs:List ResultVar}{m:Nat}{ob:List Nat}{f g:prod (tx A (iu B []))→Option F.T}(h:(aF G rs jH A B m F ob (.br f)).holds P gl)(hs:∀d r,g d=some r→f d=some r):(aF G rs jH A B m F ob (.br g)).holds P gl:=
 ⟨fun d r hd=>h.ret d r (hs d r hd),fun _ _ h=>h.elim⟩
def Pe{α:Type}:Option α→Option α→Option α
 |some x,_=>some x
 |none,y=>y
theorem LX{x y:Option α}{r:α}(h:Pe x y=some r):x=some r∨y=some r:=by
 cases x with
 |some z=>exact Or.inl h
 |none=>exact Or.inr h
theorem aZ.or{gl:Ctx}{G:bM}{rs:List ResultVar}{m:Nat}{ob:List Nat}{f g:prod (tx A (iu B []))→Option F.T}(hf:(aF G rs jH A B m F ob (.br f)).holds P gl)(hg:(aF G rs jH A B m F ob (.br g)).holds P gl):(aF G rs jH A B m F ob (.br fun d=>Pe (f d) (g d))).holds P gl:=
 ⟨fun d r hd=>(LX hd).elim (hf.ret d r) (hg.ret d r),fun _ _ h=>h.elim⟩
def SG(P:Program)(gl:Ctx):List aZ→Prop
 |[]=>True
 |C::l=>C.holds P gl∧SG P gl l
theorem hold{gl:Ctx}:∀{l:List aZ},SG P gl l→∀C∈l,C.holds P gl
 |[],_,C,h=>by cases h
 |
  D::l,h,C,hC=>by
  rcases List.mem_cons.1 hC with rfl|hC
  ·exact h.1
  ·exact hold h.2 C hC
def SH(P:Program)(gl:Ctx):List IC→Prop
 |[]=>True
 |C::l=>C.holds P gl∧SH P gl l
theorem Dr{l:List I2}{md:Prop}:∀{L:List IC},SH P (Ctx.of l md) L→∀C∈L,C.holds P (Ctx.of l md)∧∀S w,(Ctx.of l md).B S w
 |[],_,C,h=>by cases h
 |
  D::L,h,C,hC=>by
  rcases List.mem_cons.1 hC with rfl|hC
  ·exact⟨h.1,fun _ _=>trivial⟩
  ·exact Dr h.2 C hC
theorem aJ{gl:Ctx}:∀C∈([]:List IC),C.holds P gl∧∀S w,gl.B S w:=fun C h=>by cases h
def yU(pm:Bool)(u:Value):FrameMode:=if pm then .panicking [{v:=u,recovered:=false}] else .returning
def mP(pm:Bool)(u:Value):FrameMode:=if pm then .panicking [{v:=u,recovered:=true}] else .returning
def T5(P:Program)(gl:Ctx)(f:FuncId)(pm:Bool)(x:AV)(args:List AV)(H H':List (Option aO)):Prop:=
 (∀vs w,(callFunc f vs).run P w= .ok (.enter f vs) w)∧∀E w vs u,lb E w args vs→bY E w x u→(pm=false→u= .nilIface)→HW gl E w H→
  CallsDIn (Wd gl) 0 P f vs.toArray (yU pm u) w fun e m w'=>m=mP pm u∧(∃v,e= .returned v)∧∃E',HW gl E' w' H'∧Ext gl.md (bx H E) E w (bx H' E') E' w'
variable{pm:Bool}{rid:Nat}{o1:Oper}
theorem T5.T6{G:bM}(T:bA P G){gl:Ctx}{f:FuncId}{x:AV}{fn:Func}{rest:Code}{t5 t2:Nat}{ts:Array TypeId}{o0:Oper}(hcf:∀vs w,(callFunc f vs).run P w= .ok (.enter f vs) w)(hf:P.funcs[f]? =some fn)
 (hb:fn.body=some (.seq (.region rid ops false) rest)) (hro:gl.ro=none) (hops:ops= #[o0,o1]) (h0:o0.op= .call {callee:=.builtin .recover,args:= #[],argTypes:=ts}) (h0d:o0.dst=some t5) (h0g:o0.guard=none)
 (h1:o1.op= .assign (.tmp t5)) (h1d:o1.dst=some t2) (h1g:o1.guard=none) {args:List AV} {ins:List (Nat×Option aO)} {m:Nat}   {r:AV} (ht5:Nat.blt t5 fn.ntmps=true)
 (h:cI P gl rest (((mi fn.ntmps m args ins).put (some t5) x).put (some t2) x) (fun e σ=>(e= .ret∨e= .normal)∧Wk gl σ σe)) (hd:σe.df= []) (amN:jf G fn.results.toList σe=some r) (hout:∀b k,(b,k)∈out→σe.hp[b]? =some (some k)):
 T5 P gl f pm x args (aS (List.replicate m none) ins) (cX m out):=by
 refine⟨hcf,?_⟩
 intro E w vs u hv hx hpm hw
 obtain⟨hl,amw⟩:=hv.get
 refine callsDIn_of_wpSIn hf hb trivial ?_
 intro c0 cs hm
 have hg:bQ gl (mi fn.ntmps m args ins) E {tmps:=vs.toArray++Array.replicate (fn.ntmps -vs.toArray.size) undef,defers:=[]} w:=by
  refine⟨?_,?_,hw,trivial⟩
  ·grind [mi]
  ·intro i x hx v hv'
   simp only[mi] at hx
   rw[Array.getElem?_append] at hv'
   simp only[List.getElem?_append] at hx
   split at hx
   ·grind
   ·rw[List.getElem?_replicate] at hx
    split at hx
    ·cases hx;trivial
    grind
 refine wpSIn_seq (wpSIn_region ?_)
 subst hops
 show wpOpsSIn _ _ _ _ _ [0,1] _ _ _
 have w0:∀y,Region.wanted o0 y=true:=by intro y;simp[Region.wanted,h0g]
 have w1:∀y,Region.wanted o1 y=true:=by intro y;simp[Region.wanted,h1g]
 have x0:∀ρ:Operand→Value,(execOp ρ o0).run P w= .ok .recover w:=by
  simp_all[execOp,resolve,invoke,builtin]
 have ei0:(#[o0,o1]:Array Oper)[0]? =some o0:=rfl
 have ei1:(#[o0,o1]:Array Oper)[1]? =some o1:=rfl
 have hu:RV E w x u:=RV.eQ hx
 have hg1:=hg.put (some t5) hu
 have hlt:t5<fn.ntmps:=by simp_all
 have hev:((({tmps:=vs.toArray++Array.replicate (fn.ntmps -vs.toArray.size) undef,defers:=[]}:Act).put o0.dst u).eval (.tmp t5))=u:=by
  rw[h0d]
  have hsz:t5<(vs.toArray++Array.replicate (fn.ntmps -vs.toArray.size) undef).size:=by
   grind
  simp_all[Act.put,Act.eval]
 have x1:(execOp (({tmps:=vs.toArray++Array.replicate (fn.ntmps -vs.toArray.size) undef,defers:=[]}:Act).put o0.dst u).eval o1).run P w= .ok (.value u) w:=by
  simp_all[execOp]
 have hg2:=hg1.put (some t2) hu
 suffices hfin:rest.wpSIn (Wd gl) 0 P (bodyPostS P fn c0 cs fun e m_1 w'=>m_1=mP pm u∧(∃v,e= .returned v)∧∃E',HW gl E' w' (cX m out)∧Ext gl.md (bx (aS (List.replicate m none) ins) E) E w (bx (cX m out) E') E' w')
  ((({tmps:=vs.toArray++Array.replicate (fn.ntmps -vs.toArray.size) undef,defers:=[]}:Act).put o0.dst u).put o1.dst u) ({c0 with mode:=mP pm u}::cs) w by
  cases pm with
  |
   true=>
   have hrc:recoverD (c0::cs)=some (u,{c0 with mode:=mP true u}::cs):=by
    simp_all[yU,mP,recoverD]
   simp only[wpOpsSIn,ei0,ei1,w0,w1,cj,x0,hrc]
   refine⟨fun _ _=>trivial,fun _ _=>trivial,?_⟩
   rw[x1]
   trivial
  |
   false=>
   have hu0:=hpm rfl
   subst hu0
   have hrc:recoverD (c0::cs)=none:=by
    simp_all[yU,recoverD]
   have hcc:({c0 with mode:=mP false .nilIface}:Frame)=c0:=by
    simp only[yU,mP,eJ,dz] at hm ⊢
    rw[←hm]
   rw[hcc] at hfin
   simp only[wpOpsSIn,ei0,ei1,w0,w1,cj,x0,hrc]
   refine⟨fun _ _=>trivial,fun _ _=>trivial,?_⟩
   rw[x1]
   trivial
 rw[h0d,h1d]
 refine wpSIn_of_wpIn (F:=Wd gl) hro (wpIn_mono (h E _ w hg2) ?_)
 rintro ex a' w' ⟨e,σ',E',q1,⟨he,hwk⟩,q3,q4⟩
 obtain⟨E2,g2,x2⟩:=hwk E' a' w' q3
 obtain⟨v,k1,k2⟩:=qJ T g2 amN
 have hdf:a'.defers= []:=by
  have:=g2.df
  rw[hd] at this
  cases hds:a'.defers with
  |nil=>rfl
  |cons d l=>rw[hds] at this;trivial
 have hw2:HW gl E2 w' (cX m out):=g2.hw.less (fun b k hb=>hout b k (fg hb))
 have hxx:Ext gl.md (bx (aS (List.replicate m none) ins) E) E w (bx (cX m out) E2) E2 w':=by
  have q4':Ext gl.md (bx (aS (List.replicate m none) ins) E) E w (bx σ'.hp E') E' w':=q4
  exact{q4'.trans x2 with own:=fun g ⟨b,k,hb,hgb⟩=>(q4'.trans x2).own g ⟨b,k,hout b k (fg hb),hgb⟩}
 rcases he with rfl|rfl
 ·cases ex with
  |ret=>exact⟨hdf,mP pm u,rfl,v,k1,rfl,⟨v,rfl⟩,E2,hw2,hxx⟩
  |_=>trivial
 ·cases ex with
  |normal=>exact⟨hdf,mP pm u,rfl,v,k1,rfl,⟨v,rfl⟩,E2,hw2,hxx⟩
  |_=>trivial
structure gj where
 jH:FuncId
 A:List Sh
 B:List (Nat×db)
 m:Nat
 s:Sh
 F:SS
 out:F.T→List (Nat×aO)
 n:prod (tx A (iu B []))→Option F.T
 p:prod (tx A (iu B []))→prod (s.H [])→Option F.T
abbrev gj.D(C:gj):Type:=prod (tx C.A (iu C.B []))
def gj.args(C:gj)(d:C.D):List AV:=xG y0 C.A d
def gj.ins(C:gj)(d:C.D):List (Nat×Option aO):=dc (oE y0 C.B (As C.A d))
structure gj.holds(P:Program)(gl:Ctx)(C:gj):Prop where
 n:∀d r,C.n d=some r→T5 P gl C.jH false .gU (C.args d) (aS (List.replicate C.m none) (C.ins d)) (cX C.m (C.out r))
 p:∀d q r,C.p d q=some r→T5 P gl C.jH true (C.s.V y0 q) (C.args d) (aS (List.replicate C.m none) (C.ins d)) (cX C.m (C.out r))
def gj.get(C:gj)(L:List AV)(I:List (Nat×Option aO)):Option C.D:=
 match O4 C.B (l:=[]) I () with
 |some d=>TS C.A L d
 |none=>none
theorem gj.gA{C:gj}{d:C.D}(h:C.get L I=some d):C.args d=L∧C.ins d=I:=by
 unfold gj.get at h
 split at h
 ·rename_i d1 h1
  obtain⟨a1,a2⟩:=Ay y0 h1
  obtain⟨b1,b2⟩:=Au y0 h
  exact⟨b1,by unfold gj.ins;grind⟩
 grind
section
variable{P:Program} {G:bM} (T:bA P G) {gl:Ctx} {H:Hs} {Γ:List aZ} (hΓ:∀C∈Γ,C.holds P gl) (hro:gl.ro=none) {rs:List ResultVar} {jH:FuncId} {A:List Sh} {B:List (Nat×db)} {m nt:Nat} {s:Sh} {F:SS} {ob:List Nat}
 {n:prod (tx A (iu B []))→Option F.T} {p:prod (tx A (iu B []))→prod (s.H [])→Option F.T} {fn:Func} {ops:Array Oper} {rid:Nat} {rest:Code} {t5 t2:Nat} {ts:Array TypeId} {o0 o1:Oper}
 (amu:∀vs w,(callFunc jH vs).run P w= .ok (.enter jH vs) w) (hf:P.funcs[jH]? =some fn) (hB:fn.body=some (.seq (.region rid ops false) rest)) (hrs:fn.results.toList=rs) (hnt:fn.ntmps=nt)
 (hops:ops= #[o0,o1]) (h0:o0.op= .call {callee:=.builtin .recover,args:= #[],argTypes:=ts}) (h0d:o0.dst=some t5) (h0g:o0.guard=none) (h1:o1.op= .assign (.tmp t5)) (h1d:o1.dst=some t2) (h1g:o1.guard=none) (ht5:Nat.blt t5 nt=true)
 (hF:F.df= []) (amN:∀r:F.T,LV (jf G rs (F.st y0 r))=true)
include T hΓ hro amu hf hB hrs hnt hops h0 h0d h0g h1 h1d h1g ht5 hF amN
theorem gj.of1{pm:Bool}{x:AV}{args:List AV}{ins:List (Nat×Option aO)}{r:F.T}(hw:walk P G [] H Γ rest gl true (((mi nt m args ins).put (some t5) x).put (some t2) x) (T4 F)=some r):
 T5 P gl jH pm x args (aS (List.replicate m none) ins) (cX m (pick ob (F.st y0 r).hp)):=by
 have hdf:(F.st y0 r).df= []:=by
  simp only[SS.st,SS.mi]
  obtain⟨nt',nh,tm,hp,df⟩:=F
  simp only at hF
  subst hF
  rfl
 subst hnt
 refine T5.T6 T amu hf hB hro hops h0 h0d h0g h1 h1d h1g ht5 (cI.mono (j4 T hΓ (fun _=>hro) (fun _=>aJ) hw) ?_) hdf (by rw[hrs];exact mO (amN r)) (fun b k hbk=>jG hbk)
 intro e σ he
 cases e with
 |ret=>exact⟨Or.inl rfl,SS.iE he⟩
 |normal=>exact⟨Or.inr rfl,SS.iE he⟩
 |_=>trivial
theorem gj.ofN(hn:∀d,n d=walk P G [] H Γ rest gl true (((mi nt m (xG y0 A d) (dc (oE y0 B (As A d)))).put (some t5) .gU).put (some t2) .gU) (T4 F)):
 (⟨jH,A,B,m,s,F,fun r=>pick ob (F.st y0 r).hp,n,fun _ _=>none⟩:gj).holds P gl:=by
 refine⟨?_,fun _ _ r h=>no (e:=r) h⟩
 intro d r hd
 have hd':n d=some r:=hd
 rw[hn d] at hd'
 exact gj.of1 T hΓ hro amu hf hB hrs hnt hops h0 h0d h0g h1 h1d h1g ht5 hF amN hd'
theorem gj.J0(hp:∀d q,p d q=walk P G [] H Γ rest gl true (((mi nt m (xG y0 A d) (dc (oE y0 B (As A d)))).put (some t5) (s.V y0 q)).put (some t2) (s.V y0 q)) (T4 F)):
 (⟨jH,A,B,m,s,F,fun r=>pick ob (F.st y0 r).hp,fun _=>none,p⟩:gj).holds P gl:=by
 refine⟨fun _ r h=>no (e:=r) h,?_⟩
 intro d q r hd
 have hd':p d q=some r:=hd
 rw[hp d q] at hd'
 exact gj.of1 T hΓ hro amu hf hB hrs hnt hops h0 h0d h0g h1 h1d h1g ht5 hF amN hd'
end
def HO:List Nat→List (Option aO)→List (Option aO)
 |[],hp=>hp
 |
  b::l,hp=>HO l (match hp[b]? with
  |some (some (.var t _))=>hp.set b (some (.var t (.dH t)))
  |_=>hp)
theorem Wk.dH{gl:Ctx}:∀{l:List Nat}{σ:St},Wk gl σ {σ with hp:=HO l σ.hp}
 |[],σ=>Wk.refl gl σ
 |
  b::l,σ=>by
  unfold HO
  split
  ·rename_i t v hb
   have h1:Wk gl σ {σ with hp:=σ.hp.set b (some (.var t (.dH t)))}:=by
    intro E a w h
    obtain⟨h1,h2,g,c,e,h3,h4,h5⟩:=h.hw.cN b _ hb
    have hlen:=RC.len h5
    have hw:=h.hw.write (w':=w) (k':=.var t (.dH t)) hb rfl (fun _ _=>rfl) ⟨h1,Ty.cU t,g,c,e,h3,h4,⟨by rw[hlen];exact AV.dS h2,RC.one h5⟩⟩
    refine⟨E,⟨h.len,h.tm,hw,h.df⟩,{Ext.refl (bx σ.hp E) E w with own:=?_ }⟩
    grind [bx.set]
   exact h1.trans (Wk.dH (l:=l) (σ:={σ with hp:=σ.hp.set b (some (.var t (.dH t)))}))
  ·exact Wk.dH (l:=l) (σ:=σ)
def LY(C:gj)(ps:List (Nat×Nat))(F:SS)(h:C.D→Option C.F.T)(σ:St):Option F.T:=
 match σ.df with
 |
  [.func (.func fd) .nil cs]=>match l6 (swp ps) (eC σ.hp) (cs.toList.map (fun x=>(x,Ty.unit))),i6 (swp ps) (eC σ.hp) ps with
  |
   some (L,lent),some ins=>if Nat.beq fd C.jH&&cs.atoms then(match C.get L ins with
   |some d=>Option.bind (h d) fun r=>if A1 ⟨.bot,ps,[],C.out r,C.m,false,[],[]⟩ lent then F.uD {σ with hp:=aS σ.hp (mf ps (C.out r) ps),df:=[]} else none
   |none=>none) else none
  |_,_=>none
 |_=>none
def SI(C:gj)(ps:List (Nat×Nat))(D:gj)(qs:List (Nat×Nat))(jk:List Nat)(F:SS):fM→St→Option F.T
 |
  .ret,σ| .normal,σ=>match σ.df with
  |[]=>F.uD σ
  |_=>LY C ps F C.n σ
 |
  .panic v,σ=>match v.ids,D.s.G (l:=[]) v () with
  |[],some q=>LY D qs F (fun d=>D.p d q) {σ with hp:=HO jk σ.hp}
  |_,_=>none
 |_,_=>none
theorem HP{G:bM}(T:bA P G){gl:Ctx}{C:gj}{h:C.D→Option C.F.T}{r:F.T}(hr:LY C ps F h σ=some r){x:AV}(hx:x.ids= [])
 (hC:∀d y,h d=some y→T5 P gl C.jH pm x (C.args d) (aS (List.replicate C.m none) (C.ins d)) (cX C.m (C.out y))) {fn:Func} {z:AV} (hF:F.df= []) (amN:jf G fn.results.toList (F.st y0 r)=some z)  (hout:∀b k,(b,k)∈out→(F.st y0 r).hp[b]? =some (some k)) {m:Nat}
 {E:Env} {a:Act} {w:World} (hg:bQ gl σ E a w) {u:Value} (hu:bY E w x u) (hpm:pm=false→u= .nilIface) {O:Nat→Prop} {E0:Env} {w0:World} (hX0:Ext gl.md O E0 w0 (bx σ.hp E) E w):
 LeavesIn (Wd gl) 0 P fn a.tmps (fun e w'=>∃E',Ao E' w' (.ret z) e∧HW gl E' w' (cX m out)∧Ext gl.md O E0 w0 (bx (cX m out) E') E' w') a.defers (yU pm u) w:=by
 have hdfF:(F.st y0 r).df= []:=by
  simp only[SS.st,SS.mi]
  obtain⟨nt',nh,tm,hp,df⟩:=F
  simp only at hF
  subst hF
  rfl
 unfold LY at hr
 split at hr
 ·rename_i fd cs hdf
  split at hr
  ·rename_i L lent ins hL jU
   obtain⟨hc,hr1⟩:=bJ hr
   clear hr
   simp only[bj] at hc
   obtain⟨hfd,hca⟩:=hc
   have hfd:=bL hfd
   subst hfd
   split at hr1
   ·rename_i d hd
    obtain⟨y,hy,hr2⟩:=bind_some hr1
    obtain⟨gy,hr3⟩:=bJ hr2
    obtain⟨e1,e2⟩:=gj.gA hd
    obtain⟨hcf,hM⟩:=hC d y hy
    rw[e1,e2] at hM
    have gdf:=hg.df
    rw[hdf] at gdf
    cases hads:a.defers with
    |nil=>rw[hads] at gdf;trivial
    |
     cons dd ds=>
     rw[hads] at gdf
     obtain⟨⟨f',c',ed,q1,q2,_,_⟩,hrest⟩:=gdf
     have hds:ds= []:=by
      cases ds with
      |nil=>rfl
      |cons _ _=>trivial
     subst hds
     have hf':f'= #[]:=by apply lQ;trivial
     subst hf'
     subst ed
     have hB:=bR σ.hp
     have hlent:=lG hL
     obtain⟨hφ,hw1⟩:=uL (cr:=⟨.bot,ps,[],C.out y,C.m,false,[],[]⟩) hg hB hlent jU gy
     have hmap:(cs.toList.map (fun x=>(x,Ty.unit))).map (·.1)=cs.toList:=by
      simp[Function.comp_def]
     have hvv:=ng hg.hw hB hφ hL (fun g hg=>hg) (by rw[hmap];exact lb.atoms hca q2)
     have hu':bY (E.to ps (E.cG lent).S) w x u:=bY.mono (E:=E) ⟨fun _ _=>rfl,fun _ h=>Or.inl h⟩ (fun b hb=>by grind) hu
     have amu:=hM _ w _ u hvv hu' hpm hw1
     refine leavesIn_cons (F:=Wd gl) (by unfold yU;split<;>simp) (fun h=>by cases h) (args:=c'.toList.toArray) ?_ (fun _ _=>trivial) (CallsDIn.mono amu ?_)
     ·simp_all[invoke]
     ·rintro e u1 w2 ⟨rfl,⟨v,rfl⟩,E2,hW2,hX2⟩
      obtain⟨E3,g3,_,x3⟩:=kU (cr:=⟨.bot,ps,[],C.out y,C.m,false,[],[]⟩) hg hB hlent jU gy (fun b hb=>by grind) hW2 hX2 (v:=v) (r':=.bot) rfl trivial
      simp only[fH] at g3 x3
      have g4:bQ gl {σ with hp:=aS σ.hp (mf ps (C.out y) ps),df:=[]} E3 {a with defers:=[]} w2:=⟨g3.len,g3.tm,g3.hw,trivial⟩
      obtain⟨E5,g5,x5⟩:=SS.iE (gl:=gl) hr3 E3 _ w2 g4
      obtain⟨v2,k1,k2⟩:=qJ T g5 amN
      have aS:settle (mP pm u)= .returning:=by
       unfold mP
       cases pm<;>simp[settle]
      show LeavesIn _ _ _ _ _ _ _ _ _
      rw[aS]
      have hw5:HW gl E5 w2 (cX m out):=g5.hw.less (fun b k hb=>hout b k (fg hb))
      have X5:=(hX0.trans x3).trans x5
      exact⟨v2,k1,E5,k2,hw5,{X5 with own:=fun g ⟨b,k,hb,hgb⟩=>X5.own g ⟨b,k,hout b k (fg hb),hgb⟩}⟩
   grind
  grind
 grind
theorem aZ.ofD{G:bM}(T:bA P G){gl:Ctx}{H:Hs}(hΓ:∀C∈Γ,C.holds P gl){C:gj}(hC:C.holds P gl){D:gj}(hD:D.holds P gl){qs:List (Nat×Nat)}{jk:List Nat}(hro:gl.ro=none){rs:List ResultVar}{m:Nat}{ob:List Nat}{f:prod (tx A (iu B []))→Option F.T}
 {fn:Func} {c:Code} (amu:∀vs w,(callFunc jH vs).run P w= .ok (.enter jH vs) w) (hf:P.funcs[jH]? =some fn) (hb:fn.body=some c) (hrs:fn.results.toList=rs) (hnt:fn.ntmps=nt) (hF:F.df= [])
 (amN:∀r:F.T,LV (jf G rs (F.st y0 r))=true)
 (h:∀d,f d=walk P G [] H Γ c gl true (mi nt m (xG y0 A d) (dc (oE y0 B (As A d)))) (SI C ps D qs jk F)):
 (aF G rs jH A B m F ob (.br f)).holds P gl:=by
 refine⟨?_,fun _ _ h=>h.elim⟩
 intro d r hd
 have hd':f d=some r:=hd
 rw[h d] at hd'
 refine⟨amu,?_⟩
 have amn:=j4 T hΓ (fun _=>hro) (fun _=>aJ) hd'
 subst hnt
 have hz:jf G fn.results.toList (F.st y0 r)=some ((jf G rs (F.st y0 r)).getD .bot):=by rw[hrs];exact mO (amN r)
 have hout:∀b k,(b,k)∈pick ob (F.st y0 r).hp→(F.st y0 r).hp[b]? =some (some k):=fun b k hbk=>jG hbk
 intro E w vs hv hw
 obtain⟨hl,amw⟩:=hv.get
 refine CallsIn.calls (F:=Wd gl) (n:=0) (callsIn_of_wp_defers hf hb trivial ?_ hro) (fun k d hd=>by cases hd)
 have hg:bQ gl (mi fn.ntmps m (xG y0 A d) (dc (oE y0 B (As A d)))) E {tmps:=vs.toArray++Array.replicate (fn.ntmps -vs.toArray.size) undef,defers:=[]} w:=by
  refine⟨?_,?_,hw,trivial⟩
  ·simp only[mi,Array.size_append,List.size_toArray,Array.size_replicate,mb,sV]
   rw[←hl];rfl
  ·intro i x hx v hv'
   simp only[mi] at hx
   rw[Array.getElem?_append] at hv'
   simp only[List.getElem?_append] at hx
   split at hx
   ·rename_i hi
    have hl':(xG y0 A d).length=vs.length:=hl
    rw[aA (by grind)] at hv'
    exact amw i x v hx (by grind)
   ·rw[List.getElem?_replicate] at hx
    split at hx
    ·cases hx;trivial
    grind
 refine wpIn_mono (amn E _ w hg) ?_
 rintro ex a' w' ⟨e,σ',E',h1,he,h3,h4⟩
 have plain:∀{σ:St},σ.df= []→F.uD σ'=some r→bQ gl σ' E' a' w'→a'.defers= []→LeavesIn (Wd gl) 0 P fn a'.tmps (fun e w'=>∃E',Ao E' w' (.ret ((jf G rs (F.st y0 r)).getD .bot)) e∧HW gl E' w' (cX m (pick ob (F.st y0 r).hp))∧Ext gl.md (bx (aS (List.replicate m none) (dc (oE y0 B (As A d)))) E) E w (bx (cX m (pick ob (F.st y0 r).hp)) E') E' w') a'.defers .returning w':=by
  intro σ _ hm hg' hds
  obtain⟨E5,g5,x5⟩:=SS.iE (gl:=gl) hm E' a' w' hg'
  obtain⟨v2,k1,k2⟩:=qJ T g5 hz
  rw[hds]
  have hw5:HW gl E5 w' (cX m (pick ob (F.st y0 r).hp)):=g5.hw.less (fun b k hb=>hout b k (fg hb))
  have X5:=h4.trans x5
  exact⟨v2,k1,E5,k2,hw5,{X5 with own:=fun g ⟨b,k,hb,hgb⟩=>X5.own g ⟨b,k,hout b k (fg hb),hgb⟩}⟩
 have leave:(match σ'.df with
  |[]=>F.uD σ'
  |_=>LY C ps F C.n σ')=some r→LeavesIn (Wd gl) 0 P fn a'.tmps (fun e w'=>∃E',Ao E' w' (.ret ((jf G rs (F.st y0 r)).getD .bot)) e∧HW gl E' w' (cX m (pick ob (F.st y0 r).hp))∧Ext gl.md (bx (aS (List.replicate m none) (dc (oE y0 B (As A d)))) E) E w (bx (cX m (pick ob (F.st y0 r).hp)) E') E' w') a'.defers .returning w':=by
  intro he
  cases hd0:σ'.df with
  |
   nil=>
   rw[hd0] at he
   have hds:a'.defers= []:=by
    have:=h3.df
    rw[hd0] at this
    cases hds:a'.defers with
    |nil=>rfl
    |cons d l=>rw[hds] at this;trivial
   grind
  |
   cons x l=>
   rw[hd0] at he
   exact HP T (pm:=false) (x:=.gU) he rfl (fun d y hy=>hC.n d y hy) hF hz hout h3 (u:=.nilIface) (Or.inr ⟨rfl,rfl⟩) (fun _=>rfl) h4
 cases e with
 |
  ret=>cases ex with
  |ret=>exact leave he
  |_=>trivial
 |
  normal=>cases ex with
  |normal=>exact leave he
  |_=>trivial
 |exit i=>trivial
 |
  panic v=>
  cases ex with
  |
   panic ch=>
   obtain⟨u,e,hu⟩:=h1
   subst e
   simp only[SI] at he
   split at he
   ·rename_i q hids hq
    have hV:=(Sh.xO y0 hq).1
    obtain⟨E2,g2,x2⟩:=Wk.dH (gl:=gl) (l:=jk) (σ:=σ') E' a' w' h3
    have hu2:bY E2 w' v u:=bY.mono (E:=E') (w:=w') ⟨fun b hb=>rfl,x2.sle⟩ (fun b hb=>by grind) hu
    exact HP T (pm:=true) (x:=v) he hids (fun d y hy=>by have:=hD.p d q y hy;grind) hF hz hout g2 hu2 (fun e=>by cases e) (h4.trans x2)
   grind
  |_=>trivial
def acY:fM→St→Option St
 | .normal,σ=>some σ
 |_,_=>none
def acZ(F:SS):fM→St→Option F.T
 | .ret,σ=>Ff F .ret σ
 |_,_=>none
theorem aZ.kM{G:bM}(T:bA P G){gl:Ctx}{H:Hs}(hΓ:∀C∈Γ,C.holds P gl)(hro:gl.ro=none){rs:List ResultVar}{m:Nat}{ob:List Nat}{f:prod (tx A (iu B []))→Option F.T}
 {fn:Func} {c0 X Y:Code}  {o2:Oper} (x:Operand) (d1 d2:Nat) (t t2 e:TypeId) (bs:Nat) (u:Ty) (xs:prod (tx A (iu B []))→List u.den) (σ1:prod (tx A (iu B []))→St)
 (amu:∀vs w,(callFunc jH vs).run P w= .ok (.enter jH vs) w) (hf:P.funcs[jH]? =some fn) (hb:fn.body=some (.seq c0 (.seq (.seq (.region rid #[o1,o2] false) (.cond (.tmp d2) X .skip)) Y))) (hrs:fn.results.toList=rs) (hnt:fn.ntmps=nt) (hF:F.df= [])
 (h1:o1.op= .move x) (hd1:o1.dst=some d1) (hg1:o1.guard=none) (h2:o2.op= .binOp .eql t (.tmp d1) (.const (.slice none 0 0)) t2) (hd2:o2.dst=some d2) (hg2:o2.guard=none) (ht:P.underlying t=some (.slice e))
 (amN:∀r:F.T,LV (jf G rs (F.st y0 r))=true)
 (hA:∀d,walk P G [] H Γ c0 gl true (mi nt m (xG y0 A d) (dc (oE y0 B (As A d)))) acY=some (σ1 d))
 (hx:∀d,bD gl (σ1 d).tm x= .val (.slice bs u) (xs d)) (hl:∀d,Nat.blt d1 (σ1 d).tm.length=true) (hl2:∀d b,bD gl (((σ1 d).put (some d1) (.val (.slice bs u) (xs d))).put (some d2) (.val .bool b)).tm (.tmp d2)= .val .bool b)
 (hX:∀d,xs d= []→f d=walk P G [] H Γ X gl true (((σ1 d).put (some d1) (.val (.slice bs u) (xs d))).put (some d2) (.val .bool true)) (acZ F))
 (hY:∀d,f d=walk P G [] H Γ Y gl true (((σ1 d).put (some d1) (.val (.slice bs u) (xs d))).put (some d2) (.val .bool false)) (Ff F)):
 (aF G rs jH A B m F ob (.br f)).holds P gl:=by
 refine⟨?_,fun _ _ h=>h.elim⟩
 intro d r hd
 have hd':f d=some r:=hd
 refine⟨amu,?_⟩
 subst hnt
 refine Ap.AB T hf hb hro (σe:=F.st y0 r) ?_ ?_ ?_ ?_
 ·refine cI.seq (cI.mono (j4 T hΓ (fun _=>hro) (fun _=>aJ) (hA d)) ?_)
  intro e' σ he
  cases e' with
  |
   normal=>
   have:σ=σ1 d:=kD he
   subst this
   refine cI.seq ?_
   refine cI.O0 x d1 d2 t t2 e bs u (xs d) h1 hd1 hg1 h2 hd2 hg2 (hx d) ht (hl d) ?_
   intro b hbx
   cases b with
   |
    true=>
    refine cI.cond (hl2 d true) (fun _=>?_) (fun e=>by cases e)
    have hw:=hX d (hbx rfl)
    rw[hd'] at hw
    refine cI.mono (j4 T hΓ (fun _=>hro) (fun _=>aJ) hw.symm) ?_
    intro e2 σ2 he2
    cases e2 with
    |ret=>exact uG he2
    |_=>trivial
   |
    false=>
    refine cI.cond (hl2 d false) (fun e=>by cases e) (fun _=>cI.skip ?_)
    have hw:=hY d
    rw[hd'] at hw
    refine cI.mono (j4 T hΓ (fun _=>hro) (fun _=>aJ) hw.symm) ?_
    intro e2 σ2 he2
    cases e2 with
    |ret=>exact uG he2
    |normal=>exact uG he2
    |_=>trivial
  |_=>trivial
 ·show(F.st y0 r).df= []
  simp only[SS.st,SS.mi]
  obtain⟨nt',nh,tm,hp,df⟩:=F
  simp only at hF
  subst hF
  rfl
 ·rw[hrs];exact mO (amN r)
 ·intro b k hbk;exact jG hbk
theorem gZ{x:Int}(h1:-9223372036854775808≤x)(h2:x≤9223372036854775807):bq x=x:=by
 grind [IntKind.wrap,IntKind.bits,IntKind.signed]
theorem bh{i:Nat}(h:i≤4611686018427387904):bq ((i:Int)+1)=((i+1:Nat):Int):=by
 rw[gZ (by omega) (by omega)];rfl
theorem T8{t:Ty}{xs:List t.den}{i:Nat}(h:i<xs.length):nth t xs (i:Int)=xs[i]:=by
 simp[nth,List.getD,h]
variable{kt:Ty}
theorem iG(hk:kt.keyed=true)(k:kt.den):bl kt k k=true:=(bN hk k k).2 rfl
theorem qB(hk:kt.keyed=true){p k:kt.den}(h:p≠k):bl kt p k=false:=by
 grind [bN]
theorem fL(hk:kt.keyed=true)(k:kt.den)(v:α):∀es:List (kt.den×α),bT kt k (aX kt k v es)=true
 |[]=>by simp[aX,bT,iG hk]
 |
  e::es=>by
  simp only[aX]
  split
  ·simp[bT,iG hk]
  ·simp[bT,fL hk k v es]
theorem lq(hk:kt.keyed=true){p k:kt.den}(h:p≠k)(v:α):∀es:List (kt.den×α),bT kt p (aX kt k v es)=bT kt p es
 |[]=>by simp[aX,bT,qB hk h]
 |
  e::es=>by
  simp only[aX]
  split
  ·rename_i he
   have:=(bN hk k e.1).1 he
   rw[this] at h
   simp[bT,this,qB hk h]
  ·simp[bT,lq hk h v es]
variable{vt:Ty}
theorem dr(hk:kt.keyed=true)(k:kt.den)(v:vt.den):∀es:List (kt.den×vt.den),aQ kt vt k (aX kt k v es)=v
 |[]=>by simp[aX,aQ,iG hk]
 |
  e::es=>by
  simp only[aX]
  split
  ·simp[aQ,iG hk]
  ·rename_i he
   simp[aQ,he,dr hk k v es]
theorem dE(hk:kt.keyed=true){p k:kt.den}(h:p≠k)(v:vt.den):∀es:List (kt.den×vt.den),aQ kt vt p (aX kt k v es)=aQ kt vt p es
 |[]=>by simp[aX,aQ,qB hk h]
 |
  e::es=>by
  simp only[aX]
  split
  ·rename_i he
   have:=(bN hk k e.1).1 he
   rw[this] at h
   simp[aQ,this,qB hk h]
  ·simp[aQ,dE hk h v es]
theorem aN{R:Type}(F:(U→Option R)→U→Option R)(n:Nat)(u:U):aL F (n+1) u=F (aL F n) u:=rfl
theorem LZ{R:Type}{F:(U→Option R)→U→Option R}(I:U→Prop)(μ:U→Nat)(Q:U→Option R→Prop)
 (h:∀rec u,I u→(∀u',I u'→μ u'<μ u→Q u' (rec u'))→Q u (F rec u)):∀n u,I u→μ u<n→Q u (aL F n u):=by
 intro n
 induction n with
 |zero=>grind
 |
  succ n ih=>
  grind [aN]
theorem aG{R:Type}(d:U)(f:U→Option R):aI (some (.brk d)) f=f d:=rfl
theorem di{R:Type}(r:R)(f:U→Option R):aI (some (.ret r)) f=some r:=rfl
theorem gk{R:Type}(y:YC)(x:Option R):NC y y x=x:=by unfold NC;grind
theorem qC{R:Type}{F:YC→Option R}{r:R}(h:∀y,F y=some r):xP F=some r:=by
 unfold xP
 rw[dif_pos ⟨r,h⟩]
 have hc:=Classical.choose_spec (⟨r,h⟩:∃r,∀y,F y=some r)
 have:=hc y0
 grind
theorem qD{A R:Type}{xs:List A}{K:A→List A→Option R}{r:R}(hne:xs≠[])(h:∀i(hi:i<xs.length),K xs[i] (xs.eraseIdx i)=some r):tY xs K=some r:=by
 unfold tY
 rw[dif_pos ⟨r,h⟩]
 have hc:=Classical.choose_spec (⟨r,h⟩:∃r,∀i(h:i<xs.length),K xs[i] (xs.eraseIdx i)=some r)
 have h0:0<xs.length:=List.length_pos_iff.2 hne
 grind
theorem gd{c:Prop}[Decidable c]{x y:α}(h:c):(if c then x else y)=x:=aA h
theorem cJ{t:Ty}{xs:List t.den}{i:Nat}(h:i<xs.length):nth t xs (i:Int)=xs[i]:=T8 h
theorem scan{R:Type}{F:(U→Option (cK β R))→U→Option (cK β R)}(len:Nat)(at_:Nat→U)(b:β)(C:Nat→Prop)(P:R→Prop)
 (step:∀rec i,i<len→(C i∧F rec (at_ i)=rec (at_ (i+1)))∨∃r,P r∧F rec (at_ i)=some (.ret r))
 (stop:∀rec,F rec (at_ len)=some (.brk b)):
 ∀n i,i≤len→len -i<n→((∀j,i≤j→j<len→C j)∧aL F n (at_ i)=some (.brk b))∨∃r,P r∧aL F n (at_ i)=some (.ret r):=by
 intro n
 induction n with
 |zero=>grind
 |
  succ n ih=>
  grind [aN]
theorem sm{n:Nat}(h:n≤aH):n<iw:=by
 have h1:aH=140737488355328:=rfl
 have h2:iw=18446744073709551616:=rfl
 omega
theorem tF{R:Type}{F:(U→Option (cK β R))→U→Option (cK β R)}{L:Nat→U→Option (cK β R)}(hL:L=aL F)(len:Nat)(at_:Nat→U)(b:β)(C:Nat→Prop)(P:R→Prop)
 (step:∀rec i,i<len→(C i∧F rec (at_ i)=rec (at_ (i+1)))∨∃r,P r∧F rec (at_ i)=some (.ret r))
 (stop:∀rec,F rec (at_ len)=some (.brk b)) (n:Nat) (hn:len<n):((∀j,j<len→C j)∧L n (at_ 0)=some (.brk b))∨∃r,P r∧L n (at_ 0)=some (.ret r):=by
 subst hL
 rcases scan len at_ b C P step stop n 0 (by omega) (by omega) with⟨h1,h2⟩|h<;>grind
end Go.Ax
