/- The machines: what it means to be walked or run, part 4. No condition. -/
import Derived.Test.YtgdcjlldafmomaaGreatA3
import Derived.Laws.Cover3
import Derived.RangeFuncRecord
import Derived.RecoverIn
import Derived.Shelf.SlSortCmp.Whole1
namespace Go.Ax
@[reducible] def prod:List Type→Type
 |[]=>Unit
 |t::l=>t×prod l
@[reducible] def gk:List Type→Type
 |[]=>Unit
 |[t]=>t
 |t::u::l=>t×gk (u::l)
def K0:(l:List Type)→prod l→gk l
 |[],_=>()
 |[_],d=>d.1
 |_::u::l,d=>(d.1,K0 (u::l) d.2)
def pz:(l:List Type)→gk l→prod l
 |[],_=>()
 |[_],d=>(d,())
 |_::u::l,d=>(d.1,pz (u::l) d.2)
theorem no{α:Type}{e:α}{p:Prop}(h:(none:Option α)=some e):p:=by cases h
theorem oM:∀(l:List Type)(d:prod l),pz l (K0 l d)=d
 |[],_=>rfl
 |[_],_=>rfl
 |_::u::l,d=>by show(d.1,pz (u::l) (K0 (u::l) d.2))=d;rw[oM (u::l) d.2]
inductive LN where
 |cw (n:Nat)
 |idx
inductive Sh where
 |val (t:Ty)
 |bA
 |own (b:Nat)
 |jD (b:Nat)
 |iW (b:Nat) (p:List LN)
 |ptr (b:Nat) (p:List LN)
 |bL (t:Ty)
 |mp (b:Nat)
 |gj
 |dP
 |fq
 |hJ
 |func (f:FuncId) (fs cs:Sh)
 |vw
 |iface (t:TypeId) (v:Sh)
 |cons (a b:Sh)
 |nil
 |Td
 |eU (t:Ty)
 |cV (f:FuncId) (t:Ty)
inductive fK where
 |var (t:Ty) (s:Sh)
 |row (e:TypeId) (bs:Nat) (t:Ty)
 |map (k v:Ty)
 |lp
 |sI
 |tv (t:Ty) (s:Sh)
 |bU (e:TypeId) (bs:Nat) (t:Ty) (s:Sh)
 |cS (e:TypeId) (bs:Nat) (t:Ty) (e2:TypeId)
 |pmap (k t:Ty) (e2:TypeId)
 |lB (k v:Ty)
 |gW (k:Ty) (l:List (k.den×FuncId))
def pH:List LN→List Type→List Type
 |[],l=>l
 | .cw _::p,l=>pH p l
 | .idx::p,l=>Nat::pH p l
def pV:(p:List LN)→{l:List Type}→prod (pH p l)→Path
 |[],_,_=>[]
 | .cw n::p,_,d=>.cw n::pV p d
 | .idx::p,_,d=>.idx d.1::pV p d.2
def pR:(p:List LN)→{l:List Type}→prod (pH p l)→prod l
 |[],_,d=>d
 | .cw _::p,_,d=>pR p d
 | .idx::p,_,d=>pR p d.2
def pG:(p:List LN)→{l:List Type}→Path→prod l→Option (prod (pH p l))
 |[],_,[],d=>some d
 | .cw n::p,_,.cw m::q,d=>if Nat.beq n m then pG p q d else none
 |
  .idx::p,_,.idx i::q,d=>match pG p q d with
  |some e=>some (i,e)
  |none=>none
 |_,_,_,_=>none
theorem Da:∀{p:List LN}{l:List Type}{q:Path}{d:prod l}{e:prod (pH p l)},pG p q d=some e→pV p e=q∧pR p e=d
 |
  [],l,q,d,e,h=>by
  cases q with
  |nil=>cases(kf h:d=e);trivial
  |cons s q=>trivial
 |
  .cw n::p,l,q,d,e,h=>by
  cases q with
  |nil=>trivial
  |
   cons s q=>
   cases s with
   |
    cw m=>
    obtain⟨hb,h0⟩:=bP h
    have hb:=bR hb
    subst hb
    obtain⟨h1,h2⟩:=Da (p:=p) h0
    exact⟨by simp only[pV];rw[h1],h2⟩
   |idx i=>trivial
 |
  .idx::p,l,q,d,e,h=>by
  cases q with
  |nil=>simp[pG] at h
  |
   cons s q=>
   cases s with
   |cw m=>simp[pG] at h
   |
    idx i=>
    simp only[pG] at h
    split at h
    ·rename_i e' he
     cases h
     obtain⟨h1,h2⟩:=Da (p:=p) he
     exact⟨by simp only[pV];rw[h1],h2⟩
    ·cases h
def Sh.H:Sh→List Type→List Type
 | .val t,l=>t.den::l
 | .cV _ t,l=>t.den::l
 | .jD _,l=>Nat::Nat::l
 | .iW _ p,l=>pH p (Nat::Nat::l)
 | .ptr _ p,l=>pH p l
 | .bL t,l=>t.den::l
 | .vw,l=>Nat::l
 | .func _ fs cs,l=>fs.H (cs.H l)
 | .iface _ v,l=>v.H l
 | .cons a b,l=>a.H (b.H l)
 |_,l=>l
def Sh.R:(s:Sh)→{l:List Type}→prod (s.H l)→prod l
 | .val _,_,d=>d.2
 | .cV _ _,_,d=>d.2
 | .jD _,_,d=>d.2.2
 | .iW _ p,_,d=>(pR p d).2.2
 | .ptr _ p,_,d=>pR p d
 | .bL _,_,d=>d.2
 | .vw,_,d=>d.2
 | .func _ fs cs,_,d=>cs.R (fs.R d)
 | .iface _ v,_,d=>v.R d
 | .cons a b,_,d=>b.R (a.R d)
 | .bA,_,d| .own _,_,d| .mp _,_,d| .gj,_,d| .dP,_,d| .fq,_,d| .hJ,_,d| .nil,_,d| .eU _,_,d| .Td,_,d=>d
def Sh.V(y:YC):(s:Sh)→{l:List Type}→prod (s.H l)→AV
 | .val t,_,d=>.val t d.1
 | .cV f t,_,d=>.cV f t d.1
 | .jD b,_,d=>.jD b d.1 d.2.1
 | .iW b p,_,d=>.iW b (pV p d) (pR p d).1 (pR p d).2.1
 | .ptr b p,_,d=>.ptr b (pV p d)
 | .bL t,_,d=>.bL t d.1
 | .func f fs cs,_,d=>.func (.func f) (fs.V y d) (cs.V y (fs.R d))
 | .iface t v,_,d=>.iface t (v.V y d)
 | .cons a b,_,d=>.cons (a.V y d) (b.V y (a.R d))
 | .bA,_,_=>.bA
 | .own b,_,_=>.own b
 | .mp b,_,_=>.mp b
 | .gj,_,_=>.gj
 | .dP,_,_=>.dP
 | .fq,_,_=>.fq
 | .hJ,_,_=>.hJ
 | .vw,_,d=>.func (.yield d.1) .nil .nil
 | .nil,_,_=>.nil
 | .Td,_,_=>.fx
 | .eU t,_,_=>.eU t
def tx{t u:Ty}(h:Ty.same u t=true)(x:u.den):t.den:=Ty.aB h▸x
theorem vz{t u:Ty}(h:Ty.same u t=true)(x:u.den):AV.val t (tx h x)= .val u x:=by
 have e:=Ty.aB h
 subst e;rfl
theorem Bg{f:FuncId}{t u:Ty}(h:Ty.same u t=true)(x:u.den):AV.cV f t (tx h x)= .cV f u x:=by
 have e:=Ty.aB h
 subst e;rfl
theorem Bh{t u:Ty}(h:Ty.same u t=true)(x:u.den):AV.bL t (tx h x)= .bL u x:=by
 have e:=Ty.aB h
 subst e;rfl
def Sh.G:(s:Sh)→{l:List Type}→AV→prod l→Option (prod (s.H l))
 | .val t,_,.val u x,d=>if h:Ty.same u t=true then some (tx h x,d) else none
 | .cV f t,_,.cV g u x,d=>if Nat.beq f g then(if h:Ty.same u t=true then some (tx h x,d) else none) else none
 | .bL t,_,.bL u x,d=>if h:Ty.same u t=true then some (tx h x,d) else none
 | .jD b,_,.jD c i j,d=>if Nat.beq b c then some (i,j,d) else none
 | .iW b p,l,.iW c q i j,d=>if Nat.beq b c then pG p (l:=Nat::Nat::l) q (i,j,d) else none
 | .ptr b p,_,.ptr c q,d=>if Nat.beq b c then pG p q d else none
 |
  .func f fs cs,_,.func (.func g) xs ys,d=>if Nat.beq f g then(match cs.G ys d with
  |some e=>fs.G xs e
  |none=>none) else none
 | .vw,_,.func (.yield g) .nil .nil,d=>some (g,d)
 | .iface t v,_,.iface u x,d=>if Nat.beq t u then v.G x d else none
 |
  .cons a b,_,.cons x y,d=>match b.G y d with
  |some e=>a.G x e
  |none=>none
 | .bA,_,.bA,d| .gj,_,.gj,d| .dP,_,.dP,d| .fq,_,.fq,d| .hJ,_,.hJ,d| .nil,_,.nil,d| .Td,_,.fx,d=>some d
 | .own b,_,.own c,d=>if Nat.beq b c then some d else none
 | .mp b,_,.mp c,d=>if Nat.beq b c then some d else none
 | .eU t,_,.eU u,d=>if Ty.same t u then some d else none
 |_,_,_,_=>none
theorem Sh.uL(y:YC):∀{s:Sh}{l:List Type}{x:AV}{d:prod l}{e:prod (s.H l)},s.G x d=some e→s.V y e=x∧s.R e=d:=by
 intro s
 induction s with
 |
  val t=>
  intro l x d e h
  cases x<;>simp only[Sh.G] at h<;>try cases h
  split at h
  ·rename_i hs;cases h;exact⟨vz hs _,rfl⟩
  grind
 |
  bL t=>
  intro l x d e h
  cases x<;>simp only[Sh.G] at h<;>try cases h
  split at h
  ·rename_i hs;cases h;exact⟨Bh hs _,rfl⟩
  grind
 |
  cV f t=>
  intro l x d e h
  cases x<;>simp only[Sh.G] at h<;>try cases h
  split at h
  ·rename_i hf
   have:=bR hf;subst this
   split at h
   ·rename_i hs;cases h;exact⟨Bg hs _,rfl⟩
   grind
  grind
 |
  jD b=>
  intro l x d e h
  cases x<;>simp only[Sh.G] at h<;>try cases h
  split at h
  ·rename_i hs;cases h;have:=bR hs;subst this;trivial
  grind
 |
  iW b p=>
  intro l x d e h
  cases x<;>simp only[Sh.G] at h<;>try cases h
  obtain⟨hs,h0⟩:=bP h
  grind [bR,Da,Sh.V,Sh.R]
 |
  ptr b p=>
  intro l x d e h
  cases x<;>simp only[Sh.G] at h<;>try cases h
  obtain⟨hs,h0⟩:=bP h
  have:=bR hs;subst this
  obtain⟨h1,h2⟩:=Da h0
  exact⟨by simp only[Sh.V];rw[h1],h2⟩
 |
  func f fs cs ih1 ih2=>
  intro l x d e h
  cases x with
  |
   func g xs ys=>
   cases g with
   |
    func g=>
    simp only[Sh.G] at h
    split at h
    ·rename_i hs
     have:=bR hs;subst this
     split at h
     ·rename_i e' he
      obtain⟨a1,a2⟩:=ih2 he
      obtain⟨b1,b2⟩:=ih1 h
      grind [Sh.V,Sh.R]
     grind
    grind
   |_=>trivial
  |_=>trivial
 |
  iface t v ih=>
  intro l x d e h
  cases x<;>simp only[Sh.G] at h<;>try cases h
  obtain⟨hs,h0⟩:=bP h
  have:=bR hs;subst this
  obtain⟨b1,b2⟩:=ih h0
  exact⟨by simp only[Sh.V];rw[b1],b2⟩
 |
  cons a b ih1 ih2=>
  intro l x d e h
  cases x<;>simp only[Sh.G] at h<;>try cases h
  split at h
  ·rename_i e' he
   obtain⟨a1,a2⟩:=ih2 he
   obtain⟨b1,b2⟩:=ih1 h
   grind [Sh.V,Sh.R]
  grind
 |
  own b=>
  intro l x d e h
  cases x<;>simp only[Sh.G] at h<;>try cases h
  split at h
  ·rename_i hs;cases h;have:=bR hs;subst this;trivial
  grind
 |
  mp b=>
  intro l x d e h
  cases x<;>simp only[Sh.G] at h<;>try cases h
  split at h
  ·rename_i hs;cases h;have:=bR hs;subst this;trivial
  grind
 |
  eU t=>
  intro l x d e h
  cases x<;>simp only[Sh.G] at h<;>try cases h
  split at h
  ·rename_i hs;cases h;have:=Ty.aB hs;subst this;trivial
  grind
 |
  vw=>
  intro l x d e h
  cases x with
  |
   func g xs ys=>
   cases g with
   |yield g=>cases xs<;>cases ys<;>simp only[Sh.G] at h<;>cases h;trivial
   |_=>trivial
  |_=>trivial
 |_=>intro l x d e h;cases x<;>simp only[Sh.G] at h<;>cases h<;>exact⟨rfl,rfl⟩
def fK.H:fK→List Type→List Type
 | .var _ s,l=>s.H l
 | .row _ _ t,l=>List t.den::l
 | .map k v,l=>List (k.den×v.den)::l
 | .lp,l=>YC::Nat::l
 | .sI,l=>l
 | .tv _ s,l=>Nat::s.H l
 | .bU _ _ t s,l=>List t.den::Nat::s.H l
 | .cS _ _ t _,l=>List t.den::l
 | .pmap k t _,l=>List (k.den×t.den)::l
 | .lB k v,l=>List (k.den×v.den)::l
 | .gW _ _,l=>l
def fK.R:(s:fK)→{l:List Type}→prod (s.H l)→prod l
 | .var _ s,_,d=>s.R d
 | .row _ _ _,_,d=>d.2
 | .map _ _,_,d=>d.2
 | .lp,_,d=>d.2.2
 | .sI,_,d=>d
 | .tv _ s,_,d=>s.R d.2
 | .bU _ _ _ s,_,d=>s.R d.2.2
 | .cS _ _ _ _,_,d=>d.2
 | .pmap _ _ _,_,d=>d.2
 | .lB _ _,_,d=>d.2
 | .gW _ _,_,d=>d
def OO{k:Ty}:List (k.den×FuncId)→List (k.den×AV)
 |[]=>[]
 |x::l=>(x.1,.func (.func x.2) .nil .nil)::OO l
def ID{k:Ty}:List (k.den×AV)→List (k.den×FuncId)→Bool
 |[],[]=>true
 |
  x::l,z::m=>(match x.2 with
  | .func (.func f) .nil .nil=>Nat.beq f z.2
  |_=>false)&&aY k x.1 z.1&&ID l m
 |_,_=>false
theorem Db{k:Ty}(hk:k.keyed=true):∀{l:List (k.den×AV)}{m:List (k.den×FuncId)},ID l m=true→OO m=l
 |[],[],_=>rfl
 |[],_::_,h=>by cases h
 |_::_,[],h=>by cases h
 |
  x::l,z::m,h=>by
  simp only[ID,aV] at h
  obtain⟨⟨h1,h2⟩,h3⟩:=h
  have e:=(cm hk _ _).1 h2
  obtain⟨x1,x2⟩:=x
  simp only at e h1
  split at h1
  ·have:=bR h1
   subst this;subst e
   simp only[OO]
   rw[Db hk h3]
  ·cases h1
def fK.V(y:YC):(s:fK)→{l:List Type}→prod (s.H l)→aN
 | .var t s,_,d=>.var t (s.V y d)
 | .row e bs t,_,d=>.row e bs t d.1
 | .map k v,_,d=>.map k v d.1
 | .lp,_,d=>.lp d.1 d.2.1
 | .sI,_,_=>.sI
 | .tv t s,_,d=>.tv d.1 t (s.V y d.2)
 | .bU e bs t s,_,d=>.bU e bs t d.1 d.2.1 (s.V y d.2.2)
 | .cS e bs t e2,_,d=>.cS e bs t d.1 e2 none
 | .pmap k t e2,_,d=>.pmap k t d.1 e2 none
 | .lB k v,_,d=>.lB k v d.1 none
 | .gW k l,_,_=>.gW k (OO l)
def FK{t u:Ty}(h:Ty.same u t=true)(x:List u.den):List t.den:=Ty.aB h▸x
def FL{t u t' u':Ty}(h:Ty.same u t=true)(h':Ty.same u' t'=true)(x:List (u.den×u'.den)):List (t.den×t'.den):=Ty.aB h▸Ty.aB h'▸x
def OP{t u:Ty}(h:Ty.same u t=true)(x:List (u.den×AV)):List (t.den×AV):=Ty.aB h▸x
def fK.G:(s:fK)→{l:List Type}→aN→prod l→Option (prod (s.H l))
 | .var t s,_,.var u x,d=>if Ty.same u t then s.G x d else none
 | .row e bs t,_,.row e' bs' u xs,d=>if Nat.beq e e'&&Nat.beq bs bs' then(if h:Ty.same u t=true then some (FK h xs,d) else none) else none
 | .map k v,_,.map k' v' es,d=>if h:Ty.same k' k=true then(if h':Ty.same v' v=true then some (FL h h' es,d) else none) else none
 | .sI,_,.sI,d=>some d
 | .lp,_,.lp y j,d=>some (y,j,d)
 |
  .tv t s,_,.tv g u x,d=>if Ty.same u t then(match s.G x d with
  |some r=>some (g,r)
  |none=>none) else none
 |
  .bU e bs t s,_,.bU e' bs' u xs i x,d=>if Nat.beq e e'&&Nat.beq bs bs' then(if h:Ty.same u t=true then(match s.G x d with
  |some r=>some (FK h xs,i,r)
  |none=>none) else none) else none
 | .cS e bs t e2,_,.cS e' bs' u xs e2' none,d=>if Nat.beq e e'&&Nat.beq bs bs'&&Nat.beq e2 e2' then(if h:Ty.same u t=true then some (FK h xs,d) else none) else none
 | .pmap k t e2,_,.pmap k' t' es e2' none,d=>if Nat.beq e2 e2' then(if h:Ty.same k' k=true then(if h':Ty.same t' t=true then some (FL h h' es,d) else none) else none) else none
 | .lB k v,_,.lB k' v' es none,d=>if h:Ty.same k' k=true then(if h':Ty.same v' v=true then some (FL h h' es,d) else none) else none
 | .gW k l,_,.gW k' l',d=>if h:Ty.same k' k=true then(if k.keyed&&ID (OP h l') l then some d else none) else none
 |_,_,_,_=>none
theorem fK.uL(y:YC){s:fK}{l:List Type}{x:aN}{d:prod l}{e:prod (s.H l)}(h:s.G x d=some e):s.V y e=x∧s.R e=d:=by
 cases s with
 |
  var t s=>
  cases x<;>simp only[fK.G] at h<;>try cases h
  obtain⟨hs,h0⟩:=bP h
  have:=Ty.aB hs;subst this
  obtain⟨h1,h2⟩:=Sh.uL y h0
  exact⟨by simp only[fK.V];rw[h1],h2⟩
 |
  row e bs t=>
  cases x<;>simp only[fK.G] at h<;>try cases h
  split at h
  ·rename_i hs
   simp only[aV] at hs
   have e1:=bR hs.1;subst e1
   have e2:=bR hs.2;subst e2
   split at h
   ·rename_i ht
    cases h
    have e3:=Ty.aB ht;subst e3
    trivial
   grind
  grind
 |
  map k v=>
  cases x<;>simp only[fK.G] at h<;>try cases h
  split at h
  ·rename_i hs
   split at h
   ·rename_i ht
    cases h
    have e1:=Ty.aB hs;subst e1
    have e3:=Ty.aB ht;subst e3
    trivial
   grind
  grind
 |sI=>cases x<;>simp only[fK.G] at h<;>cases h;trivial
 |lp=>cases x<;>simp only[fK.G] at h<;>cases h;trivial
 |
  tv t s=>
  cases x<;>simp only[fK.G] at h<;>try cases h
  obtain⟨hs,h0⟩:=bP h
  have:=Ty.aB hs;subst this
  split at h0
  ·rename_i r hr
   cases h0
   obtain⟨h1,h2⟩:=Sh.uL y hr
   exact⟨by simp only[fK.V];rw[h1],h2⟩
  grind
 |
  bU e0 bs t s=>
  cases x with
  |
   bU e' bs' u xs i v=>
   simp only[fK.G] at h
   obtain⟨hs,h0⟩:=bP h
   clear h
   simp only[aV] at hs
   have e1:=bR hs.1;subst e1
   have e2:=bR hs.2;subst e2
   by_cases ht:Ty.same u t=true
   ·rw[dif_pos ht] at h0
    cases hr:s.G v d with
    |none=>grind
    |
     some r=>
     rw[hr] at h0
     cases h0
     have e3:=Ty.aB ht;subst e3
     obtain⟨g1,g2⟩:=Sh.uL y hr
     exact⟨by simp only[fK.V];rw[g1];rfl,g2⟩
   grind
  |_=>trivial
 |
  cS e bs t e2=>
  cases x with
  |
   cS e' bs' u xs e2' f=>
   cases f with
   |some f=>trivial
   |
    none=>
    simp only[fK.G] at h
    obtain⟨hs,h0⟩:=bP h
    clear h
    simp only[aV] at hs
    have e1:=bR hs.1.1;subst e1
    have e2:=bR hs.1.2;subst e2
    have e3:=bR hs.2;subst e3
    by_cases ht:Ty.same u t=true
    ·rw[dif_pos ht] at h0
     cases h0
     have e3:=Ty.aB ht;subst e3
     trivial
    grind
  |_=>trivial
 |
  pmap k t e2=>
  cases x with
  |
   pmap k' t' es e2' f=>
   cases f with
   |some f=>trivial
   |
    none=>
    simp only[fK.G] at h
    obtain⟨hs,h0⟩:=bP h
    clear h
    have e3:=bR hs;subst e3
    by_cases ht:Ty.same k' k=true
    ·rw[dif_pos ht] at h0
     by_cases ht':Ty.same t' t=true
     ·rw[dif_pos ht'] at h0
      cases h0
      have e3:=Ty.aB ht;subst e3
      have e4:=Ty.aB ht';subst e4
      trivial
     grind
    grind
  |_=>trivial
 |
  lB k v=>
  cases x with
  |
   lB k' v' es c=>
   cases c with
   |some c=>trivial
   |
    none=>
    simp only[fK.G] at h
    by_cases ht:Ty.same k' k=true
    ·rw[dif_pos ht] at h
     by_cases ht':Ty.same v' v=true
     ·rw[dif_pos ht'] at h
      cases h
      have e3:=Ty.aB ht;subst e3
      have e4:=Ty.aB ht';subst e4
      trivial
     grind
    grind
  |_=>trivial
 |
  gW k l=>
  cases x with
  |
   gW k' l'=>
   simp only[fK.G] at h
   by_cases ht:Ty.same k' k=true
   ·rw[dif_pos ht] at h
    split at h
    ·rename_i hc
     cases h
     simp only[aV] at hc
     have e3:=Ty.aB ht;subst e3
     refine⟨?_,rfl⟩
     show aN.gW _ (OO l)=_
     rw[Db hc.1 hc.2]
     rfl
    grind
   grind
  |_=>trivial
def NK:List (Nat×Sh)→List Type→List Type
 |[],l=>l
 |(_,s)::m,l=>s.H (NK m l)
def P2(y:YC):(m:List (Nat×Sh))→{l:List Type}→prod (NK m l)→List (Nat×AV)
 |[],_,_=>[]
 |(i,s)::m,_,d=>(i,s.V y d)::P2 y m (s.R d)
def OQ:(m:List (Nat×Sh))→{l:List Type}→prod (NK m l)→prod l
 |[],_,d=>d
 |(_,s)::m,_,d=>OQ m (s.R d)
def P3:(m:List (Nat×Sh))→{l:List Type}→List AV→prod l→Option (prod (NK m l))
 |[],_,_,d=>some d
 |
  (i,s)::m,_,tm,d=>match tm[i]? with
  |
   some x=>match P3 m tm d with
   |some e=>s.G x e
   |none=>none
  |none=>none
theorem FN(y:YC):∀{m:List (Nat×Sh)}{l:List Type}{tm:List AV}{d:prod l}{e:prod (NK m l)},P3 m tm d=some e→(∀i x,(i,x)∈P2 y m e→tm[i]? =some x)∧OQ m e=d
 |[],l,tm,d,e,h=>by cases h;exact⟨(fun i x hx=>by cases hx),rfl⟩
 |
  (i,s)::m,l,tm,d,e,h=>by
  simp only[P3] at h
  split at h
  ·rename_i x hx
   split at h
   ·rename_i e' he
    obtain⟨h1,h2⟩:=FN y he
    obtain⟨g1,g2⟩:=Sh.uL y h
    refine⟨?_,by simp only[OQ];grind⟩
    intro j z hz
    simp only[P2,fe,gJ] at hz
    grind
   grind
  grind
def il:List (Nat×fK)→List Type→List Type
 |[],l=>l
 |(_,s)::m,l=>s.H (il m l)
def nr(y:YC):(m:List (Nat×fK))→{l:List Type}→prod (il m l)→List (Nat×aN)
 |[],_,_=>[]
 |(i,s)::m,_,d=>(i,s.V y d)::nr y m (s.R d)
def NL:(m:List (Nat×fK))→{l:List Type}→prod (il m l)→prod l
 |[],_,d=>d
 |(_,s)::m,_,d=>NL m (s.R d)
def OR:(m:List (Nat×fK))→{l:List Type}→List (Option aN)→prod l→Option (prod (il m l))
 |[],_,_,d=>some d
 |
  (i,s)::m,_,hp,d=>match hp[i]? with
  |
   some (some x)=>match OR m hp d with
   |some e=>s.G x e
   |none=>none
  |_=>none
theorem Bi(y:YC):∀{m:List (Nat×fK)}{l:List Type}{hp:List (Option aN)}{d:prod l}{e:prod (il m l)},OR m hp d=some e→(∀i x,(i,x)∈nr y m e→hp[i]? =some (some x))∧NL m e=d
 |[],l,hp,d,e,h=>by cases h;exact⟨(fun i x hx=>by cases hx),rfl⟩
 |
  (i,s)::m,l,hp,d,e,h=>by
  simp only[OR] at h
  split at h
  ·rename_i x hx
   split at h
   ·rename_i e' he
    obtain⟨h1,h2⟩:=Bi y he
    obtain⟨g1,g2⟩:=fK.uL y h
    refine⟨?_,by simp only[NL];grind⟩
    intro j z hz
    simp only[nr,fe,gJ] at hz
    grind
   grind
  grind
def rq:List Sh→List Type→List Type
 |[],l=>l
 |s::m,l=>s.H (rq m l)
def xi(y:YC):(m:List Sh)→{l:List Type}→prod (rq m l)→List AV
 |[],_,_=>[]
 |s::m,_,d=>s.V y d::xi y m (s.R d)
def xj:(m:List Sh)→{l:List Type}→prod (rq m l)→prod l
 |[],_,d=>d
 |s::m,_,d=>xj m (s.R d)
def LO:(m:List Sh)→{l:List Type}→List AV→prod l→Option (prod (rq m l))
 |[],_,[],d=>some d
 |
  s::m,_,x::xs,d=>match LO m xs d with
  |some e=>s.G x e
  |none=>none
 |_,_,_,_=>none
theorem xl(y:YC):∀{m:List Sh}{l:List Type}{xs:List AV}{d:prod l}{e:prod (rq m l)},LO m xs d=some e→xi y m e=xs∧xj m e=d
 |
  [],l,xs,d,e,h=>by
  cases xs with
  |nil=>cases h;trivial
  |cons _ _=>trivial
 |
  s::m,l,xs,d,e,h=>by
  cases xs with
  |nil=>simp[LO] at h
  |
   cons x xs=>
   simp only[LO] at h
   split at h
   ·rename_i e' he
    obtain⟨h1,h2⟩:=xl y he
    obtain⟨g1,g2⟩:=Sh.uL y h
    exact⟨by simp only[xi];rw[g1,g2,h1],by simp only[xj];rw[g2,h2]⟩
   ·cases h
structure SS where
 nt:Nat
 nh:Nat
 tm:List (Nat×Sh)
 hp:List (Nat×fK)
 df:List Sh
def SS.H(S:SS):List Type:=NK S.tm (il S.hp (rq S.df []))
@[reducible] def SS.T (S:SS):Type:=gk S.H
def cZ:List (Nat×aN)→List (Nat×Option aN)
 |[]=>[]
 |(i,k)::l=>(i,some k)::cZ l
theorem qS{i:Nat}{k:Option aN}:∀{l:List (Nat×aN)},(i,k)∈cZ l→∃b,k=some b∧(i,b)∈l
 |[],h=>by cases h
 |
  (j,b)::l,h=>by
  simp only[cZ,fe,gJ] at h
  rcases h with⟨rfl,rfl⟩|h
  ·grind
  ·obtain⟨b',e,hm⟩:=qS h
   exact⟨b',e,dT _ hm⟩
def SS.lL(S:SS)(y:YC)(d:prod S.H):St:=
 ⟨l9 (P2 y S.tm d) (List.replicate S.nt .bot),l9 (cZ (nr y S.hp (Ax.OQ S.tm d))) (List.replicate S.nh none),xi y S.df (NL S.hp (Ax.OQ S.tm d))⟩
def SS.st(S:SS)(y:YC)(t:S.T):St:=S.lL y (pz S.H t)
def SS.get(S:SS)(σ:St):Option S.T:=
 if Nat.beq σ.tm.length S.nt&&Nat.beq σ.hp.length S.nh then(match LO S.df (l:=[]) σ.df () with
  |
   some d1=>match OR S.hp σ.hp d1 with
   |
    some d2=>match P3 S.tm σ.tm d2 with
    |some d3=>some (K0 S.H d3)
    |none=>none
   |none=>none
  |none=>none) else none
theorem nI{α:Type}:∀{l:List (Nat×α)}{m:List α},(l9 l m).length=m.length
 |[],_=>rfl
 |(i,x)::l,m=>by rw[l9,nI,bQ]
theorem kT{α:Type}{i:Nat}{x:α}:∀{l:List (Nat×α)}{m:List α},(l9 l m)[i]? =some x→(i,x)∈l∨m[i]? =some x
 |[],_,h=>Or.inr h
 |
  (j,z)::l,m,h=>by
  rw[l9] at h
  rcases kT h with h|h
  ·exact Or.inl (dT _ h)
  ·rw[dm] at h
   split at h
   ·rename_i e
    split at h
    ·cases h;subst e;exact Or.inl (du ..)
    ·cases h
   ·exact Or.inr h
theorem Wk.sub{gl:Ctx}{σ σ':St}(hl:σ'.tm.length=σ.tm.length)(ht:∀(i:Nat)(x:AV),σ'.tm[i]? =some x→x= .bot∨σ.tm[i]? =some x)
 (hh:∀(b:Nat)(k:aN),σ'.hp[b]? =some (some k)→σ.hp[b]? =some (some k)) (hd:σ'.df=σ.df):Wk gl σ σ':=by
 intro E a w h
 refine⟨E,⟨by rw[hl];exact h.len,?_,h.hw.less hh,by rw[hd];exact h.df⟩,{Ext.refl (Own σ.hp E) E w with own:=?_ }⟩
 ·intro i x hx v hv
  rcases ht i x hx with e|e
  ·subst e;trivial
  ·exact h.tm i x e v hv
 ·rintro g ⟨b,k,hb,hg⟩
  exact Or.inl ⟨b,k,hh b k hb,hg⟩
theorem SS.eV{gl:Ctx}{S:SS}{y:YC}{σ:St}{t:S.T}(h:S.get σ=some t):Wk gl σ (S.st y t):=by
 unfold SS.get at h
 split at h
 ·rename_i hc
  simp only[aV] at hc
  have l1:=bR hc.1
  have l2:=bR hc.2
  split at h
  ·rename_i d1 h1
   split at h
   ·rename_i d2 h2
    split at h
    ·rename_i d3 h3
     cases h
     have e0:S.st y (K0 S.H d3)=S.lL y d3:=congrArg (S.lL y) (oM S.H d3)
     refine Eq.mpr (congrArg (Wk gl σ) e0) ?_
     obtain⟨a1,a2⟩:=xl y h1
     obtain⟨b1,b2⟩:=Bi y h2
     obtain⟨c1,c2⟩:=FN y h3
     refine Wk.sub ?_ ?_ ?_ ?_
     ·grind [SS.lL,nI]
     ·intro i x hx
      simp only[SS.lL] at hx
      rcases kT hx with hx|hx<;>grind
     ·intro b k hk
      simp only[SS.lL] at hk
      rcases kT hk with hk|hk
      ·grind [qS]
      grind
     grind [SS.lL]
    grind
   grind
  grind
 grind
end Go.Ax
namespace Go.Ax
inductive Nd where
 |P4 (b:Nat) (t:Ty)
 |zp (c b:Nat)
 |own (c:Nat) (p:Path)
 |P5
def AV.owned:AV→Option Nat
 | .own b| .jD b _ _| .iW b _ _ _| .mp b=>some b
 |
  .cons a b=>match a.owned with
  |some c=>some c
  |none=>b.owned
 |_=>none
def Te:Path→Path
 | .cw n::p=>.cw (n+1)::p
 |p=>p
def Bj:List Nd→List Nd
 |[]=>[]
 | .own c p::l=>.own c (Te p)::Bj l
 |n::l=>n::Bj l
def FP:List Nd→List Nd
 |[]=>[]
 | .own c p::l=>.own c (.cw 0::p)::FP l
 |n::l=>n::FP l
def lz:Sh→AV→List Nd
 |
  .val t,x=>match x.owned with
  |some b=>[.P4 b t]
  |
   none=>match x with
   | .val _ _=>[]
   |_=>[.P5]
 | .bL t,.ptr b _=>[.P4 b t]
 | .own c,.own b=>[.zp c b]
 | .own c,.bA=>[.own c []]
 | .ptr c _,.ptr b _=>[.zp c b]
 | .jD c,.jD b _ _=>[.zp c b]
 | .iW c _,.iW b _ _ _=>[.zp c b]
 | .mp c,.mp b=>[.zp c b]
 | .cons a b,.cons x y=>FP (lz a x)++Bj (lz b y)
 | .func _ a b,.func _ x y=>lz a x++lz b y
 | .iface _ a,.iface _ x=>lz a x
 |_,_=>[]
def Dc:fK→aN→List Nd
 | .var _ s,.var _ x=>lz s x
 | .tv _ s,.tv _ _ x=>lz s x
 | .bU _ _ _ s,.bU _ _ _ _ _ x=>lz s x
 | .lB _ _,.lB _ _ _ (some _)=>[.P5]
 |_,_=>[]
def P6{α:Type}:List (Nat×α)→Nat→Option α
 |[],_=>none
 |(i,x)::l,j=>if Nat.beq i j then some x else P6 l j
def Dd:List Nd→List (Nat×Nat)
 |[]=>[]
 | .zp c b::l=>(c,b)::Dd l
 |_::l=>Dd l
def OS:List Nd→Option (Nat×Ty)
 |[]=>none
 | .P4 b t::_=>some (b,t)
 |_::l=>OS l
def K1:List (Nat×Sh)→List AV→List Nd
 |[],_=>[]
 |
  (i,s)::l,tm=>(match tm[i]? with
  |some x=>lz s x
  |none=>[])++K1 l tm
def K2:List Sh→List AV→List Nd
 |s::l,x::xs=>lz s x++K2 l xs
 |_,_=>[]
def De(hp:List (Nat×fK))(σ:List (Option aN)):Nat→List (Nat×Nat)→List (Nat×Nat)→List Nd→List (Nat×Nat)×List Nd
 |0,_,done,nd=>(done,nd)
 |_+1,[],done,nd=>(done,nd)
 |
  n+1,(c,b)::todo,done,nd=>
  match P6 done c with
  |some _=>De hp σ n todo done nd
  |
   none=>
   match P6 hp c,σ[b]? with
   |some s,some (some k)=>De hp σ n (Dd (Dc s k)++todo) ((c,b)::done) (nd++Dc s k)
   |_,_=>De hp σ n todo ((c,b)::done) nd
def pinned:List (Nat×fK)→List (Option aN)→List (Nat×Nat)
 |[],_=>[]
 |
  (c,s)::l,σ=>if Nat.blt c 16 then(c,c)::pinned l σ else(match s with
  | .sI=>(c,c)::pinned l σ
  |_=>pinned l σ)
def Df(S:SS)(σ:St):List (Nat×Nat)×List Nd:=
 let n0:=K1 S.tm σ.tm++K2 S.df σ.df
 De S.hp σ.hp 200 (Dd n0++pinned S.hp σ.hp) [] n0
def Tf(hp:List (Option aN))(b:Nat)(t:Ty):Ty:=
 match hp[b]? with
 |some (some (.row _ bs u _))=>.slice bs u
 |
  _=>match t with
  | .slice bs u=>.slice bs u
  |_=>.slice 1 (.int .u8)
def Dg(S:SS):Nat→St→Option St
 |0,_=>none
 |
  n+1,σ=>match OS (Df S σ).2 with
  |none=>some σ
  |
   some (b,t)=>match freeze b (Tf σ.hp b t) σ with
   |some σ'=>Dg S n σ'
   |none=>none
def LR:List AV→List Nat
 |[]=>[]
 |x::l=>x.ids++LR l
def LS:List (Option aN)→Nat→List Nat
 |[],_=>[]
 |some k::l,i=>i::(k.ids++LS l (i+1))
 |none::l,i=>LS l (i+1)
def FQ:List (Nat×Nat)→List (Nat×Nat)
 |[]=>[]
 |(c,b)::l=>if Nat.beq c b then FQ l else(c,b)::FQ l
def FR(used:List Nat):List (Nat×Nat)→List (Nat×Nat)→Option (Nat×Nat×List (Nat×Nat))
 |[],_=>none
 |(c,b)::l,acc=>if cK c used then FR used l ((c,b)::acc) else some (c,b,acc++l)
def OT(b x:Nat):List (Nat×Nat)→List (Nat×Nat)
 |[]=>[]
 |(c,d)::l=>(c,if Nat.beq d b then x else d)::OT b x l
def vA(top:Nat):Nat→List (Nat×Nat)→St→Option St
 |_,[],σ=>some σ
 |0,_,_=>none
 |
  n+1,(c,b)::mv,σ=>
  match FR (LR σ.tm++LR σ.df++LS σ.hp 0) ((c,b)::mv) [] with
  |
   some (c',b',rest)=>match rename b' c' σ with
   |some σ'=>vA top n rest σ'
   |none=>none
  |
   none=>match rename b top σ with
   |some σ'=>vA top n (OT b top ((c,b)::mv)) σ'
   |none=>none
def FU(hp:List (Nat×fK))(c:Nat)(f:TypeId→Nat→Ty→Gh)(σ:St):Option St:=
 match P6 hp c with
 |some (.row e bs t)=>(f e bs t).go σ
 |_=>none
def vC(hp:List (Nat×fK))(f:Nat→Path→TypeId→Nat→Ty→Gh):List Nd→St→Option St
 |[],σ=>some σ
 |
  .own c p::l,σ=>match FU hp c (f c p) σ with
  |some σ'=>vC hp f l σ'
  |none=>none
 |_::l,σ=>vC hp f l σ
def xm(hp:List (Nat×fK)):List (Nat×Sh)→St→Option St
 |[],σ=>some σ
 |
  (i,s)::l,σ=>match σ.tm[i]? with
  |
   some x=>match vC hp (fun c _ e bs t=>.xh i c e bs t) (lz s x) σ with
   |some σ'=>xm hp l σ'
   |none=>none
  |none=>none
def tz(hp:List (Nat×fK)):List (Nat×fK)→St→Option St
 |[],σ=>some σ
 |
  (i,s)::l,σ=>match σ.hp[i]? with
  |
   some (some k)=>match vC hp (fun c p e bs t=>.rp i p c e bs t) (Dc s k) σ with
   |some σ'=>tz hp l σ'
   |none=>none
  |_=>tz hp l σ
def Bk:List Nd→Bool
 |[]=>false
 | .P5::_=>true
 |_::l=>Bk l
def pO:List (Nat×Sh)→St→Option St
 |[],σ=>some σ
 |
  (i,.val t)::l,σ=>match σ.tm[i]? with
  |
   some x=>if Bk (lz (.val t) x) then(match(Gh.Fx i t).go σ with
   |some σ'=>pO l σ'
   |none=>none) else pO l σ
  |none=>none
 |_::l,σ=>pO l σ
def pQ:List (Nat×fK)→St→Option St
 |[],σ=>some σ
 |
  (i,s)::l,σ=>match σ.hp[i]? with
  |
   some (some k)=>if Bk (Dc s k) then(match(Gh.Bb i).go σ with
   |some σ'=>pQ l σ'
   |none=>none) else pQ l σ
  |_=>pQ l σ
def OU:List (Nat×Sh)→List Nat
 |[]=>[]
 |(i,_)::l=>i::OU l
def OV:List (Nat×Nat)→List Nat
 |[]=>[]
 |(_,b)::l=>b::OV l
def SS.rZ(
 S:SS) (σ:St):Option S.T:=
 match Dg S 40 σ with
 |none=>none
 |
  some σ1=>
  let m:=(Df S σ1).1
  match(Gh.zj (OU S.tm) (OV m)).go σ1 with
  |none=>none
  |
   some σ2=>match vA (S.nh -1) 60 (FQ m) σ2 with
   |none=>none
   |
    some σ3=>match xm S.hp S.tm σ3 with
    |none=>none
    |
     some σ4=>match tz S.hp S.hp σ4 with
     |none=>none
     |
      some σ5=>match pO S.tm σ5 with
      |none=>none
      |
       some σ6=>match pQ S.hp σ6 with
       |none=>none
       |some σ7=>S.get σ7
section
variable{gl:Ctx}
theorem zq{S:SS}:∀{n:Nat}{σ σ':St},Dg S n σ=some σ'→Wk gl σ σ'
 |0,_,_,h=>by cases h
 |
  n+1,σ,σ',h=>by
  simp only[Dg] at h
  split at h
  ·cases h;exact Wk.refl gl σ
  ·split at h
   ·rename_i σ1 h1;exact(Wk.freeze h1).trans (zq h)
   ·cases h
theorem tA{top:Nat}:∀{n:Nat}{mv:List (Nat×Nat)}{σ σ':St},vA top n mv σ=some σ'→Wk gl σ σ'
 |
  _,[],σ,σ',h=>by
  grind [vA,Wk.refl]
 |0,_::_,_,_,h=>by trivial
 |
  n+1,(c,b)::mv,σ,σ',h=>by
  simp only[vA] at h
  split at h
  ·split at h
   ·rename_i σ1 h1;exact(Wk.rename h1).trans (tA h)
   ·cases h
  ·split at h
   ·rename_i σ1 h1;exact(Wk.rename h1).trans (tA h)
   ·cases h
theorem kz{hp:List (Nat×fK)}{f:Nat→Path→TypeId→Nat→Ty→Gh}:∀{l:List Nd}{σ σ':St},vC hp f l σ=some σ'→Wk gl σ σ'
 |[],σ,σ',h=>by cases h;exact Wk.refl gl σ
 |
  .own c p::l,σ,σ',h=>by
  simp only[vC] at h
  split at h
  ·rename_i σ1 h1
   unfold FU at h1
   split at h1
   ·exact(Gh.ok h1).trans (kz h)
   ·cases h1
  ·cases h
 | .P4 _ _::l,σ,σ',h=>kz (l:=l) h
 | .zp _ _::l,σ,σ',h=>kz (l:=l) h
 | .P5::l,σ,σ',h=>kz (l:=l) h
theorem vD{hp:List (Nat×fK)}:∀{l:List (Nat×Sh)}{σ σ':St},xm hp l σ=some σ'→Wk gl σ σ'
 |[],σ,σ',h=>by cases h;exact Wk.refl gl σ
 |
  (i,s)::l,σ,σ',h=>by
  simp only[xm] at h
  split at h
  ·split at h
   ·rename_i σ1 h1;exact(kz h1).trans (vD h)
   ·cases h
  ·cases h
theorem pS{hp:List (Nat×fK)}:∀{l:List (Nat×fK)}{σ σ':St},tz hp l σ=some σ'→Wk gl σ σ'
 |[],σ,σ',h=>by cases h;exact Wk.refl gl σ
 |
  (i,s)::l,σ,σ',h=>by
  simp only[tz] at h
  split at h
  ·split at h
   ·rename_i σ1 h1;exact(kz h1).trans (pS h)
   ·cases h
  ·exact pS (l:=l) h
theorem mz:∀{l:List (Nat×Sh)}{σ σ':St},pO l σ=some σ'→Wk gl σ σ'
 |[],σ,σ',h=>by cases h;exact Wk.refl gl σ
 |
  (i,s)::l,σ,σ',h=>by
  cases s with
  |
   val t=>
   simp only[pO] at h
   split at h
   ·split at h
    ·split at h
     ·rename_i σ1 h1;exact(Gh.ok h1).trans (mz h)
     ·cases h
    ·exact mz (l:=l) h
   ·cases h
  |_=>exact mz (l:=l) h
theorem mA:∀{l:List (Nat×fK)}{σ σ':St},pQ l σ=some σ'→Wk gl σ σ'
 |[],σ,σ',h=>by cases h;exact Wk.refl gl σ
 |
  (i,s)::l,σ,σ',h=>by
  simp only[pQ] at h
  split at h
  ·split at h
   ·split at h
    ·rename_i σ1 h1;exact(Gh.ok h1).trans (mA h)
    ·cases h
   ·exact mA (l:=l) h
  ·exact mA (l:=l) h
theorem SS.im{S:SS}{y:YC}{σ:St}{t:S.T}(h:S.rZ σ=some t):Wk gl σ (S.st y t):=by
 unfold SS.rZ at h
 split at h
 ·cases h
 rename_i σ1 h1
 simp only at h
 split at h
 ·cases h
 rename_i σ2 h2
 split at h
 ·cases h
 rename_i σ3 h3
 split at h
 ·cases h
 rename_i σ4 h4
 split at h
 ·cases h
 rename_i σ5 h5
 split at h
 ·cases h
 rename_i σ6 h6
 split at h
 ·cases h
 rename_i σ7 h7
 exact((((((zq h1).trans (Gh.ok h2)).trans (tA h3)).trans (vD h4)).trans (pS h5)).trans (mz h6)).trans ((mA h7).trans (SS.eV h))
end
end Go.Ax
namespace Go.Ax
def Bl:aN:=.row 0 0 .unit []
theorem Dh{E:Env}{w:World}{b:Nat}(h:RB E w b Bl):False:=by
 have h:=h.2.2.2.1
 trivial
def tB(f:aU)(z:Nat):aU:=⟨f.rt,f.rb,[],none,.bot,[(z,some Bl)]⟩
def Di(z:Nat):aU:=⟨[],[z],[],none,.bot,[]⟩
def jw(fs:List aU)(f:aU)(z:Nat)(gs:List aU):List aU:=fs++tB f z::gs
def Bm(P:Program)(gl:Ctx)(ops:Array Oper)(z:Nat)(j:Nat)(g:aU)(σ:St):Prop:=uE P gl ops j g σ∨(g=Di z∧σ.hp[z]? =some (some Bl))
def mB:List Nat→List AV→List AV
 |[],tm=>tm
 |d::l,tm=>mB l (tm.set d .bot)
theorem qT:∀{l:List Nat}{tm:List AV},(mB l tm).length=tm.length
 |[],_=>rfl
 |d::l,tm=>by unfold mB;rw[qT];simp
theorem qU{i:Nat}{x:AV}:∀{l:List Nat}{tm:List AV},(mB l tm)[i]? =some x→x= .bot∨(i∉l∧tm[i]? =some x)
 |[],_,h=>Or.inr ⟨by simp,h⟩
 |
  d::l,tm,h=>by
  unfold mB at h
  rcases qU h with h|⟨hl,h⟩<;>grind
def tC(fs:List aU)(f:aU)(z:Nat)(gs:List aU)(σ:St):St:=
 ⟨mB (dstsOf (jw fs f z gs)) σ.tm,aQ (aQ σ.hp f.hw) (ee (kM (jw fs f z gs))),σ.df⟩
theorem bX.app{OK:Nat→aU→St→Prop}:∀{fs gs:List aU}{i:Nat}{σ σ1 σ':St},bX OK i fs σ σ1→bX OK (i+fs.length) gs σ1 σ'→bX OK i (fs++gs) σ σ'
 |[],gs,i,σ,σ1,σ',h,k=>by grind [bX]
 |f::fs,gs,i,σ,σ1,σ',⟨h1,h2,h3⟩,k=>⟨h1,h2,bX.app h3 (by grind)⟩
theorem bX.hl{OK:Nat→aU→St→Prop}:∀{fs:List aU}{i:Nat}{σ σ':St},bX OK i fs σ σ'→σ'.hp.length=σ.hp.length
 |[],_,_,_,h=>by simp only[bX] at h;grind
 |f::fs,_,σ,_,⟨_,_,h⟩=>by rw[bX.hl h,pJ]
def IE(z:Nat)(gs:List aU):Bool:=gs.all fun g=> !cK z (wrote g.hw)
theorem bX.at{OK:Nat→aU→St→Prop}{z:Nat}{k:Option aN}:∀{fs:List aU}{i:Nat}{σ σ':St},bX OK i fs σ σ'→IE z fs=true→σ.hp[z]? =some k→σ'.hp[z]? =some k
 |[],_,_,_,h,_,hz=>by grind [bX]
 |
  f::fs,_,σ,_,⟨_,_,h⟩,hn,hz=>by
  simp only[IE,List.all_cons,aV,iC] at hn
  refine bX.at h (by simpa[IE] using hn.2) ?_
  rw[gL,dU (fun hm=>by rw[lV hm] at hn;cases hn.1)]
  exact hz
theorem tD{P:Program}{G:bO}(T:bD P G){gl:Ctx}{ops:Array Oper}{id:Nat}{draw:Bool}{fs gs:List aU}{f:aU}{z:Nat}{σ σp σe:St}{Q:fE→St→Prop}
 (hc:ow P gl ops 0 fs σ σp) (hp:zh P gl ops fs.length f σp) (hg2:bX (Bm P gl ops z) (fs.length+1) gs (σp.app (tB f z)) σe) (hnz:IE z gs=true) (hz:z<σ.hp.length) (hn:fs.length+1+gs.length=ops.size) (fJ:draw=true→(lq ops (jw fs f z gs)&&iE σ (jw fs f z gs))=true)
 (hpl:f.v.plain=true) (hq:Q (.panic f.v) (tC fs f z gs σ)):cP P gl (.region id ops draw) σ Q:=by
 intro E a w hg
 have hzp:(σp.app (tB f z)).hp[z]? =some (some Bl):=by
  rw[gL]
  simp only[tB,aQ,dm,bH]
  rw[aA (by rw[bX.hl hc];exact hz)]
 have hze:=bX.at hg2 hnz hzp
 have hlen:(jw fs f z gs).length=ops.size:=by simp[jw];omega
 have rest:∀(V:St→Env→World→Prop)(Q:Exit→Act→World→Prop) j g σ1,Bm P gl ops z j g σ1→Lr P gl ops Q V j g σ1:=by
  intro V Q j g σ1 h
  rcases h with h|⟨rfl,h⟩
  ·exact h.q
  ·intro σ' ha _ E a w hg
   have:σ'.hp[z]? =some (some Bl):=by rw[ha.hp z (by simp[Di]),h]
   exact(Dh (hg.hw.cE z _ this)).elim
 have total:∀Q':Exit→Act→World→Prop,(∀σ2 E2 w2 E' u w',wQ gl (dstsOf (jw fs f z gs)) (kM (jw fs f z gs)) σ E w σ2 E2 w2→∀a',bW gl {σ2 with hp:=aQ σ2.hp f.hw} E' a' w'→RV E' w' f.v u→Ext gl.md (Own σ2.hp E2) E2 w2 (Own (aQ σ2.hp f.hw) E') E' w'→Q' (.panic [{v:=u,recovered:=false}]) a' w')→
  bX (Lr P gl ops Q' (wQ gl (dstsOf (jw fs f z gs)) (kM (jw fs f z gs)) σ E w)) 0 (jw fs f z gs) σ σe:=by
  intro Q' hQ'
  refine bX.app (hc.mono fun _ _ _=>uE.q) ⟨?_,(fun d hd=>by cases hd),?_⟩
  ·rw[dN]
   intro σ2 ha _ E2 a2 w2 hg2 hv2 K _
   exact hp σ2 ha E2 a2 w2 hg2 K Q' (fun E' u w' q1 q2 q3=>hQ' σ2 E2 w2 E' u w' hv2 a2 q1 q2 q3)
  ·rw[dN]
   exact hg2.mono (rest _ _)
 have post:∀σ2 E2 w2 E' u w',wQ gl (dstsOf (jw fs f z gs)) (kM (jw fs f z gs)) σ E w σ2 E2 w2→∀a',bW gl {σ2 with hp:=aQ σ2.hp f.hw} E' a' w'→RV E' w' f.v u→Ext gl.md (Own σ2.hp E2) E2 w2 (Own (aQ σ2.hp f.hw) E') E' w'→oF gl Q σ E w (.panic [{v:=u,recovered:=false}]) a' w':=by
  intro σ2 E2 w2 E' u w' hv a' q1 q2 q3
  have hwk2:bW gl (tC fs f z gs σ) E' a' w'∧Ext gl.md (Own (aQ σ2.hp f.hw) E') E' w' (Own (tC fs f z gs σ).hp E') E' w':=by
   refine⟨⟨?_,?_,q1.hw.less ?_,?_⟩,{Ext.refl (Own (aQ σ2.hp f.hw) E') E' w' with own:=?_ }⟩
   ·simp only[tC,qT];rw[q1.len];exact hv.tl
   ·intro i x hx v hv'
    rcases qU hx with hx|⟨hi,hx⟩
    ·subst hx;trivial
    ·exact q1.tm i x (by show σ2.tm[i]? =some x;rw[hv.tm i hi];exact hx) v hv'
   ·intro b k hk
    obtain⟨hb,hk⟩:=dn hk
    show(aQ σ2.hp f.hw)[b]? =_
    rw[ig hv.hl (hv.hp b hb)]
    exact hk
   ·show RD E' w' σ.df a'.defers
    rw[←hv.df];exact q1.df
   ·rintro g ⟨b,k,hk,hgb⟩
    obtain⟨hb,hk⟩:=dn hk
    refine Or.inl ⟨b,k,?_,hgb⟩
    rw[ig hv.hl (hv.hp b hb)]
    exact hk
  exact⟨.panic f.v,tC fs f z gs σ,E',⟨u,rfl,RV.je hpl q2⟩,hq,hwk2.1,(hv.ext.trans q3).trans hwk2.2⟩
 have noend:∀E' a' w',bW gl σe E' a' w'→False:=fun E' a' w' h=>Dh (h.hw.cE z _ hze)
 cases draw with
 |false=>exact qG hlen (total _ post) hg (fun E' a' w' h _=>(noend E' a' w' h).elim)
 |
  true=>
  have fJ:=fJ rfl
  simp only[aV] at fJ
  exact qJ T fJ.1 fJ.2 (total _ post) hg (fun E' a' w' h _=>(noend E' a' w' h).elim)
end Go.Ax
namespace Go.Ax
theorem FW{P:Program}{w:World}{g:Nat}{a:Option Nat}{b:Nat}{c:Array Nat}{d:Nat}{o':Obj}(h:w.heap[g]? =some (.mapIter a b c d)):(setObj g o').run P w= .ok () (w.putObj g o'):=by simp[setObj,Sem.run,h,World.putObj]
theorem run_next_at{P:Program}(w:World)(ty:TypeId)(g bm since c0:Nat)(seen:Array Nat)(es:Array MapEntry)(clock:Nat)(hg:w.heap[g]? =some (.mapIter (some bm) since seen c0))(hb:w.heap[bm]? =some (.map es clock))(hold:∀x∈es.toList,x.born<since)(hsc:since≤c0):
 ((leftOf es seen).size=0∧(Instr.next (.pointer (some ⟨g,0,none⟩)) false ty).run P w= .ok (.tuple #[.bool false]) w)∨
 ∃e∈(leftOf es seen).toList,∃w1:World,(w1=w∨w1=w.drew)∧(Instr.next (.pointer (some ⟨g,0,none⟩)) false ty).run P w= .ok (.tuple #[.bool true,e.key,e.val]) (w1.putObj g (.mapIter (some bm) since (seen.push e.born) clock)):=by
 simp only[Instr.next,getObj,Sem.run_bind,Sem.run,hg,hb,Result.andThen,next_test_false seen es since c0 hold hsc,cJ,bY]
 unfold leftOf
 have hmem:∀x∈(Array.filter (fun e=> !seen.contains e.born) es).toList,x.born<since:=fun x hx=>hold x (by grind)
 generalize Array.filter (fun e=> !seen.contains e.born) es=L at hmem ⊢
 have e1:L.filter (fun x=>decide (x.born<since))=L:=Array.filter_eq_self.2 (fun x hx=>by grind)
 have e2:L.filter (fun x=>decide (x.born≥since))= #[]:=by
  simp_all
 simp only[e1,e2,Array.append_empty]
 by_cases h0:L.size=0
 ·simp_all[Question.forced]
 ·right
  have hne:L.isEmpty=false:=by grind
  simp only[hne,cJ,bY,Array.empty_append,Array.size_map]
  have hch:∃(j:Nat)(w1:World),j<L.size∧(w1=w∨w1=w.drew)∧(choose (Question.mapNext L.size)).run P w= .ok j w1:=by
   by_cases hf:L.size≤1
   ·exact⟨0,w,by omega,Or.inl rfl,by simp[choose,Sem.run,Question.forced,hf]⟩
   ·exact⟨_,w.drew,Nat.mod_lt _ (by omega),Or.inr rfl,by
     simp only[choose,Sem.run,Question.forced,mW,hf,bY,Question.cut]
     rfl⟩
  obtain⟨j,w1,hj,hal,acV⟩:=hch
  refine⟨L[j],by simp,w1,hal,?_⟩
  have hg1:w1.heap[g]? =some (.mapIter (some bm) since seen c0):=by
   rcases hal with e|e
   ·grind
   ·rw[e];exact hg
  simp only[acV,Array.getElem?_map,Array.getElem?_eq_getElem hj,Option.map_some,Sem.run_bind,FW hg1,Result.andThen]
  rfl
theorem Bn{en:Array MapEntry}{seen:Array Nat}(hn:(en.toList.map (·.born)).Nodup){i:Nat}{e:MapEntry}(he:(jN en seen).toList[i]? =some e):(jN en (seen.push e.born)).toList=(jN en seen).toList.eraseIdx i:=by
 have key:∀(l:List MapEntry)(i:Nat)(e:MapEntry),(l.map (·.born)).Nodup→l[i]? =some e→l.filter (fun x=> !(x.born==e.born))=l.eraseIdx i:=by
  intro l
  induction l with
  |nil=>grind
  |
   cons x l ih=>
   intro i e hn h
   have hn':x.born∉l.map (·.born)∧(l.map (·.born)).Nodup:=List.nodup_cons.1 hn
   cases i with
   |
    zero=>
    simp_all
   |
    succ i=>
    grind
 have hl:(jN en (seen.push e.born)).toList=(jN en seen).toList.filter (fun x=> !(x.born==e.born)):=by
  simp only[jN,Array.toList_filter,List.filter_filter]
  grind
 grind [jN]
theorem RM.Yf{E:Env}{w:World}{k v:Ty}:∀{es:List MapEntry}{xs:List (k.den×v.den)},RM E w k v es xs→es.length=xs.length∧(∀(i:Nat)(e:MapEntry)(x:k.den×v.den),es[i]? =some e→xs[i]? =some x→cC E w (.val k x.1) e.key∧cC E w (.val v x.2) e.val)∧∀i,RM E w k v (es.eraseIdx i) (xs.eraseIdx i)
 |[],[],_=>⟨rfl,fun i e x h=>by simp at h,fun i=>by simp[RM]⟩
 |[],_::_,h=>h.elim
 |_::_,[],h=>h.elim
 |
  e::es,x::xs,⟨h1,h2,h3⟩=>by
  obtain⟨a,b,c⟩:=RM.Yf h3
  refine⟨by simp[a],?_,?_⟩
  ·grind
  ·intro i
   cases i with
   |zero=>grind
   |succ i=>simpa using⟨h1,h2,c i⟩
noncomputable def Ec{A R:Type}(xs:List A)(K:A→List A→Option R):Option R:=
 @dite _ (∃r,∀i(h:i<xs.length),K xs[i] (xs.eraseIdx i)=some r) (Classical.propDecidable _) (fun h=>some h.choose) (fun _=>none)
theorem Ed{A R:Type}{xs:List A}{K:A→List A→Option R}{r:R}(h:Ec xs K=some r)(i:Nat)(hi:i<xs.length):K xs[i] (xs.eraseIdx i)=some r:=by
 unfold Ec at h
 split at h<;>grind
theorem cP.next{P:Program}{gl:Ctx}{σ:St}{Q:fE→St→Prop}{id:Nat}{o0 o1:Oper}{s d d1 b:Nat}{kt vt:Ty}{rest:List (kt.den×vt.den)}{cur:Option (kt.den×vt.den)}
 (h0:o0.op= .next (.tmp s) false) (hg0:o0.guard=none) (hd0:o0.dst=some d) (h1:o1.op= .extract (.tmp d) 0) (hg1:o1.guard=none) (hd1:o1.dst=some d1)
 (hs:σ.tm[s]? =some (.ptr b [])) (hb:σ.hp[b]? =some (some (.lB kt vt rest cur))) (hl:Nat.blt d σ.tm.length=true)
 (hq0:rest= []→Q .normal ((σ.put (some d) .bot).put (some d1) (.val .bool false)))
 (hq1:∀i(hi:i<rest.length),Q .normal ((({σ with hp:=σ.hp.set b (some (.lB kt vt (rest.eraseIdx i) (some rest[i])))}:St).put (some d) .bot).put (some d1) (.val .bool true))):
 cP P gl (.region id #[o0,o1] false) σ Q:=by
 intro E a w hg
 obtain⟨g,om,since,seen,c0,q1,q2,q3⟩:=hg.hw.cE b _ hb
 have hlt:d<a.tmps.size:=by rw[hg.len];simp_all
 have hx:a.eval (.tmp s)= .pointer (some ⟨g,0,none⟩):=by
  have hv:=fQ hg (.tmp s)
  have:bF gl σ.tm (.tmp s)= .ptr b []:=by simp[bF,hs]
  rw[this] at hv
  obtain⟨g',hg',ev,_⟩:=RV.atom rfl hv
  grind [Ty.off]
 have w0:∀z,Region.wanted o0 z=true:=fun z=>by simp[Region.wanted,hg0]
 have w1:∀z,Region.wanted o1 z=true:=fun z=>by simp[Region.wanted,hg1]
 refine wpIn_region ?_
 have hr:List.range (#[o0,o1]:Array Oper).size= [0,1]:=rfl
 rw[hr]
 have fin:∀(vs:Array Value)(x:Bool)(w':World)(σ':St),(Instr.next (.pointer (some ⟨g,0,none⟩)) false o0.type).run P w= .ok (.tuple vs) w'→vs[0]? =some (.bool x)→bW gl σ' E a w'→Ext gl.md (Own σ.hp E) E w (Own σ'.hp E) E w'→
  Q .normal ((σ'.put (some d) .bot).put (some d1) (.val .bool x))→wpOpsIn (Wd gl) 0 P #[o0,o1] (oF gl Q σ E w) [0,1] a w:=by
  intro vs x w' σ' acV hv0 hg' hext hq
  simp only[wpOpsIn,List.getElem?_toArray,List.getElem?_cons_zero,sH,w0,bH]
  refine⟨fun _ _=>trivial,?_⟩
  rw[Oper.semAt_eq _ _ _ (by grind)]
  have r1:(execOp a.eval o0).run P w= .ok (.value (.tuple vs)) w':=by simp[execOp,h0,hx,acV]
  rw[r1,Oper.uponIn_value,hd0]
  simp only[w1,bH]
  refine⟨fun _ _=>trivial,?_⟩
  rw[Oper.semAt_eq _ _ _ (by grind)]
  have hev:(a.put (some d) (.tuple vs)).eval (.tmp d)= .tuple vs:=by simp[Act.eval,Act.put,hlt]
  have r2:(execOp (a.put (some d) (.tuple vs)).eval o1).run P w'= .ok (.value (.bool x)) w':=by
   simp_all[execOp,Instr.extract]
  rw[r2,Oper.uponIn_value,hd1]
  have ga:=hg'.put (some d) (x:=.bot) (v:=.tuple vs) trivial
  have gb:=ga.put (some d1) (x:=.val .bool x) (v:=.bool x) RV.bool
  exact⟨.normal,_,E,trivial,hq,gb,hext⟩
 have nextNil:om=none→rest= []→wpOpsIn (Wd gl) 0 P #[o0,o1] (oF gl Q σ E w) [0,1] a w:=by
  intro e1 e2
  subst e1
  refine fin #[.bool false] false w σ ?_ rfl hg (Ext.refl _ _ _) (hq0 e2)
  simp only[Instr.next,getObj,Sem.run_bind,Sem.run,q2,Result.andThen]
  rfl
 rcases q3 with⟨e1,e2,_⟩|⟨bm,en,e1,r2,r3,e4,r5,r6,r7,r8⟩
 ·grind
 ·subst e1;subst e4
  obtain⟨m1,m2,m3⟩:=RM.Yf r7
  rcases run_next_at (P:=P) w o0.type g bm since since seen en since q2 r3 r5 (cL _) with⟨z,acV⟩|⟨e,he,w1',hw1,acV⟩
  ·have hr0:rest= []:=by
    grind [leftOf,jN]
   exact fin #[.bool false] false w σ acV rfl hg (Ext.refl _ _ _) (hq0 hr0)
  ·have he:e∈(jN en seen).toList:=he
   obtain⟨i,hi,hie⟩:=List.mem_iff_getElem.1 he
   have hie':(jN en seen).toList[i]? =some e:=by grind
   have hir:i<rest.length:=by grind
   have hrm:=Bn r6 hie'
   have hen:e∈en.toList:=by
    grind [jN]
   obtain⟨k1,k2⟩:=m2 i e rest[i] hie' (oe hir)
   have hh:w1'.heap=w.heap:=by rcases hw1 with e|e<;>rw[e]<;>rfl
   have hlg:g<w1'.heap.size:=by grind
   have hne:bm≠g:=fun e=>by grind
   have hoth:∀j,j≠g→(w1'.putObj g (.mapIter (some bm) since (seen.push e.born) since)).heap[j]? =w.heap[j]? :=fun j hj=>by
    grind [World.putObj_heap_other]
   have kp:bJ E w E (w1'.putObj g (.mapIter (some bm) since (seen.push e.born) since)):=⟨fun j hj=>hoth j (fun e=>hg.hw.jF b _ g hb q1 (e▸hj)),fun _ h=>h⟩
   have hrb:RB E (w1'.putObj g (.mapIter (some bm) since (seen.push e.born) since)) b (.lB kt vt (rest.eraseIdx i) (some rest[i])):=by
    refine⟨g,some bm,since,seen.push e.born,since,q1,World.putObj_heap_same hlg,Or.inr ⟨bm,en,rfl,r2,by grind,rfl,r5,r6,?_,?_⟩⟩
    ·rw[hrm];exact RM.mono kp (m3 i)
    ·intro x hx
     cases hx
     exact⟨e,seen,rfl,hen,cC.mono kp (fun _ hb=>by cases hb) k1,cC.mono kp (fun _ hb=>by cases hb) k2⟩
   have hw2:=hg.hw.write (w':=w1'.putObj g (.mapIter (some bm) since (seen.push e.born) since)) hb (by simp_all) (fun j hj=>hoth j (fun e=>hj (by grind))) hrb
   refine fin #[.bool true,e.key,e.val] true _ {σ with hp:=σ.hp.set b (some (.lB kt vt (rest.eraseIdx i) (some rest[i])))} acV rfl (hg.carry kp (fun _ _=>⟨rfl,rfl,rfl⟩) hw2) ⟨?_,?_,?_,?_,?_,fun _ h=>h,fun _ h=>Or.inl h,fun i hi=>Or.inl (Own.set hb hi),fun _ _=>⟨rfl,rfl,rfl⟩⟩ (hq1 i hir)
   ·rcases hw1 with e|e<;>rw[e]<;>rfl
   ·rcases hw1 with e|e
    ·rw[e];exact Tp.r rfl rfl
    ·rw[e];exact Tp.s rfl rfl
   ·rcases hw1 with e|e<;>rw[e]<;>rfl
   ·simp_all
   ·intro j hj ho
    exact hoth j (fun e=>ho ⟨b,_,hb,by rw[e];exact Or.inl q1⟩)
end Go.Ax
namespace Go.Ax
theorem cP.IF{P:Program}{gl:Ctx}{σ:St}{Q:fE→St→Prop}{id:Nat}{o1 o2:Oper}{y:Code}(x:Operand)(d1 d2:Nat)(t t2 e:TypeId)(bs:Nat)(u:Ty)(xs:List u.den)
 (h1:o1.op= .move x) (hd1:o1.dst=some d1) (hg1:o1.guard=none) (h2:o2.op= .binOp .eql t (.tmp d1) (.const (.slice none 0 0)) t2) (hd2:o2.dst=some d2) (hg2:o2.guard=none)
 (hx:bF gl σ.tm x= .val (.slice bs u) xs) (ht:P.underlying t=some (.slice e)) (hl:Nat.blt d1 σ.tm.length=true)
 (h:∀b:Bool,(b=true→xs= [])→cP P gl y ((σ.put (some d1) (.val (.slice bs u) xs)).put (some d2) (.val .bool b)) Q):cP P gl (.seq (.region id #[o1,o2] false) y) σ Q:=by
 intro E a w hg
 have hv:=fQ hg x
 rw[hx] at hv
 obtain⟨ad,cap,hve,_,_,_,hor⟩:=RV.atom rfl hv
 simp at hve
 have hlt:d1<a.tmps.size:=by rw[hg.len];simp[Nat.blt] at hl;omega
 refine wpIn_seq (wpIn_region ?_)
 have hr:List.range (#[o1,o2]:Array Oper).size= [0,1]:=rfl
 rw[hr]
 have w1:∀z,Region.wanted o1 z=true:=fun z=>by simp[Region.wanted,hg1]
 have w2:∀z,Region.wanted o2 z=true:=fun z=>by simp[Region.wanted,hg2]
 have ga:=hg.put (some d1) hv
 have hb:ad.isNone=true→xs= []:=by
  intro hn
  rcases hor with h0|⟨b,o,cs,e1,_⟩
  ·exact h0
  ·subst e1;cases hn
 have gb:=ga.put (some d2) (x:=.val .bool ad.isNone) (v:=.bool ad.isNone) (RV.dK (Or.inr ⟨rfl,rfl⟩))
 have hfin:=h ad.isNone hb E _ w gb
 simp only[wpOpsIn,List.getElem?_toArray,List.getElem?_cons_zero,sH,w1,bH]
 refine⟨fun _ _=>trivial,?_⟩
 rw[Oper.semAt_eq _ _ _ (by rw[h1];intro c hc;cases hc)]
 have r1:(execOp a.eval o1).run P w= .ok (.value (a.eval x)) w:=by simp[execOp,h1]
 rw[r1,Oper.uponIn_value,hd1]
 simp only[w2,bH]
 refine⟨fun _ _=>trivial,?_⟩
 rw[Oper.semAt_eq _ _ _ (by rw[h2];intro c hc;cases hc)]
 have hev:(a.put (some d1) (a.eval x)).eval (.tmp d1)= .slice ad xs.length cap:=by
  have:(a.put (some d1) (a.eval x)).eval (.tmp d1)=a.eval x:=by
   generalize a.eval x=v
   simp[Act.eval,Act.put,hlt]
  rw[this,hve]
 have r2:(execOp (a.put (some d1) (a.eval x)).eval o2).run P w= .ok (.value (.bool ad.isNone)) w:=by
  have hq:=run_equal_slice_nil (P:=P) w t e ad xs.length cap ht
  have hc:(a.put (some d1) (a.eval x)).eval (.const (.slice none 0 0))= .slice none 0 0:=rfl
  simp[execOp,h2,hev,hc,eqGuard,binOp,hq]
 rw[r2,Oper.uponIn_value,hd2]
 simp only[Exit.then]
 refine wpIn_mono hfin ?_
 rintro ex a' w' ⟨x',σ',E',k1,k2,k3,k4⟩
 exact⟨x',σ',E',k1,k2,k3,k4⟩
end Go.Ax
namespace Go.Ax
theorem HW.frame{gl:Ctx}{E:Env}{w:World}{hp:List (Option aN)}(h:HW gl E w hp){g:Nat}{o:Obj}(hS:¬E.S g)(hO:¬Own hp E g):bJ E w E (w.putObj g o)∧HW gl E (w.putObj g o) hp:=by
 have kp:bJ E w E (w.putObj g o):=⟨fun b hb=>World.putObj_heap_other (fun e=>hS (e▸hb)),fun _ h=>h⟩
 exact⟨kp,fun b k hb=>RB.mono kp (fun _ _=>⟨rfl,rfl,rfl⟩) (fun i hi=>World.putObj_heap_other (fun e=>hO ⟨b,k,hb,by grind⟩)) (fun _ _ h=>h) (h.cE b k hb),h.dG,h.dh,fun i hi=>by simpa using h.slt i hi,h.fI kp,fun b k g hb hg=>by simpa using h.qE b k g hb hg⟩
theorem bW.frame{gl:Ctx}{σ:St}{E:Env}{a:Act}{w:World}(h:bW gl σ E a w){g:Nat}{o:Obj}(hS:¬E.S g)(hO:¬Own σ.hp E g):bW gl σ E a (w.putObj g o):=by
 obtain⟨kp,hw⟩:=h.hw.frame (o:=o) hS hO
 exact h.carry kp (fun _ _=>⟨rfl,rfl,rfl⟩) hw
def Env.nk(E:Env):Env:={E with P:=fun _ _=>False}
theorem Env.r9{E:Env}{b g:Nat}(h:E.nk.has b g):E.has b g:=h.elim Or.inl False.elim
theorem Own.nk{hp:List (Option aN)}{E:Env}{g:Nat}(h:Own hp E.nk g):Own hp E g:=by
 obtain⟨b,k,h1,h2⟩:=h
 exact⟨b,k,h1,Env.r9 h2⟩
theorem HW.nk{gl:Ctx}{E:Env}{w:World}{hp:List (Option aN)}(hn:∀(b:Nat)(k:aN),hp[b]? =some (some k)→k.ER=false)(h:HW gl E w hp):HW gl E.nk w hp:=
 have kp:bJ E w E.nk w:=⟨fun _ _=>rfl,fun _ hg=>hg⟩
 ⟨fun b k hb=>RB.mono kp (fun _ _=>⟨rfl,rfl,rfl⟩) (fun _ _=>rfl) (fun hp=>by grind) (h.cE b k hb),fun b b' k k' g h1 h2 h3 h4=>h.dG b b' k k' g h1 h2 (Env.r9 h3) (Env.r9 h4),fun b k g h1 h2=>h.dh b k g h1 (Env.r9 h2),h.slt,h.gl,fun _ _ _ _ h=>h.elim⟩
theorem ko.nk{E:Env}{w:World}:∀{xs:List AV}{vs:List Value},ko E w xs vs→ko E.nk w xs vs
 |[],[],_=>trivial
 |[],_::_,h=>h.elim
 |_::_,[],h=>h.elim
 |_::_,_::_,⟨h1,h2⟩=>⟨RV.mono (E:=E) (E':=E.nk) (w:=w) ⟨fun _ _=>rfl,fun _ hg=>hg⟩ (fun _ _=>⟨rfl,rfl,rfl⟩) h1,ko.nk h2⟩
theorem rm.nk{P:Program}{gl:Ctx}{f:FuncId}{args:List AV}{H:List (Option aN)}{r:sW}{H':List (Option aN)}
 (hn:∀(b:Nat)(k:aN),H[b]? =some (some k)→k.ER=false) (h:∀E w vs,(∀b g,¬E.P b g)→ko E w args vs→HW gl E w H→Calls P f vs.toArray w (fun e w'=>∃E',uH E' w' r e∧HW gl E' w' H'∧Ext gl.md (Own H E) E w (Own H' E') E' w')):rm P gl f args H r H':=by
 intro E w vs hv hw
 refine Calls.mono (h E.nk w vs (fun _ _ h=>h) hv.nk (hw.nk hn)) ?_
 rintro e w' ⟨E',h1,h2,h3⟩
 exact⟨E',h1,h2,⟨h3.os,h3.tape,h3.output,h3.size,fun g hg ho=>h3.kept g hg (fun x=>ho x.nk),h3.sle,fun g hg=>(h3.ln g hg).imp id (fun x=>x.imp Own.nk id),fun g hg=>(h3.own g hg).imp Own.nk id,h3.CE⟩⟩
theorem Ext.put{gl:Ctx}{O:Nat→Prop}{E:Env}{w:World}{g:Nat}{o:Obj}(h:O g):Ext gl.md O E w O E (w.putObj g o):=
 ⟨rfl,Tp.r rfl rfl,rfl,by simp,fun i _ hi=>World.putObj_heap_other (fun e=>hi (e▸h)),fun _ h=>h,fun _ h=>Or.inl h,fun _ h=>Or.inl h,fun _ _=>⟨rfl,rfl,rfl⟩⟩
theorem kU{hp:List (Option aN)}{b c:Nat}{k:aN}(h:(hp.set b none)[c]? =some (some k)):c≠b∧hp[c]? =some (some k):=by
 grind
theorem HW.drop{gl:Ctx}{E:Env}{w:World}{hp:List (Option aN)}(h:HW gl E w hp)(b:Nat):HW gl E w (hp.set b none):=h.less (fun _ _ hc=>(kU hc).2)
theorem Own.drop{E:Env}{hp:List (Option aN)}{b g:Nat}(h:Own (hp.set b none) E g):Own hp E g:=by
 obtain⟨c,k,h1,h2⟩:=h
 exact⟨c,k,(kU h1).2,h2⟩
theorem bW.shut{gl:Ctx}{σ:St}{E:Env}{a:Act}{w:World}(h:bW gl σ E a w){b g:Nat}{k:aN}(hb:σ.hp[b]? =some (some k))(hg:E.g b=some g)(o:Obj):
 bW gl {σ with hp:=σ.hp.set b none} E a (w.putObj g o)∧Ext gl.md (Own σ.hp E) E w (Own (σ.hp.set b none) E) E (w.putObj g o):=by
 have hS:¬E.S g:=h.hw.jF b k g hb hg
 have hO:¬Own (σ.hp.set b none) E g:=by
  rintro⟨c,k',hc,hgc⟩
  obtain⟨h1,h2⟩:=kU hc
  exact h1 (h.hw.dG c b k' k g h2 hb hgc (Or.inl hg))
 have h1:bW gl {σ with hp:=σ.hp.set b none} E a w:=⟨h.len,h.tm,h.hw.drop b,h.df⟩
 refine⟨h1.frame hS hO,?_⟩
 have:=Ext.put (gl:=gl) (O:=Own σ.hp E) (E:=E) (w:=w) (o:=o) ⟨b,k,hb,Or.inl hg⟩
 exact{this with own:=fun i hi=>Or.inl (Own.drop hi)}
def marks:List AV→List (Option aN)→Option (List (Option aN))
 |[],hp=>some hp
 |
  .mp b::l,hp=>match ep hp b with
  |some .sI=>marks l (hp.set b none)
  |_=>none
 |_,_=>none
theorem Dj{P:Program}{gl:Ctx}{fn:Func}{R:Ending→World→Prop}{tmps:Array Value}:∀(df:List AV){tm:List AV}{hp hp':List (Option aN)}{E:Env}{ds:List Deferred}{w:World},
 bW gl ⟨tm,hp,df⟩ E ⟨tmps,ds⟩ w→marks df hp=some hp'→(∀w',bW gl ⟨tm,hp',[]⟩ E ⟨tmps,[]⟩ w'→Ext gl.md (Own hp E) E w (Own hp' E) E w'→LeavesIn (Wd gl) 0 P fn tmps R [] .returning w')→LeavesInM (Wd gl) 0 P fn tmps R ds .returning w
 |
  [],tm,hp,hp',E,ds,w,h,hm,hk=>by
  cases hm
  have:ds= []:=by
   have:=h.df
   cases ds with
   |nil=>rfl
   |cons _ _=>trivial
  subst this
  exact hk w h (Ext.refl _ _ _)
 |
  x::l,tm,hp,hp',E,ds,w,h,hm,hk=>by
  cases x with
  |
   mp b=>
   simp only[marks] at hm
   split at hm
   ·rename_i hb
    have hbk:=cn hp b _ hb
    cases ds with
    |nil=>exact h.df.elim
    |
     cons d ds=>
     obtain⟨⟨g,hg,hd⟩,hrest⟩:=h.df
     obtain⟨g',hg',hh⟩:=h.hw.cE b _ hbk
     rw[hg] at hg';cases hg'
     have h0:bW gl ⟨tm,hp,l⟩ E ⟨tmps,ds⟩ w:=⟨h.len,h.tm,h.hw,hrest⟩
     obtain⟨g1,x1⟩:=h0.shut hbk hg (.deferred none)
     refine⟨by simp,Or.inl ⟨g,_,by rw[hd],run_takeDeferred hh,?_⟩⟩
     exact Dj l g1 hm (fun w' k1 k2=>hk w' k1 (x1.trans k2))
   ·cases hm
  |_=>simp[marks] at hm
end Go.Ax
namespace Go.Ax
def Ctx.wB(gl:Ctx)(B:(Nat→Prop)→World→Prop)(hB:∀{S S':Nat→Prop}{w w':World},(∀b,S b→w'.heap[b]? =w.heap[b]?)→(∀b,S b→S' b)→B S w→B S' w'):Ctx:=⟨gl.gl,B,hB,none,gl.md⟩
def Ctx.ru(gl:Ctx)(l:Nat):Ctx:=⟨gl.gl,fun _ _=>True,fun _ _ _=>trivial,some l,gl.md⟩
def jmp(jl:List Code):Nat→Option Code
 |0=>none
 |j+1=>jl[j]?
def fk(fn:FuncId)(tmps:Array Value)(ps:Array Tmp)(assign body:Code)(D:Nat)(jl:List Code)(j:Nat):Loop:=
 {state:=if Nat.beq j 0 then .ready else .done,pending:=jmp jl j,fn,tmps,params:=ps,assign,body,defers:=D}
def AV.mT(m:List (Nat×Nat)):AV→Option AV
 | .ptr b p=>(kE m b).map fun c=>.ptr c p
 | .iW b p lo len=>(kE m b).map fun c=>.iW c p lo len
 |
  .func fn fs cs=>match fs.mT m,cs.mT m with
  |some f,some c=>if f.atoms&&c.atoms then some (.func fn f c) else none
  |_,_=>none
 |
  .cons a b=>match a.mT m,b.mT m with
  |some x,some y=>some (.cons x y)
  |_,_=>none
 | .val t x=>some (.val t x)
 | .bL t x=>some (.bL t x)
 | .bA=>some .bA
 | .gj=>some .gj
 | .dP=>some .dP
 | .fq=>some .fq
 | .cV f t x=>some (.cV f t x)
 | .hJ=>some .hJ
 | .nil=>some .nil
 |_=>none
structure Tg(m:List (Nat×Nat))(E:Env)(w:World)(E':Env)(w':World):Prop where
 at':∀b c,kE m b=some c→E'.g c=E.g b∧E'.bt c=E.bt b
 k:bJ E w E' w'
theorem AV.Dl{m:List (Nat×Nat)}{x y:AV}(h:x.mT m=some y):y.isAgg=x.isAgg:=by
 cases x with
 |ptr b p=>simp only[AV.mT,fm] at h;obtain⟨c,_,rfl⟩:=h;rfl
 |iW b p lo len=>simp only[AV.mT,fm] at h;obtain⟨c,_,rfl⟩:=h;rfl
 |
  func fn fs cs=>
  simp only[AV.mT] at h
  split at h
  ·split at h
   ·cases h;rfl
   grind
  grind
 |
  cons a b=>
  simp only[AV.mT] at h
  split at h
  ·cases h;rfl
  grind
 |_=>simp[AV.mT] at h<;>subst h<;>rfl
theorem RC.mT{m:List (Nat×Nat)}{E E':Env}{w w':World}(r:Tg m E w E' w'):∀{x y:AV}{vs:List Value},x.mT m=some y→RC E w x vs→RC E' w' y vs:=by
 intro x
 induction x with
 |
  ptr b p=>
  intro y vs h hr
  simp only[AV.mT,fm] at h
  obtain⟨c,hc,rfl⟩:=h
  obtain⟨e1,e2⟩:=r.at' b c hc
  obtain⟨g,h1,h2,h3⟩:=hr
  exact⟨g,by grind,by grind,by grind⟩
 |
  iW b p lo len=>
  intro y vs h hr
  simp only[AV.mT,fm] at h
  obtain⟨c,hc,rfl⟩:=h
  obtain⟨e1,e2⟩:=r.at' b c hc
  obtain⟨n,t,h1,h2,h3,a,cap,h4,h5,h6⟩:=hr
  refine⟨n,t,by rw[e2];exact h1,by rw[e2];exact h2,h3,a,cap,h4,h5,h6.imp id ?_⟩<;>grind
 |
  func fn fs cs ih1 ih2=>
  intro y vs h hr
  simp only[AV.mT] at h
  split at h
  ·rename_i f c h1 h2
   split at h
   ·rename_i ha
    cases h
    simp only[aV] at ha
    obtain⟨f',c',e,r1,r2,_,_⟩:=hr
    exact⟨f',c',e,ih1 h1 r1,ih2 h2 r2,ha.1,ha.2⟩
   grind
  grind
 |
  cons a b ih1 ih2=>
  intro y vs h hr
  simp only[AV.mT] at h
  split at h
  ·rename_i x y h1 h2
   cases h
   obtain⟨v1,v2,e,r1,r2⟩:=hr
   exact⟨v1,v2,e,ih1 h1 r1,ih2 h2 r2⟩
  grind
 |val t x=>intro y vs h hr;simp only[AV.mT,cX] at h;subst h;exact RC.mono (a:=.val t x) r.k (fun _ hb=>by cases hb) hr
 |bL t x=>intro y vs h hr;simp only[AV.mT,cX] at h;subst h;exact RC.mono (a:=.bL t x) r.k (fun _ hb=>by cases hb) hr
 |bA=>intro y vs h hr;simp only[AV.mT,cX] at h;subst h;exact hr
 |gj=>intro y vs h hr;simp only[AV.mT,cX] at h;subst h;exact hr
 |dP=>intro y vs h hr;simp only[AV.mT,cX] at h;subst h;exact hr
 |fq=>intro y vs h hr;simp only[AV.mT,cX] at h;subst h;exact hr
 |cV f t x=>intro y vs h hr;simp only[AV.mT,cX] at h;subst h;obtain⟨ha,cs,h1,h2⟩:=hr;exact⟨ha,cs,h1,Rel.mono r.k.w r.k.S h2⟩
 |hJ=>intro y vs h hr;simp only[AV.mT,cX] at h;subst h;exact hr
 |nil=>intro y vs h hr;simp only[AV.mT,cX] at h;subst h;exact hr
 |_=>intro y vs h hr;trivial
theorem RV.mT{m:List (Nat×Nat)}{E E':Env}{w w':World}(r:Tg m E w E' w'){x y:AV}{v:Value}(h:x.mT m=some y)(hr:RV E w x v):RV E' w' y v:=by
 have hp:x.plain=true:=by cases x<;>simp[AV.mT] at h<;>rfl
 have h0:=RV.je hp hr
 refine RV.dK ?_
 rcases h0 with⟨h1,cs,e,h2⟩|⟨h1,h2⟩
 ·exact Or.inl ⟨by rw[AV.Dl h];exact h1,cs,e,RC.mT r h h2⟩
 ·exact Or.inr ⟨by rw[AV.Dl h];exact h1,RC.mT r h h2⟩
def FX(m:List (Nat×Nat)):List AV→List AV
 |[]=>[]
 |x::l=>(match x.mT m with|some y=>y|none=>.bot)::FX m l
theorem Dm{m:List (Nat×Nat)}:∀{l:List AV},(FX m l).length=l.length
 |[]=>rfl
 |_::l=>by simp[FX,Dm (l:=l)]
theorem Dn{m:List (Nat×Nat)}:∀{l:List AV}{i:Nat}{y:AV},(FX m l)[i]? =some y→y= .bot∨∃x,l[i]? =some x∧x.mT m=some y
 |[],i,y,h=>by trivial
 |
  x::l,0,y,h=>by
  simp only[FX,List.getElem?_cons_zero,cX] at h
  grind
 |
  x::l,i+1,y,h=>by
  simp only[FX,sH] at h
  simpa using Dn h
def qV:List (Nat×AV)→List AV→List AV
 |[],l=>l
 |(t,x)::r,l=>qV r (l.set t x)
theorem zr{E:Env}{w:World}:∀{ps:List Nat}{args:List AV}{vs:List Value}{tm:List AV}{tmps:Array Value},ko E w args vs→tmps.size=tm.length→(∀(i:Nat)(x:AV),tm[i]? =some x→∀v,tmps[i]? =some v→RV E w x v)→
 ((ps.zip vs).foldl (fun t(p:Nat×Value)=>t.setIfInBounds p.1 p.2) tmps).size=(qV (ps.zip args) tm).length∧
 (∀(i:Nat)(x:AV),(qV (ps.zip args) tm)[i]? =some x→∀v,((ps.zip vs).foldl (fun t(p:Nat×Value)=>t.setIfInBounds p.1 p.2) tmps)[i]? =some v→RV E w x v)
 |[],args,vs,tm,tmps,_,hs,ht=>by trivial
 |p::ps,[],[],tm,tmps,_,hs,ht=>by trivial
 |p::ps,[],_::_,tm,tmps,h,hs,ht=>h.elim
 |p::ps,_::_,[],tm,tmps,h,hs,ht=>h.elim
 |
  p::ps,a::args,v::vs,tm,tmps,⟨h1,h2⟩,hs,ht=>by
  simp only[List.zip_cons_cons,List.foldl_cons,qV]
  refine zr h2 (by simp[hs]) ?_<;>grind
def lD(i:Nat):List (Nat×Ty)→Bool
 |[]=>false
 |(j,_)::l=>Nat.beq i j||lD i l
def ma(gs:Nat→Nat)(ti:List (Nat×Ty))(i:Nat):aN→aN
 | .var t v=>if lD i ti then .tv (gs i) t v else .var t v
 |k=>k
def tie(gs:Nat→Nat)(ti:List (Nat×Ty)):Nat→List (Option aN)→List (Option aN)
 |_,[]=>[]
 |s,none::l=>none::tie gs ti (s+1) l
 |s,some k::l=>some (ma gs ti s k)::tie gs ti (s+1) l
theorem mC{gs:Nat→Nat}{ti:List (Nat×Ty)}:∀{l:List (Option aN)}{s:Nat},(tie gs ti s l).length=l.length
 |[],_=>rfl
 |none::l,s=>by simp[tie,mC (l:=l)]
 |some _::l,s=>by simp[tie,mC (l:=l)]
theorem iy{gs:Nat→Nat}{ti:List (Nat×Ty)}:∀{l:List (Option aN)}{s i:Nat}{k:aN},(tie gs ti s l)[i]? =some (some k)→∃k0,l[i]? =some (some k0)∧k=ma gs ti (s+i) k0
 |[],s,i,k,h=>by trivial
 |none::l,s,0,k,h=>by simp[tie] at h
 |some x::l,s,0,k,h=>by simp_all[tie]
 |
  none::l,s,i+1,k,h=>by
  obtain⟨k0,h1,h2⟩:=iy (l:=l) (by simpa[tie] using h)
  exact⟨k0,by simpa using h1,by rw[h2];congr 1;omega⟩
 |
  some x::l,s,i+1,k,h=>by
  obtain⟨k0,h1,h2⟩:=iy (l:=l) (by simpa[tie] using h)
  exact⟨k0,by simpa using h1,by rw[h2];congr 1;omega⟩
theorem xn{gs:Nat→Nat}{ti:List (Nat×Ty)}:∀{l:List (Option aN)}{s i:Nat}{k:aN},l[i]? =some (some k)→(tie gs ti s l)[i]? =some (some (ma gs ti (s+i) k))
 |[],s,i,k,h=>by simp at h
 |none::l,s,0,k,h=>by simp at h
 |some x::l,s,0,k,h=>by simp at h;subst h;rfl
 |
  none::l,s,i+1,k,h=>by
  have:=xn (gs:=gs) (ti:=ti) (s:=s+1) (l:=l) (i:=i) (k:=k) (by grind)
  grind [tie]
 |
  some x::l,s,i+1,k,h=>by
  have:=xn (gs:=gs) (ti:=ti) (s:=s+1) (l:=l) (i:=i) (k:=k) (by grind)
  grind [tie]
theorem RB.OW{gs:Nat→Nat}{ti:List (Nat×Ty)}{E:Env}{w:World}{i:Nat}{k:aN}(h:RB E w i (ma gs ti i k)):RB E w i k:=by
 cases k with
 |
  var t v=>
  simp only[ma] at h
  split at h
  ·obtain⟨h0,h1,h2,c,e,h4,h5⟩:=h;exact⟨h1,h2,_,c,e,h0,h4,h5⟩
  grind
 |_=>exact h
theorem RB.tie{gs:Nat→Nat}{ti:List (Nat×Ty)}{E:Env}{w:World}{i:Nat}{k:aN}(h:RB E w i k)(hg:lD i ti=true→E.g i=some (gs i)):RB E w i (ma gs ti i k):=by
 cases k with
 |
  var t v=>
  simp only[ma]
  split
  ·rename_i hh
   obtain⟨h1,h2,g,c,e,h3,h4,h5⟩:=h
   have:=hg hh
   rw[this] at h3;cases h3
   exact⟨this,h1,h2,c,e,h4,h5⟩
  grind
 |_=>exact h
def oN(hp:List (Option aN)):List (Nat×Ty)→Bool
 |[]=>true
 |(i,t)::l=>(match hp[i]? with|some (some (.var t' _))=>Ty.same t' t|_=>false)&&Nat.blt i 16&&oN hp l
theorem tE{hp:List (Option aN)}{i:Nat}:∀{ti:List (Nat×Ty)},oN hp ti=true→lD i ti=true→i<16∧∃t v,hp[i]? =some (some (.var t v))∧(i,t)∈ti
 |[],_,h=>by cases h
 |
  (j,t)::l,h,hi=>by
  simp only[oN,aV] at h
  simp only[lD,fN] at hi
  rcases hi with hi|hi
  ·have e:=bR hi;subst e
   refine⟨by simp_all,?_⟩
   grind [Ty.aB]
  ·obtain⟨h1,t',v,h2,h3⟩:=tE h.2 hi
   grind
def OX(P:Program)(gl:Ctx)(y:Code)(Q:fE→St→Prop):fE→St→Prop
 | .normal,σ=>cP P gl y σ Q
 |_,_=>False
def OY(gl:Ctx)(jl:List Code)(j:Nat)(H:List (Option aN)):fE→St→Prop
 | .normal,σ=>j=0∧∃σ' m,Wk gl σ σ'∧prune σ'.hp m=H
 | .ret,σ=>(j≠0∧jmp jl j=some .ret)∧∃σ' m,Wk gl σ σ'∧prune σ'.hp m=H
 | .exit i,σ=>(j≠0∧jmp jl j=some (.exit i))∧∃σ' m,Wk gl σ σ'∧prune σ'.hp m=H
 |_,_=>False
theorem HW.ctx{C C':Ctx}{E:Env}{w:World}{hp:List (Option aN)}(h:HW C E w hp)(hg:C'.gl=C.gl)(hb:C'.B E.S w):HW C' E w hp:=
 ⟨h.cE,h.dG,h.dh,h.slt,⟨by rw[hg];exact h.gl.1,hb⟩,h.qE⟩
theorem Ext.add{gl:Ctx}{O O':Nat→Prop}{E E':Env}{w w':World}(h:Ext gl.md O E w O' E' w')(l:Nat):Ext gl.md (fun g=>O g∨g=l) E w (fun g=>O' g∨g=l) E' w' where
 os:=h.os
 tape:=h.tape
 output:=h.output
 size:=h.size
 kept:=fun g hg ho=>h.kept g hg (fun x=>ho (Or.inl x))
 sle:=h.sle
 ln:=fun g hg=>(h.ln g hg).imp id (fun x=>x.imp Or.inl id)
 own:=fun g hg=>by
  rcases hg with hg|hg
  ·exact(h.own g hg).imp Or.inl id
  grind
 CE:=h.CE
theorem Fy.IG{P:Program}{gl:Ctx}{σ:St}{E:Env}{a:Act}{w:World}(hg:bW gl σ E a w){B:(Nat→Prop)→World→Prop}{hB:∀{S S':Nat→Prop}{w w':World},(∀b,S b→w'.heap[b]? =w.heap[b]?)→(∀b,S b→S' b)→B S w→B S' w'}
 (hBu:∀S' w',B S' w'→(∀b,E.S b→S' b)∧(∀b,E.S b→w'.heap[b]? =w.heap[b]?)) {l D k0:Nat} {fn:FuncId} {ps:Array Tmp} {assign body:Code} {gs:Nat→Nat} {ti:List (Nat×Ty)} {m:List (Nat×Nat)} {jl:List Code}
 (hti:∀b i,kE m b=some i→lD i ti=true∧E.g b=some (gs i)∧∀t,(i,t)∈ti→E.bt b=t)
 {args:List AV} {H H':List (Option aN)} {j:Nat} (hps:ps.size=args.length) (hk:Nat.blt k0 16=true) (hkt:lD k0 ti=false) (h0:H[k0]? =some none) (h0':H'[k0]? =some none) (ht:oN H ti=true) (_ht':oN H' ti=true)
 (acV:cP P (gl.ru l) assign ⟨qV (ps.toList.zip args) (FX m σ.tm),H,[]⟩ (OX P (gl.ru l) body (OY (gl.ru l) jl j H'))):
 Fy P (gl.wB B hB) l args ((tie gs ti 0 H).set k0 (some (.lp ⟨l,gs,fk fn a.tmps ps assign body D jl⟩ 0))) (.ret (.val .bool (Nat.beq j 0))) ((tie gs ti 0 H').set k0 (some (.lp ⟨l,gs,fk fn a.tmps ps assign body D jl⟩ j))):=by
 intro E1 w1 vs hv hW
 have hk16:k0<16:=by simp_all
 have lenH:k0<(tie gs ti 0 H).length:=by grind [mC]
 have lenH':k0<(tie gs ti 0 H').length:=by grind [mC]
 have hlp:((tie gs ti 0 H).set k0 (some (.lp ⟨l,gs,fk fn a.tmps ps assign body D jl⟩ 0)))[k0]? =some (some (.lp ⟨l,gs,fk fn a.tmps ps assign body D jl⟩ 0)):=by
  grind
 obtain⟨hgl,hrec⟩:E1.g k0=some l∧w1.heap[l]? =some (.loop (fk fn a.tmps ps assign body D jl 0)):=hW.cE k0 _ hlp
 have at1:∀(i:Nat)(k:aN),H[i]? =some (some k)→i≠k0∧((tie gs ti 0 H).set k0 (some (.lp ⟨l,gs,fk fn a.tmps ps assign body D jl⟩ 0)))[i]? =some (some (ma gs ti i k)):=by
  intro i k hi
  have hne:i≠k0:=fun e=>by grind
  refine⟨hne,?_⟩
  rw[dm,aC (fun e=>hne e.symm)]
  simp_all[xn]
 have hSl:¬E1.S l:=hW.jF k0 _ l hlp hgl
 have hW1:HW (gl.ru l) E1 w1 H:=by
  refine⟨?_,?_,?_,hW.slt,⟨hW.gl.1,trivial⟩,fun i k g hi=>hW.qE i _ g (at1 i k hi).2⟩
  ·intro i k hi;exact(hW.cE i _ (at1 i k hi).2).OW
  ·intro i i' k k' g hi hi' g1 g2;exact hW.dG i i' _ _ g (at1 i k hi).2 (at1 i' k' hi').2 g1 g2
  ·intro i k g hi g1;exact hW.dh i _ g (at1 i k hi).2 g1
 have hOl:¬Own H E1 l:=by
  rintro⟨i,k,hi,hgi⟩
  exact(at1 i k hi).1 (hW.dG i k0 _ _ l (at1 i k hi).2 hlp hgi (Or.inl hgl))
 have hgi:∀i,lD i ti=true→i<16∧E1.g i=some (gs i):=by
  intro i hi
  obtain⟨h1,t,v,h2,_⟩:=tE ht hi
  have:=hW.cE i _ (at1 i _ h2).2
  simp only[ma,hi,bH] at this
  exact⟨h1,this.1⟩
 obtain⟨b1,b2⟩:=hBu E1.S w1 hW.gl.2
 have hrnp:Tg m E w E1 w1:=by
  refine⟨?_,⟨b2,b1⟩⟩
  intro b i hbi
  obtain⟨c1,c2,c3⟩:=hti b i hbi
  obtain⟨_,t,v,h2,h3⟩:=tE ht c1
  have:=hW1.cE i _ h2
  exact⟨by grind,by rw[this.1,c3 t h3]⟩
 obtain⟨hl,_⟩:=hv.get
 have hframe:bW (gl.ru l) ⟨qV (ps.toList.zip args) (FX m σ.tm),H,[]⟩ E1 {tmps:=(ps.zip vs.toArray).foldl (fun t (p,v)=>t.setIfInBounds p v) a.tmps,defers:=[]} w1:=by
  have hzip:(ps.zip vs.toArray).foldl (fun t (p,v)=>t.setIfInBounds p v) a.tmps=(ps.toList.zip vs).foldl (fun t(p:Nat×Value)=>t.setIfInBounds p.1 p.2) a.tmps:=by
   rw[←Array.foldl_toList]
   congr 1
   simp
  have:=zr (ps:=ps.toList) (tm:=FX m σ.tm) (tmps:=a.tmps) hv (by rw[Dm];exact hg.len) (fun i x hx v hv'=>by
   rcases Dn hx with e|⟨y,h1,h2⟩
   ·subst e;trivial
   ·exact RV.mT hrnp h2 (hg.tm i y h1 v hv'))
  rw[hzip]
  exact⟨this.1,this.2,hW1,trivial⟩
 refine⟨fn,_,assign,body,run_yield hrec (by simp[fk,←hl,hps]),roundIn_of_wpIn (F:=Fence.wide) trivial ?_⟩
 refine wpIn_mono (acV E1 _ w1 hframe) ?_
 rintro ex a2 w2 ⟨x,σ2,E2,q1,q2,q3,q4⟩
 cases ex with
 |
  normal=>
  cases x with
  |
   normal=>
   simp only[Exit.then]
   have hlt:l<w1.heap.size:=(Array.getElem?_eq_some_iff.1 hrec).1
   have hrec2:w2.heap[l]? =some (.loop (fk fn a.tmps ps assign body D jl 0)):=by rw[q4.kept l hlt hOl];grind
   have notO:∀{hp:List (Option aN)}{E':Env}{w':World},Ext gl.md (Own H E1) E1 w1 (Own hp E') E' w'→¬Own hp E' l∧¬E'.S l:=by
    intro hp E' w' hx
    constructor
    ·intro ho;rcases hx.own l ho with h|h<;>grind
    ·intro hs;rcases hx.ln l hs with h|h|h<;>grind
   obtain⟨n1,n2⟩:=notO q4
   refine⟨w2.putObj l (.loop {fk fn a.tmps ps assign body D jl 0 with state:=.busy}),run_beginRound hrec2 rfl,?_⟩
   have g2:=q3.frame (o:=.loop {fk fn a.tmps ps assign body D jl 0 with state:=.busy}) n2 n1
   refine wpIn_mono (q2 E2 a2 _ g2) ?_
   rintro ex a3 w3 ⟨x3,σ3,E3,r1,r2,r3,r4⟩
   have lt2:l<w2.heap.size:=(Array.getElem?_eq_some_iff.1 hrec2).1
   have hbusy:w3.heap[l]? =some (.loop {fk fn a.tmps ps assign body D jl 0 with state:=.busy}):=by
    rw[r4.kept l (by simpa using lt2) n1]
    exact World.putObj_heap_same lt2
   have fin:∀(jump:Option Code),jump=jmp jl j→(jump.isNone=Nat.beq j 0)→(∃σ' mm,Wk (gl.ru l) σ3 σ'∧prune σ'.hp mm=H')→
    ∃v w',(Instr.endRound l jump).run P w3= .ok v w'∧∃E',uH E' w' (.ret (.val .bool (Nat.beq j 0))) (.returned v)∧HW (gl.wB B hB) E' w' ((tie gs ti 0 H').set k0 (some (.lp ⟨l,gs,fk fn a.tmps ps assign body D jl⟩ j)))∧
     Ext gl.md (Own ((tie gs ti 0 H).set k0 (some (.lp ⟨l,gs,fk fn a.tmps ps assign body D jl⟩ 0))) E1) E1 w1 (Own ((tie gs ti 0 H').set k0 (some (.lp ⟨l,gs,fk fn a.tmps ps assign body D jl⟩ j))) E') E' w':=by
    rintro jump hj hjn ⟨σ4,mm,hwk,hpr⟩
    obtain⟨E4,g4,x4⟩:=hwk E3 a3 w3 r3
    have hlt3:l<w3.heap.size:=(Array.getElem?_eq_some_iff.1 hbusy).1
    have hnew:({({fk fn a.tmps ps assign body D jl 0 with state:=.busy}:Loop) with state:=if jump.isNone then .ready else .done,pending:=jump}:Loop)=fk fn a.tmps ps assign body D jl j:=by
     grind [fk]
    have hend:=run_endRound (P:=P) jump hbusy
    rw[hnew,hjn] at hend
    have X:=((((q4.add l).trans (Ext.put (o:=.loop {fk fn a.tmps ps assign body D jl 0 with state:=.busy}) (Or.inr rfl))).trans (r4.add l)).trans (x4.add l)).trans (Ext.put (o:=.loop (fk fn a.tmps ps assign body D jl j)) (Or.inr rfl))
    have w4:HW (gl.ru l) E4 w3 H':=by rw[←hpr];exact g4.hw.prune mm
    have sub4:∀g,Own H' E4 g→Own σ4.hp E4 g:=by
     rintro g ⟨b,k,hb,hgb⟩
     rw[←hpr] at hb
     exact⟨b,k,jf hb,hgb⟩
    have n4:¬Own H' E4 l∧¬E4.S l:=by
     have hx:Ext gl.md (Own H E1) E1 w1 (Own σ2.hp E2) E2 w2:=q4
     obtain⟨m1,m2⟩:=notO hx
     have m3:¬Own σ3.hp E3 l∧¬E3.S l:=by
      constructor
      ·intro ho;rcases r4.own l ho with h|h
       ·grind
       ·simp at h;omega
      ·intro hs;rcases r4.ln l hs with h|h|h
       ·grind
       ·grind
       ·simp at h;omega
     constructor
     ·intro ho;rcases x4.own l (sub4 l ho) with h|h<;>grind
     ·intro hs;rcases x4.ln l hs with h|h|h<;>grind
    obtain⟨kp,wf⟩:=w4.frame (o:=.loop (fk fn a.tmps ps assign body D jl j)) n4.2 n4.1
    have gk0:E4.g k0=some l:=by rw[(X.CE k0 hk16).1];exact hgl
    have at4:∀(i:Nat)(k:aN),((tie gs ti 0 H').set k0 (some (.lp ⟨l,gs,fk fn a.tmps ps assign body D jl⟩ j)))[i]? =some (some k)→(i=k0∧k= .lp ⟨l,gs,fk fn a.tmps ps assign body D jl⟩ j)∨(i≠k0∧∃k',H'[i]? =some (some k')∧k=ma gs ti i k'):=by
     intro i k hi
     rw[dm] at hi
     split at hi
     ·grind
     ·rename_i e
      obtain⟨k',h1,h2⟩:=iy hi
      grind
    have ne4:∀(i:Nat)(k:aN),H'[i]? =some (some k)→¬E4.has i l:=fun i k hi e=>n4.1 ⟨i,k,hi,e⟩
    obtain⟨E5,hE5⟩:∃E5:Env,E5={E4 with P:=fun b g=>b≠k0∧E4.P b g}:=⟨_,rfl⟩
    have e5g:∀b,E5.g b=E4.g b:=fun b=>by rw[hE5]
    have e5S:E5.S=E4.S:=by rw[hE5]
    have e5h:∀b g,E5.has b g→E4.has b g:=fun b g h=>h.imp (fun x=>by grind) (fun x=>by rw[hE5] at x;exact x.2)
    have e5k:∀g,E5.has k0 g→g=l:=fun g h=>by
     rcases h with h|h
     ·grind
     ·rw[hE5] at h;grind
    have kp5:∀w:World,bJ E4 w E5 w:=fun w=>⟨fun _ _=>rfl,fun g hg=>by grind⟩
    refine⟨_,_,hend,E5,RV.bool,⟨?_,?_,?_,fun g hg=>wf.slt g (by grind),⟨fun x hx=>?_,?_⟩,?_⟩,?_⟩
    ·intro i k hi
     rcases at4 i k hi with⟨e1,e2⟩|⟨hne,k',h1,h2⟩
     ·subst e1;subst e2
      exact⟨by grind,World.putObj_heap_same hlt3⟩
     ·subst h2
      exact RB.mono (kp5 _) (fun b _=>by rw[hE5];grind) (fun _ _=>rfl) (fun _ g hg=>by rw[hE5];grind) ((wf.cE i k' h1).tie (fun hh=>by obtain⟨c1,c2⟩:=hgi i hh;rw[(X.CE i c1).1];exact c2))
    ·intro i i' k k' g hi hi' j1 j2
     rcases at4 i k hi with⟨e1,e2⟩|⟨hne,k2,h1,h2⟩
     ·grind
     ·rcases at4 i' k' hi' with⟨e1',e2'⟩|⟨hne',k2',h1',h2'⟩
      ·grind
      ·exact wf.dG i i' k2 k2' g h1 h1' (e5h _ _ j1) (e5h _ _ j2)
    ·intro i k g hi g1
     rw[e5S]
     rcases at4 i k hi with⟨e1,e2⟩|⟨hne,k2,h1,h2⟩
     ·grind
     ·exact wf.dh i k2 g h1 (e5h _ _ g1)
    ·obtain⟨y1,y2⟩:=wf.gl.1 x hx
     grind
    ·refine hB ?_ (fun b hb=>by rw[e5S];exact X.sle b hb) hW.gl.2
     intro b hb
     refine X.kept b (hW.slt b hb) ?_
     rintro(⟨i,k,hi,hgi'⟩|e)
     ·exact hW.dh i _ b (at1 i k hi).2 hgi' hb
     grind
    ·intro i k g hi g1
     rcases at4 i k hi with⟨e1,e2⟩|⟨hne,k2,h1,h2⟩
     ·subst e1;grind
     ·exact wf.qE i k2 g h1 (by rw[hE5] at g1;grind)
    ·refine⟨X.os,X.tape,X.output,X.size,?_,fun g hg=>by rw[e5S];exact X.sle g hg,?_,?_,fun b hb=>by rw[hE5];exact X.CE b hb⟩
     ·intro g hgl' ho
      refine X.kept g hgl' ?_
      rintro(⟨i,k,hi,hgi'⟩|e)
      ·exact ho ⟨i,_,(at1 i k hi).2,hgi'⟩
      ·subst e;exact ho ⟨k0,_,hlp,Or.inl hgl⟩
     ·intro g hs
      rw[e5S] at hs
      rcases X.ln g hs with h|h|h
      ·grind
      ·rcases h with⟨i,k,hi,hgi'⟩|e
       ·exact Or.inr (Or.inl ⟨i,_,(at1 i k hi).2,hgi'⟩)
       grind
      grind
     ·rintro g ⟨i,k,hi,hgi'⟩
      have:Own σ4.hp E4 g∨g=l:=by
       rcases at4 i k hi with⟨e1,e2⟩|⟨hne,k2,h1,h2⟩
       ·grind
       ·exact Or.inl (sub4 g ⟨i,k2,h1,e5h _ _ hgi'⟩)
      rcases X.own g this with h|h
      ·rcases h with⟨i,k,hi,hgi'⟩|e
       ·exact Or.inl ⟨i,_,(at1 i k hi).2,hgi'⟩
       ·subst e;exact Or.inl ⟨k0,_,hlp,Or.inl hgl⟩
      grind
   cases ex with
   |
    normal=>
    cases x3 with
    |normal=>obtain⟨e,hh⟩:=r2;subst e;exact fin none rfl rfl hh
    |_=>trivial
   |
    ret=>
    cases x3 with
    |
     ret=>
     obtain⟨⟨e,e2⟩,hh⟩:=r2
     exact fin (some .ret) e2.symm (by cases j with|zero=>grind|succ j=>rfl) hh
    |_=>trivial
   |
    exit i=>
    cases x3 with
    |
     exit i'=>
     have e0:i'=i:=r1
     subst e0
     obtain⟨⟨e,e2⟩,hh⟩:=r2
     exact fin (some (.exit i')) e2.symm (by cases j with|zero=>grind|succ j=>rfl) hh
    |_=>trivial
   |panic chain=>cases x3<;>first|trivial|trivial
   |goto t=>cases x3<;>exact r1.elim
   |outgrown=>cases x3<;>exact r1.elim
  |_=>trivial
 |ret=>cases x<;>first|trivial|trivial
 |exit i=>cases x<;>first|trivial|trivial
 |panic chain=>cases x<;>first|trivial|trivial
 |goto t=>cases x<;>exact q1.elim
 |outgrown=>cases x<;>exact q1.elim
end Go.Ax
namespace Go.Ax
def Bo(P:Program)(gl:Ctx)(tm:List AV)(ps:Array Tmp)(assign body:Code)(k0:Nat)(ti:List (Nat×Ty))(m:List (Nat×Nat))(jl:List Code)(C:Ctx)(y:YC):Prop:=
 ∀(args:List AV)(H H':List (Option aN))(j:Nat),ps.size=args.length→H[k0]? =some none→H'[k0]? =some none→oN H ti=true→oN H' ti=true→
  cP P (gl.ru y.l) assign ⟨qV (ps.toList.zip args) (FX m tm),H,[]⟩ (OX P (gl.ru y.l) body (OY (gl.ru y.l) jl j H'))→
  Fy P C y.l args ((tie y.gs ti 0 H).set k0 (some (.lp y 0))) (.ret (.val .bool (Nat.beq j 0))) ((tie y.gs ti 0 H').set k0 (some (.lp y j)))
def Th(gs:Nat→Nat)(m:List (Nat×Nat))(b:Nat):Nat:=match kE m b with|some i=>gs i|none=>0
def OZ:List (Nat×Nat)→List (Nat×Ty)
 |[]=>[]
 |(b,_)::l=>(b,.unit)::OZ l
theorem zt{b:Nat}:∀{m:List (Nat×Nat)},lD b (OZ m)=true→∃i,kE m b=some i
 |[],h=>by cases h
 |
  (c,i)::l,h=>by
  simp only[OZ,lD,fN] at h
  unfold kE
  split
  ·grind
  ·rename_i hn
   rcases h with h|h
   ·exact absurd (by rw[bR h];exact Nat.beq_refl c) hn
   ·exact zt h
def O0(hp:List (Option aN))(ti:List (Nat×Ty)):List (Nat×Nat)→Bool
 |[]=>true
 |(b,i)::l=>(match hp[b]? with|some (some (.var t _))=>lD i ti&&(ti.all fun x=> !Nat.beq x.1 i||Ty.same x.2 t)|_=>false)&&O0 hp ti l
theorem FY{hp:List (Option aN)}{ti:List (Nat×Ty)}:∀{m:List (Nat×Nat)},O0 hp ti m=true→∀b i,(b,i)∈m→lD i ti=true∧∃t v,hp[b]? =some (some (.var t v))∧∀t',(i,t')∈ti→t'=t
 |[],_,b,i,h=>by cases h
 |
  (c,k)::l,hm,b,i,h=>by
  simp only[O0,aV] at hm
  rcases List.mem_cons.1 h with e|h
  ·cases e
   have h1:=hm.1
   split at h1
   ·rename_i t v hv
    simp only[aV,oj] at h1
    refine⟨h1.1,t,v,hv,fun t' ht'=>?_⟩
    have:=h1.2 _ ht'
    simp at this
    exact Ty.aB this
   grind
  ·exact FY hm.2 b i h
def FZ:List (Option aN)→List (Option aN)
 |[]=>[]
 |some (.tv _ t v)::l=>some (.var t v)::FZ l
 |x::l=>x::FZ l
theorem jR:∀{l:List (Option aN)}{i:Nat}{k:aN},(FZ l)[i]? =some (some k)→∃k',l[i]? =some (some k')∧(k'=k∨∃g t v,k'= .tv g t v∧k= .var t v)
 |[],i,k,h=>by trivial
 |
  x::l,0,k,h=>by
  unfold FZ at h
  grind
 |
  x::l,i+1,k,h=>by
  unfold FZ at h
  split at h
  ·cases(by assumption:_=_)
  ·rename_i heq;cases heq;simpa using jR (by simpa using h)
  ·rename_i heq;cases heq;simpa using jR (by simpa using h)
theorem bW.FZ{gl:Ctx}{σ:St}{E:Env}{a:Act}{w:World}(h:bW gl σ E a w):bW gl {σ with hp:=Ax.FZ σ.hp} E a w∧Ext gl.md (Own σ.hp E) E w (Own (Ax.FZ σ.hp) E) E w:=by
 refine⟨⟨h.len,h.tm,⟨?_,?_,?_,h.hw.slt,h.hw.gl,?_⟩,h.df⟩,{Ext.refl (Own σ.hp E) E w with own:=?_ }⟩
 ·intro b k hb
  obtain⟨k',h1,h2⟩:=jR hb
  have:=h.hw.cE b k' h1
  rcases h2 with e|⟨g,t,v,e1,e2⟩
  ·grind
  ·subst e1;subst e2
   obtain⟨q0,q1,q2,c,e,q4,q5⟩:=this
   exact⟨q1,q2,g,c,e,q0,q4,q5⟩
 ·intro b b' k k' g hb hb' g1 g2
  obtain⟨k1,h1,_⟩:=jR hb
  obtain⟨k2,h2,_⟩:=jR hb'
  exact h.hw.dG b b' k1 k2 g h1 h2 g1 g2
 ·intro b k g hb g1
  obtain⟨k1,h1,_⟩:=jR hb
  exact h.hw.dh b k1 g h1 g1
 ·intro b k g hb g1
  obtain⟨k1,h1,_⟩:=jR hb
  exact h.hw.qE b k1 g h1 g1
 ·rintro g ⟨b,k,hb,g1⟩
  obtain⟨k1,h1,_⟩:=jR hb
  exact Or.inl ⟨b,k1,h1,g1⟩
theorem bW.tie{gl:Ctx}{σ:St}{E:Env}{a:Act}{w:World}(h:bW gl σ E a w){gs:Nat→Nat}{ti:List (Nat×Ty)}(hg:∀b,lD b ti=true→E.g b=some (gs b)):bW gl {σ with hp:=Ax.tie gs ti 0 σ.hp} E a w∧Ext gl.md (Own σ.hp E) E w (Own (Ax.tie gs ti 0 σ.hp) E) E w:=by
 refine⟨⟨h.len,h.tm,⟨?_,?_,?_,h.hw.slt,h.hw.gl,?_⟩,h.df⟩,{Ext.refl (Own σ.hp E) E w with own:=?_ }⟩
 ·intro b k hb
  obtain⟨k',h1,h2⟩:=iy hb
  rw[dN] at h2
  subst h2
  exact(h.hw.cE b k' h1).tie (hg b)
 ·intro b b' k k' g hb hb' g1 g2
  obtain⟨k1,h1,_⟩:=iy hb
  obtain⟨k2,h2,_⟩:=iy hb'
  exact h.hw.dG b b' k1 k2 g h1 h2 g1 g2
 ·intro b k g hb g1
  obtain⟨k1,h1,_⟩:=iy hb
  exact h.hw.dh b k1 g h1 g1
 ·intro b k g hb g1
  obtain⟨k1,h1,_⟩:=iy hb
  exact h.hw.qE b k1 g h1 g1
 ·rintro g ⟨b,k,hb,g1⟩
  obtain⟨k1,h1,_⟩:=iy hb
  exact Or.inl ⟨b,k1,h1,g1⟩
theorem Bp{σ:St}{d e:Nat}{k:aN}(hk:k.ids= [])(h:σ.fresh d)(hne:d≠e):({σ with hp:=σ.hp.set e (some k)}:St).fresh d:=by
 have h1:=kN.1 h.1
 refine⟨kN.2 ⟨h1.1,h1.2.1,?_⟩,?_,h.2.2⟩
 ·grind
 ·intro k' hi
  rw[dm,aC (fun x=>hne x.symm)] at hi
  exact h.2.1 k' hi
def pT(y:YC)(m:List (Nat×Nat))(dI lI:Nat)(hp:List (Option aN)):List (Option aN):=tie (Th y.gs m) (OZ m) 0 ((hp.set dI (some .sI)).set lI (some (.lp y 0)))
structure Ti(σ:St)(y:YC)(m:List (Nat×Nat))(dI lI j:Nat)(cs:AV)(cr:CR)(L:List AV)(ins:List (Nat×Option aN))(hpF:List (Option aN)):Prop where
 hr:cr.r= .gk .nil
 hL:lA (swp cr.al) (ep (pT y m dI lI σ.hp)) (((.func (.yield y.l) .nil .nil,Ty.unit))::cs.toList.map (fun x=>(x,Ty.unit)))=some (L,[])
 jG:iM (swp cr.al) (ep (pT y m dI lI σ.hp)) cr.ps=some ins
 fJ:yo cr []=true
 P7:((cr.ns.map (·.2)).all (fun b=>({σ with hp:=pT y m dI lI σ.hp,df:=.mp dI::σ.df}:St).eW b))=true
 Yg:(aQ (pT y m dI lI σ.hp) (lK (cr.al++cr.ns) cr.out (cr.ps++cr.ns)))[lI]? =some (some (.lp y j))
 Yh:FZ ((aQ (pT y m dI lI σ.hp) (lK (cr.al++cr.ns) cr.out (cr.ps++cr.ns))).set lI none)=hpF
theorem cP.rangeFunc{P:Program}{gl:Ctx}{σ:St}{Q:fE→St→Prop}{g:Operand}{ps:Array Tmp}{assign body:Code}(hro:gl.ro=none){gf:FuncId}{cs:AV}(hg:bF gl σ.tm g= .func (.func gf) .nil cs)
 (dI lI k0:Nat) (hd:σ.eW dI=true) (hl:σ.eW lI=true) (hne:Nat.beq dI lI=false) (hk:Nat.blt k0 16=true)
 (ti:List (Nat×Ty)) (m:List (Nat×Nat)) (hkt:lD k0 ti=false) (hm:O0 σ.hp ti m=true) (hmn:j7 (m.map (·.2))=true) (jl:List Code) (hcs:cs.atoms=true)
 (hy:∀y:YC,∃j cr L ins hpF,Ti σ y m dI lI j cs cr L ins hpF∧
  (∀B hB,Bo P gl σ.tm ps assign body k0 ti m jl (gl.wB B hB) y→Fc P (gl.wB B hB) gf L (aQ (List.replicate cr.m none) ins) (.ret (.gk .nil)) (db cr.m cr.out))∧
  (match jmp jl j with|none=>Q .normal ⟨σ.tm,hpF,.mp dI::σ.df⟩|some c=>cP P gl c ⟨σ.tm,hpF,.mp dI::σ.df⟩ Q)):cP P gl (.rangeFunc g ps assign body) σ Q:=by
 intro E a w hG
 refine wpIn_rangeFunc ?_
 intro fn _
 have hfd:=St.dE hd
 have hfl:=St.dE hl
 have hnd:lI≠dI:=fun e=>by simp_all
 obtain⟨rec,hrec⟩:∃rec:Nat→Loop,rec=fk fn a.tmps ps assign body w.heap.size jl:=⟨_,rfl⟩
 have hrec0:rec 0={state:=.ready,pending:=none,fn:=fn,tmps:=a.tmps,params:=ps,assign:=assign,body:=body,defers:=w.heap.size}:=by rw[hrec];rfl
 obtain⟨gs,hgs⟩:∃gs:Nat→Nat,gs=fun i=>match kE (swp m) i with|some b=>(E.g b).getD 0|none=>0:=⟨_,rfl⟩
 obtain⟨j,cr,L,ins,hpF,⟨hr,hL,jG,fJ,P7,Yg,Yh⟩,hit,hq⟩:=hy ⟨w.heap.size+1,gs,rec⟩
 obtain⟨g1,x1⟩:=hG.fresh (w':=w.alloc (.deferred (some []))) hfd (g:=some w.heap.size) (sv:=undef) (t:=.unit) (k:=.sI) rfl (Tp.r rfl rfl) rfl (by simp) (fun i hi=>heap_alloc_old w _ hi) (fun i hi=>by grind)
  ⟨w.heap.size,by simp[Env.at],heap_alloc_new w _⟩
 have hs1:(w.alloc (.deferred (some []))).heap.size=w.heap.size+1:=by simp
 obtain⟨g2,x2⟩:=g1.fresh (w':=(w.alloc (.deferred (some []))).alloc (.loop (rec 0))) (d:=lI) (Bp rfl hfl hnd) (g:=some (w.heap.size+1)) (sv:=undef) (t:=.unit) (k:=.lp ⟨w.heap.size+1,gs,rec⟩ 0) rfl (Tp.r rfl rfl) rfl (by simp) (fun i hi=>heap_alloc_old _ _ hi) (fun i hi=>by grind)
  ⟨by simp[Env.at],by have:=heap_alloc_new (w.alloc (.deferred (some []))) (.loop (rec 0));grind⟩
 generalize hw2:(w.alloc (.deferred (some []))).alloc (.loop (rec 0))=w2 at g2 x2
 generalize hE2:(E.at dI (some w.heap.size) undef .unit).at lI (some (w.heap.size+1)) undef .unit=E2 at g2 x2
 have hE2g:∀b,b≠dI→b≠lI→E2.g b=E.g b:=fun b h1 h2=>by rw[←hE2];simp[Env.at,h1,h2]
 have hE2d:E2.g dI=some w.heap.size:=by rw[←hE2];simp[Env.at,Ne.symm hnd]
 have hE2S:E2.S=E.S:=by rw[←hE2];rfl
 have Qf:=x1.trans x2
 have hmu:∀b i,kE m b=some i→lD i ti=true∧E.g b=some (gs i)∧(∀t,(i,t)∈ti→E.bt b=t)∧b≠dI∧b≠lI:=by
  intro b i hbi
  have hmem:=pt hbi
  obtain⟨h1,t,v,h2,h3⟩:=FY hm b i hmem
  obtain⟨r1,r2,gg,c,e,r3,_⟩:=hG.hw.cE b _ h2
  have hlk:kE (swp m) i=some b:=ef (by grind [fH,swp,Function.comp_def]) (j0.2 hmem)
  refine⟨h1,by grind,fun t' ht'=>by grind,fun e=>?_,fun e=>?_⟩
  ·subst e;exact hfd.2.1 _ h2
  ·subst e;exact hfl.2.1 _ h2
 obtain⟨g3,x3⟩:=g2.tie (gs:=Th gs m) (ti:=OZ m) (by
  grind [zt,Th])
 have g4:bW gl ⟨σ.tm,pT ⟨w.heap.size+1,gs,rec⟩ m dI lI σ.hp,.mp dI::σ.df⟩ E2 {a with defers:={target:=.collected w.heap.size,args:= #[]}::a.defers} w2:=
  ⟨g3.len,g3.tm,g3.hw,⟨⟨w.heap.size,hE2d,rfl⟩,g3.df⟩⟩
 have hv0:=fQ g4 g
 simp only at hv0
 rw[hg] at hv0
 obtain⟨f',c',hev,r1,r2,_,_⟩:=RV.atom rfl hv0
 simp at hev
 have hf':f'= #[]:=by apply lk;exact r1
 subst hf'
 have hav:a.eval g= .func (.func gf) #[] c':=by trivial
 obtain⟨B,hBd⟩:∃B:(Nat→Prop)→World→Prop,B=fun S' w'=>(∀b,E.S b→S' b)∧(∀b,E.S b→w'.heap[b]? =w.heap[b]?):=⟨_,rfl⟩
 have hB:∀{S S':Nat→Prop}{w w':World},(∀b,S b→w'.heap[b]? =w.heap[b]?)→(∀b,S b→S' b)→B S w→B S' w':=by
  simp_all
 have hof:Bo P gl σ.tm ps assign body k0 ti m jl (gl.wB B hB) ⟨w.heap.size+1,gs,rec⟩:=by
  intro args H H' j' h1 h2 h3 h4 h5 h6
  rw[hrec]
  exact Fy.IG hG (fun S' w' h=>by grind) (fun b i hbi=>⟨(hmu b i hbi).1,(hmu b i hbi).2.1,(hmu b i hbi).2.2.1⟩) h1 hk hkt h2 h3 h4 h5 h6
 obtain⟨ac3,hfn⟩:=hit B hB hof
 have hbb:=cn (pT ⟨w.heap.size+1,gs,rec⟩ m dI lI σ.hp)
 obtain⟨hφ,hwi⟩:=su (lent:=[]) g4 hbb (fun b hb=>by cases hb) (jG) (fJ)
 have hargs:ko E2 w2 ((((.func (.yield (w.heap.size+1)) .nil .nil,Ty.unit))::cs.toList.map (fun x=>(x,Ty.unit))).map (·.1)) (Value.func (.yield (w.heap.size+1)) #[] #[]::c'.toList):=by
  refine⟨RV.dK (Or.inr ⟨rfl, #[], #[],rfl,rfl,rfl,rfl,rfl⟩),?_⟩
  have:=ko.atoms hcs r2
  have e1:∀l:List AV,(l.map (fun x=>(x,Ty.unit))).map (fun x:AV×Ty=>x.1)=l:=by intro l;induction l<;>simp_all
  grind
 have hv:=mn g4.hw hbb hφ (hL) (fun g hg=>hg) hargs
 have hSe:(E2.cN []).S=fun g=>E.S g∨∃b∈([]:List Nat),E2.g b=some g:=by simp only[Env.cN,hE2S]
 have hwB:HW (gl.wB B hB) (E2.to cr.al (E2.cN []).S) w2 (aQ (List.replicate cr.m none) (ins)):=by
  refine hwi.ctx rfl ?_
  show B _ w2
  rw[hBd]
  refine⟨fun b hb=>by show(E2.cN []).S b;grind,fun b hb=>?_⟩
  exact Qf.kept b (hG.hw.slt b hb) (fun⟨c,k,hc,hgc⟩=>hG.hw.dh c k b hc hgc hb)
 have hcalls:=hfn _ w2 _ hv hwB
 refine⟨w.heap.size+1,[{target:=.collected w.heap.size,args:= #[]}],w2,{target:=.fn (.func gf) c',args:= #[.func (.yield (w.heap.size+1)) #[] #[]]},w2,gf, #[.func (.yield (w.heap.size+1)) #[] #[]]++c',w2,?_,?_,fun _ _=>trivial,?_,fun h=>(by cases h),?_⟩
 ·simp_all[run_enterLoop_outer]
 ·simp only[resolve,hav]
  simp[go_sem]
 ·simp[invoke,ac3]
 ·have e0:(Value.func (.yield (w.heap.size+1)) #[] #[]::c'.toList).toArray= #[.func (.yield (w.heap.size+1)) #[] #[]]++c':=by simp_all
  rw[e0] at hcalls
  have h1:CallsIn Fence.wide 0 P gf _ w2 _:=callsIn_wide.2 hcalls
  refine CallsIn.mono (F:=Wd gl) h1 ?_
  rintro ed w3 ⟨E',hR,hW',hX⟩
  cases ed with
  |panicked ch=>trivial
  |outgrown=>trivial
  |
   returned v=>
   have hWg:HW gl E' w3 (db cr.m cr.out):=by
    refine hW'.ctx rfl ?_
    have hbs:B E'.S w3:=hW'.gl.2
    rw[hBd] at hbs
    exact gl.mono hbs.2 hbs.1 hG.hw.gl.2
   have hfr:∀b∈cr.ns.map (·.2),(⟨σ.tm,pT ⟨w.heap.size+1,gs,rec⟩ m dI lI σ.hp,.mp dI::σ.df⟩:St).fresh b:=by
    grind [St.dE]
   have hrr:=hr
   obtain⟨E3,k1,_,k3⟩:=kD (lent:=[]) g4 hbb (fun b hb=>by cases hb) (jG) (fJ) hfr hWg hX (r':=.gk .nil) (by rw[hrr];rfl) (v:=v) (by rw[hrr];exact hR)
   have f1:=Yg;have f2:=Yh
   obtain⟨q1,q2⟩:=k1.hw.cE lI _ f1
   obtain⟨k4,x4⟩:=k1.shut f1 q1 (.loop {rec j with state:=.exhausted})
   obtain⟨k5,x5⟩:=k4.FZ
   simp only[f2] at k5 x5
   have hst:(rec j).state≠.busy:=by rw[hrec];simp only[fk];grind
   refine⟨(rec j).pending,_,run_endLoop q2 hst,?_⟩
   have hpe:(rec j).pending=jmp jl j:=by rw[hrec];rfl
   have X:=(((Qf.trans x3).trans k3).trans x4).trans x5
   generalize hwF:w3.putObj (w.heap.size+1) (.loop {rec j with state:=.exhausted})=wF at k5 X
   generalize (rec j).pending=pe at hpe
   subst hpe
   revert hq
   cases jmp jl j with
   |
    none=>
    intro hq
    exact⟨.normal,_,E3,trivial,hq,k5,X⟩
   |
    some c=>
    intro hq
    refine wpIn_mono (hq E3 _ _ k5) ?_
    rintro ex a5 w5 ⟨x,σ5,E5,z1,z2,z3,z4⟩
    exact⟨x,σ5,E5,z1,z2,z3,X.trans z4⟩
end Go.Ax
namespace Go.Ax
theorem Fc.up{P:Program}{C C':Ctx}{f:FuncId}{A:List AV}{H H':List (Option aN)}{r:sW}(hg:C'.gl=C.gl)(hC:∀S w,C.B S w)(h:Fc P C f A H r H')(hm:C'.md=C.md:=by rfl):Fc P C' f A H r H':=by
 refine⟨h.1,fun E w vs hv hw=>?_⟩
 have:=h.2 E w vs hv (hw.ctx hg.symm (hC _ _))
 intro cs
 obtain⟨e,w',fr,⟨E',r1,r2,r3⟩,rest⟩:=this cs
 rw[←hm] at r3
 exact⟨e,w',fr,⟨E',r1,r2.ctx hg (hw.fI (hw.kept r3)).2,r3⟩,rest⟩
end Go.Ax
noncomputable section
namespace Go.Ax
def y0:YC:=⟨0,fun n=>n,fun _=>default⟩
inductive CF(D T:Type) where
 |bE (f:D→Option T)
 |j8 (s:Sh) (f:D→Option (Sum (prod (s.H [])) T))
def eK{A B R:Type}(x:Option (Sum A B))(kp:A→Option R)(k:B→Option R):Option R:=
 Option.bind x fun r=>match r with
  | .inl a=>kp a
  | .inr b=>k b
theorem Ee{A B R:Type}{x:Option (Sum A B)}{kp:A→Option R}{k:B→Option R}{r:R}(h:eK x kp k=some r):(∃a,x=some (.inl a)∧kp a=some r)∨∃b,x=some (.inr b)∧k b=some r:=by
 unfold eK at h
 cases x<;>grind
def CF.run{D T R:Type}:CF D T→D→(T→Option R)→(AV→Option R)→Option R
 | .bE f,d,K,_=>Option.bind (f d) fun r=>K r
 | .j8 s f,d,K,KP=>eK (f d) (fun p=>KP (s.V y0 p)) fun r=>K r
def CF.O3{D T:Type}:CF D T→D→T→Prop
 | .bE f,d,r=>f d=some r
 | .j8 _ f,d,r=>f d=some (.inr r)
def CF.O4{D T:Type}:CF D T→D→AV→Prop
 | .bE _,_,_=>False
 | .j8 s f,d,x=>∃p,f d=some (.inl p)∧x=s.V y0 p
theorem CF.zu{D T R:Type}{c:CF D T}{d:D}{K:T→Option R}{KP:AV→Option R}{r:R}(h:c.run d K KP=some r):(∃y,c.O3 d y∧K y=some r)∨∃x,c.O4 d x∧KP x=some r:=by
 cases c with
 |bE f=>obtain⟨y,h1,h2⟩:=bind_some h;exact Or.inl ⟨y,h1,h2⟩
 |
  j8 s f=>
  rcases Ee h with⟨p,h1,h2⟩|⟨y,h1,h2⟩
  ·exact Or.inr ⟨_,⟨p,h1,rfl⟩,h2⟩
  ·exact Or.inl ⟨y,h1,h2⟩
structure aW where
 fn:Fn
 A:List Sh
 B:List (Nat×fK)
 m:Nat
 F:SS
 res:F.T→AV
 out:F.T→List (Nat×aN)
 f:CF (prod (rq A (il B []))) F.T
abbrev aW.D(C:aW):Type:=prod (rq C.A (il C.B []))
def aW.args(C:aW)(d:C.D):List AV:=xi y0 C.A d
def aW.ins(C:aW)(d:C.D):List (Nat×Option aN):=cZ (nr y0 C.B (xj C.A d))
structure aW.holds(P:Program)(gl:Ctx)(C:aW):Prop where
 ret:∀d r,C.f.O3 d r→Fg P gl C.fn (C.args d) (aQ (List.replicate C.m none) (C.ins d)) (.ret (C.res r)) (db C.m (C.out r))
 j8:∀d x,C.f.O4 d x→Fg P gl C.fn (C.args d) (aQ (List.replicate C.m none) (C.ins d)) (.j8 x) (db C.m [])
def IH:(m:List (Nat×fK))→{l:List Type}→List (Nat×Option aN)→prod l→Option (prod (il m l))
 |[],_,[],d=>some d
 |
  (i,s)::m,_,(j,some k)::hp,d=>if Nat.beq i j then(match IH m hp d with
  |some e=>s.G k e
  |none=>none) else none
 |_,_,_,_=>none
theorem xo(y:YC):∀{m:List (Nat×fK)}{l:List Type}{hp:List (Nat×Option aN)}{d:prod l}{e:prod (il m l)},IH m hp d=some e→cZ (nr y m e)=hp∧NL m e=d
 |
  [],l,hp,d,e,h=>by
  cases hp with
  |nil=>cases h;trivial
  |cons _ _=>trivial
 |
  (i,s)::m,l,hp,d,e,h=>by
  match hp,h with
  |[],h=>trivial
  |(j,none)::hp,h=>trivial
  |
   (j,some k)::hp,h=>
   obtain⟨hs,h0⟩:=bP h
   have:=bR hs;subst this
   split at h0
   ·rename_i e' he
    obtain⟨h1,h2⟩:=xo y he
    obtain⟨g1,g2⟩:=fK.uL y h0
    exact⟨by simp only[nr,cZ];rw[g1,g2,h1],by simp only[NL];rw[g2,h2]⟩
   grind
def aW.get(C:aW)(L:List AV)(I:List (Nat×Option aN)):Option C.D:=
 match IH C.B (l:=[]) I () with
 |some d=>LO C.A L d
 |none=>none
theorem aW.eV{C:aW}{L:List AV}{I:List (Nat×Option aN)}{d:C.D}(h:C.get L I=some d):C.args d=L∧C.ins d=I:=by
 unfold aW.get at h
 split at h
 ·rename_i d1 h1
  obtain⟨a1,a2⟩:=xo y0 h1
  obtain⟨b1,b2⟩:=xl y0 h
  exact⟨b1,by unfold aW.ins;grind⟩
 grind
structure CH where
 NN:List Nat
 ps:List (Nat×Nat)
 ns:List (Nat×Nat)
 ks:List (Nat×Nat):=[]
 us:List Nat:=[]
def CH.al(ch:CH):List (Nat×Nat):=match ch.ks with
 |[]=>ch.ps
 |k::ks=>ch.ps++k::ks
inductive KS where
 |t (s:Nat)
 |c (s:Nat) (p:Path)
def KS.get(σ:St):KS→Option AV
 | .t s=>σ.tm[s]?
 |
  .c s p=>match σ.tm[s]? with
  |
   some (.ptr b q)=>match ep σ.hp b with
   |some (.var _ v)=>v.get (q++p)
   |_=>none
  |_=>none
inductive PF where
 |row (b d:Nat) (k:KS)
 |map (mode b d:Nat) (k:KS)
 |eJ (b:Nat)
structure RH where
 pre:List Gh
 zs:List (Nat×Nat×Ty)
 cs:List CH
 mg:Option (List (Nat×Ty)):=none
 foc:List (Nat×Nat):=[]
 pf:List PF:=[]
 post:List Gh:=[]
structure LH where
 S:SS
 fuel:S.T→Nat
structure II where
 ic:Nat
 dI:Nat
 lI:Nat
 ti:List (Nat×Ty)
 m:List (Nat×Nat)
 jl:List Code
 ps:List (Nat×Nat)
 ns:List (Nat×Nat)
 S:SS
 E:SS
structure Hs where
 reg:List (Nat×RH)
 join:List (Nat×SS)
 cE:List (Nat×SS)
 loop:List (Nat×LH)
 unr:List (Nat×Nat)
 yv:List (Nat×II):=[]
def ifs{R:Type}:List VC→Option R→Option R
 |[],x=>x
 |v::l,x=>@ite _ v.p v.d (ifs l x) none
theorem fy{R:Type}{r:R}:∀{l:List VC}{x:Option R},ifs l x=some r→dB l∧x=some r
 |[],x,h=>⟨trivial,h⟩
 |
  v::l,x,h=>by
  unfold ifs at h
  by_cases hp:v.p
  ·rw[@if_pos _ v.d hp] at h
   obtain⟨h1,h2⟩:=fy h
   trivial
  grind
def oO(G:bO)(al ps:List (Nat×Nat))(ev:Operand→AV)(hb:Nat→Option aN)(c:Call):Option (Fn×List AV×List (Nat×Option aN)):=
 match c.callee with
 |
  .value cf=>match G0 (ev cf) with
  |
   some (fn,fl,cl)=>
   match lA (swp al) hb (fl.map (fun x=>(x,Ty.unit))++(c.args.toList.zip c.argTypes.toList).map (qL G ev)++cl.map (fun x=>(x,Ty.unit))),iM (swp al) hb ps with
   |some (L,_),some ins=>some (fn,L,ins)
   |_,_=>none
  |_=>none
 |
  .invoke rv name=>match DP G hb name (ev rv) with
  |
   some (f,x,xt)=>
   match lA (swp al) hb ((x,xt)::(c.args.toList.zip c.argTypes.toList).map (qL G ev)),iM (swp al) hb ps with
   |some (L,_),some ins=>some (.func f,L,ins)
   |_,_=>none
  |_=>none
 |_=>none
def Ef(P:Program)(gl:Ctx)(cr:CR)(x:Option (Fn×List AV×List (Nat×Option aN))):Prop:=
 ∀fn L ins,x=some (fn,L,ins)→Fg P gl fn L (aQ (List.replicate cr.m none) ins) cr.fin (db cr.m cr.out)
theorem tF{P:Program}{G:bO}{gl:Ctx}{cr:CR}{ev:Operand→AV}{hb:Nat→Option aN}{c:Call}{e:fh}{ob:List Prop}(h:nT P G gl cr ev hb c=some (e,ob))(hob:Ef P gl cr (oO G cr.al cr.ps ev hb c)):∀p∈ob,p:=by
 unfold nT at h
 split at h
 ·rename_i cf hcf
  split at h
  ·rename_i fn fl cl hfv
   split at h
   ·rename_i L lent ins r' hL jG hr'
    split at h
    ·cases h
     intro p hp
     simp only[lj] at hp
     subst hp
     refine hob fn L ins ?_
     grind [oO]
    grind
   grind
  grind
 ·rename_i rv name hcf
  split at h
  ·rename_i f x xt hfv
   split at h
   ·rename_i L lent ins r' hL jG hr'
    split at h
    ·cases h
     intro p hp
     simp only[lj] at hp
     subst hp
     refine hob (.func f) L ins ?_
     grind [oO]
    grind
   grind
  grind
 grind
def tG(G:bO)(gl:Ctx)(ops:Array Oper)(al ps:List (Nat×Nat))(z:List (Nat×Ty))(σ:St)(i:Nat):Option (Fn×List AV×List (Nat×Option aN)):=
 match ops[i]? with
 |none=>none
 |
  some o=>match o.op with
  |
   .call c=>match z with
   |[]=>oO G al ps (bF gl σ.tm) (fR (qK o.op (bF gl σ.tm)++ps.map (·.2)) σ.hp) c
   |z=>oO G al ps (D9 (fR (lC (bF gl σ.tm) z) σ.hp) z (bF gl σ.tm)) (fR (qK o.op (D9 (fR (lC (bF gl σ.tm) z) σ.hp) z (bF gl σ.tm))++ps.map (·.2)) (aQ σ.hp (ee (ku (fR (lC (bF gl σ.tm) z) σ.hp) (bF gl σ.tm) z)))) c
  |_=>none
theorem zv{P:Program}{G:bO}{gl:Ctx}{d:Nat}{cr:CR}{op:Op}{ev:Operand→AV}{hb:Nat→Option aN}{e:fh}{ob:List Prop}(h:l0 P G gl d cr op ev hb=some (e,ob)):
 ob= []∨∃c e',op= .call c∧kQ op=true∧nT P G gl cr ev hb c=some (e',ob):=by
 unfold l0 at h
 split at h
 ·rename_i c
  split at h
  ·simp only[fm,gJ] at h
   grind
  ·rename_i hb
   simp only[qC] at h
   obtain⟨⟨e',ob'⟩,h,hk⟩:=h
   have:=Iu hk
   simp only at this
   subst this
   refine Or.inr ⟨c,e',rfl,?_,h⟩
   obtain⟨callee,args,tys⟩:=c
   cases callee with
   |builtin b=>grind
   |value _=>rfl
   |invoke _ _=>rfl
 ·simp only[fm,gJ] at h
  grind
theorem mD{P:Program}{G:bO}{gl:Ctx}{ops:Array Oper}{cr:CR}{z:List (Nat×Ty)}{σ:St}{i:Nat}{f:aU}{vc:List VC}{ob:List Prop}(h:dV P G gl ops cr z σ i=some (f,vc,ob))(hob:uJ ops i=true→Ef P gl cr (tG G gl ops cr.al cr.ps z σ i)):∀p∈ob,p:=by
 unfold dV at h
 split at h
 ·cases h
 ·rename_i o ho
  have hat:uJ ops i=kQ o.op:=by unfold uJ;rw[ho]
  split at h
  ·cases h
  ·grind
  ·split at h
   ·split at h
    ·cases h
    ·rename_i e ob' he
     cases h
     rcases zv he with rfl|⟨c,e',hop,hc,he'⟩
     ·grind
     grind [tF,tG]
   ·rename_i hz
    split at h
    ·cases h
    ·rename_i e ob' he
     cases h
     rcases zv he with rfl|⟨c,e',hop,hc,he'⟩
     ·grind
     ·refine tF he' ?_
      simp_all[tG]
def P8{R:Type}:Fn→Fn→Option R→Option R→Option R
 | .func f,.func g,K,E=>if Nat.beq f g then K else E
 | .yield l,.yield l',K,_=>ifs [vc (l=l')] K
 |_,_,_,E=>E
theorem zw{R:Type}{f g:Fn}{K E:Option R}{r:R}(h:P8 f g K E=some r):(f=g∧K=some r)∨E=some r:=by
 cases f with
 |
  func f=>
  cases g with
  |
   func g=>
   grind [P8,bR]
  |_=>exact Or.inr h
 |
  yield l=>
  cases g with
  |
   yield l'=>
   obtain⟨h1,h2⟩:=fy h
   exact Or.inl ⟨by rw[h1.1],h2⟩
  |_=>exact Or.inr h
 |_=>exact Or.inr h
noncomputable def zx(a b:aN){R:Type}(x:Option R):Option R:=@ite _ (some a=some b) (Classical.propDecidable _) x none
theorem jx{a:aN}{R:Type}{x:Option R}:zx a a x=x:=aA rfl
def zz{R:Type}(Γ:List aW)(ps ns ks:List (Nat×Nat))(us:List Nat)(fn:Fn)(L:List AV)(I:List (Nat×Option aN))(K:CR→Option R):List Nat→Option R
 |[]=>none
 |
  c::l=>match Γ[c]? with
  |
   some C=>P8 fn C.fn (match C.get L I with
   |some d=>C.f.run d (fun r=>K ⟨C.res r,ps,ns,C.out r,C.m,false,ks,us⟩) fun x=>K ⟨x,ps,[],[],C.m,true,ks,[]⟩
   |none=>zz Γ ps ns ks us fn L I K l) (zz Γ ps ns ks us fn L I K l)
  |none=>none
def F0(Γ:List aW)(ch:CH)(x:Option (Fn×List AV×List (Nat×Option aN))){R:Type}(K:CR→Option R):Option R:=
 match x with
 |some (fn,L,I)=>zz Γ ch.ps ch.ns ch.ks ch.us fn L I K ch.NN
 |none=>none
theorem tH{P:Program}{gl:Ctx}{Γ:List aW}(hΓ:∀C∈Γ,C.holds P gl){ps ns ks:List (Nat×Nat)}{us:List Nat}{fn:Fn}{L:List AV}{I:List (Nat×Option aN)}{R:Type}{K:CR→Option R}{r:R}:∀{l:List Nat},zz Γ ps ns ks us fn L I K l=some r→
 ∃cr,K cr=some r∧cr.ps=ps∧cr.ks=ks∧Ef P gl cr (some (fn,L,I))
 |[],h=>by cases h
 |
  c::l,h=>by
  unfold zz at h
  split at h
  ·rename_i C hC
   rcases zw h with⟨hf,h⟩|h
   ·split at h
    ·rename_i d hd
     obtain⟨h1,h2⟩:=aW.eV hd
     have hC:=hΓ C (lP hC)
     have key:∀(cr:CR),K cr=some r→cr.ps=ps→cr.ks=ks→Fg P gl C.fn (C.args d) (aQ (List.replicate cr.m none) (C.ins d)) cr.fin (db cr.m cr.out)→∃cr,K cr=some r∧cr.ps=ps∧cr.ks=ks∧Ef P gl cr (some (fn,L,I)):=by
      intro cr h hp hk hh
      refine⟨cr,h,hp,hk,?_⟩
      intro fn' L' I' e
      grind
     rcases CF.zu h with⟨y,hy,h⟩|⟨x,hx,h⟩
     ·exact key _ h rfl rfl (hC.ret d y hy)
     ·exact key _ h rfl rfl (hC.j8 d x hx)
    ·exact tH hΓ h
   ·exact tH hΓ h
  grind
theorem F1{P:Program}{gl:Ctx}{Γ:List aW}(hΓ:∀C∈Γ,C.holds P gl){ch:CH}{x:Option (Fn×List AV×List (Nat×Option aN))}{R:Type}{K:CR→Option R}{r:R}(h:F0 Γ ch x K=some r):
 ∃cr,K cr=some r∧cr.ps=ch.ps∧cr.ks=ch.ks∧Ef P gl cr x:=by
 unfold F0 at h
 split at h
 ·exact tH hΓ h
 grind
theorem CH.K3{ch:CH}{cr:CR}(h1:cr.ps=ch.ps)(h2:cr.ks=ch.ks):cr.al=ch.al:=by
 obtain⟨_,ps,_,_,_,_,ks,_⟩:=cr
 obtain⟨_,ps',_,ks',_⟩:=ch
 cases h1
 cases h2
 trivial
def P9:CR:=⟨.bot,[],[],[],0,false,[],[]⟩
def IJ{R:Type}(s:Bool)(f:aU)(K:aU→Option R):Option R:=
 match s with
 |false=>K f
 |
  true=>match f.v with
  | .val .bool e=>if e=true then K {f with v:=.val .bool true} else K {f with v:=.val .bool false}
  |_=>K f
theorem vE{R:Type}{s:Bool}{f:aU}{K:aU→Option R}{r:R}(h:IJ s f K=some r):K f=some r:=by
 unfold IJ at h
 split at h
 ·exact h
 ·split at h
  ·rename_i e he
   obtain⟨rt,rb,fr,dst,v,hw⟩:=f
   grind
  grind
def IK{R:Type}:List (Option Nat)→Nat→Int→aU→(aU→Option R)→Option R
 |[],_,_,_,_=>none
 |g::gs,n,e,f,K=>if e=(n:Int) then K {f with v:=DV g} else IK gs (n+1) e f K
def F2{R:Type}(ok:Bool)(k0:Ty)(k:k0.den)(f:aU)(K:aU→Option R):List (k0.den×AV)→Option R
 |[]=>K {f with v:=okF ok .fq false}
 |x::l=>if aY k0 k x.1=true then K {f with v:=okF ok x.2 true} else F2 ok k0 k f K l
theorem vF{R:Type}{ok:Bool}{k0:Ty}{k:k0.den}{f:aU}{K:aU→Option R}{r:R}:∀{l:List (k0.den×AV)},f.v=lr ok k0 k l→F2 ok k0 k f K l=some r→K f=some r
 |
  [],hv,h=>by
  simp only[lr] at hv
  simp only[F2] at h
  rw[←hv] at h;exact h
 |
  x::l,hv,h=>by
  simp only[lr] at hv
  simp only[F2] at h
  split at h
  ·rename_i hb;rw[aA hb] at hv;rw[←hv] at h;exact h
  ·rename_i hb;rw[aC hb] at hv;exact vF hv h
def IL{R:Type}(b:Nat)(p:Path):Nat→Nat→Int→aU→(aU→Option R)→Option R
 |0,_,_,_,_=>none
 |m+1,n,e,f,K=>if e=(n:Int) then K {f with v:=.ptr b (p++[.idx n])} else IL b p m (n+1) e f K
theorem vG{R:Type}{f:aU}{K:aU→Option R}{r:R}{b:Nat}{p:Path}{e:Int}(hv:f.v= .ptr b (p++[.idx e.toNat])):∀{m n:Nat},IL b p m n e f K=some r→K f=some r
 |0,_,h=>by cases h
 |
  m+1,n,h=>by
  unfold IL at h
  split at h
  ·rename_i he
   subst he
   rw[dO] at hv
   rw[←hv] at h
   exact h
  ·exact vG hv h
def O5(hb:Nat→Option aN)(b:Nat)(p:Path):Option Nat:=
 match hb b with
 |
  some k=>match(iP k).sub p with
  |some (.fns n)=>some n
  |_=>none
 |none=>none
theorem Eg{P:Program}{G:bO}{d:Nat}{t:TypeId}{x j:Operand}{ev:Operand→AV}{hb:Nat→Option aN}{r:fh}{b:Nat}{p:Path}{k:IntKind}{e:Int}(h:lZ P G d (.indexAddr t x j) ev hb=some r)(hx:ev x= .ptr b p)(hj:ev j= .val (.int k) e):r.v= .ptr b (p++[.idx e.toNat]):=by
 simp only[lZ,AM,um,uz,uB,tj,tk,tn,hx,hj,jP] at h
 split at h
 ·rename_i r' h
  cases h
  rename_i h
  obtain⟨⟨u,vc⟩,h,rfl⟩:=Option.map_eq_some_iff.1 h
  unfold iY at h
  split at h
  ·split at h
   ·grind
   ·grind
   ·grind
   ·grind
   ·rename_i h2
    cases h2
    split at h
    ·split at h
     ·split at h
      ·cases h;rfl
      grind
     grind
    grind
   ·rename_i h2
    cases h2
    split at h
    ·split at h
     ·split at h
      ·cases h;rfl
      grind
     grind
    grind
   ·grind
   grind
  grind
 grind
def LU{R:Type}(gl:Ctx)(ops:Array Oper)(σ:St)(i:Nat)(f:aU)(K:aU→Option R):Option R:=
 match ops[i]? with
 |
  some o=>match o.guard,o.op with
  |
   none,.indexAddr _ x j=>match bF gl σ.tm x,bF gl σ.tm j with
   |
    .ptr b p,.val (.int _) e=>match O5 (ep σ.hp) b p with
    |some n=>IL b p n 0 e f K
    |none=>K f
   |_,_=>K f
  |
   none,.index _ x j=>match bF gl σ.tm x,bF gl σ.tm j with
   | .val (.fns _) xs,.val (.int _) e=>IK xs 0 e f K
   |_,_=>K f
  |
   none,.lookup _ x k ok=>match bF gl σ.tm x with
   |
    .mp b=>match ep σ.hp b with
    |
     some (.gW k0 l)=>match(bF gl σ.tm k).bK k0 with
     |some k'=>F2 ok k0 k' f K l
     |none=>K f
    |_=>K f
   |_=>K f
  |_,_=>K f
 |none=>K f
theorem vH{R:Type}{f:aU}{K:aU→Option R}{r:R}{ys:List (Option Nat)}{e:Int}(hv:f.v=DV (ys.getD e.toNat none)):∀{xs:List (Option Nat)}{n:Nat},(∀k,ys.getD (n+k) none=xs.getD k none)→IK xs n e f K=some r→K f=some r
 |[],_,_,h=>by cases h
 |
  g::gs,n,hx,h=>by
  unfold IK at h
  split at h
  ·rename_i he
   subst he
   have:ys.getD n none=g:=by simpa using hx 0
   rw[dO,this] at hv
   rw[←hv] at h
   exact h
  ·refine vH hv (fun k=>?_) h
   have:=hx (k+1)
   rw[show n+1+k=n+(k+1) by omega,this]
   simp
theorem Eh{P:Program}{G:bO}{R:Type}{gl:Ctx}{ops:Array Oper}{cr:CR}{σ:St}{i:Nat}{f:aU}{vc:List VC}{ob:List Prop}{K:aU→Option R}{r:R}(hs:dV P G gl ops cr [] σ i=some (f,vc,ob))(h:LU gl ops σ i f K=some r):K f=some r:=by
 unfold LU at h
 split at h
 ·rename_i o ho
  split at h
  ·rename_i t x j hg hop
   split at h
   ·rename_i b p k e hx hj
    split at h
    ·rename_i n hn
     have hv:f.v= .ptr b (p++[.idx e.toNat]):=by
      grind [dV,guardOf,l0,fm,Eg]
     exact vG hv h
    grind
   grind
  ·rename_i t x j hg hop
   split at h
   ·rename_i n xs k e hx hj
    have hv:f.v=DV (xs.getD e.toNat none):=by
     unfold dV at hs
     rw[ho] at hs
     simp only[guardOf,hg,hop] at hs
     simp only[l0,lZ,AM,um,uz,uB,tj,tk,tn,hx,hj] at hs
     split at hs
     ·cases hs
     ·rename_i e' ob' he
      cases hs
      simp only[fm,gJ] at he
      obtain⟨a,ha,rfl,rfl⟩:=he
      split at ha
      case h_2=>cases ha
      rename_i a' ha'
      cases ha
      simp only[fm] at ha'
      obtain⟨b,hb,rfl⟩:=ha'
      unfold sx at hb
      split at hb
      ·split at hb
       ·grind
       ·rename_i m m' ys k' n' h1 h2 h3
        cases h2;cases h3
        split at hb
        ·cases hb;rfl
        grind
       ·grind
       grind
      grind
    exact vH hv (fun k=>by simp) h
   grind
  ·rename_i t x k ok hg hop
   split at h
   ·rename_i b hx
    split at h
    ·rename_i k0 l hbk
     split at h
     ·rename_i k' hk
      have hv:f.v=lr ok k0 k' l:=by
       grind [dV,guardOf,l0,fm,ze,ep,fR]
      exact vF hv h
     grind
    grind
   grind
  grind
 grind
def O6{R:Type}(gl:Ctx)(ops:Array Oper)(σ:St)(i:Nat)(z:List (Nat×Ty))(f:aU)(K:aU→Option R):Option R:=
 match z with
 |[]=>LU gl ops σ i f (fun f=>IJ (Fw ops.toList i) f K)
 |_::_=>IJ (Fw ops.toList i) f K
section
variable(P:Program) (G:bO) (gl:Ctx) (Γ:List aW)
def pU(ops:Array Oper)(σ:St)(i:Nat):Bool:=
 match ops[i]? with
 |
  some o=>match guardOf ops σ.tm o with
  |some b=>b
  |none=>false
 |none=>false
def zA(ops:Array Oper){R:Type}(i:Nat)(σ:St)(z:List (Nat×Ty))(x:Option (aU×List VC×List Prop))(K:aU→Option R):Option R:=
 match x with
 |some (f,vcs,_)=>if f.fr.all σ.eW then ifs vcs (O6 gl ops σ i z f K) else none
 |none=>none
def F3(gl:Ctx)(ops:Array Oper)(σ:St)(i:Nat):Option aU:=
 match ops[i]? with
 |
  some o=>match o.guard,o.op with
  |
   none,.panic x=>match bF gl σ.tm x with
   | .iface t v=>some ⟨slotsOf [x],[],[],none,.iface t v,[]⟩
   |_=>none
  |_,_=>none
 |none=>none
def O7{R:Type}(x:Option (aU×List VC×List Prop))(KP:aU→Option R):Option R:=
 match x with
 |some (f,_,_)=>if f.fr.isEmpty then KP f else none
 |none=>none
def kV(ops:Array Oper)(zs:List (Nat×Nat×Ty)){R:Type}(K:List aU→St→Option R)(KP:List aU→aU→St→Option R):Nat→Nat→List CH→St→List aU→Option R
 |0,_,_,σ,fs=>K fs σ
 |
  n+1,i,cs,σ,fs=>
  if uJ ops i&&pU ops σ i then(match cs with
   |
    ch::cs'=>F0 Γ ch (tG G gl ops ch.al ch.ps (KZ zs i) σ i) fun cr=>match cr.j8 with
    |false=>zA gl ops i σ (KZ zs i) (dV P G gl ops cr (KZ zs i) σ i) fun f=>kV ops zs K KP n (i+1) cs' (σ.app f) (f::fs)
    |true=>O7 (dV P G gl ops cr (KZ zs i) σ i) fun f=>KP fs f σ
   |[]=>none)
  else match F3 gl ops σ i with
  |some f=>KP fs f σ
  |none=>zA gl ops i σ (KZ zs i) (dV P G gl ops P9 (KZ zs i) σ i) fun f=>kV ops zs K KP n (i+1) (if uJ ops i then cs.tail else cs) (σ.app f) (f::fs)
end
theorem tJ{P:Program}{G:bO}{gl:Ctx}{ops:Array Oper}{cr:CR}{z:List (Nat×Ty)}{σ:St}{i:Nat}{f:aU}{vc:List VC}{ob:List Prop}{o:Oper}(h:dV P G gl ops cr z σ i=some (f,vc,ob))(ho:ops[i]? =some o):f.dst=o.dst:=by
 grind [dV]
theorem zB{P:Program}{G:bO}{gl:Ctx}{ops:Array Oper}{R:Type}{i:Nat}{σ:St}{cr:CR}{z:List (Nat×Ty)}{K:aU→Option R}{r:R}{f:aU}{vc:List VC}{ob:List Prop}(hs:dV P G gl ops cr z σ i=some (f,vc,ob))(h:O6 gl ops σ i z f K=some r):K f=some r:=by
 cases z with
 |nil=>exact vE (Eh hs h)
 |cons _ _=>exact vE h
theorem tK{P:Program}{G:bO}(T:bD P G){gl:Ctx}{ops:Array Oper}{R:Type}{i:Nat}{σ:St}{cr:CR}{z:List (Nat×Ty)}{K:aU→Option R}{r:R}(ac9:cr.j8=false)(hob:uJ ops i=true→Ef P gl cr (tG G gl ops cr.al cr.ps z σ i))(h:zA gl ops i σ z (dV P G gl ops cr z σ i) K=some r):
 ∃f,(uE P gl ops i f σ∧∀o,ops[i]? =some o→f.dst=o.dst)∧(∀d∈f.fr,σ.fresh d)∧K f=some r:=by
 unfold zA at h
 split at h
 ·rename_i f vcs ob hs
  obtain⟨hf,h⟩:=bP h
  grind [fy,mu,mD,tJ,zB,St.dE]
 grind
theorem IM{P:Program}{G:bO}{gl:Ctx}{ops:Array Oper}{σ:St}{i:Nat}{cr:CR}{z:List (Nat×Ty)}{f:aU}{vc:List VC}{ob:List Prop}(h:dV P G gl ops cr z σ i=some (f,vc,ob))(hg:pU ops σ i=false):ob= []:=by
 grind [dV,pU]
theorem F4{P:Program}{gl:Ctx}{ops:Array Oper}{σ:St}{i:Nat}{f:aU}(h:F3 gl ops σ i=some f):zh P gl ops i f σ:=by
 unfold F3 at h
 split at h
 ·rename_i o ho
  split at h
  ·rename_i x hgd hop
   split at h
   ·rename_i t v hx
    cases h
    intro σ' ha E a w hg K Q hQ
    unfold wpOpIn
    simp only[ho]
    have hw:=fD hg (ops:=ops) (o:=o) (c:=true) (by unfold guardOf;rw[hgd])
    rw[hw]
    simp only[bH]
    have hv:=fQ hg x
    rw[iF ha (x:=x) (fun t ht=>by grind [slotsOf]),hx] at hv
    obtain⟨u,e,_⟩:=RV.atom rfl hv
    simp at e
    unfold Oper.wpIn
    refine⟨fun _ _=>trivial,?_⟩
    rw[Oper.semAt_eq _ _ _ (by grind)]
    have acV:(execOp a.eval o).run P w= .halt (.panic (a.eval x)) w:=by
     simp[execOp,hop,e,Instr.panic]
    rw[acV]
    exact hQ E (a.eval x) w hg hv (Ext.refl _ _ _)
   grind
  grind
 grind
theorem zC{ops:Array Oper}{σ:St}{i:Nat}(h1:uJ ops i=true)(h2:pU ops σ i=true):∃o,ops[i]? =some o∧guardOf ops σ.tm o=some true∧kQ o.op=true:=by
 grind [pU,uJ]
theorem nJ{P:Program}{G:bO}(T:bD P G){gl:Ctx}{Γ:List aW}(hΓ:∀C∈Γ,C.holds P gl){ops:Array Oper}{zs:List (Nat×Nat×Ty)}{R:Type}{K:List aU→St→Option R}{KP:List aU→aU→St→Option R}{r:R}:
 ∀{n i:Nat}{cs:List CH}{σ:St}{fs:List aU},kV P G gl Γ ops zs K KP n i cs σ fs=some r→
  (∃gs σ',ow P gl ops i gs σ σ'∧gs.length=n∧(∀(k:Nat)(f:aU)(o:Oper),gs[k]? =some f→ops[i+k]? =some o→f.dst=o.dst)∧K (gs.reverse++fs) σ'=some r)∨
  ∃gs f σ',ow P gl ops i gs σ σ'∧gs.length<n∧zh P gl ops (i+gs.length) f σ'∧KP (gs.reverse++fs) f σ'=some r
 |0,i,cs,σ,fs,h=>Or.inl ⟨[],σ,rfl,rfl,(fun k f o h=>by simp at h),h⟩
 |
  n+1,i,cs,σ,fs,h=>by
  unfold kV at h
  have fin:∀{f:aU}{cs':List CH},(uE P gl ops i f σ∧∀o,ops[i]? =some o→f.dst=o.dst)→(∀d∈f.fr,σ.fresh d)→kV P G gl Γ ops zs K KP n (i+1) cs' (σ.app f) (f::fs)=some r→
   (∃gs σ',ow P gl ops i gs σ σ'∧gs.length=n+1∧(∀(k:Nat)(f:aU)(o:Oper),gs[k]? =some f→ops[i+k]? =some o→f.dst=o.dst)∧K (gs.reverse++fs) σ'=some r)∨
   ∃gs f σ',ow P gl ops i gs σ σ'∧gs.length<n+1∧zh P gl ops (i+gs.length) f σ'∧KP (gs.reverse++fs) f σ'=some r:=by
   intro f cs' h1 h2 h3
   rcases nJ T hΓ h3 with⟨gs,σ',k1,k2,kd,k3⟩|⟨gs,f',σ',k1,k2,kp,k3⟩
   ·refine Or.inl ⟨f::gs,σ',⟨h1.1,h2,k1⟩,by simp[k2],?_,by simpa using k3⟩<;>grind
   ·exact Or.inr ⟨f::gs,f',σ',⟨h1.1,h2,k1⟩,by grind,by grind,by grind⟩
  split at h
  ·rename_i hcg
   simp only[aV] at hcg
   split at h
   ·rename_i ch cs'
    obtain⟨cr,h,hps,hks,hob⟩:=F1 hΓ h
    split at h
    ·rename_i ac9
     obtain⟨f,h1,h2,h3⟩:=tK T ac9 (fun _=>by rw[hps,CH.K3 hps hks];exact hob) h
     grind
    ·rename_i ac9
     unfold O7 at h
     split at h
     ·rename_i f vcs ob hs
      obtain⟨hf,h⟩:=bP h
      obtain⟨o,ho,hgd,hcl⟩:=zC hcg.1 hcg.2
      exact Or.inr ⟨[],f,σ,rfl,by simp,A9 T ac9 ho hgd hcl hs (mD hs (fun _=>by rw[hps,CH.K3 hps hks];exact hob)) (by grind),by grind⟩
     grind
   grind
  ·rename_i hc
   split at h
   ·rename_i f hf
    exact Or.inr ⟨[],f,σ,rfl,by simp,F4 hf,by grind⟩
   ·cases ho:uJ ops i with
    |
     false=>
     rw[ho] at h
     obtain⟨f,h1,h2,h3⟩:=tK T rfl (fun e=>by grind) h
     grind
    |
     true=>
     rw[ho] at h hc
     have hg:pU ops σ i=false:=by grind
     unfold zA at h
     split at h
     ·rename_i f vcs ob hs
      obtain⟨hf,h⟩:=bP h
      obtain⟨hv,h⟩:=fy h
      refine fin ⟨mu T rfl hs hv (by rw[IM hs hg];grind),fun o ho=>tJ hs ho⟩ ?_ (zB hs h)
      grind [St.dE]
     grind
section
variable(P:Program) (G:bO) (gl:Ctx)
def mE(ops:Array Oper)(draw:Bool)(z p:Nat)(masks:List Nat){R:Type}(K:List aU→Option R):Nat→Nat→St→List aU→Option R
 |0,_,_,gs=>K gs.reverse
 |
  n+1,j,σ,gs=>if !draw||(masks.getD j 0).testBit p then mE ops draw z p masks K n (j+1) σ (Di z::gs)
  else if uJ ops j then none else match dV P G gl ops P9 [] σ j with
   |some (f,vcs,_)=>if f.fr.isEmpty&&IE z [f] then ifs vcs (mE ops draw z p masks K n (j+1) (σ.app f) (f::gs)) else none
   |none=>none
end
theorem nK{P:Program}{G:bO}(T:bD P G){gl:Ctx}{ops:Array Oper}{draw:Bool}{z p:Nat}{masks:List Nat}{R:Type}{K:List aU→Option R}{r:R}:∀{n j:Nat}{σ:St}{gs:List aU},mE P G gl ops draw z p masks K n j σ gs=some r→
 ∃ms σ',(σ.hp[z]? =some (some Bl)→bX (Bm P gl ops z) j ms σ σ')∧ms.length=n∧IE z ms=true∧K (gs.reverse++ms)=some r
 |0,j,σ,gs,h=>⟨[],σ,fun _=>rfl,rfl,rfl,by simpa[mE] using h⟩
 |
  n+1,j,σ,gs,h=>by
  unfold mE at h
  split at h
  ·obtain⟨ms,σ',h1,h2,h3,h4⟩:=nK T h
   refine⟨Di z::ms,σ',fun hz=>⟨Or.inr ⟨rfl,hz⟩,(fun d hd=>by cases hd),h1 hz⟩,by simp[h2],by simp only[IE,List.all_cons,aV] at h3 ⊢;exact⟨rfl,h3⟩,by simpa using h4⟩<;>grind
  ·split at h
   ·cases h
   ·rename_i ho
    split at h
    ·rename_i f vcs ob hs
     obtain⟨hf,h⟩:=bP h
     obtain⟨hv,h⟩:=fy h
     simp only[aV,List.isEmpty_iff] at hf
     obtain⟨ms,σ',h1,h2,h3,h4⟩:=nK T h
     have hob:=mD (cr:=P9) hs (fun e=>absurd e ho)
     have hnz:IE z (f::ms)=true:=by
      simp_all[IE]
     refine⟨f::ms,σ',fun hz=>⟨Or.inl (mu T rfl hs hv hob),(fun d hd=>by grind),h1 ?_⟩,by simp[h2],hnz,by grind⟩
     have hq:bX (fun _ _ _=>True) j [f] σ (σ.app f):=⟨trivial,(fun d hd=>by grind),rfl⟩
     exact bX.at hq hf.2 hz
    grind
def Qa{α:Type}:List (Nat×α)→Nat→Option α
 |[],_=>none
 |(i,x)::l,j=>if Nat.beq i j then some x else Qa l j
def pW:Code→Option Nat
 | .region id _ _=>some id
 |
  .seq a b=>match pW a with
  |some i=>some i
  |none=>pW b
 |
  .cond _ a b=>match pW a with
  |some i=>some i
  |none=>pW b
 | .block _ c| .loop c| .scope c=>pW c
 |_=>none
def IN{α:Type}(l:List (Nat×α))(c:Code):Option α:=
 match pW c with
 |some i=>Qa l i
 |none=>none
def aK{U R:Type}(F:(U→Option R)→U→Option R)(n:Nat):U→Option R:=
 @Nat.rec (fun _=>U→Option R) (fun _=>none) (fun _ ih=>F ih) n
def aG{U R:Type}(x:Option (cQ U R))(f:U→Option R):Option R:=
 Option.bind x fun o=>match o with
  | .brk d=>f d
  | .ret r=>some r
def bZ{U R:Type}(x:Option R):Option (cQ U R):=x.map .ret
theorem Bq{U R:Type}{x:Option (cQ U R)}{f:U→Option R}{r:R}(h:aG x f=some r):(∃d,x=some (.brk d)∧f d=some r)∨x=some (.ret r):=by
 obtain⟨o,ho,h⟩:=bind_some h
 grind
def IP(ops:Array Oper):Bool:=ops.toList.any fun o=>match o.op with
 | .defer _=>true
 |_=>false
def tL{R:Type}(F:YC→Option R):Option R:=
 @dite _ (∃r,∀y,F y=some r) (Classical.propDecidable _) (fun h=>some h.choose) fun _=>none
theorem Ei{R:Type}{F:YC→Option R}{r:R}(h:tL F=some r)(y:YC):F y=some r:=by
 unfold tL at h
 split at h<;>grind
def EC{R:Type}(a b:YC)(x:Option R):Option R:=@ite _ (a=b) (Classical.propDecidable _) x none
structure IC where
 A:List Sh
 B:List (Nat×fK)
 m:Nat
 k0:Nat
 R:List (Nat×fK)
 NN:Nat→(prod (rq A (il B []))→Option (gk (Bool::YC::Nat::il R [])))→aW
def IC.T(C:IC):List Type:=Bool::YC::Nat::il C.R []
def IC.Y(C:IC)(l:Nat)(f:prod (rq C.A (il C.B []))→Option (gk C.T)):aW:=
 ⟨.yield l,C.A,C.B,C.m,⟨1,C.m,[(0,.val .bool)],(C.k0,.lp)::C.R,[]⟩,fun r=>.val .bool (pz C.T r).1,fun r=>(C.k0,.lp (pz C.T r).2.1 (pz C.T r).2.2.1)::nr y0 C.R (pz C.T r).2.2.2,.bE f⟩
def IC.holds(P:Program)(gl:Ctx)(C:IC):Prop:=∀B hB l f,(C.Y l f).holds P (gl.wB B hB)→(C.NN l f).holds P (gl.wB B hB)
def Br:Option aN→Bool
 |some (.tv _ _ _)=>true
 |_=>false
def uM:List (Option aN)→Bool
 |[]=>true
 |x::l=> !Br x&&uM l
theorem Dp:∀{l:List (Option aN)},uM l=true→∀(i g:Nat)(t:Ty)(v:AV),l[i]? ≠some (some (.tv g t v))
 |[],_,i,g,t,v=>by simp
 |
  x::l,h,i,g,t,v=>by
  simp only[uM,aV] at h
  cases i with
  |zero=>intro e;simp at e;subst e;exact absurd h.1 (by simp[Br])
  |succ i=>simpa using Dp h.2 i g t v
def F5(y:YC)(ti:List (Nat×Ty))(k0:Nat):Nat→List (Option aN)→Option (List VC×List (Option aN))
 |_,[]=>some ([],[])
 |
  i,x::l=>match F5 y ti k0 (i+1) l with
  |none=>none
  |
   some (vs,H)=>if Nat.beq i k0 then(match x with
    |some (.lp y' j)=>some (⟨y'=y,Classical.propDecidable _⟩::vc (j=0)::vs,none::H)
    |_=>none)
   else match x with
    |none=>some (vs,none::H)
    |some (.tv g t v)=>if lD i ti then some (vc (g=y.gs i)::vs,some (.var t v)::H) else none
    |some (.var t v)=>if lD i ti then none else some (vs,some (.var t v)::H)
    |some k=>some (vs,some k::H)
theorem sa{y:YC}{ti:List (Nat×Ty)}{k0:Nat}:∀{X:List (Option aN)}{s:Nat}{vs:List VC}{H:List (Option aN)},F5 y ti k0 s X=some (vs,H)→dB vs→
 H.length=X.length∧(∀i,s+i=k0→i<X.length→X[i]? =some (some (.lp y 0))∧H[i]? =some none)∧(∀i,s+i≠k0→X[i]? =(tie y.gs ti s H)[i]?)∧uM H=true
 |[],s,vs,H,h,_=>by cases h;exact⟨rfl,fun i _ hi=>by grind,fun i _=>rfl,rfl⟩
 |
  x::l,s,vs,H,h,hv=>by
  unfold F5 at h
  split at h
  ·cases h
  ·rename_i vs' H' hr
   have step:∀{k:Option aN}{k':Option aN},dB vs'→Nat.beq s k0=false→x=k→(∀L,(tie y.gs ti s (k'::L))=k::tie y.gs ti (s+1) L)→Br k'=false→(k'::H').length=(x::l).length∧(∀i,s+i=k0→i<(x::l).length→(x::l)[i]? =some (some (.lp y 0))∧(k'::H')[i]? =some none)∧(∀i,s+i≠k0→(x::l)[i]? =(tie y.gs ti s (k'::H'))[i]?)∧uM (k'::H')=true:=by
    intro k k' hv' hb hx ht hnt
    obtain⟨h1,h2,h3,h4⟩:=sa hr hv'
    have hne:s≠k0:=fun e=>by rw[e,Nat.beq_refl] at hb;cases hb
    refine⟨by simp[h1],?_,?_,by simp[uM,hnt,h4]⟩
    ·intro i hi hl
     cases i with
     |zero=>exact absurd hi hne
     |succ i=>exact h2 i (by omega) (by simpa using hl)
    ·intro i hi
     rw[ht,hx]
     cases i with
     |zero=>rfl
     |succ i=>simpa using h3 i (by omega)
   split at h
   ·rename_i hb
    have hs:=bR hb
    subst hs
    split at h
    ·rename_i y' j
     cases h
     obtain⟨e1,e2,hv'⟩:=hv
     have e1:y'=y:=e1
     have e2:j=0:=e2
     subst e1;subst e2
     obtain⟨h1,h2,h3,h4⟩:=sa hr hv'
     refine⟨by simp[h1],?_,?_,by simp[uM,Br,h4]⟩
     ·intro i hi _
      have:i=0:=by omega
      subst this
      exact⟨rfl,rfl⟩
     ·intro i hi
      cases i with
      |zero=>exact absurd rfl hi
      |succ i=>simpa[tie] using h3 i (by omega)
    ·cases h
   ·rename_i hb
    have hb:Nat.beq s k0=false:=by cases hq:Nat.beq s k0 with|false=>rfl|true=>exact absurd hq hb
    split at h
    ·cases h;exact step hv hb rfl (fun L=>rfl) rfl
    ·rename_i g t v
     obtain⟨ht,h⟩:=bP h
     cases h
     obtain⟨e1,hv'⟩:=hv
     have e1:g=y.gs s:=e1
     subst e1
     exact step hv' hb rfl (fun L=>by simp[tie,ma,ht]) rfl
    ·rename_i t v
     split at h
     ·cases h
     ·rename_i ht
      cases h;exact step hv hb rfl (fun L=>by simp[tie,ma,ht]) rfl
    ·rename_i k n1 n2
     cases h
     refine step hv hb rfl (fun L=>?_) ?_
     ·cases k with
      |var t v=>exact absurd rfl (n2 t v)
      |_=>rfl
     ·cases k with
      |tv g t v=>exact absurd rfl (n1 g t v)
      |_=>rfl
def vJ(p:Code→Bool):List Code→Nat→Option Nat
 |[],_=>none
 |c::l,n=>if p c then some n else vJ p l (n+1)
def K4:Code→Bool
 | .ret=>true
 |_=>false
def F6(i:Nat):Code→Bool
 | .exit j=>Nat.beq i j
 |_=>false
def LV(jl:List Code):fE→Option Nat
 | .normal=>some 0
 | .ret=>vJ K4 jl 1
 | .exit i=>vJ (F6 i) jl 1
 | .panic _=>none
theorem zD{p:Code→Bool}:∀{l:List Code}{n j:Nat},vJ p l n=some j→n≤j∧∃c,l[j -n]? =some c∧p c=true
 |[],_,_,h=>by cases h
 |
  c::l,n,j,h=>by
  unfold vJ at h
  split at h
  ·grind
  ·obtain⟨h1,c',h2,h3⟩:=zD h
   grind
theorem vK{p:Code→Bool}{jl:List Code}{j:Nat}(h:vJ p jl 1=some j):j≠0∧∃c,jmp jl j=some c∧p c=true:=by
 obtain⟨h1,c,h2,h3⟩:=zD h
 refine⟨by omega,c,?_,h3⟩
 cases j with
 |zero=>omega
 |succ j=>trivial
def LW{R:Type}(c:Code)(σ:St)(k:fE→St→Option R):Option R:=
 match c with
 | .ret=>k .ret σ
 | .exit i=>k (.exit i) σ
 |_=>none
def IQ{R:Type}(σ:St)(k:fE→St→Option R)(j:Nat):List Code→Nat→Option R
 |[],_=>none
 |c::l,n=>if j=n then LW c σ k else IQ σ k j l (n+1)
def LX{R:Type}(jl:List Code)(j:Nat)(σ:St)(k:fE→St→Option R):Option R:=if j=0 then k .normal σ else IQ σ k j jl 1
theorem Dq{R:Type}{σ:St}{k:fE→St→Option R}{j:Nat}{r:R}:∀{l:List Code}{n:Nat},IQ σ k j l n=some r→n≤j∧∃c,l[j -n]? =some c∧LW c σ k=some r
 |[],_,h=>by cases h
 |
  c::l,n,h=>by
  unfold IQ at h
  split at h
  ·grind
  ·obtain⟨h1,c',h2,h3⟩:=Dq h
   grind
theorem IS{P:Program}{gl:Ctx}{R:Type}{jl:List Code}{j:Nat}{σ:St}{k:fE→St→Option R}{r:R}(h:LX jl j σ k=some r):match jmp jl j with
 |none=>k .normal σ=some r
 |some c=>cP P gl c σ (fun e σ'=>k e σ'=some r):=by
 unfold LX at h
 split at h
 ·rename_i hj;subst hj;exact h
 ·obtain⟨h1,c,h2,h3⟩:=Dq h
  have hj:jmp jl j=some c:=by
   cases j with
   |zero=>omega
   |succ j=>simpa[jmp] using h2
  rw[hj]
  simp only
  unfold LW at h3
  split at h3
  ·exact cP.ret h3
  ·exact cP.exit h3
  ·cases h3
def F7(y:YC)(rh:II)(C:IC):fE→St→Option (gk (Nat::il C.R [])):=fun e σ=>
 match LV rh.jl e,rh.E.rZ σ with
 |
  some j,some u=>if uM (rh.E.st y0 u).hp&&Nat.ble C.m (rh.E.st y0 u).hp.length then(match OR C.R (l:=[]) (tie y.gs rh.ti 0 (rh.E.st y0 u).hp) () with
  |some e=>some (K0 (Nat::il C.R []) (j,e))
  |none=>none) else none
 |_,_=>none
def NO(y:YC)(rh:II)(C:IC)(ps:Array Tmp)(σ:St)(wA wB:St→(fE→St→Option (gk (Nat::il C.R [])))→Option (gk (Nat::il C.R []))):prod (rq C.A (il C.B []))→Option (gk C.T):=fun d=>
 match F5 y rh.ti C.k0 0 (aQ (List.replicate C.m none) (cZ (nr y0 C.B (xj C.A d)))) with
 |
  some (vcs,H0)=>ifs vcs (if Nat.beq ps.size (xi y0 C.A d).length&&oN H0 rh.ti then(Option.bind (wA ⟨qV (ps.toList.zip (xi y0 C.A d)) (FX rh.m σ.tm),H0,[]⟩ (fun e σ1=>match e with
  | .normal=>wB σ1 (F7 y rh C)
  |_=>none)) fun r=>match F5 y rh.ti C.m 0 (db C.m (nr y0 C.R (pz (Nat::il C.R []) r).2)) with
  |some (vs,H1)=>ifs vs (if oN H1 rh.ti then some (K0 C.T (Nat.beq (pz (Nat::il C.R []) r).1 0,y,(pz (Nat::il C.R []) r).1,(pz (Nat::il C.R []) r).2)) else none)
  |none=>none) else none)
 |none=>none
def LY(σ:St)(rh:II)(C:IC)(cs:AV):Bool:=
 σ.eW rh.dI&&σ.eW rh.lI&& !Nat.beq rh.dI rh.lI&&Nat.blt C.k0 16&&Nat.blt C.k0 C.m&& !lD C.k0 rh.ti&&O0 σ.hp rh.ti rh.m&&j7 (rh.m.map (·.2))&&cs.atoms&&C.R.all fun x=> !Nat.beq x.1 C.k0
def K5(σ:St)(y:YC)(rh:II)(cr:CR){R:Type}(k:fE→St→Option R):Option R:=
 match cr.r with
 |
  .gk .nil=>if yo cr []&&((cr.ns.map (·.2)).all (fun b=>({σ with hp:=pT y rh.m rh.dI rh.lI σ.hp,df:=.mp rh.dI::σ.df}:St).eW b)) then(match(aQ (pT y rh.m rh.dI rh.lI σ.hp) (lK (cr.al++cr.ns) cr.out (cr.ps++cr.ns)))[rh.lI]? with
  |some (some (.lp y' j))=>ifs [⟨y'=y,Classical.propDecidable _⟩] (LX rh.jl j ⟨σ.tm,FZ ((aQ (pT y rh.m rh.dI rh.lI σ.hp) (lK (cr.al++cr.ns) cr.out (cr.ps++cr.ns))).set rh.lI none),.mp rh.dI::σ.df⟩ k)
  |_=>none) else none
 |_=>none
def LZ(σ:St)(y:YC)(rh:II)(gf:FuncId)(cs:AV)(C2:aW){R:Type}(k:fE→St→Option R):Option R:=
 match lA (swp rh.ps) (ep (pT y rh.m rh.dI rh.lI σ.hp)) (((.func (.yield y.l) .nil .nil,Ty.unit))::cs.toList.map (fun x=>(x,Ty.unit))),iM (swp rh.ps) (ep (pT y rh.m rh.dI rh.lI σ.hp)) rh.ps with
 |
  some (L,[]),some ins=>P8 (.func gf) C2.fn (match C2.get L ins with
  |some d=>C2.f.run d (fun r=>K5 σ y rh ⟨C2.res r,rh.ps,rh.ns,C2.out r,C2.m,false,[],[]⟩ k) (fun _=>none)
  |none=>none) none
 |_,_=>none
section
variable(P:Program) (G:bO) (gl:Ctx) (fr:Bool) (H:Hs) (Γ:List aW)
def forget:List Oper→List AV→List AV
 |[],tm=>tm
 |
  o::l,tm=>forget l (match o.dst with
  |some d=>tm.set d .bot
  |none=>tm)
def L0:List (Nat×Ty)→List Type
 |[]=>[]
 |(_,t)::l=>t.den::L0 l
def Qb:(l:List (Nat×Ty))→List AV→Option (prod (L0 l))
 |[],_=>some ()
 |
  (i,t)::l,tm=>match tm[i]? with
  |
   some (.val u x)=>if h:Ty.same u t=true then(match Qb l tm with
   |some d=>some (tx h x,d)
   |none=>none) else none
  |_=>none
def Qc:(l:List (Nat×Ty))→prod (L0 l)→List (Nat×AV)
 |[],_=>[]
 |(i,t)::l,d=>(i,.val t d.1)::Qc l d.2
def O8(ops:Array Oper)(l:List (Nat×Ty))(σ:St)(t:gk (L0 l)):St:={σ with tm:=l9 (Qc l (pz (L0 l) t)) (forget ops.toList σ.tm)}
def IT{R:Type}(ops:Array Oper)(draw:Bool)(σ:St)(k:St→Option R)(fs:List aU)(σ':St):Option R:=
 if draw then(if lq ops fs.reverse&&iE σ fs.reverse then k σ' else none) else k σ'
def Ej(fs:List aU):Bool:=fs.all fun f=>f.hw.isEmpty
def F8{R:Type}(ops:Array Oper)(draw:Bool)(σ:St)(k:fE→St→Option R)(fs:List aU)(f:aU)(σp:St):Option R:=
 if Nat.blt (σ.hp.length -1) σ.hp.length&&f.v.plain then
  mE P G gl ops draw (σ.hp.length -1) fs.length (if draw then pK ops.toList [] else[]) (fun gs=>
   if draw then(if lq ops (jw fs.reverse f (σ.hp.length -1) gs)&&iE σ (jw fs.reverse f (σ.hp.length -1) gs) then k (.panic f.v) (tC fs.reverse f (σ.hp.length -1) gs σ) else none)
   else k (.panic f.v) (tC fs.reverse f (σ.hp.length -1) gs σ)) (ops.size -fs.length -1) (fs.length+1) (σp.app (tB f (σ.hp.length -1))) [] else none
def Bs(ops:Array Oper)(draw:Bool)(σ:St):Option St:=
 match draw,ops with
 |
  false,⟨[o0,o1]⟩=>if kQ o0.op then none else match dV P G gl ops P9 [] σ 0 with
  |
   some (f,[],_)=>match f.fr.all σ.eW,o1.op,o1.guard,o1.dst with
   |
    true,.defer {callee:=.value x,args:=⟨[]⟩,argTypes:=⟨[]⟩},none,none=>match bF gl (σ.app f).tm x with
    | .func fn .nil cs=>some {σ.app f with df:=.func fn .nil cs::(σ.app f).df}
    |_=>none
   |_,_,_,_=>none
  |_=>none
 |_,_=>none
def Bt(ops:Array Oper):Option (Nat×Nat×Nat):=
 match ops with
 |
  ⟨[o0,o1]⟩=>match o0.op,o0.guard,o0.dst,o1.op,o1.guard,o1.dst with
  | .next (.tmp s) false,none,some d,.extract (.tmp d') 0,none,some d1=>if Nat.beq d' d then some (s,d,d1) else none
  |_,_,_,_,_,_=>none
 |_=>none
def F9(s d d1:Nat){R:Type}(σ:St)(k:fE→St→Option R):Option R:=
 match σ.tm[s]? with
 |
  some (.ptr b [])=>match ep σ.hp b with
  |
   some (.lB kt vt rest _)=>if Nat.blt d σ.tm.length then(if rest.isEmpty=true then k .normal ((σ.put (some d) .bot).put (some d1) (.val .bool false))
   else Ec rest fun x l=>k .normal ((({σ with hp:=σ.hp.set b (some (.lB kt vt l (some x)))}:St).put (some d) .bot).put (some d1) (.val .bool true))) else none
  |_=>none
 |_=>none
def oP(ops:Array Oper)(draw:Bool)(zs:List (Nat×Nat×Ty))(cs:List CH)(mg:Option (List (Nat×Ty))){R:Type}(σ:St)(k:fE→St→Option R):Option R:=
 if IP ops then(if fr then(match Bs P G gl ops draw σ with
  |some σ'=>k .normal σ'
  |none=>none) else none) else
 match if draw then none else Bt ops with
 |some (s,d,d1)=>F9 s d d1 σ k
 |none=>match mg with
 |none=>kV P G gl Γ ops zs (IT ops draw σ (k .normal)) (F8 P G gl ops draw σ k) ops.size 0 cs σ []
 |some l=>Option.bind (kV P G gl Γ ops zs (fun fs σ'=>if Ej fs then IT ops draw σ (fun σ'=>(Qb l σ'.tm).map (K0 (L0 l))) fs σ' else none) (fun _ _ _=>none) ops.size 0 cs σ []) fun d=>k .normal (O8 ops l σ d)
def Ga{R:Type}:List (Nat×Nat)→St→(St→Option R)→Option R
 |[],σ,K=>K σ
 |
  (b,s)::l,σ,K=>match σ.tm[s]?,ep σ.hp b with
  |
   some (.val (.int _) n),some (.row _ _ _ xs)=>ifs [vc (0≤n),vc (n<xs.length)] (match vp b n.toNat σ with
   |some σ'=>Ga l σ' K
   |none=>none)
  |
   some (.ptr c [.idx i]),some (.row _ _ _ _)=>if Nat.beq c b then(match vp b i σ with
   |some σ'=>Ga l {σ' with tm:=σ'.tm.set s (.ptr b [.cw 1])} K
   |none=>none) else none
  |_,_=>none
def K6{R:Type}:List PF→St→(St→Option R)→Option R
 |[],σ,K=>K σ
 |
  .row b d k::l,σ,K=>match k.get σ,ep σ.hp b with
  |
   some (.val (.int _) n),some (.cS _ _ _ xs _ _)=>ifs [vc (0≤n),vc (n<xs.length)] (match FD b n.toNat d σ with
   |some σ'=>K6 l σ' K
   |none=>none)
  |_,_=>none
 |
  .map mode b d k::l,σ,K=>match k.get σ with
  |
   some (.val t x)=>match FG mode b d t x σ with
   |some (vcs,σ')=>ifs vcs (K6 l σ' K)
   |none=>none
  |_=>none
 |
  .eJ b::l,σ,K=>match nH b σ with
  |some σ'=>K6 l σ' K
  |none=>none
def K7{R:Type}(l:List Gh)(k:fE→St→Option R):fE→St→Option R
 |
  .normal,σ=>match NJ l σ with
  |some σ'=>k .normal σ'
  |none=>none
 |e,σ=>k e σ
def xp(id:Nat)(ops:Array Oper)(draw:Bool){R:Type}(σ:St)(k:fE→St→Option R):Option R:=
 match Qa H.reg id with
 |none=>oP P G gl fr Γ ops draw [] [] none σ k
 |
  some rh=>match NJ rh.pre σ with
  |some σ0=>Ga rh.foc σ0 fun σ0=>K6 rh.pf σ0 fun σ0=>oP P G gl fr Γ ops draw rh.zs rh.cs rh.mg σ0 (K7 rh.post k)
  |none=>none
def toJ{R:Type}(S:SS)(k:fE→St→Option R):fE→St→Option (cQ S.T R)
 | .normal,σ=>(S.rZ σ).map .brk
 |e,σ=>bZ (k e σ)
def Yi{R:Type}(id:Nat)(S:SS)(k:fE→St→Option R):fE→St→Option (cQ S.T R)
 | .normal,σ=>(S.rZ σ).map .brk
 | .exit i,σ=>if Nat.beq i id then(S.rZ σ).map .brk else bZ (k (.exit i) σ)
 |e,σ=>bZ (k e σ)
def Yj{R:Type}(id:Nat)(k:fE→St→Option R):fE→St→Option R
 | .exit i,σ=>if Nat.beq i id then k .normal σ else k (.exit i) σ
 |e,σ=>k e σ
def Dr{R:Type}(w:St→(fE→St→Option R)→Option R)(k:fE→St→Option R):Nat→St→Option R
 |0,_=>none
 |
  n+1,σ=>w σ fun e σ'=>match e with
  | .normal=>Dr w k n σ'
  |e=>k e σ'
end
section
variable(P:Program) (G:bO) (I:List IC) (H:Hs) (Γ:List aW)
def walk:Code→Ctx→Bool→{R:Type}→St→(fE→St→Option R)→Option R
 | .skip,_,_,_,σ,k=>k .normal σ
 | .label _,_,_,_,σ,k=>k .normal σ
 | .scope c,gl,fr,_,σ,k=>walk c gl fr σ k
 | .exit i,_,_,_,σ,k=>k (.exit i) σ
 | .ret,_,_,_,σ,k=>k .ret σ
 | .region id ops draw,gl,fr,_,σ,k=>xp P G gl fr H Γ id ops draw σ k
 |
  .seq x z,gl,fr,_,σ,k=>match IN H.join z with
  |
   none=>walk x gl fr σ fun e σ'=>match e with
   | .normal=>walk z gl fr σ' k
   |e=>k e σ'
  |some S=>aG (walk x gl fr σ (toJ S k)) fun d=>walk z gl fr (S.st y0 d) k
 |
  .cond c x z,gl,fr,_,σ,k=>match bF gl σ.tm c with
  | .val .bool b=>if b=true then walk x gl fr σ k else walk z gl fr σ k
  |_=>none
 |
  .block id c,gl,fr,_,σ,k=>match Qa H.cE id with
  |none=>walk c gl fr σ (Yj id k)
  |some S=>aG (walk c gl fr σ (Yi id S k)) fun d=>k .normal (S.st y0 d)
 |
  .loop c,gl,fr,_,σ,k=>match IN H.unr c with
  |some n=>Dr (fun σ k=>walk c gl fr σ k) k n σ
  |
   none=>match IN H.loop c with
   |none=>none
   |
    some L=>match L.S.rZ σ with
    |none=>none
    |
     some u=>aK (fun rec u=>walk c gl fr (L.S.st y0 u) fun e σ'=>match e with
     | .normal=>Option.bind (L.S.rZ σ') rec
     |e=>k e σ') (L.fuel u) u
 |
  .rangeFunc g ps assign body,gl,fr,_,σ,k=>if fr then(match IN H.yv body with
  |none=>none
  |
   some rh=>match I[rh.ic]?,rh.S.rZ σ with
   |
    some C,some u=>match bF gl (rh.S.st y0 u).tm g with
    |
     .func (.func gf) .nil cs=>if LY (rh.S.st y0 u) rh C cs then
      tL fun y=>LZ (rh.S.st y0 u) y rh gf cs (C.NN y.l (NO y rh C ps (rh.S.st y0 u) (fun σ1 k1=>walk assign (gl.ru y.l) false σ1 k1) (fun σ1 k1=>walk body (gl.ru y.l) false σ1 k1))) k
     else none
    |_=>none
   |_,_=>none) else none
 |_,_,_,_,_,_=>none
end
theorem tM:∀{l:List Oper}{tm:List AV},(forget l tm).length=tm.length
 |[],_=>rfl
 |
  o::l,tm=>by
  unfold forget
  rw[tM]
  split<;>simp
theorem tN{i:Nat}{x:AV}:∀{l:List Oper}{tm:List AV},(forget l tm)[i]? =some x→x= .bot∨(tm[i]? =some x∧∀o∈l,o.dst≠some i)
 |[],_,h=>Or.inr ⟨h,fun _ ho=>by cases ho⟩
 |
  o::l,tm,h=>by
  unfold forget at h
  rcases tN h with h|⟨h,hl⟩<;>grind
theorem Gb:∀{l:List (Nat×Ty)}{tm:List AV}{d:prod (L0 l)},Qb l tm=some d→∀i x,(i,x)∈Qc l d→tm[i]? =some x
 |[],_,_,_,i,x,hx=>by cases hx
 |
  (j,t)::l,tm,d,h,i,x,hx=>by
  unfold Qb at h
  split at h
  ·rename_i u z hz
   split at h
   ·rename_i hs
    split at h
    ·rename_i d' hd'
     cases h
     simp only[Qc,fe,gJ] at hx
     rcases hx with⟨rfl,rfl⟩|hx
     ·rw[hz,vz hs]
     ·exact Gb hd' i x hx
    grind
   grind
  grind
theorem zE{P:Program}{gl:Ctx}{ops:Array Oper}:∀{fs:List aU}{i:Nat}{σ σ':St},ow P gl ops i fs σ σ'→Ej fs=true→(∀(k:Nat)(f:aU)(o:Oper),fs[k]? =some f→ops[i+k]? =some o→f.dst=o.dst)→i+fs.length≤ops.size→
 σ'.hp=σ.hp∧σ'.df=σ.df∧σ'.tm.length=σ.tm.length∧∀t,(∀o∈ops.toList,o.dst≠some t)→σ'.tm[t]? =σ.tm[t]?
 |[],i,σ,σ',h,_,_,_=>by simp_all[bX]
 |
  f::fs,i,σ,σ',⟨_,_,h3⟩,hn,hd,hl=>by
  simp only[Ej,List.all_cons,aV,List.isEmpty_iff] at hn
  obtain⟨a,b,c,d⟩:=zE h3 (by simpa[Ej] using hn.2) (fun k f' o h1 h2=>hd (k+1) f' o (by grind) (by grind)) (by grind)
  refine⟨by rw[a,gL,hn.1];rfl,by rw[b,sR],by rw[c,pI],?_⟩
  intro t ht
  rw[d t ht]
  have hlt:i<ops.size:=by grind
  have:=hd 0 f ops[i] rfl (by grind)
  grind [gM]
theorem map_some{α β:Type}{x:Option α}{f:α→β}{r:β}(h:x.map f=some r):∃a,x=some a∧f a=r:=by
 simp_all
theorem cP.O9{P:Program}{gl:Ctx}{c:Code}{σ:St}{Q:fE→St→Prop}(h:cP P gl c σ (fun e σ'=>match e with| .panic v=>Q (.panic v) σ'|e=>∃σ2,Wk gl σ' σ2∧Q e σ2)):cP P gl c σ Q:=by
 intro E a w hg
 refine wpIn_mono (h E a w hg) ?_
 rintro ex a' w' ⟨x,σ',E',h1,h2,h3,h4⟩
 cases x with
 |panic v=>exact⟨_,σ',E',h1,h2,h3,h4⟩
 |
  normal=>
  obtain⟨σ2,hw,hq⟩:=h2
  obtain⟨E2,g2,x2⟩:=hw E' a' w' h3
  cases ex<;>first|exact h1.elim|exact⟨.normal,σ2,E2,trivial,hq,g2,h4.trans x2⟩
 |
  exit i=>
  obtain⟨σ2,hw,hq⟩:=h2
  obtain⟨E2,g2,x2⟩:=hw E' a' w' h3
  cases ex<;>first|trivial|exact⟨.exit i,σ2,E2,h1,hq,g2,h4.trans x2⟩
 |
  ret=>
  obtain⟨σ2,hw,hq⟩:=h2
  obtain⟨E2,g2,x2⟩:=hw E' a' w' h3
  cases ex<;>first|trivial|exact⟨.ret,σ2,E2,trivial,hq,g2,h4.trans x2⟩
section
variable{P:Program} {G:bO} (T:bD P G) {gl:Ctx} {fr:Bool} {H:Hs} {Γ:List aW} (hΓ:∀C∈Γ,C.holds P gl)
include T hΓ
omit hΓ T in
theorem Ds{ops:Array Oper}{draw:Bool}{R:Type}{σ σ':St}{k:St→Option R}{fs:List aU}{r:R}(h:IT ops draw σ k fs σ'=some r):(draw=true→(lq ops fs.reverse&&iE σ fs.reverse)=true)∧k σ'=some r:=by
 unfold IT at h
 grind
omit hΓ in
theorem Ek{id:Nat}{ops:Array Oper}{draw:Bool}{σ σ':St}{Q:fE→St→Prop}(hro:gl.ro=none)(h:Bs P G gl ops draw σ=some σ')(hq:Q .normal σ'):cP P gl (.region id ops draw) σ Q:=by
 unfold Bs at h
 split at h
 ·rename_i o0 o1
  split at h
  ·cases h
  rename_i hcl
  split at h
  ·rename_i f ob h0
   split at h
   ·rename_i x hfr ho hg hd
    split at h
    ·rename_i fn cs hv
     cases h
     intro E a w hgm
     refine wpIn_region ?_
     show wpOpsIn _ _ _ _ _ [0,1] _ _
     rw[wpOpsIn_cons]
     have hob:∀p∈ob,p:=mD h0 (fun e=>absurd e (by trivial))
     refine mu T rfl h0 trivial hob σ (jr.refl _ _ _) (fun d hd=>St.dE ((List.all_eq_true.1 hfr) d hd)) E a w hgm _ _ ?_
     intro E1 a1 w1 hg1 hx1
     rw[wpOpsIn_cons]
     have e1:(#[o0,o1]:Array Oper)[1]? =some o1:=rfl
     unfold wpOpIn
     simp only[e1]
     have hw:Region.wanted o1 (yielded #[o0,o1] a1.tmps)=true:=by simp[Region.wanted,hg]
     rw[aA hw]
     have hv1:=fQ hg1 x
     rw[hv] at hv1
     obtain⟨f',c',ev,r1,r2,r3,r4⟩:∃f' c',a1.eval x= .func fn f' c'∧RC E1 w1 .nil f'.toList∧RC E1 w1 cs c'.toList∧AV.nil.atoms=true∧cs.atoms=true:=by
      rcases RV.je rfl hv1 with⟨hh,_⟩|⟨_,hh⟩
      ·cases hh
      ·obtain⟨f',c',e,q⟩:=hh
       grind
     have hf':f'= #[]:=by apply lk;trivial
     subst hf'
     refine⟨fun _ _=>trivial,?_⟩
     have hs:(o1.semAt (Wd gl).round a1.eval).run P w1= .ok (.defer {target:=.fn fn c',args:= #[]}) w1:=by
      simp_all[Oper.semAt_none,execOp,resolve,Deferred.ofValue]
     rw[hs,Oper.uponIn_defer,hd]
     have hg2:bW gl {σ.app f with df:=.func fn .nil cs::(σ.app f).df} E1 {a1 with defers:={target:=.fn fn c',args:= #[]}::a1.defers} w1:=
      ⟨hg1.len,hg1.tm,hg1.hw,⟨⟨#[],c',rfl,r1,r2,r3,r4⟩,hg1.df⟩⟩
     exact⟨.normal,_,E1,trivial,hq,hg2,hx1⟩
    grind
   grind
  grind
 grind
omit T hΓ in
theorem Gc{id:Nat}{ops:Array Oper}{s d d1:Nat}(hn:Bt ops=some (s,d,d1)){R:Type}{σ:St}{k:fE→St→Option R}{r:R}(h:F9 s d d1 σ k=some r):cP P gl (.region id ops false) σ (fun e σ'=>k e σ'=some r):=by
 unfold Bt at hn
 split at hn
 ·rename_i o0 o1
  split at hn
  ·rename_i s' d' d'' d1' h0 hg0 hd0 h1 hg1 hd1
   obtain⟨hd,hn⟩:=bP hn
   cases hn
   have hd:=bR hd
   subst hd
   unfold F9 at h
   split at h
   ·rename_i b hs
    split at h
    ·rename_i kt vt rest cur hb
     obtain⟨hl,h⟩:=bP h
     refine cP.next h0 hg0 hd0 h1 hg1 hd1 hs (cn _ b _ hb) hl ?_ ?_
     ·grind
     ·intro i hi
      rw[aC (by grind)] at h
      exact Ed h i hi
    grind
   grind
  grind
 grind
variable(hro:fr=true→gl.ro=none)
include hro
theorem qW{id:Nat}{ops:Array Oper}{draw:Bool}{zs:List (Nat×Nat×Ty)}{cs:List CH}{mg:Option (List (Nat×Ty))}{R:Type}{σ:St}{k:fE→St→Option R}{r:R}(h:oP P G gl fr Γ ops draw zs cs mg σ k=some r):cP P gl (.region id ops draw) σ (fun e σ'=>k e σ'=some r):=by
 have key:∀{gs:List aU}{σ':St}{Q:fE→St→Prop},ow P gl ops 0 gs σ σ'→gs.length=ops.size→(draw=true→(lq ops gs&&iE σ gs)=true)→Q .normal σ'→cP P gl (.region id ops draw) σ Q:=by
  intro gs σ' Q hc hn fJ hq
  cases draw with
  |false=>exact fun E _ _ hg=>AI hn hc hg (fun E' _ _ h1 h2=>⟨.normal,σ',E',trivial,hq,h1,h2⟩)
  |
   true=>
   have fJ:=fJ rfl
   simp only[aV] at fJ
   exact fun E _ _ hg=>AK T fJ.1 fJ.2 hc hg (fun E' _ _ h1 h2=>⟨.normal,σ',E',trivial,hq,h1,h2⟩)
 unfold oP at h
 split at h
 ·obtain⟨hf,h⟩:=bP h
  grind [Ek]
 split at h
 ·rename_i s d d1 hn
  cases draw with
  |true=>grind
  |false=>rw[aC Bool.false_ne_true] at hn;exact Gc hn h
 split at h
 ·rcases nJ T hΓ h with⟨gs,σ',hc,hn,_,hk⟩|⟨gs,f,σ',hc,hn,hp,hk⟩
  ·grind [Ds,List.reverse_reverse]
  ·simp only[gI] at hk
   unfold F8 at hk
   simp only[List.reverse_reverse,List.length_reverse] at hk
   obtain⟨h1,h2⟩:=bP hk
   simp only[aV] at h1
   rw[dN] at hp
   have hz:σ.hp.length -1<σ.hp.length:=by simp_all
   obtain⟨ms,σe,k1,k2,k3,k4⟩:=nK T h2
   simp only[List.reverse_nil,mY] at k4
   have hze:(σ'.app (tB f (σ.hp.length -1))).hp[σ.hp.length -1]? =some (some Bl):=by
    rw[gL]
    simp only[tB,aQ,dm,bH]
    rw[aA (by rw[bX.hl hc];exact hz)]
   have k1:=k1 hze
   cases draw with
   |false=>exact tD T hc hp k1 k3 hz (by omega) (fun e=>(Bool.false_ne_true e).elim) h1.2 k4
   |
    true=>
    rw[aA rfl] at k4
    obtain⟨q3,q4⟩:=bP k4
    grind [tD]
 ·rename_i l
  obtain⟨d,hd,h⟩:=bind_some h
  rcases nJ T hΓ hd with⟨gs,σ',hc,hn,hdst,hk⟩|⟨_,_,_,_,_,_,hk⟩
  case inr=>cases hk
  simp only[gI] at hk
  obtain⟨hw,hk⟩:=bP hk
  obtain⟨h1,h2⟩:=Ds hk
  simp only[List.reverse_reverse] at h1
  have hw':Ej gs=true:=by simpa[Ej] using hw
  obtain⟨e1,e2,e3,e4⟩:=zE hc hw' hdst (by omega)
  obtain⟨t,ht,rfl⟩:=map_some h2
  refine cP.O9 (key hc hn h1 ⟨_,?_,h⟩)
  grind [Wk.sub,O8,nI,tM,oM,kT,Gb,tN]
omit T hΓ hro in
theorem xq{R:Type}{r:R}{K:St→Option R}:∀{l:List (Nat×Nat)}{σ:St},Ga l σ K=some r→∃σ',Wk gl σ σ'∧K σ'=some r
 |[],σ,h=>⟨σ,Wk.refl gl σ,h⟩
 |
  (b,s)::l,σ,h=>by
  unfold Ga at h
  split at h
  ·rename_i k n e bs t xs hs hb
   obtain⟨hv,h⟩:=fy h
   split at h
   ·rename_i σ1 h1
    obtain⟨σ',h2,h3⟩:=xq h
    refine⟨σ',Wk.trans (Wk.S1 h1 ?_) h2,h3⟩
    intro e' bs' t' xs' hb'
    rw[hb] at hb'
    cases hb'
    exact(Int.toNat_lt hv.1).2 hv.2.1
   ·cases h
  ·rename_i c i e bs t xs hs hb
   obtain⟨hc,h⟩:=bP h
   have hc:=bR hc
   subst hc
   split at h
   ·rename_i σ1 h1
    obtain⟨σ',h2,h3⟩:=xq h
    exact⟨σ',Wk.trans (Wk.S2 hs h1) h2,h3⟩
   ·cases h
  ·cases h
omit T hΓ hro in
theorem xr{R:Type}{r:R}{K:St→Option R}:∀{l:List PF}{σ:St},K6 l σ K=some r→∃σ',Wk gl σ σ'∧K σ'=some r
 |[],σ,h=>⟨σ,Wk.refl gl σ,h⟩
 |
  .row b d k::l,σ,h=>by
  unfold K6 at h
  split at h
  ·rename_i kk n e bs t xs e2 f hs hb
   obtain⟨hv,h⟩:=fy h
   split at h
   ·rename_i σ1 h1
    obtain⟨σ',h2,h3⟩:=xr h
    refine⟨σ',Wk.trans (Wk.FD h1 ?_) h2,h3⟩
    intro e' bs' t' xs' e2' f' hb'
    rw[hb] at hb'
    cases hb'
    exact(Int.toNat_lt hv.1).2 hv.2.1
   grind
  grind
 |
  .map mode b d k::l,σ,h=>by
  unfold K6 at h
  split at h
  ·rename_i t x hs
   split at h
   ·rename_i vcs σ1 h1
    obtain⟨hv,h⟩:=fy h
    obtain⟨σ',h2,h3⟩:=xr h
    exact⟨σ',Wk.trans (Wk.FG h1 hv) h2,h3⟩
   grind
  grind
 |
  .eJ b::l,σ,h=>by
  unfold K6 at h
  split at h
  ·rename_i σ1 h1
   obtain⟨σ',h2,h3⟩:=xr h
   exact⟨σ',Wk.trans (Wk.nH h1) h2,h3⟩
  grind
theorem Bu{id:Nat}{ops:Array Oper}{draw:Bool}{R:Type}{σ:St}{k:fE→St→Option R}{r:R}(h:xp P G gl fr H Γ id ops draw σ k=some r):cP P gl (.region id ops draw) σ (fun e σ'=>k e σ'=some r):=by
 unfold xp at h
 split at h
 ·exact qW T hΓ hro h
 ·split at h
  ·rename_i σ0 h0
   obtain⟨σ1,h1,h2⟩:=xq (gl:=gl) h
   obtain⟨σ2,h3,h4⟩:=xr (gl:=gl) h2
   refine cP.post (cP.gh _ h0 (cP.wk h1 (cP.wk h3 (qW T hΓ hro h4)))) ?_ ?_
   ·intro e σ' hne he
    cases e with
    |normal=>grind
    |_=>exact he
   grind [K7,Bf]
  grind
omit hΓ T hro in
theorem Ge{c:Code}{R:Type}{w:St→(fE→St→Option R)→Option R}(ih:∀{σ:St}{k:fE→St→Option R}{r:R},w σ k=some r→cP P gl c σ (fun e σ'=>k e σ'=some r)){k:fE→St→Option R}{r:R}{n:Nat}{σ:St}
 (h:Dr w k n σ=some r):cP P gl (.loop c) σ (fun e σ'=>k e σ'=some r):=by
 refine cP.loop (fun n σ=>Dr w k n σ=some r) ?_ h
 intro n σ1 hn
 cases n with
 |zero=>cases hn
 |
  succ n=>
  refine cP.mono (ih hn) ?_
  intro e σ2 he
  cases e with
  |normal=>exact⟨n,Nat.lt_succ_self n,he⟩
  |_=>exact he
omit hΓ T hro in
theorem Gf{c:Code}{R U:Type}{r:R}{k:fE→St→Option R}{F:(U→Option R)→U→Option R}{st:U→St}{rZ:St→Option U}(hm:∀σ u,rZ σ=some u→Wk gl σ (st u))
 (ih:∀{rec:U→Option R}{u:U},F rec u=some r→cP P gl c (st u) (fun e σ'=>(match e with| .normal=>Option.bind (rZ σ') rec|e=>k e σ')=some r)) {n:Nat} {σ:St} {u:U} (hu:rZ σ=some u)
 (h:aK F n u=some r):cP P gl (.loop c) σ (fun e σ'=>k e σ'=some r):=by
 refine cP.loop (fun n σ=>∃u,Wk gl σ (st u)∧aK F n u=some r) ?_ ⟨u,hm σ u hu,h⟩
 rintro n σ1 ⟨u1,hw,hn⟩
 cases n with
 |zero=>cases hn
 |
  succ n=>
  refine cP.wk hw (cP.mono (ih hn) ?_)
  intro e σ2 he
  cases e with
  |
   normal=>
   obtain⟨u2,h1,h2⟩:=bind_some he
   exact⟨n,Nat.lt_succ_self n,u2,hm σ2 u2 h1,h2⟩
  |_=>exact he
end
theorem Fy.up{P:Program}{C C':Ctx}{l:Nat}{A:List AV}{H H':List (Option aN)}{r:sW}(hg:C'.gl=C.gl)(hC:∀S w,C.B S w)(h:Fy P C l A H r H')(hm:C'.md=C.md):Fy P C' l A H r H':=by
 intro E w vs hv hw
 obtain⟨fn,tm,asz,bd,h1,h2⟩:=h E w vs hv (hw.ctx hg.symm (hC _ _))
 refine⟨fn,tm,asz,bd,h1,RoundIn.mono h2 ?_⟩
 rintro e w' ⟨E',r1,r2,r3⟩
 rw[←hm] at r3
 exact⟨E',r1,r2.ctx hg (hw.fI (hw.kept r3)).2,r3⟩
theorem Fg.up{P:Program}{C C':Ctx}{fn:Fn}{A:List AV}{H H':List (Option aN)}{r:sW}(hg:C'.gl=C.gl)(hC:∀S w,C.B S w)(h:Fg P C fn A H r H')(hm:C'.md=C.md):Fg P C' fn A H r H':=by
 cases fn with
 |func f=>exact Fc.up hg hC h hm
 |yield l=>exact Fy.up hg hC h hm
 |_=>trivial
theorem aW.holds.up{P:Program}{gl gl':Ctx}{C:aW}(h:C.holds P gl)(hg:gl'.gl=gl.gl)(hB:∀S w,gl.B S w)(hm:gl'.md=gl.md:=by rfl):C.holds P gl':=
 ⟨fun d r hd=>Fg.up hg hB (h.ret d r hd) hm,fun d x hd=>Fg.up hg hB (h.j8 d x hd) hm⟩
theorem Fy.less{P:Program}{C:Ctx}{l:Nat}{A:List AV}{H H1 H2:List (Option aN)}{r:sW}(h:Fy P C l A H r H1)(hs:∀(b:Nat)(k:aN),H2[b]? =some (some k)→H1[b]? =some (some k)):Fy P C l A H r H2:=by
 intro E w vs hv hw
 obtain⟨fn,tm,asz,bd,h1,h2⟩:=h E w vs hv hw
 refine⟨fn,tm,asz,bd,h1,RoundIn.mono h2 ?_⟩
 rintro e w' ⟨E',r1,r2,r3⟩
 exact⟨E',r1,r2.less hs,{r3 with own:=fun g ⟨b,k,hb,hg⟩=>r3.own g ⟨b,k,hs b k hb,hg⟩}⟩
theorem vL:∀{l H:List (Option aN)},H.length≤l.length→(∀(b:Nat)(k:aN),H[b]? =some (some k)→l[b]? =some (some k))→∃m,prune l m=H
 |l,[],_,_=>⟨[],by cases l<;>rfl⟩
 |[],x::H,h,_=>by simp at h
 |
  y::l,x::H,h,hs=>by
  obtain⟨m,hm⟩:=vL (l:=l) (H:=H) (by simpa using h) (fun b k hb=>by simpa using hs (b+1) k (by simpa using hb))
  cases x with
  |none=>exact⟨false::m,by simp[prune,hm]⟩
  |
   some k=>
   have:y=some k:=by simpa using hs 0 k rfl
   exact⟨true::m,by simp[prune,hm,this]⟩
theorem tO{gs:Nat→Nat}{ti:List (Nat×Ty)}:∀{l:List (Option aN)}{s i:Nat},(tie gs ti s l)[i]? =some none→l[i]? =some none
 |[],s,i,h=>by trivial
 |none::l,s,0,h=>rfl
 |some x::l,s,0,h=>by simp[tie] at h
 |none::l,s,i+1,h=>by simpa using tO (l:=l) (by simpa[tie] using h)
 |some x::l,s,i+1,h=>by simpa using tO (l:=l) (by simpa[tie] using h)
theorem Gg{gs:Nat→Nat}{ti:List (Nat×Ty)}{i:Nat}{k k':aN}(h1:Br (some k)=false)(h2:Br (some k')=false)(h:ma gs ti i k=ma gs ti i k'):k=k':=by
 cases k with
 |
  var t v=>
  cases k' with
  |
   var t' v'=>
   grind [ma]
  |tv=>trivial
  |_=>grind [ma]
 |tv=>trivial
 |
  _=>
  cases k' with
  |var t' v'=>grind [ma]
  |tv=>trivial
  |_=>exact h
theorem Dt{y:YC}:∀{m:List (Nat×fK)}{l:List Type}{d:prod (il m l)}{b:Nat}{k:aN},(b,k)∈nr y m d→∃s,(b,s)∈m
 |[],_,_,_,_,h=>by cases h
 |
  (i,s)::m,_,d,b,k,h=>by
  simp only[nr,fe,gJ] at h
  rcases h with⟨rfl,_⟩|h
  ·grind
  ·obtain⟨s',hs⟩:=Dt h
   exact⟨s',dT _ hs⟩
theorem eM{m:Nat}{out:List (Nat×aN)}{b:Nat}{k:aN}(h:(db m out)[b]? =some (some k)):(b,k)∈out:=by
 unfold db at h
 rcases dL h with h|⟨_,h⟩<;>grind
theorem zG{m:Nat}{out:List (Nat×aN)}:(db m out).length=m:=by unfold db;rw[kj,jJ]
theorem tQ{i:Nat}:∀{out:List (Nat×aN)},i∈wrote (out.map fun x=>(x.1,some x.2))→∃k,(i,k)∈out
 |[],h=>by cases h
 |
  (j,k)::out,h=>by
  simp only[dC,wrote,fe] at h
  rcases h with rfl|h
  ·grind
  ·obtain⟨k',hk⟩:=tQ h
   exact⟨k',dT _ hk⟩
theorem El{m i b:Nat}{x:aN}{out:List (Nat×aN)}(hi:∀k,(i,k)∉out)(hm:i<m):(db m ((i,x)::out))[b]? =if b=i then some (some x) else(db m out)[b]? :=by
 have hw:i∉wrote (out.map fun x=>(x.1,some x.2)):=by
  grind [tQ]
 unfold db
 simp only[dC,aQ]
 split
 ·rename_i e
  subst e
  rw[dU hw,dm,aA rfl,aA (by simpa using hm)]
 ·rename_i e
  exact ig (by simp) (by rw[dm,aC (fun e'=>e e'.symm)])
theorem Gi{gl:Ctx}{y:YC}{rh:II}{C:IC}{e:fE}{σ:St}{r:gk (Nat::il C.R [])}(h:F7 y rh C e σ=some r):∃σE,LV rh.jl e=some (pz (Nat::il C.R []) r).1∧Wk gl σ σE∧uM σE.hp=true∧C.m≤σE.hp.length∧
 ∀i x,(i,x)∈nr y0 C.R (pz (Nat::il C.R []) r).2→(tie y.gs rh.ti 0 σE.hp)[i]? =some (some x):=by
 unfold F7 at h
 split at h
 ·rename_i j u hj hu
  obtain⟨hc,h⟩:=bP h
  simp only[aV] at hc
  split at h
  ·rename_i d hd
   cases h
   rw[oM]
   exact⟨_,hj,SS.im hu,hc.1,fc hc.2,(Bi y0 hd).1⟩
  grind
 grind
theorem L1{P:Program}{gl Cx:Ctx}{y:YC}{rh:II}{C:IC}{ps:Array Tmp}{assign body:Code}{σ:St}{wA wB:St→(fE→St→Option (gk (Nat::il C.R [])))→Option (gk (Nat::il C.R []))}
 (hA:∀σ1 k1 r1,wA σ1 k1=some r1→cP P (gl.ru y.l) assign σ1 (fun e σ'=>k1 e σ'=some r1)) (hB:∀σ1 k1 r1,wB σ1 k1=some r1→cP P (gl.ru y.l) body σ1 (fun e σ'=>k1 e σ'=some r1))
 (hk:C.k0<C.m) (hR:(C.R.all fun x=> !Nat.beq x.1 C.k0)=true) (hof:Bo P gl σ.tm ps assign body C.k0 rh.ti rh.m rh.jl Cx y):(C.Y y.l (NO y rh C ps σ wA wB)).holds P Cx:=by
 refine⟨?_,fun _ _ h=>h.elim⟩
 intro d r hd
 have hd':NO y rh C ps σ wA wB d=some r:=hd
 unfold NO at hd'
 split at hd'
 case h_2=>cases hd'
 rename_i vcs H0 htok
 obtain⟨hv,hd'⟩:=fy hd'
 obtain⟨hc,hd'⟩:=bP hd'
 simp only[aV] at hc
 obtain⟨r0,hw,hd'⟩:=bind_some hd'
 split at hd'
 case h_2=>cases hd'
 rename_i vs H1 htok1
 obtain⟨hv1,hd'⟩:=fy hd'
 obtain⟨hto,hd'⟩:=bP hd'
 have er:=kf hd'
 obtain⟨t1,t2,t3,t4⟩:=sa htok hv
 obtain⟨u1,u2,u3,u4⟩:=sa htok1 hv1
 rw[zG] at u1
 have lX:(aQ (List.replicate C.m none) (cZ (nr y0 C.B (xj C.A d)))).length=C.m:=by rw[kj,jJ]
 rw[lX] at t1
 have hnk:∀k,(C.k0,k)∉nr y0 C.R (pz (Nat::il C.R []) r0).2:=by
  intro k hm
  obtain⟨s,hs⟩:=Dt hm
  have:=(List.all_eq_true.1 hR) _ hs
  simp_all
 have hX0:(db C.m (nr y0 C.R (pz (Nat::il C.R []) r0).2))[C.k0]? =some none:=by
  cases h:(db C.m (nr y0 C.R (pz (Nat::il C.R []) r0).2))[C.k0]? with
  |none=>grind [zG]
  |
   some x=>
   cases x with
   |none=>rfl
   |some k=>exact absurd (eM h) (hnk k)
 have h10:H1[C.k0]? =some none:=by
  grind [tO]
 have hX1:∀i:Nat,(db C.m (nr y0 C.R (pz (Nat::il C.R []) r0).2))[i]? =(tie y.gs rh.ti 0 H1)[i]? :=by
  intro i
  by_cases hi:i=C.m
  ·simp_all[mC]
  grind
 have hF:=hof (xi y0 C.A d) H0 H1 (pz (Nat::il C.R []) r0).1 (bR hc.1) (t2 C.k0 (by omega) (by grind)).2 h10 hc.2 hto ?_
 ·show Fy P Cx y.l (xi y0 C.A d) (aQ (List.replicate C.m none) (cZ (nr y0 C.B (xj C.A d)))) (.ret (.val .bool (pz C.T r).1)) (db C.m ((C.k0,.lp (pz C.T r).2.1 (pz C.T r).2.2.1)::nr y0 C.R (pz C.T r).2.2.2))
  have e1:pz C.T r=(Nat.beq (pz (Nat::il C.R []) r0).1 0,y,(pz (Nat::il C.R []) r0).1,(pz (Nat::il C.R []) r0).2):=by rw[←er];exact oM C.T _
  rw[e1]
  have eX:(tie y.gs rh.ti 0 H0).set C.k0 (some (.lp y 0))=aQ (List.replicate C.m none) (cZ (nr y0 C.B (xj C.A d))):=by
   apply List.ext_getElem?
   intro i
   rw[dm]
   split
   ·simp_all[mC]
   grind
  rw[eX] at hF
  refine hF.less ?_
  intro b k hb
  rw[El hnk hk] at hb
  grind
 ·refine cP.mono (hA _ _ _ hw) ?_
  intro e σ1 he
  cases e with
  |
   normal=>
   refine cP.mono (hB _ _ _ he) ?_
   intro e σ2 he
   obtain⟨σE,q1,q2,q3,q4,q5⟩:=Gi (gl:=gl.ru y.l) he
   have hpr:∃m,prune σE.hp m=H1:=by
    refine vL (by grind) ?_
    intro b k hb
    have hx:=hX1 b
    rw[xn hb,dN] at hx
    have:=q5 b _ (eM hx)
    obtain⟨k0,p1,p2⟩:=iy this
    rw[dN] at p2
    rw[p1]
    have nt:∀{l:List (Option aN)}{k:aN},uM l=true→l[b]? =some (some k)→Br (some k)=false:=by
     intro l k hn hk
     cases k with
     |tv g t v=>exact absurd hk (Dp hn b g t v)
     |_=>rfl
    rw[Gg (nt u4 hb) (nt q3 p1) p2]
   obtain⟨m,hm⟩:=hpr
   cases e with
   |normal=>exact⟨by simpa[LV] using q1.symm,σE,m,q2,hm⟩
   |
    ret=>
    obtain⟨j1,c,j2,j3⟩:=vK q1
    refine⟨⟨j1,?_⟩,σE,m,q2,hm⟩
    grind [K4]
   |
    exit i=>
    obtain⟨j1,c,j2,j3⟩:=vK q1
    refine⟨⟨j1,?_⟩,σE,m,q2,hm⟩
    rw[j2]
    cases c<;>simp[F6] at j3
    rw[j3]
   |panic v=>trivial
  |_=>cases he
theorem Pa{P:Program}{gl:Ctx}{σ:St}{g:Operand}{ps:Array Tmp}{assign body:Code}(hro:gl.ro=none){gf:FuncId}{cs:AV}(hg:bF gl σ.tm g= .func (.func gf) .nil cs){rh:II}{C:IC}(fJ:LY σ rh C cs=true)(hC:C.holds P gl)
 {wA wB:YC→St→(fE→St→Option (gk (Nat::il C.R [])))→Option (gk (Nat::il C.R []))}
 (hA:∀y σ1 k1 r1,wA y σ1 k1=some r1→cP P (gl.ru y.l) assign σ1 (fun e σ'=>k1 e σ'=some r1)) (hB:∀y σ1 k1 r1,wB y σ1 k1=some r1→cP P (gl.ru y.l) body σ1 (fun e σ'=>k1 e σ'=some r1))
 {R:Type} {k:fE→St→Option R} {r:R} (h:tL (fun y=>LZ σ y rh gf cs (C.NN y.l (NO y rh C ps σ (wA y) (wB y))) k)=some r):cP P gl (.rangeFunc g ps assign body) σ (fun e σ'=>k e σ'=some r):=by
 unfold LY at fJ
 simp only[aV,iC] at fJ
 obtain⟨⟨⟨⟨⟨⟨⟨⟨⟨c1,c2⟩,c3⟩,c4⟩,c5⟩,c6⟩,c7⟩,c8⟩,c9⟩,c10⟩:=fJ
 refine cP.rangeFunc hro hg rh.dI rh.lI C.k0 c1 c2 c3 c4 rh.ti rh.m c6 c7 c8 rh.jl c9 ?_
 intro y
 have hy:=Ei h y
 unfold LZ at hy
 split at hy
 case h_2=>cases hy
 rename_i L ins hL jG
 rcases zw hy with⟨hfn,hy⟩|hy
 case inr=>cases hy
 split at hy
 case h_2=>cases hy
 rename_i d hd
 rcases CF.zu hy with⟨q,hq,hy⟩|⟨x,hx,hy⟩
 case inr=>cases hy
 obtain⟨d1,d2⟩:=aW.eV hd
 unfold K5 at hy
 split at hy
 case h_2=>cases hy
 rename_i hr
 obtain⟨hcr,hy⟩:=bP hy
 simp only[aV] at hcr
 split at hy
 case h_2=>cases hy
 rename_i y' j hlp
 obtain⟨hv,hy⟩:=fy hy
 have hv:y'=y:=hv.1
 subst hv
 refine⟨j,_,L,ins,_,⟨hr,hL,jG,hcr.1,hcr.2,hlp,rfl⟩,?_,?_⟩
 ·intro B hB' hof
  have hh:=hC B hB' y'.l _ (L1 (wA:=wA y') (wB:=wB y') (hA y') (hB y') (by simp_all) c10 hof)
  have:=hh.ret d q hq
  rw[←hfn,d1,d2] at this
  rw[show(C.NN y'.l (NO y' rh C ps σ (wA y') (wB y'))).res q= .gk .nil from hr] at this
  trivial
 ·have:=IS (P:=P) (gl:=gl) hy
  grind
section
variable{P:Program} {G:bO} (T:bD P G) {I:List IC} {H:Hs} {Γ:List aW}
include T
theorem jS:∀{c:Code}{gl:Ctx}{fr:Bool}(_hΓ:∀C∈Γ,C.holds P gl)(_hro:fr=true→gl.ro=none)(_hI:fr=true→∀C∈I,C.holds P gl∧∀S w,gl.B S w){R:Type}{σ:St}{k:fE→St→Option R}{r:R},walk P G I H Γ c gl fr σ k=some r→cP P gl c σ (fun e σ'=>k e σ'=some r):=by
 intro c
 induction c with
 |skip=>intro gl fr hΓ hro hI R σ k r h;exact cP.skip h
 |label l=>intro gl fr hΓ hro hI R σ k r h;exact cP.label h
 |scope c ih=>intro gl fr hΓ hro hI R σ k r h;exact cP.scope (ih hΓ hro hI h)
 |exit i=>intro gl fr hΓ hro hI R σ k r h;exact cP.exit h
 |ret=>intro gl fr hΓ hro hI R σ k r h;exact cP.ret h
 |region id ops draw=>intro gl fr hΓ hro hI R σ k r h;exact Bu T hΓ hro h
 |
  seq x z ih1 ih2=>
  intro gl fr hΓ hro hI R σ k r h
  unfold walk at h
  split at h
  ·refine cP.seq (cP.mono (ih1 hΓ hro hI h) ?_)
   intro e σ' he
   cases e with
   |normal=>exact ih2 hΓ hro hI he
   |_=>exact he
  ·rename_i S hS
   unfold aG at h
   obtain⟨o,ho,h⟩:=bind_some h
   refine cP.seq (cP.mono (ih1 hΓ hro hI ho) ?_)
   intro e σ' he
   cases e with
   |
    normal=>
    obtain⟨d,hd,e⟩:=map_some he
    subst e
    exact cP.wk (SS.im hd) (ih2 hΓ hro hI h)
   |
    _=>
    obtain⟨d,hd,e⟩:=map_some he
    subst e
    cases h
    exact hd
 |
  cond c x z ih1 ih2=>
  intro gl fr hΓ hro hI R σ k r h
  unfold walk at h
  split at h
  ·rename_i b hb
   refine cP.cond hb (fun e=>ih1 hΓ hro hI ?_) (fun e=>ih2 hΓ hro hI ?_)<;>grind
  grind
 |
  block id c ih=>
  intro gl fr hΓ hro hI R σ k r h
  unfold walk at h
  split at h
  ·refine cP.block (cP.mono (ih hΓ hro hI h) ?_)
   intro e σ' he
   cases e with
   |
    exit i=>
    simp only[Yj] at he
    simp only[xe]
    split at he<;>simp_all
   |_=>exact he
  ·rename_i S hS
   unfold aG at h
   obtain⟨o,ho,h⟩:=bind_some h
   have fin:∀{σ':St},(S.rZ σ').map cQ.brk=some o→∃σ2,Wk gl σ' σ2∧k .normal σ2=some r:=by
    intro σ' he
    obtain⟨d,hd,e⟩:=map_some he
    grind [SS.im]
   have oth:∀{e:fE}{σ':St},(k e σ').map cQ.ret=some o→k e σ'=some r:=by
    intro e σ' he
    obtain⟨d,hd,e⟩:=map_some he
    grind
   refine cP.O9 (cP.block (cP.mono (ih hΓ hro hI ho) ?_))
   intro e σ' he
   cases e with
   |normal=>exact fin he
   |
    exit i=>
    simp only[Yi] at he
    simp only[xe]
    split at he
    ·rename_i hb;rw[aA (bR hb)];grind
    ·rename_i hb;rw[aC (fun e=>hb (by simp_all))];exact⟨σ',Wk.refl gl σ',oth he⟩
   |ret=>exact⟨σ',Wk.refl gl σ',oth he⟩
   |panic v=>exact oth he
 |
  loop c ih=>
  intro gl fr hΓ hro hI R σ k r h
  unfold walk at h
  split at h
  ·grind [Ge]
  ·split at h
   ·cases h
   ·split at h
    ·cases h
    ·rename_i u hu
     exact Gf (fun σ u=>SS.im) (fun h=>ih hΓ hro hI h) hu h
 |
  rangeFunc g ps assign body ih1 ih2=>
  intro gl fr hΓ hro hI R σ k r h
  unfold walk at h
  obtain⟨hfr,h⟩:=bP h
  split at h
  ·cases h
  ·rename_i rh hrh
   split at h
   case h_2=>cases h
   rename_i C u hC hu
   split at h
   ·rename_i gf cs hg
    obtain⟨fJ,h⟩:=bP h
    obtain⟨hC1,hB⟩:=hI hfr C (lP hC)
    have hA:∀(y:YC)(σ1:St) k1 r1,walk P G I H Γ assign (gl.ru y.l) false (R:=gk (Nat::il C.R [])) σ1 k1=some r1→cP P (gl.ru y.l) assign σ1 (fun e σ'=>k1 e σ'=some r1):=
     fun y σ1 k1 r1 h1=>@ih1 (gl.ru y.l) false (fun D hD=>(hΓ D hD).up rfl hB) (fun e=>(Bool.false_ne_true e).elim) (fun e=>(Bool.false_ne_true e).elim) _ _ _ _ h1
    have hB':∀(y:YC)(σ1:St) k1 r1,walk P G I H Γ body (gl.ru y.l) false (R:=gk (Nat::il C.R [])) σ1 k1=some r1→cP P (gl.ru y.l) body σ1 (fun e σ'=>k1 e σ'=some r1):=
     fun y σ1 k1 r1 h1=>@ih2 (gl.ru y.l) false (fun D hD=>(hΓ D hD).up rfl hB) (fun e=>(Bool.false_ne_true e).elim) (fun e=>(Bool.false_ne_true e).elim) _ _ _ _ h1
    exact cP.wk (SS.im hu) <| Pa (wA:=fun y σ1 k1=>walk P G I H Γ assign (gl.ru y.l) false σ1 k1) (wB:=fun y σ1 k1=>walk P G I H Γ body (gl.ru y.l) false σ1 k1) (hro hfr) hg fJ hC1 hA hB' h
   grind
 |_=>grind [walk]
end
end Go.Ax
namespace Go.Ax
def pick:List Nat→List (Option aN)→List (Nat×aN)
 |[],_=>[]
 |
  b::l,hp=>match hp[b]? with
  |some (some k)=>(b,k)::pick l hp
  |_=>pick l hp
theorem jy{hp:List (Option aN)}:∀{l:List Nat}{b:Nat}{k:aN},(b,k)∈pick l hp→hp[b]? =some (some k)
 |[],_,_,h=>by cases h
 |
  c::l,b,k,h=>by
  simp only[pick] at h
  split at h
  ·rename_i k' hk
   rcases List.mem_cons.1 h with h|h
   ·cases h;exact hk
   ·exact jy h
  ·exact jy h
def aF(G:bO)(rs:List ResultVar)(j6:FuncId)(A:List Sh)(B:List (Nat×fK))(m:Nat)(F:SS)(ob:List Nat)(f:CF (prod (rq A (il B []))) F.T):aW:=
 ⟨.func j6,A,B,m,F,fun r=>(iS G rs (F.st y0 r)).getD .bot,fun r=>pick ob (F.st y0 r).hp,f⟩
def L2(F:SS):fE→St→Option F.T
 | .ret,σ=>F.rZ σ
 | .normal,σ=>F.rZ σ
 |_,_=>none
def Bv(σ:St):Option St:=
 match marks σ.df σ.hp with
 |some hp=>some ⟨σ.tm,hp,[]⟩
 |none=>none
def Bw(F:SS):fE→St→Option F.T
 |
  .ret,σ=>match Bv σ with
  |some σ=>F.rZ σ
  |none=>none
 |
  .normal,σ=>match Bv σ with
  |some σ=>F.rZ σ
  |none=>none
 |_,_=>none
def lL(nt m:Nat)(args:List AV)(ins:List (Nat×Option aN)):St:=⟨args++List.replicate (nt -args.length) .bot,aQ (List.replicate m none) ins,[]⟩
def Gj{α:Type}:Option α→Bool
 |some _=>true
 |none=>false
theorem mb{x:Option AV}(h:Gj x=true):x=some (x.getD .bot):=by
 cases x with
 |none=>cases h
 |some y=>rfl
theorem sc{gl:Ctx}{F:SS}{e:fE}{σ:St}{r:F.T}(h:Bw F e σ=some r):(e= .ret∨e= .normal)∧∃σ1,Bv σ=some σ1∧Wk gl σ1 (F.st y0 r):=by
 cases e with
 |
  ret=>
  simp only[Bw] at h
  split at h
  ·simp_all[SS.im]
  grind
 |
  normal=>
  simp only[Bw] at h
  split at h
  ·simp_all[SS.im]
  grind
 |_=>trivial
theorem rm.xu{P:Program}{G:bO}(T:bD P G){gl:Ctx}{f:FuncId}{fn:Func}{c:Code}(hf:P.funcs[f]? =some fn)(hb:fn.body=some c)(hro:gl.ro=none){args:List AV}{ins:List (Nat×Option aN)}{m:Nat}{x:AV}{out:List (Nat×aN)}{σe:St}
 (h:cP P gl c (lL fn.ntmps m args ins) (fun e σ=>(e= .ret∨e= .normal)∧∃σ1,Bv σ=some σ1∧Wk gl σ1 σe)) (_hd:σe.df= []) (adm:iS G fn.results.toList σe=some x) (hout:∀b k,(b,k)∈out→σe.hp[b]? =some (some k)):
 rm P gl f args (aQ (List.replicate m none) ins) (.ret x) (db m out):=by
 intro E w vs hv hw
 obtain⟨hl,ac2⟩:=hv.get
 refine CallsIn.calls (F:=Wd gl) (n:=0) (callsIn_of_wp_marks hf hb trivial ?_ hro) (fun k d hd=>by cases hd)
 have hg:bW gl (lL fn.ntmps m args ins) E {tmps:=vs.toArray++Array.replicate (fn.ntmps -vs.toArray.size) undef,defers:=[]} w:=by
  refine⟨?_,?_,hw,trivial⟩
  ·grind [lL]
  ·intro i x hx v hv'
   simp only[lL] at hx
   rw[Array.getElem?_append] at hv'
   simp only[List.getElem?_append] at hx
   split at hx
   ·grind
   ·rw[List.getElem?_replicate] at hx
    split at hx
    ·cases hx;trivial
    grind
 refine wpIn_mono (h E _ w hg) ?_
 rintro ex a' w' ⟨e,σ',E',h1,⟨he,σ1,ho,hwk⟩,h3,h4⟩
 have main:LeavesInM (Wd gl) 0 P fn a'.tmps (fun e w'=>∃E',uH E' w' (.ret x) e∧HW gl E' w' (db m out)∧Ext gl.md (Own (aQ (List.replicate m none) ins) E) E w (Own (db m out) E') E' w') a'.defers .returning w':=by
  unfold Bv at ho
  split at ho
  ·rename_i hp1 hm
   cases ho
   refine Dj σ'.df h3 hm (fun w3 k1 k2=>?_)
   obtain⟨E2,g2,x2⟩:=hwk E' _ w3 k1
   obtain⟨v,k3,k4⟩:=oG T g2 adm
   have hw2:HW gl E2 w3 (db m out):=g2.hw.less (fun b k hb=>hout b k (eM hb))
   have hx:Ext gl.md (Own (aQ (List.replicate m none) ins) E) E w (Own (db m out) E2) E2 w3:=
    {(h4.trans k2).trans x2 with own:=fun g ⟨b,k,hb,hgb⟩=>((h4.trans k2).trans x2).own g ⟨b,k,hout b k (eM hb),hgb⟩}
   exact⟨v,k3,E2,k4,hw2,hx⟩
  grind
 rcases he with rfl|rfl
 ·cases ex with
  |ret=>trivial
  |_=>trivial
 ·cases ex with
  |normal=>trivial
  |_=>trivial
theorem aW.of{P:Program}{G:bO}(T:bD P G){gl:Ctx}{I:List IC}{H:Hs}{Γ:List aW}(hΓ:∀C∈Γ,C.holds P gl)(hI:∀C∈I,C.holds P gl∧∀S w,gl.B S w)(hro:gl.ro=none){rs:List ResultVar}{j6:FuncId}{A:List Sh}{B:List (Nat×fK)}{m nt:Nat}{F:SS}{ob:List Nat}{f:prod (rq A (il B []))→Option F.T}
 {fn:Func} {c:Code} (ac3:∀vs w,(callFunc j6 vs).run P w= .ok (.enter j6 vs) w) (hf:P.funcs[j6]? =some fn) (hb:fn.body=some c) (hrs:fn.results.toList=rs) (hnt:fn.ntmps=nt) (hF:F.df= [])
 (adm:∀r:F.T,Gj (iS G rs (F.st y0 r))=true)
 (h:∀d,f d=walk P G I H Γ c gl true (lL nt m (xi y0 A d) (cZ (nr y0 B (xj A d)))) (Bw F)):
 (aF G rs j6 A B m F ob (.bE f)).holds P gl:=by
 refine⟨?_,fun _ _ h=>h.elim⟩
 intro d r hd
 have hd':f d=some r:=hd
 rw[h d] at hd'
 refine⟨ac3,?_⟩
 have acV:=jS T hΓ (fun _=>hro) (fun _=>hI) hd'
 subst hnt
 refine rm.xu T hf hb hro (σe:=F.st y0 r) (cP.mono acV ?_) ?_ ?_ ?_
 ·intro e σ he
  exact sc he
 ·show(F.st y0 r).df= []
  simp only[SS.st,SS.lL]
  obtain⟨nt',nh,tm,hp,df⟩:=F
  simp only at hF
  subst hF
  rfl
 ·rw[hrs];exact mb (adm r)
 ·intro b k hbk;exact jy hbk
def tR(s:Sh)(F:SS):fE→St→Option (Sum (prod (s.H [])) F.T)
 |
  .ret,σ=>match Bv σ with
  |some σ=>(F.rZ σ).map .inr
  |none=>none
 |
  .normal,σ=>match Bv σ with
  |some σ=>(F.rZ σ).map .inr
  |none=>none
 |
  .panic v,σ=>match σ.df with
  |[]=>(s.G (l:=[]) v ()).map .inl
  |_=>none
 |_,_=>none
theorem rm.Gk{P:Program}{gl:Ctx}{f:FuncId}{fn:Func}{c:Code}(hf:P.funcs[f]? =some fn)(hb:fn.body=some c)(hro:gl.ro=none){args:List AV}{ins:List (Nat×Option aN)}{m:Nat}{x:AV}
 (h:cP P gl c (lL fn.ntmps m args ins) (fun e σ=>e= .panic x∧σ.df= [])):
 rm P gl f args (aQ (List.replicate m none) ins) (.j8 x) (db m []):=by
 intro E w vs hv hw
 obtain⟨hl,ac2⟩:=hv.get
 refine CallsIn.calls (F:=Wd gl) (n:=0) (callsIn_of_wp hf hb trivial ?_ hro) (fun k d hd=>by cases hd)
 have hg:bW gl (lL fn.ntmps m args ins) E {tmps:=vs.toArray++Array.replicate (fn.ntmps -vs.toArray.size) undef,defers:=[]} w:=by
  refine⟨?_,?_,hw,trivial⟩
  ·grind [lL]
  ·intro i x hx v hv'
   simp only[lL] at hx
   rw[Array.getElem?_append] at hv'
   simp only[List.getElem?_append] at hx
   split at hx
   ·grind
   ·rw[List.getElem?_replicate] at hx
    split at hx
    ·cases hx;trivial
    grind
 refine wpIn_mono (h E _ w hg) ?_
 rintro ex a' w' ⟨e,σ',E',h1,⟨rfl,hd⟩,h3,h4⟩
 have hdf:a'.defers= []:=by
  have:=h3.df
  rw[hd] at this
  cases hds:a'.defers with
  |nil=>rfl
  |cons d l=>rw[hds] at this;trivial
 have hw2:HW gl E' w' (db m []):=h3.hw.less (fun b k hb=>absurd (eM hb) (by simp))
 have hx:Ext gl.md (Own (aQ (List.replicate m none) ins) E) E w (Own (db m []) E') E' w':=
  {h4 with own:=fun g ⟨b,k,hb,hgb⟩=>absurd (eM hb) (by simp)}
 cases ex with
 |panic ch=>exact⟨hdf,E',h1,hw2,hx⟩
 |_=>trivial
theorem aW.ED{P:Program}{G:bO}(T:bD P G){gl:Ctx}{I:List IC}{H:Hs}{Γ:List aW}(hΓ:∀C∈Γ,C.holds P gl)(hI:∀C∈I,C.holds P gl∧∀S w,gl.B S w)(hro:gl.ro=none){rs:List ResultVar}{j6:FuncId}{A:List Sh}{B:List (Nat×fK)}{m nt:Nat}{s:Sh}{F:SS}{ob:List Nat}{f:prod (rq A (il B []))→Option (Sum (prod (s.H [])) F.T)}
 {fn:Func} {c:Code} (ac3:∀vs w,(callFunc j6 vs).run P w= .ok (.enter j6 vs) w) (hf:P.funcs[j6]? =some fn) (hb:fn.body=some c) (hrs:fn.results.toList=rs) (hnt:fn.ntmps=nt) (hF:F.df= [])
 (adm:∀r:F.T,Gj (iS G rs (F.st y0 r))=true)
 (h:∀d,f d=walk P G I H Γ c gl true (lL nt m (xi y0 A d) (cZ (nr y0 B (xj A d)))) (tR s F)):
 (aF G rs j6 A B m F ob (.j8 s f)).holds P gl:=by
 refine⟨?_,?_⟩
 ·intro d r hd
  have hd':f d=some (.inr r):=hd
  rw[h d] at hd'
  refine⟨ac3,?_⟩
  have acV:=jS T hΓ (fun _=>hro) (fun _=>hI) hd'
  subst hnt
  refine rm.xu T hf hb hro (σe:=F.st y0 r) (cP.mono acV ?_) ?_ ?_ ?_
  ·intro e σ he
   cases e with
   |
    ret=>
    simp only[tR] at he
    split at he
    ·rename_i σ1 h1
     obtain⟨y,hy,e⟩:=map_some he
     cases e
     exact⟨Or.inl rfl,σ1,h1,SS.im hy⟩
    grind
   |
    normal=>
    simp only[tR] at he
    split at he
    ·rename_i σ1 h1
     obtain⟨y,hy,e⟩:=map_some he
     cases e
     exact⟨Or.inr rfl,σ1,h1,SS.im hy⟩
    grind
   |
    panic v=>
    simp only[tR] at he
    split at he<;>simp_all
   |exit i=>trivial
  ·show(F.st y0 r).df= []
   simp only[SS.st,SS.lL]
   obtain⟨nt',nh,tm,hp,df⟩:=F
   simp only at hF
   subst hF
   rfl
  ·rw[hrs];exact mb (adm r)
  ·intro b k hbk;exact jy hbk
 ·rintro d x ⟨p,hd,rfl⟩
  have hd':f d=some (.inl p):=hd
  rw[h d] at hd'
  refine⟨ac3,?_⟩
  have acV:=jS T hΓ (fun _=>hro) (fun _=>hI) hd'
  subst hnt
  refine rm.Gk hf hb hro (cP.mono acV ?_)
  intro e σ he
  cases e with
  |
   ret=>
   simp only[tR] at he
   split at he<;>simp_all
  |
   normal=>
   simp only[tR] at he
   split at he<;>simp_all
  |
   panic v=>
   simp only[tR] at he
   split at he
   ·rename_i hdf
    obtain⟨y,hy,e⟩:=map_some he
    grind [Sh.uL]
   grind
  |exit i=>trivial
theorem aW.Pb{P:Program}{gl:Ctx}{G:bO}{rs:List ResultVar}{j6:FuncId}{A:List Sh}{B:List (Nat×fK)}{m:Nat}{F:SS}{ob:List Nat}:(aF G rs j6 A B m F ob (.bE fun _=>none)).holds P gl:=
 ⟨fun _ _ h=>(by trivial),fun _ _ h=>h.elim⟩
theorem aW.sub{P:Program}{gl:Ctx}{G:bO}{rs:List ResultVar}{j6:FuncId}{A:List Sh}{B:List (Nat×fK)}{m:Nat}{F:SS}{ob:List Nat}{f g:prod (rq A (il B []))→Option F.T}(h:(aF G rs j6 A B m F ob (.bE f)).holds P gl)(hs:∀d r,g d=some r→f d=some r):(aF G rs j6 A B m F ob (.bE g)).holds P gl:=
 ⟨fun d r hd=>h.ret d r (hs d r hd),fun _ _ h=>h.elim⟩
def K8(P:Program)(gl:Ctx):List aW→Prop
 |[]=>True
 |C::l=>C.holds P gl∧K8 P gl l
theorem hold{P:Program}{gl:Ctx}:∀{l:List aW},K8 P gl l→∀C∈l,C.holds P gl
 |[],_,C,h=>by cases h
 |
  D::l,h,C,hC=>by
  rcases List.mem_cons.1 hC with rfl|hC
  ·exact h.1
  ·exact hold h.2 C hC
def K9(P:Program)(gl:Ctx):List IC→Prop
 |[]=>True
 |C::l=>C.holds P gl∧K9 P gl l
theorem vN{P:Program}{l:List DW}:∀{L:List IC},K9 P (Ctx.of l) L→∀C∈L,C.holds P (Ctx.of l)∧∀S w,(Ctx.of l).B S w
 |[],_,C,h=>by cases h
 |
  D::L,h,C,hC=>by
  rcases List.mem_cons.1 hC with rfl|hC
  ·exact⟨h.1,fun _ _=>trivial⟩
  ·exact vN h.2 C hC
theorem aI{P:Program}{gl:Ctx}:∀C∈([]:List IC),C.holds P gl∧∀S w,gl.B S w:=fun C h=>by cases h
end Go.Ax
namespace Go.Ax
def vO(pm:Bool)(u:Value):FrameMode:=if pm then .panicking [{v:=u,recovered:=false}] else .returning
def mc(pm:Bool)(u:Value):FrameMode:=if pm then .panicking [{v:=u,recovered:=true}] else .returning
def L4(P:Program)(gl:Ctx)(f:FuncId)(pm:Bool)(x:AV)(args:List AV)(H H':List (Option aN)):Prop:=
 (∀vs w,(callFunc f vs).run P w= .ok (.enter f vs) w)∧∀E w vs u,ko E w args vs→cC E w x u→(pm=false→u= .nilIface)→HW gl E w H→
  CallsDIn (Wd gl) 0 P f vs.toArray (vO pm u) w fun e m w'=>m=mc pm u∧(∃v,e= .returned v)∧∃E',HW gl E' w' H'∧Ext gl.md (Own H E) E w (Own H' E') E' w'
theorem L4.L5{P:Program}{G:bO}(T:bD P G){gl:Ctx}{f:FuncId}{pm:Bool}{x:AV}{fn:Func}{ops:Array Oper}{rid:Nat}{rest:Code}{t5 t2:Nat}{ts:Array TypeId}{o0 o1:Oper}(hcf:∀vs w,(callFunc f vs).run P w= .ok (.enter f vs) w)(hf:P.funcs[f]? =some fn)
 (hb:fn.body=some (.seq (.region rid ops false) rest)) (hro:gl.ro=none) (hops:ops= #[o0,o1]) (h0:o0.op= .call {callee:=.builtin .recover,args:= #[],argTypes:=ts}) (h0d:o0.dst=some t5) (h0g:o0.guard=none)
 (h1:o1.op= .assign (.tmp t5)) (h1d:o1.dst=some t2) (h1g:o1.guard=none) {args:List AV} {ins:List (Nat×Option aN)} {m:Nat} {out:List (Nat×aN)} {σe:St} {r:AV} (ht5:Nat.blt t5 fn.ntmps=true)
 (h:cP P gl rest (((lL fn.ntmps m args ins).put (some t5) x).put (some t2) x) (fun e σ=>(e= .ret∨e= .normal)∧Wk gl σ σe)) (hd:σe.df= []) (adm:iS G fn.results.toList σe=some r) (hout:∀b k,(b,k)∈out→σe.hp[b]? =some (some k)):
 L4 P gl f pm x args (aQ (List.replicate m none) ins) (db m out):=by
 refine⟨hcf,?_⟩
 intro E w vs u hv hx hpm hw
 obtain⟨hl,ac2⟩:=hv.get
 refine callsDIn_of_wpSIn hf hb trivial ?_
 intro c0 cs hm
 have hg:bW gl (lL fn.ntmps m args ins) E {tmps:=vs.toArray++Array.replicate (fn.ntmps -vs.toArray.size) undef,defers:=[]} w:=by
  refine⟨?_,?_,hw,trivial⟩
  ·grind [lL]
  ·intro i x hx v hv'
   simp only[lL] at hx
   rw[Array.getElem?_append] at hv'
   simp only[List.getElem?_append] at hx
   split at hx
   ·grind
   ·rw[List.getElem?_replicate] at hx
    split at hx
    ·cases hx;trivial
    grind
 refine wpSIn_seq (wpSIn_region ?_)
 subst hops
 show wpOpsSIn _ _ _ _ _ [0,1] _ _ _
 have w0:∀y,Region.wanted o0 y=true:=by intro y;simp[Region.wanted,h0g]
 have w1:∀y,Region.wanted o1 y=true:=by intro y;simp[Region.wanted,h1g]
 have x0:∀ρ:Operand→Value,(execOp ρ o0).run P w= .ok .recover w:=by
  simp_all[execOp,resolve,invoke,builtin]
 have ei0:(#[o0,o1]:Array Oper)[0]? =some o0:=rfl
 have ei1:(#[o0,o1]:Array Oper)[1]? =some o1:=rfl
 have hu:RV E w x u:=RV.dK hx
 have hg1:=hg.put (some t5) hu
 have hlt:t5<fn.ntmps:=by simp_all
 have hev:((({tmps:=vs.toArray++Array.replicate (fn.ntmps -vs.toArray.size) undef,defers:=[]}:Act).put o0.dst u).eval (.tmp t5))=u:=by
  rw[h0d]
  have hsz:t5<(vs.toArray++Array.replicate (fn.ntmps -vs.toArray.size) undef).size:=by
   grind
  simp_all[Act.put,Act.eval]
 have x1:(execOp (({tmps:=vs.toArray++Array.replicate (fn.ntmps -vs.toArray.size) undef,defers:=[]}:Act).put o0.dst u).eval o1).run P w= .ok (.value u) w:=by
  simp_all[execOp]
 have hg2:=hg1.put (some t2) hu
 suffices hfin:rest.wpSIn (Wd gl) 0 P (bodyPostS P fn c0 cs fun e m_1 w'=>m_1=mc pm u∧(∃v,e= .returned v)∧∃E',HW gl E' w' (db m out)∧Ext gl.md (Own (aQ (List.replicate m none) ins) E) E w (Own (db m out) E') E' w')
  ((({tmps:=vs.toArray++Array.replicate (fn.ntmps -vs.toArray.size) undef,defers:=[]}:Act).put o0.dst u).put o1.dst u) ({c0 with mode:=mc pm u}::cs) w by
  cases pm with
  |
   true=>
   have hrc:recoverD (c0::cs)=some (u,{c0 with mode:=mc true u}::cs):=by
    simp_all[vO,mc,recoverD]
   simp only[wpOpsSIn,ei0,ei1,w0,w1,bH,x0,hrc]
   refine⟨fun _ _=>trivial,fun _ _=>trivial,?_⟩
   rw[x1]
   trivial
  |
   false=>
   have hu0:=hpm rfl
   subst hu0
   have hrc:recoverD (c0::cs)=none:=by
    simp_all[vO,recoverD]
   have hcc:({c0 with mode:=mc false .nilIface}:Frame)=c0:=by
    simp only[vO,mc,cJ,bY] at hm ⊢
    rw[←hm]
   rw[hcc] at hfin
   simp only[wpOpsSIn,ei0,ei1,w0,w1,bH,x0,hrc]
   refine⟨fun _ _=>trivial,fun _ _=>trivial,?_⟩
   rw[x1]
   trivial
 rw[h0d,h1d]
 refine wpSIn_of_wpIn (F:=Wd gl) hro (wpIn_mono (h E _ w hg2) ?_)
 rintro ex a' w' ⟨e,σ',E',q1,⟨he,hwk⟩,q3,q4⟩
 obtain⟨E2,g2,x2⟩:=hwk E' a' w' q3
 obtain⟨v,k1,k2⟩:=oG T g2 adm
 have hdf:a'.defers= []:=by
  have:=g2.df
  rw[hd] at this
  cases hds:a'.defers with
  |nil=>rfl
  |cons d l=>rw[hds] at this;trivial
 have hw2:HW gl E2 w' (db m out):=g2.hw.less (fun b k hb=>hout b k (eM hb))
 have hxx:Ext gl.md (Own (aQ (List.replicate m none) ins) E) E w (Own (db m out) E2) E2 w':=by
  have q4':Ext gl.md (Own (aQ (List.replicate m none) ins) E) E w (Own σ'.hp E') E' w':=q4
  exact{q4'.trans x2 with own:=fun g ⟨b,k,hb,hgb⟩=>(q4'.trans x2).own g ⟨b,k,hout b k (eM hb),hgb⟩}
 rcases he with rfl|rfl
 ·cases ex with
  |ret=>exact⟨hdf,mc pm u,rfl,v,k1,rfl,⟨v,rfl⟩,E2,hw2,hxx⟩
  |_=>trivial
 ·cases ex with
  |normal=>exact⟨hdf,mc pm u,rfl,v,k1,rfl,⟨v,rfl⟩,E2,hw2,hxx⟩
  |_=>trivial
structure fU where
 j6:FuncId
 A:List Sh
 B:List (Nat×fK)
 m:Nat
 s:Sh
 F:SS
 out:F.T→List (Nat×aN)
 n:prod (rq A (il B []))→Option F.T
 p:prod (rq A (il B []))→prod (s.H [])→Option F.T
abbrev fU.D(C:fU):Type:=prod (rq C.A (il C.B []))
def fU.args(C:fU)(d:C.D):List AV:=xi y0 C.A d
def fU.ins(C:fU)(d:C.D):List (Nat×Option aN):=cZ (nr y0 C.B (xj C.A d))
structure fU.holds(P:Program)(gl:Ctx)(C:fU):Prop where
 n:∀d r,C.n d=some r→L4 P gl C.j6 false .hJ (C.args d) (aQ (List.replicate C.m none) (C.ins d)) (db C.m (C.out r))
 p:∀d q r,C.p d q=some r→L4 P gl C.j6 true (C.s.V y0 q) (C.args d) (aQ (List.replicate C.m none) (C.ins d)) (db C.m (C.out r))
def fU.get(C:fU)(L:List AV)(I:List (Nat×Option aN)):Option C.D:=
 match IH C.B (l:=[]) I () with
 |some d=>LO C.A L d
 |none=>none
theorem fU.eV{C:fU}{L:List AV}{I:List (Nat×Option aN)}{d:C.D}(h:C.get L I=some d):C.args d=L∧C.ins d=I:=by
 unfold fU.get at h
 split at h
 ·rename_i d1 h1
  obtain⟨a1,a2⟩:=xo y0 h1
  obtain⟨b1,b2⟩:=xl y0 h
  exact⟨b1,by unfold fU.ins;grind⟩
 grind
section
variable{P:Program} {G:bO} (T:bD P G) {gl:Ctx} {H:Hs} {Γ:List aW} (hΓ:∀C∈Γ,C.holds P gl) (hro:gl.ro=none) {rs:List ResultVar} {j6:FuncId} {A:List Sh} {B:List (Nat×fK)} {m nt:Nat} {s:Sh} {F:SS} {ob:List Nat}
 {n:prod (rq A (il B []))→Option F.T} {p:prod (rq A (il B []))→prod (s.H [])→Option F.T} {fn:Func} {ops:Array Oper} {rid:Nat} {rest:Code} {t5 t2:Nat} {ts:Array TypeId} {o0 o1:Oper}
 (ac3:∀vs w,(callFunc j6 vs).run P w= .ok (.enter j6 vs) w) (hf:P.funcs[j6]? =some fn) (hb:fn.body=some (.seq (.region rid ops false) rest)) (hrs:fn.results.toList=rs) (hnt:fn.ntmps=nt)
 (hops:ops= #[o0,o1]) (h0:o0.op= .call {callee:=.builtin .recover,args:= #[],argTypes:=ts}) (h0d:o0.dst=some t5) (h0g:o0.guard=none) (h1:o1.op= .assign (.tmp t5)) (h1d:o1.dst=some t2) (h1g:o1.guard=none) (ht5:Nat.blt t5 nt=true)
 (hF:F.df= []) (adm:∀r:F.T,Gj (iS G rs (F.st y0 r))=true)
include T hΓ hro ac3 hf hb hrs hnt hops h0 h0d h0g h1 h1d h1g ht5 hF adm
theorem fU.Yk{pm:Bool}{x:AV}{args:List AV}{ins:List (Nat×Option aN)}{r:F.T}(hw:walk P G [] H Γ rest gl true (((lL nt m args ins).put (some t5) x).put (some t2) x) (L2 F)=some r):
 L4 P gl j6 pm x args (aQ (List.replicate m none) ins) (db m (pick ob (F.st y0 r).hp)):=by
 have hdf:(F.st y0 r).df= []:=by
  simp only[SS.st,SS.lL]
  obtain⟨nt',nh,tm,hp,df⟩:=F
  simp only at hF
  subst hF
  rfl
 subst hnt
 refine L4.L5 T ac3 hf hb hro hops h0 h0d h0g h1 h1d h1g ht5 (cP.mono (jS T hΓ (fun _=>hro) (fun _=>aI) hw) ?_) hdf (by rw[hrs];exact mb (adm r)) (fun b k hbk=>jy hbk)
 intro e σ he
 cases e with
 |ret=>exact⟨Or.inl rfl,SS.im he⟩
 |normal=>exact⟨Or.inr rfl,SS.im he⟩
 |_=>trivial
theorem fU.ofN(hn:∀d,n d=walk P G [] H Γ rest gl true (((lL nt m (xi y0 A d) (cZ (nr y0 B (xj A d)))).put (some t5) .hJ).put (some t2) .hJ) (L2 F)):
 (⟨j6,A,B,m,s,F,fun r=>pick ob (F.st y0 r).hp,n,fun _ _=>none⟩:fU).holds P gl:=by
 refine⟨?_,fun _ _ r h=>no (e:=r) h⟩
 intro d r hd
 have hd':n d=some r:=hd
 rw[hn d] at hd'
 exact fU.Yk T hΓ hro ac3 hf hb hrs hnt hops h0 h0d h0g h1 h1d h1g ht5 hF adm hd'
theorem fU.ED(hp:∀d q,p d q=walk P G [] H Γ rest gl true (((lL nt m (xi y0 A d) (cZ (nr y0 B (xj A d)))).put (some t5) (s.V y0 q)).put (some t2) (s.V y0 q)) (L2 F)):
 (⟨j6,A,B,m,s,F,fun r=>pick ob (F.st y0 r).hp,fun _=>none,p⟩:fU).holds P gl:=by
 refine⟨fun _ r h=>no (e:=r) h,?_⟩
 intro d q r hd
 have hd':p d q=some r:=hd
 rw[hp d q] at hd'
 exact fU.Yk T hΓ hro ac3 hf hb hrs hnt hops h0 h0d h0g h1 h1d h1g ht5 hF adm hd'
end
def Du:List Nat→List (Option aN)→List (Option aN)
 |[],hp=>hp
 |
  b::l,hp=>Du l (match hp[b]? with
  |some (some (.var t _))=>hp.set b (some (.var t (.eU t)))
  |_=>hp)
theorem Wk.eU{gl:Ctx}:∀{l:List Nat}{σ:St},Wk gl σ {σ with hp:=Du l σ.hp}
 |[],σ=>Wk.refl gl σ
 |
  b::l,σ=>by
  unfold Du
  split
  ·rename_i t v hb
   have h1:Wk gl σ {σ with hp:=σ.hp.set b (some (.var t (.eU t)))}:=by
    intro E a w h
    obtain⟨h1,h2,g,c,e,h3,h4,h5⟩:=h.hw.cE b _ hb
    have hlen:=RC.len h5
    have hw:=h.hw.write (w':=w) (k':=.var t (.eU t)) hb rfl (fun _ _=>rfl) ⟨h1,Ty.cU t,g,c,e,h3,h4,⟨by rw[hlen];exact AV.dJ h2,RC.one h5⟩⟩
    refine⟨E,⟨h.len,h.tm,hw,h.df⟩,{Ext.refl (Own σ.hp E) E w with own:=?_ }⟩
    grind [Own.set]
   exact h1.trans (Wk.eU (l:=l) (σ:={σ with hp:=σ.hp.set b (some (.var t (.eU t)))}))
  ·exact Wk.eU (l:=l) (σ:=σ)
def Gl(C:fU)(ps:List (Nat×Nat))(F:SS)(h:C.D→Option C.F.T)(σ:St):Option F.T:=
 match σ.df with
 |
  [.func (.func fd) .nil cs]=>match lA (swp ps) (ep σ.hp) (cs.toList.map (fun x=>(x,Ty.unit))),iM (swp ps) (ep σ.hp) ps with
  |
   some (L,lent),some ins=>if Nat.beq fd C.j6&&cs.atoms then(match C.get L ins with
   |some d=>Option.bind (h d) fun r=>if yo ⟨.bot,ps,[],C.out r,C.m,false,[],[]⟩ lent then F.rZ {σ with hp:=aQ σ.hp (lK ps (C.out r) ps),df:=[]} else none
   |none=>none) else none
  |_,_=>none
 |_=>none
def La(C:fU)(ps:List (Nat×Nat))(D:fU)(qs:List (Nat×Nat))(jk:List Nat)(F:SS):fE→St→Option F.T
 |
  .ret,σ| .normal,σ=>match σ.df with
  |[]=>F.rZ σ
  |_=>Gl C ps F C.n σ
 |
  .panic v,σ=>match v.ids,D.s.G (l:=[]) v () with
  |[],some q=>Gl D qs F (fun d=>D.p d q) {σ with hp:=Du jk σ.hp}
  |_,_=>none
 |_,_=>none
theorem Dv{P:Program}{G:bO}(T:bD P G){gl:Ctx}{C:fU}{ps:List (Nat×Nat)}{F:SS}{h:C.D→Option C.F.T}{σ:St}{r:F.T}(hr:Gl C ps F h σ=some r){pm:Bool}{x:AV}(hx:x.ids= [])
 (hC:∀d y,h d=some y→L4 P gl C.j6 pm x (C.args d) (aQ (List.replicate C.m none) (C.ins d)) (db C.m (C.out y))) {fn:Func} {z:AV} (hF:F.df= []) (adm:iS G fn.results.toList (F.st y0 r)=some z) {out:List (Nat×aN)} (hout:∀b k,(b,k)∈out→(F.st y0 r).hp[b]? =some (some k)) {m:Nat}
 {E:Env} {a:Act} {w:World} (hg:bW gl σ E a w) {u:Value} (hu:cC E w x u) (hpm:pm=false→u= .nilIface) {O:Nat→Prop} {E0:Env} {w0:World} (hX0:Ext gl.md O E0 w0 (Own σ.hp E) E w):
 LeavesIn (Wd gl) 0 P fn a.tmps (fun e w'=>∃E',uH E' w' (.ret z) e∧HW gl E' w' (db m out)∧Ext gl.md O E0 w0 (Own (db m out) E') E' w') a.defers (vO pm u) w:=by
 have hdfF:(F.st y0 r).df= []:=by
  simp only[SS.st,SS.lL]
  obtain⟨nt',nh,tm,hp,df⟩:=F
  simp only at hF
  subst hF
  rfl
 unfold Gl at hr
 split at hr
 ·rename_i fd cs hdf
  split at hr
  ·rename_i L lent ins hL jG
   obtain⟨hc,hr1⟩:=bP hr
   clear hr
   simp only[aV] at hc
   obtain⟨hfd,hca⟩:=hc
   have hfd:=bR hfd
   subst hfd
   split at hr1
   ·rename_i d hd
    obtain⟨y,hy,hr2⟩:=bind_some hr1
    obtain⟨fJ,hr3⟩:=bP hr2
    obtain⟨e1,e2⟩:=fU.eV hd
    obtain⟨hcf,hM⟩:=hC d y hy
    rw[e1,e2] at hM
    have gdf:=hg.df
    rw[hdf] at gdf
    cases hads:a.defers with
    |nil=>rw[hads] at gdf;trivial
    |
     cons dd ds=>
     rw[hads] at gdf
     obtain⟨⟨f',c',ed,q1,q2,_,_⟩,hrest⟩:=gdf
     have hds:ds= []:=by
      cases ds with
      |nil=>rfl
      |cons _ _=>trivial
     subst hds
     have hf':f'= #[]:=by apply lk;trivial
     subst hf'
     subst ed
     have hB:=cn σ.hp
     have hlent:=lg hL
     obtain⟨hφ,hw1⟩:=su (cr:=⟨.bot,ps,[],C.out y,C.m,false,[],[]⟩) hg hB hlent jG fJ
     have hmap:(cs.toList.map (fun x=>(x,Ty.unit))).map (·.1)=cs.toList:=by
      simp[List.map_map,Function.comp_def]
     have hvv:=mn hg.hw hB hφ hL (fun g hg=>hg) (by rw[hmap];exact ko.atoms hca q2)
     have hu':cC (E.to ps (E.cN lent).S) w x u:=cC.mono (E:=E) ⟨fun _ _=>rfl,fun _ h=>Or.inl h⟩ (fun b hb=>by grind) hu
     have ac3:=hM _ w _ u hvv hu' hpm hw1
     refine leavesIn_cons (F:=Wd gl) (by unfold vO;split<;>simp) (fun h=>by cases h) (args:=c'.toList.toArray) ?_ (fun _ _=>trivial) (CallsDIn.mono ac3 ?_)
     ·simp_all[invoke]
     ·rintro e u1 w2 ⟨rfl,⟨v,rfl⟩,E2,hW2,hX2⟩
      obtain⟨E3,g3,_,x3⟩:=kD (cr:=⟨.bot,ps,[],C.out y,C.m,false,[],[]⟩) hg hB hlent jG fJ (fun b hb=>by grind) hW2 hX2 (v:=v) (r':=.bot) rfl trivial
      simp only[gI] at g3 x3
      have g4:bW gl {σ with hp:=aQ σ.hp (lK ps (C.out y) ps),df:=[]} E3 {a with defers:=[]} w2:=⟨g3.len,g3.tm,g3.hw,trivial⟩
      obtain⟨E5,g5,x5⟩:=SS.im (gl:=gl) hr3 E3 _ w2 g4
      obtain⟨v2,k1,k2⟩:=oG T g5 adm
      have aQ:settle (mc pm u)= .returning:=by
       unfold mc
       cases pm<;>simp[settle]
      show LeavesIn _ _ _ _ _ _ _ _ _
      rw[aQ]
      have hw5:HW gl E5 w2 (db m out):=g5.hw.less (fun b k hb=>hout b k (eM hb))
      have X5:=(hX0.trans x3).trans x5
      exact⟨v2,k1,E5,k2,hw5,{X5 with own:=fun g ⟨b,k,hb,hgb⟩=>X5.own g ⟨b,k,hout b k (eM hb),hgb⟩}⟩
   grind
  grind
 grind
theorem aW.ofD{P:Program}{G:bO}(T:bD P G){gl:Ctx}{H:Hs}{Γ:List aW}(hΓ:∀C∈Γ,C.holds P gl){C:fU}(hC:C.holds P gl){ps:List (Nat×Nat)}{D:fU}(hD:D.holds P gl){qs:List (Nat×Nat)}{jk:List Nat}(hro:gl.ro=none){rs:List ResultVar}{j6:FuncId}{A:List Sh}{B:List (Nat×fK)}{m nt:Nat}{F:SS}{ob:List Nat}{f:prod (rq A (il B []))→Option F.T}
 {fn:Func} {c:Code} (ac3:∀vs w,(callFunc j6 vs).run P w= .ok (.enter j6 vs) w) (hf:P.funcs[j6]? =some fn) (hb:fn.body=some c) (hrs:fn.results.toList=rs) (hnt:fn.ntmps=nt) (hF:F.df= [])
 (adm:∀r:F.T,Gj (iS G rs (F.st y0 r))=true)
 (h:∀d,f d=walk P G [] H Γ c gl true (lL nt m (xi y0 A d) (cZ (nr y0 B (xj A d)))) (La C ps D qs jk F)):
 (aF G rs j6 A B m F ob (.bE f)).holds P gl:=by
 refine⟨?_,fun _ _ h=>h.elim⟩
 intro d r hd
 have hd':f d=some r:=hd
 rw[h d] at hd'
 refine⟨ac3,?_⟩
 have acV:=jS T hΓ (fun _=>hro) (fun _=>aI) hd'
 subst hnt
 have hz:iS G fn.results.toList (F.st y0 r)=some ((iS G rs (F.st y0 r)).getD .bot):=by rw[hrs];exact mb (adm r)
 have hout:∀b k,(b,k)∈pick ob (F.st y0 r).hp→(F.st y0 r).hp[b]? =some (some k):=fun b k hbk=>jy hbk
 intro E w vs hv hw
 obtain⟨hl,ac2⟩:=hv.get
 refine CallsIn.calls (F:=Wd gl) (n:=0) (callsIn_of_wp_defers hf hb trivial ?_ hro) (fun k d hd=>by cases hd)
 have hg:bW gl (lL fn.ntmps m (xi y0 A d) (cZ (nr y0 B (xj A d)))) E {tmps:=vs.toArray++Array.replicate (fn.ntmps -vs.toArray.size) undef,defers:=[]} w:=by
  refine⟨?_,?_,hw,trivial⟩
  ·simp only[lL,Array.size_append,List.size_toArray,Array.size_replicate,dZ,jJ]
   rw[←hl];rfl
  ·intro i x hx v hv'
   simp only[lL] at hx
   rw[Array.getElem?_append] at hv'
   simp only[List.getElem?_append] at hx
   split at hx
   ·rename_i hi
    have hl':(xi y0 A d).length=vs.length:=hl
    rw[aA (by grind)] at hv'
    exact ac2 i x v hx (by grind)
   ·rw[List.getElem?_replicate] at hx
    split at hx
    ·cases hx;trivial
    grind
 refine wpIn_mono (acV E _ w hg) ?_
 rintro ex a' w' ⟨e,σ',E',h1,he,h3,h4⟩
 have plain:∀{σ:St},σ.df= []→F.rZ σ'=some r→bW gl σ' E' a' w'→a'.defers= []→LeavesIn (Wd gl) 0 P fn a'.tmps (fun e w'=>∃E',uH E' w' (.ret ((iS G rs (F.st y0 r)).getD .bot)) e∧HW gl E' w' (db m (pick ob (F.st y0 r).hp))∧Ext gl.md (Own (aQ (List.replicate m none) (cZ (nr y0 B (xj A d)))) E) E w (Own (db m (pick ob (F.st y0 r).hp)) E') E' w') a'.defers .returning w':=by
  intro σ _ hm hg' hds
  obtain⟨E5,g5,x5⟩:=SS.im (gl:=gl) hm E' a' w' hg'
  obtain⟨v2,k1,k2⟩:=oG T g5 hz
  rw[hds]
  have hw5:HW gl E5 w' (db m (pick ob (F.st y0 r).hp)):=g5.hw.less (fun b k hb=>hout b k (eM hb))
  have X5:=h4.trans x5
  exact⟨v2,k1,E5,k2,hw5,{X5 with own:=fun g ⟨b,k,hb,hgb⟩=>X5.own g ⟨b,k,hout b k (eM hb),hgb⟩}⟩
 have leave:(match σ'.df with
  |[]=>F.rZ σ'
  |_=>Gl C ps F C.n σ')=some r→LeavesIn (Wd gl) 0 P fn a'.tmps (fun e w'=>∃E',uH E' w' (.ret ((iS G rs (F.st y0 r)).getD .bot)) e∧HW gl E' w' (db m (pick ob (F.st y0 r).hp))∧Ext gl.md (Own (aQ (List.replicate m none) (cZ (nr y0 B (xj A d)))) E) E w (Own (db m (pick ob (F.st y0 r).hp)) E') E' w') a'.defers .returning w':=by
  intro he
  cases hd0:σ'.df with
  |
   nil=>
   rw[hd0] at he
   have hds:a'.defers= []:=by
    have:=h3.df
    rw[hd0] at this
    cases hds:a'.defers with
    |nil=>rfl
    |cons d l=>rw[hds] at this;trivial
   grind
  |
   cons x l=>
   rw[hd0] at he
   exact Dv T (pm:=false) (x:=.hJ) he rfl (fun d y hy=>hC.n d y hy) hF hz hout h3 (u:=.nilIface) (Or.inr ⟨rfl,rfl⟩) (fun _=>rfl) h4
 cases e with
 |
  ret=>cases ex with
  |ret=>exact leave he
  |_=>trivial
 |
  normal=>cases ex with
  |normal=>exact leave he
  |_=>trivial
 |exit i=>trivial
 |
  panic v=>
  cases ex with
  |
   panic ch=>
   obtain⟨u,e,hu⟩:=h1
   subst e
   simp only[La] at he
   split at he
   ·rename_i q hids hq
    have hV:=(Sh.uL y0 hq).1
    obtain⟨E2,g2,x2⟩:=Wk.eU (gl:=gl) (l:=jk) (σ:=σ') E' a' w' h3
    have hu2:cC E2 w' v u:=cC.mono (E:=E') (w:=w') ⟨fun b hb=>rfl,x2.sle⟩ (fun b hb=>by grind) hu
    exact Dv T (pm:=true) (x:=v) he hids (fun d y hy=>by have:=hD.p d q y hy;grind) hF hz hout g2 hu2 (fun e=>by cases e) (h4.trans x2)
   grind
  |_=>trivial
end Go.Ax
namespace Go.Ax
def Tj:fE→St→Option St
 | .normal,σ=>some σ
 |_,_=>none
def Tk(F:SS):fE→St→Option F.T
 | .ret,σ=>Bw F .ret σ
 |_,_=>none
theorem aW.jT{P:Program}{G:bO}(T:bD P G){gl:Ctx}{H:Hs}{Γ:List aW}(hΓ:∀C∈Γ,C.holds P gl)(hro:gl.ro=none){rs:List ResultVar}{j6:FuncId}{A:List Sh}{B:List (Nat×fK)}{m nt:Nat}{F:SS}{ob:List Nat}{f:prod (rq A (il B []))→Option F.T}
 {fn:Func} {c0 X Y:Code} {rid:Nat} {o1 o2:Oper} (x:Operand) (d1 d2:Nat) (t t2 e:TypeId) (bs:Nat) (u:Ty) (xs:prod (rq A (il B []))→List u.den) (σ1:prod (rq A (il B []))→St)
 (ac3:∀vs w,(callFunc j6 vs).run P w= .ok (.enter j6 vs) w) (hf:P.funcs[j6]? =some fn) (hb:fn.body=some (.seq c0 (.seq (.seq (.region rid #[o1,o2] false) (.cond (.tmp d2) X .skip)) Y))) (hrs:fn.results.toList=rs) (hnt:fn.ntmps=nt) (hF:F.df= [])
 (h1:o1.op= .move x) (hd1:o1.dst=some d1) (hg1:o1.guard=none) (h2:o2.op= .binOp .eql t (.tmp d1) (.const (.slice none 0 0)) t2) (hd2:o2.dst=some d2) (hg2:o2.guard=none) (ht:P.underlying t=some (.slice e))
 (adm:∀r:F.T,Gj (iS G rs (F.st y0 r))=true)
 (hA:∀d,walk P G [] H Γ c0 gl true (lL nt m (xi y0 A d) (cZ (nr y0 B (xj A d)))) Tj=some (σ1 d))
 (hx:∀d,bF gl (σ1 d).tm x= .val (.slice bs u) (xs d)) (hl:∀d,Nat.blt d1 (σ1 d).tm.length=true) (hl2:∀d b,bF gl (((σ1 d).put (some d1) (.val (.slice bs u) (xs d))).put (some d2) (.val .bool b)).tm (.tmp d2)= .val .bool b)
 (hX:∀d,xs d= []→f d=walk P G [] H Γ X gl true (((σ1 d).put (some d1) (.val (.slice bs u) (xs d))).put (some d2) (.val .bool true)) (Tk F))
 (hY:∀d,f d=walk P G [] H Γ Y gl true (((σ1 d).put (some d1) (.val (.slice bs u) (xs d))).put (some d2) (.val .bool false)) (Bw F)):
 (aF G rs j6 A B m F ob (.bE f)).holds P gl:=by
 refine⟨?_,fun _ _ h=>h.elim⟩
 intro d r hd
 have hd':f d=some r:=hd
 refine⟨ac3,?_⟩
 subst hnt
 refine rm.xu T hf hb hro (σe:=F.st y0 r) ?_ ?_ ?_ ?_
 ·refine cP.seq (cP.mono (jS T hΓ (fun _=>hro) (fun _=>aI) (hA d)) ?_)
  intro e' σ he
  cases e' with
  |
   normal=>
   have:σ=σ1 d:=kf he
   subst this
   refine cP.seq ?_
   refine cP.IF x d1 d2 t t2 e bs u (xs d) h1 hd1 hg1 h2 hd2 hg2 (hx d) ht (hl d) ?_
   intro b hbx
   cases b with
   |
    true=>
    refine cP.cond (hl2 d true) (fun _=>?_) (fun e=>by cases e)
    have hw:=hX d (hbx rfl)
    rw[hd'] at hw
    refine cP.mono (jS T hΓ (fun _=>hro) (fun _=>aI) hw.symm) ?_
    intro e2 σ2 he2
    cases e2 with
    |ret=>exact sc he2
    |_=>trivial
   |
    false=>
    refine cP.cond (hl2 d false) (fun e=>by cases e) (fun _=>cP.skip ?_)
    have hw:=hY d
    rw[hd'] at hw
    refine cP.mono (jS T hΓ (fun _=>hro) (fun _=>aI) hw.symm) ?_
    intro e2 σ2 he2
    cases e2 with
    |ret=>exact sc he2
    |normal=>exact sc he2
    |_=>trivial
  |_=>trivial
 ·show(F.st y0 r).df= []
  simp only[SS.st,SS.lL]
  obtain⟨nt',nh,tm,hp,df⟩:=F
  simp only at hF
  subst hF
  rfl
 ·rw[hrs];exact mb (adm r)
 ·intro b k hbk;exact jy hbk
end Go.Ax
namespace Go.Ax
theorem fA{x:Int}(h1:-9223372036854775808≤x)(h2:x≤9223372036854775807):aZ x=x:=by
 grind [IntKind.wrap,IntKind.bits,IntKind.signed]
theorem bu{i:Nat}(h:i≤4611686018427387904):aZ ((i:Int)+1)=((i+1:Nat):Int):=by
 rw[fA (by omega) (by omega)];rfl
theorem L7{t:Ty}{xs:List t.den}{i:Nat}(h:i<xs.length):nth t xs (i:Int)=xs[i]:=by
 simp[nth,List.getD,h]
theorem iq{kt:Ty}(hk:kt.keyed=true)(k:kt.den):aY kt k k=true:=(cm hk k k).2 rfl
theorem oQ{kt:Ty}(hk:kt.keyed=true){p k:kt.den}(h:p≠k):aY kt p k=false:=by
 grind [cm]
theorem gN{α:Type}{kt:Ty}(hk:kt.keyed=true)(k:kt.den)(v:α):∀es:List (kt.den×α),ck kt k (bB kt k v es)=true
 |[]=>by simp[bB,ck,iq hk]
 |
  e::es=>by
  simp only[bB]
  split
  ·simp[ck,iq hk]
  ·simp[ck,gN hk k v es]
theorem fF{α:Type}{kt:Ty}(hk:kt.keyed=true){p k:kt.den}(h:p≠k)(v:α):∀es:List (kt.den×α),ck kt p (bB kt k v es)=ck kt p es
 |[]=>by simp[bB,ck,oQ hk h]
 |
  e::es=>by
  simp only[bB]
  split
  ·rename_i he
   have:=(cm hk k e.1).1 he
   rw[this] at h
   simp[ck,this,oQ hk h]
  ·simp[ck,fF hk h v es]
theorem dp{kt vt:Ty}(hk:kt.keyed=true)(k:kt.den)(v:vt.den):∀es:List (kt.den×vt.den),bw kt vt k (bB kt k v es)=v
 |[]=>by simp[bB,bw,iq hk]
 |
  e::es=>by
  simp only[bB]
  split
  ·simp[bw,iq hk]
  ·rename_i he
   simp[bw,he,dp hk k v es]
theorem dj{kt vt:Ty}(hk:kt.keyed=true){p k:kt.den}(h:p≠k)(v:vt.den):∀es:List (kt.den×vt.den),bw kt vt p (bB kt k v es)=bw kt vt p es
 |[]=>by simp[bB,bw,oQ hk h]
 |
  e::es=>by
  simp only[bB]
  split
  ·rename_i he
   have:=(cm hk k e.1).1 he
   rw[this] at h
   simp[bw,this,oQ hk h]
  ·simp[bw,dj hk h v es]
end Go.Ax
namespace Go.Ax
theorem aM{U R:Type}(F:(U→Option R)→U→Option R)(n:Nat)(u:U):aK F (n+1) u=F (aK F n) u:=rfl
theorem Gm{U R:Type}{F:(U→Option R)→U→Option R}(I:U→Prop)(μ:U→Nat)(Q:U→Option R→Prop)
 (h:∀rec u,I u→(∀u',I u'→μ u'<μ u→Q u' (rec u'))→Q u (F rec u)):∀n u,I u→μ u<n→Q u (aK F n u):=by
 intro n
 induction n with
 |zero=>grind
 |
  succ n ih=>
  grind [aM]
theorem aH{U R:Type}(d:U)(f:U→Option R):aG (some (.brk d)) f=f d:=rfl
theorem eT{U R:Type}(r:R)(f:U→Option R):aG (some (.ret r)) f=some r:=rfl
theorem Pc{U R:Type}(r:R):(bZ (some r):Option (cQ U R))=some (.ret r):=rfl
theorem eP{R:Type}(y:YC)(x:Option R):EC y y x=x:=by unfold EC;grind
theorem mF{R:Type}{F:YC→Option R}{r:R}(h:∀y,F y=some r):tL F=some r:=by
 unfold tL
 rw[dif_pos ⟨r,h⟩]
 have hc:=Classical.choose_spec (⟨r,h⟩:∃r,∀y,F y=some r)
 have:=hc y0
 grind
theorem IU{A R:Type}{xs:List A}{K:A→List A→Option R}{r:R}(hne:xs≠[])(h:∀i(hi:i<xs.length),K xs[i] (xs.eraseIdx i)=some r):Ec xs K=some r:=by
 unfold Ec
 rw[dif_pos ⟨r,h⟩]
 have hc:=Classical.choose_spec (⟨r,h⟩:∃r,∀i(h:i<xs.length),K xs[i] (xs.eraseIdx i)=some r)
 have h0:0<xs.length:=List.length_pos_iff.2 hne
 grind
theorem gd{α:Type}{c:Prop}[Decidable c]{x y:α}(h:c):(if c then x else y)=x:=aA h
theorem cT{t:Ty}{xs:List t.den}{i:Nat}(h:i<xs.length):nth t xs (i:Int)=xs[i]:=L7 h
theorem scan{U R β:Type}{F:(U→Option (cQ β R))→U→Option (cQ β R)}(len:Nat)(at_:Nat→U)(b:β)(C:Nat→Prop)(P:R→Prop)
 (step:∀rec i,i<len→(C i∧F rec (at_ i)=rec (at_ (i+1)))∨∃r,P r∧F rec (at_ i)=some (.ret r))
 (stop:∀rec,F rec (at_ len)=some (.brk b)):
 ∀n i,i≤len→len -i<n→((∀j,i≤j→j<len→C j)∧aK F n (at_ i)=some (.brk b))∨∃r,P r∧aK F n (at_ i)=some (.ret r):=by
 intro n
 induction n with
 |zero=>grind
 |
  succ n ih=>
  grind [aM]
theorem Bx{n:Nat}(h:n≤aE):n<gD:=by
 have h1:aE=140737488355328:=rfl
 have h2:gD=18446744073709551616:=rfl
 omega
end Go.Ax
namespace Go.Ax
theorem Pd{U R β:Type}{F:(U→Option (cQ β R))→U→Option (cQ β R)}{L:Nat→U→Option (cQ β R)}(hL:L=aK F)(len:Nat)(at_:Nat→U)(b:β)(C:Nat→Prop)(P:R→Prop)
 (step:∀rec i,i<len→(C i∧F rec (at_ i)=rec (at_ (i+1)))∨∃r,P r∧F rec (at_ i)=some (.ret r))
 (stop:∀rec,F rec (at_ len)=some (.brk b)) (n:Nat) (hn:len<n):((∀j,j<len→C j)∧L n (at_ 0)=some (.brk b))∨∃r,P r∧L n (at_ 0)=some (.ret r):=by
 subst hL
 rcases scan len at_ b C P step stop n 0 (by omega) (by omega) with⟨h1,h2⟩|h<;>grind
theorem Yl{U R β S:Type}{F:(U→Option (cQ β R))→U→Option (cQ β R)}{L:Nat→U→Option (cQ β R)}(hL:L=aK F)(len:Nat)(at_:Nat→S→U)(end_:S→β)(g:Nat→S→S)(I:Nat→S→Prop)
 (step:∀rec i s,i<len→I i s→F rec (at_ i s)=rec (at_ (i+1) (g i s))∧I (i+1) (g i s))
 (stop:∀rec s,I len s→F rec (at_ len s)=some (.brk (end_ s))):
 ∀n i s,i≤len→len -i<n→I i s→∃s',s'=(List.range' i (len -i)).foldl (fun s j=>g j s) s∧I len s'∧L n (at_ i s)=some (.brk (end_ s')):=by
 subst hL
 intro n
 induction n with
 |zero=>grind
 |
  succ n ih=>
  intro i s hi hn hI
  rw[aM]
  by_cases h:i<len
  ·obtain⟨e,hI'⟩:=step (aK F n) i s h hI
   rw[e]
   obtain⟨s',h1,h2,h3⟩:=ih (i+1) (g i s) (by omega) (by omega) hI'
   refine⟨s',?_,h2,h3⟩
   rw[show len -i=(len -(i+1))+1 from by omega,List.range'_succ,List.foldl_cons]
   exact h1
  ·have:i=len:=by omega
   simp_all
end Go.Ax
namespace Go.Ax
def W{R:Type}(x:Option R)(P:R→Prop):Prop:=∃r,x=some r∧P r
def CT{U R:Type}(B:U→Prop)(Q:R→Prop):cQ U R→Prop
 | .brk d=>B d
 | .ret r=>Q r
def ST{A B:Type}(P:A→Prop)(Q:B→Prop):Sum A B→Prop
 | .inl a=>P a
 | .inr b=>Q b
theorem ir{U R:Type}{B:U→Prop}{Q:R→Prop}{d:U}:CT B Q (.brk d)↔B d:=Iff.rfl
theorem Tl{U R:Type}{B:U→Prop}{Q:R→Prop}{r:R}:CT B Q (.ret r)↔Q r:=Iff.rfl
theorem Tm{A B:Type}{P:A→Prop}{Q:B→Prop}{a:A}:ST P Q (.inl a)↔P a:=Iff.rfl
theorem Tn{A B:Type}{P:A→Prop}{Q:B→Prop}{b:B}:ST P Q (.inr b)↔Q b:=Iff.rfl
theorem pX{R:Type}{a:R}{P:R→Prop}:W (some a) P↔P a:=⟨fun⟨_,h,p⟩=>(by grind),fun h=>⟨a,rfl,h⟩⟩
theorem To{R:Type}{P:R→Prop}:W (none:Option R) P↔False:=⟨fun⟨_,h,_⟩=>(by cases h),False.elim⟩
theorem pY{A R:Type}{x:Option A}{f:A→Option R}{P:R→Prop}:W (Option.bind x f) P↔W x fun a=>W (f a) P:=by
 cases x with
 |none=>exact⟨fun⟨_,h,_⟩=>(by cases h),fun⟨_,h,_⟩=>(by cases h)⟩
 |some a=>exact⟨fun⟨r,h,p⟩=>⟨a,rfl,r,h,p⟩,fun⟨a',h,r,h2,p⟩=>(by cases h;exact⟨r,h2,p⟩)⟩
theorem Ym{R:Type}{c:Prop}[Decidable c]{x y:Option R}{P:R→Prop}:W (if c then x else y) P↔(c→W x P)∧(¬c→W y P):=by
 grind
theorem bN{U R:Type}{x:Option (cQ U R)}{f:U→Option R}{P:R→Prop}:W (aG x f) P↔W x (CT (fun d=>W (f d) P) P):=by
 unfold aG
 rw[pY]
 refine⟨fun⟨c,h,p⟩=>⟨c,h,?_⟩,fun⟨c,h,p⟩=>⟨c,h,?_⟩⟩
 ·cases c with
  |brk d=>exact p
  |ret r=>exact(pX (a:=r) (P:=P)).1 p
 ·cases c with
  |brk d=>exact p
  |ret r=>exact(pX (a:=r) (P:=P)).2 p
theorem abe{U R:Type}{x:Option R}{Q:cQ U R→Prop}:W (bZ x) Q↔W x fun r=>Q (.ret r):=by
 cases x with
 |none=>exact⟨fun⟨_,h,_⟩=>(by cases h),fun⟨_,h,_⟩=>(by cases h)⟩
 |some a=>exact⟨fun⟨r,h,p⟩=>(by cases h;exact⟨a,rfl,p⟩),fun⟨r,h,p⟩=>(by cases h;exact⟨_,rfl,p⟩)⟩
theorem kW{A B R:Type}{x:Option (Sum A B)}{kp:A→Option R}{k:B→Option R}{P:R→Prop}:W (eK x kp k) P↔W x (ST (fun a=>W (kp a) P) fun b=>W (k b) P):=by
 unfold eK
 rw[pY]
 refine⟨fun⟨c,h,p⟩=>⟨c,h,?_⟩,fun⟨c,h,p⟩=>⟨c,h,?_⟩⟩<;>cases c<;>exact p
theorem W.mono{R:Type}{x:Option R}{P Q:R→Prop}(h:W x P)(hq:∀r,P r→Q r):W x Q:=h.imp fun r h=>⟨h.1,hq r h.2⟩
theorem CT.mono{U R:Type}{B B':U→Prop}{Q Q':R→Prop}(hb:∀d,B d→B' d)(hq:∀r,Q r→Q' r)(c:cQ U R)(h:CT B Q c):CT B' Q' c:=by
 cases c with
 |brk d=>exact hb d h
 |ret r=>exact hq r h
theorem W.ct{U R:Type}{x:Option (cQ U R)}{B B':U→Prop}{Q Q':R→Prop}(h:W x (CT B Q))(hb:∀d,B d→B' d)(hq:∀r,Q r→Q' r):W x (CT B' Q'):=h.mono (CT.mono hb hq)
theorem W.st{A B:Type}{x:Option (Sum A B)}{P P':A→Prop}{Q Q':B→Prop}(h:W x (ST P Q))(hp:∀a,P a→P' a)(hq:∀b,Q b→Q' b):W x (ST P' Q'):=
 h.mono fun c hc=>by cases c with
  |inl a=>exact hp a hc
  |inr b=>exact hq b hc
theorem W.iter{U R:Type}{F:(U→Option R)→U→Option R}{P:R→Prop}(I:U→Prop)(μ:U→Nat)
 (h:∀rec u,I u→(∀u',I u'→μ u'<μ u→W (rec u') P)→W (F rec u) P):∀n u,I u→μ u<n→W (aK F n u) P:=
 Gm I μ (fun _ x=>W x P) h
theorem dv{t:Ty}{l:List t.den}{a:Int}(h0:0≤a)(h1:a<(l.length:Int)):nth t l a∈l:=by
 have h:a.toNat<l.length:=by omega
 grind [cT]
end Go.Ax
namespace Go.Ax
open Go.Proofs Go.Sort Go.Shelf
def NP(c:Int→Int→Option Int)(x y:Int):Bool:=decide ((c x y).getD 0<0)
structure Yn(c:Int→Int→Option Int)(xs:List Int):Prop where
 ne:xs≠[]
 irr:∀x∈xs,NP c x x=false
 has:∀x∈xs,∀y∈xs,∃r,c x y=some r
 X1:∀x∈xs,∀y∈xs,x=y∨NP c x y= !NP c y x
 tr:∀x∈xs,∀y∈xs,∀z∈xs,NP c x y=true→NP c y z=true→NP c x z=true
section
variable{c:Int→Int→Option Int} {xs:List Int}
end
theorem qX{w:World}{S:Nat→Prop}{k:IntKind}:∀{xs:List Int},(∀x∈xs,k.min≤x∧x≤k.max)→aT (Rel w S (.int k)) (xs.map (Value.int k)) xs
 |[],_=>rfl
 |x::xs,h=>⟨[.int k x],xs.map (Value.int k),rfl,⟨rfl,h x (du ..)⟩,qX fun y hy=>h y (dT _ hy)⟩
end Go.Ax
