/- The machines: what it means to be walked or run, part 3. No condition. -/
import Derived.Test.YtmpdeifdnbhdiaaGreatDoorA2
import Derived.Laws.Cover3
import Derived.RangeFuncRecord
import Derived.RecoverIn
import Derived.Deep.DeepHandedRow
import Derived.OpenShut
import Derived.ChangeArms
import Derived.Shelf.SlIterI.Collect
import Derived.Shelf.SlIterI.Sorted
import Derived.Lib.LaidTab
import Derived.KernelRfl
namespace Go.Abs
def Fv:Option Ty→AV→Option AV
 |none,x=>some x
 |
  some t,x=>match x.bc t with
  |some y=>some (.val t y)
  |none=>none
def A0:List (Option Ty)→AV→Option AV
 |[],.nil=>some .nil
 |
  t::ts,.cons x l=>match Fv t x,A0 ts l with
  |some y,some m=>some (.cons y m)
  |_,_=>none
 |_,_=>none
def NU:List (Option Ty)→AV→Option AV
 |ts,.bU l=>(A0 ts l).map .bU
 |[t],x=>if x.plain then Fv t x else none
 |_,_=>none
theorem zR{E:Env}{w:World}{t:Option Ty}{x y:AV}{v:Value}(h:Fv t x=some y)(hr:cZ E w x v):cZ E w y v:=by
 unfold Fv at h
 split at h
 ·cases h;exact hr
 ·split at h
  ·rename_i z hz;cases h;exact cZ.bc hz hr
  ·cases h
theorem Fw{E:Env}{w:World}:∀{ts:List (Option Ty)}{x y:AV}{vs:List Value},A0 ts x=some y→RT E w x vs→RT E w y vs:=by
 intro ts
 induction ts with
 |nil=>intro x y vs h hr;cases x<;>simp[A0] at h;subst h;exact hr
 |
  cons t ts ih=>
  intro x y vs h hr
  cases x with
  |
   cons a l=>
   simp only[A0] at h
   split at h
   ·rename_i a' l' h1 h2
    cases h
    cases vs with
    |nil=>exact hr.elim
    |cons v vs=>exact⟨zR h1 hr.1,ih h2 hr.2⟩
   ·cases h
  |_=>simp[A0] at h
theorem C9{E:Env}{w:World}{ts:List (Option Ty)}{x y:AV}{v:Value}(h:NU ts x=some y)(hr:RV E w x v):RV E w y v:=by
 unfold NU at h
 split at h
 ·rename_i l
  simp only[Option.map_eq_some_iff] at h
  obtain⟨m,hm,e⟩:=h
  subst e
  obtain⟨vs,e,hr⟩:=hr
  exact⟨vs,e,Fw hm hr⟩
 ·split at h
  ·rename_i hp;exact RV.fD (zR h (RV.mq hp hr))
  ·cases h
 ·cases h
def wT(G:bH)(rs:List ResultVar)(r:sa)(H':List (Option aj)):jG→St→Prop
 | .normal,σ=>σ.df= []∧∃x y ts m,wy G rs σ=some x∧NU ts x=some y∧r= .ret y∧prune σ.hp m=H'
 | .ret,σ=>σ.df= []∧∃x y ts m,wy G rs σ=some x∧NU ts x=some y∧r= .ret y∧prune σ.hp m=H'
 | .panic v,σ=>σ.df= []∧∃m,r= .Qt v∧prune σ.hp m=H'
 |_,_=>False
def fin(G:bH)(rs:List ResultVar)(ts:List (Option Ty))(m:List Bool)(σ:St):Option (AV×List (Option aj)):=
 match σ.df,wy G rs σ with
 |
  [],some x=>match NU ts x with
  |some y=>some (y,prune σ.hp m)
  |none=>none
 |_,_=>none
theorem A1{G:bH}{rs:List ResultVar}(ts:List (Option Ty))(m:List Bool){σ:St}{y:AV}{H':List (Option aj)}(h:fin G rs ts m σ=some (y,H')):wT G rs (.ret y) H' .ret σ∧wT G rs (.ret y) H' .normal σ:=by
 unfold fin at h
 split at h
 ·rename_i x hd hx
  split at h
  ·rename_i z hz
   cases h
   exact⟨⟨hd,x,_,ts,m,hx,hz,rfl,rfl⟩,⟨hd,x,_,ts,m,hx,hz,rfl,rfl⟩⟩
  ·cases h
 ·cases h
theorem wU{P:Program}{G:bH}(T:aW P G){gl:Ctx}{σ:St}{E:Env}{a:Act}{w:World}(hg:cK gl σ E a w){fn:Func}{x:AV}(h:wy G fn.results.toList σ=some x):∃v,(results fn a.tmps).run P w= .ok v w∧RV E w x v:=by
 have key:∀xs,jH G σ fn.results.toList=some xs→∃vs:Array Value,(fn.results.mapM (lr a.tmps)).run P w= .ok vs w∧RT E w (AV.ofList xs) vs.toList∧vs.toList.length=xs.length:=by
  intro xs hx
  obtain⟨vs,h1,h2,h3⟩:=lZ T hg hx
  refine⟨vs.toArray,?_,by simpa using h2,by simpa using h3⟩
  rw[Array.mapM_eq_mapM_toList]
  simp only[Sem.run_map]
  rw[h1];rfl
 unfold wy at h
 split at h
 ·rename_i y hy
  cases h
  obtain⟨vs,h1,h2,h3⟩:=key _ hy
  obtain⟨l⟩:=vs
  cases l with
  |nil=>simp at h3
  |
   cons v l=>
   cases l with
   |cons _ _=>simp at h3
   |
    nil=>
    refine⟨v,?_,RV.fD h2.1⟩
    rw[lY]
    simp only[Sem.run_bind]
    rw[h1]
    simp
 ·rename_i xs R7 hxs
  cases h
  obtain⟨vs,h1,h2,h3⟩:=key _ hxs
  refine⟨.tuple vs,?_,⟨vs,rfl,h2⟩⟩
  rw[lY]
  simp only[Sem.run_bind]
  rw[h1]
  have:¬vs.size=1:=by
   intro e
   rw[Array.length_toList,e] at h3
   match xs,h3 with
   |[y],_=>exact R7 y rfl
  simp[this]
 ·cases h
end Go.Abs
namespace Go.Abs
def Wk(gl:Ctx)(σ σ':St):Prop:=
 ∀E a w,cK gl σ E a w→∃E',cK gl σ' E' a w∧Ext gl.md (Own σ.hp E) E w (Own σ'.hp E') E' w
theorem Wk.refl(gl:Ctx)(σ:St):Wk gl σ σ:=fun E _ _ h=>⟨E,h,Ext.refl _ _ _⟩
theorem Wk.trans{gl:Ctx}{σ σ1 σ2:St}(h:Wk gl σ σ1)(k:Wk gl σ1 σ2):Wk gl σ σ2:=fun E a w hg=>by
 obtain⟨E1,g1,x1⟩:=h E a w hg
 obtain⟨E2,g2,x2⟩:=k E1 a w g1
 exact⟨E2,g2,x1.trans x2⟩
def dU(ts:List Nat):Nat→List AV→List AV
 |_,[]=>[]
 |i,x::l=>(if bS i ts then x else .bot)::dU ts (i+1) l
def qX(bs:List Nat):Nat→List (Option aj)→List (Option aj)
 |_,[]=>[]
 |i,x::l=>(if bS i bs then x else none)::qX bs (i+1) l
theorem tp{ts:List Nat}:∀{l:List AV}{i j:Nat}{x:AV},(dU ts i l)[j]? =some x→x= .bot∨l[j]? =some x
 |[],i,j,x,h=>by simp[dU] at h
 |
  y::l,i,0,x,h=>by
  simp only[dU,List.getElem?_cons_zero,Option.some.injEq] at h
  split at h
  ·exact Or.inr (by simp[h])
  ·exact Or.inl h.symm
 |
  y::l,i,j+1,x,h=>by
  simp only[dU,List.getElem?_cons_succ] at h
  simpa using tp h
theorem tq{ts:List Nat}:∀{l:List AV}{i:Nat},(dU ts i l).length=l.length
 |[],_=>rfl
 |_::l,i=>by simp[dU,tq (l:=l)]
theorem oh{bs:List Nat}{k:aj}:∀{l:List (Option aj)}{i j:Nat},(qX bs i l)[j]? =some (some k)→l[j]? =some (some k)
 |[],i,j,h=>by simp[qX] at h
 |
  y::l,i,0,h=>by
  simp only[qX,List.getElem?_cons_zero,Option.some.injEq] at h
  split at h
  ·simp[h]
  ·cases h
 |
  y::l,i,j+1,h=>by
  simp only[qX,List.getElem?_cons_succ] at h
  simpa using oh h
theorem HW.less{gl:Ctx}{E:Env}{w:World}{hp R0:List (Option aj)}(h:HW gl E w hp)(hs:∀(b:Nat)(k:aj),R0[b]? =some (some k)→hp[b]? =some (some k)):HW gl E w R0 where
 bh:=fun b k hb=>h.bh b k (hs b k hb)
 sep:=fun b b' k k' g h1 h2=>h.sep b b' k k' g (hs _ _ h1) (hs _ _ h2)
 fo:=fun b k g h1=>h.fo b k g (hs _ _ h1)
 slt:=h.slt
 gl:=h.gl
theorem Wk.ak(gl:Ctx)(σ:St)(ts bs:List Nat):Wk gl σ ⟨dU ts 0 σ.tm,qX bs 0 σ.hp,σ.df⟩:=by
 intro E a w h
 refine⟨E,⟨by rw[tq];exact h.len,?_,h.hw.less (fun b k hb=>oh hb),h.df⟩,{Ext.refl (Own σ.hp E) E w with own:=?_ }⟩
 ·intro i x hx v hv
  rcases tp hx with e|e
  ·subst e;trivial
  ·exact h.tm i x e v hv
 ·rintro g ⟨b,k,hb,hg⟩
  exact Or.inl ⟨b,k,oh hb,hg⟩
theorem Wk.Fx{gl:Ctx}{σ:St}{s:Nat}{t:Ty}{x:AV}{y:t.den}(hx:σ.tm[s]? =some x)(hy:x.bc t=some y):Wk gl σ {σ with tm:=σ.tm.set s (.val t y)}:=by
 intro E a w h
 refine⟨E,⟨by simp[h.len],?_,h.hw,h.df⟩,Ext.refl _ _ _⟩
 intro i z hz v hv
 rw[List.getElem?_set] at hz
 split at hz
 ·rename_i e;subst e
  split at hz
  ·cases hz
   have hr:=h.tm s x hx v hv
   have hp:x.plain=true:=by cases x<;>first|rfl|(cases t<;>simp[AV.bc] at hy)
   exact RV.fD (cZ.bc hy (RV.mq hp hr))
  ·cases hz
 ·exact h.tm i z hz v hv
theorem Wk.Fz{gl:Ctx}{σ:St}{b:Nat}{t:Ty}{v:AV}{y:t.den}(hb:σ.hp[b]? =some (some (.var t v)))(hy:v.bc t=some y):Wk gl σ {σ with hp:=σ.hp.set b (some (.var t (.val t y)))}:=by
 intro E a w h
 have hk:=h.hw.bh b _ hb
 obtain⟨h1,h2,g,c,e,h3,h4,h5⟩:=hk
 have hw:=h.hw.write (w':=w) (k':=.var t (.val t y)) hb rfl (fun _ _=>rfl) ⟨h1,Ty.cF t,g,c,e,h3,h4,RC.bc hy h5⟩
 refine⟨E,⟨h.len,h.tm,hw,h.df⟩,{Ext.refl (Own σ.hp E) E w with own:=?_ }⟩
 intro g' hg'
 exact Or.inl (Own.set hb hg')
def wV(φ:AV→Option AV):List AV→List AV
 |[]=>[]
 |x::l=>(if x.plain then(match φ x with|some y=>y|none=>.bot) else .bot)::wV φ l
def FA(φ:AV→Option AV):List AV→Option (List AV)
 |[]=>some []
 |
  x::l=>match φ x,FA φ l with
  |some y,some m=>some (y::m)
  |_,_=>none
def oi(φ:AV→Option AV):Option aj→Option (Option aj)
 |
  some (.var t v)=>match φ v with
  |some u=>if u.bB t then some (some (.var t u)) else none
  |none=>none
 |
  some (.tv g t v)=>match φ v with
  |some u=>if u.bB t then some (some (.tv g t u)) else none
  |none=>none
 |k=>some k
def FB(φ:AV→Option AV):List (Option aj)→Option (List (Option aj))
 |[]=>some []
 |
  k::l=>match oi φ k,FB φ l with
  |some k',some m=>some (k'::m)
  |_,_=>none
theorem qY{φ:AV→Option AV}:∀{l:List AV},(wV φ l).length=l.length
 |[]=>rfl
 |_::l=>by simp[wV,qY (l:=l)]
theorem qZ{φ:AV→Option AV}:∀{l:List AV}{i:Nat}{y:AV},(wV φ l)[i]? =some y→y= .bot∨∃x,l[i]? =some x∧x.plain=true∧φ x=some y
 |[],i,y,h=>by simp[wV] at h
 |
  x::l,0,y,h=>by
  simp only[wV,List.getElem?_cons_zero,Option.some.injEq] at h
  split at h
  ·rename_i hp
   split at h
   ·rename_i z hz;exact Or.inr ⟨x,rfl,hp,by rw[hz,h]⟩
   ·exact Or.inl h.symm
  ·exact Or.inl h.symm
 |
  x::l,i+1,y,h=>by
  simp only[wV,List.getElem?_cons_succ] at h
  simpa using qZ h
theorem re{φ:AV→Option AV}:∀{l m:List (Option aj)},FB φ l=some m→∀{i:Nat}{k:aj},m[i]? =some (some k)→∃k0,l[i]? =some (some k0)∧oi φ (some k0)=some (some k)
 |[],m,h,i,k,hk=>by cases h;simp at hk
 |
  x::l,m,h,i,k,hk=>by
  simp only[FB] at h
  split at h
  ·rename_i k' m' h1 h2
   cases h
   cases i with
   |
    zero=>
    simp at hk
    subst hk
    cases x with
    |none=>simp[oi] at h1
    |some x=>exact⟨x,rfl,h1⟩
   |succ i=>obtain⟨k0,e1,e2⟩:=re h2 (i:=i) (by simpa using hk);exact⟨k0,by simpa using e1,e2⟩
  ·cases h
def St.zS(φ:AV→Option AV)(σ:St):Option St:=
 match FB φ σ.hp,FA φ σ.df with
 |some hp,some df=>some ⟨wV φ σ.tm,hp,df⟩
 |_,_=>none
structure Good(E E':Env)(w:World)(φ:AV→Option AV):Prop where
 rc:∀x y vs,φ x=some y→RC E w x vs→RC E' w y vs
 agg:∀x y,φ x=some y→y.isAgg=x.isAgg
 fn:∀fn fs cs y,φ (.func fn fs cs)=some y→∃fs' SE,y= .func fn fs' SE∧φ fs=some fs'∧φ cs=some SE∧fs'.atoms=true∧SE.atoms=true
 mp:∀b y,φ (.mp b)=some y→∃b',y= .mp b'∧E'.g b'=E.g b
theorem Good.RV{E E':Env}{w:World}{φ:AV→Option AV}(g:Good E E' w φ){x y:AV}{v:Value}(h:φ x=some y)(hr:cZ E w x v):cZ E' w y v:=by
 rcases hr with⟨h1,cs,e,h2⟩|⟨h1,h2⟩
 ·exact Or.inl ⟨by rw[g.agg x y h];exact h1,cs,e,g.rc x y _ h h2⟩
 ·exact Or.inr ⟨by rw[g.agg x y h];exact h1,g.rc x y _ h h2⟩
theorem Good.RD{E E':Env}{w:World}{φ:AV→Option AV}(g:Good E E' w φ):∀{l m:List AV}{ds:List Deferred},FA φ l=some m→Abs.RD E w l ds→Abs.RD E' w m ds
 |
  [],m,ds,h,hr=>by
  cases h
  cases ds with
  |nil=>trivial
  |cons _ _=>exact hr.elim
 |
  x::l,m,ds,h,hr=>by
  simp only[FA] at h
  split at h
  ·rename_i y m' h1 h2
   cases h
   cases ds with
   |nil=>cases x<;>exact hr.elim
   |
    cons d ds=>
    cases x with
    |
     func fn fs cs=>
     obtain⟨fs',SE,e,k1,k2,k3,k4⟩:=g.fn fn fs cs y h1
     subst e
     obtain⟨⟨f,c,e,r1,r2,r3,r4⟩,r5⟩:=hr
     exact⟨⟨f,c,e,g.rc _ _ _ k1 r1,g.rc _ _ _ k2 r2,k3,k4⟩,g.RD h2 r5⟩
    |
     mp b=>
     obtain⟨b',e,k1⟩:=g.mp b y h1
     subst e
     obtain⟨⟨i,e1,e2⟩,r5⟩:=hr
     exact⟨⟨i,by rw[k1];exact e1,e2⟩,g.RD h2 r5⟩
    |_=>exact hr.elim
  ·cases h
theorem Good.RB{E E':Env}{w:World}{φ:AV→Option AV}(g:Good E E' w φ)(hS:∀b,E.S b→E'.S b){b b':Nat}{k k':aj}(hg:E'.g b'=E.g b)(hsv:E'.sv b'=E.sv b)(hbt:E'.bt b'=E.bt b)(hk:oi φ (some k)=some (some k'))(h:Abs.RB E w b k):Abs.RB E' w b' k':=by
 have kp:bm E w E' w:=⟨fun _ _=>rfl,hS⟩
 cases k with
 |
  var t v=>
  simp only[oi] at hk
  split at hk
  ·rename_i u hu
   split at hk
   ·rename_i hc
    cases hk
    obtain⟨h1,h2,i,c,e,h3,h4,h5⟩:=h
    exact⟨by rw[hbt];exact h1,hc,i,c,e,by rw[hg];exact h3,h4,g.rc v u _ hu h5⟩
   ·cases hk
  ·cases hk
 |
  row e bs t xs=>
  simp only[oi,Option.some.injEq] at hk;subst hk
  obtain⟨h1,h2,h3,h4,a,cap,h5,h6,h7⟩:=h
  refine⟨by rw[hbt];exact h1,h2,h3,h4,a,cap,by rw[hsv];exact h5,h6,?_⟩
  rcases h7 with⟨h7,h8,h9⟩|⟨i,c,h7,h8,h9,SW,Sy,h12⟩
  ·exact Or.inl ⟨h7,by rw[hg];exact h8,h9⟩
  ·exact Or.inr ⟨i,c,by rw[hg];exact h7,h8,h9,SW,Sy,aC.mono (fun _ _=>Rel.mono kp.w kp.S) h12⟩
 |
  map kt vt es=>
  simp only[oi,Option.some.injEq] at hk;subst hk
  obtain⟨h1,h1',i,en,clock,h2,h3,h4,h5,h6⟩:=h
  exact⟨h1,h1',i,en,clock,by rw[hg];exact h2,h3,RM.mono kp h4,h5,h6⟩
 |lp l r=>simp only[oi,Option.some.injEq] at hk;subst hk;exact⟨by rw[hg];exact h.1,h.2⟩
 |wE=>simp only[oi,Option.some.injEq] at hk;subst hk;obtain⟨i,h1,h2⟩:=h;exact⟨i,by rw[hg];exact h1,h2⟩
 |
  tv gg t v=>
  simp only[oi] at hk
  split at hk
  ·rename_i u hu
   split at hk
   ·rename_i hc
    cases hk
    obtain⟨h0,h1,h2,c,e,h4,h5⟩:=h
    exact⟨by rw[hg];exact h0,by rw[hbt];exact h1,hc,c,e,h4,g.rc v u _ hu h5⟩
   ·cases hk
  ·cases hk
def fz(hb:Nat→Option aj)(b:Nat)(t:Ty):AV→Option AV
 | .own c=>if Nat.beq c b then(view hb (.own c) false t).map (·.1) else some (.own c)
 | .mo c lo len=>if Nat.beq c b then(view hb (.mo c lo len) false t).map (·.1) else some (.mo c lo len)
 | .ka c p lo len=>if Nat.beq c b then(view hb (.ka c p lo len) false t).map (·.1) else some (.ka c p lo len)
 | .ptr c p=>if Nat.beq c b then(view hb (.ptr c p) false t).map (·.1) else some (.ptr c p)
 | .mp c=>if Nat.beq c b then none else some (.mp c)
 |
  .func fn fs cs=>match fz hb b t fs,fz hb b t cs with
  |some f,some c=>if f.atoms&&c.atoms then some (.func fn f c) else none
  |_,_=>none
 |
  .iface u v=>match fz hb b t v with
  |some x=>some (.iface u x)
  |none=>none
 |
  .cons x y=>match fz hb b t x,fz hb b t y with
  |some u,some v=>some (.cons u v)
  |_,_=>none
 | .bot=>none
 | .bU _=>none
 | .opt _ _=>none
 |x=>some x
theorem jN{hb:Nat→Option aj}{x y:AV}{t:Ty}{l:List Nat}{b:Nat}(hx:x= .own b∨(∃lo len,x= .mo b lo len)∨(∃p lo len,x= .ka b p lo len)∨(∃p,x= .ptr b p))(h:view hb x false t=some (y,l)):l= [b]:=by
 rcases hx with rfl|⟨lo,len,rfl⟩|⟨p,lo,len,rfl⟩|⟨p,rfl⟩
 ·have h':(match dE hb b with|some ⟨bs,t,xs⟩=>some (AV.val (.slice bs t) xs,[b])|none=>none)=some (y,l):=by cases t<;>exact h
  split at h'<;>cases h';rfl
 ·have h':(match dE hb b with|some ⟨bs,t,xs⟩=>some (AV.val (.slice bs t) ((xs.drop lo).take len),[b])|none=>none)=some (y,l):=by cases t<;>exact h
  split at h'<;>cases h';rfl
 ·cases t with
  |
   slice bs t=>
   simp only[view] at h
   split at h
   ·split at h
    ·split at h
     ·cases h;rfl
     ·cases h
    ·cases h
   ·cases h
  |_=>simp[view] at h
 ·have h':(match hb b with
   |
    some k=>match kH k p,(im k).sub p with
    |
     some u,some s=>match u.bc s with
     |some y=>some (AV.ec s y,[b])
     |none=>none
    |_,_=>none
   |none=>none)=some (y,l):=by cases t<;>exact h
  split at h'
  ·split at h'
   ·split at h'
    ·cases h';rfl
    ·cases h'
   ·cases h'
  ·cases h'
theorem FC{gl:Ctx}{E:Env}{w:World}{hp:List (Option aj)}(hw:HW gl E w hp){hb:Nat→Option aj}(hB:HB hb hp)(b:Nat)(t:Ty):Good E (E.bZ [b]) w (fz hb b t) where
 mp:=by
  intro c y h
  simp only[fz] at h
  split at h
  ·cases h
  ·cases h;exact⟨c,rfl,rfl⟩
 rc:=
  by
  have kp:bm E w (E.bZ [b]) w:=Env.dF [b]
  intro x
  induction x with
  |
   own c=>
   intro y vs h hr
   simp only[fz] at h
   split at h
   ·rename_i e;have e:=Nat.eq_of_beq_eq_true e;subst e
    simp only[Option.map_eq_some_iff] at h
    obtain⟨⟨z,l⟩,h1,rfl⟩:=h
    have:=jN (Or.inl rfl) h1;subst this
    exact kY hw hB h1 hr
   ·cases h;exact RC.mono kp (fun _ _=>⟨rfl,rfl,rfl⟩) hr
  |
   mo c lo len=>
   intro y vs h hr
   simp only[fz] at h
   split at h
   ·rename_i e;have e:=Nat.eq_of_beq_eq_true e;subst e
    simp only[Option.map_eq_some_iff] at h
    obtain⟨⟨z,l⟩,h1,rfl⟩:=h
    have:=jN (Or.inr (Or.inl ⟨lo,len,rfl⟩)) h1;subst this
    exact kY hw hB h1 hr
   ·cases h;exact RC.mono kp (fun _ _=>⟨rfl,rfl,rfl⟩) hr
  |
   ka c p lo len=>
   intro y vs h hr
   simp only[fz] at h
   split at h
   ·rename_i e;have e:=Nat.eq_of_beq_eq_true e;subst e
    simp only[Option.map_eq_some_iff] at h
    obtain⟨⟨z,l⟩,h1,rfl⟩:=h
    have:=jN (Or.inr (Or.inr (Or.inl ⟨p,lo,len,rfl⟩))) h1;subst this
    exact kY hw hB h1 hr
   ·cases h;exact RC.mono kp (fun _ _=>⟨rfl,rfl,rfl⟩) hr
  |
   ptr c p=>
   intro y vs h hr
   simp only[fz] at h
   split at h
   ·rename_i e;have e:=Nat.eq_of_beq_eq_true e;subst e
    simp only[Option.map_eq_some_iff] at h
    obtain⟨⟨z,l⟩,h1,rfl⟩:=h
    have:=jN (Or.inr (Or.inr (Or.inr ⟨p,rfl⟩))) h1;subst this
    exact kY hw hB h1 hr
   ·cases h;exact RC.mono kp (fun _ _=>⟨rfl,rfl,rfl⟩) hr
  |
   mp c=>
   intro y vs h hr
   simp only[fz] at h
   split at h
   ·cases h
   ·cases h;exact RC.mono kp (fun _ _=>⟨rfl,rfl,rfl⟩) hr
  |
   func fn fs cs Sn Sk=>
   intro y vs h hr
   simp only[fz] at h
   split at h
   ·rename_i f c h1 h2
    split at h
    ·rename_i ha
     cases h
     simp only[Bool.and_eq_true] at ha
     obtain⟨f',c',e,r1,r2,_,_⟩:=hr
     exact⟨f',c',e,Sn f _ h1 r1,Sk c _ h2 r2,ha.1,ha.2⟩
    ·cases h
   ·cases h
  |
   iface u v ih=>
   intro y vs h hr
   simp only[fz] at h
   split at h
   ·rename_i z hz
    cases h
    obtain⟨x,e,hr⟩:=hr
    refine⟨x,e,?_⟩
    have Sc:=fzAgg v z hz
    rcases hr with⟨h1,cs,e2,h3⟩|⟨h1,h3⟩
    ·exact Or.inl ⟨by rw[Sc];exact h1,cs,e2,ih z _ hz h3⟩
    ·exact Or.inr ⟨by rw[Sc];exact h1,ih z _ hz h3⟩
   ·cases h
  |
   cons a c Sn Sk=>
   intro y vs h hr
   simp only[fz] at h
   split at h
   ·rename_i u v h1 h2
    cases h
    obtain⟨v1,v2,e,r1,r2⟩:=hr
    exact⟨v1,v2,e,Sn u _ h1 r1,Sk v _ h2 r2⟩
   ·cases h
  |bot=>intro y vs h;simp[fz] at h
  |bU l=>intro y vs h;simp[fz] at h
  |opt c v=>intro y vs h;simp[fz] at h
  |_=>intro y vs h hr;simp only[fz,Option.some.injEq] at h;subst h;exact RC.mono kp (fun _ _=>⟨rfl,rfl,rfl⟩) hr
 agg:=fun x y h=>fzAgg x y h
 fn:=
  by
  intro fn fs cs y h
  simp only[fz] at h
  split at h
  ·rename_i f c h1 h2
   split at h
   ·rename_i ha
    cases h
    simp only[Bool.and_eq_true] at ha
    exact⟨f,c,rfl,h1,h2,ha.1,ha.2⟩
   ·cases h
  ·cases h
where
 fzAgg {hb:Nat→Option aj} {b:Nat} {t:Ty} (x y:AV) (h:fz hb b t x=some y):y.isAgg=x.isAgg:=by
  cases x with
  |
   own c=>
   simp only[fz] at h
   split at h
   ·simp only[Option.map_eq_some_iff] at h;obtain⟨⟨z,l⟩,h1,rfl⟩:=h;exact ir h1
   ·cases h;rfl
  |
   mo c lo len=>
   simp only[fz] at h
   split at h
   ·simp only[Option.map_eq_some_iff] at h;obtain⟨⟨z,l⟩,h1,rfl⟩:=h;exact ir h1
   ·cases h;rfl
  |
   ka c p lo len=>
   simp only[fz] at h
   split at h
   ·simp only[Option.map_eq_some_iff] at h;obtain⟨⟨z,l⟩,h1,rfl⟩:=h;exact ir h1
   ·cases h;rfl
  |
   ptr c p=>
   simp only[fz] at h
   split at h
   ·simp only[Option.map_eq_some_iff] at h;obtain⟨⟨z,l⟩,h1,rfl⟩:=h;exact ir h1
   ·cases h;rfl
  |
   mp c=>
   simp only[fz] at h
   split at h
   ·cases h
   ·cases h;rfl
  |
   func fn fs cs=>
   simp only[fz] at h
   split at h
   ·split at h
    ·cases h;rfl
    ·cases h
   ·cases h
  |
   iface u v=>
   simp only[fz] at h
   split at h
   ·cases h;rfl
   ·cases h
  |
   cons a c=>
   simp only[fz] at h
   split at h
   ·cases h;rfl
   ·cases h
  |bot=>simp[fz] at h
  |bU l=>simp[fz] at h
  |opt c v=>simp[fz] at h
  |_=>simp only[fz,Option.some.injEq] at h;subst h;rfl
def wW(hp:List (Option aj))(b:Nat):Option aj:=(hp[b]?).join
theorem pF(hp:List (Option aj)):HB (wW hp) hp:=by
 intro b k hk
 unfold wW at hk
 cases hh:hp[b]? with
 |none=>simp[hh] at hk
 |some z=>simp[hh] at hk;rw[hk]
def freeze(b:Nat)(t:Ty)(σ:St):Option St:=
 match wW σ.hp b with
 |some _=>St.zS (fz (wW σ.hp) b t) {σ with hp:=σ.hp.set b none}
 |none=>none
theorem Wk.freeze{gl:Ctx}{b:Nat}{t:Ty}{σ σ':St}(h:Abs.freeze b t σ=some σ'):Wk gl σ σ':=by
 intro E a w hg
 unfold Abs.freeze at h
 split at h
 ·rename_i k hk
  have hbk:=pF σ.hp b k hk
  unfold St.zS at h
  split at h
  ·rename_i R0 Si h1 h2
   cases h
   have good:=FC hg.hw (pF σ.hp) b t
   have hSle:∀i,E.S i→(E.bZ [b]).S i:=fun i hi=>Or.inl hi
   have src:∀(i:Nat)(k':aj),R0[i]? =some (some k')→∃k0,i≠b∧σ.hp[i]? =some (some k0)∧oi (fz (wW σ.hp) b t) (some k0)=some (some k'):=by
    intro i k' hi
    obtain⟨k0,e1,e2⟩:=re h1 hi
    simp only[List.getElem?_set] at e1
    split at e1
    ·split at e1<;>cases e1
    ·rename_i R7;exact⟨k0,fun e=>R7 e.symm,e1,e2⟩
   refine⟨E.bZ [b],⟨?_,?_,⟨?_,?_,?_,?_,hg.hw.ik (Env.dF [b])⟩,good.RD h2 hg.df⟩,⟨rfl,Tp.r rfl rfl,rfl,Nat.le_refl _,fun _ _ _=>rfl,hSle,?_,?_,fun _ _=>⟨rfl,rfl,rfl⟩⟩⟩
   ·simp only[qY];exact hg.len
   ·intro i y hy v hv
    rcases qZ hy with e|⟨x,e1,e2,e3⟩
    ·subst e;trivial
    ·exact RV.fD (good.RV e3 (RV.mq e2 (hg.tm i x e1 v hv)))
   ·intro i k' hi
    obtain⟨k0,_,e1,e2⟩:=src i k' hi
    exact good.RB hSle (b:=i) (b':=i) rfl rfl rfl e2 (hg.hw.bh i k0 e1)
   ·intro i j k1 k2 g' hi hj g1 g2
    obtain⟨k3,_,e1,_⟩:=src i k1 hi
    obtain⟨k4,_,e2,_⟩:=src j k2 hj
    exact hg.hw.sep i j k3 k4 g' e1 e2 g1 g2
   ·intro i k' g' hi SY hs
    obtain⟨k0,R7,e1,_⟩:=src i k' hi
    rcases hs with hs|⟨c,hc,e⟩
    ·exact hg.hw.fo i k0 g' e1 SY hs
    ·simp at hc;subst hc
     exact R7 (hg.hw.sep i c k0 k g' e1 hbk SY e)
   ·intro g' hs
    rcases hs with hs|⟨c,hc,e⟩
    ·exact hg.hw.slt g' hs
    ·simp at hc;subst hc
     exact Own.below hg.hw ⟨c,k,hbk,e⟩
   ·intro g' hs
    rcases hs with hs|⟨c,hc,e⟩
    ·exact Or.inl hs
    ·simp at hc;subst hc
     exact Or.inr (Or.inl ⟨c,k,hbk,e⟩)
   ·rintro g' ⟨i,k',hi,SY⟩
    obtain⟨k0,_,e1,_⟩:=src i k' hi
    exact Or.inl ⟨i,k0,e1,SY⟩
  ·cases h
 ·cases h
end Go.Abs
namespace Go.Abs
def FD(b b' c:Nat):Nat:=if Nat.beq c b then b' else c
def rn(b b':Nat):AV→Option AV
 | .own c=>some (.own (FD b b' c))
 | .mo c lo len=>some (.mo (FD b b' c) lo len)
 | .ka c p lo len=>some (.ka (FD b b' c) p lo len)
 | .ptr c p=>some (.ptr (FD b b' c) p)
 | .mp c=>some (.mp (FD b b' c))
 |
  .func fn fs cs=>match rn b b' fs,rn b b' cs with
  |some f,some c=>if f.atoms&&c.atoms then some (.func fn f c) else none
  |_,_=>none
 |
  .iface u v=>match rn b b' v with
  |some x=>some (.iface u x)
  |none=>none
 |
  .cons x y=>match rn b b' x,rn b b' y with
  |some u,some v=>some (.cons u v)
  |_,_=>none
 | .bot=>none
 | .bU _=>none
 | .opt _ _=>none
 |x=>some x
def Env.mv(E:Env)(b b':Nat):Env:={E with g:=fun c=>if c=b' then E.g b else E.g c,sv:=fun c=>if c=b' then E.sv b else E.sv c,bt:=fun c=>if c=b' then E.bt b else E.bt c}
theorem tw{E:Env}{b b' c:Nat}(h:c≠b'):(E.mv b b').g (FD b b' c)=E.g c∧(E.mv b b').sv (FD b b' c)=E.sv c∧(E.mv b b').bt (FD b b' c)=E.bt c:=by
 unfold FD
 split
 ·rename_i e;have e:=Nat.eq_of_beq_eq_true e;subst e;simp[Env.mv]
 ·simp[Env.mv,h]
theorem Da(b b':Nat)(x y:AV)(h:rn b b' x=some y):y.isAgg=x.isAgg:=by
 cases x with
 |
  func fn fs cs=>
  simp only[rn] at h
  split at h
  ·split at h
   ·cases h;rfl
   ·cases h
  ·cases h
 |
  iface u v=>
  simp only[rn] at h
  split at h
  ·cases h;rfl
  ·cases h
 |
  cons a c=>
  simp only[rn] at h
  split at h
  ·cases h;rfl
  ·cases h
 |bot=>simp[rn] at h
 |bU l=>simp[rn] at h
 |opt c v=>simp[rn] at h
 |_=>simp only[rn,Option.some.injEq] at h;subst h;rfl
theorem NV{E:Env}{w:World}{b b':Nat}:∀{x y:AV}{vs:List Value},b'∉x.ids→rn b b' x=some y→RC E w x vs→RC (E.mv b b') w y vs:=by
 intro x
 induction x with
 |own c=>
  intro y vs hi h hr;simp only[rn,Option.some.injEq] at h;subst h
  obtain⟨_,e2,_⟩:=tw (E:=E) (b:=b) (b':=b') (c:=c) (fun e=>hi (by simp[AV.ids,e]))
  simp only[RC];rw[e2];exact hr
 |mo c lo len=>
  intro y vs hi h hr;simp only[rn,Option.some.injEq] at h;subst h
  obtain⟨_,e2,e3⟩:=tw (E:=E) (b:=b) (b':=b') (c:=c) (fun e=>hi (by simp[AV.ids,e]))
  simp only[RC];rw[e2,e3];exact hr
 |ka c p lo len=>
  intro y vs hi h hr;simp only[rn,Option.some.injEq] at h;subst h
  obtain⟨e1,_,e3⟩:=tw (E:=E) (b:=b) (b':=b') (c:=c) (fun e=>hi (by simp[AV.ids,e]))
  simp only[RC];rw[e1,e3];exact hr
 |ptr c p=>
  intro y vs hi h hr;simp only[rn,Option.some.injEq] at h;subst h
  obtain⟨e1,_,e3⟩:=tw (E:=E) (b:=b) (b':=b') (c:=c) (fun e=>hi (by simp[AV.ids,e]))
  simp only[RC];rw[e1,e3];exact hr
 |mp c=>
  intro y vs hi h hr;simp only[rn,Option.some.injEq] at h;subst h
  obtain⟨e1,_,_⟩:=tw (E:=E) (b:=b) (b':=b') (c:=c) (fun e=>hi (by simp[AV.ids,e]))
  simp only[RC];rw[e1];exact hr
 |
  func fn fs cs Sn Sk=>
  intro y vs hi h hr
  simp only[rn] at h
  simp only[AV.ids,List.mem_append,not_or] at hi
  split at h
  ·rename_i f c h1 h2
   split at h
   ·rename_i ha
    cases h
    simp only[Bool.and_eq_true] at ha
    obtain⟨f',c',e,r1,r2,_,_⟩:=hr
    exact⟨f',c',e,Sn hi.1 h1 r1,Sk hi.2 h2 r2,ha.1,ha.2⟩
   ·cases h
  ·cases h
 |
  iface u v ih=>
  intro y vs hi h hr
  simp only[rn] at h
  split at h
  ·rename_i z hz
   cases h
   obtain⟨x,e,hr⟩:=hr
   refine⟨x,e,?_⟩
   have Sc:=Da b b' v z hz
   rcases hr with⟨h1,cs,e2,h3⟩|⟨h1,h3⟩
   ·exact Or.inl ⟨by rw[Sc];exact h1,cs,e2,ih hi hz h3⟩
   ·exact Or.inr ⟨by rw[Sc];exact h1,ih hi hz h3⟩
  ·cases h
 |
  cons a c Sn Sk=>
  intro y vs hi h hr
  simp only[rn] at h
  simp only[AV.ids,List.mem_append,not_or] at hi
  split at h
  ·rename_i u v h1 h2
   cases h
   obtain⟨v1,v2,e,r1,r2⟩:=hr
   exact⟨v1,v2,e,Sn hi.1 h1 r1,Sk hi.2 h2 r2⟩
  ·cases h
 |bot=>intro y vs _ h;simp[rn] at h
 |bU l=>intro y vs _ h;simp[rn] at h
 |opt c v=>intro y vs _ h;simp[rn] at h
 |_=>intro y vs _ h hr;simp only[rn,Option.some.injEq] at h;subst h;exact hr
theorem J2{E:Env}{w:World}{b b':Nat}:Good E (E.mv b b') w (fun x=>if bS b' x.ids then none else rn b b' x) where
 mp:=by
  intro c y h
  split at h
  ·cases h
  ·rename_i hn
   have hn:=c9 (show bS b' (AV.mp c).ids=false by simpa using hn)
   simp only[rn,Option.some.injEq] at h
   subst h
   exact⟨_,rfl,(tw (fun e=>hn (by simp[AV.ids,e]))).1⟩
 rc:=by
  intro x y vs h hr
  split at h
  ·cases h
  ·rename_i hn;exact NV (c9 (by simpa using hn)) h hr
 agg:=by
  intro x y h
  split at h
  ·cases h
  ·exact Da b b' x y h
 fn:=
  by
  intro fn fs cs y h
  split at h
  ·cases h
  ·rename_i hn
   have hn:=c9 (show bS b' (AV.func fn fs cs).ids=false by simpa using hn)
   simp only[AV.ids,List.mem_append,not_or] at hn
   simp only[rn] at h
   have f1:bS b' fs.ids=false:=by
    cases hh:bS b' fs.ids with
    |false=>rfl
    |true=>exact absurd (hasNatMem hh) hn.1
   have f2:bS b' cs.ids=false:=by
    cases hh:bS b' cs.ids with
    |false=>rfl
    |true=>exact absurd (hasNatMem hh) hn.2
   split at h
   ·rename_i f c h1 h2
    split at h
    ·rename_i ha
     cases h
     simp only[Bool.and_eq_true] at ha
     exact⟨f,c,rfl,by simp[f1,h1],by simp[f2,h2],ha.1,ha.2⟩
    ·cases h
   ·cases h
where
 hasNatMem {d:Nat}:∀{l:List Nat},bS d l=true→d∈l
  |[],h=>by cases h
  |
   x::l,h=>by
   simp only[bS,Bool.or_eq_true] at h
   rcases h with h|h
   ·rw[Nat.eq_of_beq_eq_true h];exact List.mem_cons_self ..
   ·exact List.mem_cons_of_mem _ (hasNatMem h)
def rename(b b':Nat)(σ:St):Option St:=
 match wW σ.hp b,wW σ.hp b' with
 |
  some k,none=>if Nat.beq b b'||Nat.blt b' 16 then none else
  match St.zS (fun x=>if bS b' x.ids then none else rn b b' x) {σ with hp:=σ.hp.set b none},oi (fun x=>if bS b' x.ids then none else rn b b' x) (some k) with
  |some σ',some k'=>some {σ' with hp:=σ'.hp.set b' k'}
  |_,_=>none
 |_,_=>none
theorem Wk.rename{gl:Ctx}{b b':Nat}{σ σ':St}(h:Abs.rename b b' σ=some σ'):Wk gl σ σ':=by
 intro E a w hg
 unfold Abs.rename at h
 split at h
 ·rename_i k hk hk'
  have hbk:=pF σ.hp b k hk
  split at h
  ·cases h
  ·rename_i hne0
   have R7:b≠b':=fun e=>hne0 (by simp[e])
   have h16:16≤b':=by
    rcases Nat.lt_or_ge b' 16 with hq|hq
    ·have hq':Nat.blt b' 16=true:=Nat.ble_eq_true_of_le (Nat.succ_le_of_lt hq)
     exact absurd (by rw[hq'];simp) hne0
    ·exact hq
   split at h
   ·rename_i σ1 k1 h1 h2
    cases h
    unfold St.zS at h1
    split at h1
    ·rename_i R0 Si h3 h4
     cases h1
     have good:=J2 (E:=E) (w:=w) (b:=b) (b':=b')
     have hEo:∀i,i≠b'→(E.mv b b').g i=E.g i∧(E.mv b b').sv i=E.sv i∧(E.mv b b').bt i=E.bt i:=fun i hi=>by simp[Env.mv,hi]
     have hEn:(E.mv b b').g b'=E.g b∧(E.mv b b').sv b'=E.sv b∧(E.mv b b').bt b'=E.bt b:=by simp[Env.mv]
     have src:∀(i:Nat)(k':aj),(R0.set b' k1)[i]? =some (some k')→(i=b'∧k1=some k')∨(i≠b'∧i≠b∧∃k0,σ.hp[i]? =some (some k0)∧oi (fun x=>if bS b' x.ids then none else rn b b' x) (some k0)=some (some k')):=by
      intro i k' hi
      rw[List.getElem?_set] at hi
      split at hi
      ·rename_i e;subst e
       split at hi
       ·cases hi;exact Or.inl ⟨rfl,rfl⟩
       ·cases hi
      ·rename_i hne'
       obtain⟨k0,e1,e2⟩:=re h3 hi
       simp only[List.getElem?_set] at e1
       split at e1
       ·split at e1<;>cases e1
       ·rename_i hne2;exact Or.inr ⟨fun e=>hne' e.symm,fun e=>hne2 e.symm,k0,e1,e2⟩
     have gOf:∀(i:Nat)(k':aj),(R0.set b' k1)[i]? =some (some k')→∃j k0,σ.hp[j]? =some (some k0)∧(E.mv b b').g i=E.g j∧(i=b'→j=b)∧(i≠b'→j=i):=by
      intro i k' hi
      rcases src i k' hi with⟨e,_⟩|⟨e1,e2,k0,e3,_⟩
      ·subst e;exact⟨b,k,hbk,hEn.1,fun _=>rfl,fun e=>absurd rfl e⟩
      ·exact⟨i,k0,e3,(hEo i e1).1,fun e=>absurd e e1,fun _=>rfl⟩
     refine⟨E.mv b b',⟨?_,?_,⟨?_,?_,?_,hg.hw.slt,hg.hw.gl⟩,good.RD h4 hg.df⟩,⟨rfl,Tp.r rfl rfl,rfl,Nat.le_refl _,fun _ _ _=>rfl,fun _ h=>h,fun _ h=>Or.inl h,?_,fun i hi=>hEo i (by omega)⟩⟩
     ·simp only[qY];exact hg.len
     ·intro i y hy v hv
      rcases qZ hy with e|⟨x,e1,e2,e3⟩
      ·subst e;trivial
      ·exact RV.fD (good.RV e3 (RV.mq e2 (hg.tm i x e1 v hv)))
     ·intro i k' hi
      rcases src i k' hi with⟨e,e'⟩|⟨e1,e2,k0,e3,e4⟩
      ·subst e
       rw[e'] at h2
       exact good.RB (fun _ h=>h) (b:=b) (b':=i) hEn.1 hEn.2.1 hEn.2.2 h2 (hg.hw.bh b k hbk)
      ·exact good.RB (fun _ h=>h) (b:=i) (b':=i) (hEo i e1).1 (hEo i e1).2.1 (hEo i e1).2.2 e4 (hg.hw.bh i k0 e3)
     ·intro i j k2 k3 g' hi hj g1 g2
      obtain⟨i',k4,e1,e2,e3,e4⟩:=gOf i k2 hi
      obtain⟨j',k5,f1,f2,f3,f4⟩:=gOf j k3 hj
      rw[e2] at g1;rw[f2] at g2
      have hij:=hg.hw.sep i' j' k4 k5 g' e1 f1 g1 g2
      by_cases hi':i=b'<;>by_cases hj':j=b'
      ·rw[hi',hj']
      ·have h1:=e3 hi';have h2:=f4 hj'
       rcases src j k3 hj with⟨q,_⟩|⟨_,q,_⟩
       ·exact absurd q hj'
       ·exact absurd (by rw[←h2,←hij,h1]) q
      ·have h1:=e4 hi';have h2:=f3 hj'
       rcases src i k2 hi with⟨q,_⟩|⟨_,q,_⟩
       ·exact absurd q hi'
       ·exact absurd (by rw[←h1,hij,h2]) q
      ·rw[←e4 hi',←f4 hj',hij]
     ·intro i k' g' hi SY hs
      obtain⟨i',k4,e1,e2,_,_⟩:=gOf i k' hi
      rw[e2] at SY
      exact hg.hw.fo i' k4 g' e1 SY hs
     ·rintro g' ⟨i,k',hi,SY⟩
      obtain⟨i',k4,e1,e2,_,_⟩:=gOf i k' hi
      rw[e2] at SY
      exact Or.inl ⟨i',k4,e1,SY⟩
    ·cases h1
   ·cases h
 ·cases h
def ld(s b:Nat)(e:TypeId)(bs:Nat)(t:Ty)(σ:St):Option St:=
 match σ.tm[s]? with
 |some .dS=>if σ.oA b&&Nat.blt 0 t.size then some {σ with tm:=σ.tm.set s (.own b),hp:=σ.hp.set b (some (.row e bs t []))} else none
 |_=>none
theorem Wk.ld{gl:Ctx}{s b:Nat}{e:TypeId}{bs:Nat}{t:Ty}{σ σ':St}(h:Abs.ld s b e bs t σ=some σ'):Wk gl σ σ':=by
 intro E a w hg
 unfold Abs.ld at h
 split at h
 ·rename_i hs
  split at h
  ·rename_i hc
   cases h
   simp only[Bool.and_eq_true] at hc
   have Sg:s<a.tmps.size:=by rw[hg.len];exact(List.getElem?_eq_some_iff.1 hs).1
   have ha:=RV.atom rfl (hg.tm s _ hs a.tmps[s] (by simp[Sg]))
   simp[RC] at ha
   have Sd:0<t.size:=by have:=hc.2;simp[Nat.blt] at this;omega
   obtain⟨g1,x1⟩:=hg.fresh (w':=w) (St.nc hc.1) (g:=none) (sv:=.slice none 0 0) (t:=.arr 0 t) (k:=.row e bs t []) rfl (Tp.r rfl rfl) rfl (Nat.le_refl _) (fun _ _=>rfl) (fun i hi=>by cases hi)
    ⟨by simp[Env.at],by simp,by simp,Sd,none,0,by simp[Env.at],by simp[maxLen],Or.inl ⟨⟨rfl,rfl⟩,by simp[Env.at],rfl⟩⟩
   refine⟨_,⟨by simp[hg.len],?_,g1.hw,g1.df⟩,x1⟩
   intro i x hx v hv
   rw[List.getElem?_set] at hx
   split at hx
   ·rename_i e';subst e'
    split at hx
    ·cases hx
     have:v= .slice none 0 0:=by rw[Array.getElem?_eq_getElem Sg] at hv;cases hv;exact ha
     subst this
     exact RV.fD (Or.inr ⟨rfl,by simp[Env.at],none,0,0,by simp[Env.at]⟩)
    ·cases hx
   ·exact g1.tm i x hx v hv
  ·cases h
 ·cases h
def kC:Ty→Path→Bool
 | .pair a _,.fG 0::p=>kC a p
 | .pair _ b,.fG (k+1)::p=>kC b (.fG k::p)
 |_,[]=>true
 |_,_=>false
theorem A2:∀{t:Ty}{p:Path},kC t p=true→t.valid p:=by
 intro t
 induction t with
 |
  pair a b Sn Sk=>
  intro p h
  cases p with
  |nil=>simp[Ty.valid]
  |
   cons s p=>
   cases s with
   |
    fG k=>cases k with
    |zero=>simp only[kC] at h;simp only[Ty.valid];exact Sn h
    |succ k=>simp only[kC] at h;simp only[Ty.valid];exact Sk h
   |idx i=>simp[kC] at h
 |
  _=>
  intro p h
  cases p with
  |nil=>simp[Ty.valid]
  |cons s p=>simp[kC] at h
def wX(c:Nat)(p:Path)(b:Nat)(e:TypeId)(bs:Nat)(t:Ty)(σ:St):Option St:=
 match wW σ.hp c with
 |
  some (.var tt v)=>match v.get p,v.set p (.own b) with
  |some .dS,some u=>if σ.oA b&&Nat.blt 0 t.size&&u.bB tt&&kC tt p&& !Nat.beq c b then some {σ with hp:=(σ.hp.set b (some (.row e bs t []))).set c (some (.var tt u))} else none
  |_,_=>none
 |_=>none
theorem Wk.wX{gl:Ctx}{c:Nat}{p:Path}{b:Nat}{e:TypeId}{bs:Nat}{t:Ty}{σ σ':St}(h:Abs.wX c p b e bs t σ=some σ'):Wk gl σ σ':=by
 intro E a w hg
 unfold Abs.wX at h
 split at h
 ·rename_i tt v hc
  have hbk:=pF σ.hp c _ hc
  split at h
  ·rename_i u SU aA
   split at h
   ·rename_i hk
    cases h
    simp only[Bool.and_eq_true] at hk
    obtain⟨⟨⟨⟨k1,k2⟩,k3⟩,k4⟩,k5⟩:=hk
    have hcb:c≠b:=fun e'=>by subst e';simp at k5
    have Sd:0<t.size:=by have:=k2;simp[Nat.blt] at this;omega
    obtain⟨g1,x1⟩:=hg.fresh (w':=w) (St.nc k1) (g:=none) (sv:=.slice none 0 0) (t:=.arr 0 t) (k:=.row e bs t []) rfl (Tp.r rfl rfl) rfl (Nat.le_refl _) (fun _ _=>rfl) (fun i hi=>by cases hi)
     ⟨by simp[Env.at],by simp,by simp,Sd,none,0,by simp[Env.at],by simp[maxLen],Or.inl ⟨⟨rfl,rfl⟩,by simp[Env.at],rfl⟩⟩
    have hb1:(σ.hp.set b (some (.row e bs t [])))[c]? =some (some (.var tt v)):=by
     rw[List.getElem?_set,if_neg (fun e'=>hcb e'.symm)];exact hbk
    obtain⟨r1,r2,g,cs,e',r3,r4,r5⟩:=g1.hw.bh c _ hb1
    have hva:=A2 k4
    obtain⟨s,q1,q2,q3,q4⟩:=AV.rz r5 r2 hva SU
    have hs1:s.size=1:=AV.fe q2▸rfl
    have hown:RC (E.at b none (.slice none 0 0) (.arr 0 t)) w (.own b) [.slice none 0 0]:=⟨by simp[Env.at],none,0,0,by simp[Env.at]⟩
    obtain⟨s',p1,p2,p3,p4⟩:=AV.u9 hown r5 r2 hva (fun s' hs'=>by rw[q1] at hs';cases hs';simp[hs1]) aA
    rw[q1] at p1;cases p1
    simp only[RC] at q4
    have hcs:cs.toList.take (tt.off p)++[Value.slice none 0 0]++cs.toList.drop (tt.off p+s.size)=cs.toList:=by
     rw[←q4,List.append_assoc,←List.drop_drop,List.take_append_drop,List.take_append_drop]
    rw[hcs] at p4
    have hw2:=g1.hw.write (w':=w) (k':=.var tt u) hb1 rfl (fun _ _=>rfl) ⟨r1,k3,g,cs,e',r3,r4,p4⟩
    refine⟨_,⟨g1.len,g1.tm,hw2,g1.df⟩,{x1 with own:=?_ }⟩
    intro g' hg'
    exact x1.own g' (Own.yI hb1 hg')
   ·cases h
  ·cases h
 ·cases h
inductive Gh where
 |ak (ts bs:List Nat)
 |Fx (s:Nat) (t:Ty)
 |Fz (b:Nat)
 |freeze (b:Nat) (t:Ty)
 |oP (b b':Nat)
 |ld (s b:Nat) (e:TypeId) (bs:Nat) (t:Ty)
 |wX (c:Nat) (p:Path) (b:Nat) (e:TypeId) (bs:Nat) (t:Ty)
def Gh.go(σ:St):Gh→Option St
 | .ak ts bs=>some ⟨dU ts 0 σ.tm,qX bs 0 σ.hp,σ.df⟩
 |
  .Fx s t=>match σ.tm[s]? with
  |
   some x=>match x.bc t with
   |some y=>some {σ with tm:=σ.tm.set s (.val t y)}
   |none=>none
  |none=>none
 |
  .Fz b=>match σ.hp[b]? with
  |
   some (some (.var t v))=>match v.bc t with
   |some y=>some {σ with hp:=σ.hp.set b (some (.var t (.val t y)))}
   |none=>none
  |_=>none
 | .freeze b t=>Abs.freeze b t σ
 | .oP b b'=>rename b b' σ
 | .ld s b e bs t=>Abs.ld s b e bs t σ
 | .wX c p b e bs t=>Abs.wX c p b e bs t σ
def A3:List Gh→St→Option St
 |[],σ=>some σ
 |
  g::l,σ=>match g.go σ with
  |some σ'=>A3 l σ'
  |none=>none
theorem Gh.ok{gl:Ctx}{g:Gh}{σ σ':St}(h:g.go σ=some σ'):Wk gl σ σ':=by
 cases g with
 |ak ts bs=>cases h;exact Wk.ak gl σ ts bs
 |
  Fx s t=>
  simp only[Gh.go] at h
  split at h
  ·rename_i x hx
   split at h
   ·rename_i y hy;cases h;exact Wk.Fx hx hy
   ·cases h
  ·cases h
 |
  Fz b=>
  simp only[Gh.go] at h
  split at h
  ·rename_i t v hb
   split at h
   ·rename_i y hy;cases h;exact Wk.Fz hb hy
   ·cases h
  ·cases h
 |freeze b t=>exact Wk.freeze h
 |oP b b'=>exact Wk.rename h
 |ld s b e bs t=>exact Wk.ld h
 |wX c p b e bs t=>exact Wk.wX h
theorem jO{gl:Ctx}:∀{l:List Gh}{σ σ':St},A3 l σ=some σ'→Wk gl σ σ'
 |[],σ,σ',h=>by cases h;exact Wk.refl gl σ
 |
  g::l,σ,σ',h=>by
  simp only[A3] at h
  split at h
  ·rename_i σ1 h1;exact(Gh.ok h1).trans (jO h)
  ·cases h
section
variable{P:Program} {gl:Ctx} {σ:St} {Q:jG→St→Prop}
theorem ai.wk{c:Code}{σ':St}(h:Wk gl σ σ')(hr:ai P gl c σ' Q):ai P gl c σ Q:=by
 intro E a w hg
 obtain⟨E1,g1,x1⟩:=h E a w hg
 refine wpIn_mono (hr E1 a w g1) ?_
 rintro ex a2 w2 ⟨x,σ2,E2,h1,h2,h3,h4⟩
 exact⟨x,σ2,E2,h1,h2,h3,x1.trans h4⟩
theorem ai.gh{c:Code}(l:List Gh){σ':St}(h:A3 l σ=some σ')(hr:ai P gl c σ' Q):ai P gl c σ Q:=ai.wk (jO h) hr
def jQ(gl:Ctx)(J:St→Prop)(Q:jG→St→Prop):jG→St→Prop
 | .normal,σ=>∃σ',Wk gl σ σ'∧J σ'
 |x,σ=>Q x σ
theorem jQ.mk{J:St→Prop}(l:List Gh){σ':St}(h:A3 l σ=some σ')(hj:J σ'):jQ gl J Q .normal σ:=⟨σ',jO h,hj⟩
theorem ai.aZ{x y:Code}(J:St→Prop)(h1:ai P gl x σ (jQ gl J Q))(h2:∀σ',J σ'→ai P gl y σ' Q):ai P gl (.seq x y) σ Q:=by
 refine ai.seq (ai.mono h1 ?_)
 intro x σ' hq
 cases x with
 |normal=>obtain⟨σ2,hw,hj⟩:=hq;exact ai.wk hw (h2 σ2 hj)
 |_=>exact hq
def aV(gl:Ctx)(R:Nat→St→Prop)(n:Nat)(Q:jG→St→Prop):jG→St→Prop
 | .normal,σ=>∃m,m<n∧∃σ',Wk gl σ σ'∧R m σ'
 |x,σ=>Q x σ
theorem aV.mk{R:Nat→St→Prop}{n:Nat}(l:List Gh){σ':St}(h:A3 l σ=some σ')(hj:R n σ'):aV gl R (n+1) Q .normal σ:=⟨n,Nat.lt_succ_self n,σ',jO h,hj⟩
theorem ai.aV{c:Code}(R:Nat→St→Prop){n:Nat}(l:List Gh){σ':St}(h:A3 l σ=some σ')(h0:R n σ')(hR:∀n σ,R n σ→ai P gl c σ (Abs.aV gl R n Q)):ai P gl (.loop c) σ Q:=by
 refine ai.loop (fun n σ=>∃σ',Wk gl σ σ'∧R n σ') ?_ ⟨σ',jO h,h0⟩
 rintro n σ1 ⟨σ2,hw,hr⟩
 refine ai.wk hw (ai.mono (hR n σ2 hr) ?_)
 intro x σ3 hq
 cases x with
 |normal=>obtain⟨m,hm,hh⟩:=hq;exact⟨m,hm,hh⟩
 |_=>exact hq
end
structure Cl(gl:Ctx)(Q:jG→St→Prop):Prop where
 n:∀σ σ',Wk gl σ σ'→Q .normal σ'→Q .normal σ
 e:∀i σ σ',Wk gl σ σ'→Q (.exit i) σ'→Q (.exit i) σ
theorem Cl.j{gl:Ctx}{J:St→Prop}{Q:jG→St→Prop}(h:Cl gl Q):Cl gl (jQ gl J Q):=⟨fun _ _ h ⟨σ2,h2,hj⟩=>⟨σ2,h.trans h2,hj⟩,fun i σ σ' hw hq=>h.e i σ σ' hw hq⟩
theorem Cl.loop{gl:Ctx}{R:Nat→St→Prop}{n:Nat}{Q:jG→St→Prop}(h:Cl gl Q):Cl gl (aV gl R n Q):=⟨fun _ _ h ⟨m,hm,σ2,h2,hj⟩=>⟨m,hm,σ2,h.trans h2,hj⟩,fun i σ σ' hw hq=>h.e i σ σ' hw hq⟩
theorem Cl.bh{gl:Ctx}{id:Nat}{Q:jG→St→Prop}(h:Cl gl Q):Cl gl (iK id Q):=⟨fun σ σ' hw hq=>h.n σ σ' hw hq,fun i σ σ' hw hq=>by
 simp only[iK] at hq ⊢
 split at hq
 ·rename_i e;rw[if_pos e];exact h.n σ σ' hw hq
 ·rename_i e;rw[if_neg e];exact h.e i σ σ' hw hq⟩
theorem ai.lA{P:Program}{gl:Ctx}{σ:St}{Q:jG→St→Prop}{x:Code}(J:St→Prop)(hc:Cl gl Q)(h1:ai P gl x σ (jQ gl J Q))(h2:∀σ',J σ'→Q .normal σ'):ai P gl x σ Q:=
 ai.mono h1 (fun x σ' hq=>by
  cases x with
  |normal=>obtain⟨σ2,hw,hj⟩:=hq;exact hc.n _ _ hw (h2 σ2 hj)
  |_=>exact hq)
def kD(gl:Ctx)(J:St→Prop)(X:Nat→St→Prop)(Q:jG→St→Prop):jG→St→Prop
 | .normal,σ=>∃σ',Wk gl σ σ'∧J σ'
 | .exit i,σ=>∃σ',Wk gl σ σ'∧X i σ'
 |x,σ=>Q x σ
theorem kD.mk{gl:Ctx}{σ:St}{Q:jG→St→Prop}{J:St→Prop}{X:Nat→St→Prop}(l:List Gh){σ':St}(h:A3 l σ=some σ')(hj:J σ'):kD gl J X Q .normal σ:=⟨σ',jO h,hj⟩
theorem kD.ex{gl:Ctx}{σ:St}{Q:jG→St→Prop}{J:St→Prop}{X:Nat→St→Prop}{i:Nat}(l:List Gh){σ':St}(h:A3 l σ=some σ')(hj:X i σ'):kD gl J X Q (.exit i) σ:=⟨σ',jO h,hj⟩
theorem Cl.jx{gl:Ctx}{J:St→Prop}{X:Nat→St→Prop}{Q:jG→St→Prop}:Cl gl (kD gl J X Q):=⟨fun _ _ h ⟨σ2,h2,hj⟩=>⟨σ2,h.trans h2,hj⟩,fun _ _ _ h ⟨σ2,h2,hj⟩=>⟨σ2,h.trans h2,hj⟩⟩
theorem ai.pc{P:Program}{gl:Ctx}{σ:St}{Q:jG→St→Prop}{x y:Code}(J:St→Prop)(X:Nat→St→Prop)(hc:Cl gl Q)(h1:ai P gl x σ (kD gl J X Q))(h3:∀i σ',X i σ'→Q (.exit i) σ')(h2:∀σ',J σ'→ai P gl y σ' Q):ai P gl (.seq x y) σ Q:=by
 refine ai.seq (ai.mono h1 ?_)
 intro x σ' hq
 cases x with
 |normal=>obtain⟨σ2,hw,hj⟩:=hq;exact ai.wk hw (h2 σ2 hj)
 |exit i=>obtain⟨σ2,hw,hj⟩:=hq;exact hc.e i _ _ hw (h3 i σ2 hj)
 |_=>exact hq
theorem ai.Ix{P:Program}{gl:Ctx}{σ:St}{Q:jG→St→Prop}{x:Code}(J:St→Prop)(X:Nat→St→Prop)(hc:Cl gl Q)(h1:ai P gl x σ (kD gl J X Q))(h3:∀i σ',X i σ'→Q (.exit i) σ')(h2:∀σ',J σ'→Q .normal σ'):ai P gl x σ Q:=
 ai.mono h1 (fun x σ' hq=>by
  cases x with
  |normal=>obtain⟨σ2,hw,hj⟩:=hq;exact hc.n _ _ hw (h2 σ2 hj)
  |exit i=>obtain⟨σ2,hw,hj⟩:=hq;exact hc.e i _ _ hw (h3 i σ2 hj)
  |_=>exact hq)
theorem tE{P:Program}{gl:Ctx}{y:Code}{i:Nat}{Q:jG→St→Prop}{σ:St}(h:Q (.exit i) σ):zp P gl y Q (.exit i) σ:=h
theorem lE{gl:Ctx}{R:Nat→St→Prop}{n i:Nat}{Q:jG→St→Prop}{σ:St}(h:Q (.exit i) σ):aV gl R n Q (.exit i) σ:=h
theorem bN{id:Nat}{Q:jG→St→Prop}{σ:St}(h:Q .normal σ):iK id Q .normal σ:=h
theorem bE{id:Nat}{Q:jG→St→Prop}{σ:St}(h:Q .normal σ):iK id Q (.exit id) σ:=by simp only[iK,if_true];exact h
theorem bO{id i:Nat}{Q:jG→St→Prop}{σ:St}(R7:Nat.beq i id=false)(h:Q (.exit i) σ):iK id Q (.exit i) σ:=by
 simp only[iK];rw[if_neg (fun e=>by subst e;simp at R7)];exact h
def fQ(gl:Ctx)(G:bH)(rs:List ResultVar)(r:sa)(H':List (Option aj)):jG→St→Prop
 | .normal,σ=>∃σ',Wk gl σ σ'∧wT G rs r H' .normal σ'
 | .ret,σ=>∃σ',Wk gl σ σ'∧wT G rs r H' .ret σ'
 |x,σ=>wT G rs r H' x σ
theorem Cl.f{gl:Ctx}{G:bH}{rs:List ResultVar}{r:sa}{H':List (Option aj)}:Cl gl (fQ gl G rs r H'):=⟨fun _ _ h ⟨σ2,h2,hj⟩=>⟨σ2,h.trans h2,hj⟩,fun _ _ _ _ hq=>hq.elim⟩
theorem av{gl:Ctx}{G:bH}{rs:List ResultVar}(l:List Gh)(ts:List (Option Ty))(m:List Bool){σ:St}{y:AV}{H':List (Option aj)}(h:(A3 l σ).bind (fin G rs ts m)=some (y,H')):fQ gl G rs (.ret y) H' .ret σ∧fQ gl G rs (.ret y) H' .normal σ:=by
 cases hg:A3 l σ with
 |none=>rw[hg] at h;cases h
 |
  some σ'=>
  rw[hg] at h
  have:=A1 ts m h
  exact⟨⟨σ',jO hg,this.1⟩,⟨σ',jO hg,this.2⟩⟩
theorem bW.aG{P:Program}{G:bH}(T:aW P G){gl:Ctx}{f:FuncId}{fn:Func}{c:Code}(hf:P.funcs[f]? =some fn)(hb:fn.body=some c)(hro:gl.ro=none){args:List AV}{H H':List (Option aj)}{r:sa}{σ0:St}(hs:(⟨args++List.replicate (fn.ntmps -args.length) .bot,H,[]⟩:St)=σ0)
 (h:ai P gl c σ0 (fQ gl G fn.results.toList r H')):bW P gl f args H r H':=by
 subst hs
 intro E w vs hv hw
 obtain⟨hl,SU⟩:=hv.get
 refine CallsIn.calls (F:=Wd gl) (n:=0) (callsIn_of_wp hf hb trivial ?_ hro) (fun k d hd=>by cases hd)
 have hg:cK gl ⟨args++List.replicate (fn.ntmps -args.length) .bot,H,[]⟩ E {tmps:=vs.toArray++Array.replicate (fn.ntmps -vs.toArray.size) undef,defers:=[]} w:=by
  refine⟨?_,?_,hw,trivial⟩
  ·simp only[Array.size_append,List.size_toArray,Array.size_replicate,List.length_append,List.length_replicate]
   rw[hl]
  ·intro i x hx v hv'
   rw[Array.getElem?_append] at hv'
   simp only[List.getElem?_append] at hx
   split at hx
   ·rename_i hi
    rw[if_pos (by simpa[hl] using hi)] at hv'
    exact SU i x v hx (by simpa using hv')
   ·rw[List.getElem?_replicate] at hx
    split at hx
    ·cases hx;trivial
    ·cases hx
 refine wpIn_mono (h E _ w hg) ?_
 rintro ex a' w' ⟨x,σ',E',h1,h2,h3,h4⟩
 have hdf:∀(σ:St)(E:Env) l,σ.df= []→RD E w' σ.df l→l= []:=by
  intro σ E l e hd
  rw[e] at hd
  cases l with
  |nil=>rfl
  |cons d l=>exact hd.elim
 cases ex with
 |
  normal=>
  cases x with
  |
   normal=>
   obtain⟨σ2,hwk,hd,x,y,ts,m,r1,r2,r3,r4⟩:=h2
   obtain⟨E2,g2,x2⟩:=hwk E' a' w' h3
   obtain⟨v,k1,k2⟩:=wU T g2 r1
   subst r3;subst r4
   exact⟨hdf _ _ _ hd g2.df,v,k1,E2,C9 r2 k2,g2.hw.prune m,(h4.trans x2).prune m⟩
  |_=>exact h1.elim
 |
  ret=>
  cases x with
  |
   ret=>
   obtain⟨σ2,hwk,hd,x,y,ts,m,r1,r2,r3,r4⟩:=h2
   obtain⟨E2,g2,x2⟩:=hwk E' a' w' h3
   obtain⟨v,k1,k2⟩:=wU T g2 r1
   subst r3;subst r4
   exact⟨hdf _ _ _ hd g2.df,v,k1,E2,C9 r2 k2,g2.hw.prune m,(h4.trans x2).prune m⟩
  |_=>exact h1.elim
 |
  panic chain=>
  cases x with
  |
   panic y=>
   obtain⟨hd,m,r3,r4⟩:=h2
   subst r3;subst r4
   exact⟨hdf _ _ _ hd h3.df,E',h1,h3.hw.prune m,h4.prune m⟩
  |_=>exact h1.elim
 |exit i=>cases x<;>first|exact h1.elim|exact h2.elim
 |goto l=>cases x<;>exact h1.elim
 |outgrown=>cases x<;>exact h1.elim
theorem ai.Iy{P:Program}{gl:Ctx}{σ:St}{Q:jG→St→Prop}{c:Operand}{x y:Code}{b:Bool}(hc:bD gl σ.tm c= .val .bool b)(hb:b=true)(h:ai P gl x σ Q):ai P gl (.cond c x y) σ Q:=
 ai.cond hc (fun _=>h) (fun e=>by rw[hb] at e;cases e)
theorem ai.Db{P:Program}{gl:Ctx}{σ:St}{Q:jG→St→Prop}{c:Operand}{x y:Code}{b:Bool}(hc:bD gl σ.tm c= .val .bool b)(hb:b=false)(h:ai P gl y σ Q):ai P gl (.cond c x y) σ Q:=
 ai.cond hc (fun e=>by rw[hb] at e;cases e) (fun _=>h)
theorem Fc.of{P:Program}{gl:Ctx}{f:FuncId}{args:List AV}{H H':List (Option aj)}{r:sa}(hc:∀vs w,(callFunc f vs).run P w= .ok (.enter f vs) w)(h:bW P gl f args H r H'):Fc P gl f args H r H':=⟨hc,h⟩
theorem ab{α:Type}{p:Prop}[Decidable p]{k:Option α}{r:α}(h:(if p then k else none)=some r):p∧k=some r:=by
 split at h
 ·exact⟨by assumption,h⟩
 ·cases h
theorem ae{α:Type}{b:Bool}{x y:Option α}{r:α}(h:(if b=true then x else y)=some r):(b=true∧x=some r)∨(b=false∧y=some r):=by
 cases b
 ·exact Or.inr ⟨rfl,h⟩
 ·exact Or.inl ⟨rfl,h⟩
theorem bind_some{α β:Type}{x:Option α}{f:α→Option β}{r:β}(h:x.bind f=some r):∃y,x=some y∧f y=some r:=by
 cases x with
 |none=>cases h
 |some y=>exact⟨y,rfl,h⟩
inductive iQ(β ρ:Type) where
 |brk (b:β)
 |ret (r:ρ)
def uQ{α:Type}:List (Nat×α)→List α→List α
 |[],l=>l
 |(i,x)::m,l=>uQ m (l.set i x)
def ao(n m:Nat)(tm:List (Nat×AV))(hp:List (Nat×Option aj)):St:=⟨uQ tm (List.replicate n .bot),uQ hp (List.replicate m none),[]⟩
def cL(m:Nat)(ids:List Nat):List Bool:=uQ (ids.map fun i=>(i,true)) (List.replicate m false)
def bC:Nat:=18446744073709551616
abbrev al(n:Int):Int:=IntKind.i64.wrap n
def nth(t:Ty)(xs:List t.den)(i:Int):t.den:=xs.getD i.toNat t.aX
end Go.Abs
namespace Go.Abs
theorem ai.FE{P:Program}{gl:Ctx}{σ:St}{Q:jG→St→Prop}{id:Nat}{o1 o2:Oper}{y:Code}(x:Operand)(d1 d2:Nat)(t t2 e:TypeId)(bs:Nat)(u:Ty)(xs:List u.den)
 (h1:o1.op= .move x) (hd1:o1.dst=some d1) (hg1:o1.guard=none) (h2:o2.op= .binOp .eql t (.tmp d1) (.const (.slice none 0 0)) t2) (hd2:o2.dst=some d2) (hg2:o2.guard=none)
 (hx:bD gl σ.tm x= .val (.slice bs u) xs) (ht:P.underlying t=some (.slice e)) (hl:Nat.blt d1 σ.tm.length=true)
 (h:∀b:Bool,(b=true→xs= [])→ai P gl y ((σ.put (some d1) (.val (.slice bs u) xs)).put (some d2) (.val .bool b)) Q):ai P gl (.seq (.region id #[o1,o2] false) y) σ Q:=by
 intro E a w hg
 have hv:=mZ hg x
 rw[hx] at hv
 obtain⟨ad,cap,hve,_,_,_,hor⟩:=RV.atom rfl hv
 simp at hve
 have Sg:d1<a.tmps.size:=by rw[hg.len];simp[Nat.blt] at hl;omega
 refine wpIn_seq (wpIn_region ?_)
 have hr:List.range (#[o1,o2]:Array Oper).size= [0,1]:=rfl
 rw[hr]
 have w1:∀z,Region.wanted o1 z=true:=fun z=>by simp[Region.wanted,hg1]
 have w2:∀z,Region.wanted o2 z=true:=fun z=>by simp[Region.wanted,hg2]
 have ga:=hg.put (some d1) hv
 have hb:ad.isNone=true→xs= []:=by
  intro hn
  rcases hor with h0|⟨b,o,cs,e1,_⟩
  ·exact h0
  ·subst e1;cases hn
 have gb:=ga.put (some d2) (x:=.val .bool ad.isNone) (v:=.bool ad.isNone) (RV.fD (Or.inr ⟨rfl,rfl⟩))
 have hfin:=h ad.isNone hb E _ w gb
 simp only[wpOpsIn,List.getElem?_toArray,List.getElem?_cons_zero,List.getElem?_cons_succ,w1,if_true]
 refine⟨fun _ _=>trivial,?_⟩
 rw[Oper.semAt_eq _ _ _ (by rw[h1];intro c hc;cases hc)]
 have r1:(execOp a.eval o1).run P w= .ok (.value (a.eval x)) w:=by simp[execOp,h1]
 rw[r1,Oper.uponIn_value,hd1]
 simp only[w2,if_true]
 refine⟨fun _ _=>trivial,?_⟩
 rw[Oper.semAt_eq _ _ _ (by rw[h2];intro c hc;cases hc)]
 have Sj:(a.put (some d1) (a.eval x)).eval (.tmp d1)= .slice ad xs.length cap:=by
  have:(a.put (some d1) (a.eval x)).eval (.tmp d1)=a.eval x:=by
   generalize a.eval x=v
   simp[Act.eval,Act.put,Sg]
  rw[this,hve]
 have r2:(execOp (a.put (some d1) (a.eval x)).eval o2).run P w= .ok (.value (.bool ad.isNone)) w:=by
  have hq:=run_equal_slice_nil (P:=P) w t e ad xs.length cap ht
  have hc:(a.put (some d1) (a.eval x)).eval (.const (.slice none 0 0))= .slice none 0 0:=rfl
  simp[execOp,h2,Sj,hc,eqGuard,binOp,hq]
 rw[r2,Oper.uponIn_value,hd2]
 simp only[Exit.then]
 refine wpIn_mono hfin ?_
 rintro ex a' w' ⟨x',σ',E',k1,k2,k3,k4⟩
 exact⟨x',σ',E',k1,k2,k3,k4⟩
end Go.Abs
namespace Go.Abs
end Go.Abs
namespace Go.Abs
structure RR(m:List (Nat×Nat))(E:Env)(w:World)(E':Env)(w':World):Prop where
 at':∀b c,py m b=some c→E'.g c=E.g b∧E'.bt c=E.bt b
 k:bm E w E' w'
end Go.Abs
namespace Go.Abs
end Go.Abs
namespace Go.Abs
end Go.Abs
namespace Go.Abs
end Go.Abs
namespace Go.Abs
def er(W:World):Env:=⟨fun _=>none,fun _=>undef,fun _=>.unit,fun g=>g<W.heap.size⟩
theorem aC.collect{α:Type}{r:List Value→α→Prop}{k:Nat}:∀(n:Nat)(cs:List Value),cs.length=n*k→(∀i,i<n→∃y,r ((cs.drop (i*k)).take k) y)→∃ys,ys.length=n∧aC r cs ys
 |0,cs,hl,_=>⟨[],rfl,List.eq_nil_of_length_eq_zero (by simpa using hl)⟩
 |
  n+1,cs,hl,h=>by
  obtain⟨y,hy⟩:=h 0 (by omega)
  rw[Nat.zero_mul,List.drop_zero] at hy
  obtain⟨ys,h1,h2⟩:=aC.collect (k:=k) n (cs.drop k) (by rw[List.length_drop,hl,Nat.add_mul,Nat.one_mul];omega) (fun i hi=>by
   obtain⟨z,hz⟩:=h (i+1) (by omega)
   refine⟨z,?_⟩
   rw[List.drop_drop]
   rw[show k+i*k=(i+1)*k from by rw[Nat.add_mul];omega]
   exact hz)
  exact⟨y::ys,by simp[h1],cs.take k,cs.drop k,(List.take_append_drop k cs).symm,hy,h2⟩
theorem cells?_get{w:World}{base:Nat}{a:Addr}{n:Nat}{cs:List Value}(h:w.cells? base a n=some cs):cs.length=n∧∀j v,cs[j]? =some v→w.cell? (a.add j)=some v:=by
 unfold World.cells? at h
 split at h
 ·have hl:=mapM_some_length h
  refine⟨by simpa using hl,fun j v hj=>?_⟩
  have Sg:j<n:=by
   have:=(List.getElem?_eq_some_iff.1 hj).1
   rw[hl] at this;simpa using this
  have:=mapM_some_get h j j (by simp[Sg])
  rw[this,hj]
 ·cases h
theorem Addr.add_add(a:Addr)(i j:Nat):(a.add i).add j=a.add (i+j):=by
 unfold Addr.add
 by_cases hi:i=0
 ·subst hi;simp
 ·by_cases hj:j=0
  ·subst hj;simp
  ·have:i+j≠0:=by omega
   simp[hi,hj,Nat.add_assoc]
theorem aC.Dc{α:Type}{w:World}{r:List Value→α→Prop}{a:Addr}{k:Nat}:∀(n s:Nat),(∀i,i<n→∃c y,w.cells? 0 (a.add ((s+i)*k)) k=some c∧r c y)→∃cs ys,ys.length=n∧aC r cs ys∧∀j v,cs[j]? =some v→w.cell? (a.add (s*k+j))=some v
 |0,s,_=>⟨[],[],rfl,rfl,fun j v hj=>by simp at hj⟩
 |
  n+1,s,h=>by
  obtain⟨c,y,h1,h2⟩:=h 0 (by omega)
  rw[Nat.add_zero] at h1
  obtain⟨hl,hc⟩:=cells?_get h1
  obtain⟨cs,ys,g1,g2,g3⟩:=aC.Dc n (s+1) (fun i hi=>by
   obtain⟨c',y',q1,q2⟩:=h (i+1) (by omega)
   exact⟨c',y',by rw[show s+1+i=s+(i+1) from by omega];exact q1,q2⟩)
  refine⟨c++cs,y::ys,by simp[g1],⟨c,cs,rfl,h2,g2⟩,?_⟩
  intro j v hj
  rw[List.getElem?_append] at hj
  split at hj
  ·have:=hc j v hj
   rwa [Addr.add_add] at this
  ·rename_i hge
   have:=g3 _ v hj
   rw[hl] at this hge
   rw[show(s+1)*k+(j -k)=s*k+j from by rw[Nat.add_mul,Nat.one_mul];omega] at this
   exact this
section
variable{H:Type} {enc:TypeId×Value→H} {P:Program} {G:bH} (T:aW P G) {W:World} {spare:Nat→Bool} {held:Bool}
include T
theorem aW.cellsOf{t:TypeId}{td:TD}(h:G.at t=some td):P.cellsOf t=td.ty.size:=by
 obtain⟨i,_,h1,_,h2,_⟩:=T.info h
 simp[Program.cellsOf,h1,h2]
theorem aW.Dd{t:TypeId}{td:TD}(ht:G.at t=some td)(hs:td.ty= .bool):P.underlying t=some .bool:=by
 obtain⟨ii,dd,_,h1,_,h2,_⟩:=T.info ht
 have Sc:=cn h2
 rw[h1]
 cases hd:dd with
 |bool=>rfl
 |struct fs=>subst hd;rw[hs] at Sc;simp[cm,Ty.isAgg] at Sc
 |array n e=>subst hd;rw[hs] at Sc;simp[cm,Ty.isAgg] at Sc
 |slice e=>subst hd;simp[a8,Ty.same,hs] at h2
 |map k e=>subst hd;simp[a8,Ty.same,hs] at h2
 |_=>subst hd;simp[a8,Ty.same,hs] at h2
theorem wY:∀(fuel:Nat)(t:TypeId)(td:TD)(cs:List Value)(d:DataW H)(ps:List MemPlace),G.at t=some td→td.ty.pure=true→DataW.trod enc P W 0 spare held fuel t cs=some (d,ps)→(∀n∈d.weights P t,n≤az)→
 ∃x:td.ty.den,Rel W (fun g=>g<W.heap.size) td.ty cs x
 |0,t,td,cs,d,ps,_,_,h,_=>by simp[DataW.trod] at h
 |
  fuel+1,t,td,cs,d,ps,ht,hp,h,hw=>by
  have ih:=fun t td cs d ps=>wY fuel t td cs d ps
  obtain⟨ty,te,te2⟩:=td
  simp only at hp
  cases ty with
  |
   int k=>
   obtain⟨n,e1,e2,e3⟩:=DataW.trod_int (T.intOf ht rfl) h
   simp only[Lit.wf,Bool.and_eq_true,decide_eq_true_eq] at e3
   exact⟨n,e1,e3⟩
  |
   bool=>
   obtain⟨b,e1,e2⟩:=DataW.trod_bool (T.Dd ht rfl) h
   exact⟨b,e1⟩
  |
   str=>
   have hu:=T.strOf ht rfl
   unfold DataW.trod at h
   rw[hu] at h
   split at h<;>simp_all
   obtain⟨_,e1,e2⟩:=h
   subst e1
   rename_i s _
   have hlen:s.data.toList.length≤az:=hw s.data.toList.length (by simp[DataW.weights])
   exact⟨s.data.toList,by simp,hlen⟩
  |
   arr n u=>
   obtain⟨tde,h1,h2,h3⟩:=T.m9 ht rfl
   simp only at h1 h2 h3
   subst h3
   obtain⟨xs,m,e1,e2,e3,e4,e5⟩:=DataW.trod_array h1 h
   cases e1;cases e2
   have hcz:=T.cellsOf h2
   have hall:∀i,i<n→∃y,Rel W (fun g=>g<W.heap.size) tde.ty ((cs.drop (i*tde.ty.size)).take tde.ty.size) y:=by
    intro i hi
    have hx:=e5 i hi
    have Sg:i<xs.length:=by omega
    rw[List.getElem?_eq_getElem Sg,hcz] at hx
    refine ih te tde _ xs[i].1 xs[i].2 h2 hp hx (fun q hq=>hw q ?_)
    have key:∀(l:List (DataW H))(i:Nat)(d:DataW H),l[i]? =some d→∀q∈d.weights P te,q∈DataW.weightsAll P te l:=by
     intro l
     induction l with
     |nil=>intro i d h;simp at h
     |
      cons a l ihl=>
      intro i d h q hq
      simp only[DataW.weightsAll,List.mem_append]
      cases i with
      |zero=>simp at h;subst h;exact Or.inl hq
      |succ i=>exact Or.inr (ihl i d (by simpa using h) q hq)
    simp only[DataW.weights,h1]
    exact key _ i _ (by simp[Sg]) q hq
   have hl:cs.length=n*tde.ty.size:=by
    rw[e3];exact T.cellsOf ht
   obtain⟨ys,y1,y2⟩:=aC.collect n cs hl hall
   exact⟨ys,y1,y2⟩
  |
   slice bs u=>
   obtain⟨te',ie,h1,h2,h3,h4,h5,h6,h7⟩:=T.bX ht rfl
   simp only at h1 h2 h4
   subst h3
   have hcz:=T.cellsOf h2
   rcases DataW.trod_slice h1 h with⟨e1,e2⟩|⟨a,len,cap,elems,rest,m,e1,e2,e3,e4,e5,e6,e7,e8,_⟩
   ·exact⟨[],none,0,e1,Nat.le_refl _,by simp,by simp,Or.inl rfl⟩
   ·cases e1;cases e3
    have hb:P.bytesOf te=bs:=by simp[Program.bytesOf,h4,h5]
    have hw0:(elems.length+rest.length)*bs≤az:=by
     refine hw _ ?_
     simp only[DataW.weights,h1,hb]
     simp
    have hlb:len*bs≤az:=Nat.le_trans (Nat.mul_le_mul_right _ (by omega)) hw0
    have hlm:len≤az:=Nat.le_trans (Nat.le_mul_of_pos_right _ h7) hlb
    have hall:∀i,i<len→∃c y,W.cells? 0 (a.add ((0+i)*te'.ty.size)) te'.ty.size=some c∧Rel W (fun g=>g<W.heap.size) te'.ty c y:=by
     intro i hi
     have hx:=e8 i hi
     have Sg:i<elems.length:=by omega
     rw[List.getElem?_eq_getElem Sg,hcz] at hx
     simp only[Option.bind_eq_some_iff] at hx
     obtain⟨c,c1,c2⟩:=hx
     obtain⟨y,hy⟩:=ih te te' c elems[i].1 elems[i].2 h2 hp c2 (fun q hq=>hw q (by
      have key:∀(l:List (DataW H))(i:Nat)(d:DataW H),l[i]? =some d→∀q∈d.weights P te,q∈DataW.weightsAll P te l:=by
       intro l
       induction l with
       |nil=>intro i d h;simp at h
       |
        cons a l ihl=>
        intro i d h q hq
        simp only[DataW.weightsAll,List.mem_append]
        cases i with
        |zero=>simp at h;subst h;exact Or.inl hq
        |succ i=>exact Or.inr (ihl i d (by simpa using h) q hq)
      simp only[DataW.weights,h1,List.mem_cons,List.mem_append]
      exact Or.inr (Or.inl (key _ i _ (by simp[Sg]) q hq))))
     exact⟨c,y,by rw[Nat.zero_add];exact c1,hy⟩
    obtain⟨SE,ys,g1,g2,g3⟩:=aC.Dc (w:=W) (a:=a) len 0 hall
    subst g1
    rw[e2]
    refine⟨ys,some a,cap,rfl,e5,hlb,hlm,?_⟩
    cases hys:ys with
    |nil=>exact Or.inl rfl
    |
     cons y0 ys0=>
     right
     have hcl:=aC.len (n:=te'.ty.size) (fun _ _ h=>Rel.len h) g2
     have hpos:0<SE.length:=by rw[hcl,hys];simp;exact h6
     have hc0:=g3 0 SE[0] (by simp[hpos])
     simp only[Nat.zero_mul,Nat.add_zero,Addr.add,if_true] at hc0
     have hspot:a.spot=none∧a.block<W.heap.size:=by
      unfold World.cell? at hc0
      split at hc0
      ·rename_i c _ _ hh
       split at hc0
       ·cases hc0
       ·rename_i hs
        exact⟨by simpa using hs,(Array.getElem?_eq_some_iff.1 hh).1⟩
      ·cases hc0
     obtain⟨b,o,sp⟩:=a
     simp only at hspot
     obtain⟨hs,hblt⟩:=hspot
     subst hs
     refine⟨b,o,SE,rfl,hblt,?_,by rw[←hys];exact g2⟩
     intro j v hj
     have:=g3 j v hj
     rwa [Nat.zero_mul,Nat.zero_add] at this
  |
   pair ta tb=>
   obtain⟨fs,h1,h2⟩:=T.structOf ht rfl
   obtain⟨xs,m,e1,e2,e3,e4,e5⟩:=DataW.trod_struct h1 h
   cases e1;cases e2
   have hl:cs.length=(Ty.pair ta tb).size:=by rw[e3];exact T.cellsOf ht
   have key:∀(l:List Field)(ty:Ty)(off:Nat)(ys:List (DataW H×List MemPlace)),aR G l off ty=true→ty.pure=true→off+ty.size≤cs.length→ys.length=l.length→
    (∀(i:Nat)(f:Field),l[i]? =some f→DataW.trod enc P W 0 spare held fuel f.type ((cs.drop f.offset).take (P.cellsOf f.type))=ys[i]?)→
    (∀n∈DataW.weightsEach P (l.map (·.type)) (ys.map (·.1)),n≤az)→∃x:ty.den,Rel W (fun g=>g<W.heap.size) ty ((cs.drop off).take ty.size) x:=by
    intro l
    induction l with
    |
     nil=>
     intro ty off ys hf _ _ _ _ _
     cases ty<;>simp[aR] at hf
     exact⟨(),by simp[Rel,Ty.size]⟩
    |
     cons f l ihl=>
     intro ty off ys hf hpu hle hyl hrd hwe
     cases ty with
     |
      pair a b=>
      simp only[aR,Bool.and_eq_true] at hf
      obtain⟨⟨⟨g1,g2⟩,g3⟩,g4⟩:=hf
      simp only[Ty.pure,Bool.and_eq_true] at hpu
      cases ys with
      |nil=>simp at hyl
      |
       cons y ys=>
       split at g1
       ·rename_i td htd
        have:=Ty.af g1;subst this
        have g2:=Nat.eq_of_beq_eq_true g2
        have hcz:=T.cellsOf htd
        simp only[Ty.size] at hle
        have hr0:=hrd 0 f rfl
        rw[g2,hcz] at hr0
        simp only[List.getElem?_cons_zero] at hr0
        simp only[List.map_cons,DataW.weightsEach,List.mem_append] at hwe
        obtain⟨x1,hx1⟩:=ih f.type td _ y.1 y.2 htd hpu.1 hr0 (fun n hn=>hwe n (Or.inl hn))
        obtain⟨x2,hx2⟩:=ihl b (off+td.ty.size) ys g4 hpu.2 (by omega) (by simpa using hyl) (fun i f' hf'=>by
         have:=hrd (i+1) f' (by simpa using hf')
         simpa using this) (fun n hn=>hwe n (Or.inr hn))
        refine⟨(x1,x2),(cs.drop off).take td.ty.size,(cs.drop (off+td.ty.size)).take b.size,?_,hx1,hx2⟩
        simp only[Ty.size]
        rw[List.take_add,List.drop_drop]
       ·cases g1
     |_=>simp[aR] at hf
   obtain⟨x,hx⟩:=key fs.toList (.pair ta tb) 0 xs h2 hp (by omega) (by simpa using e4) (fun i f hf=>e5 i f (by simpa using hf)) (fun n hn=>hw n (by
    simp only[DataW.weights,h1];exact hn))
   rw[List.drop_zero,List.take_of_length_le (by omega)] at hx
   exact⟨x,hx⟩
  |
   unit=>
   obtain⟨ii,dd,_,hu,Sd,hdo,_⟩:=T.info ht
   cases dd with
   |
    struct fs=>
    obtain⟨xs,m,e1,e2,e3,e4,e5⟩:=DataW.trod_struct hu h
    have hl:cs.length=0:=by rw[e3];exact T.cellsOf ht
    exact⟨(),List.eq_nil_of_length_eq_zero hl⟩
   |slice e=>simp[a8,Ty.same] at hdo
   |array n e=>simp[a8] at hdo
   |map k e=>simp[a8,Ty.same] at hdo
   |_=>simp[a8,Ty.same] at hdo
  |au k=>simp[Ty.pure] at hp
  |fns n=>simp[Ty.pure] at hp
theorem mM{base:Nat}{t:TypeId}{td:TD}{v:Value}{d:DataW H}{p:List MemPlace}(ht:G.at t=some td)(hp:td.ty.pure=true)(R9:Value.okWide P W .any base t v)(h:DataW.Trod enc P W 0 spare held t v d p)(hw:∀n∈d.weights P t,n≤az):
 ∃x:td.ty.den,RV (er W) W (.val td.ty x) v∧wf td.ty x:=by
 obtain⟨fuel,h⟩:=h
 obtain⟨x,hx⟩:=wY T fuel t td _ d p ht hp h hw
 refine⟨x,RV.fD ?_,Rel.wf hx⟩
 obtain⟨ii,dd,_,hu,_,hdo,_⟩:=T.info ht
 have Sc:=cn hdo
 cases ha:td.ty.isAgg with
 |
  true=>
  rw[ha] at Sc
  unfold Value.okWide at R9
  rw[hu] at R9
  cases dd<;>simp[cm] at Sc<;>(obtain⟨cs,e,_⟩:=R9;subst e;exact Or.inl ⟨ha,cs,rfl,hx⟩)
 |
  false=>
  rw[ha] at Sc
  refine Or.inr ⟨ha,?_⟩
  cases v with
  |
   agg cs=>
   unfold Value.okWide at R9
   rw[hu] at R9
   cases dd<;>simp[cm] at Sc<;>simp[Cell.okWide,Cell.ok,hu] at R9
  |_=>simp[Value.cells] at hx;exact hx
end
theorem mapM_mono{α β:Type}{f g:α→Option β}:∀{l:List α}{r:List β},(∀x∈l,∀y,f x=some y→g x=some y)→l.mapM f=some r→l.mapM g=some r
 |[],r,_,h=>by simpa using h
 |
  x::l,r,hm,h=>by
  simp only[List.mapM_cons,Option.bind_eq_bind,Option.bind_eq_some_iff,Option.pure_def,Option.some.injEq] at h ⊢
  obtain⟨y,h1,ys,h2,h3⟩:=h
  exact⟨y,hm x (by simp) y h1,ys,mapM_mono (fun z hz=>hm z (by simp[hz])) h2,h3⟩
theorem cells?_stay{W W':World}(hs:∀b,b<W.heap.size→W'.heap[b]? =W.heap[b]?){a:Addr}{n:Nat}{cs:List Value}(h:W.cells? 0 a n=some cs):W'.cells? 0 a n=some cs:=by
 unfold World.cells? at h ⊢
 split at h
 ·rename_i hb
  rw[if_pos hb]
  refine mapM_mono ?_ h
  intro i _ y hy
  unfold World.cell? at hy ⊢
  split at hy
  ·rename_i c t fr hh
   rw[hs _ (Array.getElem?_eq_some_iff.1 hh).1,hh]
   exact hy
  ·cases hy
 ·cases h
section
variable{H:Type} {enc:TypeId×Value→H} {P:Program} {G:bH} (T:aW P G) {W W':World} (hs:∀b,b<W.heap.size→W'.heap[b]? =W.heap[b]?)
include T hs
theorem tx:∀(fuel:Nat)(t:TypeId)(td:TD)(cs:List Value)(x:DataW H×List MemPlace),G.at t=some td→td.ty.pure=true→DataW.trod enc P W 0 (fun _=>true) true fuel t cs=some x→DataW.trod enc P W' 0 (fun b=>decide (b<W.heap.size)) true fuel t cs=some x
 |0,t,td,cs,x,_,_,h=>by simp[DataW.trod] at h
 |
  fuel+1,t,td,cs,x,ht,hp,h=>by
  have ih:=fun t td cs x=>tx fuel t td cs x
  obtain⟨ty,te,te2⟩:=td
  simp only at hp
  cases ty with
  |
   int k=>
   have hu:=T.intOf ht rfl
   unfold DataW.trod at h ⊢
   rw[hu] at h ⊢
   split at h<;>simp_all
  |
   bool=>
   have hu:=T.Dd ht rfl
   unfold DataW.trod at h ⊢
   rw[hu] at h ⊢
   split at h<;>simp_all
  |
   str=>
   have hu:=T.strOf ht rfl
   unfold DataW.trod at h ⊢
   rw[hu] at h ⊢
   split at h<;>simp_all
  |
   arr n u=>
   obtain⟨tde,h1,h2,h3⟩:=T.m9 ht rfl
   simp only at h1 h2 h3
   subst h3
   unfold DataW.trod at h ⊢
   rw[h1] at h ⊢
   simp only at h ⊢
   split at h
   ·rename_i hl
    rw[if_pos hl]
    simp only[Option.map_eq_some_iff] at h ⊢
    obtain⟨xs,g1,g2⟩:=h
    exact⟨xs,mapM_mono (fun i _ y hy=>ih te tde _ y h2 hp hy) g1,g2⟩
   ·cases h
  |
   slice bs u=>
   obtain⟨te',ie,h1,h2,h3,h4,h5,h6,h7⟩:=T.bX ht rfl
   simp only at h1 h2 h4
   subst h3
   have hcz:=T.cellsOf h2
   unfold DataW.trod at h ⊢
   rw[h1] at h ⊢
   split at h
   all_goals first
    |(cases h;rfl)
    |skip
   all_goals try (simp_all;done)
   rename_i e0 a len cap heq0
   have he0:e0=te:=by simpa using heq0.symm
   subst he0
   simp only[if_true] at h
   simp only
   split at h
   ·rename_i hc
    rw[if_pos hc]
    simp only[Option.bind_eq_some_iff,Option.map_eq_some_iff] at h ⊢
    obtain⟨elems,g1,rest,g2,g3⟩:=h
    have step:∀(i:Nat)(y:DataW H×List MemPlace),(W.cells? 0 (a.add (i*P.cellsOf e0)) (P.cellsOf e0)).bind (DataW.trod enc P W 0 (fun _=>true) true fuel e0)=some y→(W'.cells? 0 (a.add (i*P.cellsOf e0)) (P.cellsOf e0)).bind (DataW.trod enc P W' 0 (fun b=>decide (b<W.heap.size)) true fuel e0)=some y:=by
     intro i y hy
     simp only[Option.bind_eq_some_iff] at hy ⊢
     obtain⟨c,c1,c2⟩:=hy
     exact⟨c,cells?_stay hs c1,ih e0 te' c y h2 hp c2⟩
    refine⟨elems,mapM_mono (fun i _ y hy=>step i y hy) g1,rest,?_,g3⟩
    by_cases hz:cap -len=0
    ·rw[hz] at g2 ⊢
     simp at g2
     subst g2
     split<;>simp
    ·have hblk:a.block<W.heap.size:=by
      obtain⟨k,hk⟩:∃k,cap -len=k+1:=⟨cap -len -1,by omega⟩
      rw[hk,List.range_succ_eq_map] at g2
      simp only[List.mapM_cons,Option.bind_eq_bind,Option.bind_eq_some_iff] at g2
      obtain⟨y,⟨c,c1,_⟩,_⟩:=g2
      obtain⟨l1,l2⟩:=cells?_get c1
      have hpos:0<c.length:=by rw[l1,hcz];exact h6
      have:=l2 0 c[0] (by simp[hpos])
      unfold World.cell? at this
      split at this
      ·rename_i hh
       have Sg:=(Array.getElem?_eq_some_iff.1 hh).1
       have e:∀(a:Addr) n,(a.add n).block=a.block:=by intro a n;unfold Addr.add;split<;>rfl
       rw[e,e] at Sg
       exact Sg
      ·cases this
     simp only[hblk,decide_true,if_true]
     exact mapM_mono (fun i _ y hy=>step (len+i) y hy) g2
   ·cases h
  |
   pair ta tb=>
   obtain⟨fs,h1,h2⟩:=T.structOf ht rfl
   unfold DataW.trod at h ⊢
   rw[h1] at h ⊢
   simp only at h ⊢
   split at h
   ·rename_i hl
    rw[if_pos hl]
    simp only[Option.map_eq_some_iff] at h ⊢
    obtain⟨xs,g1,g2⟩:=h
    refine⟨xs,mapM_mono (fun f hf y hy=>?_) g1,g2⟩
    have key:∀(l:List Field)(ty:Ty)(off:Nat),aR G l off ty=true→ty.pure=true→∀f∈l,∃td,G.at f.type=some td∧td.ty.pure=true:=by
     intro l
     induction l with
     |nil=>intro ty off _ _ f hf;cases hf
     |
      cons f0 l ihl=>
      intro ty off hfo hpu f hf
      cases ty with
      |
       pair a b=>
       simp only[aR,Bool.and_eq_true] at hfo
       obtain⟨⟨⟨q1,q2⟩,q3⟩,q4⟩:=hfo
       simp only[Ty.pure,Bool.and_eq_true] at hpu
       rcases List.mem_cons.1 hf with e|hf
       ·subst e
        split at q1
        ·rename_i td htd
         exact⟨td,htd,by rw[Ty.af q1];exact hpu.1⟩
        ·cases q1
       ·exact ihl b _ q4 hpu.2 f hf
      |_=>simp[aR] at hfo
    obtain⟨td,htd,hpd⟩:=key fs.toList (.pair ta tb) 0 h2 hp f hf
    exact ih f.type td _ y htd hpd hy
   ·cases h
  |
   unit=>
   obtain⟨ii,dd,_,hu,Sd,hdo,_⟩:=T.info ht
   cases dd with
   |
    struct fs=>
    have hfs:fs.toList= []:=by
     simp only[a8] at hdo
     cases hl:fs.toList with
     |nil=>rfl
     |cons f l=>rw[hl] at hdo;simp[aR] at hdo
    unfold DataW.trod at h ⊢
    rw[hu] at h ⊢
    simp only[hfs] at h ⊢
    exact h
   |slice e=>simp[a8,Ty.same] at hdo
   |array n e=>simp[a8] at hdo
   |map k e=>simp[a8,Ty.same] at hdo
   |_=>simp[a8,Ty.same] at hdo
  |au k=>simp[Ty.pure] at hp
  |fns n=>simp[Ty.pure] at hp
theorem mN:∀(ts:List TypeId)(vs:List Value)(ds:List (DataW H))(ps:List MemPlace),(∀t∈ts,∃td,G.at t=some td∧td.ty.pure=true)→DataW.TrodAll enc P W 0 (fun _=>true) true ts vs ds ps→DataW.TrodAll enc P W' 0 (fun b=>decide (b<W.heap.size)) true ts vs ds ps
 |
  [],vs,ds,ps,_,h=>by
  cases vs<;>cases ds<;>first|exact h|exact h.elim
 |
  t::ts,vs,ds,ps,ht,h=>by
  cases vs with
  |nil=>cases ds<;>exact h.elim
  |
   cons v vs=>
   cases ds with
   |nil=>exact h.elim
   |
    cons d ds=>
    obtain⟨p,q,⟨fuel,h1⟩,h2,h3⟩:=h
    obtain⟨td,htd,hpd⟩:=ht t (by simp)
    exact⟨p,q,⟨fuel,tx T hs fuel t td _ _ htd hpd h1⟩,mN ts vs ds q (fun t' ht'=>ht t' (by simp[ht'])) h2,h3⟩
end
theorem HW.bare{gl:Ctx}{W:World}(n:Nat)(hg:rZ gl (er W) W):HW gl (er W) W (aA (List.replicate n none) []):=by
 have no:∀(b:Nat)(k:aj),(aA (List.replicate n (none:Option aj)) [])[b]? ≠some (some k):=by
  intro b k h
  simp only[aA,List.getElem?_replicate] at h
  split at h<;>cases h
 exact⟨fun b k h=>absurd h (no b k),fun b _ k _ _ h=>absurd h (no b k),fun b k _ h=>absurd h (no b k),fun g hg=>hg,hg⟩
theorem De{H:Type}{enc:TypeId×Value→H}{P:Program}{G:bH}(T:aW P G){gl:Ctx}{f:FuncId}{fn:Func}{s:ChangeSpec}{W:World}{args:Array Value}{ds gs:List (DataW H)}{before:List MemPlace}{avs:List AV}{m:Nat}{bt:TypeId}
 (hc:Fc P gl f avs (aA (List.replicate m none) []) (.ret (.val .bool true)) (bz m [])) (hv:aH (er W) W avs args.toList) (hg:rZ gl (er W) W)
 (hW:DataW.Whole enc P fn.params.toList s.vars false W args.toList ds gs before) (hvars:s.vars= []) (hpt:∀t∈fn.params.toList,∃td,G.at t=some td∧td.ty.pure=true)
 (hrt:fn.resultTypes= #[bt]) (hbt:P.underlying bt=some .bool) (hspec:∀gs,gs= []→(s.fn H (ds++gs)).results= [.lit (.bool true)]∧(s.fn H (ds++gs)).args=ds∧(s.fn H (ds++gs)).vars= []):
 Calls P f args W fun e W'=>∃v,e= .returned v∧s.post enc P fn false true false false W args v W':=by
 have hcall:=hc.2 (er W) W args.toList hv (HW.bare m hg)
 have e0:args.toList.toArray=args:=by simp
 rw[e0] at hcall
 refine hcall.mono ?_
 rintro e W' ⟨E',hR,_,hX⟩
 cases e with
 |panicked ch=>exact hR.elim
 |outgrown=>exact hR.elim
 |
  returned v=>
  have hv':=RV.cI hR
  subst hv'
  refine⟨_,rfl,?_⟩
  have noO:∀g,¬Own (aA (List.replicate m (none:Option aj)) []) (er W) g:=by
   rintro g ⟨b,k,hb,_⟩
   simp only[aA,List.getElem?_replicate] at hb
   split at hb<;>cases hb
  have stay:∀b,b<W.heap.size→W'.heap[b]? =W.heap[b]? :=fun b hb=>hX.kept b hb (noO b)
  have hW0:=hW
  obtain⟨p,q,hA,hV,hpq,hfz,hnd⟩:=hW
  rw[hvars] at hV
  have hgs:gs= []∧q= []:=by
   cases gs with
   |nil=>exact⟨rfl,hV⟩
   |cons _ _=>exact hV.elim
  obtain⟨hgs,hq⟩:=hgs
  obtain⟨s1,s2,s3⟩:=hspec gs hgs
  refine⟨ds,gs,before,[],p,[],hW0,?_,?_,?_,?_,fun h=>by cases h⟩
  ·rw[s1,hrt]
   refine⟨[],[],⟨1,?_⟩,rfl,rfl⟩
   simp[DataW.trod,hbt,Value.cells]
  ·rw[s2];exact mN T stay _ _ _ _ hpt hA
  ·rw[s3,hvars];rfl
  ·refine⟨hX.os,hX.output,fun i hi=>?_⟩
   rw[stay i hi]
   cases hh:W.heap[i]? with
   |none=>rfl
   |
    some o=>
    cases o with
    |cells c t fr=>exact⟨rfl,rfl,rfl,fun _ _=>rfl⟩
    |map es clock=>exact Or.inr ⟨rfl,rfl⟩
    |_=>rfl
end Go.Abs
namespace Go.Abs
theorem zT{W:World}{g:Nat}{k:IntKind}{zs:List Int}{n:Nat}(h0:0<zs.length)(h:∀i,i<zs.length→W.cell? ⟨g,i,none⟩=some (.int k (zs.getD i 0)))(hn:zs.length=n)(hr:∀z∈zs,k.min≤z∧z≤k.max):
 (er W).S g∧∃cs,lj W ⟨g,0,none⟩ cs∧Rel W (er W).S (.arr n (.int k)) cs zs:=by
 refine⟨?_,zs.map (.int k),?_,hn,?_⟩
 ·have:=h 0 h0
  unfold World.cell? at this
  split at this
  ·rename_i hh;exact(Array.getElem?_eq_some_iff.1 hh).1
  ·cases this
 ·intro j v hj
  rw[List.getElem?_map] at hj
  cases hz:zs[j]? with
  |none=>rw[hz] at hj;cases hj
  |
   some z=>
   rw[hz] at hj
   simp at hj
   have Sg:=(List.getElem?_eq_some_iff.1 hz).1
   have:=h j Sg
   have e:(⟨g,0,none⟩:Addr).add j=⟨g,j,none⟩:=by unfold Addr.add;split<;>simp_all
   rw[e,this,←hj]
   simp[List.getD,hz]
 ·clear h h0 hn
  induction zs with
  |nil=>rfl
  |cons z zs ih=>exact⟨[.int k z],zs.map (.int k),rfl,⟨rfl,hr z (by simp)⟩,ih (fun y hy=>hr y (by simp[hy]))⟩
end Go.Abs
namespace Go.Abs
theorem aN{x:Int}(h1:-9223372036854775808≤x)(h2:x≤9223372036854775807):al x=x:=by
 show IntKind.i64.wrap x=x
 simp only[IntKind.wrap,IntKind.bits,IntKind.signed]
 simp
 omega
theorem aE{i:Nat}(h:i≤4611686018427387904):al ((i:Int)+1)=((i+1:Nat):Int):=by
 rw[aN (by omega) (by omega)];rfl
theorem Df(x:Int):0≤IntKind.u64.wrap x:=by
 simp only[IntKind.wrap,IntKind.bits,IntKind.signed]
 simp
 omega
theorem cS{t:Ty}{xs:List t.den}{i:Nat}(h:i<xs.length):nth t xs (i:Int)=xs[i]:=by
 simp[nth,List.getD,h]
theorem Dh(x y:Int):0≤aq .and .u64 x y:=by
 simp only[aq];exact Df _
theorem lB{σ ρ:Type}(P:Nat→σ→Prop)(Q:ρ→Prop)(L:Nat→Int→σ→Option ρ)(len:Nat)
 (step:∀n(i:Nat) s,i<len→P i s→(∃s',P (i+1) s'∧L (n+1) (i:Int) s=L n ((i+1:Nat):Int) s')∨(∃r,Q r∧L (n+1) (i:Int) s=some r))
 (stop:∀n s,P len s→∃r,Q r∧L (n+1) (len:Int) s=some r):
 ∀n(i:Nat) s,i≤len→len -i<n→P i s→∃r,Q r∧L n (i:Int) s=some r:=by
 intro n
 induction n with
 |zero=>intro i s _ h;omega
 |
  succ n ih=>
  intro i s hi hn hP
  by_cases h:i<len
  ·rcases step n i s h hP with⟨s',hP',e⟩|h
   ·rw[e];exact ih (i+1) s' (by omega) (by omega) hP'
   ·exact h
  ·have:i=len:=by omega
   subst this;exact stop n s hP
theorem oQ{α:Type}(xs:List α)(l h:Nat):(aS xs l h).length=min (h -l) (xs.length -l):=by
 simp[aS]
theorem rh{α:Type}{f:α→α→Bool}(h:∀x,f x x=true):∀xs:List α,sN f xs xs=true
 |[]=>by simp[sN]
 |x::xs=>by simp[sN,h x,rh h xs]
theorem fT:∀(t:Ty)(x:t.den),aP t x x=true
 | .int _,x=>by simp[aP]
 | .bool,x=>by simp[aP]
 | .str,x=>by simp[aP]
 | .arr _ t,x=>by simp only[aP];exact rh (fT t) x
 | .slice _ t,x=>by simp only[aP];exact rh (fT t) x
 | .pair a b,x=>by simp only[aP,fT a,fT b];rfl
 | .unit,_=>by simp[aP]
 | .au _,_=>by simp[aP]
 | .fns _,_=>by simp[aP]
theorem rj{kt:Ty}(hk:kt.keyed=true)(k:kt.den):aP kt k k=true:=(dG hk k k).2 rfl
theorem wZ{kt:Ty}(hk:kt.keyed=true){p k:kt.den}(h:p≠k):aP kt p k=false:=by
 cases he:aP kt p k with
 |false=>rfl
 |true=>exact absurd ((dG hk p k).1 he) h
theorem kE{kt vt:Ty}(hk:kt.keyed=true)(k:kt.den)(v:vt.den):∀es:List (kt.den×vt.den),fO kt vt k (eo kt k v es)=v
 |[]=>by simp[eo,fO,rj hk]
 |
  e::es=>by
  simp only[eo]
  split
  ·simp[fO,rj hk]
  ·rename_i he
   simp[fO,he,kE hk k v es]
theorem mO{kt vt:Ty}(hk:kt.keyed=true){p k:kt.den}(h:p≠k)(v:vt.den):∀es:List (kt.den×vt.den),fO kt vt p (eo kt k v es)=fO kt vt p es
 |[]=>by simp[eo,fO,wZ hk h]
 |
  e::es=>by
  simp only[eo]
  split
  ·rename_i he
   have:=(dG hk k e.1).1 he
   rw[this] at h
   simp[fO,this,wZ hk h]
  ·simp[fO,mO hk h v es]
end Go.Abs
namespace Go.Abs
theorem mP{w:World}{S:Nat→Prop}{k:IntKind}:∀{xs:List Int},(∀x∈xs,k.min≤x∧x≤k.max)→aC (Rel w S (.int k)) (xs.map (Value.int k)) xs
 |[],_=>rfl
 |x::xs,h=>⟨[.int k x],xs.map (Value.int k),rfl,⟨rfl,h x (List.mem_cons_self ..)⟩,mP fun y hy=>h y (List.mem_cons_of_mem _ hy)⟩
open Go.Proofs Go.Sort Go.Shelf Go.Maps
def gK{β:Type}(es:List (Int×β)):List Int:=(es.map (·.1)).mergeSort fun x y=>decide (x≤y)
def rk{β:Type}(es:List (Int×β)):Option (List Int):=if es.length*8≤az then some (gK es) else none
theorem zU{E:Env}{w:World}{v:Ty}:∀{en:List MapEntry}{es:List (Int×v.den)},RM E w (.int .i64) v en es→en.map (·.key)=es.map (fun x=>Value.int .i64 x.1)∧(∀x∈es,IntKind.i64.min≤x.1∧x.1≤IntKind.i64.max)
 |[],[],_=>⟨rfl,fun x hx=>by cases hx⟩
 |[],_::_,h=>h.elim
 |_::_,[],h=>h.elim
 |
  e::en,x::es,⟨h1,_,h3⟩=>by
  obtain⟨k1,k2⟩:=zU h3
  have hk:e.key= .int .i64 x.1∧IntKind.i64.min≤x.1∧x.1≤IntKind.i64.max:=by
   rcases h1 with⟨hx,_⟩|⟨_,hx,hb⟩
   ·cases hx
   ·exact⟨by simpa using hx,hb⟩
  refine⟨by rw[List.map_cons,List.map_cons,k1,hk.1],fun y hy=>?_⟩
  rcases List.mem_cons.1 hy with rfl|hy
  ·exact hk.2
  ·exact k2 y hy
theorem jP{m b X:Nat}{k k' k2 k'':aj}(h:(aA (List.replicate m none) [(0,some k),(1,some k'),(X,some k2)])[b]? =some (some k'')):(b=0∧k''=k)∨(b=1∧k''=k')∨(b=X∧k''=k2):=by
 rcases dO h with h|⟨_,h⟩
 ·simpa using h
 ·rw[List.getElem?_replicate] at h
  split at h<;>cases h
def w5(_:Value):Option (DataW Unit×List MemPlace):=some (.nil,[])
theorem FF{P:Program}{ρa ρb:Ren}(L10:SlLaysZI.n10 P ρa)(L6:SlLaysZI.n6 P ρb)(hsorts:AnyZI.SortsIn P ρb Fence.wide 4){gl:Ctx}(hmd:¬gl.md)
 (hent:∀vs w,(callFunc (ρb.f 6) vs).run P w= .ok (.enter (ρb.f 6) vs) w) (e9:∀vs w,(callFunc (ρb.f 9) vs).run P w= .ok (.enter (ρb.f 9) vs) w) (eg:∀vs w,(callFunc (ρa.f 10) vs).run P w= .ok (.enter (ρa.f 10) vs) w)
 {vt:Ty} {es:List (Int×vt.den)} {ys:List Int} (hs:rk es=some ys) (m X:Nat) (hm:1<m) (hX:X<m) (hX2:16≤X):
 Fc P gl (ρb.f 6) [.func (.func (ρa.f 10)) .nil (.cons (.ptr 0 []) .nil)] (aA (List.replicate m none) [(0,some (.var (.au .map) (.mp 1))),(1,some (.map (.int .i64) vt es))]) (.ret (.own X)) (bz m [(0,.var (.au .map) (.mp 1)),(1,.map (.int .i64) vt es),(X,.row (ρb.t 26) 8 (.int .i64) ys)]):=by
 refine⟨hent,?_⟩
 unfold rk at hs
 split at hs
 ·rename_i hlen
  cases hs
  intro E w vs hvs hw
  match vs,hvs with
  |
   [v0],⟨h0,_⟩=>
   have at0:(aA (List.replicate m none) [(0,some (aj.var (.au .map) (.mp 1))),(1,some (.map (.int .i64) vt es))])[0]? =some (some (.var (.au .map) (.mp 1))):=by
    simp[aA,show 0<m by omega]
   have at1:(aA (List.replicate m none) [(0,some (aj.var (.au .map) (.mp 1))),(1,some (.map (.int .i64) vt es))])[1]? =some (some (.map (.int .i64) vt es)):=by
    simp[aA,hm]
   obtain⟨n1,_,gm,en,clock,m1,m2,m3,m4,m5⟩:=hw.bh 1 _ at1
   obtain⟨b1,_,gb,cells,eb,b2,b3,b4⟩:=hw.bh 0 _ at0
   have h0:cZ E w (.func (.func (ρa.f 10)) .nil (.cons (.ptr 0 []) .nil)) v0:=h0
   rcases h0 with⟨hx,_⟩|⟨_,f,cb,q1,q2,q3,_,_⟩
   ·cases hx
   have q2:f.toList= []:=q2
   have hf:f= #[]:=by
    cases f with
    |mk l=>simp at q2;subst q2;rfl
   subst hf
   obtain⟨v1,v2,q4,⟨gp,q5,q6,_⟩,q7⟩:=q3
   rw[b2] at q5;cases q5
   have q7:v2= []:=q7
   have hoff:(E.bt 0).off []=0:=by rw[b1];rfl
   have hcb:cb= #[.pointer (some ⟨gb,0,none⟩)]:=by
    cases cb with
    |
     mk l=>
     have:l=v1++v2:=q4
     rw[this,q6,q7,hoff];rfl
   have hv0:v0= .func (.func (ρa.f 10)) #[] #[.pointer (some ⟨gb,0,none⟩)]:=by
    rw[←hcb];simpa using q1
   obtain⟨gq,b5,b6⟩:=b4
   rw[m1] at b5;cases b5
   have hgb:gb<w.heap.size:=(Array.getElem?_eq_some_iff.1 b3).1
   have hcell:w.cell? ⟨gb,0,none⟩=some (.map (some gm)):=by
    unfold World.cell?
    rw[b3]
    have:cells= #[.map (some gm)]:=by
     cases cells with
     |mk l=>have:l= [.map (some gm)]:=b6;rw[this]
    simp[this]
   obtain⟨k1,k2⟩:=zU m3
   have hesz:en.size=es.length:=by
    have:=congrArg List.length k1
    simpa using this
   have hmx:az=140737488355328:=rfl
   have hml:maxLen=9223372036854775807:=rfl
   have u26:P.underlying (ρa.t 26)=some (.int .i64):=L10.t26
   have hkey:∀x∈en.toList,∃z:Int,keyOf P (ρa.t 26) x.key=some (.int .i64 z)∧x.key= .int .i64 z:=by
    intro x hx
    have:x.key∈en.toList.map (·.key):=List.mem_map.2 ⟨x,hx,rfl⟩
    rw[k1] at this
    obtain⟨y,hy,e⟩:=List.mem_map.1 this
    refine⟨y.1,?_,e.symm⟩
    rw[←e]
    have hw:(Lit.int .i64 y.1).wf=true:=by
     have:=k2 y hy
     simp only[Lit.wf]
     rw[decide_eq_true this.1,decide_eq_true this.2];rfl
    simp[keyOf,u26,mapKey,hw]
   have hrd:∀x∈en.toList,∀z:Int,x.key= .int .i64 z→Go.WideElems.rd P (ρa.t 26) w5 x=some (.int .i64 z,.nil):=by
    intro x hx z hz
    obtain⟨z',h1,h2⟩:=hkey x hx
    rw[hz] at h2;cases h2
    simp[Go.WideElems.rd,h1,w5]
   have hown:w.ownsMap P (ρa.t 26) w5 gm en.size (.map ((en.toList.map (Go.WideElems.rg P (ρa.t 26) w5)).foldr DataW.insert [])):=by
    refine⟨en,clock,m2,⟨by rw[hesz];omega,⟨m4,m5,?_⟩,fun x hx=>?_⟩,Nat.le_refl _,rfl⟩
    ·rw[k1]
     exact List.pairwise_map.2 ((List.pairwise_map.1 n1).imp fun h e=>h (by simpa using e))
    ·obtain⟨z,_,hz⟩:=hkey x hx
     exact⟨_,hrd x hx z hz⟩
   have hD:∀ss:List Int,ss.Perm (intKeys (.map ((en.toList.map (Go.WideElems.rg P (ρa.t 26) w5)).foldr DataW.insert [])))→ss.Perm (es.map (·.1)):=by
    intro ss hss
    refine hss.trans ?_
    have p1:=(WideShapes.sorted_perm (en.toList.map (Go.WideElems.rg P (ρa.t 26) w5))).map (fun p=>intOf p.1)
    refine List.Perm.trans p1 (List.Perm.of_eq ?_)
    rw[List.map_map]
    have:en.toList.map ((fun p:Lit×DataW Unit=>intOf p.1)∘Go.WideElems.rg P (ρa.t 26) w5)=(en.toList.map (·.key)).map fun v=>match v with| .int _ z=>z|_=>0:=by
     rw[List.map_map]
     apply List.map_congr_left
     intro x hx
     obtain⟨z,_,hz⟩:=hkey x hx
     simp only[Function.comp,Go.WideElems.rg_of (hrd x hx z hz),hz]
     rfl
    rw[this,k1,List.map_map]
    rfl
   have hDs:Maps.size (DataW.map ((en.toList.map (Go.WideElems.rg P (ρa.t 26) w5)).foldr DataW.insert []))=es.length:=by
    show List.length _=_
    rw[length_read,hesz]
   have hseq:=AnyZI.keys_gives L10 (H:=Unit) Fence.wide 2 trivial rfl (by omega) gb gm en.size _ w hgb hcell hown
   rw[hDs] at hseq
   have main:=AnyZI.sorted_in L6 Fence.wide 5 trivial trivial trivial trivial rfl (by omega) hsorts e9 (ρa.f 10) #[.pointer (some ⟨gb,0,none⟩)] trivial eg _ es.length (by omega) (by omega) w hseq
   have hargs:[v0].toArray= #[.func (.func (ρa.f 10)) #[] #[.pointer (some ⟨gb,0,none⟩)]]:=by rw[hv0]
   rw[hargs]
   refine(callsIn_wide.1 main).mono ?_
   rintro e1 w1 ⟨v,ss,rfl,hS,hrow,_,hb⟩
   have hperm:=hD ss hS
   have hsort:(ss.mergeSort fun x y=>decide (x≤y))=gK es:=mergeSort_of_perm_i hperm
   rw[hsort] at hrow
   have hsl:ss.length=es.length:=by rw[hperm.length_eq,List.length_map]
   have hyl:(gK es).length=es.length:=by unfold gK;rw[List.length_mergeSort,List.length_map]
   have SB:∀g,g<w.heap.size→w1.heap[g]? =w.heap[g]? :=fun g hg=>hb.block g hg
   have hb2:∀z∈gK es,IntKind.i64.min≤z∧z≤IntKind.i64.max:=by
    intro z hz
    have:z∈es.map (·.1):=(List.mergeSort_perm _ _).mem_iff.1 hz
    obtain⟨y,hy,rfl⟩:=List.mem_map.1 this
    exact k2 y hy
   rw[hsl,←hyl] at hrow
   obtain⟨og,hEv,hog,hRB⟩:∃og:Option Nat,(∃a n c,v= .slice a n c)∧(∀g,og=some g→w.heap.size≤g)∧∀E':Env,E'.g X=og→E'.sv X=v→E'.bt X= .arr (gK es).length (.int .i64)→RB E' w1 X (.row (ρb.t 26) 8 (.int .i64) (gK es)):=by
    rcases hrow.2 with⟨hv,hz⟩|⟨g,cap,cur,hv,r0,r1,r2,r3,r4,r5⟩
    ·have hn:gK es= []:=List.eq_nil_of_length_eq_zero hz
     refine⟨none,⟨_,_,_,hv⟩,(fun g hg=>by cases hg),fun E' h1 h2 h3=>?_⟩
     rw[hn] at h3 ⊢
     exact⟨h3,by simp,by simp,Nat.one_pos,none,0,by rw[h2,hv];rfl,Nat.zero_le _,Or.inl ⟨⟨rfl,rfl⟩,h1,rfl⟩⟩
    ·refine⟨some g,⟨_,_,_,hv⟩,(fun g' hg=>by cases hg;exact r0),fun E' h1 h2 h3=>?_⟩
     refine⟨h3,by rw[hyl];exact hlen,by rw[hyl];omega,Nat.one_pos,some ⟨g,0,none⟩,cap,by rw[h2,hv],r3,Or.inr ⟨g,cur,h1,rfl,r1,r4,r2,?_⟩⟩
     have Sd:Ty.size (.int .i64)=1:=rfl
     rw[Sd,r5]
     exact mP hb2
   have hX0:X≠0:=by omega
   have hX1:X≠1:=by omega
   let E':Env:={E with g:=fun b=>if b=X then og else E.g b,sv:=fun b=>if b=X then v else E.sv b,bt:=fun b=>if b=X then .arr (gK es).length (.int .i64) else E.bt b}
   have outE:bz m [(0,.var (.au .map) (.mp 1)),(1,.map (.int .i64) vt es),(X,.row (ρb.t 26) 8 (.int .i64) (gK es))]=aA (List.replicate m none) [(0,some (.var (.au .map) (.mp 1))),(1,some (.map (.int .i64) vt es)),(X,some (.row (ρb.t 26) 8 (.int .i64) (gK es)))]:=rfl
   have kp:bm E w E' w1:=⟨fun b Sb=>SB b (hw.slt b Sb),fun _ h=>h⟩
   have eX:E'.g X=og∧E'.sv X=v∧E'.bt X= .arr (gK es).length (.int .i64):=⟨if_pos rfl,if_pos rfl,if_pos rfl⟩
   have eN:∀b,b≠X→E'.g b=E.g b∧E'.sv b=E.sv b∧E'.bt b=E.bt b:=fun b h=>⟨if_neg h,if_neg h,if_neg h⟩
   have gm_lt:gm<w.heap.size:=(Array.getElem?_eq_some_iff.1 m2).1
   have g_old:∀b g,b=0∨b=1→E'.g b=some g→g<w.heap.size∧E.g b=some g:=by
    intro b g Sb hg
    rcases Sb with rfl|rfl
    ·rw[(eN 0 hX0.symm).1] at hg
     refine⟨?_,hg⟩
     rw[b2] at hg;cases hg;exact hgb
    ·rw[(eN 1 hX1.symm).1] at hg
     refine⟨?_,hg⟩
     rw[m1] at hg;cases hg;exact gm_lt
   refine⟨E',?_,?_,?_⟩
   ·show cZ _ _ _ _
    obtain⟨a,n,c,hv⟩:=hEv
    exact Or.inr ⟨rfl,by show[v]= [E'.sv X];rw[eX.2.1],a,n,c,by rw[eX.2.1,hv]⟩
   ·rw[outE]
    refine⟨fun b k Sb=>?_,fun b b' k k' g hb1 hb2 hg1 hg2=>?_,fun b k g Sb hg hS'=>?_,fun g hg=>Nat.lt_of_lt_of_le (hw.slt g hg) hb.size,hw.ik kp⟩
    ·rcases jP Sb with⟨rfl,rfl⟩|⟨rfl,rfl⟩|⟨rfl,rfl⟩
     ·refine RB.mono kp (fun c hc=>?_) (fun g hg=>SB g ?_) (hw.bh 0 _ at0)
      ·have:c=0∨c=1:=by simpa[aj.ids,AV.ids] using hc
       rcases this with rfl|rfl
       ·exact eN 0 hX0.symm
       ·exact eN 1 hX1.symm
      ·rw[b2] at hg;cases hg;exact hgb
     ·refine RB.mono kp (fun c hc=>?_) (fun g hg=>SB g ?_) (hw.bh 1 _ at1)
      ·have:c=1:=by simpa[aj.ids] using hc
       subst this
       exact eN 1 hX1.symm
      ·rw[m1] at hg;cases hg;exact gm_lt
     ·exact hRB E' eX.1 eX.2.1 eX.2.2
    ·have old:∀b k,(aA (List.replicate m none) [(0,some (aj.var (.au .map) (.mp 1))),(1,some (.map (.int .i64) vt es)),(X,some (.row (ρb.t 26) 8 (.int .i64) (gK es)))])[b]? =some (some k)→b≠X→b=0∨b=1:=by
      intro b k h R7
      rcases jP h with⟨h,_⟩|⟨h,_⟩|⟨h,_⟩
      ·exact Or.inl h
      ·exact Or.inr h
      ·exact absurd h R7
     by_cases e1:b=X
     ·by_cases e2:b'=X
      ·rw[e1,e2]
      ·have o2:=g_old b' g (old b' k' hb2 e2) hg2
       rw[e1,eX.1] at hg1
       have:=hog g hg1
       omega
     ·by_cases e2:b'=X
      ·have o1:=g_old b g (old b k hb1 e1) hg1
       rw[e2,eX.1] at hg2
       have:=hog g hg2
       omega
      ·have o1:=(g_old b g (old b k hb1 e1) hg1).2
       have o2:=(g_old b' g (old b' k' hb2 e2) hg2).2
       rcases old b k hb1 e1 with rfl|rfl<;>rcases old b' k' hb2 e2 with rfl|rfl
       ·rfl
       ·exact hw.sep 0 1 _ _ g at0 at1 o1 o2
       ·exact hw.sep 1 0 _ _ g at1 at0 o1 o2
       ·rfl
    ·rcases jP Sb with⟨rfl,_⟩|⟨rfl,_⟩|⟨rfl,_⟩
     ·exact hw.fo 0 _ g at0 (g_old 0 g (Or.inl rfl) hg).2 hS'
     ·exact hw.fo 1 _ g at1 (g_old 1 g (Or.inr rfl) hg).2 hS'
     ·rw[eX.1] at hg
      have:=hog g hg
      have:=hw.slt g hS'
      omega
   ·rw[outE]
    refine⟨hb.os,⟨hb.tape,fun m=>absurd m hmd⟩,hb.output,hb.size,fun g hg _=>SB g hg,fun _ h=>h,fun g hg=>Or.inl hg,fun g hg=>?_,fun b hb16=>eN b (by omega)⟩
    obtain⟨b,k,hbk,hg⟩:=hg
    rcases jP hbk with⟨rfl,_⟩|⟨rfl,_⟩|⟨rfl,_⟩
    ·exact Or.inl ⟨0,_,at0,(g_old 0 g (Or.inl rfl) hg).2⟩
    ·exact Or.inl ⟨1,_,at1,(g_old 1 g (Or.inr rfl) hg).2⟩
    ·rw[eX.1] at hg;exact Or.inr (hog g hg)
 ·cases hs
end Go.Abs
namespace Go.Abs
theorem w7{P:Program}{w:World}:∀{l:List (String×DataW Unit)}{ps:List MemPlace},DataW.LaidVars P w l ps→∀(i:Nat)(n:String)(d:DataW Unit),l[i]? =some (n,d)→
 ∃g t cs fuel p,P.globalNamed n=some g∧(P.globals[g]?).map (·.type)=some t∧w.var? P n=some cs∧DataW.trod (fun _=>()) P w 0 (fun _=>true) false fuel t cs.toList=some (d,p)
 |[],_,_,i,n,d,hi=>by simp at hi
 |
  (m,e)::r,ps,⟨g,t,cs,fuel,p,q,h1,h2,h3,h4,h5,_⟩,i,n,d,hi=>by
  cases i with
  |
   zero=>
   simp only[List.getElem?_cons_zero,Option.some.injEq,Prod.mk.injEq] at hi
   obtain⟨rfl,rfl⟩:=hi
   exact⟨g,t,cs,fuel,p,h1,h2,h3,h4⟩
  |succ i=>exact w7 h5 i n d (by simpa using hi)
theorem Di{P:Program}{W:World}{laid:List (String×DataW Unit)}(h:laidMet P laid W){i:Nat}{name:String}{k:IntKind}{zs:List Int}(hi:laid[i]? =some (name,Lib.tabData k zs)){g:Nat}{t e:TypeId}{n:Nat}
 (hg:P.globalNamed name=some g) (Su:(P.globals[g]?).map (·.type)=some t) (ht:P.underlying t=some (.array n e)) (he:P.underlying e=some (.int k)) (hce:P.cellsOf e=1) (hct:P.cellsOf t=n) (h0:0<zs.length) (hn:zs.length=n) (hr:∀z∈zs,k.min≤z∧z≤k.max):
 (er W).S g∧∃cs,lj W ⟨g,0,none⟩ cs∧Rel W (er W).S (.arr n (.int k)) cs zs:=by
 obtain⟨ps,hl,_⟩:=h
 obtain⟨g',t',cs,fuel,p,hg',ht',hvar,hd⟩:=w7 hl i _ _ hi
 obtain rfl:=Option.some.inj (hg.symm.trans hg')
 obtain rfl:=Option.some.inj (Su.symm.trans ht')
 have hcs:=Lib.cells_of_tab ht he hce hct hd
 refine zT h0 (fun j hj=>?_) hn hr
 rw[World.var?_cell hg hvar j,←Array.getElem?_toList,hcs]
 simp[hj,List.getD_eq_getElem?_getD]
end Go.Abs
namespace Go.Cm
abbrev Id:=List Bool
def num:Id→Nat
 |[]=>0
 |false::l=>2*num l+1
 |true::l=>2*num l+2
theorem mQ:∀{a b:Id},num a=num b→a=b
 |[],[],_=>rfl
 |[],false::_,h=>by simp only[num] at h;omega
 |[],true::_,h=>by simp only[num] at h;omega
 |false::_,[],h=>by simp only[num] at h;omega
 |true::_,[],h=>by simp only[num] at h;omega
 |false::a,false::b,h=>by simp only[num] at h;rw[mQ (a:=a) (b:=b) (by omega)]
 |true::a,true::b,h=>by simp only[num] at h;rw[mQ (a:=a) (b:=b) (by omega)]
 |false::a,true::b,h=>by simp only[num] at h;omega
 |true::a,false::b,h=>by simp only[num] at h;omega
noncomputable def jR(p:Id):Id:=
 @List.rec Bool (fun _=>Id) [false] (fun b l ih=>@Bool.rec (fun _=>Id) (true::l) (false::ih) b) p
theorem bk:∀p:Id,num (jR p)=num p+1
 |[]=>rfl
 |false::l=>by show num (true::l)=_;simp only[num]
 |
  true::l=>by
  show num (false::jR l)=_
  simp only[num,bk l];omega
noncomputable def Kk(f:Nat):Nat→Id:=
 @Nat.rec (fun _=>Nat→Id) (fun _=>[])
  (fun _ ih n=>@Bool.rec (fun _=>Id) (@Bool.rec (fun _=>Id) (true::ih (Nat.sub (Nat.div n 2) 1)) (false::ih (Nat.div n 2)) (Nat.beq (Nat.mod n 2) 1)) [] (Nat.beq n 0)) f
theorem uR:∀(f n:Nat),n<2^f→num (Kk f n)=n
 |0,n,h=>by
  have:n=0:=by simpa using h
  subst this;rfl
 |
  f+1,n,h=>by
  have hp:2^(f+1)=2*2^f:=by rw[Nat.pow_succ,Nat.mul_comm]
  show num (@Bool.rec (fun _=>Id) (@Bool.rec (fun _=>Id) (true::Kk f (n / 2 -1)) (false::Kk f (n / 2)) (Nat.beq (n % 2) 1)) [] (Nat.beq n 0))=n
  cases h0:Nat.beq n 0 with
  |true=>have:=Nat.eq_of_beq_eq_true h0;subst this;rfl
  |
   false=>
   have hn:n≠0:=fun e=>by rw[e] at h0;cases h0
   cases h1:Nat.beq (n % 2) 1 with
   |
    true=>
    have:=Nat.eq_of_beq_eq_true h1
    show num (false::Kk f (n / 2))=n
    simp only[num,uR f (n / 2) (by omega)];omega
   |
    false=>
    have:n % 2≠1:=fun e=>by rw[e] at h1;cases h1
    show num (true::Kk f (n / 2 -1))=n
    simp only[num,uR f (n / 2 -1) (by omega)];omega
noncomputable def aB(n:Nat):Id:=Kk n n
theorem cB(n:Nat):num (aB n)=n:=uR n n Nat.lt_two_pow_self
theorem Dj(p:Id):aB (num p)=p:=mQ (cB _)
noncomputable def jS(a:Id):Id→Bool:=
 @List.rec Bool (fun _=>Id→Bool) (fun b=>@List.rec Bool (fun _=>Bool) true (fun _ _ _=>false) b)
  (fun x _ ih b=>@List.rec Bool (fun _=>Bool) false (fun y m _=>@Bool.rec (fun _=>Bool) (@Bool.rec (fun _=>Bool) (ih m) false y) (@Bool.rec (fun _=>Bool) false (ih m) y) x) b) a
theorem iG:∀{a b:Id},jS a b=true→a=b
 |[],[],_=>rfl
 |[],_::_,h=>by cases h
 |_::_,[],h=>by cases h
 |
  x::a,y::b,h=>by
  cases x<;>cases y
  ·have h':jS a b=true:=h
   rw[iG h']
  ·cases h
  ·cases h
  ·have h':jS a b=true:=h
   rw[iG h']
theorem oj:∀a:Id,jS a a=true
 |[]=>rfl
 |false::a=>by show jS a a=true;exact oj a
 |true::a=>by show jS a a=true;exact oj a
inductive T(α:Type) where
 |e:T α
 |n (l:T α) (x:Option α) (r:T α):T α
noncomputable def get{α:Type}(p:Id):T α→Option α:=
 @List.rec Bool (fun _=>T α→Option α) (fun t=>@T.rec α (fun _=>Option α) none (fun _ x _ _ _=>x) t)
  (fun b _ ih t=>@T.rec α (fun _=>Option α) none (fun l _ r _ _=>@Bool.rec (fun _=>Option α) (ih l) (ih r) b) t) p
noncomputable def put{α:Type}(v:Option α)(p:Id):T α→T α:=
 @List.rec Bool (fun _=>T α→T α) (fun t=>@T.rec α (fun _=>T α) (.n .e v .e) (fun l _ r _ _=>.n l v r) t)
  (fun b _ ih t=>@T.rec α (fun _=>T α) (@Bool.rec (fun _=>T α) (.n (ih .e) none .e) (.n .e none (ih .e)) b)
   (fun l x r _ _=>@Bool.rec (fun _=>T α) (.n (ih l) x r) (.n l x (ih r)) b) t) p
theorem gM{α:Type}(p:Id):get p (.e:T α)=none:=by cases p<;>rfl
theorem bJ{α:Type}(v:Option α):∀(p q:Id)(t:T α),get q (put v p t)=if q=p then v else get q t
 |[],[],t=>by cases t<;>rfl
 |
  [],b::q,t=>by
  rw[if_neg (by simp)]
  cases t with
  |e=>cases b<;>exact gM q
  |n l x r=>cases b<;>rfl
 |
  b::p,[],t=>by
  rw[if_neg (by simp)]
  cases t<;>cases b<;>rfl
 |
  b::p,c::q,t=>by
  have ih:=bJ v p q
  cases t with
  |
   e=>
   cases b<;>cases c
   ·show get q (put v p .e)=_
    rw[ih];simp only[List.cons.injEq,true_and,gM]
   ·show get q (.e:T α)=_
    rw[if_neg (by simp),gM,gM]
   ·show get q (.e:T α)=_
    rw[if_neg (by simp),gM,gM]
   ·show get q (put v p .e)=_
    rw[ih];simp only[List.cons.injEq,true_and,gM]
  |
   n l x r=>
   cases b<;>cases c
   ·show get q (put v p l)=_
    rw[ih];simp only[List.cons.injEq,true_and];rfl
   ·rw[if_neg (by simp)];rfl
   ·rw[if_neg (by simp)];rfl
   ·show get q (put v p r)=_
    rw[ih];simp only[List.cons.injEq,true_and];rfl
theorem bA{α:Type}(v:Option α)(p:Id)(t:T α):get p (put v p t)=v:=by rw[bJ,if_pos rfl]
theorem fU{α:Type}(v:Option α){p q:Id}(h:q≠p)(t:T α):get q (put v p t)=get q t:=by rw[bJ,if_neg h]
end Go.Cm
namespace Go.Cm
inductive V where
 |b (x:Bool)
 |i (k:IntKind) (n:Int)
 |s (l:List Nat)
 |p (b:Id) (o:Nat)
 |np
 |sl (b:Id) (o len cap:Nat)
 |su (b:Id) (o len z:Nat)
 |ns
 |se
 |m (b:Id)
 |nm
 |fn (f:FuncId) (fs cs:V)
 |yl (b:Id)
 |nf
 |FG (t:TypeId) (v:V)
 |ni
 |agg (l:V)
 |bU (l:V)
 |un
 |nil
 |cons (a l:V)
structure Env where
 g:Id→Option Nat
 n:Id→Nat
def eu(l:List Nat):ByteArray:=⟨(l.map UInt8.ofNat).toArray⟩
def V.one:V→Bool
 | .agg _| .bU _| .un| .nil| .cons _ _=>false
 |_=>true
def V.bK:V→Bool
 | .nil=>true
 | .cons a l=>a.one&&l.bK
 |_=>false
mutual
def RV(E:Env):V→Value→Prop
 | .b x,v=>v= .bool x
 | .i k n,v=>v= .int k n
 | .s l,v=>(∀x∈l,x<256)∧v= .string (eu l)
 | .p b o,v=>∃g,E.g b=some g∧v= .pointer (some ⟨g,o,none⟩)
 | .np,v=>v= .pointer none
 | .sl b o n c,v=>∃g,E.g b=some g∧v= .slice (some ⟨g,o,none⟩) n c
 | .su b o n z,v=>∃g c,E.g b=some g∧v= .slice (some ⟨g,o,none⟩) n c∧n≤c∧o+c*z=E.n b
 | .ns,v=>v= .slice none 0 0
 | .se,v=>∃a c,v= .slice (some a) 0 c
 | .m b,v=>∃g,E.g b=some g∧v= .map (some g)
 | .nm,v=>v= .map none
 | .fn f fs cs,v=>∃a c,v= .func (.func f) a c∧aH E fs a.toList∧aH E cs c.toList
 | .yl b,v=>∃g,E.g b=some g∧v= .func (.yield g) #[] #[]
 | .nf,v=>v= .nilFunc
 | .FG t x,v=>∃y,v= .iface t y∧RV E x y
 | .ni,v=>v= .nilIface
 | .agg l,v=>∃a,v= .agg a∧aH E l a.toList∧l.bK=true
 | .bU l,v=>∃a,v= .tuple a∧aH E l a.toList
 | .un,_=>True
 | .nil,_=>False
 | .cons _ _,_=>False
def aH(E:Env):V→List Value→Prop
 | .nil,vs=>vs= []
 | .cons a l,vs=>∃v r,vs=v::r∧RV E a v∧aH E l r
 |_,_=>False
end
def Env.le(E E':Env):Prop:=∀b g,E.g b=some g→E'.g b=some g∧E'.n b=E.n b
theorem tz{E E':Env}(h:E.le E'):∀(x:V),(∀v:Value,RV E x v→RV E' x v)∧(∀vs:List Value,aH E x vs→aH E' x vs):=by
 intro x
 induction x with
 |
  fn f fs cs Sn Sk=>
  refine⟨fun v r=>?_,fun vs r=>by simp[aH] at r⟩
  simp only[RV] at r ⊢
  obtain⟨a,c,h1,h2,h3⟩:=r
  exact⟨a,c,h1,Sn.2 _ h2,Sk.2 _ h3⟩
 |
  FG t x ih=>
  refine⟨fun v r=>?_,fun vs r=>by simp[aH] at r⟩
  simp only[RV] at r ⊢
  obtain⟨y,h1,h2⟩:=r
  exact⟨y,h1,ih.1 _ h2⟩
 |
  agg l ih=>
  refine⟨fun v r=>?_,fun vs r=>by simp[aH] at r⟩
  simp only[RV] at r ⊢
  obtain⟨a,h1,h2,h3⟩:=r
  exact⟨a,h1,ih.2 _ h2,h3⟩
 |
  bU l ih=>
  refine⟨fun v r=>?_,fun vs r=>by simp[aH] at r⟩
  simp only[RV] at r ⊢
  obtain⟨a,h1,h2⟩:=r
  exact⟨a,h1,ih.2 _ h2⟩
 |
  cons a l Sn Sk=>
  refine⟨fun v r=>by simp[RV] at r,fun vs r=>?_⟩
  simp only[aH] at r ⊢
  obtain⟨v,t,h1,h2,h3⟩:=r
  exact⟨v,t,h1,Sn.1 _ h2,Sk.2 _ h3⟩
 |
  p b o|m b|yl b|sl b o n c=>
  refine⟨fun v r=>?_,fun vs r=>by simp[aH] at r⟩
  simp only[RV] at r ⊢
  obtain⟨g,h1,h2⟩:=r
  exact⟨g,(h b g h1).1,h2⟩
 |
  su b o n z=>
  refine⟨fun v r=>?_,fun vs r=>by simp[aH] at r⟩
  simp only[RV] at r ⊢
  obtain⟨g,c,h1,h2,h3,h4⟩:=r
  exact⟨g,c,(h b g h1).1,h2,h3,by rw[(h b g h1).2];exact h4⟩
 |nil=>exact⟨fun v r=>by simp[RV] at r,fun vs r=>by simpa[aH] using r⟩
 |un=>exact⟨fun v r=>by simp[RV],fun vs r=>by simp[aH] at r⟩
 |_=>exact⟨fun v r=>by simpa[RV] using r,fun vs r=>by simp[aH] at r⟩
theorem RV.mono{E E':Env}(h:E.le E'){x:V}{v:Value}(r:RV E x v):RV E' x v:=(tz h x).1 v r
theorem aH.mono{E E':Env}(h:E.le E'){x:V}{vs:List Value}(r:aH E x vs):aH E' x vs:=(tz h x).2 vs r
noncomputable def V.split{α:Type}(x:V)(n:α)(c:V→V→α)(o:α):α:=
 @V.casesOn (fun _=>α) x (fun _=>o) (fun _ _=>o) (fun _=>o) (fun _ _=>o) o (fun _ _ _ _=>o) (fun _ _ _ _=>o) o o (fun _=>o) o (fun _ _ _=>o) (fun _=>o) o (fun _ _=>o) o (fun _=>o) (fun _=>o) o n c
noncomputable def bO{α β:Type}(m:Option α)(f:α→Option β):Option β:=@Option.rec α (fun _=>Option β) none f m
theorem aa{α β:Type}{m:Option α}{f:α→Option β}{y:β}(h:bO m f=some y):∃x,m=some x∧f x=some y:=by
 cases m with
 |none=>cases h
 |some x=>exact⟨x,rfl,h⟩
noncomputable def bf{α:Type}(b:Bool)(m:Option α):Option α:=@Bool.rec (fun _=>Option α) none m b
theorem ah{α:Type}{b:Bool}{m:Option α}{y:α}(h:bf b m=some y):b=true∧m=some y:=by
 cases b with
 |false=>cases h
 |true=>exact⟨rfl,h⟩
noncomputable def mR(x:V):Nat:=
 @V.rec (fun _=>Nat) (fun _=>0) (fun _ _=>0) (fun _=>0) (fun _ _=>0) 0 (fun _ _ _ _=>0) (fun _ _ _ _=>0) 0 0 (fun _=>0) 0 (fun _ _ _ _ _=>0) (fun _=>0) 0 (fun _ _ _=>0) 0 (fun _ _=>0) (fun _ _=>0) 0 0 (fun _ _ _ ih=>Nat.succ ih) x
noncomputable def iv(x y:V):V:=
 @V.rec (fun _=>V) (fun _=>y) (fun _ _=>y) (fun _=>y) (fun _ _=>y) y (fun _ _ _ _=>y) (fun _ _ _ _=>y) y y (fun _=>y) y (fun _ _ _ _ _=>y) (fun _=>y) y (fun _ _ _=>y) y (fun _ _=>y) (fun _ _=>y) y y (fun a _ _ ih=>.cons a ih) x
noncomputable def fC{α:Type}(x:V):(V→α)→α:=
 @V.rec (fun _=>(V→α)→α) (fun y k=>k (.b y)) (fun a c k=>k (.i a c)) (fun y k=>k (.s y)) (fun a c k=>k (.p a c)) (fun k=>k .np) (fun a c d e k=>k (.sl a c d e)) (fun a c d e k=>k (.su a c d e)) (fun k=>k .ns) (fun k=>k .se) (fun a k=>k (.m a)) (fun k=>k .nm) (fun f a c _ _ k=>k (.fn f a c)) (fun a k=>k (.yl a)) (fun k=>k .nf) (fun t v _ k=>k (.FG t v)) (fun k=>k .ni) (fun l _ k=>k (.agg l)) (fun l _ k=>k (.bU l)) (fun k=>k .un) (fun k=>k .nil) (fun a _ _ ih k=>ih fun l=>k (.cons a l)) x
theorem kF{α:Type}(x:V):∀k:V→α,fC x k=k x:=by
 induction x with
 |cons a l _ ih=>intro k;show fC l (fun l=>k (.cons a l))=_;rw[ih]
 |_=>intro k;rfl
noncomputable def w8(n:Nat):V→Option V:=
 @Nat.rec (fun _=>V→Option V) (fun _=>some .nil) (fun _ ih x=>x.split none (fun a l=>bO (ih l) (fun r=>some (.cons a r))) none) n
noncomputable def rl(n:Nat):V→Option V:=
 @Nat.rec (fun _=>V→Option V) (fun x=>some x) (fun _ ih x=>x.split none (fun _ l=>ih l) none) n
noncomputable def pd(n:Nat)(x:V):Option V:=bO (rl n x) (fun y=>y.split none (fun a _=>some a) none)
noncomputable def zV(xs:V):V→Option V:=
 @V.rec (fun _=>V→Option V) (fun _ _=>none) (fun _ _ _=>none) (fun _ _=>none) (fun _ _ _=>none) (fun _=>none) (fun _ _ _ _ _=>none) (fun _ _ _ _ _=>none) (fun _=>none) (fun _=>none) (fun _ _=>none) (fun _=>none) (fun _ _ _ _ _ _=>none) (fun _ _=>none) (fun _=>none) (fun _ _ _ _=>none) (fun _=>none) (fun _ _ _=>none) (fun _ _ _=>none) (fun _=>none)
  (fun l=>some l) (fun a _ _ ih l=>l.split none (fun _ m=>bO (ih m) (fun r=>some (.cons a r))) none) xs
noncomputable def w9(n:Nat)(xs:V):V→Option V:=
 @Nat.rec (fun _=>V→Option V) (fun l=>zV xs l) (fun _ ih l=>l.split none (fun a m=>bO (ih m) (fun r=>some (.cons a r))) none) n
noncomputable def bY(o n:Nat)(l:V):Option V:=bO (rl o l) (fun m=>w8 n m)
section
variable{E:Env}
theorem bq{α:Type}{x:V}{f:V→V→Option α}{y:α}(h:x.split none f none=some y):∃a l,x= .cons a l∧f a l=some y:=by
 cases x<;>first|exact⟨_,_,rfl,h⟩|cases h
theorem aH.aw{a l:V}{vs:List Value}:aH E (.cons a l) vs↔∃v r,vs=v::r∧RV E a v∧aH E l r:=by simp only[aH]
theorem aH.bL{vs:List Value}:aH E .nil vs↔vs= []:=by simp only[aH]
theorem aH.len:∀{x:V}{vs:List Value},aH E x vs→mR x=vs.length:=by
 intro x
 induction x with
 |nil=>intro vs h;rw[aH.bL] at h;subst h;rfl
 |
  cons a l _ ih=>
  intro vs h
  obtain⟨v,r,rfl,_,h2⟩:=aH.aw.1 h
  show Nat.succ (mR l)=_
  rw[ih h2];rfl
 |_=>intro vs h;simp[aH] at h
theorem aH.app:∀{x y:V}{vs us:List Value},aH E x vs→aH E y us→aH E (iv x y) (vs++us):=by
 intro x
 induction x with
 |nil=>intro y vs us h k;rw[aH.bL] at h;subst h;exact k
 |
  cons a l _ ih=>
  intro y vs us h k
  obtain⟨v,r,rfl,h1,h2⟩:=aH.aw.1 h
  exact aH.aw.2 ⟨v,r++us,rfl,h1,ih h2 k⟩
 |_=>intro y vs us h;simp[aH] at h
theorem mS:∀{x y:V},x.bK=true→y.bK=true→(iv x y).bK=true:=by
 intro x
 induction x with
 |nil=>intro y h k;exact k
 |
  cons a l _ ih=>
  intro y h k
  simp only[V.bK,Bool.and_eq_true] at h
  show(a.one&&(iv l y).bK)=true
  rw[h.1,ih h.2 k];rfl
 |_=>intro y h;simp[V.bK] at h
theorem xa:∀{n:Nat}{x y:V}{vs:List Value},aH E x vs→w8 n x=some y→n≤vs.length∧aH E y (vs.take n)∧(x.bK=true→y.bK=true)
 |0,x,y,vs,h,k=>by cases k;exact⟨Nat.zero_le _,by simp[aH],fun _=>rfl⟩
 |
  n+1,x,y,vs,h,k=>by
  obtain⟨a,l,rfl,k⟩:=bq (show x.split none (fun a l=>bO (w8 n l) (fun r=>some (.cons a r))) none=some y from k)
  obtain⟨r,h1,h2⟩:=aa k
  cases h2
  obtain⟨v,t,rfl,q1,q2⟩:=aH.aw.1 h
  obtain⟨i1,i2,i3⟩:=xa q2 h1
  refine⟨by simp;omega,aH.aw.2 ⟨v,_,rfl,q1,i2⟩,fun ho=>?_⟩
  simp only[V.bK,Bool.and_eq_true] at ho ⊢
  exact⟨ho.1,i3 ho.2⟩
theorem rm:∀{n:Nat}{x y:V}{vs:List Value},aH E x vs→rl n x=some y→n≤vs.length∧aH E y (vs.drop n)∧(x.bK=true→y.bK=true)
 |0,x,y,vs,h,k=>by cases k;exact⟨Nat.zero_le _,h,fun h=>h⟩
 |
  n+1,x,y,vs,h,k=>by
  obtain⟨a,l,rfl,k⟩:=bq (show x.split none (fun _ l=>rl n l) none=some y from k)
  obtain⟨v,t,rfl,q1,q2⟩:=aH.aw.1 h
  obtain⟨i1,i2,i3⟩:=rm q2 k
  refine⟨by simp;omega,by simpa using i2,fun ho=>?_⟩
  simp only[V.bK,Bool.and_eq_true] at ho
  exact i3 ho.2
theorem gX{o n:Nat}{x y:V}{vs:List Value}(h:aH E x vs)(k:bY o n x=some y):o+n≤vs.length∧aH E y ((vs.drop o).take n)∧(x.bK=true→y.bK=true):=by
 obtain⟨m,h1,h2⟩:=aa k
 obtain⟨a1,a2,a3⟩:=rm h h1
 obtain⟨b1,b2,b3⟩:=xa a2 h2
 rw[List.length_drop] at b1
 exact⟨by omega,b2,fun ho=>b3 (a3 ho)⟩
theorem uS{n:Nat}{x y:V}{vs:List Value}(h:aH E x vs)(k:pd n x=some y):∃v,vs[n]? =some v∧RV E y v∧(x.bK=true→y.one=true):=by
 obtain⟨m,h1,h2⟩:=aa k
 obtain⟨a,l,rfl,h2⟩:=bq h2
 cases h2
 obtain⟨a1,a2,a3⟩:=rm h h1
 obtain⟨v,t,e,q1,_⟩:=aH.aw.1 a2
 refine⟨v,?_,q1,fun ho=>?_⟩
 ·have:=congrArg (·[0]?) e
  simpa using this
 ·have:=a3 ho
  simp only[V.bK,Bool.and_eq_true] at this
  exact this.1
theorem Dk:∀{xs l y:V}{us vs:List Value},aH E xs us→aH E l vs→zV xs l=some y→us.length≤vs.length∧aH E y (us++vs.drop us.length)∧(xs.bK=true→l.bK=true→y.bK=true):=by
 intro xs
 induction xs with
 |
  nil=>
  intro l y us vs h k e
  rw[aH.bL] at h;subst h
  cases(show some l=some y from e)
  exact⟨Nat.zero_le _,k,fun _ h=>h⟩
 |
  cons a m _ ih=>
  intro l y us vs h k e
  obtain⟨b,l',rfl,e⟩:=bq (show l.split none (fun _ m'=>bO (zV m m') (fun r=>some (.cons a r))) none=some y from e)
  obtain⟨r,e1,e2⟩:=aa e
  cases e2
  obtain⟨u,us',rfl,q1,q2⟩:=aH.aw.1 h
  obtain⟨v,vs',rfl,p1,p2⟩:=aH.aw.1 k
  obtain⟨i1,i2,i3⟩:=ih q2 p2 e1
  refine⟨by simp;omega,aH.aw.2 ⟨u,us'++vs'.drop us'.length,by simp,q1,i2⟩,fun ho ho'=>?_⟩
  simp only[V.bK,Bool.and_eq_true] at ho ho' ⊢
  exact⟨ho.1,i3 ho.2 ho'.2⟩
 |_=>intro l y us vs h;simp[aH] at h
theorem mT:∀{n:Nat}{xs l y:V}{us vs:List Value},aH E xs us→aH E l vs→w9 n xs l=some y→n+us.length≤vs.length∧aH E y (vs.take n++us++vs.drop (n+us.length))∧(xs.bK=true→l.bK=true→y.bK=true)
 |
  0,xs,l,y,us,vs,h,k,e=>by
  obtain⟨i1,i2,i3⟩:=Dk h k (show zV xs l=some y from e)
  exact⟨by omega,by simpa using i2,i3⟩
 |
  n+1,xs,l,y,us,vs,h,k,e=>by
  obtain⟨a,m,rfl,e⟩:=bq (show l.split none (fun a m=>bO (w9 n xs m) (fun r=>some (.cons a r))) none=some y from e)
  obtain⟨r,e1,e2⟩:=aa e
  cases e2
  obtain⟨v,vs',rfl,p1,p2⟩:=aH.aw.1 k
  obtain⟨i1,i2,i3⟩:=mT h p2 e1
  refine⟨by simp;omega,?_,fun ho ho'=>?_⟩
  ·refine aH.aw.2 ⟨v,vs'.take n++us++vs'.drop (n+us.length),?_,p1,i2⟩
   rw[show n+1+us.length=(n+us.length)+1 from by omega]
   simp
  ·simp only[V.bK,Bool.and_eq_true] at ho' ⊢
   exact⟨ho'.1,i3 ho ho'.2⟩
end
end Go.Cm
namespace Go.Cm
inductive Es where
 |nil
 |cons (k v:V) (n:Nat) (l:Es)
inductive aj where
 |c (l:V) (e:TypeId)
 |u (l:V) (e:TypeId)
 |m (es:Es) (ck:Nat)
 |it (m:Option Id) (since:Nat) (seen:List Nat) (last:Nat)
 |si (s:List Nat) (pos:Nat)
 |lp (st:LoopState) (pe:Option Code) (fn:FuncId) (tm:T V) (sz:Nat) (ps:Array Tmp) (Sz body:Code) (d:Id)
 |df
structure St where
 tm:T V
 hp:T aj
 nx:Id
 df:V
def tA(E:Env):Es→List MapEntry→Prop
 | .nil,l=>l= []
 | .cons k v n es,l=>∃e r,l=e::r∧RV E k e.key∧RV E v e.val∧e.born=n∧tA E es r
theorem tA.mono{E E':Env}(h:E.le E'):∀{es:Es}{l:List MapEntry},tA E es l→tA E' es l
 | .nil,_l,r=>r
 | .cons _k _v _n _es,_l,⟨e,t,h1,h2,h3,h4,h5⟩=>⟨e,t,h1,h2.mono h,h3.mono h,h4,tA.mono h h5⟩
def RT(E:Env)(tm:T V)(a:Array Value):Prop:=∀p v,get p tm=some v→∃u,a[num p]? =some u∧RV E v u
theorem RT.mono{E E':Env}(h:E.le E'){tm:T V}{a:Array Value}(r:RT E tm a):RT E' tm a:=
 fun p v hp=>let⟨u,h1,h2⟩:=r p v hp;⟨u,h1,h2.mono h⟩
def xb(n:Nat)(fz:Nat×Nat):Prop:=fz.1=fz.2∨n≤fz.1
theorem xb.no{n:Nat}{fz:Nat×Nat}(h:xb n fz):∀i,i<n→¬(fz.1≤i∧i<fz.2):=by
 intro i hi hh
 rcases h with h|h<;>omega
def RB(E:Env)(b:Id):aj→Obj→Prop
 | .c l e,o=>∃cs fz,o= .cells cs e fz∧aH E l cs.toList∧l.bK=true∧xb cs.size fz∧E.n b=cs.size
 | .u l e,o=>∃cs fz xs ys,o= .cells cs e fz∧cs.toList=xs++ys∧aH E l xs∧l.bK=true∧xb cs.size fz∧E.n b=cs.size
 | .m es ck,o=>∃l,o= .map l ck∧tA E es l.toList
 | .it none since seen last,o=>o= .mapIter none since seen.toArray last
 | .it (some m) since seen last,o=>∃g,E.g m=some g∧o= .mapIter (some g) since seen.toArray last
 | .si s pos,o=>(∀x∈s,x<256)∧o= .stringIter (eu s) pos
 | .lp st pe _ tm sz ps Sz body d,o=>∃a g f0,o= .loop {state:=st,pending:=pe,fn:=f0,tmps:=a,params:=ps,assign:=Sz,body:=body,defers:=g}∧RT E tm a∧sz≤a.size∧E.g d=some g
 | .df,o=>o= .deferred (some [])
theorem RB.mono{E E':Env}(h:E.le E'){b:Id}(hb:E'.n b=E.n b):∀{k:aj}{o:Obj},RB E b k o→RB E' b k o
 | .c _l _e,_o,⟨cs,fz,h1,h2,h3,h4,h5⟩=>⟨cs,fz,h1,h2.mono h,h3,h4,hb.trans h5⟩
 | .u _l _e,_o,⟨cs,fz,xs,ys,h1,h2,h3,h4,h5,h6⟩=>⟨cs,fz,xs,ys,h1,h2,h3.mono h,h4,h5,hb.trans h6⟩
 | .m _es _ck,_o,⟨l,h1,h2⟩=>⟨l,h1,h2.mono h⟩
 | .it none _since _seen _last,_o,r=>r
 | .it (some m) _since _seen _last,_o,⟨g,h1,h2⟩=>⟨g,(h m g h1).1,h2⟩
 | .si _s _pos,_o,r=>r
 | .lp _st _pe _fn _tm _sz _ps _asg _body d,_o,⟨a,g,f0,h1,h2,h3,h4⟩=>⟨a,g,f0,h1,h2.mono h,h3,(h d g h4).1⟩
 | .df,_o,r=>r
def Own(hp:T aj)(E:Env)(g:Nat):Prop:=∃b k,get b hp=some k∧E.g b=some g
structure RH(E:Env)(hp:T aj)(w:World):Prop where
 bh:∀b k,get b hp=some k→∃g o,E.g b=some g∧w.heap[g]? =some o∧RB E b k o
 sep:∀b b' k k' g,get b hp=some k→get b' hp=some k'→E.g b=some g→E.g b'=some g→b=b'
def bI(L:Nat)(nx:Id)(E:Env):Prop:=∀b,num nx≤num b→num b<L→E.g b=none
def RD(E:Env):V→List Deferred→Prop
 | .nil,ds=>ds= []
 | .cons (.m b) l,ds=>∃d r g,ds=d::r∧E.g b=some g∧d={target:=.collected g,args:= #[]}∧RD E l r
 | .cons (.fn f fs cs) l,ds=>∃d r a c,ds=d::r∧d={target:=.fn (.func f) c,args:=a}∧aH E fs a.toList∧aH E cs c.toList∧RD E l r
 |_,_=>False
theorem RD.mono{E E':Env}(h:E.le E'):∀{x:V}{ds:List Deferred},RD E x ds→RD E' x ds:=by
 intro x
 induction x with
 |nil=>intro ds r;exact r
 |
  cons a l _ ih=>
  intro ds r
  cases a with
  |m b=>obtain⟨d,t,g,h1,h2,h3,h4⟩:=r;exact⟨d,t,g,h1,(h b g h2).1,h3,ih h4⟩
  |fn f fs cs=>obtain⟨d,t,a,c,h1,h2,h3,h4,h5⟩:=r;exact⟨d,t,a,c,h1,h2,h3.mono h,h4.mono h,ih h5⟩
  |_=>exact r.elim
 |_=>intro ds r;exact r.elim
structure Rl(L:Nat)(σ:St)(E:Env)(a:Act)(w:World):Prop where
 tm:RT E σ.tm a.tmps
 hp:RH E σ.hp w
 fr:bI L σ.nx E
 df:RD E σ.df a.defers
def Tp(w w':World):Prop:=w'.tape=w.tape
theorem Tp.r{w w':World}(h:w'.tape=w.tape)(_k:w'.drawn=w.drawn):Tp w w':=h
theorem Tp.s{w w':World}(h:w'.tape=w.tape)(_k:w'.drawn=w.drawn+1):Tp w w':=h
theorem Tp.trans{w v u:World}(h:Tp w v)(k:Tp v u):Tp w u:=Eq.trans (b:=v.tape) k h
structure Ex(hp:T aj)(nx:Id)(E:Env)(w:World)(R0:T aj)(RY:Id)(E':Env)(w':World):Prop where
 os:w'.os=w.os
 tape:Tp w w'
 output:w'.output=w.output
 size:w.heap.size≤w'.heap.size
 kept:∀g,g<w.heap.size→¬Own hp E g→w'.heap[g]? =w.heap[g]?
 own:∀g,Own R0 E' g→Own hp E g∨w.heap.size≤g
 DT:num nx≤num RY
 env:∀b,(num b<num nx∨num RY≤num b)→E'.g b=E.g b∧E'.n b=E.n b
theorem Ex.refl(hp:T aj)(nx:Id)(E:Env)(w:World):Ex hp nx E w hp nx E w:=
 ⟨rfl,Tp.r rfl rfl,rfl,Nat.le_refl _,fun _ _ _=>rfl,fun _ h=>Or.inl h,Nat.le_refl _,fun _ _=>⟨rfl,rfl⟩⟩
theorem Ex.trans{hp cX nC:T aj}{nx ei sB:Id}{E E1 E2:Env}{w w1 w2:World}(h:Ex hp nx E w cX ei E1 w1)(k:Ex cX ei E1 w1 nC sB E2 w2):Ex hp nx E w nC sB E2 w2 where
 os:=k.os.trans h.os
 tape:=h.tape.trans k.tape
 output:=k.output.trans h.output
 size:=Nat.le_trans h.size k.size
 kept:=fun g hg ho=>by
  rw[k.kept g (Nat.lt_of_lt_of_le hg h.size) (fun h1=>(h.own g h1).elim ho (fun h2=>by omega)),h.kept g hg ho]
 own:=fun g hg=>by
  rcases k.own g hg with h1|h1
  ·exact h.own g h1
  ·exact Or.inr (Nat.le_trans h.size h1)
 DT:=Nat.le_trans h.DT k.DT
 env:=fun b hb=>by
  have a1:=h.DT
  have a2:=k.DT
  obtain⟨c1,c2⟩:=k.env b (by omega)
  obtain⟨d1,d2⟩:=h.env b (by omega)
  exact⟨c1.trans d1,c2.trans d2⟩
theorem Ex.le{hp R0:T aj}{nx RY:Id}{E E':Env}{w w':World}{L:Nat}(h:Ex hp nx E w R0 RY E' w')(hf:bI L nx E)(hL:num RY≤L):E.le E':=by
 intro b g hb
 by_cases hc:num b<num nx∨num RY≤num b
 ·obtain⟨h1,h2⟩:=h.env b hc
  exact⟨h1.trans hb,h2⟩
 ·have:=hf b (by omega) (by omega)
  rw[this] at hb;cases hb
section
variable{L:Nat} {σ:St} {E:Env} {a:Act} {w:World}
theorem RH.fresh{hp:T aj}{nx:Id}(h:RH E hp w)(hf:bI L nx E)(hL:num nx<L){k:aj}{o:Obj}{n:Nat}(w':World)(hs:w'.heap=w.heap.push o)(ho:w'.os=w.os)(ht:Tp w w')(hu:w'.output=w.output)
 (E':Env) (hE:E'=⟨fun b=>if b=nx then some w.heap.size else E.g b,fun b=>if b=nx then n else E.n b⟩) (hk:RB E' nx k o):
 RH E' (put (some k) nx hp) w'∧bI L (jR nx) E'∧Ex hp nx E w (put (some k) nx hp) (jR nx) E' w'∧E.le E'∧E'.g nx=some w.heap.size:=by
 have hle:E.le E':=by
  intro b g hb
  have R7:b≠nx:=fun e=>by subst e;rw[hf b (Nat.le_refl _) hL] at hb;cases hb
  subst hE
  exact⟨by simp only[if_neg R7];exact hb,by simp only[if_neg R7]⟩
 have SG:E'.g nx=some w.heap.size:=by subst hE;simp
 have hold:∀b,b≠nx→E'.g b=E.g b∧E'.n b=E.n b:=fun b hb=>by subst hE;simp[hb]
 have Sg:∀b k g,get b hp=some k→E.g b=some g→g<w.heap.size:=by
  intro b k g hb hg
  obtain⟨g',o',h1,h2,_⟩:=h.bh b k hb
  rw[hg] at h1;cases h1
  exact(Array.getElem?_eq_some_iff.1 h2).1
 have hheap:∀g,g<w.heap.size→w'.heap[g]? =w.heap[g]? :=by
  intro g hg
  rw[hs,Array.getElem?_push,if_neg (by omega)]
 refine⟨⟨?_,?_⟩,?_,⟨ho,ht,hu,by rw[hs];simp,fun g hg _=>hheap g hg,?_,by rw[bk];omega,?_⟩,hle,SG⟩
 ·intro b k' hb
  rw[bJ] at hb
  split at hb
  ·rename_i e;subst e;cases hb
   exact⟨w.heap.size,o,SG,by rw[hs];simp,hk⟩
  ·rename_i R7
   obtain⟨g,o',h1,h2,h3⟩:=h.bh b k' hb
   refine⟨g,o',(hle b g h1).1,?_,h3.mono hle (hold b R7).2⟩
   rw[hheap g (Sg b k' g hb h1)];exact h2
 ·intro b b' k1 k2 g hb Sb g1 g2
  rw[bJ] at hb Sb
  split at hb
  ·rename_i e;subst e
   rw[SG] at g1;cases g1
   split at Sb
   ·rename_i e';exact e'.symm
   ·rename_i R7
    rw[(hold b' R7).1] at g2
    have:=Sg b' k2 _ Sb g2
    omega
  ·rename_i R7
   rw[(hold b R7).1] at g1
   split at Sb
   ·rename_i e';subst e'
    rw[SG] at g2;cases g2
    have:=Sg b k1 _ hb g1
    omega
   ·rename_i hne'
    rw[(hold b' hne').1] at g2
    exact h.sep b b' k1 k2 g hb Sb g1 g2
 ·intro b h1 h2
  rw[bk] at h1
  have R7:b≠nx:=fun e=>by subst e;omega
  rw[(hold b R7).1]
  exact hf b (by omega) h2
 ·rintro g ⟨b,k',hb,hg⟩
  rw[bJ] at hb
  split at hb
  ·rename_i e;subst e;rw[SG] at hg;cases hg;exact Or.inr (Nat.le_refl _)
  ·rename_i R7;rw[(hold b R7).1] at hg;exact Or.inl ⟨b,k',hb,hg⟩
 ·intro b hb
  rw[bk] at hb
  have R7:b≠nx:=fun e=>by subst e;omega
  exact hold b R7
theorem RH.change{hp:T aj}{nx:Id}(h:RH E hp w){b:Id}{k0 k:aj}{g:Nat}{o:Obj}(hb:get b hp=some k0)(hg:E.g b=some g)(w':World)(hs:w'.heap=w.heap.setIfInBounds g o)(ho:w'.os=w.os)(ht:Tp w w')(hu:w'.output=w.output)(hk:RB E b k o):
 RH E (put (some k) b hp) w'∧Ex hp nx E w (put (some k) b hp) nx E w':=by
 obtain⟨g',o0,h1,h2,_⟩:=h.bh b k0 hb
 rw[hg] at h1;cases h1
 have Sg:g<w.heap.size:=(Array.getElem?_eq_some_iff.1 h2).1
 refine⟨⟨?_,?_⟩,⟨ho,ht,hu,by rw[hs];simp,?_,?_,Nat.le_refl _,fun _ _=>⟨rfl,rfl⟩⟩⟩
 ·intro b' k' Sb
  rw[bJ] at Sb
  split at Sb
  ·rename_i e;subst e;cases Sb
   exact⟨g,o,hg,by rw[hs];simp[Sg],hk⟩
  ·rename_i R7
   obtain⟨g',o',h1,h2,h3⟩:=h.bh b' k' Sb
   refine⟨g',o',h1,?_,h3⟩
   have:g≠g':=fun e=>R7 (by subst e;exact h.sep b' b k' k0 g Sb hb h1 hg)
   rw[hs,Array.getElem?_setIfInBounds,if_neg this];exact h2
 ·intro b1 b2 k1 k2 g' hb1 hb2 g1 g2
  have key:∀b' k',get b' (put (some k) b hp)=some k'→∃k'',get b' hp=some k'':=by
   intro b' k' Sb
   rw[bJ] at Sb
   split at Sb
   ·rename_i e;subst e;exact⟨k0,hb⟩
   ·exact⟨k',Sb⟩
  obtain⟨k1',e1⟩:=key b1 k1 hb1
  obtain⟨k2',e2⟩:=key b2 k2 hb2
  exact h.sep b1 b2 k1' k2' g' e1 e2 g1 g2
 ·intro g' hg' hn
  have:g≠g':=fun e=>hn (by subst e;exact⟨b,k0,hb,hg⟩)
  rw[hs,Array.getElem?_setIfInBounds,if_neg this]
 ·rintro g' ⟨b',k',Sb,hg'⟩
  rw[bJ] at Sb
  split at Sb
  ·rename_i e;subst e;exact Or.inl ⟨b',k0,hb,hg'⟩
  ·exact Or.inl ⟨b',k',Sb,hg'⟩
end
end Go.Cm
namespace Go.Cm
theorem bg{a b:Nat}(h:Nat.beq a b=true):a=b:=Nat.eq_of_beq_eq_true h
noncomputable def V.int{α:Type}(x:V)(f:IntKind→Int→Option α):Option α:=
 @V.casesOn (fun _=>Option α) x (fun _=>none) f (fun _=>none) (fun _ _=>none) none (fun _ _ _ _=>none) (fun _ _ _ _=>none) none none (fun _=>none) none (fun _ _ _=>none) (fun _=>none) none (fun _ _=>none) none (fun _=>none) (fun _=>none) none none (fun _ _=>none)
noncomputable def V.bool{α:Type}(x:V)(f:Bool→Option α):Option α:=
 @V.casesOn (fun _=>Option α) x f (fun _ _=>none) (fun _=>none) (fun _ _=>none) none (fun _ _ _ _=>none) (fun _ _ _ _=>none) none none (fun _=>none) none (fun _ _ _=>none) (fun _=>none) none (fun _ _=>none) none (fun _=>none) (fun _=>none) none none (fun _ _=>none)
noncomputable def V.str{α:Type}(x:V)(f:List Nat→Option α):Option α:=
 @V.casesOn (fun _=>Option α) x (fun _=>none) (fun _ _=>none) f (fun _ _=>none) none (fun _ _ _ _=>none) (fun _ _ _ _=>none) none none (fun _=>none) none (fun _ _ _=>none) (fun _=>none) none (fun _ _=>none) none (fun _=>none) (fun _=>none) none none (fun _ _=>none)
noncomputable def V.ptr{α:Type}(x:V)(f:Id→Nat→Option α):Option α:=
 @V.casesOn (fun _=>Option α) x (fun _=>none) (fun _ _=>none) (fun _=>none) f none (fun _ _ _ _=>none) (fun _ _ _ _=>none) none none (fun _=>none) none (fun _ _ _=>none) (fun _=>none) none (fun _ _=>none) none (fun _=>none) (fun _=>none) none none (fun _ _=>none)
noncomputable def V.ag{α:Type}(x:V)(f:V→Option α):Option α:=
 @V.casesOn (fun _=>Option α) x (fun _=>none) (fun _ _=>none) (fun _=>none) (fun _ _=>none) none (fun _ _ _ _=>none) (fun _ _ _ _=>none) none none (fun _=>none) none (fun _ _ _=>none) (fun _=>none) none (fun _ _=>none) none f (fun _=>none) none none (fun _ _=>none)
noncomputable def V.tu{α:Type}(x:V)(f:V→Option α):Option α:=
 @V.casesOn (fun _=>Option α) x (fun _=>none) (fun _ _=>none) (fun _=>none) (fun _ _=>none) none (fun _ _ _ _=>none) (fun _ _ _ _=>none) none none (fun _=>none) none (fun _ _ _=>none) (fun _=>none) none (fun _ _=>none) none (fun _=>none) f none none (fun _ _=>none)
noncomputable def V.uT{α:Type}(x:V)(f:Id→Nat→Nat→Nat→Option α)(g:Id→Nat→Nat→Nat→Option α)(n:Option α):Option α:=
 @V.casesOn (fun _=>Option α) x (fun _=>none) (fun _ _=>none) (fun _=>none) (fun _ _=>none) none f g n none (fun _=>none) none (fun _ _ _=>none) (fun _=>none) none (fun _ _=>none) none (fun _=>none) (fun _=>none) none none (fun _ _=>none)
noncomputable def V.rp(x:V):Bool:=
 @V.casesOn (fun _=>Bool) x (fun _=>false) (fun _ _=>false) (fun _=>false) (fun _ _=>false) false (fun _ _ _ _=>false) (fun _ _ _ _=>false) false true (fun _=>false) false (fun _ _ _=>false) (fun _=>false) false (fun _ _=>false) false (fun _=>false) (fun _=>false) false false (fun _ _=>false)
theorem kS{x:V}(h:x.rp=true):x= .se:=by cases x<;>first|rfl|cases h
noncomputable def V.mp{α:Type}(x:V)(f:Id→Option α)(n:Option α):Option α:=
 @V.casesOn (fun _=>Option α) x (fun _=>none) (fun _ _=>none) (fun _=>none) (fun _ _=>none) none (fun _ _ _ _=>none) (fun _ _ _ _=>none) none none f n (fun _ _ _=>none) (fun _=>none) none (fun _ _=>none) none (fun _=>none) (fun _=>none) none none (fun _ _=>none)
section
variable{α:Type} {x:V} {y:α}
theorem aT{f:IntKind→Int→Option α}(h:x.int f=some y):∃k n,x= .i k n∧f k n=some y:=by cases x<;>first|exact⟨_,_,rfl,h⟩|cases h
theorem cT{f:Bool→Option α}(h:x.bool f=some y):∃b,x= .b b∧f b=some y:=by cases x<;>first|exact⟨_,rfl,h⟩|cases h
theorem dg{f:List Nat→Option α}(h:x.str f=some y):∃l,x= .s l∧f l=some y:=by cases x<;>first|exact⟨_,rfl,h⟩|cases h
theorem eA{f:Id→Nat→Option α}(h:x.ptr f=some y):∃b o,x= .p b o∧f b o=some y:=by cases x<;>first|exact⟨_,_,rfl,h⟩|cases h
theorem cC{f:V→Option α}(h:x.ag f=some y):∃l,x= .agg l∧f l=some y:=by cases x<;>first|exact⟨_,rfl,h⟩|cases h
theorem zW{f:V→Option α}(h:x.tu f=some y):∃l,x= .bU l∧f l=some y:=by cases x<;>first|exact⟨_,rfl,h⟩|cases h
theorem cu{f g:Id→Nat→Nat→Nat→Option α}{n:Option α}(h:x.uT f g n=some y):(∃b o l c,x= .sl b o l c∧f b o l c=some y)∨(∃b o l z,x= .su b o l z∧g b o l z=some y)∨(x= .ns∧n=some y):=by
 cases x<;>first|exact Or.inl ⟨_,_,_,_,rfl,h⟩|exact Or.inr (Or.inl ⟨_,_,_,_,rfl,h⟩)|exact Or.inr (Or.inr ⟨rfl,h⟩)|cases h
theorem jT{f:Id→Option α}{n:Option α}(h:x.mp f n=some y):(∃b,x= .m b∧f b=some y)∨(x= .nm∧n=some y):=by
 cases x<;>first|exact Or.inl ⟨_,rfl,h⟩|exact Or.inr ⟨rfl,h⟩|cases h
end
noncomputable def fN{α:Type}(n:Nat)(f:Nat→α):α:=@Nat.rec (fun _=>α) (f 0) (fun m _=>f (Nat.succ m)) n
theorem cj{α:Type}(n:Nat)(f:Nat→α):fN n f=f n:=by cases n<;>rfl
noncomputable def fI{α:Type}(n:Int)(f:Int→α):α:=@Int.rec (fun _=>α) (fun m=>fN m fun m=>f (.ofNat m)) (fun m=>fN m fun m=>f (.negSucc m)) n
theorem NW{α:Type}(n:Int)(f:Int→α):fI n f=f n:=by
 cases n with
 |ofNat m=>show fN m (fun m=>f (.ofNat m))=_;exact cj _ _
 |negSucc m=>show fN m (fun m=>f (.negSucc m))=_;exact cj _ _
def FH:IntKind→Nat
 | .i8=>127| .i16=>32767| .i32=>2147483647| .i64=>9223372036854775807
 | .u8=>255| .u16=>65535| .u32=>4294967295| .u64=>18446744073709551615
noncomputable def rq(k:IntKind)(n:Int):Int:=
 @Int.rec (fun _=>Int) (fun m=>@Bool.rec (fun _=>Int) (k.wrap (.ofNat m)) (.ofNat m) (Nat.ble m (FH k))) (fun m=>k.wrap (.negSucc m)) n
theorem gE(k:IntKind)(n:Int):rq k n=k.wrap n:=by
 cases n with
 |negSucc m=>rfl
 |
  ofNat m=>
  show@Bool.rec (fun _=>Int) (k.wrap (.ofNat m)) (.ofNat m) (Nat.ble m (FH k))=_
  cases h:Nat.ble m (FH k) with
  |false=>rfl
  |
   true=>
   have:=Nat.le_of_ble_eq_true h
   show Int.ofNat m=_
   cases k<;>simp only[FH] at this<;>simp[IntKind.wrap,IntKind.bits,IntKind.signed]<;>omega
noncomputable def yv(k:IntKind)(n:Int):Option V:=fI n fun n=>some (.i k n)
theorem fy{k:IntKind}{n:Int}{r:V}(h:yv k n=some r):r= .i k n:=by
 unfold yv at h;rw[NW] at h;cases h;rfl
noncomputable def uU(a b:Int):Bool:=
 @Int.rec (fun _=>Bool) (fun m=>@Int.rec (fun _=>Bool) (fun n=>Nat.beq m n) (fun _=>false) b) (fun m=>@Int.rec (fun _=>Bool) (fun _=>false) (fun n=>Nat.beq m n) b) a
theorem uV(m n:Nat):Nat.beq m n=decide (m=n):=by
 cases h:Nat.beq m n with
 |true=>simp[bg h]
 |false=>
  have:m≠n:=fun e=>by subst e;simp at h
  simp[this]
theorem jU(a b:Int):uU a b=(a==b):=by
 cases a with
 |
  ofNat m=>cases b with
  |
   ofNat n=>
   show Nat.beq m n=decide (Int.ofNat m=Int.ofNat n)
   rw[uV];apply decide_eq_decide.2;simp only[Int.ofNat_eq_natCast];omega
  |negSucc n=>show false=decide (Int.ofNat m=Int.negSucc n);simp
 |
  negSucc m=>cases b with
  |ofNat n=>show false=decide (Int.negSucc m=Int.ofNat n);simp
  |
   negSucc n=>
   show Nat.beq m n=decide (Int.negSucc m=Int.negSucc n)
   rw[uV];simp
noncomputable def FI(a b:Int):Bool:=
 @Int.rec (fun _=>Bool) (fun m=>@Int.rec (fun _=>Bool) (fun n=>Nat.ble (Nat.succ m) n) (fun _=>false) b) (fun m=>@Int.rec (fun _=>Bool) (fun _=>true) (fun n=>Nat.ble (Nat.succ n) m) b) a
theorem uW(m n:Nat):Nat.ble m n=decide (m≤n):=by
 cases h:Nat.ble m n with
 |true=>simp[Nat.le_of_ble_eq_true h]
 |false=>
  have:¬m≤n:=fun e=>by rw[Nat.ble_eq_true_of_le e] at h;cases h
  simp[this]
theorem uX(a b:Int):FI a b=decide (a<b):=by
 cases a with
 |
  ofNat m=>cases b with
  |ofNat n=>show Nat.ble (m+1) n=_;rw[uW];apply decide_eq_decide.2;simp;omega
  |negSucc n=>show false=_;symm;simp;omega
 |
  negSucc m=>cases b with
  |ofNat n=>show true=_;symm;simp;omega
  |negSucc n=>show Nat.ble (n+1) m=_;rw[uW];apply decide_eq_decide.2;omega
noncomputable def cJ(b:Bool):Bool:=@Bool.rec (fun _=>Bool) true false b
theorem dQ(b:Bool):cJ b= !b:=by cases b<;>rfl
noncomputable def DV(a:List Nat):List Nat→Bool:=
 @List.rec Nat (fun _=>List Nat→Bool) (fun b=>@List.rec Nat (fun _=>Bool) true (fun _ _ _=>false) b)
  (fun x _ ih b=>@List.rec Nat (fun _=>Bool) false (fun y m _=>@Bool.rec (fun _=>Bool) false (ih m) (Nat.beq x y)) b) a
theorem om:∀(a b:List Nat),DV a b=decide (a=b)
 |[],[]=>rfl
 |[],_::_=>by symm;show decide _=false;simp
 |_::_,[]=>by symm;show decide _=false;simp
 |
  x::a,y::b=>by
  show@Bool.rec (fun _=>Bool) false (DV a b) (Nat.beq x y)=_
  rw[uV,om a b]
  by_cases h:x=y<;>by_cases h2:a=b<;>simp[h,h2]
theorem jV(l:List Nat):(eu l).toList=l.map UInt8.ofNat:=by
 rw[ByteArray.toList_eq];simp[eu]
theorem pG:∀{a b:List Nat},(∀x∈a,x<256)→(∀x∈b,x<256)→a.map UInt8.ofNat=b.map UInt8.ofNat→a=b
 |[],[],_,_,_=>rfl
 |[],_::_,_,_,h=>by simp at h
 |_::_,[],_,_,h=>by simp at h
 |
  x::a,y::b,ha,hb,h=>by
  simp only[List.map_cons,List.cons.injEq] at h
  have hx:=ha x (List.mem_cons_self ..)
  have hy:=hb y (List.mem_cons_self ..)
  have e:x=y:=by
   have:=congrArg UInt8.toNat h.1
   simp at this
   omega
  rw[e,pG (fun z hz=>ha z (List.mem_cons_of_mem _ hz)) (fun z hz=>hb z (List.mem_cons_of_mem _ hz)) h.2]
noncomputable def xc(op:BinOp)(k:IntKind)(a b:Int):Option V:=
 match op with
 | .add=>yv k (rq k (Int.add a b))
 | .sub=>yv k (rq k (Int.sub a b))
 | .mul=>yv k (rq k (Int.mul a b))
 | .quo=>bf (cJ (uU b (.ofNat 0))) (yv k (rq k (Int.tdiv a b)))
 | .rem=>bf (cJ (uU b (.ofNat 0))) (yv k (Int.tmod a b))
 | .eql=>some (.b (uU a b))
 | .neq=>some (.b (cJ (uU a b)))
 | .lss=>some (.b (FI a b))
 | .leq=>some (.b (cJ (FI b a)))
 | .gtr=>some (.b (FI b a))
 | .geq=>some (.b (cJ (FI a b)))
 | .and=>yv k (k.wrap (BitVec.ofInt k.bits a &&& BitVec.ofInt k.bits b).toNat)
 | .or=>yv k (k.wrap (BitVec.ofInt k.bits a ||| BitVec.ofInt k.bits b).toNat)
 | .xor=>yv k (k.wrap (BitVec.ofInt k.bits a ^^^ BitVec.ofInt k.bits b).toNat)
 | .andNot=>yv k (k.wrap (BitVec.ofInt k.bits a &&& ~~~ BitVec.ofInt k.bits b).toNat)
 |_=>none
noncomputable def pH(op:BinOp)(k:IntKind)(a b:Int):Option V:=
 match op with
 | .shl=>bf (cJ (FI b (.ofNat 0))) (yv k (k.wrap (a*2^(min b.toNat k.bits))))
 | .shr=>bf (cJ (FI b (.ofNat 0))) (yv k (a.fdiv (2^(min b.toNat k.bits))))
 |_=>none
noncomputable def xE(a b:IntKind):Bool:=Nat.beq (Abs.IntKind.code a) (Abs.IntKind.code b)
theorem gY{a b:IntKind}(h:xE a b=true):a=b:=Abs.IntKind.fA (bg h)
noncomputable def uY(op:BinOp):Bool:=match op with| .shl| .shr=>true|_=>false
section
variable{P:Program} {E:Env} {w:World}
theorem Dl{op:BinOp}{k:IntKind}{a b:Int}{r:V}{t:TypeId}(h:xc op k a b=some r):∃v,(binOp op t (.int k a) (.int k b)).run P w= .ok v w∧RV E r v:=by
 cases op<;>simp only[xc] at h<;>first|(cases h;done)|skip
 ·have:=fy h;subst this
  exact⟨.int k (k.wrap (a+b)),by simp[binOp,Op.intArith],by simp only[RV];rw[gE];rfl⟩
 ·have:=fy h;subst this
  exact⟨.int k (k.wrap (a -b)),by simp[binOp,Op.intArith],by simp only[RV];rw[gE];rfl⟩
 ·have:=fy h;subst this
  exact⟨.int k (k.wrap (a*b)),by simp[binOp,Op.intArith],by simp only[RV];rw[gE];rfl⟩
 ·obtain⟨h0,h1⟩:=ah h
  have:=fy h1;subst this
  have hb:b≠0:=by rw[dQ,jU] at h0;simpa using h0
  exact⟨.int k (k.wrap (a.tdiv b)),by simp[binOp,Op.intDiv,hb],by simp only[RV];rw[gE]⟩
 ·obtain⟨h0,h1⟩:=ah h
  have:=fy h1;subst this
  have hb:b≠0:=by rw[dQ,jU] at h0;simpa using h0
  exact⟨.int k (a.tmod b),by simp[binOp,Op.intDiv,hb],by simp only[RV]⟩
 all_goals first
  |(
   have:=fy h;subst this
   exact⟨_,by simp only[binOp,Op.intBits,ne_eq,not_true,if_false];rfl,by simp only[RV]⟩)
  |(
   cases h
   exact⟨_,by simp only[binOp,Op.intCmp,ne_eq,not_true,if_false];rfl,by simp only[RV,jU,uX,dQ]<;>first|rfl|(congr 1;rw[Bool.eq_iff_iff];simp)⟩)
theorem yw{op:BinOp}{k k':IntKind}{a b:Int}{r:V}{t:TypeId}(h:pH op k a b=some r):∃v,(binOp op t (.int k a) (.int k' b)).run P w= .ok v w∧RV E r v:=by
 cases op<;>simp only[pH] at h<;>first|(cases h;done)|skip
 all_goals
  obtain⟨h0,h1⟩:=ah h
  have:=fy h1;subst this
  have hb:¬b<0:=by rw[dQ,uX] at h0;simpa using h0
  exact⟨_,by simp only[binOp,Op.shift,if_neg hb];rfl,by simp only[RV]⟩
noncomputable def zX(op:BinOp)(a b:List Nat):Option V:=
 match op with
 | .add=>bf (Nat.ble (a.length+b.length) 1000000) (some (.s (a++b)))
 | .eql=>some (.b (DV a b))
 | .neq=>some (.b (cJ (DV a b)))
 |_=>none
theorem Dm{op:BinOp}{a b:List Nat}{r:V}{t:TypeId}(ha:∀x∈a,x<256)(hb:∀x∈b,x<256)(h:zX op a b=some r):∃v,(binOp op t (.string (eu a)) (.string (eu b))).run P w= .ok v w∧RV E r v:=by
 have heq:((eu a).toList==(eu b).toList)=DV a b:=by
  rw[om,jV,jV]
  by_cases e:a=b
  ·subst e;simp
  ·simp only[e,decide_false]
   simpa using fun h=>e (pG ha hb h)
 cases op<;>simp only[zX] at h<;>first|(cases h;done)|skip
 ·obtain⟨h0,h1⟩:=ah h
  cases h1
  have hl:=Nat.le_of_ble_eq_true h0
  have hs:∀l,(eu l).size=l.length:=fun l=>by rw[Abs.nb];simp[eu]
  refine⟨.string (eu a++eu b),?_,?_⟩
  ·simp only[binOp,Op.stringOp,hs]
   rw[if_neg (by
    have:IntKind.i64.max=9223372036854775807:=by decide
    omega)]
   rfl
  ·simp only[RV]
   refine⟨fun x hx=>?_,?_⟩
   ·rcases List.mem_append.1 hx with h|h
    ·exact ha x h
    ·exact hb x h
   ·congr 1
    simp[eu,ByteArray.ext_iff]
 ·cases h
  exact⟨_,by simp only[binOp,Op.stringOp];rfl,by simp only[RV,heq]⟩
 ·cases h
  exact⟨_,by simp only[binOp,Op.stringOp];rfl,by simp only[RV,heq,dQ]⟩
end
end Go.Cm
namespace Go.Cm
section
variable{P:Program} {E:Env} {w:World}
noncomputable def aj.cells{α:Type}(k:aj)(f:V→Option α):Option α:=
 @aj.casesOn (fun _=>Option α) k (fun l _=>f l) (fun l _=>f l) (fun _ _=>none) (fun _ _ _ _=>none) (fun _ _=>none) (fun _ _ _ _ _ _ _ _ _=>none) none
theorem bG{α:Type}{k:aj}{f:V→Option α}{y:α}(h:k.cells f=some y):∃l e,(k= .c l e∨k= .u l e)∧f l=some y:=by
 cases k<;>first|exact⟨_,_,Or.inl rfl,h⟩|exact⟨_,_,Or.inr rfl,h⟩|cases h
noncomputable def aj.br(k:aj)(l:V):aj:=
 @aj.casesOn (fun _=>aj) k (fun _ e=>.c l e) (fun _ e=>.u l e) (fun _ _=>.df) (fun _ _ _ _=>.df) (fun _ _=>.df) (fun _ _ _ _ _ _ _ _ _=>.df) .df
theorem RB.cells{b:Id}{k:aj}{l:V}{e:TypeId}{o:Obj}(hk:k= .c l e∨k= .u l e)(h:RB E b k o):∃cs fz xs ys,o= .cells cs e fz∧cs.toList=xs++ys∧aH E l xs∧l.bK=true∧xb cs.size fz∧E.n b=cs.size∧(k= .c l e→ys= []):=by
 rcases hk with rfl|rfl
 ·obtain⟨cs,fz,h1,h2,h3,h4,h5⟩:=h
  exact⟨cs,fz,cs.toList,[],h1,by simp,h2,h3,h4,h5,fun _=>rfl⟩
 ·obtain⟨cs,fz,xs,ys,h1,h2,h3,h4,h5,h6⟩:=h
  exact⟨cs,fz,xs,ys,h1,h2,h3,h4,h5,h6,fun e=>by cases e⟩
theorem jn{t:TypeId}{i:TypeInfo}(h:P.info? t=some i):(typeInfo t).run P w= .ok i w:=by
 simp[typeInfo,h]
theorem ar{t:TypeId}{d:TypeDesc}(h:P.underlying t=some d):(underlying t).run P w= .ok d w:=by
 simp[underlying,h]
theorem aU{t:TypeId}{i:TypeInfo}(h:P.info? t=some i):(sizeOf t).run P w= .ok i.size w:=by
 simp[sizeOf,jn h]
theorem rr{t:TypeId}{i:TypeInfo}{v:Value}(h:P.info? t=some i)(hz:i.zero=some v):(zeroValue t).run P w= .ok v w:=by
 simp[zeroValue,jn h,hz]
def iO:TypeDesc→Bool
 | .struct _| .array _ _=>true
 |_=>false
theorem dq{t:TypeId}{d:TypeDesc}(h:P.underlying t=some d):(isAgg t).run P w= .ok (iO d) w:=by
 simp only[isAgg,Sem.run_bind,ar h,Result.andThen_ok]
 cases d<;>rfl
theorem kT{g o:Nat}{cs:Array Value}{e:TypeId}{fz:Nat×Nat}(h:w.heap[g]? =some (.cells cs e fz)):w.cell? ⟨g,o,none⟩=cs[o]? :=by
 simp[World.cell?,h]
theorem dZ(g o n:Nat):(⟨g,o,none⟩:Addr).add n=⟨g,o+n,none⟩:=by
 unfold Addr.add;split<;>simp_all
theorem fV{g o n:Nat}{cs:Array Value}{e:TypeId}{fz:Nat×Nat}(h:w.heap[g]? =some (.cells cs e fz))(hn:o+n≤cs.size):(loadCells ⟨g,o,none⟩ n).run P w= .ok ((cs.toList.drop o).take n).toArray w:=by
 have:=run_loadCells_list (P:=P) w ⟨g,o,none⟩ ((cs.toList.drop o).take n) (fun j v hj=>by
  rw[dZ,kT h]
  rw[List.getElem?_take] at hj
  split at hj
  ·rw[List.getElem?_drop] at hj;simpa using hj
  ·cases hj)
 rw[show((cs.toList.drop o).take n).length=n from by simp;omega] at this
 exact this
noncomputable def dJ(P:Program)(hb:Id→Option aj)(t:TypeId)(x:V):Option V:=
 x.ptr fun b o=>bO (hb b) fun k=>k.cells fun l=>bO (P.underlying t) fun d=>
  @Bool.rec (fun _=>Option V) (pd o l) (bO (P.info? t) fun i=>bO (bY o i.size l) fun r=>some (.agg r)) (iO d)
theorem gS{hp:T aj}{hb:Id→Option aj}(hH:RH E hp w)(hB:∀b k,hb b=some k→get b hp=some k){t:TypeId}{x r:V}{vx:Value}(hx:RV E x vx)(h:dJ P hb t x=some r):
 ∃v,(Instr.loadAt t vx).run P w= .ok v w∧RV E r v:=by
 obtain⟨b,o,rfl,h⟩:=eA h
 obtain⟨k,hk,h⟩:=aa h
 obtain⟨l,e,hke,h⟩:=bG h
 obtain⟨d,hd,h⟩:=aa h
 simp only[RV] at hx
 obtain⟨g,hg,rfl⟩:=hx
 obtain⟨g',ob,h1,h2,h3⟩:=hH.bh b k (hB b k hk)
 rw[hg] at h1;cases h1
 obtain⟨cs,fz,xs,ys,rfl,q1,q2,q3,q4,q5,_⟩:=RB.cells hke h3
 cases ha:iO d with
 |
  false=>
  rw[ha] at h
  obtain⟨v,n1,n2,_⟩:=uS q2 (show pd o l=some r from h)
  refine⟨v,?_,n2⟩
  have hc:w.cell? ⟨g,o,none⟩=some v:=by
   rw[kT h2]
   have:cs.toList[o]? =some v:=by rw[q1,List.getElem?_append_left (List.getElem?_eq_some_iff.1 n1).1];exact n1
   simpa using this
  simp[Instr.loadAt,Instr.sureAddr,loadVar,dq hd,ha,hc]
 |
  true=>
  rw[ha] at h
  obtain⟨i,hi,h⟩:=aa (show(bO (P.info? t) fun i=>bO (bY o i.size l) fun r=>some (.agg r))=some r from h)
  obtain⟨r',hr,h⟩:=aa h
  cases h
  obtain⟨n1,n2,n3⟩:=gX q2 hr
  have Sd:o+i.size≤cs.size:=by
   have:=congrArg List.length q1
   simp at this;omega
  have he:(cs.toList.drop o).take i.size=(xs.drop o).take i.size:=by
   rw[q1,List.drop_append_of_le_length (by omega),List.take_append_of_le_length (by simp;omega)]
  refine⟨.agg ((cs.toList.drop o).take i.size).toArray,?_,?_⟩
  ·simp[Instr.loadAt,Instr.sureAddr,loadVar,dq hd,ha,aU hi,fV h2 Sd]
  ·simp only[RV]
   exact⟨_,rfl,by rw[he];exact n2,n3 q3⟩
theorem RV.zY{x:V}{v:Value}(h:RV E x v)(ho:x.one=true):v.oneCell'=true:=by
 cases x<;>first
  |(simp[V.one] at ho;done)
  |(simp only[RV] at h;subst h;rfl)
  |(simp only[RV] at h;obtain⟨_,rfl⟩:=h;rfl)
  |(simp only[RV] at h;obtain⟨_,_,rfl⟩:=h;rfl)
  |(simp only[RV] at h;obtain⟨_,rfl,_⟩:=h;rfl)
  |(simp only[RV] at h;obtain⟨_,_,rfl,_⟩:=h;rfl)
  |(simp only[RV] at h;obtain⟨_,_,_,rfl,_⟩:=h;rfl)
theorem aH.mU:∀{x:V}{vs:List Value},aH E x vs→x.bK=true→∀v∈vs,v.oneCell'=true:=by
 intro x
 induction x with
 |nil=>intro vs h _ v hv;rw[aH.bL] at h;subst h;cases hv
 |
  cons a l _ ih=>
  intro vs h ho v hv
  obtain⟨u,r,rfl,h1,h2⟩:=aH.aw.1 h
  simp only[V.bK,Bool.and_eq_true] at ho
  rcases List.mem_cons.1 hv with e|e
  ·subst e;exact h1.zY ho.1
  ·exact ih h2 ho.2 v e
 |_=>intro vs h;simp[aH] at h
def _root_.Go.World.br(w:World)(g:Nat)(o:Obj):World:={w with heap:=w.heap.setIfInBounds g o}
theorem rY(w:World)(g:Nat)(a b:Obj):(w.br g a).br g b=w.br g b:=by
 simp[World.br]
theorem yx{g o:Nat}{cs:Array Value}{e:TypeId}{fz:Nat×Nat}{v:Value}(h:w.heap[g]? =some (.cells cs e fz))(ho:o<cs.size)(hf:xb cs.size fz)(hv:v.oneCell'=true):
 (store ⟨g,o,none⟩ v).run P w= .ok () (w.br g (.cells (cs.setIfInBounds o v) e fz)):=by
 have hc:w.cell? ⟨g,o,none⟩=some cs[o]:=by rw[kT h];simp[ho]
 have hfz:w.frozen? ⟨g,o,none⟩=false:=by
  have:=hf.no o ho
  obtain⟨lo,hi⟩:=fz
  simp only[World.frozen?,h]
  simp only at this
  rw[Bool.eq_false_iff]
  simpa using this
 have hs:w.setCell ⟨g,o,none⟩ v=w.br g (.cells (cs.setIfInBounds o v) e fz):=by
  simp only[World.setCell,World.br]
  congr 1
  apply Array.ext_getElem?
  intro i
  rw[Array.getElem?_modify,Array.getElem?_setIfInBounds]
  have Sg:g<w.heap.size:=(Array.getElem?_eq_some_iff.1 h).1
  split
  ·rename_i e';subst e';rw[h];simp
  ·rfl
 cases v<;>first|(cases hv;done)|(simp only[store,Sem.run,hc,hfz,hs];rfl)
theorem gZ{g o:Nat}{e:TypeId}{fz:Nat×Nat}:∀{vs:List Value}{i:Nat}{cs:Array Value}{w:World},w.heap[g]? =some (.cells cs e fz)→o+i+vs.length≤cs.size→xb cs.size fz→(∀v∈vs,v.oneCell'=true)→
 ∃SE,(storeCells ⟨g,o,none⟩ vs i).run P w= .ok () (w.br g (.cells SE e fz))∧SE.toList=cs.toList.take (o+i)++vs++cs.toList.drop (o+i+vs.length)
 |
  [],i,cs,w,h,hl,hf,hv=>by
  refine⟨cs,?_,by simp⟩
  have:w.br g (.cells cs e fz)=w:=by
   simp only[World.br]
   have:w.heap.setIfInBounds g (.cells cs e fz)=w.heap:=by
    apply Array.ext_getElem?
    intro j
    rw[Array.getElem?_setIfInBounds]
    split
    ·rename_i e';subst e';rw[h,if_pos (Array.getElem?_eq_some_iff.1 h).1]
    ·rfl
   rw[this]
  simp[storeCells,this]
 |
  v::vs,i,cs,w,h,hl,hf,hv=>by
  simp only[List.length_cons] at hl
  have h1:=yx (P:=P) (v:=v) h (o:=o+i) (by omega) hf (hv v (List.mem_cons_self ..))
  have Sg:g<w.heap.size:=(Array.getElem?_eq_some_iff.1 h).1
  obtain⟨SE,h2,h3⟩:=gZ (g:=g) (o:=o) (e:=e) (fz:=fz) (vs:=vs) (i:=i+1) (cs:=cs.setIfInBounds (o+i) v) (w:=w.br g (.cells (cs.setIfInBounds (o+i) v) e fz)) (by simp[World.br,Sg]) (by simp;omega) (by simpa using hf) (fun u hu=>hv u (List.mem_cons_of_mem _ hu))
  refine⟨SE,?_,?_⟩
  ·rw[storeCells,dZ]
   simp only[Sem.run_bind,h1,Result.andThen_ok,h2,rY]
  ·rw[h3]
   simp only[Array.toList_setIfInBounds]
   have hlen:o+i<cs.toList.length:=by simp;omega
   rw[List.take_set,List.drop_set]
   rw[if_pos (by omega)]
   rw[show o+(i+1)=o+i+1 from by omega]
   rw[List.take_add_one,List.set_append]
   simp only[List.length_take,Nat.min_eq_left (Nat.le_of_lt hlen),Nat.lt_irrefl,if_false,Nat.sub_self]
   rw[List.getElem?_eq_getElem hlen]
   simp only[Option.toList,List.set_cons_zero,List.length_cons]
   simp only[List.append_assoc,List.cons_append,List.nil_append]
   rw[show o+i+1+vs.length=o+i+(vs.length+1) from by omega]
noncomputable def V.flat(x:V):V:=
 @V.casesOn (fun _=>V) x (fun y=>.cons (.b y) .nil) (fun k n=>.cons (.i k n) .nil) (fun l=>.cons (.s l) .nil) (fun b o=>.cons (.p b o) .nil) (.cons .np .nil) (fun a b c d=>.cons (.sl a b c d) .nil) (fun a b c d=>.cons (.su a b c d) .nil) (.cons .ns .nil) (.cons .se .nil) (fun b=>.cons (.m b) .nil) (.cons .nm .nil) (fun f a b=>.cons (.fn f a b) .nil) (fun b=>.cons (.yl b) .nil) (.cons .nf .nil) (fun t v=>.cons (.FG t v) .nil) (.cons .ni .nil) (fun l=>l) (fun _=>.un) .un .un (fun _ _=>.un)
theorem FJ{x:V}{v:Value}(h:RV E x v){vs:V}(hn:x.flat=vs)(hc:vs≠.un):aH E vs v.cells.toList∧vs.bK=true:=by
 subst hn
 have key:x.one=true→aH E (.cons x .nil) v.cells.toList∧(V.cons x .nil).bK=true:=by
  intro ho
  have h1:=h.zY ho
  have:v.cells= #[v]:=by cases v<;>first|rfl|cases h1
  rw[this]
  exact⟨aH.aw.2 ⟨v,[],rfl,h,by simp[aH]⟩,by simp[V.bK,ho]⟩
 cases x<;>first
  |exact key rfl
  |(exfalso;exact hc rfl)
  |(simp only[RV] at h;obtain⟨a,rfl,h1,h2⟩:=h;exact⟨h1,h2⟩)
noncomputable def V.NX(x:V):Bool:=
 @V.casesOn (fun _=>Bool) x (fun _=>false) (fun _ _=>false) (fun _=>false) (fun _ _=>false) false (fun _ _ _ _=>false) (fun _ _ _ _=>false) false false (fun _=>false) false (fun _ _ _=>false) (fun _=>false) false (fun _ _=>false) false (fun _=>false) (fun _=>false) true false (fun _ _=>false)
noncomputable def V.Dn{α:Type}(x:V)(f:V→Option α):Option α:=@Bool.rec (fun _=>Option α) (f x.flat) none x.flat.NX
theorem hJ{α:Type}{x:V}{f:V→Option α}{y:α}(h:x.Dn f=some y){v:Value}(hr:RV E x v):∃vs,f vs=some y∧aH E vs v.cells.toList∧vs.bK=true:=by
 unfold V.Dn at h
 cases hu:x.flat.NX with
 |true=>rw[hu] at h;cases h
 |
  false=>
  rw[hu] at h
  have:=FJ hr rfl (fun e=>by rw[e] at hu;cases hu)
  exact⟨_,h,this.1,this.2⟩
noncomputable def kU(P:Program)(hb:Id→Option aj)(t:TypeId)(x y:V):Option (Id×aj):=
 x.ptr fun b o=>bO (hb b) fun k=>k.cells fun l=>bO (P.info? t) fun i=>y.Dn fun vs=>bf (Nat.beq (mR vs) i.size) (bO (w9 o vs l) fun l'=>some (b,k.br l'))
theorem yy{hp:T aj}{hb:Id→Option aj}{nx:Id}(hH:RH E hp w)(hB:∀b k,hb b=some k→get b hp=some k){t:TypeId}{x y:V}{vx vy:Value}(hx:RV E x vx)(hy:RV E y vy){b:Id}{k':aj}(h:kU P hb t x y=some (b,k')):
 ∃w',(Instr.storeAt t vx vy).run P w= .ok () w'∧RH E (put (some k') b hp) w'∧Ex hp nx E w (put (some k') b hp) nx E w':=by
 obtain⟨b',o,rfl,h⟩:=eA h
 obtain⟨k,hk,h⟩:=aa h
 obtain⟨l,e,hke,h⟩:=bG h
 obtain⟨i,hi,h⟩:=aa h
 obtain⟨vs,h,hvs,hvo⟩:=hJ h hy
 obtain⟨hl,h⟩:=ah h
 obtain⟨l',hl',h⟩:=aa h
 cases h
 simp only[RV] at hx
 obtain⟨g,hg,rfl⟩:=hx
 obtain⟨g',ob,h1,h2,h3⟩:=hH.bh b k (hB b k hk)
 rw[hg] at h1;cases h1
 obtain⟨cs,fz,xs,ys,rfl,q1,q2,q3,q4,q5,q6⟩:=RB.cells hke h3
 obtain⟨n1,n2,n3⟩:=mT hvs q2 hl'
 have Sd:xs.length+ys.length=cs.size:=by have:=congrArg List.length q1;simp at this;omega
 obtain⟨SE,r1,r2⟩:=gZ (P:=P) (o:=o) (i:=0) h2 (vs:=vy.cells.toList) (by omega) q4 (hvs.mU hvo)
 have hlen:SE.size=cs.size:=by
  have:=congrArg List.length r2
  simp at this n1;omega
 have hcs:SE.toList=(xs.take o++vy.cells.toList++xs.drop (o+vy.cells.toList.length))++ys:=by
  rw[r2,q1]
  simp only[Nat.add_zero]
  rw[List.take_append_of_le_length (by omega),List.drop_append_of_le_length (by omega)]
  simp
 have hrb:RB E b (k.br l') (.cells SE e fz):=by
  rcases hke with rfl|rfl
  ·have:=q6 rfl;subst this
   rw[List.append_nil] at hcs
   exact⟨SE,fz,rfl,by rw[hcs];exact n2,n3 hvo q3,by rw[hlen];exact q4,by rw[q5,hlen]⟩
  ·exact⟨SE,fz,_,ys,rfl,hcs,n2,n3 hvo q3,by rw[hlen];exact q4,by rw[q5,hlen]⟩
 obtain⟨s1,s2⟩:=hH.change (nx:=nx) (k:=k.br l') (hB b k hk) hg (w.br g (.cells SE e fz)) rfl rfl (Tp.r rfl rfl) rfl hrb
 refine⟨_,?_,s1,s2⟩
 have hsize:vy.cells.size=i.size:=by rw[←bg hl,hvs.len];simp
 simp[Instr.storeAt,Instr.sureAddr,storeVar,aU hi,hsize,r1]
end
end Go.Cm
namespace Go.Cm
noncomputable def NY:Value→Option V
 | .bool b=>some (.b b)
 | .int k n=>some (.i k n)
 | .string s=>some (.s (s.data.toList.map UInt8.toNat))
 | .pointer none=>some .np
 | .slice none 0 0=>some .ns
 | .map none=>some .nm
 | .nilFunc=>some .nf
 | .nilIface=>some .ni
 |_=>none
noncomputable def PF(l:List Value):Option V:=
 @List.rec Value (fun _=>Option V) (some .nil) (fun v _ ih=>bO (NY v) fun x=>bO ih fun r=>some (.cons x r)) l
noncomputable def cV:Value→Option V
 | .agg a=>bO (PF a.toList) fun l=>some (.agg l)
 |v=>NY v
section
variable{P:Program} {E:Env} {w:World}
theorem Dp(s:ByteArray):eu (s.data.toList.map UInt8.toNat)=s:=by
 have:(s.data.toList.map UInt8.toNat).map UInt8.ofNat=s.data.toList:=by
  rw[List.map_map]
  have:(UInt8.ofNat∘UInt8.toNat)=id:=by funext x;simp
  rw[this,List.map_id]
 apply ByteArray.ext
 simp[eu,this]
theorem Dq{v:Value}{x:V}(h:NY v=some x):RV E x v∧x.one=true:=by
 unfold NY at h
 split at h<;>cases h
 ·exact⟨by simp only[RV],rfl⟩
 ·exact⟨by simp only[RV],rfl⟩
 ·rename_i s
  refine⟨?_,rfl⟩
  simp only[RV,Dp,and_true]
  intro x hx
  obtain⟨y,_,rfl⟩:=List.mem_map.1 hx
  exact y.toNat_lt
 all_goals exact⟨by simp only[RV],rfl⟩
theorem Dr:∀{l:List Value}{x:V},PF l=some x→aH E x l∧x.bK=true
 |[],x,h=>by cases h;exact⟨by simp only[aH],rfl⟩
 |
  v::l,x,h=>by
  obtain⟨y,h1,h⟩:=aa (show(bO (NY v) fun x=>bO (PF l) fun r=>some (.cons x r))=some x from h)
  obtain⟨r,h2,h⟩:=aa h
  cases h
  obtain⟨a1,a2⟩:=Dq (E:=E) h1
  obtain⟨b1,b2⟩:=Dr (l:=l) h2
  exact⟨aH.aw.2 ⟨v,l,rfl,a1,b1⟩,by simp[V.bK,a2,b2]⟩
theorem Ds{v:Value}{x:V}(h:cV v=some x):RV E x v:=by
 unfold cV at h
 split at h
 ·obtain⟨l,h1,h⟩:=aa h
  cases h
  obtain⟨a1,a2⟩:=Dr (E:=E) h1
  simp only[RV]
  exact⟨_,rfl,a1,a2⟩
 ·exact(Dq h).1
noncomputable def zeroV(P:Program)(t:TypeId):Option V:=bO (P.info? t) fun i=>bO i.zero fun v=>cV v
theorem jo{t:TypeId}{x:V}(h:zeroV P t=some x):∃v,(zeroValue t).run P w= .ok v w∧RV E x v:=by
 obtain⟨i,h1,h⟩:=aa h
 obtain⟨v,h2,h⟩:=aa h
 exact⟨v,rr h1 h2,Ds h⟩
inductive bw where
 |v (x:V)
 |nw (x:V) (k:aj)
 |ch (x:V) (b:Id) (k:aj)
 |mv (x:V) (b:Id) (k:aj)
noncomputable def bw.val(e:bw):V:=@bw.rec (fun _=>V) (fun x=>x) (fun x _=>x) (fun x _ _=>x) (fun x _ _=>x) e
noncomputable def bw.hp(e:bw)(nx:Id)(hp:T aj):T aj:=@bw.rec (fun _=>T aj) (fun _=>hp) (fun _ k=>put (some k) nx hp) (fun _ b k=>put (some k) b hp) (fun _ b k=>put (some k) nx (put none b hp)) e
noncomputable def bw.nx(e:bw)(nx:Id):Id:=@bw.rec (fun _=>Id) (fun _=>nx) (fun _ _=>jR nx) (fun _ _ _=>nx) (fun _ _ _=>jR nx) e
def pD(P:Program)(L:Nat)(hp:T aj)(nx:Id)(E:Env)(w:World)(e:bw)(s:Sem Value):Prop:=
 num (e.nx nx)≤L→∃v w' E',s.run P w= .ok v w'∧RV E' e.val v∧RH E' (e.hp nx hp) w'∧bI L (e.nx nx) E'∧Ex hp nx E w (e.hp nx hp) (e.nx nx) E' w'
theorem pD.same{L:Nat}{hp:T aj}{nx:Id}(hH:RH E hp w)(hF:bI L nx E){x:V}{s:Sem Value}{v:Value}(h1:s.run P w= .ok v w)(h2:RV E x v):pD P L hp nx E w (.v x) s:=
 fun _=>⟨v,w,E,h1,h2,hH,hF,Ex.refl _ _ _ _⟩
theorem kV{L:Nat}{hp:T aj}{nx:Id}(hH:RH E hp w)(hF:bI L nx E)(hL:num (jR nx)≤L){l:V}{cs:Array Value}(e:TypeId)(h:aH E l cs.toList)(ho:l.bK=true):
 ∃E',(newRow e cs).run P w= .ok ⟨w.heap.size,0,none⟩ {w with heap:=w.heap.push (.cells cs e)}∧E'.g nx=some w.heap.size∧E'.n nx=cs.size∧E.le E'∧RH E' (put (some (.c l e)) nx hp) {w with heap:=w.heap.push (.cells cs e)}∧bI L (jR nx) E'∧Ex hp nx E w (put (some (.c l e)) nx hp) (jR nx) E' {w with heap:=w.heap.push (.cells cs e)}:=by
 rw[bk] at hL
 have hle:E.le ⟨fun b=>if b=nx then some w.heap.size else E.g b,fun b=>if b=nx then cs.size else E.n b⟩:=by
  intro b g hb
  have R7:b≠nx:=fun e'=>by subst e';rw[hF b (Nat.le_refl _) (by omega)] at hb;cases hb
  exact⟨by simp only[if_neg R7];exact hb,by simp only[if_neg R7]⟩
 obtain⟨a1,a2,a3,a4,a5⟩:=hH.fresh hF (by omega) (k:=.c l e) (o:=.cells cs e) (n:=cs.size) {w with heap:=w.heap.push (.cells cs e)} rfl rfl (Tp.r rfl rfl) rfl _ rfl ⟨cs,(0,0),rfl,h.mono hle,ho,Or.inl rfl,by simp⟩
 exact⟨_,by simp[newRow],a5,by simp,a4,a1,a2,a3⟩
noncomputable def zZ(P:Program)(nx:Id)(t:TypeId):Option bw:=
 bO (zeroV P t) fun z=>z.Dn fun l=>some (.nw (.p nx 0) (.c l t))
theorem yz{L:Nat}{hp:T aj}{nx:Id}(hH:RH E hp w)(hF:bI L nx E){t:TypeId}{e:bw}(h:zZ P nx t=some e)(old:Value):pD P L hp nx E w e (Instr.alloc t true old):=by
 obtain⟨z,hz,h⟩:=aa h
 obtain⟨v,z1,z2⟩:=jo (E:=E) (w:=w) hz
 obtain⟨l,h,h1,h2⟩:=hJ h z2
 cases h
 intro hL
 obtain⟨E',a1,a2,a3,a4,a5,a6,a7⟩:=kV (P:=P) hH hF hL t h1 h2
 refine⟨.pointer (some ⟨w.heap.size,0,none⟩),_,E',?_,?_,a5,a6,a7⟩
 ·simp[Instr.alloc,z1,newVar,a1]
 ·show RV E' (.p nx 0) _
  simp only[RV];exact⟨_,a2,rfl⟩
noncomputable def Iz(nx:Id)(t:TypeId)(x:V):Option bw:=x.Dn fun l=>some (.nw (.p nx 0) (.c l t))
theorem Dt{L:Nat}{hp:T aj}{nx:Id}(hH:RH E hp w)(hF:bI L nx E){t:TypeId}{x:V}{v:Value}(hx:RV E x v){e:bw}(h:Iz nx t x=some e):pD P L hp nx E w e (Instr.box t v):=by
 obtain⟨l,h,h1,h2⟩:=hJ h hx
 cases h
 intro hL
 obtain⟨E',a1,a2,a3,a4,a5,a6,a7⟩:=kV (P:=P) hH hF hL t h1 h2
 refine⟨.pointer (some ⟨w.heap.size,0,none⟩),_,E',?_,?_,a5,a6,a7⟩
 ·simp[Instr.box,newVar,a1]
 ·show RV E' (.p nx 0) _
  simp only[RV];exact⟨_,a2,rfl⟩
def NZ(E:Env):List (Nat×V)→List (Nat×Value)→Prop
 |[],l=>l= []
 |(i,x)::ps,l=>∃v r,l=(i,v)::r∧RV E x v∧NZ E ps r
noncomputable def xd(place:Nat→Option (Nat×Nat))(ps:List (Nat×V)):V→Option V:=
 @List.rec (Nat×V) (fun _=>V→Option V) (fun c=>some c)
  (fun p _ ih c=>bO (place p.1) fun os=>p.2.Dn fun l=>bf (Nat.beq (mR l) os.2) (bO (w9 os.1 l c) fun c'=>ih c')) ps
theorem mV{place:Nat→Option (Nat×Nat)}:∀{ps:List (Nat×V)}{vs:List (Nat×Value)}{c c':V}{cells:Array Value},NZ E ps vs→aH E c cells.toList→c.bK=true→xd place ps c=some c'→
 ∃R6,Instr.fill place cells vs=some R6∧aH E c' R6.toList∧c'.bK=true∧R6.size=cells.size
 |
  [],vs,c,c',cells,hp,hc,ho,h=>by
  have hp:vs= []:=hp
  subst hp;cases(show some c=some c' from h)
  exact⟨cells,rfl,hc,ho,rfl⟩
 |
  (i,x)::ps,vs,c,c',cells,⟨v,r,hvs,hx,hp⟩,hc,ho,h=>by
  subst hvs
  obtain⟨os,h1,h⟩:=aa (show(bO (place i) fun os=>x.Dn fun l=>bf (Nat.beq (mR l) os.2) (bO (w9 os.1 l c) fun c'=>xd place ps c'))=some c' from h)
  obtain⟨l,h,h2,h3⟩:=hJ h hx
  obtain⟨h4,h⟩:=ah h
  obtain⟨c1,h5,h⟩:=aa h
  obtain⟨n1,n2,n3⟩:=mT h2 hc h5
  have Sd:v.cells.size=os.2:=by rw[←bg h4,h2.len];simp
  simp only[Array.length_toList] at n1 n2
  obtain⟨cells1,f1,f2⟩:=Abs.kZ place cells i os.1 os.2 v r (by rw[h1]) Sd (by rw[←Sd];simpa using n1)
  rw[←Sd] at f2
  obtain⟨R6,g1,g2,g3,g4⟩:=mV (place:=place) (ps:=ps) (vs:=r) (c:=c1) (c':=c') (cells:=cells1) hp (by rw[f2];exact n2) (n3 h3 ho) h
  refine⟨R6,by rw[f1,g1],g2,g3,?_⟩
  rw[g4]
  have:=congrArg List.length f2
  simp at this n1;omega
noncomputable def places(P:Program)(fs:List Field):Option (List (Nat×Nat)):=
 @List.rec Field (fun _=>Option (List (Nat×Nat))) (some []) (fun f _ ih=>bO (P.info? f.type) fun i=>bO ih fun r=>some ((f.offset,i.size)::r)) fs
theorem tB:∀{fs:List Field}{l:List (Nat×Nat)},places P fs=some l→(∀f∈fs,∃i,P.info? f.type=some i)∧l=fs.map (fun f=>(f.offset,((P.info? f.type).map (·.size)).getD 0))
 |[],l,h=>by cases h;exact⟨fun f hf=>(by cases hf),rfl⟩
 |
  f::fs,l,h=>by
  obtain⟨i,h1,h⟩:=aa (show(bO (P.info? f.type) fun i=>bO (places P fs) fun r=>some ((f.offset,i.size)::r))=some l from h)
  obtain⟨r,h2,h⟩:=aa h
  cases h
  obtain⟨a1,a2⟩:=tB (fs:=fs) h2
  refine⟨fun f' hf'=>?_,by rw[a2];simp[h1]⟩
  rcases List.mem_cons.1 hf' with e|e
  ·subst e;exact⟨i,h1⟩
  ·exact a1 f' e
noncomputable def eK{α:Type}(l:List α):Nat→Option α:=
 @List.rec α (fun _=>Nat→Option α) (fun _=>none) (fun a _ ih n=>@Nat.rec (fun _=>Option α) (some a) (fun m _=>ih m) n) l
theorem dD{α:Type}:∀(l:List α)(n:Nat),eK l n=l[n]?
 |[],n=>rfl
 |a::l,0=>rfl
 |a::l,n+1=>by show eK l n=_;rw[dD l n];simp
noncomputable def kW(P:Program)(t:TypeId)(ps:List (Nat×V)):Option V:=
 bO (P.underlying t) fun d=>bO (zeroV P t) fun z=>z.Dn fun c=>
  match d with
  | .struct fs=>bO (places P fs.toList) fun pl=>bO (xd (eK pl) ps c) fun r=>some (.agg r)
  | .array _ e=>bO (P.info? e) fun i=>bO (xd (fun j=>some (Nat.mul j i.size,i.size)) ps c) fun r=>some (.agg r)
  |_=>none
theorem yA{t:TypeId}{ps:List (Nat×V)}{vs:Array (Nat×Value)}(hp:NZ E ps vs.toList){r:V}(h:kW P t ps=some r):∃v,(Instr.build t vs).run P w= .ok v w∧RV E r v:=by
 obtain⟨d,hd,h⟩:=aa h
 obtain⟨z,hz,h⟩:=aa h
 obtain⟨v,z1,z2⟩:=jo (E:=E) (w:=w) hz
 obtain⟨c,h,h1,h2⟩:=hJ h z2
 cases d with
 |
  struct fs=>
  obtain⟨pl,p1,h⟩:=aa h
  obtain⟨r',f1,h⟩:=aa h
  cases h
  obtain⟨a1,a2⟩:=tB p1
  obtain⟨R6,g1,g2,g3,_⟩:=mV hp h1 h2 f1
  have hm:(fs.mapM fun f=>do pure (f.offset,←sizeOf f.type):Sem _).run P w= .ok (fs.map fun f=>(f.offset,((P.info? f.type).map (·.size)).getD 0)) w:=by
   refine Abs.xz _ _ fs ?_
   intro f hf
   obtain⟨i,hi⟩:=a1 f hf
   simp[aU hi,hi]
  have hpl:(fun i=>(fs.map fun f=>(f.offset,((P.info? f.type).map (·.size)).getD 0))[i]?)=eK pl:=by
   funext i
   rw[dD,a2];simp
  refine⟨.agg R6,?_,by simp only[RV];exact⟨_,rfl,g2,g3⟩⟩
  simp only[Instr.build,Sem.run_bind,z1,Result.andThen_ok,ar hd,hm]
  rw[hpl,g1]
  simp
 |
  array n e=>
  obtain⟨i,hi,h⟩:=aa h
  obtain⟨r',f1,h⟩:=aa h
  cases h
  obtain⟨R6,g1,g2,g3,_⟩:=mV hp h1 h2 f1
  refine⟨.agg R6,?_,by simp only[RV];exact⟨_,rfl,g2,g3⟩⟩
  simp only[Instr.build,Sem.run_bind,z1,Result.andThen_ok,ar hd,aU hi]
  have:(fun j=>some (j*i.size,i.size))=(fun j=>some (Nat.mul j i.size,i.size)):=rfl
  rw[this,g1]
  simp
 |_=>cases h
noncomputable def Du(n:Nat)(z:V):V:=@Nat.rec (fun _=>V) .nil (fun _ ih=>iv z ih) n
theorem z6{z:V}{zs:List Value}(h:aH E z zs)(ho:z.bK=true):∀n,aH E (Du n z) (List.replicate n zs).flatten∧(Du n z).bK=true
 |0=>⟨by simp[Du,aH],rfl⟩
 |
  n+1=>by
  obtain⟨h1,h2⟩:=z6 h ho n
  refine⟨?_,mS ho h2⟩
  rw[List.replicate_succ,List.flatten_cons]
  exact h.app h1
theorem z7(zs:Array Value)(hz:0<zs.size):∀n,((Array.range (n*zs.size)).map (zs[· % zs.size]!)).toList=(List.replicate n zs.toList).flatten
 |0=>by simp
 |
  n+1=>by
  have ih:=z7 zs hz n
  simp only[Array.toList_map,Array.toList_range] at ih ⊢
  rw[Nat.add_mul,Nat.one_mul,List.range_add,List.map_append,ih,List.replicate_succ',List.flatten_append]
  congr 1
  simp only[List.map_map,List.flatten_cons,List.flatten_nil,List.append_nil]
  apply List.ext_getElem?
  intro i
  rw[List.getElem?_map]
  rcases Nat.lt_or_ge i zs.size with hi|hi
  ·rw[List.getElem?_range hi]
   simp only[Option.map_some,Function.comp]
   rw[show(n*zs.size+i) % zs.size=i from by rw[Nat.mul_comm,Nat.mul_add_mod];exact Nat.mod_eq_of_lt hi]
   simp[hi]
  ·rw[List.getElem?_eq_none (by simpa using hi),List.getElem?_eq_none (by simpa using hi)];rfl
end
end Go.Cm
namespace Go.Cm
section
variable{P:Program} {E:Env} {w:World}
noncomputable def FK(P:Program)(e:TypeId)(size n:Nat):Option V:=
 @Bool.rec (fun _=>Option V) (bO (zeroV P e) fun z=>z.Dn fun c=>bf (Nat.beq (mR c) size) (some (Du n c))) (some .nil) (Nat.beq (Nat.mul n size) 0)
theorem z8{e:TypeId}{size n:Nat}{c:V}(h:FK P e size n=some c)(w:World):∃cells:Array Value,((n*size=0∧cells= #[])∨(n*size≠0∧∃v,(zeroValue e).run P w= .ok v w∧cells=v.cells))∧aH E c ((Array.range (n*size)).map (cells[· % cells.size]!)).toList∧c.bK=true:=by
 unfold FK at h
 by_cases hn:n*size=0
 ·have:Nat.beq (Nat.mul n size) 0=true:=by show Nat.beq (n*size) 0=true;rw[hn];rfl
  rw[this] at h
  cases h
  exact⟨#[],Or.inl ⟨hn,rfl⟩,by rw[hn];simp[aH],rfl⟩
 ·have:Nat.beq (Nat.mul n size) 0=false:=by
   cases hb:Nat.beq (Nat.mul n size) 0 with
   |false=>rfl
   |true=>exact absurd (bg hb) hn
  rw[this] at h
  obtain⟨z,hz,h⟩:=aa (show(bO (zeroV P e) fun z=>z.Dn fun c=>bf (Nat.beq (mR c) size) (some (Du n c)))=some c from h)
  obtain⟨v,z1,z2⟩:=jo (E:=E) (w:=w) hz
  obtain⟨c0,h,h1,h2⟩:=hJ h z2
  obtain⟨h3,h⟩:=ah h
  cases h
  have hs:v.cells.size=size:=by rw[←bg h3,h1.len];simp
  obtain⟨r1,r2⟩:=z6 h1 h2 n
  refine⟨v.cells,Or.inr ⟨hn,v,z1,rfl⟩,?_,r2⟩
  rw[←hs,z7 v.cells (by
   rcases Nat.eq_zero_or_pos v.cells.size with h0|h0
   ·rw[hs] at h0;rw[h0] at hn;simp at hn
   ·exact h0)]
  exact r1
noncomputable def dR(P:Program)(nx:Id)(t:TypeId)(len:Nat)(ps:List (Nat×V)):Option bw:=
 bO (P.underlying t) fun d=>match d with
  | .slice e=>bO (P.info? e) fun i=>bf (Nat.ble (Nat.mul len i.size) 16777216) (bO (FK P e i.size len) fun c=>bO (xd (fun j=>some (Nat.mul j i.size,i.size)) ps c) fun r=>some (.nw (.sl nx 0 len len) (.c r e)))
  |_=>none
theorem pf{L:Nat}{hp:T aj}{nx:Id}(hH:RH E hp w)(hF:bI L nx E){t:TypeId}{len:Nat}{ps:List (Nat×V)}{vs:Array (Nat×Value)}(hps:NZ E ps vs.toList){ef:bw}(h:dR P nx t len ps=some ef):pD P L hp nx E w ef (Instr.buildSlice t len vs):=by
 obtain⟨d,hd,h⟩:=aa h
 cases d with
 |
  slice e=>
  obtain⟨i,hi,h⟩:=aa h
  obtain⟨h0,h⟩:=ah h
  obtain⟨c,hc,h⟩:=aa h
  obtain⟨r,hr,h⟩:=aa h
  cases h
  intro hL
  obtain⟨z,z1,z2,z3⟩:=z8 (E:=E) hc w
  obtain⟨R6,g1,g2,g3,_⟩:=mV hps z2 z3 hr
  obtain⟨E',a1,a2,a3,a4,a5,a6,a7⟩:=kV (P:=P) hH hF hL e g2 g3
  have h0:=Nat.le_of_ble_eq_true h0
  have hns:¬(len*i.size>2^24):=by show¬(len*i.size>16777216);exact Nat.not_lt.2 h0
  refine⟨.slice (some ⟨w.heap.size,0,none⟩) len len,_,E',?_,?_,a5,a6,a7⟩
  ·have g1:Instr.fill (fun j=>some (j*i.size,i.size)) ((Array.range (len*i.size)).map (z[· % z.size]!)) vs.toList=some R6:=g1
   rcases z1 with⟨y1,y2⟩|⟨y1,v,y2,y3⟩
   ·subst y2
    simp only[Instr.buildSlice,Sem.run_bind,ar hd,Result.andThen_ok,aU hi,if_neg hns,Sem.run_pure,if_pos y1]
    rw[g1]
    simp[a1]
   ·subst y3
    simp only[Instr.buildSlice,Sem.run_bind,ar hd,Result.andThen_ok,aU hi,if_neg hns,Sem.run_pure,if_neg y1,y2]
    rw[g1]
    simp[a1]
  ·show RV E' (.sl nx 0 len len) _
   simp only[RV];exact⟨_,a2,rfl⟩
 |_=>cases h
noncomputable def dK(P:Program)(s:TypeId)(x:V)(i:Nat):Option V:=
 bO (P.underlying s) fun d=>match d with
  | .struct fs=>bO (eK fs.toList i) fun f=>bO (P.info? f.type) fun j=>bf (cJ (Nat.beq j.size 0)) (x.ptr fun b o=>fN (Nat.add o f.offset) fun o'=>some (.p b o'))
  |_=>none
theorem hO{s:TypeId}{x r:V}{i:Nat}{vx:Value}(hx:RV E x vx)(h:dK P s x i=some r):∃v,(Instr.fieldAt s vx i).run P w= .ok v w∧RV E r v:=by
 obtain⟨d,hd,h⟩:=aa h
 cases d with
 |
  struct fs=>
  obtain⟨f,hf,h⟩:=aa h
  obtain⟨j,hj,h⟩:=aa h
  obtain⟨h0,h⟩:=ah h
  obtain⟨b,o,hxe,hq⟩:=eA h
  subst hxe
  rw[cj] at hq
  cases hq
  simp only[RV] at hx
  obtain⟨g,hg,rfl⟩:=hx
  rw[dD] at hf
  have hf':fs[i]? =some f:=by simpa using hf
  have R7:¬j.size=0:=fun e=>by rw[e] at h0;cases h0
  refine⟨.pointer (some ⟨g,o+f.offset,none⟩),?_,by simp only[RV];exact⟨g,hg,rfl⟩⟩
  simp[Instr.fieldAt,ar hd,hf',Instr.sureAddr,fieldPlace,aU hj,R7,dZ]
 |_=>cases h
noncomputable def FL{α:Type}(n:Int)(f:Nat→Option α):Option α:=@Int.rec (fun _=>Option α) f (fun _=>none) n
theorem gF{α:Type}{n:Int}{f:Nat→Option α}{y:α}(h:FL n f=some y):∃m:Nat,n= .ofNat m∧f m=some y:=by
 cases n with
 |ofNat m=>exact⟨m,rfl,h⟩
 |negSucc m=>cases h
noncomputable def fb(P:Program)(t:TypeId)(x y:V):Option V:=
 y.int fun _ n=>FL n fun n=>bO (P.underlying t) fun d=>match d with
  | .array len e=>bO (P.info? e) fun i=>bf (Nat.ble (Nat.succ n) len) (x.ptr fun b o=>fN (Nat.add o (Nat.mul n i.size)) fun o'=>some (.p b o'))
  | .slice e=>bO (P.info? e) fun i=>x.uT (fun b o l _=>bf (Nat.ble (Nat.succ n) l) (fN (Nat.add o (Nat.mul n i.size)) fun o'=>some (.p b o'))) (fun b o l _=>bf (Nat.ble (Nat.succ n) l) (fN (Nat.add o (Nat.mul n i.size)) fun o'=>some (.p b o'))) none
  |_=>none
theorem ic{t:TypeId}{x y r:V}{vx vy:Value}(hx:RV E x vx)(hy:RV E y vy)(h:fb P t x y=some r):∃v,(Instr.indexAt t vx vy).run P w= .ok v w∧RV E r v:=by
 obtain⟨k,n,rfl,h⟩:=aT h
 obtain⟨m,rfl,h⟩:=gF h
 obtain⟨d,hd,h⟩:=aa h
 simp only[RV] at hy
 subst hy
 cases d with
 |
  array len e=>
  obtain⟨i,hi,h⟩:=aa h
  obtain⟨h0,h⟩:=ah h
  obtain⟨b,o,hxe,hq⟩:=eA h
  subst hxe
  rw[cj] at hq
  cases hq
  simp only[RV] at hx
  obtain⟨g,hg,rfl⟩:=hx
  have h0:=Nat.le_of_ble_eq_true h0
  refine⟨.pointer (some ⟨g,o+m*i.size,none⟩),?_,by simp only[RV];exact⟨g,hg,rfl⟩⟩
  have Sg:m<len:=h0
  simp[Instr.indexAt,asIntOf,ar hd,Instr.sureAddr,Sg,aU hi,dZ]
 |
  slice e=>
  obtain⟨i,hi,h⟩:=aa h
  rcases cu h with⟨b,o,l,c,rfl,h⟩|⟨b,o,l,c,rfl,h⟩|⟨_,h⟩
  ·obtain⟨h0,hq⟩:=ah h
   rw[cj] at hq
   cases hq
   simp only[RV] at hx
   obtain⟨g,hg,rfl⟩:=hx
   have h0:=Nat.le_of_ble_eq_true h0
   refine⟨.pointer (some ⟨g,o+m*i.size,none⟩),?_,by simp only[RV];exact⟨g,hg,rfl⟩⟩
   have Sg:m<l:=h0
   simp[Instr.indexAt,asIntOf,ar hd,Sg,aU hi,dZ]
  ·obtain⟨h0,hq⟩:=ah h
   rw[cj] at hq
   cases hq
   simp only[RV] at hx
   obtain⟨g,cap,hg,rfl,_⟩:=hx
   have h0:=Nat.le_of_ble_eq_true h0
   refine⟨.pointer (some ⟨g,o+m*i.size,none⟩),?_,by simp only[RV];exact⟨g,hg,rfl⟩⟩
   have Sg:m<l:=h0
   simp[Instr.indexAt,asIntOf,ar hd,Sg,aU hi,dZ]
  ·cases h
 |_=>cases h
noncomputable def Dv(P:Program)(t:TypeId)(l:V)(o:Nat):Option V:=
 bO (P.underlying t) fun d=>@Bool.rec (fun _=>Option V) (pd o l) (bO (P.info? t) fun i=>bO (bY o i.size l) fun r=>some (.agg r)) (iO d)
theorem xe{t:TypeId}{l r:V}{o:Nat}{a:Array Value}(hl:aH E l a.toList)(ho:l.bK=true)(h:Dv P t l o=some r):∃v,(part t a o).run P w= .ok v w∧RV E r v:=by
 obtain⟨d,hd,h⟩:=aa h
 cases ha:iO d with
 |
  false=>
  rw[ha] at h
  obtain⟨v,n1,n2,_⟩:=uS hl (show pd o l=some r from h)
  have:a[o]? =some v:=by simpa using n1
  exact⟨v,by simp[part,dq hd,ha,this],n2⟩
 |
  true=>
  rw[ha] at h
  obtain⟨i,hi,h⟩:=aa (show(bO (P.info? t) fun i=>bO (bY o i.size l) fun r=>some (.agg r))=some r from h)
  obtain⟨r',hr,h⟩:=aa h
  cases h
  obtain⟨n1,n2,n3⟩:=gX hl hr
  refine⟨.agg (a.extract o (o+i.size)),by simp[part,dq hd,ha,aU hi],?_⟩
  simp only[RV]
  refine⟨_,rfl,?_,n3 ho⟩
  have:(a.extract o (o+i.size)).toList=(a.toList.drop o).take i.size:=by
   simp[Array.toList_extract,List.extract]
  rw[this];exact n2
noncomputable def Aa(P:Program)(t:TypeId)(x:V)(i:Nat):Option V:=
 bO (P.underlying t) fun d=>match d with
  | .struct fs=>bO (eK fs.toList i) fun f=>x.ag fun l=>Dv P f.type l f.offset
  |_=>none
theorem yB{t:TypeId}{x r:V}{i:Nat}{vx:Value}(hx:RV E x vx)(h:Aa P t x i=some r):∃v,(Instr.field t vx i).run P w= .ok v w∧RV E r v:=by
 obtain⟨d,hd,h⟩:=aa h
 cases d with
 |
  struct fs=>
  obtain⟨f,hf,h⟩:=aa h
  obtain⟨l,rfl,h⟩:=cC h
  simp only[RV] at hx
  obtain⟨a,rfl,h1,h2⟩:=hx
  obtain⟨v,p1,p2⟩:=xe (w:=w) h1 h2 h
  rw[dD] at hf
  have hf':fs[i]? =some f:=by simpa using hf
  exact⟨v,by simp[Instr.field,ar hd,hf',asAgg,p1],p2⟩
 |_=>cases h
noncomputable def kP(P:Program)(t:TypeId)(x y:V):Option V:=
 y.int fun _ n=>FL n fun n=>bO (P.underlying t) fun d=>match d with
  | .array len e=>bf (Nat.ble (Nat.succ n) len) (bO (P.info? e) fun i=>x.ag fun l=>Dv P e l (Nat.mul n i.size))
  | .string=>x.str fun l=>bO (eK l n) fun c=>some (.i .u8 (.ofNat c))
  |_=>none
theorem lW{t:TypeId}{x y r:V}{vx vy:Value}(hx:RV E x vx)(hy:RV E y vy)(h:kP P t x y=some r):∃v,(Instr.index t vx vy).run P w= .ok v w∧RV E r v:=by
 obtain⟨k,n,rfl,h⟩:=aT h
 obtain⟨m,rfl,h⟩:=gF h
 obtain⟨d,hd,h⟩:=aa h
 simp only[RV] at hy
 subst hy
 cases d with
 |
  array len e=>
  obtain⟨h0,h⟩:=ah h
  obtain⟨i,hi,h⟩:=aa h
  obtain⟨l,rfl,h⟩:=cC h
  simp only[RV] at hx
  obtain⟨a,rfl,h1,h2⟩:=hx
  obtain⟨v,p1,p2⟩:=xe (w:=w) h1 h2 h
  have h0:=Nat.le_of_ble_eq_true h0
  have Sg:m<len:=h0
  have p1':(part e a (m*i.size)).run P w= .ok v w:=p1
  exact⟨v,by simp[Instr.index,asIntOf,ar hd,Sg,aU hi,p1'],p2⟩
 |
  string=>
  obtain⟨l,rfl,h⟩:=dg h
  obtain⟨c,hc,h⟩:=aa h
  cases h
  simp only[RV] at hx
  obtain⟨h1,rfl⟩:=hx
  rw[dD] at hc
  have Sg:m<l.length:=(List.getElem?_eq_some_iff.1 hc).1
  have hc256:c<256:=h1 c (List.mem_of_getElem? hc)
  have Sd:(eu l).size=l.length:=by show(eu l).data.size=_;simp[eu]
  have hb:(eu l)[m]? =some (UInt8.ofNat c):=by
   have e:(eu l)[m]? =(eu l).data[m]? :=by
    show(if h:m<(eu l).size then some (eu l)[m] else none)=_
    rw[dif_pos (by rw[Sd];exact Sg)]
    symm
    exact Array.getElem?_eq_getElem (xs:=(eu l).data) (by show m<(eu l).size;rw[Sd];exact Sg)
   rw[e]
   simp[eu,hc]
  refine⟨.int .u8 (UInt8.ofNat c).toNat,?_,?_⟩
  ·simp only[Instr.index,asIntOf,Sem.run_bind,Sem.run_pure,Result.andThen_ok,ar hd]
   simp only[Int.ofNat_eq_natCast,Int.natCast_nonneg,if_true,Int.toNat_natCast,hb]
   simp
  ·simp only[RV]
   congr 1
   simp;omega
 |_=>cases h
end
end Go.Cm
namespace Go.Cm
section
variable{P:Program} {E:Env} {w:World}
noncomputable def v8(x:V)(y:Nat):Option Nat:=x.int fun _ n=>FL n fun n=>bf (Nat.ble n y) (some n)
theorem Dw{x:V}{y n:Nat}{vx:Value}(hx:RV E x vx)(h:v8 x y=some n)(c:BoundsCode):(Instr.sliceBound vx y c).run P w= .ok n w∧n≤y:=by
 obtain⟨k,m,rfl,h⟩:=aT h
 obtain⟨m',rfl,h⟩:=gF h
 obtain⟨h0,hq⟩:=ah h
 cases hq
 simp only[RV] at hx
 subst hx
 have h0:=Nat.le_of_ble_eq_true h0
 refine⟨?_,h0⟩
 have:(0:Int)≤Int.ofNat n∧Int.ofNat n≤(y:Int):=⟨Int.natCast_nonneg n,by simpa using h0⟩
 simp only[Instr.sliceBound,asIntOf,Sem.run_bind,Sem.run_pure,Result.andThen_ok,if_pos this]
 rfl
def RO(E:Env):Option V→Option Value→Prop
 |none,none=>True
 |some x,some v=>RV E x v
 |_,_=>False
noncomputable def mW(x:Option V)(y d:Nat):Option Nat:=@Option.rec V (fun _=>Option Nat) (some d) (fun x=>v8 x y) x
theorem fc{isS:Bool}{len cap h l:Nat}{lo hi:Option V}{vlo vhi:Option Value}(r1:RO E lo vlo)(r2:RO E hi vhi)(hh:mW hi cap len=some h)(hl:mW lo h 0=some l):(Instr.sliceBounds isS len cap vlo vhi none).run P w= .ok (l,h,cap) w∧l≤h∧(len≤cap→h≤cap):=by
 have e1:(match vhi,(none:Option Value) with
  |some v,some _=>Instr.sliceBound v cap .slice3B
  |some v,none=>Instr.sliceBound v cap (if isS then .sliceAcap else .sliceAlen)
  |none,none=>pure len
  |none,some _=>stuck "Slice: max without high" :Sem Nat).run P w= .ok h w∧(len≤cap→h≤cap):=by
  cases hi with
  |
   none=>
   cases vhi with
   |none=>cases(show some len=some h from hh);exact⟨rfl,fun h=>h⟩
   |some v=>exact r2.elim
  |
   some x=>
   cases vhi with
   |none=>exact r2.elim
   |
    some v=>
    have:=Dw (P:=P) (w:=w) (show RV E x v from r2) (show v8 x cap=some h from hh) (if isS then .sliceAcap else .sliceAlen)
    exact⟨this.1,fun _=>this.2⟩
 have e2:(match vlo with
  |some v=>Instr.sliceBound v h .sliceB
  |none=>pure 0:Sem Nat).run P w= .ok l w∧l≤h:=by
  cases lo with
  |
   none=>
   cases vlo with
   |none=>cases(show some 0=some l from hl);exact⟨rfl,Nat.zero_le _⟩
   |some v=>exact r1.elim
  |
   some x=>
   cases vlo with
   |none=>exact r1.elim
   |
    some v=>
    have:=Dw (P:=P) (w:=w) (show RV E x v from r1) (show v8 x h=some l from hl) .sliceB
    exact this
 refine⟨?_,e2.2,e1.2⟩
 unfold Instr.sliceBounds
 cases vhi<;>cases vlo<;>(simp only[Sem.run_bind,Sem.run_pure,Result.andThen_ok,Result.ok.injEq,and_true] at e1 e2 ⊢;obtain⟨e1a,_⟩:=e1;obtain⟨e2a,_⟩:=e2;first|(subst e1a;subst e2a;simp;done)|(subst e1a;simp[e2a];done)|(subst e2a;simp[e1a];done)|(simp[e1a,e2a];done))
noncomputable def Dx{α:Type}(n:Nat):List α→List α:=@Nat.rec (fun _=>List α→List α) (fun l=>l) (fun _ ih l=>@List.rec α (fun _=>List α) [] (fun _ t _=>ih t) l) n
theorem xg{α:Type}:∀(n:Nat)(l:List α),Dx n l=l.drop n
 |0,l=>rfl
 |n+1,[]=>rfl
 |n+1,_::l=>by show Dx n l=_;rw[xg n l];rfl
noncomputable def takeN{α:Type}(n:Nat):List α→List α:=@Nat.rec (fun _=>List α→List α) (fun _=>[]) (fun _ ih l=>@List.rec α (fun _=>List α) [] (fun a t _=>a::ih t) l) n
theorem xh{α:Type}:∀(n:Nat)(l:List α),takeN n l=l.take n
 |0,l=>rfl
 |n+1,[]=>rfl
 |n+1,a::l=>by show a::takeN n l=_;rw[xh n l];rfl
noncomputable def lf{α:Type}(l:List α):Nat:=@List.rec α (fun _=>Nat) 0 (fun _ _ ih=>Nat.succ ih) l
theorem gn{α:Type}:∀l:List α,lf l=l.length
 |[]=>rfl
 |_::l=>by show Nat.succ (lf l)=_;rw[gn l];rfl
theorem jq(l:List Nat):(eu l).size=l.length:=by show(eu l).data.size=_;simp[eu]
theorem oR(l:List Nat)(a b:Nat):(eu l).extract a b=eu ((l.drop a).take (b -a)):=by
 apply ByteArray.ext
 rw[ByteArray.data_extract]
 apply Array.ext'
 simp[eu,List.extract,List.map_drop,List.map_take]
noncomputable def kM(P:Program)(t:TypeId)(x:V)(lo hi:Option V):Option V:=
 bO (P.underlying t) fun d=>match d with
  | .array n e=>bO (P.info? e) fun i=>x.ptr fun b o=>bO (mW hi n n) fun h=>bO (mW lo h 0) fun l=>bf (cJ (Nat.beq n l)) (fN (Nat.add o (Nat.mul l i.size)) fun o'=>fN (Nat.sub h l) fun n'=>fN (Nat.sub n l) fun c'=>some (.sl b o' n' c'))
  | .slice e=>bO (P.info? e) fun i=>x.uT
   (fun b o n c=>bf (Nat.ble n c) (bO (mW hi c n) fun h=>bO (mW lo h 0) fun l=>bf (cJ (Nat.beq c l)) (fN (Nat.add o (Nat.mul l i.size)) fun o'=>fN (Nat.sub h l) fun n'=>fN (Nat.sub c l) fun c'=>some (.sl b o' n' c'))))
   (fun b o n z=>bf (Nat.beq z i.size) (bO (mW hi n n) fun h=>bO (mW lo h 0) fun l=>@Bool.rec (fun _=>Option V) (bf (Nat.beq l n) (some .se)) (fN (Nat.add o (Nat.mul l i.size)) fun o'=>fN (Nat.sub h l) fun n'=>some (.su b o' n' z)) (Nat.ble (Nat.succ l) n)))
   (bO (mW hi 0 0) fun h=>bO (mW lo h 0) fun _=>some .ns)
  | .string=>x.str fun s=>bO (mW hi (lf s) (lf s)) fun h=>bO (mW lo h 0) fun l=>some (.s (takeN (Nat.sub h l) (Dx l s)))
  |_=>none
theorem Ab{x:Option V}{y d n:Nat}(h:mW x y d=some n){vx:Option Value}(r:RO E x vx){z:Nat}(hy:y≤z):mW x z d=some n:=by
 cases x with
 |none=>exact h
 |
  some x=>
  have h:v8 x y=some n:=h
  obtain⟨k,m,rfl,h⟩:=aT h
  obtain⟨m',rfl,h⟩:=gF h
  obtain⟨h0,hq⟩:=ah h
  cases hq
  have h0:=Nat.le_of_ble_eq_true h0
  show(bf (Nat.ble n z) (some n))=some n
  rw[Nat.ble_eq_true_of_le (Nat.le_trans h0 hy)];rfl
theorem lR{t:TypeId}{x r:V}{lo hi:Option V}{vx:Value}{vlo vhi:Option Value}(hx:RV E x vx)(r1:RO E lo vlo)(r2:RO E hi vhi)(h:kM P t x lo hi=some r):∃v,(Instr.sliceAt t vx vlo vhi none).run P w= .ok v w∧RV E r v:=by
 obtain⟨d,hd,h⟩:=aa h
 cases d with
 |
  array n e=>
  obtain⟨i,hi',h⟩:=aa h
  obtain⟨b,o,hxe,h⟩:=eA h
  obtain⟨h1,e1,h⟩:=aa h
  obtain⟨l1,e2,h⟩:=aa h
  obtain⟨h0,h⟩:=ah h
  rw[cj,cj,cj] at h
  cases h
  subst hxe
  simp only[RV] at hx
  obtain⟨g,hg,rfl⟩:=hx
  obtain⟨q1,q2,q3⟩:=fc (P:=P) (w:=w) (isS:=false) r1 r2 e1 e2
  have R7:¬n=l1:=fun e=>by subst e;simp[dQ] at h0
  refine⟨.slice (some ⟨g,o+l1*i.size,none⟩) (h1 -l1) (n -l1),?_,by simp only[RV];exact⟨g,hg,rfl⟩⟩
  simp[Instr.sliceAt,ar hd,Instr.sureAddr,q1,aU hi',R7,dZ]
 |
  slice e=>
  obtain⟨i,hi',h⟩:=aa h
  have key:∀v,(Instr.slice t vx vlo vhi none).run P w= .ok v w→(Instr.sliceAt t vx vlo vhi none).run P w= .ok v w:=by
   intro v hv
   simp only[Instr.sliceAt,Sem.run_bind,ar hd,Result.andThen_ok]
   exact hv
  rcases cu h with⟨b,o,n,c,hxe,h⟩|⟨b,o,n,z,hxe,h⟩|⟨hxe,h⟩
  ·obtain⟨hnc,h⟩:=ah h
   obtain⟨h1,e1,h⟩:=aa h
   obtain⟨l1,e2,h⟩:=aa h
   obtain⟨h0,h⟩:=ah h
   rw[cj,cj,cj] at h
   cases h
   subst hxe
   simp only[RV] at hx
   obtain⟨g,hg,rfl⟩:=hx
   obtain⟨q1,q2,q3⟩:=fc (P:=P) (w:=w) (isS:=true) r1 r2 e1 e2
   have R7:¬c=l1:=fun e=>by subst e;simp[dQ] at h0
   refine⟨.slice (some ⟨g,o+l1*i.size,none⟩) (h1 -l1) (c -l1),key _ ?_,by simp only[RV];exact⟨g,hg,rfl⟩⟩
   simp[Instr.slice,ar hd,q1,aU hi',R7,dZ]
  ·obtain⟨hz,h⟩:=ah h
   obtain⟨h1,e1,h⟩:=aa h
   obtain⟨l1,e2,hq⟩:=aa h
   subst hxe
   have hz:=bg hz
   simp only[RV] at hx
   obtain⟨g,c,hg,rfl,hc1,hc2⟩:=hx
   cases h0:Nat.ble (Nat.succ l1) n with
   |
    false=>
    rw[h0] at hq
    obtain⟨hln,hse⟩:=ah (show bf (Nat.beq l1 n) (some V.se)=some r from hq)
    cases hse
    have hln:=bg hln
    subst hln
    obtain⟨q1,q2,q3⟩:=fc (P:=P) (w:=w) (isS:=true) (cap:=c) r1 r2 (Ab e1 r2 hc1) e2
    have hh:h1≤l1:=by
     obtain⟨_,_,q⟩:=fc (P:=P) (w:=w) (isS:=true) (len:=l1) (cap:=l1) r1 r2 e1 e2
     exact q (Nat.le_refl _)
    have hh1:h1=l1:=by omega
    subst hh1
    refine⟨.slice (some (if c=h1 then⟨g,o,none⟩ else⟨g,o+h1*i.size,none⟩)) 0 (c -h1),key _ ?_,by simp only[RV];exact⟨_,_,rfl⟩⟩
    by_cases hc:c=h1
    ·subst hc
     simp[Instr.slice,ar hd,q1,aU hi']
    ·simp[Instr.slice,ar hd,q1,aU hi',hc,dZ]
   |true=>
   rw[h0] at hq
   have hq:(fN (Nat.add o (Nat.mul l1 i.size)) fun o'=>fN (Nat.sub h1 l1) fun n'=>some (V.su b o' n' z))=some r:=hq
   rw[cj,cj] at hq
   cases hq
   have h0:=Nat.le_of_ble_eq_true h0
   have hh:h1≤n:=by
    obtain⟨_,_,q⟩:=fc (P:=P) (w:=w) (isS:=true) (len:=n) (cap:=n) r1 r2 e1 e2
    exact q (Nat.le_refl _)
   obtain⟨q1,q2,q3⟩:=fc (P:=P) (w:=w) (isS:=true) (cap:=c) r1 r2 (Ab e1 r2 hc1) e2
   have R7:¬c=l1:=by omega
   refine⟨.slice (some ⟨g,o+l1*i.size,none⟩) (h1 -l1) (c -l1),key _ ?_,?_⟩
   ·simp[Instr.slice,ar hd,q1,aU hi',R7,dZ]
   ·simp only[RV]
    refine⟨g,c -l1,hg,rfl,?_,?_⟩
    ·show h1 -l1≤c -l1;omega
    ·rw[←hc2,hz]
     show o+l1*i.size+(c -l1)*i.size=_
     rw[Nat.add_assoc,←Nat.add_mul]
     congr 2;omega
  ·obtain⟨h1,e1,h⟩:=aa h
   obtain⟨l1,e2,h⟩:=aa h
   cases h
   subst hxe
   simp only[RV] at hx
   subst hx
   obtain⟨q1,q2,q3⟩:=fc (P:=P) (w:=w) (isS:=true) (len:=0) (cap:=0) r1 r2 e1 e2
   have z1:h1=0:=Nat.le_zero.1 (q3 (Nat.le_refl _))
   have z2:l1=0:=by omega
   subst z1;subst z2
   refine⟨.slice none 0 0,key _ ?_,by simp only[RV]⟩
   simp[Instr.slice,ar hd,q1,aU hi']
 |
  string=>
  obtain⟨s,hxe,h⟩:=dg h
  obtain⟨h1,e1,h⟩:=aa h
  obtain⟨l1,e2,h⟩:=aa h
  cases h
  subst hxe
  simp only[RV] at hx
  obtain⟨hs,rfl⟩:=hx
  rw[gn] at e1
  obtain⟨q1,q2,q3⟩:=fc (P:=P) (w:=w) (isS:=false) r1 r2 e1 e2
  refine⟨.string ((eu s).extract l1 h1),?_,?_⟩
  ·rw[←jq] at q1
   simp[Instr.sliceAt,Instr.slice,ar hd,q1]
  ·simp only[RV]
   rw[xh,xg,oR]
   exact⟨fun x hx=>hs x (List.mem_of_mem_drop (List.mem_of_mem_take hx)),rfl⟩
 |_=>cases h
noncomputable def Dy(es:Es):Nat:=@Es.rec (fun _=>Nat) 0 (fun _ _ _ _ ih=>Nat.succ ih) es
theorem tA.len:∀{es:Es}{l:List MapEntry},tA E es l→Dy es=l.length
 | .nil,l,h=>by have h:l= []:=h;subst h;rfl
 | .cons k v n es,l,⟨e,r,h1,_,_,_,h5⟩=>by subst h1;show Nat.succ (Dy es)=_;rw[tA.len h5];rfl
noncomputable def aj.uZ{α:Type}(k:aj)(f:Es→Nat→Option α):Option α:=
 @aj.casesOn (fun _=>Option α) k (fun _ _=>none) (fun _ _=>none) f (fun _ _ _ _=>none) (fun _ _=>none) (fun _ _ _ _ _ _ _ _ _=>none) none
theorem fW{α:Type}{k:aj}{f:Es→Nat→Option α}{y:α}(h:k.uZ f=some y):∃es c,k= .m es c∧f es c=some y:=by
 cases k<;>first|exact⟨_,_,rfl,h⟩|cases h
noncomputable def tD(P:Program)(hb:Id→Option aj)(t:TypeId)(x:V):Option V:=
 bO (P.underlying t) fun d=>match d with
  | .slice _=>@Bool.rec (fun _=>Option V) (x.uT (fun _ _ n _=>some (.i .i64 (.ofNat n))) (fun _ _ n _=>some (.i .i64 (.ofNat n))) (some (.i .i64 (.ofNat 0)))) (some (.i .i64 (.ofNat 0))) x.rp
  | .string=>x.str fun s=>fN (lf s) fun n=>some (.i .i64 (.ofNat n))
  | .map _ _=>x.mp (fun b=>bO (hb b) fun k=>k.uZ fun es _=>fN (Dy es) fun n=>some (.i .i64 (.ofNat n))) (some (.i .i64 (.ofNat 0)))
  |_=>none
theorem ru{hp:T aj}{hb:Id→Option aj}(hH:RH E hp w)(hB:∀b k,hb b=some k→get b hp=some k){t ty:TypeId}{x r:V}{vx:Value}(hx:RV E x vx)(h:tD P hb t x=some r):∃v,(Builtin.len_ #[t] ty #[vx]).run P w= .ok v w∧RV E r v:=by
 obtain⟨d,hd,h⟩:=aa h
 cases d with
 |
  slice e=>
  cases hse:x.rp with
  |
   true=>
   rw[hse] at h
   cases(show some (V.i .i64 (.ofNat 0))=some r from h)
   have:=kS hse;subst this
   simp only[RV] at hx
   obtain⟨a,c,rfl⟩:=hx
   exact⟨goInt (0:Nat),by simp[Builtin.len_,ar hd],by simp only[RV];rfl⟩
  |false=>
  rw[hse] at h
  rcases cu h with⟨b,o,n,c,hxe,h⟩|⟨b,o,n,z,hxe,h⟩|⟨hxe,h⟩
  ·cases h;subst hxe
   simp only[RV] at hx
   obtain⟨g,hg,rfl⟩:=hx
   exact⟨goInt n,by simp[Builtin.len_,ar hd],by simp only[RV];rfl⟩
  ·cases h;subst hxe
   simp only[RV] at hx
   obtain⟨g,c,hg,rfl,_⟩:=hx
   exact⟨goInt n,by simp[Builtin.len_,ar hd],by simp only[RV];rfl⟩
  ·cases h;subst hxe
   simp only[RV] at hx
   subst hx
   exact⟨goInt (0:Nat),by simp[Builtin.len_,ar hd],by simp only[RV];rfl⟩
 |
  string=>
  obtain⟨s,hxe,h⟩:=dg h
  rw[cj,gn] at h
  cases h
  subst hxe
  simp only[RV] at hx
  obtain⟨hs,rfl⟩:=hx
  exact⟨goInt (eu s).size,by simp[Builtin.len_,ar hd],by simp only[RV];rw[jq];rfl⟩
 |
  map a b=>
  rcases jT h with⟨b',hxe,h⟩|⟨hxe,h⟩
  ·obtain⟨k,hk,h⟩:=aa h
   obtain⟨es,ck,hke,h⟩:=fW h
   rw[cj] at h
   cases h
   subst hxe;subst hke
   simp only[RV] at hx
   obtain⟨g,hg,rfl⟩:=hx
   obtain⟨g',o,h1,h2,l,rfl,h3⟩:=hH.bh b' _ (hB b' _ hk)
   rw[hg] at h1;cases h1
   refine⟨goInt l.size,by simp[Builtin.len_,ar hd,getObj,Sem.run,h2],?_⟩
   simp only[RV];rw[h3.len];simp;rfl
  ·cases h;subst hxe
   simp only[RV] at hx
   subst hx
   exact⟨goInt (0:Nat),by simp[Builtin.len_,ar hd],by simp only[RV];rfl⟩
 |_=>cases h
end
end Go.Cm
namespace Go.Cm
section
variable{P:Program} {E:Env} {w:World}
def FM:TypeDesc→Bool
 | .slice _| .string=>true
 |_=>false
theorem kG{t t2 ty e:TypeId}{i:TypeInfo}{z:Value}{d2:TypeDesc}(ht:P.underlying t=some (.slice e))(h2:P.underlying t2=some d2)(hd2:FM d2=true)(hi:P.info? e=some i)(hz:i.zero=some z)
 (base:Option Addr) (SV sCap n:Nat) (x:Value) (old new:Array Value) (hlen:(Builtin.lenOf x).run P w= .ok n w) (SG:(Builtin.firstCells i.size n x).run P w.drew= .ok new w.drew) (hold:(Builtin.firstCells i.size SV (.slice base SV sCap)).run P w.drew= .ok old w.drew)
 (hg:sCap<SV+n) (h63:((SV+n:Nat):Int)≤9223372036854775807) (hfit:Builtin.nextslicecap (SV+n) sCap*i.bytes≤281474976710656):
 (Builtin.append_ #[t,t2] ty #[.slice base SV sCap,x]).run P w= .ok (.slice (some ⟨w.heap.size,0,none⟩) (SV+n) (grownCap w (SV+n) sCap e)) (w.drew.alloc (.cells (old++new++Builtin.zeroCells z.cells (grownCap w (SV+n) sCap e -(SV+n))) e)):=by
 have hn:¬(SV+n≤sCap):=by omega
 have h63':¬(9223372036854775807<((SV:Int)+(n:Int))):=by omega
 have h48':¬(281474976710656<Builtin.nextslicecap (SV+n) sCap*i.bytes):=by omega
 cases d2 with
 |slice e2=>simp[Builtin.append_,ar ht,ar h2,aU hi,jn hi,rr hi hz,hlen,hn,h63',h48',Question.forced,SG,hold,newRow,grownCap]
 |string=>simp[Builtin.append_,ar ht,ar h2,aU hi,jn hi,rr hi hz,hlen,hn,h63',h48',Question.forced,SG,hold,newRow,grownCap]
 |_=>cases hd2
theorem mX{t t2 ty e:TypeId}{i:TypeInfo}{d2:TypeDesc}(ht:P.underlying t=some (.slice e))(h2:P.underlying t2=some d2)(hd2:FM d2=true)(hi:P.info? e=some i)
 (a:Addr) (SV sCap n:Nat) (x:Value) (new:Array Value) {w':World} (hlen:(Builtin.lenOf x).run P w= .ok n w) (SG:(Builtin.firstCells i.size n x).run P w= .ok new w) (hst:(storeCells (a.add (SV*i.size)) new.toList).run P w= .ok () w') (hg:SV+n≤sCap):
 (Builtin.append_ #[t,t2] ty #[.slice (some a) SV sCap,x]).run P w= .ok (.slice (some a) (SV+n) sCap) w':=by
 cases d2 with
 |slice e2=>simp[Builtin.append_,ar ht,ar h2,aU hi,hlen,hg,SG,hst]
 |string=>simp[Builtin.append_,ar ht,ar h2,aU hi,hlen,hg,SG,hst]
 |_=>cases hd2
theorem jW{t t2 ty e:TypeId}{i:TypeInfo}{d2:TypeDesc}(ht:P.underlying t=some (.slice e))(h2:P.underlying t2=some d2)(hd2:FM d2=true)(hi:P.info? e=some i)
 (base:Option Addr) (SV sCap:Nat) (x:Value) (hlen:(Builtin.lenOf x).run P w= .ok 0 w) (SG:(Builtin.firstCells i.size 0 x).run P w= .ok #[] w) (hg:SV≤sCap):
 (Builtin.append_ #[t,t2] ty #[.slice base SV sCap,x]).run P w= .ok (.slice base SV sCap) w:=by
 cases base<;>cases d2<;>first
  |(cases hd2;done)
  |(simp[Builtin.append_,ar ht,ar h2,aU hi,hlen,hg,SG,storeCells];done)
noncomputable def lg(s:List Nat):V:=@List.rec Nat (fun _=>V) .nil (fun n _ ih=>.cons (.i .u8 (.ofNat n)) ih) s
theorem pI:∀{s:List Nat},(∀x∈s,x<256)→aH E (lg s) (s.map fun b=>Value.int .u8 ((UInt8.ofNat b).toNat:Int))∧(lg s).bK=true
 |[],_=>⟨by simp[lg,aH],rfl⟩
 |
  b::s,h=>by
  obtain⟨h1,h2⟩:=pI (s:=s) (fun x hx=>h x (List.mem_cons_of_mem _ hx))
  have hb:=h b (List.mem_cons_self ..)
  refine⟨aH.aw.2 ⟨_,_,rfl,?_,h1⟩,by show(V.one _&&(lg s).bK)=true;rw[h2];rfl⟩
  simp only[RV]
  congr 1
  simp;omega
noncomputable def N0{α:Type}(hb:Id→Option aj)(size:Nat)(x:V)(f:Nat→V→Option α):Option α:=
 @V.casesOn (fun _=>Option α) x (fun _=>none) (fun _ _=>none) (fun s=>bf (Nat.beq size 1) (fN (lf s) fun n=>f n (lg s))) (fun _ _=>none) none
  (fun b o n _=>bO (hb b) fun k=>k.cells fun l=>bO (bY o (Nat.mul n size) l) fun c=>f n c) (fun b o n _=>bO (hb b) fun k=>k.cells fun l=>bO (bY o (Nat.mul n size) l) fun c=>f n c) (f 0 .nil) (f 0 .nil)
  (fun _=>none) none (fun _ _ _=>none) (fun _=>none) none (fun _ _=>none) none (fun _=>none) (fun _=>none) none none (fun _ _=>none)
theorem FN{α:Type}{hp:T aj}{hb:Id→Option aj}(hH:RH E hp w)(hB:∀b k,hb b=some k→get b hp=some k){size:Nat}{x:V}{f:Nat→V→Option α}{y:α}{vx:Value}(hx:RV E x vx)(h:N0 hb size x f=some y):
 ∃n c new,f n c=some y∧(Builtin.lenOf vx).run P w= .ok n w∧(∀w':World,w'.heap=w.heap→(Builtin.firstCells size n vx).run P w'= .ok new w')∧aH E c new.toList∧c.bK=true∧new.size=n*size:=by
 have row:∀(b:Id)(o n cap g:Nat),E.g b=some g→(bO (hb b) fun k=>k.cells fun l=>bO (bY o (Nat.mul n size) l) fun c=>f n c)=some y→
  ∃n' c new,f n' c=some y∧(Builtin.lenOf (.slice (some ⟨g,o,none⟩) n cap)).run P w= .ok n' w∧(∀w':World,w'.heap=w.heap→(Builtin.firstCells size n' (.slice (some ⟨g,o,none⟩) n cap)).run P w'= .ok new w')∧aH E c new.toList∧c.bK=true∧new.size=n'*size:=by
  intro b o n cap g hg h
  obtain⟨k,hk,h⟩:=aa h
  obtain⟨l,e,hke,h⟩:=bG h
  obtain⟨c,hc,h⟩:=aa h
  obtain⟨g',ob,h1,h2,h3⟩:=hH.bh b k (hB b k hk)
  rw[hg] at h1;cases h1
  obtain⟨cs,fz,xs,ys,rfl,q1,q2,q3,q4,q5,_⟩:=RB.cells hke h3
  obtain⟨n1,n2,n3⟩:=gX q2 hc
  have n1:o+n*size≤xs.length:=n1
  have Sd:o+n*size≤cs.size:=by
   have:=congrArg List.length q1
   simp at this;omega
  have he:(cs.toList.drop o).take (n*size)=(xs.drop o).take (n*size):=by
   rw[q1,List.drop_append_of_le_length (by omega),List.take_append_of_le_length (by simp;omega)]
  refine⟨n,c,((cs.toList.drop o).take (n*size)).toArray,h,by simp[Builtin.lenOf],fun w' hw'=>?_,by rw[he];exact n2,n3 q3,by simp;omega⟩
  exact fV (P:=P) (w:=w') (by rw[hw'];exact h2) Sd
 cases x<;>first|(cases h;done)|skip
 ·rename_i s
  obtain⟨h0,hq⟩:=ah (show bf (Nat.beq size 1) (fN (lf s) fun n=>f n (lg s))=some y from h)
  rw[cj,gn] at hq
  have h0:=bg h0
  subst h0
  simp only[RV] at hx
  obtain⟨hs,rfl⟩:=hx
  obtain⟨c1,c2⟩:=pI (E:=E) hs
  refine⟨s.length,lg s,((eu s).data.map fun b=>Value.int .u8 (b.toNat:Int)),hq,by simp[Builtin.lenOf,jq],fun w' _=>?_,?_,c2,by simp[eu]⟩
  ·have hx:((eu s).extract 0 s.length)=eu s:=by
    rw[oR];simp
   simp only[Builtin.firstCells,hx];rfl
  ·have:((eu s).data.map fun b=>Value.int .u8 (b.toNat:Int)).toList=s.map fun b=>Value.int .u8 ((UInt8.ofNat b).toNat:Int):=by
    simp[eu,Function.comp_def]
   rw[this];exact c1
 ·rename_i b o n cap
  simp only[RV] at hx
  obtain⟨g,hg,rfl⟩:=hx
  exact row b o n cap g hg h
 ·rename_i b o n z
  simp only[RV] at hx
  obtain⟨g,cap,hg,rfl,_⟩:=hx
  exact row b o n cap g hg h
 ·simp only[RV] at hx
  subst hx
  exact⟨0,.nil, #[],h,by simp[Builtin.lenOf],fun w' _=>by simp[Builtin.firstCells],by simp[aH],rfl,by simp⟩
 ·simp only[RV] at hx
  obtain⟨a,c,rfl⟩:=hx
  exact⟨0,.nil, #[],h,by simp[Builtin.lenOf],fun w' _=>by simp[Builtin.firstCells,loadCells,loadCellsFrom],by simp[aH],rfl,by simp⟩
theorem RH.swap{L:Nat}{hp:T aj}{nx:Id}(h:RH E hp w)(hf:bI L nx E)(hL:num nx<L){b:Id}{k0 k:aj}(hb:get b hp=some k0){g n:Nat}{o:Obj}(w':World)(hs:w.heap.size≤w'.heap.size)(hold:∀i,i<w.heap.size→E.g b≠some i→w'.heap[i]? =w.heap[i]?)(ho:w'.os=w.os)(ht:Tp w w')(hu:w'.output=w.output)
 (hg:E.g b=some g∨w.heap.size≤g) (hgo:w'.heap[g]? =some o) (E':Env) (hE:E'=⟨fun c=>if c=nx then some g else E.g c,fun c=>if c=nx then n else E.n c⟩) (hk:RB E' nx k o):
 RH E' (put (some k) nx (put none b hp)) w'∧bI L (jR nx) E'∧Ex hp nx E w (put (some k) nx (put none b hp)) (jR nx) E' w'∧E.le E'∧E'.g nx=some g:=by
 have hle:E.le E':=by
  intro c i hc
  have R7:c≠nx:=fun e=>by subst e;rw[hf c (Nat.le_refl _) hL] at hc;cases hc
  subst hE
  exact⟨by simp only[if_neg R7];exact hc,by simp only[if_neg R7]⟩
 have SG:E'.g nx=some g:=by subst hE;simp
 have holdE:∀c,c≠nx→E'.g c=E.g c∧E'.n c=E.n c:=fun c hc=>by subst hE;simp[hc]
 have Sg:∀c k i,get c hp=some k→E.g c=some i→i<w.heap.size:=by
  intro c k i hc hi
  obtain⟨g',o',h1,h2,_⟩:=h.bh c k hc
  rw[hi] at h1;cases h1
  exact(Array.getElem?_eq_some_iff.1 h2).1
 have old:∀c k',c≠nx→get c (put (some k) nx (put none b hp))=some k'→get c hp=some k'∧c≠b:=by
  intro c k' R7 hc
  rw[fU _ R7,bJ] at hc
  split at hc
  ·cases hc
  ·rename_i e;exact⟨hc,e⟩
 have hno:∀c k' i,get c hp=some k'→c≠b→E.g c=some i→i≠g:=by
  intro c k' i hc hcb hi e
  subst e
  rcases hg with h1|h1
  ·exact hcb (h.sep c b k' k0 i hc hb hi h1)
  ·have:=Sg c k' i hc hi;omega
 refine⟨⟨?_,?_⟩,?_,⟨ho,ht,hu,hs,?_,?_,by rw[bk];omega,?_⟩,hle,SG⟩
 ·intro c k' hc
  by_cases e:c=nx
  ·subst e
   rw[bA] at hc;cases hc
   exact⟨g,o,SG,hgo,hk⟩
  ·obtain⟨q1,q2⟩:=old c k' e hc
   obtain⟨i,o',h1,h2,h3⟩:=h.bh c k' q1
   refine⟨i,o',(hle c i h1).1,?_,h3.mono hle (holdE c e).2⟩
   rw[hold i (Sg c k' i q1 h1) (fun e'=>q2 (h.sep c b k' k0 i q1 hb h1 e'))];exact h2
 ·intro c c' k1 k2 i hc hc' g1 g2
  by_cases e:c=nx
  ·by_cases e':c'=nx
   ·rw[e,e']
   ·obtain⟨q1,q2⟩:=old c' k2 e' hc'
    subst e;rw[SG] at g1;cases g1
    rw[(holdE c' e').1] at g2
    exact absurd rfl (hno c' k2 g q1 q2 g2)
  ·obtain⟨q1,q2⟩:=old c k1 e hc
   rw[(holdE c e).1] at g1
   by_cases e':c'=nx
   ·subst e';rw[SG] at g2;cases g2
    exact absurd rfl (hno c k1 g q1 q2 g1)
   ·obtain⟨q1',q2'⟩:=old c' k2 e' hc'
    rw[(holdE c' e').1] at g2
    exact h.sep c c' k1 k2 i q1 q1' g1 g2
 ·intro c h1 h2
  rw[bk] at h1
  have R7:c≠nx:=fun e=>by subst e;omega
  rw[(holdE c R7).1]
  exact hf c (by omega) h2
 ·intro i hi hn
  exact hold i hi (fun e=>hn ⟨b,k0,hb,e⟩)
 ·rintro i ⟨c,k',hc,hi⟩
  by_cases e:c=nx
  ·subst e;rw[SG] at hi;cases hi
   exact hg.imp (fun h1=>⟨b,k0,hb,h1⟩) id
  ·obtain⟨q1,q2⟩:=old c k' e hc
   rw[(holdE c e).1] at hi
   exact Or.inl ⟨c,k',q1,hi⟩
 ·intro c hc
  rw[bk] at hc
  have R7:c≠nx:=fun e=>by subst e;omega
  exact holdE c R7
end
end Go.Cm
namespace Go.Cm
section
variable{P:Program} {E:Env} {w:World}
theorem yC(w:World)(o:Obj){j:Nat}(h:j<w.heap.size):(w.alloc o).heap[j]? =w.heap[j]? :=by
 show(w.heap.push o)[j]? =_
 rw[Array.getElem?_push,if_neg (by omega)]
noncomputable def aj.uO{α:Type}(k:aj)(f:V→TypeId→Option α):Option α:=
 @aj.casesOn (fun _=>Option α) k (fun _ _=>none) f (fun _ _=>none) (fun _ _ _ _=>none) (fun _ _=>none) (fun _ _ _ _ _ _ _ _ _=>none) none
theorem FO{α:Type}{k:aj}{f:V→TypeId→Option α}{y:α}(h:k.uO f=some y):∃l e,k= .u l e∧f l e=some y:=by
 cases k<;>first|exact⟨_,_,rfl,h⟩|cases h
noncomputable def Ac(hb:Id→Option aj)(nx:Id)(e:TypeId)(size n:Nat)(c s:V):Option bw:=
 s.uT
  (fun b o l cap=>bO (hb b) fun k=>k.cells fun ol=>
   @Bool.rec (fun _=>Option bw)
    (bf (Nat.ble (Nat.add l n) 1000000) (bO (bY o (Nat.mul l size) ol) fun oc=>fN (Nat.add l n) fun m=>fC (iv oc c) fun r=>some (.nw (.su nx 0 m size) (.u r e))))
    (fN (Nat.add l n) fun m=>bO (w9 (Nat.add o (Nat.mul l size)) c ol) fun l'=>some (.ch (.sl b o m cap) b (k.br l')))
    (Nat.ble (Nat.add l n) cap))
  (fun b o l z=>bf (Nat.beq o 0) (bf (Nat.beq z size) (bf (Nat.ble (Nat.add l n) 1000000) (bO (hb b) fun k=>k.uO fun ol e'=>bf (Nat.beq e' e) (bf (Nat.beq (mR ol) (Nat.mul l size)) (fN (Nat.add l n) fun m=>fC (iv ol c) fun r=>some (.mv (.su nx 0 m size) b (.u r e))))))))
  (bf (Nat.ble n 1000000) (some (.nw (.su nx 0 n size) (.u c e))))
noncomputable def i9(P:Program)(hb:Id→Option aj)(nx:Id)(t t2:TypeId)(s x:V):Option bw:=
 bO (P.underlying t) fun d=>match d with
  | .slice e=>bO (P.underlying t2) fun d2=>bf (FM d2) (bO (P.info? e) fun i=>bf (Nat.ble i.bytes 1000000) (bO (zeroV P e) fun z=>z.Dn fun zc=>bf (Nat.beq (mR zc) i.size) (N0 hb i.size x fun n c=>
   @Bool.rec (fun _=>Option bw) (Ac hb nx e i.size n c s) (s.uT (fun _ _ l cap=>bf (Nat.ble l cap) (some (.v s))) (fun _ _ _ _=>some (.v s)) (some (.v s))) (Nat.beq n 0))))
  |_=>none
theorem xi{L:Nat}{hp:T aj}{nx:Id}(hH:RH E hp w)(hF:bI L nx E)(hL:num (jR nx)≤L){e:TypeId}{size need cap:Nat}{oc c:V}{old new zs:Array Value}(h1:aH E oc old.toList)(o1:oc.bK=true)(h2:aH E c new.toList)(o2:c.bK=true)(hz:old.size+new.size+zs.size=cap*size)(hc:need≤cap):
 ∃E',RV E' (.su nx 0 need size) (.slice (some ⟨w.heap.size,0,none⟩) need cap)∧RH E' (put (some (.u (iv oc c) e)) nx hp) (w.drew.alloc (.cells (old++new++zs) e))∧bI L (jR nx) E'∧Ex hp nx E w (put (some (.u (iv oc c) e)) nx hp) (jR nx) E' (w.drew.alloc (.cells (old++new++zs) e)):=by
 rw[bk] at hL
 obtain⟨E',hE'⟩:∃E':Env,E'=⟨fun b=>if b=nx then some w.heap.size else E.g b,fun b=>if b=nx then(old++new++zs).size else E.n b⟩:=⟨_,rfl⟩
 have hle:E.le E':=by
  intro b g hb
  have R7:b≠nx:=fun e'=>by subst e';rw[hF b (Nat.le_refl _) (by omega)] at hb;cases hb
  subst hE'
  exact⟨by simp only[if_neg R7];exact hb,by simp only[if_neg R7]⟩
 have hn:E'.n nx=(old++new++zs).size:=by subst hE';simp
 obtain⟨a1,a2,a3,a4,a5⟩:=hH.fresh hF (by omega) (k:=.u (iv oc c) e) (o:=.cells (old++new++zs) e) (n:=(old++new++zs).size) (w.drew.alloc (.cells (old++new++zs) e)) rfl rfl (Tp.s rfl rfl) rfl E' hE'
  ⟨old++new++zs,(0,0),old.toList++new.toList,zs.toList,rfl,by simp,(h1.app h2).mono hle,mS o1 o2,Or.inl rfl,hn⟩
 refine⟨_,?_,a1,a2,a3⟩
 simp only[RV]
 refine⟨_,cap,a5,rfl,hc,?_⟩
 rw[hn,Array.size_append,Array.size_append]
 omega
theorem kn{L:Nat}{hp:T aj}{nx:Id}{hb:Id→Option aj}(hH:RH E hp w)(hF:bI L nx E)(hB:∀b k,hb b=some k→get b hp=some k){t t2 ty:TypeId}{s x:V}{vs vx:Value}(hs:RV E s vs)(hx:RV E x vx){ef:bw}(h:i9 P hb nx t t2 s x=some ef):
 pD P L hp nx E w ef (Builtin.append_ #[t,t2] ty #[vs,vx]):=by
 obtain⟨d,hd,h⟩:=aa h
 cases d with
 |
  slice e=>
  obtain⟨d2,hd2,h⟩:=aa h
  obtain⟨hsrc,h⟩:=ah h
  obtain⟨i,hi,h⟩:=aa h
  obtain⟨hby,h⟩:=ah h
  obtain⟨z,hz,h⟩:=aa h
  have hz':=hz
  obtain⟨i',hi',hz'⟩:=aa hz'
  rw[hi] at hi';cases hi'
  obtain⟨zv,hzv,hz'⟩:=aa hz'
  have hzr:RV E z zv:=Ds hz'
  obtain⟨zc,h,cg,zc2⟩:=hJ h hzr
  obtain⟨hzl,h⟩:=ah h
  have hzs:zv.cells.size=i.size:=by rw[←bg hzl,cg.len];simp
  obtain⟨n,c,new,h,s1,s2,s3,s4,s5⟩:=FN (P:=P) hH hB hx h
  have hby:=Nat.le_of_ble_eq_true hby
  cases hn:Nat.beq n 0 with
  |
   true=>
   rw[hn] at h
   have hn:=bg hn
   subst hn
   have s2':=s2 w rfl
   have e0:new= #[]:=by rw[←Array.size_eq_zero_iff];omega
   subst e0
   intro _
   rcases cu (show s.uT (fun _ _ l cap=>bf (Nat.ble l cap) (some (.v s))) (fun _ _ _ _=>some (.v s)) (some (.v s))=some ef from h) with⟨b,o,l,cap,he,h⟩|⟨b,o,l,zz,he,h⟩|⟨he,h⟩
   ·obtain⟨h0,h⟩:=ah h
    cases h
    subst he
    have hs0:=hs
    simp only[RV] at hs
    obtain⟨g,hg,rfl⟩:=hs
    exact⟨_,w,E,jW hd hd2 hsrc hi _ _ _ _ s1 s2' (Nat.le_of_ble_eq_true h0),hs0,hH,hF,Ex.refl _ _ _ _⟩
   ·cases h
    subst he
    have hs0:=hs
    simp only[RV] at hs
    obtain⟨g,cap,hg,rfl,h0,_⟩:=hs
    exact⟨_,w,E,jW hd hd2 hsrc hi _ _ _ _ s1 s2' h0,hs0,hH,hF,Ex.refl _ _ _ _⟩
   ·cases h
    subst he
    have hs0:=hs
    simp only[RV] at hs
    subst hs
    exact⟨_,w,E,jW hd hd2 hsrc hi _ _ _ _ s1 s2' (Nat.le_refl _),hs0,hH,hF,Ex.refl _ _ _ _⟩
  |
   false=>
   rw[hn] at h
   have hn0:0<n:=by
    rcases Nat.eq_zero_or_pos n with h0|h0
    ·subst h0;simp at hn
    ·exact h0
   have zsz:∀m,(Builtin.zeroCells zv.cells m).size=m*i.size:=by intro m;rw[size_zeroCells,hzs]
   have fit:∀m old,old<m→m≤1000000→((m:Nat):Int)≤9223372036854775807∧Builtin.nextslicecap m old*i.bytes≤281474976710656:=by
    intro m old h1 h2
    refine⟨by omega,growslice_fits h1 ?_⟩
    have:m*i.bytes≤1000000*1000000:=Nat.mul_le_mul h2 hby
    omega
   rcases cu (show Ac hb nx e i.size n c s=some ef from h) with⟨b,o,l,cap,he,hq⟩|⟨b,o,l,zz,he,hq⟩|⟨he,hq⟩
   ·obtain⟨k,hk,hq⟩:=aa hq
    obtain⟨ol,e',hke,hq⟩:=bG hq
    subst he
    simp only[RV] at hs
    obtain⟨g,hg,rfl⟩:=hs
    obtain⟨g',ob,h1,h2,h3⟩:=hH.bh b k (hB b k hk)
    rw[hg] at h1;cases h1
    obtain⟨cs,fz,xs,ys,rfl,q1,q2,q3,q4,q5,q6⟩:=RB.cells hke h3
    have hxs:xs.length+ys.length=cs.size:=by have:=congrArg List.length q1;simp at this;omega
    cases SC:Nat.ble (Nat.add l n) cap with
    |
     false=>
     rw[SC] at hq
     obtain⟨hm,hq⟩:=ah (show bf (Nat.ble (Nat.add l n) 1000000) (bO (bY o (Nat.mul l i.size) ol) fun oc=>fN (Nat.add l n) fun m=>fC (iv oc c) fun r=>some (.nw (.su nx 0 m i.size) (.u r e)))=some ef from hq)
     obtain⟨oc,hoc,hq⟩:=aa hq
     rw[cj,kF] at hq
     cases hq
     have hm:l+n≤1000000:=Nat.le_of_ble_eq_true hm
     have SC:cap<l+n:=by
      rw[uW] at SC
      have:¬(l+n≤cap):=by simpa using SC
      omega
     obtain⟨n1,n2,n3⟩:=gX q2 hoc
     have n1:o+l*i.size≤xs.length:=n1
     have he:(cs.toList.drop o).take (l*i.size)=(xs.drop o).take (l*i.size):=by
      rw[q1,List.drop_append_of_le_length (by omega),List.take_append_of_le_length (by simp;omega)]
     intro hL
     have hfit:=fit (l+n) cap SC hm
     have Ss:=kG (P:=P) (w:=w) (ty:=ty) hd hd2 hsrc hi hzv (some ⟨g,o,none⟩) l cap n vx ((cs.toList.drop o).take (l*i.size)).toArray new s1 (s2 w.drew rfl) (fV (P:=P) (w:=w.drew) h2 (by omega)) SC hfit.1 hfit.2
     have hge:=grownCap_ge w (l+n) cap e
     obtain⟨E',r1,r2,r3,r4⟩:=xi (e:=e) (size:=i.size) (need:=l+n) (cap:=grownCap w (l+n) cap e) (zs:=Builtin.zeroCells zv.cells (grownCap w (l+n) cap e -(l+n))) hH hF hL (old:=((cs.toList.drop o).take (l*i.size)).toArray) (by rw[he];exact n2) (n3 q3) s3 s4
      (by rw[zsz,s5];simp only[List.size_toArray,List.length_take,List.length_drop,Array.length_toList];rw[Nat.min_eq_left (by omega),←Nat.add_mul,←Nat.add_mul];congr 1;omega) hge
     exact⟨_,_,E',Ss,r1,r2,r3,r4⟩
    |
     true=>
     rw[SC] at hq
     have hq:(fN (Nat.add l n) fun m=>bO (w9 (Nat.add o (Nat.mul l i.size)) c ol) fun l'=>some (bw.ch (.sl b o m cap) b (k.br l')))=some ef:=hq
     rw[cj] at hq
     obtain⟨l',hl',hq⟩:=aa hq
     cases hq
     have SC:l+n≤cap:=Nat.le_of_ble_eq_true SC
     obtain⟨n1,n2,n3⟩:=mT s3 q2 hl'
     have n1:o+l*i.size+new.toList.length≤xs.length:=n1
     obtain⟨SE,r1,r2⟩:=gZ (P:=P) (o:=o+l*i.size) (i:=0) h2 (vs:=new.toList) (by omega) q4 (s3.mU s4)
     have hlen:SE.size=cs.size:=by
      have:=congrArg List.length r2
      simp only[List.length_append,List.length_take,List.length_drop,Array.length_toList] at this n1
      omega
     have hcs:SE.toList=(xs.take (o+l*i.size)++new.toList++xs.drop (o+l*i.size+new.toList.length))++ys:=by
      rw[r2,q1]
      simp only[Nat.add_zero]
      rw[List.take_append_of_le_length (by omega),List.drop_append_of_le_length (by omega)]
      simp
     have hrb:RB E b (k.br l') (.cells SE e' fz):=by
      rcases hke with rfl|rfl
      ·have:=q6 rfl;subst this
       rw[List.append_nil] at hcs
       exact⟨SE,fz,rfl,by rw[hcs];exact n2,n3 s4 q3,by rw[hlen];exact q4,by rw[q5,hlen]⟩
      ·exact⟨SE,fz,_,ys,rfl,hcs,n2,n3 s4 q3,by rw[hlen];exact q4,by rw[q5,hlen]⟩
     obtain⟨t1,t2'⟩:=hH.change (nx:=nx) (k:=k.br l') (hB b k hk) hg (w.br g (.cells SE e' fz)) rfl rfl (Tp.r rfl rfl) rfl hrb
     intro _
     have Ss:=mX (P:=P) (w:=w) (ty:=ty) hd hd2 hsrc hi ⟨g,o,none⟩ l cap n vx new s1 (s2 w rfl) (by rw[dZ];exact r1) SC
     refine⟨_,_,E,Ss,?_,t1,hF,t2'⟩
     show RV E (.sl b o (l+n) cap) _
     simp only[RV]
     exact⟨g,hg,rfl⟩
   ·obtain⟨ho,hq⟩:=ah hq
    obtain⟨hzz,hq⟩:=ah hq
    obtain⟨hm,hq⟩:=ah hq
    obtain⟨k,hk,hq⟩:=aa hq
    obtain⟨ol,e',hke,hq⟩:=FO hq
    obtain⟨hee,hq⟩:=ah hq
    obtain⟨hol,hq⟩:=ah hq
    rw[cj,kF] at hq
    cases hq
    have ho:=bg ho
    have hzz:=bg hzz
    have hee:=bg hee
    have hm:l+n≤1000000:=Nat.le_of_ble_eq_true hm
    subst he;subst hke;subst ho;subst hzz;subst hee
    simp only[RV] at hs
    obtain⟨g,cap,hg,rfl,hcap,hcn⟩:=hs
    obtain⟨g',ob,h1,h2,cs,fz,xs,ys,rfl,q1,q2,q3,q4,q5⟩:=hH.bh b _ (hB b _ hk)
    rw[hg] at h1;cases h1
    have hol:xs.length=l*i.size:=by rw[←q2.len];exact bg hol
    have hxs:xs.length+ys.length=cs.size:=by have:=congrArg List.length q1;simp at this;omega
    have hcs:cs.size=cap*i.size:=by omega
    intro hL
    have hL':num nx<L:=by have:num (jR nx)≤L:=hL;rw[bk] at this;omega
    by_cases SC:l+n≤cap
    ·have hfits:l*i.size+n*i.size≤cap*i.size:=by rw[←Nat.add_mul];exact Nat.mul_le_mul_right _ SC
     have hnl:new.toList.length=n*i.size:=by rw[Array.length_toList];exact s5
     obtain⟨SE,r1,r2⟩:=gZ (P:=P) (o:=l*i.size) (i:=0) h2 (vs:=new.toList) (by omega) q4 (s3.mU s4)
     have hlen:SE.size=cs.size:=by
      have:=congrArg List.length r2
      simp only[List.length_append,List.length_take,List.length_drop,Array.length_toList] at this
      rw[Array.length_toList] at hnl
      omega
     have hcs':SE.toList=(xs++new.toList)++cs.toList.drop (l*i.size+new.toList.length):=by
      rw[r2]
      simp only[Nat.add_zero]
      congr 2
      rw[q1,List.take_append_of_le_length (by omega),List.take_of_length_le (by omega)]
     have Ss:=mX (P:=P) (w:=w) (ty:=ty) hd hd2 hsrc hi ⟨g,0,none⟩ l cap n vx new s1 (s2 w rfl) (by rw[dZ,Nat.zero_add];exact r1) SC
     have Sg:g<w.heap.size:=(Array.getElem?_eq_some_iff.1 h2).1
     obtain⟨E',hE'⟩:∃E':Env,E'=⟨fun b=>if b=nx then some g else E.g b,fun b=>if b=nx then SE.size else E.n b⟩:=⟨_,rfl⟩
     have hEn:E'.n nx=SE.size:=by subst hE';simp
     have hle:E.le E':=by
      intro b' g' Sb
      have R7:b'≠nx:=fun e''=>by subst e'';rw[hF b' (Nat.le_refl _) hL'] at Sb;cases Sb
      subst hE'
      exact⟨by simp only[if_neg R7];exact Sb,by simp only[if_neg R7]⟩
     obtain⟨t1,t2',t3,t4,t5⟩:=hH.swap hF hL' (k:=.u (iv ol c) e') (hB b _ hk) (g:=g) (n:=SE.size) (o:=.cells SE e' fz) (w.br g (.cells SE e' fz)) (by simp[World.br])
      (fun j _ R7=>by simp only[World.br];rw[Array.getElem?_setIfInBounds,if_neg (fun ee=>R7 (by rw[←ee];exact hg))]) rfl (Tp.r rfl rfl) rfl (Or.inl hg) (by simp[World.br,Sg]) E' hE'
      ⟨SE,fz,_,_,rfl,hcs',(q2.app s3).mono hle,mS q3 s4,by rw[hlen];exact q4,hEn⟩
     refine⟨_,_,_,Ss,?_,t1,t2',t3⟩
     show RV _ (.su nx 0 (l+n) i.size) _
     simp only[RV]
     refine⟨g,cap,t5,rfl,SC,?_⟩
     rw[hEn]
     omega
    ·have hroom':cap<l+n:=by omega
     have hfit:=fit (l+n) cap hroom' hm
     have hold:(Builtin.firstCells i.size l (.slice (some ⟨g,0,none⟩) l cap)).run P w.drew= .ok xs.toArray w.drew:=by
      have:=fV (P:=P) (w:=w.drew) (g:=g) (o:=0) (n:=l*i.size) h2 (by omega)
      rw[List.drop_zero,q1,List.take_append_of_le_length (by omega),List.take_of_length_le (by omega)] at this
      exact this
     have Ss:=kG (P:=P) (w:=w) (ty:=ty) hd hd2 hsrc hi hzv (some ⟨g,0,none⟩) l cap n vx xs.toArray new s1 (s2 w.drew rfl) hold hroom' hfit.1 hfit.2
     have hge:=grownCap_ge w (l+n) cap e'
     have hnl:new.size=n*i.size:=s5
     have Sd:(xs.toArray++new++Builtin.zeroCells zv.cells (grownCap w (l+n) cap e' -(l+n))).size=grownCap w (l+n) cap e'*i.size:=by
      rw[Array.size_append,Array.size_append,zsz,hnl]
      simp only[List.size_toArray,hol]
      rw[←Nat.add_mul,←Nat.add_mul];congr 1;omega
     obtain⟨E',hE'⟩:∃E':Env,E'=⟨fun b=>if b=nx then some w.heap.size else E.g b,fun b=>if b=nx then(xs.toArray++new++Builtin.zeroCells zv.cells (grownCap w (l+n) cap e' -(l+n))).size else E.n b⟩:=⟨_,rfl⟩
     have hEn:E'.n nx=(xs.toArray++new++Builtin.zeroCells zv.cells (grownCap w (l+n) cap e' -(l+n))).size:=by subst hE';simp
     have hle:E.le E':=by
      intro b' g' Sb
      have R7:b'≠nx:=fun e''=>by subst e'';rw[hF b' (Nat.le_refl _) hL'] at Sb;cases Sb
      subst hE'
      exact⟨by simp only[if_neg R7];exact Sb,by simp only[if_neg R7]⟩
     obtain⟨t1,t2',t3,t4,t5⟩:=hH.swap hF hL' (k:=.u (iv ol c) e') (hB b _ hk) (g:=w.heap.size) (n:=(xs.toArray++new++Builtin.zeroCells zv.cells (grownCap w (l+n) cap e' -(l+n))).size) (o:=.cells (xs.toArray++new++Builtin.zeroCells zv.cells (grownCap w (l+n) cap e' -(l+n))) e') (w.drew.alloc (.cells (xs.toArray++new++Builtin.zeroCells zv.cells (grownCap w (l+n) cap e' -(l+n))) e')) (by simp)
      (fun j hj _=>yC w.drew _ hj) rfl (Tp.s rfl rfl) rfl (Or.inr (Nat.le_refl _)) (heap_alloc_new w.drew _) E' hE'
      ⟨_,(0,0),xs++new.toList,(Builtin.zeroCells zv.cells (grownCap w (l+n) cap e' -(l+n))).toList,rfl,by simp,(q2.app s3).mono hle,mS q3 s4,Or.inl rfl,hEn⟩
     refine⟨_,_,_,Ss,?_,t1,t2',t3⟩
     show RV _ (.su nx 0 (l+n) i.size) _
     simp only[RV]
     refine⟨w.heap.size,_,t5,rfl,hge,?_⟩
     rw[hEn,Sd];omega
   ·obtain⟨hm,hq⟩:=ah hq
    cases hq
    subst he
    simp only[RV] at hs
    subst hs
    have hm:n≤1000000:=Nat.le_of_ble_eq_true hm
    intro hL
    have hfit:=fit n 0 hn0 hm
    have Ss:=kG (P:=P) (w:=w) (ty:=ty) hd hd2 hsrc hi hzv none 0 0 n vx #[] new s1 (s2 w.drew rfl) (by simp[Builtin.firstCells]) (by omega) (by simpa using hfit.1) (by simpa using hfit.2)
    rw[Nat.zero_add] at Ss
    have hge:=grownCap_ge w n 0 e
    obtain⟨E',r1,r2,r3,r4⟩:=xi (e:=e) (size:=i.size) (need:=n) (cap:=grownCap w n 0 e) (zs:=Builtin.zeroCells zv.cells (grownCap w n 0 e -n)) hH hF hL (oc:=.nil) (old:= #[]) (by simp[aH]) rfl s3 s4
     (by rw[zsz,s5];simp only[List.size_toArray,List.length_nil,Nat.zero_add];rw[←Nat.add_mul];congr 1;omega) hge
    exact⟨_,_,E',Ss,r1,r2,r3,r4⟩
 |_=>cases h
end
end Go.Cm
