/- The machines: what it means to be walked or run, part 3. No condition. -/
import Derived.Test.YtjabllhapfphoaaGreatDoorA2
import Derived.Laws.Cover3
import Derived.RangeFuncRecord
import Derived.RecoverIn
import Derived.Deep.DeepHandedRow
import Derived.OpenShut
import Derived.ChangeArms
import Derived.Lib.LaidTab
import Derived.KernelRfl
namespace Go.Abs
def Wk(gl:Ctx)(σ σ':St):Prop:=
 ∀E a w,cu gl σ E a w→∃E',cu gl σ' E' a w∧Ext (Own σ.hp E) E w (Own σ'.hp E') E' w
theorem Wk.refl(gl:Ctx)(σ:St):Wk gl σ σ:=fun E _ _ h=>⟨E,h,Ext.refl _ _ _⟩
theorem Wk.trans{gl:Ctx}{σ σ1 σ2:St}(h:Wk gl σ σ1)(k:Wk gl σ1 σ2):Wk gl σ σ2:=fun E a w hg=>by
 obtain⟨E1,g1,x1⟩:=h E a w hg
 obtain⟨E2,g2,x2⟩:=k E1 a w g1
 exact⟨E2,g2,x1.trans x2⟩
def eg(ts:List Nat):Nat→List AV→List AV
 |_,[]=>[]
 |i,x::l=>(if cg i ts then x else .bot)::eg ts (i+1) l
def qY(bs:List Nat):Nat→List (Option ak)→List (Option ak)
 |_,[]=>[]
 |i,x::l=>(if cg i bs then x else none)::qY bs (i+1) l
theorem sT{ts:List Nat}:∀{l:List AV}{i j:Nat}{x:AV},(eg ts i l)[j]? =some x→x= .bot∨l[j]? =some x
 |[],i,j,x,h=>by simp[eg] at h
 |
  y::l,i,0,x,h=>by
  simp only[eg,List.getElem?_cons_zero,Option.some.injEq] at h
  split at h
  ·exact Or.inr (by simp[h])
  ·exact Or.inl h.symm
 |
  y::l,i,j+1,x,h=>by
  simp only[eg,List.getElem?_cons_succ] at h
  simpa using sT h
theorem sU{ts:List Nat}:∀{l:List AV}{i:Nat},(eg ts i l).length=l.length
 |[],_=>rfl
 |_::l,i=>by simp[eg,sU (l:=l)]
theorem oj{bs:List Nat}{k:ak}:∀{l:List (Option ak)}{i j:Nat},(qY bs i l)[j]? =some (some k)→l[j]? =some (some k)
 |[],i,j,h=>by simp[qY] at h
 |
  y::l,i,0,h=>by
  simp only[qY,List.getElem?_cons_zero,Option.some.injEq] at h
  split at h
  ·simp[h]
  ·cases h
 |
  y::l,i,j+1,h=>by
  simp only[qY,List.getElem?_cons_succ] at h
  simpa using oj h
theorem HW.less{gl:Ctx}{E:Env}{w:World}{hp hp':List (Option ak)}(h:HW gl E w hp)(hs:∀(b:Nat)(k:ak),hp'[b]? =some (some k)→hp[b]? =some (some k)):HW gl E w hp' where
 bL:=fun b k hb=>h.bL b k (hs b k hb)
 sep:=fun b b' k k' g h1 h2=>h.sep b b' k k' g (hs _ _ h1) (hs _ _ h2)
 dm:=fun b k g h1=>h.dm b k g (hs _ _ h1)
 slt:=h.slt
 gl:=h.gl
theorem Wk.an(gl:Ctx)(σ:St)(ts bs:List Nat):Wk gl σ ⟨eg ts 0 σ.tm,qY bs 0 σ.hp,σ.df⟩:=by
 intro E a w h
 refine⟨E,⟨by rw[sU];exact h.len,?_,h.hw.less (fun b k hb=>oj hb),h.df⟩,{Ext.refl (Own σ.hp E) E w with own:=?_ }⟩
 ·intro i x hx v hv
  rcases sT hx with e|e
  ·subst e;trivial
  ·exact h.tm i x e v hv
 ·rintro g ⟨b,k,hb,hg⟩
  exact Or.inl ⟨b,k,oj hb,hg⟩
theorem Wk.Ev{gl:Ctx}{σ:St}{s:Nat}{t:Ty}{x:AV}{y:t.den}(hx:σ.tm[s]? =some x)(hy:x.bg t=some y):Wk gl σ {σ with tm:=σ.tm.set s (.val t y)}:=by
 intro E a w h
 refine⟨E,⟨by simp[h.len],?_,h.hw,h.df⟩,Ext.refl _ _ _⟩
 intro i z hz v hv
 rw[List.getElem?_set] at hz
 split at hz
 ·rename_i e;subst e
  split at hz
  ·cases hz
   have hr:=h.tm s x hx v hv
   have hp:x.plain=true:=by cases x<;>first|rfl|(cases t<;>simp[AV.bg] at hy)
   exact RV.fa (dv.bg hy (RV.lW hp hr))
  ·cases hz
 ·exact h.tm i z hz v hv
theorem Wk.Ew{gl:Ctx}{σ:St}{b:Nat}{t:Ty}{v:AV}{y:t.den}(hb:σ.hp[b]? =some (some (.var t v)))(hy:v.bg t=some y):Wk gl σ {σ with hp:=σ.hp.set b (some (.var t (.val t y)))}:=by
 intro E a w h
 have hk:=h.hw.bL b _ hb
 obtain⟨h1,h2,g,c,e,h3,h4,h5⟩:=hk
 have hw:=h.hw.write (w':=w) (k':=.var t (.val t y)) hb rfl (fun _ _=>rfl) ⟨h1,Ty.cS t,g,c,e,h3,h4,RC.bg hy h5⟩
 refine⟨E,⟨h.len,h.tm,hw,h.df⟩,{Ext.refl (Own σ.hp E) E w with own:=?_ }⟩
 intro g' hg'
 exact Or.inl (Own.set hb hg')
def wK(φ:AV→Option AV):List AV→List AV
 |[]=>[]
 |x::l=>(if x.plain then(match φ x with|some y=>y|none=>.bot) else .bot)::wK φ l
def Ey(φ:AV→Option AV):List AV→Option (List AV)
 |[]=>some []
 |
  x::l=>match φ x,Ey φ l with
  |some y,some m=>some (y::m)
  |_,_=>none
def om(φ:AV→Option AV):Option ak→Option (Option ak)
 |
  some (.var t v)=>match φ v with
  |some u=>if u.bI t then some (some (.var t u)) else none
  |none=>none
 |
  some (.tv g t v)=>match φ v with
  |some u=>if u.bI t then some (some (.tv g t u)) else none
  |none=>none
 |k=>some k
def Ez(φ:AV→Option AV):List (Option ak)→Option (List (Option ak))
 |[]=>some []
 |
  k::l=>match om φ k,Ez φ l with
  |some k',some m=>some (k'::m)
  |_,_=>none
theorem qZ{φ:AV→Option AV}:∀{l:List AV},(wK φ l).length=l.length
 |[]=>rfl
 |_::l=>by simp[wK,qZ (l:=l)]
theorem re{φ:AV→Option AV}:∀{l:List AV}{i:Nat}{y:AV},(wK φ l)[i]? =some y→y= .bot∨∃x,l[i]? =some x∧x.plain=true∧φ x=some y
 |[],i,y,h=>by simp[wK] at h
 |
  x::l,0,y,h=>by
  simp only[wK,List.getElem?_cons_zero,Option.some.injEq] at h
  split at h
  ·rename_i hp
   split at h
   ·rename_i z hz;exact Or.inr ⟨x,rfl,hp,by rw[hz,h]⟩
   ·exact Or.inl h.symm
  ·exact Or.inl h.symm
 |
  x::l,i+1,y,h=>by
  simp only[wK,List.getElem?_cons_succ] at h
  simpa using re h
theorem rh{φ:AV→Option AV}:∀{l m:List (Option ak)},Ez φ l=some m→∀{i:Nat}{k:ak},m[i]? =some (some k)→∃k0,l[i]? =some (some k0)∧om φ (some k0)=some (some k)
 |[],m,h,i,k,hk=>by cases h;simp at hk
 |
  x::l,m,h,i,k,hk=>by
  simp only[Ez] at h
  split at h
  ·rename_i k' m' h1 h2
   cases h
   cases i with
   |
    zero=>
    simp at hk
    subst hk
    cases x with
    |none=>simp[om] at h1
    |some x=>exact⟨x,rfl,h1⟩
   |succ i=>obtain⟨k0,e1,e2⟩:=rh h2 (i:=i) (by simpa using hk);exact⟨k0,by simpa using e1,e2⟩
  ·cases h
def St.zj(φ:AV→Option AV)(σ:St):Option St:=
 match Ez φ σ.hp,Ey φ σ.df with
 |some hp,some df=>some ⟨wK φ σ.tm,hp,df⟩
 |_,_=>none
structure Good(E E':Env)(w:World)(φ:AV→Option AV):Prop where
 rc:∀x y vs,φ x=some y→RC E w x vs→RC E' w y vs
 agg:∀x y,φ x=some y→y.isAgg=x.isAgg
 fn:∀fn fs cs y,φ (.func fn fs cs)=some y→∃fs' cs',y= .func fn fs' cs'∧φ fs=some fs'∧φ cs=some cs'∧fs'.atoms=true∧cs'.atoms=true
 mp:∀b y,φ (.mp b)=some y→∃b',y= .mp b'∧E'.g b'=E.g b
theorem Good.RV{E E':Env}{w:World}{φ:AV→Option AV}(g:Good E E' w φ){x y:AV}{v:Value}(h:φ x=some y)(hr:dv E w x v):dv E' w y v:=by
 rcases hr with⟨h1,cs,e,h2⟩|⟨h1,h2⟩
 ·exact Or.inl ⟨by rw[g.agg x y h];exact h1,cs,e,g.rc x y _ h h2⟩
 ·exact Or.inr ⟨by rw[g.agg x y h];exact h1,g.rc x y _ h h2⟩
theorem Good.RD{E E':Env}{w:World}{φ:AV→Option AV}(g:Good E E' w φ):∀{l m:List AV}{ds:List Deferred},Ey φ l=some m→Abs.RD E w l ds→Abs.RD E' w m ds
 |
  [],m,ds,h,hr=>by
  cases h
  cases ds with
  |nil=>trivial
  |cons _ _=>exact hr.elim
 |
  x::l,m,ds,h,hr=>by
  simp only[Ey] at h
  split at h
  ·rename_i y m' h1 h2
   cases h
   cases ds with
   |nil=>cases x<;>exact hr.elim
   |
    cons d ds=>
    cases x with
    |
     func fn fs cs=>
     obtain⟨fs',cs',e,k1,k2,k3,k4⟩:=g.fn fn fs cs y h1
     subst e
     obtain⟨⟨f,c,e,r1,r2,r3,r4⟩,r5⟩:=hr
     exact⟨⟨f,c,e,g.rc _ _ _ k1 r1,g.rc _ _ _ k2 r2,k3,k4⟩,g.RD h2 r5⟩
    |
     mp b=>
     obtain⟨b',e,k1⟩:=g.mp b y h1
     subst e
     obtain⟨⟨i,e1,e2⟩,r5⟩:=hr
     exact⟨⟨i,by rw[k1];exact e1,e2⟩,g.RD h2 r5⟩
    |_=>exact hr.elim
  ·cases h
theorem Good.RB{E E':Env}{w:World}{φ:AV→Option AV}(g:Good E E' w φ)(hS:∀b,E.S b→E'.S b){b b':Nat}{k k':ak}(hg:E'.g b'=E.g b)(hsv:E'.sv b'=E.sv b)(hbt:E'.bt b'=E.bt b)(hk:om φ (some k)=some (some k'))(h:Abs.RB E w b k):Abs.RB E' w b' k':=by
 have kp:bp E w E' w:=⟨fun _ _=>rfl,hS⟩
 cases k with
 |
  var t v=>
  simp only[om] at hk
  split at hk
  ·rename_i u hu
   split at hk
   ·rename_i hc
    cases hk
    obtain⟨h1,h2,i,c,e,h3,h4,h5⟩:=h
    exact⟨by rw[hbt];exact h1,hc,i,c,e,by rw[hg];exact h3,h4,g.rc v u _ hu h5⟩
   ·cases hk
  ·cases hk
 |
  row e bs t xs=>
  simp only[om,Option.some.injEq] at hk;subst hk
  obtain⟨h1,h2,h3,h4,a,cap,h5,h6,h7⟩:=h
  refine⟨by rw[hbt];exact h1,h2,h3,h4,a,cap,by rw[hsv];exact h5,h6,?_⟩
  rcases h7 with⟨h7,h8,h9⟩|⟨i,c,h7,h8,h9,h10,h11,h12⟩
  ·exact Or.inl ⟨h7,by rw[hg];exact h8,h9⟩
  ·exact Or.inr ⟨i,c,by rw[hg];exact h7,h8,h9,h10,h11,aH.mono (fun _ _=>Rel.mono kp.w kp.S) h12⟩
 |
  map kt vt es=>
  simp only[om,Option.some.injEq] at hk;subst hk
  obtain⟨h1,h1',i,en,clock,h2,h3,h4,h5,h6⟩:=h
  exact⟨h1,h1',i,en,clock,by rw[hg];exact h2,h3,RM.mono kp h4,h5,h6⟩
 |lp l r=>simp only[om,Option.some.injEq] at hk;subst hk;exact⟨by rw[hg];exact h.1,h.2⟩
 |oR=>simp only[om,Option.some.injEq] at hk;subst hk;obtain⟨i,h1,h2⟩:=h;exact⟨i,by rw[hg];exact h1,h2⟩
 |
  tv gg t v=>
  simp only[om] at hk
  split at hk
  ·rename_i u hu
   split at hk
   ·rename_i hc
    cases hk
    obtain⟨h0,h1,h2,c,e,h4,h5⟩:=h
    exact⟨by rw[hg];exact h0,by rw[hbt];exact h1,hc,c,e,h4,g.rc v u _ hu h5⟩
   ·cases hk
  ·cases hk
def fz(hb:Nat→Option ak)(b:Nat)(t:Ty):AV→Option AV
 | .own c=>if Nat.beq c b then(view hb (.own c) false t).map (·.1) else some (.own c)
 | .mo c lo len=>if Nat.beq c b then(view hb (.mo c lo len) false t).map (·.1) else some (.mo c lo len)
 | .ig c p lo len=>if Nat.beq c b then(view hb (.ig c p lo len) false t).map (·.1) else some (.ig c p lo len)
 | .ptr c p=>if Nat.beq c b then(view hb (.ptr c p) false t).map (·.1) else some (.ptr c p)
 | .mp c=>if Nat.beq c b then none else some (.mp c)
 |
  .func fn fs cs=>match fz hb b t fs,fz hb b t cs with
  |some f,some c=>if f.atoms&&c.atoms then some (.func fn f c) else none
  |_,_=>none
 |
  .iface u v=>match fz hb b t v with
  |some x=>some (.iface u x)
  |none=>none
 |
  .cons x y=>match fz hb b t x,fz hb b t y with
  |some u,some v=>some (.cons u v)
  |_,_=>none
 | .bot=>none
 | .c8 _=>none
 | .opt _ _=>none
 |x=>some x
theorem jO{hb:Nat→Option ak}{x y:AV}{t:Ty}{l:List Nat}{b:Nat}(hx:x= .own b∨(∃lo len,x= .mo b lo len)∨(∃p lo len,x= .ig b p lo len)∨(∃p,x= .ptr b p))(h:view hb x false t=some (y,l)):l= [b]:=by
 rcases hx with rfl|⟨lo,len,rfl⟩|⟨p,lo,len,rfl⟩|⟨p,rfl⟩
 ·have h':(match dE hb b with|some ⟨bs,t,xs⟩=>some (AV.val (.slice bs t) xs,[b])|none=>none)=some (y,l):=by cases t<;>exact h
  split at h'<;>cases h';rfl
 ·have h':(match dE hb b with|some ⟨bs,t,xs⟩=>some (AV.val (.slice bs t) ((xs.drop lo).take len),[b])|none=>none)=some (y,l):=by cases t<;>exact h
  split at h'<;>cases h';rfl
 ·cases t with
  |
   slice bs t=>
   simp only[view] at h
   split at h
   ·split at h
    ·split at h
     ·cases h;rfl
     ·cases h
    ·cases h
   ·cases h
  |_=>simp[view] at h
 ·have h':(match hb b with
   |
    some k=>match kj k p,(gN k).sub p with
    |
     some u,some s=>match u.bg s with
     |some y=>some (AV.bw s y,[b])
     |none=>none
    |_,_=>none
   |none=>none)=some (y,l):=by cases t<;>exact h
  split at h'
  ·split at h'
   ·split at h'
    ·cases h';rfl
    ·cases h'
   ·cases h'
  ·cases h'
theorem EA{gl:Ctx}{E:Env}{w:World}{hp:List (Option ak)}(hw:HW gl E w hp){hb:Nat→Option ak}(hB:HB hb hp)(b:Nat)(t:Ty):Good E (E.bY [b]) w (fz hb b t) where
 mp:=by
  intro c y h
  simp only[fz] at h
  split at h
  ·cases h
  ·cases h;exact⟨c,rfl,rfl⟩
 rc:=
  by
  have kp:bp E w (E.bY [b]) w:=Env.dF [b]
  intro x
  induction x with
  |
   own c=>
   intro y vs h hr
   simp only[fz] at h
   split at h
   ·rename_i e;have e:=Nat.eq_of_beq_eq_true e;subst e
    simp only[Option.map_eq_some_iff] at h
    obtain⟨⟨z,l⟩,h1,rfl⟩:=h
    have:=jO (Or.inl rfl) h1;subst this
    exact kW hw hB h1 hr
   ·cases h;exact RC.mono kp (fun _ _=>⟨rfl,rfl,rfl⟩) hr
  |
   mo c lo len=>
   intro y vs h hr
   simp only[fz] at h
   split at h
   ·rename_i e;have e:=Nat.eq_of_beq_eq_true e;subst e
    simp only[Option.map_eq_some_iff] at h
    obtain⟨⟨z,l⟩,h1,rfl⟩:=h
    have:=jO (Or.inr (Or.inl ⟨lo,len,rfl⟩)) h1;subst this
    exact kW hw hB h1 hr
   ·cases h;exact RC.mono kp (fun _ _=>⟨rfl,rfl,rfl⟩) hr
  |
   ig c p lo len=>
   intro y vs h hr
   simp only[fz] at h
   split at h
   ·rename_i e;have e:=Nat.eq_of_beq_eq_true e;subst e
    simp only[Option.map_eq_some_iff] at h
    obtain⟨⟨z,l⟩,h1,rfl⟩:=h
    have:=jO (Or.inr (Or.inr (Or.inl ⟨p,lo,len,rfl⟩))) h1;subst this
    exact kW hw hB h1 hr
   ·cases h;exact RC.mono kp (fun _ _=>⟨rfl,rfl,rfl⟩) hr
  |
   ptr c p=>
   intro y vs h hr
   simp only[fz] at h
   split at h
   ·rename_i e;have e:=Nat.eq_of_beq_eq_true e;subst e
    simp only[Option.map_eq_some_iff] at h
    obtain⟨⟨z,l⟩,h1,rfl⟩:=h
    have:=jO (Or.inr (Or.inr (Or.inr ⟨p,rfl⟩))) h1;subst this
    exact kW hw hB h1 hr
   ·cases h;exact RC.mono kp (fun _ _=>⟨rfl,rfl,rfl⟩) hr
  |
   mp c=>
   intro y vs h hr
   simp only[fz] at h
   split at h
   ·cases h
   ·cases h;exact RC.mono kp (fun _ _=>⟨rfl,rfl,rfl⟩) hr
  |
   func fn fs cs ih1 ih2=>
   intro y vs h hr
   simp only[fz] at h
   split at h
   ·rename_i f c h1 h2
    split at h
    ·rename_i ha
     cases h
     simp only[Bool.and_eq_true] at ha
     obtain⟨f',c',e,r1,r2,_,_⟩:=hr
     exact⟨f',c',e,ih1 f _ h1 r1,ih2 c _ h2 r2,ha.1,ha.2⟩
    ·cases h
   ·cases h
  |
   iface u v ih=>
   intro y vs h hr
   simp only[fz] at h
   split at h
   ·rename_i z hz
    cases h
    obtain⟨x,e,hr⟩:=hr
    refine⟨x,e,?_⟩
    have hagg:=fzAgg v z hz
    rcases hr with⟨h1,cs,e2,h3⟩|⟨h1,h3⟩
    ·exact Or.inl ⟨by rw[hagg];exact h1,cs,e2,ih z _ hz h3⟩
    ·exact Or.inr ⟨by rw[hagg];exact h1,ih z _ hz h3⟩
   ·cases h
  |
   cons a c ih1 ih2=>
   intro y vs h hr
   simp only[fz] at h
   split at h
   ·rename_i u v h1 h2
    cases h
    obtain⟨v1,v2,e,r1,r2⟩:=hr
    exact⟨v1,v2,e,ih1 u _ h1 r1,ih2 v _ h2 r2⟩
   ·cases h
  |bot=>intro y vs h;simp[fz] at h
  |c8 l=>intro y vs h;simp[fz] at h
  |opt c v=>intro y vs h;simp[fz] at h
  |_=>intro y vs h hr;simp only[fz,Option.some.injEq] at h;subst h;exact RC.mono kp (fun _ _=>⟨rfl,rfl,rfl⟩) hr
 agg:=fun x y h=>fzAgg x y h
 fn:=
  by
  intro fn fs cs y h
  simp only[fz] at h
  split at h
  ·rename_i f c h1 h2
   split at h
   ·rename_i ha
    cases h
    simp only[Bool.and_eq_true] at ha
    exact⟨f,c,rfl,h1,h2,ha.1,ha.2⟩
   ·cases h
  ·cases h
where
 fzAgg {hb:Nat→Option ak} {b:Nat} {t:Ty} (x y:AV) (h:fz hb b t x=some y):y.isAgg=x.isAgg:=by
  cases x with
  |
   own c=>
   simp only[fz] at h
   split at h
   ·simp only[Option.map_eq_some_iff] at h;obtain⟨⟨z,l⟩,h1,rfl⟩:=h;exact gS h1
   ·cases h;rfl
  |
   mo c lo len=>
   simp only[fz] at h
   split at h
   ·simp only[Option.map_eq_some_iff] at h;obtain⟨⟨z,l⟩,h1,rfl⟩:=h;exact gS h1
   ·cases h;rfl
  |
   ig c p lo len=>
   simp only[fz] at h
   split at h
   ·simp only[Option.map_eq_some_iff] at h;obtain⟨⟨z,l⟩,h1,rfl⟩:=h;exact gS h1
   ·cases h;rfl
  |
   ptr c p=>
   simp only[fz] at h
   split at h
   ·simp only[Option.map_eq_some_iff] at h;obtain⟨⟨z,l⟩,h1,rfl⟩:=h;exact gS h1
   ·cases h;rfl
  |
   mp c=>
   simp only[fz] at h
   split at h
   ·cases h
   ·cases h;rfl
  |
   func fn fs cs=>
   simp only[fz] at h
   split at h
   ·split at h
    ·cases h;rfl
    ·cases h
   ·cases h
  |
   iface u v=>
   simp only[fz] at h
   split at h
   ·cases h;rfl
   ·cases h
  |
   cons a c=>
   simp only[fz] at h
   split at h
   ·cases h;rfl
   ·cases h
  |bot=>simp[fz] at h
  |c8 l=>simp[fz] at h
  |opt c v=>simp[fz] at h
  |_=>simp only[fz,Option.some.injEq] at h;subst h;rfl
def rj(hp:List (Option ak))(b:Nat):Option ak:=(hp[b]?).join
theorem lf(hp:List (Option ak)):HB (rj hp) hp:=by
 intro b k hk
 unfold rj at hk
 cases hh:hp[b]? with
 |none=>simp[hh] at hk
 |some z=>simp[hh] at hk;rw[hk]
def freeze(b:Nat)(t:Ty)(σ:St):Option St:=
 match rj σ.hp b with
 |some _=>St.zj (fz (rj σ.hp) b t) {σ with hp:=σ.hp.set b none}
 |none=>none
theorem Wk.freeze{gl:Ctx}{b:Nat}{t:Ty}{σ σ':St}(h:Abs.freeze b t σ=some σ'):Wk gl σ σ':=by
 intro E a w hg
 unfold Abs.freeze at h
 split at h
 ·rename_i k hk
  have hbk:=lf σ.hp b k hk
  unfold St.zj at h
  split at h
  ·rename_i hp' df' h1 h2
   cases h
   have good:=EA hg.hw (lf σ.hp) b t
   have hSle:∀i,E.S i→(E.bY [b]).S i:=fun i hi=>Or.inl hi
   have src:∀(i:Nat)(k':ak),hp'[i]? =some (some k')→∃k0,i≠b∧σ.hp[i]? =some (some k0)∧om (fz (rj σ.hp) b t) (some k0)=some (some k'):=by
    intro i k' hi
    obtain⟨k0,e1,e2⟩:=rh h1 hi
    simp only[List.getElem?_set] at e1
    split at e1
    ·split at e1<;>cases e1
    ·rename_i hne;exact⟨k0,fun e=>hne e.symm,e1,e2⟩
   refine⟨E.bY [b],⟨?_,?_,⟨?_,?_,?_,?_,hg.hw.gu (Env.dF [b])⟩,good.RD h2 hg.df⟩,⟨rfl,Tp.r rfl rfl,rfl,Nat.le_refl _,fun _ _ _=>rfl,hSle,?_,?_,fun _ _=>⟨rfl,rfl,rfl⟩⟩⟩
   ·simp only[qZ];exact hg.len
   ·intro i y hy v hv
    rcases re hy with e|⟨x,e1,e2,e3⟩
    ·subst e;trivial
    ·exact RV.fa (good.RV e3 (RV.lW e2 (hg.tm i x e1 v hv)))
   ·intro i k' hi
    obtain⟨k0,_,e1,e2⟩:=src i k' hi
    exact good.RB hSle (b:=i) (b':=i) rfl rfl rfl e2 (hg.hw.bL i k0 e1)
   ·intro i j k1 k2 g' hi hj g1 g2
    obtain⟨k3,_,e1,_⟩:=src i k1 hi
    obtain⟨k4,_,e2,_⟩:=src j k2 hj
    exact hg.hw.sep i j k3 k4 g' e1 e2 g1 g2
   ·intro i k' g' hi hgi hs
    obtain⟨k0,hne,e1,_⟩:=src i k' hi
    rcases hs with hs|⟨c,hc,e⟩
    ·exact hg.hw.dm i k0 g' e1 hgi hs
    ·simp at hc;subst hc
     exact hne (hg.hw.sep i c k0 k g' e1 hbk hgi e)
   ·intro g' hs
    rcases hs with hs|⟨c,hc,e⟩
    ·exact hg.hw.slt g' hs
    ·simp at hc;subst hc
     exact Own.below hg.hw ⟨c,k,hbk,e⟩
   ·intro g' hs
    rcases hs with hs|⟨c,hc,e⟩
    ·exact Or.inl hs
    ·simp at hc;subst hc
     exact Or.inr (Or.inl ⟨c,k,hbk,e⟩)
   ·rintro g' ⟨i,k',hi,hgi⟩
    obtain⟨k0,_,e1,_⟩:=src i k' hi
    exact Or.inl ⟨i,k0,e1,hgi⟩
  ·cases h
 ·cases h
end Go.Abs
namespace Go.Abs
def EB(b b' c:Nat):Nat:=if Nat.beq c b then b' else c
def rn(b b':Nat):AV→Option AV
 | .own c=>some (.own (EB b b' c))
 | .mo c lo len=>some (.mo (EB b b' c) lo len)
 | .ig c p lo len=>some (.ig (EB b b' c) p lo len)
 | .ptr c p=>some (.ptr (EB b b' c) p)
 | .mp c=>some (.mp (EB b b' c))
 |
  .func fn fs cs=>match rn b b' fs,rn b b' cs with
  |some f,some c=>if f.atoms&&c.atoms then some (.func fn f c) else none
  |_,_=>none
 |
  .iface u v=>match rn b b' v with
  |some x=>some (.iface u x)
  |none=>none
 |
  .cons x y=>match rn b b' x,rn b b' y with
  |some u,some v=>some (.cons u v)
  |_,_=>none
 | .bot=>none
 | .c8 _=>none
 | .opt _ _=>none
 |x=>some x
def Env.mv(E:Env)(b b':Nat):Env:={E with g:=fun c=>if c=b' then E.g b else E.g c,sv:=fun c=>if c=b' then E.sv b else E.sv c,bt:=fun c=>if c=b' then E.bt b else E.bt c}
theorem sV{E:Env}{b b' c:Nat}(h:c≠b'):(E.mv b b').g (EB b b' c)=E.g c∧(E.mv b b').sv (EB b b' c)=E.sv c∧(E.mv b b').bt (EB b b' c)=E.bt c:=by
 unfold EB
 split
 ·rename_i e;have e:=Nat.eq_of_beq_eq_true e;subst e;simp[Env.mv]
 ·simp[Env.mv,h]
theorem Co(b b':Nat)(x y:AV)(h:rn b b' x=some y):y.isAgg=x.isAgg:=by
 cases x with
 |
  func fn fs cs=>
  simp only[rn] at h
  split at h
  ·split at h
   ·cases h;rfl
   ·cases h
  ·cases h
 |
  iface u v=>
  simp only[rn] at h
  split at h
  ·cases h;rfl
  ·cases h
 |
  cons a c=>
  simp only[rn] at h
  split at h
  ·cases h;rfl
  ·cases h
 |bot=>simp[rn] at h
 |c8 l=>simp[rn] at h
 |opt c v=>simp[rn] at h
 |_=>simp only[rn,Option.some.injEq] at h;subst h;rfl
theorem Iv{E:Env}{w:World}{b b':Nat}:∀{x y:AV}{vs:List Value},b'∉x.ids→rn b b' x=some y→RC E w x vs→RC (E.mv b b') w y vs:=by
 intro x
 induction x with
 |own c=>
  intro y vs hi h hr;simp only[rn,Option.some.injEq] at h;subst h
  obtain⟨_,e2,_⟩:=sV (E:=E) (b:=b) (b':=b') (c:=c) (fun e=>hi (by simp[AV.ids,e]))
  simp only[RC];rw[e2];exact hr
 |mo c lo len=>
  intro y vs hi h hr;simp only[rn,Option.some.injEq] at h;subst h
  obtain⟨_,e2,e3⟩:=sV (E:=E) (b:=b) (b':=b') (c:=c) (fun e=>hi (by simp[AV.ids,e]))
  simp only[RC];rw[e2,e3];exact hr
 |ig c p lo len=>
  intro y vs hi h hr;simp only[rn,Option.some.injEq] at h;subst h
  obtain⟨e1,_,e3⟩:=sV (E:=E) (b:=b) (b':=b') (c:=c) (fun e=>hi (by simp[AV.ids,e]))
  simp only[RC];rw[e1,e3];exact hr
 |ptr c p=>
  intro y vs hi h hr;simp only[rn,Option.some.injEq] at h;subst h
  obtain⟨e1,_,e3⟩:=sV (E:=E) (b:=b) (b':=b') (c:=c) (fun e=>hi (by simp[AV.ids,e]))
  simp only[RC];rw[e1,e3];exact hr
 |mp c=>
  intro y vs hi h hr;simp only[rn,Option.some.injEq] at h;subst h
  obtain⟨e1,_,_⟩:=sV (E:=E) (b:=b) (b':=b') (c:=c) (fun e=>hi (by simp[AV.ids,e]))
  simp only[RC];rw[e1];exact hr
 |
  func fn fs cs ih1 ih2=>
  intro y vs hi h hr
  simp only[rn] at h
  simp only[AV.ids,List.mem_append,not_or] at hi
  split at h
  ·rename_i f c h1 h2
   split at h
   ·rename_i ha
    cases h
    simp only[Bool.and_eq_true] at ha
    obtain⟨f',c',e,r1,r2,_,_⟩:=hr
    exact⟨f',c',e,ih1 hi.1 h1 r1,ih2 hi.2 h2 r2,ha.1,ha.2⟩
   ·cases h
  ·cases h
 |
  iface u v ih=>
  intro y vs hi h hr
  simp only[rn] at h
  split at h
  ·rename_i z hz
   cases h
   obtain⟨x,e,hr⟩:=hr
   refine⟨x,e,?_⟩
   have hagg:=Co b b' v z hz
   rcases hr with⟨h1,cs,e2,h3⟩|⟨h1,h3⟩
   ·exact Or.inl ⟨by rw[hagg];exact h1,cs,e2,ih hi hz h3⟩
   ·exact Or.inr ⟨by rw[hagg];exact h1,ih hi hz h3⟩
  ·cases h
 |
  cons a c ih1 ih2=>
  intro y vs hi h hr
  simp only[rn] at h
  simp only[AV.ids,List.mem_append,not_or] at hi
  split at h
  ·rename_i u v h1 h2
   cases h
   obtain⟨v1,v2,e,r1,r2⟩:=hr
   exact⟨v1,v2,e,ih1 hi.1 h1 r1,ih2 hi.2 h2 r2⟩
  ·cases h
 |bot=>intro y vs _ h;simp[rn] at h
 |c8 l=>intro y vs _ h;simp[rn] at h
 |opt c v=>intro y vs _ h;simp[rn] at h
 |_=>intro y vs _ h hr;simp only[rn,Option.some.injEq] at h;subst h;exact hr
theorem GF{E:Env}{w:World}{b b':Nat}:Good E (E.mv b b') w (fun x=>if cg b' x.ids then none else rn b b' x) where
 mp:=by
  intro c y h
  split at h
  ·cases h
  ·rename_i hn
   have hn:=dq (show cg b' (AV.mp c).ids=false by simpa using hn)
   simp only[rn,Option.some.injEq] at h
   subst h
   exact⟨_,rfl,(sV (fun e=>hn (by simp[AV.ids,e]))).1⟩
 rc:=by
  intro x y vs h hr
  split at h
  ·cases h
  ·rename_i hn;exact Iv (dq (by simpa using hn)) h hr
 agg:=by
  intro x y h
  split at h
  ·cases h
  ·exact Co b b' x y h
 fn:=
  by
  intro fn fs cs y h
  split at h
  ·cases h
  ·rename_i hn
   have hn:=dq (show cg b' (AV.func fn fs cs).ids=false by simpa using hn)
   simp only[AV.ids,List.mem_append,not_or] at hn
   simp only[rn] at h
   have f1:cg b' fs.ids=false:=by
    cases hh:cg b' fs.ids with
    |false=>rfl
    |true=>exact absurd (hasNatMem hh) hn.1
   have f2:cg b' cs.ids=false:=by
    cases hh:cg b' cs.ids with
    |false=>rfl
    |true=>exact absurd (hasNatMem hh) hn.2
   split at h
   ·rename_i f c h1 h2
    split at h
    ·rename_i ha
     cases h
     simp only[Bool.and_eq_true] at ha
     exact⟨f,c,rfl,by simp[f1,h1],by simp[f2,h2],ha.1,ha.2⟩
    ·cases h
   ·cases h
where
 hasNatMem {d:Nat}:∀{l:List Nat},cg d l=true→d∈l
  |[],h=>by cases h
  |
   x::l,h=>by
   simp only[cg,Bool.or_eq_true] at h
   rcases h with h|h
   ·rw[Nat.eq_of_beq_eq_true h];exact List.mem_cons_self ..
   ·exact List.mem_cons_of_mem _ (hasNatMem h)
def rename(b b':Nat)(σ:St):Option St:=
 match rj σ.hp b,rj σ.hp b' with
 |
  some k,none=>if Nat.beq b b'||Nat.blt b' 16 then none else
  match St.zj (fun x=>if cg b' x.ids then none else rn b b' x) {σ with hp:=σ.hp.set b none},om (fun x=>if cg b' x.ids then none else rn b b' x) (some k) with
  |some σ',some k'=>some {σ' with hp:=σ'.hp.set b' k'}
  |_,_=>none
 |_,_=>none
theorem Wk.rename{gl:Ctx}{b b':Nat}{σ σ':St}(h:Abs.rename b b' σ=some σ'):Wk gl σ σ':=by
 intro E a w hg
 unfold Abs.rename at h
 split at h
 ·rename_i k hk hk'
  have hbk:=lf σ.hp b k hk
  split at h
  ·cases h
  ·rename_i hne0
   have hne:b≠b':=fun e=>hne0 (by simp[e])
   have h16:16≤b':=by
    rcases Nat.lt_or_ge b' 16 with hq|hq
    ·have hq':Nat.blt b' 16=true:=Nat.ble_eq_true_of_le (Nat.succ_le_of_lt hq)
     exact absurd (by rw[hq'];simp) hne0
    ·exact hq
   split at h
   ·rename_i σ1 k1 h1 h2
    cases h
    unfold St.zj at h1
    split at h1
    ·rename_i hp' df' h3 h4
     cases h1
     have good:=GF (E:=E) (w:=w) (b:=b) (b':=b')
     have hEo:∀i,i≠b'→(E.mv b b').g i=E.g i∧(E.mv b b').sv i=E.sv i∧(E.mv b b').bt i=E.bt i:=fun i hi=>by simp[Env.mv,hi]
     have hEn:(E.mv b b').g b'=E.g b∧(E.mv b b').sv b'=E.sv b∧(E.mv b b').bt b'=E.bt b:=by simp[Env.mv]
     have src:∀(i:Nat)(k':ak),(hp'.set b' k1)[i]? =some (some k')→(i=b'∧k1=some k')∨(i≠b'∧i≠b∧∃k0,σ.hp[i]? =some (some k0)∧om (fun x=>if cg b' x.ids then none else rn b b' x) (some k0)=some (some k')):=by
      intro i k' hi
      rw[List.getElem?_set] at hi
      split at hi
      ·rename_i e;subst e
       split at hi
       ·cases hi;exact Or.inl ⟨rfl,rfl⟩
       ·cases hi
      ·rename_i hne'
       obtain⟨k0,e1,e2⟩:=rh h3 hi
       simp only[List.getElem?_set] at e1
       split at e1
       ·split at e1<;>cases e1
       ·rename_i hne2;exact Or.inr ⟨fun e=>hne' e.symm,fun e=>hne2 e.symm,k0,e1,e2⟩
     have gOf:∀(i:Nat)(k':ak),(hp'.set b' k1)[i]? =some (some k')→∃j k0,σ.hp[j]? =some (some k0)∧(E.mv b b').g i=E.g j∧(i=b'→j=b)∧(i≠b'→j=i):=by
      intro i k' hi
      rcases src i k' hi with⟨e,_⟩|⟨e1,e2,k0,e3,_⟩
      ·subst e;exact⟨b,k,hbk,hEn.1,fun _=>rfl,fun e=>absurd rfl e⟩
      ·exact⟨i,k0,e3,(hEo i e1).1,fun e=>absurd e e1,fun _=>rfl⟩
     refine⟨E.mv b b',⟨?_,?_,⟨?_,?_,?_,hg.hw.slt,hg.hw.gl⟩,good.RD h4 hg.df⟩,⟨rfl,Tp.r rfl rfl,rfl,Nat.le_refl _,fun _ _ _=>rfl,fun _ h=>h,fun _ h=>Or.inl h,?_,fun i hi=>hEo i (by omega)⟩⟩
     ·simp only[qZ];exact hg.len
     ·intro i y hy v hv
      rcases re hy with e|⟨x,e1,e2,e3⟩
      ·subst e;trivial
      ·exact RV.fa (good.RV e3 (RV.lW e2 (hg.tm i x e1 v hv)))
     ·intro i k' hi
      rcases src i k' hi with⟨e,e'⟩|⟨e1,e2,k0,e3,e4⟩
      ·subst e
       rw[e'] at h2
       exact good.RB (fun _ h=>h) (b:=b) (b':=i) hEn.1 hEn.2.1 hEn.2.2 h2 (hg.hw.bL b k hbk)
      ·exact good.RB (fun _ h=>h) (b:=i) (b':=i) (hEo i e1).1 (hEo i e1).2.1 (hEo i e1).2.2 e4 (hg.hw.bL i k0 e3)
     ·intro i j k2 k3 g' hi hj g1 g2
      obtain⟨i',k4,e1,e2,e3,e4⟩:=gOf i k2 hi
      obtain⟨j',k5,f1,f2,f3,f4⟩:=gOf j k3 hj
      rw[e2] at g1;rw[f2] at g2
      have hij:=hg.hw.sep i' j' k4 k5 g' e1 f1 g1 g2
      by_cases hi':i=b'<;>by_cases hj':j=b'
      ·rw[hi',hj']
      ·have h1:=e3 hi';have h2:=f4 hj'
       rcases src j k3 hj with⟨q,_⟩|⟨_,q,_⟩
       ·exact absurd q hj'
       ·exact absurd (by rw[←h2,←hij,h1]) q
      ·have h1:=e4 hi';have h2:=f3 hj'
       rcases src i k2 hi with⟨q,_⟩|⟨_,q,_⟩
       ·exact absurd q hi'
       ·exact absurd (by rw[←h1,hij,h2]) q
      ·rw[←e4 hi',←f4 hj',hij]
     ·intro i k' g' hi hgi hs
      obtain⟨i',k4,e1,e2,_,_⟩:=gOf i k' hi
      rw[e2] at hgi
      exact hg.hw.dm i' k4 g' e1 hgi hs
     ·rintro g' ⟨i,k',hi,hgi⟩
      obtain⟨i',k4,e1,e2,_,_⟩:=gOf i k' hi
      rw[e2] at hgi
      exact Or.inl ⟨i',k4,e1,hgi⟩
    ·cases h1
   ·cases h
 ·cases h
def rN(s b:Nat)(e:TypeId)(bs:Nat)(t:Ty)(σ:St):Option St:=
 match σ.tm[s]? with
 |some .cZ=>if σ.jv b&&Nat.blt 0 t.size then some {σ with tm:=σ.tm.set s (.own b),hp:=σ.hp.set b (some (.row e bs t []))} else none
 |_=>none
theorem Wk.rN{gl:Ctx}{s b:Nat}{e:TypeId}{bs:Nat}{t:Ty}{σ σ':St}(h:Abs.rN s b e bs t σ=some σ'):Wk gl σ σ':=by
 intro E a w hg
 unfold Abs.rN at h
 split at h
 ·rename_i hs
  split at h
  ·rename_i hc
   cases h
   simp only[Bool.and_eq_true] at hc
   have hlt:s<a.tmps.size:=by rw[hg.len];exact(List.getElem?_eq_some_iff.1 hs).1
   have ha:=RV.atom rfl (hg.tm s _ hs a.tmps[s] (by simp[hlt]))
   simp[RC] at ha
   have hsz:0<t.size:=by have:=hc.2;simp[Nat.blt] at this;omega
   obtain⟨g1,x1⟩:=hg.fresh (w':=w) (St.gQ hc.1) (g:=none) (sv:=.slice none 0 0) (t:=.arr 0 t) (k:=.row e bs t []) rfl (Tp.r rfl rfl) rfl (Nat.le_refl _) (fun _ _=>rfl) (fun i hi=>by cases hi)
    ⟨by simp[Env.at],by simp,by simp,hsz,none,0,by simp[Env.at],by simp[maxLen],Or.inl ⟨⟨rfl,rfl⟩,by simp[Env.at],rfl⟩⟩
   refine⟨_,⟨by simp[hg.len],?_,g1.hw,g1.df⟩,x1⟩
   intro i x hx v hv
   rw[List.getElem?_set] at hx
   split at hx
   ·rename_i e';subst e'
    split at hx
    ·cases hx
     have:v= .slice none 0 0:=by rw[Array.getElem?_eq_getElem hlt] at hv;cases hv;exact ha
     subst this
     exact RV.fa (Or.inr ⟨rfl,by simp[Env.at],none,0,0,by simp[Env.at]⟩)
    ·cases hx
   ·exact g1.tm i x hx v hv
  ·cases h
 ·cases h
def kG:Ty→Path→Bool
 | .pair a _,.fc 0::p=>kG a p
 | .pair _ b,.fc (k+1)::p=>kG b (.fc k::p)
 |_,[]=>true
 |_,_=>false
theorem Ar:∀{t:Ty}{p:Path},kG t p=true→t.valid p:=by
 intro t
 induction t with
 |
  pair a b ih1 ih2=>
  intro p h
  cases p with
  |nil=>simp[Ty.valid]
  |
   cons s p=>
   cases s with
   |
    fc k=>cases k with
    |zero=>simp only[kG] at h;simp only[Ty.valid];exact ih1 h
    |succ k=>simp only[kG] at h;simp only[Ty.valid];exact ih2 h
   |idx i=>simp[kG] at h
 |
  _=>
  intro p h
  cases p with
  |nil=>simp[Ty.valid]
  |cons s p=>simp[kG] at h
def rk(c:Nat)(p:Path)(b:Nat)(e:TypeId)(bs:Nat)(t:Ty)(σ:St):Option St:=
 match rj σ.hp c with
 |
  some (.var tt v)=>match v.get p,v.set p (.own b) with
  |some .cZ,some u=>if σ.jv b&&Nat.blt 0 t.size&&u.bI tt&&kG tt p&& !Nat.beq c b then some {σ with hp:=(σ.hp.set b (some (.row e bs t []))).set c (some (.var tt u))} else none
  |_,_=>none
 |_=>none
theorem Wk.rk{gl:Ctx}{c:Nat}{p:Path}{b:Nat}{e:TypeId}{bs:Nat}{t:Ty}{σ σ':St}(h:Abs.rk c p b e bs t σ=some σ'):Wk gl σ σ':=by
 intro E a w hg
 unfold Abs.rk at h
 split at h
 ·rename_i tt v hc
  have hbk:=lf σ.hp c _ hc
  split at h
  ·rename_i u hget aj
   split at h
   ·rename_i hk
    cases h
    simp only[Bool.and_eq_true] at hk
    obtain⟨⟨⟨⟨k1,k2⟩,k3⟩,k4⟩,k5⟩:=hk
    have hcb:c≠b:=fun e'=>by subst e';simp at k5
    have hsz:0<t.size:=by have:=k2;simp[Nat.blt] at this;omega
    obtain⟨g1,x1⟩:=hg.fresh (w':=w) (St.gQ k1) (g:=none) (sv:=.slice none 0 0) (t:=.arr 0 t) (k:=.row e bs t []) rfl (Tp.r rfl rfl) rfl (Nat.le_refl _) (fun _ _=>rfl) (fun i hi=>by cases hi)
     ⟨by simp[Env.at],by simp,by simp,hsz,none,0,by simp[Env.at],by simp[maxLen],Or.inl ⟨⟨rfl,rfl⟩,by simp[Env.at],rfl⟩⟩
    have hb1:(σ.hp.set b (some (.row e bs t [])))[c]? =some (some (.var tt v)):=by
     rw[List.getElem?_set,if_neg (fun e'=>hcb e'.symm)];exact hbk
    obtain⟨r1,r2,g,cs,e',r3,r4,r5⟩:=g1.hw.bL c _ hb1
    have hva:=Ar k4
    obtain⟨s,q1,q2,q3,q4⟩:=AV.pR r5 r2 hva hget
    have hs1:s.size=1:=AV.eQ q2▸rfl
    have hown:RC (E.at b none (.slice none 0 0) (.arr 0 t)) w (.own b) [.slice none 0 0]:=⟨by simp[Env.at],none,0,0,by simp[Env.at]⟩
    obtain⟨s',p1,p2,p3,p4⟩:=AV.tF hown r5 r2 hva (fun s' hs'=>by rw[q1] at hs';cases hs';simp[hs1]) aj
    rw[q1] at p1;cases p1
    simp only[RC] at q4
    have hcs:cs.toList.take (tt.off p)++[Value.slice none 0 0]++cs.toList.drop (tt.off p+s.size)=cs.toList:=by
     rw[←q4,List.append_assoc,←List.drop_drop,List.take_append_drop,List.take_append_drop]
    rw[hcs] at p4
    have hw2:=g1.hw.write (w':=w) (k':=.var tt u) hb1 rfl (fun _ _=>rfl) ⟨r1,k3,g,cs,e',r3,r4,p4⟩
    refine⟨_,⟨g1.len,g1.tm,hw2,g1.df⟩,{x1 with own:=?_ }⟩
    intro g' hg'
    exact x1.own g' (Own.xl hb1 hg')
   ·cases h
  ·cases h
 ·cases h
inductive Gh where
 |an (ts bs:List Nat)
 |Ev (s:Nat) (t:Ty)
 |Ew (b:Nat)
 |freeze (b:Nat) (t:Ty)
 |iN (b b':Nat)
 |rN (s b:Nat) (e:TypeId) (bs:Nat) (t:Ty)
 |rk (c:Nat) (p:Path) (b:Nat) (e:TypeId) (bs:Nat) (t:Ty)
def Gh.go(σ:St):Gh→Option St
 | .an ts bs=>some ⟨eg ts 0 σ.tm,qY bs 0 σ.hp,σ.df⟩
 |
  .Ev s t=>match σ.tm[s]? with
  |
   some x=>match x.bg t with
   |some y=>some {σ with tm:=σ.tm.set s (.val t y)}
   |none=>none
  |none=>none
 |
  .Ew b=>match σ.hp[b]? with
  |
   some (some (.var t v))=>match v.bg t with
   |some y=>some {σ with hp:=σ.hp.set b (some (.var t (.val t y)))}
   |none=>none
  |_=>none
 | .freeze b t=>Abs.freeze b t σ
 | .iN b b'=>rename b b' σ
 | .rN s b e bs t=>Abs.rN s b e bs t σ
 | .rk c p b e bs t=>Abs.rk c p b e bs t σ
def xT:List Gh→St→Option St
 |[],σ=>some σ
 |
  g::l,σ=>match g.go σ with
  |some σ'=>xT l σ'
  |none=>none
theorem Gh.ok{gl:Ctx}{g:Gh}{σ σ':St}(h:g.go σ=some σ'):Wk gl σ σ':=by
 cases g with
 |an ts bs=>cases h;exact Wk.an gl σ ts bs
 |
  Ev s t=>
  simp only[Gh.go] at h
  split at h
  ·rename_i x hx
   split at h
   ·rename_i y hy;cases h;exact Wk.Ev hx hy
   ·cases h
  ·cases h
 |
  Ew b=>
  simp only[Gh.go] at h
  split at h
  ·rename_i t v hb
   split at h
   ·rename_i y hy;cases h;exact Wk.Ew hb hy
   ·cases h
  ·cases h
 |freeze b t=>exact Wk.freeze h
 |iN b b'=>exact Wk.rename h
 |rN s b e bs t=>exact Wk.rN h
 |rk c p b e bs t=>exact Wk.rk h
theorem fJ{gl:Ctx}:∀{l:List Gh}{σ σ':St},xT l σ=some σ'→Wk gl σ σ'
 |[],σ,σ',h=>by cases h;exact Wk.refl gl σ
 |
  g::l,σ,σ',h=>by
  simp only[xT] at h
  split at h
  ·rename_i σ1 h1;exact(Gh.ok h1).trans (fJ h)
  ·cases h
section
variable{P:Program} {gl:Ctx} {σ:St} {Q:iM→St→Prop}
theorem aa.wk{c:Code}{σ':St}(h:Wk gl σ σ')(hr:aa P gl c σ' Q):aa P gl c σ Q:=by
 intro E a w hg
 obtain⟨E1,g1,x1⟩:=h E a w hg
 refine wpIn_mono (hr E1 a w g1) ?_
 rintro ex a2 w2 ⟨x,σ2,E2,h1,h2,h3,h4⟩
 exact⟨x,σ2,E2,h1,h2,h3,x1.trans h4⟩
theorem aa.gh{c:Code}(l:List Gh){σ':St}(h:xT l σ=some σ')(hr:aa P gl c σ' Q):aa P gl c σ Q:=aa.wk (fJ h) hr
def jQ(gl:Ctx)(J:St→Prop)(Q:iM→St→Prop):iM→St→Prop
 | .normal,σ=>∃σ',Wk gl σ σ'∧J σ'
 |x,σ=>Q x σ
theorem jQ.mk{J:St→Prop}(l:List Gh){σ':St}(h:xT l σ=some σ')(hj:J σ'):jQ gl J Q .normal σ:=⟨σ',fJ h,hj⟩
theorem aa.ba{x y:Code}(J:St→Prop)(h1:aa P gl x σ (jQ gl J Q))(h2:∀σ',J σ'→aa P gl y σ' Q):aa P gl (.seq x y) σ Q:=by
 refine aa.seq (aa.mono h1 ?_)
 intro x σ' hq
 cases x with
 |normal=>obtain⟨σ2,hw,hj⟩:=hq;exact aa.wk hw (h2 σ2 hj)
 |_=>exact hq
def aB(gl:Ctx)(R:Nat→St→Prop)(n:Nat)(Q:iM→St→Prop):iM→St→Prop
 | .normal,σ=>∃m,m<n∧∃σ',Wk gl σ σ'∧R m σ'
 |x,σ=>Q x σ
theorem aB.mk{R:Nat→St→Prop}{n:Nat}(l:List Gh){σ':St}(h:xT l σ=some σ')(hj:R n σ'):aB gl R (n+1) Q .normal σ:=⟨n,Nat.lt_succ_self n,σ',fJ h,hj⟩
theorem aa.aB{c:Code}(R:Nat→St→Prop){n:Nat}(l:List Gh){σ':St}(h:xT l σ=some σ')(h0:R n σ')(hR:∀n σ,R n σ→aa P gl c σ (Abs.aB gl R n Q)):aa P gl (.loop c) σ Q:=by
 refine aa.loop (fun n σ=>∃σ',Wk gl σ σ'∧R n σ') ?_ ⟨σ',fJ h,h0⟩
 rintro n σ1 ⟨σ2,hw,hr⟩
 refine aa.wk hw (aa.mono (hR n σ2 hr) ?_)
 intro x σ3 hq
 cases x with
 |normal=>obtain⟨m,hm,hh⟩:=hq;exact⟨m,hm,hh⟩
 |_=>exact hq
end
structure Cl(gl:Ctx)(Q:iM→St→Prop):Prop where
 n:∀σ σ',Wk gl σ σ'→Q .normal σ'→Q .normal σ
 e:∀i σ σ',Wk gl σ σ'→Q (.exit i) σ'→Q (.exit i) σ
theorem Cl.j{gl:Ctx}{J:St→Prop}{Q:iM→St→Prop}(h:Cl gl Q):Cl gl (jQ gl J Q):=⟨fun _ _ h ⟨σ2,h2,hj⟩=>⟨σ2,h.trans h2,hj⟩,fun i σ σ' hw hq=>h.e i σ σ' hw hq⟩
theorem Cl.loop{gl:Ctx}{R:Nat→St→Prop}{n:Nat}{Q:iM→St→Prop}(h:Cl gl Q):Cl gl (aB gl R n Q):=⟨fun _ _ h ⟨m,hm,σ2,h2,hj⟩=>⟨m,hm,σ2,h.trans h2,hj⟩,fun i σ σ' hw hq=>h.e i σ σ' hw hq⟩
theorem Cl.bL{gl:Ctx}{id:Nat}{Q:iM→St→Prop}(h:Cl gl Q):Cl gl (mh id Q):=⟨fun σ σ' hw hq=>h.n σ σ' hw hq,fun i σ σ' hw hq=>by
 simp only[mh] at hq ⊢
 split at hq
 ·rename_i e;rw[if_pos e];exact h.n σ σ' hw hq
 ·rename_i e;rw[if_neg e];exact h.e i σ σ' hw hq⟩
theorem aa.oP{P:Program}{gl:Ctx}{σ:St}{Q:iM→St→Prop}{x:Code}(J:St→Prop)(hc:Cl gl Q)(h1:aa P gl x σ (jQ gl J Q))(h2:∀σ',J σ'→Q .normal σ'):aa P gl x σ Q:=
 aa.mono h1 (fun x σ' hq=>by
  cases x with
  |normal=>obtain⟨σ2,hw,hj⟩:=hq;exact hc.n _ _ hw (h2 σ2 hj)
  |_=>exact hq)
def EC(gl:Ctx)(J:St→Prop)(X:Nat→St→Prop)(Q:iM→St→Prop):iM→St→Prop
 | .normal,σ=>∃σ',Wk gl σ σ'∧J σ'
 | .exit i,σ=>∃σ',Wk gl σ σ'∧X i σ'
 |x,σ=>Q x σ
theorem EC.mk{gl:Ctx}{σ:St}{Q:iM→St→Prop}{J:St→Prop}{X:Nat→St→Prop}(l:List Gh){σ':St}(h:xT l σ=some σ')(hj:J σ'):EC gl J X Q .normal σ:=⟨σ',fJ h,hj⟩
theorem EC.ex{gl:Ctx}{σ:St}{Q:iM→St→Prop}{J:St→Prop}{X:Nat→St→Prop}{i:Nat}(l:List Gh){σ':St}(h:xT l σ=some σ')(hj:X i σ'):EC gl J X Q (.exit i) σ:=⟨σ',fJ h,hj⟩
theorem aa.Iw{P:Program}{gl:Ctx}{σ:St}{Q:iM→St→Prop}{x y:Code}(J:St→Prop)(X:Nat→St→Prop)(hc:Cl gl Q)(h1:aa P gl x σ (EC gl J X Q))(h3:∀i σ',X i σ'→Q (.exit i) σ')(h2:∀σ',J σ'→aa P gl y σ' Q):aa P gl (.seq x y) σ Q:=by
 refine aa.seq (aa.mono h1 ?_)
 intro x σ' hq
 cases x with
 |normal=>obtain⟨σ2,hw,hj⟩:=hq;exact aa.wk hw (h2 σ2 hj)
 |exit i=>obtain⟨σ2,hw,hj⟩:=hq;exact hc.e i _ _ hw (h3 i σ2 hj)
 |_=>exact hq
theorem tE{P:Program}{gl:Ctx}{y:Code}{i:Nat}{Q:iM→St→Prop}{σ:St}(h:Q (.exit i) σ):Fg P gl y Q (.exit i) σ:=h
theorem lE{gl:Ctx}{R:Nat→St→Prop}{n i:Nat}{Q:iM→St→Prop}{σ:St}(h:Q (.exit i) σ):aB gl R n Q (.exit i) σ:=h
theorem bN{id:Nat}{Q:iM→St→Prop}{σ:St}(h:Q .normal σ):mh id Q .normal σ:=h
theorem bE{id:Nat}{Q:iM→St→Prop}{σ:St}(h:Q .normal σ):mh id Q (.exit id) σ:=by simp only[mh,if_true];exact h
def fQ(gl:Ctx)(G:bH)(rs:List ResultVar)(r:nV)(H':List (Option ak)):iM→St→Prop
 | .normal,σ=>∃σ',Wk gl σ σ'∧oO G rs r H' .normal σ'
 | .ret,σ=>∃σ',Wk gl σ σ'∧oO G rs r H' .ret σ'
 |x,σ=>oO G rs r H' x σ
theorem Cl.f{gl:Ctx}{G:bH}{rs:List ResultVar}{r:nV}{H':List (Option ak)}:Cl gl (fQ gl G rs r H'):=⟨fun _ _ h ⟨σ2,h2,hj⟩=>⟨σ2,h.trans h2,hj⟩,fun _ _ _ _ hq=>hq.elim⟩
theorem au{gl:Ctx}{G:bH}{rs:List ResultVar}(l:List Gh)(ts:List (Option Ty))(m:List Bool){σ:St}{y:AV}{H':List (Option ak)}(h:(xT l σ).bind (fin G rs ts m)=some (y,H')):fQ gl G rs (.ret y) H' .ret σ∧fQ gl G rs (.ret y) H' .normal σ:=by
 cases hg:xT l σ with
 |none=>rw[hg] at h;cases h
 |
  some σ'=>
  rw[hg] at h
  have:=sS ts m h
  exact⟨⟨σ',fJ hg,this.1⟩,⟨σ',fJ hg,this.2⟩⟩
theorem bz.aD{P:Program}{G:bH}(T:a9 P G){gl:Ctx}{f:FuncId}{fn:Func}{c:Code}(hf:P.funcs[f]? =some fn)(hb:fn.body=some c)(hro:gl.ro=none){args:List AV}{H H':List (Option ak)}{r:nV}{σ0:St}(hs:(⟨args++List.replicate (fn.ntmps -args.length) .bot,H,[]⟩:St)=σ0)
 (h:aa P gl c σ0 (fQ gl G fn.results.toList r H')):bz P gl f args H r H':=by
 subst hs
 intro E w vs hv hw
 obtain⟨hl,hget⟩:=hv.get
 refine CallsIn.calls (F:=Wd gl) (n:=0) (callsIn_of_wp hf hb trivial ?_ hro) (fun k d hd=>by cases hd)
 have hg:cu gl ⟨args++List.replicate (fn.ntmps -args.length) .bot,H,[]⟩ E {tmps:=vs.toArray++Array.replicate (fn.ntmps -vs.toArray.size) undef,defers:=[]} w:=by
  refine⟨?_,?_,hw,trivial⟩
  ·simp only[Array.size_append,List.size_toArray,Array.size_replicate,List.length_append,List.length_replicate]
   rw[hl]
  ·intro i x hx v hv'
   rw[Array.getElem?_append] at hv'
   simp only[List.getElem?_append] at hx
   split at hx
   ·rename_i hi
    rw[if_pos (by simpa[hl] using hi)] at hv'
    exact hget i x v hx (by simpa using hv')
   ·rw[List.getElem?_replicate] at hx
    split at hx
    ·cases hx;trivial
    ·cases hx
 refine wpIn_mono (h E _ w hg) ?_
 rintro ex a' w' ⟨x,σ',E',h1,h2,h3,h4⟩
 have hdf:∀(σ:St)(E:Env) l,σ.df= []→RD E w' σ.df l→l= []:=by
  intro σ E l e hd
  rw[e] at hd
  cases l with
  |nil=>rfl
  |cons d l=>exact hd.elim
 cases ex with
 |
  normal=>
  cases x with
  |
   normal=>
   obtain⟨σ2,hwk,hd,x,y,ts,m,r1,r2,r3,r4⟩:=h2
   obtain⟨E2,g2,x2⟩:=hwk E' a' w' h3
   obtain⟨v,k1,k2⟩:=qX T g2 r1
   subst r3;subst r4
   exact⟨hdf _ _ _ hd g2.df,v,k1,E2,xS r2 k2,g2.hw.prune m,(h4.trans x2).prune m⟩
  |_=>exact h1.elim
 |
  ret=>
  cases x with
  |
   ret=>
   obtain⟨σ2,hwk,hd,x,y,ts,m,r1,r2,r3,r4⟩:=h2
   obtain⟨E2,g2,x2⟩:=hwk E' a' w' h3
   obtain⟨v,k1,k2⟩:=qX T g2 r1
   subst r3;subst r4
   exact⟨hdf _ _ _ hd g2.df,v,k1,E2,xS r2 k2,g2.hw.prune m,(h4.trans x2).prune m⟩
  |_=>exact h1.elim
 |
  panic chain=>
  cases x with
  |
   panic y=>
   obtain⟨hd,m,r3,r4⟩:=h2
   subst r3;subst r4
   exact⟨hdf _ _ _ hd h3.df,E',h1,h3.hw.prune m,h4.prune m⟩
  |_=>exact h1.elim
 |exit i=>cases x<;>first|exact h1.elim|exact h2.elim
 |goto l=>cases x<;>exact h1.elim
 |outgrown=>cases x<;>exact h1.elim
theorem aa.aE{P:Program}{gl:Ctx}{σ:St}{Q:iM→St→Prop}{c:Operand}{x y:Code}{b:Bool}(hc:bP gl σ.tm c= .val .bool b)(hb:b=true)(h:aa P gl x σ Q):aa P gl (.cond c x y) σ Q:=
 aa.cond hc (fun _=>h) (fun e=>by rw[hb] at e;cases e)
theorem aa.aF{P:Program}{gl:Ctx}{σ:St}{Q:iM→St→Prop}{c:Operand}{x y:Code}{b:Bool}(hc:bP gl σ.tm c= .val .bool b)(hb:b=false)(h:aa P gl y σ Q):aa P gl (.cond c x y) σ Q:=
 aa.cond hc (fun e=>by rw[hb] at e;cases e) (fun _=>h)
theorem Fc.of{P:Program}{gl:Ctx}{f:FuncId}{args:List AV}{H H':List (Option ak)}{r:nV}(hc:∀vs w,(callFunc f vs).run P w= .ok (.enter f vs) w)(h:bz P gl f args H r H'):Fc P gl f args H r H':=⟨hc,h⟩
theorem ah{α:Type}{p:Prop}[Decidable p]{k:Option α}{r:α}(h:(if p then k else none)=some r):p∧k=some r:=by
 split at h
 ·exact⟨by assumption,h⟩
 ·cases h
theorem ae{α:Type}{b:Bool}{x y:Option α}{r:α}(h:(if b=true then x else y)=some r):(b=true∧x=some r)∨(b=false∧y=some r):=by
 cases b
 ·exact Or.inr ⟨rfl,h⟩
 ·exact Or.inl ⟨rfl,h⟩
theorem bind_some{α β:Type}{x:Option α}{f:α→Option β}{r:β}(h:x.bind f=some r):∃y,x=some y∧f y=some r:=by
 cases x with
 |none=>cases h
 |some y=>exact⟨y,rfl,h⟩
inductive c6(β ρ:Type) where
 |bh (b:β)
 |ret (r:ρ)
def kH{α:Type}:List (Nat×α)→List α→List α
 |[],l=>l
 |(i,x)::m,l=>kH m (l.set i x)
def ar(n m:Nat)(tm:List (Nat×AV))(hp:List (Nat×Option ak)):St:=⟨kH tm (List.replicate n .bot),kH hp (List.replicate m none),[]⟩
def cq(m:Nat)(ids:List Nat):List Bool:=kH (ids.map fun i=>(i,true)) (List.replicate m false)
def bX:Nat:=18446744073709551616
abbrev aP(n:Int):Int:=IntKind.i64.wrap n
def nth(t:Ty)(xs:List t.den)(i:Int):t.den:=xs.getD i.toNat t.aS
end Go.Abs
namespace Go.Abs
theorem aa.zk{P:Program}{gl:Ctx}{σ:St}{Q:iM→St→Prop}{id:Nat}{o1 o2:Oper}{y:Code}(x:Operand)(d1 d2:Nat)(t t2 e:TypeId)(bs:Nat)(u:Ty)(xs:List u.den)
 (h1:o1.op= .move x) (hd1:o1.dst=some d1) (hg1:o1.guard=none) (h2:o2.op= .binOp .eql t (.tmp d1) (.const (.slice none 0 0)) t2) (hd2:o2.dst=some d2) (hg2:o2.guard=none)
 (hx:bP gl σ.tm x= .val (.slice bs u) xs) (ht:P.underlying t=some (.slice e)) (hl:Nat.blt d1 σ.tm.length=true)
 (h:∀b:Bool,(b=true→xs= [])→aa P gl y ((σ.put (some d1) (.val (.slice bs u) xs)).put (some d2) (.val .bool b)) Q):aa P gl (.seq (.region id #[o1,o2] false) y) σ Q:=by
 intro E a w hg
 have hv:=ki hg x
 rw[hx] at hv
 obtain⟨ad,cap,hve,_,_,_,hor⟩:=RV.atom rfl hv
 simp at hve
 have hlt:d1<a.tmps.size:=by rw[hg.len];simp[Nat.blt] at hl;omega
 refine wpIn_seq (wpIn_region ?_)
 have hr:List.range (#[o1,o2]:Array Oper).size= [0,1]:=rfl
 rw[hr]
 have w1:∀z,Region.wanted o1 z=true:=fun z=>by simp[Region.wanted,hg1]
 have w2:∀z,Region.wanted o2 z=true:=fun z=>by simp[Region.wanted,hg2]
 have ga:=hg.put (some d1) hv
 have hb:ad.isNone=true→xs= []:=by
  intro hn
  rcases hor with h0|⟨b,o,cs,e1,_⟩
  ·exact h0
  ·subst e1;cases hn
 have gb:=ga.put (some d2) (x:=.val .bool ad.isNone) (v:=.bool ad.isNone) (RV.fa (Or.inr ⟨rfl,rfl⟩))
 have hfin:=h ad.isNone hb E _ w gb
 simp only[wpOpsIn,List.getElem?_toArray,List.getElem?_cons_zero,List.getElem?_cons_succ,w1,if_true]
 refine⟨fun _ _=>trivial,?_⟩
 rw[Oper.semAt_eq _ _ _ (by rw[h1];intro c hc;cases hc)]
 have r1:(execOp a.eval o1).run P w= .ok (.value (a.eval x)) w:=by simp[execOp,h1]
 rw[r1,Oper.uponIn_value,hd1]
 simp only[w2,if_true]
 refine⟨fun _ _=>trivial,?_⟩
 rw[Oper.semAt_eq _ _ _ (by rw[h2];intro c hc;cases hc)]
 have hev:(a.put (some d1) (a.eval x)).eval (.tmp d1)= .slice ad xs.length cap:=by
  have:(a.put (some d1) (a.eval x)).eval (.tmp d1)=a.eval x:=by
   generalize a.eval x=v
   simp[Act.eval,Act.put,hlt]
  rw[this,hve]
 have r2:(execOp (a.put (some d1) (a.eval x)).eval o2).run P w= .ok (.value (.bool ad.isNone)) w:=by
  have hq:=run_equal_slice_nil (P:=P) w t e ad xs.length cap ht
  have hc:(a.put (some d1) (a.eval x)).eval (.const (.slice none 0 0))= .slice none 0 0:=rfl
  simp[execOp,h2,hev,hc,eqGuard,binOp,hq]
 rw[r2,Oper.uponIn_value,hd2]
 simp only[Exit.then]
 refine wpIn_mono hfin ?_
 rintro ex a' w' ⟨x',σ',E',k1,k2,k3,k4⟩
 exact⟨x',σ',E',k1,k2,k3,k4⟩
end Go.Abs
namespace Go.Abs
theorem HW.frame{gl:Ctx}{E:Env}{w:World}{hp:List (Option ak)}(h:HW gl E w hp){g:Nat}{o:Obj}(hS:¬E.S g)(hO:¬Own hp E g):bp E w E (w.putObj g o)∧HW gl E (w.putObj g o) hp:=by
 have kp:bp E w E (w.putObj g o):=⟨fun b hb=>World.putObj_heap_other (fun e=>hS (e▸hb)),fun _ h=>h⟩
 exact⟨kp,fun b k hb=>RB.mono kp (fun _ _=>⟨rfl,rfl,rfl⟩) (fun i hi=>World.putObj_heap_other (fun e=>hO ⟨b,k,hb,by rw[←e];exact hi⟩)) (h.bL b k hb),h.sep,h.dm,fun i hi=>by simpa using h.slt i hi,h.gu kp⟩
theorem cu.frame{gl:Ctx}{σ:St}{E:Env}{a:Act}{w:World}(h:cu gl σ E a w){g:Nat}{o:Obj}(hS:¬E.S g)(hO:¬Own σ.hp E g):cu gl σ E a (w.putObj g o):=by
 obtain⟨kp,hw⟩:=h.hw.frame (o:=o) hS hO
 exact h.carry kp (fun _ _=>⟨rfl,rfl,rfl⟩) hw
theorem Ext.put{O:Nat→Prop}{E:Env}{w:World}{g:Nat}{o:Obj}(h:O g):Ext O E w O E (w.putObj g o):=
 ⟨rfl,Tp.r rfl rfl,rfl,by simp,fun i _ hi=>World.putObj_heap_other (fun e=>hi (e▸h)),fun _ h=>h,fun _ h=>Or.inl h,fun _ h=>Or.inl h,fun _ _=>⟨rfl,rfl,rfl⟩⟩
theorem jP{hp:List (Option ak)}{b c:Nat}{k:ak}(h:(hp.set b none)[c]? =some (some k)):c≠b∧hp[c]? =some (some k):=by
 rw[List.getElem?_set] at h
 split at h
 ·split at h<;>cases h
 ·rename_i hne;exact⟨fun e=>hne e.symm,h⟩
theorem HW.drop{gl:Ctx}{E:Env}{w:World}{hp:List (Option ak)}(h:HW gl E w hp)(b:Nat):HW gl E w (hp.set b none):=h.less (fun _ _ hc=>(jP hc).2)
theorem Own.drop{E:Env}{hp:List (Option ak)}{b g:Nat}(h:Own (hp.set b none) E g):Own hp E g:=by
 obtain⟨c,k,h1,h2⟩:=h
 exact⟨c,k,(jP h1).2,h2⟩
theorem cu.shut{gl:Ctx}{σ:St}{E:Env}{a:Act}{w:World}(h:cu gl σ E a w){b g:Nat}{k:ak}(hb:σ.hp[b]? =some (some k))(hg:E.g b=some g)(o:Obj):
 cu gl {σ with hp:=σ.hp.set b none} E a (w.putObj g o)∧Ext (Own σ.hp E) E w (Own (σ.hp.set b none) E) E (w.putObj g o):=by
 have hS:¬E.S g:=h.hw.dm b k g hb hg
 have hO:¬Own (σ.hp.set b none) E g:=by
  rintro⟨c,k',hc,hgc⟩
  obtain⟨h1,h2⟩:=jP hc
  exact h1 (h.hw.sep c b k' k g h2 hb hgc hg)
 have h1:cu gl {σ with hp:=σ.hp.set b none} E a w:=⟨h.len,h.tm,h.hw.drop b,h.df⟩
 refine⟨h1.frame hS hO,?_⟩
 have:=Ext.put (O:=Own σ.hp E) (E:=E) (w:=w) (o:=o) ⟨b,k,hb,hg⟩
 exact{this with own:=fun i hi=>Or.inl (Own.drop hi)}
def marks:List AV→List (Option ak)→Option (List (Option ak))
 |[],hp=>some hp
 |
  .mp b::l,hp=>match rj hp b with
  |some .oR=>marks l (hp.set b none)
  |_=>none
 |_,_=>none
theorem zl{P:Program}{gl:Ctx}{fn:Func}{R:Ending→World→Prop}{tmps:Array Value}:∀(df:List AV){tm:List AV}{hp hp':List (Option ak)}{E:Env}{ds:List Deferred}{w:World},
 cu gl ⟨tm,hp,df⟩ E ⟨tmps,ds⟩ w→marks df hp=some hp'→(∀w',cu gl ⟨tm,hp',[]⟩ E ⟨tmps,[]⟩ w'→Ext (Own hp E) E w (Own hp' E) E w'→LeavesIn (Wd gl) 0 P fn tmps R [] .returning w')→LeavesInM (Wd gl) 0 P fn tmps R ds .returning w
 |
  [],tm,hp,hp',E,ds,w,h,hm,hk=>by
  cases hm
  have:ds= []:=by
   have:=h.df
   cases ds with
   |nil=>rfl
   |cons _ _=>exact this.elim
  subst this
  exact hk w h (Ext.refl _ _ _)
 |
  x::l,tm,hp,hp',E,ds,w,h,hm,hk=>by
  cases x with
  |
   mp b=>
   simp only[marks] at hm
   split at hm
   ·rename_i hb
    have hbk:=lf hp b _ hb
    cases ds with
    |nil=>exact h.df.elim
    |
     cons d ds=>
     obtain⟨⟨g,hg,hd⟩,hrest⟩:=h.df
     obtain⟨g',hg',hh⟩:=h.hw.bL b _ hbk
     rw[hg] at hg';cases hg'
     have h0:cu gl ⟨tm,hp,l⟩ E ⟨tmps,ds⟩ w:=⟨h.len,h.tm,h.hw,hrest⟩
     obtain⟨g1,x1⟩:=h0.shut hbk hg (.deferred none)
     refine⟨by simp,Or.inl ⟨g,_,by rw[hd],run_takeDeferred hh,?_⟩⟩
     exact zl l g1 hm (fun w' k1 k2=>hk w' k1 (x1.trans k2))
   ·cases hm
  |_=>simp[marks] at hm
def xU(gl:Ctx)(G:bH)(rs:List ResultVar)(r:nV)(H':List (Option ak)):iM→St→Prop
 | .normal,σ=>∃σ' hp',Wk gl σ σ'∧marks σ'.df σ'.hp=some hp'∧oO G rs r H' .ret {σ' with hp:=hp',df:=[]}
 | .ret,σ=>∃σ' hp',Wk gl σ σ'∧marks σ'.df σ'.hp=some hp'∧oO G rs r H' .ret {σ' with hp:=hp',df:=[]}
 |_,_=>False
def Ix(G:bH)(rs:List ResultVar)(ts:List (Option Ty))(m:List Bool)(σ:St):Option (AV×List (Option ak)):=
 match marks σ.df σ.hp with
 |some hp=>fin G rs ts m {σ with hp:=hp,df:=[]}
 |none=>none
theorem xV{gl:Ctx}{G:bH}{rs:List ResultVar}(l:List Gh)(ts:List (Option Ty))(m:List Bool){σ:St}{y:AV}{H':List (Option ak)}(h:(xT l σ).bind (Ix G rs ts m)=some (y,H')):xU gl G rs (.ret y) H' .ret σ∧xU gl G rs (.ret y) H' .normal σ:=by
 cases hg:xT l σ with
 |none=>rw[hg] at h;cases h
 |
  some σ'=>
  rw[hg] at h
  simp only[Option.bind_some,Ix] at h
  split at h
  ·rename_i hp' hm
   have:=(sS ts m h).1
   exact⟨⟨σ',hp',fJ hg,hm,this⟩,⟨σ',hp',fJ hg,hm,this⟩⟩
  ·cases h
theorem bz.zm{P:Program}{G:bH}(T:a9 P G){gl:Ctx}{f:FuncId}{fn:Func}{c:Code}(hf:P.funcs[f]? =some fn)(hb:fn.body=some c)(hro:gl.ro=none){args:List AV}{H H':List (Option ak)}{r:nV}{σ0:St}(hs:(⟨args++List.replicate (fn.ntmps -args.length) .bot,H,[]⟩:St)=σ0)
 (h:aa P gl c σ0 (xU gl G fn.results.toList r H')):bz P gl f args H r H':=by
 subst hs
 intro E w vs hv hw
 obtain⟨hl,hget⟩:=hv.get
 refine CallsIn.calls (F:=Wd gl) (n:=0) (callsIn_of_wp_marks hf hb trivial ?_ hro) (fun k d hd=>by cases hd)
 have hg:cu gl ⟨args++List.replicate (fn.ntmps -args.length) .bot,H,[]⟩ E {tmps:=vs.toArray++Array.replicate (fn.ntmps -vs.toArray.size) undef,defers:=[]} w:=by
  refine⟨?_,?_,hw,trivial⟩
  ·simp only[Array.size_append,List.size_toArray,Array.size_replicate,List.length_append,List.length_replicate]
   rw[hl]
  ·intro i x hx v hv'
   rw[Array.getElem?_append] at hv'
   simp only[List.getElem?_append] at hx
   split at hx
   ·rename_i hi
    rw[if_pos (by simpa[hl] using hi)] at hv'
    exact hget i x v hx (by simpa using hv')
   ·rw[List.getElem?_replicate] at hx
    split at hx
    ·cases hx;trivial
    ·cases hx
 refine wpIn_mono (h E _ w hg) ?_
 rintro ex a' w' ⟨x,σ',E',h1,h2,h3,h4⟩
 have main:(∃σ2 hp',Wk gl σ' σ2∧marks σ2.df σ2.hp=some hp'∧oO G fn.results.toList r H' .ret {σ2 with hp:=hp',df:=[]})→
  LeavesInM (Wd gl) 0 P fn a'.tmps (fun e w'=>∃E',Bi E' w' r e∧HW gl E' w' H'∧Ext (Own H E) E w (Own H' E') E' w') a'.defers .returning w':=by
  rintro⟨σ2,hp',hwk,hm,hd,x,y,ts,m,r1,r2,r3,r4⟩
  obtain⟨E2,g2,x2⟩:=hwk E' a' w' h3
  subst r3;subst r4
  refine zl σ2.df g2 hm (fun w3 k1 k2=>?_)
  obtain⟨v,k3,k4⟩:=qX T k1 r1
  exact⟨v,k3,E2,xS r2 k4,k1.hw.prune m,((h4.trans x2).trans k2).prune m⟩
 cases ex with
 |
  normal=>
  cases x with
  |normal=>exact main h2
  |_=>exact h1.elim
 |
  ret=>
  cases x with
  |ret=>exact main h2
  |_=>exact h1.elim
 |panic chain=>cases x<;>first|exact h1.elim|exact h2.elim
 |exit i=>cases x<;>first|exact h1.elim|exact h2.elim
 |goto l=>cases x<;>exact h1.elim
 |outgrown=>cases x<;>exact h1.elim
end Go.Abs
namespace Go.Abs
def Ctx.wB(gl:Ctx)(B:(Nat→Prop)→World→Prop)(hB:∀{S S':Nat→Prop}{w w':World},(∀b,S b→w'.heap[b]? =w.heap[b]?)→(∀b,S b→S' b)→B S w→B S' w'):Ctx:=⟨gl.gl,B,hB,none⟩
def Ctx.As(gl:Ctx)(l:Nat):Ctx:=⟨gl.gl,fun _ _=>True,fun _ _ _=>trivial,some l⟩
def jmp(jl:List Code):Nat→Option Code
 |0=>none
 |j+1=>jl[j]?
def dO(fn:FuncId)(tmps:Array Value)(ps:Array Tmp)(assign body:Code)(D:Nat)(jl:List Code)(j:Nat):Loop:=
 {state:=if Nat.beq j 0 then .ready else .done,pending:=jmp jl j,fn,tmps,params:=ps,assign,body,defers:=D}
def AV.lr(m:List (Nat×Nat)):AV→Option AV
 | .ptr b p=>(lq m b).map fun c=>.ptr c p
 | .ig b p lo len=>(lq m b).map fun c=>.ig c p lo len
 |
  .func fn fs cs=>match fs.lr m,cs.lr m with
  |some f,some c=>if f.atoms&&c.atoms then some (.func fn f c) else none
  |_,_=>none
 |
  .cons a b=>match a.lr m,b.lr m with
  |some x,some y=>some (.cons x y)
  |_,_=>none
 | .val t x=>some (.val t x)
 | .bw t x=>some (.bw t x)
 | .cZ=>some .cZ
 | .gq=>some .gq
 | .j0=>some .j0
 | .gr=>some .gr
 | .ln=>some .ln
 | .nil=>some .nil
 |_=>none
structure J6(m:List (Nat×Nat))(E:Env)(w:World)(E':Env)(w':World):Prop where
 at':∀b c,lq m b=some c→E'.g c=E.g b∧E'.bt c=E.bt b
 k:bp E w E' w'
theorem AV.zn{m:List (Nat×Nat)}{x y:AV}(h:x.lr m=some y):y.isAgg=x.isAgg:=by
 cases x with
 |ptr b p=>simp only[AV.lr,Option.map_eq_some_iff] at h;obtain⟨c,_,rfl⟩:=h;rfl
 |ig b p lo len=>simp only[AV.lr,Option.map_eq_some_iff] at h;obtain⟨c,_,rfl⟩:=h;rfl
 |
  func fn fs cs=>
  simp only[AV.lr] at h
  split at h
  ·split at h
   ·cases h;rfl
   ·cases h
  ·cases h
 |
  cons a b=>
  simp only[AV.lr] at h
  split at h
  ·cases h;rfl
  ·cases h
 |_=>simp[AV.lr] at h<;>subst h<;>rfl
theorem RC.lr{m:List (Nat×Nat)}{E E':Env}{w w':World}(r:J6 m E w E' w'):∀{x y:AV}{vs:List Value},x.lr m=some y→RC E w x vs→RC E' w' y vs:=by
 intro x
 induction x with
 |
  ptr b p=>
  intro y vs h hr
  simp only[AV.lr,Option.map_eq_some_iff] at h
  obtain⟨c,hc,rfl⟩:=h
  obtain⟨e1,e2⟩:=r.at' b c hc
  obtain⟨g,h1,h2,h3⟩:=hr
  exact⟨g,by rw[e1];exact h1,by rw[e2];exact h2,by rw[e2];exact h3⟩
 |
  ig b p lo len=>
  intro y vs h hr
  simp only[AV.lr,Option.map_eq_some_iff] at h
  obtain⟨c,hc,rfl⟩:=h
  obtain⟨e1,e2⟩:=r.at' b c hc
  obtain⟨n,t,h1,h2,h3,a,cap,h4,h5,h6⟩:=hr
  refine⟨n,t,by rw[e2];exact h1,by rw[e2];exact h2,h3,a,cap,h4,h5,h6.imp id ?_⟩
  rintro⟨g,k1,k2⟩
  exact⟨g,by rw[e1];exact k1,by rw[e2];exact k2⟩
 |
  func fn fs cs ih1 ih2=>
  intro y vs h hr
  simp only[AV.lr] at h
  split at h
  ·rename_i f c h1 h2
   split at h
   ·rename_i ha
    cases h
    simp only[Bool.and_eq_true] at ha
    obtain⟨f',c',e,r1,r2,_,_⟩:=hr
    exact⟨f',c',e,ih1 h1 r1,ih2 h2 r2,ha.1,ha.2⟩
   ·cases h
  ·cases h
 |
  cons a b ih1 ih2=>
  intro y vs h hr
  simp only[AV.lr] at h
  split at h
  ·rename_i x y h1 h2
   cases h
   obtain⟨v1,v2,e,r1,r2⟩:=hr
   exact⟨v1,v2,e,ih1 h1 r1,ih2 h2 r2⟩
  ·cases h
 |val t x=>intro y vs h hr;simp only[AV.lr,Option.some.injEq] at h;subst h;exact RC.mono (a:=.val t x) r.k (fun _ hb=>by cases hb) hr
 |bw t x=>intro y vs h hr;simp only[AV.lr,Option.some.injEq] at h;subst h;exact RC.mono (a:=.bw t x) r.k (fun _ hb=>by cases hb) hr
 |cZ=>intro y vs h hr;simp only[AV.lr,Option.some.injEq] at h;subst h;exact hr
 |gq=>intro y vs h hr;simp only[AV.lr,Option.some.injEq] at h;subst h;exact hr
 |j0=>intro y vs h hr;simp only[AV.lr,Option.some.injEq] at h;subst h;exact hr
 |gr=>intro y vs h hr;simp only[AV.lr,Option.some.injEq] at h;subst h;exact hr
 |ln=>intro y vs h hr;simp only[AV.lr,Option.some.injEq] at h;subst h;exact hr
 |nil=>intro y vs h hr;simp only[AV.lr,Option.some.injEq] at h;subst h;exact hr
 |_=>intro y vs h hr;simp[AV.lr] at h
theorem RV.lr{m:List (Nat×Nat)}{E E':Env}{w w':World}(r:J6 m E w E' w'){x y:AV}{v:Value}(h:x.lr m=some y)(hr:RV E w x v):RV E' w' y v:=by
 have hp:x.plain=true:=by cases x<;>simp[AV.lr] at h<;>rfl
 have h0:=RV.lW hp hr
 refine RV.fa ?_
 rcases h0 with⟨h1,cs,e,h2⟩|⟨h1,h2⟩
 ·exact Or.inl ⟨by rw[AV.zn h];exact h1,cs,e,RC.lr r h h2⟩
 ·exact Or.inr ⟨by rw[AV.zn h];exact h1,RC.lr r h h2⟩
def uI(m:List (Nat×Nat)):List AV→List AV
 |[]=>[]
 |x::l=>(match x.lr m with|some y=>y|none=>.bot)::uI m l
theorem zo{m:List (Nat×Nat)}:∀{l:List AV},(uI m l).length=l.length
 |[]=>rfl
 |_::l=>by simp[uI,zo (l:=l)]
theorem zp{m:List (Nat×Nat)}:∀{l:List AV}{i:Nat}{y:AV},(uI m l)[i]? =some y→y= .bot∨∃x,l[i]? =some x∧x.lr m=some y
 |[],i,y,h=>by simp[uI] at h
 |
  x::l,0,y,h=>by
  simp only[uI,List.getElem?_cons_zero,Option.some.injEq] at h
  split at h
  ·rename_i z hz;subst h;exact Or.inr ⟨x,rfl,hz⟩
  ·exact Or.inl h.symm
 |
  x::l,i+1,y,h=>by
  simp only[uI,List.getElem?_cons_succ] at h
  simpa using zp h
def lN:List (Nat×AV)→List AV→List AV
 |[],l=>l
 |(t,x)::r,l=>lN r (l.set t x)
theorem wL{E:Env}{w:World}:∀{ps:List Nat}{args:List AV}{vs:List Value}{tm:List AV}{tmps:Array Value},aQ E w args vs→tmps.size=tm.length→(∀(i:Nat)(x:AV),tm[i]? =some x→∀v,tmps[i]? =some v→RV E w x v)→
 ((ps.zip vs).foldl (fun t(p:Nat×Value)=>t.setIfInBounds p.1 p.2) tmps).size=(lN (ps.zip args) tm).length∧
 (∀(i:Nat)(x:AV),(lN (ps.zip args) tm)[i]? =some x→∀v,((ps.zip vs).foldl (fun t(p:Nat×Value)=>t.setIfInBounds p.1 p.2) tmps)[i]? =some v→RV E w x v)
 |[],args,vs,tm,tmps,_,hs,ht=>by simp[lN];exact⟨hs,ht⟩
 |p::ps,[],[],tm,tmps,_,hs,ht=>by simp[lN];exact⟨hs,ht⟩
 |p::ps,[],_::_,tm,tmps,h,hs,ht=>h.elim
 |p::ps,_::_,[],tm,tmps,h,hs,ht=>h.elim
 |
  p::ps,a::args,v::vs,tm,tmps,⟨h1,h2⟩,hs,ht=>by
  simp only[List.zip_cons_cons,List.foldl_cons,lN]
  refine wL h2 (by simp[hs]) ?_
  intro i x hx u hu
  rw[List.getElem?_set] at hx
  rw[Array.getElem?_setIfInBounds] at hu
  split at hx
  ·rename_i e
   rw[if_pos e] at hu
   split at hx
   ·cases hx
    split at hu
    ·cases hu;exact h1
    ·cases hu
   ·cases hx
  ·rename_i e
   rw[if_neg e] at hu
   exact ht i x hx u hu
def mn(i:Nat):List (Nat×Ty)→Bool
 |[]=>false
 |(j,_)::l=>Nat.beq i j||mn i l
def rO(gs:Nat→Nat)(ti:List (Nat×Ty))(i:Nat):ak→ak
 | .var t v=>if mn i ti then .tv (gs i) t v else .var t v
 |k=>k
def tie(gs:Nat→Nat)(ti:List (Nat×Ty)):Nat→List (Option ak)→List (Option ak)
 |_,[]=>[]
 |s,none::l=>none::tie gs ti (s+1) l
 |s,some k::l=>some (rO gs ti s k)::tie gs ti (s+1) l
theorem pz{gs:Nat→Nat}{ti:List (Nat×Ty)}:∀{l:List (Option ak)}{s:Nat},(tie gs ti s l).length=l.length
 |[],_=>rfl
 |none::l,s=>by simp[tie,pz (l:=l)]
 |some _::l,s=>by simp[tie,pz (l:=l)]
theorem iD{gs:Nat→Nat}{ti:List (Nat×Ty)}:∀{l:List (Option ak)}{s i:Nat}{k:ak},(tie gs ti s l)[i]? =some (some k)→∃k0,l[i]? =some (some k0)∧k=rO gs ti (s+i) k0
 |[],s,i,k,h=>by simp[tie] at h
 |none::l,s,0,k,h=>by simp[tie] at h
 |some x::l,s,0,k,h=>by simp[tie] at h;exact⟨x,rfl,by rw[←h];rfl⟩
 |
  none::l,s,i+1,k,h=>by
  obtain⟨k0,h1,h2⟩:=iD (l:=l) (by simpa[tie] using h)
  exact⟨k0,by simpa using h1,by rw[h2];congr 1;omega⟩
 |
  some x::l,s,i+1,k,h=>by
  obtain⟨k0,h1,h2⟩:=iD (l:=l) (by simpa[tie] using h)
  exact⟨k0,by simpa using h1,by rw[h2];congr 1;omega⟩
theorem xW{gs:Nat→Nat}{ti:List (Nat×Ty)}:∀{l:List (Option ak)}{s i:Nat}{k:ak},l[i]? =some (some k)→(tie gs ti s l)[i]? =some (some (rO gs ti (s+i) k))
 |[],s,i,k,h=>by simp at h
 |none::l,s,0,k,h=>by simp at h
 |some x::l,s,0,k,h=>by simp at h;subst h;rfl
 |
  none::l,s,i+1,k,h=>by
  have:=xW (gs:=gs) (ti:=ti) (s:=s+1) (l:=l) (i:=i) (k:=k) (by simpa using h)
  rw[show s+(i+1)=s+1+i from by omega];simpa[tie] using this
 |
  some x::l,s,i+1,k,h=>by
  have:=xW (gs:=gs) (ti:=ti) (s:=s+1) (l:=l) (i:=i) (k:=k) (by simpa using h)
  rw[show s+(i+1)=s+1+i from by omega];simpa[tie] using this
theorem RB.Iy{gs:Nat→Nat}{ti:List (Nat×Ty)}{E:Env}{w:World}{i:Nat}{k:ak}(h:RB E w i (rO gs ti i k)):RB E w i k:=by
 cases k with
 |
  var t v=>
  simp only[rO] at h
  split at h
  ·obtain⟨h0,h1,h2,c,e,h4,h5⟩:=h;exact⟨h1,h2,_,c,e,h0,h4,h5⟩
  ·exact h
 |_=>exact h
theorem RB.tie{gs:Nat→Nat}{ti:List (Nat×Ty)}{E:Env}{w:World}{i:Nat}{k:ak}(h:RB E w i k)(hg:mn i ti=true→E.g i=some (gs i)):RB E w i (rO gs ti i k):=by
 cases k with
 |
  var t v=>
  simp only[rO]
  split
  ·rename_i hh
   obtain⟨h1,h2,g,c,e,h3,h4,h5⟩:=h
   have:=hg hh
   rw[this] at h3;cases h3
   exact⟨this,h1,h2,c,e,h4,h5⟩
  ·exact h
 |_=>exact h
def nq(hp:List (Option ak)):List (Nat×Ty)→Bool
 |[]=>true
 |(i,t)::l=>(match hp[i]? with|some (some (.var t' _))=>Ty.same t' t|_=>false)&&Nat.blt i 16&&nq hp l
theorem rl{hp:List (Option ak)}{i:Nat}:∀{ti:List (Nat×Ty)},nq hp ti=true→mn i ti=true→i<16∧∃t v,hp[i]? =some (some (.var t v))∧(i,t)∈ti
 |[],_,h=>by cases h
 |
  (j,t)::l,h,hi=>by
  simp only[nq,Bool.and_eq_true] at h
  simp only[mn,Bool.or_eq_true] at hi
  rcases hi with hi|hi
  ·have e:=Nat.eq_of_beq_eq_true hi;subst e
   refine⟨by have:=h.1.2;simp[Nat.blt] at this;omega,?_⟩
   have h1:=h.1.1
   split at h1
   ·rename_i t' v hv
    have e:=Ty.ai h1;subst e
    exact⟨_,v,hv,List.mem_cons_self ..⟩
   ·cases h1
  ·obtain⟨h1,t',v,h2,h3⟩:=rl h.2 hi
   exact⟨h1,t',v,h2,List.mem_cons_of_mem _ h3⟩
def GG(P:Program)(gl:Ctx)(y:Code)(Q:iM→St→Prop):iM→St→Prop
 | .normal,σ=>aa P gl y σ Q
 |_,_=>False
def rP(gl:Ctx)(jl:List Code)(j:Nat)(H:List (Option ak)):iM→St→Prop
 | .normal,σ=>j=0∧∃σ' m,Wk gl σ σ'∧prune σ'.hp m=H
 | .ret,σ=>(j≠0∧jmp jl j=some .ret)∧∃σ' m,Wk gl σ σ'∧prune σ'.hp m=H
 | .exit i,σ=>(j≠0∧jmp jl j=some (.exit i))∧∃σ' m,Wk gl σ σ'∧prune σ'.hp m=H
 |_,_=>False
theorem rP.n{gl:Ctx}{jl:List Code}{σ:St}(l:List Gh)(m:List Bool){H:List (Option ak)}(h:(xT l σ).map (fun s=>prune s.hp m)=some H):rP gl jl 0 H .normal σ:=by
 simp only[Option.map_eq_some_iff] at h
 obtain⟨σ',h1,h2⟩:=h
 exact⟨rfl,σ',m,fJ h1,h2⟩
theorem rP.r{gl:Ctx}{jl:List Code}{j:Nat}{σ:St}(l:List Gh)(m:List Bool){H:List (Option ak)}(hj:j≠0∧jmp jl j=some .ret)(h:(xT l σ).map (fun s=>prune s.hp m)=some H):rP gl jl j H .ret σ:=by
 simp only[Option.map_eq_some_iff] at h
 obtain⟨σ',h1,h2⟩:=h
 exact⟨hj,σ',m,fJ h1,h2⟩
theorem HW.ctx{C C':Ctx}{E:Env}{w:World}{hp:List (Option ak)}(h:HW C E w hp)(hg:C'.gl=C.gl)(hb:C'.B E.S w):HW C' E w hp:=
 ⟨h.bL,h.sep,h.dm,h.slt,⟨by rw[hg];exact h.gl.1,hb⟩⟩
theorem Ext.add{O O':Nat→Prop}{E E':Env}{w w':World}(h:Ext O E w O' E' w')(l:Nat):Ext (fun g=>O g∨g=l) E w (fun g=>O' g∨g=l) E' w' where
 os:=h.os
 tape:=h.tape
 output:=h.output
 size:=h.size
 kept:=fun g hg ho=>h.kept g hg (fun x=>ho (Or.inl x))
 sle:=h.sle
 kg:=fun g hg=>(h.kg g hg).imp id (fun x=>x.imp Or.inl id)
 own:=fun g hg=>by
  rcases hg with hg|hg
  ·exact(h.own g hg).imp Or.inl id
  ·exact Or.inl (Or.inr hg)
 zR:=h.zR
theorem Fy.ED{P:Program}{gl:Ctx}{σ:St}{E:Env}{a:Act}{w:World}(hg:cu gl σ E a w){B:(Nat→Prop)→World→Prop}{hB:∀{S S':Nat→Prop}{w w':World},(∀b,S b→w'.heap[b]? =w.heap[b]?)→(∀b,S b→S' b)→B S w→B S' w'}
 (hBu:∀S' w',B S' w'→(∀b,E.S b→S' b)∧(∀b,E.S b→w'.heap[b]? =w.heap[b]?)) {l D k0:Nat} {fn:FuncId} {ps:Array Tmp} {assign body:Code} {gs:Nat→Nat} {ti:List (Nat×Ty)} {m:List (Nat×Nat)} {jl:List Code}
 (hti:∀b i,lq m b=some i→mn i ti=true∧E.g b=some (gs i)∧∀t,(i,t)∈ti→E.bt b=t)
 {args:List AV} {H H':List (Option ak)} {j:Nat} (hps:ps.size=args.length) (hk:Nat.blt k0 16=true) (hkt:mn k0 ti=false) (h0:H[k0]? =some none) (h0':H'[k0]? =some none) (ht:nq H ti=true) (_ht':nq H' ti=true)
 (hrun:aa P (gl.As l) assign ⟨lN (ps.toList.zip args) (uI m σ.tm),H,[]⟩ (GG P (gl.As l) body (rP (gl.As l) jl j H'))):
 Fy P (gl.wB B hB) l args ((tie gs ti 0 H).set k0 (some (.lp l (dO fn a.tmps ps assign body D jl 0)))) (.ret (.val .bool (Nat.beq j 0))) ((tie gs ti 0 H').set k0 (some (.lp l (dO fn a.tmps ps assign body D jl j)))):=by
 intro E1 w1 vs hv hW
 have hk16:k0<16:=by simp[Nat.blt] at hk;omega
 have lenH:k0<(tie gs ti 0 H).length:=by rw[pz];exact(List.getElem?_eq_some_iff.1 h0).1
 have lenH':k0<(tie gs ti 0 H').length:=by rw[pz];exact(List.getElem?_eq_some_iff.1 h0').1
 have hlp:((tie gs ti 0 H).set k0 (some (.lp l (dO fn a.tmps ps assign body D jl 0))))[k0]? =some (some (.lp l (dO fn a.tmps ps assign body D jl 0))):=by
  rw[List.getElem?_set,if_pos rfl,if_pos lenH]
 obtain⟨hgl,hrec⟩:=hW.bL k0 _ hlp
 have at1:∀(i:Nat)(k:ak),H[i]? =some (some k)→i≠k0∧((tie gs ti 0 H).set k0 (some (.lp l (dO fn a.tmps ps assign body D jl 0))))[i]? =some (some (rO gs ti i k)):=by
  intro i k hi
  have hne:i≠k0:=fun e=>by subst e;rw[h0] at hi;cases hi
  refine⟨hne,?_⟩
  rw[List.getElem?_set,if_neg (fun e=>hne e.symm)]
  have:=xW (gs:=gs) (ti:=ti) (s:=0) hi
  rwa [Nat.zero_add] at this
 have hSl:¬E1.S l:=hW.dm k0 _ l hlp hgl
 have hW1:HW (gl.As l) E1 w1 H:=by
  refine⟨?_,?_,?_,hW.slt,⟨hW.gl.1,trivial⟩⟩
  ·intro i k hi;exact(hW.bL i _ (at1 i k hi).2).Iy
  ·intro i i' k k' g hi hi' g1 g2;exact hW.sep i i' _ _ g (at1 i k hi).2 (at1 i' k' hi').2 g1 g2
  ·intro i k g hi g1;exact hW.dm i _ g (at1 i k hi).2 g1
 have hOl:¬Own H E1 l:=by
  rintro⟨i,k,hi,hgi⟩
  exact(at1 i k hi).1 (hW.sep i k0 _ _ l (at1 i k hi).2 hlp hgi hgl)
 have hgi:∀i,mn i ti=true→i<16∧E1.g i=some (gs i):=by
  intro i hi
  obtain⟨h1,t,v,h2,_⟩:=rl ht hi
  have:=hW.bL i _ (at1 i _ h2).2
  simp only[rO,hi,if_true] at this
  exact⟨h1,this.1⟩
 obtain⟨b1,b2⟩:=hBu E1.S w1 hW.gl.2
 have hrnp:J6 m E w E1 w1:=by
  refine⟨?_,⟨b2,b1⟩⟩
  intro b i hbi
  obtain⟨c1,c2,c3⟩:=hti b i hbi
  obtain⟨_,t,v,h2,h3⟩:=rl ht c1
  have:=hW1.bL i _ h2
  exact⟨by rw[(hgi i c1).2,c2],by rw[this.1,c3 t h3]⟩
 obtain⟨hl,_⟩:=hv.get
 have hframe:cu (gl.As l) ⟨lN (ps.toList.zip args) (uI m σ.tm),H,[]⟩ E1 {tmps:=(ps.zip vs.toArray).foldl (fun t (p,v)=>t.setIfInBounds p v) a.tmps,defers:=[]} w1:=by
  have hzip:(ps.zip vs.toArray).foldl (fun t (p,v)=>t.setIfInBounds p v) a.tmps=(ps.toList.zip vs).foldl (fun t(p:Nat×Value)=>t.setIfInBounds p.1 p.2) a.tmps:=by
   rw[←Array.foldl_toList]
   congr 1
   simp
  have:=wL (ps:=ps.toList) (tm:=uI m σ.tm) (tmps:=a.tmps) hv (by rw[zo];exact hg.len) (fun i x hx v hv'=>by
   rcases zp hx with e|⟨y,h1,h2⟩
   ·subst e;trivial
   ·exact RV.lr hrnp h2 (hg.tm i y h1 v hv'))
  rw[hzip]
  exact⟨this.1,this.2,hW1,trivial⟩
 refine⟨fn,_,assign,body,run_yield hrec (by simp[dO,←hl,hps]),roundIn_of_wpIn (F:=Fence.wide) trivial ?_⟩
 refine wpIn_mono (hrun E1 _ w1 hframe) ?_
 rintro ex a2 w2 ⟨x,σ2,E2,q1,q2,q3,q4⟩
 cases ex with
 |
  normal=>
  cases x with
  |
   normal=>
   simp only[Exit.then]
   have hlt:l<w1.heap.size:=(Array.getElem?_eq_some_iff.1 hrec).1
   have hrec2:w2.heap[l]? =some (.loop (dO fn a.tmps ps assign body D jl 0)):=by rw[q4.kept l hlt hOl];exact hrec
   have notO:∀{hp:List (Option ak)}{E':Env}{w':World},Ext (Own H E1) E1 w1 (Own hp E') E' w'→¬Own hp E' l∧¬E'.S l:=by
    intro hp E' w' hx
    constructor
    ·intro ho;rcases hx.own l ho with h|h
     ·exact hOl h
     ·omega
    ·intro hs;rcases hx.kg l hs with h|h|h
     ·exact hSl h
     ·exact hOl h
     ·omega
   obtain⟨n1,n2⟩:=notO q4
   refine⟨w2.putObj l (.loop {dO fn a.tmps ps assign body D jl 0 with state:=.busy}),run_beginRound hrec2 rfl,?_⟩
   have g2:=q3.frame (o:=.loop {dO fn a.tmps ps assign body D jl 0 with state:=.busy}) n2 n1
   refine wpIn_mono (q2 E2 a2 _ g2) ?_
   rintro ex a3 w3 ⟨x3,σ3,E3,r1,r2,r3,r4⟩
   have lt2:l<w2.heap.size:=(Array.getElem?_eq_some_iff.1 hrec2).1
   have hbusy:w3.heap[l]? =some (.loop {dO fn a.tmps ps assign body D jl 0 with state:=.busy}):=by
    rw[r4.kept l (by simpa using lt2) n1]
    exact World.putObj_heap_same lt2
   have fin:∀(jump:Option Code),jump=jmp jl j→(jump.isNone=Nat.beq j 0)→(∃σ' mm,Wk (gl.As l) σ3 σ'∧prune σ'.hp mm=H')→
    ∃v w',(Instr.endRound l jump).run P w3= .ok v w'∧∃E',Bi E' w' (.ret (.val .bool (Nat.beq j 0))) (.returned v)∧HW (gl.wB B hB) E' w' ((tie gs ti 0 H').set k0 (some (.lp l (dO fn a.tmps ps assign body D jl j))))∧
     Ext (Own ((tie gs ti 0 H).set k0 (some (.lp l (dO fn a.tmps ps assign body D jl 0)))) E1) E1 w1 (Own ((tie gs ti 0 H').set k0 (some (.lp l (dO fn a.tmps ps assign body D jl j)))) E') E' w':=by
    rintro jump hj hjn ⟨σ4,mm,hwk,hpr⟩
    obtain⟨E4,g4,x4⟩:=hwk E3 a3 w3 r3
    have hlt3:l<w3.heap.size:=(Array.getElem?_eq_some_iff.1 hbusy).1
    have hnew:({({dO fn a.tmps ps assign body D jl 0 with state:=.busy}:Loop) with state:=if jump.isNone then .ready else .done,pending:=jump}:Loop)=dO fn a.tmps ps assign body D jl j:=by
     subst hj
     simp only[dO,hjn]
    have hend:=run_endRound (P:=P) jump hbusy
    rw[hnew,hjn] at hend
    have X:=((((q4.add l).trans (Ext.put (o:=.loop {dO fn a.tmps ps assign body D jl 0 with state:=.busy}) (Or.inr rfl))).trans (r4.add l)).trans (x4.add l)).trans (Ext.put (o:=.loop (dO fn a.tmps ps assign body D jl j)) (Or.inr rfl))
    have w4:HW (gl.As l) E4 w3 H':=by rw[←hpr];exact g4.hw.prune mm
    have sub4:∀g,Own H' E4 g→Own σ4.hp E4 g:=by
     rintro g ⟨b,k,hb,hgb⟩
     rw[←hpr] at hb
     exact⟨b,k,gH hb,hgb⟩
    have n4:¬Own H' E4 l∧¬E4.S l:=by
     have hx:Ext (Own H E1) E1 w1 (Own σ2.hp E2) E2 w2:=q4
     obtain⟨m1,m2⟩:=notO hx
     have m3:¬Own σ3.hp E3 l∧¬E3.S l:=by
      constructor
      ·intro ho;rcases r4.own l ho with h|h
       ·exact m1 h
       ·simp at h;omega
      ·intro hs;rcases r4.kg l hs with h|h|h
       ·exact m2 h
       ·exact m1 h
       ·simp at h;omega
     constructor
     ·intro ho;rcases x4.own l (sub4 l ho) with h|h
      ·exact m3.1 h
      ·omega
     ·intro hs;rcases x4.kg l hs with h|h|h
      ·exact m3.2 h
      ·exact m3.1 h
      ·omega
    obtain⟨kp,wf⟩:=w4.frame (o:=.loop (dO fn a.tmps ps assign body D jl j)) n4.2 n4.1
    have gk0:E4.g k0=some l:=by rw[(X.zR k0 hk16).1];exact hgl
    have at4:∀(i:Nat)(k:ak),((tie gs ti 0 H').set k0 (some (.lp l (dO fn a.tmps ps assign body D jl j))))[i]? =some (some k)→(i=k0∧k= .lp l (dO fn a.tmps ps assign body D jl j))∨(i≠k0∧∃k',H'[i]? =some (some k')∧k=rO gs ti i k'):=by
     intro i k hi
     rw[List.getElem?_set] at hi
     split at hi
     ·rename_i e
      first
       |(cases hi;exact Or.inl ⟨e.symm,rfl⟩)
       |(split at hi<;>cases hi;exact Or.inl ⟨e.symm,rfl⟩)
     ·rename_i e
      obtain⟨k',h1,h2⟩:=iD hi
      rw[Nat.zero_add] at h2
      exact Or.inr ⟨fun e'=>e e'.symm,k',h1,h2⟩
    have ne4:∀(i:Nat)(k:ak),H'[i]? =some (some k)→E4.g i≠some l:=fun i k hi e=>n4.1 ⟨i,k,hi,e⟩
    refine⟨_,_,hend,E4,RV.bool,⟨?_,?_,?_,wf.slt,⟨wf.gl.1,?_⟩⟩,?_⟩
    ·intro i k hi
     rcases at4 i k hi with⟨e1,e2⟩|⟨hne,k',h1,h2⟩
     ·subst e1;subst e2
      exact⟨gk0,World.putObj_heap_same hlt3⟩
     ·subst h2
      exact(wf.bL i k' h1).tie (fun hh=>by obtain⟨c1,c2⟩:=hgi i hh;rw[(X.zR i c1).1];exact c2)
    ·intro i i' k k' g hi hi' g1 g2
     rcases at4 i k hi with⟨e1,e2⟩|⟨hne,k2,h1,h2⟩
     ·rcases at4 i' k' hi' with⟨e1',e2'⟩|⟨hne',k2',h1',h2'⟩
      ·rw[e1,e1']
      ·subst e1;rw[gk0] at g1;cases g1;exact absurd g2 (ne4 i' k2' h1')
     ·rcases at4 i' k' hi' with⟨e1',e2'⟩|⟨hne',k2',h1',h2'⟩
      ·subst e1';rw[gk0] at g2;cases g2;exact absurd g1 (ne4 i k2 h1)
      ·exact wf.sep i i' k2 k2' g h1 h1' g1 g2
    ·intro i k g hi g1
     rcases at4 i k hi with⟨e1,e2⟩|⟨hne,k2,h1,h2⟩
     ·subst e1;rw[gk0] at g1;cases g1;exact n4.2
     ·exact wf.dm i k2 g h1 g1
    ·refine hB ?_ X.sle hW.gl.2
     intro b hb
     refine X.kept b (hW.slt b hb) ?_
     rintro(⟨i,k,hi,hgi'⟩|e)
     ·exact hW.dm i _ b (at1 i k hi).2 hgi' hb
     ·subst e;exact hSl hb
    ·refine⟨X.os,X.tape,X.output,X.size,?_,X.sle,?_,?_,X.zR⟩
     ·intro g hgl' ho
      refine X.kept g hgl' ?_
      rintro(⟨i,k,hi,hgi'⟩|e)
      ·exact ho ⟨i,_,(at1 i k hi).2,hgi'⟩
      ·subst e;exact ho ⟨k0,_,hlp,hgl⟩
     ·intro g hs
      rcases X.kg g hs with h|h|h
      ·exact Or.inl h
      ·rcases h with⟨i,k,hi,hgi'⟩|e
       ·exact Or.inr (Or.inl ⟨i,_,(at1 i k hi).2,hgi'⟩)
       ·subst e;exact Or.inr (Or.inl ⟨k0,_,hlp,hgl⟩)
      ·exact Or.inr (Or.inr h)
     ·rintro g ⟨i,k,hi,hgi'⟩
      have:Own σ4.hp E4 g∨g=l:=by
       rcases at4 i k hi with⟨e1,e2⟩|⟨hne,k2,h1,h2⟩
       ·subst e1;rw[gk0] at hgi';cases hgi';exact Or.inr rfl
       ·exact Or.inl (sub4 g ⟨i,k2,h1,hgi'⟩)
      rcases X.own g this with h|h
      ·rcases h with⟨i,k,hi,hgi'⟩|e
       ·exact Or.inl ⟨i,_,(at1 i k hi).2,hgi'⟩
       ·subst e;exact Or.inl ⟨k0,_,hlp,hgl⟩
      ·exact Or.inr h
   cases ex with
   |
    normal=>
    cases x3 with
    |normal=>obtain⟨e,hh⟩:=r2;subst e;exact fin none rfl rfl hh
    |_=>exact r1.elim
   |
    ret=>
    cases x3 with
    |
     ret=>
     obtain⟨⟨e,e2⟩,hh⟩:=r2
     exact fin (some .ret) e2.symm (by cases j with|zero=>exact absurd rfl e|succ j=>rfl) hh
    |_=>exact r1.elim
   |
    exit i=>
    cases x3 with
    |
     exit i'=>
     have e0:i'=i:=r1
     subst e0
     obtain⟨⟨e,e2⟩,hh⟩:=r2
     exact fin (some (.exit i')) e2.symm (by cases j with|zero=>exact absurd rfl e|succ j=>rfl) hh
    |_=>exact r1.elim
   |panic chain=>cases x3<;>first|exact r1.elim|exact r2.elim
   |goto t=>cases x3<;>exact r1.elim
   |outgrown=>cases x3<;>exact r1.elim
  |_=>exact q1.elim
 |ret=>cases x<;>first|exact q1.elim|exact q2.elim
 |exit i=>cases x<;>first|exact q1.elim|exact q2.elim
 |panic chain=>cases x<;>first|exact q1.elim|exact q2.elim
 |goto t=>cases x<;>exact q1.elim
 |outgrown=>cases x<;>exact q1.elim
end Go.Abs
namespace Go.Abs
def uy(P:Program)(gl:Ctx)(tm:List AV)(ps:Array Tmp)(assign body:Code)(k0:Nat)(gs:Nat→Nat)(ti:List (Nat×Ty))(m:List (Nat×Nat))(jl:List Code)(C:Ctx)(l:Nat)(rec:Nat→Loop):Prop:=
 ∀(args:List AV)(H H':List (Option ak))(j:Nat),ps.size=args.length→H[k0]? =some none→H'[k0]? =some none→nq H ti=true→nq H' ti=true→
  aa P (gl.As l) assign ⟨lN (ps.toList.zip args) (uI m tm),H,[]⟩ (GG P (gl.As l) body (rP (gl.As l) jl j H'))→
  Fy P C l args ((tie gs ti 0 H).set k0 (some (.lp l (rec 0)))) (.ret (.val .bool (Nat.beq j 0))) ((tie gs ti 0 H').set k0 (some (.lp l (rec j))))
def J7(gs:Nat→Nat)(m:List (Nat×Nat))(b:Nat):Nat:=match lq m b with|some i=>gs i|none=>0
def Iz:List (Nat×Nat)→List (Nat×Ty)
 |[]=>[]
 |(b,_)::l=>(b,.unit)::Iz l
theorem wM{b:Nat}:∀{m:List (Nat×Nat)},mn b (Iz m)=true→∃i,lq m b=some i
 |[],h=>by cases h
 |
  (c,i)::l,h=>by
  simp only[Iz,mn,Bool.or_eq_true] at h
  unfold lq
  split
  ·exact⟨i,rfl⟩
  ·rename_i hn
   rcases h with h|h
   ·exact absurd (by rw[Nat.eq_of_beq_eq_true h];exact Nat.beq_refl c) hn
   ·exact wM h
def IT(hp:List (Option ak))(ti:List (Nat×Ty)):List (Nat×Nat)→Bool
 |[]=>true
 |(b,i)::l=>(match hp[b]? with|some (some (.var t _))=>mn i ti&&(ti.all fun x=> !Nat.beq x.1 i||Ty.same x.2 t)|_=>false)&&IT hp ti l
theorem Cp{hp:List (Option ak)}{ti:List (Nat×Ty)}:∀{m:List (Nat×Nat)},IT hp ti m=true→∀b i,(b,i)∈m→mn i ti=true∧∃t v,hp[b]? =some (some (.var t v))∧∀t',(i,t')∈ti→t'=t
 |[],_,b,i,h=>by cases h
 |
  (c,k)::l,hm,b,i,h=>by
  simp only[IT,Bool.and_eq_true] at hm
  rcases List.mem_cons.1 h with e|h
  ·cases e
   have h1:=hm.1
   split at h1
   ·rename_i t v hv
    simp only[Bool.and_eq_true,List.all_eq_true] at h1
    refine⟨h1.1,t,v,hv,fun t' ht'=>?_⟩
    have:=h1.2 _ ht'
    simp at this
    exact Ty.ai this
   ·cases h1
  ·exact Cp hm.2 b i h
def Cq:List (Option ak)→List (Option ak)
 |[]=>[]
 |some (.tv _ t v)::l=>some (.var t v)::Cq l
 |x::l=>x::Cq l
theorem jR:∀{l:List (Option ak)}{i:Nat}{k:ak},(Cq l)[i]? =some (some k)→∃k',l[i]? =some (some k')∧(k'=k∨∃g t v,k'= .tv g t v∧k= .var t v)
 |[],i,k,h=>by simp[Cq] at h
 |
  x::l,0,k,h=>by
  unfold Cq at h
  split at h
  ·cases(by assumption:_=_)
  ·rename_i heq;cases heq;simp at h;exact⟨_,rfl,Or.inr ⟨_,_,_,rfl,h.symm⟩⟩
  ·rename_i heq;cases heq;simp at h;exact⟨k,by simp[h],Or.inl rfl⟩
 |
  x::l,i+1,k,h=>by
  unfold Cq at h
  split at h
  ·cases(by assumption:_=_)
  ·rename_i heq;cases heq;simpa using jR (by simpa using h)
  ·rename_i heq;cases heq;simpa using jR (by simpa using h)
theorem cu.Cq{gl:Ctx}{σ:St}{E:Env}{a:Act}{w:World}(h:cu gl σ E a w):cu gl {σ with hp:=Abs.Cq σ.hp} E a w∧Ext (Own σ.hp E) E w (Own (Abs.Cq σ.hp) E) E w:=by
 refine⟨⟨h.len,h.tm,⟨?_,?_,?_,h.hw.slt,h.hw.gl⟩,h.df⟩,{Ext.refl (Own σ.hp E) E w with own:=?_ }⟩
 ·intro b k hb
  obtain⟨k',h1,h2⟩:=jR hb
  have:=h.hw.bL b k' h1
  rcases h2 with e|⟨g,t,v,e1,e2⟩
  ·rw[←e];exact this
  ·subst e1;subst e2
   obtain⟨q0,q1,q2,c,e,q4,q5⟩:=this
   exact⟨q1,q2,g,c,e,q0,q4,q5⟩
 ·intro b b' k k' g hb hb' g1 g2
  obtain⟨k1,h1,_⟩:=jR hb
  obtain⟨k2,h2,_⟩:=jR hb'
  exact h.hw.sep b b' k1 k2 g h1 h2 g1 g2
 ·intro b k g hb g1
  obtain⟨k1,h1,_⟩:=jR hb
  exact h.hw.dm b k1 g h1 g1
 ·rintro g ⟨b,k,hb,g1⟩
  obtain⟨k1,h1,_⟩:=jR hb
  exact Or.inl ⟨b,k1,h1,g1⟩
theorem cu.tie{gl:Ctx}{σ:St}{E:Env}{a:Act}{w:World}(h:cu gl σ E a w){gs:Nat→Nat}{ti:List (Nat×Ty)}(hg:∀b,mn b ti=true→E.g b=some (gs b)):cu gl {σ with hp:=Abs.tie gs ti 0 σ.hp} E a w∧Ext (Own σ.hp E) E w (Own (Abs.tie gs ti 0 σ.hp) E) E w:=by
 refine⟨⟨h.len,h.tm,⟨?_,?_,?_,h.hw.slt,h.hw.gl⟩,h.df⟩,{Ext.refl (Own σ.hp E) E w with own:=?_ }⟩
 ·intro b k hb
  obtain⟨k',h1,h2⟩:=iD hb
  rw[Nat.zero_add] at h2
  subst h2
  exact(h.hw.bL b k' h1).tie (hg b)
 ·intro b b' k k' g hb hb' g1 g2
  obtain⟨k1,h1,_⟩:=iD hb
  obtain⟨k2,h2,_⟩:=iD hb'
  exact h.hw.sep b b' k1 k2 g h1 h2 g1 g2
 ·intro b k g hb g1
  obtain⟨k1,h1,_⟩:=iD hb
  exact h.hw.dm b k1 g h1 g1
 ·rintro g ⟨b,k,hb,g1⟩
  obtain⟨k1,h1,_⟩:=iD hb
  exact Or.inl ⟨b,k1,h1,g1⟩
theorem xX{σ:St}{d e:Nat}{k:ak}(hk:k.ids= [])(h:σ.fresh d)(hne:d≠e):({σ with hp:=σ.hp.set e (some k)}:St).fresh d:=by
 have h1:=kU.1 h.1
 refine⟨kU.2 ⟨h1.1,h1.2.1,?_⟩,?_,h.2.2⟩
 ·intro i k' hi
  rw[List.getElem?_set] at hi
  split at hi
  ·split at hi
   ·cases hi;rw[hk];simp
   ·cases hi
  ·exact h1.2.2 i k' hi
 ·intro k' hi
  rw[List.getElem?_set,if_neg (fun x=>hne x.symm)] at hi
  exact h.2.1 k' hi
def wN(gs:Nat→Nat)(m:List (Nat×Nat))(dI lI l:Nat)(r:Loop)(hp:List (Option ak)):List (Option ak):=tie (J7 gs m) (Iz m) 0 ((hp.set dI (some .oR)).set lI (some (.lp l r)))
theorem aa.rangeFunc{P:Program}{gl:Ctx}{σ:St}{Q:iM→St→Prop}{g:Operand}{ps:Array Tmp}{assign body:Code}(hro:gl.ro=none){gf:FuncId}{cs:AV}(hg:bP gl σ.tm g= .func (.func gf) .nil cs)
 (dI lI k0:Nat) (hd:σ.jv dI=true) (hl:σ.jv lI=true) (hne:Nat.beq dI lI=false) (hlen:Nat.blt lI σ.hp.length=true) (hk:Nat.blt k0 16=true)
 (ti:List (Nat×Ty)) (m:List (Nat×Nat)) (hkt:mn k0 ti=false) (hm:IT σ.hp ti m=true) (hmn:kE (m.map (·.2))=true) (jl:List Code) (j:Nat)
 (cr:(Nat→Nat)→Nat→(Nat→Loop)→CR) (L:Nat→List AV) (ins:(Nat→Nat)→Nat→(Nat→Loop)→List (Nat×Option ak)) (hpF:List (Option ak))
 (hr:∀gs l rec,(cr gs l rec).r= .c8 .nil) (hL:∀gs l(rec:Nat→Loop),qJ (j6 (cr gs l rec).ps) (rj (wN gs m dI lI l (rec 0) σ.hp)) (((.func (.yield l) .nil .nil,Ty.unit))::cs.toList.map (fun x=>(x,Ty.unit)))=some (L l,[]))
 (hins:∀gs l(rec:Nat→Loop),ma (j6 (cr gs l rec).ps) (rj (wN gs m dI lI l (rec 0) σ.hp)) (cr gs l rec).ps=some (ins gs l rec)) (hok:∀gs l rec,Am (cr gs l rec) []=true) (hns:∀gs l(rec:Nat→Loop),((cr gs l rec).ns.map (·.2)).all (fun b=>({σ with hp:=wN gs m dI lI l (rec 0) σ.hp,df:=.mp dI::σ.df}:St).jv b)=true)
 (hcs:cs.atoms=true)
 (hF:∀gs l(rec:Nat→Loop),(aj (wN gs m dI lI l (rec 0) σ.hp) (og ((cr gs l rec).ps++(cr gs l rec).ns) (cr gs l rec).out ((cr gs l rec).ps++(cr gs l rec).ns)))[lI]? =some (some (.lp l (rec j)))∧Cq ((aj (wN gs m dI lI l (rec 0) σ.hp) (og ((cr gs l rec).ps++(cr gs l rec).ns) (cr gs l rec).out ((cr gs l rec).ps++(cr gs l rec).ns))).set lI none)=hpF)
 (hit:∀B hB l gs rec,uy P gl σ.tm ps assign body k0 gs ti m jl (gl.wB B hB) l rec→Fc P (gl.wB B hB) gf (L l) (aj (List.replicate (cr gs l rec).m none) (ins gs l rec)) (.ret (.c8 .nil)) (aq (cr gs l rec).m (cr gs l rec).out))
 (hq:match jmp jl j with|none=>Q .normal ⟨σ.tm,hpF,.mp dI::σ.df⟩|some c=>aa P gl c ⟨σ.tm,hpF,.mp dI::σ.df⟩ Q):aa P gl (.rangeFunc g ps assign body) σ Q:=by
 intro E a w hG
 refine wpIn_rangeFunc ?_
 intro fn _
 have hfd:=St.gQ hd
 have hfl:=St.gQ hl
 have hnd:lI≠dI:=fun e=>by subst e;simp at hne
 obtain⟨rec,hrec⟩:∃rec:Nat→Loop,rec=dO fn a.tmps ps assign body w.heap.size jl:=⟨_,rfl⟩
 have hrec0:rec 0={state:=.ready,pending:=none,fn:=fn,tmps:=a.tmps,params:=ps,assign:=assign,body:=body,defers:=w.heap.size}:=by rw[hrec];rfl
 obtain⟨g1,x1⟩:=hG.fresh (w':=w.alloc (.deferred (some []))) hfd (g:=some w.heap.size) (sv:=undef) (t:=.unit) (k:=.oR) rfl (Tp.r rfl rfl) rfl (by simp) (fun i hi=>heap_alloc_old w _ i hi) (fun i hi=>by cases hi;exact Nat.le_refl _)
  ⟨w.heap.size,by simp[Env.at],heap_alloc_new w _⟩
 have hs1:(w.alloc (.deferred (some []))).heap.size=w.heap.size+1:=by simp
 obtain⟨g2,x2⟩:=g1.fresh (w':=(w.alloc (.deferred (some []))).alloc (.loop (rec 0))) (d:=lI) (xX rfl hfl hnd) (g:=some (w.heap.size+1)) (sv:=undef) (t:=.unit) (k:=.lp (w.heap.size+1) (rec 0)) rfl (Tp.r rfl rfl) rfl (by simp) (fun i hi=>heap_alloc_old _ _ i hi) (fun i hi=>by cases hi;rw[hs1];exact Nat.le_refl _)
  ⟨by simp[Env.at],by have:=heap_alloc_new (w.alloc (.deferred (some []))) (.loop (rec 0));rw[hs1] at this;exact this⟩
 generalize hw2:(w.alloc (.deferred (some []))).alloc (.loop (rec 0))=w2 at g2 x2
 generalize hE2:(E.at dI (some w.heap.size) undef .unit).at lI (some (w.heap.size+1)) undef .unit=E2 at g2 x2
 have hE2g:∀b,b≠dI→b≠lI→E2.g b=E.g b:=fun b h1 h2=>by rw[←hE2];simp[Env.at,h1,h2]
 have hE2d:E2.g dI=some w.heap.size:=by rw[←hE2];simp[Env.at,Ne.symm hnd]
 have hE2S:E2.S=E.S:=by rw[←hE2];rfl
 have oJ:=x1.trans x2
 obtain⟨gs,hgs⟩:∃gs:Nat→Nat,gs=fun i=>match lq (j6 m) i with|some b=>(E.g b).getD 0|none=>0:=⟨_,rfl⟩
 have hmu:∀b i,lq m b=some i→mn i ti=true∧E.g b=some (gs i)∧(∀t,(i,t)∈ti→E.bt b=t)∧b≠dI∧b≠lI:=by
  intro b i hbi
  have hmem:=ng hbi
  obtain⟨h1,t,v,h2,h3⟩:=Cp hm b i hmem
  obtain⟨r1,r2,gg,c,e,r3,_⟩:=hG.hw.bL b _ h2
  have hlk:lq (j6 m) i=some b:=dY (by have:=dX hmn;simpa[j6,List.map_map,Function.comp_def] using this) (jL.2 hmem)
  refine⟨h1,by rw[hgs];simp only[hlk,r3];rfl,fun t' ht'=>by rw[h3 t' ht'];exact r1,fun e=>?_,fun e=>?_⟩
  ·subst e;exact hfd.2.1 _ h2
  ·subst e;exact hfl.2.1 _ h2
 obtain⟨g3,x3⟩:=g2.tie (gs:=J7 gs m) (ti:=Iz m) (by
  intro b hb
  obtain⟨i,hi⟩:=wM hb
  obtain⟨_,h2,_,h4,h5⟩:=hmu b i hi
  rw[hE2g b h4 h5,h2];simp[J7,hi])
 have g4:cu gl ⟨σ.tm,wN gs m dI lI (w.heap.size+1) (rec 0) σ.hp,.mp dI::σ.df⟩ E2 {a with defers:={target:=.collected w.heap.size,args:= #[]}::a.defers} w2:=
  ⟨g3.len,g3.tm,g3.hw,⟨⟨w.heap.size,hE2d,rfl⟩,g3.df⟩⟩
 have hv0:=ki g4 g
 simp only at hv0
 rw[hg] at hv0
 obtain⟨f',c',hev,r1,r2,_,_⟩:=RV.atom rfl hv0
 simp at hev
 have hf':f'= #[]:=by apply Array.ext';exact r1
 subst hf'
 have hav:a.eval g= .func (.func gf) #[] c':=by rw[←hev];cases g<;>rfl
 obtain⟨B,hBd⟩:∃B:(Nat→Prop)→World→Prop,B=fun S' w'=>(∀b,E.S b→S' b)∧(∀b,E.S b→w'.heap[b]? =w.heap[b]?):=⟨_,rfl⟩
 have hB:∀{S S':Nat→Prop}{w w':World},(∀b,S b→w'.heap[b]? =w.heap[b]?)→(∀b,S b→S' b)→B S w→B S' w':=by
  intro S S' w0 w0' h1 h2 h3
  rw[hBd] at h3 ⊢
  exact⟨fun b hb=>h2 b (h3.1 b hb),fun b hb=>by rw[h1 b (h3.1 b hb)];exact h3.2 b hb⟩
 have hof:uy P gl σ.tm ps assign body k0 gs ti m jl (gl.wB B hB) (w.heap.size+1) rec:=by
  intro args H H' j' h1 h2 h3 h4 h5 h6
  rw[hrec]
  exact Fy.ED hG (fun S' w' h=>by rw[hBd] at h;exact h) (fun b i hbi=>⟨(hmu b i hbi).1,(hmu b i hbi).2.1,(hmu b i hbi).2.2.1⟩) h1 hk hkt h2 h3 h4 h5 h6
 obtain⟨hcall,hfn⟩:=hit B hB (w.heap.size+1) gs rec hof
 have hbb:=lf (wN gs m dI lI (w.heap.size+1) (rec 0) σ.hp)
 obtain⟨hφ,hwi⟩:=zb (lent:=[]) g4 hbb (fun b hb=>by cases hb) (hins gs (w.heap.size+1) rec) (hok gs (w.heap.size+1) rec)
 have hargs:aQ E2 w2 ((((.func (.yield (w.heap.size+1)) .nil .nil,Ty.unit))::cs.toList.map (fun x=>(x,Ty.unit))).map (·.1)) (Value.func (.yield (w.heap.size+1)) #[] #[]::c'.toList):=by
  refine⟨RV.fa (Or.inr ⟨rfl, #[], #[],rfl,rfl,rfl,rfl,rfl⟩),?_⟩
  have:=aQ.atoms hcs r2
  have e1:∀l:List AV,(l.map (fun x=>(x,Ty.unit))).map (fun x:AV×Ty=>x.1)=l:=by intro l;induction l<;>simp_all
  rw[e1];exact this
 have hv:=qK g4.hw hbb hφ (hL gs (w.heap.size+1) rec) (fun g hg=>hg) hargs
 have hSe:(E2.bY []).S=fun g=>E.S g∨∃b∈([]:List Nat),E2.g b=some g:=by simp only[Env.bY,hE2S]
 have hwB:HW (gl.wB B hB) (E2.to (cr gs (w.heap.size+1) rec).ps (E2.bY []).S) w2 (aj (List.replicate (cr gs (w.heap.size+1) rec).m none) (ins gs (w.heap.size+1) rec)):=by
  refine hwi.ctx rfl ?_
  show B _ w2
  rw[hBd]
  refine⟨fun b hb=>by show(E2.bY []).S b;rw[hSe];exact Or.inl hb,fun b hb=>?_⟩
  exact oJ.kept b (hG.hw.slt b hb) (fun⟨c,k,hc,hgc⟩=>hG.hw.dm c k b hc hgc hb)
 have hcalls:=hfn _ w2 _ hv hwB
 refine⟨w.heap.size+1,[{target:=.collected w.heap.size,args:= #[]}],w2,{target:=.fn (.func gf) c',args:= #[.func (.yield (w.heap.size+1)) #[] #[]]},w2,gf, #[.func (.yield (w.heap.size+1)) #[] #[]]++c',w2,?_,?_,fun _ _=>trivial,?_,fun h=>(by cases h),?_⟩
 ·rw[show(Wd gl).round=none from hro,run_enterLoop_outer,←hw2,hrec0]
 ·simp only[resolve,hav]
  simp[go_sem]
 ·simp[invoke,hcall]
 ·have e0:(Value.func (.yield (w.heap.size+1)) #[] #[]::c'.toList).toArray= #[.func (.yield (w.heap.size+1)) #[] #[]]++c':=by apply Array.ext';simp
  rw[e0] at hcalls
  have h1:CallsIn Fence.wide 0 P gf _ w2 _:=callsIn_wide.2 hcalls
  refine CallsIn.mono (F:=Wd gl) h1 ?_
  rintro ed w3 ⟨E',hR,hW',hX⟩
  cases ed with
  |panicked ch=>exact hR.elim
  |outgrown=>exact hR.elim
  |
   returned v=>
   have hWg:HW gl E' w3 (aq (cr gs (w.heap.size+1) rec).m (cr gs (w.heap.size+1) rec).out):=by
    refine hW'.ctx rfl ?_
    have hbs:B E'.S w3:=hW'.gl.2
    rw[hBd] at hbs
    exact gl.mono hbs.2 hbs.1 hG.hw.gl.2
   have hfr:∀b∈(cr gs (w.heap.size+1) rec).ns.map (·.2),(⟨σ.tm,wN gs m dI lI (w.heap.size+1) (rec 0) σ.hp,.mp dI::σ.df⟩:St).fresh b:=by
    have:=hns gs (w.heap.size+1) rec
    rw[List.all_eq_true] at this
    exact fun b hb=>St.gQ (this b hb)
   have hrr:=hr gs (w.heap.size+1) rec
   obtain⟨E3,k1,_,k3⟩:=wC (lent:=[]) g4 hbb (fun b hb=>by cases hb) (hins gs (w.heap.size+1) rec) (hok gs (w.heap.size+1) rec) hfr hWg hX (r':=.c8 .nil) (by rw[hrr];rfl) (v:=v) (by rw[hrr];exact hR)
   obtain⟨f1,f2⟩:=hF gs (w.heap.size+1) rec
   obtain⟨q1,q2⟩:=k1.hw.bL lI _ f1
   obtain⟨k4,x4⟩:=k1.shut f1 q1 (.loop {rec j with state:=.exhausted})
   obtain⟨k5,x5⟩:=k4.Cq
   simp only[f2] at k5 x5
   have hst:(rec j).state≠.busy:=by rw[hrec];simp only[dO];split<;>simp
   refine⟨(rec j).pending,_,run_endLoop q2 hst,?_⟩
   have hpe:(rec j).pending=jmp jl j:=by rw[hrec];rfl
   have X:=(((oJ.trans x3).trans k3).trans x4).trans x5
   generalize hwF:w3.putObj (w.heap.size+1) (.loop {rec j with state:=.exhausted})=wF at k5 X
   generalize (rec j).pending=pe at hpe
   subst hpe
   revert hq
   cases jmp jl j with
   |
    none=>
    intro hq
    exact⟨.normal,_,E3,trivial,hq,k5,X⟩
   |
    some c=>
    intro hq
    refine wpIn_mono (hq E3 _ _ k5) ?_
    rintro ex a5 w5 ⟨x,σ5,E5,z1,z2,z3,z4⟩
    exact⟨x,σ5,E5,z1,z2,z3,X.trans z4⟩
end Go.Abs
namespace Go.Abs
def Fh{α:Type}:c6 α (Nat×α)→Nat
 | .bh _=>0
 | .ret p=>p.1+1
def GQ{α:Type}:c6 α (Nat×α)→α
 | .bh d=>d
 | .ret p=>p.2
theorem uy.use{P:Program}{gl:Ctx}{tm:List AV}{ps:Array Tmp}{assign body:Code}{k0:Nat}{gs:Nat→Nat}{ti:List (Nat×Ty)}{m:List (Nat×Nat)}{jl:List Code}{C:Ctx}{l:Nat}{rec:Nat→Loop}
 (h:uy P gl tm ps assign body k0 gs ti m jl C l rec) {α:Type} (y:c6 α (Nat×α)) (args:List AV) (H:List (Option ak)) (H':α→List (Option ak)) (Hi:List (Option ak)) (Ho:Nat→α→List (Option ak)) (hps:ps.size=args.length) (h0:H[k0]? =some none) (h0':∀d,(H' d)[k0]? =some none) (ht:nq H ti=true) (ht':∀d,nq (H' d) ti=true)
 (e1:(tie gs ti 0 H).set k0 (some (.lp l (rec 0)))=Hi) (e2:∀j d,(tie gs ti 0 (H' d)).set k0 (some (.lp l (rec j)))=Ho j d)
 {σ:St} (es:(⟨lN (ps.toList.zip args) (uI m tm),H,[]⟩:St)=σ) (hr:aa P (gl.As l) assign σ (GG P (gl.As l) body (rP (gl.As l) jl (Fh y) (H' (GQ y))))):
 Fy P C l args Hi (.ret (.val .bool (Nat.beq (Fh y) 0))) (Ho (Fh y) (GQ y)):=by
 subst es
 rw[←e1,←e2]
 exact h args H (H' (GQ y)) (Fh y) hps h0 (h0' _) ht (ht' _) hr
theorem Fc.up{P:Program}{C C':Ctx}{f:FuncId}{A:List AV}{H H':List (Option ak)}{r:nV}(hg:C'.gl=C.gl)(hC:∀S w,C.B S w)(h:Fc P C f A H r H'):Fc P C' f A H r H':=by
 refine⟨h.1,fun E w vs hv hw=>?_⟩
 have:=h.2 E w vs hv (hw.ctx hg.symm (hC _ _))
 intro cs
 obtain⟨e,w',fr,⟨E',r1,r2,r3⟩,rest⟩:=this cs
 exact⟨e,w',fr,⟨E',r1,r2.ctx hg (hw.gu (hw.kept r3)).2,r3⟩,rest⟩
def Cr(n m:Nat)(tm:List (Nat×AV))(hp:List (Nat×Option ak))(df:List AV):St:=⟨kH tm (List.replicate n .bot),kH hp (List.replicate m none),df⟩
theorem KS{P:Program}{gl:Ctx}{Q:iM→St→Prop}{jl:List Code}{j:Nat}{s σF:St}(hj:Nat.beq j 0=true)(hσ:s=σF)(hq:Q .normal σF):(match jmp jl j with|none=>Q .normal s|some c=>aa P gl c s Q):=by
 subst hσ
 rw[Nat.eq_of_beq_eq_true hj];exact hq
theorem LO{P:Program}{gl:Ctx}{Q:iM→St→Prop}{jl:List Code}{j:Nat}{s σF:St}(i:Nat)(c:Code)(hj:Nat.beq j (i+1)=true)(hc:jl[i]? =some c)(hσ:s=σF)(hq:aa P gl c σF Q):(match jmp jl j with|none=>Q .normal s|some c=>aa P gl c s Q):=by
 subst hσ
 rw[Nat.eq_of_beq_eq_true hj]
 simp only[jmp,hc]
 exact hq
end Go.Abs
namespace Go.Abs
end Go.Abs
namespace Go.Abs
def ei(W:World):Env:=⟨fun _=>none,fun _=>undef,fun _=>.unit,fun g=>g<W.heap.size⟩
theorem aH.collect{α:Type}{r:List Value→α→Prop}{k:Nat}:∀(n:Nat)(cs:List Value),cs.length=n*k→(∀i,i<n→∃y,r ((cs.drop (i*k)).take k) y)→∃ys,ys.length=n∧aH r cs ys
 |0,cs,hl,_=>⟨[],rfl,List.eq_nil_of_length_eq_zero (by simpa using hl)⟩
 |
  n+1,cs,hl,h=>by
  obtain⟨y,hy⟩:=h 0 (by omega)
  rw[Nat.zero_mul,List.drop_zero] at hy
  obtain⟨ys,h1,h2⟩:=aH.collect (k:=k) n (cs.drop k) (by rw[List.length_drop,hl,Nat.add_mul,Nat.one_mul];omega) (fun i hi=>by
   obtain⟨z,hz⟩:=h (i+1) (by omega)
   refine⟨z,?_⟩
   rw[List.drop_drop]
   rw[show k+i*k=(i+1)*k from by rw[Nat.add_mul];omega]
   exact hz)
  exact⟨y::ys,by simp[h1],cs.take k,cs.drop k,(List.take_append_drop k cs).symm,hy,h2⟩
theorem cells?_get{w:World}{base:Nat}{a:Addr}{n:Nat}{cs:List Value}(h:w.cells? base a n=some cs):cs.length=n∧∀j v,cs[j]? =some v→w.cell? (a.add j)=some v:=by
 unfold World.cells? at h
 split at h
 ·have hl:=mapM_some_length h
  refine⟨by simpa using hl,fun j v hj=>?_⟩
  have hlt:j<n:=by
   have:=(List.getElem?_eq_some_iff.1 hj).1
   rw[hl] at this;simpa using this
  have:=mapM_some_get h j j (by simp[hlt])
  rw[this,hj]
 ·cases h
theorem Addr.add_add(a:Addr)(i j:Nat):(a.add i).add j=a.add (i+j):=by
 unfold Addr.add
 by_cases hi:i=0
 ·subst hi;simp
 ·by_cases hj:j=0
  ·subst hj;simp
  ·have:i+j≠0:=by omega
   simp[hi,hj,Nat.add_assoc]
theorem aH.Cs{α:Type}{w:World}{r:List Value→α→Prop}{a:Addr}{k:Nat}:∀(n s:Nat),(∀i,i<n→∃c y,w.cells? 0 (a.add ((s+i)*k)) k=some c∧r c y)→∃cs ys,ys.length=n∧aH r cs ys∧∀j v,cs[j]? =some v→w.cell? (a.add (s*k+j))=some v
 |0,s,_=>⟨[],[],rfl,rfl,fun j v hj=>by simp at hj⟩
 |
  n+1,s,h=>by
  obtain⟨c,y,h1,h2⟩:=h 0 (by omega)
  rw[Nat.add_zero] at h1
  obtain⟨hl,hc⟩:=cells?_get h1
  obtain⟨cs,ys,g1,g2,g3⟩:=aH.Cs n (s+1) (fun i hi=>by
   obtain⟨c',y',q1,q2⟩:=h (i+1) (by omega)
   exact⟨c',y',by rw[show s+1+i=s+(i+1) from by omega];exact q1,q2⟩)
  refine⟨c++cs,y::ys,by simp[g1],⟨c,cs,rfl,h2,g2⟩,?_⟩
  intro j v hj
  rw[List.getElem?_append] at hj
  split at hj
  ·have:=hc j v hj
   rwa [Addr.add_add] at this
  ·rename_i hge
   have:=g3 _ v hj
   rw[hl] at this hge
   rw[show(s+1)*k+(j -k)=s*k+j from by rw[Nat.add_mul,Nat.one_mul];omega] at this
   exact this
section
variable{H:Type} {enc:TypeId×Value→H} {P:Program} {G:bH} (T:a9 P G) {W:World} {spare:Nat→Bool} {held:Bool}
include T
theorem a9.cellsOf{t:TypeId}{td:TD}(h:G.at t=some td):P.cellsOf t=td.ty.size:=by
 obtain⟨i,_,h1,_,h2,_⟩:=T.info h
 simp[Program.cellsOf,h1,h2]
theorem a9.Ct{t:TypeId}{td:TD}(ht:G.at t=some td)(hs:td.ty= .bool):P.underlying t=some .bool:=by
 obtain⟨ii,dd,_,h1,_,h2,_⟩:=T.info ht
 have hagg:=cC h2
 rw[h1]
 cases hd:dd with
 |bool=>rfl
 |struct fs=>subst hd;rw[hs] at hagg;simp[cw,Ty.isAgg] at hagg
 |array n e=>subst hd;rw[hs] at hagg;simp[cw,Ty.isAgg] at hagg
 |slice e=>subst hd;simp[bd,Ty.same,hs] at h2
 |map k e=>subst hd;simp[bd,Ty.same,hs] at h2
 |_=>subst hd;simp[bd,Ty.same,hs] at h2
theorem wO:∀(fuel:Nat)(t:TypeId)(td:TD)(cs:List Value)(d:DataW H)(ps:List MemPlace),G.at t=some td→td.ty.pure=true→DataW.trod enc P W 0 spare held fuel t cs=some (d,ps)→(∀n∈d.weights P t,n≤az)→
 ∃x:td.ty.den,Rel W (fun g=>g<W.heap.size) td.ty cs x
 |0,t,td,cs,d,ps,_,_,h,_=>by simp[DataW.trod] at h
 |
  fuel+1,t,td,cs,d,ps,ht,hp,h,hw=>by
  have ih:=fun t td cs d ps=>wO fuel t td cs d ps
  obtain⟨ty,te,te2⟩:=td
  simp only at hp
  cases ty with
  |
   int k=>
   obtain⟨n,e1,e2,e3⟩:=DataW.trod_int (T.intOf ht rfl) h
   simp only[Lit.wf,Bool.and_eq_true,decide_eq_true_eq] at e3
   exact⟨n,e1,e3⟩
  |
   bool=>
   obtain⟨b,e1,e2⟩:=DataW.trod_bool (T.Ct ht rfl) h
   exact⟨b,e1⟩
  |
   str=>
   have hu:=T.strOf ht rfl
   unfold DataW.trod at h
   rw[hu] at h
   split at h<;>simp_all
   obtain⟨_,e1,e2⟩:=h
   subst e1
   rename_i s _
   have hlen:s.data.toList.length≤az:=hw s.data.toList.length (by simp[DataW.weights])
   exact⟨s.data.toList,by simp,hlen⟩
  |
   arr n u=>
   obtain⟨tde,h1,h2,h3⟩:=T.mI ht rfl
   simp only at h1 h2 h3
   subst h3
   obtain⟨xs,m,e1,e2,e3,e4,e5⟩:=DataW.trod_array h1 h
   cases e1;cases e2
   have hcz:=T.cellsOf h2
   have hall:∀i,i<n→∃y,Rel W (fun g=>g<W.heap.size) tde.ty ((cs.drop (i*tde.ty.size)).take tde.ty.size) y:=by
    intro i hi
    have hx:=e5 i hi
    have hlt:i<xs.length:=by omega
    rw[List.getElem?_eq_getElem hlt,hcz] at hx
    refine ih te tde _ xs[i].1 xs[i].2 h2 hp hx (fun q hq=>hw q ?_)
    have key:∀(l:List (DataW H))(i:Nat)(d:DataW H),l[i]? =some d→∀q∈d.weights P te,q∈DataW.weightsAll P te l:=by
     intro l
     induction l with
     |nil=>intro i d h;simp at h
     |
      cons a l ihl=>
      intro i d h q hq
      simp only[DataW.weightsAll,List.mem_append]
      cases i with
      |zero=>simp at h;subst h;exact Or.inl hq
      |succ i=>exact Or.inr (ihl i d (by simpa using h) q hq)
    simp only[DataW.weights,h1]
    exact key _ i _ (by simp[hlt]) q hq
   have hl:cs.length=n*tde.ty.size:=by
    rw[e3];exact T.cellsOf ht
   obtain⟨ys,y1,y2⟩:=aH.collect n cs hl hall
   exact⟨ys,y1,y2⟩
  |
   slice bs u=>
   obtain⟨te',ie,h1,h2,h3,h4,h5,h6,h7⟩:=T.cm ht rfl
   simp only at h1 h2 h4
   subst h3
   have hcz:=T.cellsOf h2
   rcases DataW.trod_slice h1 h with⟨e1,e2⟩|⟨a,len,cap,elems,rest,m,e1,e2,e3,e4,e5,e6,e7,e8,_⟩
   ·exact⟨[],none,0,e1,Nat.le_refl _,by simp,by simp,Or.inl rfl⟩
   ·cases e1;cases e3
    have hb:P.bytesOf te=bs:=by simp[Program.bytesOf,h4,h5]
    have hw0:(elems.length+rest.length)*bs≤az:=by
     refine hw _ ?_
     simp only[DataW.weights,h1,hb]
     simp
    have hlb:len*bs≤az:=Nat.le_trans (Nat.mul_le_mul_right _ (by omega)) hw0
    have hlm:len≤az:=Nat.le_trans (Nat.le_mul_of_pos_right _ h7) hlb
    have hall:∀i,i<len→∃c y,W.cells? 0 (a.add ((0+i)*te'.ty.size)) te'.ty.size=some c∧Rel W (fun g=>g<W.heap.size) te'.ty c y:=by
     intro i hi
     have hx:=e8 i hi
     have hlt:i<elems.length:=by omega
     rw[List.getElem?_eq_getElem hlt,hcz] at hx
     simp only[Option.bind_eq_some_iff] at hx
     obtain⟨c,c1,c2⟩:=hx
     obtain⟨y,hy⟩:=ih te te' c elems[i].1 elems[i].2 h2 hp c2 (fun q hq=>hw q (by
      have key:∀(l:List (DataW H))(i:Nat)(d:DataW H),l[i]? =some d→∀q∈d.weights P te,q∈DataW.weightsAll P te l:=by
       intro l
       induction l with
       |nil=>intro i d h;simp at h
       |
        cons a l ihl=>
        intro i d h q hq
        simp only[DataW.weightsAll,List.mem_append]
        cases i with
        |zero=>simp at h;subst h;exact Or.inl hq
        |succ i=>exact Or.inr (ihl i d (by simpa using h) q hq)
      simp only[DataW.weights,h1,List.mem_cons,List.mem_append]
      exact Or.inr (Or.inl (key _ i _ (by simp[hlt]) q hq))))
     exact⟨c,y,by rw[Nat.zero_add];exact c1,hy⟩
    obtain⟨cs',ys,g1,g2,g3⟩:=aH.Cs (w:=W) (a:=a) len 0 hall
    subst g1
    rw[e2]
    refine⟨ys,some a,cap,rfl,e5,hlb,hlm,?_⟩
    cases hys:ys with
    |nil=>exact Or.inl rfl
    |
     cons y0 ys0=>
     right
     have hcl:=aH.len (n:=te'.ty.size) (fun _ _ h=>Rel.len h) g2
     have hpos:0<cs'.length:=by rw[hcl,hys];simp;exact h6
     have hc0:=g3 0 cs'[0] (by simp[hpos])
     simp only[Nat.zero_mul,Nat.add_zero,Addr.add,if_true] at hc0
     have hspot:a.spot=none∧a.block<W.heap.size:=by
      unfold World.cell? at hc0
      split at hc0
      ·rename_i c _ _ hh
       split at hc0
       ·cases hc0
       ·rename_i hs
        exact⟨by simpa using hs,(Array.getElem?_eq_some_iff.1 hh).1⟩
      ·cases hc0
     obtain⟨b,o,sp⟩:=a
     simp only at hspot
     obtain⟨hs,hblt⟩:=hspot
     subst hs
     refine⟨b,o,cs',rfl,hblt,?_,by rw[←hys];exact g2⟩
     intro j v hj
     have:=g3 j v hj
     rwa [Nat.zero_mul,Nat.zero_add] at this
  |
   pair ta tb=>
   obtain⟨fs,h1,h2⟩:=T.structOf ht rfl
   obtain⟨xs,m,e1,e2,e3,e4,e5⟩:=DataW.trod_struct h1 h
   cases e1;cases e2
   have hl:cs.length=(Ty.pair ta tb).size:=by rw[e3];exact T.cellsOf ht
   have key:∀(l:List Field)(ty:Ty)(off:Nat)(ys:List (DataW H×List MemPlace)),aV G l off ty=true→ty.pure=true→off+ty.size≤cs.length→ys.length=l.length→
    (∀(i:Nat)(f:Field),l[i]? =some f→DataW.trod enc P W 0 spare held fuel f.type ((cs.drop f.offset).take (P.cellsOf f.type))=ys[i]?)→
    (∀n∈DataW.weightsEach P (l.map (·.type)) (ys.map (·.1)),n≤az)→∃x:ty.den,Rel W (fun g=>g<W.heap.size) ty ((cs.drop off).take ty.size) x:=by
    intro l
    induction l with
    |
     nil=>
     intro ty off ys hf _ _ _ _ _
     cases ty<;>simp[aV] at hf
     exact⟨(),by simp[Rel,Ty.size]⟩
    |
     cons f l ihl=>
     intro ty off ys hf hpu hle hyl hrd hwe
     cases ty with
     |
      pair a b=>
      simp only[aV,Bool.and_eq_true] at hf
      obtain⟨⟨⟨g1,g2⟩,g3⟩,g4⟩:=hf
      simp only[Ty.pure,Bool.and_eq_true] at hpu
      cases ys with
      |nil=>simp at hyl
      |
       cons y ys=>
       split at g1
       ·rename_i td htd
        have:=Ty.ai g1;subst this
        have g2:=Nat.eq_of_beq_eq_true g2
        have hcz:=T.cellsOf htd
        simp only[Ty.size] at hle
        have hr0:=hrd 0 f rfl
        rw[g2,hcz] at hr0
        simp only[List.getElem?_cons_zero] at hr0
        simp only[List.map_cons,DataW.weightsEach,List.mem_append] at hwe
        obtain⟨x1,hx1⟩:=ih f.type td _ y.1 y.2 htd hpu.1 hr0 (fun n hn=>hwe n (Or.inl hn))
        obtain⟨x2,hx2⟩:=ihl b (off+td.ty.size) ys g4 hpu.2 (by omega) (by simpa using hyl) (fun i f' hf'=>by
         have:=hrd (i+1) f' (by simpa using hf')
         simpa using this) (fun n hn=>hwe n (Or.inr hn))
        refine⟨(x1,x2),(cs.drop off).take td.ty.size,(cs.drop (off+td.ty.size)).take b.size,?_,hx1,hx2⟩
        simp only[Ty.size]
        rw[List.take_add,List.drop_drop]
       ·cases g1
     |_=>simp[aV] at hf
   obtain⟨x,hx⟩:=key fs.toList (.pair ta tb) 0 xs h2 hp (by omega) (by simpa using e4) (fun i f hf=>e5 i f (by simpa using hf)) (fun n hn=>hw n (by
    simp only[DataW.weights,h1];exact hn))
   rw[List.drop_zero,List.take_of_length_le (by omega)] at hx
   exact⟨x,hx⟩
  |
   unit=>
   obtain⟨ii,dd,_,hu,hsz,hdo,_⟩:=T.info ht
   cases dd with
   |
    struct fs=>
    obtain⟨xs,m,e1,e2,e3,e4,e5⟩:=DataW.trod_struct hu h
    have hl:cs.length=0:=by rw[e3];exact T.cellsOf ht
    exact⟨(),List.eq_nil_of_length_eq_zero hl⟩
   |slice e=>simp[bd,Ty.same] at hdo
   |array n e=>simp[bd] at hdo
   |map k e=>simp[bd,Ty.same] at hdo
   |_=>simp[bd,Ty.same] at hdo
  |aA k=>simp[Ty.pure] at hp
  |fns n=>simp[Ty.pure] at hp
theorem uz{base:Nat}{t:TypeId}{td:TD}{v:Value}{d:DataW H}{p:List MemPlace}(ht:G.at t=some td)(hp:td.ty.pure=true)(hok:Value.okWide P W .any base t v)(h:DataW.Trod enc P W 0 spare held t v d p)(hw:∀n∈d.weights P t,n≤az):
 ∃x:td.ty.den,RV (ei W) W (.val td.ty x) v∧wf td.ty x:=by
 obtain⟨fuel,h⟩:=h
 obtain⟨x,hx⟩:=wO T fuel t td _ d p ht hp h hw
 refine⟨x,RV.fa ?_,Rel.wf hx⟩
 obtain⟨ii,dd,_,hu,_,hdo,_⟩:=T.info ht
 have hagg:=cC hdo
 cases ha:td.ty.isAgg with
 |
  true=>
  rw[ha] at hagg
  unfold Value.okWide at hok
  rw[hu] at hok
  cases dd<;>simp[cw] at hagg<;>(obtain⟨cs,e,_⟩:=hok;subst e;exact Or.inl ⟨ha,cs,rfl,hx⟩)
 |
  false=>
  rw[ha] at hagg
  refine Or.inr ⟨ha,?_⟩
  cases v with
  |
   agg cs=>
   unfold Value.okWide at hok
   rw[hu] at hok
   cases dd<;>simp[cw] at hagg<;>simp[Cell.okWide,Cell.ok,hu] at hok
  |_=>simp[Value.cells] at hx;exact hx
end
theorem mapM_mono{α β:Type}{f g:α→Option β}:∀{l:List α}{r:List β},(∀x∈l,∀y,f x=some y→g x=some y)→l.mapM f=some r→l.mapM g=some r
 |[],r,_,h=>by simpa using h
 |
  x::l,r,hm,h=>by
  simp only[List.mapM_cons,Option.bind_eq_bind,Option.bind_eq_some_iff,Option.pure_def,Option.some.injEq] at h ⊢
  obtain⟨y,h1,ys,h2,h3⟩:=h
  exact⟨y,hm x (by simp) y h1,ys,mapM_mono (fun z hz=>hm z (by simp[hz])) h2,h3⟩
theorem cells?_stay{W W':World}(hs:∀b,b<W.heap.size→W'.heap[b]? =W.heap[b]?){a:Addr}{n:Nat}{cs:List Value}(h:W.cells? 0 a n=some cs):W'.cells? 0 a n=some cs:=by
 unfold World.cells? at h ⊢
 split at h
 ·rename_i hb
  rw[if_pos hb]
  refine mapM_mono ?_ h
  intro i _ y hy
  unfold World.cell? at hy ⊢
  split at hy
  ·rename_i c t fr hh
   rw[hs _ (Array.getElem?_eq_some_iff.1 hh).1,hh]
   exact hy
  ·cases hy
 ·cases h
section
variable{H:Type} {enc:TypeId×Value→H} {P:Program} {G:bH} (T:a9 P G) {W W':World} (hs:∀b,b<W.heap.size→W'.heap[b]? =W.heap[b]?)
include T hs
theorem sW:∀(fuel:Nat)(t:TypeId)(td:TD)(cs:List Value)(x:DataW H×List MemPlace),G.at t=some td→td.ty.pure=true→DataW.trod enc P W 0 (fun _=>true) true fuel t cs=some x→DataW.trod enc P W' 0 (fun b=>decide (b<W.heap.size)) true fuel t cs=some x
 |0,t,td,cs,x,_,_,h=>by simp[DataW.trod] at h
 |
  fuel+1,t,td,cs,x,ht,hp,h=>by
  have ih:=fun t td cs x=>sW fuel t td cs x
  obtain⟨ty,te,te2⟩:=td
  simp only at hp
  cases ty with
  |
   int k=>
   have hu:=T.intOf ht rfl
   unfold DataW.trod at h ⊢
   rw[hu] at h ⊢
   split at h<;>simp_all
  |
   bool=>
   have hu:=T.Ct ht rfl
   unfold DataW.trod at h ⊢
   rw[hu] at h ⊢
   split at h<;>simp_all
  |
   str=>
   have hu:=T.strOf ht rfl
   unfold DataW.trod at h ⊢
   rw[hu] at h ⊢
   split at h<;>simp_all
  |
   arr n u=>
   obtain⟨tde,h1,h2,h3⟩:=T.mI ht rfl
   simp only at h1 h2 h3
   subst h3
   unfold DataW.trod at h ⊢
   rw[h1] at h ⊢
   simp only at h ⊢
   split at h
   ·rename_i hl
    rw[if_pos hl]
    simp only[Option.map_eq_some_iff] at h ⊢
    obtain⟨xs,g1,g2⟩:=h
    exact⟨xs,mapM_mono (fun i _ y hy=>ih te tde _ y h2 hp hy) g1,g2⟩
   ·cases h
  |
   slice bs u=>
   obtain⟨te',ie,h1,h2,h3,h4,h5,h6,h7⟩:=T.cm ht rfl
   simp only at h1 h2 h4
   subst h3
   have hcz:=T.cellsOf h2
   unfold DataW.trod at h ⊢
   rw[h1] at h ⊢
   split at h
   all_goals first
    |(cases h;rfl)
    |skip
   all_goals try (simp_all;done)
   rename_i e0 a len cap heq0
   have he0:e0=te:=by simpa using heq0.symm
   subst he0
   simp only[if_true] at h
   simp only
   split at h
   ·rename_i hc
    rw[if_pos hc]
    simp only[Option.bind_eq_some_iff,Option.map_eq_some_iff] at h ⊢
    obtain⟨elems,g1,rest,g2,g3⟩:=h
    have step:∀(i:Nat)(y:DataW H×List MemPlace),(W.cells? 0 (a.add (i*P.cellsOf e0)) (P.cellsOf e0)).bind (DataW.trod enc P W 0 (fun _=>true) true fuel e0)=some y→(W'.cells? 0 (a.add (i*P.cellsOf e0)) (P.cellsOf e0)).bind (DataW.trod enc P W' 0 (fun b=>decide (b<W.heap.size)) true fuel e0)=some y:=by
     intro i y hy
     simp only[Option.bind_eq_some_iff] at hy ⊢
     obtain⟨c,c1,c2⟩:=hy
     exact⟨c,cells?_stay hs c1,ih e0 te' c y h2 hp c2⟩
    refine⟨elems,mapM_mono (fun i _ y hy=>step i y hy) g1,rest,?_,g3⟩
    by_cases hz:cap -len=0
    ·rw[hz] at g2 ⊢
     simp at g2
     subst g2
     split<;>simp
    ·have hblk:a.block<W.heap.size:=by
      obtain⟨k,hk⟩:∃k,cap -len=k+1:=⟨cap -len -1,by omega⟩
      rw[hk,List.range_succ_eq_map] at g2
      simp only[List.mapM_cons,Option.bind_eq_bind,Option.bind_eq_some_iff] at g2
      obtain⟨y,⟨c,c1,_⟩,_⟩:=g2
      obtain⟨l1,l2⟩:=cells?_get c1
      have hpos:0<c.length:=by rw[l1,hcz];exact h6
      have:=l2 0 c[0] (by simp[hpos])
      unfold World.cell? at this
      split at this
      ·rename_i hh
       have hlt:=(Array.getElem?_eq_some_iff.1 hh).1
       have e:∀(a:Addr) n,(a.add n).block=a.block:=by intro a n;unfold Addr.add;split<;>rfl
       rw[e,e] at hlt
       exact hlt
      ·cases this
     simp only[hblk,decide_true,if_true]
     exact mapM_mono (fun i _ y hy=>step (len+i) y hy) g2
   ·cases h
  |
   pair ta tb=>
   obtain⟨fs,h1,h2⟩:=T.structOf ht rfl
   unfold DataW.trod at h ⊢
   rw[h1] at h ⊢
   simp only at h ⊢
   split at h
   ·rename_i hl
    rw[if_pos hl]
    simp only[Option.map_eq_some_iff] at h ⊢
    obtain⟨xs,g1,g2⟩:=h
    refine⟨xs,mapM_mono (fun f hf y hy=>?_) g1,g2⟩
    have key:∀(l:List Field)(ty:Ty)(off:Nat),aV G l off ty=true→ty.pure=true→∀f∈l,∃td,G.at f.type=some td∧td.ty.pure=true:=by
     intro l
     induction l with
     |nil=>intro ty off _ _ f hf;cases hf
     |
      cons f0 l ihl=>
      intro ty off hfo hpu f hf
      cases ty with
      |
       pair a b=>
       simp only[aV,Bool.and_eq_true] at hfo
       obtain⟨⟨⟨q1,q2⟩,q3⟩,q4⟩:=hfo
       simp only[Ty.pure,Bool.and_eq_true] at hpu
       rcases List.mem_cons.1 hf with e|hf
       ·subst e
        split at q1
        ·rename_i td htd
         exact⟨td,htd,by rw[Ty.ai q1];exact hpu.1⟩
        ·cases q1
       ·exact ihl b _ q4 hpu.2 f hf
      |_=>simp[aV] at hfo
    obtain⟨td,htd,hpd⟩:=key fs.toList (.pair ta tb) 0 h2 hp f hf
    exact ih f.type td _ y htd hpd hy
   ·cases h
  |
   unit=>
   obtain⟨ii,dd,_,hu,hsz,hdo,_⟩:=T.info ht
   cases dd with
   |
    struct fs=>
    have hfs:fs.toList= []:=by
     simp only[bd] at hdo
     cases hl:fs.toList with
     |nil=>rfl
     |cons f l=>rw[hl] at hdo;simp[aV] at hdo
    unfold DataW.trod at h ⊢
    rw[hu] at h ⊢
    simp only[hfs] at h ⊢
    exact h
   |slice e=>simp[bd,Ty.same] at hdo
   |array n e=>simp[bd] at hdo
   |map k e=>simp[bd,Ty.same] at hdo
   |_=>simp[bd,Ty.same] at hdo
  |aA k=>simp[Ty.pure] at hp
  |fns n=>simp[Ty.pure] at hp
theorem nr:∀(ts:List TypeId)(vs:List Value)(ds:List (DataW H))(ps:List MemPlace),(∀t∈ts,∃td,G.at t=some td∧td.ty.pure=true)→DataW.TrodAll enc P W 0 (fun _=>true) true ts vs ds ps→DataW.TrodAll enc P W' 0 (fun b=>decide (b<W.heap.size)) true ts vs ds ps
 |
  [],vs,ds,ps,_,h=>by
  cases vs<;>cases ds<;>first|exact h|exact h.elim
 |
  t::ts,vs,ds,ps,ht,h=>by
  cases vs with
  |nil=>cases ds<;>exact h.elim
  |
   cons v vs=>
   cases ds with
   |nil=>exact h.elim
   |
    cons d ds=>
    obtain⟨p,q,⟨fuel,h1⟩,h2,h3⟩:=h
    obtain⟨td,htd,hpd⟩:=ht t (by simp)
    exact⟨p,q,⟨fuel,sW T hs fuel t td _ _ htd hpd h1⟩,nr ts vs ds q (fun t' ht'=>ht t' (by simp[ht'])) h2,h3⟩
end
theorem HW.bare{gl:Ctx}{W:World}(n:Nat)(hg:tG gl (ei W) W):HW gl (ei W) W (aj (List.replicate n none) []):=by
 have no:∀(b:Nat)(k:ak),(aj (List.replicate n (none:Option ak)) [])[b]? ≠some (some k):=by
  intro b k h
  simp only[aj,List.getElem?_replicate] at h
  split at h<;>cases h
 exact⟨fun b k h=>absurd h (no b k),fun b _ k _ _ h=>absurd h (no b k),fun b k _ h=>absurd h (no b k),fun g hg=>hg,hg⟩
theorem Cu{H:Type}{enc:TypeId×Value→H}{P:Program}{G:bH}(T:a9 P G){gl:Ctx}{f:FuncId}{fn:Func}{s:ChangeSpec}{W:World}{args:Array Value}{ds gs:List (DataW H)}{before:List MemPlace}{avs:List AV}{m:Nat}{bt:TypeId}
 (hc:Fc P gl f avs (aj (List.replicate m none) []) (.ret (.val .bool true)) (aq m [])) (hv:aQ (ei W) W avs args.toList) (hg:tG gl (ei W) W)
 (hW:DataW.Whole enc P fn.params.toList s.vars false W args.toList ds gs before) (hvars:s.vars= []) (hpt:∀t∈fn.params.toList,∃td,G.at t=some td∧td.ty.pure=true)
 (hrt:fn.resultTypes= #[bt]) (hbt:P.underlying bt=some .bool) (hspec:∀gs,gs= []→(s.fn H (ds++gs)).results= [.lit (.bool true)]∧(s.fn H (ds++gs)).args=ds∧(s.fn H (ds++gs)).vars= []):
 Calls P f args W fun e W'=>∃v,e= .returned v∧s.post enc P fn false true false false W args v W':=by
 have hcall:=hc.2 (ei W) W args.toList hv (HW.bare m hg)
 have e0:args.toList.toArray=args:=by simp
 rw[e0] at hcall
 refine hcall.mono ?_
 rintro e W' ⟨E',hR,_,hX⟩
 cases e with
 |panicked ch=>exact hR.elim
 |outgrown=>exact hR.elim
 |
  returned v=>
  have hv':=RV.cW hR
  subst hv'
  refine⟨_,rfl,?_⟩
  have noO:∀g,¬Own (aj (List.replicate m (none:Option ak)) []) (ei W) g:=by
   rintro g ⟨b,k,hb,_⟩
   simp only[aj,List.getElem?_replicate] at hb
   split at hb<;>cases hb
  have stay:∀b,b<W.heap.size→W'.heap[b]? =W.heap[b]? :=fun b hb=>hX.kept b hb (noO b)
  have hW0:=hW
  obtain⟨p,q,hA,hV,hpq,hfz,hnd⟩:=hW
  rw[hvars] at hV
  have hgs:gs= []∧q= []:=by
   cases gs with
   |nil=>exact⟨rfl,hV⟩
   |cons _ _=>exact hV.elim
  obtain⟨hgs,hq⟩:=hgs
  obtain⟨s1,s2,s3⟩:=hspec gs hgs
  refine⟨ds,gs,before,[],p,[],hW0,?_,?_,?_,?_,fun h=>by cases h⟩
  ·rw[s1,hrt]
   refine⟨[],[],⟨1,?_⟩,rfl,rfl⟩
   simp[DataW.trod,hbt,Value.cells]
  ·rw[s2];exact nr T stay _ _ _ _ hpt hA
  ·rw[s3,hvars];rfl
  ·refine⟨hX.os,hX.output,fun i hi=>?_⟩
   rw[stay i hi]
   cases hh:W.heap[i]? with
   |none=>rfl
   |
    some o=>
    cases o with
    |cells c t fr=>exact⟨rfl,rfl,rfl,fun _ _=>rfl⟩
    |map es clock=>exact Or.inr ⟨rfl,rfl⟩
    |_=>rfl
end Go.Abs
namespace Go.Abs
theorem zq{W:World}{g:Nat}{k:IntKind}{zs:List Int}{n:Nat}(h0:0<zs.length)(h:∀i,i<zs.length→W.cell? ⟨g,i,none⟩=some (.int k (zs.getD i 0)))(hn:zs.length=n)(hr:∀z∈zs,k.min≤z∧z≤k.max):
 (ei W).S g∧∃cs,j8 W ⟨g,0,none⟩ cs∧Rel W (ei W).S (.arr n (.int k)) cs zs:=by
 refine⟨?_,zs.map (.int k),?_,hn,?_⟩
 ·have:=h 0 h0
  unfold World.cell? at this
  split at this
  ·rename_i hh;exact(Array.getElem?_eq_some_iff.1 hh).1
  ·cases this
 ·intro j v hj
  rw[List.getElem?_map] at hj
  cases hz:zs[j]? with
  |none=>rw[hz] at hj;cases hj
  |
   some z=>
   rw[hz] at hj
   simp at hj
   have hlt:=(List.getElem?_eq_some_iff.1 hz).1
   have:=h j hlt
   have e:(⟨g,0,none⟩:Addr).add j=⟨g,j,none⟩:=by unfold Addr.add;split<;>simp_all
   rw[e,this,←hj]
   simp[List.getD,hz]
 ·clear h h0 hn
  induction zs with
  |nil=>rfl
  |cons z zs ih=>exact⟨[.int k z],zs.map (.int k),rfl,⟨rfl,hr z (by simp)⟩,ih (fun y hy=>hr y (by simp[hy]))⟩
end Go.Abs
namespace Go.Abs
theorem bm{x:Int}(h1:-9223372036854775808≤x)(h2:x≤9223372036854775807):aP x=x:=by
 show IntKind.i64.wrap x=x
 simp only[IntKind.wrap,IntKind.bits,IntKind.signed]
 simp
 omega
theorem aJ{i:Nat}(h:i≤4611686018427387904):aP ((i:Int)+1)=((i+1:Nat):Int):=by
 rw[bm (by omega) (by omega)];rfl
theorem Cv(x:Int):0≤IntKind.u64.wrap x:=by
 simp only[IntKind.wrap,IntKind.bits,IntKind.signed]
 simp
 omega
theorem aR{t:Ty}{xs:List t.den}{i:Nat}(h:i<xs.length):nth t xs (i:Int)=xs[i]:=by
 simp[nth,List.getD,h]
theorem Cw(x y:Int):0≤aC .and .u64 x y:=by
 simp only[aC];exact Cv _
theorem cE{σ ρ:Type}(P:Nat→σ→Prop)(Q:ρ→Prop)(L:Nat→Int→σ→Option ρ)(len:Nat)
 (step:∀n(i:Nat) s,i<len→P i s→(∃s',P (i+1) s'∧L (n+1) (i:Int) s=L n ((i+1:Nat):Int) s')∨(∃r,Q r∧L (n+1) (i:Int) s=some r))
 (stop:∀n s,P len s→∃r,Q r∧L (n+1) (len:Int) s=some r):
 ∀n(i:Nat) s,i≤len→len -i<n→P i s→∃r,Q r∧L n (i:Int) s=some r:=by
 intro n
 induction n with
 |zero=>intro i s _ h;omega
 |
  succ n ih=>
  intro i s hi hn hP
  by_cases h:i<len
  ·rcases step n i s h hP with⟨s',hP',e⟩|h
   ·rw[e];exact ih (i+1) s' (by omega) (by omega) hP'
   ·exact h
  ·have:i=len:=by omega
   subst this;exact stop n s hP
theorem oQ{α:Type}(xs:List α)(l h:Nat):(aW xs l h).length=min (h -l) (xs.length -l):=by
 simp[aW]
theorem dB{α:Type}{f:α→α→Bool}(h:∀x,f x x=true):∀xs:List α,iL f xs xs=true
 |[]=>by simp[iL]
 |x::xs=>by simp[iL,h x,dB h xs]
theorem cN:∀(t:Ty)(x:t.den),av t x x=true
 | .int _,x=>by simp[av]
 | .bool,x=>by simp[av]
 | .str,x=>by simp[av]
 | .arr _ t,x=>by simp only[av];exact dB (cN t) x
 | .slice _ t,x=>by simp only[av];exact dB (cN t) x
 | .pair a b,x=>by simp only[av,cN a,cN b];rfl
 | .unit,_=>by simp[av]
 | .aA _,_=>by simp[av]
 | .fns _,_=>by simp[av]
theorem jS{kt:Ty}(hk:kt.keyed=true)(k:kt.den):av kt k k=true:=(eA hk k k).2 rfl
theorem kI{kt:Ty}(hk:kt.keyed=true){p k:kt.den}(h:p≠k):av kt p k=false:=by
 cases he:av kt p k with
 |false=>rfl
 |true=>exact absurd ((eA hk p k).1 he) h
theorem kJ{α:Type}{kt:Ty}(hk:kt.keyed=true)(k:kt.den)(v:α):∀es:List (kt.den×α),dW kt k (dN kt k v es)=true
 |[]=>by simp[dN,dW,jS hk]
 |
  e::es=>by
  simp only[dN]
  split
  ·simp[dW,jS hk]
  ·simp[dW,kJ hk k v es]
theorem nu{α:Type}{kt:Ty}(hk:kt.keyed=true){p k:kt.den}(h:p≠k)(v:α):∀es:List (kt.den×α),dW kt p (dN kt k v es)=dW kt p es
 |[]=>by simp[dN,dW,kI hk h]
 |
  e::es=>by
  simp only[dN]
  split
  ·rename_i he
   have:=(eA hk k e.1).1 he
   rw[this] at h
   simp[dW,this,kI hk h]
  ·simp[dW,nu hk h v es]
theorem kK{kt vt:Ty}(hk:kt.keyed=true)(k:kt.den)(v:vt.den):∀es:List (kt.den×vt.den),eN kt vt k (dN kt k v es)=v
 |[]=>by simp[dN,eN,jS hk]
 |
  e::es=>by
  simp only[dN]
  split
  ·simp[eN,jS hk]
  ·rename_i he
   simp[eN,he,kK hk k v es]
theorem nv{kt vt:Ty}(hk:kt.keyed=true){p k:kt.den}(h:p≠k)(v:vt.den):∀es:List (kt.den×vt.den),eN kt vt p (dN kt k v es)=eN kt vt p es
 |[]=>by simp[dN,eN,kI hk h]
 |
  e::es=>by
  simp only[dN]
  split
  ·rename_i he
   have:=(eA hk k e.1).1 he
   rw[this] at h
   simp[eN,this,kI hk h]
  ·simp[eN,nv hk h v es]
end Go.Abs
namespace Go.Abs
theorem rm{P:Program}{w:World}:∀{l:List (String×DataW Unit)}{ps:List MemPlace},DataW.LaidVars P w l ps→∀(i:Nat)(n:String)(d:DataW Unit),l[i]? =some (n,d)→
 ∃g t cs fuel p,P.globalNamed n=some g∧(P.globals[g]?).map (·.type)=some t∧w.var? P n=some cs∧DataW.trod (fun _=>()) P w 0 (fun _=>true) false fuel t cs.toList=some (d,p)
 |[],_,_,i,n,d,hi=>by simp at hi
 |
  (m,e)::r,ps,⟨g,t,cs,fuel,p,q,h1,h2,h3,h4,h5,_⟩,i,n,d,hi=>by
  cases i with
  |
   zero=>
   simp only[List.getElem?_cons_zero,Option.some.injEq,Prod.mk.injEq] at hi
   obtain⟨rfl,rfl⟩:=hi
   exact⟨g,t,cs,fuel,p,h1,h2,h3,h4⟩
  |succ i=>exact rm h5 i n d (by simpa using hi)
theorem Cx{P:Program}{W:World}{laid:List (String×DataW Unit)}(h:laidMet P laid W){i:Nat}{name:String}{k:IntKind}{zs:List Int}(hi:laid[i]? =some (name,Lib.tabData k zs)){g:Nat}{t e:TypeId}{n:Nat}
 (hg:P.globalNamed name=some g) (hty:(P.globals[g]?).map (·.type)=some t) (ht:P.underlying t=some (.array n e)) (he:P.underlying e=some (.int k)) (hce:P.cellsOf e=1) (hct:P.cellsOf t=n) (h0:0<zs.length) (hn:zs.length=n) (hr:∀z∈zs,k.min≤z∧z≤k.max):
 (ei W).S g∧∃cs,j8 W ⟨g,0,none⟩ cs∧Rel W (ei W).S (.arr n (.int k)) cs zs:=by
 obtain⟨ps,hl,_⟩:=h
 obtain⟨g',t',cs,fuel,p,hg',ht',hvar,hd⟩:=rm hl i _ _ hi
 obtain rfl:=Option.some.inj (hg.symm.trans hg')
 obtain rfl:=Option.some.inj (hty.symm.trans ht')
 have hcs:=Lib.cells_of_tab ht he hce hct hd
 refine zq h0 (fun j hj=>?_) hn hr
 rw[World.var?_cell hg hvar j,←Array.getElem?_toList,hcs]
 simp[hj,List.getD_eq_getElem?_getD]
theorem ji{P:Program}{W:World}{laid:List (String×DataW Unit)}(h:laidMet P laid W){i:Nat}{name:String}{k:IntKind}{a b:Int}(hi:laid[i]? =some (name,.agg [.lit (.int k a),.lit (.int k b)])){g:Nat}{t:TypeId}{f0 f1:Field}
 (hg:P.globalNamed name=some g) (hty:(P.globals[g]?).map (·.type)=some t) (ht:P.underlying t=some (.struct #[f0,f1])) (h0:P.underlying f0.type=some (.int k)) (h1:P.underlying f1.type=some (.int k)) (hc0:P.cellsOf f0.type=1) (hc1:P.cellsOf f1.type=1) (ho0:f0.offset=0) (ho1:f1.offset=1) (_hct:P.cellsOf t=2)
 (ha:k.min≤a∧a≤k.max) (hb:k.min≤b∧b≤k.max):
 (ei W).S g∧∃cs,j8 W ⟨g,0,none⟩ cs∧Rel W (ei W).S (.pair (.int k) (.pair (.int k) .unit)) cs (a,b,()):=by
 obtain⟨ps,hl,_⟩:=h
 obtain⟨g',t',cs,fuel,p,hg',ht',hvar,hd⟩:=rm hl i _ _ hi
 obtain rfl:=Option.some.inj (hg.symm.trans hg')
 obtain rfl:=Option.some.inj (hty.symm.trans ht')
 obtain⟨xs,n,_,hx,_,hxl,hf⟩:=DataW.trod_struct ht hd
 have hx1:xs.map (·.1)= [.lit (.int k a),.lit (.int k b)]:=by
  have:=congrArg Prod.fst hx
  simpa using this.symm
 have q0:=hf 0 f0 rfl
 have q1:=hf 1 f1 rfl
 obtain⟨x0,x1,rfl⟩:∃x0 x1,xs= [x0,x1]:=by
  match xs,hxl with
  |[x0,x1],_=>exact⟨x0,x1,rfl⟩
 rw[ho0,hc0] at q0
 rw[ho1,hc1] at q1
 simp only[List.map_cons,List.map_nil,List.cons.injEq,and_true] at hx1
 obtain⟨z0,c0,e0,_⟩:=DataW.trod_int h0 q0
 obtain⟨z1,c1,e1,_⟩:=DataW.trod_int h1 q1
 subst e0;subst e1
 obtain⟨g0,g1⟩:=hx1
 have g0:z0=a:=by simpa using g0
 have g1:z1=b:=by simpa using g1
 subst g0;subst g1
 have hcell:∀j,W.cell? ⟨g,j,none⟩=cs[j]? :=fun j=>World.var?_cell hg hvar j
 have v0:cs.toList[0]? =some (.int k z0):=by
  have:=congrArg (·[0]?) c0
  simpa using this
 have v1:cs.toList[1]? =some (.int k z1):=by
  have:=congrArg (·[0]?) c1
  simpa[List.getElem?_take,List.getElem?_drop] using this
 have w0:W.cell? ⟨g,0,none⟩=some (.int k z0):=by rw[hcell,←Array.getElem?_toList];exact v0
 have w1:W.cell? ⟨g,1,none⟩=some (.int k z1):=by rw[hcell,←Array.getElem?_toList];exact v1
 refine⟨?_,[.int k z0,.int k z1],?_,[.int k z0],[.int k z1],rfl,⟨rfl,ha⟩,[.int k z1],[],rfl,⟨rfl,hb⟩,rfl⟩
 ·show g<W.heap.size
  unfold World.cell? at w0
  split at w0
  ·rename_i hh;exact(Array.getElem?_eq_some_iff.1 hh).1
  ·cases w0
 ·intro j v hj
  match j,hj with
  |0,hj=>simp only[Addr.add,if_true];rw[w0];simpa using hj
  |1,hj=>simp only[Addr.add,Nat.one_ne_zero,if_false];rw[w1];simpa using hj
  |j+2,hj=>simp at hj
end Go.Abs
namespace Go.Cm
abbrev Id:=List Bool
def num:Id→Nat
 |[]=>0
 |false::l=>2*num l+1
 |true::l=>2*num l+2
theorem ny:∀{a b:Id},num a=num b→a=b
 |[],[],_=>rfl
 |[],false::_,h=>by simp only[num] at h;omega
 |[],true::_,h=>by simp only[num] at h;omega
 |false::_,[],h=>by simp only[num] at h;omega
 |true::_,[],h=>by simp only[num] at h;omega
 |false::a,false::b,h=>by simp only[num] at h;rw[ny (a:=a) (b:=b) (by omega)]
 |true::a,true::b,h=>by simp only[num] at h;rw[ny (a:=a) (b:=b) (by omega)]
 |false::a,true::b,h=>by simp only[num] at h;omega
 |true::a,false::b,h=>by simp only[num] at h;omega
noncomputable def lO(p:Id):Id:=
 @List.rec Bool (fun _=>Id) [false] (fun b l ih=>@Bool.rec (fun _=>Id) (true::l) (false::ih) b) p
theorem cG:∀p:Id,num (lO p)=num p+1
 |[]=>rfl
 |false::l=>by show num (true::l)=_;simp only[num]
 |
  true::l=>by
  show num (false::lO l)=_
  simp only[num,cG l];omega
noncomputable def GR(f:Nat):Nat→Id:=
 @Nat.rec (fun _=>Nat→Id) (fun _=>[])
  (fun _ ih n=>@Bool.rec (fun _=>Id) (@Bool.rec (fun _=>Id) (true::ih (Nat.sub (Nat.div n 2) 1)) (false::ih (Nat.div n 2)) (Nat.beq (Nat.mod n 2) 1)) [] (Nat.beq n 0)) f
theorem uA:∀(f n:Nat),n<2^f→num (GR f n)=n
 |0,n,h=>by
  have:n=0:=by simpa using h
  subst this;rfl
 |
  f+1,n,h=>by
  have hp:2^(f+1)=2*2^f:=by rw[Nat.pow_succ,Nat.mul_comm]
  show num (@Bool.rec (fun _=>Id) (@Bool.rec (fun _=>Id) (true::GR f (n / 2 -1)) (false::GR f (n / 2)) (Nat.beq (n % 2) 1)) [] (Nat.beq n 0))=n
  cases h0:Nat.beq n 0 with
  |true=>have:=Nat.eq_of_beq_eq_true h0;subst this;rfl
  |
   false=>
   have hn:n≠0:=fun e=>by rw[e] at h0;cases h0
   cases h1:Nat.beq (n % 2) 1 with
   |
    true=>
    have:=Nat.eq_of_beq_eq_true h1
    show num (false::GR f (n / 2))=n
    simp only[num,uA f (n / 2) (by omega)];omega
   |
    false=>
    have:n % 2≠1:=fun e=>by rw[e] at h1;cases h1
    show num (true::GR f (n / 2 -1))=n
    simp only[num,uA f (n / 2 -1) (by omega)];omega
noncomputable def aN(n:Nat):Id:=GR n n
theorem cO(n:Nat):num (aN n)=n:=uA n n Nat.lt_two_pow_self
theorem Cy(p:Id):aN (num p)=p:=ny (cO _)
noncomputable def jT(a:Id):Id→Bool:=
 @List.rec Bool (fun _=>Id→Bool) (fun b=>@List.rec Bool (fun _=>Bool) true (fun _ _ _=>false) b)
  (fun x _ ih b=>@List.rec Bool (fun _=>Bool) false (fun y m _=>@Bool.rec (fun _=>Bool) (@Bool.rec (fun _=>Bool) (ih m) false y) (@Bool.rec (fun _=>Bool) false (ih m) y) x) b) a
theorem iE:∀{a b:Id},jT a b=true→a=b
 |[],[],_=>rfl
 |[],_::_,h=>by cases h
 |_::_,[],h=>by cases h
 |
  x::a,y::b,h=>by
  cases x<;>cases y
  ·have h':jT a b=true:=h
   rw[iE h']
  ·cases h
  ·cases h
  ·have h':jT a b=true:=h
   rw[iE h']
theorem oq:∀a:Id,jT a a=true
 |[]=>rfl
 |false::a=>by show jT a a=true;exact oq a
 |true::a=>by show jT a a=true;exact oq a
inductive T(α:Type) where
 |e:T α
 |n (l:T α) (x:Option α) (r:T α):T α
noncomputable def get{α:Type}(p:Id):T α→Option α:=
 @List.rec Bool (fun _=>T α→Option α) (fun t=>@T.rec α (fun _=>Option α) none (fun _ x _ _ _=>x) t)
  (fun b _ ih t=>@T.rec α (fun _=>Option α) none (fun l _ r _ _=>@Bool.rec (fun _=>Option α) (ih l) (ih r) b) t) p
noncomputable def put{α:Type}(v:Option α)(p:Id):T α→T α:=
 @List.rec Bool (fun _=>T α→T α) (fun t=>@T.rec α (fun _=>T α) (.n .e v .e) (fun l _ r _ _=>.n l v r) t)
  (fun b _ ih t=>@T.rec α (fun _=>T α) (@Bool.rec (fun _=>T α) (.n (ih .e) none .e) (.n .e none (ih .e)) b)
   (fun l x r _ _=>@Bool.rec (fun _=>T α) (.n (ih l) x r) (.n l x (ih r)) b) t) p
theorem gw{α:Type}(p:Id):get p (.e:T α)=none:=by cases p<;>rfl
theorem cz{α:Type}(v:Option α):∀(p q:Id)(t:T α),get q (put v p t)=if q=p then v else get q t
 |[],[],t=>by cases t<;>rfl
 |
  [],b::q,t=>by
  rw[if_neg (by simp)]
  cases t with
  |e=>cases b<;>exact gw q
  |n l x r=>cases b<;>rfl
 |
  b::p,[],t=>by
  rw[if_neg (by simp)]
  cases t<;>cases b<;>rfl
 |
  b::p,c::q,t=>by
  have ih:=cz v p q
  cases t with
  |
   e=>
   cases b<;>cases c
   ·show get q (put v p .e)=_
    rw[ih];simp only[List.cons.injEq,true_and,gw]
   ·show get q (.e:T α)=_
    rw[if_neg (by simp),gw,gw]
   ·show get q (.e:T α)=_
    rw[if_neg (by simp),gw,gw]
   ·show get q (put v p .e)=_
    rw[ih];simp only[List.cons.injEq,true_and,gw]
  |
   n l x r=>
   cases b<;>cases c
   ·show get q (put v p l)=_
    rw[ih];simp only[List.cons.injEq,true_and];rfl
   ·rw[if_neg (by simp)];rfl
   ·rw[if_neg (by simp)];rfl
   ·show get q (put v p r)=_
    rw[ih];simp only[List.cons.injEq,true_and];rfl
theorem bJ{α:Type}(v:Option α)(p:Id)(t:T α):get p (put v p t)=v:=by rw[cz,if_pos rfl]
theorem fK{α:Type}(v:Option α){p q:Id}(h:q≠p)(t:T α):get q (put v p t)=get q t:=by rw[cz,if_neg h]
end Go.Cm
namespace Go.Cm
inductive V where
 |b (x:Bool)
 |i (k:IntKind) (n:Int)
 |s (l:List Nat)
 |p (b:Id) (o:Nat)
 |np
 |sl (b:Id) (o len cap:Nat)
 |su (b:Id) (o len z:Nat)
 |ns
 |se
 |m (b:Id)
 |nm
 |fn (f:FuncId) (fs cs:V)
 |yl (b:Id)
 |nf
 |EE (t:TypeId) (v:V)
 |ni
 |agg (l:V)
 |c8 (l:V)
 |un
 |nil
 |cons (a l:V)
structure Env where
 g:Id→Option Nat
 n:Id→Nat
def eB(l:List Nat):ByteArray:=⟨(l.map UInt8.ofNat).toArray⟩
def V.one:V→Bool
 | .agg _| .c8 _| .un| .nil| .cons _ _=>false
 |_=>true
def V.bU:V→Bool
 | .nil=>true
 | .cons a l=>a.one&&l.bU
 |_=>false
mutual
def RV(E:Env):V→Value→Prop
 | .b x,v=>v= .bool x
 | .i k n,v=>v= .int k n
 | .s l,v=>(∀x∈l,x<256)∧v= .string (eB l)
 | .p b o,v=>∃g,E.g b=some g∧v= .pointer (some ⟨g,o,none⟩)
 | .np,v=>v= .pointer none
 | .sl b o n c,v=>∃g,E.g b=some g∧v= .slice (some ⟨g,o,none⟩) n c
 | .su b o n z,v=>∃g c,E.g b=some g∧v= .slice (some ⟨g,o,none⟩) n c∧n≤c∧o+c*z=E.n b
 | .ns,v=>v= .slice none 0 0
 | .se,v=>∃a c,v= .slice (some a) 0 c
 | .m b,v=>∃g,E.g b=some g∧v= .map (some g)
 | .nm,v=>v= .map none
 | .fn f fs cs,v=>∃a c,v= .func (.func f) a c∧aQ E fs a.toList∧aQ E cs c.toList
 | .yl b,v=>∃g,E.g b=some g∧v= .func (.yield g) #[] #[]
 | .nf,v=>v= .nilFunc
 | .EE t x,v=>∃y,v= .iface t y∧RV E x y
 | .ni,v=>v= .nilIface
 | .agg l,v=>∃a,v= .agg a∧aQ E l a.toList∧l.bU=true
 | .c8 l,v=>∃a,v= .tuple a∧aQ E l a.toList
 | .un,_=>True
 | .nil,_=>False
 | .cons _ _,_=>False
def aQ(E:Env):V→List Value→Prop
 | .nil,vs=>vs= []
 | .cons a l,vs=>∃v r,vs=v::r∧RV E a v∧aQ E l r
 |_,_=>False
end
def Env.le(E E':Env):Prop:=∀b g,E.g b=some g→E'.g b=some g∧E'.n b=E.n b
theorem sX{E E':Env}(h:E.le E'):∀(x:V),(∀v:Value,RV E x v→RV E' x v)∧(∀vs:List Value,aQ E x vs→aQ E' x vs):=by
 intro x
 induction x with
 |
  fn f fs cs ih1 ih2=>
  refine⟨fun v r=>?_,fun vs r=>by simp[aQ] at r⟩
  simp only[RV] at r ⊢
  obtain⟨a,c,h1,h2,h3⟩:=r
  exact⟨a,c,h1,ih1.2 _ h2,ih2.2 _ h3⟩
 |
  EE t x ih=>
  refine⟨fun v r=>?_,fun vs r=>by simp[aQ] at r⟩
  simp only[RV] at r ⊢
  obtain⟨y,h1,h2⟩:=r
  exact⟨y,h1,ih.1 _ h2⟩
 |
  agg l ih=>
  refine⟨fun v r=>?_,fun vs r=>by simp[aQ] at r⟩
  simp only[RV] at r ⊢
  obtain⟨a,h1,h2,h3⟩:=r
  exact⟨a,h1,ih.2 _ h2,h3⟩
 |
  c8 l ih=>
  refine⟨fun v r=>?_,fun vs r=>by simp[aQ] at r⟩
  simp only[RV] at r ⊢
  obtain⟨a,h1,h2⟩:=r
  exact⟨a,h1,ih.2 _ h2⟩
 |
  cons a l ih1 ih2=>
  refine⟨fun v r=>by simp[RV] at r,fun vs r=>?_⟩
  simp only[aQ] at r ⊢
  obtain⟨v,t,h1,h2,h3⟩:=r
  exact⟨v,t,h1,ih1.1 _ h2,ih2.2 _ h3⟩
 |
  p b o|m b|yl b|sl b o n c=>
  refine⟨fun v r=>?_,fun vs r=>by simp[aQ] at r⟩
  simp only[RV] at r ⊢
  obtain⟨g,h1,h2⟩:=r
  exact⟨g,(h b g h1).1,h2⟩
 |
  su b o n z=>
  refine⟨fun v r=>?_,fun vs r=>by simp[aQ] at r⟩
  simp only[RV] at r ⊢
  obtain⟨g,c,h1,h2,h3,h4⟩:=r
  exact⟨g,c,(h b g h1).1,h2,h3,by rw[(h b g h1).2];exact h4⟩
 |nil=>exact⟨fun v r=>by simp[RV] at r,fun vs r=>by simpa[aQ] using r⟩
 |un=>exact⟨fun v r=>by simp[RV],fun vs r=>by simp[aQ] at r⟩
 |_=>exact⟨fun v r=>by simpa[RV] using r,fun vs r=>by simp[aQ] at r⟩
theorem RV.mono{E E':Env}(h:E.le E'){x:V}{v:Value}(r:RV E x v):RV E' x v:=(sX h x).1 v r
theorem aQ.mono{E E':Env}(h:E.le E'){x:V}{vs:List Value}(r:aQ E x vs):aQ E' x vs:=(sX h x).2 vs r
noncomputable def V.split{α:Type}(x:V)(n:α)(c:V→V→α)(o:α):α:=
 @V.casesOn (fun _=>α) x (fun _=>o) (fun _ _=>o) (fun _=>o) (fun _ _=>o) o (fun _ _ _ _=>o) (fun _ _ _ _=>o) o o (fun _=>o) o (fun _ _ _=>o) (fun _=>o) o (fun _ _=>o) o (fun _=>o) (fun _=>o) o n c
noncomputable def bO{α β:Type}(m:Option α)(f:α→Option β):Option β:=@Option.rec α (fun _=>Option β) none f m
theorem ab{α β:Type}{m:Option α}{f:α→Option β}{y:β}(h:bO m f=some y):∃x,m=some x∧f x=some y:=by
 cases m with
 |none=>cases h
 |some x=>exact⟨x,rfl,h⟩
noncomputable def bF{α:Type}(b:Bool)(m:Option α):Option α:=@Bool.rec (fun _=>Option α) none m b
theorem al{α:Type}{b:Bool}{m:Option α}{y:α}(h:bF b m=some y):b=true∧m=some y:=by
 cases b with
 |false=>cases h
 |true=>exact⟨rfl,h⟩
noncomputable def ot(x:V):Nat:=
 @V.rec (fun _=>Nat) (fun _=>0) (fun _ _=>0) (fun _=>0) (fun _ _=>0) 0 (fun _ _ _ _=>0) (fun _ _ _ _=>0) 0 0 (fun _=>0) 0 (fun _ _ _ _ _=>0) (fun _=>0) 0 (fun _ _ _=>0) 0 (fun _ _=>0) (fun _ _=>0) 0 0 (fun _ _ _ ih=>Nat.succ ih) x
noncomputable def ij(x y:V):V:=
 @V.rec (fun _=>V) (fun _=>y) (fun _ _=>y) (fun _=>y) (fun _ _=>y) y (fun _ _ _ _=>y) (fun _ _ _ _=>y) y y (fun _=>y) y (fun _ _ _ _ _=>y) (fun _=>y) y (fun _ _ _=>y) y (fun _ _=>y) (fun _ _=>y) y y (fun a _ _ ih=>.cons a ih) x
noncomputable def fC{α:Type}(x:V):(V→α)→α:=
 @V.rec (fun _=>(V→α)→α) (fun y k=>k (.b y)) (fun a c k=>k (.i a c)) (fun y k=>k (.s y)) (fun a c k=>k (.p a c)) (fun k=>k .np) (fun a c d e k=>k (.sl a c d e)) (fun a c d e k=>k (.su a c d e)) (fun k=>k .ns) (fun k=>k .se) (fun a k=>k (.m a)) (fun k=>k .nm) (fun f a c _ _ k=>k (.fn f a c)) (fun a k=>k (.yl a)) (fun k=>k .nf) (fun t v _ k=>k (.EE t v)) (fun k=>k .ni) (fun l _ k=>k (.agg l)) (fun l _ k=>k (.c8 l)) (fun k=>k .un) (fun k=>k .nil) (fun a _ _ ih k=>ih fun l=>k (.cons a l)) x
theorem kL{α:Type}(x:V):∀k:V→α,fC x k=k x:=by
 induction x with
 |cons a l _ ih=>intro k;show fC l (fun l=>k (.cons a l))=_;rw[ih]
 |_=>intro k;rfl
noncomputable def wP(n:Nat):V→Option V:=
 @Nat.rec (fun _=>V→Option V) (fun _=>some .nil) (fun _ ih x=>x.split none (fun a l=>bO (ih l) (fun r=>some (.cons a r))) none) n
noncomputable def rp(n:Nat):V→Option V:=
 @Nat.rec (fun _=>V→Option V) (fun x=>some x) (fun _ ih x=>x.split none (fun _ l=>ih l) none) n
noncomputable def oZ(n:Nat)(x:V):Option V:=bO (rp n x) (fun y=>y.split none (fun a _=>some a) none)
noncomputable def zr(xs:V):V→Option V:=
 @V.rec (fun _=>V→Option V) (fun _ _=>none) (fun _ _ _=>none) (fun _ _=>none) (fun _ _ _=>none) (fun _=>none) (fun _ _ _ _ _=>none) (fun _ _ _ _ _=>none) (fun _=>none) (fun _=>none) (fun _ _=>none) (fun _=>none) (fun _ _ _ _ _ _=>none) (fun _ _=>none) (fun _=>none) (fun _ _ _ _=>none) (fun _=>none) (fun _ _ _=>none) (fun _ _ _=>none) (fun _=>none)
  (fun l=>some l) (fun a _ _ ih l=>l.split none (fun _ m=>bO (ih m) (fun r=>some (.cons a r))) none) xs
noncomputable def wQ(n:Nat)(xs:V):V→Option V:=
 @Nat.rec (fun _=>V→Option V) (fun l=>zr xs l) (fun _ ih l=>l.split none (fun a m=>bO (ih m) (fun r=>some (.cons a r))) none) n
noncomputable def cA(o n:Nat)(l:V):Option V:=bO (rp o l) (fun m=>wP n m)
section
variable{E:Env}
theorem bQ{α:Type}{x:V}{f:V→V→Option α}{y:α}(h:x.split none f none=some y):∃a l,x= .cons a l∧f a l=some y:=by
 cases x<;>first|exact⟨_,_,rfl,h⟩|cases h
theorem aQ.aG{a l:V}{vs:List Value}:aQ E (.cons a l) vs↔∃v r,vs=v::r∧RV E a v∧aQ E l r:=by simp only[aQ]
theorem aQ.da{vs:List Value}:aQ E .nil vs↔vs= []:=by simp only[aQ]
theorem aQ.len:∀{x:V}{vs:List Value},aQ E x vs→ot x=vs.length:=by
 intro x
 induction x with
 |nil=>intro vs h;rw[aQ.da] at h;subst h;rfl
 |
  cons a l _ ih=>
  intro vs h
  obtain⟨v,r,rfl,_,h2⟩:=aQ.aG.1 h
  show Nat.succ (ot l)=_
  rw[ih h2];rfl
 |_=>intro vs h;simp[aQ] at h
theorem aQ.app:∀{x y:V}{vs us:List Value},aQ E x vs→aQ E y us→aQ E (ij x y) (vs++us):=by
 intro x
 induction x with
 |nil=>intro y vs us h k;rw[aQ.da] at h;subst h;exact k
 |
  cons a l _ ih=>
  intro y vs us h k
  obtain⟨v,r,rfl,h1,h2⟩:=aQ.aG.1 h
  exact aQ.aG.2 ⟨v,r++us,rfl,h1,ih h2 k⟩
 |_=>intro y vs us h;simp[aQ] at h
theorem nz:∀{x y:V},x.bU=true→y.bU=true→(ij x y).bU=true:=by
 intro x
 induction x with
 |nil=>intro y h k;exact k
 |
  cons a l _ ih=>
  intro y h k
  simp only[V.bU,Bool.and_eq_true] at h
  show(a.one&&(ij l y).bU)=true
  rw[h.1,ih h.2 k];rfl
 |_=>intro y h;simp[V.bU] at h
theorem wR:∀{n:Nat}{x y:V}{vs:List Value},aQ E x vs→wP n x=some y→n≤vs.length∧aQ E y (vs.take n)∧(x.bU=true→y.bU=true)
 |0,x,y,vs,h,k=>by cases k;exact⟨Nat.zero_le _,by simp[aQ],fun _=>rfl⟩
 |
  n+1,x,y,vs,h,k=>by
  obtain⟨a,l,rfl,k⟩:=bQ (show x.split none (fun a l=>bO (wP n l) (fun r=>some (.cons a r))) none=some y from k)
  obtain⟨r,h1,h2⟩:=ab k
  cases h2
  obtain⟨v,t,rfl,q1,q2⟩:=aQ.aG.1 h
  obtain⟨i1,i2,i3⟩:=wR q2 h1
  refine⟨by simp;omega,aQ.aG.2 ⟨v,_,rfl,q1,i2⟩,fun ho=>?_⟩
  simp only[V.bU,Bool.and_eq_true] at ho ⊢
  exact⟨ho.1,i3 ho.2⟩
theorem rq:∀{n:Nat}{x y:V}{vs:List Value},aQ E x vs→rp n x=some y→n≤vs.length∧aQ E y (vs.drop n)∧(x.bU=true→y.bU=true)
 |0,x,y,vs,h,k=>by cases k;exact⟨Nat.zero_le _,h,fun h=>h⟩
 |
  n+1,x,y,vs,h,k=>by
  obtain⟨a,l,rfl,k⟩:=bQ (show x.split none (fun _ l=>rp n l) none=some y from k)
  obtain⟨v,t,rfl,q1,q2⟩:=aQ.aG.1 h
  obtain⟨i1,i2,i3⟩:=rq q2 k
  refine⟨by simp;omega,by simpa using i2,fun ho=>?_⟩
  simp only[V.bU,Bool.and_eq_true] at ho
  exact i3 ho.2
theorem hJ{o n:Nat}{x y:V}{vs:List Value}(h:aQ E x vs)(k:cA o n x=some y):o+n≤vs.length∧aQ E y ((vs.drop o).take n)∧(x.bU=true→y.bU=true):=by
 obtain⟨m,h1,h2⟩:=ab k
 obtain⟨a1,a2,a3⟩:=rq h h1
 obtain⟨b1,b2,b3⟩:=wR a2 h2
 rw[List.length_drop] at b1
 exact⟨by omega,b2,fun ho=>b3 (a3 ho)⟩
theorem uB{n:Nat}{x y:V}{vs:List Value}(h:aQ E x vs)(k:oZ n x=some y):∃v,vs[n]? =some v∧RV E y v∧(x.bU=true→y.one=true):=by
 obtain⟨m,h1,h2⟩:=ab k
 obtain⟨a,l,rfl,h2⟩:=bQ h2
 cases h2
 obtain⟨a1,a2,a3⟩:=rq h h1
 obtain⟨v,t,e,q1,_⟩:=aQ.aG.1 a2
 refine⟨v,?_,q1,fun ho=>?_⟩
 ·have:=congrArg (·[0]?) e
  simpa using this
 ·have:=a3 ho
  simp only[V.bU,Bool.and_eq_true] at this
  exact this.1
theorem Cz:∀{xs l y:V}{us vs:List Value},aQ E xs us→aQ E l vs→zr xs l=some y→us.length≤vs.length∧aQ E y (us++vs.drop us.length)∧(xs.bU=true→l.bU=true→y.bU=true):=by
 intro xs
 induction xs with
 |
  nil=>
  intro l y us vs h k e
  rw[aQ.da] at h;subst h
  cases(show some l=some y from e)
  exact⟨Nat.zero_le _,k,fun _ h=>h⟩
 |
  cons a m _ ih=>
  intro l y us vs h k e
  obtain⟨b,l',rfl,e⟩:=bQ (show l.split none (fun _ m'=>bO (zr m m') (fun r=>some (.cons a r))) none=some y from e)
  obtain⟨r,e1,e2⟩:=ab e
  cases e2
  obtain⟨u,us',rfl,q1,q2⟩:=aQ.aG.1 h
  obtain⟨v,vs',rfl,p1,p2⟩:=aQ.aG.1 k
  obtain⟨i1,i2,i3⟩:=ih q2 p2 e1
  refine⟨by simp;omega,aQ.aG.2 ⟨u,us'++vs'.drop us'.length,by simp,q1,i2⟩,fun ho ho'=>?_⟩
  simp only[V.bU,Bool.and_eq_true] at ho ho' ⊢
  exact⟨ho.1,i3 ho.2 ho'.2⟩
 |_=>intro l y us vs h;simp[aQ] at h
theorem nA:∀{n:Nat}{xs l y:V}{us vs:List Value},aQ E xs us→aQ E l vs→wQ n xs l=some y→n+us.length≤vs.length∧aQ E y (vs.take n++us++vs.drop (n+us.length))∧(xs.bU=true→l.bU=true→y.bU=true)
 |
  0,xs,l,y,us,vs,h,k,e=>by
  obtain⟨i1,i2,i3⟩:=Cz h k (show zr xs l=some y from e)
  exact⟨by omega,by simpa using i2,i3⟩
 |
  n+1,xs,l,y,us,vs,h,k,e=>by
  obtain⟨a,m,rfl,e⟩:=bQ (show l.split none (fun a m=>bO (wQ n xs m) (fun r=>some (.cons a r))) none=some y from e)
  obtain⟨r,e1,e2⟩:=ab e
  cases e2
  obtain⟨v,vs',rfl,p1,p2⟩:=aQ.aG.1 k
  obtain⟨i1,i2,i3⟩:=nA h p2 e1
  refine⟨by simp;omega,?_,fun ho ho'=>?_⟩
  ·refine aQ.aG.2 ⟨v,vs'.take n++us++vs'.drop (n+us.length),?_,p1,i2⟩
   rw[show n+1+us.length=(n+us.length)+1 from by omega]
   simp
  ·simp only[V.bU,Bool.and_eq_true] at ho' ⊢
   exact⟨ho'.1,i3 ho ho'.2⟩
end
end Go.Cm
namespace Go.Cm
inductive Es where
 |nil
 |cons (k v:V) (n:Nat) (l:Es)
inductive ak where
 |c (l:V) (e:TypeId)
 |u (l:V) (e:TypeId)
 |m (es:Es) (ck:Nat)
 |it (m:Option Id) (since:Nat) (seen:List Nat) (last:Nat)
 |si (s:List Nat) (pos:Nat)
 |lp (st:LoopState) (pe:Option Code) (fn:FuncId) (tm:T V) (sz:Nat) (ps:Array Tmp) (asg body:Code) (d:Id)
 |df
structure St where
 tm:T V
 hp:T ak
 nx:Id
 df:V
def uH(E:Env):Es→List MapEntry→Prop
 | .nil,l=>l= []
 | .cons k v n es,l=>∃e r,l=e::r∧RV E k e.key∧RV E v e.val∧e.born=n∧uH E es r
theorem uH.mono{E E':Env}(h:E.le E'):∀{es:Es}{l:List MapEntry},uH E es l→uH E' es l
 | .nil,_l,r=>r
 | .cons _k _v _n _es,_l,⟨e,t,h1,h2,h3,h4,h5⟩=>⟨e,t,h1,h2.mono h,h3.mono h,h4,uH.mono h h5⟩
def RT(E:Env)(tm:T V)(a:Array Value):Prop:=∀p v,get p tm=some v→∃u,a[num p]? =some u∧RV E v u
theorem RT.mono{E E':Env}(h:E.le E'){tm:T V}{a:Array Value}(r:RT E tm a):RT E' tm a:=
 fun p v hp=>let⟨u,h1,h2⟩:=r p v hp;⟨u,h1,h2.mono h⟩
def wS(n:Nat)(fz:Nat×Nat):Prop:=fz.1=fz.2∨n≤fz.1
theorem wS.no{n:Nat}{fz:Nat×Nat}(h:wS n fz):∀i,i<n→¬(fz.1≤i∧i<fz.2):=by
 intro i hi hh
 rcases h with h|h<;>omega
def RB(E:Env)(b:Id):ak→Obj→Prop
 | .c l e,o=>∃cs fz,o= .cells cs e fz∧aQ E l cs.toList∧l.bU=true∧wS cs.size fz∧E.n b=cs.size
 | .u l e,o=>∃cs fz xs ys,o= .cells cs e fz∧cs.toList=xs++ys∧aQ E l xs∧l.bU=true∧wS cs.size fz∧E.n b=cs.size
 | .m es ck,o=>∃l,o= .map l ck∧uH E es l.toList
 | .it none since seen last,o=>o= .mapIter none since seen.toArray last
 | .it (some m) since seen last,o=>∃g,E.g m=some g∧o= .mapIter (some g) since seen.toArray last
 | .si s pos,o=>(∀x∈s,x<256)∧o= .stringIter (eB s) pos
 | .lp st pe _ tm sz ps asg body d,o=>∃a g f0,o= .loop {state:=st,pending:=pe,fn:=f0,tmps:=a,params:=ps,assign:=asg,body:=body,defers:=g}∧RT E tm a∧sz≤a.size∧E.g d=some g
 | .df,o=>o= .deferred (some [])
theorem RB.mono{E E':Env}(h:E.le E'){b:Id}(hb:E'.n b=E.n b):∀{k:ak}{o:Obj},RB E b k o→RB E' b k o
 | .c _l _e,_o,⟨cs,fz,h1,h2,h3,h4,h5⟩=>⟨cs,fz,h1,h2.mono h,h3,h4,hb.trans h5⟩
 | .u _l _e,_o,⟨cs,fz,xs,ys,h1,h2,h3,h4,h5,h6⟩=>⟨cs,fz,xs,ys,h1,h2,h3.mono h,h4,h5,hb.trans h6⟩
 | .m _es _ck,_o,⟨l,h1,h2⟩=>⟨l,h1,h2.mono h⟩
 | .it none _since _seen _last,_o,r=>r
 | .it (some m) _since _seen _last,_o,⟨g,h1,h2⟩=>⟨g,(h m g h1).1,h2⟩
 | .si _s _pos,_o,r=>r
 | .lp _st _pe _fn _tm _sz _ps _asg _body d,_o,⟨a,g,f0,h1,h2,h3,h4⟩=>⟨a,g,f0,h1,h2.mono h,h3,(h d g h4).1⟩
 | .df,_o,r=>r
def Own(hp:T ak)(E:Env)(g:Nat):Prop:=∃b k,get b hp=some k∧E.g b=some g
structure RH(E:Env)(hp:T ak)(w:World):Prop where
 bL:∀b k,get b hp=some k→∃g o,E.g b=some g∧w.heap[g]? =some o∧RB E b k o
 sep:∀b b' k k' g,get b hp=some k→get b' hp=some k'→E.g b=some g→E.g b'=some g→b=b'
def bW(L:Nat)(nx:Id)(E:Env):Prop:=∀b,num nx≤num b→num b<L→E.g b=none
def RD(E:Env):V→List Deferred→Prop
 | .nil,ds=>ds= []
 | .cons (.m b) l,ds=>∃d r g,ds=d::r∧E.g b=some g∧d={target:=.collected g,args:= #[]}∧RD E l r
 | .cons (.fn f fs cs) l,ds=>∃d r a c,ds=d::r∧d={target:=.fn (.func f) c,args:=a}∧aQ E fs a.toList∧aQ E cs c.toList∧RD E l r
 |_,_=>False
theorem RD.mono{E E':Env}(h:E.le E'):∀{x:V}{ds:List Deferred},RD E x ds→RD E' x ds:=by
 intro x
 induction x with
 |nil=>intro ds r;exact r
 |
  cons a l _ ih=>
  intro ds r
  cases a with
  |m b=>obtain⟨d,t,g,h1,h2,h3,h4⟩:=r;exact⟨d,t,g,h1,(h b g h2).1,h3,ih h4⟩
  |fn f fs cs=>obtain⟨d,t,a,c,h1,h2,h3,h4,h5⟩:=r;exact⟨d,t,a,c,h1,h2,h3.mono h,h4.mono h,ih h5⟩
  |_=>exact r.elim
 |_=>intro ds r;exact r.elim
structure Rl(L:Nat)(σ:St)(E:Env)(a:Act)(w:World):Prop where
 tm:RT E σ.tm a.tmps
 hp:RH E σ.hp w
 fr:bW L σ.nx E
 df:RD E σ.df a.defers
def Tp(w w':World):Prop:=w'.tape=w.tape∧w.drawn≤w'.drawn
theorem Tp.r{w w':World}(h:w'.tape=w.tape)(k:w'.drawn=w.drawn):Tp w w':=⟨h,Nat.le_of_eq k.symm⟩
theorem Tp.s{w w':World}(h:w'.tape=w.tape)(k:w'.drawn=w.drawn+1):Tp w w':=⟨h,k▸Nat.le_succ _⟩
theorem Tp.trans{w v u:World}(h:Tp w v)(k:Tp v u):Tp w u:=⟨k.1.trans h.1,Nat.le_trans h.2 k.2⟩
structure Ex(hp:T ak)(nx:Id)(E:Env)(w:World)(hp':T ak)(nx':Id)(E':Env)(w':World):Prop where
 os:w'.os=w.os
 tape:Tp w w'
 output:w'.output=w.output
 size:w.heap.size≤w'.heap.size
 kept:∀g,g<w.heap.size→¬Own hp E g→w'.heap[g]? =w.heap[g]?
 own:∀g,Own hp' E' g→Own hp E g∨w.heap.size≤g
 E7:num nx≤num nx'
 env:∀b,(num b<num nx∨num nx'≤num b)→E'.g b=E.g b∧E'.n b=E.n b
theorem Ex.refl(hp:T ak)(nx:Id)(E:Env)(w:World):Ex hp nx E w hp nx E w:=
 ⟨rfl,Tp.r rfl rfl,rfl,Nat.le_refl _,fun _ _ _=>rfl,fun _ h=>Or.inl h,Nat.le_refl _,fun _ _=>⟨rfl,rfl⟩⟩
theorem Ex.trans{hp du ov:T ak}{nx eo rS:Id}{E E1 E2:Env}{w w1 w2:World}(h:Ex hp nx E w du eo E1 w1)(k:Ex du eo E1 w1 ov rS E2 w2):Ex hp nx E w ov rS E2 w2 where
 os:=k.os.trans h.os
 tape:=h.tape.trans k.tape
 output:=k.output.trans h.output
 size:=Nat.le_trans h.size k.size
 kept:=fun g hg ho=>by
  rw[k.kept g (Nat.lt_of_lt_of_le hg h.size) (fun h1=>(h.own g h1).elim ho (fun h2=>by omega)),h.kept g hg ho]
 own:=fun g hg=>by
  rcases k.own g hg with h1|h1
  ·exact h.own g h1
  ·exact Or.inr (Nat.le_trans h.size h1)
 E7:=Nat.le_trans h.E7 k.E7
 env:=fun b hb=>by
  have a1:=h.E7
  have a2:=k.E7
  obtain⟨c1,c2⟩:=k.env b (by omega)
  obtain⟨d1,d2⟩:=h.env b (by omega)
  exact⟨c1.trans d1,c2.trans d2⟩
theorem Ex.le{hp hp':T ak}{nx nx':Id}{E E':Env}{w w':World}{L:Nat}(h:Ex hp nx E w hp' nx' E' w')(hf:bW L nx E)(hL:num nx'≤L):E.le E':=by
 intro b g hb
 by_cases hc:num b<num nx∨num nx'≤num b
 ·obtain⟨h1,h2⟩:=h.env b hc
  exact⟨h1.trans hb,h2⟩
 ·have:=hf b (by omega) (by omega)
  rw[this] at hb;cases hb
section
variable{L:Nat} {σ:St} {E:Env} {a:Act} {w:World}
theorem RH.fresh{hp:T ak}{nx:Id}(h:RH E hp w)(hf:bW L nx E)(hL:num nx<L){k:ak}{o:Obj}{n:Nat}(w':World)(hs:w'.heap=w.heap.push o)(ho:w'.os=w.os)(ht:Tp w w')(hu:w'.output=w.output)
 (E':Env) (hE:E'=⟨fun b=>if b=nx then some w.heap.size else E.g b,fun b=>if b=nx then n else E.n b⟩) (hk:RB E' nx k o):
 RH E' (put (some k) nx hp) w'∧bW L (lO nx) E'∧Ex hp nx E w (put (some k) nx hp) (lO nx) E' w'∧E.le E'∧E'.g nx=some w.heap.size:=by
 have hle:E.le E':=by
  intro b g hb
  have hne:b≠nx:=fun e=>by subst e;rw[hf b (Nat.le_refl _) hL] at hb;cases hb
  subst hE
  exact⟨by simp only[if_neg hne];exact hb,by simp only[if_neg hne]⟩
 have hnew:E'.g nx=some w.heap.size:=by subst hE;simp
 have hold:∀b,b≠nx→E'.g b=E.g b∧E'.n b=E.n b:=fun b hb=>by subst hE;simp[hb]
 have hlt:∀b k g,get b hp=some k→E.g b=some g→g<w.heap.size:=by
  intro b k g hb hg
  obtain⟨g',o',h1,h2,_⟩:=h.bL b k hb
  rw[hg] at h1;cases h1
  exact(Array.getElem?_eq_some_iff.1 h2).1
 have hheap:∀g,g<w.heap.size→w'.heap[g]? =w.heap[g]? :=by
  intro g hg
  rw[hs,Array.getElem?_push,if_neg (by omega)]
 refine⟨⟨?_,?_⟩,?_,⟨ho,ht,hu,by rw[hs];simp,fun g hg _=>hheap g hg,?_,by rw[cG];omega,?_⟩,hle,hnew⟩
 ·intro b k' hb
  rw[cz] at hb
  split at hb
  ·rename_i e;subst e;cases hb
   exact⟨w.heap.size,o,hnew,by rw[hs];simp,hk⟩
  ·rename_i hne
   obtain⟨g,o',h1,h2,h3⟩:=h.bL b k' hb
   refine⟨g,o',(hle b g h1).1,?_,h3.mono hle (hold b hne).2⟩
   rw[hheap g (hlt b k' g hb h1)];exact h2
 ·intro b b' k1 k2 g hb hb' g1 g2
  rw[cz] at hb hb'
  split at hb
  ·rename_i e;subst e
   rw[hnew] at g1;cases g1
   split at hb'
   ·rename_i e';exact e'.symm
   ·rename_i hne
    rw[(hold b' hne).1] at g2
    have:=hlt b' k2 _ hb' g2
    omega
  ·rename_i hne
   rw[(hold b hne).1] at g1
   split at hb'
   ·rename_i e';subst e'
    rw[hnew] at g2;cases g2
    have:=hlt b k1 _ hb g1
    omega
   ·rename_i hne'
    rw[(hold b' hne').1] at g2
    exact h.sep b b' k1 k2 g hb hb' g1 g2
 ·intro b h1 h2
  rw[cG] at h1
  have hne:b≠nx:=fun e=>by subst e;omega
  rw[(hold b hne).1]
  exact hf b (by omega) h2
 ·rintro g ⟨b,k',hb,hg⟩
  rw[cz] at hb
  split at hb
  ·rename_i e;subst e;rw[hnew] at hg;cases hg;exact Or.inr (Nat.le_refl _)
  ·rename_i hne;rw[(hold b hne).1] at hg;exact Or.inl ⟨b,k',hb,hg⟩
 ·intro b hb
  rw[cG] at hb
  have hne:b≠nx:=fun e=>by subst e;omega
  exact hold b hne
theorem RH.change{hp:T ak}{nx:Id}(h:RH E hp w){b:Id}{k0 k:ak}{g:Nat}{o:Obj}(hb:get b hp=some k0)(hg:E.g b=some g)(w':World)(hs:w'.heap=w.heap.setIfInBounds g o)(ho:w'.os=w.os)(ht:Tp w w')(hu:w'.output=w.output)(hk:RB E b k o):
 RH E (put (some k) b hp) w'∧Ex hp nx E w (put (some k) b hp) nx E w':=by
 obtain⟨g',o0,h1,h2,_⟩:=h.bL b k0 hb
 rw[hg] at h1;cases h1
 have hlt:g<w.heap.size:=(Array.getElem?_eq_some_iff.1 h2).1
 refine⟨⟨?_,?_⟩,⟨ho,ht,hu,by rw[hs];simp,?_,?_,Nat.le_refl _,fun _ _=>⟨rfl,rfl⟩⟩⟩
 ·intro b' k' hb'
  rw[cz] at hb'
  split at hb'
  ·rename_i e;subst e;cases hb'
   exact⟨g,o,hg,by rw[hs];simp[hlt],hk⟩
  ·rename_i hne
   obtain⟨g',o',h1,h2,h3⟩:=h.bL b' k' hb'
   refine⟨g',o',h1,?_,h3⟩
   have:g≠g':=fun e=>hne (by subst e;exact h.sep b' b k' k0 g hb' hb h1 hg)
   rw[hs,Array.getElem?_setIfInBounds,if_neg this];exact h2
 ·intro b1 b2 k1 k2 g' hb1 hb2 g1 g2
  have key:∀b' k',get b' (put (some k) b hp)=some k'→∃k'',get b' hp=some k'':=by
   intro b' k' hb'
   rw[cz] at hb'
   split at hb'
   ·rename_i e;subst e;exact⟨k0,hb⟩
   ·exact⟨k',hb'⟩
  obtain⟨k1',e1⟩:=key b1 k1 hb1
  obtain⟨k2',e2⟩:=key b2 k2 hb2
  exact h.sep b1 b2 k1' k2' g' e1 e2 g1 g2
 ·intro g' hg' hn
  have:g≠g':=fun e=>hn (by subst e;exact⟨b,k0,hb,hg⟩)
  rw[hs,Array.getElem?_setIfInBounds,if_neg this]
 ·rintro g' ⟨b',k',hb',hg'⟩
  rw[cz] at hb'
  split at hb'
  ·rename_i e;subst e;exact Or.inl ⟨b',k0,hb,hg'⟩
  ·exact Or.inl ⟨b',k',hb',hg'⟩
end
end Go.Cm
namespace Go.Cm
theorem bK{a b:Nat}(h:Nat.beq a b=true):a=b:=Nat.eq_of_beq_eq_true h
noncomputable def V.int{α:Type}(x:V)(f:IntKind→Int→Option α):Option α:=
 @V.casesOn (fun _=>Option α) x (fun _=>none) f (fun _=>none) (fun _ _=>none) none (fun _ _ _ _=>none) (fun _ _ _ _=>none) none none (fun _=>none) none (fun _ _ _=>none) (fun _=>none) none (fun _ _=>none) none (fun _=>none) (fun _=>none) none none (fun _ _=>none)
noncomputable def V.bool{α:Type}(x:V)(f:Bool→Option α):Option α:=
 @V.casesOn (fun _=>Option α) x f (fun _ _=>none) (fun _=>none) (fun _ _=>none) none (fun _ _ _ _=>none) (fun _ _ _ _=>none) none none (fun _=>none) none (fun _ _ _=>none) (fun _=>none) none (fun _ _=>none) none (fun _=>none) (fun _=>none) none none (fun _ _=>none)
noncomputable def V.str{α:Type}(x:V)(f:List Nat→Option α):Option α:=
 @V.casesOn (fun _=>Option α) x (fun _=>none) (fun _ _=>none) f (fun _ _=>none) none (fun _ _ _ _=>none) (fun _ _ _ _=>none) none none (fun _=>none) none (fun _ _ _=>none) (fun _=>none) none (fun _ _=>none) none (fun _=>none) (fun _=>none) none none (fun _ _=>none)
noncomputable def V.ptr{α:Type}(x:V)(f:Id→Nat→Option α):Option α:=
 @V.casesOn (fun _=>Option α) x (fun _=>none) (fun _ _=>none) (fun _=>none) f none (fun _ _ _ _=>none) (fun _ _ _ _=>none) none none (fun _=>none) none (fun _ _ _=>none) (fun _=>none) none (fun _ _=>none) none (fun _=>none) (fun _=>none) none none (fun _ _=>none)
noncomputable def V.ag{α:Type}(x:V)(f:V→Option α):Option α:=
 @V.casesOn (fun _=>Option α) x (fun _=>none) (fun _ _=>none) (fun _=>none) (fun _ _=>none) none (fun _ _ _ _=>none) (fun _ _ _ _=>none) none none (fun _=>none) none (fun _ _ _=>none) (fun _=>none) none (fun _ _=>none) none f (fun _=>none) none none (fun _ _=>none)
noncomputable def V.tu{α:Type}(x:V)(f:V→Option α):Option α:=
 @V.casesOn (fun _=>Option α) x (fun _=>none) (fun _ _=>none) (fun _=>none) (fun _ _=>none) none (fun _ _ _ _=>none) (fun _ _ _ _=>none) none none (fun _=>none) none (fun _ _ _=>none) (fun _=>none) none (fun _ _=>none) none (fun _=>none) f none none (fun _ _=>none)
noncomputable def V.uJ{α:Type}(x:V)(f:Id→Nat→Nat→Nat→Option α)(g:Id→Nat→Nat→Nat→Option α)(n:Option α):Option α:=
 @V.casesOn (fun _=>Option α) x (fun _=>none) (fun _ _=>none) (fun _=>none) (fun _ _=>none) none f g n none (fun _=>none) none (fun _ _ _=>none) (fun _=>none) none (fun _ _=>none) none (fun _=>none) (fun _=>none) none none (fun _ _=>none)
noncomputable def V.rr(x:V):Bool:=
 @V.casesOn (fun _=>Bool) x (fun _=>false) (fun _ _=>false) (fun _=>false) (fun _ _=>false) false (fun _ _ _ _=>false) (fun _ _ _ _=>false) false true (fun _=>false) false (fun _ _ _=>false) (fun _=>false) false (fun _ _=>false) false (fun _=>false) (fun _=>false) false false (fun _ _=>false)
theorem lg{x:V}(h:x.rr=true):x= .se:=by cases x<;>first|rfl|cases h
noncomputable def V.mp{α:Type}(x:V)(f:Id→Option α)(n:Option α):Option α:=
 @V.casesOn (fun _=>Option α) x (fun _=>none) (fun _ _=>none) (fun _=>none) (fun _ _=>none) none (fun _ _ _ _=>none) (fun _ _ _ _=>none) none none f n (fun _ _ _=>none) (fun _=>none) none (fun _ _=>none) none (fun _=>none) (fun _=>none) none none (fun _ _=>none)
section
variable{α:Type} {x:V} {y:α}
theorem bc{f:IntKind→Int→Option α}(h:x.int f=some y):∃k n,x= .i k n∧f k n=some y:=by cases x<;>first|exact⟨_,_,rfl,h⟩|cases h
theorem cT{f:Bool→Option α}(h:x.bool f=some y):∃b,x= .b b∧f b=some y:=by cases x<;>first|exact⟨_,rfl,h⟩|cases h
theorem dC{f:List Nat→Option α}(h:x.str f=some y):∃l,x= .s l∧f l=some y:=by cases x<;>first|exact⟨_,rfl,h⟩|cases h
theorem eC{f:Id→Nat→Option α}(h:x.ptr f=some y):∃b o,x= .p b o∧f b o=some y:=by cases x<;>first|exact⟨_,_,rfl,h⟩|cases h
theorem eJ{f:V→Option α}(h:x.ag f=some y):∃l,x= .agg l∧f l=some y:=by cases x<;>first|exact⟨_,rfl,h⟩|cases h
theorem zt{f:V→Option α}(h:x.tu f=some y):∃l,x= .c8 l∧f l=some y:=by cases x<;>first|exact⟨_,rfl,h⟩|cases h
theorem cP{f g:Id→Nat→Nat→Nat→Option α}{n:Option α}(h:x.uJ f g n=some y):(∃b o l c,x= .sl b o l c∧f b o l c=some y)∨(∃b o l z,x= .su b o l z∧g b o l z=some y)∨(x= .ns∧n=some y):=by
 cases x<;>first|exact Or.inl ⟨_,_,_,_,rfl,h⟩|exact Or.inr (Or.inl ⟨_,_,_,_,rfl,h⟩)|exact Or.inr (Or.inr ⟨rfl,h⟩)|cases h
theorem nB{f:Id→Option α}{n:Option α}(h:x.mp f n=some y):(∃b,x= .m b∧f b=some y)∨(x= .nm∧n=some y):=by
 cases x<;>first|exact Or.inl ⟨_,rfl,h⟩|exact Or.inr ⟨rfl,h⟩|cases h
end
noncomputable def fN{α:Type}(n:Nat)(f:Nat→α):α:=@Nat.rec (fun _=>α) (f 0) (fun m _=>f (Nat.succ m)) n
theorem cF{α:Type}(n:Nat)(f:Nat→α):fN n f=f n:=by cases n<;>rfl
noncomputable def fI{α:Type}(n:Int)(f:Int→α):α:=@Int.rec (fun _=>α) (fun m=>fN m fun m=>f (.ofNat m)) (fun m=>fN m fun m=>f (.negSucc m)) n
theorem IA{α:Type}(n:Int)(f:Int→α):fI n f=f n:=by
 cases n with
 |ofNat m=>show fN m (fun m=>f (.ofNat m))=_;exact cF _ _
 |negSucc m=>show fN m (fun m=>f (.negSucc m))=_;exact cF _ _
def EF:IntKind→Nat
 | .i8=>127| .i16=>32767| .i32=>2147483647| .i64=>9223372036854775807
 | .u8=>255| .u16=>65535| .u32=>4294967295| .u64=>18446744073709551615
noncomputable def ru(k:IntKind)(n:Int):Int:=
 @Int.rec (fun _=>Int) (fun m=>@Bool.rec (fun _=>Int) (k.wrap (.ofNat m)) (.ofNat m) (Nat.ble m (EF k))) (fun m=>k.wrap (.negSucc m)) n
theorem gp(k:IntKind)(n:Int):ru k n=k.wrap n:=by
 cases n with
 |negSucc m=>rfl
 |
  ofNat m=>
  show@Bool.rec (fun _=>Int) (k.wrap (.ofNat m)) (.ofNat m) (Nat.ble m (EF k))=_
  cases h:Nat.ble m (EF k) with
  |false=>rfl
  |
   true=>
   have:=Nat.le_of_ble_eq_true h
   show Int.ofNat m=_
   cases k<;>simp only[EF] at this<;>simp[IntKind.wrap,IntKind.bits,IntKind.signed]<;>omega
noncomputable def xY(k:IntKind)(n:Int):Option V:=fI n fun n=>some (.i k n)
theorem ft{k:IntKind}{n:Int}{r:V}(h:xY k n=some r):r= .i k n:=by
 unfold xY at h;rw[IA] at h;cases h;rfl
noncomputable def zu(a b:Int):Bool:=
 @Int.rec (fun _=>Bool) (fun m=>@Int.rec (fun _=>Bool) (fun n=>Nat.beq m n) (fun _=>false) b) (fun m=>@Int.rec (fun _=>Bool) (fun _=>false) (fun n=>Nat.beq m n) b) a
theorem uC(m n:Nat):Nat.beq m n=decide (m=n):=by
 cases h:Nat.beq m n with
 |true=>simp[bK h]
 |false=>
  have:m≠n:=fun e=>by subst e;simp at h
  simp[this]
theorem kM(a b:Int):zu a b=(a==b):=by
 cases a with
 |
  ofNat m=>cases b with
  |
   ofNat n=>
   show Nat.beq m n=decide (Int.ofNat m=Int.ofNat n)
   rw[uC];apply decide_eq_decide.2;simp only[Int.ofNat_eq_natCast];omega
  |negSucc n=>show false=decide (Int.ofNat m=Int.negSucc n);simp
 |
  negSucc m=>cases b with
  |ofNat n=>show false=decide (Int.negSucc m=Int.ofNat n);simp
  |
   negSucc n=>
   show Nat.beq m n=decide (Int.negSucc m=Int.negSucc n)
   rw[uC];simp
noncomputable def EG(a b:Int):Bool:=
 @Int.rec (fun _=>Bool) (fun m=>@Int.rec (fun _=>Bool) (fun n=>Nat.ble (Nat.succ m) n) (fun _=>false) b) (fun m=>@Int.rec (fun _=>Bool) (fun _=>true) (fun n=>Nat.ble (Nat.succ n) m) b) a
theorem uD(m n:Nat):Nat.ble m n=decide (m≤n):=by
 cases h:Nat.ble m n with
 |true=>simp[Nat.le_of_ble_eq_true h]
 |false=>
  have:¬m≤n:=fun e=>by rw[Nat.ble_eq_true_of_le e] at h;cases h
  simp[this]
theorem uE(a b:Int):EG a b=decide (a<b):=by
 cases a with
 |
  ofNat m=>cases b with
  |ofNat n=>show Nat.ble (m+1) n=_;rw[uD];apply decide_eq_decide.2;simp;omega
  |negSucc n=>show false=_;symm;simp;omega
 |
  negSucc m=>cases b with
  |ofNat n=>show true=_;symm;simp;omega
  |negSucc n=>show Nat.ble (n+1) m=_;rw[uD];apply decide_eq_decide.2;omega
noncomputable def dr(b:Bool):Bool:=@Bool.rec (fun _=>Bool) true false b
theorem fu(b:Bool):dr b= !b:=by cases b<;>rfl
noncomputable def CP(a:List Nat):List Nat→Bool:=
 @List.rec Nat (fun _=>List Nat→Bool) (fun b=>@List.rec Nat (fun _=>Bool) true (fun _ _ _=>false) b)
  (fun x _ ih b=>@List.rec Nat (fun _=>Bool) false (fun y m _=>@Bool.rec (fun _=>Bool) false (ih m) (Nat.beq x y)) b) a
theorem ou:∀(a b:List Nat),CP a b=decide (a=b)
 |[],[]=>rfl
 |[],_::_=>by symm;show decide _=false;simp
 |_::_,[]=>by symm;show decide _=false;simp
 |
  x::a,y::b=>by
  show@Bool.rec (fun _=>Bool) false (CP a b) (Nat.beq x y)=_
  rw[uC,ou a b]
  by_cases h:x=y<;>by_cases h2:a=b<;>simp[h,h2]
theorem jU(l:List Nat):(eB l).toList=l.map UInt8.ofNat:=by
 rw[ByteArray.toList_eq];simp[eB]
theorem pA:∀{a b:List Nat},(∀x∈a,x<256)→(∀x∈b,x<256)→a.map UInt8.ofNat=b.map UInt8.ofNat→a=b
 |[],[],_,_,_=>rfl
 |[],_::_,_,_,h=>by simp at h
 |_::_,[],_,_,h=>by simp at h
 |
  x::a,y::b,ha,hb,h=>by
  simp only[List.map_cons,List.cons.injEq] at h
  have hx:=ha x (List.mem_cons_self ..)
  have hy:=hb y (List.mem_cons_self ..)
  have e:x=y:=by
   have:=congrArg UInt8.toNat h.1
   simp at this
   omega
  rw[e,pA (fun z hz=>ha z (List.mem_cons_of_mem _ hz)) (fun z hz=>hb z (List.mem_cons_of_mem _ hz)) h.2]
noncomputable def wT(op:BinOp)(k:IntKind)(a b:Int):Option V:=
 match op with
 | .add=>xY k (ru k (Int.add a b))
 | .sub=>xY k (ru k (Int.sub a b))
 | .mul=>xY k (ru k (Int.mul a b))
 | .quo=>bF (dr (zu b (.ofNat 0))) (xY k (ru k (Int.tdiv a b)))
 | .rem=>bF (dr (zu b (.ofNat 0))) (xY k (Int.tmod a b))
 | .eql=>some (.b (zu a b))
 | .neq=>some (.b (dr (zu a b)))
 | .lss=>some (.b (EG a b))
 | .leq=>some (.b (dr (EG b a)))
 | .gtr=>some (.b (EG b a))
 | .geq=>some (.b (dr (EG a b)))
 | .and=>xY k (k.wrap (BitVec.ofInt k.bits a &&& BitVec.ofInt k.bits b).toNat)
 | .or=>xY k (k.wrap (BitVec.ofInt k.bits a ||| BitVec.ofInt k.bits b).toNat)
 | .xor=>xY k (k.wrap (BitVec.ofInt k.bits a ^^^ BitVec.ofInt k.bits b).toNat)
 | .andNot=>xY k (k.wrap (BitVec.ofInt k.bits a &&& ~~~ BitVec.ofInt k.bits b).toNat)
 |_=>none
noncomputable def pB(op:BinOp)(k:IntKind)(a b:Int):Option V:=
 match op with
 | .shl=>bF (dr (EG b (.ofNat 0))) (xY k (k.wrap (a*2^(min b.toNat k.bits))))
 | .shr=>bF (dr (EG b (.ofNat 0))) (xY k (a.fdiv (2^(min b.toNat k.bits))))
 |_=>none
noncomputable def zw(a b:IntKind):Bool:=Nat.beq (Abs.IntKind.code a) (Abs.IntKind.code b)
theorem iJ{a b:IntKind}(h:zw a b=true):a=b:=Abs.IntKind.fj (bK h)
noncomputable def uF(op:BinOp):Bool:=match op with| .shl| .shr=>true|_=>false
section
variable{P:Program} {E:Env} {w:World}
theorem CA{op:BinOp}{k:IntKind}{a b:Int}{r:V}{t:TypeId}(h:wT op k a b=some r):∃v,(binOp op t (.int k a) (.int k b)).run P w= .ok v w∧RV E r v:=by
 cases op<;>simp only[wT] at h<;>first|(cases h;done)|skip
 ·have:=ft h;subst this
  exact⟨.int k (k.wrap (a+b)),by simp[binOp,Op.intArith],by simp only[RV];rw[gp];rfl⟩
 ·have:=ft h;subst this
  exact⟨.int k (k.wrap (a -b)),by simp[binOp,Op.intArith],by simp only[RV];rw[gp];rfl⟩
 ·have:=ft h;subst this
  exact⟨.int k (k.wrap (a*b)),by simp[binOp,Op.intArith],by simp only[RV];rw[gp];rfl⟩
 ·obtain⟨h0,h1⟩:=al h
  have:=ft h1;subst this
  have hb:b≠0:=by rw[fu,kM] at h0;simpa using h0
  exact⟨.int k (k.wrap (a.tdiv b)),by simp[binOp,Op.intDiv,hb],by simp only[RV];rw[gp]⟩
 ·obtain⟨h0,h1⟩:=al h
  have:=ft h1;subst this
  have hb:b≠0:=by rw[fu,kM] at h0;simpa using h0
  exact⟨.int k (a.tmod b),by simp[binOp,Op.intDiv,hb],by simp only[RV]⟩
 all_goals first
  |(
   have:=ft h;subst this
   exact⟨_,by simp only[binOp,Op.intBits,ne_eq,not_true,if_false];rfl,by simp only[RV]⟩)
  |(
   cases h
   exact⟨_,by simp only[binOp,Op.intCmp,ne_eq,not_true,if_false];rfl,by simp only[RV,kM,uE,fu]<;>first|rfl|(congr 1;rw[Bool.eq_iff_iff];simp)⟩)
theorem xZ{op:BinOp}{k k':IntKind}{a b:Int}{r:V}{t:TypeId}(h:pB op k a b=some r):∃v,(binOp op t (.int k a) (.int k' b)).run P w= .ok v w∧RV E r v:=by
 cases op<;>simp only[pB] at h<;>first|(cases h;done)|skip
 all_goals
  obtain⟨h0,h1⟩:=al h
  have:=ft h1;subst this
  have hb:¬b<0:=by rw[fu,uE] at h0;simpa using h0
  exact⟨_,by simp only[binOp,Op.shift,if_neg hb];rfl,by simp only[RV]⟩
noncomputable def zx(op:BinOp)(a b:List Nat):Option V:=
 match op with
 | .add=>bF (Nat.ble (a.length+b.length) 1000000) (some (.s (a++b)))
 | .eql=>some (.b (CP a b))
 | .neq=>some (.b (dr (CP a b)))
 |_=>none
theorem CC{op:BinOp}{a b:List Nat}{r:V}{t:TypeId}(ha:∀x∈a,x<256)(hb:∀x∈b,x<256)(h:zx op a b=some r):∃v,(binOp op t (.string (eB a)) (.string (eB b))).run P w= .ok v w∧RV E r v:=by
 have heq:((eB a).toList==(eB b).toList)=CP a b:=by
  rw[ou,jU,jU]
  by_cases e:a=b
  ·subst e;simp
  ·simp only[e,decide_false]
   simpa using fun h=>e (pA ha hb h)
 cases op<;>simp only[zx] at h<;>first|(cases h;done)|skip
 ·obtain⟨h0,h1⟩:=al h
  cases h1
  have hl:=Nat.le_of_ble_eq_true h0
  have hs:∀l,(eB l).size=l.length:=fun l=>by rw[Abs.mK];simp[eB]
  refine⟨.string (eB a++eB b),?_,?_⟩
  ·simp only[binOp,Op.stringOp,hs]
   rw[if_neg (by
    have:IntKind.i64.max=9223372036854775807:=by decide
    omega)]
   rfl
  ·simp only[RV]
   refine⟨fun x hx=>?_,?_⟩
   ·rcases List.mem_append.1 hx with h|h
    ·exact ha x h
    ·exact hb x h
   ·congr 1
    simp[eB,ByteArray.ext_iff]
 ·cases h
  exact⟨_,by simp only[binOp,Op.stringOp];rfl,by simp only[RV,heq]⟩
 ·cases h
  exact⟨_,by simp only[binOp,Op.stringOp];rfl,by simp only[RV,heq,fu]⟩
end
end Go.Cm
namespace Go.Cm
section
variable{P:Program} {E:Env} {w:World}
noncomputable def ak.cells{α:Type}(k:ak)(f:V→Option α):Option α:=
 @ak.casesOn (fun _=>Option α) k (fun l _=>f l) (fun l _=>f l) (fun _ _=>none) (fun _ _ _ _=>none) (fun _ _=>none) (fun _ _ _ _ _ _ _ _ _=>none) none
theorem bV{α:Type}{k:ak}{f:V→Option α}{y:α}(h:k.cells f=some y):∃l e,(k= .c l e∨k= .u l e)∧f l=some y:=by
 cases k<;>first|exact⟨_,_,Or.inl rfl,h⟩|exact⟨_,_,Or.inr rfl,h⟩|cases h
noncomputable def ak.bC(k:ak)(l:V):ak:=
 @ak.casesOn (fun _=>ak) k (fun _ e=>.c l e) (fun _ e=>.u l e) (fun _ _=>.df) (fun _ _ _ _=>.df) (fun _ _=>.df) (fun _ _ _ _ _ _ _ _ _=>.df) .df
theorem RB.cells{b:Id}{k:ak}{l:V}{e:TypeId}{o:Obj}(hk:k= .c l e∨k= .u l e)(h:RB E b k o):∃cs fz xs ys,o= .cells cs e fz∧cs.toList=xs++ys∧aQ E l xs∧l.bU=true∧wS cs.size fz∧E.n b=cs.size∧(k= .c l e→ys= []):=by
 rcases hk with rfl|rfl
 ·obtain⟨cs,fz,h1,h2,h3,h4,h5⟩:=h
  exact⟨cs,fz,cs.toList,[],h1,by simp,h2,h3,h4,h5,fun _=>rfl⟩
 ·obtain⟨cs,fz,xs,ys,h1,h2,h3,h4,h5,h6⟩:=h
  exact⟨cs,fz,xs,ys,h1,h2,h3,h4,h5,h6,fun e=>by cases e⟩
theorem jj{t:TypeId}{i:TypeInfo}(h:P.info? t=some i):(typeInfo t).run P w= .ok i w:=by
 simp[typeInfo,h]
theorem aw{t:TypeId}{d:TypeDesc}(h:P.underlying t=some d):(underlying t).run P w= .ok d w:=by
 simp[underlying,h]
theorem aY{t:TypeId}{i:TypeInfo}(h:P.info? t=some i):(sizeOf t).run P w= .ok i.size w:=by
 simp[sizeOf,jj h]
theorem rz{t:TypeId}{i:TypeInfo}{v:Value}(h:P.info? t=some i)(hz:i.zero=some v):(zeroValue t).run P w= .ok v w:=by
 simp[zeroValue,jj h,hz]
def kN:TypeDesc→Bool
 | .struct _| .array _ _=>true
 |_=>false
theorem eZ{t:TypeId}{d:TypeDesc}(h:P.underlying t=some d):(isAgg t).run P w= .ok (kN d) w:=by
 simp only[isAgg,Sem.run_bind,aw h,Result.andThen_ok]
 cases d<;>rfl
theorem lj{g o:Nat}{cs:Array Value}{e:TypeId}{fz:Nat×Nat}(h:w.heap[g]? =some (.cells cs e fz)):w.cell? ⟨g,o,none⟩=cs[o]? :=by
 simp[World.cell?,h]
theorem dP(g o n:Nat):(⟨g,o,none⟩:Addr).add n=⟨g,o+n,none⟩:=by
 unfold Addr.add;split<;>simp_all
theorem fM{g o n:Nat}{cs:Array Value}{e:TypeId}{fz:Nat×Nat}(h:w.heap[g]? =some (.cells cs e fz))(hn:o+n≤cs.size):(loadCells ⟨g,o,none⟩ n).run P w= .ok ((cs.toList.drop o).take n).toArray w:=by
 have:=run_loadCells_list (P:=P) w ⟨g,o,none⟩ ((cs.toList.drop o).take n) (fun j v hj=>by
  rw[dP,lj h]
  rw[List.getElem?_take] at hj
  split at hj
  ·rw[List.getElem?_drop] at hj;simpa using hj
  ·cases hj)
 rw[show((cs.toList.drop o).take n).length=n from by simp;omega] at this
 exact this
noncomputable def dL(P:Program)(hb:Id→Option ak)(t:TypeId)(x:V):Option V:=
 x.ptr fun b o=>bO (hb b) fun k=>k.cells fun l=>bO (P.underlying t) fun d=>
  @Bool.rec (fun _=>Option V) (oZ o l) (bO (P.info? t) fun i=>bO (cA o i.size l) fun r=>some (.agg r)) (kN d)
theorem gG{hp:T ak}{hb:Id→Option ak}(hH:RH E hp w)(hB:∀b k,hb b=some k→get b hp=some k){t:TypeId}{x r:V}{vx:Value}(hx:RV E x vx)(h:dL P hb t x=some r):
 ∃v,(Instr.loadAt t vx).run P w= .ok v w∧RV E r v:=by
 obtain⟨b,o,rfl,h⟩:=eC h
 obtain⟨k,hk,h⟩:=ab h
 obtain⟨l,e,hke,h⟩:=bV h
 obtain⟨d,hd,h⟩:=ab h
 simp only[RV] at hx
 obtain⟨g,hg,rfl⟩:=hx
 obtain⟨g',ob,h1,h2,h3⟩:=hH.bL b k (hB b k hk)
 rw[hg] at h1;cases h1
 obtain⟨cs,fz,xs,ys,rfl,q1,q2,q3,q4,q5,_⟩:=RB.cells hke h3
 cases ha:kN d with
 |
  false=>
  rw[ha] at h
  obtain⟨v,n1,n2,_⟩:=uB q2 (show oZ o l=some r from h)
  refine⟨v,?_,n2⟩
  have hc:w.cell? ⟨g,o,none⟩=some v:=by
   rw[lj h2]
   have:cs.toList[o]? =some v:=by rw[q1,List.getElem?_append_left (List.getElem?_eq_some_iff.1 n1).1];exact n1
   simpa using this
  simp[Instr.loadAt,Instr.sureAddr,loadVar,eZ hd,ha,hc]
 |
  true=>
  rw[ha] at h
  obtain⟨i,hi,h⟩:=ab (show(bO (P.info? t) fun i=>bO (cA o i.size l) fun r=>some (.agg r))=some r from h)
  obtain⟨r',hr,h⟩:=ab h
  cases h
  obtain⟨n1,n2,n3⟩:=hJ q2 hr
  have hsz:o+i.size≤cs.size:=by
   have:=congrArg List.length q1
   simp at this;omega
  have he:(cs.toList.drop o).take i.size=(xs.drop o).take i.size:=by
   rw[q1,List.drop_append_of_le_length (by omega),List.take_append_of_le_length (by simp;omega)]
  refine⟨.agg ((cs.toList.drop o).take i.size).toArray,?_,?_⟩
  ·simp[Instr.loadAt,Instr.sureAddr,loadVar,eZ hd,ha,aY hi,fM h2 hsz]
  ·simp only[RV]
   exact⟨_,rfl,by rw[he];exact n2,n3 q3⟩
theorem RV.zy{x:V}{v:Value}(h:RV E x v)(ho:x.one=true):v.oneCell'=true:=by
 cases x<;>first
  |(simp[V.one] at ho;done)
  |(simp only[RV] at h;subst h;rfl)
  |(simp only[RV] at h;obtain⟨_,rfl⟩:=h;rfl)
  |(simp only[RV] at h;obtain⟨_,_,rfl⟩:=h;rfl)
  |(simp only[RV] at h;obtain⟨_,rfl,_⟩:=h;rfl)
  |(simp only[RV] at h;obtain⟨_,_,rfl,_⟩:=h;rfl)
  |(simp only[RV] at h;obtain⟨_,_,_,rfl,_⟩:=h;rfl)
theorem aQ.nC:∀{x:V}{vs:List Value},aQ E x vs→x.bU=true→∀v∈vs,v.oneCell'=true:=by
 intro x
 induction x with
 |nil=>intro vs h _ v hv;rw[aQ.da] at h;subst h;cases hv
 |
  cons a l _ ih=>
  intro vs h ho v hv
  obtain⟨u,r,rfl,h1,h2⟩:=aQ.aG.1 h
  simp only[V.bU,Bool.and_eq_true] at ho
  rcases List.mem_cons.1 hv with e|e
  ·subst e;exact h1.zy ho.1
  ·exact ih h2 ho.2 v e
 |_=>intro vs h;simp[aQ] at h
def _root_.Go.World.bC(w:World)(g:Nat)(o:Obj):World:={w with heap:=w.heap.setIfInBounds g o}
theorem rQ(w:World)(g:Nat)(a b:Obj):(w.bC g a).bC g b=w.bC g b:=by
 simp[World.bC]
theorem ya{g o:Nat}{cs:Array Value}{e:TypeId}{fz:Nat×Nat}{v:Value}(h:w.heap[g]? =some (.cells cs e fz))(ho:o<cs.size)(hf:wS cs.size fz)(hv:v.oneCell'=true):
 (store ⟨g,o,none⟩ v).run P w= .ok () (w.bC g (.cells (cs.setIfInBounds o v) e fz)):=by
 have hc:w.cell? ⟨g,o,none⟩=some cs[o]:=by rw[lj h];simp[ho]
 have hfz:w.frozen? ⟨g,o,none⟩=false:=by
  have:=hf.no o ho
  obtain⟨lo,hi⟩:=fz
  simp only[World.frozen?,h]
  simp only at this
  rw[Bool.eq_false_iff]
  simpa using this
 have hs:w.setCell ⟨g,o,none⟩ v=w.bC g (.cells (cs.setIfInBounds o v) e fz):=by
  simp only[World.setCell,World.bC]
  congr 1
  apply Array.ext_getElem?
  intro i
  rw[Array.getElem?_modify,Array.getElem?_setIfInBounds]
  have hlt:g<w.heap.size:=(Array.getElem?_eq_some_iff.1 h).1
  split
  ·rename_i e';subst e';rw[h];simp
  ·rfl
 cases v<;>first|(cases hv;done)|(simp only[store,Sem.run,hc,hfz,hs];rfl)
theorem hM{g o:Nat}{e:TypeId}{fz:Nat×Nat}:∀{vs:List Value}{i:Nat}{cs:Array Value}{w:World},w.heap[g]? =some (.cells cs e fz)→o+i+vs.length≤cs.size→wS cs.size fz→(∀v∈vs,v.oneCell'=true)→
 ∃cs',(storeCells ⟨g,o,none⟩ vs i).run P w= .ok () (w.bC g (.cells cs' e fz))∧cs'.toList=cs.toList.take (o+i)++vs++cs.toList.drop (o+i+vs.length)
 |
  [],i,cs,w,h,hl,hf,hv=>by
  refine⟨cs,?_,by simp⟩
  have:w.bC g (.cells cs e fz)=w:=by
   simp only[World.bC]
   have:w.heap.setIfInBounds g (.cells cs e fz)=w.heap:=by
    apply Array.ext_getElem?
    intro j
    rw[Array.getElem?_setIfInBounds]
    split
    ·rename_i e';subst e';rw[h,if_pos (Array.getElem?_eq_some_iff.1 h).1]
    ·rfl
   rw[this]
  simp[storeCells,this]
 |
  v::vs,i,cs,w,h,hl,hf,hv=>by
  simp only[List.length_cons] at hl
  have h1:=ya (P:=P) (v:=v) h (o:=o+i) (by omega) hf (hv v (List.mem_cons_self ..))
  have hlt:g<w.heap.size:=(Array.getElem?_eq_some_iff.1 h).1
  obtain⟨cs',h2,h3⟩:=hM (g:=g) (o:=o) (e:=e) (fz:=fz) (vs:=vs) (i:=i+1) (cs:=cs.setIfInBounds (o+i) v) (w:=w.bC g (.cells (cs.setIfInBounds (o+i) v) e fz)) (by simp[World.bC,hlt]) (by simp;omega) (by simpa using hf) (fun u hu=>hv u (List.mem_cons_of_mem _ hu))
  refine⟨cs',?_,?_⟩
  ·rw[storeCells,dP]
   simp only[Sem.run_bind,h1,Result.andThen_ok,h2,rQ]
  ·rw[h3]
   simp only[Array.toList_setIfInBounds]
   have hlen:o+i<cs.toList.length:=by simp;omega
   rw[List.take_set,List.drop_set]
   rw[if_pos (by omega)]
   rw[show o+(i+1)=o+i+1 from by omega]
   rw[List.take_add_one,List.set_append]
   simp only[List.length_take,Nat.min_eq_left (Nat.le_of_lt hlen),Nat.lt_irrefl,if_false,Nat.sub_self]
   rw[List.getElem?_eq_getElem hlen]
   simp only[Option.toList,List.set_cons_zero,List.length_cons]
   simp only[List.append_assoc,List.cons_append,List.nil_append]
   rw[show o+i+1+vs.length=o+i+(vs.length+1) from by omega]
noncomputable def V.flat(x:V):V:=
 @V.casesOn (fun _=>V) x (fun y=>.cons (.b y) .nil) (fun k n=>.cons (.i k n) .nil) (fun l=>.cons (.s l) .nil) (fun b o=>.cons (.p b o) .nil) (.cons .np .nil) (fun a b c d=>.cons (.sl a b c d) .nil) (fun a b c d=>.cons (.su a b c d) .nil) (.cons .ns .nil) (.cons .se .nil) (fun b=>.cons (.m b) .nil) (.cons .nm .nil) (fun f a b=>.cons (.fn f a b) .nil) (fun b=>.cons (.yl b) .nil) (.cons .nf .nil) (fun t v=>.cons (.EE t v) .nil) (.cons .ni .nil) (fun l=>l) (fun _=>.un) .un .un (fun _ _=>.un)
theorem EH{x:V}{v:Value}(h:RV E x v){vs:V}(hn:x.flat=vs)(hc:vs≠.un):aQ E vs v.cells.toList∧vs.bU=true:=by
 subst hn
 have key:x.one=true→aQ E (.cons x .nil) v.cells.toList∧(V.cons x .nil).bU=true:=by
  intro ho
  have h1:=h.zy ho
  have:v.cells= #[v]:=by cases v<;>first|rfl|cases h1
  rw[this]
  exact⟨aQ.aG.2 ⟨v,[],rfl,h,by simp[aQ]⟩,by simp[V.bU,ho]⟩
 cases x<;>first
  |exact key rfl
  |(exfalso;exact hc rfl)
  |(simp only[RV] at h;obtain⟨a,rfl,h1,h2⟩:=h;exact⟨h1,h2⟩)
noncomputable def V.IB(x:V):Bool:=
 @V.casesOn (fun _=>Bool) x (fun _=>false) (fun _ _=>false) (fun _=>false) (fun _ _=>false) false (fun _ _ _ _=>false) (fun _ _ _ _=>false) false false (fun _=>false) false (fun _ _ _=>false) (fun _=>false) false (fun _ _=>false) false (fun _=>false) (fun _=>false) true false (fun _ _=>false)
noncomputable def V.CD{α:Type}(x:V)(f:V→Option α):Option α:=@Bool.rec (fun _=>Option α) (f x.flat) none x.flat.IB
theorem hZ{α:Type}{x:V}{f:V→Option α}{y:α}(h:x.CD f=some y){v:Value}(hr:RV E x v):∃vs,f vs=some y∧aQ E vs v.cells.toList∧vs.bU=true:=by
 unfold V.CD at h
 cases hu:x.flat.IB with
 |true=>rw[hu] at h;cases h
 |
  false=>
  rw[hu] at h
  have:=EH hr rfl (fun e=>by rw[e] at hu;cases hu)
  exact⟨_,h,this.1,this.2⟩
noncomputable def kT(P:Program)(hb:Id→Option ak)(t:TypeId)(x y:V):Option (Id×ak):=
 x.ptr fun b o=>bO (hb b) fun k=>k.cells fun l=>bO (P.info? t) fun i=>y.CD fun vs=>bF (Nat.beq (ot vs) i.size) (bO (wQ o vs l) fun l'=>some (b,k.bC l'))
theorem yb{hp:T ak}{hb:Id→Option ak}{nx:Id}(hH:RH E hp w)(hB:∀b k,hb b=some k→get b hp=some k){t:TypeId}{x y:V}{vx vy:Value}(hx:RV E x vx)(hy:RV E y vy){b:Id}{k':ak}(h:kT P hb t x y=some (b,k')):
 ∃w',(Instr.storeAt t vx vy).run P w= .ok () w'∧RH E (put (some k') b hp) w'∧Ex hp nx E w (put (some k') b hp) nx E w':=by
 obtain⟨b',o,rfl,h⟩:=eC h
 obtain⟨k,hk,h⟩:=ab h
 obtain⟨l,e,hke,h⟩:=bV h
 obtain⟨i,hi,h⟩:=ab h
 obtain⟨vs,h,hvs,hvo⟩:=hZ h hy
 obtain⟨hl,h⟩:=al h
 obtain⟨l',hl',h⟩:=ab h
 cases h
 simp only[RV] at hx
 obtain⟨g,hg,rfl⟩:=hx
 obtain⟨g',ob,h1,h2,h3⟩:=hH.bL b k (hB b k hk)
 rw[hg] at h1;cases h1
 obtain⟨cs,fz,xs,ys,rfl,q1,q2,q3,q4,q5,q6⟩:=RB.cells hke h3
 obtain⟨n1,n2,n3⟩:=nA hvs q2 hl'
 have hsz:xs.length+ys.length=cs.size:=by have:=congrArg List.length q1;simp at this;omega
 obtain⟨cs',r1,r2⟩:=hM (P:=P) (o:=o) (i:=0) h2 (vs:=vy.cells.toList) (by omega) q4 (hvs.nC hvo)
 have hlen:cs'.size=cs.size:=by
  have:=congrArg List.length r2
  simp at this n1;omega
 have hcs:cs'.toList=(xs.take o++vy.cells.toList++xs.drop (o+vy.cells.toList.length))++ys:=by
  rw[r2,q1]
  simp only[Nat.add_zero]
  rw[List.take_append_of_le_length (by omega),List.drop_append_of_le_length (by omega)]
  simp
 have hrb:RB E b (k.bC l') (.cells cs' e fz):=by
  rcases hke with rfl|rfl
  ·have:=q6 rfl;subst this
   rw[List.append_nil] at hcs
   exact⟨cs',fz,rfl,by rw[hcs];exact n2,n3 hvo q3,by rw[hlen];exact q4,by rw[q5,hlen]⟩
  ·exact⟨cs',fz,_,ys,rfl,hcs,n2,n3 hvo q3,by rw[hlen];exact q4,by rw[q5,hlen]⟩
 obtain⟨s1,s2⟩:=hH.change (nx:=nx) (k:=k.bC l') (hB b k hk) hg (w.bC g (.cells cs' e fz)) rfl rfl (Tp.r rfl rfl) rfl hrb
 refine⟨_,?_,s1,s2⟩
 have hsize:vy.cells.size=i.size:=by rw[←bK hl,hvs.len];simp
 simp[Instr.storeAt,Instr.sureAddr,storeVar,aY hi,hsize,r1]
end
end Go.Cm
namespace Go.Cm
noncomputable def IC:Value→Option V
 | .bool b=>some (.b b)
 | .int k n=>some (.i k n)
 | .string s=>some (.s (s.data.toList.map UInt8.toNat))
 | .pointer none=>some .np
 | .slice none 0 0=>some .ns
 | .map none=>some .nm
 | .nilFunc=>some .nf
 | .nilIface=>some .ni
 |_=>none
noncomputable def J8(l:List Value):Option V:=
 @List.rec Value (fun _=>Option V) (some .nil) (fun v _ ih=>bO (IC v) fun x=>bO ih fun r=>some (.cons x r)) l
noncomputable def cV:Value→Option V
 | .agg a=>bO (J8 a.toList) fun l=>some (.agg l)
 |v=>IC v
section
variable{P:Program} {E:Env} {w:World}
theorem CE(s:ByteArray):eB (s.data.toList.map UInt8.toNat)=s:=by
 have:(s.data.toList.map UInt8.toNat).map UInt8.ofNat=s.data.toList:=by
  rw[List.map_map]
  have:(UInt8.ofNat∘UInt8.toNat)=id:=by funext x;simp
  rw[this,List.map_id]
 apply ByteArray.ext
 simp[eB,this]
theorem CF{v:Value}{x:V}(h:IC v=some x):RV E x v∧x.one=true:=by
 unfold IC at h
 split at h<;>cases h
 ·exact⟨by simp only[RV],rfl⟩
 ·exact⟨by simp only[RV],rfl⟩
 ·rename_i s
  refine⟨?_,rfl⟩
  simp only[RV,CE,and_true]
  intro x hx
  obtain⟨y,_,rfl⟩:=List.mem_map.1 hx
  exact y.toNat_lt
 all_goals exact⟨by simp only[RV],rfl⟩
theorem CG:∀{l:List Value}{x:V},J8 l=some x→aQ E x l∧x.bU=true
 |[],x,h=>by cases h;exact⟨by simp only[aQ],rfl⟩
 |
  v::l,x,h=>by
  obtain⟨y,h1,h⟩:=ab (show(bO (IC v) fun x=>bO (J8 l) fun r=>some (.cons x r))=some x from h)
  obtain⟨r,h2,h⟩:=ab h
  cases h
  obtain⟨a1,a2⟩:=CF (E:=E) h1
  obtain⟨b1,b2⟩:=CG (l:=l) h2
  exact⟨aQ.aG.2 ⟨v,l,rfl,a1,b1⟩,by simp[V.bU,a2,b2]⟩
theorem CH{v:Value}{x:V}(h:cV v=some x):RV E x v:=by
 unfold cV at h
 split at h
 ·obtain⟨l,h1,h⟩:=ab h
  cases h
  obtain⟨a1,a2⟩:=CG (E:=E) h1
  simp only[RV]
  exact⟨_,rfl,a1,a2⟩
 ·exact(CF h).1
noncomputable def zeroV(P:Program)(t:TypeId):Option V:=bO (P.info? t) fun i=>bO i.zero fun v=>cV v
theorem kO{t:TypeId}{x:V}(h:zeroV P t=some x):∃v,(zeroValue t).run P w= .ok v w∧RV E x v:=by
 obtain⟨i,h1,h⟩:=ab h
 obtain⟨v,h2,h⟩:=ab h
 exact⟨v,rz h1 h2,CH h⟩
inductive bM where
 |v (x:V)
 |nw (x:V) (k:ak)
 |ch (x:V) (b:Id) (k:ak)
 |mv (x:V) (b:Id) (k:ak)
noncomputable def bM.val(e:bM):V:=@bM.rec (fun _=>V) (fun x=>x) (fun x _=>x) (fun x _ _=>x) (fun x _ _=>x) e
noncomputable def bM.hp(e:bM)(nx:Id)(hp:T ak):T ak:=@bM.rec (fun _=>T ak) (fun _=>hp) (fun _ k=>put (some k) nx hp) (fun _ b k=>put (some k) b hp) (fun _ b k=>put (some k) nx (put none b hp)) e
noncomputable def bM.nx(e:bM)(nx:Id):Id:=@bM.rec (fun _=>Id) (fun _=>nx) (fun _ _=>lO nx) (fun _ _ _=>nx) (fun _ _ _=>lO nx) e
def pM(P:Program)(L:Nat)(hp:T ak)(nx:Id)(E:Env)(w:World)(e:bM)(s:Sem Value):Prop:=
 num (e.nx nx)≤L→∃v w' E',s.run P w= .ok v w'∧RV E' e.val v∧RH E' (e.hp nx hp) w'∧bW L (e.nx nx) E'∧Ex hp nx E w (e.hp nx hp) (e.nx nx) E' w'
theorem pM.same{L:Nat}{hp:T ak}{nx:Id}(hH:RH E hp w)(hF:bW L nx E){x:V}{s:Sem Value}{v:Value}(h1:s.run P w= .ok v w)(h2:RV E x v):pM P L hp nx E w (.v x) s:=
 fun _=>⟨v,w,E,h1,h2,hH,hF,Ex.refl _ _ _ _⟩
theorem lk{L:Nat}{hp:T ak}{nx:Id}(hH:RH E hp w)(hF:bW L nx E)(hL:num (lO nx)≤L){l:V}{cs:Array Value}(e:TypeId)(h:aQ E l cs.toList)(ho:l.bU=true):
 ∃E',(newRow e cs).run P w= .ok ⟨w.heap.size,0,none⟩ {w with heap:=w.heap.push (.cells cs e)}∧E'.g nx=some w.heap.size∧E'.n nx=cs.size∧E.le E'∧RH E' (put (some (.c l e)) nx hp) {w with heap:=w.heap.push (.cells cs e)}∧bW L (lO nx) E'∧Ex hp nx E w (put (some (.c l e)) nx hp) (lO nx) E' {w with heap:=w.heap.push (.cells cs e)}:=by
 rw[cG] at hL
 have hle:E.le ⟨fun b=>if b=nx then some w.heap.size else E.g b,fun b=>if b=nx then cs.size else E.n b⟩:=by
  intro b g hb
  have hne:b≠nx:=fun e'=>by subst e';rw[hF b (Nat.le_refl _) (by omega)] at hb;cases hb
  exact⟨by simp only[if_neg hne];exact hb,by simp only[if_neg hne]⟩
 obtain⟨a1,a2,a3,a4,a5⟩:=hH.fresh hF (by omega) (k:=.c l e) (o:=.cells cs e) (n:=cs.size) {w with heap:=w.heap.push (.cells cs e)} rfl rfl (Tp.r rfl rfl) rfl _ rfl ⟨cs,(0,0),rfl,h.mono hle,ho,Or.inl rfl,by simp⟩
 exact⟨_,by simp[newRow],a5,by simp,a4,a1,a2,a3⟩
noncomputable def zA(P:Program)(nx:Id)(t:TypeId):Option bM:=
 bO (zeroV P t) fun z=>z.CD fun l=>some (.nw (.p nx 0) (.c l t))
theorem yc{L:Nat}{hp:T ak}{nx:Id}(hH:RH E hp w)(hF:bW L nx E){t:TypeId}{e:bM}(h:zA P nx t=some e)(old:Value):pM P L hp nx E w e (Instr.alloc t true old):=by
 obtain⟨z,hz,h⟩:=ab h
 obtain⟨v,z1,z2⟩:=kO (E:=E) (w:=w) hz
 obtain⟨l,h,h1,h2⟩:=hZ h z2
 cases h
 intro hL
 obtain⟨E',a1,a2,a3,a4,a5,a6,a7⟩:=lk (P:=P) hH hF hL t h1 h2
 refine⟨.pointer (some ⟨w.heap.size,0,none⟩),_,E',?_,?_,a5,a6,a7⟩
 ·simp[Instr.alloc,z1,newVar,a1]
 ·show RV E' (.p nx 0) _
  simp only[RV];exact⟨_,a2,rfl⟩
noncomputable def Fi(nx:Id)(t:TypeId)(x:V):Option bM:=x.CD fun l=>some (.nw (.p nx 0) (.c l t))
theorem CI{L:Nat}{hp:T ak}{nx:Id}(hH:RH E hp w)(hF:bW L nx E){t:TypeId}{x:V}{v:Value}(hx:RV E x v){e:bM}(h:Fi nx t x=some e):pM P L hp nx E w e (Instr.box t v):=by
 obtain⟨l,h,h1,h2⟩:=hZ h hx
 cases h
 intro hL
 obtain⟨E',a1,a2,a3,a4,a5,a6,a7⟩:=lk (P:=P) hH hF hL t h1 h2
 refine⟨.pointer (some ⟨w.heap.size,0,none⟩),_,E',?_,?_,a5,a6,a7⟩
 ·simp[Instr.box,newVar,a1]
 ·show RV E' (.p nx 0) _
  simp only[RV];exact⟨_,a2,rfl⟩
def ID(E:Env):List (Nat×V)→List (Nat×Value)→Prop
 |[],l=>l= []
 |(i,x)::ps,l=>∃v r,l=(i,v)::r∧RV E x v∧ID E ps r
noncomputable def wU(place:Nat→Option (Nat×Nat))(ps:List (Nat×V)):V→Option V:=
 @List.rec (Nat×V) (fun _=>V→Option V) (fun c=>some c)
  (fun p _ ih c=>bO (place p.1) fun os=>p.2.CD fun l=>bF (Nat.beq (ot l) os.2) (bO (wQ os.1 l c) fun c'=>ih c')) ps
theorem nD{place:Nat→Option (Nat×Nat)}:∀{ps:List (Nat×V)}{vs:List (Nat×Value)}{c c':V}{cells:Array Value},ID E ps vs→aQ E c cells.toList→c.bU=true→wU place ps c=some c'→
 ∃cells',Instr.fill place cells vs=some cells'∧aQ E c' cells'.toList∧c'.bU=true∧cells'.size=cells.size
 |
  [],vs,c,c',cells,hp,hc,ho,h=>by
  have hp:vs= []:=hp
  subst hp;cases(show some c=some c' from h)
  exact⟨cells,rfl,hc,ho,rfl⟩
 |
  (i,x)::ps,vs,c,c',cells,⟨v,r,hvs,hx,hp⟩,hc,ho,h=>by
  subst hvs
  obtain⟨os,h1,h⟩:=ab (show(bO (place i) fun os=>x.CD fun l=>bF (Nat.beq (ot l) os.2) (bO (wQ os.1 l c) fun c'=>wU place ps c'))=some c' from h)
  obtain⟨l,h,h2,h3⟩:=hZ h hx
  obtain⟨h4,h⟩:=al h
  obtain⟨c1,h5,h⟩:=ab h
  obtain⟨n1,n2,n3⟩:=nA h2 hc h5
  have hsz:v.cells.size=os.2:=by rw[←bK h4,h2.len];simp
  simp only[Array.length_toList] at n1 n2
  obtain⟨cells1,f1,f2⟩:=Abs.kX place cells i os.1 os.2 v r (by rw[h1]) hsz (by rw[←hsz];simpa using n1)
  rw[←hsz] at f2
  obtain⟨cells',g1,g2,g3,g4⟩:=nD (place:=place) (ps:=ps) (vs:=r) (c:=c1) (c':=c') (cells:=cells1) hp (by rw[f2];exact n2) (n3 h3 ho) h
  refine⟨cells',by rw[f1,g1],g2,g3,?_⟩
  rw[g4]
  have:=congrArg List.length f2
  simp at this n1;omega
noncomputable def places(P:Program)(fs:List Field):Option (List (Nat×Nat)):=
 @List.rec Field (fun _=>Option (List (Nat×Nat))) (some []) (fun f _ ih=>bO (P.info? f.type) fun i=>bO ih fun r=>some ((f.offset,i.size)::r)) fs
theorem sY:∀{fs:List Field}{l:List (Nat×Nat)},places P fs=some l→(∀f∈fs,∃i,P.info? f.type=some i)∧l=fs.map (fun f=>(f.offset,((P.info? f.type).map (·.size)).getD 0))
 |[],l,h=>by cases h;exact⟨fun f hf=>(by cases hf),rfl⟩
 |
  f::fs,l,h=>by
  obtain⟨i,h1,h⟩:=ab (show(bO (P.info? f.type) fun i=>bO (places P fs) fun r=>some ((f.offset,i.size)::r))=some l from h)
  obtain⟨r,h2,h⟩:=ab h
  cases h
  obtain⟨a1,a2⟩:=sY (fs:=fs) h2
  refine⟨fun f' hf'=>?_,by rw[a2];simp[h1]⟩
  rcases List.mem_cons.1 hf' with e|e
  ·subst e;exact⟨i,h1⟩
  ·exact a1 f' e
noncomputable def eD{α:Type}(l:List α):Nat→Option α:=
 @List.rec α (fun _=>Nat→Option α) (fun _=>none) (fun a _ ih n=>@Nat.rec (fun _=>Option α) (some a) (fun m _=>ih m) n) l
theorem dZ{α:Type}:∀(l:List α)(n:Nat),eD l n=l[n]?
 |[],n=>rfl
 |a::l,0=>rfl
 |a::l,n+1=>by show eD l n=_;rw[dZ l n];simp
noncomputable def kY(P:Program)(t:TypeId)(ps:List (Nat×V)):Option V:=
 bO (P.underlying t) fun d=>bO (zeroV P t) fun z=>z.CD fun c=>
  match d with
  | .struct fs=>bO (places P fs.toList) fun pl=>bO (wU (eD pl) ps c) fun r=>some (.agg r)
  | .array _ e=>bO (P.info? e) fun i=>bO (wU (fun j=>some (Nat.mul j i.size,i.size)) ps c) fun r=>some (.agg r)
  |_=>none
theorem yd{t:TypeId}{ps:List (Nat×V)}{vs:Array (Nat×Value)}(hp:ID E ps vs.toList){r:V}(h:kY P t ps=some r):∃v,(Instr.build t vs).run P w= .ok v w∧RV E r v:=by
 obtain⟨d,hd,h⟩:=ab h
 obtain⟨z,hz,h⟩:=ab h
 obtain⟨v,z1,z2⟩:=kO (E:=E) (w:=w) hz
 obtain⟨c,h,h1,h2⟩:=hZ h z2
 cases d with
 |
  struct fs=>
  obtain⟨pl,p1,h⟩:=ab h
  obtain⟨r',f1,h⟩:=ab h
  cases h
  obtain⟨a1,a2⟩:=sY p1
  obtain⟨cells',g1,g2,g3,_⟩:=nD hp h1 h2 f1
  have hm:(fs.mapM fun f=>do pure (f.offset,←sizeOf f.type):Sem _).run P w= .ok (fs.map fun f=>(f.offset,((P.info? f.type).map (·.size)).getD 0)) w:=by
   refine Abs.vI _ _ fs ?_
   intro f hf
   obtain⟨i,hi⟩:=a1 f hf
   simp[aY hi,hi]
  have hpl:(fun i=>(fs.map fun f=>(f.offset,((P.info? f.type).map (·.size)).getD 0))[i]?)=eD pl:=by
   funext i
   rw[dZ,a2];simp
  refine⟨.agg cells',?_,by simp only[RV];exact⟨_,rfl,g2,g3⟩⟩
  simp only[Instr.build,Sem.run_bind,z1,Result.andThen_ok,aw hd,hm]
  rw[hpl,g1]
  simp
 |
  array n e=>
  obtain⟨i,hi,h⟩:=ab h
  obtain⟨r',f1,h⟩:=ab h
  cases h
  obtain⟨cells',g1,g2,g3,_⟩:=nD hp h1 h2 f1
  refine⟨.agg cells',?_,by simp only[RV];exact⟨_,rfl,g2,g3⟩⟩
  simp only[Instr.build,Sem.run_bind,z1,Result.andThen_ok,aw hd,aY hi]
  have:(fun j=>some (j*i.size,i.size))=(fun j=>some (Nat.mul j i.size,i.size)):=rfl
  rw[this,g1]
  simp
 |_=>cases h
noncomputable def CJ(n:Nat)(z:V):V:=@Nat.rec (fun _=>V) .nil (fun _ ih=>ij z ih) n
theorem zB{z:V}{zs:List Value}(h:aQ E z zs)(ho:z.bU=true):∀n,aQ E (CJ n z) (List.replicate n zs).flatten∧(CJ n z).bU=true
 |0=>⟨by simp[CJ,aQ],rfl⟩
 |
  n+1=>by
  obtain⟨h1,h2⟩:=zB h ho n
  refine⟨?_,nz ho h2⟩
  rw[List.replicate_succ,List.flatten_cons]
  exact h.app h1
theorem zC(zs:Array Value)(hz:0<zs.size):∀n,((Array.range (n*zs.size)).map (zs[· % zs.size]!)).toList=(List.replicate n zs.toList).flatten
 |0=>by simp
 |
  n+1=>by
  have ih:=zC zs hz n
  simp only[Array.toList_map,Array.toList_range] at ih ⊢
  rw[Nat.add_mul,Nat.one_mul,List.range_add,List.map_append,ih,List.replicate_succ',List.flatten_append]
  congr 1
  simp only[List.map_map,List.flatten_cons,List.flatten_nil,List.append_nil]
  apply List.ext_getElem?
  intro i
  rw[List.getElem?_map]
  rcases Nat.lt_or_ge i zs.size with hi|hi
  ·rw[List.getElem?_range hi]
   simp only[Option.map_some,Function.comp]
   rw[show(n*zs.size+i) % zs.size=i from by rw[Nat.mul_comm,Nat.mul_add_mod];exact Nat.mod_eq_of_lt hi]
   simp[hi]
  ·rw[List.getElem?_eq_none (by simpa using hi),List.getElem?_eq_none (by simpa using hi)];rfl
end
end Go.Cm
namespace Go.Cm
section
variable{P:Program} {E:Env} {w:World}
noncomputable def EI(P:Program)(e:TypeId)(size n:Nat):Option V:=
 @Bool.rec (fun _=>Option V) (bO (zeroV P e) fun z=>z.CD fun c=>bF (Nat.beq (ot c) size) (some (CJ n c))) (some .nil) (Nat.beq (Nat.mul n size) 0)
theorem zD{e:TypeId}{size n:Nat}{c:V}(h:EI P e size n=some c)(w:World):∃cells:Array Value,((n*size=0∧cells= #[])∨(n*size≠0∧∃v,(zeroValue e).run P w= .ok v w∧cells=v.cells))∧aQ E c ((Array.range (n*size)).map (cells[· % cells.size]!)).toList∧c.bU=true:=by
 unfold EI at h
 by_cases hn:n*size=0
 ·have:Nat.beq (Nat.mul n size) 0=true:=by show Nat.beq (n*size) 0=true;rw[hn];rfl
  rw[this] at h
  cases h
  exact⟨#[],Or.inl ⟨hn,rfl⟩,by rw[hn];simp[aQ],rfl⟩
 ·have:Nat.beq (Nat.mul n size) 0=false:=by
   cases hb:Nat.beq (Nat.mul n size) 0 with
   |false=>rfl
   |true=>exact absurd (bK hb) hn
  rw[this] at h
  obtain⟨z,hz,h⟩:=ab (show(bO (zeroV P e) fun z=>z.CD fun c=>bF (Nat.beq (ot c) size) (some (CJ n c)))=some c from h)
  obtain⟨v,z1,z2⟩:=kO (E:=E) (w:=w) hz
  obtain⟨c0,h,h1,h2⟩:=hZ h z2
  obtain⟨h3,h⟩:=al h
  cases h
  have hs:v.cells.size=size:=by rw[←bK h3,h1.len];simp
  obtain⟨r1,r2⟩:=zB h1 h2 n
  refine⟨v.cells,Or.inr ⟨hn,v,z1,rfl⟩,?_,r2⟩
  rw[←hs,zC v.cells (by
   rcases Nat.eq_zero_or_pos v.cells.size with h0|h0
   ·rw[hs] at h0;rw[h0] at hn;simp at hn
   ·exact h0)]
  exact r1
noncomputable def dR(P:Program)(nx:Id)(t:TypeId)(len:Nat)(ps:List (Nat×V)):Option bM:=
 bO (P.underlying t) fun d=>match d with
  | .slice e=>bO (P.info? e) fun i=>bF (Nat.ble (Nat.mul len i.size) 16777216) (bO (EI P e i.size len) fun c=>bO (wU (fun j=>some (Nat.mul j i.size,i.size)) ps c) fun r=>some (.nw (.sl nx 0 len len) (.c r e)))
  |_=>none
theorem pa{L:Nat}{hp:T ak}{nx:Id}(hH:RH E hp w)(hF:bW L nx E){t:TypeId}{len:Nat}{ps:List (Nat×V)}{vs:Array (Nat×Value)}(hps:ID E ps vs.toList){ef:bM}(h:dR P nx t len ps=some ef):pM P L hp nx E w ef (Instr.buildSlice t len vs):=by
 obtain⟨d,hd,h⟩:=ab h
 cases d with
 |
  slice e=>
  obtain⟨i,hi,h⟩:=ab h
  obtain⟨h0,h⟩:=al h
  obtain⟨c,hc,h⟩:=ab h
  obtain⟨r,hr,h⟩:=ab h
  cases h
  intro hL
  obtain⟨z,z1,z2,z3⟩:=zD (E:=E) hc w
  obtain⟨cells',g1,g2,g3,_⟩:=nD hps z2 z3 hr
  obtain⟨E',a1,a2,a3,a4,a5,a6,a7⟩:=lk (P:=P) hH hF hL e g2 g3
  have h0:=Nat.le_of_ble_eq_true h0
  have hns:¬(len*i.size>2^24):=by show¬(len*i.size>16777216);exact Nat.not_lt.2 h0
  refine⟨.slice (some ⟨w.heap.size,0,none⟩) len len,_,E',?_,?_,a5,a6,a7⟩
  ·have g1:Instr.fill (fun j=>some (j*i.size,i.size)) ((Array.range (len*i.size)).map (z[· % z.size]!)) vs.toList=some cells':=g1
   rcases z1 with⟨y1,y2⟩|⟨y1,v,y2,y3⟩
   ·subst y2
    simp only[Instr.buildSlice,Sem.run_bind,aw hd,Result.andThen_ok,aY hi,if_neg hns,Sem.run_pure,if_pos y1]
    rw[g1]
    simp[a1]
   ·subst y3
    simp only[Instr.buildSlice,Sem.run_bind,aw hd,Result.andThen_ok,aY hi,if_neg hns,Sem.run_pure,if_neg y1,y2]
    rw[g1]
    simp[a1]
  ·show RV E' (.sl nx 0 len len) _
   simp only[RV];exact⟨_,a2,rfl⟩
 |_=>cases h
noncomputable def dM(P:Program)(s:TypeId)(x:V)(i:Nat):Option V:=
 bO (P.underlying s) fun d=>match d with
  | .struct fs=>bO (eD fs.toList i) fun f=>bO (P.info? f.type) fun j=>bF (dr (Nat.beq j.size 0)) (x.ptr fun b o=>fN (Nat.add o f.offset) fun o'=>some (.p b o'))
  |_=>none
theorem gO{s:TypeId}{x r:V}{i:Nat}{vx:Value}(hx:RV E x vx)(h:dM P s x i=some r):∃v,(Instr.fieldAt s vx i).run P w= .ok v w∧RV E r v:=by
 obtain⟨d,hd,h⟩:=ab h
 cases d with
 |
  struct fs=>
  obtain⟨f,hf,h⟩:=ab h
  obtain⟨j,hj,h⟩:=ab h
  obtain⟨h0,h⟩:=al h
  obtain⟨b,o,hxe,hq⟩:=eC h
  subst hxe
  rw[cF] at hq
  cases hq
  simp only[RV] at hx
  obtain⟨g,hg,rfl⟩:=hx
  rw[dZ] at hf
  have hf':fs[i]? =some f:=by simpa using hf
  have hne:¬j.size=0:=fun e=>by rw[e] at h0;cases h0
  refine⟨.pointer (some ⟨g,o+f.offset,none⟩),?_,by simp only[RV];exact⟨g,hg,rfl⟩⟩
  simp[Instr.fieldAt,aw hd,hf',Instr.sureAddr,fieldPlace,aY hj,hne,dP]
 |_=>cases h
noncomputable def Fj{α:Type}(n:Int)(f:Nat→Option α):Option α:=@Int.rec (fun _=>Option α) f (fun _=>none) n
theorem ic{α:Type}{n:Int}{f:Nat→Option α}{y:α}(h:Fj n f=some y):∃m:Nat,n= .ofNat m∧f m=some y:=by
 cases n with
 |ofNat m=>exact⟨m,rfl,h⟩
 |negSucc m=>cases h
noncomputable def eR(P:Program)(t:TypeId)(x y:V):Option V:=
 y.int fun _ n=>Fj n fun n=>bO (P.underlying t) fun d=>match d with
  | .array len e=>bO (P.info? e) fun i=>bF (Nat.ble (Nat.succ n) len) (x.ptr fun b o=>fN (Nat.add o (Nat.mul n i.size)) fun o'=>some (.p b o'))
  | .slice e=>bO (P.info? e) fun i=>x.uJ (fun b o l _=>bF (Nat.ble (Nat.succ n) l) (fN (Nat.add o (Nat.mul n i.size)) fun o'=>some (.p b o'))) (fun b o l _=>bF (Nat.ble (Nat.succ n) l) (fN (Nat.add o (Nat.mul n i.size)) fun o'=>some (.p b o'))) none
  |_=>none
theorem gP{t:TypeId}{x y r:V}{vx vy:Value}(hx:RV E x vx)(hy:RV E y vy)(h:eR P t x y=some r):∃v,(Instr.indexAt t vx vy).run P w= .ok v w∧RV E r v:=by
 obtain⟨k,n,rfl,h⟩:=bc h
 obtain⟨m,rfl,h⟩:=ic h
 obtain⟨d,hd,h⟩:=ab h
 simp only[RV] at hy
 subst hy
 cases d with
 |
  array len e=>
  obtain⟨i,hi,h⟩:=ab h
  obtain⟨h0,h⟩:=al h
  obtain⟨b,o,hxe,hq⟩:=eC h
  subst hxe
  rw[cF] at hq
  cases hq
  simp only[RV] at hx
  obtain⟨g,hg,rfl⟩:=hx
  have h0:=Nat.le_of_ble_eq_true h0
  refine⟨.pointer (some ⟨g,o+m*i.size,none⟩),?_,by simp only[RV];exact⟨g,hg,rfl⟩⟩
  have hlt:m<len:=h0
  simp[Instr.indexAt,asIntOf,aw hd,Instr.sureAddr,hlt,aY hi,dP]
 |
  slice e=>
  obtain⟨i,hi,h⟩:=ab h
  rcases cP h with⟨b,o,l,c,rfl,h⟩|⟨b,o,l,c,rfl,h⟩|⟨_,h⟩
  ·obtain⟨h0,hq⟩:=al h
   rw[cF] at hq
   cases hq
   simp only[RV] at hx
   obtain⟨g,hg,rfl⟩:=hx
   have h0:=Nat.le_of_ble_eq_true h0
   refine⟨.pointer (some ⟨g,o+m*i.size,none⟩),?_,by simp only[RV];exact⟨g,hg,rfl⟩⟩
   have hlt:m<l:=h0
   simp[Instr.indexAt,asIntOf,aw hd,hlt,aY hi,dP]
  ·obtain⟨h0,hq⟩:=al h
   rw[cF] at hq
   cases hq
   simp only[RV] at hx
   obtain⟨g,cap,hg,rfl,_⟩:=hx
   have h0:=Nat.le_of_ble_eq_true h0
   refine⟨.pointer (some ⟨g,o+m*i.size,none⟩),?_,by simp only[RV];exact⟨g,hg,rfl⟩⟩
   have hlt:m<l:=h0
   simp[Instr.indexAt,asIntOf,aw hd,hlt,aY hi,dP]
  ·cases h
 |_=>cases h
noncomputable def CK(P:Program)(t:TypeId)(l:V)(o:Nat):Option V:=
 bO (P.underlying t) fun d=>@Bool.rec (fun _=>Option V) (oZ o l) (bO (P.info? t) fun i=>bO (cA o i.size l) fun r=>some (.agg r)) (kN d)
theorem wV{t:TypeId}{l r:V}{o:Nat}{a:Array Value}(hl:aQ E l a.toList)(ho:l.bU=true)(h:CK P t l o=some r):∃v,(part t a o).run P w= .ok v w∧RV E r v:=by
 obtain⟨d,hd,h⟩:=ab h
 cases ha:kN d with
 |
  false=>
  rw[ha] at h
  obtain⟨v,n1,n2,_⟩:=uB hl (show oZ o l=some r from h)
  have:a[o]? =some v:=by simpa using n1
  exact⟨v,by simp[part,eZ hd,ha,this],n2⟩
 |
  true=>
  rw[ha] at h
  obtain⟨i,hi,h⟩:=ab (show(bO (P.info? t) fun i=>bO (cA o i.size l) fun r=>some (.agg r))=some r from h)
  obtain⟨r',hr,h⟩:=ab h
  cases h
  obtain⟨n1,n2,n3⟩:=hJ hl hr
  refine⟨.agg (a.extract o (o+i.size)),by simp[part,eZ hd,ha,aY hi],?_⟩
  simp only[RV]
  refine⟨_,rfl,?_,n3 ho⟩
  have:(a.extract o (o+i.size)).toList=(a.toList.drop o).take i.size:=by
   simp[Array.toList_extract,List.extract]
  rw[this];exact n2
noncomputable def zE(P:Program)(t:TypeId)(x:V)(i:Nat):Option V:=
 bO (P.underlying t) fun d=>match d with
  | .struct fs=>bO (eD fs.toList i) fun f=>x.ag fun l=>CK P f.type l f.offset
  |_=>none
theorem ye{t:TypeId}{x r:V}{i:Nat}{vx:Value}(hx:RV E x vx)(h:zE P t x i=some r):∃v,(Instr.field t vx i).run P w= .ok v w∧RV E r v:=by
 obtain⟨d,hd,h⟩:=ab h
 cases d with
 |
  struct fs=>
  obtain⟨f,hf,h⟩:=ab h
  obtain⟨l,rfl,h⟩:=eJ h
  simp only[RV] at hx
  obtain⟨a,rfl,h1,h2⟩:=hx
  obtain⟨v,p1,p2⟩:=wV (w:=w) h1 h2 h
  rw[dZ] at hf
  have hf':fs[i]? =some f:=by simpa using hf
  exact⟨v,by simp[Instr.field,aw hd,hf',asAgg,p1],p2⟩
 |_=>cases h
noncomputable def ld(P:Program)(t:TypeId)(x y:V):Option V:=
 y.int fun _ n=>Fj n fun n=>bO (P.underlying t) fun d=>match d with
  | .array len e=>bF (Nat.ble (Nat.succ n) len) (bO (P.info? e) fun i=>x.ag fun l=>CK P e l (Nat.mul n i.size))
  | .string=>x.str fun l=>bO (eD l n) fun c=>some (.i .u8 (.ofNat c))
  |_=>none
theorem mf{t:TypeId}{x y r:V}{vx vy:Value}(hx:RV E x vx)(hy:RV E y vy)(h:ld P t x y=some r):∃v,(Instr.index t vx vy).run P w= .ok v w∧RV E r v:=by
 obtain⟨k,n,rfl,h⟩:=bc h
 obtain⟨m,rfl,h⟩:=ic h
 obtain⟨d,hd,h⟩:=ab h
 simp only[RV] at hy
 subst hy
 cases d with
 |
  array len e=>
  obtain⟨h0,h⟩:=al h
  obtain⟨i,hi,h⟩:=ab h
  obtain⟨l,rfl,h⟩:=eJ h
  simp only[RV] at hx
  obtain⟨a,rfl,h1,h2⟩:=hx
  obtain⟨v,p1,p2⟩:=wV (w:=w) h1 h2 h
  have h0:=Nat.le_of_ble_eq_true h0
  have hlt:m<len:=h0
  have p1':(part e a (m*i.size)).run P w= .ok v w:=p1
  exact⟨v,by simp[Instr.index,asIntOf,aw hd,hlt,aY hi,p1'],p2⟩
 |
  string=>
  obtain⟨l,rfl,h⟩:=dC h
  obtain⟨c,hc,h⟩:=ab h
  cases h
  simp only[RV] at hx
  obtain⟨h1,rfl⟩:=hx
  rw[dZ] at hc
  have hlt:m<l.length:=(List.getElem?_eq_some_iff.1 hc).1
  have hc256:c<256:=h1 c (List.mem_of_getElem? hc)
  have hsz:(eB l).size=l.length:=by show(eB l).data.size=_;simp[eB]
  have hb:(eB l)[m]? =some (UInt8.ofNat c):=by
   have e:(eB l)[m]? =(eB l).data[m]? :=by
    show(if h:m<(eB l).size then some (eB l)[m] else none)=_
    rw[dif_pos (by rw[hsz];exact hlt)]
    symm
    exact Array.getElem?_eq_getElem (xs:=(eB l).data) (by show m<(eB l).size;rw[hsz];exact hlt)
   rw[e]
   simp[eB,hc]
  refine⟨.int .u8 (UInt8.ofNat c).toNat,?_,?_⟩
  ·simp only[Instr.index,asIntOf,Sem.run_bind,Sem.run_pure,Result.andThen_ok,aw hd]
   simp only[Int.ofNat_eq_natCast,Int.natCast_nonneg,if_true,Int.toNat_natCast,hb]
   simp
  ·simp only[RV]
   congr 1
   simp;omega
 |_=>cases h
end
end Go.Cm
