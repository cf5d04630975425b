/- The machines: what it means to be walked or run, part 4. No condition. -/
import Derived.Test.YtpmlkhjpbjnagaaGreatA3
import Derived.Laws.Cover3
import Derived.RangeFuncRecord
namespace Go.Ax
def IU(b:Nat):AV→Bool
 | .own c| .ju c _ _| .eK c=> !Nat.beq c b
 | .func _ fs cs=>IU b fs&&IU b cs&&fs.atoms&&cs.atoms
 | .iface _ v=>IU b v
 | .cons a c=>IU b a&&IU b c
 | .bot| .gm _| .opt _ _=>false
 |_=>true
def mL(b:Nat)(x:AV):Option AV:=if IU b x then some x else none
def Env.rs(E:Env)(b:Nat)(v:Value):Env:={E with sv:=fun c=>if c=b then v else E.sv c}
theorem Env.BO{E:Env}{b c:Nat}{v:Value}(h:c≠b):(E.rs b v).sv c=E.sv c:=by simp[Env.rs,h]
theorem J7{E:Env}{w:World}{b:Nat}{u:Value}:∀{x:AV}{vs:List Value},IU b x=true→RC E w x vs→RC (E.rs b u) w x vs:=by
 intro x
 have ne:∀{c:Nat},(!Nat.beq c b)=true→c≠b:=fun h e=>by simp_all
 induction x with
 |ju c lo len=>intro vs h hr;simp only[RC];rw[Env.BO (ne h)];exact hr
 |own c=>intro vs h hr;simp only[RC];rw[Env.BO (ne h)];exact hr
 |eK c=>intro vs h hr;simp only[RC];rw[Env.BO (ne h)];exact hr
 |
  func fn fs cs ih1 ih2=>
  intro vs h hr
  simp only[IU,bB] at h
  obtain⟨f,c,e,h1,h2,h3,h4⟩:=hr
  exact⟨f,c,e,ih1 h.1.1.1 h1,ih2 h.1.1.2 h2,h3,h4⟩
 |
  iface t v ih=>
  intro vs h hr
  obtain⟨x,e,hr⟩:=hr
  refine⟨x,e,?_⟩
  rcases hr with⟨h1,cs,e2,h3⟩|⟨h1,h3⟩
  ·exact Or.inl ⟨h1,cs,e2,ih h h3⟩
  ·exact Or.inr ⟨h1,ih h h3⟩
 |
  cons a c ih1 ih2=>
  intro vs h hr
  simp only[IU,bB] at h
  obtain⟨v1,v2,e,h1,h2⟩:=hr
  exact⟨v1,v2,e,ih1 h.1 h1,ih2 h.2 h2⟩
 |bot=>intro vs h;trivial
 |gm l=>intro vs h;trivial
 |opt c v=>intro vs h;trivial
 |_=>intro vs h hr;exact hr
theorem TA{E:Env}{w:World}{b:Nat}{v:Value}:Good E (E.rs b v) w (mL b) where
 rc:=by
  grind [mL,J7]
 agg:=by
  grind [mL]
 mp:=by
  intro c y h
  unfold mL at h
  split at h
  ·cases h;rfl
  grind
 fn:=by
  intro fn fs cs y h
  unfold mL at h
  split at h
  ·rename_i hn
   cases h
   simp only[IU,bB] at hn
   exact⟨fs,cs,rfl,by unfold mL;grind,by unfold mL;grind,hn.1.2,hn.2⟩
  grind
theorem cp.rs{gl:Ctx}{σ:St}{E:Env}{a:Act}{w:World}(hg:cp gl σ E a w){b:Nat}{k k':aP}{ty:Value}{σ1:St}(hb:σ.hp[b]? =some (some k))(h16:16≤b)(hm:St.gk (mL b) {σ with hp:=σ.hp.set b none}=some σ1)(hk:RB (E.rs b ty) w b k'):
 cp gl {σ1 with hp:=σ1.hp.set b (some k')} (E.rs b ty) a w∧Ext gl.md (bK σ.hp E) E w (bK (σ1.hp.set b (some k')) (E.rs b ty)) (E.rs b ty) w:=by
 have anD:=TA (E:=E) (w:=w) (b:=b) (v:=ty)
 unfold St.gk at hm
 split at hm
 ·rename_i hp' df' h3 h4
  cases hm
  have src:∀(i:Nat)(k2:aP),(hp'.set b (some k'))[i]? =some (some k2)→(i=b∧k'=k2)∨(i≠b∧∃k0,σ.hp[i]? =some (some k0)∧i5 (mL b) (some k0)=some (some k2)):=by
   intro i k2 hi
   rw[dm] at hi
   split at hi
   ·grind
   ·rename_i hne
    obtain⟨k0,e1,e2⟩:=jM h3 hi
    grind
  have any:∀(i:Nat)(k2:aP),(hp'.set b (some k'))[i]? =some (some k2)→∃k0,σ.hp[i]? =some (some k0):=by
   grind
  refine⟨⟨?_,?_,⟨?_,?_,?_,hg.hw.slt,hg.hw.gl,?_⟩,anD.RD h4 hg.df⟩,⟨rfl,Tp.r rfl rfl,rfl,dc _,fun _ _ _=>rfl,fun _ h=>h,fun _ h=>Or.inl h,?_,fun i hi=>⟨rfl,Env.BO (by omega),rfl⟩⟩⟩
  ·simp only[jK];exact hg.len
  ·intro i y hy v hv
   rcases jL hy with e|⟨x,e1,e2,e3⟩
   ·subst e;trivial
   ·exact RV.eI (anD.RV e3 (RV.iZ e2 (hg.tm i x e1 v hv)))
  ·intro i k2 hi
   rcases src i k2 hi with⟨e,e'⟩|⟨e1,k0,e3,e4⟩
   ·grind
   ·exact anD.RB (fun _ h=>h) (b:=i) (b':=i) rfl (Env.BO e1) rfl (fun _ _ h=>h) e4 (hg.hw.cX i k0 e3)
  ·intro i j k2 k3 g hi hj g1 g2
   obtain⟨k4,e1⟩:=any i k2 hi
   obtain⟨k5,e2⟩:=any j k3 hj
   exact hg.hw.eH i j k4 k5 g e1 e2 g1 g2
  ·intro i k2 g hi hgi hs
   obtain⟨k4,e1⟩:=any i k2 hi
   exact hg.hw.dL i k4 g e1 hgi hs
  ·intro i k2 g hi hgi
   obtain⟨k4,e1⟩:=any i k2 hi
   exact hg.hw.sZ i k4 g e1 hgi
  ·rintro g ⟨i,k2,hi,hgi⟩
   obtain⟨k4,e1⟩:=any i k2 hi
   exact Or.inl ⟨i,k4,e1,hgi⟩
 grind
def oQ(b:Nat)(σ:St):Option St:=
 match eG σ.hp b with
 |
  some (.pmap k t es e2 (some (kx,v,pr)))=>if Nat.ble 16 b&&k.keyed&&IU b v then(match St.gk (mL b) {σ with hp:=σ.hp.set b none} with
  |some σ1=>some {σ1 with hp:=σ1.hp.set b (some (.gr k t es e2 kx v pr))}
  |none=>none) else none
 |_=>none
def J8(b:Nat)(t:Ty)(x:t.den)(σ:St):Option St:=
 match eG σ.hp b with
 |
  some (.map k v es)=>if h:Ty.same t k=true then(if Nat.ble 16 b&&k.keyed then(match St.gk (mL b) {σ with hp:=σ.hp.set b none} with
  |some σ1=>some {σ1 with hp:=σ1.hp.set b (some (.mw k v es (Ty.aB h▸x)))}
  |none=>none) else none) else none
 |_=>none
def mM(b:Nat)(σ:St):Option St:=
 match eG σ.hp b with
 |some (.gr k t es e2 kx v pr)=>some {σ with hp:=σ.hp.set b (some (.pmap k t es e2 (some (kx,v,pr))))}
 |_=>none
theorem PM.rs{E:Env}{w:World}{b:Nat}{u:Value}{kt t:Ty}{es:List (kt.den×t.den)}{e2:TypeId}{kx:kt.den}{v:AV}{pr:Bool}(hn:IU b v=true)(h:PM E w b kt t es e2 (some (kx,v,pr))):PM (E.rs b u) w b kt t es e2 (some (kx,v,pr)):=by
 obtain⟨h1,h2,h3,g,en,clock,og,q1,q2,q3,q4,q5,q6,q7,q8⟩:=h
 refine⟨h1,h2,h3,g,en,clock,og,q1,q2,q3,q4,q5,q6,fun i x hx=>?_,fun kx' v'=>⟨fun hf hnn=>?_,(q8 kx' v').2⟩⟩
 ·obtain⟨m,r1,r2,r3,r4⟩:=q7 i x hx
  refine⟨m,r1,cE.mono (E:=E) (E':=E.rs b u) ⟨fun _ _=>rfl,fun _ h=>h⟩ (fun _ hb=>by cases hb) r2,fun v' pr' hv'=>?_,fun hv'=>r4 hv'⟩
  grind [J7]
 grind [J7]
theorem Wk.oQ{gl:Ctx}{b:Nat}{σ σ':St}(h:Ax.oQ b σ=some σ'):Wk gl σ σ':=by
 intro E a w hg
 unfold Ax.oQ at h
 split at h
 case h_2=>cases h
 rename_i k t es e2 kx v pr hb0
 have hb:=cq σ.hp b _ hb0
 split at h
 case isFalse=>cases h
 rename_i hc
 simp only[bB] at hc
 obtain⟨⟨c1,c2⟩,c3⟩:=hc
 split at h
 case h_2=>cases h
 rename_i σ1 hm
 cases h
 have hpm:PM E w b k t es e2 (some (kx,v,pr)):=hg.hw.cX b _ hb
 have hpm':=hpm
 obtain⟨z1,z2,z3,g,en,clock,og,y1,y2,y3,y4,y5,y6,y7,y8⟩:=hpm'
 have key:∃n:Nat,(kx∉es.map (·.1)→n=clock)∧∀(i:Nat)(m:MapEntry)(y:t.den),es[i]? =some (kx,y)→en[i]? =some m→m.born=n:=by
  by_cases hin:kx∈es.map (·.1)
  ·obtain⟨⟨zk,zy⟩,hz,ez⟩:=List.mem_map.1 hin
   simp only at ez;subst ez
   obtain⟨i,s1⟩:=List.getElem?_of_mem hz
   obtain⟨m,s2,_⟩:=y7 i _ s1
   refine⟨m.born,fun hh=>absurd hin hh,fun j m' y hj hm'=>?_⟩
   grind [rK]
  ·refine⟨clock,fun _=>rfl,fun j m' y hj _=>?_⟩<;>grind
 obtain⟨n,k1,k2⟩:=key
 refine⟨_,hg.rs (ty:=.int .i64 n) hb (fI c1) hm ⟨hpm.rs c3,n,g,en,clock,by simp[Env.rs],y1,y2,k1,k2⟩⟩
theorem Wk.J8{gl:Ctx}{b:Nat}{t:Ty}{x:t.den}{σ σ':St}(h:Ax.J8 b t x σ=some σ'):Wk gl σ σ':=by
 intro E a w hg
 unfold Ax.J8 at h
 split at h
 case h_2=>cases h
 rename_i k v es hb0
 have hb:=cq σ.hp b _ hb0
 split at h
 case isFalse=>cases h
 rename_i hs
 have e:=Ty.aB hs;subst e
 split at h
 case isFalse=>cases h
 rename_i hc
 simp only[bB] at hc
 obtain⟨c1,c2⟩:=hc
 split at h
 case h_2=>cases h
 rename_i σ1 hm
 cases h
 obtain⟨q1,q2,g,en,clock,q3,q4,q5,q6,q7⟩:=hg.hw.cX b _ hb
 have key:∃n:Nat,(x∉es.map (·.1)→n=clock)∧∀(i:Nat)(m:MapEntry)(y:v.den),es[i]? =some (x,y)→en[i]? =some m→m.born=n:=by
  by_cases hin:x∈es.map (·.1)
  ·obtain⟨⟨zk,zy⟩,hz,ez⟩:=List.mem_map.1 hin
   simp only at ez;subst ez
   obtain⟨i,s1⟩:=List.getElem?_of_mem hz
   obtain⟨m,s2,_⟩:=RM.idx q5 s1
   have s2:en[i]? =some m:=by simpa using s2
   refine⟨m.born,fun hh=>absurd hin hh,fun j m' y hj hm'=>?_⟩
   have e:=rK q1 hj s1
   subst e
   rw[s2] at hm';cases hm';rfl
  ·refine⟨clock,fun _=>rfl,fun j m' y hj _=>?_⟩
   exact absurd (List.mem_map.2 ⟨_,je hj,rfl⟩) hin
 obtain⟨n,k1,k2⟩:=key
 exact⟨_,hg.rs (ty:=.int .i64 n) hb (fI c1) hm ⟨q1,q2,g,en,clock,q3,q4,RM.mono (E:=E) (E':=E.rs b (.int .i64 n)) ⟨fun _ _=>rfl,fun _ h=>h⟩ q5,q6,q7,n,by simp[Env.rs],k1,k2⟩⟩
theorem Wk.mM{gl:Ctx}{b:Nat}{σ σ':St}(h:Ax.mM b σ=some σ'):Wk gl σ σ':=by
 intro E a w hg
 unfold Ax.mM at h
 split at h
 ·rename_i k t es e2 kx v pr hb0
  have hb:=cq σ.hp b _ hb0
  cases h
  obtain⟨hpm,_⟩:=hg.hw.cX b _ hb
  have hw:=hg.hw.write (w':=w) (k':=.pmap k t es e2 (some (kx,v,pr))) hb rfl (fun _ _=>rfl) hpm
  exact⟨E,hg.carry ⟨fun _ _=>rfl,fun _ h=>h⟩ (fun _ _=>⟨rfl,rfl,rfl⟩) hw,{Ext.refl (md:=gl.md) (bK σ.hp E) E w with own:=fun g hg'=>Or.inl (bK.set hb hg')}⟩
 grind
end Go.Ax
namespace Go.Ax
def N6{α:Type}(le:α→α→Bool)(x:α):List α→List α
 |[]=>[x]
 |y::l=>if le x y then x::y::l else y::N6 le x l
def Hz{α:Type}(le:α→α→Bool):List α→List α
 |[]=>[]
 |x::l=>N6 le x (Hz le l)
theorem xP{α:Type}{le:α→α→Bool}{x:α}:∀{l:List α},(N6 le x l).Perm (x::l)
 |[]=>List.Perm.refl _
 |
  y::l=>by
  simp only[N6]
  split
  ·exact List.Perm.refl _
  ·exact(xP.cons y).trans (List.Perm.swap ..)
theorem xQ{α:Type}{le:α→α→Bool}:∀{l:List α},(Hz le l).Perm l
 |[]=>List.Perm.refl _
 |x::_l=>xP.trans (xQ.cons x)
def xR:(t:Ty)→t.den→t.den→Bool
 | .int _,x,y=>decide (@LE.le Int _ x y)
 | .bool,x,y=> !(x:Bool)||(y:Bool)
 | .pair a b,x,y=>if bD a x.1 y.1 then xR b x.2 y.2 else xR a x.1 y.1
 |_,_,_=>true
noncomputable def sF{A R:Type}(xs:List A)(K:List A→Option R):Option R:=
 @dite _ (∃r,∀ys:List A,ys.Perm xs→K ys=some r) (Classical.propDecidable _) (fun h=>some h.choose) (fun _=>none)
theorem DB{A R:Type}{xs:List A}{K:List A→Option R}{r:R}(h:sF xs K=some r){ys:List A}(hp:ys.Perm xs):K ys=some r:=by
 unfold sF at h
 split at h
 ·rename_i hh
  cases h
  exact hh.choose_spec ys hp
 ·cases h
theorem J9{A R:Type}{xs:List A}{K:List A→Option R}{r:R}(h:∀ys:List A,ys.Perm xs→K ys=some r):sF xs K=some r:=by
 unfold sF
 have hh:∃r,∀ys:List A,ys.Perm xs→K ys=some r:=⟨r,h⟩
 rw[dif_pos hh]
 congr 1
 have:=hh.choose_spec xs (List.Perm.refl _)
 rw[h xs (List.Perm.refl _)] at this
 exact(iR this).symm
theorem cp.Xi{gl:Ctx}{σ:St}{E:Env}{a:Act}{w:World}(h:cp gl σ E a w){b:Nat}{e:TypeId}{bs:Nat}{t:Ty}{xs:List t.den}(hb:σ.hp[b]? =some (some (.gu e bs t xs))):
 ∃ys:List t.den,ys.Perm xs∧cp gl {σ with hp:=σ.hp.set b (some (.row e bs t ys))} E a w:=by
 obtain⟨ys,hp,q⟩:=h.hw.cX b _ hb
 exact⟨ys,hp,⟨h.len,h.tm,h.hw.write (w':=w) (k':=.row e bs t ys) hb rfl (fun _ _=>rfl) q,h.df⟩⟩
theorem cp.TB{gl:Ctx}{σ:St}{E:Env}{a:Act}{w:World}{b:Nat}{e:TypeId}{bs:Nat}{t:Ty}{xs ys:List t.den}(h:cp gl σ E a w)(hb:σ.hp[b]? =some (some (.row e bs t ys)))(hp:ys.Perm xs):
 cp gl {σ with hp:=σ.hp.set b (some (.gu e bs t xs))} E a w:=
 ⟨h.len,h.tm,h.hw.write (w':=w) (k':=.gu e bs t xs) hb rfl (fun _ _=>rfl) ⟨ys,hp,h.hw.cX b _ hb⟩,h.df⟩
theorem bK.same{hp:List (Option aP)}{E:Env}{b:Nat}{k k':aP}(hb:hp[b]? =some (some k)):bK (hp.set b (some k')) E=bK hp E:=by
 have hl:b<hp.length:=(List.getElem?_eq_some_iff.1 hb).1
 funext i
 refine propext ⟨bK.i3 hb,fun h=>?_⟩
 have h2:bK ((hp.set b (some k')).set b (some k)) E i:=by
  have e:(hp.set b (some k')).set b (some k)=hp:=by
   apply List.ext_getElem?
   intro j
   rw[dm,dm]
   grind
  rw[e];exact h
 exact bK.i3 (k:=k') (by simp[hl]) h2
def ML(b:Nat)(σ:St):Option St:=
 match eG σ.hp b with
 |some (.row e bs t xs)=>some {σ with hp:=σ.hp.set b (some (.gu e bs t (Hz (xR t) xs)))}
 |_=>none
theorem Wk.ML{gl:Ctx}{b:Nat}{σ σ':St}(h:Ax.ML b σ=some σ'):Wk gl σ σ':=by
 unfold Ax.ML at h
 split at h
 ·rename_i e bs t xs hk
  cases h
  have hb:=cq σ.hp b _ hk
  intro E a w hg
  refine⟨E,hg.TB hb xQ.symm,?_⟩
  show Ext gl.md (bK σ.hp E) E w (bK (σ.hp.set b _) E) E w
  rw[bK.same hb]
  exact Ext.refl _ _ _
 ·cases h
end Go.Ax
namespace Go.Ax
def N7(b b' c:Nat):Nat:=if Nat.beq c b then b' else c
def rn(b b':Nat):AV→Option AV
 | .own c=>some (.own (N7 b b' c))
 | .ju c lo len=>some (.ju (N7 b b' c) lo len)
 | .jj c p lo len=>some (.jj (N7 b b' c) p lo len)
 | .ptr c p=>some (.ptr (N7 b b' c) p)
 | .mp c=>some (.mp (N7 b b' c))
 |
  .func fn fs cs=>match rn b b' fs,rn b b' cs with
  |some f,some c=>if f.atoms&&c.atoms then some (.func fn f c) else none
  |_,_=>none
 |
  .iface u v=>match rn b b' v with
  |some x=>some (.iface u x)
  |none=>none
 |
  .cons x y=>match rn b b' x,rn b b' y with
  |some u,some v=>some (.cons u v)
  |_,_=>none
 | .bot=>none
 | .gm _=>none
 | .opt _ _=>none
 | .eK _=>none
 |x=>some x
def Env.mv(E:Env)(b b':Nat):Env:={E with P:=fun c=>if c=b' then E.P b else E.P c,g:=fun c=>if c=b' then E.g b else E.g c,sv:=fun c=>if c=b' then E.sv b else E.sv c,bt:=fun c=>if c=b' then E.bt b else E.bt c}
theorem xS{E:Env}{b b' c:Nat}(h:c≠b'):(E.mv b b').g (N7 b b' c)=E.g c∧(E.mv b b').sv (N7 b b' c)=E.sv c∧(E.mv b b').bt (N7 b b' c)=E.bt c:=by
 grind [N7,bT,Env.mv]
theorem Ka(b b':Nat)(x y:AV)(h:rn b b' x=some y):y.isAgg=x.isAgg:=by
 cases x with
 |
  func fn fs cs=>
  simp only[rn] at h
  split at h
  ·split at h
   ·cases h;rfl
   grind
  grind
 |
  iface u v=>
  simp only[rn] at h
  split at h
  ·cases h;rfl
  grind
 |
  cons a c=>
  simp only[rn] at h
  split at h
  ·cases h;rfl
  grind
 |bot=>trivial
 |gm l=>trivial
 |opt c v=>trivial
 |eK c=>trivial
 |_=>simp only[rn,dk] at h;subst h;rfl
theorem Xj{E:Env}{w:World}{b b':Nat}:∀{x y:AV}{vs:List Value},b'∉x.ids→rn b b' x=some y→RC E w x vs→RC (E.mv b b') w y vs:=by
 intro x
 induction x with
 |own c=>
  intro y vs hi h hr;simp only[rn,dk] at h;subst h
  obtain⟨_,e2,_⟩:=xS (E:=E) (b:=b) (b':=b') (c:=c) (fun e=>hi (by simp[AV.ids,e]))
  simp only[RC];rw[e2];exact hr
 |ju c lo len=>
  intro y vs hi h hr;simp only[rn,dk] at h;subst h
  obtain⟨_,e2,e3⟩:=xS (E:=E) (b:=b) (b':=b') (c:=c) (fun e=>hi (by simp[AV.ids,e]))
  simp only[RC];rw[e2,e3];exact hr
 |jj c p lo len=>
  intro y vs hi h hr;simp only[rn,dk] at h;subst h
  obtain⟨e1,_,e3⟩:=xS (E:=E) (b:=b) (b':=b') (c:=c) (fun e=>hi (by simp[AV.ids,e]))
  simp only[RC];rw[e1,e3];exact hr
 |ptr c p=>grind [rn,xS,AV.ids,RC]
 |mp c=>grind [rn,xS,AV.ids,RC]
 |
  func fn fs cs ih1 ih2=>
  intro y vs hi h hr
  simp only[rn] at h
  simp only[AV.ids,jB,not_or] at hi
  split at h
  ·rename_i f c h1 h2
   split at h
   ·rename_i ha
    cases h
    simp only[bB] at ha
    obtain⟨f',c',e,r1,r2,_,_⟩:=hr
    exact⟨f',c',e,ih1 hi.1 h1 r1,ih2 hi.2 h2 r2,ha.1,ha.2⟩
   grind
  grind
 |
  iface u v ih=>
  intro y vs hi h hr
  simp only[rn] at h
  split at h
  ·rename_i z hz
   cases h
   obtain⟨x,e,hr⟩:=hr
   refine⟨x,e,?_⟩
   have am9:=Ka b b' v z hz
   rcases hr with⟨h1,cs,e2,h3⟩|⟨h1,h3⟩
   ·exact Or.inl ⟨by grind,cs,e2,ih hi hz h3⟩
   ·exact Or.inr ⟨by grind,ih hi hz h3⟩
  grind
 |
  cons a c ih1 ih2=>
  intro y vs hi h hr
  simp only[rn] at h
  simp only[AV.ids,jB,not_or] at hi
  split at h
  ·rename_i u v h1 h2
   cases h
   obtain⟨v1,v2,e,r1,r2⟩:=hr
   exact⟨v1,v2,e,ih1 hi.1 h1 r1,ih2 hi.2 h2 r2⟩
  grind
 |bot=>intro y vs _ h;trivial
 |gm l=>intro y vs _ h;trivial
 |opt c v=>intro y vs _ h;trivial
 |eK c=>intro y vs _ h;trivial
 |_=>intro y vs _ h hr;simp only[rn,dk] at h;subst h;exact hr
theorem TC{E:Env}{w:World}{b b':Nat}:Good E (E.mv b b') w (fun x=>if cJ b' x.ids then none else rn b b' x) where
 mp:=by
  intro c y h
  split at h
  ·cases h
  ·rename_i hn
   have hn:=fa (show cJ b' (AV.mp c).ids=false by grind)
   grind [rn,xS,AV.ids]
 rc:=by
  grind [Xj,fa]
 agg:=by
  grind [Ka]
 fn:=
  by
  intro fn fs cs y h
  split at h
  ·cases h
  ·rename_i hn
   have hn:=fa (show cJ b' (AV.func fn fs cs).ids=false by grind)
   simp only[AV.ids,jB,not_or] at hn
   simp only[rn] at h
   have f1:cJ b' fs.ids=false:=by
    cases hh:cJ b' fs.ids with
    |false=>rfl
    |true=>exact absurd (hasNatMem hh) hn.1
   have f2:cJ b' cs.ids=false:=by
    cases hh:cJ b' cs.ids with
    |false=>rfl
    |true=>exact absurd (hasNatMem hh) hn.2
   grind
where
 hasNatMem {d:Nat}:∀{l:List Nat},cJ d l=true→d∈l
  |[],h=>by cases h
  |
   x::l,h=>by
   simp only[cJ,fQ] at h
   rcases h with h|h
   ·simp_all
   ·exact d7 _ (hasNatMem h)
def rename(b b':Nat)(σ:St):Option St:=
 match eG σ.hp b,eG σ.hp b' with
 |
  some k,none=>if Nat.beq b b'||Nat.blt b' 16 then none else
  match St.gk (fun x=>if cJ b' x.ids then none else rn b b' x) {σ with hp:=σ.hp.set b none},i5 (fun x=>if cJ b' x.ids then none else rn b b' x) (some k) with
  |some σ',some k'=>some {σ' with hp:=σ'.hp.set b' k'}
  |_,_=>none
 |_,_=>none
theorem Wk.rename{gl:Ctx}{b b':Nat}{σ σ':St}(h:Ax.rename b b' σ=some σ'):Wk gl σ σ':=by
 intro E a w hg
 unfold Ax.rename at h
 split at h
 ·rename_i k hk hk'
  have hbk:=cq σ.hp b k hk
  split at h
  ·cases h
  ·rename_i hne0
   have hne:b≠b':=fun e=>hne0 (by simp[e])
   have h16:16≤b':=by
    simp_all
   split at h
   ·rename_i σ1 k1 h1 h2
    cases h
    unfold St.gk at h1
    split at h1
    ·rename_i hp' df' h3 h4
     cases h1
     have anD:=TC (E:=E) (w:=w) (b:=b) (b':=b')
     have hEh:∀i j,(i=b'→j=b)→(i≠b'→j=i)→∀x,(E.mv b b').has i x↔E.has j x:=by
      grind [Env.has,Env.mv]
     have hEo:∀i,i≠b'→(E.mv b b').g i=E.g i∧(E.mv b b').sv i=E.sv i∧(E.mv b b').bt i=E.bt i:=fun i hi=>by simp[Env.mv,hi]
     have hEn:(E.mv b b').g b'=E.g b∧(E.mv b b').sv b'=E.sv b∧(E.mv b b').bt b'=E.bt b:=by simp[Env.mv]
     have src:∀(i:Nat)(k':aP),(hp'.set b' k1)[i]? =some (some k')→(i=b'∧k1=some k')∨(i≠b'∧i≠b∧∃k0,σ.hp[i]? =some (some k0)∧i5 (fun x=>if cJ b' x.ids then none else rn b b' x) (some k0)=some (some k')):=by
      intro i k' hi
      rw[dm] at hi
      split at hi
      ·grind
      grind [jM]
     have gOf:∀(i:Nat)(k':aP),(hp'.set b' k1)[i]? =some (some k')→∃j k0,σ.hp[j]? =some (some k0)∧(∀x,(E.mv b b').has i x↔E.has j x)∧(i=b'→j=b)∧(i≠b'→j=i):=by
      grind
     refine⟨E.mv b b',⟨?_,?_,⟨?_,?_,?_,hg.hw.slt,hg.hw.gl,?_⟩,anD.RD h4 hg.df⟩,⟨rfl,Tp.r rfl rfl,rfl,dc _,fun _ _ _=>rfl,fun _ h=>h,fun _ h=>Or.inl h,?_,fun i hi=>hEo i (by omega)⟩⟩
     ·simp only[jK];exact hg.len
     ·intro i y hy v hv
      rcases jL hy with e|⟨x,e1,e2,e3⟩
      ·subst e;trivial
      ·exact RV.eI (anD.RV e3 (RV.iZ e2 (hg.tm i x e1 v hv)))
     ·intro i k' hi
      rcases src i k' hi with⟨e,e'⟩|⟨e1,e2,k0,e3,e4⟩
      ·subst e
       rw[e'] at h2
       exact anD.RB (fun _ h=>h) (b:=b) (b':=i) hEn.1 hEn.2.1 hEn.2.2 (fun _ g hp=>by simpa[Env.mv] using hp) h2 (hg.hw.cX b k hbk)
      ·exact anD.RB (fun _ h=>h) (b:=i) (b':=i) (hEo i e1).1 (hEo i e1).2.1 (hEo i e1).2.2 (fun _ g hp=>by simpa[Env.mv,e1] using hp) e4 (hg.hw.cX i k0 e3)
     ·intro i j k2 k3 g' hi hj g1 g2
      obtain⟨i',k4,e1,e2,e3,e4⟩:=gOf i k2 hi
      obtain⟨j',k5,f1,f2,f3,f4⟩:=gOf j k3 hj
      have g1:=(e2 _).1 g1;have g2:=(f2 _).1 g2
      have hij:=hg.hw.eH i' j' k4 k5 g' e1 f1 g1 g2
      grind
     ·intro i k' g' hi hgi hs
      obtain⟨i',k4,e1,e2,_,_⟩:=gOf i k' hi
      exact hg.hw.dL i' k4 g' e1 ((e2 _).1 hgi) hs
     ·intro i k' g' hi hgi
      obtain⟨i',k4,e1,e2,_,_⟩:=gOf i k' hi
      rcases(e2 _).1 (Or.inr hgi) with q|q
      ·exact bK.below hg.hw ⟨i',k4,e1,Or.inl q⟩
      ·exact hg.hw.sZ i' k4 g' e1 q
     ·rintro g' ⟨i,k',hi,hgi⟩
      obtain⟨i',k4,e1,e2,_,_⟩:=gOf i k' hi
      exact Or.inl ⟨i',k4,e1,(e2 _).1 hgi⟩
    grind
   grind
 grind
def xb(s b:Nat)(e:TypeId)(bs:Nat)(t:Ty)(σ:St):Option St:=
 match σ.tm[s]? with
 |some .bF=>if σ.fG b&&Nat.blt 0 t.size then some {σ with tm:=σ.tm.set s (.own b),hp:=σ.hp.set b (some (.row e bs t []))} else none
 |_=>none
theorem Wk.xb{gl:Ctx}{s b:Nat}{e:TypeId}{bs:Nat}{t:Ty}{σ σ':St}(h:Ax.xb s b e bs t σ=some σ'):Wk gl σ σ':=by
 intro E a w hg
 unfold Ax.xb at h
 split at h
 ·rename_i hs
  split at h
  ·rename_i hc
   cases h
   simp only[bB] at hc
   have hlt:s<a.tmps.size:=by rw[hg.len];grind
   have ha:=RV.atom rfl (hg.tm s _ hs a.tmps[s] (by grind))
   simp[RC] at ha
   have hsz:0<t.size:=by simp_all
   obtain⟨g1,x1⟩:=hg.fresh (w':=w) (St.ee hc.1) (g:=none) (sv:=.slice none 0 0) (t:=.arr 0 t) (k:=.row e bs t []) rfl (Tp.r rfl rfl) rfl (dc _) (fun _ _=>rfl) (fun i hi=>by cases hi)
    ⟨by simp[Env.at],by simp,by simp,hsz,none,0,by simp[Env.at],by grind,Or.inl ⟨⟨rfl,rfl⟩,by simp[Env.at],rfl⟩⟩
   refine⟨_,⟨by simp[hg.len],?_,g1.hw,g1.df⟩,x1⟩
   intro i x hx v hv
   rw[dm] at hx
   split at hx
   ·rename_i e';subst e'
    split at hx
    ·cases hx
     have:v= .slice none 0 0:=by grind
     subst this
     exact RV.eI (Or.inr ⟨rfl,by simp[Env.at],none,0,0,by simp[Env.at]⟩)
    grind
   ·exact g1.tm i x hx v hv
  grind
 grind
def ki:Ty→Path→Bool
 | .pair a _,.cV 0::p=>ki a p
 | .pair _ b,.cV (k+1)::p=>ki b (.cV k::p)
 |_,[]=>true
 |_,_=>false
theorem nE:∀{t:Ty}{p:Path},ki t p=true→t.valid p:=by
 intro t
 induction t with
 |
  pair a b ih1 ih2=>
  intro p h
  cases p with
  |nil=>trivial
  |
   cons s p=>
   cases s with
   |
    cV k=>cases k with
    |zero=>grind [ki,Ty.valid]
    |succ k=>grind [ki,Ty.valid]
   |idx i=>trivial
 |
  _=>
  grind [Ty.valid,ki]
def rA(c:Nat)(p:Path)(b:Nat)(e:TypeId)(bs:Nat)(t:Ty)(σ:St):Option St:=
 match eG σ.hp c with
 |
  some (.var tt v)=>match v.get p,v.set p (.own b) with
  |some .bF,some u=>if σ.fG b&&Nat.blt 0 t.size&&u.cK tt&&ki tt p&& !Nat.beq c b then some {σ with hp:=(σ.hp.set b (some (.row e bs t []))).set c (some (.var tt u))} else none
  |_,_=>none
 |
  some (.cY e2 bs2 tt xs i v)=>match v.get p,v.set p (.own b) with
  |some .bF,some u=>if σ.fG b&&Nat.blt 0 t.size&&u.cK tt&&ki tt p&& !Nat.beq c b then some {σ with hp:=(σ.hp.set b (some (.row e bs t []))).set c (some (.cY e2 bs2 tt xs i u))} else none
  |_,_=>none
 |_=>none
theorem Wk.rA{gl:Ctx}{c:Nat}{p:Path}{b:Nat}{e:TypeId}{bs:Nat}{t:Ty}{σ σ':St}(h:Ax.rA c p b e bs t σ=some σ'):Wk gl σ σ':=by
 intro E a w hg
 unfold Ax.rA at h
 split at h
 ·rename_i tt v hc
  have hbk:=cq σ.hp c _ hc
  split at h
  ·rename_i u anr aR
   split at h
   ·rename_i hk
    cases h
    simp only[bB] at hk
    obtain⟨⟨⟨⟨k1,k2⟩,k3⟩,k4⟩,k5⟩:=hk
    have hcb:c≠b:=fun e'=>by simp_all
    have hsz:0<t.size:=by simp_all
    obtain⟨g1,x1⟩:=hg.fresh (w':=w) (St.ee k1) (g:=none) (sv:=.slice none 0 0) (t:=.arr 0 t) (k:=.row e bs t []) rfl (Tp.r rfl rfl) rfl (dc _) (fun _ _=>rfl) (fun i hi=>by cases hi)
     ⟨by simp[Env.at],by simp,by simp,hsz,none,0,by simp[Env.at],by grind,Or.inl ⟨⟨rfl,rfl⟩,by simp[Env.at],rfl⟩⟩
    have hb1:(σ.hp.set b (some (.row e bs t [])))[c]? =some (some (.var tt v)):=by
     grind
    obtain⟨r1,r2,g,cs,e',r3,r4,r5⟩:=g1.hw.cX c _ hb1
    have hva:=nE k4
    obtain⟨s,q1,q2,q3,q4⟩:=AV.gY r5 r2 hva anr
    have hs1:s.size=1:=AV.ei q2▸rfl
    have hown:RC (E.at b none (.slice none 0 0) (.arr 0 t)) w (.own b) [.slice none 0 0]:=⟨by simp[Env.at],none,0,0,by simp[Env.at]⟩
    obtain⟨s',p1,p2,p3,p4⟩:=AV.mz hown r5 r2 hva (fun s' hs'=>by grind) aR
    rw[q1] at p1;cases p1
    simp only[RC] at q4
    have hcs:cs.toList.take (tt.off p)++[Value.slice none 0 0]++cs.toList.drop (tt.off p+s.size)=cs.toList:=by
     grind [lM]
    rw[hcs] at p4
    have hw2:=g1.hw.write (w':=w) (k':=.var tt u) hb1 rfl (fun _ _=>rfl) ⟨r1,k3,g,cs,e',r3,r4,p4⟩
    refine⟨_,⟨g1.len,g1.tm,hw2,g1.df⟩,{x1 with own:=?_ }⟩
    intro g' hg'
    exact x1.own g' (bK.i3 hb1 hg')
   grind
  grind
 ·rename_i e2 bs2 tt xs i v hc
  have hbk:=cq σ.hp c _ hc
  split at h
  ·rename_i u anr aR
   split at h
   ·rename_i hk
    cases h
    simp only[bB] at hk
    obtain⟨⟨⟨⟨k1,k2⟩,k3⟩,k4⟩,k5⟩:=hk
    have hcb:c≠b:=fun e'=>by simp_all
    have hsz:0<t.size:=by simp_all
    obtain⟨g1,x1⟩:=hg.fresh (w':=w) (St.ee k1) (g:=none) (sv:=.slice none 0 0) (t:=.arr 0 t) (k:=.row e bs t []) rfl (Tp.r rfl rfl) rfl (dc _) (fun _ _=>rfl) (fun i hi=>by cases hi)
     ⟨by simp[Env.at],by simp,by simp,hsz,none,0,by simp[Env.at],by grind,Or.inl ⟨⟨rfl,rfl⟩,by simp[Env.at],rfl⟩⟩
    have hb1:(σ.hp.set b (some (.row e bs t [])))[c]? =some (some (.cY e2 bs2 tt xs i v)):=by
     grind
    obtain⟨h1,h2,h3,h4,h5,r2,g,cap,cs,z1,z2,z3,z4,z5,z6,z7,r5,z9⟩:=g1.hw.cX c _ hb1
    have hva:=nE k4
    obtain⟨s,q1,q2,q3,q4⟩:=AV.gY r5 r2 hva anr
    have hs1:s.size=1:=AV.ei q2▸rfl
    have hown:RC (E.at b none (.slice none 0 0) (.arr 0 t)) w (.own b) [.slice none 0 0]:=⟨by simp[Env.at],none,0,0,by simp[Env.at]⟩
    obtain⟨s',p1,p2,p3,p4⟩:=AV.mz hown r5 r2 hva (fun s' hs'=>by grind) aR
    rw[q1] at p1;cases p1
    simp only[RC] at q4
    have hcs:((cs.toList.drop (i*tt.size)).take tt.size).take (tt.off p)++[Value.slice none 0 0]++((cs.toList.drop (i*tt.size)).take tt.size).drop (tt.off p+s.size)=(cs.toList.drop (i*tt.size)).take tt.size:=by
     grind [lR,lM]
    rw[hcs] at p4
    have hw2:=g1.hw.write (w':=w) (k':=.cY e2 bs2 tt xs i u) hb1 rfl (fun _ _=>rfl) ⟨h1,h2,h3,h4,h5,k3,g,cap,cs,z1,z2,z3,z4,z5,z6,z7,p4,z9⟩
    refine⟨_,⟨g1.len,g1.tm,hw2,g1.df⟩,{x1 with own:=?_ }⟩
    intro g' hg'
    exact x1.own g' (bK.i3 hb1 hg')
   grind
  grind
 grind
def Env.tr(E:Env)(b d:Nat)(v:Value)(t:Ty):Env:=
 {E with P:=fun c=>if c=d then E.P b else E.P c,g:=fun c=>if c=d then E.g b else E.g c,sv:=fun c=>if c=d then v else E.sv c,bt:=fun c=>if c=d then t else E.bt c}
theorem Env.FU{E:Env}{b d:Nat}{v:Value}{t:Ty}{ids:List Nat}(h:d∉ids):E.on (E.tr b d v t) ids:=fun c hc=>by
 grind [Env.tr]
def oz(c:Nat)(p:Path)(d:Nat)(σ:St):Option St:=
 match eG σ.hp c with
 |
  some (.var tt v)=>match v.get p,v.set p (.own d) with
  |
   some (.ju b 0 len),some u=>match eG σ.hp b with
   |some (.row e bs t xs)=>if σ.fG d&&u.cK tt&&ki tt p&& !Nat.beq c b then some {σ with hp:=((σ.hp.set b none).set d (some (.row e bs t (xs.take len)))).set c (some (.var tt u))} else none
   |_=>none
  |_,_=>none
 |_=>none
theorem Wk.oz{gl:Ctx}{c:Nat}{p:Path}{d:Nat}{σ σ':St}(h:Ax.oz c p d σ=some σ'):Wk gl σ σ':=by
 intro E a w hg
 unfold Ax.oz at h
 split at h
 case h_2=>cases h
 rename_i tt v hc
 have hbk:=cq σ.hp c _ hc
 split at h
 case h_2=>cases h
 rename_i b len u anr aR
 split at h
 case h_2=>cases h
 rename_i e bs t xs hb
 have hbr:=cq σ.hp b _ hb
 split at h
 case isFalse=>cases h
 rename_i hk
 cases h
 simp only[bB] at hk
 obtain⟨⟨⟨k1,k2⟩,k3⟩,k4⟩:=hk
 have hcb:c≠b:=fun e'=>by grind
 have hfr:=St.ee k1
 have hids:=k8.1 hfr.1
 have hdb:d≠b:=fun e'=>hfr.2.1 _ (e'▸hbr)
 have hdc:d≠c:=fun e'=>hfr.2.1 _ (e'▸hbk)
 have hdv:d∉v.ids:=hids.2.2 c _ hbk
 have h16:16≤d:=hfr.2.2
 obtain⟨r1,r2,g,cs,e',r3,r4,r5⟩:=hg.hw.cX c _ hbk
 obtain⟨s1,s2,s3,s4,ra,cap,s5,s6,s7⟩:=hg.hw.cX b _ hbr
 have hva:=nE k3
 obtain⟨s,q1,q2,q3,q4⟩:=AV.gY r5 r2 hva anr
 have hs1:s.size=1:=AV.ei q2▸rfl
 obtain⟨a1,c1,n1,t1,z1,z2,z3,z4,a',z5,z6⟩:=q4
 rw[s5] at z2;cases z2
 have za:a'=ra:=by
  rcases z6 with z6|z6
  ·grind
  grind [Addr.iW]
 rw[za] at z5
 have hlen:(xs.take len).length=len:=by grind
 have kp:bS E w (E.tr b d (.slice ra len cap) (.arr (xs.take len).length t)) w:=⟨fun _ _=>rfl,fun _ h=>h⟩
 have hEh:∀i j,(i=d→j=b)→(i≠d→j=i)→∀x,(E.tr b d (.slice ra len cap) (.arr (xs.take len).length t)).has i x↔E.has j x:=by
  grind [Env.has,Env.tr]
 have src:∀(i:Nat)(k':aP),((((σ.hp.set b none).set d (some (.row e bs t (xs.take len)))).set c (some (.var tt u)))[i]? =some (some k'))→
  (i=c∧k'= .var tt u)∨(i=d∧k'= .row e bs t (xs.take len))∨(i≠c∧i≠d∧i≠b∧σ.hp[i]? =some (some k')):=by
  grind
 have gOf:∀(i:Nat)(k':aP),((((σ.hp.set b none).set d (some (.row e bs t (xs.take len)))).set c (some (.var tt u)))[i]? =some (some k'))→
  ∃j k0,σ.hp[j]? =some (some k0)∧(∀x,(E.tr b d (.slice ra len cap) (.arr (xs.take len).length t)).has i x↔E.has j x)∧(i=d→j=b)∧(i≠d→j=i):=by
  grind
 refine⟨E.tr b d (.slice ra len cap) (.arr (xs.take len).length t),⟨hg.len,?_,⟨?_,?_,?_,hg.hw.slt,hg.hw.gZ kp,?_⟩,RD.mono kp (fun x hx=>Env.FU (fun hd=>hids.2.1 x hx hd)) hg.df⟩,
  ⟨rfl,Tp.r rfl rfl,rfl,dc _,fun _ _ _=>rfl,fun _ h=>h,fun _ h=>Or.inl h,?_,fun i hi=>by grind [Env.tr]⟩⟩
 ·intro i x hx v hv
  exact RV.mono kp (Env.FU (fun hd=>hids.1 i x hx hd)) (hg.tm i x hx v hv)
 ·intro i k' hi
  rcases src i k' hi with⟨rfl,rfl⟩|⟨rfl,rfl⟩|⟨e1,e2,e3,e4⟩
  ·have r5':=RC.mono kp (Env.FU hdv) r5
   have hown:RC (E.tr b d (.slice ra len cap) (.arr (xs.take len).length t)) w (.own d) [.slice ra len cap]:=⟨by simp[Env.tr],ra,len,cap,by simp[Env.tr]⟩
   obtain⟨s',p1,p2,p3,p4⟩:=AV.mz hown r5' r2 hva (fun s' hs'=>by grind) aR
   rw[q1] at p1;cases p1
   have z5':List.take s.size (List.drop (tt.off p) cs.toList)= [.slice ra len cap]:=by grind
   have hcs:cs.toList.take (tt.off p)++[Value.slice ra len cap]++cs.toList.drop (tt.off p+s.size)=cs.toList:=by
    grind [lR,lM]
   rw[hcs] at p4
   exact⟨by simpa[Env.tr,Ne.symm hdc] using r1,k2,g,cs,e',by simpa[Env.tr,Ne.symm hdc] using r3,r4,p4⟩
  ·refine⟨by simp[Env.tr],by rw[hlen];exact cI (gK _ (by omega)) s2,by grind,s4,ra,cap,by simp[Env.tr,hlen],s6,?_⟩
   rcases s7 with⟨x1,x2,x3⟩|⟨g',c',x1,x2,x3,x4,x5,x6⟩
   ·grind [Env.tr]
   ·refine Or.inr ⟨g',c',by simpa[Env.tr] using x1,x2,x3,x4,by grind,?_⟩
    have:=aY.take (fun vs x=>Rel.len) len x6
    rw[sq,pK (gK _ (by omega))] at this
    rw[hlen];trivial
  ·exact RB.mono kp (Env.FU (by grind)) (fun _ _=>rfl) (fun _ g hp=>by simpa[Env.tr,e2] using hp) (hg.hw.cX i k' e4)
 ·intro i j k2 k3 g' hi hj g1 g2
  obtain⟨i',k4,e1,e2,e3,e4⟩:=gOf i k2 hi
  obtain⟨j',k5,f1,f2,f3,f4⟩:=gOf j k3 hj
  have hij:=hg.hw.eH i' j' k4 k5 g' e1 f1 ((e2 _).1 g1) ((f2 _).1 g2)
  grind
 ·intro i k' g' hi hgi hs
  obtain⟨i',k4,e1,e2,_,_⟩:=gOf i k' hi
  exact hg.hw.dL i' k4 g' e1 ((e2 _).1 hgi) hs
 ·intro i k' g' hi hgi
  obtain⟨i',k4,e1,e2,_,_⟩:=gOf i k' hi
  rcases(e2 _).1 (Or.inr hgi) with q|q
  ·exact bK.below hg.hw ⟨i',k4,e1,Or.inl q⟩
  ·exact hg.hw.sZ i' k4 g' e1 q
 ·rintro g' ⟨i,k',hi,hgi⟩
  obtain⟨i',k4,e1,e2,_,_⟩:=gOf i k' hi
  exact Or.inl ⟨i',k4,e1,(e2 _).1 hgi⟩
def qc(c:Nat)(p:Path)(σ:St):Option St:=
 match eG σ.hp c with
 |
  some (.var tt v)=>match tt.sub p,v.get p with
  |
   some u,some _=>match v.set p (.fF u) with
   |some v'=>if v'.cK tt&&ki tt p then some {σ with hp:=σ.hp.set c (some (.var tt v'))} else none
   |none=>none
  |_,_=>none
 |_=>none
theorem Wk.qc{gl:Ctx}{c:Nat}{p:Path}{σ σ':St}(h:Ax.qc c p σ=some σ'):Wk gl σ σ':=by
 intro E a w hg
 unfold Ax.qc at h
 split at h
 case h_2=>cases h
 rename_i tt v hc
 have hbk:=cq σ.hp c _ hc
 split at h
 case h_2=>cases h
 rename_i u x0 hu anr
 split at h
 case h_2=>cases h
 rename_i v' aR
 split at h
 case isFalse=>cases h
 rename_i hk
 cases h
 simp only[bB] at hk
 obtain⟨r1,r2,g,cs,e,r3,r4,r5⟩:=hg.hw.cX c _ hbk
 have hva:=nE hk.2
 obtain⟨s,q1,q2,q3,q4⟩:=AV.gY r5 r2 hva anr
 rw[hu] at q1;cases q1
 have hj:RC E w (.fF u) (List.take u.size (List.drop (tt.off p) cs.toList)):=by
  refine⟨by grind,fun x hx=>RC.one r5 x (List.mem_of_mem_drop (List.mem_of_mem_take hx))⟩
 obtain⟨s',p1,p2,p3,p4⟩:=AV.mz hj r5 r2 hva (fun s' hs'=>by grind) aR
 rw[hu] at p1;cases p1
 have hcs:cs.toList.take (tt.off p)++List.take u.size (List.drop (tt.off p) cs.toList)++cs.toList.drop (tt.off p+u.size)=cs.toList:=by
  grind [lM]
 rw[hcs] at p4
 have hw:=hg.hw.write (w':=w) (k':=.var tt v') hbk rfl (fun _ _=>rfl) ⟨r1,hk.1,g,cs,e,r3,r4,p4⟩
 exact⟨E,hg.carry ⟨fun _ _=>rfl,fun _ h=>h⟩ (fun _ _=>⟨rfl,rfl,rfl⟩) hw,{Ext.refl (md:=gl.md) (bK σ.hp E) E w with own:=fun g hg'=>Or.inl (bK.set hbk hg')}⟩
inductive Gh where
 |BP (ts bs:List Nat)
 |Kb (s:Nat) (t:Ty)
 |DC (b:Nat)
 |freeze (b:Nat) (t:Ty)
 |ren (b b':Nat)
 |xb (s b:Nat) (e:TypeId) (bs:Nat) (t:Ty)
 |rA (c:Nat) (p:Path) (b:Nat) (e:TypeId) (bs:Nat) (t:Ty)
 |kF (b:Nat)
 |IV (b:Nat)
 |Kc (b:Nat) (e:TypeId)
 |qd (b:Nat)
 |lT (b:Nat)
 |oz (c:Nat) (p:Path) (d:Nat)
 |eK (b:Nat)
 |tQ (b:Nat)
 |qc (c:Nat) (p:Path)
 |ML (b:Nat)
def Gh.go(σ:St):Gh→Option St
 | .BP ts bs=>some ⟨sP ts 0 σ.tm,yk bs 0 σ.hp,σ.df⟩
 |
  .Kb s t=>match σ.tm[s]? with
  |
   some x=>match x.bO t with
   |some y=>some {σ with tm:=σ.tm.set s (.val t y)}
   |none=>none
  |none=>none
 |
  .DC b=>match σ.hp[b]? with
  |
   some (some (.var t v))=>match v.bO t with
   |some y=>some {σ with hp:=σ.hp.set b (some (.var t (.val t y)))}
   |none=>none
  |
   some (some (.cY e bs t xs i v))=>match v.bO t with
   |some y=>some {σ with hp:=σ.hp.set b (some (.cY e bs t xs i (.val t y)))}
   |none=>none
  |some (some (.ko k v rest (some _)))=>some {σ with hp:=σ.hp.set b (some (.ko k v rest none))}
  |_=>none
 | .freeze b t=>Ax.freeze b t σ
 | .ren b b'=>rename b b' σ
 | .xb s b e bs t=>Ax.xb s b e bs t σ
 | .rA c p b e bs t=>Ax.rA c p b e bs t σ
 | .kF b=>Ax.kF b σ
 | .IV b=>Ax.IV b σ
 | .Kc b e=>Ax.Kc b e σ
 | .qd b=>Ax.qd b σ
 | .lT b=>Ax.lT b σ
 | .oz c p d=>Ax.oz c p d σ
 | .eK b=>oQ b σ
 | .tQ b=>mM b σ
 | .qc c p=>Ax.qc c p σ
 | .ML b=>Ax.ML b σ
def Wm:List Gh→St→Option St
 |[],σ=>some σ
 |
  g::l,σ=>match g.go σ with
  |some σ'=>Wm l σ'
  |none=>none
theorem Gh.ok{gl:Ctx}{g:Gh}{σ σ':St}(h:g.go σ=some σ'):Wk gl σ σ':=by
 cases g with
 |BP ts bs=>cases h;exact Wk.BP gl σ ts bs
 |
  Kb s t=>
  grind [Gh.go,Wk.Kb]
 |
  DC b=>
  grind [Gh.go,Wk.DC,Wk.adx,Wk.mcl]
 |freeze b t=>exact Wk.freeze h
 |ren b b'=>exact Wk.rename h
 |xb s b e bs t=>exact Wk.xb h
 |rA c p b e bs t=>exact Wk.rA h
 |kF b=>exact Wk.kF h
 |IV b=>exact Wk.IV h
 |Kc b e=>exact Wk.Kc h
 |qd b=>exact Wk.qd h
 |lT b=>exact Wk.lT h
 |oz c p d=>exact Wk.oz h
 |eK b=>exact Wk.oQ h
 |tQ b=>exact Wk.mM h
 |qc c p=>exact Wk.qc h
 |ML b=>exact Wk.ML h
theorem DD{gl:Ctx}:∀{l:List Gh}{σ σ':St},Wm l σ=some σ'→Wk gl σ σ'
 |[],σ,σ',h=>by cases h;exact Wk.refl gl σ
 |
  g::l,σ,σ',h=>by
  simp only[Wm] at h
  split at h
  ·rename_i σ1 h1;exact(Gh.ok h1).trans (DD h)
  ·cases h
section
variable{P:Program} {gl:Ctx} {σ:St} {Q:fV→St→Prop}
theorem cZ.wk{c:Code}{σ':St}(h:Wk gl σ σ')(hr:cZ P gl c σ' Q):cZ P gl c σ Q:=by
 intro E a w hg
 obtain⟨E1,g1,x1⟩:=h E a w hg
 refine wpIn_mono (hr E1 a w g1) ?_
 rintro ex a2 w2 ⟨x,σ2,E2,h1,h2,h3,h4⟩
 exact⟨x,σ2,E2,h1,h2,h3,x1.trans h4⟩
theorem cZ.post{c:Code}{Q':fV→St→Prop}(hr:cZ P gl c σ Q')(hn:∀e σ',e≠.normal→Q' e σ'→Q e σ')(h:∀σ',Q' .normal σ'→∃σ2,Wk gl σ' σ2∧Q .normal σ2):cZ P gl c σ Q:=by
 intro E a w hg
 refine wpIn_mono (hr E a w hg) ?_
 rintro ex a2 w2 ⟨x,σ2,E2,h1,h2,h3,h4⟩
 by_cases e:x= .normal
 ·subst e
  obtain⟨σ3,h5,h6⟩:=h σ2 h2
  obtain⟨E3,g3,x3⟩:=h5 E2 a2 w2 h3
  exact⟨.normal,σ3,E3,by cases ex<;>first|exact h1|exact h1.elim,h6,g3,h4.trans x3⟩
 ·exact⟨x,σ2,E2,h1,hn x σ2 e h2,h3,h4⟩
theorem cZ.gh{c:Code}(l:List Gh){σ':St}(h:Wm l σ=some σ')(hr:cZ P gl c σ' Q):cZ P gl c σ Q:=cZ.wk (DD h) hr
end
structure Cl(gl:Ctx)(Q:fV→St→Prop):Prop where
 n:∀σ σ',Wk gl σ σ'→Q .normal σ'→Q .normal σ
 e:∀i σ σ',Wk gl σ σ'→Q (.exit i) σ'→Q (.exit i) σ
theorem bW{α:Type}{p:Prop}[Decidable p]{k:Option α}{r:α}(h:(if p then k else none)=some r):p∧k=some r:=by
 grind
theorem bind_some{α β:Type}{x:Option α}{f:α→Option β}{r:β}(h:x.bind f=some r):∃y,x=some y∧f y=some r:=by
 cases x<;>grind
inductive cH(β ρ:Type) where
 |bA (b:β)
 |ret (r:ρ)
def mN{α:Type}:List (Nat×α)→List α→List α
 |[],l=>l
 |(i,x)::m,l=>mN m (l.set i x)
def eP:Nat:=18446744073709551616
abbrev aZ(n:Int):Int:=IntKind.i64.wrap n
def nth(t:Ty)(xs:List t.den)(i:Int):t.den:=xs.getD i.toNat t.aD
end Go.Ax
namespace Go.Ax
@[reducible] def prod:List Type→Type
 |[]=>Unit
 |t::l=>t×prod l
@[reducible] def gm:List Type→Type
 |[]=>Unit
 |[t]=>t
 |t::u::l=>t×gm (u::l)
def Sg:(l:List Type)→prod l→gm l
 |[],_=>()
 |[_],d=>d.1
 |_::u::l,d=>(d.1,Sg (u::l) d.2)
def qR:(l:List Type)→gm l→prod l
 |[],_=>()
 |[_],d=>(d,())
 |_::u::l,d=>(d.1,qR (u::l) d.2)
theorem no{α:Type}{e:α}{p:Prop}(h:(none:Option α)=some e):p:=by cases h
theorem qe:∀(l:List Type)(d:prod l),qR l (Sg l d)=d
 |[],_=>rfl
 |[_],_=>rfl
 |_::u::l,d=>by show(d.1,qR (u::l) (Sg (u::l) d.2))=d;rw[qe (u::l) d.2]
inductive TE where
 |cV (n:Nat)
 |idx
inductive Sh where
 |val (t:Ty)
 |bF
 |own (b:Nat)
 |ju (b:Nat)
 |jj (b:Nat) (p:List TE)
 |ptr (b:Nat) (p:List TE)
 |cb (t:Ty)
 |mp (b:Nat)
 |fC
 |eA
 |fD
 |gW
 |func (f:FuncId) (fs cs:Sh)
 |zg
 |iface (t:TypeId) (v:Sh)
 |cons (a b:Sh)
 |nil
 |fx0
 |fF (t:Ty)
 |fE (f:FuncId) (t:Ty)
inductive dj where
 |var (t:Ty) (s:Sh)
 |row (e:TypeId) (bs:Nat) (t:Ty)
 |map (k v:Ty)
 |lp
 |sY
 |tv (t:Ty) (s:Sh)
 |cY (e:TypeId) (bs:Nat) (t:Ty) (s:Sh)
 |dh (e:TypeId) (bs:Nat) (t:Ty) (e2:TypeId)
 |pmap (k t:Ty) (e2:TypeId)
 |ko (k v:Ty)
 |il (k:Ty) (l:List (k.den×FuncId))
 |gu (e:TypeId) (bs:Nat) (t:Ty)
def pH:List TE→List Type→List Type
 |[],l=>l
 | .cV _::p,l=>pH p l
 | .idx::p,l=>Nat::pH p l
def pV:(p:List TE)→{l:List Type}→prod (pH p l)→Path
 |[],_,_=>[]
 | .cV n::p,_,d=>.cV n::pV p d
 | .idx::p,_,d=>.idx d.1::pV p d.2
def pR:(p:List TE)→{l:List Type}→prod (pH p l)→prod l
 |[],_,d=>d
 | .cV _::p,_,d=>pR p d
 | .idx::p,_,d=>pR p d.2
def pG:(p:List TE)→{l:List Type}→Path→prod l→Option (prod (pH p l))
 |[],_,[],d=>some d
 | .cV n::p,_,.cV m::q,d=>if Nat.beq n m then pG p q d else none
 |
  .idx::p,_,.idx i::q,d=>match pG p q d with
  |some e=>some (i,e)
  |none=>none
 |_,_,_,_=>none
theorem FW:∀{p:List TE}{l:List Type}{q:Path}{d:prod l}{e:prod (pH p l)},pG p q d=some e→pV p e=q∧pR p e=d
 |
  [],l,q,d,e,h=>by
  cases q with
  |nil=>cases(iR h:d=e);trivial
  |cons s q=>trivial
 |
  .cV n::p,l,q,d,e,h=>by
  cases q with
  |nil=>trivial
  |
   cons s q=>
   cases s with
   |
    cV m=>
    obtain⟨hb,h0⟩:=bW h
    have hb:=bT hb
    subst hb
    obtain⟨h1,h2⟩:=FW (p:=p) h0
    exact⟨by simp only[pV];rw[h1],h2⟩
   |idx i=>trivial
 |
  .idx::p,l,q,d,e,h=>by
  cases q with
  |nil=>simp[pG] at h
  |
   cons s q=>
   cases s with
   |cV m=>simp[pG] at h
   |
    idx i=>
    simp only[pG] at h
    split at h
    ·rename_i e' he
     cases h
     obtain⟨h1,h2⟩:=FW (p:=p) he
     exact⟨by simp only[pV];rw[h1],h2⟩
    ·cases h
def Sh.H:Sh→List Type→List Type
 | .val t,l=>t.den::l
 | .fE _ t,l=>t.den::l
 | .ju _,l=>Nat::Nat::l
 | .jj _ p,l=>pH p (Nat::Nat::l)
 | .ptr _ p,l=>pH p l
 | .cb t,l=>t.den::l
 | .zg,l=>Nat::l
 | .func _ fs cs,l=>fs.H (cs.H l)
 | .iface _ v,l=>v.H l
 | .cons a b,l=>a.H (b.H l)
 |_,l=>l
def Sh.R:(s:Sh)→{l:List Type}→prod (s.H l)→prod l
 | .val _,_,d=>d.2
 | .fE _ _,_,d=>d.2
 | .ju _,_,d=>d.2.2
 | .jj _ p,_,d=>(pR p d).2.2
 | .ptr _ p,_,d=>pR p d
 | .cb _,_,d=>d.2
 | .zg,_,d=>d.2
 | .func _ fs cs,_,d=>cs.R (fs.R d)
 | .iface _ v,_,d=>v.R d
 | .cons a b,_,d=>b.R (a.R d)
 | .bF,_,d| .own _,_,d| .mp _,_,d| .fC,_,d| .eA,_,d| .fD,_,d| .gW,_,d| .nil,_,d| .fF _,_,d| .fx0,_,d=>d
def Sh.V(y:YC):(s:Sh)→{l:List Type}→prod (s.H l)→AV
 | .val t,_,d=>.val t d.1
 | .fE f t,_,d=>.fE f t d.1
 | .ju b,_,d=>.ju b d.1 d.2.1
 | .jj b p,_,d=>.jj b (pV p d) (pR p d).1 (pR p d).2.1
 | .ptr b p,_,d=>.ptr b (pV p d)
 | .cb t,_,d=>.cb t d.1
 | .func f fs cs,_,d=>.func (.func f) (fs.V y d) (cs.V y (fs.R d))
 | .iface t v,_,d=>.iface t (v.V y d)
 | .cons a b,_,d=>.cons (a.V y d) (b.V y (a.R d))
 | .bF,_,_=>.bF
 | .own b,_,_=>.own b
 | .mp b,_,_=>.mp b
 | .fC,_,_=>.fC
 | .eA,_,_=>.eA
 | .fD,_,_=>.fD
 | .gW,_,_=>.gW
 | .zg,_,d=>.func (.yield d.1) .nil .nil
 | .nil,_,_=>.nil
 | .fx0,_,_=>.fx
 | .fF t,_,_=>.fF t
def qf{t u:Ty}(h:Ty.same u t=true)(x:u.den):t.den:=Ty.aB h▸x
theorem xT{t u:Ty}(h:Ty.same u t=true)(x:u.den):AV.val t (qf h x)= .val u x:=by
 have e:=Ty.aB h
 subst e;rfl
theorem DE{f:FuncId}{t u:Ty}(h:Ty.same u t=true)(x:u.den):AV.fE f t (qf h x)= .fE f u x:=by
 have e:=Ty.aB h
 subst e;rfl
theorem DF{t u:Ty}(h:Ty.same u t=true)(x:u.den):AV.cb t (qf h x)= .cb u x:=by
 have e:=Ty.aB h
 subst e;rfl
def Sh.G:(s:Sh)→{l:List Type}→AV→prod l→Option (prod (s.H l))
 | .val t,_,.val u x,d=>if h:Ty.same u t=true then some (qf h x,d) else none
 | .fE f t,_,.fE g u x,d=>if Nat.beq f g then(if h:Ty.same u t=true then some (qf h x,d) else none) else none
 | .cb t,_,.cb u x,d=>if h:Ty.same u t=true then some (qf h x,d) else none
 | .ju b,_,.ju c i j,d=>if Nat.beq b c then some (i,j,d) else none
 | .jj b p,l,.jj c q i j,d=>if Nat.beq b c then pG p (l:=Nat::Nat::l) q (i,j,d) else none
 | .ptr b p,_,.ptr c q,d=>if Nat.beq b c then pG p q d else none
 |
  .func f fs cs,_,.func (.func g) xs ys,d=>if Nat.beq f g then(match cs.G ys d with
  |some e=>fs.G xs e
  |none=>none) else none
 | .zg,_,.func (.yield g) .nil .nil,d=>some (g,d)
 | .iface t v,_,.iface u x,d=>if Nat.beq t u then v.G x d else none
 |
  .cons a b,_,.cons x y,d=>match b.G y d with
  |some e=>a.G x e
  |none=>none
 | .bF,_,.bF,d| .fC,_,.fC,d| .eA,_,.eA,d| .fD,_,.fD,d| .gW,_,.gW,d| .nil,_,.nil,d| .fx0,_,.fx,d=>some d
 | .own b,_,.own c,d=>if Nat.beq b c then some d else none
 | .mp b,_,.mp c,d=>if Nat.beq b c then some d else none
 | .fF t,_,.fF u,d=>if Ty.same t u then some d else none
 |_,_,_,_=>none
theorem Sh.xc(y:YC):∀{s:Sh}{l:List Type}{x:AV}{d:prod l}{e:prod (s.H l)},s.G x d=some e→s.V y e=x∧s.R e=d:=by
 intro s
 induction s with
 |
  val t=>
  intro l x d e h
  cases x<;>simp only[Sh.G] at h<;>try cases h
  split at h
  ·rename_i hs;cases h;exact⟨xT hs _,rfl⟩
  grind
 |
  cb t=>
  intro l x d e h
  cases x<;>simp only[Sh.G] at h<;>try cases h
  split at h
  ·rename_i hs;cases h;exact⟨DF hs _,rfl⟩
  grind
 |
  fE f t=>
  intro l x d e h
  cases x<;>simp only[Sh.G] at h<;>try cases h
  split at h
  ·rename_i hf
   have:=bT hf;subst this
   split at h
   ·rename_i hs;cases h;exact⟨DE hs _,rfl⟩
   grind
  grind
 |
  ju b=>
  intro l x d e h
  cases x<;>simp only[Sh.G] at h<;>try cases h
  split at h
  ·rename_i hs;cases h;have:=bT hs;subst this;trivial
  grind
 |
  jj b p=>
  intro l x d e h
  cases x<;>simp only[Sh.G] at h<;>try cases h
  obtain⟨hs,h0⟩:=bW h
  grind [bT,FW,Sh.V,Sh.R]
 |
  ptr b p=>
  intro l x d e h
  cases x<;>simp only[Sh.G] at h<;>try cases h
  obtain⟨hs,h0⟩:=bW h
  have:=bT hs;subst this
  obtain⟨h1,h2⟩:=FW h0
  exact⟨by simp only[Sh.V];rw[h1],h2⟩
 |
  func f fs cs ih1 ih2=>
  intro l x d e h
  cases x with
  |
   func g xs ys=>
   cases g with
   |
    func g=>
    simp only[Sh.G] at h
    split at h
    ·rename_i hs
     have:=bT hs;subst this
     split at h
     ·rename_i e' he
      obtain⟨a1,a2⟩:=ih2 he
      obtain⟨b1,b2⟩:=ih1 h
      grind [Sh.V,Sh.R]
     grind
    grind
   |_=>trivial
  |_=>trivial
 |
  iface t v ih=>
  intro l x d e h
  cases x<;>simp only[Sh.G] at h<;>try cases h
  obtain⟨hs,h0⟩:=bW h
  have:=bT hs;subst this
  obtain⟨b1,b2⟩:=ih h0
  exact⟨by simp only[Sh.V];rw[b1],b2⟩
 |
  cons a b ih1 ih2=>
  intro l x d e h
  cases x<;>simp only[Sh.G] at h<;>try cases h
  split at h
  ·rename_i e' he
   obtain⟨a1,a2⟩:=ih2 he
   obtain⟨b1,b2⟩:=ih1 h
   grind [Sh.V,Sh.R]
  grind
 |
  own b=>
  intro l x d e h
  cases x<;>simp only[Sh.G] at h<;>try cases h
  split at h
  ·rename_i hs;cases h;have:=bT hs;subst this;trivial
  grind
 |
  mp b=>
  intro l x d e h
  cases x<;>simp only[Sh.G] at h<;>try cases h
  split at h
  ·rename_i hs;cases h;have:=bT hs;subst this;trivial
  grind
 |
  fF t=>
  intro l x d e h
  cases x<;>simp only[Sh.G] at h<;>try cases h
  split at h
  ·rename_i hs;cases h;have:=Ty.aB hs;subst this;trivial
  grind
 |
  zg=>
  intro l x d e h
  cases x with
  |
   func g xs ys=>
   cases g with
   |yield g=>cases xs<;>cases ys<;>simp only[Sh.G] at h<;>cases h;trivial
   |_=>trivial
  |_=>trivial
 |_=>intro l x d e h;cases x<;>simp only[Sh.G] at h<;>cases h<;>exact⟨rfl,rfl⟩
def dj.H:dj→List Type→List Type
 | .var _ s,l=>s.H l
 | .row _ _ t,l=>List t.den::l
 | .map k v,l=>List (k.den×v.den)::l
 | .lp,l=>YC::Nat::l
 | .sY,l=>l
 | .tv _ s,l=>Nat::s.H l
 | .cY _ _ t s,l=>List t.den::Nat::s.H l
 | .dh _ _ t _,l=>List t.den::l
 | .pmap k t _,l=>List (k.den×t.den)::l
 | .ko k v,l=>List (k.den×v.den)::l
 | .il _ _,l=>l
 | .gu _ _ t,l=>List t.den::l
def dj.R:(s:dj)→{l:List Type}→prod (s.H l)→prod l
 | .var _ s,_,d=>s.R d
 | .row _ _ _,_,d=>d.2
 | .map _ _,_,d=>d.2
 | .lp,_,d=>d.2.2
 | .sY,_,d=>d
 | .tv _ s,_,d=>s.R d.2
 | .cY _ _ _ s,_,d=>s.R d.2.2
 | .dh _ _ _ _,_,d=>d.2
 | .pmap _ _ _,_,d=>d.2
 | .ko _ _,_,d=>d.2
 | .il _ _,_,d=>d
 | .gu _ _ _,_,d=>d.2
def Xk{k:Ty}:List (k.den×FuncId)→List (k.den×AV)
 |[]=>[]
 |x::l=>(x.1,.func (.func x.2) .nil .nil)::Xk l
def N8{k:Ty}:List (k.den×AV)→List (k.den×FuncId)→Bool
 |[],[]=>true
 |
  x::l,z::m=>(match x.2 with
  | .func (.func f) .nil .nil=>Nat.beq f z.2
  |_=>false)&&bD k x.1 z.1&&N8 l m
 |_,_=>false
theorem FX{k:Ty}(hk:k.keyed=true):∀{l:List (k.den×AV)}{m:List (k.den×FuncId)},N8 l m=true→Xk m=l
 |[],[],_=>rfl
 |[],_::_,h=>by cases h
 |_::_,[],h=>by cases h
 |
  x::l,z::m,h=>by
  simp only[N8,bB] at h
  obtain⟨⟨h1,h2⟩,h3⟩:=h
  have e:=(cn hk _ _).1 h2
  obtain⟨x1,x2⟩:=x
  simp only at e h1
  split at h1
  ·have:=bT h1
   subst this;subst e
   simp only[Xk]
   rw[FX hk h3]
  ·cases h1
def dj.V(y:YC):(s:dj)→{l:List Type}→prod (s.H l)→aP
 | .var t s,_,d=>.var t (s.V y d)
 | .row e bs t,_,d=>.row e bs t d.1
 | .map k v,_,d=>.map k v d.1
 | .lp,_,d=>.lp d.1 d.2.1
 | .sY,_,_=>.sY
 | .tv t s,_,d=>.tv d.1 t (s.V y d.2)
 | .cY e bs t s,_,d=>.cY e bs t d.1 d.2.1 (s.V y d.2.2)
 | .dh e bs t e2,_,d=>.dh e bs t d.1 e2 none
 | .pmap k t e2,_,d=>.pmap k t d.1 e2 none
 | .ko k v,_,d=>.ko k v d.1 none
 | .il k l,_,_=>.il k (Xk l)
 | .gu e bs t,_,d=>.gu e bs t d.1
def FY{t u:Ty}(h:Ty.same u t=true)(x:List u.den):List t.den:=Ty.aB h▸x
def Kd{t u t' u':Ty}(h:Ty.same u t=true)(h':Ty.same u' t'=true)(x:List (u.den×u'.den)):List (t.den×t'.den):=Ty.aB h▸Ty.aB h'▸x
def Xl{t u:Ty}(h:Ty.same u t=true)(x:List (u.den×AV)):List (t.den×AV):=Ty.aB h▸x
def dj.G:(s:dj)→{l:List Type}→aP→prod l→Option (prod (s.H l))
 | .var t s,_,.var u x,d=>if Ty.same u t then s.G x d else none
 | .row e bs t,_,.row e' bs' u xs,d=>if Nat.beq e e'&&Nat.beq bs bs' then(if h:Ty.same u t=true then some (FY h xs,d) else none) else none
 | .map k v,_,.map k' v' es,d=>if h:Ty.same k' k=true then(if h':Ty.same v' v=true then some (Kd h h' es,d) else none) else none
 | .sY,_,.sY,d=>some d
 | .lp,_,.lp y j,d=>some (y,j,d)
 |
  .tv t s,_,.tv g u x,d=>if Ty.same u t then(match s.G x d with
  |some r=>some (g,r)
  |none=>none) else none
 |
  .cY e bs t s,_,.cY e' bs' u xs i x,d=>if Nat.beq e e'&&Nat.beq bs bs' then(if h:Ty.same u t=true then(match s.G x d with
  |some r=>some (FY h xs,i,r)
  |none=>none) else none) else none
 | .dh e bs t e2,_,.dh e' bs' u xs e2' none,d=>if Nat.beq e e'&&Nat.beq bs bs'&&Nat.beq e2 e2' then(if h:Ty.same u t=true then some (FY h xs,d) else none) else none
 | .pmap k t e2,_,.pmap k' t' es e2' none,d=>if Nat.beq e2 e2' then(if h:Ty.same k' k=true then(if h':Ty.same t' t=true then some (Kd h h' es,d) else none) else none) else none
 | .ko k v,_,.ko k' v' es none,d=>if h:Ty.same k' k=true then(if h':Ty.same v' v=true then some (Kd h h' es,d) else none) else none
 | .il k l,_,.il k' l',d=>if h:Ty.same k' k=true then(if k.keyed&&N8 (Xl h l') l then some d else none) else none
 | .gu e bs t,_,.gu e' bs' u xs,d=>if Nat.beq e e'&&Nat.beq bs bs' then(if h:Ty.same u t=true then some (FY h xs,d) else none) else none
 |_,_,_,_=>none
theorem dj.xc(y:YC){s:dj}{l:List Type}{x:aP}{d:prod l}{e:prod (s.H l)}(h:s.G x d=some e):s.V y e=x∧s.R e=d:=by
 cases s with
 |
  var t s=>
  cases x<;>simp only[dj.G] at h<;>try cases h
  obtain⟨hs,h0⟩:=bW h
  have:=Ty.aB hs;subst this
  obtain⟨h1,h2⟩:=Sh.xc y h0
  exact⟨by simp only[dj.V];rw[h1],h2⟩
 |
  row e bs t=>
  cases x<;>simp only[dj.G] at h<;>try cases h
  split at h
  ·rename_i hs
   simp only[bB] at hs
   have e1:=bT hs.1;subst e1
   have e2:=bT hs.2;subst e2
   split at h
   ·rename_i ht
    cases h
    have e3:=Ty.aB ht;subst e3
    trivial
   grind
  grind
 |
  gu e bs t=>
  cases x<;>simp only[dj.G] at h<;>try cases h
  split at h
  ·rename_i hs
   simp only[bB] at hs
   have e1:=bT hs.1;subst e1
   have e2:=bT hs.2;subst e2
   split at h
   ·rename_i ht
    cases h
    have e3:=Ty.aB ht;subst e3
    trivial
   grind
  grind
 |
  map k v=>
  cases x<;>simp only[dj.G] at h<;>try cases h
  split at h
  ·rename_i hs
   split at h
   ·rename_i ht
    cases h
    have e1:=Ty.aB hs;subst e1
    have e3:=Ty.aB ht;subst e3
    trivial
   grind
  grind
 |sY=>cases x<;>simp only[dj.G] at h<;>cases h;trivial
 |lp=>cases x<;>simp only[dj.G] at h<;>cases h;trivial
 |
  tv t s=>
  cases x<;>simp only[dj.G] at h<;>try cases h
  obtain⟨hs,h0⟩:=bW h
  have:=Ty.aB hs;subst this
  split at h0
  ·rename_i r hr
   cases h0
   obtain⟨h1,h2⟩:=Sh.xc y hr
   exact⟨by simp only[dj.V];rw[h1],h2⟩
  grind
 |
  cY e0 bs t s=>
  cases x with
  |
   cY e' bs' u xs i v=>
   simp only[dj.G] at h
   obtain⟨hs,h0⟩:=bW h
   clear h
   simp only[bB] at hs
   have e1:=bT hs.1;subst e1
   have e2:=bT hs.2;subst e2
   by_cases ht:Ty.same u t=true
   ·rw[dif_pos ht] at h0
    cases hr:s.G v d with
    |none=>grind
    |
     some r=>
     rw[hr] at h0
     cases h0
     have e3:=Ty.aB ht;subst e3
     obtain⟨g1,g2⟩:=Sh.xc y hr
     exact⟨by simp only[dj.V];rw[g1];rfl,g2⟩
   grind
  |_=>trivial
 |
  dh e bs t e2=>
  cases x with
  |
   dh e' bs' u xs e2' f=>
   cases f with
   |some f=>trivial
   |
    none=>
    simp only[dj.G] at h
    obtain⟨hs,h0⟩:=bW h
    clear h
    simp only[bB] at hs
    have e1:=bT hs.1.1;subst e1
    have e2:=bT hs.1.2;subst e2
    have e3:=bT hs.2;subst e3
    by_cases ht:Ty.same u t=true
    ·rw[dif_pos ht] at h0
     cases h0
     have e3:=Ty.aB ht;subst e3
     trivial
    grind
  |_=>trivial
 |
  pmap k t e2=>
  cases x with
  |
   pmap k' t' es e2' f=>
   cases f with
   |some f=>trivial
   |
    none=>
    simp only[dj.G] at h
    obtain⟨hs,h0⟩:=bW h
    clear h
    have e3:=bT hs;subst e3
    by_cases ht:Ty.same k' k=true
    ·rw[dif_pos ht] at h0
     by_cases ht':Ty.same t' t=true
     ·rw[dif_pos ht'] at h0
      cases h0
      have e3:=Ty.aB ht;subst e3
      have e4:=Ty.aB ht';subst e4
      trivial
     grind
    grind
  |_=>trivial
 |
  ko k v=>
  cases x with
  |
   ko k' v' es c=>
   cases c with
   |some c=>trivial
   |
    none=>
    simp only[dj.G] at h
    by_cases ht:Ty.same k' k=true
    ·rw[dif_pos ht] at h
     by_cases ht':Ty.same v' v=true
     ·rw[dif_pos ht'] at h
      cases h
      have e3:=Ty.aB ht;subst e3
      have e4:=Ty.aB ht';subst e4
      trivial
     grind
    grind
  |_=>trivial
 |
  il k l=>
  cases x with
  |
   il k' l'=>
   simp only[dj.G] at h
   by_cases ht:Ty.same k' k=true
   ·rw[dif_pos ht] at h
    split at h
    ·rename_i hc
     cases h
     simp only[bB] at hc
     have e3:=Ty.aB ht;subst e3
     refine⟨?_,rfl⟩
     show aP.il _ (Xk l)=_
     rw[FX hc.1 hc.2]
     rfl
    grind
   grind
  |_=>trivial
def Wn:List (Nat×Sh)→List Type→List Type
 |[],l=>l
 |(_,s)::m,l=>s.H (Wn m l)
def tmV(y:YC):(m:List (Nat×Sh))→{l:List Type}→prod (Wn m l)→List (Nat×AV)
 |[],_,_=>[]
 |(i,s)::m,_,d=>(i,s.V y d)::tmV y m (s.R d)
def Xm:(m:List (Nat×Sh))→{l:List Type}→prod (Wn m l)→prod l
 |[],_,d=>d
 |(_,s)::m,_,d=>Xm m (s.R d)
def tmG:(m:List (Nat×Sh))→{l:List Type}→List AV→prod l→Option (prod (Wn m l))
 |[],_,_,d=>some d
 |
  (i,s)::m,_,tm,d=>match tm[i]? with
  |
   some x=>match tmG m tm d with
   |some e=>s.G x e
   |none=>none
  |none=>none
theorem Ke(y:YC):∀{m:List (Nat×Sh)}{l:List Type}{tm:List AV}{d:prod l}{e:prod (Wn m l)},tmG m tm d=some e→(∀i x,(i,x)∈tmV y m e→tm[i]? =some x)∧Xm m e=d
 |[],l,tm,d,e,h=>by cases h;exact⟨(fun i x hx=>by cases hx),rfl⟩
 |
  (i,s)::m,l,tm,d,e,h=>by
  simp only[tmG] at h
  split at h
  ·rename_i x hx
   split at h
   ·rename_i e' he
    obtain⟨h1,h2⟩:=Ke y he
    obtain⟨g1,g2⟩:=Sh.xc y h
    refine⟨?_,by simp only[Xm];grind⟩
    intro j z hz
    simp only[tmV,fJ,gU] at hz
    grind
   grind
  grind
def iq:List (Nat×dj)→List Type→List Type
 |[],l=>l
 |(_,s)::m,l=>s.H (iq m l)
def oA(y:YC):(m:List (Nat×dj))→{l:List Type}→prod (iq m l)→List (Nat×aP)
 |[],_,_=>[]
 |(i,s)::m,_,d=>(i,s.V y d)::oA y m (s.R d)
def Wo:(m:List (Nat×dj))→{l:List Type}→prod (iq m l)→prod l
 |[],_,d=>d
 |(_,s)::m,_,d=>Wo m (s.R d)
def Xn:(m:List (Nat×dj))→{l:List Type}→List (Option aP)→prod l→Option (prod (iq m l))
 |[],_,_,d=>some d
 |
  (i,s)::m,_,hp,d=>match hp[i]? with
  |
   some (some x)=>match Xn m hp d with
   |some e=>s.G x e
   |none=>none
  |_=>none
theorem DG(y:YC):∀{m:List (Nat×dj)}{l:List Type}{hp:List (Option aP)}{d:prod l}{e:prod (iq m l)},Xn m hp d=some e→(∀i x,(i,x)∈oA y m e→hp[i]? =some (some x))∧Wo m e=d
 |[],l,hp,d,e,h=>by cases h;exact⟨(fun i x hx=>by cases hx),rfl⟩
 |
  (i,s)::m,l,hp,d,e,h=>by
  simp only[Xn] at h
  split at h
  ·rename_i x hx
   split at h
   ·rename_i e' he
    obtain⟨h1,h2⟩:=DG y he
    obtain⟨g1,g2⟩:=dj.xc y h
    refine⟨?_,by simp only[Wo];grind⟩
    intro j z hz
    simp only[oA,fJ,gU] at hz
    grind
   grind
  grind
def sG:List Sh→List Type→List Type
 |[],l=>l
 |s::m,l=>s.H (sG m l)
def zh(y:YC):(m:List Sh)→{l:List Type}→prod (sG m l)→List AV
 |[],_,_=>[]
 |s::m,_,d=>s.V y d::zh y m (s.R d)
def zi:(m:List Sh)→{l:List Type}→prod (sG m l)→prod l
 |[],_,d=>d
 |s::m,_,d=>zi m (s.R d)
def TF:(m:List Sh)→{l:List Type}→List AV→prod l→Option (prod (sG m l))
 |[],_,[],d=>some d
 |
  s::m,_,x::xs,d=>match TF m xs d with
  |some e=>s.G x e
  |none=>none
 |_,_,_,_=>none
theorem zj(y:YC):∀{m:List Sh}{l:List Type}{xs:List AV}{d:prod l}{e:prod (sG m l)},TF m xs d=some e→zh y m e=xs∧zi m e=d
 |
  [],l,xs,d,e,h=>by
  cases xs with
  |nil=>cases h;trivial
  |cons _ _=>trivial
 |
  s::m,l,xs,d,e,h=>by
  cases xs with
  |nil=>simp[TF] at h
  |
   cons x xs=>
   simp only[TF] at h
   split at h
   ·rename_i e' he
    obtain⟨h1,h2⟩:=zj y he
    obtain⟨g1,g2⟩:=Sh.xc y h
    exact⟨by simp only[zh];rw[g1,g2,h1],by simp only[zi];rw[g2,h2]⟩
   ·cases h
structure SS where
 nt:Nat
 nh:Nat
 tm:List (Nat×Sh)
 hp:List (Nat×dj)
 df:List Sh
def SS.H(S:SS):List Type:=Wn S.tm (iq S.hp (sG S.df []))
@[reducible] def SS.T (S:SS):Type:=gm S.H
def dq:List (Nat×aP)→List (Nat×Option aP)
 |[]=>[]
 |(i,k)::l=>(i,some k)::dq l
theorem sH{i:Nat}{k:Option aP}:∀{l:List (Nat×aP)},(i,k)∈dq l→∃b,k=some b∧(i,b)∈l
 |[],h=>by cases h
 |
  (j,b)::l,h=>by
  simp only[dq,fJ,gU] at h
  rcases h with⟨rfl,rfl⟩|h
  ·grind
  ·obtain⟨b',e,hm⟩:=sH h
   exact⟨b',e,d7 _ hm⟩
def SS.me(S:SS)(y:YC)(d:prod S.H):St:=
 ⟨mN (tmV y S.tm d) (List.replicate S.nt .bot),mN (dq (oA y S.hp (Ax.Xm S.tm d))) (List.replicate S.nh none),zh y S.df (Wo S.hp (Ax.Xm S.tm d))⟩
def SS.st(S:SS)(y:YC)(t:S.T):St:=S.me y (qR S.H t)
def SS.get(S:SS)(σ:St):Option S.T:=
 if Nat.beq σ.tm.length S.nt&&Nat.beq σ.hp.length S.nh then(match TF S.df (l:=[]) σ.df () with
  |
   some d1=>match Xn S.hp σ.hp d1 with
   |
    some d2=>match tmG S.tm σ.tm d2 with
    |some d3=>some (Sg S.H d3)
    |none=>none
   |none=>none
  |none=>none) else none
theorem oR{α:Type}:∀{l:List (Nat×α)}{m:List α},(mN l m).length=m.length
 |[],_=>rfl
 |(i,x)::l,m=>by rw[mN,oR,cj]
theorem lf{α:Type}{i:Nat}{x:α}:∀{l:List (Nat×α)}{m:List α},(mN l m)[i]? =some x→(i,x)∈l∨m[i]? =some x
 |[],_,h=>Or.inr h
 |
  (j,z)::l,m,h=>by
  rw[mN] at h
  rcases lf h with h|h
  ·exact Or.inl (d7 _ h)
  ·rw[dm] at h
   split at h
   ·rename_i e
    split at h
    ·cases h;subst e;exact Or.inl (dE ..)
    ·cases h
   ·exact Or.inr h
theorem Wk.sub{gl:Ctx}{σ σ':St}(hl:σ'.tm.length=σ.tm.length)(ht:∀(i:Nat)(x:AV),σ'.tm[i]? =some x→x= .bot∨σ.tm[i]? =some x)
 (hh:∀(b:Nat)(k:aP),σ'.hp[b]? =some (some k)→σ.hp[b]? =some (some k)) (hd:σ'.df=σ.df):Wk gl σ σ':=by
 intro E a w h
 refine⟨E,⟨by rw[hl];exact h.len,?_,h.hw.less hh,by rw[hd];exact h.df⟩,{Ext.refl (bK σ.hp E) E w with own:=?_ }⟩
 ·intro i x hx v hv
  rcases ht i x hx with e|e
  ·subst e;trivial
  ·exact h.tm i x e v hv
 ·rintro g ⟨b,k,hb,hg⟩
  exact Or.inl ⟨b,k,hh b k hb,hg⟩
theorem SS.gY{gl:Ctx}{S:SS}{y:YC}{σ:St}{t:S.T}(h:S.get σ=some t):Wk gl σ (S.st y t):=by
 unfold SS.get at h
 split at h
 ·rename_i hc
  simp only[bB] at hc
  have l1:=bT hc.1
  have l2:=bT hc.2
  split at h
  ·rename_i d1 h1
   split at h
   ·rename_i d2 h2
    split at h
    ·rename_i d3 h3
     cases h
     have e0:S.st y (Sg S.H d3)=S.me y d3:=congrArg (S.me y) (qe S.H d3)
     refine Eq.mpr (congrArg (Wk gl σ) e0) ?_
     obtain⟨a1,a2⟩:=zj y h1
     obtain⟨b1,b2⟩:=DG y h2
     obtain⟨c1,c2⟩:=Ke y h3
     refine Wk.sub ?_ ?_ ?_ ?_
     ·grind [SS.me,oR]
     ·intro i x hx
      simp only[SS.me] at hx
      rcases lf hx with hx|hx<;>grind
     ·intro b k hk
      simp only[SS.me] at hk
      rcases lf hk with hk|hk
      ·grind [sH]
      grind
     grind [SS.me]
    grind
   grind
  grind
 grind
end Go.Ax
namespace Go.Ax
inductive Nd where
 |frz (b:Nat) (t:Ty)
 |BQ (c b:Nat)
 |own (c:Nat) (p:Path)
 |pur
def AV.owned:AV→Option Nat
 | .own b| .ju b _ _| .jj b _ _ _| .mp b=>some b
 |
  .cons a b=>match a.owned with
  |some c=>some c
  |none=>b.owned
 |_=>none
def adr:Path→Path
 | .cV n::p=>.cV (n+1)::p
 |p=>p
def DH:List Nd→List Nd
 |[]=>[]
 | .own c p::l=>.own c (adr p)::DH l
 |n::l=>n::DH l
def Kf:List Nd→List Nd
 |[]=>[]
 | .own c p::l=>.own c (.cV 0::p)::Kf l
 |n::l=>n::Kf l
def lU:Sh→AV→List Nd
 |
  .val t,x=>match x.owned with
  |some b=>[.frz b t]
  |
   none=>match x with
   | .val _ _=>[]
   |_=>[.pur]
 | .cb t,.ptr b _=>[.frz b t]
 | .own c,.own b=>[.BQ c b]
 | .own c,.bF=>[.own c []]
 | .ptr c _,.ptr b _=>[.BQ c b]
 | .ju c,.ju b _ _=>[.BQ c b]
 | .jj c _,.jj b _ _ _=>[.BQ c b]
 | .mp c,.mp b=>[.BQ c b]
 | .cons a b,.cons x y=>Kf (lU a x)++DH (lU b y)
 | .func _ a b,.func _ x y=>lU a x++lU b y
 | .iface _ a,.iface _ x=>lU a x
 |_,_=>[]
def FZ:dj→aP→List Nd
 | .var _ s,.var _ x=>lU s x
 | .tv _ s,.tv _ _ x=>lU s x
 | .cY _ _ _ s,.cY _ _ _ _ _ x=>lU s x
 | .ko _ _,.ko _ _ _ (some _)=>[.pur]
 |_,_=>[]
def lkN{α:Type}:List (Nat×α)→Nat→Option α
 |[],_=>none
 |(i,x)::l,j=>if Nat.beq i j then some x else lkN l j
def F0:List Nd→List (Nat×Nat)
 |[]=>[]
 | .BQ c b::l=>(c,b)::F0 l
 |_::l=>F0 l
def Xo:List Nd→Option (Nat×Ty)
 |[]=>none
 | .frz b t::_=>some (b,t)
 |_::l=>Xo l
def Si:List (Nat×Sh)→List AV→List Nd
 |[],_=>[]
 |
  (i,s)::l,tm=>(match tm[i]? with
  |some x=>lU s x
  |none=>[])++Si l tm
def Sj:List Sh→List AV→List Nd
 |s::l,x::xs=>lU s x++Sj l xs
 |_,_=>[]
def F1(hp:List (Nat×dj))(σ:List (Option aP)):Nat→List (Nat×Nat)→List (Nat×Nat)→List Nd→List (Nat×Nat)×List Nd
 |0,_,done,nd=>(done,nd)
 |_+1,[],done,nd=>(done,nd)
 |
  n+1,(c,b)::todo,done,nd=>
  match lkN done c with
  |some _=>F1 hp σ n todo done nd
  |
   none=>
   match lkN hp c,σ[b]? with
   |some s,some (some k)=>F1 hp σ n (F0 (FZ s k)++todo) ((c,b)::done) (nd++FZ s k)
   |_,_=>F1 hp σ n todo ((c,b)::done) nd
def pinned:List (Nat×dj)→List (Option aP)→List (Nat×Nat)
 |[],_=>[]
 |
  (c,s)::l,σ=>if Nat.blt c 16 then(c,c)::pinned l σ else(match s with
  | .sY=>(c,c)::pinned l σ
  |_=>pinned l σ)
def F2(S:SS)(σ:St):List (Nat×Nat)×List Nd:=
 let n0:=Si S.tm σ.tm++Sj S.df σ.df
 F1 S.hp σ.hp 200 (F0 n0++pinned S.hp σ.hp) [] n0
def ads(hp:List (Option aP))(b:Nat)(t:Ty):Ty:=
 match hp[b]? with
 |some (some (.row _ bs u _))=>.slice bs u
 |
  _=>match t with
  | .slice bs u=>.slice bs u
  |_=>.slice 1 (.int .u8)
def F3(S:SS):Nat→St→Option St
 |0,_=>none
 |
  n+1,σ=>match Xo (F2 S σ).2 with
  |none=>some σ
  |
   some (b,t)=>match freeze b (ads σ.hp b t) σ with
   |some σ'=>F3 S n σ'
   |none=>none
def TH:List AV→List Nat
 |[]=>[]
 |x::l=>x.ids++TH l
def TI:List (Option aP)→Nat→List Nat
 |[],_=>[]
 |some k::l,i=>i::(k.ids++TI l (i+1))
 |none::l,i=>TI l (i+1)
def Kg:List (Nat×Nat)→List (Nat×Nat)
 |[]=>[]
 |(c,b)::l=>if Nat.beq c b then Kg l else(c,b)::Kg l
def Kh(used:List Nat):List (Nat×Nat)→List (Nat×Nat)→Option (Nat×Nat×List (Nat×Nat))
 |[],_=>none
 |(c,b)::l,acc=>if cJ c used then Kh used l ((c,b)::acc) else some (c,b,acc++l)
def Xp(b x:Nat):List (Nat×Nat)→List (Nat×Nat)
 |[]=>[]
 |(c,d)::l=>(c,if Nat.beq d b then x else d)::Xp b x l
def xU(top:Nat):Nat→List (Nat×Nat)→St→Option St
 |_,[],σ=>some σ
 |0,_,_=>none
 |
  n+1,(c,b)::mv,σ=>
  match Kh (TH σ.tm++TH σ.df++TI σ.hp 0) ((c,b)::mv) [] with
  |
   some (c',b',rest)=>match rename b' c' σ with
   |some σ'=>xU top n rest σ'
   |none=>none
  |
   none=>match rename b top σ with
   |some σ'=>xU top n (Xp b top ((c,b)::mv)) σ'
   |none=>none
def Ki(hp:List (Nat×dj))(c:Nat)(f:TypeId→Nat→Ty→Gh)(σ:St):Option St:=
 match lkN hp c with
 |some (.row e bs t)=>(f e bs t).go σ
 |_=>none
def xV(hp:List (Nat×dj))(f:Nat→Path→TypeId→Nat→Ty→Gh):List Nd→St→Option St
 |[],σ=>some σ
 |
  .own c p::l,σ=>match Ki hp c (f c p) σ with
  |some σ'=>xV hp f l σ'
  |none=>none
 |_::l,σ=>xV hp f l σ
def zl(hp:List (Nat×dj)):List (Nat×Sh)→St→Option St
 |[],σ=>some σ
 |
  (i,s)::l,σ=>match σ.tm[i]? with
  |
   some x=>match xV hp (fun c _ e bs t=>.xb i c e bs t) (lU s x) σ with
   |some σ'=>zl hp l σ'
   |none=>none
  |none=>none
def uX(hp:List (Nat×dj)):List (Nat×dj)→St→Option St
 |[],σ=>some σ
 |
  (i,s)::l,σ=>match σ.hp[i]? with
  |
   some (some k)=>match xV hp (fun c p e bs t=>.rA i p c e bs t) (FZ s k) σ with
   |some σ'=>uX hp l σ'
   |none=>none
  |_=>uX hp l σ
def DI:List Nd→Bool
 |[]=>false
 | .pur::_=>true
 |_::l=>DI l
def rC:List (Nat×Sh)→St→Option St
 |[],σ=>some σ
 |
  (i,.val t)::l,σ=>match σ.tm[i]? with
  |
   some x=>if DI (lU (.val t) x) then(match(Gh.Kb i t).go σ with
   |some σ'=>rC l σ'
   |none=>none) else rC l σ
  |none=>none
 |_::l,σ=>rC l σ
def rD:List (Nat×dj)→St→Option St
 |[],σ=>some σ
 |
  (i,s)::l,σ=>match σ.hp[i]? with
  |
   some (some k)=>if DI (FZ s k) then(match(Gh.DC i).go σ with
   |some σ'=>rD l σ'
   |none=>none) else rD l σ
  |_=>rD l σ
def Xq:List (Nat×Sh)→List Nat
 |[]=>[]
 |(i,_)::l=>i::Xq l
def Xr:List (Nat×Nat)→List Nat
 |[]=>[]
 |(_,b)::l=>b::Xr l
def SS.tR(
 S:SS) (σ:St):Option S.T:=
 match F3 S 40 σ with
 |none=>none
 |
  some σ1=>
  let m:=(F2 S σ1).1
  match(Gh.BP (Xq S.tm) (Xr m)).go σ1 with
  |none=>none
  |
   some σ2=>match xU (S.nh -1) 60 (Kg m) σ2 with
   |none=>none
   |
    some σ3=>match zl S.hp S.tm σ3 with
    |none=>none
    |
     some σ4=>match uX S.hp S.hp σ4 with
     |none=>none
     |
      some σ5=>match rC S.tm σ5 with
      |none=>none
      |
       some σ6=>match rD S.hp σ6 with
       |none=>none
       |some σ7=>S.get σ7
section
variable{gl:Ctx}
theorem BR{S:SS}:∀{n:Nat}{σ σ':St},F3 S n σ=some σ'→Wk gl σ σ'
 |0,_,_,h=>by cases h
 |
  n+1,σ,σ',h=>by
  simp only[F3] at h
  split at h
  ·cases h;exact Wk.refl gl σ
  ·split at h
   ·rename_i σ1 h1;exact(Wk.freeze h1).trans (BR h)
   ·cases h
theorem uY{top:Nat}:∀{n:Nat}{mv:List (Nat×Nat)}{σ σ':St},xU top n mv σ=some σ'→Wk gl σ σ'
 |
  _,[],σ,σ',h=>by
  grind [xU,Wk.refl]
 |0,_::_,_,_,h=>by trivial
 |
  n+1,(c,b)::mv,σ,σ',h=>by
  simp only[xU] at h
  split at h
  ·split at h
   ·rename_i σ1 h1;exact(Wk.rename h1).trans (uY h)
   ·cases h
  ·split at h
   ·rename_i σ1 h1;exact(Wk.rename h1).trans (uY h)
   ·cases h
theorem kG{hp:List (Nat×dj)}{f:Nat→Path→TypeId→Nat→Ty→Gh}:∀{l:List Nd}{σ σ':St},xV hp f l σ=some σ'→Wk gl σ σ'
 |[],σ,σ',h=>by cases h;exact Wk.refl gl σ
 |
  .own c p::l,σ,σ',h=>by
  simp only[xV] at h
  split at h
  ·rename_i σ1 h1
   unfold Ki at h1
   split at h1
   ·exact(Gh.ok h1).trans (kG h)
   ·cases h1
  ·cases h
 | .frz _ _::l,σ,σ',h=>kG (l:=l) h
 | .BQ _ _::l,σ,σ',h=>kG (l:=l) h
 | .pur::l,σ,σ',h=>kG (l:=l) h
theorem xW{hp:List (Nat×dj)}:∀{l:List (Nat×Sh)}{σ σ':St},zl hp l σ=some σ'→Wk gl σ σ'
 |[],σ,σ',h=>by cases h;exact Wk.refl gl σ
 |
  (i,s)::l,σ,σ',h=>by
  simp only[zl] at h
  split at h
  ·split at h
   ·rename_i σ1 h1;exact(kG h1).trans (xW h)
   ·cases h
  ·cases h
theorem rE{hp:List (Nat×dj)}:∀{l:List (Nat×dj)}{σ σ':St},uX hp l σ=some σ'→Wk gl σ σ'
 |[],σ,σ',h=>by cases h;exact Wk.refl gl σ
 |
  (i,s)::l,σ,σ',h=>by
  simp only[uX] at h
  split at h
  ·split at h
   ·rename_i σ1 h1;exact(kG h1).trans (rE h)
   ·cases h
  ·exact rE (l:=l) h
theorem nF:∀{l:List (Nat×Sh)}{σ σ':St},rC l σ=some σ'→Wk gl σ σ'
 |[],σ,σ',h=>by cases h;exact Wk.refl gl σ
 |
  (i,s)::l,σ,σ',h=>by
  cases s with
  |
   val t=>
   simp only[rC] at h
   split at h
   ·split at h
    ·split at h
     ·rename_i σ1 h1;exact(Gh.ok h1).trans (nF h)
     ·cases h
    ·exact nF (l:=l) h
   ·cases h
  |_=>exact nF (l:=l) h
theorem nG:∀{l:List (Nat×dj)}{σ σ':St},rD l σ=some σ'→Wk gl σ σ'
 |[],σ,σ',h=>by cases h;exact Wk.refl gl σ
 |
  (i,s)::l,σ,σ',h=>by
  simp only[rD] at h
  split at h
  ·split at h
   ·split at h
    ·rename_i σ1 h1;exact(Gh.ok h1).trans (nG h)
    ·cases h
   ·exact nG (l:=l) h
  ·exact nG (l:=l) h
theorem SS.iC{S:SS}{y:YC}{σ:St}{t:S.T}(h:S.tR σ=some t):Wk gl σ (S.st y t):=by
 unfold SS.tR at h
 split at h
 ·cases h
 rename_i σ1 h1
 simp only at h
 split at h
 ·cases h
 rename_i σ2 h2
 split at h
 ·cases h
 rename_i σ3 h3
 split at h
 ·cases h
 rename_i σ4 h4
 split at h
 ·cases h
 rename_i σ5 h5
 split at h
 ·cases h
 rename_i σ6 h6
 split at h
 ·cases h
 rename_i σ7 h7
 exact((((((BR h1).trans (Gh.ok h2)).trans (uY h3)).trans (xW h4)).trans (rE h5)).trans (nF h6)).trans ((nG h7).trans (SS.gY h))
end
end Go.Ax
namespace Go.Ax
def DJ:aP:=.row 0 0 .unit []
theorem F4{E:Env}{w:World}{b:Nat}(h:RB E w b DJ):False:=by
 have h:=h.2.2.2.1
 trivial
def uZ(f:aV)(z:Nat):aV:=⟨f.rt,f.rb,[],none,.bot,[(z,some DJ)]⟩
def F5(z:Nat):aV:=⟨[],[z],[],none,.bot,[]⟩
def jJ(fs:List aV)(f:aV)(z:Nat)(gs:List aV):List aV:=fs++uZ f z::gs
def DK(P:Program)(gl:Ctx)(ops:Array Oper)(z:Nat)(j:Nat)(g:aV)(σ:St):Prop:=oM P gl ops j g σ∨(g=F5 z∧σ.hp[z]? =some (some DJ))
def nH:List Nat→List AV→List AV
 |[],tm=>tm
 |d::l,tm=>nH l (tm.set d .bot)
theorem sI:∀{l:List Nat}{tm:List AV},(nH l tm).length=tm.length
 |[],_=>rfl
 |d::l,tm=>by unfold nH;rw[sI];simp
theorem sJ{i:Nat}{x:AV}:∀{l:List Nat}{tm:List AV},(nH l tm)[i]? =some x→x= .bot∨(i∉l∧tm[i]? =some x)
 |[],_,h=>Or.inr ⟨by simp,h⟩
 |
  d::l,tm,h=>by
  unfold nH at h
  rcases sJ h with h|⟨hl,h⟩<;>grind
def vb(fs:List aV)(f:aV)(z:Nat)(gs:List aV)(σ:St):St:=
 ⟨nH (dstsOf (jJ fs f z gs)) σ.tm,aR (aR σ.hp f.hw) (eQ (kg (jJ fs f z gs))),σ.df⟩
theorem cu.app{OK:Nat→aV→St→Prop}:∀{fs gs:List aV}{i:Nat}{σ σ1 σ':St},cu OK i fs σ σ1→cu OK (i+fs.length) gs σ1 σ'→cu OK i (fs++gs) σ σ'
 |[],gs,i,σ,σ1,σ',h,k=>by grind [cu]
 |f::fs,gs,i,σ,σ1,σ',⟨h1,h2,h3⟩,k=>⟨h1,h2,cu.app h3 (by grind)⟩
theorem cu.hl{OK:Nat→aV→St→Prop}:∀{fs:List aV}{i:Nat}{σ σ':St},cu OK i fs σ σ'→σ'.hp.length=σ.hp.length
 |[],_,_,_,h=>by simp only[cu] at h;grind
 |f::fs,_,σ,_,⟨_,_,h⟩=>by rw[cu.hl h,ru]
def N9(z:Nat)(gs:List aV):Bool:=gs.all fun g=> !cJ z (wrote g.hw)
theorem cu.at{OK:Nat→aV→St→Prop}{z:Nat}{k:Option aP}:∀{fs:List aV}{i:Nat}{σ σ':St},cu OK i fs σ σ'→N9 z fs=true→σ.hp[z]? =some k→σ'.hp[z]? =some k
 |[],_,_,_,h,_,hz=>by grind [cu]
 |
  f::fs,_,σ,_,⟨_,_,h⟩,hn,hz=>by
  simp only[N9,List.all_cons,bB,gV] at hn
  refine cu.at h (by simpa[N9] using hn.2) ?_
  rw[g7,eJ (fun hm=>by rw[mG hm] at hn;cases hn.1)]
  exact hz
theorem vf{P:Program}{G:cd}(T:bM P G){gl:Ctx}{ops:Array Oper}{id:Nat}{draw:Bool}{fs gs:List aV}{f:aV}{z:Nat}{σ σp σe:St}{Q:fV→St→Prop}
 (hc:pO P gl ops 0 fs σ σp) (hp:Ci P gl ops fs.length f σp) (hg2:cu (DK P gl ops z) (fs.length+1) gs (σp.app (uZ f z)) σe) (hnz:N9 z gs=true) (hz:z<σ.hp.length) (hn:fs.length+1+gs.length=ops.size) (gx:draw=true→(lS none ops (jJ fs f z gs)&&iU σ (jJ fs f z gs))=true)
 (hpl:f.v.plain=true) (hq:Q (.panic f.v) (vb fs f z gs σ)):cZ P gl (.region id ops draw) σ Q:=by
 intro E a w hg
 have hzp:(σp.app (uZ f z)).hp[z]? =some (some DJ):=by
  rw[g7]
  simp only[uZ,aR,dm,bU]
  rw[aA (by rw[cu.hl hc];exact hz)]
 have hze:=cu.at hg2 hnz hzp
 have hlen:(jJ fs f z gs).length=ops.size:=by simp[jJ];omega
 have rest:∀(V:St→Env→World→Prop)(Q:Exit→Act→World→Prop) j g σ1,DK P gl ops z j g σ1→MJ P gl ops Q V j g σ1:=by
  intro V Q j g σ1 h
  rcases h with h|⟨rfl,h⟩
  ·exact h.q
  ·intro σ' ha _ E a w hg
   have:σ'.hp[z]? =some (some DJ):=by rw[ha.hp z (by simp[F5]),h]
   exact(F4 (hg.hw.cX z _ this)).elim
 have total:∀Q':Exit→Act→World→Prop,(∀σ2 E2 w2 E' u w',wW gl (dstsOf (jJ fs f z gs)) (kg (jJ fs f z gs)) σ E w σ2 E2 w2→∀a',cp gl {σ2 with hp:=aR σ2.hp f.hw} E' a' w'→RV E' w' f.v u→Ext gl.md (bK σ2.hp E2) E2 w2 (bK (aR σ2.hp f.hw) E') E' w'→Q' (.panic [{v:=u,recovered:=false}]) a' w')→
  cu (MJ P gl ops Q' (wW gl (dstsOf (jJ fs f z gs)) (kg (jJ fs f z gs)) σ E w)) 0 (jJ fs f z gs) σ σe:=by
  intro Q' hQ'
  refine cu.app (hc.mono fun _ _ _=>oM.q) ⟨?_,(fun d hd=>by cases hd),?_⟩
  ·rw[dV]
   intro σ2 ha _ E2 a2 w2 hg2 hv2 K _
   exact hp σ2 ha E2 a2 w2 hg2 K Q' (fun E' u w' q1 q2 q3=>hQ' σ2 E2 w2 E' u w' hv2 a2 q1 q2 q3)
  ·rw[dV]
   exact hg2.mono (rest _ _)
 have post:∀σ2 E2 w2 E' u w',wW gl (dstsOf (jJ fs f z gs)) (kg (jJ fs f z gs)) σ E w σ2 E2 w2→∀a',cp gl {σ2 with hp:=aR σ2.hp f.hw} E' a' w'→RV E' w' f.v u→Ext gl.md (bK σ2.hp E2) E2 w2 (bK (aR σ2.hp f.hw) E') E' w'→qo gl Q σ E w (.panic [{v:=u,recovered:=false}]) a' w':=by
  intro σ2 E2 w2 E' u w' hv a' q1 q2 q3
  have hwk2:cp gl (vb fs f z gs σ) E' a' w'∧Ext gl.md (bK (aR σ2.hp f.hw) E') E' w' (bK (vb fs f z gs σ).hp E') E' w':=by
   refine⟨⟨?_,?_,q1.hw.less ?_,?_⟩,{Ext.refl (bK (aR σ2.hp f.hw) E') E' w' with own:=?_ }⟩
   ·simp only[vb,sI];rw[q1.len];exact hv.tl
   ·intro i x hx v hv'
    rcases sJ hx with hx|⟨hi,hx⟩
    ·subst hx;trivial
    ·exact q1.tm i x (by show σ2.tm[i]? =some x;rw[hv.tm i hi];exact hx) v hv'
   ·intro b k hk
    obtain⟨hb,hk⟩:=dH hk
    show(aR σ2.hp f.hw)[b]? =_
    rw[iw hv.hl (hv.hp b hb)]
    exact hk
   ·show RD E' w' σ.df a'.defers
    rw[←hv.df];exact q1.df
   ·rintro g ⟨b,k,hk,hgb⟩
    obtain⟨hb,hk⟩:=dH hk
    refine Or.inl ⟨b,k,?_,hgb⟩
    rw[iw hv.hl (hv.hp b hb)]
    exact hk
  exact⟨.panic f.v,vb fs f z gs σ,E',⟨u,rfl,RV.iZ hpl q2⟩,hq,hwk2.1,(hv.ext.trans q3).trans hwk2.2⟩
 have noend:∀E' a' w',cp gl σe E' a' w'→False:=fun E' a' w' h=>F4 (h.hw.cX z _ hze)
 cases draw with
 |false=>exact sx hlen (total _ post) hg (fun E' a' w' h _=>(noend E' a' w' h).elim)
 |
  true=>
  have gx:=gx rfl
  simp only[bB] at gx
  exact sB T gx.1 gx.2 (fun _ _ _ _ h=>by cases h) (total _ post) hg (fun E' a' w' h _=>(noend E' a' w' h).elim)
end Go.Ax
namespace Go.Ax
theorem Kj{P:Program}{w:World}{g:Nat}{a:Option Nat}{b:Nat}{c:Array Nat}{d:Nat}{o':Obj}(h:w.heap[g]? =some (.mapIter a b c d)):(setObj g o').run P w= .ok () (w.putObj g o'):=by simp[setObj,Sem.run,h,World.putObj]
theorem BT{P:Program}(w:World)(ty:TypeId)(g bm since c0:Nat)(seen:Array Nat)(es:Array MapEntry)(clock:Nat)(hg:w.heap[g]? =some (.mapIter (some bm) since seen c0))(hb:w.heap[bm]? =some (.map es clock))(hold:∀x∈es.toList,x.born<since)(hsc:since≤c0):
 ((leftOf es seen).size=0∧(Instr.next (.pointer (some ⟨g,0,none⟩)) false ty).run P w= .ok (.tuple #[.bool false]) w)∨
 ∃e∈(leftOf es seen).toList,∃w1:World,(w1=w∨w1=w.drew)∧(Instr.next (.pointer (some ⟨g,0,none⟩)) false ty).run P w= .ok (.tuple #[.bool true,e.key,e.val]) (w1.putObj g (.mapIter (some bm) since (seen.push e.born) clock)):=by
 simp only[Instr.next,getObj,Sem.run_bind,Sem.run,hg,hb,Result.andThen,next_test_false seen es since c0 hold hsc,dr,cT]
 unfold leftOf
 have hmem:∀x∈(Array.filter (fun e=> !seen.contains e.born) es).toList,x.born<since:=fun x hx=>hold x (by grind)
 generalize Array.filter (fun e=> !seen.contains e.born) es=L at hmem ⊢
 have e1:L.filter (fun x=>decide (x.born<since))=L:=Array.filter_eq_self.2 (fun x hx=>by grind)
 have e2:L.filter (fun x=>decide (x.born≥since))= #[]:=by
  simp_all
 simp only[e1,e2,Array.append_empty]
 by_cases h0:L.size=0
 ·simp_all[Question.forced]
 ·right
  have hne:L.isEmpty=false:=by grind
  simp only[hne,dr,cT,Array.empty_append,Array.size_map]
  have hch:∃(j:Nat)(w1:World),j<L.size∧(w1=w∨w1=w.drew)∧(choose (Question.mapNext L.size)).run P w= .ok j w1:=by
   by_cases hf:L.size≤1
   ·exact⟨0,w,by omega,Or.inl rfl,by simp[choose,Sem.run,Question.forced,hf]⟩
   ·exact⟨_,w.drew,Nat.mod_lt _ (by omega),Or.inr rfl,by
     simp only[choose,Sem.run,Question.forced,mo,hf,cT,Question.cut]
     rfl⟩
  obtain⟨j,w1,hj,hal,anj⟩:=hch
  refine⟨L[j],by simp,w1,hal,?_⟩
  have hg1:w1.heap[g]? =some (.mapIter (some bm) since seen c0):=by
   rcases hal with e|e
   ·grind
   ·rw[e];exact hg
  simp only[anj,Array.getElem?_map,Array.getElem?_eq_getElem hj,Option.map_some,Sem.run_bind,Kj hg1,Result.andThen]
  rfl
theorem DL{en:Array MapEntry}{seen:Array Nat}(hn:(en.toList.map (·.born)).Nodup){i:Nat}{e:MapEntry}(he:(jV en seen).toList[i]? =some e):(jV en (seen.push e.born)).toList=(jV en seen).toList.eraseIdx i:=by
 have key:∀(l:List MapEntry)(i:Nat)(e:MapEntry),(l.map (·.born)).Nodup→l[i]? =some e→l.filter (fun x=> !(x.born==e.born))=l.eraseIdx i:=by
  intro l
  induction l with
  |nil=>grind
  |
   cons x l ih=>
   intro i e hn h
   have hn':x.born∉l.map (·.born)∧(l.map (·.born)).Nodup:=List.nodup_cons.1 hn
   cases i with
   |
    zero=>
    simp_all
   |
    succ i=>
    grind
 have hl:(jV en (seen.push e.born)).toList=(jV en seen).toList.filter (fun x=> !(x.born==e.born)):=by
  simp only[jV,Array.toList_filter,List.filter_filter]
  grind
 grind [jV]
theorem RM.ats{E:Env}{w:World}{k v:Ty}:∀{es:List MapEntry}{xs:List (k.den×v.den)},RM E w k v es xs→es.length=xs.length∧(∀(i:Nat)(e:MapEntry)(x:k.den×v.den),es[i]? =some e→xs[i]? =some x→cE E w (.val k x.1) e.key∧cE E w (.val v x.2) e.val)∧∀i,RM E w k v (es.eraseIdx i) (xs.eraseIdx i)
 |[],[],_=>⟨rfl,fun i e x h=>by simp at h,fun i=>by simp[RM]⟩
 |[],_::_,h=>h.elim
 |_::_,[],h=>h.elim
 |
  e::es,x::xs,⟨h1,h2,h3⟩=>by
  obtain⟨a,b,c⟩:=RM.ats h3
  refine⟨by simp[a],?_,?_⟩
  ·grind
  ·intro i
   cases i with
   |zero=>grind
   |succ i=>simpa using⟨h1,h2,c i⟩
noncomputable def th{A R:Type}(xs:List A)(K:A→List A→Option R):Option R:=
 @dite _ (∃r,∀i(h:i<xs.length),K xs[i] (xs.eraseIdx i)=some r) (Classical.propDecidable _) (fun h=>some h.choose) (fun _=>none)
theorem HA{A R:Type}{xs:List A}{K:A→List A→Option R}{r:R}(h:th xs K=some r)(i:Nat)(hi:i<xs.length):K xs[i] (xs.eraseIdx i)=some r:=by
 unfold th at h
 split at h<;>grind
theorem cZ.next{P:Program}{gl:Ctx}{σ:St}{Q:fV→St→Prop}{id:Nat}{o0 o1:Oper}{s d d1 b:Nat}{kt vt:Ty}{rest:List (kt.den×vt.den)}{cur:Option (kt.den×vt.den)}
 (h0:o0.op= .next (.tmp s) false) (hg0:o0.guard=none) (hd0:o0.dst=some d) (h1:o1.op= .extract (.tmp d) 0) (hg1:o1.guard=none) (hd1:o1.dst=some d1)
 (hs:σ.tm[s]? =some (.ptr b [])) (hb:σ.hp[b]? =some (some (.ko kt vt rest cur))) (hl:Nat.blt d σ.tm.length=true)
 (hq0:rest= []→Q .normal ((σ.put (some d) .bot).put (some d1) (.val .bool false)))
 (hq1:∀i(hi:i<rest.length),Q .normal ((({σ with hp:=σ.hp.set b (some (.ko kt vt (rest.eraseIdx i) (some rest[i])))}:St).put (some d) .bot).put (some d1) (.val .bool true))):
 cZ P gl (.region id #[o0,o1] false) σ Q:=by
 intro E a w hg
 obtain⟨g,om,since,seen,c0,q1,q2,q3⟩:=hg.hw.cX b _ hb
 have hlt:d<a.tmps.size:=by rw[hg.len];simp_all
 have hx:a.eval (.tmp s)= .pointer (some ⟨g,0,none⟩):=by
  have hv:=gv hg (.tmp s)
  have:bP gl σ.tm (.tmp s)= .ptr b []:=by simp[bP,hs]
  rw[this] at hv
  obtain⟨g',hg',ev,_⟩:=RV.atom rfl hv
  grind [Ty.off]
 have w0:∀z,Region.wanted o0 z=true:=fun z=>by simp[Region.wanted,hg0]
 have w1:∀z,Region.wanted o1 z=true:=fun z=>by simp[Region.wanted,hg1]
 refine wpIn_region ?_
 have hr:List.range (#[o0,o1]:Array Oper).size= [0,1]:=rfl
 rw[hr]
 have fin:∀(vs:Array Value)(x:Bool)(w':World)(σ':St),(Instr.next (.pointer (some ⟨g,0,none⟩)) false o0.type).run P w= .ok (.tuple vs) w'→vs[0]? =some (.bool x)→cp gl σ' E a w'→Ext gl.md (bK σ.hp E) E w (bK σ'.hp E) E w'→
  Q .normal ((σ'.put (some d) .bot).put (some d1) (.val .bool x))→wpOpsIn (Wd gl) 0 P #[o0,o1] (qo gl Q σ E w) [0,1] a w:=by
  intro vs x w' σ' anj hv0 hg' hext hq
  simp only[wpOpsIn,List.getElem?_toArray,List.getElem?_cons_zero,uF,w0,bU]
  refine⟨fun _ _=>trivial,?_⟩
  rw[Oper.semAt_eq _ _ _ (by grind)]
  have r1:(execOp a.eval o0).run P w= .ok (.value (.tuple vs)) w':=by simp[execOp,h0,hx,anj]
  rw[r1,Oper.uponIn_value,hd0]
  simp only[w1,bU]
  refine⟨fun _ _=>trivial,?_⟩
  rw[Oper.semAt_eq _ _ _ (by grind)]
  have hev:(a.put (some d) (.tuple vs)).eval (.tmp d)= .tuple vs:=by simp[Act.eval,Act.put,hlt]
  have r2:(execOp (a.put (some d) (.tuple vs)).eval o1).run P w'= .ok (.value (.bool x)) w':=by
   simp_all[execOp,Instr.extract]
  rw[r2,Oper.uponIn_value,hd1]
  have ga:=hg'.put (some d) (x:=.bot) (v:=.tuple vs) trivial
  have gb:=ga.put (some d1) (x:=.val .bool x) (v:=.bool x) RV.bool
  exact⟨.normal,_,E,trivial,hq,gb,hext⟩
 have nextNil:om=none→rest= []→wpOpsIn (Wd gl) 0 P #[o0,o1] (qo gl Q σ E w) [0,1] a w:=by
  intro e1 e2
  subst e1
  refine fin #[.bool false] false w σ ?_ rfl hg (Ext.refl _ _ _) (hq0 e2)
  simp only[Instr.next,getObj,Sem.run_bind,Sem.run,q2,Result.andThen]
  rfl
 rcases q3 with⟨e1,e2,_⟩|⟨bm,en,e1,r2,r3,e4,r5,r6,r7,r8⟩
 ·grind
 ·subst e1;subst e4
  obtain⟨m1,m2,m3⟩:=RM.ats r7
  rcases BT (P:=P) w o0.type g bm since since seen en since q2 r3 r5 (dc _) with⟨z,anj⟩|⟨e,he,w1',hw1,anj⟩
  ·have hr0:rest= []:=by
    grind [leftOf,jV]
   exact fin #[.bool false] false w σ anj rfl hg (Ext.refl _ _ _) (hq0 hr0)
  ·have he:e∈(jV en seen).toList:=he
   obtain⟨i,hi,hie⟩:=List.mem_iff_getElem.1 he
   have hie':(jV en seen).toList[i]? =some e:=by grind
   have hir:i<rest.length:=by grind
   have hrm:=DL r6 hie'
   have hen:e∈en.toList:=by
    grind [jV]
   obtain⟨k1,k2⟩:=m2 i e rest[i] hie' (mq hir)
   have hh:w1'.heap=w.heap:=by rcases hw1 with e|e<;>rw[e]<;>rfl
   have hlg:g<w1'.heap.size:=by grind
   have hne:bm≠g:=fun e=>by grind
   have hoth:∀j,j≠g→(w1'.putObj g (.mapIter (some bm) since (seen.push e.born) since)).heap[j]? =w.heap[j]? :=fun j hj=>by
    grind [World.putObj_heap_other]
   have kp:bS E w E (w1'.putObj g (.mapIter (some bm) since (seen.push e.born) since)):=⟨fun j hj=>hoth j (fun e=>hg.hw.kf b _ g hb q1 (e▸hj)),fun _ h=>h⟩
   have hrb:RB E (w1'.putObj g (.mapIter (some bm) since (seen.push e.born) since)) b (.ko kt vt (rest.eraseIdx i) (some rest[i])):=by
    refine⟨g,some bm,since,seen.push e.born,since,q1,World.putObj_heap_same hlg,Or.inr ⟨bm,en,rfl,r2,by grind,rfl,r5,r6,?_,?_⟩⟩
    ·rw[hrm];exact RM.mono kp (m3 i)
    ·intro x hx
     cases hx
     exact⟨e,seen,rfl,hen,cE.mono kp (fun _ hb=>by cases hb) k1,cE.mono kp (fun _ hb=>by cases hb) k2⟩
   have hw2:=hg.hw.write (w':=w1'.putObj g (.mapIter (some bm) since (seen.push e.born) since)) hb (by simp_all) (fun j hj=>hoth j (fun e=>hj (by grind))) hrb
   refine fin #[.bool true,e.key,e.val] true _ {σ with hp:=σ.hp.set b (some (.ko kt vt (rest.eraseIdx i) (some rest[i])))} anj rfl (hg.carry kp (fun _ _=>⟨rfl,rfl,rfl⟩) hw2) ⟨?_,?_,?_,?_,?_,fun _ h=>h,fun _ h=>Or.inl h,fun i hi=>Or.inl (bK.set hb hi),fun _ _=>⟨rfl,rfl,rfl⟩⟩ (hq1 i hir)
   ·rcases hw1 with e|e<;>rw[e]<;>rfl
   ·rcases hw1 with e|e
    ·rw[e];exact Tp.r rfl rfl
    ·rw[e];exact Tp.s rfl rfl
   ·rcases hw1 with e|e<;>rw[e]<;>rfl
   ·simp_all
   ·intro j hj ho
    exact hoth j (fun e=>ho ⟨b,_,hb,by rw[e];exact Or.inl q1⟩)
end Go.Ax
namespace Go.Ax
theorem cZ.Ob{P:Program}{gl:Ctx}{σ:St}{Q:fV→St→Prop}{id:Nat}{o1 o2:Oper}{y:Code}(x:Operand)(d1 d2:Nat)(t t2 e:TypeId)(bs:Nat)(u:Ty)(xs:List u.den)
 (h1:o1.op= .move x) (hd1:o1.dst=some d1) (hg1:o1.guard=none) (h2:o2.op= .binOp .eql t (.tmp d1) (.const (.slice none 0 0)) t2) (hd2:o2.dst=some d2) (hg2:o2.guard=none)
 (hx:bP gl σ.tm x= .val (.slice bs u) xs) (ht:P.underlying t=some (.slice e)) (hl:Nat.blt d1 σ.tm.length=true)
 (h:∀b:Bool,(b=true→xs= [])→cZ P gl y ((σ.put (some d1) (.val (.slice bs u) xs)).put (some d2) (.val .bool b)) Q):cZ P gl (.seq (.region id #[o1,o2] false) y) σ Q:=by
 intro E a w hg
 have hv:=gv hg x
 rw[hx] at hv
 obtain⟨ad,cap,hve,_,_,_,hor⟩:=RV.atom rfl hv
 simp at hve
 have hlt:d1<a.tmps.size:=by rw[hg.len];simp[Nat.blt] at hl;omega
 refine wpIn_seq (wpIn_region ?_)
 have hr:List.range (#[o1,o2]:Array Oper).size= [0,1]:=rfl
 rw[hr]
 have w1:∀z,Region.wanted o1 z=true:=fun z=>by simp[Region.wanted,hg1]
 have w2:∀z,Region.wanted o2 z=true:=fun z=>by simp[Region.wanted,hg2]
 have ga:=hg.put (some d1) hv
 have hb:ad.isNone=true→xs= []:=by
  intro hn
  rcases hor with h0|⟨b,o,cs,e1,_⟩
  ·exact h0
  ·subst e1;cases hn
 have gb:=ga.put (some d2) (x:=.val .bool ad.isNone) (v:=.bool ad.isNone) (RV.eI (Or.inr ⟨rfl,rfl⟩))
 have hfin:=h ad.isNone hb E _ w gb
 simp only[wpOpsIn,List.getElem?_toArray,List.getElem?_cons_zero,uF,w1,bU]
 refine⟨fun _ _=>trivial,?_⟩
 rw[Oper.semAt_eq _ _ _ (by rw[h1];intro c hc;cases hc)]
 have r1:(execOp a.eval o1).run P w= .ok (.value (a.eval x)) w:=by simp[execOp,h1]
 rw[r1,Oper.uponIn_value,hd1]
 simp only[w2,bU]
 refine⟨fun _ _=>trivial,?_⟩
 rw[Oper.semAt_eq _ _ _ (by rw[h2];intro c hc;cases hc)]
 have hev:(a.put (some d1) (a.eval x)).eval (.tmp d1)= .slice ad xs.length cap:=by
  have:(a.put (some d1) (a.eval x)).eval (.tmp d1)=a.eval x:=by
   generalize a.eval x=v
   simp[Act.eval,Act.put,hlt]
  rw[this,hve]
 have r2:(execOp (a.put (some d1) (a.eval x)).eval o2).run P w= .ok (.value (.bool ad.isNone)) w:=by
  have hq:=run_equal_slice_nil (P:=P) w t e ad xs.length cap ht
  have hc:(a.put (some d1) (a.eval x)).eval (.const (.slice none 0 0))= .slice none 0 0:=rfl
  simp[execOp,h2,hev,hc,eqGuard,binOp,hq]
 rw[r2,Oper.uponIn_value,hd2]
 simp only[Exit.then]
 refine wpIn_mono hfin ?_
 rintro ex a' w' ⟨x',σ',E',k1,k2,k3,k4⟩
 exact⟨x',σ',E',k1,k2,k3,k4⟩
end Go.Ax
namespace Go.Ax
theorem HW.frame{gl:Ctx}{E:Env}{w:World}{hp:List (Option aP)}(h:HW gl E w hp){g:Nat}{o:Obj}(hS:¬E.S g)(hO:¬bK hp E g):bS E w E (w.putObj g o)∧HW gl E (w.putObj g o) hp:=by
 have kp:bS E w E (w.putObj g o):=⟨fun b hb=>World.putObj_heap_other (fun e=>hS (e▸hb)),fun _ h=>h⟩
 exact⟨kp,fun b k hb=>RB.mono kp (fun _ _=>⟨rfl,rfl,rfl⟩) (fun i hi=>World.putObj_heap_other (fun e=>hO ⟨b,k,hb,by grind⟩)) (fun _ _ h=>h) (h.cX b k hb),h.eH,h.dL,fun i hi=>by simpa using h.slt i hi,h.gZ kp,fun b k g hb hg=>by simpa using h.sZ b k g hb hg⟩
theorem cp.frame{gl:Ctx}{σ:St}{E:Env}{a:Act}{w:World}(h:cp gl σ E a w){g:Nat}{o:Obj}(hS:¬E.S g)(hO:¬bK σ.hp E g):cp gl σ E a (w.putObj g o):=by
 obtain⟨kp,hw⟩:=h.hw.frame (o:=o) hS hO
 exact h.carry kp (fun _ _=>⟨rfl,rfl,rfl⟩) hw
theorem Ext.put{gl:Ctx}{O:Nat→Prop}{E:Env}{w:World}{g:Nat}{o:Obj}(h:O g):Ext gl.md O E w O E (w.putObj g o):=
 ⟨rfl,Tp.r rfl rfl,rfl,by simp,fun i _ hi=>World.putObj_heap_other (fun e=>hi (e▸h)),fun _ h=>h,fun _ h=>Or.inl h,fun _ h=>Or.inl h,fun _ _=>⟨rfl,rfl,rfl⟩⟩
theorem lg{hp:List (Option aP)}{b c:Nat}{k:aP}(h:(hp.set b none)[c]? =some (some k)):c≠b∧hp[c]? =some (some k):=by
 grind
theorem HW.drop{gl:Ctx}{E:Env}{w:World}{hp:List (Option aP)}(h:HW gl E w hp)(b:Nat):HW gl E w (hp.set b none):=h.less (fun _ _ hc=>(lg hc).2)
theorem bK.drop{E:Env}{hp:List (Option aP)}{b g:Nat}(h:bK (hp.set b none) E g):bK hp E g:=by
 obtain⟨c,k,h1,h2⟩:=h
 exact⟨c,k,(lg h1).2,h2⟩
theorem cp.shut{gl:Ctx}{σ:St}{E:Env}{a:Act}{w:World}(h:cp gl σ E a w){b g:Nat}{k:aP}(hb:σ.hp[b]? =some (some k))(hg:E.g b=some g)(o:Obj):
 cp gl {σ with hp:=σ.hp.set b none} E a (w.putObj g o)∧Ext gl.md (bK σ.hp E) E w (bK (σ.hp.set b none) E) E (w.putObj g o):=by
 have hS:¬E.S g:=h.hw.kf b k g hb hg
 have hO:¬bK (σ.hp.set b none) E g:=by
  rintro⟨c,k',hc,hgc⟩
  obtain⟨h1,h2⟩:=lg hc
  exact h1 (h.hw.eH c b k' k g h2 hb hgc (Or.inl hg))
 have h1:cp gl {σ with hp:=σ.hp.set b none} E a w:=⟨h.len,h.tm,h.hw.drop b,h.df⟩
 refine⟨h1.frame hS hO,?_⟩
 have:=Ext.put (gl:=gl) (O:=bK σ.hp E) (E:=E) (w:=w) (o:=o) ⟨b,k,hb,Or.inl hg⟩
 exact{this with own:=fun i hi=>Or.inl (bK.drop hi)}
def marks:List AV→List (Option aP)→Option (List (Option aP))
 |[],hp=>some hp
 |
  .mp b::l,hp=>match eG hp b with
  |some .sY=>marks l (hp.set b none)
  |_=>none
 |_,_=>none
theorem F6{P:Program}{gl:Ctx}{fn:Func}{R:Ending→World→Prop}{tmps:Array Value}:∀(df:List AV){tm:List AV}{hp hp':List (Option aP)}{E:Env}{ds:List Deferred}{w:World},
 cp gl ⟨tm,hp,df⟩ E ⟨tmps,ds⟩ w→marks df hp=some hp'→(∀w',cp gl ⟨tm,hp',[]⟩ E ⟨tmps,[]⟩ w'→Ext gl.md (bK hp E) E w (bK hp' E) E w'→LeavesIn (Wd gl) 0 P fn tmps R [] .returning w')→LeavesInM (Wd gl) 0 P fn tmps R ds .returning w
 |
  [],tm,hp,hp',E,ds,w,h,hm,hk=>by
  cases hm
  have:ds= []:=by
   have:=h.df
   cases ds with
   |nil=>rfl
   |cons _ _=>trivial
  subst this
  exact hk w h (Ext.refl _ _ _)
 |
  x::l,tm,hp,hp',E,ds,w,h,hm,hk=>by
  cases x with
  |
   mp b=>
   simp only[marks] at hm
   split at hm
   ·rename_i hb
    have hbk:=cq hp b _ hb
    cases ds with
    |nil=>exact h.df.elim
    |
     cons d ds=>
     obtain⟨⟨g,hg,hd⟩,hrest⟩:=h.df
     obtain⟨g',hg',hh⟩:=h.hw.cX b _ hbk
     rw[hg] at hg';cases hg'
     have h0:cp gl ⟨tm,hp,l⟩ E ⟨tmps,ds⟩ w:=⟨h.len,h.tm,h.hw,hrest⟩
     obtain⟨g1,x1⟩:=h0.shut hbk hg (.deferred none)
     refine⟨by simp,Or.inl ⟨g,_,by rw[hd],run_takeDeferred hh,?_⟩⟩
     exact F6 l g1 hm (fun w' k1 k2=>hk w' k1 (x1.trans k2))
   ·cases hm
  |_=>simp[marks] at hm
end Go.Ax
namespace Go.Ax
def Ctx.wB(gl:Ctx)(B:(Nat→Prop)→World→Prop)(hB:∀{S S':Nat→Prop}{w w':World},(∀b,S b→w'.heap[b]? =w.heap[b]?)→(∀b,S b→S' b)→B S w→B S' w'):Ctx:=⟨gl.gl,B,hB,none,gl.md⟩
def Ctx.tj(gl:Ctx)(l:Nat):Ctx:=⟨gl.gl,fun _ _=>True,fun _ _ _=>trivial,some l,gl.md⟩
def jmp(jl:List Code):Nat→Option Code
 |0=>none
 |j+1=>jl[j]?
def fM(fn:FuncId)(tmps:Array Value)(ps:Array Tmp)(assign body:Code)(D:Nat)(jl:List Code)(j:Nat):Loop:=
 {state:=if Nat.beq j 0 then .ready else .done,pending:=jmp jl j,fn,tmps,params:=ps,assign,body,defers:=D}
def AV.n9(m:List (Nat×Nat)):AV→Option AV
 | .ptr b p=>(mh m b).map fun c=>.ptr c p
 | .jj b p lo len=>(mh m b).map fun c=>.jj c p lo len
 |
  .func fn fs cs=>match fs.n9 m,cs.n9 m with
  |some f,some c=>if f.atoms&&c.atoms then some (.func fn f c) else none
  |_,_=>none
 |
  .cons a b=>match a.n9 m,b.n9 m with
  |some x,some y=>some (.cons x y)
  |_,_=>none
 | .val t x=>some (.val t x)
 | .cb t x=>some (.cb t x)
 | .bF=>some .bF
 | .fC=>some .fC
 | .eA=>some .eA
 | .fD=>some .fD
 | .fE f t x=>some (.fE f t x)
 | .gW=>some .gW
 | .nil=>some .nil
 |_=>none
structure RnP(m:List (Nat×Nat))(E:Env)(w:World)(E':Env)(w':World):Prop where
 at':∀b c,mh m b=some c→E'.g c=E.g b∧E'.bt c=E.bt b
 k:bS E w E' w'
theorem AV.F7{m:List (Nat×Nat)}{x y:AV}(h:x.n9 m=some y):y.isAgg=x.isAgg:=by
 cases x with
 |ptr b p=>simp only[AV.n9,fN] at h;obtain⟨c,_,rfl⟩:=h;rfl
 |jj b p lo len=>simp only[AV.n9,fN] at h;obtain⟨c,_,rfl⟩:=h;rfl
 |
  func fn fs cs=>
  simp only[AV.n9] at h
  split at h
  ·split at h
   ·cases h;rfl
   grind
  grind
 |
  cons a b=>
  simp only[AV.n9] at h
  split at h
  ·cases h;rfl
  grind
 |_=>simp[AV.n9] at h<;>subst h<;>rfl
theorem RC.n9{m:List (Nat×Nat)}{E E':Env}{w w':World}(r:RnP m E w E' w'):∀{x y:AV}{vs:List Value},x.n9 m=some y→RC E w x vs→RC E' w' y vs:=by
 intro x
 induction x with
 |
  ptr b p=>
  intro y vs h hr
  simp only[AV.n9,fN] at h
  obtain⟨c,hc,rfl⟩:=h
  obtain⟨e1,e2⟩:=r.at' b c hc
  obtain⟨g,h1,h2,h3⟩:=hr
  exact⟨g,by grind,by grind,by grind⟩
 |
  jj b p lo len=>
  intro y vs h hr
  simp only[AV.n9,fN] at h
  obtain⟨c,hc,rfl⟩:=h
  obtain⟨e1,e2⟩:=r.at' b c hc
  obtain⟨n,t,h1,h2,h3,a,cap,h4,h5,h6⟩:=hr
  refine⟨n,t,by rw[e2];exact h1,by rw[e2];exact h2,h3,a,cap,h4,h5,h6.imp id ?_⟩<;>grind
 |
  func fn fs cs ih1 ih2=>
  intro y vs h hr
  simp only[AV.n9] at h
  split at h
  ·rename_i f c h1 h2
   split at h
   ·rename_i ha
    cases h
    simp only[bB] at ha
    obtain⟨f',c',e,r1,r2,_,_⟩:=hr
    exact⟨f',c',e,ih1 h1 r1,ih2 h2 r2,ha.1,ha.2⟩
   grind
  grind
 |
  cons a b ih1 ih2=>
  intro y vs h hr
  simp only[AV.n9] at h
  split at h
  ·rename_i x y h1 h2
   cases h
   obtain⟨v1,v2,e,r1,r2⟩:=hr
   exact⟨v1,v2,e,ih1 h1 r1,ih2 h2 r2⟩
  grind
 |val t x=>intro y vs h hr;simp only[AV.n9,dk] at h;subst h;exact RC.mono (a:=.val t x) r.k (fun _ hb=>by cases hb) hr
 |cb t x=>intro y vs h hr;simp only[AV.n9,dk] at h;subst h;exact RC.mono (a:=.cb t x) r.k (fun _ hb=>by cases hb) hr
 |bF=>intro y vs h hr;simp only[AV.n9,dk] at h;subst h;exact hr
 |fC=>intro y vs h hr;simp only[AV.n9,dk] at h;subst h;exact hr
 |eA=>intro y vs h hr;simp only[AV.n9,dk] at h;subst h;exact hr
 |fD=>intro y vs h hr;simp only[AV.n9,dk] at h;subst h;exact hr
 |fE f t x=>intro y vs h hr;simp only[AV.n9,dk] at h;subst h;obtain⟨ha,cs,h1,h2⟩:=hr;exact⟨ha,cs,h1,Rel.mono r.k.w r.k.S h2⟩
 |gW=>intro y vs h hr;simp only[AV.n9,dk] at h;subst h;exact hr
 |nil=>intro y vs h hr;simp only[AV.n9,dk] at h;subst h;exact hr
 |_=>intro y vs h hr;trivial
theorem RV.n9{m:List (Nat×Nat)}{E E':Env}{w w':World}(r:RnP m E w E' w'){x y:AV}{v:Value}(h:x.n9 m=some y)(hr:RV E w x v):RV E' w' y v:=by
 have hp:x.plain=true:=by cases x<;>simp[AV.n9] at h<;>rfl
 have h0:=RV.iZ hp hr
 refine RV.eI ?_
 rcases h0 with⟨h1,cs,e,h2⟩|⟨h1,h2⟩
 ·exact Or.inl ⟨by rw[AV.F7 h];exact h1,cs,e,RC.n9 r h h2⟩
 ·exact Or.inr ⟨by rw[AV.F7 h];exact h1,RC.n9 r h h2⟩
def Kk(m:List (Nat×Nat)):List AV→List AV
 |[]=>[]
 |x::l=>(match x.n9 m with|some y=>y|none=>.bot)::Kk m l
theorem F8{m:List (Nat×Nat)}:∀{l:List AV},(Kk m l).length=l.length
 |[]=>rfl
 |_::l=>by simp[Kk,F8 (l:=l)]
theorem F9{m:List (Nat×Nat)}:∀{l:List AV}{i:Nat}{y:AV},(Kk m l)[i]? =some y→y= .bot∨∃x,l[i]? =some x∧x.n9 m=some y
 |[],i,y,h=>by trivial
 |
  x::l,0,y,h=>by
  simp only[Kk,List.getElem?_cons_zero,dk] at h
  grind
 |
  x::l,i+1,y,h=>by
  simp only[Kk,uF] at h
  simpa using F9 h
def sK:List (Nat×AV)→List AV→List AV
 |[],l=>l
 |(t,x)::r,l=>sK r (l.set t x)
theorem BU{E:Env}{w:World}:∀{ps:List Nat}{args:List AV}{vs:List Value}{tm:List AV}{tmps:Array Value},mc E w args vs→tmps.size=tm.length→(∀(i:Nat)(x:AV),tm[i]? =some x→∀v,tmps[i]? =some v→RV E w x v)→
 ((ps.zip vs).foldl (fun t(p:Nat×Value)=>t.setIfInBounds p.1 p.2) tmps).size=(sK (ps.zip args) tm).length∧
 (∀(i:Nat)(x:AV),(sK (ps.zip args) tm)[i]? =some x→∀v,((ps.zip vs).foldl (fun t(p:Nat×Value)=>t.setIfInBounds p.1 p.2) tmps)[i]? =some v→RV E w x v)
 |[],args,vs,tm,tmps,_,hs,ht=>by trivial
 |p::ps,[],[],tm,tmps,_,hs,ht=>by trivial
 |p::ps,[],_::_,tm,tmps,h,hs,ht=>h.elim
 |p::ps,_::_,[],tm,tmps,h,hs,ht=>h.elim
 |
  p::ps,a::args,v::vs,tm,tmps,⟨h1,h2⟩,hs,ht=>by
  simp only[List.zip_cons_cons,List.foldl_cons,sK]
  refine BU h2 (by simp[hs]) ?_<;>grind
def l4(i:Nat):List (Nat×Ty)→Bool
 |[]=>false
 |(j,_)::l=>Nat.beq i j||l4 i l
def mO(gs:Nat→Nat)(ti:List (Nat×Ty))(i:Nat):aP→aP
 | .var t v=>if l4 i ti then .tv (gs i) t v else .var t v
 |k=>k
def tie(gs:Nat→Nat)(ti:List (Nat×Ty)):Nat→List (Option aP)→List (Option aP)
 |_,[]=>[]
 |s,none::l=>none::tie gs ti (s+1) l
 |s,some k::l=>some (mO gs ti s k)::tie gs ti (s+1) l
theorem nI{gs:Nat→Nat}{ti:List (Nat×Ty)}:∀{l:List (Option aP)}{s:Nat},(tie gs ti s l).length=l.length
 |[],_=>rfl
 |none::l,s=>by simp[tie,nI (l:=l)]
 |some _::l,s=>by simp[tie,nI (l:=l)]
theorem iN{gs:Nat→Nat}{ti:List (Nat×Ty)}:∀{l:List (Option aP)}{s i:Nat}{k:aP},(tie gs ti s l)[i]? =some (some k)→∃k0,l[i]? =some (some k0)∧k=mO gs ti (s+i) k0
 |[],s,i,k,h=>by trivial
 |none::l,s,0,k,h=>by simp[tie] at h
 |some x::l,s,0,k,h=>by simp_all[tie]
 |
  none::l,s,i+1,k,h=>by
  obtain⟨k0,h1,h2⟩:=iN (l:=l) (by simpa[tie] using h)
  exact⟨k0,by simpa using h1,by rw[h2];congr 1;omega⟩
 |
  some x::l,s,i+1,k,h=>by
  obtain⟨k0,h1,h2⟩:=iN (l:=l) (by simpa[tie] using h)
  exact⟨k0,by simpa using h1,by rw[h2];congr 1;omega⟩
theorem zm{gs:Nat→Nat}{ti:List (Nat×Ty)}:∀{l:List (Option aP)}{s i:Nat}{k:aP},l[i]? =some (some k)→(tie gs ti s l)[i]? =some (some (mO gs ti (s+i) k))
 |[],s,i,k,h=>by simp at h
 |none::l,s,0,k,h=>by simp at h
 |some x::l,s,0,k,h=>by simp at h;subst h;rfl
 |
  none::l,s,i+1,k,h=>by
  have:=zm (gs:=gs) (ti:=ti) (s:=s+1) (l:=l) (i:=i) (k:=k) (by grind)
  grind [tie]
 |
  some x::l,s,i+1,k,h=>by
  have:=zm (gs:=gs) (ti:=ti) (s:=s+1) (l:=l) (i:=i) (k:=k) (by grind)
  grind [tie]
theorem RB.Xs{gs:Nat→Nat}{ti:List (Nat×Ty)}{E:Env}{w:World}{i:Nat}{k:aP}(h:RB E w i (mO gs ti i k)):RB E w i k:=by
 cases k with
 |
  var t v=>
  simp only[mO] at h
  split at h
  ·obtain⟨h0,h1,h2,c,e,h4,h5⟩:=h;exact⟨h1,h2,_,c,e,h0,h4,h5⟩
  grind
 |_=>exact h
theorem RB.tie{gs:Nat→Nat}{ti:List (Nat×Ty)}{E:Env}{w:World}{i:Nat}{k:aP}(h:RB E w i k)(hg:l4 i ti=true→E.g i=some (gs i)):RB E w i (mO gs ti i k):=by
 cases k with
 |
  var t v=>
  simp only[mO]
  split
  ·rename_i hh
   obtain⟨h1,h2,g,c,e,h3,h4,h5⟩:=h
   have:=hg hh
   rw[this] at h3;cases h3
   exact⟨this,h1,h2,c,e,h4,h5⟩
  grind
 |_=>exact h
def qg(hp:List (Option aP)):List (Nat×Ty)→Bool
 |[]=>true
 |(i,t)::l=>(match hp[i]? with|some (some (.var t' _))=>Ty.same t' t|_=>false)&&Nat.blt i 16&&qg hp l
theorem vg{hp:List (Option aP)}{i:Nat}:∀{ti:List (Nat×Ty)},qg hp ti=true→l4 i ti=true→i<16∧∃t v,hp[i]? =some (some (.var t v))∧(i,t)∈ti
 |[],_,h=>by cases h
 |
  (j,t)::l,h,hi=>by
  simp only[qg,bB] at h
  simp only[l4,fQ] at hi
  rcases hi with hi|hi
  ·have e:=bT hi;subst e
   refine⟨by simp_all,?_⟩
   grind [Ty.aB]
  ·obtain⟨h1,t',v,h2,h3⟩:=vg h.2 hi
   grind
def Xt(P:Program)(gl:Ctx)(y:Code)(Q:fV→St→Prop):fV→St→Prop
 | .normal,σ=>cZ P gl y σ Q
 |_,_=>False
def Xu(gl:Ctx)(jl:List Code)(j:Nat)(H:List (Option aP)):fV→St→Prop
 | .normal,σ=>j=0∧∃σ' m,Wk gl σ σ'∧prune σ'.hp m=H
 | .ret,σ=>(j≠0∧jmp jl j=some .ret)∧∃σ' m,Wk gl σ σ'∧prune σ'.hp m=H
 | .exit i,σ=>(j≠0∧jmp jl j=some (.exit i))∧∃σ' m,Wk gl σ σ'∧prune σ'.hp m=H
 |_,_=>False
theorem HW.ctx{C C':Ctx}{E:Env}{w:World}{hp:List (Option aP)}(h:HW C E w hp)(hg:C'.gl=C.gl)(hb:C'.B E.S w):HW C' E w hp:=
 ⟨h.cX,h.eH,h.dL,h.slt,⟨by rw[hg];exact h.gl.1,hb⟩,h.sZ⟩
theorem Ext.add{gl:Ctx}{O O':Nat→Prop}{E E':Env}{w w':World}(h:Ext gl.md O E w O' E' w')(l:Nat):Ext gl.md (fun g=>O g∨g=l) E w (fun g=>O' g∨g=l) E' w' where
 os:=h.os
 tape:=h.tape
 output:=h.output
 size:=h.size
 kept:=fun g hg ho=>h.kept g hg (fun x=>ho (Or.inl x))
 sle:=h.sle
 mB:=fun g hg=>(h.mB g hg).imp id (fun x=>x.imp Or.inl id)
 own:=fun g hg=>by
  rcases hg with hg|hg
  ·exact(h.own g hg).imp Or.inl id
  grind
 Ht:=h.Ht
theorem Fy.Oc{P:Program}{gl:Ctx}{σ:St}{E:Env}{a:Act}{w:World}(hg:cp gl σ E a w){B:(Nat→Prop)→World→Prop}{hB:∀{S S':Nat→Prop}{w w':World},(∀b,S b→w'.heap[b]? =w.heap[b]?)→(∀b,S b→S' b)→B S w→B S' w'}
 (hBu:∀S' w',B S' w'→(∀b,E.S b→S' b)∧(∀b,E.S b→w'.heap[b]? =w.heap[b]?)) {l D k0:Nat} {fn:FuncId} {ps:Array Tmp} {assign body:Code} {gs:Nat→Nat} {ti:List (Nat×Ty)} {m:List (Nat×Nat)} {jl:List Code}
 (hti:∀b i,mh m b=some i→l4 i ti=true∧E.g b=some (gs i)∧∀t,(i,t)∈ti→E.bt b=t)
 {args:List AV} {H H':List (Option aP)} {j:Nat} (hps:ps.size=args.length) (hk:Nat.blt k0 16=true) (hkt:l4 k0 ti=false) (h0:H[k0]? =some none) (h0':H'[k0]? =some none) (ht:qg H ti=true) (_ht':qg H' ti=true)
 (anj:cZ P (gl.tj l) assign ⟨sK (ps.toList.zip args) (Kk m σ.tm),H,[]⟩ (Xt P (gl.tj l) body (Xu (gl.tj l) jl j H'))):
 Fy P (gl.wB B hB) l args ((tie gs ti 0 H).set k0 (some (.lp ⟨l,gs,fM fn a.tmps ps assign body D jl⟩ 0))) (.ret (.val .bool (Nat.beq j 0))) ((tie gs ti 0 H').set k0 (some (.lp ⟨l,gs,fM fn a.tmps ps assign body D jl⟩ j))):=by
 intro E1 w1 vs hv hW
 have hk16:k0<16:=by simp_all
 have lenH:k0<(tie gs ti 0 H).length:=by grind [nI]
 have lenH':k0<(tie gs ti 0 H').length:=by grind [nI]
 have hlp:((tie gs ti 0 H).set k0 (some (.lp ⟨l,gs,fM fn a.tmps ps assign body D jl⟩ 0)))[k0]? =some (some (.lp ⟨l,gs,fM fn a.tmps ps assign body D jl⟩ 0)):=by
  grind
 obtain⟨hgl,hrec⟩:E1.g k0=some l∧w1.heap[l]? =some (.loop (fM fn a.tmps ps assign body D jl 0)):=hW.cX k0 _ hlp
 have at1:∀(i:Nat)(k:aP),H[i]? =some (some k)→i≠k0∧((tie gs ti 0 H).set k0 (some (.lp ⟨l,gs,fM fn a.tmps ps assign body D jl⟩ 0)))[i]? =some (some (mO gs ti i k)):=by
  intro i k hi
  have hne:i≠k0:=fun e=>by grind
  refine⟨hne,?_⟩
  rw[dm,aC (fun e=>hne e.symm)]
  simp_all[zm]
 have hSl:¬E1.S l:=hW.kf k0 _ l hlp hgl
 have hW1:HW (gl.tj l) E1 w1 H:=by
  refine⟨?_,?_,?_,hW.slt,⟨hW.gl.1,trivial⟩,fun i k g hi=>hW.sZ i _ g (at1 i k hi).2⟩
  ·intro i k hi;exact(hW.cX i _ (at1 i k hi).2).Xs
  ·intro i i' k k' g hi hi' g1 g2;exact hW.eH i i' _ _ g (at1 i k hi).2 (at1 i' k' hi').2 g1 g2
  ·intro i k g hi g1;exact hW.dL i _ g (at1 i k hi).2 g1
 have hOl:¬bK H E1 l:=by
  rintro⟨i,k,hi,hgi⟩
  exact(at1 i k hi).1 (hW.eH i k0 _ _ l (at1 i k hi).2 hlp hgi (Or.inl hgl))
 have hgi:∀i,l4 i ti=true→i<16∧E1.g i=some (gs i):=by
  intro i hi
  obtain⟨h1,t,v,h2,_⟩:=vg ht hi
  have:=hW.cX i _ (at1 i _ h2).2
  simp only[mO,hi,bU] at this
  exact⟨h1,this.1⟩
 obtain⟨b1,b2⟩:=hBu E1.S w1 hW.gl.2
 have hrnp:RnP m E w E1 w1:=by
  refine⟨?_,⟨b2,b1⟩⟩
  intro b i hbi
  obtain⟨c1,c2,c3⟩:=hti b i hbi
  obtain⟨_,t,v,h2,h3⟩:=vg ht c1
  have:=hW1.cX i _ h2
  exact⟨by grind,by rw[this.1,c3 t h3]⟩
 obtain⟨hl,_⟩:=hv.get
 have hframe:cp (gl.tj l) ⟨sK (ps.toList.zip args) (Kk m σ.tm),H,[]⟩ E1 {tmps:=(ps.zip vs.toArray).foldl (fun t (p,v)=>t.setIfInBounds p v) a.tmps,defers:=[]} w1:=by
  have hzip:(ps.zip vs.toArray).foldl (fun t (p,v)=>t.setIfInBounds p v) a.tmps=(ps.toList.zip vs).foldl (fun t(p:Nat×Value)=>t.setIfInBounds p.1 p.2) a.tmps:=by
   rw[←Array.foldl_toList]
   congr 1
   simp
  have:=BU (ps:=ps.toList) (tm:=Kk m σ.tm) (tmps:=a.tmps) hv (by rw[F8];exact hg.len) (fun i x hx v hv'=>by
   rcases F9 hx with e|⟨y,h1,h2⟩
   ·subst e;trivial
   ·exact RV.n9 hrnp h2 (hg.tm i y h1 v hv'))
  rw[hzip]
  exact⟨this.1,this.2,hW1,trivial⟩
 refine⟨fn,_,assign,body,run_yield hrec (by simp[fM,←hl,hps]),roundIn_of_wpIn (F:=Fence.wide) trivial ?_⟩
 refine wpIn_mono (anj E1 _ w1 hframe) ?_
 rintro ex a2 w2 ⟨x,σ2,E2,q1,q2,q3,q4⟩
 cases ex with
 |
  normal=>
  cases x with
  |
   normal=>
   simp only[Exit.then]
   have hlt:l<w1.heap.size:=(Array.getElem?_eq_some_iff.1 hrec).1
   have hrec2:w2.heap[l]? =some (.loop (fM fn a.tmps ps assign body D jl 0)):=by rw[q4.kept l hlt hOl];grind
   have notO:∀{hp:List (Option aP)}{E':Env}{w':World},Ext gl.md (bK H E1) E1 w1 (bK hp E') E' w'→¬bK hp E' l∧¬E'.S l:=by
    intro hp E' w' hx
    constructor
    ·intro ho;rcases hx.own l ho with h|h<;>grind
    ·intro hs;rcases hx.mB l hs with h|h|h<;>grind
   obtain⟨n1,n2⟩:=notO q4
   refine⟨w2.putObj l (.loop {fM fn a.tmps ps assign body D jl 0 with state:=.busy}),run_beginRound hrec2 rfl,?_⟩
   have g2:=q3.frame (o:=.loop {fM fn a.tmps ps assign body D jl 0 with state:=.busy}) n2 n1
   refine wpIn_mono (q2 E2 a2 _ g2) ?_
   rintro ex a3 w3 ⟨x3,σ3,E3,r1,r2,r3,r4⟩
   have lt2:l<w2.heap.size:=(Array.getElem?_eq_some_iff.1 hrec2).1
   have hbusy:w3.heap[l]? =some (.loop {fM fn a.tmps ps assign body D jl 0 with state:=.busy}):=by
    rw[r4.kept l (by simpa using lt2) n1]
    exact World.putObj_heap_same lt2
   have fin:∀(jump:Option Code),jump=jmp jl j→(jump.isNone=Nat.beq j 0)→(∃σ' mm,Wk (gl.tj l) σ3 σ'∧prune σ'.hp mm=H')→
    ∃v w',(Instr.endRound l jump).run P w3= .ok v w'∧∃E',yZ E' w' (.ret (.val .bool (Nat.beq j 0))) (.returned v)∧HW (gl.wB B hB) E' w' ((tie gs ti 0 H').set k0 (some (.lp ⟨l,gs,fM fn a.tmps ps assign body D jl⟩ j)))∧
     Ext gl.md (bK ((tie gs ti 0 H).set k0 (some (.lp ⟨l,gs,fM fn a.tmps ps assign body D jl⟩ 0))) E1) E1 w1 (bK ((tie gs ti 0 H').set k0 (some (.lp ⟨l,gs,fM fn a.tmps ps assign body D jl⟩ j))) E') E' w':=by
    rintro jump hj hjn ⟨σ4,mm,hwk,hpr⟩
    obtain⟨E4,g4,x4⟩:=hwk E3 a3 w3 r3
    have hlt3:l<w3.heap.size:=(Array.getElem?_eq_some_iff.1 hbusy).1
    have hnew:({({fM fn a.tmps ps assign body D jl 0 with state:=.busy}:Loop) with state:=if jump.isNone then .ready else .done,pending:=jump}:Loop)=fM fn a.tmps ps assign body D jl j:=by
     grind [fM]
    have hend:=run_endRound (P:=P) jump hbusy
    rw[hnew,hjn] at hend
    have X:=((((q4.add l).trans (Ext.put (o:=.loop {fM fn a.tmps ps assign body D jl 0 with state:=.busy}) (Or.inr rfl))).trans (r4.add l)).trans (x4.add l)).trans (Ext.put (o:=.loop (fM fn a.tmps ps assign body D jl j)) (Or.inr rfl))
    have w4:HW (gl.tj l) E4 w3 H':=by rw[←hpr];exact g4.hw.prune mm
    have sub4:∀g,bK H' E4 g→bK σ4.hp E4 g:=by
     rintro g ⟨b,k,hb,hgb⟩
     rw[←hpr] at hb
     exact⟨b,k,jw hb,hgb⟩
    have n4:¬bK H' E4 l∧¬E4.S l:=by
     have hx:Ext gl.md (bK H E1) E1 w1 (bK σ2.hp E2) E2 w2:=q4
     obtain⟨m1,m2⟩:=notO hx
     have m3:¬bK σ3.hp E3 l∧¬E3.S l:=by
      constructor
      ·intro ho;rcases r4.own l ho with h|h
       ·grind
       ·simp at h;omega
      ·intro hs;rcases r4.mB l hs with h|h|h
       ·grind
       ·grind
       ·simp at h;omega
     constructor
     ·intro ho;rcases x4.own l (sub4 l ho) with h|h<;>grind
     ·intro hs;rcases x4.mB l hs with h|h|h<;>grind
    obtain⟨kp,wf⟩:=w4.frame (o:=.loop (fM fn a.tmps ps assign body D jl j)) n4.2 n4.1
    have gk0:E4.g k0=some l:=by rw[(X.Ht k0 hk16).1];exact hgl
    have at4:∀(i:Nat)(k:aP),((tie gs ti 0 H').set k0 (some (.lp ⟨l,gs,fM fn a.tmps ps assign body D jl⟩ j)))[i]? =some (some k)→(i=k0∧k= .lp ⟨l,gs,fM fn a.tmps ps assign body D jl⟩ j)∨(i≠k0∧∃k',H'[i]? =some (some k')∧k=mO gs ti i k'):=by
     intro i k hi
     rw[dm] at hi
     split at hi
     ·grind
     ·rename_i e
      obtain⟨k',h1,h2⟩:=iN hi
      grind
    have ne4:∀(i:Nat)(k:aP),H'[i]? =some (some k)→¬E4.has i l:=fun i k hi e=>n4.1 ⟨i,k,hi,e⟩
    obtain⟨E5,hE5⟩:∃E5:Env,E5={E4 with P:=fun b g=>b≠k0∧E4.P b g}:=⟨_,rfl⟩
    have e5g:∀b,E5.g b=E4.g b:=fun b=>by rw[hE5]
    have e5S:E5.S=E4.S:=by rw[hE5]
    have e5h:∀b g,E5.has b g→E4.has b g:=fun b g h=>h.imp (fun x=>by grind) (fun x=>by rw[hE5] at x;exact x.2)
    have e5k:∀g,E5.has k0 g→g=l:=fun g h=>by
     rcases h with h|h
     ·grind
     ·rw[hE5] at h;grind
    have kp5:∀w:World,bS E4 w E5 w:=fun w=>⟨fun _ _=>rfl,fun g hg=>by grind⟩
    refine⟨_,_,hend,E5,RV.bool,⟨?_,?_,?_,fun g hg=>wf.slt g (by grind),⟨fun x hx=>?_,?_⟩,?_⟩,?_⟩
    ·intro i k hi
     rcases at4 i k hi with⟨e1,e2⟩|⟨hne,k',h1,h2⟩
     ·subst e1;subst e2
      exact⟨by grind,World.putObj_heap_same hlt3⟩
     ·subst h2
      exact RB.mono (kp5 _) (fun b _=>by rw[hE5];grind) (fun _ _=>rfl) (fun _ g hg=>by rw[hE5];grind) ((wf.cX i k' h1).tie (fun hh=>by obtain⟨c1,c2⟩:=hgi i hh;rw[(X.Ht i c1).1];exact c2))
    ·intro i i' k k' g hi hi' j1 j2
     rcases at4 i k hi with⟨e1,e2⟩|⟨hne,k2,h1,h2⟩
     ·grind
     ·rcases at4 i' k' hi' with⟨e1',e2'⟩|⟨hne',k2',h1',h2'⟩
      ·grind
      ·exact wf.eH i i' k2 k2' g h1 h1' (e5h _ _ j1) (e5h _ _ j2)
    ·intro i k g hi g1
     rw[e5S]
     rcases at4 i k hi with⟨e1,e2⟩|⟨hne,k2,h1,h2⟩
     ·grind
     ·exact wf.dL i k2 g h1 (e5h _ _ g1)
    ·obtain⟨y1,y2⟩:=wf.gl.1 x hx
     grind
    ·refine hB ?_ (fun b hb=>by rw[e5S];exact X.sle b hb) hW.gl.2
     intro b hb
     refine X.kept b (hW.slt b hb) ?_
     rintro(⟨i,k,hi,hgi'⟩|e)
     ·exact hW.dL i _ b (at1 i k hi).2 hgi' hb
     grind
    ·intro i k g hi g1
     rcases at4 i k hi with⟨e1,e2⟩|⟨hne,k2,h1,h2⟩
     ·subst e1;grind
     ·exact wf.sZ i k2 g h1 (by rw[hE5] at g1;grind)
    ·refine⟨X.os,X.tape,X.output,X.size,?_,fun g hg=>by rw[e5S];exact X.sle g hg,?_,?_,fun b hb=>by rw[hE5];exact X.Ht b hb⟩
     ·intro g hgl' ho
      refine X.kept g hgl' ?_
      rintro(⟨i,k,hi,hgi'⟩|e)
      ·exact ho ⟨i,_,(at1 i k hi).2,hgi'⟩
      ·subst e;exact ho ⟨k0,_,hlp,Or.inl hgl⟩
     ·intro g hs
      rw[e5S] at hs
      rcases X.mB g hs with h|h|h
      ·grind
      ·rcases h with⟨i,k,hi,hgi'⟩|e
       ·exact Or.inr (Or.inl ⟨i,_,(at1 i k hi).2,hgi'⟩)
       grind
      grind
     ·rintro g ⟨i,k,hi,hgi'⟩
      have:bK σ4.hp E4 g∨g=l:=by
       rcases at4 i k hi with⟨e1,e2⟩|⟨hne,k2,h1,h2⟩
       ·grind
       ·exact Or.inl (sub4 g ⟨i,k2,h1,e5h _ _ hgi'⟩)
      rcases X.own g this with h|h
      ·rcases h with⟨i,k,hi,hgi'⟩|e
       ·exact Or.inl ⟨i,_,(at1 i k hi).2,hgi'⟩
       ·subst e;exact Or.inl ⟨k0,_,hlp,Or.inl hgl⟩
      grind
   cases ex with
   |
    normal=>
    cases x3 with
    |normal=>obtain⟨e,hh⟩:=r2;subst e;exact fin none rfl rfl hh
    |_=>trivial
   |
    ret=>
    cases x3 with
    |
     ret=>
     obtain⟨⟨e,e2⟩,hh⟩:=r2
     exact fin (some .ret) e2.symm (by cases j with|zero=>grind|succ j=>rfl) hh
    |_=>trivial
   |
    exit i=>
    cases x3 with
    |
     exit i'=>
     have e0:i'=i:=r1
     subst e0
     obtain⟨⟨e,e2⟩,hh⟩:=r2
     exact fin (some (.exit i')) e2.symm (by cases j with|zero=>grind|succ j=>rfl) hh
    |_=>trivial
   |panic chain=>cases x3<;>first|trivial|trivial
   |goto t=>cases x3<;>exact r1.elim
   |outgrown=>cases x3<;>exact r1.elim
  |_=>trivial
 |ret=>cases x<;>first|trivial|trivial
 |exit i=>cases x<;>first|trivial|trivial
 |panic chain=>cases x<;>first|trivial|trivial
 |goto t=>cases x<;>exact q1.elim
 |outgrown=>cases x<;>exact q1.elim
end Go.Ax
namespace Go.Ax
def DN(P:Program)(gl:Ctx)(tm:List AV)(ps:Array Tmp)(assign body:Code)(k0:Nat)(ti:List (Nat×Ty))(m:List (Nat×Nat))(jl:List Code)(C:Ctx)(y:YC):Prop:=
 ∀(args:List AV)(H H':List (Option aP))(j:Nat),ps.size=args.length→H[k0]? =some none→H'[k0]? =some none→qg H ti=true→qg H' ti=true→
  cZ P (gl.tj y.l) assign ⟨sK (ps.toList.zip args) (Kk m tm),H,[]⟩ (Xt P (gl.tj y.l) body (Xu (gl.tj y.l) jl j H'))→
  Fy P C y.l args ((tie y.gs ti 0 H).set k0 (some (.lp y 0))) (.ret (.val .bool (Nat.beq j 0))) ((tie y.gs ti 0 H').set k0 (some (.lp y j)))
def gsC(gs:Nat→Nat)(m:List (Nat×Nat))(b:Nat):Nat:=match mh m b with|some i=>gs i|none=>0
def Xv:List (Nat×Nat)→List (Nat×Ty)
 |[]=>[]
 |(b,_)::l=>(b,.unit)::Xv l
theorem BV{b:Nat}:∀{m:List (Nat×Nat)},l4 b (Xv m)=true→∃i,mh m b=some i
 |[],h=>by cases h
 |
  (c,i)::l,h=>by
  simp only[Xv,l4,fQ] at h
  unfold mh
  split
  ·grind
  ·rename_i hn
   rcases h with h|h
   ·exact absurd (by rw[bT h];exact Nat.beq_refl c) hn
   ·exact BV h
def Xw(hp:List (Option aP))(ti:List (Nat×Ty)):List (Nat×Nat)→Bool
 |[]=>true
 |(b,i)::l=>(match hp[b]? with|some (some (.var t _))=>l4 i ti&&(ti.all fun x=> !Nat.beq x.1 i||Ty.same x.2 t)|_=>false)&&Xw hp ti l
theorem Kl{hp:List (Option aP)}{ti:List (Nat×Ty)}:∀{m:List (Nat×Nat)},Xw hp ti m=true→∀b i,(b,i)∈m→l4 i ti=true∧∃t v,hp[b]? =some (some (.var t v))∧∀t',(i,t')∈ti→t'=t
 |[],_,b,i,h=>by cases h
 |
  (c,k)::l,hm,b,i,h=>by
  simp only[Xw,bB] at hm
  rcases List.mem_cons.1 h with e|h
  ·cases e
   have h1:=hm.1
   split at h1
   ·rename_i t v hv
    simp only[bB,lP] at h1
    refine⟨h1.1,t,v,hv,fun t' ht'=>?_⟩
    have:=h1.2 _ ht'
    simp at this
    exact Ty.aB this
   grind
  ·exact Kl hm.2 b i h
def Km:List (Option aP)→List (Option aP)
 |[]=>[]
 |some (.tv _ t v)::l=>some (.var t v)::Km l
 |x::l=>x::Km l
theorem jY:∀{l:List (Option aP)}{i:Nat}{k:aP},(Km l)[i]? =some (some k)→∃k',l[i]? =some (some k')∧(k'=k∨∃g t v,k'= .tv g t v∧k= .var t v)
 |[],i,k,h=>by trivial
 |
  x::l,0,k,h=>by
  unfold Km at h
  grind
 |
  x::l,i+1,k,h=>by
  unfold Km at h
  split at h
  ·cases(by assumption:_=_)
  ·rename_i heq;cases heq;simpa using jY (by simpa using h)
  ·rename_i heq;cases heq;simpa using jY (by simpa using h)
theorem cp.Km{gl:Ctx}{σ:St}{E:Env}{a:Act}{w:World}(h:cp gl σ E a w):cp gl {σ with hp:=Ax.Km σ.hp} E a w∧Ext gl.md (bK σ.hp E) E w (bK (Ax.Km σ.hp) E) E w:=by
 refine⟨⟨h.len,h.tm,⟨?_,?_,?_,h.hw.slt,h.hw.gl,?_⟩,h.df⟩,{Ext.refl (bK σ.hp E) E w with own:=?_ }⟩
 ·intro b k hb
  obtain⟨k',h1,h2⟩:=jY hb
  have:=h.hw.cX b k' h1
  rcases h2 with e|⟨g,t,v,e1,e2⟩
  ·grind
  ·subst e1;subst e2
   obtain⟨q0,q1,q2,c,e,q4,q5⟩:=this
   exact⟨q1,q2,g,c,e,q0,q4,q5⟩
 ·intro b b' k k' g hb hb' g1 g2
  obtain⟨k1,h1,_⟩:=jY hb
  obtain⟨k2,h2,_⟩:=jY hb'
  exact h.hw.eH b b' k1 k2 g h1 h2 g1 g2
 ·intro b k g hb g1
  obtain⟨k1,h1,_⟩:=jY hb
  exact h.hw.dL b k1 g h1 g1
 ·intro b k g hb g1
  obtain⟨k1,h1,_⟩:=jY hb
  exact h.hw.sZ b k1 g h1 g1
 ·rintro g ⟨b,k,hb,g1⟩
  obtain⟨k1,h1,_⟩:=jY hb
  exact Or.inl ⟨b,k1,h1,g1⟩
theorem cp.tie{gl:Ctx}{σ:St}{E:Env}{a:Act}{w:World}(h:cp gl σ E a w){gs:Nat→Nat}{ti:List (Nat×Ty)}(hg:∀b,l4 b ti=true→E.g b=some (gs b)):cp gl {σ with hp:=Ax.tie gs ti 0 σ.hp} E a w∧Ext gl.md (bK σ.hp E) E w (bK (Ax.tie gs ti 0 σ.hp) E) E w:=by
 refine⟨⟨h.len,h.tm,⟨?_,?_,?_,h.hw.slt,h.hw.gl,?_⟩,h.df⟩,{Ext.refl (bK σ.hp E) E w with own:=?_ }⟩
 ·intro b k hb
  obtain⟨k',h1,h2⟩:=iN hb
  rw[dV] at h2
  subst h2
  exact(h.hw.cX b k' h1).tie (hg b)
 ·intro b b' k k' g hb hb' g1 g2
  obtain⟨k1,h1,_⟩:=iN hb
  obtain⟨k2,h2,_⟩:=iN hb'
  exact h.hw.eH b b' k1 k2 g h1 h2 g1 g2
 ·intro b k g hb g1
  obtain⟨k1,h1,_⟩:=iN hb
  exact h.hw.dL b k1 g h1 g1
 ·intro b k g hb g1
  obtain⟨k1,h1,_⟩:=iN hb
  exact h.hw.sZ b k1 g h1 g1
 ·rintro g ⟨b,k,hb,g1⟩
  obtain⟨k1,h1,_⟩:=iN hb
  exact Or.inl ⟨b,k1,h1,g1⟩
theorem DO{σ:St}{d e:Nat}{k:aP}(hk:k.ids= [])(h:σ.fresh d)(hne:d≠e):({σ with hp:=σ.hp.set e (some k)}:St).fresh d:=by
 have h1:=k8.1 h.1
 refine⟨k8.2 ⟨h1.1,h1.2.1,?_⟩,?_,h.2.2⟩
 ·grind
 ·intro k' hi
  rw[dm,aC (fun x=>hne x.symm)] at hi
  exact h.2.1 k' hi
def rF(y:YC)(m:List (Nat×Nat))(dI lI:Nat)(hp:List (Option aP)):List (Option aP):=tie (gsC y.gs m) (Xv m) 0 ((hp.set dI (some .sY)).set lI (some (.lp y 0)))
structure adv(σ:St)(y:YC)(m:List (Nat×Nat))(dI lI j:Nat)(cs:AV)(cr:CR)(L:List AV)(ins:List (Nat×Option aP))(hpF:List (Option aP)):Prop where
 hr:cr.r= .gm .nil
 hL:lY (l9 cr.al) (eG (rF y m dI lI σ.hp)) (((.func (.yield y.l) .nil .nil,Ty.unit))::cs.toList.map (fun x=>(x,Ty.unit)))=some (L,[])
 jT:i6 (l9 cr.al) (eG (rF y m dI lI σ.hp)) cr.ps=some ins
 gx:zS cr []=true
 hns:((cr.ns.map (·.2)).all (fun b=>({σ with hp:=rF y m dI lI σ.hp,df:=.mp dI::σ.df}:St).fG b))=true
 hF1:(aR (rF y m dI lI σ.hp) (ma (cr.al++cr.ns) cr.out (cr.ps++cr.ns)))[lI]? =some (some (.lp y j))
 hF2:Km ((aR (rF y m dI lI σ.hp) (ma (cr.al++cr.ns) cr.out (cr.ps++cr.ns))).set lI none)=hpF
theorem cZ.rangeFunc{P:Program}{gl:Ctx}{σ:St}{Q:fV→St→Prop}{g:Operand}{ps:Array Tmp}{assign body:Code}(hro:gl.ro=none){gf:FuncId}{cs:AV}(hg:bP gl σ.tm g= .func (.func gf) .nil cs)
 (dI lI k0:Nat) (hd:σ.fG dI=true) (hl:σ.fG lI=true) (hne:Nat.beq dI lI=false) (hk:Nat.blt k0 16=true)
 (ti:List (Nat×Ty)) (m:List (Nat×Nat)) (hkt:l4 k0 ti=false) (hm:Xw σ.hp ti m=true) (hmn:kj (m.map (·.2))=true) (jl:List Code) (hcs:cs.atoms=true)
 (hy:∀y:YC,∃j cr L ins hpF,adv σ y m dI lI j cs cr L ins hpF∧
  (∀B hB,DN P gl σ.tm ps assign body k0 ti m jl (gl.wB B hB) y→Fc P (gl.wB B hB) gf L (aR (List.replicate cr.m none) ins) (.ret (.gm .nil)) (dC cr.m cr.out))∧
  (match jmp jl j with|none=>Q .normal ⟨σ.tm,hpF,.mp dI::σ.df⟩|some c=>cZ P gl c ⟨σ.tm,hpF,.mp dI::σ.df⟩ Q)):cZ P gl (.rangeFunc g ps assign body) σ Q:=by
 intro E a w hG
 refine wpIn_rangeFunc ?_
 intro fn _
 have hfd:=St.ee hd
 have hfl:=St.ee hl
 have hnd:lI≠dI:=fun e=>by simp_all
 obtain⟨rec,hrec⟩:∃rec:Nat→Loop,rec=fM fn a.tmps ps assign body w.heap.size jl:=⟨_,rfl⟩
 have hrec0:rec 0={state:=.ready,pending:=none,fn:=fn,tmps:=a.tmps,params:=ps,assign:=assign,body:=body,defers:=w.heap.size}:=by rw[hrec];rfl
 obtain⟨gs,hgs⟩:∃gs:Nat→Nat,gs=fun i=>match mh (l9 m) i with|some b=>(E.g b).getD 0|none=>0:=⟨_,rfl⟩
 obtain⟨j,cr,L,ins,hpF,⟨hr,hL,jT,gx,hns,hF1,hF2⟩,hit,hq⟩:=hy ⟨w.heap.size+1,gs,rec⟩
 obtain⟨g1,x1⟩:=hG.fresh (w':=w.alloc (.deferred (some []))) hfd (g:=some w.heap.size) (sv:=undef) (t:=.unit) (k:=.sY) rfl (Tp.r rfl rfl) rfl (by simp) (fun i hi=>heap_alloc_old w _ hi) (fun i hi=>by grind)
  ⟨w.heap.size,by simp[Env.at],heap_alloc_new w _⟩
 have hs1:(w.alloc (.deferred (some []))).heap.size=w.heap.size+1:=by simp
 obtain⟨g2,x2⟩:=g1.fresh (w':=(w.alloc (.deferred (some []))).alloc (.loop (rec 0))) (d:=lI) (DO rfl hfl hnd) (g:=some (w.heap.size+1)) (sv:=undef) (t:=.unit) (k:=.lp ⟨w.heap.size+1,gs,rec⟩ 0) rfl (Tp.r rfl rfl) rfl (by simp) (fun i hi=>heap_alloc_old _ _ hi) (fun i hi=>by grind)
  ⟨by simp[Env.at],by have:=heap_alloc_new (w.alloc (.deferred (some []))) (.loop (rec 0));grind⟩
 generalize hw2:(w.alloc (.deferred (some []))).alloc (.loop (rec 0))=w2 at g2 x2
 generalize hE2:(E.at dI (some w.heap.size) undef .unit).at lI (some (w.heap.size+1)) undef .unit=E2 at g2 x2
 have hE2g:∀b,b≠dI→b≠lI→E2.g b=E.g b:=fun b h1 h2=>by rw[←hE2];simp[Env.at,h1,h2]
 have hE2d:E2.g dI=some w.heap.size:=by rw[←hE2];simp[Env.at,Ne.symm hnd]
 have hE2S:E2.S=E.S:=by rw[←hE2];rfl
 have x12:=x1.trans x2
 have hmu:∀b i,mh m b=some i→l4 i ti=true∧E.g b=some (gs i)∧(∀t,(i,t)∈ti→E.bt b=t)∧b≠dI∧b≠lI:=by
  intro b i hbi
  have hmem:=qA hbi
  obtain⟨h1,t,v,h2,h3⟩:=Kl hm b i hmem
  obtain⟨r1,r2,gg,c,e,r3,_⟩:=hG.hw.cX b _ h2
  have hlk:mh (l9 m) i=some b:=eR (by grind [f8,l9,Function.comp_def]) (j4.2 hmem)
  refine⟨h1,by grind,fun t' ht'=>by grind,fun e=>?_,fun e=>?_⟩
  ·subst e;exact hfd.2.1 _ h2
  ·subst e;exact hfl.2.1 _ h2
 obtain⟨g3,x3⟩:=g2.tie (gs:=gsC gs m) (ti:=Xv m) (by
  grind [BV,gsC])
 have g4:cp gl ⟨σ.tm,rF ⟨w.heap.size+1,gs,rec⟩ m dI lI σ.hp,.mp dI::σ.df⟩ E2 {a with defers:={target:=.collected w.heap.size,args:= #[]}::a.defers} w2:=
  ⟨g3.len,g3.tm,g3.hw,⟨⟨w.heap.size,hE2d,rfl⟩,g3.df⟩⟩
 have hv0:=gv g4 g
 simp only at hv0
 rw[hg] at hv0
 obtain⟨f',c',hev,r1,r2,_,_⟩:=RV.atom rfl hv0
 simp at hev
 have hf':f'= #[]:=by apply lQ;exact r1
 subst hf'
 have hav:a.eval g= .func (.func gf) #[] c':=by trivial
 obtain⟨B,hBd⟩:∃B:(Nat→Prop)→World→Prop,B=fun S' w'=>(∀b,E.S b→S' b)∧(∀b,E.S b→w'.heap[b]? =w.heap[b]?):=⟨_,rfl⟩
 have hB:∀{S S':Nat→Prop}{w w':World},(∀b,S b→w'.heap[b]? =w.heap[b]?)→(∀b,S b→S' b)→B S w→B S' w':=by
  simp_all
 have hof:DN P gl σ.tm ps assign body k0 ti m jl (gl.wB B hB) ⟨w.heap.size+1,gs,rec⟩:=by
  intro args H H' j' h1 h2 h3 h4 h5 h6
  rw[hrec]
  exact Fy.Oc hG (fun S' w' h=>by grind) (fun b i hbi=>⟨(hmu b i hbi).1,(hmu b i hbi).2.1,(hmu b i hbi).2.2.1⟩) h1 hk hkt h2 h3 h4 h5 h6
 obtain⟨anp,hfn⟩:=hit B hB hof
 have hbb:=cq (rF ⟨w.heap.size+1,gs,rec⟩ m dI lI σ.hp)
 obtain⟨hφ,hwi⟩:=tZ (lent:=[]) g4 hbb (fun b hb=>by cases hb) (jT) (gx)
 have hargs:mc E2 w2 ((((.func (.yield (w.heap.size+1)) .nil .nil,Ty.unit))::cs.toList.map (fun x=>(x,Ty.unit))).map (·.1)) (Value.func (.yield (w.heap.size+1)) #[] #[]::c'.toList):=by
  refine⟨RV.eI (Or.inr ⟨rfl, #[], #[],rfl,rfl,rfl,rfl,rfl⟩),?_⟩
  have:=mc.atoms hcs r2
  have e1:∀l:List AV,(l.map (fun x=>(x,Ty.unit))).map (fun x:AV×Ty=>x.1)=l:=by intro l;induction l<;>simp_all
  grind
 have hv:=nf g4.hw hbb hφ (hL) (fun g hg=>hg) hargs
 have hSe:(E2.de []).S=fun g=>E.S g∨∃b∈([]:List Nat),E2.g b=some g:=by simp only[Env.de,hE2S]
 have hwB:HW (gl.wB B hB) (E2.to cr.al (E2.de []).S) w2 (aR (List.replicate cr.m none) (ins)):=by
  refine hwi.ctx rfl ?_
  show B _ w2
  rw[hBd]
  refine⟨fun b hb=>by show(E2.de []).S b;grind,fun b hb=>?_⟩
  exact x12.kept b (hG.hw.slt b hb) (fun⟨c,k,hc,hgc⟩=>hG.hw.dL c k b hc hgc hb)
 have hcalls:=hfn _ w2 _ hv hwB
 refine⟨w.heap.size+1,[{target:=.collected w.heap.size,args:= #[]}],w2,{target:=.fn (.func gf) c',args:= #[.func (.yield (w.heap.size+1)) #[] #[]]},w2,gf, #[.func (.yield (w.heap.size+1)) #[] #[]]++c',w2,?_,?_,fun _ _=>trivial,?_,fun h=>(by cases h),?_⟩
 ·simp_all[run_enterLoop_outer]
 ·simp only[resolve,hav]
  simp[go_sem]
 ·simp[invoke,anp]
 ·have e0:(Value.func (.yield (w.heap.size+1)) #[] #[]::c'.toList).toArray= #[.func (.yield (w.heap.size+1)) #[] #[]]++c':=by simp_all
  rw[e0] at hcalls
  have h1:CallsIn Fence.wide 0 P gf _ w2 _:=callsIn_wide.2 hcalls
  refine CallsIn.mono (F:=Wd gl) h1 ?_
  rintro ed w3 ⟨E',hR,hW',hX⟩
  cases ed with
  |panicked ch=>trivial
  |outgrown=>trivial
  |
   returned v=>
   have hWg:HW gl E' w3 (dC cr.m cr.out):=by
    refine hW'.ctx rfl ?_
    have hbs:B E'.S w3:=hW'.gl.2
    rw[hBd] at hbs
    exact gl.mono hbs.2 hbs.1 hG.hw.gl.2
   have hfr:∀b∈cr.ns.map (·.2),(⟨σ.tm,rF ⟨w.heap.size+1,gs,rec⟩ m dI lI σ.hp,.mp dI::σ.df⟩:St).fresh b:=by
    grind [St.ee]
   have hrr:=hr
   obtain⟨E3,k1,_,k3⟩:=kM (lent:=[]) g4 hbb (fun b hb=>by cases hb) (jT) (gx) hfr hWg hX (r':=.gm .nil) (by rw[hrr];rfl) (v:=v) (by rw[hrr];exact hR)
   have f1:=hF1;have f2:=hF2
   obtain⟨q1,q2⟩:=k1.hw.cX lI _ f1
   obtain⟨k4,x4⟩:=k1.shut f1 q1 (.loop {rec j with state:=.exhausted})
   obtain⟨k5,x5⟩:=k4.Km
   simp only[f2] at k5 x5
   have hst:(rec j).state≠.busy:=by rw[hrec];simp only[fM];grind
   refine⟨(rec j).pending,_,run_endLoop q2 hst,?_⟩
   have hpe:(rec j).pending=jmp jl j:=by rw[hrec];rfl
   have X:=(((x12.trans x3).trans k3).trans x4).trans x5
   generalize hwF:w3.putObj (w.heap.size+1) (.loop {rec j with state:=.exhausted})=wF at k5 X
   generalize (rec j).pending=pe at hpe
   subst hpe
   revert hq
   cases jmp jl j with
   |
    none=>
    intro hq
    exact⟨.normal,_,E3,trivial,hq,k5,X⟩
   |
    some c=>
    intro hq
    refine wpIn_mono (hq E3 _ _ k5) ?_
    rintro ex a5 w5 ⟨x,σ5,E5,z1,z2,z3,z4⟩
    exact⟨x,σ5,E5,z1,z2,z3,X.trans z4⟩
end Go.Ax
namespace Go.Ax
theorem Fc.up{P:Program}{C C':Ctx}{f:FuncId}{A:List AV}{H H':List (Option aP)}{r:xa}(hg:C'.gl=C.gl)(hC:∀S w,C.B S w)(h:Fc P C f A H r H')(hm:C'.md=C.md:=by rfl):Fc P C' f A H r H':=by
 refine⟨h.1,fun E w vs hv hw=>?_⟩
 have:=h.2 E w vs hv (hw.ctx hg.symm (hC _ _))
 intro cs
 obtain⟨e,w',fr,⟨E',r1,r2,r3⟩,rest⟩:=this cs
 rw[←hm] at r3
 exact⟨e,w',fr,⟨E',r1,r2.ctx hg (hw.gZ (hw.kept r3)).2,r3⟩,rest⟩
end Go.Ax
noncomputable section
namespace Go.Ax
def y0:YC:=⟨0,fun n=>n,fun _=>default⟩
inductive CF(D T:Type) where
 |bH (f:D→Option T)
 |kq (s:Sh) (f:D→Option (Sum (prod (s.H [])) T))
def fj{A B R:Type}(x:Option (Sum A B))(kp:A→Option R)(k:B→Option R):Option R:=
 Option.bind x fun r=>match r with
  | .inl a=>kp a
  | .inr b=>k b
theorem HC{A B R:Type}{x:Option (Sum A B)}{kp:A→Option R}{k:B→Option R}{r:R}(h:fj x kp k=some r):(∃a,x=some (.inl a)∧kp a=some r)∨∃b,x=some (.inr b)∧k b=some r:=by
 unfold fj at h
 cases x<;>grind
def CF.run{D T R:Type}:CF D T→D→(T→Option R)→(AV→Option R)→Option R
 | .bH f,d,K,_=>Option.bind (f d) fun r=>K r
 | .kq s f,d,K,KP=>fj (f d) (fun p=>KP (s.V y0 p)) fun r=>K r
def CF.Xx{D T:Type}:CF D T→D→T→Prop
 | .bH f,d,r=>f d=some r
 | .kq _ f,d,r=>f d=some (.inr r)
def CF.Xy{D T:Type}:CF D T→D→AV→Prop
 | .bH _,_,_=>False
 | .kq s f,d,x=>∃p,f d=some (.inl p)∧x=s.V y0 p
theorem CF.BW{D T R:Type}{c:CF D T}{d:D}{K:T→Option R}{KP:AV→Option R}{r:R}(h:c.run d K KP=some r):(∃y,c.Xx d y∧K y=some r)∨∃x,c.Xy d x∧KP x=some r:=by
 cases c with
 |bH f=>obtain⟨y,h1,h2⟩:=bind_some h;exact Or.inl ⟨y,h1,h2⟩
 |
  kq s f=>
  rcases HC h with⟨p,h1,h2⟩|⟨y,h1,h2⟩
  ·exact Or.inr ⟨_,⟨p,h1,rfl⟩,h2⟩
  ·exact Or.inl ⟨y,h1,h2⟩
structure aX where
 fn:Fn
 A:List Sh
 B:List (Nat×dj)
 m:Nat
 F:SS
 res:F.T→AV
 out:F.T→List (Nat×aP)
 f:CF (prod (sG A (iq B []))) F.T
abbrev aX.D(C:aX):Type:=prod (sG C.A (iq C.B []))
def aX.args(C:aX)(d:C.D):List AV:=zh y0 C.A d
def aX.ins(C:aX)(d:C.D):List (Nat×Option aP):=dq (oA y0 C.B (zi C.A d))
structure aX.holds(P:Program)(gl:Ctx)(C:aX):Prop where
 ret:∀d r,C.f.Xx d r→JV P gl C.fn (C.args d) (aR (List.replicate C.m none) (C.ins d)) (.ret (C.res r)) (dC C.m (C.out r))
 kq:∀d x,C.f.Xy d x→JV P gl C.fn (C.args d) (aR (List.replicate C.m none) (C.ins d)) (.kq x) (dC C.m [])
def Od:(m:List (Nat×dj))→{l:List Type}→List (Nat×Option aP)→prod l→Option (prod (iq m l))
 |[],_,[],d=>some d
 |
  (i,s)::m,_,(j,some k)::hp,d=>if Nat.beq i j then(match Od m hp d with
  |some e=>s.G k e
  |none=>none) else none
 |_,_,_,_=>none
theorem zn(y:YC):∀{m:List (Nat×dj)}{l:List Type}{hp:List (Nat×Option aP)}{d:prod l}{e:prod (iq m l)},Od m hp d=some e→dq (oA y m e)=hp∧Wo m e=d
 |
  [],l,hp,d,e,h=>by
  cases hp with
  |nil=>cases h;trivial
  |cons _ _=>trivial
 |
  (i,s)::m,l,hp,d,e,h=>by
  match hp,h with
  |[],h=>trivial
  |(j,none)::hp,h=>trivial
  |
   (j,some k)::hp,h=>
   obtain⟨hs,h0⟩:=bW h
   have:=bT hs;subst this
   split at h0
   ·rename_i e' he
    obtain⟨h1,h2⟩:=zn y he
    obtain⟨g1,g2⟩:=dj.xc y h0
    exact⟨by simp only[oA,dq];rw[g1,g2,h1],by simp only[Wo];rw[g2,h2]⟩
   grind
def aX.get(C:aX)(L:List AV)(I:List (Nat×Option aP)):Option C.D:=
 match Od C.B (l:=[]) I () with
 |some d=>TF C.A L d
 |none=>none
theorem aX.gY{C:aX}{L:List AV}{I:List (Nat×Option aP)}{d:C.D}(h:C.get L I=some d):C.args d=L∧C.ins d=I:=by
 unfold aX.get at h
 split at h
 ·rename_i d1 h1
  obtain⟨a1,a2⟩:=zn y0 h1
  obtain⟨b1,b2⟩:=zj y0 h
  exact⟨b1,by unfold aX.ins;grind⟩
 grind
structure CH where
 Wp:List Nat
 ps:List (Nat×Nat)
 ns:List (Nat×Nat)
 ks:List (Nat×Nat):=[]
 us:List Nat:=[]
def CH.al(ch:CH):List (Nat×Nat):=match ch.ks with
 |[]=>ch.ps
 |k::ks=>ch.ps++k::ks
inductive KS where
 |t (s:Nat)
 |c (s:Nat) (p:Path)
 |two (a b:KS)
def KS.get(σ:St):KS→Option AV
 | .t s=>σ.tm[s]?
 |
  .two a b=>match KS.get σ a,KS.get σ b with
  |some (.val ty x),some (.val tz y)=>some (.val (.pair ty (.pair tz .unit)) (x,y,()))
  |_,_=>none
 |
  .c s p=>match σ.tm[s]? with
  |
   some (.ptr b q)=>match eG σ.hp b with
   |some (.var _ v)=>v.get (q++p)
   |_=>none
  |_=>none
inductive PF where
 |row (b d:Nat) (k:KS)
 |map (mode b d:Nat) (k:KS)
 |eK (b:Nat)
 |Xz (b:Nat) (k:KS)
 |Wq (b:Nat)
structure RH where
 pre:List Gh
 zs:List (Nat×Nat×Ty)
 cs:List CH
 mg:Option (List (Nat×Ty)):=none
 foc:List (Nat×Nat):=[]
 pf:List PF:=[]
 post:List Gh:=[]
structure LH where
 S:SS
 fuel:S.T→Nat
structure Oe where
 ic:Nat
 dI:Nat
 lI:Nat
 ti:List (Nat×Ty)
 m:List (Nat×Nat)
 jl:List Code
 ps:List (Nat×Nat)
 ns:List (Nat×Nat)
 S:SS
 E:SS
structure Hs where
 reg:List (Nat×RH)
 join:List (Nat×SS)
 cX:List (Nat×SS)
 loop:List (Nat×LH)
 unr:List (Nat×Nat)
 C0:List (Nat×Oe):=[]
def ifs{R:Type}:List VC→Option R→Option R
 |[],x=>x
 |v::l,x=>@ite _ v.p v.d (ifs l x) none
theorem fk{R:Type}{r:R}:∀{l:List VC}{x:Option R},ifs l x=some r→dQ l∧x=some r
 |[],x,h=>⟨trivial,h⟩
 |
  v::l,x,h=>by
  unfold ifs at h
  by_cases hp:v.p
  ·rw[@if_pos _ v.d hp] at h
   obtain⟨h1,h2⟩:=fk h
   trivial
  grind
def qh(G:cd)(al ps:List (Nat×Nat))(ev:Operand→AV)(hb:Nat→Option aP)(c:Call):Option (Fn×List AV×List (Nat×Option aP)):=
 match c.callee with
 |
  .value cf=>match Ls (ev cf) with
  |
   some (fn,fl,cl)=>
   match lY (l9 al) hb (fl.map (fun x=>(x,Ty.unit))++(c.args.toList.zip c.argTypes.toList).map (sQ G ev)++cl.map (fun x=>(x,Ty.unit))),i6 (l9 al) hb ps with
   |some (L,_),some ins=>some (fn,L,ins)
   |_,_=>none
  |_=>none
 |
  .invoke rv name=>match GB G hb name (ev rv) with
  |
   some (f,x,xt)=>
   match lY (l9 al) hb ((x,xt)::(c.args.toList.zip c.argTypes.toList).map (sQ G ev)),i6 (l9 al) hb ps with
   |some (L,_),some ins=>some (.func f,L,ins)
   |_,_=>none
  |_=>none
 |_=>none
def HD(P:Program)(gl:Ctx)(cr:CR)(x:Option (Fn×List AV×List (Nat×Option aP))):Prop:=
 ∀fn L ins,x=some (fn,L,ins)→JV P gl fn L (aR (List.replicate cr.m none) ins) cr.fin (dC cr.m cr.out)
theorem vj{P:Program}{G:cd}{gl:Ctx}{cr:CR}{ev:Operand→AV}{hb:Nat→Option aP}{c:Call}{e:fK}{ob:List Prop}(h:pd P G gl cr ev hb c=some (e,ob))(hob:HD P gl cr (qh G cr.al cr.ps ev hb c)):∀p∈ob,p:=by
 unfold pd at h
 split at h
 ·rename_i cf hcf
  split at h
  ·rename_i fn fl cl hfv
   split at h
   ·rename_i L lent ins r' hL jT hr'
    split at h
    ·cases h
     intro p hp
     simp only[lN] at hp
     subst hp
     refine hob fn L ins ?_
     grind [qh]
    grind
   grind
  grind
 ·rename_i rv name hcf
  split at h
  ·rename_i f x xt hfv
   split at h
   ·rename_i L lent ins r' hL jT hr'
    split at h
    ·cases h
     intro p hp
     simp only[lN] at hp
     subst hp
     refine hob (.func f) L ins ?_
     grind [qh]
    grind
   grind
  grind
 grind
def vn(G:cd)(gl:Ctx)(ops:Array Oper)(al ps:List (Nat×Nat))(z:List (Nat×Ty))(σ:St)(i:Nat):Option (Fn×List AV×List (Nat×Option aP)):=
 match ops[i]? with
 |none=>none
 |
  some o=>match o.op with
  |
   .call c=>match z with
   |[]=>qh G al ps (bP gl σ.tm) (gy (sD o.op (bP gl σ.tm)++ps.map (·.2)) σ.hp) c
   |z=>qh G al ps (HS (gy (l7 (bP gl σ.tm) z) σ.hp) z (bP gl σ.tm)) (gy (sD o.op (HS (gy (l7 (bP gl σ.tm) z) σ.hp) z (bP gl σ.tm))++ps.map (·.2)) (aR σ.hp (eQ (kJ (gy (l7 (bP gl σ.tm) z) σ.hp) (bP gl σ.tm) z)))) c
  |_=>none
theorem BX{P:Program}{G:cd}{gl:Ctx}{d:Nat}{cr:CR}{op:Op}{ev:Operand→AV}{hb:Nat→Option aP}{e:fK}{ob:List Prop}(h:mT P G gl d cr op ev hb=some (e,ob)):
 ob= []∨∃c e',op= .call c∧lk op=true∧pd P G gl cr ev hb c=some (e',ob):=by
 unfold mT at h
 split at h
 ·rename_i c
  split at h
  ·simp only[fN,gU] at h
   grind
  ·rename_i hb
   simp only[so] at h
   obtain⟨⟨e',ob'⟩,h,hk⟩:=h
   have:=Ov hk
   simp only at this
   subst this
   refine Or.inr ⟨c,e',rfl,?_,h⟩
   obtain⟨callee,args,tys⟩:=c
   cases callee with
   |builtin b=>grind
   |value _=>rfl
   |invoke _ _=>rfl
 ·simp only[fN,gU] at h
  grind
theorem kH{P:Program}{G:cd}{gl:Ctx}{ops:Array Oper}{cr:CR}{z:List (Nat×Ty)}{σ:St}{i:Nat}{f:aV}{vc:List VC}{ob:List Prop}(h:eg P G gl ops cr z σ i=some (f,vc,ob))(hob:vT ops i=true→HD P gl cr (vn G gl ops cr.al cr.ps z σ i)):∀p∈ob,p:=by
 unfold eg at h
 split at h
 ·cases h
 ·rename_i o ho
  have hat:vT ops i=lk o.op:=by unfold vT;rw[ho]
  split at h
  ·cases h
  ·grind
  ·split at h
   ·split at h
    ·cases h
    ·rename_i e ob' he
     cases h
     rcases BX he with rfl|⟨c,e',hop,hc,he'⟩
     ·grind
     grind [vj,vn]
   ·rename_i hz
    split at h
    ·cases h
    ·rename_i e ob' he
     cases h
     rcases BX he with rfl|⟨c,e',hop,hc,he'⟩
     ·grind
     ·refine vj he' ?_
      simp_all[vn]
def fnK{R:Type}:Fn→Fn→Option R→Option R→Option R
 | .func f,.func g,K,E=>if Nat.beq f g then K else E
 | .yield l,.yield l',K,_=>ifs [vc (l=l')] K
 |_,_,_,E=>E
theorem BY{R:Type}{f g:Fn}{K E:Option R}{r:R}(h:fnK f g K E=some r):(f=g∧K=some r)∨E=some r:=by
 cases f with
 |
  func f=>
  cases g with
  |
   func g=>
   grind [fnK,bT]
  |_=>exact Or.inr h
 |
  yield l=>
  cases g with
  |
   yield l'=>
   obtain⟨h1,h2⟩:=fk h
   exact Or.inl ⟨by rw[h1.1],h2⟩
  |_=>exact Or.inr h
 |_=>exact Or.inr h
noncomputable def BZ(a b:aP){R:Type}(x:Option R):Option R:=@ite _ (some a=some b) (Classical.propDecidable _) x none
theorem iD{a:aP}{R:Type}{x:Option R}:BZ a a x=x:=aA rfl
def B0{R:Type}(Γ:List aX)(ps ns ks:List (Nat×Nat))(us:List Nat)(fn:Fn)(L:List AV)(I:List (Nat×Option aP))(K:CR→Option R):List Nat→Option R
 |[]=>none
 |
  c::l=>match Γ[c]? with
  |
   some C=>fnK fn C.fn (match C.get L I with
   |some d=>C.f.run d (fun r=>K ⟨C.res r,ps,ns,C.out r,C.m,false,ks,us⟩) fun x=>K ⟨x,ps,[],[],C.m,true,ks,[]⟩
   |none=>B0 Γ ps ns ks us fn L I K l) (B0 Γ ps ns ks us fn L I K l)
  |none=>none
def Kn(Γ:List aX)(ch:CH)(x:Option (Fn×List AV×List (Nat×Option aP))){R:Type}(K:CR→Option R):Option R:=
 match x with
 |some (fn,L,I)=>B0 Γ ch.ps ch.ns ch.ks ch.us fn L I K ch.Wp
 |none=>none
theorem vo{P:Program}{gl:Ctx}{Γ:List aX}(hΓ:∀C∈Γ,C.holds P gl){ps ns ks:List (Nat×Nat)}{us:List Nat}{fn:Fn}{L:List AV}{I:List (Nat×Option aP)}{R:Type}{K:CR→Option R}{r:R}:∀{l:List Nat},B0 Γ ps ns ks us fn L I K l=some r→
 ∃cr,K cr=some r∧cr.ps=ps∧cr.ks=ks∧HD P gl cr (some (fn,L,I))
 |[],h=>by cases h
 |
  c::l,h=>by
  unfold B0 at h
  split at h
  ·rename_i C hC
   rcases BY h with⟨hf,h⟩|h
   ·split at h
    ·rename_i d hd
     obtain⟨h1,h2⟩:=aX.gY hd
     have hC:=hΓ C (je hC)
     have key:∀(cr:CR),K cr=some r→cr.ps=ps→cr.ks=ks→JV P gl C.fn (C.args d) (aR (List.replicate cr.m none) (C.ins d)) cr.fin (dC cr.m cr.out)→∃cr,K cr=some r∧cr.ps=ps∧cr.ks=ks∧HD P gl cr (some (fn,L,I)):=by
      intro cr h hp hk hh
      refine⟨cr,h,hp,hk,?_⟩
      intro fn' L' I' e
      grind
     rcases CF.BW h with⟨y,hy,h⟩|⟨x,hx,h⟩
     ·exact key _ h rfl rfl (hC.ret d y hy)
     ·exact key _ h rfl rfl (hC.kq d x hx)
    ·exact vo hΓ h
   ·exact vo hΓ h
  grind
theorem Ko{P:Program}{gl:Ctx}{Γ:List aX}(hΓ:∀C∈Γ,C.holds P gl){ch:CH}{x:Option (Fn×List AV×List (Nat×Option aP))}{R:Type}{K:CR→Option R}{r:R}(h:Kn Γ ch x K=some r):
 ∃cr,K cr=some r∧cr.ps=ch.ps∧cr.ks=ch.ks∧HD P gl cr x:=by
 unfold Kn at h
 split at h
 ·exact vo hΓ h
 grind
theorem CH.Sk{ch:CH}{cr:CR}(h1:cr.ps=ch.ps)(h2:cr.ks=ch.ks):cr.al=ch.al:=by
 obtain⟨_,ps,_,_,_,_,ks,_⟩:=cr
 obtain⟨_,ps',_,ks',_⟩:=ch
 cases h1
 cases h2
 trivial
def XA:CR:=⟨.bot,[],[],[],0,false,[],[]⟩
def Of{R:Type}(s:Bool)(f:aV)(K:aV→Option R):Option R:=
 match s with
 |false=>K f
 |
  true=>match f.v with
  | .val .bool e=>if e=true then K {f with v:=.val .bool true} else K {f with v:=.val .bool false}
  |_=>K f
theorem xX{R:Type}{s:Bool}{f:aV}{K:aV→Option R}{r:R}(h:Of s f K=some r):K f=some r:=by
 unfold Of at h
 split at h
 ·exact h
 ·split at h
  ·rename_i e he
   obtain⟨rt,rb,fr,dst,v,hw⟩:=f
   grind
  grind
def Og{R:Type}:List (Option Nat)→Nat→Int→aV→(aV→Option R)→Option R
 |[],_,_,_,_=>none
 |g::gs,n,e,f,K=>if e=(n:Int) then K {f with v:=Hq g} else Og gs (n+1) e f K
def Kp{R:Type}(ok:Bool)(k0:Ty)(k:k0.den)(f:aV)(K:aV→Option R):List (k0.den×AV)→Option R
 |[]=>K {f with v:=okF ok .fD false}
 |x::l=>if bD k0 k x.1=true then K {f with v:=okF ok x.2 true} else Kp ok k0 k f K l
theorem xY{R:Type}{ok:Bool}{k0:Ty}{k:k0.den}{f:aV}{K:aV→Option R}{r:R}:∀{l:List (k0.den×AV)},f.v=lV ok k0 k l→Kp ok k0 k f K l=some r→K f=some r
 |
  [],hv,h=>by
  simp only[lV] at hv
  simp only[Kp] at h
  rw[←hv] at h;exact h
 |
  x::l,hv,h=>by
  simp only[lV] at hv
  simp only[Kp] at h
  split at h
  ·rename_i hb;rw[aA hb] at hv;rw[←hv] at h;exact h
  ·rename_i hb;rw[aC hb] at hv;exact xY hv h
def Oh{R:Type}(b:Nat)(p:Path):Nat→Nat→Int→aV→(aV→Option R)→Option R
 |0,_,_,_,_=>none
 |m+1,n,e,f,K=>if e=(n:Int) then K {f with v:=.ptr b (p++[.idx n])} else Oh b p m (n+1) e f K
theorem xZ{R:Type}{f:aV}{K:aV→Option R}{r:R}{b:Nat}{p:Path}{e:Int}(hv:f.v= .ptr b (p++[.idx e.toNat])):∀{m n:Nat},Oh b p m n e f K=some r→K f=some r
 |0,_,h=>by cases h
 |
  m+1,n,h=>by
  unfold Oh at h
  split at h
  ·rename_i he
   subst he
   rw[ew] at hv
   rw[←hv] at h
   exact h
  ·exact xZ hv h
def XB(hb:Nat→Option aP)(b:Nat)(p:Path):Option Nat:=
 match hb b with
 |
  some k=>match(jf k).sub p with
  |some (.fns n)=>some n
  |_=>none
 |none=>none
theorem HE{P:Program}{G:cd}{d:Nat}{t:TypeId}{x j:Operand}{ev:Operand→AV}{hb:Nat→Option aP}{r:fK}{b:Nat}{p:Path}{k:IntKind}{e:Int}(h:mS P G d (.indexAddr t x j) ev hb=some r)(hx:ev x= .ptr b p)(hj:ev j= .val (.int k) e):r.v= .ptr b (p++[.idx e.toNat]):=by
 simp only[mS,Dx,wu,vJ,vL,vN,vO,vR,hx,hj,jX] at h
 split at h
 ·rename_i r' h
  cases h
  rename_i h
  obtain⟨⟨u,vc⟩,h,rfl⟩:=Option.map_eq_some_iff.1 h
  unfold jo at h
  split at h
  ·split at h
   ·grind
   ·grind
   ·grind
   ·grind
   ·rename_i h2
    cases h2
    split at h
    ·split at h
     ·split at h
      ·cases h;rfl
      grind
     grind
    grind
   ·rename_i h2
    cases h2
    split at h
    ·split at h
     ·split at h
      ·cases h;rfl
      grind
     grind
    grind
   ·grind
   grind
  grind
 grind
def TJ{R:Type}(gl:Ctx)(ops:Array Oper)(σ:St)(i:Nat)(f:aV)(K:aV→Option R):Option R:=
 match ops[i]? with
 |
  some o=>match o.guard,o.op with
  |
   none,.indexAddr _ x j=>match bP gl σ.tm x,bP gl σ.tm j with
   |
    .ptr b p,.val (.int _) e=>match XB (eG σ.hp) b p with
    |some n=>Oh b p n 0 e f K
    |none=>K f
   |_,_=>K f
  |
   none,.index _ x j=>match bP gl σ.tm x,bP gl σ.tm j with
   | .val (.fns _) xs,.val (.int _) e=>Og xs 0 e f K
   |_,_=>K f
  |
   none,.lookup _ x k ok=>match bP gl σ.tm x with
   |
    .mp b=>match eG σ.hp b with
    |
     some (.il k0 l)=>match(bP gl σ.tm k).bO k0 with
     |some k'=>Kp ok k0 k' f K l
     |none=>K f
    |_=>K f
   |_=>K f
  |_,_=>K f
 |none=>K f
theorem x8{R:Type}{f:aV}{K:aV→Option R}{r:R}{ys:List (Option Nat)}{e:Int}(hv:f.v=Hq (ys.getD e.toNat none)):∀{xs:List (Option Nat)}{n:Nat},(∀k,ys.getD (n+k) none=xs.getD k none)→Og xs n e f K=some r→K f=some r
 |[],_,_,h=>by cases h
 |
  g::gs,n,hx,h=>by
  unfold Og at h
  split at h
  ·rename_i he
   subst he
   have:ys.getD n none=g:=by simpa using hx 0
   rw[ew,this] at hv
   rw[←hv] at h
   exact h
  ·refine x8 hv (fun k=>?_) h
   have:=hx (k+1)
   rw[show n+1+k=n+(k+1) by omega,this]
   simp
theorem HF{P:Program}{G:cd}{R:Type}{gl:Ctx}{ops:Array Oper}{cr:CR}{σ:St}{i:Nat}{f:aV}{vc:List VC}{ob:List Prop}{K:aV→Option R}{r:R}(hs:eg P G gl ops cr [] σ i=some (f,vc,ob))(h:TJ gl ops σ i f K=some r):K f=some r:=by
 unfold TJ at h
 split at h
 ·rename_i o ho
  split at h
  ·rename_i t x j hg hop
   split at h
   ·rename_i b p k e hx hj
    split at h
    ·rename_i n hn
     have hv:f.v= .ptr b (p++[.idx e.toNat]):=by
      grind [eg,guardOf,mT,fN,HE]
     exact xZ hv h
    grind
   grind
  ·rename_i t x j hg hop
   split at h
   ·rename_i n xs k e hx hj
    have hv:f.v=Hq (xs.getD e.toNat none):=by
     unfold eg at hs
     rw[ho] at hs
     simp only[guardOf,hg,hop] at hs
     simp only[mT,mS,Dx,wu,vJ,vL,vN,vO,vR,hx,hj] at hs
     split at hs
     ·cases hs
     ·rename_i e' ob' he
      cases hs
      simp only[fN,gU] at he
      obtain⟨a,ha,rfl,rfl⟩:=he
      split at ha
      case h_2=>cases ha
      rename_i a' ha'
      cases ha
      simp only[fN] at ha'
      obtain⟨b,hb,rfl⟩:=ha'
      unfold tU at hb
      split at hb
      ·split at hb
       ·grind
       ·rename_i m m' ys k' n' h1 h2 h3
        cases h2;cases h3
        split at hb
        ·cases hb;rfl
        grind
       ·grind
       grind
      grind
    exact x8 hv (fun k=>by simp) h
   grind
  ·rename_i t x k ok hg hop
   split at h
   ·rename_i b hx
    split at h
    ·rename_i k0 l hbk
     split at h
     ·rename_i k' hk
      have hv:f.v=lV ok k0 k' l:=by
       grind [eg,guardOf,mT,fN,Cf,eG,gy]
      exact xY hv h
     grind
    grind
   grind
  grind
 grind
def XC{R:Type}(gl:Ctx)(ops:Array Oper)(σ:St)(i:Nat)(z:List (Nat×Ty))(f:aV)(K:aV→Option R):Option R:=
 match z with
 |[]=>TJ gl ops σ i f (fun f=>Of (La ops.toList i) f K)
 |_::_=>Of (La ops.toList i) f K
section
variable(P:Program) (G:cd) (gl:Ctx) (Γ:List aX)
def rG(ops:Array Oper)(σ:St)(i:Nat):Bool:=
 match ops[i]? with
 |
  some o=>match guardOf ops σ.tm o with
  |some b=>b
  |none=>false
 |none=>false
def B1(ops:Array Oper){R:Type}(i:Nat)(σ:St)(z:List (Nat×Ty))(x:Option (aV×List VC×List Prop))(K:aV→Option R):Option R:=
 match x with
 |some (f,vcs,_)=>if f.fr.all σ.fG then ifs vcs (XC gl ops σ i z f K) else none
 |none=>none
def Kq(gl:Ctx)(ops:Array Oper)(σ:St)(i:Nat):Option aV:=
 match ops[i]? with
 |
  some o=>match o.guard,o.op with
  |
   none,.panic x=>match bP gl σ.tm x with
   | .iface t v=>some ⟨slotsOf [x],[],[],none,.iface t v,[]⟩
   |_=>none
  |_,_=>none
 |none=>none
def XD{R:Type}(x:Option (aV×List VC×List Prop))(KP:aV→Option R):Option R:=
 match x with
 |some (f,_,_)=>if f.fr.isEmpty then KP f else none
 |none=>none
def lh(ops:Array Oper)(zs:List (Nat×Nat×Ty)){R:Type}(K:List aV→St→Option R)(KP:List aV→aV→St→Option R):Nat→Nat→List CH→St→List aV→Option R
 |0,_,_,σ,fs=>K fs σ
 |
  n+1,i,cs,σ,fs=>
  if vT ops i&&rG ops σ i then(match cs with
   |
    ch::cs'=>Kn Γ ch (vn G gl ops ch.al ch.ps (Sp zs i) σ i) fun cr=>match cr.kq with
    |false=>B1 gl ops i σ (Sp zs i) (eg P G gl ops cr (Sp zs i) σ i) fun f=>lh ops zs K KP n (i+1) cs' (σ.app f) (f::fs)
    |true=>XD (eg P G gl ops cr (Sp zs i) σ i) fun f=>KP fs f σ
   |[]=>none)
  else match Kq gl ops σ i with
  |some f=>KP fs f σ
  |none=>B1 gl ops i σ (Sp zs i) (eg P G gl ops XA (Sp zs i) σ i) fun f=>lh ops zs K KP n (i+1) (if vT ops i then cs.tail else cs) (σ.app f) (f::fs)
end
theorem vp{P:Program}{G:cd}{gl:Ctx}{ops:Array Oper}{cr:CR}{z:List (Nat×Ty)}{σ:St}{i:Nat}{f:aV}{vc:List VC}{ob:List Prop}{o:Oper}(h:eg P G gl ops cr z σ i=some (f,vc,ob))(ho:ops[i]? =some o):f.dst=o.dst:=by
 grind [eg]
theorem B2{P:Program}{G:cd}{gl:Ctx}{ops:Array Oper}{R:Type}{i:Nat}{σ:St}{cr:CR}{z:List (Nat×Ty)}{K:aV→Option R}{r:R}{f:aV}{vc:List VC}{ob:List Prop}(hs:eg P G gl ops cr z σ i=some (f,vc,ob))(h:XC gl ops σ i z f K=some r):K f=some r:=by
 cases z with
 |nil=>exact xX (HF hs h)
 |cons _ _=>exact xX h
theorem vq{P:Program}{G:cd}(T:bM P G){gl:Ctx}{ops:Array Oper}{R:Type}{i:Nat}{σ:St}{cr:CR}{z:List (Nat×Ty)}{K:aV→Option R}{r:R}(anx:cr.kq=false)(hob:vT ops i=true→HD P gl cr (vn G gl ops cr.al cr.ps z σ i))(h:B1 gl ops i σ z (eg P G gl ops cr z σ i) K=some r):
 ∃f,(oM P gl ops i f σ∧∀o,ops[i]? =some o→f.dst=o.dst)∧(∀d∈f.fr,σ.fresh d)∧K f=some r:=by
 unfold B1 at h
 split at h
 ·rename_i f vcs ob hs
  obtain⟨hf,h⟩:=bW h
  grind [fk,kL,kH,vp,B2,St.ee]
 grind
theorem Oi{P:Program}{G:cd}{gl:Ctx}{ops:Array Oper}{σ:St}{i:Nat}{cr:CR}{z:List (Nat×Ty)}{f:aV}{vc:List VC}{ob:List Prop}(h:eg P G gl ops cr z σ i=some (f,vc,ob))(hg:rG ops σ i=false):ob= []:=by
 grind [eg,rG]
theorem Kr{P:Program}{gl:Ctx}{ops:Array Oper}{σ:St}{i:Nat}{f:aV}(h:Kq gl ops σ i=some f):Ci P gl ops i f σ:=by
 unfold Kq at h
 split at h
 ·rename_i o ho
  split at h
  ·rename_i x hgd hop
   split at h
   ·rename_i t v hx
    cases h
    intro σ' ha E a w hg K Q hQ
    unfold wpOpIn
    simp only[ho]
    have hw:=fY hg (ops:=ops) (o:=o) (c:=true) (by unfold guardOf;rw[hgd])
    rw[hw]
    simp only[bU]
    have hv:=gv hg x
    rw[iV ha (x:=x) (fun t ht=>by grind [slotsOf]),hx] at hv
    obtain⟨u,e,_⟩:=RV.atom rfl hv
    simp at e
    unfold Oper.wpIn
    refine⟨fun _ _=>trivial,?_⟩
    rw[Oper.semAt_eq _ _ _ (by grind)]
    have anj:(execOp a.eval o).run P w= .halt (.panic (a.eval x)) w:=by
     simp[execOp,hop,e,Instr.panic]
    rw[anj]
    exact hQ E (a.eval x) w hg hv (Ext.refl _ _ _)
   grind
  grind
 grind
theorem B3{ops:Array Oper}{σ:St}{i:Nat}(h1:vT ops i=true)(h2:rG ops σ i=true):∃o,ops[i]? =some o∧guardOf ops σ.tm o=some true∧lk o.op=true:=by
 grind [rG,vT]
theorem oS{P:Program}{G:cd}(T:bM P G){gl:Ctx}{Γ:List aX}(hΓ:∀C∈Γ,C.holds P gl){ops:Array Oper}{zs:List (Nat×Nat×Ty)}{R:Type}{K:List aV→St→Option R}{KP:List aV→aV→St→Option R}{r:R}:
 ∀{n i:Nat}{cs:List CH}{σ:St}{fs:List aV},lh P G gl Γ ops zs K KP n i cs σ fs=some r→
  (∃gs σ',pO P gl ops i gs σ σ'∧gs.length=n∧(∀(k:Nat)(f:aV)(o:Oper),gs[k]? =some f→ops[i+k]? =some o→f.dst=o.dst)∧K (gs.reverse++fs) σ'=some r)∨
  ∃gs f σ',pO P gl ops i gs σ σ'∧gs.length<n∧Ci P gl ops (i+gs.length) f σ'∧KP (gs.reverse++fs) f σ'=some r
 |0,i,cs,σ,fs,h=>Or.inl ⟨[],σ,rfl,rfl,(fun k f o h=>by simp at h),h⟩
 |
  n+1,i,cs,σ,fs,h=>by
  unfold lh at h
  have fin:∀{f:aV}{cs':List CH},(oM P gl ops i f σ∧∀o,ops[i]? =some o→f.dst=o.dst)→(∀d∈f.fr,σ.fresh d)→lh P G gl Γ ops zs K KP n (i+1) cs' (σ.app f) (f::fs)=some r→
   (∃gs σ',pO P gl ops i gs σ σ'∧gs.length=n+1∧(∀(k:Nat)(f:aV)(o:Oper),gs[k]? =some f→ops[i+k]? =some o→f.dst=o.dst)∧K (gs.reverse++fs) σ'=some r)∨
   ∃gs f σ',pO P gl ops i gs σ σ'∧gs.length<n+1∧Ci P gl ops (i+gs.length) f σ'∧KP (gs.reverse++fs) f σ'=some r:=by
   intro f cs' h1 h2 h3
   rcases oS T hΓ h3 with⟨gs,σ',k1,k2,kd,k3⟩|⟨gs,f',σ',k1,k2,kp,k3⟩
   ·refine Or.inl ⟨f::gs,σ',⟨h1.1,h2,k1⟩,by simp[k2],?_,by simpa using k3⟩<;>grind
   ·exact Or.inr ⟨f::gs,f',σ',⟨h1.1,h2,k1⟩,by grind,by grind,by grind⟩
  split at h
  ·rename_i hcg
   simp only[bB] at hcg
   split at h
   ·rename_i ch cs'
    obtain⟨cr,h,hps,hks,hob⟩:=Ko hΓ h
    split at h
    ·rename_i anx
     obtain⟨f,h1,h2,h3⟩:=vq T anx (fun _=>by rw[hps,CH.Sk hps hks];exact hob) h
     grind
    ·rename_i anx
     unfold XD at h
     split at h
     ·rename_i f vcs ob hs
      obtain⟨hf,h⟩:=bW h
      obtain⟨o,ho,hgd,hcl⟩:=B3 hcg.1 hcg.2
      exact Or.inr ⟨[],f,σ,rfl,by simp,Eb T anx ho hgd hcl hs (kH hs (fun _=>by rw[hps,CH.Sk hps hks];exact hob)) (by grind),by grind⟩
     grind
   grind
  ·rename_i hc
   split at h
   ·rename_i f hf
    exact Or.inr ⟨[],f,σ,rfl,by simp,Kr hf,by grind⟩
   ·cases ho:vT ops i with
    |
     false=>
     rw[ho] at h
     obtain⟨f,h1,h2,h3⟩:=vq T rfl (fun e=>by grind) h
     grind
    |
     true=>
     rw[ho] at h hc
     have hg:rG ops σ i=false:=by grind
     unfold B1 at h
     split at h
     ·rename_i f vcs ob hs
      obtain⟨hf,h⟩:=bW h
      obtain⟨hv,h⟩:=fk h
      refine fin ⟨kL T rfl hs hv (by rw[Oi hs hg];grind),fun o ho=>vp hs ho⟩ ?_ (B2 hs h)
      grind [St.ee]
     grind
section
variable(P:Program) (G:cd) (gl:Ctx)
def nJ(ops:Array Oper)(draw:Bool)(z p:Nat)(masks:List Nat){R:Type}(K:List aV→Option R):Nat→Nat→St→List aV→Option R
 |0,_,_,gs=>K gs.reverse
 |
  n+1,j,σ,gs=>if !draw||(masks.getD j 0).testBit p then nJ ops draw z p masks K n (j+1) σ (F5 z::gs)
  else if vT ops j then none else match eg P G gl ops XA [] σ j with
   |some (f,vcs,_)=>if f.fr.isEmpty&&N9 z [f] then ifs vcs (nJ ops draw z p masks K n (j+1) (σ.app f) (f::gs)) else none
   |none=>none
end
theorem oT{P:Program}{G:cd}(T:bM P G){gl:Ctx}{ops:Array Oper}{draw:Bool}{z p:Nat}{masks:List Nat}{R:Type}{K:List aV→Option R}{r:R}:∀{n j:Nat}{σ:St}{gs:List aV},nJ P G gl ops draw z p masks K n j σ gs=some r→
 ∃ms σ',(σ.hp[z]? =some (some DJ)→cu (DK P gl ops z) j ms σ σ')∧ms.length=n∧N9 z ms=true∧K (gs.reverse++ms)=some r
 |0,j,σ,gs,h=>⟨[],σ,fun _=>rfl,rfl,rfl,by simpa[nJ] using h⟩
 |
  n+1,j,σ,gs,h=>by
  unfold nJ at h
  split at h
  ·obtain⟨ms,σ',h1,h2,h3,h4⟩:=oT T h
   refine⟨F5 z::ms,σ',fun hz=>⟨Or.inr ⟨rfl,hz⟩,(fun d hd=>by cases hd),h1 hz⟩,by simp[h2],by simp only[N9,List.all_cons,bB] at h3 ⊢;exact⟨rfl,h3⟩,by simpa using h4⟩<;>grind
  ·split at h
   ·cases h
   ·rename_i ho
    split at h
    ·rename_i f vcs ob hs
     obtain⟨hf,h⟩:=bW h
     obtain⟨hv,h⟩:=fk h
     simp only[bB,List.isEmpty_iff] at hf
     obtain⟨ms,σ',h1,h2,h3,h4⟩:=oT T h
     have hob:=kH (cr:=XA) hs (fun e=>absurd e ho)
     have hnz:N9 z (f::ms)=true:=by
      simp_all[N9]
     refine⟨f::ms,σ',fun hz=>⟨Or.inl (kL T rfl hs hv hob),(fun d hd=>by grind),h1 ?_⟩,by simp[h2],hnz,by grind⟩
     have hq:cu (fun _ _ _=>True) j [f] σ (σ.app f):=⟨trivial,(fun d hd=>by grind),rfl⟩
     exact cu.at hq hf.2 hz
    grind
def XE{α:Type}:List (Nat×α)→Nat→Option α
 |[],_=>none
 |(i,x)::l,j=>if Nat.beq i j then some x else XE l j
def rH:Code→Option Nat
 | .region id _ _=>some id
 |
  .seq a b=>match rH a with
  |some i=>some i
  |none=>rH b
 |
  .cond _ a b=>match rH a with
  |some i=>some i
  |none=>rH b
 | .block _ c| .loop c| .scope c=>rH c
 |_=>none
def Oj{α:Type}(l:List (Nat×α))(c:Code):Option α:=
 match rH c with
 |some i=>XE l i
 |none=>none
def aK{U R:Type}(F:(U→Option R)→U→Option R)(n:Nat):U→Option R:=
 @Nat.rec (fun _=>U→Option R) (fun _=>none) (fun _ ih=>F ih) n
def aH{U R:Type}(x:Option (cH U R))(f:U→Option R):Option R:=
 Option.bind x fun o=>match o with
  | .bA d=>f d
  | .ret r=>some r
def cw{U R:Type}(x:Option R):Option (cH U R):=x.map .ret
theorem DP{U R:Type}{x:Option (cH U R)}{f:U→Option R}{r:R}(h:aH x f=some r):(∃d,x=some (.bA d)∧f d=some r)∨x=some (.ret r):=by
 obtain⟨o,ho,h⟩:=bind_some h
 grind
def Ok(ops:Array Oper):Bool:=ops.toList.any fun o=>match o.op with
 | .defer _=>true
 |_=>false
def vr{R:Type}(F:YC→Option R):Option R:=
 @dite _ (∃r,∀y,F y=some r) (Classical.propDecidable _) (fun h=>some h.choose) fun _=>none
theorem HG{R:Type}{F:YC→Option R}{r:R}(h:vr F=some r)(y:YC):F y=some r:=by
 unfold vr at h
 split at h<;>grind
def IW{R:Type}(a b:YC)(x:Option R):Option R:=@ite _ (a=b) (Classical.propDecidable _) x none
structure IC where
 A:List Sh
 B:List (Nat×dj)
 m:Nat
 k0:Nat
 R:List (Nat×dj)
 Wp:Nat→(prod (sG A (iq B []))→Option (gm (Bool::YC::Nat::iq R [])))→aX
def IC.T(C:IC):List Type:=Bool::YC::Nat::iq C.R []
def IC.Y(C:IC)(l:Nat)(f:prod (sG C.A (iq C.B []))→Option (gm C.T)):aX:=
 ⟨.yield l,C.A,C.B,C.m,⟨1,C.m,[(0,.val .bool)],(C.k0,.lp)::C.R,[]⟩,fun r=>.val .bool (qR C.T r).1,fun r=>(C.k0,.lp (qR C.T r).2.1 (qR C.T r).2.2.1)::oA y0 C.R (qR C.T r).2.2.2,.bH f⟩
def IC.holds(P:Program)(gl:Ctx)(C:IC):Prop:=∀B hB l f,(C.Y l f).holds P (gl.wB B hB)→(C.Wp l f).holds P (gl.wB B hB)
def DQ:Option aP→Bool
 |some (.tv _ _ _)=>true
 |_=>false
def xd:List (Option aP)→Bool
 |[]=>true
 |x::l=> !DQ x&&xd l
theorem Ga:∀{l:List (Option aP)},xd l=true→∀(i g:Nat)(t:Ty)(v:AV),l[i]? ≠some (some (.tv g t v))
 |[],_,i,g,t,v=>by simp
 |
  x::l,h,i,g,t,v=>by
  simp only[xd,bB] at h
  cases i with
  |zero=>intro e;simp at e;subst e;exact absurd h.1 (by simp[DQ])
  |succ i=>simpa using Ga h.2 i g t v
def Ks(y:YC)(ti:List (Nat×Ty))(k0:Nat):Nat→List (Option aP)→Option (List VC×List (Option aP))
 |_,[]=>some ([],[])
 |
  i,x::l=>match Ks y ti k0 (i+1) l with
  |none=>none
  |
   some (vs,H)=>if Nat.beq i k0 then(match x with
    |some (.lp y' j)=>some (⟨y'=y,Classical.propDecidable _⟩::vc (j=0)::vs,none::H)
    |_=>none)
   else match x with
    |none=>some (vs,none::H)
    |some (.tv g t v)=>if l4 i ti then some (vc (g=y.gs i)::vs,some (.var t v)::H) else none
    |some (.var t v)=>if l4 i ti then none else some (vs,some (.var t v)::H)
    |some k=>some (vs,some k::H)
theorem tS{y:YC}{ti:List (Nat×Ty)}{k0:Nat}:∀{X:List (Option aP)}{s:Nat}{vs:List VC}{H:List (Option aP)},Ks y ti k0 s X=some (vs,H)→dQ vs→
 H.length=X.length∧(∀i,s+i=k0→i<X.length→X[i]? =some (some (.lp y 0))∧H[i]? =some none)∧(∀i,s+i≠k0→X[i]? =(tie y.gs ti s H)[i]?)∧xd H=true
 |[],s,vs,H,h,_=>by cases h;exact⟨rfl,fun i _ hi=>by grind,fun i _=>rfl,rfl⟩
 |
  x::l,s,vs,H,h,hv=>by
  unfold Ks at h
  split at h
  ·cases h
  ·rename_i vs' H' hr
   have step:∀{k:Option aP}{k':Option aP},dQ vs'→Nat.beq s k0=false→x=k→(∀L,(tie y.gs ti s (k'::L))=k::tie y.gs ti (s+1) L)→DQ k'=false→(k'::H').length=(x::l).length∧(∀i,s+i=k0→i<(x::l).length→(x::l)[i]? =some (some (.lp y 0))∧(k'::H')[i]? =some none)∧(∀i,s+i≠k0→(x::l)[i]? =(tie y.gs ti s (k'::H'))[i]?)∧xd (k'::H')=true:=by
    intro k k' hv' hb hx ht hnt
    obtain⟨h1,h2,h3,h4⟩:=tS hr hv'
    have hne:s≠k0:=fun e=>by rw[e,Nat.beq_refl] at hb;cases hb
    refine⟨by simp[h1],?_,?_,by simp[xd,hnt,h4]⟩
    ·intro i hi hl
     cases i with
     |zero=>exact absurd hi hne
     |succ i=>exact h2 i (by omega) (by simpa using hl)
    ·intro i hi
     rw[ht,hx]
     cases i with
     |zero=>rfl
     |succ i=>simpa using h3 i (by omega)
   split at h
   ·rename_i hb
    have hs:=bT hb
    subst hs
    split at h
    ·rename_i y' j
     cases h
     obtain⟨e1,e2,hv'⟩:=hv
     have e1:y'=y:=e1
     have e2:j=0:=e2
     subst e1;subst e2
     obtain⟨h1,h2,h3,h4⟩:=tS hr hv'
     refine⟨by simp[h1],?_,?_,by simp[xd,DQ,h4]⟩
     ·intro i hi _
      have:i=0:=by omega
      subst this
      exact⟨rfl,rfl⟩
     ·intro i hi
      cases i with
      |zero=>exact absurd rfl hi
      |succ i=>simpa[tie] using h3 i (by omega)
    ·cases h
   ·rename_i hb
    have hb:Nat.beq s k0=false:=by cases hq:Nat.beq s k0 with|false=>rfl|true=>exact absurd hq hb
    split at h
    ·cases h;exact step hv hb rfl (fun L=>rfl) rfl
    ·rename_i g t v
     obtain⟨ht,h⟩:=bW h
     cases h
     obtain⟨e1,hv'⟩:=hv
     have e1:g=y.gs s:=e1
     subst e1
     exact step hv' hb rfl (fun L=>by simp[tie,mO,ht]) rfl
    ·rename_i t v
     split at h
     ·cases h
     ·rename_i ht
      cases h;exact step hv hb rfl (fun L=>by simp[tie,mO,ht]) rfl
    ·rename_i k n1 n2
     cases h
     refine step hv hb rfl (fun L=>?_) ?_
     ·cases k with
      |var t v=>exact absurd rfl (n2 t v)
      |_=>rfl
     ·cases k with
      |tv g t v=>exact absurd rfl (n1 g t v)
      |_=>rfl
def ya(p:Code→Bool):List Code→Nat→Option Nat
 |[],_=>none
 |c::l,n=>if p c then some n else ya p l (n+1)
def Sl:Code→Bool
 | .ret=>true
 |_=>false
def Kt(i:Nat):Code→Bool
 | .exit j=>Nat.beq i j
 |_=>false
def TK(jl:List Code):fV→Option Nat
 | .normal=>some 0
 | .ret=>ya Sl jl 1
 | .exit i=>ya (Kt i) jl 1
 | .panic _=>none
theorem B4{p:Code→Bool}:∀{l:List Code}{n j:Nat},ya p l n=some j→n≤j∧∃c,l[j -n]? =some c∧p c=true
 |[],_,_,h=>by cases h
 |
  c::l,n,j,h=>by
  unfold ya at h
  split at h
  ·grind
  ·obtain⟨h1,c',h2,h3⟩:=B4 h
   grind
theorem yb{p:Code→Bool}{jl:List Code}{j:Nat}(h:ya p jl 1=some j):j≠0∧∃c,jmp jl j=some c∧p c=true:=by
 obtain⟨h1,c,h2,h3⟩:=B4 h
 refine⟨by omega,c,?_,h3⟩
 cases j with
 |zero=>omega
 |succ j=>trivial
def TL{R:Type}(c:Code)(σ:St)(k:fV→St→Option R):Option R:=
 match c with
 | .ret=>k .ret σ
 | .exit i=>k (.exit i) σ
 |_=>none
def Ol{R:Type}(σ:St)(k:fV→St→Option R)(j:Nat):List Code→Nat→Option R
 |[],_=>none
 |c::l,n=>if j=n then TL c σ k else Ol σ k j l (n+1)
def TM{R:Type}(jl:List Code)(j:Nat)(σ:St)(k:fV→St→Option R):Option R:=if j=0 then k .normal σ else Ol σ k j jl 1
theorem Gb{R:Type}{σ:St}{k:fV→St→Option R}{j:Nat}{r:R}:∀{l:List Code}{n:Nat},Ol σ k j l n=some r→n≤j∧∃c,l[j -n]? =some c∧TL c σ k=some r
 |[],_,h=>by cases h
 |
  c::l,n,h=>by
  unfold Ol at h
  split at h
  ·grind
  ·obtain⟨h1,c',h2,h3⟩:=Gb h
   grind
theorem Om{P:Program}{gl:Ctx}{R:Type}{jl:List Code}{j:Nat}{σ:St}{k:fV→St→Option R}{r:R}(h:TM jl j σ k=some r):match jmp jl j with
 |none=>k .normal σ=some r
 |some c=>cZ P gl c σ (fun e σ'=>k e σ'=some r):=by
 unfold TM at h
 split at h
 ·rename_i hj;subst hj;exact h
 ·obtain⟨h1,c,h2,h3⟩:=Gb h
  have hj:jmp jl j=some c:=by
   cases j with
   |zero=>omega
   |succ j=>simpa[jmp] using h2
  rw[hj]
  simp only
  unfold TL at h3
  split at h3
  ·exact cZ.ret h3
  ·exact cZ.exit h3
  ·cases h3
def Ku(y:YC)(rh:Oe)(C:IC):fV→St→Option (gm (Nat::iq C.R [])):=fun e σ=>
 match TK rh.jl e,rh.E.tR σ with
 |
  some j,some u=>if xd (rh.E.st y0 u).hp&&Nat.ble C.m (rh.E.st y0 u).hp.length then(match Xn C.R (l:=[]) (tie y.gs rh.ti 0 (rh.E.st y0 u).hp) () with
  |some e=>some (Sg (Nat::iq C.R []) (j,e))
  |none=>none) else none
 |_,_=>none
def Wr(y:YC)(rh:Oe)(C:IC)(ps:Array Tmp)(σ:St)(wA wB:St→(fV→St→Option (gm (Nat::iq C.R [])))→Option (gm (Nat::iq C.R []))):prod (sG C.A (iq C.B []))→Option (gm C.T):=fun d=>
 match Ks y rh.ti C.k0 0 (aR (List.replicate C.m none) (dq (oA y0 C.B (zi C.A d)))) with
 |
  some (vcs,H0)=>ifs vcs (if Nat.beq ps.size (zh y0 C.A d).length&&qg H0 rh.ti then(Option.bind (wA ⟨sK (ps.toList.zip (zh y0 C.A d)) (Kk rh.m σ.tm),H0,[]⟩ (fun e σ1=>match e with
  | .normal=>wB σ1 (Ku y rh C)
  |_=>none)) fun r=>match Ks y rh.ti C.m 0 (dC C.m (oA y0 C.R (qR (Nat::iq C.R []) r).2)) with
  |some (vs,H1)=>ifs vs (if qg H1 rh.ti then some (Sg C.T (Nat.beq (qR (Nat::iq C.R []) r).1 0,y,(qR (Nat::iq C.R []) r).1,(qR (Nat::iq C.R []) r).2)) else none)
  |none=>none) else none)
 |none=>none
def TN(σ:St)(rh:Oe)(C:IC)(cs:AV):Bool:=
 σ.fG rh.dI&&σ.fG rh.lI&& !Nat.beq rh.dI rh.lI&&Nat.blt C.k0 16&&Nat.blt C.k0 C.m&& !l4 C.k0 rh.ti&&Xw σ.hp rh.ti rh.m&&kj (rh.m.map (·.2))&&cs.atoms&&C.R.all fun x=> !Nat.beq x.1 C.k0
def Sm(σ:St)(y:YC)(rh:Oe)(cr:CR){R:Type}(k:fV→St→Option R):Option R:=
 match cr.r with
 |
  .gm .nil=>if zS cr []&&((cr.ns.map (·.2)).all (fun b=>({σ with hp:=rF y rh.m rh.dI rh.lI σ.hp,df:=.mp rh.dI::σ.df}:St).fG b)) then(match(aR (rF y rh.m rh.dI rh.lI σ.hp) (ma (cr.al++cr.ns) cr.out (cr.ps++cr.ns)))[rh.lI]? with
  |some (some (.lp y' j))=>ifs [⟨y'=y,Classical.propDecidable _⟩] (TM rh.jl j ⟨σ.tm,Km ((aR (rF y rh.m rh.dI rh.lI σ.hp) (ma (cr.al++cr.ns) cr.out (cr.ps++cr.ns))).set rh.lI none),.mp rh.dI::σ.df⟩ k)
  |_=>none) else none
 |_=>none
def TO(σ:St)(y:YC)(rh:Oe)(gf:FuncId)(cs:AV)(C2:aX){R:Type}(k:fV→St→Option R):Option R:=
 match lY (l9 rh.ps) (eG (rF y rh.m rh.dI rh.lI σ.hp)) (((.func (.yield y.l) .nil .nil,Ty.unit))::cs.toList.map (fun x=>(x,Ty.unit))),i6 (l9 rh.ps) (eG (rF y rh.m rh.dI rh.lI σ.hp)) rh.ps with
 |
  some (L,[]),some ins=>fnK (.func gf) C2.fn (match C2.get L ins with
  |some d=>C2.f.run d (fun r=>Sm σ y rh ⟨C2.res r,rh.ps,rh.ns,C2.out r,C2.m,false,[],[]⟩ k) (fun _=>none)
  |none=>none) none
 |_,_=>none
section
variable(P:Program) (G:cd) (gl:Ctx) (fr:Bool) (H:Hs) (Γ:List aX)
def forget:List Oper→List AV→List AV
 |[],tm=>tm
 |
  o::l,tm=>forget l (match o.dst with
  |some d=>tm.set d .bot
  |none=>tm)
def TP:List (Nat×Ty)→List Type
 |[]=>[]
 |(_,t)::l=>t.den::TP l
def mgG:(l:List (Nat×Ty))→List AV→Option (prod (TP l))
 |[],_=>some ()
 |
  (i,t)::l,tm=>match tm[i]? with
  |
   some (.val u x)=>if h:Ty.same u t=true then(match mgG l tm with
   |some d=>some (qf h x,d)
   |none=>none) else none
  |_=>none
def mgV:(l:List (Nat×Ty))→prod (TP l)→List (Nat×AV)
 |[],_=>[]
 |(i,t)::l,d=>(i,.val t d.1)::mgV l d.2
def XF(ops:Array Oper)(l:List (Nat×Ty))(σ:St)(t:gm (TP l)):St:={σ with tm:=mN (mgV l (qR (TP l) t)) (forget ops.toList σ.tm)}
def Ty.mf:(t:Ty)→DecidableEq t.den
 | .int _=>inferInstanceAs (DecidableEq Int)
 | .bool=>inferInstanceAs (DecidableEq Bool)
 | .str=>inferInstanceAs (DecidableEq (List UInt8))
 | .arr _ t=>@instDecidableEqList _ t.mf
 | .slice _ t=>@instDecidableEqList _ t.mf
 | .pair a b=>@instDecidableEqProd _ _ a.mf b.mf
 | .unit=>inferInstanceAs (DecidableEq Unit)
 | .aS _=>inferInstanceAs (DecidableEq Unit)
 | .fns _=>inferInstanceAs (DecidableEq (List (Option Nat)))
 | .map k v=>@Option.instDecidableEq _ (@instDecidableEqList _ (@instDecidableEqProd _ _ k.mf v.mf))
def tT:Path→Path→Bool
 |[],[]=>true
 | .cV a::p,.cV b::q=>Nat.beq a b&&tT p q
 |_,_=>false
theorem vu:∀{p q:Path},tT p q=true→p=q
 |[],[],_=>rfl
 |
  .cV a::p,.cV b::q,h=>by
  simp only[tT,bB] at h
  rw[bT h.1,vu h.2]
def sL(t:Ty)(x y:t.den){R:Type}(K:Option R):Option R:=@ite _ (x=y) (t.mf x y) K none
def Kv:AV→AV→Option (List VC)
 | .val t x,.val u y=>if h:Ty.same u t=true then some [⟨x=qf h y,t.mf _ _⟩] else none
 | .bF,.bF=>some []
 | .own b,.own c=>if Nat.beq b c then some [] else none
 | .ptr b p,.ptr c q=>if Nat.beq b c&&tT p q then some [] else none
 |_,_=>none
def Gc{R:Type}(ops:Array Oper)(σ:St)(fs:List aV)(j:Nat)(K:Option R):List Nat→Option R
 |[]=>K
 |
  i::l=>if vT ops i then none else match fs[i]?,eg P G gl ops XA [] (cN (fun x=>decide (x<j+1)) 0 fs σ) i with
  |
   some f,some (g,vcs,_)=>match Kv f.v g.v with
   |some vs=>if f.hw.isEmpty&&g.hw.isEmpty&&f.fr.isEmpty&&g.fr.isEmpty&&decide (f.rt=g.rt)&&decide (f.rb=g.rb)&&decide (f.dst=g.dst) then ifs (vcs++vs) (Gc ops σ fs j K l) else none
   |none=>none
  |_,_=>none
def Kw{R:Type}(lt:Option (List Nat×Nat))(ops:Array Oper)(σ:St)(fs:List aV)(K:Option R):Option R:=
 match lt with
 |none=>K
 |some (l,j)=>Gc P G gl ops σ fs j K l
def On{R:Type}(lt:Option (List Nat×Nat))(ops:Array Oper)(draw:Bool)(σ:St)(k:St→Option R)(fs:List aV)(σ':St):Option R:=
 if draw then(if lS lt ops fs.reverse&&iU σ fs.reverse then Kw P G gl lt ops σ fs.reverse (k σ') else none) else k σ'
def HH(fs:List aV):Bool:=fs.all fun f=>f.hw.isEmpty
def Kx{R:Type}(ops:Array Oper)(draw:Bool)(σ:St)(k:fV→St→Option R)(fs:List aV)(f:aV)(σp:St):Option R:=
 if Nat.blt (σ.hp.length -1) σ.hp.length&&f.v.plain then
  nJ P G gl ops draw (σ.hp.length -1) fs.length (if draw then ry ops.toList [] else[]) (fun gs=>
   if draw then(if lS none ops (jJ fs.reverse f (σ.hp.length -1) gs)&&iU σ (jJ fs.reverse f (σ.hp.length -1) gs) then k (.panic f.v) (vb fs.reverse f (σ.hp.length -1) gs σ) else none)
   else k (.panic f.v) (vb fs.reverse f (σ.hp.length -1) gs σ)) (ops.size -fs.length -1) (fs.length+1) (σp.app (uZ f (σ.hp.length -1))) [] else none
def DR(ops:Array Oper)(draw:Bool)(σ:St):Option St:=
 match draw,ops with
 |
  false,⟨[o0,o1]⟩=>if lk o0.op then none else match eg P G gl ops XA [] σ 0 with
  |
   some (f,[],_)=>match f.fr.all σ.fG,o1.op,o1.guard,o1.dst with
   |
    true,.defer {callee:=.value x,args:=⟨[]⟩,argTypes:=⟨[]⟩},none,none=>match bP gl (σ.app f).tm x with
    | .func fn .nil cs=>some {σ.app f with df:=.func fn .nil cs::(σ.app f).df}
    |_=>none
   |_,_,_,_=>none
  |_=>none
 |_,_=>none
def DT(ops:Array Oper):Option (Nat×Nat×Nat):=
 match ops with
 |
  ⟨[o0,o1]⟩=>match o0.op,o0.guard,o0.dst,o1.op,o1.guard,o1.dst with
  | .next (.tmp s) false,none,some d,.extract (.tmp d') 0,none,some d1=>if Nat.beq d' d then some (s,d,d1) else none
  |_,_,_,_,_,_=>none
 |_=>none
def Kz(s d d1:Nat){R:Type}(σ:St)(k:fV→St→Option R):Option R:=
 match σ.tm[s]? with
 |
  some (.ptr b [])=>match eG σ.hp b with
  |
   some (.ko kt vt rest _)=>if Nat.blt d σ.tm.length then(if rest.isEmpty=true then k .normal ((σ.put (some d) .bot).put (some d1) (.val .bool false))
   else th rest fun x l=>k .normal ((({σ with hp:=σ.hp.set b (some (.ko kt vt l (some x)))}:St).put (some d) .bot).put (some d1) (.val .bool true))) else none
  |_=>none
 |_=>none
def qi(ops:Array Oper)(draw:Bool)(zs:List (Nat×Nat×Ty))(cs:List CH)(mg:Option (List (Nat×Ty)))(lt:Option (List Nat×Nat)){R:Type}(σ:St)(k:fV→St→Option R):Option R:=
 if Ok ops then(if fr then(match DR P G gl ops draw σ with
  |some σ'=>k .normal σ'
  |none=>none) else none) else
 match if draw then none else DT ops with
 |some (s,d,d1)=>Kz s d d1 σ k
 |none=>match mg with
 |none=>lh P G gl Γ ops zs (On P G gl lt ops draw σ (k .normal)) (Kx P G gl ops draw σ k) ops.size 0 cs σ []
 |some l=>Option.bind (lh P G gl Γ ops zs (fun fs σ'=>if HH fs then On P G gl lt ops draw σ (fun σ'=>(mgG l σ'.tm).map (Sg (TP l))) fs σ' else none) (fun _ _ _=>none) ops.size 0 cs σ []) fun d=>k .normal (XF ops l σ d)
def KA{R:Type}:List (Nat×Nat)→St→(St→Option R)→Option R
 |[],σ,K=>K σ
 |
  (b,s)::l,σ,K=>match σ.tm[s]?,eG σ.hp b with
  |
   some (.val (.int _) n),some (.row _ _ _ xs)=>ifs [vc (0≤n),vc (n<xs.length)] (match yn b n.toNat σ with
   |some σ'=>KA l σ' K
   |none=>none)
  |
   some (.ptr c [.idx i]),some (.row _ _ _ _)=>if Nat.beq c b then(match yn b i σ with
   |some σ'=>KA l {σ' with tm:=σ'.tm.set s (.ptr b [.cV 1])} K
   |none=>none) else none
  |_,_=>none
def IY{R:Type}:List PF→St→(St→Option R)→Option R
 |[],σ,K=>K σ
 |
  .row b d k::l,σ,K=>match k.get σ,eG σ.hp b with
  |
   some (.val (.int _) n),some (.dh _ _ _ xs _ _)=>ifs [vc (0≤n),vc (n<xs.length)] (match Lg b n.toNat d σ with
   |some σ'=>IY l σ' K
   |none=>none)
  |_,_=>none
 |
  .map mode b d k::l,σ,K=>match k.get σ with
  |
   some (.val t x)=>match Li mode b d t x σ with
   |some (vcs,σ')=>ifs vcs (IY l σ' K)
   |none=>none
  |_=>none
 |
  .eK b::l,σ,K=>match oQ b σ with
  |some σ'=>IY l σ' K
  |none=>none
 |
  .Xz b k::l,σ,K=>match k.get σ with
  |
   some (.val t x)=>match J8 b t x σ with
   |some σ'=>IY l σ' K
   |none=>none
  |_=>none
 |
  .Wq b::l,σ,K=>match eG σ.hp b with
  |some (.gu e bs t xs)=>sF xs fun ys=>IY l {σ with hp:=σ.hp.set b (some (.row e bs t ys))} K
  |_=>none
def Sn{R:Type}(l:List Gh)(k:fV→St→Option R):fV→St→Option R
 |
  .normal,σ=>match Wm l σ with
  |some σ'=>k .normal σ'
  |none=>none
 |e,σ=>k e σ
def dig:Nat→Nat→List Nat
 |0,_=>[]
 |
  n+1,c=>match c with
  |0=>[]
  |c=>(c % 1000 -1)::dig n (c / 1000)
def XG(H:Hs)(id:Nat):Option (List Nat×Nat):=match XE H.unr (1000000+id) with
 |some c=>some (dig 9 (c / 1000),c % 1000 -1)
 |none=>none
def zo(id:Nat)(ops:Array Oper)(draw:Bool){R:Type}(σ:St)(k:fV→St→Option R):Option R:=
 match XE H.reg id with
 |none=>qi P G gl fr Γ ops draw [] [] none (XG H id) σ k
 |
  some rh=>match Wm rh.pre σ with
  |some σ0=>KA rh.foc σ0 fun σ0=>IY rh.pf σ0 fun σ0=>qi P G gl fr Γ ops draw rh.zs rh.cs rh.mg (XG H id) σ0 (Sn rh.post k)
  |none=>none
def toJ{R:Type}(S:SS)(k:fV→St→Option R):fV→St→Option (cH S.T R)
 | .normal,σ=>(S.tR σ).map .bA
 |e,σ=>cw (k e σ)
def toB{R:Type}(id:Nat)(S:SS)(k:fV→St→Option R):fV→St→Option (cH S.T R)
 | .normal,σ=>(S.tR σ).map .bA
 | .exit i,σ=>if Nat.beq i id then(S.tR σ).map .bA else cw (k (.exit i) σ)
 |e,σ=>cw (k e σ)
def unB{R:Type}(id:Nat)(k:fV→St→Option R):fV→St→Option R
 | .exit i,σ=>if Nat.beq i id then k .normal σ else k (.exit i) σ
 |e,σ=>k e σ
def Ge{R:Type}(w:St→(fV→St→Option R)→Option R)(k:fV→St→Option R):Nat→St→Option R
 |0,_=>none
 |
  n+1,σ=>w σ fun e σ'=>match e with
  | .normal=>Ge w k n σ'
  |e=>k e σ'
end
section
variable(P:Program) (G:cd) (I:List IC) (H:Hs) (Γ:List aX)
def walk:Code→Ctx→Bool→{R:Type}→St→(fV→St→Option R)→Option R
 | .skip,_,_,_,σ,k=>k .normal σ
 | .label _,_,_,_,σ,k=>k .normal σ
 | .scope c,gl,fr,_,σ,k=>walk c gl fr σ k
 | .exit i,_,_,_,σ,k=>k (.exit i) σ
 | .ret,_,_,_,σ,k=>k .ret σ
 | .region id ops draw,gl,fr,_,σ,k=>zo P G gl fr H Γ id ops draw σ k
 |
  .seq x z,gl,fr,_,σ,k=>match Oj H.join z with
  |
   none=>walk x gl fr σ fun e σ'=>match e with
   | .normal=>walk z gl fr σ' k
   |e=>k e σ'
  |some S=>aH (walk x gl fr σ (toJ S k)) fun d=>walk z gl fr (S.st y0 d) k
 |
  .cond c x z,gl,fr,_,σ,k=>match bP gl σ.tm c with
  | .val .bool b=>if b=true then walk x gl fr σ k else walk z gl fr σ k
  |_=>none
 |
  .block id c,gl,fr,_,σ,k=>match XE H.cX id with
  |none=>walk c gl fr σ (unB id k)
  |some S=>aH (walk c gl fr σ (toB id S k)) fun d=>k .normal (S.st y0 d)
 |
  .loop c,gl,fr,_,σ,k=>match Oj H.unr c with
  |some n=>Ge (fun σ k=>walk c gl fr σ k) k n σ
  |
   none=>match Oj H.loop c with
   |none=>none
   |
    some L=>match L.S.tR σ with
    |none=>none
    |
     some u=>aK (fun rec u=>walk c gl fr (L.S.st y0 u) fun e σ'=>match e with
     | .normal=>Option.bind (L.S.tR σ') rec
     |e=>k e σ') (L.fuel u) u
 |
  .rangeFunc g ps assign body,gl,fr,_,σ,k=>if fr then(match Oj H.C0 body with
  |none=>none
  |
   some rh=>match I[rh.ic]?,rh.S.tR σ with
   |
    some C,some u=>match bP gl (rh.S.st y0 u).tm g with
    |
     .func (.func gf) .nil cs=>if TN (rh.S.st y0 u) rh C cs then
      vr fun y=>TO (rh.S.st y0 u) y rh gf cs (C.Wp y.l (Wr y rh C ps (rh.S.st y0 u) (fun σ1 k1=>walk assign (gl.tj y.l) false σ1 k1) (fun σ1 k1=>walk body (gl.tj y.l) false σ1 k1))) k
     else none
    |_=>none
   |_,_=>none) else none
 |_,_,_,_,_,_=>none
end
theorem vw:∀{l:List Oper}{tm:List AV},(forget l tm).length=tm.length
 |[],_=>rfl
 |
  o::l,tm=>by
  unfold forget
  rw[vw]
  split<;>simp
theorem vz{i:Nat}{x:AV}:∀{l:List Oper}{tm:List AV},(forget l tm)[i]? =some x→x= .bot∨(tm[i]? =some x∧∀o∈l,o.dst≠some i)
 |[],_,h=>Or.inr ⟨h,fun _ ho=>by cases ho⟩
 |
  o::l,tm,h=>by
  unfold forget at h
  rcases vz h with h|⟨h,hl⟩<;>grind
theorem KB:∀{l:List (Nat×Ty)}{tm:List AV}{d:prod (TP l)},mgG l tm=some d→∀i x,(i,x)∈mgV l d→tm[i]? =some x
 |[],_,_,_,i,x,hx=>by cases hx
 |
  (j,t)::l,tm,d,h,i,x,hx=>by
  unfold mgG at h
  split at h
  ·rename_i u z hz
   split at h
   ·rename_i hs
    split at h
    ·rename_i d' hd'
     cases h
     simp only[mgV,fJ,gU] at hx
     rcases hx with⟨rfl,rfl⟩|hx
     ·rw[hz,xT hs]
     ·exact KB hd' i x hx
    grind
   grind
  grind
theorem B5{P:Program}{gl:Ctx}{ops:Array Oper}:∀{fs:List aV}{i:Nat}{σ σ':St},pO P gl ops i fs σ σ'→HH fs=true→(∀(k:Nat)(f:aV)(o:Oper),fs[k]? =some f→ops[i+k]? =some o→f.dst=o.dst)→i+fs.length≤ops.size→
 σ'.hp=σ.hp∧σ'.df=σ.df∧σ'.tm.length=σ.tm.length∧∀t,(∀o∈ops.toList,o.dst≠some t)→σ'.tm[t]? =σ.tm[t]?
 |[],i,σ,σ',h,_,_,_=>by simp_all[cu]
 |
  f::fs,i,σ,σ',⟨_,_,h3⟩,hn,hd,hl=>by
  simp only[HH,List.all_cons,bB,List.isEmpty_iff] at hn
  obtain⟨a,b,c,d⟩:=B5 h3 (by simpa[HH] using hn.2) (fun k f' o h1 h2=>hd (k+1) f' o (by grind) (by grind)) (by grind)
  refine⟨by rw[a,g7,hn.1];rfl,by rw[b,uO],by rw[c,rq],?_⟩
  intro t ht
  rw[d t ht]
  have hlt:i<ops.size:=by grind
  have:=hd 0 f ops[i] rfl (by grind)
  grind [g8]
theorem map_some{α β:Type}{x:Option α}{f:α→β}{r:β}(h:x.map f=some r):∃a,x=some a∧f a=r:=by
 simp_all
theorem cZ.XH{P:Program}{gl:Ctx}{c:Code}{σ:St}{Q:fV→St→Prop}(h:cZ P gl c σ (fun e σ'=>match e with| .panic v=>Q (.panic v) σ'|e=>∃σ2,Wk gl σ' σ2∧Q e σ2)):cZ P gl c σ Q:=by
 intro E a w hg
 refine wpIn_mono (h E a w hg) ?_
 rintro ex a' w' ⟨x,σ',E',h1,h2,h3,h4⟩
 cases x with
 |panic v=>exact⟨_,σ',E',h1,h2,h3,h4⟩
 |
  normal=>
  obtain⟨σ2,hw,hq⟩:=h2
  obtain⟨E2,g2,x2⟩:=hw E' a' w' h3
  cases ex<;>first|exact h1.elim|exact⟨.normal,σ2,E2,trivial,hq,g2,h4.trans x2⟩
 |
  exit i=>
  obtain⟨σ2,hw,hq⟩:=h2
  obtain⟨E2,g2,x2⟩:=hw E' a' w' h3
  cases ex<;>first|trivial|exact⟨.exit i,σ2,E2,h1,hq,g2,h4.trans x2⟩
 |
  ret=>
  obtain⟨σ2,hw,hq⟩:=h2
  obtain⟨E2,g2,x2⟩:=hw E' a' w' h3
  cases ex<;>first|trivial|exact⟨.ret,σ2,E2,trivial,hq,g2,h4.trans x2⟩
section
variable{P:Program} {G:cd} (T:bM P G) {gl:Ctx} {fr:Bool} {H:Hs} {Γ:List aX} (hΓ:∀C∈Γ,C.holds P gl)
include T hΓ
omit hΓ T in
theorem vA{l:List VC}:∀{vs:List VC},dQ (vs++l)→dQ vs∧dQ l
 |[],h=>⟨trivial,h⟩
 |_::_,h=>⟨⟨h.1,(vA h.2).1⟩,(vA h.2).2⟩
omit hΓ T in
theorem KC{a b:AV}{l:List VC}(h:Kv a b=some l)(hv:dQ l):a=b:=by
 unfold Kv at h
 split at h
 ·split at h
  ·rename_i hs
   cases h
   have:=Ty.aB hs
   subst this
   have e:=hv.1
   simp only[qf] at e
   rw[e]
  ·cases h
 ·rfl
 ·split at h
  ·rename_i hb;rw[bT hb]
  ·cases h
 ·split at h
  ·rename_i hb
   simp only[bB] at hb
   rw[bT hb.1,vu hb.2]
  ·cases h
 ·cases h
omit hΓ in
theorem B6{ops:Array Oper}{R:Type}{σ:St}{fs:List aV}{j:Nat}{K:Option R}{r:R}:∀{l:List Nat},Gc P G gl ops σ fs j K l=some r→(∀i f,i∈l→fs[i]? =some f→oM P gl ops i f (cN (fun x=>decide (x<j+1)) 0 fs σ))∧K=some r
 |[],h=>⟨fun i f hi=>(by cases hi),h⟩
 |
  i::l,h=>by
  unfold Gc at h
  split at h
  ·cases h
  rename_i hno
  split at h
  ·rename_i f g vcs ob hf hs
   split at h
   ·rename_i l hl
    obtain⟨hc,h⟩:=bW h
    obtain⟨hv,h⟩:=fk h
    obtain⟨ih,hk⟩:=B6 h
    simp only[bB,List.isEmpty_iff,mo] at hc
    obtain⟨⟨⟨⟨⟨⟨c1,c2⟩,c3⟩,c4⟩,c5⟩,c6⟩,c7⟩:=hc
    have hv1:=vA hv
    have ev:=KC hl hv1.2
    have e:f=g:=by
     cases f;cases g;simp_all
    refine⟨fun i' f' e1 e2=>?_,hk⟩
    rcases List.mem_cons.1 e1 with rfl|e1
    ·rw[hf] at e2
     cases e2
     rw[e]
     exact kL T rfl hs hv1.1 (kH hs fun h=>absurd h hno)
    ·exact ih i' f' e1 e2
   ·cases h
  ·cases h
omit hΓ in
theorem KD{lt:Option (List Nat×Nat)}{ops:Array Oper}{R:Type}{σ:St}{fs:List aV}{K:Option R}{r:R}(h:Kw P G gl lt ops σ fs K=some r):(∀l i j f,lt=some (l,j)→i∈l→fs[i]? =some f→oM P gl ops i f (cN (fun x=>decide (x<j+1)) 0 fs σ))∧K=some r:=by
 unfold Kw at h
 split at h
 ·exact⟨fun l i j f e=>(by cases e),h⟩
 ·rename_i l j
  obtain⟨h1,h2⟩:=B6 T h
  refine⟨fun l' i j' f e hi hf=>?_,h2⟩
  cases e
  exact h1 i f hi hf
omit hΓ in
theorem Gf{lt:Option (List Nat×Nat)}{ops:Array Oper}{draw:Bool}{R:Type}{σ σ':St}{k:St→Option R}{fs:List aV}{r:R}(h:On P G gl lt ops draw σ k fs σ'=some r):(draw=true→(lS lt ops fs.reverse&&iU σ fs.reverse)=true∧∀l i j f,lt=some (l,j)→i∈l→fs.reverse[i]? =some f→oM P gl ops i f (cN (fun x=>decide (x<j+1)) 0 fs.reverse σ))∧k σ'=some r:=by
 unfold On at h
 cases draw with
 |false=>exact⟨fun e=>(uE e).elim,h⟩
 |
  true=>
  rw[aA rfl] at h
  obtain⟨h1,h2⟩:=bW h
  obtain⟨h3,h4⟩:=KD T h2
  exact⟨fun _=>⟨h1,h3⟩,h4⟩
omit hΓ in
theorem HI{id:Nat}{ops:Array Oper}{draw:Bool}{σ σ':St}{Q:fV→St→Prop}(hro:gl.ro=none)(h:DR P G gl ops draw σ=some σ')(hq:Q .normal σ'):cZ P gl (.region id ops draw) σ Q:=by
 unfold DR at h
 split at h
 ·rename_i o0 o1
  split at h
  ·cases h
  rename_i hcl
  split at h
  ·rename_i f ob h0
   split at h
   ·rename_i x hfr ho hg hd
    split at h
    ·rename_i fn cs hv
     cases h
     intro E a w hgm
     refine wpIn_region ?_
     show wpOpsIn _ _ _ _ _ [0,1] _ _
     rw[wpOpsIn_cons]
     have hob:∀p∈ob,p:=kH h0 (fun e=>absurd e (by trivial))
     refine kL T rfl h0 trivial hob σ (iT.refl _ _ _) (fun d hd=>St.ee ((List.all_eq_true.1 hfr) d hd)) E a w hgm _ _ ?_
     intro E1 a1 w1 hg1 hx1
     rw[wpOpsIn_cons]
     have e1:(#[o0,o1]:Array Oper)[1]? =some o1:=rfl
     unfold wpOpIn
     simp only[e1]
     have hw:Region.wanted o1 (yielded #[o0,o1] a1.tmps)=true:=by simp[Region.wanted,hg]
     rw[aA hw]
     have hv1:=gv hg1 x
     rw[hv] at hv1
     obtain⟨f',c',ev,r1,r2,r3,r4⟩:∃f' c',a1.eval x= .func fn f' c'∧RC E1 w1 .nil f'.toList∧RC E1 w1 cs c'.toList∧AV.nil.atoms=true∧cs.atoms=true:=by
      rcases RV.iZ rfl hv1 with⟨hh,_⟩|⟨_,hh⟩
      ·cases hh
      ·obtain⟨f',c',e,q⟩:=hh
       grind
     have hf':f'= #[]:=by apply lQ;trivial
     subst hf'
     refine⟨fun _ _=>trivial,?_⟩
     have hs:(o1.semAt (Wd gl).round a1.eval).run P w1= .ok (.defer {target:=.fn fn c',args:= #[]}) w1:=by
      simp_all[Oper.semAt_none,execOp,resolve,Deferred.ofValue]
     rw[hs,Oper.uponIn_defer,hd]
     have hg2:cp gl {σ.app f with df:=.func fn .nil cs::(σ.app f).df} E1 {a1 with defers:={target:=.fn fn c',args:= #[]}::a1.defers} w1:=
      ⟨hg1.len,hg1.tm,hg1.hw,⟨⟨#[],c',rfl,r1,r2,r3,r4⟩,hg1.df⟩⟩
     exact⟨.normal,_,E1,trivial,hq,hg2,hx1⟩
    grind
   grind
  grind
 grind
omit T hΓ in
theorem KE{id:Nat}{ops:Array Oper}{s d d1:Nat}(hn:DT ops=some (s,d,d1)){R:Type}{σ:St}{k:fV→St→Option R}{r:R}(h:Kz s d d1 σ k=some r):cZ P gl (.region id ops false) σ (fun e σ'=>k e σ'=some r):=by
 unfold DT at hn
 split at hn
 ·rename_i o0 o1
  split at hn
  ·rename_i s' d' d'' d1' h0 hg0 hd0 h1 hg1 hd1
   obtain⟨hd,hn⟩:=bW hn
   cases hn
   have hd:=bT hd
   subst hd
   unfold Kz at h
   split at h
   ·rename_i b hs
    split at h
    ·rename_i kt vt rest cur hb
     obtain⟨hl,h⟩:=bW h
     refine cZ.next h0 hg0 hd0 h1 hg1 hd1 hs (cq _ b _ hb) hl ?_ ?_
     ·grind
     ·intro i hi
      rw[aC (by grind)] at h
      exact HA h i hi
    grind
   grind
  grind
 grind
variable(hro:fr=true→gl.ro=none)
include hro
theorem sM{id:Nat}{ops:Array Oper}{draw:Bool}{zs:List (Nat×Nat×Ty)}{cs:List CH}{mg:Option (List (Nat×Ty))}{lt:Option (List Nat×Nat)}{R:Type}{σ:St}{k:fV→St→Option R}{r:R}(h:qi P G gl fr Γ ops draw zs cs mg lt σ k=some r):cZ P gl (.region id ops draw) σ (fun e σ'=>k e σ'=some r):=by
 have key:∀{gs:List aV}{σ':St}{Q:fV→St→Prop},pO P gl ops 0 gs σ σ'→gs.length=ops.size→(draw=true→(lS lt ops gs&&iU σ gs)=true∧∀l i j f,lt=some (l,j)→i∈l→gs[i]? =some f→oM P gl ops i f (cN (fun x=>decide (x<j+1)) 0 gs σ))→Q .normal σ'→cZ P gl (.region id ops draw) σ Q:=by
  intro gs σ' Q hc hn gx hq
  cases draw with
  |false=>exact fun E _ _ hg=>Ds hn hc hg (fun E' _ _ h1 h2=>⟨.normal,σ',E',trivial,hq,h1,h2⟩)
  |
   true=>
   obtain⟨gx,hL⟩:=gx rfl
   simp only[bB] at gx
   exact fun E _ _ hg=>Du T gx.1 gx.2 hL hc hg (fun E' _ _ h1 h2=>⟨.normal,σ',E',trivial,hq,h1,h2⟩)
 unfold qi at h
 split at h
 ·obtain⟨hf,h⟩:=bW h
  grind [HI]
 split at h
 ·rename_i s d d1 hn
  cases draw with
  |true=>grind
  |false=>rw[aC uE] at hn;exact KE hn h
 split at h
 ·rcases oS T hΓ h with⟨gs,σ',hc,hn,_,hk⟩|⟨gs,f,σ',hc,hn,hp,hk⟩
  ·simp only[dW] at hk
   obtain⟨h1,h2⟩:=Gf T hk
   simp only[List.reverse_reverse] at h1
   exact key hc hn h1 h2
  ·simp only[dW] at hk
   unfold Kx at hk
   simp only[List.reverse_reverse,List.length_reverse] at hk
   obtain⟨h1,h2⟩:=bW hk
   simp only[bB] at h1
   rw[dV] at hp
   have hz:σ.hp.length -1<σ.hp.length:=by simp_all
   obtain⟨ms,σe,k1,k2,k3,k4⟩:=oT T h2
   simp only[List.reverse_nil,oo] at k4
   have hze:(σ'.app (uZ f (σ.hp.length -1))).hp[σ.hp.length -1]? =some (some DJ):=by
    rw[g7]
    simp only[uZ,aR,dm,bU]
    rw[aA (by rw[cu.hl hc];exact hz)]
   have k1:=k1 hze
   cases draw with
   |false=>exact vf T hc hp k1 k3 hz (by omega) (fun e=>(uE e).elim) h1.2 k4
   |
    true=>
    rw[aA rfl] at k4
    obtain⟨q3,q4⟩:=bW k4
    grind [vf]
 ·rename_i l
  obtain⟨d,hd,h⟩:=bind_some h
  rcases oS T hΓ hd with⟨gs,σ',hc,hn,hdst,hk⟩|⟨_,_,_,_,_,_,hk⟩
  case inr=>cases hk
  simp only[dW] at hk
  obtain⟨hw,hk⟩:=bW hk
  obtain⟨h1,h2⟩:=Gf T hk
  simp only[List.reverse_reverse] at h1
  have hw':HH gs=true:=by simpa[HH] using hw
  obtain⟨e1,e2,e3,e4⟩:=B5 hc hw' hdst (by omega)
  obtain⟨t,ht,rfl⟩:=map_some h2
  refine cZ.XH (key hc hn h1 ⟨_,?_,h⟩)
  grind [Wk.sub,XF,oR,vw,qe,lf,KB,vz]
omit T hΓ hro in
theorem zp{R:Type}{r:R}{K:St→Option R}:∀{l:List (Nat×Nat)}{σ:St},KA l σ K=some r→∃σ',Wk gl σ σ'∧K σ'=some r
 |[],σ,h=>⟨σ,Wk.refl gl σ,h⟩
 |
  (b,s)::l,σ,h=>by
  unfold KA at h
  split at h
  ·rename_i k n e bs t xs hs hb
   obtain⟨hv,h⟩:=fk h
   split at h
   ·rename_i σ1 h1
    obtain⟨σ',h2,h3⟩:=zp h
    refine⟨σ',Wk.trans (Wk.ady h1 ?_) h2,h3⟩
    intro e' bs' t' xs' hb'
    rw[hb] at hb'
    cases hb'
    exact(Int.toNat_lt hv.1).2 hv.2.1
   ·cases h
  ·rename_i c i e bs t xs hs hb
   obtain⟨hc,h⟩:=bW h
   have hc:=bT hc
   subst hc
   split at h
   ·rename_i σ1 h1
    obtain⟨σ',h2,h3⟩:=zp h
    exact⟨σ',Wk.trans (Wk.adz hs h1) h2,h3⟩
   ·cases h
  ·cases h
omit T hΓ hro in
theorem cZ.Wq{c:Code}{σ:St}{Q:fV→St→Prop}{b:Nat}{e:TypeId}{bs:Nat}{t:Ty}{xs:List t.den}(hb:σ.hp[b]? =some (some (.gu e bs t xs)))
 (h:∀ys:List t.den,ys.Perm xs→cZ P gl c {σ with hp:=σ.hp.set b (some (.row e bs t ys))} Q):cZ P gl c σ Q:=by
 intro E a w hg
 obtain⟨ys,hp,g1⟩:=hg.Xi hb
 have x1:Ext gl.md (bK σ.hp E) E w (bK (σ.hp.set b (some (.row e bs t ys))) E) E w:=by rw[bK.same hb];exact Ext.refl _ _ _
 refine wpIn_mono (h ys hp E a w g1) ?_
 rintro ex a2 w2 ⟨x,σ2,E2,h1,h2,h3,h4⟩
 exact⟨x,σ2,E2,h1,h2,h3,x1.trans h4⟩
omit T hΓ hro in
theorem rI{R:Type}{r:R}{K:St→Option R}{c:Code}{Q:fV→St→Prop}(hK:∀σ',K σ'=some r→cZ P gl c σ' Q):∀{l:List PF}{σ:St},IY l σ K=some r→cZ P gl c σ Q
 |[],σ,h=>hK σ h
 |
  .row b d k::l,σ,h=>by
  unfold IY at h
  split at h
  ·rename_i kk n e bs t xs e2 f hs hb
   obtain⟨hv,h⟩:=fk h
   split at h
   ·rename_i σ1 h1
    refine cZ.wk (Wk.Lg h1 ?_) (rI hK h)
    intro e' bs' t' xs' e2' f' hb'
    rw[hb] at hb'
    cases hb'
    exact(Int.toNat_lt hv.1).2 hv.2.1
   grind
  grind
 |
  .map mode b d k::l,σ,h=>by
  unfold IY at h
  split at h
  ·rename_i t x hs
   split at h
   ·rename_i vcs σ1 h1
    obtain⟨hv,h⟩:=fk h
    exact cZ.wk (Wk.Li h1 hv) (rI hK h)
   grind
  grind
 |
  .eK b::l,σ,h=>by
  unfold IY at h
  split at h
  ·rename_i σ1 h1
   exact cZ.wk (Wk.oQ h1) (rI hK h)
  grind
 |
  .Xz b k::l,σ,h=>by
  unfold IY at h
  split at h
  ·rename_i t x hs
   split at h
   ·rename_i σ1 h1
    exact cZ.wk (Wk.J8 h1) (rI hK h)
   grind
  grind
 |
  .Wq b::l,σ,h=>by
  unfold IY at h
  split at h
  ·rename_i e bs t xs hk
   exact cZ.Wq (cq σ.hp b _ hk) (fun ys hp=>rI hK (DB h hp))
  grind
theorem DU{id:Nat}{ops:Array Oper}{draw:Bool}{R:Type}{σ:St}{k:fV→St→Option R}{r:R}(h:zo P G gl fr H Γ id ops draw σ k=some r):cZ P gl (.region id ops draw) σ (fun e σ'=>k e σ'=some r):=by
 unfold zo at h
 split at h
 ·exact sM T hΓ hro h
 ·split at h
  ·rename_i σ0 h0
   obtain⟨σ1,h1,h2⟩:=zp (gl:=gl) h
   refine cZ.post (cZ.gh _ h0 (cZ.wk h1 (rI (fun σ2 h4=>sM T hΓ hro h4) h2))) ?_ ?_
   ·intro e σ' hne he
    cases e with
    |normal=>grind
    |_=>exact he
   grind [Sn,DD]
  grind
omit hΓ T hro in
theorem KF{c:Code}{R:Type}{w:St→(fV→St→Option R)→Option R}(ih:∀{σ:St}{k:fV→St→Option R}{r:R},w σ k=some r→cZ P gl c σ (fun e σ'=>k e σ'=some r)){k:fV→St→Option R}{r:R}{n:Nat}{σ:St}
 (h:Ge w k n σ=some r):cZ P gl (.loop c) σ (fun e σ'=>k e σ'=some r):=by
 refine cZ.loop (fun n σ=>Ge w k n σ=some r) ?_ h
 intro n σ1 hn
 cases n with
 |zero=>cases hn
 |
  succ n=>
  refine cZ.mono (ih hn) ?_
  intro e σ2 he
  cases e with
  |normal=>exact⟨n,Nat.lt_succ_self n,he⟩
  |_=>exact he
omit hΓ T hro in
theorem KG{c:Code}{R U:Type}{r:R}{k:fV→St→Option R}{F:(U→Option R)→U→Option R}{st:U→St}{tR:St→Option U}(hm:∀σ u,tR σ=some u→Wk gl σ (st u))
 (ih:∀{rec:U→Option R}{u:U},F rec u=some r→cZ P gl c (st u) (fun e σ'=>(match e with| .normal=>Option.bind (tR σ') rec|e=>k e σ')=some r)) {n:Nat} {σ:St} {u:U} (hu:tR σ=some u)
 (h:aK F n u=some r):cZ P gl (.loop c) σ (fun e σ'=>k e σ'=some r):=by
 refine cZ.loop (fun n σ=>∃u,Wk gl σ (st u)∧aK F n u=some r) ?_ ⟨u,hm σ u hu,h⟩
 rintro n σ1 ⟨u1,hw,hn⟩
 cases n with
 |zero=>cases hn
 |
  succ n=>
  refine cZ.wk hw (cZ.mono (ih hn) ?_)
  intro e σ2 he
  cases e with
  |
   normal=>
   obtain⟨u2,h1,h2⟩:=bind_some he
   exact⟨n,Nat.lt_succ_self n,u2,hm σ2 u2 h1,h2⟩
  |_=>exact he
end
theorem Fy.up{P:Program}{C C':Ctx}{l:Nat}{A:List AV}{H H':List (Option aP)}{r:xa}(hg:C'.gl=C.gl)(hC:∀S w,C.B S w)(h:Fy P C l A H r H')(hm:C'.md=C.md):Fy P C' l A H r H':=by
 intro E w vs hv hw
 obtain⟨fn,tm,asz,bd,h1,h2⟩:=h E w vs hv (hw.ctx hg.symm (hC _ _))
 refine⟨fn,tm,asz,bd,h1,RoundIn.mono h2 ?_⟩
 rintro e w' ⟨E',r1,r2,r3⟩
 rw[←hm] at r3
 exact⟨E',r1,r2.ctx hg (hw.gZ (hw.kept r3)).2,r3⟩
theorem JV.up{P:Program}{C C':Ctx}{fn:Fn}{A:List AV}{H H':List (Option aP)}{r:xa}(hg:C'.gl=C.gl)(hC:∀S w,C.B S w)(h:JV P C fn A H r H')(hm:C'.md=C.md):JV P C' fn A H r H':=by
 cases fn with
 |func f=>exact Fc.up hg hC h hm
 |yield l=>exact Fy.up hg hC h hm
 |_=>trivial
theorem aX.holds.up{P:Program}{gl gl':Ctx}{C:aX}(h:C.holds P gl)(hg:gl'.gl=gl.gl)(hB:∀S w,gl.B S w)(hm:gl'.md=gl.md:=by rfl):C.holds P gl':=
 ⟨fun d r hd=>JV.up hg hB (h.ret d r hd) hm,fun d x hd=>JV.up hg hB (h.kq d x hd) hm⟩
theorem Fy.less{P:Program}{C:Ctx}{l:Nat}{A:List AV}{H H1 H2:List (Option aP)}{r:xa}(h:Fy P C l A H r H1)(hs:∀(b:Nat)(k:aP),H2[b]? =some (some k)→H1[b]? =some (some k)):Fy P C l A H r H2:=by
 intro E w vs hv hw
 obtain⟨fn,tm,asz,bd,h1,h2⟩:=h E w vs hv hw
 refine⟨fn,tm,asz,bd,h1,RoundIn.mono h2 ?_⟩
 rintro e w' ⟨E',r1,r2,r3⟩
 exact⟨E',r1,r2.less hs,{r3 with own:=fun g ⟨b,k,hb,hg⟩=>r3.own g ⟨b,k,hs b k hb,hg⟩}⟩
theorem yc:∀{l H:List (Option aP)},H.length≤l.length→(∀(b:Nat)(k:aP),H[b]? =some (some k)→l[b]? =some (some k))→∃m,prune l m=H
 |l,[],_,_=>⟨[],by cases l<;>rfl⟩
 |[],x::H,h,_=>by simp at h
 |
  y::l,x::H,h,hs=>by
  obtain⟨m,hm⟩:=yc (l:=l) (H:=H) (by simpa using h) (fun b k hb=>by simpa using hs (b+1) k (by simpa using hb))
  cases x with
  |none=>exact⟨false::m,by simp[prune,hm]⟩
  |
   some k=>
   have:y=some k:=by simpa using hs 0 k rfl
   exact⟨true::m,by simp[prune,hm,this]⟩
theorem vC{gs:Nat→Nat}{ti:List (Nat×Ty)}:∀{l:List (Option aP)}{s i:Nat},(tie gs ti s l)[i]? =some none→l[i]? =some none
 |[],s,i,h=>by trivial
 |none::l,s,0,h=>rfl
 |some x::l,s,0,h=>by simp[tie] at h
 |none::l,s,i+1,h=>by simpa using vC (l:=l) (by simpa[tie] using h)
 |some x::l,s,i+1,h=>by simpa using vC (l:=l) (by simpa[tie] using h)
theorem KH{gs:Nat→Nat}{ti:List (Nat×Ty)}{i:Nat}{k k':aP}(h1:DQ (some k)=false)(h2:DQ (some k')=false)(h:mO gs ti i k=mO gs ti i k'):k=k':=by
 cases k with
 |
  var t v=>
  cases k' with
  |
   var t' v'=>
   grind [mO]
  |tv=>trivial
  |_=>grind [mO]
 |tv=>trivial
 |
  _=>
  cases k' with
  |var t' v'=>grind [mO]
  |tv=>trivial
  |_=>exact h
theorem Gg{y:YC}:∀{m:List (Nat×dj)}{l:List Type}{d:prod (iq m l)}{b:Nat}{k:aP},(b,k)∈oA y m d→∃s,(b,s)∈m
 |[],_,_,_,_,h=>by cases h
 |
  (i,s)::m,_,d,b,k,h=>by
  simp only[oA,fJ,gU] at h
  rcases h with⟨rfl,_⟩|h
  ·grind
  ·obtain⟨s',hs⟩:=Gg h
   exact⟨s',d7 _ hs⟩
theorem fp{m:Nat}{out:List (Nat×aP)}{b:Nat}{k:aP}(h:(dC m out)[b]? =some (some k)):(b,k)∈out:=by
 unfold dC at h
 rcases fA h with h|⟨_,h⟩<;>grind
theorem B7{m:Nat}{out:List (Nat×aP)}:(dC m out).length=m:=by unfold dC;rw[kC,jC]
theorem vD{i:Nat}:∀{out:List (Nat×aP)},i∈wrote (out.map fun x=>(x.1,some x.2))→∃k,(i,k)∈out
 |[],h=>by cases h
 |
  (j,k)::out,h=>by
  simp only[d8,wrote,fJ] at h
  rcases h with rfl|h
  ·grind
  ·obtain⟨k',hk⟩:=vD h
   exact⟨k',d7 _ hk⟩
theorem HJ{m i b:Nat}{x:aP}{out:List (Nat×aP)}(hi:∀k,(i,k)∉out)(hm:i<m):(dC m ((i,x)::out))[b]? =if b=i then some (some x) else(dC m out)[b]? :=by
 have hw:i∉wrote (out.map fun x=>(x.1,some x.2)):=by
  grind [vD]
 unfold dC
 simp only[d8,aR]
 split
 ·rename_i e
  subst e
  rw[eJ hw,dm,aA rfl,aA (by simpa using hm)]
 ·rename_i e
  exact iw (by simp) (by rw[dm,aC (fun e'=>e e'.symm)])
theorem KJ{gl:Ctx}{y:YC}{rh:Oe}{C:IC}{e:fV}{σ:St}{r:gm (Nat::iq C.R [])}(h:Ku y rh C e σ=some r):∃σE,TK rh.jl e=some (qR (Nat::iq C.R []) r).1∧Wk gl σ σE∧xd σE.hp=true∧C.m≤σE.hp.length∧
 ∀i x,(i,x)∈oA y0 C.R (qR (Nat::iq C.R []) r).2→(tie y.gs rh.ti 0 σE.hp)[i]? =some (some x):=by
 unfold Ku at h
 split at h
 ·rename_i j u hj hu
  obtain⟨hc,h⟩:=bW h
  simp only[bB] at hc
  split at h
  ·rename_i d hd
   cases h
   rw[qe]
   exact⟨_,hj,SS.iC hu,hc.1,fI hc.2,(DG y0 hd).1⟩
  grind
 grind
theorem TQ{P:Program}{gl Cx:Ctx}{y:YC}{rh:Oe}{C:IC}{ps:Array Tmp}{assign body:Code}{σ:St}{wA wB:St→(fV→St→Option (gm (Nat::iq C.R [])))→Option (gm (Nat::iq C.R []))}
 (hA:∀σ1 k1 r1,wA σ1 k1=some r1→cZ P (gl.tj y.l) assign σ1 (fun e σ'=>k1 e σ'=some r1)) (hB:∀σ1 k1 r1,wB σ1 k1=some r1→cZ P (gl.tj y.l) body σ1 (fun e σ'=>k1 e σ'=some r1))
 (hk:C.k0<C.m) (hR:(C.R.all fun x=> !Nat.beq x.1 C.k0)=true) (hof:DN P gl σ.tm ps assign body C.k0 rh.ti rh.m rh.jl Cx y):(C.Y y.l (Wr y rh C ps σ wA wB)).holds P Cx:=by
 refine⟨?_,fun _ _ h=>h.elim⟩
 intro d r hd
 have hd':Wr y rh C ps σ wA wB d=some r:=hd
 unfold Wr at hd'
 split at hd'
 case h_2=>cases hd'
 rename_i vcs H0 htok
 obtain⟨hv,hd'⟩:=fk hd'
 obtain⟨hc,hd'⟩:=bW hd'
 simp only[bB] at hc
 obtain⟨r0,hw,hd'⟩:=bind_some hd'
 split at hd'
 case h_2=>cases hd'
 rename_i vs H1 htok1
 obtain⟨hv1,hd'⟩:=fk hd'
 obtain⟨hto,hd'⟩:=bW hd'
 have er:=iR hd'
 obtain⟨t1,t2,t3,t4⟩:=tS htok hv
 obtain⟨u1,u2,u3,u4⟩:=tS htok1 hv1
 rw[B7] at u1
 have lX:(aR (List.replicate C.m none) (dq (oA y0 C.B (zi C.A d)))).length=C.m:=by rw[kC,jC]
 rw[lX] at t1
 have hnk:∀k,(C.k0,k)∉oA y0 C.R (qR (Nat::iq C.R []) r0).2:=by
  intro k hm
  obtain⟨s,hs⟩:=Gg hm
  have:=(List.all_eq_true.1 hR) _ hs
  simp_all
 have hX0:(dC C.m (oA y0 C.R (qR (Nat::iq C.R []) r0).2))[C.k0]? =some none:=by
  cases h:(dC C.m (oA y0 C.R (qR (Nat::iq C.R []) r0).2))[C.k0]? with
  |none=>grind [B7]
  |
   some x=>
   cases x with
   |none=>rfl
   |some k=>exact absurd (fp h) (hnk k)
 have h10:H1[C.k0]? =some none:=by
  grind [vC]
 have hX1:∀i:Nat,(dC C.m (oA y0 C.R (qR (Nat::iq C.R []) r0).2))[i]? =(tie y.gs rh.ti 0 H1)[i]? :=by
  intro i
  by_cases hi:i=C.m
  ·simp_all[nI]
  grind
 have hF:=hof (zh y0 C.A d) H0 H1 (qR (Nat::iq C.R []) r0).1 (bT hc.1) (t2 C.k0 (by omega) (by grind)).2 h10 hc.2 hto ?_
 ·show Fy P Cx y.l (zh y0 C.A d) (aR (List.replicate C.m none) (dq (oA y0 C.B (zi C.A d)))) (.ret (.val .bool (qR C.T r).1)) (dC C.m ((C.k0,.lp (qR C.T r).2.1 (qR C.T r).2.2.1)::oA y0 C.R (qR C.T r).2.2.2))
  have e1:qR C.T r=(Nat.beq (qR (Nat::iq C.R []) r0).1 0,y,(qR (Nat::iq C.R []) r0).1,(qR (Nat::iq C.R []) r0).2):=by rw[←er];exact qe C.T _
  rw[e1]
  have eX:(tie y.gs rh.ti 0 H0).set C.k0 (some (.lp y 0))=aR (List.replicate C.m none) (dq (oA y0 C.B (zi C.A d))):=by
   apply List.ext_getElem?
   intro i
   rw[dm]
   split
   ·simp_all[nI]
   grind
  rw[eX] at hF
  refine hF.less ?_
  intro b k hb
  rw[HJ hnk hk] at hb
  grind
 ·refine cZ.mono (hA _ _ _ hw) ?_
  intro e σ1 he
  cases e with
  |
   normal=>
   refine cZ.mono (hB _ _ _ he) ?_
   intro e σ2 he
   obtain⟨σE,q1,q2,q3,q4,q5⟩:=KJ (gl:=gl.tj y.l) he
   have hpr:∃m,prune σE.hp m=H1:=by
    refine yc (by grind) ?_
    intro b k hb
    have hx:=hX1 b
    rw[zm hb,dV] at hx
    have:=q5 b _ (fp hx)
    obtain⟨k0,p1,p2⟩:=iN this
    rw[dV] at p2
    rw[p1]
    have nt:∀{l:List (Option aP)}{k:aP},xd l=true→l[b]? =some (some k)→DQ (some k)=false:=by
     intro l k hn hk
     cases k with
     |tv g t v=>exact absurd hk (Ga hn b g t v)
     |_=>rfl
    rw[KH (nt u4 hb) (nt q3 p1) p2]
   obtain⟨m,hm⟩:=hpr
   cases e with
   |normal=>exact⟨by simpa[TK] using q1.symm,σE,m,q2,hm⟩
   |
    ret=>
    obtain⟨j1,c,j2,j3⟩:=yb q1
    refine⟨⟨j1,?_⟩,σE,m,q2,hm⟩
    grind [Sl]
   |
    exit i=>
    obtain⟨j1,c,j2,j3⟩:=yb q1
    refine⟨⟨j1,?_⟩,σE,m,q2,hm⟩
    rw[j2]
    cases c<;>simp[Kt] at j3
    rw[j3]
   |panic v=>trivial
  |_=>cases he
theorem XI{P:Program}{gl:Ctx}{σ:St}{g:Operand}{ps:Array Tmp}{assign body:Code}(hro:gl.ro=none){gf:FuncId}{cs:AV}(hg:bP gl σ.tm g= .func (.func gf) .nil cs){rh:Oe}{C:IC}(gx:TN σ rh C cs=true)(hC:C.holds P gl)
 {wA wB:YC→St→(fV→St→Option (gm (Nat::iq C.R [])))→Option (gm (Nat::iq C.R []))}
 (hA:∀y σ1 k1 r1,wA y σ1 k1=some r1→cZ P (gl.tj y.l) assign σ1 (fun e σ'=>k1 e σ'=some r1)) (hB:∀y σ1 k1 r1,wB y σ1 k1=some r1→cZ P (gl.tj y.l) body σ1 (fun e σ'=>k1 e σ'=some r1))
 {R:Type} {k:fV→St→Option R} {r:R} (h:vr (fun y=>TO σ y rh gf cs (C.Wp y.l (Wr y rh C ps σ (wA y) (wB y))) k)=some r):cZ P gl (.rangeFunc g ps assign body) σ (fun e σ'=>k e σ'=some r):=by
 unfold TN at gx
 simp only[bB,gV] at gx
 obtain⟨⟨⟨⟨⟨⟨⟨⟨⟨c1,c2⟩,c3⟩,c4⟩,c5⟩,c6⟩,c7⟩,c8⟩,c9⟩,c10⟩:=gx
 refine cZ.rangeFunc hro hg rh.dI rh.lI C.k0 c1 c2 c3 c4 rh.ti rh.m c6 c7 c8 rh.jl c9 ?_
 intro y
 have hy:=HG h y
 unfold TO at hy
 split at hy
 case h_2=>cases hy
 rename_i L ins hL jT
 rcases BY hy with⟨hfn,hy⟩|hy
 case inr=>cases hy
 split at hy
 case h_2=>cases hy
 rename_i d hd
 rcases CF.BW hy with⟨q,hq,hy⟩|⟨x,hx,hy⟩
 case inr=>cases hy
 obtain⟨d1,d2⟩:=aX.gY hd
 unfold Sm at hy
 split at hy
 case h_2=>cases hy
 rename_i hr
 obtain⟨hcr,hy⟩:=bW hy
 simp only[bB] at hcr
 split at hy
 case h_2=>cases hy
 rename_i y' j hlp
 obtain⟨hv,hy⟩:=fk hy
 have hv:y'=y:=hv.1
 subst hv
 refine⟨j,_,L,ins,_,⟨hr,hL,jT,hcr.1,hcr.2,hlp,rfl⟩,?_,?_⟩
 ·intro B hB' hof
  have hh:=hC B hB' y'.l _ (TQ (wA:=wA y') (wB:=wB y') (hA y') (hB y') (by simp_all) c10 hof)
  have:=hh.ret d q hq
  rw[←hfn,d1,d2] at this
  rw[show(C.Wp y'.l (Wr y' rh C ps σ (wA y') (wB y'))).res q= .gm .nil from hr] at this
  trivial
 ·have:=Om (P:=P) (gl:=gl) hy
  grind
section
variable{P:Program} {G:cd} (T:bM P G) {I:List IC} {H:Hs} {Γ:List aX}
include T
theorem jZ:∀{c:Code}{gl:Ctx}{fr:Bool}(_hΓ:∀C∈Γ,C.holds P gl)(_hro:fr=true→gl.ro=none)(_hI:fr=true→∀C∈I,C.holds P gl∧∀S w,gl.B S w){R:Type}{σ:St}{k:fV→St→Option R}{r:R},walk P G I H Γ c gl fr σ k=some r→cZ P gl c σ (fun e σ'=>k e σ'=some r):=by
 intro c
 induction c with
 |skip=>intro gl fr hΓ hro hI R σ k r h;exact cZ.skip h
 |label l=>intro gl fr hΓ hro hI R σ k r h;exact cZ.label h
 |scope c ih=>intro gl fr hΓ hro hI R σ k r h;exact cZ.scope (ih hΓ hro hI h)
 |exit i=>intro gl fr hΓ hro hI R σ k r h;exact cZ.exit h
 |ret=>intro gl fr hΓ hro hI R σ k r h;exact cZ.ret h
 |region id ops draw=>intro gl fr hΓ hro hI R σ k r h;exact DU T hΓ hro h
 |
  seq x z ih1 ih2=>
  intro gl fr hΓ hro hI R σ k r h
  unfold walk at h
  split at h
  ·refine cZ.seq (cZ.mono (ih1 hΓ hro hI h) ?_)
   intro e σ' he
   cases e with
   |normal=>exact ih2 hΓ hro hI he
   |_=>exact he
  ·rename_i S hS
   unfold aH at h
   obtain⟨o,ho,h⟩:=bind_some h
   refine cZ.seq (cZ.mono (ih1 hΓ hro hI ho) ?_)
   intro e σ' he
   cases e with
   |
    normal=>
    obtain⟨d,hd,e⟩:=map_some he
    subst e
    exact cZ.wk (SS.iC hd) (ih2 hΓ hro hI h)
   |
    _=>
    obtain⟨d,hd,e⟩:=map_some he
    subst e
    cases h
    exact hd
 |
  cond c x z ih1 ih2=>
  intro gl fr hΓ hro hI R σ k r h
  unfold walk at h
  split at h
  ·rename_i b hb
   refine cZ.cond hb (fun e=>ih1 hΓ hro hI ?_) (fun e=>ih2 hΓ hro hI ?_)<;>grind
  grind
 |
  block id c ih=>
  intro gl fr hΓ hro hI R σ k r h
  unfold walk at h
  split at h
  ·refine cZ.block (cZ.mono (ih hΓ hro hI h) ?_)
   intro e σ' he
   cases e with
   |
    exit i=>
    simp only[unB] at he
    simp only[zA]
    split at he<;>simp_all
   |_=>exact he
  ·rename_i S hS
   unfold aH at h
   obtain⟨o,ho,h⟩:=bind_some h
   have fin:∀{σ':St},(S.tR σ').map cH.bA=some o→∃σ2,Wk gl σ' σ2∧k .normal σ2=some r:=by
    intro σ' he
    obtain⟨d,hd,e⟩:=map_some he
    grind [SS.iC]
   have oth:∀{e:fV}{σ':St},(k e σ').map cH.ret=some o→k e σ'=some r:=by
    intro e σ' he
    obtain⟨d,hd,e⟩:=map_some he
    grind
   refine cZ.XH (cZ.block (cZ.mono (ih hΓ hro hI ho) ?_))
   intro e σ' he
   cases e with
   |normal=>exact fin he
   |
    exit i=>
    simp only[toB] at he
    simp only[zA]
    split at he
    ·rename_i hb;rw[aA (bT hb)];grind
    ·rename_i hb;rw[aC (fun e=>hb (by simp_all))];exact⟨σ',Wk.refl gl σ',oth he⟩
   |ret=>exact⟨σ',Wk.refl gl σ',oth he⟩
   |panic v=>exact oth he
 |
  loop c ih=>
  intro gl fr hΓ hro hI R σ k r h
  unfold walk at h
  split at h
  ·grind [KF]
  ·split at h
   ·cases h
   ·split at h
    ·cases h
    ·rename_i u hu
     exact KG (fun σ u=>SS.iC) (fun h=>ih hΓ hro hI h) hu h
 |
  rangeFunc g ps assign body ih1 ih2=>
  intro gl fr hΓ hro hI R σ k r h
  unfold walk at h
  obtain⟨hfr,h⟩:=bW h
  split at h
  ·cases h
  ·rename_i rh hrh
   split at h
   case h_2=>cases h
   rename_i C u hC hu
   split at h
   ·rename_i gf cs hg
    obtain⟨gx,h⟩:=bW h
    obtain⟨hC1,hB⟩:=hI hfr C (je hC)
    have hA:∀(y:YC)(σ1:St) k1 r1,walk P G I H Γ assign (gl.tj y.l) false (R:=gm (Nat::iq C.R [])) σ1 k1=some r1→cZ P (gl.tj y.l) assign σ1 (fun e σ'=>k1 e σ'=some r1):=
     fun y σ1 k1 r1 h1=>@ih1 (gl.tj y.l) false (fun D hD=>(hΓ D hD).up rfl hB) (fun e=>(uE e).elim) (fun e=>(uE e).elim) _ _ _ _ h1
    have hB':∀(y:YC)(σ1:St) k1 r1,walk P G I H Γ body (gl.tj y.l) false (R:=gm (Nat::iq C.R [])) σ1 k1=some r1→cZ P (gl.tj y.l) body σ1 (fun e σ'=>k1 e σ'=some r1):=
     fun y σ1 k1 r1 h1=>@ih2 (gl.tj y.l) false (fun D hD=>(hΓ D hD).up rfl hB) (fun e=>(uE e).elim) (fun e=>(uE e).elim) _ _ _ _ h1
    exact cZ.wk (SS.iC hu) <| XI (wA:=fun y σ1 k1=>walk P G I H Γ assign (gl.tj y.l) false σ1 k1) (wB:=fun y σ1 k1=>walk P G I H Γ body (gl.tj y.l) false σ1 k1) (hro hfr) hg gx hC1 hA hB' h
   grind
 |_=>grind [walk]
end
end Go.Ax
