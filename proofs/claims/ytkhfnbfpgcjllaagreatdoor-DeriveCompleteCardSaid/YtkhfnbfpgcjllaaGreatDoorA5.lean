/- The machines: what it means to be walked or run, part 5. No condition. -/
import Derived.Test.YtkhfnbfpgcjllaaGreatDoorA4
import Derived.RecoverIn
import Derived.Deep.DeepHandedRow
import Derived.OpenShut
import Derived.ChangeArms
import Derived.Lib.LaidTab
namespace Go.Ax
def B4(pm:Bool)(u:Value):FrameMode:=if pm then .panicking [{v:=u,recovered:=false}] else .returning
def sE(pm:Bool)(u:Value):FrameMode:=if pm then .panicking [{v:=u,recovered:=true}] else .returning
def XL(P:Program)(gl:Ctx)(f:FuncId)(pm:Bool)(x:AV)(args:List AV)(H H':List (Option aX)):Prop:=
 (∀vs w,(callFunc f vs).run P w= .ok (.enter f vs) w)∧∀E w vs u,ru E w args vs→ew E w x u→(pm=false→u= .nilIface)→HW gl E w H→
  CallsDIn (Wd gl) 0 P f vs.toArray (B4 pm u) w fun e m w'=>m=sE pm u∧(∃v,e= .returned v)∧∃E',HW gl E' w' H'∧Ext gl.md (cU H E) E w (cU H' E') E' w'
theorem XL.XM{P:Program}{G:dq}(T:cQ P G){gl:Ctx}{f:FuncId}{pm:Bool}{x:AV}{fn:Func}{ops:Array Oper}{rid:Nat}{rest:Code}{t5 t2:Nat}{ts:Array TypeId}{o0 o1:Oper}(hcf:∀vs w,(callFunc f vs).run P w= .ok (.enter f vs) w)(hf:P.funcs[f]? =some fn)
 (hb:fn.body=some (.seq (.region rid ops false) rest)) (hro:gl.ro=none) (hops:ops= #[o0,o1]) (h0:o0.op= .call {callee:=.builtin .recover,args:= #[],argTypes:=ts}) (h0d:o0.dst=some t5) (h0g:o0.guard=none)
 (h1:o1.op= .assign (.tmp t5)) (h1d:o1.dst=some t2) (h1g:o1.guard=none) {args:List AV} {ins:List (Nat×Option aX)} {m:Nat} {out:List (Nat×aX)} {σe:St} {r:AV} (ht5:Nat.blt t5 fn.ntmps=true)
 (h:eV P gl rest (((rz fn.ntmps m args ins).put (some t5) x).put (some t2) x) (fun e σ=>(e= .ret∨e= .normal)∧Wk gl σ σe)) (hd:σe.df= []) (apK:mJ G fn.results.toList σe=some r) (hout:∀b k,(b,k)∈out→σe.hp[b]? =some (some k)):
 XL P gl f pm x args (bJ (List.replicate m none) ins) (fu m out):=by
 refine⟨hcf,?_⟩
 intro E w vs u hv hx hpm hw
 obtain⟨hl,apf⟩:=hv.get
 refine callsDIn_of_wpSIn hf hb trivial ?_
 intro c0 cs hm
 have hg:dE gl (rz fn.ntmps m args ins) E {tmps:=vs.toArray++Array.replicate (fn.ntmps -vs.toArray.size) undef,defers:=[]} w:=by
  refine⟨?_,?_,hw,trivial⟩
  ·grind [rz]
  ·intro i x hx v hv'
   simp only[rz] at hx
   rw[Array.getElem?_append] at hv'
   simp only[List.getElem?_append] at hx
   split at hx
   ·grind
   ·rw[List.getElem?_replicate] at hx
    split at hx
    ·cases hx;trivial
    grind
 refine wpSIn_seq (wpSIn_region ?_)
 subst hops
 show wpOpsSIn _ _ _ _ _ [0,1] _ _ _
 have w0:∀y,Region.wanted o0 y=true:=by intro y;simp[Region.wanted,h0g]
 have w1:∀y,Region.wanted o1 y=true:=by intro y;simp[Region.wanted,h1g]
 have x0:∀ρ:Operand→Value,(execOp ρ o0).run P w= .ok .recover w:=by
  simp_all[execOp,resolve,invoke,builtin]
 have ei0:(#[o0,o1]:Array Oper)[0]? =some o0:=rfl
 have ei1:(#[o0,o1]:Array Oper)[1]? =some o1:=rfl
 have hu:RV E w x u:=RV.gZ hx
 have hg1:=hg.put (some t5) hu
 have hlt:t5<fn.ntmps:=by simp_all
 have hev:((({tmps:=vs.toArray++Array.replicate (fn.ntmps -vs.toArray.size) undef,defers:=[]}:Act).put o0.dst u).eval (.tmp t5))=u:=by
  rw[h0d]
  have hsz:t5<(vs.toArray++Array.replicate (fn.ntmps -vs.toArray.size) undef).size:=by
   grind
  simp_all[Act.put,Act.eval]
 have x1:(execOp (({tmps:=vs.toArray++Array.replicate (fn.ntmps -vs.toArray.size) undef,defers:=[]}:Act).put o0.dst u).eval o1).run P w= .ok (.value u) w:=by
  simp_all[execOp]
 have hg2:=hg1.put (some t2) hu
 suffices hfin:rest.wpSIn (Wd gl) 0 P (bodyPostS P fn c0 cs fun e m_1 w'=>m_1=sE pm u∧(∃v,e= .returned v)∧∃E',HW gl E' w' (fu m out)∧Ext gl.md (cU (bJ (List.replicate m none) ins) E) E w (cU (fu m out) E') E' w')
  ((({tmps:=vs.toArray++Array.replicate (fn.ntmps -vs.toArray.size) undef,defers:=[]}:Act).put o0.dst u).put o1.dst u) ({c0 with mode:=sE pm u}::cs) w by
  cases pm with
  |
   true=>
   have hrc:recoverD (c0::cs)=some (u,{c0 with mode:=sE true u}::cs):=by
    simp_all[B4,sE,recoverD]
   simp only[wpOpsSIn,ei0,ei1,w0,w1,cC,x0,hrc]
   refine⟨fun _ _=>trivial,fun _ _=>trivial,?_⟩
   rw[x1]
   trivial
  |
   false=>
   have hu0:=hpm rfl
   subst hu0
   have hrc:recoverD (c0::cs)=none:=by
    simp_all[B4,recoverD]
   have hcc:({c0 with mode:=sE false .nilIface}:Frame)=c0:=by
    simp only[B4,sE,dv,dc] at hm ⊢
    rw[←hm]
   rw[hcc] at hfin
   simp only[wpOpsSIn,ei0,ei1,w0,w1,cC,x0,hrc]
   refine⟨fun _ _=>trivial,fun _ _=>trivial,?_⟩
   rw[x1]
   trivial
 rw[h0d,h1d]
 refine wpSIn_of_wpIn (F:=Wd gl) hro (wpIn_mono (h E _ w hg2) ?_)
 rintro ex a' w' ⟨e,σ',E',q1,⟨he,hwk⟩,q3,q4⟩
 obtain⟨E2,g2,x2⟩:=hwk E' a' w' q3
 obtain⟨v,k1,k2⟩:=vP T g2 apK
 have hdf:a'.defers= []:=by
  have:=g2.df
  rw[hd] at this
  cases hds:a'.defers with
  |nil=>rfl
  |cons d l=>rw[hds] at this;trivial
 have hw2:HW gl E2 w' (fu m out):=g2.hw.less (fun b k hb=>hout b k (jg hb))
 have hxx:Ext gl.md (cU (bJ (List.replicate m none) ins) E) E w (cU (fu m out) E2) E2 w':=by
  have q4':Ext gl.md (cU (bJ (List.replicate m none) ins) E) E w (cU σ'.hp E') E' w':=q4
  exact{q4'.trans x2 with own:=fun g ⟨b,k,hb,hgb⟩=>(q4'.trans x2).own g ⟨b,k,hout b k (jg hb),hgb⟩}
 rcases he with rfl|rfl
 ·cases ex with
  |ret=>exact⟨hdf,sE pm u,rfl,v,k1,rfl,⟨v,rfl⟩,E2,hw2,hxx⟩
  |_=>trivial
 ·cases ex with
  |normal=>exact⟨hdf,sE pm u,rfl,v,k1,rfl,⟨v,rfl⟩,E2,hw2,hxx⟩
  |_=>trivial
structure iV where
 oH:FuncId
 A:List Sh
 B:List (Nat×jY)
 m:Nat
 s:Sh
 F:SS
 out:F.T→List (Nat×aX)
 n:prod (xU A (l4 B []))→Option F.T
 p:prod (xU A (l4 B []))→prod (s.H [])→Option F.T
abbrev iV.D(C:iV):Type:=prod (xU C.A (l4 C.B []))
def iV.args(C:iV)(d:C.D):List AV:=DK y0 C.A d
def iV.ins(C:iV)(d:C.D):List (Nat×Option aX):=fC (tN y0 C.B (DL C.A d))
structure iV.holds(P:Program)(gl:Ctx)(C:iV):Prop where
 n:∀d r,C.n d=some r→XL P gl C.oH false .kZ (C.args d) (bJ (List.replicate C.m none) (C.ins d)) (fu C.m (C.out r))
 p:∀d q r,C.p d q=some r→XL P gl C.oH true (C.s.V y0 q) (C.args d) (bJ (List.replicate C.m none) (C.ins d)) (fu C.m (C.out r))
def iV.get(C:iV)(L:List AV)(I:List (Nat×Option aX)):Option C.D:=
 match S4 C.B (l:=[]) I () with
 |some d=>WM C.A L d
 |none=>none
theorem iV.jn{C:iV}{L:List AV}{I:List (Nat×Option aX)}{d:C.D}(h:C.get L I=some d):C.args d=L∧C.ins d=I:=by
 unfold iV.get at h
 split at h
 ·rename_i d1 h1
  obtain⟨a1,a2⟩:=DQ y0 h1
  obtain⟨b1,b2⟩:=DN y0 h
  exact⟨b1,by unfold iV.ins;grind⟩
 grind
section
variable{P:Program} {G:dq} (T:cQ P G) {gl:Ctx} {H:Hs} {Γ:List bH} (hΓ:∀C∈Γ,C.holds P gl) (hro:gl.ro=none) {rs:List ResultVar} {oH:FuncId} {A:List Sh} {B:List (Nat×jY)} {m nt:Nat} {s:Sh} {F:SS} {ob:List Nat}
 {n:prod (xU A (l4 B []))→Option F.T} {p:prod (xU A (l4 B []))→prod (s.H [])→Option F.T} {fn:Func} {ops:Array Oper} {rid:Nat} {rest:Code} {t5 t2:Nat} {ts:Array TypeId} {o0 o1:Oper}
 (apg:∀vs w,(callFunc oH vs).run P w= .ok (.enter oH vs) w) (hf:P.funcs[oH]? =some fn) (hb:fn.body=some (.seq (.region rid ops false) rest)) (hrs:fn.results.toList=rs) (hnt:fn.ntmps=nt)
 (hops:ops= #[o0,o1]) (h0:o0.op= .call {callee:=.builtin .recover,args:= #[],argTypes:=ts}) (h0d:o0.dst=some t5) (h0g:o0.guard=none) (h1:o1.op= .assign (.tmp t5)) (h1d:o1.dst=some t2) (h1g:o1.guard=none) (ht5:Nat.blt t5 nt=true)
 (hF:F.df= []) (apK:∀r:F.T,On (mJ G rs (F.st y0 r))=true)
include T hΓ hro apg hf hb hrs hnt hops h0 h0d h0g h1 h1d h1g ht5 hF apK
theorem iV.of1{pm:Bool}{x:AV}{args:List AV}{ins:List (Nat×Option aX)}{r:F.T}(hw:walk P G [] H Γ rest gl true (((rz nt m args ins).put (some t5) x).put (some t2) x) (W1 F)=some r):
 XL P gl oH pm x args (bJ (List.replicate m none) ins) (fu m (pick ob (F.st y0 r).hp)):=by
 have hdf:(F.st y0 r).df= []:=by
  simp only[SS.st,SS.rz]
  obtain⟨nt',nh,tm,hp,df⟩:=F
  simp only at hF
  subst hF
  rfl
 subst hnt
 refine XL.XM T apg hf hb hro hops h0 h0d h0g h1 h1d h1g ht5 (eV.mono (ov T hΓ (fun _=>hro) (fun _=>aJ) hw) ?_) hdf (by rw[hrs];exact r9 (apK r)) (fun b k hbk=>nH hbk)
 intro e σ he
 cases e with
 |ret=>exact⟨Or.inl rfl,SS.l6 he⟩
 |normal=>exact⟨Or.inr rfl,SS.l6 he⟩
 |_=>trivial
theorem iV.ofN(hn:∀d,n d=walk P G [] H Γ rest gl true (((rz nt m (DK y0 A d) (fC (tN y0 B (DL A d)))).put (some t5) .kZ).put (some t2) .kZ) (W1 F)):
 (⟨oH,A,B,m,s,F,fun r=>pick ob (F.st y0 r).hp,n,fun _ _=>none⟩:iV).holds P gl:=by
 refine⟨?_,fun _ _ r h=>no (e:=r) h⟩
 intro d r hd
 have hd':n d=some r:=hd
 rw[hn d] at hd'
 exact iV.of1 T hΓ hro apg hf hb hrs hnt hops h0 h0d h0g h1 h1d h1g ht5 hF apK hd'
theorem iV.GL(hp:∀d q,p d q=walk P G [] H Γ rest gl true (((rz nt m (DK y0 A d) (fC (tN y0 B (DL A d)))).put (some t5) (s.V y0 q)).put (some t2) (s.V y0 q)) (W1 F)):
 (⟨oH,A,B,m,s,F,fun r=>pick ob (F.st y0 r).hp,fun _=>none,p⟩:iV).holds P gl:=by
 refine⟨fun _ r h=>no (e:=r) h,?_⟩
 intro d q r hd
 have hd':p d q=some r:=hd
 rw[hp d q] at hd'
 exact iV.of1 T hΓ hro apg hf hb hrs hnt hops h0 h0d h0g h1 h1d h1g ht5 hF apK hd'
end
def Lj:List Nat→List (Option aX)→List (Option aX)
 |[],hp=>hp
 |
  b::l,hp=>Lj l (match hp[b]? with
  |some (some (.var t _))=>hp.set b (some (.var t (.gU t)))
  |_=>hp)
theorem Wk.gU{gl:Ctx}:∀{l:List Nat}{σ:St},Wk gl σ {σ with hp:=Lj l σ.hp}
 |[],σ=>Wk.refl gl σ
 |
  b::l,σ=>by
  unfold Lj
  split
  ·rename_i t v hb
   have h1:Wk gl σ {σ with hp:=σ.hp.set b (some (.var t (.gU t)))}:=by
    intro E a w h
    obtain⟨h1,h2,g,c,e,h3,h4,h5⟩:=h.hw.eJ b _ hb
    have hlen:=RC.len h5
    have hw:=h.hw.write (w':=w) (k':=.var t (.gU t)) hb rfl (fun _ _=>rfl) ⟨h1,Ty.fh t,g,c,e,h3,h4,⟨by rw[hlen];exact AV.hH h2,RC.one h5⟩⟩
    refine⟨E,⟨h.len,h.tm,hw,h.df⟩,{Ext.refl (cU σ.hp E) E w with own:=?_ }⟩
    grind [cU.set]
   exact h1.trans (Wk.gU (l:=l) (σ:={σ with hp:=σ.hp.set b (some (.var t (.gU t)))}))
  ·exact Wk.gU (l:=l) (σ:=σ)
def Pv(C:iV)(ps:List (Nat×Nat))(F:SS)(h:C.D→Option C.F.T)(σ:St):Option F.T:=
 match σ.df with
 |
  [.func (.func fd) .nil cs]=>match qR (qY ps) (iS σ.hp) (cs.toList.map (fun x=>(x,Ty.unit))),mE (qY ps) (iS σ.hp) ps with
  |
   some (L,lent),some ins=>if Nat.beq fd C.oH&&cs.atoms then(match C.get L ins with
   |some d=>Option.bind (h d) fun r=>if Dj ⟨.bot,ps,[],C.out r,C.m,false,[],[]⟩ lent then F.yy {σ with hp:=bJ σ.hp (qZ ps (C.out r) ps),df:=[]} else none
   |none=>none) else none
  |_,_=>none
 |_=>none
def UX(C:iV)(ps:List (Nat×Nat))(D:iV)(qs:List (Nat×Nat))(jk:List Nat)(F:SS):jU→St→Option F.T
 |
  .ret,σ| .normal,σ=>match σ.df with
  |[]=>F.yy σ
  |_=>Pv C ps F C.n σ
 |
  .panic v,σ=>match v.ids,D.s.G (l:=[]) v () with
  |[],some q=>Pv D qs F (fun d=>D.p d q) {σ with hp:=Lj jk σ.hp}
  |_,_=>none
 |_,_=>none
theorem Ll{P:Program}{G:dq}(T:cQ P G){gl:Ctx}{C:iV}{ps:List (Nat×Nat)}{F:SS}{h:C.D→Option C.F.T}{σ:St}{r:F.T}(hr:Pv C ps F h σ=some r){pm:Bool}{x:AV}(hx:x.ids= [])
 (hC:∀d y,h d=some y→XL P gl C.oH pm x (C.args d) (bJ (List.replicate C.m none) (C.ins d)) (fu C.m (C.out y))) {fn:Func} {z:AV} (hF:F.df= []) (apK:mJ G fn.results.toList (F.st y0 r)=some z) {out:List (Nat×aX)} (hout:∀b k,(b,k)∈out→(F.st y0 r).hp[b]? =some (some k)) {m:Nat}
 {E:Env} {a:Act} {w:World} (hg:dE gl σ E a w) {u:Value} (hu:ew E w x u) (hpm:pm=false→u= .nilIface) {O:Nat→Prop} {E0:Env} {w0:World} (hX0:Ext gl.md O E0 w0 (cU σ.hp E) E w):
 LeavesIn (Wd gl) 0 P fn a.tmps (fun e w'=>∃E',C6 E' w' (.ret z) e∧HW gl E' w' (fu m out)∧Ext gl.md O E0 w0 (cU (fu m out) E') E' w') a.defers (B4 pm u) w:=by
 have hdfF:(F.st y0 r).df= []:=by
  simp only[SS.st,SS.rz]
  obtain⟨nt',nh,tm,hp,df⟩:=F
  simp only at hF
  subst hF
  rfl
 unfold Pv at hr
 split at hr
 ·rename_i fd cs hdf
  split at hr
  ·rename_i L lent ins hL nU
   obtain⟨hc,hr1⟩:=dn hr
   clear hr
   simp only[bP] at hc
   obtain⟨hfd,hca⟩:=hc
   have hfd:=dm hfd
   subst hfd
   split at hr1
   ·rename_i d hd
    obtain⟨y,hy,hr2⟩:=bind_some hr1
    obtain⟨iq,hr3⟩:=dn hr2
    obtain⟨e1,e2⟩:=iV.jn hd
    obtain⟨hcf,hM⟩:=hC d y hy
    rw[e1,e2] at hM
    have gdf:=hg.df
    rw[hdf] at gdf
    cases hads:a.defers with
    |nil=>rw[hads] at gdf;trivial
    |
     cons dd ds=>
     rw[hads] at gdf
     obtain⟨⟨f',c',ed,q1,q2,_,_⟩,hrest⟩:=gdf
     have hds:ds= []:=by
      cases ds with
      |nil=>rfl
      |cons _ _=>trivial
     subst hds
     have hf':f'= #[]:=by apply ni;trivial
     subst hf'
     subst ed
     have hB:=dU σ.hp
     have hlent:=pW hL
     obtain⟨hφ,hw1⟩:=yk (cr:=⟨.bot,ps,[],C.out y,C.m,false,[],[]⟩) hg hB hlent nU iq
     have hmap:(cs.toList.map (fun x=>(x,Ty.unit))).map (·.1)=cs.toList:=by
      simp[List.map_map,Function.comp_def]
     have hvv:=rT hg.hw hB hφ hL (fun g hg=>hg) (by rw[hmap];exact ru.atoms hca q2)
     have hu':ew (E.to ps (E.eQ lent).S) w x u:=ew.mono (E:=E) ⟨fun _ _=>rfl,fun _ h=>Or.inl h⟩ (fun b hb=>by grind) hu
     have apg:=hM _ w _ u hvv hu' hpm hw1
     refine leavesIn_cons (F:=Wd gl) (by unfold B4;split<;>simp) (fun h=>by cases h) (args:=c'.toList.toArray) ?_ (fun _ _=>trivial) (CallsDIn.mono apg ?_)
     ·simp_all[invoke]
     ·rintro e u1 w2 ⟨rfl,⟨v,rfl⟩,E2,hW2,hX2⟩
      obtain⟨E3,g3,_,x3⟩:=oP (cr:=⟨.bot,ps,[],C.out y,C.m,false,[],[]⟩) hg hB hlent nU iq (fun b hb=>by grind) hW2 hX2 (v:=v) (r':=.bot) rfl trivial
      simp only[cw] at g3 x3
      have g4:dE gl {σ with hp:=bJ σ.hp (qZ ps (C.out y) ps),df:=[]} E3 {a with defers:=[]} w2:=⟨g3.len,g3.tm,g3.hw,trivial⟩
      obtain⟨E5,g5,x5⟩:=SS.l6 (gl:=gl) hr3 E3 _ w2 g4
      obtain⟨v2,k1,k2⟩:=vP T g5 apK
      have bJ:settle (sE pm u)= .returning:=by
       unfold sE
       cases pm<;>simp[settle]
      show LeavesIn _ _ _ _ _ _ _ _ _
      rw[bJ]
      have hw5:HW gl E5 w2 (fu m out):=g5.hw.less (fun b k hb=>hout b k (jg hb))
      have X5:=(hX0.trans x3).trans x5
      exact⟨v2,k1,E5,k2,hw5,{X5 with own:=fun g ⟨b,k,hb,hgb⟩=>X5.own g ⟨b,k,hout b k (jg hb),hgb⟩}⟩
   grind
  grind
 grind
theorem bH.ofD{P:Program}{G:dq}(T:cQ P G){gl:Ctx}{H:Hs}{Γ:List bH}(hΓ:∀C∈Γ,C.holds P gl){C:iV}(hC:C.holds P gl){ps:List (Nat×Nat)}{D:iV}(hD:D.holds P gl){qs:List (Nat×Nat)}{jk:List Nat}(hro:gl.ro=none){rs:List ResultVar}{oH:FuncId}{A:List Sh}{B:List (Nat×jY)}{m nt:Nat}{F:SS}{ob:List Nat}{f:prod (xU A (l4 B []))→Option F.T}
 {fn:Func} {c:Code} (apg:∀vs w,(callFunc oH vs).run P w= .ok (.enter oH vs) w) (hf:P.funcs[oH]? =some fn) (hb:fn.body=some c) (hrs:fn.results.toList=rs) (hnt:fn.ntmps=nt) (hF:F.df= [])
 (apK:∀r:F.T,On (mJ G rs (F.st y0 r))=true)
 (h:∀d,f d=walk P G [] H Γ c gl true (rz nt m (DK y0 A d) (fC (tN y0 B (DL A d)))) (UX C ps D qs jk F)):
 (aI G rs oH A B m F ob (.bZ f)).holds P gl:=by
 refine⟨?_,fun _ _ h=>h.elim⟩
 intro d r hd
 have hd':f d=some r:=hd
 rw[h d] at hd'
 refine⟨apg,?_⟩
 have apa:=ov T hΓ (fun _=>hro) (fun _=>aJ) hd'
 subst hnt
 have hz:mJ G fn.results.toList (F.st y0 r)=some ((mJ G rs (F.st y0 r)).getD .bot):=by rw[hrs];exact r9 (apK r)
 have hout:∀b k,(b,k)∈pick ob (F.st y0 r).hp→(F.st y0 r).hp[b]? =some (some k):=fun b k hbk=>nH hbk
 intro E w vs hv hw
 obtain⟨hl,apf⟩:=hv.get
 refine CallsIn.calls (F:=Wd gl) (n:=0) (callsIn_of_wp_defers hf hb trivial ?_ hro) (fun k d hd=>by cases hd)
 have hg:dE gl (rz fn.ntmps m (DK y0 A d) (fC (tN y0 B (DL A d)))) E {tmps:=vs.toArray++Array.replicate (fn.ntmps -vs.toArray.size) undef,defers:=[]} w:=by
  refine⟨?_,?_,hw,trivial⟩
  ·simp only[rz,Array.size_append,List.size_toArray,Array.size_replicate,cz,gn]
   rw[←hl];rfl
  ·intro i x hx v hv'
   simp only[rz] at hx
   rw[Array.getElem?_append] at hv'
   simp only[List.getElem?_append] at hx
   split at hx
   ·rename_i hi
    have hl':(DK y0 A d).length=vs.length:=hl
    rw[aA (by grind)] at hv'
    exact apf i x v hx (by grind)
   ·rw[List.getElem?_replicate] at hx
    split at hx
    ·cases hx;trivial
    grind
 refine wpIn_mono (apa E _ w hg) ?_
 rintro ex a' w' ⟨e,σ',E',h1,he,h3,h4⟩
 have plain:∀{σ:St},σ.df= []→F.yy σ'=some r→dE gl σ' E' a' w'→a'.defers= []→LeavesIn (Wd gl) 0 P fn a'.tmps (fun e w'=>∃E',C6 E' w' (.ret ((mJ G rs (F.st y0 r)).getD .bot)) e∧HW gl E' w' (fu m (pick ob (F.st y0 r).hp))∧Ext gl.md (cU (bJ (List.replicate m none) (fC (tN y0 B (DL A d)))) E) E w (cU (fu m (pick ob (F.st y0 r).hp)) E') E' w') a'.defers .returning w':=by
  intro σ _ hm hg' hds
  obtain⟨E5,g5,x5⟩:=SS.l6 (gl:=gl) hm E' a' w' hg'
  obtain⟨v2,k1,k2⟩:=vP T g5 hz
  rw[hds]
  have hw5:HW gl E5 w' (fu m (pick ob (F.st y0 r).hp)):=g5.hw.less (fun b k hb=>hout b k (jg hb))
  have X5:=h4.trans x5
  exact⟨v2,k1,E5,k2,hw5,{X5 with own:=fun g ⟨b,k,hb,hgb⟩=>X5.own g ⟨b,k,hout b k (jg hb),hgb⟩}⟩
 have leave:(match σ'.df with
  |[]=>F.yy σ'
  |_=>Pv C ps F C.n σ')=some r→LeavesIn (Wd gl) 0 P fn a'.tmps (fun e w'=>∃E',C6 E' w' (.ret ((mJ G rs (F.st y0 r)).getD .bot)) e∧HW gl E' w' (fu m (pick ob (F.st y0 r).hp))∧Ext gl.md (cU (bJ (List.replicate m none) (fC (tN y0 B (DL A d)))) E) E w (cU (fu m (pick ob (F.st y0 r).hp)) E') E' w') a'.defers .returning w':=by
  intro he
  cases hd0:σ'.df with
  |
   nil=>
   rw[hd0] at he
   have hds:a'.defers= []:=by
    have:=h3.df
    rw[hd0] at this
    cases hds:a'.defers with
    |nil=>rfl
    |cons d l=>rw[hds] at this;trivial
   grind
  |
   cons x l=>
   rw[hd0] at he
   exact Ll T (pm:=false) (x:=.kZ) he rfl (fun d y hy=>hC.n d y hy) hF hz hout h3 (u:=.nilIface) (Or.inr ⟨rfl,rfl⟩) (fun _=>rfl) h4
 cases e with
 |
  ret=>cases ex with
  |ret=>exact leave he
  |_=>trivial
 |
  normal=>cases ex with
  |normal=>exact leave he
  |_=>trivial
 |exit i=>trivial
 |
  panic v=>
  cases ex with
  |
   panic ch=>
   obtain⟨u,e,hu⟩:=h1
   subst e
   simp only[UX] at he
   split at he
   ·rename_i q hids hq
    have hV:=(Sh.Bf y0 hq).1
    obtain⟨E2,g2,x2⟩:=Wk.gU (gl:=gl) (l:=jk) (σ:=σ') E' a' w' h3
    have hu2:ew E2 w' v u:=ew.mono (E:=E') (w:=w') ⟨fun b hb=>rfl,x2.sle⟩ (fun b hb=>by grind) hu
    exact Ll T (pm:=true) (x:=v) he hids (fun d y hy=>by have:=hD.p d q y hy;grind) hF hz hout g2 hu2 (fun e=>by cases e) (h4.trans x2)
   grind
  |_=>trivial
end Go.Ax
namespace Go.Ax
def alT:jU→St→Option St
 | .normal,σ=>some σ
 |_,_=>none
def alU(F:SS):jU→St→Option F.T
 | .ret,σ=>IS F .ret σ
 |_,_=>none
theorem bH.pg{P:Program}{G:dq}(T:cQ P G){gl:Ctx}{H:Hs}{Γ:List bH}(hΓ:∀C∈Γ,C.holds P gl)(hro:gl.ro=none){rs:List ResultVar}{oH:FuncId}{A:List Sh}{B:List (Nat×jY)}{m nt:Nat}{F:SS}{ob:List Nat}{f:prod (xU A (l4 B []))→Option F.T}
 {fn:Func} {c0 X Y:Code} {rid:Nat} {o1 o2:Oper} (x:Operand) (d1 d2:Nat) (t t2 e:TypeId) (bs:Nat) (u:Ty) (xs:prod (xU A (l4 B []))→List u.den) (σ1:prod (xU A (l4 B []))→St)
 (apg:∀vs w,(callFunc oH vs).run P w= .ok (.enter oH vs) w) (hf:P.funcs[oH]? =some fn) (hb:fn.body=some (.seq c0 (.seq (.seq (.region rid #[o1,o2] false) (.cond (.tmp d2) X .skip)) Y))) (hrs:fn.results.toList=rs) (hnt:fn.ntmps=nt) (hF:F.df= [])
 (h1:o1.op= .move x) (hd1:o1.dst=some d1) (hg1:o1.guard=none) (h2:o2.op= .binOp .eql t (.tmp d1) (.const (.slice none 0 0)) t2) (hd2:o2.dst=some d2) (hg2:o2.guard=none) (ht:P.underlying t=some (.slice e))
 (apK:∀r:F.T,On (mJ G rs (F.st y0 r))=true)
 (hA:∀d,walk P G [] H Γ c0 gl true (rz nt m (DK y0 A d) (fC (tN y0 B (DL A d)))) alT=some (σ1 d))
 (hx:∀d,db gl (σ1 d).tm x= .val (.slice bs u) (xs d)) (hl:∀d,Nat.blt d1 (σ1 d).tm.length=true) (hl2:∀d b,db gl (((σ1 d).put (some d1) (.val (.slice bs u) (xs d))).put (some d2) (.val .bool b)).tm (.tmp d2)= .val .bool b)
 (hX:∀d,xs d= []→f d=walk P G [] H Γ X gl true (((σ1 d).put (some d1) (.val (.slice bs u) (xs d))).put (some d2) (.val .bool true)) (alU F))
 (hY:∀d,f d=walk P G [] H Γ Y gl true (((σ1 d).put (some d1) (.val (.slice bs u) (xs d))).put (some d2) (.val .bool false)) (IS F)):
 (aI G rs oH A B m F ob (.bZ f)).holds P gl:=by
 refine⟨?_,fun _ _ h=>h.elim⟩
 intro d r hd
 have hd':f d=some r:=hd
 refine⟨apg,?_⟩
 subst hnt
 refine C7.DW T hf hb hro (σe:=F.st y0 r) ?_ ?_ ?_ ?_
 ·refine eV.seq (eV.mono (ov T hΓ (fun _=>hro) (fun _=>aJ) (hA d)) ?_)
  intro e' σ he
  cases e' with
  |
   normal=>
   have:σ=σ1 d:=fP he
   subst this
   refine eV.seq ?_
   refine eV.S2 x d1 d2 t t2 e bs u (xs d) h1 hd1 hg1 h2 hd2 hg2 (hx d) ht (hl d) ?_
   intro b hbx
   cases b with
   |
    true=>
    refine eV.cond (hl2 d true) (fun _=>?_) (fun e=>by cases e)
    have hw:=hX d (hbx rfl)
    rw[hd'] at hw
    refine eV.mono (ov T hΓ (fun _=>hro) (fun _=>aJ) hw.symm) ?_
    intro e2 σ2 he2
    cases e2 with
    |ret=>exact yB he2
    |_=>trivial
   |
    false=>
    refine eV.cond (hl2 d false) (fun e=>by cases e) (fun _=>eV.skip ?_)
    have hw:=hY d
    rw[hd'] at hw
    refine eV.mono (ov T hΓ (fun _=>hro) (fun _=>aJ) hw.symm) ?_
    intro e2 σ2 he2
    cases e2 with
    |ret=>exact yB he2
    |normal=>exact yB he2
    |_=>trivial
  |_=>trivial
 ·show(F.st y0 r).df= []
  simp only[SS.st,SS.rz]
  obtain⟨nt',nh,tm,hp,df⟩:=F
  simp only at hF
  subst hF
  rfl
 ·rw[hrs];exact r9 (apK r)
 ·intro b k hbk;exact nH hbk
end Go.Ax
namespace Go.Ax
theorem dR{x:Int}(h1:-9223372036854775808≤x)(h2:x≤9223372036854775807):aQ x=x:=by
 grind [IntKind.wrap,IntKind.bits,IntKind.signed]
theorem bU{i:Nat}(h:i≤4611686018427387904):aQ ((i:Int)+1)=((i+1:Nat):Int):=by
 rw[dR (by omega) (by omega)];rfl
theorem XN{t:Ty}{xs:List t.den}{i:Nat}(h:i<xs.length):nth t xs (i:Int)=xs[i]:=by
 simp[nth,List.getD,h]
theorem l9{kt:Ty}(hk:kt.keyed=true)(k:kt.den):bM kt k k=true:=(dT hk k k).2 rfl
theorem vV{kt:Ty}(hk:kt.keyed=true){p k:kt.den}(h:p≠k):bM kt p k=false:=by
 grind [dT]
theorem sF{α:Type}{kt:Ty}(hk:kt.keyed=true)(k:kt.den)(v:α):∀es:List (kt.den×α),ep kt k (bK kt k v es)=true
 |[]=>by simp[bK,ep,l9 hk]
 |
  e::es=>by
  simp only[bK]
  split
  ·simp[ep,l9 hk]
  ·simp[ep,sF hk k v es]
theorem qJ{α:Type}{kt:Ty}(hk:kt.keyed=true){p k:kt.den}(h:p≠k)(v:α):∀es:List (kt.den×α),ep kt p (bK kt k v es)=ep kt p es
 |[]=>by simp[bK,ep,vV hk h]
 |
  e::es=>by
  simp only[bK]
  split
  ·rename_i he
   have:=(dT hk k e.1).1 he
   rw[this] at h
   simp[ep,this,vV hk h]
  ·simp[ep,qJ hk h v es]
theorem dj{kt vt:Ty}(hk:kt.keyed=true)(k:kt.den)(v:vt.den):∀es:List (kt.den×vt.den),aO kt vt k (bK kt k v es)=v
 |[]=>by simp[bK,aO,l9 hk]
 |
  e::es=>by
  simp only[bK]
  split
  ·simp[aO,l9 hk]
  ·rename_i he
   simp[aO,he,dj hk k v es]
theorem cT{kt vt:Ty}(hk:kt.keyed=true){p k:kt.den}(h:p≠k)(v:vt.den):∀es:List (kt.den×vt.den),aO kt vt p (bK kt k v es)=aO kt vt p es
 |[]=>by simp[bK,aO,vV hk h]
 |
  e::es=>by
  simp only[bK]
  split
  ·rename_i he
   have:=(dT hk k e.1).1 he
   rw[this] at h
   simp[aO,this,vV hk h]
  ·simp[aO,cT hk h v es]
end Go.Ax
namespace Go.Ax
theorem aK{U R:Type}(F:(U→Option R)→U→Option R)(n:Nat)(u:U):aL F (n+1) u=F (aL F n) u:=rfl
theorem Pw{U R:Type}{F:(U→Option R)→U→Option R}(I:U→Prop)(μ:U→Nat)(Q:U→Option R→Prop)
 (h:∀rec u,I u→(∀u',I u'→μ u'<μ u→Q u' (rec u'))→Q u (F rec u)):∀n u,I u→μ u<n→Q u (aL F n u):=by
 intro n
 induction n with
 |zero=>grind
 |
  succ n ih=>
  grind [aK]
theorem aC{U R:Type}(d:U)(f:U→Option R):aG (some (.aS d)) f=f d:=rfl
theorem jj{U R:Type}(r:R)(f:U→Option R):aG (some (.ret r)) f=some r:=rfl
theorem abU{U R:Type}(r:R):(cN (some r):Option (dN U R))=some (.ret r):=rfl
theorem gw{R:Type}(y:YC)(x:Option R):PE y y x=x:=by unfold PE;grind
theorem oz{R:Type}{F:YC→Option R}{r:R}(h:∀y,F y=some r):Bg F=some r:=by
 unfold Bg
 rw[dif_pos ⟨r,h⟩]
 have hc:=Classical.choose_spec (⟨r,h⟩:∃r,∀y,F y=some r)
 have:=hc y0
 grind
theorem Lm{A R:Type}{xs:List A}{K:A→List A→Option R}{r:R}(hne:xs≠[])(h:∀i(hi:i<xs.length),K xs[i] (xs.eraseIdx i)=some r):L2 xs K=some r:=by
 unfold L2
 rw[dif_pos ⟨r,h⟩]
 have hc:=Classical.choose_spec (⟨r,h⟩:∃r,∀i(h:i<xs.length),K xs[i] (xs.eraseIdx i)=some r)
 have h0:0<xs.length:=List.length_pos_iff.2 hne
 grind
theorem gd{α:Type}{c:Prop}[Decidable c]{x y:α}(h:c):(if c then x else y)=x:=aA h
theorem cJ{t:Ty}{xs:List t.den}{i:Nat}(h:i<xs.length):nth t xs (i:Int)=xs[i]:=XN h
theorem scan{U R β:Type}{F:(U→Option (dN β R))→U→Option (dN β R)}(len:Nat)(at_:Nat→U)(b:β)(C:Nat→Prop)(P:R→Prop)
 (step:∀rec i,i<len→(C i∧F rec (at_ i)=rec (at_ (i+1)))∨∃r,P r∧F rec (at_ i)=some (.ret r))
 (stop:∀rec,F rec (at_ len)=some (.aS b)):
 ∀n i,i≤len→len -i<n→((∀j,i≤j→j<len→C j)∧aL F n (at_ i)=some (.aS b))∨∃r,P r∧aL F n (at_ i)=some (.ret r):=by
 intro n
 induction n with
 |zero=>grind
 |
  succ n ih=>
  grind [aK]
theorem Jt{n:Nat}(h:n≤aF):n<dA:=by
 have h1:aF=140737488355328:=rfl
 have h2:dA=18446744073709551616:=rfl
 omega
end Go.Ax
namespace Go.Ax
theorem abV{U R β:Type}{F:(U→Option (dN β R))→U→Option (dN β R)}{L:Nat→U→Option (dN β R)}(hL:L=aL F)(len:Nat)(at_:Nat→U)(b:β)(C:Nat→Prop)(P:R→Prop)
 (step:∀rec i,i<len→(C i∧F rec (at_ i)=rec (at_ (i+1)))∨∃r,P r∧F rec (at_ i)=some (.ret r))
 (stop:∀rec,F rec (at_ len)=some (.aS b)) (n:Nat) (hn:len<n):((∀j,j<len→C j)∧L n (at_ 0)=some (.aS b))∨∃r,P r∧L n (at_ 0)=some (.ret r):=by
 subst hL
 rcases scan len at_ b C P step stop n 0 (by omega) (by omega) with⟨h1,h2⟩|h<;>grind
theorem amH{U R β S:Type}{F:(U→Option (dN β R))→U→Option (dN β R)}{L:Nat→U→Option (dN β R)}(hL:L=aL F)(len:Nat)(at_:Nat→S→U)(end_:S→β)(g:Nat→S→S)(I:Nat→S→Prop)
 (step:∀rec i s,i<len→I i s→F rec (at_ i s)=rec (at_ (i+1) (g i s))∧I (i+1) (g i s))
 (stop:∀rec s,I len s→F rec (at_ len s)=some (.aS (end_ s))):
 ∀n i s,i≤len→len -i<n→I i s→∃s',s'=(List.range' i (len -i)).foldl (fun s j=>g j s) s∧I len s'∧L n (at_ i s)=some (.aS (end_ s')):=by
 subst hL
 intro n
 induction n with
 |zero=>grind
 |
  succ n ih=>
  intro i s hi hn hI
  rw[aK]
  by_cases h:i<len
  ·obtain⟨e,hI'⟩:=step (aL F n) i s h hI
   rw[e]
   obtain⟨s',h1,h2,h3⟩:=ih (i+1) (g i s) (by omega) (by omega) hI'
   refine⟨s',?_,h2,h3⟩
   rw[show len -i=(len -(i+1))+1 from by omega,List.range'_succ,List.foldl_cons]
   exact h1
  ·have:i=len:=by omega
   simp_all
end Go.Ax
namespace Go.Ax
def W{R:Type}(x:Option R)(P:R→Prop):Prop:=∃r,x=some r∧P r
def CT{U R:Type}(B:U→Prop)(Q:R→Prop):dN U R→Prop
 | .aS d=>B d
 | .ret r=>Q r
def ST{A B:Type}(P:A→Prop)(Q:B→Prop):Sum A B→Prop
 | .inl a=>P a
 | .inr b=>Q b
theorem kJ{U R:Type}{B:U→Prop}{Q:R→Prop}{d:U}:CT B Q (.aS d)↔B d:=Iff.rfl
theorem alV{U R:Type}{B:U→Prop}{Q:R→Prop}{r:R}:CT B Q (.ret r)↔Q r:=Iff.rfl
theorem alW{A B:Type}{P:A→Prop}{Q:B→Prop}{a:A}:ST P Q (.inl a)↔P a:=Iff.rfl
theorem alX{A B:Type}{P:A→Prop}{Q:B→Prop}{b:B}:ST P Q (.inr b)↔Q b:=Iff.rfl
theorem xd{R:Type}{a:R}{P:R→Prop}:W (some a) P↔P a:=⟨fun⟨_,h,p⟩=>(by grind),fun h=>⟨a,rfl,h⟩⟩
theorem alY{R:Type}{P:R→Prop}:W (none:Option R) P↔False:=⟨fun⟨_,h,_⟩=>(by cases h),False.elim⟩
theorem kK{A R:Type}{x:Option A}{f:A→Option R}{P:R→Prop}:W (Option.bind x f) P↔W x fun a=>W (f a) P:=by
 cases x with
 |none=>exact⟨fun⟨_,h,_⟩=>(by cases h),fun⟨_,h,_⟩=>(by cases h)⟩
 |some a=>exact⟨fun⟨r,h,p⟩=>⟨a,rfl,r,h,p⟩,fun⟨a',h,r,h2,p⟩=>(by cases h;exact⟨r,h2,p⟩)⟩
theorem amI{R:Type}{c:Prop}[Decidable c]{x y:Option R}{P:R→Prop}:W (if c then x else y) P↔(c→W x P)∧(¬c→W y P):=by
 grind
theorem aZ{U R:Type}{x:Option (dN U R)}{f:U→Option R}{P:R→Prop}:W (aG x f) P↔W x (CT (fun d=>W (f d) P) P):=by
 unfold aG
 rw[kK]
 refine⟨fun⟨c,h,p⟩=>⟨c,h,?_⟩,fun⟨c,h,p⟩=>⟨c,h,?_⟩⟩
 ·cases c with
  |aS d=>exact p
  |ret r=>exact(xd (a:=r) (P:=P)).1 p
 ·cases c with
  |aS d=>exact p
  |ret r=>exact(xd (a:=r) (P:=P)).2 p
theorem aoM{U R:Type}{x:Option R}{Q:dN U R→Prop}:W (cN x) Q↔W x fun r=>Q (.ret r):=by
 cases x with
 |none=>exact⟨fun⟨_,h,_⟩=>(by cases h),fun⟨_,h,_⟩=>(by cases h)⟩
 |some a=>exact⟨fun⟨r,h,p⟩=>(by cases h;exact⟨a,rfl,p⟩),fun⟨r,h,p⟩=>(by cases h;exact⟨_,rfl,p⟩)⟩
theorem qK{A B R:Type}{x:Option (Sum A B)}{kp:A→Option R}{k:B→Option R}{P:R→Prop}:W (gX x kp k) P↔W x (ST (fun a=>W (kp a) P) fun b=>W (k b) P):=by
 unfold gX
 rw[kK]
 refine⟨fun⟨c,h,p⟩=>⟨c,h,?_⟩,fun⟨c,h,p⟩=>⟨c,h,?_⟩⟩<;>cases c<;>exact p
theorem W.mono{R:Type}{x:Option R}{P Q:R→Prop}(h:W x P)(hq:∀r,P r→Q r):W x Q:=h.imp fun r h=>⟨h.1,hq r h.2⟩
theorem CT.mono{U R:Type}{B B':U→Prop}{Q Q':R→Prop}(hb:∀d,B d→B' d)(hq:∀r,Q r→Q' r)(c:dN U R)(h:CT B Q c):CT B' Q' c:=by
 cases c with
 |aS d=>exact hb d h
 |ret r=>exact hq r h
theorem W.ct{U R:Type}{x:Option (dN U R)}{B B':U→Prop}{Q Q':R→Prop}(h:W x (CT B Q))(hb:∀d,B d→B' d)(hq:∀r,Q r→Q' r):W x (CT B' Q'):=h.mono (CT.mono hb hq)
theorem W.st{A B:Type}{x:Option (Sum A B)}{P P':A→Prop}{Q Q':B→Prop}(h:W x (ST P Q))(hp:∀a,P a→P' a)(hq:∀b,Q b→Q' b):W x (ST P' Q'):=
 h.mono fun c hc=>by cases c with
  |inl a=>exact hp a hc
  |inr b=>exact hq b hc
theorem W.iter{U R:Type}{F:(U→Option R)→U→Option R}{P:R→Prop}(I:U→Prop)(μ:U→Nat)
 (h:∀rec u,I u→(∀u',I u'→μ u'<μ u→W (rec u') P)→W (F rec u) P):∀n u,I u→μ u<n→W (aL F n u) P:=
 Pw I μ (fun _ x=>W x P) h
theorem bE{t:Ty}{l:List t.den}{a:Int}(h0:0≤a)(h1:a<(l.length:Int)):nth t l a∈l:=by
 have h:a.toNat<l.length:=by omega
 grind [cJ]
end Go.Ax
namespace Go.Ax
theorem Gy{U R β:Type}{F:(U→Option (dN β R))→U→Option (dN β R)}{f:β→Option R}{n:Nat}(Q:Option R→Prop)(len:Nat)(at_:Nat→U)(b:β)(C:Nat→Prop)(P:R→Prop)
 (hn:len<n)
 (step:∀rec i,i<len→(C i∧F rec (at_ i)=rec (at_ (i+1)))∨∃r,P r∧F rec (at_ i)=some (.ret r))
 (stop:∀rec,F rec (at_ len)=some (.aS b)) (h1:(∀j,j<len→C j)→Q (f b)) (h2:∀r,P r→Q (some r)):Q (aG (aL F n (at_ 0)) f):=by
 rcases abV (L:=aL F) rfl len at_ b C P step stop n hn with⟨h3,e⟩|⟨r,h3,e⟩
 ·rw[e,aC];grind
 ·rw[e,jj];grind
theorem sG{t:Ty}{l:List t.den}{i:Nat}(h:i<l.length):nth t l (i:Int)∈l:=cJ (t:=t) h▸lD h
theorem Uv{E:Type}(t:Ty)(p:t.den→E→Option (Bool×E))(l:List t.den)(e0:E)(q:t.den→Bool)(hp:∀x∈l,p x e0=some (q x,e0))(hl:l.length≤aF):
 ∃r:Int,aG (U:=E) ((aL fun rec(u:List t.den×Int×Int×E)=>match u with|⟨e,d,c,f⟩=>if(decide (c<d))=true then(if 0≤c then(if c<(List.length e:Int) then(Option.bind (p (nth t e c) f) fun⟨a,b⟩=>if a=true then(cN (some (c,b))) else(rec (e,d,aQ (c+(1:Int)),b))) else none) else none) else(some (.aS f))) (Int.toNat (List.length l:Int)+1) (l,(List.length l:Int),(0:Int),e0)) (fun v1=>some ((-1:Int),v1))=some (r,e0)∧(0≤r↔∃x∈l,q x=true):=by
 have hB:aF=140737488355328:=rfl
 refine Gy (fun z=>∃r:Int,z=some (r,e0)∧(0≤r↔∃x∈l,q x=true)) l.length (fun i=>(l,(l.length:Int),(i:Int),e0)) e0 (fun i=>∀h:i<l.length,q l[i]=false) (fun r:Int×E=>∃i,∃h:i<l.length,q l[i]=true∧r=((i:Int),e0)) (by omega) ?step ?stop ?h1 ?h2
 case step=>
  intro rec i hi
  dsimp only
  have d1:decide ((i:Int)<(l.length:Int))=true:=bR (by omega)
  rw[aA d1,aA (cu i),aA (show(i:Int)<(l.length:Int) by omega),hp _ (sG hi),aD]
  dsimp only
  rw[cJ (t:=t) hi]
  cases hq:q l[i] with
  |true=>exact Or.inr ⟨_,⟨i,hi,hq,rfl⟩,rfl⟩
  |
   false=>
   rw[aB (by decide),bU (by omega)]
   grind
 case stop=>
  grind
 case h1=>
  intro h1
  refine⟨-1,rfl,?_⟩
  constructor
  ·grind
  ·rintro⟨x,hx,hq⟩
   obtain⟨j,hj,rfl⟩:=iG hx
   grind
 case h2=>
  rintro _ ⟨i,hi,hq,rfl⟩<;>grind
theorem aoN{E:Type}(t:Ty)(p:t.den→E→Option Bool)(l:List t.den)(e0:E)(q:t.den→Bool)(hp:∀x∈l,p x e0=some (q x))(hl:l.length≤aF):
 ∃r:Int,aG (U:=Unit) ((aL fun rec(u:List t.den×E×Int×Int)=>match u with|⟨c,d,b,a⟩=>if(decide (a<b))=true then(if 0≤a then(if a<(List.length c:Int) then(Option.bind (p (nth t c a) d) fun y4=>if y4=true then(cN (some a)) else(rec (c,d,b,aQ (a+(1:Int))))) else none) else none) else(some (.aS ()))) (Int.toNat (List.length l:Int)+1) (l,e0,(List.length l:Int),(0:Int))) (fun _=>some (-1:Int))=some r∧(0≤r↔∃x∈l,q x=true):=by
 have hB:aF=140737488355328:=rfl
 refine Gy (fun z=>∃r:Int,z=some r∧(0≤r↔∃x∈l,q x=true)) l.length (fun i=>(l,e0,(l.length:Int),(i:Int))) () (fun i=>∀h:i<l.length,q l[i]=false) (fun r:Int=>∃i,∃h:i<l.length,q l[i]=true∧r=(i:Int)) (by omega) ?step ?stop ?h1 ?h2
 case step=>
  intro rec i hi
  dsimp only
  have d1:decide ((i:Int)<(l.length:Int))=true:=bR (by omega)
  rw[aA d1,aA (cu i),aA (show(i:Int)<(l.length:Int) by omega),hp _ (sG hi),aD,cJ (t:=t) hi]
  cases hq:q l[i] with
  |true=>exact Or.inr ⟨_,⟨i,hi,hq,rfl⟩,rfl⟩
  |
   false=>
   rw[aB (by decide),bU (by omega)]
   grind
 case stop=>
  grind
 case h1=>
  intro h1
  refine⟨-1,rfl,?_⟩
  constructor
  ·grind
  ·rintro⟨x,hx,hq⟩
   obtain⟨j,hj,rfl⟩:=iG hx
   grind
 grind
theorem alZ(t:Ty)(p:t.den→Option Bool)(l:List t.den)(q:t.den→Bool)(hp:∀x∈l,p x=some (q x))(hl:l.length≤aF):
 ∃r:Int,aG (U:=Unit) ((aL fun rec(u:List t.den×Int×Int)=>match u with|⟨c,b,a⟩=>if(decide (a<b))=true then(if 0≤a then(if a<(List.length c:Int) then(Option.bind (p (nth t c a)) fun y4=>if y4=true then(cN (some a)) else(rec (c,b,aQ (a+(1:Int))))) else none) else none) else(some (.aS ()))) (Int.toNat (List.length l:Int)+1) (l,(List.length l:Int),(0:Int))) (fun _=>some (-1:Int))=some r∧(0≤r↔∃x∈l,q x=true):=by
 have hB:aF=140737488355328:=rfl
 refine Gy (fun z=>∃r:Int,z=some r∧(0≤r↔∃x∈l,q x=true)) l.length (fun i=>(l,(l.length:Int),(i:Int))) () (fun i=>∀h:i<l.length,q l[i]=false) (fun r:Int=>∃i,∃h:i<l.length,q l[i]=true∧r=(i:Int)) (by omega) ?step ?stop ?h1 ?h2
 case step=>
  intro rec i hi
  dsimp only
  have d1:decide ((i:Int)<(l.length:Int))=true:=bR (by omega)
  rw[aA d1,aA (cu i),aA (show(i:Int)<(l.length:Int) by omega),hp _ (sG hi),aD,cJ (t:=t) hi]
  cases hq:q l[i] with
  |true=>exact Or.inr ⟨_,⟨i,hi,hq,rfl⟩,rfl⟩
  |
   false=>
   rw[aB (by decide),bU (by omega)]
   grind
 case stop=>
  grind
 case h1=>
  intro h1
  refine⟨-1,rfl,?_⟩
  constructor
  ·grind
  ·rintro⟨x,hx,hq⟩
   obtain⟨j,hj,rfl⟩:=iG hx
   grind
 grind
theorem X1(t:Ty)(p:t.den→t.den→Option Bool)(x y:List t.den)(hp:∀a∈x,∀b∈y,∃r,p a b=some r)(hl:x.length=y.length→x.length≤aF):
 ∃r:Bool,(if(!decide ((List.length x:Int)=(List.length y:Int)))=true then(some false) else(aG (U:=Unit) ((aL fun rec(u:List t.den×List t.den×Int×Int)=>match u with|⟨d,c,b,a⟩=>if(decide (a<b))=true then(if 0≤a then(if a<(List.length c:Int) then(if 0≤a then(if a<(List.length d:Int) then(Option.bind (p (nth t c a) (nth t d a)) fun y4=>if(!y4)=true then(cN (some false)) else(rec (d,c,b,aQ (a+(1:Int))))) else none) else none) else none) else none) else(some (.aS ()))) (Int.toNat (List.length x:Int)+1) (y,x,(List.length x:Int),(0:Int))) fun _=>some true))=some r:=by
 have hB:aF=140737488355328:=rfl
 by_cases hxy:x.length=y.length
 ·have hl:=hl hxy
  rw[aB (by grind)]
  refine Gy (fun z=>∃r:Bool,z=some r) x.length (fun i=>(y,x,(x.length:Int),(i:Int))) () (fun _=>True) (fun _:Bool=>True) (by omega) ?step ?stop ?h1 ?h2
  case step=>
   intro rec i hi
   dsimp only
   obtain⟨r,hr⟩:=hp _ (sG hi) _ (sG (t:=t) (l:=y) (i:=i) (by omega))
   rw[aA (bR (by omega)),aA (cu i),aA (by omega),aA (cu i),aA (by omega),hr,aD]
   cases r with
   |false=>exact Or.inr ⟨false,trivial,rfl⟩
   |
    true=>
    rw[aB (by decide),bU (by omega)]
    grind
  case stop=>
   grind
  case h1=>grind
  grind
 ·exact⟨false,aA (by grind)⟩
theorem PG(t:Ty)(q:t.den→t.den→Bool)(x y:List t.den)(hl:x.length=y.length→x.length≤aF):
 ∃r:Bool,(if(!decide ((List.length x:Int)=(List.length y:Int)))=true then(some false) else(aG (U:=Unit) ((aL fun rec(u:List t.den×List t.den×Int×Int)=>match u with|⟨c,d,b,a⟩=>if(decide (a<b))=true then(if 0≤a then(if a<(List.length c:Int) then(if 0≤a then(if a<(List.length d:Int) then(if(!q (nth t c a) (nth t d a))=true then(cN (some false)) else(rec (c,d,b,aQ (a+(1:Int))))) else none) else none) else none) else none) else(some (.aS ()))) (Int.toNat (List.length x:Int)+1) (x,y,(List.length x:Int),(0:Int))) fun _=>some true))=some r:=by
 have hB:aF=140737488355328:=rfl
 by_cases hxy:x.length=y.length
 ·have hl:=hl hxy
  rw[aB (by grind)]
  refine Gy (fun z=>∃r:Bool,z=some r) x.length (fun i=>(x,y,(x.length:Int),(i:Int))) () (fun _=>True) (fun _:Bool=>True) (by omega) ?step ?stop ?h1 ?h2
  case step=>
   intro rec i hi
   dsimp only
   rw[aA (bR (by omega)),aA (cu i),aA (by omega),aA (cu i),aA (by omega)]
   cases q (nth t x i) (nth t y i) with
   |false=>exact Or.inr ⟨false,trivial,rfl⟩
   |
    true=>
    rw[aB (by decide),bU (by omega)]
    grind
  case stop=>
   grind
  case h1=>grind
  grind
 ·exact⟨false,aA (by grind)⟩
end Go.Ax
namespace Go.Ax
theorem dC{α:Type}{kt:Ty}{k:kt.den}{v:α}:∀{es:List (kt.den×α)}{p:kt.den×α},p∈bK kt k v es→p=(k,v)∨p∈es
 |
  [],p,h=>by
  grind [bK]
 |
  e::es,p,h=>by
  unfold bK at h
  split at h
  ·rcases List.mem_cons.1 h with h|h
   ·exact Or.inl h
   ·exact Or.inr (dH _ h)
  ·rcases List.mem_cons.1 h with h|h
   ·exact Or.inr (h▸dx ..)
   ·rcases dC h with h|h
    ·exact Or.inl h
    ·exact Or.inr (dH _ h)
def VR(n:Nat)(M:List (List UInt8×Int)):Prop:=∀p∈M,0≤p.2∧p.2<(n:Int)
theorem VR.get{n:Nat}{M:List (List UInt8×Int)}(h:VR n M){k:List UInt8}(hk:ep .str k M=true):0≤aO .str (.int .i64) k M∧aO .str (.int .i64) k M<(n:Int):=by
 obtain⟨i,hi⟩:=ow (kt:=.str) (vt:=.int .i64) rfl hk
 exact h _ (n8 hi)
theorem ph(t:Ty)(nm:t.den→Option (List UInt8))(g:t.den→List UInt8)(hn:∀x,nm x=some (g x))(l:List t.den)(hl:l.length≤aF):
 ∃M b,VR l.length M∧aG (U:=Bool×List (List UInt8×Int)) ((aL fun rec(u:Bool×List t.den×Int×Int×List (List UInt8×Int))=>match u with|⟨e,c,b,a,d⟩=>if(decide (a<b))=true then(if 0≤a then(if a<(List.length c:Int) then(Option.bind (nm (nth t c a)) fun y4=>if(ep .str y4 d)=true then(rec (true,c,b,aQ (a+(1:Int)),d)) else(Option.bind (nm (nth t c a)) fun y5=>if List.length d+1≤aF then(rec (e,c,b,aQ (a+(1:Int)),bK .str y5 a d)) else none)) else none) else none) else(some (.aS (e,d))):Nat→_→Option (dN (Bool×List (List UInt8×Int)) (Option (List (List UInt8×Int))×Bool))) (Int.toNat (List.length l:Int)+1) (false,l,(List.length l:Int),(0:Int),([]:List (List UInt8×Int)))) (fun u=>match u with|⟨b,a⟩=>some (some a,b))=some (some M,b):=by
 have hB:aF=140737488355328:=rfl
 suffices key:∀(n i:Nat)(e:Bool)(d:List (List UInt8×Int)),l.length -i<n→i≤l.length→d.length≤i→VR l.length d→∃M b,VR l.length M∧aG (U:=Bool×List (List UInt8×Int)) ((aL fun rec(u:Bool×List t.den×Int×Int×List (List UInt8×Int))=>match u with|⟨e,c,b,a,d⟩=>if(decide (a<b))=true then(if 0≤a then(if a<(List.length c:Int) then(Option.bind (nm (nth t c a)) fun y4=>if(ep .str y4 d)=true then(rec (true,c,b,aQ (a+(1:Int)),d)) else(Option.bind (nm (nth t c a)) fun y5=>if List.length d+1≤aF then(rec (e,c,b,aQ (a+(1:Int)),bK .str y5 a d)) else none)) else none) else none) else(some (.aS (e,d))):Nat→_→Option (dN (Bool×List (List UInt8×Int)) (Option (List (List UInt8×Int))×Bool))) n (e,l,(List.length l:Int),(i:Int),d)) (fun u=>match u with|⟨b,a⟩=>some (some a,b))=some (some M,b) from
  key _ 0 false [] (by omega) (by omega) (by simp) fun p hp=>by cases hp
 intro n
 induction n with
 |zero=>grind
 |
  succ n ih=>
  intro i e d hn' hi hd hv
  rw[aK]
  generalize aL _ n=rec at ih ⊢
  dsimp only
  by_cases h:i<l.length
  ·rw[aA (bR (by omega)),aA (cu i),aA (show(i:Int)<(l.length:Int) by omega),hn,aD,bU (by omega)]
   split
   ·exact ih (i+1) true d (by omega) (by omega) (by omega) hv
   ·rw[aD,aA (by omega)]
    refine ih (i+1) e _ (by omega) (by omega) (cW (dp (kt:=.str)) (by omega)) fun p hp=>?_
    rcases dC (kt:=.str) hp with rfl|hp
    ·grind
    ·exact hv p hp
  ·rw[aB (by grind)]
   exact⟨d,e,hv,rfl⟩
end Go.Ax
namespace Go.Ax
theorem bW{S U R:Type}{L:Nat→U→Option R}{F:(U→Option R)→U→Option R}(e:L=aL F)(P:R→Prop)(len:Nat)(st:Nat→S→U)(I:Nat→S→Prop)
 (step:∀rec i s,i<len→I i s→(∀s',I (i+1) s'→W (rec (st (i+1) s')) P)→W (F rec (st i s)) P)
 (stop:∀rec s,I len s→W (F rec (st len s)) P):∀n i s,len -i<n→i≤len→I i s→W (L n (st i s)) P:=by
 subst e
 intro n
 induction n with
 |zero=>grind
 |
  succ n ih=>
  grind [aK]
theorem W.tot{R:Type}{x:Option R}{P:R→Prop}(h:∃r,x=some r)(hp:∀r,P r):W x P:=h.imp fun r h=>⟨h,hp r⟩
theorem W.bt{A R:Type}{x:Option A}{f:A→Option R}{P:R→Prop}(h:∃r,x=some r)(hp:∀r,W (f r) P):W (Option.bind x f) P:=kK.2 (W.tot h hp)
theorem ma{α:Type}(l:List α)(c:Nat)(h:l.length*c≤aF):(if(List.length ([]:List α)+List.length l)*c≤aF then some l else none)=some l:=by
 grind
end Go.Ax
namespace Go.Ax
end Go.Ax
namespace Go.Ax
theorem gu{S U R:Type}{L:Nat→U→Option R}{F:(U→Option R)→U→Option R}(e:L=aL F)(Q:Nat→S→R→Prop)(len:Nat)(st:Nat→S→U)(I:Nat→S→Prop)
 (step:∀rec i s,i<len→I i s→(∀s',I (i+1) s'→W (rec (st (i+1) s')) (Q (i+1) s'))→W (F rec (st i s)) (Q i s))
 (stop:∀rec s,I len s→W (F rec (st len s)) (Q len s)):∀n i s,len -i<n→i≤len→I i s→W (L n (st i s)) (Q i s):=by
 subst e
 intro n
 induction n with
 |zero=>intro i s h;omega
 |
  succ n ih=>
  intro i s hn hi hI
  rw[aK]
  by_cases h:i<len
  ·exact step _ i s h hI fun s' h'=>ih (i+1) s' (by omega) (by omega) h'
  ·have:i=len:=by omega
   subst this
   exact stop _ s hI
end Go.Ax
namespace Go.Ax
def pj(W:World):Env:=⟨fun _=>none,fun _=>undef,fun _=>.unit,fun g=>g<W.heap.size,fun _ _=>False⟩
theorem bO.collect{α:Type}{r:List Value→α→Prop}{k:Nat}:∀(n:Nat)(cs:List Value),cs.length=n*k→(∀i,i<n→∃y,r ((cs.drop (i*k)).take k) y)→∃ys,ys.length=n∧bO r cs ys
 |0,cs,hl,_=>⟨[],rfl,ES (by grind)⟩
 |
  n+1,cs,hl,h=>by
  obtain⟨y,hy⟩:=h 0 (by omega)
  rw[Nat.zero_mul,fN] at hy
  obtain⟨ys,h1,h2⟩:=bO.collect (k:=k) n (cs.drop k) (by grind) (fun i hi=>by
   obtain⟨z,hz⟩:=h (i+1) (by omega)
   refine⟨z,?_⟩
   rw[oc]
   rw[show k+i*k=(i+1)*k from by grind]
   exact hz)
  exact⟨y::ys,by simp[h1],cs.take k,cs.drop k,(oL k cs).symm,hy,h2⟩
theorem cells?_get{w:World}{base:Nat}{a:Addr}{n:Nat}{cs:List Value}(h:w.cells? base a n=some cs):cs.length=n∧∀j v,cs[j]? =some v→w.cell? (a.add j)=some v:=by
 unfold World.cells? at h
 split at h
 ·have hl:=mapM_some_length h
  refine⟨by grind,fun j v hj=>?_⟩
  have hlt:j<n:=by
   grind
  have:=mapM_some_get h j j (by grind)
  grind
 grind
theorem Addr.add_add(a:Addr)(i j:Nat):(a.add i).add j=a.add (i+j):=by
 grind [Addr.add]
theorem bO.Px{α:Type}{w:World}{r:List Value→α→Prop}{a:Addr}{k:Nat}:∀(n s:Nat),(∀i,i<n→∃c y,w.cells? 0 (a.add ((s+i)*k)) k=some c∧r c y)→∃cs ys,ys.length=n∧bO r cs ys∧∀j v,cs[j]? =some v→w.cell? (a.add (s*k+j))=some v
 |0,s,_=>⟨[],[],rfl,rfl,fun j v hj=>by simp at hj⟩
 |
  n+1,s,h=>by
  obtain⟨c,y,h1,h2⟩:=h 0 (by omega)
  rw[Nat.add_zero] at h1
  obtain⟨hl,hc⟩:=cells?_get h1
  obtain⟨cs,ys,g1,g2,g3⟩:=bO.Px n (s+1) (fun i hi=>by
   obtain⟨c',y',q1,q2⟩:=h (i+1) (by omega)
   exact⟨c',y',by rw[show s+1+i=s+(i+1) from by omega];exact q1,q2⟩)
  refine⟨c++cs,y::ys,by simp[g1],⟨c,cs,rfl,h2,g2⟩,?_⟩
  intro j v hj
  rw[List.getElem?_append] at hj
  split at hj
  ·have:=hc j v hj
   rwa [Addr.add_add] at this
  ·rename_i hge
   have:=g3 _ v hj
   rw[hl] at this hge
   rw[show(s+1)*k+(j -k)=s*k+j from by rw[iW,Nat.one_mul];omega] at this
   exact this
section
variable{H:Type} {enc:TypeId×Value→H} {P:Program} {G:dq} (T:cQ P G) {W:World} {spare:Nat→Bool} {held:Bool}
include T
theorem cQ.cellsOf{t:TypeId}{td:TD}(h:G.at t=some td):P.cellsOf t=td.ty.size:=by
 obtain⟨i,_,h1,_,h2,_⟩:=T.info h
 simp[Program.cellsOf,h1,h2]
theorem cQ.Py{t:TypeId}{td:TD}(ht:G.at t=some td)(hs:td.ty= .bool):P.underlying t=some .bool:=by
 obtain⟨ii,dd,_,h1,_,h2,_⟩:=T.info ht
 have ao2:=fI h2
 rw[h1]
 cases hd:dd with
 |bool=>rfl
 |struct fs=>grind [fR,Ty.isAgg]
 |array n e=>grind [fR,Ty.isAgg]
 |slice e=>grind [d7,Ty.same]
 |map k e=>grind [d7,Ty.same]
 |_=>subst hd;simp[d7,Ty.same,hs] at h2
def Ty.eW:Ty→Bool
 | .arr _ t=>t.eW
 | .slice _ t=>t.eW
 | .pair a b=>a.eW&&b.eW
 | .aY _| .fns _| .map _ _=>false
 |_=>true
theorem Gz:∀(fuel:Nat)(t:TypeId)(td:TD)(cs:List Value)(d:DataW H)(ps:List MemPlace),G.at t=some td→td.ty.eW=true→DataW.trod enc P W 0 spare held fuel t cs=some (d,ps)→(∀n∈d.weights P t,n≤aF)→
 ∃x:td.ty.den,Rel W (fun g=>g<W.heap.size) td.ty cs x
 |0,t,td,cs,d,ps,_,_,h,_=>by trivial
 |
  fuel+1,t,td,cs,d,ps,ht,hp,h,hw=>by
  have ih:=fun t td cs d ps=>Gz fuel t td cs d ps
  obtain⟨ty,te,te2⟩:=td
  simp only at hp
  cases ty with
  |
   int k=>
   obtain⟨n,e1,e2,e3⟩:=DataW.trod_int (T.intOf ht rfl) h
   simp only[Lit.wf,bP,rE] at e3
   exact⟨n,e1,e3⟩
  |
   bool=>
   obtain⟨b,e1,e2⟩:=DataW.trod_bool (T.Py ht rfl) h
   exact⟨b,e1⟩
  |
   str=>
   have hu:=T.strOf ht rfl
   unfold DataW.trod at h
   rw[hu] at h
   split at h<;>simp_all
   obtain⟨_,e1,e2⟩:=h
   subst e1
   rename_i s _
   have hlen:s.data.toList.length≤aF:=hw s.data.toList.length (by simp[DataW.weights])
   exact⟨s.data.toList,by simp,hlen⟩
  |
   arr n u=>
   obtain⟨tde,h1,h2,h3⟩:=T.uU ht rfl
   simp only at h1 h2 h3
   subst h3
   obtain⟨xs,m,e1,e2,e3,e4,e5⟩:=DataW.trod_array h1 h
   cases e1;cases e2
   have hcz:=T.cellsOf h2
   have hall:∀i,i<n→∃y,Rel W (fun g=>g<W.heap.size) tde.ty ((cs.drop (i*tde.ty.size)).take tde.ty.size) y:=by
    intro i hi
    have hx:=e5 i hi
    have hlt:i<xs.length:=by omega
    rw[rF hlt,hcz] at hx
    refine ih te tde _ xs[i].1 xs[i].2 h2 hp hx (fun q hq=>hw q ?_)
    have key:∀(l:List (DataW H))(i:Nat)(d:DataW H),l[i]? =some d→∀q∈d.weights P te,q∈DataW.weightsAll P te l:=by
     intro l
     induction l with
     |nil=>grind
     |
      cons a l ihl=>
      grind [DataW.weightsAll]
    simp only[DataW.weights,h1]
    exact key _ i _ (by grind) q hq
   have hl:cs.length=n*tde.ty.size:=by
    rw[e3];exact T.cellsOf ht
   obtain⟨ys,y1,y2⟩:=bO.collect n cs hl hall
   exact⟨ys,y1,y2⟩
  |
   slice bs u=>
   obtain⟨te',ie,h1,h2,h3,h4,h5,h6,h7⟩:=T.eK ht rfl
   simp only at h1 h2 h4
   subst h3
   have hcz:=T.cellsOf h2
   rcases DataW.trod_slice h1 h with⟨e1,e2⟩|⟨a,len,cap,elems,rest,m,e1,e2,e3,e4,e5,e6,e7,e8,_⟩
   ·exact⟨[],none,0,e1,cV _,by simp,by simp,Or.inl rfl⟩
   ·cases e1;cases e3
    have hb:P.bytesOf te=bs:=by simp[Program.bytesOf,h4,h5]
    have hw0:(elems.length+rest.length)*bs≤aF:=by
     simp_all[DataW.weights]
    have hlb:len*bs≤aF:=cW (ju _ (by omega)) hw0
    have hlm:len≤aF:=cW (Nat.le_mul_of_pos_right _ h7) hlb
    have hall:∀i,i<len→∃c y,W.cells? 0 (a.add ((0+i)*te'.ty.size)) te'.ty.size=some c∧Rel W (fun g=>g<W.heap.size) te'.ty c y:=by
     intro i hi
     have hx:=e8 i hi
     have hlt:i<elems.length:=by omega
     rw[rF hlt,hcz] at hx
     simp only[xh] at hx
     obtain⟨c,c1,c2⟩:=hx
     obtain⟨y,hy⟩:=ih te te' c elems[i].1 elems[i].2 h2 hp c2 (fun q hq=>hw q (by
      have key:∀(l:List (DataW H))(i:Nat)(d:DataW H),l[i]? =some d→∀q∈d.weights P te,q∈DataW.weightsAll P te l:=by
       intro l
       induction l with
       |nil=>grind
       |
        cons a l ihl=>
        grind [DataW.weightsAll]
      simp only[DataW.weights,h1,eN,j5]
      exact Or.inr (Or.inl (key _ i _ (by grind) q hq))))
     grind
    obtain⟨cs',ys,g1,g2,g3⟩:=bO.Px (w:=W) (a:=a) len 0 hall
    subst g1
    rw[e2]
    refine⟨ys,some a,cap,rfl,e5,hlb,hlm,?_⟩
    cases hys:ys with
    |nil=>grind
    |
     cons y0 ys0=>
     right
     have hcl:=bO.len (n:=te'.ty.size) (fun _ _ h=>Rel.len h) g2
     have hpos:0<cs'.length:=by simp_all
     have hc0:=g3 0 cs'[0] (by grind)
     simp only[Nat.zero_mul,Nat.add_zero,Addr.add,cC] at hc0
     have hspot:a.spot=none∧a.block<W.heap.size:=by
      unfold World.cell? at hc0
      split at hc0
      ·rename_i c _ _ hh
       split at hc0
       ·cases hc0
       ·rename_i hs
        exact⟨by simp_all,(Array.getElem?_eq_some_iff.1 hh).1⟩
      grind
     obtain⟨b,o,sp⟩:=a
     simp only at hspot
     obtain⟨hs,hblt⟩:=hspot
     subst hs
     refine⟨b,o,cs',rfl,hblt,?_,by grind⟩
     intro j v hj
     grind
  |
   pair ta tb=>
   obtain⟨fs,h1,h2⟩:=T.structOf ht rfl
   obtain⟨xs,m,e1,e2,e3,e4,e5⟩:=DataW.trod_struct h1 h
   cases e1;cases e2
   have hl:cs.length=(Ty.pair ta tb).size:=by rw[e3];exact T.cellsOf ht
   have key:∀(l:List Field)(ty:Ty)(off:Nat)(ys:List (DataW H×List MemPlace)),dS G l off ty=true→ty.eW=true→off+ty.size≤cs.length→ys.length=l.length→
    (∀(i:Nat)(f:Field),l[i]? =some f→DataW.trod enc P W 0 spare held fuel f.type ((cs.drop f.offset).take (P.cellsOf f.type))=ys[i]?)→
    (∀n∈DataW.weightsEach P (l.map (·.type)) (ys.map (·.1)),n≤aF)→∃x:ty.den,Rel W (fun g=>g<W.heap.size) ty ((cs.drop off).take ty.size) x:=by
    intro l
    induction l with
    |
     nil=>
     intro ty off ys hf _ _ _ _ _
     cases ty<;>simp[dS] at hf
     exact⟨(),by trivial⟩
    |
     cons f l ihl=>
     intro ty off ys hf hpu hle hyl hrd hwe
     cases ty with
     |
      pair a b=>
      simp only[dS,bP] at hf
      obtain⟨⟨⟨g1,g2⟩,g3⟩,g4⟩:=hf
      simp only[Ty.eW,bP] at hpu
      cases ys with
      |nil=>grind
      |
       cons y ys=>
       split at g1
       ·rename_i td htd
        have:=Ty.aE g1;subst this
        have g2:=dm g2
        have hcz:=T.cellsOf htd
        simp only[Ty.size] at hle
        have hr0:=hrd 0 f rfl
        rw[g2,hcz] at hr0
        simp only[List.getElem?_cons_zero] at hr0
        simp only[fp,DataW.weightsEach,j5] at hwe
        obtain⟨x1,hx1⟩:=ih f.type td _ y.1 y.2 htd hpu.1 hr0 (fun n hn=>hwe n (Or.inl hn))
        obtain⟨x2,hx2⟩:=ihl b (off+td.ty.size) ys g4 hpu.2 (by omega) (by grind) (fun i f' hf'=>by
         have:=hrd (i+1) f' (by grind)
         grind) (fun n hn=>hwe n (Or.inr hn))
        refine⟨(x1,x2),(cs.drop off).take td.ty.size,(cs.drop (off+td.ty.size)).take b.size,?_,hx1,hx2⟩
        simp_all[Ty.size,List.take_add]
       grind
     |_=>trivial
   grind [DataW.weights]
  |
   unit=>
   obtain⟨ii,dd,_,hu,hsz,hdo,_⟩:=T.info ht
   cases dd with
   |
    struct fs=>
    obtain⟨xs,m,e1,e2,e3,e4,e5⟩:=DataW.trod_struct hu h
    have hl:cs.length=0:=by rw[e3];exact T.cellsOf ht
    exact⟨(),ES hl⟩
   |slice e=>simp[d7,Ty.same] at hdo
   |array n e=>simp[d7] at hdo
   |map k e=>trivial
   |_=>trivial
  |aY k=>trivial
  |fns n=>trivial
  |map k v=>trivial
theorem fV{base:Nat}{t:TypeId}{td:TD}{v:Value}{d:DataW H}{p:List MemPlace}(ht:G.at t=some td)(hp:td.ty.eW=true)(iq:Value.okWide P W .any base t v)(h:DataW.Trod enc P W 0 spare held t v d p)(hw:∀n∈d.weights P t,n≤aF):
 ∃x:td.ty.den,RV (pj W) W (.val td.ty x) v∧wf td.ty x:=by
 obtain⟨fuel,h⟩:=h
 obtain⟨x,hx⟩:=Gz T fuel t td _ d p ht hp h hw
 refine⟨x,RV.gZ ?_,Rel.wf hx⟩
 obtain⟨ii,dd,_,hu,_,hdo,_⟩:=T.info ht
 have ao2:=fI hdo
 cases ha:td.ty.isAgg with
 |
  true=>
  rw[ha] at ao2
  unfold Value.okWide at iq
  rw[hu] at iq
  cases dd<;>simp[fR] at ao2<;>(obtain⟨cs,e,_⟩:=iq;subst e;exact Or.inl ⟨ha,cs,rfl,hx⟩)
 |
  false=>
  rw[ha] at ao2
  refine Or.inr ⟨ha,?_⟩
  cases v with
  |
   agg cs=>
   unfold Value.okWide at iq
   rw[hu] at iq
   cases dd<;>simp[fR] at ao2<;>simp[Cell.okWide,Cell.ok,hu] at iq
  |_=>trivial
end
theorem mapM_mono{α β:Type}{f g:α→Option β}:∀{l:List α}{r:List β},(∀x∈l,∀y,f x=some y→g x=some y)→l.mapM f=some r→l.mapM g=some r
 |[],r,_,h=>by grind
 |
  x::l,r,hm,h=>by
  simp only[List.mapM_cons,Option.bind_eq_bind,xh,Option.pure_def,fG] at h ⊢
  obtain⟨y,h1,ys,h2,h3⟩:=h
  exact⟨y,hm x (by simp) y h1,ys,mapM_mono (fun z hz=>hm z (by simp[hz])) h2,h3⟩
theorem cells?_stay{W W':World}(hs:∀b,b<W.heap.size→W'.heap[b]? =W.heap[b]?){a:Addr}{n:Nat}{cs:List Value}(h:W.cells? 0 a n=some cs):W'.cells? 0 a n=some cs:=by
 unfold World.cells? at h ⊢
 split at h
 ·rename_i hb
  rw[aA hb]
  grind [mapM_mono,World.cell?]
 grind
section
variable{H:Type} {enc:TypeId×Value→H} {P:Program} {G:dq} (T:cQ P G) {W W':World} (hs:∀b,b<W.heap.size→W'.heap[b]? =W.heap[b]?)
include T hs
theorem B5:∀(fuel:Nat)(t:TypeId)(td:TD)(cs:List Value)(x:DataW H×List MemPlace),G.at t=some td→td.ty.eW=true→DataW.trod enc P W 0 (fun _=>true) true fuel t cs=some x→DataW.trod enc P W' 0 (fun b=>decide (b<W.heap.size)) true fuel t cs=some x
 |0,t,td,cs,x,_,_,h=>by trivial
 |
  fuel+1,t,td,cs,x,ht,hp,h=>by
  have ih:=fun t td cs x=>B5 fuel t td cs x
  obtain⟨ty,te,te2⟩:=td
  simp only at hp
  cases ty with
  |
   int k=>
   have hu:=T.intOf ht rfl
   unfold DataW.trod at h ⊢
   rw[hu] at h ⊢
   split at h<;>simp_all
  |
   bool=>
   have hu:=T.Py ht rfl
   unfold DataW.trod at h ⊢
   rw[hu] at h ⊢
   split at h<;>simp_all
  |
   str=>
   have hu:=T.strOf ht rfl
   unfold DataW.trod at h ⊢
   rw[hu] at h ⊢
   split at h<;>simp_all
  |
   arr n u=>
   obtain⟨tde,h1,h2,h3⟩:=T.uU ht rfl
   simp only at h1 h2 h3
   subst h3
   unfold DataW.trod at h ⊢
   rw[h1] at h ⊢
   simp only at h ⊢
   split at h
   ·rename_i hl
    rw[aA hl]
    simp only[jz] at h ⊢
    obtain⟨xs,g1,g2⟩:=h
    exact⟨xs,mapM_mono (fun i _ y hy=>ih te tde _ y h2 hp hy) g1,g2⟩
   grind
  |
   slice bs u=>
   obtain⟨te',ie,h1,h2,h3,h4,h5,h6,h7⟩:=T.eK ht rfl
   simp only at h1 h2 h4
   subst h3
   have hcz:=T.cellsOf h2
   unfold DataW.trod at h ⊢
   rw[h1] at h ⊢
   split at h
   all_goals first
    |(cases h;rfl)
    |skip
   all_goals try (simp_all;done)
   rename_i e0 a len cap heq0
   have he0:e0=te:=by grind
   subst he0
   simp only[cC] at h
   simp only
   split at h
   ·rename_i hc
    rw[aA hc]
    simp only[xh,jz] at h ⊢
    obtain⟨elems,g1,rest,g2,g3⟩:=h
    have step:∀(i:Nat)(y:DataW H×List MemPlace),(W.cells? 0 (a.add (i*P.cellsOf e0)) (P.cellsOf e0)).bind (DataW.trod enc P W 0 (fun _=>true) true fuel e0)=some y→(W'.cells? 0 (a.add (i*P.cellsOf e0)) (P.cellsOf e0)).bind (DataW.trod enc P W' 0 (fun b=>decide (b<W.heap.size)) true fuel e0)=some y:=by
     intro i y hy
     simp only[xh] at hy ⊢
     obtain⟨c,c1,c2⟩:=hy
     exact⟨c,cells?_stay hs c1,ih e0 te' c y h2 hp c2⟩
    refine⟨elems,mapM_mono (fun i _ y hy=>step i y hy) g1,rest,?_,g3⟩
    by_cases hz:cap -len=0
    ·grind
    ·have hblk:a.block<W.heap.size:=by
      obtain⟨k,hk⟩:∃k,cap -len=k+1:=⟨cap -len -1,by omega⟩
      rw[hk,List.range_succ_eq_map] at g2
      simp only[List.mapM_cons,Option.bind_eq_bind,xh] at g2
      obtain⟨y,⟨c,c1,_⟩,_⟩:=g2
      obtain⟨l1,l2⟩:=cells?_get c1
      have hpos:0<c.length:=by grind
      have:=l2 0 c[0] (by grind)
      grind [World.cell?,Addr.add]
     simp only[hblk,decide_true,cC]
     grind [mapM_mono]
   grind
  |
   pair ta tb=>
   obtain⟨fs,h1,h2⟩:=T.structOf ht rfl
   unfold DataW.trod at h ⊢
   rw[h1] at h ⊢
   simp only at h ⊢
   split at h
   ·rename_i hl
    rw[aA hl]
    simp only[jz] at h ⊢
    obtain⟨xs,g1,g2⟩:=h
    refine⟨xs,mapM_mono (fun f hf y hy=>?_) g1,g2⟩
    have key:∀(l:List Field)(ty:Ty)(off:Nat),dS G l off ty=true→ty.eW=true→∀f∈l,∃td,G.at f.type=some td∧td.ty.eW=true:=by
     intro l
     induction l with
     |nil=>grind
     |
      cons f0 l ihl=>
      intro ty off hfo hpu f hf
      cases ty with
      |
       pair a b=>
       simp only[dS,bP] at hfo
       obtain⟨⟨⟨q1,q2⟩,q3⟩,q4⟩:=hfo
       simp only[Ty.eW,bP] at hpu
       grind [Ty.aE]
      |_=>trivial
    grind
   grind
  |
   unit=>
   obtain⟨ii,dd,_,hu,hsz,hdo,_⟩:=T.info ht
   cases dd with
   |
    struct fs=>
    have hfs:fs.toList= []:=by
     grind [d7,dS]
    simp_all[DataW.trod]
   |slice e=>simp[d7,Ty.same] at hdo
   |array n e=>simp[d7] at hdo
   |map k e=>trivial
   |_=>trivial
  |aY k=>trivial
  |fns n=>trivial
  |map k v=>trivial
theorem vW:∀(ts:List TypeId)(vs:List Value)(ds:List (DataW H))(ps:List MemPlace),(∀t∈ts,∃td,G.at t=some td∧td.ty.eW=true)→DataW.TrodAll enc P W 0 (fun _=>true) true ts vs ds ps→DataW.TrodAll enc P W' 0 (fun b=>decide (b<W.heap.size)) true ts vs ds ps
 |
  [],vs,ds,ps,_,h=>by
  cases vs<;>cases ds<;>first|exact h|exact h.elim
 |
  t::ts,vs,ds,ps,ht,h=>by
  cases vs with
  |nil=>cases ds<;>exact h.elim
  |
   cons v vs=>
   cases ds with
   |nil=>exact h.elim
   |
    cons d ds=>
    obtain⟨p,q,⟨fuel,h1⟩,h2,h3⟩:=h
    obtain⟨td,htd,hpd⟩:=ht t (by simp)
    exact⟨p,q,⟨fuel,B5 T hs fuel t td _ _ htd hpd h1⟩,vW ts vs ds q (fun t' ht'=>ht t' (by simp[ht'])) h2,h3⟩
end
theorem HW.bare{gl:Ctx}{W:World}(n:Nat)(hg:EU gl (pj W) W):HW gl (pj W) W (bJ (List.replicate n none) []):=by
 have no:∀(b:Nat)(k:aX),(bJ (List.replicate n (none:Option aX)) [])[b]? ≠some (some k):=by
  grind [bJ]
 exact⟨fun b k h=>absurd h (no b k),fun b _ k _ _ h=>absurd h (no b k),fun b k _ h=>absurd h (no b k),fun g hg=>hg,hg,fun b k _ h=>absurd h (no b k)⟩
theorem vX{H:Type}{enc:TypeId×Value→H}{P:Program}{G:dq}(T:cQ P G){gl:Ctx}{f:FuncId}{fn:Func}{s:ChangeSpec}{W:World}{args:Array Value}{ds gs:List (DataW H)}{before:List MemPlace}{avs:List AV}{m:Nat}{bt:TypeId}
 (hc:Fc P gl f avs (bJ (List.replicate m none) []) (.ret (.val .bool true)) (fu m [])) (hv:ru (pj W) W avs args.toList) (hg:EU gl (pj W) W)
 (hW:DataW.Whole enc P fn.params.toList s.vars false W args.toList ds gs before) (hvars:s.vars= []) (hpt:∀t∈fn.params.toList,∃td,G.at t=some td∧td.ty.eW=true)
 (hrt:fn.resultTypes= #[bt]) (hbt:P.underlying bt=some .bool) (hspec:∀gs,gs= []→(s.fn H (ds++gs)).results= [.lit (.bool true)]∧(s.fn H (ds++gs)).args=ds∧(s.fn H (ds++gs)).vars= []):
 Calls P f args W fun e W'=>∃v,e= .returned v∧s.post enc P fn false true false false W args v W':=by
 have apg:=hc.2 (pj W) W args.toList hv (HW.bare m hg)
 have e0:args.toList.toArray=args:=by simp
 rw[e0] at apg
 refine apg.mono ?_
 rintro e W' ⟨E',hR,_,hX⟩
 cases e with
 |panicked ch=>trivial
 |outgrown=>trivial
 |
  returned v=>
  have hv':=RV.ib hR
  subst hv'
  refine⟨_,rfl,?_⟩
  have noO:∀g,¬cU (bJ (List.replicate m (none:Option aX)) []) (pj W) g:=by
   rintro g ⟨b,k,hb,_⟩
   grind [bJ]
  have stay:∀b,b<W.heap.size→W'.heap[b]? =W.heap[b]? :=fun b hb=>hX.kept b hb (noO b)
  have hW0:=hW
  obtain⟨p,q,hA,hV,hpq,hfz,hnd⟩:=hW
  rw[hvars] at hV
  have hgs:gs= []∧q= []:=by
   cases gs with
   |nil=>trivial
   |cons _ _=>trivial
  obtain⟨hgs,hq⟩:=hgs
  obtain⟨s1,s2,s3⟩:=hspec gs hgs
  refine⟨ds,gs,before,[],p,[],hW0,?_,?_,?_,?_,fun h=>by cases h⟩
  ·rw[s1,hrt]
   refine⟨[],[],⟨1,?_⟩,rfl,rfl⟩
   simp[DataW.trod,hbt,Value.cells]
  ·grind [vW]
  ·rw[s3,hvars];rfl
  ·refine⟨hX.os,hX.output,fun i hi=>?_⟩<;>grind
end Go.Ax
namespace Go.Ax
end Go.Ax
namespace Go.Ax
theorem GA{P:Program}{w:World}:∀{l:List (String×DataW Unit)}{ps:List MemPlace},DataW.LaidVars P w l ps→∀(i:Nat)(n:String)(d:DataW Unit),l[i]? =some (n,d)→
 ∃g t cs fuel p,P.globalNamed n=some g∧(P.globals[g]?).map (·.type)=some t∧w.var? P n=some cs∧DataW.trod (fun _=>()) P w 0 (fun _=>true) false fuel t cs.toList=some (d,p)
 |[],_,_,i,n,d,hi=>by grind
 |
  (m,e)::r,ps,⟨g,t,cs,fuel,p,q,h1,h2,h3,h4,h5,_⟩,i,n,d,hi=>by
  cases i with
  |
   zero=>
   grind
  |succ i=>exact GA h5 i n d (by simpa using hi)
theorem ef{P:Program}{W:World}{laid:List (String×DataW Unit)}(h:laidMet P laid W){i:Nat}{name:String}{k:IntKind}{a b:Int}(hi:laid[i]? =some (name,.agg [.lit (.int k a),.lit (.int k b)])){g:Nat}{t:TypeId}{f0 f1:Field}
 (hg:P.globalNamed name=some g) (hty:(P.globals[g]?).map (·.type)=some t) (ht:P.underlying t=some (.struct #[f0,f1])) (h0:P.underlying f0.type=some (.int k)) (h1:P.underlying f1.type=some (.int k)) (hc0:P.cellsOf f0.type=1) (hc1:P.cellsOf f1.type=1) (ho0:f0.offset=0) (ho1:f1.offset=1) (_hct:P.cellsOf t=2)
 (ha:k.min≤a∧a≤k.max) (hb:k.min≤b∧b≤k.max):
 (pj W).S g∧∃cs,tX W ⟨g,0,none⟩ cs∧Rel W (pj W).S (.pair (.int k) (.pair (.int k) .unit)) cs (a,b,()):=by
 obtain⟨ps,hl,_⟩:=h
 obtain⟨g',t',cs,fuel,p,hg',ht',apF,hd⟩:=GA hl i _ _ hi
 obtain rfl:=fP (hg.symm.trans hg')
 obtain rfl:=fP (hty.symm.trans ht')
 obtain⟨xs,n,_,hx,_,hxl,hf⟩:=DataW.trod_struct ht hd
 have hx1:xs.map (·.1)= [.lit (.int k a),.lit (.int k b)]:=by
  grind
 have q0:=hf 0 f0 rfl
 have q1:=hf 1 f1 rfl
 obtain⟨x0,x1,rfl⟩:∃x0 x1,xs= [x0,x1]:=by
  match xs,hxl with
  |[x0,x1],_=>grind
 rw[ho0,hc0] at q0
 rw[ho1,hc1] at q1
 simp only[fp,List.map_nil,List.cons.injEq,nc] at hx1
 obtain⟨z0,c0,e0,_⟩:=DataW.trod_int h0 q0
 obtain⟨z1,c1,e1,_⟩:=DataW.trod_int h1 q1
 subst e0;subst e1
 obtain⟨g0,g1⟩:=hx1
 have g0:z0=a:=by grind
 have g1:z1=b:=by grind
 subst g0;subst g1
 have hcell:∀j,W.cell? ⟨g,j,none⟩=cs[j]? :=fun j=>World.var?_cell hg apF j
 have v0:cs.toList[0]? =some (.int k z0):=by
  have:=congrArg (·[0]?) c0
  grind
 have v1:cs.toList[1]? =some (.int k z1):=by
  have:=congrArg (·[0]?) c1
  grind
 have w0:W.cell? ⟨g,0,none⟩=some (.int k z0):=by grind
 have w1:W.cell? ⟨g,1,none⟩=some (.int k z1):=by grind
 refine⟨?_,[.int k z0,.int k z1],?_,[.int k z0],[.int k z1],rfl,⟨rfl,ha⟩,[.int k z1],[],rfl,⟨rfl,hb⟩,rfl⟩
 ·show g<W.heap.size
  grind [World.cell?]
 ·intro j v hj
  match j,hj with
  |0,hj=>simp_all[Addr.add]
  |1,hj=>simp_all[Addr.add]
  |j+2,hj=>grind
end Go.Ax
namespace Go.Ax
theorem cq{c:Prop}[Decidable c]{α:Type}{x y:α}(h:c):(if decide c=true then x else y)=x:=if_pos (decide_eq_true h)
theorem eF{a b:Int}{α:Type}{x y:α}(h:¬a<b):(if decide (a<b)=true then x else y)=y:=if_neg fun e=>h (of_decide_eq_true e)
theorem dK(n:Nat){α:Type}{x y:α}:(if 0≤(n:Int) then x else y)=x:=if_pos (Int.natCast_nonneg n)
theorem fF(c:Nat)(h:c≤4611686018427387904):aQ ((c:Int)+(1:Int))=((c+1:Nat):Int):=bU h
end Go.Ax
