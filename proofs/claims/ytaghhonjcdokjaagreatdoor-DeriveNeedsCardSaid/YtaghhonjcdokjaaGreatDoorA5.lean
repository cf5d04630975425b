/- The machines: what it means to be walked or run, part 5. No condition. -/
import Derived.Test.YtaghhonjcdokjaaGreatDoorA4
import Derived.RecoverIn
import Derived.Shelf.SlSortCmp.Whole1
import Derived.Shelf.SlIterI.Collect
import Derived.Shelf.SlIterI.Sorted
import Derived.Deep.DeepHandedRow
import Derived.OpenShut
import Derived.ChangeArms
import Derived.Lib.LaidTab
namespace Go.Ax
def xf(pm:Bool)(u:Value):FrameMode:=if pm then .panicking [{v:=u,recovered:=false}] else .returning
def mE(pm:Bool)(u:Value):FrameMode:=if pm then .panicking [{v:=u,recovered:=true}] else .returning
def Qv(P:Program)(gl:Ctx)(f:FuncId)(pm:Bool)(x:AV)(args:List AV)(H H':List (Option aN)):Prop:=
 (∀vs w,(callFunc f vs).run P w= .ok (.enter f vs) w)∧∀E w vs u,kF E w args vs→cK E w x u→(pm=false→u= .nilIface)→HW gl E w H→
  CallsDIn (Wd gl) 0 P f vs.toArray (xf pm u) w fun e m w'=>m=mE pm u∧(∃v,e= .returned v)∧∃E',HW gl E' w' H'∧Ext gl.md (Own H E) E w (Own H' E') E' w'
theorem Qv.Qw{P:Program}{G:bR}(T:bD P G){gl:Ctx}{f:FuncId}{pm:Bool}{x:AV}{fn:Func}{ops:Array Oper}{rid:Nat}{rest:Code}{t5 t2:Nat}{ts:Array TypeId}{o0 o1:Oper}(hcf:∀vs w,(callFunc f vs).run P w= .ok (.enter f vs) w)(hf:P.funcs[f]? =some fn)
 (hb:fn.body=some (.seq (.region rid ops false) rest)) (hro:gl.ro=none) (hops:ops= #[o0,o1]) (h0:o0.op= .call {callee:=.builtin .recover,args:= #[],argTypes:=ts}) (h0d:o0.dst=some t5) (h0g:o0.guard=none)
 (h1:o1.op= .assign (.tmp t5)) (h1d:o1.dst=some t2) (h1g:o1.guard=none) {args:List AV} {ins:List (Nat×Option aN)} {m:Nat} {out:List (Nat×aN)} {σe:St} {r:AV} (ht5:Nat.blt t5 fn.ntmps=true)
 (h:cZ P gl rest (((mn fn.ntmps m args ins).put (some t5) x).put (some t2) x) (fun e σ=>(e= .ret∨e= .normal)∧Wk gl σ σe)) (hd:σe.df= []) (ah8:ju G fn.results.toList σe=some r) (hout:∀b k,(b,k)∈out→σe.hp[b]? =some (some k)):
 Qv P gl f pm x args (aR (List.replicate m none) ins) (dm m out):=by
 refine⟨hcf,?_⟩
 intro E w vs u hv hx hpm hw
 obtain⟨hl,ahQ⟩:=hv.get
 refine callsDIn_of_wpSIn hf hb trivial ?_
 intro c0 cs hm
 have hg:bX gl (mn fn.ntmps m args ins) E {tmps:=vs.toArray++Array.replicate (fn.ntmps -vs.toArray.size) undef,defers:=[]} w:=by
  refine⟨?_,?_,hw,trivial⟩
  ·grind [mn]
  ·intro i x hx v hv'
   simp only[mn] at hx
   rw[Array.getElem?_append] at hv'
   simp only[List.getElem?_append] at hx
   split at hx
   ·grind
   ·rw[List.getElem?_replicate] at hx
    split at hx
    ·cases hx;trivial
    grind
 refine wpSIn_seq (wpSIn_region ?_)
 subst hops
 show wpOpsSIn _ _ _ _ _ [0,1] _ _ _
 have w0:∀y,Region.wanted o0 y=true:=by intro y;simp[Region.wanted,h0g]
 have w1:∀y,Region.wanted o1 y=true:=by intro y;simp[Region.wanted,h1g]
 have x0:∀ρ:Operand→Value,(execOp ρ o0).run P w= .ok .recover w:=by
  simp_all[execOp,resolve,invoke,builtin]
 have ei0:(#[o0,o1]:Array Oper)[0]? =some o0:=rfl
 have ei1:(#[o0,o1]:Array Oper)[1]? =some o1:=rfl
 have hu:RV E w x u:=RV.ef hx
 have hg1:=hg.put (some t5) hu
 have hlt:t5<fn.ntmps:=by simp_all
 have hev:((({tmps:=vs.toArray++Array.replicate (fn.ntmps -vs.toArray.size) undef,defers:=[]}:Act).put o0.dst u).eval (.tmp t5))=u:=by
  rw[h0d]
  have hsz:t5<(vs.toArray++Array.replicate (fn.ntmps -vs.toArray.size) undef).size:=by
   grind
  simp_all[Act.put,Act.eval]
 have x1:(execOp (({tmps:=vs.toArray++Array.replicate (fn.ntmps -vs.toArray.size) undef,defers:=[]}:Act).put o0.dst u).eval o1).run P w= .ok (.value u) w:=by
  simp_all[execOp]
 have hg2:=hg1.put (some t2) hu
 suffices hfin:rest.wpSIn (Wd gl) 0 P (bodyPostS P fn c0 cs fun e m_1 w'=>m_1=mE pm u∧(∃v,e= .returned v)∧∃E',HW gl E' w' (dm m out)∧Ext gl.md (Own (aR (List.replicate m none) ins) E) E w (Own (dm m out) E') E' w')
  ((({tmps:=vs.toArray++Array.replicate (fn.ntmps -vs.toArray.size) undef,defers:=[]}:Act).put o0.dst u).put o1.dst u) ({c0 with mode:=mE pm u}::cs) w by
  cases pm with
  |
   true=>
   have hrc:recoverD (c0::cs)=some (u,{c0 with mode:=mE true u}::cs):=by
    simp_all[xf,mE,recoverD]
   simp only[wpOpsSIn,ei0,ei1,w0,w1,bZ,x0,hrc]
   refine⟨fun _ _=>trivial,fun _ _=>trivial,?_⟩
   rw[x1]
   trivial
  |
   false=>
   have hu0:=hpm rfl
   subst hu0
   have hrc:recoverD (c0::cs)=none:=by
    simp_all[xf,recoverD]
   have hcc:({c0 with mode:=mE false .nilIface}:Frame)=c0:=by
    simp only[xf,mE,dL,cW] at hm ⊢
    rw[←hm]
   rw[hcc] at hfin
   simp only[wpOpsSIn,ei0,ei1,w0,w1,bZ,x0,hrc]
   refine⟨fun _ _=>trivial,fun _ _=>trivial,?_⟩
   rw[x1]
   trivial
 rw[h0d,h1d]
 refine wpSIn_of_wpIn (F:=Wd gl) hro (wpIn_mono (h E _ w hg2) ?_)
 rintro ex a' w' ⟨e,σ',E',q1,⟨he,hwk⟩,q3,q4⟩
 obtain⟨E2,g2,x2⟩:=hwk E' a' w' q3
 obtain⟨v,k1,k2⟩:=pS T g2 ah8
 have hdf:a'.defers= []:=by
  have:=g2.df
  rw[hd] at this
  cases hds:a'.defers with
  |nil=>rfl
  |cons d l=>rw[hds] at this;trivial
 have hw2:HW gl E2 w' (dm m out):=g2.hw.less (fun b k hb=>hout b k (fm hb))
 have hxx:Ext gl.md (Own (aR (List.replicate m none) ins) E) E w (Own (dm m out) E2) E2 w':=by
  have q4':Ext gl.md (Own (aR (List.replicate m none) ins) E) E w (Own σ'.hp E') E' w':=q4
  exact{q4'.trans x2 with own:=fun g ⟨b,k,hb,hgb⟩=>(q4'.trans x2).own g ⟨b,k,hout b k (fm hb),hgb⟩}
 rcases he with rfl|rfl
 ·cases ex with
  |ret=>exact⟨hdf,mE pm u,rfl,v,k1,rfl,⟨v,rfl⟩,E2,hw2,hxx⟩
  |_=>trivial
 ·cases ex with
  |normal=>exact⟨hdf,mE pm u,rfl,v,k1,rfl,⟨v,rfl⟩,E2,hw2,hxx⟩
  |_=>trivial
structure eU where
 kC:FuncId
 A:List Sh
 B:List (Nat×gr)
 m:Nat
 s:Sh
 F:SS
 out:F.T→List (Nat×aN)
 n:prod (sM A (iI B []))→Option F.T
 p:prod (sM A (iI B []))→prod (s.H [])→Option F.T
abbrev eU.D(C:eU):Type:=prod (sM C.A (iI C.B []))
def eU.args(C:eU)(d:C.D):List AV:=yk y0 C.A d
def eU.ins(C:eU)(d:C.D):List (Nat×Option aN):=dj (oi y0 C.B (yl C.A d))
structure eU.holds(P:Program)(gl:Ctx)(C:eU):Prop where
 n:∀d r,C.n d=some r→Qv P gl C.kC false .hJ (C.args d) (aR (List.replicate C.m none) (C.ins d)) (dm C.m (C.out r))
 p:∀d q r,C.p d q=some r→Qv P gl C.kC true (C.s.V y0 q) (C.args d) (aR (List.replicate C.m none) (C.ins d)) (dm C.m (C.out r))
def eU.get(C:eU)(L:List AV)(I:List (Nat×Option aN)):Option C.D:=
 match K7 C.B (l:=[]) I () with
 |some d=>PY C.A L d
 |none=>none
theorem eU.fy{C:eU}{L:List AV}{I:List (Nat×Option aN)}{d:C.D}(h:C.get L I=some d):C.args d=L∧C.ins d=I:=by
 unfold eU.get at h
 split at h
 ·rename_i d1 h1
  obtain⟨a1,a2⟩:=yp y0 h1
  obtain⟨b1,b2⟩:=ym y0 h
  exact⟨b1,by unfold eU.ins;grind⟩
 grind
section
variable{P:Program} {G:bR} (T:bD P G) {gl:Ctx} {H:Hs} {Γ:List aX} (hΓ:∀C∈Γ,C.holds P gl) (hro:gl.ro=none) {rs:List ResultVar} {kC:FuncId} {A:List Sh} {B:List (Nat×gr)} {m nt:Nat} {s:Sh} {F:SS} {ob:List Nat}
 {n:prod (sM A (iI B []))→Option F.T} {p:prod (sM A (iI B []))→prod (s.H [])→Option F.T} {fn:Func} {ops:Array Oper} {rid:Nat} {rest:Code} {t5 t2:Nat} {ts:Array TypeId} {o0 o1:Oper}
 (ahS:∀vs w,(callFunc kC vs).run P w= .ok (.enter kC vs) w) (hf:P.funcs[kC]? =some fn) (hb:fn.body=some (.seq (.region rid ops false) rest)) (hrs:fn.results.toList=rs) (hnt:fn.ntmps=nt)
 (hops:ops= #[o0,o1]) (h0:o0.op= .call {callee:=.builtin .recover,args:= #[],argTypes:=ts}) (h0d:o0.dst=some t5) (h0g:o0.guard=none) (h1:o1.op= .assign (.tmp t5)) (h1d:o1.dst=some t2) (h1g:o1.guard=none) (ht5:Nat.blt t5 nt=true)
 (hF:F.df= []) (ah8:∀r:F.T,IH (ju G rs (F.st y0 r))=true)
include T hΓ hro ahS hf hb hrs hnt hops h0 h0d h0g h1 h1d h1g ht5 hF ah8
theorem eU.of1{pm:Bool}{x:AV}{args:List AV}{ins:List (Nat×Option aN)}{r:F.T}(hw:walk P G [] H Γ rest gl true (((mn nt m args ins).put (some t5) x).put (some t2) x) (Qa F)=some r):
 Qv P gl kC pm x args (aR (List.replicate m none) ins) (dm m (pick ob (F.st y0 r).hp)):=by
 have hdf:(F.st y0 r).df= []:=by
  simp only[SS.st,SS.mn]
  obtain⟨nt',nh,tm,hp,df⟩:=F
  simp only at hF
  subst hF
  rfl
 subst hnt
 refine Qv.Qw T ahS hf hb hro hops h0 h0d h0g h1 h1d h1g ht5 (cZ.mono (j6 T hΓ (fun _=>hro) (fun _=>aH) hw) ?_) hdf (by rw[hrs];exact mC (ah8 r)) (fun b k hbk=>jI hbk)
 intro e σ he
 cases e with
 |ret=>exact⟨Or.inl rfl,SS.iJ he⟩
 |normal=>exact⟨Or.inr rfl,SS.iJ he⟩
 |_=>trivial
theorem eU.WJ(hn:∀d,n d=walk P G [] H Γ rest gl true (((mn nt m (yk y0 A d) (dj (oi y0 B (yl A d)))).put (some t5) .hJ).put (some t2) .hJ) (Qa F)):
 (⟨kC,A,B,m,s,F,fun r=>pick ob (F.st y0 r).hp,n,fun _ _=>none⟩:eU).holds P gl:=by
 refine⟨?_,fun _ _ r h=>no (e:=r) h⟩
 intro d r hd
 have hd':n d=some r:=hd
 rw[hn d] at hd'
 exact eU.of1 T hΓ hro ahS hf hb hrs hnt hops h0 h0d h0g h1 h1d h1g ht5 hF ah8 hd'
theorem eU.B1(hp:∀d q,p d q=walk P G [] H Γ rest gl true (((mn nt m (yk y0 A d) (dj (oi y0 B (yl A d)))).put (some t5) (s.V y0 q)).put (some t2) (s.V y0 q)) (Qa F)):
 (⟨kC,A,B,m,s,F,fun r=>pick ob (F.st y0 r).hp,fun _=>none,p⟩:eU).holds P gl:=by
 refine⟨fun _ r h=>no (e:=r) h,?_⟩
 intro d q r hd
 have hd':p d q=some r:=hd
 rw[hp d q] at hd'
 exact eU.of1 T hΓ hro ahS hf hb hrs hnt hops h0 h0d h0g h1 h1d h1g ht5 hF ah8 hd'
end
def E6:List Nat→List (Option aN)→List (Option aN)
 |[],hp=>hp
 |
  b::l,hp=>E6 l (match hp[b]? with
  |some (some (.var t _))=>hp.set b (some (.var t (.dU t)))
  |_=>hp)
theorem Wk.dU{gl:Ctx}:∀{l:List Nat}{σ:St},Wk gl σ {σ with hp:=E6 l σ.hp}
 |[],σ=>Wk.refl gl σ
 |
  b::l,σ=>by
  unfold E6
  split
  ·rename_i t v hb
   have h1:Wk gl σ {σ with hp:=σ.hp.set b (some (.var t (.dU t)))}:=by
    intro E a w h
    obtain⟨h1,h2,g,c,e,h3,h4,h5⟩:=h.hw.cM b _ hb
    have hlen:=RC.len h5
    have hw:=h.hw.write (w':=w) (k':=.var t (.dU t)) hb rfl (fun _ _=>rfl) ⟨h1,Ty.dc t,g,c,e,h3,h4,⟨by rw[hlen];exact AV.eo h2,RC.one h5⟩⟩
    refine⟨E,⟨h.len,h.tm,hw,h.df⟩,{Ext.refl (Own σ.hp E) E w with own:=?_ }⟩
    grind [Own.set]
   exact h1.trans (Wk.dU (l:=l) (σ:={σ with hp:=σ.hp.set b (some (.var t (.dU t)))}))
  ·exact Wk.dU (l:=l) (σ:=σ)
def IQ(C:eU)(ps:List (Nat×Nat))(F:SS)(h:C.D→Option C.F.T)(σ:St):Option F.T:=
 match σ.df with
 |
  [.func (.func fd) .nil cs]=>match lV (swp ps) (eS σ.hp) (cs.toList.map (fun x=>(x,Ty.unit))),ji (swp ps) (eS σ.hp) ps with
  |
   some (L,lent),some ins=>if Nat.beq fd C.kC&&cs.atoms then(match C.get L ins with
   |some d=>Option.bind (h d) fun r=>if yg ⟨.bot,ps,[],C.out r,C.m,false,[],[]⟩ lent then F.sW {σ with hp:=aR σ.hp (me ps (C.out r) ps),df:=[]} else none
   |none=>none) else none
  |_,_=>none
 |_=>none
def Py(C:eU)(ps:List (Nat×Nat))(D:eU)(qs:List (Nat×Nat))(jk:List Nat)(F:SS):fY→St→Option F.T
 |
  .ret,σ| .normal,σ=>match σ.df with
  |[]=>F.sW σ
  |_=>IQ C ps F C.n σ
 |
  .panic v,σ=>match v.ids,D.s.G (l:=[]) v () with
  |[],some q=>IQ D qs F (fun d=>D.p d q) {σ with hp:=E6 jk σ.hp}
  |_,_=>none
 |_,_=>none
theorem E7{P:Program}{G:bR}(T:bD P G){gl:Ctx}{C:eU}{ps:List (Nat×Nat)}{F:SS}{h:C.D→Option C.F.T}{σ:St}{r:F.T}(hr:IQ C ps F h σ=some r){pm:Bool}{x:AV}(hx:x.ids= [])
 (hC:∀d y,h d=some y→Qv P gl C.kC pm x (C.args d) (aR (List.replicate C.m none) (C.ins d)) (dm C.m (C.out y))) {fn:Func} {z:AV} (hF:F.df= []) (ah8:ju G fn.results.toList (F.st y0 r)=some z) {out:List (Nat×aN)} (hout:∀b k,(b,k)∈out→(F.st y0 r).hp[b]? =some (some k)) {m:Nat}
 {E:Env} {a:Act} {w:World} (hg:bX gl σ E a w) {u:Value} (hu:cK E w x u) (hpm:pm=false→u= .nilIface) {O:Nat→Prop} {E0:Env} {w0:World} (hX0:Ext gl.md O E0 w0 (Own σ.hp E) E w):
 LeavesIn (Wd gl) 0 P fn a.tmps (fun e w'=>∃E',wI E' w' (.ret z) e∧HW gl E' w' (dm m out)∧Ext gl.md O E0 w0 (Own (dm m out) E') E' w') a.defers (xf pm u) w:=by
 have hdfF:(F.st y0 r).df= []:=by
  simp only[SS.st,SS.mn]
  obtain⟨nt',nh,tm,hp,df⟩:=F
  simp only at hF
  subst hF
  rfl
 unfold IQ at hr
 split at hr
 ·rename_i fd cs hdf
  split at hr
  ·rename_i L lent ins hL jW
   obtain⟨hc,hr1⟩:=bN hr
   clear hr
   simp only[aW] at hc
   obtain⟨hfd,hca⟩:=hc
   have hfd:=bP hfd
   subst hfd
   split at hr1
   ·rename_i d hd
    obtain⟨y,hy,hr2⟩:=bind_some hr1
    obtain⟨gL,hr3⟩:=bN hr2
    obtain⟨e1,e2⟩:=eU.fy hd
    obtain⟨hcf,hM⟩:=hC d y hy
    rw[e1,e2] at hM
    have gdf:=hg.df
    rw[hdf] at gdf
    cases hads:a.defers with
    |nil=>rw[hads] at gdf;trivial
    |
     cons dd ds=>
     rw[hads] at gdf
     obtain⟨⟨f',c',ed,q1,q2,_,_⟩,hrest⟩:=gdf
     have hds:ds= []:=by
      cases ds with
      |nil=>rfl
      |cons _ _=>trivial
     subst hds
     have hf':f'= #[]:=by apply l6;trivial
     subst hf'
     subst ed
     have hB:=cC σ.hp
     have hlent:=lk hL
     obtain⟨hφ,hw1⟩:=sV (cr:=⟨.bot,ps,[],C.out y,C.m,false,[],[]⟩) hg hB hlent jW gL
     have hmap:(cs.toList.map (fun x=>(x,Ty.unit))).map (·.1)=cs.toList:=by
      simp[List.map_map,Function.comp_def]
     have hvv:=mw hg.hw hB hφ hL (fun g hg=>hg) (by rw[hmap];exact kF.atoms hca q2)
     have hu':cK (E.to ps (E.cX lent).S) w x u:=cK.mono (E:=E) ⟨fun _ _=>rfl,fun _ h=>Or.inl h⟩ (fun b hb=>by grind) hu
     have ahS:=hM _ w _ u hvv hu' hpm hw1
     refine leavesIn_cons (F:=Wd gl) (by unfold xf;split<;>simp) (fun h=>by cases h) (args:=c'.toList.toArray) ?_ (fun _ _=>trivial) (CallsDIn.mono ahS ?_)
     ·simp_all[invoke]
     ·rintro e u1 w2 ⟨rfl,⟨v,rfl⟩,E2,hW2,hX2⟩
      obtain⟨E3,g3,_,x3⟩:=kG (cr:=⟨.bot,ps,[],C.out y,C.m,false,[],[]⟩) hg hB hlent jW gL (fun b hb=>by grind) hW2 hX2 (v:=v) (r':=.bot) rfl trivial
      simp only[ik] at g3 x3
      have g4:bX gl {σ with hp:=aR σ.hp (me ps (C.out y) ps),df:=[]} E3 {a with defers:=[]} w2:=⟨g3.len,g3.tm,g3.hw,trivial⟩
      obtain⟨E5,g5,x5⟩:=SS.iJ (gl:=gl) hr3 E3 _ w2 g4
      obtain⟨v2,k1,k2⟩:=pS T g5 ah8
      have aR:settle (mE pm u)= .returning:=by
       unfold mE
       cases pm<;>simp[settle]
      show LeavesIn _ _ _ _ _ _ _ _ _
      rw[aR]
      have hw5:HW gl E5 w2 (dm m out):=g5.hw.less (fun b k hb=>hout b k (fm hb))
      have X5:=(hX0.trans x3).trans x5
      exact⟨v2,k1,E5,k2,hw5,{X5 with own:=fun g ⟨b,k,hb,hgb⟩=>X5.own g ⟨b,k,hout b k (fm hb),hgb⟩}⟩
   grind
  grind
 grind
theorem aX.WK{P:Program}{G:bR}(T:bD P G){gl:Ctx}{H:Hs}{Γ:List aX}(hΓ:∀C∈Γ,C.holds P gl){C:eU}(hC:C.holds P gl){ps:List (Nat×Nat)}{D:eU}(hD:D.holds P gl){qs:List (Nat×Nat)}{jk:List Nat}(hro:gl.ro=none){rs:List ResultVar}{kC:FuncId}{A:List Sh}{B:List (Nat×gr)}{m nt:Nat}{F:SS}{ob:List Nat}{f:prod (sM A (iI B []))→Option F.T}
 {fn:Func} {c:Code} (ahS:∀vs w,(callFunc kC vs).run P w= .ok (.enter kC vs) w) (hf:P.funcs[kC]? =some fn) (hb:fn.body=some c) (hrs:fn.results.toList=rs) (hnt:fn.ntmps=nt) (hF:F.df= [])
 (ah8:∀r:F.T,IH (ju G rs (F.st y0 r))=true)
 (h:∀d,f d=walk P G [] H Γ c gl true (mn nt m (yk y0 A d) (dj (oi y0 B (yl A d)))) (Py C ps D qs jk F)):
 (aE G rs kC A B m F ob (.bC f)).holds P gl:=by
 refine⟨?_,fun _ _ h=>h.elim⟩
 intro d r hd
 have hd':f d=some r:=hd
 rw[h d] at hd'
 refine⟨ahS,?_⟩
 have ahL:=j6 T hΓ (fun _=>hro) (fun _=>aH) hd'
 subst hnt
 have hz:ju G fn.results.toList (F.st y0 r)=some ((ju G rs (F.st y0 r)).getD .bot):=by rw[hrs];exact mC (ah8 r)
 have hout:∀b k,(b,k)∈pick ob (F.st y0 r).hp→(F.st y0 r).hp[b]? =some (some k):=fun b k hbk=>jI hbk
 intro E w vs hv hw
 obtain⟨hl,ahQ⟩:=hv.get
 refine CallsIn.calls (F:=Wd gl) (n:=0) (callsIn_of_wp_defers hf hb trivial ?_ hro) (fun k d hd=>by cases hd)
 have hg:bX gl (mn fn.ntmps m (yk y0 A d) (dj (oi y0 B (yl A d)))) E {tmps:=vs.toArray++Array.replicate (fn.ntmps -vs.toArray.size) undef,defers:=[]} w:=by
  refine⟨?_,?_,hw,trivial⟩
  ·simp only[mn,Array.size_append,List.size_toArray,Array.size_replicate,eI,l0]
   rw[←hl];rfl
  ·intro i x hx v hv'
   simp only[mn] at hx
   rw[Array.getElem?_append] at hv'
   simp only[List.getElem?_append] at hx
   split at hx
   ·rename_i hi
    have hl':(yk y0 A d).length=vs.length:=hl
    rw[aA (by grind)] at hv'
    exact ahQ i x v hx (by grind)
   ·rw[List.getElem?_replicate] at hx
    split at hx
    ·cases hx;trivial
    grind
 refine wpIn_mono (ahL E _ w hg) ?_
 rintro ex a' w' ⟨e,σ',E',h1,he,h3,h4⟩
 have plain:∀{σ:St},σ.df= []→F.sW σ'=some r→bX gl σ' E' a' w'→a'.defers= []→LeavesIn (Wd gl) 0 P fn a'.tmps (fun e w'=>∃E',wI E' w' (.ret ((ju G rs (F.st y0 r)).getD .bot)) e∧HW gl E' w' (dm m (pick ob (F.st y0 r).hp))∧Ext gl.md (Own (aR (List.replicate m none) (dj (oi y0 B (yl A d)))) E) E w (Own (dm m (pick ob (F.st y0 r).hp)) E') E' w') a'.defers .returning w':=by
  intro σ _ hm hg' hds
  obtain⟨E5,g5,x5⟩:=SS.iJ (gl:=gl) hm E' a' w' hg'
  obtain⟨v2,k1,k2⟩:=pS T g5 hz
  rw[hds]
  have hw5:HW gl E5 w' (dm m (pick ob (F.st y0 r).hp)):=g5.hw.less (fun b k hb=>hout b k (fm hb))
  have X5:=h4.trans x5
  exact⟨v2,k1,E5,k2,hw5,{X5 with own:=fun g ⟨b,k,hb,hgb⟩=>X5.own g ⟨b,k,hout b k (fm hb),hgb⟩}⟩
 have leave:(match σ'.df with
  |[]=>F.sW σ'
  |_=>IQ C ps F C.n σ')=some r→LeavesIn (Wd gl) 0 P fn a'.tmps (fun e w'=>∃E',wI E' w' (.ret ((ju G rs (F.st y0 r)).getD .bot)) e∧HW gl E' w' (dm m (pick ob (F.st y0 r).hp))∧Ext gl.md (Own (aR (List.replicate m none) (dj (oi y0 B (yl A d)))) E) E w (Own (dm m (pick ob (F.st y0 r).hp)) E') E' w') a'.defers .returning w':=by
  intro he
  cases hd0:σ'.df with
  |
   nil=>
   rw[hd0] at he
   have hds:a'.defers= []:=by
    have:=h3.df
    rw[hd0] at this
    cases hds:a'.defers with
    |nil=>rfl
    |cons d l=>rw[hds] at this;trivial
   grind
  |
   cons x l=>
   rw[hd0] at he
   exact E7 T (pm:=false) (x:=.hJ) he rfl (fun d y hy=>hC.n d y hy) hF hz hout h3 (u:=.nilIface) (Or.inr ⟨rfl,rfl⟩) (fun _=>rfl) h4
 cases e with
 |
  ret=>cases ex with
  |ret=>exact leave he
  |_=>trivial
 |
  normal=>cases ex with
  |normal=>exact leave he
  |_=>trivial
 |exit i=>trivial
 |
  panic v=>
  cases ex with
  |
   panic ch=>
   obtain⟨u,e,hu⟩:=h1
   subst e
   simp only[Py] at he
   split at he
   ·rename_i q hids hq
    have hV:=(Sh.wv y0 hq).1
    obtain⟨E2,g2,x2⟩:=Wk.dU (gl:=gl) (l:=jk) (σ:=σ') E' a' w' h3
    have hu2:cK E2 w' v u:=cK.mono (E:=E') (w:=w') ⟨fun b hb=>rfl,x2.sle⟩ (fun b hb=>by grind) hu
    exact E7 T (pm:=true) (x:=v) he hids (fun d y hy=>by have:=hD.p d q y hy;grind) hF hz hout g2 hu2 (fun e=>by cases e) (h4.trans x2)
   grind
  |_=>trivial
end Go.Ax
namespace Go.Ax
def WL:fY→St→Option St
 | .normal,σ=>some σ
 |_,_=>none
def WM(F:SS):fY→St→Option F.T
 | .ret,σ=>Cv F .ret σ
 |_,_=>none
theorem aX.kK{P:Program}{G:bR}(T:bD P G){gl:Ctx}{H:Hs}{Γ:List aX}(hΓ:∀C∈Γ,C.holds P gl)(hro:gl.ro=none){rs:List ResultVar}{kC:FuncId}{A:List Sh}{B:List (Nat×gr)}{m nt:Nat}{F:SS}{ob:List Nat}{f:prod (sM A (iI B []))→Option F.T}
 {fn:Func} {c0 X Y:Code} {rid:Nat} {o1 o2:Oper} (x:Operand) (d1 d2:Nat) (t t2 e:TypeId) (bs:Nat) (u:Ty) (xs:prod (sM A (iI B []))→List u.den) (σ1:prod (sM A (iI B []))→St)
 (ahS:∀vs w,(callFunc kC vs).run P w= .ok (.enter kC vs) w) (hf:P.funcs[kC]? =some fn) (hb:fn.body=some (.seq c0 (.seq (.seq (.region rid #[o1,o2] false) (.cond (.tmp d2) X .skip)) Y))) (hrs:fn.results.toList=rs) (hnt:fn.ntmps=nt) (hF:F.df= [])
 (h1:o1.op= .move x) (hd1:o1.dst=some d1) (hg1:o1.guard=none) (h2:o2.op= .binOp .eql t (.tmp d1) (.const (.slice none 0 0)) t2) (hd2:o2.dst=some d2) (hg2:o2.guard=none) (ht:P.underlying t=some (.slice e))
 (ah8:∀r:F.T,IH (ju G rs (F.st y0 r))=true)
 (hA:∀d,walk P G [] H Γ c0 gl true (mn nt m (yk y0 A d) (dj (oi y0 B (yl A d)))) WL=some (σ1 d))
 (hx:∀d,bH gl (σ1 d).tm x= .val (.slice bs u) (xs d)) (hl:∀d,Nat.blt d1 (σ1 d).tm.length=true) (hl2:∀d b,bH gl (((σ1 d).put (some d1) (.val (.slice bs u) (xs d))).put (some d2) (.val .bool b)).tm (.tmp d2)= .val .bool b)
 (hX:∀d,xs d= []→f d=walk P G [] H Γ X gl true (((σ1 d).put (some d1) (.val (.slice bs u) (xs d))).put (some d2) (.val .bool true)) (WM F))
 (hY:∀d,f d=walk P G [] H Γ Y gl true (((σ1 d).put (some d1) (.val (.slice bs u) (xs d))).put (some d2) (.val .bool false)) (Cv F)):
 (aE G rs kC A B m F ob (.bC f)).holds P gl:=by
 refine⟨?_,fun _ _ h=>h.elim⟩
 intro d r hd
 have hd':f d=some r:=hd
 refine⟨ahS,?_⟩
 subst hnt
 refine sN.yw T hf hb hro (σe:=F.st y0 r) ?_ ?_ ?_ ?_
 ·refine cZ.seq (cZ.mono (j6 T hΓ (fun _=>hro) (fun _=>aH) (hA d)) ?_)
  intro e' σ he
  cases e' with
  |
   normal=>
   have:σ=σ1 d:=ja he
   subst this
   refine cZ.seq ?_
   refine cZ.K5 x d1 d2 t t2 e bs u (xs d) h1 hd1 hg1 h2 hd2 hg2 (hx d) ht (hl d) ?_
   intro b hbx
   cases b with
   |
    true=>
    refine cZ.cond (hl2 d true) (fun _=>?_) (fun e=>by cases e)
    have hw:=hX d (hbx rfl)
    rw[hd'] at hw
    refine cZ.mono (j6 T hΓ (fun _=>hro) (fun _=>aH) hw.symm) ?_
    intro e2 σ2 he2
    cases e2 with
    |ret=>exact s8 he2
    |_=>trivial
   |
    false=>
    refine cZ.cond (hl2 d false) (fun e=>by cases e) (fun _=>cZ.skip ?_)
    have hw:=hY d
    rw[hd'] at hw
    refine cZ.mono (j6 T hΓ (fun _=>hro) (fun _=>aH) hw.symm) ?_
    intro e2 σ2 he2
    cases e2 with
    |ret=>exact s8 he2
    |normal=>exact s8 he2
    |_=>trivial
  |_=>trivial
 ·show(F.st y0 r).df= []
  simp only[SS.st,SS.mn]
  obtain⟨nt',nh,tm,hp,df⟩:=F
  simp only at hF
  subst hF
  rfl
 ·rw[hrs];exact mC (ah8 r)
 ·intro b k hbk;exact jI hbk
end Go.Ax
namespace Go.Ax
theorem ib{x:Int}(h1:-9223372036854775808≤x)(h2:x≤9223372036854775807):bB x=x:=by
 grind [IntKind.wrap,IntKind.bits,IntKind.signed]
theorem bG{i:Nat}(h:i≤4611686018427387904):bB ((i:Int)+1)=((i+1:Nat):Int):=by
 rw[ib (by omega) (by omega)];rfl
theorem Qx{t:Ty}{xs:List t.den}{i:Nat}(h:i<xs.length):nth t xs (i:Int)=xs[i]:=by
 simp[nth,List.getD,h]
theorem iL{kt:Ty}(hk:kt.keyed=true)(k:kt.den):aY kt k k=true:=(cu hk k k).2 rfl
theorem pI{kt:Ty}(hk:kt.keyed=true){p k:kt.den}(h:p≠k):aY kt p k=false:=by
 grind [cu]
theorem mF{α:Type}{kt:Ty}(hk:kt.keyed=true)(k:kt.den)(v:α):∀es:List (kt.den×α),de kt k (bF kt k v es)=true
 |[]=>by simp[bF,de,iL hk]
 |
  e::es=>by
  simp only[bF]
  split
  ·simp[de,iL hk]
  ·simp[de,mF hk k v es]
theorem pJ{α:Type}{kt:Ty}(hk:kt.keyed=true){p k:kt.den}(h:p≠k)(v:α):∀es:List (kt.den×α),de kt p (bF kt k v es)=de kt p es
 |[]=>by simp[bF,de,pI hk h]
 |
  e::es=>by
  simp only[bF]
  split
  ·rename_i he
   have:=(cu hk k e.1).1 he
   rw[this] at h
   simp[de,this,pI hk h]
  ·simp[de,pJ hk h v es]
theorem fO{kt vt:Ty}(hk:kt.keyed=true)(k:kt.den)(v:vt.den):∀es:List (kt.den×vt.den),bE kt vt k (bF kt k v es)=v
 |[]=>by simp[bF,bE,iL hk]
 |
  e::es=>by
  simp only[bF]
  split
  ·simp[bE,iL hk]
  ·rename_i he
   simp[bE,he,fO hk k v es]
theorem fg{kt vt:Ty}(hk:kt.keyed=true){p k:kt.den}(h:p≠k)(v:vt.den):∀es:List (kt.den×vt.den),bE kt vt p (bF kt k v es)=bE kt vt p es
 |[]=>by simp[bF,bE,pI hk h]
 |
  e::es=>by
  simp only[bF]
  split
  ·rename_i he
   have:=(cu hk k e.1).1 he
   rw[this] at h
   simp[bE,this,pI hk h]
  ·simp[bE,fg hk h v es]
end Go.Ax
namespace Go.Ax
theorem aO{U R:Type}(F:(U→Option R)→U→Option R)(n:Nat)(u:U):aM F (n+1) u=F (aM F n) u:=rfl
theorem IS{U R:Type}{F:(U→Option R)→U→Option R}(I:U→Prop)(μ:U→Nat)(Q:U→Option R→Prop)
 (h:∀rec u,I u→(∀u',I u'→μ u'<μ u→Q u' (rec u'))→Q u (F rec u)):∀n u,I u→μ u<n→Q u (aM F n u):=by
 intro n
 induction n with
 |zero=>grind
 |
  succ n ih=>
  grind [aO]
theorem aJ{U R:Type}(d:U)(f:U→Option R):aI (some (.brk d)) f=f d:=rfl
theorem fv{U R:Type}(r:R)(f:U→Option R):aI (some (.ret r)) f=some r:=rfl
theorem Tx{U R:Type}(r:R):(cw (some r):Option (cV U R))=some (.ret r):=rfl
theorem iZ{R:Type}(y:YC)(x:Option R):Pn y y x=x:=by unfold Pn;grind
theorem tc{R:Type}{F:YC→Option R}{r:R}(h:∀y,F y=some r):yq F=some r:=by
 unfold yq
 rw[dif_pos ⟨r,h⟩]
 have hc:=Classical.choose_spec (⟨r,h⟩:∃r,∀y,F y=some r)
 have:=hc y0
 grind
theorem E8{A R:Type}{xs:List A}{K:A→List A→Option R}{r:R}(hne:xs≠[])(h:∀i(hi:i<xs.length),K xs[i] (xs.eraseIdx i)=some r):GI xs K=some r:=by
 unfold GI
 rw[dif_pos ⟨r,h⟩]
 have hc:=Classical.choose_spec (⟨r,h⟩:∃r,∀i(h:i<xs.length),K xs[i] (xs.eraseIdx i)=some r)
 have h0:0<xs.length:=List.length_pos_iff.2 hne
 grind
theorem gd{α:Type}{c:Prop}[Decidable c]{x y:α}(h:c):(if c then x else y)=x:=aA h
theorem ew{t:Ty}{xs:List t.den}{i:Nat}(h:i<xs.length):nth t xs (i:Int)=xs[i]:=Qx h
theorem scan{U R β:Type}{F:(U→Option (cV β R))→U→Option (cV β R)}(len:Nat)(at_:Nat→U)(b:β)(C:Nat→Prop)(P:R→Prop)
 (step:∀rec i,i<len→(C i∧F rec (at_ i)=rec (at_ (i+1)))∨∃r,P r∧F rec (at_ i)=some (.ret r))
 (stop:∀rec,F rec (at_ len)=some (.brk b)):
 ∀n i,i≤len→len -i<n→((∀j,i≤j→j<len→C j)∧aM F n (at_ i)=some (.brk b))∨∃r,P r∧aM F n (at_ i)=some (.ret r):=by
 intro n
 induction n with
 |zero=>grind
 |
  succ n ih=>
  grind [aO]
theorem CE{n:Nat}(h:n≤aG):n<gn:=by
 have h1:aG=140737488355328:=rfl
 have h2:gn=18446744073709551616:=rfl
 omega
end Go.Ax
namespace Go.Ax
theorem Tz{U R β:Type}{F:(U→Option (cV β R))→U→Option (cV β R)}{L:Nat→U→Option (cV β R)}(hL:L=aM F)(len:Nat)(at_:Nat→U)(b:β)(C:Nat→Prop)(P:R→Prop)
 (step:∀rec i,i<len→(C i∧F rec (at_ i)=rec (at_ (i+1)))∨∃r,P r∧F rec (at_ i)=some (.ret r))
 (stop:∀rec,F rec (at_ len)=some (.brk b)) (n:Nat) (hn:len<n):((∀j,j<len→C j)∧L n (at_ 0)=some (.brk b))∨∃r,P r∧L n (at_ 0)=some (.ret r):=by
 subst hL
 rcases scan len at_ b C P step stop n 0 (by omega) (by omega) with⟨h1,h2⟩|h<;>grind
theorem afc{U R β S:Type}{F:(U→Option (cV β R))→U→Option (cV β R)}{L:Nat→U→Option (cV β R)}(hL:L=aM F)(len:Nat)(at_:Nat→S→U)(end_:S→β)(g:Nat→S→S)(I:Nat→S→Prop)
 (step:∀rec i s,i<len→I i s→F rec (at_ i s)=rec (at_ (i+1) (g i s))∧I (i+1) (g i s))
 (stop:∀rec s,I len s→F rec (at_ len s)=some (.brk (end_ s))):
 ∀n i s,i≤len→len -i<n→I i s→∃s',s'=(List.range' i (len -i)).foldl (fun s j=>g j s) s∧I len s'∧L n (at_ i s)=some (.brk (end_ s')):=by
 subst hL
 intro n
 induction n with
 |zero=>grind
 |
  succ n ih=>
  intro i s hi hn hI
  rw[aO]
  by_cases h:i<len
  ·obtain⟨e,hI'⟩:=step (aM F n) i s h hI
   rw[e]
   obtain⟨s',h1,h2,h3⟩:=ih (i+1) (g i s) (by omega) (by omega) hI'
   refine⟨s',?_,h2,h3⟩
   rw[show len -i=(len -(i+1))+1 from by omega,List.range'_succ,List.foldl_cons]
   exact h1
  ·have:i=len:=by omega
   simp_all
end Go.Ax
namespace Go.Ax
def W{R:Type}(x:Option R)(P:R→Prop):Prop:=∃r,x=some r∧P r
def CT{U R:Type}(B:U→Prop)(Q:R→Prop):cV U R→Prop
 | .brk d=>B d
 | .ret r=>Q r
def ST{A B:Type}(P:A→Prop)(Q:B→Prop):Sum A B→Prop
 | .inl a=>P a
 | .inr b=>Q b
theorem jo{U R:Type}{B:U→Prop}{Q:R→Prop}{d:U}:CT B Q (.brk d)↔B d:=Iff.rfl
theorem WN{U R:Type}{B:U→Prop}{Q:R→Prop}{r:R}:CT B Q (.ret r)↔Q r:=Iff.rfl
theorem WO{A B:Type}{P:A→Prop}{Q:B→Prop}{a:A}:ST P Q (.inl a)↔P a:=Iff.rfl
theorem WQ{A B:Type}{P:A→Prop}{Q:B→Prop}{b:B}:ST P Q (.inr b)↔Q b:=Iff.rfl
theorem qT{R:Type}{a:R}{P:R→Prop}:W (some a) P↔P a:=⟨fun⟨_,h,p⟩=>(by grind),fun h=>⟨a,rfl,h⟩⟩
theorem WR{R:Type}{P:R→Prop}:W (none:Option R) P↔False:=⟨fun⟨_,h,_⟩=>(by cases h),False.elim⟩
theorem yy{A R:Type}{x:Option A}{f:A→Option R}{P:R→Prop}:W (Option.bind x f) P↔W x fun a=>W (f a) P:=by
 cases x with
 |none=>exact⟨fun⟨_,h,_⟩=>(by cases h),fun⟨_,h,_⟩=>(by cases h)⟩
 |some a=>exact⟨fun⟨r,h,p⟩=>⟨a,rfl,r,h,p⟩,fun⟨a',h,r,h2,p⟩=>(by cases h;exact⟨r,h2,p⟩)⟩
theorem afd{R:Type}{c:Prop}[Decidable c]{x y:Option R}{P:R→Prop}:W (if c then x else y) P↔(c→W x P)∧(¬c→W y P):=by
 grind
theorem bY{U R:Type}{x:Option (cV U R)}{f:U→Option R}{P:R→Prop}:W (aI x f) P↔W x (CT (fun d=>W (f d) P) P):=by
 unfold aI
 rw[yy]
 refine⟨fun⟨c,h,p⟩=>⟨c,h,?_⟩,fun⟨c,h,p⟩=>⟨c,h,?_⟩⟩
 ·cases c with
  |brk d=>exact p
  |ret r=>exact(qT (a:=r) (P:=P)).1 p
 ·cases c with
  |brk d=>exact p
  |ret r=>exact(qT (a:=r) (P:=P)).2 p
theorem afV{U R:Type}{x:Option R}{Q:cV U R→Prop}:W (cw x) Q↔W x fun r=>Q (.ret r):=by
 cases x with
 |none=>exact⟨fun⟨_,h,_⟩=>(by cases h),fun⟨_,h,_⟩=>(by cases h)⟩
 |some a=>exact⟨fun⟨r,h,p⟩=>(by cases h;exact⟨a,rfl,p⟩),fun⟨r,h,p⟩=>(by cases h;exact⟨_,rfl,p⟩)⟩
theorem lz{A B R:Type}{x:Option (Sum A B)}{kp:A→Option R}{k:B→Option R}{P:R→Prop}:W (dV x kp k) P↔W x (ST (fun a=>W (kp a) P) fun b=>W (k b) P):=by
 unfold dV
 rw[yy]
 refine⟨fun⟨c,h,p⟩=>⟨c,h,?_⟩,fun⟨c,h,p⟩=>⟨c,h,?_⟩⟩<;>cases c<;>exact p
theorem W.mono{R:Type}{x:Option R}{P Q:R→Prop}(h:W x P)(hq:∀r,P r→Q r):W x Q:=h.imp fun r h=>⟨h.1,hq r h.2⟩
theorem CT.mono{U R:Type}{B B':U→Prop}{Q Q':R→Prop}(hb:∀d,B d→B' d)(hq:∀r,Q r→Q' r)(c:cV U R)(h:CT B Q c):CT B' Q' c:=by
 cases c with
 |brk d=>exact hb d h
 |ret r=>exact hq r h
theorem W.ct{U R:Type}{x:Option (cV U R)}{B B':U→Prop}{Q Q':R→Prop}(h:W x (CT B Q))(hb:∀d,B d→B' d)(hq:∀r,Q r→Q' r):W x (CT B' Q'):=h.mono (CT.mono hb hq)
theorem W.st{A B:Type}{x:Option (Sum A B)}{P P':A→Prop}{Q Q':B→Prop}(h:W x (ST P Q))(hp:∀a,P a→P' a)(hq:∀b,Q b→Q' b):W x (ST P' Q'):=
 h.mono fun c hc=>by cases c with
  |inl a=>exact hp a hc
  |inr b=>exact hq b hc
theorem W.iter{U R:Type}{F:(U→Option R)→U→Option R}{P:R→Prop}(I:U→Prop)(μ:U→Nat)
 (h:∀rec u,I u→(∀u',I u'→μ u'<μ u→W (rec u') P)→W (F rec u) P):∀n u,I u→μ u<n→W (aM F n u) P:=
 IS I μ (fun _ x=>W x P) h
theorem dw{t:Ty}{l:List t.den}{a:Int}(h0:0≤a)(h1:a<(l.length:Int)):nth t l a∈l:=by
 have h:a.toNat<l.length:=by omega
 grind [ew]
end Go.Ax
namespace Go.Ax
theorem AY{U R β:Type}{F:(U→Option (cV β R))→U→Option (cV β R)}{f:β→Option R}{n:Nat}(Q:Option R→Prop)(len:Nat)(at_:Nat→U)(b:β)(C:Nat→Prop)(P:R→Prop)
 (hn:len<n)
 (step:∀rec i,i<len→(C i∧F rec (at_ i)=rec (at_ (i+1)))∨∃r,P r∧F rec (at_ i)=some (.ret r))
 (stop:∀rec,F rec (at_ len)=some (.brk b)) (h1:(∀j,j<len→C j)→Q (f b)) (h2:∀r,P r→Q (some r)):Q (aI (aM F n (at_ 0)) f):=by
 rcases Tz (L:=aM F) rfl len at_ b C P step stop n hn with⟨h3,e⟩|⟨r,h3,e⟩
 ·rw[e,aJ];grind
 ·rw[e,fv];grind
theorem mG{t:Ty}{l:List t.den}{i:Nat}(h:i<l.length):nth t l (i:Int)∈l:=ew (t:=t) h▸kg h
theorem LJ{E:Type}(t:Ty)(p:t.den→E→Option (Bool×E))(l:List t.den)(e0:E)(q:t.den→Bool)(hp:∀x∈l,p x e0=some (q x,e0))(hl:l.length≤aG):
 ∃r:Int,aI (U:=E) ((aM fun rec(u:List t.den×Int×Int×E)=>match u with|⟨e,d,c,f⟩=>if(decide (c<d))=true then(if 0≤c then(if c<(List.length e:Int) then(Option.bind (p (nth t e c) f) fun⟨a,b⟩=>if a=true then(cw (some (c,b))) else(rec (e,d,bB (c+(1:Int)),b))) else none) else none) else(some (.brk f))) (Int.toNat (List.length l:Int)+1) (l,(List.length l:Int),(0:Int),e0)) (fun v1=>some ((-1:Int),v1))=some (r,e0)∧(0≤r↔∃x∈l,q x=true):=by
 have hB:aG=140737488355328:=rfl
 refine AY (fun z=>∃r:Int,z=some (r,e0)∧(0≤r↔∃x∈l,q x=true)) l.length (fun i=>(l,(l.length:Int),(i:Int),e0)) e0 (fun i=>∀h:i<l.length,q l[i]=false) (fun r:Int×E=>∃i,∃h:i<l.length,q l[i]=true∧r=((i:Int),e0)) (by omega) ?step ?stop ?h1 ?h2
 case step=>
  intro rec i hi
  dsimp only
  have d1:decide ((i:Int)<(l.length:Int))=true:=cU (by omega)
  rw[aA d1,aA (eB i),aA (show(i:Int)<(l.length:Int) by omega),hp _ (mG hi),aK]
  dsimp only
  rw[ew (t:=t) hi]
  cases hq:q l[i] with
  |true=>exact Or.inr ⟨_,⟨i,hi,hq,rfl⟩,rfl⟩
  |
   false=>
   rw[aD (by decide),bG (by omega)]
   grind
 case stop=>
  grind
 case h1=>
  intro h1
  refine⟨-1,rfl,?_⟩
  constructor
  ·grind
  ·rintro⟨x,hx,hq⟩
   obtain⟨j,hj,rfl⟩:=kV hx
   grind
 case h2=>
  rintro _ ⟨i,hi,hq,rfl⟩<;>grind
theorem afW{E:Type}(t:Ty)(p:t.den→E→Option Bool)(l:List t.den)(e0:E)(q:t.den→Bool)(hp:∀x∈l,p x e0=some (q x))(hl:l.length≤aG):
 ∃r:Int,aI (U:=Unit) ((aM fun rec(u:List t.den×E×Int×Int)=>match u with|⟨c,d,b,a⟩=>if(decide (a<b))=true then(if 0≤a then(if a<(List.length c:Int) then(Option.bind (p (nth t c a) d) fun y4=>if y4=true then(cw (some a)) else(rec (c,d,b,bB (a+(1:Int))))) else none) else none) else(some (.brk ()))) (Int.toNat (List.length l:Int)+1) (l,e0,(List.length l:Int),(0:Int))) (fun _=>some (-1:Int))=some r∧(0≤r↔∃x∈l,q x=true):=by
 have hB:aG=140737488355328:=rfl
 refine AY (fun z=>∃r:Int,z=some r∧(0≤r↔∃x∈l,q x=true)) l.length (fun i=>(l,e0,(l.length:Int),(i:Int))) () (fun i=>∀h:i<l.length,q l[i]=false) (fun r:Int=>∃i,∃h:i<l.length,q l[i]=true∧r=(i:Int)) (by omega) ?step ?stop ?h1 ?h2
 case step=>
  intro rec i hi
  dsimp only
  have d1:decide ((i:Int)<(l.length:Int))=true:=cU (by omega)
  rw[aA d1,aA (eB i),aA (show(i:Int)<(l.length:Int) by omega),hp _ (mG hi),aK,ew (t:=t) hi]
  cases hq:q l[i] with
  |true=>exact Or.inr ⟨_,⟨i,hi,hq,rfl⟩,rfl⟩
  |
   false=>
   rw[aD (by decide),bG (by omega)]
   grind
 case stop=>
  grind
 case h1=>
  intro h1
  refine⟨-1,rfl,?_⟩
  constructor
  ·grind
  ·rintro⟨x,hx,hq⟩
   obtain⟨j,hj,rfl⟩:=kV hx
   grind
 grind
theorem WS(t:Ty)(p:t.den→Option Bool)(l:List t.den)(q:t.den→Bool)(hp:∀x∈l,p x=some (q x))(hl:l.length≤aG):
 ∃r:Int,aI (U:=Unit) ((aM fun rec(u:List t.den×Int×Int)=>match u with|⟨c,b,a⟩=>if(decide (a<b))=true then(if 0≤a then(if a<(List.length c:Int) then(Option.bind (p (nth t c a)) fun y4=>if y4=true then(cw (some a)) else(rec (c,b,bB (a+(1:Int))))) else none) else none) else(some (.brk ()))) (Int.toNat (List.length l:Int)+1) (l,(List.length l:Int),(0:Int))) (fun _=>some (-1:Int))=some r∧(0≤r↔∃x∈l,q x=true):=by
 have hB:aG=140737488355328:=rfl
 refine AY (fun z=>∃r:Int,z=some r∧(0≤r↔∃x∈l,q x=true)) l.length (fun i=>(l,(l.length:Int),(i:Int))) () (fun i=>∀h:i<l.length,q l[i]=false) (fun r:Int=>∃i,∃h:i<l.length,q l[i]=true∧r=(i:Int)) (by omega) ?step ?stop ?h1 ?h2
 case step=>
  intro rec i hi
  dsimp only
  have d1:decide ((i:Int)<(l.length:Int))=true:=cU (by omega)
  rw[aA d1,aA (eB i),aA (show(i:Int)<(l.length:Int) by omega),hp _ (mG hi),aK,ew (t:=t) hi]
  cases hq:q l[i] with
  |true=>exact Or.inr ⟨_,⟨i,hi,hq,rfl⟩,rfl⟩
  |
   false=>
   rw[aD (by decide),bG (by omega)]
   grind
 case stop=>
  grind
 case h1=>
  intro h1
  refine⟨-1,rfl,?_⟩
  constructor
  ·grind
  ·rintro⟨x,hx,hq⟩
   obtain⟨j,hj,rfl⟩:=kV hx
   grind
 grind
theorem SU(t:Ty)(p:t.den→t.den→Option Bool)(x y:List t.den)(hp:∀a∈x,∀b∈y,∃r,p a b=some r)(hl:x.length=y.length→x.length≤aG):
 ∃r:Bool,(if(!decide ((List.length x:Int)=(List.length y:Int)))=true then(some false) else(aI (U:=Unit) ((aM fun rec(u:List t.den×List t.den×Int×Int)=>match u with|⟨d,c,b,a⟩=>if(decide (a<b))=true then(if 0≤a then(if a<(List.length c:Int) then(if 0≤a then(if a<(List.length d:Int) then(Option.bind (p (nth t c a) (nth t d a)) fun y4=>if(!y4)=true then(cw (some false)) else(rec (d,c,b,bB (a+(1:Int))))) else none) else none) else none) else none) else(some (.brk ()))) (Int.toNat (List.length x:Int)+1) (y,x,(List.length x:Int),(0:Int))) fun _=>some true))=some r:=by
 have hB:aG=140737488355328:=rfl
 by_cases hxy:x.length=y.length
 ·have hl:=hl hxy
  rw[aD (by grind)]
  refine AY (fun z=>∃r:Bool,z=some r) x.length (fun i=>(y,x,(x.length:Int),(i:Int))) () (fun _=>True) (fun _:Bool=>True) (by omega) ?step ?stop ?h1 ?h2
  case step=>
   intro rec i hi
   dsimp only
   obtain⟨r,hr⟩:=hp _ (mG hi) _ (mG (t:=t) (l:=y) (i:=i) (by omega))
   rw[aA (cU (by omega)),aA (eB i),aA (by omega),aA (eB i),aA (by omega),hr,aK]
   cases r with
   |false=>exact Or.inr ⟨false,trivial,rfl⟩
   |
    true=>
    rw[aD (by decide),bG (by omega)]
    grind
  case stop=>
   grind
  case h1=>grind
  grind
 ·exact⟨false,aA (by grind)⟩
theorem KQ(t:Ty)(q:t.den→t.den→Bool)(x y:List t.den)(hl:x.length=y.length→x.length≤aG):
 ∃r:Bool,(if(!decide ((List.length x:Int)=(List.length y:Int)))=true then(some false) else(aI (U:=Unit) ((aM fun rec(u:List t.den×List t.den×Int×Int)=>match u with|⟨c,d,b,a⟩=>if(decide (a<b))=true then(if 0≤a then(if a<(List.length c:Int) then(if 0≤a then(if a<(List.length d:Int) then(if(!q (nth t c a) (nth t d a))=true then(cw (some false)) else(rec (c,d,b,bB (a+(1:Int))))) else none) else none) else none) else none) else(some (.brk ()))) (Int.toNat (List.length x:Int)+1) (x,y,(List.length x:Int),(0:Int))) fun _=>some true))=some r:=by
 have hB:aG=140737488355328:=rfl
 by_cases hxy:x.length=y.length
 ·have hl:=hl hxy
  rw[aD (by grind)]
  refine AY (fun z=>∃r:Bool,z=some r) x.length (fun i=>(x,y,(x.length:Int),(i:Int))) () (fun _=>True) (fun _:Bool=>True) (by omega) ?step ?stop ?h1 ?h2
  case step=>
   intro rec i hi
   dsimp only
   rw[aA (cU (by omega)),aA (eB i),aA (by omega),aA (eB i),aA (by omega)]
   cases q (nth t x i) (nth t y i) with
   |false=>exact Or.inr ⟨false,trivial,rfl⟩
   |
    true=>
    rw[aD (by decide),bG (by omega)]
    grind
  case stop=>
   grind
  case h1=>grind
  grind
 ·exact⟨false,aA (by grind)⟩
end Go.Ax
namespace Go.Ax
theorem fw{α:Type}{kt:Ty}{k:kt.den}{v:α}:∀{es:List (kt.den×α)}{p:kt.den×α},p∈bF kt k v es→p=(k,v)∨p∈es
 |
  [],p,h=>by
  grind [bF]
 |
  e::es,p,h=>by
  unfold bF at h
  split at h
  ·rcases List.mem_cons.1 h with h|h
   ·exact Or.inl h
   ·exact Or.inr (eH _ h)
  ·rcases List.mem_cons.1 h with h|h
   ·exact Or.inr (h▸dK ..)
   ·rcases fw h with h|h
    ·exact Or.inl h
    ·exact Or.inr (eH _ h)
def VR(n:Nat)(M:List (List UInt8×Int)):Prop:=∀p∈M,0≤p.2∧p.2<(n:Int)
theorem VR.get{n:Nat}{M:List (List UInt8×Int)}(h:VR n M){k:List UInt8}(hk:de .str k M=true):0≤bE .str (.int .i64) k M∧bE .str (.int .i64) k M<(n:Int):=by
 obtain⟨i,hi⟩:=pW (kt:=.str) (vt:=.int .i64) rfl hk
 exact h _ (mU hi)
theorem kL(t:Ty)(nm:t.den→Option (List UInt8))(g:t.den→List UInt8)(hn:∀x,nm x=some (g x))(l:List t.den)(hl:l.length≤aG):
 ∃M b,VR l.length M∧aI (U:=Bool×List (List UInt8×Int)) ((aM fun rec(u:Bool×List t.den×Int×Int×List (List UInt8×Int))=>match u with|⟨e,c,b,a,d⟩=>if(decide (a<b))=true then(if 0≤a then(if a<(List.length c:Int) then(Option.bind (nm (nth t c a)) fun y4=>if(de .str y4 d)=true then(rec (true,c,b,bB (a+(1:Int)),d)) else(Option.bind (nm (nth t c a)) fun y5=>if List.length d+1≤aG then(rec (e,c,b,bB (a+(1:Int)),bF .str y5 a d)) else none)) else none) else none) else(some (.brk (e,d))):Nat→_→Option (cV (Bool×List (List UInt8×Int)) (Option (List (List UInt8×Int))×Bool))) (Int.toNat (List.length l:Int)+1) (false,l,(List.length l:Int),(0:Int),([]:List (List UInt8×Int)))) (fun u=>match u with|⟨b,a⟩=>some (some a,b))=some (some M,b):=by
 have hB:aG=140737488355328:=rfl
 suffices key:∀(n i:Nat)(e:Bool)(d:List (List UInt8×Int)),l.length -i<n→i≤l.length→d.length≤i→VR l.length d→∃M b,VR l.length M∧aI (U:=Bool×List (List UInt8×Int)) ((aM fun rec(u:Bool×List t.den×Int×Int×List (List UInt8×Int))=>match u with|⟨e,c,b,a,d⟩=>if(decide (a<b))=true then(if 0≤a then(if a<(List.length c:Int) then(Option.bind (nm (nth t c a)) fun y4=>if(de .str y4 d)=true then(rec (true,c,b,bB (a+(1:Int)),d)) else(Option.bind (nm (nth t c a)) fun y5=>if List.length d+1≤aG then(rec (e,c,b,bB (a+(1:Int)),bF .str y5 a d)) else none)) else none) else none) else(some (.brk (e,d))):Nat→_→Option (cV (Bool×List (List UInt8×Int)) (Option (List (List UInt8×Int))×Bool))) n (e,l,(List.length l:Int),(i:Int),d)) (fun u=>match u with|⟨b,a⟩=>some (some a,b))=some (some M,b) from
  key _ 0 false [] (by omega) (by omega) (by simp) fun p hp=>by cases hp
 intro n
 induction n with
 |zero=>grind
 |
  succ n ih=>
  intro i e d hn' hi hd hv
  rw[aO]
  generalize aM _ n=rec at ih ⊢
  dsimp only
  by_cases h:i<l.length
  ·rw[aA (cU (by omega)),aA (eB i),aA (show(i:Int)<(l.length:Int) by omega),hn,aK,bG (by omega)]
   split
   ·exact ih (i+1) true d (by omega) (by omega) (by omega) hv
   ·rw[aK,aA (by omega)]
    refine ih (i+1) e _ (by omega) (by omega) (dp (eM (kt:=.str)) (by omega)) fun p hp=>?_
    rcases fw (kt:=.str) hp with rfl|hp
    ·grind
    ·exact hv p hp
  ·rw[aD (by grind)]
   exact⟨d,e,hv,rfl⟩
end Go.Ax
namespace Go.Ax
theorem di{S U R:Type}{L:Nat→U→Option R}{F:(U→Option R)→U→Option R}(e:L=aM F)(P:R→Prop)(len:Nat)(st:Nat→S→U)(I:Nat→S→Prop)
 (step:∀rec i s,i<len→I i s→(∀s',I (i+1) s'→W (rec (st (i+1) s')) P)→W (F rec (st i s)) P)
 (stop:∀rec s,I len s→W (F rec (st len s)) P):∀n i s,len -i<n→i≤len→I i s→W (L n (st i s)) P:=by
 subst e
 intro n
 induction n with
 |zero=>grind
 |
  succ n ih=>
  grind [aO]
theorem W.tot{R:Type}{x:Option R}{P:R→Prop}(h:∃r,x=some r)(hp:∀r,P r):W x P:=h.imp fun r h=>⟨h,hp r⟩
theorem W.bt{A R:Type}{x:Option A}{f:A→Option R}{P:R→Prop}(h:∃r,x=some r)(hp:∀r,W (f r) P):W (Option.bind x f) P:=yy.2 (W.tot h hp)
theorem iM{α:Type}(l:List α)(c:Nat)(h:l.length*c≤aG):(if(List.length ([]:List α)+List.length l)*c≤aG then some l else none)=some l:=by
 grind
end Go.Ax
namespace Go.Ax
end Go.Ax
namespace Go.Ax
theorem uK{S U R:Type}{L:Nat→U→Option R}{F:(U→Option R)→U→Option R}(e:L=aM F)(Q:Nat→S→R→Prop)(len:Nat)(st:Nat→S→U)(I:Nat→S→Prop)
 (step:∀rec i s,i<len→I i s→(∀s',I (i+1) s'→W (rec (st (i+1) s')) (Q (i+1) s'))→W (F rec (st i s)) (Q i s))
 (stop:∀rec s,I len s→W (F rec (st len s)) (Q len s)):∀n i s,len -i<n→i≤len→I i s→W (L n (st i s)) (Q i s):=by
 subst e
 intro n
 induction n with
 |zero=>intro i s h;omega
 |
  succ n ih=>
  intro i s hn hi hI
  rw[aO]
  by_cases h:i<len
  ·exact step _ i s h hI fun s' h'=>ih (i+1) s' (by omega) (by omega) h'
  ·have:i=len:=by omega
   subst this
   exact stop _ s hI
end Go.Ax
namespace Go.Ax
open Go.Proofs Go.Sort Go.Shelf
def SX(c:Int→Int→Option Int)(x y:Int):Bool:=decide ((c x y).getD 0<0)
structure aff(c:Int→Int→Option Int)(xs:List Int):Prop where
 ne:xs≠[]
 irr:∀x∈xs,SX c x x=false
 has:∀x∈xs,∀y∈xs,∃r,c x y=some r
 tot:∀x∈xs,∀y∈xs,x=y∨SX c x y= !SX c y x
 tr:∀x∈xs,∀y∈xs,∀z∈xs,SX c x y=true→SX c y z=true→SX c x z=true
section
variable{c:Int→Int→Option Int} {xs:List Int}
end
theorem rT{w:World}{S:Nat→Prop}{k:IntKind}:∀{xs:List Int},(∀x∈xs,k.min≤x∧x≤k.max)→aV (Rel w S (.int k)) (xs.map (Value.int k)) xs
 |[],_=>rfl
 |x::xs,h=>⟨[.int k x],xs.map (Value.int k),rfl,⟨rfl,h x (dK ..)⟩,rT fun y hy=>h y (eH _ hy)⟩
end Go.Ax
namespace Go.Ax
open Go.Proofs Go.Sort Go.Shelf Go.Maps
def jJ{β:Type}(es:List (Int×β)):List Int:=(es.map (·.1)).mergeSort fun x y=>decide (x≤y)
def AZ{β:Type}(es:List (Int×β)):Option (List Int):=if es.length*8≤aG then some (jJ es) else none
theorem E9{E:Env}{w:World}{v:Ty}:∀{en:List MapEntry}{es:List (Int×v.den)},RM E w (.int .i64) v en es→en.map (·.key)=es.map (fun x=>Value.int .i64 x.1)∧(∀x∈es,IntKind.i64.min≤x.1∧x.1≤IntKind.i64.max)
 |[],[],_=>⟨rfl,fun x hx=>by cases hx⟩
 |[],_::_,h=>h.elim
 |_::_,[],h=>h.elim
 |
  e::en,x::es,⟨h1,_,h3⟩=>by
  obtain⟨k1,k2⟩:=E9 h3
  have hk:e.key= .int .i64 x.1∧IntKind.i64.min≤x.1∧x.1≤IntKind.i64.max:=by
   rcases h1 with⟨hx,_⟩|⟨_,hx,hb⟩
   ·cases hx
   grind
  grind
theorem IT{m b:Nat}{k k' k'':aN}(h:(aR (List.replicate m none) [(0,some k),(1,some k')])[b]? =some (some k'')):(b=0∧k''=k)∨(b=1∧k''=k'):=by
 rcases ei h with h|⟨_,h⟩<;>grind
theorem lA{m b X:Nat}{k k' k2 k'':aN}(h:(aR (List.replicate m none) [(0,some k),(1,some k'),(X,some k2)])[b]? =some (some k'')):(b=0∧k''=k)∨(b=1∧k''=k')∨(b=X∧k''=k2):=by
 rcases ei h with h|⟨_,h⟩<;>grind
def A0(_:Value):Option (DataW Unit×List MemPlace):=some (.nil,[])
theorem LK{P:Program}{ρa ρb:Ren}(L10:SlLaysZI.n10 P ρa)(L6:SlLaysZI.n6 P ρb)(hsorts:AnyZI.SortsIn P ρb Fence.wide 4){gl:Ctx}(hmd:¬gl.md)
 (hent:∀vs w,(callFunc (ρb.f 6) vs).run P w= .ok (.enter (ρb.f 6) vs) w) (e9:∀vs w,(callFunc (ρb.f 9) vs).run P w= .ok (.enter (ρb.f 9) vs) w) (eg:∀vs w,(callFunc (ρa.f 10) vs).run P w= .ok (.enter (ρa.f 10) vs) w)
 {tv vt:Ty} {es:List (Int×vt.den)} {ys:List Int} (hs:AZ es=some ys) (m X:Nat) (hm:1<m) (hX:X<m) (hX2:16≤X):
 Fc P gl (ρb.f 6) [.func (.func (ρa.f 10)) .nil (.cons (.ptr 0 []) .nil)] (aR (List.replicate m none) [(0,some (.var tv (.mp 1))),(1,some (.map (.int .i64) vt es))]) (.ret (.own X)) (dm m [(0,.var tv (.mp 1)),(1,.map (.int .i64) vt es),(X,.row (ρb.t 26) 8 (.int .i64) ys)]):=by
 refine⟨hent,?_⟩
 unfold AZ at hs
 split at hs
 ·rename_i hlen
  cases hs
  refine sN.oj (fun b k hb=>by rcases IT hb with⟨_,rfl⟩|⟨_,rfl⟩<;>rfl) ?_
  intro E w vs hP hvs hw
  match vs,hvs with
  |
   [v0],⟨h0,_⟩=>
   have at0:(aR (List.replicate m none) [(0,some (aN.var tv (.mp 1))),(1,some (.map (.int .i64) vt es))])[0]? =some (some (.var tv (.mp 1))):=by
    simp[aR,show 0<m by omega]
   have at1:(aR (List.replicate m none) [(0,some (aN.var tv (.mp 1))),(1,some (.map (.int .i64) vt es))])[1]? =some (some (.map (.int .i64) vt es)):=by
    simp[aR,hm]
   obtain⟨n1,_,gm,en,clock,m1,m2,m3,m4,m5⟩:=hw.cM 1 _ at1
   obtain⟨b1,_,gb,cells,eb,b2,b3,b4⟩:=hw.cM 0 _ at0
   have h0:cK E w (.func (.func (ρa.f 10)) .nil (.cons (.ptr 0 []) .nil)) v0:=h0
   rcases h0 with⟨hx,_⟩|⟨_,f,cb,q1,q2,q3,_,_⟩
   ·cases hx
   have q2:f.toList= []:=q2
   have hf:f= #[]:=by
    grind
   subst hf
   obtain⟨v1,v2,q4,⟨gp,q5,q6,_⟩,q7⟩:=q3
   rw[b2] at q5;cases q5
   have q7:v2= []:=q7
   have hoff:(E.bt 0).off []=0:=Ty.ku _
   have hcb:cb= #[.pointer (some ⟨gb,0,none⟩)]:=by
    grind
   have hv0:v0= .func (.func (ρa.f 10)) #[] #[.pointer (some ⟨gb,0,none⟩)]:=by
    grind
   obtain⟨gq,b5,b6⟩:=b4
   rw[m1] at b5;cases b5
   have hgb:gb<w.heap.size:=(Array.getElem?_eq_some_iff.1 b3).1
   have hcell:w.cell? ⟨gb,0,none⟩=some (.map (some gm)):=by
    unfold World.cell?
    rw[b3]
    have:cells= #[.map (some gm)]:=by
     grind
    grind
   obtain⟨k1,k2⟩:=E9 m3
   have hesz:en.size=es.length:=by
    have:=congrArg List.length k1
    grind
   have hmx:aG=140737488355328:=rfl
   have hml:maxLen=9223372036854775807:=rfl
   have u26:P.underlying (ρa.t 26)=some (.int .i64):=L10.t26
   have hkey:∀x∈en.toList,∃z:Int,keyOf P (ρa.t 26) x.key=some (.int .i64 z)∧x.key= .int .i64 z:=by
    intro x hx
    have:x.key∈en.toList.map (·.key):=List.mem_map.2 ⟨x,hx,rfl⟩
    rw[k1] at this
    obtain⟨y,hy,e⟩:=List.mem_map.1 this
    refine⟨y.1,?_,e.symm⟩
    rw[←e]
    have hw:(Lit.int .i64 y.1).wf=true:=by
     grind [Lit.wf]
    simp[keyOf,u26,mapKey,hw]
   have hrd:∀x∈en.toList,∀z:Int,x.key= .int .i64 z→Go.WideElems.rd P (ρa.t 26) A0 x=some (.int .i64 z,.nil):=by
    grind [Go.WideElems.rd,A0]
   have hown:w.ownsMap P (ρa.t 26) A0 gm en.size (.map ((en.toList.map (Go.WideElems.rg P (ρa.t 26) A0)).foldr DataW.insert [])):=by
    refine⟨en,clock,m2,⟨by rw[hesz];omega,⟨m4,m5,?_⟩,fun x hx=>?_⟩,dD _,rfl⟩<;>grind
   have hD:∀ss:List Int,ss.Perm (intKeys (.map ((en.toList.map (Go.WideElems.rg P (ρa.t 26) A0)).foldr DataW.insert [])))→ss.Perm (es.map (·.1)):=by
    intro ss hss
    refine hss.trans ?_
    have p1:=(WideShapes.sorted_perm (en.toList.map (Go.WideElems.rg P (ρa.t 26) A0))).map (fun p=>intOf p.1)
    refine List.Perm.trans p1 (List.Perm.of_eq ?_)
    rw[List.map_map]
    have:en.toList.map ((fun p:Lit×DataW Unit=>intOf p.1)∘Go.WideElems.rg P (ρa.t 26) A0)=(en.toList.map (·.key)).map fun v=>match v with| .int _ z=>z|_=>0:=by
     rw[List.map_map]
     apply List.map_congr_left
     intro x hx
     obtain⟨z,_,hz⟩:=hkey x hx
     simp only[Function.comp,Go.WideElems.rg_of (hrd x hx z hz),hz]
     rfl
    simp_all
   have hDs:Maps.size (DataW.map ((en.toList.map (Go.WideElems.rg P (ρa.t 26) A0)).foldr DataW.insert []))=es.length:=by
    show List.length _=_
    rw[length_read,hesz]
   have hseq:=AnyZI.keys_gives L10 (H:=Unit) Fence.wide 2 trivial rfl (by omega) gb gm en.size _ w hgb hcell hown
   rw[hDs] at hseq
   have main:=AnyZI.sorted_in L6 Fence.wide 5 trivial trivial trivial trivial rfl (by omega) hsorts e9 (ρa.f 10) #[.pointer (some ⟨gb,0,none⟩)] trivial eg _ es.length (by omega) (by omega) w hseq
   have hargs:[v0].toArray= #[.func (.func (ρa.f 10)) #[] #[.pointer (some ⟨gb,0,none⟩)]]:=by rw[hv0]
   rw[hargs]
   refine(callsIn_wide.1 main).mono ?_
   rintro e1 w1 ⟨v,ss,rfl,hS,hrow,_,hb⟩
   have hperm:=hD ss hS
   have hsort:(ss.mergeSort fun x y=>decide (x≤y))=jJ es:=mergeSort_of_perm_i hperm
   rw[hsort] at hrow
   have hsl:ss.length=es.length:=by rw[hperm.length_eq,iD]
   have hyl:(jJ es).length=es.length:=by unfold jJ;simp_all
   have hsame:∀g,g<w.heap.size→w1.heap[g]? =w.heap[g]? :=fun g hg=>hb.block g hg
   have hb2:∀z∈jJ es,IntKind.i64.min≤z∧z≤IntKind.i64.max:=by
    intro z hz
    have:z∈es.map (·.1):=(List.mergeSort_perm _ _).mem_iff.1 hz
    grind
   rw[hsl,←hyl] at hrow
   obtain⟨og,hEv,hog,hRB⟩:∃og:Option Nat,(∃a n c,v= .slice a n c)∧(∀g,og=some g→w.heap.size≤g)∧∀E':Env,E'.g X=og→E'.sv X=v→E'.bt X= .arr (jJ es).length (.int .i64)→RB E' w1 X (.row (ρb.t 26) 8 (.int .i64) (jJ es)):=by
    rcases hrow.2 with⟨hv,hz⟩|⟨g,cap,cur,hv,r0,r1,r2,r3,r4,r5⟩
    ·have hn:jJ es= []:=xz hz
     refine⟨none,⟨_,_,_,hv⟩,(fun g hg=>by cases hg),fun E' h1 h2 h3=>?_⟩
     rw[hn] at h3 ⊢
     exact⟨h3,by simp,by simp,Nat.one_pos,none,0,by grind,fR _,Or.inl ⟨⟨rfl,rfl⟩,h1,rfl⟩⟩
    ·refine⟨some g,⟨_,_,_,hv⟩,(fun g' hg=>by grind),fun E' h1 h2 h3=>?_⟩
     refine⟨h3,by grind,by grind,Nat.one_pos,some ⟨g,0,none⟩,cap,by grind,r3,Or.inr ⟨g,cur,h1,rfl,r1,r4,r2,?_⟩⟩
     have hsz:Ty.size (.int .i64)=1:=rfl
     grind [rT]
   have hX0:X≠0:=by omega
   have hX1:X≠1:=by omega
   let E':Env:={E with g:=fun b=>if b=X then og else E.g b,sv:=fun b=>if b=X then v else E.sv b,bt:=fun b=>if b=X then .arr (jJ es).length (.int .i64) else E.bt b}
   have outE:dm m [(0,.var tv (.mp 1)),(1,.map (.int .i64) vt es),(X,.row (ρb.t 26) 8 (.int .i64) (jJ es))]=aR (List.replicate m none) [(0,some (.var tv (.mp 1))),(1,some (.map (.int .i64) vt es)),(X,some (.row (ρb.t 26) 8 (.int .i64) (jJ es)))]:=rfl
   have kp:bL E w E' w1:=⟨fun b hb'=>hsame b (hw.slt b hb'),fun _ h=>h⟩
   have eX:E'.g X=og∧E'.sv X=v∧E'.bt X= .arr (jJ es).length (.int .i64):=⟨aA rfl,aA rfl,aA rfl⟩
   have eN:∀b,b≠X→E'.g b=E.g b∧E'.sv b=E.sv b∧E'.bt b=E.bt b:=fun b h=>⟨aD h,aD h,aD h⟩
   have gm_lt:gm<w.heap.size:=(Array.getElem?_eq_some_iff.1 m2).1
   have g_old:∀b g,b=0∨b=1→E'.g b=some g→g<w.heap.size∧E.g b=some g:=by
    grind
   refine⟨E',?_,?_,?_⟩
   ·show cK _ _ _ _
    obtain⟨a,n,c,hv⟩:=hEv
    exact Or.inr ⟨rfl,by grind,a,n,c,by grind⟩
   ·rw[outE]
    refine⟨fun b k hb'=>?_,fun b b' k k' g hb1 hb2 hg1 hg2=>(have hg1:=hg1.resolve_right (hP _ _);have hg2:=hg2.resolve_right (hP _ _);?_),fun b k g hb' hg hS'=>(have hg:=hg.resolve_right (hP _ _);?_),fun g hg=>vp (hw.slt g hg) hb.size,hw.gj kp,fun b _ g _ h=>absurd h (hP b g)⟩
    ·rcases lA hb' with⟨rfl,rfl⟩|⟨rfl,rfl⟩|⟨rfl,rfl⟩
     ·refine RB.mono kp (fun c hc=>?_) (fun g hg=>hsame g (have hg:=hg.resolve_right (hP _ _);?_)) (fun hp=>by cases hp) (hw.cM 0 _ at0)
      ·have:c=0∨c=1:=by simpa[aN.ids,AV.ids] using hc
       grind
      grind
     ·refine RB.mono kp (fun c hc=>?_) (fun g hg=>hsame g (have hg:=hg.resolve_right (hP _ _);?_)) (fun hp=>by cases hp) (hw.cM 1 _ at1)
      ·grind [aN.ids]
      grind
     grind
    ·have qG:∀b k,(aR (List.replicate m none) [(0,some (aN.var tv (.mp 1))),(1,some (.map (.int .i64) vt es)),(X,some (.row (ρb.t 26) 8 (.int .i64) (jJ es)))])[b]? =some (some k)→b≠X→b=0∨b=1:=by
      grind [lA]
     grind
    ·rcases lA hb' with⟨rfl,_⟩|⟨rfl,_⟩|⟨rfl,_⟩
     ·exact hw.jY 0 _ g at0 (g_old 0 g (Or.inl rfl) hg).2 hS'
     ·exact hw.jY 1 _ g at1 (g_old 1 g (Or.inr rfl) hg).2 hS'
     ·rw[eX.1] at hg
      have:=hog g hg
      have:=hw.slt g hS'
      omega
   ·rw[outE]
    refine⟨hb.os,⟨hb.tape,fun m=>absurd m hmd⟩,hb.output,hb.size,fun g hg _=>hsame g hg,fun _ h=>h,fun g hg=>Or.inl hg,fun g hg=>?_,fun b hb16=>eN b (by omega)⟩
    obtain⟨b,k,hbk,hg⟩:=hg
    have hg:=hg.resolve_right (hP _ _)
    rcases lA hbk with⟨rfl,_⟩|⟨rfl,_⟩|⟨rfl,_⟩
    ·exact Or.inl ⟨0,_,at0,Or.inl (g_old 0 g (Or.inl rfl) hg).2⟩
    ·exact Or.inl ⟨1,_,at1,Or.inl (g_old 1 g (Or.inr rfl) hg).2⟩
    grind
 grind
end Go.Ax
namespace Go.Ax
def oo(W:World):Env:=⟨fun _=>none,fun _=>undef,fun _=>.unit,fun g=>g<W.heap.size,fun _ _=>False⟩
theorem aV.collect{α:Type}{r:List Value→α→Prop}{k:Nat}:∀(n:Nat)(cs:List Value),cs.length=n*k→(∀i,i<n→∃y,r ((cs.drop (i*k)).take k) y)→∃ys,ys.length=n∧aV r cs ys
 |0,cs,hl,_=>⟨[],rfl,xz (by grind)⟩
 |
  n+1,cs,hl,h=>by
  obtain⟨y,hy⟩:=h 0 (by omega)
  rw[Nat.zero_mul,iC] at hy
  obtain⟨ys,h1,h2⟩:=aV.collect (k:=k) n (cs.drop k) (by grind) (fun i hi=>by
   obtain⟨z,hz⟩:=h (i+1) (by omega)
   refine⟨z,?_⟩
   rw[kj]
   rw[show k+i*k=(i+1)*k from by grind]
   exact hz)
  exact⟨y::ys,by simp[h1],cs.take k,cs.drop k,(kT k cs).symm,hy,h2⟩
theorem cells?_get{w:World}{base:Nat}{a:Addr}{n:Nat}{cs:List Value}(h:w.cells? base a n=some cs):cs.length=n∧∀j v,cs[j]? =some v→w.cell? (a.add j)=some v:=by
 unfold World.cells? at h
 split at h
 ·have hl:=mapM_some_length h
  refine⟨by grind,fun j v hj=>?_⟩
  have hlt:j<n:=by
   grind
  have:=mapM_some_get h j j (by grind)
  grind
 grind
theorem Addr.add_add(a:Addr)(i j:Nat):(a.add i).add j=a.add (i+j):=by
 grind [Addr.add]
theorem aV.IU{α:Type}{w:World}{r:List Value→α→Prop}{a:Addr}{k:Nat}:∀(n s:Nat),(∀i,i<n→∃c y,w.cells? 0 (a.add ((s+i)*k)) k=some c∧r c y)→∃cs ys,ys.length=n∧aV r cs ys∧∀j v,cs[j]? =some v→w.cell? (a.add (s*k+j))=some v
 |0,s,_=>⟨[],[],rfl,rfl,fun j v hj=>by simp at hj⟩
 |
  n+1,s,h=>by
  obtain⟨c,y,h1,h2⟩:=h 0 (by omega)
  rw[Nat.add_zero] at h1
  obtain⟨hl,hc⟩:=cells?_get h1
  obtain⟨cs,ys,g1,g2,g3⟩:=aV.IU n (s+1) (fun i hi=>by
   obtain⟨c',y',q1,q2⟩:=h (i+1) (by omega)
   exact⟨c',y',by rw[show s+1+i=s+(i+1) from by omega];exact q1,q2⟩)
  refine⟨c++cs,y::ys,by simp[g1],⟨c,cs,rfl,h2,g2⟩,?_⟩
  intro j v hj
  rw[List.getElem?_append] at hj
  split at hj
  ·have:=hc j v hj
   rwa [Addr.add_add] at this
  ·rename_i hge
   have:=g3 _ v hj
   rw[hl] at this hge
   rw[show(s+1)*k+(j -k)=s*k+j from by rw[fQ,Nat.one_mul];omega] at this
   exact this
section
variable{H:Type} {enc:TypeId×Value→H} {P:Program} {G:bR} (T:bD P G) {W:World} {spare:Nat→Bool} {held:Bool}
include T
theorem bD.cellsOf{t:TypeId}{td:TD}(h:G.at t=some td):P.cellsOf t=td.ty.size:=by
 obtain⟨i,_,h1,_,h2,_⟩:=T.info h
 simp[Program.cellsOf,h1,h2]
theorem bD.IV{t:TypeId}{td:TD}(ht:G.at t=some td)(hs:td.ty= .bool):P.underlying t=some .bool:=by
 obtain⟨ii,dd,_,h1,_,h2,_⟩:=T.info ht
 have ahE:=dt h2
 rw[h1]
 cases hd:dd with
 |bool=>rfl
 |struct fs=>grind [dx,Ty.isAgg]
 |array n e=>grind [dx,Ty.isAgg]
 |slice e=>grind [cG,Ty.same]
 |map k e=>grind [cG,Ty.same]
 |_=>subst hd;simp[cG,Ty.same,hs] at h2
def Ty.da:Ty→Bool
 | .arr _ t=>t.da
 | .slice _ t=>t.da
 | .pair a b=>a.da&&b.da
 | .aP _| .fns _| .map _ _=>false
 |_=>true
theorem A1:∀(fuel:Nat)(t:TypeId)(td:TD)(cs:List Value)(d:DataW H)(ps:List MemPlace),G.at t=some td→td.ty.da=true→DataW.trod enc P W 0 spare held fuel t cs=some (d,ps)→(∀n∈d.weights P t,n≤aG)→
 ∃x:td.ty.den,Rel W (fun g=>g<W.heap.size) td.ty cs x
 |0,t,td,cs,d,ps,_,_,h,_=>by trivial
 |
  fuel+1,t,td,cs,d,ps,ht,hp,h,hw=>by
  have ih:=fun t td cs d ps=>A1 fuel t td cs d ps
  obtain⟨ty,te,te2⟩:=td
  simp only at hp
  cases ty with
  |
   int k=>
   obtain⟨n,e1,e2,e3⟩:=DataW.trod_int (T.intOf ht rfl) h
   simp only[Lit.wf,aW,mT] at e3
   exact⟨n,e1,e3⟩
  |
   bool=>
   obtain⟨b,e1,e2⟩:=DataW.trod_bool (T.IV ht rfl) h
   exact⟨b,e1⟩
  |
   str=>
   have hu:=T.strOf ht rfl
   unfold DataW.trod at h
   rw[hu] at h
   split at h<;>simp_all
   obtain⟨_,e1,e2⟩:=h
   subst e1
   rename_i s _
   have hlen:s.data.toList.length≤aG:=hw s.data.toList.length (by simp[DataW.weights])
   exact⟨s.data.toList,by simp,hlen⟩
  |
   arr n u=>
   obtain⟨tde,h1,h2,h3⟩:=T.qm ht rfl
   simp only at h1 h2 h3
   subst h3
   obtain⟨xs,m,e1,e2,e3,e4,e5⟩:=DataW.trod_array h1 h
   cases e1;cases e2
   have hcz:=T.cellsOf h2
   have hall:∀i,i<n→∃y,Rel W (fun g=>g<W.heap.size) tde.ty ((cs.drop (i*tde.ty.size)).take tde.ty.size) y:=by
    intro i hi
    have hx:=e5 i hi
    have hlt:i<xs.length:=by omega
    rw[qg hlt,hcz] at hx
    refine ih te tde _ xs[i].1 xs[i].2 h2 hp hx (fun q hq=>hw q ?_)
    have key:∀(l:List (DataW H))(i:Nat)(d:DataW H),l[i]? =some d→∀q∈d.weights P te,q∈DataW.weightsAll P te l:=by
     intro l
     induction l with
     |nil=>grind
     |
      cons a l ihl=>
      grind [DataW.weightsAll]
    simp only[DataW.weights,h1]
    exact key _ i _ (by grind) q hq
   have hl:cs.length=n*tde.ty.size:=by
    rw[e3];exact T.cellsOf ht
   obtain⟨ys,y1,y2⟩:=aV.collect n cs hl hall
   exact⟨ys,y1,y2⟩
  |
   slice bs u=>
   obtain⟨te',ie,h1,h2,h3,h4,h5,h6,h7⟩:=T.cT ht rfl
   simp only at h1 h2 h4
   subst h3
   have hcz:=T.cellsOf h2
   rcases DataW.trod_slice h1 h with⟨e1,e2⟩|⟨a,len,cap,elems,rest,m,e1,e2,e3,e4,e5,e6,e7,e8,_⟩
   ·exact⟨[],none,0,e1,dD _,by simp,by simp,Or.inl rfl⟩
   ·cases e1;cases e3
    have hb:P.bytesOf te=bs:=by simp[Program.bytesOf,h4,h5]
    have hw0:(elems.length+rest.length)*bs≤aG:=by
     simp_all[DataW.weights]
    have hlb:len*bs≤aG:=dp (gB _ (by omega)) hw0
    have hlm:len≤aG:=dp (Nat.le_mul_of_pos_right _ h7) hlb
    have hall:∀i,i<len→∃c y,W.cells? 0 (a.add ((0+i)*te'.ty.size)) te'.ty.size=some c∧Rel W (fun g=>g<W.heap.size) te'.ty c y:=by
     intro i hi
     have hx:=e8 i hi
     have hlt:i<elems.length:=by omega
     rw[qg hlt,hcz] at hx
     simp only[sa] at hx
     obtain⟨c,c1,c2⟩:=hx
     obtain⟨y,hy⟩:=ih te te' c elems[i].1 elems[i].2 h2 hp c2 (fun q hq=>hw q (by
      have key:∀(l:List (DataW H))(i:Nat)(d:DataW H),l[i]? =some d→∀q∈d.weights P te,q∈DataW.weightsAll P te l:=by
       intro l
       induction l with
       |nil=>grind
       |
        cons a l ihl=>
        grind [DataW.weightsAll]
      simp only[DataW.weights,h1,fa,i7]
      exact Or.inr (Or.inl (key _ i _ (by grind) q hq))))
     grind
    obtain⟨cs',ys,g1,g2,g3⟩:=aV.IU (w:=W) (a:=a) len 0 hall
    subst g1
    rw[e2]
    refine⟨ys,some a,cap,rfl,e5,hlb,hlm,?_⟩
    cases hys:ys with
    |nil=>grind
    |
     cons y0 ys0=>
     right
     have hcl:=aV.len (n:=te'.ty.size) (fun _ _ h=>Rel.len h) g2
     have hpos:0<cs'.length:=by simp_all
     have hc0:=g3 0 cs'[0] (by grind)
     simp only[Nat.zero_mul,Nat.add_zero,Addr.add,bZ] at hc0
     have hspot:a.spot=none∧a.block<W.heap.size:=by
      unfold World.cell? at hc0
      split at hc0
      ·rename_i c _ _ hh
       split at hc0
       ·cases hc0
       ·rename_i hs
        exact⟨by simp_all,(Array.getElem?_eq_some_iff.1 hh).1⟩
      grind
     obtain⟨b,o,sp⟩:=a
     simp only at hspot
     obtain⟨hs,hblt⟩:=hspot
     subst hs
     refine⟨b,o,cs',rfl,hblt,?_,by grind⟩
     intro j v hj
     grind
  |
   pair ta tb=>
   obtain⟨fs,h1,h2⟩:=T.structOf ht rfl
   obtain⟨xs,m,e1,e2,e3,e4,e5⟩:=DataW.trod_struct h1 h
   cases e1;cases e2
   have hl:cs.length=(Ty.pair ta tb).size:=by rw[e3];exact T.cellsOf ht
   have key:∀(l:List Field)(ty:Ty)(off:Nat)(ys:List (DataW H×List MemPlace)),cz G l off ty=true→ty.da=true→off+ty.size≤cs.length→ys.length=l.length→
    (∀(i:Nat)(f:Field),l[i]? =some f→DataW.trod enc P W 0 spare held fuel f.type ((cs.drop f.offset).take (P.cellsOf f.type))=ys[i]?)→
    (∀n∈DataW.weightsEach P (l.map (·.type)) (ys.map (·.1)),n≤aG)→∃x:ty.den,Rel W (fun g=>g<W.heap.size) ty ((cs.drop off).take ty.size) x:=by
    intro l
    induction l with
    |
     nil=>
     intro ty off ys hf _ _ _ _ _
     cases ty<;>simp[cz] at hf
     exact⟨(),by trivial⟩
    |
     cons f l ihl=>
     intro ty off ys hf hpu hle hyl hrd hwe
     cases ty with
     |
      pair a b=>
      simp only[cz,aW] at hf
      obtain⟨⟨⟨g1,g2⟩,g3⟩,g4⟩:=hf
      simp only[Ty.da,aW] at hpu
      cases ys with
      |nil=>grind
      |
       cons y ys=>
       split at g1
       ·rename_i td htd
        have:=Ty.aB g1;subst this
        have g2:=bP g2
        have hcz:=T.cellsOf htd
        simp only[Ty.size] at hle
        have hr0:=hrd 0 f rfl
        rw[g2,hcz] at hr0
        simp only[List.getElem?_cons_zero] at hr0
        simp only[dX,DataW.weightsEach,i7] at hwe
        obtain⟨x1,hx1⟩:=ih f.type td _ y.1 y.2 htd hpu.1 hr0 (fun n hn=>hwe n (Or.inl hn))
        obtain⟨x2,hx2⟩:=ihl b (off+td.ty.size) ys g4 hpu.2 (by omega) (by grind) (fun i f' hf'=>by
         have:=hrd (i+1) f' (by grind)
         grind) (fun n hn=>hwe n (Or.inr hn))
        refine⟨(x1,x2),(cs.drop off).take td.ty.size,(cs.drop (off+td.ty.size)).take b.size,?_,hx1,hx2⟩
        simp_all[Ty.size,List.take_add]
       grind
     |_=>trivial
   grind [DataW.weights]
  |
   unit=>
   obtain⟨ii,dd,_,hu,hsz,hdo,_⟩:=T.info ht
   cases dd with
   |
    struct fs=>
    obtain⟨xs,m,e1,e2,e3,e4,e5⟩:=DataW.trod_struct hu h
    have hl:cs.length=0:=by rw[e3];exact T.cellsOf ht
    exact⟨(),xz hl⟩
   |slice e=>simp[cG,Ty.same] at hdo
   |array n e=>simp[cG] at hdo
   |map k e=>trivial
   |_=>trivial
  |aP k=>trivial
  |fns n=>trivial
  |map k v=>trivial
theorem pK{base:Nat}{t:TypeId}{td:TD}{v:Value}{d:DataW H}{p:List MemPlace}(ht:G.at t=some td)(hp:td.ty.da=true)(gL:Value.okWide P W .any base t v)(h:DataW.Trod enc P W 0 spare held t v d p)(hw:∀n∈d.weights P t,n≤aG):
 ∃x:td.ty.den,RV (oo W) W (.val td.ty x) v∧wf td.ty x:=by
 obtain⟨fuel,h⟩:=h
 obtain⟨x,hx⟩:=A1 T fuel t td _ d p ht hp h hw
 refine⟨x,RV.ef ?_,Rel.wf hx⟩
 obtain⟨ii,dd,_,hu,_,hdo,_⟩:=T.info ht
 have ahE:=dt hdo
 cases ha:td.ty.isAgg with
 |
  true=>
  rw[ha] at ahE
  unfold Value.okWide at gL
  rw[hu] at gL
  cases dd<;>simp[dx] at ahE<;>(obtain⟨cs,e,_⟩:=gL;subst e;exact Or.inl ⟨ha,cs,rfl,hx⟩)
 |
  false=>
  rw[ha] at ahE
  refine Or.inr ⟨ha,?_⟩
  cases v with
  |
   agg cs=>
   unfold Value.okWide at gL
   rw[hu] at gL
   cases dd<;>simp[dx] at ahE<;>simp[Cell.okWide,Cell.ok,hu] at gL
  |_=>trivial
end
theorem mapM_mono{α β:Type}{f g:α→Option β}:∀{l:List α}{r:List β},(∀x∈l,∀y,f x=some y→g x=some y)→l.mapM f=some r→l.mapM g=some r
 |[],r,_,h=>by grind
 |
  x::l,r,hm,h=>by
  simp only[List.mapM_cons,Option.bind_eq_bind,sa,Option.pure_def,dn] at h ⊢
  obtain⟨y,h1,ys,h2,h3⟩:=h
  exact⟨y,hm x (by simp) y h1,ys,mapM_mono (fun z hz=>hm z (by simp[hz])) h2,h3⟩
theorem cells?_stay{W W':World}(hs:∀b,b<W.heap.size→W'.heap[b]? =W.heap[b]?){a:Addr}{n:Nat}{cs:List Value}(h:W.cells? 0 a n=some cs):W'.cells? 0 a n=some cs:=by
 unfold World.cells? at h ⊢
 split at h
 ·rename_i hb
  rw[aA hb]
  grind [mapM_mono,World.cell?]
 grind
section
variable{H:Type} {enc:TypeId×Value→H} {P:Program} {G:bR} (T:bD P G) {W W':World} (hs:∀b,b<W.heap.size→W'.heap[b]? =W.heap[b]?)
include T hs
theorem xg:∀(fuel:Nat)(t:TypeId)(td:TD)(cs:List Value)(x:DataW H×List MemPlace),G.at t=some td→td.ty.da=true→DataW.trod enc P W 0 (fun _=>true) true fuel t cs=some x→DataW.trod enc P W' 0 (fun b=>decide (b<W.heap.size)) true fuel t cs=some x
 |0,t,td,cs,x,_,_,h=>by trivial
 |
  fuel+1,t,td,cs,x,ht,hp,h=>by
  have ih:=fun t td cs x=>xg fuel t td cs x
  obtain⟨ty,te,te2⟩:=td
  simp only at hp
  cases ty with
  |
   int k=>
   have hu:=T.intOf ht rfl
   unfold DataW.trod at h ⊢
   rw[hu] at h ⊢
   split at h<;>simp_all
  |
   bool=>
   have hu:=T.IV ht rfl
   unfold DataW.trod at h ⊢
   rw[hu] at h ⊢
   split at h<;>simp_all
  |
   str=>
   have hu:=T.strOf ht rfl
   unfold DataW.trod at h ⊢
   rw[hu] at h ⊢
   split at h<;>simp_all
  |
   arr n u=>
   obtain⟨tde,h1,h2,h3⟩:=T.qm ht rfl
   simp only at h1 h2 h3
   subst h3
   unfold DataW.trod at h ⊢
   rw[h1] at h ⊢
   simp only at h ⊢
   split at h
   ·rename_i hl
    rw[aA hl]
    simp only[fL] at h ⊢
    obtain⟨xs,g1,g2⟩:=h
    exact⟨xs,mapM_mono (fun i _ y hy=>ih te tde _ y h2 hp hy) g1,g2⟩
   grind
  |
   slice bs u=>
   obtain⟨te',ie,h1,h2,h3,h4,h5,h6,h7⟩:=T.cT ht rfl
   simp only at h1 h2 h4
   subst h3
   have hcz:=T.cellsOf h2
   unfold DataW.trod at h ⊢
   rw[h1] at h ⊢
   split at h
   all_goals first
    |(cases h;rfl)
    |skip
   all_goals try (simp_all;done)
   rename_i e0 a len cap heq0
   have he0:e0=te:=by grind
   subst he0
   simp only[bZ] at h
   simp only
   split at h
   ·rename_i hc
    rw[aA hc]
    simp only[sa,fL] at h ⊢
    obtain⟨elems,g1,rest,g2,g3⟩:=h
    have step:∀(i:Nat)(y:DataW H×List MemPlace),(W.cells? 0 (a.add (i*P.cellsOf e0)) (P.cellsOf e0)).bind (DataW.trod enc P W 0 (fun _=>true) true fuel e0)=some y→(W'.cells? 0 (a.add (i*P.cellsOf e0)) (P.cellsOf e0)).bind (DataW.trod enc P W' 0 (fun b=>decide (b<W.heap.size)) true fuel e0)=some y:=by
     intro i y hy
     simp only[sa] at hy ⊢
     obtain⟨c,c1,c2⟩:=hy
     exact⟨c,cells?_stay hs c1,ih e0 te' c y h2 hp c2⟩
    refine⟨elems,mapM_mono (fun i _ y hy=>step i y hy) g1,rest,?_,g3⟩
    by_cases hz:cap -len=0
    ·grind
    ·have hblk:a.block<W.heap.size:=by
      obtain⟨k,hk⟩:∃k,cap -len=k+1:=⟨cap -len -1,by omega⟩
      rw[hk,List.range_succ_eq_map] at g2
      simp only[List.mapM_cons,Option.bind_eq_bind,sa] at g2
      obtain⟨y,⟨c,c1,_⟩,_⟩:=g2
      obtain⟨l1,l2⟩:=cells?_get c1
      have hpos:0<c.length:=by grind
      have:=l2 0 c[0] (by grind)
      grind [World.cell?,Addr.add]
     simp only[hblk,decide_true,bZ]
     grind [mapM_mono]
   grind
  |
   pair ta tb=>
   obtain⟨fs,h1,h2⟩:=T.structOf ht rfl
   unfold DataW.trod at h ⊢
   rw[h1] at h ⊢
   simp only at h ⊢
   split at h
   ·rename_i hl
    rw[aA hl]
    simp only[fL] at h ⊢
    obtain⟨xs,g1,g2⟩:=h
    refine⟨xs,mapM_mono (fun f hf y hy=>?_) g1,g2⟩
    have key:∀(l:List Field)(ty:Ty)(off:Nat),cz G l off ty=true→ty.da=true→∀f∈l,∃td,G.at f.type=some td∧td.ty.da=true:=by
     intro l
     induction l with
     |nil=>grind
     |
      cons f0 l ihl=>
      intro ty off hfo hpu f hf
      cases ty with
      |
       pair a b=>
       simp only[cz,aW] at hfo
       obtain⟨⟨⟨q1,q2⟩,q3⟩,q4⟩:=hfo
       simp only[Ty.da,aW] at hpu
       grind [Ty.aB]
      |_=>trivial
    grind
   grind
  |
   unit=>
   obtain⟨ii,dd,_,hu,hsz,hdo,_⟩:=T.info ht
   cases dd with
   |
    struct fs=>
    have hfs:fs.toList= []:=by
     grind [cG,cz]
    simp_all[DataW.trod]
   |slice e=>simp[cG,Ty.same] at hdo
   |array n e=>simp[cG] at hdo
   |map k e=>trivial
   |_=>trivial
  |aP k=>trivial
  |fns n=>trivial
  |map k v=>trivial
theorem pL:∀(ts:List TypeId)(vs:List Value)(ds:List (DataW H))(ps:List MemPlace),(∀t∈ts,∃td,G.at t=some td∧td.ty.da=true)→DataW.TrodAll enc P W 0 (fun _=>true) true ts vs ds ps→DataW.TrodAll enc P W' 0 (fun b=>decide (b<W.heap.size)) true ts vs ds ps
 |
  [],vs,ds,ps,_,h=>by
  cases vs<;>cases ds<;>first|exact h|exact h.elim
 |
  t::ts,vs,ds,ps,ht,h=>by
  cases vs with
  |nil=>cases ds<;>exact h.elim
  |
   cons v vs=>
   cases ds with
   |nil=>exact h.elim
   |
    cons d ds=>
    obtain⟨p,q,⟨fuel,h1⟩,h2,h3⟩:=h
    obtain⟨td,htd,hpd⟩:=ht t (by simp)
    exact⟨p,q,⟨fuel,xg T hs fuel t td _ _ htd hpd h1⟩,pL ts vs ds q (fun t' ht'=>ht t' (by simp[ht'])) h2,h3⟩
end
theorem HW.bare{gl:Ctx}{W:World}(n:Nat)(hg:JH gl (oo W) W):HW gl (oo W) W (aR (List.replicate n none) []):=by
 have no:∀(b:Nat)(k:aN),(aR (List.replicate n (none:Option aN)) [])[b]? ≠some (some k):=by
  grind [aR]
 exact⟨fun b k h=>absurd h (no b k),fun b _ k _ _ h=>absurd h (no b k),fun b k _ h=>absurd h (no b k),fun g hg=>hg,hg,fun b k _ h=>absurd h (no b k)⟩
theorem IW{H:Type}{enc:TypeId×Value→H}{P:Program}{G:bR}(T:bD P G){gl:Ctx}{f:FuncId}{fn:Func}{s:ChangeSpec}{W:World}{args:Array Value}{ds gs:List (DataW H)}{before:List MemPlace}{avs:List AV}{m:Nat}{bt:TypeId}
 (hc:Fc P gl f avs (aR (List.replicate m none) []) (.ret (.val .bool true)) (dm m [])) (hv:kF (oo W) W avs args.toList) (hg:JH gl (oo W) W)
 (hW:DataW.Whole enc P fn.params.toList s.vars false W args.toList ds gs before) (hvars:s.vars= []) (hpt:∀t∈fn.params.toList,∃td,G.at t=some td∧td.ty.da=true)
 (hrt:fn.resultTypes= #[bt]) (hbt:P.underlying bt=some .bool) (hspec:∀gs,gs= []→(s.fn H (ds++gs)).results= [.lit (.bool true)]∧(s.fn H (ds++gs)).args=ds∧(s.fn H (ds++gs)).vars= []):
 Calls P f args W fun e W'=>∃v,e= .returned v∧s.post enc P fn false true false false W args v W':=by
 have ahS:=hc.2 (oo W) W args.toList hv (HW.bare m hg)
 have e0:args.toList.toArray=args:=by simp
 rw[e0] at ahS
 refine ahS.mono ?_
 rintro e W' ⟨E',hR,_,hX⟩
 cases e with
 |panicked ch=>trivial
 |outgrown=>trivial
 |
  returned v=>
  have hv':=RV.eC hR
  subst hv'
  refine⟨_,rfl,?_⟩
  have noO:∀g,¬Own (aR (List.replicate m (none:Option aN)) []) (oo W) g:=by
   rintro g ⟨b,k,hb,_⟩
   grind [aR]
  have stay:∀b,b<W.heap.size→W'.heap[b]? =W.heap[b]? :=fun b hb=>hX.kept b hb (noO b)
  have hW0:=hW
  obtain⟨p,q,hA,hV,hpq,hfz,hnd⟩:=hW
  rw[hvars] at hV
  have hgs:gs= []∧q= []:=by
   cases gs with
   |nil=>trivial
   |cons _ _=>trivial
  obtain⟨hgs,hq⟩:=hgs
  obtain⟨s1,s2,s3⟩:=hspec gs hgs
  refine⟨ds,gs,before,[],p,[],hW0,?_,?_,?_,?_,fun h=>by cases h⟩
  ·rw[s1,hrt]
   refine⟨[],[],⟨1,?_⟩,rfl,rfl⟩
   simp[DataW.trod,hbt,Value.cells]
  ·grind [pL]
  ·rw[s3,hvars];rfl
  ·refine⟨hX.os,hX.output,fun i hi=>?_⟩<;>grind
end Go.Ax
namespace Go.Ax
end Go.Ax
namespace Go.Ax
theorem A2{P:Program}{w:World}:∀{l:List (String×DataW Unit)}{ps:List MemPlace},DataW.LaidVars P w l ps→∀(i:Nat)(n:String)(d:DataW Unit),l[i]? =some (n,d)→
 ∃g t cs fuel p,P.globalNamed n=some g∧(P.globals[g]?).map (·.type)=some t∧w.var? P n=some cs∧DataW.trod (fun _=>()) P w 0 (fun _=>true) false fuel t cs.toList=some (d,p)
 |[],_,_,i,n,d,hi=>by grind
 |
  (m,e)::r,ps,⟨g,t,cs,fuel,p,q,h1,h2,h3,h4,h5,_⟩,i,n,d,hi=>by
  cases i with
  |
   zero=>
   grind
  |succ i=>exact A2 h5 i n d (by simpa using hi)
theorem kM{P:Program}{W:World}{laid:List (String×DataW Unit)}(h:laidMet P laid W){i:Nat}{name:String}{k:IntKind}{a b:Int}(hi:laid[i]? =some (name,.agg [.lit (.int k a),.lit (.int k b)])){g:Nat}{t:TypeId}{f0 f1:Field}
 (hg:P.globalNamed name=some g) (hty:(P.globals[g]?).map (·.type)=some t) (ht:P.underlying t=some (.struct #[f0,f1])) (h0:P.underlying f0.type=some (.int k)) (h1:P.underlying f1.type=some (.int k)) (hc0:P.cellsOf f0.type=1) (hc1:P.cellsOf f1.type=1) (ho0:f0.offset=0) (ho1:f1.offset=1) (_hct:P.cellsOf t=2)
 (ha:k.min≤a∧a≤k.max) (hb:k.min≤b∧b≤k.max):
 (oo W).S g∧∃cs,oZ W ⟨g,0,none⟩ cs∧Rel W (oo W).S (.pair (.int k) (.pair (.int k) .unit)) cs (a,b,()):=by
 obtain⟨ps,hl,_⟩:=h
 obtain⟨g',t',cs,fuel,p,hg',ht',hvar,hd⟩:=A2 hl i _ _ hi
 obtain rfl:=ja (hg.symm.trans hg')
 obtain rfl:=ja (hty.symm.trans ht')
 obtain⟨xs,n,_,hx,_,hxl,hf⟩:=DataW.trod_struct ht hd
 have hx1:xs.map (·.1)= [.lit (.int k a),.lit (.int k b)]:=by
  grind
 have q0:=hf 0 f0 rfl
 have q1:=hf 1 f1 rfl
 obtain⟨x0,x1,rfl⟩:∃x0 x1,xs= [x0,x1]:=by
  match xs,hxl with
  |[x0,x1],_=>grind
 rw[ho0,hc0] at q0
 rw[ho1,hc1] at q1
 simp only[dX,List.map_nil,List.cons.injEq,and_true] at hx1
 obtain⟨z0,c0,e0,_⟩:=DataW.trod_int h0 q0
 obtain⟨z1,c1,e1,_⟩:=DataW.trod_int h1 q1
 subst e0;subst e1
 obtain⟨g0,g1⟩:=hx1
 have g0:z0=a:=by grind
 have g1:z1=b:=by grind
 subst g0;subst g1
 have hcell:∀j,W.cell? ⟨g,j,none⟩=cs[j]? :=fun j=>World.var?_cell hg hvar j
 have v0:cs.toList[0]? =some (.int k z0):=by
  have:=congrArg (·[0]?) c0
  grind
 have v1:cs.toList[1]? =some (.int k z1):=by
  have:=congrArg (·[0]?) c1
  grind
 have w0:W.cell? ⟨g,0,none⟩=some (.int k z0):=by grind
 have w1:W.cell? ⟨g,1,none⟩=some (.int k z1):=by grind
 refine⟨?_,[.int k z0,.int k z1],?_,[.int k z0],[.int k z1],rfl,⟨rfl,ha⟩,[.int k z1],[],rfl,⟨rfl,hb⟩,rfl⟩
 ·show g<W.heap.size
  grind [World.cell?]
 ·intro j v hj
  match j,hj with
  |0,hj=>simp_all[Addr.add]
  |1,hj=>simp_all[Addr.add]
  |j+2,hj=>grind
end Go.Ax
namespace Go.Ax
theorem db{c:Prop}[Decidable c]{α:Type}{x y:α}(h:c):(if decide c=true then x else y)=x:=if_pos (decide_eq_true h)
theorem gY{a b:Int}{α:Type}{x y:α}(h:¬a<b):(if decide (a<b)=true then x else y)=y:=if_neg fun e=>h (of_decide_eq_true e)
theorem fP(n:Nat){α:Type}{x y:α}:(if 0≤(n:Int) then x else y)=x:=if_pos (Int.natCast_nonneg n)
theorem nE(c:Nat)(h:c≤4611686018427387904):bB ((c:Int)+(1:Int))=((c+1:Nat):Int):=bG h
end Go.Ax
