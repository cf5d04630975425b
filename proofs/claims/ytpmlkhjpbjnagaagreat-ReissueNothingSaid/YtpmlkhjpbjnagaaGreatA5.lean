/- The machines: what it means to be walked or run, part 5. No condition. -/
import Derived.Test.YtpmlkhjpbjnagaaGreatA4
import Derived.RecoverIn
import Derived.Deep.DeepHandedRow
import Derived.OpenShut
import Derived.ChangeArms
namespace Go.Ax
def pick:List Nat→List (Option aP)→List (Nat×aP)
 |[],_=>[]
 |
  b::l,hp=>match hp[b]? with
  |some (some k)=>(b,k)::pick l hp
  |_=>pick l hp
theorem jH{hp:List (Option aP)}:∀{l:List Nat}{b:Nat}{k:aP},(b,k)∈pick l hp→hp[b]? =some (some k)
 |[],_,_,h=>by cases h
 |
  c::l,b,k,h=>by
  simp only[pick] at h
  split at h
  ·rename_i k' hk
   rcases List.mem_cons.1 h with h|h
   ·cases h;exact hk
   ·exact jH h
  ·exact jH h
def aE(G:cd)(rs:List ResultVar)(jI:FuncId)(A:List Sh)(B:List (Nat×dj))(m:Nat)(F:SS)(ob:List Nat)(f:CF (prod (sG A (iq B []))) F.T):aX:=
 ⟨.func jI,A,B,m,F,fun r=>(ji G rs (F.st y0 r)).getD .bot,fun r=>pick ob (F.st y0 r).hp,f⟩
def Tv(F:SS):fV→St→Option F.T
 | .ret,σ=>F.tR σ
 | .normal,σ=>F.tR σ
 |_,_=>none
def Dy(σ:St):Option St:=
 match marks σ.df σ.hp with
 |some hp=>some ⟨σ.tm,hp,[]⟩
 |none=>none
def Dz(F:SS):fV→St→Option F.T
 |
  .ret,σ=>match Dy σ with
  |some σ=>F.tR σ
  |none=>none
 |
  .normal,σ=>match Dy σ with
  |some σ=>F.tR σ
  |none=>none
 |_,_=>none
def me(nt m:Nat)(args:List AV)(ins:List (Nat×Option aP)):St:=⟨args++List.replicate (nt -args.length) .bot,aR (List.replicate m none) ins,[]⟩
def JY{α:Type}:Option α→Bool
 |some _=>true
 |none=>false
theorem mI{x:Option AV}(h:JY x=true):x=some (x.getD .bot):=by
 cases x with
 |none=>cases h
 |some y=>rfl
theorem tN{gl:Ctx}{F:SS}{e:fV}{σ:St}{r:F.T}(h:Dz F e σ=some r):(e= .ret∨e= .normal)∧∃σ1,Dy σ=some σ1∧Wk gl σ1 (F.st y0 r):=by
 cases e with
 |
  ret=>
  simp only[Dz] at h
  split at h
  ·simp_all[SS.iC]
  grind
 |
  normal=>
  simp only[Dz] at h
  split at h
  ·simp_all[SS.iC]
  grind
 |_=>trivial
theorem zb.zf{P:Program}{G:cd}(T:bM P G){gl:Ctx}{f:FuncId}{fn:Func}{c:Code}(hf:P.funcs[f]? =some fn)(hb:fn.body=some c)(hro:gl.ro=none){args:List AV}{ins:List (Nat×Option aP)}{m:Nat}{x:AV}{out:List (Nat×aP)}{σe:St}
 (h:cZ P gl c (me fn.ntmps m args ins) (fun e σ=>(e= .ret∨e= .normal)∧∃σ1,Dy σ=some σ1∧Wk gl σ1 σe)) (_hd:σe.df= []) (anI:ji G fn.results.toList σe=some x) (hout:∀b k,(b,k)∈out→σe.hp[b]? =some (some k)):
 zb P gl f args (aR (List.replicate m none) ins) (.ret x) (dC m out):=by
 intro E w vs hv hw
 obtain⟨hl,anr⟩:=hv.get
 refine CallsIn.calls (F:=Wd gl) (n:=0) (callsIn_of_wp_marks hf hb trivial ?_ hro) (fun k d hd=>by cases hd)
 have hg:cp gl (me fn.ntmps m args ins) E {tmps:=vs.toArray++Array.replicate (fn.ntmps -vs.toArray.size) undef,defers:=[]} w:=by
  refine⟨?_,?_,hw,trivial⟩
  ·grind [me]
  ·intro i x hx v hv'
   simp only[me] at hx
   rw[Array.getElem?_append] at hv'
   simp only[List.getElem?_append] at hx
   split at hx
   ·grind
   ·rw[List.getElem?_replicate] at hx
    split at hx
    ·cases hx;trivial
    grind
 refine wpIn_mono (h E _ w hg) ?_
 rintro ex a' w' ⟨e,σ',E',h1,⟨he,σ1,ho,hwk⟩,h3,h4⟩
 have main:LeavesInM (Wd gl) 0 P fn a'.tmps (fun e w'=>∃E',yZ E' w' (.ret x) e∧HW gl E' w' (dC m out)∧Ext gl.md (bK (aR (List.replicate m none) ins) E) E w (bK (dC m out) E') E' w') a'.defers .returning w':=by
  unfold Dy at ho
  split at ho
  ·rename_i hp1 hm
   cases ho
   refine F6 σ'.df h3 hm (fun w3 k1 k2=>?_)
   obtain⟨E2,g2,x2⟩:=hwk E' _ w3 k1
   obtain⟨v,k3,k4⟩:=qp T g2 anI
   have hw2:HW gl E2 w3 (dC m out):=g2.hw.less (fun b k hb=>hout b k (fp hb))
   have hx:Ext gl.md (bK (aR (List.replicate m none) ins) E) E w (bK (dC m out) E2) E2 w3:=
    {(h4.trans k2).trans x2 with own:=fun g ⟨b,k,hb,hgb⟩=>((h4.trans k2).trans x2).own g ⟨b,k,hout b k (fp hb),hgb⟩}
   exact⟨v,k3,E2,k4,hw2,hx⟩
  grind
 rcases he with rfl|rfl
 ·cases ex with
  |ret=>trivial
  |_=>trivial
 ·cases ex with
  |normal=>trivial
  |_=>trivial
theorem aX.of{P:Program}{G:cd}(T:bM P G){gl:Ctx}{I:List IC}{H:Hs}{Γ:List aX}(hΓ:∀C∈Γ,C.holds P gl)(hI:∀C∈I,C.holds P gl∧∀S w,gl.B S w)(hro:gl.ro=none){rs:List ResultVar}{jI:FuncId}{A:List Sh}{B:List (Nat×dj)}{m nt:Nat}{F:SS}{ob:List Nat}{f:prod (sG A (iq B []))→Option F.T}
 {fn:Func} {c:Code} (anp:∀vs w,(callFunc jI vs).run P w= .ok (.enter jI vs) w) (hf:P.funcs[jI]? =some fn) (hb:fn.body=some c) (hrs:fn.results.toList=rs) (hnt:fn.ntmps=nt) (hF:F.df= [])
 (anI:∀r:F.T,JY (ji G rs (F.st y0 r))=true)
 (h:∀d,f d=walk P G I H Γ c gl true (me nt m (zh y0 A d) (dq (oA y0 B (zi A d)))) (Dz F)):
 (aE G rs jI A B m F ob (.bH f)).holds P gl:=by
 refine⟨?_,fun _ _ h=>h.elim⟩
 intro d r hd
 have hd':f d=some r:=hd
 rw[h d] at hd'
 refine⟨anp,?_⟩
 have anj:=jZ T hΓ (fun _=>hro) (fun _=>hI) hd'
 subst hnt
 refine zb.zf T hf hb hro (σe:=F.st y0 r) (cZ.mono anj ?_) ?_ ?_ ?_
 ·intro e σ he
  exact tN he
 ·show(F.st y0 r).df= []
  simp only[SS.st,SS.me]
  obtain⟨nt',nh,tm,hp,df⟩:=F
  simp only at hF
  subst hF
  rfl
 ·rw[hrs];exact mI (anI r)
 ·intro b k hbk;exact jH hbk
def uV(s:Sh)(F:SS):fV→St→Option (Sum (prod (s.H [])) F.T)
 |
  .ret,σ=>match Dy σ with
  |some σ=>(F.tR σ).map .inr
  |none=>none
 |
  .normal,σ=>match Dy σ with
  |some σ=>(F.tR σ).map .inr
  |none=>none
 |
  .panic v,σ=>match σ.df with
  |[]=>(s.G (l:=[]) v ()).map .inl
  |_=>none
 |_,_=>none
theorem zb.JZ{P:Program}{gl:Ctx}{f:FuncId}{fn:Func}{c:Code}(hf:P.funcs[f]? =some fn)(hb:fn.body=some c)(hro:gl.ro=none){args:List AV}{ins:List (Nat×Option aP)}{m:Nat}{x:AV}
 (h:cZ P gl c (me fn.ntmps m args ins) (fun e σ=>e= .panic x∧σ.df= [])):
 zb P gl f args (aR (List.replicate m none) ins) (.kq x) (dC m []):=by
 intro E w vs hv hw
 obtain⟨hl,anr⟩:=hv.get
 refine CallsIn.calls (F:=Wd gl) (n:=0) (callsIn_of_wp hf hb trivial ?_ hro) (fun k d hd=>by cases hd)
 have hg:cp gl (me fn.ntmps m args ins) E {tmps:=vs.toArray++Array.replicate (fn.ntmps -vs.toArray.size) undef,defers:=[]} w:=by
  refine⟨?_,?_,hw,trivial⟩
  ·grind [me]
  ·intro i x hx v hv'
   simp only[me] at hx
   rw[Array.getElem?_append] at hv'
   simp only[List.getElem?_append] at hx
   split at hx
   ·grind
   ·rw[List.getElem?_replicate] at hx
    split at hx
    ·cases hx;trivial
    grind
 refine wpIn_mono (h E _ w hg) ?_
 rintro ex a' w' ⟨e,σ',E',h1,⟨rfl,hd⟩,h3,h4⟩
 have hdf:a'.defers= []:=by
  have:=h3.df
  rw[hd] at this
  cases hds:a'.defers with
  |nil=>rfl
  |cons d l=>rw[hds] at this;trivial
 have hw2:HW gl E' w' (dC m []):=h3.hw.less (fun b k hb=>absurd (fp hb) (by simp))
 have hx:Ext gl.md (bK (aR (List.replicate m none) ins) E) E w (bK (dC m []) E') E' w':=
  {h4 with own:=fun g ⟨b,k,hb,hgb⟩=>absurd (fp hb) (by simp)}
 cases ex with
 |panic ch=>exact⟨hdf,E',h1,hw2,hx⟩
 |_=>trivial
theorem aX.IT{P:Program}{G:cd}(T:bM P G){gl:Ctx}{I:List IC}{H:Hs}{Γ:List aX}(hΓ:∀C∈Γ,C.holds P gl)(hI:∀C∈I,C.holds P gl∧∀S w,gl.B S w)(hro:gl.ro=none){rs:List ResultVar}{jI:FuncId}{A:List Sh}{B:List (Nat×dj)}{m nt:Nat}{s:Sh}{F:SS}{ob:List Nat}{f:prod (sG A (iq B []))→Option (Sum (prod (s.H [])) F.T)}
 {fn:Func} {c:Code} (anp:∀vs w,(callFunc jI vs).run P w= .ok (.enter jI vs) w) (hf:P.funcs[jI]? =some fn) (hb:fn.body=some c) (hrs:fn.results.toList=rs) (hnt:fn.ntmps=nt) (hF:F.df= [])
 (anI:∀r:F.T,JY (ji G rs (F.st y0 r))=true)
 (h:∀d,f d=walk P G I H Γ c gl true (me nt m (zh y0 A d) (dq (oA y0 B (zi A d)))) (uV s F)):
 (aE G rs jI A B m F ob (.kq s f)).holds P gl:=by
 refine⟨?_,?_⟩
 ·intro d r hd
  have hd':f d=some (.inr r):=hd
  rw[h d] at hd'
  refine⟨anp,?_⟩
  have anj:=jZ T hΓ (fun _=>hro) (fun _=>hI) hd'
  subst hnt
  refine zb.zf T hf hb hro (σe:=F.st y0 r) (cZ.mono anj ?_) ?_ ?_ ?_
  ·intro e σ he
   cases e with
   |
    ret=>
    simp only[uV] at he
    split at he
    ·rename_i σ1 h1
     obtain⟨y,hy,e⟩:=map_some he
     cases e
     exact⟨Or.inl rfl,σ1,h1,SS.iC hy⟩
    grind
   |
    normal=>
    simp only[uV] at he
    split at he
    ·rename_i σ1 h1
     obtain⟨y,hy,e⟩:=map_some he
     cases e
     exact⟨Or.inr rfl,σ1,h1,SS.iC hy⟩
    grind
   |
    panic v=>
    simp only[uV] at he
    split at he<;>simp_all
   |exit i=>trivial
  ·show(F.st y0 r).df= []
   simp only[SS.st,SS.me]
   obtain⟨nt',nh,tm,hp,df⟩:=F
   simp only at hF
   subst hF
   rfl
  ·rw[hrs];exact mI (anI r)
  ·intro b k hbk;exact jH hbk
 ·rintro d x ⟨p,hd,rfl⟩
  have hd':f d=some (.inl p):=hd
  rw[h d] at hd'
  refine⟨anp,?_⟩
  have anj:=jZ T hΓ (fun _=>hro) (fun _=>hI) hd'
  subst hnt
  refine zb.JZ hf hb hro (cZ.mono anj ?_)
  intro e σ he
  cases e with
  |
   ret=>
   simp only[uV] at he
   split at he<;>simp_all
  |
   normal=>
   simp only[uV] at he
   split at he<;>simp_all
  |
   panic v=>
   simp only[uV] at he
   split at he
   ·rename_i hdf
    obtain⟨y,hy,e⟩:=map_some he
    grind [Sh.xc]
   grind
  |exit i=>trivial
theorem aX.J0{P:Program}{gl:Ctx}{G:cd}{rs:List ResultVar}{jI:FuncId}{A:List Sh}{B:List (Nat×dj)}{m:Nat}{F:SS}{ob:List Nat}:(aE G rs jI A B m F ob (.bH fun _=>none)).holds P gl:=
 ⟨fun _ _ h=>(by trivial),fun _ _ h=>h.elim⟩
theorem aX.sub{P:Program}{gl:Ctx}{G:cd}{rs:List ResultVar}{jI:FuncId}{A:List Sh}{B:List (Nat×dj)}{m:Nat}{F:SS}{ob:List Nat}{f g:prod (sG A (iq B []))→Option F.T}(h:(aE G rs jI A B m F ob (.bH f)).holds P gl)(hs:∀d r,g d=some r→f d=some r):(aE G rs jI A B m F ob (.bH g)).holds P gl:=
 ⟨fun d r hd=>h.ret d r (hs d r hd),fun _ _ h=>h.elim⟩
def N3{α:Type}:Option α→Option α→Option α
 |some x,_=>some x
 |none,y=>y
theorem J1{α:Type}{x y:Option α}{r:α}(h:N3 x y=some r):x=some r∨y=some r:=by
 cases x with
 |some z=>exact Or.inl h
 |none=>exact Or.inr h
theorem aX.or{P:Program}{gl:Ctx}{G:cd}{rs:List ResultVar}{jI:FuncId}{A:List Sh}{B:List (Nat×dj)}{m:Nat}{F:SS}{ob:List Nat}{f g:prod (sG A (iq B []))→Option F.T}(hf:(aE G rs jI A B m F ob (.bH f)).holds P gl)(hg:(aE G rs jI A B m F ob (.bH g)).holds P gl):(aE G rs jI A B m F ob (.bH fun d=>N3 (f d) (g d))).holds P gl:=
 ⟨fun d r hd=>(J1 hd).elim (hf.ret d r) (hg.ret d r),fun _ _ h=>h.elim⟩
def Sa(P:Program)(gl:Ctx):List aX→Prop
 |[]=>True
 |C::l=>C.holds P gl∧Sa P gl l
theorem hold{P:Program}{gl:Ctx}:∀{l:List aX},Sa P gl l→∀C∈l,C.holds P gl
 |[],_,C,h=>by cases h
 |
  D::l,h,C,hC=>by
  rcases List.mem_cons.1 hC with rfl|hC
  ·exact h.1
  ·exact hold h.2 C hC
def Sb(P:Program)(gl:Ctx):List IC→Prop
 |[]=>True
 |C::l=>C.holds P gl∧Sb P gl l
theorem xL{P:Program}{l:List Hr}:∀{L:List IC},Sb P (Ctx.of l) L→∀C∈L,C.holds P (Ctx.of l)∧∀S w,(Ctx.of l).B S w
 |[],_,C,h=>by cases h
 |
  D::L,h,C,hC=>by
  rcases List.mem_cons.1 hC with rfl|hC
  ·exact⟨h.1,fun _ _=>trivial⟩
  ·exact xL h.2 C hC
theorem aJ{P:Program}{gl:Ctx}:∀C∈([]:List IC),C.holds P gl∧∀S w,gl.B S w:=fun C h=>by cases h
end Go.Ax
namespace Go.Ax
def xM(pm:Bool)(u:Value):FrameMode:=if pm then .panicking [{v:=u,recovered:=false}] else .returning
def mJ(pm:Bool)(u:Value):FrameMode:=if pm then .panicking [{v:=u,recovered:=true}] else .returning
def Tw(P:Program)(gl:Ctx)(f:FuncId)(pm:Bool)(x:AV)(args:List AV)(H H':List (Option aP)):Prop:=
 (∀vs w,(callFunc f vs).run P w= .ok (.enter f vs) w)∧∀E w vs u,mc E w args vs→cE E w x u→(pm=false→u= .nilIface)→HW gl E w H→
  CallsDIn (Wd gl) 0 P f vs.toArray (xM pm u) w fun e m w'=>m=mJ pm u∧(∃v,e= .returned v)∧∃E',HW gl E' w' H'∧Ext gl.md (bK H E) E w (bK H' E') E' w'
theorem Tw.Tx{P:Program}{G:cd}(T:bM P G){gl:Ctx}{f:FuncId}{pm:Bool}{x:AV}{fn:Func}{ops:Array Oper}{rid:Nat}{rest:Code}{t5 t2:Nat}{ts:Array TypeId}{o0 o1:Oper}(hcf:∀vs w,(callFunc f vs).run P w= .ok (.enter f vs) w)(hf:P.funcs[f]? =some fn)
 (hb:fn.body=some (.seq (.region rid ops false) rest)) (hro:gl.ro=none) (hops:ops= #[o0,o1]) (h0:o0.op= .call {callee:=.builtin .recover,args:= #[],argTypes:=ts}) (h0d:o0.dst=some t5) (h0g:o0.guard=none)
 (h1:o1.op= .assign (.tmp t5)) (h1d:o1.dst=some t2) (h1g:o1.guard=none) {args:List AV} {ins:List (Nat×Option aP)} {m:Nat} {out:List (Nat×aP)} {σe:St} {r:AV} (ht5:Nat.blt t5 fn.ntmps=true)
 (h:cZ P gl rest (((me fn.ntmps m args ins).put (some t5) x).put (some t2) x) (fun e σ=>(e= .ret∨e= .normal)∧Wk gl σ σe)) (hd:σe.df= []) (anI:ji G fn.results.toList σe=some r) (hout:∀b k,(b,k)∈out→σe.hp[b]? =some (some k)):
 Tw P gl f pm x args (aR (List.replicate m none) ins) (dC m out):=by
 refine⟨hcf,?_⟩
 intro E w vs u hv hx hpm hw
 obtain⟨hl,anr⟩:=hv.get
 refine callsDIn_of_wpSIn hf hb trivial ?_
 intro c0 cs hm
 have hg:cp gl (me fn.ntmps m args ins) E {tmps:=vs.toArray++Array.replicate (fn.ntmps -vs.toArray.size) undef,defers:=[]} w:=by
  refine⟨?_,?_,hw,trivial⟩
  ·grind [me]
  ·intro i x hx v hv'
   simp only[me] at hx
   rw[Array.getElem?_append] at hv'
   simp only[List.getElem?_append] at hx
   split at hx
   ·grind
   ·rw[List.getElem?_replicate] at hx
    split at hx
    ·cases hx;trivial
    grind
 refine wpSIn_seq (wpSIn_region ?_)
 subst hops
 show wpOpsSIn _ _ _ _ _ [0,1] _ _ _
 have w0:∀y,Region.wanted o0 y=true:=by intro y;simp[Region.wanted,h0g]
 have w1:∀y,Region.wanted o1 y=true:=by intro y;simp[Region.wanted,h1g]
 have x0:∀ρ:Operand→Value,(execOp ρ o0).run P w= .ok .recover w:=by
  simp_all[execOp,resolve,invoke,builtin]
 have ei0:(#[o0,o1]:Array Oper)[0]? =some o0:=rfl
 have ei1:(#[o0,o1]:Array Oper)[1]? =some o1:=rfl
 have hu:RV E w x u:=RV.eI hx
 have hg1:=hg.put (some t5) hu
 have hlt:t5<fn.ntmps:=by simp_all
 have hev:((({tmps:=vs.toArray++Array.replicate (fn.ntmps -vs.toArray.size) undef,defers:=[]}:Act).put o0.dst u).eval (.tmp t5))=u:=by
  rw[h0d]
  have hsz:t5<(vs.toArray++Array.replicate (fn.ntmps -vs.toArray.size) undef).size:=by
   grind
  simp_all[Act.put,Act.eval]
 have x1:(execOp (({tmps:=vs.toArray++Array.replicate (fn.ntmps -vs.toArray.size) undef,defers:=[]}:Act).put o0.dst u).eval o1).run P w= .ok (.value u) w:=by
  simp_all[execOp]
 have hg2:=hg1.put (some t2) hu
 suffices hfin:rest.wpSIn (Wd gl) 0 P (bodyPostS P fn c0 cs fun e m_1 w'=>m_1=mJ pm u∧(∃v,e= .returned v)∧∃E',HW gl E' w' (dC m out)∧Ext gl.md (bK (aR (List.replicate m none) ins) E) E w (bK (dC m out) E') E' w')
  ((({tmps:=vs.toArray++Array.replicate (fn.ntmps -vs.toArray.size) undef,defers:=[]}:Act).put o0.dst u).put o1.dst u) ({c0 with mode:=mJ pm u}::cs) w by
  cases pm with
  |
   true=>
   have hrc:recoverD (c0::cs)=some (u,{c0 with mode:=mJ true u}::cs):=by
    simp_all[xM,mJ,recoverD]
   simp only[wpOpsSIn,ei0,ei1,w0,w1,bU,x0,hrc]
   refine⟨fun _ _=>trivial,fun _ _=>trivial,?_⟩
   rw[x1]
   trivial
  |
   false=>
   have hu0:=hpm rfl
   subst hu0
   have hrc:recoverD (c0::cs)=none:=by
    simp_all[xM,recoverD]
   have hcc:({c0 with mode:=mJ false .nilIface}:Frame)=c0:=by
    simp only[xM,mJ,dr,cT] at hm ⊢
    rw[←hm]
   rw[hcc] at hfin
   simp only[wpOpsSIn,ei0,ei1,w0,w1,bU,x0,hrc]
   refine⟨fun _ _=>trivial,fun _ _=>trivial,?_⟩
   rw[x1]
   trivial
 rw[h0d,h1d]
 refine wpSIn_of_wpIn (F:=Wd gl) hro (wpIn_mono (h E _ w hg2) ?_)
 rintro ex a' w' ⟨e,σ',E',q1,⟨he,hwk⟩,q3,q4⟩
 obtain⟨E2,g2,x2⟩:=hwk E' a' w' q3
 obtain⟨v,k1,k2⟩:=qp T g2 anI
 have hdf:a'.defers= []:=by
  have:=g2.df
  rw[hd] at this
  cases hds:a'.defers with
  |nil=>rfl
  |cons d l=>rw[hds] at this;trivial
 have hw2:HW gl E2 w' (dC m out):=g2.hw.less (fun b k hb=>hout b k (fp hb))
 have hxx:Ext gl.md (bK (aR (List.replicate m none) ins) E) E w (bK (dC m out) E2) E2 w':=by
  have q4':Ext gl.md (bK (aR (List.replicate m none) ins) E) E w (bK σ'.hp E') E' w':=q4
  exact{q4'.trans x2 with own:=fun g ⟨b,k,hb,hgb⟩=>(q4'.trans x2).own g ⟨b,k,hout b k (fp hb),hgb⟩}
 rcases he with rfl|rfl
 ·cases ex with
  |ret=>exact⟨hdf,mJ pm u,rfl,v,k1,rfl,⟨v,rfl⟩,E2,hw2,hxx⟩
  |_=>trivial
 ·cases ex with
  |normal=>exact⟨hdf,mJ pm u,rfl,v,k1,rfl,⟨v,rfl⟩,E2,hw2,hxx⟩
  |_=>trivial
structure gw where
 jI:FuncId
 A:List Sh
 B:List (Nat×dj)
 m:Nat
 s:Sh
 F:SS
 out:F.T→List (Nat×aP)
 n:prod (sG A (iq B []))→Option F.T
 p:prod (sG A (iq B []))→prod (s.H [])→Option F.T
abbrev gw.D(C:gw):Type:=prod (sG C.A (iq C.B []))
def gw.args(C:gw)(d:C.D):List AV:=zh y0 C.A d
def gw.ins(C:gw)(d:C.D):List (Nat×Option aP):=dq (oA y0 C.B (zi C.A d))
structure gw.holds(P:Program)(gl:Ctx)(C:gw):Prop where
 n:∀d r,C.n d=some r→Tw P gl C.jI false .gW (C.args d) (aR (List.replicate C.m none) (C.ins d)) (dC C.m (C.out r))
 p:∀d q r,C.p d q=some r→Tw P gl C.jI true (C.s.V y0 q) (C.args d) (aR (List.replicate C.m none) (C.ins d)) (dC C.m (C.out r))
def gw.get(C:gw)(L:List AV)(I:List (Nat×Option aP)):Option C.D:=
 match Od C.B (l:=[]) I () with
 |some d=>TF C.A L d
 |none=>none
theorem gw.gY{C:gw}{L:List AV}{I:List (Nat×Option aP)}{d:C.D}(h:C.get L I=some d):C.args d=L∧C.ins d=I:=by
 unfold gw.get at h
 split at h
 ·rename_i d1 h1
  obtain⟨a1,a2⟩:=zn y0 h1
  obtain⟨b1,b2⟩:=zj y0 h
  exact⟨b1,by unfold gw.ins;grind⟩
 grind
section
variable{P:Program} {G:cd} (T:bM P G) {gl:Ctx} {H:Hs} {Γ:List aX} (hΓ:∀C∈Γ,C.holds P gl) (hro:gl.ro=none) {rs:List ResultVar} {jI:FuncId} {A:List Sh} {B:List (Nat×dj)} {m nt:Nat} {s:Sh} {F:SS} {ob:List Nat}
 {n:prod (sG A (iq B []))→Option F.T} {p:prod (sG A (iq B []))→prod (s.H [])→Option F.T} {fn:Func} {ops:Array Oper} {rid:Nat} {rest:Code} {t5 t2:Nat} {ts:Array TypeId} {o0 o1:Oper}
 (anp:∀vs w,(callFunc jI vs).run P w= .ok (.enter jI vs) w) (hf:P.funcs[jI]? =some fn) (hb:fn.body=some (.seq (.region rid ops false) rest)) (hrs:fn.results.toList=rs) (hnt:fn.ntmps=nt)
 (hops:ops= #[o0,o1]) (h0:o0.op= .call {callee:=.builtin .recover,args:= #[],argTypes:=ts}) (h0d:o0.dst=some t5) (h0g:o0.guard=none) (h1:o1.op= .assign (.tmp t5)) (h1d:o1.dst=some t2) (h1g:o1.guard=none) (ht5:Nat.blt t5 nt=true)
 (hF:F.df= []) (anI:∀r:F.T,JY (ji G rs (F.st y0 r))=true)
include T hΓ hro anp hf hb hrs hnt hops h0 h0d h0g h1 h1d h1g ht5 hF anI
theorem gw.of1{pm:Bool}{x:AV}{args:List AV}{ins:List (Nat×Option aP)}{r:F.T}(hw:walk P G [] H Γ rest gl true (((me nt m args ins).put (some t5) x).put (some t2) x) (Tv F)=some r):
 Tw P gl jI pm x args (aR (List.replicate m none) ins) (dC m (pick ob (F.st y0 r).hp)):=by
 have hdf:(F.st y0 r).df= []:=by
  simp only[SS.st,SS.me]
  obtain⟨nt',nh,tm,hp,df⟩:=F
  simp only at hF
  subst hF
  rfl
 subst hnt
 refine Tw.Tx T anp hf hb hro hops h0 h0d h0g h1 h1d h1g ht5 (cZ.mono (jZ T hΓ (fun _=>hro) (fun _=>aJ) hw) ?_) hdf (by rw[hrs];exact mI (anI r)) (fun b k hbk=>jH hbk)
 intro e σ he
 cases e with
 |ret=>exact⟨Or.inl rfl,SS.iC he⟩
 |normal=>exact⟨Or.inr rfl,SS.iC he⟩
 |_=>trivial
theorem gw.ofN(hn:∀d,n d=walk P G [] H Γ rest gl true (((me nt m (zh y0 A d) (dq (oA y0 B (zi A d)))).put (some t5) .gW).put (some t2) .gW) (Tv F)):
 (⟨jI,A,B,m,s,F,fun r=>pick ob (F.st y0 r).hp,n,fun _ _=>none⟩:gw).holds P gl:=by
 refine⟨?_,fun _ _ r h=>no (e:=r) h⟩
 intro d r hd
 have hd':n d=some r:=hd
 rw[hn d] at hd'
 exact gw.of1 T hΓ hro anp hf hb hrs hnt hops h0 h0d h0g h1 h1d h1g ht5 hF anI hd'
theorem gw.IT(hp:∀d q,p d q=walk P G [] H Γ rest gl true (((me nt m (zh y0 A d) (dq (oA y0 B (zi A d)))).put (some t5) (s.V y0 q)).put (some t2) (s.V y0 q)) (Tv F)):
 (⟨jI,A,B,m,s,F,fun r=>pick ob (F.st y0 r).hp,fun _=>none,p⟩:gw).holds P gl:=by
 refine⟨fun _ r h=>no (e:=r) h,?_⟩
 intro d q r hd
 have hd':p d q=some r:=hd
 rw[hp d q] at hd'
 exact gw.of1 T hΓ hro anp hf hb hrs hnt hops h0 h0d h0g h1 h1d h1g ht5 hF anI hd'
end
def FP:List Nat→List (Option aP)→List (Option aP)
 |[],hp=>hp
 |
  b::l,hp=>FP l (match hp[b]? with
  |some (some (.var t _))=>hp.set b (some (.var t (.fF t)))
  |_=>hp)
theorem Wk.fF{gl:Ctx}:∀{l:List Nat}{σ:St},Wk gl σ {σ with hp:=FP l σ.hp}
 |[],σ=>Wk.refl gl σ
 |
  b::l,σ=>by
  unfold FP
  split
  ·rename_i t v hb
   have h1:Wk gl σ {σ with hp:=σ.hp.set b (some (.var t (.fF t)))}:=by
    intro E a w h
    obtain⟨h1,h2,g,c,e,h3,h4,h5⟩:=h.hw.cX b _ hb
    have hlen:=RC.len h5
    have hw:=h.hw.write (w':=w) (k':=.var t (.fF t)) hb rfl (fun _ _=>rfl) ⟨h1,Ty.di t,g,c,e,h3,h4,⟨by rw[hlen];exact AV.ei h2,RC.one h5⟩⟩
    refine⟨E,⟨h.len,h.tm,hw,h.df⟩,{Ext.refl (bK σ.hp E) E w with own:=?_ }⟩
    grind [bK.set]
   exact h1.trans (Wk.fF (l:=l) (σ:={σ with hp:=σ.hp.set b (some (.var t (.fF t)))}))
  ·exact Wk.fF (l:=l) (σ:=σ)
def J2(C:gw)(ps:List (Nat×Nat))(F:SS)(h:C.D→Option C.F.T)(σ:St):Option F.T:=
 match σ.df with
 |
  [.func (.func fd) .nil cs]=>match lY (l9 ps) (eG σ.hp) (cs.toList.map (fun x=>(x,Ty.unit))),i6 (l9 ps) (eG σ.hp) ps with
  |
   some (L,lent),some ins=>if Nat.beq fd C.jI&&cs.atoms then(match C.get L ins with
   |some d=>Option.bind (h d) fun r=>if zS ⟨.bot,ps,[],C.out r,C.m,false,[],[]⟩ lent then F.tR {σ with hp:=aR σ.hp (ma ps (C.out r) ps),df:=[]} else none
   |none=>none) else none
  |_,_=>none
 |_=>none
def Sd(C:gw)(ps:List (Nat×Nat))(D:gw)(qs:List (Nat×Nat))(jk:List Nat)(F:SS):fV→St→Option F.T
 |
  .ret,σ| .normal,σ=>match σ.df with
  |[]=>F.tR σ
  |_=>J2 C ps F C.n σ
 |
  .panic v,σ=>match v.ids,D.s.G (l:=[]) v () with
  |[],some q=>J2 D qs F (fun d=>D.p d q) {σ with hp:=FP jk σ.hp}
  |_,_=>none
 |_,_=>none
theorem FQ{P:Program}{G:cd}(T:bM P G){gl:Ctx}{C:gw}{ps:List (Nat×Nat)}{F:SS}{h:C.D→Option C.F.T}{σ:St}{r:F.T}(hr:J2 C ps F h σ=some r){pm:Bool}{x:AV}(hx:x.ids= [])
 (hC:∀d y,h d=some y→Tw P gl C.jI pm x (C.args d) (aR (List.replicate C.m none) (C.ins d)) (dC C.m (C.out y))) {fn:Func} {z:AV} (hF:F.df= []) (anI:ji G fn.results.toList (F.st y0 r)=some z) {out:List (Nat×aP)} (hout:∀b k,(b,k)∈out→(F.st y0 r).hp[b]? =some (some k)) {m:Nat}
 {E:Env} {a:Act} {w:World} (hg:cp gl σ E a w) {u:Value} (hu:cE E w x u) (hpm:pm=false→u= .nilIface) {O:Nat→Prop} {E0:Env} {w0:World} (hX0:Ext gl.md O E0 w0 (bK σ.hp E) E w):
 LeavesIn (Wd gl) 0 P fn a.tmps (fun e w'=>∃E',yZ E' w' (.ret z) e∧HW gl E' w' (dC m out)∧Ext gl.md O E0 w0 (bK (dC m out) E') E' w') a.defers (xM pm u) w:=by
 have hdfF:(F.st y0 r).df= []:=by
  simp only[SS.st,SS.me]
  obtain⟨nt',nh,tm,hp,df⟩:=F
  simp only at hF
  subst hF
  rfl
 unfold J2 at hr
 split at hr
 ·rename_i fd cs hdf
  split at hr
  ·rename_i L lent ins hL jT
   obtain⟨hc,hr1⟩:=bW hr
   clear hr
   simp only[bB] at hc
   obtain⟨hfd,hca⟩:=hc
   have hfd:=bT hfd
   subst hfd
   split at hr1
   ·rename_i d hd
    obtain⟨y,hy,hr2⟩:=bind_some hr1
    obtain⟨gx,hr3⟩:=bW hr2
    obtain⟨e1,e2⟩:=gw.gY hd
    obtain⟨hcf,hM⟩:=hC d y hy
    rw[e1,e2] at hM
    have gdf:=hg.df
    rw[hdf] at gdf
    cases hads:a.defers with
    |nil=>rw[hads] at gdf;trivial
    |
     cons dd ds=>
     rw[hads] at gdf
     obtain⟨⟨f',c',ed,q1,q2,_,_⟩,hrest⟩:=gdf
     have hds:ds= []:=by
      cases ds with
      |nil=>rfl
      |cons _ _=>trivial
     subst hds
     have hf':f'= #[]:=by apply lQ;trivial
     subst hf'
     subst ed
     have hB:=cq σ.hp
     have hlent:=lC hL
     obtain⟨hφ,hw1⟩:=tZ (cr:=⟨.bot,ps,[],C.out y,C.m,false,[],[]⟩) hg hB hlent jT gx
     have hmap:(cs.toList.map (fun x=>(x,Ty.unit))).map (·.1)=cs.toList:=by
      simp[List.map_map,Function.comp_def]
     have hvv:=nf hg.hw hB hφ hL (fun g hg=>hg) (by rw[hmap];exact mc.atoms hca q2)
     have hu':cE (E.to ps (E.de lent).S) w x u:=cE.mono (E:=E) ⟨fun _ _=>rfl,fun _ h=>Or.inl h⟩ (fun b hb=>by grind) hu
     have anp:=hM _ w _ u hvv hu' hpm hw1
     refine leavesIn_cons (F:=Wd gl) (by unfold xM;split<;>simp) (fun h=>by cases h) (args:=c'.toList.toArray) ?_ (fun _ _=>trivial) (CallsDIn.mono anp ?_)
     ·simp_all[invoke]
     ·rintro e u1 w2 ⟨rfl,⟨v,rfl⟩,E2,hW2,hX2⟩
      obtain⟨E3,g3,_,x3⟩:=kM (cr:=⟨.bot,ps,[],C.out y,C.m,false,[],[]⟩) hg hB hlent jT gx (fun b hb=>by grind) hW2 hX2 (v:=v) (r':=.bot) rfl trivial
      simp only[dW] at g3 x3
      have g4:cp gl {σ with hp:=aR σ.hp (ma ps (C.out y) ps),df:=[]} E3 {a with defers:=[]} w2:=⟨g3.len,g3.tm,g3.hw,trivial⟩
      obtain⟨E5,g5,x5⟩:=SS.iC (gl:=gl) hr3 E3 _ w2 g4
      obtain⟨v2,k1,k2⟩:=qp T g5 anI
      have aR:settle (mJ pm u)= .returning:=by
       unfold mJ
       cases pm<;>simp[settle]
      show LeavesIn _ _ _ _ _ _ _ _ _
      rw[aR]
      have hw5:HW gl E5 w2 (dC m out):=g5.hw.less (fun b k hb=>hout b k (fp hb))
      have X5:=(hX0.trans x3).trans x5
      exact⟨v2,k1,E5,k2,hw5,{X5 with own:=fun g ⟨b,k,hb,hgb⟩=>X5.own g ⟨b,k,hout b k (fp hb),hgb⟩}⟩
   grind
  grind
 grind
theorem aX.ofD{P:Program}{G:cd}(T:bM P G){gl:Ctx}{H:Hs}{Γ:List aX}(hΓ:∀C∈Γ,C.holds P gl){C:gw}(hC:C.holds P gl){ps:List (Nat×Nat)}{D:gw}(hD:D.holds P gl){qs:List (Nat×Nat)}{jk:List Nat}(hro:gl.ro=none){rs:List ResultVar}{jI:FuncId}{A:List Sh}{B:List (Nat×dj)}{m nt:Nat}{F:SS}{ob:List Nat}{f:prod (sG A (iq B []))→Option F.T}
 {fn:Func} {c:Code} (anp:∀vs w,(callFunc jI vs).run P w= .ok (.enter jI vs) w) (hf:P.funcs[jI]? =some fn) (hb:fn.body=some c) (hrs:fn.results.toList=rs) (hnt:fn.ntmps=nt) (hF:F.df= [])
 (anI:∀r:F.T,JY (ji G rs (F.st y0 r))=true)
 (h:∀d,f d=walk P G [] H Γ c gl true (me nt m (zh y0 A d) (dq (oA y0 B (zi A d)))) (Sd C ps D qs jk F)):
 (aE G rs jI A B m F ob (.bH f)).holds P gl:=by
 refine⟨?_,fun _ _ h=>h.elim⟩
 intro d r hd
 have hd':f d=some r:=hd
 rw[h d] at hd'
 refine⟨anp,?_⟩
 have anj:=jZ T hΓ (fun _=>hro) (fun _=>aJ) hd'
 subst hnt
 have hz:ji G fn.results.toList (F.st y0 r)=some ((ji G rs (F.st y0 r)).getD .bot):=by rw[hrs];exact mI (anI r)
 have hout:∀b k,(b,k)∈pick ob (F.st y0 r).hp→(F.st y0 r).hp[b]? =some (some k):=fun b k hbk=>jH hbk
 intro E w vs hv hw
 obtain⟨hl,anr⟩:=hv.get
 refine CallsIn.calls (F:=Wd gl) (n:=0) (callsIn_of_wp_defers hf hb trivial ?_ hro) (fun k d hd=>by cases hd)
 have hg:cp gl (me fn.ntmps m (zh y0 A d) (dq (oA y0 B (zi A d)))) E {tmps:=vs.toArray++Array.replicate (fn.ntmps -vs.toArray.size) undef,defers:=[]} w:=by
  refine⟨?_,?_,hw,trivial⟩
  ·simp only[me,Array.size_append,List.size_toArray,Array.size_replicate,ep,jC]
   rw[←hl];rfl
  ·intro i x hx v hv'
   simp only[me] at hx
   rw[Array.getElem?_append] at hv'
   simp only[List.getElem?_append] at hx
   split at hx
   ·rename_i hi
    have hl':(zh y0 A d).length=vs.length:=hl
    rw[aA (by grind)] at hv'
    exact anr i x v hx (by grind)
   ·rw[List.getElem?_replicate] at hx
    split at hx
    ·cases hx;trivial
    grind
 refine wpIn_mono (anj E _ w hg) ?_
 rintro ex a' w' ⟨e,σ',E',h1,he,h3,h4⟩
 have plain:∀{σ:St},σ.df= []→F.tR σ'=some r→cp gl σ' E' a' w'→a'.defers= []→LeavesIn (Wd gl) 0 P fn a'.tmps (fun e w'=>∃E',yZ E' w' (.ret ((ji G rs (F.st y0 r)).getD .bot)) e∧HW gl E' w' (dC m (pick ob (F.st y0 r).hp))∧Ext gl.md (bK (aR (List.replicate m none) (dq (oA y0 B (zi A d)))) E) E w (bK (dC m (pick ob (F.st y0 r).hp)) E') E' w') a'.defers .returning w':=by
  intro σ _ hm hg' hds
  obtain⟨E5,g5,x5⟩:=SS.iC (gl:=gl) hm E' a' w' hg'
  obtain⟨v2,k1,k2⟩:=qp T g5 hz
  rw[hds]
  have hw5:HW gl E5 w' (dC m (pick ob (F.st y0 r).hp)):=g5.hw.less (fun b k hb=>hout b k (fp hb))
  have X5:=h4.trans x5
  exact⟨v2,k1,E5,k2,hw5,{X5 with own:=fun g ⟨b,k,hb,hgb⟩=>X5.own g ⟨b,k,hout b k (fp hb),hgb⟩}⟩
 have leave:(match σ'.df with
  |[]=>F.tR σ'
  |_=>J2 C ps F C.n σ')=some r→LeavesIn (Wd gl) 0 P fn a'.tmps (fun e w'=>∃E',yZ E' w' (.ret ((ji G rs (F.st y0 r)).getD .bot)) e∧HW gl E' w' (dC m (pick ob (F.st y0 r).hp))∧Ext gl.md (bK (aR (List.replicate m none) (dq (oA y0 B (zi A d)))) E) E w (bK (dC m (pick ob (F.st y0 r).hp)) E') E' w') a'.defers .returning w':=by
  intro he
  cases hd0:σ'.df with
  |
   nil=>
   rw[hd0] at he
   have hds:a'.defers= []:=by
    have:=h3.df
    rw[hd0] at this
    cases hds:a'.defers with
    |nil=>rfl
    |cons d l=>rw[hds] at this;trivial
   grind
  |
   cons x l=>
   rw[hd0] at he
   exact FQ T (pm:=false) (x:=.gW) he rfl (fun d y hy=>hC.n d y hy) hF hz hout h3 (u:=.nilIface) (Or.inr ⟨rfl,rfl⟩) (fun _=>rfl) h4
 cases e with
 |
  ret=>cases ex with
  |ret=>exact leave he
  |_=>trivial
 |
  normal=>cases ex with
  |normal=>exact leave he
  |_=>trivial
 |exit i=>trivial
 |
  panic v=>
  cases ex with
  |
   panic ch=>
   obtain⟨u,e,hu⟩:=h1
   subst e
   simp only[Sd] at he
   split at he
   ·rename_i q hids hq
    have hV:=(Sh.xc y0 hq).1
    obtain⟨E2,g2,x2⟩:=Wk.fF (gl:=gl) (l:=jk) (σ:=σ') E' a' w' h3
    have hu2:cE E2 w' v u:=cE.mono (E:=E') (w:=w') ⟨fun b hb=>rfl,x2.sle⟩ (fun b hb=>by grind) hu
    exact FQ T (pm:=true) (x:=v) he hids (fun d y hy=>by have:=hD.p d q y hy;grind) hF hz hout g2 hu2 (fun e=>by cases e) (h4.trans x2)
   grind
  |_=>trivial
end Go.Ax
namespace Go.Ax
def adn:fV→St→Option St
 | .normal,σ=>some σ
 |_,_=>none
def ado(F:SS):fV→St→Option F.T
 | .ret,σ=>Dz F .ret σ
 |_,_=>none
theorem aX.kD{P:Program}{G:cd}(T:bM P G){gl:Ctx}{H:Hs}{Γ:List aX}(hΓ:∀C∈Γ,C.holds P gl)(hro:gl.ro=none){rs:List ResultVar}{jI:FuncId}{A:List Sh}{B:List (Nat×dj)}{m nt:Nat}{F:SS}{ob:List Nat}{f:prod (sG A (iq B []))→Option F.T}
 {fn:Func} {c0 X Y:Code} {rid:Nat} {o1 o2:Oper} (x:Operand) (d1 d2:Nat) (t t2 e:TypeId) (bs:Nat) (u:Ty) (xs:prod (sG A (iq B []))→List u.den) (σ1:prod (sG A (iq B []))→St)
 (anp:∀vs w,(callFunc jI vs).run P w= .ok (.enter jI vs) w) (hf:P.funcs[jI]? =some fn) (hb:fn.body=some (.seq c0 (.seq (.seq (.region rid #[o1,o2] false) (.cond (.tmp d2) X .skip)) Y))) (hrs:fn.results.toList=rs) (hnt:fn.ntmps=nt) (hF:F.df= [])
 (h1:o1.op= .move x) (hd1:o1.dst=some d1) (hg1:o1.guard=none) (h2:o2.op= .binOp .eql t (.tmp d1) (.const (.slice none 0 0)) t2) (hd2:o2.dst=some d2) (hg2:o2.guard=none) (ht:P.underlying t=some (.slice e))
 (anI:∀r:F.T,JY (ji G rs (F.st y0 r))=true)
 (hA:∀d,walk P G [] H Γ c0 gl true (me nt m (zh y0 A d) (dq (oA y0 B (zi A d)))) adn=some (σ1 d))
 (hx:∀d,bP gl (σ1 d).tm x= .val (.slice bs u) (xs d)) (hl:∀d,Nat.blt d1 (σ1 d).tm.length=true) (hl2:∀d b,bP gl (((σ1 d).put (some d1) (.val (.slice bs u) (xs d))).put (some d2) (.val .bool b)).tm (.tmp d2)= .val .bool b)
 (hX:∀d,xs d= []→f d=walk P G [] H Γ X gl true (((σ1 d).put (some d1) (.val (.slice bs u) (xs d))).put (some d2) (.val .bool true)) (ado F))
 (hY:∀d,f d=walk P G [] H Γ Y gl true (((σ1 d).put (some d1) (.val (.slice bs u) (xs d))).put (some d2) (.val .bool false)) (Dz F)):
 (aE G rs jI A B m F ob (.bH f)).holds P gl:=by
 refine⟨?_,fun _ _ h=>h.elim⟩
 intro d r hd
 have hd':f d=some r:=hd
 refine⟨anp,?_⟩
 subst hnt
 refine zb.zf T hf hb hro (σe:=F.st y0 r) ?_ ?_ ?_ ?_
 ·refine cZ.seq (cZ.mono (jZ T hΓ (fun _=>hro) (fun _=>aJ) (hA d)) ?_)
  intro e' σ he
  cases e' with
  |
   normal=>
   have:σ=σ1 d:=iR he
   subst this
   refine cZ.seq ?_
   refine cZ.Ob x d1 d2 t t2 e bs u (xs d) h1 hd1 hg1 h2 hd2 hg2 (hx d) ht (hl d) ?_
   intro b hbx
   cases b with
   |
    true=>
    refine cZ.cond (hl2 d true) (fun _=>?_) (fun e=>by cases e)
    have hw:=hX d (hbx rfl)
    rw[hd'] at hw
    refine cZ.mono (jZ T hΓ (fun _=>hro) (fun _=>aJ) hw.symm) ?_
    intro e2 σ2 he2
    cases e2 with
    |ret=>exact tN he2
    |_=>trivial
   |
    false=>
    refine cZ.cond (hl2 d false) (fun e=>by cases e) (fun _=>cZ.skip ?_)
    have hw:=hY d
    rw[hd'] at hw
    refine cZ.mono (jZ T hΓ (fun _=>hro) (fun _=>aJ) hw.symm) ?_
    intro e2 σ2 he2
    cases e2 with
    |ret=>exact tN he2
    |normal=>exact tN he2
    |_=>trivial
  |_=>trivial
 ·show(F.st y0 r).df= []
  simp only[SS.st,SS.me]
  obtain⟨nt',nh,tm,hp,df⟩:=F
  simp only at hF
  subst hF
  rfl
 ·rw[hrs];exact mI (anI r)
 ·intro b k hbk;exact jH hbk
end Go.Ax
namespace Go.Ax
theorem fT{x:Int}(h1:-9223372036854775808≤x)(h2:x≤9223372036854775807):aZ x=x:=by
 grind [IntKind.wrap,IntKind.bits,IntKind.signed]
theorem bG{i:Nat}(h:i≤4611686018427387904):aZ ((i:Int)+1)=((i+1:Nat):Int):=by
 rw[fT (by omega) (by omega)];rfl
theorem Tz{t:Ty}{xs:List t.den}{i:Nat}(h:i<xs.length):nth t xs (i:Int)=xs[i]:=by
 simp[nth,List.getD,h]
theorem iA{kt:Ty}(hk:kt.keyed=true)(k:kt.den):bD kt k k=true:=(cn hk k k).2 rfl
theorem pY{kt:Ty}(hk:kt.keyed=true){p k:kt.den}(h:p≠k):bD kt p k=false:=by
 grind [cn]
theorem mK{α:Type}{kt:Ty}(hk:kt.keyed=true)(k:kt.den)(v:α):∀es:List (kt.den×α),cC kt k (bC kt k v es)=true
 |[]=>by simp[bC,cC,iA hk]
 |
  e::es=>by
  simp only[bC]
  split
  ·simp[cC,iA hk]
  ·simp[cC,mK hk k v es]
theorem la{α:Type}{kt:Ty}(hk:kt.keyed=true){p k:kt.den}(h:p≠k)(v:α):∀es:List (kt.den×α),cC kt p (bC kt k v es)=cC kt p es
 |[]=>by simp[bC,cC,pY hk h]
 |
  e::es=>by
  simp only[bC]
  split
  ·rename_i he
   have:=(cn hk k e.1).1 he
   rw[this] at h
   simp[cC,this,pY hk h]
  ·simp[cC,la hk h v es]
theorem dG{kt vt:Ty}(hk:kt.keyed=true)(k:kt.den)(v:vt.den):∀es:List (kt.den×vt.den),aQ kt vt k (bC kt k v es)=v
 |[]=>by simp[bC,aQ,iA hk]
 |
  e::es=>by
  simp only[bC]
  split
  ·simp[aQ,iA hk]
  ·rename_i he
   simp[aQ,he,dG hk k v es]
theorem dS{kt vt:Ty}(hk:kt.keyed=true){p k:kt.den}(h:p≠k)(v:vt.den):∀es:List (kt.den×vt.den),aQ kt vt p (bC kt k v es)=aQ kt vt p es
 |[]=>by simp[bC,aQ,pY hk h]
 |
  e::es=>by
  simp only[bC]
  split
  ·rename_i he
   have:=(cn hk k e.1).1 he
   rw[this] at h
   simp[aQ,this,pY hk h]
  ·simp[aQ,dS hk h v es]
end Go.Ax
namespace Go.Ax
theorem aN{U R:Type}(F:(U→Option R)→U→Option R)(n:Nat)(u:U):aK F (n+1) u=F (aK F n) u:=rfl
theorem J3{U R:Type}{F:(U→Option R)→U→Option R}(I:U→Prop)(μ:U→Nat)(Q:U→Option R→Prop)
 (h:∀rec u,I u→(∀u',I u'→μ u'<μ u→Q u' (rec u'))→Q u (F rec u)):∀n u,I u→μ u<n→Q u (aK F n u):=by
 intro n
 induction n with
 |zero=>grind
 |
  succ n ih=>
  grind [aN]
theorem aI{U R:Type}(d:U)(f:U→Option R):aH (some (.bA d)) f=f d:=rfl
theorem eT{U R:Type}(r:R)(f:U→Option R):aH (some (.ret r)) f=some r:=rfl
theorem fh{R:Type}(y:YC)(x:Option R):IW y y x=x:=by unfold IW;grind
theorem nC{R:Type}{F:YC→Option R}{r:R}(h:∀y,F y=some r):vr F=some r:=by
 unfold vr
 rw[dif_pos ⟨r,h⟩]
 have hc:=Classical.choose_spec (⟨r,h⟩:∃r,∀y,F y=some r)
 have:=hc y0
 grind
theorem tO{A R:Type}{xs:List A}{K:A→List A→Option R}{r:R}(hne:xs≠[])(h:∀i(hi:i<xs.length),K xs[i] (xs.eraseIdx i)=some r):th xs K=some r:=by
 unfold th
 rw[dif_pos ⟨r,h⟩]
 have hc:=Classical.choose_spec (⟨r,h⟩:∃r,∀i(h:i<xs.length),K xs[i] (xs.eraseIdx i)=some r)
 have h0:0<xs.length:=List.length_pos_iff.2 hne
 grind
theorem gd{α:Type}{c:Prop}[Decidable c]{x y:α}(h:c):(if c then x else y)=x:=aA h
theorem dg{t:Ty}{xs:List t.den}{i:Nat}(h:i<xs.length):nth t xs (i:Int)=xs[i]:=Tz h
theorem scan{U R β:Type}{F:(U→Option (cH β R))→U→Option (cH β R)}(len:Nat)(at_:Nat→U)(b:β)(C:Nat→Prop)(P:R→Prop)
 (step:∀rec i,i<len→(C i∧F rec (at_ i)=rec (at_ (i+1)))∨∃r,P r∧F rec (at_ i)=some (.ret r))
 (stop:∀rec,F rec (at_ len)=some (.bA b)):
 ∀n i,i≤len→len -i<n→((∀j,i≤j→j<len→C j)∧aK F n (at_ i)=some (.bA b))∨∃r,P r∧aK F n (at_ i)=some (.ret r):=by
 intro n
 induction n with
 |zero=>grind
 |
  succ n ih=>
  grind [aN]
theorem DA{n:Nat}(h:n≤aG):n<eP:=by
 have h1:aG=140737488355328:=rfl
 have h2:eP=18446744073709551616:=rfl
 omega
end Go.Ax
namespace Go.Ax
theorem Se{U R β:Type}{F:(U→Option (cH β R))→U→Option (cH β R)}{L:Nat→U→Option (cH β R)}(hL:L=aK F)(len:Nat)(at_:Nat→U)(b:β)(C:Nat→Prop)(P:R→Prop)
 (step:∀rec i,i<len→(C i∧F rec (at_ i)=rec (at_ (i+1)))∨∃r,P r∧F rec (at_ i)=some (.ret r))
 (stop:∀rec,F rec (at_ len)=some (.bA b)) (n:Nat) (hn:len<n):((∀j,j<len→C j)∧L n (at_ 0)=some (.bA b))∨∃r,P r∧L n (at_ 0)=some (.ret r):=by
 subst hL
 rcases scan len at_ b C P step stop n 0 (by omega) (by omega) with⟨h1,h2⟩|h<;>grind
end Go.Ax
namespace Go.Ax
def W{R:Type}(x:Option R)(P:R→Prop):Prop:=∃r,x=some r∧P r
def CT{U R:Type}(B:U→Prop)(Q:R→Prop):cH U R→Prop
 | .bA d=>B d
 | .ret r=>Q r
def ST{A B:Type}(P:A→Prop)(Q:B→Prop):Sum A B→Prop
 | .inl a=>P a
 | .inr b=>Q b
theorem i4{U R:Type}{B:U→Prop}{Q:R→Prop}{d:U}:CT B Q (.bA d)↔B d:=Iff.rfl
theorem oN{R:Type}{a:R}{P:R→Prop}:W (some a) P↔P a:=⟨fun⟨_,h,p⟩=>(by grind),fun h=>⟨a,rfl,h⟩⟩
theorem oO{A R:Type}{x:Option A}{f:A→Option R}{P:R→Prop}:W (Option.bind x f) P↔W x fun a=>W (f a) P:=by
 cases x with
 |none=>exact⟨fun⟨_,h,_⟩=>(by cases h),fun⟨_,h,_⟩=>(by cases h)⟩
 |some a=>exact⟨fun⟨r,h,p⟩=>⟨a,rfl,r,h,p⟩,fun⟨a',h,r,h2,p⟩=>(by cases h;exact⟨r,h2,p⟩)⟩
theorem bX{U R:Type}{x:Option (cH U R)}{f:U→Option R}{P:R→Prop}:W (aH x f) P↔W x (CT (fun d=>W (f d) P) P):=by
 unfold aH
 rw[oO]
 refine⟨fun⟨c,h,p⟩=>⟨c,h,?_⟩,fun⟨c,h,p⟩=>⟨c,h,?_⟩⟩
 ·cases c with
  |bA d=>exact p
  |ret r=>exact(oN (a:=r) (P:=P)).1 p
 ·cases c with
  |bA d=>exact p
  |ret r=>exact(oN (a:=r) (P:=P)).2 p
theorem lb{A B R:Type}{x:Option (Sum A B)}{kp:A→Option R}{k:B→Option R}{P:R→Prop}:W (fj x kp k) P↔W x (ST (fun a=>W (kp a) P) fun b=>W (k b) P):=by
 unfold fj
 rw[oO]
 refine⟨fun⟨c,h,p⟩=>⟨c,h,?_⟩,fun⟨c,h,p⟩=>⟨c,h,?_⟩⟩<;>cases c<;>exact p
theorem W.mono{R:Type}{x:Option R}{P Q:R→Prop}(h:W x P)(hq:∀r,P r→Q r):W x Q:=h.imp fun r h=>⟨h.1,hq r h.2⟩
theorem CT.mono{U R:Type}{B B':U→Prop}{Q Q':R→Prop}(hb:∀d,B d→B' d)(hq:∀r,Q r→Q' r)(c:cH U R)(h:CT B Q c):CT B' Q' c:=by
 cases c with
 |bA d=>exact hb d h
 |ret r=>exact hq r h
theorem W.ct{U R:Type}{x:Option (cH U R)}{B B':U→Prop}{Q Q':R→Prop}(h:W x (CT B Q))(hb:∀d,B d→B' d)(hq:∀r,Q r→Q' r):W x (CT B' Q'):=h.mono (CT.mono hb hq)
theorem W.st{A B:Type}{x:Option (Sum A B)}{P P':A→Prop}{Q Q':B→Prop}(h:W x (ST P Q))(hp:∀a,P a→P' a)(hq:∀b,Q b→Q' b):W x (ST P' Q'):=
 h.mono fun c hc=>by cases c with
  |inl a=>exact hp a hc
  |inr b=>exact hq b hc
theorem W.iter{U R:Type}{F:(U→Option R)→U→Option R}{P:R→Prop}(I:U→Prop)(μ:U→Nat)
 (h:∀rec u,I u→(∀u',I u'→μ u'<μ u→W (rec u') P)→W (F rec u) P):∀n u,I u→μ u<n→W (aK F n u) P:=
 J3 I μ (fun _ x=>W x P) h
theorem dO{t:Ty}{l:List t.den}{a:Int}(h0:0≤a)(h1:a<(l.length:Int)):nth t l a∈l:=by
 have h:a.toNat<l.length:=by omega
 grind [dg]
end Go.Ax
namespace Go.Ax
theorem FR{U R β:Type}{F:(U→Option (cH β R))→U→Option (cH β R)}{f:β→Option R}{n:Nat}(Q:Option R→Prop)(len:Nat)(at_:Nat→U)(b:β)(C:Nat→Prop)(P:R→Prop)
 (hn:len<n)
 (step:∀rec i,i<len→(C i∧F rec (at_ i)=rec (at_ (i+1)))∨∃r,P r∧F rec (at_ i)=some (.ret r))
 (stop:∀rec,F rec (at_ len)=some (.bA b)) (h1:(∀j,j<len→C j)→Q (f b)) (h2:∀r,P r→Q (some r)):Q (aH (aK F n (at_ 0)) f):=by
 rcases Se (L:=aK F) rfl len at_ b C P step stop n hn with⟨h3,e⟩|⟨r,h3,e⟩
 ·rw[e,aI];grind
 ·rw[e,eT];grind
theorem pZ{t:Ty}{l:List t.den}{i:Nat}(h:i<l.length):nth t l (i:Int)∈l:=dg (t:=t) h▸iQ h
theorem N4{E:Type}(t:Ty)(p:t.den→E→Option (Bool×E))(l:List t.den)(e0:E)(q:t.den→Bool)(hp:∀x∈l,p x e0=some (q x,e0))(hl:l.length≤aG):
 ∃r:Int,aH (U:=E) ((aK fun rec(u:List t.den×Int×Int×E)=>match u with|⟨e,d,c,f⟩=>if(decide (c<d))=true then(if 0≤c then(if c<(List.length e:Int) then(Option.bind (p (nth t e c) f) fun⟨a,b⟩=>if a=true then(cw (some (c,b))) else(rec (e,d,aZ (c+(1:Int)),b))) else none) else none) else(some (.bA f))) (Int.toNat (List.length l:Int)+1) (l,(List.length l:Int),(0:Int),e0)) (fun v1=>some ((-1:Int),v1))=some (r,e0)∧(0≤r↔∃x∈l,q x=true):=by
 have hB:aG=140737488355328:=rfl
 refine FR (fun z=>∃r:Int,z=some (r,e0)∧(0≤r↔∃x∈l,q x=true)) l.length (fun i=>(l,(l.length:Int),(i:Int),e0)) e0 (fun i=>∀h:i<l.length,q l[i]=false) (fun r:Int×E=>∃i,∃h:i<l.length,q l[i]=true∧r=((i:Int),e0)) (by omega) ?step ?stop ?h1 ?h2
 case step=>
  intro rec i hi
  dsimp only
  have d1:decide ((i:Int)<(l.length:Int))=true:=cS (by omega)
  rw[aA d1,aA (dx i),aA (show(i:Int)<(l.length:Int) by omega),hp _ (pZ hi),aL]
  dsimp only
  rw[dg (t:=t) hi]
  cases hq:q l[i] with
  |true=>exact Or.inr ⟨_,⟨i,hi,hq,rfl⟩,rfl⟩
  |
   false=>
   rw[aC (by decide),bG (by omega)]
   grind
 case stop=>
  grind
 case h1=>
  intro h1
  refine⟨-1,rfl,?_⟩
  constructor
  ·grind
  ·rintro⟨x,hx,hq⟩
   obtain⟨j,hj,rfl⟩:=jd hx
   grind
 case h2=>
  rintro _ ⟨i,hi,hq,rfl⟩<;>grind
theorem adp(t:Ty)(p:t.den→Option Bool)(l:List t.den)(q:t.den→Bool)(hp:∀x∈l,p x=some (q x))(hl:l.length≤aG):
 ∃r:Int,aH (U:=Unit) ((aK fun rec(u:List t.den×Int×Int)=>match u with|⟨c,b,a⟩=>if(decide (a<b))=true then(if 0≤a then(if a<(List.length c:Int) then(Option.bind (p (nth t c a)) fun y4=>if y4=true then(cw (some a)) else(rec (c,b,aZ (a+(1:Int))))) else none) else none) else(some (.bA ()))) (Int.toNat (List.length l:Int)+1) (l,(List.length l:Int),(0:Int))) (fun _=>some (-1:Int))=some r∧(0≤r↔∃x∈l,q x=true):=by
 have hB:aG=140737488355328:=rfl
 refine FR (fun z=>∃r:Int,z=some r∧(0≤r↔∃x∈l,q x=true)) l.length (fun i=>(l,(l.length:Int),(i:Int))) () (fun i=>∀h:i<l.length,q l[i]=false) (fun r:Int=>∃i,∃h:i<l.length,q l[i]=true∧r=(i:Int)) (by omega) ?step ?stop ?h1 ?h2
 case step=>
  intro rec i hi
  dsimp only
  have d1:decide ((i:Int)<(l.length:Int))=true:=cS (by omega)
  rw[aA d1,aA (dx i),aA (show(i:Int)<(l.length:Int) by omega),hp _ (pZ hi),aL,dg (t:=t) hi]
  cases hq:q l[i] with
  |true=>exact Or.inr ⟨_,⟨i,hi,hq,rfl⟩,rfl⟩
  |
   false=>
   rw[aC (by decide),bG (by omega)]
   grind
 case stop=>
  grind
 case h1=>
  intro h1
  refine⟨-1,rfl,?_⟩
  constructor
  ·grind
  ·rintro⟨x,hx,hq⟩
   obtain⟨j,hj,rfl⟩:=jd hx
   grind
 grind
theorem Wl(t:Ty)(p:t.den→t.den→Option Bool)(x y:List t.den)(hp:∀a∈x,∀b∈y,∃r,p a b=some r)(hl:x.length=y.length→x.length≤aG):
 ∃r:Bool,(if(!decide ((List.length x:Int)=(List.length y:Int)))=true then(some false) else(aH (U:=Unit) ((aK fun rec(u:List t.den×List t.den×Int×Int)=>match u with|⟨d,c,b,a⟩=>if(decide (a<b))=true then(if 0≤a then(if a<(List.length c:Int) then(if 0≤a then(if a<(List.length d:Int) then(Option.bind (p (nth t c a) (nth t d a)) fun y4=>if(!y4)=true then(cw (some false)) else(rec (d,c,b,aZ (a+(1:Int))))) else none) else none) else none) else none) else(some (.bA ()))) (Int.toNat (List.length x:Int)+1) (y,x,(List.length x:Int),(0:Int))) fun _=>some true))=some r:=by
 have hB:aG=140737488355328:=rfl
 by_cases hxy:x.length=y.length
 ·have hl:=hl hxy
  rw[aC (by grind)]
  refine FR (fun z=>∃r:Bool,z=some r) x.length (fun i=>(y,x,(x.length:Int),(i:Int))) () (fun _=>True) (fun _:Bool=>True) (by omega) ?step ?stop ?h1 ?h2
  case step=>
   intro rec i hi
   dsimp only
   obtain⟨r,hr⟩:=hp _ (pZ hi) _ (pZ (t:=t) (l:=y) (i:=i) (by omega))
   rw[aA (cS (by omega)),aA (dx i),aA (by omega),aA (dx i),aA (by omega),hr,aL]
   cases r with
   |false=>exact Or.inr ⟨false,trivial,rfl⟩
   |
    true=>
    rw[aC (by decide),bG (by omega)]
    grind
  case stop=>
   grind
  case h1=>grind
  grind
 ·exact⟨false,aA (by grind)⟩
theorem N5(t:Ty)(q:t.den→t.den→Bool)(x y:List t.den)(hl:x.length=y.length→x.length≤aG):
 ∃r:Bool,(if(!decide ((List.length x:Int)=(List.length y:Int)))=true then(some false) else(aH (U:=Unit) ((aK fun rec(u:List t.den×List t.den×Int×Int)=>match u with|⟨c,d,b,a⟩=>if(decide (a<b))=true then(if 0≤a then(if a<(List.length c:Int) then(if 0≤a then(if a<(List.length d:Int) then(if(!q (nth t c a) (nth t d a))=true then(cw (some false)) else(rec (c,d,b,aZ (a+(1:Int))))) else none) else none) else none) else none) else(some (.bA ()))) (Int.toNat (List.length x:Int)+1) (x,y,(List.length x:Int),(0:Int))) fun _=>some true))=some r:=by
 have hB:aG=140737488355328:=rfl
 by_cases hxy:x.length=y.length
 ·have hl:=hl hxy
  rw[aC (by grind)]
  refine FR (fun z=>∃r:Bool,z=some r) x.length (fun i=>(x,y,(x.length:Int),(i:Int))) () (fun _=>True) (fun _:Bool=>True) (by omega) ?step ?stop ?h1 ?h2
  case step=>
   intro rec i hi
   dsimp only
   rw[aA (cS (by omega)),aA (dx i),aA (by omega),aA (dx i),aA (by omega)]
   cases q (nth t x i) (nth t y i) with
   |false=>exact Or.inr ⟨false,trivial,rfl⟩
   |
    true=>
    rw[aC (by decide),bG (by omega)]
    grind
  case stop=>
   grind
  case h1=>grind
  grind
 ·exact⟨false,aA (by grind)⟩
end Go.Ax
namespace Go.Ax
theorem fw{α:Type}{kt:Ty}{k:kt.den}{v:α}:∀{es:List (kt.den×α)}{p:kt.den×α},p∈bC kt k v es→p=(k,v)∨p∈es
 |
  [],p,h=>by
  grind [bC]
 |
  e::es,p,h=>by
  unfold bC at h
  split at h
  ·rcases List.mem_cons.1 h with h|h
   ·exact Or.inl h
   ·exact Or.inr (d7 _ h)
  ·rcases List.mem_cons.1 h with h|h
   ·exact Or.inr (h▸dE ..)
   ·rcases fw h with h|h
    ·exact Or.inl h
    ·exact Or.inr (d7 _ h)
def VR(n:Nat)(M:List (List UInt8×Int)):Prop:=∀p∈M,0≤p.2∧p.2<(n:Int)
theorem VR.get{n:Nat}{M:List (List UInt8×Int)}(h:VR n M){k:List UInt8}(hk:cC .str k M=true):0≤aQ .str (.int .i64) k M∧aQ .str (.int .i64) k M<(n:Int):=by
 obtain⟨i,hi⟩:=qv (kt:=.str) (vt:=.int .i64) rfl hk
 exact h _ (je hi)
theorem kE(t:Ty)(nm:t.den→Option (List UInt8))(g:t.den→List UInt8)(hn:∀x,nm x=some (g x))(l:List t.den)(hl:l.length≤aG):
 ∃M b,VR l.length M∧aH (U:=Bool×List (List UInt8×Int)) ((aK fun rec(u:Bool×List t.den×Int×Int×List (List UInt8×Int))=>match u with|⟨e,c,b,a,d⟩=>if(decide (a<b))=true then(if 0≤a then(if a<(List.length c:Int) then(Option.bind (nm (nth t c a)) fun y4=>if(cC .str y4 d)=true then(rec (true,c,b,aZ (a+(1:Int)),d)) else(Option.bind (nm (nth t c a)) fun y5=>if List.length d+1≤aG then(rec (e,c,b,aZ (a+(1:Int)),bC .str y5 a d)) else none)) else none) else none) else(some (.bA (e,d))):Nat→_→Option (cH (Bool×List (List UInt8×Int)) (Option (List (List UInt8×Int))×Bool))) (Int.toNat (List.length l:Int)+1) (false,l,(List.length l:Int),(0:Int),([]:List (List UInt8×Int)))) (fun u=>match u with|⟨b,a⟩=>some (some a,b))=some (some M,b):=by
 have hB:aG=140737488355328:=rfl
 suffices key:∀(n i:Nat)(e:Bool)(d:List (List UInt8×Int)),l.length -i<n→i≤l.length→d.length≤i→VR l.length d→∃M b,VR l.length M∧aH (U:=Bool×List (List UInt8×Int)) ((aK fun rec(u:Bool×List t.den×Int×Int×List (List UInt8×Int))=>match u with|⟨e,c,b,a,d⟩=>if(decide (a<b))=true then(if 0≤a then(if a<(List.length c:Int) then(Option.bind (nm (nth t c a)) fun y4=>if(cC .str y4 d)=true then(rec (true,c,b,aZ (a+(1:Int)),d)) else(Option.bind (nm (nth t c a)) fun y5=>if List.length d+1≤aG then(rec (e,c,b,aZ (a+(1:Int)),bC .str y5 a d)) else none)) else none) else none) else(some (.bA (e,d))):Nat→_→Option (cH (Bool×List (List UInt8×Int)) (Option (List (List UInt8×Int))×Bool))) n (e,l,(List.length l:Int),(i:Int),d)) (fun u=>match u with|⟨b,a⟩=>some (some a,b))=some (some M,b) from
  key _ 0 false [] (by omega) (by omega) (by simp) fun p hp=>by cases hp
 intro n
 induction n with
 |zero=>grind
 |
  succ n ih=>
  intro i e d hn' hi hd hv
  rw[aN]
  generalize aK _ n=rec at ih ⊢
  dsimp only
  by_cases h:i<l.length
  ·rw[aA (cS (by omega)),aA (dx i),aA (show(i:Int)<(l.length:Int) by omega),hn,aL,bG (by omega)]
   split
   ·exact ih (i+1) true d (by omega) (by omega) (by omega) hv
   ·rw[aL,aA (by omega)]
    refine ih (i+1) e _ (by omega) (by omega) (cI (dt (kt:=.str)) (by omega)) fun p hp=>?_
    rcases fw (kt:=.str) hp with rfl|hp
    ·grind
    ·exact hv p hp
  ·rw[aC (by grind)]
   exact⟨d,e,hv,rfl⟩
end Go.Ax
namespace Go.Ax
theorem cP{S U R:Type}{L:Nat→U→Option R}{F:(U→Option R)→U→Option R}(e:L=aK F)(P:R→Prop)(len:Nat)(st:Nat→S→U)(I:Nat→S→Prop)
 (step:∀rec i s,i<len→I i s→(∀s',I (i+1) s'→W (rec (st (i+1) s')) P)→W (F rec (st i s)) P)
 (stop:∀rec s,I len s→W (F rec (st len s)) P):∀n i s,len -i<n→i≤len→I i s→W (L n (st i s)) P:=by
 subst e
 intro n
 induction n with
 |zero=>grind
 |
  succ n ih=>
  grind [aN]
theorem W.tot{R:Type}{x:Option R}{P:R→Prop}(h:∃r,x=some r)(hp:∀r,P r):W x P:=h.imp fun r h=>⟨h,hp r⟩
theorem W.bt{A R:Type}{x:Option A}{f:A→Option R}{P:R→Prop}(h:∃r,x=some r)(hp:∀r,W (f r) P):W (Option.bind x f) P:=oO.2 (W.tot h hp)
theorem iB{α:Type}(l:List α)(c:Nat)(h:l.length*c≤aG):(if(List.length ([]:List α)+List.length l)*c≤aG then some l else none)=some l:=by
 grind
end Go.Ax
namespace Go.Ax
end Go.Ax
namespace Go.Ax
theorem rz{S U R:Type}{L:Nat→U→Option R}{F:(U→Option R)→U→Option R}(e:L=aK F)(Q:Nat→S→R→Prop)(len:Nat)(st:Nat→S→U)(I:Nat→S→Prop)
 (step:∀rec i s,i<len→I i s→(∀s',I (i+1) s'→W (rec (st (i+1) s')) (Q (i+1) s'))→W (F rec (st i s)) (Q i s))
 (stop:∀rec s,I len s→W (F rec (st len s)) (Q len s)):∀n i s,len -i<n→i≤len→I i s→W (L n (st i s)) (Q i s):=by
 subst e
 intro n
 induction n with
 |zero=>intro i s h;omega
 |
  succ n ih=>
  intro i s hn hi hI
  rw[aN]
  by_cases h:i<len
  ·exact step _ i s h hI fun s' h'=>ih (i+1) s' (by omega) (by omega) h'
  ·have:i=len:=by omega
   subst this
   exact stop _ s hI
end Go.Ax
namespace Go.Ax
def Le{R:Type}(x y:Option R):Prop:=∀r,x=some r→y=some r
theorem Le.refl{R:Type}(x:Option R):Le x x:=fun _ h=>h
theorem Le.bind{A R:Type}{x y:Option A}{f g:A→Option R}(h:Le x y)(k:∀a,Le (f a) (g a)):Le (Option.bind x f) (Option.bind y g):=by
 intro r hr
 obtain⟨a,h1,h2⟩:=bind_some hr
 rw[h a h1]
 exact k a r h2
theorem Le.ite{R:Type}{c:Prop}[Decidable c]{x y x' y':Option R}(h:c→Le x x')(k:¬c→Le y y'):Le (if c then x else y) (if c then x' else y'):=by
 by_cases hc:c
 ·rw[aA hc,aA hc];exact h hc
 ·rw[aC hc,aC hc];exact k hc
theorem Le.iter{U R:Type}{F G:(U→Option R)→U→Option R}(h:∀r s,(∀u,Le (r u) (s u))→∀u,Le (F r u) (G s u)):∀n u,Le (aK F n u) (aK G n u)
 |0,_=>Le.refl _
 |n+1,u=>h _ _ (Le.iter h n) u
def Sf{U R:Type}(u:DecidableEq U)(r:DecidableEq R):DecidableEq (cH U R)
 |
  .bA a,.bA b=>match u a b with
  |isTrue h=>isTrue (by rw[h])
  |isFalse h=>isFalse (fun e=>by cases e;exact h rfl)
 |
  .ret a,.ret b=>match r a b with
  |isTrue h=>isTrue (by rw[h])
  |isFalse h=>isFalse (fun e=>by cases e;exact h rfl)
 | .bA _,.ret _=>isFalse (fun e=>by cases e)
 | .ret _,.bA _=>isFalse (fun e=>by cases e)
def uW{A R:Type}[DecidableEq R]:List A→(A→List A→Option R)→Option R
 |[],_=>none
 |
  x::l,K=>match K x l with
  |none=>none
  |some r=>if(List.range l.length).all (fun i=>match(x::l)[i+1]? with
   |some y=>decide (K y ((x::l).eraseIdx (i+1))=some r)
   |none=>true)=true then some r else none
theorem nD{A R:Type}{_:DecidableEq R}{xs:List A}{K:A→List A→Option R}{r:R}(h:uW xs K=some r):xs≠[]∧∀i(hi:i<xs.length),K xs[i] (xs.eraseIdx i)=some r:=by
 match xs,h with
 |
  x::l,h=>
  simp only[uW] at h
  split at h
  ·cases h
  ·rename_i r' h0
   split at h
   ·rename_i hall
    cases h
    refine⟨by simp,fun i hi=>?_⟩
    cases i with
    |zero=>exact h0
    |
     succ i=>
     have hi':i<l.length:=by simpa using hi
     have:=List.all_eq_true.1 hall i (List.mem_range.2 hi')
     rw[mq (l:=x::l) (i:=i+1) (by simpa using hi')] at this
     exact gM this
   ·cases h
theorem Le.any{A R:Type}{_:DecidableEq R}{xs:List A}{K K':A→List A→Option R}(h:∀x l,Le (K x l) (K' x l)):Le (uW xs K) (th xs K'):=by
 intro r hr
 obtain⟨h1,h2⟩:=nD hr
 exact tO h1 (fun i hi=>h _ _ r (h2 i hi))
def BM{A R:Type}[DecidableEq R]:Nat→List A→(List A→Option R)→Option R
 |_,[],K=>K []
 |0,_::_,_=>none
 |n+1,x::l,K=>uW (x::l) fun y m=>BM n m fun ys=>K (y::ys)
theorem xN{A:Type}:∀(l:List A)(i:Nat)(hi:i<l.length),l.Perm (l[i]::l.eraseIdx i)
 |x::l,0,_=>List.Perm.refl _
 |x::l,i+1,hi=>((xN l i (by simpa using hi)).cons x).trans (List.Perm.swap ..)
theorem oP{A R:Type}{_:DecidableEq R}:∀{n:Nat}{xs:List A}{K:List A→Option R}{r:R},BM n xs K=some r→∀ys:List A,ys.Perm xs→K ys=some r
 |
  _,[],K,r,h,ys,hp=>by
  have:=List.perm_nil.1 hp
  subst this
  cases ‹Nat› <;>exact h
 |0,_::_,_,_,h,_,_=>by cases h
 |
  n+1,x::l,K,r,h,ys,hp=>by
  obtain⟨_,h2⟩:=nD h
  cases ys with
  |nil=>exact absurd hp.symm.eq_nil (by simp)
  |
   cons y ys=>
   have hm:y∈x::l:=hp.mem_iff.1 (by simp)
   obtain⟨i,hi,e⟩:=jd hm
   have h3:=h2 i hi
   rw[e] at h3
   refine oP h3 ys ?_
   have:(y::ys).Perm (y::(x::l).eraseIdx i):=by
    refine hp.trans ?_
    rw[←e]
    exact xN (x::l) i hi
   exact this.cons_inv
theorem Le.perm{A R:Type}{_:DecidableEq R}{n:Nat}{xs:List A}{K K':List A→Option R}(h:∀ys,Le (K ys) (K' ys)):Le (BM n xs K) (sF xs K'):=
 fun r hr=>J9 (fun ys hp=>h ys r (oP hr ys hp))
end Go.Ax
namespace Go.Ax
def sE(W:World):Env:=⟨fun _=>none,fun _=>undef,fun _=>.unit,fun g=>g<W.heap.size,fun _ _=>False⟩
theorem aY.collect{α:Type}{r:List Value→α→Prop}{k:Nat}:∀(n:Nat)(cs:List Value),cs.length=n*k→(∀i,i<n→∃y,r ((cs.drop (i*k)).take k) y)→∃ys,ys.length=n∧aY r cs ys
 |0,cs,hl,_=>⟨[],rfl,List.eq_nil_of_length_eq_zero (by grind)⟩
 |
  n+1,cs,hl,h=>by
  obtain⟨y,hy⟩:=h 0 (by omega)
  rw[Nat.zero_mul,gp] at hy
  obtain⟨ys,h1,h2⟩:=aY.collect (k:=k) n (cs.drop k) (by grind) (fun i hi=>by
   obtain⟨z,hz⟩:=h (i+1) (by omega)
   refine⟨z,?_⟩
   rw[lR]
   rw[show k+i*k=(i+1)*k from by grind]
   exact hz)
  exact⟨y::ys,by simp[h1],cs.take k,cs.drop k,(lM k cs).symm,hy,h2⟩
theorem cells?_get{w:World}{base:Nat}{a:Addr}{n:Nat}{cs:List Value}(h:w.cells? base a n=some cs):cs.length=n∧∀j v,cs[j]? =some v→w.cell? (a.add j)=some v:=by
 unfold World.cells? at h
 split at h
 ·have hl:=mapM_some_length h
  refine⟨by grind,fun j v hj=>?_⟩
  have hlt:j<n:=by
   grind
  have:=mapM_some_get h j j (by grind)
  grind
 grind
theorem Addr.add_add(a:Addr)(i j:Nat):(a.add i).add j=a.add (i+j):=by
 grind [Addr.add]
theorem aY.J4{α:Type}{w:World}{r:List Value→α→Prop}{a:Addr}{k:Nat}:∀(n s:Nat),(∀i,i<n→∃c y,w.cells? 0 (a.add ((s+i)*k)) k=some c∧r c y)→∃cs ys,ys.length=n∧aY r cs ys∧∀j v,cs[j]? =some v→w.cell? (a.add (s*k+j))=some v
 |0,s,_=>⟨[],[],rfl,rfl,fun j v hj=>by simp at hj⟩
 |
  n+1,s,h=>by
  obtain⟨c,y,h1,h2⟩:=h 0 (by omega)
  rw[Nat.add_zero] at h1
  obtain⟨hl,hc⟩:=cells?_get h1
  obtain⟨cs,ys,g1,g2,g3⟩:=aY.J4 n (s+1) (fun i hi=>by
   obtain⟨c',y',q1,q2⟩:=h (i+1) (by omega)
   exact⟨c',y',by rw[show s+1+i=s+(i+1) from by omega];exact q1,q2⟩)
  refine⟨c++cs,y::ys,by simp[g1],⟨c,cs,rfl,h2,g2⟩,?_⟩
  intro j v hj
  rw[List.getElem?_append] at hj
  split at hj
  ·have:=hc j v hj
   rwa [Addr.add_add] at this
  ·rename_i hge
   have:=g3 _ v hj
   rw[hl] at this hge
   rw[show(s+1)*k+(j -k)=s*k+j from by rw[gj,Nat.one_mul];omega] at this
   exact this
section
variable{H:Type} {enc:TypeId×Value→H} {P:Program} {G:cd} (T:bM P G) {W:World} {spare:Nat→Bool} {held:Bool}
include T
theorem bM.cellsOf{t:TypeId}{td:TD}(h:G.at t=some td):P.cellsOf t=td.ty.size:=by
 obtain⟨i,_,h1,_,h2,_⟩:=T.info h
 simp[Program.cellsOf,h1,h2]
theorem bM.J5{t:TypeId}{td:TD}(ht:G.at t=some td)(hs:td.ty= .bool):P.underlying t=some .bool:=by
 obtain⟨ii,dd,_,h1,_,h2,_⟩:=T.info ht
 have am9:=dv h2
 rw[h1]
 cases hd:dd with
 |bool=>rfl
 |struct fs=>grind [dB,Ty.isAgg]
 |array n e=>grind [dB,Ty.isAgg]
 |slice e=>grind [cG,Ty.same]
 |map k e=>grind [cG,Ty.same]
 |_=>subst hd;simp[cG,Ty.same,hs] at h2
def Ty.dh:Ty→Bool
 | .arr _ t=>t.dh
 | .slice _ t=>t.dh
 | .pair a b=>a.dh&&b.dh
 | .aS _| .fns _| .map _ _=>false
 |_=>true
theorem BN:∀(fuel:Nat)(t:TypeId)(td:TD)(cs:List Value)(d:DataW H)(ps:List MemPlace),G.at t=some td→td.ty.dh=true→DataW.trod enc P W 0 spare held fuel t cs=some (d,ps)→(∀n∈d.weights P t,n≤aG)→
 ∃x:td.ty.den,Rel W (fun g=>g<W.heap.size) td.ty cs x
 |0,t,td,cs,d,ps,_,_,h,_=>by trivial
 |
  fuel+1,t,td,cs,d,ps,ht,hp,h,hw=>by
  have ih:=fun t td cs d ps=>BN fuel t td cs d ps
  obtain⟨ty,te,te2⟩:=td
  simp only at hp
  cases ty with
  |
   int k=>
   obtain⟨n,e1,e2,e3⟩:=DataW.trod_int (T.intOf ht rfl) h
   simp only[Lit.wf,bB,mo] at e3
   exact⟨n,e1,e3⟩
  |
   bool=>
   obtain⟨b,e1,e2⟩:=DataW.trod_bool (T.J5 ht rfl) h
   exact⟨b,e1⟩
  |
   str=>
   have hu:=T.strOf ht rfl
   unfold DataW.trod at h
   rw[hu] at h
   split at h<;>simp_all
   obtain⟨_,e1,e2⟩:=h
   subst e1
   rename_i s _
   have hlen:s.data.toList.length≤aG:=hw s.data.toList.length (by simp[DataW.weights])
   exact⟨s.data.toList,by simp,hlen⟩
  |
   arr n u=>
   obtain⟨tde,h1,h2,h3⟩:=T.pN ht rfl
   simp only at h1 h2 h3
   subst h3
   obtain⟨xs,m,e1,e2,e3,e4,e5⟩:=DataW.trod_array h1 h
   cases e1;cases e2
   have hcz:=T.cellsOf h2
   have hall:∀i,i<n→∃y,Rel W (fun g=>g<W.heap.size) tde.ty ((cs.drop (i*tde.ty.size)).take tde.ty.size) y:=by
    intro i hi
    have hx:=e5 i hi
    have hlt:i<xs.length:=by omega
    rw[mq hlt,hcz] at hx
    refine ih te tde _ xs[i].1 xs[i].2 h2 hp hx (fun q hq=>hw q ?_)
    have key:∀(l:List (DataW H))(i:Nat)(d:DataW H),l[i]? =some d→∀q∈d.weights P te,q∈DataW.weightsAll P te l:=by
     intro l
     induction l with
     |nil=>grind
     |
      cons a l ihl=>
      grind [DataW.weightsAll]
    simp only[DataW.weights,h1]
    exact key _ i _ (by grind) q hq
   have hl:cs.length=n*tde.ty.size:=by
    rw[e3];exact T.cellsOf ht
   obtain⟨ys,y1,y2⟩:=aY.collect n cs hl hall
   exact⟨ys,y1,y2⟩
  |
   slice bs u=>
   obtain⟨te',ie,h1,h2,h3,h4,h5,h6,h7⟩:=T.dN ht rfl
   simp only at h1 h2 h4
   subst h3
   have hcz:=T.cellsOf h2
   rcases DataW.trod_slice h1 h with⟨e1,e2⟩|⟨a,len,cap,elems,rest,m,e1,e2,e3,e4,e5,e6,e7,e8,_⟩
   ·exact⟨[],none,0,e1,dc _,by simp,by simp,Or.inl rfl⟩
   ·cases e1;cases e3
    have hb:P.bytesOf te=bs:=by simp[Program.bytesOf,h4,h5]
    have hw0:(elems.length+rest.length)*bs≤aG:=by
     simp_all[DataW.weights]
    have hlb:len*bs≤aG:=cI (gK _ (by omega)) hw0
    have hlm:len≤aG:=cI (Nat.le_mul_of_pos_right _ h7) hlb
    have hall:∀i,i<len→∃c y,W.cells? 0 (a.add ((0+i)*te'.ty.size)) te'.ty.size=some c∧Rel W (fun g=>g<W.heap.size) te'.ty c y:=by
     intro i hi
     have hx:=e8 i hi
     have hlt:i<elems.length:=by omega
     rw[mq hlt,hcz] at hx
     simp only[so] at hx
     obtain⟨c,c1,c2⟩:=hx
     obtain⟨y,hy⟩:=ih te te' c elems[i].1 elems[i].2 h2 hp c2 (fun q hq=>hw q (by
      have key:∀(l:List (DataW H))(i:Nat)(d:DataW H),l[i]? =some d→∀q∈d.weights P te,q∈DataW.weightsAll P te l:=by
       intro l
       induction l with
       |nil=>grind
       |
        cons a l ihl=>
        grind [DataW.weightsAll]
      simp only[DataW.weights,h1,fJ,jB]
      exact Or.inr (Or.inl (key _ i _ (by grind) q hq))))
     grind
    obtain⟨cs',ys,g1,g2,g3⟩:=aY.J4 (w:=W) (a:=a) len 0 hall
    subst g1
    rw[e2]
    refine⟨ys,some a,cap,rfl,e5,hlb,hlm,?_⟩
    cases hys:ys with
    |nil=>grind
    |
     cons y0 ys0=>
     right
     have hcl:=aY.len (n:=te'.ty.size) (fun _ _ h=>Rel.len h) g2
     have hpos:0<cs'.length:=by simp_all
     have hc0:=g3 0 cs'[0] (by grind)
     simp only[Nat.zero_mul,Nat.add_zero,Addr.add,bU] at hc0
     have hspot:a.spot=none∧a.block<W.heap.size:=by
      unfold World.cell? at hc0
      split at hc0
      ·rename_i c _ _ hh
       split at hc0
       ·cases hc0
       ·rename_i hs
        exact⟨by simp_all,(Array.getElem?_eq_some_iff.1 hh).1⟩
      grind
     obtain⟨b,o,sp⟩:=a
     simp only at hspot
     obtain⟨hs,hblt⟩:=hspot
     subst hs
     refine⟨b,o,cs',rfl,hblt,?_,by grind⟩
     intro j v hj
     grind
  |
   pair ta tb=>
   obtain⟨fs,h1,h2⟩:=T.structOf ht rfl
   obtain⟨xs,m,e1,e2,e3,e4,e5⟩:=DataW.trod_struct h1 h
   cases e1;cases e2
   have hl:cs.length=(Ty.pair ta tb).size:=by rw[e3];exact T.cellsOf ht
   have key:∀(l:List Field)(ty:Ty)(off:Nat)(ys:List (DataW H×List MemPlace)),cD G l off ty=true→ty.dh=true→off+ty.size≤cs.length→ys.length=l.length→
    (∀(i:Nat)(f:Field),l[i]? =some f→DataW.trod enc P W 0 spare held fuel f.type ((cs.drop f.offset).take (P.cellsOf f.type))=ys[i]?)→
    (∀n∈DataW.weightsEach P (l.map (·.type)) (ys.map (·.1)),n≤aG)→∃x:ty.den,Rel W (fun g=>g<W.heap.size) ty ((cs.drop off).take ty.size) x:=by
    intro l
    induction l with
    |
     nil=>
     intro ty off ys hf _ _ _ _ _
     cases ty<;>simp[cD] at hf
     exact⟨(),by trivial⟩
    |
     cons f l ihl=>
     intro ty off ys hf hpu hle hyl hrd hwe
     cases ty with
     |
      pair a b=>
      simp only[cD,bB] at hf
      obtain⟨⟨⟨g1,g2⟩,g3⟩,g4⟩:=hf
      simp only[Ty.dh,bB] at hpu
      cases ys with
      |nil=>grind
      |
       cons y ys=>
       split at g1
       ·rename_i td htd
        have:=Ty.aB g1;subst this
        have g2:=bT g2
        have hcz:=T.cellsOf htd
        simp only[Ty.size] at hle
        have hr0:=hrd 0 f rfl
        rw[g2,hcz] at hr0
        simp only[List.getElem?_cons_zero] at hr0
        simp only[d8,DataW.weightsEach,jB] at hwe
        obtain⟨x1,hx1⟩:=ih f.type td _ y.1 y.2 htd hpu.1 hr0 (fun n hn=>hwe n (Or.inl hn))
        obtain⟨x2,hx2⟩:=ihl b (off+td.ty.size) ys g4 hpu.2 (by omega) (by grind) (fun i f' hf'=>by
         have:=hrd (i+1) f' (by grind)
         grind) (fun n hn=>hwe n (Or.inr hn))
        refine⟨(x1,x2),(cs.drop off).take td.ty.size,(cs.drop (off+td.ty.size)).take b.size,?_,hx1,hx2⟩
        simp_all[Ty.size,List.take_add]
       grind
     |_=>trivial
   grind [DataW.weights]
  |
   unit=>
   obtain⟨ii,dd,_,hu,hsz,hdo,_⟩:=T.info ht
   cases dd with
   |
    struct fs=>
    obtain⟨xs,m,e1,e2,e3,e4,e5⟩:=DataW.trod_struct hu h
    have hl:cs.length=0:=by rw[e3];exact T.cellsOf ht
    exact⟨(),List.eq_nil_of_length_eq_zero hl⟩
   |slice e=>simp[cG,Ty.same] at hdo
   |array n e=>simp[cG] at hdo
   |map k e=>trivial
   |_=>trivial
  |aS k=>trivial
  |fns n=>trivial
  |map k v=>trivial
theorem qa{base:Nat}{t:TypeId}{td:TD}{v:Value}{d:DataW H}{p:List MemPlace}(ht:G.at t=some td)(hp:td.ty.dh=true)(gx:Value.okWide P W .any base t v)(h:DataW.Trod enc P W 0 spare held t v d p)(hw:∀n∈d.weights P t,n≤aG):
 ∃x:td.ty.den,RV (sE W) W (.val td.ty x) v∧wf td.ty x:=by
 obtain⟨fuel,h⟩:=h
 obtain⟨x,hx⟩:=BN T fuel t td _ d p ht hp h hw
 refine⟨x,RV.eI ?_,Rel.wf hx⟩
 obtain⟨ii,dd,_,hu,_,hdo,_⟩:=T.info ht
 have am9:=dv hdo
 cases ha:td.ty.isAgg with
 |
  true=>
  rw[ha] at am9
  unfold Value.okWide at gx
  rw[hu] at gx
  cases dd<;>simp[dB] at am9<;>(obtain⟨cs,e,_⟩:=gx;subst e;exact Or.inl ⟨ha,cs,rfl,hx⟩)
 |
  false=>
  rw[ha] at am9
  refine Or.inr ⟨ha,?_⟩
  cases v with
  |
   agg cs=>
   unfold Value.okWide at gx
   rw[hu] at gx
   cases dd<;>simp[dB] at am9<;>simp[Cell.okWide,Cell.ok,hu] at gx
  |_=>trivial
end
theorem mapM_mono{α β:Type}{f g:α→Option β}:∀{l:List α}{r:List β},(∀x∈l,∀y,f x=some y→g x=some y)→l.mapM f=some r→l.mapM g=some r
 |[],r,_,h=>by grind
 |
  x::l,r,hm,h=>by
  simp only[List.mapM_cons,Option.bind_eq_bind,so,Option.pure_def,dk] at h ⊢
  obtain⟨y,h1,ys,h2,h3⟩:=h
  exact⟨y,hm x (by simp) y h1,ys,mapM_mono (fun z hz=>hm z (by simp[hz])) h2,h3⟩
theorem cells?_stay{W W':World}(hs:∀b,b<W.heap.size→W'.heap[b]? =W.heap[b]?){a:Addr}{n:Nat}{cs:List Value}(h:W.cells? 0 a n=some cs):W'.cells? 0 a n=some cs:=by
 unfold World.cells? at h ⊢
 split at h
 ·rename_i hb
  rw[aA hb]
  grind [mapM_mono,World.cell?]
 grind
section
variable{H:Type} {enc:TypeId×Value→H} {P:Program} {G:cd} (T:bM P G) {W W':World} (hs:∀b,b<W.heap.size→W'.heap[b]? =W.heap[b]?)
include T hs
theorem xO:∀(fuel:Nat)(t:TypeId)(td:TD)(cs:List Value)(x:DataW H×List MemPlace),G.at t=some td→td.ty.dh=true→DataW.trod enc P W 0 (fun _=>true) true fuel t cs=some x→DataW.trod enc P W' 0 (fun b=>decide (b<W.heap.size)) true fuel t cs=some x
 |0,t,td,cs,x,_,_,h=>by trivial
 |
  fuel+1,t,td,cs,x,ht,hp,h=>by
  have ih:=fun t td cs x=>xO fuel t td cs x
  obtain⟨ty,te,te2⟩:=td
  simp only at hp
  cases ty with
  |
   int k=>
   have hu:=T.intOf ht rfl
   unfold DataW.trod at h ⊢
   rw[hu] at h ⊢
   split at h<;>simp_all
  |
   bool=>
   have hu:=T.J5 ht rfl
   unfold DataW.trod at h ⊢
   rw[hu] at h ⊢
   split at h<;>simp_all
  |
   str=>
   have hu:=T.strOf ht rfl
   unfold DataW.trod at h ⊢
   rw[hu] at h ⊢
   split at h<;>simp_all
  |
   arr n u=>
   obtain⟨tde,h1,h2,h3⟩:=T.pN ht rfl
   simp only at h1 h2 h3
   subst h3
   unfold DataW.trod at h ⊢
   rw[h1] at h ⊢
   simp only at h ⊢
   split at h
   ·rename_i hl
    rw[aA hl]
    simp only[fN] at h ⊢
    obtain⟨xs,g1,g2⟩:=h
    exact⟨xs,mapM_mono (fun i _ y hy=>ih te tde _ y h2 hp hy) g1,g2⟩
   grind
  |
   slice bs u=>
   obtain⟨te',ie,h1,h2,h3,h4,h5,h6,h7⟩:=T.dN ht rfl
   simp only at h1 h2 h4
   subst h3
   have hcz:=T.cellsOf h2
   unfold DataW.trod at h ⊢
   rw[h1] at h ⊢
   split at h
   all_goals first
    |(cases h;rfl)
    |skip
   all_goals try (simp_all;done)
   rename_i e0 a len cap heq0
   have he0:e0=te:=by grind
   subst he0
   simp only[bU] at h
   simp only
   split at h
   ·rename_i hc
    rw[aA hc]
    simp only[so,fN] at h ⊢
    obtain⟨elems,g1,rest,g2,g3⟩:=h
    have step:∀(i:Nat)(y:DataW H×List MemPlace),(W.cells? 0 (a.add (i*P.cellsOf e0)) (P.cellsOf e0)).bind (DataW.trod enc P W 0 (fun _=>true) true fuel e0)=some y→(W'.cells? 0 (a.add (i*P.cellsOf e0)) (P.cellsOf e0)).bind (DataW.trod enc P W' 0 (fun b=>decide (b<W.heap.size)) true fuel e0)=some y:=by
     intro i y hy
     simp only[so] at hy ⊢
     obtain⟨c,c1,c2⟩:=hy
     exact⟨c,cells?_stay hs c1,ih e0 te' c y h2 hp c2⟩
    refine⟨elems,mapM_mono (fun i _ y hy=>step i y hy) g1,rest,?_,g3⟩
    by_cases hz:cap -len=0
    ·grind
    ·have hblk:a.block<W.heap.size:=by
      obtain⟨k,hk⟩:∃k,cap -len=k+1:=⟨cap -len -1,by omega⟩
      rw[hk,List.range_succ_eq_map] at g2
      simp only[List.mapM_cons,Option.bind_eq_bind,so] at g2
      obtain⟨y,⟨c,c1,_⟩,_⟩:=g2
      obtain⟨l1,l2⟩:=cells?_get c1
      have hpos:0<c.length:=by grind
      have:=l2 0 c[0] (by grind)
      grind [World.cell?,Addr.add]
     simp only[hblk,decide_true,bU]
     grind [mapM_mono]
   grind
  |
   pair ta tb=>
   obtain⟨fs,h1,h2⟩:=T.structOf ht rfl
   unfold DataW.trod at h ⊢
   rw[h1] at h ⊢
   simp only at h ⊢
   split at h
   ·rename_i hl
    rw[aA hl]
    simp only[fN] at h ⊢
    obtain⟨xs,g1,g2⟩:=h
    refine⟨xs,mapM_mono (fun f hf y hy=>?_) g1,g2⟩
    have key:∀(l:List Field)(ty:Ty)(off:Nat),cD G l off ty=true→ty.dh=true→∀f∈l,∃td,G.at f.type=some td∧td.ty.dh=true:=by
     intro l
     induction l with
     |nil=>grind
     |
      cons f0 l ihl=>
      intro ty off hfo hpu f hf
      cases ty with
      |
       pair a b=>
       simp only[cD,bB] at hfo
       obtain⟨⟨⟨q1,q2⟩,q3⟩,q4⟩:=hfo
       simp only[Ty.dh,bB] at hpu
       grind [Ty.aB]
      |_=>trivial
    grind
   grind
  |
   unit=>
   obtain⟨ii,dd,_,hu,hsz,hdo,_⟩:=T.info ht
   cases dd with
   |
    struct fs=>
    have hfs:fs.toList= []:=by
     grind [cG,cD]
    simp_all[DataW.trod]
   |slice e=>simp[cG,Ty.same] at hdo
   |array n e=>simp[cG] at hdo
   |map k e=>trivial
   |_=>trivial
  |aS k=>trivial
  |fns n=>trivial
  |map k v=>trivial
theorem qb:∀(ts:List TypeId)(vs:List Value)(ds:List (DataW H))(ps:List MemPlace),(∀t∈ts,∃td,G.at t=some td∧td.ty.dh=true)→DataW.TrodAll enc P W 0 (fun _=>true) true ts vs ds ps→DataW.TrodAll enc P W' 0 (fun b=>decide (b<W.heap.size)) true ts vs ds ps
 |
  [],vs,ds,ps,_,h=>by
  cases vs<;>cases ds<;>first|exact h|exact h.elim
 |
  t::ts,vs,ds,ps,ht,h=>by
  cases vs with
  |nil=>cases ds<;>exact h.elim
  |
   cons v vs=>
   cases ds with
   |nil=>exact h.elim
   |
    cons d ds=>
    obtain⟨p,q,⟨fuel,h1⟩,h2,h3⟩:=h
    obtain⟨td,htd,hpd⟩:=ht t (by simp)
    exact⟨p,q,⟨fuel,xO T hs fuel t td _ _ htd hpd h1⟩,qb ts vs ds q (fun t' ht'=>ht t' (by simp[ht'])) h2,h3⟩
end
theorem HW.bare{gl:Ctx}{W:World}(n:Nat)(hg:JH gl (sE W) W):HW gl (sE W) W (aR (List.replicate n none) []):=by
 have no:∀(b:Nat)(k:aP),(aR (List.replicate n (none:Option aP)) [])[b]? ≠some (some k):=by
  grind [aR]
 exact⟨fun b k h=>absurd h (no b k),fun b _ k _ _ h=>absurd h (no b k),fun b k _ h=>absurd h (no b k),fun g hg=>hg,hg,fun b k _ h=>absurd h (no b k)⟩
theorem J6{H:Type}{enc:TypeId×Value→H}{P:Program}{G:cd}(T:bM P G){gl:Ctx}{f:FuncId}{fn:Func}{s:ChangeSpec}{W:World}{args:Array Value}{ds gs:List (DataW H)}{before:List MemPlace}{avs:List AV}{m:Nat}{bt:TypeId}
 (hc:Fc P gl f avs (aR (List.replicate m none) []) (.ret (.val .bool true)) (dC m [])) (hv:mc (sE W) W avs args.toList) (hg:JH gl (sE W) W)
 (hW:DataW.Whole enc P fn.params.toList s.vars false W args.toList ds gs before) (hvars:s.vars= []) (hpt:∀t∈fn.params.toList,∃td,G.at t=some td∧td.ty.dh=true)
 (hrt:fn.resultTypes= #[bt]) (hbt:P.underlying bt=some .bool) (hspec:∀gs,gs= []→(s.fn H (ds++gs)).results= [.lit (.bool true)]∧(s.fn H (ds++gs)).args=ds∧(s.fn H (ds++gs)).vars= []):
 Calls P f args W fun e W'=>∃v,e= .returned v∧s.post enc P fn false true false false W args v W':=by
 have anp:=hc.2 (sE W) W args.toList hv (HW.bare m hg)
 have e0:args.toList.toArray=args:=by simp
 rw[e0] at anp
 refine anp.mono ?_
 rintro e W' ⟨E',hR,_,hX⟩
 cases e with
 |panicked ch=>trivial
 |outgrown=>trivial
 |
  returned v=>
  have hv':=RV.eB hR
  subst hv'
  refine⟨_,rfl,?_⟩
  have noO:∀g,¬bK (aR (List.replicate m (none:Option aP)) []) (sE W) g:=by
   rintro g ⟨b,k,hb,_⟩
   grind [aR]
  have stay:∀b,b<W.heap.size→W'.heap[b]? =W.heap[b]? :=fun b hb=>hX.kept b hb (noO b)
  have hW0:=hW
  obtain⟨p,q,hA,hV,hpq,hfz,hnd⟩:=hW
  rw[hvars] at hV
  have hgs:gs= []∧q= []:=by
   cases gs with
   |nil=>trivial
   |cons _ _=>trivial
  obtain⟨hgs,hq⟩:=hgs
  obtain⟨s1,s2,s3⟩:=hspec gs hgs
  refine⟨ds,gs,before,[],p,[],hW0,?_,?_,?_,?_,fun h=>by cases h⟩
  ·rw[s1,hrt]
   refine⟨[],[],⟨1,?_⟩,rfl,rfl⟩
   simp[DataW.trod,hbt,Value.cells]
  ·grind [qb]
  ·rw[s3,hvars];rfl
  ·refine⟨hX.os,hX.output,fun i hi=>?_⟩<;>grind
end Go.Ax
namespace Go.Ax
end Go.Ax
namespace Go.Ax
theorem cU{c:Prop}[Decidable c]{α:Type}{x y:α}(h:c):(if decide c=true then x else y)=x:=if_pos (decide_eq_true h)
theorem gn{a b:Int}{α:Type}{x y:α}(h:¬a<b):(if decide (a<b)=true then x else y)=y:=if_neg fun e=>h (of_decide_eq_true e)
theorem eN(n:Nat){α:Type}{x y:α}:(if 0≤(n:Int) then x else y)=x:=if_pos (Int.natCast_nonneg n)
theorem ld(c:Nat)(h:c≤4611686018427387904):aZ ((c:Int)+(1:Int))=((c+1:Nat):Int):=bG h
end Go.Ax
