/- The machines: what it means to be walked or run, part 5. No condition. -/
import Derived.Test.YtjabllhapfphoaaGreatDoorA4
import Derived.RangeFuncNested
import Derived.LoopNIn
namespace Go.Cm
structure tX(P:Program)(gl:List V)(hf:Hk):Prop where
 Gg:pQ P
 hash:∀args hp v,rZ hp args=some v→∀nx,fh P gl hf.h args hp nx v hp nx
 GN:∀f args v,lu hf.t f args=some v→∀hp nx,fh P gl f args hp nx v hp nx
section
variable{P:Program} {gl:List V} {ih:dx} {hf:Hk}
theorem vM{L:Nat}{nx:Id}{E:Env}(hF:bW L nx E)(hL:num nx<L){g n:Nat}{E':Env}(hE:E'=⟨fun b=>if b=nx then some g else E.g b,fun b=>if b=nx then n else E.n b⟩):E.le E':=by
 intro b g' hb
 have hne:b≠nx:=fun e'=>by subst e';rw[hF b (Nat.le_refl _) hL] at hb;cases hb
 subst hE
 exact⟨by simp only[if_neg hne];exact hb,by simp only[if_neg hne]⟩
theorem vN(hI:rG P gl ih)(hG:tX P gl hf){g:FuncId}{fs cs:V}{lI:Id}{tm:T V}{dfE:V}{du:T ak}{eo:Id}{x:Xt}{tm':T V}{hp':T ak}{nx':Id}{df':V}
 (h:iT P hf ih (iU P ih) g (ij fs (.cons (.yl lI) cs)) du eo (fun _ hp nx=>C8 lI tm dfE hp nx)=some (.mk x tm' hp' nx' df')):
 tm'=tm∧df'=dfE∧num eo≤num nx'∧∀(r:Option Nat)(L:Nat)(E:Env)(w:World)(l:Nat)(fv:Value),num nx'≤L→RH E du w→bW L eo E→GL gl du E w→E.g lI=some l→RV E (.fn g fs cs) fv→∀(Q:Exit→Act→World→Prop)(a':Act),
  (∀E' w',RH E' hp' w'→bW L nx' E'→GL gl hp' E' w'→Ex du eo E w hp' nx' E' w'→Q (pN x) a' w')→
  ∃d args,(Deferred.ofValue fv #[.func (.yield l) #[] #[]]).run P w= .ok d w∧(invoke d.target d.args).run P w= .ok (.enter g args) w∧CallsIn (Fr r) 0 P g args w (rangePost (Fr r) 0 P l Q a'):=by
 obtain⟨v,ov,rS,h1,c1,c2,c3⟩:=iW hI hG.Gg hG.hash hG.GN h
 obtain⟨e1,e2,e3,e4⟩:=Dm (P:=P) h1
 subst e2
 refine⟨e1,e3,c2,?_⟩
 intro r L E w l fv hL hH hF hGl hg hfv Q a' hQ
 simp only[RV] at hfv
 obtain⟨f',c',rfl,r1,r2⟩:=hfv
 have hv:aQ E (ij fs (.cons (.yl lI) cs)) (f'.toList++(Value.func (.yield l) #[] #[]::c'.toList)):=by
  refine r1.app (aQ.aG.2 ⟨_,_,rfl,?_,r2⟩)
  simp only[RV]
  exact⟨l,hg,rfl⟩
 have hc:=c3 L E w _ hL hv hH hF hGl
 have harr:(f'.toList++(Value.func (.yield l) #[] #[]::c'.toList)).toArray=f'++ #[Value.func (.yield l) #[] #[]]++c':=by apply Array.ext';simp
 rw[harr] at hc
 refine⟨{target:=.fn (.func g) c',args:=f'++ #[.func (.yield l) #[] #[]]},_,by simp[Deferred.ofValue],by simp only[invoke];exact c1 _ _,CallsIn.mono (F:=Fr r) hc ?_⟩
 rintro e w2 ⟨u,E2,rfl,q1,q2,q3,q4⟩
 have hle:=q4.le hF hL
 obtain⟨jump,w4,j1,j2,j3,j4⟩:=e4 E2 w2 l q2 (hle lI l hg).1
 refine⟨jump,w4,j1,?_⟩
 have hX:=q4.trans j3
 exact j4 r Q a' (hQ E2 w4 j2 q3 (hGl.step hX) hX)
theorem DU(hI:rG P gl ih)(hG:tX P gl hf){f:Operand}{ps:Array Tmp}{asg body:Code}{fid sz:Nat}{tm:T V}{hp:T ak}{nx:Id}{df:V}{x:Xt}{tm':T V}{hp':T ak}{nx':Id}{df':V}
 (h:Hf P hf ih f ps asg body fid sz tm hp nx df=some (.mk x tm' hp' nx' df')):ep P gl (.rangeFunc f ps asg body) sz tm hp nx df x tm' hp' nx' df':=by
 obtain⟨fv,hfv,h1⟩:=ab h
 rcases kb h1 with⟨g,fs,cs,rfl,h2⟩|⟨_,_,h2⟩
 ·have hcase:((df= .nil∨∃a l,df= .cons a l)∧yr P hf ih ps asg body fid sz tm hp nx df g fs cs=some (.mk x tm' hp' nx' df'))∨
   (∃lb d,df= .yl lb∧(∃st pe fn tmL szL psL asgL bodyL,get lb hp=some (.lp st pe fn tmL szL psL asgL bodyL d))∧yt P hf ih ps asg body fid sz tm hp nx df g fs cs d=some (.mk x tm' hp' nx' df')):=by
   cases df with
   |nil=>exact Or.inl ⟨Or.inl rfl,h2⟩
   |cons a l=>exact Or.inl ⟨Or.inr ⟨a,l,rfl⟩,h2⟩
   |
    yl lb=>
    obtain⟨bl,hbl,h3⟩:=ab (show(bO (get lb hp) fun bl=>bl.FE fun _ _ _ _ _ _ _ _ d=>yt P hf ih ps asg body fid sz tm hp nx (.yl lb) g fs cs d)=some (.mk x tm' hp' nx' df') from h2)
    obtain⟨st,pe,fn,tmL,szL,psL,asgL,bodyL,d,rfl,h4⟩:=kf h3
    exact Or.inr ⟨lb,d,rfl,⟨_,_,_,_,_,_,_,_,hbl⟩,h4⟩
   |_=>cases h2
  rcases hcase with⟨hch,h3⟩|⟨lb,d,rfl,⟨st,pe,fn,tmL,szL,psL,asgL,bodyL,hlb⟩,h3⟩
  ·
   unfold yr at h3
   rw[cj,lQ,cj,lQ,kL] at h3
   obtain⟨e1,e2,e3,e4⟩:=vN hI hG h3
   rw[cG,cG] at e3
   refine⟨by omega,?_⟩
   intro r L E a w hL hok hrf Q hQ
   have hrf:r=none∧RD E df a.defers:=by
    rcases hrf with hrf|⟨b,l,hb,_⟩
    ·exact hrf
    ·rcases hch with hc|⟨_,_,hc⟩<;>(rw[hb] at hc;cases hc)
   obtain⟨rfl,hrd⟩:=hrf
   refine wpIn_rangeFunc ?_
   intro fn _
   obtain⟨E1,hE1⟩:∃E1:Env,E1=⟨fun b=>if b=nx then some w.heap.size else E.g b,fun b=>if b=nx then 0 else E.n b⟩:=⟨_,rfl⟩
   obtain⟨a1,a2,a3,a4,a5⟩:=hok.vh.fresh hok.vf (by omega) (k:=.df) (o:=.deferred (some [])) (n:=0) (w.alloc (.deferred (some []))) rfl rfl (Tp.r rfl rfl) rfl E1 hE1 rfl
   have hn1:num (lO nx)<L:=by rw[cG];omega
   obtain⟨E2,hE2⟩:∃E2:Env,E2=⟨fun b=>if b=lO nx then some (w.alloc (.deferred (some []))).heap.size else E1.g b,fun b=>if b=lO nx then 0 else E1.n b⟩:=⟨_,rfl⟩
   have hle2:=vM a2 hn1 hE2
   have hsz1:(w.alloc (.deferred (some []))).heap.size=w.heap.size+1:=by simp
   obtain⟨b1,b2,b3,b4,b5⟩:=a1.fresh a2 hn1 (k:=.lp .ready none fid tm sz ps asg body nx) (o:=.loop {state:=.ready,pending:=none,fn:=fn,tmps:=a.tmps,params:=ps,assign:=asg,body:=body,defers:=w.heap.size}) (n:=0) ((w.alloc (.deferred (some []))).alloc (.loop {state:=.ready,pending:=none,fn:=fn,tmps:=a.tmps,params:=ps,assign:=asg,body:=body,defers:=w.heap.size})) rfl rfl (Tp.r rfl rfl) rfl E2 hE2
    ⟨a.tmps,w.heap.size,fn,rfl,(hok.vt.mono a4).mono hle2,hok.vs,(hle2 nx _ a5).1⟩
   have X:=a3.trans b3
   rw[hsz1] at b5
   obtain⟨dd,args,d1,d2,d3⟩:=e4 none L E2 _ (w.heap.size+1) (a.eval f) hL b1 b2 (hok.vg.step X) b5 (((aT hok.vt hfv).mono a4).mono hle2) Q {a with defers:={target:=.collected w.heap.size,args:= #[]}::a.defers} (by
    intro E' w' q1 q2 q3 q4
    have hle3:=q4.le b2 hL
    subst e1;subst e2
    exact hQ E' _ w' ⟨((hok.vt.mono a4).mono hle2).mono hle3,hok.vs,q1,q2,q3⟩ (Or.inl ⟨rfl,⟨_,_,w.heap.size,rfl,(hle3 nx _ (hle2 nx _ a5).1).1,rfl,((hrd.mono a4).mono hle2).mono hle3⟩⟩) (X.trans q4))
   refine⟨w.heap.size+1,[{target:=.collected w.heap.size,args:= #[]}],_,dd,_,g,args,_,run_enterLoop_outer fn a.tmps ps asg body,?_,fun _ _=>trivial,d2,fun h=>(by cases h),d3⟩
   have hm:∀v:Value,(#[Operand.const v]).map a.eval= #[v]:=fun v=>by simp[Act.eval]
   simp only[resolve,hm]
   exact d1
  ·
   unfold yt at h3
   rw[cj,lQ,kL] at h3
   obtain⟨e1,e2,e3,e4⟩:=vN hI hG h3
   rw[cG] at e3
   refine⟨by omega,?_⟩
   intro r L E a w hL hok hrf Q hQ
   have hrf:∃l0,r=some l0∧E.g lb=some l0∧a.defers= []:=by
    rcases hrf with⟨_,hrf⟩|⟨b,l,hb,h1,h2,h3⟩
    ·exact hrf.elim
    ·cases hb;exact⟨l,h1,h2,h3⟩
   obtain⟨l0,rfl,hg0,hds⟩:=hrf
   obtain⟨aL,gL,fL,q1,q2,q3,q4⟩:=vn hok.vh hlb hg0
   refine wpIn_rangeFunc ?_
   intro fn _
   obtain⟨E2,hE2⟩:∃E2:Env,E2=⟨fun b=>if b=nx then some w.heap.size else E.g b,fun b=>if b=nx then 0 else E.n b⟩:=⟨_,rfl⟩
   have hle2:=vM hok.vf (show num nx<L by omega) hE2
   obtain⟨b1,b2,b3,b4,b5⟩:=hok.vh.fresh hok.vf (by omega) (k:=.lp .ready none fid tm sz ps asg body d) (o:=.loop {state:=.ready,pending:=none,fn:=fn,tmps:=a.tmps,params:=ps,assign:=asg,body:=body,defers:=gL}) (n:=0) (w.alloc (.loop {state:=.ready,pending:=none,fn:=fn,tmps:=a.tmps,params:=ps,assign:=asg,body:=body,defers:=gL})) rfl rfl (Tp.r rfl rfl) rfl E2 hE2
    ⟨a.tmps,gL,fn,rfl,hok.vt.mono hle2,hok.vs,(hle2 d _ q4).1⟩
   obtain⟨dd,args,d1,d2,d3⟩:=e4 (some l0) L E2 _ w.heap.size (a.eval f) hL b1 b2 (hok.vg.step b3) b5 ((aT hok.vt hfv).mono hle2) Q {a with defers:=[]++a.defers} (by
    intro E' w' p1 p2 p3 p4
    have hle3:=p4.le b2 hL
    subst e1;subst e2
    exact hQ E' _ w' ⟨(hok.vt.mono hle2).mono hle3,hok.vs,p1,p2,p3⟩ (Or.inr ⟨lb,l0,rfl,rfl,(hle3 lb _ (hle2 lb _ hg0).1).1,by simp[hds]⟩) (b3.trans p4))
   refine⟨w.heap.size,[],_,dd,_,g,args,_,run_enterLoop_inner q1 fn a.tmps ps asg body,?_,fun _ _=>trivial,d2,fun h=>(by cases h),d3⟩
   have hm:∀v:Value,(#[Operand.const v]).map a.eval= #[v]:=fun v=>by simp[Act.eval]
   simp only[resolve,hm]
   exact d1
 ·cases h2
end
end Go.Cm
namespace Go.Cm
section
variable{P:Program} {gl:List V} {ih:dx} {hf:Hk}
theorem sr{op:Op}{f:Operand}{args:List Operand}(h:di P gl op= .val f args):∃c,op= .call c∧c.callee= .value f∧c.args.toList=args:=by
 cases op<;>simp only[di] at h
 case call c=>
  split at h
  ·cases h
  ·rename_i b' hb';cases h;exact⟨c,rfl,hb',rfl⟩
  ·cases h
 case defer c=>split at h<;>cases h
 all_goals(cases hs:lS P gl _ with|mk g=>rw[hs] at h;cases h)
theorem ss{op:Op}{f:Operand}{name:String}{args:List Operand}(h:di P gl op= .inv f name args):∃c,op= .call c∧c.callee= .invoke f name∧c.args.toList=args:=by
 cases op<;>simp only[di] at h
 case call c=>
  split at h
  ·cases h
  ·cases h
  ·rename_i b' hb';cases h;exact⟨c,rfl,hb',rfl⟩
 case defer c=>split at h<;>cases h
 all_goals(cases hs:lS P gl _ with|mk g=>rw[hs] at h;cases h)
theorem z7{op:Op}{f:Operand}{args:List Operand}(h:di P gl op= .oR f args):∃c,op= .defer c∧c.callee= .value f∧c.args.toList=args:=by
 cases op<;>simp only[di] at h
 case call c=>split at h<;>cases h
 case defer c=>
  split at h
  ·rename_i b' hb';cases h;exact⟨c,rfl,hb',rfl⟩
  ·cases h
 all_goals(cases hs:lS P gl _ with|mk g=>rw[hs] at h;cases h)
theorem BA{o:Oper}{sz:Nat}{tm:T V}{hp:T ak}{nx:Id}{df:V}{v:V}{hp':T ak}{nx':Id}(hnd:∀c,o.op≠.defer c)(hd:lT sz o.dst=true)(hn:num nx≤num nx')
 (h:∀L E a w,num nx'≤L→Ok gl L sz tm hp nx E a w→
  (∃f args,(execOp a.eval o).run P w= .ok (.enter f args) w∧CallsIn Fence.wide 0 P f args w (fun e w'=>∃u E',e= .returned u∧RV E' v u∧RH E' hp' w'∧bW L nx' E'∧Ex hp nx E w hp' nx' E' w'))∨
  (∃l fn tmps asg body,(execOp a.eval o).run P w= .ok (.round l fn tmps asg body) w∧RoundIn Fence.wide 0 P l fn tmps asg body w (fun e w'=>∃u E',e= .returned u∧RV E' v u∧RH E' hp' w'∧bW L nx' E'∧Ex hp nx E w hp' nx' E' w'))):
 js P gl o sz tm hp nx df (AA o.dst (some v) tm) hp' nx' df:=by
 refine⟨hn,?_⟩
 intro r L E a w hL hok hrf K Q hK
 unfold Oper.wpIn
 refine⟨fun _ _=>trivial,?_⟩
 rw[Oper.semAt_eq _ _ _ hnd]
 have post:∀(ed:Ending)(w':World),(∃u E',ed= .returned u∧RV E' v u∧RH E' hp' w'∧bW L nx' E'∧Ex hp nx E w hp' nx' E' w')→
  (match ed,w' with
   | .returned v,w''=>K (a.put o.dst v) w''
   | .panicked chain,w''=>Q (.panic chain) a w''
   | .outgrown,_=>LetsOut Q):=by
  rintro ed w' ⟨u,E',rfl,q1,q2,q3,q4⟩
  have hle:=q4.le hok.vf hL
  exact hK E' (a.put o.dst u) w' (hok.Kz hL hd q1 q2 q3 q4) (by rw[put_defers];exact hrf.mono hle) q4
 rcases h L E a w hL hok with⟨f,args,h1,h2⟩|⟨l,fn,tmps,asg,body,h1,h2⟩
 ·rw[h1]
  simp only[Oper.uponIn]
  exact⟨fun h=>(by cases h),CallsIn.mono (F:=Fr r) h2 post⟩
 ·rw[h1]
  simp only[Oper.uponIn]
  exact⟨fun h=>(by cases h),RoundIn.mono (F:=Fr r) h2 post⟩
theorem DV(hI:rG P gl ih)(hG:tX P gl hf){o:Oper}{sz:Nat}{tm:T V}{hp:T ak}{nx:Id}{df:V}{k:iG}{f:Operand}{args:List Operand}{R:Rs}(hc:di P gl o.op= .val f args)(hd:lT sz o.dst=true)(h:G3 P hf ih o.dst tm hp nx df k f args=some R):
 ∃tm' hp' nx' df',k tm' hp' nx' df'=some R∧js P gl o sz tm hp nx df tm' hp' nx' df':=by
 obtain⟨fv,h1,h2⟩:=ab h
 obtain⟨x,h3,h4⟩:=ab h2
 obtain⟨c,c1,c2,c3⟩:=sr hc
 subst c3
 have hnd:∀c,o.op≠.defer c:=by rw[c1];intro c hc;cases hc
 rcases kb h4 with⟨g,fs,cs,rfl,h5⟩|⟨b,rfl,h5⟩
 ·rw[kL] at h5
  obtain⟨v,hp',nx',h6,q1,q2,q3⟩:=iW hI hG.Gg hG.hash hG.GN h5
  rw[eF] at h6
  refine⟨_,_,_,_,h6,BA hnd hd q2 ?_⟩
  intro L E a w hL hok
  left
  have hfv:=aT hok.vt h1
  simp only[RV] at hfv
  obtain⟨f',c',hev,r1,r2⟩:=hfv
  have hv:=r1.app ((eE hok.vt h3).app r2)
  have hcall:=q3 L E w _ hL hv hok.vh hok.vf hok.vg
  refine⟨g,_,?_,hcall⟩
  simp only[execOp,c1,resolve,c2,hev,Sem.run_bind,Deferred.ofValue,Sem.run_pure,Result.andThen_ok,invoke]
  rw[q1]
  congr 2
  apply Array.ext'
  simp
 ·obtain⟨v,hp',nx',h6,q2,q3⟩:=sd hI h5
  rw[eF] at h6
  refine⟨_,_,_,_,h6,BA hnd hd q2 ?_⟩
  intro L E a w hL hok
  right
  have hfv:=aT hok.vt h1
  simp only[RV] at hfv
  obtain⟨l,hg,hev⟩:=hfv
  obtain⟨fn,tmps,asg,body,y1,y2⟩:=q3 L E w _ l hL (eE hok.vt h3) hok.vh hok.vf hok.vg hg
  refine⟨l,fn,tmps,asg,body,?_,y2⟩
  simp only[execOp,c1,resolve,c2,hev,Sem.run_bind,Deferred.ofValue,Sem.run_pure,Result.andThen_ok,invoke,Array.empty_append]
  have:(c.args.toList.map a.eval).toArray=c.args.map a.eval:=by apply Array.ext';simp
  rw[←this];exact y1
theorem vO(name:String):∀l:List Method,eb l name=l.find? (fun m=>m.name==name)
 |[]=>rfl
 |
  m::l=>by
  show@Bool.rec (fun _=>Option Method) (eb l name) (some m) (m.name==name)=_
  rw[List.find?_cons,vO name l]
  cases m.name==name<;>rfl
theorem qh{t:TypeId}(h:yq P t=some none):∃d,P.underlying t=some d∧∀e,d≠.pointer e:=by
 obtain⟨d,hd,h1⟩:=ab h
 refine⟨d,hd,fun e he=>?_⟩
 subst he;cases h1
theorem xw{t e:TypeId}(h:yq P t=some (some e)):P.underlying t=some (.pointer e):=by
 obtain⟨d,hd,h1⟩:=ab h
 cases d<;>cases h1
 exact hd
theorem sy{E:Env}{w:World}{hp:T ak}{hb:Id→Option ak}(hH:RH E hp w)(hB:∀b k,hb b=some k→get b hp=some k){t:TypeId}{v:V}{u:Value}{name:String}{g:FuncId}{y:V}(hv:RV E v u)(h:nK P hb t v name=some (g,y))(n:Nat):
 ∃z,(method (n+1) t u name).run P w= .ok (g,z) w∧RV E y z:=by
 obtain⟨i,hi,h1⟩:=ab h
 obtain⟨m,hm,h2⟩:=ab h1
 obtain⟨fp,hfp,h3⟩:=ab h2
 obtain⟨g0,pr⟩:=fp
 rw[vO] at hm
 have hm':i.methods.find? (fun m=>m.name==name)=some m:=by rw[←Array.find?_toList];exact hm
 unfold method
 simp only[Sem.run_bind,jj hi,Result.andThen_ok,hm']
 cases hpath:m.path.toList with
 |
  nil=>
  rw[hpath] at h3
  have hem:m.path.isEmpty=true:=by
   have:m.path= #[]:=Array.ext' hpath
   rw[this];rfl
  simp only[follow,Sem.run_pure,Result.andThen_ok,hfp,Sem.run_bind,hem,if_true]
  obtain⟨e,he,h4⟩:=ab h3
  cases e with
  |
   none=>
   obtain⟨d,hd,hno⟩:=qh he
   cases pr with
   |true=>cases h4
   |
    false=>
    cases h4
    refine⟨u,?_,hv⟩
    simp only[receiverAt,Sem.run_bind,aw hd,Result.andThen_ok]
    cases d<;>first|rfl|exact absurd rfl (hno _)
  |
   some e=>
   have hd:=xw he
   cases pr with
   |
    true=>
    cases h4
    refine⟨u,?_,hv⟩
    simp only[receiverAt,Sem.run_bind,aw hd,Result.andThen_ok]
    rfl
   |false=>cases h4
 |
  cons s rest=>
  rw[hpath] at h3
  cases rest with
  |cons _ _=>cases h3
  |
   nil=>
   have hem:m.path.isEmpty=false:=by
    cases hq:m.path.isEmpty with
    |false=>rfl
    |
     true=>
     have:m.path= #[]:=by simpa using hq
     rw[this] at hpath;cases hpath
   obtain⟨hder,h4⟩:=al h3
   obtain⟨p,hp',h5⟩:=ab h4
   obtain⟨d,hd,h6⟩:=ab h5
   cases d with
   |
    struct fs=>
    obtain⟨f,hfld,h7⟩:=ab h6
    obtain⟨e,he,h8⟩:=ab h7
    obtain⟨d',hd',k1⟩:=ab hp'
    rw[hd] at hd';cases hd'
    obtain⟨f',hf',k2⟩:=ab k1
    rw[hfld] at hf';cases hf'
    obtain⟨j,hj,k3⟩:=ab k2
    obtain⟨k4,k5⟩:=al k3
    obtain⟨b,o,hve,k6⟩:=eC k5
    subst hve
    rw[cF] at k6
    cases k6
    simp only[RV] at hv
    obtain⟨gb,hgb,rfl⟩:=hv
    rw[dZ] at hfld
    have hfld':fs[s.index]? =some f:=by simpa using hfld
    have hne:¬j.size=0:=fun e=>by rw[e] at k4;cases k4
    have hfol:(follow [s] t (.val (.pointer (some ⟨gb,o,none⟩)))).run P w= .ok (f.type,.var ⟨gb,o+f.offset,none⟩) w:=by
     simp[follow,aw hd,hfld',hder,Place.get,asAddr,fieldPlace,aY hj,hne,dP]
    simp only[hfol,Sem.run_pure,Result.andThen_ok,hfp,Sem.run_bind,hem,Bool.false_eq_true,if_false]
    have hptr:RV E (.p b (Nat.add o f.offset)) (.pointer (some ⟨gb,o+f.offset,none⟩)):=by simp only[RV];exact⟨gb,hgb,rfl⟩
    cases e with
    |some e=>cases h8
    |
     none=>
     obtain⟨dt,hdt,hno⟩:=qh he
     cases pr with
     |
      true=>
      cases h8
      refine⟨_,?_,hptr⟩
      simp only[receiverAt,Sem.run_bind,aw hdt,Result.andThen_ok]
      cases dt<;>first|rfl|exact absurd rfl (hno _)
     |
      false=>
      obtain⟨z,hz,h9⟩:=ab (show(bO (dL P hb f.type (.p b (Nat.add o f.offset))) fun x=>some (g0,x))=some (g,y) from h8)
      cases h9
      obtain⟨zv,z1,z2⟩:=gG (P:=P) (w:=w) hH hB hptr hz
      refine⟨zv,?_,z2⟩
      have z1':(loadVar f.type ⟨gb,o+f.offset,none⟩).run P w= .ok zv w:=by
       simpa[Instr.loadAt,Instr.sureAddr] using z1
      simp only[receiverAt,Sem.run_bind,aw hdt,Result.andThen_ok]
      cases dt<;>first|(simp only[Place.get,z1',Result.andThen_ok];done)|exact absurd rfl (hno _)
   |_=>cases h6
theorem DW(hI:rG P gl ih)(hG:tX P gl hf){o:Oper}{sz:Nat}{tm:T V}{hp:T ak}{nx:Id}{df:V}{k:iG}{f:Operand}{name:String}{args:List Operand}{R:Rs}(hc:di P gl o.op= .inv f name args)(hd:lT sz o.dst=true)(h:G4 P hf ih o.dst tm hp nx df k f name args=some R):
 ∃tm' hp' nx' df',k tm' hp' nx' df'=some R∧js P gl o sz tm hp nx df tm' hp' nx' df':=by
 obtain⟨rv,h1,h2⟩:=ab h
 obtain⟨x,h3,h4⟩:=ab h2
 obtain⟨c,c1,c2,c3⟩:=ss hc
 subst c3
 have hnd:∀c,o.op≠.defer c:=by rw[c1];intro c hc;cases hc
 rcases mE h4 with⟨t,v,rfl,h5⟩|⟨_,h5⟩
 ·obtain⟨fx,hfx,h6⟩:=ab h5
  obtain⟨g,y⟩:=fx
  obtain⟨v',hp',nx',h7,q1,q2,q3⟩:=iW hI hG.Gg hG.hash hG.GN h6
  rw[eF] at h7
  refine⟨_,_,_,_,h7,BA hnd hd q2 ?_⟩
  intro L E a w hL hok
  left
  have hrv:=aT hok.vt h1
  simp only[RV] at hrv
  obtain⟨u,hev,hu⟩:=hrv
  have hmd:Made.depth≥1:=by decide
  obtain⟨n,hn⟩:∃n,P.types.size+Made.depth=n+1:=⟨P.types.size+(Made.depth -1),by omega⟩
  obtain⟨z,z1,z2⟩:=sy (P:=P) (w:=w) hok.vh (fun _ _ hb=>hb) hu hfx n
  have hcall:=q3 L E w (z::c.args.toList.map a.eval) hL (aQ.aG.2 ⟨_,_,rfl,z2,eE hok.vt h3⟩) hok.vh hok.vf hok.vg
  refine⟨g,_,?_,hcall⟩
  simp only[execOp,c1,resolve,c2,Sem.run_bind,Sem.run_pure,Result.andThen_ok,invoke,hev]
  have e1:(#[Value.iface t u]++c.args.map a.eval)[0]? =some (.iface t u):=by rw[Array.getElem?_append];rfl
  have e2:(#[Value.iface t u]++c.args.map a.eval).extract 1 (#[Value.iface t u]++c.args.map a.eval).size=c.args.map a.eval:=by
   apply Array.ext'
   simp
   apply List.take_of_length_le
   simp
  simp only[e1,e2,callMethod,Sem.run_bind,run_program,Result.andThen_ok]
  rw[hn,z1]
  simp only[Result.andThen_ok]
  rw[q1]
  congr 2
  apply Array.ext'
  simp
 ·cases h5
theorem DX{o:Oper}{sz:Nat}{tm:T V}{hp:T ak}{nx:Id}{df:V}{k:iG}{f:Operand}{args:List Operand}{R:Rs}(hc:di P gl o.op= .oR f args)(h:G5 o.dst tm hp nx df k f args=some R):
 ∃tm' hp' nx' df',k tm' hp' nx' df'=some R∧js P gl o sz tm hp nx df tm' hp' nx' df':=by
 obtain⟨fv,h1,h2⟩:=ab h
 obtain⟨x,h3,h4⟩:=ab h2
 obtain⟨hch,h5⟩:=al h4
 obtain⟨c,c1,c2,c3⟩:=z7 hc
 subst c3
 rcases kb h5 with⟨g,fs,cs,rfl,h6⟩|⟨_,_,h6⟩
 ·rcases cB h6 with⟨rfl,h7⟩|⟨_,_,_,h7⟩
  ·rw[eF] at h7
   refine⟨_,_,_,_,h7,Nat.le_refl _,?_⟩
   intro r L E a w hL hok hrf K Q hK
   have hrf:r=none∧RD E df a.defers:=by
    rcases hrf with hrf|⟨b,l,hb,_⟩
    ·exact hrf
    ·rw[hb] at hch;cases hch
   obtain⟨rfl,hrd⟩:=hrf
   have hfv:=aT hok.vt h1
   simp only[RV] at hfv
   obtain⟨f',c',hev,r1,r2⟩:=hfv
   have hnil:=eE hok.vt h3
   rw[aQ.da] at hnil
   have hargs:c.args.map a.eval= #[]:=by apply Array.ext';simpa using hnil
   unfold Oper.wpIn
   refine⟨fun _ _=>trivial,?_⟩
   rw[show(Fr none).round=none from rfl,Oper.semAt_none]
   have hrun:(execOp a.eval o).run P w= .ok (.defer {target:=.fn (.func g) c',args:=f'}) w:=by
    simp only[execOp,c1,resolve,c2,hev,Sem.run_bind,Deferred.ofValue,Sem.run_pure,Result.andThen_ok,hargs,Array.append_empty]
   rw[hrun]
   simp only[Oper.uponIn]
   refine hK E _ w ⟨u9 (a:={a with defers:={target:=.fn (.func g) c',args:=f'}::a.defers}) hok.vt,by rw[fX];exact hok.vs,hok.vh,hok.vf,hok.vg⟩ (Or.inl ⟨rfl,?_⟩) (Ex.refl _ _ _ _)
   rw[put_defers]
   exact⟨_,_,f',c',rfl,rfl,r1,r2,hrd⟩
  ·cases h7
 ·cases h6
theorem Gi(hI:rG P gl ih)(hG:tX P gl hf){o:Oper}{sz:Nat}{tm:T V}{hp:T ak}{nx:Id}{df:V}{k:iG}{R:Rs}(hd:lT sz o.dst=true)(h:G6 P gl hf ih o tm hp nx df k=some R):
 ∃tm' hp' nx' df',k tm' hp' nx' df'=some R∧js P gl o sz tm hp nx df tm' hp' nx' df':=by
 unfold G6 at h
 cases hc:di P gl o.op with
 |op f=>rw[hc] at h;exact FL hc hd h
 |blt b args ts=>rw[hc] at h;exact Dd hc hd h
 |val f args=>rw[hc] at h;exact DV hI hG hc hd h
 |inv r name args=>rw[hc] at h;exact DW hI hG hc hd h
 |oR f args=>rw[hc] at h;exact DX hc h
 |no=>rw[hc] at h;cases h
theorem Gj(hI:rG P gl ih)(hG:tX P gl hf){id:Nat}{ops:Array Oper}{sz:Nat}{tm:T V}{hp:T ak}{nx:Id}{df:V}{x:Xt}{tm':T V}{hp':T ak}{nx':Id}{df':V}(h:zL P gl hf ih sz ops.toList ops.toList tm hp nx df=some (.mk x tm' hp' nx' df')):
 ep P gl (.region id ops false) sz tm hp nx df x tm' hp' nx' df':=by
 obtain⟨i1,i2,i3⟩:=tD (ops:=ops) (fun o tm hp nx df k R hd hh=>Gi hI hG hd hh) ops.toList 0 rfl tm hp nx df x tm' hp' nx' df' h
 refine⟨i2,?_⟩
 intro r L E a w hL hok hrf Q hQ
 subst i1
 refine wpIn_region ?_
 have:=i3 r L E a w hL hok hrf Q hQ
 simpa using this
end
end Go.Cm
namespace Go.Cm
structure Ic(E:Env)(S:Id→Option ak)(w:World):Prop where
 bL:∀b k,S b=some k→∃g o,E.g b=some g∧w.heap[g]? =some o∧RB E b k o
 sep:∀b b' k k' g,S b=some k→S b'=some k'→E.g b=some g→E.g b'=some g→b=b'
theorem Ic.to{E:Env}{S:Id→Option ak}{w:World}(h:Ic E S w){hp:T ak}(hS:∀b k,get b hp=some k→S b=some k):RH E hp w:=
 ⟨fun b k hb=>h.bL b k (hS b k hb),fun b b' k k' g h1 h2=>h.sep b b' k k' g (hS b k h1) (hS b' k' h2)⟩
def BB(S:Id→Option ak)(E:Env)(g:Nat):Prop:=∃b k,S b=some k∧E.g b=some g
structure BC(lo hi:Nat)(S:Id→Option ak)(E:Env)(w:World)(S':Id→Option ak)(E':Env)(w':World):Prop where
 os:w'.os=w.os
 tape:Tp w w'
 output:w'.output=w.output
 size:w.heap.size≤w'.heap.size
 kept:∀g,g<w.heap.size→¬BB S E g→w'.heap[g]? =w.heap[g]?
 own:∀g,BB S' E' g→BB S E g∨w.heap.size≤g
 env:∀b,(num b<lo∨hi≤num b)→E'.g b=E.g b∧E'.n b=E.n b
theorem BC.trans{lo hi:Nat}{S S1 S2:Id→Option ak}{E E1 E2:Env}{w w1 w2:World}(h:BC lo hi S E w S1 E1 w1)(k:BC lo hi S1 E1 w1 S2 E2 w2):BC lo hi S E w S2 E2 w2 where
 os:=k.os.trans h.os
 tape:=h.tape.trans k.tape
 output:=k.output.trans h.output
 size:=Nat.le_trans h.size k.size
 kept:=fun g hg ho=>by
  rw[k.kept g (Nat.lt_of_lt_of_le hg h.size) (fun h1=>(h.own g h1).elim ho (fun h2=>by omega)),h.kept g hg ho]
 own:=fun g hg=>by
  rcases k.own g hg with h1|h1
  ·exact h.own g h1
  ·exact Or.inr (Nat.le_trans h.size h1)
 env:=fun b hb=>⟨(k.env b hb).1.trans (h.env b hb).1,(k.env b hb).2.trans (h.env b hb).2⟩
theorem BC.wide{lo hi lo' hi':Nat}{S S':Id→Option ak}{E E':Env}{w w':World}(h:BC lo hi S E w S' E' w')(h1:lo'≤lo)(h2:hi≤hi'):BC lo' hi' S E w S' E' w':=
 {h with env:=fun b hb=>h.env b (by omega)}
def GO(gl:List V)(S:Id→Option ak)(E:Env)(w:World):Prop:=
 ∀g x,eD gl g=some x→¬BB S E g∧∃l cs e fz,x= .agg l∧w.heap[g]? =some (.cells cs e fz)∧(∃xs ys,cs.toList=xs++ys∧∀E,aQ E l xs)∧l.bU=true
theorem GO.step{gl:List V}{lo hi:Nat}{S S':Id→Option ak}{E E':Env}{w w':World}(h:GO gl S E w)(x:BC lo hi S E w S' E' w'):GO gl S' E' w':=by
 intro g y hy
 obtain⟨h1,l,cs,e,fz,h2,h3,h4⟩:=h g y hy
 have hlt:g<w.heap.size:=(Array.getElem?_eq_some_iff.1 h3).1
 refine⟨fun ho=>?_,l,cs,e,fz,h2,?_,h4⟩
 ·rcases x.own g ho with h|h
  ·exact h1 h
  ·omega
 ·rw[x.kept g hlt h1];exact h3
theorem GO.to{gl:List V}{S:Id→Option ak}{E:Env}{w:World}(h:GO gl S E w){hp:T ak}(hS:∀b k,get b hp=some k→S b=some k):GL gl hp E w:=by
 intro g x hx
 obtain⟨h1,h2⟩:=h g x hx
 exact⟨fun⟨b,k,hb,hg⟩=>h1 ⟨b,k,hS b k hb,hg⟩,h2⟩
open Classical in
noncomputable def DY(h0 h1:T ak)(S:Id→Option ak)(b:Id):Option ak:=if get b h0=get b h1 then S b else get b h1
theorem ja{h0 h1:T ak}{S:Id→Option ak}(hsub:∀b k,get b h0=some k→S b=some k){b:Id}{k:ak}(h:DY h0 h1 S b=some k):get b h1=some k∨(get b h0=none∧S b=some k):=by
 unfold DY at h
 split at h
 ·rename_i e
  cases h0b:get b h0 with
  |none=>exact Or.inr ⟨rfl,h⟩
  |
   some k'=>
   have:=hsub b k' h0b
   rw[h] at this;cases this
   rw[h0b] at e
   exact Or.inl e.symm
 ·exact Or.inl h
theorem xx{h0 h1:T ak}{S:Id→Option ak}{E E':Env}{w w':World}{nx nx':Id}(hsub:∀b k,get b h0=some k→S b=some k)(H:Ic E S w)(F:bW (num nx') nx E)(H1:RH E' h1 w')(X:Ex h0 nx E w h1 nx' E' w'):
 Ic E' (DY h0 h1 S) w'∧BC (num nx) (num nx') S E w (DY h0 h1 S) E' w':=by
 have hle:E.le E':=X.le F (Nat.le_refl _)
 have ownS:∀g,Own h0 E g→BB S E g:=fun g ⟨b,k,hb,hg⟩=>⟨b,k,hsub b k hb,hg⟩
 have away:∀b k,get b h0=none→S b=some k→∃g o,E.g b=some g∧E'.g b=some g∧E'.n b=E.n b∧w'.heap[g]? =some o∧RB E b k o∧¬Own h0 E g∧g<w.heap.size:=by
  intro b k hb0 hb
  obtain⟨g,o,q1,q2,q3⟩:=H.bL b k hb
  have hlt:g<w.heap.size:=(Array.getElem?_eq_some_iff.1 q2).1
  have hno:¬Own h0 E g:=by
   rintro⟨b',k',hb',hg'⟩
   have:=H.sep b' b k' k g (hsub b' k' hb') hb hg' q1
   subst this
   rw[hb'] at hb0;cases hb0
  exact⟨g,o,q1,(hle b g q1).1,(hle b g q1).2,by rw[X.kept g hlt hno];exact q2,q3,hno,hlt⟩
 refine⟨⟨?_,?_⟩,⟨X.os,X.tape,X.output,X.size,fun g hg ho=>X.kept g hg (fun h=>ho (ownS g h)),?_,X.env⟩⟩
 ·intro b k hb
  rcases ja hsub hb with h|⟨h,h'⟩
  ·exact H1.bL b k h
  ·obtain⟨g,o,q1,q2,q3,q4,q5,_⟩:=away b k h h'
   exact⟨g,o,q2,q4,q5.mono hle q3⟩
 ·intro b b' k k' g hb hb' hg hg'
  rcases ja hsub hb with h|⟨h,h'⟩
  ·rcases ja hsub hb' with j|⟨j,j'⟩
   ·exact H1.sep b b' k k' g h j hg hg'
   ·obtain⟨g2,o,q1,q2,q3,q4,q5,q6,q7⟩:=away b' k' j j'
    rw[hg'] at q2;cases q2
    rcases X.own g ⟨b,k,h,hg⟩ with h|h
    ·exact absurd h q6
    ·omega
  ·obtain⟨g2,o,q1,q2,q3,q4,q5,q6,q7⟩:=away b k h h'
   rw[hg] at q2;cases q2
   rcases ja hsub hb' with j|⟨j,j'⟩
   ·rcases X.own g ⟨b',k',j,hg'⟩ with h|h
    ·exact absurd h q6
    ·omega
   ·obtain⟨g3,o',p1,p2,p3,p4,p5,p6,p7⟩:=away b' k' j j'
    rw[hg'] at p2;cases p2
    exact H.sep b b' k k' g h' j' q1 p1
 ·rintro g ⟨b,k,hb,hg⟩
  rcases ja hsub hb with h|⟨h,h'⟩
  ·rcases X.own g ⟨b,k,h,hg⟩ with h|h
   ·exact Or.inl (ownS g h)
   ·exact Or.inr h
  ·obtain⟨g2,o,q1,q2,q3,q4,q5,q6,q7⟩:=away b k h h'
   rw[hg] at q2;cases q2
   exact Or.inl ⟨b,k,h',q1⟩
section
variable{α β:Type}
open Classical in
noncomputable def sx(X:Nat→Bool)(C:Nat→Prop)(g:Nat→α):Nat→α
 |0=>g 0
 |n+1=>if X n=true∧C n then g (n+1) else sx X C g n
theorem yN{X:Nat→Bool}{C:Nat→Prop}{g:Nat→α}:∀N,(sx X C g N=g 0∧∀i,i<N→X i=true→¬C i)∨∃i,i<N∧X i=true∧C i∧sx X C g N=g (i+1)∧∀j,i<j→j<N→X j=true→¬C j
 |0=>Or.inl ⟨rfl,fun i hi=>by omega⟩
 |
  N+1=>by
  unfold sx
  by_cases h:X N=true∧C N
  ·rw[if_pos h]
   exact Or.inr ⟨N,by omega,h.1,h.2,rfl,fun j h1 h2=>by omega⟩
  ·rw[if_neg h]
   rcases yN (X:=X) (C:=C) (g:=g) N with⟨h1,h2⟩|⟨i,h1,h2,h3,h4,h5⟩
   ·refine Or.inl ⟨h1,fun i hi hx hc=>?_⟩
    by_cases e:i=N
    ·subst e;exact h ⟨hx,hc⟩
    ·exact h2 i (by omega) hx hc
   ·refine Or.inr ⟨i,by omega,h2,h3,h4,fun j hj hj' hx hc=>?_⟩
    by_cases e:j=N
    ·subst e;exact h ⟨hx,hc⟩
    ·exact h5 j hj (by omega) hx hc
theorem run_eq{g:Nat→β}{a:Nat}:∀{b:Nat},a≤b→(∀i,a≤i→i<b→g i=g (i+1))→g a=g b
 |0,h,_=>by
  have:a=0:=by omega
  subst this;rfl
 |
  b+1,h,k=>by
  by_cases e:a=b+1
  ·subst e;rfl
  ·rw[run_eq (b:=b) (by omega) (fun i h1 h2=>k i h1 (by omega))]
   exact k b (by omega) (by omega)
theorem pv{X:Nat→Bool}{C:Nat→Prop}{g:Nat→α}{N k:Nat}(π:α→β)(hk:X k=false)(hN:k<N)(hC:∀i,i<N→¬C i→g i=g (i+1))
 (h1:∀i,i<k→X i=false→π (g i)=π (g (i+1))) (h2:∀i,k<i→i<N→X i=true→π (g i)=π (g (i+1)))
 (h3:∀i j,j<i→i<N→X i=true→X j=false→¬(C i∧C j)):π (sx X C g N)=π (g k):=by
 rcases yN (X:=X) (C:=C) (g:=g) N with⟨e,l⟩|⟨i,i1,i2,i3,e,l⟩
 ·rw[e]
  refine run_eq (g:=fun i=>π (g i)) (Nat.zero_le _) (fun i _ hi=>?_)
  cases hx:X i with
  |true=>show π (g i)=π (g (i+1));rw[hC i (by omega) (l i (by omega) hx)]
  |false=>exact h1 i hi hx
 ·rw[e]
  by_cases hik:i<k
  ·refine run_eq (g:=fun i=>π (g i)) (a:=i+1) (b:=k) (by omega) (fun j hj hj'=>?_)
   cases hx:X j with
   |true=>show π (g j)=π (g (j+1));rw[hC j (by omega) (l j (by omega) (by omega) hx)]
   |false=>exact h1 j hj' hx
  ·have hki:k<i:=by
    rcases Nat.lt_trichotomy i k with h|h|h
    ·exact absurd h hik
    ·subst h;rw[hk] at i2;cases i2
    ·exact h
   refine(run_eq (g:=fun i=>π (g i)) (a:=k) (b:=i+1) (by omega) (fun j hj hj'=>?_)).symm
   cases hx:X j with
   |
    true=>
    have:j≠k:=fun e=>by subst e;rw[hk] at hx;cases hx
    exact h2 j (by omega) (by omega) hx
   |
    false=>
    have hji:j<i:=by
     by_cases e:j=i
     ·subst e;rw[i2] at hx;cases hx
     ·omega
    have:¬C j:=fun hc=>h3 i j hji i1 i2 hx ⟨i3,hc⟩
    show π (g j)=π (g (j+1))
    rw[hC j (by omega) this]
open Classical in
theorem qi{X:Nat→Bool}{C:Nat→Prop}{g:Nat→α}{k:Nat}(hk:X k=false):∀{N},k<N→(∀i,k<i→i<N→X i=true→¬(C i∧C k))→
 sx (fun i=>X i||i==k) C g N=if C k then g (k+1) else sx X C g N
 |
  N+1,hN,h3=>by
  by_cases e:N=k
  ·subst e
   have low:∀n,n≤N→sx (fun i=>X i||i==N) C g n=sx X C g n:=by
    intro n
    induction n with
    |zero=>intro _;rfl
    |
     succ n ih=>
     intro hn
     unfold sx
     rw[ih (by omega)]
     have:(n==N)=false:=by simp;omega
     simp only[this,Bool.or_false]
   have r:sx X C g (N+1)=sx X C g N:=by
    rw[show sx X C g (N+1)=if X N=true∧C N then g (N+1) else sx X C g N from rfl,if_neg (fun h=>by rw[hk] at h;cases h.1)]
   have l:sx (fun i=>X i||i==N) C g (N+1)=if(X N||N==N)=true∧C N then g (N+1) else sx (fun i=>X i||i==N) C g N:=rfl
   rw[r,l,low N (Nat.le_refl _)]
   by_cases hc:C N
   ·rw[if_pos ⟨by simp,hc⟩,if_pos hc]
   ·rw[if_neg (fun h=>hc h.2),if_neg hc]
  ·have ih:=qi (C:=C) (g:=g) hk (N:=N) (by omega) (fun i h1 h2 hx=>h3 i h1 (by omega) hx)
   unfold sx
   rw[ih]
   have hb:(N==k)=false:=by simp;omega
   simp only[hb,Bool.or_false]
   by_cases hx:X N=true∧C N
   ·have hck:¬C k:=fun hc=>h3 N (by omega) (by omega) hx.1 ⟨hx.2,hc⟩
    rw[if_pos hx,if_neg hck,if_pos hx]
   ·simp only[if_neg hx]
theorem xy{X:Nat→Bool}{C:Nat→Prop}{g:Nat→α}:∀{N},(∀i,i<N→X i=true)→(∀i,i<N→¬C i→g i=g (i+1))→sx X C g N=g N
 |0,_,_=>rfl
 |
  N+1,hX,hC=>by
  unfold sx
  by_cases h:X N=true∧C N
  ·rw[if_pos h]
  ·rw[if_neg h,xy (fun i hi=>hX i (by omega)) (fun i hi=>hC i (by omega))]
   exact hC N (by omega) (fun hc=>h ⟨hX N (by omega),hc⟩)
theorem tY{X:Nat→Bool}{C:Nat→Prop}{g:Nat→α}:∀{N},(∀i,i<N→X i=false)→sx X C g N=g 0
 |0,_=>rfl
 |
  N+1,hX=>by
  unfold sx
  rw[if_neg (fun h=>by rw[hX N (by omega)] at h;cases h.1),tY (fun i hi=>hX i (by omega))]
end
end Go.Cm
namespace Go.Cm
theorem aK{a b:Bool}(h:bq a b=true):a=true∧b=true:=by
 cases a with
 |true=>exact⟨rfl,h⟩
 |false=>cases h
theorem z8{a b:Bool}(h:FF a b=true):a=b:=by cases a<;>cases b<;>first|rfl|cases h
theorem kA:∀(x y:V),fB x y=some true→x=y:=by
 intro x
 induction x with
 |
  b b=>
  intro y h
  obtain⟨c,rfl,h1⟩:=cT (show(y.bool fun c=>some (FF b c))=some true from h)
  rw[z8 (Option.some.inj h1)]
 |
  i k n=>
  intro y h
  obtain⟨k',m,rfl,h1⟩:=bc (show(y.int fun k' m=>some (bq (zw k k') (zu n m)))=some true from h)
  obtain⟨a,b⟩:=aK (Option.some.inj h1)
  rw[kM] at b
  rw[iJ a,eq_of_beq b]
 |
  s l=>
  intro y h
  obtain⟨m,rfl,h1⟩:=dC (show(y.str fun m=>some (CP l m))=some true from h)
  have:CP l m=true:=Option.some.inj h1
  rw[ou] at this
  rw[of_decide_eq_true this]
 |
  p b o=>
  intro y h
  obtain⟨c,p,rfl,h1⟩:=eC (show(y.ptr fun c p=>some (bq (jT b c) (Nat.beq o p)))=some true from h)
  obtain⟨a,b⟩:=aK (Option.some.inj h1)
  rw[iE a,bK b]
 |
  sl b o l c=>
  intro y h
  rcases cP (show(y.uJ (fun b' o' l' c'=>some (bq (jT b b') (bq (Nat.beq o o') (bq (Nat.beq l l') (Nat.beq c c'))))) (fun _ _ _ _=>none) none)=some true from h) with⟨b',o',l',c',rfl,h1⟩|⟨_,_,_,_,_,h1⟩|⟨_,h1⟩
  ·obtain⟨a1,h2⟩:=aK (Option.some.inj h1)
   obtain⟨a2,h3⟩:=aK h2
   obtain⟨a3,a4⟩:=aK h3
   rw[iE a1,bK a2,bK a3,bK a4]
  ·cases h1
  ·cases h1
 |
  su b o l c=>
  intro y h
  rcases cP (show(y.uJ (fun _ _ _ _=>none) (fun b' o' l' c'=>some (bq (jT b b') (bq (Nat.beq o o') (bq (Nat.beq l l') (Nat.beq c c'))))) none)=some true from h) with⟨_,_,_,_,_,h1⟩|⟨b',o',l',c',rfl,h1⟩|⟨_,h1⟩
  ·cases h1
  ·obtain⟨a1,h2⟩:=aK (Option.some.inj h1)
   obtain⟨a2,h3⟩:=aK h2
   obtain⟨a3,a4⟩:=aK h3
   rw[iE a1,bK a2,bK a3,bK a4]
  ·cases h1
 |
  m b=>
  intro y h
  rcases nB (show(y.mp (fun c=>some (jT b c)) none)=some true from h) with⟨c,rfl,h1⟩|⟨_,h1⟩
  ·rw[iE (Option.some.inj h1)]
  ·cases h1
 |
  fn f a c ia ib=>
  intro y h
  rcases kb (show(y.CZ (fun g c' d=>bO (fB a c') fun p=>bO (fB c d) fun q=>some (bq (Nat.beq f g) (bq p q))) fun _=>none)=some true from h) with⟨g,c',d,rfl,h1⟩|⟨_,_,h1⟩
  ·obtain⟨p,p1,h2⟩:=ab h1
   obtain⟨q,q1,h3⟩:=ab h2
   obtain⟨a1,a2⟩:=aK (Option.some.inj h3)
   obtain⟨a3,a4⟩:=aK a2
   subst a3;subst a4
   rw[bK a1,ia _ p1,ib _ q1]
  ·cases h1
 |
  EE t v ih=>
  intro y h
  rcases mE (show(y.C0 (fun t' v'=>bO (fB v v') fun p=>some (bq (Nat.beq t t') p)) none)=some true from h) with⟨t',v',rfl,h1⟩|⟨_,h1⟩
  ·obtain⟨p,p1,h2⟩:=ab h1
   obtain⟨a1,a2⟩:=aK (Option.some.inj h2)
   subst a2
   rw[bK a1,ih _ p1]
  ·cases h1
 |
  agg l ih=>
  intro y h
  obtain⟨m,rfl,h1⟩:=eJ (show(y.ag (fB l))=some true from h)
  rw[ih _ h1]
 |
  nil=>
  intro y h
  rcases cB (show(y.split (some true) (fun _ _=>none) none)=some true from h) with⟨rfl,_⟩|⟨_,_,_,h1⟩
  ·rfl
  ·cases h1
 |
  cons a l ia il=>
  intro y h
  obtain⟨b,m,rfl,h1⟩:=bQ (show(y.split none (fun b m=>bO (fB a b) fun p=>bO (fB l m) fun q=>some (bq p q)) none)=some true from h)
  obtain⟨p,p1,h2⟩:=ab h1
  obtain⟨q,q1,h3⟩:=ab h2
  obtain⟨a1,a2⟩:=aK (Option.some.inj h3)
  subst a1;subst a2
  rw[ia _ p1,il _ q1]
 |yl b=>intro y h;cases h
 |
  c8 l ih=>
  intro y h
  obtain⟨m,rfl,h1⟩:=zt (show(y.tu (fB l))=some true from h)
  rw[ih _ h1]
 |un=>intro y h;cases h
 |_=>intro y h;cases y<;>first|rfl|(cases(show(some false:Option Bool)=some true from h))
theorem jb{o:Option Bool}(h:isTrue o=true):o=some true:=by
 cases o with
 |none=>cases h
 |some b=>cases(show b=true from h);rfl
theorem BD{a b:Option ak}(h:AZ a b=true):a=b:=by
 cases a with
 |
  none=>cases b with
  |none=>rfl
  |some b=>cases h
 |
  some a=>cases b with
  |none=>cases h
  |
   some b=>
   cases a with
   |
    c l e=>
    cases b with
    |c m e'=>obtain⟨h1,h2⟩:=aK (show bq (Nat.beq e e') (isTrue (fB l m))=true from h);rw[bK h1,kA _ _ (jb h2)]
    |_=>cases h
   |
    u l e=>
    cases b with
    |u m e'=>obtain⟨h1,h2⟩:=aK (show bq (Nat.beq e e') (isTrue (fB l m))=true from h);rw[bK h1,kA _ _ (jb h2)]
    |_=>cases h
   |_=>cases h
noncomputable def cl(o n:Nat)(k:Option ak):Option V:=bO k fun k=>k.cells fun l=>cA o n l
theorem BE{o n:Nat}{a b:Option ak}(h:A0 o n a b=true):cl o n a=cl o n b:=by
 obtain⟨a',rfl,h1⟩:=ab (jb h)
 obtain⟨b',rfl,h2⟩:=ab h1
 obtain⟨l,e,hl,h3⟩:=bV h2
 obtain⟨m,e',hm,h4⟩:=bV h3
 obtain⟨x,hx,h5⟩:=ab h4
 obtain⟨y,hy,h6⟩:=ab h5
 have:=kA _ _ h6
 subst this
 have q1:cl o n (some a')=some x:=by rcases hl with rfl|rfl<;>exact hx
 have q2:cl o n (some b')=some x:=by rcases hm with rfl|rfl<;>exact hy
 rw[q1,q2]
theorem gY{b:Id}:∀{l:List Id},pI b l=true↔b∈l
 |[]=>⟨fun h=>(by cases h),fun h=>(by cases h)⟩
 |
  a::l=>by
  show@Bool.rec (fun _=>Bool) (pI b l) true (jT a b)=true↔_
  cases h:jT a b with
  |true=>have:=iE h;subst this;simp
  |
   false=>
   have hne:b≠a:=fun e=>by subst e;rw[oq] at h;cases h
   show pI b l=true↔_
   rw[gY,List.mem_cons]
   exact⟨Or.inr,fun h=>h.resolve_left hne⟩
theorem jc{p:Id→Bool}:∀{l:List Id},allI p l=true→∀b∈l,p b=true
 |
  a::l,h,b,hb=>by
  obtain⟨h1,h2⟩:=aK (show bq (p a) (allI p l)=true from h)
  rcases List.mem_cons.1 hb with rfl|hb
  ·exact h1
  ·exact jc h2 b hb
theorem tZ{l m:List Id}(h:gI l m=true):∀b∈m,b∉l:=by
 intro b hb hm
 have:=jc h b hb
 rw[gY.2 hm] at this
 cases this
theorem qj{hp:T ak}{b:Id}(h:Az hp b=true):get b hp=none:=by
 unfold Az at h
 cases hg:get b hp with
 |none=>rfl
 |some k=>rw[hg] at h;cases h
theorem vP{t:Nat}:∀{l:List Nat},s9 t l=true↔t∈l
 |[]=>⟨fun h=>(by cases h),fun h=>(by cases h)⟩
 |
  a::l=>by
  show@Bool.rec (fun _=>Bool) (s9 t l) true (Nat.beq a t)=true↔_
  cases h:Nat.beq a t with
  |true=>have:=bK h;subst this;simp
  |
   false=>
   have hne:t≠a:=fun e=>by subst e;rw[Nat.beq_refl] at h;cases h
   show s9 t l=true↔_
   rw[vP,List.mem_cons]
   exact⟨Or.inr,fun h=>h.resolve_left hne⟩
noncomputable def dH(S:Id→Option ak)(l:List Id):T ak:=l.foldr (fun b t=>put (S b) b t) .e
theorem jd{S:Id→Option ak}{b:Id}:∀{l:List Id},get b (dH S l)=if b∈l then S b else none
 |[]=>by simp[dH,gw]
 |
  a::l=>by
  show get b (put (S a) a (dH S l))=_
  rw[cz,jd]
  by_cases e:b=a
  ·subst e;simp
  ·simp[e]
theorem BF{l:List Id}{hp:T ak}{b:Id}:CN l hp b=if b∈l then get b hp else none:=by
 unfold CN
 cases h:pI b l with
 |true=>rw[if_pos (gY.1 h)]
 |false=>rw[if_neg (fun hm=>by rw[gY.2 hm] at h;cases h)]
theorem z9{P:Program}{gl:List V}{o:Op}{f:C5}(hf:lS P gl o= .mk f){tm:T V}{hb hb':Id→Option ak}{nx:Id}{e:bM}{c:Id}{oo n:Nat}(hl:rD P tm o=some (c,oo,n))(h:f tm hb nx=some e)(hc:cl oo n (hb' c)=cl oo n (hb c)):f tm hb' nx=some e:=by
 cases o<;>simp only[rD] at hl<;>first|(cases hl;done)|skip
 rename_i t a
 obtain⟨v,hv,h1⟩:=ab hl
 obtain⟨b,p,rfl,h2⟩:=eC h1
 obtain⟨m,hm,h3⟩:=ab h2
 cases h3
 obtain⟨d,hd,h4⟩:=ab hm
 obtain⟨i,hi,h5⟩:=ab h4
 have key:(bO (fy tm a) fun a=>vE (dL P hb t a))=some e→(bO (fy tm a) fun a=>vE (dL P hb' t a))=some e:=by
  intro h
  rw[hv] at h ⊢
  obtain⟨r,hr,h6⟩:=ab (show vE (dL P hb t (.p c oo))=some e from h)
  cases h6
  have hr':(bO (hb c) fun k=>k.cells fun l=>bO (P.underlying t) fun d=>
   @Bool.rec (fun _=>Option V) (oZ oo l) (bO (P.info? t) fun i=>bO (cA oo i.size l) fun r=>some (.agg r)) (kN d))=some r:=hr
  obtain⟨k,hk,h7⟩:=ab hr'
  obtain⟨l,el,hl',h8⟩:=bV h7
  rw[hd] at h8
  have h9:@Bool.rec (fun _=>Option V) (oZ oo l) (bO (P.info? t) fun i=>bO (cA oo i.size l) fun r=>some (.agg r)) (kN d)=some r:=h8
  have fin:∀(l':V)(k':ak)(e':TypeId),hb' c=some k'→(k'= .c l' e'∨k'= .u l' e')→@Bool.rec (fun _=>Option V) (oZ oo l') (bO (P.info? t) fun i=>bO (cA oo i.size l') fun r=>some (.agg r)) (kN d)=some r→vE (dL P hb' t (.p c oo))=some (.v r):=by
   intro l' k' e' h1 h2 h3
   have:dL P hb' t (.p c oo)=some r:=by
    show(bO (hb' c) fun k=>k.cells fun l=>bO (P.underlying t) fun d=>
     @Bool.rec (fun _=>Option V) (oZ oo l) (bO (P.info? t) fun i=>bO (cA oo i.size l) fun r=>some (.agg r)) (kN d))=some r
    rw[h1]
    rcases h2 with rfl|rfl
    ·show(bO (P.underlying t) fun d=>@Bool.rec (fun _=>Option V) (oZ oo l') (bO (P.info? t) fun i=>bO (cA oo i.size l') fun r=>some (.agg r)) (kN d))=some r
     rw[hd];exact h3
    ·show(bO (P.underlying t) fun d=>@Bool.rec (fun _=>Option V) (oZ oo l') (bO (P.info? t) fun i=>bO (cA oo i.size l') fun r=>some (.agg r)) (kN d))=some r
     rw[hd];exact h3
   rw[this];rfl
  have hcl:cl oo n (hb c)=cA oo n l:=by
   rw[hk];rcases hl' with rfl|rfl<;>rfl
  have other:∀x,cA oo n l=some x→∃l' k' e',hb' c=some k'∧(k'= .c l' e'∨k'= .u l' e')∧cA oo n l'=some x:=by
   intro x hx
   rw[hcl,hx] at hc
   obtain⟨k',q1,q2⟩:=ab hc
   obtain⟨l',e',q3,q4⟩:=bV q2
   exact⟨l',k',e',q1,q3,q4⟩
  cases hag:kN d with
  |
   true=>
   rw[hag] at h9 h5
   cases h5
   rw[hi] at h9
   obtain⟨x,x1,x2⟩:=ab (show(bO (cA oo i.size l) fun r=>some (V.agg r))=some r from h9)
   obtain⟨l',k',e',q1,q2,q3⟩:=other x x1
   refine fin l' k' e' q1 q2 ?_
   rw[hag,hi]
   show(bO (cA oo i.size l') fun r=>some (V.agg r))=some r
   rw[q3];exact x2
  |
   false=>
   rw[hag] at h9 h5
   cases h5
   obtain⟨y,y1,y2⟩:=ab (show bO (rp oo l) (fun y=>y.split none (fun a _=>some a) none)=some r from h9)
   obtain⟨a0,m0,rfl,y3⟩:=bQ y2
   cases y3
   have hx:cA oo 1 l=some (.cons r .nil):=by
    show bO (rp oo l) (fun m=>wP 1 m)=_
    rw[y1];rfl
   obtain⟨l',k',e',q1,q2,q3⟩:=other _ hx
   refine fin l' k' e' q1 q2 ?_
   rw[hag]
   obtain⟨m',p1,p2⟩:=ab q3
   obtain⟨a1,m1,rfl,p3⟩:=bQ (show m'.split none (fun a l=>bO (wP 0 l) (fun r=>some (V.cons a r))) none=some _ from p2)
   show bO (rp oo l') (fun y=>y.split none (fun a _=>some a) none)=some r
   rw[p1]
   cases(show some (V.cons a1 .nil)=some (V.cons r .nil) from p3)
   rfl
 cases a with
 |global g=>cases hv
 |_=>cases hf;exact key h
def lH(P:Program)(gl:List V)(o:Oper)(tm:T V)(hp:T ak)(nx:Id)(v:V)(hp':T ak)(nx':Id):Prop:=
 num nx≤num nx'∧∀(r:Option Nat)(L:Nat)(E:Env)(a:Act)(w:World),num nx'≤L→RT E tm a.tmps→RH E hp w→bW L nx E→GL gl hp E w→∀(K:Act→World→Prop)(Q:Exit→Act→World→Prop),
  (∀E' u w',RV E' v u→RH E' hp' w'→bW L nx' E'→Ex hp nx E w hp' nx' E' w'→K (a.put o.dst u) w')→o.wpIn (Fr r) 0 P a w K Q
section
variable{P:Program} {gl:List V} {ih:dx} {hf:Hk}
theorem BG{o:Oper}{tm:T V}{hp:T ak}{nx:Id}{e:bM}(hnd:∀c,o.op≠.defer c)
 (h:∀L E(a:Act) w,num (e.nx nx)≤L→RT E tm a.tmps→RH E hp w→bW L nx E→GL gl hp E w→rF P L hp nx E w e (execOp a.eval o)):lH P gl o tm hp nx e.val (e.hp nx hp) (e.nx nx):=by
 refine⟨tA e nx,?_⟩
 intro r L E a w hL hT hH hF hG K Q hK
 obtain⟨n,v,w',E',h1,h2,h3,h4,h5,h6⟩:=h L E a w hL hT hH hF hG hL
 unfold Oper.wpIn
 refine⟨fun _ _=>trivial,?_⟩
 rw[Oper.semAt_eq _ _ _ hnd,h1]
 have fin:=hK E' v w' h3 h4 h5 h6
 rcases h2 with h2|⟨h2,h2'⟩
 ·subst h2;exact fin
 ·subst h2;subst h2';exact fin
theorem xz{o:Oper}{tm:T V}{hp:T ak}{nx:Id}{v:V}{hp':T ak}{nx':Id}(hnd:∀c,o.op≠.defer c)(hn:num nx≤num nx')
 (h:∀L E(a:Act) w,num nx'≤L→RT E tm a.tmps→RH E hp w→bW L nx E→GL gl hp E w→
  (∃f args,(execOp a.eval o).run P w= .ok (.enter f args) w∧CallsIn Fence.wide 0 P f args w (fun e w'=>∃u E',e= .returned u∧RV E' v u∧RH E' hp' w'∧bW L nx' E'∧Ex hp nx E w hp' nx' E' w'))∨
  (∃l fn tmps asg body,(execOp a.eval o).run P w= .ok (.round l fn tmps asg body) w∧RoundIn Fence.wide 0 P l fn tmps asg body w (fun e w'=>∃u E',e= .returned u∧RV E' v u∧RH E' hp' w'∧bW L nx' E'∧Ex hp nx E w hp' nx' E' w'))):
 lH P gl o tm hp nx v hp' nx':=by
 refine⟨hn,?_⟩
 intro r L E a w hL hT hH hF hG K Q hK
 unfold Oper.wpIn
 refine⟨fun _ _=>trivial,?_⟩
 rw[Oper.semAt_eq _ _ _ hnd]
 have post:∀(ed:Ending)(w':World),(∃u E',ed= .returned u∧RV E' v u∧RH E' hp' w'∧bW L nx' E'∧Ex hp nx E w hp' nx' E' w')→
  (match ed,w' with
   | .returned v,w''=>K (a.put o.dst v) w''
   | .panicked chain,w''=>Q (.panic chain) a w''
   | .outgrown,_=>LetsOut Q):=by
  rintro ed w' ⟨u,E',rfl,q1,q2,q3,q4⟩
  exact hK E' u w' q1 q2 q3 q4
 rcases h L E a w hL hT hH hF hG with⟨f,args,h1,h2⟩|⟨l,fn,tmps,asg,body,h1,h2⟩
 ·rw[h1]
  simp only[Oper.uponIn]
  exact⟨fun h=>(by cases h),CallsIn.mono (F:=Fr r) h2 post⟩
 ·rw[h1]
  simp only[Oper.uponIn]
  exact⟨fun h=>(by cases h),RoundIn.mono (F:=Fr r) h2 post⟩
theorem LD{o:Oper}{tm:T V}{hp:T ak}{nx:Id}{f:C5}{e:bM}(hc:di P gl o.op= .op f)(h:f tm (fun b=>get b hp) nx=some e):lH P gl o tm hp nx e.val (e.hp nx hp) (e.nx nx):=by
 obtain⟨c1,c2,c3⟩:=pO hc
 exact BG c2 (fun L E a w _ hT hH hF hG=>yx hT hH hF (fun _ _ hb=>hb) hG c1 h)
theorem JS{o:Oper}{tm:T V}{hp:T ak}{nx:Id}{b:Builtin}{args:List Operand}{ts:List TypeId}{x:V}{e:bM}(hc:di P gl o.op= .blt b args ts)(h1:iS tm args=some x)(h3:fE P (fun b=>get b hp) nx b ts x=some e):
 lH P gl o tm hp nx e.val (e.hp nx hp) (e.nx nx):=by
 obtain⟨c,c1,c2,c3,c4⟩:=sc hc
 subst c3;subst c4
 refine BG (by rw[c1];intro c hc;cases hc) ?_
 intro L E a w hL hT hH hF hG
 have hx:=eE hT h1
 have:=mF (P:=P) (ty:=o.type) (cs:=c.args.map fun| .const _=>true|_=>false) (vs:=c.args.map a.eval) hH hF (fun _ _ hb=>hb) (by simpa using hx) h3
 intro hL'
 obtain⟨n,v,w',E',g1,g2⟩:=this hL'
 refine⟨n,v,w',E',?_,g2⟩
 simp only[execOp,c1,resolve,c2,Sem.run_bind,Sem.run_pure,Result.andThen_ok,invoke]
 exact g1
theorem JT(hI:rG P gl ih)(hG:tX P gl hf){o:Oper}{tm:T V}{hp:T ak}{nx:Id}{f:Operand}{args:List Operand}{fv x:V}{k:V→T ak→Id→Option Rs}{R:Rs}(hc:di P gl o.op= .val f args)(h1:fy tm f=some fv)(h3:iS tm args=some x)(h4:uT P hf ih fv x hp nx k=some R):
 ∃v hp' nx',k v hp' nx'=some R∧lH P gl o tm hp nx v hp' nx':=by
 obtain⟨c,c1,c2,c3⟩:=sr hc
 subst c3
 have hnd:∀c,o.op≠.defer c:=by rw[c1];intro c hc;cases hc
 rcases kb h4 with⟨g,fs,cs,rfl,h5⟩|⟨b,rfl,h5⟩
 ·rw[kL] at h5
  obtain⟨v,hp',nx',h6,q1,q2,q3⟩:=iW hI hG.Gg hG.hash hG.GN h5
  refine⟨_,_,_,h6,xz hnd q2 ?_⟩
  intro L E a w hL hT hH hF hGl
  left
  have hfv:=aT hT h1
  simp only[RV] at hfv
  obtain⟨f',c',hev,r1,r2⟩:=hfv
  have hv:=r1.app ((eE hT h3).app r2)
  have hcall:=q3 L E w _ hL hv hH hF hGl
  refine⟨g,_,?_,hcall⟩
  simp only[execOp,c1,resolve,c2,hev,Sem.run_bind,Deferred.ofValue,Sem.run_pure,Result.andThen_ok,invoke]
  rw[q1]
  congr 2
  apply Array.ext'
  simp
 ·obtain⟨v,hp',nx',h6,q2,q3⟩:=sd hI h5
  refine⟨_,_,_,h6,xz hnd q2 ?_⟩
  intro L E a w hL hT hH hF hGl
  right
  have hfv:=aT hT h1
  simp only[RV] at hfv
  obtain⟨l,hg,hev⟩:=hfv
  obtain⟨fn,tmps,asg,body,y1,y2⟩:=q3 L E w _ l hL (eE hT h3) hH hF hGl hg
  refine⟨l,fn,tmps,asg,body,?_,y2⟩
  simp only[execOp,c1,resolve,c2,hev,Sem.run_bind,Deferred.ofValue,Sem.run_pure,Result.andThen_ok,invoke,Array.empty_append]
  have:(c.args.toList.map a.eval).toArray=c.args.map a.eval:=by apply Array.ext';simp
  rw[←this];exact y1
theorem JU(hI:rG P gl ih)(hG:tX P gl hf){o:Oper}{tm:T V}{hp:T ak}{nx:Id}{f:Operand}{name:String}{args:List Operand}{rv x:V}{k:V→T ak→Id→Option Rs}{R:Rs}(hc:di P gl o.op= .inv f name args)(h1:fy tm f=some rv)(h3:iS tm args=some x)
 (h4:(rv.C0 (fun t v=>bO (nK P (fun b=>get b hp) t v name) fun fx=>iT P hf ih (iU P ih) fx.1 (.cons fx.2 x) hp nx k) none)=some R):
 ∃v hp' nx',k v hp' nx'=some R∧lH P gl o tm hp nx v hp' nx':=by
 obtain⟨c,c1,c2,c3⟩:=ss hc
 subst c3
 have hnd:∀c,o.op≠.defer c:=by rw[c1];intro c hc;cases hc
 rcases mE h4 with⟨t,v,rfl,h5⟩|⟨_,h5⟩
 ·obtain⟨fx,hfx,h6⟩:=ab h5
  obtain⟨g,y⟩:=fx
  obtain⟨v',hp',nx',h7,q1,q2,q3⟩:=iW hI hG.Gg hG.hash hG.GN h6
  refine⟨_,_,_,h7,xz hnd q2 ?_⟩
  intro L E a w hL hT hH hF hGl
  left
  have hrv:=aT hT h1
  simp only[RV] at hrv
  obtain⟨u,hev,hu⟩:=hrv
  have hmd:Made.depth≥1:=by decide
  obtain⟨n,hn⟩:∃n,P.types.size+Made.depth=n+1:=⟨P.types.size+(Made.depth -1),by omega⟩
  obtain⟨z,z1,z2⟩:=sy (P:=P) (w:=w) hH (fun _ _ hb=>hb) hu hfx n
  have hcall:=q3 L E w (z::c.args.toList.map a.eval) hL (aQ.aG.2 ⟨_,_,rfl,z2,eE hT h3⟩) hH hF hGl
  refine⟨g,_,?_,hcall⟩
  simp only[execOp,c1,resolve,c2,Sem.run_bind,Sem.run_pure,Result.andThen_ok,invoke,hev]
  have e1:(#[Value.iface t u]++c.args.map a.eval)[0]? =some (.iface t u):=by rw[Array.getElem?_append];rfl
  have e2:(#[Value.iface t u]++c.args.map a.eval).extract 1 (#[Value.iface t u]++c.args.map a.eval).size=c.args.map a.eval:=by
   apply Array.ext'
   simp
   apply List.take_of_length_le
   simp
  simp only[e1,e2,callMethod,Sem.run_bind,run_program,Result.andThen_ok]
  rw[hn,z1]
  simp only[Result.andThen_ok]
  rw[q1]
  congr 2
  apply Array.ext'
  simp
 ·cases h5
end
end Go.Cm
namespace Go.Cm
theorem qk:∀(l:List Oper)(acc:List Nat),fe l acc=Abs.nU l acc
 |[],_=>rfl
 |_o::l,_acc=>qk l _
theorem sA(acc:List Nat):∀(l:List Edge)(s k:Nat),s.testBit k=true→(l.foldl (fun s e=>if Region.binds .any e then s ||| 2^e.on ||| acc.getD e.on 0 else s) s).testBit k=true
 |[],s,k,h=>h
 |
  e::l,s,k,h=>by
  refine sA acc l _ k ?_
  simp only
  split
  ·simp[Nat.testBit_or,h]
  ·exact h
theorem vQ(acc:List Nat):∀(l:List Edge)(s:Nat),∀e∈l,Region.binds .any e=true→(l.foldl (fun s e=>if Region.binds .any e then s ||| 2^e.on ||| acc.getD e.on 0 else s) s).testBit e.on=true
 |[],s,e,he,hb=>absurd he (by simp)
 |
  x::l,s,e,he,hb=>by
  rcases List.mem_cons.1 he with rfl|he
  ·refine sA acc l _ _ ?_
   simp only[hb,if_true,Nat.testBit_or,Nat.testBit_two_pow_self,Bool.or_true,Bool.true_or]
  ·exact vQ acc l _ e he hb
theorem sB:∀(l:List Oper)(acc:List Nat)(j:Nat)(o:Oper),l[j]? =some o→∀e∈o.after.toList,Region.binds .any e=true→((fe l acc).getD (acc.length+j) 0).testBit e.on=true
 |[],acc,j,o',h,e,he,hb=>by simp at h
 |
  o::l,acc,0,o',h,e,he,hb=>by
  simp only[List.getElem?_cons_zero,Option.some.injEq] at h
  subst h
  show((fe l (acc++[tg acc o])).getD (acc.length+0) 0).testBit e.on=true
  have key:∀(l:List Oper)(acc:List Nat)(n:Nat),n<acc.length→(fe l acc).getD n 0=acc.getD n 0:=by
   intro l
   induction l with
   |nil=>intro acc n _;rfl
   |
    cons o l ih=>
    intro acc n hn
    show(fe l (acc++[tg acc o])).getD n 0=_
    rw[ih _ n (by simp;omega),List.getD_eq_getElem?_getD,List.getD_eq_getElem?_getD,List.getElem?_append_left hn]
  rw[key l _ _ (by simp),List.getD_eq_getElem?_getD,List.getElem?_append_right (by omega)]
  simp only[Nat.add_zero,Nat.sub_self,List.getElem?_cons_zero,Option.getD_some]
  exact vQ acc _ 0 e he hb
 |
  o::l,acc,j+1,o',h,e,he,hb=>by
  have:=sB l (acc++[tg acc o]) j o' (by simpa using h) e he hb
  rw[List.length_append,List.length_singleton,show acc.length+1+j=acc.length+(j+1) from by omega] at this
  exact this
structure BH(all:List Oper)(pl:List Pe):Prop where
 at_:∀(j:Nat) p,pl[j]? =some p→all[p.i]? =some p.o∧p.m=(fe all []).getD p.i 0∧p.ts=G9 all p.o.guard (G7 p.o)
 JV:∀i,i<all.length→∃(j:Nat)(p:Pe),pl[j]? =some p∧p.i=i
 inj:∀(j j':Nat) p p',pl[j]? =some p→pl[j']? =some p'→p.i=p'.i→j=j'
 sep:∀(i j:Nat) p q,i<j→pl[i]? =some p→pl[j]? =some q→q.m.testBit p.i=true∨jr p q=true
 ext:∀(j:Nat) p,pl[j]? =some p→∀i,p.m.testBit i=true→∃(j':Nat)(p':Pe),j'<j∧pl[j']? =some p'∧p'.i=i
theorem mY{p:Pe}:∀{l:List Pe},kR p l=true→∀a∈l,p.m.testBit a.i=true∨jr a p=true
 |[],h,b,hb=>absurd hb (by simp)
 |
  a::l,h,b,hb=>by
  obtain⟨h1,h2⟩:=aK (show bq (@Bool.rec (fun _=>Bool) (jr a p) true (Nat.testBit p.m a.i)) (kR p l)=true from h)
  rcases List.mem_cons.1 hb with rfl|hb
  ·cases hm:Nat.testBit p.m b.i with
   |true=>exact Or.inl rfl
   |false=>rw[hm] at h1;exact Or.inr h1
  ·exact mY h2 b hb
theorem vR{all:List Oper}{ms:List Nat}:∀{ord:List Nat}{done:Nat}{acc pl:List Pe},A3 all ms ord done acc=some pl→(∀i,done.testBit i=true↔∃a∈acc,a.i=i)→
 (∀p∈pl,all[p.i]? =some p.o∧p.m=ms.getD p.i 0∧p.ts=G9 all p.o.guard (G7 p.o))∧(∀i,i<all.length→(∃a∈acc,a.i=i)∨∃p∈pl,p.i=i)∧
 (∀p∈pl,∀a∈acc,p.i≠a.i)∧(∀(j j':Nat) p p',pl[j]? =some p→pl[j']? =some p'→p.i=p'.i→j=j')∧
 (∀p∈pl,∀a∈acc,p.m.testBit a.i=true∨jr a p=true)∧(∀(i j:Nat) p q,i<j→pl[i]? =some p→pl[j]? =some q→q.m.testBit p.i=true∨jr p q=true)∧
 (∀(j:Nat) p,pl[j]? =some p→∀i,p.m.testBit i=true→(∃a∈acc,a.i=i)∨∃(j':Nat)(p':Pe),j'<j∧pl[j']? =some p'∧p'.i=i)
 |
  [],done,acc,pl,h,hd=>by
  obtain⟨h1,h2⟩:=al (show bF (Nat.beq done (Nat.sub (Nat.pow 2 (my all)) 1)) (some [])=some pl from h)
  cases h2
  have hdn:done=2^all.length -1:=by rw[im] at h1;exact bK h1
  refine⟨fun p hp=>(by cases hp),fun i hi=>Or.inl ((hd i).1 ?_),fun p hp=>(by cases hp),fun j j' p p' hp=>(by simp at hp),fun p hp=>(by cases hp),fun i j p q _ hp=>(by simp at hp),fun j p hp=>(by simp at hp)⟩
  rw[hdn,Nat.testBit_two_pow_sub_one]
  exact decide_eq_true hi
 |
  i::ord,done,acc,pl,h,hd=>by
  obtain⟨p,hp,h1⟩:=ab (show(bO (Hb all ms i) fun p=>bF (Nat.beq (Nat.land p.m done) p.m) (bF (dr (Nat.testBit done i)) (bF (kR p acc) (bO (A3 all ms ord (Nat.lor done (Nat.pow 2 i)) (p::acc)) fun l=>some (p::l)))))=some pl from h)
  obtain⟨hl,h2⟩:=al h1
  obtain⟨hn,h3⟩:=al h2
  obtain⟨ht,h4⟩:=al h3
  obtain⟨l,hl',h5⟩:=ab h4
  cases h5
  obtain⟨o,ho,h6⟩:=ab hp
  cases h6
  rw[dZ] at ho
  have hn':done.testBit i=false:=by rw[fu] at hn;simpa using hn
  have hland:∀k,(ms.getD i 0).testBit k=true→done.testBit k=true:=by
   intro k hk
   have e:Nat.land (ms.getD i 0) done=ms.getD i 0:=bK hl
   have:(ms.getD i 0 &&& done).testBit k=true:=by
    show(Nat.land (ms.getD i 0) done).testBit k=true
    rw[e];exact hk
   rw[Nat.testBit_and] at this
   simp only[Bool.and_eq_true] at this
   exact this.2
  have hd':∀k,(Nat.lor done (Nat.pow 2 i)).testBit k=true↔∃a∈(⟨i,o,ms.getD i 0,G9 all o.guard (G7 o)⟩:Pe)::acc,a.i=k:=by
   intro k
   show(done ||| 2^i).testBit k=true↔_
   rw[Nat.testBit_or,Nat.testBit_two_pow,Bool.or_eq_true,hd k]
   constructor
   ·rintro(⟨a,h1,h2⟩|h)
    ·exact⟨a,List.mem_cons_of_mem _ h1,h2⟩
    ·exact⟨_,List.mem_cons_self ..,of_decide_eq_true h⟩
   ·rintro⟨a,h1,h2⟩
    rcases List.mem_cons.1 h1 with rfl|h1
    ·exact Or.inr (decide_eq_true h2)
    ·exact Or.inl ⟨a,h1,h2⟩
  obtain⟨i1,i2,i3,i4,i5,i6,i7⟩:=vR hl' hd'
  refine⟨?_,?_,?_,?_,?_,?_,?_⟩
  ·intro p hp
   rcases List.mem_cons.1 hp with rfl|hp
   ·exact⟨ho,rfl,rfl⟩
   ·exact i1 p hp
  ·intro k hk
   rcases i2 k hk with⟨a,h1,h2⟩|⟨p,h1,h2⟩
   ·rcases List.mem_cons.1 h1 with rfl|h1
    ·exact Or.inr ⟨_,List.mem_cons_self ..,h2⟩
    ·exact Or.inl ⟨a,h1,h2⟩
   ·exact Or.inr ⟨p,List.mem_cons_of_mem _ h1,h2⟩
  ·intro p hp a ha
   rcases List.mem_cons.1 hp with rfl|hp
   ·intro e
    have:=(hd i).2 ⟨a,ha,e.symm⟩
    rw[hn'] at this;cases this
   ·exact i3 p hp a (List.mem_cons_of_mem _ ha)
  ·intro j j' p p' hj hj' e
   cases j with
   |
    zero=>
    cases j' with
    |zero=>rfl
    |
     succ j'=>
     simp only[List.getElem?_cons_zero,Option.some.injEq] at hj
     subst hj
     exact absurd e.symm (i3 p' (List.mem_of_getElem? (by simpa using hj')) _ (List.mem_cons_self ..))
   |
    succ j=>
    cases j' with
    |
     zero=>
     simp only[List.getElem?_cons_zero,Option.some.injEq] at hj'
     subst hj'
     exact absurd e (i3 p (List.mem_of_getElem? (by simpa using hj)) _ (List.mem_cons_self ..))
    |succ j'=>rw[i4 j j' p p' (by simpa using hj) (by simpa using hj') e]
  ·intro p hp a ha
   rcases List.mem_cons.1 hp with rfl|hp
   ·exact mY ht a ha
   ·exact i5 p hp a (List.mem_cons_of_mem _ ha)
  ·intro a b p q hab hp hq
   cases b with
   |zero=>omega
   |
    succ b=>
    cases a with
    |
     zero=>
     simp only[List.getElem?_cons_zero,Option.some.injEq] at hp
     subst hp
     exact i5 q (List.mem_of_getElem? (by simpa using hq)) _ (List.mem_cons_self ..)
    |succ a=>exact i6 a b p q (by omega) (by simpa using hp) (by simpa using hq)
  ·intro j p hj k hk
   cases j with
   |
    zero=>
    simp only[List.getElem?_cons_zero,Option.some.injEq] at hj
    subst hj
    exact Or.inl ((hd k).1 (hland k hk))
   |
    succ j=>
    rcases i7 j p (by simpa using hj) k hk with⟨a,h1,h2⟩|⟨j',p',h1,h2,h3⟩
    ·rcases List.mem_cons.1 h1 with rfl|h1
     ·exact Or.inr ⟨0,_,by omega,rfl,h2⟩
     ·exact Or.inl ⟨a,h1,h2⟩
    ·exact Or.inr ⟨j'+1,p',by omega,by simpa using h2,h3⟩
theorem Aa{all:List Oper}{pl:List Pe}(h:xb all=some pl):BH all pl:=by
 obtain⟨h1,h2,h3,h4,h5,h6,h7⟩:=vR h (fun i=>by simp)
 refine⟨fun j p hp=>h1 p (List.mem_of_getElem? hp),?_,h4,h6,?_⟩
 ·intro i hi
  rcases h2 i hi with⟨a,ha,_⟩|⟨p,hp,e⟩
  ·cases ha
  ·obtain⟨j,hj⟩:=List.getElem?_of_mem hp
   exact⟨j,p,hj,e⟩
 ·intro j p hj k hk
  rcases h7 j p hj k hk with⟨a,ha,_⟩|h
  ·cases ha
  ·exact h
theorem BI(tm:T V):∀(ts:List Tmp),∃m l,(∀{β:Type}(k:T V→List Id→β),uI tm ts k=k m l)∧∀t x,get t m=some x→(∃n∈ts,t=aN n)∧get t tm=some x
 |[]=>⟨.e,[],fun _=>rfl,fun t x h=>by rw[gw] at h;cases h⟩
 |
  t::ts=>by
  obtain⟨m,l,h1,h2⟩:=BI tm ts
  cases hg:get (aN t) tm with
  |
   none=>
   refine⟨m,l,fun k=>?_,fun u x hu=>?_⟩
   ·show(uI tm ts fun m l=>@Option.rec V (fun _=>_) (k m l) (fun v=>dD (some v) (aN t) m fun m=>k m (IJ v l)) (get (aN t) tm))=_
    rw[h1,hg]
   ·obtain⟨⟨n,q1,q2⟩,q3⟩:=h2 u x hu
    exact⟨⟨n,List.mem_cons_of_mem _ q1,q2⟩,q3⟩
  |
   some v=>
   refine⟨put (some v) (aN t) m,IJ v l,fun k=>?_,fun u x hu=>?_⟩
   ·show(uI tm ts fun m l=>@Option.rec V (fun _=>_) (k m l) (fun v=>dD (some v) (aN t) m fun m=>k m (IJ v l)) (get (aN t) tm))=_
    rw[h1,hg]
    exact cj _ _ _ _
   ·rw[cz] at hu
    split at hu
    ·rename_i e;subst e;cases hu
     exact⟨⟨t,List.mem_cons_self ..,rfl⟩,hg⟩
    ·obtain⟨⟨n,q1,q2⟩,q3⟩:=h2 u x hu
     exact⟨⟨n,List.mem_cons_of_mem _ q1,q2⟩,q3⟩
theorem Ab{all:List Oper}{tm:T V}{g:Option (Nat×Bool)}{wt:Bool}(h:want all tm g=some wt)(l:List Tmp):
 ∃m,(∀t x,get t m=some x→(∃n∈G9 all g l,t=aN n)∧get t tm=some x)∧want all m g=some wt:=by
 cases g with
 |none=>exact⟨.e,⟨fun t x hx=>(by rw[gw] at hx;cases hx),h⟩⟩
 |
  some p=>
  obtain⟨o,h1,h2⟩:=ab (show(bO (eD all p.1) fun o=>bO o.dst fun d=>bO (get (aN d) tm) fun v=>v.bool fun b=>some (@Bool.rec (fun _=>Bool) (dr p.2) p.2 b))=some wt from h)
  obtain⟨d,h3,h4⟩:=ab h2
  obtain⟨v,h5,h6⟩:=ab h4
  refine⟨put (some v) (aN d) .e,fun t x hx=>?_,?_⟩
  ·rw[cz] at hx
   split at hx
   ·rename_i e;subst e;cases hx
    refine⟨⟨d,?_,rfl⟩,h5⟩
    show d∈@Option.rec Oper (fun _=>List Tmp) l (fun o=>@Option.rec Tmp (fun _=>List Tmp) l (fun t=>t::l) o.dst) (eD all p.1)
    rw[h1]
    show d∈@Option.rec Tmp (fun _=>List Tmp) l (fun t=>t::l) o.dst
    rw[h3]
    exact List.mem_cons_self ..
   ·rw[gw] at hx;cases hx
  ·show(bO (eD all p.1) fun o=>bO o.dst fun d'=>bO (get (aN d') (put (some v) (aN d) .e)) fun v=>v.bool fun b=>some (@Bool.rec (fun _=>Bool) (dr p.2) p.2 b))=some wt
   rw[h1]
   show(bO o.dst fun d'=>bO (get (aN d') (put (some v) (aN d) .e)) fun v=>v.bool fun b=>some (@Bool.rec (fun _=>Bool) (dr p.2) p.2 b))=some wt
   rw[h3]
   show(bO (get (aN d) (put (some v) (aN d) .e)) fun v=>v.bool fun b=>some (@Bool.rec (fun _=>Bool) (dr p.2) p.2 b))=some wt
   rw[bJ]
   exact h6
def At(P:Program)(gl:List V)(all:List Oper)(sz:Nat)(p:Pe)(tm:T V)(hp:T ak)(nx:Id)(tm':T V)(hp':T ak)(nx':Id)(rc:Rc):Prop:=
 lT sz p.o.dst=true∧∃wt,want all tm p.o.guard=some wt∧
  (
   (wt=false∧tm'=AA p.o.dst none tm∧hp'=hp∧nx'=nx∧rc= .pl p.i [] [] none)∨
   (
    wt=true∧∃tmr v,(∀t x,get t tmr=some x→(∃n∈p.ts,t=aN n)∧get t tm=some x)∧tm'=AA p.o.dst (some v) tm∧
    (
     (∃ids lc e,rc= .pl p.i ids (fF e nx) lc∧v=e.val∧hp'=e.hp nx hp∧nx'=e.nx nx∧oB e ids=true∧
      ∀S:Id→Option ak,(∀c∈ids,S c=get c hp∨∃o n,lc=some (c,o,n)∧cl o n (S c)=cl o n (get c hp))→lH P gl p.o tmr (dH S ids) nx e.val (e.hp nx (dH S ids)) (e.nx nx))∨
     (rc= .cl p.i hp hp'∧lH P gl p.o tmr hp nx v hp' nx'))))
def l5(m:Nat)(a b:Rc):Prop:=m.testBit (EU a)=true∨indep a b=true
theorem fZ{m:Nat}{r:Rc}:∀{l:List Rc},cU m r l=true→∀a∈l,l5 m a r
 |[],h,b,hb=>absurd hb (by simp)
 |
  a::l,h,b,hb=>by
  obtain⟨h1,h2⟩:=aK (show bq (@Bool.rec (fun _=>Bool) (indep a r) true (Nat.testBit m (EU a))) (cU m r l)=true from h)
  rcases List.mem_cons.1 hb with rfl|hb
  ·cases hm:Nat.testBit m (EU b) with
   |true=>exact Or.inl hm
   |false=>rw[hm] at h1;exact Or.inr h1
  ·exact fZ h2 b hb
theorem vS{p:Id→Bool}:∀{l:List Id},(∀b,p b=true)→allI p l=true
 |[],_=>rfl
 |a::l,h=>by show bq (p a) (allI p l)=true;rw[h a,vS h];rfl
theorem Ac{a:Rc}{i:Nat}{lc:Option (Id×Nat×Nat)}:indep a (.pl i [] [] lc)=true:=by
 cases a with
 |
  pl j rd wr lc'=>
  show bq (gI wr []) (bq (gI wr []) (gI [] rd))=true
  have:gI [] rd=true:=vS (fun b=>rfl)
  rw[this];rfl
 |cl j h0 h1=>rfl
section
variable{P:Program} {gl:List V} {ih:dx} {hf:Hk}
theorem Gk{β:Type}(o:Op)(ids:List Id)(k:List Id→β):∃l,IK o ids k=k l:=by
 unfold IK
 cases Hc o with
 |false=>exact⟨[],rfl⟩
 |true=>exact⟨ids,rfl⟩
theorem sC{S:Id→Option ak}{hp:T ak}{ids:List Id}(h:∀c∈ids,S c=get c hp):(fun b=>get b (dH S ids))=CN ids hp:=by
 funext b
 rw[jd,BF]
 split
 ·rename_i hb;exact h b hb
 ·rfl
theorem BJ{p:Pe}{tmr:T V}{hp:T ak}{nx:Id}{ids:List Id}{f:C5}{e:bM}(hc:di P gl p.o.op= .op f)(h:f tmr (CN ids hp) nx=some e)(S:Id→Option ak)
 (hS:∀c∈ids,S c=get c hp∨∃o n,rD P tmr p.o.op=some (c,o,n)∧cl o n (S c)=cl o n (get c hp)):lH P gl p.o tmr (dH S ids) nx e.val (e.hp nx (dH S ids)) (e.nx nx):=by
 refine LD hc ?_
 obtain⟨c1,_,_⟩:=pO hc
 by_cases hl:∃c o n,rD P tmr p.o.op=some (c,o,n)∧c∈ids∧cl o n (S c)=cl o n (get c hp)
 ·obtain⟨c,o,n,q1,q2,q3⟩:=hl
  refine z9 c1 q1 h ?_
  rw[jd,BF,if_pos q2,if_pos q2];exact q3
 ·have:∀c∈ids,S c=get c hp:=by
   intro c hcm
   rcases hS c hcm with h|⟨o,n,q1,q2⟩
   ·exact h
   ·exact absurd ⟨c,o,n,q1,hcm,q2⟩ hl
  rw[sC this];exact h
theorem ql(hI:rG P gl ih)(hG:tX P gl hf){sz:Nat}{all:List Oper}:∀{pl:List Pe}{rs:List Rc}{tm:T V}{hp:T ak}{nx:Id}{df:V}{x:Xt}{tm':T V}{hp':T ak}{nx':Id}{df':V},
 mD P gl hf ih sz all pl rs tm hp nx df=some (.mk x tm' hp' nx' df')→x= .iF∧df'=df∧∃(tmf:Nat→T V)(hpf:Nat→T ak)(nxf:Nat→Id)(rcf:Nat→Rc),
  tmf 0=tm∧hpf 0=hp∧nxf 0=nx∧tmf pl.length=tm'∧hpf pl.length=hp'∧nxf pl.length=nx'∧
  ∀(j:Nat) p,pl[j]? =some p→At P gl all sz p (tmf j) (hpf j) (nxf j) (tmf (j+1)) (hpf (j+1)) (nxf (j+1)) (rcf j)∧EU (rcf j)=p.i∧(∀r∈rs,l5 p.m r (rcf j))∧∀i,i<j→l5 p.m (rcf i) (rcf j)
 |
  [],rs,tm,hp,nx,df,x,tm',hp',nx',df',h=>by
  cases(show some (Rs.mk .iF tm hp nx df)=some (.mk x tm' hp' nx' df') from h)
  exact⟨rfl,rfl,fun _=>tm,fun _=>hp,fun _=>nx,fun _=>.pl 0 [] [] none,rfl,rfl,rfl,rfl,rfl,rfl,fun j p hp=>by simp at hp⟩
 |
  p::pl,rs,tm,hp,nx,df,x,tm',hp',nx',df',h=>by
  obtain⟨hd,h1⟩:=al (show bF (lT sz p.o.dst) (bO (want all tm p.o.guard) fun w=>@Bool.rec (fun _=>Option Rs)
   (gz p.o.dst none tm fun tm=>mD P gl hf ih sz all pl (.pl p.i [] [] none::rs) tm hp nx df)
   (uI tm p.ts fun tmr ids0=>IK p.o.op ids0 fun ids=>@FK.casesOn (fun _=>Option Rs) (di P gl p.o.op)
    (fun f=>bO (f tmr (CN ids hp) nx) fun e=>bF (oB e ids) (bF (cU p.m (.pl p.i ids (fF e nx) (rD P tmr p.o.op)) rs) (nJ e p.o.dst tm hp nx df (mD P gl hf ih sz all pl (.pl p.i ids (fF e nx) (rD P tmr p.o.op)::rs)))))
    (fun b args ts=>bO (iS tmr args) fun a=>bO (fE P (CN ids hp) nx b ts a) fun e=>bF (oB e ids) (bF (cU p.m (.pl p.i ids (fF e nx) none) rs) (nJ e p.o.dst tm hp nx df (mD P gl hf ih sz all pl (.pl p.i ids (fF e nx) none::rs)))))
    (fun f args=>bO (fy tmr f) fun fv=>bO (iS tmr args) fun a=>uT P hf ih fv a hp nx fun v du eo=>bF (cU p.m (.cl p.i hp du) rs) (gz p.o.dst (some v) tm fun tm=>mD P gl hf ih sz all pl (.cl p.i hp du::rs) tm du eo df))
    (fun r name args=>bO (fy tmr r) fun r=>bO (iS tmr args) fun a=>r.C0 (fun t v=>bO (nK P (fun b=>get b hp) t v name) fun fx=>iT P hf ih (iU P ih) fx.1 (.cons fx.2 a) hp nx fun v du eo=>bF (cU p.m (.cl p.i hp du) rs) (gz p.o.dst (some v) tm fun tm=>mD P gl hf ih sz all pl (.cl p.i hp du::rs) tm du eo df)) none)
    (fun _ _=>none) none) w)=some (.mk x tm' hp' nx' df') from h)
  obtain⟨wt,hw,h2⟩:=ab h1
  have step:∀(rc:Rc)(jZ:T V)(du:T ak)(eo:Id),EU rc=p.i→At P gl all sz p tm hp nx jZ du eo rc→(∀r∈rs,l5 p.m r rc)→mD P gl hf ih sz all pl (rc::rs) jZ du eo df=some (.mk x tm' hp' nx' df')→
   x= .iF∧df'=df∧∃(tmf:Nat→T V)(hpf:Nat→T ak)(nxf:Nat→Id)(rcf:Nat→Rc),
    tmf 0=tm∧hpf 0=hp∧nxf 0=nx∧tmf (p::pl).length=tm'∧hpf (p::pl).length=hp'∧nxf (p::pl).length=nx'∧
    ∀(j:Nat) q,(p::pl)[j]? =some q→At P gl all sz q (tmf j) (hpf j) (nxf j) (tmf (j+1)) (hpf (j+1)) (nxf (j+1)) (rcf j)∧EU (rcf j)=q.i∧(∀r∈rs,l5 q.m r (rcf j))∧∀i,i<j→l5 q.m (rcf i) (rcf j):=by
   intro rc jZ du eo hrc hat hind hrest
   obtain⟨e1,e2,tmf,hpf,nxf,rcf,a1,a2,a3,a4,a5,a6,a7⟩:=ql hI hG hrest
   refine⟨e1,e2,fun n=>Nat.casesOn n tm tmf,fun n=>Nat.casesOn n hp hpf,fun n=>Nat.casesOn n nx nxf,fun n=>Nat.casesOn n rc rcf,rfl,rfl,rfl,a4,a5,a6,?_⟩
   intro j q hj
   cases j with
   |
    zero=>
    simp only[List.getElem?_cons_zero,Option.some.injEq] at hj
    subst hj
    refine⟨?_,hrc,hind,fun i hi=>by omega⟩
    show At P gl all sz p tm hp nx (tmf 0) (hpf 0) (nxf 0) rc
    rw[a1,a2,a3];exact hat
   |
    succ j=>
    obtain⟨b1,b2,b3,b4⟩:=a7 j q (by simpa using hj)
    refine⟨b1,b2,fun r hr=>b3 r (List.mem_cons_of_mem _ hr),fun i hi=>?_⟩
    cases i with
    |zero=>exact b3 rc (List.mem_cons_self ..)
    |succ i=>exact b4 i (by omega)
  cases wt with
  |
   false=>
   have h3:gz p.o.dst none tm (fun tm=>mD P gl hf ih sz all pl (.pl p.i [] [] none::rs) tm hp nx df)=some (.mk x tm' hp' nx' df'):=h2
   rw[eF] at h3
   exact step _ _ _ _ rfl ⟨hd,false,hw,Or.inl ⟨rfl,rfl,rfl,rfl,rfl⟩⟩ (fun r _=>Or.inr Ac) h3
  |
   true=>
   obtain⟨tmr,ids0,hR,hsub⟩:=BI tm p.ts
   have h3:=h2
   simp only[hR] at h3
   obtain⟨ids,hids⟩:=Gk p.o.op ids0 (fun ids=>@FK.casesOn (fun _=>Option Rs) (di P gl p.o.op)
    (fun f=>bO (f tmr (CN ids hp) nx) fun e=>bF (oB e ids) (bF (cU p.m (.pl p.i ids (fF e nx) (rD P tmr p.o.op)) rs) (nJ e p.o.dst tm hp nx df (mD P gl hf ih sz all pl (.pl p.i ids (fF e nx) (rD P tmr p.o.op)::rs)))))
    (fun b args ts=>bO (iS tmr args) fun a=>bO (fE P (CN ids hp) nx b ts a) fun e=>bF (oB e ids) (bF (cU p.m (.pl p.i ids (fF e nx) none) rs) (nJ e p.o.dst tm hp nx df (mD P gl hf ih sz all pl (.pl p.i ids (fF e nx) none::rs)))))
    (fun f args=>bO (fy tmr f) fun fv=>bO (iS tmr args) fun a=>uT P hf ih fv a hp nx fun v du eo=>bF (cU p.m (.cl p.i hp du) rs) (gz p.o.dst (some v) tm fun tm=>mD P gl hf ih sz all pl (.cl p.i hp du::rs) tm du eo df))
    (fun r name args=>bO (fy tmr r) fun r=>bO (iS tmr args) fun a=>r.C0 (fun t v=>bO (nK P (fun b=>get b hp) t v name) fun fx=>iT P hf ih (iU P ih) fx.1 (.cons fx.2 a) hp nx fun v du eo=>bF (cU p.m (.cl p.i hp du) rs) (gz p.o.dst (some v) tm fun tm=>mD P gl hf ih sz all pl (.cl p.i hp du::rs) tm du eo df)) none)
    (fun _ _=>none) none)
   rw[hids] at h3
   cases hc:di P gl p.o.op with
   |
    op f=>
    rw[hc] at h3
    obtain⟨e,h4,h5⟩:=ab h3
    obtain⟨hin,h6⟩:=al h5
    obtain⟨hind,h7⟩:=al h6
    exact step _ _ _ _ rfl ⟨hd,true,hw,Or.inr ⟨rfl,tmr,e.val,hsub,rfl,Or.inl ⟨ids,_,e,rfl,rfl,rfl,rfl,hin,fun S hS=>BJ hc h4 S hS⟩⟩⟩ (fun r hr=>fZ hind r hr) (kS h7)
   |
    blt b args ts=>
    rw[hc] at h3
    obtain⟨a,h4,h5⟩:=ab h3
    obtain⟨e,h6,h7⟩:=ab h5
    obtain⟨hin,h8⟩:=al h7
    obtain⟨hind,h9⟩:=al h8
    refine step _ _ _ _ rfl ⟨hd,true,hw,Or.inr ⟨rfl,tmr,e.val,hsub,rfl,Or.inl ⟨ids,none,e,rfl,rfl,rfl,rfl,hin,fun S hS=>JS hc h4 ?_⟩⟩⟩ (fun r hr=>fZ hind r hr) (kS h9)
    have:∀c∈ids,S c=get c hp:=by
     intro c hcm
     rcases hS c hcm with h|⟨o,n,q1,_⟩
     ·exact h
     ·cases q1
    rw[sC this];exact h6
   |
    val f args=>
    rw[hc] at h3
    obtain⟨fv,h4,h5⟩:=ab h3
    obtain⟨a,h6,h7⟩:=ab h5
    obtain⟨v,du,eo,h8,hst⟩:=JT hI hG hc h4 h6 h7
    obtain⟨hind,h9⟩:=al h8
    rw[eF] at h9
    exact step _ _ _ _ rfl ⟨hd,true,hw,Or.inr ⟨rfl,tmr,v,hsub,rfl,Or.inr ⟨rfl,hst⟩⟩⟩ (fun r hr=>fZ hind r hr) h9
   |
    inv r name args=>
    rw[hc] at h3
    obtain⟨rv,h4,h5⟩:=ab h3
    obtain⟨a,h6,h7⟩:=ab h5
    obtain⟨v,du,eo,h8,hst⟩:=JU hI hG hc h4 h6 h7
    obtain⟨hind,h9⟩:=al h8
    rw[eF] at h9
    exact step _ _ _ _ rfl ⟨hd,true,hw,Or.inr ⟨rfl,tmr,v,hsub,rfl,Or.inr ⟨rfl,hst⟩⟩⟩ (fun r hr=>fZ hind r hr) h9
   |oR f args=>rw[hc] at h3;cases h3
   |no=>rw[hc] at h3;cases h3
end
end Go.Cm
namespace Go.Cm
theorem BK{e:bM}{ids:List Id}{nx:Id}(h:oB e ids=true):∀b∈fF e nx,b∈ids∨(b=nx∧∀hp,∃k,get b (e.hp nx hp)=some k):=by
 intro b hb
 cases e with
 |v x=>cases hb
 |
  nw x k=>
  have:b=nx:=by simpa[fF] using hb
  subst this
  exact Or.inr ⟨rfl,fun hp=>⟨k,bJ _ _ _⟩⟩
 |
  ch x c k=>
  have:b=c:=by simpa[fF] using hb
  subst this
  exact Or.inl (gY.1 h)
 |
  mv x c k=>
  have:b=c∨b=nx:=by simpa[fF] using hb
  rcases this with rfl|rfl
  ·exact Or.inl (gY.1 h)
  ·exact Or.inr ⟨rfl,fun hp=>⟨k,bJ _ _ _⟩⟩
theorem sD{e:bM}{nx b:Id}(h:b∉fF e nx)(hp:T ak):get b (e.hp nx hp)=get b hp:=by
 cases e with
 |v x=>rfl
 |nw x k=>exact fK _ (by simpa[fF] using h) _
 |ch x c k=>exact fK _ (by simpa[fF] using h) _
 |
  mv x c k=>
  have h:¬b=c∧¬b=nx:=by simpa[fF] using h
  show get b (put (some k) nx (put none c hp))=_
  rw[fK _ h.2,fK _ h.1]
theorem BL{e:bM}{nx b:Id}(h:b∈fF e nx)(hp ov:T ak):get b (e.hp nx hp)=get b (e.hp nx ov):=by
 cases e with
 |v x=>cases h
 |
  nw x k=>
  have:b=nx:=by simpa[fF] using h
  subst this
  show get b (put (some k) b hp)=get b (put (some k) b ov)
  rw[bJ,bJ]
 |
  ch x c k=>
  have:b=c:=by simpa[fF] using h
  subst this
  show get b (put (some k) b hp)=get b (put (some k) b ov)
  rw[bJ,bJ]
 |
  mv x c k=>
  have h:b=c∨b=nx:=by simpa[fF] using h
  show get b (put (some k) nx (put none c hp))=get b (put (some k) nx (put none c ov))
  rw[cz,cz (q:=b) (p:=nx)]
  split
  ·rfl
  ·rename_i hne
   have:b=c:=h.resolve_right hne
   subst this
   rw[bJ,bJ]
def CB(rc:Rc)(b:Id):Prop:=
 match rc with
 | .pl _ _ wr _=>b∈wr
 | .cl _ h0 h1=>get b h0≠get b h1
def CT(p:Pe)(t:Id):Prop:=∃d,p.o.dst=some d∧t=aN d
theorem sE{d:Option Tmp}{v:Option V}{tm:T V}{t:Id}(h:¬∃n,d=some n∧t=aN n):get t (AA d v tm)=get t tm:=by
 cases d with
 |none=>rfl
 |some n=>exact fK _ (fun e=>h ⟨n,rfl,e⟩) _
section
variable{P:Program} {gl:List V} {all:List Oper} {sz:Nat} {p:Pe} {tm tm':T V} {hp hp':T ak} {nx nx':Id} {rc:Rc}
theorem At.cb(h:At P gl all sz p tm hp nx tm' hp' nx' rc){b:Id}(hb:¬CB rc b):get b hp=get b hp':=by
 obtain⟨_,wt,_,⟨_,_,rfl,_,_⟩|⟨_,tmr,v,_,_,⟨ids,lc,e,rfl,_,rfl,_,_,_⟩|⟨rfl,_⟩⟩⟩:=h
 ·rfl
 ·exact(sD hb hp).symm
 ·exact Classical.not_not.1 hb
theorem At.ct(h:At P gl all sz p tm hp nx tm' hp' nx' rc){t:Id}(ht:¬CT p t):get t tm=get t tm':=by
 obtain⟨_,wt,_,⟨_,rfl,_⟩|⟨_,tmr,v,_,rfl,_⟩⟩:=h
 ·exact(sE ht).symm
 ·exact(sE ht).symm
theorem At.E7(h:At P gl all sz p tm hp nx tm' hp' nx' rc):num nx≤num nx':=by
 obtain⟨_,wt,_,⟨_,_,_,rfl,_⟩|⟨_,tmr,v,_,_,⟨ids,lc,e,_,_,_,rfl,_,_⟩|⟨_,h⟩⟩⟩:=h
 ·exact Nat.le_refl _
 ·exact tA e nx
 ·exact h.1
end
theorem DZ{a b:Rc}(h:indep a b=true)(c:Id):¬(CB a c∧CB b c):=by
 rintro⟨ha,hb⟩
 cases a with
 |
  pl i rd wr lc=>
  cases b with
  |
   pl j rd' wr' lc'=>
   obtain⟨_,h2⟩:=aK (show bq (gI wr rd') (bq (gI wr wr') (gI wr' rd))=true from h)
   exact tZ (aK h2).1 c hb ha
  |
   cl j h0 h1=>
   obtain⟨h2,_⟩:=aK (show bq (allI (fun c=>bq (Az h0 c) (Az h1 c)) wr) (allI (nL lc h0 h1) rd)=true from h)
   obtain⟨q1,q2⟩:=aK (jc h2 c ha)
   exact hb ((qj q1).trans (qj q2).symm)
 |
  cl i h0 h1=>
  cases b with
  |
   pl j rd wr lc=>
   obtain⟨h2,_⟩:=aK (show bq (allI (fun c=>bq (Az h0 c) (Az h1 c)) wr) (allI (nL lc h0 h1) rd)=true from h)
   obtain⟨q1,q2⟩:=aK (jc h2 c hb)
   exact ha ((qj q1).trans (qj q2).symm)
  |cl j h0' h1'=>cases h
theorem qm{a b:Rc}(h:indep a b=true):indep b a=true:=by
 cases a with
 |
  pl i rd wr lc=>
  cases b with
  |
   pl j rd' wr' lc'=>
   obtain⟨h1,h2⟩:=aK (show bq (gI wr rd') (bq (gI wr wr') (gI wr' rd))=true from h)
   obtain⟨h3,h4⟩:=aK h2
   have sw:gI wr' wr=true:=by
    have:∀l,(∀b∈l,b∉wr')→gI wr' l=true:=by
     intro l
     induction l with
     |nil=>intro _;rfl
     |
      cons x l ih=>
      intro hl
      show bq (dr (pI x wr')) (gI wr' l)=true
      rw[ih (fun b hb=>hl b (List.mem_cons_of_mem _ hb))]
      have:pI x wr'=false:=by
       cases hm:pI x wr' with
       |false=>rfl
       |true=>exact absurd (gY.1 hm) (hl x (List.mem_cons_self ..))
      rw[this];rfl
    exact this wr (fun b hb hm=>tZ h3 b hm hb)
   show bq (gI wr' rd) (bq (gI wr' wr) (gI wr rd'))=true
   rw[h1,h4,sw];rfl
  |cl j h0 h1=>exact h
 |
  cl i h0 h1=>
  cases b with
  |pl j rd wr lc=>exact h
  |cl j h0' h1'=>cases h
theorem D0{i j:Nat}{rd wr:List Id}{lc:Option (Id×Nat×Nat)}{h0 h1:T ak}(h:indep (.cl i h0 h1) (.pl j rd wr lc)=true){c:Id}(hc:c∈rd):get c h0=get c h1∨∃o n,lc=some (c,o,n)∧cl o n (get c h0)=cl o n (get c h1):=by
 obtain⟨_,h2⟩:=aK (show bq (allI (fun c=>bq (Az h0 c) (Az h1 c)) wr) (allI (nL lc h0 h1) rd)=true from h)
 have:=jc h2 c hc
 unfold nL at this
 cases hb:AZ (get c h0) (get c h1) with
 |true=>exact Or.inl (BD hb)
 |
  false=>
  rw[hb] at this
  cases lc with
  |none=>cases this
  |
   some q=>
   obtain⟨d,o,n⟩:=q
   obtain⟨q1,q2⟩:=aK (show bq (jT d c) (A0 o n (get c h0) (get c h1))=true from this)
   have:=iE q1;subst this
   exact Or.inr ⟨o,n,rfl,BE q2⟩
theorem BM{i j:Nat}{rd wr rd' wr':List Id}{lc lc':Option (Id×Nat×Nat)}(h:indep (.pl i rd wr lc) (.pl j rd' wr' lc')=true){c:Id}(hc:c∈rd'):c∉wr:=by
 obtain⟨h1,_⟩:=aK (show bq (gI wr rd') (bq (gI wr wr') (gI wr' rd))=true from h)
 exact tZ h1 c hc
theorem Ad{i j:Nat}{rd wr:List Id}{lc:Option (Id×Nat×Nat)}{h0 h1:T ak}(h:indep (.pl i rd wr lc) (.cl j h0 h1)=true){c:Id}{k:ak}(hc:get c h0=some k):c∉wr:=by
 obtain⟨h2,_⟩:=aK (show bq (allI (fun c=>bq (Az h0 c) (Az h1 c)) wr) (allI (nL lc h0 h1) rd)=true from h)
 intro hw
 have:=qj (aK (jc h2 c hw)).1
 rw[hc] at this;cases this
theorem n6{a b:Pe}(h:jr a b=true):(∀d,a.o.dst=some d→d∉b.ts)∧(∀d,b.o.dst=some d→d∉a.ts)∧∀d,a.o.dst=some d→b.o.dst≠some d:=by
 obtain⟨h1,h2⟩:=aK (show bq (dr (sa a.o.dst b.ts)) (bq (dr (sa b.o.dst a.ts)) (dr (A2 a.o.dst b.o.dst)))=true from h)
 obtain⟨h3,h4⟩:=aK h2
 have key:∀(d:Option Tmp)(l:List Tmp),dr (sa d l)=true→∀t,d=some t→t∉l:=by
  intro d l h t ht hm
  subst ht
  have:sa (some t) l=true:=vP.2 hm
  rw[this] at h;cases h
 refine⟨key _ _ h1,key _ _ h3,fun d hd he=>?_⟩
 rw[hd,he] at h4
 have:A2 (some d) (some d)=true:=Nat.beq_refl d
 rw[this] at h4;cases h4
section
variable{P:Program} {gl:List V} {ops:Array Oper} {sz:Nat} {pl:List Pe} {tmf:Nat→T V} {hpf:Nat→T ak} {nxf:Nat→Id} {rcf:Nat→Rc}
structure Tr(P:Program)(gl:List V)(ops:Array Oper)(sz:Nat)(pl:List Pe)(tmf:Nat→T V)(hpf:Nat→T ak)(nxf:Nat→Id)(rcf:Nat→Rc):Prop where
 qn:BH ops.toList pl
 at_:∀(j:Nat) p,pl[j]? =some p→At P gl ops.toList sz p (tmf j) (hpf j) (nxf j) (tmf (j+1)) (hpf (j+1)) (nxf (j+1)) (rcf j)
 ri:∀(j:Nat) p,pl[j]? =some p→EU (rcf j)=p.i
 ind:∀(j:Nat) p,pl[j]? =some p→∀i,i<j→l5 p.m (rcf i) (rcf j)
def aO(pl:List Pe)(listed:Array Bool)(j:Nat):Bool:=match pl[j]? with
 |some p=>listed.getD p.i false
 |none=>false
noncomputable def SH(hpf:Nat→T ak)(rcf:Nat→Rc)(N:Nat)(X:Nat→Bool)(b:Id):Option ak:=sx X (fun j=>CB (rcf j) b) (fun j=>get b (hpf j)) N
def BN(pl:List Pe)(j:Nat)(t:Id):Prop:=∃p,pl[j]? =some p∧CT p t
noncomputable def ST(tmf:Nat→T V)(pl:List Pe)(N:Nat)(X:Nat→Bool)(t:Id):Option V:=sx X (fun j=>BN pl j t) (fun j=>get t (tmf j)) N
theorem Tr.hC(h:Tr P gl ops sz pl tmf hpf nxf rcf){b:Id}{i:Nat}(hi:i<pl.length)(hb:¬CB (rcf i) b):get b (hpf i)=get b (hpf (i+1)):=
 (h.at_ i pl[i] (by simp[hi])).cb hb
theorem Tr.tC(h:Tr P gl ops sz pl tmf hpf nxf rcf){t:Id}{i:Nat}(hi:i<pl.length)(ht:¬BN pl i t):get t (tmf i)=get t (tmf (i+1)):=
 (h.at_ i pl[i] (by simp[hi])).ct (fun hc=>ht ⟨pl[i],by simp[hi],hc⟩)
def qo(ops:Array Oper)(listed:Array Bool):Prop:=∀j o,ops[j]? =some o→listed.getD j false=true→∀e∈o.after.toList,Region.binds .any e=true→listed.getD e.on false=true
theorem vT{listed:Array Bool}(hcl:qo ops listed){i k:Nat}(hi:listed.getD i false=true)(hk:((fe ops.toList []).getD i 0).testBit k=true):listed.getD k false=true:=by
 rw[qk] at hk
 refine Abs.kV (X:=fun x=>listed.getD x false) ops.toList [] (fun j k _ h=>by simp at h) ?_ i k hi hk
 intro j o ho hj e he hb
 simp only[List.length_nil,Nat.zero_add] at hj
 exact hcl j o (by simpa using ho) hj e he hb
theorem xA{listed:Array Bool}(hcl:qo ops listed){i k:Nat}{o:Oper}(ho:ops[i]? =some o)(hpre:∀e∈o.after.toList,Region.binds .any e=true→listed.getD e.on false=true)(hki:k≠i)(hk:((fe ops.toList []).getD i 0).testBit k=true):listed.getD k false=true:=by
 rw[qk] at hk
 have:=Abs.kV (X:=fun x=>listed.getD x false||x==i) ops.toList [] (fun j k _ h=>by simp at h) (by
  intro j o' ho' hj e he hb
  simp only[List.length_nil,Nat.zero_add,Bool.or_eq_true,beq_iff_eq] at hj ⊢
  rcases hj with hj|hj
  ·exact Or.inl (hcl j o' (by simpa using ho') hj e he hb)
  ·subst hj
   have:o'=o:=by
    have h2:ops[j]? =some o':=by simpa using ho'
    rw[ho] at h2;cases h2;rfl
   subst this
   exact Or.inl (hpre e he hb)) i k (by simp) hk
 simp only[Bool.or_eq_true,beq_iff_eq] at this
 exact this.resolve_right hki
theorem vU(h:Tr P gl ops sz pl tmf hpf nxf rcf){listed:Array Bool}(hcl:qo ops listed){k:Nat}{p:Pe}(hk:pl[k]? =some p){o:Oper}(ho:ops[p.i]? =some o)(hun:listed.getD p.i false=false)(hpre:∀e∈o.after.toList,Region.binds .any e=true→listed.getD e.on false=true):
 (∀n∈p.ts,ST tmf pl pl.length (aO pl listed) (aN n)=get (aN n) (tmf k))∧
 (∀i id rd wr lc,rcf k= .pl id rd wr lc→i∈rd→SH hpf rcf pl.length (aO pl listed) i=get i (hpf k)∨∃o n,lc=some (i,o,n)∧cl o n (SH hpf rcf pl.length (aO pl listed) i)=cl o n (get i (hpf k)))∧
 (∀b kk id h0 h1,rcf k= .cl id h0 h1→h0=hpf k→get b (hpf k)=some kk→SH hpf rcf pl.length (aO pl listed) b=some kk)∧
 (∀b i,k<i→i<pl.length→aO pl listed i=true→¬(CB (rcf i) b∧CB (rcf k) b))∧
 (∀t i,k<i→i<pl.length→aO pl listed i=true→¬(BN pl i t∧BN pl k t)):=by
 have hkN:k<pl.length:=(List.getElem?_eq_some_iff.1 hk).1
 have hXk:aO pl listed k=false:=by simp only[aO,hk];exact hun
 have at':∀i,i<pl.length→∃q,pl[i]? =some q:=fun i hi=>⟨pl[i],by simp[hi]⟩
 have dn:∀i q,pl[i]? =some q→aO pl listed i=listed.getD q.i false:=fun i q hq=>by simp only[aO,hq]
 have early:∀i q,i<k→pl[i]? =some q→aO pl listed i=false→p.m.testBit q.i=false:=by
  intro i q hik hq hx
  cases hm:p.m.testBit q.i with
  |false=>rfl
  |
   true=>
   rw[dn i q hq] at hx
   rw[(h.qn.at_ k p hk).2.1] at hm
   have:=xA hcl ho hpre (fun e=>by have:=h.qn.inj i k q p hq hk e;omega) hm
   rw[this] at hx;cases hx
 have late:∀i j q r,pl[i]? =some q→pl[j]? =some r→aO pl listed i=true→aO pl listed j=false→q.m.testBit r.i=false:=by
  intro i j q r hq hr hx hy
  cases hm:q.m.testBit r.i with
  |false=>rfl
  |
   true=>
   rw[dn i q hq] at hx
   rw[dn j r hr] at hy
   rw[(h.qn.at_ i q hq).2.1] at hm
   have:=vT hcl hx hm
   rw[this] at hy;cases hy
 have indE:∀i,i<k→aO pl listed i=false→indep (rcf i) (rcf k)=true:=by
  intro i hi hx
  obtain⟨q,hq⟩:=at' i (by omega)
  rcases h.ind k p hk i hi with h1|h1
  ·rw[h.ri i q hq,early i q hi hq hx] at h1;cases h1
  ·exact h1
 have indL:∀i j,j<i→i<pl.length→aO pl listed i=true→aO pl listed j=false→indep (rcf j) (rcf i)=true:=by
  intro i j hji hi hx hy
  obtain⟨q,hq⟩:=at' i hi
  obtain⟨r,hr⟩:=at' j (by omega)
  rcases h.ind i q hq j hji with h1|h1
  ·rw[h.ri j r hr,late i j q r hq hr hx hy] at h1;cases h1
  ·exact h1
 have sepE:∀i q,i<k→pl[i]? =some q→aO pl listed i=false→jr q p=true:=by
  intro i q hi hq hx
  rcases h.qn.sep i k q p hi hq hk with h1|h1
  ·rw[early i q hi hq hx] at h1;cases h1
  ·exact h1
 have sepL:∀i j q r,j<i→pl[i]? =some q→pl[j]? =some r→aO pl listed i=true→aO pl listed j=false→jr r q=true:=by
  intro i j q r hji hq hr hx hy
  rcases h.qn.sep j i r q hji hr hq with h1|h1
  ·rw[late i j q r hq hr hx hy] at h1;cases h1
  ·exact h1
 have a3:∀b i j,j<i→i<pl.length→aO pl listed i=true→aO pl listed j=false→¬(CB (rcf i) b∧CB (rcf j) b):=
  fun b i j hji hi hx hy hh=>DZ (indL i j hji hi hx hy) b ⟨hh.2,hh.1⟩
 have t3:∀t i j,j<i→i<pl.length→aO pl listed i=true→aO pl listed j=false→¬(BN pl i t∧BN pl j t):=by
  rintro t i j hji hi hx hy ⟨⟨q,hq,d,hd,he⟩,⟨r,hr,d',hd',he'⟩⟩
  have hdd:d=d':=by rw[←cO d,←cO d',←he,←he']
  subst hdd
  exact(n6 (sepL i j q r hji hq hr hx hy)).2.2 d hd' hd
 refine⟨?_,?_,?_,fun b i h1 h2 h3=>a3 b i k h1 h2 h3 hXk,fun t i h1 h2 h3=>t3 t i k h1 h2 h3 hXk⟩
 ·intro n hn
  refine pv (fun x=>x) hXk hkN (fun i hi hc=>h.tC hi hc) ?_ ?_ (fun i j hji hi hx hy=>t3 _ i j hji hi hx hy)
  ·intro i hi hx
   refine h.tC (by omega) ?_
   rintro⟨q,hq,d,hd,he⟩
   have:n=d:=by rw[←cO n,←cO d,he]
   subst this
   exact(n6 (sepE i q hi hq hx)).1 n hd hn
  ·intro i hki hi hx
   refine h.tC hi ?_
   rintro⟨q,hq,d,hd,he⟩
   have:n=d:=by rw[←cO n,←cO d,he]
   subst this
   exact(n6 (sepL i k q p hki hq hk hx hXk)).2.1 n hd hn
 ·intro c id rd wr lc hrc hcr
  have one:∀i,i<pl.length→indep (rcf i) (rcf k)=true→get c (hpf i)=get c (hpf (i+1))∨∃o n,lc=some (c,o,n)∧cl o n (get c (hpf i))=cl o n (get c (hpf (i+1))):=by
   intro i hi hind
   obtain⟨q,hq⟩:=at' i hi
   have hat:=h.at_ i q hq
   rw[hrc] at hind
   cases hri:rcf i with
   |
    pl id' rd' wr' lc'=>
    rw[hri] at hind hat
    exact Or.inl (hat.cb (b:=c) (BM hind hcr))
   |
    cl id' h0 h1=>
    rw[hri] at hind hat
    obtain⟨_,wt,_,⟨_,_,_,_,e⟩|⟨_,tmr,v,_,_,⟨ids,lc',e',e,_⟩|⟨e,_⟩⟩⟩:=hat
    ·cases e
    ·cases e
    ·cases e;exact D0 hind hcr
  have stepE:∀i,i<k→aO pl listed i=false→indep (rcf i) (rcf k)=true:=indE
  have stepL:∀i,k<i→i<pl.length→aO pl listed i=true→indep (rcf i) (rcf k)=true:=fun i hki hi hx=>qm (indL i k hki hi hx hXk)
  by_cases hl:∃o n,lc=some (c,o,n)
  ·obtain⟨o,n,hl⟩:=hl
   refine Or.inr ⟨o,n,hl,?_⟩
   have pi:∀i,i<pl.length→indep (rcf i) (rcf k)=true→cl o n (get c (hpf i))=cl o n (get c (hpf (i+1))):=by
    intro i hi hind
    rcases one i hi hind with e|⟨o',n',e1,e2⟩
    ·rw[e]
    ·rw[hl] at e1;cases e1;exact e2
   exact pv (cl o n) hXk hkN (fun i hi hc=>h.hC hi hc) (fun i hi hx=>pi i (by omega) (stepE i hi hx)) (fun i hki hi hx=>pi i hi (stepL i hki hi hx)) (fun i j hji hi hx hy=>a3 _ i j hji hi hx hy)
  ·refine Or.inl ?_
   have pi:∀i,i<pl.length→indep (rcf i) (rcf k)=true→get c (hpf i)=get c (hpf (i+1)):=by
    intro i hi hind
    rcases one i hi hind with e|⟨o',n',e1,e2⟩
    ·exact e
    ·exact absurd ⟨o',n',e1⟩ hl
   exact pv (fun x=>x) hXk hkN (fun i hi hc=>h.hC hi hc) (fun i hi hx=>pi i (by omega) (stepE i hi hx)) (fun i hki hi hx=>pi i hi (stepL i hki hi hx)) (fun i j hji hi hx hy=>a3 _ i j hji hi hx hy)
 ·intro b kk id h0 h1 hrc hh0 hb
  subst hh0
  have pi:∀i,i<pl.length→indep (rcf i) (rcf k)=true→get b (hpf i)=get b (hpf (i+1)):=by
   intro i hi hind
   rw[hrc] at hind
   refine h.hC hi ?_
   cases hri:rcf i with
   |pl id' rd' wr' lc'=>rw[hri] at hind;exact Ad hind hb
   |cl id' h0 h1=>rw[hri] at hind;cases hind
  rw[←hb]
  exact pv (fun x=>x) hXk hkN (fun i hi hc=>h.hC hi hc) (fun i hi hx=>pi i (by omega) (indE i hi hx)) (fun i hki hi hx=>pi i hi (qm (indL i k hki hi hx hXk))) (fun i j hji hi hx hy=>a3 _ i j hji hi hx hy)
structure Inv(gl:List V)(sz L:Nat)(r:Option Nat)(df:V)(pl:List Pe)(tmf:Nat→T V)(hpf:Nat→T ak)(nxf:Nat→Id)(rcf:Nat→Rc)(X:Nat→Bool)(E:Env)(a:Act)(w:World):Prop where
 vt:∀t x,ST tmf pl pl.length X t=some x→∃u,a.tmps[num t]? =some u∧RV E x u
 vs:sz≤a.tmps.size
 vh:Ic E (SH hpf rcf pl.length X) w
 vg:GO gl (SH hpf rcf pl.length X) E w
 vf:∀j,j<pl.length→X j=false→bW (num (nxf (j+1))) (nxf j) E
 vl:bW L (nxf pl.length) E
 rf:RF r E df a.defers
theorem mZ(h:Tr P gl ops sz pl tmf hpf nxf rcf):∀{i j:Nat},i≤j→j≤pl.length→num (nxf i)≤num (nxf j)
 |i,0,h1,_=>by
  have:i=0:=by omega
  subst this;exact Nat.le_refl _
 |
  i,j+1,h1,h2=>by
  by_cases e:i=j+1
  ·subst e;exact Nat.le_refl _
  ·exact Nat.le_trans (mZ h (i:=i) (j:=j) (by omega) (by omega)) (h.at_ j pl[j] (by simp)).E7
theorem Gl(
 h:Tr P gl ops sz pl tmf hpf nxf rcf) {r:Option Nat} {L:Nat} {df:V} {Q:Exit→Act→World→Prop} (_hL:num (nxf pl.length)≤L):
 ∀(fuel:Nat)(listed:Array Bool),listed.size=ops.size→Abs.fo listed≤fuel→qo ops listed→
  ∀{E:Env}{a:Act}{w:World},Inv gl sz L r df pl tmf hpf nxf rcf (aO pl listed) E a w→
   (∀E' a' w',Ok gl L sz (tmf pl.length) (hpf pl.length) (nxf pl.length) E' a' w'→RF r E' df a'.defers→BC (num (nxf 0)) (num (nxf pl.length)) (SH hpf rcf pl.length (aO pl listed)) E w (fun b=>get b (hpf pl.length)) E' w'→Q .normal a' w')→
   wpAnyIn (Fr r) 0 P .any ops Q fuel listed a w:=by
 have hpi:∀(j:Nat) p,pl[j]? =some p→ops[p.i]? =some p.o:=fun j p hj=>by simpa using(h.qn.at_ j p hj).1
 have done:∀listed:Array Bool,listed.size=ops.size→Region.ready .any ops listed= []→∀k,k<pl.length→aO pl listed k=true:=by
  intro listed hs hr
  have key:∀n k,k<n→k<pl.length→aO pl listed k=true:=by
   intro n
   induction n with
   |zero=>intro k hk;omega
   |
    succ n ih=>
    intro k hk hkN
    have hq:pl[k]? =some pl[k]:=by simp[hkN]
    cases hl:aO pl listed k with
    |true=>rfl
    |
     false=>
     exfalso
     have ho:=hpi k _ hq
     have hlt:pl[k].i<ops.size:=(Array.getElem?_eq_some_iff.1 ho).1
     have hm:pl[k].i∈Region.ready .any ops listed:=by
      rw[mem_ready]
      refine⟨?_,pl[k].o,ho,?_⟩
      ·simp only[aO,hq] at hl
       simp[hs▸hlt] at hl ⊢;exact hl
      ·intro e he hb
       have hm:=sB ops.toList [] pl[k].i pl[k].o (by simpa using ho) e (by simpa using he) hb
       simp only[List.length_nil,Nat.zero_add] at hm
       rw[←(h.qn.at_ k _ hq).2.1] at hm
       obtain⟨j',p',q1,q2,q3⟩:=h.qn.ext k _ hq _ hm
       have:=ih j' (by omega) (by omega)
       simp only[aO,q2] at this
       rw[←q3];exact this
     rw[hr] at hm;cases hm
  exact fun k hk=>key (k+1) k (by omega) hk
 have fin:∀(listed:Array Bool){E:Env}{a:Act}{w:World},(∀k,k<pl.length→aO pl listed k=true)→Inv gl sz L r df pl tmf hpf nxf rcf (aO pl listed) E a w→
  (∀E' a' w',Ok gl L sz (tmf pl.length) (hpf pl.length) (nxf pl.length) E' a' w'→RF r E' df a'.defers→BC (num (nxf 0)) (num (nxf pl.length)) (SH hpf rcf pl.length (aO pl listed)) E w (fun b=>get b (hpf pl.length)) E' w'→Q .normal a' w')→Q .normal a w:=by
  intro listed E a w hd hi hq
  have e1:SH hpf rcf pl.length (aO pl listed)=fun b=>get b (hpf pl.length):=by
   funext b
   exact xy hd (fun i hi hc=>h.hC hi hc)
  have e2:∀t,ST tmf pl pl.length (aO pl listed) t=get t (tmf pl.length):=fun t=>xy hd (fun i hi hc=>h.tC hi hc)
  have hi':=hi
  rw[e1] at hq
  refine hq E a w ⟨?_,hi.vs,?_,hi.vl,?_⟩ hi.rf ⟨rfl,Tp.r rfl rfl,rfl,Nat.le_refl _,fun _ _ _=>rfl,fun _ h=>Or.inl h,fun _ _=>⟨rfl,rfl⟩⟩
  ·intro t x hx
   exact hi.vt t x (by rw[e2];exact hx)
  ·have:=hi.vh
   rw[e1] at this
   exact this.to (fun _ _ h=>h)
  ·have:=hi.vg
   rw[e1] at this
   exact this.to (fun _ _ h=>h)
 intro fuel
 induction fuel with
 |
  zero=>
  intro listed hs hu hcl E a w hi hq
  have hall:∀k,k<ops.size→listed.getD k false=true:=fun k hk=>Abs.lF (by omega) (by omega)
  have hr:Region.ready .any ops listed= []:=by
   rw[List.eq_nil_iff_forall_not_mem]
   intro k hk
   rw[mem_ready] at hk
   obtain⟨h1,o,h2,_⟩:=hk
   have hlt:k<ops.size:=(Array.getElem?_eq_some_iff.1 h2).1
   have:=hall k hlt
   simp[hs▸hlt] at h1 this
   rw[this] at h1;cases h1
  exact⟨hr,fin listed (done listed hs hr) hi hq⟩
 |
  succ fuel ih=>
  intro listed hs hu hcl E a w hi hq
  refine⟨fun hr=>fin listed (done listed hs hr) hi hq,fun i hir=>?_⟩
  rw[mem_ready] at hir
  obtain⟨h1,o,h2,h3⟩:=hir
  have hlt:i<ops.size:=(Array.getElem?_eq_some_iff.1 h2).1
  have hif:listed.getD i false=false:=by simp[hs▸hlt] at h1 ⊢;exact h1
  obtain⟨k,p,hk,hpk⟩:=h.qn.JV i (by simpa using hlt)
  subst hpk
  have hoo:o=p.o:=by have:=hpi k p hk;rw[h2] at this;cases this;rfl
  subst hoo
  have hkN:k<pl.length:=(List.getElem?_eq_some_iff.1 hk).1
  have hpre:∀e∈p.o.after.toList,Region.binds .any e=true→listed.getD e.on false=true:=fun e he hb=>h3 e (by simpa using he) hb
  obtain⟨f1,f2,f3,f4,f5⟩:=vU h hcl hk h2 hif hpre
  have hXk:aO pl listed k=false:=by simp only[aO,hk];exact hif
  have hcl':qo ops (listed.setIfInBounds p.i true):=by
   intro j o' ho' hj e he hb
   by_cases e':j=p.i
   ·subst e'
    rw[h2] at ho';cases ho'
    exact getD_set_true (hpre e he hb)
   ·rw[getD_set_ne false (fun h=>e' h.symm)] at hj
    exact getD_set_true (hcl j o' ho' hj e he hb)
  have hX':aO pl (listed.setIfInBounds p.i true)=fun x=>aO pl listed x||x==k:=by
   funext x
   unfold aO
   cases hx:pl[x]? with
   |
    none=>
    have:x≠k:=fun e=>by subst e;rw[hk] at hx;cases hx
    simp[this]
   |
    some q=>
    simp only
    by_cases e:x=k
    ·subst e
     rw[hk] at hx;cases hx
     simp[hs,hlt]
    ·have hne:q.i≠p.i:=fun e'=>e (h.qn.inj x k q p hx hk e')
     rw[getD_set_ne false (fun h=>hne h.symm)]
     simp[e]
  have hSH:∀b,(SH hpf rcf pl.length (aO pl (listed.setIfInBounds p.i true)) b=get b (hpf (k+1))∧CB (rcf k) b)∨(SH hpf rcf pl.length (aO pl (listed.setIfInBounds p.i true)) b=SH hpf rcf pl.length (aO pl listed) b∧¬CB (rcf k) b):=by
   intro b
   have:=qi (C:=fun j=>CB (rcf j) b) (g:=fun j=>get b (hpf j)) hXk hkN (fun i h1 h2 h3=>f4 b i h1 h2 h3)
   unfold SH
   rw[hX',this]
   by_cases hc:CB (rcf k) b
   ·exact Or.inl ⟨by rw[if_pos hc],hc⟩
   ·exact Or.inr ⟨by rw[if_neg hc],hc⟩
  have hST:∀t,(ST tmf pl pl.length (aO pl (listed.setIfInBounds p.i true)) t=get t (tmf (k+1))∧BN pl k t)∨(ST tmf pl pl.length (aO pl (listed.setIfInBounds p.i true)) t=ST tmf pl pl.length (aO pl listed) t∧¬BN pl k t):=by
   intro t
   have:=qi (C:=fun j=>BN pl j t) (g:=fun j=>get t (tmf j)) hXk hkN (fun i h1 h2 h3=>f5 t i h1 h2 h3)
   unfold ST
   rw[hX',this]
   by_cases hc:BN pl k t
   ·exact Or.inl ⟨by rw[if_pos hc],hc⟩
   ·exact Or.inr ⟨by rw[if_neg hc],hc⟩
  obtain⟨hd,wt,hw,hcase⟩:=h.at_ k p hk
  have hpt:=(h.qn.at_ k p hk).2.2
  have part:∀m:T V,(∀t x,get t m=some x→(∃n∈p.ts,t=aN n)∧get t (tmf k)=some x)→RT E m a.tmps:=by
   intro m hm t x hx
   obtain⟨⟨n,n1,rfl⟩,q⟩:=hm t x hx
   exact hi.vt _ x (by rw[f1 n n1];exact q)
  have hwt:Region.wanted p.o (yielded ops a.tmps)=wt:=by
   obtain⟨m,m1,m2⟩:=Ab hw (G7 p.o)
   refine tB (part m (fun t x hx=>?_)) m2
   rw[hpt];exact m1 t x hx
  have hput:∀(u:Value) t,¬BN pl k t→(a.put p.o.dst u).tmps[num t]? =a.tmps[num t]? :=by
   intro u t ht
   cases hds:p.o.dst with
   |none=>rfl
   |
    some d=>
    have:num t≠d:=fun e=>ht ⟨p,hk,d,hds,by rw[←e,Cy]⟩
    show(a.tmps.setIfInBounds d u)[num t]? =_
    rw[Array.getElem?_setIfInBounds,if_neg (fun e=>this e.symm)]
  have hmono:∀i j,i≤j→j≤pl.length→num (nxf i)≤num (nxf j):=fun i j=>mZ h
  unfold wpOpIn
  simp only[h2]
  rcases hcase with⟨rfl,c1,c2,c3,c4⟩|⟨rfl,tmr,v,c1,c2,c3⟩
  ·
   simp only[hwt,Bool.false_eq_true,if_false]
   refine⟨fun _ _=>trivial,?_⟩
   have hSeq:SH hpf rcf pl.length (aO pl (listed.setIfInBounds p.i true))=SH hpf rcf pl.length (aO pl listed):=by
    funext b
    rcases hSH b with⟨_,hc⟩|⟨e,_⟩
    ·rw[c4] at hc;cases hc
    ·exact e
   refine ih _ (by simp[hs]) (by have:=Abs.jx h1;omega) hcl' (E:=E) ⟨?_,by rw[fX];exact hi.vs,by rw[hSeq];exact hi.vh,by rw[hSeq];exact hi.vg,?_,hi.vl,by rw[put_defers];exact hi.rf⟩ (by rw[hSeq];exact hq)
   ·intro t x hx
    rcases hST t with⟨e,q,hq',d,hd',he⟩|⟨e,hc⟩
    ·rw[hk] at hq';cases hq'
     rw[e,c1,hd',he] at hx
     rw[show get (aN d) (AA (some d) none (tmf k))=none from bJ _ _ _] at hx
     cases hx
    ·rw[e] at hx
     obtain⟨u,u1,u2⟩:=hi.vt t x hx
     exact⟨u,by rw[hput undef t hc];exact u1,u2⟩
   ·intro j hj hx
    rw[hX'] at hx
    simp only[Bool.or_eq_false_iff] at hx
    exact hi.vf j hj hx.1
  ·simp only[hwt,if_true]
   have core:∀(h0 h1:T ak),(∀b kk,get b h0=some kk→SH hpf rcf pl.length (aO pl listed) b=some kk)→lH P gl p.o tmr h0 (nxf k) v h1 (nxf (k+1))→
    (DY h0 h1 (SH hpf rcf pl.length (aO pl listed))=SH hpf rcf pl.length (aO pl (listed.setIfInBounds p.i true)))→
    p.o.wpIn (Fr r) 0 P a w (wpAnyIn (Fr r) 0 P .any ops Q fuel (listed.setIfInBounds p.i true)) Q:=by
    intro h0 h1' hsub hst hmrg
    have hF:=hi.vf k hkN hXk
    refine hst.2 r (num (nxf (k+1))) E a w (Nat.le_refl _) (part tmr c1) (hi.vh.to hsub) hF (hi.vg.to hsub) _ Q ?_
    intro E' u w' q1 q2 q3 q4
    obtain⟨m1,m2⟩:=xx hsub hi.vh hF q2 q4
    rw[hmrg] at m1 m2
    have hle:E.le E':=q4.le hF (Nat.le_refl _)
    have hx0:num (nxf 0)≤num (nxf k):=hmono 0 k (by omega) (by omega)
    have hx1:num (nxf (k+1))≤num (nxf pl.length):=hmono (k+1) pl.length (by omega) (Nat.le_refl _)
    refine ih _ (by simp[hs]) (by have:=Abs.jx h1;omega) hcl' (E:=E') ⟨?_,by rw[fX];exact hi.vs,m1,hi.vg.step m2,?_,?_,by rw[put_defers];exact hi.rf.mono hle⟩ (fun E2 a2 w2 k1 k2 k3=>hq E2 a2 w2 k1 k2 ((m2.wide hx0 hx1).trans k3))
    ·intro t x hx
     rcases hST t with⟨e,q,hq',d,hd',he⟩|⟨e,hc⟩
     ·rw[hk] at hq';cases hq'
      rw[e,c2,hd',he] at hx
      rw[show get (aN d) (AA (some d) (some v) (tmf k))=some v from bJ _ _ _] at hx
      cases hx
      refine⟨u,?_,q1⟩
      rw[he,cO,hd']
      show(a.tmps.setIfInBounds d u)[d]? =_
      rw[Array.getElem?_setIfInBounds,if_pos rfl,if_pos (yz hd hi.vs d hd')]
     ·rw[e] at hx
      obtain⟨u',u1,u2⟩:=hi.vt t x hx
      exact⟨u',by rw[hput u t hc];exact u1,u2.mono hle⟩
    ·intro j hj hx
     rw[hX'] at hx
     simp only[Bool.or_eq_false_iff,beq_eq_false_iff_ne] at hx
     intro b b1 b2
     have hdis:num b<num (nxf k)∨num (nxf (k+1))≤num b:=by
      rcases Nat.lt_or_gt_of_ne hx.2 with hjk|hjk
      ·have:=hmono (j+1) k (by omega) (by omega);omega
      ·have:=hmono (k+1) j (by omega) (by omega);omega
     rw[(q4.env b hdis).1]
     exact hi.vf j hj hx.1 b b1 b2
    ·intro b b1 b2
     rw[(q4.env b (by omega)).1]
     exact hi.vl b b1 b2
   rcases c3 with⟨ids,lc,e,r1,r2,r3,r4,r5,r6⟩|⟨r1,r6⟩
   ·subst r2
    have hS:=r6 (SH hpf rcf pl.length (aO pl listed)) (fun c hc=>f2 c _ _ _ _ r1 hc)
    rw[←r4] at hS
    refine core _ _ ?_ hS ?_
    ·intro b kk hb
     rw[jd] at hb
     split at hb
     ·exact hb
     ·cases hb
    ·funext b
     have g0:get b (dH (SH hpf rcf pl.length (aO pl listed)) ids)=if b∈ids then SH hpf rcf pl.length (aO pl listed) b else none:=jd
     rcases hSH b with⟨e1,hc⟩|⟨e1,hc⟩
     ·rw[r1] at hc
      have hc:b∈fF e (nxf k):=hc
      rw[e1,r3,BL hc (hpf k) (dH (SH hpf rcf pl.length (aO pl listed)) ids)]
      unfold DY
      split
      ·rename_i heq
       rcases BK r5 b hc with hb|⟨hb,hk'⟩
       ·rw[g0,if_pos hb] at heq;exact heq
       ·by_cases hbi:b∈ids
        ·rw[g0,if_pos hbi] at heq;exact heq
        ·rw[g0,if_neg hbi] at heq
         obtain⟨kk,hkk⟩:=hk' (dH (SH hpf rcf pl.length (aO pl listed)) ids)
         rw[hkk] at heq;cases heq
      ·rfl
     ·rw[r1] at hc
      have hc:b∉fF e (nxf k):=hc
      rw[e1]
      unfold DY
      rw[if_pos (sD hc _).symm]
   ·refine core (hpf k) (hpf (k+1)) (fun b kk hb=>f3 b kk _ _ _ r1 rfl hb) r6 ?_
    funext b
    rcases hSH b with⟨e1,hc⟩|⟨e1,hc⟩
    ·rw[r1] at hc
     rw[e1]
     unfold DY
     rw[if_neg hc]
    ·rw[r1] at hc
     rw[e1]
     unfold DY
     rw[if_pos (Classical.not_not.1 hc)]
end
section
variable{P:Program} {gl:List V} {ih:dx} {hf:Hk}
theorem D1(hI:rG P gl ih)(hG:tX P gl hf)(hm:P.follows .mixedOrders=true){id:Nat}{ops:Array Oper}{sz:Nat}{tm:T V}{hp:T ak}{nx:Id}{df:V}{x:Xt}{tm':T V}{hp':T ak}{nx':Id}{df':V}
 (h:(bO (xb ops.toList) fun pl=>mD P gl hf ih sz ops.toList pl [] tm hp nx df)=some (.mk x tm' hp' nx' df')):ep P gl (.region id ops true) sz tm hp nx df x tm' hp' nx' df':=by
 obtain⟨pl,hpl,h1⟩:=ab h
 obtain⟨e1,e2,tmf,hpf,nxf,rcf,a1,a2,a3,a4,a5,a6,a7⟩:=ql hI hG h1
 subst e1;subst e2;subst a1;subst a2;subst a3;subst a4;subst a5;subst a6
 have tr:Tr P gl ops sz pl tmf hpf nxf rcf:=⟨Aa hpl,fun j p hj=>(a7 j p hj).1,fun j p hj=>(a7 j p hj).2.1,fun j p hj=>(a7 j p hj).2.2.2⟩
 have hnn:=mZ tr (Nat.zero_le pl.length) (Nat.le_refl _)
 refine⟨hnn,?_⟩
 intro r L E a w hL hok hrf Q hQ
 refine wpIn_region_any hm ?_
 have hX:∀i,i<pl.length→aO pl (Array.replicate ops.size false) i=false:=by
  intro i hi
  unfold aO
  cases pl[i]? with
  |none=>rfl
  |some p=>rcases Nat.lt_or_ge p.i ops.size with h|h<;>simp[h]
 have e1:SH hpf rcf pl.length (aO pl (Array.replicate ops.size false))=fun b=>get b (hpf 0):=by
  funext b
  exact tY hX
 have e2:∀t,ST tmf pl pl.length (aO pl (Array.replicate ops.size false)) t=get t (tmf 0):=fun t=>tY hX
 have mono:∀i j,i≤j→j≤pl.length→num (nxf i)≤num (nxf j):=fun i j=>mZ tr
 refine Gl tr (L:=L) (df:=df') hL ops.size _ (by simp) ?_ ?_ (E:=E) ⟨?_,hok.vs,?_,?_,?_,?_,hrf⟩ ?_
 ·unfold Abs.fo;simp
 ·intro j o ho hj
  have:(Array.replicate ops.size false).getD j false=false:=by
   rcases Nat.lt_or_ge j ops.size with h|h<;>simp[h]
  rw[this] at hj;cases hj
 ·intro t x hx
  rw[e2] at hx
  exact hok.vt t x hx
 ·rw[e1]
  exact⟨fun b k hb=>hok.vh.bL b k hb,fun b b' k k' g h1 h2=>hok.vh.sep b b' k k' g h1 h2⟩
 ·rw[e1]
  exact fun g x hx=>hok.vg g x hx
 ·intro j hj _ b b1 b2
  have:=mono 0 j (by omega) (by omega)
  have:=mono (j+1) pl.length (by omega) (Nat.le_refl _)
  exact hok.vf b (by omega) (by omega)
 ·intro b b1 b2
  exact hok.vf b (by omega) b2
 ·rw[e1]
  intro E' a' w' k1 k2 k3
  refine hQ E' a' w' k1 k2 ⟨k3.os,⟨k3.tape.1,Nat.le_trans (Nat.le_succ _) k3.tape.2⟩,k3.output,k3.size,fun g hg ho=>k3.kept g hg ho,fun g hg=>k3.own g hg,hnn,k3.env⟩
end
end Go.Cm
namespace Go.Cm
def xB(P:Program)(gl:List V)(c:Code)(sz:Nat)(tm:T V)(hp:T ak)(nx:Id)(df:V)(x:Xt)(tm':T V)(hp':T ak)(nx':Id)(df':V):Prop:=
 num nx≤num nx'∧∃m,∀(r:Option Nat)(L:Nat)(E:Env)(a:Act)(w:World),num nx'≤L→Ok gl L sz tm hp nx E a w→RF r E df a.defers→∀Q:Exit→Act→World→Prop,
  (∀E' a' w',Ok gl L sz tm' hp' nx' E' a' w'→RF r E' df' a'.defers→Ex hp nx E w hp' nx' E' w'→Q (pN x) a' w')→Code.roundsIn (Fr r) 0 P c Q m a w
def D2(P:Program)(gl:List V)(ex:dx):Prop:=
 ∀c fid sz tm hp nx df x tm' hp' nx' df',ex (.loop c) fid sz tm hp nx df=some (.mk x tm' hp' nx' df')→xB P gl c sz tm hp nx df x tm' hp' nx' df'
section
variable{P:Program} {b:Frame} {a:Act} {k:List Item} {cs:List Frame} {w:World}
theorem eX{c:Code}:step P (lone (b.atR a (.code (.scope c)::k)) cs w)= .next (lone (b.atR a (.code c::.inScope c::k)) cs w):=
 step_lone_go (by simp[stepG,stepG.exec,Frame.atR])
theorem rK{c:Code}:step P (lone (b.atR a (.inScope c::k)) cs w)= .next (lone (b.atR a k) cs w):=
 step_lone_go (by simp[stepG,stepG.exec,Frame.atR])
def noGoto(Q:Exit→Act→World→Prop):Exit→Act→World→Prop
 | .goto _,_,_=>False
 |e,a,w=>Q e a w
theorem xC{F:Fence}{n:Nat}{Q:Exit→Act→World→Prop}{c:Code}(h:c.wpIn F n P (noGoto Q) a w):(Code.scope c).wpIn F n P Q a w:=by
 intro b k cs hro hb hr
 have h0:(lone (b.atR a (.code (.scope c)::k)) cs w).fenced P F:=fenced_calm hb hr rfl
 obtain⟨e,a₁,w₁,hq,harr⟩:=h b (.inScope c::k) cs hro hb hr
 cases e with
 |normal=>exact⟨.normal,a₁,w₁,hq,.head h0 eX (StepsIn.trans harr (.one (fenced_calm hb hr rfl) rK))⟩
 |
  exit id=>
  have hx:exitTo id (.inScope c::k)=exitTo id k:=by simp[exitTo]
  exact⟨.exit id,a₁,w₁,hq,fun k' hk=>.head h0 eX (harr.1 k' (by rw[hx];exact hk)),
   fun hr' hk=>let⟨k₁,h1,h2⟩:=harr.2 hr' (by rw[hx];exact hk);⟨k₁,h1,.head h0 eX h2⟩⟩
 |goto l=>exact hq.elim
 |ret=>exact⟨_,a₁,w₁,hq,.of_steps (.one h0 eX) harr⟩
 |panic ch=>exact⟨_,a₁,w₁,hq,.of_steps (.one h0 eX) harr⟩
 |outgrown=>exact⟨_,a₁,w₁,hq,.of_steps (.one h0 eX) harr⟩
end
section
variable{P:Program} {gl:List V} {hf:Hk}
theorem yO{ih:dx}(hI:rG P gl ih)(hL:D2 P gl ih){c:Code}{fid sz:Nat}{tm:T V}{hp:T ak}{nx:Id}{df:V}{x:Xt}{tm':T V}{hp':T ak}{nx':Id}{df':V}
 (h:EW ih c fid sz tm hp nx df=some (.mk x tm' hp' nx' df')):xB P gl c sz tm hp nx df x tm' hp' nx' df':=by
 obtain⟨x1,jZ,du,eo,df1,h1,h2⟩:=fg h
 obtain⟨s1,s2⟩:=hI _ _ _ _ _ _ _ _ _ _ _ _ h1
 have out:pN x1≠.normal→some (Rs.mk x1 jZ du eo df1)=some (.mk x tm' hp' nx' df')→xB P gl c sz tm hp nx df x tm' hp' nx' df':=by
  intro hne e
  cases e
  refine⟨s1,1,?_⟩
  intro r L E a w hL hok hrf Q hQ
  show c.wpIn (Fr r) 0 P (Exit.then _ Q) a w
  refine s2 r L E a w hL hok hrf _ ?_
  intro E' a' w' k1 k2 k3
  have:=hQ E' a' w' k1 k2 k3
  cases x<;>first|exact absurd rfl hne|exact this
 cases x1 with
 |
  iF=>
  obtain⟨t1,m,t2⟩:=hL _ _ _ _ _ _ _ _ _ _ _ _ (show ih (.loop c) fid sz jZ du eo df1=some (.mk x tm' hp' nx' df') from h2)
  refine⟨Nat.le_trans s1 t1,m+1,?_⟩
  intro r L E a w hLe hok hrf Q hQ
  rw[roundsIn_succ]
  refine s2 r L E a w (Nat.le_trans t1 hLe) hok hrf _ ?_
  intro E' a' w' k1 k2 k3
  exact t2 r L E' a' w' hLe k1 k2 Q (fun E2 a2 w2 q1 q2 q3=>hQ E2 a2 w2 q1 q2 (k3.trans q3))
 |ext i=>exact out (by simp[pN]) h2
 |ret=>exact out (by simp[pN]) h2
theorem Gm{ih:dx}(hI:rG P gl ih){c d:Code}{fid sz:Nat}{tm:T V}{hp:T ak}{nx:Id}{df:V}{x:Xt}{tm':T V}{hp':T ak}{nx':Id}{df':V}
 (h:He ih c d fid sz tm hp nx df=some (.mk x tm' hp' nx' df')):ep P gl (.seq c d) sz tm hp nx df x tm' hp' nx' df':=by
 obtain⟨x1,jZ,du,eo,df1,h1,h2⟩:=fg h
 obtain⟨s1,s2⟩:=hI _ _ _ _ _ _ _ _ _ _ _ _ h1
 have out:pN x1≠.normal→some (Rs.mk x1 jZ du eo df1)=some (.mk x tm' hp' nx' df')→ep P gl (.seq c d) sz tm hp nx df x tm' hp' nx' df':=by
  intro hne e
  cases e
  refine⟨s1,?_⟩
  intro r L E a w hL hok hrf Q hQ
  refine wpIn_seq (s2 r L E a w hL hok hrf _ ?_)
  intro E' a' w' k1 k2 k3
  have:=hQ E' a' w' k1 k2 k3
  cases x<;>first|exact absurd rfl hne|exact this
 cases x1 with
 |
  iF=>
  obtain⟨t1,t2⟩:=hI _ _ _ _ _ _ _ _ _ _ _ _ (show ih d fid sz jZ du eo df1=some (.mk x tm' hp' nx' df') from h2)
  refine⟨Nat.le_trans s1 t1,?_⟩
  intro r L E a w hLe hok hrf Q hQ
  refine wpIn_seq (s2 r L E a w (Nat.le_trans t1 hLe) hok hrf _ ?_)
  intro E' a' w' k1 k2 k3
  exact t2 r L E' a' w' hLe k1 k2 Q (fun E2 a2 w2 q1 q2 q3=>hQ E2 a2 w2 q1 q2 (k3.trans q3))
 |ext i=>exact out (by simp[pN]) h2
 |ret=>exact out (by simp[pN]) h2
theorem D3{ih:dx}(hI:rG P gl ih){o:Operand}{c d:Code}{fid sz:Nat}{tm:T V}{hp:T ak}{nx:Id}{df:V}{x:Xt}{tm':T V}{hp':T ak}{nx':Id}{df':V}
 (h:EV ih o c d fid sz tm hp nx df=some (.mk x tm' hp' nx' df')):ep P gl (.cond o c d) sz tm hp nx df x tm' hp' nx' df':=by
 obtain⟨v,hv,h1⟩:=ab h
 obtain⟨t,rfl,h2⟩:=cT h1
 have core:∀e:Code,ih e fid sz tm hp nx df=some (.mk x tm' hp' nx' df')→(if t then c else d)=e→ep P gl (.cond o c d) sz tm hp nx df x tm' hp' nx' df':=by
  intro e he hce
  obtain⟨s1,s2⟩:=hI _ _ _ _ _ _ _ _ _ _ _ _ he
  refine⟨s1,?_⟩
  intro r L E a w hL hok hrf Q hQ
  have hc:=aT hok.vt hv
  simp only[RV] at hc
  refine wpIn_cond hc ?_
  rw[hce]
  exact s2 r L E a w hL hok hrf Q hQ
 cases t with
 |true=>exact core c h2 rfl
 |false=>exact core d h2 rfl
theorem BO{ih:dx}(hI:rG P gl ih){id:Nat}{c:Code}{fid sz:Nat}{tm:T V}{hp:T ak}{nx:Id}{df:V}{x:Xt}{tm':T V}{hp':T ak}{nx':Id}{df':V}
 (h:A4 ih id c fid sz tm hp nx df=some (.mk x tm' hp' nx' df')):ep P gl (.block id c) sz tm hp nx df x tm' hp' nx' df':=by
 obtain⟨x1,jZ,du,eo,df1,h1,h2⟩:=fg h
 obtain⟨s1,s2⟩:=hI _ _ _ _ _ _ _ _ _ _ _ _ h1
 have core:∀y:Xt,some (Rs.mk y jZ du eo df1)=some (.mk x tm' hp' nx' df')→(∀(Q:Exit→Act→World→Prop) a w,Q (pN y) a w→Exit.inBlock id Q (pN x1) a w)→ep P gl (.block id c) sz tm hp nx df x tm' hp' nx' df':=by
  intro y e hy
  cases e
  refine⟨s1,?_⟩
  intro r L E a w hL hok hrf Q hQ
  refine wpIn_block (s2 r L E a w hL hok hrf _ ?_)
  intro E' a' w' k1 k2 k3
  exact hy Q a' w' (hQ E' a' w' k1 k2 k3)
 cases x1 with
 |iF=>exact core .iF h2 (fun Q a w h=>h)
 |
  ext i=>
  have h3:@Bool.rec (fun _=>Option Rs) (some (.mk (.ext i) jZ du eo df1)) (some (.mk .iF jZ du eo df1)) (Nat.beq i id)=some (.mk x tm' hp' nx' df'):=h2
  cases hb:Nat.beq i id with
  |
   true=>
   rw[hb] at h3
   have:=bK hb;subst this
   exact core .iF h3 (fun Q a w h=>by simp only[pN,Exit.inBlock,if_true];exact h)
  |
   false=>
   rw[hb] at h3
   have hne:i≠id:=fun e=>by subst e;rw[Nat.beq_refl] at hb;cases hb
   exact core (.ext i) h3 (fun Q a w h=>by simp only[pN,Exit.inBlock,if_neg hne];exact h)
 |ret=>exact core .ret h2 (fun Q a w h=>h)
theorem BP{ih:dx}(hI:rG P gl ih)(hL:D2 P gl ih)(hG:tX P gl hf)(hm:P.follows .mixedOrders=true):rG P gl (A5 P gl hf ih)∧D2 P gl (A5 P gl hf ih):=by
 have iF:∀c:Code,(∀(r:Option Nat) Q a w,Q .normal a w→c.wpIn (Fr r) 0 P Q a w)→∀sz tm hp nx df x tm' hp' nx' df',some (Rs.mk .iF tm hp nx df)=some (.mk x tm' hp' nx' df')→ep P gl c sz tm hp nx df x tm' hp' nx' df':=by
  intro c hc sz tm hp nx df x tm' hp' nx' df' e
  cases e
  refine⟨Nat.le_refl _,?_⟩
  intro r L E a w hL hok hrf Q hQ
  exact hc r Q a w (hQ E a w hok hrf (Ex.refl _ _ _ _))
 refine⟨?_,fun c fid sz tm hp nx df x tm' hp' nx' df' h=>yO hI hL h⟩
 intro c fid sz tm hp nx df x tm' hp' nx' df' h
 cases c with
 |skip=>exact iF _ (fun r Q a w h=>wpIn_skip h) _ _ _ _ _ _ _ _ _ _ h
 |
  region id ops d=>
  cases d with
  |false=>exact Gj hI hG h
  |true=>exact D1 hI hG hm h
 |seq c d=>exact Gm hI h
 |cond o c d=>exact D3 hI h
 |block id c=>exact BO hI h
 |
  loop c=>
  obtain⟨s1,m,s2⟩:=yO hI hL h
  refine⟨s1,?_⟩
  intro r L E a w hL hok hrf Q hQ
  exact wpIn_loop_rounds m (s2 r L E a w hL hok hrf Q hQ)
 |rangeFunc f ps asg body=>exact DU hI hG h
 |
  exit i=>
  cases(show some (Rs.mk (.ext i) tm hp nx df)=some (.mk x tm' hp' nx' df') from h)
  refine⟨Nat.le_refl _,?_⟩
  intro r L E a w hL hok hrf Q hQ
  exact wpIn_exit (hQ E a w hok hrf (Ex.refl _ _ _ _))
 |
  scope c=>
  obtain⟨s1,s2⟩:=hI _ _ _ _ _ _ _ _ _ _ _ _ (show ih c fid sz tm hp nx df=some (.mk x tm' hp' nx' df') from h)
  refine⟨s1,?_⟩
  intro r L E a w hL hok hrf Q hQ
  refine xC (s2 r L E a w hL hok hrf _ ?_)
  intro E' a' w' k1 k2 k3
  have:=hQ E' a' w' k1 k2 k3
  cases x<;>exact this
 |label l=>exact iF _ (fun r Q a w h=>wpIn_label h) _ _ _ _ _ _ _ _ _ _ h
 |goto l=>cases h
 |
  ret=>
  cases(show some (Rs.mk .ret tm hp nx df)=some (.mk x tm' hp' nx' df') from h)
  refine⟨Nat.le_refl _,?_⟩
  intro r L E a w hL hok hrf Q hQ
  exact wpIn_ret (hQ E a w hok hrf (Ex.refl _ _ _ _))
 |refuse s=>cases h
theorem pw(hG:tX P gl hf)(hm:P.follows .mixedOrders=true):∀n,rG P gl (exec P gl hf n)∧D2 P gl (exec P gl hf n)
 |0=>⟨fun c fid sz tm hp nx df x tm' hp' nx' df' h=>(by cases h),fun c fid sz tm hp nx df x tm' hp' nx' df' h=>(by cases h)⟩
 |n+1=>BP (pw hG hm n).1 (pw hG hm n).2 hG hm
end
end Go.Cm
namespace Go.Cm
noncomputable def D4(x:V):Bool:=
 @V.rec (fun _=>Bool) (fun _=>true) (fun _ _=>true) (fun _=>true) (fun _ _=>false) true (fun _ _ _ _=>false) (fun _ _ _ _=>false) true true (fun _=>false) true (fun _ _ _ a b=>bq a b) (fun _=>false) true (fun _ _ a=>a) true (fun _ a=>a) (fun _ a=>a) false true (fun _ _ a b=>bq a b) x
theorem vV{E E':Env}:∀x:V,D4 x=true→(∀v,RV E x v→RV E' x v)∧(∀vs,aQ E x vs→aQ E' x vs):=by
 intro x
 induction x with
 |
  fn f fs cs ih1 ih2=>
  intro h
  obtain⟨h1,h2⟩:=aK (show bq (D4 fs) (D4 cs)=true from h)
  refine⟨fun v r=>?_,fun vs r=>by simp[aQ] at r⟩
  simp only[RV] at r ⊢
  obtain⟨a,c,q1,q2,q3⟩:=r
  exact⟨a,c,q1,(ih1 h1).2 _ q2,(ih2 h2).2 _ q3⟩
 |
  EE t x ih=>
  intro h
  refine⟨fun v r=>?_,fun vs r=>by simp[aQ] at r⟩
  simp only[RV] at r ⊢
  obtain⟨y,q1,q2⟩:=r
  exact⟨y,q1,(ih h).1 _ q2⟩
 |
  agg l ih=>
  intro h
  refine⟨fun v r=>?_,fun vs r=>by simp[aQ] at r⟩
  simp only[RV] at r ⊢
  obtain⟨a,q1,q2,q3⟩:=r
  exact⟨a,q1,(ih h).2 _ q2,q3⟩
 |
  c8 l ih=>
  intro h
  refine⟨fun v r=>?_,fun vs r=>by simp[aQ] at r⟩
  simp only[RV] at r ⊢
  obtain⟨a,q1,q2⟩:=r
  exact⟨a,q1,(ih h).2 _ q2⟩
 |
  cons a l ih1 ih2=>
  intro h
  obtain⟨h1,h2⟩:=aK (show bq (D4 a) (D4 l)=true from h)
  refine⟨fun v r=>by simp[RV] at r,fun vs r=>?_⟩
  simp only[aQ] at r ⊢
  obtain⟨v,t,q1,q2,q3⟩:=r
  exact⟨v,t,q1,(ih1 h1).1 _ q2,(ih2 h2).2 _ q3⟩
 |p b o=>intro h;cases h
 |m b=>intro h;cases h
 |yl b=>intro h;cases h
 |sl b o n c=>intro h;cases h
 |su b o n z=>intro h;cases h
 |un=>intro h;cases h
 |nil=>exact fun _=>⟨fun v r=>by simp[RV] at r,fun vs r=>by simpa[aQ] using r⟩
 |_=>exact fun _=>⟨fun v r=>by simpa[RV] using r,fun vs r=>by simp[aQ] at r⟩
def E0:Env:=⟨fun _=>none,fun _=>0⟩
section
variable{P:Program} {gl:List V}
theorem Ie{E:Env}{w:World}:RH E .e w:=⟨fun b k hb=>(by rw[gw] at hb;cases hb),fun b b' k k' g hb=>(by rw[gw] at hb;cases hb)⟩
theorem BQ{L:Nat}{nx:Id}:bW L nx E0:=fun _ _ _=>rfl
theorem vW{E:Env}{g:Nat}:¬Own .e E g:=fun⟨b,k,hb,_⟩=>by rw[gw] at hb;cases hb
theorem Ae{f:FuncId}{x v:V}{hp':T ak}{nx':Id}(h:fh P gl f x .e [] v hp' nx')(hx:D4 x=true)(hv:D4 v=true):∀hp nx,fh P gl f x hp nx v hp nx:=by
 intro hp nx
 obtain⟨h1,h2,h3⟩:=h
 refine⟨h1,Nat.le_refl _,?_⟩
 intro L E w vs _ hv' hH hF hG
 have:=h3 (num nx') E0 w vs (Nat.le_refl _) ((vV x hx).2 vs hv') Ie BQ (fun g y hy=>⟨vW,(hG g y hy).2⟩)
 refine CallsIn.mono (F:=Fence.wide) this ?_
 rintro e w' ⟨u,E',rfl,q1,q2,q3,q4⟩
 refine⟨u,E,rfl,(vV v hv).1 u q1,⟨fun b k hb=>?_,hH.sep⟩,hF,⟨q4.os,q4.tape,q4.output,q4.size,fun g hg _=>q4.kept g hg vW,fun g hg=>Or.inl hg,Nat.le_refl _,fun _ _=>⟨rfl,rfl⟩⟩⟩
 obtain⟨g,o,r1,r2,r3⟩:=hH.bL b k hb
 exact⟨g,o,r1,by rw[q4.kept g (Array.getElem?_eq_some_iff.1 r2).1 vW];exact r2,r3⟩
theorem vX:∀{t:List (Nat×V×V)}{f:Nat}{a v:V},lu t f a=some v→∃e∈t,e=(f,a,v)
 |[],f,a,v,h=>by cases h
 |
  e::t,f,a,v,h=>by
  obtain⟨g,x,y⟩:=e
  have h0:@Bool.rec (fun _=>Option V) (lu t f a) (@Bool.rec (fun _=>Option V) (lu t f a) (some y) (isTrue (fB x a))) (Nat.beq g f)=some v:=h
  have rest:lu t f a=some v→∃e∈(g,x,y)::t,e=(f,a,v):=fun hh=>let⟨e,h1,h2⟩:=vX hh;⟨e,List.mem_cons_of_mem _ h1,h2⟩
  cases hb:Nat.beq g f with
  |false=>rw[hb] at h0;exact rest h0
  |
   true=>
   rw[hb] at h0
   cases hs:isTrue (fB x a) with
   |false=>rw[hs] at h0;exact rest h0
   |
    true=>
    rw[hs] at h0
    have e1:=bK hb
    have e2:=kA _ _ (jb hs)
    cases(show some y=some v from h0)
    subst e1;subst e2
    exact⟨_,List.mem_cons_self ..,rfl⟩
def gv(P:Program)(gl:List V)(e:Nat×V×V):Prop:=∀hp nx,fh P gl e.1 e.2.1 hp nx e.2.2 hp nx
theorem BR{t:List (Nat×V×V)}(h:∀e∈t,gv P gl e):∀f args v,lu t f args=some v→∀hp nx,fh P gl f args hp nx v hp nx:=by
 intro f args v hl hp nx
 obtain⟨e,he,rfl⟩:=vX hl
 exact h _ he hp nx
noncomputable def vq(P:Program)(gl:List V)(hk:Hk)(n:Nat)(f:FuncId)(x v:V):Bool:=
 bq (D4 x) (bq (D4 v) (@Option.rec Rs (fun _=>Bool) false (fun _=>true) (iT P hk (exec P gl hk n) (iU P (exec P gl hk n)) f x .e [] fun y _ _=>bF (isTrue (fB y v)) (some (.mk .iF .e .e [] .nil)))))
theorem jH{hk:Hk}(hG:tX P gl hk)(hm:P.follows .mixedOrders=true){n:Nat}{f:FuncId}{x v:V}(h:vq P gl hk n f x v=true):gv P gl (f,x,v):=by
 obtain⟨h1,h2⟩:=aK h
 obtain⟨h3,h4⟩:=aK h2
 cases hr:iT P hk (exec P gl hk n) (iU P (exec P gl hk n)) f x .e [] fun y _ _=>bF (isTrue (fB y v)) (some (.mk .iF .e .e [] .nil)) with
 |none=>rw[hr] at h4;cases h4
 |
  some R=>
  obtain⟨y,hp',nx',q1,q2⟩:=iW (pw hG hm n).1 hG.Gg hG.hash hG.GN hr
  obtain⟨q3,_⟩:=al q1
  have:=kA _ _ (jb q3)
  subst this
  exact Ae q2 h1 h3
theorem vY{h:Nat}{t t':List (Nat×V×V)}(hG:tX P gl ⟨h,t⟩)(ht:∀e∈t',gv P gl e):tX P gl ⟨h,t'⟩:=
 ⟨hG.Gg,hG.hash,BR ht⟩
noncomputable def vl(l:List V):V:=@List.rec V (fun _=>V) .nil (fun a _ ih=>.cons a ih) l
noncomputable def wY{α:Type}(l:List (Nat×α)):T α:=@List.rec (Nat×α) (fun _=>T α) .e (fun p _ ih=>put (some p.2) (aN p.1) ih) l
noncomputable def ids(l:List Nat):List Id:=@List.rec Nat (fun _=>List Id) [] (fun p _ ih=>aN p::ih) l
noncomputable def vx(l:List V)(r:V):V:=@List.rec V (fun _=>V) r (fun a _ ih=>.cons a ih) l
noncomputable def vb(l:List Nat)(r:V):V:=@List.rec Nat (fun _=>V) r (fun a _ ih=>.cons (.i .u8 (.ofNat a)) ih) l
noncomputable def Ig(r:Option Rs):Option V:=Ay r fun x tm _ _ _=>@Xt.casesOn (fun _=>Option V) x none (fun _=>none) (get (aN 0) tm)
noncomputable def rL(c:Code):Code:=match c with
 | .seq a _=>a
 |_=>.skip
noncomputable def bD(c:Code):Code:=match c with
 | .seq _ b=>b
 |_=>.skip
noncomputable def Ih(P:Program)(f:Nat):Code:=@Option.rec Func (fun _=>Code) .skip (fun fn=>@Option.rec Code (fun _=>Code) .skip (fun c=>c) fn.body) (eD P.funcs.toList f)
theorem D5{c d:Code}{sz:Nat}{tm jZ Ax:T V}{hp du ov:T ak}{nx eo rS:Id}{df df1 df2:V}{x:Xt}(h:ep P gl c sz tm hp nx df .iF jZ du eo df1)(k:ep P gl d sz jZ du eo df1 x Ax ov rS df2):ep P gl (.seq c d) sz tm hp nx df x Ax ov rS df2:=by
 refine⟨Nat.le_trans h.1 k.1,?_⟩
 intro r L E a w hLe hok hrf Q hQ
 refine wpIn_seq (h.2 r L E a w (Nat.le_trans k.1 hLe) hok hrf _ ?_)
 intro E' a' w' k1 k2 k3
 exact k.2 r L E' a' w' hLe k1 k2 Q (fun E2 a2 w2 q1 q2 q3=>hQ E2 a2 w2 q1 q2 (k3.trans q3))
noncomputable def BS(c:Code):Bool:=match c with
 | .seq _ _=>true
 |_=>false
theorem Ii{c:Code}(h:BS c=true):Code.seq (rL c) (bD c)=c:=by
 cases c<;>simp only[BS] at h<;>first|rfl|cases h
theorem iz{c:Code}(hs:BS c=true){sz:Nat}{tm jZ Ax:T V}{hp du ov:T ak}{nx eo rS:Id}{df df1 df2:V}{x:Xt}(h:ep P gl (rL c) sz tm hp nx df .iF jZ du eo df1)(k:ep P gl (bD c) sz jZ du eo df1 x Ax ov rS df2):ep P gl c sz tm hp nx df x Ax ov rS df2:=by
 have:=D5 h k
 rw[Ii hs] at this
 exact this
theorem D6{r:Option Rs}{v:V}(h:Ig r=some v):∃tm hp nx df,r=some (.mk .ret tm hp nx df)∧get (aN 0) tm=some v:=by
 obtain⟨x,tm,hp,nx,df,h1,h2⟩:=fg h
 cases x with
 |ret=>exact⟨tm,hp,nx,df,h1,h2⟩
 |_=>cases h2
theorem vZ{c:Code}{sz:Nat}{tm jZ Ax:T V}{hp du ov:T ak}{nx eo:Id}{df df1:V}{x:Xt}(h:ep P gl c sz tm hp nx df x jZ du eo df1)(ht:∀p v,get p Ax=some v→get p jZ=some v)(hh:∀b k,get b ov=some k→get b du=some k):ep P gl c sz tm hp nx df x Ax ov eo df1:=by
 refine⟨h.1,?_⟩
 intro r L E a w hLe hok hrf Q hQ
 refine h.2 r L E a w hLe hok hrf Q ?_
 intro E' a' w' k1 k2 k3
 have own:∀E g,Own ov E g→Own du E g:=fun E g ⟨b,k,hb,hg⟩=>⟨b,k,hh b k hb,hg⟩
 refine hQ E' a' w' ⟨fun p v hv=>k1.vt p v (ht p v hv),k1.vs,⟨fun b k hb=>k1.vh.bL b k (hh b k hb),fun b b' k k' g h1 h2=>k1.vh.sep b b' k k' g (hh b k h1) (hh b' k' h2)⟩,k1.vf,fun g y hy=>⟨fun ho=>(k1.vg g y hy).1 (own E' g ho),(k1.vg g y hy).2⟩⟩ k2 ⟨k3.os,k3.tape,k3.output,k3.size,k3.kept,fun g hg=>k3.own g (own E' g hg),k3.E7,k3.env⟩
noncomputable def eg{α:Type}(t:T α)(l:List Id):T α:=@List.rec Id (fun _=>T α) .e (fun b _ ih=>put (get b t) b ih) l
theorem je{α:Type}{t:T α}:∀{l:List Id}{b:Id}{v:α},get b (eg t l)=some v→get b t=some v
 |[],b,v,h=>by rw[show eg t []= .e from rfl,gw] at h;cases h
 |
  a::l,b,v,h=>by
  rw[show eg t (a::l)=put (get a t) a (eg t l) from rfl,cz] at h
  split at h
  ·rename_i e;subst e;exact h
  ·exact je h
noncomputable def CO(P:Program)(gl:List V)(hk:Hk)(n:Nat)(c:Code)(fid sz:Nat)(tm:T V)(hp:T ak)(nx:Id)(lt lh:List Id):Option Rs:=
 Ay (exec P gl hk n c fid sz tm hp nx .nil) fun x tm hp nx df=>@Xt.casesOn (fun _=>Option Rs) x (df.split (some (.mk .iF (eg tm lt) (eg hp lh) nx .nil)) (fun _ _=>none) none) (fun _=>none) (df.split (some (.mk .ret (eg tm lt) (eg hp lh) nx .nil)) (fun _ _=>none) none)
theorem jI{hk:Hk}(hG:tX P gl hk)(hm:P.follows .mixedOrders=true){n:Nat}{c:Code}{fid sz:Nat}{tm tm':T V}{hp hp':T ak}{nx nx':Id}{df':V}{lt lh:List Id}{x:Xt}(h:CO P gl hk n c fid sz tm hp nx lt lh=some (.mk x tm' hp' nx' df')):ep P gl c sz tm hp nx .nil x tm' hp' nx' .nil:=by
 obtain⟨x1,jZ,du,eo,df1,h1,h2⟩:=fg h
 have s:=(pw hG hm n).1 _ _ _ _ _ _ _ _ _ _ _ _ h1
 cases x1 with
 |
  iF=>
  rcases cB (show df1.split (some (Rs.mk .iF (eg jZ lt) (eg du lh) eo .nil)) (fun _ _=>none) none=some (.mk x tm' hp' nx' df') from h2) with⟨rfl,h3⟩|⟨_,_,_,h3⟩
  ·cases h3
   exact vZ s (fun p v h=>je h) (fun b k h=>je h)
  ·cases h3
 |ext i=>cases h2
 |
  ret=>
  rcases cB (show df1.split (some (Rs.mk .ret (eg jZ lt) (eg du lh) eo .nil)) (fun _ _=>none) none=some (.mk x tm' hp' nx' df') from h2) with⟨rfl,h3⟩|⟨_,_,_,h3⟩
  ·cases h3
   exact vZ s (fun p v h=>je h) (fun b k h=>je h)
  ·cases h3
theorem ua{f:FuncId}{fn:Func}{c:Code}(hE:pQ P)(hf:P.funcs[f]? =some fn)(hc:fn.body=some c){x:Xt}(hx:pN x= .normal∨pN x= .ret){jZ:T V}{du:T ak}{eo:Id}(s:ep P gl c fn.ntmps .e .e [] .nil x jZ du eo .nil){y:V}(hy:mC P du jZ fn.results.toList=some y):
 fh P gl f .nil .e [] (one y) du eo:=by
 refine⟨hE f fn hf (by rw[hc];simp),s.1,?_⟩
 intro L E w vs hL hv hH hF hG
 refine callsIn_of_wp_marks (F:=Fence.wide) hf hc trivial ?_ rfl
 obtain⟨fr1,fr2⟩:=pP (n:=fn.ntmps) hv
 refine s.2 none L E {tmps:=vs.toArray++Array.replicate (fn.ntmps -vs.toArray.size) undef,defers:=[]} w hL ⟨fr1,fr2,hH,hF,hG⟩ (Or.inl ⟨rfl,show RD E .nil [] from rfl⟩) _ ?_
 intro E1 a1 w1 k1 k2 k3
 have hrd:RD E1 .nil a1.defers:=by
  rcases k2 with⟨_,k2⟩|⟨_,_,_,k2,_⟩
  ·exact k2
  ·cases k2
 have hrd:a1.defers= []:=hrd
 obtain⟨u,u1,u2⟩:=lU (P:=P) (w:=w1) k1.vt k1.vh hy
 have leave:LeavesInM (Fr none) 0 P fn a1.tmps (fun e w'=>∃u E',e= .returned u∧RV E' (one y) u∧RH E' du w'∧bW L eo E'∧Ex .e [] E w du eo E' w') a1.defers .returning w1:=by
  rw[hrd]
  exact⟨u,u1,u,E1,rfl,u2,k1.vh,k1.vf,k3⟩
 rcases hx with hx|hx
 ·rw[hx];exact leave
 ·rw[hx];exact leave
end
end Go.Cm
namespace Go.Cm
abbrev cH:Nat:=4294967296
def cR(a k:Nat):Nat:=(a >>> k) ||| ((a <<< (32 -k)) % cH)
theorem Gn:cH=2^32:=rfl
theorem kB{a:Nat}(h:a<cH){i:Nat}(hi:32≤i):a.testBit i=false:=
 Nat.testBit_lt_two_pow (Nat.lt_of_lt_of_le (show a<2^32 from h) (Nat.pow_le_pow_right (by decide) hi))
theorem wa{a:Nat}(h:a<cH){k:Nat}(_h1:1≤k)(h2:k≤31)(i:Nat):(cR a k).testBit i=(decide (i<32)&&a.testBit ((i+k) % 32)):=by
 unfold cR
 rw[Nat.testBit_or,Nat.testBit_shiftRight,Gn,Nat.testBit_mod_two_pow,Nat.testBit_shiftLeft]
 by_cases hi:i<32
 ·by_cases hk:i+k<32
  ·have e:(i+k) % 32=k+i:=by omega
   have:¬32 -k≤i:=by omega
   simp[hi,e,this]
  ·have e:(i+k) % 32=i -(32 -k):=by omega
   have g:32 -k≤i:=by omega
   have z:a.testBit (k+i)=false:=kB h (by omega)
   simp[hi,e,g,z]
 ·have z:a.testBit (k+i)=false:=kB h (by omega)
  simp[hi,z]
theorem fV{a:Nat}(h:a<cH){k:Nat}(h1:1≤k)(h2:k≤31):cR a k<cH:=by
 show cR a k<2^32
 refine Nat.lt_pow_two_of_testBit _ (fun i hi=>?_)
 rw[wa h h1 h2]
 have:¬i<32:=by omega
 simp[this]
theorem D7{a:Nat}(h:a<cH)(i:Nat):(tc a).testBit i=(decide (i<64)&&a.testBit (i % 32)):=by
 have e:tc a=a <<< 32+a:=by
  show a*4294967297=_
  rw[Nat.shiftLeft_eq];omega
 rw[e,Nat.shiftLeft_add_eq_or_of_lt h,Nat.testBit_or,Nat.testBit_shiftLeft]
 by_cases h1:i<32
 ·have e1:i % 32=i:=by omega
  have:¬32≤i:=by omega
  simp[this,e1,show i<64 by omega]
 ·by_cases h2:i<64
  ·have e1:i % 32=i -32:=by omega
   have z:a.testBit i=false:=kB h (by omega)
   simp[h2,e1,z,show 32≤i by omega]
  ·have z:a.testBit i=false:=kB h (by omega)
   have z2:a.testBit (i -32)=false:=kB h (by omega)
   simp[h2,z,z2]
theorem m8{a:Nat}(h:a<cH){k:Nat}(h1:1≤k)(h2:k≤31)(i:Nat)(hi:i<32):(Nat.shiftRight (tc a) k).testBit i=(cR a k).testBit i:=by
 show((tc a) >>> k).testBit i=_
 rw[Nat.testBit_shiftRight,D7 h,wa h h1 h2]
 have e:(k+i) % 32=(i+k) % 32:=by omega
 simp[hi,e,show k+i<64 by omega]
theorem yP{a:Nat}(h:a<cH){i j k:Nat}(i1:1≤i)(i2:i≤31)(j1:1≤j)(j2:j≤31)(k1:1≤k)(k2:k≤31):AQ i j k (tc a)=cR a i ^^^ cR a j ^^^ cR a k:=by
 refine Nat.eq_of_testBit_eq (fun n=>?_)
 show(((tc a).shiftRight i ^^^ (tc a).shiftRight j ^^^ (tc a).shiftRight k) % 2^32).testBit n=_
 rw[Nat.testBit_mod_two_pow]
 by_cases hn:n<32
 ·rw[decide_eq_true hn,Bool.true_and,Nat.testBit_xor,Nat.testBit_xor,m8 h i1 i2 n hn,m8 h j1 j2 n hn,m8 h k1 k2 n hn,Nat.testBit_xor,Nat.testBit_xor]
 ·rw[decide_eq_false hn,Bool.false_and,Nat.testBit_xor,Nat.testBit_xor,kB (fV h i1 i2) (by omega),kB (fV h j1 j2) (by omega),kB (fV h k1 k2) (by omega)]
  rfl
theorem yQ{a:Nat}(h:a<cH){i j k:Nat}(i1:1≤i)(i2:i≤31)(j1:1≤j)(j2:j≤31):AR i j k a (tc a)=cR a i ^^^ cR a j ^^^ (a >>> k):=by
 refine Nat.eq_of_testBit_eq (fun n=>?_)
 show((((tc a).shiftRight i ^^^ (tc a).shiftRight j) % 2^32) ^^^ (a >>> k)).testBit n=_
 rw[Nat.testBit_xor,Nat.testBit_mod_two_pow,Nat.testBit_xor,Nat.testBit_xor,Nat.testBit_xor]
 by_cases hn:n<32
 ·rw[decide_eq_true hn,Bool.true_and,m8 h i1 i2 n hn,m8 h j1 j2 n hn]
 ·rw[decide_eq_false hn,Bool.false_and,kB (fV h i1 i2) (by omega),kB (fV h j1 j2) (by omega)]
  rfl
def KQ(e f g:Nat):Nat:=(e &&& f) ^^^ ((4294967295 ^^^ e) &&& g)
def Ij(a b c:Nat):Nat:=(a &&& b) ^^^ (a &&& c) ^^^ (b &&& c)
theorem Gp{e f g:Nat}(hg:g<cH):I9 e f g=KQ e f g:=by
 refine Nat.eq_of_testBit_eq (fun n=>?_)
 show(g ^^^ (e &&& (f ^^^ g))).testBit n=((e &&& f) ^^^ ((4294967295 ^^^ e) &&& g)).testBit n
 simp only[Nat.testBit_xor,Nat.testBit_and]
 by_cases hn:n<32
 ·have:(4294967295:Nat).testBit n=true:=by
   rw[show(4294967295:Nat)=2^32 -1 from rfl,Nat.testBit_two_pow_sub_one];exact decide_eq_true hn
  rw[this]
  cases e.testBit n<;>cases f.testBit n<;>cases g.testBit n<;>rfl
 ·rw[kB hg (by omega)]
  cases e.testBit n<;>cases f.testBit n<;>simp
theorem Gq(a b c:Nat):Ja a b c=Ij a b c:=by
 refine Nat.eq_of_testBit_eq (fun n=>?_)
 show((a &&& b) ||| (c &&& (a ||| b))).testBit n=((a &&& b) ^^^ (a &&& c) ^^^ (b &&& c)).testBit n
 simp only[Nat.testBit_xor,Nat.testBit_and,Nat.testBit_or]
 cases a.testBit n<;>cases b.testBit n<;>cases c.testBit n<;>rfl
def pk:List Nat→Nat
 |[]=>0
 |a::l=>a+cH*pk l
def c5(l:List Nat):Prop:=∀x∈l,x<cH
theorem BT:∀{l:List Nat},c5 l→pk l<2^(32*l.length)
 |[],_=>by simp[pk]
 |
  a::l,h=>by
  have ih:=BT (l:=l) (fun x hx=>h x (List.mem_cons_of_mem _ hx))
  have ha:=h a (List.mem_cons_self ..)
  rw[List.length_cons,show 32*(l.length+1)=32*l.length+32 by omega,Nat.pow_add]
  simp only[pk]
  have:(2:Nat)^32=cH:=rfl
  rw[this]
  have h2:cH*(pk l+1)≤cH*2^(32*l.length):=Nat.mul_le_mul_left _ ih
  rw[Nat.mul_add] at h2
  rw[Nat.mul_comm (2^(32*l.length))]
  omega
theorem qp:∀(l m:List Nat),pk (l++m)=pk l+2^(32*l.length)*pk m
 |[],m=>by simp[pk]
 |
  a::l,m=>by
  rw[List.cons_append]
  simp only[pk]
  rw[qp l m,List.length_cons,show 32*(l.length+1)=32+32*l.length by omega,Nat.pow_add,Nat.mul_add,Nat.add_assoc,Nat.mul_assoc]
theorem n7(l m:List Nat)(h:c5 l):pk (l++m) / 2^(32*l.length)=pk m:=by
 rw[qp,Nat.add_mul_div_left _ _ (Nat.two_pow_pos _),Nat.div_eq_of_lt (BT h),Nat.zero_add]
theorem Gr(l m:List Nat)(h:c5 l):pk (l++m) % 2^(32*l.length)=pk l:=by
 rw[qp,Nat.add_mul_mod_self_left,Nat.mod_eq_of_lt (BT h)]
theorem iA(l m:List Nat)(a:Nat)(h:c5 l)(ha:a<cH):wd (pk (l++a::m)) (32*l.length)=a:=by
 show(pk (l++a::m)) >>> (32*l.length) % 4294967296=a
 rw[Nat.shiftRight_eq_div_pow,n7 l _ h]
 show(a+cH*pk m) % cH=a
 rw[Nat.add_mul_mod_self_left,Nat.mod_eq_of_lt ha]
def LF(x:Nat):Nat:=cR x 7 ^^^ cR x 18 ^^^ (x >>> 3)
def LG(x:Nat):Nat:=cR x 17 ^^^ cR x 19 ^^^ (x >>> 10)
def LH(x:Nat):Nat:=cR x 2 ^^^ cR x 13 ^^^ cR x 22
def LI(x:Nat):Nat:=cR x 6 ^^^ cR x 11 ^^^ cR x 25
def T1(k w e f g h:Nat):Nat:=h+LI e+KQ e f g+(k+w)
def T2(a b c:Nat):Nat:=LH a+Ij a b c
structure S8 where
 (a b c d e f g h:Nat)
def S8.l(s:S8):List Nat:=[s.a,s.b,s.c,s.d,s.e,s.f,s.g,s.h]
def S8.nx(s:S8)(k w:Nat):S8:=
 ⟨(T1 k w s.e s.f s.g s.h+T2 s.a s.b s.c) % cH,s.a,s.b,s.c,(s.d+T1 k w s.e s.f s.g s.h) % cH,s.e,s.f,s.g⟩
theorem S8.BU{s:S8}(h:c5 s.l)(k w:Nat):c5 (s.nx k w).l:=by
 intro x hx
 simp only[S8.l,S8.nx,List.mem_cons,List.not_mem_nil,or_false] at hx
 have hh:∀y∈s.l,y<cH:=h
 simp only[S8.l,List.mem_cons,List.not_mem_nil,or_false,forall_eq_or_imp,forall_eq] at hh
 obtain⟨h1,h2,h3,h4,h5,h6,h7,h8⟩:=hh
 rcases hx with rfl|rfl|rfl|rfl|rfl|rfl|rfl|rfl
 ·exact Nat.mod_lt _ (by decide)
 ·exact h1
 ·exact h2
 ·exact h3
 ·exact Nat.mod_lt _ (by decide)
 ·exact h5
 ·exact h6
 ·exact h7
theorem c9:c5 []:=fun x hx=>by cases hx
theorem c5.cons{a:Nat}{l:List Nat}(ha:a<cH)(h:c5 l):c5 (a::l):=fun x hx=>by
 rcases List.mem_cons.1 hx with rfl|hx
 ·exact ha
 ·exact h x hx
theorem c5.tail{a:Nat}{l:List Nat}(h:c5 (a::l)):c5 l:=fun x hx=>h x (List.mem_cons_of_mem _ hx)
theorem c5.head{a:Nat}{l:List Nat}(h:c5 (a::l)):a<cH:=h a (List.mem_cons_self ..)
theorem E8(a b c:Nat)(m:List Nat)(h:c5 [a,b,c]):Nat.mod (pk (a::b::c::m)) 79228162514264337593543950336=pk [a,b,c]:=by
 have:=Gr [a,b,c] m h
 rw[show 32*[a,b,c].length=96 from rfl] at this
 rw[show(2:Nat)^96=79228162514264337593543950336 by decide] at this
 exact this
theorem D8{s:S8}(h:c5 s.l)(k:Nat){w0:Nat}{ws:List Nat}(hw:w0<cH):
 II (pk s.l) (t1 k (pk s.l) (pk (w0::ws)) (wd (pk s.l) 128)) (t2 (pk s.l) (wd (pk s.l) 0))=pk (s.nx k w0).l:=by
 obtain⟨a,b,c,d,e,f,g,hh⟩:=s
 have h1:=h.head
 have h2:=h.tail.head
 have h3:=h.tail.tail.head
 have h4:=h.tail.tail.tail.head
 have h5:=h.tail.tail.tail.tail.head
 have h6:=h.tail.tail.tail.tail.tail.head
 have h7:=h.tail.tail.tail.tail.tail.tail.head
 have h8:=h.tail.tail.tail.tail.tail.tail.tail.head
 have L1:c5 [a]:=c5.cons h1 c9
 have L2:c5 [a,b]:=c5.cons h1 (c5.cons h2 c9)
 have L3:c5 [a,b,c]:=c5.cons h1 (c5.cons h2 (c5.cons h3 c9))
 have L4:c5 [a,b,c,d]:=c5.cons h1 (c5.cons h2 (c5.cons h3 (c5.cons h4 c9)))
 have L5:c5 [a,b,c,d,e]:=c5.cons h1 (c5.cons h2 (c5.cons h3 (c5.cons h4 (c5.cons h5 c9))))
 have L6:c5 [a,b,c,d,e,f]:=c5.cons h1 (c5.cons h2 (c5.cons h3 (c5.cons h4 (c5.cons h5 (c5.cons h6 c9)))))
 have L7:c5 [a,b,c,d,e,f,g]:=c5.cons h1 (c5.cons h2 (c5.cons h3 (c5.cons h4 (c5.cons h5 (c5.cons h6 (c5.cons h7 c9))))))
 have R3:c5 [e,f,g]:=c5.cons h5 (c5.cons h6 (c5.cons h7 c9))
 have d0:wd (pk [a,b,c,d,e,f,g,hh]) 0=a:=iA [] _ a c9 h1
 have d1:wd (pk [a,b,c,d,e,f,g,hh]) 32=b:=iA [a] _ b L1 h2
 have d2:wd (pk [a,b,c,d,e,f,g,hh]) 64=c:=iA [a,b] _ c L2 h3
 have d3:wd (pk [a,b,c,d,e,f,g,hh]) 96=d:=iA [a,b,c] _ d L3 h4
 have d4:wd (pk [a,b,c,d,e,f,g,hh]) 128=e:=iA [a,b,c,d] _ e L4 h5
 have d5:wd (pk [a,b,c,d,e,f,g,hh]) 160=f:=iA [a,b,c,d,e] _ f L5 h6
 have d6:wd (pk [a,b,c,d,e,f,g,hh]) 192=g:=iA [a,b,c,d,e,f] _ g L6 h7
 have d7:wd (pk [a,b,c,d,e,f,g,hh]) 224=hh:=iA [a,b,c,d,e,f,g] _ hh L7 h8
 have dw:wd (pk (w0::ws)) 0=w0:=iA [] ws w0 c9 hw
 have m1:Nat.mod (pk [a,b,c,d,e,f,g,hh]) 79228162514264337593543950336=pk [a,b,c]:=E8 a b c [d,e,f,g,hh] L3
 have m2:Nat.shiftRight (pk [a,b,c,d,e,f,g,hh]) 128=pk [e,f,g,hh]:=by
  show pk [a,b,c,d,e,f,g,hh] >>> 128=_
  rw[Nat.shiftRight_eq_div_pow]
  exact n7 [a,b,c,d] [e,f,g,hh] L4
 have m3:Nat.mod (pk [e,f,g,hh]) 79228162514264337593543950336=pk [e,f,g]:=E8 e f g [hh] R3
 have et1:t1 k (pk [a,b,c,d,e,f,g,hh]) (pk (w0::ws)) e=T1 k w0 e f g hh:=by
  show wd (pk [a,b,c,d,e,f,g,hh]) 224+AQ 6 11 25 (tc e)+I9 e (wd (pk [a,b,c,d,e,f,g,hh]) 160) (wd (pk [a,b,c,d,e,f,g,hh]) 192)+(k+wd (pk (w0::ws)) 0)=_
  rw[d5,d6,d7,dw,yP h5 (by omega) (by omega) (by omega) (by omega) (by omega) (by omega),Gp h7];rfl
 have et2:t2 (pk [a,b,c,d,e,f,g,hh]) a=T2 a b c:=by
  show AQ 2 13 22 (tc a)+Ja a (wd (pk [a,b,c,d,e,f,g,hh]) 32) (wd (pk [a,b,c,d,e,f,g,hh]) 64)=_
  rw[d1,d2,yP h1 (by omega) (by omega) (by omega) (by omega) (by omega) (by omega),Gq];rfl
 show II (pk [a,b,c,d,e,f,g,hh]) (t1 k (pk [a,b,c,d,e,f,g,hh]) (pk (w0::ws)) (wd (pk [a,b,c,d,e,f,g,hh]) 128)) (t2 (pk [a,b,c,d,e,f,g,hh]) (wd (pk [a,b,c,d,e,f,g,hh]) 0))=_
 rw[d4,d0,et1,et2]
 show(T1 k w0 e f g hh+T2 a b c) % 4294967296+Nat.mod (pk [a,b,c,d,e,f,g,hh]) 79228162514264337593543950336*4294967296+((wd (pk [a,b,c,d,e,f,g,hh]) 96+T1 k w0 e f g hh) % 4294967296+Nat.mod (Nat.shiftRight (pk [a,b,c,d,e,f,g,hh]) 128) 79228162514264337593543950336*4294967296)*340282366920938463463374607431768211456=_
 rw[d3,m1,m2,m3]
 show _=pk ([(T1 k w0 e f g hh+T2 a b c) % cH,a,b,c]++[(d+T1 k w0 e f g hh) % cH,e,f,g])
 rw[qp]
 rw[show(2:Nat)^(32*[(T1 k w0 e f g hh+T2 a b c) % cH,a,b,c].length)=340282366920938463463374607431768211456 from(by decide:(2:Nat)^128=340282366920938463463374607431768211456)]
 simp only[pk,cH]
 generalize (T1 k w0 e f g hh+T2 a b c) % 4294967296=X
 generalize (d+T1 k w0 e f g hh) % 4294967296=Y
 omega
def nw(x0 x1 x9 mq:Nat):Nat:=(x0+LF x1+(x9+LG mq)) % cH
theorem JW:(2:Nat)^(32*15)=3121748550315992231381597229793166305748598142664971150859156959625371738819765620120306103063491971159826931121406622895447975679288285306290176:=by decide+kernel
theorem D9(l:List Nat)(hl:l.length=15)(y:Nat):pk (l++[y])=pk l+y*3121748550315992231381597229793166305748598142664971150859156959625371738819765620120306103063491971159826931121406622895447975679288285306290176:=by
 have e:pk [y]=y:=by show y+cH*0=y;omega
 rw[qp,hl,JW,e,Nat.mul_comm]
theorem Ea{l:List Nat}(h:c5 l)(hl:l.length=16):Jc (pk l)=pk (l.drop 1++[nw (l.getD 0 0) (l.getD 1 0) (l.getD 9 0) (l.getD 14 0)]):=by
 match l,hl with
 |
  [x0,x1,x2,x3,x4,x5,x6,x7,x8,x9,pn,po,oJ,rA,mq,uG],_=>
  have hx:∀y∈[x0,x1,x2,x3,x4,x5,x6,x7,x8,x9,pn,po,oJ,rA,mq,uG],y<cH:=h
  have sub:∀m:List Nat,(∀y∈m,y∈[x0,x1,x2,x3,x4,x5,x6,x7,x8,x9,pn,po,oJ,rA,mq,uG])→c5 m:=fun m hm y hy=>h y (hm y hy)
  have d0:wd (pk [x0,x1,x2,x3,x4,x5,x6,x7,x8,x9,pn,po,oJ,rA,mq,uG]) 0=x0:=iA [] _ x0 c9 (hx _ (by simp))
  have d1:wd (pk [x0,x1,x2,x3,x4,x5,x6,x7,x8,x9,pn,po,oJ,rA,mq,uG]) 32=x1:=iA [x0] _ x1 (sub _ (by simp)) (hx _ (by simp))
  have d9:wd (pk [x0,x1,x2,x3,x4,x5,x6,x7,x8,x9,pn,po,oJ,rA,mq,uG]) 288=x9:=iA [x0,x1,x2,x3,x4,x5,x6,x7,x8] _ x9 (sub _ (by simp)) (hx _ (by simp))
  have d14:wd (pk [x0,x1,x2,x3,x4,x5,x6,x7,x8,x9,pn,po,oJ,rA,mq,uG]) 448=mq:=iA [x0,x1,x2,x3,x4,x5,x6,x7,x8,x9,pn,po,oJ,rA] _ mq (sub _ (by simp)) (hx _ (by simp))
  have e1:x1<cH:=hx _ (by simp)
  have Jo:mq<cH:=hx _ (by simp)
  have sh:Nat.shiftRight (pk [x0,x1,x2,x3,x4,x5,x6,x7,x8,x9,pn,po,oJ,rA,mq,uG]) 32=pk [x1,x2,x3,x4,x5,x6,x7,x8,x9,pn,po,oJ,rA,mq,uG]:=by
   show(pk ([x0]++[x1,x2,x3,x4,x5,x6,x7,x8,x9,pn,po,oJ,rA,mq,uG])) >>> 32=_
   rw[Nat.shiftRight_eq_div_pow]
   exact n7 [x0] _ (sub _ (by simp))
  have ew:Jb (pk [x0,x1,x2,x3,x4,x5,x6,x7,x8,x9,pn,po,oJ,rA,mq,uG]) x1 mq=nw x0 x1 x9 mq:=by
   show(wd (pk [x0,x1,x2,x3,x4,x5,x6,x7,x8,x9,pn,po,oJ,rA,mq,uG]) 0+AR 7 18 3 x1 (tc x1)+(wd (pk [x0,x1,x2,x3,x4,x5,x6,x7,x8,x9,pn,po,oJ,rA,mq,uG]) 288+AR 17 19 10 mq (tc mq))) % 4294967296=_
   rw[d0,d9,yQ e1 (by omega) (by omega) (by omega) (by omega),yQ Jo (by omega) (by omega) (by omega) (by omega)];rfl
  show Nat.shiftRight (pk [x0,x1,x2,x3,x4,x5,x6,x7,x8,x9,pn,po,oJ,rA,mq,uG]) 32+Jb (pk [x0,x1,x2,x3,x4,x5,x6,x7,x8,x9,pn,po,oJ,rA,mq,uG]) (wd (pk [x0,x1,x2,x3,x4,x5,x6,x7,x8,x9,pn,po,oJ,rA,mq,uG]) 32) (wd (pk [x0,x1,x2,x3,x4,x5,x6,x7,x8,x9,pn,po,oJ,rA,mq,uG]) 448)*3121748550315992231381597229793166305748598142664971150859156959625371738819765620120306103063491971159826931121406622895447975679288285306290176=_
  rw[d1,d14,sh,ew]
  show _=pk ([x1,x2,x3,x4,x5,x6,x7,x8,x9,pn,po,oJ,rA,mq,uG]++[nw x0 x1 x9 mq])
  rw[D9 _ rfl]
end Go.Cm
namespace Go.Cm
def Af(ws:List Nat):List Nat:=ws.drop 1++[nw (ws.getD 0 0) (ws.getD 1 0) (ws.getD 9 0) (ws.getD 14 0)]
def ub:List Nat→S8→List Nat→S8
 |[],s,_=>s
 |k::ks,s,ws=>ub ks (s.nx k (ws.getD 0 0)) (Af ws)
theorem BV{ws:List Nat}(h:c5 ws):c5 (Af ws):=by
 intro x hx
 rcases List.mem_append.1 hx with hx|hx
 ·exact h x (List.mem_of_mem_drop hx)
 ·have:x=_:=List.mem_singleton.1 hx
  subst this
  exact Nat.mod_lt _ (by decide)
theorem BW{ws:List Nat}(h:ws.length=16):(Af ws).length=16:=by
 simp[Af,h]
theorem sG:∀(ks:List Nat)(s:S8)(ws:List Nat),c5 s.l→c5 ws→ws.length=16→rounds ks (pk s.l) (pk ws)=pk (ub ks s ws).l∧c5 (ub ks s ws).l
 |[],s,ws,h,_,_=>⟨rfl,h⟩
 |
  k::ks,s,ws,h,hw,hl=>by
  show(fN (t1 k (pk s.l) (pk ws) (wd (pk s.l) 128)) fun t=>fN (II (pk s.l) t (t2 (pk s.l) (wd (pk s.l) 0))) fun s'=>fN (Jc (pk ws)) fun w'=>rounds ks s' w')=_∧_
  rw[cF,cF,cF,Ea hw hl]
  match ws,hl with
  |
   w0::ws,hl=>
   rw[D8 h k hw.head]
   exact sG ks _ _ (S8.BU h k w0) (BV hw) (BW hl)
def S8.add(s t:S8):S8:=⟨(s.a+t.a) % cH,(s.b+t.b) % cH,(s.c+t.c) % cH,(s.d+t.d) % cH,(s.e+t.e) % cH,(s.f+t.f) % cH,(s.g+t.g) % cH,(s.h+t.h) % cH⟩
theorem S8.Eb(s t:S8):c5 (s.add t).l:=by
 intro x hx
 simp only[S8.l,S8.add,List.mem_cons,List.not_mem_nil,or_false] at hx
 rcases hx with rfl|rfl|rfl|rfl|rfl|rfl|rfl|rfl<;>exact Nat.mod_lt _ (by decide)
theorem yR:∀(l m:List Nat),l.length=m.length→c5 l→c5 m→AS l.length (pk l) (pk m)=pk (List.zipWith (fun x y=>(x+y) % cH) l m)
 |[],[],_,_,_=>rfl
 |
  a::l,b::m,h,h1,h2=>by
  show(pk (a::l)+pk (b::m)) % 4294967296+AS l.length ((pk (a::l)) >>> 32) ((pk (b::m)) >>> 32)*4294967296=_
  have e1:(pk (a::l)) >>> 32=pk l:=by
   rw[Nat.shiftRight_eq_div_pow];exact n7 [a] l (c5.cons h1.head c9)
  have e2:(pk (b::m)) >>> 32=pk m:=by
   rw[Nat.shiftRight_eq_div_pow];exact n7 [b] m (c5.cons h2.head c9)
  rw[e1,e2,yR l m (by simpa using h) h1.tail h2.tail]
  have e3:(pk (a::l)+pk (b::m)) % 4294967296=(a+b) % 4294967296:=by
   simp only[pk,cH];omega
  rw[e3]
  simp only[List.zipWith_cons_cons,pk,cH]
  rw[Nat.mul_comm]
theorem Ec{s t:S8}(h1:c5 s.l)(h2:c5 t.l):AS 8 (pk s.l) (pk t.l)=pk (s.add t).l:=yR s.l t.l rfl h1 h2
def yS(l:List Nat):Prop:=∀x∈l,x<256
def E9(a b c d:Nat):Nat:=((a*256+b)*256+c)*256+d
def gi:Nat→List Nat→List Nat
 |0,_=>[]
 |n+1,l=>E9 (l.getD 0 0) (l.getD 1 0) (l.getD 2 0) (l.getD 3 0)::gi n (l.drop 4)
theorem m9:∀n l,(gi n l).length=n
 |0,_=>rfl
 |n+1,l=>by simp[gi,m9 n]
theorem qq:∀{n:Nat}{l:List Nat},yS l→c5 (gi n l)
 |0,_,_=>c9
 |
  n+1,l,h=>by
  have g:∀i,l.getD i 0<256:=by
   intro i
   rw[List.getD_eq_getElem?_getD]
   cases hi:l[i]? with
   |none=>simp
   |some x=>exact h x (List.mem_of_getElem? hi)
  refine c5.cons ?_ (qq (fun x hx=>h x (List.mem_of_mem_drop hx)))
  have:=g 0;have:=g 1;have:=g 2;have:=g 3
  simp only[E9,cH];omega
theorem four{l:List Nat}{n:Nat}(h:4*(n+1)≤l.length):∃a b c d m,l=a::b::c::d::m:=by
 cases l with
 |nil=>simp at h
 |
  cons a l=>cases l with
  |nil=>simp only[List.length_cons,List.length_nil] at h;omega
  |
   cons b l=>cases l with
   |nil=>simp only[List.length_cons,List.length_nil] at h;omega
   |
    cons c l=>cases l with
    |nil=>simp only[List.length_cons,List.length_nil] at h;omega
    |cons d l=>exact⟨a,b,c,d,l,rfl⟩
noncomputable def Ed{α:Type}(k:Nat→List Nat→Option α)(a b c d:Nat)(w:Nat)(l:List Nat):Option α:=
 fN (Nat.add (Nat.add (Nat.mul (Nat.add (Nat.mul (Nat.add (Nat.mul a 256) b) 256) c) 256) d) (Nat.mul w 4294967296)) fun w=>k w l
theorem xD{α:Type}(n:Nat)(l:List Nat)(k:Nat→List Nat→Option α):
 words (n+1) l k=@List.casesOn Nat (fun _=>Option α) l none fun a l=>@List.casesOn Nat (fun _=>Option α) l none fun b l=>@List.casesOn Nat (fun _=>Option α) l none fun c l=>@List.casesOn Nat (fun _=>Option α) l none fun d l=>words n l (Ed k a b c d):=rfl
theorem xE{α:Type}(n a b c d:Nat)(l:List Nat)(k:Nat→List Nat→Option α):words (n+1) (a::b::c::d::l) k=words n l (Ed k a b c d):=by
 rw[xD]
theorem Ee{α:Type}(k:Nat→List Nat→Option α)(a b c d w:Nat)(l:List Nat):Ed k a b c d w l=k (E9 a b c d+cH*w) l:=by
 unfold Ed
 rw[cF]
 have:Nat.add (Nat.add (Nat.mul (Nat.add (Nat.mul (Nat.add (Nat.mul a 256) b) 256) c) 256) d) (Nat.mul w 4294967296)=E9 a b c d+cH*w:=by
  rw[Nat.mul_comm cH];rfl
 rw[this]
theorem BX{α:Type}(n:Nat):∀(l:List Nat)(k:Nat→List Nat→Option α),4*n≤l.length→words n l k=k (pk (gi n l)) (l.drop (4*n)):=by
 induction n with
 |zero=>intro l k _;rfl
 |
  succ n ih=>
  intro l k h
  obtain⟨a,b,c,d,m,rfl⟩:=four h
  rw[xE,ih m _ (by simp only[List.length_cons] at h;omega),Ee]
  have e1:(a::b::c::d::m).drop (4*(n+1))=m.drop (4*n):=by
   rw[show 4*(n+1)=4+4*n by omega,←List.drop_drop];rfl
  rw[e1]
  rfl
def Ag(s:S8)(b:List Nat):S8:=s.add (ub jq s (gi 16 b))
def Ah:Nat→S8→List Nat→S8
 |0,s,_=>s
 |n+1,s,l=>Ah n (Ag s l) (l.drop 64)
theorem wc(s:S8)(b:List Nat):c5 (Ag s b).l:=S8.Eb _ _
theorem sH:∀(q n:Nat)(s:S8)(l:List Nat),q<n→l.length=64*q→yS l→c5 s.l→blocks n l (pk s.l)=some (pk (Ah q s l).l)∧c5 (Ah q s l).l
 |
  0,n+1,s,l,_,hl,_,hs=>by
  have:l= []:=List.eq_nil_of_length_eq_zero (by omega)
  subst this
  exact⟨rfl,hs⟩
 |
  q+1,n+1,s,l,hq,hl,hb,hs=>by
  match l,hl with
  |
   x::m,hl=>
   show(words 16 (x::m) fun w l=>fN (rounds jq (pk s.l) w) fun s'=>fN (AS 8 (pk s.l) s') fun h=>blocks n l h)=_∧_
   rw[BX 16 (x::m) _ (by rw[hl];omega),cF,cF]
   obtain⟨r1,r2⟩:=sG jq s (gi 16 (x::m)) hs (qq hb) (m9 _ _)
   rw[r1,Ec hs r2]
   exact sH q n _ _ (by omega) (by rw[List.length_drop,hl];omega) (fun y hy=>hb y (List.mem_of_mem_drop hy)) (wc s _)
theorem uc{α:Type}:∀(l m:List α),zJ l m=l++m
 |[],m=>rfl
 |a::l,m=>by show a::zJ l m=_;rw[uc l m];rfl
theorem we:∀(n:Nat)(l:List Nat),cQ n l=List.replicate n 0++l
 |0,l=>rfl
 |n+1,l=>by show 0::cQ n l=_;rw[we n l];rfl
def n8:Nat→Nat→List Nat
 |0,_=>[]
 |n+1,x=>n8 n (x >>> 8)++[x % 256]
theorem k9:∀(n x:Nat)(l:List Nat),lR n x l=n8 n x++l
 |0,x,l=>rfl
 |
  n+1,x,l=>by
  show(fN (Nat.mod x 256) fun y=>fN (Nat.shiftRight x 8) fun z=>lR n z (y::l))=_
  rw[cF,cF,k9 n]
  show n8 n (x >>> 8)++((x % 256)::l)=n8 n (x >>> 8)++[x % 256]++l
  rw[List.append_assoc];rfl
def ud(l:List Nat):List Nat:=l++(128::(List.replicate (63 -(l.length+8) % 64) 0++n8 8 (8*l.length)))
theorem Gs(l:List Nat):pad l=ud l:=by
 show(fN (my l) fun n=>zJ l (128::cQ (Nat.sub 63 (Nat.mod (Nat.add n 8) 64)) (lR 8 (Nat.mul 8 n) [])))=_
 rw[cF,im,uc,we,k9,List.append_nil]
 rfl
theorem wg:∀n x,(n8 n x).length=n
 |0,_=>rfl
 |n+1,x=>by simp[n8,wg n]
theorem qt:∀n x,yS (n8 n x)
 |0,_=>fun y hy=>by cases hy
 |
  n+1,x=>fun y hy=>by
  rcases List.mem_append.1 hy with h|h
  ·exact qt n _ y h
  ·have:y=x % 256:=List.mem_singleton.1 h
   subst this;exact Nat.mod_lt _ (by decide)
theorem wh(l:List Nat):(ud l).length=64*((l.length+72) / 64):=by
 simp only[ud,List.length_append,List.length_cons,List.length_replicate,wg]
 omega
theorem wj{l:List Nat}(h:yS l):yS (ud l):=by
 intro x hx
 rcases List.mem_append.1 hx with hx|hx
 ·exact h x hx
 ·rcases List.mem_cons.1 hx with rfl|hx
  ·decide
  ·rcases List.mem_append.1 hx with hx|hx
   ·have:x=0:=List.eq_of_mem_replicate hx
    omega
   ·exact qt _ _ x hx
def Ik(w:Nat):List Nat:=n8 4 w
theorem BY:∀(l:List Nat),c5 l→GJ l.length (pk l)=(l.map Ik).flatten
 |[],_=>rfl
 |
  a::l,h=>by
  show lR 4 (wd (pk (a::l)) 0) (GJ l.length ((pk (a::l)) >>> 32))=_
  have e1:(pk (a::l)) >>> 32=pk l:=by
   rw[Nat.shiftRight_eq_div_pow];exact n7 [a] l (c5.cons h.head c9)
  rw[e1,BY l h.tail,k9,show wd (pk (a::l)) 0=a from iA [] l a c9 h.head]
  rfl
def H0:S8:=⟨1779033703,3144134277,1013904242,2773480762,1359893119,2600822924,528734635,1541459225⟩
def Il(l:List Nat):List Nat:=((Ah ((l.length+72) / 64) H0 (ud l)).l.map Ik).flatten
theorem BZ:c5 H0.l:=by
 intro x hx
 simp only[S8.l,H0,List.mem_cons,List.not_mem_nil,or_false] at hx
 rcases hx with rfl|rfl|rfl|rfl|rfl|rfl|rfl|rfl<;>decide
theorem Gt{l d:List Nat}(hb:yS l)(hl:l.length≤60000)(h:C2 l=some d):d=Il l:=by
 have e:(41557658498906279274860226408925318911382702236748615442085426012007055353447:Nat)=pk H0.l:=by decide
 obtain⟨r,h1,h2⟩:=ab (show(bO (blocks 1000 (pad l) 41557658498906279274860226408925318911382702236748615442085426012007055353447) fun r=>some (GJ 8 r))=some d from h)
 rw[e,Gs] at h1
 obtain⟨g1,g2⟩:=sH ((l.length+72) / 64) 1000 H0 (ud l) (by omega) (wh l) (wj hb) BZ
 rw[g1] at h1
 cases h1
 cases h2
 exact BY (Ah ((l.length+72) / 64) H0 (ud l)).l g2
end Go.Cm
namespace Go.Cm
def KR(gl:List V)(w:World):Prop:=
 ∀g x,eD gl g=some x→∃l cs e fz,x= .agg l∧w.heap[g]? =some (.cells cs e fz)∧(∃xs ys,cs.toList=xs++ys∧∀E,aQ E l xs)∧l.bU=true
section
variable{P:Program} {gl:List V} {C:Abs.Ctx}
theorem xF(hB:∀(E:Abs.Env) w,Abs.tG C E w→KR gl w){f:FuncId}{b:Bool}{hp':T ak}{nx':Id}(h:fh P gl f .nil .e [] (.b b) hp' nx')(H:List (Option Abs.ak)):Abs.Fc P C f [] H (.ret (.val .bool b)) H:=by
 obtain⟨h1,h2,h3⟩:=h
 refine⟨h1,?_⟩
 intro E w vs hv hw
 have hvs:vs= []:=by
  cases vs with
  |nil=>rfl
  |cons _ _=>exact hv.elim
 subst hvs
 have:=h3 (num nx') E0 w [] (Nat.le_refl _) (by simp[aQ]) Ie BQ (fun g y hy=>⟨vW,hB E w hw.gl g y hy⟩)
 refine callsIn_wide.1 (CallsIn.mono (F:=Fence.wide) this ?_)
 rintro e w' ⟨u,E',rfl,q1,q2,q3,q4⟩
 have hk:∀g,g<w.heap.size→w'.heap[g]? =w.heap[g]? :=fun g hg=>q4.kept g hg vW
 have kp:Abs.bp E w E w':=⟨fun b hb=>hk b (hw.slt b hb),fun _ h=>h⟩
 have lt:∀b k g,H[b]? =some (some k)→E.g b=some g→g<w.heap.size→w'.heap[g]? =w.heap[g]? :=fun b k g _ _ hg=>hk g hg
 have same:∀(b:Nat)(k:Abs.ak),H[b]? =some (some k)→∀g,E.g b=some g→w'.heap[g]? =w.heap[g]? :=by
  intro b k hb g hg
  by_cases hlt:g<w.heap.size
  ·exact hk g hlt
  ·have hB:=hw.bL b k hb
   exfalso
   have some_at:∀{o:Obj},w.heap[g]? =some o→False:=fun h=>hlt (Array.getElem?_eq_some_iff.1 h).1
   cases k with
   |var t v=>obtain⟨_,_,g',c,e,h3,h4,_⟩:=hB;rw[hg] at h3;cases h3;exact some_at h4
   |
    row e bs t xs=>
    obtain⟨_,_,_,_,a,cap,_,_,h5⟩:=hB
    rcases h5 with⟨_,h6,_⟩|⟨g',c,h6,_,h7,_⟩
    ·rw[hg] at h6;cases h6
    ·rw[hg] at h6;cases h6;exact some_at h7
   |map k v es=>obtain⟨_,_,g',en,cl,h3,h4,_⟩:=hB;rw[hg] at h3;cases h3;exact some_at h4
   |lp l r=>obtain⟨h3,h4⟩:=hB;rw[hg] at h3;cases h3;exact some_at h4
   |oR=>obtain⟨g',h3,h4⟩:=hB;rw[hg] at h3;cases h3;exact some_at h4
   |tv g' t v=>obtain⟨h3,_,_,c,e,h4,_⟩:=hB;rw[hg] at h3;cases h3;exact some_at h4
 simp only[RV] at q1
 subst q1
 refine⟨E,?_,⟨fun b k hb=>Abs.RB.mono kp (fun _ _=>⟨rfl,rfl,rfl⟩) (same b k hb) (hw.bL b k hb),hw.sep,hw.dm,fun g hg=>Nat.lt_of_lt_of_le (hw.slt g hg) q4.size,hw.gu kp⟩,⟨q4.os,q4.tape,q4.output,q4.size,fun g hg _=>hk g hg,fun _ h=>h,fun _ h=>Or.inl h,fun _ h=>Or.inl h,fun _ _=>⟨rfl,rfl,rfl⟩⟩⟩
 exact Or.inr ⟨rfl,rfl⟩
theorem qu{w:World}{S:Nat→Prop}:∀{s:List Nat},(∀x∈s,x<256)→Abs.aH (Abs.Rel w S (.int .u8)) (s.map (fun n:Nat=>Value.int .u8 (Int.ofNat n))) (s.map Int.ofNat)
 |[],_=>rfl
 |
  a::s,h=>by
  have ha:=h a (List.mem_cons_self ..)
  refine⟨[.int .u8 (Int.ofNat a)],s.map (fun n:Nat=>Value.int .u8 (Int.ofNat n)),rfl,⟨rfl,?_,?_⟩,qu (fun x hx=>h x (List.mem_cons_of_mem _ hx))⟩
  ·show(0:Int)≤Int.ofNat a
   exact Int.natCast_nonneg a
  ·show Int.ofNat a≤255
   have:(a:Int)≤255:=by omega
   exact this
theorem B0{E:Env}{hp:T ak}{w:World}(hH:RH E hp w){b:Id}{k:ak}(hk:get b hp=some k){l:V}{e:TypeId}(hke:k= .c l e∨k= .u l e){g:Nat}(hg:E.g b=some g){o n:Nat}{c:V}(hc:cA o n l=some c):
 g<w.heap.size∧∃cs:List Value,cs.length=n∧aQ E c cs∧Abs.j8 w ⟨g,o,none⟩ cs:=by
 obtain⟨g',ob,e1,e2,e3⟩:=hH.bL b k hk
 rw[hg] at e1;cases e1
 obtain⟨cs,fz,xs,ys,rfl,q1,q2,q3,q4,q5,_⟩:=RB.cells hke e3
 obtain⟨n1,n2,n3⟩:=hJ q2 hc
 refine⟨(Array.getElem?_eq_some_iff.1 e2).1,(xs.drop o).take n,by simp;omega,n2,?_⟩
 intro j v hj
 rw[List.getElem?_take] at hj
 split at hj
 ·rename_i hjn
  rw[List.getElem?_drop] at hj
  rw[dP,lj e2,←Array.getElem?_toList,q1,List.getElem?_append_left (by omega)]
  exact hj
 ·cases hj
theorem iB{E:Env}{hp:T ak}{w:World}(hH:RH E hp w){a:V}{u:Value}(hu:RV E a u){α:Type}{f:List Nat→Option α}{y:α}(hcap:AT a=true)(h:uP (fun b=>get b hp) a f=some y):
 ∃s,f s=some y∧(∀x∈s,x<256)∧(s.length≤Abs.az→Abs.Rel w (fun g=>g<w.heap.size) (.slice 1 (.int .u8)) [u] (s.map Int.ofNat)):=by
 have row:∀(b:Id)(o n cap g:Nat),n≤cap→E.g b=some g→u= .slice (some ⟨g,o,none⟩) n cap→(bO (get b hp) fun k=>k.cells fun l=>bO (cA o n l) fun c=>bO (bytesOf c) f)=some y→
  ∃s,f s=some y∧(∀x∈s,x<256)∧(s.length≤Abs.az→Abs.Rel w (fun g=>g<w.heap.size) (.slice 1 (.int .u8)) [u] (s.map Int.ofNat)):=by
  intro b o n cap g hnc hg hu h
  obtain⟨k,hk,h1⟩:=ab h
  obtain⟨l,e,hke,h2⟩:=bV h1
  obtain⟨c,hc,h3⟩:=ab h2
  obtain⟨s,hs,h4⟩:=ab h3
  obtain⟨hlt,cs,c1,c2,c3⟩:=B0 hH hk hke hg hc
  obtain⟨b1,b2⟩:=pL c2 hs
  have hsl:s.length=n:=by rw[←c1,b2];simp
  refine⟨s,h4,b1,fun hm=>?_⟩
  subst hu
  refine⟨some ⟨g,o,none⟩,cap,by simp[hsl],by simp;omega,by simp;omega,by simp;omega,Or.inr ⟨g,o,cs,rfl,hlt,c3,?_⟩⟩
  rw[b2]
  exact qu b1
 unfold uP at h
 cases hse:a.rr with
 |
  true=>
  rw[hse] at h
  have:=lg hse
  subst this
  simp only[RV] at hu
  obtain⟨a',c,rfl⟩:=hu
  exact⟨[],h,by simp,fun _=>⟨some a',c,rfl,Nat.zero_le _,by simp,by simp,Or.inl rfl⟩⟩
 |
  false=>
  rw[hse] at h
  rcases cP h with⟨b,o,n,c,rfl,h1⟩|⟨b,o,n,z,rfl,h1⟩|⟨rfl,h1⟩
  ·simp only[RV] at hu
   obtain⟨g,hg,rfl⟩:=hu
   exact row b o n c g (Nat.le_of_ble_eq_true hcap) hg rfl h1
  ·simp only[RV] at hu
   obtain⟨g,c,hg,rfl,hc,_⟩:=hu
   exact row b o n c g hc hg rfl h1
  ·simp only[RV] at hu
   subst hu
   exact⟨[],h1,by simp,fun _=>⟨none,0,rfl,Nat.zero_le _,by simp,by simp,Or.inl rfl⟩⟩
theorem B1{E:Env}{hp:T ak}{w:World}(hH:RH E hp w):∀{c:V}{us:List Value}{s:List Nat},aQ E c us→AU hp c=some s→s.length≤60000→
 ∃ps:List (List Nat),ps.flatten=s∧ps.length=us.length∧(∀p∈ps,∀x∈p,x<256)∧Abs.aH (Abs.Rel w (fun g=>g<w.heap.size) (.slice 1 (.int .u8))) us (ps.map (·.map Int.ofNat)):=by
 intro c
 induction c with
 |
  nil=>
  intro us s h k _
  rw[aQ.da] at h;subst h
  cases(show some []=some s from k)
  exact⟨[],rfl,rfl,by simp,rfl⟩
 |
  cons a l _ ih=>
  intro us s h k hl
  obtain⟨u,r,rfl,h1,h2⟩:=aQ.aG.1 h
  obtain⟨hcap,k1⟩:=al (show bF (AT a) (uP (fun b=>get b hp) a fun x=>bO (AU hp l) fun r=>some (zJ x r))=some s from k)
  obtain⟨p,k2,p1,p2⟩:=iB hH h1 hcap k1
  obtain⟨t,t1,t2⟩:=ab k2
  cases t2
  rw[uc] at hl ⊢
  rw[List.length_append] at hl
  obtain⟨ps,q1,q2,q3,q4⟩:=ih h2 t1 (by omega)
  refine⟨p::ps,by simp[q1],by simp[q2],?_,[u],r,rfl,p2 (by have:Abs.az=140737488355328:=rfl;omega),q4⟩
  intro q hq
  rcases List.mem_cons.1 hq with rfl|hq
  ·exact p1
  ·exact q3 q hq
 |_=>intro us s h;simp[aQ] at h
theorem Ai{w:World}{S:Nat→Prop}{n:Nat}{cs:List Value}{d:List Nat}(h:Abs.Rel w S (.arr n (.int .u8)) cs (d.map Int.ofNat)):cs=d.map (fun n:Nat=>Value.int .u8 (Int.ofNat n)):=by
 obtain⟨_,h⟩:=h
 have key:∀(d:List Nat)(cs:List Value),Abs.aH (Abs.Rel w S (.int .u8)) cs (d.map Int.ofNat)→cs=d.map (fun n:Nat=>Value.int .u8 (Int.ofNat n)):=by
  intro d
  induction d with
  |nil=>intro cs h;exact h
  |
   cons a d ih=>
   intro cs h
   obtain⟨v1,v2,rfl,⟨h1,_⟩,h2⟩:=h
   rw[h1,ih v2 h2];rfl
 exact key d cs h
theorem xG{hfn:Nat}{H H':List (Option Abs.ak)}(hH0:∀(b:Nat)(k:Abs.ak),H[b]? ≠some (some k))(hC:∀(E:Env)(hp:T ak)(w:World),GL gl hp E w→Abs.tG C (Abs.ei w) w)
 (hfc:∀(ps:List (List Nat))(d:List Nat),ps.length≤1000→ps.flatten.length≤60000→(∀p∈ps,∀x∈p,x<256)→C2 ps.flatten=some d→Abs.Fc P C hfn [.val (.slice 24 (.slice 1 (.int .u8))) (ps.map (·.map Int.ofNat))] H (.ret (.val (.arr 32 (.int .u8)) (d.map Int.ofNat))) H')
 (hent:∀vs w,(callFunc hfn vs).run P w= .ok (.enter hfn vs) w) (hby:∀s d,C2 s=some d→∀x∈d,x<256):
 ∀args hp v,rZ hp args=some v→∀nx,fh P gl hfn args hp nx v hp nx:=by
 intro args hp v hv nx
 refine⟨hent,Nat.le_refl _,?_⟩
 intro L E w vs _ hvs hH hF hG
 have main:∃(u:Value)(ps:List (List Nat))(d:List Nat),vs= [u]∧ps.length≤1000∧ps.flatten.length≤60000∧(∀p∈ps,∀x∈p,x<256)∧C2 ps.flatten=some d∧v= .agg (ll d)∧Abs.Rel w (fun g=>g<w.heap.size) (.slice 24 (.slice 1 (.int .u8))) [u] (ps.map (·.map Int.ofNat)):=by
  obtain⟨x,r,rfl,h1⟩:=bQ hv
  rcases cB h1 with⟨rfl,h2⟩|⟨_,_,_,h2⟩
  ·obtain⟨u,us,rfl,u1,u2⟩:=aQ.aG.1 hvs
   rw[aQ.da] at u2;subst u2
   have row:∀(b:Id)(o n cap g:Nat),n≤cap→E.g b=some g→u= .slice (some ⟨g,o,none⟩) n cap→AW hp b o n=some v→∃(u':Value)(ps:List (List Nat))(d:List Nat),[u]= [u']∧ps.length≤1000∧ps.flatten.length≤60000∧(∀p∈ps,∀x∈p,x<256)∧C2 ps.flatten=some d∧v= .agg (ll d)∧Abs.Rel w (fun g=>g<w.heap.size) (.slice 24 (.slice 1 (.int .u8))) [u'] (ps.map (·.map Int.ofNat)):=by
    intro b o n cap g hnc hg hu h
    obtain⟨hn,g1⟩:=al h
    obtain⟨k,hk,g2⟩:=ab g1
    obtain⟨l,e,hke,g3⟩:=bV g2
    obtain⟨c,hc,g4⟩:=ab g3
    obtain⟨s,hs,g5⟩:=ab g4
    obtain⟨hl,g6⟩:=al g5
    obtain⟨d,hd,g7⟩:=ab g6
    rw[kL] at g7
    cases g7
    rw[im] at hl
    obtain⟨hlt,cs,c1,c2,c3⟩:=B0 hH hk hke hg hc
    obtain⟨ps,p1,p2,p3,p4⟩:=B1 hH c2 hs (Nat.le_of_ble_eq_true hl)
    have hn:=Nat.le_of_ble_eq_true hn
    have hmx:Abs.az=140737488355328:=rfl
    have hpl:(ps.map (·.map Int.ofNat)).length=n:=by simp[p2,c1]
    subst hu
    refine⟨_,ps,d,rfl,by omega,by rw[p1];exact Nat.le_of_ble_eq_true hl,p3,by rw[p1];exact hd,rfl,some ⟨g,o,none⟩,cap,by rw[hpl],by rw[hpl];exact hnc,by rw[hpl];omega,by rw[hpl];omega,Or.inr ⟨g,o,cs,rfl,hlt,c3,p4⟩⟩
   rcases cP h2 with⟨b,o,n,c,rfl,h3⟩|⟨b,o,n,z,rfl,h3⟩|⟨rfl,h3⟩
   ·simp only[RV] at u1
    obtain⟨g,hg,rfl⟩:=u1
    obtain⟨hnc,h4⟩:=al h3
    exact row b o n c g (Nat.le_of_ble_eq_true hnc) hg rfl h4
   ·simp only[RV] at u1
    obtain⟨g,c,hg,rfl,hc,_⟩:=u1
    exact row b o n c g hc hg rfl h3
   ·simp only[RV] at u1
    subst u1
    obtain⟨d,hd,h4⟩:=ab h3
    rw[kL] at h4
    cases h4
    exact⟨_,[],d,rfl,by simp,by simp,by simp,by simpa using hd,rfl,none,0,rfl,Nat.zero_le _,by simp,by simp,Or.inl rfl⟩
  ·cases h2
 obtain⟨u,ps,d,rfl,m1,m2,m3,m4,rfl,m5⟩:=main
 have hx:=(hfc ps d m1 m2 m3 m4).2 (Abs.ei w) w [u] ⟨by
  show Abs.dv _ _ _ _
  exact Or.inr ⟨rfl,m5⟩,trivial⟩ ⟨fun b k hb=>absurd hb (hH0 b k),fun b b' k k' g hb=>absurd hb (hH0 b k),fun b k g hb=>absurd hb (hH0 b k),fun g hg=>hg,hC E hp w hG⟩
 refine CallsIn.mono (F:=Fence.wide) (callsIn_wide.2 hx) ?_
 rintro e w' ⟨E',r1,r2,r3⟩
 have no:∀g,¬Abs.Own H (Abs.ei w) g:=fun g ⟨b,k,hb,_⟩=>hH0 b k hb
 have hk:∀g,g<w.heap.size→w'.heap[g]? =w.heap[g]? :=fun g hg=>r3.kept g hg (no g)
 cases e with
 |
  returned v'=>
  have r1:Abs.dv E' w' (.val (.arr 32 (.int .u8)) (d.map Int.ofNat)) v':=r1
  rcases r1 with⟨_,cs,rfl,hc⟩|⟨hc,_⟩
  ·have hc:Abs.Rel w' E'.S (.arr 32 (.int .u8)) cs.toList (d.map Int.ofNat):=hc
   have hcs:=Ai hc
   refine⟨_,E,rfl,?_,⟨fun b k hb=>?_,hH.sep⟩,hF,⟨r3.os,r3.tape,r3.output,r3.size,fun g hg _=>hk g hg,fun g hg=>Or.inl hg,Nat.le_refl _,fun _ _=>⟨rfl,rfl⟩⟩⟩
   ·simp only[RV]
    obtain⟨s1,s2⟩:=pb (E:=E) (hby _ _ m4)
    refine⟨cs,rfl,?_,s2⟩
    rw[hcs]
    have:d.map (fun n:Nat=>Value.int .u8 (Int.ofNat n))=d.map fun b=>Value.int .u8 ((UInt8.ofNat b).toNat:Int):=by
     apply List.map_congr_left
     intro x hx
     have:=hby _ _ m4 x hx
     rw[UInt8.toNat_ofNat_of_lt' (by simpa using this)];rfl
    rw[this];exact s1
   ·obtain⟨g,o,q1,q2,q3⟩:=hH.bL b k hb
    exact⟨g,o,q1,by rw[hk g (Array.getElem?_eq_some_iff.1 q2).1];exact q2,q3⟩
  ·cases hc
 |_=>exact r1.elim
theorem Ef{s d:List Nat}(h:C2 s=some d):∀x∈d,x<256:=by
 obtain⟨r,h1,h2⟩:=ab h
 cases h2
 have key:∀n x,yS (GJ n x):=by
  intro n
  induction n with
  |zero=>intro x y hy;cases hy
  |
   succ n ih=>
   intro x
   show yS (lR 4 (wd x 0) (GJ n (x >>> 32)))
   rw[k9]
   intro y hy
   rcases List.mem_append.1 hy with hy|hy
   ·exact qt _ _ y hy
   ·exact ih _ y hy
 exact key 8 r
noncomputable def AE(k:IntKind)(zs:List Int):V:=@List.rec Int (fun _=>V) .nil (fun z _ ih=>.cons (.i k z) ih) zs
theorem B2{E:Env}{k:IntKind}:∀{zs:List Int}{vs:List Value},aQ E (AE k zs) vs→vs=zs.map (Value.int k)
 |[],vs,h=>aQ.da.1 h
 |
  z::zs,vs,h=>by
  obtain⟨v,r,rfl,a,b⟩:=aQ.aG.1 (show aQ E (.cons (.i k z) (AE k zs)) vs from h)
  simp only[RV] at a
  rw[a,B2 b];rfl
theorem qv{E:Env}{k:IntKind}:∀(zs:List Int),aQ E (AE k zs) (zs.map (Value.int k))∧(AE k zs).bU=true
 |[]=>⟨aQ.da.2 rfl,rfl⟩
 |
  z::zs=>by
  obtain⟨h1,h2⟩:=qv (E:=E) (k:=k) zs
  refine⟨aQ.aG.2 ⟨_,_,rfl,by simp only[RV],h1⟩,?_⟩
  show(V.one _&&(AE k zs).bU)=true
  rw[h2];rfl
theorem yT{E:Env}{hp:T ak}{w:World}(hG:GL gl hp E w){g:Nat}{k:IntKind}{zs:List Int}(hg:eD gl g=some (.agg (AE k zs))):∀i,i<zs.length→w.cell? ⟨g,i,none⟩=some (.int k (zs.getD i 0)):=by
 intro i hi
 obtain⟨_,l,cs,e,fz,h1,h2,⟨xs,ys,h5,h3⟩,h4⟩:=hG g _ hg
 cases h1
 have hcs:=B2 (h3 E)
 rw[lj h2,←Array.getElem?_toList,h5,hcs,List.getElem?_append_left (by simpa using hi)]
 simp[hi,List.getD_eq_getElem?_getD]
theorem xH{E:Env}{hp:T ak}{w:World}(hG:GL gl hp E w){g n:Nat}{k:IntKind}{zs:List Int}(hg:eD gl g=some (.agg (AE k zs)))(h0:0<zs.length)(hn:zs.length=n)(hr:∀z∈zs,k.min≤z∧z≤k.max):
 (Abs.ei w).S g∧∃cs,Abs.j8 w ⟨g,0,none⟩ cs∧Abs.Rel w (Abs.ei w).S (.arr n (.int k)) cs zs:=
 Abs.zq h0 (yT hG hg) hn hr
theorem gZ{E:Env}{hp:T ak}{w:World}(hG:GL gl hp E w){g:Nat}{k:IntKind}{a b:Int}(hg:eD gl g=some (.agg (AE k [a,b])))(ha:k.min≤a∧a≤k.max)(hb:k.min≤b∧b≤k.max):
 (Abs.ei w).S g∧∃cs,Abs.j8 w ⟨g,0,none⟩ cs∧Abs.Rel w (Abs.ei w).S (.pair (.int k) (.pair (.int k) .unit)) cs (a,b,()):=by
 have hc:=yT hG hg
 obtain⟨_,l,cs,e,fz,h1,h2,_⟩:=hG g _ hg
 refine⟨(Array.getElem?_eq_some_iff.1 h2).1,[.int k a,.int k b],?_,[.int k a],[.int k b],rfl,⟨rfl,ha⟩,[.int k b],[],rfl,⟨rfl,hb⟩,rfl⟩
 intro j v hj
 rw[dP,Nat.zero_add]
 match j,hj with
 |0,hj=>rw[hc 0 (by simp)];simpa using hj
 |1,hj=>rw[hc 1 (by simp)];simpa using hj
 |j+2,hj=>simp at hj
theorem na{w:World}{g:Nat}{xs:List Value}(h0:0<xs.length)(h:Abs.j8 w ⟨g,0,none⟩ xs):∃cs e fz ys,w.heap[g]? =some (.cells cs e fz)∧cs.toList=xs++ys:=by
 have h1:=h 0 xs[0] (by simp[h0])
 rw[dP] at h1
 unfold World.cell? at h1
 split at h1
 ·rename_i cs e fz hh
  refine⟨cs,e,fz,cs.toList.drop xs.length,hh,?_⟩
  have pre:∀(j:Nat)(v:Value),xs[j]? =some v→cs.toList[j]? =some v:=by
   intro j v hj
   have:=h j v hj
   rw[dP,Nat.zero_add,lj hh] at this
   simpa using this
  have hl:xs.length≤cs.toList.length:=by
   rcases Nat.lt_or_ge cs.toList.length xs.length with hlt|hge
   ·have:=pre (xs.length -1) xs[xs.length -1] (by simp)
    have:=(List.getElem?_eq_some_iff.1 this).1
    omega
   ·exact hge
  have:xs=cs.toList.take xs.length:=by
   apply List.ext_getElem?
   intro j
   rw[List.getElem?_take]
   split
   ·rename_i hj
    rw[pre j xs[j] (by simp[hj])]
    simp[hj]
   ·rename_i hj
    exact List.getElem?_eq_none (by omega)
  conv=>lhs;rw[←List.take_append_drop xs.length cs.toList]
  rw[←this]
 ·cases h1
theorem Gu{w:World}{S:Nat→Prop}{g n:Nat}{k:IntKind}{zs:List Int}(h0:0<zs.length)(h:∃cs,Abs.j8 w ⟨g,0,none⟩ cs∧Abs.Rel w S (.arr n (.int k)) cs zs):∃l cs e fz,V.agg (AE k zs)= .agg l∧w.heap[g]? =some (.cells cs e fz)∧(∃xs ys,cs.toList=xs++ys∧∀E,aQ E l xs)∧l.bU=true:=by
 obtain⟨cs,h1,_,h2⟩:=h
 have key:∀(zs:List Int)(cs:List Value),Abs.aH (Abs.Rel w S (.int k)) cs zs→cs=zs.map (Value.int k):=by
  intro zs
  induction zs with
  |nil=>intro cs h;exact h
  |
   cons a d ih=>
   intro cs h
   obtain⟨v1,v2,rfl,⟨h1,_⟩,h2⟩:=h
   rw[h1,ih v2 h2];rfl
 have:=key zs cs h2
 subst this
 obtain⟨c,e,fz,ys,q1,q2⟩:=na (by simpa using h0) h1
 exact⟨_,c,e,fz,rfl,q1,⟨_,ys,q2,fun E=>(qv zs).1⟩,(qv (E:=E0) zs).2⟩
theorem nb{w:World}{S:Nat→Prop}{g:Nat}{k:IntKind}{a b:Int}(h:∃cs,Abs.j8 w ⟨g,0,none⟩ cs∧Abs.Rel w S (.pair (.int k) (.pair (.int k) .unit)) cs (a,b,())):∃l cs e fz,V.agg (AE k [a,b])= .agg l∧w.heap[g]? =some (.cells cs e fz)∧(∃xs ys,cs.toList=xs++ys∧∀E,aQ E l xs)∧l.bU=true:=by
 obtain⟨cs,h1,v1,v2,rfl,⟨h2,_⟩,v3,v4,rfl,⟨h3,_⟩,h4⟩:=h
 have h2:v1= [.int k a]:=h2
 have h3:v3= [.int k b]:=h3
 have h4:v4= []:=h4
 subst h2;subst h3;subst h4
 obtain⟨c,e,fz,ys,q1,q2⟩:=na (by simp) h1
 exact⟨_,c,e,fz,rfl,q1,⟨_,ys,q2,fun E=>(qv [a,b]).1⟩,(qv (E:=E0) [a,b]).2⟩
end
end Go.Cm
namespace Go.Cm
open Go.Abs
theorem nc(n:Nat):IntKind.u32.wrap ((n:Nat):Int)=((n % cH:Nat):Int):=by
 simp only[IntKind.wrap,IntKind.bits,IntKind.signed]
 simp
theorem qw(n:Nat):IntKind.u8.wrap ((n:Nat):Int)=((n % 256:Nat):Int):=by
 simp only[IntKind.wrap,IntKind.bits,IntKind.signed]
 simp
theorem B3(a b:Nat):((a:Nat):Int)+((b:Nat):Int)=((a+b:Nat):Int):=(Int.natCast_add a b).symm
theorem GP{a:Nat}(h:a<cH):(BitVec.ofInt 32 ((a:Nat):Int)).toNat=a:=by
 simp only[BitVec.toNat_ofInt]
 have:((a:Nat):Int) % ((2^32:Nat):Int)=((a % 2^32:Nat):Int):=by rw[←Int.natCast_emod]
 rw[this,Int.toNat_natCast,Nat.mod_eq_of_lt h]
theorem oV{a b:Nat}(ha:a<cH)(hb:b<cH):aC .xor .u32 ((a:Nat):Int) ((b:Nat):Int)=((a ^^^ b:Nat):Int):=by
 show IntKind.u32.wrap (((BitVec.ofInt 32 ((a:Nat):Int) ^^^ BitVec.ofInt 32 ((b:Nat):Int)).toNat:Nat):Int)=_
 rw[BitVec.toNat_xor,GP ha,GP hb,nc,Nat.mod_eq_of_lt (Nat.xor_lt_two_pow (n:=32) ha hb)]
theorem B4{a b:Nat}(ha:a<cH)(hb:b<cH):aC .and .u32 ((a:Nat):Int) ((b:Nat):Int)=((a &&& b:Nat):Int):=by
 show IntKind.u32.wrap (((BitVec.ofInt 32 ((a:Nat):Int) &&& BitVec.ofInt 32 ((b:Nat):Int)).toNat:Nat):Int)=_
 rw[BitVec.toNat_and,GP ha,GP hb,nc,Nat.mod_eq_of_lt (Nat.lt_of_le_of_lt Nat.and_le_left ha)]
theorem LJ{a b:Nat}(ha:a<cH)(hb:b<cH):aC .or .u32 ((a:Nat):Int) ((b:Nat):Int)=((a ||| b:Nat):Int):=by
 show IntKind.u32.wrap (((BitVec.ofInt 32 ((a:Nat):Int) ||| BitVec.ofInt 32 ((b:Nat):Int)).toNat:Nat):Int)=_
 rw[BitVec.toNat_or,GP ha,GP hb,nc,Nat.mod_eq_of_lt (Nat.or_lt_two_pow (n:=32) ha hb)]
theorem oL(a k:Nat):Int.fdiv ((a:Nat):Int) (2^k)=((a >>> k:Nat):Int):=by
 rw[Nat.shiftRight_eq_div_pow,show((2:Int)^k)=((2^k:Nat):Int) by rw[Int.natCast_pow];rfl,Int.fdiv_eq_ediv_of_nonneg _ (Int.natCast_nonneg _),←Int.natCast_ediv]
theorem xI{a:Nat}(h:a<cH)(k:Nat):a >>> k<cH:=Nat.lt_of_le_of_lt (by rw[Nat.shiftRight_eq_div_pow];exact Nat.div_le_self _ _) h
theorem JX{a k:Nat}(ha:a<cH)(h2:k≤31):aC .or .u32 (Int.fdiv ((a:Nat):Int) (2^(min k 32))) (IntKind.u32.wrap (((a:Nat):Int)*2^(min (32 -k) 32)))=((cR a k:Nat):Int):=by
 have e:((a:Nat):Int)*2^(min (32 -k) 32)=((a <<< (32 -k):Nat):Int):=by
  rw[Nat.shiftLeft_eq,Int.natCast_mul,Int.natCast_pow,Nat.min_eq_left (by omega)];rfl
 rw[e,nc,Nat.min_eq_left (by omega),oL,LJ (xI ha k) (Nat.mod_lt _ (by decide))];rfl
theorem l6{a b:Nat}(ha:a<cH)(hb:b<cH):a ^^^ b<cH:=Nat.xor_lt_two_pow (n:=32) ha hb
theorem l8{a b:Nat}(ha:a<cH):a &&& b<cH:=Nat.lt_of_le_of_lt Nat.and_le_left ha
theorem Gv{L:List Nat}{j:Nat}(h:j<L.length):nth (.int .u32) (L.map Int.ofNat) ((j:Nat):Int)=((L.getD j 0:Nat):Int):=by
 rw[aR (t:=.int .u32) (show j<(L.map Int.ofNat).length by simpa using h)]
 simp[h,List.getD_eq_getElem?_getD]
def Wl(ws:List Nat):Nat→List Nat
 |0=>ws
 |n+1=>Wl ws n++[nw ((Wl ws n).getD n 0) ((Wl ws n).getD (n+1) 0) ((Wl ws n).getD (n+9) 0) ((Wl ws n).getD (n+14) 0)]
theorem qx{ws:List Nat}(h:ws.length=16):∀n,(Wl ws n).length=16+n
 |0=>h
 |n+1=>by simp[Wl,qx h n];omega
theorem B5{ws:List Nat}(h:c5 ws):∀n,c5 (Wl ws n)
 |0=>h
 |
  n+1=>by
  intro x hx
  rcases List.mem_append.1 hx with hx|hx
  ·exact B5 h n x hx
  ·have:x=_:=List.mem_singleton.1 hx
   subst this
   exact Nat.mod_lt _ (by decide)
theorem ue{ws:List Nat}(h:ws.length=16)(n t:Nat)(ht:t<16+n):∀m,(Wl ws (n+m)).getD t 0=(Wl ws n).getD t 0
 |0=>rfl
 |
  m+1=>by
  have hl:=qx h (n+m)
  rw[←ue h n t ht m]
  show(Wl ws (n+m)++_).getD t 0=_
  rw[List.getD_eq_getElem?_getD,List.getElem?_append_left (by omega),←List.getD_eq_getElem?_getD]
def Wf(ws:List Nat)(t:Nat):Nat:=(Wl ws t).getD t 0
theorem Im{ws:List Nat}(h:ws.length=16){n t:Nat}(ht:t<16+n):(Wl ws n).getD t 0=Wf ws t:=by
 rcases Nat.le_total t n with hle|hle
 ·obtain⟨m,rfl⟩:∃m,n=t+m:=⟨n -t,by omega⟩
  exact ue h t t (by omega) m
 ·obtain⟨m,rfl⟩:∃m,t=n+m:=⟨t -n,by omega⟩
  exact(ue h n (n+m) ht m).symm
theorem Io{ws:List Nat}(h:ws.length=16)(n:Nat):Af ((Wl ws n).drop n)=(Wl ws (n+1)).drop (n+1):=by
 have hl:=qx h n
 have g:∀i,((Wl ws n).drop n).getD i 0=(Wl ws n).getD (n+i) 0:=by
  intro i
  rw[List.getD_eq_getElem?_getD,List.getElem?_drop,←List.getD_eq_getElem?_getD]
 show((Wl ws n).drop n).drop 1++[nw (((Wl ws n).drop n).getD 0 0) (((Wl ws n).drop n).getD 1 0) (((Wl ws n).drop n).getD 9 0) (((Wl ws n).drop n).getD 14 0)]=(Wl ws n++[nw ((Wl ws n).getD n 0) ((Wl ws n).getD (n+1) 0) ((Wl ws n).getD (n+9) 0) ((Wl ws n).getD (n+14) 0)]).drop (n+1)
 rw[List.drop_drop,g,g,g,g,List.drop_append_of_le_length (by omega)];rfl
def wm:List Nat→S8→(Nat→Nat)→S8
 |[],s,_=>s
 |k::ks,s,f=>wm ks (s.nx k (f 0)) (fun j=>f (j+1))
theorem LK(h x c k w y m:Nat):(((((h+x) % cH+c) % cH+k) % cH+w) % cH+(y+m) % cH) % cH=(h+x+c+(k+w)+(y+m)) % cH:=by simp only[cH];omega
theorem LL(d h x c k w:Nat):(d+((((h+x) % cH+c) % cH+k) % cH+w) % cH) % cH=(d+(h+x+c+(k+w))) % cH:=by simp only[cH];omega
theorem JY(s:S8)(k w:Nat):(s.nx k w).a=(s.h+(cR s.e 6 ^^^ cR s.e 11 ^^^ cR s.e 25)+((s.e &&& s.f) ^^^ ((4294967295 ^^^ s.e) &&& s.g))+(k+w)+((cR s.a 2 ^^^ cR s.a 13 ^^^ cR s.a 22)+((s.a &&& s.b) ^^^ (s.a &&& s.c) ^^^ (s.b &&& s.c)))) % cH:=rfl
theorem JZ(s:S8)(k w:Nat):(s.nx k w).e=(s.d+(s.h+(cR s.e 6 ^^^ cR s.e 11 ^^^ cR s.e 25)+((s.e &&& s.f) ^^^ ((4294967295 ^^^ s.e) &&& s.g))+(k+w))) % cH:=rfl
theorem J0(s:S8)(k w:Nat):(s.nx k w).b=s.a∧(s.nx k w).c=s.b∧(s.nx k w).d=s.c∧(s.nx k w).f=s.e∧(s.nx k w).g=s.f∧(s.nx k w).h=s.g:=⟨rfl,rfl,rfl,rfl,rfl,rfl⟩
theorem Aj(k:Nat)(ks:List Nat)(s:S8)(ws:List Nat)(i:Nat):wm (k::ks) s (fun j=>Wf ws (i+j))=wm ks (s.nx k (Wf ws i)) (fun j=>Wf ws (i+1+j)):=by
 show wm ks (s.nx k (Wf ws (i+0))) (fun j=>Wf ws (i+(j+1)))=_
 congr 1
 funext j
 rw[show i+1+j=i+(j+1) by omega]
theorem yU{ws:List Nat}(h:ws.length=16):∀(ks:List Nat)(s:S8)(n:Nat),ub ks s ((Wl ws n).drop n)=wm ks s (fun j=>Wf ws (n+j))
 |[],s,n=>rfl
 |
  k::ks,s,n=>by
  show ub ks (s.nx k (((Wl ws n).drop n).getD 0 0)) (Af ((Wl ws n).drop n))=wm ks (s.nx k (Wf ws (n+0))) (fun j=>Wf ws (n+(j+1)))
  have e:((Wl ws n).drop n).getD 0 0=Wf ws n:=by
   rw[List.getD_eq_getElem?_getD,List.getElem?_drop,←List.getD_eq_getElem?_getD];rfl
  rw[e,Io h,yU h ks _ (n+1)]
  congr 1
  funext j
  rw[show n+1+j=n+(j+1) from by omega]
theorem sI:∀(n:Nat)(l:List Nat),gi (n+1) l=gi n l++[E9 (l.getD (4*n) 0) (l.getD (4*n+1) 0) (l.getD (4*n+2) 0) (l.getD (4*n+3) 0)]
 |0,l=>rfl
 |
  n+1,l=>by
  have g:∀i,(l.drop 4).getD i 0=l.getD (4+i) 0:=by
   intro i
   rw[List.getD_eq_getElem?_getD,List.getElem?_drop,←List.getD_eq_getElem?_getD]
  rw[show gi (n+1+1) l=E9 (l.getD 0 0) (l.getD 1 0) (l.getD 2 0) (l.getD 3 0)::gi (n+1) (l.drop 4) from rfl,sI n (l.drop 4),g,g,g,g]
  rw[show 4+4*n=4*(n+1) by omega,show 4+(4*n+1)=4*(n+1)+1 by omega,show 4+(4*n+2)=4*(n+1)+2 by omega,show 4+(4*n+3)=4*(n+1)+3 by omega]
  rfl
theorem sJ:∀(n m:Nat)(l:List Nat),4*n≤m→gi n (l.take m)=gi n l
 |0,_,_,_=>rfl
 |
  n+1,m,l,h=>by
  have g:∀i,i<m→(l.take m).getD i 0=l.getD i 0:=by
   intro i hi
   rw[List.getD_eq_getElem?_getD,List.getElem?_take,if_pos hi,←List.getD_eq_getElem?_getD]
  show E9 ((l.take m).getD 0 0) ((l.take m).getD 1 0) ((l.take m).getD 2 0) ((l.take m).getD 3 0)::gi n ((l.take m).drop 4)=E9 (l.getD 0 0) (l.getD 1 0) (l.getD 2 0) (l.getD 3 0)::gi n (l.drop 4)
  rw[g 0 (by omega),g 1 (by omega),g 2 (by omega),g 3 (by omega),List.drop_take,sJ n (m -4) (l.drop 4) (by omega)]
end Go.Cm
